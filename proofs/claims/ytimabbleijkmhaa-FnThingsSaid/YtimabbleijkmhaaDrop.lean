/-
  DropThing, of the program and of the reference: what each call does.
-/
import Derived.Test.YtimabbleijkmhaaThOwn
import Derived.Test.YtimabbleijkmhaaThEq
namespace Go.Proofs.Ytimabbleijkmhaa
open Go.RowKit

/-- The things that have another name. -/
def dropF (nm : ByteArray) (ds : List Th) : List Th := ds.filter fun d => !decide (d.name = nm)
theorem dropF_keep {nm : ByteArray} {l : List Th} {k : Nat} (h : k < l.length) (hn : l[k].name ≠ nm) : dropF nm (l.take (k + 1)) = dropF nm (l.take k) ++ [l[k]] := by
  unfold dropF
  rw [List.take_succ_eq_append_getElem h, List.filter_append]
  simp [hn]
theorem dropF_out {nm : ByteArray} {l : List Th} {k : Nat} (h : k < l.length) (hn : l[k].name = nm) : dropF nm (l.take (k + 1)) = dropF nm (l.take k) := by
  unfold dropF
  rw [List.take_succ_eq_append_getElem h, List.filter_append]
  simp [hn]
theorem dropF_length (nm : ByteArray) (l : List Th) : (dropF nm l).length ≤ l.length := List.length_filter_le _ _

theorem dropF_sum (nm : ByteArray) : ∀ l : List Th, thSum (dropF nm l) ≤ thSum l
  | [] => by simp [dropF, thSum]
  | a :: r => by
    have := dropF_sum nm r
    by_cases h : a.name = nm
    · rw [show dropF nm (a :: r) = dropF nm r from by simp [dropF, h]]
      simp only [thSum]; omega
    · rw [show dropF nm (a :: r) = a :: dropF nm r from by simp [dropF, h]]
      simp only [thSum]; omega
theorem names_small {l : List Th} (h : thSum l ≤ 1048576) : ∀ d, d ∈ l → d.name.size ≤ 9223372036854775807 := by
  intro d hd
  obtain ⟨i, hi, rfl⟩ := List.getElem_of_mem hd
  have := (thSum_get hi).1
  omega

def drPost (nm : ByteArray) (ds : List Th) (w : World) (e : Ending) (w' : World) : Prop :=
  ∃ v, e = .returned v ∧ ThOwn w' w.heap.size w'.heap.size v (dropF nm ds) ∧ Below w.heap.size w w'

set_option maxHeartbeats 1000000 in
set_option maxRecDepth 100000 in
theorem specDropThing_c (v : Value) (ds : List Th) (nm : ByteArray) (fs : List Addr) (w : World) (h1 : rThs w fs v ds) (hsm : ds.length + thSum ds ≤ 1048576) :
    Calls Try.prog 33 #[v, .string nm] w (drPost nm ds w) := by
  obtain ⟨A1, c1, rfl, hc1, hm1, hx⟩ := rThs.open_ h1
  clear h1
  have HX := Lib.hid hx; clear hx
  go_enter Try.func33, Try.ntmps33
  go_wp2
  go_loopw [5, 6] (fun o i wr => ∃ j : Nat, j ≤ ds.length ∧ i = .int .i64 j ∧ ThOwn wr w.heap.size wr.heap.size o (dropF nm (ds.take j)) ∧ Below w.heap.size w wr) (fun _ i _ => ds.length - (intOf i).toNat)
  case atStart => exact ⟨0, by omega, rfl, ThOwn.start _ _ _ _ (World.ownsRow_lit (base := w.heap.size) (e := 55) (size := 3) w #[] 0 (Nat.le_refl _) (Nat.zero_le _) rfl) (by intro k hk; simp [Value.ownBlock] at hk; simp; omega), (Below.refl _ _).alloc (Nat.le_refl _) _⟩
  case round =>
    obtain ⟨j, hj, rfl, hown, hb⟩ := hrel
    by_cases hlt : j < ds.length
    · obtain ⟨ad, A2, c2, fk, e1, b0, hat, hns, hrb, hth, -, -⟩ := HX.out j hlt
      subst e1
      obtain ⟨g0, g1, g2⟩ := hat.below hb b0
      have HRB := Lib.hid (rSl.keep rByte.local_ hrb (Same.of_below hth hb))
      have hbl : ds[j].bytes.length ≤ 1048576 := by have := (thSum_get hlt).2; omega
      have HB := Lib.hid hb; have HO := Lib.hid hown
      clear hat hrb hth hb hown HX
      by_cases hn : ds[j].name = nm
      · have hnn := strNe_f hn
        have HD := Lib.hid (dropF_out hlt hn)
        clear hn
        go_wp2_with fail
        go_roundw
        case rel => exact ⟨j + 1, by omega, by go_num, by rw [HD.out]; exact HO.out, HB.out⟩
        case measure => simp [intOf]; omega
      · have hnn := strNe_t hn
        have HD := Lib.hid (dropF_keep hlt hn)
        clear hn
        go_wp2_with fail
        refine (l13Copy_c ds[j] _ fk wr HRB.out hbl).mono ?_
        rintro e w1 ⟨A3, c3, f3, rfl, hr3, hm3, hb3⟩
        have hown := HO.out.keep hb3
        have hdl := dropF_length nm (ds.take j)
        rw [List.length_take] at hdl
        have hs3 := hb3.size
        have HB1 := Lib.hid (HB.out.trans (hb3.mono HB.out.size))
        have HR3 := Lib.hid hr3; have HM3 := Lib.hid hm3; have HB3 := Lib.hid hb3; have HO3 := Lib.hid hown; have HDL := Lib.hid hdl; have HS3 := Lib.hid hs3
        clear hr3 hm3 hb3 hown hdl hs3
        go_wp2_with (at_builtin; refine wpAppendThing rfl (.tmp 21) (.tmp 27) rfl w.heap.size wr.heap.size _ (dropF nm (ds.take j)) rfl (HO3.out.keep ((Below.refl _ _).alloc HS3.out _)) w1.heap.size ds[j] (.slice A3 ds[j].bytes.length c3) f3 rfl (Blk.new _ _ _) rfl (HR3.out.below ((Below.refl _ _).alloc (Nat.le_refl _) _)) (HM3.out.wrote (Wrote.of_below (fs := []) ((Below.refl _ _).alloc (Nat.le_refl _) _)) (rSl.there rByte.fixed HR3.out)) ?c1 ?c2 HB.out.size ?_)
        case c1 => have := HDL.out; omega
        case c2 => rw [World.size_alloc]; exact Nat.le_succ_of_le HS3.out
        intro v' w2 hown2 hg2 hvb
        have HO2 := Lib.hid hown2
        have HB2 := Lib.hid ((HB1.out.alloc HB1.out.size (.cells #[.string ds[j].name, .bool ds[j].lost, .slice A3 ds[j].bytes.length c3] 55)).grown hg2 (by have := HB1.out.size; simp; omega) (fun k hk => (hvb k hk).1))
        clear hown2 hg2 hvb g0 g1 g2
        go_wp2_with fail
        go_roundw
        case rel => exact ⟨j + 1, by omega, by go_num, by rw [HD.out]; exact HO2.out, HB2.out⟩
        case measure => simp [intOf]; omega
    · have hje : j = ds.length := by omega
      subst hje
      rw [List.take_length] at hown
      have HB := Lib.hid hb; have HO := Lib.hid hown
      clear hb hown HX
      go_wp2_with fail
      go_ret
      exact ⟨_, rfl, HO.out, HB.out⟩

set_option maxHeartbeats 1000000 in
set_option maxRecDepth 100000 in
theorem implDropThing_c (v : Value) (ds : List Th) (nm : ByteArray) (fs : List Addr) (w : World) (h1 : rThs w fs v ds) (hsm : ds.length + thSum ds ≤ 1048576) :
    Calls Try.prog 34 #[v, .string nm] w (drPost nm ds w) := by
  obtain ⟨A1, c1, rfl, hc1, hm1, hx⟩ := rThs.open_ h1
  clear h1
  have HX := Lib.hid hx; clear hx
  go_enter Try.func34, Try.ntmps34
  go_wp2
  go_loopw [5, 11] (fun o i wr => ∃ j : Nat, j ≤ ds.length ∧ i = .int .i64 j ∧ ThOwn wr w.heap.size wr.heap.size o (dropF nm (ds.take j)) ∧ Below w.heap.size w wr) (fun _ i _ => ds.length - (intOf i).toNat)
  case atStart => exact ⟨0, by omega, rfl, ThOwn.start _ _ _ _ (World.ownsRow_lit (base := w.heap.size) (e := 55) (size := 3) w #[] 0 (Nat.le_refl _) (Nat.zero_le _) rfl) (by intro k hk; simp [Value.ownBlock] at hk; simp; omega), (Below.refl _ _).alloc (Nat.le_refl _) _⟩
  case round =>
    obtain ⟨j, hj, rfl, hown, hb⟩ := hrel
    by_cases hlt : j < ds.length
    · obtain ⟨ad, A2, c2, fk, e1, b0, hat, hns, hrb, hth, -, -⟩ := HX.out j hlt
      subst e1
      obtain ⟨g0, g1, g2⟩ := hat.below hb b0
      have HRB := Lib.hid (rSl.keep rByte.local_ hrb (Same.of_below hth hb))
      have hbl : ds[j].bytes.length ≤ 1048576 := by have := (thSum_get hlt).2; omega
      have HB := Lib.hid hb; have HO := Lib.hid hown
      clear hat hrb hth hb hown HX
      by_cases hn : ds[j].name = nm
      · have hnn := strNe_f hn
        have HD := Lib.hid (dropF_out hlt hn)
        clear hn
        go_wp2_with fail
        go_roundw
        case rel =>
          have hba : Below wr.heap.size wr (wr.alloc (.cells #[.string ds[j].name, .bool ds[j].lost, .slice A2 ds[j].bytes.length c2] 55)) := (Below.refl _ _).alloc (Nat.le_refl _) _
          exact ⟨j + 1, by omega, by go_num, by rw [HD.out]; exact (HO.out.keep hba).mono hba.size, HB.out.trans (hba.mono HB.out.size)⟩
        case measure => simp [intOf]; omega
      · have hnn := strNe_t hn
        have HD := Lib.hid (dropF_keep hlt hn)
        clear hn
        go_wp2_with fail
        have hba : Below wr.heap.size wr (wr.alloc (.cells #[.string ds[j].name, .bool ds[j].lost, .slice A2 ds[j].bytes.length c2] 55)) := (Below.refl _ _).alloc (Nat.le_refl _) _
        refine (cloneBytes_c _ ds[j].bytes fk _ (rBytes.below HRB.out hba) hbl).mono ?_
        rintro e w1 ⟨v3, f3, rfl, hr3, hm3, hb3⟩
        obtain ⟨A3, c3, rfl, -⟩ := hr3.form
        have hb4 := hba.trans (hb3.mono hba.size)
        have hk4 := Blk.below (Blk.new wr 55 #[.string ds[j].name, .bool ds[j].lost, .slice A2 ds[j].bytes.length c2]) hb3 (by simp)
        have hown := HO.out.keep hb4
        have hdl := dropF_length nm (ds.take j)
        rw [List.length_take] at hdl
        have hs3 : wr.heap.size < w1.heap.size := hk4.lt
        have HB1 := Lib.hid (HB.out.trans (hb4.mono HB.out.size))
        have HR3 := Lib.hid hr3; have HM3 := Lib.hid hm3; have HO3 := Lib.hid hown; have HDL := Lib.hid hdl; have HS3 := Lib.hid hs3; have HK4 := Lib.hid hk4
        clear hr3 hm3 hb3 hown hdl hb4 hba
        have p0 := Blk.cell hk4 0
        have p1 := Blk.cell hk4 1
        have p2 := Blk.cell hk4 2
        have f0 := Blk.frozen hk4 0
        have f1 := Blk.frozen hk4 1
        have f2 := Blk.frozen hk4 2
        simp at p0 p1 p2
        have hm4 : Mine (wr.heap.size + 1) w1 f3 := by have := HM3.out; rwa [World.size_alloc] at this
        have hB5 : Below wr.heap.size w1 (w1.setCell ⟨wr.heap.size, 2, none⟩ (.slice A3 ds[j].bytes.length c3)) := (Below.refl _ _).mono (Nat.le_of_lt hs3) |>.setCell (Nat.le_refl _) _
        have hr5 : rBytes (w1.setCell ⟨wr.heap.size, 2, none⟩ (.slice A3 ds[j].bytes.length c3)) f3 (.slice A3 ds[j].bytes.length c3) ds[j].bytes := rSl.keep rByte.local_ HR3.out (Same.set_ _ hm4.from_ (Nat.lt_succ_self _) _)
        have hm5 : Mine wr.heap.size (w1.setCell ⟨wr.heap.size, 2, none⟩ (.slice A3 ds[j].bytes.length c3)) f3 := (hm4.mono (Nat.le_succ _)).set_ _ _
        have hs5 : (w1.setCell ⟨wr.heap.size, 2, none⟩ (.slice A3 ds[j].bytes.length c3)).heap.size = w1.heap.size := by simp [World.setCell]
        have HR5 := Lib.hid hr5; have HM5 := Lib.hid hm5; have HB5 := Lib.hid hB5; have HS5 := Lib.hid hs5
        have hba5 : Below (w1.setCell ⟨wr.heap.size, 2, none⟩ (.slice A3 ds[j].bytes.length c3)).heap.size (w1.setCell ⟨wr.heap.size, 2, none⟩ (.slice A3 ds[j].bytes.length c3)) ((w1.setCell ⟨wr.heap.size, 2, none⟩ (.slice A3 ds[j].bytes.length c3)).alloc (.cells #[.string ds[j].name, .bool ds[j].lost, .slice A3 ds[j].bytes.length c3] 55)) := (Below.refl _ _).alloc (Nat.le_refl _) _
        have hk5 := Blk.new (w1.setCell ⟨wr.heap.size, 2, none⟩ (.slice A3 ds[j].bytes.length c3)) 55 #[.string ds[j].name, .bool ds[j].lost, .slice A3 ds[j].bytes.length c3]
        rw [hs5] at hk5
        have HBA5 := Lib.hid hba5; have HK5 := Lib.hid hk5
        clear hk4 g0 g1 g2 hm4 hr5 hm5 hB5 hs5 hba5 hk5
        go_wp2_with (at_builtin; refine wpAppendThing rfl (.tmp 23) (.tmp 25) rfl w.heap.size wr.heap.size _ (dropF nm (ds.take j)) rfl (HO3.out.keep (HB5.out.trans (HBA5.out.mono (by rw [HS5.out]; exact Nat.le_of_lt HS3.out)))) w1.heap.size ds[j] (.slice A3 ds[j].bytes.length c3) f3 rfl HK5.out rfl (HR5.out.below HBA5.out) (HM5.out.wrote (Wrote.of_below (fs := []) HBA5.out) (rSl.there rByte.fixed HR5.out)) ?c1 ?c2 HB.out.size ?_)
        case c1 => have := HDL.out; omega
        case c2 => rw [World.size_alloc, HS5.out]; exact Nat.le_succ_of_le (Nat.le_of_lt HS3.out)
        intro v' w2 hown2 hg2 hvb
        have HO2 := Lib.hid hown2
        have HB2 := Lib.hid ((((HB1.out.setCell (p := ⟨wr.heap.size, 2, none⟩) HB.out.size (.slice A3 ds[j].bytes.length c3))).alloc (by rw [HS5.out]; exact HB1.out.size) (.cells #[.string ds[j].name, .bool ds[j].lost, .slice A3 ds[j].bytes.length c3] 55)).grown hg2 (by rw [World.size_alloc, HS5.out]; exact Nat.le_succ_of_le HB1.out.size) (fun k hk => (hvb k hk).1))
        clear hown2 hg2 hvb
        go_wp2_with fail
        go_roundw
        case rel => exact ⟨j + 1, by omega, by go_num, by rw [HD.out]; exact HO2.out, HB2.out⟩
        case measure => simp [intOf]; omega
    · have hje : j = ds.length := by omega
      subst hje
      rw [List.take_length] at hown
      have HB := Lib.hid hb; have HO := Lib.hid hown
      clear hb hown HX
      go_wp2_with fail
      go_ret
      exact ⟨_, rfl, HO.out, HB.out⟩

end Go.Proofs.Ytimabbleijkmhaa
