/-
  PutThing, of the program and of the reference: what each call does.
-/
import Derived.Test.YtimabbleijkmhaaIns
import Derived.Test.YtimabbleijkmhaaDrop
import Derived.Deep.RegionHeld3
namespace Go.Proofs.Ytimabbleijkmhaa
open Go.RowKit Go.Sort

/-- The order of names. -/
def leN (a b : ByteArray) : Bool := Op.bytesLess a.toList b.toList || a.toList == b.toList
/-- Where a name belongs: ahead of the first one that is greater. -/
def putAt (nm : ByteArray) : List Th → Nat
  | [] => 0
  | d :: r => if leN d.name nm then putAt nm r + 1 else 0
theorem putAt_le (nm : ByteArray) : ∀ ds, putAt nm ds ≤ ds.length
  | [] => Nat.le_refl _
  | d :: r => by
    unfold putAt
    have := putAt_le nm r
    split <;> simp <;> omega
theorem putAt_lt (nm : ByteArray) : ∀ (ds : List Th) (j : Nat), j < putAt nm ds → ∃ h : j < ds.length, leN ds[j].name nm = true
  | [], j, h => by cases h
  | d :: r, j, h => by
    unfold putAt at h
    split at h
    · cases j with
      | zero => exact ⟨by simp, by assumption⟩
      | succ j =>
        obtain ⟨h1, h2⟩ := putAt_lt nm r j (by omega)
        exact ⟨by simpa using h1, h2⟩
    · cases h
theorem putAt_at (nm : ByteArray) : ∀ (ds : List Th) (h : putAt nm ds < ds.length), leN ds[putAt nm ds].name nm = false
  | [], h => by cases h
  | d :: r, h => by
    by_cases e : leN d.name nm = true
    · have e1 : putAt nm (d :: r) = putAt nm r + 1 := by rw [putAt, if_pos e]
      simp only [e1] at h ⊢
      exact putAt_at nm r (by simpa using h)
    · have e1 : putAt nm (d :: r) = 0 := by rw [putAt, if_neg e]
      simp only [e1] at h ⊢
      simpa using e
theorem putAt_uniq {nm : ByteArray} {ds : List Th} {j : Nat} (h1 : ∀ i, (h : i < ds.length) → i < j → leN ds[i].name nm = true) (h2 : j ≤ ds.length) (h3 : ∀ h : j < ds.length, leN ds[j].name nm = false) : j = putAt nm ds := by
  rcases Nat.lt_trichotomy j (putAt nm ds) with h | h | h
  · obtain ⟨q, e⟩ := putAt_lt nm ds j h
    rw [h3 q] at e; cases e
  · exact h
  · have := h1 (putAt nm ds) (by omega) h
    rw [putAt_at nm ds (by omega)] at this; cases this
theorem leN_parts (a b : ByteArray) : (Op.bytesLess a.toList b.toList = true ∧ leN a b = true) ∨ (Op.bytesLess a.toList b.toList = false ∧ (a.toList == b.toList) = true ∧ leN a b = true) ∨ (Op.bytesLess a.toList b.toList = false ∧ (a.toList == b.toList) = false ∧ leN a b = false) := by
  unfold leN
  cases Op.bytesLess a.toList b.toList <;> cases (a.toList == b.toList) <;> simp

set_option maxHeartbeats 1000000 in
theorem putClosure_c (d : Th) (v : Value) (nm : ByteArray) (b : Nat) (w : World) (hv : ∃ A n c, v = .slice A n c) (hb : w.cell? ⟨b, 0, none⟩ = some (.string nm)) (hlt : b < w.heap.size) :
    Calls Try.prog 72 #[.agg #[.string d.name, .bool d.lost, v], .pointer (some ⟨b, 0, none⟩)] w fun e w' => e = .returned (.bool (!leN d.name nm)) ∧ Below w.heap.size w w' := by
  obtain ⟨A, n, c, rfl⟩ := hv
  have B1 : Below w.heap.size w (w.alloc (.cells #[.string d.name, .bool d.lost, .slice A n c] 55)) := (Below.refl _ _).alloc (Nat.le_refl _) _
  have BB := Lib.hid B1; clear B1
  obtain ⟨r, hr⟩ : ∃ r, (!leN d.name nm) = r := ⟨_, rfl⟩
  rw [hr]
  rcases leN_parts d.name nm with ⟨h1, h2⟩ | ⟨h1, h3, h2⟩ | ⟨h1, h3, h2⟩
  all_goals
    rw [h2] at hr
    have HR := Lib.hid hr
    clear hr h2
    go_enter Try.func72, Try.ntmps72
    go_wp2
    go_ret
    exact ⟨by first | exact retBool HR.out | (rw [← HR.out]; rfl) | (rw [← HR.out]; simp), BB.out⟩

def idxI (nm : ByteArray) (ds : List Th) : Int := if putAt nm ds < ds.length then putAt nm ds else -1

set_option maxHeartbeats 1000000 in
set_option maxRecDepth 100000 in
theorem idxFunc_c (v : Value) (ds : List Th) (fs : List Addr) (nm : ByteArray) (b : Nat) (w : World) (h1 : rThs w fs v ds) (hb : w.cell? ⟨b, 0, none⟩ = some (.string nm)) (hlt : b < w.heap.size) :
    Calls Try.prog 71 #[v, .func (.func 72) #[] #[.pointer (some ⟨b, 0, none⟩)]] w fun e w' => e = .returned (.int .i64 (idxI nm ds)) ∧ Below w.heap.size w w' := by
  obtain ⟨A1, c1, rfl, hc1, hm1, hx⟩ := rThs.open_ h1
  clear h1
  have HX := Lib.hid hx; clear hx
  obtain ⟨r, hr⟩ : ∃ r, idxI nm ds = r := ⟨_, rfl⟩
  rw [hr]
  have HR := Lib.hid hr; clear hr
  have HB := Lib.hid hb; clear hb
  go_enter Try.func71, Try.ntmps71
  go_wp2
  go_loopw [4, 5, 8] (fun q _ i wr => ∃ j : Nat, j ≤ ds.length ∧ i = .int .i64 j ∧ q = .int .i64 0 ∧ (∀ k, (h : k < ds.length) → k < j → leN ds[k].name nm = true) ∧ Below w.heap.size w wr) (fun _ _ i _ => ds.length - (intOf i).toNat)
  case atStart => exact ⟨0, by omega, rfl, rfl, (fun _ _ h => by cases h), Below.refl _ _⟩
  case round =>
    obtain ⟨j, hj, rfl, rfl, hall, hbl⟩ := hrel
    have HA := Lib.hid hall; clear hall
    by_cases hlt2 : j < ds.length
    · obtain ⟨ad, A2, c2, fk, e1, b0, hat, hns, hrb, hth, -, -⟩ := HX.out j hlt2
      subst e1
      obtain ⟨g0, g1, g2⟩ := hat.below hbl b0
      have HBL := Lib.hid hbl
      have hbc := (hbl.cell (p := ⟨b, 0, none⟩) hlt).trans HB.out
      have hbs : b < wr.heap.size := Nat.lt_of_lt_of_le hlt hbl.size
      have HBC := Lib.hid hbc
      clear hat hrb hth hbl HX hbc
      go_wp2_with fail
      refine (putClosure_c ds[j] _ nm b wr ⟨_, _, _, rfl⟩ HBC.out hbs).mono ?_
      rintro e w1 ⟨rfl, hb1⟩
      have HB1 := Lib.hid (HBL.out.trans (hb1.mono HBL.out.size))
      clear hb1 g0 g1 g2
      cases hle : leN ds[j].name nm with
      | true =>
        have HLE := Lib.hid hle; clear hle
        go_wp2_with fail
        go_roundw
        case rel =>
          refine ⟨j + 1, by omega, by go_num, rfl, fun k hk hkj => ?_, HB1.out⟩
          rcases Nat.lt_or_ge k j with h | h
          · exact HA.out k hk h
          · obtain rfl : k = j := by omega
            exact HLE.out
        case measure => simp [intOf]; omega
      | false =>
        have e1 : r = (j : Int) := by
          have := putAt_uniq HA.out (Nat.le_of_lt hlt2) (fun _ => hle)
          rw [← HR.out, idxI, ← this, if_pos hlt2]
        subst e1
        clear hle
        go_wp2_with fail
        go_ret
        exact ⟨rfl, HB1.out⟩
    · have hje : j = ds.length := by omega
      have e1 : r = -1 := by
        have := putAt_uniq HA.out (by omega) (fun h => absurd h hlt2)
        rw [← HR.out, idxI, ← this, if_neg hlt2]
      subst e1
      have HBL := Lib.hid hbl
      clear hbl HX
      go_wp2_with fail
      go_ret
      exact ⟨rfl, HBL.out⟩

theorem thCells_zip : ∀ (ds : List Th) (vs : List Value), thCells ds vs = (List.zipWith (fun (d : Th) v => [Value.string d.name, .bool d.lost, v]) ds vs).flatten
  | [], [] => rfl
  | [], _ :: _ => rfl
  | _ :: _, [] => rfl
  | d :: ds, v :: vs => by simp [thCells, thCells_zip ds vs]

theorem ThOwn.own {w : World} {base M : Nat} {v : Value} {ds : List Th} (h : ThOwn w base M v ds) (hn : ∀ d, d ∈ ds → d.name.size ≤ 9223372036854775807) :
    ∃ fs, OwnL 3 55 rTh w base v ds fs ∧ Mine base w fs ∧ (∀ a, a ∈ fs → a.block < M) ∧ (∀ k, v.ownBlock = some k → k < M) := by
  obtain ⟨vs, fss, h1, h2, h3, h4, h5, h6, h7, h8⟩ := h
  refine ⟨fss.flatten, ⟨List.zipWith (fun (d : Th) v => [Value.string d.name, .bool d.lost, v]) ds vs, fss, by simp [h1], h2, rfl, by rw [← thCells_zip]; exact h3, fun i hi => ?_, h8⟩, h5, h6, h7⟩
  obtain ⟨p1, p2, p3⟩ := h4 i hi
  refine ⟨by simp [h1, hi], p2, by simp, ?_⟩
  rw [List.getElem_zipWith]
  exact ⟨_, rfl, hn _ (List.getElem_mem hi), p3⟩

/-- What is put. -/
def putL (nm : ByteArray) (bs : List UInt8) (ds : List Th) : List Th := (dropF nm ds).take (putAt nm (dropF nm ds)) ++ ⟨nm, false, bs⟩ :: (dropF nm ds).drop (putAt nm (dropF nm ds))
def putPost (nm : ByteArray) (bs : List UInt8) (ds : List Th) (w : World) (e : Ending) (w' : World) : Prop :=
  ∃ v fs, e = .returned v ∧ rThs w' fs v (putL nm bs ds) ∧ Mine w.heap.size w' fs ∧ Below w.heap.size w w'
set_option maxHeartbeats 1000000 in
set_option maxRecDepth 100000 in
theorem implPutThing_c (v : Value) (ds : List Th) (nm : ByteArray) (v2 : Value) (bs : List UInt8) (fs f2 : List Addr) (w : World) (h1 : rThs w fs v ds) (h2 : rBytes w f2 v2 bs) (hsm : ds.length + thSum ds ≤ 1048576) (hbs : bs.length ≤ 1048576) (hnm : nm.size ≤ 1048576) :
    Calls Try.prog 38 #[v, .string nm, v2] w (putPost nm bs ds w) := by
  have H1 := Lib.hid h1; have H2 := Lib.hid h2
  obtain ⟨A1, c1, rfl, hc1, hm1, hx⟩ := rThs.open_ h1
  obtain ⟨A2, c2, rfl, -⟩ := h2.form
  clear h1 h2 hx
  have B0 := Lib.hid (show Below w.heap.size w (w.alloc (.cells #[.string nm] 9)) from (Below.refl _ _).alloc (Nat.le_refl _) _)
  have K0 := Lib.hid (Blk.new w 9 #[.string nm])
  go_enter Try.func38, Try.ntmps38
  go_wp2_with fail
  refine (implDropThing_c _ ds nm fs _ (rThs.below H1.out B0.out) hsm).mono ?_
  rintro e w1 ⟨v3, rfl, hown, hb1⟩
  rw [World.size_alloc] at hown hb1
  have K1 := Lib.hid (K0.out.below hb1 (by simp))
  have B1 := Lib.hid (B0.out.trans (hb1.mono (Nat.le_succ _)))
  obtain ⟨fo, hO, hMn, hfM, hvM⟩ := hown.own (fun d hd => names_small (show thSum ds ≤ 1048576 by omega) d (List.mem_filter.1 hd).1)
  obtain ⟨gs, hrd, -⟩ := hO.reads
  have hDl : (dropF nm ds).length ≤ 1048576 := by have := dropF_length nm ds; omega
  obtain ⟨A3, c3, rfl, hc3, hm3⟩ := hO.length
  have HO := Lib.hid hO; have HM := Lib.hid hMn; have HFM := Lib.hid hfM; have HVM := Lib.hid hvM; have HRD := Lib.hid hrd
  have p0 := Blk.cell K1.out 0
  have f0 := Blk.frozen K1.out 0
  have z0 := K1.out.lt
  simp at p0
  clear hO hMn hfM hvM hrd hb1 hown
  have hal := putAt_le nm (dropF nm ds)
  generalize hD : dropF nm ds = D at *
  have HD := Lib.hid hD; clear hD
  go_wp2_with fail
  refine (idxFunc_c _ D _ nm w.heap.size w1 HRD.out p0 z0).mono ?_
  rintro e w2 ⟨rfl, hb2⟩
  obtain ⟨q, hq, hqi⟩ : ∃ q : Int, idxI nm D = q ∧ ((q < 0 ∧ putAt nm D = D.length) ∨ (¬ q < 0 ∧ q = putAt nm D)) := by
    refine ⟨_, rfl, ?_⟩
    unfold idxI
    by_cases h : putAt nm D < D.length
    · rw [if_pos h]; exact .inr ⟨by omega, rfl⟩
    · rw [if_neg h]; exact .inl ⟨by omega, by omega⟩
  rw [hq]
  have HQI := Lib.hid hqi
  have hb2' := hb2
  have B2 := Lib.hid (B1.out.trans (hb2.mono B1.out.size))
  have HO2 := Lib.hid (HO.out.below rTh.local_ rTh.fixed hb2)
  have TF := Lib.hid (HO.out.there rTh.fixed)
  have HM2 := Lib.hid (HM.out.wrote (Wrote.of_below (fs := []) hb2) TF.out)
  have K2 := Lib.hid (K1.out.below hb2 z0)
  have S2 := Lib.hid hb2.size
  clear p0 f0 z0 hb2 hb2' HRD HO HM
  have p0 := Blk.cell K2.out 0
  have f0 := Blk.frozen K2.out 0
  have z0 := K2.out.lt
  simp at p0
  have hR2 := Lib.hid (H2.out.below B2.out)
  have HFIN : ∀ (i : Nat) (w3 : World) (A4 : Option Addr) (c4 : Nat) (f4 : List Addr), i = putAt nm D → rBytes w3 f4 (.slice A4 bs.length c4) bs → Mine w2.heap.size w3 f4 → Below w2.heap.size w2 w3 →
      Calls Try.prog 73 #[.slice A3 D.length c3, .int .i64 i, .slice (some ⟨w3.heap.size, 0, none⟩) 1 1] (w3.alloc (.cells #[.string nm, .bool false, .slice A4 bs.length c4] 55)) (fun e w' => putPost nm bs ds w e w' ∧ w'.cell? ⟨w.heap.size, 0, none⟩ = some (.string nm)) := by
    intro i w3 A4 c4 f4 hi hr4 hm4 hb4
    have hba : Below w3.heap.size w3 (w3.alloc (.cells #[.string nm, .bool false, .slice A4 bs.length c4] 55)) := (Below.refl _ _).alloc (Nat.le_refl _) _
    have hO4 := HO2.out.below rTh.local_ rTh.fixed (hb4.trans (hba.mono hb4.size))
    have ht4 := rSl.there rByte.fixed hr4
    refine (insert_c (w.heap.size + 1) w2.heap.size _ i D fo f4 w3.heap.size ⟨nm, false, bs⟩ (.slice A4 bs.length c4) _ hO4 (by omega) (Blk.new _ _ _) rfl ⟨_, rfl, by simp only; omega, rBytes.below hr4 hba⟩ (fun k hk => Nat.lt_of_lt_of_le (HVM.out k hk) S2.out) hm4.from_ hb4.size (by omega) (by have := B2.out.size; have := hb4.size; simp; have := B1.out.size; have := K2.out.lt; omega)).mono ?_
    rintro e w5 ⟨v', fs', rfl, q1, q2, q3, q4⟩
    have hm5 : Mine (w.heap.size + 1) w5 fs' := by
      have m1 := (HM2.out.wrote (Wrote.of_below (fs := []) hb4) (HO2.out.there rTh.fixed))
      have m2 := m1.wrote (Wrote.of_below (fs := []) hba) ((HO2.out.below rTh.local_ rTh.fixed hb4).there rTh.fixed)
      have m3 := hm4.wrote (Wrote.of_below (fs := []) hba) ht4
      have hlt4 : ∀ a, a ∈ f4 → a.block < (w3.alloc (.cells #[.string nm, .bool false, .slice A4 bs.length c4] 55)).heap.size := fun a ha => by have := ht4 a ha; simp; omega
      have hlto : ∀ a, a ∈ fo → a.block < (w3.alloc (.cells #[.string nm, .bool false, .slice A4 bs.length c4] 55)).heap.size := hO4.there rTh.fixed
      have hno : ∀ a, a ∈ fo ++ f4 → (Value.slice A3 D.length c3).ownBlock ≠ some a.block := by
        intro a ha
        rcases List.mem_append.1 ha with ha | ha
        · exact hO4.far a ha
        · intro e
          have := HVM.out _ e
          have := hm4.from_ a ha
          have := S2.out
          omega
      refine ⟨(q2.nodup_iff).2 ?_, fun a ha => ?_, fun a ha => ?_⟩
      · unfold List.Nodup
        refine List.pairwise_append.2 ⟨m2.nodup, m3.nodup, fun a ha b hb e => ?_⟩
        subst e
        have := TF.out a ha
        have := hm4.from_ a hb
        have := S2.out
        omega
      · rcases List.mem_append.1 (q2.mem_iff.1 ha) with ha | ha
        · exact m2.from_ a ha
        · have := hm4.from_ a ha
          have := B2.out.size
          have := K2.out.lt
          omega
      · have ha2 := q2.mem_iff.1 ha
        have hlt : a.block < (w3.alloc (.cells #[.string nm, .bool false, .slice A4 bs.length c4] 55)).heap.size := by
          rcases List.mem_append.1 ha2 with h | h
          · exact hlto a h
          · exact hlt4 a h
        rw [q3.frozen_far a hlt (fun e => hno a ha2 e.symm)]
        rcases List.mem_append.1 ha2 with h | h
        · exact m2.free a h
        · exact m3.free a h
    obtain ⟨gs, r1, r2⟩ := q1.readsMine hm5
    refine ⟨⟨v', gs, rfl, ?_, r2.mono (Nat.le_succ _), ?_⟩, ?_⟩
    · have e1 : putL nm bs ds = D.take (putAt nm D) ++ ⟨nm, false, bs⟩ :: D.drop (putAt nm D) := by unfold putL; rw [HD.out]
      rw [e1, ← hi]
      exact r1
    · have h0 : Below w.heap.size w (w3.alloc (.cells #[.string nm, .bool false, .slice A4 bs.length c4] 55)) := (B2.out.trans (hb4.mono B2.out.size)).trans (hba.mono (Nat.le_trans B2.out.size hb4.size))
      exact h0.grown q3 h0.size (fun k hk => by have := (hO4.lt k hk).1; omega)
    · have k4 := (K2.out.below hb4 z0).alloc (.cells #[.string nm, .bool false, .slice A4 bs.length c4] 55)
      exact ((k4.grown q3 (fun e => by have := (hO4.lt _ e.symm).1; omega)).cell 0).trans rfl
  have HF := Lib.hid HFIN
  clear HFIN
  have H0 := Lib.hid hq; have HI := Lib.hid hqi
  clear hq hqi
  have hR3 := Lib.hid (show rBytes w2.drew f2 (.slice A2 bs.length c2) bs from rSl.keep rByte.local_ hR2.out (fun _ _ => rfl))
  rcases HI.out with ⟨hneg, hat⟩ | ⟨hpos, hat⟩
  · have HAT := Lib.hid hat.symm; clear hat HQI
    go_wp2_with fail
    go_region_held3 (fun w' => w'.cell? ⟨w.heap.size, 0, none⟩ = some (.string nm)) (first | go_keep | (exact (hb4.cell (p := ⟨w.heap.size, 0, none⟩) (by assumption)).trans p0) | exact q2) (first | (go_at_call 67; refine (cloneBytes_c _ bs f2 w2.drew hR3.out hbs).mono ?_; rintro e w3 ⟨v4, f4, rfl, hr4, hm4, hb4⟩; obtain ⟨A4, c4, rfl, -⟩ := hr4.form) | (go_at_call 73; refine (HF.out D.length w3 A4 c4 f4 HAT.out hr4 hm4 (undrew hb4)).mono ?_; rintro e w5 ⟨⟨v', f5, rfl, q1⟩, q2⟩))
    go_wp2_with fail
    go_ret
    exact ⟨v', f5, rfl, q1⟩
  · subst hat
    have hpp : ¬ ((putAt nm D : Nat) : Int) < 0 := by omega
    clear HQI hpos H0 HI
    go_wp2_with fail
    go_region_held3 (fun w' => w'.cell? ⟨w.heap.size, 0, none⟩ = some (.string nm)) (first | go_keep | (exact (hb4.cell (p := ⟨w.heap.size, 0, none⟩) (by assumption)).trans p0) | exact q2) (first | (go_at_call 67; refine (cloneBytes_c _ bs f2 w2.drew hR3.out hbs).mono ?_; rintro e w3 ⟨v4, f4, rfl, hr4, hm4, hb4⟩; obtain ⟨A4, c4, rfl, -⟩ := hr4.form) | (go_at_call 73; refine (HF.out _ w3 A4 c4 f4 rfl hr4 hm4 (undrew hb4)).mono ?_; rintro e w5 ⟨⟨v', f5, rfl, q1⟩, q2⟩))
    go_wp2_with fail
    go_ret
    exact ⟨v', f5, rfl, q1⟩

end Go.Proofs.Ytimabbleijkmhaa
