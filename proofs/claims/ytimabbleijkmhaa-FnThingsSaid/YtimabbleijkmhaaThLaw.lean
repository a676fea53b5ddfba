/-
  FnThings: for every code the law answers true.
-/
import Derived.Test.YtimabbleijkmhaaThDraw
import Derived.Test.YtimabbleijkmhaaHexes
import Derived.Test.YtimabbleijkmhaaThSame2
namespace Go.Proofs.Ytimabbleijkmhaa
open Go.RowKit Go.Sort

def cntN (nm : ByteArray) (l : List Th) : Nat := (l.filter fun d => decide (d.name = nm)).length
theorem cntN_yes {nm : ByteArray} {l : List Th} {k : Nat} (h : k < l.length) (hn : l[k].name = nm) : cntN nm (l.take (k + 1)) = cntN nm (l.take k) + 1 := by
  unfold cntN
  rw [List.take_succ_eq_append_getElem h, List.filter_append]
  simp [hn]
theorem cntN_no {nm : ByteArray} {l : List Th} {k : Nat} (h : k < l.length) (hn : l[k].name ≠ nm) : cntN nm (l.take (k + 1)) = cntN nm (l.take k) := by
  unfold cntN
  rw [List.take_succ_eq_append_getElem h, List.filter_append]
  simp [hn]
theorem cntN_drop (nm : ByteArray) (ds : List Th) : ∀ l : List Th, (∀ d, d ∈ l → d ∈ dropF nm ds) → cntN nm l = 0 := by
  intro l h
  unfold cntN
  rw [List.length_eq_zero_iff, List.filter_eq_nil_iff]
  intro d hd
  have := (List.mem_filter.1 (h d hd)).2
  simpa using this
theorem cntN_putL (nm : ByteArray) (bs : List UInt8) (ds : List Th) : cntN nm (putL nm bs ds) = 1 := by
  have h1 := cntN_drop nm ds ((dropF nm ds).take (putAt nm (dropF nm ds))) (fun d hd => List.mem_of_mem_take hd)
  have h2 := cntN_drop nm ds ((dropF nm ds).drop (putAt nm (dropF nm ds))) (fun d hd => List.mem_of_mem_drop hd)
  unfold cntN at h1 h2 ⊢
  unfold putL
  rw [List.filter_append, List.filter_cons, List.length_append, h1]
  simp [h2]
theorem putL_named {nm : ByteArray} {bs : List UInt8} {ds : List Th} {d : Th} (h : d ∈ putL nm bs ds) (hn : d.name = nm) : d = ⟨nm, false, bs⟩ := by
  unfold putL at h
  have key : d ∈ dropF nm ds → False := fun hd => by
    have := (List.mem_filter.1 hd).2
    simp [hn] at this
  rcases List.mem_append.1 h with h | h
  · exact (key (List.mem_of_mem_take h)).elim
  · rcases List.mem_cons.1 h with h | h
    · exact h
    · exact (key (List.mem_of_mem_drop h)).elim
theorem dropF_idem (nm : ByteArray) (ds : List Th) : ∀ l : List Th, (∀ d, d ∈ l → d ∈ dropF nm ds) → dropF nm l = l := by
  intro l h
  unfold dropF
  rw [List.filter_eq_self]
  intro d hd
  exact (List.mem_filter.1 (h d hd)).2
theorem dropF_putL (nm : ByteArray) (bs : List UInt8) (ds : List Th) : dropF nm (putL nm bs ds) = dropF nm ds := by
  have h1 := dropF_idem nm ds ((dropF nm ds).take (putAt nm (dropF nm ds))) (fun d hd => List.mem_of_mem_take hd)
  have h2 := dropF_idem nm ds ((dropF nm ds).drop (putAt nm (dropF nm ds))) (fun d hd => List.mem_of_mem_drop hd)
  have e : dropF nm (putL nm bs ds) = dropF nm ((dropF nm ds).take (putAt nm (dropF nm ds))) ++ dropF nm ((dropF nm ds).drop (putAt nm (dropF nm ds))) := by
    unfold putL
    conv => lhs; unfold dropF
    rw [List.filter_append, List.filter_cons]
    simp [dropF]
  rw [e, h1, h2, List.take_append_drop]
theorem putL_length (nm : ByteArray) (bs : List UInt8) (ds : List Th) : (putL nm bs ds).length = (dropF nm ds).length + 1 := by
  have := putAt_le nm (dropF nm ds)
  unfold putL
  simp
  omega

theorem drRead {nm : ByteArray} {ds : List Th} {w w' : World} {e : Ending} (h : drPost nm ds w e w') (hs : thSum ds ≤ 1048576) :
    ∃ v fs, e = .returned v ∧ rThs w' fs v (dropF nm ds) ∧ Below w.heap.size w w' := by
  obtain ⟨v, rfl, h1, h2⟩ := h
  obtain ⟨fs, h3, -⟩ := h1.reads (names_small (Nat.le_trans (dropF_sum nm ds) hs))
  exact ⟨v, fs, rfl, h3, h2⟩

set_option maxHeartbeats 4000000 in
set_option maxRecDepth 100000 in
theorem lawThings_c (v : Value) (code : List UInt8) (fs : List Addr) (w : World) (h1 : rBytes w fs v code) :
    Calls Try.prog 9 #[v] w fun e w' => e = .returned (.bool true) ∧ Below w.heap.size w w' := by
  have H1 := Lib.hid h1
  obtain ⟨A1, c1, rfl, -⟩ := h1.form
  clear h1
  by_cases hbig : 1048576 < code.length
  · have hd : decide (1048576 < code.length) = true := decide_eq_true hbig
    go_enter Try.func9, Try.ntmps9
    go_wp2_with fail
    refine (lwBig_c _ code fs w H1.out).mono ?_
    rintro e w' ⟨rfl, rfl⟩
    rw [hd]
    go_wp2_with fail
    go_ret
    exact ⟨rfl, Below.refl _ _⟩
  have hd : decide (1048576 < code.length) = false := decide_eq_false hbig
  have hc : code.length ≤ 1048576 := by omega
  go_enter Try.func9, Try.ntmps9
  go_wp2_with fail
  refine (lwBig_c _ code fs w H1.out).mono ?_
  rintro e w' ⟨rfl, rfl⟩
  rw [hd]
  clear hd hbig
  go_wp2_with fail
  refine (drawPut_c _ code fs w H1.out hc).mono ?_
  rintro e w1 ⟨v1, f1, ds, nm, v2, f2, bs, rfl, hr1, hsm, hnm, hr2, hbl, hb1⟩
  have R1 := Lib.hid hr1; have R2 := Lib.hid hr2; have B1 := Lib.hid hb1
  obtain ⟨A2, c2, rfl, -⟩ := rThs.open_ hr1
  obtain ⟨A3, c3, rfl, -⟩ := hr2.form
  clear hr1 hr2 hb1
  go_wp2_with fail
  refine (implPutThing_c _ ds nm _ bs f1 f2 w1 R1.out R2.out (by omega) (by omega) (by omega)).mono ?_
  rintro e w2 ⟨v4, f4, rfl, hr4, -, hb2⟩
  have hps := putL_small nm bs ds
  have hall := Lib.hid (fun (i : Nat) (h : i < (putL nm bs ds).length) (hn : (putL nm bs ds)[i].name = nm) => putL_named (List.getElem_mem h) hn)
  have hcnt := Lib.hid (cntN_putL nm bs ds)
  have hdf := Lib.hid (dropF_putL nm bs ds)
  have hpl := Lib.hid (putL_length nm bs ds)
  have R1 := Lib.hid (rThs.below R1.out hb2); have R2 := Lib.hid (rBytes.below R2.out hb2)
  have R4 := Lib.hid hr4; have B2 := Lib.hid (B1.out.trans (hb2.mono B1.out.size))
  clear hb2
  have hpm : (putL nm bs ds).length + thSum (putL nm bs ds) ≤ 2000 := by omega
  clear hps
  generalize putL nm bs ds = P at *
  obtain ⟨A4, c4, rfl, hc4, hm4, hx⟩ := rThs.open_ hr4
  have HX := Lib.hid hx
  clear hr4 hx
  have hP : P.length ≤ 2000 := by omega
  have HPM := Lib.hid hpm
  clear hpm
  go_wp2
  go_loopw [2, 7, 8] (fun r n i wr => ∃ (j c : Nat), j ≤ P.length ∧ i = .int .i64 j ∧ n = .int .i64 c ∧ c = cntN nm (P.take j) ∧ c ≤ j ∧ r = .bool false ∧ Below w2.heap.size w2 wr) (fun _ _ i _ => P.length - (intOf i).toNat)
  case atStart => exact ⟨0, 0, by omega, rfl, rfl, rfl, by omega, rfl, Below.refl _ _⟩
  case round =>
    obtain ⟨j, c, hj, rfl, rfl, hcj, hcl, rfl, hb⟩ := hrel
    have HC := Lib.hid hcj; clear hcj
    by_cases hlt : j < P.length
    · obtain ⟨ad, A5, c5, fk, e1, b0, hat, hns, hrb, hth, -, -⟩ := HX.out j hlt
      subst e1
      obtain ⟨g0, g1, g2⟩ := hat.below hb b0
      have HRB := Lib.hid (rSl.keep rByte.local_ hrb (Same.of_below hth hb))
      have HB := Lib.hid hb
      clear hat hrb hth hb HX
      by_cases hn : P[j].name = nm
      · have hst := cntN_yes hlt hn
        rw [← HC.out] at hst
        have HST := Lib.hid hst
        have hd := hall.out j hlt hn
        have hnn := strEq_t hn
        have hl : P[j].lost = false := by rw [hd]
        have hbb : P[j].bytes = bs := by rw [hd]
        rw [hl] at g1
        rw [hbb] at g2 HRB
        clear hst hd hn hl hbb
        go_wp2_with fail
        refine (lwBytes_c _ _ bs bs fk f2 wr HRB.out (rBytes.below R2.out HB.out)).mono ?_
        rintro e w3 ⟨rfl, hb3⟩
        rw [decide_eq_true rfl]
        have HB3 := Lib.hid (HB.out.trans (hb3.mono HB.out.size))
        clear hb3
        go_wp2_with fail
        go_roundw
        case rel => exact ⟨j + 1, c + 1, by omega, by go_num, by go_num, HST.out.symm, by omega, rfl, HB3.out⟩
        case measure => simp [intOf]; omega
      · have hst := cntN_no hlt hn
        rw [← HC.out] at hst
        have HST := Lib.hid hst
        have hnn := strEq_f hn
        clear hst hn
        go_wp2_with fail
        go_roundw
        case rel => exact ⟨j + 1, c, by omega, by go_num, rfl, HST.out.symm, by omega, rfl, HB.out⟩
        case measure => simp [intOf]; omega
    · have hje : j = P.length := by omega
      have hc1 : c = 1 := by rw [HC.out, hje, List.take_length, hcnt.out]
      subst hc1
      have HB := Lib.hid hb
      clear hb HX hje HC
      go_wp2_with fail
      refine (implDropThing_c _ P nm f4 wr (rThs.below R4.out HB.out) (by have := HPM.out; omega)).mono ?_
      intro e w3 hp
      obtain ⟨v5, f5, rfl, hr5, hb3⟩ := drRead hp (by have := HPM.out; omega)
      rw [hdf.out] at hr5
      obtain ⟨A5, c5, rfl, -⟩ := rThs.open_ hr5
      have R5 := Lib.hid hr5
      have HB3 := Lib.hid (HB.out.trans (hb3.mono HB.out.size))
      have HD1 := dropF_length nm ds
      have hlen : (((dropF nm ds).length : Nat) : Int) = ((P.length : Nat) : Int) - 1 := by have := hpl.out; omega
      have hleq : ((((dropF nm ds).length : Nat) : Int) == ((P.length : Nat) : Int) - 1) = true := by rw [hlen]; simp
      clear hp hr5 hb3 HB hlen
      go_wp2_with fail
      refine (implDropThing_c _ ds nm f1 w3 (rThs.below R1.out HB3.out) (by omega)).mono ?_
      intro e w4 hp
      obtain ⟨v6, f6, rfl, hr6, hb4⟩ := drRead hp (by omega)
      obtain ⟨A6, c6, rfl, -⟩ := rThs.open_ hr6
      have R6 := Lib.hid hr6
      have R5 := Lib.hid (rThs.below R5.out hb4)
      have HB4 := Lib.hid (HB3.out.trans (hb4.mono HB3.out.size))
      clear hp hr6 hb4 HB3
      go_wp2_with fail
      refine (implSameThings_c _ _ (dropF nm ds) (dropF nm ds) f5 f6 w4 R5.out R6.out).mono ?_
      rintro e w5 ⟨rfl, hb5⟩
      rw [decide_eq_true rfl]
      have HB5 := Lib.hid (HB4.out.trans (hb5.mono HB4.out.size))
      clear hb5 HB4
      go_wp2_with fail
      refine (implSameThings_c _ _ P P f4 f4 w5 (rThs.below R4.out HB5.out) (rThs.below R4.out HB5.out)).mono ?_
      rintro e w6 ⟨rfl, hb6⟩
      rw [decide_eq_true rfl]
      have HB6 := Lib.hid (B2.out.trans ((HB5.out.trans (hb6.mono HB5.out.size)).mono B2.out.size))
      clear hb6 HB5
      go_wp2_with fail
      go_ret
      exact ⟨rfl, HB6.out⟩

end Go.Proofs.Ytimabbleijkmhaa
