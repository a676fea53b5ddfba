/-
  FnExactDropThing: for every list of things and every name the law answers true.
-/
import Derived.Test.YtimabbleijkmhaaDrop
import Derived.Test.YtimabbleijkmhaaThMark
namespace Go.Proofs.Ytimabbleijkmhaa
open Go.RowKit

theorem dropF_sum (nm : ByteArray) : ∀ l : List Th, thSum (dropF nm l) ≤ thSum l
  | [] => by simp [dropF, thSum]
  | a :: r => by
    have := dropF_sum nm r
    by_cases h : a.name = nm
    · rw [show dropF nm (a :: r) = dropF nm r from by simp [dropF, h]]
      simp only [thSum]; omega
    · rw [show dropF nm (a :: r) = a :: dropF nm r from by simp [dropF, h]]
      simp only [thSum]; omega
theorem names_small {l : List Th} (h : thSum l ≤ 1048576) : ∀ d, d ∈ l → d.name.size ≤ 9223372036854775807 := by
  intro d hd
  obtain ⟨i, hi, rfl⟩ := List.getElem_of_mem hd
  have := (thSum_get hi).1
  omega

/-- DropThing's result, as a reading. -/
theorem drPost.reads {nm : ByteArray} {ds : List Th} {w w' : World} {e : Ending} (h : drPost nm ds w e w') (hs : thSum ds ≤ 1048576) :
    ∃ v fs, e = .returned v ∧ rThs w' fs v (dropF nm ds) ∧ Mine w.heap.size w' fs ∧ Below w.heap.size w w' := by
  obtain ⟨v, rfl, h1, h2⟩ := h
  obtain ⟨fs, h3, h4⟩ := h1.reads (names_small (Nat.le_trans (dropF_sum nm ds) hs))
  exact ⟨v, fs, rfl, h3, h4, h2⟩

theorem rThs.wrote {w w' : World} {fs gs : List Addr} {v : Value} {ds : List Th} (h : rThs w fs v ds) (hw : Wrote gs w w') (hd : ∀ a, a ∈ fs → a ∉ gs) : rThs w' fs v ds := rSl.keep rTh.local_ h (hw.same (rSl.there rTh.fixed h) hd)

set_option maxHeartbeats 2000000 in
theorem lawDropThing_c (v1 : Value) (ds : List Th) (nm : ByteArray) (f1 : List Addr) (w : World) (h1 : rThs w f1 v1 ds) :
    Calls Try.prog 8 #[v1, .string nm] w fun e w' => e = .returned (.bool true) ∧ Below w.heap.size w w' := by
  have H1 := Lib.hid h1
  obtain ⟨A1, c1, rfl, -⟩ := rThs.open_ h1
  clear h1
  by_cases hbig : 1048576 < nm.size
  · go_enter Try.func8, Try.ntmps8
    go_wp2_with fail
    go_ret
    exact ⟨rfl, Below.refl _ _⟩
  go_enter Try.func8, Try.ntmps8
  go_wp2_with fail
  refine (szThingS_c _ ds f1 w 1048576 H1.out (by omega) (by omega)).mono ?_
  rintro e w1 ⟨rfl, hb1⟩
  have B1 := Lib.hid hb1
  clear hb1
  by_cases hx : (1048576 : Int) < ((ds.length + thSum ds : Nat) : Int)
  · rw [szTh_t hx]
    clear hx
    go_wp2_with fail
    go_ret
    exact ⟨rfl, B1.out⟩
  rw [szTh_f hx]
  have hx1 : ¬ (1048576 : Int) - ((ds.length + thSum ds : Nat) : Int) < 0 := by omega
  have HSX := Lib.hid (show ds.length + thSum ds ≤ 1048576 by omega)
  have HS2 := Lib.hid (show thSum ds ≤ 1048576 by omega)
  obtain ⟨L, hL⟩ : ∃ L : Int, (1048576 : Int) - ((ds.length + thSum ds : Nat) : Int) = L := ⟨_, rfl⟩
  rw [hL] at hx1 ⊢
  clear hx hL
  have hdn : (dropF nm ds).length + thSum (dropF nm ds) ≤ 1048576 := by have := dropF_length nm ds; have := dropF_sum nm ds; have := HSX.out; omega
  have hS := Lib.hid (fun v fs w h => specDropThing_c v ds nm fs w h HSX.out)
  have hI := Lib.hid (fun v fs w h => implDropThing_c v ds nm fs w h HSX.out)
  have hmn : markN ds ≤ 4000000 := by have := markN_le ds; have := HSX.out; omega
  have hmn2 : markN (dropF nm ds) ≤ 4000000 := by have := markN_le (dropF nm ds); omega
  have HDN := Lib.hid hdn; clear hdn
  have HRD := Lib.hid (fun (e : Ending) (u u' : World) (h : drPost nm ds u e u') => h.reads HS2.out)
  generalize dropF nm ds = D at *
  go_wp2_with fail
  refine (toThingS_c' _ ds f1 w1 (rThs.below H1.out B1.out) HSX.out).mono ?_
  rintro e w2 ⟨x1, g1, rfl, hr1, -, hb2⟩
  have R1 := Lib.hid hr1
  have B2 := Lib.hid (B1.out.trans (hb2.mono B1.out.size))
  clear hr1 hb2
  go_wp2_with fail
  refine (hS.out _ g1 w2 R1.out).mono ?_
  intro e w3 hpost
  obtain ⟨vw, f0, rfl, hr0, hm0, hb3⟩ := HRD.out _ _ _ hpost
  have R0 := Lib.hid hr0
  have B3 := Lib.hid (B2.out.trans (hb3.mono B2.out.size))
  have T0 := Lib.hid (rSl.there rTh.fixed hr0)
  clear hr0 hm0 hb3 hpost
  go_wp2_with fail
  refine (toThingS_c' _ ds f1 w3 (rThs.below H1.out B3.out) HSX.out).mono ?_
  rintro e w4 ⟨xv, fx, rfl, hrx, hmx, hb4⟩
  have RX := Lib.hid hrx; have MX := Lib.hid hmx
  have TX := Lib.hid (rSl.there rTh.fixed hrx)
  have R0 := Lib.hid (rThs.below R0.out hb4)
  have B4 := Lib.hid (B3.out.trans (hb4.mono B3.out.size))
  have S4 := Lib.hid hb4.size
  clear hrx hmx hb4
  go_wp2_with fail
  refine (hI.out _ fx w4 RX.out).mono ?_
  intro e w5 hpost
  obtain ⟨vg, fg, rfl, hrg, hmg, hb5⟩ := HRD.out _ _ _ hpost
  have RG := Lib.hid hrg; have MG := Lib.hid hmg
  have R0 := Lib.hid (rThs.below R0.out hb5)
  have RX := Lib.hid (rThs.below RX.out hb5)
  have MX := Lib.hid (MX.out.wrote (Wrote.of_below (fs := []) hb5) TX.out)
  have B5 := Lib.hid (B4.out.trans (hb5.mono B4.out.size))
  clear hrg hmg hb5 hpost
  go_wp2_with fail
  refine (eqThingS_c _ _ D D fg f0 w5 RG.out R0.out).mono ?_
  rintro e w6 ⟨rfl, hb6⟩
  rw [decide_eq_true rfl]
  have TG := Lib.hid (rSl.there rTh.fixed RG.out)
  have MG := Lib.hid (MG.out.wrote (Wrote.of_below (fs := []) hb6) TG.out)
  have MX := Lib.hid (MX.out.wrote (Wrote.of_below (fs := []) hb6) (rSl.there rTh.fixed RX.out))
  have RG := Lib.hid (rThs.below RG.out hb6)
  have R0 := Lib.hid (rThs.below R0.out hb6)
  have RX := Lib.hid (rThs.below RX.out hb6)
  have B6 := Lib.hid (B5.out.trans (hb6.mono B5.out.size))
  clear hb6
  go_wp2_with fail
  refine (toThingS_c' _ ds f1 w6 (rThs.below H1.out B6.out) HSX.out).mono ?_
  rintro e w7 ⟨x2, g2, rfl, hr2, -, hb7⟩
  have R2 := Lib.hid hr2
  have MG := Lib.hid (MG.out.wrote (Wrote.of_below (fs := []) hb7) (rSl.there rTh.fixed RG.out))
  have MX := Lib.hid (MX.out.wrote (Wrote.of_below (fs := []) hb7) (rSl.there rTh.fixed RX.out))
  have RG := Lib.hid (rThs.below RG.out hb7)
  have R0 := Lib.hid (rThs.below R0.out hb7)
  have RX := Lib.hid (rThs.below RX.out hb7)
  have B7 := Lib.hid (B6.out.trans (hb7.mono B6.out.size))
  clear hr2 hb7
  go_wp2_with fail
  refine (eqThingS_c _ _ ds ds fx g2 w7 RX.out R2.out).mono ?_
  rintro e w8 ⟨rfl, hb8⟩
  rw [decide_eq_true rfl]
  have MG := Lib.hid (MG.out.wrote (Wrote.of_below (fs := []) hb8) (rSl.there rTh.fixed RG.out))
  have MX := Lib.hid (MX.out.wrote (Wrote.of_below (fs := []) hb8) (rSl.there rTh.fixed RX.out))
  have RG := Lib.hid (rThs.below RG.out hb8)
  have R0 := Lib.hid (rThs.below R0.out hb8)
  have RX := Lib.hid (rThs.below RX.out hb8)
  have B8 := Lib.hid (B7.out.trans (hb8.mono B7.out.size))
  clear hb8 R2 R1
  go_wp2_with fail
  refine (markThingS_c _ ds fx w8 1 _ RX.out MX.out (by omega) (by omega) HSX.out).mono ?_
  rintro e w9 ⟨rfl, hw9, -⟩
  have d0 : ∀ a, a ∈ f0 → a ∉ fx := fun a ha hb => by have := T0.out a ha; have := MX.out.from_ a hb; omega
  have dg : ∀ a, a ∈ fg → a ∉ fx := fun a ha hb => by have := TX.out a hb; have := MG.out.from_ a ha; omega
  have MG := Lib.hid (MG.out.wrote hw9 (rSl.there rTh.fixed RG.out))
  have RG := Lib.hid (rThs.wrote RG.out hw9 dg)
  have R0 := Lib.hid (rThs.wrote R0.out hw9 d0)
  have B9 := Lib.hid (B8.out.trans (hw9.below B8.out.size (fun a ha => by have := MX.out.from_ a ha; have := B3.out.size; omega)))
  clear hw9 d0 dg
  have hk1 : ¬ ((1 + markN ds : Nat) : Int) < 0 := by omega
  go_wp2_with fail
  refine (eqThingS_c _ _ D D fg f0 w9 RG.out R0.out).mono ?_
  rintro e w10 ⟨rfl, hb10⟩
  rw [decide_eq_true rfl]
  have MG := Lib.hid (MG.out.wrote (Wrote.of_below (fs := []) hb10) (rSl.there rTh.fixed RG.out))
  have RG := Lib.hid (rThs.below RG.out hb10)
  have R0 := Lib.hid (rThs.below R0.out hb10)
  have B10 := Lib.hid (B9.out.trans (hb10.mono B9.out.size))
  clear hb10
  go_wp2_with fail
  refine (markThingS_c _ D fg w10 1 _ RG.out MG.out (by omega) (by omega) HDN.out).mono ?_
  rintro e w11 ⟨rfl, hw11, hr11⟩
  have d0 : ∀ a, a ∈ f0 → a ∉ fg := fun a ha hb => by have := T0.out a ha; have := MG.out.from_ a hb; have := S4.out; omega
  have R0 := Lib.hid (rThs.wrote R0.out hw11 d0)
  have RG := Lib.hid hr11
  have B11 := Lib.hid (B10.out.trans (hw11.below B10.out.size (fun a ha => by have := MG.out.from_ a ha; have := B4.out.size; omega)))
  clear hw11 hr11 d0
  go_wp2_with fail
  refine (heldThingS_c _ D fg w11 1 RG.out (by omega) (by omega) HDN.out).mono ?_
  rintro e w12 ⟨rfl, hb12⟩
  have RG := Lib.hid (rThs.below RG.out hb12)
  have R0 := Lib.hid (rThs.below R0.out hb12)
  have B12 := Lib.hid (B11.out.trans (hb12.mono B11.out.size))
  clear hb12
  have hk2 : ¬ ((1 + markN D : Nat) : Int) < 0 := by omega
  go_wp2_with fail
  refine (toThingS_c' _ ds f1 w12 (rThs.below H1.out B12.out) HSX.out).mono ?_
  rintro e w13 ⟨x3, g3, rfl, hr3, -, hb13⟩
  have R3 := Lib.hid hr3
  have RG := Lib.hid (rThs.below RG.out hb13)
  have R0 := Lib.hid (rThs.below R0.out hb13)
  have B13 := Lib.hid (B12.out.trans (hb13.mono B12.out.size))
  clear hr3 hb13
  go_wp2_with fail
  refine (hI.out _ g3 w13 R3.out).mono ?_
  intro e w14 hpost
  obtain ⟨vh, fh, rfl, hrh, -, hb14⟩ := HRD.out _ _ _ hpost
  have RH := Lib.hid hrh
  have RG := Lib.hid (rThs.below RG.out hb14)
  have R0 := Lib.hid (rThs.below R0.out hb14)
  have B14 := Lib.hid (B13.out.trans (hb14.mono B13.out.size))
  clear hrh hb14 hpost
  go_wp2_with fail
  refine (eqThingS_c _ _ D D fh f0 w14 RH.out R0.out).mono ?_
  rintro e w15 ⟨rfl, hb15⟩
  rw [decide_eq_true rfl]
  have RG := Lib.hid (rThs.below RG.out hb15)
  have B15 := Lib.hid (B14.out.trans (hb15.mono B14.out.size))
  clear hb15
  go_wp2_with fail
  refine (heldThingS_c _ D fg w15 1 RG.out (by omega) (by omega) HDN.out).mono ?_
  rintro e w16 ⟨rfl, hb16⟩
  have B16 := Lib.hid (B15.out.trans (hb16.mono B15.out.size))
  clear hb16
  go_wp2_with fail
  go_ret
  exact ⟨rfl, B16.out⟩

end Go.Proofs.Ytimabbleijkmhaa
