/-
  FnExactSameThings: for all lists of things the law answers true.
-/
import Derived.Test.YtimabbleijkmhaaThSame2
import Derived.Test.YtimabbleijkmhaaThTo
namespace Go.Proofs.Ytimabbleijkmhaa
open Go.RowKit

set_option maxHeartbeats 1000000 in
theorem lawSameThings_c (v1 v2 : Value) (xs ys : List Th) (f1 f2 : List Addr) (w : World) (h1 : rThs w f1 v1 xs) (h2 : rThs w f2 v2 ys) :
    Calls Try.prog 6 #[v1, v2] w fun e w' => e = .returned (.bool true) ∧ Below w.heap.size w w' := by
  have H1 := Lib.hid h1; have H2 := Lib.hid h2
  obtain ⟨A1, c1, rfl, -⟩ := rThs.open_ h1
  obtain ⟨A2, c2, rfl, -⟩ := rThs.open_ h2
  clear h1 h2
  go_enter Try.func6, Try.ntmps6
  go_wp2_with fail
  refine (szThingS_c _ xs f1 w 1048576 H1.out (by omega) (by omega)).mono ?_
  rintro e w1 ⟨rfl, hb1⟩
  have B1 := Lib.hid hb1
  clear hb1
  by_cases hx : (1048576 : Int) < ((xs.length + thSum xs : Nat) : Int)
  · rw [szTh_t hx]
    clear hx
    go_wp2_with fail
    go_ret
    exact ⟨rfl, B1.out⟩
  rw [szTh_f hx]
  have hx1 : ¬ (1048576 : Int) - ((xs.length + thSum xs : Nat) : Int) < 0 := by omega
  obtain ⟨L, hL⟩ : ∃ L : Int, (1048576 : Int) - ((xs.length + thSum xs : Nat) : Int) = L := ⟨_, rfl⟩
  rw [hL] at hx1 ⊢
  have HL := Lib.hid hL
  clear hx hL
  go_wp2_with fail
  refine (szThingS_c _ ys f2 w1 L (rThs.below H2.out B1.out) (by omega) (by have := HL.out; omega)).mono ?_
  rintro e w2 ⟨rfl, hb2⟩
  have B2 := Lib.hid (B1.out.trans (hb2.mono B1.out.size))
  clear hb2
  by_cases hy : L < ((ys.length + thSum ys : Nat) : Int)
  · rw [szTh_t hy]
    clear hy
    go_wp2_with fail
    go_ret
    exact ⟨rfl, B2.out⟩
  rw [szTh_f hy]
  have hy1 : ¬ L - ((ys.length + thSum ys : Nat) : Int) < 0 := by omega
  have hsx : xs.length + thSum xs ≤ 1048576 := by have := HL.out; omega
  have hsy : ys.length + thSum ys ≤ 1048576 := by have := HL.out; omega
  have HSX := Lib.hid hsx; have HSY := Lib.hid hsy
  obtain ⟨M, hM⟩ : ∃ M : Int, L - ((ys.length + thSum ys : Nat) : Int) = M := ⟨_, rfl⟩
  rw [hM] at hy1 ⊢
  clear hy hM hsx hsy hx1
  go_wp2_with fail
  refine (toThingS_c' _ xs f1 w2 (rThs.below H1.out B2.out) HSX.out).mono ?_
  rintro e w3 ⟨x1, g1, rfl, hr1, hm1, hb3⟩
  have R1 := Lib.hid hr1
  have B3 := Lib.hid (B2.out.trans (hb3.mono B2.out.size))
  clear hr1 hm1 hb3
  go_wp2_with fail
  refine (toThingS_c' _ ys f2 w3 (rThs.below H2.out B3.out) HSY.out).mono ?_
  rintro e w4 ⟨x2, g2, rfl, hr2, hm2, hb4⟩
  have R2 := Lib.hid hr2
  have R1 := Lib.hid (rThs.below R1.out hb4)
  have B4 := Lib.hid (B3.out.trans (hb4.mono B3.out.size))
  clear hr2 hm2 hb4
  go_wp2_with fail
  refine (specSameThings_c _ _ xs ys g1 g2 w4 R1.out R2.out).mono ?_
  rintro e w5 ⟨rfl, hb5⟩
  have B5 := Lib.hid (B4.out.trans (hb5.mono B4.out.size))
  clear hb5
  obtain ⟨rb, hrb⟩ : ∃ rb, decide (xs = ys) = rb := ⟨_, rfl⟩
  rw [hrb]
  have RB := Lib.hid hrb; clear hrb
  go_wp2_with fail
  refine (toThingS_c' _ xs f1 w5 (rThs.below H1.out B5.out) HSX.out).mono ?_
  rintro e w6 ⟨x3, g3, rfl, hr3, hm3, hb6⟩
  have R3 := Lib.hid hr3
  have B6 := Lib.hid (B5.out.trans (hb6.mono B5.out.size))
  clear hr3 hm3 hb6
  go_wp2_with fail
  refine (toThingS_c' _ ys f2 w6 (rThs.below H2.out B6.out) HSY.out).mono ?_
  rintro e w7 ⟨x4, g4, rfl, hr4, hm4, hb7⟩
  have R4 := Lib.hid hr4
  have R3 := Lib.hid (rThs.below R3.out hb7)
  have B7 := Lib.hid (B6.out.trans (hb7.mono B6.out.size))
  clear hr4 hm4 hb7
  go_wp2_with fail
  refine (implSameThings_c _ _ xs ys g3 g4 w7 R3.out R4.out).mono ?_
  rintro e w8 ⟨rfl, hb8⟩
  have R3 := Lib.hid (rThs.below R3.out hb8)
  have R4 := Lib.hid (rThs.below R4.out hb8)
  have B8 := Lib.hid (B7.out.trans (hb8.mono B7.out.size))
  clear hb8
  rw [RB.out]
  have hbb : (!rb == rb) = false := by simp
  go_wp2_with fail
  refine (toThingS_c' _ xs f1 w8 (rThs.below H1.out B8.out) HSX.out).mono ?_
  rintro e w9 ⟨x5, g5, rfl, hr5, hm5, hb9⟩
  have R5 := Lib.hid hr5
  have R3 := Lib.hid (rThs.below R3.out hb9)
  have R4 := Lib.hid (rThs.below R4.out hb9)
  have B9 := Lib.hid (B8.out.trans (hb9.mono B8.out.size))
  clear hr5 hm5 hb9
  go_wp2_with fail
  refine (eqThingS_c _ _ xs xs g3 g5 w9 R3.out R5.out).mono ?_
  rintro e w10 ⟨rfl, hb10⟩
  rw [decide_eq_true rfl]
  have R4 := Lib.hid (rThs.below R4.out hb10)
  have B10 := Lib.hid (B9.out.trans (hb10.mono B9.out.size))
  clear hb10
  go_wp2_with fail
  refine (toThingS_c' _ ys f2 w10 (rThs.below H2.out B10.out) HSY.out).mono ?_
  rintro e w11 ⟨x6, g6, rfl, hr6, hm6, hb11⟩
  have R6 := Lib.hid hr6
  have R4 := Lib.hid (rThs.below R4.out hb11)
  have B11 := Lib.hid (B10.out.trans (hb11.mono B10.out.size))
  clear hr6 hm6 hb11
  go_wp2_with fail
  refine (eqThingS_c _ _ ys ys g4 g6 w11 R4.out R6.out).mono ?_
  rintro e w12 ⟨rfl, hb12⟩
  rw [decide_eq_true rfl]
  have B12 := Lib.hid (B11.out.trans (hb12.mono B11.out.size))
  clear hb12
  go_wp2_with fail
  go_ret
  exact ⟨rfl, B12.out⟩

end Go.Proofs.Ytimabbleijkmhaa
