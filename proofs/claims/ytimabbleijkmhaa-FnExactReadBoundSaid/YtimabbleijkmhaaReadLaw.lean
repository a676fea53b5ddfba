/-
  FnExactReadBound: for every shape and place the law answers true.
-/
import Derived.Test.YtimabbleijkmhaaReadBound
namespace Go.Proofs.Ytimabbleijkmhaa
open Go.RowKit

set_option maxHeartbeats 400000 in
theorem eqIntResult_c (a b : Int) (w : World) :
    Calls Try.prog 18 #[irV a b, irV a b] w fun e w' => e = .returned (.bool true) ∧ Below w.heap.size w w' := by
  unfold irV
  go_enter Try.func18, Try.ntmps18
  go_wp2
  go_ret
  exact ⟨rfl, ((Below.refl _ _).alloc (Nat.le_refl _) _).alloc (by simp) _⟩

set_option maxHeartbeats 1000000 in
theorem lawReadBound_c (s : Sh) (place : Int) (w : World) :
    Calls Try.prog 4 #[shV s, .int .i64 place] w fun e w' => e = .returned (.bool true) ∧ Below w.heap.size w w' := by
  unfold shV
  go_enter Try.func4, Try.ntmps4
  go_wp2_with fail
  refine (toShape_c s _).mono ?_
  rintro e w1 ⟨rfl, hb1⟩
  have k1 := (Blk.new w 28 #[.int .i64 s.groups, .int .i64 s.column, .int .i64 s.data, .int .i64 s.spare, .int .i64 s.rows, .int .i64 s.cap, .int .i64 s.batch, .int .i64 s.queue, .int .i64 s.stage]).below hb1 (by simp)
  have B1 := Lib.hid (((Below.refl w.heap.size w).alloc (Nat.le_refl _) (.cells #[.int .i64 s.groups, .int .i64 s.column, .int .i64 s.data, .int .i64 s.spare, .int .i64 s.rows, .int .i64 s.cap, .int .i64 s.batch, .int .i64 s.queue, .int .i64 s.stage] 28)).trans (hb1.mono (by simp)))
  clear hb1
  have K1 := Lib.hid k1; clear k1
  go_wp2_with fail
  refine (specReadBound_c s place _).mono ?_
  rintro e w2 ⟨rfl, hb2⟩
  have K2 := Lib.hid (K1.out.below hb2 K1.out.lt)
  have B2 := Lib.hid (B1.out.trans (hb2.mono B1.out.size))
  clear hb2
  obtain ⟨C, hC⟩ : ∃ C, rbCode s place = C := ⟨_, rfl⟩
  obtain ⟨V, hV⟩ : ∃ V, rbVal s place = V := ⟨_, rfl⟩
  rw [hC, hV]
  have HC := Lib.hid hC; clear hC
  have HV := Lib.hid hV; clear hV
  unfold irV
  have c2 := fun k => K2.out.cell k
  have z2 := K2.out.lt
  go_wp2_with fail
  refine (toShape_c s _).mono ?_
  rintro e w3 ⟨rfl, hb3⟩
  have K3 := Lib.hid ((K2.out.alloc (.cells #[.int .i64 C, .int .i64 V] 30)).below hb3 (by simp; omega))
  have R3 := Lib.hid ((Blk.new w2 30 #[.int .i64 C, .int .i64 V]).below hb3 (by simp))
  have B3 := Lib.hid ((B2.out.alloc B2.out.size (.cells #[.int .i64 C, .int .i64 V] 30)).trans (hb3.mono (by simp; omega)))
  clear hb3 c2
  have hCV : Calls Try.prog 17 #[shV s, .int .i64 place] w3 fun e w' => e = .returned (irV C V) ∧ Below w3.heap.size w3 w' := by
    have := implReadBound_c s place w3
    rw [HC.out, HV.out] at this
    exact this
  have HCV := Lib.hid hCV; clear hCV
  go_wp2_with fail
  refine HCV.out.mono ?_
  rintro e w4 ⟨rfl, hb4⟩
  have R4 := Lib.hid (R3.out.below hb4 R3.out.lt)
  have B4 := Lib.hid (B3.out.trans (hb4.mono B3.out.size))
  clear hb4
  have c4 := fun k => R4.out.cell k
  have z4 := R4.out.lt
  unfold irV
  go_wp2_with fail
  refine (eqIntResult_c C V _).mono ?_
  rintro e w5 ⟨rfl, hb5⟩
  have B5 := Lib.hid ((B4.out.alloc B4.out.size (.cells #[.int .i64 C, .int .i64 V] 30)).trans (hb5.mono (by have := B4.out.size; simp; omega)))
  clear hb5 c4
  go_wp2
  go_ret
  exact ⟨rfl, B5.out⟩

end Go.Proofs.Ytimabbleijkmhaa
