/-
  FnExactHexOf: for every slice of bytes the law answers true.
-/
import Derived.Test.YtimabbleijkmhaaHex
import Derived.ProofKit
import Derived.OpenShut
import Derived.ShutString
import Derived.ChangeOld
namespace Go.Proofs.Ytimabbleijkmhaa
open Go.RowKit

set_option maxHeartbeats 400000 in
theorem lawHexOf_c (v : Value) (xs : List UInt8) (fs : List Addr) (w : World) (h1 : rBytes w fs v xs) :
    Calls Try.prog 3 #[v] w fun e w' => e = .returned (.bool true) ∧ Below w.heap.size w w' := by
  have h1' := Lib.hid h1
  obtain ⟨A1, c1, rfl, hc1, hm1, hx⟩ := rBytes.open_ h1
  clear hx h1
  by_cases hbig : 1048576 < xs.length
  · go_enter Try.func3, Try.ntmps3
    go_wp2_with fail
    go_ret
    exact ⟨rfl, Below.refl _ _⟩
  · have hsm : xs.length ≤ 1048576 := by omega
    go_enter Try.func3, Try.ntmps3
    go_wp2_with fail
    refine (toByteS_c _ xs fs w h1'.out hsm).mono ?_
    rintro e w1 ⟨rfl, hb1, hk1, hs1⟩
    have r1 := Lib.hid (rBytes.of_blk hk1 (by omega))
    have B1 := Lib.hid hb1
    clear hk1 hb1 hs1
    go_wp2_with fail
    refine (specHexOf_c _ xs _ w1 r1.out hsm).mono ?_
    rintro e w2 ⟨rfl, hb2⟩
    have B2 := Lib.hid (B1.out.trans (hb2.mono B1.out.size))
    have p1 := Lib.hid (rBytes.below h1'.out B2.out)
    clear hb2
    go_wp2_with fail
    refine (toByteS_c _ xs fs w2 p1.out hsm).mono ?_
    rintro e w3 ⟨rfl, hb3, hk3, hs3⟩
    have r3 := Lib.hid (rBytes.of_blk hk3 (by omega))
    have B3 := Lib.hid (B2.out.trans (hb3.mono B2.out.size))
    clear hk3 hb3 hs3
    go_wp2_with fail
    refine (implHexOf_c _ xs _ w3 r3.out hsm).mono ?_
    rintro e w4 ⟨rfl, hb4⟩
    have r4 := Lib.hid (rBytes.below r3.out hb4)
    have B4 := Lib.hid (B3.out.trans (hb4.mono B3.out.size))
    have p4 := Lib.hid (rBytes.below h1'.out B4.out)
    clear hb4
    have hne : (!(hexS xs).data.toList == (hexS xs).data.toList) = false := by simp
    generalize hexS xs = S at *
    go_wp2_with fail
    refine (toByteS_c _ xs fs w4 p4.out hsm).mono ?_
    rintro e w5 ⟨rfl, hb5, hk5, hs5⟩
    have r5 := Lib.hid (rBytes.of_blk hk5 (by omega))
    have r5' := Lib.hid (rBytes.below r4.out hb5)
    have B5 := Lib.hid (B4.out.trans (hb5.mono B4.out.size))
    clear hk5 hb5 hs5
    go_wp2_with fail
    refine (eqByteS_c _ _ xs xs _ _ w5 r5'.out r5.out).mono ?_
    rintro e w6 ⟨rfl, hb6⟩
    have B6 := Lib.hid (B5.out.trans (hb6.mono B5.out.size))
    clear hb6
    go_wp2
    go_ret
    exact ⟨rfl, B6.out⟩

end Go.Proofs.Ytimabbleijkmhaa
