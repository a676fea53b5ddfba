/-
  FnExactWordsOf: for every line the law answers true.
-/
import Derived.Test.YtimabbleijkmhaaDoorWordsC
namespace Go.Proofs.YtimabbleijkmhaaDoor
open Go.RowKit Go.Sort

theorem wordsL_len (s : ByteArray) : (wordsL s).length ≤ s.size + 1 := by
  have hcl := Lib.countB_le blank (by decide) s.size s (Nat.le_refl _)
  have hln := Lib.splitB_all blank (by decide) 0 _ s rfl
  rw [← wordsL_eq s]
  have := List.length_filter_le (fun x => !pE x) (Lib.splitB blank 0 (Lib.countB s blank) s)
  omega

set_option maxHeartbeats 2000000 in
set_option maxRecDepth 100000 in
theorem lawWordsOf_c (s : ByteArray) (m : Int) (w : World) (hm : w.cell? ⟨0, 0, none⟩ = some (.int .i64 m)) :
    Calls Tryd.prog 3 #[.string s] w fun e w' => e = .returned (.bool true) ∧ Below w.heap.size w w' := by
  by_cases hbig : 1048576 < s.size
  · go_enter Tryd.func3, Tryd.ntmps3
    go_wp2_with fail
    go_ret
    exact ⟨rfl, Below.refl _ _⟩
  · have hs : s.size ≤ 1048576 := by omega
    have hn : (wordsL s).length ≤ 1048577 := by have := wordsL_len s; omega
    have HM := Lib.hid hm
    have h00 : 0 < w.heap.size := World.block_lt_of_cell? _ _ hm
    clear hm
    go_enter Tryd.func3, Tryd.ntmps3
    go_wp2_with fail
    refine (specWordsOf_c s w hs).mono ?_
    rintro e w1 ⟨v1, rfl, ho1, hb1⟩
    obtain ⟨f1, r1, -⟩ := ho1.reads
    have R1 := Lib.hid r1
    have B1 := Lib.hid hb1
    have m1 := (hb1.cell (p := ⟨0, 0, none⟩) h00).trans HM.out
    clear ho1 r1 hb1
    go_wp2_with fail
    refine (implWordsOf_c s m w1 hs m1).mono ?_
    rintro e w2 ⟨v2, f2, rfl, hr2, hm2, hb2⟩
    have R2 := Lib.hid hr2; have M2 := Lib.hid hm2
    have S1 := Lib.hid (rStrs.below R1.out hb2)
    have S2 := Lib.hid hb2.size
    have B2 := Lib.hid (B1.out.trans (hb2.mono B1.out.size))
    have TF := Lib.hid (rSl.there rStr.fixed R1.out)
    clear hr2 hm2 hb2 m1
    go_wp2_with fail
    refine (eqStringS_c _ _ _ _ _ _ w2 R2.out S1.out).mono ?_
    rintro e w3 ⟨rfl, hb3⟩
    rw [decide_eq_true rfl]
    have R3 := Lib.hid (rStrs.below R2.out hb3); have M3 := Lib.hid (M2.out.wrote (Wrote.of_below (fs := []) hb3) (rSl.there rStr.fixed R2.out))
    have S3 := Lib.hid (rStrs.below S1.out hb3)
    have B3 := Lib.hid (B2.out.trans (hb3.mono B2.out.size))
    clear hb3 R2 M2 S1 B2
    go_wp2_with fail
    refine (markStringS_c v2 (wordsL s) _ w3 1 _ R3.out M3.out (by omega) (by omega) (by omega)).mono ?_
    rintro e w4 ⟨rfl, hw4, hr4⟩
    have R4 := Lib.hid hr4
    have B4 := Lib.hid (B3.out.trans (hw4.below B3.out.size (fun a ha => Nat.le_trans B1.out.size (M3.out.from_ a ha))))
    have S4 := Lib.hid (rSl.keep rStr.local_ S3.out (hw4.same (rSl.there rStr.fixed S3.out) (fun a ha hb => by have := TF.out a ha; have := M3.out.from_ a hb; omega)))
    clear hw4 hr4 R3 M3 S3 B3
    go_wp2_with fail
    refine (heldStringS_c v2 (wordsL s).length _ w4 1 R4.out (by omega) (by omega) (by omega)).mono ?_
    rintro e w5 ⟨rfl, hb5⟩
    have R5 := Lib.hid (rStrs.below R4.out hb5)
    have S5 := Lib.hid (rStrs.below S4.out hb5)
    have B5 := Lib.hid (B4.out.trans (hb5.mono B4.out.size))
    have m5 := (B5.out.cell (p := ⟨0, 0, none⟩) h00).trans HM.out
    have hk2 : ¬ ((1 + (wordsL s).length : Nat) : Int) < 0 := by omega
    clear hb5 R4 S4 B4
    go_wp2_with fail
    refine (implWordsOf_c s m w5 hs m5).mono ?_
    rintro e w6 ⟨v6, f6, rfl, hr6, hm6, hb6⟩
    have R6 := Lib.hid hr6
    have R7 := Lib.hid (rStrs.below R5.out hb6)
    have S6 := Lib.hid (rStrs.below S5.out hb6)
    have B6 := Lib.hid (B5.out.trans (hb6.mono B5.out.size))
    clear hr6 hm6 hb6 m5 R5 S5 B5
    go_wp2_with fail
    refine (eqStringS_c _ _ _ _ _ _ w6 R6.out S6.out).mono ?_
    rintro e w7 ⟨rfl, hb7⟩
    rw [decide_eq_true rfl]
    have R8 := Lib.hid (rStrs.below R7.out hb7)
    have B7 := Lib.hid (B6.out.trans (hb7.mono B6.out.size))
    clear hb7 R6 R7 S6 B6
    go_wp2_with fail
    refine (heldStringS_c v2 (wordsL s).length _ w7 1 R8.out (by omega) (by omega) (by omega)).mono ?_
    rintro e w8 ⟨rfl, hb8⟩
    have B8 := Lib.hid (B7.out.trans (hb8.mono B7.out.size))
    clear hb8
    go_wp2_with fail
    go_ret
    exact ⟨rfl, B8.out⟩

end Go.Proofs.YtimabbleijkmhaaDoor
