/-
  FnExactNewArchive: for every shape the law answers true.
-/
import Derived.Test.YtabainoplkpppaaNew8
namespace Go.Proofs.Ytabainoplkpppaa
open Go.RowKit Go.Sort

theorem Blk.rangeAll {w : World} {g : Nat} {t : TypeId} {cs : List Value} (h : Blk w g t cs.toArray) : w.rangeAt g 0 cs := Blk.range h 0 cs (by simp)

set_option maxHeartbeats 4000000 in
set_option maxRecDepth 100000 in
theorem lawNewArchive_c (s : Sh) (w : World) :
    Calls Try.prog 3 #[shV s] w fun e w' => e = .returned (.bool true) ∧ Below w.heap.size w w' := by
  obtain ⟨n, hn⟩ : ∃ n, numArchive (arD s).archive = n := ⟨_, rfl⟩
  have hnb : n ≤ 1000000 := by rw [← hn]; exact arD_num s
  have HN := Lib.hid hn; clear hn
  have HY := Lib.hid (arD_young s)
  unfold shV
  have KS := Lib.hid (Blk.new w 23 #[.int .i64 s.groups, .int .i64 s.column, .int .i64 s.data, .int .i64 s.spare, .int .i64 s.rows, .int .i64 s.cap, .int .i64 s.batch, .int .i64 s.queue, .int .i64 s.stage])
  have BB := Lib.hid ((Below.refl w.heap.size w).alloc (Nat.le_refl _) (.cells #[.int .i64 s.groups, .int .i64 s.column, .int .i64 s.data, .int .i64 s.spare, .int .i64 s.rows, .int .i64 s.cap, .int .i64 s.batch, .int .i64 s.queue, .int .i64 s.stage] 23))
  have HRS := Lib.hid (Blk.range KS.out 0 [.int .i64 s.groups, .int .i64 s.column, .int .i64 s.data, .int .i64 s.spare, .int .i64 s.rows, .int .i64 s.cap, .int .i64 s.batch, .int .i64 s.queue, .int .i64 s.stage] rfl)
  go_enter Try.func3, Try.ntmps3
  go_wp2_with (first | (refine wpList_load_mid rfl 23 (.tmp 1) rfl w.heap.size 0 rfl [.int .i64 s.groups, .int .i64 s.column, .int .i64 s.data, .int .i64 s.spare, .int .i64 s.rows, .int .i64 s.cap, .int .i64 s.batch, .int .i64 s.queue, .int .i64 s.stage] _ HRS.out Try.underlying23 rfl (by kernel_rfl) ?_))
  refine (toShape_c s _).mono ?_
  rintro e w1 ⟨rfl, hb⟩
  have KS := Lib.hid (KS.out.below hb KS.out.lt); have BB := Lib.hid (BB.out.trans (hb.mono BB.out.size)); have HRS := Lib.hid (Blk.range KS.out 0 [.int .i64 s.groups, .int .i64 s.column, .int .i64 s.data, .int .i64 s.spare, .int .i64 s.rows, .int .i64 s.cap, .int .i64 s.batch, .int .i64 s.queue, .int .i64 s.stage] rfl)
  have Qw1 := Lib.hid hb.size; clear hb
  have Z0 := Lib.hid KS.out.lt
  unfold shV
  go_wp2_with fail
  refine (specNewArchive_u s _).mono ?_
  rintro e w2 ⟨c0, f0, rfl, r0, hb⟩
  have KS := Lib.hid (KS.out.below hb KS.out.lt); have BB := Lib.hid (BB.out.trans (hb.mono BB.out.size)); have HRS := Lib.hid (Blk.range KS.out 0 [.int .i64 s.groups, .int .i64 s.column, .int .i64 s.data, .int .i64 s.spare, .int .i64 s.rows, .int .i64 s.cap, .int .i64 s.batch, .int .i64 s.queue, .int .i64 s.stage] rfl)
  have Qw2 := Lib.hid hb.size; clear hb
  have R0 := Lib.hid r0; have Lc0 := Lib.hid (rArchiveResult.wide _ _ _ _ r0); have Oc0 := Lib.hid (rArchiveResult.ones _ _ _ _ r0); have T0 := Lib.hid (rArchiveResult.fixed _ _ _ _ r0); clear r0
  go_wp2_with (first | (refine wpList_store_mid rfl 38 (.tmp 3) (.tmp 10) rfl w2.heap.size 0 c0.toArray rfl rfl (Blk.there (Blk.new w2 38 #[.int .i64 0, .int .i64 0, .int .i64 0, .int .i64 0, .int .i64 0, .int .i64 0, .int .i64 0, .int .i64 0, .int .i64 0, .int .i64 0, .int .i64 0, .slice none 0 0, .slice none 0 0, .slice none 0 0, .int .i64 0, .int .i64 0, .bool false, .slice none 0 0, .slice none 0 0, .slice none 0 0, .int .i64 0, .int .i64 0]) _ (by rw [List.size_toArray, Lc0.out]; decide)) (by rw [List.size_toArray, Lc0.out]; kernel_rfl) (all_oneCell_toArray Oc0.out) ?_; rw [List.toList_toArray]; obtain ⟨hbx, kx⟩ := boxed w2 38 #[.int .i64 0, .int .i64 0, .int .i64 0, .int .i64 0, .int .i64 0, .int .i64 0, .int .i64 0, .int .i64 0, .int .i64 0, .int .i64 0, .int .i64 0, .slice none 0 0, .slice none 0 0, .slice none 0 0, .int .i64 0, .int .i64 0, .bool false, .slice none 0 0, .slice none 0 0, .slice none 0 0, .int .i64 0, .int .i64 0] c0 Lc0.out.symm; obtain ⟨w3, hw⟩ : ∃ u, (w2.alloc (.cells #[.int .i64 0, .int .i64 0, .int .i64 0, .int .i64 0, .int .i64 0, .int .i64 0, .int .i64 0, .int .i64 0, .int .i64 0, .int .i64 0, .int .i64 0, .slice none 0 0, .slice none 0 0, .slice none 0 0, .int .i64 0, .int .i64 0, .bool false, .slice none 0 0, .slice none 0 0, .slice none 0 0, .int .i64 0, .int .i64 0] 38)).setCells w2.heap.size 0 c0 = u := ⟨_, rfl⟩; rw [hw] at hbx kx ⊢; clear hw; have KS := Lib.hid (KS.out.below hbx KS.out.lt); have R0 := Lib.hid (Repr.below rArchiveResult.local_ rArchiveResult.fixed R0.out hbx); have BB := Lib.hid (BB.out.trans (hbx.mono BB.out.size)); have HRS := Lib.hid (Blk.range KS.out 0 [.int .i64 s.groups, .int .i64 s.column, .int .i64 s.data, .int .i64 s.spare, .int .i64 s.rows, .int .i64 s.cap, .int .i64 s.batch, .int .i64 s.queue, .int .i64 s.stage] rfl); have KA := Lib.hid kx; have HRc0 := Lib.hid (kx.rangeAll); have Qw3 := Lib.hid hbx.size; have KA0 := Lib.hid kx.lt; clear hbx kx) | (refine wpList_load_mid rfl 23 (.tmp 1) rfl w.heap.size 0 rfl [.int .i64 s.groups, .int .i64 s.column, .int .i64 s.data, .int .i64 s.spare, .int .i64 s.rows, .int .i64 s.cap, .int .i64 s.batch, .int .i64 s.queue, .int .i64 s.stage] _ HRS.out Try.underlying23 rfl (by kernel_rfl) ?_))
  refine (toShape_c s _).mono ?_
  rintro e w4 ⟨rfl, hb⟩
  have KS := Lib.hid (KS.out.below hb KS.out.lt); have KA := Lib.hid (KA.out.below hb KA.out.lt); have R0 := Lib.hid (Repr.below rArchiveResult.local_ rArchiveResult.fixed R0.out hb); have BB := Lib.hid (BB.out.trans (hb.mono BB.out.size)); have HRS := Lib.hid (Blk.range KS.out 0 [.int .i64 s.groups, .int .i64 s.column, .int .i64 s.data, .int .i64 s.spare, .int .i64 s.rows, .int .i64 s.cap, .int .i64 s.batch, .int .i64 s.queue, .int .i64 s.stage] rfl)
  have Qw4 := Lib.hid hb.size; clear hb
  unfold shV
  go_wp2_with fail
  refine (implNewArchive_u s _).mono ?_
  rintro e w5 ⟨c1, f1, rfl, r1, m1, hb⟩
  have KS := Lib.hid (KS.out.below hb KS.out.lt); have KA := Lib.hid (KA.out.below hb KA.out.lt); have R0 := Lib.hid (Repr.below rArchiveResult.local_ rArchiveResult.fixed R0.out hb); have BB := Lib.hid (BB.out.trans (hb.mono BB.out.size)); have HRS := Lib.hid (Blk.range KS.out 0 [.int .i64 s.groups, .int .i64 s.column, .int .i64 s.data, .int .i64 s.spare, .int .i64 s.rows, .int .i64 s.cap, .int .i64 s.batch, .int .i64 s.queue, .int .i64 s.stage] rfl)
  have Qw5 := Lib.hid hb.size; clear hb
  have R1 := Lib.hid r1; have M1 := Lib.hid m1; have Lc1 := Lib.hid (rArchiveResult.wide _ _ _ _ r1); have Oc1 := Lib.hid (rArchiveResult.ones _ _ _ _ r1); have T1 := Lib.hid (rArchiveResult.fixed _ _ _ _ r1); clear r1 m1
  go_wp2_with (first | (refine wpList_store_mid rfl 38 (.tmp 4) (.tmp 13) rfl w5.heap.size 0 c1.toArray rfl rfl (Blk.there (Blk.new w5 38 #[.int .i64 0, .int .i64 0, .int .i64 0, .int .i64 0, .int .i64 0, .int .i64 0, .int .i64 0, .int .i64 0, .int .i64 0, .int .i64 0, .int .i64 0, .slice none 0 0, .slice none 0 0, .slice none 0 0, .int .i64 0, .int .i64 0, .bool false, .slice none 0 0, .slice none 0 0, .slice none 0 0, .int .i64 0, .int .i64 0]) _ (by rw [List.size_toArray, Lc1.out]; decide)) (by rw [List.size_toArray, Lc1.out]; kernel_rfl) (all_oneCell_toArray Oc1.out) ?_; rw [List.toList_toArray]; obtain ⟨hbx, kx⟩ := boxed w5 38 #[.int .i64 0, .int .i64 0, .int .i64 0, .int .i64 0, .int .i64 0, .int .i64 0, .int .i64 0, .int .i64 0, .int .i64 0, .int .i64 0, .int .i64 0, .slice none 0 0, .slice none 0 0, .slice none 0 0, .int .i64 0, .int .i64 0, .bool false, .slice none 0 0, .slice none 0 0, .slice none 0 0, .int .i64 0, .int .i64 0] c1 Lc1.out.symm; obtain ⟨w6, hw⟩ : ∃ u, (w5.alloc (.cells #[.int .i64 0, .int .i64 0, .int .i64 0, .int .i64 0, .int .i64 0, .int .i64 0, .int .i64 0, .int .i64 0, .int .i64 0, .int .i64 0, .int .i64 0, .slice none 0 0, .slice none 0 0, .slice none 0 0, .int .i64 0, .int .i64 0, .bool false, .slice none 0 0, .slice none 0 0, .slice none 0 0, .int .i64 0, .int .i64 0] 38)).setCells w5.heap.size 0 c1 = u := ⟨_, rfl⟩; rw [hw] at hbx kx ⊢; clear hw; have M1 := Lib.hid (M1.out.below hbx (rArchiveResult.fixed _ _ _ _ R1.out)); have KS := Lib.hid (KS.out.below hbx KS.out.lt); have KA := Lib.hid (KA.out.below hbx KA.out.lt); have R0 := Lib.hid (Repr.below rArchiveResult.local_ rArchiveResult.fixed R0.out hbx); have R1 := Lib.hid (Repr.below rArchiveResult.local_ rArchiveResult.fixed R1.out hbx); have BB := Lib.hid (BB.out.trans (hbx.mono BB.out.size)); have HRS := Lib.hid (Blk.range KS.out 0 [.int .i64 s.groups, .int .i64 s.column, .int .i64 s.data, .int .i64 s.spare, .int .i64 s.rows, .int .i64 s.cap, .int .i64 s.batch, .int .i64 s.queue, .int .i64 s.stage] rfl); have KB := Lib.hid kx; have HRc1 := Lib.hid (kx.rangeAll); have Qw6 := Lib.hid hbx.size; have KB0 := Lib.hid kx.lt; have HRc0 := Lib.hid (KA.out.rangeAll); clear hbx kx) | (refine wpList_load_mid rfl 38 (.tmp 4) rfl w5.heap.size 0 rfl c1 _ HRc1.out Try.underlying38 rfl (by rw [Lc1.out]; kernel_rfl) ?_) | (refine wpList_load_mid rfl 38 (.tmp 3) rfl w2.heap.size 0 rfl c0 _ HRc0.out Try.underlying38 rfl (by rw [Lc0.out]; kernel_rfl) ?_))
  refine (eqArchiveResult_c _ _ _ _ _ _ w6 R1.out R0.out).mono ?_
  rintro e w7 ⟨rfl, hb⟩
  rw [decide_eq_true rfl]
  have M1 := Lib.hid (M1.out.below hb (rArchiveResult.fixed _ _ _ _ R1.out)); have KS := Lib.hid (KS.out.below hb KS.out.lt); have KA := Lib.hid (KA.out.below hb KA.out.lt); have KB := Lib.hid (KB.out.below hb KB.out.lt); have R0 := Lib.hid (Repr.below rArchiveResult.local_ rArchiveResult.fixed R0.out hb); have R1 := Lib.hid (Repr.below rArchiveResult.local_ rArchiveResult.fixed R1.out hb); have BB := Lib.hid (BB.out.trans (hb.mono BB.out.size)); have HRS := Lib.hid (Blk.range KS.out 0 [.int .i64 s.groups, .int .i64 s.column, .int .i64 s.data, .int .i64 s.spare, .int .i64 s.rows, .int .i64 s.cap, .int .i64 s.batch, .int .i64 s.queue, .int .i64 s.stage] rfl)
  have Qw7 := Lib.hid hb.size; clear hb
  have HRc0 := Lib.hid (KA.out.rangeAll)
  have HRc1 := Lib.hid (KB.out.rangeAll)
  go_wp2_with (first | (refine wpList_load_mid rfl 38 (.tmp 4) rfl w5.heap.size 0 rfl c1 _ HRc1.out Try.underlying38 rfl (by rw [Lc1.out]; kernel_rfl) ?_))
  refine (markArchiveResult_c (arD s) _ f1 w7 1 _ R1.out M1.out (by omega) (by rw [HN.out]; omega) HY.out).mono ?_
  rintro e w8 ⟨rfl, hw, hr⟩
  rw [HN.out]
  have dK : ∀ g, (g = w.heap.size ∨ g = w2.heap.size ∨ g = w5.heap.size) → ∀ a, a ∈ f1 → a.block ≠ g := fun g hg a ha => by have := M1.out.from_ a ha; have := T1.out a ha; have := Qw2.out; have := Qw1.out; have := KS.out.lt; have := Qw3.out; have := Qw4.out; have := KA0.out; have := Z0.out; rcases hg with rfl | rfl | rfl <;> omega
  have d01 : ∀ a, a ∈ f0 → a ∉ f1 := fun a ha hb => by have := T0.out a ha; have := M1.out.from_ a hb; have := Qw3.out; have := Qw4.out; omega
  have KS := Lib.hid (KS.out.wrote hw (dK _ (.inl rfl))); have KA := Lib.hid (KA.out.wrote hw (dK _ (.inr (.inl rfl)))); have KB := Lib.hid (KB.out.wrote hw (dK _ (.inr (.inr rfl))))
  have R0 := Lib.hid (rArchiveResult.local_ _ _ _ _ _ R0.out (hw.same (rArchiveResult.fixed _ _ _ _ R0.out) d01))
  have BB := Lib.hid (BB.out.trans (hw.below BB.out.size (fun a ha => by have := M1.out.from_ a ha; have := Qw4.out; have := Qw3.out; have := Qw2.out; have := Qw1.out; have := Z0.out; omega)))
  have HRS := Lib.hid (Blk.range KS.out 0 [.int .i64 s.groups, .int .i64 s.column, .int .i64 s.data, .int .i64 s.spare, .int .i64 s.rows, .int .i64 s.cap, .int .i64 s.batch, .int .i64 s.queue, .int .i64 s.stage] rfl)
  have HRc0 := Lib.hid (KA.out.rangeAll)
  have HRc1 := Lib.hid (KB.out.rangeAll)
  have R1 := Lib.hid hr; have Qw8 := Lib.hid hw.size; clear hw hr dK d01 M1
  go_wp2_with (first | (refine wpList_load_mid rfl 38 (.tmp 4) rfl w5.heap.size 0 rfl c1 _ HRc1.out Try.underlying38 rfl (by rw [Lc1.out]; kernel_rfl) ?_))
  refine (heldArchiveResult_c (arD s) _ f1 w8 1 R1.out (by omega) (by rw [HN.out]; omega) HY.out).mono ?_
  rintro e w9 ⟨rfl, hb⟩
  rw [HN.out]
  have KS := Lib.hid (KS.out.below hb KS.out.lt); have KA := Lib.hid (KA.out.below hb KA.out.lt); have KB := Lib.hid (KB.out.below hb KB.out.lt); have R0 := Lib.hid (Repr.below rArchiveResult.local_ rArchiveResult.fixed R0.out hb); have R1 := Lib.hid (Repr.below rArchiveResult.local_ rArchiveResult.fixed R1.out hb); have BB := Lib.hid (BB.out.trans (hb.mono BB.out.size)); have HRS := Lib.hid (Blk.range KS.out 0 [.int .i64 s.groups, .int .i64 s.column, .int .i64 s.data, .int .i64 s.spare, .int .i64 s.rows, .int .i64 s.cap, .int .i64 s.batch, .int .i64 s.queue, .int .i64 s.stage] rfl)
  clear hb
  have HRc0 := Lib.hid (KA.out.rangeAll)
  have HRc1 := Lib.hid (KB.out.rangeAll)
  have hnn : ¬ ((1 + n : Nat) : Int) < 0 := by omega
  go_wp2_with (first | (refine wpList_load_mid rfl 23 (.tmp 1) rfl w.heap.size 0 rfl [.int .i64 s.groups, .int .i64 s.column, .int .i64 s.data, .int .i64 s.spare, .int .i64 s.rows, .int .i64 s.cap, .int .i64 s.batch, .int .i64 s.queue, .int .i64 s.stage] _ HRS.out Try.underlying23 rfl (by kernel_rfl) ?_))
  refine (toShape_c s _).mono ?_
  rintro e w10 ⟨rfl, hb⟩
  have KS := Lib.hid (KS.out.below hb KS.out.lt); have KA := Lib.hid (KA.out.below hb KA.out.lt); have KB := Lib.hid (KB.out.below hb KB.out.lt); have R0 := Lib.hid (Repr.below rArchiveResult.local_ rArchiveResult.fixed R0.out hb); have R1 := Lib.hid (Repr.below rArchiveResult.local_ rArchiveResult.fixed R1.out hb); have BB := Lib.hid (BB.out.trans (hb.mono BB.out.size)); have HRS := Lib.hid (Blk.range KS.out 0 [.int .i64 s.groups, .int .i64 s.column, .int .i64 s.data, .int .i64 s.spare, .int .i64 s.rows, .int .i64 s.cap, .int .i64 s.batch, .int .i64 s.queue, .int .i64 s.stage] rfl)
  clear hb
  unfold shV
  go_wp2_with fail
  refine (implNewArchive_u s _).mono ?_
  rintro e w11 ⟨c2, f2, rfl, r2, -, hb⟩
  have KS := Lib.hid (KS.out.below hb KS.out.lt); have KA := Lib.hid (KA.out.below hb KA.out.lt); have KB := Lib.hid (KB.out.below hb KB.out.lt); have R0 := Lib.hid (Repr.below rArchiveResult.local_ rArchiveResult.fixed R0.out hb); have R1 := Lib.hid (Repr.below rArchiveResult.local_ rArchiveResult.fixed R1.out hb); have BB := Lib.hid (BB.out.trans (hb.mono BB.out.size)); have HRS := Lib.hid (Blk.range KS.out 0 [.int .i64 s.groups, .int .i64 s.column, .int .i64 s.data, .int .i64 s.spare, .int .i64 s.rows, .int .i64 s.cap, .int .i64 s.batch, .int .i64 s.queue, .int .i64 s.stage] rfl)
  clear hb
  have R2 := Lib.hid r2; have Lc2 := Lib.hid (rArchiveResult.wide _ _ _ _ r2); have Oc2 := Lib.hid (rArchiveResult.ones _ _ _ _ r2); clear r2
  go_wp2_with (first | (refine wpList_store_mid rfl 38 (.tmp 7) (.tmp 31) rfl w11.heap.size 0 c2.toArray rfl rfl (Blk.there (Blk.new w11 38 #[.int .i64 0, .int .i64 0, .int .i64 0, .int .i64 0, .int .i64 0, .int .i64 0, .int .i64 0, .int .i64 0, .int .i64 0, .int .i64 0, .int .i64 0, .slice none 0 0, .slice none 0 0, .slice none 0 0, .int .i64 0, .int .i64 0, .bool false, .slice none 0 0, .slice none 0 0, .slice none 0 0, .int .i64 0, .int .i64 0]) _ (by rw [List.size_toArray, Lc2.out]; decide)) (by rw [List.size_toArray, Lc2.out]; kernel_rfl) (all_oneCell_toArray Oc2.out) ?_; rw [List.toList_toArray]; obtain ⟨hbx, kx⟩ := boxed w11 38 #[.int .i64 0, .int .i64 0, .int .i64 0, .int .i64 0, .int .i64 0, .int .i64 0, .int .i64 0, .int .i64 0, .int .i64 0, .int .i64 0, .int .i64 0, .slice none 0 0, .slice none 0 0, .slice none 0 0, .int .i64 0, .int .i64 0, .bool false, .slice none 0 0, .slice none 0 0, .slice none 0 0, .int .i64 0, .int .i64 0] c2 Lc2.out.symm; obtain ⟨w12, hw⟩ : ∃ u, (w11.alloc (.cells #[.int .i64 0, .int .i64 0, .int .i64 0, .int .i64 0, .int .i64 0, .int .i64 0, .int .i64 0, .int .i64 0, .int .i64 0, .int .i64 0, .int .i64 0, .slice none 0 0, .slice none 0 0, .slice none 0 0, .int .i64 0, .int .i64 0, .bool false, .slice none 0 0, .slice none 0 0, .slice none 0 0, .int .i64 0, .int .i64 0] 38)).setCells w11.heap.size 0 c2 = u := ⟨_, rfl⟩; rw [hw] at hbx kx ⊢; clear hw; have KS := Lib.hid (KS.out.below hbx KS.out.lt); have KA := Lib.hid (KA.out.below hbx KA.out.lt); have KB := Lib.hid (KB.out.below hbx KB.out.lt); have R0 := Lib.hid (Repr.below rArchiveResult.local_ rArchiveResult.fixed R0.out hbx); have R1 := Lib.hid (Repr.below rArchiveResult.local_ rArchiveResult.fixed R1.out hbx); have R2 := Lib.hid (Repr.below rArchiveResult.local_ rArchiveResult.fixed R2.out hbx); have BB := Lib.hid (BB.out.trans (hbx.mono BB.out.size)); have HRS := Lib.hid (Blk.range KS.out 0 [.int .i64 s.groups, .int .i64 s.column, .int .i64 s.data, .int .i64 s.spare, .int .i64 s.rows, .int .i64 s.cap, .int .i64 s.batch, .int .i64 s.queue, .int .i64 s.stage] rfl); have KC := Lib.hid kx; have HRc2 := Lib.hid (kx.rangeAll); have Qw12 := Lib.hid hbx.size; have KC0 := Lib.hid kx.lt; have HRc0 := Lib.hid (KA.out.rangeAll); clear hbx kx) | (refine wpList_load_mid rfl 38 (.tmp 7) rfl w11.heap.size 0 rfl c2 _ HRc2.out Try.underlying38 rfl (by rw [Lc2.out]; kernel_rfl) ?_) | (refine wpList_load_mid rfl 38 (.tmp 3) rfl w2.heap.size 0 rfl c0 _ HRc0.out Try.underlying38 rfl (by rw [Lc0.out]; kernel_rfl) ?_))
  refine (eqArchiveResult_c _ _ _ _ _ _ w12 R2.out R0.out).mono ?_
  rintro e w13 ⟨rfl, hb⟩
  rw [decide_eq_true rfl]
  have KS := Lib.hid (KS.out.below hb KS.out.lt); have KA := Lib.hid (KA.out.below hb KA.out.lt); have KB := Lib.hid (KB.out.below hb KB.out.lt); have KC := Lib.hid (KC.out.below hb KC.out.lt); have R0 := Lib.hid (Repr.below rArchiveResult.local_ rArchiveResult.fixed R0.out hb); have R1 := Lib.hid (Repr.below rArchiveResult.local_ rArchiveResult.fixed R1.out hb); have R2 := Lib.hid (Repr.below rArchiveResult.local_ rArchiveResult.fixed R2.out hb); have BB := Lib.hid (BB.out.trans (hb.mono BB.out.size)); have HRS := Lib.hid (Blk.range KS.out 0 [.int .i64 s.groups, .int .i64 s.column, .int .i64 s.data, .int .i64 s.spare, .int .i64 s.rows, .int .i64 s.cap, .int .i64 s.batch, .int .i64 s.queue, .int .i64 s.stage] rfl)
  clear hb
  have HRc1 := Lib.hid (KB.out.rangeAll)
  go_wp2_with (first | (refine wpList_load_mid rfl 38 (.tmp 4) rfl w5.heap.size 0 rfl c1 _ HRc1.out Try.underlying38 rfl (by rw [Lc1.out]; kernel_rfl) ?_))
  refine (heldArchiveResult_c (arD s) _ f1 w13 1 R1.out (by omega) (by rw [HN.out]; omega) HY.out).mono ?_
  rintro e w14 ⟨rfl, hb⟩
  rw [HN.out]
  have BB := Lib.hid (BB.out.trans (hb.mono BB.out.size)); clear hb
  go_wp2_with fail
  go_ret
  exact ⟨rfl, BB.out⟩

end Go.Proofs.Ytabainoplkpppaa
