/-
  The laws' eq* over the archive's types: what each call does (printed by wip/lawtypes.py).
-/
import Derived.Test.YtabainoplkpppaaEqs4
namespace Go.Proofs.Ytabainoplkpppaa
open Go.RowKit Go.Sort

set_option maxHeartbeats 1000000 in
set_option maxRecDepth 100000 in
theorem eqArchiveResult_c (d1 d2 : ArchiveResultD) (cs1 cs2 : List Value) (f1 f2 : List Addr) (w : World) (h1 : rArchiveResult w f1 cs1 d1) (h2 : rArchiveResult w f2 cs2 d2) :
    Calls Try.prog 7 #[.agg cs1.toArray, .agg cs2.toArray] w fun e w' => e = .returned (.bool (decide (d1 = d2))) ∧ Below w.heap.size w w' := by
  obtain ⟨x0, x1, x2⟩ := d1
  obtain ⟨y0, y1, y2⟩ := d2
  dsimp only [rArchiveResult] at h1 h2
  obtain ⟨av0, av1, av2, av3, av4, av5, af0, af1, af2, af3, af4, af5, e, -, ao0, ao1, ao2, ao3, ao4, ao5, ao6, ao7, ao8, ao9, ao10, ao11, ao12, ao13, ao14, ah0, ah1, ah2, ah3, ah4, ah5⟩ := h1
  subst e
  obtain ⟨bv0, bv1, bv2, bv3, bv4, bv5, bf0, bf1, bf2, bf3, bf4, bf5, e, -, bo0, bo1, bo2, bo3, bo4, bo5, bo6, bo7, bo8, bo9, bo10, bo11, bo12, bo13, bo14, bh0, bh1, bh2, bh3, bh4, bh5⟩ := h2
  subst e
  have aH0 := Lib.hid ah0
  obtain ⟨aA0, ac0, rfl, -⟩ := rSl.head ah0
  clear ah0
  have aH1 := Lib.hid ah1
  obtain ⟨aA1, ac1, rfl, -⟩ := rSl.head ah1
  clear ah1
  have aH2 := Lib.hid ah2
  obtain ⟨aA2, ac2, rfl, -⟩ := rSl.head ah2
  clear ah2
  have aH3 := Lib.hid ah3
  obtain ⟨aA3, ac3, rfl, -⟩ := rSl.head ah3
  clear ah3
  have aH4 := Lib.hid ah4
  obtain ⟨aA4, ac4, rfl, -⟩ := rSl.head ah4
  clear ah4
  have aH5 := Lib.hid ah5
  obtain ⟨aA5, ac5, rfl, -⟩ := rSl.head ah5
  clear ah5
  have bH0 := Lib.hid bh0
  obtain ⟨bA0, bc0, rfl, -⟩ := rSl.head bh0
  clear bh0
  have bH1 := Lib.hid bh1
  obtain ⟨bA1, bc1, rfl, -⟩ := rSl.head bh1
  clear bh1
  have bH2 := Lib.hid bh2
  obtain ⟨bA2, bc2, rfl, -⟩ := rSl.head bh2
  clear bh2
  have bH3 := Lib.hid bh3
  obtain ⟨bA3, bc3, rfl, -⟩ := rSl.head bh3
  clear bh3
  have bH4 := Lib.hid bh4
  obtain ⟨bA4, bc4, rfl, -⟩ := rSl.head bh4
  clear bh4
  have bH5 := Lib.hid bh5
  obtain ⟨bA5, bc5, rfl, -⟩ := rSl.head bh5
  clear bh5
  obtain ⟨rb, hrb⟩ : ∃ rb, decide ((⟨x0, x1, x2⟩ : ArchiveResultD) = ⟨y0, y1, y2⟩) = rb := ⟨_, rfl⟩
  rw [hrb]
  have RB := Lib.hid hrb; clear hrb
  have BB := Lib.hid (show ∀ o1 o2 : Obj, Below w.heap.size w ((w.alloc o1).alloc o2) from fun o1 o2 => ((Below.refl _ _).alloc (Nat.le_refl _) _).alloc (by simp) _)
  by_cases q : x0 = y0
  case neg =>
    have e1 : rb = false := by rw [← RB.out]; exact decide_eq_false (fun e => q (congrArg ArchiveResultD.code e))
    subst e1
    have hq : (x0 != y0) = true := bne_iff_ne.2 q
    clear q
    go_enter Try.func7, Try.ntmps7
    go_wp2_with fail
    go_ret
    exact ⟨rfl, (BB.out _ _)⟩
  subst q
  by_cases q : x1 = y1
  case neg =>
    have e1 : rb = false := by rw [← RB.out]; exact decide_eq_false (fun e => q (congrArg ArchiveResultD.id e))
    subst e1
    have hq : (x1 != y1) = true := bne_iff_ne.2 q
    clear q
    go_enter Try.func7, Try.ntmps7
    go_wp2_with fail
    go_ret
    exact ⟨rfl, (BB.out _ _)⟩
  subst q
  have hR1 := Blk.range ((Blk.new w 38 #[.int .i64 x0, .int .i64 x1, .int .i64 x2.world.shape.groups, .int .i64 x2.world.shape.column, .int .i64 x2.world.shape.data, .int .i64 x2.world.shape.spare, .int .i64 x2.world.shape.rows, .int .i64 x2.world.shape.cap, .int .i64 x2.world.shape.batch, .int .i64 x2.world.shape.queue, .int .i64 x2.world.shape.stage, .slice aA0 x2.world.groups.length ac0, .slice aA1 x2.world.on.length ac1, .slice aA2 x2.world.tapes.length ac2, .int .i64 x2.world.writes, .int .i64 x2.world.stop, .bool x2.world.down, .slice aA3 x2.desk.queues.length ac3, .slice aA4 x2.desk.aside.length ac4, .slice aA5 x2.desk.answers.length ac5, .int .i64 x2.desk.turn, .int .i64 x2.desk.next]).alloc (.cells #[.int .i64 x0, .int .i64 x1, .int .i64 y2.world.shape.groups, .int .i64 y2.world.shape.column, .int .i64 y2.world.shape.data, .int .i64 y2.world.shape.spare, .int .i64 y2.world.shape.rows, .int .i64 y2.world.shape.cap, .int .i64 y2.world.shape.batch, .int .i64 y2.world.shape.queue, .int .i64 y2.world.shape.stage, .slice bA0 y2.world.groups.length bc0, .slice bA1 y2.world.on.length bc1, .slice bA2 y2.world.tapes.length bc2, .int .i64 y2.world.writes, .int .i64 y2.world.stop, .bool y2.world.down, .slice bA3 y2.desk.queues.length bc3, .slice bA4 y2.desk.aside.length bc4, .slice bA5 y2.desk.answers.length bc5, .int .i64 y2.desk.turn, .int .i64 y2.desk.next] 38)) 2 [.int .i64 x2.world.shape.groups, .int .i64 x2.world.shape.column, .int .i64 x2.world.shape.data, .int .i64 x2.world.shape.spare, .int .i64 x2.world.shape.rows, .int .i64 x2.world.shape.cap, .int .i64 x2.world.shape.batch, .int .i64 x2.world.shape.queue, .int .i64 x2.world.shape.stage, .slice aA0 x2.world.groups.length ac0, .slice aA1 x2.world.on.length ac1, .slice aA2 x2.world.tapes.length ac2, .int .i64 x2.world.writes, .int .i64 x2.world.stop, .bool x2.world.down, .slice aA3 x2.desk.queues.length ac3, .slice aA4 x2.desk.aside.length ac4, .slice aA5 x2.desk.answers.length ac5, .int .i64 x2.desk.turn, .int .i64 x2.desk.next] rfl
  have hR2 := Blk.range (Blk.new (w.alloc (.cells #[.int .i64 x0, .int .i64 x1, .int .i64 x2.world.shape.groups, .int .i64 x2.world.shape.column, .int .i64 x2.world.shape.data, .int .i64 x2.world.shape.spare, .int .i64 x2.world.shape.rows, .int .i64 x2.world.shape.cap, .int .i64 x2.world.shape.batch, .int .i64 x2.world.shape.queue, .int .i64 x2.world.shape.stage, .slice aA0 x2.world.groups.length ac0, .slice aA1 x2.world.on.length ac1, .slice aA2 x2.world.tapes.length ac2, .int .i64 x2.world.writes, .int .i64 x2.world.stop, .bool x2.world.down, .slice aA3 x2.desk.queues.length ac3, .slice aA4 x2.desk.aside.length ac4, .slice aA5 x2.desk.answers.length ac5, .int .i64 x2.desk.turn, .int .i64 x2.desk.next] 38)) 38 #[.int .i64 x0, .int .i64 x1, .int .i64 y2.world.shape.groups, .int .i64 y2.world.shape.column, .int .i64 y2.world.shape.data, .int .i64 y2.world.shape.spare, .int .i64 y2.world.shape.rows, .int .i64 y2.world.shape.cap, .int .i64 y2.world.shape.batch, .int .i64 y2.world.shape.queue, .int .i64 y2.world.shape.stage, .slice bA0 y2.world.groups.length bc0, .slice bA1 y2.world.on.length bc1, .slice bA2 y2.world.tapes.length bc2, .int .i64 y2.world.writes, .int .i64 y2.world.stop, .bool y2.world.down, .slice bA3 y2.desk.queues.length bc3, .slice bA4 y2.desk.aside.length bc4, .slice bA5 y2.desk.answers.length bc5, .int .i64 y2.desk.turn, .int .i64 y2.desk.next]) 2 [.int .i64 y2.world.shape.groups, .int .i64 y2.world.shape.column, .int .i64 y2.world.shape.data, .int .i64 y2.world.shape.spare, .int .i64 y2.world.shape.rows, .int .i64 y2.world.shape.cap, .int .i64 y2.world.shape.batch, .int .i64 y2.world.shape.queue, .int .i64 y2.world.shape.stage, .slice bA0 y2.world.groups.length bc0, .slice bA1 y2.world.on.length bc1, .slice bA2 y2.world.tapes.length bc2, .int .i64 y2.world.writes, .int .i64 y2.world.stop, .bool y2.world.down, .slice bA3 y2.desk.queues.length bc3, .slice bA4 y2.desk.aside.length bc4, .slice bA5 y2.desk.answers.length bc5, .int .i64 y2.desk.turn, .int .i64 y2.desk.next] rfl
  rw [World.size_alloc] at hR2
  have HR1 := Lib.hid hR1; have HR2 := Lib.hid hR2; clear hR1 hR2
  go_enter Try.func7, Try.ntmps7
  go_wp2_with (first | (refine wpList_load_mid rfl 36 (.tmp 15) rfl w.heap.size 2 rfl [.int .i64 x2.world.shape.groups, .int .i64 x2.world.shape.column, .int .i64 x2.world.shape.data, .int .i64 x2.world.shape.spare, .int .i64 x2.world.shape.rows, .int .i64 x2.world.shape.cap, .int .i64 x2.world.shape.batch, .int .i64 x2.world.shape.queue, .int .i64 x2.world.shape.stage, .slice aA0 x2.world.groups.length ac0, .slice aA1 x2.world.on.length ac1, .slice aA2 x2.world.tapes.length ac2, .int .i64 x2.world.writes, .int .i64 x2.world.stop, .bool x2.world.down, .slice aA3 x2.desk.queues.length ac3, .slice aA4 x2.desk.aside.length ac4, .slice aA5 x2.desk.answers.length ac5, .int .i64 x2.desk.turn, .int .i64 x2.desk.next] _ HR1.out Try.underlying36 rfl (by kernel_rfl) ?_) | (refine wpList_load_mid rfl 36 (.tmp 17) rfl (w.heap.size + 1) 2 rfl [.int .i64 y2.world.shape.groups, .int .i64 y2.world.shape.column, .int .i64 y2.world.shape.data, .int .i64 y2.world.shape.spare, .int .i64 y2.world.shape.rows, .int .i64 y2.world.shape.cap, .int .i64 y2.world.shape.batch, .int .i64 y2.world.shape.queue, .int .i64 y2.world.shape.stage, .slice bA0 y2.world.groups.length bc0, .slice bA1 y2.world.on.length bc1, .slice bA2 y2.world.tapes.length bc2, .int .i64 y2.world.writes, .int .i64 y2.world.stop, .bool y2.world.down, .slice bA3 y2.desk.queues.length bc3, .slice bA4 y2.desk.aside.length bc4, .slice bA5 y2.desk.answers.length bc5, .int .i64 y2.desk.turn, .int .i64 y2.desk.next] _ HR2.out Try.underlying36 rfl (by kernel_rfl) ?_))
  refine (eqArchive_c x2 y2 _ _ _ _ _ ⟨_, _, _, _, _, _, _, _, _, _, _, _, rfl, rfl, ao2, ao3, ao4, ao5, ao6, ao7, ao8, ao9, ao10, ao11, ao12, ao13, ao14, rSl.below (rSlice.local_ rDrive.local_) (rSlice.fixed rDrive.fixed) aH0.out (BB.out _ _), rSl.below rInt.local_ rInt.fixed aH1.out (BB.out _ _), rSl.below rTape.local_ rTape.fixed aH2.out (BB.out _ _), rSl.below (rSlice.local_ rTicket.local_) (rSlice.fixed rTicket.fixed) aH3.out (BB.out _ _), rSl.below rTicket.local_ rTicket.fixed aH4.out (BB.out _ _), rSl.below rAnswer.local_ rAnswer.fixed aH5.out (BB.out _ _)⟩ ⟨_, _, _, _, _, _, _, _, _, _, _, _, rfl, rfl, bo2, bo3, bo4, bo5, bo6, bo7, bo8, bo9, bo10, bo11, bo12, bo13, bo14, rSl.below (rSlice.local_ rDrive.local_) (rSlice.fixed rDrive.fixed) bH0.out (BB.out _ _), rSl.below rInt.local_ rInt.fixed bH1.out (BB.out _ _), rSl.below rTape.local_ rTape.fixed bH2.out (BB.out _ _), rSl.below (rSlice.local_ rTicket.local_) (rSlice.fixed rTicket.fixed) bH3.out (BB.out _ _), rSl.below rTicket.local_ rTicket.fixed bH4.out (BB.out _ _), rSl.below rAnswer.local_ rAnswer.fixed bH5.out (BB.out _ _)⟩).mono ?_
  rintro e u2 ⟨rfl, hb⟩
  have hK1 := Blk.below ((Blk.new w 38 #[.int .i64 x0, .int .i64 x1, .int .i64 x2.world.shape.groups, .int .i64 x2.world.shape.column, .int .i64 x2.world.shape.data, .int .i64 x2.world.shape.spare, .int .i64 x2.world.shape.rows, .int .i64 x2.world.shape.cap, .int .i64 x2.world.shape.batch, .int .i64 x2.world.shape.queue, .int .i64 x2.world.shape.stage, .slice aA0 x2.world.groups.length ac0, .slice aA1 x2.world.on.length ac1, .slice aA2 x2.world.tapes.length ac2, .int .i64 x2.world.writes, .int .i64 x2.world.stop, .bool x2.world.down, .slice aA3 x2.desk.queues.length ac3, .slice aA4 x2.desk.aside.length ac4, .slice aA5 x2.desk.answers.length ac5, .int .i64 x2.desk.turn, .int .i64 x2.desk.next]).alloc (.cells #[.int .i64 x0, .int .i64 x1, .int .i64 y2.world.shape.groups, .int .i64 y2.world.shape.column, .int .i64 y2.world.shape.data, .int .i64 y2.world.shape.spare, .int .i64 y2.world.shape.rows, .int .i64 y2.world.shape.cap, .int .i64 y2.world.shape.batch, .int .i64 y2.world.shape.queue, .int .i64 y2.world.shape.stage, .slice bA0 y2.world.groups.length bc0, .slice bA1 y2.world.on.length bc1, .slice bA2 y2.world.tapes.length bc2, .int .i64 y2.world.writes, .int .i64 y2.world.stop, .bool y2.world.down, .slice bA3 y2.desk.queues.length bc3, .slice bA4 y2.desk.aside.length bc4, .slice bA5 y2.desk.answers.length bc5, .int .i64 y2.desk.turn, .int .i64 y2.desk.next] 38)) hb (by simp; omega)
  have hK2 := Blk.below (Blk.new (w.alloc (.cells #[.int .i64 x0, .int .i64 x1, .int .i64 x2.world.shape.groups, .int .i64 x2.world.shape.column, .int .i64 x2.world.shape.data, .int .i64 x2.world.shape.spare, .int .i64 x2.world.shape.rows, .int .i64 x2.world.shape.cap, .int .i64 x2.world.shape.batch, .int .i64 x2.world.shape.queue, .int .i64 x2.world.shape.stage, .slice aA0 x2.world.groups.length ac0, .slice aA1 x2.world.on.length ac1, .slice aA2 x2.world.tapes.length ac2, .int .i64 x2.world.writes, .int .i64 x2.world.stop, .bool x2.world.down, .slice aA3 x2.desk.queues.length ac3, .slice aA4 x2.desk.aside.length ac4, .slice aA5 x2.desk.answers.length ac5, .int .i64 x2.desk.turn, .int .i64 x2.desk.next] 38)) 38 #[.int .i64 x0, .int .i64 x1, .int .i64 y2.world.shape.groups, .int .i64 y2.world.shape.column, .int .i64 y2.world.shape.data, .int .i64 y2.world.shape.spare, .int .i64 y2.world.shape.rows, .int .i64 y2.world.shape.cap, .int .i64 y2.world.shape.batch, .int .i64 y2.world.shape.queue, .int .i64 y2.world.shape.stage, .slice bA0 y2.world.groups.length bc0, .slice bA1 y2.world.on.length bc1, .slice bA2 y2.world.tapes.length bc2, .int .i64 y2.world.writes, .int .i64 y2.world.stop, .bool y2.world.down, .slice bA3 y2.desk.queues.length bc3, .slice bA4 y2.desk.aside.length bc4, .slice bA5 y2.desk.answers.length bc5, .int .i64 y2.desk.turn, .int .i64 y2.desk.next]) hb (by simp)
  rw [World.size_alloc] at hK2
  have K1 := Lib.hid hK1; have K2 := Lib.hid hK2
  clear hK1 hK2
  have BB0 := BB.out; clear BB; have BB := Lib.hid ((BB0 _ _).trans (hb.mono (BB0 _ _).size)); clear hb BB0
  by_cases q : x2 = y2
  case neg =>
    have e1 : rb = false := by rw [← RB.out]; exact decide_eq_false (fun e => q (congrArg ArchiveResultD.archive e))
    subst e1
    rw [decide_eq_false q]
    clear q
    go_wp2_with fail
    go_ret
    exact ⟨rfl, BB.out⟩
  rw [decide_eq_true q]
  subst q
  have e1 : rb = true := by rw [← RB.out]; exact decide_eq_true rfl
  subst e1
  go_wp2_with fail
  go_ret
  exact ⟨rfl, BB.out⟩

end Go.Proofs.Ytabainoplkpppaa
