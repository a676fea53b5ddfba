/-
  The laws' eq* over the archive's types: what each call does (printed by wip/lawtypes.py).
-/
import Derived.Test.YtabainoplkpppaaEqs1
import Derived.Test.YtabainoplkpppaaEqs2
import Derived.Test.YtabainoplkpppaaEqs3
namespace Go.Proofs.Ytabainoplkpppaa
open Go.RowKit Go.Sort

set_option maxHeartbeats 1000000 in
set_option maxRecDepth 100000 in
theorem eqWorld_c (d1 d2 : WorldD) (cs1 cs2 : List Value) (f1 f2 : List Addr) (w : World) (h1 : rWorld w f1 cs1 d1) (h2 : rWorld w f2 cs2 d2) :
    Calls Try.prog 28 #[.agg cs1.toArray, .agg cs2.toArray] w fun e w' => e = .returned (.bool (decide (d1 = d2))) ∧ Below w.heap.size w w' := by
  obtain ⟨x0, x1, x2, x3, x4, x5, x6⟩ := d1
  obtain ⟨y0, y1, y2, y3, y4, y5, y6⟩ := d2
  dsimp only [rWorld] at h1 h2
  obtain ⟨av0, av1, av2, af0, af1, af2, e, -, ao0, ao1, ao2, ao3, ao4, ao5, ao6, ao7, ao8, ao9, ao10, ah0, ah1, ah2⟩ := h1
  subst e
  obtain ⟨bv0, bv1, bv2, bf0, bf1, bf2, e, -, bo0, bo1, bo2, bo3, bo4, bo5, bo6, bo7, bo8, bo9, bo10, bh0, bh1, bh2⟩ := h2
  subst e
  have aH0 := Lib.hid ah0
  obtain ⟨aA0, ac0, rfl, -⟩ := rSl.head ah0
  clear ah0
  have aH1 := Lib.hid ah1
  obtain ⟨aA1, ac1, rfl, -⟩ := rSl.head ah1
  clear ah1
  have aH2 := Lib.hid ah2
  obtain ⟨aA2, ac2, rfl, -⟩ := rSl.head ah2
  clear ah2
  have bH0 := Lib.hid bh0
  obtain ⟨bA0, bc0, rfl, -⟩ := rSl.head bh0
  clear bh0
  have bH1 := Lib.hid bh1
  obtain ⟨bA1, bc1, rfl, -⟩ := rSl.head bh1
  clear bh1
  have bH2 := Lib.hid bh2
  obtain ⟨bA2, bc2, rfl, -⟩ := rSl.head bh2
  clear bh2
  obtain ⟨rb, hrb⟩ : ∃ rb, decide ((⟨x0, x1, x2, x3, x4, x5, x6⟩ : WorldD) = ⟨y0, y1, y2, y3, y4, y5, y6⟩) = rb := ⟨_, rfl⟩
  rw [hrb]
  have RB := Lib.hid hrb; clear hrb
  have BB := Lib.hid (show ∀ o1 o2 : Obj, Below w.heap.size w ((w.alloc o1).alloc o2) from fun o1 o2 => ((Below.refl _ _).alloc (Nat.le_refl _) _).alloc (by simp) _)
  go_enter Try.func28, Try.ntmps28
  go_wp2_with fail
  refine (eqShape_c x0 y0 _ _ _ _ _ ⟨rfl, rfl, ao0, ao1, ao2, ao3, ao4, ao5, ao6, ao7, ao8⟩ ⟨rfl, rfl, bo0, bo1, bo2, bo3, bo4, bo5, bo6, bo7, bo8⟩).mono ?_
  rintro e u0 ⟨rfl, hb⟩
  have hK1 := Blk.below ((Blk.new w 29 #[.int .i64 x0.groups, .int .i64 x0.column, .int .i64 x0.data, .int .i64 x0.spare, .int .i64 x0.rows, .int .i64 x0.cap, .int .i64 x0.batch, .int .i64 x0.queue, .int .i64 x0.stage, .slice aA0 x1.length ac0, .slice aA1 x2.length ac1, .slice aA2 x3.length ac2, .int .i64 x4, .int .i64 x5, .bool x6]).alloc (.cells #[.int .i64 y0.groups, .int .i64 y0.column, .int .i64 y0.data, .int .i64 y0.spare, .int .i64 y0.rows, .int .i64 y0.cap, .int .i64 y0.batch, .int .i64 y0.queue, .int .i64 y0.stage, .slice bA0 y1.length bc0, .slice bA1 y2.length bc1, .slice bA2 y3.length bc2, .int .i64 y4, .int .i64 y5, .bool y6] 29)) hb (by simp; omega)
  have hK2 := Blk.below (Blk.new (w.alloc (.cells #[.int .i64 x0.groups, .int .i64 x0.column, .int .i64 x0.data, .int .i64 x0.spare, .int .i64 x0.rows, .int .i64 x0.cap, .int .i64 x0.batch, .int .i64 x0.queue, .int .i64 x0.stage, .slice aA0 x1.length ac0, .slice aA1 x2.length ac1, .slice aA2 x3.length ac2, .int .i64 x4, .int .i64 x5, .bool x6] 29)) 29 #[.int .i64 y0.groups, .int .i64 y0.column, .int .i64 y0.data, .int .i64 y0.spare, .int .i64 y0.rows, .int .i64 y0.cap, .int .i64 y0.batch, .int .i64 y0.queue, .int .i64 y0.stage, .slice bA0 y1.length bc0, .slice bA1 y2.length bc1, .slice bA2 y3.length bc2, .int .i64 y4, .int .i64 y5, .bool y6]) hb (by simp)
  rw [World.size_alloc] at hK2
  have K1 := Lib.hid hK1; have K2 := Lib.hid hK2
  have k1_9 := Blk.cell hK1 9; have k2_9 := Blk.cell hK2 9
  have k1_10 := Blk.cell hK1 10; have k2_10 := Blk.cell hK2 10
  have k1_11 := Blk.cell hK1 11; have k2_11 := Blk.cell hK2 11
  have k1_12 := Blk.cell hK1 12; have k2_12 := Blk.cell hK2 12
  have k1_13 := Blk.cell hK1 13; have k2_13 := Blk.cell hK2 13
  have k1_14 := Blk.cell hK1 14; have k2_14 := Blk.cell hK2 14
  simp only [List.getElem?_toArray, List.getElem?_cons_zero, List.getElem?_cons_succ] at k1_9 k2_9 k1_10 k2_10 k1_11 k2_11 k1_12 k2_12 k1_13 k2_13 k1_14 k2_14
  clear hK1 hK2
  have BB0 := BB.out; clear BB; have BB := Lib.hid ((BB0 _ _).trans (hb.mono (BB0 _ _).size)); clear hb BB0
  by_cases q : x0 = y0
  case neg =>
    have e1 : rb = false := by rw [← RB.out]; exact decide_eq_false (fun e => q (congrArg WorldD.shape e))
    subst e1
    rw [decide_eq_false q]
    clear q
    go_wp2_with fail
    go_ret
    exact ⟨rfl, BB.out⟩
  rw [decide_eq_true q]
  subst q
  go_wp2_with fail
  refine (eqDriveSS_c _ _ x1 y1 _ _ _ (rSl.below (rSlice.local_ rDrive.local_) (rSlice.fixed rDrive.fixed) aH0.out BB.out) (rSl.below (rSlice.local_ rDrive.local_) (rSlice.fixed rDrive.fixed) bH0.out BB.out)).mono ?_
  rintro e u1 ⟨rfl, hb⟩
  have hK1 := Blk.below K1.out hb K1.out.lt
  have hK2 := Blk.below K2.out hb K2.out.lt
  clear K1 K2 k1_9 k2_9 k1_10 k2_10 k1_11 k2_11 k1_12 k2_12 k1_13 k2_13 k1_14 k2_14
  have K1 := Lib.hid hK1; have K2 := Lib.hid hK2
  have k1_10 := Blk.cell hK1 10; have k2_10 := Blk.cell hK2 10
  have k1_11 := Blk.cell hK1 11; have k2_11 := Blk.cell hK2 11
  have k1_12 := Blk.cell hK1 12; have k2_12 := Blk.cell hK2 12
  have k1_13 := Blk.cell hK1 13; have k2_13 := Blk.cell hK2 13
  have k1_14 := Blk.cell hK1 14; have k2_14 := Blk.cell hK2 14
  simp only [List.getElem?_toArray, List.getElem?_cons_zero, List.getElem?_cons_succ] at k1_10 k2_10 k1_11 k2_11 k1_12 k2_12 k1_13 k2_13 k1_14 k2_14
  clear hK1 hK2
  replace BB := Lib.hid (BB.out.trans (hb.mono (BB.out).size)); clear hb
  by_cases q : x1 = y1
  case neg =>
    have e1 : rb = false := by rw [← RB.out]; exact decide_eq_false (fun e => q (congrArg WorldD.groups e))
    subst e1
    rw [decide_eq_false q]
    clear q
    go_wp2_with fail
    go_ret
    exact ⟨rfl, BB.out⟩
  rw [decide_eq_true q]
  subst q
  go_wp2_with fail
  refine (eqInt64S_c _ _ x2 y2 _ _ _ (rSl.below rInt.local_ rInt.fixed aH1.out BB.out) (rSl.below rInt.local_ rInt.fixed bH1.out BB.out)).mono ?_
  rintro e u2 ⟨rfl, hb⟩
  have hK1 := Blk.below K1.out hb K1.out.lt
  have hK2 := Blk.below K2.out hb K2.out.lt
  clear K1 K2 k1_10 k2_10 k1_11 k2_11 k1_12 k2_12 k1_13 k2_13 k1_14 k2_14
  have K1 := Lib.hid hK1; have K2 := Lib.hid hK2
  have k1_11 := Blk.cell hK1 11; have k2_11 := Blk.cell hK2 11
  have k1_12 := Blk.cell hK1 12; have k2_12 := Blk.cell hK2 12
  have k1_13 := Blk.cell hK1 13; have k2_13 := Blk.cell hK2 13
  have k1_14 := Blk.cell hK1 14; have k2_14 := Blk.cell hK2 14
  simp only [List.getElem?_toArray, List.getElem?_cons_zero, List.getElem?_cons_succ] at k1_11 k2_11 k1_12 k2_12 k1_13 k2_13 k1_14 k2_14
  clear hK1 hK2
  replace BB := Lib.hid (BB.out.trans (hb.mono (BB.out).size)); clear hb
  by_cases q : x2 = y2
  case neg =>
    have e1 : rb = false := by rw [← RB.out]; exact decide_eq_false (fun e => q (congrArg WorldD.on e))
    subst e1
    rw [decide_eq_false q]
    clear q
    go_wp2_with fail
    go_ret
    exact ⟨rfl, BB.out⟩
  rw [decide_eq_true q]
  subst q
  go_wp2_with fail
  refine (eqTapeS_c _ _ x3 y3 _ _ _ (rSl.below rTape.local_ rTape.fixed aH2.out BB.out) (rSl.below rTape.local_ rTape.fixed bH2.out BB.out)).mono ?_
  rintro e u3 ⟨rfl, hb⟩
  have hK1 := Blk.below K1.out hb K1.out.lt
  have hK2 := Blk.below K2.out hb K2.out.lt
  clear K1 K2 k1_11 k2_11 k1_12 k2_12 k1_13 k2_13 k1_14 k2_14
  have K1 := Lib.hid hK1; have K2 := Lib.hid hK2
  have k1_12 := Blk.cell hK1 12; have k2_12 := Blk.cell hK2 12
  have k1_13 := Blk.cell hK1 13; have k2_13 := Blk.cell hK2 13
  have k1_14 := Blk.cell hK1 14; have k2_14 := Blk.cell hK2 14
  simp only [List.getElem?_toArray, List.getElem?_cons_zero, List.getElem?_cons_succ] at k1_12 k2_12 k1_13 k2_13 k1_14 k2_14
  clear hK1 hK2
  replace BB := Lib.hid (BB.out.trans (hb.mono (BB.out).size)); clear hb
  by_cases q : x3 = y3
  case neg =>
    have e1 : rb = false := by rw [← RB.out]; exact decide_eq_false (fun e => q (congrArg WorldD.tapes e))
    subst e1
    rw [decide_eq_false q]
    clear q
    go_wp2_with fail
    go_ret
    exact ⟨rfl, BB.out⟩
  rw [decide_eq_true q]
  subst q
  by_cases q : x4 = y4
  case neg =>
    have e1 : rb = false := by rw [← RB.out]; exact decide_eq_false (fun e => q (congrArg WorldD.writes e))
    subst e1
    have hq : (x4 != y4) = true := bne_iff_ne.2 q
    clear q
    go_wp2_with fail
    go_ret
    exact ⟨rfl, BB.out⟩
  subst q
  by_cases q : x5 = y5
  case neg =>
    have e1 : rb = false := by rw [← RB.out]; exact decide_eq_false (fun e => q (congrArg WorldD.stop e))
    subst e1
    have hq : (x5 != y5) = true := bne_iff_ne.2 q
    clear q
    go_wp2_with fail
    go_ret
    exact ⟨rfl, BB.out⟩
  subst q
  by_cases q : x6 = y6
  case neg =>
    have e1 : rb = false := by rw [← RB.out]; exact decide_eq_false (fun e => q (congrArg WorldD.down e))
    subst e1
    have hq : (!x6 == y6) = true := by simpa using q
    clear q
    go_wp2_with fail
    go_ret
    exact ⟨rfl, BB.out⟩
  subst q
  have e1 : rb = true := by rw [← RB.out]; exact decide_eq_true rfl
  subst e1
  go_wp2_with fail
  go_ret
  exact ⟨rfl, BB.out⟩

set_option maxHeartbeats 1000000 in
set_option maxRecDepth 100000 in
theorem eqArchive_c (d1 d2 : ArchiveD) (cs1 cs2 : List Value) (f1 f2 : List Addr) (w : World) (h1 : rArchive w f1 cs1 d1) (h2 : rArchive w f2 cs2 d2) :
    Calls Try.prog 15 #[.agg cs1.toArray, .agg cs2.toArray] w fun e w' => e = .returned (.bool (decide (d1 = d2))) ∧ Below w.heap.size w w' := by
  obtain ⟨x0, x1⟩ := d1
  obtain ⟨y0, y1⟩ := d2
  dsimp only [rArchive] at h1 h2
  obtain ⟨av0, av1, av2, av3, av4, av5, af0, af1, af2, af3, af4, af5, e, -, ao0, ao1, ao2, ao3, ao4, ao5, ao6, ao7, ao8, ao9, ao10, ao11, ao12, ah0, ah1, ah2, ah3, ah4, ah5⟩ := h1
  subst e
  obtain ⟨bv0, bv1, bv2, bv3, bv4, bv5, bf0, bf1, bf2, bf3, bf4, bf5, e, -, bo0, bo1, bo2, bo3, bo4, bo5, bo6, bo7, bo8, bo9, bo10, bo11, bo12, bh0, bh1, bh2, bh3, bh4, bh5⟩ := h2
  subst e
  have aH0 := Lib.hid ah0
  obtain ⟨aA0, ac0, rfl, -⟩ := rSl.head ah0
  clear ah0
  have aH1 := Lib.hid ah1
  obtain ⟨aA1, ac1, rfl, -⟩ := rSl.head ah1
  clear ah1
  have aH2 := Lib.hid ah2
  obtain ⟨aA2, ac2, rfl, -⟩ := rSl.head ah2
  clear ah2
  have aH3 := Lib.hid ah3
  obtain ⟨aA3, ac3, rfl, -⟩ := rSl.head ah3
  clear ah3
  have aH4 := Lib.hid ah4
  obtain ⟨aA4, ac4, rfl, -⟩ := rSl.head ah4
  clear ah4
  have aH5 := Lib.hid ah5
  obtain ⟨aA5, ac5, rfl, -⟩ := rSl.head ah5
  clear ah5
  have bH0 := Lib.hid bh0
  obtain ⟨bA0, bc0, rfl, -⟩ := rSl.head bh0
  clear bh0
  have bH1 := Lib.hid bh1
  obtain ⟨bA1, bc1, rfl, -⟩ := rSl.head bh1
  clear bh1
  have bH2 := Lib.hid bh2
  obtain ⟨bA2, bc2, rfl, -⟩ := rSl.head bh2
  clear bh2
  have bH3 := Lib.hid bh3
  obtain ⟨bA3, bc3, rfl, -⟩ := rSl.head bh3
  clear bh3
  have bH4 := Lib.hid bh4
  obtain ⟨bA4, bc4, rfl, -⟩ := rSl.head bh4
  clear bh4
  have bH5 := Lib.hid bh5
  obtain ⟨bA5, bc5, rfl, -⟩ := rSl.head bh5
  clear bh5
  obtain ⟨rb, hrb⟩ : ∃ rb, decide ((⟨x0, x1⟩ : ArchiveD) = ⟨y0, y1⟩) = rb := ⟨_, rfl⟩
  rw [hrb]
  have RB := Lib.hid hrb; clear hrb
  have BB := Lib.hid (show ∀ o1 o2 : Obj, Below w.heap.size w ((w.alloc o1).alloc o2) from fun o1 o2 => ((Below.refl _ _).alloc (Nat.le_refl _) _).alloc (by simp) _)
  have hR1 := Blk.range ((Blk.new w 36 #[.int .i64 x0.shape.groups, .int .i64 x0.shape.column, .int .i64 x0.shape.data, .int .i64 x0.shape.spare, .int .i64 x0.shape.rows, .int .i64 x0.shape.cap, .int .i64 x0.shape.batch, .int .i64 x0.shape.queue, .int .i64 x0.shape.stage, .slice aA0 x0.groups.length ac0, .slice aA1 x0.on.length ac1, .slice aA2 x0.tapes.length ac2, .int .i64 x0.writes, .int .i64 x0.stop, .bool x0.down, .slice aA3 x1.queues.length ac3, .slice aA4 x1.aside.length ac4, .slice aA5 x1.answers.length ac5, .int .i64 x1.turn, .int .i64 x1.next]).alloc (.cells #[.int .i64 y0.shape.groups, .int .i64 y0.shape.column, .int .i64 y0.shape.data, .int .i64 y0.shape.spare, .int .i64 y0.shape.rows, .int .i64 y0.shape.cap, .int .i64 y0.shape.batch, .int .i64 y0.shape.queue, .int .i64 y0.shape.stage, .slice bA0 y0.groups.length bc0, .slice bA1 y0.on.length bc1, .slice bA2 y0.tapes.length bc2, .int .i64 y0.writes, .int .i64 y0.stop, .bool y0.down, .slice bA3 y1.queues.length bc3, .slice bA4 y1.aside.length bc4, .slice bA5 y1.answers.length bc5, .int .i64 y1.turn, .int .i64 y1.next] 36)) 0 [.int .i64 x0.shape.groups, .int .i64 x0.shape.column, .int .i64 x0.shape.data, .int .i64 x0.shape.spare, .int .i64 x0.shape.rows, .int .i64 x0.shape.cap, .int .i64 x0.shape.batch, .int .i64 x0.shape.queue, .int .i64 x0.shape.stage, .slice aA0 x0.groups.length ac0, .slice aA1 x0.on.length ac1, .slice aA2 x0.tapes.length ac2, .int .i64 x0.writes, .int .i64 x0.stop, .bool x0.down] rfl
  have hR2 := Blk.range (Blk.new (w.alloc (.cells #[.int .i64 x0.shape.groups, .int .i64 x0.shape.column, .int .i64 x0.shape.data, .int .i64 x0.shape.spare, .int .i64 x0.shape.rows, .int .i64 x0.shape.cap, .int .i64 x0.shape.batch, .int .i64 x0.shape.queue, .int .i64 x0.shape.stage, .slice aA0 x0.groups.length ac0, .slice aA1 x0.on.length ac1, .slice aA2 x0.tapes.length ac2, .int .i64 x0.writes, .int .i64 x0.stop, .bool x0.down, .slice aA3 x1.queues.length ac3, .slice aA4 x1.aside.length ac4, .slice aA5 x1.answers.length ac5, .int .i64 x1.turn, .int .i64 x1.next] 36)) 36 #[.int .i64 y0.shape.groups, .int .i64 y0.shape.column, .int .i64 y0.shape.data, .int .i64 y0.shape.spare, .int .i64 y0.shape.rows, .int .i64 y0.shape.cap, .int .i64 y0.shape.batch, .int .i64 y0.shape.queue, .int .i64 y0.shape.stage, .slice bA0 y0.groups.length bc0, .slice bA1 y0.on.length bc1, .slice bA2 y0.tapes.length bc2, .int .i64 y0.writes, .int .i64 y0.stop, .bool y0.down, .slice bA3 y1.queues.length bc3, .slice bA4 y1.aside.length bc4, .slice bA5 y1.answers.length bc5, .int .i64 y1.turn, .int .i64 y1.next]) 0 [.int .i64 y0.shape.groups, .int .i64 y0.shape.column, .int .i64 y0.shape.data, .int .i64 y0.shape.spare, .int .i64 y0.shape.rows, .int .i64 y0.shape.cap, .int .i64 y0.shape.batch, .int .i64 y0.shape.queue, .int .i64 y0.shape.stage, .slice bA0 y0.groups.length bc0, .slice bA1 y0.on.length bc1, .slice bA2 y0.tapes.length bc2, .int .i64 y0.writes, .int .i64 y0.stop, .bool y0.down] rfl
  rw [World.size_alloc] at hR2
  have HR1 := Lib.hid hR1; have HR2 := Lib.hid hR2; clear hR1 hR2
  go_enter Try.func15, Try.ntmps15
  go_wp2_with (first | (refine wpList_load_mid rfl 29 (.tmp 5) rfl w.heap.size 0 rfl [.int .i64 x0.shape.groups, .int .i64 x0.shape.column, .int .i64 x0.shape.data, .int .i64 x0.shape.spare, .int .i64 x0.shape.rows, .int .i64 x0.shape.cap, .int .i64 x0.shape.batch, .int .i64 x0.shape.queue, .int .i64 x0.shape.stage, .slice aA0 x0.groups.length ac0, .slice aA1 x0.on.length ac1, .slice aA2 x0.tapes.length ac2, .int .i64 x0.writes, .int .i64 x0.stop, .bool x0.down] _ HR1.out Try.underlying29 rfl (by kernel_rfl) ?_) | (refine wpList_load_mid rfl 29 (.tmp 7) rfl (w.heap.size + 1) 0 rfl [.int .i64 y0.shape.groups, .int .i64 y0.shape.column, .int .i64 y0.shape.data, .int .i64 y0.shape.spare, .int .i64 y0.shape.rows, .int .i64 y0.shape.cap, .int .i64 y0.shape.batch, .int .i64 y0.shape.queue, .int .i64 y0.shape.stage, .slice bA0 y0.groups.length bc0, .slice bA1 y0.on.length bc1, .slice bA2 y0.tapes.length bc2, .int .i64 y0.writes, .int .i64 y0.stop, .bool y0.down] _ HR2.out Try.underlying29 rfl (by kernel_rfl) ?_))
  refine (eqWorld_c x0 y0 _ _ _ _ _ ⟨_, _, _, _, _, _, rfl, rfl, ao0, ao1, ao2, ao3, ao4, ao5, ao6, ao7, ao8, ao9, ao10, rSl.below (rSlice.local_ rDrive.local_) (rSlice.fixed rDrive.fixed) aH0.out (BB.out _ _), rSl.below rInt.local_ rInt.fixed aH1.out (BB.out _ _), rSl.below rTape.local_ rTape.fixed aH2.out (BB.out _ _)⟩ ⟨_, _, _, _, _, _, rfl, rfl, bo0, bo1, bo2, bo3, bo4, bo5, bo6, bo7, bo8, bo9, bo10, rSl.below (rSlice.local_ rDrive.local_) (rSlice.fixed rDrive.fixed) bH0.out (BB.out _ _), rSl.below rInt.local_ rInt.fixed bH1.out (BB.out _ _), rSl.below rTape.local_ rTape.fixed bH2.out (BB.out _ _)⟩).mono ?_
  rintro e u0 ⟨rfl, hb⟩
  have hK1 := Blk.below ((Blk.new w 36 #[.int .i64 x0.shape.groups, .int .i64 x0.shape.column, .int .i64 x0.shape.data, .int .i64 x0.shape.spare, .int .i64 x0.shape.rows, .int .i64 x0.shape.cap, .int .i64 x0.shape.batch, .int .i64 x0.shape.queue, .int .i64 x0.shape.stage, .slice aA0 x0.groups.length ac0, .slice aA1 x0.on.length ac1, .slice aA2 x0.tapes.length ac2, .int .i64 x0.writes, .int .i64 x0.stop, .bool x0.down, .slice aA3 x1.queues.length ac3, .slice aA4 x1.aside.length ac4, .slice aA5 x1.answers.length ac5, .int .i64 x1.turn, .int .i64 x1.next]).alloc (.cells #[.int .i64 y0.shape.groups, .int .i64 y0.shape.column, .int .i64 y0.shape.data, .int .i64 y0.shape.spare, .int .i64 y0.shape.rows, .int .i64 y0.shape.cap, .int .i64 y0.shape.batch, .int .i64 y0.shape.queue, .int .i64 y0.shape.stage, .slice bA0 y0.groups.length bc0, .slice bA1 y0.on.length bc1, .slice bA2 y0.tapes.length bc2, .int .i64 y0.writes, .int .i64 y0.stop, .bool y0.down, .slice bA3 y1.queues.length bc3, .slice bA4 y1.aside.length bc4, .slice bA5 y1.answers.length bc5, .int .i64 y1.turn, .int .i64 y1.next] 36)) hb (by simp; omega)
  have hK2 := Blk.below (Blk.new (w.alloc (.cells #[.int .i64 x0.shape.groups, .int .i64 x0.shape.column, .int .i64 x0.shape.data, .int .i64 x0.shape.spare, .int .i64 x0.shape.rows, .int .i64 x0.shape.cap, .int .i64 x0.shape.batch, .int .i64 x0.shape.queue, .int .i64 x0.shape.stage, .slice aA0 x0.groups.length ac0, .slice aA1 x0.on.length ac1, .slice aA2 x0.tapes.length ac2, .int .i64 x0.writes, .int .i64 x0.stop, .bool x0.down, .slice aA3 x1.queues.length ac3, .slice aA4 x1.aside.length ac4, .slice aA5 x1.answers.length ac5, .int .i64 x1.turn, .int .i64 x1.next] 36)) 36 #[.int .i64 y0.shape.groups, .int .i64 y0.shape.column, .int .i64 y0.shape.data, .int .i64 y0.shape.spare, .int .i64 y0.shape.rows, .int .i64 y0.shape.cap, .int .i64 y0.shape.batch, .int .i64 y0.shape.queue, .int .i64 y0.shape.stage, .slice bA0 y0.groups.length bc0, .slice bA1 y0.on.length bc1, .slice bA2 y0.tapes.length bc2, .int .i64 y0.writes, .int .i64 y0.stop, .bool y0.down, .slice bA3 y1.queues.length bc3, .slice bA4 y1.aside.length bc4, .slice bA5 y1.answers.length bc5, .int .i64 y1.turn, .int .i64 y1.next]) hb (by simp)
  rw [World.size_alloc] at hK2
  have K1 := Lib.hid hK1; have K2 := Lib.hid hK2
  have k1_15 := Blk.cell hK1 15; have k2_15 := Blk.cell hK2 15
  have k1_16 := Blk.cell hK1 16; have k2_16 := Blk.cell hK2 16
  have k1_17 := Blk.cell hK1 17; have k2_17 := Blk.cell hK2 17
  have k1_18 := Blk.cell hK1 18; have k2_18 := Blk.cell hK2 18
  have k1_19 := Blk.cell hK1 19; have k2_19 := Blk.cell hK2 19
  simp only [List.getElem?_toArray, List.getElem?_cons_zero, List.getElem?_cons_succ] at k1_15 k2_15 k1_16 k2_16 k1_17 k2_17 k1_18 k2_18 k1_19 k2_19
  clear hK1 hK2
  have BB0 := BB.out; clear BB; have BB := Lib.hid ((BB0 _ _).trans (hb.mono (BB0 _ _).size)); clear hb BB0
  by_cases q : x0 = y0
  case neg =>
    have e1 : rb = false := by rw [← RB.out]; exact decide_eq_false (fun e => q (congrArg ArchiveD.world e))
    subst e1
    rw [decide_eq_false q]
    clear q
    go_wp2_with fail
    go_ret
    exact ⟨rfl, BB.out⟩
  rw [decide_eq_true q]
  subst q
  go_wp2_with fail
  refine (eqDesk_c x1 y1 _ _ _ _ _ ⟨_, _, _, _, _, _, rfl, rfl, ao11, ao12, rSl.below (rSlice.local_ rTicket.local_) (rSlice.fixed rTicket.fixed) aH3.out BB.out, rSl.below rTicket.local_ rTicket.fixed aH4.out BB.out, rSl.below rAnswer.local_ rAnswer.fixed aH5.out BB.out⟩ ⟨_, _, _, _, _, _, rfl, rfl, bo11, bo12, rSl.below (rSlice.local_ rTicket.local_) (rSlice.fixed rTicket.fixed) bH3.out BB.out, rSl.below rTicket.local_ rTicket.fixed bH4.out BB.out, rSl.below rAnswer.local_ rAnswer.fixed bH5.out BB.out⟩).mono ?_
  rintro e u1 ⟨rfl, hb⟩
  have hK1 := Blk.below K1.out hb K1.out.lt
  have hK2 := Blk.below K2.out hb K2.out.lt
  clear K1 K2 k1_15 k2_15 k1_16 k2_16 k1_17 k2_17 k1_18 k2_18 k1_19 k2_19
  have K1 := Lib.hid hK1; have K2 := Lib.hid hK2
  clear hK1 hK2
  replace BB := Lib.hid (BB.out.trans (hb.mono (BB.out).size)); clear hb
  by_cases q : x1 = y1
  case neg =>
    have e1 : rb = false := by rw [← RB.out]; exact decide_eq_false (fun e => q (congrArg ArchiveD.desk e))
    subst e1
    rw [decide_eq_false q]
    clear q
    go_wp2_with fail
    go_ret
    exact ⟨rfl, BB.out⟩
  rw [decide_eq_true q]
  subst q
  have e1 : rb = true := by rw [← RB.out]; exact decide_eq_true rfl
  subst e1
  go_wp2_with fail
  go_ret
  exact ⟨rfl, BB.out⟩

end Go.Proofs.Ytabainoplkpppaa
