/-
  The laws' eq* over the archive's types: what each call does (printed by wip/lawtypes.py).
-/
import Derived.Test.YtabainoplkpppaaEqs0
namespace Go.Proofs.Ytabainoplkpppaa
open Go.RowKit Go.Sort

set_option maxHeartbeats 1000000 in
set_option maxRecDepth 100000 in
theorem eqShape_c (d1 d2 : ShapeD) (cs1 cs2 : List Value) (f1 f2 : List Addr) (w : World) (h1 : rShape w f1 cs1 d1) (h2 : rShape w f2 cs2 d2) :
    Calls Try.prog 36 #[.agg cs1.toArray, .agg cs2.toArray] w fun e w' => e = .returned (.bool (decide (d1 = d2))) ∧ Below w.heap.size w w' := by
  obtain ⟨x0, x1, x2, x3, x4, x5, x6, x7, x8⟩ := d1
  obtain ⟨y0, y1, y2, y3, y4, y5, y6, y7, y8⟩ := d2
  dsimp only [rShape] at h1 h2
  obtain ⟨e, -, ao0, ao1, ao2, ao3, ao4, ao5, ao6, ao7, ao8⟩ := h1
  subst e
  obtain ⟨e, -, bo0, bo1, bo2, bo3, bo4, bo5, bo6, bo7, bo8⟩ := h2
  subst e
  obtain ⟨rb, hrb⟩ : ∃ rb, decide ((⟨x0, x1, x2, x3, x4, x5, x6, x7, x8⟩ : ShapeD) = ⟨y0, y1, y2, y3, y4, y5, y6, y7, y8⟩) = rb := ⟨_, rfl⟩
  rw [hrb]
  have RB := Lib.hid hrb; clear hrb
  have BB := Lib.hid (show ∀ o1 o2 : Obj, Below w.heap.size w ((w.alloc o1).alloc o2) from fun o1 o2 => ((Below.refl _ _).alloc (Nat.le_refl _) _).alloc (by simp) _)
  by_cases q : x0 = y0
  case neg =>
    have e1 : rb = false := by rw [← RB.out]; exact decide_eq_false (fun e => q (congrArg ShapeD.groups e))
    subst e1
    have hq : (x0 != y0) = true := bne_iff_ne.2 q
    clear q
    go_enter Try.func36, Try.ntmps36
    go_wp2_with fail
    go_ret
    exact ⟨rfl, (BB.out _ _)⟩
  subst q
  by_cases q : x1 = y1
  case neg =>
    have e1 : rb = false := by rw [← RB.out]; exact decide_eq_false (fun e => q (congrArg ShapeD.column e))
    subst e1
    have hq : (x1 != y1) = true := bne_iff_ne.2 q
    clear q
    go_enter Try.func36, Try.ntmps36
    go_wp2_with fail
    go_ret
    exact ⟨rfl, (BB.out _ _)⟩
  subst q
  by_cases q : x2 = y2
  case neg =>
    have e1 : rb = false := by rw [← RB.out]; exact decide_eq_false (fun e => q (congrArg ShapeD.data e))
    subst e1
    have hq : (x2 != y2) = true := bne_iff_ne.2 q
    clear q
    go_enter Try.func36, Try.ntmps36
    go_wp2_with fail
    go_ret
    exact ⟨rfl, (BB.out _ _)⟩
  subst q
  by_cases q : x3 = y3
  case neg =>
    have e1 : rb = false := by rw [← RB.out]; exact decide_eq_false (fun e => q (congrArg ShapeD.spare e))
    subst e1
    have hq : (x3 != y3) = true := bne_iff_ne.2 q
    clear q
    go_enter Try.func36, Try.ntmps36
    go_wp2_with fail
    go_ret
    exact ⟨rfl, (BB.out _ _)⟩
  subst q
  by_cases q : x4 = y4
  case neg =>
    have e1 : rb = false := by rw [← RB.out]; exact decide_eq_false (fun e => q (congrArg ShapeD.rows e))
    subst e1
    have hq : (x4 != y4) = true := bne_iff_ne.2 q
    clear q
    go_enter Try.func36, Try.ntmps36
    go_wp2_with fail
    go_ret
    exact ⟨rfl, (BB.out _ _)⟩
  subst q
  by_cases q : x5 = y5
  case neg =>
    have e1 : rb = false := by rw [← RB.out]; exact decide_eq_false (fun e => q (congrArg ShapeD.cap e))
    subst e1
    have hq : (x5 != y5) = true := bne_iff_ne.2 q
    clear q
    go_enter Try.func36, Try.ntmps36
    go_wp2_with fail
    go_ret
    exact ⟨rfl, (BB.out _ _)⟩
  subst q
  by_cases q : x6 = y6
  case neg =>
    have e1 : rb = false := by rw [← RB.out]; exact decide_eq_false (fun e => q (congrArg ShapeD.batch e))
    subst e1
    have hq : (x6 != y6) = true := bne_iff_ne.2 q
    clear q
    go_enter Try.func36, Try.ntmps36
    go_wp2_with fail
    go_ret
    exact ⟨rfl, (BB.out _ _)⟩
  subst q
  by_cases q : x7 = y7
  case neg =>
    have e1 : rb = false := by rw [← RB.out]; exact decide_eq_false (fun e => q (congrArg ShapeD.queue e))
    subst e1
    have hq : (x7 != y7) = true := bne_iff_ne.2 q
    clear q
    go_enter Try.func36, Try.ntmps36
    go_wp2_with fail
    go_ret
    exact ⟨rfl, (BB.out _ _)⟩
  subst q
  by_cases q : x8 = y8
  case neg =>
    have e1 : rb = false := by rw [← RB.out]; exact decide_eq_false (fun e => q (congrArg ShapeD.stage e))
    subst e1
    have hq : (x8 != y8) = true := bne_iff_ne.2 q
    clear q
    go_enter Try.func36, Try.ntmps36
    go_wp2_with fail
    go_ret
    exact ⟨rfl, (BB.out _ _)⟩
  subst q
  have e1 : rb = true := by rw [← RB.out]; exact decide_eq_true rfl
  subst e1
  go_enter Try.func36, Try.ntmps36
  go_wp2_with fail
  go_ret
  exact ⟨rfl, (BB.out _ _)⟩

set_option maxHeartbeats 1000000 in
set_option maxRecDepth 100000 in
theorem eqBlock_c (d1 d2 : BlockD) (cs1 cs2 : List Value) (f1 f2 : List Addr) (w : World) (h1 : rBlock w f1 cs1 d1) (h2 : rBlock w f2 cs2 d2) :
    Calls Try.prog 73 #[.agg cs1.toArray, .agg cs2.toArray] w fun e w' => e = .returned (.bool (decide (d1 = d2))) ∧ Below w.heap.size w w' := by
  obtain ⟨x0, x1⟩ := d1
  obtain ⟨y0, y1⟩ := d2
  dsimp only [rBlock] at h1 h2
  obtain ⟨av0, af0, e, -, ao0, ah0⟩ := h1
  subst e
  obtain ⟨bv0, bf0, e, -, bo0, bh0⟩ := h2
  subst e
  have aH0 := Lib.hid ah0
  obtain ⟨aA0, ac0, rfl, -⟩ := rSl.head ah0
  clear ah0
  have bH0 := Lib.hid bh0
  obtain ⟨bA0, bc0, rfl, -⟩ := rSl.head bh0
  clear bh0
  obtain ⟨rb, hrb⟩ : ∃ rb, decide ((⟨x0, x1⟩ : BlockD) = ⟨y0, y1⟩) = rb := ⟨_, rfl⟩
  rw [hrb]
  have RB := Lib.hid hrb; clear hrb
  have BB := Lib.hid (show ∀ o1 o2 : Obj, Below w.heap.size w ((w.alloc o1).alloc o2) from fun o1 o2 => ((Below.refl _ _).alloc (Nat.le_refl _) _).alloc (by simp) _)
  by_cases q : x0 = y0
  case neg =>
    have e1 : rb = false := by rw [← RB.out]; exact decide_eq_false (fun e => q (congrArg BlockD.stamp e))
    subst e1
    have hq : (x0 != y0) = true := bne_iff_ne.2 q
    clear q
    go_enter Try.func73, Try.ntmps73
    go_wp2_with fail
    go_ret
    exact ⟨rfl, (BB.out _ _)⟩
  subst q
  go_enter Try.func73, Try.ntmps73
  go_wp2_with fail
  refine (eqByteS_c _ _ x1 y1 _ _ _ (rSl.below rByte.local_ rByte.fixed aH0.out (BB.out _ _)) (rSl.below rByte.local_ rByte.fixed bH0.out (BB.out _ _))).mono ?_
  rintro e u1 ⟨rfl, hb⟩
  have hK1 := Blk.below ((Blk.new w 68 #[.int .i64 x0, .slice aA0 x1.length ac0]).alloc (.cells #[.int .i64 x0, .slice bA0 y1.length bc0] 68)) hb (by simp; omega)
  have hK2 := Blk.below (Blk.new (w.alloc (.cells #[.int .i64 x0, .slice aA0 x1.length ac0] 68)) 68 #[.int .i64 x0, .slice bA0 y1.length bc0]) hb (by simp)
  rw [World.size_alloc] at hK2
  have K1 := Lib.hid hK1; have K2 := Lib.hid hK2
  clear hK1 hK2
  have BB0 := BB.out; clear BB; have BB := Lib.hid ((BB0 _ _).trans (hb.mono (BB0 _ _).size)); clear hb BB0
  by_cases q : x1 = y1
  case neg =>
    have e1 : rb = false := by rw [← RB.out]; exact decide_eq_false (fun e => q (congrArg BlockD.bytes e))
    subst e1
    rw [decide_eq_false q]
    clear q
    go_wp2_with fail
    go_ret
    exact ⟨rfl, BB.out⟩
  rw [decide_eq_true q]
  subst q
  have e1 : rb = true := by rw [← RB.out]; exact decide_eq_true rfl
  subst e1
  go_wp2_with fail
  go_ret
  exact ⟨rfl, BB.out⟩

set_option maxHeartbeats 1000000 in
set_option maxRecDepth 100000 in
theorem eqBlockS_c (v1 v2 : Value) (xs ys : List BlockD) (f1 f2 : List Addr) (w : World) (h1 : rSl 2 rBlock w f1 v1 xs) (h2 : rSl 2 rBlock w f2 v2 ys) :
    Calls Try.prog 71 #[v1, v2] w fun e w' => e = .returned (.bool (decide (xs = ys))) ∧ Below w.heap.size w w' := by
  obtain ⟨A1, c1, rfl, hc1, hm1, hx⟩ := rSl.at_ rBlock.fixed (by decide) h1
  obtain ⟨A2, c2, rfl, hc2, hm2, hy⟩ := rSl.at_ rBlock.fixed (by decide) h2
  clear h1 h2
  obtain ⟨rb, hrb⟩ : ∃ rb, decide (xs = ys) = rb := ⟨_, rfl⟩
  rw [hrb]
  have RB := Lib.hid hrb; clear hrb
  have HX := Lib.hid hx; have HY := Lib.hid hy; clear hx hy
  by_cases hl : xs.length = ys.length
  · have hb := bneNat_f hl
    have HL := Lib.hid hl; clear hl
    go_enter Try.func71, Try.ntmps71
    go_wp2
    go_loopw [4, 5] (fun r i wr => ∃ k : Nat, k ≤ xs.length ∧ i = .int .i64 k ∧ r = .bool false ∧ xs.take k = ys.take k ∧ Below w.heap.size w wr) (fun _ i _ => xs.length - (intOf i).toNat)
    case atStart => exact ⟨0, by omega, rfl, rfl, by simp, Below.refl _ _⟩
    case round =>
      obtain ⟨k, hk, rfl, rfl, ht, hbl⟩ := hrel
      have HT := Lib.hid ht; clear ht
      by_cases hlt : k < xs.length
      · have hlt2 : k < ys.length := by rw [← HL.out]; exact hlt
        obtain ⟨a1, b1, o1, cs1, g1, e1, at1⟩ := HX.out k hlt
        obtain ⟨a2, b2, o2, cs2, g2, e2, at2⟩ := HY.out k hlt2
        subst e1 e2
        replace at1 := at1.below rBlock.local_ hbl
        replace at2 := at2.below rBlock.local_ hbl
        have HB := Lib.hid hbl; clear hbl
        clear HX HY
        obtain ⟨av0, af0, e, -, -, ah0⟩ := at1.reads
        subst e
        obtain ⟨aA0, ac0, rfl, -⟩ := rSl.head ah0
        clear ah0
        obtain ⟨bv0, bf0, e, -, -, bh0⟩ := at2.reads
        subst e
        obtain ⟨bA0, bc0, rfl, -⟩ := rSl.head bh0
        clear bh0
        have hP1 := at1.place; have hP2 := at2.place
        have ap0 := cell_regrown (at1.cell 0 (by simp))
        have ap1 := cell_regrown (at1.cell 1 (by simp))
        simp only [List.getElem_cons_zero, List.getElem_cons_succ, Nat.add_zero] at ap0 ap1
        have bp0 := cell_regrown (at2.cell 0 (by simp))
        have bp1 := cell_regrown (at2.cell 1 (by simp))
        simp only [List.getElem_cons_zero, List.getElem_cons_succ, Nat.add_zero] at bp0 bp1
        have hc : ∀ d os, Calls Try.prog 73 #[.agg #[.int .i64 xs[k].stamp, .slice aA0 xs[k].bytes.length ac0], .agg #[.int .i64 ys[k].stamp, .slice bA0 ys[k].bytes.length bc0]] (grow (redrawn wr d) os) fun e w'' => e = .returned (.bool (decide (xs[k] = ys[k]))) ∧ ∃ p : Regrown, w'' = grow (redrawn wr p.d) p.os :=
          fun d os => Calls.regrown_of (eqBlock_c xs[k] ys[k] _ _ g1 g2 _ (Repr.below rBlock.local_ rBlock.fixed at1.reads (below_regrown wr d os)) (Repr.below rBlock.local_ rBlock.fixed at2.reads (below_regrown wr d os)))
        obtain ⟨bb, hbb⟩ : ∃ bb, decide (xs[k] = ys[k]) = bb := ⟨_, rfl⟩
        rw [hbb] at hc
        have HBB := Lib.hid hbb; clear hbb
        have HC := Lib.hid hc; clear hc
        have AT1 := Lib.hid at1; have AT2 := Lib.hid at2
        clear at1 at2
        go_wp2_with fail
        refine wp_region_quiet_below (by kernel_rfl) (by kernel_rfl) ?_
        repeat (first | go_big_quiet_step (exact HC.out _ _) | quiet_step (exact HC.out _ _))
        refine wpQuiet_nil ?_
        intro _ hw'
        obtain ⟨⟨dq, osq⟩, hw''⟩ := hw'
        subst hw''
        have HB1 := Lib.hid (HB.out.trans ((below_regrown wr dq osq).mono HB.out.size))
        cases bb with
        | true =>
          have he := of_decide_eq_true HBB.out
          have HE := Lib.hid he; clear he
          go_wp2_with fail
          go_roundw
          case rel => exact ⟨k+1, by omega, by go_num, rfl, takeEq' HT.out hlt hlt2 HE.out, HB1.out⟩
          case measure => simp [intOf]; omega
        | false =>
          have he := of_decide_eq_false HBB.out
          have e1 : rb = false := by rw [← RB.out]; exact decide_eq_false (fun e => he (by subst e; rfl))
          subst e1
          clear he
          go_wp2_with fail
          go_ret
          exact ⟨rfl, HB1.out⟩
      · have hk' : k = xs.length := by omega
        have H := HT.out
        rw [hk', List.take_length, HL.out, List.take_length] at H
        have e1 : rb = true := by rw [← RB.out]; exact decide_eq_true H
        subst e1
        have HB := Lib.hid hbl
        clear H hk' HX HY hbl
        go_wp2
        go_ret
        exact ⟨rfl, HB.out⟩
  · have hb := bneNat_t hl
    have e1 : rb = false := by rw [← RB.out]; exact decide_eq_false (fun e => hl (by rw [e]))
    subst e1
    clear HX HY
    go_enter Try.func71, Try.ntmps71
    go_wp2
    go_ret
    exact ⟨rfl, Below.refl _ _⟩

set_option maxHeartbeats 1000000 in
set_option maxRecDepth 100000 in
theorem eqDrive_c (d1 d2 : DriveD) (cs1 cs2 : List Value) (f1 f2 : List Addr) (w : World) (h1 : rDrive w f1 cs1 d1) (h2 : rDrive w f2 cs2 d2) :
    Calls Try.prog 66 #[.agg cs1.toArray, .agg cs2.toArray] w fun e w' => e = .returned (.bool (decide (d1 = d2))) ∧ Below w.heap.size w w' := by
  obtain ⟨x0, x1⟩ := d1
  obtain ⟨y0, y1⟩ := d2
  dsimp only [rDrive] at h1 h2
  obtain ⟨av0, af0, e, -, ah0⟩ := h1
  subst e
  obtain ⟨bv0, bf0, e, -, bh0⟩ := h2
  subst e
  have aH0 := Lib.hid ah0
  obtain ⟨aA0, ac0, rfl, -⟩ := rSl.head ah0
  clear ah0
  have bH0 := Lib.hid bh0
  obtain ⟨bA0, bc0, rfl, -⟩ := rSl.head bh0
  clear bh0
  obtain ⟨rb, hrb⟩ : ∃ rb, decide ((⟨x0, x1⟩ : DriveD) = ⟨y0, y1⟩) = rb := ⟨_, rfl⟩
  rw [hrb]
  have RB := Lib.hid hrb; clear hrb
  have BB := Lib.hid (show ∀ o1 o2 : Obj, Below w.heap.size w ((w.alloc o1).alloc o2) from fun o1 o2 => ((Below.refl _ _).alloc (Nat.le_refl _) _).alloc (by simp) _)
  by_cases q : x0 = y0
  case neg =>
    have e1 : rb = false := by rw [← RB.out]; exact decide_eq_false (fun e => q (congrArg DriveD.wiped e))
    subst e1
    have hq : (!x0 == y0) = true := by simpa using q
    clear q
    go_enter Try.func66, Try.ntmps66
    go_wp2_with fail
    go_ret
    exact ⟨rfl, (BB.out _ _)⟩
  subst q
  go_enter Try.func66, Try.ntmps66
  go_wp2_with fail
  refine (eqBlockS_c _ _ x1 y1 _ _ _ (rSl.below rBlock.local_ rBlock.fixed aH0.out (BB.out _ _)) (rSl.below rBlock.local_ rBlock.fixed bH0.out (BB.out _ _))).mono ?_
  rintro e u1 ⟨rfl, hb⟩
  have hK1 := Blk.below ((Blk.new w 58 #[.bool x0, .slice aA0 x1.length ac0]).alloc (.cells #[.bool x0, .slice bA0 y1.length bc0] 58)) hb (by simp; omega)
  have hK2 := Blk.below (Blk.new (w.alloc (.cells #[.bool x0, .slice aA0 x1.length ac0] 58)) 58 #[.bool x0, .slice bA0 y1.length bc0]) hb (by simp)
  rw [World.size_alloc] at hK2
  have K1 := Lib.hid hK1; have K2 := Lib.hid hK2
  clear hK1 hK2
  have BB0 := BB.out; clear BB; have BB := Lib.hid ((BB0 _ _).trans (hb.mono (BB0 _ _).size)); clear hb BB0
  by_cases q : x1 = y1
  case neg =>
    have e1 : rb = false := by rw [← RB.out]; exact decide_eq_false (fun e => q (congrArg DriveD.blocks e))
    subst e1
    rw [decide_eq_false q]
    clear q
    go_wp2_with fail
    go_ret
    exact ⟨rfl, BB.out⟩
  rw [decide_eq_true q]
  subst q
  have e1 : rb = true := by rw [← RB.out]; exact decide_eq_true rfl
  subst e1
  go_wp2_with fail
  go_ret
  exact ⟨rfl, BB.out⟩

set_option maxHeartbeats 1000000 in
set_option maxRecDepth 100000 in
theorem eqDriveS_c (v1 v2 : Value) (xs ys : List DriveD) (f1 f2 : List Addr) (w : World) (h1 : rSl 2 rDrive w f1 v1 xs) (h2 : rSl 2 rDrive w f2 v2 ys) :
    Calls Try.prog 55 #[v1, v2] w fun e w' => e = .returned (.bool (decide (xs = ys))) ∧ Below w.heap.size w w' := by
  obtain ⟨A1, c1, rfl, hc1, hm1, hx⟩ := rSl.at_ rDrive.fixed (by decide) h1
  obtain ⟨A2, c2, rfl, hc2, hm2, hy⟩ := rSl.at_ rDrive.fixed (by decide) h2
  clear h1 h2
  obtain ⟨rb, hrb⟩ : ∃ rb, decide (xs = ys) = rb := ⟨_, rfl⟩
  rw [hrb]
  have RB := Lib.hid hrb; clear hrb
  have HX := Lib.hid hx; have HY := Lib.hid hy; clear hx hy
  by_cases hl : xs.length = ys.length
  · have hb := bneNat_f hl
    have HL := Lib.hid hl; clear hl
    go_enter Try.func55, Try.ntmps55
    go_wp2
    go_loopw [4, 5] (fun r i wr => ∃ k : Nat, k ≤ xs.length ∧ i = .int .i64 k ∧ r = .bool false ∧ xs.take k = ys.take k ∧ Below w.heap.size w wr) (fun _ i _ => xs.length - (intOf i).toNat)
    case atStart => exact ⟨0, by omega, rfl, rfl, by simp, Below.refl _ _⟩
    case round =>
      obtain ⟨k, hk, rfl, rfl, ht, hbl⟩ := hrel
      have HT := Lib.hid ht; clear ht
      by_cases hlt : k < xs.length
      · have hlt2 : k < ys.length := by rw [← HL.out]; exact hlt
        obtain ⟨a1, b1, o1, cs1, g1, e1, at1⟩ := HX.out k hlt
        obtain ⟨a2, b2, o2, cs2, g2, e2, at2⟩ := HY.out k hlt2
        subst e1 e2
        replace at1 := at1.below rDrive.local_ hbl
        replace at2 := at2.below rDrive.local_ hbl
        have HB := Lib.hid hbl; clear hbl
        clear HX HY
        obtain ⟨av0, af0, e, -, ah0⟩ := at1.reads
        subst e
        obtain ⟨aA0, ac0, rfl, -⟩ := rSl.head ah0
        clear ah0
        obtain ⟨bv0, bf0, e, -, bh0⟩ := at2.reads
        subst e
        obtain ⟨bA0, bc0, rfl, -⟩ := rSl.head bh0
        clear bh0
        have hP1 := at1.place; have hP2 := at2.place
        have ap0 := cell_regrown (at1.cell 0 (by simp))
        have ap1 := cell_regrown (at1.cell 1 (by simp))
        simp only [List.getElem_cons_zero, List.getElem_cons_succ, Nat.add_zero] at ap0 ap1
        have bp0 := cell_regrown (at2.cell 0 (by simp))
        have bp1 := cell_regrown (at2.cell 1 (by simp))
        simp only [List.getElem_cons_zero, List.getElem_cons_succ, Nat.add_zero] at bp0 bp1
        have hc : ∀ d os, Calls Try.prog 66 #[.agg #[.bool xs[k].wiped, .slice aA0 xs[k].blocks.length ac0], .agg #[.bool ys[k].wiped, .slice bA0 ys[k].blocks.length bc0]] (grow (redrawn wr d) os) fun e w'' => e = .returned (.bool (decide (xs[k] = ys[k]))) ∧ ∃ p : Regrown, w'' = grow (redrawn wr p.d) p.os :=
          fun d os => Calls.regrown_of (eqDrive_c xs[k] ys[k] _ _ g1 g2 _ (Repr.below rDrive.local_ rDrive.fixed at1.reads (below_regrown wr d os)) (Repr.below rDrive.local_ rDrive.fixed at2.reads (below_regrown wr d os)))
        obtain ⟨bb, hbb⟩ : ∃ bb, decide (xs[k] = ys[k]) = bb := ⟨_, rfl⟩
        rw [hbb] at hc
        have HBB := Lib.hid hbb; clear hbb
        have HC := Lib.hid hc; clear hc
        have AT1 := Lib.hid at1; have AT2 := Lib.hid at2
        clear at1 at2
        go_wp2_with fail
        refine wp_region_quiet_below (by kernel_rfl) (by kernel_rfl) ?_
        repeat (first | go_big_quiet_step (exact HC.out _ _) | quiet_step (exact HC.out _ _))
        refine wpQuiet_nil ?_
        intro _ hw'
        obtain ⟨⟨dq, osq⟩, hw''⟩ := hw'
        subst hw''
        have HB1 := Lib.hid (HB.out.trans ((below_regrown wr dq osq).mono HB.out.size))
        cases bb with
        | true =>
          have he := of_decide_eq_true HBB.out
          have HE := Lib.hid he; clear he
          go_wp2_with fail
          go_roundw
          case rel => exact ⟨k+1, by omega, by go_num, rfl, takeEq' HT.out hlt hlt2 HE.out, HB1.out⟩
          case measure => simp [intOf]; omega
        | false =>
          have he := of_decide_eq_false HBB.out
          have e1 : rb = false := by rw [← RB.out]; exact decide_eq_false (fun e => he (by subst e; rfl))
          subst e1
          clear he
          go_wp2_with fail
          go_ret
          exact ⟨rfl, HB1.out⟩
      · have hk' : k = xs.length := by omega
        have H := HT.out
        rw [hk', List.take_length, HL.out, List.take_length] at H
        have e1 : rb = true := by rw [← RB.out]; exact decide_eq_true H
        subst e1
        have HB := Lib.hid hbl
        clear H hk' HX HY hbl
        go_wp2
        go_ret
        exact ⟨rfl, HB.out⟩
  · have hb := bneNat_t hl
    have e1 : rb = false := by rw [← RB.out]; exact decide_eq_false (fun e => hl (by rw [e]))
    subst e1
    clear HX HY
    go_enter Try.func55, Try.ntmps55
    go_wp2
    go_ret
    exact ⟨rfl, Below.refl _ _⟩

set_option maxHeartbeats 1000000 in
set_option maxRecDepth 100000 in
theorem eqDriveSS_c (v1 v2 : Value) (xs ys : List (List DriveD)) (f1 f2 : List Addr) (w : World) (h1 : rSl 1 (rSlice 2 rDrive) w f1 v1 xs) (h2 : rSl 1 (rSlice 2 rDrive) w f2 v2 ys) :
    Calls Try.prog 37 #[v1, v2] w fun e w' => e = .returned (.bool (decide (xs = ys))) ∧ Below w.heap.size w w' := by
  obtain ⟨A1, c1, rfl, hc1, hm1, hx⟩ := rSl.at_ (rSlice.fixed rDrive.fixed) (by decide) h1
  obtain ⟨A2, c2, rfl, hc2, hm2, hy⟩ := rSl.at_ (rSlice.fixed rDrive.fixed) (by decide) h2
  clear h1 h2
  obtain ⟨rb, hrb⟩ : ∃ rb, decide (xs = ys) = rb := ⟨_, rfl⟩
  rw [hrb]
  have RB := Lib.hid hrb; clear hrb
  have HX := Lib.hid hx; have HY := Lib.hid hy; clear hx hy
  by_cases hl : xs.length = ys.length
  · have hb := bneNat_f hl
    have HL := Lib.hid hl; clear hl
    go_enter Try.func37, Try.ntmps37
    go_wp2
    go_loopw [4, 5] (fun r i wr => ∃ k : Nat, k ≤ xs.length ∧ i = .int .i64 k ∧ r = .bool false ∧ xs.take k = ys.take k ∧ Below w.heap.size w wr) (fun _ i _ => xs.length - (intOf i).toNat)
    case atStart => exact ⟨0, by omega, rfl, rfl, by simp, Below.refl _ _⟩
    case round =>
      obtain ⟨k, hk, rfl, rfl, ht, hbl⟩ := hrel
      have HT := Lib.hid ht; clear ht
      by_cases hlt : k < xs.length
      · have hlt2 : k < ys.length := by rw [← HL.out]; exact hlt
        obtain ⟨a1, b1, o1, cs1, g1, e1, at1⟩ := HX.out k hlt
        obtain ⟨a2, b2, o2, cs2, g2, e2, at2⟩ := HY.out k hlt2
        subst e1 e2
        replace at1 := at1.below (rSlice.local_ rDrive.local_) hbl
        replace at2 := at2.below (rSlice.local_ rDrive.local_) hbl
        have HB := Lib.hid hbl; clear hbl
        clear HX HY
        obtain ⟨av0, e, ah0⟩ := at1.reads
        subst e
        obtain ⟨aA0, ac0, rfl, -⟩ := rSl.head ah0
        clear ah0
        obtain ⟨bv0, e, bh0⟩ := at2.reads
        subst e
        obtain ⟨bA0, bc0, rfl, -⟩ := rSl.head bh0
        clear bh0
        have hP1 := at1.place; have hP2 := at2.place
        simp only [Nat.mul_one] at hP1 hP2
        have ap0 := cell_regrown (at1.cell 0 (by simp))
        simp only [List.getElem_cons_zero, Nat.add_zero] at ap0
        have bp0 := cell_regrown (at2.cell 0 (by simp))
        simp only [List.getElem_cons_zero, Nat.add_zero] at bp0
        have hc : ∀ d os, Calls Try.prog 55 #[.slice aA0 xs[k].length ac0, .slice bA0 ys[k].length bc0] (grow (redrawn wr d) os) fun e w'' => e = .returned (.bool (decide (xs[k] = ys[k]))) ∧ ∃ p : Regrown, w'' = grow (redrawn wr p.d) p.os :=
          fun d os => Calls.regrown_of (eqDriveS_c _ _ xs[k] ys[k] g1 g2 _ (rSl.below rDrive.local_ rDrive.fixed (rSlice.one at1.reads) (below_regrown wr d os)) (rSl.below rDrive.local_ rDrive.fixed (rSlice.one at2.reads) (below_regrown wr d os)))
        obtain ⟨bb, hbb⟩ : ∃ bb, decide (xs[k] = ys[k]) = bb := ⟨_, rfl⟩
        rw [hbb] at hc
        have HBB := Lib.hid hbb; clear hbb
        have HC := Lib.hid hc; clear hc
        have AT1 := Lib.hid at1; have AT2 := Lib.hid at2
        clear at1 at2
        go_wp2_with fail
        refine wp_region_quiet_below (by kernel_rfl) (by kernel_rfl) ?_
        repeat (first | go_big_quiet_step (exact HC.out _ _) | quiet_step (exact HC.out _ _))
        refine wpQuiet_nil ?_
        intro _ hw'
        obtain ⟨⟨dq, osq⟩, hw''⟩ := hw'
        subst hw''
        have HB1 := Lib.hid (HB.out.trans ((below_regrown wr dq osq).mono HB.out.size))
        cases bb with
        | true =>
          have he := of_decide_eq_true HBB.out
          have HE := Lib.hid he; clear he
          go_wp2_with fail
          go_roundw
          case rel => exact ⟨k+1, by omega, by go_num, rfl, takeEq' HT.out hlt hlt2 HE.out, HB1.out⟩
          case measure => simp [intOf]; omega
        | false =>
          have he := of_decide_eq_false HBB.out
          have e1 : rb = false := by rw [← RB.out]; exact decide_eq_false (fun e => he (by subst e; rfl))
          subst e1
          clear he
          go_wp2_with fail
          go_ret
          exact ⟨rfl, HB1.out⟩
      · have hk' : k = xs.length := by omega
        have H := HT.out
        rw [hk', List.take_length, HL.out, List.take_length] at H
        have e1 : rb = true := by rw [← RB.out]; exact decide_eq_true H
        subst e1
        have HB := Lib.hid hbl
        clear H hk' HX HY hbl
        go_wp2
        go_ret
        exact ⟨rfl, HB.out⟩
  · have hb := bneNat_t hl
    have e1 : rb = false := by rw [← RB.out]; exact decide_eq_false (fun e => hl (by rw [e]))
    subst e1
    clear HX HY
    go_enter Try.func37, Try.ntmps37
    go_wp2
    go_ret
    exact ⟨rfl, Below.refl _ _⟩

end Go.Proofs.Ytabainoplkpppaa
