/-
  The laws' eq* over the archive's types: what each call does (printed by wip/lawtypes.py).
-/
import Derived.Test.YtabainoplkpppaaEqs0
namespace Go.Proofs.Ytabainoplkpppaa
open Go.RowKit Go.Sort

set_option maxHeartbeats 1000000 in
set_option maxRecDepth 100000 in
theorem eqTicket_c (d1 d2 : TicketD) (cs1 cs2 : List Value) (f1 f2 : List Addr) (w : World) (h1 : rTicket w f1 cs1 d1) (h2 : rTicket w f2 cs2 d2) :
    Calls Try.prog 57 #[.agg cs1.toArray, .agg cs2.toArray] w fun e w' => e = .returned (.bool (decide (d1 = d2))) ∧ Below w.heap.size w w' := by
  obtain ⟨x0, x1, x2, x3⟩ := d1
  obtain ⟨y0, y1, y2, y3⟩ := d2
  dsimp only [rTicket] at h1 h2
  obtain ⟨e, -, ao0, ao1, ao2, ao3⟩ := h1
  subst e
  obtain ⟨e, -, bo0, bo1, bo2, bo3⟩ := h2
  subst e
  obtain ⟨rb, hrb⟩ : ∃ rb, decide ((⟨x0, x1, x2, x3⟩ : TicketD) = ⟨y0, y1, y2, y3⟩) = rb := ⟨_, rfl⟩
  rw [hrb]
  have RB := Lib.hid hrb; clear hrb
  have BB := Lib.hid (show ∀ o1 o2 : Obj, Below w.heap.size w ((w.alloc o1).alloc o2) from fun o1 o2 => ((Below.refl _ _).alloc (Nat.le_refl _) _).alloc (by simp) _)
  by_cases q : x0 = y0
  case neg =>
    have e1 : rb = false := by rw [← RB.out]; exact decide_eq_false (fun e => q (congrArg TicketD.id e))
    subst e1
    have hq : (x0 != y0) = true := bne_iff_ne.2 q
    clear q
    go_enter Try.func57, Try.ntmps57
    go_wp2_with fail
    go_ret
    exact ⟨rfl, (BB.out _ _)⟩
  subst q
  by_cases q : x1 = y1
  case neg =>
    have e1 : rb = false := by rw [← RB.out]; exact decide_eq_false (fun e => q (congrArg TicketD.kind e))
    subst e1
    have hq : (x1 != y1) = true := bne_iff_ne.2 q
    clear q
    go_enter Try.func57, Try.ntmps57
    go_wp2_with fail
    go_ret
    exact ⟨rfl, (BB.out _ _)⟩
  subst q
  by_cases q : x2 = y2
  case neg =>
    have e1 : rb = false := by rw [← RB.out]; exact decide_eq_false (fun e => q (congrArg TicketD.name e))
    subst e1
    have hq := strNeq_t q
    clear q
    go_enter Try.func57, Try.ntmps57
    go_wp2_with fail
    go_ret
    exact ⟨rfl, (BB.out _ _)⟩
  subst q
  have hs2 := strNeq_f (rfl : x2 = x2)
  by_cases q : x3 = y3
  case neg =>
    have e1 : rb = false := by rw [← RB.out]; exact decide_eq_false (fun e => q (congrArg TicketD.group e))
    subst e1
    have hq : (x3 != y3) = true := bne_iff_ne.2 q
    clear q
    go_enter Try.func57, Try.ntmps57
    go_wp2_with fail
    go_ret
    exact ⟨rfl, (BB.out _ _)⟩
  subst q
  have e1 : rb = true := by rw [← RB.out]; exact decide_eq_true rfl
  subst e1
  go_enter Try.func57, Try.ntmps57
  go_wp2_with fail
  go_ret
  exact ⟨rfl, (BB.out _ _)⟩

set_option maxHeartbeats 1000000 in
set_option maxRecDepth 100000 in
theorem eqTicketS_c (v1 v2 : Value) (xs ys : List TicketD) (f1 f2 : List Addr) (w : World) (h1 : rSl 4 rTicket w f1 v1 xs) (h2 : rSl 4 rTicket w f2 v2 ys) :
    Calls Try.prog 41 #[v1, v2] w fun e w' => e = .returned (.bool (decide (xs = ys))) ∧ Below w.heap.size w w' := by
  obtain ⟨A1, c1, rfl, hc1, hm1, hx⟩ := rSl.at_ rTicket.fixed (by decide) h1
  obtain ⟨A2, c2, rfl, hc2, hm2, hy⟩ := rSl.at_ rTicket.fixed (by decide) h2
  clear h1 h2
  obtain ⟨rb, hrb⟩ : ∃ rb, decide (xs = ys) = rb := ⟨_, rfl⟩
  rw [hrb]
  have RB := Lib.hid hrb; clear hrb
  have HX := Lib.hid hx; have HY := Lib.hid hy; clear hx hy
  by_cases hl : xs.length = ys.length
  · have hb := bneNat_f hl
    have HL := Lib.hid hl; clear hl
    go_enter Try.func41, Try.ntmps41
    go_wp2
    go_loopw [4, 5] (fun r i wr => ∃ k : Nat, k ≤ xs.length ∧ i = .int .i64 k ∧ r = .bool false ∧ xs.take k = ys.take k ∧ Below w.heap.size w wr) (fun _ i _ => xs.length - (intOf i).toNat)
    case atStart => exact ⟨0, by omega, rfl, rfl, by simp, Below.refl _ _⟩
    case round =>
      obtain ⟨k, hk, rfl, rfl, ht, hbl⟩ := hrel
      have HT := Lib.hid ht; clear ht
      by_cases hlt : k < xs.length
      · have hlt2 : k < ys.length := by rw [← HL.out]; exact hlt
        obtain ⟨a1, b1, o1, cs1, g1, e1, at1⟩ := HX.out k hlt
        obtain ⟨a2, b2, o2, cs2, g2, e2, at2⟩ := HY.out k hlt2
        subst e1 e2
        replace at1 := at1.below rTicket.local_ hbl
        replace at2 := at2.below rTicket.local_ hbl
        have HB := Lib.hid hbl; clear hbl
        clear HX HY
        obtain ⟨e, -, -, -, -, -⟩ := at1.reads
        subst e
        obtain ⟨e, -, -, -, -, -⟩ := at2.reads
        subst e
        have hP1 := at1.place; have hP2 := at2.place
        have ap0 := cell_regrown (at1.cell 0 (by simp))
        have ap1 := cell_regrown (at1.cell 1 (by simp))
        have ap2 := cell_regrown (at1.cell 2 (by simp))
        have ap3 := cell_regrown (at1.cell 3 (by simp))
        simp only [List.getElem_cons_zero, List.getElem_cons_succ, Nat.add_zero] at ap0 ap1 ap2 ap3
        have bp0 := cell_regrown (at2.cell 0 (by simp))
        have bp1 := cell_regrown (at2.cell 1 (by simp))
        have bp2 := cell_regrown (at2.cell 2 (by simp))
        have bp3 := cell_regrown (at2.cell 3 (by simp))
        simp only [List.getElem_cons_zero, List.getElem_cons_succ, Nat.add_zero] at bp0 bp1 bp2 bp3
        have hc : ∀ d os, Calls Try.prog 57 #[.agg #[.int .i64 xs[k].id, .int .i64 xs[k].kind, .string xs[k].name, .int .i64 xs[k].group], .agg #[.int .i64 ys[k].id, .int .i64 ys[k].kind, .string ys[k].name, .int .i64 ys[k].group]] (grow (redrawn wr d) os) fun e w'' => e = .returned (.bool (decide (xs[k] = ys[k]))) ∧ ∃ p : Regrown, w'' = grow (redrawn wr p.d) p.os :=
          fun d os => Calls.regrown_of (eqTicket_c xs[k] ys[k] _ _ g1 g2 _ (Repr.below rTicket.local_ rTicket.fixed at1.reads (below_regrown wr d os)) (Repr.below rTicket.local_ rTicket.fixed at2.reads (below_regrown wr d os)))
        obtain ⟨bb, hbb⟩ : ∃ bb, decide (xs[k] = ys[k]) = bb := ⟨_, rfl⟩
        rw [hbb] at hc
        have HBB := Lib.hid hbb; clear hbb
        have HC := Lib.hid hc; clear hc
        have AT1 := Lib.hid at1; have AT2 := Lib.hid at2
        clear at1 at2
        go_wp2_with fail
        refine wp_region_quiet_below (by kernel_rfl) (by kernel_rfl) ?_
        repeat (first | go_big_quiet_step (exact HC.out _ _) | quiet_step (exact HC.out _ _))
        refine wpQuiet_nil ?_
        intro _ hw'
        obtain ⟨⟨dq, osq⟩, hw''⟩ := hw'
        subst hw''
        have HB1 := Lib.hid (HB.out.trans ((below_regrown wr dq osq).mono HB.out.size))
        cases bb with
        | true =>
          have he := of_decide_eq_true HBB.out
          have HE := Lib.hid he; clear he
          go_wp2_with fail
          go_roundw
          case rel => exact ⟨k+1, by omega, by go_num, rfl, takeEq' HT.out hlt hlt2 HE.out, HB1.out⟩
          case measure => simp [intOf]; omega
        | false =>
          have he := of_decide_eq_false HBB.out
          have e1 : rb = false := by rw [← RB.out]; exact decide_eq_false (fun e => he (by subst e; rfl))
          subst e1
          clear he
          go_wp2_with fail
          go_ret
          exact ⟨rfl, HB1.out⟩
      · have hk' : k = xs.length := by omega
        have H := HT.out
        rw [hk', List.take_length, HL.out, List.take_length] at H
        have e1 : rb = true := by rw [← RB.out]; exact decide_eq_true H
        subst e1
        have HB := Lib.hid hbl
        clear H hk' HX HY hbl
        go_wp2
        go_ret
        exact ⟨rfl, HB.out⟩
  · have hb := bneNat_t hl
    have e1 : rb = false := by rw [← RB.out]; exact decide_eq_false (fun e => hl (by rw [e]))
    subst e1
    clear HX HY
    go_enter Try.func41, Try.ntmps41
    go_wp2
    go_ret
    exact ⟨rfl, Below.refl _ _⟩

set_option maxHeartbeats 1000000 in
set_option maxRecDepth 100000 in
theorem eqTicketSS_c (v1 v2 : Value) (xs ys : List (List TicketD)) (f1 f2 : List Addr) (w : World) (h1 : rSl 1 (rSlice 4 rTicket) w f1 v1 xs) (h2 : rSl 1 (rSlice 4 rTicket) w f2 v2 ys) :
    Calls Try.prog 40 #[v1, v2] w fun e w' => e = .returned (.bool (decide (xs = ys))) ∧ Below w.heap.size w w' := by
  obtain ⟨A1, c1, rfl, hc1, hm1, hx⟩ := rSl.at_ (rSlice.fixed rTicket.fixed) (by decide) h1
  obtain ⟨A2, c2, rfl, hc2, hm2, hy⟩ := rSl.at_ (rSlice.fixed rTicket.fixed) (by decide) h2
  clear h1 h2
  obtain ⟨rb, hrb⟩ : ∃ rb, decide (xs = ys) = rb := ⟨_, rfl⟩
  rw [hrb]
  have RB := Lib.hid hrb; clear hrb
  have HX := Lib.hid hx; have HY := Lib.hid hy; clear hx hy
  by_cases hl : xs.length = ys.length
  · have hb := bneNat_f hl
    have HL := Lib.hid hl; clear hl
    go_enter Try.func40, Try.ntmps40
    go_wp2
    go_loopw [4, 5] (fun r i wr => ∃ k : Nat, k ≤ xs.length ∧ i = .int .i64 k ∧ r = .bool false ∧ xs.take k = ys.take k ∧ Below w.heap.size w wr) (fun _ i _ => xs.length - (intOf i).toNat)
    case atStart => exact ⟨0, by omega, rfl, rfl, by simp, Below.refl _ _⟩
    case round =>
      obtain ⟨k, hk, rfl, rfl, ht, hbl⟩ := hrel
      have HT := Lib.hid ht; clear ht
      by_cases hlt : k < xs.length
      · have hlt2 : k < ys.length := by rw [← HL.out]; exact hlt
        obtain ⟨a1, b1, o1, cs1, g1, e1, at1⟩ := HX.out k hlt
        obtain ⟨a2, b2, o2, cs2, g2, e2, at2⟩ := HY.out k hlt2
        subst e1 e2
        replace at1 := at1.below (rSlice.local_ rTicket.local_) hbl
        replace at2 := at2.below (rSlice.local_ rTicket.local_) hbl
        have HB := Lib.hid hbl; clear hbl
        clear HX HY
        obtain ⟨av0, e, ah0⟩ := at1.reads
        subst e
        obtain ⟨aA0, ac0, rfl, -⟩ := rSl.head ah0
        clear ah0
        obtain ⟨bv0, e, bh0⟩ := at2.reads
        subst e
        obtain ⟨bA0, bc0, rfl, -⟩ := rSl.head bh0
        clear bh0
        have hP1 := at1.place; have hP2 := at2.place
        simp only [Nat.mul_one] at hP1 hP2
        have ap0 := cell_regrown (at1.cell 0 (by simp))
        simp only [List.getElem_cons_zero, Nat.add_zero] at ap0
        have bp0 := cell_regrown (at2.cell 0 (by simp))
        simp only [List.getElem_cons_zero, Nat.add_zero] at bp0
        have hc : ∀ d os, Calls Try.prog 41 #[.slice aA0 xs[k].length ac0, .slice bA0 ys[k].length bc0] (grow (redrawn wr d) os) fun e w'' => e = .returned (.bool (decide (xs[k] = ys[k]))) ∧ ∃ p : Regrown, w'' = grow (redrawn wr p.d) p.os :=
          fun d os => Calls.regrown_of (eqTicketS_c _ _ xs[k] ys[k] g1 g2 _ (rSl.below rTicket.local_ rTicket.fixed (rSlice.one at1.reads) (below_regrown wr d os)) (rSl.below rTicket.local_ rTicket.fixed (rSlice.one at2.reads) (below_regrown wr d os)))
        obtain ⟨bb, hbb⟩ : ∃ bb, decide (xs[k] = ys[k]) = bb := ⟨_, rfl⟩
        rw [hbb] at hc
        have HBB := Lib.hid hbb; clear hbb
        have HC := Lib.hid hc; clear hc
        have AT1 := Lib.hid at1; have AT2 := Lib.hid at2
        clear at1 at2
        go_wp2_with fail
        refine wp_region_quiet_below (by kernel_rfl) (by kernel_rfl) ?_
        repeat (first | go_big_quiet_step (exact HC.out _ _) | quiet_step (exact HC.out _ _))
        refine wpQuiet_nil ?_
        intro _ hw'
        obtain ⟨⟨dq, osq⟩, hw''⟩ := hw'
        subst hw''
        have HB1 := Lib.hid (HB.out.trans ((below_regrown wr dq osq).mono HB.out.size))
        cases bb with
        | true =>
          have he := of_decide_eq_true HBB.out
          have HE := Lib.hid he; clear he
          go_wp2_with fail
          go_roundw
          case rel => exact ⟨k+1, by omega, by go_num, rfl, takeEq' HT.out hlt hlt2 HE.out, HB1.out⟩
          case measure => simp [intOf]; omega
        | false =>
          have he := of_decide_eq_false HBB.out
          have e1 : rb = false := by rw [← RB.out]; exact decide_eq_false (fun e => he (by subst e; rfl))
          subst e1
          clear he
          go_wp2_with fail
          go_ret
          exact ⟨rfl, HB1.out⟩
      · have hk' : k = xs.length := by omega
        have H := HT.out
        rw [hk', List.take_length, HL.out, List.take_length] at H
        have e1 : rb = true := by rw [← RB.out]; exact decide_eq_true H
        subst e1
        have HB := Lib.hid hbl
        clear H hk' HX HY hbl
        go_wp2
        go_ret
        exact ⟨rfl, HB.out⟩
  · have hb := bneNat_t hl
    have e1 : rb = false := by rw [← RB.out]; exact decide_eq_false (fun e => hl (by rw [e]))
    subst e1
    clear HX HY
    go_enter Try.func40, Try.ntmps40
    go_wp2
    go_ret
    exact ⟨rfl, Below.refl _ _⟩

set_option maxHeartbeats 1000000 in
set_option maxRecDepth 100000 in
theorem eqAnswer_c (d1 d2 : AnswerD) (cs1 cs2 : List Value) (f1 f2 : List Addr) (w : World) (h1 : rAnswer w f1 cs1 d1) (h2 : rAnswer w f2 cs2 d2) :
    Calls Try.prog 58 #[.agg cs1.toArray, .agg cs2.toArray] w fun e w' => e = .returned (.bool (decide (d1 = d2))) ∧ Below w.heap.size w w' := by
  obtain ⟨x0, x1, x2, x3⟩ := d1
  obtain ⟨y0, y1, y2, y3⟩ := d2
  dsimp only [rAnswer] at h1 h2
  obtain ⟨av0, af0, e, -, ao0, ao1, ao2, ah0⟩ := h1
  subst e
  obtain ⟨bv0, bf0, e, -, bo0, bo1, bo2, bh0⟩ := h2
  subst e
  have aH0 := Lib.hid ah0
  obtain ⟨aA0, ac0, rfl, -⟩ := rSl.head ah0
  clear ah0
  have bH0 := Lib.hid bh0
  obtain ⟨bA0, bc0, rfl, -⟩ := rSl.head bh0
  clear bh0
  obtain ⟨rb, hrb⟩ : ∃ rb, decide ((⟨x0, x1, x2, x3⟩ : AnswerD) = ⟨y0, y1, y2, y3⟩) = rb := ⟨_, rfl⟩
  rw [hrb]
  have RB := Lib.hid hrb; clear hrb
  have BB := Lib.hid (show ∀ o1 o2 : Obj, Below w.heap.size w ((w.alloc o1).alloc o2) from fun o1 o2 => ((Below.refl _ _).alloc (Nat.le_refl _) _).alloc (by simp) _)
  by_cases q : x0 = y0
  case neg =>
    have e1 : rb = false := by rw [← RB.out]; exact decide_eq_false (fun e => q (congrArg AnswerD.id e))
    subst e1
    have hq : (x0 != y0) = true := bne_iff_ne.2 q
    clear q
    go_enter Try.func58, Try.ntmps58
    go_wp2_with fail
    go_ret
    exact ⟨rfl, (BB.out _ _)⟩
  subst q
  by_cases q : x1 = y1
  case neg =>
    have e1 : rb = false := by rw [← RB.out]; exact decide_eq_false (fun e => q (congrArg AnswerD.code e))
    subst e1
    have hq : (x1 != y1) = true := bne_iff_ne.2 q
    clear q
    go_enter Try.func58, Try.ntmps58
    go_wp2_with fail
    go_ret
    exact ⟨rfl, (BB.out _ _)⟩
  subst q
  by_cases q : x2 = y2
  case neg =>
    have e1 : rb = false := by rw [← RB.out]; exact decide_eq_false (fun e => q (congrArg AnswerD.turn e))
    subst e1
    have hq : (x2 != y2) = true := bne_iff_ne.2 q
    clear q
    go_enter Try.func58, Try.ntmps58
    go_wp2_with fail
    go_ret
    exact ⟨rfl, (BB.out _ _)⟩
  subst q
  go_enter Try.func58, Try.ntmps58
  go_wp2_with fail
  refine (eqByteS_c _ _ x3 y3 _ _ _ (rSl.below rByte.local_ rByte.fixed aH0.out (BB.out _ _)) (rSl.below rByte.local_ rByte.fixed bH0.out (BB.out _ _))).mono ?_
  rintro e u3 ⟨rfl, hb⟩
  have hK1 := Blk.below ((Blk.new w 93 #[.int .i64 x0, .int .i64 x1, .int .i64 x2, .slice aA0 x3.length ac0]).alloc (.cells #[.int .i64 x0, .int .i64 x1, .int .i64 x2, .slice bA0 y3.length bc0] 93)) hb (by simp; omega)
  have hK2 := Blk.below (Blk.new (w.alloc (.cells #[.int .i64 x0, .int .i64 x1, .int .i64 x2, .slice aA0 x3.length ac0] 93)) 93 #[.int .i64 x0, .int .i64 x1, .int .i64 x2, .slice bA0 y3.length bc0]) hb (by simp)
  rw [World.size_alloc] at hK2
  have K1 := Lib.hid hK1; have K2 := Lib.hid hK2
  clear hK1 hK2
  have BB0 := BB.out; clear BB; have BB := Lib.hid ((BB0 _ _).trans (hb.mono (BB0 _ _).size)); clear hb BB0
  by_cases q : x3 = y3
  case neg =>
    have e1 : rb = false := by rw [← RB.out]; exact decide_eq_false (fun e => q (congrArg AnswerD.bytes e))
    subst e1
    rw [decide_eq_false q]
    clear q
    go_wp2_with fail
    go_ret
    exact ⟨rfl, BB.out⟩
  rw [decide_eq_true q]
  subst q
  have e1 : rb = true := by rw [← RB.out]; exact decide_eq_true rfl
  subst e1
  go_wp2_with fail
  go_ret
  exact ⟨rfl, BB.out⟩

set_option maxHeartbeats 1000000 in
set_option maxRecDepth 100000 in
theorem eqAnswerS_c (v1 v2 : Value) (xs ys : List AnswerD) (f1 f2 : List Addr) (w : World) (h1 : rSl 4 rAnswer w f1 v1 xs) (h2 : rSl 4 rAnswer w f2 v2 ys) :
    Calls Try.prog 42 #[v1, v2] w fun e w' => e = .returned (.bool (decide (xs = ys))) ∧ Below w.heap.size w w' := by
  obtain ⟨A1, c1, rfl, hc1, hm1, hx⟩ := rSl.at_ rAnswer.fixed (by decide) h1
  obtain ⟨A2, c2, rfl, hc2, hm2, hy⟩ := rSl.at_ rAnswer.fixed (by decide) h2
  clear h1 h2
  obtain ⟨rb, hrb⟩ : ∃ rb, decide (xs = ys) = rb := ⟨_, rfl⟩
  rw [hrb]
  have RB := Lib.hid hrb; clear hrb
  have HX := Lib.hid hx; have HY := Lib.hid hy; clear hx hy
  by_cases hl : xs.length = ys.length
  · have hb := bneNat_f hl
    have HL := Lib.hid hl; clear hl
    go_enter Try.func42, Try.ntmps42
    go_wp2
    go_loopw [4, 5] (fun r i wr => ∃ k : Nat, k ≤ xs.length ∧ i = .int .i64 k ∧ r = .bool false ∧ xs.take k = ys.take k ∧ Below w.heap.size w wr) (fun _ i _ => xs.length - (intOf i).toNat)
    case atStart => exact ⟨0, by omega, rfl, rfl, by simp, Below.refl _ _⟩
    case round =>
      obtain ⟨k, hk, rfl, rfl, ht, hbl⟩ := hrel
      have HT := Lib.hid ht; clear ht
      by_cases hlt : k < xs.length
      · have hlt2 : k < ys.length := by rw [← HL.out]; exact hlt
        obtain ⟨a1, b1, o1, cs1, g1, e1, at1⟩ := HX.out k hlt
        obtain ⟨a2, b2, o2, cs2, g2, e2, at2⟩ := HY.out k hlt2
        subst e1 e2
        replace at1 := at1.below rAnswer.local_ hbl
        replace at2 := at2.below rAnswer.local_ hbl
        have HB := Lib.hid hbl; clear hbl
        clear HX HY
        obtain ⟨av0, af0, e, -, -, -, -, ah0⟩ := at1.reads
        subst e
        obtain ⟨aA0, ac0, rfl, -⟩ := rSl.head ah0
        clear ah0
        obtain ⟨bv0, bf0, e, -, -, -, -, bh0⟩ := at2.reads
        subst e
        obtain ⟨bA0, bc0, rfl, -⟩ := rSl.head bh0
        clear bh0
        have hP1 := at1.place; have hP2 := at2.place
        have ap0 := cell_regrown (at1.cell 0 (by simp))
        have ap1 := cell_regrown (at1.cell 1 (by simp))
        have ap2 := cell_regrown (at1.cell 2 (by simp))
        have ap3 := cell_regrown (at1.cell 3 (by simp))
        simp only [List.getElem_cons_zero, List.getElem_cons_succ, Nat.add_zero] at ap0 ap1 ap2 ap3
        have bp0 := cell_regrown (at2.cell 0 (by simp))
        have bp1 := cell_regrown (at2.cell 1 (by simp))
        have bp2 := cell_regrown (at2.cell 2 (by simp))
        have bp3 := cell_regrown (at2.cell 3 (by simp))
        simp only [List.getElem_cons_zero, List.getElem_cons_succ, Nat.add_zero] at bp0 bp1 bp2 bp3
        have hc : ∀ d os, Calls Try.prog 58 #[.agg #[.int .i64 xs[k].id, .int .i64 xs[k].code, .int .i64 xs[k].turn, .slice aA0 xs[k].bytes.length ac0], .agg #[.int .i64 ys[k].id, .int .i64 ys[k].code, .int .i64 ys[k].turn, .slice bA0 ys[k].bytes.length bc0]] (grow (redrawn wr d) os) fun e w'' => e = .returned (.bool (decide (xs[k] = ys[k]))) ∧ ∃ p : Regrown, w'' = grow (redrawn wr p.d) p.os :=
          fun d os => Calls.regrown_of (eqAnswer_c xs[k] ys[k] _ _ g1 g2 _ (Repr.below rAnswer.local_ rAnswer.fixed at1.reads (below_regrown wr d os)) (Repr.below rAnswer.local_ rAnswer.fixed at2.reads (below_regrown wr d os)))
        obtain ⟨bb, hbb⟩ : ∃ bb, decide (xs[k] = ys[k]) = bb := ⟨_, rfl⟩
        rw [hbb] at hc
        have HBB := Lib.hid hbb; clear hbb
        have HC := Lib.hid hc; clear hc
        have AT1 := Lib.hid at1; have AT2 := Lib.hid at2
        clear at1 at2
        go_wp2_with fail
        refine wp_region_quiet_below (by kernel_rfl) (by kernel_rfl) ?_
        repeat (first | go_big_quiet_step (exact HC.out _ _) | quiet_step (exact HC.out _ _))
        refine wpQuiet_nil ?_
        intro _ hw'
        obtain ⟨⟨dq, osq⟩, hw''⟩ := hw'
        subst hw''
        have HB1 := Lib.hid (HB.out.trans ((below_regrown wr dq osq).mono HB.out.size))
        cases bb with
        | true =>
          have he := of_decide_eq_true HBB.out
          have HE := Lib.hid he; clear he
          go_wp2_with fail
          go_roundw
          case rel => exact ⟨k+1, by omega, by go_num, rfl, takeEq' HT.out hlt hlt2 HE.out, HB1.out⟩
          case measure => simp [intOf]; omega
        | false =>
          have he := of_decide_eq_false HBB.out
          have e1 : rb = false := by rw [← RB.out]; exact decide_eq_false (fun e => he (by subst e; rfl))
          subst e1
          clear he
          go_wp2_with fail
          go_ret
          exact ⟨rfl, HB1.out⟩
      · have hk' : k = xs.length := by omega
        have H := HT.out
        rw [hk', List.take_length, HL.out, List.take_length] at H
        have e1 : rb = true := by rw [← RB.out]; exact decide_eq_true H
        subst e1
        have HB := Lib.hid hbl
        clear H hk' HX HY hbl
        go_wp2
        go_ret
        exact ⟨rfl, HB.out⟩
  · have hb := bneNat_t hl
    have e1 : rb = false := by rw [← RB.out]; exact decide_eq_false (fun e => hl (by rw [e]))
    subst e1
    clear HX HY
    go_enter Try.func42, Try.ntmps42
    go_wp2
    go_ret
    exact ⟨rfl, Below.refl _ _⟩

set_option maxHeartbeats 1000000 in
set_option maxRecDepth 100000 in
theorem eqDesk_c (d1 d2 : DeskD) (cs1 cs2 : List Value) (f1 f2 : List Addr) (w : World) (h1 : rDesk w f1 cs1 d1) (h2 : rDesk w f2 cs2 d2) :
    Calls Try.prog 29 #[.agg cs1.toArray, .agg cs2.toArray] w fun e w' => e = .returned (.bool (decide (d1 = d2))) ∧ Below w.heap.size w w' := by
  obtain ⟨x0, x1, x2, x3, x4⟩ := d1
  obtain ⟨y0, y1, y2, y3, y4⟩ := d2
  dsimp only [rDesk] at h1 h2
  obtain ⟨av0, av1, av2, af0, af1, af2, e, -, ao0, ao1, ah0, ah1, ah2⟩ := h1
  subst e
  obtain ⟨bv0, bv1, bv2, bf0, bf1, bf2, e, -, bo0, bo1, bh0, bh1, bh2⟩ := h2
  subst e
  have aH0 := Lib.hid ah0
  obtain ⟨aA0, ac0, rfl, -⟩ := rSl.head ah0
  clear ah0
  have aH1 := Lib.hid ah1
  obtain ⟨aA1, ac1, rfl, -⟩ := rSl.head ah1
  clear ah1
  have aH2 := Lib.hid ah2
  obtain ⟨aA2, ac2, rfl, -⟩ := rSl.head ah2
  clear ah2
  have bH0 := Lib.hid bh0
  obtain ⟨bA0, bc0, rfl, -⟩ := rSl.head bh0
  clear bh0
  have bH1 := Lib.hid bh1
  obtain ⟨bA1, bc1, rfl, -⟩ := rSl.head bh1
  clear bh1
  have bH2 := Lib.hid bh2
  obtain ⟨bA2, bc2, rfl, -⟩ := rSl.head bh2
  clear bh2
  obtain ⟨rb, hrb⟩ : ∃ rb, decide ((⟨x0, x1, x2, x3, x4⟩ : DeskD) = ⟨y0, y1, y2, y3, y4⟩) = rb := ⟨_, rfl⟩
  rw [hrb]
  have RB := Lib.hid hrb; clear hrb
  have BB := Lib.hid (show ∀ o1 o2 : Obj, Below w.heap.size w ((w.alloc o1).alloc o2) from fun o1 o2 => ((Below.refl _ _).alloc (Nat.le_refl _) _).alloc (by simp) _)
  go_enter Try.func29, Try.ntmps29
  go_wp2_with fail
  refine (eqTicketSS_c _ _ x0 y0 _ _ _ (rSl.below (rSlice.local_ rTicket.local_) (rSlice.fixed rTicket.fixed) aH0.out (BB.out _ _)) (rSl.below (rSlice.local_ rTicket.local_) (rSlice.fixed rTicket.fixed) bH0.out (BB.out _ _))).mono ?_
  rintro e u0 ⟨rfl, hb⟩
  have hK1 := Blk.below ((Blk.new w 34 #[.slice aA0 x0.length ac0, .slice aA1 x1.length ac1, .slice aA2 x2.length ac2, .int .i64 x3, .int .i64 x4]).alloc (.cells #[.slice bA0 y0.length bc0, .slice bA1 y1.length bc1, .slice bA2 y2.length bc2, .int .i64 y3, .int .i64 y4] 34)) hb (by simp; omega)
  have hK2 := Blk.below (Blk.new (w.alloc (.cells #[.slice aA0 x0.length ac0, .slice aA1 x1.length ac1, .slice aA2 x2.length ac2, .int .i64 x3, .int .i64 x4] 34)) 34 #[.slice bA0 y0.length bc0, .slice bA1 y1.length bc1, .slice bA2 y2.length bc2, .int .i64 y3, .int .i64 y4]) hb (by simp)
  rw [World.size_alloc] at hK2
  have K1 := Lib.hid hK1; have K2 := Lib.hid hK2
  have k1_1 := Blk.cell hK1 1; have k2_1 := Blk.cell hK2 1
  have k1_2 := Blk.cell hK1 2; have k2_2 := Blk.cell hK2 2
  have k1_3 := Blk.cell hK1 3; have k2_3 := Blk.cell hK2 3
  have k1_4 := Blk.cell hK1 4; have k2_4 := Blk.cell hK2 4
  simp only [List.getElem?_toArray, List.getElem?_cons_zero, List.getElem?_cons_succ] at k1_1 k2_1 k1_2 k2_2 k1_3 k2_3 k1_4 k2_4
  clear hK1 hK2
  have BB0 := BB.out; clear BB; have BB := Lib.hid ((BB0 _ _).trans (hb.mono (BB0 _ _).size)); clear hb BB0
  by_cases q : x0 = y0
  case neg =>
    have e1 : rb = false := by rw [← RB.out]; exact decide_eq_false (fun e => q (congrArg DeskD.queues e))
    subst e1
    rw [decide_eq_false q]
    clear q
    go_wp2_with fail
    go_ret
    exact ⟨rfl, BB.out⟩
  rw [decide_eq_true q]
  subst q
  go_wp2_with fail
  refine (eqTicketS_c _ _ x1 y1 _ _ _ (rSl.below rTicket.local_ rTicket.fixed aH1.out BB.out) (rSl.below rTicket.local_ rTicket.fixed bH1.out BB.out)).mono ?_
  rintro e u1 ⟨rfl, hb⟩
  have hK1 := Blk.below K1.out hb K1.out.lt
  have hK2 := Blk.below K2.out hb K2.out.lt
  clear K1 K2 k1_1 k2_1 k1_2 k2_2 k1_3 k2_3 k1_4 k2_4
  have K1 := Lib.hid hK1; have K2 := Lib.hid hK2
  have k1_2 := Blk.cell hK1 2; have k2_2 := Blk.cell hK2 2
  have k1_3 := Blk.cell hK1 3; have k2_3 := Blk.cell hK2 3
  have k1_4 := Blk.cell hK1 4; have k2_4 := Blk.cell hK2 4
  simp only [List.getElem?_toArray, List.getElem?_cons_zero, List.getElem?_cons_succ] at k1_2 k2_2 k1_3 k2_3 k1_4 k2_4
  clear hK1 hK2
  replace BB := Lib.hid (BB.out.trans (hb.mono (BB.out).size)); clear hb
  by_cases q : x1 = y1
  case neg =>
    have e1 : rb = false := by rw [← RB.out]; exact decide_eq_false (fun e => q (congrArg DeskD.aside e))
    subst e1
    rw [decide_eq_false q]
    clear q
    go_wp2_with fail
    go_ret
    exact ⟨rfl, BB.out⟩
  rw [decide_eq_true q]
  subst q
  go_wp2_with fail
  refine (eqAnswerS_c _ _ x2 y2 _ _ _ (rSl.below rAnswer.local_ rAnswer.fixed aH2.out BB.out) (rSl.below rAnswer.local_ rAnswer.fixed bH2.out BB.out)).mono ?_
  rintro e u2 ⟨rfl, hb⟩
  have hK1 := Blk.below K1.out hb K1.out.lt
  have hK2 := Blk.below K2.out hb K2.out.lt
  clear K1 K2 k1_2 k2_2 k1_3 k2_3 k1_4 k2_4
  have K1 := Lib.hid hK1; have K2 := Lib.hid hK2
  have k1_3 := Blk.cell hK1 3; have k2_3 := Blk.cell hK2 3
  have k1_4 := Blk.cell hK1 4; have k2_4 := Blk.cell hK2 4
  simp only [List.getElem?_toArray, List.getElem?_cons_zero, List.getElem?_cons_succ] at k1_3 k2_3 k1_4 k2_4
  clear hK1 hK2
  replace BB := Lib.hid (BB.out.trans (hb.mono (BB.out).size)); clear hb
  by_cases q : x2 = y2
  case neg =>
    have e1 : rb = false := by rw [← RB.out]; exact decide_eq_false (fun e => q (congrArg DeskD.answers e))
    subst e1
    rw [decide_eq_false q]
    clear q
    go_wp2_with fail
    go_ret
    exact ⟨rfl, BB.out⟩
  rw [decide_eq_true q]
  subst q
  by_cases q : x3 = y3
  case neg =>
    have e1 : rb = false := by rw [← RB.out]; exact decide_eq_false (fun e => q (congrArg DeskD.turn e))
    subst e1
    have hq : (x3 != y3) = true := bne_iff_ne.2 q
    clear q
    go_wp2_with fail
    go_ret
    exact ⟨rfl, BB.out⟩
  subst q
  by_cases q : x4 = y4
  case neg =>
    have e1 : rb = false := by rw [← RB.out]; exact decide_eq_false (fun e => q (congrArg DeskD.next e))
    subst e1
    have hq : (x4 != y4) = true := bne_iff_ne.2 q
    clear q
    go_wp2_with fail
    go_ret
    exact ⟨rfl, BB.out⟩
  subst q
  have e1 : rb = true := by rw [← RB.out]; exact decide_eq_true rfl
  subst e1
  go_wp2_with fail
  go_ret
  exact ⟨rfl, BB.out⟩

end Go.Proofs.Ytabainoplkpppaa
