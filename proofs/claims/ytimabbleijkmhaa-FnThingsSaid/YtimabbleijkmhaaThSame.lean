/-
  SameThings, of the program and of the reference: what each call does.
-/
import Derived.Test.YtimabbleijkmhaaThEq
import Derived.Test.YtimabbleijkmhaaShelf
namespace Go.Proofs.Ytimabbleijkmhaa
open Go.RowKit Go.Sort

set_option maxHeartbeats 400000 in
theorem l2Same_c (v1 v2 : Value) (xs ys : List UInt8) (f1 f2 : List Addr) (w : World) (h1 : rBytes w f1 v1 xs) (h2 : rBytes w f2 v2 ys) :
    Calls Try.prog 54 #[v1, v2] w fun e w' => e = .returned (.bool (decide (xs = ys))) ∧ Below w.heap.size w w' := by
  obtain ⟨A1, c1, rfl, hc1, hm1, hx⟩ := rBytes.open_ h1
  obtain ⟨A2, c2, rfl, hc2, hm2, hy⟩ := rBytes.open_ h2
  clear h1 h2
  by_cases hl : xs.length = ys.length
  · have hb := bneNat_f hl
    have HL := Lib.hid hl; clear hl
    go_enter Try.func54, Try.ntmps54
    go_wp2
    go_loopw [4, 5] (fun r i wr => ∃ k : Nat, k ≤ xs.length ∧ i = .int .i64 k ∧ r = .bool false ∧ xs.take k = ys.take k ∧ Below w.heap.size w wr) (fun _ i _ => xs.length - (intOf i).toNat)
    case atStart => exact ⟨0, by omega, rfl, rfl, by simp, Below.refl _ _⟩
    case round =>
      obtain ⟨k, hk, rfl, rfl, ht, hbl⟩ := hrel
      have HT := Lib.hid ht; clear ht
      by_cases hlt : k < xs.length
      · have hlt2 : k < ys.length := by rw [← HL.out]; exact hlt
        obtain ⟨a1, e1, _, b1, g1⟩ := hx k hlt
        obtain ⟨a2, e2, _, b2, g2⟩ := hy k hlt2
        subst e1 e2
        have g1' := (hbl.cell (p := a1.add k) b1).trans g1
        have g2' := (hbl.cell (p := a2.add k) b2).trans g2
        clear g1 g2 hx hy
        by_cases he : xs[k] = ys[k]
        · have hn := bneU8f he
          have HE := Lib.hid he; clear he
          go_wp2
          go_quiet (fail)
          go_wp2
          go_roundw
          case rel => exact ⟨k+1, by omega, by go_num, rfl, takeEq HT.out hlt hlt2 HE.out, belowDrewN hbl _⟩
          case measure => simp [intOf]; omega
        · have hn := bneU8t he
          go_wp2
          go_quiet (fail)
          go_wp2
          go_ret
          exact ⟨retBool (by simp; intro e; subst e; exact he rfl), belowDrewN hbl _⟩
      · have hk' : k = xs.length := by omega
        have H := HT.out
        rw [hk', List.take_length, HL.out, List.take_length] at H
        have H1 := Lib.hid H; clear H hk'
        go_wp2
        go_ret
        exact ⟨retBool (by simp [H1.out]), hbl⟩
  · have hb := bneNat_t hl
    go_enter Try.func54, Try.ntmps54
    go_wp2
    go_ret
    exact ⟨retBool (by simp; intro e; subst e; exact hl rfl), Below.refl _ _⟩


set_option maxHeartbeats 1000000 in
set_option maxRecDepth 100000 in
theorem specSameThings_c (v1 v2 : Value) (xs ys : List Th) (f1 f2 : List Addr) (w : World) (h1 : rThs w f1 v1 xs) (h2 : rThs w f2 v2 ys) :
    Calls Try.prog 25 #[v1, v2] w fun e w' => e = .returned (.bool (decide (xs = ys))) ∧ Below w.heap.size w w' := by
  obtain ⟨A1, c1, rfl, hc1, hm1, hx⟩ := rThs.open_ h1
  obtain ⟨A2, c2, rfl, hc2, hm2, hy⟩ := rThs.open_ h2
  clear h1 h2
  obtain ⟨rb, hrb⟩ : ∃ rb, decide (xs = ys) = rb := ⟨_, rfl⟩
  rw [hrb]
  have RB := Lib.hid hrb; clear hrb
  have HX := Lib.hid hx; have HY := Lib.hid hy; clear hx hy
  by_cases hl : xs.length = ys.length
  · have hb := bneNat_f hl
    have HL := Lib.hid hl; clear hl
    go_enter Try.func25, Try.ntmps25
    go_wp2
    go_loopw [4, 5] (fun r i wr => ∃ k : Nat, k ≤ xs.length ∧ i = .int .i64 k ∧ r = .bool false ∧ xs.take k = ys.take k ∧ Below w.heap.size w wr) (fun _ i _ => xs.length - (intOf i).toNat)
    case atStart => exact ⟨0, by omega, rfl, rfl, by simp, Below.refl _ _⟩
    case round =>
      obtain ⟨k, hk, rfl, rfl, ht, hbl⟩ := hrel
      have HT := Lib.hid ht; clear ht
      by_cases hlt : k < xs.length
      · have hlt2 : k < ys.length := by rw [← HL.out]; exact hlt
        obtain ⟨a1, A3, c3, g1, e1, b1, at1, -, rb1, th1, -, -⟩ := HX.out k hlt
        obtain ⟨a2, A4, c4, g2, e2, b2, at2, -, rb2, th2, -, -⟩ := HY.out k hlt2
        subst e1 e2
        obtain ⟨p0, p1, p2⟩ := at1.below hbl b1
        obtain ⟨q0, q1, q2⟩ := at2.below hbl b2
        have R1 := Lib.hid (rSl.keep rByte.local_ rb1 (Same.of_below th1 hbl))
        have R2 := Lib.hid (rSl.keep rByte.local_ rb2 (Same.of_below th2 hbl))
        have HB := Lib.hid hbl
        have hc : ∀ d os, Calls Try.prog 54 #[.slice A3 xs[k].bytes.length c3, .slice A4 ys[k].bytes.length c4] (grow (redrawn wr d) os) fun e w'' => e = .returned (.bool (decide (xs[k].bytes = ys[k].bytes))) ∧ ∃ p : Regrown, w'' = grow (redrawn wr p.d) p.os :=
          fun d os => Calls.regrown_of (l2Same_c _ _ xs[k].bytes ys[k].bytes g1 g2 _ (rSl.below rByte.local_ rByte.fixed R1.out (below_regrown wr d os)) (rSl.below rByte.local_ rByte.fixed R2.out (below_regrown wr d os)))
        obtain ⟨bb, hbb⟩ : ∃ bb, decide (xs[k].bytes = ys[k].bytes) = bb := ⟨_, rfl⟩
        rw [hbb] at hc
        have HBB := Lib.hid hbb; clear hbb
        have HC := Lib.hid hc; clear hc
        have p0' := cell_regrown p0; have p1' := cell_regrown p1; have p2' := cell_regrown p2
        have q0' := cell_regrown q0; have q1' := cell_regrown q1; have q2' := cell_regrown q2
        clear rb1 rb2 th1 th2 at1 at2 HX HY hbl p0 p1 p2 q0 q1 q2
        have hbound : ((k : Nat) : Int) < (xs.length : Int) := by omega
        by_cases hn : xs[k].name = ys[k].name
        · have hnn := strNe_f hn
          have HN := Lib.hid hn; clear hn
          by_cases hlo : xs[k].lost = ys[k].lost
          · have hll : (xs[k].lost == ys[k].lost) = true := by simp [hlo]
            have HLO := Lib.hid hlo; clear hlo
            go_wp2_with fail
            refine wp_region_quiet_below (by kernel_rfl) (by kernel_rfl) ?_
            repeat (first | go_big_quiet_step (exact HC.out _ _) | quiet_step (exact HC.out _ _))
            refine wpQuiet_nil ?_
            intro _ hw'
            obtain ⟨⟨dq, osq⟩, hw''⟩ := hw'
            subst hw''
            have HB1 := Lib.hid (HB.out.trans ((below_regrown wr dq osq).mono HB.out.size))
            cases bb with
            | true =>
              have he : xs[k] = ys[k] := by
                have h1 := HN.out
                have h2 := HLO.out
                have h3 := of_decide_eq_true HBB.out
                revert h1 h2 h3
                generalize xs[k] = a
                generalize ys[k] = b
                intro h1 h2 h3
                cases a; cases b
                simp only at h1 h2 h3
                subst h1 h2 h3
                rfl
              have HE := Lib.hid he; clear he
              go_wp2_with fail
              go_roundw
              case rel => exact ⟨k+1, by omega, by go_num, rfl, takeEq' HT.out hlt hlt2 HE.out, HB1.out⟩
              case measure => simp [intOf]; omega
            | false =>
              have he := of_decide_eq_false HBB.out
              have e1 : rb = false := by rw [← RB.out]; exact decide_eq_false (fun e => he (by subst e; rfl))
              subst e1
              clear he
              go_wp2_with fail
              go_ret
              exact ⟨rfl, HB1.out⟩
          · have hll : (xs[k].lost == ys[k].lost) = false := by simpa using hlo
            have e1 : rb = false := by rw [← RB.out]; exact decide_eq_false (fun e => hlo (by subst e; rfl))
            subst e1
            clear hlo
            go_wp2_with fail
            refine wp_region_quiet_below (by kernel_rfl) (by kernel_rfl) ?_
            repeat (first | go_big_quiet_step (exact HC.out _ _) | quiet_step (exact HC.out _ _))
            refine wpQuiet_nil ?_
            intro _ hw'
            obtain ⟨⟨dq, osq⟩, hw''⟩ := hw'
            subst hw''
            have HB1 := Lib.hid (HB.out.trans ((below_regrown wr dq osq).mono HB.out.size))
            go_wp2_with fail
            go_ret
            exact ⟨rfl, HB1.out⟩
        · have hnn := strNe_t hn
          have e1 : rb = false := by rw [← RB.out]; exact decide_eq_false (fun e => hn (by subst e; rfl))
          subst e1
          clear hn
          go_wp2_with fail
          refine wp_region_quiet_below (by kernel_rfl) (by kernel_rfl) ?_
          repeat (first | go_big_quiet_step (exact HC.out _ _) | quiet_step (exact HC.out _ _))
          refine wpQuiet_nil ?_
          intro _ hw'
          obtain ⟨⟨dq, osq⟩, hw''⟩ := hw'
          subst hw''
          have HB1 := Lib.hid (HB.out.trans ((below_regrown wr dq osq).mono HB.out.size))
          go_wp2_with fail
          go_ret
          exact ⟨rfl, HB1.out⟩
      · have hk' : k = xs.length := by omega
        have H := HT.out
        rw [hk', List.take_length, HL.out, List.take_length] at H
        have e1 : rb = true := by rw [← RB.out]; exact decide_eq_true H
        subst e1
        have HB := Lib.hid hbl
        clear H hk' HX HY hbl
        go_wp2
        go_ret
        exact ⟨rfl, HB.out⟩
  · have hb := bneNat_t hl
    have e1 : rb = false := by rw [← RB.out]; exact decide_eq_false (fun e => hl (by rw [e]))
    subst e1
    clear HX HY
    go_enter Try.func25, Try.ntmps25
    go_wp2
    go_ret
    exact ⟨rfl, Below.refl _ _⟩

end Go.Proofs.Ytimabbleijkmhaa
