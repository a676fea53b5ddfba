/-
  The laws' own helpers over slices of strings: what each call does.
-/
import Derived.Test.YtimabbleijkmhaaDoorMarkT
import Derived.Lib.QuietBelow
import Derived.ProofKit
namespace Go.Proofs.YtimabbleijkmhaaDoor
open Go.RowKit Go.Sort

theorem strNeq_f {a b : ByteArray} (h : a = b) : (!a.toList == b.toList) = false := by subst h; simp
theorem strNeq_t {a b : ByteArray} (h : a ≠ b) : (!a.toList == b.toList) = true := by
  have : a.toList ≠ b.toList := fun e => h (WideShapes.bytes_inj (by rwa [ByteArray.toList_eq, ByteArray.toList_eq] at e))
  simpa using this

theorem rStrs.open_ {w : World} {fs : List Addr} {v : Value} {ss : List ByteArray} (h : rStrs w fs v ss) :
    ∃ A c, v = .slice A ss.length c ∧ ss.length ≤ c ∧ c ≤ 9223372036854775807 ∧ ∀ k, (hk : k < ss.length) → ∃ ad, A = some ad ∧ ad.add k ∈ fs ∧ (ad.add k).block < w.heap.size ∧ w.cell? (ad.add k) = some (.string ss[k]) ∧ ss[k].size ≤ 9223372036854775807 := by
  obtain ⟨A, c, e, h1, h2, h3⟩ := h
  refine ⟨A, c, e, h1, by omega, fun k hk => ?_⟩
  rcases h3 with ⟨rfl, _⟩ | ⟨ad, css, fss, e1, e2, e3, e4, h3⟩
  · cases hk
  · obtain ⟨q1, q2, q3, q4, q5, q6, q8⟩ := h3 k hk
    have q7 := q4 0 (by omega)
    simp only [q6, List.getElem_cons_zero, Nat.mul_one, Nat.add_zero] at q7
    exact ⟨ad, e1, by rw [e4]; exact List.mem_append_left _ (mem_addrs.2 ⟨k, by omega, rfl⟩), World.block_lt_of_cell? _ _ q7, q7, q8⟩

theorem rStrs.close_ {w : World} {ad : Addr} {c : Nat} {ss : List ByteArray} (h1 : ss.length ≤ c) (h2 : c ≤ 9223372036854775807) (h : ∀ k, (hk : k < ss.length) → w.cell? (ad.add k) = some (.string ss[k]) ∧ ss[k].size ≤ 9223372036854775807) :
    rStrs w (addrs ad ss.length) (.slice (some ad) ss.length c) ss := by
  refine ⟨some ad, c, rfl, h1, by omega, .inr ⟨ad, ss.map fun b => [.string b], ss.map fun _ => [], rfl, by simp, by simp, ?_, fun i hi => ⟨by simpa using hi, by simpa using hi, by simp, fun j hj => ?_, ?_⟩⟩⟩
  · have : (ss.map fun _ => ([] : List Addr)).flatten = [] := by simp [List.flatten_eq_nil_iff]
    rw [this]; simp
  · simp at hj
    subst hj
    simpa using (h i hi).1
  · simpa [rStr] using (h i hi).2

theorem rStrs.form {w : World} {fs : List Addr} {v : Value} {ss : List ByteArray} (h : rStrs w fs v ss) :
    ∃ A c, v = .slice A ss.length c ∧ ss.length ≤ c ∧ c ≤ 9223372036854775807 ∧ ((ss = [] ∧ fs = []) ∨ ∃ ad, A = some ad ∧ fs = addrs ad ss.length ∧ ∀ k, (hk : k < ss.length) → w.cell? (ad.add k) = some (.string ss[k]) ∧ ss[k].size ≤ 9223372036854775807) := by
  obtain ⟨A, c, e, h1, h2, h3⟩ := h
  refine ⟨A, c, e, h1, by omega, ?_⟩
  rcases h3 with h3 | ⟨ad, css, fss, e1, e2, e3, e4, h3⟩
  · exact .inl h3
  · have hz : fss.flatten = [] := by
      rw [List.flatten_eq_nil_iff]
      intro f hf
      obtain ⟨i, hi, rfl⟩ := List.getElem_of_mem hf
      obtain ⟨_, _, _, _, q, _⟩ := h3 i (by omega)
      exact q
    refine .inr ⟨ad, e1, by rw [e4, hz]; simp, fun k hk => ?_⟩
    obtain ⟨q1, q2, q3, q4, q5, q6, q8⟩ := h3 k hk
    have q7 := q4 0 (by omega)
    simp only [q6, List.getElem_cons_zero, Nat.mul_one, Nat.add_zero] at q7
    exact ⟨q7, q8⟩
/-- A string is stored. -/
theorem rStrs.store {w : World} {fs : List Addr} {ad : Addr} {c n : Nat} {ss : List ByteArray} (h : rStrs w fs (.slice (some ad) n c) ss) (hn : fs.Nodup) {j : Nat} (hj : j < ss.length) (b : ByteArray) (hb : b.size ≤ 9223372036854775807) :
    rStrs (w.setCell (ad.add j) (.string b)) fs (.slice (some ad) n c) (ss.set j b) := by
  obtain ⟨A, c', e, h1, h2, h3⟩ := rStrs.form h
  injection e with e1 e2 e3
  subst e2 e3
  rcases h3 with ⟨rfl, _⟩ | ⟨ad', q1, q4, h3⟩
  · simp at hj
  · rw [← e1] at q1
    injection q1 with q1
    subst q1
    have := rStrs.close_ (w := w.setCell (ad.add j) (.string b)) (ad := ad) (c := c) (ss := ss.set j b) (by simpa using h1) h2 (fun k hk => by
      simp only [List.length_set] at hk
      by_cases e : j = k
      · subst e
        rw [World.cell?_setCell_same _ _ _ (h3 j hk).1, List.getElem_set_self]
        exact ⟨rfl, hb⟩
      · rw [World.cell?_setCell_other, List.getElem_set_ne e]
        · exact h3 k hk
        · intro e'
          rw [q4] at hn
          exact e (nodup_inj hn hj hk e'))
    rw [List.length_set, ← q4] at this
    exact this
theorem rStrs.below {w w' : World} {fs : List Addr} {v : Value} {ss : List ByteArray} (h : rStrs w fs v ss) (hb : Below w.heap.size w w') : rStrs w' fs v ss := rSl.below rStr.local_ rStr.fixed h hb
theorem rStrs.empty {w : World} {A : Option Addr} {c : Nat} (h2 : c ≤ 9223372036854775807) : rStrs w [] (.slice A 0 c) [] := ⟨A, c, rfl, Nat.zero_le _, by omega, .inl ⟨rfl, rfl⟩⟩

set_option maxHeartbeats 400000 in
theorem eqStringS_c (v1 v2 : Value) (xs ys : List ByteArray) (f1 f2 : List Addr) (w : World) (h1 : rStrs w f1 v1 xs) (h2 : rStrs w f2 v2 ys) :
    Calls Tryd.prog 6 #[v1, v2] w fun e w' => e = .returned (.bool (decide (xs = ys))) ∧ Below w.heap.size w w' := by
  obtain ⟨A1, c1, rfl, hc1, hm1, hx⟩ := rStrs.open_ h1
  obtain ⟨A2, c2, rfl, hc2, hm2, hy⟩ := rStrs.open_ h2
  clear h1 h2
  by_cases hl : xs.length = ys.length
  · have hb := bneNat_f hl
    have HL := Lib.hid hl; clear hl
    go_enter Tryd.func6, Tryd.ntmps6
    go_wp2
    go_loopw [4, 5] (fun r i wr => ∃ k : Nat, k ≤ xs.length ∧ i = .int .i64 k ∧ r = .bool false ∧ xs.take k = ys.take k ∧ Below w.heap.size w wr) (fun _ i _ => xs.length - (intOf i).toNat)
    case atStart => exact ⟨0, by omega, rfl, rfl, by simp, Below.refl _ _⟩
    case round =>
      obtain ⟨k, hk, rfl, rfl, ht, hbl⟩ := hrel
      have HT := Lib.hid ht; clear ht
      by_cases hlt : k < xs.length
      · have hlt2 : k < ys.length := by rw [← HL.out]; exact hlt
        obtain ⟨a1, e1, _, b1, g1, _⟩ := hx k hlt
        obtain ⟨a2, e2, _, b2, g2, _⟩ := hy k hlt2
        subst e1 e2
        have g1' := (hbl.cell (p := a1.add k) b1).trans g1
        have g2' := (hbl.cell (p := a2.add k) b2).trans g2
        clear g1 g2 hx hy
        by_cases he : xs[k] = ys[k]
        · have hn := strNeq_f he
          have HE := Lib.hid he; clear he
          go_wp2
          go_quiet (fail)
          go_wp2
          go_roundw
          case rel => exact ⟨k+1, by omega, by go_num, rfl, takeEq HT.out hlt hlt2 HE.out, belowDrewN hbl _⟩
          case measure => simp [intOf]; omega
        · have hn := strNeq_t he
          go_wp2
          go_quiet (fail)
          go_wp2
          go_ret
          exact ⟨retBool (by simp; intro e; subst e; exact he rfl), belowDrewN hbl _⟩
      · have hk' : k = xs.length := by omega
        have H := HT.out
        rw [hk', List.take_length, HL.out, List.take_length] at H
        have H1 := Lib.hid H; clear H hk'
        go_wp2
        go_ret
        exact ⟨retBool (by simp [H1.out]), hbl⟩
  · have hb := bneNat_t hl
    go_enter Tryd.func6, Tryd.ntmps6
    go_wp2
    go_ret
    exact ⟨retBool (by simp; intro e; subst e; exact hl rfl), Below.refl _ _⟩

/-- Strings marked from k on. -/
def mkS (k n : Nat) : List ByteArray := (List.range n).map fun i => mkT (k + i)
theorem length_mkS (k n : Nat) : (mkS k n).length = n := by simp [mkS]
theorem get_mkS (k n i : Nat) (h : i < (mkS k n).length) : (mkS k n)[i] = mkT (k + i) := by simp [mkS]

theorem markSStep {k j : Nat} {ss : List ByteArray} (h : j < ss.length) : (mkS k j ++ ss.drop j).set j (mkT (k + j)) = mkS k (j + 1) ++ ss.drop (j + 1) := by
  apply List.ext_getElem
  · simp [length_mkS]; omega
  · intro i h1 h2
    simp only [List.getElem_set, List.getElem_append, length_mkS, get_mkS, List.getElem_drop]
    simp only [List.length_set, List.length_append, length_mkS, List.length_drop] at h1
    by_cases e : j = i
    · subst e; simp
    · rw [if_neg e]
      by_cases h : i < j
      · rw [dif_pos h, dif_pos (by omega)]
      · rw [dif_neg h, dif_neg (by omega)]
        congr 1; omega

set_option maxHeartbeats 1000000 in
set_option maxRecDepth 100000 in
theorem markStringS_c (v : Value) (ss : List ByteArray) (fs : List Addr) (w : World) (k lo : Nat) (h1 : rStrs w fs v ss) (hm : Mine lo w fs) (hk : 0 < k) (hk0 : k ≤ 1000000000) (hsm : ss.length ≤ 5000000) :
    Calls Tryd.prog 7 #[v, .int .i64 (k : Int)] w fun e w' => e = .returned (.int .i64 ((k + ss.length : Nat) : Int)) ∧ Wrote fs w w' ∧ rStrs w' fs v (mkS k ss.length) := by
  have HM := Lib.hid hm
  have H1 := Lib.hid h1
  obtain ⟨A1, c1, rfl, hc1, hm1, hx⟩ := rStrs.open_ h1
  have HX := Lib.hid hx
  clear h1 hm hx
  obtain ⟨R, hR⟩ : ∃ R : Nat, k + ss.length = R := ⟨_, rfl⟩
  rw [hR]
  have HR := Lib.hid hR; clear hR
  go_enter Tryd.func7, Tryd.ntmps7
  go_wp2
  go_loopw [1, 5] (fun n i wr => ∃ j c : Nat, j ≤ ss.length ∧ c = k + j ∧ i = .int .i64 j ∧ n = .int .i64 (c : Int) ∧ Wrote fs w wr ∧ rStrs wr fs (.slice A1 ss.length c1) (mkS k j ++ ss.drop j)) (fun _ i _ => ss.length - (intOf i).toNat)
  case atStart => exact ⟨0, k, by omega, rfl, rfl, rfl, Wrote.refl _ _, by simpa [mkS] using H1.out⟩
  case round =>
    obtain ⟨j, c, hj, hc, rfl, rfl, hwr, hrb⟩ := hrel
    by_cases hlt : j < ss.length
    · obtain ⟨a1, e1, i1, b1, g1, _⟩ := HX.out j hlt
      subst e1
      have hM2 : Mine lo wr fs := HM.out.wrote hwr (rSl.there rStr.fixed H1.out)
      have hcell : ∃ u, wr.cell? (a1.add j) = some u := by
        obtain ⟨A, c, e, _, _, h⟩ := rStrs.open_ hrb
        obtain ⟨ad, e2, _, _, h2, _⟩ := h j (by simp [length_mkS]; omega)
        injection e with e3 e4 e5
        rw [e2] at e3
        injection e3 with e6
        rw [e6]; exact ⟨_, h2⟩
      obtain ⟨old, hold⟩ := hcell
      have hfz := hM2.free _ i1
      have hb2 := Nat.lt_of_lt_of_le b1 hwr.size
      have hcb : c ≤ 10000000000000 := by omega
      have hc0 : 0 < c := by omega
      have hkb := mkT_small c hcb
      have HRB := Lib.hid hrb; have HW := Lib.hid hwr; have HM2 := Lib.hid hM2; have HC := Lib.hid hc
      clear hrb hwr hM2 g1 hc
      go_wp2_with fail
      refine (markText_c c wr hc0 hcb).mono ?_
      rintro e w1 ⟨rfl, hb1⟩
      have hold1 := (hb1.cell (p := a1.add j) hb2).trans hold
      have hfz1 := (hb1.frozen (p := a1.add j) hb2).trans hfz
      have HB1 := Lib.hid hb1
      have HRB1 := Lib.hid (rStrs.below HRB.out hb1)
      clear hb1 hold hfz
      obtain ⟨T, hT⟩ : ∃ T, mkT c = T := ⟨_, rfl⟩
      rw [hT] at hkb ⊢
      have HT := Lib.hid hT
      clear hT
      go_wp2_with fail
      go_roundw
      case rel =>
        refine ⟨j + 1, c + 1, by omega, by have := HC.out; omega, by congr 1, by congr 1, ((HW.out.trans (Wrote.of_below HB1.out)).setCell i1 _), ?_⟩
        have H := rStrs.store HRB1.out HM.out.nodup (j := j) (by simp [length_mkS]; omega) (mkT c) (by rw [HT.out]; exact hkb)
        rw [HC.out, markSStep hlt, ← HC.out, HT.out] at H
        exact H
      case measure => simp [intOf]; omega
    · have hje : j = ss.length := by omega
      subst hje
      rw [HR.out] at hc
      subst hc
      have HRB := Lib.hid hrb; have HW := Lib.hid hwr
      clear hrb hwr
      go_wp2_with fail
      go_ret
      refine ⟨rfl, HW.out, ?_⟩
      have H := HRB.out
      rw [List.drop_length, List.append_nil] at H
      exact H

set_option maxHeartbeats 1000000 in
set_option maxRecDepth 100000 in
theorem heldStringS_c (v : Value) (n : Nat) (fs : List Addr) (w : World) (k : Nat) (h1 : rStrs w fs v (mkS k n)) (hk : 0 < k) (hk0 : k ≤ 1000000000) (hsm : n ≤ 5000000) :
    Calls Tryd.prog 8 #[v, .int .i64 (k : Int)] w fun e w' => e = .returned (.int .i64 ((k + n : Nat) : Int)) ∧ Below w.heap.size w w' := by
  obtain ⟨A1, c1, rfl, hc1, hm1, hx⟩ := rStrs.open_ h1
  have hx2 : ∀ q, q < n → ∃ ad, A1 = some ad ∧ (ad.add q).block < w.heap.size ∧ w.cell? (ad.add q) = some (.string (mkT (k + q))) := fun q hq => by
    obtain ⟨ad, e1, _, b, g, _⟩ := hx q (by rw [length_mkS]; exact hq)
    rw [get_mkS] at g
    exact ⟨ad, e1, b, g⟩
  clear hx
  rw [length_mkS] at hc1 ⊢
  have HX := Lib.hid hx2; clear hx2 h1
  obtain ⟨R, hR⟩ : ∃ R : Nat, k + n = R := ⟨_, rfl⟩
  rw [hR]
  have HR := Lib.hid hR; clear hR
  go_enter Tryd.func8, Tryd.ntmps8
  go_wp2
  go_loopw [1, 4, 5] (fun m r i wr => ∃ (j c : Nat), j ≤ n ∧ c = k + j ∧ i = .int .i64 j ∧ m = .int .i64 (c : Int) ∧ r = .int .i64 0 ∧ Below w.heap.size w wr) (fun _ _ i _ => n - (intOf i).toNat)
  case atStart => exact ⟨0, k, by omega, rfl, rfl, rfl, rfl, Below.refl _ _⟩
  case round =>
    obtain ⟨j, c, hj, hc, rfl, rfl, rfl, hb⟩ := hrel
    by_cases hlt : j < n
    · obtain ⟨ad, e1, b0, g0⟩ := HX.out j hlt
      rw [← hc] at g0
      subst e1
      have p0 := (hb.cell (p := ad.add j) b0).trans g0
      have p0' := cell_regrown p0
      have hcb : c ≤ 10000000000000 := by omega
      have hT := strNeq_f (rfl : mkT c = mkT c)
      have HCt := Lib.hid (fun d os => Calls.regrown_of (markText_c c (grow (redrawn wr d) os) (by omega) (by omega)))
      have HB := Lib.hid hb; have HC := Lib.hid hc
      clear g0 p0 hb hc
      obtain ⟨T, hTT⟩ : ∃ T, mkT c = T := ⟨_, rfl⟩
      rw [hTT] at p0' hT HCt
      clear hTT
      go_wp2_with fail
      refine wp_region_quiet_below (by kernel_rfl) (by kernel_rfl) ?_
      repeat (first | go_big_quiet_step (exact HCt.out _ _) | quiet_step (exact HCt.out _ _))
      refine wpQuiet_nil ?_
      intro _ hw'
      obtain ⟨⟨dq, osq⟩, hw''⟩ := hw'
      subst hw''
      have hbg := below_regrown wr dq osq
      have HB1 := Lib.hid (HB.out.trans (hbg.mono HB.out.size))
      clear p0' hbg
      go_wp2_with fail
      go_roundw
      case rel => exact ⟨j + 1, c + 1, by omega, by have := HC.out; omega, by congr 1, by congr 1, rfl, HB1.out⟩
      case measure => simp [intOf]; omega
    · have hje : j = n := by omega
      subst hje
      rw [HR.out] at hc
      subst hc
      have HB := Lib.hid hb
      clear hb HX
      go_wp2_with fail
      go_ret
      exact ⟨rfl, HB.out⟩

end Go.Proofs.YtimabbleijkmhaaDoor
