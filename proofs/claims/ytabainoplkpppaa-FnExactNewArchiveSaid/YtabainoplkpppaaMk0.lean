/-
  Slices of int64, marked; and whether the marks are held.
-/
import Derived.Test.YtabainoplkpppaaEqs0
import Derived.Lib.QuietBelow
namespace Go.Proofs.Ytabainoplkpppaa
open Go.RowKit Go.Sort

theorem rInts.close_ {w : World} {ad : Addr} {c : Nat} {ss : List Int} (h1 : ss.length ≤ c) (h2 : c ≤ 9223372036854775807) (h : ∀ k, (hk : k < ss.length) → w.cell? (ad.add k) = some (.int .i64 ss[k]) ∧ okI ss[k]) :
    rInts w (addrs ad ss.length) (.slice (some ad) ss.length c) ss := by
  refine ⟨some ad, c, rfl, h1, by omega, .inr ⟨ad, ss.map fun b => [.int .i64 b], ss.map fun _ => [], rfl, by simp, by simp, ?_, fun i hi => ⟨by simpa using hi, by simpa using hi, by simp, fun j hj => ?_, ?_⟩⟩⟩
  · have : (ss.map fun _ => ([] : List Addr)).flatten = [] := by simp [List.flatten_eq_nil_iff]
    rw [this]; simp
  · simp at hj
    subst hj
    simpa using (h i hi).1
  · simpa [rInt, okI] using (h i hi).2

theorem rInts.form {w : World} {fs : List Addr} {v : Value} {ss : List Int} (h : rInts w fs v ss) :
    ∃ A c, v = .slice A ss.length c ∧ ss.length ≤ c ∧ c ≤ 9223372036854775807 ∧ ((ss = [] ∧ fs = []) ∨ ∃ ad, A = some ad ∧ fs = addrs ad ss.length ∧ ∀ k, (hk : k < ss.length) → w.cell? (ad.add k) = some (.int .i64 ss[k]) ∧ okI ss[k]) := by
  obtain ⟨A, c, e, h1, h2, h3⟩ := h
  refine ⟨A, c, e, h1, by omega, ?_⟩
  rcases h3 with h3 | ⟨ad, css, fss, e1, e2, e3, e4, h3⟩
  · exact .inl h3
  · have hz : fss.flatten = [] := by
      rw [List.flatten_eq_nil_iff]
      intro f hf
      obtain ⟨i, hi, rfl⟩ := List.getElem_of_mem hf
      obtain ⟨_, _, _, _, q, _⟩ := h3 i (by omega)
      exact q
    refine .inr ⟨ad, e1, by rw [e4, hz]; simp, fun k hk => ?_⟩
    obtain ⟨q1, q2, q3, q4, q5, q6, q8⟩ := h3 k hk
    have q7 := q4 0 (by omega)
    simp only [q6, List.getElem_cons_zero, Nat.mul_one, Nat.add_zero] at q7
    exact ⟨q7, q8⟩
/-- A string is stored. -/
theorem rInts.store {w : World} {fs : List Addr} {ad : Addr} {c n : Nat} {ss : List Int} (h : rInts w fs (.slice (some ad) n c) ss) (hn : fs.Nodup) {j : Nat} (hj : j < ss.length) (b : Int) (hb : okI b) :
    rInts (w.setCell (ad.add j) (.int .i64 b)) fs (.slice (some ad) n c) (ss.set j b) := by
  obtain ⟨A, c', e, h1, h2, h3⟩ := rInts.form h
  injection e with e1 e2 e3
  subst e2 e3
  rcases h3 with ⟨rfl, _⟩ | ⟨ad', q1, q4, h3⟩
  · simp at hj
  · rw [← e1] at q1
    injection q1 with q1
    subst q1
    have := rInts.close_ (w := w.setCell (ad.add j) (.int .i64 b)) (ad := ad) (c := c) (ss := ss.set j b) (by simpa using h1) h2 (fun k hk => by
      simp only [List.length_set] at hk
      by_cases e : j = k
      · subst e
        rw [World.cell?_setCell_same _ _ _ (h3 j hk).1, List.getElem_set_self]
        exact ⟨rfl, hb⟩
      · rw [World.cell?_setCell_other, List.getElem_set_ne e]
        · exact h3 k hk
        · intro e'
          rw [q4] at hn
          exact e (nodup_inj hn hj hk e'))
    rw [List.length_set, ← q4] at this
    exact this

theorem rInts.below {w w' : World} {fs : List Addr} {v : Value} {ss : List Int} (h : rInts w fs v ss) (hb : Below w.heap.size w w') : rInts w' fs v ss := rSl.below rInt.local_ rInt.fixed h hb

/-- Numbers marked from k on. -/
def mkI (k n : Nat) : List Int := (List.range n).map fun i => ((k + i : Nat) : Int)
theorem length_mkI (k n : Nat) : (mkI k n).length = n := by simp [mkI]
theorem get_mkI (k n i : Nat) (h : i < (mkI k n).length) : (mkI k n)[i] = ((k + i : Nat) : Int) := by simp [mkI]
theorem markIStep {k j : Nat} {ss : List Int} (h : j < ss.length) : (mkI k j ++ ss.drop j).set j ((k + j : Nat) : Int) = mkI k (j + 1) ++ ss.drop (j + 1) := by
  apply List.ext_getElem
  · simp [length_mkI]; omega
  · intro i h1 h2
    simp only [List.getElem_set, List.getElem_append, length_mkI, get_mkI, List.getElem_drop]
    simp only [List.length_set, List.length_append, length_mkI, List.length_drop] at h1
    by_cases e : j = i
    · subst e; simp
    · rw [if_neg e]
      by_cases h : i < j
      · rw [dif_pos h, dif_pos (by omega)]
      · rw [dif_neg h, dif_neg (by omega)]
        congr 1; omega

set_option maxHeartbeats 1000000 in
set_option maxRecDepth 100000 in
theorem markInt64S_c (v : Value) (ss : List Int) (fs : List Addr) (w : World) (k lo : Nat) (h1 : rInts w fs v ss) (hm : Mine lo w fs) (hk0 : k ≤ 1000000000000) (hsm : ss.length ≤ 1000000000000) :
    Calls Try.prog 44 #[v, .int .i64 (k : Int)] w fun e w' => e = .returned (.int .i64 ((k + ss.length : Nat) : Int)) ∧ Wrote fs w w' ∧ rInts w' fs v (mkI k ss.length) := by
  have HM := Lib.hid hm
  have H1 := Lib.hid h1
  obtain ⟨A1, c1, rfl, hc1, hm1, hx⟩ := rInts.open_ h1
  have HX := Lib.hid hx
  clear h1 hm hx
  obtain ⟨R, hR⟩ : ∃ R : Nat, k + ss.length = R := ⟨_, rfl⟩
  rw [hR]
  have HR := Lib.hid hR; clear hR
  go_enter Try.func44, Try.ntmps44
  go_wp2
  go_loopw [1, 5] (fun n i wr => ∃ j c : Nat, j ≤ ss.length ∧ c = k + j ∧ i = .int .i64 j ∧ n = .int .i64 (c : Int) ∧ Wrote fs w wr ∧ rInts wr fs (.slice A1 ss.length c1) (mkI k j ++ ss.drop j)) (fun _ i _ => ss.length - (intOf i).toNat)
  case atStart => exact ⟨0, k, by omega, rfl, rfl, rfl, Wrote.refl _ _, by simpa [mkI] using H1.out⟩
  case round =>
    obtain ⟨j, c, hj, hc, rfl, rfl, hwr, hrb⟩ := hrel
    by_cases hlt : j < ss.length
    · obtain ⟨a1, e1, i1, b1, g1, _⟩ := HX.out j hlt
      subst e1
      have hM2 : Mine lo wr fs := HM.out.wrote hwr (rSl.there rInt.fixed H1.out)
      have hcell : ∃ u, wr.cell? (a1.add j) = some u := by
        obtain ⟨A, c, e, _, _, h⟩ := rInts.open_ hrb
        obtain ⟨ad, e2, _, _, h2, _⟩ := h j (by simp [length_mkI]; omega)
        injection e with e3 e4 e5
        rw [e2] at e3
        injection e3 with e6
        rw [e6]; exact ⟨_, h2⟩
      obtain ⟨old, hold⟩ := hcell
      have hfz := hM2.free _ i1
      have hcb : c ≤ 10000000000000 := by omega
      have HRB := Lib.hid hrb; have HW := Lib.hid hwr; have HC := Lib.hid hc
      clear hrb hwr hM2 g1 hc
      go_wp2_with fail
      go_roundw
      case rel =>
        refine ⟨j + 1, c + 1, by omega, by have := HC.out; omega, by congr 1, by congr 1, HW.out.setCell i1 _, ?_⟩
        have H := rInts.store HRB.out HM.out.nodup (j := j) (by simp [length_mkI]; omega) (c : Int) (by unfold okI; omega)
        rw [HC.out, markIStep hlt, ← HC.out] at H
        exact H
      case measure => simp [intOf]; omega
    · have hje : j = ss.length := by omega
      subst hje
      rw [HR.out] at hc
      subst hc
      have HRB := Lib.hid hrb; have HW := Lib.hid hwr
      clear hrb hwr
      go_wp2_with fail
      go_ret
      refine ⟨rfl, HW.out, ?_⟩
      have H := HRB.out
      rw [List.drop_length, List.append_nil] at H
      exact H

set_option maxHeartbeats 1000000 in
set_option maxRecDepth 100000 in
theorem heldInt64S_c (v : Value) (n : Nat) (fs : List Addr) (w : World) (k : Nat) (h1 : rInts w fs v (mkI k n)) (hk0 : k ≤ 1000000000000) (hsm : n ≤ 1000000000000) :
    Calls Try.prog 50 #[v, .int .i64 (k : Int)] w fun e w' => e = .returned (.int .i64 ((k + n : Nat) : Int)) ∧ Below w.heap.size w w' := by
  obtain ⟨A1, c1, rfl, hc1, hm1, hx⟩ := rInts.open_ h1
  have hx2 : ∀ q, q < n → ∃ ad, A1 = some ad ∧ (ad.add q).block < w.heap.size ∧ w.cell? (ad.add q) = some (.int .i64 ((k + q : Nat) : Int)) := fun q hq => by
    obtain ⟨ad, e1, _, b, g, _⟩ := hx q (by rw [length_mkI]; exact hq)
    rw [get_mkI] at g
    exact ⟨ad, e1, b, g⟩
  clear hx
  rw [length_mkI] at hc1 ⊢
  have HX := Lib.hid hx2; clear hx2 h1
  obtain ⟨R, hR⟩ : ∃ R : Nat, k + n = R := ⟨_, rfl⟩
  rw [hR]
  have HR := Lib.hid hR; clear hR
  go_enter Try.func50, Try.ntmps50
  go_wp2
  go_loopw [1, 4, 5] (fun m r i wr => ∃ (j c : Nat), j ≤ n ∧ c = k + j ∧ i = .int .i64 j ∧ m = .int .i64 (c : Int) ∧ r = .int .i64 0 ∧ Below w.heap.size w wr) (fun _ _ i _ => n - (intOf i).toNat)
  case atStart => exact ⟨0, k, by omega, rfl, rfl, rfl, rfl, Below.refl _ _⟩
  case round =>
    obtain ⟨j, c, hj, hc, rfl, rfl, rfl, hb⟩ := hrel
    by_cases hlt : j < n
    · obtain ⟨ad, e1, b0, g0⟩ := HX.out j hlt
      rw [← hc] at g0
      subst e1
      have p0 := (hb.cell (p := ad.add j) b0).trans g0
      have hcb : c ≤ 10000000000000 := by omega
      have HB := Lib.hid hb; have HC := Lib.hid hc
      clear g0 hb hc
      go_wp2_with fail
      go_roundw
      case rel => exact ⟨j + 1, c + 1, by omega, by have := HC.out; omega, by congr 1, by congr 1, rfl, HB.out⟩
      case measure => simp [intOf]; omega
    · have hje : j = n := by omega
      subst hje
      rw [HR.out] at hc
      subst hc
      have HB := Lib.hid hb
      clear hb HX
      go_wp2_with fail
      go_ret
      exact ⟨rfl, HB.out⟩

end Go.Proofs.Ytabainoplkpppaa
