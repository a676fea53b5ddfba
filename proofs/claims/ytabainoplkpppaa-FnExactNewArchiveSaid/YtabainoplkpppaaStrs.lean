/-
  The laws' own helpers over slices of strings: what each call does.
-/
import Derived.Test.YtabainoplkpppaaMarkT
import Derived.Lib.QuietBelow
import Derived.ProofKit
namespace Go.Proofs.Ytabainoplkpppaa
open Go.RowKit Go.Sort

theorem strNeq_f {a b : ByteArray} (h : a = b) : (!a.toList == b.toList) = false := by subst h; simp
theorem strNeq_t {a b : ByteArray} (h : a ≠ b) : (!a.toList == b.toList) = true := by
  have : a.toList ≠ b.toList := fun e => h (WideShapes.bytes_inj (by rwa [ByteArray.toList_eq, ByteArray.toList_eq] at e))
  simpa using this

theorem rStrs.open_ {w : World} {fs : List Addr} {v : Value} {ss : List ByteArray} (h : rStrs w fs v ss) :
    ∃ A c, v = .slice A ss.length c ∧ ss.length ≤ c ∧ c ≤ 9223372036854775807 ∧ ∀ k, (hk : k < ss.length) → ∃ ad, A = some ad ∧ ad.add k ∈ fs ∧ (ad.add k).block < w.heap.size ∧ w.cell? (ad.add k) = some (.string ss[k]) ∧ ss[k].size ≤ 9223372036854775807 := by
  obtain ⟨A, c, e, h1, h2, h3⟩ := h
  refine ⟨A, c, e, h1, by omega, fun k hk => ?_⟩
  rcases h3 with ⟨rfl, _⟩ | ⟨ad, css, fss, e1, e2, e3, e4, h3⟩
  · cases hk
  · obtain ⟨q1, q2, q3, q4, q5, q6, q8⟩ := h3 k hk
    have q7 := q4 0 (by omega)
    simp only [q6, List.getElem_cons_zero, Nat.mul_one, Nat.add_zero] at q7
    exact ⟨ad, e1, by rw [e4]; exact List.mem_append_left _ (mem_addrs.2 ⟨k, by omega, rfl⟩), World.block_lt_of_cell? _ _ q7, q7, q8⟩

theorem rStrs.close_ {w : World} {ad : Addr} {c : Nat} {ss : List ByteArray} (h1 : ss.length ≤ c) (h2 : c ≤ 9223372036854775807) (h : ∀ k, (hk : k < ss.length) → w.cell? (ad.add k) = some (.string ss[k]) ∧ ss[k].size ≤ 9223372036854775807) :
    rStrs w (addrs ad ss.length) (.slice (some ad) ss.length c) ss := by
  refine ⟨some ad, c, rfl, h1, by omega, .inr ⟨ad, ss.map fun b => [.string b], ss.map fun _ => [], rfl, by simp, by simp, ?_, fun i hi => ⟨by simpa using hi, by simpa using hi, by simp, fun j hj => ?_, ?_⟩⟩⟩
  · have : (ss.map fun _ => ([] : List Addr)).flatten = [] := by simp [List.flatten_eq_nil_iff]
    rw [this]; simp
  · simp at hj
    subst hj
    simpa using (h i hi).1
  · simpa [rStr] using (h i hi).2

theorem rStrs.form {w : World} {fs : List Addr} {v : Value} {ss : List ByteArray} (h : rStrs w fs v ss) :
    ∃ A c, v = .slice A ss.length c ∧ ss.length ≤ c ∧ c ≤ 9223372036854775807 ∧ ((ss = [] ∧ fs = []) ∨ ∃ ad, A = some ad ∧ fs = addrs ad ss.length ∧ ∀ k, (hk : k < ss.length) → w.cell? (ad.add k) = some (.string ss[k]) ∧ ss[k].size ≤ 9223372036854775807) := by
  obtain ⟨A, c, e, h1, h2, h3⟩ := h
  refine ⟨A, c, e, h1, by omega, ?_⟩
  rcases h3 with h3 | ⟨ad, css, fss, e1, e2, e3, e4, h3⟩
  · exact .inl h3
  · have hz : fss.flatten = [] := by
      rw [List.flatten_eq_nil_iff]
      intro f hf
      obtain ⟨i, hi, rfl⟩ := List.getElem_of_mem hf
      obtain ⟨_, _, _, _, q, _⟩ := h3 i (by omega)
      exact q
    refine .inr ⟨ad, e1, by rw [e4, hz]; simp, fun k hk => ?_⟩
    obtain ⟨q1, q2, q3, q4, q5, q6, q8⟩ := h3 k hk
    have q7 := q4 0 (by omega)
    simp only [q6, List.getElem_cons_zero, Nat.mul_one, Nat.add_zero] at q7
    exact ⟨q7, q8⟩
/-- A string is stored. -/
theorem rStrs.store {w : World} {fs : List Addr} {ad : Addr} {c n : Nat} {ss : List ByteArray} (h : rStrs w fs (.slice (some ad) n c) ss) (hn : fs.Nodup) {j : Nat} (hj : j < ss.length) (b : ByteArray) (hb : b.size ≤ 9223372036854775807) :
    rStrs (w.setCell (ad.add j) (.string b)) fs (.slice (some ad) n c) (ss.set j b) := by
  obtain ⟨A, c', e, h1, h2, h3⟩ := rStrs.form h
  injection e with e1 e2 e3
  subst e2 e3
  rcases h3 with ⟨rfl, _⟩ | ⟨ad', q1, q4, h3⟩
  · simp at hj
  · rw [← e1] at q1
    injection q1 with q1
    subst q1
    have := rStrs.close_ (w := w.setCell (ad.add j) (.string b)) (ad := ad) (c := c) (ss := ss.set j b) (by simpa using h1) h2 (fun k hk => by
      simp only [List.length_set] at hk
      by_cases e : j = k
      · subst e
        rw [World.cell?_setCell_same _ _ _ (h3 j hk).1, List.getElem_set_self]
        exact ⟨rfl, hb⟩
      · rw [World.cell?_setCell_other, List.getElem_set_ne e]
        · exact h3 k hk
        · intro e'
          rw [q4] at hn
          exact e (nodup_inj hn hj hk e'))
    rw [List.length_set, ← q4] at this
    exact this
theorem rStrs.below {w w' : World} {fs : List Addr} {v : Value} {ss : List ByteArray} (h : rStrs w fs v ss) (hb : Below w.heap.size w w') : rStrs w' fs v ss := rSl.below rStr.local_ rStr.fixed h hb
theorem rStrs.empty {w : World} {A : Option Addr} {c : Nat} (h2 : c ≤ 9223372036854775807) : rStrs w [] (.slice A 0 c) [] := ⟨A, c, rfl, Nat.zero_le _, by omega, .inl ⟨rfl, rfl⟩⟩

/-- Strings marked from k on. -/
def mkS (k n : Nat) : List ByteArray := (List.range n).map fun i => mkT (k + i)
theorem length_mkS (k n : Nat) : (mkS k n).length = n := by simp [mkS]
theorem get_mkS (k n i : Nat) (h : i < (mkS k n).length) : (mkS k n)[i] = mkT (k + i) := by simp [mkS]

theorem markSStep {k j : Nat} {ss : List ByteArray} (h : j < ss.length) : (mkS k j ++ ss.drop j).set j (mkT (k + j)) = mkS k (j + 1) ++ ss.drop (j + 1) := by
  apply List.ext_getElem
  · simp [length_mkS]; omega
  · intro i h1 h2
    simp only [List.getElem_set, List.getElem_append, length_mkS, get_mkS, List.getElem_drop]
    simp only [List.length_set, List.length_append, length_mkS, List.length_drop] at h1
    by_cases e : j = i
    · subst e; simp
    · rw [if_neg e]
      by_cases h : i < j
      · rw [dif_pos h, dif_pos (by omega)]
      · rw [dif_neg h, dif_neg (by omega)]
        congr 1; omega

end Go.Proofs.Ytabainoplkpppaa
