/-
  One element of a slice while it is marked: its cells and what of memory has turned.
-/
import Derived.Test.YtabainoplkpppaaMk0
namespace Go.Proofs.Ytabainoplkpppaa
open Go.RowKit Go.Sort

/-- An element's cells in a world u that came from w0 by writing on gs alone. -/
structure ERow (k : Nat) (w0 u : World) (b o : Nat) (cs : List Value) (gs : List Addr) : Prop where
  lt : b < u.heap.size
  len : cs.length = k
  cell : ∀ q, (hq : q < cs.length) → u.cell? ⟨b, o + q, none⟩ = some cs[q]
  free : ∀ q, q < k → u.frozen? ⟨b, o + q, none⟩ = false
  wrote : Wrote gs w0 u
  mem : ∀ q, q < k → (⟨b, o + q, none⟩ : Addr) ∈ gs

section
variable {k : Nat} {w0 u u' : World} {b o : Nat} {cs : List Value} {gs : List Addr}
theorem ERow.set_ (h : ERow k w0 u b o cs gs) (q : Nat) (hq : q < k) (v : Value) : ERow k w0 (u.setCell ⟨b, o + q, none⟩ v) b o (cs.set q v) gs := by
  refine ⟨by simpa [World.setCell] using h.lt, by simpa using h.len, fun p hp => ?_, fun p hp => ?_, h.wrote.setCell (h.mem q hq) v, h.mem⟩
  · simp only [List.length_set] at hp
    by_cases e : q = p
    · subst e
      rw [World.cell?_setCell_same _ _ _ (h.cell q hp), List.getElem_set_self]
    · rw [World.cell?_setCell_other _ _ _ _ (fun e2 => e (by injection e2 with _ e3; omega)), List.getElem_set_ne e]
      exact h.cell p hp
  · rw [World.frozen?_setCell]; exact h.free p hp
theorem ERow.below (h : ERow k w0 u b o cs gs) (hb : Below u.heap.size u u') : ERow k w0 u' b o cs gs :=
  ⟨Nat.lt_of_lt_of_le h.lt hb.size, h.len, fun q hq => (hb.cell (p := ⟨b, o + q, none⟩) h.lt).trans (h.cell q hq), fun q hq => (hb.frozen (p := ⟨b, o + q, none⟩) h.lt).trans (h.free q hq), h.wrote.trans (Wrote.of_below hb), h.mem⟩
theorem ERow.sub (h : ERow k w0 u b o cs gs) {f : List Addr} (hw : Wrote f u u') (hf : ∀ a, a ∈ f → a ∈ gs) (hn : ∀ q, q < k → (⟨b, o + q, none⟩ : Addr) ∉ f) : ERow k w0 u' b o cs gs :=
  ⟨Nat.lt_of_lt_of_le h.lt hw.size, h.len, fun q hq => (hw.cell ⟨b, o + q, none⟩ (hn q (by rw [← h.len]; exact hq)) h.lt).trans (h.cell q hq), fun q hq => (hw.frozen ⟨b, o + q, none⟩ h.lt).trans (h.free q hq), h.wrote.trans (hw.mono hf), h.mem⟩
end

end Go.Proofs.Ytabainoplkpppaa
