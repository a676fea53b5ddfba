/-
  From the form's own reading of an argument to the readings of this seat.
-/
import Derived.Test.YtabainoplkpppaaBase
import Derived.ProofKit
import Derived.Deep.Slices
import Derived.ChangeArms
namespace Go.Proofs.Ytabainoplkpppaa
open Go.RowKit Go.ChangeShapes Go.WideShapes

/-- Whatever the form reads as data of type t, this reading reads too. -/
def Opens {α : Type} (t : TypeId) (R : Repr α) : Prop :=
  ∀ (H : Type) (enc : TypeId × Value → H) (W : World) (base : Nat) (spare : Nat → Bool) (held : Bool) (fuel : Nat) (cs : List Value) (x : DataW H × List MemPlace),
    DataW.trod enc Try.prog W base spare held fuel t cs = some x → ∃ fs d, R W fs cs d

def rBool : Repr Bool := fun _ fs cs x => fs = [] ∧ cs = [.bool x]
theorem rBool.local_ : Local rBool := fun _ _ _ _ _ h _ => h
theorem rBool.fixed : Fixed rBool := fun _ _ _ _ h a ha => by rw [h.1] at ha; cases ha

theorem opens_int {t : TypeId} (ht : Try.prog.underlying t = some (.int .i64)) : Opens t rInt := by
  intro H enc W base spare held fuel cs x h
  obtain ⟨n, e, _, hw⟩ := DataW.trod_int ht h
  refine ⟨[], n, rfl, e, ?_⟩
  simp [Lit.wf, IntKind.min, IntKind.max, IntKind.bits, IntKind.signed] at hw
  omega
theorem opens_byte {t : TypeId} (ht : Try.prog.underlying t = some (.int .u8)) : Opens t rByte := by
  intro H enc W base spare held fuel cs x h
  obtain ⟨n, e, _, hw⟩ := DataW.trod_int ht h
  simp [Lit.wf, IntKind.min, IntKind.max, IntKind.bits, IntKind.signed] at hw
  refine ⟨[], UInt8.ofNat n.toNat, rfl, ?_⟩
  rw [e]
  have : ((UInt8.ofNat n.toNat).toNat : Int) = n := by
    rw [UInt8.toNat_ofNat']; omega
  show [Value.int .u8 n] = [Value.int .u8 _]
  rw [this]
theorem opens_bool {t : TypeId} (ht : Try.prog.underlying t = some .bool) : Opens t rBool := by
  intro H enc W base spare held fuel cs x h
  obtain ⟨n, e, _⟩ := DataW.trod_bool ht h
  exact ⟨[], n, rfl, e⟩
theorem opens_str {t : TypeId} (ht : Try.prog.underlying t = some .string) : Opens t rStr := by
  intro H enc W base spare held fuel cs x h
  obtain ⟨n, e, _, hs⟩ := DataW.trod_string ht h
  exact ⟨[], n, rfl, e, by simpa [maxLen] using hs⟩

theorem opens_slice {α : Type} {t e : TypeId} {R : Repr α} {k : Nat} (ht : Try.prog.underlying t = some (.slice e)) (hk : Try.prog.cellsOf e = k) (hR : Opens e R) : Opens t (rSlice k R) := by
  intro H enc W base spare held fuel cs x h
  rcases Go.Deep.open_slice ht h with ⟨rfl, _⟩ | ⟨a, len, cap, m, n, D, Pl, rfl, _, hl, hc, hm, _, hel⟩
  · exact ⟨[], [], _, rfl, none, 0, rfl, Nat.le_refl _, by omega, .inl ⟨rfl, rfl⟩⟩
  · have hlm : len ≤ m := by rw [hm]; split <;> omega
    have key : ∀ i : Fin len, ∃ q : List Addr × α × List Value, q.2.2.length = k ∧ (∀ j, (hj : j < q.2.2.length) → W.cell? (a.add (i.1 * k + j)) = some q.2.2[j]) ∧ R W q.1 q.2.2 q.2.1 := by
      intro i
      obtain ⟨cs', h1, h2⟩ := hel i.1 (by omega)
      obtain ⟨_, h3, h4⟩ := World.cells?_some h1
      obtain ⟨fs, d, h5⟩ := hR _ _ _ _ _ _ _ _ _ h2
      refine ⟨(fs, d, cs'), by rw [h3, hk], fun j hj => ?_, h5⟩
      have h6 := h4 j (by simpa [h3] using hj)
      rw [addAdd, hk] at h6
      rw [h6]
      exact List.getElem?_eq_getElem hj
    let Q := fun i : Fin len => Classical.choose (key i)
    have HQ := fun i : Fin len => Classical.choose_spec (key i)
    refine ⟨addrs a (len * k) ++ (List.ofFn fun i => (Q i).1).flatten, List.ofFn fun i => (Q i).2.1, _, rfl, some a, cap, by simp, by simpa using hl, by simpa [maxLen] using hc, .inr ⟨a, List.ofFn fun i => (Q i).2.2, List.ofFn fun i => (Q i).1, rfl, by simp, by simp, by simp, ?_⟩⟩
    intro i hi
    simp only [List.length_ofFn] at hi
    obtain ⟨q1, q2, q3⟩ := HQ ⟨i, hi⟩
    refine ⟨by simpa using hi, by simpa using hi, by simpa using q1, fun j hj => ?_, by simpa using q3⟩
    simp only [List.getElem_ofFn] at hj ⊢
    exact q2 j hj

theorem opens_bytes : Opens 66 (rSlice 1 rByte) := opens_slice Try.underlying66 (by kernel_rfl) (opens_byte Try.underlying5)

/-- An argument of a type that is read by one cell. -/
theorem Opens.arg {α : Type} {t : TypeId} {R : Repr α} (h : Opens t R) {H : Type} {enc : TypeId × Value → H} {W : World} {base : Nat} {spare : Nat → Bool} {held : Bool} {v : Value} {d : DataW H} {p : List MemPlace}
    (hv : DataW.Trod enc Try.prog W base spare held t v d p) : ∃ fs x, R W fs v.cells.toList x := by
  obtain ⟨fuel, hf⟩ := hv
  exact h _ _ _ _ _ _ _ _ _ hf

set_option maxRecDepth 100000 in
theorem arg_slice {α : Type} {t e : TypeId} {R : Repr α} {k : Nat} (ht : Try.prog.underlying t = some (.slice e)) (h : Opens t (rSlice k R)) {H : Type} {enc : TypeId × Value → H} {W : World} {r : Reach} {b0 base : Nat} {spare : Nat → Bool} {held : Bool} {v : Value} {d : DataW H} {p : List MemPlace}
    (ho : Value.okWide Try.prog W r b0 t v) (hv : DataW.Trod enc Try.prog W base spare held t v d p) : ∃ fs x, rSl k R W fs v x := by
  obtain ⟨a, n, c, rfl⟩ := okWide_slice ht ho
  obtain ⟨fs, x, v', e, hx⟩ := h.arg hv
  simp [Value.cells] at e
  subst e
  exact ⟨fs, x, hx⟩

/-- A field of a struct. -/
theorem field_of {t : TypeId} {flds : Array Field} (ht : Try.prog.underlying t = some (.struct flds)) {H : Type} {enc : TypeId × Value → H} {W : World} {base : Nat} {spare : Nat → Bool} {held : Bool} {fuel : Nat} {cs : List Value} {x : DataW H × List MemPlace}
    (h : DataW.trod enc Try.prog W base spare held fuel t cs = some x) (i : Nat) (f : Field) (hf : flds[i]? = some f) {α : Type} {R : Repr α} (hR : Opens f.type R) :
    ∃ fs d, R W fs ((cs.drop f.offset).take (Try.prog.cellsOf f.type)) d := by
  obtain ⟨xs, n, _, _, _, hlen, hg⟩ := DataW.trod_struct ht h
  have hi : i < flds.size := (Array.getElem?_eq_some_iff.1 hf).1
  have h1 := hg i f hf
  rw [List.getElem?_eq_getElem (by omega)] at h1
  exact hR _ _ _ _ _ _ _ _ _ h1
theorem struct_length {t : TypeId} {flds : Array Field} (ht : Try.prog.underlying t = some (.struct flds)) {H : Type} {enc : TypeId × Value → H} {W : World} {base : Nat} {spare : Nat → Bool} {held : Bool} {fuel : Nat} {cs : List Value} {x : DataW H × List MemPlace}
    (h : DataW.trod enc Try.prog W base spare held fuel t cs = some x) : cs.length = Try.prog.cellsOf t := by
  obtain ⟨_, _, _, _, hl, _⟩ := DataW.trod_struct ht h
  exact hl
set_option maxRecDepth 100000 in
theorem arg_struct {α : Type} {t : TypeId} {flds : Array Field} {R : Repr α} (ht : Try.prog.underlying t = some (.struct flds)) (h : Opens t R) {H : Type} {enc : TypeId × Value → H} {W : World} {r : Reach} {b0 base : Nat} {spare : Nat → Bool} {held : Bool} {v : Value} {d : DataW H} {p : List MemPlace}
    (ho : Value.okWide Try.prog W r b0 t v) (hv : DataW.Trod enc Try.prog W base spare held t v d p) : ∃ fs x, ∃ cs : Array Value, v = .agg cs ∧ R W fs cs.toList x := by
  obtain ⟨cs, rfl, _⟩ := okWide_struct ht ho
  obtain ⟨fs, x, hx⟩ := h.arg hv
  exact ⟨fs, x, cs, rfl, by simpa [Value.cells] using hx⟩

theorem Try.own : ownKnob Try.prog.godebug = none := by kernel_rfl
theorem Try.laidOut : laidOutB Try.prog = true := by kernel_rfl

end Go.Proofs.Ytabainoplkpppaa
