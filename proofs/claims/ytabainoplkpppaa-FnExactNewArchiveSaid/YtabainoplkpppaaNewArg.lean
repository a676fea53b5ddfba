/-
  FnExactNewArchive's argument: a shape by value.
-/
import Derived.Test.YtabainoplkpppaaNewLaw
import Derived.Test.YtabainoplkpppaaOpen
namespace Go.Proofs.Ytabainoplkpppaa
open Go.RowKit Go.ChangeShapes Go.WideShapes

def rSh : Repr Sh := fun _ fs cs s => fs = [] ∧ cs = s.cells
theorem cut9 (cs : List Value) (a0 a1 a2 a3 a4 a5 a6 a7 a8 : Value) (hl : cs.length = 9) (h0 : (cs.drop 0).take 1 = [a0]) (h1 : (cs.drop 1).take 1 = [a1]) (h2 : (cs.drop 2).take 1 = [a2]) (h3 : (cs.drop 3).take 1 = [a3]) (h4 : (cs.drop 4).take 1 = [a4]) (h5 : (cs.drop 5).take 1 = [a5]) (h6 : (cs.drop 6).take 1 = [a6]) (h7 : (cs.drop 7).take 1 = [a7]) (h8 : (cs.drop 8).take 1 = [a8]) :
    cs = [a0, a1, a2, a3, a4, a5, a6, a7, a8] := by
  match cs, hl with
  | [c0, c1, c2, c3, c4, c5, c6, c7, c8], _ => simp_all

set_option maxRecDepth 100000 in
theorem opens_shape : Opens 23 rSh := by
  intro H enc W base spare held fuel cs x h
  have hl := struct_length Try.underlying23 h
  obtain ⟨_, d0, _, e0, _⟩ := field_of Try.underlying23 h 0 _ rfl (opens_int Try.underlying2)
  obtain ⟨_, d1, _, e1, _⟩ := field_of Try.underlying23 h 1 _ rfl (opens_int Try.underlying2)
  obtain ⟨_, d2, _, e2, _⟩ := field_of Try.underlying23 h 2 _ rfl (opens_int Try.underlying2)
  obtain ⟨_, d3, _, e3, _⟩ := field_of Try.underlying23 h 3 _ rfl (opens_int Try.underlying2)
  obtain ⟨_, d4, _, e4, _⟩ := field_of Try.underlying23 h 4 _ rfl (opens_int Try.underlying2)
  obtain ⟨_, d5, _, e5, _⟩ := field_of Try.underlying23 h 5 _ rfl (opens_int Try.underlying2)
  obtain ⟨_, d6, _, e6, _⟩ := field_of Try.underlying23 h 6 _ rfl (opens_int Try.underlying2)
  obtain ⟨_, d7, _, e7, _⟩ := field_of Try.underlying23 h 7 _ rfl (opens_int Try.underlying2)
  obtain ⟨_, d8, _, e8, _⟩ := field_of Try.underlying23 h 8 _ rfl (opens_int Try.underlying2)
  exact ⟨[], ⟨d0, d1, d2, d3, d4, d5, d6, d7, d8⟩, rfl, cut9 cs _ _ _ _ _ _ _ _ _ (hl.trans (by kernel_rfl)) e0 e1 e2 e3 e4 e5 e6 e7 e8⟩

set_option maxRecDepth 100000 in
theorem lawNew_w {v : Value} {fs : List Addr} {s : Sh} {W : World} (h : ∃ cs : Array Value, v = .agg cs ∧ rSh W fs cs.toList s) :
    Calls Try.prog 3 #[v] W fun e w' => e = .returned (.bool true) ∧ Below W.heap.size W w' := by
  obtain ⟨⟨cs⟩, rfl, _, e⟩ := h
  have e' : cs = s.cells := e
  subst e'
  exact lawNewArchive_c s W

end Go.Proofs.Ytabainoplkpppaa
