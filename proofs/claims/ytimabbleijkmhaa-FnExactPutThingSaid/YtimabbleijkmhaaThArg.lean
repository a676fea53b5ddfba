/-
  A slice of things, as an argument.
-/
import Derived.Test.YtimabbleijkmhaaTh
import Derived.Test.YtimabbleijkmhaaOpen
namespace Go.Proofs.Ytimabbleijkmhaa
open Go.RowKit Go.ChangeShapes Go.WideShapes

theorem cut3 (cs : List Value) (a0 a1 a2 : Value) (hl : cs.length = 3) (h0 : (cs.drop 0).take 1 = [a0]) (h1 : (cs.drop 1).take 1 = [a1]) (h2 : (cs.drop 2).take 1 = [a2]) : cs = [a0, a1, a2] := by
  match cs, hl with
  | [c0, c1, c2], _ => simp_all

theorem opens_th : Opens 72 rTh := by
  intro H enc W base spare held fuel cs x h
  have hlen : cs.length = 3 := (struct_length Try.underlying72 h).trans (by kernel_rfl)
  obtain ⟨f0, d0, h0⟩ := field_of Try.underlying72 h 0 _ rfl (opens_str Try.underlying9)
  obtain ⟨f1, d1, h1⟩ := field_of Try.underlying72 h 1 _ rfl (opens_bool Try.underlying4)
  obtain ⟨f2, d2, h2⟩ := field_of Try.underlying72 h 2 _ rfl opens_bytes
  obtain ⟨_, e0, hs⟩ := h0
  obtain ⟨_, e1⟩ := h1
  obtain ⟨v, e2, hb⟩ := h2
  exact ⟨f2, ⟨d0, d1, d2⟩, v, cut3 cs _ _ _ hlen e0 e1 e2, hs, hb⟩

theorem opens_ths : Opens 42 (rSlice 3 rTh) := opens_slice Try.underlying42 (by kernel_rfl) opens_th

end Go.Proofs.Ytimabbleijkmhaa
