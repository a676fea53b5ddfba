/-
  The laws' eq* over the archive's types: what each call does (printed by wip/lawtypes.py).
-/
import Derived.Test.YtabainoplkpppaaTypes
namespace Go.Proofs.Ytabainoplkpppaa
open Go.RowKit Go.Sort

theorem Repr.below {α : Type} {R : Repr α} (hL : Local R) (hF : Fixed R) {w w' : World} {fs : List Addr} {cs : List Value} {d : α} (h : R w fs cs d) (hb : Below w.heap.size w w') : R w' fs cs d := hL _ _ _ _ _ h (Same.of_below (hF _ _ _ _ h) hb)
theorem rSlice.one {α : Type} {R : Repr α} {k : Nat} {w : World} {fs : List Addr} {v : Value} {ds : List α} (h : rSlice k R w fs [v] ds) : rSl k R w fs v ds := by
  obtain ⟨v', e, h⟩ := h
  injection e with e _
  rwa [e]

theorem rInts.open_ {w : World} {fs : List Addr} {v : Value} {bs : List Int} (h : rInts w fs v bs) :
    ∃ A c, v = .slice A bs.length c ∧ bs.length ≤ c ∧ c ≤ 9223372036854775807 ∧ ∀ k, (hk : k < bs.length) → ∃ ad, A = some ad ∧ ad.add k ∈ fs ∧ (ad.add k).block < w.heap.size ∧ w.cell? (ad.add k) = some (.int .i64 bs[k]) ∧ okI bs[k] := by
  obtain ⟨A, c, e, h1, h2, h3⟩ := h
  refine ⟨A, c, e, h1, by omega, fun k hk => ?_⟩
  rcases h3 with ⟨rfl, _⟩ | ⟨ad, css, fss, e1, e2, e3, e4, h3⟩
  · cases hk
  · obtain ⟨q1, q2, q3, q4, q5, q6, q8⟩ := h3 k hk
    have q7 := q4 0 (by omega)
    simp only [q6, List.getElem_cons_zero, Nat.mul_one, Nat.add_zero] at q7
    exact ⟨ad, e1, by rw [e4]; exact List.mem_append_left _ (mem_addrs.2 ⟨k, by omega, rfl⟩), World.block_lt_of_cell? _ _ q7, q7, q8⟩

set_option maxHeartbeats 400000 in
theorem eqInt64S_c (v1 v2 : Value) (xs ys : List Int) (f1 f2 : List Addr) (w : World) (h1 : rInts w f1 v1 xs) (h2 : rInts w f2 v2 ys) :
    Calls Try.prog 38 #[v1, v2] w fun e w' => e = .returned (.bool (decide (xs = ys))) ∧ Below w.heap.size w w' := by
  obtain ⟨A1, c1, rfl, hc1, hm1, hx⟩ := rInts.open_ h1
  obtain ⟨A2, c2, rfl, hc2, hm2, hy⟩ := rInts.open_ h2
  clear h1 h2
  by_cases hl : xs.length = ys.length
  · have hb := bneNat_f hl
    have HL := Lib.hid hl; clear hl
    go_enter Try.func38, Try.ntmps38
    go_wp2
    go_loopw [4, 5] (fun r i wr => ∃ k : Nat, k ≤ xs.length ∧ i = .int .i64 k ∧ r = .bool false ∧ xs.take k = ys.take k ∧ Below w.heap.size w wr) (fun _ i _ => xs.length - (intOf i).toNat)
    case atStart => exact ⟨0, by omega, rfl, rfl, by simp, Below.refl _ _⟩
    case round =>
      obtain ⟨k, hk, rfl, rfl, ht, hbl⟩ := hrel
      have HT := Lib.hid ht; clear ht
      by_cases hlt : k < xs.length
      · have hlt2 : k < ys.length := by rw [← HL.out]; exact hlt
        obtain ⟨a1, e1, _, b1, g1, _⟩ := hx k hlt
        obtain ⟨a2, e2, _, b2, g2, _⟩ := hy k hlt2
        subst e1 e2
        have g1' := (hbl.cell (p := a1.add k) b1).trans g1
        have g2' := (hbl.cell (p := a2.add k) b2).trans g2
        clear g1 g2 hx hy
        by_cases he : xs[k] = ys[k]
        · have hn : (xs[k] != ys[k]) = false := by simpa using he
          have HE := Lib.hid he; clear he
          go_wp2
          go_quiet (fail)
          go_wp2
          go_roundw
          case rel => exact ⟨k+1, by omega, by go_num, rfl, takeEq HT.out hlt hlt2 HE.out, belowDrewN hbl _⟩
          case measure => simp [intOf]; omega
        · have hn : (xs[k] != ys[k]) = true := by simpa using he
          go_wp2
          go_quiet (fail)
          go_wp2
          go_ret
          exact ⟨retBool (by simp; intro e; subst e; exact he rfl), belowDrewN hbl _⟩
      · have hk' : k = xs.length := by omega
        have H := HT.out
        rw [hk', List.take_length, HL.out, List.take_length] at H
        have H1 := Lib.hid H; clear H hk'
        go_wp2
        go_ret
        exact ⟨retBool (by simp [H1.out]), hbl⟩
  · have hb := bneNat_t hl
    go_enter Try.func38, Try.ntmps38
    go_wp2
    go_ret
    exact ⟨retBool (by simp; intro e; subst e; exact hl rfl), Below.refl _ _⟩

end Go.Proofs.Ytabainoplkpppaa
