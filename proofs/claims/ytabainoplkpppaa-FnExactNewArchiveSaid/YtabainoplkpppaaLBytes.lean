/-
  The laws' own helpers over slices of bytes: what each call does.
-/
import Derived.Test.YtabainoplkpppaaBase
import Derived.Laws.MakeOwn
namespace Go.Proofs.Ytabainoplkpppaa
open Go.RowKit

set_option maxHeartbeats 400000 in
theorem eqByteS_c (v1 v2 : Value) (xs ys : List UInt8) (f1 f2 : List Addr) (w : World) (h1 : rBytes w f1 v1 xs) (h2 : rBytes w f2 v2 ys) :
    Calls Try.prog 68 #[v1, v2] w fun e w' => e = .returned (.bool (decide (xs = ys))) ∧ Below w.heap.size w w' := by
  obtain ⟨A1, c1, rfl, hc1, hm1, hx⟩ := rBytes.open_ h1
  obtain ⟨A2, c2, rfl, hc2, hm2, hy⟩ := rBytes.open_ h2
  clear h1 h2
  by_cases hl : xs.length = ys.length
  · have hb := bneNat_f hl
    have HL := Lib.hid hl; clear hl
    go_enter Try.func68, Try.ntmps68
    go_wp2
    go_loopw [4, 5] (fun r i wr => ∃ k : Nat, k ≤ xs.length ∧ i = .int .i64 k ∧ r = .bool false ∧ xs.take k = ys.take k ∧ Below w.heap.size w wr) (fun _ i _ => xs.length - (intOf i).toNat)
    case atStart => exact ⟨0, by omega, rfl, rfl, by simp, Below.refl _ _⟩
    case round =>
      obtain ⟨k, hk, rfl, rfl, ht, hbl⟩ := hrel
      have HT := Lib.hid ht; clear ht
      by_cases hlt : k < xs.length
      · have hlt2 : k < ys.length := by rw [← HL.out]; exact hlt
        obtain ⟨a1, e1, _, b1, g1⟩ := hx k hlt
        obtain ⟨a2, e2, _, b2, g2⟩ := hy k hlt2
        subst e1 e2
        have g1' := (hbl.cell (p := a1.add k) b1).trans g1
        have g2' := (hbl.cell (p := a2.add k) b2).trans g2
        clear g1 g2 hx hy
        by_cases he : xs[k] = ys[k]
        · have hn := bneU8f he
          have HE := Lib.hid he; clear he
          go_wp2
          go_quiet (fail)
          go_wp2
          go_roundw
          case rel => exact ⟨k+1, by omega, by go_num, rfl, takeEq HT.out hlt hlt2 HE.out, belowDrewN hbl _⟩
          case measure => simp [intOf]; omega
        · have hn := bneU8t he
          go_wp2
          go_quiet (fail)
          go_wp2
          go_ret
          exact ⟨retBool (by simp; intro e; subst e; exact he rfl), belowDrewN hbl _⟩
      · have hk' : k = xs.length := by omega
        have H := HT.out
        rw [hk', List.take_length, HL.out, List.take_length] at H
        have H1 := Lib.hid H; clear H hk'
        go_wp2
        go_ret
        exact ⟨retBool (by simp [H1.out]), hbl⟩
  · have hb := bneNat_t hl
    go_enter Try.func68, Try.ntmps68
    go_wp2
    go_ret
    exact ⟨retBool (by simp; intro e; subst e; exact hl rfl), Below.refl _ _⟩

/-- What heldByteS tells. -/
def heldB (k : Nat) (xs : List UInt8) : Int := if xs = mkBytes k xs.length then ((k + xs.length : Nat) : Int) else -1
theorem heldB_yes {k : Nat} {xs : List UInt8} (h : xs = mkBytes k xs.length) : heldB k xs = (k : Int) + (xs.length : Int) := by unfold heldB; rw [if_pos h]; omega
theorem heldB_no {k j : Nat} {xs : List UInt8} (hj : j < xs.length) (h : xs[j] ≠ mkByte (k + j)) : heldB k xs = -1 := by
  unfold heldB; rw [if_neg]
  intro e
  apply h
  have := List.getElem_of_eq e hj
  rw [this, get_mkBytes]
theorem byteWrap (k j : Nat) : IntKind.u8.wrap ((k : Int) + (j : Int)) = ((mkByte (k + j)).toNat : Int) := by
  rw [mkByte_toNat]
  simp [IntKind.wrap, IntKind.bits, IntKind.signed]

set_option maxHeartbeats 400000 in
theorem heldByteS_c (v : Value) (xs : List UInt8) (fs : List Addr) (w : World) (k : Nat) (h1 : rBytes w fs v xs) (hk0 : k ≤ 1000000000000) (hsm : xs.length ≤ 1000000000000) :
    Calls Try.prog 65 #[v, .int .i64 k] w fun e w' => e = .returned (.int .i64 (heldB k xs)) ∧ Below w.heap.size w w' := by
  obtain ⟨A1, c1, rfl, hc1, hm1, hx⟩ := rBytes.open_ h1
  clear h1
  go_enter Try.func65, Try.ntmps65
  go_wp2
  go_loopw [1, 4, 5] (fun kk r i wr => ∃ j : Nat, j ≤ xs.length ∧ i = .int .i64 j ∧ kk = .int .i64 ((k : Int) + (j : Int)) ∧ r = .int .i64 0 ∧ xs.take j = (mkBytes k xs.length).take j ∧ Below w.heap.size w wr) (fun _ _ i _ => xs.length - (intOf i).toNat)
  case atStart => exact ⟨0, by omega, rfl, by simp, rfl, by simp, Below.refl _ _⟩
  case round =>
    obtain ⟨j, hj, rfl, rfl, rfl, ht, hbl⟩ := hrel
    have HT := Lib.hid ht; clear ht
    by_cases hlt : j < xs.length
    · obtain ⟨a1, e1, _, b1, g1⟩ := hx j hlt
      subst e1
      have g1' := (hbl.cell (p := a1.add j) b1).trans g1
      clear g1 hx
      have hw := byteWrap k j
      by_cases he : xs[j] = mkByte (k + j)
      · have hn := bneU8f he
        have HE := Lib.hid he; clear he
        go_wp2
        go_roundw
        case rel => exact ⟨j+1, by omega, by go_num, by congr 1, rfl, takeEq HT.out hlt (by rw [length_mkBytes]; exact hlt) (by rw [HE.out, get_mkBytes]), hbl⟩
        case measure => simp [intOf]; omega
      · have hn := bneU8t he
        go_wp2
        go_ret
        exact ⟨retInt (heldB_no hlt he).symm, hbl⟩
    · go_wp2
      go_ret
      have hk' : j = xs.length := by omega
      refine ⟨retInt ((congrArg (fun q : Nat => (k : Int) + (q : Int)) hk').trans (heldB_yes ?_).symm), hbl⟩
      have H := HT.out
      rw [hk', List.take_length, List.take_of_length_le (by rw [length_mkBytes]; exact Nat.le_refl _)] at H
      exact H

/-- The bytes when i of them are marked. -/
theorem markStep {xs : List UInt8} {k j : Nat} (hj : j < xs.length) : ((mkBytes k j) ++ xs.drop j).set j (mkByte (k + j)) = mkBytes k (j + 1) ++ xs.drop (j + 1) := by
  apply List.ext_getElem
  · simp [length_mkBytes]; omega
  · intro i h1 h2
    simp only [List.getElem_set, List.getElem_append, length_mkBytes, get_mkBytes, List.getElem_drop]
    simp only [List.length_set, List.length_append, length_mkBytes, List.length_drop] at h1
    by_cases e : j = i
    · subst e; simp
    · rw [if_neg e]
      by_cases h : i < j
      · rw [dif_pos h, dif_pos (by omega)]
      · rw [dif_neg h, dif_neg (by omega)]
        congr 1; omega

set_option maxHeartbeats 400000 in
theorem markByteS_c (v : Value) (xs : List UInt8) (fs : List Addr) (w : World) (k : Nat) (lo : Nat) (h1 : rBytes w fs v xs) (hm : Mine lo w fs) (hk0 : k ≤ 1000000000000) (hsm : xs.length ≤ 1000000000000) :
    Calls Try.prog 62 #[v, .int .i64 k] w fun e w' => e = .returned (.int .i64 ((k : Int) + (xs.length : Int))) ∧ Wrote fs w w' ∧ rBytes w' fs v (mkBytes k xs.length) := by
  have h1' := h1
  obtain ⟨A1, c1, rfl, hc1, hm1, hx⟩ := rBytes.open_ h1
  have hrd : ∀ k, (hk : k < xs.length) → ∃ ad, A1 = some ad ∧ ad.add k ∈ fs ∧ (ad.add k).block < w.heap.size ∧ w.frozen? (ad.add k) = false := fun k hk => by
    obtain ⟨ad, e1, e2, e3, _⟩ := hx k hk
    exact ⟨ad, e1, e2, e3, hm.free _ e2⟩
  go_enter Try.func62, Try.ntmps62
  go_wp2
  go_loopw [1, 5] (fun kk i wr => ∃ j : Nat, j ≤ xs.length ∧ i = .int .i64 j ∧ kk = .int .i64 ((k : Int) + (j : Int)) ∧ Wrote fs w wr ∧ rBytes wr fs (.slice A1 xs.length c1) (mkBytes k j ++ xs.drop j)) (fun _ i _ => xs.length - (intOf i).toNat)
  case atStart => exact ⟨0, by omega, rfl, by simp, Wrote.refl _ _, by simpa [mkBytes] using h1'⟩
  case round =>
    obtain ⟨j, hj, rfl, rfl, hwr, hrb⟩ := hrel
    by_cases hlt : j < xs.length
    · obtain ⟨a1, e1, hmem, b1, hfz⟩ := hrd j hlt
      subst e1
      have hfz' := (hwr.frozen _ b1).trans hfz
      clear hfz hrd hx
      have hcell : wr.cell? (a1.add j) = some (.int .u8 (((mkBytes k j ++ xs.drop j)[j]'(by simp [length_mkBytes]; omega)).toNat : Int)) := by
        obtain ⟨A, c, e, _, _, h⟩ := rBytes.open_ hrb
        obtain ⟨ad, e2, _, _, h2⟩ := h j (by simp [length_mkBytes]; omega)
        injection e with e3 e4 e5
        rw [e2] at e3
        injection e3 with e6
        rw [e6]; exact h2
      have hw := byteWrap k j
      have HR := Lib.hid hrb; clear hrb
      have HW := Lib.hid hwr; clear hwr
      go_wp2
      go_roundw
      case rel =>
        refine ⟨j+1, by omega, by go_num, by congr 1, HW.out.setCell hmem _, ?_⟩
        have H := rBytes.store HR.out hm.nodup (j := j) (by simp [length_mkBytes]; omega) (mkByte (k + j))
        rw [markStep hlt] at H
        exact H
      case measure => simp [intOf]; omega
    · have hk' : j = xs.length := by omega
      have HR := Lib.hid hrb; clear hrb
      have HW := Lib.hid hwr; clear hwr
      clear hrd hx
      go_wp2
      go_ret
      refine ⟨retInt (congrArg (fun q : Nat => (k : Int) + (q : Int)) hk'), HW.out, ?_⟩
      have H := HR.out
      rw [hk', List.drop_length, List.append_nil] at H
      exact H

theorem Try.info5 : (Try.prog.info? 5).map (fun i => (i.zero, i.size, i.bytes)) = some (some (.int .u8 0), 1, 1) := by kernel_rfl

end Go.Proofs.Ytabainoplkpppaa
