/-
  Plain facts on digits of base 16: bytes read back from their text.
-/
import Derived.Test.YtimabbleijkmhaaHex
namespace Go.Proofs.Ytimabbleijkmhaa
open Go.RowKit

/-- The value of a digit; -1: it is none. -/
def digN (c : UInt8) : Int := if 48 ≤ c.toNat ∧ c.toNat ≤ 57 then (c.toNat : Int) - 48 else if 97 ≤ c.toNat ∧ c.toNat ≤ 102 then (c.toNat : Int) - 87 else -1
theorem digN_lo (c : UInt8) : -1 ≤ digN c := by unfold digN; split; omega; split <;> omega
theorem digN_hi (c : UInt8) : digN c ≤ 15 := by unfold digN; split; omega; split <;> omega

theorem all_bytes {p : UInt8 → Prop} (h : ∀ n, n < 256 → p (UInt8.ofNat n)) (c : UInt8) : p c := by
  have := h c.toNat (UInt8.toNat_lt c)
  rwa [UInt8.ofNat_toNat] at this

theorem idx_digN (c : UInt8) : Lib.indexByte hexD.data.toList c = digN c := all_bytes (p := fun c => Lib.indexByte hexD.data.toList c = digN c) (by decide +kernel) c
/-- A digit's value, 0 if it is none. -/
def digM (c : UInt8) : Nat := (digN c).toNat
theorem digM_lt (c : UInt8) : digM c < 16 := by have := digN_hi c; unfold digM; omega
theorem digM_digit (c : UInt8) : hexDigit (digM c) = c ↔ 0 ≤ digN c := all_bytes (p := fun c => hexDigit (digM c) = c ↔ 0 ≤ digN c) (by decide +kernel) c

def pairB (a b : UInt8) : UInt8 := UInt8.ofNat (16 * digM a + digM b)
theorem pairB_toNat (a b : UInt8) : (pairB a b).toNat = 16 * digM a + digM b := by
  have := digM_lt a; have := digM_lt b
  unfold pairB
  rw [UInt8.toNat_ofNat']; omega

theorem pairB_max (a b : UInt8) : 16 * max (digN a) 0 + max (digN b) 0 = ((pairB a b).toNat : Int) := by
  rw [pairB_toNat]
  unfold digM
  omega

/-- The bytes of a text, two signs each, whatever they are. -/
def rawDec : List UInt8 → List UInt8
  | a :: b :: r => pairB a b :: rawDec r
  | _ => []
/-- Is it the text of bytes? -/
def okDec : List UInt8 → Bool
  | a :: b :: r => decide (0 ≤ digN a) && (decide (0 ≤ digN b) && okDec r)
  | [] => true
  | [_] => false

theorem hexL_cons (b : UInt8) (l : List UInt8) : hexL (b :: l) = hexDigit (b.toNat / 16) :: hexDigit (b.toNat % 16) :: hexL l := rfl
theorem hexL_raw : ∀ t : List UInt8, hexL (rawDec t) = t ↔ okDec t = true
  | [] => by simp [rawDec, hexL, okDec]
  | [a] => by simp [rawDec, hexL, okDec]
  | a :: b :: r => by
    have ih := hexL_raw r
    have h1 := digM_lt a
    have h2 := digM_lt b
    have e1 : (pairB a b).toNat / 16 = digM a := by rw [pairB_toNat]; omega
    have e2 : (pairB a b).toNat % 16 = digM b := by rw [pairB_toNat]; omega
    simp only [rawDec, hexL_cons, okDec, e1, e2, List.cons.injEq, digM_digit, ih, Bool.and_eq_true, decide_eq_true_eq]
theorem rawDec_length : ∀ t : List UInt8, (rawDec t).length = t.length / 2
  | [] => rfl
  | [_] => by simp [rawDec]
  | a :: b :: r => by simp only [rawDec, List.length_cons, rawDec_length r]; omega
theorem okDec_even : ∀ t : List UInt8, okDec t = true → t.length % 2 = 0
  | [], _ => rfl
  | [_], h => by simp [okDec] at h
  | a :: b :: r, h => by
    simp only [okDec, Bool.and_eq_true] at h
    have := okDec_even r h.2.2
    simp only [List.length_cons]; omega
theorem rawDec_snoc : ∀ (t : List UInt8) (a b : UInt8), t.length % 2 = 0 → rawDec (t ++ [a, b]) = rawDec t ++ [pairB a b]
  | [], _, _, _ => rfl
  | [_], _, _, h => by simp at h
  | x :: y :: r, a, b, h => by
    simp only [List.cons_append, rawDec, rawDec_snoc r a b (by simp only [List.length_cons] at h; omega)]
theorem okDec_snoc : ∀ (t : List UInt8) (a b : UInt8), t.length % 2 = 0 → okDec (t ++ [a, b]) = (okDec t && (decide (0 ≤ digN a) && decide (0 ≤ digN b)))
  | [], a, b, _ => by simp [okDec]
  | [_], _, _, h => by simp at h
  | x :: y :: r, a, b, h => by
    simp only [List.cons_append, okDec, okDec_snoc r a b (by simp only [List.length_cons] at h; omega), Bool.and_assoc]
theorem okDec_take : ∀ (n : Nat) (t : List UInt8), okDec t = true → okDec (t.take (2 * n)) = true
  | 0, t, _ => by simp [okDec]
  | n + 1, [], _ => by simp [okDec]
  | n + 1, [_], h => by simp [okDec] at h
  | n + 1, a :: b :: r, h => by
    simp only [okDec, Bool.and_eq_true] at h
    rw [show 2 * (n + 1) = 2 * n + 1 + 1 from by omega, List.take_succ_cons, List.take_succ_cons]
    simp only [okDec, Bool.and_eq_true]
    exact ⟨h.1, h.2.1, okDec_take n r h.2.2⟩
theorem take_two {t : List UInt8} {j : Nat} (h : 2 * j + 1 < t.length) : t.take (2 * (j + 1)) = t.take (2 * j) ++ [t[2 * j], t[2 * j + 1]] := by
  have e : t.take (2 * j + 1 + 1) = t.take (2 * j) ++ [t[2 * j], t[2 * j + 1]] := by
    rw [List.take_succ_eq_append_getElem h, List.take_succ_eq_append_getElem (show 2 * j < t.length by omega), List.append_assoc]
    rfl
  exact e

theorem take_two' {t : List UInt8} {i : Nat} (h : i + 1 < t.length) : t.take (i + 2) = t.take i ++ [t[i], t[i + 1]] := by
  have e : t.take (i + 1 + 1) = t.take i ++ [t[i], t[i + 1]] := by
    rw [List.take_succ_eq_append_getElem h, List.take_succ_eq_append_getElem (show i < t.length by omega), List.append_assoc]
    rfl
  exact e
theorem rawDec_all : ∀ (t : List UInt8) (i : Nat), i % 2 = 0 → i ≤ t.length → t.length ≤ i + 1 → rawDec (t.take i) = rawDec t
  | [], i, _, _, _ => by simp
  | [a], i, h, h1, h2 => by
    have : i = 0 := by simp only [List.length_cons, List.length_nil] at h1; omega
    subst this; rfl
  | a :: b :: r, i, h, h1, h2 => by
    obtain ⟨k, rfl⟩ : ∃ k, i = k + 1 + 1 := ⟨i - 2, by simp only [List.length_cons] at h2; omega⟩
    simp only [List.length_cons] at h1 h2
    rw [List.take_succ_cons, List.take_succ_cons]
    simp only [rawDec, rawDec_all r k (by omega) (by omega) (by omega)]

/-- What BytesOfHex answers: a code and bytes. -/
def bohCode (t : List UInt8) : Int := if 80 < t.length then 2 else if okDec t = true then 0 else 5
def bohBytes (t : List UInt8) : List UInt8 := if 80 < t.length then [] else if okDec t = true then rawDec t else []
theorem boh_long {t : List UInt8} (h : 80 < t.length) : bohCode t = 2 ∧ bohBytes t = [] := by simp [bohCode, bohBytes, h]
theorem boh_bad {t : List UInt8} (h : t.length ≤ 80) (h2 : okDec t = false) : bohCode t = 5 ∧ bohBytes t = [] := by simp [bohCode, bohBytes, h2]; omega
theorem boh_ok {t : List UInt8} (h : t.length ≤ 80) (h2 : okDec t = true) : bohCode t = 0 ∧ bohBytes t = rawDec t := by simp [bohCode, bohBytes, h2]; omega

end Go.Proofs.Ytimabbleijkmhaa
