/-
  WordsOf of the program: what the call does.
-/
import Derived.Test.YtimabbleijkmhaaDoorWords
namespace Go.Proofs.YtimabbleijkmhaaDoor
open Go.RowKit Go.Sort

theorem split_cons_eq (c : UInt8) (l : List UInt8) : Lib.split (c :: l) [c] = [] :: Lib.split l [c] := by
  unfold Lib.split
  rw [Lib.count_cons_eq, Nat.add_comm 1, Lib.splitK]
  have hix : Lib.index (c :: l) [c] = 0 := by rw [Lib.index]; simp [List.isPrefixOf]
  rw [hix]
  simp
theorem index_cons_ne (b c : UInt8) (l : List UInt8) (h : b ≠ c) : Lib.index (b :: l) [c] = if Lib.index l [c] == -1 then -1 else Lib.index l [c] + 1 := by
  have hp : ([c] : List UInt8).isPrefixOf (b :: l) = false := by simp [List.isPrefixOf, Ne.symm h]
  rw [Lib.index, hp]; simp
theorem split_cons_ne (b c : UInt8) (l : List UInt8) (h : b ≠ c) : ∃ x t, Lib.split l [c] = x :: t ∧ Lib.split (b :: l) [c] = (b :: x) :: t := by
  unfold Lib.split
  rw [Lib.count_cons_ne b c l h]
  cases hn : Lib.count l [c] with
  | zero => exact ⟨l, [], rfl, rfl⟩
  | succ m =>
    by_cases hm : Lib.index l [c] = -1
    · rw [Lib.count_miss hm] at hn; cases hn
    · have hge := Lib.index_ge l [c]
      obtain ⟨j, hj⟩ : ∃ j : Nat, Lib.index l [c] = j := ⟨(Lib.index l [c]).toNat, by omega⟩
      have hix : Lib.index (b :: l) [c] = ((j + 1 : Nat) : Int) := by rw [index_cons_ne b c l h, if_neg (fun e => hm (beq_iff_eq.1 e)), hj]; omega
      refine ⟨l.take j, Lib.splitK [c] 0 m (l.drop (j + 1)), ?_, ?_⟩
      · rw [Lib.splitK, if_neg (fun e => hm (beq_iff_eq.1 e)), hj]
        simp
      · rw [Lib.splitK, if_neg (by rw [hix, beq_iff_eq]; omega), hix]
        simp
theorem filterWords : ∀ (l cur : List UInt8) (x : List UInt8) (t : List (List UInt8)), Lib.split l [32] = x :: t → ((cur ++ x) :: t).filter (fun y => !y.isEmpty) = wordsGo cur l
  | [], cur, x, t, h => by
    have : Lib.split [] [32] = [[]] := by decide
    rw [this] at h
    injection h with h1 h2
    subst h1 h2
    cases cur with
    | nil => rfl
    | cons a r => simp [wordsGo]
  | b :: l, cur, x, t, h => by
    by_cases hb : b = 32
    · subst hb
      rw [split_cons_eq] at h
      injection h with h1 h2
      subst h1
      obtain ⟨y, u, hy⟩ : ∃ y u, Lib.split l [32] = y :: u := by
        unfold Lib.split
        cases Lib.count l [32] with
        | zero => exact ⟨_, _, rfl⟩
        | succ n => unfold Lib.splitK; split <;> exact ⟨_, _, rfl⟩
      have ih := filterWords l [] y u hy
      rw [List.nil_append, ← hy, h2] at ih
      rw [wordsGo, if_pos rfl, List.append_nil, ← ih, List.filter_cons]
      cases cur with
      | nil => simp
      | cons a r => simp
    · obtain ⟨y, u, h1, h2⟩ := split_cons_ne b 32 l hb
      rw [h2] at h
      injection h with h3 h4
      subst h3 h4
      rw [wordsGo, if_neg hb, ← filterWords l (cur ++ [b]) y u h1]
      simp

def pE (x : ByteArray) : Bool := x.data.toList.isEmpty
def blank : ByteArray := ⟨#[32]⟩
theorem wordsL_eq (s : ByteArray) : (Lib.splitB blank 0 (Lib.countB s blank) s).filter (fun x => !pE x) = wordsL s := by
  have h := Lib.splitB_data blank 0 (Lib.countB s blank) s
  have hs : Lib.splitK [32] 0 (Lib.countB s blank) s.data.toList = Lib.split s.data.toList [32] := rfl
  obtain ⟨y, u, hy⟩ : ∃ y u, Lib.split s.data.toList [32] = y :: u := by
    unfold Lib.split
    cases Lib.count s.data.toList [32] with
    | zero => exact ⟨_, _, rfl⟩
    | succ n => unfold Lib.splitK; split <;> exact ⟨_, _, rfl⟩
  have hf := filterWords s.data.toList [] y u hy
  rw [List.nil_append, ← hy, ← hs] at hf
  unfold wordsL
  rw [← hf]
  generalize Lib.splitB blank 0 (Lib.countB s blank) s = P at h
  rw [show Lib.splitK [32] 0 (Lib.countB s blank) s.data.toList = P.map (·.data.toList) from h.symm, List.filter_map, List.map_map]
  have : (toB ∘ fun x : ByteArray => x.data.toList) = id := by
    funext x
    show (⟨x.data.toList.toArray⟩ : ByteArray) = x
    rw [Array.toArray_toList]
  rw [this, List.map_id]
  rfl

end Go.Proofs.YtimabbleijkmhaaDoor
