/-
  WordsOf, of the program and of the reference: what each call does.
-/
import Derived.Test.YtimabbleijkmhaaDoorOwn
import Derived.Test.YtimabbleijkmhaaDoorStrs
import Derived.Test.YtimabbleijkmhaaDoorWShelf
import Derived.Lib.OwnBridge
namespace Go.Proofs.YtimabbleijkmhaaDoor
open Go.RowKit Go.Sort

theorem intNe {a b : Nat} (h : a ≠ b) : ((a : Int) == (b : Int)) = false := by rw [beq_eq_false_iff_ne]; omega
def toB (l : List UInt8) : ByteArray := ⟨l.toArray⟩
/-- The words of a text: what lies between blanks, if it is not empty. -/
def wordsGo : List UInt8 → List UInt8 → List (List UInt8)
  | cur, [] => if cur = [] then [] else [cur]
  | cur, b :: r => if b = 32 then (if cur = [] then [] else [cur]) ++ wordsGo [] r else wordsGo (cur ++ [b]) r
def wordsL (s : ByteArray) : List ByteArray := (wordsGo [] s.data.toList).map toB

/-- What is still to come at place j, the word begun at place f. -/
def restW (s : ByteArray) (f j : Nat) : List ByteArray := if j ≤ s.size then (wordsGo ((s.data.toList.take j).drop f) (s.data.toList.drop j)).map toB else []
theorem restW_zero (s : ByteArray) : restW s 0 0 = wordsL s := by simp [restW, wordsL]
theorem restW_end (s : ByteArray) (f : Nat) : restW s f (s.size + 1) = [] := by unfold restW; rw [if_neg (by omega)]
theorem dataLen (s : ByteArray) : s.data.toList.length = s.size := by simp
theorem toB_cur (s : ByteArray) (f j : Nat) : toB ((s.data.toList.take j).drop f) = s.extract f j := by
  apply ByteArray.ext
  apply Array.toList_inj.1
  rw [Lib.extract_data]
  simp [toB, List.drop_take]
theorem cur_nil (s : ByteArray) {f j : Nat} (hj : j ≤ s.size) : (s.data.toList.take j).drop f = [] ↔ j ≤ f := by
  rw [List.drop_eq_nil_iff, List.length_take, dataLen]; omega
theorem restW_other (s : ByteArray) {f j : Nat} (hf : f ≤ j) (hj : j < s.size) (hb : s[j] ≠ 32) : restW s f j = restW s f (j + 1) := by
  unfold restW
  rw [if_pos (by omega), if_pos (by omega)]
  have hl : j < s.data.toList.length := by rw [dataLen]; exact hj
  have he : s.data.toList[j] = s[j] := by simp; rfl
  rw [List.drop_eq_getElem_cons hl, he, wordsGo, if_neg hb, List.take_succ_eq_append_getElem hl, List.drop_append_of_le_length (by rw [List.length_take, dataLen]; omega), he]
theorem restW_cut (s : ByteArray) {f j : Nat} (hf : f < j) (hj : j ≤ s.size) (hb : ∀ h : j < s.size, s[j] = 32) : restW s f j = s.extract f j :: restW s (j + 1) (j + 1) := by
  have hne : ¬ (s.data.toList.take j).drop f = [] := fun e => by have := (cur_nil s hj).1 e; omega
  unfold restW
  rw [if_pos hj]
  by_cases hl : j < s.size
  · have hll : j < s.data.toList.length := by rw [dataLen]; exact hl
    have he : s.data.toList[j] = s[j] := by simp; rfl
    rw [if_pos (by omega), List.drop_eq_getElem_cons hll, he, hb hl, wordsGo, if_pos rfl, if_neg hne, List.map_append, List.map_cons, toB_cur s f j,
      (cur_nil s (show j + 1 ≤ s.size by omega)).2 (Nat.le_refl _)]
    rfl
  · have : j = s.size := by omega
    subst this
    have hd : s.data.toList.drop s.size = [] := List.drop_of_length_le (by rw [dataLen]; omega)
    rw [if_neg (by omega), hd, wordsGo, if_neg hne, List.map_cons, toB_cur]
    rfl
theorem restW_skip (s : ByteArray) {f j : Nat} (hf : f = j) (hj : j ≤ s.size) (hb : ∀ h : j < s.size, s[j] = 32) : restW s f j = restW s (j + 1) (j + 1) := by
  have hne : (s.data.toList.take j).drop f = [] := (cur_nil s hj).2 (by omega)
  unfold restW
  rw [if_pos hj]
  by_cases hl : j < s.size
  · have hll : j < s.data.toList.length := by rw [dataLen]; exact hl
    have he : s.data.toList[j] = s[j] := by simp; rfl
    rw [if_pos (by omega), List.drop_eq_getElem_cons hll, he, hb hl, wordsGo, if_pos rfl, if_pos hne,
      (cur_nil s (show j + 1 ≤ s.size by omega)).2 (Nat.le_refl _)]
    rfl
  · have : j = s.size := by omega
    subst this
    have hd : s.data.toList.drop s.size = [] := List.drop_of_length_le (by rw [dataLen]; omega)
    rw [if_neg (by omega), hd, wordsGo, if_pos hne]
    rfl

theorem rStr_one : ∀ (w : World) (f : List Addr) (cs : List Value) (d : ByteArray), rStr w f cs d → ∀ u, u ∈ cs → u.oneCell' = true := by
  rintro w f cs d ⟨-, rfl, -⟩ u hu
  simp at hu; subst hu; rfl
theorem infoStr : (Tryd.prog.info? 9).map (fun i => (i.zero, i.size, i.bytes)) = some (some (.string ⟨#[]⟩), 1, 16) := by kernel_rfl
theorem extract_le (s : ByteArray) (f j : Nat) (hj : j ≤ s.size) : (s.extract f j).size ≤ s.size := by rw [ByteArray.size_extract]; omega

set_option maxHeartbeats 1000000 in
set_option maxRecDepth 100000 in
theorem specWordsOf_c (s : ByteArray) (w : World) (hs : s.size ≤ 1048576) :
    Calls Tryd.prog 4 #[.string s] w fun e w' => ∃ v, e = .returned v ∧ OwnL 1 9 rStr w' w.heap.size v (wordsL s) [] ∧ Below w.heap.size w w' := by
  go_enter Tryd.func4, Tryd.ntmps4
  go_wp2_with fail
  have hbk : Blk (w.alloc (.cells #[] 9)) w.heap.size 9 #[] := Blk.new w 9 #[]
  have O1 := Lib.hid (OwnL.start (R := rStr) (base := w.heap.size) (E := 9) (k := 1) (w := w.alloc (.cells #[] 9)) (v := .slice (some ⟨w.heap.size, 0, none⟩) 0 0) ⟨rfl, .inr ⟨w.heap.size, 0, #[], rfl, Nat.le_refl _, hbk, Nat.le_refl _, by unfold maxLen; omega, rfl, rfl⟩⟩)
  clear hbk
  go_loopw [3, 4, 5] (fun o f i wr => ∃ (j q : Nat) (ws : List ByteArray), j ≤ s.size + 1 ∧ q ≤ j ∧ i = .int .i64 (j : Int) ∧ f = .int .i64 (q : Int) ∧ ws.length ≤ j ∧ wordsL s = ws ++ restW s q j ∧ OwnL 1 9 rStr wr w.heap.size o ws [] ∧ Below w.heap.size w wr) (fun _ _ i _ => s.size + 1 - (intOf i).toNat)
  case atStart => exact ⟨0, 0, [], by omega, by omega, rfl, rfl, by simp, by rw [restW_zero]; rfl, O1.out, (Below.refl _ _).alloc (Nat.le_refl _) _⟩
  case round =>
    obtain ⟨j, q, ws, hj, hq, rfl, rfl, hwl, hrest, ho, hb⟩ := hrel
    have HO := Lib.hid ho; have HB := Lib.hid hb
    clear ho hb O1
    by_cases hle : j ≤ s.size
    · by_cases hcut : ∀ h : j < s.size, s[j] = 32
      · by_cases hqj : q < j
        · have hr := restW_cut s hqj hle hcut
          rw [hr] at hrest
          have HR := Lib.hid hrest
          have HWL := Lib.hid hwl
          obtain ⟨X, hX⟩ : ∃ X, s.extract q j = X := ⟨_, rfl⟩
          have hxs : X.size ≤ 9223372036854775807 := by rw [← hX]; have := extract_le s q j hle; omega
          have HA := Lib.hid (OwnL.appendOne (P := Tryd.prog) 22 22 (.string ⟨#[]⟩) 16 Tryd.underlying22 infoStr rfl (by decide) rStr.local_ rStr.fixed rStr_one w.heap.size _ ws [] (OwnL.below rStr.local_ rStr.fixed HO.out ((Below.refl _ _).alloc (Nat.le_refl _) (.cells #[.string X] 9))) wr.heap.size [.string X] [] X rfl (Blk.new _ _ _) ⟨rfl, rfl, hxs⟩ (fun _ h => by cases h) (by have := HWL.out; omega) (by omega) (by have := HB.out.size; simp; omega))
          have HX := Lib.hid hX
          clear hxs hrest hr hwl
          by_cases he : j = s.size
          · have hje : ((j : Int) == (s.size : Int)) = true := by rw [he]; simp
            clear hcut
            have HE := Lib.hid he; clear he
            go_wp2_with (at_builtin; refine wpList_append_of rfl (.tmp 26) (.tmp 31) 22 rfl _ _ rfl rfl HA.out ?_; rintro v3 w3 ⟨hs3, o3, s3, g3, -⟩)
            have hse : hs3 = [] := List.eq_nil_of_length_eq_zero (by have := s3.length_le; simpa using this)
            subst hse
            have O3 := Lib.hid o3
            have B3 := Lib.hid (Below.grown (HB.out.alloc HB.out.size _) g3 (HB.out.alloc HB.out.size _).size (fun b hb => (HO.out.lt b hb).1))
            clear o3 s3 g3
            go_wp2_with fail
            go_roundw
            case rel => exact ⟨j + 1, j + 1, ws ++ [X], by omega, by omega, by go_num, by go_num, by have := HWL.out; simp; omega, by rw [HR.out, HX.out]; simp, O3.out, B3.out⟩
            case measure => simp [intOf]; omega
          · have hlt : j < s.size := by omega
            have hje : ((j : Int) == (s.size : Int)) = false := intNe (Nat.ne_of_lt hlt)
            have hb32 : ((s[j].toNat : Int) == 32) = true := by rw [hcut hlt]; rfl
            clear hcut he
            go_wp2_with (at_builtin; refine wpList_append_of rfl (.tmp 26) (.tmp 31) 22 rfl _ _ rfl rfl HA.out ?_; rintro v3 w3 ⟨hs3, o3, s3, g3, -⟩)
            have hse : hs3 = [] := List.eq_nil_of_length_eq_zero (by have := s3.length_le; simpa using this)
            subst hse
            have O3 := Lib.hid o3
            have B3 := Lib.hid (Below.grown (HB.out.alloc HB.out.size _) g3 (HB.out.alloc HB.out.size _).size (fun b hb => (HO.out.lt b hb).1))
            clear o3 s3 g3
            go_wp2_with fail
            go_roundw
            case rel => exact ⟨j + 1, j + 1, ws ++ [X], by omega, by omega, by go_num, by go_num, by have := HWL.out; simp; omega, by rw [HR.out, HX.out]; simp, O3.out, B3.out⟩
            case measure => simp [intOf]; omega
        · have hr := restW_skip s (show q = j by omega) hle hcut
          rw [hr] at hrest
          have HR := Lib.hid hrest
          have HWL := Lib.hid hwl
          clear hr hrest hwl
          by_cases he : j = s.size
          · have hje : ((j : Int) == (s.size : Int)) = true := by rw [he]; simp
            clear hcut
            have HE := Lib.hid he; clear he
            go_wp2_with fail
            go_roundw
            case rel => exact ⟨j + 1, j + 1, ws, by omega, by omega, by go_num, by go_num, by have := HWL.out; omega, HR.out, HO.out, HB.out⟩
            case measure => simp [intOf]; omega
          · have hlt : j < s.size := by omega
            have hje : ((j : Int) == (s.size : Int)) = false := intNe (Nat.ne_of_lt hlt)
            have hb32 : ((s[j].toNat : Int) == 32) = true := by rw [hcut hlt]; rfl
            clear hcut he
            go_wp2_with fail
            go_roundw
            case rel => exact ⟨j + 1, j + 1, ws, by omega, by omega, by go_num, by go_num, by have := HWL.out; omega, HR.out, HO.out, HB.out⟩
            case measure => simp [intOf]; omega
      · obtain ⟨hlt, hbn⟩ : ∃ h : j < s.size, s[j] ≠ 32 := by
          by_cases hlt : j < s.size
          · exact ⟨hlt, fun e => hcut fun _ => e⟩
          · exact absurd (fun h => absurd h hlt) hcut
        have hje : ((j : Int) == (s.size : Int)) = false := intNe (Nat.ne_of_lt hlt)
        have hb32 : ((s[j].toNat : Int) == 32) = false := by
          simp only [beq_eq_false_iff_ne, ne_eq]
          intro e
          exact hbn (UInt8.toNat_inj.1 (by show _ = 32; omega))
        rw [restW_other s hq hlt hbn] at hrest
        have HR := Lib.hid hrest
        have HWL := Lib.hid hwl
        clear hrest hwl hcut hbn
        go_wp2_with fail
        go_roundw
        case rel => exact ⟨j + 1, q, ws, by omega, by omega, by go_num, rfl, by have := HWL.out; omega, HR.out, HO.out, HB.out⟩
        case measure => simp [intOf]; omega
    · obtain rfl : j = s.size + 1 := by omega
      rw [restW_end, List.append_nil] at hrest
      have HR := Lib.hid hrest
      clear hrest hwl
      obtain ⟨A5, c5, rfl, -⟩ := HO.out.length
      have hnle : ¬ (((s.size + 1 : Nat) : Int) ≤ (s.size : Int)) := by omega
      go_wp2_with fail
      go_ret
      exact ⟨_, rfl, by rw [HR.out]; exact HO.out, HB.out⟩

end Go.Proofs.YtimabbleijkmhaaDoor
