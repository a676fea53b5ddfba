/-
  HexOf, of the program and of the reference: what each call does.
-/
import Derived.Test.YtimabbleijkmhaaLBytes
import Derived.Test.YtimabbleijkmhaaShelf
namespace Go.Proofs.Ytimabbleijkmhaa
open Go.RowKit

def hexDigit (k : Nat) : UInt8 := if k < 10 then UInt8.ofNat (48 + k) else UInt8.ofNat (87 + k)
/-- The text of bytes, in digits of base 16. -/
def hexL (l : List UInt8) : List UInt8 := l.flatMap fun b => [hexDigit (b.toNat / 16), hexDigit (b.toNat % 16)]
def hexS (l : List UInt8) : ByteArray := ⟨(hexL l).toArray⟩
theorem hexL_length (l : List UInt8) : (hexL l).length = 2 * l.length := by
  induction l with
  | nil => rfl
  | cons b l ih => simp only [hexL, List.flatMap_cons, List.length_append, List.length_cons, List.length_nil] at *; omega
theorem hexL_snoc (l : List UInt8) (b : UInt8) : hexL (l ++ [b]) = hexL l ++ [hexDigit (b.toNat / 16), hexDigit (b.toNat % 16)] := by simp [hexL]

def hexD : ByteArray := { data := #[48, 49, 50, 51, 52, 53, 54, 55, 56, 57, 97, 98, 99, 100, 101, 102] }
theorem hexD_extract : ∀ k, k < 16 → hexD.extract k (k + 1) = ⟨#[hexDigit k]⟩ := by decide +kernel
theorem hexD_get : ∀ k, (h : k < 16) → hexD[k]'(by show k < 16; exact h) = hexDigit k := by decide +kernel

theorem strAppend (a b : List UInt8) : (⟨a.toArray⟩ : ByteArray) ++ ⟨b.toArray⟩ = ⟨(a ++ b).toArray⟩ := by
  apply ByteArray.ext
  simp

set_option maxHeartbeats 400000 in
theorem l14Hex_c (v : Int) (h0 : 0 ≤ v) (hv : v < 16) (w : World) :
    Calls Try.prog 41 #[.int .u8 v] w fun e w' => e = .returned (.string ⟨[hexDigit v.toNat].toArray⟩) ∧ w = w' := by
  obtain ⟨n, rfl⟩ := Int.eq_ofNat_of_zero_le h0
  have H := Lib.hid (hexD_extract n (by omega))
  go_enter Try.func41, Try.ntmps41
  go_wp2
  go_ret
  exact ⟨retStr H.out, rfl⟩

set_option maxHeartbeats 400000 in
theorem specHexOf_c (v : Value) (xs : List UInt8) (fs : List Addr) (w : World) (h1 : rBytes w fs v xs) (hsm : xs.length ≤ 1048576) :
    Calls Try.prog 11 #[v] w fun e w' => e = .returned (.string (hexS xs)) ∧ Below w.heap.size w w' := by
  obtain ⟨A1, c1, rfl, hc1, hm1, hx⟩ := rBytes.open_ h1
  clear h1
  go_enter Try.func11, Try.ntmps11
  go_wp2
  go_loopw [3, 4] (fun o i wr => ∃ j : Nat, j ≤ xs.length ∧ i = .int .i64 j ∧ o = .string (hexS (xs.take j)) ∧ Below w.heap.size w wr) (fun _ i _ => xs.length - (intOf i).toNat)
  case atStart => exact ⟨0, by omega, rfl, rfl, Below.refl _ _⟩
  case round =>
    obtain ⟨j, hj, rfl, rfl, hbl⟩ := hrel
    by_cases hlt : j < xs.length
    · obtain ⟨a1, e1, _, b1, g1⟩ := hx j hlt
      subst e1
      have g1' := (hbl.cell (p := a1.add j) b1).trans g1
      clear g1 hx
      have hb := UInt8.toNat_lt xs[j]
      have HS := Lib.hid (show hexS (xs.take j) ++ ⟨[hexDigit (xs[j].toNat / 16)].toArray⟩ ++ ⟨[hexDigit (xs[j].toNat % 16)].toArray⟩ = hexS (xs.take (j + 1)) from by
        unfold hexS; rw [strAppend, strAppend, List.take_succ_eq_append_getElem hlt, hexL_snoc, List.append_assoc]; rfl)
      have hSz : (hexS (xs.take j)).size = 2 * j := by show (hexL _).toArray.size = _; simp [hexL_length]; omega
      have n1 : ¬ 9223372036854775807 < (hexS (xs.take j)).size + 1 := by omega
      have n2 : ¬ 9223372036854775807 < (hexS (xs.take j)).size + 1 + 1 := by omega
      clear hSz
      generalize hexS (xs.take j) = S at *
      go_wp2
      refine wp_region_quiet_lit (by kernel_rfl) (by kernel_rfl) ?_
      repeat (first | go_big_quiet_step ((go_at_call 41; refine quietL (l14Hex_c _ ?_ ?_ _) <;> omega)) | quiet_step ((go_at_call 41; refine quietL (l14Hex_c _ ?_ ?_ _) <;> omega)))
      refine wpQuiet_nil ?_
      intro _ hw'
      obtain ⟨nq, hw''⟩ := hw'
      subst hw''
      go_wp2
      go_roundw
      case rel => exact ⟨j+1, by omega, by go_num, by rw [← HS.out], belowDrewN hbl _⟩
      case measure => simp [intOf]; omega
    · have hk' : xs.take j = xs := List.take_of_length_le (by omega)
      have HK := Lib.hid hk'; clear hk' hx
      go_wp2
      go_ret
      exact ⟨retStr (by rw [HK.out]), hbl⟩

theorem writeByte_c (B b : Nat) (bs : List Value) (c : Int) (w : World) (h : Lib.IsBuilder 61 5 B b bs w) (hlen : bs.length + 1 ≤ 140737488355328) (hBw : B ≤ w.heap.size) :
    Calls Try.prog 42 #[.pointer (some ⟨b, 0, none⟩), .int .u8 c] w fun e w' => e = .returned .nilIface ∧ Lib.IsBuilder 61 5 B b (bs ++ [.int .u8 c]) w' ∧ Below B w w' :=
  (Try.writeByte B b bs c w h hlen hBw).mono fun _ _ hh => ⟨hh.1, .inr hh.2.1, hh.2.2⟩

theorem byteCells_snoc (l : List UInt8) (b : UInt8) : Lib.byteCells (l ++ [b]) = Lib.byteCells l ++ [.int .u8 (b.toNat : Int)] := by simp [Lib.byteCells]
theorem byteCells_len (l : List UInt8) : (Lib.byteCells l).length = l.length := by simp [Lib.byteCells]

set_option maxHeartbeats 400000 in
theorem implHexOf_c (v : Value) (xs : List UInt8) (fs : List Addr) (w : World) (h1 : rBytes w fs v xs) (hsm : xs.length ≤ 1048576) :
    Calls Try.prog 13 #[v] w fun e w' => e = .returned (.string (hexS xs)) ∧ Below w.heap.size w w' := by
  obtain ⟨A1, c1, rfl, hc1, hm1, hx⟩ := rBytes.open_ h1
  clear h1
  go_enter Try.func13, Try.ntmps13
  go_wp2
  go_loopw [9] (fun i wr => ∃ j : Nat, j ≤ xs.length ∧ i = .int .i64 j ∧ Lib.IsBuilder 61 5 w.heap.size w.heap.size (Lib.byteCells (hexL (xs.take j))) wr ∧ Below w.heap.size w wr) (fun i _ => xs.length - (intOf i).toNat)
  case atStart => exact ⟨0, by omega, rfl, Lib.fresh_isBuilder _ _ _, (Below.refl _ _).alloc (Nat.le_refl _) _⟩
  case round =>
    obtain ⟨j, hj, rfl, hbu, hbl⟩ := hrel
    by_cases hlt : j < xs.length
    · obtain ⟨a1, e1, _, b1, g1⟩ := hx j hlt
      subst e1
      have g1' := (hbl.cell (p := a1.add j) b1).trans g1
      clear g1 hx
      have hb := UInt8.toNat_lt xs[j]
      have q1 : xs[j].toNat / 16 < 16 := by omega
      have q2 : xs[j].toNat % 16 < 16 := by omega
      have HD1 := Lib.hid (hexD_get (xs[j].toNat / 16) q1)
      have HD2 := Lib.hid (hexD_get (xs[j].toNat % 16) q2)
      have hl : (hexL (xs.take j)).length = 2 * j := by rw [hexL_length, List.length_take]; omega
      have HS := Lib.hid (show hexL (xs.take (j + 1)) = hexL (xs.take j) ++ [hexDigit (xs[j].toNat / 16), hexDigit (xs[j].toNat % 16)] from by rw [List.take_succ_eq_append_getElem hlt, hexL_snoc])
      generalize hexL (xs.take j) = S at *
      have HL := Lib.hid hl; clear hl
      have hB := hbl.size
      have hlen1 : (Lib.byteCells S).length + 1 ≤ 140737488355328 := by rw [byteCells_len, HL.out]; omega
      go_wp2_with fail
      refine (writeByte_c w.heap.size w.heap.size (Lib.byteCells S) _ wr hbu hlen1 hB).mono ?_
      rintro e w1 ⟨rfl, hu, hbl1⟩
      have hbu1 : Lib.IsBuilder 61 5 w.heap.size w.heap.size (Lib.byteCells (S ++ [hexDigit (xs[j].toNat / 16)])) w1 := by
        rw [byteCells_snoc, ← HD1.out]; exact hu
      clear hu hbu hlen1
      have hB1 := Nat.le_trans hB hbl1.size
      have hbl2 := hbl.trans hbl1
      have hlen2 : (Lib.byteCells (S ++ [hexDigit (xs[j].toNat / 16)])).length + 1 ≤ 140737488355328 := by rw [byteCells_len, List.length_append, HL.out]; simp; omega
      clear hbl hbl1 hB g1'
      go_wp2_with fail
      refine (writeByte_c w.heap.size w.heap.size _ _ w1 hbu1 hlen2 hB1).mono ?_
      rintro e w2 ⟨rfl, hu, hbl3⟩
      have hbu2 : Lib.IsBuilder 61 5 w.heap.size w.heap.size (Lib.byteCells (S ++ [hexDigit (xs[j].toNat / 16), hexDigit (xs[j].toNat % 16)])) w2 := by
        rw [show S ++ [hexDigit (xs[j].toNat / 16), hexDigit (xs[j].toNat % 16)] = (S ++ [hexDigit (xs[j].toNat / 16)]) ++ [hexDigit (xs[j].toNat % 16)] from by simp, byteCells_snoc, ← HD2.out]; exact hu
      have HU := Lib.hid hbu2
      have HB := Lib.hid (hbl2.trans hbl3)
      clear hu hbu2 hbu1 hbl2 hbl3 hlen2 hB1
      go_wp2
      go_roundw
      case rel => exact ⟨j+1, by omega, by go_num, by rw [HS.out]; exact HU.out, HB.out⟩
      case measure => simp [intOf]; omega
    · have hk' : xs.take j = xs := List.take_of_length_le (by omega)
      rw [hk'] at hbu
      clear hk' hx
      have hB := hbl.size
      go_wp2_with fail
      refine (Try.builderString w.heap.size w.heap.size (hexL xs) wr hbu hB).mono ?_
      rintro e w1 ⟨rfl, hbl1⟩
      go_wp2
      go_ret
      exact ⟨rfl, hbl.trans hbl1⟩

end Go.Proofs.Ytimabbleijkmhaa
