/-
  The text of a mark's number.
-/
import Derived.Test.YtabainoplkpppaaBase
namespace Go.Proofs.Ytabainoplkpppaa
open Go.RowKit Go.Sort

def digU (k : Nat) : UInt8 := UInt8.ofNat (48 + k % 10)
theorem digU_toNat (k : Nat) : (digU k).toNat = 48 + k % 10 := by unfold digU; rw [UInt8.toNat_ofNat']; omega
theorem consB (d : UInt8) (l : List UInt8) : (⟨#[d]⟩ : ByteArray) ++ ⟨l.toArray⟩ = ⟨(d :: l).toArray⟩ := by
  apply ByteArray.ext
  rw [ByteArray.data_append]
  simp

def markL (k : Nat) (out : List UInt8) : List UInt8 := if h : k = 0 then out else markL (k / 10) (digU k :: out)
termination_by k
decreasing_by omega
theorem markL_zero (out : List UInt8) : markL 0 out = out := by rw [markL]; rfl
theorem markL_step {k : Nat} (h : 0 < k) (out : List UInt8) : markL k out = markL (k / 10) (digU k :: out) := by
  rw [markL, dif_neg (by omega)]
def mkT (k : Nat) : ByteArray := ⟨(109 :: markL k []).toArray⟩

set_option maxHeartbeats 1000000 in
set_option maxRecDepth 100000 in
theorem markText_c (k : Nat) (w : World) (hk : 0 < k) (hk2 : k ≤ 10000000000000) :
    Calls Try.prog 61 #[.int .i64 (k : Int)] w fun e w' => e = .returned (.string (mkT k)) ∧ Below w.heap.size w w' := by
  have hk3 : ¬ (k : Int) ≤ 0 := by omega
  obtain ⟨T, hT⟩ : ∃ T, mkT k = T := ⟨_, rfl⟩
  rw [hT]
  have HT := Lib.hid hT; clear hT
  go_enter Try.func61, Try.ntmps61
  go_wp2
  go_loopw [0, 3] (fun n o wr => ∃ (m : Nat) (l : List UInt8), n = .int .i64 m ∧ o = .string ⟨l.toArray⟩ ∧ markL m l = markL k [] ∧ l.length + m ≤ k ∧ Below w.heap.size w wr) (fun n _ _ => (intOf n).toNat)
  case atStart => exact ⟨k, [], rfl, rfl, rfl, by simp, Below.refl _ _⟩
  case round =>
    obtain ⟨m, l, rfl, rfl, hml, hlm, hb⟩ := hrel
    have HML := Lib.hid hml; have HB := Lib.hid hb; clear hml hb
    by_cases hm : 0 < m
    · have hm1 : (0 : Int) < (m : Int) := by omega
      have hls : (⟨l.toArray⟩ : ByteArray).size = l.length := by simp [ByteArray.size]
      have hsz : ¬ 9223372036854775807 < 1 + (⟨l.toArray⟩ : ByteArray).size := by rw [hls]; omega
      have hd : (digU m).toNat = 48 + m % 10 := digU_toNat m
      have hcv : (convert 66 9 (.slice (some ⟨wr.heap.size, 0, none⟩) 1 1)).run Try.prog (wr.alloc (.cells #[.int .u8 (48 + (m : Int) % 10)] 5)) = .ok (.string ⟨#[digU m]⟩) (wr.alloc (.cells #[.int .u8 (48 + (m : Int) % 10)] 5)) :=
        run_convert_bytes_back _ 66 9 5 ⟨wr.heap.size, 0, none⟩ 1 [digU m] Try.underlying66 Try.underlying5 Try.underlying9 (fun j hj => by
          have : j = 0 := by simpa using hj
          subst this
          rw [addNew, (Blk.new wr 5 #[.int .u8 (48 + (m : Int) % 10)]).cell]
          simp only [List.getElem_cons_zero, hd]
          rw [show ((48 + m % 10 : Nat) : Int) = 48 + (m : Int) % 10 from by omega]
          rfl)
      have hst := markL_step hm l
      have HST := Lib.hid hst; clear hst hd
      go_wp2
      go_roundw
      case rel =>
        refine ⟨m / 10, digU m :: l, by simp, by rw [consB], by rw [← HST.out]; exact HML.out, by simp; omega, HB.out.alloc HB.out.size _⟩
      case measure => simp [intOf]; omega
    · obtain rfl : m = 0 := by omega
      have hl := HML.out
      rw [markL_zero] at hl
      have hls : (⟨l.toArray⟩ : ByteArray).size = l.length := by simp [ByteArray.size]
      have hsz : ¬ 9223372036854775807 < 1 + (⟨l.toArray⟩ : ByteArray).size := by rw [hls]; omega
      have hT : (⟨#[109]⟩ : ByteArray) ++ ⟨l.toArray⟩ = T := by rw [consB, ← HT.out, hl]; rfl
      have HTT := Lib.hid hT
      clear hl hT
      go_wp2
      go_ret
      rw [HTT.out]
      exact ⟨rfl, HB.out⟩

theorem mkT_size (k : Nat) : (mkT k).size = (markL k []).length + 1 := by simp [mkT, ByteArray.size]
theorem markL_length (n : Nat) : ∀ (k : Nat) (out : List UInt8), k ≤ n → (markL k out).length ≤ out.length + k := by
  induction n with
  | zero => intro k out h; obtain rfl : k = 0 := by omega
            rw [markL_zero]; omega
  | succ n ih =>
    intro k out h
    by_cases hk : 0 < k
    · rw [markL_step hk]
      have := ih (k / 10) (digU k :: out) (by omega)
      simp only [List.length_cons] at this
      omega
    · obtain rfl : k = 0 := by omega
      rw [markL_zero]; omega
theorem mkT_small (k : Nat) (h : k ≤ 10000000000000) : (mkT k).size ≤ 9223372036854775807 := by
  rw [mkT_size]
  have := markL_length k k [] (Nat.le_refl _)
  simp only [List.length_nil] at this
  omega

end Go.Proofs.Ytabainoplkpppaa
