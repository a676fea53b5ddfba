/-
  NewArchive, of the program and of the reference: what each call does, at any shape.
-/
import Derived.Test.YtabainoplkpppaaNew7
namespace Go.Proofs.Ytabainoplkpppaa
open Go.RowKit Go.Sort

/-- What NewArchive answers. -/
def arD (s : Sh) : ArchiveResultD := if shB s = true then ⟨0, 0, ⟨newW s (s.groups + s.column).toNat (s.data + s.spare).toNat s.rows.toNat, newK (s.groups + s.column).toNat⟩⟩ else ⟨3, 0, zeroA⟩
theorem sized_of {s : Sh} (h : shB s = true) : Sized s (s.groups + s.column).toNat (s.data + s.spare).toNat s.rows.toNat := by
  have hok := shB_ok h
  have := hok.groups; have := hok.column; have := hok.data; have := hok.spare; have := hok.rows
  exact ⟨hok, by omega, by omega, by omega⟩
theorem numSeq_repl {α : Type} (num : α → Nat) (d : α) : ∀ n, numSeq num (List.replicate n d) = n * num d
  | 0 => by simp [numSeq]
  | n + 1 => by rw [List.replicate_succ, numSeq, numSeq_repl num d n, Nat.succ_mul]; omega
theorem arD_num (s : Sh) : numArchive (arD s).archive ≤ 1000000 := by
  unfold arD
  split
  · rename_i h
    have hs := sized_of h
    have h1 := hs.G_le; have h2 := hs.D_le; have h3 := hs.N_le
    generalize (s.groups + s.column).toNat = G at *
    generalize (s.data + s.spare).toNat = D at *
    generalize s.rows.toNat = N at *
    simp only [numArchive, numWorld, numDesk, newW, newK, numSeq_repl, numDrive, drv0, numBlock, blk0, List.length_replicate, numSeq, numTape, tap0, List.length_nil]
    have a1 : N * (1 + 4) ≤ 6 * 5 := Nat.mul_le_mul h3 (by omega)
    have a2 : D * (1 + N * (1 + 4)) ≤ 5 * 31 := Nat.mul_le_mul h2 (by omega)
    have a3 : G * (D * (1 + N * (1 + 4))) ≤ 6 * (5 * 31) := Nat.mul_le_mul h1 a2
    omega
  · simp [numArchive, numWorld, numDesk, zeroA, numSeq]
theorem arD_young (s : Sh) : Young (arD s).archive := by
  unfold arD
  split
  · rename_i h
    have hs := sized_of h
    have h1 := hs.G_le
    refine ⟨by simp only [newW, List.length_replicate]; omega, fun t ht => ?_, by simp only [newK, List.length_replicate]; omega, fun t ht => ?_, rfl, rfl⟩
    · simp only [newW, List.mem_cons, List.not_mem_nil, or_false] at ht
      rcases ht with rfl | rfl <;> rfl
    · exact List.eq_of_mem_replicate ht
  · exact ⟨by simp [zeroA], (fun t ht => by cases ht), by simp [zeroA], (fun t ht => by cases ht), rfl, rfl⟩

theorem implNewArchive_u (s : Sh) (w : World) :
    Calls Try.prog 6 #[shV s] w fun e w' => ∃ cs fs, e = .returned (.agg cs.toArray) ∧ rArchiveResult w' fs cs (arD s) ∧ Mine w.heap.size w' fs ∧ Below w.heap.size w w' := by
  cases h : shB s
  · refine (implNewArchiveErr_c s h w).mono ?_
    rintro e w' ⟨rfl, hb⟩
    refine ⟨[.int .i64 3, .int .i64 0, .int .i64 0, .int .i64 0, .int .i64 0, .int .i64 0, .int .i64 0, .int .i64 0, .int .i64 0, .int .i64 0, .int .i64 0, .slice none 0 0, .slice none 0 0, .slice none 0 0, .int .i64 0, .int .i64 0, .bool false, .slice none 0 0, .slice none 0 0, .slice none 0 0, .int .i64 0, .int .i64 0], [], rfl, ?_, ⟨List.nodup_nil, (fun a ha => by cases ha), (fun a ha => by cases ha)⟩, hb⟩
    have e : arD s = ⟨3, 0, zeroA⟩ := by unfold arD; rw [if_neg (by rw [h]; simp)]
    rw [e]
    exact rArchiveResult.of (d := ⟨3, 0, zeroA⟩) (rArchive.zero w') (by unfold okI; simp) (by unfold okI; simp)
  · refine (implNewArchive_c s _ _ _ (sized_of h) h w).mono ?_
    rintro e w' ⟨A0, c0, A2, c2, A3, c3, fs, rfl, hr, hm, hb⟩
    refine ⟨_, fs, rfl, ?_, hm, hb⟩
    have e : arD s = ⟨0, 0, ⟨newW s (s.groups + s.column).toNat (s.data + s.spare).toNat s.rows.toNat, newK (s.groups + s.column).toNat⟩⟩ := by unfold arD; rw [if_pos h]
    rw [e]
    exact rArchiveResult.of (d := ⟨0, 0, _⟩) hr (by unfold okI; simp) (by unfold okI; simp)

theorem specNewArchive_u (s : Sh) (w : World) :
    Calls Try.prog 4 #[shV s] w fun e w' => ∃ cs fs, e = .returned (.agg cs.toArray) ∧ rArchiveResult w' fs cs (arD s) ∧ Below w.heap.size w w' := by
  cases h : shB s
  · refine (specNewArchiveErr_c s h w).mono ?_
    rintro e w' ⟨rfl, hb⟩
    refine ⟨[.int .i64 3, .int .i64 0, .int .i64 0, .int .i64 0, .int .i64 0, .int .i64 0, .int .i64 0, .int .i64 0, .int .i64 0, .int .i64 0, .int .i64 0, .slice none 0 0, .slice none 0 0, .slice none 0 0, .int .i64 0, .int .i64 0, .bool false, .slice none 0 0, .slice none 0 0, .slice none 0 0, .int .i64 0, .int .i64 0], [], rfl, ?_, hb⟩
    have e : arD s = ⟨3, 0, zeroA⟩ := by unfold arD; rw [if_neg (by rw [h]; simp)]
    rw [e]
    exact rArchiveResult.of (d := ⟨3, 0, zeroA⟩) (rArchive.zero w') (by unfold okI; simp) (by unfold okI; simp)
  · refine (specNewArchive_c s _ _ _ (sized_of h) h w).mono ?_
    rintro e w' ⟨A0, c0, A2, c2, A3, c3, fs, rfl, hr, hb⟩
    refine ⟨_, fs, rfl, ?_, hb⟩
    have e : arD s = ⟨0, 0, ⟨newW s (s.groups + s.column).toNat (s.data + s.spare).toNat s.rows.toNat, newK (s.groups + s.column).toNat⟩⟩ := by unfold arD; rw [if_pos h]
    rw [e]
    exact rArchiveResult.of (d := ⟨0, 0, _⟩) hr (by unfold okI; simp) (by unfold okI; simp)

/-- A struct laid into a new block. -/
theorem boxed (w : World) (t : TypeId) (Z : Array Value) (cs : List Value) (h : Z.size = cs.length) : Below w.heap.size w ((w.alloc (.cells Z t)).setCells w.heap.size 0 cs) ∧ Blk ((w.alloc (.cells Z t)).setCells w.heap.size 0 cs) w.heap.size t cs.toArray :=
  ⟨Below.setCells_ _ _ _ _ (Nat.le_refl _) ((Below.refl _ _).alloc (Nat.le_refl _) _), Blk.laid (Blk.new _ _ _) cs h⟩

set_option maxHeartbeats 1000000 in
theorem toShape_c (s : Sh) (w : World) :
    Calls Try.prog 5 #[shV s] w fun e w' => e = .returned (shV s) ∧ Below w.heap.size w w' := by
  unfold shV
  go_enter Try.func5, Try.ntmps5
  go_wp2
  refine bodyPost_ret (v := .agg #[.int .i64 s.groups, .int .i64 s.column, .int .i64 s.data, .int .i64 s.spare, .int .i64 s.rows, .int .i64 s.cap, .int .i64 s.batch, .int .i64 s.queue, .int .i64 s.stage]) (by simp [results, Try.results5, go_sem]) rfl ⟨rfl, ?_⟩
  repeat (first | exact Below.refl _ _ | (refine Below.alloc ?_ ?_ _) | (refine Below.setCell ?_ ?_ _))
  all_goals (first | exact Nat.le_refl _ | (simp; done) | (simp; omega))

end Go.Proofs.Ytabainoplkpppaa
