/-
  ReadBound, of the program and of the reference: what each call does.
-/
import Derived.Test.YtimabbleijkmhaaShape
import Derived.Deep.RegionWith
import Derived.Deep.RegionHeld3
import Derived.Deep.DeepCutAuto
namespace Go.Proofs.Ytimabbleijkmhaa
open Go.RowKit

set_option maxHeartbeats 1000000 in
theorem toShape_c (s : Sh) (w : World) :
    Calls Try.prog 16 #[shV s] w fun e w' => e = .returned (shV s) ∧ Below w.heap.size w w' := by
  unfold shV
  go_enter Try.func16, Try.ntmps16
  go_wp2
  refine bodyPost_ret (v := .agg #[.int .i64 s.groups, .int .i64 s.column, .int .i64 s.data, .int .i64 s.spare, .int .i64 s.rows, .int .i64 s.cap, .int .i64 s.batch, .int .i64 s.queue, .int .i64 s.stage]) (by simp [results, Try.results16, go_sem]) rfl ⟨rfl, ?_⟩
  repeat (first | exact Below.refl _ _ | (refine Below.alloc ?_ ?_ _) | (refine Below.setCell ?_ ?_ _))
  all_goals (first | exact Nat.le_refl _ | (simp; done) | (simp; omega))

/-- What ReadBound answers: a code and a value. -/
def rbCode (s : Sh) (place : Int) : Int := if shB s = true then (if insB place 0 (s.queue - 1) = true then 0 else 3) else 3
def rbVal (s : Sh) (place : Int) : Int := if shB s = true then (if insB place 0 (s.queue - 1) = true then (s.groups + s.column) * (place / s.batch + 1) else 0) else 0
def irV (c v : Int) : Value := .agg #[.int .i64 c, .int .i64 v]

set_option maxHeartbeats 1000000 in
theorem specReadBound_c (s : Sh) (place : Int) (w : World) :
    Calls Try.prog 15 #[shV s, .int .i64 place] w fun e w' => e = .returned (irV (rbCode s place) (rbVal s place)) ∧ Below w.heap.size w w' := by
  by_cases h : shB s = true
  · have hok := shB_ok h
    obtain ⟨a1, a2⟩ := hok.groups
    obtain ⟨b1, b2⟩ := hok.column
    obtain ⟨c1, c2⟩ := hok.batch
    obtain ⟨d1, d2⟩ := hok.queue
    have hc := shCode_yes h
    cases hp : insB place 0 (s.queue - 1)
    · have e1 : rbCode s place = 3 := by simp [rbCode, h, hp]
      have e2 : rbVal s place = 0 := by simp [rbVal, h, hp]
      rw [e1, e2]
      clear e1 e2 h
      unfold shV irV
      go_enter Try.func15, Try.ntmps15
      go_wp2_with (first | (go_at_call 44; refine (specShapeFault_c s _).mono ?_; rintro e w1 ⟨rfl, hb1⟩; rw [hc]; obtain ⟨o1, o2⟩ := oldCells hb1; have hz := hb1.size; simp at hz) | (go_at_call 45; refine (l1In_c _ _ _ _).mono ?_; rintro e w' ⟨rfl, rfl⟩))
      have k2 := (Blk.new1 w (.cells #[.int .i64 s.groups, .int .i64 s.column, .int .i64 s.data, .int .i64 s.spare, .int .i64 s.rows, .int .i64 s.cap, .int .i64 s.batch, .int .i64 s.queue, .int .i64 s.stage] 32) 30 #[.int .i64 0, .int .i64 0]).below hb1 (by simp)
      have hblk := (k2.set_ 0 (.int .i64 3)).set_ 1 (.int .i64 0)
      refine bodyPost_ret (results_cell_row rfl _ _ (w.heap.size + 1) 30 #[.int .i64 3, .int .i64 0] (0, 0) _ rfl hblk Try.underlying30 rfl (by kernel_rfl)) rfl ⟨rfl, ?_⟩
      have hA : Below w.heap.size w ((w.alloc (.cells #[.int .i64 s.groups, .int .i64 s.column, .int .i64 s.data, .int .i64 s.spare, .int .i64 s.rows, .int .i64 s.cap, .int .i64 s.batch, .int .i64 s.queue, .int .i64 s.stage] 32)).alloc (.cells #[.int .i64 0, .int .i64 0] 30)) := ((Below.refl _ _).alloc (Nat.le_refl _) _).alloc (by simp) _
      exact ((hA.trans (hb1.mono (by simp; omega))).setCell (by simp) _).setCell (by simp) _
    · have e1 : rbCode s place = 0 := by simp [rbCode, h, hp]
      have e2 : rbVal s place = (s.groups + s.column) * (place / s.batch + 1) := by simp [rbVal, h, hp]
      obtain ⟨p1, p2⟩ := insB_true hp
      rw [e1, e2]
      clear e1 e2 h
      unfold shV irV
      go_enter Try.func15, Try.ntmps15
      go_wp2_with (first | (go_at_call 44; refine (specShapeFault_c s _).mono ?_; rintro e w1 ⟨rfl, hb1⟩; rw [hc]; obtain ⟨o1, o2⟩ := oldCells hb1; have hz := hb1.size; simp at hz) | (go_at_call 45; refine (l1In_c _ _ _ _).mono ?_; rintro e w' ⟨rfl, rfl⟩))
      have q1 : 0 ≤ place / s.batch := Int.ediv_nonneg p1 (by omega)
      have q2 : place / s.batch ≤ 5 := by
        have := Int.ediv_le_self s.batch p1
        omega
      have m1 : 0 ≤ (s.groups + s.column) * (place / s.batch + 1) := Int.mul_nonneg (by omega) (by omega)
      have m2 : (s.groups + s.column) * (place / s.batch + 1) ≤ 6 * 6 := Int.mul_le_mul (by omega) (by omega) (by omega) (by omega)
      have hq0 : (s.batch == 0) = false := by rw [beq_eq_false_iff_ne]; omega
      have hq1 : ¬ s.batch = 0 := by omega
      have hq : IntKind.i64.wrap (place.tdiv s.batch) = place / s.batch := by rw [Int.tdiv_eq_ediv_of_nonneg p1]; exact IntWalk.i64_in _ (by omega)
      have hw1 := IntWalk.i64_in (place / s.batch + 1) (by omega)
      have hw2 := IntWalk.i64_in ((s.groups + s.column) * (place / s.batch + 1)) (by omega)
      have z0 : w.heap.size < w1.heap.size := by omega
      have z1 : w.heap.size + 1 < w1.heap.size := by omega
      have k1 := ((Blk.new w 32 #[.int .i64 s.groups, .int .i64 s.column, .int .i64 s.data, .int .i64 s.spare, .int .i64 s.rows, .int .i64 s.cap, .int .i64 s.batch, .int .i64 s.queue, .int .i64 s.stage]).alloc (.cells #[.int .i64 0, .int .i64 0] 30)).below hb1 (by simp; omega)
      have k2 := (Blk.new1 w (.cells #[.int .i64 s.groups, .int .i64 s.column, .int .i64 s.data, .int .i64 s.spare, .int .i64 s.rows, .int .i64 s.cap, .int .i64 s.batch, .int .i64 s.queue, .int .i64 s.stage] 32) 30 #[.int .i64 0, .int .i64 0]).below hb1 (by simp)
      clear hz o1 o2
      have g0 := k1.at_ 0 rfl
      have g1 := k1.at_ 1 rfl
      have g2 := k1.at_ 2 rfl
      have g3 := k1.at_ 3 rfl
      have g4 := k1.at_ 4 rfl
      have g5 := k1.at_ 5 rfl
      have g6 := k1.at_ 6 rfl
      have g7 := k1.at_ 7 rfl
      have g8 := k1.at_ 8 rfl
      have HK1 := Lib.hid k1; have HK2 := Lib.hid k2; have HB1 := Lib.hid hb1; clear k1 k2 hb1
      go_region_held3 (fun w' => w'.cell? ⟨w.heap.size, 0, none⟩ = some (.int .i64 s.groups) ∧ w'.cell? ⟨w.heap.size, 1, none⟩ = some (.int .i64 s.column) ∧ w'.cell? ⟨w.heap.size, 2, none⟩ = some (.int .i64 s.data) ∧ w'.cell? ⟨w.heap.size, 3, none⟩ = some (.int .i64 s.spare) ∧ w'.cell? ⟨w.heap.size, 4, none⟩ = some (.int .i64 s.rows) ∧ w'.cell? ⟨w.heap.size, 5, none⟩ = some (.int .i64 s.cap) ∧ w'.cell? ⟨w.heap.size, 6, none⟩ = some (.int .i64 s.batch) ∧ w'.cell? ⟨w.heap.size, 7, none⟩ = some (.int .i64 s.queue) ∧ w'.cell? ⟨w.heap.size, 8, none⟩ = some (.int .i64 s.stage)) (first | go_keep | (exact ⟨(hb2.cell (p := ⟨w.heap.size, 0, none⟩) z0).trans g0, (hb2.cell (p := ⟨w.heap.size, 1, none⟩) z0).trans g1, (hb2.cell (p := ⟨w.heap.size, 2, none⟩) z0).trans g2, (hb2.cell (p := ⟨w.heap.size, 3, none⟩) z0).trans g3, (hb2.cell (p := ⟨w.heap.size, 4, none⟩) z0).trans g4, (hb2.cell (p := ⟨w.heap.size, 5, none⟩) z0).trans g5, (hb2.cell (p := ⟨w.heap.size, 6, none⟩) z0).trans g6, (hb2.cell (p := ⟨w.heap.size, 7, none⟩) z0).trans g7, (hb2.cell (p := ⟨w.heap.size, 8, none⟩) z0).trans g8⟩)) (first | (go_at_call 46; refine (l5All_c s hok _).mono ?_; rintro e w2 ⟨rfl, hb2⟩; have k3 := HK2.out.below (undrew hb2) z1; have r0 := k3.at_ 0 rfl; have r1 := k3.at_ 1 rfl; have f0 := k3.frozen 0; have f1 := k3.frozen 1; have HK3 := Lib.hid k3; clear k3))
      go_wp2
      have hblk := (HK3.out.set_ 0 (.int .i64 0)).set_ 1 (.int .i64 ((s.groups + s.column) * (place / s.batch + 1)))
      refine bodyPost_ret (results_cell_row rfl _ _ (w.heap.size + 1) 30 #[.int .i64 0, .int .i64 ((s.groups + s.column) * (place / s.batch + 1))] (0, 0) _ rfl hblk Try.underlying30 rfl (by kernel_rfl)) rfl ⟨rfl, ?_⟩
      have hA : Below w.heap.size w ((w.alloc (.cells #[.int .i64 s.groups, .int .i64 s.column, .int .i64 s.data, .int .i64 s.spare, .int .i64 s.rows, .int .i64 s.cap, .int .i64 s.batch, .int .i64 s.queue, .int .i64 s.stage] 32)).alloc (.cells #[.int .i64 0, .int .i64 0] 30)) := ((Below.refl _ _).alloc (Nat.le_refl _) _).alloc (by simp) _
      exact (((hA.trans (HB1.out.mono (by simp; omega))).trans ((undrew hb2).mono (by omega))).setCell (by simp) _).setCell (by simp) _
  · have h' : shB s = false := by simpa using h
    have hc := shCode_no h'
    have e1 : rbCode s place = 3 := by simp [rbCode, h']
    have e2 : rbVal s place = 0 := by simp [rbVal, h']
    rw [e1, e2]
    clear e1 e2 h h'
    unfold shV irV
    go_enter Try.func15, Try.ntmps15
    go_wp2_with (first | (go_at_call 44; refine (specShapeFault_c s _).mono ?_; rintro e w1 ⟨rfl, hb1⟩; rw [hc]; obtain ⟨o1, o2⟩ := oldCells hb1; have hz := hb1.size; simp at hz) | (go_at_call 45; refine (l1In_c _ _ _ _).mono ?_; rintro e w' ⟨rfl, rfl⟩))
    have k2 := (Blk.new1 w (.cells #[.int .i64 s.groups, .int .i64 s.column, .int .i64 s.data, .int .i64 s.spare, .int .i64 s.rows, .int .i64 s.cap, .int .i64 s.batch, .int .i64 s.queue, .int .i64 s.stage] 32) 30 #[.int .i64 0, .int .i64 0]).below hb1 (by simp)
    have hblk := (k2.set_ 0 (.int .i64 3)).set_ 1 (.int .i64 0)
    refine bodyPost_ret (results_cell_row rfl _ _ (w.heap.size + 1) 30 #[.int .i64 3, .int .i64 0] (0, 0) _ rfl hblk Try.underlying30 rfl (by kernel_rfl)) rfl ⟨rfl, ?_⟩
    have hA : Below w.heap.size w ((w.alloc (.cells #[.int .i64 s.groups, .int .i64 s.column, .int .i64 s.data, .int .i64 s.spare, .int .i64 s.rows, .int .i64 s.cap, .int .i64 s.batch, .int .i64 s.queue, .int .i64 s.stage] 32)).alloc (.cells #[.int .i64 0, .int .i64 0] 30)) := ((Below.refl _ _).alloc (Nat.le_refl _) _).alloc (by simp) _
    exact ((hA.trans (hb1.mono (by simp; omega))).setCell (by simp) _).setCell (by simp) _

set_option maxHeartbeats 1000000 in
theorem implReadBound_c (s : Sh) (place : Int) (w : World) :
    Calls Try.prog 17 #[shV s, .int .i64 place] w fun e w' => e = .returned (irV (rbCode s place) (rbVal s place)) ∧ Below w.heap.size w w' := by
  by_cases h : shB s = true
  · have hok := shB_ok h
    obtain ⟨a1, a2⟩ := hok.groups
    obtain ⟨b1, b2⟩ := hok.column
    obtain ⟨c1, c2⟩ := hok.batch
    obtain ⟨d1, d2⟩ := hok.queue
    have hc := shCode_yes h
    cases hp : insB place 0 (s.queue - 1)
    · have e1 : rbCode s place = 3 := by simp [rbCode, h, hp]
      have e2 : rbVal s place = 0 := by simp [rbVal, h, hp]
      rw [e1, e2]
      clear e1 e2 h
      unfold shV irV
      go_enter Try.func17, Try.ntmps17
      go_wp2_with (first | (go_at_call 47; refine (implShapeFault_c s _).mono ?_; rintro e w1 ⟨rfl, hb1⟩; rw [hc]; obtain ⟨o1, o2⟩ := oldCells hb1; have hz := hb1.size; simp at hz) | (go_at_call 48; refine (inside_c _ _ _ _).mono ?_; rintro e w' ⟨rfl, rfl⟩))
      have k2 := (Blk.new1 w (.cells #[.int .i64 s.groups, .int .i64 s.column, .int .i64 s.data, .int .i64 s.spare, .int .i64 s.rows, .int .i64 s.cap, .int .i64 s.batch, .int .i64 s.queue, .int .i64 s.stage] 32) 30 #[.int .i64 0, .int .i64 0]).below hb1 (by simp)
      have hblk := (k2.set_ 0 (.int .i64 3)).set_ 1 (.int .i64 0)
      refine bodyPost_ret (results_cell_row rfl _ _ (w.heap.size + 1) 30 #[.int .i64 3, .int .i64 0] (0, 0) _ rfl hblk Try.underlying30 rfl (by kernel_rfl)) rfl ⟨rfl, ?_⟩
      have hA : Below w.heap.size w ((w.alloc (.cells #[.int .i64 s.groups, .int .i64 s.column, .int .i64 s.data, .int .i64 s.spare, .int .i64 s.rows, .int .i64 s.cap, .int .i64 s.batch, .int .i64 s.queue, .int .i64 s.stage] 32)).alloc (.cells #[.int .i64 0, .int .i64 0] 30)) := ((Below.refl _ _).alloc (Nat.le_refl _) _).alloc (by simp) _
      exact ((hA.trans (hb1.mono (by simp; omega))).setCell (by simp) _).setCell (by simp) _
    · have e1 : rbCode s place = 0 := by simp [rbCode, h, hp]
      have e2 : rbVal s place = (s.groups + s.column) * (place / s.batch + 1) := by simp [rbVal, h, hp]
      obtain ⟨p1, p2⟩ := insB_true hp
      rw [e1, e2]
      clear e1 e2 h
      unfold shV irV
      go_enter Try.func17, Try.ntmps17
      go_wp2_with (first | (go_at_call 47; refine (implShapeFault_c s _).mono ?_; rintro e w1 ⟨rfl, hb1⟩; rw [hc]; obtain ⟨o1, o2⟩ := oldCells hb1; have hz := hb1.size; simp at hz) | (go_at_call 48; refine (inside_c _ _ _ _).mono ?_; rintro e w' ⟨rfl, rfl⟩))
      have q1 : 0 ≤ place / s.batch := Int.ediv_nonneg p1 (by omega)
      have q2 : place / s.batch ≤ 5 := by
        have := Int.ediv_le_self s.batch p1
        omega
      have m1 : 0 ≤ (s.groups + s.column) * (place / s.batch + 1) := Int.mul_nonneg (by omega) (by omega)
      have m2 : (s.groups + s.column) * (place / s.batch + 1) ≤ 6 * 6 := Int.mul_le_mul (by omega) (by omega) (by omega) (by omega)
      have hq0 : (s.batch == 0) = false := by rw [beq_eq_false_iff_ne]; omega
      have hq1 : ¬ s.batch = 0 := by omega
      have hq : IntKind.i64.wrap (place.tdiv s.batch) = place / s.batch := by rw [Int.tdiv_eq_ediv_of_nonneg p1]; exact IntWalk.i64_in _ (by omega)
      have hw1 := IntWalk.i64_in (place / s.batch + 1) (by omega)
      have hw2 := IntWalk.i64_in ((s.groups + s.column) * (place / s.batch + 1)) (by omega)
      have z0 : w.heap.size < w1.heap.size := by omega
      have z1 : w.heap.size + 1 < w1.heap.size := by omega
      have k1 := ((Blk.new w 32 #[.int .i64 s.groups, .int .i64 s.column, .int .i64 s.data, .int .i64 s.spare, .int .i64 s.rows, .int .i64 s.cap, .int .i64 s.batch, .int .i64 s.queue, .int .i64 s.stage]).alloc (.cells #[.int .i64 0, .int .i64 0] 30)).below hb1 (by simp; omega)
      have k2 := (Blk.new1 w (.cells #[.int .i64 s.groups, .int .i64 s.column, .int .i64 s.data, .int .i64 s.spare, .int .i64 s.rows, .int .i64 s.cap, .int .i64 s.batch, .int .i64 s.queue, .int .i64 s.stage] 32) 30 #[.int .i64 0, .int .i64 0]).below hb1 (by simp)
      clear hz o1 o2
      have g0 := k1.at_ 0 rfl
      have g1 := k1.at_ 1 rfl
      have g2 := k1.at_ 2 rfl
      have g3 := k1.at_ 3 rfl
      have g4 := k1.at_ 4 rfl
      have g5 := k1.at_ 5 rfl
      have g6 := k1.at_ 6 rfl
      have g7 := k1.at_ 7 rfl
      have g8 := k1.at_ 8 rfl
      have HK1 := Lib.hid k1; have HK2 := Lib.hid k2; have HB1 := Lib.hid hb1; clear k1 k2 hb1
      go_region_held3 (fun w' => w'.cell? ⟨w.heap.size, 0, none⟩ = some (.int .i64 s.groups) ∧ w'.cell? ⟨w.heap.size, 1, none⟩ = some (.int .i64 s.column) ∧ w'.cell? ⟨w.heap.size, 2, none⟩ = some (.int .i64 s.data) ∧ w'.cell? ⟨w.heap.size, 3, none⟩ = some (.int .i64 s.spare) ∧ w'.cell? ⟨w.heap.size, 4, none⟩ = some (.int .i64 s.rows) ∧ w'.cell? ⟨w.heap.size, 5, none⟩ = some (.int .i64 s.cap) ∧ w'.cell? ⟨w.heap.size, 6, none⟩ = some (.int .i64 s.batch) ∧ w'.cell? ⟨w.heap.size, 7, none⟩ = some (.int .i64 s.queue) ∧ w'.cell? ⟨w.heap.size, 8, none⟩ = some (.int .i64 s.stage)) (first | go_keep | (exact ⟨(hb2.cell (p := ⟨w.heap.size, 0, none⟩) z0).trans g0, (hb2.cell (p := ⟨w.heap.size, 1, none⟩) z0).trans g1, (hb2.cell (p := ⟨w.heap.size, 2, none⟩) z0).trans g2, (hb2.cell (p := ⟨w.heap.size, 3, none⟩) z0).trans g3, (hb2.cell (p := ⟨w.heap.size, 4, none⟩) z0).trans g4, (hb2.cell (p := ⟨w.heap.size, 5, none⟩) z0).trans g5, (hb2.cell (p := ⟨w.heap.size, 6, none⟩) z0).trans g6, (hb2.cell (p := ⟨w.heap.size, 7, none⟩) z0).trans g7, (hb2.cell (p := ⟨w.heap.size, 8, none⟩) z0).trans g8⟩)) (first | (go_at_call 49; refine (shapeAll_c s hok _).mono ?_; rintro e w2 ⟨rfl, hb2⟩; have k3 := HK2.out.below (undrew hb2) z1; have r0 := k3.at_ 0 rfl; have r1 := k3.at_ 1 rfl; have f0 := k3.frozen 0; have f1 := k3.frozen 1; have HK3 := Lib.hid k3; clear k3))
      go_wp2
      have hblk := (HK3.out.set_ 0 (.int .i64 0)).set_ 1 (.int .i64 ((s.groups + s.column) * (place / s.batch + 1)))
      refine bodyPost_ret (results_cell_row rfl _ _ (w.heap.size + 1) 30 #[.int .i64 0, .int .i64 ((s.groups + s.column) * (place / s.batch + 1))] (0, 0) _ rfl hblk Try.underlying30 rfl (by kernel_rfl)) rfl ⟨rfl, ?_⟩
      have hA : Below w.heap.size w ((w.alloc (.cells #[.int .i64 s.groups, .int .i64 s.column, .int .i64 s.data, .int .i64 s.spare, .int .i64 s.rows, .int .i64 s.cap, .int .i64 s.batch, .int .i64 s.queue, .int .i64 s.stage] 32)).alloc (.cells #[.int .i64 0, .int .i64 0] 30)) := ((Below.refl _ _).alloc (Nat.le_refl _) _).alloc (by simp) _
      exact (((hA.trans (HB1.out.mono (by simp; omega))).trans ((undrew hb2).mono (by omega))).setCell (by simp) _).setCell (by simp) _
  · have h' : shB s = false := by simpa using h
    have hc := shCode_no h'
    have e1 : rbCode s place = 3 := by simp [rbCode, h']
    have e2 : rbVal s place = 0 := by simp [rbVal, h']
    rw [e1, e2]
    clear e1 e2 h h'
    unfold shV irV
    go_enter Try.func17, Try.ntmps17
    go_wp2_with (first | (go_at_call 47; refine (implShapeFault_c s _).mono ?_; rintro e w1 ⟨rfl, hb1⟩; rw [hc]; obtain ⟨o1, o2⟩ := oldCells hb1; have hz := hb1.size; simp at hz) | (go_at_call 48; refine (inside_c _ _ _ _).mono ?_; rintro e w' ⟨rfl, rfl⟩))
    have k2 := (Blk.new1 w (.cells #[.int .i64 s.groups, .int .i64 s.column, .int .i64 s.data, .int .i64 s.spare, .int .i64 s.rows, .int .i64 s.cap, .int .i64 s.batch, .int .i64 s.queue, .int .i64 s.stage] 32) 30 #[.int .i64 0, .int .i64 0]).below hb1 (by simp)
    have hblk := (k2.set_ 0 (.int .i64 3)).set_ 1 (.int .i64 0)
    refine bodyPost_ret (results_cell_row rfl _ _ (w.heap.size + 1) 30 #[.int .i64 3, .int .i64 0] (0, 0) _ rfl hblk Try.underlying30 rfl (by kernel_rfl)) rfl ⟨rfl, ?_⟩
    have hA : Below w.heap.size w ((w.alloc (.cells #[.int .i64 s.groups, .int .i64 s.column, .int .i64 s.data, .int .i64 s.spare, .int .i64 s.rows, .int .i64 s.cap, .int .i64 s.batch, .int .i64 s.queue, .int .i64 s.stage] 32)).alloc (.cells #[.int .i64 0, .int .i64 0] 30)) := ((Below.refl _ _).alloc (Nat.le_refl _) _).alloc (by simp) _
    exact ((hA.trans (hb1.mono (by simp; omega))).setCell (by simp) _).setCell (by simp) _

end Go.Proofs.Ytimabbleijkmhaa
