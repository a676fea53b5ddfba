/-
  Shapes: bounds, and the fault of a shape, of the program and of the reference.
-/
import Derived.Test.YtabainoplkpppaaBase
namespace Go.Proofs.Ytabainoplkpppaa
open Go.RowKit

/-- A number lies within bounds. -/
def insB (n lo hi : Int) : Bool := decide (lo ≤ n ∧ n ≤ hi)
theorem insB_t {n lo hi : Int} (h1 : lo ≤ n) (h2 : n ≤ hi) : insB n lo hi = true := by simp [insB, h1, h2]
theorem insB_lo {n lo hi : Int} (h1 : n < lo) : insB n lo hi = false := by simp [insB]; omega
theorem insB_hi {n lo hi : Int} (h1 : hi < n) : insB n lo hi = false := by simp [insB]; omega
theorem insB_true {n lo hi : Int} (h : insB n lo hi = true) : lo ≤ n ∧ n ≤ hi := by simpa [insB] using h
theorem insB_false {n lo hi : Int} (h : insB n lo hi = false) : n < lo ∨ hi < n := by simp [insB] at h; omega

set_option maxHeartbeats 400000 in
theorem inside_c (n lo hi : Int) (w : World) :
    Calls Try.prog 35 #[.int .i64 n, .int .i64 lo, .int .i64 hi] w fun e w' => e = .returned (.bool (insB n lo hi)) ∧ w = w' := by
  by_cases h1 : lo ≤ n
  · by_cases h2 : n ≤ hi
    · rw [insB_t h1 h2]
      go_enter Try.func35, Try.ntmps35
      go_wp2
      go_ret
      exact ⟨rfl, rfl⟩
    · rw [insB_hi (by omega)]
      go_enter Try.func35, Try.ntmps35
      go_wp2
      go_ret
      exact ⟨rfl, rfl⟩
  · rw [insB_lo (by omega)]
    go_enter Try.func35, Try.ntmps35
    go_wp2
    go_ret
    exact ⟨rfl, rfl⟩

set_option maxHeartbeats 400000 in
theorem l1In_c (n lo hi : Int) (w : World) :
    Calls Try.prog 20 #[.int .i64 n, .int .i64 lo, .int .i64 hi] w fun e w' => e = .returned (.bool (insB n lo hi)) ∧ w = w' := by
  by_cases h1 : lo ≤ n
  · by_cases h2 : n ≤ hi
    · rw [insB_t h1 h2]
      go_enter Try.func20, Try.ntmps20
      go_wp2
      go_ret
      exact ⟨rfl, rfl⟩
    · rw [insB_hi (by omega)]
      go_enter Try.func20, Try.ntmps20
      go_wp2
      go_ret
      exact ⟨rfl, rfl⟩
  · rw [insB_lo (by omega)]
    go_enter Try.func20, Try.ntmps20
    go_wp2
    go_ret
    exact ⟨rfl, rfl⟩

structure Sh where
  groups : Int
  column : Int
  data : Int
  spare : Int
  rows : Int
  cap : Int
  batch : Int
  queue : Int
  stage : Int
def Sh.cells (s : Sh) : List Value := [.int .i64 s.groups, .int .i64 s.column, .int .i64 s.data, .int .i64 s.spare, .int .i64 s.rows, .int .i64 s.cap, .int .i64 s.batch, .int .i64 s.queue, .int .i64 s.stage]
/-- A shape as a value. -/
def shV (s : Sh) : Value := .agg #[.int .i64 s.groups, .int .i64 s.column, .int .i64 s.data, .int .i64 s.spare, .int .i64 s.rows, .int .i64 s.cap, .int .i64 s.batch, .int .i64 s.queue, .int .i64 s.stage]
/-- A shape without a fault. -/
def shB (s : Sh) : Bool := insB s.groups 1 4 && (insB s.column 0 2 && (insB s.data 1 3 && (insB s.spare 0 2 && (insB s.rows 1 6 && (insB s.cap 1 6 && (insB s.batch 1 4 && (insB s.queue 1 6 && insB s.stage 0 400)))))))
/-- The fault of a shape. -/
def shCode (s : Sh) : Int := if shB s = true then 0 else 3
structure Sh.Ok (s : Sh) : Prop where
  groups : 1 ≤ s.groups ∧ s.groups ≤ 4
  column : 0 ≤ s.column ∧ s.column ≤ 2
  data : 1 ≤ s.data ∧ s.data ≤ 3
  spare : 0 ≤ s.spare ∧ s.spare ≤ 2
  rows : 1 ≤ s.rows ∧ s.rows ≤ 6
  cap : 1 ≤ s.cap ∧ s.cap ≤ 6
  batch : 1 ≤ s.batch ∧ s.batch ≤ 4
  queue : 1 ≤ s.queue ∧ s.queue ≤ 6
  stage : 0 ≤ s.stage ∧ s.stage ≤ 400
theorem shB_ok {s : Sh} (h : shB s = true) : s.Ok := by
  simp only [shB, Bool.and_eq_true] at h
  obtain ⟨h1, h2, h3, h4, h5, h6, h7, h8, h9⟩ := h
  exact ⟨insB_true h1, insB_true h2, insB_true h3, insB_true h4, insB_true h5, insB_true h6, insB_true h7, insB_true h8, insB_true h9⟩
theorem shCode_yes {s : Sh} (h : shB s = true) : shCode s = 0 := by unfold shCode; rw [if_pos h]
theorem shCode_no {s : Sh} (h : shB s = false) : shCode s = 3 := by unfold shCode; rw [if_neg (by rw [h]; simp)]
theorem cases9 {G : Prop} (B : Bool) (b1 b2 b3 b4 b5 b6 b7 b8 b9 : Bool) (hB : B = (b1 && (b2 && (b3 && (b4 && (b5 && (b6 && (b7 && (b8 && (b9)))))))))) (f1 : b1 = false → B = false → G) (f2 : b1 = true → b2 = false → B = false → G) (f3 : b1 = true → b2 = true → b3 = false → B = false → G) (f4 : b1 = true → b2 = true → b3 = true → b4 = false → B = false → G) (f5 : b1 = true → b2 = true → b3 = true → b4 = true → b5 = false → B = false → G) (f6 : b1 = true → b2 = true → b3 = true → b4 = true → b5 = true → b6 = false → B = false → G) (f7 : b1 = true → b2 = true → b3 = true → b4 = true → b5 = true → b6 = true → b7 = false → B = false → G) (f8 : b1 = true → b2 = true → b3 = true → b4 = true → b5 = true → b6 = true → b7 = true → b8 = false → B = false → G) (f9 : b1 = true → b2 = true → b3 = true → b4 = true → b5 = true → b6 = true → b7 = true → b8 = true → b9 = false → B = false → G) (f10 : b1 = true → b2 = true → b3 = true → b4 = true → b5 = true → b6 = true → b7 = true → b8 = true → b9 = true → B = true → G) : G := by
  subst hB
  cases b1
  · exact f1 rfl (by simp)
  cases b2
  · exact f2 rfl rfl (by simp)
  cases b3
  · exact f3 rfl rfl rfl (by simp)
  cases b4
  · exact f4 rfl rfl rfl rfl (by simp)
  cases b5
  · exact f5 rfl rfl rfl rfl rfl (by simp)
  cases b6
  · exact f6 rfl rfl rfl rfl rfl rfl (by simp)
  cases b7
  · exact f7 rfl rfl rfl rfl rfl rfl rfl (by simp)
  cases b8
  · exact f8 rfl rfl rfl rfl rfl rfl rfl rfl (by simp)
  cases b9
  · exact f9 rfl rfl rfl rfl rfl rfl rfl rfl rfl (by simp)
  exact f10 rfl rfl rfl rfl rfl rfl rfl rfl rfl rfl

set_option maxHeartbeats 1000000 in
theorem implShapeFault_c (s : Sh) (w : World) :
    Calls Try.prog 24 #[shV s] w fun e w' => e = .returned (.int .i64 (shCode s)) ∧ Below w.heap.size w w' := by
  unfold shV
  refine cases9 (shB s) (insB s.groups 1 4) (insB s.column 0 2) (insB s.data 1 3) (insB s.spare 0 2) (insB s.rows 1 6) (insB s.cap 1 6) (insB s.batch 1 4) (insB s.queue 1 6) (insB s.stage 0 400) rfl ?_ ?_ ?_ ?_ ?_ ?_ ?_ ?_ ?_ ?_
  all_goals
    intros
    first
      | rw [shCode_no ‹shB s = false›]
      | rw [shCode_yes ‹shB s = true›]
    go_enter Try.func24, Try.ntmps24
    go_wp2_with (go_at_call 35; refine (inside_c _ _ _ _).mono ?_; rintro e w' ⟨rfl, rfl⟩)
    go_ret
    exact ⟨rfl, (Below.refl _ _).alloc (Nat.le_refl _) _⟩

theorem cases2 {G : Prop} (B : Bool) (b1 b2 : Bool) (hB : B = (b1 && (b2))) (f1 : b1 = false → B = false → G) (f2 : b1 = true → b2 = false → B = false → G) (f3 : b1 = true → b2 = true → B = true → G) : G := by
  subst hB
  cases b1
  · exact f1 rfl (by simp)
  cases b2
  · exact f2 rfl rfl (by simp)
  exact f3 rfl rfl rfl

theorem cases7 {G : Prop} (B : Bool) (b1 b2 b3 b4 b5 b6 b7 : Bool) (hB : B = (b1 && (b2 && (b3 && (b4 && (b5 && (b6 && (b7)))))))) (f1 : b1 = false → B = false → G) (f2 : b1 = true → b2 = false → B = false → G) (f3 : b1 = true → b2 = true → b3 = false → B = false → G) (f4 : b1 = true → b2 = true → b3 = true → b4 = false → B = false → G) (f5 : b1 = true → b2 = true → b3 = true → b4 = true → b5 = false → B = false → G) (f6 : b1 = true → b2 = true → b3 = true → b4 = true → b5 = true → b6 = false → B = false → G) (f7 : b1 = true → b2 = true → b3 = true → b4 = true → b5 = true → b6 = true → b7 = false → B = false → G) (f8 : b1 = true → b2 = true → b3 = true → b4 = true → b5 = true → b6 = true → b7 = true → B = true → G) : G := by
  subst hB
  cases b1
  · exact f1 rfl (by simp)
  cases b2
  · exact f2 rfl rfl (by simp)
  cases b3
  · exact f3 rfl rfl rfl (by simp)
  cases b4
  · exact f4 rfl rfl rfl rfl (by simp)
  cases b5
  · exact f5 rfl rfl rfl rfl rfl (by simp)
  cases b6
  · exact f6 rfl rfl rfl rfl rfl rfl (by simp)
  cases b7
  · exact f7 rfl rfl rfl rfl rfl rfl rfl (by simp)
  exact f8 rfl rfl rfl rfl rfl rfl rfl rfl

def l3B (g c : Int) : Bool := insB g 1 4 && (insB c 0 2)
def l2B (d s : Int) : Bool := insB d 1 3 && (insB s 0 2)

set_option maxHeartbeats 400000 in
theorem l3Shape_c (g c : Int) (w : World) :
    Calls Try.prog 18 #[.int .i64 g, .int .i64 c] w fun e w' => e = .returned (.bool (l3B g c)) ∧ w = w' := by
  refine cases2 (l3B g c) (insB g 1 4) (insB c 0 2) rfl ?_ ?_ ?_
  all_goals
    intros
    first
      | rw [‹l3B g c = false›]
      | rw [‹l3B g c = true›]
    go_enter Try.func18, Try.ntmps18
    go_wp2_with (go_at_call 20; refine (l1In_c _ _ _ _).mono ?_; rintro e w' ⟨rfl, rfl⟩)
    go_ret
    exact ⟨rfl, rfl⟩

set_option maxHeartbeats 400000 in
theorem l2Shape_c (g c : Int) (w : World) :
    Calls Try.prog 19 #[.int .i64 g, .int .i64 c] w fun e w' => e = .returned (.bool (l2B g c)) ∧ w = w' := by
  refine cases2 (l2B g c) (insB g 1 3) (insB c 0 2) rfl ?_ ?_ ?_
  all_goals
    intros
    first
      | rw [‹l2B g c = false›]
      | rw [‹l2B g c = true›]
    go_enter Try.func19, Try.ntmps19
    go_wp2_with (go_at_call 20; refine (l1In_c _ _ _ _).mono ?_; rintro e w' ⟨rfl, rfl⟩)
    go_ret
    exact ⟨rfl, rfl⟩

theorem shB_eq (s : Sh) : shB s = (l3B s.groups s.column && (l2B s.data s.spare && (insB s.rows 1 6 && (insB s.cap 1 6 && (insB s.batch 1 4 && (insB s.queue 1 6 && (insB s.stage 0 400))))))) := by
  unfold shB l3B l2B
  simp only [Bool.and_assoc]

set_option maxHeartbeats 1000000 in
theorem specShapeFault_c (s : Sh) (w : World) :
    Calls Try.prog 10 #[shV s] w fun e w' => e = .returned (.int .i64 (shCode s)) ∧ Below w.heap.size w w' := by
  unfold shV
  refine cases7 (shB s) (l3B s.groups s.column) (l2B s.data s.spare) (insB s.rows 1 6) (insB s.cap 1 6) (insB s.batch 1 4) (insB s.queue 1 6) (insB s.stage 0 400) (shB_eq s) ?_ ?_ ?_ ?_ ?_ ?_ ?_ ?_
  all_goals
    intros
    first
      | rw [shCode_no ‹shB s = false›]
      | rw [shCode_yes ‹shB s = true›]
    go_enter Try.func10, Try.ntmps10
    go_wp2_with (first | (go_at_call 20; refine (l1In_c _ _ _ _).mono ?_; rintro e w' ⟨rfl, rfl⟩) | (go_at_call 18; refine (l3Shape_c _ _ _).mono ?_; rintro e w' ⟨rfl, rfl⟩) | (go_at_call 19; refine (l2Shape_c _ _ _).mono ?_; rintro e w' ⟨rfl, rfl⟩))
    go_ret
    exact ⟨rfl, (Below.refl _ _).alloc (Nat.le_refl _) _⟩

set_option maxHeartbeats 400000 in
theorem l5All_c (s : Sh) (h : s.Ok) (w : World) :
    Calls Try.prog 21 #[shV s] w fun e w' => e = .returned (.int .i64 (s.groups + s.column)) ∧ Below w.heap.size w w' := by
  obtain ⟨a1, a2⟩ := h.groups
  obtain ⟨b1, b2⟩ := h.column
  unfold shV
  go_enter Try.func21, Try.ntmps21
  go_wp2
  go_ret
  exact ⟨rfl, (Below.refl _ _).alloc (Nat.le_refl _) _⟩

set_option maxHeartbeats 400000 in
theorem shapeAll_c (s : Sh) (h : s.Ok) (w : World) :
    Calls Try.prog 25 #[shV s] w fun e w' => e = .returned (.int .i64 (s.groups + s.column)) ∧ Below w.heap.size w w' := by
  obtain ⟨a1, a2⟩ := h.groups
  obtain ⟨b1, b2⟩ := h.column
  unfold shV
  go_enter Try.func25, Try.ntmps25
  go_wp2
  go_ret
  exact ⟨rfl, (Below.refl _ _).alloc (Nat.le_refl _) _⟩

end Go.Proofs.Ytabainoplkpppaa
