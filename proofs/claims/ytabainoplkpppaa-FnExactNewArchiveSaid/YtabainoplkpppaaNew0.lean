/-
  What a new world is made of: blank blocks of a drive on both sides.
-/
import Derived.Test.YtabainoplkpppaaShape
import Derived.Test.YtabainoplkpppaaMkE
import Derived.Deep.RegionHeld3
namespace Go.Proofs.Ytabainoplkpppaa
open Go.RowKit Go.Sort

def blk0 : BlockD := ⟨0, List.replicate 4 0⟩
def drv0 (n : Nat) : DriveD := ⟨false, List.replicate n blk0⟩
def Sh.toD (s : Sh) : ShapeD := ⟨s.groups, s.column, s.data, s.spare, s.rows, s.cap, s.batch, s.queue, s.stage⟩

theorem Try.infoBlock : (Try.prog.info? 68).map (fun i => (i.zero, i.size, i.bytes)) = some (some (.agg #[.int .i64 0, .slice none 0 0]), 2, 32) := by kernel_rfl
theorem Try.infoDrive : (Try.prog.info? 58).map (fun i => (i.zero, i.size, i.bytes)) = some (some (.agg #[.bool false, .slice none 0 0]), 2, 32) := by kernel_rfl
theorem Try.infoDrives : (Try.prog.info? 55).map (fun i => (i.zero, i.size, i.bytes)) = some (some (.slice none 0 0), 1, 24) := by kernel_rfl
theorem Try.infoTape : (Try.prog.info? 87).map (fun i => (i.zero, i.size, i.bytes)) = some (some (.agg #[.bool false, .slice none 0 0]), 2, 32) := by kernel_rfl
theorem Try.infoTickets : (Try.prog.info? 31).map (fun i => (i.zero, i.size, i.bytes)) = some (some (.slice none 0 0), 1, 24) := by kernel_rfl

theorem run_make_wide (P : Program) (t e : TypeId) (z : Value) (k bytes : Nat) (ht : P.underlying t = some (.slice e)) (hinfo : (P.info? e).map (fun i => (i.zero, i.size, i.bytes)) = some (some z, k, bytes)) (n : Nat) (hn : n ≤ 1048576) (hby : bytes ≤ 1000) (w : World) :
    (Instr.makeSlice t (.int .i64 (n : Int)) (.int .i64 (n : Int))).run P w = .ok (.slice (some ⟨w.heap.size, 0, none⟩) n n) (w.alloc (.cells (madeCells z.cells (n * k)) e)) := by
  obtain ⟨i, hi, hz, hs, hb⟩ := info_parts hinfo
  have h2 : bytes * n ≤ 1048576000 := by
    calc bytes * n ≤ 1000 * 1048576 := Nat.mul_le_mul hby hn
      _ = 1048576000 := by decide
  have h3 : (i.bytes : Int) * (n : Int) ≤ 281474976710656 := by
    rw [hb]
    have : ((bytes * n : Nat) : Int) ≤ 1048576000 := Int.ofNat_le.2 h2
    rw [Int.natCast_mul] at this
    omega
  have := run_make w t e i z ht hi hz .i64 .i64 (n : Int) (n : Int) (by omega) (by omega) h3 (by omega)
  rw [hs] at this
  simpa using this

/-- A reading of a row of a block, element by element. -/
theorem rSl.ofRow {α : Type} {k : Nat} {R : Repr α} {w : World} {g n : Nat} {ds : List α} (css : List (List Value)) (fss : List (List Addr)) (hn : ds.length = n) (hm : n ≤ 9223372036854775807) (h1 : css.length = n) (h2 : fss.length = n)
    (h : ∀ i, (hi : i < n) → (css[i]'(by omega)).length = k ∧ (∀ q, (hq : q < (css[i]'(by omega)).length) → w.cell? ⟨g, i * k + q, none⟩ = some (css[i]'(by omega))[q]) ∧ R w (fss[i]'(by omega)) (css[i]'(by omega)) (ds[i]'(by omega))) :
    rSl k R w (addrs ⟨g, 0, none⟩ (n * k) ++ fss.flatten) (.slice (some ⟨g, 0, none⟩) n n) ds := by
  subst hn
  refine ⟨some ⟨g, 0, none⟩, ds.length, rfl, Nat.le_refl _, hm, .inr ⟨⟨g, 0, none⟩, css, fss, rfl, h1, h2, rfl, fun i hi => ?_⟩⟩
  obtain ⟨a, b, c⟩ := h i hi
  refine ⟨by omega, by omega, a, fun q hq => ?_, c⟩
  have e : (⟨g, 0, none⟩ : Addr).add (i * k + q) = ⟨g, i * k + q, none⟩ := addNew g _
  rw [e]
  exact b q hq

/-- The first j blocks of a row have their bytes. -/
structure Blanks (w : World) (g n j : Nat) (cs : Array Value) : Prop where
  size : cs.size = n * 2
  stamp : ∀ i, i < n → cs[i * 2]? = some (.int .i64 0)
  bytes : ∀ i, i < j → cs[i * 2 + 1]? = some (.slice (some ⟨g + 1 + i, 0, none⟩) 4 4)
  rows : ∀ i, i < j → Blk w (g + 1 + i) 5 #[.int .u8 0, .int .u8 0, .int .u8 0, .int .u8 0]
theorem Blanks.start (w : World) (g n : Nat) : Blanks w g n 0 (madeCells #[.int .i64 0, .slice none 0 0] (n * 2)) := by
  refine ⟨size_madeCells _ _, fun i hi => ?_, fun i hi => absurd hi (Nat.not_lt_zero _), fun i hi => absurd hi (Nat.not_lt_zero _)⟩
  simp only [madeCells, Array.getElem?_map, Array.getElem?_range]
  rw [if_pos (by omega)]
  simp
theorem Blanks.has {w : World} {g n j : Nat} {cs : Array Value} (h : Blanks w g n j cs) (q : Nat) (hq : q < n * 2) : ∃ u, cs[q]? = some u := ⟨cs[q]'(by rw [h.size]; exact hq), Array.getElem?_eq_getElem (by rw [h.size]; exact hq)⟩
theorem Blanks.step {w w2 : World} {g n j : Nat} {cs : Array Value} (h : Blanks w g n j cs) (hj : j < n) (hr : ∀ i, i < j → Blk w (g + 1 + i) 5 #[.int .u8 0, .int .u8 0, .int .u8 0, .int .u8 0] → Blk w2 (g + 1 + i) 5 #[.int .u8 0, .int .u8 0, .int .u8 0, .int .u8 0]) (hk : Blk w2 (g + 1 + j) 5 #[.int .u8 0, .int .u8 0, .int .u8 0, .int .u8 0]) :
    Blanks w2 g n (j + 1) (cs.setIfInBounds (j * 2 + 1) (.slice (some ⟨g + 1 + j, 0, none⟩) 4 4)) := by
  refine ⟨by simp [h.size], fun i hi => ?_, fun i hi => ?_, fun i hi => ?_⟩
  · rw [Array.getElem?_setIfInBounds_ne (by omega)]; exact h.stamp i hi
  · rcases Nat.lt_or_ge i j with hlt | hge
    · rw [Array.getElem?_setIfInBounds_ne (by omega)]; exact h.bytes i hlt
    · obtain rfl : i = j := by omega
      rw [Array.getElem?_setIfInBounds_self_of_lt (by rw [h.size]; omega)]
  · rcases Nat.lt_or_ge i j with hlt | hge
    · exact hr i hlt (h.rows i hlt)
    · obtain rfl : i = j := by omega
      exact hk
theorem Blk.bytes4 {w : World} {g : Nat} (h : Blk w g 5 #[.int .u8 0, .int .u8 0, .int .u8 0, .int .u8 0]) : rBytes w (addrs ⟨g, 0, none⟩ 4) (.slice (some ⟨g, 0, none⟩) 4 4) (List.replicate 4 0) := by
  have := rBytes.of_blk (w := w) (g := g) (T := 5) (bs := List.replicate 4 0) h (by simp)
  simpa using this
theorem addrs_block {g n : Nat} {a : Addr} (h : a ∈ addrs ⟨g, 0, none⟩ n) : a.block = g := by
  obtain ⟨q, _, rfl⟩ := mem_addrs.1 h
  exact blockAdd _ _
theorem Blanks.reads {w : World} {g n lo : Nat} {cs : Array Value} (h : Blanks w g n n cs) (hk : Blk w g 68 cs) (hn : n ≤ 1000) (hl : lo ≤ g) :
    ∃ fs, rSl 2 rBlock w fs (.slice (some ⟨g, 0, none⟩) n n) (List.replicate n blk0) ∧ Mine lo w fs := by
  refine ⟨_, rSl.ofRow ((List.range n).map fun i => [.int .i64 0, .slice (some ⟨g + 1 + i, 0, none⟩) 4 4]) ((List.range n).map fun i => addrs ⟨g + 1 + i, 0, none⟩ 4) (by simp) (by omega) (by simp) (by simp) (fun i hi => ⟨by simp, fun q hq => ?_, ?_⟩), ?_⟩
  · simp only [List.getElem_map, List.getElem_range, List.length_cons, List.length_nil] at hq ⊢
    rw [hk.cell]
    rcases q with _ | q
    · exact h.stamp i hi
    · obtain rfl : q = 0 := by omega
      exact h.bytes i hi
  · simp only [List.getElem_map, List.getElem_range, List.getElem_replicate]
    exact ⟨_, _, rfl, rfl, by unfold okI blk0; simp, (h.rows i hi).bytes4⟩
  · refine ⟨?_, fun a ha => ?_, fun a ha => ?_⟩
    · unfold List.Nodup
      refine List.pairwise_append.2 ⟨nodup_addrs rfl, List.pairwise_flatten.2 ⟨fun l hl => ?_, ?_⟩, fun a ha b hb e => ?_⟩
      · obtain ⟨i, _, rfl⟩ := List.mem_map.1 hl
        exact nodup_addrs rfl
      · refine List.pairwise_map.2 (List.pairwise_lt_range.imp fun {i j} hij a ha b hb e => ?_)
        subst e
        have := addrs_block ha; have := addrs_block hb; omega
      · subst e
        obtain ⟨l, hl, hm⟩ := List.mem_flatten.1 hb
        obtain ⟨i, _, rfl⟩ := List.mem_map.1 hl
        have := addrs_block ha; have := addrs_block hm; omega
    · rcases List.mem_append.1 ha with ha | ha
      · rw [addrs_block ha]; exact hl
      · obtain ⟨l, hl2, hm⟩ := List.mem_flatten.1 ha
        obtain ⟨i, _, rfl⟩ := List.mem_map.1 hl2
        rw [addrs_block hm]; omega
    · rcases List.mem_append.1 ha with ha | ha
      · obtain ⟨q, _, rfl⟩ := mem_addrs.1 ha
        rw [addNew]; exact hk.frozen q
      · obtain ⟨l, hl2, hm⟩ := List.mem_flatten.1 ha
        obtain ⟨i, hi, rfl⟩ := List.mem_map.1 hl2
        obtain ⟨q, _, rfl⟩ := mem_addrs.1 hm
        rw [addNew]; exact (h.rows i (List.mem_range.1 hi)).frozen q

set_option maxHeartbeats 1000000 in
theorem implBlank_c (n : Nat) (w : World) (hn : n ≤ 6) :
    Calls Try.prog 27 #[.int .i64 (n : Int)] w fun e w' => ∃ A c fs, e = .returned (.slice A n c) ∧ rSl 2 rBlock w' fs (.slice A n c) (List.replicate n blk0) ∧ Mine w.heap.size w' fs ∧ Below w.heap.size w w' := by
  have hmk := run_make_wide Try.prog 56 68 (.agg #[.int .i64 0, .slice none 0 0]) 2 32 Try.underlying56 Try.infoBlock n (by omega) (by omega)
  go_enter Try.func27, Try.ntmps27
  go_wp2
  go_loopw [9, 4] (fun i _ wr => ∃ (j : Nat) (cs : Array Value), j ≤ n ∧ i = .int .i64 j ∧ Blk wr w.heap.size 68 cs ∧ Blanks wr w.heap.size n j cs ∧ wr.heap.size = w.heap.size + 1 + j ∧ Below w.heap.size w wr) (fun i _ _ => n - (intOf i).toNat)
  case atStart => exact ⟨0, _, by omega, rfl, Blk.new _ _ _, Blanks.start _ _ _, by simp, (Below.refl _ _).alloc (Nat.le_refl _) _⟩
  case round =>
    obtain ⟨j, cs, hj, rfl, hbk, hdn, hsz, hb⟩ := hrel
    clear hmk
    by_cases hlt : j < n
    · have hmk4 : ∀ w0 : World, (Instr.makeSlice 66 (.int .i64 4) (.int .i64 4)).run Try.prog w0 = .ok (.slice (some ⟨w0.heap.size, 0, none⟩) 4 4) (w0.alloc (.cells #[.int .u8 0, .int .u8 0, .int .u8 0, .int .u8 0] 5)) := fun w0 => by
        have h := run_make_wide Try.prog 66 5 (.int .u8 0) 1 1 Try.underlying66 Try.info5 4 (by omega) (by omega) w0
        rw [show madeCells (Value.int .u8 0).cells (4 * 1) = #[.int .u8 0, .int .u8 0, .int .u8 0, .int .u8 0] from by kernel_rfl] at h
        exact h
      obtain ⟨x1, y1⟩ := hdn.has (j * 2 + 1) (by omega)
      have q1 := (Blk.cell hbk (j * 2 + 1)).trans y1
      have t1 := Blk.frozen hbk (j * 2 + 1)
      have z1 := hbk.lt
      have HB := Lib.hid hb; have HD := Lib.hid hdn; have HK := Lib.hid hbk; have HS := Lib.hid hsz
      clear hb hdn hbk hsz y1
      go_wp2_with fail
      go_roundw
      case rel =>
        have hnew := Blk.new (wr.setCell ⟨w.heap.size, j * 2 + 1, none⟩ (.slice (some ⟨wr.heap.size, 0, none⟩) 4 4)) 5 #[.int .u8 0, .int .u8 0, .int .u8 0, .int .u8 0]
        rw [show (wr.setCell ⟨w.heap.size, j * 2 + 1, none⟩ (.slice (some ⟨wr.heap.size, 0, none⟩) 4 4)).heap.size = w.heap.size + 1 + j from by simp [World.setCell, HS.out]] at hnew
        have hst := Blanks.step HD.out hlt (fun i _ h => Blk.alloc (Blk.far h (p := ⟨w.heap.size, j * 2 + 1, none⟩) (by simp; omega) (.slice (some ⟨wr.heap.size, 0, none⟩) 4 4)) (.cells #[.int .u8 0, .int .u8 0, .int .u8 0, .int .u8 0] 5)) hnew
        rw [← HS.out] at hst
        refine ⟨j + 1, _, by omega, by go_num, Blk.alloc (Blk.set_ HK.out _ _) _, hst, ?_, ?_⟩
        · have := HS.out
          simp [World.setCell]
          omega
        · exact ((HB.out.setCell (Nat.le_refl _) _).alloc (by have := HB.out.size; simpa [World.setCell] using this) _)
      case measure => simp [intOf]; omega
    · obtain rfl : j = n := by omega
      have HB := Lib.hid hb; have HD := Lib.hid hdn; have HK := Lib.hid hbk
      clear hb hdn hbk hsz
      go_wp2_with fail
      go_ret
      obtain ⟨fs, h1, h2⟩ := HD.out.reads HK.out (by omega) (Nat.le_refl _)
      exact ⟨_, _, fs, rfl, h1, h2, HB.out⟩

end Go.Proofs.Ytabainoplkpppaa
