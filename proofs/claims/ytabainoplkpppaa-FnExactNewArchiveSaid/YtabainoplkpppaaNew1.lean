/-
  A blank block and a fresh drive of the reference; how many drives.
-/
import Derived.Test.YtabainoplkpppaaNew0
import Derived.Deep.RegionLaw
namespace Go.Proofs.Ytabainoplkpppaa
open Go.RowKit Go.Sort

theorem Blk.drew_ {w : World} {g : Nat} {t : TypeId} {cs : Array Value} (h : Blk w g t cs) : Blk w.drew g t cs := h
theorem OwnL.alloc_ {α : Type} {k : Nat} {E : TypeId} {R : Repr α} (hR : Local R) (hF : Fixed R) {w : World} {base : Nat} {v : Value} {ds : List α} {fs : List Addr} {o : Obj} (h : OwnL k E R w base v ds fs) : OwnL k E R (w.alloc o) base v ds fs := h.below hR hF ((Below.refl _ _).alloc (Nat.le_refl _) _)
theorem OwnL.drew_ {α : Type} {k : Nat} {E : TypeId} {R : Repr α} (hR : Local R) {w : World} {base : Nat} {v : Value} {ds : List α} {fs : List Addr} (h : OwnL k E R w base v ds fs) : OwnL k E R w.drew base v ds fs := h.keep hR (fun _ _ => rfl) (fun _ _ => rfl)
theorem belowAlloc {w W : World} (h : Below w.heap.size w W) (o : Obj) : Below w.heap.size w (W.alloc o) := h.alloc h.size o
theorem belowDrew {w W : World} (h : Below w.heap.size w W) : Below w.heap.size w W.drew := ⟨h.os, h.tape, h.output, h.size, h.block⟩
theorem undrew2 {w W : World} (h : Below w.drew.heap.size w.drew W) : Below w.heap.size w W := ⟨h.os, h.tape, h.output, h.size, h.block⟩

set_option maxHeartbeats 400000 in
theorem l5Drives_c (s : Sh) (h : s.Ok) (w : World) :
    Calls Try.prog 22 #[shV s] w fun e w' => e = .returned (.int .i64 (s.data + s.spare)) ∧ Below w.heap.size w w' := by
  obtain ⟨a1, a2⟩ := h.data
  obtain ⟨b1, b2⟩ := h.spare
  unfold shV
  go_enter Try.func22, Try.ntmps22
  go_wp2
  go_ret
  exact ⟨rfl, (Below.refl _ _).alloc (Nat.le_refl _) _⟩
set_option maxHeartbeats 400000 in
theorem shapeDrives_c (s : Sh) (h : s.Ok) (w : World) :
    Calls Try.prog 26 #[shV s] w fun e w' => e = .returned (.int .i64 (s.data + s.spare)) ∧ Below w.heap.size w w' := by
  obtain ⟨a1, a2⟩ := h.data
  obtain ⟨b1, b2⟩ := h.spare
  unfold shV
  go_enter Try.func26, Try.ntmps26
  go_wp2
  go_ret
  exact ⟨rfl, (Below.refl _ _).alloc (Nat.le_refl _) _⟩

theorem Try.make4 (w0 : World) : (Instr.makeSlice 66 (.int .i64 4) (.int .i64 4)).run Try.prog w0 = .ok (.slice (some ⟨w0.heap.size, 0, none⟩) 4 4) (w0.alloc (.cells #[.int .u8 0, .int .u8 0, .int .u8 0, .int .u8 0] 5)) := by
  have h := run_make_wide Try.prog 66 5 (.int .u8 0) 1 1 Try.underlying66 Try.info5 4 (by omega) (by omega) w0
  rw [show madeCells (Value.int .u8 0).cells (4 * 1) = #[.int .u8 0, .int .u8 0, .int .u8 0, .int .u8 0] from by kernel_rfl] at h
  exact h

set_option maxHeartbeats 1000000 in
theorem l5Blank_c (w : World) :
    Calls Try.prog 34 #[] w fun e w' => ∃ g f, e = .returned (.agg #[.int .i64 0, .slice (some ⟨g, 0, none⟩) 4 4]) ∧ rBlock w' f [.int .i64 0, .slice (some ⟨g, 0, none⟩) 4 4] blk0 ∧ Mine w.heap.size w' f ∧ Below w.heap.size w w' := by
  have hmk4 := Try.make4
  go_enter Try.func34, Try.ntmps34
  go_wp2
  have K1 := Blk.alloc (Blk.new w 68 #[.int .i64 0, .slice (some ⟨w.heap.size + 1, 0, none⟩) 4 4]) (.cells #[.int .u8 0, .int .u8 0, .int .u8 0, .int .u8 0] 5)
  have K2 := Blk.new (w.alloc (.cells #[.int .i64 0, .slice (some ⟨w.heap.size + 1, 0, none⟩) 4 4] 68)) 5 #[.int .u8 0, .int .u8 0, .int .u8 0, .int .u8 0]
  rw [World.size_alloc] at K2
  refine bodyPost_ret (results_cell_row rfl _ _ w.heap.size 68 #[.int .i64 0, .slice (some ⟨w.heap.size + 1, 0, none⟩) 4 4] (0, 0) _ rfl K1 Try.underlying68 rfl (by kernel_rfl)) rfl ?_
  refine ⟨_, _, rfl, ⟨_, _, rfl, rfl, by unfold okI blk0; simp, K2.bytes4⟩, ⟨nodup_addrs rfl, fun a ha => ?_, fun a ha => ?_⟩, ((Below.refl _ _).alloc (Nat.le_refl _) _).alloc (by simp) _⟩
  · rw [addrs_block ha]; omega
  · obtain ⟨q, _, rfl⟩ := mem_addrs.1 ha
    rw [addNew]; exact K2.frozen q

theorem OwnL.far_ {α : Type} {k : Nat} {E : TypeId} {R : Repr α} (hR : Local R) {w : World} {base : Nat} {v : Value} {ds : List α} {fs : List Addr} (h : OwnL k E R w base v ds fs) (hm : Mine base w fs) {p : Addr} (hp : p.block < base) (u : Value) : OwnL k E R (w.setCell p u) base v ds fs :=
  h.keep hR (fun b hb => Below.heap_setCell w p u b (by have := (h.lt b hb).1; omega)) (fun a ha => World.cell?_setCell_other _ _ _ _ (fun e => by have := hm.from_ a ha; rw [← e] at this; omega))
theorem Mine.appended {α : Type} {k : Nat} {E : TypeId} {R : Repr α} (hF : Fixed R) {wr W w8 : World} {base : Nat} {v : Value} {ds : List α} {fs f h : List Addr} (ho : OwnL k E R wr base v ds fs) (hm : Mine base wr fs) (hW : Below wr.heap.size wr W) (hf : Mine wr.heap.size W f) (hft : There f W) (s : h.Sublist f) (r : W.grownBy w8 v.ownBlock) (hbase : base ≤ wr.heap.size) : Mine base w8 (fs ++ h) := by
  have ht := ho.there hF
  refine ⟨?_, fun a ha => ?_, fun a ha => ?_⟩
  · unfold List.Nodup
    refine List.pairwise_append.2 ⟨hm.nodup, s.nodup hf.nodup, fun a ha b hb e => ?_⟩
    subst e
    have := ht a ha
    have := hf.from_ a (s.subset hb)
    omega
  · rcases List.mem_append.1 ha with ha | ha
    · exact hm.from_ a ha
    · exact Nat.le_trans hbase (hf.from_ a (s.subset ha))
  · rcases List.mem_append.1 ha with ha | ha
    · rw [World.frozen?_of_block (r.block a.block (Nat.lt_of_lt_of_le (ht a ha) hW.size) (fun e => ho.far a ha e.symm)), hW.frozen (ht a ha)]
      exact hm.free a ha
    · have ha2 := s.subset ha
      rw [World.frozen?_of_block (r.block a.block (hft a ha2) (fun e => by have := (ho.lt _ e.symm).2; have := hf.from_ a ha2; omega))]
      exact hf.free a ha2
theorem repl_snoc {α : Type} (j : Nat) (d : α) : List.replicate j d ++ [d] = List.replicate (j + 1) d := (List.replicate_succ').symm

/-- append of one element whose block was made after the world wr: row, memory and what stays. -/
theorem appendStep {α : Type} {k : Nat} {E : TypeId} {R : Repr α} {P : Program} (t ty : TypeId) (z : Value) (bytes : Nat) (ht : P.underlying t = some (.slice E)) (hi : (P.info? E).map (fun i => (i.zero, i.size, i.bytes)) = some (some z, k, bytes)) (hzs : z.cells.size = k) (hk : 0 < k)
    (hR : Local R) (hF : Fixed R) (hO : ∀ w f cs d, R w f cs d → ∀ u, u ∈ cs → u.oneCell' = true) (hb : bytes ≤ 1000) {wr w2 W : World} {base : Nat} {v : Value} {ds : List α} {fs : List Addr} (ho : OwnL k E R wr base v ds fs) (hm : Mine base wr fs) (hbase : base ≤ wr.heap.size) (hn : ds.length + 1 ≤ 1000000000)
    {us : List Value} {f : List Addr} {d : α} {b : Nat} (B2 : Below wr.heap.size wr w2) (hr : R w2 f us d) (hf : Mine wr.heap.size w2 f) (hus : us.length = k) (B5 : Below w2.heap.size w2 W) (hblk : Blk W b E us.toArray) :
    ∃ v' w', (Builtin.append_ #[t, t] ty #[v, .slice (some ⟨b, 0, none⟩) 1 1]).run P W = .ok v' w' ∧ ∃ A c h, v' = .slice A (ds.length + 1) c ∧ OwnL k E R w' base v' (ds ++ [d]) (fs ++ h) ∧ Mine base w' (fs ++ h) ∧ Below base wr w' ∧ wr.heap.size ≤ w'.heap.size := by
  have BW : Below wr.heap.size wr W := B2.trans (B5.mono B2.size)
  have ho2 : OwnL k E R W base v ds fs := ho.below hR hF BW
  have hr2 : R W f us d := Repr.below hR hF hr B5
  have hf2 : Mine wr.heap.size W f := hf.below B5 (hF _ _ _ _ hr)
  obtain ⟨v', w', q1, h, q2, q3, q4, -⟩ := OwnL.appendOne (P := P) t ty z bytes ht hi hzs hk hR hF hO base v ds fs ho2 b us f d hus hblk hr2 (fun a ha e => by
    have := (ho.lt _ e).2
    have := hf.from_ a ha
    omega) hn hb (Nat.le_trans hbase BW.size)
  obtain ⟨A, c, e, -⟩ := q2.length
  exact ⟨v', w', q1, A, c, h, by rw [e]; simp, q2, Mine.appended hF ho hm BW hf2 (hF _ _ _ _ hr2) q3 q4 hbase, Below.grown (BW.mono hbase) q4 (Nat.le_trans hbase BW.size) (fun k hk => (ho.lt k hk).1), Nat.le_trans BW.size q4.size⟩

set_option maxHeartbeats 2000000 in
set_option maxRecDepth 100000 in
theorem l5Fresh_c (s : Sh) (n : Nat) (hr : s.rows = n) (hn : n ≤ 6) (w : World) :
    Calls Try.prog 23 #[shV s] w fun e w' => ∃ A c fs, e = .returned (.agg #[.bool false, .slice A n c]) ∧ rSl 2 rBlock w' fs (.slice A n c) (List.replicate n blk0) ∧ Mine w.heap.size w' fs ∧ Below w.heap.size w w' := by
  unfold shV
  rw [hr]
  go_enter Try.func23, Try.ntmps23
  go_wp2_with fail
  go_loopw [4] (fun i wr => ∃ (j : Nat) (A : Option Addr) (c : Nat) (fs : List Addr), j ≤ n ∧ i = .int .i64 j ∧ wr.cell? ⟨w.heap.size, 4, none⟩ = some (.int .i64 (n : Int)) ∧ Blk wr (w.heap.size + 1) 58 #[.bool false, .slice none 0 0] ∧ Blk wr (w.heap.size + 1 + 1) 58 #[.bool false, .slice A j c] ∧ OwnL 2 68 rBlock wr (w.heap.size + 3) (.slice A j c) (List.replicate j blk0) fs ∧ Mine (w.heap.size + 3) wr fs ∧ Below w.heap.size w wr) (fun i _ => n - (intOf i).toNat)
  case atStart =>
    refine ⟨0, none, 0, [], by omega, rfl, ?_, ?_, ?_, OwnL.start ⟨rfl, .inl ⟨rfl, rfl⟩⟩, ⟨List.nodup_nil, (fun a ha => by cases ha), (fun a ha => by cases ha)⟩, ?_⟩
    · exact (((Blk.new w 24 #[.int .i64 s.groups, .int .i64 s.column, .int .i64 s.data, .int .i64 s.spare, .int .i64 n, .int .i64 s.cap, .int .i64 s.batch, .int .i64 s.queue, .int .i64 s.stage]).alloc _).alloc _).cell 4
    · exact Blk.alloc (Blk.new1 _ _ _ _) _
    · exact Blk.new2 _ _ _ _ _
    · exact (((Below.refl _ _).alloc (Nat.le_refl _) _).alloc (by simp) _).alloc (by simp; omega) _
  case round =>
    obtain ⟨j, A, c, fs, hj, rfl, ps, kR, kD, ho, hm, hb⟩ := hrel
    have z1 := kR.lt; have z2 := kD.lt
    have z0 : w.heap.size < wr.heap.size := by omega
    by_cases hlt : j < n
    case neg =>
      obtain rfl : j = n := by omega
      have p0 := kD.cell 0; have p1 := kD.cell 1; have q0 := kR.cell 0; have q1 := kR.cell 1; have t0 := kR.frozen 0; have t1 := kR.frozen 1
      simp only [List.getElem?_toArray, List.getElem?_cons_zero, List.getElem?_cons_succ] at p0 p1 q0 q1
      have HO := Lib.hid ho; have HM := Lib.hid hm; have HB := Lib.hid hb; have KR := Lib.hid kR; have KD := Lib.hid kD
      clear ho hm hb kR kD
      go_wp2_with fail
      have K1 := Blk.set_ (Blk.set_ KR.out 0 (.bool false)) 1 (.slice A j c)
      refine bodyPost_ret (results_cell_row rfl _ _ (w.heap.size + 1) 58 #[.bool false, .slice A j c] (0, 0) _ rfl K1 Try.underlying58 rfl (by kernel_rfl)) rfl ?_
      have o1 := OwnL.far_ rBlock.local_ HO.out HM.out (p := ⟨w.heap.size + 1, 0, none⟩) (by simp) (.bool false)
      have m1 := Mine.set_ HM.out ⟨w.heap.size + 1, 0, none⟩ (.bool false)
      have o2 := OwnL.far_ rBlock.local_ o1 m1 (p := ⟨w.heap.size + 1, 1, none⟩) (by simp) (.slice A j c)
      have m2 := Mine.set_ m1 ⟨w.heap.size + 1, 1, none⟩ (.slice A j c)
      obtain ⟨gs, r1, r2⟩ := o2.readsMine m2
      exact ⟨A, c, gs, rfl, r1, r2.mono (by omega), (HB.out.setCell (by simp) _).setCell (by simp) _⟩
    have p0 := kD.cell 0; have p1 := kD.cell 1; have t0 := kD.frozen 0; have t1 := kD.frozen 1
    simp only [List.getElem?_toArray, List.getElem?_cons_zero, List.getElem?_cons_succ] at p0 p1
    have HO := Lib.hid ho; have HM := Lib.hid hm; have HB := Lib.hid hb; have KR := Lib.hid kR; have KD := Lib.hid kD
    clear ho hm hb kR kD
    go_wp2_with fail
    have z3 : w.heap.size + 3 ≤ wr.heap.size := by omega
    have HKS := Lib.hid (show ∀ W, Below (w.heap.size + 3) wr W → (W.cell? ⟨w.heap.size + 1 + 1, 1, none⟩ = some (.slice A j c) ∧ Below (w.heap.size + 3) wr W) from fun W hW => ⟨((KD.out.below hW (by omega)).cell 1).trans rfl, hW⟩)
    have HA := Lib.hid (show ∀ (w2 W : World) (g b : Nat) (f : List Addr), Below wr.heap.size wr w2 → rBlock w2 f [.int .i64 0, .slice (some ⟨g, 0, none⟩) 4 4] blk0 → Mine wr.heap.size w2 f → Below w2.heap.size w2 W → Blk W b 68 #[.int .i64 0, .slice (some ⟨g, 0, none⟩) 4 4] → ∃ v' w', (Builtin.append_ #[56, 56] 56 #[.slice A j c, .slice (some ⟨b, 0, none⟩) 1 1]).run Try.prog W = .ok v' w' ∧ ∃ A' c' h, v' = .slice A' (j + 1) c' ∧ OwnL 2 68 rBlock w' (w.heap.size + 3) v' (List.replicate (j + 1) blk0) (fs ++ h) ∧ Mine (w.heap.size + 3) w' (fs ++ h) ∧ Below (w.heap.size + 3) wr w' ∧ wr.heap.size ≤ w'.heap.size from fun w2 W g b f B2 hr hf B5 hb => by
      have := appendStep 56 56 (.agg #[.int .i64 0, .slice none 0 0]) 32 Try.underlying56 Try.infoBlock rfl (by decide) rBlock.local_ rBlock.fixed rBlock.ones (by omega) HO.out HM.out z3 (by simp; omega) B2 hr hf rfl B5 hb
      rw [repl_snoc, List.length_replicate] at this
      exact this)
    clear HKS
    go_region_law (first
      | (refine step_append_of rfl (.tmp 13) (.tmp 15) 56 rfl _ _ (by rfl) (by rfl) (HA.out w2 _ g _ f B2 hr2 hm2 (by repeat (with_reducible first | exact Below.refl _ _ | apply belowAlloc | apply belowDrew)) (by repeat (with_reducible first | exact Blk.new _ _ _ | exact Blk.new1 _ _ _ _ | apply Blk.drew_ | apply Blk.alloc))) ?_; rintro v8 w8 ⟨A8, c8, h, rfl, o8, m8, B8, e8⟩; have k8 := KD.out.below B8 (by omega); have p8 : w8.cell? ⟨w.heap.size + 1 + 1, 1, none⟩ = some (.slice A j c) := (k8.cell 1).trans rfl; have f8 := k8.frozen 1; have z8 := Nat.lt_of_lt_of_le z2 e8)
      | (go_simp; go_at_call 34; refine (l5Blank_c _).mono ?_; rintro e w2 ⟨g, f, rfl, hr2, hm2, hb2⟩; dsimp only; have B2 := (show Below wr.heap.size wr w2 by first | exact hb2 | exact undrew2 hb2 | exact undrew2 (undrew2 hb2)); have p2 : w2.cell? ⟨w.heap.size + 1 + 1, 1, none⟩ = some (.slice A j c) := ((KD.out.below B2 z2).cell 1).trans rfl; have zz := Nat.lt_of_lt_of_le z2 B2.size))
    all_goals
      go_wp2_with fail
      go_roundw
      case rel =>
        refine ⟨j + 1, A8, c8, fs ++ h, by omega, by go_num, ?_, Blk.far (KR.out.below B8 (by omega)) (by simp) _, Blk.set_ k8 1 _, OwnL.far_ rBlock.local_ o8 m8 (by simp) _, Mine.set_ m8 _ _, ?_⟩
        · rw [World.cell?_setCell_other _ _ _ _ (by simp), B8.cell (p := ⟨w.heap.size, 4, none⟩) (by simp)]; exact ps
        · exact (HB.out.trans (B8.mono (by omega))).setCell (by simp; omega) _
      case measure => simp [intOf]; omega

end Go.Proofs.Ytabainoplkpppaa
