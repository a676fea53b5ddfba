/-
  The laws' marks over an archive and an archive's result (printed by wip/naarch.py).
-/
import Derived.Test.YtabainoplkpppaaMkC
import Derived.Test.YtabainoplkpppaaEqs5
namespace Go.Proofs.Ytabainoplkpppaa
open Go.RowKit Go.Sort

theorem rArchive.of {w : World} {fW fD : List Addr} {cW cD : List Value} {d : ArchiveD} (h : rWorld w fW cW d.world) (g : rDesk w fD cD d.desk) : rArchive w (fW ++ fD) (cW ++ cD) d := by
  obtain ⟨v0, v1, v2, f0, f1, f2, e, ef, o0, o1, o2, o3, o4, o5, o6, o7, o8, o9, o10, h0, h1, h2⟩ := h
  obtain ⟨v3, v4, v5, f3, f4, f5, e2, ef2, p0, p1, h3, h4, h5⟩ := g
  subst e ef e2 ef2
  exact ⟨v0, v1, v2, v3, v4, v5, f0, f1, f2, f3, f4, f5, rfl, by simp [List.append_assoc], o0, o1, o2, o3, o4, o5, o6, o7, o8, o9, o10, p0, p1, h0, h1, h2, h3, h4, h5⟩

theorem rArchive.open_ {w : World} {fs : List Addr} {cs : List Value} {d : ArchiveD} (h : rArchive w fs cs d) : ∃ fW fD cW cD, fs = fW ++ fD ∧ cs = cW ++ cD ∧ rWorld w fW cW d.world ∧ rDesk w fD cD d.desk := by
  obtain ⟨v0, v1, v2, v3, v4, v5, f0, f1, f2, f3, f4, f5, e, ef, o0, o1, o2, o3, o4, o5, o6, o7, o8, o9, o10, p0, p1, h0, h1, h2, h3, h4, h5⟩ := h
  subst e ef
  exact ⟨f0 ++ (f1 ++ f2), f3 ++ (f4 ++ f5), _, _, by simp [List.append_assoc], rfl, ⟨v0, v1, v2, f0, f1, f2, rfl, rfl, o0, o1, o2, o3, o4, o5, o6, o7, o8, o9, o10, h0, h1, h2⟩, ⟨v3, v4, v5, f3, f4, f5, rfl, rfl, p0, p1, h3, h4, h5⟩⟩

theorem rArchiveResult.of {w : World} {fs : List Addr} {cs : List Value} {d : ArchiveResultD} (h : rArchive w fs cs d.archive) (h1 : okI d.code) (h2 : okI d.id) : rArchiveResult w fs (.int .i64 d.code :: .int .i64 d.id :: cs) d := by
  obtain ⟨v0, v1, v2, v3, v4, v5, f0, f1, f2, f3, f4, f5, e, ef, o0, o1, o2, o3, o4, o5, o6, o7, o8, o9, o10, o11, o12, g0, g1, g2, g3, g4, g5⟩ := h
  subst e ef
  exact ⟨v0, v1, v2, v3, v4, v5, f0, f1, f2, f3, f4, f5, rfl, rfl, h1, h2, o0, o1, o2, o3, o4, o5, o6, o7, o8, o9, o10, o11, o12, g0, g1, g2, g3, g4, g5⟩

theorem rArchiveResult.open_ {w : World} {fs : List Addr} {cs : List Value} {d : ArchiveResultD} (h : rArchiveResult w fs cs d) : ∃ ca, cs = .int .i64 d.code :: .int .i64 d.id :: ca ∧ okI d.code ∧ okI d.id ∧ rArchive w fs ca d.archive := by
  obtain ⟨v0, v1, v2, v3, v4, v5, f0, f1, f2, f3, f4, f5, e, ef, h1, h2, o0, o1, o2, o3, o4, o5, o6, o7, o8, o9, o10, o11, o12, g0, g1, g2, g3, g4, g5⟩ := h
  subst e ef
  exact ⟨_, rfl, h1, h2, ⟨v0, v1, v2, v3, v4, v5, f0, f1, f2, f3, f4, f5, rfl, rfl, o0, o1, o2, o3, o4, o5, o6, o7, o8, o9, o10, o11, o12, g0, g1, g2, g3, g4, g5⟩⟩

def numArchive (d : ArchiveD) : Nat := numWorld d.world + numDesk d.desk
def oneArchive (k : Nat) (d : ArchiveD) : ArchiveD := ⟨oneWorld k d.world, oneDesk (k + numWorld d.world) d.desk⟩
/-- What a new archive is like: no tape holds a record, nothing waits. -/
structure Young (d : ArchiveD) : Prop where
  groups : d.world.groups.length ≤ 1000000000
  tapes : ∀ t, t ∈ d.world.tapes → t.recs = []
  queues : d.desk.queues.length ≤ 1000000000
  none : ∀ t, t ∈ d.desk.queues → t = []
  aside : d.desk.aside = []
  answers : d.desk.answers = []

set_option maxHeartbeats 2000000 in
set_option maxRecDepth 100000 in
theorem markArchive_c (d : ArchiveD) (cs : List Value) (fs : List Addr) (w : World) (k lo : Nat) (h1 : rArchive w fs cs d) (hm : Mine lo w fs) (hk : 0 < k) (hk0 : k + numArchive d ≤ 1000000000) (hy : Young d) :
    Calls Try.prog 16 #[.agg cs.toArray, .int .i64 (k : Int)] w fun e w' => e = .returned (.int .i64 ((k + numArchive d : Nat) : Int)) ∧ Wrote fs w w' ∧ rArchive w' fs cs (oneArchive k d) := by
  obtain ⟨fW, fD, cW, cD, efs, ecs, rW, rD⟩ := h1.open_
  subst efs ecs
  clear h1
  have TW := Lib.hid (rWorld.fixed _ _ _ _ rW); have TD := Lib.hid (rDesk.fixed _ _ _ _ rD)
  have MW := Lib.hid hm.left; have MD := Lib.hid hm.right; have DD := Lib.hid hm.apart; clear hm
  have RW := Lib.hid rW; have RD := Lib.hid rD
  obtain ⟨v0, v1, v2, f0, f1, f2, eW, -, -, -, -, -, -, -, -, -, -, -, -, h0, h1, h2⟩ := rW
  obtain ⟨v3, v4, v5, f3, f4, f5, eD, -, -, -, h3, h4, h5⟩ := rD
  subst eW eD
  obtain ⟨A0, c0, rfl, -⟩ := rSl.head h0
  obtain ⟨A1, c1, rfl, -⟩ := rSl.head h1
  obtain ⟨A2, c2, rfl, -⟩ := rSl.head h2
  obtain ⟨A3, c3, rfl, -⟩ := rSl.head h3
  obtain ⟨A4, c4, rfl, -⟩ := rSl.head h4
  obtain ⟨A5, c5, rfl, -⟩ := rSl.head h5
  clear h0 h1 h2 h3 h4 h5
  obtain ⟨n0, hn0⟩ : ∃ n0 : Nat, numWorld d.world = n0 := ⟨_, rfl⟩
  obtain ⟨n1, hn1⟩ : ∃ n1 : Nat, numDesk d.desk = n1 := ⟨_, rfl⟩
  have hnw : numArchive d = n0 + n1 := by unfold numArchive; rw [hn0, hn1]
  rw [hnw] at hk0 ⊢
  clear hnw
  have N0 := Lib.hid hn0; have N1 := Lib.hid hn1; clear hn0 hn1
  have HBX := Lib.hid ((Below.refl w.heap.size w).alloc (Nat.le_refl _) (.cells #[.int .i64 d.world.shape.groups, .int .i64 d.world.shape.column, .int .i64 d.world.shape.data, .int .i64 d.world.shape.spare, .int .i64 d.world.shape.rows, .int .i64 d.world.shape.cap, .int .i64 d.world.shape.batch, .int .i64 d.world.shape.queue, .int .i64 d.world.shape.stage, .slice A0 d.world.groups.length c0, .slice A1 d.world.on.length c1, .slice A2 d.world.tapes.length c2, .int .i64 d.world.writes, .int .i64 d.world.stop, .bool d.world.down, .slice A3 d.desk.queues.length c3, .slice A4 d.desk.aside.length c4, .slice A5 d.desk.answers.length c5, .int .i64 d.desk.turn, .int .i64 d.desk.next] 36))
  have HR := Lib.hid (Blk.range (Blk.new w 36 #[.int .i64 d.world.shape.groups, .int .i64 d.world.shape.column, .int .i64 d.world.shape.data, .int .i64 d.world.shape.spare, .int .i64 d.world.shape.rows, .int .i64 d.world.shape.cap, .int .i64 d.world.shape.batch, .int .i64 d.world.shape.queue, .int .i64 d.world.shape.stage, .slice A0 d.world.groups.length c0, .slice A1 d.world.on.length c1, .slice A2 d.world.tapes.length c2, .int .i64 d.world.writes, .int .i64 d.world.stop, .bool d.world.down, .slice A3 d.desk.queues.length c3, .slice A4 d.desk.aside.length c4, .slice A5 d.desk.answers.length c5, .int .i64 d.desk.turn, .int .i64 d.desk.next]) 0 [.int .i64 d.world.shape.groups, .int .i64 d.world.shape.column, .int .i64 d.world.shape.data, .int .i64 d.world.shape.spare, .int .i64 d.world.shape.rows, .int .i64 d.world.shape.cap, .int .i64 d.world.shape.batch, .int .i64 d.world.shape.queue, .int .i64 d.world.shape.stage, .slice A0 d.world.groups.length c0, .slice A1 d.world.on.length c1, .slice A2 d.world.tapes.length c2, .int .i64 d.world.writes, .int .i64 d.world.stop, .bool d.world.down] rfl)
  have YY := Lib.hid hy; clear hy
  dsimp only [List.cons_append, List.nil_append]
  go_enter Try.func16, Try.ntmps16
  go_wp2_with (refine wpList_load_mid rfl 29 (.tmp 5) rfl w.heap.size 0 rfl [.int .i64 d.world.shape.groups, .int .i64 d.world.shape.column, .int .i64 d.world.shape.data, .int .i64 d.world.shape.spare, .int .i64 d.world.shape.rows, .int .i64 d.world.shape.cap, .int .i64 d.world.shape.batch, .int .i64 d.world.shape.queue, .int .i64 d.world.shape.stage, .slice A0 d.world.groups.length c0, .slice A1 d.world.on.length c1, .slice A2 d.world.tapes.length c2, .int .i64 d.world.writes, .int .i64 d.world.stop, .bool d.world.down] _ HR.out Try.underlying29 rfl (by kernel_rfl) ?_)
  refine (markWorld_c d.world _ fW _ k lo (Repr.below rWorld.local_ rWorld.fixed RW.out HBX.out) (MW.out.below HBX.out TW.out) hk (by rw [N0.out]; omega) YY.out.groups YY.out.tapes).mono ?_
  rintro e w1 ⟨rfl, hw, hr⟩
  rw [N0.out]
  have WF := Lib.hid ((Wrote.of_below (fs := fW) HBX.out).trans hw)
  have hK := Blk.wrote (Blk.new w 36 #[.int .i64 d.world.shape.groups, .int .i64 d.world.shape.column, .int .i64 d.world.shape.data, .int .i64 d.world.shape.spare, .int .i64 d.world.shape.rows, .int .i64 d.world.shape.cap, .int .i64 d.world.shape.batch, .int .i64 d.world.shape.queue, .int .i64 d.world.shape.stage, .slice A0 d.world.groups.length c0, .slice A1 d.world.on.length c1, .slice A2 d.world.tapes.length c2, .int .i64 d.world.writes, .int .i64 d.world.stop, .bool d.world.down, .slice A3 d.desk.queues.length c3, .slice A4 d.desk.aside.length c4, .slice A5 d.desk.answers.length c5, .int .i64 d.desk.turn, .int .i64 d.desk.next]) hw (fun a ha e => by have := TW.out a ha; omega)
  have p15 := Blk.cell hK 15; have p16 := Blk.cell hK 16; have p17 := Blk.cell hK 17; have p18 := Blk.cell hK 18; have p19 := Blk.cell hK 19
  simp only [List.getElem?_toArray, List.getElem?_cons_zero, List.getElem?_cons_succ] at p15 p16 p17 p18 p19
  clear hK HR
  have R0 := Lib.hid hr; clear hr hw
  go_wp2_with fail
  refine (markDesk_c d.desk _ fD _ (k + n0) lo (rDesk.local_ _ _ _ _ _ RD.out (WF.out.same TD.out (fun a ha hb => DD.out a hb ha))) (MD.out.wrote WF.out TD.out) (by omega) (by rw [N1.out]; omega) YY.out.queues YY.out.none YY.out.aside YY.out.answers).mono ?_
  rintro e w2 ⟨rfl, hw, hr⟩
  rw [N1.out]
  have WF2 := Lib.hid ((WF.out.mono (gs := fW ++ fD) (fun a ha => List.mem_append_left _ ha)).trans (hw.mono (fun a ha => List.mem_append_right _ ha)))
  have R1 := Lib.hid (rWorld.local_ _ _ _ _ _ R0.out (hw.same (fun a ha => Nat.lt_of_lt_of_le (TW.out a ha) WF.out.size) (fun a ha hb => DD.out a ha hb)))
  have R2 := Lib.hid hr
  clear hr hw p15 p16 p17 p18 p19
  go_wp2_with fail
  go_ret
  refine ⟨retInt (by omega), WF2.out, ?_⟩
  refine rArchive.of (cW := [.int .i64 d.world.shape.groups, .int .i64 d.world.shape.column, .int .i64 d.world.shape.data, .int .i64 d.world.shape.spare, .int .i64 d.world.shape.rows, .int .i64 d.world.shape.cap, .int .i64 d.world.shape.batch, .int .i64 d.world.shape.queue, .int .i64 d.world.shape.stage, .slice A0 d.world.groups.length c0, .slice A1 d.world.on.length c1, .slice A2 d.world.tapes.length c2, .int .i64 d.world.writes, .int .i64 d.world.stop, .bool d.world.down]) (cD := [.slice A3 d.desk.queues.length c3, .slice A4 d.desk.aside.length c4, .slice A5 d.desk.answers.length c5, .int .i64 d.desk.turn, .int .i64 d.desk.next]) R1.out ?_
  have := R2.out
  rw [← N0.out] at this
  exact this

set_option maxHeartbeats 2000000 in
set_option maxRecDepth 100000 in
theorem heldArchive_c (d : ArchiveD) (cs : List Value) (fs : List Addr) (w : World) (k : Nat) (h1 : rArchive w fs cs (oneArchive k d)) (hk : 0 < k) (hk0 : k + numArchive d ≤ 1000000000) (hy : Young d) :
    Calls Try.prog 17 #[.agg cs.toArray, .int .i64 (k : Int)] w fun e w' => e = .returned (.int .i64 ((k + numArchive d : Nat) : Int)) ∧ Below w.heap.size w w' := by
  obtain ⟨fW, fD, cW, cD, efs, ecs, rW, rD⟩ := h1.open_
  subst efs ecs
  clear h1
  have RW := Lib.hid rW; have RD := Lib.hid rD
  obtain ⟨v0, v1, v2, f0, f1, f2, eW, -, -, -, -, -, -, -, -, -, -, -, -, h0, h1, h2⟩ := rW
  obtain ⟨v3, v4, v5, f3, f4, f5, eD, -, -, -, h3, h4, h5⟩ := rD
  subst eW eD
  obtain ⟨A0, c0, e, -⟩ := rSl.head h0; simp only [oneArchive, oneWorld, oneDesk, markSeq_length] at e; subst e
  obtain ⟨A1, c1, e, -⟩ := rSl.head h1; simp only [oneArchive, oneWorld, oneDesk, length_mkI] at e; subst e
  obtain ⟨A2, c2, e, -⟩ := rSl.head h2; simp only [oneArchive, oneWorld, oneDesk, markSeq_length] at e; subst e
  obtain ⟨A3, c3, e, -⟩ := rSl.head h3; simp only [oneArchive, oneWorld, oneDesk, markSeq_length] at e; subst e
  obtain ⟨A4, c4, e, -⟩ := rSl.head h4; simp only [oneArchive, oneWorld, oneDesk, markSeq_length] at e; subst e
  obtain ⟨A5, c5, e, -⟩ := rSl.head h5; simp only [oneArchive, oneWorld, oneDesk, markSeq_length] at e; subst e
  clear h0 h1 h2 h3 h4 h5
  obtain ⟨n0, hn0⟩ : ∃ n0 : Nat, numWorld d.world = n0 := ⟨_, rfl⟩
  obtain ⟨n1, hn1⟩ : ∃ n1 : Nat, numDesk d.desk = n1 := ⟨_, rfl⟩
  have hnw : numArchive d = n0 + n1 := by unfold numArchive; rw [hn0, hn1]
  rw [hnw] at hk0 ⊢
  clear hnw
  have N0 := Lib.hid hn0; have N1 := Lib.hid hn1; clear hn0 hn1
  have HBX := Lib.hid ((Below.refl w.heap.size w).alloc (Nat.le_refl _) (.cells #[.int .i64 d.world.shape.groups, .int .i64 d.world.shape.column, .int .i64 d.world.shape.data, .int .i64 d.world.shape.spare, .int .i64 d.world.shape.rows, .int .i64 d.world.shape.cap, .int .i64 d.world.shape.batch, .int .i64 d.world.shape.queue, .int .i64 d.world.shape.stage, .slice A0 d.world.groups.length c0, .slice A1 d.world.on.length c1, .slice A2 d.world.tapes.length c2, .int .i64 d.world.writes, .int .i64 d.world.stop, .bool d.world.down, .slice A3 d.desk.queues.length c3, .slice A4 d.desk.aside.length c4, .slice A5 d.desk.answers.length c5, .int .i64 d.desk.turn, .int .i64 d.desk.next] 36))
  have HR := Lib.hid (Blk.range (Blk.new w 36 #[.int .i64 d.world.shape.groups, .int .i64 d.world.shape.column, .int .i64 d.world.shape.data, .int .i64 d.world.shape.spare, .int .i64 d.world.shape.rows, .int .i64 d.world.shape.cap, .int .i64 d.world.shape.batch, .int .i64 d.world.shape.queue, .int .i64 d.world.shape.stage, .slice A0 d.world.groups.length c0, .slice A1 d.world.on.length c1, .slice A2 d.world.tapes.length c2, .int .i64 d.world.writes, .int .i64 d.world.stop, .bool d.world.down, .slice A3 d.desk.queues.length c3, .slice A4 d.desk.aside.length c4, .slice A5 d.desk.answers.length c5, .int .i64 d.desk.turn, .int .i64 d.desk.next]) 0 [.int .i64 d.world.shape.groups, .int .i64 d.world.shape.column, .int .i64 d.world.shape.data, .int .i64 d.world.shape.spare, .int .i64 d.world.shape.rows, .int .i64 d.world.shape.cap, .int .i64 d.world.shape.batch, .int .i64 d.world.shape.queue, .int .i64 d.world.shape.stage, .slice A0 d.world.groups.length c0, .slice A1 d.world.on.length c1, .slice A2 d.world.tapes.length c2, .int .i64 d.world.writes, .int .i64 d.world.stop, .bool d.world.down] rfl)
  have YY := Lib.hid hy; clear hy
  simp only [oneArchive, oneWorld, oneDesk]
  dsimp only [List.cons_append, List.nil_append]
  go_enter Try.func17, Try.ntmps17
  go_wp2_with (refine wpList_load_mid rfl 29 (.tmp 5) rfl w.heap.size 0 rfl [.int .i64 d.world.shape.groups, .int .i64 d.world.shape.column, .int .i64 d.world.shape.data, .int .i64 d.world.shape.spare, .int .i64 d.world.shape.rows, .int .i64 d.world.shape.cap, .int .i64 d.world.shape.batch, .int .i64 d.world.shape.queue, .int .i64 d.world.shape.stage, .slice A0 d.world.groups.length c0, .slice A1 d.world.on.length c1, .slice A2 d.world.tapes.length c2, .int .i64 d.world.writes, .int .i64 d.world.stop, .bool d.world.down] _ HR.out Try.underlying29 rfl (by kernel_rfl) ?_)
  refine (heldWorld_c d.world _ fW _ k (Repr.below rWorld.local_ rWorld.fixed RW.out HBX.out) hk (by rw [N0.out]; omega) YY.out.groups YY.out.tapes).mono ?_
  rintro e w1 ⟨rfl, hb⟩
  rw [N0.out]
  have hK := Blk.below (Blk.new w 36 #[.int .i64 d.world.shape.groups, .int .i64 d.world.shape.column, .int .i64 d.world.shape.data, .int .i64 d.world.shape.spare, .int .i64 d.world.shape.rows, .int .i64 d.world.shape.cap, .int .i64 d.world.shape.batch, .int .i64 d.world.shape.queue, .int .i64 d.world.shape.stage, .slice A0 d.world.groups.length c0, .slice A1 d.world.on.length c1, .slice A2 d.world.tapes.length c2, .int .i64 d.world.writes, .int .i64 d.world.stop, .bool d.world.down, .slice A3 d.desk.queues.length c3, .slice A4 d.desk.aside.length c4, .slice A5 d.desk.answers.length c5, .int .i64 d.desk.turn, .int .i64 d.desk.next]) hb (by simp)
  have p15 := Blk.cell hK 15; have p16 := Blk.cell hK 16; have p17 := Blk.cell hK 17; have p18 := Blk.cell hK 18; have p19 := Blk.cell hK 19
  simp only [List.getElem?_toArray, List.getElem?_cons_zero, List.getElem?_cons_succ] at p15 p16 p17 p18 p19
  clear hK HR
  have HB := Lib.hid (HBX.out.trans (hb.mono HBX.out.size)); clear hb
  have hnn : ¬ ((k + n0 : Nat) : Int) < 0 := by omega
  go_wp2_with fail
  have rr := Repr.below rDesk.local_ rDesk.fixed RD.out HB.out
  simp only [oneArchive, N0.out] at rr
  refine (heldDesk_c d.desk _ fD _ (k + n0) rr (by omega) (by rw [N1.out]; omega) YY.out.queues YY.out.none YY.out.aside YY.out.answers).mono ?_
  rintro e w2 ⟨rfl, hb⟩
  rw [N1.out]
  replace HB := Lib.hid (HB.out.trans (hb.mono HB.out.size)); clear hb rr p15 p16 p17 p18 p19
  have hnn : ¬ ((k + n0 + n1 : Nat) : Int) < 0 := by omega
  go_wp2_with fail
  go_ret
  exact ⟨retInt (by omega), HB.out⟩

set_option maxHeartbeats 2000000 in
set_option maxRecDepth 100000 in
theorem markArchiveResult_c (d : ArchiveResultD) (cs : List Value) (fs : List Addr) (w : World) (k lo : Nat) (h1 : rArchiveResult w fs cs d) (hm : Mine lo w fs) (hk : 0 < k) (hk0 : k + numArchive d.archive ≤ 1000000000) (hy : Young d.archive) :
    Calls Try.prog 8 #[.agg cs.toArray, .int .i64 (k : Int)] w fun e w' => e = .returned (.int .i64 ((k + numArchive d.archive : Nat) : Int)) ∧ Wrote fs w w' ∧ rArchiveResult w' fs cs { d with archive := oneArchive k d.archive } := by
  obtain ⟨ca, ecs, q1, q2, rA⟩ := h1.open_
  subst ecs
  clear h1
  have TA := Lib.hid (rArchive.fixed _ _ _ _ rA)
  have MA := Lib.hid hm; clear hm
  have RA := Lib.hid rA
  obtain ⟨v0, v1, v2, v3, v4, v5, f0, f1, f2, f3, f4, f5, eA, -, -, -, -, -, -, -, -, -, -, -, -, -, -, h0, h1, h2, h3, h4, h5⟩ := rA
  subst eA
  obtain ⟨A0, c0, rfl, -⟩ := rSl.head h0
  obtain ⟨A1, c1, rfl, -⟩ := rSl.head h1
  obtain ⟨A2, c2, rfl, -⟩ := rSl.head h2
  obtain ⟨A3, c3, rfl, -⟩ := rSl.head h3
  obtain ⟨A4, c4, rfl, -⟩ := rSl.head h4
  obtain ⟨A5, c5, rfl, -⟩ := rSl.head h5
  clear h0 h1 h2 h3 h4 h5
  obtain ⟨n0, hn0⟩ : ∃ n0 : Nat, numArchive d.archive = n0 := ⟨_, rfl⟩
  rw [hn0] at hk0 ⊢
  have N0 := Lib.hid hn0; clear hn0
  have HBX := Lib.hid ((Below.refl w.heap.size w).alloc (Nat.le_refl _) (.cells #[.int .i64 d.code, .int .i64 d.id, .int .i64 d.archive.world.shape.groups, .int .i64 d.archive.world.shape.column, .int .i64 d.archive.world.shape.data, .int .i64 d.archive.world.shape.spare, .int .i64 d.archive.world.shape.rows, .int .i64 d.archive.world.shape.cap, .int .i64 d.archive.world.shape.batch, .int .i64 d.archive.world.shape.queue, .int .i64 d.archive.world.shape.stage, .slice A0 d.archive.world.groups.length c0, .slice A1 d.archive.world.on.length c1, .slice A2 d.archive.world.tapes.length c2, .int .i64 d.archive.world.writes, .int .i64 d.archive.world.stop, .bool d.archive.world.down, .slice A3 d.archive.desk.queues.length c3, .slice A4 d.archive.desk.aside.length c4, .slice A5 d.archive.desk.answers.length c5, .int .i64 d.archive.desk.turn, .int .i64 d.archive.desk.next] 38))
  have HR := Lib.hid (Blk.range (Blk.new w 38 #[.int .i64 d.code, .int .i64 d.id, .int .i64 d.archive.world.shape.groups, .int .i64 d.archive.world.shape.column, .int .i64 d.archive.world.shape.data, .int .i64 d.archive.world.shape.spare, .int .i64 d.archive.world.shape.rows, .int .i64 d.archive.world.shape.cap, .int .i64 d.archive.world.shape.batch, .int .i64 d.archive.world.shape.queue, .int .i64 d.archive.world.shape.stage, .slice A0 d.archive.world.groups.length c0, .slice A1 d.archive.world.on.length c1, .slice A2 d.archive.world.tapes.length c2, .int .i64 d.archive.world.writes, .int .i64 d.archive.world.stop, .bool d.archive.world.down, .slice A3 d.archive.desk.queues.length c3, .slice A4 d.archive.desk.aside.length c4, .slice A5 d.archive.desk.answers.length c5, .int .i64 d.archive.desk.turn, .int .i64 d.archive.desk.next]) 2 [.int .i64 d.archive.world.shape.groups, .int .i64 d.archive.world.shape.column, .int .i64 d.archive.world.shape.data, .int .i64 d.archive.world.shape.spare, .int .i64 d.archive.world.shape.rows, .int .i64 d.archive.world.shape.cap, .int .i64 d.archive.world.shape.batch, .int .i64 d.archive.world.shape.queue, .int .i64 d.archive.world.shape.stage, .slice A0 d.archive.world.groups.length c0, .slice A1 d.archive.world.on.length c1, .slice A2 d.archive.world.tapes.length c2, .int .i64 d.archive.world.writes, .int .i64 d.archive.world.stop, .bool d.archive.world.down, .slice A3 d.archive.desk.queues.length c3, .slice A4 d.archive.desk.aside.length c4, .slice A5 d.archive.desk.answers.length c5, .int .i64 d.archive.desk.turn, .int .i64 d.archive.desk.next] rfl)
  have YY := Lib.hid hy; clear hy
  go_enter Try.func8, Try.ntmps8
  go_wp2_with (refine wpList_load_mid rfl 36 (.tmp 5) rfl w.heap.size 2 rfl [.int .i64 d.archive.world.shape.groups, .int .i64 d.archive.world.shape.column, .int .i64 d.archive.world.shape.data, .int .i64 d.archive.world.shape.spare, .int .i64 d.archive.world.shape.rows, .int .i64 d.archive.world.shape.cap, .int .i64 d.archive.world.shape.batch, .int .i64 d.archive.world.shape.queue, .int .i64 d.archive.world.shape.stage, .slice A0 d.archive.world.groups.length c0, .slice A1 d.archive.world.on.length c1, .slice A2 d.archive.world.tapes.length c2, .int .i64 d.archive.world.writes, .int .i64 d.archive.world.stop, .bool d.archive.world.down, .slice A3 d.archive.desk.queues.length c3, .slice A4 d.archive.desk.aside.length c4, .slice A5 d.archive.desk.answers.length c5, .int .i64 d.archive.desk.turn, .int .i64 d.archive.desk.next] _ HR.out Try.underlying36 rfl (by kernel_rfl) ?_)
  refine (markArchive_c d.archive _ fs _ k lo (Repr.below rArchive.local_ rArchive.fixed RA.out HBX.out) (MA.out.below HBX.out TA.out) hk (by rw [N0.out]; omega) YY.out).mono ?_
  rintro e w1 ⟨rfl, hw, hr⟩
  rw [N0.out]
  have WF := Lib.hid ((Wrote.of_below (fs := fs) HBX.out).trans hw)
  have R0 := Lib.hid hr; clear hr hw
  go_wp2_with fail
  go_ret
  exact ⟨rfl, WF.out, rArchiveResult.of (d := ⟨d.code, d.id, oneArchive k d.archive⟩) R0.out q1 q2⟩

set_option maxHeartbeats 2000000 in
set_option maxRecDepth 100000 in
theorem heldArchiveResult_c (d : ArchiveResultD) (cs : List Value) (fs : List Addr) (w : World) (k : Nat) (h1 : rArchiveResult w fs cs { d with archive := oneArchive k d.archive }) (hk : 0 < k) (hk0 : k + numArchive d.archive ≤ 1000000000) (hy : Young d.archive) :
    Calls Try.prog 9 #[.agg cs.toArray, .int .i64 (k : Int)] w fun e w' => e = .returned (.int .i64 ((k + numArchive d.archive : Nat) : Int)) ∧ Below w.heap.size w w' := by
  obtain ⟨ca, ecs, q1, q2, rA⟩ := h1.open_
  subst ecs
  clear h1
  dsimp only at rA ⊢
  have RA := Lib.hid rA
  obtain ⟨v0, v1, v2, v3, v4, v5, f0, f1, f2, f3, f4, f5, eA, -, -, -, -, -, -, -, -, -, -, -, -, -, -, h0, h1, h2, h3, h4, h5⟩ := rA
  subst eA
  obtain ⟨A0, c0, e, -⟩ := rSl.head h0; simp only [oneArchive, oneWorld, oneDesk, markSeq_length] at e; subst e
  obtain ⟨A1, c1, e, -⟩ := rSl.head h1; simp only [oneArchive, oneWorld, oneDesk, length_mkI] at e; subst e
  obtain ⟨A2, c2, e, -⟩ := rSl.head h2; simp only [oneArchive, oneWorld, oneDesk, markSeq_length] at e; subst e
  obtain ⟨A3, c3, e, -⟩ := rSl.head h3; simp only [oneArchive, oneWorld, oneDesk, markSeq_length] at e; subst e
  obtain ⟨A4, c4, e, -⟩ := rSl.head h4; simp only [oneArchive, oneWorld, oneDesk, markSeq_length] at e; subst e
  obtain ⟨A5, c5, e, -⟩ := rSl.head h5; simp only [oneArchive, oneWorld, oneDesk, markSeq_length] at e; subst e
  clear h0 h1 h2 h3 h4 h5
  obtain ⟨n0, hn0⟩ : ∃ n0 : Nat, numArchive d.archive = n0 := ⟨_, rfl⟩
  rw [hn0] at hk0 ⊢
  have N0 := Lib.hid hn0; clear hn0
  have HBX := Lib.hid ((Below.refl w.heap.size w).alloc (Nat.le_refl _) (.cells #[.int .i64 d.code, .int .i64 d.id, .int .i64 d.archive.world.shape.groups, .int .i64 d.archive.world.shape.column, .int .i64 d.archive.world.shape.data, .int .i64 d.archive.world.shape.spare, .int .i64 d.archive.world.shape.rows, .int .i64 d.archive.world.shape.cap, .int .i64 d.archive.world.shape.batch, .int .i64 d.archive.world.shape.queue, .int .i64 d.archive.world.shape.stage, .slice A0 d.archive.world.groups.length c0, .slice A1 d.archive.world.on.length c1, .slice A2 d.archive.world.tapes.length c2, .int .i64 d.archive.world.writes, .int .i64 d.archive.world.stop, .bool d.archive.world.down, .slice A3 d.archive.desk.queues.length c3, .slice A4 d.archive.desk.aside.length c4, .slice A5 d.archive.desk.answers.length c5, .int .i64 d.archive.desk.turn, .int .i64 d.archive.desk.next] 38))
  have HR := Lib.hid (Blk.range (Blk.new w 38 #[.int .i64 d.code, .int .i64 d.id, .int .i64 d.archive.world.shape.groups, .int .i64 d.archive.world.shape.column, .int .i64 d.archive.world.shape.data, .int .i64 d.archive.world.shape.spare, .int .i64 d.archive.world.shape.rows, .int .i64 d.archive.world.shape.cap, .int .i64 d.archive.world.shape.batch, .int .i64 d.archive.world.shape.queue, .int .i64 d.archive.world.shape.stage, .slice A0 d.archive.world.groups.length c0, .slice A1 d.archive.world.on.length c1, .slice A2 d.archive.world.tapes.length c2, .int .i64 d.archive.world.writes, .int .i64 d.archive.world.stop, .bool d.archive.world.down, .slice A3 d.archive.desk.queues.length c3, .slice A4 d.archive.desk.aside.length c4, .slice A5 d.archive.desk.answers.length c5, .int .i64 d.archive.desk.turn, .int .i64 d.archive.desk.next]) 2 [.int .i64 d.archive.world.shape.groups, .int .i64 d.archive.world.shape.column, .int .i64 d.archive.world.shape.data, .int .i64 d.archive.world.shape.spare, .int .i64 d.archive.world.shape.rows, .int .i64 d.archive.world.shape.cap, .int .i64 d.archive.world.shape.batch, .int .i64 d.archive.world.shape.queue, .int .i64 d.archive.world.shape.stage, .slice A0 d.archive.world.groups.length c0, .slice A1 d.archive.world.on.length c1, .slice A2 d.archive.world.tapes.length c2, .int .i64 d.archive.world.writes, .int .i64 d.archive.world.stop, .bool d.archive.world.down, .slice A3 d.archive.desk.queues.length c3, .slice A4 d.archive.desk.aside.length c4, .slice A5 d.archive.desk.answers.length c5, .int .i64 d.archive.desk.turn, .int .i64 d.archive.desk.next] rfl)
  have YY := Lib.hid hy; clear hy
  simp only [oneArchive, oneWorld, oneDesk]
  go_enter Try.func9, Try.ntmps9
  go_wp2_with (refine wpList_load_mid rfl 36 (.tmp 5) rfl w.heap.size 2 rfl [.int .i64 d.archive.world.shape.groups, .int .i64 d.archive.world.shape.column, .int .i64 d.archive.world.shape.data, .int .i64 d.archive.world.shape.spare, .int .i64 d.archive.world.shape.rows, .int .i64 d.archive.world.shape.cap, .int .i64 d.archive.world.shape.batch, .int .i64 d.archive.world.shape.queue, .int .i64 d.archive.world.shape.stage, .slice A0 d.archive.world.groups.length c0, .slice A1 d.archive.world.on.length c1, .slice A2 d.archive.world.tapes.length c2, .int .i64 d.archive.world.writes, .int .i64 d.archive.world.stop, .bool d.archive.world.down, .slice A3 d.archive.desk.queues.length c3, .slice A4 d.archive.desk.aside.length c4, .slice A5 d.archive.desk.answers.length c5, .int .i64 d.archive.desk.turn, .int .i64 d.archive.desk.next] _ HR.out Try.underlying36 rfl (by kernel_rfl) ?_)
  refine (heldArchive_c d.archive _ fs _ k (Repr.below rArchive.local_ rArchive.fixed RA.out HBX.out) hk (by rw [N0.out]; omega) YY.out).mono ?_
  rintro e w1 ⟨rfl, hb⟩
  rw [N0.out]
  have HB := Lib.hid (HBX.out.trans (hb.mono HBX.out.size)); clear hb
  have hnn : ¬ ((k + n0 : Nat) : Int) < 0 := by omega
  go_wp2_with fail
  go_ret
  exact ⟨rfl, HB.out⟩

end Go.Proofs.Ytabainoplkpppaa
