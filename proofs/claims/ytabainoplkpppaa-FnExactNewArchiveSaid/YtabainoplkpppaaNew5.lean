/-
  NewDesk on both sides.
-/
import Derived.Test.YtabainoplkpppaaNew4
namespace Go.Proofs.Ytabainoplkpppaa
open Go.RowKit Go.Sort

def newK (G : Nat) : DeskD := ⟨List.replicate G [], [], [], 0, 1⟩

theorem madeNil_get (n i : Nat) (h : i < n) : (madeCells #[.slice none 0 0] n)[i]? = some (.slice none 0 0) := by
  simp only [madeCells, Array.getElem?_map, Array.getElem?_range]
  rw [if_pos h]
  simp [Nat.mod_one]
theorem Blk.queues {w : World} {g n : Nat} {t : TypeId} (h : Blk w g t (madeCells #[.slice none 0 0] n)) (hn : n ≤ 1000) : rSl 1 (rSlice 4 rTicket) w (addrs ⟨g, 0, none⟩ n) (.slice (some ⟨g, 0, none⟩) n n) (List.replicate n []) := by
  have hz : rSl 4 rTicket w [] (.slice none 0 0) [] := ⟨none, 0, rfl, Nat.le_refl _, by omega, .inl ⟨rfl, rfl⟩⟩
  have := rSl.ofRow (w := w) (g := g) (k := 1) (R := rSlice 4 rTicket) (n := n) (ds := List.replicate n []) (List.replicate n [.slice none 0 0]) (List.replicate n []) (by simp) (by omega) (by simp) (by simp) (fun i hi => by
    simp only [List.getElem_replicate]
    refine ⟨rfl, fun q hq => ?_, ⟨_, rfl, hz⟩⟩
    obtain rfl : q = 0 := by simp at hq; omega
    rw [h.cell, madeNil_get _ _ (by omega)]
    rfl)
  have e : (List.replicate n ([] : List Addr)).flatten = [] := by rw [List.flatten_eq_nil_iff]; intro l hl; exact List.eq_of_mem_replicate hl
  rw [e, List.append_nil, Nat.mul_one] at this
  exact this

set_option maxHeartbeats 2000000 in
set_option maxRecDepth 100000 in
theorem implNewDesk_c (s : Sh) (G D N : Nat) (hs : Sized s G D N) (hok : shB s = true) (w : World) :
    Calls Try.prog 14 #[shV s] w fun e w' => ∃ A0 c0 fs, e = .returned (.agg #[.int .i64 0, .slice A0 G c0, .slice none 0 0, .slice none 0 0, .int .i64 0, .int .i64 1]) ∧ rDesk w' fs [.slice A0 G c0, .slice none 0 0, .slice none 0 0, .int .i64 0, .int .i64 1] (newK G) ∧ Mine w.heap.size w' fs ∧ Below w.heap.size w w' := by
  have HS := Lib.hid hs; clear hs
  have hG6 := HS.out.G_le
  have hmk := fun w0 => run_make_wide Try.prog 30 31 (.slice none 0 0) 1 24 Try.underlying30 Try.infoTickets G (by omega) (by omega) w0
  unfold shV
  go_enter Try.func14, Try.ntmps14
  go_wp2_with (first | (refine wpList_load_mid rfl 24 (.tmp 1) rfl w.heap.size 0 rfl [.int .i64 s.groups, .int .i64 s.column, .int .i64 s.data, .int .i64 s.spare, .int .i64 s.rows, .int .i64 s.cap, .int .i64 s.batch, .int .i64 s.queue, .int .i64 s.stage] _ HR.out Try.underlying24 rfl (by kernel_rfl) ?_) | (refine wpList_store_mid rfl 49 (.tmp 2) (.tmp 14) rfl (w.heap.size + 1) 0 #[.int .i64 0, .slice (some ⟨w2.heap.size, 0, none⟩) G G, .slice none 0 0, .slice none 0 0, .int .i64 0, .int .i64 1] rfl rfl (World.there_alloc HTH.out _) (by kernel_rfl) (by simp [Value.oneCell']) ?_) | (go_at_call 24; refine (implShapeFault_c s _).mono ?_; rintro e w1 ⟨rfl, hb1⟩; rw [shCode_yes hok]; have KS := Lib.hid (((Blk.new w 24 #[.int .i64 s.groups, .int .i64 s.column, .int .i64 s.data, .int .i64 s.spare, .int .i64 s.rows, .int .i64 s.cap, .int .i64 s.batch, .int .i64 s.queue, .int .i64 s.stage]).alloc (.cells #[.int .i64 0, .slice none 0 0, .slice none 0 0, .slice none 0 0, .int .i64 0, .int .i64 0] 49)).below hb1 (by simp; omega)); have KR := Lib.hid (show Blk w1 (w.heap.size + 1) 49 #[.int .i64 0, .slice none 0 0, .slice none 0 0, .slice none 0 0, .int .i64 0, .int .i64 0] from by have h := (Blk.new (w.alloc (.cells #[.int .i64 s.groups, .int .i64 s.column, .int .i64 s.data, .int .i64 s.spare, .int .i64 s.rows, .int .i64 s.cap, .int .i64 s.batch, .int .i64 s.queue, .int .i64 s.stage] 24)) 49 #[.int .i64 0, .slice none 0 0, .slice none 0 0, .slice none 0 0, .int .i64 0, .int .i64 0]).below hb1 (by simp); rwa [World.size_alloc] at h); have hb0 := ((Below.refl w.heap.size w).alloc (Nat.le_refl _) (.cells #[.int .i64 s.groups, .int .i64 s.column, .int .i64 s.data, .int .i64 s.spare, .int .i64 s.rows, .int .i64 s.cap, .int .i64 s.batch, .int .i64 s.queue, .int .i64 s.stage] 24)).alloc (by simp) (.cells #[.int .i64 0, .slice none 0 0, .slice none 0 0, .slice none 0 0, .int .i64 0, .int .i64 0] 49); have B1 := Lib.hid (hb0.trans (hb1.mono (by simp; omega))); have HR := Lib.hid (Blk.range KS.out 0 [.int .i64 s.groups, .int .i64 s.column, .int .i64 s.data, .int .i64 s.spare, .int .i64 s.rows, .int .i64 s.cap, .int .i64 s.batch, .int .i64 s.queue, .int .i64 s.stage] rfl); have HTH := Lib.hid (Blk.there KR.out 6 (by simp)); clear hb0 hb1) | (go_at_call 25; refine (shapeAll_c s HS.out.ok _).mono ?_; rintro e w2 ⟨rfl, hb2⟩; rw [HS.out.all]; have zR := KR.out.lt; have k := KR.out.below hb2 zR; have b := B1.out.trans (hb2.mono B1.out.size); clear HR KR B1 HTH KS; have KR := Lib.hid k; have B1 := Lib.hid b; have HTH := Lib.hid (Blk.there KR.out 6 (by simp)); clear k b hb2))
  have hq : (Value.slice none 0 0).cells = #[.slice none 0 0] := rfl
  have kN := Blk.new w2 31 (madeCells #[.slice none 0 0] G)
  have K1 := (KR.out.alloc (.cells (madeCells #[.slice none 0 0] G) 31)).laid [.int .i64 0, .slice (some ⟨w2.heap.size, 0, none⟩) G G, .slice none 0 0, .slice none 0 0, .int .i64 0, .int .i64 1] rfl
  refine bodyPost_ret (results_cell_row rfl _ _ (w.heap.size + 1) 49 #[.int .i64 0, .slice (some ⟨w2.heap.size, 0, none⟩) G G, .slice none 0 0, .slice none 0 0, .int .i64 0, .int .i64 1] (0, 0) _ rfl K1 Try.underlying49 rfl (by kernel_rfl)) rfl ?_
  have zR2 := KR.out.lt
  have kN1 := Blk.farS [.int .i64 0, .slice (some ⟨w2.heap.size, 0, none⟩) G G, .slice none 0 0, .slice none 0 0, .int .i64 0, .int .i64 1] (w.heap.size + 1) 0 _ (by omega) kN
  have hq := kN1.queues (by omega)
  refine ⟨some ⟨w2.heap.size, 0, none⟩, G, addrs ⟨w2.heap.size, 0, none⟩ G ++ ([] ++ []), rfl, ⟨_, _, _, _, [], [], rfl, rfl, by unfold okI newK; simp, by unfold okI newK; simp, hq, ⟨none, 0, rfl, Nat.le_refl _, by omega, .inl ⟨rfl, rfl⟩⟩, ⟨none, 0, rfl, Nat.le_refl _, by omega, .inl ⟨rfl, rfl⟩⟩⟩, ⟨?_, fun a ha => ?_, fun a ha => ?_⟩, Below.setCells_ _ _ _ _ (by omega) (B1.out.alloc B1.out.size _)⟩
  · simp only [List.append_nil]; exact nodup_addrs rfl
  · simp only [List.append_nil] at ha
    rw [addrs_block ha]; exact B1.out.size
  · simp only [List.append_nil] at ha
    obtain ⟨q, _, rfl⟩ := mem_addrs.1 ha
    rw [addNew]; exact kN1.frozen q

set_option maxHeartbeats 2000000 in
set_option maxRecDepth 100000 in
theorem specNewDesk_c (s : Sh) (G D N : Nat) (hs : Sized s G D N) (hok : shB s = true) (w : World) :
    Calls Try.prog 12 #[shV s] w fun e w' => ∃ A0 c0 fs, e = .returned (.agg #[.int .i64 0, .slice A0 G c0, .slice none 0 0, .slice none 0 0, .int .i64 0, .int .i64 1]) ∧ rDesk w' fs [.slice A0 G c0, .slice none 0 0, .slice none 0 0, .int .i64 0, .int .i64 1] (newK G) ∧ Mine w.heap.size w' fs ∧ Below w.heap.size w w' := by
  have HS := Lib.hid hs; clear hs
  have hG6 := HS.out.G_le
  have hmk := fun w0 => run_make_wide Try.prog 30 31 (.slice none 0 0) 1 24 Try.underlying30 Try.infoTickets G (by omega) (by omega) w0
  unfold shV
  go_enter Try.func12, Try.ntmps12
  go_wp2_with (first | (refine wpList_load_mid rfl 24 (.tmp 1) rfl w.heap.size 0 rfl [.int .i64 s.groups, .int .i64 s.column, .int .i64 s.data, .int .i64 s.spare, .int .i64 s.rows, .int .i64 s.cap, .int .i64 s.batch, .int .i64 s.queue, .int .i64 s.stage] _ HR.out Try.underlying24 rfl (by kernel_rfl) ?_) | (refine wpList_store_mid rfl 49 (.tmp 2) (.tmp 14) rfl (w.heap.size + 1) 0 #[.int .i64 0, .slice (some ⟨w2.heap.size, 0, none⟩) G G, .slice none 0 0, .slice none 0 0, .int .i64 0, .int .i64 1] rfl rfl (World.there_alloc HTH.out _) (by kernel_rfl) (by simp [Value.oneCell']) ?_) | (go_at_call 10; refine (specShapeFault_c s _).mono ?_; rintro e w1 ⟨rfl, hb1⟩; rw [shCode_yes hok]; have KS := Lib.hid (((Blk.new w 24 #[.int .i64 s.groups, .int .i64 s.column, .int .i64 s.data, .int .i64 s.spare, .int .i64 s.rows, .int .i64 s.cap, .int .i64 s.batch, .int .i64 s.queue, .int .i64 s.stage]).alloc (.cells #[.int .i64 0, .slice none 0 0, .slice none 0 0, .slice none 0 0, .int .i64 0, .int .i64 0] 49)).below hb1 (by simp; omega)); have KR := Lib.hid (show Blk w1 (w.heap.size + 1) 49 #[.int .i64 0, .slice none 0 0, .slice none 0 0, .slice none 0 0, .int .i64 0, .int .i64 0] from by have h := (Blk.new (w.alloc (.cells #[.int .i64 s.groups, .int .i64 s.column, .int .i64 s.data, .int .i64 s.spare, .int .i64 s.rows, .int .i64 s.cap, .int .i64 s.batch, .int .i64 s.queue, .int .i64 s.stage] 24)) 49 #[.int .i64 0, .slice none 0 0, .slice none 0 0, .slice none 0 0, .int .i64 0, .int .i64 0]).below hb1 (by simp); rwa [World.size_alloc] at h); have hb0 := ((Below.refl w.heap.size w).alloc (Nat.le_refl _) (.cells #[.int .i64 s.groups, .int .i64 s.column, .int .i64 s.data, .int .i64 s.spare, .int .i64 s.rows, .int .i64 s.cap, .int .i64 s.batch, .int .i64 s.queue, .int .i64 s.stage] 24)).alloc (by simp) (.cells #[.int .i64 0, .slice none 0 0, .slice none 0 0, .slice none 0 0, .int .i64 0, .int .i64 0] 49); have B1 := Lib.hid (hb0.trans (hb1.mono (by simp; omega))); have HR := Lib.hid (Blk.range KS.out 0 [.int .i64 s.groups, .int .i64 s.column, .int .i64 s.data, .int .i64 s.spare, .int .i64 s.rows, .int .i64 s.cap, .int .i64 s.batch, .int .i64 s.queue, .int .i64 s.stage] rfl); have HTH := Lib.hid (Blk.there KR.out 6 (by simp)); clear hb0 hb1) | (go_at_call 21; refine (l5All_c s HS.out.ok _).mono ?_; rintro e w2 ⟨rfl, hb2⟩; rw [HS.out.all]; have zR := KR.out.lt; have k := KR.out.below hb2 zR; have b := B1.out.trans (hb2.mono B1.out.size); clear HR KR B1 HTH KS; have KR := Lib.hid k; have B1 := Lib.hid b; have HTH := Lib.hid (Blk.there KR.out 6 (by simp)); clear k b hb2))
  have hq : (Value.slice none 0 0).cells = #[.slice none 0 0] := rfl
  have kN := Blk.new w2 31 (madeCells #[.slice none 0 0] G)
  have K1 := (KR.out.alloc (.cells (madeCells #[.slice none 0 0] G) 31)).laid [.int .i64 0, .slice (some ⟨w2.heap.size, 0, none⟩) G G, .slice none 0 0, .slice none 0 0, .int .i64 0, .int .i64 1] rfl
  refine bodyPost_ret (results_cell_row rfl _ _ (w.heap.size + 1) 49 #[.int .i64 0, .slice (some ⟨w2.heap.size, 0, none⟩) G G, .slice none 0 0, .slice none 0 0, .int .i64 0, .int .i64 1] (0, 0) _ rfl K1 Try.underlying49 rfl (by kernel_rfl)) rfl ?_
  have zR2 := KR.out.lt
  have kN1 := Blk.farS [.int .i64 0, .slice (some ⟨w2.heap.size, 0, none⟩) G G, .slice none 0 0, .slice none 0 0, .int .i64 0, .int .i64 1] (w.heap.size + 1) 0 _ (by omega) kN
  have hq := kN1.queues (by omega)
  refine ⟨some ⟨w2.heap.size, 0, none⟩, G, addrs ⟨w2.heap.size, 0, none⟩ G ++ ([] ++ []), rfl, ⟨_, _, _, _, [], [], rfl, rfl, by unfold okI newK; simp, by unfold okI newK; simp, hq, ⟨none, 0, rfl, Nat.le_refl _, by omega, .inl ⟨rfl, rfl⟩⟩, ⟨none, 0, rfl, Nat.le_refl _, by omega, .inl ⟨rfl, rfl⟩⟩⟩, ⟨?_, fun a ha => ?_, fun a ha => ?_⟩, Below.setCells_ _ _ _ _ (by omega) (B1.out.alloc B1.out.size _)⟩
  · simp only [List.append_nil]; exact nodup_addrs rfl
  · simp only [List.append_nil] at ha
    rw [addrs_block ha]; exact B1.out.size
  · simp only [List.append_nil] at ha
    obtain ⟨q, _, rfl⟩ := mem_addrs.1 ha
    rw [addNew]; exact kN1.frozen q

end Go.Proofs.Ytabainoplkpppaa
