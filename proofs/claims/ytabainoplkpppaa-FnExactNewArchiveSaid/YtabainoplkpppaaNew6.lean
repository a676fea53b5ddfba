/-
  NewArchive of the program.
-/
import Derived.Test.YtabainoplkpppaaNew5
import Derived.Deep.RegionHeld3
namespace Go.Proofs.Ytabainoplkpppaa
open Go.RowKit Go.Sort

theorem sameS {fs : List Addr} (vs : List Value) (b o : Nat) (w : World) (h : ∀ a, a ∈ fs → a.block ≠ b) : Same fs w (w.setCells b o vs) := fun a ha => World.cell?_setCells_out b vs o w a (fun hb _ => absurd hb (h a ha))

set_option maxHeartbeats 4000000 in
set_option maxRecDepth 100000 in
theorem implNewArchive_c (s : Sh) (G D N : Nat) (hs : Sized s G D N) (hok : shB s = true) (w : World) :
    Calls Try.prog 6 #[shV s] w fun e w' => ∃ A0 c0 A2 c2 A3 c3 fs, e = .returned (.agg #[.int .i64 0, .int .i64 0, .int .i64 s.groups, .int .i64 s.column, .int .i64 s.data, .int .i64 s.spare, .int .i64 s.rows, .int .i64 s.cap, .int .i64 s.batch, .int .i64 s.queue, .int .i64 s.stage, .slice A0 G c0, .slice none 0 0, .slice A2 2 c2, .int .i64 0, .int .i64 (-1), .bool false, .slice A3 G c3, .slice none 0 0, .slice none 0 0, .int .i64 0, .int .i64 1]) ∧
      rArchive w' fs [.int .i64 s.groups, .int .i64 s.column, .int .i64 s.data, .int .i64 s.spare, .int .i64 s.rows, .int .i64 s.cap, .int .i64 s.batch, .int .i64 s.queue, .int .i64 s.stage, .slice A0 G c0, .slice none 0 0, .slice A2 2 c2, .int .i64 0, .int .i64 (-1), .bool false, .slice A3 G c3, .slice none 0 0, .slice none 0 0, .int .i64 0, .int .i64 1] ⟨newW s G D N, newK G⟩ ∧ Mine w.heap.size w' fs ∧ Below w.heap.size w w' := by
  have HS := Lib.hid hs; clear hs
  unfold shV
  go_enter Try.func6, Try.ntmps6
  have HR0 := Lib.hid (Blk.range ((Blk.new w 24 #[.int .i64 s.groups, .int .i64 s.column, .int .i64 s.data, .int .i64 s.spare, .int .i64 s.rows, .int .i64 s.cap, .int .i64 s.batch, .int .i64 s.queue, .int .i64 s.stage]).alloc (.cells #[.int .i64 0, .int .i64 0, .int .i64 0, .int .i64 0, .int .i64 0, .int .i64 0, .int .i64 0, .int .i64 0, .int .i64 0, .int .i64 0, .int .i64 0, .slice none 0 0, .slice none 0 0, .slice none 0 0, .int .i64 0, .int .i64 0, .bool false, .slice none 0 0, .slice none 0 0, .slice none 0 0, .int .i64 0, .int .i64 0] 38)) 0 [.int .i64 s.groups, .int .i64 s.column, .int .i64 s.data, .int .i64 s.spare, .int .i64 s.rows, .int .i64 s.cap, .int .i64 s.batch, .int .i64 s.queue, .int .i64 s.stage] rfl)
  go_upto_region 4 with (first | (refine wpList_load_mid rfl 24 (.tmp 1) rfl w.heap.size 0 rfl [.int .i64 s.groups, .int .i64 s.column, .int .i64 s.data, .int .i64 s.spare, .int .i64 s.rows, .int .i64 s.cap, .int .i64 s.batch, .int .i64 s.queue, .int .i64 s.stage] _ HR0.out Try.underlying24 rfl (by kernel_rfl) ?_) | (go_at_call 13; refine (implNewWorld_c s G D N HS.out hok _).mono ?_; rintro e w1 ⟨A0, c0, A2, c2, f1, rfl, hr1, hm1, hb1⟩; have HR1 := Lib.hid hr1; have HM1 := Lib.hid hm1; have HB1 := Lib.hid hb1; clear hr1 hm1 hb1))
  have KS1 := ((Blk.new w 24 #[.int .i64 s.groups, .int .i64 s.column, .int .i64 s.data, .int .i64 s.spare, .int .i64 s.rows, .int .i64 s.cap, .int .i64 s.batch, .int .i64 s.queue, .int .i64 s.stage]).alloc (.cells #[.int .i64 0, .int .i64 0, .int .i64 0, .int .i64 0, .int .i64 0, .int .i64 0, .int .i64 0, .int .i64 0, .int .i64 0, .int .i64 0, .int .i64 0, .slice none 0 0, .slice none 0 0, .slice none 0 0, .int .i64 0, .int .i64 0, .bool false, .slice none 0 0, .slice none 0 0, .slice none 0 0, .int .i64 0, .int .i64 0] 38)).below HB1.out (by simp; omega)
  have KR1 : Blk w1 (w.heap.size + 1) 38 #[.int .i64 0, .int .i64 0, .int .i64 0, .int .i64 0, .int .i64 0, .int .i64 0, .int .i64 0, .int .i64 0, .int .i64 0, .int .i64 0, .int .i64 0, .slice none 0 0, .slice none 0 0, .slice none 0 0, .int .i64 0, .int .i64 0, .bool false, .slice none 0 0, .slice none 0 0, .slice none 0 0, .int .i64 0, .int .i64 0] := by
    have h := (Blk.new (w.alloc (.cells #[.int .i64 s.groups, .int .i64 s.column, .int .i64 s.data, .int .i64 s.spare, .int .i64 s.rows, .int .i64 s.cap, .int .i64 s.batch, .int .i64 s.queue, .int .i64 s.stage] 24)) 38 #[.int .i64 0, .int .i64 0, .int .i64 0, .int .i64 0, .int .i64 0, .int .i64 0, .int .i64 0, .int .i64 0, .int .i64 0, .int .i64 0, .int .i64 0, .slice none 0 0, .slice none 0 0, .slice none 0 0, .int .i64 0, .int .i64 0, .bool false, .slice none 0 0, .slice none 0 0, .slice none 0 0, .int .i64 0, .int .i64 0]).below HB1.out (by simp)
    rwa [World.size_alloc] at h
  have B1 := (((Below.refl w.heap.size w).alloc (Nat.le_refl _) (.cells #[.int .i64 s.groups, .int .i64 s.column, .int .i64 s.data, .int .i64 s.spare, .int .i64 s.rows, .int .i64 s.cap, .int .i64 s.batch, .int .i64 s.queue, .int .i64 s.stage] 24)).alloc (by simp) (.cells #[.int .i64 0, .int .i64 0, .int .i64 0, .int .i64 0, .int .i64 0, .int .i64 0, .int .i64 0, .int .i64 0, .int .i64 0, .int .i64 0, .int .i64 0, .slice none 0 0, .slice none 0 0, .slice none 0 0, .int .i64 0, .int .i64 0, .bool false, .slice none 0 0, .slice none 0 0, .slice none 0 0, .int .i64 0, .int .i64 0] 38)).trans (HB1.out.mono (by simp; omega))
  have KN0 := Blk.new w1 46 #[.int .i64 0, .int .i64 s.groups, .int .i64 s.column, .int .i64 s.data, .int .i64 s.spare, .int .i64 s.rows, .int .i64 s.cap, .int .i64 s.batch, .int .i64 s.queue, .int .i64 s.stage, .slice A0 G c0, .slice none 0 0, .slice A2 2 c2, .int .i64 0, .int .i64 (-1), .bool false]
  have KS0 := KS1.alloc (.cells #[.int .i64 0, .int .i64 s.groups, .int .i64 s.column, .int .i64 s.data, .int .i64 s.spare, .int .i64 s.rows, .int .i64 s.cap, .int .i64 s.batch, .int .i64 s.queue, .int .i64 s.stage, .slice A0 G c0, .slice none 0 0, .slice A2 2 c2, .int .i64 0, .int .i64 (-1), .bool false] 46)
  have KR0 := KR1.alloc (.cells #[.int .i64 0, .int .i64 s.groups, .int .i64 s.column, .int .i64 s.data, .int .i64 s.spare, .int .i64 s.rows, .int .i64 s.cap, .int .i64 s.batch, .int .i64 s.queue, .int .i64 s.stage, .slice A0 G c0, .slice none 0 0, .slice A2 2 c2, .int .i64 0, .int .i64 (-1), .bool false] 46)
  have B01 := belowAlloc (Below.refl w1.heap.size w1) (.cells #[.int .i64 0, .int .i64 s.groups, .int .i64 s.column, .int .i64 s.data, .int .i64 s.spare, .int .i64 s.rows, .int .i64 s.cap, .int .i64 s.batch, .int .i64 s.queue, .int .i64 s.stage, .slice A0 G c0, .slice none 0 0, .slice A2 2 c2, .int .i64 0, .int .i64 (-1), .bool false] 46)
  have zS := KS1.lt; have zR := KR1.lt
  have TF := Lib.hid (rWorld.fixed _ _ _ _ HR1.out)
  have HR2 := Lib.hid (Repr.below rWorld.local_ rWorld.fixed HR1.out B01)
  have HM2 := Lib.hid (HM1.out.below B01 TF.out)
  have TF2 := Lib.hid (rWorld.fixed _ _ _ _ HR2.out)
  obtain ⟨W0, hW0⟩ : ∃ W0, w1.alloc (.cells #[.int .i64 0, .int .i64 s.groups, .int .i64 s.column, .int .i64 s.data, .int .i64 s.spare, .int .i64 s.rows, .int .i64 s.cap, .int .i64 s.batch, .int .i64 s.queue, .int .i64 s.stage, .slice A0 G c0, .slice none 0 0, .slice A2 2 c2, .int .i64 0, .int .i64 (-1), .bool false] 46) = W0 := ⟨_, rfl⟩
  rw [hW0] at KN0 KS0 KR0 B01 HR2 HM2 TF2 ⊢
  have KN := Lib.hid KN0; have KS := Lib.hid KS0; have KR := Lib.hid KR0; have HBW := Lib.hid (B1.trans (B01.mono B1.size))
  have zW := KN0.lt
  clear hW0 KN0 KS0 KR0 KS1 KR1 B01 HR0 HR1 HM1 HB1 TF B1
  have HSS := Lib.hid (show ∀ W : World, Below W0.heap.size W0 W → (W.rangeAt w1.heap.size 1 [.int .i64 s.groups, .int .i64 s.column, .int .i64 s.data, .int .i64 s.spare, .int .i64 s.rows, .int .i64 s.cap, .int .i64 s.batch, .int .i64 s.queue, .int .i64 s.stage, .slice A0 G c0, .slice none 0 0, .slice A2 2 c2, .int .i64 0, .int .i64 (-1), .bool false] ∧ W.rangeAt w.heap.size 0 [.int .i64 s.groups, .int .i64 s.column, .int .i64 s.data, .int .i64 s.spare, .int .i64 s.rows, .int .i64 s.cap, .int .i64 s.batch, .int .i64 s.queue, .int .i64 s.stage] ∧ W.there (w.heap.size + 1) 0 22) from fun W hW =>
    ⟨Blk.range (KN.out.below hW KN.out.lt) 1 [.int .i64 s.groups, .int .i64 s.column, .int .i64 s.data, .int .i64 s.spare, .int .i64 s.rows, .int .i64 s.cap, .int .i64 s.batch, .int .i64 s.queue, .int .i64 s.stage, .slice A0 G c0, .slice none 0 0, .slice A2 2 c2, .int .i64 0, .int .i64 (-1), .bool false] rfl, Blk.range (KS.out.below hW KS.out.lt) 0 [.int .i64 s.groups, .int .i64 s.column, .int .i64 s.data, .int .i64 s.spare, .int .i64 s.rows, .int .i64 s.cap, .int .i64 s.batch, .int .i64 s.queue, .int .i64 s.stage] rfl, Blk.there (KR.out.below hW KR.out.lt) 22 (by simp)⟩)
  refine wp_region_noPanic ?_
  refine wp_region_held_drew (S := fun w' => w'.rangeAt w1.heap.size 1 [.int .i64 s.groups, .int .i64 s.column, .int .i64 s.data, .int .i64 s.spare, .int .i64 s.rows, .int .i64 s.cap, .int .i64 s.batch, .int .i64 s.queue, .int .i64 s.stage, .slice A0 G c0, .slice none 0 0, .slice A2 2 c2, .int .i64 0, .int .i64 (-1), .bool false] ∧ w'.rangeAt w.heap.size 0 [.int .i64 s.groups, .int .i64 s.column, .int .i64 s.data, .int .i64 s.spare, .int .i64 s.rows, .int .i64 s.cap, .int .i64 s.batch, .int .i64 s.queue, .int .i64 s.stage] ∧ w'.there (w.heap.size + 1) 0 22) (by kernel_rfl) (HSS.out _ (belowDrew (Below.refl _ _))) (fun hHeld => ?_)
  refine wpAnyH_take (i := 0) (oi := _) (v := .pointer (some ⟨w1.heap.size, 1, none⟩)) rfl (by kernel_rfl) (by kernel_rfl) (by kernel_rfl) (fun _ _ _ h => h) (Or.inl ⟨by rfl, by intro w' hSw; clear hSw hHeld; go_simp⟩) (by assumption) ?_
  refine wpAnyH_take (i := 1) (oi := _) (v := _) rfl (by kernel_rfl) (by kernel_rfl) (by kernel_rfl) (fun _ _ _ h => h) (yieldsIf_load_mid (by rfl) 29 (.tmp 12) rfl w1.heap.size 1 rfl [.int .i64 s.groups, .int .i64 s.column, .int .i64 s.data, .int .i64 s.spare, .int .i64 s.rows, .int .i64 s.cap, .int .i64 s.batch, .int .i64 s.queue, .int .i64 s.stage, .slice A0 G c0, .slice none 0 0, .slice A2 2 c2, .int .i64 0, .int .i64 (-1), .bool false] _ (fun _ h => h.1) Try.underlying29 rfl (by kernel_rfl)) (by assumption) ?_
  refine wpAnyH_take (i := 2) (oi := _) (v := _) rfl (by kernel_rfl) (by kernel_rfl) (by kernel_rfl) (fun _ _ _ h => h) (yieldsIf_load_mid (by rfl) 24 (.tmp 1) rfl w.heap.size 0 rfl [.int .i64 s.groups, .int .i64 s.column, .int .i64 s.data, .int .i64 s.spare, .int .i64 s.rows, .int .i64 s.cap, .int .i64 s.batch, .int .i64 s.queue, .int .i64 s.stage] _ (fun _ h => h.2.1) Try.underlying24 rfl (by kernel_rfl)) (by assumption) ?_
  refine wpAnyH_ready (rs := [3]) (by kernel_rfl) (by simp) ?_
  refine AllReadyH.cons rfl (fun K hK => ?_) AllReadyH.nil
  clear hHeld
  go_simp
  go_at_call 14
  refine (implNewDesk_c s G D N HS.out hok _).mono ?_
  rintro e w2 ⟨A3, c3, f2, rfl, hr2, hm2, hb2⟩
  dsimp only
  have hb3 := undrew2 hb2
  have hS2 := HSS.out w2 hb3
  refine hK.out _ _ hS2 (fun _ => ?_)
  clear hK
  refine wpAnyH_take (i := 4) (oi := _) (v := .agg #[.slice A3 G c3, .slice none 0 0, .slice none 0 0, .int .i64 0, .int .i64 1]) rfl (by kernel_rfl) (by kernel_rfl) (by kernel_rfl) (fun _ _ _ h => h) (Or.inl ⟨by rfl, by intro w' hSw; clear hSw; kernel_rfl⟩) (by assumption) ?_
  refine wpAnyH_take (i := 5) (oi := _) (v := .agg #[.int .i64 s.groups, .int .i64 s.column, .int .i64 s.data, .int .i64 s.spare, .int .i64 s.rows, .int .i64 s.cap, .int .i64 s.batch, .int .i64 s.queue, .int .i64 s.stage, .slice A0 G c0, .slice none 0 0, .slice A2 2 c2, .int .i64 0, .int .i64 (-1), .bool false, .slice A3 G c3, .slice none 0 0, .slice none 0 0, .int .i64 0, .int .i64 1]) rfl (by kernel_rfl) (by kernel_rfl) (by kernel_rfl) (fun _ _ _ h => h) (Or.inl ⟨by rfl, by intro w' hSw; clear hSw; kernel_rfl⟩) (by assumption) ?_
  refine wpAnyH_take (i := 6) (oi := _) (v := .agg #[.int .i64 0, .int .i64 0, .int .i64 s.groups, .int .i64 s.column, .int .i64 s.data, .int .i64 s.spare, .int .i64 s.rows, .int .i64 s.cap, .int .i64 s.batch, .int .i64 s.queue, .int .i64 s.stage, .slice A0 G c0, .slice none 0 0, .slice A2 2 c2, .int .i64 0, .int .i64 (-1), .bool false, .slice A3 G c3, .slice none 0 0, .slice none 0 0, .int .i64 0, .int .i64 1]) rfl (by kernel_rfl) (by kernel_rfl) (by kernel_rfl) (fun _ _ _ h => h) (Or.inl ⟨by rfl, by intro w' hSw; clear hSw; kernel_rfl⟩) (by assumption) ?_
  refine wpAnyH_ready (rs := [7]) (by kernel_rfl) (by simp) ?_
  refine AllReadyH.cons rfl (fun K hK => ?_) AllReadyH.nil
  rw [if_pos (by rfl)]
  refine wp_store_mid 38 (.tmp 2) (.tmp 18) rfl (w.heap.size + 1) 0 #[.int .i64 0, .int .i64 0, .int .i64 s.groups, .int .i64 s.column, .int .i64 s.data, .int .i64 s.spare, .int .i64 s.rows, .int .i64 s.cap, .int .i64 s.batch, .int .i64 s.queue, .int .i64 s.stage, .slice A0 G c0, .slice none 0 0, .slice A2 2 c2, .int .i64 0, .int .i64 (-1), .bool false, .slice A3 G c3, .slice none 0 0, .slice none 0 0, .int .i64 0, .int .i64 1] rfl rfl hS2.2.2 (by kernel_rfl) (by simp [Value.oneCell']) ?_
  refine hK.out _ _ ⟨World.rangeAt_setCells_apart hS2.1 _ _ _ (Or.inl (by omega)), World.rangeAt_setCells_apart hS2.2.1 _ _ _ (Or.inl (by omega)), World.there_setCells hS2.2.2 _ _ _⟩ (fun _ => ?_)
  clear hK hS2 HSS
  refine wpAnyH_done (by kernel_rfl) ?_ _
  refine NoPanic.normal ?_
  have HR3 := Lib.hid hr2; have HM3 := Lib.hid hm2; have HB3 := Lib.hid hb3
  clear hr2 hm2 hb2 hb3
  have K1 := (KR.out.below HB3.out (by omega)).laid [.int .i64 0, .int .i64 0, .int .i64 s.groups, .int .i64 s.column, .int .i64 s.data, .int .i64 s.spare, .int .i64 s.rows, .int .i64 s.cap, .int .i64 s.batch, .int .i64 s.queue, .int .i64 s.stage, .slice A0 G c0, .slice none 0 0, .slice A2 2 c2, .int .i64 0, .int .i64 (-1), .bool false, .slice A3 G c3, .slice none 0 0, .slice none 0 0, .int .i64 0, .int .i64 1] rfl
  have HK1 := Lib.hid K1; clear K1
  go_wp2_with fail
  refine bodyPost_ret (results_cell_row rfl _ _ (w.heap.size + 1) 38 #[.int .i64 0, .int .i64 0, .int .i64 s.groups, .int .i64 s.column, .int .i64 s.data, .int .i64 s.spare, .int .i64 s.rows, .int .i64 s.cap, .int .i64 s.batch, .int .i64 s.queue, .int .i64 s.stage, .slice A0 G c0, .slice none 0 0, .slice A2 2 c2, .int .i64 0, .int .i64 (-1), .bool false, .slice A3 G c3, .slice none 0 0, .slice none 0 0, .int .i64 0, .int .i64 1] (0, 0) _ rfl HK1.out Try.underlying38 rfl (by kernel_rfl)) rfl ?_
  have l1 : ∀ a, a ∈ f1 → w.heap.size + 2 ≤ a.block := fun a ha => by have := HM2.out.from_ a ha; simp at this; omega
  have l2 : ∀ a, a ∈ f2 → W0.heap.size ≤ a.block := fun a ha => HM3.out.from_ a ha
  have r1 := rWorld.local_ _ _ _ _ _ (Repr.below rWorld.local_ rWorld.fixed HR2.out HB3.out) (sameS [.int .i64 0, .int .i64 0, .int .i64 s.groups, .int .i64 s.column, .int .i64 s.data, .int .i64 s.spare, .int .i64 s.rows, .int .i64 s.cap, .int .i64 s.batch, .int .i64 s.queue, .int .i64 s.stage, .slice A0 G c0, .slice none 0 0, .slice A2 2 c2, .int .i64 0, .int .i64 (-1), .bool false, .slice A3 G c3, .slice none 0 0, .slice none 0 0, .int .i64 0, .int .i64 1] (w.heap.size + 1) 0 w2 (fun a ha => by have := l1 a ha; omega))
  have r2 := rDesk.local_ _ _ _ _ _ HR3.out (sameS [.int .i64 0, .int .i64 0, .int .i64 s.groups, .int .i64 s.column, .int .i64 s.data, .int .i64 s.spare, .int .i64 s.rows, .int .i64 s.cap, .int .i64 s.batch, .int .i64 s.queue, .int .i64 s.stage, .slice A0 G c0, .slice none 0 0, .slice A2 2 c2, .int .i64 0, .int .i64 (-1), .bool false, .slice A3 G c3, .slice none 0 0, .slice none 0 0, .int .i64 0, .int .i64 1] (w.heap.size + 1) 0 w2 (fun a ha => by have := l2 a ha; omega))
  have m1 := Mine.setS [.int .i64 0, .int .i64 0, .int .i64 s.groups, .int .i64 s.column, .int .i64 s.data, .int .i64 s.spare, .int .i64 s.rows, .int .i64 s.cap, .int .i64 s.batch, .int .i64 s.queue, .int .i64 s.stage, .slice A0 G c0, .slice none 0 0, .slice A2 2 c2, .int .i64 0, .int .i64 (-1), .bool false, .slice A3 G c3, .slice none 0 0, .slice none 0 0, .int .i64 0, .int .i64 1] (w.heap.size + 1) 0 w2 (HM2.out.below HB3.out TF2.out)
  have m2 := Mine.setS [.int .i64 0, .int .i64 0, .int .i64 s.groups, .int .i64 s.column, .int .i64 s.data, .int .i64 s.spare, .int .i64 s.rows, .int .i64 s.cap, .int .i64 s.batch, .int .i64 s.queue, .int .i64 s.stage, .slice A0 G c0, .slice none 0 0, .slice A2 2 c2, .int .i64 0, .int .i64 (-1), .bool false, .slice A3 G c3, .slice none 0 0, .slice none 0 0, .int .i64 0, .int .i64 1] (w.heap.size + 1) 0 w2 HM3.out
  refine ⟨A0, c0, A2, c2, A3, c3, rfl, f1 ++ f2, rArchive.of (cW := [.int .i64 s.groups, .int .i64 s.column, .int .i64 s.data, .int .i64 s.spare, .int .i64 s.rows, .int .i64 s.cap, .int .i64 s.batch, .int .i64 s.queue, .int .i64 s.stage, .slice A0 G c0, .slice none 0 0, .slice A2 2 c2, .int .i64 0, .int .i64 (-1), .bool false]) (cD := [.slice A3 G c3, .slice none 0 0, .slice none 0 0, .int .i64 0, .int .i64 1]) r1 r2, ⟨?_, fun a ha => ?_, fun a ha => ?_⟩, Below.setCells_ _ _ _ _ (by omega) (HBW.out.trans (HB3.out.mono HBW.out.size))⟩
  · unfold List.Nodup
    refine List.pairwise_append.2 ⟨m1.nodup, m2.nodup, fun a ha b hb e => ?_⟩
    subst e
    have := TF2.out a ha; have := l2 a hb; omega
  · rcases List.mem_append.1 ha with ha | ha
    · have := l1 a ha; omega
    · have := l2 a ha; omega
  · rcases List.mem_append.1 ha with ha | ha
    · exact m1.free a ha
    · exact m2.free a ha

end Go.Proofs.Ytabainoplkpppaa
