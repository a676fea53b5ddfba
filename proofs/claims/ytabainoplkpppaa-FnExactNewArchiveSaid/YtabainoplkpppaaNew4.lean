/-
  NewWorld of the reference.
-/
import Derived.Test.YtabainoplkpppaaNew3
namespace Go.Proofs.Ytabainoplkpppaa
open Go.RowKit Go.Sort

set_option maxHeartbeats 4000000 in
set_option maxRecDepth 100000 in
theorem specNewWorld_c (s : Sh) (G D N : Nat) (hs : Sized s G D N) (hok : shB s = true) (w : World) :
    Calls Try.prog 11 #[shV s] w fun e w' => ∃ A0 c0 A2 c2 fs, e = .returned (.agg #[.int .i64 0, .int .i64 s.groups, .int .i64 s.column, .int .i64 s.data, .int .i64 s.spare, .int .i64 s.rows, .int .i64 s.cap, .int .i64 s.batch, .int .i64 s.queue, .int .i64 s.stage, .slice A0 G c0, .slice none 0 0, .slice A2 2 c2, .int .i64 0, .int .i64 (-1), .bool false]) ∧
      rWorld w' fs [.int .i64 s.groups, .int .i64 s.column, .int .i64 s.data, .int .i64 s.spare, .int .i64 s.rows, .int .i64 s.cap, .int .i64 s.batch, .int .i64 s.queue, .int .i64 s.stage, .slice A0 G c0, .slice none 0 0, .slice A2 2 c2, .int .i64 0, .int .i64 (-1), .bool false] (newW s G D N) ∧ Mine w.heap.size w' fs ∧ Below w.heap.size w w' := by
  have hmkt := Try.makeTapes
  have HS := Lib.hid hs; clear hs
  have hG6 := HS.out.G_le; have hD5 := HS.out.D_le; have hN6 := HS.out.N_le
  unfold shV
  go_enter Try.func11, Try.ntmps11
  go_upto_region 4 with (go_at_call 10; refine (specShapeFault_c s _).mono ?_; rintro e w1 ⟨rfl, hb1⟩; rw [shCode_yes hok]; have KS := Lib.hid (((Blk.new w 24 #[.int .i64 s.groups, .int .i64 s.column, .int .i64 s.data, .int .i64 s.spare, .int .i64 s.rows, .int .i64 s.cap, .int .i64 s.batch, .int .i64 s.queue, .int .i64 s.stage]).alloc (.cells #[.int .i64 0, .int .i64 0, .int .i64 0, .int .i64 0, .int .i64 0, .int .i64 0, .int .i64 0, .int .i64 0, .int .i64 0, .int .i64 0, .slice none 0 0, .slice none 0 0, .slice none 0 0, .int .i64 0, .int .i64 0, .bool false] 46)).below hb1 (by simp; omega)); have KR := Lib.hid (show Blk w1 (w.heap.size + 1) 46 #[.int .i64 0, .int .i64 0, .int .i64 0, .int .i64 0, .int .i64 0, .int .i64 0, .int .i64 0, .int .i64 0, .int .i64 0, .int .i64 0, .slice none 0 0, .slice none 0 0, .slice none 0 0, .int .i64 0, .int .i64 0, .bool false] from by have h := (Blk.new (w.alloc (.cells #[.int .i64 s.groups, .int .i64 s.column, .int .i64 s.data, .int .i64 s.spare, .int .i64 s.rows, .int .i64 s.cap, .int .i64 s.batch, .int .i64 s.queue, .int .i64 s.stage] 24)) 46 #[.int .i64 0, .int .i64 0, .int .i64 0, .int .i64 0, .int .i64 0, .int .i64 0, .int .i64 0, .int .i64 0, .int .i64 0, .int .i64 0, .slice none 0 0, .slice none 0 0, .slice none 0 0, .int .i64 0, .int .i64 0, .bool false]).below hb1 (by simp); rwa [World.size_alloc] at h); have hb0 := ((Below.refl w.heap.size w).alloc (Nat.le_refl _) (.cells #[.int .i64 s.groups, .int .i64 s.column, .int .i64 s.data, .int .i64 s.spare, .int .i64 s.rows, .int .i64 s.cap, .int .i64 s.batch, .int .i64 s.queue, .int .i64 s.stage] 24)).alloc (by simp) (.cells #[.int .i64 0, .int .i64 0, .int .i64 0, .int .i64 0, .int .i64 0, .int .i64 0, .int .i64 0, .int .i64 0, .int .i64 0, .int .i64 0, .slice none 0 0, .slice none 0 0, .slice none 0 0, .int .i64 0, .int .i64 0, .bool false] 46); have B1 := Lib.hid (hb0.trans (hb1.mono (by simp; omega))); clear hb0 hb1)
  have z0 := KS.out.lt; have zR := KR.out.lt
  have p0 := KS.out.cell 0; have p1 := KS.out.cell 1; have p2 := KS.out.cell 2; have p3 := KS.out.cell 3; have p4 := KS.out.cell 4; have p5 := KS.out.cell 5; have p6 := KS.out.cell 6; have p7 := KS.out.cell 7; have p8 := KS.out.cell 8
  simp only [List.getElem?_toArray, List.getElem?_cons_zero, List.getElem?_cons_succ] at p0 p1 p2 p3 p4 p5 p6 p7 p8
  go_cut [4] (fun p wx => ∃ gW gT, p = .pointer (some ⟨gW, 0, none⟩) ∧ w1.heap.size ≤ gW ∧ w1.heap.size ≤ gT ∧ gW ≠ gT ∧ Blk wx gW 29 #[.int .i64 s.groups, .int .i64 s.column, .int .i64 s.data, .int .i64 s.spare, .int .i64 s.rows, .int .i64 s.cap, .int .i64 s.batch, .int .i64 s.queue, .int .i64 s.stage, .slice none 0 0, .slice none 0 0, .slice (some ⟨gT, 0, none⟩) 2 2, .int .i64 0, .int .i64 (-1), .bool false] ∧ Blk wx gT 87 #[.bool false, .slice none 0 0, .bool false, .slice none 0 0] ∧ Below w1.heap.size w1 wx)
  case first =>
    go_region
    · go_wp2_with fail
      go_meet
      exact ⟨_, _, rfl, by omega, by omega, by omega, Blk.new1 _ _ _ _, Blk.alloc (Blk.new _ _ _) _, belowDrew (belowAlloc (belowAlloc (Below.refl _ _) _) _)⟩
    · go_wp2_with fail
      go_meet
      exact ⟨_, _, rfl, by omega, by omega, by omega, Blk.alloc (Blk.new _ _ _) _, Blk.new1 _ _ _ _, belowDrew (belowAlloc (belowAlloc (Below.refl _ _) _) _)⟩
  case rest =>
    obtain ⟨gW, gT, rfl, zW, zT, hne, kW, kT, hbx⟩ := hcut
    have q0 := kW.lt; have q1 := kT.lt
    have k0 := KS.out.below hbx z0; have kR := KR.out.below hbx zR
    replace B1 := Lib.hid (B1.out.trans (hbx.mono B1.out.size))
    clear KS KR p0 p1 p2 p3 p4 p5 p6 p7 p8 hmkt
    have KS := Lib.hid k0; have KR := Lib.hid kR; have KW := Lib.hid kW; have KT := Lib.hid kT
    clear k0 kR kW kT hbx
    have z0 := KS.out.lt; have zR := KR.out.lt
    go_wp2_with fail
    obtain ⟨base, hb0⟩ : ∃ base, wc.heap.size = base := ⟨_, rfl⟩
    have HBASE := Lib.hid hb0; clear hb0
    go_loopw [5, 6, 7] (fun i _ _ wr => ∃ (g : Nat) (A : Option Addr) (c : Nat) (fs : List Addr), g ≤ G ∧ i = .int .i64 g ∧ Blk wr w.heap.size 24 #[.int .i64 s.groups, .int .i64 s.column, .int .i64 s.data, .int .i64 s.spare, .int .i64 s.rows, .int .i64 s.cap, .int .i64 s.batch, .int .i64 s.queue, .int .i64 s.stage] ∧ Blk wr (w.heap.size + 1) 46 #[.int .i64 0, .int .i64 0, .int .i64 0, .int .i64 0, .int .i64 0, .int .i64 0, .int .i64 0, .int .i64 0, .int .i64 0, .int .i64 0, .slice none 0 0, .slice none 0 0, .slice none 0 0, .int .i64 0, .int .i64 0, .bool false] ∧ Blk wr gW 29 #[.int .i64 s.groups, .int .i64 s.column, .int .i64 s.data, .int .i64 s.spare, .int .i64 s.rows, .int .i64 s.cap, .int .i64 s.batch, .int .i64 s.queue, .int .i64 s.stage, .slice A g c, .slice none 0 0, .slice (some ⟨gT, 0, none⟩) 2 2, .int .i64 0, .int .i64 (-1), .bool false] ∧ Blk wr gT 87 #[.bool false, .slice none 0 0, .bool false, .slice none 0 0] ∧ OwnL 1 55 (rSlice 2 rDrive) wr base (.slice A g c) (List.replicate g (List.replicate D (drv0 N))) fs ∧ Mine base wr fs ∧ Below w.heap.size w wr ∧ base ≤ wr.heap.size) (fun i _ _ _ => G - (intOf i).toNat)
    case atStart => exact ⟨0, none, 0, [], by omega, rfl, KS.out, KR.out, KW.out, KT.out, OwnL.start ⟨rfl, .inl ⟨rfl, rfl⟩⟩, ⟨List.nodup_nil, (fun a ha => by cases ha), (fun a ha => by cases ha)⟩, B1.out, by have := HBASE.out; omega⟩
    case round =>
      obtain ⟨g, A, c, fs, hg, rfl, kS, kR, kW, kT, ho, hm, hb, hle2⟩ := hrel
      obtain ⟨u, hu⟩ : ∃ u, u = wr := ⟨_, rfl⟩
      subst hu
      have y0 : w.heap.size < base := by have := HBASE.out; omega
      have yR : w.heap.size + 1 < base := by have := HBASE.out; omega
      have yW : gW < base := by have := HBASE.out; omega
      have yT : gT < base := by have := HBASE.out; omega
      clear HBASE
      have HO := Lib.hid ho; have HM := Lib.hid hm; have HB := Lib.hid hb
      have KS := Lib.hid kS; have KR := Lib.hid kR; have KW := Lib.hid kW; have KT := Lib.hid kT
      clear ho hm hb
      have HR := Lib.hid (Blk.range kS 0 [.int .i64 s.groups, .int .i64 s.column, .int .i64 s.data, .int .i64 s.spare, .int .i64 s.rows, .int .i64 s.cap, .int .i64 s.batch, .int .i64 s.queue, .int .i64 s.stage] rfl)
      clear kS kR kW kT
      have HC := Lib.hid (fun (u2 : World) (hb2 : Below u.heap.size u u2) => And.intro (KS.out.below hb2 (by omega)) (And.intro (KR.out.below hb2 (by omega)) (And.intro (KW.out.below hb2 (by omega)) (And.intro (KT.out.below hb2 (by omega)) (And.intro (HO.out.below (rSlice.local_ rDrive.local_) (rSlice.fixed rDrive.fixed) hb2) (And.intro (HM.out.below hb2 (HO.out.there (rSlice.fixed rDrive.fixed))) (And.intro (HB.out.trans (hb2.mono HB.out.size)) (Nat.le_trans hle2 hb2.size))))))))
      by_cases hlt : g < G
      case neg =>
        obtain rfl : g = G := by omega
        go_wp2_with (first | (refine wpList_load_mid rfl 29 (.tmp 4) rfl gW 0 rfl [.int .i64 s.groups, .int .i64 s.column, .int .i64 s.data, .int .i64 s.spare, .int .i64 s.rows, .int .i64 s.cap, .int .i64 s.batch, .int .i64 s.queue, .int .i64 s.stage, .slice A g c, .slice none 0 0, .slice (some ⟨gT, 0, none⟩) 2 2, .int .i64 0, .int .i64 (-1), .bool false] _ HRW.out Try.underlying29 rfl (by kernel_rfl) ?_) | (refine wpList_store_mid rfl 46 (.tmp 2) (.tmp 42) rfl (w.heap.size + 1) 0 #[.int .i64 0, .int .i64 s.groups, .int .i64 s.column, .int .i64 s.data, .int .i64 s.spare, .int .i64 s.rows, .int .i64 s.cap, .int .i64 s.batch, .int .i64 s.queue, .int .i64 s.stage, .slice A g c, .slice none 0 0, .slice (some ⟨gT, 0, none⟩) 2 2, .int .i64 0, .int .i64 (-1), .bool false] rfl rfl HTH.out (by kernel_rfl) (by simp [Value.oneCell']) ?_) | (refine wpList_load_mid rfl 24 (.tmp 1) rfl w.heap.size 0 rfl [.int .i64 s.groups, .int .i64 s.column, .int .i64 s.data, .int .i64 s.spare, .int .i64 s.rows, .int .i64 s.cap, .int .i64 s.batch, .int .i64 s.queue, .int .i64 s.stage] _ HR.out Try.underlying24 rfl (by kernel_rfl) ?_) | (go_at_call 21; refine (l5All_c s HS.out.ok _).mono ?_; rintro e u2 ⟨rfl, hb2⟩; rw [HS.out.all]; obtain ⟨kS, kR, kW, kT, ho, hm, hb, hle3⟩ := HC.out u2 hb2; have HRW := Lib.hid (Blk.range kW 0 [.int .i64 s.groups, .int .i64 s.column, .int .i64 s.data, .int .i64 s.spare, .int .i64 s.rows, .int .i64 s.cap, .int .i64 s.batch, .int .i64 s.queue, .int .i64 s.stage, .slice A g c, .slice none 0 0, .slice (some ⟨gT, 0, none⟩) 2 2, .int .i64 0, .int .i64 (-1), .bool false] rfl); have HTH := Lib.hid (Blk.there kR 16 (by simp)); clear HC HR KS KR KW KT HO HM HB hb2 hle2; have HO := Lib.hid ho; have HM := Lib.hid hm; have HB := Lib.hid hb; have KR := Lib.hid kR; have KT := Lib.hid kT; clear ho hm hb kS kR kW kT))
        have K1 := KR.out.laid [.int .i64 0, .int .i64 s.groups, .int .i64 s.column, .int .i64 s.data, .int .i64 s.spare, .int .i64 s.rows, .int .i64 s.cap, .int .i64 s.batch, .int .i64 s.queue, .int .i64 s.stage, .slice A g c, .slice none 0 0, .slice (some ⟨gT, 0, none⟩) 2 2, .int .i64 0, .int .i64 (-1), .bool false] rfl
        refine bodyPost_ret (results_cell_row rfl _ _ (w.heap.size + 1) 46 #[.int .i64 0, .int .i64 s.groups, .int .i64 s.column, .int .i64 s.data, .int .i64 s.spare, .int .i64 s.rows, .int .i64 s.cap, .int .i64 s.batch, .int .i64 s.queue, .int .i64 s.stage, .slice A g c, .slice none 0 0, .slice (some ⟨gT, 0, none⟩) 2 2, .int .i64 0, .int .i64 (-1), .bool false] (0, 0) _ rfl K1 Try.underlying46 rfl (by kernel_rfl)) rfl ?_
        have o1 := OwnL.farS (rSlice.local_ rDrive.local_) [.int .i64 0, .int .i64 s.groups, .int .i64 s.column, .int .i64 s.data, .int .i64 s.spare, .int .i64 s.rows, .int .i64 s.cap, .int .i64 s.batch, .int .i64 s.queue, .int .i64 s.stage, .slice A g c, .slice none 0 0, .slice (some ⟨gT, 0, none⟩) 2 2, .int .i64 0, .int .i64 (-1), .bool false] (w.heap.size + 1) 0 u2 yR HO.out HM.out
        have m1 := Mine.setS [.int .i64 0, .int .i64 s.groups, .int .i64 s.column, .int .i64 s.data, .int .i64 s.spare, .int .i64 s.rows, .int .i64 s.cap, .int .i64 s.batch, .int .i64 s.queue, .int .i64 s.stage, .slice A g c, .slice none 0 0, .slice (some ⟨gT, 0, none⟩) 2 2, .int .i64 0, .int .i64 (-1), .bool false] (w.heap.size + 1) 0 u2 HM.out
        obtain ⟨gs, r1, r2⟩ := o1.readsMine m1
        have kT1 := Blk.farS [.int .i64 0, .int .i64 s.groups, .int .i64 s.column, .int .i64 s.data, .int .i64 s.spare, .int .i64 s.rows, .int .i64 s.cap, .int .i64 s.batch, .int .i64 s.queue, .int .i64 s.stage, .slice A g c, .slice none 0 0, .slice (some ⟨gT, 0, none⟩) 2 2, .int .i64 0, .int .i64 (-1), .bool false] (w.heap.size + 1) 0 u2 (by omega) KT.out
        refine ⟨A, c, some ⟨gT, 0, none⟩, 2, gs ++ ([] ++ addrs ⟨gT, 0, none⟩ 4), rfl, ⟨_, _, _, gs, [], _, rfl, rfl, (by have := HS.out.ok.groups; unfold okI; simp only [newW, Sh.toD]; omega), (by have := HS.out.ok.column; unfold okI; simp only [newW, Sh.toD]; omega), (by have := HS.out.ok.data; unfold okI; simp only [newW, Sh.toD]; omega), (by have := HS.out.ok.spare; unfold okI; simp only [newW, Sh.toD]; omega), (by have := HS.out.ok.rows; unfold okI; simp only [newW, Sh.toD]; omega), (by have := HS.out.ok.cap; unfold okI; simp only [newW, Sh.toD]; omega), (by have := HS.out.ok.batch; unfold okI; simp only [newW, Sh.toD]; omega), (by have := HS.out.ok.queue; unfold okI; simp only [newW, Sh.toD]; omega), (by have := HS.out.ok.stage; unfold okI; simp only [newW, Sh.toD]; omega), (by unfold okI; simp only [newW]; omega), (by unfold okI; simp only [newW]; omega), r1, ⟨none, 0, rfl, Nat.le_refl _, by omega, .inl ⟨rfl, rfl⟩⟩, kT1.tapes2⟩, ⟨?_, fun a ha => ?_, fun a ha => ?_⟩, Below.setCells_ _ _ _ _ (by omega) HB.out⟩
        · rw [List.nil_append]
          unfold List.Nodup
          refine List.pairwise_append.2 ⟨r2.nodup, nodup_addrs rfl, fun a ha b hb e => ?_⟩
          subst e
          have := r2.from_ a ha; have := addrs_block hb; omega
        · rw [List.nil_append] at ha
          rcases List.mem_append.1 ha with ha | ha
          · have := r2.from_ a ha; omega
          · have := addrs_block ha; omega
        · rw [List.nil_append] at ha
          rcases List.mem_append.1 ha with ha | ha
          · exact r2.free a ha
          · obtain ⟨q, _, rfl⟩ := mem_addrs.1 ha
            rw [addNew]; exact kT1.frozen q
      go_wp2_with (first | (refine wpList_load_mid rfl 24 (.tmp 1) rfl w.heap.size 0 rfl [.int .i64 s.groups, .int .i64 s.column, .int .i64 s.data, .int .i64 s.spare, .int .i64 s.rows, .int .i64 s.cap, .int .i64 s.batch, .int .i64 s.queue, .int .i64 s.stage] _ HR.out Try.underlying24 rfl (by kernel_rfl) ?_) | (go_at_call 21; refine (l5All_c s HS.out.ok _).mono ?_; rintro e u2 ⟨rfl, hb2⟩; rw [HS.out.all]; obtain ⟨kS, kR, kW, kT, ho, hm, hb, hle3⟩ := HC.out u2 hb2; clear HC HR KS KR KW KT HO HM HB hb2 hle2; have HO := Lib.hid ho; have HM := Lib.hid hm; have HB := Lib.hid hb; have KS := Lib.hid kS; have KR := Lib.hid kR; have KW := Lib.hid kW; have KT := Lib.hid kT; clear ho hm hb kS kR kW kT))
      have kE := Lib.hid (Blk.new u2 58 #[])
      have B3 := Lib.hid (belowAlloc (Below.refl u2.heap.size u2) (.cells #[] 58))
      go_loopw [7, 6] (fun i d w4 => ∃ (k : Nat) (A2 : Option Addr) (c2 : Nat) (f2 : List Addr), k ≤ D ∧ i = .int .i64 k ∧ d = .slice A2 k c2 ∧ OwnL 2 58 rDrive w4 u2.heap.size (.slice A2 k c2) (List.replicate k (drv0 N)) f2 ∧ Mine u2.heap.size w4 f2 ∧ Below u2.heap.size u2 w4) (fun i _ _ => D - (intOf i).toNat)
      case atStart => exact ⟨0, _, 0, [], by omega, rfl, rfl, OwnL.start ⟨rfl, .inr ⟨u2.heap.size, 0, #[], rfl, Nat.le_refl _, kE.out, Nat.le_refl _, by unfold maxLen; omega, rfl, rfl⟩⟩, ⟨List.nodup_nil, (fun a ha => by cases ha), (fun a ha => by cases ha)⟩, B3.out⟩
      case round =>
        obtain ⟨k, A2, c2, f2, hk, rfl, rfl, ho4, hm4, hb4⟩ := hrel
        have x0 : w.heap.size < u2.heap.size := by omega
        have xW : gW < u2.heap.size := by omega
        have HR := Lib.hid (Blk.range (KS.out.below hb4 x0) 0 [.int .i64 s.groups, .int .i64 s.column, .int .i64 s.data, .int .i64 s.spare, .int .i64 s.rows, .int .i64 s.cap, .int .i64 s.batch, .int .i64 s.queue, .int .i64 s.stage] rfl)
        have HO4 := Lib.hid ho4; have HM4 := Lib.hid hm4; have HB4 := Lib.hid hb4
        clear ho4 hm4 hb4 B3 kE
        by_cases hlt2 : k < D
        case neg =>
          obtain rfl : k = D := by omega
          have HA := Lib.hid (show ∀ w5 : World, Below wr.heap.size wr w5 → (w5.cell? ⟨gW, 9, none⟩ = some (.slice A g c)) ∧ gW < w5.heap.size ∧ ∃ v' w', (Builtin.append_ #[25, 25] 25 #[.slice A g c, .slice (some ⟨w5.heap.size, 0, none⟩) 1 1]).run Try.prog (w5.alloc (.cells #[.slice A2 k c2] 55)) = .ok v' w' ∧ ∃ A c h, v' = .slice A (g + 1) c ∧ OwnL 1 55 (rSlice 2 rDrive) w' base v' (List.replicate (g + 1) (List.replicate k (drv0 N))) (fs ++ h) ∧ Mine base w' (fs ++ h) ∧ Below base u2 w' ∧ u2.heap.size ≤ w'.heap.size from fun w5 hb5 => by
            have ho5 := HO4.out.below rDrive.local_ rDrive.fixed hb5
            have hm5 := HM4.out.below hb5 (HO4.out.there rDrive.fixed)
            obtain ⟨gs, r1, r2⟩ := OwnL.readsMine ho5 hm5
            have b5 := HB4.out.trans (hb5.mono HB4.out.size)
            have kW4 := KW.out.below b5 xW
            have HAP := appendStep (P := Try.prog) (R := rSlice 2 rDrive) 25 25 (.slice none 0 0) 24 Try.underlying25 Try.infoDrives rfl (by decide) (rSlice.local_ rDrive.local_) (rSlice.fixed rDrive.fixed) rSlice.ones (by omega) HO.out HM.out hle3 (by simp; omega) (us := [.slice A2 k c2]) (f := gs) (d := List.replicate k (drv0 N)) (W := w5.alloc (.cells #[.slice A2 k c2] 55)) (b := w5.heap.size) b5 ⟨_, rfl, r1⟩ r2 rfl (belowAlloc (Below.refl _ _) _) (Blk.new _ _ _)
            rw [repl_snoc, List.length_replicate] at HAP
            exact ⟨(kW4.cell 9).trans rfl, kW4.lt, HAP⟩)
          go_wp2_with (first | (refine wpList_load_mid rfl 24 (.tmp 1) rfl w.heap.size 0 rfl [.int .i64 s.groups, .int .i64 s.column, .int .i64 s.data, .int .i64 s.spare, .int .i64 s.rows, .int .i64 s.cap, .int .i64 s.batch, .int .i64 s.queue, .int .i64 s.stage] _ HR.out Try.underlying24 rfl (by kernel_rfl) ?_) | (go_at_call 22; refine (l5Drives_c s HS.out.ok _).mono ?_; rintro e w5 ⟨rfl, hb5⟩; rw [HS.out.drives]; obtain ⟨pW, zW5, hap⟩ := HA.out w5 hb5; have HAP := Lib.hid hap; clear hap hb5 HA) | (at_builtin; refine wpList_append_of rfl (.tmp 36) (.tmp 38) 25 rfl (.slice A g c) (.slice (some ⟨w5.heap.size, 0, none⟩) 1 1) rfl rfl HAP.out ?_; rintro v6 w6 ⟨A6, c6, h, rfl, o6, m6, B6, e6⟩; have k6 := KW.out.below B6 yW; have p6 : w6.cell? ⟨gW, 9, none⟩ = some (.slice A g c) := (k6.cell 9).trans rfl; have f6 := k6.frozen 9; have z6 := k6.lt; have HO6 := Lib.hid o6; have HM6 := Lib.hid m6; have HB6 := Lib.hid B6; have HK6 := Lib.hid k6; clear o6 m6 B6 k6))
          go_roundw
          case rel =>
            refine ⟨g + 1, A6, c6, fs ++ h, by omega, by go_num, Blk.far (KS.out.below HB6.out y0) (by simp; omega) _, Blk.far (KR.out.below HB6.out yR) (by simp; omega) _, Blk.set_ HK6.out 9 _, Blk.far (KT.out.below HB6.out yT) (by simp; omega) _, OwnL.far_ (rSlice.local_ rDrive.local_) HO6.out HM6.out (by simp; omega) _, Mine.set_ HM6.out _ _, (HB.out.trans (HB6.out.mono (by omega))).setCell (by simp; omega) _, ?_⟩
            simp [World.setCell]; omega
          case measure => simp [intOf]; omega
        have HA := Lib.hid (show ∀ (w5 : World) (A3 : Option Addr) (c3 : Nat) (f : List Addr), Below wr.heap.size wr w5 → rSl 2 rBlock w5 f (.slice A3 N c3) (List.replicate N blk0) → Mine wr.heap.size w5 f → ∃ v' w', (Builtin.append_ #[55, 55] 55 #[.slice A2 k c2, .slice (some ⟨w5.heap.size, 0, none⟩) 1 1]).run Try.prog (w5.alloc (.cells #[.bool false, .slice A3 N c3] 58)) = .ok v' w' ∧ ∃ A c h, v' = .slice A (k + 1) c ∧ OwnL 2 58 rDrive w' u2.heap.size v' (List.replicate (k + 1) (drv0 N)) (f2 ++ h) ∧ Mine u2.heap.size w' (f2 ++ h) ∧ Below u2.heap.size wr w' ∧ wr.heap.size ≤ w'.heap.size from fun w5 A3 c3 f B2 hr hf => by
          have := appendStep (P := Try.prog) (R := rDrive) 55 55 (.agg #[.bool false, .slice none 0 0]) 32 Try.underlying55 Try.infoDrive rfl (by decide) rDrive.local_ rDrive.fixed rDrive.ones (by omega) HO4.out HM4.out HB4.out.size (by simp; omega) (us := [.bool false, .slice A3 N c3]) (f := f) (d := drv0 N) (W := w5.alloc (.cells #[.bool false, .slice A3 N c3] 58)) (b := w5.heap.size) B2 ⟨_, _, rfl, rfl, hr⟩ hf rfl (belowAlloc (Below.refl _ _) _) (Blk.new _ _ _)
          rw [repl_snoc, List.length_replicate] at this
          exact this)
        have HR5 := Lib.hid (fun (w5 : World) (h : Below wr.heap.size wr w5) => Blk.range ((KS.out.below HB4.out x0).below h (Nat.lt_of_lt_of_le x0 HB4.out.size)) 0 [.int .i64 s.groups, .int .i64 s.column, .int .i64 s.data, .int .i64 s.spare, .int .i64 s.rows, .int .i64 s.cap, .int .i64 s.batch, .int .i64 s.queue, .int .i64 s.stage] rfl)
        go_wp2_with (first | (refine wpList_load_mid rfl 24 (.tmp 1) rfl w.heap.size 0 rfl [.int .i64 s.groups, .int .i64 s.column, .int .i64 s.data, .int .i64 s.spare, .int .i64 s.rows, .int .i64 s.cap, .int .i64 s.batch, .int .i64 s.queue, .int .i64 s.stage] _ (by first | exact HR.out | exact HR5.out _ hb5) Try.underlying24 rfl (by kernel_rfl) ?_) | (go_at_call 22; refine (l5Drives_c s HS.out.ok _).mono ?_; rintro e w5 ⟨rfl, hb5⟩; rw [HS.out.drives]) | (go_at_call 23; refine (l5Fresh_c s N HS.out.rows hN6 _).mono ?_; rintro e w7 ⟨A3, c3, f, rfl, hr3, hm3, hb7⟩; have hb8 := hb5.trans (hb7.mono hb5.size); have hm8 := hm3.mono hb5.size) | (at_builtin; refine wpList_append_of rfl (.tmp 30) (.tmp 33) 55 rfl (.slice A2 k c2) (.slice (some ⟨w7.heap.size, 0, none⟩) 1 1) rfl rfl (HA.out w7 A3 c3 f hb8 hr3 hm8) ?_; rintro v6 w6 ⟨A6, c6, h, rfl, o6, m6, B6, e6⟩; have HO6 := Lib.hid o6; have HM6 := Lib.hid m6; have HB6 := Lib.hid B6; clear o6 m6 B6))
        go_roundw
        case rel => exact ⟨k + 1, A6, c6, f2 ++ h, by omega, by go_num, rfl, HO6.out, HM6.out, HB4.out.trans HB6.out⟩
        case measure => simp [intOf]; omega

end Go.Proofs.Ytabainoplkpppaa
