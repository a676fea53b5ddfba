/-
  NewWorld of the program.
-/
import Derived.Test.YtabainoplkpppaaNew1
import Derived.Deep.MidRow
import Derived.Deep.DeepCutAuto
namespace Go.Proofs.Ytabainoplkpppaa
open Go.RowKit Go.Sort

def tap0 : TapeD := ⟨false, []⟩
def newW (s : Sh) (G D N : Nat) : WorldD := ⟨s.toD, List.replicate G (List.replicate D (drv0 N)), [], [tap0, tap0], 0, -1, false⟩
/-- A shape's sums as numbers. -/
structure Sized (s : Sh) (G D N : Nat) : Prop where
  ok : s.Ok
  all : s.groups + s.column = (G : Int)
  drives : s.data + s.spare = (D : Int)
  rows : s.rows = (N : Int)
theorem Sized.G_le {s : Sh} {G D N : Nat} (h : Sized s G D N) : G ≤ 6 := by have := h.ok.groups; have := h.ok.column; have := h.all; omega
theorem Sized.D_le {s : Sh} {G D N : Nat} (h : Sized s G D N) : D ≤ 5 := by have := h.ok.data; have := h.ok.spare; have := h.drives; omega
theorem Sized.N_le {s : Sh} {G D N : Nat} (h : Sized s G D N) : N ≤ 6 := by have := h.ok.rows; have := h.rows; omega

theorem Try.makeTapes (w0 : World) : (Instr.makeSlice 27 (.int .i64 2) (.int .i64 2)).run Try.prog w0 = .ok (.slice (some ⟨w0.heap.size, 0, none⟩) 2 2) (w0.alloc (.cells #[.bool false, .slice none 0 0, .bool false, .slice none 0 0] 87)) := by
  have h := run_make_wide Try.prog 27 87 (.agg #[.bool false, .slice none 0 0]) 2 32 Try.underlying27 Try.infoTape 2 (by omega) (by omega) w0
  rw [show madeCells (Value.agg #[.bool false, .slice none 0 0]).cells (2 * 2) = #[.bool false, .slice none 0 0, .bool false, .slice none 0 0] from by kernel_rfl] at h
  exact h

/-- Cells laid one behind the other into an array. -/
def laidIn (cs : Array Value) : Nat → List Value → Array Value
  | _, [] => cs
  | o, v :: r => laidIn (cs.setIfInBounds o v) (o + 1) r
theorem Blk.setCells_ {g : Nat} {t : TypeId} : ∀ (vs : List Value) (o : Nat) (w : World) (cs : Array Value), Blk w g t cs → Blk (w.setCells g o vs) g t (laidIn cs o vs)
  | [], _, _, _, h => h
  | v :: r, o, _, _, h => Blk.setCells_ r (o + 1) _ _ (Blk.set_ h o v)
theorem laidIn_get : ∀ (vs : List Value) (o : Nat) (cs : Array Value), o + vs.length ≤ cs.size → ∀ i, (laidIn cs o vs)[i]? = if i < o then cs[i]? else if i < o + vs.length then vs[i - o]? else cs[i]?
  | [], o, cs, _, i => by simp [laidIn]; intro h1 h2; omega
  | v :: r, o, cs, h, i => by
    simp only [List.length_cons] at h
    rw [laidIn, laidIn_get r (o + 1) _ (by simp; omega) i]
    rcases Nat.lt_trichotomy i o with h1 | h1 | h1
    · rw [if_pos (by omega), if_pos h1, Array.getElem?_setIfInBounds_ne (by omega)]
    · subst h1
      rw [if_pos (by omega), if_neg (by omega), if_pos (by simp), Array.getElem?_setIfInBounds_self_of_lt (by omega)]
      simp
    · rw [if_neg (show ¬ i < o + 1 from by omega), if_neg (show ¬ i < o from by omega), List.length_cons, show o + (r.length + 1) = o + 1 + r.length from by omega, Array.getElem?_setIfInBounds_ne (by omega)]
      by_cases h2 : i < o + 1 + r.length
      · rw [if_pos h2, if_pos h2, show i - o = (i - (o + 1)) + 1 from by omega, List.getElem?_cons_succ]
      · rw [if_neg h2, if_neg h2]
theorem laidIn_all (vs : List Value) (cs : Array Value) (h : cs.size = vs.length) : laidIn cs 0 vs = vs.toArray := by
  apply Array.ext_getElem?
  intro i
  rw [laidIn_get vs 0 cs (by omega) i, if_neg (by omega), Nat.zero_add]
  by_cases hi : i < vs.length
  · rw [if_pos hi]; simp
  · rw [if_neg hi, Array.getElem?_eq_none (by omega)]; simp; omega
theorem Blk.laid {w : World} {g : Nat} {t : TypeId} {cs : Array Value} (h : Blk w g t cs) (vs : List Value) (hl : cs.size = vs.length) : Blk (w.setCells g 0 vs) g t vs.toArray := by
  have := Blk.setCells_ vs 0 w cs h
  rwa [laidIn_all vs cs hl] at this
theorem Blk.farS {g : Nat} {t : TypeId} {cs : Array Value} : ∀ (vs : List Value) (b o : Nat) (w : World), g ≠ b → Blk w g t cs → Blk (w.setCells b o vs) g t cs
  | [], _, _, _, _, h => h
  | v :: r, b, o, _, hg, h => Blk.farS r b (o + 1) _ hg (Blk.far h hg v)
theorem Below.setCells_ {B : Nat} {w0 : World} : ∀ (vs : List Value) (b o : Nat) (w : World), B ≤ b → Below B w0 w → Below B w0 (w.setCells b o vs)
  | [], _, _, _, _, h => h
  | v :: r, b, o, _, hb, h => Below.setCells_ r b (o + 1) _ hb (h.setCell hb v)
theorem Mine.setS {lo : Nat} {fs : List Addr} : ∀ (vs : List Value) (b o : Nat) (w : World), Mine lo w fs → Mine lo (w.setCells b o vs) fs
  | [], _, _, _, h => h
  | v :: r, b, o, _, h => Mine.setS r b (o + 1) _ (Mine.set_ h _ v)
theorem OwnL.farS {α : Type} {k : Nat} {E : TypeId} {R : Repr α} (hR : Local R) {base : Nat} {v : Value} {ds : List α} {fs : List Addr} : ∀ (vs : List Value) (b o : Nat) (w : World), b < base → OwnL k E R w base v ds fs → Mine base w fs → OwnL k E R (w.setCells b o vs) base v ds fs
  | [], _, _, _, _, h, _ => h
  | u :: r, b, o, _, hb, h, hm => OwnL.farS hR r b (o + 1) _ hb (OwnL.far_ hR h hm (p := ⟨b, o, none⟩) hb u) (Mine.set_ hm _ u)
theorem Blk.there {w : World} {g : Nat} {t : TypeId} {cs : Array Value} (h : Blk w g t cs) (n : Nat) (hn : n ≤ cs.size) : w.there g 0 n := fun j hj => by
  rw [Nat.zero_add]
  refine ⟨?_, h.frozen j⟩
  rw [h.cell, Array.getElem?_eq_getElem (by omega)]; rfl
theorem rSlice.ones {α : Type} {k : Nat} {R : Repr α} : ∀ (w : World) (f : List Addr) (cs : List Value) (d : List α), rSlice k R w f cs d → ∀ u, u ∈ cs → u.oneCell' = true := by
  rintro w f cs d ⟨v, rfl, h⟩ u hu
  obtain ⟨A, c, rfl, -⟩ := rSl.head h
  simp only [List.mem_cons, List.not_mem_nil, or_false] at hu
  subst hu
  rfl
theorem Blk.tapes2 {w : World} {g : Nat} (h : Blk w g 87 #[.bool false, .slice none 0 0, .bool false, .slice none 0 0]) : rSl 2 rTape w (addrs ⟨g, 0, none⟩ 4) (.slice (some ⟨g, 0, none⟩) 2 2) [tap0, tap0] := by
  have := rSl.ofRow (w := w) (g := g) (k := 2) (R := rTape) (n := 2) (ds := [tap0, tap0]) [[.bool false, .slice none 0 0], [.bool false, .slice none 0 0]] [[], []] rfl (by omega) rfl rfl (fun i hi => by
    have hz : rSl 9 rRec w [] (.slice none 0 0) [] := ⟨none, 0, rfl, Nat.le_refl _, by omega, .inl ⟨rfl, rfl⟩⟩
    rcases i with _ | i
    · refine ⟨rfl, fun q hq => ?_, ⟨_, _, rfl, rfl, hz⟩⟩
      rw [h.cell]
      rcases q with _ | q
      · rfl
      · obtain rfl : q = 0 := by simp at hq; omega
        rfl
    · obtain rfl : i = 0 := by omega
      refine ⟨rfl, fun q hq => ?_, ⟨_, _, rfl, rfl, hz⟩⟩
      rw [h.cell]
      rcases q with _ | q
      · rfl
      · obtain rfl : q = 0 := by simp at hq; omega
        rfl)
  simpa using this

set_option maxHeartbeats 4000000 in
set_option maxRecDepth 100000 in
theorem implNewWorld_c (s : Sh) (G D N : Nat) (hs : Sized s G D N) (hok : shB s = true) (w : World) :
    Calls Try.prog 13 #[shV s] w fun e w' => ∃ A0 c0 A2 c2 fs, e = .returned (.agg #[.int .i64 0, .int .i64 s.groups, .int .i64 s.column, .int .i64 s.data, .int .i64 s.spare, .int .i64 s.rows, .int .i64 s.cap, .int .i64 s.batch, .int .i64 s.queue, .int .i64 s.stage, .slice A0 G c0, .slice none 0 0, .slice A2 2 c2, .int .i64 0, .int .i64 (-1), .bool false]) ∧
      rWorld w' fs [.int .i64 s.groups, .int .i64 s.column, .int .i64 s.data, .int .i64 s.spare, .int .i64 s.rows, .int .i64 s.cap, .int .i64 s.batch, .int .i64 s.queue, .int .i64 s.stage, .slice A0 G c0, .slice none 0 0, .slice A2 2 c2, .int .i64 0, .int .i64 (-1), .bool false] (newW s G D N) ∧ Mine w.heap.size w' fs ∧ Below w.heap.size w w' := by
  have hmkt := Try.makeTapes
  have HS := Lib.hid hs; clear hs
  have hG6 := HS.out.G_le; have hD5 := HS.out.D_le; have hN6 := HS.out.N_le
  unfold shV
  go_enter Try.func13, Try.ntmps13
  go_upto_region 4 with (go_at_call 24; refine (implShapeFault_c s _).mono ?_; rintro e w1 ⟨rfl, hb1⟩; rw [shCode_yes hok]; have KS := Lib.hid (((Blk.new w 24 #[.int .i64 s.groups, .int .i64 s.column, .int .i64 s.data, .int .i64 s.spare, .int .i64 s.rows, .int .i64 s.cap, .int .i64 s.batch, .int .i64 s.queue, .int .i64 s.stage]).alloc (.cells #[.int .i64 0, .int .i64 0, .int .i64 0, .int .i64 0, .int .i64 0, .int .i64 0, .int .i64 0, .int .i64 0, .int .i64 0, .int .i64 0, .slice none 0 0, .slice none 0 0, .slice none 0 0, .int .i64 0, .int .i64 0, .bool false] 46)).below hb1 (by simp; omega)); have KR := Lib.hid (show Blk w1 (w.heap.size + 1) 46 #[.int .i64 0, .int .i64 0, .int .i64 0, .int .i64 0, .int .i64 0, .int .i64 0, .int .i64 0, .int .i64 0, .int .i64 0, .int .i64 0, .slice none 0 0, .slice none 0 0, .slice none 0 0, .int .i64 0, .int .i64 0, .bool false] from by have h := (Blk.new (w.alloc (.cells #[.int .i64 s.groups, .int .i64 s.column, .int .i64 s.data, .int .i64 s.spare, .int .i64 s.rows, .int .i64 s.cap, .int .i64 s.batch, .int .i64 s.queue, .int .i64 s.stage] 24)) 46 #[.int .i64 0, .int .i64 0, .int .i64 0, .int .i64 0, .int .i64 0, .int .i64 0, .int .i64 0, .int .i64 0, .int .i64 0, .int .i64 0, .slice none 0 0, .slice none 0 0, .slice none 0 0, .int .i64 0, .int .i64 0, .bool false]).below hb1 (by simp); rwa [World.size_alloc] at h); have hb0 := ((Below.refl w.heap.size w).alloc (Nat.le_refl _) (.cells #[.int .i64 s.groups, .int .i64 s.column, .int .i64 s.data, .int .i64 s.spare, .int .i64 s.rows, .int .i64 s.cap, .int .i64 s.batch, .int .i64 s.queue, .int .i64 s.stage] 24)).alloc (by simp) (.cells #[.int .i64 0, .int .i64 0, .int .i64 0, .int .i64 0, .int .i64 0, .int .i64 0, .int .i64 0, .int .i64 0, .int .i64 0, .int .i64 0, .slice none 0 0, .slice none 0 0, .slice none 0 0, .int .i64 0, .int .i64 0, .bool false] 46); have B1 := Lib.hid (hb0.trans (hb1.mono (by simp; omega))); clear hb0 hb1)
  have z0 := KS.out.lt; have zR := KR.out.lt
  have p0 := KS.out.cell 0; have p1 := KS.out.cell 1; have p2 := KS.out.cell 2; have p3 := KS.out.cell 3; have p4 := KS.out.cell 4; have p5 := KS.out.cell 5; have p6 := KS.out.cell 6; have p7 := KS.out.cell 7; have p8 := KS.out.cell 8
  simp only [List.getElem?_toArray, List.getElem?_cons_zero, List.getElem?_cons_succ] at p0 p1 p2 p3 p4 p5 p6 p7 p8
  go_cut [4] (fun p wx => ∃ gW gT, p = .pointer (some ⟨gW, 0, none⟩) ∧ w1.heap.size ≤ gW ∧ w1.heap.size ≤ gT ∧ gW ≠ gT ∧ Blk wx gW 29 #[.int .i64 s.groups, .int .i64 s.column, .int .i64 s.data, .int .i64 s.spare, .int .i64 s.rows, .int .i64 s.cap, .int .i64 s.batch, .int .i64 s.queue, .int .i64 s.stage, .slice none 0 0, .slice none 0 0, .slice (some ⟨gT, 0, none⟩) 2 2, .int .i64 0, .int .i64 (-1), .bool false] ∧ Blk wx gT 87 #[.bool false, .slice none 0 0, .bool false, .slice none 0 0] ∧ Below w1.heap.size w1 wx)
  case first =>
    go_region
    · go_wp2_with fail
      go_meet
      exact ⟨_, _, rfl, by omega, by omega, by omega, Blk.new1 _ _ _ _, Blk.alloc (Blk.new _ _ _) _, belowDrew (belowAlloc (belowAlloc (Below.refl _ _) _) _)⟩
    · go_wp2_with fail
      go_meet
      exact ⟨_, _, rfl, by omega, by omega, by omega, Blk.alloc (Blk.new _ _ _) _, Blk.new1 _ _ _ _, belowDrew (belowAlloc (belowAlloc (Below.refl _ _) _) _)⟩
  case rest =>
    obtain ⟨gW, gT, rfl, zW, zT, hne, kW, kT, hbx⟩ := hcut
    have q0 := kW.lt; have q1 := kT.lt
    have k0 := KS.out.below hbx z0; have kR := KR.out.below hbx zR
    replace B1 := Lib.hid (B1.out.trans (hbx.mono B1.out.size))
    clear KS KR p0 p1 p2 p3 p4 p5 p6 p7 p8
    have KS := Lib.hid k0; have KR := Lib.hid kR; have KW := Lib.hid kW; have KT := Lib.hid kT
    have HR := Lib.hid (Blk.range k0 0 [.int .i64 s.groups, .int .i64 s.column, .int .i64 s.data, .int .i64 s.spare, .int .i64 s.rows, .int .i64 s.cap, .int .i64 s.batch, .int .i64 s.queue, .int .i64 s.stage] rfl)
    clear k0 kR kW kT hbx
    have z0 := KS.out.lt; have zR := KR.out.lt
    go_wp2_with (first | (refine wpList_load_mid rfl 24 (.tmp 1) rfl w.heap.size 0 rfl [.int .i64 s.groups, .int .i64 s.column, .int .i64 s.data, .int .i64 s.spare, .int .i64 s.rows, .int .i64 s.cap, .int .i64 s.batch, .int .i64 s.queue, .int .i64 s.stage] _ HR.out Try.underlying24 rfl (by kernel_rfl) ?_) | (go_at_call 25; refine (shapeAll_c s HS.out.ok _).mono ?_; rintro e w2 ⟨rfl, hb2⟩; rw [HS.out.all]; have k0 := KS.out.below hb2 z0; have kR := KR.out.below hb2 zR; have kW := KW.out.below hb2 q0; have kT := KT.out.below hb2 q1; have b1 := B1.out.trans (hb2.mono B1.out.size); have hle := hb2.size; clear HR KS KR KW KT B1 hb2; have KS := Lib.hid k0; have KR := Lib.hid kR; have KW := Lib.hid kW; have KT := Lib.hid kT; have B1 := Lib.hid b1; clear k0 kR kW kT b1))
    clear hmkt
    obtain ⟨base, hb0⟩ : ∃ base, w2.heap.size = base := ⟨_, rfl⟩
    have HBASE := Lib.hid hb0; clear hb0
    go_loopw [17, 5] (fun i _ wr => ∃ (g : Nat) (A : Option Addr) (c : Nat) (fs : List Addr), g ≤ G ∧ i = .int .i64 g ∧ Blk wr w.heap.size 24 #[.int .i64 s.groups, .int .i64 s.column, .int .i64 s.data, .int .i64 s.spare, .int .i64 s.rows, .int .i64 s.cap, .int .i64 s.batch, .int .i64 s.queue, .int .i64 s.stage] ∧ Blk wr (w.heap.size + 1) 46 #[.int .i64 0, .int .i64 0, .int .i64 0, .int .i64 0, .int .i64 0, .int .i64 0, .int .i64 0, .int .i64 0, .int .i64 0, .int .i64 0, .slice none 0 0, .slice none 0 0, .slice none 0 0, .int .i64 0, .int .i64 0, .bool false] ∧ Blk wr gW 29 #[.int .i64 s.groups, .int .i64 s.column, .int .i64 s.data, .int .i64 s.spare, .int .i64 s.rows, .int .i64 s.cap, .int .i64 s.batch, .int .i64 s.queue, .int .i64 s.stage, .slice A g c, .slice none 0 0, .slice (some ⟨gT, 0, none⟩) 2 2, .int .i64 0, .int .i64 (-1), .bool false] ∧ Blk wr gT 87 #[.bool false, .slice none 0 0, .bool false, .slice none 0 0] ∧ OwnL 1 55 (rSlice 2 rDrive) wr base (.slice A g c) (List.replicate g (List.replicate D (drv0 N))) fs ∧ Mine base wr fs ∧ Below w.heap.size w wr ∧ base ≤ wr.heap.size) (fun i _ _ => G - (intOf i).toNat)
    case atStart => exact ⟨0, none, 0, [], by omega, rfl, KS.out, KR.out, KW.out, KT.out, OwnL.start ⟨rfl, .inl ⟨rfl, rfl⟩⟩, ⟨List.nodup_nil, (fun a ha => by cases ha), (fun a ha => by cases ha)⟩, B1.out, by have := HBASE.out; omega⟩
    case round =>
      obtain ⟨g, A, c, fs, hg, rfl, kS, kR, kW, kT, ho, hm, hb, hle2⟩ := hrel
      obtain ⟨u, hu⟩ : ∃ u, u = wr := ⟨_, rfl⟩
      subst hu
      have y0 : w.heap.size < base := by have := HBASE.out; omega
      have yR : w.heap.size + 1 < base := by have := HBASE.out; omega
      have yW : gW < base := by have := HBASE.out; omega
      have yT : gT < base := by have := HBASE.out; omega
      clear HBASE hle
      have HO := Lib.hid ho; have HM := Lib.hid hm; have HB := Lib.hid hb
      have KS := Lib.hid kS; have KR := Lib.hid kR; have KW := Lib.hid kW; have KT := Lib.hid kT
      clear ho hm hb
      by_cases hlt : g < G
      case neg =>
        obtain rfl : g = G := by omega
        have HRW := Lib.hid (Blk.range kW 0 [.int .i64 s.groups, .int .i64 s.column, .int .i64 s.data, .int .i64 s.spare, .int .i64 s.rows, .int .i64 s.cap, .int .i64 s.batch, .int .i64 s.queue, .int .i64 s.stage, .slice A g c, .slice none 0 0, .slice (some ⟨gT, 0, none⟩) 2 2, .int .i64 0, .int .i64 (-1), .bool false] rfl)
        have HTH := Lib.hid (Blk.there kR 16 (by simp))
        clear kS kR kW kT
        go_wp2_with (first | (refine wpList_load_mid rfl 29 (.tmp 4) rfl gW 0 rfl [.int .i64 s.groups, .int .i64 s.column, .int .i64 s.data, .int .i64 s.spare, .int .i64 s.rows, .int .i64 s.cap, .int .i64 s.batch, .int .i64 s.queue, .int .i64 s.stage, .slice A g c, .slice none 0 0, .slice (some ⟨gT, 0, none⟩) 2 2, .int .i64 0, .int .i64 (-1), .bool false] _ HRW.out Try.underlying29 rfl (by kernel_rfl) ?_) | (refine wpList_store_mid rfl 46 (.tmp 2) (.tmp 40) rfl (w.heap.size + 1) 0 #[.int .i64 0, .int .i64 s.groups, .int .i64 s.column, .int .i64 s.data, .int .i64 s.spare, .int .i64 s.rows, .int .i64 s.cap, .int .i64 s.batch, .int .i64 s.queue, .int .i64 s.stage, .slice A g c, .slice none 0 0, .slice (some ⟨gT, 0, none⟩) 2 2, .int .i64 0, .int .i64 (-1), .bool false] rfl rfl HTH.out (by kernel_rfl) (by simp [Value.oneCell']) ?_))
        have K1 := KR.out.laid [.int .i64 0, .int .i64 s.groups, .int .i64 s.column, .int .i64 s.data, .int .i64 s.spare, .int .i64 s.rows, .int .i64 s.cap, .int .i64 s.batch, .int .i64 s.queue, .int .i64 s.stage, .slice A g c, .slice none 0 0, .slice (some ⟨gT, 0, none⟩) 2 2, .int .i64 0, .int .i64 (-1), .bool false] rfl
        refine bodyPost_ret (results_cell_row rfl _ _ (w.heap.size + 1) 46 #[.int .i64 0, .int .i64 s.groups, .int .i64 s.column, .int .i64 s.data, .int .i64 s.spare, .int .i64 s.rows, .int .i64 s.cap, .int .i64 s.batch, .int .i64 s.queue, .int .i64 s.stage, .slice A g c, .slice none 0 0, .slice (some ⟨gT, 0, none⟩) 2 2, .int .i64 0, .int .i64 (-1), .bool false] (0, 0) _ rfl K1 Try.underlying46 rfl (by kernel_rfl)) rfl ?_
        have o1 := OwnL.farS (rSlice.local_ rDrive.local_) [.int .i64 0, .int .i64 s.groups, .int .i64 s.column, .int .i64 s.data, .int .i64 s.spare, .int .i64 s.rows, .int .i64 s.cap, .int .i64 s.batch, .int .i64 s.queue, .int .i64 s.stage, .slice A g c, .slice none 0 0, .slice (some ⟨gT, 0, none⟩) 2 2, .int .i64 0, .int .i64 (-1), .bool false] (w.heap.size + 1) 0 u yR HO.out HM.out
        have m1 := Mine.setS [.int .i64 0, .int .i64 s.groups, .int .i64 s.column, .int .i64 s.data, .int .i64 s.spare, .int .i64 s.rows, .int .i64 s.cap, .int .i64 s.batch, .int .i64 s.queue, .int .i64 s.stage, .slice A g c, .slice none 0 0, .slice (some ⟨gT, 0, none⟩) 2 2, .int .i64 0, .int .i64 (-1), .bool false] (w.heap.size + 1) 0 u HM.out
        obtain ⟨gs, r1, r2⟩ := o1.readsMine m1
        have kT1 := Blk.farS [.int .i64 0, .int .i64 s.groups, .int .i64 s.column, .int .i64 s.data, .int .i64 s.spare, .int .i64 s.rows, .int .i64 s.cap, .int .i64 s.batch, .int .i64 s.queue, .int .i64 s.stage, .slice A g c, .slice none 0 0, .slice (some ⟨gT, 0, none⟩) 2 2, .int .i64 0, .int .i64 (-1), .bool false] (w.heap.size + 1) 0 u (by omega) KT.out
        refine ⟨A, c, some ⟨gT, 0, none⟩, 2, gs ++ ([] ++ addrs ⟨gT, 0, none⟩ 4), rfl, ⟨_, _, _, gs, [], _, rfl, rfl, (by have := HS.out.ok.groups; unfold okI; simp only [newW, Sh.toD]; omega), (by have := HS.out.ok.column; unfold okI; simp only [newW, Sh.toD]; omega), (by have := HS.out.ok.data; unfold okI; simp only [newW, Sh.toD]; omega), (by have := HS.out.ok.spare; unfold okI; simp only [newW, Sh.toD]; omega), (by have := HS.out.ok.rows; unfold okI; simp only [newW, Sh.toD]; omega), (by have := HS.out.ok.cap; unfold okI; simp only [newW, Sh.toD]; omega), (by have := HS.out.ok.batch; unfold okI; simp only [newW, Sh.toD]; omega), (by have := HS.out.ok.queue; unfold okI; simp only [newW, Sh.toD]; omega), (by have := HS.out.ok.stage; unfold okI; simp only [newW, Sh.toD]; omega), (by unfold okI; simp only [newW]; omega), (by unfold okI; simp only [newW]; omega), r1, ⟨none, 0, rfl, Nat.le_refl _, by omega, .inl ⟨rfl, rfl⟩⟩, kT1.tapes2⟩, ⟨?_, fun a ha => ?_, fun a ha => ?_⟩, Below.setCells_ _ _ _ _ (by omega) HB.out⟩
        · rw [List.nil_append]
          unfold List.Nodup
          refine List.pairwise_append.2 ⟨r2.nodup, nodup_addrs rfl, fun a ha b hb e => ?_⟩
          subst e
          have := r2.from_ a ha; have := addrs_block hb; omega
        · rw [List.nil_append] at ha
          rcases List.mem_append.1 ha with ha | ha
          · have := r2.from_ a ha; omega
          · have := addrs_block ha; omega
        · rw [List.nil_append] at ha
          rcases List.mem_append.1 ha with ha | ha
          · exact r2.free a ha
          · obtain ⟨q, _, rfl⟩ := mem_addrs.1 ha
            rw [addNew]; exact kT1.frozen q
      have HR := Lib.hid (Blk.range kS 0 [.int .i64 s.groups, .int .i64 s.column, .int .i64 s.data, .int .i64 s.spare, .int .i64 s.rows, .int .i64 s.cap, .int .i64 s.batch, .int .i64 s.queue, .int .i64 s.stage] rfl)
      clear kS kR kW kT
      go_wp2_with (first | (refine wpList_load_mid rfl 24 (.tmp 1) rfl w.heap.size 0 rfl [.int .i64 s.groups, .int .i64 s.column, .int .i64 s.data, .int .i64 s.spare, .int .i64 s.rows, .int .i64 s.cap, .int .i64 s.batch, .int .i64 s.queue, .int .i64 s.stage] _ (World.rangeAt_alloc HR.out _) Try.underlying24 rfl (by kernel_rfl) ?_) | (go_at_call 26; refine (shapeDrives_c s HS.out.ok _).mono ?_; rintro e w3 ⟨rfl, hb3⟩; rw [HS.out.drives]; have kE := Lib.hid ((Blk.new u 58 #[]).below hb3 (by simp)); have B3 := Lib.hid ((belowAlloc (Below.refl u.heap.size u) (.cells #[] 58)).trans (hb3.mono (by simp))); clear HR hb3))
      go_loopw [22, 5] (fun i d w4 => ∃ (k : Nat) (A2 : Option Addr) (c2 : Nat) (f2 : List Addr), k ≤ D ∧ i = .int .i64 k ∧ d = .slice A2 k c2 ∧ OwnL 2 58 rDrive w4 u.heap.size (.slice A2 k c2) (List.replicate k (drv0 N)) f2 ∧ Mine u.heap.size w4 f2 ∧ Below u.heap.size u w4) (fun i _ _ => D - (intOf i).toNat)
      case atStart => exact ⟨0, _, 0, [], by omega, rfl, rfl, OwnL.start ⟨rfl, .inr ⟨u.heap.size, 0, #[], rfl, Nat.le_refl _, kE.out, Nat.le_refl _, by unfold maxLen; omega, rfl, rfl⟩⟩, ⟨List.nodup_nil, (fun a ha => by cases ha), (fun a ha => by cases ha)⟩, B3.out⟩
      case round =>
        obtain ⟨k, A2, c2, f2, hk, rfl, rfl, ho4, hm4, hb4⟩ := hrel
        have x0 : w.heap.size < u.heap.size := by omega
        have xW : gW < u.heap.size := by omega
        by_cases hlt2 : k < D
        case neg =>
          obtain rfl : k = D := by omega
          obtain ⟨gs, r1, r2⟩ := OwnL.readsMine ho4 hm4
          have kW4 := KW.out.below hb4 xW
          have pW : wr.cell? ⟨gW, 9, none⟩ = some (.slice A g c) := (kW4.cell 9).trans rfl
          have HAP := appendStep (P := Try.prog) (R := rSlice 2 rDrive) 25 25 (.slice none 0 0) 24 Try.underlying25 Try.infoDrives rfl (by decide) (rSlice.local_ rDrive.local_) (rSlice.fixed rDrive.fixed) rSlice.ones (by omega) HO.out HM.out hle2 (by simp; omega) (us := [.slice A2 k c2]) (f := gs) (d := List.replicate k (drv0 N)) (W := wr.alloc (.cells #[.slice A2 k c2] 55)) (b := wr.heap.size) hb4 ⟨_, rfl, r1⟩ r2 rfl (belowAlloc (Below.refl _ _) _) (Blk.new _ _ _)
          rw [repl_snoc, List.length_replicate] at HAP
          have HA := Lib.hid HAP
          have zW4 := kW4.lt
          clear HAP kW4 ho4 hm4 hb4 r1 r2 B3 kE
          go_wp2_with (at_builtin; refine wpList_append_of rfl (.tmp 33) (.tmp 35) 25 rfl (.slice A g c) (.slice (some ⟨wr.heap.size, 0, none⟩) 1 1) rfl rfl HA.out ?_; rintro v6 w6 ⟨A6, c6, h, rfl, o6, m6, B6, e6⟩; have k6 := KW.out.below B6 yW; have p6 : w6.cell? ⟨gW, 9, none⟩ = some (.slice A g c) := (k6.cell 9).trans rfl; have f6 := k6.frozen 9; have z6 := k6.lt; have HO6 := Lib.hid o6; have HM6 := Lib.hid m6; have HB6 := Lib.hid B6; have HK6 := Lib.hid k6; clear o6 m6 B6 k6)
          go_roundw
          case rel =>
            refine ⟨g + 1, A6, c6, fs ++ h, by omega, by go_num, Blk.far (KS.out.below HB6.out y0) (by simp; omega) _, Blk.far (KR.out.below HB6.out yR) (by simp; omega) _, Blk.set_ HK6.out 9 _, Blk.far (KT.out.below HB6.out yT) (by simp; omega) _, OwnL.far_ (rSlice.local_ rDrive.local_) HO6.out HM6.out (by simp; omega) _, Mine.set_ HM6.out _ _, (HB.out.trans (HB6.out.mono (by omega))).setCell (by simp; omega) _, ?_⟩
            simp [World.setCell]; omega
          case measure => simp [intOf]; omega
        have p4 : wr.cell? ⟨w.heap.size, 4, none⟩ = some (.int .i64 (N : Int)) := ((KS.out.below hb4 x0).cell 4).trans (by rw [← HS.out.rows]; rfl)
        have z4 : w.heap.size < wr.heap.size := Nat.lt_of_lt_of_le x0 hb4.size
        have HO4 := Lib.hid ho4; have HM4 := Lib.hid hm4; have HB4 := Lib.hid hb4
        clear ho4 hm4 hb4 B3 kE
        have HA := Lib.hid (show ∀ (w5 : World) (A3 : Option Addr) (c3 : Nat) (f : List Addr), Below wr.heap.size wr w5 → rSl 2 rBlock w5 f (.slice A3 N c3) (List.replicate N blk0) → Mine wr.heap.size w5 f → ∃ v' w', (Builtin.append_ #[55, 55] 55 #[.slice A2 k c2, .slice (some ⟨w5.heap.size, 0, none⟩) 1 1]).run Try.prog (w5.alloc (.cells #[.bool false, .slice A3 N c3] 58)) = .ok v' w' ∧ ∃ A c h, v' = .slice A (k + 1) c ∧ OwnL 2 58 rDrive w' u.heap.size v' (List.replicate (k + 1) (drv0 N)) (f2 ++ h) ∧ Mine u.heap.size w' (f2 ++ h) ∧ Below u.heap.size wr w' ∧ wr.heap.size ≤ w'.heap.size from fun w5 A3 c3 f B2 hr hf => by
          have := appendStep (P := Try.prog) (R := rDrive) 55 55 (.agg #[.bool false, .slice none 0 0]) 32 Try.underlying55 Try.infoDrive rfl (by decide) rDrive.local_ rDrive.fixed rDrive.ones (by omega) HO4.out HM4.out HB4.out.size (by simp; omega) (us := [.bool false, .slice A3 N c3]) (f := f) (d := drv0 N) (W := w5.alloc (.cells #[.bool false, .slice A3 N c3] 58)) (b := w5.heap.size) B2 ⟨_, _, rfl, rfl, hr⟩ hf rfl (belowAlloc (Below.refl _ _) _) (Blk.new _ _ _)
          rw [repl_snoc, List.length_replicate] at this
          exact this)
        go_wp2_with (first | (go_at_call 27; refine (implBlank_c N _ hN6).mono ?_; rintro e w5 ⟨A3, c3, f, rfl, hr3, hm3, hb5⟩) | (at_builtin; refine wpList_append_of rfl (.tmp 24) (.tmp 29) 55 rfl (.slice A2 k c2) (.slice (some ⟨w5.heap.size, 0, none⟩) 1 1) rfl rfl (HA.out w5 A3 c3 f hb5 hr3 hm3) ?_; rintro v6 w6 ⟨A6, c6, h, rfl, o6, m6, B6, e6⟩; have HO6 := Lib.hid o6; have HM6 := Lib.hid m6; have HB6 := Lib.hid B6; clear o6 m6 B6))
        go_roundw
        case rel => exact ⟨k + 1, A6, c6, f2 ++ h, by omega, by go_num, rfl, HO6.out, HM6.out, HB4.out.trans HB6.out⟩
        case measure => simp [intOf]; omega

end Go.Proofs.Ytabainoplkpppaa
