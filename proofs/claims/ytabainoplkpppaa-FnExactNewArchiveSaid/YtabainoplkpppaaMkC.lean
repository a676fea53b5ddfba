/-
  The laws' mark* and held* over a world and a desk (printed by wip/nastruct.py).
-/
import Derived.Test.YtabainoplkpppaaMkB
import Derived.Test.YtabainoplkpppaaEqs4
namespace Go.Proofs.Ytabainoplkpppaa
open Go.RowKit Go.Sort

theorem Blk.wrote {w w' : World} {fs : List Addr} {g : Nat} {t : TypeId} {cs : Array Value} (h : Blk w g t cs) (hw : Wrote fs w w') (hf : ∀ a, a ∈ fs → a.block ≠ g) : Blk w' g t cs := (hw.block g h.lt hf).trans h
theorem Mine.left {lo : Nat} {w : World} {f g : List Addr} (h : Mine lo w (f ++ g)) : Mine lo w f := ⟨(List.nodup_append.1 h.nodup).1, fun a ha => h.from_ a (List.mem_append_left _ ha), fun a ha => h.free a (List.mem_append_left _ ha)⟩
theorem Mine.right {lo : Nat} {w : World} {f g : List Addr} (h : Mine lo w (f ++ g)) : Mine lo w g := ⟨(List.nodup_append.1 h.nodup).2.1, fun a ha => h.from_ a (List.mem_append_right _ ha), fun a ha => h.free a (List.mem_append_right _ ha)⟩
theorem Mine.apart {lo : Nat} {w : World} {f g : List Addr} (h : Mine lo w (f ++ g)) (a : Addr) (ha : a ∈ f) (hb : a ∈ g) : False := (List.nodup_append.1 h.nodup).2.2 a ha a hb rfl
theorem Mine.below {lo : Nat} {w w' : World} {f : List Addr} (h : Mine lo w f) (hb : Below w.heap.size w w') (ht : There f w) : Mine lo w' f := h.wrote (Wrote.of_below (fs := f) hb) ht

theorem markInt64S_d (v : Value) (xs : List Int) (fs : List Addr) (w : World) (k : Nat) (lo : Nat) (h1 : rSl 1 rInt w fs v xs) (hm : Mine lo w fs) (_ : 0 < k) (hk0 : k + xs.length ≤ 1000000000) :
    Calls Try.prog 44 #[v, .int .i64 (k : Int)] w fun e w' => e = .returned (.int .i64 ((k + xs.length : Nat) : Int)) ∧ Wrote fs w w' ∧ rSl 1 rInt w' fs v (mkI k xs.length) := markInt64S_c v xs fs w k lo h1 hm (by omega) (by omega)
theorem heldInt64S_d (v : Value) (xs : List Int) (fs : List Addr) (w : World) (k : Nat) (h1 : rSl 1 rInt w fs v (mkI k xs.length)) (_ : 0 < k) (hk0 : k + xs.length ≤ 1000000000) :
    Calls Try.prog 50 #[v, .int .i64 (k : Int)] w fun e w' => e = .returned (.int .i64 ((k + xs.length : Nat) : Int)) ∧ Below w.heap.size w w' := heldInt64S_c v xs.length fs w k h1 (by omega) (by omega)

def numWorld (d : WorldD) : Nat := numSeq (numSeq numDrive) d.groups + d.on.length + numSeq numTape d.tapes
def oneWorld (k : Nat) (d : WorldD) : WorldD := { d with groups := (markSeq (markSeq oneDrive numDrive) (numSeq numDrive) (k) d.groups), on := (mkI (k + numSeq (numSeq numDrive) d.groups) d.on.length), tapes := (markSeq oneTape numTape (k + numSeq (numSeq numDrive) d.groups + d.on.length) d.tapes) }

set_option maxHeartbeats 2000000 in
set_option maxRecDepth 100000 in
theorem markWorld_c (d : WorldD) (cs : List Value) (fs : List Addr) (w : World) (k lo : Nat) (h1 : rWorld w fs cs d) (hm : Mine lo w fs) (hk : 0 < k) (hk0 : k + numWorld d ≤ 1000000000) (hg : d.groups.length ≤ 1000000000) (ht : ∀ t, t ∈ d.tapes → t.recs = []) :
    Calls Try.prog 30 #[.agg cs.toArray, .int .i64 (k : Int)] w fun e w' => e = .returned (.int .i64 ((k + numWorld d : Nat) : Int)) ∧ Wrote fs w w' ∧ rWorld w' fs cs (oneWorld k d) := by
  obtain ⟨v0, v1, v2, f0, f1, f2, e, ef, o0, o1, o2, o3, o4, o5, o6, o7, o8, o9, o10, h0, h1, h2⟩ := h1
  subst e ef
  have T0 := Lib.hid (rSl.there (rSlice.fixed rDrive.fixed) h0)
  have T1 := Lib.hid (rSl.there rInt.fixed h1)
  have T2 := Lib.hid (rSl.there rTape.fixed h2)
  have H0 := Lib.hid h0
  obtain ⟨A0, c0, rfl, -⟩ := rSl.head h0
  clear h0
  have H1 := Lib.hid h1
  obtain ⟨A1, c1, rfl, -⟩ := rSl.head h1
  clear h1
  have H2 := Lib.hid h2
  obtain ⟨A2, c2, rfl, -⟩ := rSl.head h2
  clear h2
  have MM := Lib.hid hm
  have M0 := Lib.hid hm.left; have M1 := Lib.hid hm.right.left; have M2 := Lib.hid hm.right.right
  have D01 := Lib.hid (fun a (ha : a ∈ f0) (hb : a ∈ f1) => hm.apart a ha (List.mem_append_left _ hb)); have D02 := Lib.hid (fun a (ha : a ∈ f0) (hb : a ∈ f2) => hm.apart a ha (List.mem_append_right _ hb)); have D12 := Lib.hid (fun a (ha : a ∈ f1) (hb : a ∈ f2) => hm.right.apart a ha hb)
  clear hm
  obtain ⟨n0, hn0⟩ : ∃ n0 : Nat, numSeq (numSeq numDrive) d.groups = n0 := ⟨_, rfl⟩
  obtain ⟨n1, hn1⟩ : ∃ n1 : Nat, d.on.length = n1 := ⟨_, rfl⟩
  obtain ⟨n2, hn2⟩ : ∃ n2 : Nat, numSeq numTape d.tapes = n2 := ⟨_, rfl⟩
  have hnw : numWorld d = n0 + n1 + n2 := by unfold numWorld; rw [hn0, hn1, hn2]
  rw [hnw] at hk0 ⊢
  clear hnw
  have N0 := Lib.hid hn0; clear hn0
  have N1 := Lib.hid hn1; clear hn1
  have N2 := Lib.hid hn2; clear hn2
  have hbx := (Below.refl w.heap.size w).alloc (Nat.le_refl _) (.cells #[.int .i64 d.shape.groups, .int .i64 d.shape.column, .int .i64 d.shape.data, .int .i64 d.shape.spare, .int .i64 d.shape.rows, .int .i64 d.shape.cap, .int .i64 d.shape.batch, .int .i64 d.shape.queue, .int .i64 d.shape.stage, .slice A0 d.groups.length c0, .slice A1 d.on.length c1, .slice A2 d.tapes.length c2, .int .i64 d.writes, .int .i64 d.stop, .bool d.down] 29)
  have HBX := Lib.hid hbx; clear hbx
  have HYP := Lib.hid (And.intro hk0 (And.intro hg ht)); clear hg ht
  go_enter Try.func30, Try.ntmps30
  go_wp2_with fail
  have rr := rSl.below (rSlice.local_ rDrive.local_) (rSlice.fixed rDrive.fixed) H0.out HBX.out; have mm := M0.out.below HBX.out T0.out
  refine (markDriveSS_c _ d.groups f0 _ (k) lo rr mm (by omega) (by rw [N0.out]; have := HYP.out.1; omega) HYP.out.2.1).mono ?_
  rintro e w0 ⟨rfl, hw, hr⟩
  rw [N0.out]
  have R0 := Lib.hid hr; clear hr rr mm
  have WF0 := Lib.hid ((Wrote.of_below (fs := f0) HBX.out).trans hw)
  have hK := Blk.wrote (Blk.new w 29 #[.int .i64 d.shape.groups, .int .i64 d.shape.column, .int .i64 d.shape.data, .int .i64 d.shape.spare, .int .i64 d.shape.rows, .int .i64 d.shape.cap, .int .i64 d.shape.batch, .int .i64 d.shape.queue, .int .i64 d.shape.stage, .slice A0 d.groups.length c0, .slice A1 d.on.length c1, .slice A2 d.tapes.length c2, .int .i64 d.writes, .int .i64 d.stop, .bool d.down]) hw (fun a ha e => by have := T0.out a ha; omega)
  have pk := Blk.cell hK 10
  simp only [List.getElem?_toArray, List.getElem?_cons_zero, List.getElem?_cons_succ] at pk
  have K0 := Lib.hid hK; clear hK
  clear hw
  go_wp2_with fail
  clear pk
  have rr := rSl.keep rInt.local_ H1.out (WF0.out.same T1.out (fun a ha hb => D01.out a hb ha)); have mm := M1.out.wrote WF0.out T1.out
  refine (markInt64S_d _ d.on f1 _ (k + n0) lo rr mm (by omega) (by rw [N1.out]; have := HYP.out.1; omega) ).mono ?_
  rintro e w1 ⟨rfl, hw, hr⟩
  rw [N1.out]
  have R1 := Lib.hid hr; clear hr rr mm
  have WF1 := Lib.hid ((WF0.out.mono (gs := f0 ++ f1) (fun a ha => List.mem_append_left _ ha)).trans (hw.mono (fun a ha => List.mem_append_right _ ha)))
  have hK := Blk.wrote K0.out hw (fun a ha e => by have := T1.out a ha; omega)
  have pk := Blk.cell hK 11
  simp only [List.getElem?_toArray, List.getElem?_cons_zero, List.getElem?_cons_succ] at pk
  have K1 := Lib.hid hK; clear hK
  have R0_ := R0.out; clear R0; have R0 := Lib.hid (rSl.keep (rSlice.local_ rDrive.local_) R0_ (hw.same (fun a ha => Nat.lt_of_lt_of_le (T0.out a ha) WF0.out.size) (fun a ha hb => D01.out a ha hb))); clear R0_
  clear hw
  go_wp2_with fail
  clear pk
  have rr := rSl.keep rTape.local_ H2.out (WF1.out.same T2.out (fun a ha hb => (List.mem_append.1 hb).elim (fun h => D02.out a h ha) (fun h => D12.out a h ha))); have mm := M2.out.wrote WF1.out T2.out
  refine (markTapeS_c _ d.tapes f2 _ (k + n0 + n1) lo rr mm (by omega) (by rw [N2.out]; have := HYP.out.1; omega) HYP.out.2.2).mono ?_
  rintro e w2 ⟨rfl, hw, hr⟩
  rw [N2.out]
  have R2 := Lib.hid hr; clear hr rr mm
  have WF2 := Lib.hid ((WF1.out.mono (gs := f0 ++ (f1 ++ f2)) (fun a ha => by simp only [List.mem_append] at ha ⊢; rcases ha with h | h <;> simp [h])).trans (hw.mono (fun a ha => by simp [ha])))
  have R0_ := R0.out; clear R0; have R0 := Lib.hid (rSl.keep (rSlice.local_ rDrive.local_) R0_ (hw.same (fun a ha => Nat.lt_of_lt_of_le (T0.out a ha) WF1.out.size) (fun a ha hb => D02.out a ha hb))); clear R0_
  have R1_ := R1.out; clear R1; have R1 := Lib.hid (rSl.keep rInt.local_ R1_ (hw.same (fun a ha => Nat.lt_of_lt_of_le (T1.out a ha) WF1.out.size) (fun a ha hb => D12.out a ha hb))); clear R1_
  clear hw
  go_wp2_with fail
  go_ret
  refine ⟨retInt (by omega), WF2.out, _, _, _, f0, f1, f2, rfl, rfl, o0, o1, o2, o3, o4, o5, o6, o7, o8, o9, o10, ?_, ?_, ?_⟩
  · exact R0.out
  · have := R1.out; rw [← N0.out] at this; exact this
  · have := R2.out; rw [← N0.out, ← N1.out] at this; exact this

set_option maxHeartbeats 2000000 in
set_option maxRecDepth 100000 in
theorem heldWorld_c (d : WorldD) (cs : List Value) (fs : List Addr) (w : World) (k : Nat) (h1 : rWorld w fs cs (oneWorld k d)) (hk : 0 < k) (hk0 : k + numWorld d ≤ 1000000000) (hg : d.groups.length ≤ 1000000000) (ht : ∀ t, t ∈ d.tapes → t.recs = []) :
    Calls Try.prog 32 #[.agg cs.toArray, .int .i64 (k : Int)] w fun e w' => e = .returned (.int .i64 ((k + numWorld d : Nat) : Int)) ∧ Below w.heap.size w w' := by
  obtain ⟨v0, v1, v2, f0, f1, f2, e, -, o0, o1, o2, o3, o4, o5, o6, o7, o8, o9, o10, h0, h1, h2⟩ := h1
  subst e
  have H0 := Lib.hid h0
  obtain ⟨A0, c0, e, -⟩ := rSl.head h0
  simp only [oneWorld, markSeq_length] at e
  subst e
  clear h0
  have H1 := Lib.hid h1
  obtain ⟨A1, c1, e, -⟩ := rSl.head h1
  simp only [oneWorld, length_mkI] at e
  subst e
  clear h1
  have H2 := Lib.hid h2
  obtain ⟨A2, c2, e, -⟩ := rSl.head h2
  simp only [oneWorld, markSeq_length] at e
  subst e
  clear h2
  simp only [oneWorld]
  obtain ⟨n0, hn0⟩ : ∃ n0 : Nat, numSeq (numSeq numDrive) d.groups = n0 := ⟨_, rfl⟩
  obtain ⟨n1, hn1⟩ : ∃ n1 : Nat, d.on.length = n1 := ⟨_, rfl⟩
  obtain ⟨n2, hn2⟩ : ∃ n2 : Nat, numSeq numTape d.tapes = n2 := ⟨_, rfl⟩
  have hnw : numWorld d = n0 + n1 + n2 := by unfold numWorld; rw [hn0, hn1, hn2]
  rw [hnw] at hk0 ⊢
  clear hnw
  have N0 := Lib.hid hn0; clear hn0
  have N1 := Lib.hid hn1; clear hn1
  have N2 := Lib.hid hn2; clear hn2
  have hbx := (Below.refl w.heap.size w).alloc (Nat.le_refl _) (.cells #[.int .i64 d.shape.groups, .int .i64 d.shape.column, .int .i64 d.shape.data, .int .i64 d.shape.spare, .int .i64 d.shape.rows, .int .i64 d.shape.cap, .int .i64 d.shape.batch, .int .i64 d.shape.queue, .int .i64 d.shape.stage, .slice A0 d.groups.length c0, .slice A1 d.on.length c1, .slice A2 d.tapes.length c2, .int .i64 d.writes, .int .i64 d.stop, .bool d.down] 29)
  have HB := Lib.hid hbx; clear hbx
  have HYP := Lib.hid (And.intro hk0 (And.intro hg ht)); clear hg ht
  go_enter Try.func32, Try.ntmps32
  go_wp2_with fail
  have rr := rSl.below (rSlice.local_ rDrive.local_) (rSlice.fixed rDrive.fixed) H0.out HB.out
  refine (heldDriveSS_c _ d.groups f0 _ (k) rr (by omega) (by rw [N0.out]; have := HYP.out.1; omega) HYP.out.2.1).mono ?_
  rintro e w0 ⟨rfl, hb⟩
  rw [N0.out]
  clear rr
  have hK := Blk.below (Blk.new w 29 #[.int .i64 d.shape.groups, .int .i64 d.shape.column, .int .i64 d.shape.data, .int .i64 d.shape.spare, .int .i64 d.shape.rows, .int .i64 d.shape.cap, .int .i64 d.shape.batch, .int .i64 d.shape.queue, .int .i64 d.shape.stage, .slice A0 d.groups.length c0, .slice A1 d.on.length c1, .slice A2 d.tapes.length c2, .int .i64 d.writes, .int .i64 d.stop, .bool d.down]) hb (by simp)
  have pk := Blk.cell hK 10
  simp only [List.getElem?_toArray, List.getElem?_cons_zero, List.getElem?_cons_succ] at pk
  have K0 := Lib.hid hK; clear hK
  replace HB := Lib.hid (HB.out.trans (hb.mono HB.out.size)); clear hb
  have hnn : ¬ ((k + n0 : Nat) : Int) < 0 := by omega
  go_wp2_with fail
  clear hnn pk
  have rr := rSl.below rInt.local_ rInt.fixed H1.out HB.out
  simp only [oneWorld, N0.out] at rr
  refine (heldInt64S_d _ d.on f1 _ (k + n0) rr (by omega) (by rw [N1.out]; have := HYP.out.1; omega) ).mono ?_
  rintro e w1 ⟨rfl, hb⟩
  rw [N1.out]
  clear rr
  have hK := Blk.below K0.out hb K0.out.lt
  have pk := Blk.cell hK 11
  simp only [List.getElem?_toArray, List.getElem?_cons_zero, List.getElem?_cons_succ] at pk
  have K1 := Lib.hid hK; clear hK
  replace HB := Lib.hid (HB.out.trans (hb.mono HB.out.size)); clear hb
  have hnn : ¬ ((k + n0 + n1 : Nat) : Int) < 0 := by omega
  go_wp2_with fail
  clear hnn pk
  have rr := rSl.below rTape.local_ rTape.fixed H2.out HB.out
  simp only [oneWorld, N0.out, N1.out] at rr
  refine (heldTapeS_c _ d.tapes f2 _ (k + n0 + n1) rr (by omega) (by rw [N2.out]; have := HYP.out.1; omega) HYP.out.2.2).mono ?_
  rintro e w2 ⟨rfl, hb⟩
  rw [N2.out]
  clear rr
  replace HB := Lib.hid (HB.out.trans (hb.mono HB.out.size)); clear hb
  have hnn : ¬ ((k + n0 + n1 + n2 : Nat) : Int) < 0 := by omega
  go_wp2_with fail
  clear hnn
  go_ret
  exact ⟨retInt (by omega), HB.out⟩

def numDesk (d : DeskD) : Nat := numSeq (numSeq numTicket) d.queues + numSeq numTicket d.aside + numSeq numAnswer d.answers
def oneDesk (k : Nat) (d : DeskD) : DeskD := { d with queues := (markSeq (markSeq oneTicket numTicket) (numSeq numTicket) (k) d.queues), aside := (markSeq oneTicket numTicket (k + numSeq (numSeq numTicket) d.queues) d.aside), answers := (markSeq oneAnswer numAnswer (k + numSeq (numSeq numTicket) d.queues + numSeq numTicket d.aside) d.answers) }

set_option maxHeartbeats 2000000 in
set_option maxRecDepth 100000 in
theorem markDesk_c (d : DeskD) (cs : List Value) (fs : List Addr) (w : World) (k lo : Nat) (h1 : rDesk w fs cs d) (hm : Mine lo w fs) (hk : 0 < k) (hk0 : k + numDesk d ≤ 1000000000) (hg : d.queues.length ≤ 1000000000) (hq : ∀ t, t ∈ d.queues → t = []) (ha : d.aside = []) (hw : d.answers = []) :
    Calls Try.prog 31 #[.agg cs.toArray, .int .i64 (k : Int)] w fun e w' => e = .returned (.int .i64 ((k + numDesk d : Nat) : Int)) ∧ Wrote fs w w' ∧ rDesk w' fs cs (oneDesk k d) := by
  obtain ⟨v0, v1, v2, f0, f1, f2, e, ef, o0, o1, h0, h1, h2⟩ := h1
  subst e ef
  have T0 := Lib.hid (rSl.there (rSlice.fixed rTicket.fixed) h0)
  have T1 := Lib.hid (rSl.there rTicket.fixed h1)
  have T2 := Lib.hid (rSl.there rAnswer.fixed h2)
  have H0 := Lib.hid h0
  obtain ⟨A0, c0, rfl, -⟩ := rSl.head h0
  clear h0
  have H1 := Lib.hid h1
  obtain ⟨A1, c1, rfl, -⟩ := rSl.head h1
  clear h1
  have H2 := Lib.hid h2
  obtain ⟨A2, c2, rfl, -⟩ := rSl.head h2
  clear h2
  have MM := Lib.hid hm
  have M0 := Lib.hid hm.left; have M1 := Lib.hid hm.right.left; have M2 := Lib.hid hm.right.right
  have D01 := Lib.hid (fun a (ha : a ∈ f0) (hb : a ∈ f1) => hm.apart a ha (List.mem_append_left _ hb)); have D02 := Lib.hid (fun a (ha : a ∈ f0) (hb : a ∈ f2) => hm.apart a ha (List.mem_append_right _ hb)); have D12 := Lib.hid (fun a (ha : a ∈ f1) (hb : a ∈ f2) => hm.right.apart a ha hb)
  clear hm
  obtain ⟨n0, hn0⟩ : ∃ n0 : Nat, numSeq (numSeq numTicket) d.queues = n0 := ⟨_, rfl⟩
  obtain ⟨n1, hn1⟩ : ∃ n1 : Nat, numSeq numTicket d.aside = n1 := ⟨_, rfl⟩
  obtain ⟨n2, hn2⟩ : ∃ n2 : Nat, numSeq numAnswer d.answers = n2 := ⟨_, rfl⟩
  have hnw : numDesk d = n0 + n1 + n2 := by unfold numDesk; rw [hn0, hn1, hn2]
  rw [hnw] at hk0 ⊢
  clear hnw
  have N0 := Lib.hid hn0; clear hn0
  have N1 := Lib.hid hn1; clear hn1
  have N2 := Lib.hid hn2; clear hn2
  have hbx := (Below.refl w.heap.size w).alloc (Nat.le_refl _) (.cells #[.slice A0 d.queues.length c0, .slice A1 d.aside.length c1, .slice A2 d.answers.length c2, .int .i64 d.turn, .int .i64 d.next] 34)
  have HBX := Lib.hid hbx; clear hbx
  have HYP := Lib.hid (And.intro hk0 (And.intro hg (And.intro hq (And.intro ha hw)))); clear hg hq ha hw
  go_enter Try.func31, Try.ntmps31
  go_wp2_with fail
  have rr := rSl.below (rSlice.local_ rTicket.local_) (rSlice.fixed rTicket.fixed) H0.out HBX.out; have mm := M0.out.below HBX.out T0.out
  refine (markTicketSS_c _ d.queues f0 _ (k) lo rr mm (by omega) (by rw [N0.out]; have := HYP.out.1; omega) HYP.out.2.1 HYP.out.2.2.1).mono ?_
  rintro e w0 ⟨rfl, hw, hr⟩
  rw [N0.out]
  have R0 := Lib.hid hr; clear hr rr mm
  have WF0 := Lib.hid ((Wrote.of_below (fs := f0) HBX.out).trans hw)
  have hK := Blk.wrote (Blk.new w 34 #[.slice A0 d.queues.length c0, .slice A1 d.aside.length c1, .slice A2 d.answers.length c2, .int .i64 d.turn, .int .i64 d.next]) hw (fun a ha e => by have := T0.out a ha; omega)
  have pk := Blk.cell hK 1
  simp only [List.getElem?_toArray, List.getElem?_cons_zero, List.getElem?_cons_succ] at pk
  have K0 := Lib.hid hK; clear hK
  clear hw
  go_wp2_with fail
  clear pk
  have rr := rSl.keep rTicket.local_ H1.out (WF0.out.same T1.out (fun a ha hb => D01.out a hb ha)); have mm := M1.out.wrote WF0.out T1.out
  refine (markTicketS_c _ d.aside f1 _ (k + n0) lo rr mm (by omega) (by rw [N1.out]; have := HYP.out.1; omega) HYP.out.2.2.2.1).mono ?_
  rintro e w1 ⟨rfl, hw, hr⟩
  rw [N1.out]
  have R1 := Lib.hid hr; clear hr rr mm
  have WF1 := Lib.hid ((WF0.out.mono (gs := f0 ++ f1) (fun a ha => List.mem_append_left _ ha)).trans (hw.mono (fun a ha => List.mem_append_right _ ha)))
  have hK := Blk.wrote K0.out hw (fun a ha e => by have := T1.out a ha; omega)
  have pk := Blk.cell hK 2
  simp only [List.getElem?_toArray, List.getElem?_cons_zero, List.getElem?_cons_succ] at pk
  have K1 := Lib.hid hK; clear hK
  have R0_ := R0.out; clear R0; have R0 := Lib.hid (rSl.keep (rSlice.local_ rTicket.local_) R0_ (hw.same (fun a ha => Nat.lt_of_lt_of_le (T0.out a ha) WF0.out.size) (fun a ha hb => D01.out a ha hb))); clear R0_
  clear hw
  go_wp2_with fail
  clear pk
  have rr := rSl.keep rAnswer.local_ H2.out (WF1.out.same T2.out (fun a ha hb => (List.mem_append.1 hb).elim (fun h => D02.out a h ha) (fun h => D12.out a h ha))); have mm := M2.out.wrote WF1.out T2.out
  refine (markAnswerS_c _ d.answers f2 _ (k + n0 + n1) lo rr mm (by omega) (by rw [N2.out]; have := HYP.out.1; omega) HYP.out.2.2.2.2).mono ?_
  rintro e w2 ⟨rfl, hw, hr⟩
  rw [N2.out]
  have R2 := Lib.hid hr; clear hr rr mm
  have WF2 := Lib.hid ((WF1.out.mono (gs := f0 ++ (f1 ++ f2)) (fun a ha => by simp only [List.mem_append] at ha ⊢; rcases ha with h | h <;> simp [h])).trans (hw.mono (fun a ha => by simp [ha])))
  have R0_ := R0.out; clear R0; have R0 := Lib.hid (rSl.keep (rSlice.local_ rTicket.local_) R0_ (hw.same (fun a ha => Nat.lt_of_lt_of_le (T0.out a ha) WF1.out.size) (fun a ha hb => D02.out a ha hb))); clear R0_
  have R1_ := R1.out; clear R1; have R1 := Lib.hid (rSl.keep rTicket.local_ R1_ (hw.same (fun a ha => Nat.lt_of_lt_of_le (T1.out a ha) WF1.out.size) (fun a ha hb => D12.out a ha hb))); clear R1_
  clear hw
  go_wp2_with fail
  go_ret
  refine ⟨retInt (by omega), WF2.out, _, _, _, f0, f1, f2, rfl, rfl, o0, o1, ?_, ?_, ?_⟩
  · exact R0.out
  · have := R1.out; rw [← N0.out] at this; exact this
  · have := R2.out; rw [← N0.out, ← N1.out] at this; exact this

set_option maxHeartbeats 2000000 in
set_option maxRecDepth 100000 in
theorem heldDesk_c (d : DeskD) (cs : List Value) (fs : List Addr) (w : World) (k : Nat) (h1 : rDesk w fs cs (oneDesk k d)) (hk : 0 < k) (hk0 : k + numDesk d ≤ 1000000000) (hg : d.queues.length ≤ 1000000000) (hq : ∀ t, t ∈ d.queues → t = []) (ha : d.aside = []) (hw : d.answers = []) :
    Calls Try.prog 33 #[.agg cs.toArray, .int .i64 (k : Int)] w fun e w' => e = .returned (.int .i64 ((k + numDesk d : Nat) : Int)) ∧ Below w.heap.size w w' := by
  obtain ⟨v0, v1, v2, f0, f1, f2, e, -, o0, o1, h0, h1, h2⟩ := h1
  subst e
  have H0 := Lib.hid h0
  obtain ⟨A0, c0, e, -⟩ := rSl.head h0
  simp only [oneDesk, markSeq_length] at e
  subst e
  clear h0
  have H1 := Lib.hid h1
  obtain ⟨A1, c1, e, -⟩ := rSl.head h1
  simp only [oneDesk, markSeq_length] at e
  subst e
  clear h1
  have H2 := Lib.hid h2
  obtain ⟨A2, c2, e, -⟩ := rSl.head h2
  simp only [oneDesk, markSeq_length] at e
  subst e
  clear h2
  simp only [oneDesk]
  obtain ⟨n0, hn0⟩ : ∃ n0 : Nat, numSeq (numSeq numTicket) d.queues = n0 := ⟨_, rfl⟩
  obtain ⟨n1, hn1⟩ : ∃ n1 : Nat, numSeq numTicket d.aside = n1 := ⟨_, rfl⟩
  obtain ⟨n2, hn2⟩ : ∃ n2 : Nat, numSeq numAnswer d.answers = n2 := ⟨_, rfl⟩
  have hnw : numDesk d = n0 + n1 + n2 := by unfold numDesk; rw [hn0, hn1, hn2]
  rw [hnw] at hk0 ⊢
  clear hnw
  have N0 := Lib.hid hn0; clear hn0
  have N1 := Lib.hid hn1; clear hn1
  have N2 := Lib.hid hn2; clear hn2
  have hbx := (Below.refl w.heap.size w).alloc (Nat.le_refl _) (.cells #[.slice A0 d.queues.length c0, .slice A1 d.aside.length c1, .slice A2 d.answers.length c2, .int .i64 d.turn, .int .i64 d.next] 34)
  have HB := Lib.hid hbx; clear hbx
  have HYP := Lib.hid (And.intro hk0 (And.intro hg (And.intro hq (And.intro ha hw)))); clear hg hq ha hw
  go_enter Try.func33, Try.ntmps33
  go_wp2_with fail
  have rr := rSl.below (rSlice.local_ rTicket.local_) (rSlice.fixed rTicket.fixed) H0.out HB.out
  refine (heldTicketSS_c _ d.queues f0 _ (k) rr (by omega) (by rw [N0.out]; have := HYP.out.1; omega) HYP.out.2.1 HYP.out.2.2.1).mono ?_
  rintro e w0 ⟨rfl, hb⟩
  rw [N0.out]
  clear rr
  have hK := Blk.below (Blk.new w 34 #[.slice A0 d.queues.length c0, .slice A1 d.aside.length c1, .slice A2 d.answers.length c2, .int .i64 d.turn, .int .i64 d.next]) hb (by simp)
  have pk := Blk.cell hK 1
  simp only [List.getElem?_toArray, List.getElem?_cons_zero, List.getElem?_cons_succ] at pk
  have K0 := Lib.hid hK; clear hK
  replace HB := Lib.hid (HB.out.trans (hb.mono HB.out.size)); clear hb
  have hnn : ¬ ((k + n0 : Nat) : Int) < 0 := by omega
  go_wp2_with fail
  clear hnn pk
  have rr := rSl.below rTicket.local_ rTicket.fixed H1.out HB.out
  simp only [oneDesk, N0.out] at rr
  refine (heldTicketS_c _ d.aside f1 _ (k + n0) rr (by omega) (by rw [N1.out]; have := HYP.out.1; omega) HYP.out.2.2.2.1).mono ?_
  rintro e w1 ⟨rfl, hb⟩
  rw [N1.out]
  clear rr
  have hK := Blk.below K0.out hb K0.out.lt
  have pk := Blk.cell hK 2
  simp only [List.getElem?_toArray, List.getElem?_cons_zero, List.getElem?_cons_succ] at pk
  have K1 := Lib.hid hK; clear hK
  replace HB := Lib.hid (HB.out.trans (hb.mono HB.out.size)); clear hb
  have hnn : ¬ ((k + n0 + n1 : Nat) : Int) < 0 := by omega
  go_wp2_with fail
  clear hnn pk
  have rr := rSl.below rAnswer.local_ rAnswer.fixed H2.out HB.out
  simp only [oneDesk, N0.out, N1.out] at rr
  refine (heldAnswerS_c _ d.answers f2 _ (k + n0 + n1) rr (by omega) (by rw [N2.out]; have := HYP.out.1; omega) HYP.out.2.2.2.2).mono ?_
  rintro e w2 ⟨rfl, hb⟩
  rw [N2.out]
  clear rr
  replace HB := Lib.hid (HB.out.trans (hb.mono HB.out.size)); clear hb
  have hnn : ¬ ((k + n0 + n1 + n2 : Nat) : Int) < 0 := by omega
  go_wp2_with fail
  clear hnn
  go_ret
  exact ⟨retInt (by omega), HB.out⟩

end Go.Proofs.Ytabainoplkpppaa
