/-
  The laws' mark* and held* over the slices of a new archive (printed by wip/namark.py).
-/
import Derived.Test.YtabainoplkpppaaMkD
namespace Go.Proofs.Ytabainoplkpppaa
open Go.RowKit Go.Sort

theorem numSeq_len {α : Type} (num : α → Nat) (h : ∀ d, 1 ≤ num d) : ∀ l : List α, l.length ≤ numSeq num l
  | [] => by simp
  | d :: r => by have := numSeq_len num h r; have := h d; simp only [List.length_cons, numSeq]; omega

theorem markByteS_d (v : Value) (xs : List UInt8) (fs : List Addr) (w : World) (k : Nat) (lo : Nat) (h1 : rSl 1 rByte w fs v xs) (hm : Mine lo w fs) (_ : 0 < k) (hk0 : k + xs.length ≤ 1000000000) :
    Calls Try.prog 62 #[v, .int .i64 (k : Int)] w fun e w' => e = .returned (.int .i64 ((k + xs.length : Nat) : Int)) ∧ Wrote fs w w' ∧ rSl 1 rByte w' fs v (mkBytes k xs.length) := by
  refine (markByteS_c v xs fs w k lo h1 hm (by omega) (by omega)).mono ?_
  rintro e w' ⟨rfl, h2, h3⟩
  exact ⟨by rw [Int.natCast_add], h2, h3⟩
theorem heldByteS_d (v : Value) (xs : List UInt8) (fs : List Addr) (w : World) (k : Nat) (h1 : rSl 1 rByte w fs v (mkBytes k xs.length)) (_ : 0 < k) (hk0 : k + xs.length ≤ 1000000000) :
    Calls Try.prog 65 #[v, .int .i64 (k : Int)] w fun e w' => e = .returned (.int .i64 ((k + xs.length : Nat) : Int)) ∧ Below w.heap.size w w' := by
  have hl : (mkBytes k xs.length).length = xs.length := length_mkBytes _ _
  refine (heldByteS_c v (mkBytes k xs.length) fs w k h1 (by omega) (by omega)).mono ?_
  rintro e w' ⟨rfl, h2⟩
  exact ⟨by rw [heldB_yes (by rw [hl]), hl, Int.natCast_add], h2⟩

set_option maxRecDepth 100000 in
theorem markRecS_c (v : Value) (ds : List RecD) (fs : List Addr) (w : World) (k lo : Nat) (h1 : rSl 9 rRec w fs v ds) (_ : Mine lo w fs) (_ : 0 < k) (hk0 : k + numSeq numRec ds ≤ 1000000000) (hne : ds = []) :
    Calls Try.prog 60 #[v, .int .i64 (k : Int)] w fun e w' => e = .returned (.int .i64 ((k + numSeq numRec ds : Nat) : Int)) ∧ Wrote fs w w' ∧ rSl 9 rRec w' fs v (markSeq oneRec numRec k ds) := by
  subst hne
  have H1 := Lib.hid h1
  obtain ⟨A1, c1, rfl, hc1, hm1⟩ := rSl.head h1
  clear h1
  simp only [List.length_nil, numSeq, markSeq, Nat.add_zero] at hk0 ⊢
  go_enter Try.func60, Try.ntmps60
  go_wp2
  go_loopw [1, 5] (fun n i wr => i = .int .i64 0 ∧ n = .int .i64 (k : Int) ∧ wr = w) (fun _ _ _ => 0)
  case atStart => exact ⟨rfl, rfl, rfl⟩
  case round =>
    obtain ⟨rfl, rfl, rfl⟩ := hrel
    go_wp2_with fail
    go_ret
    exact ⟨rfl, Wrote.refl _ _, H1.out⟩

set_option maxRecDepth 100000 in
theorem heldRecS_c (v : Value) (ds : List RecD) (fs : List Addr) (w : World) (k : Nat) (h1 : rSl 9 rRec w fs v (markSeq oneRec numRec k ds)) (_ : 0 < k) (hk0 : k + numSeq numRec ds ≤ 1000000000) (hne : ds = []) :
    Calls Try.prog 64 #[v, .int .i64 (k : Int)] w fun e w' => e = .returned (.int .i64 ((k + numSeq numRec ds : Nat) : Int)) ∧ Below w.heap.size w w' := by
  subst hne
  obtain ⟨A1, c1, rfl, hc1, hm1⟩ := rSl.head h1
  clear h1
  simp only [List.length_nil, numSeq, markSeq, Nat.add_zero] at hk0 ⊢
  go_enter Try.func64, Try.ntmps64
  go_wp2
  go_loopw [1, 4, 5] (fun n r i wr => i = .int .i64 0 ∧ n = .int .i64 (k : Int) ∧ r = .int .i64 0 ∧ wr = w) (fun _ _ _ _ => 0)
  case atStart => exact ⟨rfl, rfl, rfl, rfl⟩
  case round =>
    obtain ⟨rfl, rfl, rfl, rfl⟩ := hrel
    go_wp2_with fail
    go_ret
    exact ⟨rfl, Below.refl _ _⟩

set_option maxRecDepth 100000 in
theorem markTicketS_c (v : Value) (ds : List TicketD) (fs : List Addr) (w : World) (k lo : Nat) (h1 : rSl 4 rTicket w fs v ds) (_ : Mine lo w fs) (_ : 0 < k) (hk0 : k + numSeq numTicket ds ≤ 1000000000) (hne : ds = []) :
    Calls Try.prog 47 #[v, .int .i64 (k : Int)] w fun e w' => e = .returned (.int .i64 ((k + numSeq numTicket ds : Nat) : Int)) ∧ Wrote fs w w' ∧ rSl 4 rTicket w' fs v (markSeq oneTicket numTicket k ds) := by
  subst hne
  have H1 := Lib.hid h1
  obtain ⟨A1, c1, rfl, hc1, hm1⟩ := rSl.head h1
  clear h1
  simp only [List.length_nil, numSeq, markSeq, Nat.add_zero] at hk0 ⊢
  go_enter Try.func47, Try.ntmps47
  go_wp2
  go_loopw [1, 5] (fun n i wr => i = .int .i64 0 ∧ n = .int .i64 (k : Int) ∧ wr = w) (fun _ _ _ => 0)
  case atStart => exact ⟨rfl, rfl, rfl⟩
  case round =>
    obtain ⟨rfl, rfl, rfl⟩ := hrel
    go_wp2_with fail
    go_ret
    exact ⟨rfl, Wrote.refl _ _, H1.out⟩

set_option maxRecDepth 100000 in
theorem heldTicketS_c (v : Value) (ds : List TicketD) (fs : List Addr) (w : World) (k : Nat) (h1 : rSl 4 rTicket w fs v (markSeq oneTicket numTicket k ds)) (_ : 0 < k) (hk0 : k + numSeq numTicket ds ≤ 1000000000) (hne : ds = []) :
    Calls Try.prog 53 #[v, .int .i64 (k : Int)] w fun e w' => e = .returned (.int .i64 ((k + numSeq numTicket ds : Nat) : Int)) ∧ Below w.heap.size w w' := by
  subst hne
  obtain ⟨A1, c1, rfl, hc1, hm1⟩ := rSl.head h1
  clear h1
  simp only [List.length_nil, numSeq, markSeq, Nat.add_zero] at hk0 ⊢
  go_enter Try.func53, Try.ntmps53
  go_wp2
  go_loopw [1, 4, 5] (fun n r i wr => i = .int .i64 0 ∧ n = .int .i64 (k : Int) ∧ r = .int .i64 0 ∧ wr = w) (fun _ _ _ _ => 0)
  case atStart => exact ⟨rfl, rfl, rfl, rfl⟩
  case round =>
    obtain ⟨rfl, rfl, rfl, rfl⟩ := hrel
    go_wp2_with fail
    go_ret
    exact ⟨rfl, Below.refl _ _⟩

set_option maxRecDepth 100000 in
theorem markAnswerS_c (v : Value) (ds : List AnswerD) (fs : List Addr) (w : World) (k lo : Nat) (h1 : rSl 4 rAnswer w fs v ds) (_ : Mine lo w fs) (_ : 0 < k) (hk0 : k + numSeq numAnswer ds ≤ 1000000000) (hne : ds = []) :
    Calls Try.prog 48 #[v, .int .i64 (k : Int)] w fun e w' => e = .returned (.int .i64 ((k + numSeq numAnswer ds : Nat) : Int)) ∧ Wrote fs w w' ∧ rSl 4 rAnswer w' fs v (markSeq oneAnswer numAnswer k ds) := by
  subst hne
  have H1 := Lib.hid h1
  obtain ⟨A1, c1, rfl, hc1, hm1⟩ := rSl.head h1
  clear h1
  simp only [List.length_nil, numSeq, markSeq, Nat.add_zero] at hk0 ⊢
  go_enter Try.func48, Try.ntmps48
  go_wp2
  go_loopw [1, 5] (fun n i wr => i = .int .i64 0 ∧ n = .int .i64 (k : Int) ∧ wr = w) (fun _ _ _ => 0)
  case atStart => exact ⟨rfl, rfl, rfl⟩
  case round =>
    obtain ⟨rfl, rfl, rfl⟩ := hrel
    go_wp2_with fail
    go_ret
    exact ⟨rfl, Wrote.refl _ _, H1.out⟩

set_option maxRecDepth 100000 in
theorem heldAnswerS_c (v : Value) (ds : List AnswerD) (fs : List Addr) (w : World) (k : Nat) (h1 : rSl 4 rAnswer w fs v (markSeq oneAnswer numAnswer k ds)) (_ : 0 < k) (hk0 : k + numSeq numAnswer ds ≤ 1000000000) (hne : ds = []) :
    Calls Try.prog 54 #[v, .int .i64 (k : Int)] w fun e w' => e = .returned (.int .i64 ((k + numSeq numAnswer ds : Nat) : Int)) ∧ Below w.heap.size w w' := by
  subst hne
  obtain ⟨A1, c1, rfl, hc1, hm1⟩ := rSl.head h1
  clear h1
  simp only [List.length_nil, numSeq, markSeq, Nat.add_zero] at hk0 ⊢
  go_enter Try.func54, Try.ntmps54
  go_wp2
  go_loopw [1, 4, 5] (fun n r i wr => i = .int .i64 0 ∧ n = .int .i64 (k : Int) ∧ r = .int .i64 0 ∧ wr = w) (fun _ _ _ _ => 0)
  case atStart => exact ⟨rfl, rfl, rfl, rfl⟩
  case round =>
    obtain ⟨rfl, rfl, rfl, rfl⟩ := hrel
    go_wp2_with fail
    go_ret
    exact ⟨rfl, Below.refl _ _⟩

set_option maxHeartbeats 2000000 in
set_option maxRecDepth 100000 in
theorem markBlockS_c (v : Value) (ds : List BlockD) (fs : List Addr) (w : World) (k lo : Nat) (h1 : rSl 2 rBlock w fs v ds) (hm : Mine lo w fs) (hk : 0 < k) (hk0 : k + numSeq numBlock ds ≤ 1000000000) :
    Calls Try.prog 69 #[v, .int .i64 (k : Int)] w fun e w' => e = .returned (.int .i64 ((k + numSeq numBlock ds : Nat) : Int)) ∧ Wrote fs w w' ∧ rSl 2 rBlock w' fs v (markSeq oneBlock numBlock k ds) := by
  have H1 := Lib.hid h1; have HM := Lib.hid hm
  obtain ⟨A1, c1, rfl, hc1, hm1⟩ := rSl.head h1
  clear h1 hm
  have hn0 : ds.length ≤ 1000000000 := by have := numSeq_len numBlock (fun d => by unfold numBlock; omega) ds; omega
  obtain ⟨R, hR⟩ : ∃ R : Nat, k + numSeq numBlock ds = R := ⟨_, rfl⟩
  have HNS := Lib.hid (fun j (h : j < ds.length) => show k + numSeq numBlock (ds.take j) + numBlock ds[j] ≤ 1000000000 from by
    have := numSeq_take numBlock h; have := numSeq_take_le numBlock ds (j + 1); omega)
  rw [hR] at hk0 ⊢
  have HR := Lib.hid hR; clear hR
  go_enter Try.func69, Try.ntmps69
  go_wp2
  go_loopw [1, 5] (fun n i wr => ∃ (j c : Nat), j ≤ ds.length ∧ c = k + numSeq numBlock (ds.take j) ∧ i = .int .i64 j ∧ n = .int .i64 (c : Int) ∧ rSl 2 rBlock wr fs (.slice A1 ds.length c1) (stageSeq oneBlock numBlock k ds j) ∧ Wrote fs w wr) (fun _ i _ => ds.length - (intOf i).toNat)
  case atStart => exact ⟨0, k, by omega, by simp [numSeq], rfl, rfl, by rw [stageSeq_zero]; exact H1.out, Wrote.refl _ _⟩
  case round =>
    obtain ⟨j, c, hj, hc, rfl, rfl, hrt, hwr⟩ := hrel
    by_cases hlt : j < ds.length
    case neg =>
      have hje : j = ds.length := by omega
      subst hje
      rw [stageSeq_all] at hrt
      rw [List.take_length, HR.out] at hc
      subst hc
      have HW := Lib.hid hwr; have HRT := Lib.hid hrt
      clear hwr hrt
      go_wp2_with fail
      go_ret
      exact ⟨rfl, HW.out, HRT.out⟩
    have hsl := stageSeq_length oneBlock numBlock k ds j hj
    have hM2 : Mine lo wr fs := HM.out.wrote hwr (rSl.there rBlock.fixed H1.out)
    obtain ⟨ad, c0, b, o, cs, fk, ev, hat, hnd, hnot, hupd⟩ := rSl.upd rBlock.local_ rBlock.fixed (by decide) hrt hM2.nodup j (by omega)
    rw [stageSeq_get oneBlock numBlock k ds j hlt (by omega)] at hat
    injection ev with ev1 ev2 ev3
    subst ev1 ev3
    obtain ⟨v0, f0, ecs, efk, o0, h0⟩ := hat.reads
    subst ecs efk
    obtain ⟨A0, c2, rfl, hc2, hm2⟩ := rSl.head h0
    have pb := hat.lt
    have p0 : wr.cell? ⟨b, o, none⟩ = some (.int .i64 ds[j].stamp) := by have := hat.cell 0 (by simp); simpa using this
    have p1 : wr.cell? ⟨b, o + 1, none⟩ = some (.slice A0 ds[j].bytes.length c2) := by have := hat.cell 1 (by simp); simpa using this
    have fz0 : wr.frozen? ⟨b, o, none⟩ = false := hM2.free _ (hat.mem 0 (by decide))
    have m0 : (⟨b, o, none⟩ : Addr) ∈ fs := hat.mem 0 (by decide)
    have hP := hat.place
    have hnum := HNS.out j hlt
    rw [← hc] at hnum
    have hcb : c ≤ 1000000000 := by omega
    have hck : 0 < c := by omega
    have hnm : numBlock ds[j] = 1 + ds[j].bytes.length := rfl
    rw [hnm] at hnum
    clear hnm
    
    have HUPD := Lib.hid hupd; have HC := Lib.hid hc; have HW := Lib.hid hwr; have HM2 := Lib.hid hM2; have HAT := Lib.hid hat; have HSL := Lib.hid hsl; have HND := Lib.hid hnd; have HNOT := Lib.hid hnot; have H0 := Lib.hid h0; have HNUM := Lib.hid hnum
    have P1 := Lib.hid p1
    clear hupd hc hwr hM2 hat hsl hnd hnot h0 hrt hnum ev2
    go_wp2_with fail
    obtain ⟨W2, hW2⟩ : ∃ W2, wr.setCell ⟨b, o, none⟩ (.int .i64 (c : Int)) = W2 := ⟨_, rfl⟩
    have hsz2 : W2.heap.size = wr.heap.size := by rw [← hW2]; simp [World.setCell]
    have hoth : ∀ a : Addr, a ≠ ⟨b, o, none⟩ → W2.cell? a = wr.cell? a := fun a h1 => by rw [← hW2, World.cell?_setCell_other _ _ _ _ (Ne.symm h1)]
    have s0 : W2.cell? ⟨b, o, none⟩ = some (.int .i64 (c : Int)) := by rw [← hW2, World.cell?_setCell_same _ _ _ p0]
    have hWr2 : Wrote fs wr W2 := by rw [← hW2]; exact (Wrote.refl _ _).setCell m0 _
    have h02 : rSl 1 rByte W2 fk (.slice A0 ds[j].bytes.length c2) ds[j].bytes := rSl.keep rByte.local_ H0.out fun a ha => hoth a (fun e => HNOT.out 0 (by decide) (by rw [← show a = ⟨b, o + 0, none⟩ from e]; exact ha))
    have hmf : Mine lo W2 fk := ⟨HND.out, fun a ha => HM2.out.from_ a (HAT.out.sub a ha), fun a ha => (hWr2.frozen a (HAT.out.there a ha)).trans (HM2.out.free a (HAT.out.sub a ha))⟩
    rw [hW2, show ((c : Int) + 1) = ((c + 1 : Nat) : Int) from by omega]
    have HO := Lib.hid hoth; have S0 := Lib.hid s0; have HW2 := Lib.hid hWr2; have HS2 := Lib.hid hsz2
    clear hW2 hoth s0 hWr2 hsz2 p0 p1 fz0 
    refine (markByteS_d _ ds[j].bytes fk W2 (c + 1) lo h02 hmf (by omega) (by have := HNUM.out; omega)).mono ?_
    rintro e w3 ⟨rfl, hw3, hr3⟩
    have HW3 := Lib.hid hw3; have HR3 := Lib.hid hr3
    clear hw3 hr3 h02 hmf
    go_wp2_with fail
    go_roundw
    case rel =>
      have hb2 : b < W2.heap.size := by rw [HS2.out]; exact pb
      have t0 := (HW3.out.cell ⟨b, o, none⟩ (HNOT.out 0 (by decide)) hb2).trans S0.out
      have t1 := ((HW3.out.cell ⟨b, o + 1, none⟩ (HNOT.out 1 (by decide)) hb2).trans (HO.out _ (by simp))).trans P1.out
      have hnew := HUPD.out w3 [.int .i64 (c : Int), .slice A0 ds[j].bytes.length c2] (oneBlock c ds[j]) rfl (fun a ha h0 hf => by
          have hwa : a.block < wr.heap.size := Nat.lt_of_lt_of_le (rSl.there rBlock.fixed H1.out a ha) HW.out.size
          rw [HW3.out.cell a hf (Nat.lt_of_lt_of_le hwa HW2.out.size), HO.out a (h0 0 (by decide))])
        (fun q hq => by
          rcases q with _ | q
          · exact t0
          · obtain rfl : q = 0 := by simp at hq; omega
            exact t1)
        ⟨_, fk, rfl, rfl, by unfold okI oneBlock; simp only; omega, HR3.out⟩
      rw [show c = k + numSeq numBlock (ds.take j) from HC.out, stageSeq_set oneBlock numBlock k ds j hlt] at hnew
      refine ⟨j + 1, c + 1 + ds[j].bytes.length, by omega, ?_, by go_num, by congr 1, hnew, (HW.out.trans HW2.out).trans (HW3.out.mono HAT.out.sub)⟩
      rw [numSeq_take numBlock hlt, HC.out]; simp only [numBlock]; omega
    case measure => simp [intOf]; omega

set_option maxHeartbeats 2000000 in
set_option maxRecDepth 100000 in
theorem heldBlockS_c (v : Value) (ds : List BlockD) (fs : List Addr) (w : World) (k : Nat) (h1 : rSl 2 rBlock w fs v (markSeq oneBlock numBlock k ds)) (hk : 0 < k) (hk0 : k + numSeq numBlock ds ≤ 1000000000) :
    Calls Try.prog 70 #[v, .int .i64 (k : Int)] w fun e w' => e = .returned (.int .i64 ((k + numSeq numBlock ds : Nat) : Int)) ∧ Below w.heap.size w w' := by
  have hml := markSeq_length oneBlock numBlock k ds
  obtain ⟨A1, c1, rfl, hc1, hm1, hx⟩ := rSl.at_ rBlock.fixed (by decide) h1
  have HX := Lib.hid hx; clear hx h1
  have hn0 : ds.length ≤ 1000000000 := by have := numSeq_len numBlock (fun d => by unfold numBlock; omega) ds; omega
  obtain ⟨R, hR⟩ : ∃ R : Nat, k + numSeq numBlock ds = R := ⟨_, rfl⟩
  have HNS := Lib.hid (fun j (h : j < ds.length) => show k + numSeq numBlock (ds.take j) + numBlock ds[j] ≤ 1000000000 from by
    have := numSeq_take numBlock h; have := numSeq_take_le numBlock ds (j + 1); omega)
  rw [hR] at hk0 ⊢
  have HR := Lib.hid hR; clear hR
  rw [hml] at hc1 ⊢
  have HML := Lib.hid hml; clear hml
  go_enter Try.func70, Try.ntmps70
  go_wp2
  go_loopw [1, 4, 5] (fun n r i wr => ∃ (j c : Nat), j ≤ ds.length ∧ c = k + numSeq numBlock (ds.take j) ∧ i = .int .i64 j ∧ n = .int .i64 (c : Int) ∧ r = .int .i64 0 ∧ Below w.heap.size w wr) (fun _ _ i _ => ds.length - (intOf i).toNat)
  case atStart => exact ⟨0, k, by omega, by simp [numSeq], rfl, rfl, rfl, Below.refl _ _⟩
  case round =>
    obtain ⟨j, c, hj, hc, rfl, rfl, rfl, hb⟩ := hrel
    by_cases hlt : j < ds.length
    case neg =>
      have hje : j = ds.length := by omega
      subst hje
      rw [List.take_length, HR.out] at hc
      subst hc
      have HB := Lib.hid hb
      clear hb HX
      go_wp2_with fail
      go_ret
      exact ⟨rfl, HB.out⟩
    have hlt2 : j < (markSeq oneBlock numBlock k ds).length := by rw [HML.out]; exact hlt
    have hget := markSeq_get oneBlock numBlock k ds j hlt hlt2
    rw [← hc] at hget
    obtain ⟨ad, b, o, cs, fk, e1, hat⟩ := HX.out j hlt2
    rw [hget] at hat
    subst e1
    replace hat := hat.below rBlock.local_ hb
    obtain ⟨v0, f0, ecs, efk, o0, h0⟩ := hat.reads
    subst ecs efk
    simp only [oneBlock] at h0
    obtain ⟨A0, c2, ev0, hc2, hm2⟩ := rSl.head h0
    rw [length_mkBytes] at ev0 hc2
    subst ev0
    have pb := hat.lt
    have p0 : wr.cell? ⟨b, o, none⟩ = some (.int .i64 (c : Int)) := by have := hat.cell 0 (by simp); simpa [oneBlock] using this
    have p1 : wr.cell? ⟨b, o + 1, none⟩ = some (.slice A0 ds[j].bytes.length c2) := by have := hat.cell 1 (by simp); simpa using this
    have hP := hat.place
    have hnum := HNS.out j hlt
    rw [← hc] at hnum
    have hcb : c ≤ 1000000000 := by omega
    have hck : 0 < c := by omega
    have hnm : numBlock ds[j] = 1 + ds[j].bytes.length := rfl
    rw [hnm] at hnum
    clear hnm
    
    have HC := Lib.hid hc; have HB := Lib.hid hb; have H0 := Lib.hid h0; have HNUM := Lib.hid hnum
    clear hc hb h0 hnum hat hget HX hk
    go_wp2_with fail
    rw [show ((c : Int) + 1) = ((c + 1 : Nat) : Int) from by omega]
    refine (heldByteS_d _ ds[j].bytes fk _ (c + 1) H0.out (by omega) (by have := HNUM.out; omega)).mono ?_
    rintro e w3 ⟨rfl, hb3⟩
    have HB3 := Lib.hid (HB.out.trans (hb3.mono HB.out.size))
    have hnn : ¬ ((c + 1 + ds[j].bytes.length : Nat) : Int) < 0 := by omega
    clear hb3 p0 p1
    go_wp2_with fail
    go_roundw
    case rel =>
      refine ⟨j + 1, c + 1 + ds[j].bytes.length, by omega, ?_, by go_num, by congr 1, rfl, HB3.out⟩
      rw [numSeq_take numBlock hlt, HC.out]; simp only [numBlock]; omega
    case measure => simp [intOf]; omega

set_option maxHeartbeats 2000000 in
set_option maxRecDepth 100000 in
theorem markDriveS_c (v : Value) (ds : List DriveD) (fs : List Addr) (w : World) (k lo : Nat) (h1 : rSl 2 rDrive w fs v ds) (hm : Mine lo w fs) (hk : 0 < k) (hk0 : k + numSeq numDrive ds ≤ 1000000000) :
    Calls Try.prog 59 #[v, .int .i64 (k : Int)] w fun e w' => e = .returned (.int .i64 ((k + numSeq numDrive ds : Nat) : Int)) ∧ Wrote fs w w' ∧ rSl 2 rDrive w' fs v (markSeq oneDrive numDrive k ds) := by
  have H1 := Lib.hid h1; have HM := Lib.hid hm
  obtain ⟨A1, c1, rfl, hc1, hm1⟩ := rSl.head h1
  clear h1 hm
  have hn0 : ds.length ≤ 1000000000 := by have := numSeq_len numDrive (fun d => by unfold numDrive; omega) ds; omega
  obtain ⟨R, hR⟩ : ∃ R : Nat, k + numSeq numDrive ds = R := ⟨_, rfl⟩
  have HNS := Lib.hid (fun j (h : j < ds.length) => show k + numSeq numDrive (ds.take j) + numDrive ds[j] ≤ 1000000000 from by
    have := numSeq_take numDrive h; have := numSeq_take_le numDrive ds (j + 1); omega)
  rw [hR] at hk0 ⊢
  have HR := Lib.hid hR; clear hR
  go_enter Try.func59, Try.ntmps59
  go_wp2
  go_loopw [1, 5] (fun n i wr => ∃ (j c : Nat), j ≤ ds.length ∧ c = k + numSeq numDrive (ds.take j) ∧ i = .int .i64 j ∧ n = .int .i64 (c : Int) ∧ rSl 2 rDrive wr fs (.slice A1 ds.length c1) (stageSeq oneDrive numDrive k ds j) ∧ Wrote fs w wr) (fun _ i _ => ds.length - (intOf i).toNat)
  case atStart => exact ⟨0, k, by omega, by simp [numSeq], rfl, rfl, by rw [stageSeq_zero]; exact H1.out, Wrote.refl _ _⟩
  case round =>
    obtain ⟨j, c, hj, hc, rfl, rfl, hrt, hwr⟩ := hrel
    by_cases hlt : j < ds.length
    case neg =>
      have hje : j = ds.length := by omega
      subst hje
      rw [stageSeq_all] at hrt
      rw [List.take_length, HR.out] at hc
      subst hc
      have HW := Lib.hid hwr; have HRT := Lib.hid hrt
      clear hwr hrt
      go_wp2_with fail
      go_ret
      exact ⟨rfl, HW.out, HRT.out⟩
    have hsl := stageSeq_length oneDrive numDrive k ds j hj
    have hM2 : Mine lo wr fs := HM.out.wrote hwr (rSl.there rDrive.fixed H1.out)
    obtain ⟨ad, c0, b, o, cs, fk, ev, hat, hnd, hnot, hupd⟩ := rSl.upd rDrive.local_ rDrive.fixed (by decide) hrt hM2.nodup j (by omega)
    rw [stageSeq_get oneDrive numDrive k ds j hlt (by omega)] at hat
    injection ev with ev1 ev2 ev3
    subst ev1 ev3
    obtain ⟨v0, f0, ecs, efk, h0⟩ := hat.reads
    subst ecs efk
    obtain ⟨A0, c2, rfl, hc2, hm2⟩ := rSl.head h0
    have pb := hat.lt
    have p0 : wr.cell? ⟨b, o, none⟩ = some (.bool ds[j].wiped) := by have := hat.cell 0 (by simp); simpa using this
    have p1 : wr.cell? ⟨b, o + 1, none⟩ = some (.slice A0 ds[j].blocks.length c2) := by have := hat.cell 1 (by simp); simpa using this
    have fz0 : wr.frozen? ⟨b, o, none⟩ = false := hM2.free _ (hat.mem 0 (by decide))
    have m0 : (⟨b, o, none⟩ : Addr) ∈ fs := hat.mem 0 (by decide)
    have hP := hat.place
    have hnum := HNS.out j hlt
    rw [← hc] at hnum
    have hcb : c ≤ 1000000000 := by omega
    have hck : 0 < c := by omega
    have hnm : numDrive ds[j] = 1 + numSeq numBlock ds[j].blocks := rfl
    rw [hnm] at hnum
    clear hnm
    obtain ⟨L, hL⟩ : ∃ L, decide (c % 3 = 0) = L := ⟨_, rfl⟩
    have hm3 : ((c : Int) % 3 == 0) = L := (mod3 c).trans hL
    have HL := Lib.hid hL; clear hL
    have HUPD := Lib.hid hupd; have HC := Lib.hid hc; have HW := Lib.hid hwr; have HM2 := Lib.hid hM2; have HAT := Lib.hid hat; have HSL := Lib.hid hsl; have HND := Lib.hid hnd; have HNOT := Lib.hid hnot; have H0 := Lib.hid h0; have HNUM := Lib.hid hnum
    have P1 := Lib.hid p1
    clear hupd hc hwr hM2 hat hsl hnd hnot h0 hrt hnum ev2
    go_wp2_with fail
    obtain ⟨W2, hW2⟩ : ∃ W2, wr.setCell ⟨b, o, none⟩ (.bool L) = W2 := ⟨_, rfl⟩
    have hsz2 : W2.heap.size = wr.heap.size := by rw [← hW2]; simp [World.setCell]
    have hoth : ∀ a : Addr, a ≠ ⟨b, o, none⟩ → W2.cell? a = wr.cell? a := fun a h1 => by rw [← hW2, World.cell?_setCell_other _ _ _ _ (Ne.symm h1)]
    have s0 : W2.cell? ⟨b, o, none⟩ = some (.bool L) := by rw [← hW2, World.cell?_setCell_same _ _ _ p0]
    have hWr2 : Wrote fs wr W2 := by rw [← hW2]; exact (Wrote.refl _ _).setCell m0 _
    have h02 : rSl 2 rBlock W2 fk (.slice A0 ds[j].blocks.length c2) ds[j].blocks := rSl.keep rBlock.local_ H0.out fun a ha => hoth a (fun e => HNOT.out 0 (by decide) (by rw [← show a = ⟨b, o + 0, none⟩ from e]; exact ha))
    have hmf : Mine lo W2 fk := ⟨HND.out, fun a ha => HM2.out.from_ a (HAT.out.sub a ha), fun a ha => (hWr2.frozen a (HAT.out.there a ha)).trans (HM2.out.free a (HAT.out.sub a ha))⟩
    rw [hW2, show ((c : Int) + 1) = ((c + 1 : Nat) : Int) from by omega]
    have HO := Lib.hid hoth; have S0 := Lib.hid s0; have HW2 := Lib.hid hWr2; have HS2 := Lib.hid hsz2
    clear hW2 hoth s0 hWr2 hsz2 p0 p1 fz0 hm3
    refine (markBlockS_c _ ds[j].blocks fk W2 (c + 1) lo h02 hmf (by omega) (by have := HNUM.out; omega)).mono ?_
    rintro e w3 ⟨rfl, hw3, hr3⟩
    have HW3 := Lib.hid hw3; have HR3 := Lib.hid hr3
    clear hw3 hr3 h02 hmf
    go_wp2_with fail
    go_roundw
    case rel =>
      have hb2 : b < W2.heap.size := by rw [HS2.out]; exact pb
      have t0 := (HW3.out.cell ⟨b, o, none⟩ (HNOT.out 0 (by decide)) hb2).trans S0.out
      have t1 := ((HW3.out.cell ⟨b, o + 1, none⟩ (HNOT.out 1 (by decide)) hb2).trans (HO.out _ (by simp))).trans P1.out
      have hnew := HUPD.out w3 [.bool L, .slice A0 ds[j].blocks.length c2] (oneDrive c ds[j]) rfl (fun a ha h0 hf => by
          have hwa : a.block < wr.heap.size := Nat.lt_of_lt_of_le (rSl.there rDrive.fixed H1.out a ha) HW.out.size
          rw [HW3.out.cell a hf (Nat.lt_of_lt_of_le hwa HW2.out.size), HO.out a (h0 0 (by decide))])
        (fun q hq => by
          rcases q with _ | q
          · exact t0
          · obtain rfl : q = 0 := by simp at hq; omega
            exact t1)
        ⟨_, fk, by rw [← HL.out]; rfl, rfl, HR3.out⟩
      rw [show c = k + numSeq numDrive (ds.take j) from HC.out, stageSeq_set oneDrive numDrive k ds j hlt] at hnew
      refine ⟨j + 1, c + 1 + numSeq numBlock ds[j].blocks, by omega, ?_, by go_num, by congr 1, hnew, (HW.out.trans HW2.out).trans (HW3.out.mono HAT.out.sub)⟩
      rw [numSeq_take numDrive hlt, HC.out]; simp only [numDrive]; omega
    case measure => simp [intOf]; omega

set_option maxHeartbeats 2000000 in
set_option maxRecDepth 100000 in
theorem heldDriveS_c (v : Value) (ds : List DriveD) (fs : List Addr) (w : World) (k : Nat) (h1 : rSl 2 rDrive w fs v (markSeq oneDrive numDrive k ds)) (hk : 0 < k) (hk0 : k + numSeq numDrive ds ≤ 1000000000) :
    Calls Try.prog 63 #[v, .int .i64 (k : Int)] w fun e w' => e = .returned (.int .i64 ((k + numSeq numDrive ds : Nat) : Int)) ∧ Below w.heap.size w w' := by
  have hml := markSeq_length oneDrive numDrive k ds
  obtain ⟨A1, c1, rfl, hc1, hm1, hx⟩ := rSl.at_ rDrive.fixed (by decide) h1
  have HX := Lib.hid hx; clear hx h1
  have hn0 : ds.length ≤ 1000000000 := by have := numSeq_len numDrive (fun d => by unfold numDrive; omega) ds; omega
  obtain ⟨R, hR⟩ : ∃ R : Nat, k + numSeq numDrive ds = R := ⟨_, rfl⟩
  have HNS := Lib.hid (fun j (h : j < ds.length) => show k + numSeq numDrive (ds.take j) + numDrive ds[j] ≤ 1000000000 from by
    have := numSeq_take numDrive h; have := numSeq_take_le numDrive ds (j + 1); omega)
  rw [hR] at hk0 ⊢
  have HR := Lib.hid hR; clear hR
  rw [hml] at hc1 ⊢
  have HML := Lib.hid hml; clear hml
  go_enter Try.func63, Try.ntmps63
  go_wp2
  go_loopw [1, 4, 5] (fun n r i wr => ∃ (j c : Nat), j ≤ ds.length ∧ c = k + numSeq numDrive (ds.take j) ∧ i = .int .i64 j ∧ n = .int .i64 (c : Int) ∧ r = .int .i64 0 ∧ Below w.heap.size w wr) (fun _ _ i _ => ds.length - (intOf i).toNat)
  case atStart => exact ⟨0, k, by omega, by simp [numSeq], rfl, rfl, rfl, Below.refl _ _⟩
  case round =>
    obtain ⟨j, c, hj, hc, rfl, rfl, rfl, hb⟩ := hrel
    by_cases hlt : j < ds.length
    case neg =>
      have hje : j = ds.length := by omega
      subst hje
      rw [List.take_length, HR.out] at hc
      subst hc
      have HB := Lib.hid hb
      clear hb HX
      go_wp2_with fail
      go_ret
      exact ⟨rfl, HB.out⟩
    have hlt2 : j < (markSeq oneDrive numDrive k ds).length := by rw [HML.out]; exact hlt
    have hget := markSeq_get oneDrive numDrive k ds j hlt hlt2
    rw [← hc] at hget
    obtain ⟨ad, b, o, cs, fk, e1, hat⟩ := HX.out j hlt2
    rw [hget] at hat
    subst e1
    replace hat := hat.below rDrive.local_ hb
    obtain ⟨v0, f0, ecs, efk, h0⟩ := hat.reads
    subst ecs efk
    simp only [oneDrive] at h0
    obtain ⟨A0, c2, ev0, hc2, hm2⟩ := rSl.head h0
    rw [markSeq_length] at ev0 hc2
    subst ev0
    have pb := hat.lt
    have p0 : wr.cell? ⟨b, o, none⟩ = some (.bool (decide (c % 3 = 0))) := by have := hat.cell 0 (by simp); simpa [oneDrive] using this
    have p1 : wr.cell? ⟨b, o + 1, none⟩ = some (.slice A0 ds[j].blocks.length c2) := by have := hat.cell 1 (by simp); simpa using this
    have hP := hat.place
    have hnum := HNS.out j hlt
    rw [← hc] at hnum
    have hcb : c ≤ 1000000000 := by omega
    have hck : 0 < c := by omega
    have hnm : numDrive ds[j] = 1 + numSeq numBlock ds[j].blocks := rfl
    rw [hnm] at hnum
    clear hnm
    obtain ⟨L, hL⟩ : ∃ L, decide (c % 3 = 0) = L := ⟨_, rfl⟩
    have hm3 : ((c : Int) % 3 == 0) = L := (mod3 c).trans hL
    have HL := Lib.hid hL; clear hL
    rw [HL.out] at p0
    have hLL : (!L == L) = false := by simp
    have HC := Lib.hid hc; have HB := Lib.hid hb; have H0 := Lib.hid h0; have HNUM := Lib.hid hnum
    clear hc hb h0 hnum hat hget HX hk
    go_wp2_with fail
    rw [show ((c : Int) + 1) = ((c + 1 : Nat) : Int) from by omega]
    refine (heldBlockS_c _ ds[j].blocks fk _ (c + 1) H0.out (by omega) (by have := HNUM.out; omega)).mono ?_
    rintro e w3 ⟨rfl, hb3⟩
    have HB3 := Lib.hid (HB.out.trans (hb3.mono HB.out.size))
    have hnn : ¬ ((c + 1 + numSeq numBlock ds[j].blocks : Nat) : Int) < 0 := by omega
    clear hb3 p0 p1
    go_wp2_with fail
    go_roundw
    case rel =>
      refine ⟨j + 1, c + 1 + numSeq numBlock ds[j].blocks, by omega, ?_, by go_num, by congr 1, rfl, HB3.out⟩
      rw [numSeq_take numDrive hlt, HC.out]; simp only [numDrive]; omega
    case measure => simp [intOf]; omega

set_option maxHeartbeats 2000000 in
set_option maxRecDepth 100000 in
theorem markTapeS_c (v : Value) (ds : List TapeD) (fs : List Addr) (w : World) (k lo : Nat) (h1 : rSl 2 rTape w fs v ds) (hm : Mine lo w fs) (hk : 0 < k) (hk0 : k + numSeq numTape ds ≤ 1000000000) (hne : ∀ d, d ∈ ds → d.recs = []) :
    Calls Try.prog 45 #[v, .int .i64 (k : Int)] w fun e w' => e = .returned (.int .i64 ((k + numSeq numTape ds : Nat) : Int)) ∧ Wrote fs w w' ∧ rSl 2 rTape w' fs v (markSeq oneTape numTape k ds) := by
  have HNE := Lib.hid hne; clear hne
  have H1 := Lib.hid h1; have HM := Lib.hid hm
  obtain ⟨A1, c1, rfl, hc1, hm1⟩ := rSl.head h1
  clear h1 hm
  have hn0 : ds.length ≤ 1000000000 := by have := numSeq_len numTape (fun d => by unfold numTape; omega) ds; omega
  obtain ⟨R, hR⟩ : ∃ R : Nat, k + numSeq numTape ds = R := ⟨_, rfl⟩
  have HNS := Lib.hid (fun j (h : j < ds.length) => show k + numSeq numTape (ds.take j) + numTape ds[j] ≤ 1000000000 from by
    have := numSeq_take numTape h; have := numSeq_take_le numTape ds (j + 1); omega)
  rw [hR] at hk0 ⊢
  have HR := Lib.hid hR; clear hR
  go_enter Try.func45, Try.ntmps45
  go_wp2
  go_loopw [1, 5] (fun n i wr => ∃ (j c : Nat), j ≤ ds.length ∧ c = k + numSeq numTape (ds.take j) ∧ i = .int .i64 j ∧ n = .int .i64 (c : Int) ∧ rSl 2 rTape wr fs (.slice A1 ds.length c1) (stageSeq oneTape numTape k ds j) ∧ Wrote fs w wr) (fun _ i _ => ds.length - (intOf i).toNat)
  case atStart => exact ⟨0, k, by omega, by simp [numSeq], rfl, rfl, by rw [stageSeq_zero]; exact H1.out, Wrote.refl _ _⟩
  case round =>
    obtain ⟨j, c, hj, hc, rfl, rfl, hrt, hwr⟩ := hrel
    by_cases hlt : j < ds.length
    case neg =>
      have hje : j = ds.length := by omega
      subst hje
      rw [stageSeq_all] at hrt
      rw [List.take_length, HR.out] at hc
      subst hc
      have HW := Lib.hid hwr; have HRT := Lib.hid hrt
      clear hwr hrt
      go_wp2_with fail
      go_ret
      exact ⟨rfl, HW.out, HRT.out⟩
    have hsl := stageSeq_length oneTape numTape k ds j hj
    have hM2 : Mine lo wr fs := HM.out.wrote hwr (rSl.there rTape.fixed H1.out)
    obtain ⟨ad, c0, b, o, cs, fk, ev, hat, hnd, hnot, hupd⟩ := rSl.upd rTape.local_ rTape.fixed (by decide) hrt hM2.nodup j (by omega)
    rw [stageSeq_get oneTape numTape k ds j hlt (by omega)] at hat
    injection ev with ev1 ev2 ev3
    subst ev1 ev3
    obtain ⟨v0, f0, ecs, efk, h0⟩ := hat.reads
    subst ecs efk
    obtain ⟨A0, c2, rfl, hc2, hm2⟩ := rSl.head h0
    have pb := hat.lt
    have p0 : wr.cell? ⟨b, o, none⟩ = some (.bool ds[j].wiped) := by have := hat.cell 0 (by simp); simpa using this
    have p1 : wr.cell? ⟨b, o + 1, none⟩ = some (.slice A0 ds[j].recs.length c2) := by have := hat.cell 1 (by simp); simpa using this
    have fz0 : wr.frozen? ⟨b, o, none⟩ = false := hM2.free _ (hat.mem 0 (by decide))
    have m0 : (⟨b, o, none⟩ : Addr) ∈ fs := hat.mem 0 (by decide)
    have hP := hat.place
    have hnum := HNS.out j hlt
    rw [← hc] at hnum
    have hcb : c ≤ 1000000000 := by omega
    have hck : 0 < c := by omega
    have hnm : numTape ds[j] = 1 + numSeq numRec ds[j].recs := rfl
    rw [hnm] at hnum
    clear hnm
    obtain ⟨L, hL⟩ : ∃ L, decide (c % 3 = 0) = L := ⟨_, rfl⟩
    have hm3 : ((c : Int) % 3 == 0) = L := (mod3 c).trans hL
    have HL := Lib.hid hL; clear hL
    have HNJ := Lib.hid (HNE.out _ (List.getElem_mem hlt))
    have HUPD := Lib.hid hupd; have HC := Lib.hid hc; have HW := Lib.hid hwr; have HM2 := Lib.hid hM2; have HAT := Lib.hid hat; have HSL := Lib.hid hsl; have HND := Lib.hid hnd; have HNOT := Lib.hid hnot; have H0 := Lib.hid h0; have HNUM := Lib.hid hnum
    have P1 := Lib.hid p1
    clear hupd hc hwr hM2 hat hsl hnd hnot h0 hrt hnum ev2
    go_wp2_with fail
    obtain ⟨W2, hW2⟩ : ∃ W2, wr.setCell ⟨b, o, none⟩ (.bool L) = W2 := ⟨_, rfl⟩
    have hsz2 : W2.heap.size = wr.heap.size := by rw [← hW2]; simp [World.setCell]
    have hoth : ∀ a : Addr, a ≠ ⟨b, o, none⟩ → W2.cell? a = wr.cell? a := fun a h1 => by rw [← hW2, World.cell?_setCell_other _ _ _ _ (Ne.symm h1)]
    have s0 : W2.cell? ⟨b, o, none⟩ = some (.bool L) := by rw [← hW2, World.cell?_setCell_same _ _ _ p0]
    have hWr2 : Wrote fs wr W2 := by rw [← hW2]; exact (Wrote.refl _ _).setCell m0 _
    have h02 : rSl 9 rRec W2 fk (.slice A0 ds[j].recs.length c2) ds[j].recs := rSl.keep rRec.local_ H0.out fun a ha => hoth a (fun e => HNOT.out 0 (by decide) (by rw [← show a = ⟨b, o + 0, none⟩ from e]; exact ha))
    have hmf : Mine lo W2 fk := ⟨HND.out, fun a ha => HM2.out.from_ a (HAT.out.sub a ha), fun a ha => (hWr2.frozen a (HAT.out.there a ha)).trans (HM2.out.free a (HAT.out.sub a ha))⟩
    rw [hW2, show ((c : Int) + 1) = ((c + 1 : Nat) : Int) from by omega]
    have HO := Lib.hid hoth; have S0 := Lib.hid s0; have HW2 := Lib.hid hWr2; have HS2 := Lib.hid hsz2
    clear hW2 hoth s0 hWr2 hsz2 p0 p1 fz0 hm3
    refine (markRecS_c _ ds[j].recs fk W2 (c + 1) lo h02 hmf (by omega) (by have := HNUM.out; omega) HNJ.out).mono ?_
    rintro e w3 ⟨rfl, hw3, hr3⟩
    have HW3 := Lib.hid hw3; have HR3 := Lib.hid hr3
    clear hw3 hr3 h02 hmf
    go_wp2_with fail
    go_roundw
    case rel =>
      have hb2 : b < W2.heap.size := by rw [HS2.out]; exact pb
      have t0 := (HW3.out.cell ⟨b, o, none⟩ (HNOT.out 0 (by decide)) hb2).trans S0.out
      have t1 := ((HW3.out.cell ⟨b, o + 1, none⟩ (HNOT.out 1 (by decide)) hb2).trans (HO.out _ (by simp))).trans P1.out
      have hnew := HUPD.out w3 [.bool L, .slice A0 ds[j].recs.length c2] (oneTape c ds[j]) rfl (fun a ha h0 hf => by
          have hwa : a.block < wr.heap.size := Nat.lt_of_lt_of_le (rSl.there rTape.fixed H1.out a ha) HW.out.size
          rw [HW3.out.cell a hf (Nat.lt_of_lt_of_le hwa HW2.out.size), HO.out a (h0 0 (by decide))])
        (fun q hq => by
          rcases q with _ | q
          · exact t0
          · obtain rfl : q = 0 := by simp at hq; omega
            exact t1)
        ⟨_, fk, by rw [← HL.out]; rfl, rfl, HR3.out⟩
      rw [show c = k + numSeq numTape (ds.take j) from HC.out, stageSeq_set oneTape numTape k ds j hlt] at hnew
      refine ⟨j + 1, c + 1 + numSeq numRec ds[j].recs, by omega, ?_, by go_num, by congr 1, hnew, (HW.out.trans HW2.out).trans (HW3.out.mono HAT.out.sub)⟩
      rw [numSeq_take numTape hlt, HC.out]; simp only [numTape]; omega
    case measure => simp [intOf]; omega

set_option maxHeartbeats 2000000 in
set_option maxRecDepth 100000 in
theorem heldTapeS_c (v : Value) (ds : List TapeD) (fs : List Addr) (w : World) (k : Nat) (h1 : rSl 2 rTape w fs v (markSeq oneTape numTape k ds)) (hk : 0 < k) (hk0 : k + numSeq numTape ds ≤ 1000000000) (hne : ∀ d, d ∈ ds → d.recs = []) :
    Calls Try.prog 51 #[v, .int .i64 (k : Int)] w fun e w' => e = .returned (.int .i64 ((k + numSeq numTape ds : Nat) : Int)) ∧ Below w.heap.size w w' := by
  have HNE := Lib.hid hne; clear hne
  have hml := markSeq_length oneTape numTape k ds
  obtain ⟨A1, c1, rfl, hc1, hm1, hx⟩ := rSl.at_ rTape.fixed (by decide) h1
  have HX := Lib.hid hx; clear hx h1
  have hn0 : ds.length ≤ 1000000000 := by have := numSeq_len numTape (fun d => by unfold numTape; omega) ds; omega
  obtain ⟨R, hR⟩ : ∃ R : Nat, k + numSeq numTape ds = R := ⟨_, rfl⟩
  have HNS := Lib.hid (fun j (h : j < ds.length) => show k + numSeq numTape (ds.take j) + numTape ds[j] ≤ 1000000000 from by
    have := numSeq_take numTape h; have := numSeq_take_le numTape ds (j + 1); omega)
  rw [hR] at hk0 ⊢
  have HR := Lib.hid hR; clear hR
  rw [hml] at hc1 ⊢
  have HML := Lib.hid hml; clear hml
  go_enter Try.func51, Try.ntmps51
  go_wp2
  go_loopw [1, 4, 5] (fun n r i wr => ∃ (j c : Nat), j ≤ ds.length ∧ c = k + numSeq numTape (ds.take j) ∧ i = .int .i64 j ∧ n = .int .i64 (c : Int) ∧ r = .int .i64 0 ∧ Below w.heap.size w wr) (fun _ _ i _ => ds.length - (intOf i).toNat)
  case atStart => exact ⟨0, k, by omega, by simp [numSeq], rfl, rfl, rfl, Below.refl _ _⟩
  case round =>
    obtain ⟨j, c, hj, hc, rfl, rfl, rfl, hb⟩ := hrel
    by_cases hlt : j < ds.length
    case neg =>
      have hje : j = ds.length := by omega
      subst hje
      rw [List.take_length, HR.out] at hc
      subst hc
      have HB := Lib.hid hb
      clear hb HX
      go_wp2_with fail
      go_ret
      exact ⟨rfl, HB.out⟩
    have hlt2 : j < (markSeq oneTape numTape k ds).length := by rw [HML.out]; exact hlt
    have hget := markSeq_get oneTape numTape k ds j hlt hlt2
    rw [← hc] at hget
    obtain ⟨ad, b, o, cs, fk, e1, hat⟩ := HX.out j hlt2
    rw [hget] at hat
    subst e1
    replace hat := hat.below rTape.local_ hb
    obtain ⟨v0, f0, ecs, efk, h0⟩ := hat.reads
    subst ecs efk
    simp only [oneTape] at h0
    obtain ⟨A0, c2, ev0, hc2, hm2⟩ := rSl.head h0
    rw [markSeq_length] at ev0 hc2
    subst ev0
    have pb := hat.lt
    have p0 : wr.cell? ⟨b, o, none⟩ = some (.bool (decide (c % 3 = 0))) := by have := hat.cell 0 (by simp); simpa [oneTape] using this
    have p1 : wr.cell? ⟨b, o + 1, none⟩ = some (.slice A0 ds[j].recs.length c2) := by have := hat.cell 1 (by simp); simpa using this
    have hP := hat.place
    have hnum := HNS.out j hlt
    rw [← hc] at hnum
    have hcb : c ≤ 1000000000 := by omega
    have hck : 0 < c := by omega
    have hnm : numTape ds[j] = 1 + numSeq numRec ds[j].recs := rfl
    rw [hnm] at hnum
    clear hnm
    obtain ⟨L, hL⟩ : ∃ L, decide (c % 3 = 0) = L := ⟨_, rfl⟩
    have hm3 : ((c : Int) % 3 == 0) = L := (mod3 c).trans hL
    have HL := Lib.hid hL; clear hL
    have HNJ := Lib.hid (HNE.out _ (List.getElem_mem hlt))
    rw [HL.out] at p0
    have hLL : (!L == L) = false := by simp
    have HC := Lib.hid hc; have HB := Lib.hid hb; have H0 := Lib.hid h0; have HNUM := Lib.hid hnum
    clear hc hb h0 hnum hat hget HX hk
    go_wp2_with fail
    rw [show ((c : Int) + 1) = ((c + 1 : Nat) : Int) from by omega]
    refine (heldRecS_c _ ds[j].recs fk _ (c + 1) H0.out (by omega) (by have := HNUM.out; omega) HNJ.out).mono ?_
    rintro e w3 ⟨rfl, hb3⟩
    have HB3 := Lib.hid (HB.out.trans (hb3.mono HB.out.size))
    have hnn : ¬ ((c + 1 + numSeq numRec ds[j].recs : Nat) : Int) < 0 := by omega
    clear hb3 p0 p1
    go_wp2_with fail
    go_roundw
    case rel =>
      refine ⟨j + 1, c + 1 + numSeq numRec ds[j].recs, by omega, ?_, by go_num, by congr 1, rfl, HB3.out⟩
      rw [numSeq_take numTape hlt, HC.out]; simp only [numTape]; omega
    case measure => simp [intOf]; omega

end Go.Proofs.Ytabainoplkpppaa
