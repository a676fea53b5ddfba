/-
  The laws' mark* and held* over slices of slices (printed by wip/namark.py).
-/
import Derived.Test.YtabainoplkpppaaMkA
namespace Go.Proofs.Ytabainoplkpppaa
open Go.RowKit Go.Sort

set_option maxHeartbeats 2000000 in
set_option maxRecDepth 100000 in
theorem markDriveSS_c (v : Value) (ds : List (List DriveD)) (fs : List Addr) (w : World) (k lo : Nat) (h1 : rSl 1 (rSlice 2 rDrive) w fs v ds) (hm : Mine lo w fs) (hk : 0 < k) (hk0 : k + numSeq (numSeq numDrive) ds ≤ 1000000000) (hn0 : ds.length ≤ 1000000000) :
    Calls Try.prog 43 #[v, .int .i64 (k : Int)] w fun e w' => e = .returned (.int .i64 ((k + numSeq (numSeq numDrive) ds : Nat) : Int)) ∧ Wrote fs w w' ∧ rSl 1 (rSlice 2 rDrive) w' fs v (markSeq (markSeq oneDrive numDrive) (numSeq numDrive) k ds) := by
  have H1 := Lib.hid h1; have HM := Lib.hid hm
  obtain ⟨A1, c1, rfl, hc1, hm1⟩ := rSl.head h1
  clear h1 hm
  obtain ⟨R, hR⟩ : ∃ R : Nat, k + numSeq (numSeq numDrive) ds = R := ⟨_, rfl⟩
  have HNS := Lib.hid (fun j (h : j < ds.length) => show k + numSeq (numSeq numDrive) (ds.take j) + numSeq numDrive ds[j] ≤ 1000000000 from by
    have := numSeq_take (numSeq numDrive) h; have := numSeq_take_le (numSeq numDrive) ds (j + 1); omega)
  rw [hR] at hk0 ⊢
  have HR := Lib.hid hR; clear hR
  go_enter Try.func43, Try.ntmps43
  go_wp2
  go_loopw [1, 5] (fun n i wr => ∃ (j c : Nat), j ≤ ds.length ∧ c = k + numSeq (numSeq numDrive) (ds.take j) ∧ i = .int .i64 j ∧ n = .int .i64 (c : Int) ∧ rSl 1 (rSlice 2 rDrive) wr fs (.slice A1 ds.length c1) (stageSeq (markSeq oneDrive numDrive) (numSeq numDrive) k ds j) ∧ Wrote fs w wr) (fun _ i _ => ds.length - (intOf i).toNat)
  case atStart => exact ⟨0, k, by omega, by simp [numSeq], rfl, rfl, by rw [stageSeq_zero]; exact H1.out, Wrote.refl _ _⟩
  case round =>
    obtain ⟨j, c, hj, hc, rfl, rfl, hrt, hwr⟩ := hrel
    by_cases hlt : j < ds.length
    case neg =>
      have hje : j = ds.length := by omega
      subst hje
      rw [stageSeq_all] at hrt
      rw [List.take_length, HR.out] at hc
      subst hc
      have HW := Lib.hid hwr; have HRT := Lib.hid hrt
      clear hwr hrt
      go_wp2_with fail
      go_ret
      exact ⟨rfl, HW.out, HRT.out⟩
    have hsl := stageSeq_length (markSeq oneDrive numDrive) (numSeq numDrive) k ds j hj
    have hM2 : Mine lo wr fs := HM.out.wrote hwr (rSl.there (rSlice.fixed rDrive.fixed) H1.out)
    obtain ⟨ad, c0, b, o, cs, fk, ev, hat, hnd, hnot, hupd⟩ := rSl.upd (rSlice.local_ rDrive.local_) (rSlice.fixed rDrive.fixed) (by decide) hrt hM2.nodup j (by omega)
    rw [stageSeq_get (markSeq oneDrive numDrive) (numSeq numDrive) k ds j hlt (by omega)] at hat
    injection ev with ev1 ev2 ev3
    subst ev1 ev3
    obtain ⟨v0, ecs, h0⟩ := hat.reads
    subst ecs
    obtain ⟨A0, c2, rfl, hc2, hm2⟩ := rSl.head h0
    have pb := hat.lt
    have p0 : wr.cell? ⟨b, o, none⟩ = some (.slice A0 ds[j].length c2) := by have := hat.cell 0 (by simp); simpa using this
    have hP := hat.place
    simp only [Nat.mul_one] at hP
    have hnum := HNS.out j hlt
    rw [← hc] at hnum
    have hcb : c ≤ 1000000000 := by omega
    have hck : 0 < c := by omega
    
    have hmf : Mine lo wr fk := ⟨hnd, fun a ha => hM2.from_ a (hat.sub a ha), fun a ha => hM2.free a (hat.sub a ha)⟩
    have HUPD := Lib.hid hupd; have HC := Lib.hid hc; have HW := Lib.hid hwr; have HAT := Lib.hid hat; have HNOT := Lib.hid hnot; have H0 := Lib.hid h0; have HNUM := Lib.hid hnum
    have P0 := Lib.hid p0; have HMF := Lib.hid hmf
    clear hupd hc hwr hM2 hat hsl hnd hnot h0 hrt hnum ev2 hmf
    go_wp2_with fail
    refine (markDriveS_c _ ds[j] fk wr c lo H0.out HMF.out (by omega) (by have := HNUM.out; omega)).mono ?_
    rintro e w3 ⟨rfl, hw3, hr3⟩
    have HW3 := Lib.hid hw3; have HR3 := Lib.hid hr3
    clear hw3 hr3 p0
    go_wp2_with fail
    go_roundw
    case rel =>
      have t0 := (HW3.out.cell ⟨b, o, none⟩ (HNOT.out 0 (by decide)) pb).trans P0.out
      have hnew := HUPD.out w3 [.slice A0 ds[j].length c2] (markSeq oneDrive numDrive c ds[j]) rfl (fun a ha h0 hf => by
          have hwa : a.block < wr.heap.size := Nat.lt_of_lt_of_le (rSl.there (rSlice.fixed rDrive.fixed) H1.out a ha) HW.out.size
          rw [HW3.out.cell a hf hwa])
        (fun q hq => by
          obtain rfl : q = 0 := by simp at hq; omega
          exact t0)
        ⟨_, rfl, HR3.out⟩
      rw [show c = k + numSeq (numSeq numDrive) (ds.take j) from HC.out, stageSeq_set (markSeq oneDrive numDrive) (numSeq numDrive) k ds j hlt] at hnew
      refine ⟨j + 1, c + numSeq numDrive ds[j], by omega, ?_, by go_num, by congr 1, hnew, HW.out.trans (HW3.out.mono HAT.out.sub)⟩
      rw [numSeq_take (numSeq numDrive) hlt, HC.out]; omega
    case measure => simp [intOf]; omega

set_option maxHeartbeats 2000000 in
set_option maxRecDepth 100000 in
theorem heldDriveSS_c (v : Value) (ds : List (List DriveD)) (fs : List Addr) (w : World) (k : Nat) (h1 : rSl 1 (rSlice 2 rDrive) w fs v (markSeq (markSeq oneDrive numDrive) (numSeq numDrive) k ds)) (hk : 0 < k) (hk0 : k + numSeq (numSeq numDrive) ds ≤ 1000000000) (hn0 : ds.length ≤ 1000000000) :
    Calls Try.prog 49 #[v, .int .i64 (k : Int)] w fun e w' => e = .returned (.int .i64 ((k + numSeq (numSeq numDrive) ds : Nat) : Int)) ∧ Below w.heap.size w w' := by
  have hml := markSeq_length (markSeq oneDrive numDrive) (numSeq numDrive) k ds
  obtain ⟨A1, c1, rfl, hc1, hm1, hx⟩ := rSl.at_ (rSlice.fixed rDrive.fixed) (by decide) h1
  have HX := Lib.hid hx; clear hx h1
  obtain ⟨R, hR⟩ : ∃ R : Nat, k + numSeq (numSeq numDrive) ds = R := ⟨_, rfl⟩
  have HNS := Lib.hid (fun j (h : j < ds.length) => show k + numSeq (numSeq numDrive) (ds.take j) + numSeq numDrive ds[j] ≤ 1000000000 from by
    have := numSeq_take (numSeq numDrive) h; have := numSeq_take_le (numSeq numDrive) ds (j + 1); omega)
  rw [hR] at hk0 ⊢
  have HR := Lib.hid hR; clear hR
  rw [hml] at hc1 ⊢
  have HML := Lib.hid hml; clear hml
  go_enter Try.func49, Try.ntmps49
  go_wp2
  go_loopw [1, 4, 5] (fun n r i wr => ∃ (j c : Nat), j ≤ ds.length ∧ c = k + numSeq (numSeq numDrive) (ds.take j) ∧ i = .int .i64 j ∧ n = .int .i64 (c : Int) ∧ r = .int .i64 0 ∧ Below w.heap.size w wr) (fun _ _ i _ => ds.length - (intOf i).toNat)
  case atStart => exact ⟨0, k, by omega, by simp [numSeq], rfl, rfl, rfl, Below.refl _ _⟩
  case round =>
    obtain ⟨j, c, hj, hc, rfl, rfl, rfl, hb⟩ := hrel
    by_cases hlt : j < ds.length
    case neg =>
      have hje : j = ds.length := by omega
      subst hje
      rw [List.take_length, HR.out] at hc
      subst hc
      have HB := Lib.hid hb
      clear hb HX
      go_wp2_with fail
      go_ret
      exact ⟨rfl, HB.out⟩
    have hlt2 : j < (markSeq (markSeq oneDrive numDrive) (numSeq numDrive) k ds).length := by rw [HML.out]; exact hlt
    have hget := markSeq_get (markSeq oneDrive numDrive) (numSeq numDrive) k ds j hlt hlt2
    rw [← hc] at hget
    obtain ⟨ad, b, o, cs, fk, e1, hat⟩ := HX.out j hlt2
    rw [hget] at hat
    subst e1
    replace hat := hat.below (rSlice.local_ rDrive.local_) hb
    obtain ⟨v0, ecs, h0⟩ := hat.reads
    subst ecs
    obtain ⟨A0, c2, ev0, hc2, hm2⟩ := rSl.head h0
    rw [markSeq_length] at ev0 hc2
    subst ev0
    have pb := hat.lt
    have p0 : wr.cell? ⟨b, o, none⟩ = some (.slice A0 ds[j].length c2) := by have := hat.cell 0 (by simp); simpa using this
    have hP := hat.place
    simp only [Nat.mul_one] at hP
    have hnum := HNS.out j hlt
    rw [← hc] at hnum
    have hcb : c ≤ 1000000000 := by omega
    have hck : 0 < c := by omega
    
    have HC := Lib.hid hc; have HB := Lib.hid hb; have H0 := Lib.hid h0; have HNUM := Lib.hid hnum
    clear hc hb h0 hnum hat hget HX hk
    go_wp2_with fail
    refine (heldDriveS_c _ ds[j] fk _ c H0.out (by omega) (by have := HNUM.out; omega)).mono ?_
    rintro e w3 ⟨rfl, hb3⟩
    have HB3 := Lib.hid (HB.out.trans (hb3.mono HB.out.size))
    have hnn : ¬ ((c + numSeq numDrive ds[j] : Nat) : Int) < 0 := by omega
    clear hb3 p0
    go_wp2_with fail
    go_roundw
    case rel =>
      refine ⟨j + 1, c + numSeq numDrive ds[j], by omega, ?_, by go_num, by congr 1, rfl, HB3.out⟩
      rw [numSeq_take (numSeq numDrive) hlt, HC.out]; omega
    case measure => simp [intOf]; omega

set_option maxHeartbeats 2000000 in
set_option maxRecDepth 100000 in
theorem markTicketSS_c (v : Value) (ds : List (List TicketD)) (fs : List Addr) (w : World) (k lo : Nat) (h1 : rSl 1 (rSlice 4 rTicket) w fs v ds) (hm : Mine lo w fs) (hk : 0 < k) (hk0 : k + numSeq (numSeq numTicket) ds ≤ 1000000000) (hn0 : ds.length ≤ 1000000000) (hne : ∀ d, d ∈ ds → d = []) :
    Calls Try.prog 46 #[v, .int .i64 (k : Int)] w fun e w' => e = .returned (.int .i64 ((k + numSeq (numSeq numTicket) ds : Nat) : Int)) ∧ Wrote fs w w' ∧ rSl 1 (rSlice 4 rTicket) w' fs v (markSeq (markSeq oneTicket numTicket) (numSeq numTicket) k ds) := by
  have HNE := Lib.hid hne; clear hne
  have H1 := Lib.hid h1; have HM := Lib.hid hm
  obtain ⟨A1, c1, rfl, hc1, hm1⟩ := rSl.head h1
  clear h1 hm
  obtain ⟨R, hR⟩ : ∃ R : Nat, k + numSeq (numSeq numTicket) ds = R := ⟨_, rfl⟩
  have HNS := Lib.hid (fun j (h : j < ds.length) => show k + numSeq (numSeq numTicket) (ds.take j) + numSeq numTicket ds[j] ≤ 1000000000 from by
    have := numSeq_take (numSeq numTicket) h; have := numSeq_take_le (numSeq numTicket) ds (j + 1); omega)
  rw [hR] at hk0 ⊢
  have HR := Lib.hid hR; clear hR
  go_enter Try.func46, Try.ntmps46
  go_wp2
  go_loopw [1, 5] (fun n i wr => ∃ (j c : Nat), j ≤ ds.length ∧ c = k + numSeq (numSeq numTicket) (ds.take j) ∧ i = .int .i64 j ∧ n = .int .i64 (c : Int) ∧ rSl 1 (rSlice 4 rTicket) wr fs (.slice A1 ds.length c1) (stageSeq (markSeq oneTicket numTicket) (numSeq numTicket) k ds j) ∧ Wrote fs w wr) (fun _ i _ => ds.length - (intOf i).toNat)
  case atStart => exact ⟨0, k, by omega, by simp [numSeq], rfl, rfl, by rw [stageSeq_zero]; exact H1.out, Wrote.refl _ _⟩
  case round =>
    obtain ⟨j, c, hj, hc, rfl, rfl, hrt, hwr⟩ := hrel
    by_cases hlt : j < ds.length
    case neg =>
      have hje : j = ds.length := by omega
      subst hje
      rw [stageSeq_all] at hrt
      rw [List.take_length, HR.out] at hc
      subst hc
      have HW := Lib.hid hwr; have HRT := Lib.hid hrt
      clear hwr hrt
      go_wp2_with fail
      go_ret
      exact ⟨rfl, HW.out, HRT.out⟩
    have hsl := stageSeq_length (markSeq oneTicket numTicket) (numSeq numTicket) k ds j hj
    have hM2 : Mine lo wr fs := HM.out.wrote hwr (rSl.there (rSlice.fixed rTicket.fixed) H1.out)
    obtain ⟨ad, c0, b, o, cs, fk, ev, hat, hnd, hnot, hupd⟩ := rSl.upd (rSlice.local_ rTicket.local_) (rSlice.fixed rTicket.fixed) (by decide) hrt hM2.nodup j (by omega)
    rw [stageSeq_get (markSeq oneTicket numTicket) (numSeq numTicket) k ds j hlt (by omega)] at hat
    injection ev with ev1 ev2 ev3
    subst ev1 ev3
    obtain ⟨v0, ecs, h0⟩ := hat.reads
    subst ecs
    obtain ⟨A0, c2, rfl, hc2, hm2⟩ := rSl.head h0
    have pb := hat.lt
    have p0 : wr.cell? ⟨b, o, none⟩ = some (.slice A0 ds[j].length c2) := by have := hat.cell 0 (by simp); simpa using this
    have hP := hat.place
    simp only [Nat.mul_one] at hP
    have hnum := HNS.out j hlt
    rw [← hc] at hnum
    have hcb : c ≤ 1000000000 := by omega
    have hck : 0 < c := by omega
    have HNJ := Lib.hid (HNE.out _ (List.getElem_mem hlt))
    have hmf : Mine lo wr fk := ⟨hnd, fun a ha => hM2.from_ a (hat.sub a ha), fun a ha => hM2.free a (hat.sub a ha)⟩
    have HUPD := Lib.hid hupd; have HC := Lib.hid hc; have HW := Lib.hid hwr; have HAT := Lib.hid hat; have HNOT := Lib.hid hnot; have H0 := Lib.hid h0; have HNUM := Lib.hid hnum
    have P0 := Lib.hid p0; have HMF := Lib.hid hmf
    clear hupd hc hwr hM2 hat hsl hnd hnot h0 hrt hnum ev2 hmf
    go_wp2_with fail
    refine (markTicketS_c _ ds[j] fk wr c lo H0.out HMF.out (by omega) (by have := HNUM.out; omega) HNJ.out).mono ?_
    rintro e w3 ⟨rfl, hw3, hr3⟩
    have HW3 := Lib.hid hw3; have HR3 := Lib.hid hr3
    clear hw3 hr3 p0
    go_wp2_with fail
    go_roundw
    case rel =>
      have t0 := (HW3.out.cell ⟨b, o, none⟩ (HNOT.out 0 (by decide)) pb).trans P0.out
      have hnew := HUPD.out w3 [.slice A0 ds[j].length c2] (markSeq oneTicket numTicket c ds[j]) rfl (fun a ha h0 hf => by
          have hwa : a.block < wr.heap.size := Nat.lt_of_lt_of_le (rSl.there (rSlice.fixed rTicket.fixed) H1.out a ha) HW.out.size
          rw [HW3.out.cell a hf hwa])
        (fun q hq => by
          obtain rfl : q = 0 := by simp at hq; omega
          exact t0)
        ⟨_, rfl, HR3.out⟩
      rw [show c = k + numSeq (numSeq numTicket) (ds.take j) from HC.out, stageSeq_set (markSeq oneTicket numTicket) (numSeq numTicket) k ds j hlt] at hnew
      refine ⟨j + 1, c + numSeq numTicket ds[j], by omega, ?_, by go_num, by congr 1, hnew, HW.out.trans (HW3.out.mono HAT.out.sub)⟩
      rw [numSeq_take (numSeq numTicket) hlt, HC.out]; omega
    case measure => simp [intOf]; omega

set_option maxHeartbeats 2000000 in
set_option maxRecDepth 100000 in
theorem heldTicketSS_c (v : Value) (ds : List (List TicketD)) (fs : List Addr) (w : World) (k : Nat) (h1 : rSl 1 (rSlice 4 rTicket) w fs v (markSeq (markSeq oneTicket numTicket) (numSeq numTicket) k ds)) (hk : 0 < k) (hk0 : k + numSeq (numSeq numTicket) ds ≤ 1000000000) (hn0 : ds.length ≤ 1000000000) (hne : ∀ d, d ∈ ds → d = []) :
    Calls Try.prog 52 #[v, .int .i64 (k : Int)] w fun e w' => e = .returned (.int .i64 ((k + numSeq (numSeq numTicket) ds : Nat) : Int)) ∧ Below w.heap.size w w' := by
  have HNE := Lib.hid hne; clear hne
  have hml := markSeq_length (markSeq oneTicket numTicket) (numSeq numTicket) k ds
  obtain ⟨A1, c1, rfl, hc1, hm1, hx⟩ := rSl.at_ (rSlice.fixed rTicket.fixed) (by decide) h1
  have HX := Lib.hid hx; clear hx h1
  obtain ⟨R, hR⟩ : ∃ R : Nat, k + numSeq (numSeq numTicket) ds = R := ⟨_, rfl⟩
  have HNS := Lib.hid (fun j (h : j < ds.length) => show k + numSeq (numSeq numTicket) (ds.take j) + numSeq numTicket ds[j] ≤ 1000000000 from by
    have := numSeq_take (numSeq numTicket) h; have := numSeq_take_le (numSeq numTicket) ds (j + 1); omega)
  rw [hR] at hk0 ⊢
  have HR := Lib.hid hR; clear hR
  rw [hml] at hc1 ⊢
  have HML := Lib.hid hml; clear hml
  go_enter Try.func52, Try.ntmps52
  go_wp2
  go_loopw [1, 4, 5] (fun n r i wr => ∃ (j c : Nat), j ≤ ds.length ∧ c = k + numSeq (numSeq numTicket) (ds.take j) ∧ i = .int .i64 j ∧ n = .int .i64 (c : Int) ∧ r = .int .i64 0 ∧ Below w.heap.size w wr) (fun _ _ i _ => ds.length - (intOf i).toNat)
  case atStart => exact ⟨0, k, by omega, by simp [numSeq], rfl, rfl, rfl, Below.refl _ _⟩
  case round =>
    obtain ⟨j, c, hj, hc, rfl, rfl, rfl, hb⟩ := hrel
    by_cases hlt : j < ds.length
    case neg =>
      have hje : j = ds.length := by omega
      subst hje
      rw [List.take_length, HR.out] at hc
      subst hc
      have HB := Lib.hid hb
      clear hb HX
      go_wp2_with fail
      go_ret
      exact ⟨rfl, HB.out⟩
    have hlt2 : j < (markSeq (markSeq oneTicket numTicket) (numSeq numTicket) k ds).length := by rw [HML.out]; exact hlt
    have hget := markSeq_get (markSeq oneTicket numTicket) (numSeq numTicket) k ds j hlt hlt2
    rw [← hc] at hget
    obtain ⟨ad, b, o, cs, fk, e1, hat⟩ := HX.out j hlt2
    rw [hget] at hat
    subst e1
    replace hat := hat.below (rSlice.local_ rTicket.local_) hb
    obtain ⟨v0, ecs, h0⟩ := hat.reads
    subst ecs
    obtain ⟨A0, c2, ev0, hc2, hm2⟩ := rSl.head h0
    rw [markSeq_length] at ev0 hc2
    subst ev0
    have pb := hat.lt
    have p0 : wr.cell? ⟨b, o, none⟩ = some (.slice A0 ds[j].length c2) := by have := hat.cell 0 (by simp); simpa using this
    have hP := hat.place
    simp only [Nat.mul_one] at hP
    have hnum := HNS.out j hlt
    rw [← hc] at hnum
    have hcb : c ≤ 1000000000 := by omega
    have hck : 0 < c := by omega
    have HNJ := Lib.hid (HNE.out _ (List.getElem_mem hlt))
    have HC := Lib.hid hc; have HB := Lib.hid hb; have H0 := Lib.hid h0; have HNUM := Lib.hid hnum
    clear hc hb h0 hnum hat hget HX hk
    go_wp2_with fail
    refine (heldTicketS_c _ ds[j] fk _ c H0.out (by omega) (by have := HNUM.out; omega) HNJ.out).mono ?_
    rintro e w3 ⟨rfl, hb3⟩
    have HB3 := Lib.hid (HB.out.trans (hb3.mono HB.out.size))
    have hnn : ¬ ((c + numSeq numTicket ds[j] : Nat) : Int) < 0 := by omega
    clear hb3 p0
    go_wp2_with fail
    go_roundw
    case rel =>
      refine ⟨j + 1, c + numSeq numTicket ds[j], by omega, ?_, by go_num, by congr 1, rfl, HB3.out⟩
      rw [numSeq_take (numSeq numTicket) hlt, HC.out]; omega
    case measure => simp [intOf]; omega

end Go.Proofs.Ytabainoplkpppaa
