/-
  markThingS and heldThingS: what each call does.
-/
import Derived.Test.YtimabbleijkmhaaThUpd
import Derived.Lib.QuietBelow
namespace Go.Proofs.Ytimabbleijkmhaa
open Go.RowKit Go.Sort

def markOne (k : Nat) (d : Th) : Th := ⟨mkT k, decide ((k + 1) % 3 = 0), mkBytes (k + 2) d.bytes.length⟩
def markN : List Th → Nat
  | [] => 0
  | d :: r => 2 + d.bytes.length + markN r
def markTh : Nat → List Th → List Th
  | _, [] => []
  | k, d :: r => markOne k d :: markTh (k + 2 + d.bytes.length) r
theorem markN_snoc : ∀ (l : List Th) (d : Th), markN (l ++ [d]) = markN l + (2 + d.bytes.length)
  | [], d => by simp [markN]
  | a :: r, d => by simp only [List.cons_append, markN, markN_snoc r d]; omega
theorem markTh_snoc : ∀ (k : Nat) (l : List Th) (d : Th), markTh k (l ++ [d]) = markTh k l ++ [markOne (k + markN l) d]
  | k, [], d => by simp [markTh, markN]
  | k, a :: r, d => by
    simp only [List.cons_append, markTh, markTh_snoc _ r d, markN]
    rw [show k + 2 + a.bytes.length + markN r = k + (2 + a.bytes.length + markN r) from by omega]
theorem markTh_length : ∀ (k : Nat) (l : List Th), (markTh k l).length = l.length
  | _, [] => rfl
  | k, a :: r => by simp [markTh, markTh_length _ r]
theorem markN_take {l : List Th} {k : Nat} (h : k < l.length) : markN (l.take (k + 1)) = markN (l.take k) + (2 + l[k].bytes.length) := by
  rw [List.take_succ_eq_append_getElem h, markN_snoc]
theorem markN_le : ∀ (l : List Th), markN l ≤ 2 * l.length + thSum l
  | [] => by simp [markN]
  | a :: r => by have := markN_le r; simp only [markN, List.length_cons, thSum]; omega
theorem markN_take_le : ∀ (l : List Th) (k : Nat), markN (l.take k) ≤ markN l
  | [], k => by simp [markN]
  | a :: r, 0 => by simp [markN]
  | a :: r, k + 1 => by
    have := markN_take_le r k
    simp only [List.take_succ_cons, markN]; omega

/-- A list of which the first j are marked. -/
def stage (k : Nat) (ds : List Th) (j : Nat) : List Th := markTh k (ds.take j) ++ ds.drop j
theorem stage_length (k : Nat) (ds : List Th) (j : Nat) (h : j ≤ ds.length) : (stage k ds j).length = ds.length := by
  unfold stage
  rw [List.length_append, markTh_length, List.length_take, List.length_drop]; omega
theorem stage_zero (k : Nat) (ds : List Th) : stage k ds 0 = ds := by simp [stage, markTh]
theorem stage_all (k : Nat) (ds : List Th) : stage k ds ds.length = markTh k ds := by simp [stage]
theorem stage_get (k : Nat) (ds : List Th) (j : Nat) (h : j < ds.length) (h2 : j < (stage k ds j).length) : (stage k ds j)[j] = ds[j] := by
  have hl : (markTh k (ds.take j)).length = j := by rw [markTh_length, List.length_take]; omega
  unfold stage at h2 ⊢
  rw [List.getElem_append_right (by omega)]
  simp [hl]
theorem stage_set (k : Nat) (ds : List Th) (j : Nat) (h : j < ds.length) : (stage k ds j).set j (markOne (k + markN (ds.take j)) ds[j]) = stage k ds (j + 1) := by
  have hl : (markTh k (ds.take j)).length = j := by rw [markTh_length, List.length_take]; omega
  unfold stage
  rw [List.set_append_right _ _ (by omega), hl, Nat.sub_self, List.drop_eq_getElem_cons h, List.set_cons_zero, List.take_succ_eq_append_getElem h, markTh_snoc]
  simp

theorem mod3 (c : Nat) : (((c : Int) + 1) % 3 == 0) = decide ((c + 1) % 3 = 0) := by
  by_cases h : (c + 1) % 3 = 0
  · rw [decide_eq_true h]; simp; omega
  · rw [decide_eq_false h]; simp; omega
theorem mkT_size (k : Nat) : (mkT k).size = (markL k []).length + 1 := by simp [mkT, ByteArray.size]
theorem markL_length (n : Nat) : ∀ (k : Nat) (out : List UInt8), k ≤ n → (markL k out).length ≤ out.length + k := by
  induction n with
  | zero => intro k out h; obtain rfl : k = 0 := by omega
            rw [markL_zero]; omega
  | succ n ih =>
    intro k out h
    by_cases hk : 0 < k
    · rw [markL_step hk]
      have := ih (k / 10) (digU k :: out) (by omega)
      simp only [List.length_cons] at this
      omega
    · obtain rfl : k = 0 := by omega
      rw [markL_zero]; omega
theorem mkT_small (k : Nat) (h : k ≤ 10000000000000) : (mkT k).size ≤ 9223372036854775807 := by
  rw [mkT_size]
  have := markL_length k k [] (Nat.le_refl _)
  simp only [List.length_nil] at this
  omega

set_option maxHeartbeats 1000000 in
set_option maxRecDepth 100000 in
theorem markThingS_c (v : Value) (ds : List Th) (fs : List Addr) (w : World) (k lo : Nat) (h1 : rThs w fs v ds) (hm : Mine lo w fs) (hk : 0 < k) (hk0 : k ≤ 1000000000) (hsm : ds.length + thSum ds ≤ 5000000) :
    Calls Try.prog 35 #[v, .int .i64 (k : Int)] w fun e w' => e = .returned (.int .i64 ((k + markN ds : Nat) : Int)) ∧ Wrote fs w w' ∧ rThs w' fs v (markTh k ds) := by
  have H1 := Lib.hid h1
  have HM := Lib.hid hm
  obtain ⟨A1, c1, rfl, hc1, hm1, -⟩ := rThs.open_ h1
  clear h1 hm
  have hmn : markN ds ≤ 10000000 := by have := markN_le ds; omega
  obtain ⟨R, hR⟩ : ∃ R : Nat, k + markN ds = R := ⟨_, rfl⟩
  rw [hR]
  have HR := Lib.hid hR; clear hR
  go_enter Try.func35, Try.ntmps35
  go_wp2
  go_loopw [1, 5] (fun n i wr => ∃ (j c : Nat), j ≤ ds.length ∧ c = k + markN (ds.take j) ∧ i = .int .i64 j ∧ n = .int .i64 c ∧ rThs wr fs (.slice A1 ds.length c1) (stage k ds j) ∧ Wrote fs w wr) (fun _ i _ => ds.length - (intOf i).toNat)
  case atStart => exact ⟨0, k, by omega, by simp [markN], rfl, rfl, by rw [stage_zero]; exact H1.out, Wrote.refl _ _⟩
  case round =>
    obtain ⟨j, c, hj, hc, rfl, rfl, hrt, hwr⟩ := hrel
    have hmt := markN_take_le ds j
    by_cases hlt : j < ds.length
    · have hM2 : Mine lo wr fs := HM.out.wrote hwr (rSl.there rTh.fixed H1.out)
      have hsl := stage_length k ds j hj
      obtain ⟨ad, c0, A2, c2, fk, ev, pb, hat, hrb, hth, hin, hnd, m0, m1, m2, x0, x1, x2, hupd⟩ := rThs.upd hrt hM2.nodup j (by omega)
      have hsg := stage_get k ds j hlt (by omega)
      rw [hsg] at hat hrb hupd
      injection ev with ev1 ev2 ev3
      subst ev1 ev3
      have hbl : ds[j].bytes.length ≤ 5000000 := by have := (thSum_get hlt).2; omega
      have hcb : c ≤ 1010000000 := by omega
      obtain ⟨b, o, hP⟩ : ∃ b o, ad.add (j * 3) = ⟨b, o, none⟩ := ⟨(ad.add (j * 3)).block, (ad.add (j * 3)).off, by
        have := World.cell?_spot hat.1
        generalize ad.add (j * 3) = P at this
        cases P
        simp only at this
        subst this
        rfl⟩
      rw [hP] at pb hat hupd m0 m1 m2 x0 x1 x2
      dsimp only at pb hupd m1 m2 x1 x2
      have hc1t := mkT_small c (by omega)
      have HUPD := Lib.hid hupd; have HC := Lib.hid hc; have HW := Lib.hid hwr; have HM2 := Lib.hid hM2; have HAT := Lib.hid hat; have HRB := Lib.hid hrb; have HIN := Lib.hid hin; have HSL := Lib.hid hsl
      have HND := Lib.hid hnd; have HTH := Lib.hid hth
      have HX0 := Lib.hid x0; have HX1 := Lib.hid x1; have HX2 := Lib.hid x2; have HM0 := Lib.hid m0; have HM1 := Lib.hid m1; have HMm2 := Lib.hid m2
      clear hupd hc hwr hM2 hat hrb hin hsl hnd hth x0 x1 x2 m0 m1 m2 hrt hsg ev2
      go_wp2_with fail
      refine (markText_c c wr (by have := HC.out; omega) (by omega)).mono ?_
      rintro e w1 ⟨rfl, hb1⟩
      obtain ⟨p0, p1, p2⟩ := HAT.out.below hb1 pb
      dsimp only at p1 p2
      have f0 : w1.frozen? ⟨b, o, none⟩ = false := (hb1.frozen (p := ⟨b, o, none⟩) pb).trans (HM2.out.free _ HM0.out)
      have f1 : w1.frozen? ⟨b, o + 1, none⟩ = false := (hb1.frozen (p := ⟨b, o + 1, none⟩) pb).trans (HM2.out.free _ HM1.out)
      have f2 : w1.frozen? ⟨b, o + 2, none⟩ = false := (hb1.frozen (p := ⟨b, o + 2, none⟩) pb).trans (HM2.out.free _ HMm2.out)
      have hp1 : b < w1.heap.size := Nat.lt_of_lt_of_le pb hb1.size
      have HB1 := Lib.hid hb1
      clear hb1
      obtain ⟨L, hL⟩ : ∃ L, decide ((c + 1) % 3 = 0) = L := ⟨_, rfl⟩
      have hm3 : (((c : Int) + 1) % 3 == 0) = L := (mod3 c).trans hL
      have HL := Lib.hid hL; clear hL
      go_wp2_with fail
      obtain ⟨W2, hW2⟩ : ∃ W2, (w1.setCell ⟨b, o, none⟩ (.string (mkT c))).setCell ⟨b, o + 1, none⟩ (.bool L) = W2 := ⟨_, rfl⟩
      have hWr2 : Wrote fs wr W2 := by rw [← hW2]; exact ((Wrote.of_below HB1.out).setCell HM0.out _).setCell HM1.out _
      have hsz2 : W2.heap.size = w1.heap.size := by rw [← hW2]; simp [World.setCell]
      have hoth : ∀ a : Addr, a ≠ ⟨b, o, none⟩ → a ≠ ⟨b, o + 1, none⟩ → W2.cell? a = w1.cell? a := fun a h1 h2 => by
        rw [← hW2, World.cell?_setCell_other _ _ _ _ (Ne.symm h2), World.cell?_setCell_other _ _ _ _ (Ne.symm h1)]
      have hrb2 : rBytes W2 fk (.slice A2 ds[j].bytes.length c2) ds[j].bytes := rSl.keep rByte.local_ HRB.out fun a ha => by
        rw [hoth a (fun e => HX0.out (by rw [← e]; exact ha)) (fun e => HX1.out (by rw [← e]; exact ha))]
        exact HB1.out.cell (HTH.out a ha)
      have hmfk : Mine lo W2 fk := ⟨HND.out, fun a ha => HM2.out.from_ a (HIN.out a ha), fun a ha => (hWr2.frozen a (HTH.out a ha)).trans (HM2.out.free a (HIN.out a ha))⟩
      have s0 : W2.cell? ⟨b, o, none⟩ = some (.string (mkT c)) := by
        rw [← hW2, World.cell?_setCell_other _ _ _ _ (by simp), World.cell?_setCell_same _ _ _ p0]
      have s1 : W2.cell? ⟨b, o + 1, none⟩ = some (.bool L) := by
        rw [← hW2]
        exact World.cell?_setCell_same _ _ _ (by rw [World.cell?_setCell_other _ _ _ _ (by simp)]; exact p1)
      have s2 : W2.cell? ⟨b, o + 2, none⟩ = some (.slice A2 ds[j].bytes.length c2) := (hoth _ (by simp) (by simp)).trans p2
      rw [hW2, show ((c : Int) + 1 + 1) = ((c + 2 : Nat) : Int) from by omega]
      have S0 := Lib.hid s0; have S1 := Lib.hid s1; have S2 := Lib.hid s2; have HO := Lib.hid hoth; have HW2 := Lib.hid hWr2; have HS2 := Lib.hid hsz2
      clear hW2 s0 s1 s2 hoth hWr2 p0 p1 p2 f0 f1 f2 hm3 hsz2
      refine (markByteS_c _ ds[j].bytes fk W2 (c + 2) lo hrb2 hmfk (by omega) (by omega)).mono ?_
      rintro e w3 ⟨rfl, hw3, hr3⟩
      have HW3 := Lib.hid hw3; have HR3 := Lib.hid hr3
      clear hw3 hr3 hrb2 hmfk
      have hst : thSum ds = thSum ds := rfl
      go_wp2_with fail
      go_roundw
      case rel =>
        have hlen : (markOne c ds[j]).bytes.length = ds[j].bytes.length := by simp [markOne, length_mkBytes]
        have hfs : ∀ a, a ∈ fk → a.block < W2.heap.size := fun a ha => Nat.lt_of_lt_of_le (HTH.out a ha) HW2.out.size
        have hb2 : b < W2.heap.size := by rw [HS2.out]; exact hp1
        have t0 := (HW3.out.cell ⟨b, o, none⟩ HX0.out hb2).trans S0.out
        have t1 := (HW3.out.cell ⟨b, o + 1, none⟩ HX1.out hb2).trans S1.out
        have t2 := (HW3.out.cell ⟨b, o + 2, none⟩ HX2.out hb2).trans S2.out
        have hnew := HUPD.out w3 (markOne c ds[j]) hlen hc1t (fun a ha h0 h1 h2 h3 => by
            have hwa : a.block < wr.heap.size := by
              have := rSl.there rTh.fixed H1.out a ha
              exact Nat.lt_of_lt_of_le this HW.out.size
            rw [HW3.out.cell a h3 (Nat.lt_of_lt_of_le hwa HW2.out.size), HO.out a h0 h1]
            exact HB1.out.cell hwa)
          ⟨t0, by rw [HL.out.symm] at t1; exact t1, by rw [hlen]; exact t2⟩ HR3.out
        rw [show c = k + markN (ds.take j) from HC.out, stage_set k ds j hlt] at hnew
        refine ⟨j + 1, c + 2 + ds[j].bytes.length, by omega, ?_, by go_num, by congr 1, hnew, (HW.out.trans HW2.out).trans (HW3.out.mono HIN.out)⟩
        rw [markN_take hlt, HC.out]; omega
      case measure => simp [intOf]; omega
    · have hje : j = ds.length := by omega
      subst hje
      rw [stage_all] at hrt
      rw [List.take_length, HR.out] at hc
      subst hc
      have HW := Lib.hid hwr; have HRT := Lib.hid hrt
      clear hwr hrt
      go_wp2_with fail
      go_ret
      exact ⟨rfl, HW.out, HRT.out⟩


theorem markTh_get : ∀ (k : Nat) (ds : List Th) (j : Nat) (h : j < ds.length) (h2 : j < (markTh k ds).length), (markTh k ds)[j] = markOne (k + markN (ds.take j)) ds[j]
  | _, [], _, h, _ => by cases h
  | k, d :: r, 0, _, _ => by simp [markTh, markN]
  | k, d :: r, j + 1, h, h2 => by
    simp only [markTh, List.getElem_cons_succ, List.take_succ_cons, markN]
    rw [markTh_get _ r j (by simpa using h)]
    rw [show k + 2 + d.bytes.length + markN (r.take j) = k + (2 + d.bytes.length + markN (r.take j)) from by omega]

set_option maxHeartbeats 1000000 in
set_option maxRecDepth 100000 in
theorem heldThingS_c (v : Value) (ds : List Th) (fs : List Addr) (w : World) (k : Nat) (h1 : rThs w fs v (markTh k ds)) (hk : 0 < k) (hk0 : k ≤ 1000000000) (hsm : ds.length + thSum ds ≤ 5000000) :
    Calls Try.prog 36 #[v, .int .i64 (k : Int)] w fun e w' => e = .returned (.int .i64 ((k + markN ds : Nat) : Int)) ∧ Below w.heap.size w w' := by
  have hml := markTh_length k ds
  obtain ⟨A1, c1, rfl, hc1, hm1, hx⟩ := rThs.open_ h1
  have H1 := Lib.hid h1
  clear h1
  have HX := Lib.hid hx; clear hx
  have hmn : markN ds ≤ 10000000 := by have := markN_le ds; omega
  obtain ⟨R, hR⟩ : ∃ R : Nat, k + markN ds = R := ⟨_, rfl⟩
  rw [hR]
  have HR := Lib.hid hR; clear hR
  rw [hml] at hc1 ⊢
  have HML := Lib.hid hml; clear hml
  go_enter Try.func36, Try.ntmps36
  go_wp2
  go_loopw [1, 4, 5] (fun n r i wr => ∃ (j c : Nat), j ≤ ds.length ∧ c = k + markN (ds.take j) ∧ i = .int .i64 j ∧ n = .int .i64 c ∧ r = .int .i64 0 ∧ Below w.heap.size w wr) (fun _ _ i _ => ds.length - (intOf i).toNat)
  case atStart => exact ⟨0, k, by omega, by simp [markN], rfl, rfl, rfl, Below.refl _ _⟩
  case round =>
    obtain ⟨j, c, hj, hc, rfl, rfl, rfl, hb⟩ := hrel
    have hmt := markN_take_le ds j
    by_cases hlt : j < ds.length
    · have hlt2 : j < (markTh k ds).length := by rw [HML.out]; exact hlt
      have hget := markTh_get k ds j hlt hlt2
      rw [← hc] at hget
      obtain ⟨ad, A2, c2, fk, e1, b0, hat, hns, hrb, hth, -, -⟩ := HX.out j hlt2
      rw [hget] at hat hrb
      simp only [AtTh, markOne] at hat hrb
      have hlen : (mkBytes (c + 2) ds[j].bytes.length).length = ds[j].bytes.length := length_mkBytes _ _
      have hat2 : AtTh w (ad.add (j * 3)) ⟨mkT c, decide ((c + 1) % 3 = 0), mkBytes (c + 2) ds[j].bytes.length⟩ A2 c2 := hat
      subst e1
      obtain ⟨p0, p1, p2⟩ := hat2.below hb b0
      simp only [hlen] at p2
      have hrb2 : rBytes wr fk (.slice A2 ds[j].bytes.length c2) (mkBytes (c + 2) ds[j].bytes.length) := by
        have := rSl.keep rByte.local_ hrb (Same.of_below hth hb)
        rwa [hlen] at this
      have hbl : ds[j].bytes.length ≤ 5000000 := by have := (thSum_get hlt).2; omega
      have hcb : c ≤ 1010000000 := by omega
      obtain ⟨L, hL⟩ : ∃ L, decide ((c + 1) % 3 = 0) = L := ⟨_, rfl⟩
      have hm3 : (((c : Int) + 1) % 3 == 0) = L := (mod3 c).trans hL
      simp only [hL] at p1
      have p0' := cell_regrown p0
      have hT := strNe_f (rfl : mkT c = mkT c)
      have HCt := Lib.hid (fun d os => Calls.regrown_of (markText_c c (grow (redrawn wr d) os) (by omega) (by omega)))
      have hw1 : (ad.add (j * 3)).block < wr.heap.size := Nat.lt_of_lt_of_le b0 hb.size
      have HB := Lib.hid hb; have HC := Lib.hid hc; have HRB := Lib.hid hrb2; have HP1 := Lib.hid p1; have HP2 := Lib.hid p2; have HLEN := Lib.hid hlen
      have HM3 := Lib.hid hm3
      clear hat hat2 hrb hth hb hc hrb2 hget HX hL p0 p1 p2 hlen hm3
      obtain ⟨T, hTT⟩ : ∃ T, mkT c = T := ⟨_, rfl⟩
      rw [hTT] at p0' hT HCt
      clear hTT
      go_wp2_with fail
      refine wp_region_quiet_below (by kernel_rfl) (by kernel_rfl) ?_
      repeat (first | go_big_quiet_step (exact HCt.out _ _) | quiet_step (exact HCt.out _ _))
      refine wpQuiet_nil ?_
      intro _ hw'
      obtain ⟨⟨dq, osq⟩, hw''⟩ := hw'
      subst hw''
      have hbg := below_regrown wr dq osq
      have HB1 := Lib.hid (HB.out.trans (hbg.mono HB.out.size))
      have p1 := (hbg.cell (p := ⟨(ad.add (j * 3)).block, (ad.add (j * 3)).off + 1, none⟩) hw1).trans HP1.out
      have p2 := (hbg.cell (p := ⟨(ad.add (j * 3)).block, (ad.add (j * 3)).off + 2, none⟩) hw1).trans HP2.out
      have HRB2 := Lib.hid (rBytes.below HRB.out hbg)
      have hm3 := HM3.out
      have hLL : (!L == L) = false := by simp
      obtain ⟨wq, hwq⟩ : ∃ wq, grow (redrawn wr dq) osq = wq := ⟨_, rfl⟩
      rw [hwq] at p1 p2 HB1 HRB2 ⊢
      clear hbg hwq p0'
      go_wp2_with fail
      rw [show ((c : Int) + 1 + 1) = ((c + 2 : Nat) : Int) from by omega]
      refine (heldByteS_c _ (mkBytes (c + 2) ds[j].bytes.length) fk wq (c + 2) HRB2.out (by omega) (by rw [HLEN.out]; omega)).mono ?_
      rintro e w3 ⟨rfl, hb3⟩
      rw [heldB_yes (by rw [HLEN.out]), HLEN.out]
      have HB3 := Lib.hid (HB1.out.trans (hb3.mono HB1.out.size))
      have hnn : ¬ ((c + 2 : Nat) : Int) + (ds[j].bytes.length : Int) < 0 := by omega
      clear hb3 p1 p2
      go_wp2_with fail
      go_roundw
      case rel =>
        refine ⟨j + 1, c + 2 + ds[j].bytes.length, by omega, ?_, by go_num, by congr 1, rfl, HB3.out⟩
        rw [markN_take hlt, HC.out]; omega
      case measure => simp [intOf]; omega
    · have hje : j = ds.length := by omega
      subst hje
      rw [List.take_length, HR.out] at hc
      subst hc
      have HB := Lib.hid hb
      clear hb HX
      go_wp2_with fail
      go_ret
      exact ⟨rfl, HB.out⟩

end Go.Proofs.Ytimabbleijkmhaa
