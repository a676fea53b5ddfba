/-
  Things: their measure, and whether two lists of them are alike.
-/
import Derived.Test.YtimabbleijkmhaaTh
import Derived.Lib.QuietBelow
namespace Go.Proofs.Ytimabbleijkmhaa
open Go.RowKit Go.Sort

set_option maxHeartbeats 400000 in
theorem szThingS_c (v : Value) (ds : List Th) (fs : List Addr) (w : World) (left : Int) (h1 : rThs w fs v ds) (hl : 0 ≤ left) (hl2 : left ≤ 1048576) :
    Calls Try.prog 24 #[v, .int .i64 left] w fun e w' => e = .returned (.int .i64 (szTh left (ds.length + thSum ds))) ∧ Below w.heap.size w w' := by
  obtain ⟨A1, c1, rfl, hc1, hm1, hx⟩ := rThs.open_ h1
  have H1 := Lib.hid h1; clear h1
  by_cases h : left < ds.length
  · have hlt : left - (ds.length : Int) < 0 := by omega
    have e1 : szTh left (ds.length + thSum ds) = -1 := szTh_t (by omega)
    rw [e1]
    clear e1 hx
    go_enter Try.func24, Try.ntmps24
    go_wp2_with fail
    go_ret
    exact ⟨rfl, Below.refl _ _⟩
  · have hlt : ¬ left - (ds.length : Int) < 0 := by omega
    obtain ⟨r, hr⟩ : ∃ r, szTh left (ds.length + thSum ds) = r := ⟨_, rfl⟩
    rw [hr]
    have HR := Lib.hid hr; clear hr
    have HX := Lib.hid hx; clear hx
    go_enter Try.func24, Try.ntmps24
    go_wp2_with fail
    go_loopw [1, 4, 5] (fun l r i wr => ∃ (j t : Nat), j ≤ ds.length ∧ t = thSum (ds.take j) ∧ (t : Int) ≤ left - (ds.length : Int) ∧ i = .int .i64 j ∧ r = .int .i64 0 ∧ l = .int .i64 (left - (ds.length : Int) - (t : Int)) ∧ Below w.heap.size w wr) (fun _ _ i _ => ds.length - (intOf i).toNat)
    case atStart => exact ⟨0, 0, by omega, by simp [thSum], by omega, rfl, rfl, by simp, Below.refl _ _⟩
    case round =>
      obtain ⟨j, t, hj, ht, htl, rfl, rfl, rfl, hb⟩ := hrel
      have HT := Lib.hid ht; clear ht
      by_cases hlt2 : j < ds.length
      · obtain ⟨ad, A2, c2, fk, e1, b0, hat, hns, hrb, hth, -, -⟩ := HX.out j hlt2
        subst e1
        obtain ⟨g0, g1, g2⟩ := hat.below hb b0
        clear HX
        have HRB := Lib.hid (rSl.keep rByte.local_ hrb (Same.of_below hth hb))
        have hst := thSum_step hlt2
        rw [← HT.out] at hst
        have HST := Lib.hid hst
        have HB := Lib.hid hb
        clear hat hrb hst hth hb
        go_wp2_with fail
        refine (szThing_c ds[j] _ fk wr _ HRB.out (by omega) (by omega) hns).mono ?_
        rintro e w1 ⟨rfl, hb1⟩
        have B1 := Lib.hid (HB.out.trans (hb1.mono HB.out.size))
        clear hb1
        have htk := thSum_take ds (j + 1)
        by_cases h4 : left - (ds.length : Int) - (t : Int) < ((ds[j].name.size + ds[j].bytes.length : Nat) : Int)
        · rw [szTh_t h4]
          have e1 : r = -1 := by rw [← HR.out]; exact szTh_t (by have := HST.out; omega)
          subst e1
          clear htk
          go_wp2_with fail
          go_ret
          exact ⟨rfl, B1.out⟩
        · rw [szTh_f h4]
          have h5 : ¬ left - (ds.length : Int) - (t : Int) - ((ds[j].name.size + ds[j].bytes.length : Nat) : Int) < 0 := by omega
          have h6 : left - (ds.length : Int) - (t : Int) - ((ds[j].name.size + ds[j].bytes.length : Nat) : Int) = left - (ds.length : Int) - ((thSum (ds.take (j + 1)) : Nat) : Int) := by rw [HST.out]; omega
          rw [h6] at h5 ⊢
          have H4 := Lib.hid h4
          clear htk h6 h4
          generalize hq : thSum (ds.take (j + 1)) = q at *
          have HQ := Lib.hid hq; clear hq
          go_wp2_with fail
          go_roundw
          case rel => exact ⟨j + 1, q, by omega, HQ.out.symm, by omega, by go_num, rfl, rfl, B1.out⟩
          case measure => simp [intOf]; omega
      · have e1 : t = thSum ds := by rw [HT.out, List.take_of_length_le (by omega)]
        have e2 : r = left - (ds.length : Int) - (t : Int) := by rw [← HR.out, szTh_f (by omega)]; omega
        subst e2
        have HB := Lib.hid hb
        clear HR e1 hb HX
        go_wp2_with fail
        go_ret
        exact ⟨rfl, HB.out⟩

theorem strNe_f {a b : ByteArray} (h : a = b) : (!a.toList == b.toList) = false := by subst h; simp
theorem strNe_t {a b : ByteArray} (h : a ≠ b) : (!a.toList == b.toList) = true := by
  have : a.toList ≠ b.toList := fun e => h (WideShapes.bytes_inj (by rwa [ByteArray.toList_eq, ByteArray.toList_eq] at e))
  simpa using this
theorem strEq_t {a b : ByteArray} (h : a = b) : (a.toList == b.toList) = true := by subst h; simp
theorem strEq_f {a b : ByteArray} (h : a ≠ b) : (a.toList == b.toList) = false := by
  have := strNe_t h
  simpa using this

set_option maxHeartbeats 400000 in
theorem eqThing_c (d1 d2 : Th) (v1 v2 : Value) (f1 f2 : List Addr) (w : World) (h1 : rBytes w f1 v1 d1.bytes) (h2 : rBytes w f2 v2 d2.bytes) :
    Calls Try.prog 59 #[.agg #[.string d1.name, .bool d1.lost, v1], .agg #[.string d2.name, .bool d2.lost, v2]] w fun e w' => e = .returned (.bool (decide (d1 = d2))) ∧ Below w.heap.size w w' := by
  obtain ⟨n1, l1, b1⟩ := d1
  obtain ⟨n2, l2, b2⟩ := d2
  simp only at h1 h2 ⊢
  have H1 := Lib.hid h1; have H2 := Lib.hid h2
  obtain ⟨A1, c1, rfl, -⟩ := h1.form
  obtain ⟨A2, c2, rfl, -⟩ := h2.form
  clear h1 h2
  have B1 : Below w.heap.size w ((w.alloc (.cells #[.string n1, .bool l1, .slice A1 b1.length c1] 55)).alloc (.cells #[.string n2, .bool l2, .slice A2 b2.length c2] 55)) := ((Below.refl _ _).alloc (Nat.le_refl _) _).alloc (by simp) _
  have BB := Lib.hid B1; clear B1
  by_cases hn : n1 = n2
  · have hb := strNe_f hn
    have HN := Lib.hid hn; clear hn
    by_cases hl : l1 = l2
    · subst hl
      have hfin : decide ((⟨n1, l1, b1⟩ : Th) = ⟨n2, l1, b2⟩) = decide (b1 = b2) := by rw [HN.out]; simp
      rw [hfin]
      clear hfin
      go_enter Try.func59, Try.ntmps59
      go_wp2_with fail
      refine (eqByteS_c _ _ b1 b2 f1 f2 _ (H1.out.below BB.out) (H2.out.below BB.out)).mono ?_
      rintro e w1 ⟨rfl, hb1⟩
      have B2 := Lib.hid (BB.out.trans (hb1.mono BB.out.size))
      clear hb1
      by_cases hbb : b1 = b2
      · have hd : decide (b1 = b2) = true := decide_eq_true hbb
        rw [hd]
        have HD := Lib.hid hd
        clear hd hbb
        go_wp2_with fail
        go_ret
        exact ⟨retBool HD.out.symm, B2.out⟩
      · have hd : decide (b1 = b2) = false := decide_eq_false hbb
        rw [hd]
        have HD := Lib.hid hd
        clear hd hbb
        go_wp2_with fail
        go_ret
        exact ⟨retBool HD.out.symm, B2.out⟩
    · have hfin : decide ((⟨n1, l1, b1⟩ : Th) = ⟨n2, l2, b2⟩) = false := by simp [hl]
      rw [hfin]
      clear hfin
      have hx : (!l1 == l2) = true := by simpa using hl
      clear hl
      go_enter Try.func59, Try.ntmps59
      go_wp2_with fail
      go_ret
      exact ⟨rfl, BB.out⟩
  · have hfin : decide ((⟨n1, l1, b1⟩ : Th) = ⟨n2, l2, b2⟩) = false := by simp [hn]
    rw [hfin]
    clear hfin
    have hb := strNe_t hn
    clear hn
    go_enter Try.func59, Try.ntmps59
    go_wp2_with fail
    go_ret
    exact ⟨rfl, BB.out⟩


theorem takeEq' {α : Type} {l m : List α} {k : Nat} (h : l.take k = m.take k) (h1 : k < l.length) (h2 : k < m.length) (he : l[k] = m[k]) : l.take (k + 1) = m.take (k + 1) := by
  rw [List.take_succ_eq_append_getElem h1, List.take_succ_eq_append_getElem h2, h, he]

set_option maxHeartbeats 400000 in
theorem eqThingS_c (v1 v2 : Value) (xs ys : List Th) (f1 f2 : List Addr) (w : World) (h1 : rThs w f1 v1 xs) (h2 : rThs w f2 v2 ys) :
    Calls Try.prog 28 #[v1, v2] w fun e w' => e = .returned (.bool (decide (xs = ys))) ∧ Below w.heap.size w w' := by
  obtain ⟨A1, c1, rfl, hc1, hm1, hx⟩ := rThs.open_ h1
  obtain ⟨A2, c2, rfl, hc2, hm2, hy⟩ := rThs.open_ h2
  clear h1 h2
  obtain ⟨rb, hrb⟩ : ∃ rb, decide (xs = ys) = rb := ⟨_, rfl⟩
  rw [hrb]
  have RB := Lib.hid hrb; clear hrb
  have HX := Lib.hid hx; have HY := Lib.hid hy; clear hx hy
  by_cases hl : xs.length = ys.length
  · have hb := bneNat_f hl
    have HL := Lib.hid hl; clear hl
    go_enter Try.func28, Try.ntmps28
    go_wp2
    go_loopw [4, 5] (fun r i wr => ∃ k : Nat, k ≤ xs.length ∧ i = .int .i64 k ∧ r = .bool false ∧ xs.take k = ys.take k ∧ Below w.heap.size w wr) (fun _ i _ => xs.length - (intOf i).toNat)
    case atStart => exact ⟨0, by omega, rfl, rfl, by simp, Below.refl _ _⟩
    case round =>
      obtain ⟨k, hk, rfl, rfl, ht, hbl⟩ := hrel
      have HT := Lib.hid ht; clear ht
      by_cases hlt : k < xs.length
      · have hlt2 : k < ys.length := by rw [← HL.out]; exact hlt
        obtain ⟨a1, A3, c3, g1, e1, b1, at1, -, rb1, th1, -, -⟩ := HX.out k hlt
        obtain ⟨a2, A4, c4, g2, e2, b2, at2, -, rb2, th2, -, -⟩ := HY.out k hlt2
        subst e1 e2
        obtain ⟨p0, p1, p2⟩ := at1.below hbl b1
        obtain ⟨q0, q1, q2⟩ := at2.below hbl b2
        have R1 := Lib.hid (rSl.keep rByte.local_ rb1 (Same.of_below th1 hbl))
        have R2 := Lib.hid (rSl.keep rByte.local_ rb2 (Same.of_below th2 hbl))
        have HB := Lib.hid hbl
        have hc : ∀ d os, Calls Try.prog 59 #[.agg #[.string xs[k].name, .bool xs[k].lost, .slice A3 xs[k].bytes.length c3], .agg #[.string ys[k].name, .bool ys[k].lost, .slice A4 ys[k].bytes.length c4]] (grow (redrawn wr d) os) fun e w'' => e = .returned (.bool (decide (xs[k] = ys[k]))) ∧ ∃ p : Regrown, w'' = grow (redrawn wr p.d) p.os :=
          fun d os => Calls.regrown_of (eqThing_c xs[k] ys[k] _ _ g1 g2 _ (rSl.below rByte.local_ rByte.fixed R1.out (below_regrown wr d os)) (rSl.below rByte.local_ rByte.fixed R2.out (below_regrown wr d os)))
        obtain ⟨bb, hbb⟩ : ∃ bb, decide (xs[k] = ys[k]) = bb := ⟨_, rfl⟩
        rw [hbb] at hc
        have HBB := Lib.hid hbb; clear hbb
        have HC := Lib.hid hc; clear hc
        have p0' := cell_regrown p0; have p1' := cell_regrown p1; have p2' := cell_regrown p2
        have q0' := cell_regrown q0; have q1' := cell_regrown q1; have q2' := cell_regrown q2
        clear rb1 rb2 th1 th2 at1 at2 HX HY hbl p0 p1 p2 q0 q1 q2
        go_wp2_with fail
        refine wp_region_quiet_below (by kernel_rfl) (by kernel_rfl) ?_
        repeat (first | go_big_quiet_step (exact HC.out _ _) | quiet_step (exact HC.out _ _))
        refine wpQuiet_nil ?_
        intro _ hw'
        obtain ⟨⟨dq, osq⟩, hw''⟩ := hw'
        subst hw''
        have HB1 := Lib.hid (HB.out.trans ((below_regrown wr dq osq).mono HB.out.size))
        cases bb with
        | true =>
          have he := of_decide_eq_true HBB.out
          have HE := Lib.hid he; clear he
          go_wp2_with fail
          go_roundw
          case rel => exact ⟨k+1, by omega, by go_num, rfl, takeEq' HT.out hlt hlt2 HE.out, HB1.out⟩
          case measure => simp [intOf]; omega
        | false =>
          have he := of_decide_eq_false HBB.out
          have e1 : rb = false := by rw [← RB.out]; exact decide_eq_false (fun e => he (by subst e; rfl))
          subst e1
          clear he
          go_wp2_with fail
          go_ret
          exact ⟨rfl, HB1.out⟩
      · have hk' : k = xs.length := by omega
        have H := HT.out
        rw [hk', List.take_length, HL.out, List.take_length] at H
        have e1 : rb = true := by rw [← RB.out]; exact decide_eq_true H
        subst e1
        have HB := Lib.hid hbl
        clear H hk' HX HY hbl
        go_wp2
        go_ret
        exact ⟨rfl, HB.out⟩
  · have hb := bneNat_t hl
    have e1 : rb = false := by rw [← RB.out]; exact decide_eq_false (fun e => hl (by rw [e]))
    subst e1
    clear HX HY
    go_enter Try.func28, Try.ntmps28
    go_wp2
    go_ret
    exact ⟨rfl, Below.refl _ _⟩

end Go.Proofs.Ytimabbleijkmhaa
