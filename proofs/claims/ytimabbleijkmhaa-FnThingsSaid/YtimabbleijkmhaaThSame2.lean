/-
  SameThings of the program: a comparison of two slices by a function.
-/
import Derived.Test.YtimabbleijkmhaaThSame
namespace Go.Proofs.Ytimabbleijkmhaa
open Go.RowKit Go.Sort

theorem rBytes.bytesIn {w : World} {fs : List Addr} {A : Option Addr} {n c : Nat} {xs : List UInt8} (h : rBytes w fs (.slice A n c) xs) : Lib.BytesIn w A n (xs.map fun x => (x.toNat : Int)) ∧ xs.length = n := by
  obtain ⟨A1, c1, e, hc1, hm1, hx⟩ := rBytes.open_ h
  injection e with e1 e2 e3
  subst e1 e2 e3
  refine ⟨?_, rfl⟩
  intro hn
  obtain ⟨ad, e1, _, _, _⟩ := hx 0 hn
  subst e1
  refine Lib.BytesIn.of_cells (fun i hi => ?_) hn
  obtain ⟨ad2, e2, _, _, h4⟩ := hx i hi
  injection e2 with e2
  subst e2
  rw [h4]
  simp [List.getD, List.getElem?_eq_getElem hi]

theorem bytesOf_map (l : List UInt8) : Lib.bytesOf (l.map fun x => (x.toNat : Int)) = l := by
  unfold Lib.bytesOf
  rw [List.map_map]
  conv => rhs; rw [← List.map_id l]
  apply List.map_congr_left
  intro x _
  simp

theorem bytesEqual_c (v1 v2 : Value) (xs ys : List UInt8) (f1 f2 : List Addr) (w : World) (h1 : rBytes w f1 v1 xs) (h2 : rBytes w f2 v2 ys) :
    Calls Try.prog 58 #[v1, v2] w fun e w' => e = .returned (.bool (decide (xs = ys))) ∧ Below w.heap.size w w' := by
  obtain ⟨A1, c1, rfl, -⟩ := h1.form
  obtain ⟨A2, c2, rfl, -⟩ := h2.form
  refine (Try.bytesEqual A1 A2 _ c1 _ c2 (xs.map fun x => (x.toNat : Int)) (ys.map fun x => (x.toNat : Int)) w (by simp) (by simp) (rBytes.bytesIn h1).1 (rBytes.bytesIn h2).1).mono ?_
  rintro e w' ⟨rfl, rfl⟩
  rw [bytesOf_map, bytesOf_map]
  refine ⟨retBool ?_, Below.refl _ _⟩
  by_cases h : xs = ys <;> simp [h]

set_option maxHeartbeats 1000000 in
theorem sameClosure_c (d1 d2 : Th) (v1 v2 : Value) (f1 f2 : List Addr) (w : World) (h1 : rBytes w f1 v1 d1.bytes) (h2 : rBytes w f2 v2 d2.bytes) :
    Calls Try.prog 57 #[.agg #[.string d1.name, .bool d1.lost, v1], .agg #[.string d2.name, .bool d2.lost, v2]] w fun e w' => e = .returned (.bool (decide (d1 = d2))) ∧ Below w.heap.size w w' := by
  obtain ⟨n1, l1, b1⟩ := d1
  obtain ⟨n2, l2, b2⟩ := d2
  simp only at h1 h2 ⊢
  have H1 := Lib.hid h1; have H2 := Lib.hid h2
  obtain ⟨A1, c1, rfl, -⟩ := h1.form
  obtain ⟨A2, c2, rfl, -⟩ := h2.form
  clear h1 h2
  have B1 : Below w.heap.size w ((w.alloc (.cells #[.string n1, .bool l1, .slice A1 b1.length c1] 55)).alloc (.cells #[.string n2, .bool l2, .slice A2 b2.length c2] 55)) := ((Below.refl _ _).alloc (Nat.le_refl _) _).alloc (by simp) _
  have BB := Lib.hid B1; clear B1
  by_cases hn : n1 = n2
  · have hb := strEq_t hn
    have HN := Lib.hid hn; clear hn
    by_cases hl : l1 = l2
    · subst hl
      have hfin : decide ((⟨n1, l1, b1⟩ : Th) = ⟨n2, l1, b2⟩) = decide (b1 = b2) := by rw [HN.out]; simp
      rw [hfin]
      clear hfin
      go_enter Try.func57, Try.ntmps57
      go_wp2_with fail
      refine (bytesEqual_c _ _ b1 b2 f1 f2 _ (H1.out.below BB.out) (H2.out.below BB.out)).mono ?_
      rintro e w1 ⟨rfl, hb1⟩
      have B2 := Lib.hid (BB.out.trans (hb1.mono BB.out.size))
      clear hb1
      go_wp2_with fail
      go_ret
      exact ⟨rfl, B2.out⟩
    · have hfin : decide ((⟨n1, l1, b1⟩ : Th) = ⟨n2, l2, b2⟩) = false := by simp [hl]
      rw [hfin]
      clear hfin
      have hx : (l1 == l2) = false := by simpa using hl
      clear hl
      go_enter Try.func57, Try.ntmps57
      go_wp2_with fail
      go_ret
      exact ⟨rfl, BB.out⟩
  · have hfin : decide ((⟨n1, l1, b1⟩ : Th) = ⟨n2, l2, b2⟩) = false := by simp [hn]
    rw [hfin]
    clear hfin
    have hb := strEq_f hn
    clear hn
    go_enter Try.func57, Try.ntmps57
    go_wp2_with fail
    go_ret
    exact ⟨rfl, BB.out⟩

set_option maxHeartbeats 1000000 in
theorem thingsEqualFunc_c (v1 v2 : Value) (xs ys : List Th) (f1 f2 : List Addr) (w : World) (h1 : rThs w f1 v1 xs) (h2 : rThs w f2 v2 ys) :
    Calls Try.prog 56 #[v1, v2, .func (.func 57) #[] #[]] w fun e w' => e = .returned (.bool (decide (xs = ys))) ∧ Below w.heap.size w w' := by
  obtain ⟨A1, c1, rfl, hc1, hm1, hx⟩ := rThs.open_ h1
  obtain ⟨A2, c2, rfl, hc2, hm2, hy⟩ := rThs.open_ h2
  clear h1 h2
  obtain ⟨rb, hrb⟩ : ∃ rb, decide (xs = ys) = rb := ⟨_, rfl⟩
  rw [hrb]
  have RB := Lib.hid hrb; clear hrb
  have HX := Lib.hid hx; have HY := Lib.hid hy; clear hx hy
  by_cases hl : xs.length = ys.length
  · have hb := bneNat_f hl
    have HL := Lib.hid hl; clear hl
    go_enter Try.func56, Try.ntmps56
    go_wp2
    go_loopw [6, 17] (fun r i wr => ∃ k : Nat, k ≤ xs.length ∧ i = .int .i64 k ∧ r = .bool false ∧ xs.take k = ys.take k ∧ Below w.heap.size w wr) (fun _ i _ => xs.length - (intOf i).toNat)
    case atStart => exact ⟨0, by omega, rfl, rfl, by simp, Below.refl _ _⟩
    case round =>
      obtain ⟨k, hk, rfl, rfl, ht, hbl⟩ := hrel
      have HT := Lib.hid ht; clear ht
      by_cases hlt : k < xs.length
      · have hlt2 : k < ys.length := by rw [← HL.out]; exact hlt
        obtain ⟨a1, A3, c3, g1, e1, b1, at1, -, rb1, th1, -, -⟩ := HX.out k hlt
        obtain ⟨a2, A4, c4, g2, e2, b2, at2, -, rb2, th2, -, -⟩ := HY.out k hlt2
        subst e1 e2
        obtain ⟨p0, p1, p2⟩ := at1.below hbl b1
        obtain ⟨q0, q1, q2⟩ := at2.below hbl b2
        have R1 := Lib.hid (rSl.keep rByte.local_ rb1 (Same.of_below th1 hbl))
        have R2 := Lib.hid (rSl.keep rByte.local_ rb2 (Same.of_below th2 hbl))
        have HB := Lib.hid hbl
        have hw1 : (a1.add (k * 3)).block < wr.heap.size := Nat.lt_of_lt_of_le b1 hbl.size
        have hw2 : (a2.add (k * 3)).block < wr.heap.size := Nat.lt_of_lt_of_le b2 hbl.size
        clear rb1 rb2 th1 th2 at1 at2 HX HY hbl
        go_wp2_with fail
        have B1 : Below wr.heap.size wr ((wr.alloc (.cells #[.string xs[k].name, .bool xs[k].lost, .slice A3 xs[k].bytes.length c3] 55)).alloc (.cells #[.string ys[k].name, .bool ys[k].lost, .slice A4 ys[k].bytes.length c4] 55)) := ((Below.refl _ _).alloc (Nat.le_refl _) _).alloc (by simp) _
        refine (sameClosure_c xs[k] ys[k] _ _ g1 g2 _ (rBytes.below R1.out B1) (rBytes.below R2.out B1)).mono ?_
        rintro e w1 ⟨rfl, hb1⟩
        have HB1 := Lib.hid (HB.out.trans ((B1.trans (hb1.mono B1.size)).mono HB.out.size))
        clear hb1 B1 p0 p1 p2 q0 q1 q2
        obtain ⟨bb, hbb⟩ : ∃ bb, decide (xs[k] = ys[k]) = bb := ⟨_, rfl⟩
        rw [hbb]
        have HBB := Lib.hid hbb; clear hbb
        cases bb with
        | true =>
          have he := of_decide_eq_true HBB.out
          have HE := Lib.hid he; clear he
          go_wp2_with fail
          go_roundw
          case rel => exact ⟨k+1, by omega, by go_num, rfl, takeEq' HT.out hlt hlt2 HE.out, HB1.out⟩
          case measure => simp [intOf]; omega
        | false =>
          have he := of_decide_eq_false HBB.out
          have e1 : rb = false := by rw [← RB.out]; exact decide_eq_false (fun e => he (by subst e; rfl))
          subst e1
          clear he
          go_wp2_with fail
          go_ret
          exact ⟨rfl, HB1.out⟩
      · have hk' : k = xs.length := by omega
        have H := HT.out
        rw [hk', List.take_length, HL.out, List.take_length] at H
        have e1 : rb = true := by rw [← RB.out]; exact decide_eq_true H
        subst e1
        have HB := Lib.hid hbl
        clear H hk' HX HY hbl
        go_wp2
        go_ret
        exact ⟨rfl, HB.out⟩
  · have hb := bneNat_t hl
    have e1 : rb = false := by rw [← RB.out]; exact decide_eq_false (fun e => hl (by rw [e]))
    subst e1
    clear HX HY
    go_enter Try.func56, Try.ntmps56
    go_wp2
    go_ret
    exact ⟨rfl, Below.refl _ _⟩

set_option maxHeartbeats 1000000 in
theorem implSameThings_c (v1 v2 : Value) (xs ys : List Th) (f1 f2 : List Addr) (w : World) (h1 : rThs w f1 v1 xs) (h2 : rThs w f2 v2 ys) :
    Calls Try.prog 27 #[v1, v2] w fun e w' => e = .returned (.bool (decide (xs = ys))) ∧ Below w.heap.size w w' := by
  have H1 := Lib.hid h1; have H2 := Lib.hid h2
  obtain ⟨A1, c1, rfl, hc1, hm1, hx⟩ := rThs.open_ h1
  obtain ⟨A2, c2, rfl, hc2, hm2, hy⟩ := rThs.open_ h2
  clear h1 h2 hx hy
  go_enter Try.func27, Try.ntmps27
  go_wp2_with fail
  refine (thingsEqualFunc_c _ _ xs ys f1 f2 w H1.out H2.out).mono ?_
  rintro e w1 ⟨rfl, hb1⟩
  have B1 := Lib.hid hb1
  clear hb1
  go_wp2_with fail
  go_ret
  exact ⟨rfl, B1.out⟩

end Go.Proofs.Ytimabbleijkmhaa
