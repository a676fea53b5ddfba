/-
  FnExactBytesOfHex: for every text the law answers true.
-/
import Derived.Test.YtimabbleijkmhaaBohS
import Derived.Test.YtimabbleijkmhaaLBytes
namespace Go.Proofs.Ytimabbleijkmhaa
open Go.RowKit

set_option maxHeartbeats 400000 in
theorem eqBytesResult_c (C : Int) (v1 v2 : Value) (xs : List UInt8) (f1 f2 : List Addr) (w : World) (h1 : rBytes w f1 v1 xs) (h2 : rBytes w f2 v2 xs) :
    Calls Try.prog 21 #[.agg #[.int .i64 C, v1], .agg #[.int .i64 C, v2]] w fun e w' => e = .returned (.bool true) ∧ Below w.heap.size w w' := by
  have H1 := Lib.hid h1; have H2 := Lib.hid h2
  obtain ⟨A1, c1, rfl, -⟩ := h1.form
  obtain ⟨A2, c2, rfl, -⟩ := h2.form
  clear h1 h2
  go_enter Try.func21, Try.ntmps21
  go_wp2_with fail
  have B1 : Below w.heap.size w ((w.alloc (.cells #[.int .i64 C, .slice A1 xs.length c1] 37)).alloc (.cells #[.int .i64 C, .slice A2 xs.length c2] 37)) := ((Below.refl _ _).alloc (Nat.le_refl _) _).alloc (by simp) _
  refine (eqByteS_c _ _ xs xs f1 f2 _ (H1.out.below B1) (H2.out.below B1)).mono ?_
  rintro e w1 ⟨rfl, hb1⟩
  have B2 := Lib.hid (B1.trans (hb1.mono B1.size))
  clear hb1 B1
  go_wp2_with fail
  go_ret
  exact ⟨rfl, B2.out⟩

set_option maxHeartbeats 400000 in
theorem markBytesResult_c (C : Int) (v : Value) (xs : List UInt8) (fs : List Addr) (w : World) (k lo : Nat) (h1 : rBytes w fs v xs) (hm : Mine lo w fs) (hk0 : k ≤ 1000000000000) (hsm : xs.length ≤ 1000000000000) :
    Calls Try.prog 22 #[.agg #[.int .i64 C, v], .int .i64 k] w fun e w' => e = .returned (.int .i64 ((k : Int) + (xs.length : Int))) ∧ Wrote fs w w' ∧ rBytes w' fs v (mkBytes k xs.length) := by
  have H1 := Lib.hid h1; have HM := Lib.hid hm
  obtain ⟨A1, c1, rfl, -⟩ := h1.form
  clear h1 hm
  go_enter Try.func22, Try.ntmps22
  go_wp2_with fail
  have B1 : Below w.heap.size w (w.alloc (.cells #[.int .i64 C, .slice A1 xs.length c1] 37)) := (Below.refl _ _).alloc (Nat.le_refl _) _
  have W1 : Wrote fs w (w.alloc (.cells #[.int .i64 C, .slice A1 xs.length c1] 37)) := .of_below B1
  refine (markByteS_c _ xs fs _ k lo (H1.out.below B1) (HM.out.wrote W1 (rSl.there rByte.fixed H1.out)) hk0 hsm).mono ?_
  rintro e w1 ⟨rfl, hw1, hr1⟩
  have W2 := Lib.hid (W1.trans hw1)
  have R1 := Lib.hid hr1
  clear W1 B1 hw1 hr1
  go_wp2_with fail
  go_ret
  exact ⟨rfl, W2.out, R1.out⟩

set_option maxHeartbeats 400000 in
theorem heldBytesResult_c (C : Int) (v : Value) (xs : List UInt8) (fs : List Addr) (w : World) (k : Nat) (h1 : rBytes w fs v xs) (hk0 : k ≤ 1000000000000) (hsm : xs.length ≤ 1000000000000) (hx : xs = mkBytes k xs.length) :
    Calls Try.prog 23 #[.agg #[.int .i64 C, v], .int .i64 k] w fun e w' => e = .returned (.int .i64 ((k : Int) + (xs.length : Int))) ∧ Below w.heap.size w w' := by
  have H1 := Lib.hid h1
  have HX := Lib.hid hx
  obtain ⟨A1, c1, rfl, -⟩ := h1.form
  clear h1 hx
  go_enter Try.func23, Try.ntmps23
  go_wp2_with fail
  have B1 : Below w.heap.size w (w.alloc (.cells #[.int .i64 C, .slice A1 xs.length c1] 37)) := (Below.refl _ _).alloc (Nat.le_refl _) _
  refine (heldByteS_c _ xs fs _ k (H1.out.below B1) hk0 hsm).mono ?_
  rintro e w1 ⟨rfl, hb1⟩
  have B2 := Lib.hid (B1.trans (hb1.mono B1.size))
  clear hb1 B1
  rw [heldB_yes HX.out]
  have hnn : ¬ (k : Int) + (xs.length : Int) < 0 := by omega
  go_wp2_with fail
  go_ret
  exact ⟨rfl, B2.out⟩

theorem Blk.wrote {w w' : World} {fs : List Addr} {g : Nat} {t : TypeId} {cs : Array Value} (h : Blk w g t cs) (hw : Wrote fs w w') (hf : ∀ a, a ∈ fs → a.block ≠ g) : Blk w' g t cs := (hw.block g h.lt hf).trans h

theorem boh_small (t : List UInt8) : (bohBytes t).length ≤ 40 := by
  unfold bohBytes
  split
  · simp
  · split
    · rw [rawDec_length]; omega
    · simp

set_option maxHeartbeats 1000000 in
theorem lawBytesOfHex_c (s : ByteArray) (w : World) :
    Calls Try.prog 5 #[.string s] w fun e w' => e = .returned (.bool true) ∧ Below w.heap.size w w' := by
  by_cases hbig : 1048576 < s.size
  · go_enter Try.func5, Try.ntmps5
    go_wp2_with fail
    go_ret
    exact ⟨rfl, Below.refl _ _⟩
  have hS := Lib.hid (specBytesOfHex_c s)
  have hI := Lib.hid (implBytesOfHex_c s)
  have hsm := boh_small s.data.toList
  generalize bohCode s.data.toList = C at *
  generalize bohBytes s.data.toList = xs at *
  go_enter Try.func5, Try.ntmps5
  go_wp2_with fail
  refine (hS.out w).mono ?_
  rintro e w1 ⟨v1, f1, rfl, hr1, hm1, hb1⟩
  obtain ⟨A1, c1, rfl, -⟩ := hr1.form
  have B1 := Lib.hid hb1; have R1 := Lib.hid hr1
  have F1 := Lib.hid (rSl.there rByte.fixed hr1)
  clear hb1 hr1 hm1
  go_wp2_with fail
  refine (hI.out (w1.alloc (.cells #[.int .i64 C, .slice A1 xs.length c1] 37))).mono ?_
  rintro e w2 ⟨v2, f2, rfl, hr2, hm2, hb2⟩
  obtain ⟨A2, c2, rfl, -⟩ := hr2.form
  have K1 := Lib.hid (Blk.below (Blk.new w1 37 #[.int .i64 C, .slice A1 xs.length c1]) hb2 (by simp))
  have s1 : w1.heap.size < w2.heap.size := by have := hb2.size; simp at this; omega
  have R1 := Lib.hid ((R1.out.below ((Below.refl _ _).alloc (Nat.le_refl _) _)).below hb2)
  have B2 := Lib.hid ((B1.out.alloc B1.out.size (.cells #[.int .i64 C, .slice A1 xs.length c1] 37)).trans (hb2.mono (by have := B1.out.size; simp; omega)))
  have R2 := Lib.hid hr2
  have M2 := Lib.hid (hm2.mono (show w1.heap.size + 1 ≤ _ by simp))
  have F2 := Lib.hid (rSl.there rByte.fixed hr2)
  clear hb2 hr2 hm2
  have k1 := fun k => K1.out.cell k
  have z1 := K1.out.lt
  go_wp2_with fail
  have B2a : Below w2.heap.size w2 (w2.alloc (.cells #[.int .i64 C, .slice A2 xs.length c2] 37)) := (Below.refl _ _).alloc (Nat.le_refl _) _
  refine (eqBytesResult_c C _ _ xs f2 f1 _ (R2.out.below B2a) (R1.out.below B2a)).mono ?_
  rintro e w3 ⟨rfl, hb3⟩
  have B3a := B2a.trans (hb3.mono B2a.size)
  have s3 : w2.heap.size < w3.heap.size := by have := hb3.size; simp at this; omega
  have K2 := Lib.hid (Blk.below (Blk.new w2 37 #[.int .i64 C, .slice A2 xs.length c2]) hb3 (by simp))
  have K1 := Lib.hid (Blk.below K1.out B3a s1)
  have R2 := Lib.hid (R2.out.below B3a)
  have R1 := Lib.hid (R1.out.below B3a)
  have M2 := Lib.hid (M2.out.wrote (Wrote.of_below (fs := []) B3a) F2.out)
  have B3 := Lib.hid (B2.out.trans (B3a.mono B2.out.size))
  clear hb3 B2a B3a k1
  have k2 := fun k => K2.out.cell k
  have z2 := K2.out.lt
  go_wp2_with fail
  refine (markBytesResult_c C _ xs f2 _ 1 _ R2.out M2.out (by omega) (by omega)).mono ?_
  rintro e w4 ⟨rfl, hw4, hr4⟩
  have hd : ∀ a, a ∈ f1 → a ∉ f2 := fun a ha hb => by have := F1.out a ha; have := M2.out.from_ a hb; omega
  have R1 := Lib.hid (rSl.keep rByte.local_ R1.out (hw4.same (rSl.there rByte.fixed R1.out) hd))
  have R2 := Lib.hid hr4
  have K1 := Lib.hid (Blk.wrote K1.out hw4 (fun a ha => by have := M2.out.from_ a ha; omega))
  have K2 := Lib.hid (Blk.wrote K2.out hw4 (fun a ha => by have := F2.out a ha; omega))
  have B4 := Lib.hid (B3.out.trans (hw4.below B3.out.size (fun a ha => by have := M2.out.from_ a ha; have := B1.out.size; omega)))
  clear hw4 hr4 k2 hd z2 z1 M2 F2 B3
  have k2 := fun k => K2.out.cell k
  have z2 := K2.out.lt
  have hml : (mkBytes 1 xs.length).length = xs.length := length_mkBytes _ _
  have HML := Lib.hid hml; clear hml
  go_wp2_with fail
  refine (heldBytesResult_c C _ (mkBytes 1 xs.length) f2 w4 1 R2.out (by omega) (by rw [HML.out]; omega) (by rw [HML.out])).mono ?_
  rintro e w5 ⟨rfl, hb5⟩
  rw [HML.out]
  have K1 := Lib.hid (Blk.below K1.out hb5 K1.out.lt)
  have K2 := Lib.hid (Blk.below K2.out hb5 K2.out.lt)
  have R1 := Lib.hid (rBytes.below R1.out hb5)
  have R2 := Lib.hid (R2.out.below hb5)
  have B5 := Lib.hid (B4.out.trans (hb5.mono B4.out.size))
  clear hb5 k2 B4 z2
  have hnn : ¬ (1 : Int) + (xs.length : Int) < 0 := by omega
  go_wp2_with fail
  refine (hI.out w5).mono ?_
  rintro e w6 ⟨v3, f3, rfl, hr6, hm6, hb6⟩
  obtain ⟨A3, c3, rfl, -⟩ := hr6.form
  have K1 := Lib.hid (Blk.below K1.out hb6 K1.out.lt)
  have K2 := Lib.hid (Blk.below K2.out hb6 K2.out.lt)
  have R1 := Lib.hid (rBytes.below R1.out hb6)
  have R2 := Lib.hid (R2.out.below hb6)
  have B6 := Lib.hid (B5.out.trans (hb6.mono B5.out.size))
  have R3 := Lib.hid hr6
  clear hb6 hr6 hm6 B5
  have k1 := fun k => K1.out.cell k
  have z1 := K1.out.lt
  go_wp2_with fail
  have B6a : Below w6.heap.size w6 (w6.alloc (.cells #[.int .i64 C, .slice A3 xs.length c3] 37)) := (Below.refl _ _).alloc (Nat.le_refl _) _
  refine (eqBytesResult_c C _ _ xs f3 f1 _ (R3.out.below B6a) (rBytes.below R1.out B6a)).mono ?_
  rintro e w7 ⟨rfl, hb7⟩
  have B7a := B6a.trans (hb7.mono B6a.size)
  have K2 := Lib.hid (Blk.below K2.out B7a K2.out.lt)
  have R2 := Lib.hid (R2.out.below B7a)
  have B7 := Lib.hid (B6.out.trans (B7a.mono B6.out.size))
  clear hb7 B6a B7a k1 z1 B6
  have k2 := fun k => K2.out.cell k
  have z2 := K2.out.lt
  go_wp2_with fail
  refine (heldBytesResult_c C _ (mkBytes 1 xs.length) f2 w7 1 R2.out (by omega) (by rw [HML.out]; omega) (by rw [HML.out])).mono ?_
  rintro e w8 ⟨rfl, hb8⟩
  rw [HML.out]
  have B8 := Lib.hid (B7.out.trans (hb8.mono B7.out.size))
  clear hb8
  go_wp2_with fail
  go_ret
  exact ⟨rfl, B8.out⟩

end Go.Proofs.Ytimabbleijkmhaa
