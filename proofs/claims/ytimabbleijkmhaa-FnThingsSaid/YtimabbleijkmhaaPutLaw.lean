/-
  FnExactPutThing: for every list of things, every name and every bytes the law answers true.
-/
import Derived.Test.YtimabbleijkmhaaPutS
import Derived.Test.YtimabbleijkmhaaThMark
namespace Go.Proofs.Ytimabbleijkmhaa
open Go.RowKit

theorem thSum_append : ∀ (a b : List Th), thSum (a ++ b) = thSum a + thSum b
  | [], b => by simp [thSum]
  | x :: r, b => by simp only [List.cons_append, thSum, thSum_append r b]; omega
theorem putL_small (nm : ByteArray) (bs : List UInt8) (ds : List Th) : (putL nm bs ds).length ≤ ds.length + 1 ∧ thSum (putL nm bs ds) ≤ thSum ds + nm.size + bs.length := by
  have h1 := dropF_length nm ds
  have h2 := dropF_sum nm ds
  have h3 : thSum ((dropF nm ds).take (putAt nm (dropF nm ds)) ++ (dropF nm ds).drop (putAt nm (dropF nm ds))) = thSum (dropF nm ds) := by rw [List.take_append_drop]
  rw [thSum_append] at h3
  unfold putL
  rw [thSum_append]
  simp only [thSum, List.length_append, List.length_cons, List.length_take, List.length_drop]
  have := putAt_le nm (dropF nm ds)
  omega

theorem toByteS_c' (v : Value) (xs : List UInt8) (fs : List Addr) (w : World) (h1 : rBytes w fs v xs) (hsm : xs.length ≤ 1048576) :
    Calls Try.prog 12 #[v] w fun e w' => ∃ v1 f1, e = .returned v1 ∧ rBytes w' f1 v1 xs ∧ Mine w.heap.size w' f1 ∧ Below w.heap.size w w' := by
  refine (toByteS_c v xs fs w h1 hsm).mono ?_
  rintro e w' ⟨rfl, hb, hk, hs⟩
  refine ⟨_, _, rfl, rBytes.of_blk hk (by omega), ⟨nodup_addrs rfl, fun a ha => ?_, fun a ha => ?_⟩, hb⟩
  · obtain ⟨q, _, rfl⟩ := mem_addrs.1 ha
    rw [blockAdd]
    exact Nat.le_refl _
  · obtain ⟨q, _, rfl⟩ := mem_addrs.1 ha
    rw [addNew]; exact hk.frozen q
theorem markByteS_c' (v : Value) (xs : List UInt8) (fs : List Addr) (w : World) (k : Nat) (lo : Nat) (h1 : rBytes w fs v xs) (hm : Mine lo w fs) (hk0 : k ≤ 1000000000000) (hsm : xs.length ≤ 1048576) :
    Calls Try.prog 40 #[v, .int .i64 (k : Int)] w fun e w' => e = .returned (.int .i64 ((k + xs.length : Nat) : Int)) ∧ Wrote fs w w' ∧ rBytes w' fs v (mkBytes k xs.length) := by
  refine (markByteS_c v xs fs w k lo h1 hm hk0 (by omega)).mono ?_
  rintro e w' ⟨rfl, h2, h3⟩
  exact ⟨by rw [Int.natCast_add], h2, h3⟩

set_option maxHeartbeats 4000000 in
theorem lawPutThing_c (v1 : Value) (ds : List Th) (nm : ByteArray) (v2 : Value) (bs : List UInt8) (fA fB : List Addr) (w : World) (h1 : rThs w fA v1 ds) (h2 : rBytes w fB v2 bs) :
    Calls Try.prog 10 #[v1, .string nm, v2] w fun e w' => e = .returned (.bool true) ∧ Below w.heap.size w w' := by
  have RA := Lib.hid h1; have RB := Lib.hid h2
  have TAA := Lib.hid (rSl.there rTh.fixed h1); have TAB := Lib.hid (rSl.there rByte.fixed h2)
  obtain ⟨A1, c1, rfl, -⟩ := rThs.open_ h1
  obtain ⟨A2, c2, rfl, -⟩ := h2.form
  clear h1 h2
  by_cases hbig : 1048576 < nm.size
  · go_enter Try.func10, Try.ntmps10
    go_wp2_with fail
    go_ret
    exact ⟨rfl, Below.refl _ _⟩
  by_cases hbig2 : 1048576 < bs.length
  · go_enter Try.func10, Try.ntmps10
    go_wp2_with fail
    go_ret
    exact ⟨rfl, Below.refl _ _⟩
  go_enter Try.func10, Try.ntmps10
  go_wp2_with fail
  refine (szThingS_c _ ds fA w 1048576 RA.out (by omega) (by omega)).mono ?_
  rintro e w1 ⟨rfl, hb1⟩
  have BB := Lib.hid hb1
  have RA := Lib.hid (rThs.below RA.out hb1)
  have RB := Lib.hid (rBytes.below RB.out hb1)
  have TAA := Lib.hid (fun a (ha : a ∈ fA) => Nat.lt_of_lt_of_le (TAA.out a ha) hb1.size)
  have TAB := Lib.hid (fun a (ha : a ∈ fB) => Nat.lt_of_lt_of_le (TAB.out a ha) hb1.size)
  have TB := Lib.hid hb1.size
  clear hb1
  by_cases hx : (1048576 : Int) < ((ds.length + thSum ds : Nat) : Int)
  · rw [szTh_t hx]
    clear hx
    go_wp2_with fail
    go_ret
    exact ⟨rfl, BB.out⟩
  rw [szTh_f hx]
  have hx1 : ¬ (1048576 : Int) - ((ds.length + thSum ds : Nat) : Int) < 0 := by omega
  have HSX := Lib.hid (show ds.length + thSum ds ≤ 1048576 by omega)
  have HS5 := Lib.hid (show ds.length + thSum ds ≤ 5000000 by omega)
  have HBX := Lib.hid (show bs.length ≤ 1048576 by omega)
  obtain ⟨L, hL⟩ : ∃ L : Int, (1048576 : Int) - ((ds.length + thSum ds : Nat) : Int) = L := ⟨_, rfl⟩
  rw [hL] at hx1 ⊢
  clear hx hL
  have hbl : bs.length ≤ 1048576 := by omega
  have hps := putL_small nm bs ds
  have hdn : (putL nm bs ds).length + thSum (putL nm bs ds) ≤ 5000000 := by have := HSX.out; omega
  have hS := Lib.hid (fun v fs v2 f2 w h h2 => specPutThing_c v ds nm v2 bs fs f2 w h h2 HSX.out hbl (by omega))
  have hI := Lib.hid (fun v fs v2 f2 w h h2 => implPutThing_c v ds nm v2 bs fs f2 w h h2 HSX.out hbl (by omega))
  unfold putPost at hS hI
  have hmn : markN ds ≤ 4000000 := by have := markN_le ds; have := HSX.out; omega
  have hmn2 : markN (putL nm bs ds) ≤ 10000000 := by have := markN_le (putL nm bs ds); omega
  have HDX := Lib.hid hdn; clear hdn hps
  generalize putL nm bs ds = D at *
  go_wp2_with fail
  refine (toThingS_c' _ ds fA w1 RA.out HSX.out).mono ?_
  rintro e u1 ⟨va1, fa1, rfl, hr, hm, hb⟩
  have Q1 := Lib.hid hb.size
  have RA := Lib.hid (rThs.below RA.out hb)
  have RB := Lib.hid (rBytes.below RB.out hb)
  have BB := Lib.hid (BB.out.trans (hb.mono BB.out.size))
  have Ra1 := Lib.hid hr; have Ma1 := Lib.hid hm; have Ta1 := Lib.hid ((rSl.there rTh.fixed) hr)
  clear hr hm hb
  go_wp2_with fail
  refine (toByteS_c' _ bs fB u1 RB.out HBX.out).mono ?_
  rintro e u2 ⟨vb1, fb1, rfl, hr, hm, hb⟩
  have Q2 := Lib.hid hb.size
  have Ma1 := Lib.hid (Ma1.out.wrote (Wrote.of_below (fs := []) hb) ((rSl.there rTh.fixed) Ra1.out))
  have RA := Lib.hid (rThs.below RA.out hb)
  have RB := Lib.hid (rBytes.below RB.out hb)
  have Ra1 := Lib.hid (rThs.below Ra1.out hb)
  have BB := Lib.hid (BB.out.trans (hb.mono BB.out.size))
  have Rb1 := Lib.hid hr; have Mb1 := Lib.hid hm; have Tb1 := Lib.hid ((rSl.there rByte.fixed) hr)
  clear hr hm hb
  go_wp2_with fail
  refine (hS.out _ _ _ _ u2 Ra1.out Rb1.out).mono ?_
  rintro e u3 ⟨vw, fw, rfl, hr, hm, hb⟩
  have Q3 := Lib.hid hb.size
  have Ma1 := Lib.hid (Ma1.out.wrote (Wrote.of_below (fs := []) hb) ((rSl.there rTh.fixed) Ra1.out))
  have Mb1 := Lib.hid (Mb1.out.wrote (Wrote.of_below (fs := []) hb) ((rSl.there rByte.fixed) Rb1.out))
  have RA := Lib.hid (rThs.below RA.out hb)
  have RB := Lib.hid (rBytes.below RB.out hb)
  have Ra1 := Lib.hid (rThs.below Ra1.out hb)
  have Rb1 := Lib.hid (rBytes.below Rb1.out hb)
  have BB := Lib.hid (BB.out.trans (hb.mono BB.out.size))
  have Rw := Lib.hid hr; have Mw := Lib.hid hm; have Tw := Lib.hid ((rSl.there rTh.fixed) hr)
  clear hr hm hb
  clear Ra1 Ma1 Ta1
  clear Rb1 Mb1 Tb1
  go_wp2_with fail
  refine (toThingS_c' _ ds fA u3 RA.out HSX.out).mono ?_
  rintro e u4 ⟨vx, fx, rfl, hr, hm, hb⟩
  have Q4 := Lib.hid hb.size
  have Mw := Lib.hid (Mw.out.wrote (Wrote.of_below (fs := []) hb) ((rSl.there rTh.fixed) Rw.out))
  have RA := Lib.hid (rThs.below RA.out hb)
  have RB := Lib.hid (rBytes.below RB.out hb)
  have Rw := Lib.hid (rThs.below Rw.out hb)
  have BB := Lib.hid (BB.out.trans (hb.mono BB.out.size))
  have Rx := Lib.hid hr; have Mx := Lib.hid hm; have Tx := Lib.hid ((rSl.there rTh.fixed) hr)
  clear hr hm hb
  go_wp2_with fail
  refine (toByteS_c' _ bs fB u4 RB.out HBX.out).mono ?_
  rintro e u5 ⟨vy, fy, rfl, hr, hm, hb⟩
  have Q5 := Lib.hid hb.size
  have Mw := Lib.hid (Mw.out.wrote (Wrote.of_below (fs := []) hb) ((rSl.there rTh.fixed) Rw.out))
  have Mx := Lib.hid (Mx.out.wrote (Wrote.of_below (fs := []) hb) ((rSl.there rTh.fixed) Rx.out))
  have RA := Lib.hid (rThs.below RA.out hb)
  have RB := Lib.hid (rBytes.below RB.out hb)
  have Rw := Lib.hid (rThs.below Rw.out hb)
  have Rx := Lib.hid (rThs.below Rx.out hb)
  have BB := Lib.hid (BB.out.trans (hb.mono BB.out.size))
  have Ry := Lib.hid hr; have My := Lib.hid hm; have Ty := Lib.hid ((rSl.there rByte.fixed) hr)
  clear hr hm hb
  go_wp2_with fail
  refine (hI.out _ _ _ _ u5 Rx.out Ry.out).mono ?_
  rintro e u6 ⟨vg, fg, rfl, hr, hm, hb⟩
  have Q6 := Lib.hid hb.size
  have Mw := Lib.hid (Mw.out.wrote (Wrote.of_below (fs := []) hb) ((rSl.there rTh.fixed) Rw.out))
  have Mx := Lib.hid (Mx.out.wrote (Wrote.of_below (fs := []) hb) ((rSl.there rTh.fixed) Rx.out))
  have My := Lib.hid (My.out.wrote (Wrote.of_below (fs := []) hb) ((rSl.there rByte.fixed) Ry.out))
  have RA := Lib.hid (rThs.below RA.out hb)
  have RB := Lib.hid (rBytes.below RB.out hb)
  have Rw := Lib.hid (rThs.below Rw.out hb)
  have Rx := Lib.hid (rThs.below Rx.out hb)
  have Ry := Lib.hid (rBytes.below Ry.out hb)
  have BB := Lib.hid (BB.out.trans (hb.mono BB.out.size))
  have Rg := Lib.hid hr; have Mg := Lib.hid hm; have Tg := Lib.hid ((rSl.there rTh.fixed) hr)
  clear hr hm hb
  go_wp2_with fail
  refine (eqThingS_c _ _ _ _ _ _ u6 Rg.out Rw.out).mono ?_
  rintro e u7 ⟨rfl, hb⟩
  rw [decide_eq_true rfl]
  have Q7 := Lib.hid hb.size
  have Mw := Lib.hid (Mw.out.wrote (Wrote.of_below (fs := []) hb) ((rSl.there rTh.fixed) Rw.out))
  have Mx := Lib.hid (Mx.out.wrote (Wrote.of_below (fs := []) hb) ((rSl.there rTh.fixed) Rx.out))
  have My := Lib.hid (My.out.wrote (Wrote.of_below (fs := []) hb) ((rSl.there rByte.fixed) Ry.out))
  have Mg := Lib.hid (Mg.out.wrote (Wrote.of_below (fs := []) hb) ((rSl.there rTh.fixed) Rg.out))
  have RA := Lib.hid (rThs.below RA.out hb)
  have RB := Lib.hid (rBytes.below RB.out hb)
  have Rw := Lib.hid (rThs.below Rw.out hb)
  have Rx := Lib.hid (rThs.below Rx.out hb)
  have Ry := Lib.hid (rBytes.below Ry.out hb)
  have Rg := Lib.hid (rThs.below Rg.out hb)
  have BB := Lib.hid (BB.out.trans (hb.mono BB.out.size))
  clear hb
  go_wp2_with fail
  refine (toThingS_c' _ ds fA u7 RA.out HSX.out).mono ?_
  rintro e u8 ⟨va2, fa2, rfl, hr, hm, hb⟩
  have Q8 := Lib.hid hb.size
  have Mw := Lib.hid (Mw.out.wrote (Wrote.of_below (fs := []) hb) ((rSl.there rTh.fixed) Rw.out))
  have Mx := Lib.hid (Mx.out.wrote (Wrote.of_below (fs := []) hb) ((rSl.there rTh.fixed) Rx.out))
  have My := Lib.hid (My.out.wrote (Wrote.of_below (fs := []) hb) ((rSl.there rByte.fixed) Ry.out))
  have Mg := Lib.hid (Mg.out.wrote (Wrote.of_below (fs := []) hb) ((rSl.there rTh.fixed) Rg.out))
  have RA := Lib.hid (rThs.below RA.out hb)
  have RB := Lib.hid (rBytes.below RB.out hb)
  have Rw := Lib.hid (rThs.below Rw.out hb)
  have Rx := Lib.hid (rThs.below Rx.out hb)
  have Ry := Lib.hid (rBytes.below Ry.out hb)
  have Rg := Lib.hid (rThs.below Rg.out hb)
  have BB := Lib.hid (BB.out.trans (hb.mono BB.out.size))
  have Ra2 := Lib.hid hr; have Ma2 := Lib.hid hm; have Ta2 := Lib.hid ((rSl.there rTh.fixed) hr)
  clear hr hm hb
  go_wp2_with fail
  refine (eqThingS_c _ _ _ _ _ _ u8 Rx.out Ra2.out).mono ?_
  rintro e u9 ⟨rfl, hb⟩
  rw [decide_eq_true rfl]
  have Q9 := Lib.hid hb.size
  have Mw := Lib.hid (Mw.out.wrote (Wrote.of_below (fs := []) hb) ((rSl.there rTh.fixed) Rw.out))
  have Mx := Lib.hid (Mx.out.wrote (Wrote.of_below (fs := []) hb) ((rSl.there rTh.fixed) Rx.out))
  have My := Lib.hid (My.out.wrote (Wrote.of_below (fs := []) hb) ((rSl.there rByte.fixed) Ry.out))
  have Mg := Lib.hid (Mg.out.wrote (Wrote.of_below (fs := []) hb) ((rSl.there rTh.fixed) Rg.out))
  have Ma2 := Lib.hid (Ma2.out.wrote (Wrote.of_below (fs := []) hb) ((rSl.there rTh.fixed) Ra2.out))
  have RA := Lib.hid (rThs.below RA.out hb)
  have RB := Lib.hid (rBytes.below RB.out hb)
  have Rw := Lib.hid (rThs.below Rw.out hb)
  have Rx := Lib.hid (rThs.below Rx.out hb)
  have Ry := Lib.hid (rBytes.below Ry.out hb)
  have Rg := Lib.hid (rThs.below Rg.out hb)
  have Ra2 := Lib.hid (rThs.below Ra2.out hb)
  have BB := Lib.hid (BB.out.trans (hb.mono BB.out.size))
  clear hb
  clear Ra2 Ma2 Ta2
  go_wp2_with fail
  refine (toByteS_c' _ bs fB u9 RB.out HBX.out).mono ?_
  rintro e u10 ⟨vb2, fb2, rfl, hr, hm, hb⟩
  have Q10 := Lib.hid hb.size
  have Mw := Lib.hid (Mw.out.wrote (Wrote.of_below (fs := []) hb) ((rSl.there rTh.fixed) Rw.out))
  have Mx := Lib.hid (Mx.out.wrote (Wrote.of_below (fs := []) hb) ((rSl.there rTh.fixed) Rx.out))
  have My := Lib.hid (My.out.wrote (Wrote.of_below (fs := []) hb) ((rSl.there rByte.fixed) Ry.out))
  have Mg := Lib.hid (Mg.out.wrote (Wrote.of_below (fs := []) hb) ((rSl.there rTh.fixed) Rg.out))
  have RA := Lib.hid (rThs.below RA.out hb)
  have RB := Lib.hid (rBytes.below RB.out hb)
  have Rw := Lib.hid (rThs.below Rw.out hb)
  have Rx := Lib.hid (rThs.below Rx.out hb)
  have Ry := Lib.hid (rBytes.below Ry.out hb)
  have Rg := Lib.hid (rThs.below Rg.out hb)
  have BB := Lib.hid (BB.out.trans (hb.mono BB.out.size))
  have Rb2 := Lib.hid hr; have Mb2 := Lib.hid hm; have Tb2 := Lib.hid ((rSl.there rByte.fixed) hr)
  clear hr hm hb
  go_wp2_with fail
  refine (eqByteS_c _ _ _ _ _ _ u10 Ry.out Rb2.out).mono ?_
  rintro e u11 ⟨rfl, hb⟩
  rw [decide_eq_true rfl]
  have Q11 := Lib.hid hb.size
  have Mw := Lib.hid (Mw.out.wrote (Wrote.of_below (fs := []) hb) ((rSl.there rTh.fixed) Rw.out))
  have Mx := Lib.hid (Mx.out.wrote (Wrote.of_below (fs := []) hb) ((rSl.there rTh.fixed) Rx.out))
  have My := Lib.hid (My.out.wrote (Wrote.of_below (fs := []) hb) ((rSl.there rByte.fixed) Ry.out))
  have Mg := Lib.hid (Mg.out.wrote (Wrote.of_below (fs := []) hb) ((rSl.there rTh.fixed) Rg.out))
  have Mb2 := Lib.hid (Mb2.out.wrote (Wrote.of_below (fs := []) hb) ((rSl.there rByte.fixed) Rb2.out))
  have RA := Lib.hid (rThs.below RA.out hb)
  have RB := Lib.hid (rBytes.below RB.out hb)
  have Rw := Lib.hid (rThs.below Rw.out hb)
  have Rx := Lib.hid (rThs.below Rx.out hb)
  have Ry := Lib.hid (rBytes.below Ry.out hb)
  have Rg := Lib.hid (rThs.below Rg.out hb)
  have Rb2 := Lib.hid (rBytes.below Rb2.out hb)
  have BB := Lib.hid (BB.out.trans (hb.mono BB.out.size))
  clear hb
  clear Rb2 Mb2 Tb2
  go_wp2_with fail
  refine (markThingS_c _ ds fx u11 1 _ Rx.out Mx.out (by omega) (by omega) HS5.out).mono ?_
  rintro e u12 ⟨rfl, hw, hrm⟩
  have Q12 := Lib.hid hw.size
  have dj : ∀ a, a ∈ fA → a ∉ fx := fun a ha hb => by have := TAA.out a ha; have := Mx.out.from_ a hb; have := Q1.out; have := Q2.out; have := Q3.out; omega
  have RA := Lib.hid ((rSl.keep rTh.local_) RA.out (hw.same ((rSl.there rTh.fixed) RA.out) dj)); clear dj
  have dj : ∀ a, a ∈ fB → a ∉ fx := fun a ha hb => by have := TAB.out a ha; have := Mx.out.from_ a hb; have := Q1.out; have := Q2.out; have := Q3.out; omega
  have RB := Lib.hid ((rSl.keep rByte.local_) RB.out (hw.same ((rSl.there rByte.fixed) RB.out) dj)); clear dj
  have dj : ∀ a, a ∈ fw → a ∉ fx := fun a ha hb => by have := Tw.out a ha; have := Mx.out.from_ a hb; omega
  have Mw := Lib.hid (Mw.out.wrote hw ((rSl.there rTh.fixed) Rw.out))
  have Rw := Lib.hid ((rSl.keep rTh.local_) Rw.out (hw.same ((rSl.there rTh.fixed) Rw.out) dj)); clear dj
  have dj : ∀ a, a ∈ fy → a ∉ fx := fun a ha hb => by have := My.out.from_ a ha; have := Tx.out a hb; omega
  have My := Lib.hid (My.out.wrote hw ((rSl.there rByte.fixed) Ry.out))
  have Ry := Lib.hid ((rSl.keep rByte.local_) Ry.out (hw.same ((rSl.there rByte.fixed) Ry.out) dj)); clear dj
  have dj : ∀ a, a ∈ fg → a ∉ fx := fun a ha hb => by have := Mg.out.from_ a ha; have := Tx.out a hb; have := Q5.out; omega
  have Mg := Lib.hid (Mg.out.wrote hw ((rSl.there rTh.fixed) Rg.out))
  have Rg := Lib.hid ((rSl.keep rTh.local_) Rg.out (hw.same ((rSl.there rTh.fixed) Rg.out) dj)); clear dj
  have BB := Lib.hid (BB.out.trans (hw.below BB.out.size (fun a ha => by have := Mx.out.from_ a ha; have := TB.out; have := Q1.out; have := Q2.out; have := Q3.out; omega)))
  have Rx := Lib.hid hrm
  clear hw hrm Mx
  clear Rx Tx
  go_wp2_with fail
  refine (markByteS_c' _ bs fy u12 (1 + markN ds) _ Ry.out My.out (by omega) HBX.out).mono ?_
  rintro e u13 ⟨rfl, hw, hrm⟩
  have Q13 := Lib.hid hw.size
  have dj : ∀ a, a ∈ fA → a ∉ fy := fun a ha hb => by have := TAA.out a ha; have := My.out.from_ a hb; have := Q1.out; have := Q2.out; have := Q3.out; have := Q4.out; omega
  have RA := Lib.hid ((rSl.keep rTh.local_) RA.out (hw.same ((rSl.there rTh.fixed) RA.out) dj)); clear dj
  have dj : ∀ a, a ∈ fB → a ∉ fy := fun a ha hb => by have := TAB.out a ha; have := My.out.from_ a hb; have := Q1.out; have := Q2.out; have := Q3.out; have := Q4.out; omega
  have RB := Lib.hid ((rSl.keep rByte.local_) RB.out (hw.same ((rSl.there rByte.fixed) RB.out) dj)); clear dj
  have dj : ∀ a, a ∈ fw → a ∉ fy := fun a ha hb => by have := Tw.out a ha; have := My.out.from_ a hb; have := Q4.out; omega
  have Mw := Lib.hid (Mw.out.wrote hw ((rSl.there rTh.fixed) Rw.out))
  have Rw := Lib.hid ((rSl.keep rTh.local_) Rw.out (hw.same ((rSl.there rTh.fixed) Rw.out) dj)); clear dj
  have dj : ∀ a, a ∈ fg → a ∉ fy := fun a ha hb => by have := Mg.out.from_ a ha; have := Ty.out a hb; omega
  have Mg := Lib.hid (Mg.out.wrote hw ((rSl.there rTh.fixed) Rg.out))
  have Rg := Lib.hid ((rSl.keep rTh.local_) Rg.out (hw.same ((rSl.there rTh.fixed) Rg.out) dj)); clear dj
  have BB := Lib.hid (BB.out.trans (hw.below BB.out.size (fun a ha => by have := My.out.from_ a ha; have := TB.out; have := Q1.out; have := Q2.out; have := Q3.out; have := Q4.out; omega)))
  have Ry := Lib.hid hrm
  clear hw hrm My
  clear Ry Ty
  have hk1 : ¬ ((1 + markN ds + bs.length : Nat) : Int) < 0 := by omega
  go_wp2_with fail
  refine (eqThingS_c _ _ _ _ _ _ u13 Rg.out Rw.out).mono ?_
  rintro e u14 ⟨rfl, hb⟩
  rw [decide_eq_true rfl]
  have Q14 := Lib.hid hb.size
  have Mw := Lib.hid (Mw.out.wrote (Wrote.of_below (fs := []) hb) ((rSl.there rTh.fixed) Rw.out))
  have Mg := Lib.hid (Mg.out.wrote (Wrote.of_below (fs := []) hb) ((rSl.there rTh.fixed) Rg.out))
  have RA := Lib.hid (rThs.below RA.out hb)
  have RB := Lib.hid (rBytes.below RB.out hb)
  have Rw := Lib.hid (rThs.below Rw.out hb)
  have Rg := Lib.hid (rThs.below Rg.out hb)
  have BB := Lib.hid (BB.out.trans (hb.mono BB.out.size))
  clear hb
  go_wp2_with fail
  refine (markThingS_c _ D fg u14 1 _ Rg.out Mg.out (by omega) (by omega) HDX.out).mono ?_
  rintro e u15 ⟨rfl, hw, hrm⟩
  have Q15 := Lib.hid hw.size
  have dj : ∀ a, a ∈ fA → a ∉ fg := fun a ha hb => by have := TAA.out a ha; have := Mg.out.from_ a hb; have := Q1.out; have := Q2.out; have := Q3.out; have := Q4.out; have := Q5.out; omega
  have RA := Lib.hid ((rSl.keep rTh.local_) RA.out (hw.same ((rSl.there rTh.fixed) RA.out) dj)); clear dj
  have dj : ∀ a, a ∈ fB → a ∉ fg := fun a ha hb => by have := TAB.out a ha; have := Mg.out.from_ a hb; have := Q1.out; have := Q2.out; have := Q3.out; have := Q4.out; have := Q5.out; omega
  have RB := Lib.hid ((rSl.keep rByte.local_) RB.out (hw.same ((rSl.there rByte.fixed) RB.out) dj)); clear dj
  have dj : ∀ a, a ∈ fw → a ∉ fg := fun a ha hb => by have := Tw.out a ha; have := Mg.out.from_ a hb; have := Q4.out; have := Q5.out; omega
  have Mw := Lib.hid (Mw.out.wrote hw ((rSl.there rTh.fixed) Rw.out))
  have Rw := Lib.hid ((rSl.keep rTh.local_) Rw.out (hw.same ((rSl.there rTh.fixed) Rw.out) dj)); clear dj
  have BB := Lib.hid (BB.out.trans (hw.below BB.out.size (fun a ha => by have := Mg.out.from_ a ha; have := TB.out; have := Q1.out; have := Q2.out; have := Q3.out; have := Q4.out; have := Q5.out; omega)))
  have Rg := Lib.hid hrm
  clear hw hrm Mg
  have hk2 : ¬ ((1 + markN D : Nat) : Int) < 0 := by omega
  go_wp2_with fail
  refine (heldThingS_c _ D fg u15 1 Rg.out (by omega) (by omega) HDX.out).mono ?_
  rintro e u16 ⟨rfl, hb⟩
  have Q16 := Lib.hid hb.size
  have Mw := Lib.hid (Mw.out.wrote (Wrote.of_below (fs := []) hb) ((rSl.there rTh.fixed) Rw.out))
  have RA := Lib.hid (rThs.below RA.out hb)
  have RB := Lib.hid (rBytes.below RB.out hb)
  have Rw := Lib.hid (rThs.below Rw.out hb)
  have Rg := Lib.hid (rThs.below Rg.out hb)
  have BB := Lib.hid (BB.out.trans (hb.mono BB.out.size))
  clear hb
  go_wp2_with fail
  refine (toThingS_c' _ ds fA u16 RA.out HSX.out).mono ?_
  rintro e u17 ⟨va3, fa3, rfl, hr, hm, hb⟩
  have Q17 := Lib.hid hb.size
  have Mw := Lib.hid (Mw.out.wrote (Wrote.of_below (fs := []) hb) ((rSl.there rTh.fixed) Rw.out))
  have RA := Lib.hid (rThs.below RA.out hb)
  have RB := Lib.hid (rBytes.below RB.out hb)
  have Rw := Lib.hid (rThs.below Rw.out hb)
  have Rg := Lib.hid (rThs.below Rg.out hb)
  have BB := Lib.hid (BB.out.trans (hb.mono BB.out.size))
  have Ra3 := Lib.hid hr; have Ma3 := Lib.hid hm; have Ta3 := Lib.hid ((rSl.there rTh.fixed) hr)
  clear hr hm hb
  go_wp2_with fail
  refine (toByteS_c' _ bs fB u17 RB.out HBX.out).mono ?_
  rintro e u18 ⟨vb3, fb3, rfl, hr, hm, hb⟩
  have Q18 := Lib.hid hb.size
  have Mw := Lib.hid (Mw.out.wrote (Wrote.of_below (fs := []) hb) ((rSl.there rTh.fixed) Rw.out))
  have Ma3 := Lib.hid (Ma3.out.wrote (Wrote.of_below (fs := []) hb) ((rSl.there rTh.fixed) Ra3.out))
  have RA := Lib.hid (rThs.below RA.out hb)
  have RB := Lib.hid (rBytes.below RB.out hb)
  have Rw := Lib.hid (rThs.below Rw.out hb)
  have Rg := Lib.hid (rThs.below Rg.out hb)
  have Ra3 := Lib.hid (rThs.below Ra3.out hb)
  have BB := Lib.hid (BB.out.trans (hb.mono BB.out.size))
  have Rb3 := Lib.hid hr; have Mb3 := Lib.hid hm; have Tb3 := Lib.hid ((rSl.there rByte.fixed) hr)
  clear hr hm hb
  go_wp2_with fail
  refine (hI.out _ _ _ _ u18 Ra3.out Rb3.out).mono ?_
  rintro e u19 ⟨vh, fh, rfl, hr, hm, hb⟩
  have Q19 := Lib.hid hb.size
  have Mw := Lib.hid (Mw.out.wrote (Wrote.of_below (fs := []) hb) ((rSl.there rTh.fixed) Rw.out))
  have Ma3 := Lib.hid (Ma3.out.wrote (Wrote.of_below (fs := []) hb) ((rSl.there rTh.fixed) Ra3.out))
  have Mb3 := Lib.hid (Mb3.out.wrote (Wrote.of_below (fs := []) hb) ((rSl.there rByte.fixed) Rb3.out))
  have RA := Lib.hid (rThs.below RA.out hb)
  have RB := Lib.hid (rBytes.below RB.out hb)
  have Rw := Lib.hid (rThs.below Rw.out hb)
  have Rg := Lib.hid (rThs.below Rg.out hb)
  have Ra3 := Lib.hid (rThs.below Ra3.out hb)
  have Rb3 := Lib.hid (rBytes.below Rb3.out hb)
  have BB := Lib.hid (BB.out.trans (hb.mono BB.out.size))
  have Rh := Lib.hid hr; have Mh := Lib.hid hm; have Th := Lib.hid ((rSl.there rTh.fixed) hr)
  clear hr hm hb
  clear Ra3 Ma3 Ta3
  clear Rb3 Mb3 Tb3
  go_wp2_with fail
  refine (eqThingS_c _ _ _ _ _ _ u19 Rh.out Rw.out).mono ?_
  rintro e u20 ⟨rfl, hb⟩
  rw [decide_eq_true rfl]
  have Q20 := Lib.hid hb.size
  have Mw := Lib.hid (Mw.out.wrote (Wrote.of_below (fs := []) hb) ((rSl.there rTh.fixed) Rw.out))
  have Mh := Lib.hid (Mh.out.wrote (Wrote.of_below (fs := []) hb) ((rSl.there rTh.fixed) Rh.out))
  have RA := Lib.hid (rThs.below RA.out hb)
  have RB := Lib.hid (rBytes.below RB.out hb)
  have Rw := Lib.hid (rThs.below Rw.out hb)
  have Rg := Lib.hid (rThs.below Rg.out hb)
  have Rh := Lib.hid (rThs.below Rh.out hb)
  have BB := Lib.hid (BB.out.trans (hb.mono BB.out.size))
  clear hb
  go_wp2_with fail
  refine (heldThingS_c _ D fg u20 1 Rg.out (by omega) (by omega) HDX.out).mono ?_
  rintro e u21 ⟨rfl, hb⟩
  have Q21 := Lib.hid hb.size
  have Mw := Lib.hid (Mw.out.wrote (Wrote.of_below (fs := []) hb) ((rSl.there rTh.fixed) Rw.out))
  have Mh := Lib.hid (Mh.out.wrote (Wrote.of_below (fs := []) hb) ((rSl.there rTh.fixed) Rh.out))
  have RA := Lib.hid (rThs.below RA.out hb)
  have RB := Lib.hid (rBytes.below RB.out hb)
  have Rw := Lib.hid (rThs.below Rw.out hb)
  have Rg := Lib.hid (rThs.below Rg.out hb)
  have Rh := Lib.hid (rThs.below Rh.out hb)
  have BB := Lib.hid (BB.out.trans (hb.mono BB.out.size))
  clear hb
  go_wp2_with fail
  go_ret
  exact ⟨rfl, BB.out⟩

end Go.Proofs.Ytimabbleijkmhaa
