/-
  FnHexes: for every code the law answers true.
-/
import Derived.Test.YtimabbleijkmhaaCut
import Derived.Test.YtimabbleijkmhaaBohS
namespace Go.Proofs.Ytimabbleijkmhaa
open Go.RowKit Go.Sort

set_option maxHeartbeats 400000 in
theorem lwBytes_c (v1 v2 : Value) (xs ys : List UInt8) (f1 f2 : List Addr) (w : World) (h1 : rBytes w f1 v1 xs) (h2 : rBytes w f2 v2 ys) :
    Calls Try.prog 31 #[v1, v2] w fun e w' => e = .returned (.bool (decide (xs = ys))) ∧ Below w.heap.size w w' := by
  obtain ⟨A1, c1, rfl, hc1, hm1, hx⟩ := rBytes.open_ h1
  obtain ⟨A2, c2, rfl, hc2, hm2, hy⟩ := rBytes.open_ h2
  clear h1 h2
  by_cases hl : xs.length = ys.length
  · have hb := bneNat_f hl
    have HL := Lib.hid hl; clear hl
    go_enter Try.func31, Try.ntmps31
    go_wp2
    go_loopw [4, 5] (fun r i wr => ∃ k : Nat, k ≤ xs.length ∧ i = .int .i64 k ∧ r = .bool false ∧ xs.take k = ys.take k ∧ Below w.heap.size w wr) (fun _ i _ => xs.length - (intOf i).toNat)
    case atStart => exact ⟨0, by omega, rfl, rfl, by simp, Below.refl _ _⟩
    case round =>
      obtain ⟨k, hk, rfl, rfl, ht, hbl⟩ := hrel
      have HT := Lib.hid ht; clear ht
      by_cases hlt : k < xs.length
      · have hlt2 : k < ys.length := by rw [← HL.out]; exact hlt
        obtain ⟨a1, e1, _, b1, g1⟩ := hx k hlt
        obtain ⟨a2, e2, _, b2, g2⟩ := hy k hlt2
        subst e1 e2
        have g1' := (hbl.cell (p := a1.add k) b1).trans g1
        have g2' := (hbl.cell (p := a2.add k) b2).trans g2
        clear g1 g2 hx hy
        by_cases he : xs[k] = ys[k]
        · have hn := bneU8f he
          have HE := Lib.hid he; clear he
          go_wp2
          go_quiet (fail)
          go_wp2
          go_roundw
          case rel => exact ⟨k+1, by omega, by go_num, rfl, takeEq HT.out hlt hlt2 HE.out, belowDrewN hbl _⟩
          case measure => simp [intOf]; omega
        · have hn := bneU8t he
          go_wp2
          go_quiet (fail)
          go_wp2
          go_ret
          exact ⟨retBool (by simp; intro e; subst e; exact he rfl), belowDrewN hbl _⟩
      · have hk' : k = xs.length := by omega
        have H := HT.out
        rw [hk', List.take_length, HL.out, List.take_length] at H
        have H1 := Lib.hid H; clear H hk'
        go_wp2
        go_ret
        exact ⟨retBool (by simp [H1.out]), hbl⟩
  · have hb := bneNat_t hl
    go_enter Try.func31, Try.ntmps31
    go_wp2
    go_ret
    exact ⟨retBool (by simp; intro e; subst e; exact hl rfl), Below.refl _ _⟩

theorem lwBig_c (v : Value) (xs : List UInt8) (fs : List Addr) (w : World) (h1 : rBytes w fs v xs) :
    Calls Try.prog 29 #[v] w fun e w' => e = .returned (.bool (decide (1048576 < xs.length))) ∧ w = w' := by
  obtain ⟨A1, c1, rfl, -⟩ := h1.form
  clear h1
  by_cases h : 1048576 < xs.length
  · go_enter Try.func29, Try.ntmps29
    go_wp2
    go_ret
    exact ⟨retBool (by simp; omega), rfl⟩
  · go_enter Try.func29, Try.ntmps29
    go_wp2
    go_ret
    exact ⟨retBool (by simp; omega), rfl⟩

set_option maxHeartbeats 1000000 in
theorem drawBoh_c (v : Value) (code : List UInt8) (fs : List Addr) (w : World) (h1 : rBytes w fs v code) (hc : code.length ≤ 1048576) :
    Calls Try.prog 32 #[v] w fun e w' => ∃ s2 : ByteArray, e = .returned (.string s2) ∧ s2.size ≤ 3000 ∧ Below w.heap.size w w' := by
  have H1 := Lib.hid h1
  obtain ⟨A1, c1, rfl, -⟩ := h1.form
  clear h1
  go_enter Try.func32, Try.ntmps32
  go_wp2_with fail
  refine (l1Source_c _ code fs w H1.out).mono ?_
  rintro e w1 ⟨rfl, hs, hb1⟩
  have HS := Lib.hid hs; have B1 := Lib.hid hb1
  clear hs hb1
  go_wp2_with fail
  refine (l1Next_c _ code fs 0 9 w1 HS.out (by omega) (by omega) (by omega) hc).mono ?_
  rintro e w2 ⟨r, rfl, r0, r1, hd⟩
  have HD := Lib.hid hd; clear hd
  have hb2 := HD.out.src.lt
  go_wp2_with fail
  refine (l1Pick_c _ code fs 1 w2.heap.size [r, 40, 41] 3 _ HD.out.src.alloc_ (Blk.new _ _ _) (by omega) rfl (by omega) (by omega) (by omega) hc).mono ?_
  rintro e w3 ⟨r3, rfl, hm, hd3⟩
  have HD3 := Lib.hid (HD.out.alloc_.trans hd3)
  have hr3 : 0 ≤ r3 ∧ r3 ≤ 41 := by
    simp at hm
    omega
  obtain ⟨hr30, hr31⟩ := hr3
  clear hm hd3
  go_wp2_with fail
  refine (l1Some_c _ code fs 2 r3 w3 HD3.out.src (by omega) hr30 (by omega) hc).mono ?_
  rintro e w4 ⟨v4, f4, bs, rfl, h4, hl, -, hd4⟩
  have HD4 := Lib.hid (HD3.out.trans hd4); have H4 := Lib.hid h4; have hbl : bs.length ≤ 41 := by omega
  clear hd4 h4 hl
  go_wp2_with fail
  refine (specHexOf_c _ bs f4 w4 H4.out (by omega)).mono ?_
  rintro e w5 ⟨rfl, hb5⟩
  have HD5 := Lib.hid (HD4.out.more hb5)
  have hsz : (hexS bs).size ≤ 82 := by
    have := hexL_length bs
    simp [hexS, ByteArray.size]
    omega
  obtain ⟨T, hT⟩ : ∃ T, hexS bs = T := ⟨_, rfl⟩
  rw [hT] at hsz ⊢
  clear hb5 hT
  obtain ⟨N, hN⟩ : ∃ N, 2 + 3 * r3.toNat = N := ⟨_, rfl⟩
  rw [hN] at HD5
  have hNs : N ≤ 1000 := by omega
  clear HD HD3 HD4 HS H4 hN
  go_wp2_with fail
  refine (l1Chance_c _ code fs N 3 w5 HD5.out.src (by omega) (by omega) (by omega) hc).mono ?_
  rintro e w6 ⟨c, rfl, hd6⟩
  have HD6 := Lib.hid (HD5.out.trans hd6)
  clear hd6
  cases c with
  | false =>
    go_wp2_with fail
    go_ret
    exact ⟨T, rfl, by omega, B1.out.trans (HD6.out.below (Nat.le_refl _) B1.out.size)⟩
  | true =>
    go_wp2_with fail
    refine (l14Cut_c _ code fs (N + 1) T w6 HD6.out.src (by omega) (by omega) hc).mono ?_
    rintro e w7 ⟨s2, rfl, hs2, hd7⟩
    have HD7 := Lib.hid (HD6.out.trans hd7)
    clear hd7
    go_wp2_with fail
    go_ret
    exact ⟨s2, rfl, hs2, B1.out.trans (HD7.out.below (Nat.le_refl _) B1.out.size)⟩

/-- What the reference answers: beside a code there is no slice. -/
def brPostZ (code : Int) (bs : List UInt8) (w : World) (e : Ending) (w' : World) : Prop :=
  ∃ bv fs, (code ≠ 0 → bv = .slice none 0 0) ∧ e = .returned (.agg #[.int .i64 code, bv]) ∧ rBytes w' fs bv bs ∧ Mine w.heap.size w' fs ∧ Below w.heap.size w w'

set_option maxHeartbeats 1000000 in
set_option maxRecDepth 100000 in
theorem specBytesOfHexZ_c (s : ByteArray) (w : World) :
    Calls Try.prog 19 #[.string s] w (brPostZ (bohCode s.data.toList) (bohBytes s.data.toList) w) := by
  have hsz : s.data.toList.length = s.size := by simp
  by_cases h80 : 80 < s.size
  · obtain ⟨e1, e2⟩ := boh_long (t := s.data.toList) (by omega)
    rw [e1, e2]
    clear e1 e2 hsz
    go_enter Try.func19, Try.ntmps19
    go_wp2_with fail
    have k1 := Blk.new w 37 #[.int .i64 2, .slice none 0 0]
    refine bodyPost_ret (results_cell_row rfl _ _ w.heap.size 37 #[.int .i64 2, .slice none 0 0] (0, 0) _ rfl k1 Try.underlying37 rfl (by kernel_rfl)) rfl ⟨.slice none 0 0, [], fun _ => rfl, rfl, rBytes.empty (by omega), mine_nil _ _, ?_⟩
    exact (Below.refl _ _).alloc (Nat.le_refl _) _
  have hb9 : decide (80 < (s.size : Int)) = false := by simp; omega
  by_cases hodd : s.size % 2 = 1
  · have hno : okDec s.data.toList = false := by
      cases h : okDec s.data.toList with
      | false => rfl
      | true => have := okDec_even _ h; omega
    obtain ⟨e1, e2⟩ := boh_bad (t := s.data.toList) (by omega) hno
    rw [e1, e2]
    clear e1 e2 hno hsz
    go_enter Try.func19, Try.ntmps19
    go_wp2_with fail
    have k1 := Blk.new w 37 #[.int .i64 5, .slice none 0 0]
    refine bodyPost_ret (results_cell_row rfl _ _ w.heap.size 37 #[.int .i64 5, .slice none 0 0] (0, 0) _ rfl k1 Try.underlying37 rfl (by kernel_rfl)) rfl ⟨.slice none 0 0, [], fun _ => rfl, rfl, rBytes.empty (by omega), mine_nil _ _, ?_⟩
    exact (Below.refl _ _).alloc (Nat.le_refl _) _
  · obtain ⟨i0, hi, hz0, hz1, hz2⟩ := info_parts Try.info5
    have hev : s.size % 2 = 0 := by omega
    have hmo : ((s.size : Int) % 2 == 1) = false := by rw [show (s.size : Int) % 2 = ((s.size % 2 : Nat) : Int) from by omega, hev]; rfl
    go_enter Try.func19, Try.ntmps19
    go_wp2_with fail
    clear hodd
    have HEV := Lib.hid hev; clear hev
    have HSZ := Lib.hid hsz; clear hsz
    go_loopw [4] (fun i wr => ∃ (j : Nat) (v : Value), j ≤ s.size ∧ j % 2 = 0 ∧ i = .int .i64 j ∧ okDec (s.data.toList.take j) = true ∧ wr.ownsRow (w.heap.size + 2) 5 1 v (rawDec (s.data.toList.take j)).length ((rawDec (s.data.toList.take j)).map byteV) ∧
      Blk wr w.heap.size 37 #[.int .i64 0, .slice none 0 0] ∧ Blk wr (w.heap.size + 1) 37 #[.int .i64 0, v] ∧ Below w.heap.size w wr ∧ w.heap.size + 2 ≤ wr.heap.size) (fun i _ => s.size - (intOf i).toNat)
    case atStart =>
      exact ⟨0, .slice none 0 0, by omega, rfl, rfl, rfl, by simpa [rawDec] using World.ownsRow_nil (base := w.heap.size + 2) (e := 5) (size := 1) _, (Blk.new _ _ _).alloc _, Blk.new1 _ _ _ _, ((Below.refl _ _).alloc (Nat.le_refl _) _).alloc (by simp) _, by simp⟩
    case round =>
      obtain ⟨j, v, hj, hjev, rfl, hok, hown, hbk, hbk2, hbl, hsz1⟩ := hrel
      by_cases hlt : j + 1 < s.size
      · have hl1 : (j : Int) < (s.size : Int) := by omega
        have hl2 : (j : Int) + 1 < (s.size : Int) := by omega
        have hl0 : 0 ≤ (j : Int) := by omega
        have hl3 : 0 ≤ (j : Int) + 1 := by omega
        have HE := Lib.hid hjev; have HO := Lib.hid hown; have HK := Lib.hid hbk; have HK2 := Lib.hid hbk2; have HB := Lib.hid hbl; have HOK := Lib.hid hok
        clear hown hbk hbk2 hbl hjev hok
        have d1 := digN_hi s[j]
        have d2 := digN_lo s[j]
        have d3 := digN_hi s[j + 1]
        have d4 := digN_lo s[j + 1]
        go_wp2_with fail
        refine (l14Digit_c _ wr).mono ?_
        rintro e w' ⟨rfl, rfl⟩
        go_wp2_with fail
        refine (l14Digit_c _ wr).mono ?_
        rintro e w' ⟨rfl, rfl⟩
        by_cases hg : 0 ≤ digN s[j] ∧ 0 ≤ digN s[j + 1]
        · have hpb := pairB_max s[j] s[j+1]
          rw [show max (digN s[j]) 0 = digN s[j] from by omega, show max (digN s[j + 1]) 0 = digN s[j + 1] from by omega] at hpb
          have hpl := UInt8.toNat_lt (pairB s[j] s[j+1])
          have hln := rawDec_length (s.data.toList.take j)
          rw [List.length_take] at hln
          obtain ⟨hg1, hg2⟩ := hg
          have hown := HO.out
          have HLN := Lib.hid hln; clear hln
          have k0 := Blk.cell HK2.out 0
          have k1 := Blk.cell HK2.out 1
          have f0 := Blk.frozen HK2.out 0
          have f1 := Blk.frozen HK2.out 1
          simp at k0 k1
          go_wp2_with (at_builtin; refine wpAppendOne rfl (.tmp 40) (.tmp 46) 22 rfl (w.heap.size + 2) 5 (.int .u8 0) 1 1 Try.underlying22 Try.info5 rfl (by decide) _ _ _ rfl (hown.alloc _) wr.heap.size [.int .u8 ((pairB s[j] s[j+1]).toNat : Int)] rfl rfl (Blk.new wr _ _) ?c1 ?c2 (by decide) ?c3 ?_)
          case c1 => intro u hu; simp at hu; subst hu; rfl
          case c2 => rw [HLN.out]; omega
          case c3 => simp; omega
          rintro v' w1 hown1 hg1
          obtain ⟨g1, cc1, rfl, hgb1, hgl1⟩ := hown1.form (by omega)
          have HO1 := Lib.hid hown1; clear hown1
          have hkk := Lib.hid ((HK.out.alloc (.cells #[.int .u8 ((pairB s[j] s[j+1]).toNat : Int)] 5)).grown hg1 (fun e => by have := (hown.lt _ e.symm).1; omega))
          have hkk2 := Lib.hid ((HK2.out.alloc (.cells #[.int .u8 ((pairB s[j] s[j+1]).toNat : Int)] 5)).grown hg1 (fun e => by have := (hown.lt _ e.symm).1; omega))
          have HB1 := Lib.hid (((HB.out).alloc (by omega) (.cells #[.int .u8 ((pairB s[j] s[j+1]).toNat : Int)] 5)).grown hg1 (by simp; omega) (fun k hk => by have := (hown.lt k hk).1; omega))
          have hs2 : w.heap.size + 2 ≤ w1.heap.size := by have := hg1.size; simp at this; omega
          clear hg1 hown hpb k0 k1 f0 f1
          have k0 := Blk.cell hkk2.out 0
          have k1 := Blk.cell hkk2.out 1
          have f0 := Blk.frozen hkk2.out 0
          have f1 := Blk.frozen hkk2.out 1
          simp at k0 k1
          go_wp2
          go_roundw
          case rel =>
            have e1 : s.data.toList.take (j + 2) = s.data.toList.take j ++ [s[j], s[j + 1]] := by
              rw [strGet, strGet]
              exact take_two' (by rw [HSZ.out]; exact hlt)
            have e2 : rawDec (s.data.toList.take (j + 2)) = rawDec (s.data.toList.take j) ++ [pairB s[j] s[j + 1]] := by
              rw [e1]
              refine rawDec_snoc _ _ _ ?_
              rw [List.length_take, HSZ.out]
              have := HE.out
              omega
            have e3 : okDec (s.data.toList.take (j + 2)) = true := okDec_step _ j HE.out (by rw [HSZ.out]; exact hlt) HOK.out hg1 hg2
            refine ⟨j + 2, .slice (some ⟨g1, 0, none⟩) ((rawDec (s.data.toList.take j)).length + 1) cc1, by omega, by have := HE.out; omega, by simp, e3, ?_, Blk.far hkk.out (by simp) _, Blk.set_ hkk2.out 1 _, HB1.out.setCell (by simp) _, by simpa [World.setCell] using hs2⟩
            rw [e2, List.length_append, List.map_append]
            exact ownsRow_far HO1.out (by simp) _
          case measure => simp [intOf]; omega
        · have hno : okDec s.data.toList = false := by
            cases h : okDec s.data.toList with
            | false => rfl
            | true => exact absurd (okDec_at _ j HE.out (by simpa using hlt) h) hg
          obtain ⟨e1, e2⟩ := boh_bad (t := s.data.toList) (by rw [HSZ.out]; omega) hno
          have E1 := Lib.hid e1; have E2 := Lib.hid e2
          clear e1 e2 hno
          have k0 := Blk.cell HK.out 0
          have k1 := Blk.cell HK.out 1
          have f0 := Blk.frozen HK.out 0
          have f1 := Blk.frozen HK.out 1
          simp at k0 k1
          go_wp2_with fail
          all_goals
            refine bodyPost_ret (results_cell_row rfl _ _ w.heap.size 37 #[.int .i64 5, .slice none 0 0] (0, 0) _ rfl (Blk.set_ (Blk.set_ HK.out 0 _) 1 _) Try.underlying37 rfl (by kernel_rfl)) rfl ?_
            exact ⟨.slice none 0 0, [], fun _ => rfl, by rw [E1.out], by rw [E2.out]; exact rBytes.empty (by omega), mine_nil _ _, (HB.out.setCell (by simp) _).setCell (by simp) _⟩
      · have hje : j = s.size := by have := HEV.out; omega
        subst hje
        have hl2 : ¬ (s.size : Int) < (s.size : Int) := by omega
        have HE := Lib.hid hjev; have HO := Lib.hid hown; have HK := Lib.hid hbk; have HK2 := Lib.hid hbk2; have HB := Lib.hid hbl; have HOK := Lib.hid hok
        have k0 := Blk.cell HK.out 0
        have k1 := Blk.cell HK.out 1
        have f0 := Blk.frozen HK.out 0
        have f1 := Blk.frozen HK.out 1
        have k20 := Blk.cell HK2.out 0
        have k21 := Blk.cell HK2.out 1
        simp at k0 k1 k20 k21
        clear hown hbk hbk2 hbl hjev hok
        have hfull : s.data.toList.take s.size = s.data.toList := by rw [← HSZ.out]; exact List.take_length
        rw [hfull] at HO HOK
        clear hfull
        obtain ⟨fs, hrb, hmine⟩ := own_bytes HO.out
        obtain ⟨a3, c3, rfl, -⟩ := hrb.form
        have HR := Lib.hid hrb; have HM := Lib.hid hmine
        clear hrb hmine
        obtain ⟨e1, e2⟩ := boh_ok (t := s.data.toList) (by rw [HSZ.out]; omega) HOK.out
        have E1 := Lib.hid e1; have E2 := Lib.hid e2
        clear e1 e2
        go_wp2_with fail
        refine bodyPost_ret (results_cell_row rfl _ _ w.heap.size 37 #[.int .i64 0, .slice a3 (rawDec s.data.toList).length c3] (0, 0) _ rfl (Blk.set_ (Blk.set_ HK.out 0 _) 1 _) Try.underlying37 rfl (by kernel_rfl)) rfl ?_
        refine ⟨_, fs, fun h => absurd E1.out h, by rw [E1.out], ?_, ?_, (HB.out.setCell (by simp) _).setCell (by simp) _⟩
        · rw [E2.out]
          exact (rSl.keep rByte.local_ (rSl.keep rByte.local_ HR.out (Same.set_ _ HM.out.from_ (by simp) _)) (Same.set_ _ HM.out.from_ (by simp) _))
        · exact (((HM.out.mono (by omega)).set_ _ _).set_ _ _)

theorem hexL_inj : ∀ a b : List UInt8, hexL a = hexL b → a = b
  | [], [], _ => rfl
  | [], y :: b, h => by simp [hexL] at h
  | x :: a, [], h => by simp [hexL] at h
  | x :: a, y :: b, h => by
    rw [hexL_cons, hexL_cons] at h
    injection h with h1 h2
    injection h2 with h2 h3
    have e : x = y := by
      have key : ∀ m, m < 16 → ∀ n, n < 16 → hexDigit m = hexDigit n → m = n := by decide +kernel
      have a1 := key _ (by have := UInt8.toNat_lt x; omega) _ (by have := UInt8.toNat_lt y; omega) h1
      have a2 := key _ (by omega) _ (by omega) h2
      exact UInt8.toNat_inj.1 (by omega)
    rw [e, hexL_inj a b h3]
theorem okDec_hex (bs : List UInt8) : okDec (hexL bs) = true := by
  induction bs with
  | nil => rfl
  | cons b r ih =>
    rw [hexL_cons]
    have key : ∀ m, m < 16 → 0 ≤ digN (hexDigit m) := by decide +kernel
    simp only [okDec, Bool.and_eq_true, decide_eq_true_eq]
    exact ⟨key _ (by have := UInt8.toNat_lt b; omega), key _ (by omega), ih⟩
theorem rawDec_hex (bs : List UInt8) : rawDec (hexL bs) = bs := hexL_inj _ _ ((hexL_raw (hexL bs)).2 (okDec_hex bs))
theorem hexS_list (bs : List UInt8) : (hexS bs).data.toList = hexL bs := by simp [hexS]

theorem fldBR (C : Int) (A : Option Addr) (n c : Nat) (w : World) : (Instr.field 37 (.agg #[.int .i64 C, .slice A n c]) 0).run Try.prog w = .ok (.int .i64 C) w := by kernel_rfl

set_option maxHeartbeats 2000000 in
set_option maxRecDepth 100000 in
theorem lawHexes_c (v : Value) (code : List UInt8) (fs : List Addr) (w : World) (h1 : rBytes w fs v code) :
    Calls Try.prog 7 #[v] w fun e w' => e = .returned (.bool true) ∧ Below w.heap.size w w' := by
  have H1 := Lib.hid h1
  obtain ⟨A1, c1, rfl, -⟩ := h1.form
  clear h1
  by_cases hbig : 1048576 < code.length
  · have hd : decide (1048576 < code.length) = true := decide_eq_true hbig
    go_enter Try.func7, Try.ntmps7
    go_wp2_with fail
    refine (lwBig_c _ code fs w H1.out).mono ?_
    rintro e w' ⟨rfl, rfl⟩
    rw [hd]
    go_wp2_with fail
    go_ret
    exact ⟨rfl, Below.refl _ _⟩
  have hd : decide (1048576 < code.length) = false := decide_eq_false hbig
  have hc : code.length ≤ 1048576 := by omega
  go_enter Try.func7, Try.ntmps7
  go_wp2_with fail
  refine (lwBig_c _ code fs w H1.out).mono ?_
  rintro e w' ⟨rfl, rfl⟩
  rw [hd]
  clear hd hbig
  go_wp2_with fail
  refine (drawHexOf_c _ code fs w H1.out hc).mono ?_
  rintro e w1 ⟨v1, f1, bs, rfl, hr1, hl1, hb1⟩
  obtain ⟨A2, c2, rfl, -⟩ := hr1.form
  have R1 := Lib.hid hr1; have B1 := Lib.hid hb1
  clear hr1 hb1
  go_wp2_with fail
  refine (implHexOf_c _ bs f1 w1 R1.out (by omega)).mono ?_
  rintro e w2 ⟨rfl, hb2⟩
  have R2 := Lib.hid (R1.out.below hb2)
  have B2 := Lib.hid (B1.out.trans (hb2.mono B1.out.size))
  clear hb2
  go_wp2_with fail
  refine (implBytesOfHex_c (hexS bs) w2).mono ?_
  intro e w3 hp
  have hco := boh_ok (t := hexL bs) (by rw [hexL_length]; omega) (okDec_hex bs)
  rw [hexS_list, hco.1, hco.2, rawDec_hex] at hp
  obtain ⟨bv, f3, rfl, hr3, -, hb3⟩ := hp
  obtain ⟨A3, c3, rfl, -⟩ := hr3.form
  have R3 := Lib.hid hr3
  have R2 := Lib.hid (R2.out.below hb3)
  have B3 := Lib.hid (B2.out.trans (hb3.mono B2.out.size))
  clear hco hr3 hb3
  have hba : Below w3.heap.size w3 (w3.alloc (.cells #[.int .i64 0, .slice A3 bs.length c3] 37)) := (Below.refl _ _).alloc (Nat.le_refl _) _
  have R3 := Lib.hid (rBytes.below R3.out hba)
  have R2 := Lib.hid (rBytes.below R2.out hba)
  have B3 := Lib.hid (B3.out.trans (hba.mono B3.out.size))
  clear hba
  go_wp2_with fail
  refine (lwBytes_c _ _ bs bs f3 f1 _ R3.out R2.out).mono ?_
  rintro e w4 ⟨rfl, hb4⟩
  rw [decide_eq_true rfl]
  have R2 := Lib.hid (rBytes.below R2.out hb4)
  have B4 := Lib.hid (B3.out.trans (hb4.mono B3.out.size))
  clear hb4
  go_wp2_with fail
  refine (implHexOf_c _ bs f1 w4 R2.out (by omega)).mono ?_
  rintro e w5 ⟨rfl, hb5⟩
  have B5 := Lib.hid (B4.out.trans (hb5.mono B4.out.size))
  have R1 := Lib.hid (H1.out.below B5.out)
  have hsz : (hexS bs).size = 2 * bs.length := by have := hexL_length bs; simpa [hexS, ByteArray.size] using this
  clear hb5 R2 R3
  generalize hexS bs = T at *
  have hsz2 : ((T.size : Nat) : Int) = 2 * ((bs.length : Nat) : Int) := by omega
  have hsz3 : (((T.size : Nat) : Int) != 2 * ((bs.length : Nat) : Int)) = false := by rw [hsz2]; simp
  have hsz4 : (!((T.size : Nat) : Int) == 2 * ((bs.length : Nat) : Int)) = false := by rw [hsz2]; simp
  clear hsz hsz2
  go_wp2_with fail
  refine (drawBoh_c _ code fs w5 R1.out hc).mono ?_
  rintro e w6 ⟨s2, rfl, hs2, hb6⟩
  have B6 := Lib.hid (B5.out.trans (hb6.mono B5.out.size))
  clear hb6
  go_wp2_with fail
  refine (implBytesOfHex_c s2 w6).mono ?_
  rintro e w7 ⟨bv2, f7, rfl, hr7, -, hb7⟩
  obtain ⟨A7, c7, rfl, -⟩ := hr7.form
  have R7 := Lib.hid hr7
  have B7 := Lib.hid (B6.out.trans (hb7.mono B6.out.size))
  clear hr7 hb7 hsz3 hsz4
  have hcase : (bohCode s2.data.toList = 0 ∧ hexL (bohBytes s2.data.toList) = s2.data.toList ∧ (bohBytes s2.data.toList).length ≤ 100) ∨ (bohCode s2.data.toList ≠ 0 ∧ bohBytes s2.data.toList = []) := by
    by_cases h1 : 80 < s2.data.toList.length
    · have := boh_long h1
      exact .inr ⟨by rw [this.1]; decide, this.2⟩
    · cases h2 : okDec s2.data.toList with
      | false =>
        have := boh_bad (by omega) h2
        exact .inr ⟨by rw [this.1]; decide, this.2⟩
      | true =>
        have := boh_ok (by omega) h2
        refine .inl ⟨this.1, ?_, ?_⟩
        · rw [this.2]; exact (hexL_raw _).2 h2
        · rw [this.2, rawDec_length]; omega
  rcases hcase with ⟨q1, q2, q3⟩ | ⟨q1, q2⟩
  · have hT : hexS (bohBytes s2.data.toList) = s2 := by
      apply ByteArray.ext
      simp [hexS, q2]
    rw [q1] at *
    generalize bohBytes s2.data.toList = D at *
    have HT := Lib.hid hT
    clear q1 q2 hT
    have hba : Below w7.heap.size w7 (w7.alloc (.cells #[.int .i64 0, .slice A7 D.length c7] 37)) := (Below.refl _ _).alloc (Nat.le_refl _) _
    have R7 := Lib.hid (rBytes.below R7.out hba)
    have B7 := Lib.hid (B7.out.trans (hba.mono B7.out.size))
    clear hba
    have hK := Blk.new w7 37 #[.int .i64 0, .slice A7 D.length c7]
    go_wp2_with fail
    obtain ⟨w8, hw8⟩ : ∃ w8, w7.alloc (.cells #[.int .i64 0, .slice A7 D.length c7] 37) = w8 := ⟨_, rfl⟩
    rw [hw8] at R7 B7 hK ⊢
    have HC := Lib.hid (show ∀ d os, Calls Try.prog 13 #[.slice A7 D.length c7] (grow (redrawn w8 d) os) fun e w'' => e = .returned (.string s2) ∧ ∃ p : Regrown, w'' = grow (redrawn w8 p.d) p.os from
      fun d os => Calls.regrown_of (by
        have := implHexOf_c (.slice A7 D.length c7) D f7 _ (rSl.below rByte.local_ rByte.fixed R7.out (below_regrown w8 d os)) (by omega)
        rwa [HT.out] at this))
    have p0 := (hK.cell 0).trans rfl
    have p1 := (hK.cell 1).trans rfl
    have p0' := cell_regrown p0
    have p1' := cell_regrown p1
    clear hK p0 p1 hw8
    refine wp_region_quiet_below (by kernel_rfl) (by kernel_rfl) ?_
    repeat (first | go_big_quiet_step (exact HC.out _ _) | quiet_step (exact HC.out _ _))
    refine wpQuiet_nil ?_
    intro _ hw'
    obtain ⟨⟨dq, osq⟩, hw''⟩ := hw'
    subst hw''
    have B8 := Lib.hid (B7.out.trans ((below_regrown w8 dq osq).mono B7.out.size))
    go_wp2_with fail
    go_ret
    exact ⟨rfl, B8.out⟩
  · have hK := Blk.new w7 37 #[.int .i64 (bohCode s2.data.toList), .slice A7 (bohBytes s2.data.toList).length c7]
    have hS := Lib.hid (fun W => (specBytesOfHexZ_c s2 W).mono (fun e W' (h : brPostZ _ _ W e W') => show e = .returned (.agg #[.int .i64 (bohCode s2.data.toList), .slice none 0 0]) ∧ Below W.heap.size W W' by
      obtain ⟨bv, fs, h1, h2, -, -, h3⟩ := h
      exact ⟨by rw [h2, h1 q1], h3⟩))
    have hba : Below w7.heap.size w7 (w7.alloc (.cells #[.int .i64 (bohCode s2.data.toList), .slice A7 (bohBytes s2.data.toList).length c7] 37)) := (Below.refl _ _).alloc (Nat.le_refl _) _
    have B8 := Lib.hid (B7.out.trans (hba.mono B7.out.size))
    have hc0 : ((bohCode s2.data.toList : Int) == 0) = false := by simpa using q1
    have hc1 : ((bohCode s2.data.toList : Int) != 0) = true := by simpa using q1
    generalize bohCode s2.data.toList = C at *
    generalize bohBytes s2.data.toList = D at *
    clear q1 q2 hba
    have hCC : ((C : Int) == C) = true := by simp
    go_wp2_with fail
    obtain ⟨w8, hw8⟩ : ∃ w8, w7.alloc (.cells #[.int .i64 C, .slice A7 D.length c7] 37) = w8 := ⟨_, rfl⟩
    rw [hw8] at B8 hK ⊢
    have HC := Lib.hid (show ∀ d os, Calls Try.prog 19 #[.string s2] (grow (redrawn w8 d) os) fun e w'' => e = .returned (.agg #[.int .i64 C, .slice none 0 0]) ∧ ∃ p : Regrown, w'' = grow (redrawn w8 p.d) p.os from
      fun d os => Calls.regrown_of (hS.out _))
    have p0 := (hK.cell 0).trans rfl
    have p1 := (hK.cell 1).trans rfl
    have p0' := cell_regrown p0
    have p1' := cell_regrown p1
    have hfl := fldBR C none 0 0
    clear hK p0 p1 hw8
    refine wp_region_quiet_below (by kernel_rfl) (by kernel_rfl) ?_
    repeat (first | go_big_quiet_step (exact HC.out _ _) | quiet_step (exact HC.out _ _))
    refine wpQuiet_nil ?_
    intro _ hw'
    obtain ⟨⟨dq, osq⟩, hw''⟩ := hw'
    subst hw''
    have B8 := Lib.hid (B8.out.trans ((below_regrown w8 dq osq).mono B8.out.size))
    go_wp2_with fail
    go_ret
    exact ⟨rfl, B8.out⟩

end Go.Proofs.Ytimabbleijkmhaa
