/-
  BytesOfHex of the reference: what each call does.
-/
import Derived.Test.YtimabbleijkmhaaBoh
namespace Go.Proofs.Ytimabbleijkmhaa
open Go.RowKit

theorem okDec_at (t : List UInt8) (j : Nat) (hj : j % 2 = 0) (h1 : j + 1 < t.length) (h : okDec t = true) : 0 ≤ digN t[j] ∧ 0 ≤ digN t[j + 1] := by
  have h2 := okDec_take (j / 2 + 1) t h
  rw [show 2 * (j / 2 + 1) = j + 2 from by omega, take_two' h1, okDec_snoc _ _ _ (by rw [List.length_take]; omega)] at h2
  simp only [Bool.and_eq_true, decide_eq_true_eq] at h2
  exact h2.2
theorem okDec_step (t : List UInt8) (j : Nat) (hj : j % 2 = 0) (h1 : j + 1 < t.length) (h : okDec (t.take j) = true) (h2 : 0 ≤ digN t[j]) (h3 : 0 ≤ digN t[j + 1]) : okDec (t.take (j + 2)) = true := by
  rw [take_two' h1, okDec_snoc _ _ _ (by rw [List.length_take]; omega), h]
  simp [h2, h3]

set_option maxHeartbeats 1000000 in
set_option maxRecDepth 100000 in
theorem specBytesOfHex_c (s : ByteArray) (w : World) :
    Calls Try.prog 19 #[.string s] w (brPost (bohCode s.data.toList) (bohBytes s.data.toList) w) := by
  have hsz : s.data.toList.length = s.size := by simp
  by_cases h80 : 80 < s.size
  · obtain ⟨e1, e2⟩ := boh_long (t := s.data.toList) (by omega)
    rw [e1, e2]
    clear e1 e2 hsz
    go_enter Try.func19, Try.ntmps19
    go_wp2_with fail
    have k1 := Blk.new w 37 #[.int .i64 2, .slice none 0 0]
    refine bodyPost_ret (results_cell_row rfl _ _ w.heap.size 37 #[.int .i64 2, .slice none 0 0] (0, 0) _ rfl k1 Try.underlying37 rfl (by kernel_rfl)) rfl ⟨.slice none 0 0, [], rfl, rBytes.empty (by omega), mine_nil _ _, ?_⟩
    exact (Below.refl _ _).alloc (Nat.le_refl _) _
  have hb9 : decide (80 < (s.size : Int)) = false := by simp; omega
  by_cases hodd : s.size % 2 = 1
  · have hno : okDec s.data.toList = false := by
      cases h : okDec s.data.toList with
      | false => rfl
      | true => have := okDec_even _ h; omega
    obtain ⟨e1, e2⟩ := boh_bad (t := s.data.toList) (by omega) hno
    rw [e1, e2]
    clear e1 e2 hno hsz
    go_enter Try.func19, Try.ntmps19
    go_wp2_with fail
    have k1 := Blk.new w 37 #[.int .i64 5, .slice none 0 0]
    refine bodyPost_ret (results_cell_row rfl _ _ w.heap.size 37 #[.int .i64 5, .slice none 0 0] (0, 0) _ rfl k1 Try.underlying37 rfl (by kernel_rfl)) rfl ⟨.slice none 0 0, [], rfl, rBytes.empty (by omega), mine_nil _ _, ?_⟩
    exact (Below.refl _ _).alloc (Nat.le_refl _) _
  · obtain ⟨i0, hi, hz0, hz1, hz2⟩ := info_parts Try.info5
    have hev : s.size % 2 = 0 := by omega
    have hmo : ((s.size : Int) % 2 == 1) = false := by rw [show (s.size : Int) % 2 = ((s.size % 2 : Nat) : Int) from by omega, hev]; rfl
    go_enter Try.func19, Try.ntmps19
    go_wp2_with fail
    clear hodd
    have HEV := Lib.hid hev; clear hev
    have HSZ := Lib.hid hsz; clear hsz
    go_loopw [4] (fun i wr => ∃ (j : Nat) (v : Value), j ≤ s.size ∧ j % 2 = 0 ∧ i = .int .i64 j ∧ okDec (s.data.toList.take j) = true ∧ wr.ownsRow (w.heap.size + 2) 5 1 v (rawDec (s.data.toList.take j)).length ((rawDec (s.data.toList.take j)).map byteV) ∧
      Blk wr w.heap.size 37 #[.int .i64 0, .slice none 0 0] ∧ Blk wr (w.heap.size + 1) 37 #[.int .i64 0, v] ∧ Below w.heap.size w wr ∧ w.heap.size + 2 ≤ wr.heap.size) (fun i _ => s.size - (intOf i).toNat)
    case atStart =>
      exact ⟨0, .slice none 0 0, by omega, rfl, rfl, rfl, by simpa [rawDec] using World.ownsRow_nil (base := w.heap.size + 2) (e := 5) (size := 1) _, (Blk.new _ _ _).alloc _, Blk.new1 _ _ _ _, ((Below.refl _ _).alloc (Nat.le_refl _) _).alloc (by simp) _, by simp⟩
    case round =>
      obtain ⟨j, v, hj, hjev, rfl, hok, hown, hbk, hbk2, hbl, hsz1⟩ := hrel
      by_cases hlt : j + 1 < s.size
      · have hl1 : (j : Int) < (s.size : Int) := by omega
        have hl2 : (j : Int) + 1 < (s.size : Int) := by omega
        have hl0 : 0 ≤ (j : Int) := by omega
        have hl3 : 0 ≤ (j : Int) + 1 := by omega
        have HE := Lib.hid hjev; have HO := Lib.hid hown; have HK := Lib.hid hbk; have HK2 := Lib.hid hbk2; have HB := Lib.hid hbl; have HOK := Lib.hid hok
        clear hown hbk hbk2 hbl hjev hok
        have d1 := digN_hi s[j]
        have d2 := digN_lo s[j]
        have d3 := digN_hi s[j + 1]
        have d4 := digN_lo s[j + 1]
        go_wp2_with fail
        refine (l14Digit_c _ wr).mono ?_
        rintro e w' ⟨rfl, rfl⟩
        go_wp2_with fail
        refine (l14Digit_c _ wr).mono ?_
        rintro e w' ⟨rfl, rfl⟩
        by_cases hg : 0 ≤ digN s[j] ∧ 0 ≤ digN s[j + 1]
        · have hpb := pairB_max s[j] s[j+1]
          rw [show max (digN s[j]) 0 = digN s[j] from by omega, show max (digN s[j + 1]) 0 = digN s[j + 1] from by omega] at hpb
          have hpl := UInt8.toNat_lt (pairB s[j] s[j+1])
          have hln := rawDec_length (s.data.toList.take j)
          rw [List.length_take] at hln
          obtain ⟨hg1, hg2⟩ := hg
          have hown := HO.out
          have HLN := Lib.hid hln; clear hln
          have k0 := Blk.cell HK2.out 0
          have k1 := Blk.cell HK2.out 1
          have f0 := Blk.frozen HK2.out 0
          have f1 := Blk.frozen HK2.out 1
          simp at k0 k1
          go_wp2_with (at_builtin; refine wpAppendOne rfl (.tmp 40) (.tmp 46) 22 rfl (w.heap.size + 2) 5 (.int .u8 0) 1 1 Try.underlying22 Try.info5 rfl (by decide) _ _ _ rfl (hown.alloc _) wr.heap.size [.int .u8 ((pairB s[j] s[j+1]).toNat : Int)] rfl rfl (Blk.new wr _ _) ?c1 ?c2 (by decide) ?c3 ?_)
          case c1 => intro u hu; simp at hu; subst hu; rfl
          case c2 => rw [HLN.out]; omega
          case c3 => simp; omega
          rintro v' w1 hown1 hg1
          obtain ⟨g1, cc1, rfl, hgb1, hgl1⟩ := hown1.form (by omega)
          have HO1 := Lib.hid hown1; clear hown1
          have hkk := Lib.hid ((HK.out.alloc (.cells #[.int .u8 ((pairB s[j] s[j+1]).toNat : Int)] 5)).grown hg1 (fun e => by have := (hown.lt _ e.symm).1; omega))
          have hkk2 := Lib.hid ((HK2.out.alloc (.cells #[.int .u8 ((pairB s[j] s[j+1]).toNat : Int)] 5)).grown hg1 (fun e => by have := (hown.lt _ e.symm).1; omega))
          have HB1 := Lib.hid (((HB.out).alloc (by omega) (.cells #[.int .u8 ((pairB s[j] s[j+1]).toNat : Int)] 5)).grown hg1 (by simp; omega) (fun k hk => by have := (hown.lt k hk).1; omega))
          have hs2 : w.heap.size + 2 ≤ w1.heap.size := by have := hg1.size; simp at this; omega
          clear hg1 hown hpb k0 k1 f0 f1
          have k0 := Blk.cell hkk2.out 0
          have k1 := Blk.cell hkk2.out 1
          have f0 := Blk.frozen hkk2.out 0
          have f1 := Blk.frozen hkk2.out 1
          simp at k0 k1
          go_wp2
          go_roundw
          case rel =>
            have e1 : s.data.toList.take (j + 2) = s.data.toList.take j ++ [s[j], s[j + 1]] := by
              rw [strGet, strGet]
              exact take_two' (by rw [HSZ.out]; exact hlt)
            have e2 : rawDec (s.data.toList.take (j + 2)) = rawDec (s.data.toList.take j) ++ [pairB s[j] s[j + 1]] := by
              rw [e1]
              refine rawDec_snoc _ _ _ ?_
              rw [List.length_take, HSZ.out]
              have := HE.out
              omega
            have e3 : okDec (s.data.toList.take (j + 2)) = true := okDec_step _ j HE.out (by rw [HSZ.out]; exact hlt) HOK.out hg1 hg2
            refine ⟨j + 2, .slice (some ⟨g1, 0, none⟩) ((rawDec (s.data.toList.take j)).length + 1) cc1, by omega, by have := HE.out; omega, by simp, e3, ?_, Blk.far hkk.out (by simp) _, Blk.set_ hkk2.out 1 _, HB1.out.setCell (by simp) _, by simpa [World.setCell] using hs2⟩
            rw [e2, List.length_append, List.map_append]
            exact ownsRow_far HO1.out (by simp) _
          case measure => simp [intOf]; omega
        · have hno : okDec s.data.toList = false := by
            cases h : okDec s.data.toList with
            | false => rfl
            | true => exact absurd (okDec_at _ j HE.out (by simpa using hlt) h) hg
          obtain ⟨e1, e2⟩ := boh_bad (t := s.data.toList) (by rw [HSZ.out]; omega) hno
          have E1 := Lib.hid e1; have E2 := Lib.hid e2
          clear e1 e2 hno
          have k0 := Blk.cell HK.out 0
          have k1 := Blk.cell HK.out 1
          have f0 := Blk.frozen HK.out 0
          have f1 := Blk.frozen HK.out 1
          simp at k0 k1
          go_wp2_with fail
          all_goals
            refine bodyPost_ret (results_cell_row rfl _ _ w.heap.size 37 #[.int .i64 5, .slice none 0 0] (0, 0) _ rfl (Blk.set_ (Blk.set_ HK.out 0 _) 1 _) Try.underlying37 rfl (by kernel_rfl)) rfl ?_
            exact ⟨.slice none 0 0, [], by rw [E1.out], by rw [E2.out]; exact rBytes.empty (by omega), mine_nil _ _, (HB.out.setCell (by simp) _).setCell (by simp) _⟩
      · have hje : j = s.size := by have := HEV.out; omega
        subst hje
        have hl2 : ¬ (s.size : Int) < (s.size : Int) := by omega
        have HE := Lib.hid hjev; have HO := Lib.hid hown; have HK := Lib.hid hbk; have HK2 := Lib.hid hbk2; have HB := Lib.hid hbl; have HOK := Lib.hid hok
        have k0 := Blk.cell HK.out 0
        have k1 := Blk.cell HK.out 1
        have f0 := Blk.frozen HK.out 0
        have f1 := Blk.frozen HK.out 1
        have k20 := Blk.cell HK2.out 0
        have k21 := Blk.cell HK2.out 1
        simp at k0 k1 k20 k21
        clear hown hbk hbk2 hbl hjev hok
        have hfull : s.data.toList.take s.size = s.data.toList := by rw [← HSZ.out]; exact List.take_length
        rw [hfull] at HO HOK
        clear hfull
        obtain ⟨fs, hrb, hmine⟩ := own_bytes HO.out
        obtain ⟨a3, c3, rfl, -⟩ := hrb.form
        have HR := Lib.hid hrb; have HM := Lib.hid hmine
        clear hrb hmine
        obtain ⟨e1, e2⟩ := boh_ok (t := s.data.toList) (by rw [HSZ.out]; omega) HOK.out
        have E1 := Lib.hid e1; have E2 := Lib.hid e2
        clear e1 e2
        go_wp2_with fail
        refine bodyPost_ret (results_cell_row rfl _ _ w.heap.size 37 #[.int .i64 0, .slice a3 (rawDec s.data.toList).length c3] (0, 0) _ rfl (Blk.set_ (Blk.set_ HK.out 0 _) 1 _) Try.underlying37 rfl (by kernel_rfl)) rfl ?_
        refine ⟨_, fs, by rw [E1.out], ?_, ?_, (HB.out.setCell (by simp) _).setCell (by simp) _⟩
        · rw [E2.out]
          exact (rSl.keep rByte.local_ (rSl.keep rByte.local_ HR.out (Same.set_ _ HM.out.from_ (by simp) _)) (Same.set_ _ HM.out.from_ (by simp) _))
        · exact (((HM.out.mono (by omega)).set_ _ _).set_ _ _)

end Go.Proofs.Ytimabbleijkmhaa
