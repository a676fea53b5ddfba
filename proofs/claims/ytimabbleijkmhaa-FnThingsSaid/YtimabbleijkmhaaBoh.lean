/-
  BytesOfHex, of the program and of the reference: what each call does.
-/
import Derived.Test.YtimabbleijkmhaaDec
namespace Go.Proofs.Ytimabbleijkmhaa
open Go.RowKit

theorem strGet (s : ByteArray) (k : Nat) (h : k < s.size) : s[k] = s.data.toList[k]'(by simpa using h) := rfl

set_option maxHeartbeats 400000 in
theorem l14Digit_c (c : UInt8) (w : World) :
    Calls Try.prog 50 #[.int .u8 (c.toNat : Int)] w fun e w' => e = .returned (.int .i64 (digN c)) ∧ w = w' := by
  have hb := UInt8.toNat_lt c
  by_cases h1 : 48 ≤ c.toNat
  · by_cases h2 : c.toNat ≤ 57
    · rw [show digN c = (c.toNat : Int) - 48 from by unfold digN; rw [if_pos ⟨h1, h2⟩]]
      go_enter Try.func50, Try.ntmps50
      go_wp2
      go_ret
      exact ⟨rfl, rfl⟩
    · by_cases h3 : 97 ≤ c.toNat
      · by_cases h4 : c.toNat ≤ 102
        · rw [show digN c = (c.toNat : Int) - 97 + 10 from by unfold digN; rw [if_neg (by omega), if_pos ⟨h3, h4⟩]; omega]
          go_enter Try.func50, Try.ntmps50
          go_wp2
          go_ret
          exact ⟨rfl, rfl⟩
        · rw [show digN c = -1 from by unfold digN; rw [if_neg (by omega), if_neg (by omega)]]
          go_enter Try.func50, Try.ntmps50
          go_wp2
          go_ret
          exact ⟨rfl, rfl⟩
      · rw [show digN c = -1 from by unfold digN; rw [if_neg (by omega), if_neg (by omega)]]
        go_enter Try.func50, Try.ntmps50
        go_wp2
        go_ret
        exact ⟨rfl, rfl⟩
  · rw [show digN c = -1 from by unfold digN; rw [if_neg (by omega), if_neg (by omega)]]
    go_enter Try.func50, Try.ntmps50
    go_wp2
    go_ret
    exact ⟨rfl, rfl⟩

/-- A result of bytes: a code, and a slice of one's own memory. -/
def brPost (code : Int) (bs : List UInt8) (w : World) (e : Ending) (w' : World) : Prop :=
  ∃ bv fs, e = .returned (.agg #[.int .i64 code, bv]) ∧ rBytes w' fs bv bs ∧ Mine w.heap.size w' fs ∧ Below w.heap.size w w'
theorem mine_nil (lo : Nat) (w : World) : Mine lo w [] := ⟨List.nodup_nil, (fun _ h => by cases h), (fun _ h => by cases h)⟩

/-- Bytes that were appended, as a reading. -/
theorem own_bytes {w : World} {base : Nat} {T : TypeId} {v : Value} {n : Nat} {l : List UInt8} (h : w.ownsRow base T 1 v n (l.map byteV)) : ∃ fs, rBytes w fs v l ∧ Mine base w fs := by
  obtain ⟨hl, h2⟩ := h
  simp at hl
  rcases h2 with ⟨rfl, h0⟩ | ⟨g, cap, cur, rfl, hb, hg, hnc, hcm, hcs, htake⟩
  · have : l = [] := List.eq_nil_of_length_eq_zero (by omega)
    subst this
    exact ⟨[], rBytes.empty (by omega), mine_nil _ _⟩
  · subst hl
    simp only [maxLen] at hcm
    refine ⟨addrs ⟨g, 0, none⟩ l.length, rBytes.close_ hnc (by omega) (fun k hk => ?_), nodup_addrs rfl, fun a ha => ?_, fun a ha => ?_⟩
    · rw [addNew, cell_of_row w g k cur T (0, 0) hg]
      have h3 : (cur.toList.take (l.length * 1))[k]? = some (byteV l[k]) := by rw [htake]; simp [hk]
      rw [List.getElem?_take] at h3
      rw [if_pos (by omega)] at h3
      simpa [byteV] using h3
    · obtain ⟨k, _, rfl⟩ := mem_addrs.1 ha
      rw [blockAdd]; exact hb
    · obtain ⟨k, _, rfl⟩ := mem_addrs.1 ha
      rw [addNew]
      exact frozen_of_row w g k cur T hg

theorem indexByte_c (c : UInt8) (w : World) :
    Calls Try.prog 51 #[.string hexD, .int .u8 (c.toNat : Int)] w fun e w' => e = .returned (.int .i64 (digN c)) ∧ w = w' := by
  refine (Try.indexByte hexD (c.toNat : Int) w).mono ?_
  rintro e w' ⟨rfl, rfl⟩
  refine ⟨retInt ?_, rfl⟩
  rw [show ((c.toNat : Int).toNat.toUInt8) = c from by simp]
  exact idx_digN c

set_option maxHeartbeats 1000000 in
set_option maxRecDepth 100000 in
theorem implBytesOfHex_c (s : ByteArray) (w : World) :
    Calls Try.prog 20 #[.string s] w (brPost (bohCode s.data.toList) (bohBytes s.data.toList) w) := by
  have hsz : s.data.toList.length = s.size := by simp
  by_cases h80 : 80 < s.size
  · obtain ⟨e1, e2⟩ := boh_long (t := s.data.toList) (by omega)
    rw [e1, e2]
    clear e1 e2 hsz
    go_enter Try.func20, Try.ntmps20
    go_wp2_with fail
    have k1 := Blk.new w 37 #[.int .i64 2, .slice none 0 0]
    refine bodyPost_ret (results_cell_row rfl _ _ w.heap.size 37 #[.int .i64 2, .slice none 0 0] (0, 0) _ rfl k1 Try.underlying37 rfl (by kernel_rfl)) rfl ⟨.slice none 0 0, [], rfl, rBytes.empty (by omega), mine_nil _ _, ?_⟩
    exact (Below.refl _ _).alloc (Nat.le_refl _) _
  · obtain ⟨i0, hi, hz0, hz1, hz2⟩ := info_parts Try.info5
    go_enter Try.func20, Try.ntmps20
    have hb9 : decide (80 < (s.size : Int)) = false := by simp; omega
    go_wp2_with fail
    go_loopw [3, 4] (fun v i wr => ∃ j : Nat, j ≤ s.size ∧ j % 2 = 0 ∧ i = .int .i64 j ∧ wr.ownsRow (w.heap.size + 1) 5 1 v (rawDec (s.data.toList.take j)).length ((rawDec (s.data.toList.take j)).map byteV) ∧
      Blk wr w.heap.size 37 #[.int .i64 0, .slice none 0 0] ∧ Below w.heap.size w wr ∧ w.heap.size + 1 ≤ wr.heap.size) (fun _ i _ => s.size - (intOf i).toNat)
    case atStart => exact ⟨0, by omega, rfl, rfl, by simpa [rawDec] using World.ownsRow_lit (base := w.heap.size + 1) (e := 5) (size := 1) (w.alloc (.cells #[.int .i64 0, .slice none 0 0] 37)) #[] 0 (by simp) (by simp [maxLen]) rfl, (Blk.new _ _ _).alloc _, ((Below.refl _ _).alloc (Nat.le_refl _) _).alloc (by simp) _, by simp⟩
    case round =>
      obtain ⟨j, hj, hev, rfl, hown, hbk, hbl, hsz1⟩ := hrel
      by_cases hlt : j + 1 < s.size
      · have hl1 : (j : Int) < (s.size : Int) := by omega
        have hl2 : (j : Int) + 1 < (s.size : Int) := by omega
        have hl0 : 0 ≤ (j : Int) := by omega
        have hl3 : 0 ≤ (j : Int) + 1 := by omega
        have HE := Lib.hid hev; have HO := Lib.hid hown; have HK := Lib.hid hbk; have HB := Lib.hid hbl
        clear hown hbk hbl hev
        go_wp2_with fail
        go_quiet ((first | (go_at_call 51; exact quietL (indexByte_c _ _)) | (go_at_call 51; exact quietL2 (indexByte_c _ _))))
        have m1 : 0 ≤ max (digN s[j]) 0 := by omega
        have m2 : max (digN s[j]) 0 ≤ 15 := by have := digN_hi s[j]; omega
        have m3 : 0 ≤ max (digN s[j+1]) 0 := by omega
        have m4 : max (digN s[j+1]) 0 ≤ 15 := by have := digN_hi s[j+1]; omega
        have hpb := pairB_max s[j] s[j+1]
        have hpl := UInt8.toNat_lt (pairB s[j] s[j+1])
        have hown := HO.out
        have hln := rawDec_length (s.data.toList.take j)
        rw [List.length_take] at hln
        have HLN := Lib.hid hln; clear hln
        go_wp2_with (at_builtin; refine wpAppendOne rfl (.tmp 28) (.tmp 36) 22 rfl (w.heap.size + 1) 5 (.int .u8 0) 1 1 Try.underlying22 Try.info5 rfl (by decide) _ _ _ rfl ((show (wr.drewN nq).ownsRow _ _ _ _ _ _ from hown).alloc _) wr.heap.size [.int .u8 ((pairB s[j] s[j+1]).toNat : Int)] rfl rfl (Blk.new (wr.drewN nq) _ _) ?c1 ?c2 (by decide) ?c3 ?_)
        case c1 => intro u hu; simp at hu; subst hu; rfl
        case c2 => rw [HLN.out]; omega
        case c3 => simp; omega
        rintro v' w1 hown1 hg1
        obtain ⟨g1, cc1, rfl, hgb1, hgl1⟩ := hown1.form (by omega)
        have HO1 := Lib.hid hown1; clear hown1
        have HK1 := Lib.hid ((HK.out.alloc (.cells #[.int .u8 ((pairB s[j] s[j+1]).toNat : Int)] 5)).grown (w := (wr.drewN nq).alloc _) hg1 (fun e => by have := (hown.lt _ e.symm).1; omega))
        have HB1 := Lib.hid (((belowDrewN HB.out nq).alloc (by simp; omega) (.cells #[.int .u8 ((pairB s[j] s[j+1]).toNat : Int)] 5)).grown hg1 (by simp; omega) (fun k hk => by have := (hown.lt k hk).1; omega))
        have hs2 : w.heap.size + 1 ≤ w1.heap.size := by have := hg1.size; simp at this; omega
        clear hg1 hown hpb
        go_wp2
        go_roundw
        case rel =>
          have e1 : s.data.toList.take (j + 2) = s.data.toList.take j ++ [s[j], s[j + 1]] := by
            rw [strGet, strGet]
            exact take_two' (by omega)
          have e2 : rawDec (s.data.toList.take (j + 2)) = rawDec (s.data.toList.take j) ++ [pairB s[j] s[j + 1]] := by
            rw [e1]
            refine rawDec_snoc _ _ _ ?_
            rw [List.length_take]
            have := HE.out
            omega
          refine ⟨j + 2, by omega, by have := HE.out; omega, by simp, ?_, HK1.out, HB1.out, hs2⟩
          rw [e2, List.length_append, List.map_append]
          exact HO1.out
        case measure => simp [intOf]; omega
      · have hl1 : 0 ≤ (j : Int) := by omega
        have hl2 : ¬ (j : Int) + 1 < (s.size : Int) := by omega
        have HE := Lib.hid hev; have HO := Lib.hid hown; have HK := Lib.hid hbk; have HB := Lib.hid hbl
        clear hown hbk hbl hev
        go_wp2_with fail
        have hall : rawDec (s.data.toList.take j) = rawDec s.data.toList := rawDec_all _ _ HE.out (by omega) (by omega)
        have hown := HO.out
        rw [hall] at hown
        clear hall HO
        have hrl := rawDec_length s.data.toList
        obtain ⟨fs, hrb, hmine⟩ := own_bytes hown
        have HRL := Lib.hid hrl; have HO := Lib.hid hown; have HR := Lib.hid hrb; have HM := Lib.hid hmine
        obtain ⟨a3, c3, rfl, -⟩ := hrb.form
        clear hown hrb hmine hrl
        refine (implHexOf_c _ (rawDec s.data.toList) fs wr HR.out (by rw [HRL.out]; omega)).mono ?_
        rintro e w2 ⟨rfl, hb2⟩
        have HK2 := Lib.hid (Blk.below HK.out hb2 (by omega))
        have HR2 := Lib.hid (rBytes.below HR.out hb2)
        have HM2 := Lib.hid (HM.out.wrote (Wrote.of_below (fs := []) hb2) (rSl.there rByte.fixed HR.out) (lo := w.heap.size + 1))
        have HB2 := Lib.hid (HB.out.trans (hb2.mono HB.out.size))
        have hs3 : w.heap.size < w2.heap.size := by have := hb2.size; omega
        clear hb2
        have k0 := Blk.cell HK2.out 0
        have k1 := Blk.cell HK2.out 1
        have f0 := Blk.frozen HK2.out 0
        have f1 := Blk.frozen HK2.out 1
        simp at k0 k1
        by_cases hok : okDec s.data.toList = true
        · have hne : (!(hexS (rawDec s.data.toList)).toList == s.toList) = false := by
            have := (hexL_raw s.data.toList).2 hok
            rw [ByteArray.toList_eq, ByteArray.toList_eq]
            simp [hexS, this]
          obtain ⟨e1, e2⟩ := boh_ok (t := s.data.toList) (by omega) hok
          have E1 := Lib.hid e1; have E2 := Lib.hid e2
          clear e1 e2
          go_wp2_with fail
          refine bodyPost_ret (results_cell_row rfl _ _ w.heap.size 37 #[.int .i64 0, .slice a3 (rawDec s.data.toList).length c3] (0, 0) _ rfl (Blk.set_ (Blk.set_ HK2.out 0 _) 1 _) Try.underlying37 rfl (by kernel_rfl)) rfl ?_
          refine ⟨_, fs, by rw [E1.out], ?_, ?_, (HB2.out.setCell (by simp) _).setCell (by simp) _⟩
          · rw [E2.out]
            exact (rSl.keep rByte.local_ (rSl.keep rByte.local_ HR2.out (Same.set_ _ HM2.out.from_ (by simp) _)) (Same.set_ _ HM2.out.from_ (by simp) _))
          · exact (((HM2.out.mono (Nat.le_succ _)).set_ _ _).set_ _ _)
        · have hne : (!(hexS (rawDec s.data.toList)).toList == s.toList) = true := by
            have := mt (hexL_raw s.data.toList).1 hok
            rw [ByteArray.toList_eq, ByteArray.toList_eq]
            simpa [hexS] using this
          obtain ⟨e1, e2⟩ := boh_bad (t := s.data.toList) (by omega) (by simpa using hok)
          have E1 := Lib.hid e1; have E2 := Lib.hid e2
          clear e1 e2
          go_wp2_with fail
          refine bodyPost_ret (results_cell_row rfl _ _ w.heap.size 37 #[.int .i64 5, .slice none 0 0] (0, 0) _ rfl (Blk.set_ (Blk.set_ HK2.out 0 _) 1 _) Try.underlying37 rfl (by kernel_rfl)) rfl ?_
          exact ⟨.slice none 0 0, [], by rw [E1.out], by rw [E2.out]; exact rBytes.empty (by omega), mine_nil _ _, (HB2.out.setCell (by simp) _).setCell (by simp) _⟩

end Go.Proofs.Ytimabbleijkmhaa
