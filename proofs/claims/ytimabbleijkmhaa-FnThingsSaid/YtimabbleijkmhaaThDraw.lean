/-
  l13Things and DrawPutThing, by bounds.
-/
import Derived.Test.YtimabbleijkmhaaThings
import Derived.Test.YtimabbleijkmhaaPutLaw
namespace Go.Proofs.Ytimabbleijkmhaa
open Go.RowKit Go.Sort

theorem Drawn.lift {b : Nat} {code : List UInt8} {fs : List Addr} {t t' : Nat} {w w' : World} (h : Drawn b code fs t w w') (ht : t ≤ t') : Drawn b code fs t' w w' := ⟨h.src.mono ht, h.grown⟩

/-- What l13Things answers. -/
def thingsPost (b : Nat) (code : List UInt8) (gs : List Addr) (w : World) (e : Ending) (w' : World) : Prop :=
  ∃ v f ds, e = .returned v ∧ rThs w' f v ds ∧ ds.length + thSum ds ≤ 1000 ∧ (∀ a, a ∈ f → w.heap.size ≤ a.block) ∧ Drawn b code gs 200 w w'

set_option maxHeartbeats 2000000 in
set_option maxRecDepth 100000 in
theorem l13Things_c (b : Nat) (code : List UInt8) (gs : List Addr) (w : World) (h : Src w b code gs 0) (hc : code.length ≤ 1048576) :
    Calls Try.prog 69 #[.pointer (some ⟨b, 0, none⟩)] w (thingsPost b code gs w) := by
  have H := Lib.hid h
  have HT := Lib.hid h.there
  have hblt := h.lt
  clear h
  go_enter Try.func69, Try.ntmps69
  go_wp2_with fail
  have D0 := Lib.hid ((Drawn.refl H.out).more (belowA (o := .cells #[] 55) (Below.refl _ _)))
  refine (l1Next_c b code gs 0 5 _ D0.out.src (by omega) (by omega) (by omega) hc).mono ?_
  rintro e w1 ⟨r, rfl, r0, r1, hd⟩
  obtain ⟨N, rfl⟩ := Int.eq_ofNat_of_zero_le r0
  have D1 := Lib.hid (D0.out.trans hd)
  have hbk : Blk w1 w.heap.size 55 #[] := (Blk.new w 55 #[]).grown hd.grown (fun e => by injection e with e; omega)
  have O1 := Lib.hid (OwnL.start (R := rTh) (base := w.heap.size) (E := 55) (k := 3) (w := w1) (v := .slice (some ⟨w.heap.size, 0, none⟩) 0 0) ⟨rfl, .inr ⟨w.heap.size, 0, #[], rfl, Nat.le_refl _, hbk, Nat.le_refl _, by unfold maxLen; omega, rfl, rfl⟩⟩)
  clear hd hbk r0 D0
  go_wp2
  go_loopw [3, 4] (fun o i wr => ∃ (j : Nat) (ds : List Th) (fo : List Addr), j ≤ N ∧ i = .int .i64 ((N - j : Nat) : Int) ∧ ds.length + thSum ds ≤ 10 * j ∧ OwnL 3 55 rTh wr w.heap.size o ds fo ∧ Mine w.heap.size wr fo ∧ Drawn b code gs (1 + 11 * j) w wr) (fun _ i _ => (intOf i).toNat)
  case atStart => exact ⟨0, [], [], by omega, rfl, by simp [thSum], O1.out, ⟨List.nodup_nil, (fun _ h => by cases h), (fun _ h => by cases h)⟩, D1.out⟩
  case round =>
    obtain ⟨j, ds, fo, hj, rfl, hsm, ho, hm, hd⟩ := hrel
    by_cases hlt : j < N
    · obtain ⟨m, hm2⟩ : ∃ m, N - j = m + 1 := ⟨N - j - 1, by omega⟩
      rw [hm2]
      have HM2 := Lib.hid hm2
      have hmb : m ≤ 1000 := by omega
      have HO := Lib.hid ho; have HM := Lib.hid hm; have HD := Lib.hid hd
      clear ho hm hd hm2 O1 D1
      go_wp2_with fail
      refine (l4Name_c b code gs (1 + 11 * j) wr HD.out.src (by omega) hc).mono ?_
      rintro e w2 ⟨nm, rfl, hnm, hd2⟩
      have P2 := Lib.hid (OwnL.drawn rTh.local_ rTh.fixed HO.out HM.out hd2 hblt)
      have D2 := Lib.hid (HD.out.trans hd2)
      clear hd2 HO HM HD
      go_wp2_with fail
      refine (l1Next_c b code gs (1 + 11 * j + 1) 4 w2 D2.out.src (by omega) (by omega) (by omega) hc).mono ?_
      rintro e w3 ⟨r3, rfl, a0, a1, hd3⟩
      have P3 := Lib.hid (OwnL.drawn rTh.local_ rTh.fixed P2.out.1 P2.out.2 hd3 hblt)
      have D3 := Lib.hid (D2.out.trans hd3)
      clear hd3 P2 D2
      go_wp2_with fail
      refine (l1Some_c b code gs (1 + 11 * j + 1 + 1) r3 w3 D3.out.src (by omega) a0 (by omega) hc).mono ?_
      rintro e w4 ⟨v4, f4, bs, rfl, h4, hl4, -, hd4⟩
      have P4 := Lib.hid (OwnL.drawn rTh.local_ rTh.fixed P3.out.1 P3.out.2 hd4 hblt)
      have D4 := Lib.hid ((D3.out.trans hd4).lift (show _ ≤ 1 + 11 * (j + 1) by omega))
      have R4 := Lib.hid h4
      have hbl : bs.length ≤ 3 := by omega
      obtain ⟨ga, hra, -⟩ := P4.out.1.readsMine P4.out.2
      have RA := Lib.hid hra
      obtain ⟨A5, c5, rfl, -⟩ := P4.out.1.length
      clear hd4 h4 hl4 P3 D3 hra
      go_wp2_with fail
      refine (specPutThingO_c _ ds nm v4 bs ga f4 w4 RA.out R4.out (by omega) (by omega) (by omega)).mono ?_
      rintro e w5 ⟨v5, f5, rfl, ho5, hm5, hb5⟩
      have hps := putL_small nm bs ds
      have hle : w.heap.size ≤ w4.heap.size := D4.out.grown.size
      have O5 := Lib.hid (ho5.mono hle)
      have M5 := Lib.hid (hm5.mono hle)
      have D5 := Lib.hid (D4.out.more hb5)
      clear ho5 hm5 hb5 hle P4 RA R4 D4
      generalize putL nm bs ds = D at *
      go_wp2_with fail
      go_roundw
      case rel => exact ⟨j + 1, D, f5, by omega, by have := HM2.out; congr 1; omega, by omega, O5.out, M5.out, D5.out⟩
      case measure => simp [intOf] <;> omega
    · have hN : N - j = 0 := by omega
      rw [hN]
      have HO := Lib.hid ho; have HM := Lib.hid hm; have HD := Lib.hid (hd.lift (show 1 + 11 * j ≤ 190 by omega))
      have hsm2 : ds.length + thSum ds ≤ 100 := by omega
      clear ho hm hd hN O1 D1 hsm
      cases ds with
      | nil =>
        obtain ⟨ga, hra, hma⟩ := HO.out.readsMine HM.out
        have RA := Lib.hid hra; have MA := Lib.hid hma.from_
        clear hma
        obtain ⟨A5, c5, rfl, -⟩ := HO.out.length
        clear hra
        have hl0 : ([] : List Th).length = 0 := rfl
        rw [hl0] at RA
        go_wp2_with fail
        go_ret
        exact ⟨_, ga, [], rfl, RA.out, by simp [thSum], MA.out, HD.out.lift (by omega)⟩
      | cons d r =>
        obtain ⟨A5, c5, rfl, -⟩ := HO.out.length
        have hl0 : (d :: r).length = r.length + 1 := rfl
        rw [hl0] at HO
        obtain ⟨n, hn⟩ : ∃ n, r.length + 1 = n := ⟨_, rfl⟩
        rw [hl0, hn]
        rw [hn] at HO
        have hn0 : 0 < n := by omega
        have hnI : (0 : Int) < (n : Nat) := by omega
        have hn9 : n ≤ 1000 := by simp at hsm2; omega
        have HN := Lib.hid hn
        clear hn hl0
        go_wp2_with fail
        refine (l1Chance_c b code gs 190 6 _ HD.out.src (by omega) (by omega) (by omega) hc).mono ?_
        rintro e w2 ⟨c1, rfl, hd2⟩
        have P2 := Lib.hid (OwnL.drawn rTh.local_ rTh.fixed HO.out HM.out hd2 hblt)
        have D2 := Lib.hid (HD.out.trans hd2)
        clear hd2 HO HM HD
        have HSM0 := Lib.hid hsm2
        clear hsm2
        cases c1 with
        | false =>
          go_wp2_with fail
          have P3 := P2
          have D3 := Lib.hid (D2.out.lift (show _ ≤ 192 by omega))
          have HSM := HSM0
          have HL := Lib.hid (show (d :: r).length = r.length + 1 from rfl)
          clear P2 D2 HSM0
          obtain ⟨DD, hDD⟩ : ∃ DD, d = DD := ⟨_, rfl⟩
          rw [hDD] at P3 HSM HL
          clear hDD
          refine (l1Chance_c b code gs 192 8 _ D3.out.src (by omega) (by omega) (by omega) hc).mono ?_
          rintro e w4 ⟨c2, rfl, hd4⟩
          have P4 := Lib.hid (OwnL.drawn rTh.local_ rTh.fixed P3.out.1 P3.out.2 hd4 hblt)
          have D4 := Lib.hid (D3.out.trans hd4)
          clear hd4 P3 D3
          cases c2 with
          | false =>
            obtain ⟨ga, hra, hma⟩ := P4.out.1.readsMine P4.out.2
            have RA := Lib.hid hra; have MA := Lib.hid hma.from_
            clear hra hma
            go_wp2_with fail
            go_ret
            exact ⟨_, ga, _, rfl, RA.out, by have := HSM.out; omega, MA.out, D4.out.lift (by omega)⟩
          | true =>
            obtain ⟨g, c, v0, f0, e5, hg, -, -, k0, k1, k2, z1, zg, hr0, hf0, hns, hgf, -⟩ := P4.out.1.head
            injection e5 with e51 e52 e53
            subst e51 e53
            obtain ⟨A0, c0, rfl, -⟩ := hr0.form
            have HR0 := Lib.hid hr0
            have hF0 := Lib.hid hf0
            have hGF := Lib.hid hgf
            have hNS := Lib.hid hns
            have K0 := Lib.hid k0; have K1 := Lib.hid k1; have K2 := Lib.hid k2
            clear hr0 hf0 hgf hns e52 z1
            have hba : Below w4.heap.size w4 (w4.alloc (.cells #[.string DD.name, .bool DD.lost, .slice A0 DD.bytes.length c0] 55)) := belowA (Below.refl _ _)
            have HA := Lib.hid (OwnL.appendOne (P := Try.prog) 45 45 (.agg #[.string ⟨#[]⟩, .bool false, .slice none 0 0]) 48 Try.underlying45 Try.infoThing rfl (by decide) rTh.local_ rTh.fixed rTh_one w.heap.size _ _ _ (P4.out.1.below rTh.local_ rTh.fixed hba) w4.heap.size [.string DD.name, .bool DD.lost, .slice A0 DD.bytes.length c0] f0 DD rfl (Blk.new _ _ _) ⟨_, rfl, hNS.out, rBytes.below HR0.out hba⟩ (fun a ha e => by injection e with e; exact hGF.out a (hF0.out a ha) e.symm) (by have := HL.out; have := HN.out; omega) (by omega) (by have := D4.out.grown.size; simp; omega))
            have DA := Lib.hid (D4.out.more hba)
            clear hba
            have k0 := K0.out; have k1 := K1.out; have k2 := K2.out
            go_wp2_with (at_builtin; refine wpList_append_of rfl (.tmp 37) (.tmp 41) 45 rfl _ _ rfl rfl HA.out ?_; rintro v6 w6 ⟨hs, o6, s6, g6, -⟩)
            obtain ⟨gz, hrz, -, -, -, hgz, -⟩ := o6.reads
            have RZ := Lib.hid hrz
            have MZ := Lib.hid (show ∀ a, a ∈ gz ++ (fo ++ hs) → w.heap.size ≤ a.block from fun a ha => by
              rcases List.mem_append.1 ha with ha | ha
              · exact hgz a ha
              · rcases List.mem_append.1 ha with ha | ha
                · exact P4.out.2.from_ a ha
                · exact P4.out.2.from_ a (hF0.out a (s6.subset ha)))
            have D6 := Lib.hid (DA.out.row g6 (fun q hq => (P4.out.1.lt q hq).1) hblt HT.out)
            clear o6 s6 g6 hrz k0 k1 k2
            go_wp2_with fail
            go_ret
            refine ⟨_, _, _, rfl, RZ.out, ?_, MZ.out, D6.out.lift (by omega)⟩
            have := HSM.out
            rw [thSum_append]
            simp only [List.length_append, thSum, List.length_cons, List.length_nil] at this ⊢
            omega
        | true =>
          obtain ⟨g, c, v0, f0, e5, hg, -, -, k0, k1, k2, z1, zg, hr0, hf0, hns, hgf, hst⟩ := P2.out.1.head
          injection e5 with e51 e52 e53
          subst e51 e53
          have HST := Lib.hid (hst true)
          clear hr0 hf0 hns hgf e52 k0 k2 hst
          go_wp2_with fail
          have P3 := Lib.hid (show OwnL 3 55 rTh (w2.setCell ⟨g, 1, none⟩ (.bool true)) w.heap.size _ (⟨d.name, true, d.bytes⟩ :: r) fo ∧ Mine w.heap.size (w2.setCell ⟨g, 1, none⟩ (.bool true)) fo from ⟨HST.out, P2.out.2.set_ _ _⟩)
          have D3 := Lib.hid ((D2.out.row (w'' := w2.setCell ⟨g, 1, none⟩ (.bool true)) (row := some g) ⟨rfl, rfl, rfl, by simp [World.setCell], fun q hq hne => Below.heap_setCell w2 _ _ q (fun e => hne (by rw [e]))⟩ (fun q hq => by injection hq with hq; omega) hblt HT.out).lift (show _ ≤ 192 by omega))
          have HSM := Lib.hid (show ((⟨d.name, true, d.bytes⟩ : Th) :: r).length + thSum (⟨d.name, true, d.bytes⟩ :: r) ≤ 100 from HSM0.out)
          have HL := Lib.hid (show ((⟨d.name, true, d.bytes⟩ : Th) :: r).length = r.length + 1 from rfl)
          clear P2 D2 HSM0 HST k1 z1 zg hg
          obtain ⟨w3, hw3⟩ : ∃ w3, w2.setCell ⟨g, 1, none⟩ (.bool true) = w3 := ⟨_, rfl⟩
          obtain ⟨DD, hDD⟩ : ∃ DD : Th, ⟨d.name, true, d.bytes⟩ = DD := ⟨_, rfl⟩
          rw [hw3] at P3 D3 ⊢
          rw [hDD] at P3 HSM HL
          clear hw3 hDD
          refine (l1Chance_c b code gs 192 8 _ D3.out.src (by omega) (by omega) (by omega) hc).mono ?_
          rintro e w4 ⟨c2, rfl, hd4⟩
          have P4 := Lib.hid (OwnL.drawn rTh.local_ rTh.fixed P3.out.1 P3.out.2 hd4 hblt)
          have D4 := Lib.hid (D3.out.trans hd4)
          clear hd4 P3 D3
          cases c2 with
          | false =>
            obtain ⟨ga, hra, hma⟩ := P4.out.1.readsMine P4.out.2
            have RA := Lib.hid hra; have MA := Lib.hid hma.from_
            clear hra hma
            go_wp2_with fail
            go_ret
            exact ⟨_, ga, _, rfl, RA.out, by have := HSM.out; omega, MA.out, D4.out.lift (by omega)⟩
          | true =>
            obtain ⟨g, c, v0, f0, e5, hg, -, -, k0, k1, k2, z1, zg, hr0, hf0, hns, hgf, -⟩ := P4.out.1.head
            injection e5 with e51 e52 e53
            injection e51 with e51
            injection e51 with e51
            subst e51 e53
            obtain ⟨A0, c0, rfl, -⟩ := hr0.form
            have HR0 := Lib.hid hr0
            have hF0 := Lib.hid hf0
            have hGF := Lib.hid hgf
            have hNS := Lib.hid hns
            have K0 := Lib.hid k0; have K1 := Lib.hid k1; have K2 := Lib.hid k2
            clear hr0 hf0 hgf hns e52 z1
            have hba : Below w4.heap.size w4 (w4.alloc (.cells #[.string DD.name, .bool DD.lost, .slice A0 DD.bytes.length c0] 55)) := belowA (Below.refl _ _)
            have HA := Lib.hid (OwnL.appendOne (P := Try.prog) 45 45 (.agg #[.string ⟨#[]⟩, .bool false, .slice none 0 0]) 48 Try.underlying45 Try.infoThing rfl (by decide) rTh.local_ rTh.fixed rTh_one w.heap.size _ _ _ (P4.out.1.below rTh.local_ rTh.fixed hba) w4.heap.size [.string DD.name, .bool DD.lost, .slice A0 DD.bytes.length c0] f0 DD rfl (Blk.new _ _ _) ⟨_, rfl, hNS.out, rBytes.below HR0.out hba⟩ (fun a ha e => by injection e with e; exact hGF.out a (hF0.out a ha) e.symm) (by have := HL.out; have := HN.out; omega) (by omega) (by have := D4.out.grown.size; simp; omega))
            have DA := Lib.hid (D4.out.more hba)
            clear hba
            have k0 := K0.out; have k1 := K1.out; have k2 := K2.out
            go_wp2_with (at_builtin; refine wpList_append_of rfl (.tmp 37) (.tmp 41) 45 rfl _ _ rfl rfl HA.out ?_; rintro v6 w6 ⟨hs, o6, s6, g6, -⟩)
            obtain ⟨gz, hrz, -, -, -, hgz, -⟩ := o6.reads
            have RZ := Lib.hid hrz
            have MZ := Lib.hid (show ∀ a, a ∈ gz ++ (fo ++ hs) → w.heap.size ≤ a.block from fun a ha => by
              rcases List.mem_append.1 ha with ha | ha
              · exact hgz a ha
              · rcases List.mem_append.1 ha with ha | ha
                · exact P4.out.2.from_ a ha
                · exact P4.out.2.from_ a (hF0.out a (s6.subset ha)))
            have D6 := Lib.hid (DA.out.row g6 (fun q hq => (P4.out.1.lt q hq).1) hblt HT.out)
            clear o6 s6 g6 hrz k0 k1 k2
            go_wp2_with fail
            go_ret
            refine ⟨_, _, _, rfl, RZ.out, ?_, MZ.out, D6.out.lift (by omega)⟩
            have := HSM.out
            rw [thSum_append]
            simp only [List.length_append, thSum, List.length_cons, List.length_nil] at this ⊢
            omega

/-- What DrawPutThing answers. -/
def drawPutPost (w : World) (e : Ending) (w' : World) : Prop :=
  ∃ v f ds nm v2 f2 bs, e = .returned (.tuple #[v, .string nm, v2]) ∧ rThs w' f v ds ∧ ds.length + thSum ds ≤ 1000 ∧ nm.size ≤ 3 ∧ rBytes w' f2 v2 bs ∧ bs.length ≤ 3 ∧ Below w.heap.size w w'

set_option maxHeartbeats 2000000 in
theorem drawPut_c (v : Value) (code : List UInt8) (fs : List Addr) (w : World) (h1 : rBytes w fs v code) (hc : code.length ≤ 1048576) :
    Calls Try.prog 37 #[v] w (drawPutPost w) := by
  have H1 := Lib.hid h1
  obtain ⟨A1, c1, rfl, -⟩ := h1.form
  clear h1
  go_enter Try.func37, Try.ntmps37
  go_wp2_with fail
  refine (l1Source_c _ code fs w H1.out).mono ?_
  rintro e w1 ⟨rfl, hs, hb1⟩
  have HS := Lib.hid hs; have B1 := Lib.hid hb1
  clear hs hb1
  go_wp2_with fail
  refine (l13Things_c _ code fs w1 HS.out hc).mono ?_
  rintro e w2 ⟨v2, f2, ds, rfl, hr2, hsm, hf2, hd2⟩
  have hblt := HS.out.lt
  have HR2 := Lib.hid hr2; have D2 := Lib.hid hd2; have HF2 := Lib.hid (show ∀ a, a ∈ f2 → some a.block ≠ some w.heap.size from fun a ha e => by injection e with e; have := hf2 a ha; omega)
  clear hr2 hd2 hf2
  go_wp2_with fail
  refine (l4Name_c _ code fs 200 w2 D2.out.src (by omega) hc).mono ?_
  rintro e w3 ⟨nm, rfl, hnm, hd3⟩
  have HR3 := Lib.hid (rSl.keep rTh.local_ HR2.out (fun a ha => hd3.grown.cell_far a (rSl.there rTh.fixed HR2.out a ha) (HF2.out a ha)))
  have D3 := Lib.hid (D2.out.trans hd3)
  clear hd3 HR2
  go_wp2_with fail
  refine (l1Next_c _ code fs 201 4 w3 D3.out.src (by omega) (by omega) (by omega) hc).mono ?_
  rintro e w4 ⟨r, rfl, a0, a1, hd4⟩
  have HR4 := Lib.hid (rSl.keep rTh.local_ HR3.out (fun a ha => hd4.grown.cell_far a (rSl.there rTh.fixed HR3.out a ha) (HF2.out a ha)))
  have D4 := Lib.hid (D3.out.trans hd4)
  clear hd4 HR3
  go_wp2_with fail
  refine (l1Some_c _ code fs 202 r w4 D4.out.src (by omega) a0 (by omega) hc).mono ?_
  rintro e w5 ⟨v5, f5, bs, rfl, h5, hl5, -, hd5⟩
  have HR5 := Lib.hid (rSl.keep rTh.local_ HR4.out (fun a ha => hd5.grown.cell_far a (rSl.there rTh.fixed HR4.out a ha) (HF2.out a ha)))
  have D5 := Lib.hid (D4.out.trans hd5)
  have H5 := Lib.hid h5
  have hbl : bs.length ≤ 3 := by omega
  clear hd5 HR4 h5 hl5
  go_wp2_with fail
  go_ret3
  exact ⟨v2, f2, ds, nm, v5, f5, bs, rfl, HR5.out, hsm, hnm, H5.out, hbl, B1.out.trans (D5.out.below (Nat.le_refl _) B1.out.size)⟩

end Go.Proofs.Ytimabbleijkmhaa
