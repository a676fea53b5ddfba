/-
  PutThing of the reference: what the call does.
-/
import Derived.Test.YtimabbleijkmhaaPut
import Derived.Deep.RegionHeld3
namespace Go.Proofs.Ytimabbleijkmhaa
open Go.RowKit Go.Sort

def putPostO (nm : ByteArray) (bs : List UInt8) (ds : List Th) (w : World) (e : Ending) (w' : World) : Prop :=
  ∃ v fs, e = .returned v ∧ OwnL 3 55 rTh w' w.heap.size v (putL nm bs ds) fs ∧ Mine w.heap.size w' fs ∧ Below w.heap.size w w'
theorem Blk.drew_ {w : World} {g : Nat} {t : TypeId} {cs : Array Value} (h : Blk w g t cs) : Blk w.drew g t cs := h
theorem OwnL.alloc_ {α : Type} {k : Nat} {E : TypeId} {R : Repr α} (hR : Local R) (hF : Fixed R) {w : World} {base : Nat} {v : Value} {ds : List α} {fs : List Addr} {o : Obj} (h : OwnL k E R w base v ds fs) : OwnL k E R (w.alloc o) base v ds fs := h.below hR hF ((Below.refl _ _).alloc (Nat.le_refl _) _)
theorem OwnL.drew_ {α : Type} {k : Nat} {E : TypeId} {R : Repr α} (hR : Local R) {w : World} {base : Nat} {v : Value} {ds : List α} {fs : List Addr} (h : OwnL k E R w base v ds fs) : OwnL k E R w.drew base v ds fs := h.keep hR (fun _ _ => rfl) (fun _ _ => rfl)
theorem belowAlloc {w W : World} (h : Below w.heap.size w W) (o : Obj) : Below w.heap.size w (W.alloc o) := h.alloc h.size o
theorem belowDrew {w W : World} (h : Below w.heap.size w W) : Below w.heap.size w W.drew := ⟨h.os, h.tape, h.output, h.size, h.block⟩

set_option maxHeartbeats 1000000 in
set_option maxRecDepth 100000 in
theorem specPutThingO_c (v : Value) (ds : List Th) (nm : ByteArray) (v2 : Value) (bs : List UInt8) (fs f2 : List Addr) (w : World) (h1 : rThs w fs v ds) (h2 : rBytes w f2 v2 bs) (hsm : ds.length + thSum ds ≤ 1048576) (hbs : bs.length ≤ 1048576) (hnm : nm.size ≤ 1048576) :
    Calls Try.prog 39 #[v, .string nm, v2] w (putPostO nm bs ds w) := by
  have H1 := Lib.hid h1; have H2 := Lib.hid h2
  obtain ⟨A1, c1, rfl, hc1, hm1, hx⟩ := rThs.open_ h1
  obtain ⟨A2, c2, rfl, -⟩ := h2.form
  clear h1 h2 hx
  go_enter Try.func39, Try.ntmps39
  go_wp2_with fail
  refine (specDropThing_c _ ds nm fs _ H1.out hsm).mono ?_
  rintro e w1 ⟨v3, rfl, hown, hb1⟩
  obtain ⟨fo, hO, hMn, hfM, hvM⟩ := hown.own (fun d hd => names_small (show thSum ds ≤ 1048576 by omega) d (List.mem_filter.1 hd).1)
  obtain ⟨gr, hrd, hmd⟩ := hO.readsMine hMn
  have hDl : (dropF nm ds).length ≤ 1048576 := by have := dropF_length nm ds; omega
  obtain ⟨A3, c3, rfl, hc3, hm3⟩ := hO.length
  have B1 := Lib.hid hb1; have HRD := Lib.hid hrd; have HMD := Lib.hid hmd
  clear hO hMn hfM hvM hb1 hown hrd hmd
  have hal := putAt_le nm (dropF nm ds)
  generalize hD : dropF nm ds = D at *
  have HD := Lib.hid hD; clear hD
  have HR2 := Lib.hid (freshBytes (P := Try.prog) 22 22 5 Try.underlying22 Try.info5 (H2.out.below B1.out) (show bs.length ≤ 1000000000 by omega))
  go_wp2_with (at_builtin; refine wpList_append_of rfl (.tmp 14) (.tmp 15) 22 rfl (.slice (some ⟨w1.heap.size, 0, none⟩) 0 0) (.slice A2 bs.length c2) rfl rfl HR2.out ?_; rintro v4 w3 ⟨f4, hr4, hm4, hb4⟩; obtain ⟨A4, c4, rfl, -⟩ := rBytes.form hr4)
  have hba : Below w3.heap.size w3 (w3.alloc (.cells #[.string nm, .bool false, .slice A4 bs.length c4] 55)) := (Below.refl _ _).alloc (Nat.le_refl _) _
  have HK := Lib.hid (Blk.new w3 55 #[.string nm, .bool false, .slice A4 bs.length c4])
  have HR4 := Lib.hid (rBytes.below hr4 hba)
  have HM4 := Lib.hid (hm4.wrote (Wrote.of_below (fs := []) hba) (rSl.there rByte.fixed hr4))
  have b14 := hb4.trans (hba.mono hb4.size)
  have HRD4 := Lib.hid (rThs.below HRD.out b14)
  have HMD4 := Lib.hid (HMD.out.wrote (Wrote.of_below (fs := []) b14) (rSl.there rTh.fixed HRD.out))
  have HTD := Lib.hid (rSl.there rTh.fixed HRD.out)
  have B4 := Lib.hid (B1.out.trans (b14.mono B1.out.size))
  have HS3 := Lib.hid hb4.size
  have HT4 := Lib.hid (rSl.there rByte.fixed hr4)
  obtain ⟨w4, hw4⟩ : ∃ w4, w3.alloc (.cells #[.string nm, .bool false, .slice A4 bs.length c4] 55) = w4 := ⟨_, rfl⟩
  obtain ⟨g3, hg3⟩ : ∃ g3, w3.heap.size = g3 := ⟨_, rfl⟩
  rw [hw4] at HK HR4 HM4 HRD4 HMD4 B4 ⊢
  rw [hg3] at HK HS3 ⊢
  clear hw4 hg3 hba b14 hr4 hm4 hb4 HRD HMD HR2 H1 H2
  obtain ⟨A5, c5, e5, -, -, hx⟩ := rThs.open_ HRD4.out
  injection e5 with e51 e52 e53
  subst e51 e53
  clear e52
  have HX := Lib.hid hx; clear hx
  go_loop [9] (fun i => ∃ j : Nat, j ≤ putAt nm D ∧ i = .int .i64 j) (fun i => D.length - (intOf i).toNat)
  case atStart => exact ⟨0, by omega, rfl⟩
  case round =>
    obtain ⟨j, hj, rfl⟩ := hrel
    by_cases hlt : j < putAt nm D
    · obtain ⟨hlt2, hle⟩ := putAt_lt nm D j hlt
      obtain ⟨ad, A6, c6, fk, e1, b0, ⟨g0, g1, g2⟩, -⟩ := HX.out j hlt2
      subst e1
      have HLE := Lib.hid hle
      clear hle HX
      rcases leN_parts D[j].name nm with ⟨h1, h2⟩ | ⟨h1, h3, h2⟩ | ⟨h1, h3, h2⟩
      · clear h2
        go_wp2_with fail
        go_round
        case rel => exact ⟨j + 1, by omega, by go_num⟩
        case measure => simp [intOf]; omega
      · clear h2
        go_wp2_with fail
        go_round
        case rel => exact ⟨j + 1, by omega, by go_num⟩
        case measure => simp [intOf]; omega
      · rw [HLE.out] at h2
        cases h2
    · obtain rfl : j = putAt nm D := by omega
      obtain ⟨q1, q2, hl, hr, hp⟩ := rSl.split HRD4.out hal
      have hgr : ∀ a, a ∈ q1 ++ q2 → a.block < w4.heap.size := fun a ha => by have := HTD.out a (hp.mem_iff.1 ha); have := HS3.out; have := HK.out.lt; omega
      have HL := Lib.hid hl; have HR := Lib.hid hr; have HP := Lib.hid hp; have HGR := Lib.hid hgr
      clear hl hr hp hgr
      have HKS := Lib.hid (show ∀ W, Below w4.heap.size w4 W → (W.cell? ⟨g3, 0, none⟩ = some (.string nm) ∧ W.cell? ⟨g3, 1, none⟩ = some (.bool false) ∧ W.cell? ⟨g3, 2, none⟩ = some (.slice A4 bs.length c4) ∧ Below w4.heap.size w4 W) from fun W hW =>
        have hk := HK.out.below hW HK.out.lt
        ⟨(hk.cell 0).trans rfl, (hk.cell 1).trans rfl, (hk.cell 2).trans rfl, hW⟩)
      have HA1 := Lib.hid (show ∀ (W : World) (b : Nat), Below w4.heap.size w4 W → Blk W b 55 #[] → w4.heap.size ≤ b → ∃ v' w', (Builtin.append_ #[45, 45] 45 #[.slice (some ⟨b, 0, none⟩) 0 0, .slice A3 (putAt nm D) c3]).run Try.prog W = .ok v' w' ∧ Appended 3 55 rTh w4.heap.size W (some b) (D.take (putAt nm D)) [] q1 v' w' from fun W b hW hb hle => by
        have := OwnL.appendRun (P := Try.prog) 45 45 (.agg #[.string ⟨#[]⟩, .bool false, .slice none 0 0]) 48 Try.underlying45 Try.infoThing rfl (by decide) rTh.local_ rTh.fixed rTh_one w4.heap.size (.slice (some ⟨b, 0, none⟩) 0 0) [] [] (OwnL.start ⟨rfl, .inr ⟨b, 0, #[], rfl, hle, hb, Nat.le_refl _, by unfold maxLen; omega, rfl, rfl⟩⟩) _ (D.take (putAt nm D)) q1 (rThs.below HL.out hW) (fun a ha e => by
          simp [Value.ownBlock] at e
          have := HGR.out a (List.mem_append_left _ ha)
          omega) (by simp; omega) (by omega) hW.size
        exact this)
      have HA2 := Lib.hid (show ∀ (W : World) (v : Value) (h1 : List Addr) (b : Nat), Below w4.heap.size w4 W → OwnL 3 55 rTh W w4.heap.size v (D.take (putAt nm D)) h1 → Blk W b 55 #[.string nm, .bool false, .slice A4 bs.length c4] → ∃ v' w', (Builtin.append_ #[45, 45] 45 #[v, .slice (some ⟨b, 0, none⟩) 1 1]).run Try.prog W = .ok v' w' ∧ Appended 3 55 rTh w4.heap.size W v.ownBlock (D.take (putAt nm D) ++ [⟨nm, false, bs⟩]) h1 f4 v' w' from fun W v h1 b hW ho hb =>
        OwnL.appendOne (P := Try.prog) 45 45 (.agg #[.string ⟨#[]⟩, .bool false, .slice none 0 0]) 48 Try.underlying45 Try.infoThing rfl (by decide) rTh.local_ rTh.fixed rTh_one w4.heap.size v _ h1 ho b [.string nm, .bool false, .slice A4 bs.length c4] f4 ⟨nm, false, bs⟩ rfl hb ⟨_, rfl, by simp only; omega, rBytes.below HR4.out hW⟩ (fun a ha e => by
          have := (ho.lt _ e).1
          have := rSl.there rByte.fixed HR4.out a ha
          omega) (by simp; omega) (by omega) hW.size)
      have HA3 := Lib.hid (show ∀ (W : World) (v : Value) (h1 : List Addr), Below w4.heap.size w4 W → OwnL 3 55 rTh W w4.heap.size v (D.take (putAt nm D) ++ [⟨nm, false, bs⟩]) h1 → ∃ v' w', (Builtin.append_ #[45, 45] 45 #[v, .slice (if c3 = putAt nm D then A3 else A3.map (fun x => x.add (putAt nm D * 3))) (D.length - putAt nm D) (c3 - putAt nm D)]).run Try.prog W = .ok v' w' ∧ Appended 3 55 rTh w4.heap.size W v.ownBlock (D.take (putAt nm D) ++ [⟨nm, false, bs⟩] ++ D.drop (putAt nm D)) h1 q2 v' w' from fun W v h1 hW ho =>
        OwnL.appendRun (P := Try.prog) 45 45 (.agg #[.string ⟨#[]⟩, .bool false, .slice none 0 0]) 48 Try.underlying45 Try.infoThing rfl (by decide) rTh.local_ rTh.fixed rTh_one w4.heap.size v _ h1 ho _ (D.drop (putAt nm D)) q2 (rThs.below HR.out hW) (fun a ha e => by
          have := (ho.lt _ e).1
          have := HGR.out a (List.mem_append_right _ ha)
          omega) (by simp; omega) (by omega) hW.size)
      have HFIN := Lib.hid (show ∀ (v' : Value) (W : World) (h1 h2 h3 : List Addr), OwnL 3 55 rTh W w4.heap.size v' (D.take (putAt nm D) ++ [⟨nm, false, bs⟩] ++ D.drop (putAt nm D)) ((h1 ++ h2) ++ h3) → h1.Sublist q1 → h2.Sublist f4 → h3.Sublist q2 → Below w4.heap.size w4 W → putPostO nm bs ds w (.returned v') W from fun v' W h1 h2 h3 ho s1 s2 s3 hW => by
        have hnd : (q1 ++ q2).Nodup := HP.out.nodup_iff.2 HMD4.out.nodup
        have hlt : ∀ a, a ∈ (h1 ++ h2) ++ h3 → (a ∈ q1 ++ q2 ∨ a ∈ f4) := by
          intro a ha
          simp only [List.mem_append] at ha ⊢
          rcases ha with (ha | ha) | ha
          · exact .inl (.inl (s1.subset ha))
          · exact .inr (s2.subset ha)
          · exact .inl (.inr (s3.subset ha))
        have hf4 := rSl.there rByte.fixed HR4.out
        have hm : Mine w.heap.size W ((h1 ++ h2) ++ h3) := by
          refine ⟨?_, fun a ha => ?_, fun a ha => ?_⟩
          · have hp : ((h1 ++ h3) ++ h2).Perm ((h1 ++ h2) ++ h3) := by
              rw [List.append_assoc, List.append_assoc]
              exact List.Perm.append_left _ List.perm_append_comm
            refine hp.nodup_iff.1 ?_
            unfold List.Nodup
            refine List.pairwise_append.2 ⟨(s1.append s3).nodup hnd, s2.nodup HM4.out.nodup, fun a ha b hb e => ?_⟩
            subst e
            have ha2 : a ∈ q1 ++ q2 := (s1.append s3).subset ha
            have := HTD.out a (HP.out.mem_iff.1 ha2)
            have := HM4.out.from_ a (s2.subset hb)
            omega
          · rcases hlt a ha with h | h
            · exact HMD4.out.from_ a (HP.out.mem_iff.1 h)
            · have := HM4.out.from_ a h
              have := B1.out.size
              omega
          · rcases hlt a ha with h | h
            · rw [hW.frozen (HGR.out a h)]; exact HMD4.out.free a (HP.out.mem_iff.1 h)
            · rw [hW.frozen (hf4 a h)]; exact HM4.out.free a h
        have hle : w.heap.size ≤ w4.heap.size := B4.out.size
        have ho2 : OwnL 3 55 rTh W w.heap.size v' (D.take (putAt nm D) ++ [⟨nm, false, bs⟩] ++ D.drop (putAt nm D)) ((h1 ++ h2) ++ h3) := ho.mono hle
        refine ⟨v', _, rfl, ?_, hm, B4.out.trans (hW.mono hle)⟩
        have e1 : putL nm bs ds = D.take (putAt nm D) ++ ⟨nm, false, bs⟩ :: D.drop (putAt nm D) := by unfold putL; rw [HD.out]
        rw [e1]
        simpa using ho2)
      have hP1 : (0 : Int) ≤ (putAt nm D : Nat) := by omega
      have hP2 : ((putAt nm D : Nat) : Int) ≤ (D.length : Nat) := by omega
      have hP3 : ((putAt nm D : Nat) : Int) ≤ (c3 : Nat) := by omega
      have hP4 : putAt nm D ≤ c3 := by omega
      have hw4 : Below w4.heap.size w4 w4 := Below.refl _ _
      clear HL HR HP HGR HMD4 HTD HRD4 HM4 HR4 HT4 HD
      rcases Nat.lt_or_ge (putAt nm D) D.length with hlt2 | hge2
      · obtain ⟨ad, A6, c6, fk, e1, b0, ⟨g0, g1, g2⟩, -⟩ := HX.out _ hlt2
        subst e1
        have hle := putAt_at nm D hlt2
        rcases leN_parts D[putAt nm D].name nm with ⟨h1, h2⟩ | ⟨h1, h3, h2⟩ | ⟨h1, h3, h2⟩
        · rw [hle] at h2; cases h2
        · rw [hle] at h2; cases h2
        · clear h2 hle HX
          go_wp2_with fail
          go_region_held3 (fun w' => w'.cell? ⟨g3, 0, none⟩ = some (.string nm) ∧ w'.cell? ⟨g3, 1, none⟩ = some (.bool false) ∧ w'.cell? ⟨g3, 2, none⟩ = some (.slice A4 bs.length c4) ∧ Below w4.heap.size w4 w') (exact HKS.out _ (by repeat (with_reducible first | assumption | exact Below.refl _ _ | apply belowAlloc | apply belowDrew)))
          (first
            | (refine step_append_of rfl (.tmp 33) (.tmp 36) 45 rfl _ _ (by rfl) (by rfl) (HA1.out _ _ (by repeat (with_reducible first | assumption | exact Below.refl _ _ | apply belowAlloc | apply belowDrew)) (by repeat (with_reducible first | exact Blk.new _ _ _ | exact Blk.new1 _ _ _ _ | apply Blk.drew_ | apply Blk.alloc)) (by simp)) ?_; rintro v7 w7 ⟨h1, o1, s1, r1, -⟩; have B7 := Below.grown (show Below w4.heap.size w4 _ by repeat (with_reducible first | assumption | exact Below.refl _ _ | apply belowAlloc | apply belowDrew)) r1 (by simp <;> omega) (fun k hk => by injection hk with hk; omega))
            | (refine step_append_of rfl (.tmp 37) (.tmp 39) 45 rfl _ _ (by rfl) (by rfl) (HA2.out _ v7 ([] ++ h1) _ (by repeat (with_reducible first | assumption | exact Below.refl _ _ | apply belowAlloc | apply belowDrew)) (by repeat (with_reducible first | exact o1 | apply OwnL.alloc_ rTh.local_ rTh.fixed | apply OwnL.drew_ rTh.local_)) (by first | (with_reducible exact Blk.new _ _ _) | (refine Blk.grown ?_ r1 (by simp); repeat (with_reducible first | exact Blk.new _ _ _ | exact Blk.new1 _ _ _ _ | apply Blk.drew_ | apply Blk.alloc)))) ?_; rintro v8 w8 ⟨h2, o2, s2, r2, -⟩; have B8 := Below.grown (show Below w4.heap.size w4 _ by repeat (with_reducible first | assumption | exact Below.refl _ _ | apply belowAlloc | apply belowDrew)) r2 (by first | exact B7.size | (simp; have := B7.size; omega)) (fun k hk => (o1.lt k hk).1))
            | (refine step_append_of rfl (.tmp 40) (.tmp 43) 45 rfl _ _ (by rfl) (by rfl) (HA3.out _ v8 ([] ++ h1 ++ h2) B8 o2) ?_; rintro v9 w9 ⟨h3, o3, s3, r3, -⟩; have B9 := Below.grown B8 r3 B8.size (fun k hk => (o2.lt k hk).1)))
          all_goals
            go_wp2_with fail
            go_ret
            exact HFIN.out v9 w9 h1 h2 h3 o3 s1 s2 s3 B9
      · have hPn : ¬ putAt nm D < D.length := by omega
        have hPi : ¬ ((putAt nm D : Nat) : Int) < ((D.length : Nat) : Int) := by omega
        have HA3z := HA3.out
        rw [show D.length - putAt nm D = 0 by omega] at HA3z
        have HA3 := Lib.hid HA3z
        clear HX HA3z
        go_wp2_with fail
        go_region_held3 (fun w' => w'.cell? ⟨g3, 0, none⟩ = some (.string nm) ∧ w'.cell? ⟨g3, 1, none⟩ = some (.bool false) ∧ w'.cell? ⟨g3, 2, none⟩ = some (.slice A4 bs.length c4) ∧ Below w4.heap.size w4 w') (exact HKS.out _ (by repeat (with_reducible first | assumption | exact Below.refl _ _ | apply belowAlloc | apply belowDrew)))
        (first
          | (refine step_append_of rfl (.tmp 33) (.tmp 36) 45 rfl _ _ (by rfl) (by rfl) (HA1.out _ _ (by repeat (with_reducible first | assumption | exact Below.refl _ _ | apply belowAlloc | apply belowDrew)) (by repeat (with_reducible first | exact Blk.new _ _ _ | exact Blk.new1 _ _ _ _ | apply Blk.drew_ | apply Blk.alloc)) (by simp)) ?_; rintro v7 w7 ⟨h1, o1, s1, r1, -⟩; have B7 := Below.grown (show Below w4.heap.size w4 _ by repeat (with_reducible first | assumption | exact Below.refl _ _ | apply belowAlloc | apply belowDrew)) r1 (by simp <;> omega) (fun k hk => by injection hk with hk; omega))
          | (refine step_append_of rfl (.tmp 37) (.tmp 39) 45 rfl _ _ (by rfl) (by rfl) (HA2.out _ v7 ([] ++ h1) _ (by repeat (with_reducible first | assumption | exact Below.refl _ _ | apply belowAlloc | apply belowDrew)) (by repeat (with_reducible first | exact o1 | apply OwnL.alloc_ rTh.local_ rTh.fixed | apply OwnL.drew_ rTh.local_)) (by first | (with_reducible exact Blk.new _ _ _) | (refine Blk.grown ?_ r1 (by simp); repeat (with_reducible first | exact Blk.new _ _ _ | exact Blk.new1 _ _ _ _ | apply Blk.drew_ | apply Blk.alloc)))) ?_; rintro v8 w8 ⟨h2, o2, s2, r2, -⟩; have B8 := Below.grown (show Below w4.heap.size w4 _ by repeat (with_reducible first | assumption | exact Below.refl _ _ | apply belowAlloc | apply belowDrew)) r2 (by first | exact B7.size | (simp; have := B7.size; omega)) (fun k hk => (o1.lt k hk).1))
          | (refine step_append_of rfl (.tmp 40) (.tmp 43) 45 rfl _ _ (by rfl) (by rfl) (HA3.out _ v8 ([] ++ h1 ++ h2) B8 o2) ?_; rintro v9 w9 ⟨h3, o3, s3, r3, -⟩; have B9 := Below.grown B8 r3 B8.size (fun k hk => (o2.lt k hk).1)))
        all_goals go_wp2_with fail
        all_goals
          go_ret
          exact HFIN.out v9 w9 h1 h2 h3 o3 s1 s2 s3 B9

theorem specPutThing_c (v : Value) (ds : List Th) (nm : ByteArray) (v2 : Value) (bs : List UInt8) (fs f2 : List Addr) (w : World) (h1 : rThs w fs v ds) (h2 : rBytes w f2 v2 bs) (hsm : ds.length + thSum ds ≤ 1048576) (hbs : bs.length ≤ 1048576) (hnm : nm.size ≤ 1048576) :
    Calls Try.prog 39 #[v, .string nm, v2] w (putPost nm bs ds w) :=
  (specPutThingO_c v ds nm v2 bs fs f2 w h1 h2 hsm hbs hnm).mono fun e w' ⟨v', fs', he, h3, h4, h5⟩ => by
    obtain ⟨gs, r1, r2⟩ := h3.readsMine h4
    exact ⟨v', gs, he, r1, r2, h5⟩

end Go.Proofs.Ytimabbleijkmhaa
