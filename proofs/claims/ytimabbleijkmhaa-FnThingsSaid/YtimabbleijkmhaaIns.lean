/-
  slices.Insert at things, of one element, into a row that the call owns: what the call does.
-/
import Derived.Test.YtimabbleijkmhaaOwn
import Derived.Test.YtimabbleijkmhaaThTo
import Derived.Shelf.Spec.SlicesInsertGrow
import Derived.Deep.RegionLaw
namespace Go.Proofs.Ytimabbleijkmhaa
open Go.RowKit Go.Lib

theorem shape_blk {w : World} {g : Nat} {t : TypeId} {cs : Array Value} (h : Blk w g t cs) : w.shape? g = some (t, cs.size) := by
  unfold Blk at h
  simp [World.shape?, h]

/-- copy, elements of k cells: into a block that is known whole. -/
theorem run_copy_rowK {P : Program} (w : World) (dT sT ty elem : TypeId) (k g o dLen dCap : Nat) (a : Addr) (sLen sCap : Nat) (cur : Array Value) (t : TypeId) (cs : List Value) (n : Nat)
    (hu : P.underlying dT = some (.slice elem)) (hs : (P.info? elem).map (·.size) = some k)
    (hg : w.heap[g]? = some (.cells cur t (0, 0))) (hn : n = Nat.min sLen dLen) (hcl : cs.length = n * k)
    (hsrc : ∀ j v, cs[j]? = some v → w.cell? (a.add j) = some v) (hfit : o + cs.length ≤ cur.size) (h1 : ∀ v ∈ cs, v.oneCell' = true) :
    (Builtin.copy_ #[dT, sT] ty #[.slice (some ⟨g, o, none⟩) dLen dCap, .slice (some a) sLen sCap]).run P w =
      .ok (goInt n) (w.setRow g (cur.toList.take o ++ cs ++ cur.toList.drop (o + cs.length)).toArray) := by
  have hl := run_loadCells_list (P := P) w a cs hsrc
  have hst := run_storeCells_at P g o t cs 0 cur w hg (by simpa using hfit) h1
  rw [hcl] at hl
  cases hq : P.info? elem with
  | none => simp [hq] at hs
  | some i =>
    have hi : i.size = k := by simpa [hq] using hs
    simp [Builtin.copy_, run_underlying hu, Builtin.lenOf, Builtin.firstCells, sizeOf, typeInfo, hq, hi, ← hn, hl, hst]

def insPost (w : World) (base : Nat) (ds : List Th) (i : Nat) (d : Th) (f fs : List Addr) (ob : Option Nat) (e : Ending) (w' : World) : Prop :=
  ∃ v' fs', e = .returned v' ∧ OwnL 3 55 rTh w' base v' (ds.take i ++ d :: ds.drop i) fs' ∧ fs'.Perm (fs ++ f) ∧ w.grownBy w' ob ∧ (v'.ownBlock = ob ∨ v'.ownBlock = some w.heap.size)

set_option maxHeartbeats 1000000 in
set_option maxRecDepth 100000 in
theorem insertEnd_c (base : Nat) (v : Value) (ds : List Th) (fs f : List Addr) (g : Nat) (d : Th) (u : Value) (w : World) (hown : OwnL 3 55 rTh w base v ds fs) (hbase : base ≤ w.heap.size)
    (hblk : Blk w g 55 #[.string d.name, .bool d.lost, u]) (hu : u.oneCell' = true) (hr : rTh w f [.string d.name, .bool d.lost, u] d) (hfd : ∀ a, a ∈ f → v.ownBlock ≠ some a.block) (hsm : ds.length ≤ 10000000) :
    Calls Try.prog 73 #[v, .int .i64 ds.length, .slice (some ⟨g, 0, none⟩) 1 1] w (insPost w base ds ds.length d f fs v.ownBlock) := by
  obtain ⟨ob, hob⟩ : ∃ ob, v.ownBlock = ob := ⟨_, rfl⟩
  rw [hob]
  obtain ⟨A, c, rfl, hc, hc2⟩ := hown.length
  have HOB := Lib.hid hob; clear hob
  have HO := Lib.hid hown; have HR := Lib.hid hr; have HF := Lib.hid hfd; have HK := Lib.hid hblk; have HU := Lib.hid hu
  clear hown hr hfd hblk hu
  go_enter Try.func73, Try.ntmps73
  go_wp2_with (at_builtin; refine wpAppendElem rfl (.tmp 23) (.tmp 24) 45 rfl (.agg #[.string ⟨#[]⟩, .bool false, .slice none 0 0]) 48 Try.underlying45 Try.infoThing rfl (by decide) rTh.local_ rTh.fixed base (.slice A ds.length c) ds fs rfl HO.out g [.string d.name, .bool d.lost, u] f d rfl rfl HK.out (by intro x hx; simp at hx; rcases hx with rfl | rfl | rfl <;> first | rfl | exact HU.out) HR.out HF.out (by omega) (by omega) hbase ?_; intro v' w1 fs' q1 q2 q3 q4 q5)
  all_goals
    have Q1 := Lib.hid q1; have Q2 := Lib.hid q2; have Q3 := Lib.hid (show w.grownBy w1 ob by rw [← HOB.out]; exact q3); have Q4 := Lib.hid (show v'.ownBlock = ob ∨ v'.ownBlock = some w.heap.size by rw [← HOB.out]; exact q4)
    clear q1 q2 q3 q4 q5
    go_wp2_with fail
    go_ret
    exact ⟨v', fs', rfl, by rw [List.take_length, List.drop_length]; exact Q1.out, Q2.out, Q3.out, Q4.out⟩

theorem rTh_one : ∀ (w : World) (f : List Addr) (cs : List Value) (d : Th), rTh w f cs d → ∀ u, u ∈ cs → u.oneCell' = true := by
  rintro w f cs d ⟨v, rfl, -, h⟩ u hu
  obtain ⟨A, c, rfl, -⟩ := h.form
  simp at hu
  rcases hu with rfl | rfl | rfl <;> rfl
theorem Try.sizeThing : (Try.prog.info? 55).map (·.size) = some 3 := by kernel_rfl

theorem overlaps_c (w : World) (a b : Addr) (la ca lb cb : Nat) (hne : a.block ≠ b.block) (tA tB : TypeId) (kA kB : Nat) (hsa : w.shape? a.block = some (tA, kA)) (hsb : w.shape? b.block = some (tB, kB)) (hkB : kB ≠ 0)
    (hfa : w.frozen? a = false) (hfe : w.frozen? { block := a.block, off := kA } = false) :
    (callFunc 80 #[.slice (some a) la ca, .slice (some b) lb cb]).run Try.prog w = .ok (.value (.bool false)) w := by
  rw [run_callFunc_extern Try.func80 (by kernel_rfl) (by kernel_rfl) (by kernel_rfl) (e := Extern.SlicesOverlaps.overlaps #[45, 45] #[4]) (by kernel_rfl),
    Lib.run_overlaps_apart w 45 4 55 Try.underlying45 3 Try.sizeOf55 a b la ca lb cb hne tA tB kA kB hsa hsb hkB hfa hfe]
  rfl

/-- A row's cells with an element laid in. -/
theorem shift_row {cur : List Value} {k n i c : Nat} {xs us : List Value} (hc : cur.length = c * k) (hx : cur.take (n * k) = xs) (hi : i < n) (hr : n + 1 ≤ c) (hus : us.length = k) :
    ((cur.take ((i + 1) * k) ++ xs.drop (i * k) ++ cur.drop ((i + 1) * k + (xs.drop (i * k)).length)).take (i * k) ++ us ++ (cur.take ((i + 1) * k) ++ xs.drop (i * k) ++ cur.drop ((i + 1) * k + (xs.drop (i * k)).length)).drop (i * k + us.length)) =
      xs.take (i * k) ++ us ++ xs.drop (i * k) ++ cur.drop ((i + 1) * k + (xs.drop (i * k)).length) := by
  have h1 : (i + 1) * k = i * k + k := by rw [Nat.add_mul]; omega
  have h2 : i * k ≤ n * k := Nat.mul_le_mul_right _ (by omega)
  have h3 : (i + 1) * k ≤ c * k := Nat.mul_le_mul_right _ (by omega)
  have e1 : (cur.take ((i + 1) * k)).length = (i + 1) * k := by rw [List.length_take]; omega
  rw [List.append_assoc (cur.take ((i + 1) * k)), hus, ← h1, List.drop_left' e1, List.take_append_of_le_length (by omega), List.take_take, Nat.min_eq_left (by omega), ← hx, List.take_take, Nat.min_eq_left h2]
  simp [List.append_assoc]

set_option maxHeartbeats 4000000 in
set_option maxRecDepth 100000 in
theorem insertShift_c (base : Nat) (g0 c i : Nat) (ds : List Th) (fs f : List Addr) (g : Nat) (d : Th) (u : Value) (w : World) (hown : OwnL 3 55 rTh w base (.slice (some ⟨g0, 0, none⟩) ds.length c) ds fs) (hi : i < ds.length) (hroom : ds.length + 1 ≤ c)
    (hblk : Blk w g 55 #[.string d.name, .bool d.lost, u]) (hu : u.oneCell' = true) (hr : rTh w f [.string d.name, .bool d.lost, u] d) (hfd : ∀ a, a ∈ f → g0 ≠ a.block) (hg : g ≠ g0) (hsm : ds.length ≤ 10000000) :
    Calls Try.prog 73 #[.slice (some ⟨g0, 0, none⟩) ds.length c, .int .i64 i, .slice (some ⟨g, 0, none⟩) 1 1] w (insPost w base ds i d f fs (some g0)) := by
  obtain ⟨xs, hxs⟩ := hown.cells
  have hxs2 := hxs
  obtain ⟨hxl, h2⟩ := hxs2
  rcases h2 with ⟨e, _⟩ | ⟨g1, cap, cur, e, hb, hgr, hnc, hcm, hcs, htake⟩
  · cases e
  injection e with ea eb ec
  injection ea with ea
  injection ea with ea
  subst ea ec
  clear eb
  unfold maxLen at hcm
  have hK : Blk w g0 55 cur := hgr
  have hov : ∀ lb cb, (callFunc 80 #[.slice (some ⟨g, 0, none⟩) 1 1, .slice (some ⟨g0, (i + 1) * 3, none⟩) lb cb]).run Try.prog w = .ok (.value (.bool false)) w := fun lb cb =>
    overlaps_c w ⟨g, 0, none⟩ ⟨g0, (i + 1) * 3, none⟩ 1 1 lb cb hg _ _ _ _ (shape_blk hblk) (shape_blk hK) (by rw [hcs]; omega) (hblk.frozen 0) (hblk.frozen 3)
  have h1x := OwnL.ones rTh_one hown hxs
  have hxd : (xs.drop (i * 3)).length = (ds.length - i) * 3 := by rw [List.length_drop, hxl]; omega
  have hxg : ∀ q x, xs[q]? = some x → w.cell? ⟨g0, q, none⟩ = some x := fun q x hq => by
    rw [hK.cell, ← htake, List.getElem?_take] at *
    split at hq
    · simpa using hq
    · cases hq
  have hcl : cur.toList.length = c * 3 := by simpa using hcs
  have hrow := shift_row (us := [.string d.name, .bool d.lost, u]) hcl htake hi hroom rfl
  obtain ⟨row1, hrow1⟩ : ∃ row1, row1 = (cur.toList.take ((i + 1) * 3) ++ xs.drop (i * 3) ++ cur.toList.drop ((i + 1) * 3 + (xs.drop (i * 3)).length)).toArray := ⟨_, rfl⟩
  have hr1 : row1.toList = cur.toList.take ((i + 1) * 3) ++ xs.drop (i * 3) ++ cur.toList.drop ((i + 1) * 3 + (xs.drop (i * 3)).length) := by rw [hrow1]
  have hs1 : row1.size = c * 3 := by
    rw [← Array.length_toList, hr1]
    simp only [List.length_append, List.length_take, List.length_drop, hxl, hcl]
    omega
  rw [← hr1] at hrow
  have hcp1 : ∀ ty, (Builtin.copy_ #[45, 45] ty #[.slice (some ⟨g0, (i + 1) * 3, none⟩) (ds.length - i) (c - (i + 1)), .slice (some ⟨g0, i * 3, none⟩) (ds.length + 1 - i) (c - i)]).run Try.prog w.drew = .ok (goInt (ds.length - i : Nat)) (w.drew.setRow g0 row1) := fun ty => by
    rw [hrow1]
    exact run_copy_rowK w.drew _ _ ty 55 3 g0 ((i + 1) * 3) (ds.length - i) _ ⟨g0, i * 3, none⟩ (ds.length + 1 - i) _ cur 55 (xs.drop (i * 3)) (ds.length - i) Try.underlying45 Try.sizeThing hgr (by simp only [Nat.min_def]; split <;> omega) hxd
      (fun j x hj => by rw [Addr.add_lit]; exact hxg (i * 3 + j) x (by rwa [List.getElem?_drop] at hj)) (by rw [hxd, hcs]; omega) (fun x hx => h1x x (List.mem_of_mem_drop hx))
  obtain ⟨row2, hrow2⟩ : ∃ row2, row2 = (row1.toList.take (i * 3) ++ [.string d.name, .bool d.lost, u] ++ row1.toList.drop (i * 3 + ([.string d.name, .bool d.lost, u] : List Value).length)).toArray := ⟨_, rfl⟩
  have hr2 : row2.toList = xs.take (i * 3) ++ [.string d.name, .bool d.lost, u] ++ xs.drop (i * 3) ++ cur.toList.drop ((i + 1) * 3 + (xs.drop (i * 3)).length) := by rw [hrow2]; exact hrow
  have hgr1 : (w.drew.setRow g0 row1).heap[g0]? = some (.cells row1 55 (0, 0)) := setRow_heap w.drew g0 cur row1 55 (0, 0) hgr
  have hcp2 : ∀ (W : World), W.heap = (w.drew.setRow g0 row1).heap → ∀ ty, (Builtin.copy_ #[45, 45] ty #[.slice (some ⟨g0, i * 3, none⟩) (ds.length + 1 - i) (c - i), .slice (some ⟨g, 0, none⟩) 1 1]).run Try.prog W = .ok (goInt (1 : Nat)) (W.setRow g0 row2) := fun W hW ty => by
    rw [hrow2]
    refine run_copy_rowK W _ _ ty 55 3 g0 (i * 3) (ds.length + 1 - i) _ ⟨g, 0, none⟩ 1 _ row1 55 [.string d.name, .bool d.lost, u] 1 Try.underlying45 Try.sizeThing (by rw [hW]; exact hgr1) (by simp only [Nat.min_def]; split <;> omega) rfl (fun j x hj => ?_) (by rw [hs1]; simp; omega) (fun x hx => ?_)
    · rw [addNew]
      have e1 : W.cell? ⟨g, j, none⟩ = (w.drew.setRow g0 row1).cell? ⟨g, j, none⟩ := World.cell?_of_block (by rw [hW])
      rw [e1, cell_setRow_other _ _ _ _ hg]
      exact (hblk.cell j).trans (by simpa using hj)
    · simp at hx
      rcases hx with rfl | rfl | rfl <;> first | rfl | exact hu
  have HF : ∀ (W : World), W = (w.drew.setRow g0 row1).setRow g0 row2 ∨ W = ((w.drew.setRow g0 row1).drew).setRow g0 row2 → insPost w base ds i d f fs (some g0) (.returned (.slice (some ⟨g0, 0, none⟩) (ds.length + 1) c)) W := by
    intro W hW
    have e1 : W.heap[g0]? = some (.cells row2 55 (0, 0)) := by
      rcases hW with rfl | rfl
      · exact setRow_heap _ _ _ _ _ _ hgr1
      · exact setRow_heap (w.drew.setRow g0 row1).drew g0 row1 row2 _ _ hgr1
    have e2 : w.grownBy W (some g0) := by
      rcases hW with rfl | rfl
      · exact ⟨rfl, rfl, rfl, by simp, fun q hq hne => by rw [setRow_other _ _ _ _ (fun e => hne (by rw [e])), setRow_other _ _ _ _ (fun e => hne (by rw [e]))]; rfl⟩
      · exact ⟨rfl, rfl, rfl, by simp, fun q hq hne => by rw [setRow_other _ _ _ _ (fun e => hne (by rw [e]))]; show (w.drew.setRow g0 row1).heap[q]? = _; rw [setRow_other _ _ _ _ (fun e => hne (by rw [e]))]; rfl⟩
    have hl2 : (xs.take (i * 3) ++ [.string d.name, .bool d.lost, u] ++ xs.drop (i * 3)).length = (ds.length + 1) * 3 := by
      simp only [List.length_append, List.length_take, hxd, hxl, List.length_cons, List.length_nil]
      omega
    have hs2 : row2.size = c * 3 := by
      rw [← Array.length_toList, hr2, List.length_append, hl2, List.length_drop, hxd, hcl]
      omega
    obtain ⟨fs', q1, q2⟩ := OwnL.insert (w' := W) (v' := .slice (some ⟨g0, 0, none⟩) (ds.length + 1) c) rTh.local_ rTh.fixed hown (Nat.le_of_lt hi) hxs (us := [.string d.name, .bool d.lost, u])
      ⟨hl2, .inr ⟨g0, c, row2, rfl, hb, e1, hroom, by unfold maxLen; omega, hs2, by rw [hr2, ← hl2, List.take_left' rfl]⟩⟩ rfl e2 (.inl rfl) hr (fun a ha e => hfd a ha (by simpa [Value.ownBlock] using e))
    exact ⟨_, fs', rfl, q1, q2, e2, .inl rfl⟩
  have HFF := Lib.hid HF
  have hw1 : IntKind.i64.wrap ((i : Int) + 1) = (i : Int) + 1 := by rw [IntKind.wrap_i64]; omega
  have hb1 : (0 : Int) ≤ (i : Int) + 1 := by omega
  have htn : ((i : Int) + 1).toNat = i + 1 := by omega
  have hb2 : ¬ (c = i + 1) := by omega
  have hb3 : (i : Int) ≤ (ds.length : Int) + 1 := by omega
  have hb4 : ¬ (c = i) := by omega
  have hin : i ≤ ds.length := by omega
  have hb5 : (i : Int) + 1 ≤ (ds.length : Int) + 1 := by omega
  clear HF hrow hr1 hr2 hs1 hrow1 hrow2 hxg h1x hcl hcs htake hxd hxl hxs hown hr hfd hblk hK hgr hgr1
  go_enter Try.func73, Try.ntmps73
  go_wp2_with (simp only [hov])
  go_region_law (refine Go.Proofs.step_copy_runI rfl _ _ 45 45 rfl _ _ (by simp [Act.eval, Act.put]) (by simp [Act.eval, Act.put]) (hcp1 _) ?_)
  go_wp2_with (at_builtin; refine Go.Proofs.wpList_copy_runI _ rfl _ _ 45 45 rfl _ _ rfl rfl (hcp2 _ rfl _) ?_)
  go_ret
  exact HFF.out _ (by first | exact .inl rfl | exact .inr rfl)

theorem zeroCells_size (z : Array Value) (n : Nat) : (Builtin.zeroCells z n).size = n * z.size := by simp [Builtin.zeroCells]

set_option maxHeartbeats 4000000 in
set_option maxRecDepth 100000 in
theorem insertGrow_c (base : Nat) (g0 c i : Nat) (ds : List Th) (fs f : List Addr) (g : Nat) (d : Th) (u : Value) (w : World) (hown : OwnL 3 55 rTh w base (.slice (some ⟨g0, 0, none⟩) ds.length c) ds fs) (hi : i < ds.length) (hroom : c < ds.length + 1)
    (hblk : Blk w g 55 #[.string d.name, .bool d.lost, u]) (hu : u.oneCell' = true) (hr : rTh w f [.string d.name, .bool d.lost, u] d) (hfd : ∀ a, a ∈ f → g0 ≠ a.block) (hsm : ds.length ≤ 10000000) (hbase : base ≤ w.heap.size) :
    Calls Try.prog 73 #[.slice (some ⟨g0, 0, none⟩) ds.length c, .int .i64 i, .slice (some ⟨g, 0, none⟩) 1 1] w (insPost w base ds i d f fs (some g0)) := by
  obtain ⟨xs, hxs⟩ := hown.cells
  have hxs2 := hxs
  obtain ⟨hxl, h2⟩ := hxs2
  rcases h2 with ⟨e, _⟩ | ⟨g1, cap, cur, e, hb, hgr, hnc, hcm, hcs, htake⟩
  · cases e
  injection e with ea eb ec
  injection ea with ea
  injection ea with ea
  subst ea ec
  clear eb
  obtain rfl : c = ds.length := by omega
  have hK : Blk w g0 55 cur := hgr
  have h1x := OwnL.ones rTh_one hown hxs
  have hxd : (xs.drop (i * 3)).length = (ds.length - i) * 3 := by rw [List.length_drop, hxl]; omega
  have hxt : (xs.take (i * 3)).length = i * 3 := by rw [List.length_take, hxl]; omega
  have hxg : ∀ q x, xs[q]? = some x → w.cell? ⟨g0, q, none⟩ = some x := fun q x hq => by
    rw [hK.cell, ← htake, List.getElem?_take] at *
    split at hq
    · simpa using hq
    · cases hq
  obtain ⟨i0, hi0, hz0, hz1, hz2⟩ := info_parts Try.infoThing
  have hold : (Builtin.firstCells i0.size i (.slice (some ⟨g0, 0, none⟩) i ds.length)).run Try.prog w.drew = .ok (xs.take (i * 3)).toArray w.drew := by
    rw [hz1]
    exact run_firstCells_some w.drew 3 i ⟨g0, 0, none⟩ i ds.length (xs.take (i * 3)) hxt (fun j v hj => by
      rw [addNew]
      rw [List.getElem?_take] at hj
      split at hj
      · exact hxg j v hj
      · cases hj)
  have hik : i + (ds.length + 1 - i) = ds.length + 1 := by omega
  obtain ⟨G, hG⟩ : ∃ G, G = grownCap w (ds.length + 1) ds.length 55 := ⟨_, rfl⟩
  have hGn : ds.length + 1 ≤ G := by rw [hG]; exact grownCap_ge w _ _ _
  have hGm : G ≤ maxLen := by rw [hG]; exact grownCap_le_maxLen w _ _ _ (by unfold maxLen; omega)
  have hGm2 : G ≤ 9223372036854775807 := by unfold maxLen at hGm; omega
  obtain ⟨ROW, hROW⟩ : ∃ ROW : Array Value, ROW = (xs.take (i * 3)).toArray ++ Builtin.zeroCells (Value.agg #[.string ⟨#[]⟩, .bool false, .slice none 0 0]).cells (ds.length + 1 - i) ++ Builtin.zeroCells (Value.agg #[.string ⟨#[]⟩, .bool false, .slice none 0 0]).cells (G - (ds.length + 1)) := ⟨_, rfl⟩
  have hRs : ROW.size = G * 3 := by
    rw [hROW, Array.size_append, Array.size_append, zeroCells_size, zeroCells_size]
    rw [show (Value.agg #[.string ⟨#[]⟩, .bool false, .slice none 0 0]).cells.size = 3 from rfl, List.size_toArray, hxt]
    omega
  have hRt : ROW.toList.take (i * 3) = xs.take (i * 3) := by
    rw [hROW]
    simp only [Array.toList_append, List.append_assoc]
    rw [List.take_left' hxt]
  have hrz : ∀ ty, (Builtin.append_ #[45, 3] ty #[.slice (some ⟨g0, 0, none⟩) i ds.length, .int .i64 ((ds.length : Int) + 1 - (i : Int))]).run Try.prog w =
      .ok (.slice (some ⟨w.heap.size, 0, none⟩) (ds.length + 1) G) (w.drew.alloc (.cells ROW 55)) := fun ty => by
    have h := Lib.run_append_grow_zeros w 45 3 ty 55 i0 _ .i64 .i64 Try.underlying45 Try.underlying3 hi0 hz0 (some ⟨g0, 0, none⟩) i ds.length (xs.take (i * 3)) hold (ds.length + 1 - i) (by omega) (by omega) (by omega) (by omega) (by rw [hz2]; omega) (by rw [hz2, hik]; exact growslice_fits (by omega) (by omega))
    rw [hik] at h
    rw [show (ds.length : Int) + 1 - (i : Int) = ((ds.length + 1 - i : Nat) : Int) by omega, hG, hROW, hG]
    exact h
  have hne : g0 ≠ w.heap.size := by have := hK.lt; omega
  have hneg : g ≠ w.heap.size := by have := hblk.lt; omega
  have hgA : (w.drew.alloc (.cells ROW 55)).heap[w.heap.size]? = some (.cells ROW 55 (0, 0)) := Blk.new w.drew 55 ROW
  obtain ⟨rowA, hrowA⟩ : ∃ rowA, rowA = (ROW.toList.take (i * 3) ++ [.string d.name, .bool d.lost, u] ++ ROW.toList.drop (i * 3 + ([.string d.name, .bool d.lost, u] : List Value).length)).toArray := ⟨_, rfl⟩
  have hsA : rowA.size = G * 3 := by
    rw [hrowA]
    simp only [List.size_toArray, List.length_append, List.length_take, List.length_drop, Array.length_toList, hRs, List.length_cons, List.length_nil]
    omega
  have htA : rowA.toList.take ((i + 1) * 3) = xs.take (i * 3) ++ [.string d.name, .bool d.lost, u] := by
    rw [hrowA, hRt]
    exact List.take_left' (by simp [hxt]; omega)
  have hcpA : ∀ (W : World), W.heap = (w.drew.alloc (.cells ROW 55)).heap → ∀ ty, (Builtin.copy_ #[45, 45] ty #[.slice (some ⟨w.heap.size, i * 3, none⟩) (ds.length + 1 - i) (G - i), .slice (some ⟨g, 0, none⟩) 1 1]).run Try.prog W = .ok (goInt (1 : Nat)) (W.setRow w.heap.size rowA) := fun W hW ty => by
    rw [hrowA]
    refine run_copy_rowK W _ _ ty 55 3 w.heap.size (i * 3) (ds.length + 1 - i) _ ⟨g, 0, none⟩ 1 _ ROW 55 [.string d.name, .bool d.lost, u] 1 Try.underlying45 Try.sizeThing (by rw [hW]; exact hgA) (by simp only [Nat.min_def]; split <;> omega) rfl (fun j x hj => ?_) (by rw [hRs]; simp; omega) (fun x hx => ?_)
    · rw [addNew]
      have e1 : W.cell? ⟨g, j, none⟩ = w.cell? ⟨g, j, none⟩ := World.cell?_of_block (by rw [hW]; exact Below.heap_alloc w.drew _ g hblk.lt)
      rw [e1]
      exact (hblk.cell j).trans (by simpa using hj)
    · simp at hx
      rcases hx with rfl | rfl | rfl <;> first | rfl | exact hu
  obtain ⟨W1, hW1⟩ : ∃ W1, W1 = (w.drew.alloc (.cells ROW 55)).setRow w.heap.size rowA := ⟨_, rfl⟩
  have hgB : W1.heap[w.heap.size]? = some (.cells rowA 55 (0, 0)) := by rw [hW1]; exact setRow_heap _ _ _ _ _ _ hgA
  have hold1 : ∀ q, q < w.heap.size → W1.heap[q]? = w.heap[q]? := fun q hq => by rw [hW1, setRow_other _ _ _ _ (by omega)]; exact Below.heap_alloc w.drew _ q hq
  obtain ⟨rowB, hrowB⟩ : ∃ rowB, rowB = (rowA.toList.take ((i + 1) * 3) ++ xs.drop (i * 3) ++ rowA.toList.drop ((i + 1) * 3 + (xs.drop (i * 3)).length)).toArray := ⟨_, rfl⟩
  have hcpB : ∀ (W : World), W.heap = W1.heap → ∀ ty, (Builtin.copy_ #[45, 45] ty #[.slice (some ⟨w.heap.size, (i + 1) * 3, none⟩) (ds.length - i) (G - (i + 1)), .slice (some ⟨g0, i * 3, none⟩) (ds.length - i) (ds.length - i)]).run Try.prog W = .ok (goInt (ds.length - i : Nat)) (W.setRow w.heap.size rowB) := fun W hW ty => by
    rw [hrowB]
    exact run_copy_rowK W _ _ ty 55 3 w.heap.size ((i + 1) * 3) (ds.length - i) _ ⟨g0, i * 3, none⟩ (ds.length - i) _ rowA 55 (xs.drop (i * 3)) (ds.length - i) Try.underlying45 Try.sizeThing (by rw [hW]; exact hgB) (by simp only [Nat.min_def]; split <;> omega) hxd
      (fun j x hj => by
        rw [Addr.add_lit, show W.cell? ⟨g0, i * 3 + j, none⟩ = w.cell? ⟨g0, i * 3 + j, none⟩ from World.cell?_of_block (by rw [hW]; exact hold1 _ hK.lt)]
        exact hxg (i * 3 + j) x (by rwa [List.getElem?_drop] at hj)) (by rw [hxd, hsA]; omega) (fun x hx => h1x x (List.mem_of_mem_drop hx))
  have HF : ∀ (W W' : World), W'.heap = W1.heap → W'.os = w.os → W'.tape = w.tape → W'.output = w.output → W = W'.setRow w.heap.size rowB → insPost w base ds i d f fs (some g0) (.returned (.slice (some ⟨w.heap.size, 0, none⟩) (ds.length + 1) G)) W := by
    intro W W' hh ho1 ho2 ho3 hW
    have e1 : W.heap[w.heap.size]? = some (.cells rowB 55 (0, 0)) := by rw [hW]; exact setRow_heap W' _ _ _ _ _ (by rw [hh]; exact hgB)
    have e2 : w.grownBy W (some g0) := by
      rw [hW]
      refine ⟨ho1, ho2, ho3, ?_, fun q hq hne => ?_⟩
      · rw [setRow_size, hh, hW1]; simp
      · rw [setRow_other _ _ _ _ (by omega), hh]; exact hold1 q hq
    have hl2 : (xs.take (i * 3) ++ [.string d.name, .bool d.lost, u] ++ xs.drop (i * 3)).length = (ds.length + 1) * 3 := by
      simp only [List.length_append, hxt, hxd, List.length_cons, List.length_nil]
      omega
    have hr2 : rowB.toList = xs.take (i * 3) ++ [.string d.name, .bool d.lost, u] ++ xs.drop (i * 3) ++ rowA.toList.drop ((i + 1) * 3 + (xs.drop (i * 3)).length) := by rw [hrowB, htA]
    have hs2 : rowB.size = G * 3 := by
      have hla : rowA.toList.length = G * 3 := by rw [Array.length_toList, hsA]
      rw [← Array.length_toList, hr2, List.length_append, hl2, List.length_drop, hxd, hla]
      omega
    obtain ⟨fs', q1, q2⟩ := OwnL.insert (w' := W) (v' := .slice (some ⟨w.heap.size, 0, none⟩) (ds.length + 1) G) rTh.local_ rTh.fixed hown (Nat.le_of_lt hi) hxs (us := [.string d.name, .bool d.lost, u])
      ⟨hl2, .inr ⟨w.heap.size, G, rowB, rfl, hbase, e1, hGn, hGm, hs2, by rw [hr2, ← hl2, List.take_left' rfl]⟩⟩ rfl e2 (.inr rfl) hr (fun a ha e => hfd a ha (by simpa [Value.ownBlock] using e))
    exact ⟨_, fs', rfl, q1, q2, e2, .inr rfl⟩
  have HFF := Lib.hid HF
  have hw1 : IntKind.i64.wrap ((i : Int) + 1) = (i : Int) + 1 := by rw [IntKind.wrap_i64]; omega
  have hb1 : (0 : Int) ≤ (i : Int) + 1 := by omega
  have htn : ((i : Int) + 1).toNat = i + 1 := by omega
  have hb2 : ¬ (G = i + 1) := by omega
  have hb3 : (i : Int) ≤ (ds.length : Int) := by omega
  have hb4 : ¬ (G = i) := by omega
  have hb6 : ¬ (ds.length = i) := by omega
  have hin : i ≤ ds.length := by omega
  have hb5 : (i : Int) + 1 ≤ (ds.length : Int) + 1 := by omega
  have HW1 := Lib.hid hW1
  have hcB := hcpB ((w.alloc (.cells ROW 55)).drew.setRow w.heap.size rowA).drew (by rw [hW1]; rfl)
  clear HF hrowA hrowB hROW hRs hRt hsA htA hG hgA hgB hxg h1x hcs htake hxd hxt hxl hxs hown hr hfd hblk hK hgr hold hold1 hz0 hz1 hz2 hi0 hcpB hGm
  subst hW1
  go_enter Try.func73, Try.ntmps73
  have hcA := hcpA (w.alloc (.cells ROW 55)).drew rfl
  go_wp2_with (first
    | (at_builtin; refine Lib.wpList_append_run _ rfl (.tmp 34) (.tmp 39) _ _ rfl _ _ rfl rfl _ _ (hrz _) ?_)
    | (at_builtin; go_loud (refine Go.Proofs.wpList_copy_runI _ rfl (.tmp 43) (.tmp 44) 45 45 rfl _ _ rfl rfl (hcA _) ?_)))
  go_region_law (refine Go.Proofs.step_copy_runI rfl _ _ 45 45 rfl _ _ (by simp [Act.eval, Act.put]) (by simp [Act.eval, Act.put]) (hcB _) ?_)
  go_wp2
  go_ret
  exact HFF.out _ ((w.alloc (.cells ROW 55)).drew.setRow w.heap.size rowA).drew rfl rfl rfl rfl rfl

/-- slices.Insert of one thing, wherever. -/
theorem insert_c (base M : Nat) (v : Value) (i : Nat) (ds : List Th) (fs f : List Addr) (g : Nat) (d : Th) (u : Value) (w : World) (hown : OwnL 3 55 rTh w base v ds fs) (hi : i ≤ ds.length)
    (hblk : Blk w g 55 #[.string d.name, .bool d.lost, u]) (hu : u.oneCell' = true) (hr : rTh w f [.string d.name, .bool d.lost, u] d) (hM : ∀ k, v.ownBlock = some k → k < M) (hfM : ∀ a, a ∈ f → M ≤ a.block) (hg : M ≤ g) (hsm : ds.length ≤ 10000000) (hbase : base ≤ w.heap.size) :
    Calls Try.prog 73 #[v, .int .i64 i, .slice (some ⟨g, 0, none⟩) 1 1] w (insPost w base ds i d f fs v.ownBlock) := by
  have hfd : ∀ a, a ∈ f → v.ownBlock ≠ some a.block := fun a ha e => by have := hM _ e; have := hfM a ha; omega
  rcases Nat.lt_or_ge i ds.length with hlt | hge
  · have hown2 := hown
    obtain ⟨xs, hxs⟩ := hown.cells
    obtain ⟨hxl, h2⟩ := hxs
    rcases h2 with ⟨rfl, h0⟩ | ⟨g0, c, cur, rfl, hb, hgr, hnc, hcm, hcs, htake⟩
    · omega
    · have hfd2 : ∀ a, a ∈ f → g0 ≠ a.block := fun a ha e => hfd a ha (by rw [← e]; rfl)
      rcases Nat.lt_or_ge c (ds.length + 1) with hc | hc
      · exact insertGrow_c base g0 c i ds fs f g d u w hown hlt hc hblk hu hr hfd2 hsm hbase
      · exact insertShift_c base g0 c i ds fs f g d u w hown hlt hc hblk hu hr hfd2 (fun e => by have := hM g0 rfl; omega) hsm
  · obtain rfl : i = ds.length := by omega
    exact insertEnd_c base v ds fs f g d u w hown hbase hblk hu hr hfd hsm

end Go.Proofs.Ytimabbleijkmhaa
