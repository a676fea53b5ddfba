/-
  A row of things that a loop of appends owns: each one's bytes in memory of their own too.
-/
import Derived.Test.YtimabbleijkmhaaClone
import Derived.Test.YtimabbleijkmhaaThTo
namespace Go.Proofs.Ytimabbleijkmhaa
open Go.RowKit

def thCells : List Th → List Value → List Value
  | d :: ds, v :: vs => .string d.name :: .bool d.lost :: v :: thCells ds vs
  | _, _ => []
theorem thCells_snoc : ∀ (ds : List Th) (vs : List Value) (d : Th) (v : Value), vs.length = ds.length → thCells (ds ++ [d]) (vs ++ [v]) = thCells ds vs ++ [.string d.name, .bool d.lost, v]
  | [], [], _, _, _ => rfl
  | [], _ :: _, _, _, h => by simp at h
  | _ :: _, [], _, _, h => by simp at h
  | a :: ds, u :: vs, d, v, h => by simp only [List.cons_append, thCells, thCells_snoc ds vs d v (by simpa using h)]
theorem thCells_get : ∀ (ds : List Th) (vs : List Value) (i : Nat) (h : i < ds.length) (h2 : i < vs.length),
    (thCells ds vs)[i * 3]? = some (.string ds[i].name) ∧ (thCells ds vs)[i * 3 + 1]? = some (.bool ds[i].lost) ∧ (thCells ds vs)[i * 3 + 2]? = some vs[i]
  | [], _, _, h, _ => by cases h
  | _ :: _, [], _, _, h => by cases h
  | a :: ds, u :: vs, 0, _, _ => ⟨rfl, rfl, rfl⟩
  | a :: ds, u :: vs, i + 1, h, h2 => by
    have := thCells_get ds vs i (by simpa using h) (by simpa using h2)
    rw [show (i + 1) * 3 = i * 3 + 1 + 1 + 1 from by omega]
    simpa [thCells] using this

/-- All of it lies below M. -/
def ThOwn (w : World) (base M : Nat) (v : Value) (ds : List Th) : Prop :=
  ∃ (vs : List Value) (fss : List (List Addr)), vs.length = ds.length ∧ fss.length = ds.length ∧ w.ownsRow base 55 3 v ds.length (thCells ds vs) ∧
    (∀ i, (h : i < ds.length) → ∃ (h1 : i < vs.length) (h2 : i < fss.length), rBytes w fss[i] vs[i] ds[i].bytes) ∧ Mine base w fss.flatten ∧ (∀ a, a ∈ fss.flatten → a.block < M) ∧ (∀ k, v.ownBlock = some k → k < M) ∧ (∀ a, a ∈ fss.flatten → v.ownBlock ≠ some a.block)

theorem ThOwn.start (w : World) (base M : Nat) (v : Value) (h : w.ownsRow base 55 3 v 0 []) (hM : ∀ k, v.ownBlock = some k → k < M) : ThOwn w base M v [] :=
  ⟨[], [], rfl, rfl, h, (fun _ h => by cases h), ⟨List.nodup_nil, (fun _ h => by cases h), (fun _ h => by cases h)⟩, (fun _ h => by cases h), hM, (fun _ h => by cases h)⟩
theorem ThOwn.mono {w : World} {base M M' : Nat} {v : Value} {ds : List Th} (h : ThOwn w base M v ds) (hM : M ≤ M') : ThOwn w base M' v ds := by
  obtain ⟨vs, fss, h1, h2, h3, h4, h5, h6, h7, h8⟩ := h
  exact ⟨vs, fss, h1, h2, h3, h4, h5, fun a ha => Nat.lt_of_lt_of_le (h6 a ha) hM, fun k hk => Nat.lt_of_lt_of_le (h7 k hk) hM, h8⟩

theorem ownsRow_keep {w w' : World} {base : Nat} {e : TypeId} {k : Nat} {v : Value} {n : Nat} {xs : List Value} {M : Nat} (h : w.ownsRow base e k v n xs) (hb : Below M w w') (hM : ∀ k, v.ownBlock = some k → k < M) : w'.ownsRow base e k v n xs := by
  refine ⟨h.1, ?_⟩
  rcases h.2 with h2 | ⟨g, cap, cur, hv, hbb, hg, h3⟩
  · exact .inl h2
  · exact .inr ⟨g, cap, cur, hv, hbb, (hb.block g (hM g (by rw [hv]; rfl))).trans hg, h3⟩

theorem ThOwn.keep {w w' : World} {base M : Nat} {v : Value} {ds : List Th} (h : ThOwn w base M v ds) (hb : Below M w w') : ThOwn w' base M v ds := by
  obtain ⟨vs, fss, h1, h2, h3, h4, h5, h6, h7, h8⟩ := h
  refine ⟨vs, fss, h1, h2, ownsRow_keep h3 hb h7, fun i hi => ?_, h5.keep fun a ha => hb.frozen (h6 a ha), h6, h7, h8⟩
  obtain ⟨p1, p2, p3⟩ := h4 i hi
  exact ⟨p1, p2, rSl.keep rByte.local_ p3 (Same.of_below (fun a ha => h6 a (List.mem_flatten.2 ⟨_, List.getElem_mem p2, ha⟩)) hb)⟩

/-- As a reading. -/
theorem ThOwn.reads {w : World} {base M : Nat} {v : Value} {ds : List Th} (h : ThOwn w base M v ds) (hn : ∀ d, d ∈ ds → d.name.size ≤ 9223372036854775807) : ∃ fs, rThs w fs v ds ∧ Mine base w fs := by
  obtain ⟨vs, fss, h1, h2, h3, h4, h5, h6, h7, h8⟩ := h
  obtain ⟨hl, h9⟩ := h3
  rcases h9 with ⟨rfl, h0⟩ | ⟨g, cap, cur, rfl, hb, hg, hnc, hcm, hcs, htake⟩
  · have : ds = [] := List.eq_nil_of_length_eq_zero h0
    subst this
    exact ⟨[], ⟨none, 0, rfl, Nat.le_refl _, by omega, .inl ⟨rfl, rfl⟩⟩, List.nodup_nil, (fun _ h => by cases h), (fun _ h => by cases h)⟩
  · have hcell : ∀ q u, (thCells ds vs)[q]? = some u → w.cell? ⟨g, q, none⟩ = some u := by
      intro q u hu
      rw [cell_of_row w g q cur 55 (0, 0) hg]
      have hlt : q < ds.length * 3 := by
        have := (List.getElem?_eq_some_iff.1 hu).1
        omega
      have h3 : (cur.toList.take (ds.length * 3))[q]? = some u := by rw [htake]; exact hu
      rw [List.getElem?_take, if_pos hlt] at h3
      simpa using h3
    simp only [maxLen] at hcm
    refine ⟨addrs ⟨g, 0, none⟩ (ds.length * 3) ++ fss.flatten, ⟨some ⟨g, 0, none⟩, cap, rfl, hnc, by omega, .inr ⟨⟨g, 0, none⟩, (List.range ds.length).map (fun k => [.string ((ds[k]?).getD ⟨⟨#[]⟩, false, []⟩).name, .bool ((ds[k]?).getD ⟨⟨#[]⟩, false, []⟩).lost, (vs[k]?).getD (.bool false)]), fss, rfl, by simp, h2, rfl, fun i hi => ?_⟩⟩, ?_, fun a ha => ?_, fun a ha => ?_⟩
    · obtain ⟨p1, p2, p3⟩ := h4 i hi
      obtain ⟨t0, t1, t2⟩ := thCells_get ds vs i hi p1
      have hD : (ds[i]?).getD ⟨⟨#[]⟩, false, []⟩ = ds[i] := by simp [hi]
      have hV : (vs[i]?).getD (.bool false) = vs[i] := by simp [p1]
      refine ⟨by simpa using hi, p2, by simp, fun j hj => ?_, ?_⟩
      · simp only [List.getElem_map, List.getElem_range, hD, hV] at hj ⊢
        rw [addNew]
        match j, hj with
        | 0, _ => exact hcell _ _ t0
        | 1, _ => exact hcell _ _ t1
        | 2, _ => exact hcell _ _ t2
      · simp only [List.getElem_map, List.getElem_range, hD, hV]
        exact ⟨_, rfl, hn _ (List.getElem_mem hi), p3⟩
    · unfold List.Nodup
      refine List.pairwise_append.2 ⟨nodup_addrs rfl, h5.nodup, fun a ha b hb e => ?_⟩
      obtain ⟨q, _, rfl⟩ := mem_addrs.1 ha
      rw [addNew] at e
      exact h8 b hb (by rw [← e]; rfl)
    · rcases List.mem_append.1 ha with ha | ha
      · obtain ⟨q, _, rfl⟩ := mem_addrs.1 ha
        rw [blockAdd]; exact hb
      · exact h5.from_ a ha
    · rcases List.mem_append.1 ha with ha | ha
      · obtain ⟨q, _, rfl⟩ := mem_addrs.1 ha
        rw [addNew]; exact frozen_of_row w g q cur 55 hg
      · exact h5.free a ha

/-- append of one thing, onto a row of things that the call owns. -/
theorem wpAppendThing {w : World} {ops : Array Oper} {rest : List Oper} {o : Oper} {a : Act} {Q : Exit → Act → World → Prop} (hgd : o.guard = none) (s x : Operand)
    (ho : o.op = .call { callee := .builtin .append, args := #[s, x], argTypes := #[45, 45] })
    (base M : Nat) (v : Value) (ds : List Th) (hs : a.eval s = v) (hown : ThOwn w base M v ds)
    (g : Nat) (d : Th) (u : Value) (f : List Addr) (hx : a.eval x = .slice (some ⟨g, 0, none⟩) 1 1) (hblk : Blk w g 55 #[.string d.name, .bool d.lost, u]) (hu : u.oneCell' = true) (hr : rBytes w f u d.bytes) (hm : Mine M w f)
    (hn : ds.length ≤ 100000000) (hM : M ≤ w.heap.size) (hbase : base ≤ M)
    (h : ∀ v' w', ThOwn w' base w'.heap.size v' (ds ++ [d]) → w.grownBy w' v.ownBlock → (∀ k, v.ownBlock = some k → base ≤ k ∧ k < M) → wpList Try.prog ops Q rest (a.put o.dst v') w') : wpList Try.prog ops Q (o :: rest) a w := by
  obtain ⟨vs, fss, h1, h2, h3, h4, h5, h6, h7, h8⟩ := hown
  obtain ⟨i, hi0, hz0, hz1, hz2⟩ := info_parts Try.infoThing
  refine wpList_append_own_at w hgd s x 45 ho base 55 i (.agg #[.string ⟨#[]⟩, .bool false, .slice none 0 0]) 3 48 Try.underlying45 hi0 hz0 hz1 hz2 rfl (by decide) v ds.length (thCells ds vs) hs h3 ⟨g, 0, none⟩ 1 1 [.string d.name, .bool d.lost, u] hx rfl (fun j uu hj => ?_) ?_ (by simp only [maxLen]; omega) (by omega) (Nat.le_trans hbase hM) (fun v' w' q1 q2 q3 q4 => h v' w' ?_ q2 (fun k hk => ⟨(h3.lt k hk).1, h7 k hk⟩))
  · rw [addNew, hblk.cell]
    simpa using hj
  · intro uu huu
    simp at huu
    rcases huu with rfl | rfl | rfl
    · rfl
    · rfl
    · exact hu
  · have hthere := rSl.there rByte.fixed hr
    have hnew : ∀ k, v'.ownBlock = some k → k < w'.heap.size := fun k hk => (q1.lt k hk).2
    have hcell : ∀ b : Addr, b.block < w.heap.size → v.ownBlock ≠ some b.block → w'.cell? b = w.cell? b := fun b hb hne => q2.cell_far b hb (fun e => hne e.symm)
    have hfroz : ∀ b : Addr, b.block < w.heap.size → v.ownBlock ≠ some b.block → w'.frozen? b = w.frozen? b := fun b hb hne => q2.frozen_far b hb (fun e => hne e.symm)
    have hfne : ∀ b, b ∈ f → v.ownBlock ≠ some b.block := fun b hb e => by have := h7 _ e; have := hm.from_ b hb; omega
    refine ⟨vs ++ [u], fss ++ [f], by simp [h1], by simp [h2], ?_, fun i hi => ?_, ⟨?_, fun b hb => ?_, fun b hb => ?_⟩, fun b hb => ?_, hnew, fun b hb => ?_⟩
    · rw [thCells_snoc _ _ _ _ h1]
      simpa using q1
    · rcases Nat.lt_or_ge i ds.length with hlt | hge
      · obtain ⟨p1, p2, p3⟩ := h4 i hlt
        refine ⟨by simp; omega, by simp; omega, ?_⟩
        rw [List.getElem_append_left p1, List.getElem_append_left p2, List.getElem_append_left hlt]
        refine rSl.keep rByte.local_ p3 fun b hb => ?_
        have hbf := List.mem_flatten.2 ⟨_, List.getElem_mem p2, hb⟩
        exact hcell b (Nat.lt_of_lt_of_le (h6 b hbf) hM) (h8 b hbf)
      · have hie : i = ds.length := by simp at hi; omega
        subst hie
        refine ⟨by simp; omega, by simp; omega, ?_⟩
        have e1 : (vs ++ [u])[ds.length]'(by simp; omega) = u := by simp [← h1]
        have e2 : (fss ++ [f])[ds.length]'(by simp; omega) = f := by simp [← h2]
        have e3 : (ds ++ [d])[ds.length]'(by simp) = d := by simp
        rw [e1, e2, e3]
        exact rSl.keep rByte.local_ hr fun b hb => hcell b (hthere b hb) (hfne b hb)
    · simp only [List.flatten_append, List.flatten_cons, List.flatten_nil, List.append_nil]
      unfold List.Nodup
      refine List.pairwise_append.2 ⟨h5.nodup, hm.nodup, fun b hb c hc e => ?_⟩
      subst e
      have := h6 b hb
      have := hm.from_ b hc
      omega
    · simp only [List.flatten_append, List.flatten_cons, List.flatten_nil, List.append_nil] at hb
      rcases List.mem_append.1 hb with hb | hb
      · exact h5.from_ b hb
      · exact Nat.le_trans hbase (hm.from_ b hb)
    · simp only [List.flatten_append, List.flatten_cons, List.flatten_nil, List.append_nil] at hb
      rcases List.mem_append.1 hb with hb | hb
      · rw [hfroz b (Nat.lt_of_lt_of_le (h6 b hb) hM) (h8 b hb)]; exact h5.free b hb
      · rw [hfroz b (hthere b hb) (hfne b hb)]; exact hm.free b hb
    · simp only [List.flatten_append, List.flatten_cons, List.flatten_nil, List.append_nil] at hb
      rcases List.mem_append.1 hb with hb | hb
      · exact Nat.lt_of_lt_of_le (Nat.lt_of_lt_of_le (h6 b hb) hM) q2.size
      · exact Nat.lt_of_lt_of_le (hthere b hb) q2.size
    · simp only [List.flatten_append, List.flatten_cons, List.flatten_nil, List.append_nil] at hb
      rcases List.mem_append.1 hb with hb | hb
      · rcases q4 with q4 | q4
        · rw [q4]; exact h8 b hb
        · rw [q4]; intro e; injection e with e; have := h6 b hb; omega
      · rcases q4 with q4 | q4
        · rw [q4]; exact hfne b hb
        · rw [q4]; intro e; injection e with e; have := hthere b hb; omega

end Go.Proofs.Ytimabbleijkmhaa
