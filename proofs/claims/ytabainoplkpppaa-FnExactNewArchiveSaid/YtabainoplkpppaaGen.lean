/-
  Slices of elements of any kind: one element's place, the slice with one element stored anew, and lists that are marked from the left.
-/
import Derived.Test.YtabainoplkpppaaOwn
import Derived.Test.YtabainoplkpppaaMarkT
import Derived.Lib.QuietBelow
import Derived.Deep.MidRow
namespace Go.Proofs.Ytabainoplkpppaa
open Go.RowKit Go.Sort

theorem addTo (a : Addr) (m n : Nat) : a.add (m + (n + 1)) = ⟨(a.add m).block, (a.add m).off + (n + 1), none⟩ := by
  rw [← Addr.add_add]
  simp [Addr.add]
theorem flat_disj {fss : List (List Addr)} (h : fss.flatten.Nodup) {i j : Nat} (hi : i < fss.length) (hj : j < fss.length) (hne : i ≠ j) {a : Addr} (ha : a ∈ fss[i]) : a ∉ fss[j] := by
  intro hb
  unfold List.Nodup at h
  rw [List.pairwise_flatten] at h
  have h2 := List.pairwise_iff_getElem.1 h.2
  rcases Nat.lt_or_ge i j with hlt | hge
  · exact h2 i j hi hj hlt a ha a hb rfl
  · exact h2 j i hj hi (by omega) a hb a ha rfl
theorem takeEq' {α : Type} {l m : List α} {k : Nat} (h : l.take k = m.take k) (h1 : k < l.length) (h2 : k < m.length) (he : l[k] = m[k]) : l.take (k + 1) = m.take (k + 1) := by
  rw [List.take_succ_eq_append_getElem h1, List.take_succ_eq_append_getElem h2, h, he]

section
variable {α : Type} {k : Nat} {R : Repr α} {w : World} {fs : List Addr} {v : Value} {ds : List α}

/-- The slice itself. -/
theorem rSl.head (h : rSl k R w fs v ds) : ∃ A c, v = .slice A ds.length c ∧ ds.length ≤ c ∧ c ≤ 9223372036854775807 := by
  obtain ⟨A, c, e, h1, h2, h3⟩ := h
  exact ⟨A, c, e, h1, h2⟩

/-- An element's place: its cells one by one, and what is read of them. -/
structure At (k : Nat) (R : Repr α) (w : World) (fs : List Addr) (ad : Addr) (j : Nat) (b o : Nat) (cs : List Value) (fk : List Addr) (d : α) : Prop where
  place : ad.add (j * k) = ⟨b, o, none⟩
  lt : b < w.heap.size
  len : cs.length = k
  cell : ∀ q, (hq : q < cs.length) → w.cell? ⟨b, o + q, none⟩ = some cs[q]
  reads : R w fk cs d
  there : There fk w
  sub : ∀ a, a ∈ fk → a ∈ fs
  mem : ∀ q, q < k → (⟨b, o + q, none⟩ : Addr) ∈ fs

theorem placeAdd {a : Addr} {m b o : Nat} (h : a.add m = ⟨b, o, none⟩) (q : Nat) : a.add (m + q) = ⟨b, o + q, none⟩ := by
  cases q with
  | zero => rw [Nat.add_zero, h]; rfl
  | succ q => rw [addTo, h]
theorem placeOf {a : Addr} {w : World} {u : Value} (h : w.cell? a = some u) : ∃ b o, a = ⟨b, o, none⟩ := by
  have := World.cell?_spot h
  cases a with
  | mk b o s => simp only at this; subst this; exact ⟨b, o, rfl⟩

theorem rSl.at_ (hF : Fixed R) (hk : 0 < k) (h : rSl k R w fs v ds) : ∃ A c, v = .slice A ds.length c ∧ ds.length ≤ c ∧ c ≤ 9223372036854775807 ∧ ∀ j, (hj : j < ds.length) → ∃ ad b o cs fk, A = some ad ∧ At k R w fs ad j b o cs fk ds[j] := by
  obtain ⟨A, c, e, h1, h2, h3⟩ := h
  refine ⟨A, c, e, h1, h2, fun j hj => ?_⟩
  rcases h3 with ⟨rfl, _⟩ | ⟨ad, css, fss, e1, e2, e3, e4, h3⟩
  · cases hj
  · obtain ⟨q1, q2, q3, q4, q5⟩ := h3 j hj
    have p0 := q4 0 (by omega)
    rw [Nat.add_zero] at p0
    obtain ⟨b, o, hP⟩ := placeOf p0
    refine ⟨ad, b, o, css[j], fss[j], e1, hP, ?_, q3, fun q hq => ?_, q5, hF _ _ _ _ q5, fun a ha => ?_, fun q hq => ?_⟩
    · have := World.block_lt_of_cell? _ _ p0
      rwa [hP] at this
    · rw [← placeAdd hP]; exact q4 q hq
    · rw [e4]; exact List.mem_append_right _ (List.mem_flatten.2 ⟨_, List.getElem_mem q2, ha⟩)
    · rw [← placeAdd hP, e4]
      refine List.mem_append_left _ (mem_addrs.2 ⟨j * k + q, ?_, rfl⟩)
      calc j * k + q < j * k + k := by omega
        _ = (j + 1) * k := by rw [Nat.add_mul]; omega
        _ ≤ ds.length * k := Nat.mul_le_mul_right _ hj

/-- One element, and the slice once it is stored anew. -/
theorem rSl.upd (hL : Local R) (hF : Fixed R) (hk : 0 < k) (h : rSl k R w fs v ds) (hn : fs.Nodup) (j : Nat) (hj : j < ds.length) :
    ∃ ad c b o cs fk, v = .slice (some ad) ds.length c ∧ At k R w fs ad j b o cs fk ds[j] ∧ fk.Nodup ∧ (∀ q, q < k → (⟨b, o + q, none⟩ : Addr) ∉ fk) ∧
      (∀ (w' : World) (cs' : List Value) (d' : α), cs'.length = k → (∀ a, a ∈ fs → (∀ q, q < k → a ≠ ⟨b, o + q, none⟩) → a ∉ fk → w'.cell? a = w.cell? a) →
        (∀ q, (hq : q < cs'.length) → w'.cell? ⟨b, o + q, none⟩ = some cs'[q]) → R w' fk cs' d' → rSl k R w' fs v (ds.set j d')) := by
  obtain ⟨A, c, e, h1, h2, h3⟩ := h
  rcases h3 with ⟨rfl, _⟩ | ⟨ad, css, fss, e1, e2, e3, e4, h3⟩
  · cases hj
  obtain ⟨q1, q2, q3, q4, q5⟩ := h3 j hj
  have p0 := q4 0 (by omega)
  rw [Nat.add_zero] at p0
  obtain ⟨b, o, hP⟩ := placeOf p0
  subst e4
  have hn' := hn
  unfold List.Nodup at hn'
  rw [List.pairwise_append] at hn'
  obtain ⟨hn1, hn2, hn3⟩ := hn'
  have inrow : ∀ q, q < ds.length * k → ad.add q ∈ addrs ad (ds.length * k) := fun q hq => mem_addrs.2 ⟨q, hq, rfl⟩
  have infl : ∀ i, (hi : i < fss.length) → ∀ a, a ∈ fss[i] → a ∈ fss.flatten := fun i hi a ha => List.mem_flatten.2 ⟨_, List.getElem_mem hi, ha⟩
  have rowne : ∀ q, q < ds.length * k → ∀ a, a ∈ fss.flatten → a ≠ ad.add q := fun q hq a ha e => hn3 _ (inrow q hq) _ ha e.symm
  have bound : ∀ i q, i < ds.length → q < k → i * k + q < ds.length * k := fun i q hi hq => by
    calc i * k + q < i * k + k := by omega
      _ = (i + 1) * k := by rw [Nat.add_mul]; omega
      _ ≤ ds.length * k := Nat.mul_le_mul_right _ hi
  refine ⟨ad, c, b, o, css[j], fss[j], by rw [e, e1], ⟨hP, ?_, q3, fun q hq => ?_, q5, hF _ _ _ _ q5, fun a ha => List.mem_append_right _ (infl j q2 a ha), fun q hq => ?_⟩, ?_, fun q hq => ?_, ?_⟩
  · have := World.block_lt_of_cell? _ _ p0
    rwa [hP] at this
  · rw [← placeAdd hP]; exact q4 q hq
  · rw [← placeAdd hP]; exact List.mem_append_left _ (inrow _ (bound j q hj hq))
  · have := List.pairwise_flatten.1 hn2
    exact this.1 _ (List.getElem_mem q2)
  · rw [← placeAdd hP]; exact fun ha => rowne _ (bound j q hj hq) _ (infl j q2 _ ha) rfl
  · intro w' cs' d' hlen hsame hcell hR
    refine ⟨A, c, by rw [e]; simp, by simpa using h1, h2, .inr ⟨ad, css.set j cs', fss, e1, by simpa using e2, by simpa using e3, by simp, fun i hi => ?_⟩⟩
    have hi' : i < ds.length := by simpa using hi
    obtain ⟨r1, r2, r3, r4, r5⟩ := h3 i hi'
    by_cases hij : i = j
    · subst hij
      refine ⟨by simpa using r1, r2, by simpa using hlen, fun q hq => ?_, ?_⟩
      · simp only [List.getElem_set_self] at hq ⊢
        rw [placeAdd hP]; exact hcell q hq
      · simp only [List.getElem_set_self]
        exact hR
    · refine ⟨by simpa using r1, r2, ?_, fun q hq => ?_, ?_⟩
      · rw [List.getElem_set_ne (Ne.symm hij)]; exact r3
      · simp only [List.getElem_set_ne (Ne.symm hij)] at hq ⊢
        have hqk : q < k := by omega
        have inj : ∀ q', q' < k → ad.add (i * k + q) ≠ ⟨b, o + q', none⟩ := fun q' hq' e => by
          rw [← placeAdd hP] at e
          have e2 := nodup_inj hn1 (bound i q hi' hqk) (bound j q' hj hq') e
          have : (i * k + q) / k = (j * k + q') / k := by rw [e2]
          rw [Nat.add_comm, Nat.add_comm (j * k), Nat.add_mul_div_right _ _ hk, Nat.add_mul_div_right _ _ hk, Nat.div_eq_of_lt hqk, Nat.div_eq_of_lt hq'] at this
          omega
        rw [hsame _ (List.mem_append_left _ (inrow _ (bound i q hi' hqk))) inj (fun ha => rowne _ (bound i q hi' hqk) _ (infl j q2 _ ha) rfl)]
        exact r4 q hq
      · simp only [List.getElem_set_ne (Ne.symm hij)]
        refine hL _ _ _ _ _ r5 fun a ha => ?_
        have hf := infl i r2 a ha
        exact hsame a (List.mem_append_right _ hf) (fun q hq => by rw [← placeAdd hP]; exact rowne _ (bound j q hj hq) a hf) (flat_disj hn2 r2 q2 hij ha)

theorem At.below {ad : Addr} {j b o : Nat} {cs : List Value} {fk : List Addr} {d : α} {w' : World} (hL : Local R) (h : At k R w fs ad j b o cs fk d) (hb : Below w.heap.size w w') : At k R w' fs ad j b o cs fk d :=
  ⟨h.place, Nat.lt_of_lt_of_le h.lt hb.size, h.len, fun q hq => (hb.cell (p := ⟨b, o + q, none⟩) h.lt).trans (h.cell q hq), hL _ _ _ _ _ h.reads (Same.of_below h.there hb), fun a ha => Nat.lt_of_lt_of_le (h.there a ha) hb.size, h.sub, h.mem⟩
end

section
variable {α : Type} (one : Nat → α → α) (num : α → Nat)
/-- Elements marked from k on: 'num' tells how many marks each takes. -/
def markSeq : Nat → List α → List α
  | _, [] => []
  | k, d :: r => one k d :: markSeq (k + num d) r
def numSeq : List α → Nat
  | [] => 0
  | d :: r => num d + numSeq r
theorem numSeq_snoc : ∀ (l : List α) (d : α), numSeq num (l ++ [d]) = numSeq num l + num d
  | [], d => by simp [numSeq]
  | a :: r, d => by simp only [List.cons_append, numSeq, numSeq_snoc r d]; omega
theorem markSeq_snoc : ∀ (k : Nat) (l : List α) (d : α), markSeq one num k (l ++ [d]) = markSeq one num k l ++ [one (k + numSeq num l) d]
  | k, [], d => by simp [markSeq, numSeq]
  | k, a :: r, d => by
    simp only [List.cons_append, markSeq, markSeq_snoc _ r d, numSeq]
    rw [show k + num a + numSeq num r = k + (num a + numSeq num r) from by omega]
theorem markSeq_length : ∀ (k : Nat) (l : List α), (markSeq one num k l).length = l.length
  | _, [] => rfl
  | k, a :: r => by simp [markSeq, markSeq_length _ r]
theorem numSeq_take {l : List α} {k : Nat} (h : k < l.length) : numSeq num (l.take (k + 1)) = numSeq num (l.take k) + num l[k] := by
  rw [List.take_succ_eq_append_getElem h, numSeq_snoc]
theorem numSeq_take_le : ∀ (l : List α) (k : Nat), numSeq num (l.take k) ≤ numSeq num l
  | [], k => by simp [numSeq]
  | a :: r, 0 => by simp [numSeq]
  | a :: r, k + 1 => by
    have := numSeq_take_le r k
    simp only [List.take_succ_cons, numSeq]; omega
theorem numSeq_get {l : List α} {k : Nat} (h : k < l.length) : num l[k] ≤ numSeq num l := by
  have := numSeq_take num h
  have := numSeq_take_le num l (k + 1)
  omega
theorem markSeq_get : ∀ (k : Nat) (ds : List α) (j : Nat) (h : j < ds.length) (h2 : j < (markSeq one num k ds).length), (markSeq one num k ds)[j] = one (k + numSeq num (ds.take j)) ds[j]
  | _, [], _, h, _ => by cases h
  | k, d :: r, 0, _, _ => by simp [markSeq, numSeq]
  | k, d :: r, j + 1, h, h2 => by
    simp only [markSeq, List.getElem_cons_succ, List.take_succ_cons, numSeq]
    rw [markSeq_get _ r j (by simpa using h)]
    rw [show k + num d + numSeq num (r.take j) = k + (num d + numSeq num (r.take j)) from by omega]
/-- A list of which the first j are marked. -/
def stageSeq (k : Nat) (ds : List α) (j : Nat) : List α := markSeq one num k (ds.take j) ++ ds.drop j
theorem stageSeq_length (k : Nat) (ds : List α) (j : Nat) (h : j ≤ ds.length) : (stageSeq one num k ds j).length = ds.length := by
  unfold stageSeq
  rw [List.length_append, markSeq_length, List.length_take, List.length_drop]; omega
theorem stageSeq_zero (k : Nat) (ds : List α) : stageSeq one num k ds 0 = ds := by simp [stageSeq, markSeq]
theorem stageSeq_all (k : Nat) (ds : List α) : stageSeq one num k ds ds.length = markSeq one num k ds := by simp [stageSeq]
theorem stageSeq_get (k : Nat) (ds : List α) (j : Nat) (h : j < ds.length) (h2 : j < (stageSeq one num k ds j).length) : (stageSeq one num k ds j)[j] = ds[j] := by
  have hl : (markSeq one num k (ds.take j)).length = j := by rw [markSeq_length, List.length_take]; omega
  unfold stageSeq at h2 ⊢
  rw [List.getElem_append_right (by omega)]
  simp [hl]
theorem stageSeq_set (k : Nat) (ds : List α) (j : Nat) (h : j < ds.length) : (stageSeq one num k ds j).set j (one (k + numSeq num (ds.take j)) ds[j]) = stageSeq one num k ds (j + 1) := by
  have hl : (markSeq one num k (ds.take j)).length = j := by rw [markSeq_length, List.length_take]; omega
  unfold stageSeq
  rw [List.set_append_right _ _ (by omega), hl, Nat.sub_self, List.drop_eq_getElem_cons h, List.set_cons_zero, List.take_succ_eq_append_getElem h, markSeq_snoc]
  simp
end

theorem mod3 (c : Nat) : (((c : Int)) % 3 == 0) = decide (c % 3 = 0) := by
  by_cases h : c % 3 = 0
  · rw [decide_eq_true h]; simp; omega
  · rw [decide_eq_false h]; simp; omega

/-- Cells of a block, in their order, as a range. -/
theorem Blk.range {w : World} {g : Nat} {t : TypeId} {cs : Array Value} (h : Blk w g t cs) (o : Nat) (l : List Value) (hl : (cs.toList.drop o).take l.length = l) : w.rangeAt g o l := by
  intro j v hj
  rw [h.cell]
  rw [← hl, List.getElem?_take] at hj
  split at hj
  · rw [List.getElem?_drop] at hj
    simpa using hj
  · cases hj

end Go.Proofs.Ytabainoplkpppaa
