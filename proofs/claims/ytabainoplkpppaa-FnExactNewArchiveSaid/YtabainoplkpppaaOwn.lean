/-
  Rows that a call owns, of elements of any kind: what an append, an insertion and a reading make of them.
-/
import Derived.Test.YtabainoplkpppaaBase
import Derived.Maps.AppendAt
import Derived.Laws.CopyRow
namespace Go.Proofs.Ytabainoplkpppaa
open Go.RowKit

theorem flatten_len {α : Type} {k : Nat} : ∀ (css : List (List α)), (∀ c, c ∈ css → c.length = k) → css.flatten.length = css.length * k
  | [], _ => by simp
  | c :: r, h => by
    rw [List.flatten_cons, List.length_append, h c (by simp), flatten_len r (fun x hx => h x (by simp [hx])), List.length_cons, Nat.add_mul, Nat.one_mul, Nat.add_comm]
theorem flatten_get {α : Type} {k : Nat} : ∀ (css : List (List α)), (∀ c, c ∈ css → c.length = k) → ∀ (i j : Nat) (h : i < css.length), j < k → css.flatten[i * k + j]? = css[i][j]?
  | [], _, _, _, h, _ => by cases h
  | c :: r, h, 0, j, _, hj => by
    have := h c (by simp)
    simp only [Nat.zero_mul, Nat.zero_add, List.flatten_cons, List.getElem_cons_zero]
    rw [List.getElem?_append_left (by omega)]
  | c :: r, h, i + 1, j, hi, hj => by
    have hc := h c (by simp)
    have := flatten_get r (fun x hx => h x (by simp [hx])) i j (by simpa using hi) hj
    simp only [List.flatten_cons, List.getElem_cons_succ]
    rw [List.getElem?_append_right (by rw [hc, Nat.add_mul]; omega), hc, ← this]
    congr 1
    rw [Nat.add_mul]; omega
theorem flatten_take {α : Type} {k : Nat} : ∀ (css : List (List α)), (∀ c, c ∈ css → c.length = k) → ∀ i, i ≤ css.length → css.flatten.take (i * k) = (css.take i).flatten
  | [], _, i, hi => by simp at hi; subst hi; simp
  | c :: r, h, 0, _ => by simp
  | c :: r, h, i + 1, hi => by
    have hc := h c (by simp)
    rw [List.flatten_cons, List.take_succ_cons, List.flatten_cons, ← flatten_take r (fun x hx => h x (by simp [hx])) i (by simpa using hi), show (i + 1) * k = c.length + i * k from by rw [hc, Nat.add_mul]; omega, List.take_length_add_append]
theorem flatten_drop {α : Type} {k : Nat} : ∀ (css : List (List α)), (∀ c, c ∈ css → c.length = k) → ∀ i, i ≤ css.length → css.flatten.drop (i * k) = (css.drop i).flatten
  | [], _, i, hi => by simp
  | c :: r, h, 0, _ => by simp
  | c :: r, h, i + 1, hi => by
    have hc := h c (by simp)
    rw [List.flatten_cons, List.drop_succ_cons, ← flatten_drop r (fun x hx => h x (by simp [hx])) i (by simpa using hi), show (i + 1) * k = c.length + i * k from by rw [hc, Nat.add_mul]; omega, List.drop_length_add_append]

/-- A row of elements that a call owns; what each of them reads lies elsewhere. -/
def OwnL {α : Type} (k : Nat) (E : TypeId) (R : Repr α) (w : World) (base : Nat) (v : Value) (ds : List α) (fs : List Addr) : Prop :=
  ∃ (css : List (List Value)) (fss : List (List Addr)), css.length = ds.length ∧ fss.length = ds.length ∧ fs = fss.flatten ∧ w.ownsRow base E k v ds.length css.flatten ∧
    (∀ i, (h : i < ds.length) → ∃ (h1 : i < css.length) (h2 : i < fss.length), css[i].length = k ∧ R w fss[i] css[i] ds[i]) ∧ (∀ a, a ∈ fs → v.ownBlock ≠ some a.block)
theorem OwnL.cells {α : Type} {k : Nat} {E : TypeId} {R : Repr α} {w : World} {base : Nat} {v : Value} {ds : List α} {fs : List Addr} (h : OwnL k E R w base v ds fs) : ∃ xs, w.ownsRow base E k v ds.length xs := by
  obtain ⟨css, _, _, _, _, h4, _⟩ := h
  exact ⟨_, h4⟩
theorem ownsRow_inj {w : World} {base : Nat} {E : TypeId} {k : Nat} {v : Value} {n : Nat} {xs ys : List Value} (h : w.ownsRow base E k v n xs) (h2 : w.ownsRow base E k v n ys) : xs = ys := by
  obtain ⟨l1, t1⟩ := h
  obtain ⟨l2, t2⟩ := h2
  rcases t1 with ⟨rfl, h0⟩ | ⟨g1, cap, cur, rfl, hb1, hg1, _, _, _, ht1⟩
  · rw [h0, Nat.zero_mul] at l1 l2
    rw [List.eq_nil_of_length_eq_zero l1, List.eq_nil_of_length_eq_zero l2]
  · rcases t2 with ⟨e, _⟩ | ⟨g2, cap2, cur2, e, hb2, hg2, _, _, _, ht2⟩
    · cases e
    · injection e with ea eb ec
      injection ea with ea
      injection ea with ea
      subst ea
      rw [hg1] at hg2
      injection hg2 with hg2
      injection hg2 with hg2
      subst hg2
      rw [← ht1, ← ht2]

section
variable {α : Type} {k : Nat} {E : TypeId} {R : Repr α} {w w' : World} {base : Nat} {v : Value} {ds : List α} {fs : List Addr}

theorem OwnL.start (h : w.ownsRow base E k v 0 []) : OwnL k E R w base v [] [] := ⟨[], [], rfl, rfl, rfl, h, (fun _ h => by cases h), (fun _ h => by cases h)⟩
theorem OwnL.mono {base' : Nat} (h : OwnL k E R w base v ds fs) (hb : base' ≤ base) : OwnL k E R w base' v ds fs := by
  obtain ⟨css, fss, h1, h2, h3, ⟨hl, h4⟩, h5, h6⟩ := h
  refine ⟨css, fss, h1, h2, h3, ⟨hl, ?_⟩, h5, h6⟩
  rcases h4 with h | ⟨g, cap, cur, hv, hbb, h⟩
  · exact .inl h
  · exact .inr ⟨g, cap, cur, hv, Nat.le_trans hb hbb, h⟩
theorem OwnL.lt (h : OwnL k E R w base v ds fs) : ∀ b, v.ownBlock = some b → base ≤ b ∧ b < w.heap.size := by
  obtain ⟨_, _, _, _, _, h4, _, _⟩ := h
  exact fun b hb => h4.lt b hb
theorem OwnL.there (hF : Fixed R) (h : OwnL k E R w base v ds fs) : There fs w := by
  obtain ⟨css, fss, h1, h2, rfl, h4, h5, h6⟩ := h
  intro a ha
  obtain ⟨f, hf, hm⟩ := List.mem_flatten.1 ha
  obtain ⟨i, hi, rfl⟩ := List.getElem_of_mem hf
  obtain ⟨p1, p2, p3, p4⟩ := h5 i (by omega)
  exact hF _ _ _ _ p4 a hm
/-- Where the row's block and all that is read are as they were. -/
theorem OwnL.keep (hR : Local R) (h : OwnL k E R w base v ds fs) (hb : ∀ b, v.ownBlock = some b → w'.heap[b]? = w.heap[b]?) (hs : Same fs w w') : OwnL k E R w' base v ds fs := by
  obtain ⟨css, fss, h1, h2, rfl, h4, h5, h6⟩ := h
  refine ⟨css, fss, h1, h2, rfl, ⟨h4.1, ?_⟩, fun i hi => ?_, h6⟩
  · rcases h4.2 with h | ⟨g, cap, cur, hv, hbb, hg, h3⟩
    · exact .inl h
    · exact .inr ⟨g, cap, cur, hv, hbb, (hb g (by rw [hv]; rfl)).trans hg, h3⟩
  · obtain ⟨p1, p2, p3, p4⟩ := h5 i hi
    exact ⟨p1, p2, p3, hR _ _ _ _ _ p4 (hs.mem (List.getElem_mem p2))⟩
theorem OwnL.below (hR : Local R) (hF : Fixed R) (h : OwnL k E R w base v ds fs) (hb : Below w.heap.size w w') : OwnL k E R w' base v ds fs :=
  h.keep hR (fun b hv => hb.block b (h.lt b hv).2) (Same.of_below (h.there hF) hb)
theorem OwnL.wrote (hR : Local R) (hF : Fixed R) (h : OwnL k E R w base v ds fs) {gs : List Addr} (hw : Wrote gs w w') (h1 : ∀ a, a ∈ gs → v.ownBlock ≠ some a.block) (h2 : ∀ a, a ∈ fs → a ∉ gs) : OwnL k E R w' base v ds fs :=
  h.keep hR (fun b hv => hw.block b (h.lt b hv).2 fun a ha e => h1 a ha (by rw [hv, e])) (hw.same (h.there hF) h2)
theorem OwnL.length (h : OwnL k E R w base v ds fs) : ∃ A c, v = .slice A ds.length c ∧ ds.length ≤ c ∧ c ≤ 9223372036854775807 := by
  obtain ⟨css, fss, h1, h2, rfl, h4, h5, h6⟩ := h
  rcases h4.2 with ⟨rfl, h⟩ | ⟨g, cap, cur, rfl, hb, hg, hnc, hcm, hcs, htake⟩
  · exact ⟨none, 0, by rw [h], by omega, by omega⟩
  · unfold maxLen at hcm
    exact ⟨_, _, rfl, hnc, by omega⟩
theorem OwnL.far (h : OwnL k E R w base v ds fs) : ∀ a, a ∈ fs → v.ownBlock ≠ some a.block := by
  obtain ⟨_, _, _, _, _, _, _, h6⟩ := h
  exact h6

theorem OwnL.ones (hO : ∀ w f cs d, R w f cs d → ∀ u, u ∈ cs → u.oneCell' = true) (h : OwnL k E R w base v ds fs) {xs : List Value} (hx : w.ownsRow base E k v ds.length xs) : ∀ u, u ∈ xs → u.oneCell' = true := by
  obtain ⟨css, fss, h1, h2, h3, h4, h5, h6⟩ := h
  intro u hu
  rw [ownsRow_inj hx h4] at hu
  obtain ⟨c, hc, huc⟩ := List.mem_flatten.1 hu
  obtain ⟨i, hi, rfl⟩ := List.getElem_of_mem hc
  obtain ⟨_, _, _, p4⟩ := h5 i (by omega)
  exact hO _ _ _ _ p4 u huc

/-- As a reading. -/
theorem OwnL.reads (h : OwnL k E R w base v ds fs) : ∃ gs, rSl k R w (gs ++ fs) v ds ∧ gs.Nodup ∧ (∀ a, a ∈ gs → v.ownBlock = some a.block) ∧ (∀ a, a ∈ gs → w.frozen? a = false) ∧ (∀ a, a ∈ gs → base ≤ a.block) ∧ (∀ a, a ∈ fs → v.ownBlock ≠ some a.block) := by
  have hlt := h.lt
  obtain ⟨css, fss, h1, h2, rfl, ⟨hl, h4⟩, h5, h6⟩ := h
  have hw : ∀ c, c ∈ css → c.length = k := by
    intro c hc
    obtain ⟨i, hi, rfl⟩ := List.getElem_of_mem hc
    obtain ⟨_, _, p3, _⟩ := h5 i (by omega)
    exact p3
  rcases h4 with ⟨rfl, h0⟩ | ⟨g, cap, cur, rfl, hb, hg, hnc, hcm, hcs, htake⟩
  · have : ds = [] := List.eq_nil_of_length_eq_zero h0
    subst this
    have : fss = [] := List.eq_nil_of_length_eq_zero h2
    subst this
    exact ⟨[], ⟨none, 0, rfl, Nat.le_refl _, by omega, .inl ⟨rfl, rfl⟩⟩, List.nodup_nil, (fun _ h => by cases h), (fun _ h => by cases h), (fun _ h => by cases h), h6⟩
  · simp only [maxLen] at hcm
    refine ⟨addrs ⟨g, 0, none⟩ (ds.length * k), ⟨some ⟨g, 0, none⟩, cap, rfl, hnc, by omega, .inr ⟨⟨g, 0, none⟩, css, fss, rfl, h1, h2, rfl, fun i hi => ?_⟩⟩, nodup_addrs rfl, fun a ha => ?_, fun a ha => ?_, fun a ha => ?_, h6⟩
    · obtain ⟨p1, p2, p3, p4⟩ := h5 i hi
      refine ⟨p1, p2, p3, fun j hj => ?_, p4⟩
      rw [addNew, cell_of_row w g _ cur E (0, 0) hg]
      have hq : i * k + j < ds.length * k := by
        rw [p3] at hj
        calc i * k + j < i * k + k := by omega
          _ = (i + 1) * k := by rw [Nat.add_mul]; omega
          _ ≤ ds.length * k := Nat.mul_le_mul_right _ hi
      have h3 : (cur.toList.take (ds.length * k))[i * k + j]? = some css[i][j] := by
        rw [htake, flatten_get css hw i j p1 (by omega)]
        exact List.getElem?_eq_getElem hj
      rw [List.getElem?_take, if_pos hq] at h3
      simpa using h3
    · obtain ⟨q, _, rfl⟩ := mem_addrs.1 ha
      rw [addNew]; rfl
    · obtain ⟨q, _, rfl⟩ := mem_addrs.1 ha
      rw [addNew]; exact frozen_of_row w g q cur E hg
    · obtain ⟨q, _, rfl⟩ := mem_addrs.1 ha
      rw [addNew]; exact hb
/-- .. in memory of one's own. -/
theorem OwnL.readsMine (h : OwnL k E R w base v ds fs) (hm : Mine base w fs) : ∃ gs, rSl k R w gs v ds ∧ Mine base w gs := by
  obtain ⟨gs, h1, h2, h3, h4, h5, h6⟩ := h.reads
  refine ⟨gs ++ fs, h1, ?_, fun a ha => ?_, fun a ha => ?_⟩
  · unfold List.Nodup
    refine List.pairwise_append.2 ⟨h2, hm.nodup, fun a ha b hb e => ?_⟩
    subst e
    exact h6 a hb (h3 a ha)
  · rcases List.mem_append.1 ha with ha | ha
    · exact h5 a ha
    · exact hm.from_ a ha
  · rcases List.mem_append.1 ha with ha | ha
    · exact h4 a ha
    · exact hm.free a ha

/-- From a row's new cells: an element laid in at a place. -/
theorem OwnL.insert (hR : Local R) (hF : Fixed R) (h : OwnL k E R w base v ds fs) {i : Nat} (hi : i ≤ ds.length) {us : List Value} {f : List Addr} {d : α} {v' : Value}
    {xs : List Value} (hx : w.ownsRow base E k v ds.length xs) (hw : w'.ownsRow base E k v' (ds.length + 1) (xs.take (i * k) ++ us ++ xs.drop (i * k)))
    (hus : us.length = k) (hg : w.grownBy w' v.ownBlock) (hv : v'.ownBlock = v.ownBlock ∨ v'.ownBlock = some w.heap.size) (hr : R w f us d) (hfd : ∀ a, a ∈ f → v.ownBlock ≠ some a.block) :
    ∃ fs', OwnL k E R w' base v' (ds.take i ++ d :: ds.drop i) fs' ∧ fs'.Perm (fs ++ f) := by
  have hthere := h.there hF
  obtain ⟨css, fss, h1, h2, rfl, h4, h5, h6⟩ := h
  have hwd : ∀ c, c ∈ css → c.length = k := by
    intro c hc
    obtain ⟨i, hi, rfl⟩ := List.getElem_of_mem hc
    obtain ⟨_, _, p3, _⟩ := h5 i (by omega)
    exact p3
  have hft := hF _ _ _ _ hr
  have hcell : ∀ b : Addr, b.block < w.heap.size → v.ownBlock ≠ some b.block → w'.cell? b = w.cell? b := fun b hb hne => hg.cell_far b hb (fun e => hne e.symm)
  have hxl : (ds.take i ++ d :: ds.drop i).length = ds.length + 1 := by simp; omega
  refine ⟨(fss.take i ++ f :: fss.drop i).flatten, ⟨css.take i ++ us :: css.drop i, fss.take i ++ f :: fss.drop i, by simp; omega, by simp; omega, rfl, ?_, fun q hq => ?_, fun b hb => ?_⟩, ?_⟩
  · rw [hxl]
    rw [ownsRow_inj hx h4, flatten_take css hwd i (by omega), flatten_drop css hwd i (by omega)] at hw
    simpa [List.append_assoc] using hw
  · have hgo : ∀ q', (hq' : q' < ds.length) → ∃ (h1 : q' < css.length) (h2 : q' < fss.length), css[q'].length = k ∧ R w' fss[q'] css[q'] ds[q'] := by
      intro q' hq'
      obtain ⟨p1, p2, p3, p4⟩ := h5 q' hq'
      refine ⟨p1, p2, p3, hR _ _ _ _ _ p4 fun b hb => ?_⟩
      have hbf := List.mem_flatten.2 ⟨_, List.getElem_mem p2, hb⟩
      exact hcell b (hthere b hbf) (h6 b hbf)
    rcases Nat.lt_trichotomy q i with hlt | he | hgt
    · obtain ⟨p1, p2, p3, p4⟩ := hgo q (by omega)
      refine ⟨by simp; omega, by simp; omega, ?_⟩
      have e1 : (css.take i ++ us :: css.drop i)[q]'(by simp; omega) = css[q] := by rw [List.getElem_append_left (by simp; omega)]; simp
      have e2 : (fss.take i ++ f :: fss.drop i)[q]'(by simp; omega) = fss[q] := by rw [List.getElem_append_left (by simp; omega)]; simp
      have e3 : (ds.take i ++ d :: ds.drop i)[q]'hq = ds[q]'(by omega) := by rw [List.getElem_append_left (by simp; omega)]; simp
      rw [e1, e2, e3]
      exact ⟨p3, p4⟩
    · subst he
      refine ⟨by simp; omega, by simp; omega, ?_⟩
      have e1 : (css.take q ++ us :: css.drop q)[q]'(by simp; omega) = us := by rw [List.getElem_append_right (by simp; omega)]; simp [Nat.min_eq_left (show q ≤ css.length by omega)]
      have e2 : (fss.take q ++ f :: fss.drop q)[q]'(by simp; omega) = f := by rw [List.getElem_append_right (by simp; omega)]; simp [Nat.min_eq_left (show q ≤ fss.length by omega)]
      have e3 : (ds.take q ++ d :: ds.drop q)[q]'hq = d := by rw [List.getElem_append_right (by simp; omega)]; simp [Nat.min_eq_left hi]
      rw [e1, e2, e3]
      exact ⟨hus, hR _ _ _ _ _ hr fun b hb => hcell b (hft b hb) (hfd b hb)⟩
    · obtain ⟨q', rfl⟩ : ∃ q', q = q' + 1 := ⟨q - 1, by omega⟩
      rw [hxl] at hq
      obtain ⟨p1, p2, p3, p4⟩ := hgo q' (by omega)
      refine ⟨by simp; omega, by simp; omega, ?_⟩
      have e1 : (css.take i ++ us :: css.drop i)[q' + 1]'(by simp; omega) = css[q'] := by
        rw [List.getElem_append_right (by simp; omega), List.getElem_cons]
        simp only [List.length_take, Nat.min_eq_left (show i ≤ css.length by omega), List.getElem_drop]
        rw [dif_neg (by omega)]
        congr 1; omega
      have e2 : (fss.take i ++ f :: fss.drop i)[q' + 1]'(by simp; omega) = fss[q'] := by
        rw [List.getElem_append_right (by simp; omega), List.getElem_cons]
        simp only [List.length_take, Nat.min_eq_left (show i ≤ fss.length by omega), List.getElem_drop]
        rw [dif_neg (by omega)]
        congr 1; omega
      have e3 : (ds.take i ++ d :: ds.drop i)[q' + 1]'(by simp; omega) = ds[q']'(by omega) := by
        rw [List.getElem_append_right (by simp; omega), List.getElem_cons]
        simp only [List.length_take, Nat.min_eq_left hi, List.getElem_drop]
        rw [dif_neg (by omega)]
        congr 1; omega
      rw [e1, e2, e3]
      exact ⟨p3, p4⟩
  · have hb' : b ∈ fss.flatten ∨ b ∈ f := by
      obtain ⟨l, hl, hbl⟩ := List.mem_flatten.1 hb
      rcases List.mem_append.1 hl with hl | hl
      · exact .inl (List.mem_flatten.2 ⟨l, List.mem_of_mem_take hl, hbl⟩)
      · rcases List.mem_cons.1 hl with rfl | hl
        · exact .inr hbl
        · exact .inl (List.mem_flatten.2 ⟨l, List.mem_of_mem_drop hl, hbl⟩)
    have hbs : b.block < w.heap.size := hb'.elim (hthere b) (hft b)
    have hbn : v.ownBlock ≠ some b.block := hb'.elim (h6 b) (hfd b)
    rcases hv with e | e
    · rw [e]; exact hbn
    · rw [e]; intro e2; injection e2 with e2; omega
  · have : (fss.take i ++ f :: fss.drop i).Perm (fss ++ [f]) := by
      have h0 : (fss ++ [f]) = fss.take i ++ (fss.drop i ++ [f]) := by rw [← List.append_assoc, List.take_append_drop]
      rw [h0]
      exact List.Perm.append_left _ (List.perm_append_comm (l₁ := [f]) (l₂ := fss.drop i))
    have := this.flatten
    simpa using this

end

/-- append of one element, onto a row that the call owns. -/
theorem wpAppendElem {α : Type} {k : Nat} {E : TypeId} {R : Repr α} {P : Program} {w : World} {ops : Array Oper} {rest : List Oper} {o : Oper} {a : Act} {Q : Exit → Act → World → Prop} (hgd : o.guard = none) (s x : Operand) (t : TypeId)
    (ho : o.op = .call { callee := .builtin .append, args := #[s, x], argTypes := #[t, t] })
    (z : Value) (bytes : Nat) (ht : P.underlying t = some (.slice E)) (hi : (P.info? E).map (fun i => (i.zero, i.size, i.bytes)) = some (some z, k, bytes)) (hzs : z.cells.size = k) (hk : 0 < k)
    (hR : Local R) (hF : Fixed R) (base : Nat) (v : Value) (ds : List α) (fs : List Addr) (hs : a.eval s = v) (hown : OwnL k E R w base v ds fs)
    (g : Nat) (us : List Value) (f : List Addr) (d : α) (hx : a.eval x = .slice (some ⟨g, 0, none⟩) 1 1) (hus : us.length = k) (hblk : Blk w g E us.toArray) (h1 : ∀ u ∈ us, u.oneCell' = true)
    (hr : R w f us d) (hfd : ∀ a, a ∈ f → v.ownBlock ≠ some a.block) (hn : ds.length + 1 ≤ 1000000000) (hb : bytes ≤ 1000) (hbase : base ≤ w.heap.size)
    (h : ∀ v' w' fs', OwnL k E R w' base v' (ds ++ [d]) fs' → fs'.Perm (fs ++ f) → w.grownBy w' v.ownBlock → (v'.ownBlock = v.ownBlock ∨ v'.ownBlock = some w.heap.size) → (∀ b, v.ownBlock = some b → base ≤ b) → wpList P ops Q rest (a.put o.dst v') w') : wpList P ops Q (o :: rest) a w := by
  obtain ⟨i, hi0, hz0, hz1, hz2⟩ := info_parts hi
  have hbb : (ds.length + 1) * bytes ≤ 140737488355328 := Nat.le_trans (Nat.mul_le_mul hn hb) (by omega)
  have hown0 := hown
  obtain ⟨css, fss, e1, e2, e3, h4, h5, h6⟩ := hown0
  refine wpList_append_own_at w hgd s x t ho base E i z k bytes ht hi0 hz0 hz1 hz2 hzs hk v ds.length css.flatten hs h4 ⟨g, 0, none⟩ 1 1 us hx (by omega) (fun j u hu => ?_) h1 (by simp only [maxLen]; omega) hbb hbase (fun v' w' q1 q2 q3 q4 => ?_)
  · rw [addNew, hblk.cell]
    simpa using hu
  · have hins : ∃ fs', OwnL k E R w' base v' (ds.take ds.length ++ d :: ds.drop ds.length) fs' ∧ fs'.Perm (fs ++ f) := by
      refine OwnL.insert (v' := v') (us := us) hR hF ⟨css, fss, e1, e2, e3, h4, h5, h6⟩ (Nat.le_refl _) h4 ?_ hus q2 q4 hr hfd
      rw [← h4.1, List.take_length, List.drop_length]
      simpa using q1
    obtain ⟨fs', w1, w2⟩ := hins
    rw [List.take_length, List.drop_length] at w1
    exact h v' w' fs' w1 w2 q2 q4 (fun b hb => (hown.lt b hb).1)

section
variable {α : Type} {k : Nat} {E : TypeId} {R : Repr α} {w w' : World} {base : Nat} {v : Value} {ds : List α} {fs : List Addr}

/-- From a row's new cells: elements laid behind it. -/
theorem OwnL.extend (hR : Local R) (hF : Fixed R) (h : OwnL k E R w base v ds fs) {ds2 : List α} {css2 : List (List Value)} {fss2 : List (List Addr)} {v' : Value} {xs : List Value} (hx : w.ownsRow base E k v ds.length xs)
    (hw : w'.ownsRow base E k v' (ds.length + ds2.length) (xs ++ css2.flatten)) (hc : css2.length = ds2.length) (hf : fss2.length = ds2.length) (hg : w.grownBy w' v.ownBlock) (hv : v'.ownBlock = v.ownBlock ∨ v'.ownBlock = some w.heap.size)
    (hr : ∀ i, (h : i < ds2.length) → ∃ (h1 : i < css2.length) (h2 : i < fss2.length), css2[i].length = k ∧ R w fss2[i] css2[i] ds2[i]) (hfd : ∀ a, a ∈ fss2.flatten → v.ownBlock ≠ some a.block) :
    OwnL k E R w' base v' (ds ++ ds2) (fs ++ fss2.flatten) := by
  have hthere := h.there hF
  obtain ⟨css, fss, h1, h2, rfl, h4, h5, h6⟩ := h
  have ht2 : ∀ a, a ∈ fss2.flatten → a.block < w.heap.size := by
    intro a ha
    obtain ⟨f, hf2, hm⟩ := List.mem_flatten.1 ha
    obtain ⟨i, hi, rfl⟩ := List.getElem_of_mem hf2
    obtain ⟨p1, p2, p3, p4⟩ := hr i (by omega)
    exact hF _ _ _ _ p4 a hm
  have hcell : ∀ b : Addr, b.block < w.heap.size → v.ownBlock ≠ some b.block → w'.cell? b = w.cell? b := fun b hb hne => hg.cell_far b hb (fun e => hne e.symm)
  refine ⟨css ++ css2, fss ++ fss2, by simp [h1, hc], by simp [h2, hf], by simp, ?_, fun q hq => ?_, fun b hb => ?_⟩
  · rw [List.length_append, List.flatten_append, ← ownsRow_inj hx h4]
    exact hw
  · rcases Nat.lt_or_ge q ds.length with hlt | hge
    · obtain ⟨p1, p2, p3, p4⟩ := h5 q hlt
      refine ⟨by simp; omega, by simp; omega, ?_⟩
      rw [List.getElem_append_left p1, List.getElem_append_left p2, List.getElem_append_left hlt]
      refine ⟨p3, hR _ _ _ _ _ p4 fun b hb => ?_⟩
      have hbf := List.mem_flatten.2 ⟨_, List.getElem_mem p2, hb⟩
      exact hcell b (hthere b hbf) (h6 b hbf)
    · rw [List.length_append] at hq
      obtain ⟨p1, p2, p3, p4⟩ := hr (q - ds.length) (by omega)
      refine ⟨by simp; omega, by simp; omega, ?_⟩
      have e1 : (css ++ css2)[q]'(by simp; omega) = css2[q - ds.length] := by rw [List.getElem_append_right (by omega)]; simp only [h1]
      have e2 : (fss ++ fss2)[q]'(by simp; omega) = fss2[q - ds.length] := by rw [List.getElem_append_right (by omega)]; simp only [h2]
      have e3 : (ds ++ ds2)[q]'(by simp; omega) = ds2[q - ds.length]'(by omega) := by rw [List.getElem_append_right (by omega)]
      rw [e1, e2, e3]
      refine ⟨p3, hR _ _ _ _ _ p4 fun b hb => ?_⟩
      have hbf := List.mem_flatten.2 ⟨_, List.getElem_mem p2, hb⟩
      exact hcell b (ht2 b hbf) (hfd b hbf)
  · have hbs : b.block < w.heap.size ∧ v.ownBlock ≠ some b.block := (List.mem_append.1 hb).elim (fun h => ⟨hthere b h, h6 b h⟩) (fun h => ⟨ht2 b h, hfd b h⟩)
    rcases hv with e | e
    · rw [e]; exact hbs.2
    · rw [e]; intro e2; injection e2 with e2; have := hbs.1; omega

end

theorem run_append_none {P : Program} (w : World) (base : Nat) (t ty e : TypeId) (i : TypeInfo) (size : Nat) (ht : P.underlying t = some (.slice e)) (hi : P.info? e = some i) (v : Value) (n : Nat) (xs : List Value) (hown : w.ownsRow base e size v n xs) (c : Nat) :
    (Builtin.append_ #[t, t] ty #[v, .slice none 0 c]).run P w = .ok v w := by
  rcases hown.2 with ⟨rfl, rfl⟩ | ⟨g, cap, cur, rfl, hb, hg, hnc, hcm, hcs, htake⟩
  · simp [Builtin.append_, run_underlying ht, sizeOf, typeInfo, hi, Builtin.lenOf, Builtin.firstCells]
  · have h1 : (n : Int) + 0 ≤ (cap : Int) := by omega
    simp [Builtin.append_, run_underlying ht, sizeOf, typeInfo, hi, Builtin.lenOf, Builtin.firstCells, hnc, storeCells]

/-- append of all elements of a slice, onto a row that the call owns: the run. -/
def Appended {α : Type} (k : Nat) (E : TypeId) (R : Repr α) (base : Nat) (w : World) (ob : Option Nat) (ds : List α) (fs gs : List Addr) (v' : Value) (w' : World) : Prop :=
  ∃ hs, OwnL k E R w' base v' ds (fs ++ hs) ∧ hs.Sublist gs ∧ w.grownBy w' ob ∧ (v'.ownBlock = ob ∨ v'.ownBlock = some w.heap.size)

theorem OwnL.appendRun {α : Type} {k : Nat} {E : TypeId} {R : Repr α} {P : Program} {w : World} (t ty : TypeId) (z : Value) (bytes : Nat) (ht : P.underlying t = some (.slice E)) (hi : (P.info? E).map (fun i => (i.zero, i.size, i.bytes)) = some (some z, k, bytes)) (hzs : z.cells.size = k) (hk : 0 < k)
    (hR : Local R) (hF : Fixed R) (hO : ∀ w f cs d, R w f cs d → ∀ u, u ∈ cs → u.oneCell' = true) (base : Nat) (v : Value) (ds : List α) (fs : List Addr) (hown : OwnL k E R w base v ds fs) (u : Value) (ds2 : List α) (gs : List Addr) (hsrc : rSl k R w gs u ds2) (hfd : ∀ a, a ∈ gs → v.ownBlock ≠ some a.block)
    (hn : ds.length + ds2.length ≤ 1000000000) (hb : bytes ≤ 1000) (hbase : base ≤ w.heap.size) :
    ∃ v' w', (Builtin.append_ #[t, t] ty #[v, u]).run P w = .ok v' w' ∧ Appended k E R base w v.ownBlock (ds ++ ds2) fs gs v' w' := by
  obtain ⟨i, hi0, hz0, hz1, hz2⟩ := info_parts hi
  obtain ⟨xs, hxs⟩ := hown.cells
  have hbb : (ds.length + ds2.length) * bytes ≤ 140737488355328 := Nat.le_trans (Nat.mul_le_mul hn hb) (by omega)
  obtain ⟨A, c, rfl, hc1, hc2, hs⟩ := hsrc
  have main : ∀ (ad : Addr) (css : List (List Value)) (fss : List (List Addr)), css.length = ds2.length → fss.length = ds2.length → (∀ a, a ∈ fss.flatten → a ∈ gs) → fss.flatten.Sublist gs →
      (∀ i, (h : i < ds2.length) → ∃ (h1 : i < css.length) (h2 : i < fss.length), css[i].length = k ∧ (∀ j, (hj : j < css[i].length) → w.cell? (ad.add (i * k + j)) = some css[i][j]) ∧ R w fss[i] css[i] ds2[i]) →
      ∃ v' w', (Builtin.append_ #[t, t] ty #[v, .slice (some ad) ds2.length c]).run P w = .ok v' w' ∧ Appended k E R base w v.ownBlock (ds ++ ds2) fs gs v' w' := by
    intro ad css fss h1 h2 h3 h4 h5
    have hw : ∀ c, c ∈ css → c.length = k := by
      intro c hc
      obtain ⟨i, hi, rfl⟩ := List.getElem_of_mem hc
      obtain ⟨_, _, p3, _⟩ := h5 i (by omega)
      exact p3
    obtain ⟨v', w', q1, q2, q3, q4, q5⟩ := run_append_own_at (P := P) w base t ty E i z k bytes ht hi0 hz0 hz1 hz2 hzs hk v ds.length xs hxs ad ds2.length c css.flatten (by rw [flatten_len css hw, h1]) (fun j x hj => by
        have hlt : j < ds2.length * k := by
          have := (List.getElem?_eq_some_iff.1 hj).1
          rw [flatten_len css hw, h1] at this
          exact this
        have hi2 : j / k < ds2.length := by rw [Nat.div_lt_iff_lt_mul hk]; exact hlt
        obtain ⟨p1, p2, p3, p4, p5⟩ := h5 (j / k) hi2
        have hm : j % k < k := Nat.mod_lt _ hk
        have e : j / k * k + j % k = j := by rw [Nat.mul_comm]; exact Nat.div_add_mod j k
        have := flatten_get css hw (j / k) (j % k) p1 hm
        rw [e, hj, List.getElem?_eq_getElem (by omega)] at this
        injection this with this
        rw [this, ← p4 (j % k) (by omega), e]) (fun x hx => by
        obtain ⟨cc, hcc, hxc⟩ := List.mem_flatten.1 hx
        obtain ⟨q, hq, rfl⟩ := List.getElem_of_mem hcc
        obtain ⟨_, _, _, _, p5⟩ := h5 q (by omega)
        exact hO _ _ _ _ p5 x hxc) (by simp only [maxLen]; omega) hbb hbase
    exact ⟨v', w', q1, fss.flatten, OwnL.extend hR hF hown hxs q2 h1 h2 q3 q5 (fun i hi => by obtain ⟨p1, p2, p3, p4, p5⟩ := h5 i hi; exact ⟨p1, p2, p3, p5⟩) (fun a ha => hfd a (h3 a ha)), h4, q3, q5⟩
  rcases hs with ⟨rfl, rfl⟩ | ⟨ad, css, fss, rfl, h1, h2, rfl, h5⟩
  · cases A with
    | none => exact ⟨v, w, run_append_none w base t ty E i k ht hi0 v ds.length xs hxs c, [], by simpa using hown, List.Sublist.refl _, ⟨rfl, rfl, rfl, Nat.le_refl _, fun _ _ _ => rfl⟩, .inl rfl⟩
    | some ad => exact main ad [] [] rfl rfl (fun a ha => by cases ha) (List.Sublist.refl _) (fun i hi => by cases hi)
  · exact main ad css fss h1 h2 (fun a ha => List.mem_append_right _ ha) (List.sublist_append_right _ _) h5

theorem wpList_append_of {P : Program} {w : World} {ops : Array Oper} {rest : List Oper} {o : Oper} {a : Act} {Q : Exit → Act → World → Prop} {S : Value → World → Prop} (hgd : o.guard = none) (s x : Operand) (t : TypeId)
    (ho : o.op = .call { callee := .builtin .append, args := #[s, x], argTypes := #[t, t] }) (v u : Value) (hs : a.eval s = v) (hx : a.eval x = u) (hr : ∃ v' w', (Builtin.append_ #[t, t] o.type #[v, u]).run P w = .ok v' w' ∧ S v' w')
    (h : ∀ v' w', S v' w' → wpList P ops Q rest (a.put o.dst v') w') : wpList P ops Q (o :: rest) a w := by
  obtain ⟨v', w', h1, h2⟩ := hr
  refine wpList_plain hgd fun K hK => ?_
  unfold Oper.wp execOp
  simp only [ho, resolve, invoke, builtin, Sem.run_bind, Sem.run_pure, Result.andThen_ok, List.map_toArray, List.map_cons, List.map_nil, hs, hx, h1]
  exact hK _ _ (h v' w' h2)

theorem step_append_of {P : Program} {w : World} {ops : Array Oper} {o : Oper} {a : Act} {K : Act → World → Prop} {Q : Exit → Act → World → Prop} {E : Prop} {S : Value → World → Prop} (hgd : o.guard = none) (s x : Operand) (t : TypeId)
    (ho : o.op = .call { callee := .builtin .append, args := #[s, x], argTypes := #[t, t] }) (v u : Value) (hs : a.eval s = v) (hx : a.eval x = u) (hr : ∃ v' w', (Builtin.append_ #[t, t] o.type #[v, u]).run P w = .ok v' w' ∧ S v' w')
    (h : ∀ v' w', S v' w' → K (a.put o.dst v') w') : if Region.wanted o (yielded ops a.tmps) = true then Oper.wp P o a w K Q else E := by
  have hw : Region.wanted o (yielded ops a.tmps) = true := by simp [Region.wanted, hgd]
  rw [if_pos hw]
  obtain ⟨v', w', h1, h2⟩ := hr
  unfold Oper.wp execOp
  simp only [ho, resolve, invoke, builtin, Sem.run_bind, Sem.run_pure, Result.andThen_ok, List.map_toArray, List.map_cons, List.map_nil, hs, hx, h1]
  exact h v' w' h2

/-- append of one element that lies in a block of its own: the run. -/
theorem OwnL.appendOne {α : Type} {k : Nat} {E : TypeId} {R : Repr α} {P : Program} {w : World} (t ty : TypeId) (z : Value) (bytes : Nat) (ht : P.underlying t = some (.slice E)) (hi : (P.info? E).map (fun i => (i.zero, i.size, i.bytes)) = some (some z, k, bytes)) (hzs : z.cells.size = k) (hk : 0 < k)
    (hR : Local R) (hF : Fixed R) (hO : ∀ w f cs d, R w f cs d → ∀ u, u ∈ cs → u.oneCell' = true) (base : Nat) (v : Value) (ds : List α) (fs : List Addr) (hown : OwnL k E R w base v ds fs) (g : Nat) (us : List Value) (f : List Addr) (d : α) (hus : us.length = k) (hblk : Blk w g E us.toArray) (hr : R w f us d) (hfd : ∀ a, a ∈ f → v.ownBlock ≠ some a.block)
    (hn : ds.length + 1 ≤ 1000000000) (hb : bytes ≤ 1000) (hbase : base ≤ w.heap.size) :
    ∃ v' w', (Builtin.append_ #[t, t] ty #[v, .slice (some ⟨g, 0, none⟩) 1 1]).run P w = .ok v' w' ∧ Appended k E R base w v.ownBlock (ds ++ [d]) fs f v' w' := by
  obtain ⟨i, hi0, hz0, hz1, hz2⟩ := info_parts hi
  obtain ⟨xs, hxs⟩ := hown.cells
  have hbb : (ds.length + 1) * bytes ≤ 140737488355328 := Nat.le_trans (Nat.mul_le_mul hn hb) (by omega)
  obtain ⟨v', w', q1, q2, q3, q4, q5⟩ := run_append_own_at (P := P) w base t ty E i z k bytes ht hi0 hz0 hz1 hz2 hzs hk v ds.length xs hxs ⟨g, 0, none⟩ 1 1 us (by omega) (fun j u hu => by rw [addNew, hblk.cell]; simpa using hu) (hO _ _ _ _ hr) (by simp only [maxLen]; omega) hbb hbase
  have := OwnL.extend (ds2 := [d]) (css2 := [us]) (fss2 := [f]) (v' := v') (w' := w') hR hF hown hxs (by simpa using q2) rfl rfl q3 q5 (fun i hi => by
    have : i = 0 := by simpa using hi
    subst this
    exact ⟨by simp, by simp, hus, hr⟩) (fun a ha => hfd a (by simpa using ha))
  exact ⟨v', w', q1, f, by simpa using this, List.Sublist.refl _, q3, q5⟩

/-- A slice cut in two: both parts' readings. -/
theorem rSl.split {α : Type} {k : Nat} {R : Repr α} {w : World} {fs : List Addr} {A : Option Addr} {n c : Nat} {ds : List α} (h : rSl k R w fs (.slice A n c) ds) {j : Nat} (hj : j ≤ ds.length) :
    ∃ g1 g2, rSl k R w g1 (.slice A j c) (ds.take j) ∧ rSl k R w g2 (.slice (if c = j then A else A.map (fun x => x.add (j * k))) (n - j) (c - j)) (ds.drop j) ∧ (g1 ++ g2).Perm fs := by
  obtain ⟨A', c', e, hc1, hc2, hs⟩ := h
  injection e with e1 e2 e3
  subst e1 e2 e3
  have l1 : (ds.take j).length = j := by rw [List.length_take]; omega
  have l2 : (ds.drop j).length = ds.length - j := by rw [List.length_drop]
  rcases hs with ⟨rfl, rfl⟩ | ⟨ad, css, fss, rfl, h1, h2, rfl, h5⟩
  · simp at hj
    subst hj
    exact ⟨[], [], ⟨A, c, by simp, by simp, hc2, .inl ⟨by simp, rfl⟩⟩, ⟨if c = 0 then A else A.map (fun x => x.add (0 * k)), c, by simp, by simp, hc2, .inl ⟨by simp, rfl⟩⟩, by simp⟩
  · refine ⟨addrs ad (j * k) ++ (fss.take j).flatten, addrs (ad.add (j * k)) ((ds.length - j) * k) ++ (fss.drop j).flatten, ?_, ?_, ?_⟩
    · refine ⟨some ad, c, by rw [l1], by omega, hc2, .inr ⟨ad, css.take j, fss.take j, rfl, by simp; omega, by simp; omega, by rw [l1], fun i hi => ?_⟩⟩
      rw [l1] at hi
      obtain ⟨p1, p2, p3, p4, p5⟩ := h5 i (by omega)
      refine ⟨by simp; omega, by simp; omega, ?_⟩
      simp only [List.getElem_take]
      exact ⟨p3, p4, p5⟩
    · by_cases hcj : c = j
      · have hnj : ds.length = j := by omega
        rw [if_pos hcj]
        refine ⟨some ad, c - j, by rw [l2], by omega, by omega, .inl ⟨by apply List.eq_nil_of_length_eq_zero; omega, ?_⟩⟩
        rw [List.drop_of_length_le (by omega)]
        simp [hnj, addrs]
      · rw [if_neg hcj]
        refine ⟨some (ad.add (j * k)), c - j, by rw [l2]; rfl, by omega, by omega, .inr ⟨ad.add (j * k), css.drop j, fss.drop j, rfl, by simp; omega, by simp; omega, by rw [l2], fun i hi => ?_⟩⟩
        rw [l2] at hi
        obtain ⟨p1, p2, p3, p4, p5⟩ := h5 (j + i) (by omega)
        refine ⟨by simp; omega, by simp; omega, ?_⟩
        simp only [List.getElem_drop]
        refine ⟨p3, fun q hq => ?_, p5⟩
        rw [addAdd, show j * k + (i * k + q) = (j + i) * k + q from by rw [Nat.add_mul]; omega]
        exact p4 q hq
    · have e : addrs ad (ds.length * k) = addrs ad (j * k) ++ addrs (ad.add (j * k)) ((ds.length - j) * k) := by
        rw [← addrs_append, ← Nat.add_mul]; congr 2; omega
      rw [e]
      conv => rhs; rw [← List.take_append_drop j fss, List.flatten_append]
      rw [List.append_assoc, List.append_assoc]
      refine List.Perm.append_left _ ?_
      rw [← List.append_assoc, ← List.append_assoc]
      exact List.Perm.append_right _ List.perm_append_comm

theorem rByte_one : ∀ (w : World) (f : List Addr) (cs : List Value) (d : UInt8), rByte w f cs d → ∀ u, u ∈ cs → u.oneCell' = true := by
  rintro w f cs d ⟨-, rfl⟩ u hu
  simp at hu
  subst hu
  rfl
theorem rInt_one : ∀ (w : World) (f : List Addr) (cs : List Value) (d : Int), rInt w f cs d → ∀ u, u ∈ cs → u.oneCell' = true := by
  rintro w f cs d ⟨-, rfl, -⟩ u hu
  simp at hu
  subst hu
  rfl
/-- What one reads of a slice of bytes lies in its row alone. -/
theorem OwnL.flatBytes {E : TypeId} {w : World} {base : Nat} {v : Value} {ds : List UInt8} {fs : List Addr} (h : OwnL 1 E rByte w base v ds fs) : fs = [] := by
  obtain ⟨css, fss, h1, h2, rfl, h4, h5, h6⟩ := h
  rw [List.flatten_eq_nil_iff]
  intro f hf
  obtain ⟨i, hi, rfl⟩ := List.getElem_of_mem hf
  obtain ⟨_, _, _, p4⟩ := h5 i (by omega)
  exact p4.1
theorem OwnL.flatInts {E : TypeId} {w : World} {base : Nat} {v : Value} {ds : List Int} {fs : List Addr} (h : OwnL 1 E rInt w base v ds fs) : fs = [] := by
  obtain ⟨css, fss, h1, h2, rfl, h4, h5, h6⟩ := h
  rw [List.flatten_eq_nil_iff]
  intro f hf
  obtain ⟨i, hi, rfl⟩ := List.getElem_of_mem hf
  obtain ⟨_, _, _, p4⟩ := h5 i (by omega)
  exact p4.1

/-- What is made of a slice behind an append onto nothing: a copy of its own. -/
def Fresh {α : Type} (k : Nat) (R : Repr α) (w : World) (ds : List α) (v' : Value) (w' : World) : Prop := ∃ fs', rSl k R w' fs' v' ds ∧ Mine w.heap.size w' fs' ∧ Below w.heap.size w w'

/-- 'append([]byte{}, bytes...)', behind the literal. -/
theorem freshBytes {P : Program} {w : World} (t ty e : TypeId) (ht : P.underlying t = some (.slice e)) (hi : (P.info? e).map (fun i => (i.zero, i.size, i.bytes)) = some (some (.int .u8 0), 1, 1)) {v : Value} {bs : List UInt8} {f : List Addr} (hr : rBytes w f v bs) (hn : bs.length ≤ 1000000000) :
    ∃ v' w', (Builtin.append_ #[t, t] ty #[.slice (some ⟨w.heap.size, 0, none⟩) 0 0, v]).run P (w.alloc (.cells #[] e)) = .ok v' w' ∧ Fresh 1 rByte w bs v' w' := by
  have hb : Below w.heap.size w (w.alloc (.cells #[] e)) := (Below.refl _ _).alloc (Nat.le_refl _) _
  have hown := OwnL.start (R := rByte) (World.ownsRow_lit (base := w.heap.size) (e := e) (size := 1) w #[] 0 (Nat.le_refl _) (Nat.zero_le _) rfl)
  have ht2 := rSl.there rByte.fixed hr
  obtain ⟨v', w', h1, hs, h2, h3, h4, h5⟩ := OwnL.appendRun t ty (.int .u8 0) 1 ht hi rfl (by decide) rByte.local_ rByte.fixed rByte_one w.heap.size _ [] [] hown v bs f (rBytes.below hr hb) (fun a ha e => by
    simp [Value.ownBlock] at e
    have := ht2 a ha
    omega) (by simp; omega) (by omega) (by simp)
  refine ⟨v', w', h1, ?_⟩
  have h6 := OwnL.flatBytes h2
  rw [h6] at h2
  obtain ⟨gs, h7, h8⟩ := h2.readsMine ⟨List.nodup_nil, (fun _ h => by cases h), (fun _ h => by cases h)⟩
  exact ⟨gs, h7, h8, hb.grown h4 (by simp) (fun k hk => by simp [Value.ownBlock] at hk; omega)⟩

end Go.Proofs.Ytabainoplkpppaa
