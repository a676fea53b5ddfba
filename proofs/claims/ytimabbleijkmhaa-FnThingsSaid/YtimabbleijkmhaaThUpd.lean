/-
  A thing of a list, stored anew.
-/
import Derived.Test.YtimabbleijkmhaaMark
namespace Go.Proofs.Ytimabbleijkmhaa
open Go.RowKit

theorem flat_disj {fss : List (List Addr)} (h : fss.flatten.Nodup) {i j : Nat} (hi : i < fss.length) (hj : j < fss.length) (hne : i ≠ j) {a : Addr} (ha : a ∈ fss[i]) : a ∉ fss[j] := by
  intro hb
  unfold List.Nodup at h
  rw [List.pairwise_flatten] at h
  have h2 := List.pairwise_iff_getElem.1 h.2
  rcases Nat.lt_or_ge i j with hlt | hge
  · exact h2 i j hi hj hlt a ha a hb rfl
  · exact h2 j i hj hi (by omega) a hb a ha rfl

/-- One thing of a list: where it lies, and the list once it is stored anew. -/
theorem rThs.upd {w : World} {fs : List Addr} {v : Value} {ds : List Th} (h : rThs w fs v ds) (hn : fs.Nodup) (j : Nat) (hj : j < ds.length) :
    ∃ ad c A2 c2 fk, v = .slice (some ad) ds.length c ∧ (ad.add (j * 3)).block < w.heap.size ∧ AtTh w (ad.add (j * 3)) ds[j] A2 c2 ∧ rBytes w fk (.slice A2 ds[j].bytes.length c2) ds[j].bytes ∧ There fk w ∧ (∀ a, a ∈ fk → a ∈ fs) ∧ fk.Nodup ∧
      ad.add (j * 3) ∈ fs ∧ (⟨(ad.add (j * 3)).block, (ad.add (j * 3)).off + 1, none⟩ : Addr) ∈ fs ∧ (⟨(ad.add (j * 3)).block, (ad.add (j * 3)).off + 2, none⟩ : Addr) ∈ fs ∧
      ad.add (j * 3) ∉ fk ∧ (⟨(ad.add (j * 3)).block, (ad.add (j * 3)).off + 1, none⟩ : Addr) ∉ fk ∧ (⟨(ad.add (j * 3)).block, (ad.add (j * 3)).off + 2, none⟩ : Addr) ∉ fk ∧
      (∀ (w' : World) (d' : Th), d'.bytes.length = ds[j].bytes.length → d'.name.size ≤ 9223372036854775807 →
        (∀ a, a ∈ fs → a ≠ ad.add (j * 3) → a ≠ ⟨(ad.add (j * 3)).block, (ad.add (j * 3)).off + 1, none⟩ → a ≠ ⟨(ad.add (j * 3)).block, (ad.add (j * 3)).off + 2, none⟩ → a ∉ fk → w'.cell? a = w.cell? a) →
        AtTh w' (ad.add (j * 3)) d' A2 c2 → rBytes w' fk (.slice A2 ds[j].bytes.length c2) d'.bytes → rThs w' fs v (ds.set j d')) := by
  obtain ⟨A, c, e, h1, h2, h3⟩ := h
  rcases h3 with ⟨rfl, _⟩ | ⟨ad, css, fss, e1, e2, e3, e4, h3⟩
  · cases hj
  obtain ⟨q1, q2, q3, q4, v2, q6, q7, q8⟩ := h3 j hj
  obtain ⟨A2, c2, rfl, -⟩ := q8.form
  have p0 := q4 0 (by omega)
  have p1 := q4 1 (by omega)
  have p2 := q4 2 (by omega)
  simp only [q6, List.getElem_cons_zero, List.getElem_cons_succ, Nat.add_zero] at p0 p1 p2
  have a1 := addTo ad (j * 3) 0
  have a2 := addTo ad (j * 3) 1
  simp only [Nat.zero_add, Nat.reduceAdd] at a1 a2
  rw [a1] at p1
  rw [a2] at p2
  subst e4
  have hn' := hn
  unfold List.Nodup at hn'
  rw [List.pairwise_append] at hn'
  obtain ⟨hn1, hn2, hn3⟩ := hn'
  have inrow : ∀ q, q < ds.length * 3 → ad.add q ∈ addrs ad (ds.length * 3) := fun q hq => mem_addrs.2 ⟨q, hq, rfl⟩
  have infl : ∀ i, (hi : i < fss.length) → ∀ a, a ∈ fss[i] → a ∈ fss.flatten := fun i hi a ha => List.mem_flatten.2 ⟨_, List.getElem_mem hi, ha⟩
  have rowne : ∀ q, q < ds.length * 3 → ∀ a, a ∈ fss.flatten → a ≠ ad.add q := fun q hq a ha e => hn3 _ (inrow q hq) _ ha e.symm
  refine ⟨ad, c, A2, c2, fss[j], by rw [e, e1], World.block_lt_of_cell? _ _ p0, ⟨p0, p1, p2⟩, q8, rSl.there rByte.fixed q8, fun a ha => List.mem_append_right _ (infl j q2 a ha), ?_, List.mem_append_left _ (inrow _ (by omega)), ?_, ?_, ?_, ?_, ?_, ?_⟩
  · have := List.pairwise_flatten.1 hn2
    exact this.1 _ (List.getElem_mem q2)
  · rw [← a1]; exact List.mem_append_left _ (inrow _ (by omega))
  · rw [← a2]; exact List.mem_append_left _ (inrow _ (by omega))
  · exact fun ha => rowne (j * 3) (by omega) _ (infl j q2 _ ha) rfl
  · rw [← a1]; exact fun ha => rowne (j * 3 + 1) (by omega) _ (infl j q2 _ ha) rfl
  · rw [← a2]; exact fun ha => rowne (j * 3 + 2) (by omega) _ (infl j q2 _ ha) rfl
  · intro w' d' hlen hname hsame hat hrb
    rw [← a1, ← a2] at hsame
    obtain ⟨t0, t1, t2⟩ := hat
    rw [← a1] at t1
    rw [← a2] at t2
    refine ⟨A, c, by rw [e]; simp, by simpa using h1, h2, .inr ⟨ad, css.set j [.string d'.name, .bool d'.lost, .slice A2 ds[j].bytes.length c2], fss, e1, by simpa using e2, by simpa using e3, by simp, fun i hi => ?_⟩⟩
    have hi' : i < ds.length := by simpa using hi
    obtain ⟨r1, r2, r3, r4, r5⟩ := h3 i hi'
    by_cases hij : i = j
    · subst hij
      refine ⟨by simpa using r1, r2, by simp, fun q hq => ?_, ?_⟩
      · simp only [List.getElem_set_self] at hq ⊢
        match q, hq with
        | 0, _ => exact t0
        | 1, _ => exact t1
        | 2, _ => rw [hlen] at t2; exact t2
      · simp only [List.getElem_set_self]
        exact ⟨_, rfl, hname, hrb⟩
    · refine ⟨by simpa using r1, r2, ?_, fun q hq => ?_, ?_⟩
      · rw [List.getElem_set_ne (Ne.symm hij)]; exact r3
      · simp only [List.getElem_set_ne (Ne.symm hij)] at hq ⊢
        have hq3 : q < 3 := by omega
        have inj : ∀ q', q' < 3 → ad.add (i * 3 + q) ≠ ad.add (j * 3 + q') := fun q' hq' e => by
          have := nodup_inj hn1 (i := i * 3 + q) (j := j * 3 + q') (by omega) (by omega) e
          omega
        rw [hsame _ (List.mem_append_left _ (inrow _ (by omega))) (inj 0 (by omega)) (inj 1 (by omega)) (inj 2 (by omega)) (fun ha => rowne _ (by omega) _ (infl j q2 _ ha) rfl)]
        exact r4 q hq
      · simp only [List.getElem_set_ne (Ne.symm hij)]
        refine rTh.local_ _ _ _ _ _ r5 fun a ha => ?_
        have hf := infl i r2 a ha
        exact hsame a (List.mem_append_right _ hf) (rowne (j * 3) (by omega) a hf) (rowne (j * 3 + 1) (by omega) a hf) (rowne (j * 3 + 2) (by omega) a hf) (flat_disj hn2 r2 q2 hij ha)

end Go.Proofs.Ytimabbleijkmhaa
