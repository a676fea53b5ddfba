/-
  The draws of FnThings.
-/
import Derived.Test.YtimabbleijkmhaaPutS
import Derived.Test.YtimabbleijkmhaaDraw
namespace Go.Proofs.Ytimabbleijkmhaa
open Go.RowKit Go.Sort

theorem tabNames : ∀ q, q < 6 → ∃ s : ByteArray, (#[.string ⟨#[97]⟩, .string ⟨#[98]⟩, .string ⟨#[99]⟩, .string ⟨#[100, 49]⟩, .string ⟨#[108, 111, 103]⟩, .string ⟨#[122, 122]⟩] : Array Value)[q]? = some (.string s) ∧ s.size ≤ 3
  | 0, _ => ⟨_, rfl, by decide⟩
  | 1, _ => ⟨_, rfl, by decide⟩
  | 2, _ => ⟨_, rfl, by decide⟩
  | 3, _ => ⟨_, rfl, by decide⟩
  | 4, _ => ⟨_, rfl, by decide⟩
  | 5, _ => ⟨_, rfl, by decide⟩
  | _ + 6, h => by omega

theorem belowA {w W : World} {o : Obj} (h : Below w.heap.size w W) : Below w.heap.size w (W.alloc o) := h.alloc h.size o

set_option maxHeartbeats 1000000 in
theorem l4Name_c (b : Nat) (code : List UInt8) (fs : List Addr) (t : Nat) (w : World) (h : Src w b code fs t) (ht : t ≤ 900000) (hc : code.length ≤ 1048576) :
    Calls Try.prog 70 #[.pointer (some ⟨b, 0, none⟩)] w fun e w' => ∃ s : ByteArray, e = .returned (.string s) ∧ s.size ≤ 3 ∧ Drawn b code fs (t + 1) w w' := by
  have H := Lib.hid h
  have hblt := h.lt
  clear h
  go_enter Try.func70, Try.ntmps70
  go_wp2_with fail
  refine (l1Next_c b code fs t 6 _ (H.out.keep (belowA (Below.refl _ _))) (by omega) (by omega) (by omega) hc).mono ?_
  rintro e w1 ⟨r, rfl, r0, r1, hd⟩
  obtain ⟨q, rfl⟩ := Int.eq_ofNat_of_zero_le r0
  obtain ⟨S, hS, hSz⟩ := tabNames q (by omega)
  have hk := ((Blk.grown (Blk.new w 9 #[.string ⟨#[97]⟩, .string ⟨#[98]⟩, .string ⟨#[99]⟩, .string ⟨#[100, 49]⟩, .string ⟨#[108, 111, 103]⟩, .string ⟨#[122, 122]⟩]) hd.grown (fun e => by injection e with e; omega)).cell q).trans hS
  have hq : q < 6 := by omega
  have HD := Lib.hid (((Drawn.refl H.out).more (belowA (Below.refl _ _))).trans hd)
  clear hd hS
  go_wp2_with fail
  go_ret
  exact ⟨S, rfl, hSz, HD.out⟩

theorem OwnL.drawn {α : Type} {k : Nat} {E : TypeId} {R : Repr α} (hR : Local R) (hF : Fixed R) {w w' : World} {base : Nat} {v : Value} {ds : List α} {fs : List Addr} {b : Nat} {code : List UInt8} {gs : List Addr} {t : Nat} (h : OwnL k E R w base v ds fs) (hm : Mine base w fs) (hd : Drawn b code gs t w w') (hb : b < base) :
    OwnL k E R w' base v ds fs ∧ Mine base w' fs := by
  have hne : ∀ a, a ∈ fs → some a.block ≠ some b := fun a ha e => by injection e with e; have := hm.from_ a ha; omega
  exact ⟨h.keep hR (fun q hq => hd.grown.block q (h.lt q hq).2 (fun e => by injection e with e; have := (h.lt q hq).1; omega)) (fun a ha => hd.grown.cell_far a (h.there hF a ha) (hne a ha)),
    hm.keep fun a ha => hd.grown.frozen_far a (h.there hF a ha) (hne a ha)⟩

/-- The first thing of a row of one's own. -/
theorem OwnL.head {w : World} {base : Nat} {v : Value} {d : Th} {r : List Th} {fs : List Addr} (h : OwnL 3 55 rTh w base v (d :: r) fs) :
    ∃ g c v0 f0, v = .slice (some ⟨g, 0, none⟩) (r.length + 1) c ∧ base ≤ g ∧ r.length + 1 ≤ c ∧ c ≤ 9223372036854775807 ∧ w.cell? ⟨g, 0, none⟩ = some (.string d.name) ∧ w.cell? ⟨g, 1, none⟩ = some (.bool d.lost) ∧ w.cell? ⟨g, 2, none⟩ = some v0 ∧ w.frozen? ⟨g, 1, none⟩ = false ∧ g < w.heap.size ∧
      rBytes w f0 v0 d.bytes ∧ (∀ a, a ∈ f0 → a ∈ fs) ∧ d.name.size ≤ 9223372036854775807 ∧ (∀ a, a ∈ fs → a.block ≠ g) ∧ (∀ bb, OwnL 3 55 rTh (w.setCell ⟨g, 1, none⟩ (.bool bb)) base v (⟨d.name, bb, d.bytes⟩ :: r) fs) := by
  have hlt := h.lt
  obtain ⟨css, fss, h1, h2, rfl, ⟨hl, h4⟩, h5, h6⟩ := h
  rcases h4 with ⟨rfl, h0⟩ | ⟨g, c, cur, rfl, hb, hg, hnc, hcm, hcs, htake⟩
  · simp at h0
  · unfold maxLen at hcm
    obtain ⟨p1, p2, p3, v0, q1, q2, q3⟩ := h5 0 (by simp)
    simp only [List.getElem_cons_zero] at q1 q2 q3
    match css, fss, h1, h2 with
    | c0 :: css, f0 :: fss, h1, h2 =>
      simp only [List.getElem_cons_zero] at q1 q3 p3
      subst q1
      have hw : ∀ c, c ∈ css → c.length = 3 := by
        intro c hc
        obtain ⟨i, hi, rfl⟩ := List.getElem_of_mem hc
        obtain ⟨_, _, p3, _⟩ := h5 (i + 1) (by simp at h1 ⊢; omega)
        simpa using p3
      have hK : Blk w g 55 cur := hg
      have hcell : ∀ q u, ([Value.string d.name, .bool d.lost, v0] : List Value)[q]? = some u → w.cell? ⟨g, q, none⟩ = some u := by
        intro q u hq
        have hq3 : q < 3 := (List.getElem?_eq_some_iff.1 hq).1
        rw [hK.cell]
        have : (cur.toList.take ((d :: r).length * 3))[q]? = some u := by
          rw [htake, List.flatten_cons, List.getElem?_append_left (by simpa using hq3)]
          exact hq
        rw [List.getElem?_take] at this
        split at this
        · simpa using this
        · cases this
      have hgf : ∀ a, a ∈ (f0 :: fss).flatten → a.block ≠ g := fun a ha e => h6 a ha (by rw [e]; rfl)
      refine ⟨g, c, v0, f0, by simp, hb, by simpa using hnc, by omega, hcell 0 _ rfl, hcell 1 _ rfl, hcell 2 _ rfl, hK.frozen 1, hK.lt, q3, fun a ha => by simp [ha], q2, hgf, fun bb => ?_⟩
      have hsame : Same (f0 :: fss).flatten w (w.setCell ⟨g, 1, none⟩ (.bool bb)) := fun a ha => World.cell?_setCell_other _ _ _ _ (fun e => hgf a ha (by rw [← e]))
      refine ⟨[.string d.name, .bool bb, v0] :: css, f0 :: fss, by simpa using h1, by simpa using h2, rfl, ⟨by rw [flatten_len _ (by intro c hc; rcases List.mem_cons.1 hc with rfl | hc; rfl; exact hw c hc)]; simp at h1 ⊢; omega, .inr ⟨g, c, cur.setIfInBounds 1 (.bool bb), by simp, hb, Blk.set_ hK 1 _, by simpa using hnc, by unfold maxLen; omega, by simpa using hcs, ?_⟩⟩, fun i hi => ?_, h6⟩
      · have e1 : (cur.setIfInBounds 1 (.bool bb)).toList.take ((d :: r).length * 3) = (cur.toList.take ((d :: r).length * 3)).set 1 (.bool bb) := by
          rw [Array.toList_setIfInBounds, List.take_set]
        have e2 : ((⟨d.name, bb, d.bytes⟩ : Th) :: r).length = (d :: r).length := by simp
        rw [e2, e1, htake]
        simp
      · match i, hi with
        | 0, _ => exact ⟨by simp, by simp, rfl, v0, rfl, q2, rSl.keep rByte.local_ q3 (hsame.mem List.mem_cons_self)⟩
        | i + 1, hi =>
          obtain ⟨s1, s2, s3, s4⟩ := h5 (i + 1) (by simpa using hi)
          refine ⟨by simpa using s1, by simpa using s2, by simpa using s3, ?_⟩
          simp only [List.getElem_cons_succ] at s4 ⊢
          exact rTh.local_ _ _ _ _ _ s4 (hsame.mem (List.mem_cons_of_mem _ (List.getElem_mem _)))

end Go.Proofs.Ytimabbleijkmhaa
