/-
  Things: a name, a mark, bytes. What a slice of things holds, as a list.
-/
import Derived.Test.YtimabbleijkmhaaLBytes
namespace Go.Proofs.Ytimabbleijkmhaa
open Go.RowKit

structure Th where
  name : ByteArray
  lost : Bool
  bytes : List UInt8
deriving DecidableEq

def rTh : Repr Th := fun w fs cs d => ∃ v, cs = [.string d.name, .bool d.lost, v] ∧ d.name.size ≤ 9223372036854775807 ∧ rBytes w fs v d.bytes
theorem rTh.local_ : Local rTh := fun _ _ _ _ _ ⟨v, e, hn, h⟩ hs => ⟨v, e, hn, rSl.keep rByte.local_ h hs⟩
theorem rTh.fixed : Fixed rTh := fun _ _ _ _ ⟨_, _, _, h⟩ => rSl.there rByte.fixed h
abbrev rThs (w : World) (fs : List Addr) (v : Value) (ds : List Th) : Prop := rSl 3 rTh w fs v ds
theorem rThs.below {w w' : World} {fs : List Addr} {v : Value} {ds : List Th} (h : rThs w fs v ds) (hb : Below w.heap.size w w') : rThs w' fs v ds := rSl.below rTh.local_ rTh.fixed h hb

theorem addTo (a : Addr) (m n : Nat) : a.add (m + (n + 1)) = ⟨(a.add m).block, (a.add m).off + (n + 1), none⟩ := by
  rw [← Addr.add_add]
  simp [Addr.add]

/-- A thing that lies at an address. -/
def AtTh (w : World) (p : Addr) (d : Th) (A : Option Addr) (c : Nat) : Prop :=
  w.cell? p = some (.string d.name) ∧ w.cell? ⟨p.block, p.off + 1, none⟩ = some (.bool d.lost) ∧ w.cell? ⟨p.block, p.off + 2, none⟩ = some (.slice A d.bytes.length c)
theorem AtTh.below {B : Nat} {w w' : World} {p : Addr} {d : Th} {A : Option Addr} {c : Nat} (h : AtTh w p d A c) (hb : Below B w w') (hp : p.block < B) : AtTh w' p d A c :=
  ⟨(hb.cell hp).trans h.1, (hb.cell (p := ⟨p.block, p.off + 1, none⟩) hp).trans h.2.1, (hb.cell (p := ⟨p.block, p.off + 2, none⟩) hp).trans h.2.2⟩

/-- The parts of a slice of things. -/
theorem rThs.open_ {w : World} {fs : List Addr} {v : Value} {ds : List Th} (h : rThs w fs v ds) :
    ∃ A c, v = .slice A ds.length c ∧ ds.length ≤ c ∧ c ≤ 9223372036854775807 ∧ ∀ k, (hk : k < ds.length) → ∃ ad A2 c2 fk, A = some ad ∧ (ad.add (k * 3)).block < w.heap.size ∧
      AtTh w (ad.add (k * 3)) ds[k] A2 c2 ∧ ds[k].name.size ≤ 9223372036854775807 ∧ rBytes w fk (.slice A2 ds[k].bytes.length c2) ds[k].bytes ∧ There fk w ∧ (∀ a, a ∈ fk → a ∈ fs) ∧ (∀ q, q < 3 → ad.add (k * 3 + q) ∈ fs) := by
  obtain ⟨A, c, e, h1, h2, h3⟩ := h
  refine ⟨A, c, e, h1, by omega, fun k hk => ?_⟩
  rcases h3 with ⟨rfl, _⟩ | ⟨ad, css, fss, e1, e2, e3, e4, h3⟩
  · cases hk
  · obtain ⟨q1, q2, q3, q4, v2, q6, q7, q8⟩ := h3 k hk
    obtain ⟨A2, c2, rfl, -⟩ := q8.form
    have p0 := q4 0 (by omega)
    have p1 := q4 1 (by omega)
    have p2 := q4 2 (by omega)
    simp only [q6, List.getElem_cons_zero, List.getElem_cons_succ, Nat.add_zero] at p0 p1 p2
    rw [addTo ad (k * 3) 0] at p1
    rw [addTo ad (k * 3) 1] at p2
    refine ⟨ad, A2, c2, fss[k], e1, World.block_lt_of_cell? _ _ p0, ⟨p0, p1, p2⟩, q7, q8, rSl.there rByte.fixed q8, fun a ha => ?_, fun q hq => ?_⟩
    · rw [e4]; exact List.mem_append_right _ (List.mem_flatten.2 ⟨_, List.getElem_mem q2, ha⟩)
    · rw [e4]; exact List.mem_append_left _ (mem_addrs.2 ⟨k * 3 + q, by omega, rfl⟩)

/-- How much a list of things takes. -/
def thSum : List Th → Nat
  | [] => 0
  | d :: r => d.name.size + d.bytes.length + thSum r
theorem thSum_snoc : ∀ (l : List Th) (d : Th), thSum (l ++ [d]) = thSum l + (d.name.size + d.bytes.length)
  | [], d => by simp [thSum]
  | a :: r, d => by simp only [List.cons_append, thSum, thSum_snoc r d]; omega
theorem thSum_step {l : List Th} {k : Nat} (h : k < l.length) : thSum (l.take (k + 1)) = thSum (l.take k) + (l[k].name.size + l[k].bytes.length) := by
  rw [List.take_succ_eq_append_getElem h, thSum_snoc]
theorem thSum_take : ∀ (l : List Th) (k : Nat), thSum (l.take k) ≤ thSum l
  | [], k => by simp [thSum]
  | a :: r, 0 => by simp [thSum]
  | a :: r, k + 1 => by
    have := thSum_take r k
    simp only [List.take_succ_cons, thSum]; omega
theorem thSum_get {l : List Th} {k : Nat} (h : k < l.length) : l[k].name.size ≤ thSum l ∧ l[k].bytes.length ≤ thSum l := by
  have := thSum_step h
  have := thSum_take l (k + 1)
  omega

/-- What the measure of things answers. -/
def szTh (left : Int) (n : Nat) : Int := if left < n then -1 else left - n
theorem szTh_t {left : Int} {n : Nat} (h : left < n) : szTh left n = -1 := if_pos h
theorem szTh_f {left : Int} {n : Nat} (h : ¬ left < n) : szTh left n = left - n := if_neg h

set_option maxHeartbeats 400000 in
theorem szThing_c (d : Th) (v : Value) (fs : List Addr) (w : World) (left : Int) (h1 : rBytes w fs v d.bytes) (hl : 0 ≤ left) (hl2 : left ≤ 1048576) (hn : d.name.size ≤ 9223372036854775807) :
    Calls Try.prog 53 #[.agg #[.string d.name, .bool d.lost, v], .int .i64 left] w fun e w' => e = .returned (.int .i64 (szTh left (d.name.size + d.bytes.length))) ∧ Below w.heap.size w w' := by
  have H1 := Lib.hid h1
  obtain ⟨A1, c1, rfl, -⟩ := h1.form
  clear h1
  have B1 : Below w.heap.size w (w.alloc (.cells #[.string d.name, .bool d.lost, .slice A1 d.bytes.length c1] 72)) := (Below.refl _ _).alloc (Nat.le_refl _) _
  by_cases h : left < d.name.size
  · have hlt : left - (d.name.size : Int) < 0 := by omega
    have e1 : szTh left (d.name.size + d.bytes.length) = -1 := szTh_t (by omega)
    rw [e1]
    clear e1
    go_enter Try.func53, Try.ntmps53
    go_wp2_with fail
    go_ret
    exact ⟨rfl, B1⟩
  · have hlt : ¬ left - (d.name.size : Int) < 0 := by omega
    have BB := Lib.hid B1; clear B1
    obtain ⟨r, hr⟩ : ∃ r, szTh left (d.name.size + d.bytes.length) = r := ⟨_, rfl⟩
    rw [hr]
    go_enter Try.func53, Try.ntmps53
    go_wp2_with fail
    refine (szByteS_c _ d.bytes fs _ (left - (d.name.size : Int)) (H1.out.below BB.out) (by omega) (by omega)).mono ?_
    rintro e w1 ⟨rfl, rfl⟩
    by_cases h2 : left - (d.name.size : Int) < d.bytes.length
    · rw [if_pos h2]
      have e1 : r = -1 := by rw [← hr]; exact szTh_t (by omega)
      subst e1
      clear hr
      go_wp2_with fail
      go_ret
      exact ⟨rfl, BB.out⟩
    · rw [if_neg h2]
      have h3 : ¬ left - (d.name.size : Int) - (d.bytes.length : Int) < 0 := by omega
      have e1 : r = left - (d.name.size : Int) - (d.bytes.length : Int) := by rw [← hr, szTh_f (by omega)]; omega
      subst e1
      clear hr
      go_wp2_with fail
      go_ret
      exact ⟨rfl, BB.out⟩

end Go.Proofs.Ytimabbleijkmhaa
