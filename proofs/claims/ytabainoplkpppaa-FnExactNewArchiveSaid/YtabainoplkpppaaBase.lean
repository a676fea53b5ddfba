/-
  Plain words for memory that all texts of this seat use: how a value in a world reads as data, on which cells that reading hangs, and how it is kept.
-/
import Derived.Test.YtabainoplkpppaaRows
import Derived.WalkKit
import Derived.WalkSpells
import Derived.WalkLawsBesides
import Derived.Deep.QuietTactic
import Derived.BigQuiet
import Derived.Lib.Hide
import Derived.Deep.AppendLies
import Derived.Deep.OwnRows
import Derived.Lib.QuietBelow
namespace Go.Proofs.Ytabainoplkpppaa
open Go.RowKit

theorem blockAdd (a : Addr) (n : Nat) : (a.add n).block = a.block := by unfold Addr.add; split <;> rfl
theorem addAdd (a : Addr) (i j : Nat) : (a.add i).add j = a.add (i + j) := by
  unfold Addr.add
  by_cases hi : i = 0 <;> by_cases hj : j = 0 <;> simp [hi, hj, Nat.add_assoc]
theorem addZero (a : Addr) : a.add 0 = a := by unfold Addr.add; simp
theorem addInj (a : Addr) (i j : Nat) (h : a.add i = a.add j) : i = j ∨ a.spot.isSome := by
  unfold Addr.add at h
  cases a with
  | mk b o s =>
    cases s with
    | some x => right; rfl
    | none =>
      left
      by_cases hi : i = 0 <;> by_cases hj : j = 0 <;> simp_all

theorem belowDrewN {B : Nat} {a w : World} (h : Below B a w) (n : Nat) : Below B a (w.drewN n) := ⟨h.os, h.tape, h.output, h.size, h.block⟩

/-- The cells of a row. -/
def addrs (ad : Addr) (n : Nat) : List Addr := (List.range n).map ad.add
theorem mem_addrs {ad : Addr} {n : Nat} {a : Addr} : a ∈ addrs ad n ↔ ∃ k, k < n ∧ a = ad.add k := by
  simp [addrs, eq_comm]
theorem addrs_append (ad : Addr) (n m : Nat) : addrs ad (n + m) = addrs ad n ++ addrs (ad.add n) m := by
  unfold addrs
  rw [List.range_add, List.map_append, List.map_map]
  congr 1
  apply List.map_congr_left
  intro k _
  simp [addAdd]
theorem nodup_addrs {ad : Addr} {n : Nat} (h : ad.spot = none) : (addrs ad n).Nodup := by
  unfold addrs
  rw [List.nodup_iff_pairwise_ne, List.pairwise_map]
  refine List.Pairwise.imp ?_ (List.nodup_range (n := n))
  intro a b hab e
  rcases addInj _ _ _ e with e | e
  · exact hab e
  · rw [h] at e; cases e

/-- All cells of a list read alike in two worlds. -/
def Same (fs : List Addr) (w w' : World) : Prop := ∀ a, a ∈ fs → w'.cell? a = w.cell? a
theorem Same.left {fs gs : List Addr} {w w' : World} (h : Same (fs ++ gs) w w') : Same fs w w' := fun a ha => h a (List.mem_append_left _ ha)
theorem Same.right {fs gs : List Addr} {w w' : World} (h : Same (fs ++ gs) w w') : Same gs w w' := fun a ha => h a (List.mem_append_right _ ha)
theorem Same.mem {fss : List (List Addr)} {w w' : World} (h : Same fss.flatten w w') {fs : List Addr} (hf : fs ∈ fss) : Same fs w w' := fun a ha => h a (List.mem_flatten.2 ⟨fs, hf, ha⟩)
theorem Same.refl (fs : List Addr) (w : World) : Same fs w w := fun _ _ => rfl

/-- Each cell of a list is there. -/
def There (fs : List Addr) (w : World) : Prop := ∀ a, a ∈ fs → a.block < w.heap.size
theorem Same.of_below {fs : List Addr} {B : Nat} {w w' : World} (ht : ∀ a, a ∈ fs → a.block < B) (h : Below B w w') : Same fs w w' := fun a ha => h.cell (ht a ha)

abbrev Repr (α : Type) := World → List Addr → List Value → α → Prop

/-- A reading hangs on its cells alone. -/
def Local {α : Type} (R : Repr α) : Prop := ∀ w w' fs cs d, R w fs cs d → Same fs w w' → R w' fs cs d
/-- Its cells are there. -/
def Fixed {α : Type} (R : Repr α) : Prop := ∀ w fs cs d, R w fs cs d → There fs w
/-- It reads so many cells. -/
def Wide {α : Type} (k : Nat) (R : Repr α) : Prop := ∀ w fs cs d, R w fs cs d → cs.length = k

def byteV (b : UInt8) : Value := .int .u8 (b.toNat : Int)
def rInt : Repr Int := fun _ fs cs x => fs = [] ∧ cs = [.int .i64 x] ∧ -9223372036854775808 ≤ x ∧ x ≤ 9223372036854775807
def rByte : Repr UInt8 := fun _ fs cs x => fs = [] ∧ cs = [byteV x]
def rStr : Repr ByteArray := fun _ fs cs x => fs = [] ∧ cs = [.string x] ∧ x.size ≤ 9223372036854775807

/-- A slice of elements of k cells each. -/
def rSl {α : Type} (k : Nat) (R : Repr α) (w : World) (fs : List Addr) (v : Value) (ds : List α) : Prop :=
  ∃ (A : Option Addr) (c : Nat), v = .slice A ds.length c ∧ ds.length ≤ c ∧ c ≤ 9223372036854775807 ∧
    ((ds = [] ∧ fs = []) ∨ ∃ (ad : Addr) (css : List (List Value)) (fss : List (List Addr)), A = some ad ∧ css.length = ds.length ∧ fss.length = ds.length ∧ fs = addrs ad (ds.length * k) ++ fss.flatten ∧
      ∀ i, (h : i < ds.length) → ∃ (h1 : i < css.length) (h2 : i < fss.length), css[i].length = k ∧ (∀ j, (hj : j < css[i].length) → w.cell? (ad.add (i * k + j)) = some css[i][j]) ∧ R w fss[i] css[i] ds[i])

theorem rSl.keep {α : Type} {k : Nat} {R : Repr α} (hR : Local R) {w w' : World} {fs : List Addr} {v : Value} {ds : List α} (h : rSl k R w fs v ds) (hs : Same fs w w') : rSl k R w' fs v ds := by
  obtain ⟨A, c, e, h1, h2, h3⟩ := h
  refine ⟨A, c, e, h1, h2, ?_⟩
  rcases h3 with h3 | ⟨ad, css, fss, e1, e2, e3, e4, h3⟩
  · exact .inl h3
  · refine .inr ⟨ad, css, fss, e1, e2, e3, e4, fun i hi => ?_⟩
    obtain ⟨q1, q2, q3, q4, q5⟩ := h3 i hi
    subst e4
    refine ⟨q1, q2, q3, fun j hj => ?_, hR _ _ _ _ _ q5 (hs.right.mem (List.getElem_mem _))⟩
    rw [hs.left _ (mem_addrs.2 ⟨i * k + j, ?_, rfl⟩)]
    · exact q4 j hj
    · rw [q3] at hj
      calc i * k + j < i * k + k := by omega
        _ = (i + 1) * k := by rw [Nat.add_mul]; omega
        _ ≤ ds.length * k := Nat.mul_le_mul_right _ hi

theorem rSl.there {α : Type} {k : Nat} {R : Repr α} (hR : Fixed R) {w : World} {fs : List Addr} {v : Value} {ds : List α} (h : rSl k R w fs v ds) : There fs w := by
  obtain ⟨A, c, e, h1, h2, h3⟩ := h
  rcases h3 with ⟨_, rfl⟩ | ⟨ad, css, fss, e1, e2, e3, rfl, h3⟩
  · intro a ha; cases ha
  · intro a ha
    rcases List.mem_append.1 ha with ha | ha
    · obtain ⟨q, hq, rfl⟩ := mem_addrs.1 ha
      have hk : 0 < k := by
        rcases Nat.eq_zero_or_pos k with e | e
        · subst e; simp at hq
        · exact e
      have hi : q / k < ds.length := by rw [Nat.div_lt_iff_lt_mul hk]; exact hq
      obtain ⟨q1, q2, q3, q4, q5⟩ := h3 (q / k) hi
      have hm : q % k < k := Nat.mod_lt _ hk
      have := q4 (q % k) (by rw [q3]; exact hm)
      rw [show q / k * k + q % k = q from by rw [Nat.mul_comm]; exact Nat.div_add_mod q k] at this
      exact World.block_lt_of_cell? _ _ this
    · obtain ⟨f, hf, hm⟩ := List.mem_flatten.1 ha
      obtain ⟨i, hi, rfl⟩ := List.getElem_of_mem hf
      obtain ⟨q1, q2, q3, q4, q5⟩ := h3 i (by omega)
      exact hR _ _ _ _ q5 a hm

theorem rSl.below {α : Type} {k : Nat} {R : Repr α} (hR : Local R) (hF : Fixed R) {w w' : World} {fs : List Addr} {v : Value} {ds : List α} (h : rSl k R w fs v ds) (hb : Below w.heap.size w w') : rSl k R w' fs v ds :=
  h.keep hR (.of_below (h.there hF) hb)

/-- As a reading of one cell. -/
def rSlice {α : Type} (k : Nat) (R : Repr α) : Repr (List α) := fun w fs cs ds => ∃ v, cs = [v] ∧ rSl k R w fs v ds
theorem rSlice.local_ {α : Type} {k : Nat} {R : Repr α} (hR : Local R) : Local (rSlice k R) := fun _ _ _ _ _ ⟨v, e, h⟩ hs => ⟨v, e, h.keep hR hs⟩
theorem rSlice.fixed {α : Type} {k : Nat} {R : Repr α} (hR : Fixed R) : Fixed (rSlice k R) := fun _ _ _ _ ⟨_, _, h⟩ => h.there hR
theorem rSlice.wide {α : Type} {k : Nat} {R : Repr α} : Wide 1 (rSlice k R) := fun _ _ _ _ ⟨_, e, _⟩ => by rw [e]; rfl

theorem rInt.local_ : Local rInt := fun _ _ _ _ _ h _ => h
theorem rInt.fixed : Fixed rInt := fun _ _ _ _ h a ha => by rw [h.1] at ha; cases ha
theorem rByte.local_ : Local rByte := fun _ _ _ _ _ h _ => h
theorem rByte.fixed : Fixed rByte := fun _ _ _ _ h a ha => by rw [h.1] at ha; cases ha
theorem rStr.local_ : Local rStr := fun _ _ _ _ _ h _ => h
theorem rStr.fixed : Fixed rStr := fun _ _ _ _ h a ha => by rw [h.1] at ha; cases ha

abbrev rBytes := rSl 1 rByte
abbrev rInts := rSl 1 rInt
abbrev rStrs := rSl 1 rStr
theorem rBytes.below {w w' : World} {fs : List Addr} {v : Value} {ds : List UInt8} (h : rBytes w fs v ds) (hb : Below w.heap.size w w') : rBytes w' fs v ds := rSl.below rByte.local_ rByte.fixed h hb

/-- The parts of a slice of bytes: its value's form, and each cell. -/
theorem rBytes.open_ {w : World} {fs : List Addr} {v : Value} {bs : List UInt8} (h : rBytes w fs v bs) :
    ∃ A c, v = .slice A bs.length c ∧ bs.length ≤ c ∧ c ≤ 9223372036854775807 ∧ ∀ k, (hk : k < bs.length) → ∃ ad, A = some ad ∧ ad.add k ∈ fs ∧ (ad.add k).block < w.heap.size ∧ w.cell? (ad.add k) = some (.int .u8 (bs[k].toNat : Int)) := by
  obtain ⟨A, c, e, h1, h2, h3⟩ := h
  refine ⟨A, c, e, h1, by omega, fun k hk => ?_⟩
  rcases h3 with ⟨rfl, _⟩ | ⟨ad, css, fss, e1, e2, e3, e4, h3⟩
  · cases hk
  · obtain ⟨q1, q2, q3, q4, q5, q6⟩ := h3 k hk
    have q7 := q4 0 (by omega)
    simp only [q6, List.getElem_cons_zero, Nat.mul_one, Nat.add_zero] at q7
    exact ⟨ad, e1, by rw [e4]; exact List.mem_append_left _ (mem_addrs.2 ⟨k, by omega, rfl⟩), World.block_lt_of_cell? _ _ q7, q7⟩

theorem rBytes.close_ {w : World} {ad : Addr} {c : Nat} {bs : List UInt8} (h1 : bs.length ≤ c) (h2 : c ≤ 9223372036854775807) (h : ∀ k, (hk : k < bs.length) → w.cell? (ad.add k) = some (.int .u8 (bs[k].toNat : Int))) :
    rBytes w (addrs ad bs.length) (.slice (some ad) bs.length c) bs := by
  refine ⟨some ad, c, rfl, h1, by omega, .inr ⟨ad, bs.map fun b => [byteV b], bs.map fun _ => [], rfl, by simp, by simp, ?_, fun i hi => ⟨by simpa using hi, by simpa using hi, by simp, fun j hj => ?_, ?_⟩⟩⟩
  · have : (bs.map fun _ => ([] : List Addr)).flatten = [] := by simp [List.flatten_eq_nil_iff]
    rw [this]; simp
  · simp at hj
    subst hj
    simpa [byteV] using h i hi
  · simp [rByte]

theorem rBytes.empty {w : World} {A : Option Addr} {c : Nat} (h2 : c ≤ 9223372036854775807) : rBytes w [] (.slice A 0 c) [] := ⟨A, c, rfl, Nat.zero_le _, by omega, .inl ⟨rfl, rfl⟩⟩

theorem retBool {a b : Bool} (h : a = b) : Ending.returned (.bool a) = .returned (.bool b) := by rw [h]
theorem retInt {k : IntKind} {a b : Int} (h : a = b) : Ending.returned (.int k a) = .returned (.int k b) := by rw [h]
theorem retStr {a b : ByteArray} (h : a = b) : Ending.returned (.string a) = .returned (.string b) := by rw [h]

theorem bneU8t {a b : UInt8} (h : a ≠ b) : (((a.toNat : Int) != (b.toNat : Int)) : Bool) = true := by
  rw [bne_iff_ne]; intro e; exact h (UInt8.toNat_inj.1 (by omega))
theorem bneU8f {a b : UInt8} (h : a = b) : (((a.toNat : Int) != (b.toNat : Int)) : Bool) = false := by
  subst h; simp
theorem bneNat_t {a b : Nat} (h : a ≠ b) : (((a : Int) != (b : Int)) : Bool) = true := by rw [bne_iff_ne]; omega
theorem bneNat_f {a b : Nat} (h : a = b) : (((a : Int) != (b : Int)) : Bool) = false := by subst h; simp

theorem takeEq {α : Type} {xs ys : List α} {k : Nat} (h : xs.take k = ys.take k) (h1 : k < xs.length) (h2 : k < ys.length) (h3 : xs[k] = ys[k]) : xs.take (k+1) = ys.take (k+1) := by
  rw [List.take_succ_eq_append_getElem h1, List.take_succ_eq_append_getElem h2, h, h3]

/-- Memory of one's own: it reads so on cells that are apart, that lie from block lo on, and that may be written. -/
structure Mine (lo : Nat) (w : World) (fs : List Addr) : Prop where
  nodup : fs.Nodup
  from_ : ∀ a, a ∈ fs → lo ≤ a.block
  free : ∀ a, a ∈ fs → w.frozen? a = false

/-- From w to w' nothing that was there has turned but cells of the list. -/
structure Wrote (fs : List Addr) (w w' : World) : Prop where
  os : w'.os = w.os
  tape : w'.tape = w.tape
  output : w'.output = w.output
  size : w.heap.size ≤ w'.heap.size
  cell : ∀ a : Addr, a ∉ fs → a.block < w.heap.size → w'.cell? a = w.cell? a
  frozen : ∀ a : Addr, a.block < w.heap.size → w'.frozen? a = w.frozen? a
  block : ∀ k, k < w.heap.size → (∀ a, a ∈ fs → a.block ≠ k) → w'.heap[k]? = w.heap[k]?

theorem Wrote.refl (fs : List Addr) (w : World) : Wrote fs w w := ⟨rfl, rfl, rfl, Nat.le_refl _, fun _ _ _ => rfl, fun _ _ => rfl, fun _ _ _ => rfl⟩
theorem Wrote.mono {fs gs : List Addr} {w w' : World} (h : Wrote fs w w') (hs : ∀ a, a ∈ fs → a ∈ gs) : Wrote gs w w' :=
  ⟨h.os, h.tape, h.output, h.size, fun a ha hb => h.cell a (fun hf => ha (hs a hf)) hb, h.frozen, fun k hk hf => h.block k hk fun a ha => hf a (hs a ha)⟩
theorem Wrote.trans {fs : List Addr} {a b c : World} (h : Wrote fs a b) (k : Wrote fs b c) : Wrote fs a c :=
  ⟨k.os.trans h.os, k.tape.trans h.tape, k.output.trans h.output, Nat.le_trans h.size k.size, fun x hx hb => (k.cell x hx (Nat.lt_of_lt_of_le hb h.size)).trans (h.cell x hx hb),
    fun x hb => (k.frozen x (Nat.lt_of_lt_of_le hb h.size)).trans (h.frozen x hb), fun x hx hf => (k.block x (Nat.lt_of_lt_of_le hx h.size) hf).trans (h.block x hx hf)⟩
theorem Wrote.of_below {fs : List Addr} {w w' : World} (h : Below w.heap.size w w') : Wrote fs w w' :=
  ⟨h.os, h.tape, h.output, h.size, fun _ _ hb => h.cell hb, fun _ hb => h.frozen hb, fun k hk _ => h.block k hk⟩
theorem Wrote.setCell {fs : List Addr} {a w : World} (h : Wrote fs a w) {p : Addr} (hp : p ∈ fs) (u : Value) : Wrote fs a (w.setCell p u) :=
  h.trans ⟨rfl, rfl, rfl, by simp [World.setCell], fun x hx _ => World.cell?_setCell_other w p x u (fun e => hx (by rw [← e]; exact hp)), fun x _ => World.frozen?_setCell w p x u, fun k _ hf => Below.heap_setCell w p u k (fun e => hf p hp e.symm)⟩
theorem Wrote.drewN {fs : List Addr} {a w : World} (h : Wrote fs a w) (n : Nat) : Wrote fs a (w.drewN n) := ⟨h.os, h.tape, h.output, h.size, h.cell, h.frozen, h.block⟩
theorem Wrote.below {fs : List Addr} {w w' : World} (h : Wrote fs w w') {B : Nat} (hB : B ≤ w.heap.size) (hf : ∀ a, a ∈ fs → B ≤ a.block) : Below B w w' :=
  ⟨h.os, h.tape, h.output, h.size, fun k hk => h.block k (by omega) fun a ha e => by have := hf a ha; omega⟩
theorem Wrote.same {fs gs : List Addr} {w w' : World} (h : Wrote fs w w') (ht : There gs w) (hd : ∀ a, a ∈ gs → a ∉ fs) : Same gs w w' := fun a ha => h.cell a (hd a ha) (ht a ha)

theorem Mine.keep {lo : Nat} {w w' : World} {fs : List Addr} (h : Mine lo w fs) (hf : ∀ a, a ∈ fs → w'.frozen? a = w.frozen? a) : Mine lo w' fs := ⟨h.nodup, h.from_, fun a ha => (hf a ha).trans (h.free a ha)⟩
theorem Mine.wrote {lo : Nat} {w w' : World} {fs gs : List Addr} (h : Mine lo w fs) (hw : Wrote gs w w') (ht : There fs w) : Mine lo w' fs := h.keep fun a ha => hw.frozen a (ht a ha)

theorem Mine.mono {lo lo' : Nat} {w : World} {fs : List Addr} (h : Mine lo w fs) (hl : lo' ≤ lo) : Mine lo' w fs := ⟨h.nodup, fun a ha => Nat.le_trans hl (h.from_ a ha), h.free⟩
theorem Mine.set_ {lo : Nat} {w : World} {fs : List Addr} (h : Mine lo w fs) (p : Addr) (u : Value) : Mine lo (w.setCell p u) fs := h.keep fun a _ => World.frozen?_setCell w p a u
theorem Same.set_ {fs : List Addr} (w : World) {p : Addr} {lo : Nat} (hf : ∀ a, a ∈ fs → lo ≤ a.block) (hp : p.block < lo) (u : Value) : Same fs w (w.setCell p u) :=
  fun a ha => World.cell?_setCell_other w p a u fun e => by have := hf a ha; rw [← e] at this; omega

theorem nodup_inj {ad : Addr} {n i j : Nat} (h : (addrs ad n).Nodup) (hi : i < n) (hj : j < n) (e : ad.add i = ad.add j) : i = j := by
  unfold addrs at h
  rw [List.nodup_iff_pairwise_ne, List.pairwise_iff_getElem] at h
  rcases Nat.lt_trichotomy i j with hlt | he | hgt
  · have := h i j (by simpa using hi) (by simpa using hj) hlt
    simp at this
    exact absurd e this
  · exact he
  · have := h j i (by simpa using hj) (by simpa using hi) hgt
    simp at this
    exact absurd e.symm this

theorem rBytes.form {w : World} {fs : List Addr} {v : Value} {bs : List UInt8} (h : rBytes w fs v bs) :
    ∃ A c, v = .slice A bs.length c ∧ bs.length ≤ c ∧ c ≤ 9223372036854775807 ∧ ((bs = [] ∧ fs = []) ∨ ∃ ad, A = some ad ∧ fs = addrs ad bs.length ∧ ∀ k, (hk : k < bs.length) → w.cell? (ad.add k) = some (.int .u8 (bs[k].toNat : Int))) := by
  obtain ⟨A, c, e, h1, h2, h3⟩ := h
  refine ⟨A, c, e, h1, by omega, ?_⟩
  rcases h3 with h3 | ⟨ad, css, fss, e1, e2, e3, e4, h3⟩
  · exact .inl h3
  · have hz : fss.flatten = [] := by
      rw [List.flatten_eq_nil_iff]
      intro f hf
      obtain ⟨i, hi, rfl⟩ := List.getElem_of_mem hf
      obtain ⟨_, _, _, _, q, _⟩ := h3 i (by omega)
      exact q
    refine .inr ⟨ad, e1, by rw [e4, hz]; simp, fun k hk => ?_⟩
    obtain ⟨q1, q2, q3, q4, q5, q6⟩ := h3 k hk
    have q7 := q4 0 (by omega)
    simp only [q6, List.getElem_cons_zero, Nat.mul_one, Nat.add_zero] at q7
    exact q7

/-- A byte is stored. -/
theorem rBytes.store {w : World} {fs : List Addr} {ad : Addr} {c n : Nat} {bs : List UInt8} (h : rBytes w fs (.slice (some ad) n c) bs) (hn : fs.Nodup) {j : Nat} (hj : j < bs.length) (b : UInt8) :
    rBytes (w.setCell (ad.add j) (.int .u8 (b.toNat : Int))) fs (.slice (some ad) n c) (bs.set j b) := by
  obtain ⟨A, c', e, h1, h2, h3⟩ := rBytes.form h
  injection e with e1 e2 e3
  subst e2 e3
  rcases h3 with ⟨rfl, _⟩ | ⟨ad', q1, q4, h3⟩
  · simp at hj
  · rw [← e1] at q1
    injection q1 with q1
    subst q1
    have := rBytes.close_ (w := w.setCell (ad.add j) (.int .u8 (b.toNat : Int))) (ad := ad) (c := c) (bs := bs.set j b) (by simpa using h1) h2 (fun k hk => by
      simp only [List.length_set] at hk
      by_cases e : j = k
      · subst e
        rw [World.cell?_setCell_same _ _ _ (h3 j hk), List.getElem_set_self]
      · rw [World.cell?_setCell_other, List.getElem_set_ne e]
        · exact h3 k hk
        · intro e'
          rw [q4] at hn
          exact e (nodup_inj hn hj hk e'))
    rw [List.length_set, ← q4] at this
    exact this

/-- A block that is known whole and may be written. -/
def Blk (w : World) (g : Nat) (t : TypeId) (cs : Array Value) : Prop := w.heap[g]? = some (.cells cs t (0, 0))
section
variable {w w' : World} {g : Nat} {t : TypeId} {cs : Array Value}
theorem Blk.lt (h : Blk w g t cs) : g < w.heap.size := by
  rcases Nat.lt_or_ge g w.heap.size with hlt | hge
  · exact hlt
  · unfold Blk at h; rw [Array.getElem?_eq_none hge] at h; cases h
theorem Blk.cell (h : Blk w g t cs) (i : Nat) : w.cell? ⟨g, i, none⟩ = cs[i]? := cell_of_row w g i cs t (0, 0) h
theorem Blk.frozen (h : Blk w g t cs) (i : Nat) : w.frozen? ⟨g, i, none⟩ = false := by
  unfold Blk at h
  simp [World.frozen?, h]
theorem Blk.new (w : World) (t : TypeId) (cs : Array Value) : Blk (w.alloc (.cells cs t)) w.heap.size t cs := heap_alloc_new w _
theorem Blk.drewN (h : Blk w g t cs) (n : Nat) : Blk (w.drewN n) g t cs := h
theorem Blk.alloc (h : Blk w g t cs) (o : Obj) : Blk (w.alloc o) g t cs := (Below.heap_alloc w o g h.lt).trans h
theorem Blk.set_ (h : Blk w g t cs) (i : Nat) (u : Value) : Blk (w.setCell ⟨g, i, none⟩ u) g t (cs.setIfInBounds i u) := by
  unfold Blk at h ⊢
  simp [World.setCell, Array.getElem?_modify, h]
theorem Blk.far (h : Blk w g t cs) {p : Addr} (hp : g ≠ p.block) (u : Value) : Blk (w.setCell p u) g t cs := (Below.heap_setCell w p u g hp).trans h
theorem Blk.below {B : Nat} (h : Blk w g t cs) (hb : Below B w w') (hg : g < B) : Blk w' g t cs := (hb.block g hg).trans h
theorem Blk.grown {row : Option Nat} (h : Blk w g t cs) (hb : w.grownBy w' row) (hg : some g ≠ row) : Blk w' g t cs := (hb.block g h.lt hg).trans h
end
/-- The block laid last, behind so many others. -/
theorem Blk.new1 (w : World) (o : Obj) (t : TypeId) (cs : Array Value) : Blk ((w.alloc o).alloc (.cells cs t)) (w.heap.size + 1) t cs := by
  have := Blk.new (w.alloc o) t cs
  rwa [World.size_alloc] at this
theorem Blk.new2 (w : World) (o o2 : Obj) (t : TypeId) (cs : Array Value) : Blk (((w.alloc o).alloc o2).alloc (.cells cs t)) (w.heap.size + 1 + 1) t cs := by
  have := Blk.new ((w.alloc o).alloc o2) t cs
  rwa [World.size_alloc, World.size_alloc] at this
/-- A cell of a block, told. -/
theorem Blk.at_ {w : World} {g : Nat} {t : TypeId} {cs : Array Value} (h : Blk w g t cs) (i : Nat) {v : Value} (hv : cs[i]? = some v) : w.cell? ⟨g, i, none⟩ = some v := (h.cell i).trans hv
theorem addNew (g k : Nat) : (⟨g, 0, none⟩ : Addr).add k = ⟨g, k, none⟩ := by unfold Addr.add; split <;> simp_all

/-- What the walk takes from a contract that ends in Below: old cells and old marks read as before. -/
theorem oldCells {W w1 : World} (hb : Below W.heap.size W w1) : (∀ b o, b < W.heap.size → w1.cell? ⟨b, o, none⟩ = W.cell? ⟨b, o, none⟩) ∧ (∀ b o, b < W.heap.size → w1.frozen? ⟨b, o, none⟩ = W.frozen? ⟨b, o, none⟩) :=
  ⟨fun b o h => hb.cell (p := ⟨b, o, none⟩) h, fun b o h => hb.frozen (p := ⟨b, o, none⟩) h⟩

/-- A contract that leaves the world as it is, met inside a region that only reads. -/
theorem quietL {P : Program} {f : FuncId} {args : Array Value} {w : World} {n : Nat} {v : Value}
    (h : Calls P f args (w.drewN n) fun e w' => e = .returned v ∧ w.drewN n = w') : Calls P f args (w.drewN n) fun e w'' => e = .returned v ∧ ∃ m, w'' = w.drewN m :=
  h.mono fun _ _ hh => ⟨hh.1, n, hh.2.symm⟩
theorem quietL2 {P : Program} {f : FuncId} {args : Array Value} {w : World} {a n : Nat} {v : Value}
    (h : Calls P f args (w.drewN (a + n)) fun e w' => e = .returned v ∧ w.drewN (a + n) = w') : Calls P f args (w.drewN (a + n)) fun e w'' => e = .returned v ∧ ∃ m, w'' = w.drewN (a + m) :=
  h.mono fun _ _ hh => ⟨hh.1, n, hh.2.symm⟩

theorem undrew {w w' : World} (h : Below w.drew.heap.size w.drew w') : Below w.heap.size w w' := ⟨h.os, h.tape, h.output, h.size, h.block⟩
theorem undrewN {w w' : World} {n : Nat} (h : Below (w.drewN n).heap.size (w.drewN n) w') : Below w.heap.size w w' := ⟨h.os, h.tape, h.output, h.size, h.block⟩

/-- A made row of which the first j cells are filled. -/
def fillV (vs : List Value) (z : Value) (j : Nat) : Array Value := (vs.take j ++ List.replicate (vs.length - j) z).toArray
theorem fillV_size (vs : List Value) (z : Value) (j : Nat) : (fillV vs z j).size = vs.length := by simp [fillV]; omega
theorem fillV_zero (vs : List Value) (z : Value) (n : Nat) (h : n = vs.length) : madeCells #[z] n = fillV vs z 0 := by
  subst h
  apply Array.toList_inj.1
  rw [toList_madeCells_one]
  simp [fillV]
theorem fillV_step {vs : List Value} {z : Value} {j : Nat} (h : j < vs.length) : (fillV vs z j).setIfInBounds j vs[j] = fillV vs z (j + 1) := by
  apply Array.toList_inj.1
  rw [Array.toList_setIfInBounds]
  unfold fillV
  apply List.ext_getElem
  · simp; omega
  · intro i h1 h2
    simp only [List.getElem_set, List.getElem_append, List.length_take, List.getElem_take, List.getElem_replicate]
    by_cases e : j = i
    · subst e; simp; omega
    · rw [if_neg e]
      by_cases h : i < j
      · rw [dif_pos (by omega), dif_pos (by omega)]
      · rw [dif_neg (by omega), dif_neg (by omega)]
theorem fillV_full (vs : List Value) (z : Value) : fillV vs z vs.length = vs.toArray := by simp [fillV]
theorem fillV_get (vs : List Value) (z : Value) (j : Nat) (i : Nat) (h : i < vs.length) : ∃ u, (fillV vs z j)[i]? = some u := by
  have : i < (fillV vs z j).size := by rw [fillV_size]; exact h
  exact ⟨_, Array.getElem?_eq_getElem this⟩

theorem rBytes.of_blk {w : World} {g : Nat} {T : TypeId} {bs : List UInt8} (h : Blk w g T (bs.map byteV).toArray) (hs : bs.length ≤ 1000000000000) :
    rBytes w (addrs ⟨g, 0, none⟩ bs.length) (.slice (some ⟨g, 0, none⟩) bs.length bs.length) bs :=
  rBytes.close_ (Nat.le_refl _) (by omega) fun k hk => by
    rw [addNew, h.cell]
    simp [byteV, hk]

/-- One element appended to a row of one's own: what the walk's arm uses. -/
theorem wpAppendOne {P : Program} {w : World} {ops : Array Oper} {rest : List Oper} {o : Oper} {a : Act} {Q : Exit → Act → World → Prop} (hgd : o.guard = none) (s x : Operand) (t : TypeId)
    (ho : o.op = .call { callee := .builtin .append, args := #[s, x], argTypes := #[t, t] })
    (base : Nat) (e : TypeId) (z : Value) (k bytes : Nat) (ht : P.underlying t = some (.slice e)) (hi : (P.info? e).map (fun i => (i.zero, i.size, i.bytes)) = some (some z, k, bytes)) (hzs : z.cells.size = k) (hk : 0 < k)
    (v : Value) (n : Nat) (xs : List Value) (hs : a.eval s = v) (hown : w.ownsRow base e k v n xs)
    (g : Nat) (us : List Value) (hx : a.eval x = .slice (some ⟨g, 0, none⟩) 1 1) (hus : us.length = k) (hblk : Blk w g e us.toArray) (h1 : ∀ u ∈ us, u.oneCell' = true)
    (hn : n + 1 ≤ 1000000000) (hb : bytes ≤ 1000) (hbase : base ≤ w.heap.size)
    (h : ∀ v' w', w'.ownsRow base e k v' (n + 1) (xs ++ us) → w.grownBy w' v.ownBlock → wpList P ops Q rest (a.put o.dst v') w') : wpList P ops Q (o :: rest) a w := by
  obtain ⟨i, hi0, hz0, hz1, hz2⟩ := info_parts hi
  have hbb : (n + 1) * bytes ≤ 140737488355328 := Nat.le_trans (Nat.mul_le_mul hn hb) (by omega)
  refine wpList_append_own w hgd s x t ho base e i z k bytes ht hi0 hz0 hz1 hz2 hzs hk v n xs hs hown ⟨g, 0, none⟩ 1 1 us hx (by omega) (fun j u hu => ?_) h1 (by simp only [maxLen]; omega) hbb hbase (fun v' w' h2 h3 _ => h v' w' h2 h3)
  rw [addNew, hblk.cell]
  simpa using hu

theorem ownsRow_far {w : World} {base : Nat} {e : TypeId} {k : Nat} {v : Value} {n : Nat} {xs : List Value} (h : w.ownsRow base e k v n xs) {p : Addr} (hp : p.block < base) (u : Value) : (w.setCell p u).ownsRow base e k v n xs := by
  refine ⟨h.1, ?_⟩
  rcases h.2 with h2 | ⟨g, cap, cur, hv, hb, hg, h3⟩
  · exact .inl h2
  · exact .inr ⟨g, cap, cur, hv, hb, (Below.heap_setCell w p u g (by omega)).trans hg, h3⟩

def mkByte (k : Nat) : UInt8 := UInt8.ofNat k
def mkBytes (k n : Nat) : List UInt8 := (List.range n).map fun i => mkByte (k + i)
theorem length_mkBytes (k n : Nat) : (mkBytes k n).length = n := by simp [mkBytes]
theorem get_mkBytes (k n i : Nat) (h : i < (mkBytes k n).length) : (mkBytes k n)[i] = mkByte (k + i) := by simp [mkBytes]
theorem mkByte_toNat (k : Nat) : (mkByte k).toNat = k % 256 := by simp [mkByte]

end Go.Proofs.Ytabainoplkpppaa
