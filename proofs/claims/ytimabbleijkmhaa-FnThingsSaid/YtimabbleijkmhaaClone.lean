/-
  Copies of bytes: slices.Clone of the program, l13Copy of the reference.
-/
import Derived.Test.YtimabbleijkmhaaTh
import Derived.Lib.SliceRun
namespace Go.Proofs.Ytimabbleijkmhaa
open Go.RowKit

/-- Bytes appended, as a reading (the row lies at or above lo). -/
theorem bytes_of_row {w : World} {base : Nat} {T : TypeId} {v : Value} {n : Nat} {l : List UInt8} (h : w.ownsRow base T 1 v n (l.map byteV)) : ∃ fs, rBytes w fs v l ∧ Mine base w fs := by
  obtain ⟨hl, h2⟩ := h
  simp at hl
  rcases h2 with ⟨rfl, h0⟩ | ⟨g, cap, cur, rfl, hb, hg, hnc, hcm, hcs, htake⟩
  · have : l = [] := List.eq_nil_of_length_eq_zero (by omega)
    subst this
    exact ⟨[], rBytes.empty (by omega), List.nodup_nil, (fun _ h => by cases h), (fun _ h => by cases h)⟩
  · subst hl
    simp only [maxLen] at hcm
    refine ⟨addrs ⟨g, 0, none⟩ l.length, rBytes.close_ hnc (by omega) (fun k hk => ?_), nodup_addrs rfl, fun a ha => ?_, fun a ha => ?_⟩
    · rw [addNew, cell_of_row w g k cur T (0, 0) hg]
      have h3 : (cur.toList.take (l.length * 1))[k]? = some (byteV l[k]) := by rw [htake]; simp [hk]
      rw [List.getElem?_take] at h3
      rw [if_pos (by omega)] at h3
      simpa [byteV] using h3
    · obtain ⟨k, _, rfl⟩ := mem_addrs.1 ha
      rw [blockAdd]; exact hb
    · obtain ⟨k, _, rfl⟩ := mem_addrs.1 ha
      rw [addNew]
      exact frozen_of_row w g k cur T hg

/-- What a copy of bytes answers. -/
def clPost (xs : List UInt8) (w : World) (e : Ending) (w' : World) : Prop :=
  ∃ v fs, e = .returned v ∧ rBytes w' fs v xs ∧ Mine w.heap.size w' fs ∧ Below w.heap.size w w'

/-- The cells of a slice of bytes that has an address. -/
theorem rBytes.cells {w : World} {fs : List Addr} {ad : Addr} {n c : Nat} {xs : List UInt8} (h : rBytes w fs (.slice (some ad) n c) xs) : ∀ j u, (xs.map byteV)[j]? = some u → w.cell? (ad.add j) = some u := by
  obtain ⟨A1, c1, e, hc1, hm1, hx⟩ := rBytes.open_ h
  intro j u hj
  have hlt : j < xs.length := by
    have := (List.getElem?_eq_some_iff.1 hj).1
    simpa using this
  obtain ⟨a2, e2, _, _, h4⟩ := hx j hlt
  injection e with e1
  rw [e2] at e1
  injection e1 with e1
  subst e1
  rw [h4]
  simp [hlt] at hj
  rw [← hj]
  rfl

set_option maxHeartbeats 1000000 in
set_option maxRecDepth 100000 in
theorem cloneBytes_c (v : Value) (xs : List UInt8) (fs : List Addr) (w : World) (h1 : rBytes w fs v xs) (hsm : xs.length ≤ 1048576) :
    Calls Try.prog 67 #[v] w (clPost xs w) := by
  obtain ⟨i0, hi, hz0, hz1, hz2⟩ := info_parts Try.info5
  have q22 : ∀ (w : World) (a : Option Addr) (n c n' c' : Nat), (binOp .eql 22 (.slice a n c) (.slice none n' c')).run Try.prog w = .ok (.bool a.isNone) w := fun w a n c n' c' => Lib.run_eql_slice_nil w _ _ a n c n' c' Try.underlying22
  have H1 := Lib.hid h1
  obtain ⟨A1, c1, rfl, hc1, hm1, hx⟩ := h1.form
  clear h1
  cases A1 with
  | none =>
    have hxs : xs = [] := by
      rcases hx with ⟨rfl, _⟩ | ⟨ad, e, _⟩
      · rfl
      · cases e
    subst hxs
    clear hx
    go_enter Try.func67, Try.ntmps67
    go_wp2_with fail
    go_ret
    exact ⟨_, [], rfl, rBytes.empty (by omega), ⟨List.nodup_nil, (fun _ h => by cases h), (fun _ h => by cases h)⟩, Below.refl _ _⟩
  | some ad =>
    clear hx
    have hce := Lib.hid (rBytes.cells (H1.out.below ((Below.refl w.heap.size w).alloc (Nat.le_refl _) (.cells #[] 5))))
    go_enter Try.func67, Try.ntmps67
    go_wp2_with (at_builtin; refine wpList_append_own _ rfl _ _ 22 rfl w.heap.size 5 i0 (.int .u8 0) 1 1 Try.underlying22 hi hz0 hz1 hz2 rfl (by decide) _ _ _ rfl (World.ownsRow_lit w #[] 0 (Nat.le_refl _) (Nat.zero_le _) rfl) ad xs.length c1 (xs.map byteV) rfl ?qc1 hce.out ?qc3 ?qc4 ?qc5 ?qc6 ?_)
    case qc1 => simp
    case qc3 => intro u hu; obtain ⟨x, _, rfl⟩ := List.mem_map.1 hu; rfl
    case qc4 => unfold maxLen; omega
    case qc5 => omega
    case qc6 => simp
    intro v' w1 hown hgrow hnil
    have HB := Lib.hid (((Below.refl w.heap.size w).alloc (Nat.le_refl _) (.cells #[] 5)).grown hgrow (by simp) (by intro k hk; simp [Value.ownBlock] at hk; omega))
    have HO := Lib.hid hown
    clear hown hgrow hnil
    go_wp2
    go_ret
    obtain ⟨fs', h2, h3⟩ := bytes_of_row (show w1.ownsRow w.heap.size 5 1 v' xs.length (xs.map byteV) from HO.out)
    exact ⟨_, fs', rfl, h2, h3, HB.out⟩


/-- What a copy of a thing answers. -/
def cpPost (d : Th) (w : World) (e : Ending) (w' : World) : Prop :=
  ∃ A c fs, e = .returned (.agg #[.string d.name, .bool d.lost, .slice A d.bytes.length c]) ∧ rBytes w' fs (.slice A d.bytes.length c) d.bytes ∧ Mine w.heap.size w' fs ∧ Below w.heap.size w w'

set_option maxHeartbeats 1000000 in
set_option maxRecDepth 100000 in
theorem l13Copy_c (d : Th) (v : Value) (fs : List Addr) (w : World) (h1 : rBytes w fs v d.bytes) (hsm : d.bytes.length ≤ 1048576) :
    Calls Try.prog 66 #[.agg #[.string d.name, .bool d.lost, v]] w (cpPost d w) := by
  obtain ⟨i0, hi, hz0, hz1, hz2⟩ := info_parts Try.info5
  obtain ⟨n1, l1, xs⟩ := d
  simp only at h1 hsm ⊢
  have H1 := Lib.hid h1
  obtain ⟨A1, c1, rfl, hc1, hm1, hx⟩ := h1.form
  clear h1
  cases A1 with
  | none =>
    have hxs : xs = [] := by
      rcases hx with ⟨rfl, _⟩ | ⟨ad, e, _⟩
      · rfl
      · cases e
    subst hxs
    clear hx
    go_enter Try.func66, Try.ntmps66
    go_wp2_with fail
    have K1 := (Blk.new1 w (.cells #[.string n1, .bool l1, .slice (some ⟨w.heap.size + 1 + 1, 0, none⟩) 0 0] 55) 55 #[.string n1, .bool l1, .slice (some ⟨w.heap.size + 1 + 1, 0, none⟩) 0 0]).alloc (.cells #[] 5)
    refine bodyPost_ret (results_cell_row rfl _ _ (w.heap.size + 1) 55 #[.string n1, .bool l1, .slice (some ⟨w.heap.size + 1 + 1, 0, none⟩) 0 0] (0, 0) _ rfl K1 Try.underlying55 rfl (by kernel_rfl)) rfl ?_
    exact ⟨_, 0, [], rfl, rBytes.empty (by omega), ⟨List.nodup_nil, (fun _ h => by cases h), (fun _ h => by cases h)⟩, (((Below.refl _ _).alloc (Nat.le_refl _) _).alloc (by simp) _).alloc (by simp; omega) _⟩
  | some ad =>
    clear hx
    have hB : Below w.heap.size w (((w.alloc (.cells #[.string n1, .bool l1, .slice (some ad) xs.length c1] 55)).alloc (.cells #[.string ⟨#[]⟩, .bool false, .slice none 0 0] 55)).alloc (.cells #[] 5)) :=
      (((Below.refl _ _).alloc (Nat.le_refl _) _).alloc (by simp) _).alloc (by simp; omega) _
    have hce := Lib.hid (rBytes.cells (H1.out.below hB))
    have HB := Lib.hid hB; clear hB
    have hrow := World.ownsRow_lit (base := w.heap.size + 1 + 1) (e := 5) (size := 1) ((w.alloc (.cells #[.string n1, .bool l1, .slice (some ad) xs.length c1] 55)).alloc (.cells #[.string ⟨#[]⟩, .bool false, .slice none 0 0] 55)) #[] 0 (by simp) (Nat.zero_le _) rfl
    rw [World.size_alloc, World.size_alloc] at hrow
    have HROW := Lib.hid hrow; clear hrow
    have ka := (Blk.new w 55 #[.string n1, .bool l1, .slice (some ad) xs.length c1]).alloc (.cells #[.string ⟨#[]⟩, .bool false, .slice none 0 0] 55)
    have kb := Blk.new1 w (.cells #[.string n1, .bool l1, .slice (some ad) xs.length c1] 55) 55 #[.string ⟨#[]⟩, .bool false, .slice none 0 0]
    have KA := Lib.hid (ka.alloc (.cells #[] 5)); have KB := Lib.hid (kb.alloc (.cells #[] 5))
    clear ka kb
    go_enter Try.func66, Try.ntmps66
    go_wp2_with (at_builtin; refine wpList_append_own _ rfl _ _ 22 rfl (w.heap.size + 1 + 1) 5 i0 (.int .u8 0) 1 1 Try.underlying22 hi hz0 hz1 hz2 rfl (by decide) _ _ _ rfl HROW.out ad xs.length c1 (xs.map byteV) rfl (by simp) hce.out ?qc3 ?qc4 ?qc5 (by simp) ?_)
    case qc3 => intro u hu; rfl
    case qc4 => unfold maxLen; omega
    case qc5 => omega
    intro v' w1 hown hgrow hnil
    have hgb : ∀ k, Value.ownBlock (.slice (some ⟨w.heap.size + 1 + 1, 0, none⟩) 0 0) = some k → w.heap.size + 1 + 1 ≤ k := by intro k hk; simp [Value.ownBlock] at hk; omega
    have KA := Lib.hid (KA.out.grown hgrow (fun e => by have := hgb _ e.symm; omega))
    have KB := Lib.hid (KB.out.grown hgrow (fun e => by have := hgb _ e.symm; omega))
    have HB := Lib.hid (HB.out.grown hgrow (by simp; omega) (fun k hk => by have := hgb k hk; omega))
    obtain ⟨fs', h2, h3⟩ := bytes_of_row (show w1.ownsRow (w.heap.size + 1 + 1) 5 1 v' xs.length (xs.map byteV) from hown)
    obtain ⟨A3, c3, rfl, -⟩ := h2.form
    have R := Lib.hid h2; have M := Lib.hid h3
    clear hown hgrow hnil h2 h3 hgb
    have p0 := Blk.cell KA.out 0
    have p1 := Blk.cell KA.out 1
    have p2 := Blk.cell KA.out 2
    have q0 := Blk.cell KB.out 0
    have q1 := Blk.cell KB.out 1
    have q2 := Blk.cell KB.out 2
    have f0 := Blk.frozen KA.out 0
    have f1 := Blk.frozen KA.out 1
    have f2 := Blk.frozen KA.out 2
    have g0 := Blk.frozen KB.out 0
    have g1 := Blk.frozen KB.out 1
    have g2 := Blk.frozen KB.out 2
    simp at p0 p1 p2 q0 q1 q2
    have z1 := KA.out.lt
    have z2 := KB.out.lt
    go_wp2_with fail
    have K1 := Blk.set_ (Blk.set_ (Blk.set_ (Blk.far KB.out (p := ⟨w.heap.size, 2, none⟩) (by simp) (.slice A3 xs.length c3)) 0 (.string n1)) 1 (.bool l1)) 2 (.slice A3 xs.length c3)
    refine bodyPost_ret (results_cell_row rfl _ _ (w.heap.size + 1) 55 #[.string n1, .bool l1, .slice A3 xs.length c3] (0, 0) _ rfl K1 Try.underlying55 rfl (by kernel_rfl)) rfl ?_
    refine ⟨A3, c3, fs', rfl, ?_, ?_, (((HB.out.setCell (by simp) _).setCell (by simp) _).setCell (by simp) _).setCell (by simp) _⟩
    · exact rSl.keep rByte.local_ (rSl.keep rByte.local_ (rSl.keep rByte.local_ (rSl.keep rByte.local_ R.out (Same.set_ _ M.out.from_ (by simp; omega) _)) (Same.set_ _ M.out.from_ (by simp) _)) (Same.set_ _ M.out.from_ (by simp) _)) (Same.set_ _ M.out.from_ (by simp) _)
    · exact ((((M.out.mono (by omega)).set_ _ _).set_ _ _).set_ _ _).set_ _ _

end Go.Proofs.Ytimabbleijkmhaa
