/-
  Things: a copy of a list of them, in memory of its own.
-/
import Derived.Test.YtimabbleijkmhaaTh
namespace Go.Proofs.Ytimabbleijkmhaa
open Go.RowKit

set_option maxHeartbeats 1000000 in
theorem toThing_c (d : Th) (v : Value) (fs : List Addr) (w : World) (h1 : rBytes w fs v d.bytes) (hsm : d.bytes.length ≤ 1048576) :
    Calls Try.prog 55 #[.agg #[.string d.name, .bool d.lost, v]] w fun e w' => e = .returned (.agg #[.string d.name, .bool d.lost, .slice (some ⟨w.heap.size + 3, 0, none⟩) d.bytes.length d.bytes.length]) ∧ Below w.heap.size w w' ∧
      Blk w' (w.heap.size + 3) 5 (d.bytes.map byteV).toArray ∧ w'.heap.size = w.heap.size + 4 := by
  obtain ⟨n1, l1, xs⟩ := d
  simp only at h1 hsm ⊢
  have H1 := Lib.hid h1
  obtain ⟨A1, c1, rfl, -⟩ := h1.form
  clear h1
  go_enter Try.func55, Try.ntmps55
  go_wp2_with fail
  have hB : Below w.heap.size w (((w.alloc (.cells #[.string n1, .bool l1, .slice A1 xs.length c1] 72)).alloc (.cells #[.string ⟨#[]⟩, .bool false, .slice none 0 0] 55)).alloc (.cells #[.string n1, .bool l1, .slice none 0 0] 55)) :=
    (((Below.refl _ _).alloc (Nat.le_refl _) _).alloc (by simp) _).alloc (by simp; omega) _
  refine (toByteS_c _ xs fs _ (H1.out.below hB) hsm).mono ?_
  rintro e w1 ⟨rfl, hb1, hk1, hs1⟩
  have k1 := Lib.hid (Blk.below ((Blk.new1 w (.cells #[.string n1, .bool l1, .slice A1 xs.length c1] 72) 55 #[.string ⟨#[]⟩, .bool false, .slice none 0 0]).alloc (.cells #[.string n1, .bool l1, .slice none 0 0] 55)) hb1 (by simp))
  have k2 := Lib.hid (Blk.below (Blk.new2 w (.cells #[.string n1, .bool l1, .slice A1 xs.length c1] 72) (.cells #[.string ⟨#[]⟩, .bool false, .slice none 0 0] 55) 55 #[.string n1, .bool l1, .slice none 0 0]) hb1 (by simp))
  have B1 := Lib.hid (hB.trans (hb1.mono hB.size))
  simp only [World.size_alloc] at hk1 hs1
  have K3 := Lib.hid hk1
  have S1 : w1.heap.size = w.heap.size + 1 + 1 + 1 + 1 := hs1
  have HS := Lib.hid S1
  clear hk1 hs1 hb1 hB S1
  have p0 := Blk.cell k1.out 0
  have p1 := Blk.cell k1.out 1
  have p2 := Blk.cell k1.out 2
  have q0 := Blk.cell k2.out 0
  have q1 := Blk.cell k2.out 1
  have q2 := Blk.cell k2.out 2
  have f0 := Blk.frozen k1.out 0
  have f1 := Blk.frozen k1.out 1
  have f2 := Blk.frozen k1.out 2
  have g0 := Blk.frozen k2.out 0
  have g1 := Blk.frozen k2.out 1
  have g2 := Blk.frozen k2.out 2
  simp at p0 p1 p2 q0 q1 q2
  have z1 : w.heap.size + 1 < w1.heap.size := by have := HS.out; omega
  have z2 : w.heap.size + 1 + 1 < w1.heap.size := by have := HS.out; omega
  go_wp2_with fail
  have K1 := Blk.set_ (Blk.set_ (Blk.set_ (Blk.far k1.out (p := ⟨w.heap.size + 1 + 1, 2, none⟩) (by simp) (.slice (some ⟨w.heap.size + 1 + 1 + 1, 0, none⟩) xs.length xs.length)) 0 (.string n1)) 1 (.bool l1)) 2 (.slice (some ⟨w.heap.size + 1 + 1 + 1, 0, none⟩) xs.length xs.length)
  refine bodyPost_ret (results_cell_row rfl _ _ (w.heap.size + 1) 55 #[.string n1, .bool l1, .slice (some ⟨w.heap.size + 1 + 1 + 1, 0, none⟩) xs.length xs.length] (0, 0) _ rfl K1 Try.underlying55 rfl (by kernel_rfl)) rfl ?_
  refine ⟨rfl, (((B1.out.setCell (by simp; omega) _).setCell (by simp) _).setCell (by simp) _).setCell (by simp) _, ?_, ?_⟩
  · exact Blk.far (Blk.far (Blk.far (Blk.far K3.out (by simp) _) (by simp; omega) _) (by simp; omega) _) (by simp; omega) _
  · have := HS.out
    simp [World.setCell]
    omega

theorem Try.infoThing : (Try.prog.info? 55).map (fun i => (i.zero, i.size, i.bytes)) = some (some (.agg #[.string ⟨#[]⟩, .bool false, .slice none 0 0]), 3, 48) := by kernel_rfl

theorem run_make_wide (P : Program) (t e : TypeId) (z : Value) (k bytes : Nat) (ht : P.underlying t = some (.slice e)) (hinfo : (P.info? e).map (fun i => (i.zero, i.size, i.bytes)) = some (some z, k, bytes)) (n : Nat) (hn : n ≤ 1048576) (hby : bytes ≤ 1000) (w : World) :
    (Instr.makeSlice t (.int .i64 (n : Int)) (.int .i64 (n : Int))).run P w = .ok (.slice (some ⟨w.heap.size, 0, none⟩) n n) (w.alloc (.cells (madeCells z.cells (n * k)) e)) := by
  obtain ⟨i, hi, hz, hs, hb⟩ := info_parts hinfo
  have h2 : bytes * n ≤ 1048576000 := by
    calc bytes * n ≤ 1000 * 1048576 := Nat.mul_le_mul hby hn
      _ = 1048576000 := by decide
  have h3 : (i.bytes : Int) * (n : Int) ≤ 281474976710656 := by
    rw [hb]
    have : ((bytes * n : Nat) : Int) ≤ 1048576000 := Int.ofNat_le.2 h2
    rw [Int.natCast_mul] at this
    omega
  have := run_make w t e i z ht hi hz .i64 .i64 (n : Int) (n : Int) (by omega) (by omega) h3 (by omega)
  rw [hs] at this
  simpa using this

/-- The first j things of the list lie in the new row. -/
def ThDone (w : World) (H : Nat) (ds : List Th) (j : Nat) (cs : Array Value) : Prop :=
  cs.size = ds.length * 3 ∧ ∀ k, (hk : k < ds.length) → k < j → cs[k * 3]? = some (.string ds[k].name) ∧ cs[k * 3 + 1]? = some (.bool ds[k].lost) ∧ cs[k * 3 + 2]? = some (.slice (some ⟨H + 1 + 4 * k + 3, 0, none⟩) ds[k].bytes.length ds[k].bytes.length) ∧
    Blk w (H + 1 + 4 * k + 3) 5 (ds[k].bytes.map byteV).toArray

theorem ThDone.start (w : World) (H : Nat) (ds : List Th) (z : Array Value) : ThDone w H ds 0 (madeCells z (ds.length * 3)) := ⟨size_madeCells _ _, fun _ _ h => absurd h (Nat.not_lt_zero _)⟩
theorem ThDone.has {w : World} {H : Nat} {ds : List Th} {j : Nat} {cs : Array Value} (h : ThDone w H ds j cs) (q : Nat) (hq : q < ds.length * 3) : ∃ u, cs[q]? = some u := ⟨cs[q]'(by rw [h.1]; exact hq), Array.getElem?_eq_getElem (by rw [h.1]; exact hq)⟩
theorem ThDone.step {w w1 : World} {H : Nat} {ds : List Th} {j : Nat} {cs : Array Value} (h : ThDone w H ds j cs) (hj : j < ds.length) (hb : Below w.heap.size w w1) (hs : w.heap.size = H + 1 + 4 * j)
    (hk : Blk w1 (H + 1 + 4 * j + 3) 5 (ds[j].bytes.map byteV).toArray) (p1 p2 p3 : Addr) (h1 : p1.block = H) (h2 : p2.block = H) (h3 : p3.block = H) (u1 u2 u3 : Value) :
    ThDone (((w1.setCell p1 u1).setCell p2 u2).setCell p3 u3) H ds (j + 1) (((cs.setIfInBounds (j * 3) (.string ds[j].name)).setIfInBounds (j * 3 + 1) (.bool ds[j].lost)).setIfInBounds (j * 3 + 2) (.slice (some ⟨H + 1 + 4 * j + 3, 0, none⟩) ds[j].bytes.length ds[j].bytes.length)) := by
  refine ⟨by simp [h.1], fun k hk2 hkj => ?_⟩
  have hcs := h.1
  have far : ∀ g t cc, H < g → Blk w1 g t cc → Blk (((w1.setCell p1 u1).setCell p2 u2).setCell p3 u3) g t cc := fun g t cc hg hh => Blk.far (Blk.far (Blk.far hh (by omega) _) (by omega) _) (by omega) _
  rcases Nat.lt_or_ge k j with hlt | hge
  · obtain ⟨q1, q2, q3, q4⟩ := h.2 k hk2 hlt
    refine ⟨?_, ?_, ?_, far _ _ _ (by omega) (q4.below hb (by omega))⟩
    · rw [Array.getElem?_setIfInBounds_ne (by omega), Array.getElem?_setIfInBounds_ne (by omega), Array.getElem?_setIfInBounds_ne (by omega)]; exact q1
    · rw [Array.getElem?_setIfInBounds_ne (by omega), Array.getElem?_setIfInBounds_ne (by omega), Array.getElem?_setIfInBounds_ne (by omega)]; exact q2
    · rw [Array.getElem?_setIfInBounds_ne (by omega), Array.getElem?_setIfInBounds_ne (by omega), Array.getElem?_setIfInBounds_ne (by omega)]; exact q3
  · obtain rfl : k = j := by omega
    refine ⟨?_, ?_, ?_, far _ _ _ (by omega) hk⟩
    · rw [Array.getElem?_setIfInBounds_ne (by omega), Array.getElem?_setIfInBounds_ne (by omega), Array.getElem?_setIfInBounds_self_of_lt (by omega)]
    · rw [Array.getElem?_setIfInBounds_ne (by omega), Array.getElem?_setIfInBounds_self_of_lt (by simp; omega)]
    · rw [Array.getElem?_setIfInBounds_self_of_lt (by simp; omega)]

set_option maxHeartbeats 1000000 in
theorem toThingS_c (v : Value) (ds : List Th) (fs : List Addr) (w : World) (h1 : rThs w fs v ds) (hsm : ds.length + thSum ds ≤ 1048576) :
    Calls Try.prog 26 #[v] w fun e w' => e = .returned (.slice (some ⟨w.heap.size, 0, none⟩) ds.length ds.length) ∧ Below w.heap.size w w' ∧ w'.heap.size = w.heap.size + 1 + 4 * ds.length ∧ (∃ cs, Blk w' w.heap.size 55 cs ∧ ThDone w' w.heap.size ds ds.length cs) := by
  obtain ⟨A1, c1, rfl, hc1, hm1, hx⟩ := rThs.open_ h1
  clear h1
  have HX := Lib.hid hx; clear hx
  have hmk := run_make_wide Try.prog 45 55 (.agg #[.string ⟨#[]⟩, .bool false, .slice none 0 0]) 3 48 Try.underlying45 Try.infoThing ds.length (by omega) (by omega)
  go_enter Try.func26, Try.ntmps26
  go_wp2
  go_loopw [4] (fun i wr => ∃ (j : Nat) (cs : Array Value), j ≤ ds.length ∧ i = .int .i64 j ∧ Blk wr w.heap.size 55 cs ∧ ThDone wr w.heap.size ds j cs ∧ wr.heap.size = w.heap.size + 1 + 4 * j ∧ Below w.heap.size w wr) (fun i _ => ds.length - (intOf i).toNat)
  case atStart => exact ⟨0, _, by omega, rfl, Blk.new _ _ _, ThDone.start _ _ _ _, by simp, (Below.refl _ _).alloc (Nat.le_refl _) _⟩
  case round =>
    obtain ⟨j, cs, hj, rfl, hbk, hdn, hsz, hb⟩ := hrel
    clear hmk
    by_cases hlt : j < ds.length
    · obtain ⟨ad, A2, c2, fk, e1, b0, hat, hns, hrb, hth, -, -⟩ := HX.out j hlt
      subst e1
      obtain ⟨g0, g1, g2⟩ := hat.below hb b0
      have HRB := Lib.hid (rSl.keep rByte.local_ hrb (Same.of_below hth hb))
      have hbl : ds[j].bytes.length ≤ 1048576 := by have := (thSum_get hlt).2; omega
      have HB := Lib.hid hb; have HD := Lib.hid hdn; have HK := Lib.hid hbk; have HS := Lib.hid hsz
      clear hat hrb hth hb hdn hbk hsz HX
      go_wp2_with fail
      refine (toThing_c ds[j] _ fk wr HRB.out hbl).mono ?_
      rintro e w1 ⟨rfl, hb1, hk1, hs1⟩
      have K1 := Lib.hid (Blk.below HK.out hb1 HK.out.lt)
      obtain ⟨x0, y0⟩ := HD.out.has (j * 3) (by omega)
      obtain ⟨x1, y1⟩ := HD.out.has (j * 3 + 1) (by omega)
      obtain ⟨x2, y2⟩ := HD.out.has (j * 3 + 2) (by omega)
      have q0 := (Blk.cell K1.out (j * 3)).trans y0
      have q1 := (Blk.cell K1.out (j * 3 + 1)).trans y1
      have q2 := (Blk.cell K1.out (j * 3 + 2)).trans y2
      have t0 := Blk.frozen K1.out (j * 3)
      have t1 := Blk.frozen K1.out (j * 3 + 1)
      have t2 := Blk.frozen K1.out (j * 3 + 2)
      have HB1 := Lib.hid hb1; have HK1 := Lib.hid hk1; have HS1 := Lib.hid hs1
      have z1 : w.heap.size < w1.heap.size := K1.out.lt
      clear hb1 hk1 hs1 y0 y1 y2 g0 g1 g2
      go_wp2_with fail
      go_roundw
      case rel =>
        have hst := ThDone.step HD.out hlt HB1.out HS.out (by have := HK1.out; rwa [HS.out] at this) ⟨w.heap.size, j * 3, none⟩ ⟨w.heap.size, j * 3 + 1, none⟩ ⟨w.heap.size, j * 3 + 2, none⟩ rfl rfl rfl (.string ds[j].name) (.bool ds[j].lost) (.slice (some ⟨w.heap.size + 1 + 4 * j + 3, 0, none⟩) ds[j].bytes.length ds[j].bytes.length)
        rw [HS.out]
        refine ⟨j + 1, _, by omega, by go_num, Blk.set_ (Blk.set_ (Blk.set_ K1.out _ _) _ _) _ _, hst, ?_, ?_⟩
        · have h1 := HS1.out
          have h2 := HS.out
          simp [World.setCell]
          omega
        · exact (((HB.out.trans (HB1.out.mono HB.out.size)).setCell (Nat.le_refl _) _).setCell (Nat.le_refl _) _).setCell (Nat.le_refl _) _
      case measure => simp [intOf]; omega
    · have hje : j = ds.length := by omega
      subst hje
      have HB := Lib.hid hb; have HD := Lib.hid hdn; have HK := Lib.hid hbk; have HS := Lib.hid hsz
      clear hb hdn hbk hsz HX
      go_wp2_with fail
      go_ret
      exact ⟨rfl, HB.out, HS.out, _, HK.out, HD.out⟩

theorem mine_rows {w : World} {H m n : Nat} (g L : Nat → Nat) (hg : ∀ k, k < n → H < g k) (hinj : ∀ a b, a < b → b < n → g a ≠ g b) (h0 : ∀ q, w.frozen? ⟨H, q, none⟩ = false) (h1 : ∀ k q, k < n → w.frozen? ⟨g k, q, none⟩ = false) :
    Mine H w (addrs ⟨H, 0, none⟩ m ++ ((List.range n).map fun k => addrs ⟨g k, 0, none⟩ (L k)).flatten) := by
  have hin : ∀ a, a ∈ ((List.range n).map fun k => addrs ⟨g k, 0, none⟩ (L k)).flatten → ∃ k q, k < n ∧ a = ⟨g k, q, none⟩ := by
    intro a ha
    obtain ⟨l, hl, hal⟩ := List.mem_flatten.1 ha
    obtain ⟨k, hk, rfl⟩ := List.mem_map.1 hl
    obtain ⟨q, _, rfl⟩ := mem_addrs.1 hal
    exact ⟨k, q, List.mem_range.1 hk, addNew _ _⟩
  have hin0 : ∀ a, a ∈ addrs ⟨H, 0, none⟩ m → ∃ q, a = ⟨H, q, none⟩ := by
    intro a ha
    obtain ⟨q, _, rfl⟩ := mem_addrs.1 ha
    exact ⟨q, addNew _ _⟩
  refine ⟨?_, fun a ha => ?_, fun a ha => ?_⟩
  · unfold List.Nodup
    refine List.pairwise_append.2 ⟨nodup_addrs rfl, List.pairwise_flatten.2 ⟨fun l hl => ?_, ?_⟩, fun a ha b hb => ?_⟩
    · obtain ⟨k, _, rfl⟩ := List.mem_map.1 hl
      exact nodup_addrs rfl
    · refine List.pairwise_map.2 (List.Pairwise.imp_of_mem ?_ List.pairwise_lt_range)
      intro a b ha hb hab x hx y hy e
      obtain ⟨q, _, rfl⟩ := mem_addrs.1 hx
      obtain ⟨q2, _, rfl⟩ := mem_addrs.1 hy
      rw [addNew, addNew] at e
      exact hinj a b hab (List.mem_range.1 hb) (congrArg Addr.block e)
    · obtain ⟨q, rfl⟩ := hin0 a ha
      obtain ⟨k, q2, hk, rfl⟩ := hin b hb
      intro e
      have := hg k hk
      have e2 : H = g k := congrArg Addr.block e
      omega
  · rcases List.mem_append.1 ha with ha | ha
    · obtain ⟨q, rfl⟩ := hin0 a ha
      exact Nat.le_refl _
    · obtain ⟨k, q2, hk, rfl⟩ := hin a ha
      exact Nat.le_of_lt (hg k hk)
  · rcases List.mem_append.1 ha with ha | ha
    · obtain ⟨q, rfl⟩ := hin0 a ha
      exact h0 q
    · obtain ⟨k, q2, hk, rfl⟩ := hin a ha
      exact h1 k q2 hk

/-- Things whose row lies in a block of its own, each one's bytes too, as a reading. -/
theorem things_of_blocks {w : World} {H : Nat} {T : TypeId} {ds : List Th} {cs : Array Value} {c : Nat} (g : Nat → Nat) (hk : Blk w H T cs) (hg : ∀ k, k < ds.length → H < g k) (hinj : ∀ a b, a < b → b < ds.length → g a ≠ g b) (hc : ds.length ≤ c) (hc2 : c ≤ 9223372036854775807)
    (hd : ∀ k, (hk : k < ds.length) → cs[k * 3]? = some (.string ds[k].name) ∧ cs[k * 3 + 1]? = some (.bool ds[k].lost) ∧ cs[k * 3 + 2]? = some (.slice (some ⟨g k, 0, none⟩) ds[k].bytes.length ds[k].bytes.length) ∧ Blk w (g k) 5 (ds[k].bytes.map byteV).toArray ∧
      ds[k].name.size ≤ 9223372036854775807 ∧ ds[k].bytes.length ≤ 1048576) :
    ∃ fs, rThs w fs (.slice (some ⟨H, 0, none⟩) ds.length c) ds ∧ Mine H w fs := by
  refine ⟨_, ⟨some ⟨H, 0, none⟩, c, rfl, hc, hc2, .inr ⟨⟨H, 0, none⟩, (List.range ds.length).map (fun k => [.string ((ds[k]?).getD ⟨⟨#[]⟩, false, []⟩).name, .bool ((ds[k]?).getD ⟨⟨#[]⟩, false, []⟩).lost, .slice (some ⟨g k, 0, none⟩) ((ds[k]?).getD ⟨⟨#[]⟩, false, []⟩).bytes.length ((ds[k]?).getD ⟨⟨#[]⟩, false, []⟩).bytes.length]), (List.range ds.length).map (fun k => addrs ⟨g k, 0, none⟩ ((ds[k]?).getD ⟨⟨#[]⟩, false, []⟩).bytes.length), rfl, by simp, by simp, rfl, fun i hi => ?_⟩⟩, mine_rows g (fun k => ((ds[k]?).getD ⟨⟨#[]⟩, false, []⟩).bytes.length) hg hinj (fun q => hk.frozen q) (fun k q hk2 => Blk.frozen (hd k hk2).2.2.2.1 q)⟩
  obtain ⟨d0, d1, d2, d3, d4, d5⟩ := hd i hi
  have hD : (ds[i]?).getD ⟨⟨#[]⟩, false, []⟩ = ds[i] := by simp [hi]
  refine ⟨by simpa using hi, by simpa using hi, by simp, fun j hj => ?_, ?_⟩
  · simp only [List.getElem_map, List.getElem_range, hD] at hj ⊢
    rw [addNew, Blk.cell hk]
    match j, hj with
    | 0, _ => simpa using d0
    | 1, _ => simpa using d1
    | 2, _ => simpa using d2
  · simp only [List.getElem_map, List.getElem_range, hD]
    exact ⟨_, rfl, d4, rBytes.of_blk d3 (by omega)⟩

/-- What was copied, as a reading. -/
theorem things_of_done {w : World} {H : Nat} {ds : List Th} {cs : Array Value} (hk : Blk w H 55 cs) (hd : ThDone w H ds ds.length cs) (hn : ds.length ≤ 1048576) (hx : ∀ k, (hk : k < ds.length) → ds[k].name.size ≤ 9223372036854775807 ∧ ds[k].bytes.length ≤ 1048576) :
    ∃ fs, rThs w fs (.slice (some ⟨H, 0, none⟩) ds.length ds.length) ds ∧ Mine H w fs :=
  things_of_blocks (fun k => H + 1 + 4 * k + 3) hk (fun k _ => by omega) (fun a b hab _ => by omega) (Nat.le_refl _) (by omega) (fun k hk2 => by
    obtain ⟨d0, d1, d2, d3⟩ := hd.2 k hk2 hk2
    exact ⟨d0, d1, d2, d3, hx k hk2⟩)

/-- The copy: its reading. -/
theorem toThingS_c' (v : Value) (ds : List Th) (fs : List Addr) (w : World) (h1 : rThs w fs v ds) (hsm : ds.length + thSum ds ≤ 1048576) :
    Calls Try.prog 26 #[v] w fun e w' => ∃ v1 f1, e = .returned v1 ∧ rThs w' f1 v1 ds ∧ Mine w.heap.size w' f1 ∧ Below w.heap.size w w' := by
  refine (toThingS_c v ds fs w h1 hsm).mono ?_
  rintro e w' ⟨rfl, hb, hs, cs, hk, hd⟩
  obtain ⟨f1, h2, h3⟩ := things_of_done hk hd (by omega) (fun k hk2 => by have := thSum_get hk2; omega)
  exact ⟨_, f1, rfl, h2, h3, hb⟩

end Go.Proofs.Ytimabbleijkmhaa
