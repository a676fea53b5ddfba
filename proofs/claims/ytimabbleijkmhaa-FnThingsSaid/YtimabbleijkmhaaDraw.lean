/-
  The draws' source: a block of its own that holds the code and a count; what each draw of a number answers, by its bounds alone.
-/
import Derived.Test.YtimabbleijkmhaaOwn
import Derived.Test.YtimabbleijkmhaaLBytes
import Derived.Deep.RegionHeld3
namespace Go.Proofs.Ytimabbleijkmhaa
open Go.RowKit

/-- The source of draws in block b, counted to t at most. -/
def Src (w : World) (b : Nat) (code : List UInt8) (fs : List Addr) (t : Nat) : Prop :=
  ∃ (A : Option Addr) (c : Nat) (at_ : Nat), Blk w b 93 #[.slice A code.length c, .int .i64 at_] ∧ rBytes w fs (.slice A code.length c) code ∧ (∀ a, a ∈ fs → a.block ≠ b) ∧ at_ ≤ t
theorem Src.lt {w : World} {b : Nat} {code : List UInt8} {fs : List Addr} {t : Nat} (h : Src w b code fs t) : b < w.heap.size := by
  obtain ⟨_, _, _, h, _⟩ := h
  exact h.lt
theorem Src.keep {w w' : World} {b : Nat} {code : List UInt8} {fs : List Addr} {t : Nat} (h : Src w b code fs t) (hb : Below w.heap.size w w') : Src w' b code fs t := by
  obtain ⟨A, c, n, h1, h2, h3, h4⟩ := h
  exact ⟨A, c, n, h1.below hb h1.lt, rBytes.below h2 hb, h3, h4⟩
theorem Src.mono {w : World} {b : Nat} {code : List UInt8} {fs : List Addr} {t t' : Nat} (h : Src w b code fs t) (ht : t ≤ t') : Src w b code fs t' := by
  obtain ⟨A, c, n, h1, h2, h3, h4⟩ := h
  exact ⟨A, c, n, h1, h2, h3, by omega⟩

/-- What a draw does: the source's block alone is written, new blocks may be there. -/
structure Drawn (b : Nat) (code : List UInt8) (fs : List Addr) (t : Nat) (w w' : World) : Prop where
  src : Src w' b code fs t
  grown : w.grownBy w' (some b)
theorem Drawn.below {b : Nat} {code : List UInt8} {fs : List Addr} {t : Nat} {w w' : World} (h : Drawn b code fs t w w') {B : Nat} (hB : B ≤ b) (hw : B ≤ w.heap.size) : Below B w w' :=
  (Below.refl B w).grown h.grown hw (fun k hk => by injection hk with hk; omega)
theorem grown_trans {a b c : World} {row : Option Nat} (h : a.grownBy b row) (k : b.grownBy c row) : a.grownBy c row :=
  ⟨k.os.trans h.os, k.tape.trans h.tape, k.output.trans h.output, Nat.le_trans h.size k.size, fun x hx hne => (k.block x (Nat.lt_of_lt_of_le hx h.size) hne).trans (h.block x hx hne)⟩
theorem grown_below {a b : World} {row : Option Nat} (h : Below a.heap.size a b) : a.grownBy b row := ⟨h.os, h.tape, h.output, h.size, fun x hx _ => h.block x hx⟩
theorem grown_refl (a : World) (row : Option Nat) : a.grownBy a row := ⟨rfl, rfl, rfl, Nat.le_refl _, fun _ _ _ => rfl⟩

theorem drawVal {x y : Nat} (h : x < 256) (hy : y ≤ 1000000) : 0 ≤ (x : Int) + (y : Int) * 37 := by omega

theorem Src.cells {w : World} {b : Nat} {code : List UInt8} {fs : List Addr} {t : Nat} (h : Src w b code fs t) : ∃ A c at_, at_ ≤ t ∧ w.cell? ⟨b, 0, none⟩ = some (.slice A code.length c) ∧ w.cell? ⟨b, 1, none⟩ = some (.int .i64 (at_ : Nat)) ∧ w.frozen? ⟨b, 1, none⟩ = false ∧ w.frozen? ⟨b, 0, none⟩ = false ∧
    (∀ k, k < code.length → ∃ (ad : Addr) (x : Nat), A = some ad ∧ x < 256 ∧ ad.block ≠ b ∧ w.cell? (ad.add k) = some (.int .u8 (x : Int))) ∧
    (∀ (n : Nat) (W : World), n ≤ t + 1 → W.heap = (w.setCell ⟨b, 1, none⟩ (.int .i64 (n : Nat))).heap → W.os = w.os → W.tape = w.tape → W.output = w.output → Drawn b code fs (t + 1) w W) := by
  obtain ⟨A, c, n, h1, h2, h3, h4⟩ := h
  obtain ⟨A', c', e, hc1, hm1, hx⟩ := rBytes.open_ h2
  injection e with e1 e2 e3
  subst e1 e3
  refine ⟨A, c, n, h4, (h1.cell 0).trans rfl, (h1.cell 1).trans rfl, h1.frozen 1, h1.frozen 0, fun k hk => ?_, fun m W hm hW o1 o2 o3 => ⟨⟨A, c, m, ?_, ?_, h3, hm⟩, ⟨o1, o2, o3, ?_, fun q hq hne => ?_⟩⟩⟩
  · obtain ⟨ad, q1, q2, q3, q4⟩ := hx k hk
    exact ⟨ad, code[k].toNat, q1, UInt8.toNat_lt _, by have := h3 _ q2; rwa [blockAdd] at this, q4⟩
  · have := Blk.set_ h1 1 (.int .i64 (m : Nat))
    unfold Blk at this ⊢
    rw [hW, this]
    rfl
  · refine rSl.keep rByte.local_ h2 fun a ha => ?_
    have e : W.cell? a = (w.setCell ⟨b, 1, none⟩ (.int .i64 (m : Nat))).cell? a := by simp [World.cell?, hW]
    rw [e, World.cell?_setCell_other]
    intro e
    exact h3 a ha (by rw [← e])
  · rw [hW]; simp [World.setCell]
  · rw [hW]; exact Below.heap_setCell w _ _ q (fun e => hne (by rw [e]))

theorem natMod {a k : Nat} : ((a : Int) % (k : Int)).toNat = a % k := by omega

set_option maxHeartbeats 1000000 in
theorem l1Next_c (b : Nat) (code : List UInt8) (fs : List Addr) (t : Nat) (n : Int) (w : World) (h : Src w b code fs t) (ht : t ≤ 1000000) (hn0 : 1 ≤ n) (hn : n ≤ 1000000) (hc : code.length ≤ 1048576) :
    Calls Try.prog 62 #[.pointer (some ⟨b, 0, none⟩), .int .i64 n] w fun e w' => ∃ r : Int, e = .returned (.int .i64 r) ∧ 0 ≤ r ∧ r < n ∧ Drawn b code fs (t + 1) w w' := by
  obtain ⟨A, c, at_, hat, c0, c1, f1, f0, hx, hfin⟩ := h.cells
  have HX := Lib.hid hx; have HF := Lib.hid hfin
  clear hx hfin h
  have hn1 : ¬ n < 1 := by omega
  by_cases hk : code.length = 0
  · have HK := Lib.hid hk
    have hk0 : (((code.length : Nat) : Int) == 0) = true := by simp [hk]
    clear hk
    go_enter Try.func62, Try.ntmps62
    go_wp2_with fail
    go_ret
    refine ⟨_, rfl, ?_, ?_, HF.out (at_ + 1) _ (by omega) (by simp) rfl rfl rfl⟩
    · exact Int.emod_nonneg _ (by omega)
    · exact Int.emod_lt_of_pos _ (by omega)
  · have hk0 : (((code.length : Nat) : Int) == 0) = false := by rw [beq_eq_false_iff_ne]; omega
    have hkp : 0 < code.length := by omega
    have hkI : (1 : Int) ≤ (code.length : Nat) := by omega
    obtain ⟨ad, X, rfl, hXb, hab, hc1⟩ := HX.out (at_ % code.length) (Nat.mod_lt _ hkp)
    obtain ⟨ad2, Y, e2, hYb, hab2, hc2⟩ := HX.out ((at_ + 1) % code.length) (Nat.mod_lt _ hkp)
    injection e2 with e2
    subst e2
    have m1 := Nat.mod_lt at_ hkp
    have m2 := Nat.mod_lt (at_ + 1) hkp
    have d1 : at_ / code.length ≤ 1000000 := Nat.le_trans (Nat.div_le_self _ _) (by omega)
    have e1 : ((at_ : Nat) : Int).tmod (code.length : Nat) = ((at_ % code.length : Nat) : Int) := by rw [Int.tmod_eq_emod_of_nonneg (by omega)]; rfl
    have e2 : ((at_ : Nat) + 1 : Int).tmod (code.length : Nat) = (((at_ + 1) % code.length : Nat) : Int) := by rw [Int.tmod_eq_emod_of_nonneg (by omega)]; rfl
    have e3 : ((at_ : Nat) : Int).tdiv (code.length : Nat) = ((at_ / code.length : Nat) : Int) := by rw [Int.tdiv_eq_ediv_of_nonneg (by omega)]; rfl
    have E1 := Lib.hid e1; have E2 := Lib.hid e2; have E3 := Lib.hid e3
    clear e1 e2 e3
    generalize at_ % code.length = p1 at *
    generalize (at_ + 1) % code.length = p2 at *
    generalize at_ / code.length = dv at *
    have HC1 := Lib.hid hc1; have HC2 := Lib.hid hc2
    clear hk hc1 hc2 hab2 HX
    go_enter Try.func62, Try.ntmps62
    go_wp2_with fail
    have q0 : (w.setCell ⟨b, 1, none⟩ (.int .i64 ((at_ : Int) + 1))).cell? ⟨b, 0, none⟩ = some (.slice (some ad) code.length c) := by rw [World.cell?_setCell_other _ _ _ _ (by simp)]; exact c0
    have q1 : (w.setCell ⟨b, 1, none⟩ (.int .i64 ((at_ : Int) + 1))).cell? (ad.add p1) = some (.int .u8 (X : Nat)) := by rw [World.cell?_setCell_other _ _ _ _ (by intro e; exact hab (by rw [← blockAdd ad p1, ← e]))]; exact HC1.out
    have q2 : (w.setCell ⟨b, 1, none⟩ (.int .i64 ((at_ : Int) + 1))).cell? (ad.add p2) = some (.int .u8 (Y : Nat)) := by rw [World.cell?_setCell_other _ _ _ _ (by intro e; exact hab (by rw [← blockAdd ad p2, ← e]))]; exact HC2.out
    obtain ⟨wq, hwq⟩ : ∃ wq, w.setCell ⟨b, 1, none⟩ (.int .i64 ((at_ : Int) + 1)) = wq := ⟨_, rfl⟩
    rw [hwq] at q0 q1 q2 ⊢
    have HWQ := Lib.hid hwq
    clear hwq c0 c1 f0 f1
    have w0 : IntKind.i64.wrap ((X : Nat) : Int) = (X : Nat) := by rw [IntKind.wrap_i64]; omega
    have w1 : IntKind.i64.wrap ((dv : Nat) * 37 : Int) = (dv : Nat) * 37 := by rw [IntKind.wrap_i64]; omega
    have w2 : IntKind.i64.wrap ((X : Nat) + (dv : Nat) * 37 : Int) = (X : Nat) + (dv : Nat) * 37 := by rw [IntKind.wrap_i64]; omega
    have i1 : (0 : Int) ≤ (p1 : Nat) := by omega
    have i2 : ((p1 : Nat) : Int) < (code.length : Nat) := by omega
    have e1 := E1.out; have e3 := E3.out
    go_quiet (fail)
    obtain ⟨V, hV⟩ : ∃ V : Nat, ((X : Nat) + (dv : Nat) * 37 : Int) = (V : Nat) := ⟨X + dv * 37, by omega⟩
    have hVb : V ≤ 40000000 := by omega
    rw [hV]
    clear w0 w1 w2 i1 i2 e1 e3 q1 hV
    by_cases hbig : 200 < n
    · have w1 : IntKind.i64.wrap ((V : Nat) * 251 : Int) = (V : Nat) * 251 := by rw [IntKind.wrap_i64]; omega
      have w2 : IntKind.i64.wrap ((at_ : Nat) + 1 : Int) = (at_ : Nat) + 1 := by rw [IntKind.wrap_i64]; omega
      have w3 : IntKind.i64.wrap ((Y : Nat) : Int) = (Y : Nat) := by rw [IntKind.wrap_i64]; omega
      have w4 : IntKind.i64.wrap ((Y : Nat) * 13 : Int) = (Y : Nat) * 13 := by rw [IntKind.wrap_i64]; omega
      have w5 : IntKind.i64.wrap ((V : Nat) * 251 + (Y : Nat) * 13 : Int) = (V : Nat) * 251 + (Y : Nat) * 13 := by rw [IntKind.wrap_i64]; omega
      have w6 : IntKind.i64.wrap ((V : Nat) * 251 + (Y : Nat) * 13 + (at_ : Nat) : Int) = (V : Nat) * 251 + (Y : Nat) * 13 + (at_ : Nat) := by rw [IntKind.wrap_i64]; omega
      have i1 : (0 : Int) ≤ (p2 : Nat) := by omega
      have i2 : ((p2 : Nat) : Int) < (code.length : Nat) := by omega
      have e2 := E2.out
      go_wp2_with fail
      go_quiet (fail)
      obtain ⟨U, hU⟩ : ∃ U : Nat, ((V : Nat) * 251 + (Y : Nat) * 13 + (at_ : Nat) : Int) = (U : Nat) := ⟨V * 251 + Y * 13 + at_, by omega⟩
      rw [hU]
      clear w1 w2 w3 w4 w5 w6 e2 i1 i2 hU
      go_wp2_with fail
      go_ret
      refine ⟨_, rfl, Int.emod_nonneg _ (by omega), Int.emod_lt_of_pos _ (by omega), HF.out (at_ + 1) _ (by omega) ?_ ?_ ?_ ?_⟩
      all_goals (rw [← HWQ.out]; simp [World.drewN, World.setCell])
    · go_wp2_with fail
      go_ret
      refine ⟨_, rfl, Int.emod_nonneg _ (by omega), Int.emod_lt_of_pos _ (by omega), HF.out (at_ + 1) _ (by omega) ?_ ?_ ?_ ?_⟩
      all_goals (rw [← HWQ.out]; simp [World.drewN, World.setCell])

theorem grown_comp {a b c : World} {r row : Option Nat} (h : a.grownBy b r) (k : b.grownBy c row) (hr : ∀ q, row = some q → a.heap.size ≤ q ∨ r = some q) : a.grownBy c r :=
  ⟨k.os.trans h.os, k.tape.trans h.tape, k.output.trans h.output, Nat.le_trans h.size k.size, fun x hx hne => (k.block x (Nat.lt_of_lt_of_le hx h.size) (fun e => (hr x e.symm).elim (fun h => by omega) (fun h => hne h.symm))).trans (h.block x hx hne)⟩
theorem Src.grown {w w' : World} {b : Nat} {code : List UInt8} {fs : List Addr} {t : Nat} {row : Option Nat} (h : Src w b code fs t) (hg : w.grownBy w' row) (hb : row ≠ some b) (hf : ∀ a, a ∈ fs → row ≠ some a.block) : Src w' b code fs t := by
  obtain ⟨A, c, n, h1, h2, h3, h4⟩ := h
  exact ⟨A, c, n, h1.grown hg (Ne.symm hb), rSl.keep rByte.local_ h2 (fun a ha => hg.cell_far a (rSl.there rByte.fixed h2 a ha) (Ne.symm (hf a ha))), h3, h4⟩
theorem Src.there {w : World} {b : Nat} {code : List UInt8} {fs : List Addr} {t : Nat} (h : Src w b code fs t) : There fs w := by
  obtain ⟨A, c, n, h1, h2, h3, h4⟩ := h
  exact rSl.there rByte.fixed h2
theorem Drawn.trans {b : Nat} {code : List UInt8} {fs : List Addr} {t t' : Nat} {w w' w'' : World} (h : Drawn b code fs t w w') (k : Drawn b code fs t' w' w'') : Drawn b code fs t' w w'' := ⟨k.src, grown_comp h.grown k.grown (fun _ e => .inr e)⟩
theorem Drawn.more {b : Nat} {code : List UInt8} {fs : List Addr} {t : Nat} {w w' w'' : World} (h : Drawn b code fs t w w') (k : Below w'.heap.size w' w'') : Drawn b code fs t w w'' := ⟨h.src.keep k, grown_comp h.grown (grown_below (row := some b) k) (fun _ e => .inr e)⟩
theorem Drawn.row {b : Nat} {code : List UInt8} {fs : List Addr} {t : Nat} {w w' w'' : World} (h : Drawn b code fs t w w') {row : Option Nat} (k : w'.grownBy w'' row) (hr : ∀ q, row = some q → w.heap.size ≤ q) (hb : b < w.heap.size) (hf : There fs w) : Drawn b code fs t w w'' :=
  ⟨h.src.grown k (fun e => by have := hr _ e; omega) (fun a ha e => by have := hr _ e; have := hf a ha; omega), grown_comp h.grown k (fun q e => .inl (hr q e))⟩
theorem Drawn.refl {b : Nat} {code : List UInt8} {fs : List Addr} {t : Nat} {w : World} (h : Src w b code fs t) : Drawn b code fs t w w := ⟨h, grown_refl _ _⟩

set_option maxHeartbeats 1000000 in
theorem l1Source_c (v : Value) (code : List UInt8) (fs : List Addr) (w : World) (h1 : rBytes w fs v code) :
    Calls Try.prog 60 #[v] w fun e w' => e = .returned (.pointer (some ⟨w.heap.size, 0, none⟩)) ∧ Src w' w.heap.size code fs 0 ∧ Below w.heap.size w w' := by
  have H1 := Lib.hid h1
  obtain ⟨A1, c1, rfl, -⟩ := h1.form
  clear h1
  go_enter Try.func60, Try.ntmps60
  go_wp2_with fail
  go_ret
  have hb : Below w.heap.size w (w.alloc (.cells #[.slice A1 code.length c1, .int .i64 0] 93)) := (Below.refl _ _).alloc (Nat.le_refl _) _
  exact ⟨rfl, ⟨A1, c1, 0, Blk.new _ _ _, rBytes.below H1.out hb, fun a ha e => by have := rSl.there rByte.fixed H1.out a ha; omega, Nat.le_refl _⟩, hb⟩

set_option maxHeartbeats 1000000 in
theorem l1Chance_c (b : Nat) (code : List UInt8) (fs : List Addr) (t : Nat) (n : Int) (w : World) (h : Src w b code fs t) (ht : t ≤ 1000000) (hn0 : 1 ≤ n) (hn : n ≤ 1000000) (hc : code.length ≤ 1048576) :
    Calls Try.prog 64 #[.pointer (some ⟨b, 0, none⟩), .int .i64 n] w fun e w' => ∃ r : Bool, e = .returned (.bool r) ∧ Drawn b code fs (t + 1) w w' := by
  go_enter Try.func64, Try.ntmps64
  go_wp2_with fail
  refine (l1Next_c b code fs t n w h ht hn0 hn hc).mono ?_
  rintro e w1 ⟨r, rfl, hr0, hr1, hd⟩
  have HD := Lib.hid hd; clear hd
  go_wp2_with fail
  all_goals
    go_ret
    exact ⟨_, rfl, HD.out⟩

set_option maxHeartbeats 1000000 in
theorem l1Pick_c (b : Nat) (code : List UInt8) (fs : List Addr) (t : Nat) (g : Nat) (zs : List Int) (n : Nat) (w : World) (h : Src w b code fs t) (hg : Blk w g 2 (zs.map (Value.int .i64)).toArray) (hgb : g ≠ b) (hn : zs.length = n) (ht : t ≤ 1000000) (hn0 : 1 ≤ n) (hn1 : n ≤ 1000) (hc : code.length ≤ 1048576) :
    Calls Try.prog 63 #[.pointer (some ⟨b, 0, none⟩), .slice (some ⟨g, 0, none⟩) n n] w fun e w' => ∃ r : Int, e = .returned (.int .i64 r) ∧ r ∈ zs ∧ Drawn b code fs (t + 1) w w' := by
  have HN := Lib.hid hn
  clear hn
  go_enter Try.func63, Try.ntmps63
  go_wp2_with fail
  refine (l1Next_c b code fs t n w h ht (by omega) (by omega) hc).mono ?_
  rintro e w1 ⟨r, rfl, hr0, hr1, hd⟩
  have HD := Lib.hid hd
  obtain ⟨q, rfl⟩ := Int.eq_ofNat_of_zero_le hr0
  have hq : q < zs.length := by have := HN.out; omega
  have hk := (hg.grown hd.grown (fun e => hgb (by injection e))).cell q
  have e1 : (zs.map (Value.int .i64)).toArray[q]? = some (.int .i64 zs[q]) := by simp [hq]
  rw [e1] at hk
  have hqn : q < n := by omega
  clear hd e1
  go_wp2_with fail
  go_ret
  exact ⟨_, rfl, List.getElem_mem hq, HD.out⟩

theorem u8_of (r : Int) : ∃ x : UInt8, r % 256 = (x.toNat : Int) := by
  refine ⟨UInt8.ofNat (r % 256).toNat, ?_⟩
  rw [UInt8.toNat_ofNat']
  omega

set_option maxHeartbeats 1000000 in
theorem l1Byte_c (b : Nat) (code : List UInt8) (fs : List Addr) (t : Nat) (w : World) (h : Src w b code fs t) (ht : t ≤ 900000) (hc : code.length ≤ 1048576) :
    Calls Try.prog 79 #[.pointer (some ⟨b, 0, none⟩)] w fun e w' => ∃ x : UInt8, e = .returned (byteV x) ∧ Drawn b code fs (t + 3) w w' := by
  have H := Lib.hid h; clear h
  go_enter Try.func79, Try.ntmps79
  go_wp2_with fail
  refine (l1Next_c b code fs t 256 w H.out (by omega) (by omega) (by omega) hc).mono ?_
  rintro e w1 ⟨r1, rfl, a1, a2, hd1⟩
  have HD1 := Lib.hid hd1; clear hd1
  go_wp2_with fail
  refine (l1Next_c b code fs (t + 1) 256 w1 HD1.out.src (by omega) (by omega) (by omega) hc).mono ?_
  rintro e w2 ⟨r2, rfl, a3, a4, hd2⟩
  have HD2 := Lib.hid (HD1.out.trans hd2); clear hd2
  go_wp2_with fail
  have hb : Below w2.heap.size w2 (w2.alloc (.cells #[.int .i64 r1, .int .i64 r2, .int .i64 0, .int .i64 1, .int .i64 2, .int .i64 255] 2)) := (Below.refl _ _).alloc (Nat.le_refl _) _
  have HD3 := Lib.hid (HD2.out.more hb)
  have hlt := HD2.out.src.lt
  refine (l1Pick_c b code fs (t + 2) w2.heap.size [r1, r2, 0, 1, 2, 255] 6 _ HD3.out.src (Blk.new _ _ _) (by omega) rfl (by omega) (by omega) (by omega) hc).mono ?_
  rintro e w3 ⟨r3, rfl, hm, hd3⟩
  have HD4 := Lib.hid (HD3.out.trans hd3)
  clear hm hd3 hb
  obtain ⟨x, hx⟩ := u8_of r3
  have HX := Lib.hid hx; clear hx
  go_wp2_with fail
  rw [HX.out]
  go_ret
  exact ⟨x, rfl, HD4.out⟩

set_option maxHeartbeats 1000000 in
set_option maxRecDepth 100000 in
theorem l1Some_c (b : Nat) (code : List UInt8) (fs : List Addr) (t : Nat) (n : Int) (w : World) (h : Src w b code fs t) (hn : n ≤ 1000) (hn0 : 0 ≤ n) (ht : t ≤ 500000) (hc : code.length ≤ 1048576) :
    Calls Try.prog 61 #[.pointer (some ⟨b, 0, none⟩), .int .i64 n] w fun e w' => ∃ v f bs, e = .returned v ∧ rBytes w' f v bs ∧ (bs.length : Int) = n ∧ Mine w.heap.size w' f ∧ Drawn b code fs (t + 3 * n.toNat) w w' := by
  obtain ⟨N, rfl⟩ := Int.eq_ofNat_of_zero_le hn0
  have H := Lib.hid h
  have HT := Lib.hid h.there
  have hlt := h.lt
  clear h
  go_enter Try.func61, Try.ntmps61
  go_wp2
  go_loopw [1, 5] (fun i o wr => ∃ (j : Nat) (bs : List UInt8), j ≤ N ∧ bs.length = j ∧ i = .int .i64 ((N - j : Nat) : Int) ∧ OwnL 1 5 rByte wr w.heap.size o bs [] ∧ Drawn b code fs (t + 3 * j) w wr) (fun i _ _ => (intOf i).toNat)
  case atStart => exact ⟨0, [], by omega, rfl, rfl, OwnL.start (World.ownsRow_lit w #[] 0 (Nat.le_refl _) (Nat.zero_le _) rfl), (Drawn.refl H.out).more ((Below.refl _ _).alloc (Nat.le_refl _) _)⟩
  case round =>
    obtain ⟨j, bs, hj, hbl, rfl, ho, hd⟩ := hrel
    have HO := Lib.hid ho; have HD := Lib.hid hd; have HBL := Lib.hid hbl
    clear ho hd hbl
    by_cases hlt2 : j < N
    · obtain ⟨m, hm⟩ : ∃ m, N - j = m + 1 := ⟨N - j - 1, by omega⟩
      rw [hm]
      have HM := Lib.hid hm
      have hmb : m ≤ 1000 := by omega
      clear hm
      go_wp2_with fail
      refine (l1Byte_c b code fs (t + 3 * j) wr HD.out.src (by omega) hc).mono ?_
      rintro e w1 ⟨x, rfl, hd1⟩
      have HO1 := Lib.hid (HO.out.keep rByte.local_ (fun q hq => hd1.grown.block q (HO.out.lt q hq).2 (fun e => by injection e with e; have := (HO.out.lt q hq).1; omega)) (fun a ha => by cases ha) : OwnL 1 5 rByte w1 w.heap.size _ bs [])
      have HD1 := Lib.hid (HD.out.trans hd1)
      clear hd1
      have HA := Lib.hid (OwnL.appendOne (P := Try.prog) 22 22 (.int .u8 0) 1 Try.underlying22 Try.info5 rfl (by decide) rByte.local_ rByte.fixed rByte_one w.heap.size _ bs [] (OwnL.below rByte.local_ rByte.fixed HO1.out ((Below.refl _ _).alloc (Nat.le_refl _) (.cells #[byteV x] 5))) w1.heap.size [byteV x] [] x rfl (Blk.new _ _ _) ⟨rfl, rfl⟩ (fun _ h => by cases h) (by rw [HBL.out]; omega) (by omega) (by have := HD1.out.grown.size; simp; omega))
      unfold byteV at HA
      unfold byteV
      go_wp2_with (at_builtin; refine wpList_append_of rfl (.tmp 11) (.tmp 14) 22 rfl _ _ rfl rfl HA.out ?_; rintro v3 w3 ⟨hs, o3, s3, g3, -⟩)
      have hse : hs = [] := List.eq_nil_of_length_eq_zero (by have := s3.length_le; simpa using this)
      subst hse
      have HO3 := Lib.hid o3
      have HD3 := Lib.hid ((HD1.out.more ((Below.refl _ _).alloc (Nat.le_refl _) _)).row g3 (fun q hq => (HO1.out.lt q hq).1) hlt HT.out)
      clear o3 s3 g3
      go_wp2_with fail
      go_roundw
      case rel => exact ⟨j + 1, bs ++ [x], by omega, by simp [HBL.out], by have := HM.out; congr 1; omega, HO3.out, HD3.out⟩
      case measure => simp [intOf] <;> omega
    · have hm : N - j = 0 := by omega
      have hjn : j = N := by omega
      rw [hm]
      have HJ := Lib.hid hjn
      clear hm hjn
      go_wp2_with fail
      go_ret
      obtain ⟨f, r1, r2⟩ := HO.out.readsMine ⟨List.nodup_nil, (fun _ h => by cases h), (fun _ h => by cases h)⟩
      exact ⟨_, f, bs, rfl, r1, by rw [HBL.out, HJ.out], r2, by have := HD.out; rw [HJ.out] at this; exact this⟩

end Go.Proofs.Ytimabbleijkmhaa
