/-
  DrawHexOf, l14Cut, DrawBytesOfHex: by their bounds alone.
-/
import Derived.Test.YtimabbleijkmhaaDraw
import Derived.Test.YtimabbleijkmhaaHex
namespace Go.Proofs.Ytimabbleijkmhaa
open Go.RowKit

theorem Src.alloc_ {w : World} {b : Nat} {code : List UInt8} {fs : List Addr} {t : Nat} {o : Obj} (h : Src w b code fs t) : Src (w.alloc o) b code fs t := h.keep ((Below.refl _ _).alloc (Nat.le_refl _) _)
theorem Src.drew_ {w : World} {b : Nat} {code : List UInt8} {fs : List Addr} {t : Nat} (h : Src w b code fs t) : Src w.drew b code fs t := h.keep ⟨rfl, rfl, rfl, Nat.le_refl _, fun _ _ => rfl⟩
theorem Blk.drew_ {w : World} {g : Nat} {t : TypeId} {cs : Array Value} (h : Blk w g t cs) : Blk w.drew g t cs := h
theorem grown_alloc {a w : World} {row : Option Nat} {o : Obj} (h : a.grownBy w row) : a.grownBy (w.alloc o) row := grown_comp h (grown_below (row := row) ((Below.refl _ _).alloc (Nat.le_refl _) _)) (fun _ e => .inr e)
theorem grown_drew {a w : World} {row : Option Nat} (h : a.grownBy w row) : a.grownBy w.drew row := ⟨h.os, h.tape, h.output, h.size, h.block⟩

set_option maxHeartbeats 1000000 in
theorem drawHexOf_c (v : Value) (code : List UInt8) (fs : List Addr) (w : World) (h1 : rBytes w fs v code) (hc : code.length ≤ 1048576) :
    Calls Try.prog 30 #[v] w fun e w' => ∃ v' f bs, e = .returned v' ∧ rBytes w' f v' bs ∧ bs.length ≤ 8 ∧ Below w.heap.size w w' := by
  have H1 := Lib.hid h1
  obtain ⟨A1, c1, rfl, -⟩ := h1.form
  clear h1
  go_enter Try.func30, Try.ntmps30
  go_wp2_with fail
  refine (l1Source_c _ code fs w H1.out).mono ?_
  rintro e w1 ⟨rfl, hs, hb1⟩
  have HS := Lib.hid hs; have B1 := Lib.hid hb1
  clear hs hb1
  go_wp2_with fail
  refine (l1Next_c _ code fs 0 9 w1 HS.out (by omega) (by omega) (by omega) hc).mono ?_
  rintro e w2 ⟨r, rfl, r0, r1, hd⟩
  have HD := Lib.hid hd; clear hd
  go_wp2_with fail
  refine (l1Some_c _ code fs 1 r w2 HD.out.src (by omega) r0 (by omega) hc).mono ?_
  rintro e w3 ⟨v3, f3, bs, rfl, h3, hl, -, hd3⟩
  have HD3 := Lib.hid (HD.out.trans hd3); have H3 := Lib.hid h3; have HL := Lib.hid (show bs.length ≤ 8 by omega)
  clear hd3 h3 hl
  go_wp2_with fail
  go_ret
  exact ⟨v3, f3, bs, rfl, H3.out, HL.out, B1.out.trans (HD3.out.below (Nat.le_refl _) B1.out.size)⟩

theorem str_small {a b : ByteArray} {n m : Nat} (ha : a.size ≤ n) (hb : b.size ≤ m) : (a ++ b).size ≤ n + m := by rw [ByteArray.size_append]; omega
theorem ext_small (s : ByteArray) (a b : Nat) : (s.extract a b).size ≤ s.size := by rw [ByteArray.size_extract]; omega

theorem belowA {w W : World} {o : Obj} (h : Below w.heap.size w W) : Below w.heap.size w (W.alloc o) := h.alloc h.size o
theorem belowD {w W : World} (h : Below w.heap.size w W) : Below w.heap.size w W.drew := ⟨h.os, h.tape, h.output, h.size, h.block⟩
theorem Drawn.alloc_ {b : Nat} {code : List UInt8} {fs : List Addr} {t : Nat} {w w' : World} {o : Obj} (h : Drawn b code fs t w w') : Drawn b code fs t w (w'.alloc o) := h.more (belowA (Below.refl _ _))
theorem Drawn.drew_ {b : Nat} {code : List UInt8} {fs : List Addr} {t : Nat} {w w' : World} (h : Drawn b code fs t w w') : Drawn b code fs t w w'.drew := h.more (belowD (Below.refl _ _))
theorem Drawn.drewN_ {b : Nat} {code : List UInt8} {fs : List Addr} {t : Nat} {w w' : World} (h : Drawn b code fs t w w') (n : Nat) : Drawn b code fs t w (w'.drewN n) := h.more ⟨rfl, rfl, rfl, Nat.le_refl _, fun _ _ => rfl⟩

theorem tab4 : ∀ q, q < 4 → ∃ s : ByteArray, (#[.string ⟨#[]⟩, .string ⟨#[32]⟩, .string ⟨#[120]⟩, .string ⟨#[10]⟩] : Array Value)[q]? = some (.string s) ∧ s.size ≤ 1
  | 0, _ => ⟨_, rfl, by decide⟩
  | 1, _ => ⟨_, rfl, by decide⟩
  | 2, _ => ⟨_, rfl, by decide⟩
  | 3, _ => ⟨_, rfl, by decide⟩
  | _ + 4, h => by omega
theorem tab6 : ∀ q, q < 6 → ∃ s : ByteArray, (#[.string ⟨#[32]⟩, .string ⟨#[10]⟩, .string ⟨#[48]⟩, .string ⟨#[97]⟩, .string ⟨#[71]⟩, .string ⟨#[45]⟩] : Array Value)[q]? = some (.string s) ∧ s.size ≤ 1
  | 0, _ => ⟨_, rfl, by decide⟩
  | 1, _ => ⟨_, rfl, by decide⟩
  | 2, _ => ⟨_, rfl, by decide⟩
  | 3, _ => ⟨_, rfl, by decide⟩
  | 4, _ => ⟨_, rfl, by decide⟩
  | 5, _ => ⟨_, rfl, by decide⟩
  | _ + 6, h => by omega

theorem cutFacts {b : Nat} {code : List UInt8} {fs : List Addr} {t : Nat} {W w3 : World} (h : Drawn b code fs t W w3) (q : Nat) (hq : q < 6) :
    ∃ S : ByteArray, S.size ≤ 1 ∧ (∀ W' : World, (W'.alloc (.cells #[.string ⟨#[32]⟩, .string ⟨#[10]⟩, .string ⟨#[48]⟩, .string ⟨#[97]⟩, .string ⟨#[71]⟩, .string ⟨#[45]⟩] 9)).cell? ⟨W'.heap.size, q, none⟩ = some (.string S)) ∧
      (∀ g, g ≠ b → Blk W g 9 #[.string ⟨#[32]⟩, .string ⟨#[10]⟩, .string ⟨#[48]⟩, .string ⟨#[97]⟩, .string ⟨#[71]⟩, .string ⟨#[45]⟩] → w3.cell? ⟨g, q, none⟩ = some (.string S)) := by
  obtain ⟨S, hS, hSz⟩ := tab6 q hq
  exact ⟨S, hSz, fun W' => ((Blk.new W' _ _).cell q).trans hS, fun g hg hb => ((hb.grown h.grown (fun e => by injection e with e; exact hg e)).cell q).trans hS⟩

theorem cutByte (r : Int) : ∃ x : UInt8, IntKind.u8.wrap r = (x.toNat : Int) ∧ ∀ (W : World) (V : Int), V = IntKind.u8.wrap r → (convert 22 9 (.slice (some ⟨W.heap.size, 0, none⟩) 1 1)).run Try.prog (W.alloc (.cells #[.int .u8 V] 5)) = .ok (.string ⟨#[x]⟩) (W.alloc (.cells #[.int .u8 V] 5)) := by
  obtain ⟨x, hx⟩ := u8_of r
  have hw : IntKind.u8.wrap r = (x.toNat : Int) := by rw [← hx]; simp [IntKind.wrap, IntKind.bits, IntKind.signed]
  refine ⟨x, hw, fun W V hV => ?_⟩
  exact run_convert_bytes_back _ 22 9 5 ⟨W.heap.size, 0, none⟩ 1 [x] Try.underlying22 Try.underlying5 Try.underlying9 (fun j hj => by
    have : j = 0 := by simpa using hj
    subst this
    rw [addNew, (Blk.new W 5 #[.int .u8 V]).cell, hV]
    simp only [List.getElem_cons_zero, hw]
    rfl)

set_option maxHeartbeats 1000000 in
set_option maxRecDepth 100000 in
theorem l14Cut_c (b : Nat) (code : List UInt8) (fs : List Addr) (t : Nat) (s : ByteArray) (w : World) (h : Src w b code fs t) (ht : t ≤ 900000) (hs : s.size ≤ 1000) (hc : code.length ≤ 1048576) :
    Calls Try.prog 65 #[.pointer (some ⟨b, 0, none⟩), .string s] w fun e w' => ∃ s2 : ByteArray, e = .returned (.string s2) ∧ s2.size ≤ 3000 ∧ Drawn b code fs (t + 3) w w' := by
  have H := Lib.hid h
  have hblt := h.lt
  clear h
  by_cases he : s.toList = []
  · have he2 : (s.toList == []) = true := by rw [he]; rfl
    have he3 : (!s.toList.isEmpty) = false := by rw [he]; rfl
    have he4 : s.toList.isEmpty = true := by rw [he]; rfl
    have HE := Lib.hid he
    clear he
    go_enter Try.func65, Try.ntmps65
    go_wp2_with fail
    refine (l1Next_c b code fs t 4 _ H.out.alloc_ (by omega) (by omega) (by omega) hc).mono ?_
    rintro e w1 ⟨r, rfl, r0, r1, hd⟩
    obtain ⟨q, rfl⟩ := Int.eq_ofNat_of_zero_le r0
    obtain ⟨S, hS, hSz⟩ := tab4 q (by omega)
    have hk := ((Blk.grown (Blk.new w 9 #[.string ⟨#[]⟩, .string ⟨#[32]⟩, .string ⟨#[120]⟩, .string ⟨#[10]⟩]) hd.grown (fun e => by injection e with e; omega)).cell q).trans hS
    have hq : q < 4 := by omega
    have HD := Lib.hid (((Drawn.refl H.out).more ((Below.refl _ _).alloc (Nat.le_refl _) _)).trans hd)
    clear hd hS
    go_wp2_with fail
    go_ret
    exact ⟨S, rfl, by omega, ⟨HD.out.src.mono (by omega), HD.out.grown⟩⟩
  · have he2 : (s.toList == []) = false := by simpa using he
    have he3 : (!s.toList.isEmpty) = true := by simp [he]
    have he4 : s.toList.isEmpty = false := by simp [he]
    have hsz : 0 < s.size := by
      rcases Nat.eq_zero_or_pos s.size with h | h
      · exact absurd (by rw [ByteArray.toList_eq]; exact List.eq_nil_of_length_eq_zero (by simpa using h)) he
      · exact h
    clear he
    go_enter Try.func65, Try.ntmps65
    go_wp2_with fail
    refine (l1Next_c b code fs t s.size w H.out (by omega) (by omega) (by omega) hc).mono ?_
    rintro e w1 ⟨r, rfl, r0, r1, hd⟩
    obtain ⟨q, rfl⟩ := Int.eq_ofNat_of_zero_le r0
    have hq : q < s.size := by omega
    have HD := Lib.hid hd
    clear hd
    go_wp2_with fail
    refine (l1Next_c b code fs (t + 1) 4 w1 HD.out.src (by omega) (by omega) (by omega) hc).mono ?_
    rintro e w2 ⟨r2, rfl, r20, r21, hd⟩
    have HD2 := Lib.hid (HD.out.trans hd)
    clear hd
    have hr : r2 = 0 ∨ r2 = 1 ∨ r2 = 2 ∨ r2 = 3 := by omega
    have hqI : (0 : Int) ≤ (q : Nat) := by omega
    have hqI2 : ((q : Nat) : Int) ≤ (s.size : Nat) := by omega
    have hqI3 : ((q : Nat) : Int) + 1 ≤ (s.size : Nat) := by omega
    have hqw : IntKind.i64.wrap ((q : Int) + 1) = (q : Int) + 1 := by rw [IntKind.wrap_i64]; omega
    rcases hr with rfl | rfl | rfl | rfl
    · go_wp2_with fail
      go_quiet (fail)
      go_wp2_with fail
      go_ret
      exact ⟨_, rfl, by have := str_small (ext_small s 0 q) (ext_small s (q + 1) s.size); omega, Drawn.drewN_ ⟨HD2.out.src.mono (by omega), HD2.out.grown⟩ _⟩
    · go_wp2_with fail
      have hG := grown_refl w2 (some b)
      have hT := tab6
      have hb2 := HD2.out.src.lt
      go_region_with (go_at_call 62; refine (l1Next_c b code fs (t + 2) 6 _ (by repeat (with_reducible first | exact HD2.out.src | apply Src.alloc_ | apply Src.drew_)) (by omega) (by omega) (by omega) hc).mono ?_; rintro e w3 ⟨r3, rfl, a0, a1, hd3⟩; obtain ⟨q3, rfl⟩ := Int.eq_ofNat_of_zero_le a0; obtain ⟨S3, hSz, k2, k1⟩ := cutFacts hd3 q3 (by omega); have k3 := k1 w2.heap.size (by omega); (first | (have k4 := k3 (Blk.new _ _ _)) | (have k4 := k3 (Blk.drew_ (Blk.new _ _ _))) | skip); have HD3 : Hid (Drawn b code fs (t + 3) w w3) := Lib.hid ((HD2.out.more (show Below w2.heap.size w2 _ by repeat (with_reducible first | exact Below.refl _ _ | apply belowA | apply belowD))).trans hd3); clear k1 k3 hd3)
      all_goals go_wp2_with fail
      all_goals
        go_ret
        exact ⟨_, rfl, by have := str_small (str_small (ext_small s 0 q) hSz) (ext_small s q s.size); omega, by repeat (with_reducible first | exact HD3.out | apply Drawn.alloc_ | apply Drawn.drew_)⟩
    · go_wp2_with fail
      have hb2 := HD2.out.src.lt
      go_region_with (go_at_call 62; refine (l1Next_c b code fs (t + 2) 256 _ (by repeat (with_reducible first | exact HD2.out.src | apply Src.alloc_ | apply Src.drew_)) (by omega) (by omega) (by omega) hc).mono ?_; rintro e w3 ⟨r3, rfl, a0, a1, hd3⟩; have HD3 : Hid (Drawn b code fs (t + 3) w w3) := Lib.hid ((HD2.out.more (show Below w2.heap.size w2 _ by repeat (with_reducible first | exact Below.refl _ _ | apply belowA | apply belowD))).trans hd3); clear hd3; obtain ⟨x, hx, kx⟩ := cutByte r3; have kx1 := kx w3 _ rfl; have kx2 := kx w3 (r3 % 256) (by simp [IntKind.wrap, IntKind.bits, IntKind.signed]); have kx3 := kx w3 r3 (by simp [IntKind.wrap, IntKind.bits, IntKind.signed]; omega); clear kx hx)
      all_goals go_wp2_with fail
      all_goals
        go_ret
        exact ⟨_, rfl, by have := str_small (str_small (ext_small s 0 q) (show (⟨#[x]⟩ : ByteArray).size ≤ 1 from Nat.le_refl _)) (ext_small s (q + 1) s.size); omega, by repeat (with_reducible first | exact HD3.out | apply Drawn.alloc_ | apply Drawn.drew_)⟩
    · go_wp2_with fail
      go_ret
      exact ⟨_, rfl, by have := ext_small s 0 q; omega, ⟨HD2.out.src.mono (by omega), HD2.out.grown⟩⟩

end Go.Proofs.Ytimabbleijkmhaa
