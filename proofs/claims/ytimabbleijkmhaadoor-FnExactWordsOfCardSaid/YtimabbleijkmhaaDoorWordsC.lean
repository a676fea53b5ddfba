/-
  impl.WordsOf: the walk.
-/
import Derived.Test.YtimabbleijkmhaaDoorWordsI
import Derived.Lib.SliceRun
namespace Go.Proofs.YtimabbleijkmhaaDoor
open Go.RowKit Go.Sort

theorem pE_eq (x : ByteArray) : x.toList.isEmpty = pE x := by
  rw [ByteArray.toList_eq]
  rfl
theorem splitB_small (sep : ByteArray) (save : Nat) : ∀ (k : Nat) (s x : ByteArray), x ∈ Lib.splitB sep save k s → x.size ≤ s.size
  | 0, s, x, h => by
    rw [Lib.splitB_zero, List.mem_singleton] at h
    rw [h]; exact Nat.le_refl _
  | k + 1, s, x, h => by
    unfold Lib.splitB at h
    split at h
    · rw [List.mem_singleton] at h
      rw [h]; exact Nat.le_refl _
    · rcases List.mem_cons.1 h with rfl | h
      · rw [ByteArray.size_extract]; omega
      · have := splitB_small sep save k _ x h
        rw [ByteArray.size_extract] at this; omega
theorem isEmpty_c (x : ByteArray) (w : World) : Calls Tryd.prog 11 #[.string x] w fun e w' => e = .returned (.bool (pE x)) ∧ ∃ q, w' = w.drewN q := by
  have h := pE_eq x
  go_enter Tryd.func11, Tryd.ntmps11
  go_wp2
  go_ret
  exact ⟨rfl, 0, rfl⟩

set_option maxHeartbeats 1000000 in
set_option maxRecDepth 100000 in
theorem implWordsOf_c (s : ByteArray) (m : Int) (w : World) (hs : s.size ≤ 1048576) (hm : w.cell? ⟨0, 0, none⟩ = some (.int .i64 m)) :
    Calls Tryd.prog 5 #[.string s] w fun e w' => ∃ v fs, e = .returned v ∧ rStrs w' fs v (wordsL s) ∧ Mine w.heap.size w' fs ∧ Below w.heap.size w w' := by
  have hsp : Calls Tryd.prog 10 #[.string s, .string blank] w fun e w' => e = .returned (.slice (some ⟨w.heap.size, 0, none⟩) (Lib.countB s blank + 1) (Lib.countB s blank + 1)) ∧ w' = w.alloc (.cells ((Lib.splitB blank 0 (Lib.countB s blank) s).map Value.string).toArray 9) :=
    Any.strings_Split { Tryd.laysM146 with } Tryd.laysM146.i9 s blank m w (by omega) hm (by decide)
  have hcl := Lib.countB_le blank (by decide) s.size s (Nat.le_refl _)
  have hln := Lib.splitB_all blank (by decide) 0 _ s rfl
  have hwl := wordsL_eq s
  have hin : ∀ x, x ∈ Lib.splitB blank 0 (Lib.countB s blank) s → x.size ≤ 9223372036854775807 := fun x hx => by have := splitB_small _ _ _ _ _ hx; omega
  generalize Lib.countB s blank = n at hsp hcl hln hwl hin
  generalize Lib.splitB blank 0 n s = ps at hsp hln hwl hin
  obtain ⟨W, hW⟩ : ∃ W, w.alloc (.cells (ps.map Value.string).toArray 9) = W := ⟨_, rfl⟩
  have hcl2 : ∀ i, (h : i < ps.toArray.size) → W.cell? ⟨w.heap.size, 0 + i, none⟩ = some (Value.string ps.toArray[i]!) ∧ W.frozen? ⟨w.heap.size, 0 + i, none⟩ = false := by
    intro i hi
    rw [← hW]
    have hb := Blk.new w 9 (ps.map Value.string).toArray
    rw [Nat.zero_add]
    refine ⟨?_, hb.frozen i⟩
    rw [hb.cell]
    simp at hi
    simp [hi]
  have hH : Holds Value.string W w.heap.size 0 ps.toArray := hcl2
  have eg : ∀ args w, (callFunc 11 args).run Tryd.prog w = .ok (.enter 11 args) w := enters_of Tryd.func11 (by kernel_rfl) rfl
  have hdel := AnyE.slices_DeleteFunc Tryd.laysH10 Value.string (fun _ => rfl) pE 11 #[] eg ⟨#[]⟩ Tryd.zeroValue9 w.heap.size 0 (n + 1) ps.toArray W
    (fun W x _ => isEmpty_c x W) (fun _ _ _ x _ => isEmpty_c x _) hH (by simp; omega) (by simp; omega)
  change Calls Tryd.prog 9 _ _ _ at hdel
  have hps : ps.toArray.size = n + 1 := by simp [hln]
  rw [hps, show ps.toArray.toList = ps from rfl, hwl] at hdel
  have hle : (wordsL s).length ≤ n + 1 := by rw [← hwl, ← hln]; exact List.length_filter_le _ _
  have hsz : ∀ x, x ∈ wordsL s → x.size ≤ 9223372036854775807 := fun x hx => by
    rw [← hwl] at hx
    exact hin x (List.mem_filter.1 hx).1
  have HH := Lib.hid hH; have HSZ := Lib.hid hsz; have HLE := Lib.hid hle; have HW := Lib.hid hW; have HPS := Lib.hid hps
  have hWb : Below w.heap.size w W := by rw [← hW]; exact (Below.refl _ _).alloc (Nat.le_refl _) _
  have HB := Lib.hid hWb
  clear hsz hle hin hwl hln hcl2 hps hH hWb
  have HCL := Lib.hid hcl
  obtain ⟨N, hN⟩ : ∃ N, w.heap.size = N := ⟨_, rfl⟩
  have hHN := hN
  rw [hN] at hdel hsp
  obtain ⟨ws, hws⟩ : ∃ ws, wordsL s = ws := ⟨_, rfl⟩
  rw [hws] at hdel HSZ HLE ⊢
  clear hcl hws
  have HD := Lib.hid hdel; have HS := Lib.hid hsp
  have HN := Lib.hid hN
  clear hdel hsp hHN hN
  rw [hW] at HS
  clear hW hm
  go_enter Tryd.func5, Tryd.ntmps5
  go_wp2_with fail
  refine HS.out.mono ?_
  rintro e w1 ⟨rfl, rfl⟩
  go_wp2_with fail
  refine HD.out.mono ?_
  rintro e w2 ⟨rfl, q, rfl⟩
  go_wp2_with fail
  go_ret
  have hds : (ws ++ List.replicate (n + 1 - ws.length) (⟨#[]⟩ : ByteArray)).toArray.size = ps.toArray.size := by
    have := HLE.out; have := HPS.out; rw [HPS.out]; simp; omega
  have hr := holds_putRow Value.string (Sort.ahead w1 q) N 0 ps.toArray (ws ++ List.replicate (n + 1 - ws.length) (⟨#[]⟩ : ByteArray)).toArray (by rw [← HN.out]; exact HH.out) hds
  have hcell : ∀ k, (hk : k < ws.length) → _ := fun k hk => hr k (by simp; omega)
  refine ⟨_, addrs ⟨N, 0, none⟩ ws.length, rfl, rStrs.close_ (by have := HLE.out; omega) (by have := HCL.out; omega) (fun k hk => ?_), ⟨nodup_addrs rfl, fun a ha => ?_, fun a ha => ?_⟩, ?_⟩
  · rw [addNew]
    have := (hcell k hk).1
    rw [Nat.zero_add] at this
    rw [this]
    refine ⟨?_, HSZ.out _ (List.getElem_mem hk)⟩
    simp [List.getElem?_append_left hk, hk]
  · obtain ⟨k, hk, rfl⟩ := mem_addrs.1 ha
    rw [addNew]; show w.heap.size ≤ N; rw [HN.out]; exact Nat.le_refl _
  · obtain ⟨k, hk, rfl⟩ := mem_addrs.1 ha
    rw [addNew]
    have := (hcell k hk).2
    rwa [Nat.zero_add] at this
  · exact Lib.below_putRow HB.out (by rw [HN.out]; exact Nat.le_refl _)

end Go.Proofs.YtimabbleijkmhaaDoor
