/-
  Part 30 of the proof; the last part states and proves the statement.
-/
import Derived.Test.YtfjkoifpdoemdaaGreatQ10
import Derived.Test.YtfjkoifpdoemdaaGreatR19
import Derived.Test.YtfjkoifpdoemdaaGreatR20
set_option maxHeartbeats 8000000
set_option maxRecDepth 100000
set_option linter.unusedVariables false
set_option linter.unusedSimpArgs false
namespace Go.Proofs.YtfjkoifpdoemdaaGreat
open Go.RowKit Go.Lib Go.Sort
theorem firstC_all {s:Sh}:∀ {l:List RecD},firstC s l = 0 → ∀ r,r ∈ l → recCode s r = 0
 | [],_,r,hr => by cases hr
 | x :: l,h,r,hr => by
  unfold firstC at h
  split at h
  ·rename_i h0
   rcases List.mem_cons.1 hr with rfl | hr
   ·exact h0
   ·exact firstC_all h r hr
  ·rename_i h0;exact absurd h h0
theorem recCode_move {s:Sh} {r:RecD} (h:recCode s r = 0) (hk:r.kind = 2):moveB s r = true:=by
 by_cases hm:moveB s r = true
 ·exact hm
 ·have e:partCode s r = 3:=by unfold partCode;rw [if_neg (by omega),if_pos hk,if_neg hm]
  unfold recCode at h
  rw [if_pos (by rw [hk];rfl),e] at h
  split at h <;> simp at h
theorem two_of {α:Type}:∀ {l:List α},l.length = 2 → ∃ a b,l = [a,b]
 | [a,b],_ => ⟨a,b,rfl⟩
 | [],h => by simp at h
 | [_],h => by simp at h
 | _ :: _ :: _ :: _,h => by simp only [List.length_cons] at h;omega
theorem trueOk_of {d:WorldD} (h:worldCode d = 0):TrueOk d:=by
 unfold worldCode at h
 by_cases hs:shB d.shape.sh = true
 ·rw [if_pos hs] at h
  by_cases hb:(builtB d.shape.sh d.groups && (onB d.shape.sh d.on d.down && decide (d.tapes.length = 2))) = true
  ·rw [if_pos hb] at h
   simp only [Bool.and_eq_true,decide_eq_true_eq] at hb
   obtain ⟨hb,-,ht⟩:=hb
   have hc:tapesCode d.shape.sh d.tapes = 0:=by
    by_cases hc:tapesCode d.shape.sh d.tapes = 0
    ·exact hc
    ·rw [if_neg hc] at h;exact h
   clear h
   unfold tapesCode at hc
   by_cases hm:d.tapes.any (fun t => decide (200 < t.recs.length)) = true
   ·rw [if_pos hm] at hc;exact absurd hc (by decide)
   ·rw [if_neg hm] at hc
    have hf:firstC d.shape.sh (d.tapes.flatMap TapeD.recs) = 0:=by
     by_cases hf:firstC d.shape.sh (d.tapes.flatMap TapeD.recs) = 0
     ·exact hf
     ·rw [if_neg hf] at hc;exact hc
    unfold builtB at hb
    simp only [Bool.and_eq_true,decide_eq_true_eq,List.all_eq_true] at hb
    obtain ⟨hg,hb⟩:=hb
    have hD:∀ g,g < d.groups.length → groupB d.shape.sh (drivesF d g) = true:=fun g hg => by
     have e:drivesF d g = d.groups[g]:=by simp [drivesF,List.getD_eq_getElem?_getD,hg]
     rw [e]
     exact hb _ (List.getElem_mem hg)
    unfold groupB at hD
    simp only [Bool.and_eq_true,decide_eq_true_eq,List.all_eq_true] at hD
    unfold driveB at hD
    simp only [Bool.and_eq_true,decide_eq_true_eq,List.all_eq_true] at hD
    unfold blockB at hD
    simp only [Bool.and_eq_true,decide_eq_true_eq] at hD
    refine ⟨shB_ok hs,hg,fun g hg => (hD g hg).1,fun g hg dr hdr => ((hD g hg).2 dr hdr).1,fun g hg dr hdr b hb => (((hD g hg).2 dr hdr).2 b hb).2,ht,?_,fun m hm hk => ?_⟩
    ·obtain ⟨a,b,e⟩:=two_of ht
     unfold recsW
     rw [e] at hm ⊢
     simp only [List.any_cons,List.any_nil,Bool.or_false,Bool.or_eq_true,decide_eq_true_eq,not_or] at hm
     simp only [List.flatMap_cons,List.flatMap_nil,List.append_nil,List.length_append]
     omega
    ·have h2:=recCode_move (firstC_all hf m hm) hk
     unfold moveB at h2
     simp only [Bool.and_eq_true,decide_eq_true_eq] at h2
     obtain ⟨h3,-,h4,h5⟩:=h2
     have h6:=insB_true h3
     have e:d.shape.sh.groups = d.shape.groups:=rfl
     rw [e] at h6
     exact ⟨h6.1,by omega,h4,h5⟩
  ·rw [if_neg hb] at h;exact absurd h (by decide)
 ·rw [if_neg hs] at h;exact absurd h (by decide)
theorem kind4 {x:RecD} (h:insB x.kind 1 4 = true):x.kind = 1 ∨ x.kind = 2 ∨ x.kind = 3 ∨ x.kind = 4:=by
 have:=insB_true h
 omega
theorem recCode_in {s:Sh} {x:RecD} (hk:insB x.kind 1 4 = true) (hq:insB x.seq 1 1000000000 = true):recCode s x = if partCode s x = 0 then (if restB x = true then 0 else 1) else partCode s x:=by
 unfold recCode
 rw [if_pos hk,if_pos hq]
theorem recCode_1 {s:Sh} {x:RecD} (hk:x.kind = 1) (hq:insB x.seq 1 1000000000 = true):(if nameB x.name.data.toList = true then (if itemB s x = true then (if emptyV ⟨#[]⟩ 0 x.group x.row 0 0 x.delta.length = true then 0 else 1) else 3) else 5) = recCode s x:=by
 rw [recCode_in (by rw [hk];rfl) hq]
 have ep:partCode s x = (if nameB x.name.data.toList = true then (if itemB s x = true then 0 else 3) else 5):=by unfold partCode;rw [if_pos hk]
 have er:restB x = emptyV ⟨#[]⟩ 0 x.group x.row 0 0 x.delta.length:=by
  unfold restB emptyV
  rw [if_pos hk,Bool.eq_iff_iff]
  simp [List.length_eq_zero_iff]
 rw [ep,er]
 by_cases h1:nameB x.name.data.toList = true
 ·by_cases h2:itemB s x = true
  ·rw [if_pos h1,if_pos h1,if_pos h2,if_pos h2,if_pos rfl]
  ·rw [if_pos h1,if_pos h1,if_neg h2,if_neg h2,if_neg (by decide)]
 ·rw [if_neg h1,if_neg h1,if_neg (by decide)]
theorem recCode_2 {s:Sh} {x:RecD} (hk:x.kind = 2) (hq:insB x.seq 1 1000000000 = true):(if moveB s x = true then (if emptyV x.name x.length 0 0 x.rows.length 0 0 = true then 0 else 1) else 3) = recCode s x:=by
 rw [recCode_in (by rw [hk];rfl) hq]
 have ep:partCode s x = (if moveB s x = true then 0 else 3):=by unfold partCode;rw [if_neg (by omega),if_pos hk]
 have er:restB x = emptyV x.name x.length 0 0 x.rows.length 0 0:=by
  unfold restB emptyV
  rw [if_neg (by omega),if_pos hk,Bool.eq_iff_iff]
  simp [List.length_eq_zero_iff]
 rw [ep,er]
 by_cases h1:moveB s x = true
 ·rw [if_pos h1,if_pos h1,if_pos rfl]
 ·rw [if_neg h1,if_neg h1,if_neg (by decide)]
theorem recCode_3 {s:Sh} {x:RecD} (hk:x.kind = 3) (hq:insB x.seq 1 1000000000 = true):(if insB x.group 0 (s.groups + s.column - 1) = true then (if emptyV x.name x.length 0 x.row x.rows.length x.data.length x.delta.length = true then 0 else 1) else 3) = recCode s x:=by
 rw [recCode_in (by rw [hk];rfl) hq]
 have ep:partCode s x = (if insB x.group 0 (s.groups + s.column - 1) = true then 0 else 3):=by unfold partCode;rw [if_neg (by omega),if_neg (by omega),if_pos hk];rfl
 have er:restB x = emptyV x.name x.length 0 x.row x.rows.length x.data.length x.delta.length:=by
  unfold restB emptyV
  rw [if_neg (by omega),if_neg (by omega),if_pos hk,Bool.eq_iff_iff]
  simp [List.length_eq_zero_iff]
 rw [ep,er]
 by_cases h1:insB x.group 0 (s.groups + s.column - 1) = true
 ·rw [if_pos h1,if_pos h1,if_pos rfl]
 ·rw [if_neg h1,if_neg h1,if_neg (by decide)]
theorem recCode_4 {s:Sh} {x:RecD} (hk:x.kind = 4) (hq:insB x.seq 1 1000000000 = true):(if shareB s x = true then (if emptyV x.name x.length 0 0 0 0 0 = true then 0 else 1) else 3) = recCode s x:=by
 rw [recCode_in (by rw [hk];rfl) hq]
 have ep:partCode s x = (if shareB s x = true then 0 else 3):=by unfold partCode;rw [if_neg (by omega),if_neg (by omega),if_neg (by omega)]
 have er:restB x = emptyV x.name x.length 0 0 0 0 0:=by
  unfold restB emptyV
  rw [if_neg (by omega),if_neg (by omega),if_neg (by omega),Bool.eq_iff_iff]
  simp
 rw [ep,er]
 by_cases h1:shareB s x = true
 ·rw [if_pos h1,if_pos h1,if_pos rfl]
 ·rw [if_neg h1,if_neg h1,if_neg (by decide)]
def bareD (r:RecD):RecD :=
 if r.kind = 1 then ⟨r.kind,r.seq,r.name,r.length,0,0,r.rows,r.data,[]⟩ else if r.kind = 2 then ⟨r.kind,r.seq,⟨#[]⟩,0,r.group,r.row,[],r.data,r.delta⟩
 else if r.kind = 3 then ⟨r.kind,r.seq,⟨#[]⟩,0,r.group,0,[],[],[]⟩ else ⟨r.kind,r.seq,⟨#[]⟩,0,r.group,r.row,r.rows,r.data,r.delta⟩
theorem restB_bare (r:RecD):restB r = decide (r = bareD r):=by
 obtain ⟨k,q,nm,l,g,ro,rs,da,de⟩:=r
 unfold restB bareD
 by_cases h1:k = 1
 ·subst h1
  rw [Bool.eq_iff_iff]
  simp
 ·by_cases h2:k = 2
  ·subst h2
   rw [Bool.eq_iff_iff]
   simp
  ·by_cases h3:k = 3
   ·subst h3
    rw [Bool.eq_iff_iff]
    simp
   ·rw [Bool.eq_iff_iff]
    simp [h1,h2,h3]
theorem allBad {α:Type} {p:α → Bool} {l:List α} {k:Nat} (hk:k < l.length) (h:p l[k] = false):l.all p = false :=
 List.all_eq_false.2 ⟨l[k],List.getElem_mem hk,by rw [h];exact Bool.false_ne_true⟩
theorem allUpto {α:Type} {p:α → Bool} {l:List α} (h:∀ q,(hq:q < l.length) → p l[q] = true):l.all p = true :=
 List.all_eq_true.2 fun x hx => by
  obtain ⟨q,hq,rfl⟩:=List.getElem_of_mem hx
  exact h q hq
def allTo {α:Type} (p:α → Bool) (l:List α) (k:Nat):Prop:=∀ q,(hq:q < l.length) → q < k → p l[q] = true
theorem allTo.zero {α:Type} (p:α → Bool) (l:List α):allTo p l 0:=fun _ _ h => by omega
theorem allTo.step {α:Type} {p:α → Bool} {l:List α} {k:Nat} (h:allTo p l k) (hk:k < l.length) (hp:p l[k] = true):allTo p l (k + 1):=fun q hq hqk => by
 by_cases e:q = k
 ·subst e;exact hp
 ·exact h q hq (by omega)
theorem allTo.all {α:Type} {p:α → Bool} {l:List α} (h:allTo p l l.length):l.all p = true:=allUpto fun q hq => h q hq hq
theorem builtB_len {s:Sh} {gs:List (List DriveD)} (h:(gs.length:Int) ≠ s.groups + s.column):builtB s gs = false:=by
 unfold builtB;rw [decide_eq_false h];rfl
theorem builtB_bad {s:Sh} {gs:List (List DriveD)} {k:Nat} (hk:k < gs.length) (h:groupB s gs[k] = false):builtB s gs = false:=by
 unfold builtB;rw [allBad hk h,Bool.and_false]
theorem builtB_ok {s:Sh} {gs:List (List DriveD)} (h:(gs.length:Int) = s.groups + s.column) (h2:allTo (groupB s) gs gs.length):builtB s gs = true:=by
 unfold builtB;rw [decide_eq_true h,h2.all];rfl
theorem groupB_len {s:Sh} {g:List DriveD} (h:(g.length:Int) ≠ s.data + s.spare):groupB s g = false:=by
 unfold groupB;rw [decide_eq_false h];rfl
theorem groupB_bad {s:Sh} {g:List DriveD} {k:Nat} (hk:k < g.length) (h:driveB s g[k] = false):groupB s g = false:=by
 unfold groupB;rw [allBad hk h,Bool.and_false]
theorem groupB_ok {s:Sh} {g:List DriveD} (h:(g.length:Int) = s.data + s.spare) (h2:allTo (driveB s) g g.length):groupB s g = true:=by
 unfold groupB;rw [decide_eq_true h,h2.all];rfl
theorem driveB_len {s:Sh} {d:DriveD} (h:(d.blocks.length:Int) ≠ s.rows):driveB s d = false:=by
 unfold driveB;rw [decide_eq_false h];rfl
theorem driveB_bad {s:Sh} {d:DriveD} {k:Nat} (hk:k < d.blocks.length) (h:blockB d.blocks[k] = false):driveB s d = false:=by
 unfold driveB;rw [allBad hk h,Bool.and_false]
theorem driveB_ok {s:Sh} {d:DriveD} (h:(d.blocks.length:Int) = s.rows) (h2:allTo blockB d.blocks d.blocks.length):driveB s d = true:=by
 unfold driveB;rw [decide_eq_true h,h2.all];rfl
theorem driveB_any {s:Sh} {d:DriveD} (h:(d.blocks.length:Int) = s.rows):driveB s d = !(d.blocks.any fun b => !blockB b):=by
 unfold driveB;rw [decide_eq_true h,Bool.true_and,Bool.eq_iff_iff]
 simp
theorem blockB_stamp {b:BlockD} (h:insB b.stamp 0 1000000000 = false):blockB b = false:=by unfold blockB;rw [h];rfl
theorem blockB_len {b:BlockD} (h:b.bytes.length ≠ 4):blockB b = false:=by unfold blockB;rw [decide_eq_false h,Bool.and_false]
theorem blockB_ok {b:BlockD} (h:insB b.stamp 0 1000000000 = true) (h2:b.bytes.length = 4):blockB b = true:=by unfold blockB;rw [h,decide_eq_true h2];rfl
theorem firstC_bad {s:Sh}:∀ {l:List RecD} {k:Nat} (hk:k < l.length),allTo (fun r => decide (recCode s r = 0)) l k → recCode s l[k] ≠ 0 → firstC s l = recCode s l[k]
 | r :: l,0,hk,h,hb => by
  have hb':¬ recCode s r = 0:=hb
  show (if recCode s r = 0 then firstC s l else recCode s r) = recCode s r
  rw [if_neg hb']
 | r :: l,k + 1,hk,h,hb => by
  have h0:recCode s r = 0:=by have:=h 0 (by simp) (by omega);simpa using this
  have hk':k < l.length:=by simpa using hk
  show (if recCode s r = 0 then firstC s l else recCode s r) = recCode s l[k]
  rw [if_pos h0]
  exact firstC_bad (by simpa using hk) (fun q hq hqk => h (q + 1) (by simpa using hq) (by omega)) hb
theorem firstC_ok {s:Sh}:∀ {l:List RecD},allTo (fun r => decide (recCode s r = 0)) l l.length → firstC s l = 0
 | [],_ => rfl
 | r :: l,h => by
  have h0:recCode s r = 0:=by have:=h 0 (by simp) (by simp);simpa using this
  show (if recCode s r = 0 then firstC s l else recCode s r) = 0
  rw [if_pos h0]
  exact firstC_ok fun q hq hqk => h (q + 1) (by simpa using hq) (by simpa using hqk)
def tapesTo (s:Sh) (ts:List TapeD) (k:Nat):Prop:=firstC s ((ts.take k).flatMap TapeD.recs) = 0
theorem tapesTo.zero (s:Sh) (ts:List TapeD):tapesTo s ts 0:=rfl
theorem tapesTo.step {s:Sh} {ts:List TapeD} {k:Nat} (h:tapesTo s ts k) (hk:k < ts.length) (h2:firstC s ts[k].recs = 0):tapesTo s ts (k + 1):=by
 unfold tapesTo
 rw [List.take_succ_eq_append_getElem hk,List.flatMap_append,firstC_append s _ _ h]
 simpa using h2
theorem firstC_front {s:Sh}:∀ (a b:List RecD),firstC s a ≠ 0 → firstC s (a ++ b) = firstC s a
 | [],b,h => absurd rfl h
 | r :: l,b,h => by
  show (if recCode s r = 0 then firstC s (l ++ b) else recCode s r) = (if recCode s r = 0 then firstC s l else recCode s r)
  by_cases h0:recCode s r = 0
  ·rw [if_pos h0,if_pos h0]
   refine firstC_front l b fun e => h ?_
   show (if recCode s r = 0 then firstC s l else recCode s r) = 0
   rw [if_pos h0,e]
  ·rw [if_neg h0,if_neg h0]
theorem tapesTo.bad {s:Sh} {ts:List TapeD} {k:Nat} (h:tapesTo s ts k) (hk:k < ts.length) (h2:firstC s ts[k].recs ≠ 0):firstC s (ts.flatMap TapeD.recs) = firstC s ts[k].recs:=by
 conv => lhs;rw [← List.take_append_drop k ts]
 rw [List.flatMap_append,firstC_append s _ _ h,List.drop_eq_getElem_cons hk,List.flatMap_cons,firstC_front _ _ h2]
theorem tapesTo.all {s:Sh} {ts:List TapeD} (h:tapesTo s ts ts.length):firstC s (ts.flatMap TapeD.recs) = 0:=by
 unfold tapesTo at h
 rwa [List.take_length] at h
theorem tapesCode_many {s:Sh} {ts:List TapeD} (h:ts.any (fun t => decide (200 < t.recs.length)) = true):tapesCode s ts = 2:=by unfold tapesCode;rw [if_pos h]
theorem tapesCode_rec {s:Sh} {ts:List TapeD} (h:ts.any (fun t => decide (200 < t.recs.length)) = false) (h2:firstC s (ts.flatMap TapeD.recs) ≠ 0):tapesCode s ts = firstC s (ts.flatMap TapeD.recs):=by
 unfold tapesCode;rw [if_neg (by rw [h];exact Bool.false_ne_true),if_neg h2]
theorem tapesCode_end {s:Sh} {ts:List TapeD} (h:ts.any (fun t => decide (200 < t.recs.length)) = false) (h2:firstC s (ts.flatMap TapeD.recs) = 0):tapesCode s ts = if ts.any (fun t => t.wiped && decide (0 < t.recs.length)) = true then 1 else 0:=by
 unfold tapesCode;rw [if_neg (by rw [h];exact Bool.false_ne_true),if_pos h2]
theorem worldCode_shape {d:WorldD} (h:shB d.shape.sh = false):worldCode d = 3:=by unfold worldCode;rw [if_neg (by rw [h];exact Bool.false_ne_true)]
theorem worldCode_form {d:WorldD} (h:shB d.shape.sh = true) (h2:(builtB d.shape.sh d.groups && (onB d.shape.sh d.on d.down && decide (d.tapes.length = 2))) = false):worldCode d = 1:=by
 unfold worldCode;rw [if_pos h,if_neg (by rw [h2];exact Bool.false_ne_true)]
theorem worldCode_tapes {d:WorldD} (h:shB d.shape.sh = true) (h2:(builtB d.shape.sh d.groups && (onB d.shape.sh d.on d.down && decide (d.tapes.length = 2))) = true) (h3:tapesCode d.shape.sh d.tapes ≠ 0):worldCode d = tapesCode d.shape.sh d.tapes:=by
 unfold worldCode;rw [if_pos h,if_pos h2,if_neg h3]
theorem worldCode_end {d:WorldD} (h:shB d.shape.sh = true) (h2:(builtB d.shape.sh d.groups && (onB d.shape.sh d.on d.down && decide (d.tapes.length = 2))) = true) (h3:tapesCode d.shape.sh d.tapes = 0):worldCode d = if (insB d.writes 0 1000000000 && insB d.stop (-1) 1000000000) = true then 0 else 3:=by
 unfold worldCode;rw [if_pos h,if_pos h2,if_pos h3]
end Go.Proofs.YtfjkoifpdoemdaaGreat
