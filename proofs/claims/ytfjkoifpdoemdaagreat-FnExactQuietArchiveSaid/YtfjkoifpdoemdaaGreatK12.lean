/-
  Part 12 of the proof; the last part states and proves the statement.
-/
import Derived.Test.YtfjkoifpdoemdaaGreatK01
import Derived.Test.YtfjkoifpdoemdaaGreatK11
import Derived.Test.YtfjkoifpdoemdaaGreatK10
import Derived.Lib.SliceRun
set_option maxHeartbeats 8000000
set_option maxRecDepth 100000
set_option linter.unusedVariables false
set_option linter.unusedSimpArgs false
namespace Go.Proofs.YtfjkoifpdoemdaaGreat
open Go.RowKit Go.Lib Go.Sort
def CZ(s:Sh)(t:An):Int :=
 if Aj t.id 1 1000000000=true then
  (if t.kind=1 then(if BY t.name.data.toList=true then(if t.group=Cr s.g t.name then 0 else 1)else 5)
   else if t.kind=2 then(if Aj t.group 0 (s.g+s.c - 1)=true then(if t.name=⟨#[]⟩then 0 else 1)else 3)else 5)
 else 3
def Bd:Nat→List (List An)→List (An × Int)
 |_,[] => []
 |g,q :: r => q.map (fun t =>(t,(g:Int))) ++ Bd (g+1) r
def A7(d:AJ):List (An × Int):=Bd 0 d.queues ++ d.aside.map fun t =>(t,-1)
def AN(d:AJ):List An:=d.queues.flatten ++ d.aside
theorem Hs:∀(g:Nat) (l:List (List An)),(Bd g l).map Prod.fst=l.flatten
 |_,[] => rfl
 |g,q :: r => by
  unfold Bd;rw[List.map_append,Hs,List.map_map,List.flatten_cons];congr 1
  exact List.map_id' _
theorem Ff(d:AJ):(A7 d).map Prod.fst=AN d:=by
 unfold A7 AN;rw[List.map_append,Hs,List.map_map];congr 1
 exact List.map_id' _
theorem Ep:∀(g:Nat) (a b:List (List An)),Bd g (a ++ b)=Bd g a ++ Bd (g+a.length) b
 |g,[],b => by simp[Bd]
 |g,q :: r,b => by
  rw[List.cons_append,Bd,Bd,Ep,List.append_assoc,List.length_cons];congr 2
  rw[show g+1+r.length=g+(r.length+1) by omega]
def CK(s:Sh)(next:Int)(ids:List Int)(x:An × Int):Int :=
 if CZ s x.1=0 then(if next≤x.1.id then 3 else if 0≤x.2∧x.1.group≠x.2 then 1 else if x.1.id∈ids then 7 else 0)else CZ s x.1
def DJ(s:Sh)(next:Int):List (An × Int)→List Int→Int
 | [],_ => 0
 |x :: r,ids => if CK s next ids x=0 then DJ s next r (ids ++ [x.1.id])else CK s next ids x
theorem Fh {s:Sh} {next:Int}:∀(a b:List (An × Int)) (ids:List Int),DJ s next a ids=0→DJ s next (a ++ b) ids=DJ s next b (ids ++ a.map fun x => x.1.id)
 | [],b,ids,_ => by simp
 |x :: a,b,ids,h => by
  unfold DJ at h;by_cases h1:CK s next ids x=0
  ·rw[if_pos h1]at h;rw[List.cons_append,DJ,if_pos h1,Fh a b _ h,List.map_cons,List.append_assoc,List.singleton_append]
  ·rw[if_neg h1]at h;exact absurd h h1
theorem IM {s:Sh} {next:Int} {a:List (An × Int)} {x:An × Int} {ids:List Int}(h:DJ s next a ids=0)(hx:CK s next (ids ++ a.map fun x => x.1.id) x=0):DJ s next (a ++ [x]) ids=0:=by
 rw[Fh _ _ _ h,DJ,if_pos hx];rfl
theorem JG {s:Sh} {next:Int} {a b:List (An × Int)} {x:An × Int} {ids:List Int}(h:DJ s next a ids=0)(hx:CK s next (ids ++ a.map fun x => x.1.id) x≠0):DJ s next (a ++ x :: b) ids=CK s next (ids ++ a.map fun x => x.1.id) x:=by
 rw[Fh _ _ _ h,DJ,if_neg hx]
def Eh(hi turn:Int)(ids:List Int)(a:AK):Int :=
 if(Aj a.id 1 hi && (Aj a.code 0 12 && Aj a.turn 0 turn))=true then(if 36<a.bytes.length then 2 else if a.id∈ids then 7 else 0)else 3
def DU(hi turn:Int):List AK→List Int→Int
 | [],_ => 0
 |x :: r,ids => if Eh hi turn ids x=0 then DU hi turn r (ids ++ [x.id])else Eh hi turn ids x
theorem Fg {hi turn:Int}:∀(a b:List AK) (ids:List Int),DU hi turn a ids=0→DU hi turn (a ++ b) ids=DU hi turn b (ids ++ a.map AK.id)
 | [],b,ids,_ => by simp
 |x :: a,b,ids,h => by
  unfold DU at h;by_cases h1:Eh hi turn ids x=0
  ·rw[if_pos h1]at h;rw[List.cons_append,DU,if_pos h1,Fg a b _ h,List.map_cons,List.append_assoc,List.singleton_append]
  ·rw[if_neg h1]at h;exact absurd h h1
theorem MB {hi turn:Int} {a:List AK} {x:AK} {ids:List Int}(h:DU hi turn a ids=0)(hx:Eh hi turn (ids ++ a.map AK.id) x=0):DU hi turn (a ++ [x]) ids=0:=by
 rw[Fg _ _ _ h,DU,if_pos hx];rfl
theorem seqA_bad {hi turn:Int} {a b:List AK} {x:AK} {ids:List Int}(h:DU hi turn a ids=0)(hx:Eh hi turn (ids ++ a.map AK.id) x≠0):DU hi turn (a ++ x :: b) ids=Eh hi turn (ids ++ a.map AK.id) x:=by
 rw[Fg _ _ _ h,DU,if_neg hx]
def DC(d:AJ):List Int:=(AN d).map An.id
def tkC(s:Sh)(d:AJ):Int:=DJ s d.next (A7 d) []
def anH(hi:Int)(d:AJ):Int:=DU hi d.turn d.answers (DC d)
def CI(s:Sh)(q:List An):Bool:=decide (s.q<(q.length:Int))
def BA(hi:Int)(s:Sh)(d:AJ):Int :=
 if(d.queues.length:Int)=s.g+s.c then
  (if(d.queues.any (CI s)||(decide (20<d.aside.length)||decide (200<d.answers.length)))=true then 2
   else if tkC s d=0 then(if anH hi d=0 then(if(Aj d.turn 0 1000000000 && Aj d.next 1 1000000000)=true then 0 else 3)else anH hi d)else tkC s d)
 else 1
theorem G9 {hi:Int} {s:Sh} {d:AJ}(h:d.next<1):BA hi s d≠0:=by
 unfold BA;split
 ·split
  ·decide
  ·split
   ·split
    ·rw[Fm h,Bool.and_false,if_neg Bool.false_ne_true];decide
    ·rename_i h1;exact h1
   ·rename_i h1;exact h1
 ·decide
theorem Hb {s:Sh} {d:AJ}(ho:okI d.next):BA (IntKind.i64.wrap (d.next - 1)) s d=0↔BA (d.next - 1) s d=0:=by
 by_cases h:d.next<1
 ·exact⟨fun e => absurd e (G9 h),fun e => absurd e (G9 h)⟩
 ·have e:IntKind.i64.wrap (d.next - 1)=d.next - 1:=IntWalk.i64_in _ (by unfold okI at ho;omega);rw[e]
theorem FJ {α:Type} {k:Nat}:∀ {l:List (List α)},(∀q,q∈l→q.length≤k)→l.flatten.length≤l.length * k
 | [],_ => by simp
 |q :: r,h => by
  have h1:=FJ (l:=r) fun x hx => h x (List.mem_cons_of_mem _ hx)
  have h2:=h q (List.mem_cons_self ..);rw[List.flatten_cons,List.length_append,List.length_cons,Nat.add_mul,Nat.one_mul];omega
theorem Fu {s:Sh}(hs:s.Ok) {d:AJ}(hl:(d.queues.length:Int)=s.g+s.c)(hq:d.queues.any (CI s)=false)(ha:d.aside.length≤20):(AN d).length≤60:=by
 have h1:=hs.g;have h2:=hs.c;have h3:=hs.q;have h4:=FJ (k:=6) (l:=d.queues) fun q hqm => by
  have:=List.any_eq_false.1 hq q hqm;unfold CI at this;simp at this;omega
 unfold AN;rw[List.length_append];omega
end Go.Proofs.YtfjkoifpdoemdaaGreat
namespace Go.Proofs.YtfjkoifpdoemdaaGreat
open Go.RowKit
open Go.Lib (hid)
theorem Ji {w:World} {base:Nat} {T:TypeId} {v:Value} {n:Nat} {l:List UInt8}(h:w.ownsRow base T 1 v n (l.map CE)):∃fs,AM w fs v l∧Cq base w fs:=by
 obtain⟨hl,h2⟩:=h;simp at hl;rcases h2 with⟨rfl,h0⟩|⟨g,cap,cur,rfl,hb,hg,hnc,hcm,hcs,htake⟩
 ·have:l= []:=List.eq_nil_of_length_eq_zero (by omega);subst this;exact⟨[],AM.empty (by omega),List.nodup_nil,(fun _ h => by cases h),(fun _ h => by cases h)⟩
 ·subst hl;simp only[maxLen]at hcm;refine⟨Bz ⟨g,0,none⟩ l.length,AM.close_ hnc (by omega) (fun k hk => ?_),GB rfl,fun a ha => ?_,fun a ha => ?_⟩
  ·rw[CO,cell_of_row w g k cur T (0,0) hg];have h3:(cur.toList.take (l.length * 1))[k]? =some (CE l[k]):=by rw[htake];simp[hk]
   rw[List.getElem?_take]at h3;rw[if_pos (by omega)]at h3;simpa [CE]using h3
  ·obtain⟨k,_,rfl⟩:=BH.1 ha;rw[Jg];exact hb
  ·obtain⟨k,_,rfl⟩:=BH.1 ha;rw[CO];exact frozen_of_row w g k cur T hg
def clPost(xs:List UInt8)(w:World)(e:Ending)(w':World):Prop :=
 ∃v fs,e= .returned v∧AM w' fs v xs∧Cq w.heap.size w' fs∧Below w.heap.size w w'
theorem AM.cells {w:World} {fs:List Addr} {ad:Addr} {n c:Nat} {xs:List UInt8}(h:AM w fs (.slice (some ad) n c) xs):∀j u,(xs.map CE)[j]? =some u→w.cell? (ad.add j)=some u:=by
 obtain⟨A1,c1,e,hc1,hm1,hx⟩:=AM.open_ h;intro j u hj;have hlt:j<xs.length:=by
  have:=(List.getElem?_eq_some_iff.1 hj).1;simpa using this
 obtain⟨a2,e2,_,_,h4⟩:=hx j hlt;injection e with e1
 rw[e2]at e1;injection e1 with e1
 subst e1;rw[h4];simp[hlt]at hj;rw[← hj];rfl
theorem FT(v:Value)(xs:List UInt8)(fs:List Addr)(w:World)(h1:AM w fs v xs)(hsm:xs.length≤1048576) :
  Calls Tryz.prog 138 #[v] w (clPost xs w):=by
 obtain⟨i0,hi,hz0,hz1,hz2⟩:=info_parts Tryz.info5;have q22:∀(w:World) (a:Option Addr) (n c n' c':Nat),(binOp .eql 39 (.slice a n c) (.slice none n' c')).run Tryz.prog w= .ok (.bool a.isNone) w:=fun w a n c n' c' => Lib.run_eql_slice_nil w _ _ a n c n' c' Tryz.underlying39
 have H1:=hid h1;obtain⟨A1,c1,rfl,hc1,hm1,hx⟩:=h1.form;clear h1;cases A1 with
 |none =>
  have hxs:xs= []:=by
   rcases hx with⟨rfl,_⟩|⟨ad,e,_⟩
   ·rfl
   ·cases e
  subst hxs;clear hx;go_enter Tryz.func138,Tryz.ntmps138
  go_wp2_with fail
  go_ret
  exact⟨_,[],rfl,AM.empty (by omega),⟨List.nodup_nil,(fun _ h => by cases h),(fun _ h => by cases h)⟩,Below.refl _ _⟩
 |some ad =>
  clear hx;have hce:=hid (AM.cells (H1.out.below ((Below.refl w.heap.size w).alloc (Nat.le_refl _) (.cells #[] 5))));go_enter Tryz.func138,Tryz.ntmps138
  go_wp2_with (at_builtin;refine wpList_append_own _ rfl _ _ 39 rfl w.heap.size 5 i0 (.int .u8 0) 1 1 Tryz.underlying39 hi hz0 hz1 hz2 rfl (by decide) _ _ _ rfl (World.ownsRow_lit w #[] 0 (Nat.le_refl _) (Nat.zero_le _) rfl) ad xs.length c1 (xs.map CE) rfl ?qc1 hce.out ?qc3 ?qc4 ?qc5 ?qc6 ?_)
  case qc1 => simp
  case qc3 => intro u hu;obtain⟨x,_,rfl⟩:=List.mem_map.1 hu;rfl
  case qc4 => unfold maxLen;omega
  case qc5 => omega
  case qc6 => simp
  intro v' w1 hown hgrow hnil;have HB:=hid (((Below.refl w.heap.size w).alloc (Nat.le_refl _) (.cells #[] 5)).grown hgrow (by simp) (by intro k hk;simp[Value.ownBlock]at hk;omega));have HO:=hid hown;clear hown hgrow hnil;go_wp2
  go_ret
  obtain⟨fs',h2,h3⟩:=Ji (show w1.ownsRow w.heap.size 5 1 v' xs.length (xs.map CE)from HO.out);exact⟨_,fs',rfl,h2,h3,HB.out⟩
end Go.Proofs.YtfjkoifpdoemdaaGreat
