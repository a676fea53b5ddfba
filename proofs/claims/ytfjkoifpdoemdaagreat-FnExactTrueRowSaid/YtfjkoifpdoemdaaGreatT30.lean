/-
  Part 30 of the proof; the last part states and proves the statement.
-/
import Derived.Test.YtfjkoifpdoemdaaGreatT10
import Derived.Test.YtfjkoifpdoemdaaGreatT19
import Derived.Test.YtfjkoifpdoemdaaGreatT20
set_option maxHeartbeats 8000000
set_option maxRecDepth 100000
set_option linter.unusedVariables false
set_option linter.unusedSimpArgs false
namespace Go.Proofs.YtfjkoifpdoemdaaGreat
open Go.RowKit Go.Lib Go.Sort
theorem Ji {s:Sh}:∀ {l:List Ah},AV s l=0→∀r,r∈l→AE s r=0
 | [],_,r,hr => by cases hr
 |x :: l,h,r,hr => by
  unfold AV at h;split at h
  ·rename_i h0
   rcases List.mem_cons.1 hr with rfl|hr
   ·exact h0
   ·exact Ji h r hr
  ·rename_i h0;exact absurd h h0
theorem Lu {s:Sh} {r:Ah}(h:AE s r=0)(hk:r.kind=2):Ds s r=true:=by
 by_cases hm:Ds s r=true
 ·exact hm
 ·have e:Ba s r=3:=by unfold Ba;rw[if_neg (by omega),if_pos hk,if_neg hm]
  unfold AE at h;rw[if_pos (by rw[hk];rfl),e]at h;split at h <;> simp at h
theorem two_of {α:Type}:∀ {l:List α},l.length=2→∃a b,l= [a,b]
 | [a,b],_ =>⟨a,b,rfl⟩
 | [],h => by simp at h
 | [_],h => by simp at h
 |_ :: _ :: _ :: _,h => by simp only[List.length_cons]at h;omega
theorem Gq {d:Am}(h:AO d=0):Cq d:=by
 unfold AO at h;by_cases hs:shB d.s.sh=true
 ·rw[if_pos hs]at h;by_cases hb:(BO d.s.sh d.g && (onB d.s.sh d.on d.down && decide (d.v.length=2)))=true
  ·rw[if_pos hb]at h;simp only[Bool.and_eq_true,decide_eq_true_eq]at hb;obtain⟨hb,-,ht⟩:=hb;have hc:BD d.s.sh d.v=0:=by
    by_cases hc:BD d.s.sh d.v=0
    ·exact hc
    ·rw[if_neg hc]at h;exact h
   clear h;unfold BD at hc;by_cases hm:d.v.any (fun t => decide (200<t.recs.length))=true
   ·rw[if_pos hm]at hc;exact absurd hc (by decide)
   ·rw[if_neg hm]at hc;have hf:AV d.s.sh (d.v.flatMap AQ.recs)=0:=by
     by_cases hf:AV d.s.sh (d.v.flatMap AQ.recs)=0
     ·exact hf
     ·rw[if_neg hf]at hc;exact hc
    unfold BO at hb;simp only[Bool.and_eq_true,decide_eq_true_eq,List.all_eq_true]at hb;obtain⟨hg,hb⟩:=hb;have hD:∀g,g<d.g.length→Dc d.s.sh (AI d g)=true:=fun g hg => by
     have e:AI d g=d.g[g]:=by simp[AI,List.getD_eq_getElem?_getD,hg]
     rw[e];exact hb _ (List.getElem_mem hg)
    unfold Dc at hD;simp only[Bool.and_eq_true,decide_eq_true_eq,List.all_eq_true]at hD;unfold CU at hD;simp only[Bool.and_eq_true,decide_eq_true_eq,List.all_eq_true]at hD;unfold CB at hD;simp only[Bool.and_eq_true,decide_eq_true_eq]at hD;refine⟨DT hs,hg,fun g hg =>(hD g hg).1,fun g hg dr hdr =>((hD g hg).2 dr hdr).1,fun g hg dr hdr b hb =>(((hD g hg).2 dr hdr).2 b hb).2,ht,?_,fun m hm hk => ?_⟩
    ·obtain⟨a,b,e⟩:=two_of ht;unfold Di;rw[e]at hm⊢;simp only[List.any_cons,List.any_nil,Bool.or_false,Bool.or_eq_true,decide_eq_true_eq,not_or]at hm;simp only[List.flatMap_cons,List.flatMap_nil,List.append_nil,List.length_append];omega
    ·have h2:=Lu (Ji hf m hm) hk;unfold Ds at h2;simp only[Bool.and_eq_true,decide_eq_true_eq]at h2;obtain⟨h3,-,h4,h5⟩:=h2;have h6:=Bc h3;have e:d.s.sh.g=d.s.g:=rfl;rw[e]at h6;exact⟨h6.1,by omega,h4,h5⟩
  ·rw[if_neg hb]at h;exact absurd h (by decide)
 ·rw[if_neg hs]at h;exact absurd h (by decide)
theorem kind4 {x:Ah}(h:Al x.kind 1 4=true):x.kind=1∨x.kind=2∨x.kind=3∨x.kind=4:=by
 have:=Bc h;omega
theorem Dw {s:Sh} {x:Ah}(hk:Al x.kind 1 4=true)(hq:Al x.seq 1 1000000000=true):AE s x=if Ba s x=0 then(if EC x=true then 0 else 1)else Ba s x:=by
 unfold AE;rw[if_pos hk,if_pos hq]
theorem O7 {s:Sh} {x:Ah}(hk:x.kind=1)(hq:Al x.seq 1 1000000000=true):(if DC x.name.data.toList=true then(if Cy s x=true then(if BF ⟨#[]⟩ 0 x.group x.row 0 0 x.delta.length=true then 0 else 1)else 3)else 5)=AE s x:=by
 rw[Dw (by rw[hk];rfl) hq];have ep:Ba s x=(if DC x.name.data.toList=true then(if Cy s x=true then 0 else 3)else 5):=by unfold Ba;rw[if_pos hk]
 have er:EC x=BF ⟨#[]⟩ 0 x.group x.row 0 0 x.delta.length:=by
  unfold EC BF;rw[if_pos hk,Bool.eq_iff_iff];simp[List.length_eq_zero_iff]
 rw[ep,er];by_cases h1:DC x.name.data.toList=true
 ·by_cases h2:Cy s x=true
  ·rw[if_pos h1,if_pos h1,if_pos h2,if_pos h2,if_pos rfl]
  ·rw[if_pos h1,if_pos h1,if_neg h2,if_neg h2,if_neg (by decide)]
 ·rw[if_neg h1,if_neg h1,if_neg (by decide)]
theorem OW {s:Sh} {x:Ah}(hk:x.kind=2)(hq:Al x.seq 1 1000000000=true):(if Ds s x=true then(if BF x.name x.length 0 0 x.rows.length 0 0=true then 0 else 1)else 3)=AE s x:=by
 rw[Dw (by rw[hk];rfl) hq];have ep:Ba s x=(if Ds s x=true then 0 else 3):=by unfold Ba;rw[if_neg (by omega),if_pos hk]
 have er:EC x=BF x.name x.length 0 0 x.rows.length 0 0:=by
  unfold EC BF;rw[if_neg (by omega),if_pos hk,Bool.eq_iff_iff];simp[List.length_eq_zero_iff]
 rw[ep,er];by_cases h1:Ds s x=true
 ·rw[if_pos h1,if_pos h1,if_pos rfl]
 ·rw[if_neg h1,if_neg h1,if_neg (by decide)]
theorem Ov {s:Sh} {x:Ah}(hk:x.kind=3)(hq:Al x.seq 1 1000000000=true):(if Al x.group 0 (s.g+s.c - 1)=true then(if BF x.name x.length 0 x.row x.rows.length x.data.length x.delta.length=true then 0 else 1)else 3)=AE s x:=by
 rw[Dw (by rw[hk];rfl) hq];have ep:Ba s x=(if Al x.group 0 (s.g+s.c - 1)=true then 0 else 3):=by unfold Ba;rw[if_neg (by omega),if_neg (by omega),if_pos hk];rfl
 have er:EC x=BF x.name x.length 0 x.row x.rows.length x.data.length x.delta.length:=by
  unfold EC BF;rw[if_neg (by omega),if_neg (by omega),if_pos hk,Bool.eq_iff_iff];simp[List.length_eq_zero_iff]
 rw[ep,er];by_cases h1:Al x.group 0 (s.g+s.c - 1)=true
 ·rw[if_pos h1,if_pos h1,if_pos rfl]
 ·rw[if_neg h1,if_neg h1,if_neg (by decide)]
theorem Pk {s:Sh} {x:Ah}(hk:x.kind=4)(hq:Al x.seq 1 1000000000=true):(if BV s x=true then(if BF x.name x.length 0 0 0 0 0=true then 0 else 1)else 3)=AE s x:=by
 rw[Dw (by rw[hk];rfl) hq];have ep:Ba s x=(if BV s x=true then 0 else 3):=by unfold Ba;rw[if_neg (by omega),if_neg (by omega),if_neg (by omega)]
 have er:EC x=BF x.name x.length 0 0 0 0 0:=by
  unfold EC BF;rw[if_neg (by omega),if_neg (by omega),if_neg (by omega),Bool.eq_iff_iff];simp
 rw[ep,er];by_cases h1:BV s x=true
 ·rw[if_pos h1,if_pos h1,if_pos rfl]
 ·rw[if_neg h1,if_neg h1,if_neg (by decide)]
def Dg(r:Ah):Ah :=
 if r.kind=1 then⟨r.kind,r.seq,r.name,r.length,0,0,r.rows,r.data,[]⟩else if r.kind=2 then⟨r.kind,r.seq,⟨#[]⟩,0,r.group,r.row,[],r.data,r.delta⟩
 else if r.kind=3 then⟨r.kind,r.seq,⟨#[]⟩,0,r.group,0,[],[],[]⟩else⟨r.kind,r.seq,⟨#[]⟩,0,r.group,r.row,r.rows,r.data,r.delta⟩
theorem FM(r:Ah):EC r=decide (r=Dg r):=by
 obtain⟨k,q,nm,l,g,ro,rs,da,de⟩:=r;unfold EC Dg;by_cases h1:k=1
 ·subst h1;rw[Bool.eq_iff_iff];simp
 ·by_cases h2:k=2
  ·subst h2;rw[Bool.eq_iff_iff];simp
  ·by_cases h3:k=3
   ·subst h3;rw[Bool.eq_iff_iff];simp
   ·rw[Bool.eq_iff_iff];simp[h1,h2,h3]
theorem LA {α:Type} {p:α→Bool} {l:List α} {k:Nat}(hk:k<l.length)(h:p l[k] =false):l.all p=false :=
 List.all_eq_false.2 ⟨l[k],List.getElem_mem hk,by rw[h];exact Bool.false_ne_true⟩
theorem allUpto {α:Type} {p:α→Bool} {l:List α}(h:∀q,(hq:q<l.length)→p l[q] =true):l.all p=true :=
 List.all_eq_true.2 fun x hx => by
  obtain⟨q,hq,rfl⟩:=List.getElem_of_mem hx;exact h q hq
def BP {α:Type}(p:α→Bool)(l:List α)(k:Nat):Prop:=∀q,(hq:q<l.length)→q<k→p l[q] =true
theorem BP.zero {α:Type}(p:α→Bool)(l:List α):BP p l 0:=fun _ _ h => by omega
theorem BP.step {α:Type} {p:α→Bool} {l:List α} {k:Nat}(h:BP p l k)(hk:k<l.length)(hp:p l[k] =true):BP p l (k+1):=fun q hq hqk => by
 by_cases e:q=k
 ·subst e;exact hp
 ·exact h q hq (by omega)
theorem BP.all {α:Type} {p:α→Bool} {l:List α}(h:BP p l l.length):l.all p=true:=allUpto fun q hq => h q hq hq
theorem JK {s:Sh} {gs:List (List AJ)}(h:(gs.length:Int)≠s.g+s.c):BO s gs=false:=by
 unfold BO;rw[decide_eq_false h];rfl
theorem JN {s:Sh} {gs:List (List AJ)} {k:Nat}(hk:k<gs.length)(h:Dc s gs[k] =false):BO s gs=false:=by
 unfold BO;rw[LA hk h,Bool.and_false]
theorem KG {s:Sh} {gs:List (List AJ)}(h:(gs.length:Int)=s.g+s.c)(h2:BP (Dc s) gs gs.length):BO s gs=true:=by
 unfold BO;rw[decide_eq_true h,h2.all];rfl
theorem Jv {s:Sh} {g:List AJ}(h:(g.length:Int)≠s.data+s.p):Dc s g=false:=by
 unfold Dc;rw[decide_eq_false h];rfl
theorem JI {s:Sh} {g:List AJ} {k:Nat}(hk:k<g.length)(h:CU s g[k] =false):Dc s g=false:=by
 unfold Dc;rw[LA hk h,Bool.and_false]
theorem Kl {s:Sh} {g:List AJ}(h:(g.length:Int)=s.data+s.p)(h2:BP (CU s) g g.length):Dc s g=true:=by
 unfold Dc;rw[decide_eq_true h,h2.all];rfl
theorem Jw {s:Sh} {d:AJ}(h:(d.blocks.length:Int)≠s.rows):CU s d=false:=by
 unfold CU;rw[decide_eq_false h];rfl
theorem Nh {s:Sh} {d:AJ} {k:Nat}(hk:k<d.blocks.length)(h:CB d.blocks[k] =false):CU s d=false:=by
 unfold CU;rw[LA hk h,Bool.and_false]
theorem Pa {s:Sh} {d:AJ}(h:(d.blocks.length:Int)=s.rows)(h2:BP CB d.blocks d.blocks.length):CU s d=true:=by
 unfold CU;rw[decide_eq_true h,h2.all];rfl
theorem NY {s:Sh} {d:AJ}(h:(d.blocks.length:Int)=s.rows):CU s d= !(d.blocks.any fun b => !CB b):=by
 unfold CU;rw[decide_eq_true h,Bool.true_and,Bool.eq_iff_iff];simp
theorem LG {b:Bp}(h:Al b.stamp 0 1000000000=false):CB b=false:=by unfold CB;rw[h];rfl
theorem Ni {b:Bp}(h:b.bytes.length≠4):CB b=false:=by unfold CB;rw[decide_eq_false h,Bool.and_false]
theorem OG {b:Bp}(h:Al b.stamp 0 1000000000=true)(h2:b.bytes.length=4):CB b=true:=by unfold CB;rw[h,decide_eq_true h2];rfl
theorem Hf {s:Sh}:∀ {l:List Ah} {k:Nat} (hk:k<l.length),BP (fun r => decide (AE s r=0)) l k→AE s l[k]≠0→AV s l=AE s l[k]
 |r :: l,0,hk,h,hb => by
  have hb':¬AE s r=0:=hb;show(if AE s r=0 then AV s l else AE s r)=AE s r
  rw[if_neg hb']
 |r :: l,k+1,hk,h,hb => by
  have h0:AE s r=0:=by have:=h 0 (by simp) (by omega);simpa using this
  have hk':k<l.length:=by simpa using hk
  show(if AE s r=0 then AV s l else AE s r)=AE s l[k]
  rw[if_pos h0];exact Hf (by simpa using hk) (fun q hq hqk => h (q+1) (by simpa using hq) (by omega)) hb
theorem Iv {s:Sh}:∀ {l:List Ah},BP (fun r => decide (AE s r=0)) l l.length→AV s l=0
 | [],_ => rfl
 |r :: l,h => by
  have h0:AE s r=0:=by have:=h 0 (by simp) (by simp);simpa using this
  show(if AE s r=0 then AV s l else AE s r)=0
  rw[if_pos h0];exact Iv fun q hq hqk => h (q+1) (by simpa using hq) (by simpa using hqk)
def Cs(s:Sh)(ts:List AQ)(k:Nat):Prop:=AV s ((ts.take k).flatMap AQ.recs)=0
theorem Cs.zero(s:Sh)(ts:List AQ):Cs s ts 0:=rfl
theorem Cs.step {s:Sh} {ts:List AQ} {k:Nat}(h:Cs s ts k)(hk:k<ts.length)(h2:AV s ts[k].recs =0):Cs s ts (k+1):=by
 unfold Cs;rw[List.take_succ_eq_append_getElem hk,List.flatMap_append,FE s _ _ h];simpa using h2
theorem Ib {s:Sh}:∀(a b:List Ah),AV s a≠0→AV s (a ++ b)=AV s a
 | [],b,h => absurd rfl h
 |r :: l,b,h => by
  show(if AE s r=0 then AV s (l ++ b)else AE s r)=(if AE s r=0 then AV s l else AE s r)
  by_cases h0:AE s r=0
  ·rw[if_pos h0,if_pos h0];refine Ib l b fun e => h ?_
   show(if AE s r=0 then AV s l else AE s r)=0
   rw[if_pos h0,e]
  ·rw[if_neg h0,if_neg h0]
theorem Cs.bad {s:Sh} {ts:List AQ} {k:Nat}(h:Cs s ts k)(hk:k<ts.length)(h2:AV s ts[k].recs≠0):AV s (ts.flatMap AQ.recs)=AV s ts[k].recs:=by
 conv => lhs;rw[← List.take_append_drop k ts]
 rw[List.flatMap_append,FE s _ _ h,List.drop_eq_getElem_cons hk,List.flatMap_cons,Ib _ _ h2]
theorem Cs.all {s:Sh} {ts:List AQ}(h:Cs s ts ts.length):AV s (ts.flatMap AQ.recs)=0:=by
 unfold Cs at h;rwa [List.take_length]at h
theorem Fg {s:Sh} {ts:List AQ}(h:ts.any (fun t => decide (200<t.recs.length))=true):BD s ts=2:=by unfold BD;rw[if_pos h]
theorem Hq {s:Sh} {ts:List AQ}(h:ts.any (fun t => decide (200<t.recs.length))=false)(h2:AV s (ts.flatMap AQ.recs)≠0):BD s ts=AV s (ts.flatMap AQ.recs):=by
 unfold BD;rw[if_neg (by rw[h];exact Bool.false_ne_true),if_neg h2]
theorem Hr {s:Sh} {ts:List AQ}(h:ts.any (fun t => decide (200<t.recs.length))=false)(h2:AV s (ts.flatMap AQ.recs)=0):BD s ts=if ts.any (fun t => t.wiped && decide (0<t.recs.length))=true then 1 else 0:=by
 unfold BD;rw[if_neg (by rw[h];exact Bool.false_ne_true),if_pos h2]
theorem Gh {d:Am}(h:shB d.s.sh=false):AO d=3:=by unfold AO;rw[if_neg (by rw[h];exact Bool.false_ne_true)]
theorem GW {d:Am}(h:shB d.s.sh=true)(h2:(BO d.s.sh d.g && (onB d.s.sh d.on d.down && decide (d.v.length=2)))=false):AO d=1:=by
 unfold AO;rw[if_pos h,if_neg (by rw[h2];exact Bool.false_ne_true)]
theorem EP {d:Am}(h:shB d.s.sh=true)(h2:(BO d.s.sh d.g && (onB d.s.sh d.on d.down && decide (d.v.length=2)))=true)(h3:BD d.s.sh d.v≠0):AO d=BD d.s.sh d.v:=by
 unfold AO;rw[if_pos h,if_pos h2,if_neg h3]
theorem FG {d:Am}(h:shB d.s.sh=true)(h2:(BO d.s.sh d.g && (onB d.s.sh d.on d.down && decide (d.v.length=2)))=true)(h3:BD d.s.sh d.v=0):AO d=if(Al d.u 0 1000000000 && Al d.stop (-1) 1000000000)=true then 0 else 3:=by
 unfold AO;rw[if_pos h,if_pos h2,if_pos h3]
end Go.Proofs.YtfjkoifpdoemdaaGreat
