/-
  Part 31 of the proof.
-/
import Derived.Test.YtfjkoifpdoemdaaGreatI10
import Derived.Test.YtfjkoifpdoemdaaGreatI19
import Derived.Test.YtfjkoifpdoemdaaGreatI20
set_option maxHeartbeats 8000000
set_option maxRecDepth 100000
set_option linter.unusedVariables false
set_option linter.unusedSimpArgs false
namespace Go.Proofs.YtfjkoifpdoemdaaGreat
open Go.RowKit Go.Lib Go.Sort
theorem Ho {s:Sh}:∀ {l:List Ai},AX s l=0→∀r,r∈l→AE s r=0
 | [],_,r,hr => by cases hr
 |x :: l,h,r,hr => by
  unfold AX at h;split at h
  ·rename_i h0
   rcases List.mem_cons.1 hr with rfl|hr
   ·exact h0
   ·exact Ho h r hr
  ·rename_i h0;exact absurd h h0
theorem MO {s:Sh} {r:Ai}(h:AE s r=0)(hk:r.kind=2):Dz s r=true:=by
 by_cases hm:Dz s r=true
 ·exact hm
 ·have e:AY s r=3:=by unfold AY;rw[if_neg (by omega),if_pos hk,if_neg hm]
  unfold AE at h;rw[if_pos (by rw[hk];rfl),e]at h;split at h <;> simp at h
theorem two_of {α:Type}:∀ {l:List α},l.length=2→∃a b,l= [a,b]
 | [a,b],_ =>⟨a,b,rfl⟩
 | [],h => by simp at h
 | [_],h => by simp at h
 |_ :: _ :: _ :: _,h => by simp only[List.length_cons]at h;omega
theorem GE {d:Am}(h:AK d=0):BO d:=by
 unfold AK at h;by_cases hs:shB d.s.sh=true
 ·rw[if_pos hs]at h;by_cases hb:(BJ d.s.sh d.g && (onB d.s.sh d.on d.down && decide (d.v.length=2)))=true
  ·rw[if_pos hb]at h;simp only[Bool.and_eq_true,decide_eq_true_eq]at hb;obtain⟨hb,-,ht⟩:=hb;have hc:Bl d.s.sh d.v=0:=by
    by_cases hc:Bl d.s.sh d.v=0
    ·exact hc
    ·rw[if_neg hc]at h;exact h
   clear h;unfold Bl at hc;by_cases hm:d.v.any (fun t => decide (200<t.recs.length))=true
   ·rw[if_pos hm]at hc;exact absurd hc (by decide)
   ·rw[if_neg hm]at hc;have hf:AX d.s.sh (d.v.flatMap AQ.recs)=0:=by
     by_cases hf:AX d.s.sh (d.v.flatMap AQ.recs)=0
     ·exact hf
     ·rw[if_neg hf]at hc;exact hc
    unfold BJ at hb;simp only[Bool.and_eq_true,decide_eq_true_eq,List.all_eq_true]at hb;obtain⟨hg,hb⟩:=hb;have hD:∀g,g<d.g.length→Di d.s.sh (AJ d g)=true:=fun g hg => by
     have e:AJ d g=d.g[g]:=by simp[AJ,List.getD_eq_getElem?_getD,hg]
     rw[e];exact hb _ (List.getElem_mem hg)
    unfold Di at hD;simp only[Bool.and_eq_true,decide_eq_true_eq,List.all_eq_true]at hD;unfold CX at hD;simp only[Bool.and_eq_true,decide_eq_true_eq,List.all_eq_true]at hD;unfold CA at hD;simp only[Bool.and_eq_true,decide_eq_true_eq]at hD;refine⟨D4 hs,hg,fun g hg =>(hD g hg).1,fun g hg dr hdr =>((hD g hg).2 dr hdr).1,fun g hg dr hdr b hb =>(((hD g hg).2 dr hdr).2 b hb).2,ht,?_,fun m hm hk => ?_⟩
    ·obtain⟨a,b,e⟩:=two_of ht;unfold CK;rw[e]at hm⊢;simp only[List.any_cons,List.any_nil,Bool.or_false,Bool.or_eq_true,decide_eq_true_eq,not_or]at hm;simp only[List.flatMap_cons,List.flatMap_nil,List.append_nil,List.length_append];omega
    ·have h2:=MO (Ho hf m hm) hk;unfold Dz at h2;simp only[Bool.and_eq_true,decide_eq_true_eq]at h2;obtain⟨h3,-,h4,h5⟩:=h2;have h6:=BG h3;have e:d.s.sh.g=d.s.g:=rfl;rw[e]at h6;exact⟨h6.1,by omega,h4,h5⟩
  ·rw[if_neg hb]at h;exact absurd h (by decide)
 ·rw[if_neg hs]at h;exact absurd h (by decide)
theorem kind4 {x:Ai}(h:An x.kind 1 4=true):x.kind=1∨x.kind=2∨x.kind=3∨x.kind=4:=by
 have:=BG h;omega
theorem Dx {s:Sh} {x:Ai}(hk:An x.kind 1 4=true)(hq:An x.seq 1 1000000000=true):AE s x=if AY s x=0 then(if ED x=true then 0 else 1)else AY s x:=by
 unfold AE;rw[if_pos hk,if_pos hq]
theorem Qg {s:Sh} {x:Ai}(hk:x.kind=1)(hq:An x.seq 1 1000000000=true):(if C0 x.name.data.toList=true then(if Cj s x=true then(if BD ⟨#[]⟩ 0 x.group x.row 0 0 x.delta.length=true then 0 else 1)else 3)else 5)=AE s x:=by
 rw[Dx (by rw[hk];rfl) hq];have ep:AY s x=(if C0 x.name.data.toList=true then(if Cj s x=true then 0 else 3)else 5):=by unfold AY;rw[if_pos hk]
 have er:ED x=BD ⟨#[]⟩ 0 x.group x.row 0 0 x.delta.length:=by
  unfold ED BD;rw[if_pos hk,Bool.eq_iff_iff];simp[List.length_eq_zero_iff]
 rw[ep,er];by_cases h1:C0 x.name.data.toList=true
 ·by_cases h2:Cj s x=true
  ·rw[if_pos h1,if_pos h1,if_pos h2,if_pos h2,if_pos rfl]
  ·rw[if_pos h1,if_pos h1,if_neg h2,if_neg h2,if_neg (by decide)]
 ·rw[if_neg h1,if_neg h1,if_neg (by decide)]
theorem PY {s:Sh} {x:Ai}(hk:x.kind=2)(hq:An x.seq 1 1000000000=true):(if Dz s x=true then(if BD x.name x.length 0 0 x.rows.length 0 0=true then 0 else 1)else 3)=AE s x:=by
 rw[Dx (by rw[hk];rfl) hq];have ep:AY s x=(if Dz s x=true then 0 else 3):=by unfold AY;rw[if_neg (by omega),if_pos hk]
 have er:ED x=BD x.name x.length 0 0 x.rows.length 0 0:=by
  unfold ED BD;rw[if_neg (by omega),if_pos hk,Bool.eq_iff_iff];simp[List.length_eq_zero_iff]
 rw[ep,er];by_cases h1:Dz s x=true
 ·rw[if_pos h1,if_pos h1,if_pos rfl]
 ·rw[if_neg h1,if_neg h1,if_neg (by decide)]
theorem Qa {s:Sh} {x:Ai}(hk:x.kind=3)(hq:An x.seq 1 1000000000=true):(if An x.group 0 (s.g+s.c - 1)=true then(if BD x.name x.length 0 x.row x.rows.length x.data.length x.delta.length=true then 0 else 1)else 3)=AE s x:=by
 rw[Dx (by rw[hk];rfl) hq];have ep:AY s x=(if An x.group 0 (s.g+s.c - 1)=true then 0 else 3):=by unfold AY;rw[if_neg (by omega),if_neg (by omega),if_pos hk];rfl
 have er:ED x=BD x.name x.length 0 x.row x.rows.length x.data.length x.delta.length:=by
  unfold ED BD;rw[if_neg (by omega),if_neg (by omega),if_pos hk,Bool.eq_iff_iff];simp[List.length_eq_zero_iff]
 rw[ep,er];by_cases h1:An x.group 0 (s.g+s.c - 1)=true
 ·rw[if_pos h1,if_pos h1,if_pos rfl]
 ·rw[if_neg h1,if_neg h1,if_neg (by decide)]
theorem PU {s:Sh} {x:Ai}(hk:x.kind=4)(hq:An x.seq 1 1000000000=true):(if BY s x=true then(if BD x.name x.length 0 0 0 0 0=true then 0 else 1)else 3)=AE s x:=by
 rw[Dx (by rw[hk];rfl) hq];have ep:AY s x=(if BY s x=true then 0 else 3):=by unfold AY;rw[if_neg (by omega),if_neg (by omega),if_neg (by omega)]
 have er:ED x=BD x.name x.length 0 0 0 0 0:=by
  unfold ED BD;rw[if_neg (by omega),if_neg (by omega),if_neg (by omega),Bool.eq_iff_iff];simp
 rw[ep,er];by_cases h1:BY s x=true
 ·rw[if_pos h1,if_pos h1,if_pos rfl]
 ·rw[if_neg h1,if_neg h1,if_neg (by decide)]
def Dp(r:Ai):Ai :=
 if r.kind=1 then⟨r.kind,r.seq,r.name,r.length,0,0,r.rows,r.data,[]⟩else if r.kind=2 then⟨r.kind,r.seq,⟨#[]⟩,0,r.group,r.row,[],r.data,r.delta⟩
 else if r.kind=3 then⟨r.kind,r.seq,⟨#[]⟩,0,r.group,0,[],[],[]⟩else⟨r.kind,r.seq,⟨#[]⟩,0,r.group,r.row,r.rows,r.data,r.delta⟩
theorem F5(r:Ai):ED r=decide (r=Dp r):=by
 obtain⟨k,q,nm,l,g,ro,rs,da,de⟩:=r;unfold ED Dp;by_cases h1:k=1
 ·subst h1;rw[Bool.eq_iff_iff];simp
 ·by_cases h2:k=2
  ·subst h2;rw[Bool.eq_iff_iff];simp
  ·by_cases h3:k=3
   ·subst h3;rw[Bool.eq_iff_iff];simp
   ·rw[Bool.eq_iff_iff];simp[h1,h2,h3]
theorem MQ {α:Type} {p:α→Bool} {l:List α} {k:Nat}(hk:k<l.length)(h:p l[k] =false):l.all p=false :=
 List.all_eq_false.2 ⟨l[k],List.getElem_mem hk,by rw[h];exact Bool.false_ne_true⟩
theorem allUpto {α:Type} {p:α→Bool} {l:List α}(h:∀q,(hq:q<l.length)→p l[q] =true):l.all p=true :=
 List.all_eq_true.2 fun x hx => by
  obtain⟨q,hq,rfl⟩:=List.getElem_of_mem hx;exact h q hq
def BQ {α:Type}(p:α→Bool)(l:List α)(k:Nat):Prop:=∀q,(hq:q<l.length)→q<k→p l[q] =true
theorem BQ.zero {α:Type}(p:α→Bool)(l:List α):BQ p l 0:=fun _ _ h => by omega
theorem BQ.step {α:Type} {p:α→Bool} {l:List α} {k:Nat}(h:BQ p l k)(hk:k<l.length)(hp:p l[k] =true):BQ p l (k+1):=fun q hq hqk => by
 by_cases e:q=k
 ·subst e;exact hp
 ·exact h q hq (by omega)
theorem BQ.all {α:Type} {p:α→Bool} {l:List α}(h:BQ p l l.length):l.all p=true:=allUpto fun q hq => h q hq hq
theorem Kk {s:Sh} {gs:List (List AL)}(h:(gs.length:Int)≠s.g+s.c):BJ s gs=false:=by
 unfold BJ;rw[decide_eq_false h];rfl
theorem J9 {s:Sh} {gs:List (List AL)} {k:Nat}(hk:k<gs.length)(h:Di s gs[k] =false):BJ s gs=false:=by
 unfold BJ;rw[MQ hk h,Bool.and_false]
theorem Lq {s:Sh} {gs:List (List AL)}(h:(gs.length:Int)=s.g+s.c)(h2:BQ (Di s) gs gs.length):BJ s gs=true:=by
 unfold BJ;rw[decide_eq_true h,h2.all];rfl
theorem Kd {s:Sh} {g:List AL}(h:(g.length:Int)≠s.data+s.p):Di s g=false:=by
 unfold Di;rw[decide_eq_false h];rfl
theorem Kn {s:Sh} {g:List AL} {k:Nat}(hk:k<g.length)(h:CX s g[k] =false):Di s g=false:=by
 unfold Di;rw[MQ hk h,Bool.and_false]
theorem Lx {s:Sh} {g:List AL}(h:(g.length:Int)=s.data+s.p)(h2:BQ (CX s) g g.length):Di s g=true:=by
 unfold Di;rw[decide_eq_true h,h2.all];rfl
theorem JT {s:Sh} {d:AL}(h:(d.blocks.length:Int)≠s.rows):CX s d=false:=by
 unfold CX;rw[decide_eq_false h];rfl
theorem N4 {s:Sh} {d:AL} {k:Nat}(hk:k<d.blocks.length)(h:CA d.blocks[k] =false):CX s d=false:=by
 unfold CX;rw[MQ hk h,Bool.and_false]
theorem PN {s:Sh} {d:AL}(h:(d.blocks.length:Int)=s.rows)(h2:BQ CA d.blocks d.blocks.length):CX s d=true:=by
 unfold CX;rw[decide_eq_true h,h2.all];rfl
theorem O4 {s:Sh} {d:AL}(h:(d.blocks.length:Int)=s.rows):CX s d= !(d.blocks.any fun b => !CA b):=by
 unfold CX;rw[decide_eq_true h,Bool.true_and,Bool.eq_iff_iff];simp
theorem MD {b:Br}(h:An b.stamp 0 1000000000=false):CA b=false:=by unfold CA;rw[h];rfl
theorem OF {b:Br}(h:b.bytes.length≠4):CA b=false:=by unfold CA;rw[decide_eq_false h,Bool.and_false]
theorem Po {b:Br}(h:An b.stamp 0 1000000000=true)(h2:b.bytes.length=4):CA b=true:=by unfold CA;rw[h,decide_eq_true h2];rfl
theorem Ie {s:Sh}:∀ {l:List Ai} {k:Nat} (hk:k<l.length),BQ (fun r => decide (AE s r=0)) l k→AE s l[k]≠0→AX s l=AE s l[k]
 |r :: l,0,hk,h,hb => by
  have hb':¬AE s r=0:=hb;show(if AE s r=0 then AX s l else AE s r)=AE s r
  rw[if_neg hb']
 |r :: l,k+1,hk,h,hb => by
  have h0:AE s r=0:=by have:=h 0 (by simp) (by omega);simpa using this
  have hk':k<l.length:=by simpa using hk
  show(if AE s r=0 then AX s l else AE s r)=AE s l[k]
  rw[if_pos h0];exact Ie (by simpa using hk) (fun q hq hqk => h (q+1) (by simpa using hq) (by omega)) hb
theorem Iv {s:Sh}:∀ {l:List Ai},BQ (fun r => decide (AE s r=0)) l l.length→AX s l=0
 | [],_ => rfl
 |r :: l,h => by
  have h0:AE s r=0:=by have:=h 0 (by simp) (by simp);simpa using this
  show(if AE s r=0 then AX s l else AE s r)=0
  rw[if_pos h0];exact Iv fun q hq hqk => h (q+1) (by simpa using hq) (by simpa using hqk)
def Cv(s:Sh)(ts:List AQ)(k:Nat):Prop:=AX s ((ts.take k).flatMap AQ.recs)=0
theorem Cv.zero(s:Sh)(ts:List AQ):Cv s ts 0:=rfl
theorem Cv.step {s:Sh} {ts:List AQ} {k:Nat}(h:Cv s ts k)(hk:k<ts.length)(h2:AX s ts[k].recs =0):Cv s ts (k+1):=by
 unfold Cv;rw[List.take_succ_eq_append_getElem hk,List.flatMap_append,FT s _ _ h];simpa using h2
theorem IJ {s:Sh}:∀(a b:List Ai),AX s a≠0→AX s (a ++ b)=AX s a
 | [],b,h => absurd rfl h
 |r :: l,b,h => by
  show(if AE s r=0 then AX s (l ++ b)else AE s r)=(if AE s r=0 then AX s l else AE s r)
  by_cases h0:AE s r=0
  ·rw[if_pos h0,if_pos h0];refine IJ l b fun e => h ?_
   show(if AE s r=0 then AX s l else AE s r)=0
   rw[if_pos h0,e]
  ·rw[if_neg h0,if_neg h0]
theorem Cv.bad {s:Sh} {ts:List AQ} {k:Nat}(h:Cv s ts k)(hk:k<ts.length)(h2:AX s ts[k].recs≠0):AX s (ts.flatMap AQ.recs)=AX s ts[k].recs:=by
 conv => lhs;rw[← List.take_append_drop k ts]
 rw[List.flatMap_append,FT s _ _ h,List.drop_eq_getElem_cons hk,List.flatMap_cons,IJ _ _ h2]
theorem Cv.all {s:Sh} {ts:List AQ}(h:Cv s ts ts.length):AX s (ts.flatMap AQ.recs)=0:=by
 unfold Cv at h;rwa [List.take_length]at h
theorem FC {s:Sh} {ts:List AQ}(h:ts.any (fun t => decide (200<t.recs.length))=true):Bl s ts=2:=by unfold Bl;rw[if_pos h]
theorem Ir {s:Sh} {ts:List AQ}(h:ts.any (fun t => decide (200<t.recs.length))=false)(h2:AX s (ts.flatMap AQ.recs)≠0):Bl s ts=AX s (ts.flatMap AQ.recs):=by
 unfold Bl;rw[if_neg (by rw[h];exact Bool.false_ne_true),if_neg h2]
theorem Is {s:Sh} {ts:List AQ}(h:ts.any (fun t => decide (200<t.recs.length))=false)(h2:AX s (ts.flatMap AQ.recs)=0):Bl s ts=if ts.any (fun t => t.wiped && decide (0<t.recs.length))=true then 1 else 0:=by
 unfold Bl;rw[if_neg (by rw[h];exact Bool.false_ne_true),if_pos h2]
theorem GA {d:Am}(h:shB d.s.sh=false):AK d=3:=by unfold AK;rw[if_neg (by rw[h];exact Bool.false_ne_true)]
theorem Hf {d:Am}(h:shB d.s.sh=true)(h2:(BJ d.s.sh d.g && (onB d.s.sh d.on d.down && decide (d.v.length=2)))=false):AK d=1:=by
 unfold AK;rw[if_pos h,if_neg (by rw[h2];exact Bool.false_ne_true)]
theorem Fa {d:Am}(h:shB d.s.sh=true)(h2:(BJ d.s.sh d.g && (onB d.s.sh d.on d.down && decide (d.v.length=2)))=true)(h3:Bl d.s.sh d.v≠0):AK d=Bl d.s.sh d.v:=by
 unfold AK;rw[if_pos h,if_pos h2,if_neg h3]
theorem FO {d:Am}(h:shB d.s.sh=true)(h2:(BJ d.s.sh d.g && (onB d.s.sh d.on d.down && decide (d.v.length=2)))=true)(h3:Bl d.s.sh d.v=0):AK d=if(An d.u 0 1000000000 && An d.stop (-1) 1000000000)=true then 0 else 3:=by
 unfold AK;rw[if_pos h,if_pos h2,if_pos h3]
end Go.Proofs.YtfjkoifpdoemdaaGreat
