/- Part 32 of the proof. -/
import Derived.Test.YtfjkoifpdoemdaaGreatJ11
import Derived.Test.YtfjkoifpdoemdaaGreatJ20
import Derived.Test.YtfjkoifpdoemdaaGreatJ21
set_option maxHeartbeats 8000000
set_option maxRecDepth 100000
set_option linter.unusedVariables false
set_option linter.unusedSimpArgs false
open Go.Proofs.Tryz
namespace Go.Proofs.YtfjkoifpdoemdaaGreat
open Go.RowKit Go.Lib Go.Sort
theorem Ij {s:Sh}:∀ {l:List Ah},AY s l=0→∀r,r∈l→AF s r=0
 | [],_,r,hr => by cases hr
 |x :: l,h,r,hr => by
  unfold AY at h;split at h
  ·rename_i h0
   rcases List.mem_cons.1 hr with rfl|hr
   ·exact h0
   ·exact Ij h r hr
  ·rename_i h0;exact absurd h h0
theorem Nu {s:Sh} {r:Ah}(h:AF s r=0)(hk:r.kind=2):DF s r=true:=by
 by_cases hm:DF s r=true
 ·exact hm
 ·have e:AZ s r=3:=by unfold AZ;rw[aI (by omega),aL hk,aI hm]
  unfold AF at h;rw[aL (by rw[hk];rfl),e]at h;split at h <;> simp at h
theorem two_of {α:Type}:∀ {l:List α},l.length=2→∃a b,l= [a,b]
 | [a,b],_ =>⟨a,b,rfl⟩
 | [],h => by simp at h
 | [_],h => by simp at h
 |_ :: _ :: _ :: _,h => by simp only[List.length_cons]at h;omega
theorem F4 {d:Am}(h:AK d=0):BR d:=by
 unfold AK at h;by_cases hs:shB d.s.sh=true
 ·rw[aL hs]at h;by_cases hb:(BJ d.s.sh d.g && (onB d.s.sh d.on d.down && decide (d.v.length=2)))=true
  ·rw[aL hb]at h;simp only[Bool.and_eq_true,bN]at hb;obtain⟨hb,-,ht⟩:=hb;have hc:Bn d.s.sh d.v=0:=by
    by_cases hc:Bn d.s.sh d.v=0
    ·exact hc
    ·rw[aI hc]at h;exact h
   clear h;unfold Bn at hc;by_cases hm:d.v.any (fun t => decide (200<t.recs.length))=true
   ·rw[aL hm]at hc;exact absurd hc (by decide)
   ·rw[aI hm]at hc;have hf:AY d.s.sh (d.v.flatMap AS.recs)=0:=by
     by_cases hf:AY d.s.sh (d.v.flatMap AS.recs)=0
     ·exact hf
     ·rw[aI hf]at hc;exact hc
    unfold BJ at hb;simp only[Bool.and_eq_true,bN,List.all_eq_true]at hb;obtain⟨hg,hb⟩:=hb;have hD:∀g,g<d.g.length→Dr d.s.sh (AJ d g)=true:=fun g hg => by
     have e:AJ d g=d.g[g]:=by simp[AJ,aJ,hg]
     rw[e];exact hb _ (aN hg)
    unfold Dr at hD;simp only[Bool.and_eq_true,bN,List.all_eq_true]at hD;unfold C5 at hD;simp only[Bool.and_eq_true,bN,List.all_eq_true]at hD;unfold CH at hD;simp only[Bool.and_eq_true,bN]at hD;refine⟨Ea hs,hg,fun g hg =>(hD g hg).1,fun g hg dr hdr =>((hD g hg).2 dr hdr).1,fun g hg dr hdr b hb =>(((hD g hg).2 dr hdr).2 b hb).2,ht,?_,fun m hm hk => ?_⟩
    ·obtain⟨a,b,e⟩:=two_of ht;unfold CZ;rw[e]at hm⊢;simp only[List.any_cons,List.any_nil,Bool.or_false,Bool.or_eq_true,bN,not_or]at hm;simp only[List.flatMap_cons,List.flatMap_nil,List.append_nil,bC];omega
    ·have h2:=Nu (Ij hf m hm) hk;unfold DF at h2;simp only[Bool.and_eq_true,bN]at h2;obtain⟨h3,-,h4,h5⟩:=h2;have h6:=BI h3;have e:d.s.sh.g=d.s.g:=rfl;rw[e]at h6;exact⟨h6.1,by omega,h4,h5⟩
  ·rw[aI hb]at h;exact absurd h (by decide)
 ·rw[aI hs]at h;exact absurd h (by decide)
theorem kind4 {x:Ah}(h:Ap x.kind 1 4=true):x.kind=1∨x.kind=2∨x.kind=3∨x.kind=4:=by
 have:=BI h;omega
theorem DI {s:Sh} {x:Ah}(hk:Ap x.kind 1 4=true)(hq:Ap x.seq 1 1000000000=true):AF s x=if AZ s x=0 then(if EJ x=true then 0 else 1)else AZ s x:=by
 unfold AF;rw[aL hk,aL hq]
theorem Rh {s:Sh} {x:Ah}(hk:x.kind=1)(hq:Ap x.seq 1 1000000000=true):(if C7 x.name.data.toList=true then(if Ch s x=true then(if BG ⟨#[]⟩ 0 x.group x.row 0 0 x.delta.length=true then 0 else 1)else 3)else 5)=AF s x:=by
 rw[DI (by rw[hk];rfl) hq];have ep:AZ s x=(if C7 x.name.data.toList=true then(if Ch s x=true then 0 else 3)else 5):=by unfold AZ;rw[aL hk]
 have er:EJ x=BG ⟨#[]⟩ 0 x.group x.row 0 0 x.delta.length:=by
  unfold EJ BG;rw[aL hk,Bool.eq_iff_iff];simp[List.length_eq_zero_iff]
 rw[ep,er];by_cases h1:C7 x.name.data.toList=true
 ·by_cases h2:Ch s x=true
  ·rw[aL h1,aL h1,aL h2,aL h2,aL rfl]
  ·rw[aL h1,aL h1,aI h2,aI h2,aI (by decide)]
 ·rw[aI h1,aI h1,aI (by decide)]
theorem Ri {s:Sh} {x:Ah}(hk:x.kind=2)(hq:Ap x.seq 1 1000000000=true):(if DF s x=true then(if BG x.name x.length 0 0 x.rows.length 0 0=true then 0 else 1)else 3)=AF s x:=by
 rw[DI (by rw[hk];rfl) hq];have ep:AZ s x=(if DF s x=true then 0 else 3):=by unfold AZ;rw[aI (by omega),aL hk]
 have er:EJ x=BG x.name x.length 0 0 x.rows.length 0 0:=by
  unfold EJ BG;rw[aI (by omega),aL hk,Bool.eq_iff_iff];simp[List.length_eq_zero_iff]
 rw[ep,er];by_cases h1:DF s x=true
 ·rw[aL h1,aL h1,aL rfl]
 ·rw[aI h1,aI h1,aI (by decide)]
theorem Rj {s:Sh} {x:Ah}(hk:x.kind=3)(hq:Ap x.seq 1 1000000000=true):(if Ap x.group 0 (s.g+s.c - 1)=true then(if BG x.name x.length 0 x.row x.rows.length x.data.length x.delta.length=true then 0 else 1)else 3)=AF s x:=by
 rw[DI (by rw[hk];rfl) hq];have ep:AZ s x=(if Ap x.group 0 (s.g+s.c - 1)=true then 0 else 3):=by unfold AZ;rw[aI (by omega),aI (by omega),aL hk];rfl
 have er:EJ x=BG x.name x.length 0 x.row x.rows.length x.data.length x.delta.length:=by
  unfold EJ BG;rw[aI (by omega),aI (by omega),aL hk,Bool.eq_iff_iff];simp[List.length_eq_zero_iff]
 rw[ep,er];by_cases h1:Ap x.group 0 (s.g+s.c - 1)=true
 ·rw[aL h1,aL h1,aL rfl]
 ·rw[aI h1,aI h1,aI (by decide)]
theorem Rk {s:Sh} {x:Ah}(hk:x.kind=4)(hq:Ap x.seq 1 1000000000=true):(if Cc s x=true then(if BG x.name x.length 0 0 0 0 0=true then 0 else 1)else 3)=AF s x:=by
 rw[DI (by rw[hk];rfl) hq];have ep:AZ s x=(if Cc s x=true then 0 else 3):=by unfold AZ;rw[aI (by omega),aI (by omega),aI (by omega)]
 have er:EJ x=BG x.name x.length 0 0 0 0 0:=by
  unfold EJ BG;rw[aI (by omega),aI (by omega),aI (by omega),Bool.eq_iff_iff];simp
 rw[ep,er];by_cases h1:Cc s x=true
 ·rw[aL h1,aL h1,aL rfl]
 ·rw[aI h1,aI h1,aI (by decide)]
def Dv(r:Ah):Ah :=
 if r.kind=1 then⟨r.kind,r.seq,r.name,r.length,0,0,r.rows,r.data,[]⟩else if r.kind=2 then⟨r.kind,r.seq,⟨#[]⟩,0,r.group,r.row,[],r.data,r.delta⟩
 else if r.kind=3 then⟨r.kind,r.seq,⟨#[]⟩,0,r.group,0,[],[],[]⟩else⟨r.kind,r.seq,⟨#[]⟩,0,r.group,r.row,r.rows,r.data,r.delta⟩
theorem Gq(r:Ah):EJ r=decide (r=Dv r):=by
 obtain⟨k,q,nm,l,g,ro,rs,da,de⟩:=r;unfold EJ Dv;by_cases h1:k=1
 ·subst h1;rw[Bool.eq_iff_iff];simp
 ·by_cases h2:k=2
  ·subst h2;rw[Bool.eq_iff_iff];simp
  ·by_cases h3:k=3
   ·subst h3;rw[Bool.eq_iff_iff];simp
   ·rw[Bool.eq_iff_iff];simp[h1,h2,h3]
theorem Mx {α:Type} {p:α→Bool} {l:List α} {k:Nat}(hk:k<l.length)(h:p l[k] =false):l.all p=false :=
 List.all_eq_false.2 ⟨l[k],aN hk,by rw[h];exact Bool.false_ne_true⟩
theorem allUpto {α:Type} {p:α→Bool} {l:List α}(h:∀q,(hq:q<l.length)→p l[q] =true):l.all p=true :=
 List.all_eq_true.2 fun x hx => by
  obtain⟨q,hq,rfl⟩:=aY hx;exact h q hq
def BV {α:Type}(p:α→Bool)(l:List α)(k:Nat):Prop:=∀q,(hq:q<l.length)→q<k→p l[q] =true
theorem BV.zero {α:Type}(p:α→Bool)(l:List α):BV p l 0:=fun _ _ h => by omega
theorem BV.step {α:Type} {p:α→Bool} {l:List α} {k:Nat}(h:BV p l k)(hk:k<l.length)(hp:p l[k] =true):BV p l (k+1):=fun q hq hqk => by
 by_cases e:q=k
 ·subst e;exact hp
 ·exact h q hq (by omega)
theorem BV.all {α:Type} {p:α→Bool} {l:List α}(h:BV p l l.length):l.all p=true:=allUpto fun q hq => h q hq hq
theorem Kd {s:Sh} {gs:List (List AL)}(h:(gs.length:Int)≠s.g+s.c):BJ s gs=false:=by
 unfold BJ;rw[aG h];rfl
theorem Kc {s:Sh} {gs:List (List AL)} {k:Nat}(hk:k<gs.length)(h:Dr s gs[k] =false):BJ s gs=false:=by
 unfold BJ;rw[Mx hk h,Bool.and_false]
theorem LH {s:Sh} {gs:List (List AL)}(h:(gs.length:Int)=s.g+s.c)(h2:BV (Dr s) gs gs.length):BJ s gs=true:=by
 unfold BJ;rw[aK h,h2.all];rfl
theorem Ko {s:Sh} {g:List AL}(h:(g.length:Int)≠s.data+s.p):Dr s g=false:=by
 unfold Dr;rw[aG h];rfl
theorem Kn {s:Sh} {g:List AL} {k:Nat}(hk:k<g.length)(h:C5 s g[k] =false):Dr s g=false:=by
 unfold Dr;rw[Mx hk h,Bool.and_false]
theorem LN {s:Sh} {g:List AL}(h:(g.length:Int)=s.data+s.p)(h2:BV (C5 s) g g.length):Dr s g=true:=by
 unfold Dr;rw[aK h,h2.all];rfl
theorem Kj {s:Sh} {d:AL}(h:(d.blocks.length:Int)≠s.rows):C5 s d=false:=by
 unfold C5;rw[aG h];rfl
theorem OW {s:Sh} {d:AL} {k:Nat}(hk:k<d.blocks.length)(h:CH d.blocks[k] =false):C5 s d=false:=by
 unfold C5;rw[Mx hk h,Bool.and_false]
theorem Qb {s:Sh} {d:AL}(h:(d.blocks.length:Int)=s.rows)(h2:BV CH d.blocks d.blocks.length):C5 s d=true:=by
 unfold C5;rw[aK h,h2.all];rfl
theorem OV {s:Sh} {d:AL}(h:(d.blocks.length:Int)=s.rows):C5 s d= !(d.blocks.any fun b => !CH b):=by
 unfold C5;rw[aK h,Bool.true_and,Bool.eq_iff_iff];simp
theorem MC {b:Bt}(h:Ap b.stamp 0 1000000000=false):CH b=false:=by unfold CH;rw[h];rfl
theorem OP {b:Bt}(h:b.bytes.length≠4):CH b=false:=by unfold CH;rw[aG h,Bool.and_false]
theorem PW {b:Bt}(h:Ap b.stamp 0 1000000000=true)(h2:b.bytes.length=4):CH b=true:=by unfold CH;rw[h,aK h2];rfl
theorem Ik {s:Sh}:∀ {l:List Ah} {k:Nat} (hk:k<l.length),BV (fun r => decide (AF s r=0)) l k→AF s l[k]≠0→AY s l=AF s l[k]
 |r :: l,0,hk,h,hb => by
  have hb':¬AF s r=0:=hb;show(if AF s r=0 then AY s l else AF s r)=AF s r
  rw[aI hb']
 |r :: l,k+1,hk,h,hb => by
  have h0:AF s r=0:=by have:=h 0 (by simp) (by omega);simpa using this
  have hk':k<l.length:=by simpa using hk
  show(if AF s r=0 then AY s l else AF s r)=AF s l[k]
  rw[aL h0];exact Ik (by simpa using hk) (fun q hq hqk => h (q+1) (by simpa using hq) (by omega)) hb
theorem IX {s:Sh}:∀ {l:List Ah},BV (fun r => decide (AF s r=0)) l l.length→AY s l=0
 | [],_ => rfl
 |r :: l,h => by
  have h0:AF s r=0:=by have:=h 0 (by simp) (by simp);simpa using this
  show(if AF s r=0 then AY s l else AF s r)=0
  rw[aL h0];exact IX fun q hq hqk => h (q+1) (by simpa using hq) (by simpa using hqk)
def CB(s:Sh)(ts:List AS)(k:Nat):Prop:=AY s ((ts.take k).flatMap AS.recs)=0
theorem CB.zero(s:Sh)(ts:List AS):CB s ts 0:=rfl
theorem CB.step {s:Sh} {ts:List AS} {k:Nat}(h:CB s ts k)(hk:k<ts.length)(h2:AY s ts[k].recs =0):CB s ts (k+1):=by
 unfold CB;rw[aM hk,List.flatMap_append,Ga s _ _ h];simpa using h2
theorem IW {s:Sh}:∀(a b:List Ah),AY s a≠0→AY s (a ++ b)=AY s a
 | [],b,h => absurd rfl h
 |r :: l,b,h => by
  show(if AF s r=0 then AY s (l ++ b)else AF s r)=(if AF s r=0 then AY s l else AF s r)
  by_cases h0:AF s r=0
  ·rw[aL h0,aL h0];refine IW l b fun e => h ?_
   show(if AF s r=0 then AY s l else AF s r)=0
   rw[aL h0,e]
  ·rw[aI h0,aI h0]
theorem CB.bad {s:Sh} {ts:List AS} {k:Nat}(h:CB s ts k)(hk:k<ts.length)(h2:AY s ts[k].recs≠0):AY s (ts.flatMap AS.recs)=AY s ts[k].recs:=by
 conv => lhs;rw[← List.take_append_drop k ts]
 rw[List.flatMap_append,Ga s _ _ h,List.drop_eq_getElem_cons hk,List.flatMap_cons,IW _ _ h2]
theorem CB.all {s:Sh} {ts:List AS}(h:CB s ts ts.length):AY s (ts.flatMap AS.recs)=0:=by
 unfold CB at h;rwa [aV]at h
theorem FP {s:Sh} {ts:List AS}(h:ts.any (fun t => decide (200<t.recs.length))=true):Bn s ts=2:=by unfold Bn;rw[aL h]
theorem IJ {s:Sh} {ts:List AS}(h:ts.any (fun t => decide (200<t.recs.length))=false)(h2:AY s (ts.flatMap AS.recs)≠0):Bn s ts=AY s (ts.flatMap AS.recs):=by
 unfold Bn;rw[aI (by rw[h];exact Bool.false_ne_true),aI h2]
theorem II {s:Sh} {ts:List AS}(h:ts.any (fun t => decide (200<t.recs.length))=false)(h2:AY s (ts.flatMap AS.recs)=0):Bn s ts=if ts.any (fun t => t.wiped && decide (0<t.recs.length))=true then 1 else 0:=by
 unfold Bn;rw[aI (by rw[h];exact Bool.false_ne_true),aL h2]
theorem G3 {d:Am}(h:shB d.s.sh=false):AK d=3:=by unfold AK;rw[aI (by rw[h];exact Bool.false_ne_true)]
theorem H9 {d:Am}(h:shB d.s.sh=true)(h2:(BJ d.s.sh d.g && (onB d.s.sh d.on d.down && decide (d.v.length=2)))=false):AK d=1:=by
 unfold AK;rw[aL h,aI (by rw[h2];exact Bool.false_ne_true)]
theorem Fz {d:Am}(h:shB d.s.sh=true)(h2:(BJ d.s.sh d.g && (onB d.s.sh d.on d.down && decide (d.v.length=2)))=true)(h3:Bn d.s.sh d.v≠0):AK d=Bn d.s.sh d.v:=by
 unfold AK;rw[aL h,aL h2,aI h3]
theorem Ge {d:Am}(h:shB d.s.sh=true)(h2:(BJ d.s.sh d.g && (onB d.s.sh d.on d.down && decide (d.v.length=2)))=true)(h3:Bn d.s.sh d.v=0):AK d=if(Ap d.u 0 1000000000 && Ap d.stop (-1) 1000000000)=true then 0 else 3:=by
 unfold AK;rw[aL h,aL h2,aL h3]
