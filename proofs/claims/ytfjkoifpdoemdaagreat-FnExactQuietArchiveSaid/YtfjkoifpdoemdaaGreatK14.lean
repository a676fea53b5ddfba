/-
  Part 14 of the proof; the last part states and proves the statement.
-/
import Derived.Test.YtfjkoifpdoemdaaGreatK11
import Derived.Test.YtfjkoifpdoemdaaGreatK13
import Derived.Test.YtfjkoifpdoemdaaGreatK06
set_option maxHeartbeats 8000000
set_option maxRecDepth 100000
set_option linter.unusedVariables false
set_option linter.unusedSimpArgs false
open Go.Value (int)
open Go.IntKind (i64)
namespace Go.Proofs.YtfjkoifpdoemdaaGreat
open Go.RowKit Go.Lib Go.Sort
theorem kind4 {x:Ag}(h:Aj x.kind 1 4=true):x.kind=1∨x.kind=2∨x.kind=3∨x.kind=4:=by
 have:=Bn h;omega
theorem CY {s:Sh} {x:Ag}(hk:Aj x.kind 1 4=true)(hq:Aj x.seq 1 1000000000=true):Az s x=if AT s x=0 then(if Dp x=true then 0 else 1)else AT s x:=by
 unfold Az;rw[if_pos hk,if_pos hq]
theorem Mv {s:Sh} {x:Ag}(hk:x.kind=1)(hq:Aj x.seq 1 1000000000=true):(if BY x.name.data.toList=true then(if BP s x=true then(if Bs ⟨#[]⟩ 0 x.group x.row 0 0 x.delta.length=true then 0 else 1)else 3)else 5)=Az s x:=by
 rw[CY (by rw[hk];rfl) hq];have ep:AT s x=(if BY x.name.data.toList=true then(if BP s x=true then 0 else 3)else 5):=by unfold AT;rw[if_pos hk]
 have er:Dp x=Bs ⟨#[]⟩ 0 x.group x.row 0 0 x.delta.length:=by
  unfold Dp Bs;rw[if_pos hk,Bool.eq_iff_iff];simp[List.length_eq_zero_iff]
 rw[ep,er];by_cases h1:BY x.name.data.toList=true
 ·by_cases h2:BP s x=true
  ·rw[if_pos h1,if_pos h1,if_pos h2,if_pos h2,if_pos rfl]
  ·rw[if_pos h1,if_pos h1,if_neg h2,if_neg h2,if_neg (by decide)]
 ·rw[if_neg h1,if_neg h1,if_neg (by decide)]
theorem Mw {s:Sh} {x:Ag}(hk:x.kind=2)(hq:Aj x.seq 1 1000000000=true):(if CX s x=true then(if Bs x.name x.length 0 0 x.rows.length 0 0=true then 0 else 1)else 3)=Az s x:=by
 rw[CY (by rw[hk];rfl) hq];have ep:AT s x=(if CX s x=true then 0 else 3):=by unfold AT;rw[if_neg (by omega),if_pos hk]
 have er:Dp x=Bs x.name x.length 0 0 x.rows.length 0 0:=by
  unfold Dp Bs;rw[if_neg (by omega),if_pos hk,Bool.eq_iff_iff];simp[List.length_eq_zero_iff]
 rw[ep,er];by_cases h1:CX s x=true
 ·rw[if_pos h1,if_pos h1,if_pos rfl]
 ·rw[if_neg h1,if_neg h1,if_neg (by decide)]
theorem Mx {s:Sh} {x:Ag}(hk:x.kind=3)(hq:Aj x.seq 1 1000000000=true):(if Aj x.group 0 (s.g+s.c - 1)=true then(if Bs x.name x.length 0 x.row x.rows.length x.data.length x.delta.length=true then 0 else 1)else 3)=Az s x:=by
 rw[CY (by rw[hk];rfl) hq];have ep:AT s x=(if Aj x.group 0 (s.g+s.c - 1)=true then 0 else 3):=by unfold AT;rw[if_neg (by omega),if_neg (by omega),if_pos hk];rfl
 have er:Dp x=Bs x.name x.length 0 x.row x.rows.length x.data.length x.delta.length:=by
  unfold Dp Bs;rw[if_neg (by omega),if_neg (by omega),if_pos hk,Bool.eq_iff_iff];simp[List.length_eq_zero_iff]
 rw[ep,er];by_cases h1:Aj x.group 0 (s.g+s.c - 1)=true
 ·rw[if_pos h1,if_pos h1,if_pos rfl]
 ·rw[if_neg h1,if_neg h1,if_neg (by decide)]
theorem My {s:Sh} {x:Ag}(hk:x.kind=4)(hq:Aj x.seq 1 1000000000=true):(if Bt s x=true then(if Bs x.name x.length 0 0 0 0 0=true then 0 else 1)else 3)=Az s x:=by
 rw[CY (by rw[hk];rfl) hq];have ep:AT s x=(if Bt s x=true then 0 else 3):=by unfold AT;rw[if_neg (by omega),if_neg (by omega),if_neg (by omega)]
 have er:Dp x=Bs x.name x.length 0 0 0 0 0:=by
  unfold Dp Bs;rw[if_neg (by omega),if_neg (by omega),if_neg (by omega),Bool.eq_iff_iff];simp
 rw[ep,er];by_cases h1:Bt s x=true
 ·rw[if_pos h1,if_pos h1,if_pos rfl]
 ·rw[if_neg h1,if_neg h1,if_neg (by decide)]
def CT(r:Ag):Ag :=
 if r.kind=1 then⟨r.kind,r.seq,r.name,r.length,0,0,r.rows,r.data,[]⟩else if r.kind=2 then⟨r.kind,r.seq,⟨#[]⟩,0,r.group,r.row,[],r.data,r.delta⟩
 else if r.kind=3 then⟨r.kind,r.seq,⟨#[]⟩,0,r.group,0,[],[],[]⟩else⟨r.kind,r.seq,⟨#[]⟩,0,r.group,r.row,r.rows,r.data,r.delta⟩
theorem Ex(r:Ag):Dp r=decide (r=CT r):=by
 obtain⟨k,q,nm,l,g,ro,rs,da,de⟩:=r;unfold Dp CT;by_cases h1:k=1
 ·subst h1;rw[Bool.eq_iff_iff];simp
 ·by_cases h2:k=2
  ·subst h2;rw[Bool.eq_iff_iff];simp
  ·by_cases h3:k=3
   ·subst h3;rw[Bool.eq_iff_iff];simp
   ·rw[Bool.eq_iff_iff];simp[h1,h2,h3]
theorem Jd {α:Type} {p:α→Bool} {l:List α} {k:Nat}(hk:k<l.length)(h:p l[k] =false):l.all p=false :=
 List.all_eq_false.2 ⟨l[k],List.getElem_mem hk,by rw[h];exact Bool.false_ne_true⟩
theorem allUpto {α:Type} {p:α→Bool} {l:List α}(h:∀q,(hq:q<l.length)→p l[q] =true):l.all p=true :=
 List.all_eq_true.2 fun x hx => by
  obtain⟨q,hq,rfl⟩:=List.getElem_of_mem hx;exact h q hq
def BG {α:Type}(p:α→Bool)(l:List α)(k:Nat):Prop:=∀q,(hq:q<l.length)→q<k→p l[q] =true
theorem BG.zero {α:Type}(p:α→Bool)(l:List α):BG p l 0:=fun _ _ h => by omega
theorem BG.step {α:Type} {p:α→Bool} {l:List α} {k:Nat}(h:BG p l k)(hk:k<l.length)(hp:p l[k] =true):BG p l (k+1):=fun q hq hqk => by
 by_cases e:q=k
 ·subst e;exact hp
 ·exact h q hq (by omega)
theorem BG.all {α:Type} {p:α→Bool} {l:List α}(h:BG p l l.length):l.all p=true:=allUpto fun q hq => h q hq hq
theorem G3 {s:Sh} {gs:List (List AU)}(h:(gs.length:Int)≠s.g+s.c):Bo s gs=false:=by
 unfold Bo;rw[decide_eq_false h];rfl
theorem G2 {s:Sh} {gs:List (List AU)} {k:Nat}(hk:k<gs.length)(h:CP s gs[k] =false):Bo s gs=false:=by
 unfold Bo;rw[Jd hk h,Bool.and_false]
theorem Iu {s:Sh} {gs:List (List AU)}(h:(gs.length:Int)=s.g+s.c)(h2:BG (CP s) gs gs.length):Bo s gs=true:=by
 unfold Bo;rw[decide_eq_true h,h2.all];rfl
theorem Hg {s:Sh} {g:List AU}(h:(g.length:Int)≠s.data+s.p):CP s g=false:=by
 unfold CP;rw[decide_eq_false h];rfl
theorem Hf {s:Sh} {g:List AU} {k:Nat}(hk:k<g.length)(h:CC s g[k] =false):CP s g=false:=by
 unfold CP;rw[Jd hk h,Bool.and_false]
theorem Iw {s:Sh} {g:List AU}(h:(g.length:Int)=s.data+s.p)(h2:BG (CC s) g g.length):CP s g=true:=by
 unfold CP;rw[decide_eq_true h,h2.all];rfl
theorem Hc {s:Sh} {d:AU}(h:(d.blocks.length:Int)≠s.rows):CC s d=false:=by
 unfold CC;rw[decide_eq_false h];rfl
theorem KY {s:Sh} {d:AU} {k:Nat}(hk:k<d.blocks.length)(h:Ct d.blocks[k] =false):CC s d=false:=by
 unfold CC;rw[Jd hk h,Bool.and_false]
theorem L8 {s:Sh} {d:AU}(h:(d.blocks.length:Int)=s.rows)(h2:BG Ct d.blocks d.blocks.length):CC s d=true:=by
 unfold CC;rw[decide_eq_true h,h2.all];rfl
theorem KV {s:Sh} {d:AU}(h:(d.blocks.length:Int)=s.rows):CC s d= !(d.blocks.any fun b => !Ct b):=by
 unfold CC;rw[decide_eq_true h,Bool.true_and,Bool.eq_iff_iff];simp
theorem Jh {b:By}(h:Aj b.stamp 0 1000000000=false):Ct b=false:=by unfold Ct;rw[h];rfl
theorem KO {b:By}(h:b.bytes.length≠4):Ct b=false:=by unfold Ct;rw[decide_eq_false h,Bool.and_false]
theorem L5 {b:By}(h:Aj b.stamp 0 1000000000=true)(h2:b.bytes.length=4):Ct b=true:=by unfold Ct;rw[h,decide_eq_true h2];rfl
theorem Fy {s:Sh}:∀ {l:List Ag} {k:Nat} (hk:k<l.length),BG (fun r => decide (Az s r=0)) l k→Az s l[k]≠0→AX s l=Az s l[k]
 |r :: l,0,hk,h,hb => by
  have hb':¬Az s r=0:=hb;show(if Az s r=0 then AX s l else Az s r)=Az s r
  rw[if_neg hb']
 |r :: l,k+1,hk,h,hb => by
  have h0:Az s r=0:=by have:=h 0 (by simp) (by omega);simpa using this
  have hk':k<l.length:=by simpa using hk
  show(if Az s r=0 then AX s l else Az s r)=Az s l[k]
  rw[if_pos h0];exact Fy (by simpa using hk) (fun q hq hqk => h (q+1) (by simpa using hq) (by omega)) hb
theorem FZ {s:Sh}:∀ {l:List Ag},BG (fun r => decide (Az s r=0)) l l.length→AX s l=0
 | [],_ => rfl
 |r :: l,h => by
  have h0:Az s r=0:=by have:=h 0 (by simp) (by simp);simpa using this
  show(if Az s r=0 then AX s l else Az s r)=0
  rw[if_pos h0];exact FZ fun q hq hqk => h (q+1) (by simpa using hq) (by simpa using hqk)
def Cg(s:Sh)(ts:List AS)(k:Nat):Prop:=AX s ((ts.take k).flatMap AS.recs)=0
theorem Cg.zero(s:Sh)(ts:List AS):Cg s ts 0:=rfl
theorem Cg.step {s:Sh} {ts:List AS} {k:Nat}(h:Cg s ts k)(hk:k<ts.length)(h2:AX s ts[k].recs =0):Cg s ts (k+1):=by
 unfold Cg;rw[List.take_succ_eq_append_getElem hk,List.flatMap_append,Em s _ _ h];simpa using h2
theorem FY {s:Sh}:∀(a b:List Ag),AX s a≠0→AX s (a ++ b)=AX s a
 | [],b,h => absurd rfl h
 |r :: l,b,h => by
  show(if Az s r=0 then AX s (l ++ b)else Az s r)=(if Az s r=0 then AX s l else Az s r)
  by_cases h0:Az s r=0
  ·rw[if_pos h0,if_pos h0];refine FY l b fun e => h ?_
   show(if Az s r=0 then AX s l else Az s r)=0
   rw[if_pos h0,e]
  ·rw[if_neg h0,if_neg h0]
theorem Cg.bad {s:Sh} {ts:List AS} {k:Nat}(h:Cg s ts k)(hk:k<ts.length)(h2:AX s ts[k].recs≠0):AX s (ts.flatMap AS.recs)=AX s ts[k].recs:=by
 conv => lhs;rw[← List.take_append_drop k ts]
 rw[List.flatMap_append,Em s _ _ h,List.drop_eq_getElem_cons hk,List.flatMap_cons,FY _ _ h2]
theorem Cg.all {s:Sh} {ts:List AS}(h:Cg s ts ts.length):AX s (ts.flatMap AS.recs)=0:=by
 unfold Cg at h;rwa [List.take_length]at h
theorem Eb {s:Sh} {ts:List AS}(h:ts.any (fun t => decide (200<t.recs.length))=true):Bj s ts=2:=by unfold Bj;rw[if_pos h]
theorem FO {s:Sh} {ts:List AS}(h:ts.any (fun t => decide (200<t.recs.length))=false)(h2:AX s (ts.flatMap AS.recs)≠0):Bj s ts=AX s (ts.flatMap AS.recs):=by
 unfold Bj;rw[if_neg (by rw[h];exact Bool.false_ne_true),if_neg h2]
theorem FN {s:Sh} {ts:List AS}(h:ts.any (fun t => decide (200<t.recs.length))=false)(h2:AX s (ts.flatMap AS.recs)=0):Bj s ts=if ts.any (fun t => t.wiped && decide (0<t.recs.length))=true then 1 else 0:=by
 unfold Bj;rw[if_neg (by rw[h];exact Bool.false_ne_true),if_pos h2]
theorem E1 {d:AC}(h:shB d.s.sh=false):AI d=3:=by unfold AI;rw[if_neg (by rw[h];exact Bool.false_ne_true)]
theorem Fs {d:AC}(h:shB d.s.sh=true)(h2:(Bo d.s.sh d.g && (onB d.s.sh d.on d.down && decide (d.v.length=2)))=false):AI d=1:=by
 unfold AI;rw[if_pos h,if_neg (by rw[h2];exact Bool.false_ne_true)]
theorem DW {d:AC}(h:shB d.s.sh=true)(h2:(Bo d.s.sh d.g && (onB d.s.sh d.on d.down && decide (d.v.length=2)))=true)(h3:Bj d.s.sh d.v≠0):AI d=Bj d.s.sh d.v:=by
 unfold AI;rw[if_pos h,if_pos h2,if_neg h3]
theorem Es {d:AC}(h:shB d.s.sh=true)(h2:(Bo d.s.sh d.g && (onB d.s.sh d.on d.down && decide (d.v.length=2)))=true)(h3:Bj d.s.sh d.v=0):AI d=if(Aj d.u 0 1000000000 && Aj d.stop (-1) 1000000000)=true then 0 else 3:=by
 unfold AI;rw[if_pos h,if_pos h2,if_pos h3]
theorem Mz(v:Value)(ls:List Int)(all hi:Int)(f:List Addr)(w:World)(h:Bg w f v ls)(he:all - 1=hi)(hok:okI hi) :
  Calls Tryz.prog 285 #[v,int i64 all] w fun e w' => e= .returned (.bool (Ch ls hi))∧Below w.heap.size w w':=by
 obtain⟨A,c,rfl,hc,hm,hx⟩:=Bg.open_ h;have HX:=hid hx;obtain⟨r,hr⟩:∃r,Ch ls hi=r:=⟨_,rfl⟩;rw[hr];have HR:=hid hr;obtain⟨n,hn⟩:∃n,ls.length=n:=⟨_,rfl⟩;rw[hn]at hc⊢;have HN:=hid hn;have HW:=hid (show IntKind.i64.wrap (all - 1)=hi from by rw[he];exact IntWalk.i64_in _ (by have:=hok.1;have:=hok.2;omega));clear h hx hr hn he hok;go_enter Tryz.func285,Tryz.ntmps285
 go_wp2_with fail
 go_loopw [9,5,6] (fun i _ _ wr =>∃k:Nat,k≤n∧i= int i64 k∧Hid (DS ls hi k)∧Hid (Below w.heap.size w wr)) (fun i _ _ _ => n - (intOf i).toNat)
 case atStart => exact⟨0,by omega,rfl,Hq _ _,Below.refl _ _⟩
 case round =>
  obtain⟨k,hk,rfl,HS,HB⟩:=hrel;have hw:=HW.out;by_cases hlt:k<n
  ·have hk1:k<ls.length:=by rw[HN.out];exact hlt
   obtain⟨ad,e1,-,b1,p1,-⟩:=HX.out k hk1;subst e1;have p1':=((HB.out.cell (p:=ad.add k) b1).trans p1);have hki:(k:Int)<(n:Int):=by omega
   obtain⟨x,hx⟩:∃x,ls[k] =x:=⟨_,rfl⟩;rw[hx]at p1';have HST:=hid (Hp HS.out hk1);have HBAD:=hid (fun(h:Aj ls[k] 0 hi=false∨(0<k∧ls[k]≤ls[k - 1])) => HR.out.symm.trans (KI hk1 h));rw[hx]at HST HBAD;have HIN:=hid (fun(W:World) => Be x 0 hi W);clear p1;cases hin:Aj x 0 hi with
   |false =>
    rw[hin]at HIN;have e1:r=false:=HBAD.out (.inl hin);subst e1;clear hx HST HBAD hk1 b1 hin;go_wp2_with (go_at_call 100;(try rw[HW.out]);refine(HIN.out _).mono ?_;rintro e w' ⟨rfl,rfl⟩)
    go_ret
    exact⟨rfl,HB.out⟩
   |true =>
    rw[hin]at HIN;by_cases a3:k=0
    ·have HS2:=hid (HST.out hin (fun h => by omega));have a4:¬(0:Int)<(k:Int):=by omega
     have a6:¬0<k:=by omega
     clear hx HST HBAD hk1 b1 hin a3;go_wp2_with (go_at_call 100;(try rw[HW.out]);refine(HIN.out _).mono ?_;rintro e w' ⟨rfl,rfl⟩)
     go_roundw
     case rel => exact⟨k+1,by omega,by go_num,HS2.out,HB.out⟩
     case measure => simp[intOf];omega
    ·have a4:(0:Int)<(k:Int):=by omega
     have a6:0<k:=by omega
     have hk2:k - 1<ls.length:=by omega
     obtain⟨ad',e1,-,b2,p2,-⟩:=HX.out (k - 1) hk2;injection e1 with e1
     subst e1;have p2':=((HB.out.cell (p:=ad.add (k - 1)) b2).trans p2);obtain⟨y,hy⟩:∃y,ls[k - 1] =y:=⟨_,rfl⟩;rw[hy]at p2' HST HBAD;have e1:IntKind.i64.wrap ((k:Int) - 1)=((k - 1:Nat):Int):=by rw[IntWalk.i64_in _ (by omega)];omega
     have e2:((k:Int) - 1)=((k - 1:Nat):Int):=by omega
     have e3:((k - 1:Nat):Int)<(n:Int):=by omega
     obtain⟨k1,hk1e⟩:∃k1,k - 1=k1:=⟨_,rfl⟩;rw[hk1e]at p2' e1 e2 e3;by_cases a5:x≤y
     ·have e1:r=false:=HBAD.out (.inr ⟨by omega,a5⟩);subst e1;clear hx HST HBAD hk1 b1 hin a3 hy hk2 p2 b2 hk1e;go_wp2_with (go_at_call 100;(try rw[HW.out]);refine(HIN.out _).mono ?_;rintro e w' ⟨rfl,rfl⟩)
      go_ret
      exact⟨rfl,HB.out⟩
     ·have HS2:=hid (HST.out hin (fun h => by omega));clear hx HST HBAD hk1 b1 hin a3 hy hk2 p2 b2 hk1e;go_wp2_with (go_at_call 100;(try rw[HW.out]);refine(HIN.out _).mono ?_;rintro e w' ⟨rfl,rfl⟩)
      go_roundw
      case rel => exact⟨k+1,by omega,by go_num,HS2.out,HB.out⟩
      case measure => simp[intOf];omega
  ·obtain rfl:k=n:=by omega
   have e1:r=true:=by
    rw[← HR.out];exact KJ (by rw[HN.out];exact HS.out)
   subst e1;go_wp2_with fail
   go_ret
   exact⟨rfl,HB.out⟩
theorem LI(s:Sh)(x:Ag)(P:Prop)
  (h1:Aj x.group 0 (s.g+s.c - 1)=false→Bt s x=false→P)
  (h2:Aj x.group 0 (s.g+s.c - 1)=true→Aj x.row 0 (s.rows - 1)=false→Bt s x=false→P)
  (h3:Aj x.group 0 (s.g+s.c - 1)=true→Aj x.row 0 (s.rows - 1)=true→Ch x.rows (s.g+s.c - 1)=false→Bt s x=false→P)
  (h4:Aj x.group 0 (s.g+s.c - 1)=true→Aj x.row 0 (s.rows - 1)=true→Ch x.rows (s.g+s.c - 1)=true→¬(x.data.length:Int)=s.data * 4→Bt s x=false→P)
  (h5:Aj x.group 0 (s.g+s.c - 1)=true→Aj x.row 0 (s.rows - 1)=true→Ch x.rows (s.g+s.c - 1)=true→(x.data.length:Int)=s.data * 4→¬(x.delta.length:Int)=s.g+s.c→Bt s x=false→P)
  (h6:Aj x.group 0 (s.g+s.c - 1)=true→Aj x.row 0 (s.rows - 1)=true→Ch x.rows (s.g+s.c - 1)=true→(x.data.length:Int)=s.data * 4→(x.delta.length:Int)=s.g+s.c→Bt s x=(!BN x x.group && x.rows.all (BN x))→P):P:=by
 unfold Bt at h1 h2 h3 h4 h5 h6;rw[Int.mul_comm 4 s.data]at h1 h2 h3 h4 h5 h6;by_cases g:Aj x.group 0 (s.g+s.c - 1)=true
 ·by_cases r:Aj x.row 0 (s.rows - 1)=true
  ·by_cases i:Ch x.rows (s.g+s.c - 1)=true
   ·by_cases d:(x.data.length:Int)=s.data * 4
    ·by_cases e:(x.delta.length:Int)=s.g+s.c
     ·exact h6 g r i d e (by rw[g,r,i,decide_eq_true d,decide_eq_true e];rfl)
     ·exact h5 g r i d e (by rw[g,r,i,decide_eq_true d,decide_eq_false e];rfl)
    ·exact h4 g r i d (by rw[g,r,i,decide_eq_false d];rfl)
   ·have i':Ch x.rows (s.g+s.c - 1)=false:=by simpa using i
    exact h3 g r i' (by rw[g,r,i'];rfl)
  ·have r':Aj x.row 0 (s.rows - 1)=false:=by simpa using r
   exact h2 g r' (by rw[g,r'];rfl)
 ·have g':Aj x.group 0 (s.g+s.c - 1)=false:=by simpa using g
  exact h1 g' (by rw[g'];rfl)
theorem FG {w:World} {f:List Addr} {A:Option Addr} {n c:Nat} {x:Ag}(h:AM w f (.slice A n c) x.delta) {k:Int}(h0:0≤k)(h1:k<(n:Int)) :
  ∃(ad:Addr) (bb:UInt8),A=some ad∧(ad.add k.toNat).block <w.heap.size∧w.cell? (ad.add k.toNat)=some (.int .u8 (bb.toNat:Int))∧BN x k=decide (bb≠0):=by
 obtain⟨A',c',e,-,-,hx⟩:=AM.open_ h;injection e with e1 e2 e3
 subst e1 e3;obtain⟨ad,ea,-,q2,q3⟩:=hx k.toNat (by omega);refine⟨ad,_,ea,q2,q3,?_⟩;unfold BN;rw[List.getD_eq_getElem?_getD,List.getElem?_eq_getElem (by omega),Option.getD_some]
theorem Ib {b:UInt8}(h:b=0):((b.toNat:Int) == 0)=true:=by rw[h];rfl
theorem Ia {b:UInt8}(h:¬b=0):((b.toNat:Int) == 0)=false:=by
 rw[beq_eq_false_iff_ne];intro e;have e2:b.toNat=0:=by omega
 exact h (UInt8.toNat_inj.1 (by rw[e2];rfl))
theorem Kx {b:UInt8}(h:¬b=0):((b.toNat:Int) != 0)=true:=by unfold bne;rw[Ia h];rfl
theorem Kw {b:UInt8}(h:b=0):((b.toNat:Int) != 0)=false:=by unfold bne;rw[Ib h];rfl
theorem I2(x:Ag)(A2:Option Addr)(nE c2:Nat)(f:List Addr)(p:Nat)(k:Int)(W:World)(h0:0≤k)(h1:k<(nE:Int))(h:AM W f (.slice A2 nE c2) x.delta)(hc:W.cell? ⟨p,8,none⟩=some (.slice A2 nE c2))(lp:p<W.heap.size) :
  Calls Tryz.prog 287 #[int i64 k,.pointer (some ⟨p,0,none⟩)] W fun e w' => e= .returned (.bool (!BN x k))∧Below W.heap.size W w':=by
 obtain⟨ad,bb,ea,lb,pb,hw⟩:=FG h h0 h1;subst ea;rw[hw];obtain⟨kn,rfl⟩:=Int.eq_ofNat_of_zero_le h0;rw[Int.toNat_natCast]at pb lb;clear h hw;by_cases q:bb=0
 ·rw[show(!decide (bb≠0))=true by rw[q];rfl];have q1:=Ib q;clear q;go_enter Tryz.func287,Tryz.ntmps287
  go_wp2_with fail
  go_ret
  exact⟨rfl,Below.refl _ _⟩
 ·rw[show(!decide (bb≠0))=false by rw[decide_eq_true q];rfl];have q1:=Ia q;clear q;go_enter Tryz.func287,Tryz.ntmps287
  go_wp2_with fail
  go_ret
  exact⟨rfl,Below.refl _ _⟩
theorem JH(s:Sh)(hs:s.Ok)(x:Ag)(cs:List Value)(f:List Addr)(w:World)(h:Ac w f cs x) :
  Calls Tryz.prog 247 #[shV s,.agg cs.toArray] w fun e w' => e= .returned (int i64 (if Bt s x=true then 0 else 3))∧Below w.heap.size w w':=by
 dsimp only[Ac]at h;obtain⟨v0,v1,v2,f0,f1,f2,rfl,rfl,o0,o1,o2,o3,o4,o5,h0,h1,h2⟩:=h;obtain⟨A0,c0,rfl,k0,m0⟩:=rSl.head h0;obtain⟨A1,c1,rfl,k1,m1⟩:=rSl.head h1;obtain⟨A2,c2,rfl,k2,m2⟩:=rSl.head h2;have H0:=hid h0;have H1:=hid h1;have H2:=hid h2;obtain⟨nR,hnR⟩:∃nR,x.rows.length=nR:=⟨_,rfl⟩;obtain⟨nD,hnD⟩:∃nD,x.data.length=nD:=⟨_,rfl⟩;obtain⟨nE,hnE⟩:∃nE,x.delta.length=nE:=⟨_,rfl⟩;have HNR:=hid hnR;have HND:=hid hnD;have HNE:=hid hnE;rw[hnR]at H0 k0⊢;rw[hnD]at H1 k1⊢;rw[hnE]at H2 k2⊢;have K1:=(Blk.new w 31 #[int i64 s.g,int i64 s.c,int i64 s.data,int i64 s.p,int i64 s.rows,int i64 s.cap,int i64 s.b,int i64 s.q,int i64 s.t]).alloc (.cells #[int i64 x.kind,int i64 x.seq,.string x.name,int i64 x.length,int i64 x.group,int i64 x.row,.slice A0 nR c0,.slice A1 nD c1,.slice A2 nE c2] 119);have K2:=Blk.new1 w (.cells #[int i64 s.g,int i64 s.c,int i64 s.data,int i64 s.p,int i64 s.rows,int i64 s.cap,int i64 s.b,int i64 s.q,int i64 s.t] 31) 119 #[int i64 x.kind,int i64 x.seq,.string x.name,int i64 x.length,int i64 x.group,int i64 x.row,.slice A0 nR c0,.slice A1 nD c1,.slice A2 nE c2];have hB:Below w.heap.size w ((w.alloc (.cells #[int i64 s.g,int i64 s.c,int i64 s.data,int i64 s.p,int i64 s.rows,int i64 s.cap,int i64 s.b,int i64 s.q,int i64 s.t] 31)).alloc (.cells #[int i64 x.kind,int i64 x.seq,.string x.name,int i64 x.length,int i64 x.group,int i64 x.row,.slice A0 nR c0,.slice A1 nD c1,.slice A2 nE c2] 119)):=((Below.refl _ _).alloc (Nat.le_refl _) _).alloc (by simp) _;have HB:=hid hB;have S2:=BF.of K1;have R2:=CH.of K2;have HS:=hid S2;have HRC:=hid R2;clear h0 h1 h2 hnR hnD hnE K1 K2 hB;obtain⟨d1,d2⟩:=hs.data;obtain⟨d3,d4⟩:=hs.g;obtain⟨d5,d6⟩:=hs.c;have HIC:=hid (LI s x);obtain⟨b,hb⟩:∃b,Bt s x=b:=⟨_,rfl⟩;rw[hb]at HIC⊢;rw[HND.out,HNE.out]at HIC;obtain⟨al,hal⟩:∃al,s.g+s.c=al:=⟨_,rfl⟩;obtain⟨wd,hwd⟩:∃wd,s.data * 4=wd:=⟨_,rfl⟩;rw[hal,hwd]at HIC;have hal6:1≤al∧al≤6:=by omega
 have HAL:=hid hal6;have QG:=hid (AF (w:=((w.alloc (.cells #[int i64 s.g,int i64 s.c,int i64 s.data,int i64 s.p,int i64 s.rows,int i64 s.cap,int i64 s.b,int i64 s.q,int i64 s.t] 31)).alloc (.cells #[int i64 x.kind,int i64 x.seq,.string x.name,int i64 x.length,int i64 x.group,int i64 x.row,.slice A0 nR c0,.slice A1 nD c1,.slice A2 nE c2] 119))) (fun W _ => ET s hs x.group W));have QR:=hid (AF (w:=((w.alloc (.cells #[int i64 s.g,int i64 s.c,int i64 s.data,int i64 s.p,int i64 s.rows,int i64 s.cap,int i64 s.b,int i64 s.q,int i64 s.t] 31)).alloc (.cells #[int i64 x.kind,int i64 x.seq,.string x.name,int i64 x.length,int i64 x.group,int i64 x.row,.slice A0 nR c0,.slice A1 nD c1,.slice A2 nE c2] 119))) (fun W _ => Ij s hs x.row W));have QA:=hid (AF (w:=((w.alloc (.cells #[int i64 s.g,int i64 s.c,int i64 s.data,int i64 s.p,int i64 s.rows,int i64 s.cap,int i64 s.b,int i64 s.q,int i64 s.t] 31)).alloc (.cells #[int i64 x.kind,int i64 x.seq,.string x.name,int i64 x.length,int i64 x.group,int i64 x.row,.slice A0 nR c0,.slice A1 nD c1,.slice A2 nE c2] 119))) (fun W _ => DV s hs W));have QI:=hid (AF (w:=((w.alloc (.cells #[int i64 s.g,int i64 s.c,int i64 s.data,int i64 s.p,int i64 s.rows,int i64 s.cap,int i64 s.b,int i64 s.q,int i64 s.t] 31)).alloc (.cells #[int i64 x.kind,int i64 x.seq,.string x.name,int i64 x.length,int i64 x.group,int i64 x.row,.slice A0 nR c0,.slice A1 nD c1,.slice A2 nE c2] 119))) (fun W hW => Mz (.slice A0 nR c0) x.rows al (al - 1) f0 W (rSl.below Al.local_ Al.fixed H0.out (HB.out.trans (hW.mono HB.out.size))) rfl ⟨by omega,by omega⟩));have QL:=hid (AF (w:=((w.alloc (.cells #[int i64 s.g,int i64 s.c,int i64 s.data,int i64 s.p,int i64 s.rows,int i64 s.cap,int i64 s.b,int i64 s.q,int i64 s.t] 31)).alloc (.cells #[int i64 x.kind,int i64 x.seq,.string x.name,int i64 x.length,int i64 x.group,int i64 x.row,.slice A0 nR c0,.slice A1 nD c1,.slice A2 nE c2] 119))) (fun W _ => Fe s hs W));have QS1:=hid (Bc (w:=((w.alloc (.cells #[int i64 s.g,int i64 s.c,int i64 s.data,int i64 s.p,int i64 s.rows,int i64 s.cap,int i64 s.b,int i64 s.q,int i64 s.t] 31)).alloc (.cells #[int i64 x.kind,int i64 x.seq,.string x.name,int i64 x.length,int i64 x.group,int i64 x.row,.slice A0 nR c0,.slice A1 nD c1,.slice A2 nE c2] 119))) (fun W => Cx A1 nD c1 W));have QS2:=hid (Bc (w:=((w.alloc (.cells #[int i64 s.g,int i64 s.c,int i64 s.data,int i64 s.p,int i64 s.rows,int i64 s.cap,int i64 s.b,int i64 s.q,int i64 s.t] 31)).alloc (.cells #[int i64 x.kind,int i64 x.seq,.string x.name,int i64 x.length,int i64 x.group,int i64 x.row,.slice A0 nR c0,.slice A1 nD c1,.slice A2 nE c2] 119))) (fun W => Cx A2 nE c2 W));unfold shV at QG QR QA QL⊢;rw[hal]at QG QA;rw[hwd]at QL;have t4:=cell_regrown HRC.out.c4;have t5:=cell_regrown HRC.out.c5;have t6:=cell_regrown HRC.out.c6;have t7:=cell_regrown HRC.out.c7;have t8:=cell_regrown HRC.out.c8;have u0:=cell_regrown HS.out.c0;have u1:=cell_regrown HS.out.c1;have u2:=cell_regrown HS.out.c2;have u3:=cell_regrown HS.out.c3;have u4:=cell_regrown HS.out.c4;have u5:=cell_regrown HS.out.c5;have u6:=cell_regrown HS.out.c6;have u7:=cell_regrown HS.out.c7;have u8:=cell_regrown HS.out.c8;have lr:=HRC.out.lt;have ls:=HS.out.lt;clear hb hal hwd d1 d2 d3 d4 d5 d6 hal6 hs;refine HIC.out _ ?_ ?_ ?_ ?_ ?_ ?_
 ·intro g hbv;subst hbv;rw[g]at QG;clear HIC g;go_enter Tryz.func247,Tryz.ntmps247
  go_wp2_with fail
  (refine wp_region_quiet_below (by kernel_rfl) (by kernel_rfl) ?_;(repeat(first|go_big_quiet_step (first|exact QG.out _ _|exact QR.out _ _|exact QA.out _ _|exact QI.out _ _|exact QL.out _ _|exact QS1.out _ _|exact QS2.out _ _)|quiet_step (first|exact QG.out _ _|exact QR.out _ _|exact QA.out _ _|exact QI.out _ _|exact QL.out _ _|exact QS1.out _ _|exact QS2.out _ _)));refine wpQuiet_nil ?_)
  rintro _ ⟨⟨dq,osq⟩,rfl⟩;have b5:=below_regrown ((w.alloc (.cells #[int i64 s.g,int i64 s.c,int i64 s.data,int i64 s.p,int i64 s.rows,int i64 s.cap,int i64 s.b,int i64 s.q,int i64 s.t] 31)).alloc (.cells #[int i64 x.kind,int i64 x.seq,.string x.name,int i64 x.length,int i64 x.group,int i64 x.row,.slice A0 nR c0,.slice A1 nD c1,.slice A2 nE c2] 119)) dq osq;generalize grow (redrawn ((w.alloc (.cells #[int i64 s.g,int i64 s.c,int i64 s.data,int i64 s.p,int i64 s.rows,int i64 s.cap,int i64 s.b,int i64 s.q,int i64 s.t] 31)).alloc (.cells #[int i64 x.kind,int i64 x.seq,.string x.name,int i64 x.length,int i64 x.group,int i64 x.row,.slice A0 nR c0,.slice A1 nD c1,.slice A2 nE c2] 119)) dq) osq=w5 at b5;have S5:=HS.out.below b5;have R5:=HRC.out.below b5;have B5:=hid (HB.out.trans (b5.mono HB.out.size));have x54:=R5.c4;have x56:=R5.c6;have x58:=R5.c8;have lr5:=R5.lt;have ls5:=S5.lt;have HR5:=hid R5;clear b5 S5 R5;clear t4 t5 t6 t7 t8 u0 u1 u2 u3 u4 u5 u6 u7 u8 QG QR QA QI QL QS1 QS2;go_wp2_with fail
  go_ret
  exact⟨rfl,B5.out⟩
 ·intro g r hbv;subst hbv;rw[g]at QG;rw[r]at QR;clear HIC g r;go_enter Tryz.func247,Tryz.ntmps247
  go_wp2_with fail
  (refine wp_region_quiet_below (by kernel_rfl) (by kernel_rfl) ?_;(repeat(first|go_big_quiet_step (first|exact QG.out _ _|exact QR.out _ _|exact QA.out _ _|exact QI.out _ _|exact QL.out _ _|exact QS1.out _ _|exact QS2.out _ _)|quiet_step (first|exact QG.out _ _|exact QR.out _ _|exact QA.out _ _|exact QI.out _ _|exact QL.out _ _|exact QS1.out _ _|exact QS2.out _ _)));refine wpQuiet_nil ?_)
  rintro _ ⟨⟨dq,osq⟩,rfl⟩;have b5:=below_regrown ((w.alloc (.cells #[int i64 s.g,int i64 s.c,int i64 s.data,int i64 s.p,int i64 s.rows,int i64 s.cap,int i64 s.b,int i64 s.q,int i64 s.t] 31)).alloc (.cells #[int i64 x.kind,int i64 x.seq,.string x.name,int i64 x.length,int i64 x.group,int i64 x.row,.slice A0 nR c0,.slice A1 nD c1,.slice A2 nE c2] 119)) dq osq;generalize grow (redrawn ((w.alloc (.cells #[int i64 s.g,int i64 s.c,int i64 s.data,int i64 s.p,int i64 s.rows,int i64 s.cap,int i64 s.b,int i64 s.q,int i64 s.t] 31)).alloc (.cells #[int i64 x.kind,int i64 x.seq,.string x.name,int i64 x.length,int i64 x.group,int i64 x.row,.slice A0 nR c0,.slice A1 nD c1,.slice A2 nE c2] 119)) dq) osq=w5 at b5;have S5:=HS.out.below b5;have R5:=HRC.out.below b5;have B5:=hid (HB.out.trans (b5.mono HB.out.size));have x54:=R5.c4;have x56:=R5.c6;have x58:=R5.c8;have lr5:=R5.lt;have ls5:=S5.lt;have HR5:=hid R5;clear b5 S5 R5;clear t4 t5 t6 t7 t8 u0 u1 u2 u3 u4 u5 u6 u7 u8 QG QR QA QI QL QS1 QS2;go_wp2_with fail
  go_ret
  exact⟨rfl,B5.out⟩
 ·intro g r i hbv;subst hbv;rw[g]at QG;rw[r]at QR;rw[i]at QI;clear HIC g r i;go_enter Tryz.func247,Tryz.ntmps247
  go_wp2_with fail
  (refine wp_region_quiet_below (by kernel_rfl) (by kernel_rfl) ?_;(repeat(first|go_big_quiet_step (first|exact QG.out _ _|exact QR.out _ _|exact QA.out _ _|exact QI.out _ _|exact QL.out _ _|exact QS1.out _ _|exact QS2.out _ _)|quiet_step (first|exact QG.out _ _|exact QR.out _ _|exact QA.out _ _|exact QI.out _ _|exact QL.out _ _|exact QS1.out _ _|exact QS2.out _ _)));refine wpQuiet_nil ?_)
  rintro _ ⟨⟨dq,osq⟩,rfl⟩;have b5:=below_regrown ((w.alloc (.cells #[int i64 s.g,int i64 s.c,int i64 s.data,int i64 s.p,int i64 s.rows,int i64 s.cap,int i64 s.b,int i64 s.q,int i64 s.t] 31)).alloc (.cells #[int i64 x.kind,int i64 x.seq,.string x.name,int i64 x.length,int i64 x.group,int i64 x.row,.slice A0 nR c0,.slice A1 nD c1,.slice A2 nE c2] 119)) dq osq;generalize grow (redrawn ((w.alloc (.cells #[int i64 s.g,int i64 s.c,int i64 s.data,int i64 s.p,int i64 s.rows,int i64 s.cap,int i64 s.b,int i64 s.q,int i64 s.t] 31)).alloc (.cells #[int i64 x.kind,int i64 x.seq,.string x.name,int i64 x.length,int i64 x.group,int i64 x.row,.slice A0 nR c0,.slice A1 nD c1,.slice A2 nE c2] 119)) dq) osq=w5 at b5;have S5:=HS.out.below b5;have R5:=HRC.out.below b5;have B5:=hid (HB.out.trans (b5.mono HB.out.size));have x54:=R5.c4;have x56:=R5.c6;have x58:=R5.c8;have lr5:=R5.lt;have ls5:=S5.lt;have HR5:=hid R5;clear b5 S5 R5;clear t4 t5 t6 t7 t8 u0 u1 u2 u3 u4 u5 u6 u7 u8 QG QR QA QI QL QS1 QS2;go_wp2_with fail
  go_ret
  exact⟨rfl,B5.out⟩
 ·intro g r i d hbv;subst hbv;rw[g]at QG;rw[r]at QR;rw[i]at QI;have d':((nD:Int) == wd)=false:=CB d;clear HIC g r i d;go_enter Tryz.func247,Tryz.ntmps247
  go_wp2_with fail
  (refine wp_region_quiet_below (by kernel_rfl) (by kernel_rfl) ?_;(repeat(first|go_big_quiet_step (first|exact QG.out _ _|exact QR.out _ _|exact QA.out _ _|exact QI.out _ _|exact QL.out _ _|exact QS1.out _ _|exact QS2.out _ _)|quiet_step (first|exact QG.out _ _|exact QR.out _ _|exact QA.out _ _|exact QI.out _ _|exact QL.out _ _|exact QS1.out _ _|exact QS2.out _ _)));refine wpQuiet_nil ?_)
  rintro _ ⟨⟨dq,osq⟩,rfl⟩;have b5:=below_regrown ((w.alloc (.cells #[int i64 s.g,int i64 s.c,int i64 s.data,int i64 s.p,int i64 s.rows,int i64 s.cap,int i64 s.b,int i64 s.q,int i64 s.t] 31)).alloc (.cells #[int i64 x.kind,int i64 x.seq,.string x.name,int i64 x.length,int i64 x.group,int i64 x.row,.slice A0 nR c0,.slice A1 nD c1,.slice A2 nE c2] 119)) dq osq;generalize grow (redrawn ((w.alloc (.cells #[int i64 s.g,int i64 s.c,int i64 s.data,int i64 s.p,int i64 s.rows,int i64 s.cap,int i64 s.b,int i64 s.q,int i64 s.t] 31)).alloc (.cells #[int i64 x.kind,int i64 x.seq,.string x.name,int i64 x.length,int i64 x.group,int i64 x.row,.slice A0 nR c0,.slice A1 nD c1,.slice A2 nE c2] 119)) dq) osq=w5 at b5;have S5:=HS.out.below b5;have R5:=HRC.out.below b5;have B5:=hid (HB.out.trans (b5.mono HB.out.size));have x54:=R5.c4;have x56:=R5.c6;have x58:=R5.c8;have lr5:=R5.lt;have ls5:=S5.lt;have HR5:=hid R5;clear b5 S5 R5;clear t4 t5 t6 t7 t8 u0 u1 u2 u3 u4 u5 u6 u7 u8 QG QR QA QI QL QS1 QS2;go_wp2_with fail
  go_ret
  exact⟨rfl,B5.out⟩
 ·intro g r i d e hbv;subst hbv;rw[g]at QG;rw[r]at QR;rw[i]at QI;have d':((nD:Int) == wd)=true:=Dc d;have e':((nE:Int) == al)=false:=CB e;clear HIC g r i d e;go_enter Tryz.func247,Tryz.ntmps247
  go_wp2_with fail
  (refine wp_region_quiet_below (by kernel_rfl) (by kernel_rfl) ?_;(repeat(first|go_big_quiet_step (first|exact QG.out _ _|exact QR.out _ _|exact QA.out _ _|exact QI.out _ _|exact QL.out _ _|exact QS1.out _ _|exact QS2.out _ _)|quiet_step (first|exact QG.out _ _|exact QR.out _ _|exact QA.out _ _|exact QI.out _ _|exact QL.out _ _|exact QS1.out _ _|exact QS2.out _ _)));refine wpQuiet_nil ?_)
  rintro _ ⟨⟨dq,osq⟩,rfl⟩;have b5:=below_regrown ((w.alloc (.cells #[int i64 s.g,int i64 s.c,int i64 s.data,int i64 s.p,int i64 s.rows,int i64 s.cap,int i64 s.b,int i64 s.q,int i64 s.t] 31)).alloc (.cells #[int i64 x.kind,int i64 x.seq,.string x.name,int i64 x.length,int i64 x.group,int i64 x.row,.slice A0 nR c0,.slice A1 nD c1,.slice A2 nE c2] 119)) dq osq;generalize grow (redrawn ((w.alloc (.cells #[int i64 s.g,int i64 s.c,int i64 s.data,int i64 s.p,int i64 s.rows,int i64 s.cap,int i64 s.b,int i64 s.q,int i64 s.t] 31)).alloc (.cells #[int i64 x.kind,int i64 x.seq,.string x.name,int i64 x.length,int i64 x.group,int i64 x.row,.slice A0 nR c0,.slice A1 nD c1,.slice A2 nE c2] 119)) dq) osq=w5 at b5;have S5:=HS.out.below b5;have R5:=HRC.out.below b5;have B5:=hid (HB.out.trans (b5.mono HB.out.size));have x54:=R5.c4;have x56:=R5.c6;have x58:=R5.c8;have lr5:=R5.lt;have ls5:=S5.lt;have HR5:=hid R5;clear b5 S5 R5;clear t4 t5 t6 t7 t8 u0 u1 u2 u3 u4 u5 u6 u7 u8 QG QR QA QI QL QS1 QS2;go_wp2_with fail
  go_ret
  exact⟨rfl,B5.out⟩
 ·intro g r i d e hbv;have hin:=Bn g;have hal:=HAL.out;have hri:=i;rw[g]at QG;rw[r]at QR;rw[i]at QI;have d':((nD:Int) == wd)=true:=Dc d;have e':((nE:Int) == al)=true:=Dc e;obtain⟨ad,bb,ea,lb,pb,hw⟩:=FG H2.out hin.1 (show x.group<(nE:Int) by omega);subst ea;have HPB:=hid pb;have HLB:=hid lb;obtain⟨gn,hgn⟩:=Int.eq_ofNat_of_zero_le hin.1;have hgn0:(0:Int)≤(gn:Int):=by omega
  have hgn1:(gn:Int)<(nE:Int):=by omega
  rw[hgn,Int.toNat_natCast]at HPB HLB;have HRISE:=hid (show∀k,k∈x.rows→0≤k∧k<(nE:Int)from fun k hk => by
   obtain⟨j,hj,rfl⟩:=List.getElem_of_mem hk;have h1:DS x.rows (al - 1) x.rows.length:=by unfold Ch at hri;exact of_decide_eq_true hri
   have:=Bn (h1 j hj hj).1;omega)
  have HGN:=hid hgn;have HHW:=hid hw;have HBV:=hid hbv;clear HIC g r i d e hbv hin hal hri pb lb hw hgn;go_enter Tryz.func247,Tryz.ntmps247
  go_wp2_with fail
  (refine wp_region_quiet_below (by kernel_rfl) (by kernel_rfl) ?_;(repeat(first|go_big_quiet_step (first|exact QG.out _ _|exact QR.out _ _|exact QA.out _ _|exact QI.out _ _|exact QL.out _ _|exact QS1.out _ _|exact QS2.out _ _)|quiet_step (first|exact QG.out _ _|exact QR.out _ _|exact QA.out _ _|exact QI.out _ _|exact QL.out _ _|exact QS1.out _ _|exact QS2.out _ _)));refine wpQuiet_nil ?_)
  rintro _ ⟨⟨dq,osq⟩,rfl⟩;have b5:=below_regrown ((w.alloc (.cells #[int i64 s.g,int i64 s.c,int i64 s.data,int i64 s.p,int i64 s.rows,int i64 s.cap,int i64 s.b,int i64 s.q,int i64 s.t] 31)).alloc (.cells #[int i64 x.kind,int i64 x.seq,.string x.name,int i64 x.length,int i64 x.group,int i64 x.row,.slice A0 nR c0,.slice A1 nD c1,.slice (some ad) nE c2] 119)) dq osq;generalize grow (redrawn ((w.alloc (.cells #[int i64 s.g,int i64 s.c,int i64 s.data,int i64 s.p,int i64 s.rows,int i64 s.cap,int i64 s.b,int i64 s.q,int i64 s.t] 31)).alloc (.cells #[int i64 x.kind,int i64 x.seq,.string x.name,int i64 x.length,int i64 x.group,int i64 x.row,.slice A0 nR c0,.slice A1 nD c1,.slice (some ad) nE c2] 119)) dq) osq=w5 at b5;have S5:=HS.out.below b5;have R5:=HRC.out.below b5;have B5:=hid (HB.out.trans (b5.mono HB.out.size));have x54:=R5.c4;have x56:=R5.c6;have x58:=R5.c8;have lr5:=R5.lt;have ls5:=S5.lt;have HR5:=hid R5;clear b5 S5 R5;clear t4 t5 t6 t7 t8 u0 u1 u2 u3 u4 u5 u6 u7 u8 QG QR QA QI QL QS1 QS2;rw[HGN.out]at x54;have pb5:=(B5.out.cell (p:=ad.add gn) HLB.out).trans HPB.out;have lb5:=Nat.lt_of_lt_of_le HLB.out B5.out.size;by_cases q:bb=0
  ·have q1:=Kw q;have hbq:b=x.rows.all (BN x):=by rw[HBV.out,HHW.out,q];rfl
   have HBQ:=hid hbq;have HCF:=hid (IT (fun k => !BN x k) 287 #[.pointer (some ⟨w.heap.size+1,0,none⟩)] _ x.rows f0 w5 (enters_of Tryz.func287 (by kernel_rfl) rfl) (rSl.below Al.local_ Al.fixed H0.out B5.out)
    (fun W u fk j hj hW hR => by
     obtain⟨-,hu,-⟩:=hR;injection hu with hu
     subst hu;obtain⟨k0,k1⟩:=HRISE.out _ (List.getElem_mem hj);exact I2 x _ nE c2 f2 (w.heap.size+1) _ W k0 k1 (AM.below H2.out (B5.out.trans (hW.mono B5.out.size))) (HR5.out.below hW).c8 (HR5.out.below hW).lt))
   obtain⟨av,hav⟩:∃av,x.rows.any (fun k => !BN x k)=av:=⟨_,rfl⟩;rw[hav]at HCF;have hbn:b= !av:=by
    rw[hbq,← hav,← List.not_all_eq_any_not];simp
   clear q hbq hav;cases av with
   |true =>
    obtain rfl:b=false:=hbn;go_wp2_with (go_at_call 286;refine HCF.out.mono ?_;rintro e w6 ⟨rfl,b6⟩;have B6:=hid b6;clear b6)
    go_ret
    exact⟨rfl,B5.out.trans (B6.out.mono B5.out.size)⟩
   |false =>
    obtain rfl:b=true:=hbn;go_wp2_with (go_at_call 286;refine HCF.out.mono ?_;rintro e w6 ⟨rfl,b6⟩;have B6:=hid b6;clear b6)
    go_ret
    exact⟨rfl,B5.out.trans (B6.out.mono B5.out.size)⟩
  ·have q1:=Kx q;obtain rfl:b=false:=by rw[HBV.out,HHW.out,decide_eq_true q];rfl
   clear q;go_wp2_with fail
   go_ret
   exact⟨rfl,B5.out⟩
theorem Je {l:List Int} {q:Int→Bool} {k:Nat}(h:(l.take k).all q=true)(hk:k<l.length)(hq:q l[k] =true):(l.take (k+1)).all q=true:=by
 rw[List.take_succ_eq_append_getElem hk,List.all_append,h];simp[hq]
theorem all_bad {l:List Int} {q:Int→Bool} {k:Nat}(hk:k<l.length)(hq:q l[k] =false):l.all q=false:=by
 rw[← Bool.not_eq_true,List.all_eq_true];intro h;rw[h _ (List.getElem_mem hk)]at hq;cases hq
theorem J7(s:Sh)(hs:s.Ok)(x:Ag)(cs:List Value)(f:List Addr)(w:World)(h:Ac w f cs x)(hg:Aj x.group 0 (s.g+s.c - 1)=true)(hi:Ch x.rows (s.g+s.c - 1)=true) :
  Calls Tryz.prog 150 #[shV s,.agg cs.toArray] w fun e w' => e= .returned (.bool (decide ((x.delta.length:Int)=s.g+s.c) && (!BN x x.group && x.rows.all (BN x))))∧Below w.heap.size w w':=by
 dsimp only[Ac]at h;obtain⟨v0,v1,v2,f0,f1,f2,rfl,rfl,o0,o1,o2,o3,o4,o5,h0,h1,h2⟩:=h;obtain⟨A0,c0,rfl,k0,m0⟩:=rSl.head h0;obtain⟨A1,c1,rfl,k1,m1⟩:=rSl.head h1;obtain⟨A2,c2,rfl,k2,m2⟩:=rSl.head h2;have H0:=hid h0;have H1:=hid h1;have H2:=hid h2;obtain⟨nR,hnR⟩:∃nR,x.rows.length=nR:=⟨_,rfl⟩;obtain⟨nD,hnD⟩:∃nD,x.data.length=nD:=⟨_,rfl⟩;obtain⟨nE,hnE⟩:∃nE,x.delta.length=nE:=⟨_,rfl⟩;have HNR:=hid hnR;have HND:=hid hnD;have HNE:=hid hnE;rw[hnR]at H0 k0⊢;rw[hnD]at H1 k1⊢;rw[hnE]at H2 k2⊢;have K1:=(Blk.new w 31 #[int i64 s.g,int i64 s.c,int i64 s.data,int i64 s.p,int i64 s.rows,int i64 s.cap,int i64 s.b,int i64 s.q,int i64 s.t]).alloc (.cells #[int i64 x.kind,int i64 x.seq,.string x.name,int i64 x.length,int i64 x.group,int i64 x.row,.slice A0 nR c0,.slice A1 nD c1,.slice A2 nE c2] 119);have K2:=Blk.new1 w (.cells #[int i64 s.g,int i64 s.c,int i64 s.data,int i64 s.p,int i64 s.rows,int i64 s.cap,int i64 s.b,int i64 s.q,int i64 s.t] 31) 119 #[int i64 x.kind,int i64 x.seq,.string x.name,int i64 x.length,int i64 x.group,int i64 x.row,.slice A0 nR c0,.slice A1 nD c1,.slice A2 nE c2];have hB:Below w.heap.size w ((w.alloc (.cells #[int i64 s.g,int i64 s.c,int i64 s.data,int i64 s.p,int i64 s.rows,int i64 s.cap,int i64 s.b,int i64 s.q,int i64 s.t] 31)).alloc (.cells #[int i64 x.kind,int i64 x.seq,.string x.name,int i64 x.length,int i64 x.group,int i64 x.row,.slice A0 nR c0,.slice A1 nD c1,.slice A2 nE c2] 119)):=((Below.refl _ _).alloc (Nat.le_refl _) _).alloc (by simp) _;have HB:=hid hB;have S2:=BF.of K1;have R2:=CH.of K2;have HS:=hid S2;have HRC:=hid R2;clear h0 h1 h2 hnR hnD hnE K1 K2 hB;obtain⟨d3,d4⟩:=hs.g;obtain⟨d5,d6⟩:=hs.c;obtain⟨al,hal⟩:∃al,s.g+s.c=al:=⟨_,rfl⟩;rw[hal]at hg hi⊢;have HAL:=hid (show 1≤al∧al≤6 by omega);have QA:=hid (AF (w:=((w.alloc (.cells #[int i64 s.g,int i64 s.c,int i64 s.data,int i64 s.p,int i64 s.rows,int i64 s.cap,int i64 s.b,int i64 s.q,int i64 s.t] 31)).alloc (.cells #[int i64 x.kind,int i64 x.seq,.string x.name,int i64 x.length,int i64 x.group,int i64 x.row,.slice A0 nR c0,.slice A1 nD c1,.slice A2 nE c2] 119))) (fun W _ => Dz s hs W));unfold shV at QA⊢;rw[hal]at QA;have t4:=cell_regrown HRC.out.c4;have t8:=cell_regrown HRC.out.c8;have u0:=cell_regrown HS.out.c0;have u1:=cell_regrown HS.out.c1;have u2:=cell_regrown HS.out.c2;have u3:=cell_regrown HS.out.c3;have u4:=cell_regrown HS.out.c4;have u5:=cell_regrown HS.out.c5;have u6:=cell_regrown HS.out.c6;have u7:=cell_regrown HS.out.c7;have u8:=cell_regrown HS.out.c8;have lr:=HRC.out.lt;have ls:=HS.out.lt;have HG:=hid hg;have HI:=hid hi;clear hal d3 d4 d5 d6 hs hg hi;by_cases e:(nE:Int)=al
 case neg =>
  have e':((nE:Int) != al)=true:=by simpa using e
  rw[decide_eq_false e];clear e;go_enter Tryz.func150,Tryz.ntmps150
  go_wp2_with fail
  (refine wp_region_quiet_below (by kernel_rfl) (by kernel_rfl) ?_;(repeat(first|go_big_quiet_step (first|exact QA.out _ _)|quiet_step (first|exact QA.out _ _)));refine wpQuiet_nil ?_)
  rintro _ ⟨⟨dq,osq⟩,rfl⟩;have b5:=below_regrown ((w.alloc (.cells #[int i64 s.g,int i64 s.c,int i64 s.data,int i64 s.p,int i64 s.rows,int i64 s.cap,int i64 s.b,int i64 s.q,int i64 s.t] 31)).alloc (.cells #[int i64 x.kind,int i64 x.seq,.string x.name,int i64 x.length,int i64 x.group,int i64 x.row,.slice A0 nR c0,.slice A1 nD c1,.slice A2 nE c2] 119)) dq osq;generalize grow (redrawn ((w.alloc (.cells #[int i64 s.g,int i64 s.c,int i64 s.data,int i64 s.p,int i64 s.rows,int i64 s.cap,int i64 s.b,int i64 s.q,int i64 s.t] 31)).alloc (.cells #[int i64 x.kind,int i64 x.seq,.string x.name,int i64 x.length,int i64 x.group,int i64 x.row,.slice A0 nR c0,.slice A1 nD c1,.slice A2 nE c2] 119)) dq) osq=w5 at b5;have S5:=HS.out.below b5;have R5:=HRC.out.below b5;have B5:=hid (HB.out.trans (b5.mono HB.out.size));have x54:=R5.c4;have x56:=R5.c6;have x58:=R5.c8;have lr5:=R5.lt;have ls5:=S5.lt;have HR5:=hid R5;clear b5 S5 R5;clear t4 t8 u0 u1 u2 u3 u4 u5 u6 u7 u8 QA;go_wp2_with fail
  go_ret
  exact⟨rfl,B5.out⟩
 have e':((nE:Int) != al)=false:=by rw[bne_eq_false_iff_eq];exact e
 rw[decide_eq_true e,Bool.true_and];have hin:=Bn HG.out;have hal:=HAL.out;obtain⟨ad,bb,ea,lb,pb,hw⟩:=FG H2.out hin.1 (show x.group<(nE:Int) by omega);subst ea;obtain⟨gn,hgn⟩:=Int.eq_ofNat_of_zero_le hin.1;have hgn0:(0:Int)≤x.group:=hin.1;have hgn1:x.group<(nE:Int):=by omega
 have pbr:=cell_regrown ((HB.out.cell (p:=ad.add x.group.toNat) lb).trans pb);have HPB:=hid pb;have HLB:=hid lb;have HRISE:=hid (show∀k,k∈x.rows→0≤k∧k<(nE:Int)from fun k hk => by
  obtain⟨j,hj,rfl⟩:=List.getElem_of_mem hk;have h1:DS x.rows (al - 1) x.rows.length:=by have:=HI.out;unfold Ch at this;exact of_decide_eq_true this
  have:=Bn (h1 j hj hj).1;omega)
 rw[hw];clear e pb lb hw hgn hin hal;by_cases q:bb=0
 case neg =>
  have q1:=Kx q;rw[show(!decide (bb≠0))=false by rw[decide_eq_true q];rfl];clear q;go_enter Tryz.func150,Tryz.ntmps150
  go_wp2_with fail
  (refine wp_region_quiet_below (by kernel_rfl) (by kernel_rfl) ?_;(repeat(first|go_big_quiet_step (first|exact QA.out _ _)|quiet_step (first|exact QA.out _ _)));refine wpQuiet_nil ?_)
  rintro _ ⟨⟨dq,osq⟩,rfl⟩;have b5:=below_regrown ((w.alloc (.cells #[int i64 s.g,int i64 s.c,int i64 s.data,int i64 s.p,int i64 s.rows,int i64 s.cap,int i64 s.b,int i64 s.q,int i64 s.t] 31)).alloc (.cells #[int i64 x.kind,int i64 x.seq,.string x.name,int i64 x.length,int i64 x.group,int i64 x.row,.slice A0 nR c0,.slice A1 nD c1,.slice (some ad) nE c2] 119)) dq osq;generalize grow (redrawn ((w.alloc (.cells #[int i64 s.g,int i64 s.c,int i64 s.data,int i64 s.p,int i64 s.rows,int i64 s.cap,int i64 s.b,int i64 s.q,int i64 s.t] 31)).alloc (.cells #[int i64 x.kind,int i64 x.seq,.string x.name,int i64 x.length,int i64 x.group,int i64 x.row,.slice A0 nR c0,.slice A1 nD c1,.slice (some ad) nE c2] 119)) dq) osq=w5 at b5;have S5:=HS.out.below b5;have R5:=HRC.out.below b5;have B5:=hid (HB.out.trans (b5.mono HB.out.size));have x54:=R5.c4;have x56:=R5.c6;have x58:=R5.c8;have lr5:=R5.lt;have ls5:=S5.lt;have HR5:=hid R5;clear b5 S5 R5;clear t4 t8 u0 u1 u2 u3 u4 u5 u6 u7 u8 QA pbr;go_wp2_with fail
  go_ret
  exact⟨rfl,B5.out⟩
 have q1:=Kw q;rw[show(!decide (bb≠0))=true by rw[q];rfl,Bool.true_and];obtain⟨r,hr⟩:∃r,x.rows.all (BN x)=r:=⟨_,rfl⟩;rw[hr];have HRR:=hid hr;clear q hr;go_enter Tryz.func150,Tryz.ntmps150
 go_wp2_with fail
 (refine wp_region_quiet_below (by kernel_rfl) (by kernel_rfl) ?_;(repeat(first|go_big_quiet_step (first|exact QA.out _ _)|quiet_step (first|exact QA.out _ _)));refine wpQuiet_nil ?_)
 rintro _ ⟨⟨dq,osq⟩,rfl⟩;have b5:=below_regrown ((w.alloc (.cells #[int i64 s.g,int i64 s.c,int i64 s.data,int i64 s.p,int i64 s.rows,int i64 s.cap,int i64 s.b,int i64 s.q,int i64 s.t] 31)).alloc (.cells #[int i64 x.kind,int i64 x.seq,.string x.name,int i64 x.length,int i64 x.group,int i64 x.row,.slice A0 nR c0,.slice A1 nD c1,.slice (some ad) nE c2] 119)) dq osq;generalize grow (redrawn ((w.alloc (.cells #[int i64 s.g,int i64 s.c,int i64 s.data,int i64 s.p,int i64 s.rows,int i64 s.cap,int i64 s.b,int i64 s.q,int i64 s.t] 31)).alloc (.cells #[int i64 x.kind,int i64 x.seq,.string x.name,int i64 x.length,int i64 x.group,int i64 x.row,.slice A0 nR c0,.slice A1 nD c1,.slice (some ad) nE c2] 119)) dq) osq=w5 at b5;have S5:=HS.out.below b5;have R5:=HRC.out.below b5;have B5:=hid (HB.out.trans (b5.mono HB.out.size));have x54:=R5.c4;have x56:=R5.c6;have x58:=R5.c8;have lr5:=R5.lt;have ls5:=S5.lt;have HR5:=hid R5;clear b5 S5 R5;clear t4 t8 u0 u1 u2 u3 u4 u5 u6 u7 u8 QA pbr hgn0 hgn1;go_wp2_with fail
 obtain⟨Aq,cq,eq,-,-,hx⟩:=Bg.open_ H0.out;rw[HNR.out]at eq;injection eq with eq1 _ eq3
 subst eq1 eq3;have HX:=hid hx;clear hx;go_loopw [5] (fun i wr =>∃k:Nat,k≤nR∧i= int i64 k∧Hid ((x.rows.take k).all (BN x)=true)∧Hid (Below w5.heap.size w5 wr)) (fun i _ => nR - (intOf i).toNat)
 case atStart => exact⟨0,by omega,rfl,(show _=_ by simp),Below.refl _ _⟩
 case round =>
  obtain⟨k,hk,rfl,HT,HBW⟩:=hrel;have HBA:=hid (B5.out.trans (HBW.out.mono B5.out.size));have RW:=HR5.out.below HBW.out;have z6:=RW.c6;have z6r:=cell_regrown z6;have z8r:=cell_regrown RW.c8;have lrw:=RW.lt;clear RW;by_cases hlt:k<nR
  ·have hk1:k<x.rows.length:=by rw[HNR.out];exact hlt
   obtain⟨ad3,e1,-,b1,p1,-⟩:=HX.out k hk1;subst e1;have p1':=cell_regrown ((HBA.out.cell (p:=ad3.add k) b1).trans p1);have hki:(k:Int)<(nR:Int):=by omega
   obtain⟨k0,k1⟩:=HRISE.out _ (List.getElem_mem hk1);obtain⟨ad4,b4,ea,l4,p4,hw4⟩:=FG H2.out k0 k1;injection ea with ea
   subst ea;have p4':=cell_regrown ((HBA.out.cell (p:=ad.add (x.rows[k]'hk1).toNat) l4).trans p4);obtain⟨xk,hxk⟩:∃xk,x.rows[k] =xk:=⟨_,rfl⟩;rw[hxk]at p1' p4' k0 k1;by_cases q4:b4=0
   ·have q5:=Ib q4;have e1:r=false:=HRR.out.symm.trans (all_bad hk1 (by rw[hw4,q4];rfl));subst e1;clear p1 b1 hxk hk1 p4 l4 hw4 q4;go_wp2_with fail
    (refine wp_region_quiet_below (by kernel_rfl) (by kernel_rfl) ?_;(repeat(first|go_big_quiet_step (fail)|quiet_step (fail)));refine wpQuiet_nil ?_)
    rintro _ ⟨⟨dq,osq⟩,rfl⟩;have HB6:=hid (HBA.out.trans ((below_regrown wr dq osq).mono HBA.out.size));go_wp2_with fail
    go_ret
    exact⟨rfl,HB6.out⟩
   ·have q5:=Ia q4;have HT2:=hid (Je HT.out hk1 (by rw[hw4];exact decide_eq_true q4));clear p1 b1 hxk hk1 p4 l4 hw4 q4;go_wp2_with fail
    (refine wp_region_quiet_below (by kernel_rfl) (by kernel_rfl) ?_;(repeat(first|go_big_quiet_step (fail)|quiet_step (fail)));refine wpQuiet_nil ?_)
    rintro _ ⟨⟨dq,osq⟩,rfl⟩;have HB6:=hid (HBW.out.trans ((below_regrown wr dq osq).mono HBW.out.size));go_wp2_with fail
    go_roundw
    case rel => exact⟨k+1,by omega,by go_num,HT2.out,HB6.out⟩
    case measure => simp[intOf];omega
  ·obtain rfl:k=nR:=by omega
   have e1:r=true:=by
    have:=HT.out;rw[List.take_of_length_le (by rw[HNR.out];exact Nat.le_refl _)]at this;exact HRR.out.symm.trans this
   subst e1;go_wp2_with fail
   go_ret
   exact⟨rfl,HBA.out⟩
end Go.Proofs.YtfjkoifpdoemdaaGreat
