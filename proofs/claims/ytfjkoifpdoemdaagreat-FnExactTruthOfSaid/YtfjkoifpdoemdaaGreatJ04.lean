/- Part 4 of the proof. -/
import Derived.Test.YtfjkoifpdoemdaaGreatJ01
import Derived.Test.YtfjkoifpdoemdaaGreatJ02
set_option maxHeartbeats 8000000
set_option maxRecDepth 100000
set_option linter.unusedVariables false
set_option linter.unusedSimpArgs false
open Go.Proofs.Tryz
open Go.Value (int)
open Go.IntKind (i64)
namespace Go.Proofs.YtfjkoifpdoemdaaGreat
open Go.RowKit Go.Sort
def CJ(left:Int)(n:Nat):Int:=if left<(n:Int)then -1 else left - (n:Int)
theorem Bd {left:Int} {n:Nat}(h:left<(n:Int)):CJ left n= -1:=by unfold CJ;rw[aL h]
theorem Bu {left:Int} {n:Nat}(h:¬left<(n:Int)):CJ left n=left - (n:Int):=by unfold CJ;rw[aI h]
def C8 {α:Type}(f:α→Nat)(l:List α)(k:Nat):Nat:=((l.take k).map f).sum
def AP {α:Type}(f:α→Nat)(l:List α):Nat:=l.length+(l.map f).sum
theorem EM {α:Type}(f:α→Nat) {l:List α} {k:Nat}(h:k<l.length):C8 f l (k+1)=C8 f l k+f l[k]:=by
 unfold C8;rw[aM h,List.map_append,List.sum_append];simp only[List.map_cons,List.map_nil,List.sum_cons,List.sum_nil,bE]
theorem FN {α:Type}(f:α→Nat)(l:List α)(k:Nat):C8 f l k≤(l.map f).sum:=by
 unfold C8;conv => rhs;rw[← List.take_append_drop k l]
 rw[List.map_append,List.sum_append];omega
theorem F3 {α:Type}(f:α→Nat) {l:List α} {k:Nat}(h:k<l.length):f l[k] +1≤AP f l:=by
 have h1:=EM f h;have h2:=FN f l (k+1);unfold AP;omega
def Ce(b:Bt):Nat:=b.bytes.length
def Cf(d:AL):Nat:=AP Ce d.blocks
def BO(g:List AL):Nat:=AP Cf g
def BU(r:Ah):Nat:=r.name.size+r.rows.length+r.data.length+r.delta.length
def Cr(t:AS):Nat:=AP BU t.recs
def Dd(d:Am):Nat:=AP BO d.g+d.on.length+AP Cr d.v
theorem IA(v:Value)(xs:List Int)(fs:List Addr)(w:World)(left:Int)(h1:AO w fs v xs)(hl:0≤left)(hl2:left≤1048576) :
  Calls prog 32 #[v,int i64 left] w fun e w' => e= .returned (int i64 (CJ left xs.length))∧w=w':=by
 obtain⟨A1,c1,rfl,hc1,hm1,-⟩:=AO.open_ h1;clear h1;by_cases h:left<(xs.length:Int)
 ·have hlt:left - (xs.length:Int)<0:=by omega
  rw[Bd h];go_enter func32,ntmps32
  go_wp2
  go_ret
  exact⟨rfl,rfl⟩
 ·have hlt:¬left - (xs.length:Int)<0:=by omega
  rw[Bu h];go_enter func32,ntmps32
  go_wp2
  go_ret
  exact⟨rfl,rfl⟩
theorem Jl(v:Value)(xs:List UInt8)(fs:List Addr)(w:World)(left:Int)(h1:Ag w fs v xs)(hl:0≤left)(hl2:left≤1048576) :
  Calls prog 263 #[v,int i64 left] w fun e w' => e= .returned (int i64 (CJ left xs.length))∧w=w':=Rv v xs fs w left h1 (by omega) hl2
theorem Ru(d:Bt)(cs:List Value)(f:List Addr)(w:World)(left:Int)(h1:AE w f cs d)(hl:0≤left)(hl2:left≤1048576) :
  Calls prog 281 #[.agg cs.toArray,int i64 left] w fun e w' => e= .returned (int i64 (CJ left (Ce d)))∧Below w.heap.size w w':=by
 dsimp only[AE]at h1;obtain⟨v0,f0,e,-,-,h⟩:=h1;subst e;have B1:Below w.heap.size w (w.alloc (.cells #[int i64 d.stamp,v0] 304)):=(aB _ _).alloc (aC _) _;have HC:=U (Jl v0 d.bytes f0 (w.alloc (.cells #[int i64 d.stamp,v0] 304)) left (rSl.below Ai.local_ Ai.fixed h B1) hl hl2);obtain⟨A0,c0,rfl,-⟩:=rSl.head h;have HB:=U B1;have e0:Ce d=d.bytes.length:=rfl;rw[e0];clear e0 h B1;by_cases h4:left<(d.bytes.length:Int)
 ·rw[Bd h4]at HC⊢;go_enter func281,ntmps281
  go_wp2_with (go_at_call 263;refine HC.o.mono ?_;rintro e w1 ⟨rfl,rfl⟩;have HB2:=HB)
  go_ret
  exact⟨rfl,HB2.o⟩
 ·rw[Bu h4]at HC⊢;have h5:¬left - (d.bytes.length:Int)<0:=by omega
  go_enter func281,ntmps281
  go_wp2_with (go_at_call 263;refine HC.o.mono ?_;rintro e w1 ⟨rfl,rfl⟩;have HB2:=HB)
  go_ret
  exact⟨rfl,HB2.o⟩
theorem PN(v:Value)(ds:List Bt)(fs:List Addr)(w:World)(left:Int)(h1:rSl 2 AE w fs v ds)(hl:0≤left)(hl2:left≤1048576) :
  Calls prog 232 #[v,int i64 left] w fun e w' => e= .returned (int i64 (CJ left (AP Ce ds)))∧Below w.heap.size w w':=by
 obtain⟨A1,c1,rfl,hc1,hm1,hx⟩:=rSl.at_ AE.fixed (by decide) h1;clear h1;obtain⟨r,hr⟩:∃r,CJ left (AP Ce ds)=r:=⟨_,rfl⟩;rw[hr];have HR:=U hr;clear hr;by_cases h:left<ds.length
 ·have hlt:left - (ds.length:Int)<0:=by omega
  have e1:r= -1:=by rw[← HR.o];exact Bd (by unfold AP;omega)
  subst e1;clear hx;go_enter func232,ntmps232
  go_wp2_with fail
  go_ret
  exact⟨rfl,aB _ _⟩
 ·have hlt:¬left - (ds.length:Int)<0:=by omega
  have HX:=U hx;clear hx;go_enter func232,ntmps232
  go_wp2_with fail
  go_loopw [1,4,5] (fun l r i wr =>∃(j t:Nat),j≤ds.length∧Hid (t=C8 Ce ds j)∧(t:Int)≤left - (ds.length:Int)∧i= int i64 j∧r= int i64 0∧l= int i64 (left - (ds.length:Int) - (t:Int))∧Hid (Below w.heap.size w wr)) (fun _ _ i _ => ds.length - (intOf i).toNat)
  case atStart => exact⟨0,0,by omega,(show 0=_ by simp[C8]),by omega,rfl,rfl,by simp,aB _ _⟩
  case round =>
   obtain⟨j,t,hj,HT,htl,rfl,rfl,rfl,HB⟩:=hrel;by_cases hlt2:j<ds.length
   ·obtain⟨ad,b,o,cs,fk,e1,hat⟩:=HX.o j hlt2;subst e1;have hat2:=hat.below AE.local_ HB.o;have hpl:=hat.place;have hbl:=hat2.lt;have HRG:=U (show wr.rangeAt b o cs from fun q v hq => by
     have hq1:q<cs.length:=(List.getElem?_eq_some_iff.1 hq).1;rw[hat2.cell q hq1,← hq];exact(aO hq1).symm)
    have HI:=U (show(prog.info? 304).map (·.size)=some cs.length by rw[hat2.len];kernel_rfl);have HC:=U (Ru ds[j] cs fk wr (left - (ds.length:Int) - (t:Int)) hat2.reads (by omega) (by omega));have hst:=EM Ce hlt2;rw[← HT.o]at hst;have HST:=U hst;have hle:=FN Ce ds (j+1);have HLE:=U hle;clear hat hat2 hst hle HX;obtain⟨m,hm⟩:∃m,Ce ds[j] =m:=⟨_,rfl⟩;rw[hm]at HC HST;clear hm;by_cases h4:left - (ds.length:Int) - (t:Int)<(m:Int)
    ·rw[Bd h4]at HC;have e1:r= -1:=by rw[← HR.o];exact Bd (by unfold AP;have:=HST.o;have:=HLE.o;omega)
     subst e1;go_wp2_with (first
      |(refine aD rfl 304 _ rfl b o rfl cs _ HRG.o underlying304 rfl HI.o ?_)
      |(go_at_call 281;refine HC.o.mono ?_;rintro e w1 ⟨rfl,hb1⟩;have B1:=U (HB.o.trans (hb1.mono HB.o.size));clear hb1))
     go_ret
     exact⟨rfl,B1.o⟩
    ·rw[Bu h4]at HC;have h5:¬left - (ds.length:Int) - (t:Int) - (m:Int)<0:=by omega
     have H4:=U h4;have HE:=U (show left - (ds.length:Int) - (t:Int) - (m:Int)=left - (ds.length:Int) - ((t+m:Nat):Int) by omega);clear h4;go_wp2_with (first
      |(refine aD rfl 304 _ rfl b o rfl cs _ HRG.o underlying304 rfl HI.o ?_)
      |(go_at_call 281;refine HC.o.mono ?_;rintro e w1 ⟨rfl,hb1⟩;have B1:=U (HB.o.trans (hb1.mono HB.o.size));clear hb1))
     go_roundw
     case rel => exact⟨j+1,t+m,by omega,HST.o.symm,by have:=H4.o;omega,by go_num,rfl,by rw[HE.o],B1.o⟩
     case measure => simp[intOf];omega
   ·have e1:t=(ds.map Ce).sum:=by rw[HT.o];unfold C8;rw[bK (by omega)]
    have e2:r=left - (ds.length:Int) - (t:Int):=by rw[← HR.o,Bu (by unfold AP;omega)];unfold AP;omega
    subst e2;clear HR e1 HX HT;go_wp2_with fail
    go_ret
    exact⟨rfl,HB.o⟩
theorem Rw(d:AL)(cs:List Value)(f:List Addr)(w:World)(left:Int)(h1:Ak w f cs d)(hl:0≤left)(hl2:left≤1048576) :
  Calls prog 142 #[.agg cs.toArray,int i64 left] w fun e w' => e= .returned (int i64 (CJ left (Cf d)))∧Below w.heap.size w w':=by
 dsimp only[Ak]at h1;obtain⟨v0,f0,e,-,h⟩:=h1;subst e;have B1:Below w.heap.size w (w.alloc (.cells #[.bool d.wiped,v0] 190)):=(aB _ _).alloc (aC _) _;have HC:=U (PN v0 d.blocks f0 (w.alloc (.cells #[.bool d.wiped,v0] 190)) left (rSl.below AE.local_ AE.fixed h B1) hl hl2);obtain⟨A0,c0,rfl,-⟩:=rSl.head h;have HB:=U B1;have e0:Cf d=AP Ce d.blocks:=rfl;rw[e0];clear e0 h B1;obtain⟨m,hm⟩:∃m,AP Ce d.blocks=m:=⟨_,rfl⟩;rw[hm]at HC⊢;clear hm;by_cases h4:left<(m:Int)
 ·rw[Bd h4]at HC⊢;go_enter func142,ntmps142
  go_wp2_with (go_at_call 232;refine HC.o.mono ?_;rintro e w1 ⟨rfl,hb⟩;have HB2:=U (HB.o.trans (hb.mono HB.o.size));clear hb)
  go_ret
  exact⟨rfl,HB2.o⟩
 ·rw[Bu h4]at HC⊢;have h5:¬left - (m:Int)<0:=by omega
  go_enter func142,ntmps142
  go_wp2_with (go_at_call 232;refine HC.o.mono ?_;rintro e w1 ⟨rfl,hb⟩;have HB2:=U (HB.o.trans (hb.mono HB.o.size));clear hb)
  go_ret
  exact⟨rfl,HB2.o⟩
theorem PO(v:Value)(ds:List AL)(fs:List Addr)(w:World)(left:Int)(h1:rSl 2 Ak w fs v ds)(hl:0≤left)(hl2:left≤1048576) :
  Calls prog 80 #[v,int i64 left] w fun e w' => e= .returned (int i64 (CJ left (AP Cf ds)))∧Below w.heap.size w w':=by
 obtain⟨A1,c1,rfl,hc1,hm1,hx⟩:=rSl.at_ Ak.fixed (by decide) h1;clear h1;obtain⟨r,hr⟩:∃r,CJ left (AP Cf ds)=r:=⟨_,rfl⟩;rw[hr];have HR:=U hr;clear hr;by_cases h:left<ds.length
 ·have hlt:left - (ds.length:Int)<0:=by omega
  have e1:r= -1:=by rw[← HR.o];exact Bd (by unfold AP;omega)
  subst e1;clear hx;go_enter func80,ntmps80
  go_wp2_with fail
  go_ret
  exact⟨rfl,aB _ _⟩
 ·have hlt:¬left - (ds.length:Int)<0:=by omega
  have HX:=U hx;clear hx;go_enter func80,ntmps80
  go_wp2_with fail
  go_loopw [1,4,5] (fun l r i wr =>∃(j t:Nat),j≤ds.length∧Hid (t=C8 Cf ds j)∧(t:Int)≤left - (ds.length:Int)∧i= int i64 j∧r= int i64 0∧l= int i64 (left - (ds.length:Int) - (t:Int))∧Hid (Below w.heap.size w wr)) (fun _ _ i _ => ds.length - (intOf i).toNat)
  case atStart => exact⟨0,0,by omega,(show 0=_ by simp[C8]),by omega,rfl,rfl,by simp,aB _ _⟩
  case round =>
   obtain⟨j,t,hj,HT,htl,rfl,rfl,rfl,HB⟩:=hrel;by_cases hlt2:j<ds.length
   ·obtain⟨ad,b,o,cs,fk,e1,hat⟩:=HX.o j hlt2;subst e1;have hat2:=hat.below Ak.local_ HB.o;have hpl:=hat.place;have hbl:=hat2.lt;have HRG:=U (show wr.rangeAt b o cs from fun q v hq => by
     have hq1:q<cs.length:=(List.getElem?_eq_some_iff.1 hq).1;rw[hat2.cell q hq1,← hq];exact(aO hq1).symm)
    have HI:=U (show(prog.info? 190).map (·.size)=some cs.length by rw[hat2.len];kernel_rfl);have HC:=U (Rw ds[j] cs fk wr (left - (ds.length:Int) - (t:Int)) hat2.reads (by omega) (by omega));have hst:=EM Cf hlt2;rw[← HT.o]at hst;have HST:=U hst;have hle:=FN Cf ds (j+1);have HLE:=U hle;clear hat hat2 hst hle HX;obtain⟨m,hm⟩:∃m,Cf ds[j] =m:=⟨_,rfl⟩;rw[hm]at HC HST;clear hm;by_cases h4:left - (ds.length:Int) - (t:Int)<(m:Int)
    ·rw[Bd h4]at HC;have e1:r= -1:=by rw[← HR.o];exact Bd (by unfold AP;have:=HST.o;have:=HLE.o;omega)
     subst e1;go_wp2_with (first
      |(refine aD rfl 190 _ rfl b o rfl cs _ HRG.o underlying190 rfl HI.o ?_)
      |(go_at_call 142;refine HC.o.mono ?_;rintro e w1 ⟨rfl,hb1⟩;have B1:=U (HB.o.trans (hb1.mono HB.o.size));clear hb1))
     go_ret
     exact⟨rfl,B1.o⟩
    ·rw[Bu h4]at HC;have h5:¬left - (ds.length:Int) - (t:Int) - (m:Int)<0:=by omega
     have H4:=U h4;have HE:=U (show left - (ds.length:Int) - (t:Int) - (m:Int)=left - (ds.length:Int) - ((t+m:Nat):Int) by omega);clear h4;go_wp2_with (first
      |(refine aD rfl 190 _ rfl b o rfl cs _ HRG.o underlying190 rfl HI.o ?_)
      |(go_at_call 142;refine HC.o.mono ?_;rintro e w1 ⟨rfl,hb1⟩;have B1:=U (HB.o.trans (hb1.mono HB.o.size));clear hb1))
     go_roundw
     case rel => exact⟨j+1,t+m,by omega,HST.o.symm,by have:=H4.o;omega,by go_num,rfl,by rw[HE.o],B1.o⟩
     case measure => simp[intOf];omega
   ·have e1:t=(ds.map Cf).sum:=by rw[HT.o];unfold C8;rw[bK (by omega)]
    have e2:r=left - (ds.length:Int) - (t:Int):=by rw[← HR.o,Bu (by unfold AP;omega)];unfold AP;omega
    subst e2;clear HR e1 HX HT;go_wp2_with fail
    go_ret
    exact⟨rfl,HB.o⟩
theorem On(v:Value)(ds:List (List AL))(fs:List Addr)(w:World)(left:Int)(h1:rSl 1 (Al 2 Ak) w fs v ds)(hl:0≤left)(hl2:left≤1048576) :
  Calls prog 31 #[v,int i64 left] w fun e w' => e= .returned (int i64 (CJ left (AP BO ds)))∧Below w.heap.size w w':=by
 obtain⟨A1,c1,rfl,hc1,hm1,hx⟩:=rSl.at_ (Al.fixed Ak.fixed) (by decide) h1;clear h1;obtain⟨r,hr⟩:∃r,CJ left (AP BO ds)=r:=⟨_,rfl⟩;rw[hr];have HR:=U hr;clear hr;by_cases h:left<ds.length
 ·have hlt:left - (ds.length:Int)<0:=by omega
  have e1:r= -1:=by rw[← HR.o];exact Bd (by unfold AP;omega)
  subst e1;clear hx;go_enter func31,ntmps31
  go_wp2_with fail
  go_ret
  exact⟨rfl,aB _ _⟩
 ·have hlt:¬left - (ds.length:Int)<0:=by omega
  have HX:=U hx;clear hx;go_enter func31,ntmps31
  go_wp2_with fail
  go_loopw [1,4,5] (fun l r i wr =>∃(j t:Nat),j≤ds.length∧Hid (t=C8 BO ds j)∧(t:Int)≤left - (ds.length:Int)∧i= int i64 j∧r= int i64 0∧l= int i64 (left - (ds.length:Int) - (t:Int))∧Hid (Below w.heap.size w wr)) (fun _ _ i _ => ds.length - (intOf i).toNat)
  case atStart => exact⟨0,0,by omega,(show 0=_ by simp[C8]),by omega,rfl,rfl,by simp,aB _ _⟩
  case round =>
   obtain⟨j,t,hj,HT,htl,rfl,rfl,rfl,HB⟩:=hrel;by_cases hlt2:j<ds.length
   ·obtain⟨ad,b,o,cs,fk,e1,hat⟩:=HX.o j hlt2;subst e1;have hat2:=hat.below (Al.local_ Ak.local_) HB.o;have hpl:=hat.place;have hbl:=hat2.lt;obtain⟨ve,hve,hrd⟩:=hat2.reads;subst hve;obtain⟨Ae,ce,rfl,-⟩:=rSl.head hrd;have hpc:=hat2.cell 0 (by simp);simp only[bE,aU]at hpc;rw[Nat.mul_one]at hpl;have HC:=U (PO _ ds[j] fk wr (left - (ds.length:Int) - (t:Int)) hrd (by omega) (by omega));have hst:=EM BO hlt2;rw[← HT.o]at hst;have HST:=U hst;have hle:=FN BO ds (j+1);have HLE:=U hle;clear hat hat2 hst hle HX hrd;obtain⟨m,hm⟩:∃m,BO ds[j] =m:=⟨_,rfl⟩;have hm2:AP Cf ds[j] =m:=hm;rw[hm2]at HC;rw[hm]at HST;clear hm2;clear hm;by_cases h4:left - (ds.length:Int) - (t:Int)<(m:Int)
    ·rw[Bd h4]at HC;have e1:r= -1:=by rw[← HR.o];exact Bd (by unfold AP;have:=HST.o;have:=HLE.o;omega)
     subst e1;go_wp2_with (first
      |(go_at_call 80;refine HC.o.mono ?_;rintro e w1 ⟨rfl,hb1⟩;have B1:=U (HB.o.trans (hb1.mono HB.o.size));clear hb1))
     go_ret
     exact⟨rfl,B1.o⟩
    ·rw[Bu h4]at HC;have h5:¬left - (ds.length:Int) - (t:Int) - (m:Int)<0:=by omega
     have H4:=U h4;have HE:=U (show left - (ds.length:Int) - (t:Int) - (m:Int)=left - (ds.length:Int) - ((t+m:Nat):Int) by omega);clear h4;go_wp2_with (first
      |(go_at_call 80;refine HC.o.mono ?_;rintro e w1 ⟨rfl,hb1⟩;have B1:=U (HB.o.trans (hb1.mono HB.o.size));clear hb1))
     go_roundw
     case rel => exact⟨j+1,t+m,by omega,HST.o.symm,by have:=H4.o;omega,by go_num,rfl,by rw[HE.o],B1.o⟩
     case measure => simp[intOf];omega
   ·have e1:t=(ds.map BO).sum:=by rw[HT.o];unfold C8;rw[bK (by omega)]
    have e2:r=left - (ds.length:Int) - (t:Int):=by rw[← HR.o,Bu (by unfold AP;omega)];unfold AP;omega
    subst e2;clear HR e1 HX HT;go_wp2_with fail
    go_ret
    exact⟨rfl,HB.o⟩
theorem szRec_c(d:Ah)(cs:List Value)(f:List Addr)(w:World)(left:Int)(h1:Ac w f cs d)(hl:0≤left)(hl2:left≤1048576) :
  Calls prog 233 #[.agg cs.toArray,int i64 left] w fun e w' => e= .returned (int i64 (CJ left (BU d)))∧Below w.heap.size w w':=by
 dsimp only[Ac]at h1;obtain⟨v0,v1,v2,f0,f1,f2,e,-,-,-,hsz,-,-,-,r0,r1,r2⟩:=h1;subst e;have B1:Below w.heap.size w (w.alloc (.cells #[int i64 d.kind,int i64 d.seq,.string d.name,int i64 d.length,int i64 d.group,int i64 d.row,v0,v1,v2] 268)):=(aB _ _).alloc (aC _) _;have HR0:=U (rSl.below Az.local_ Az.fixed r0 B1);have HR1:=U (rSl.below Ai.local_ Ai.fixed r1 B1);have HR2:=U (rSl.below Ai.local_ Ai.fixed r2 B1);obtain⟨A0,c0,rfl,-⟩:=rSl.head r0;obtain⟨A1,c1,rfl,-⟩:=rSl.head r1;obtain⟨A2,c2,rfl,-⟩:=rSl.head r2;have HB:=U B1;obtain⟨r,hr⟩:∃r,CJ left (BU d)=r:=⟨_,rfl⟩;rw[hr];have HR:=U hr;clear hr r0 r1 r2 B1;by_cases qn:left<(d.name.size:Int)
 ·have e1:r= -1:=by rw[← HR.o];exact Bd (by unfold BU;omega)
  subst e1;have ql:left - (d.name.size:Int)<0:=by omega
  go_enter func233,ntmps233
  go_wp2_with fail
  go_ret
  exact⟨rfl,HB.o⟩
 have ql:¬left - (d.name.size:Int)<0:=by omega
 have HC0:=U (IA _ d.rows f0 _ (left - (d.name.size:Int)) HR0.o (by omega) (by omega));by_cases q0:left - (d.name.size:Int)<(d.rows.length:Int)
 ·have e1:r= -1:=by rw[← HR.o];exact Bd (by unfold BU;omega)
  subst e1;rw[Bd q0]at HC0;go_enter func233,ntmps233
  go_wp2_with (go_at_call 32;refine HC0.o.mono ?_;rintro e w' ⟨rfl,rfl⟩)
  go_ret
  exact⟨rfl,HB.o⟩
 have ql0:¬left - (d.name.size:Int) - (d.rows.length:Int)<0:=by omega
 rw[Bu q0]at HC0;have HC1:=U (Jl _ d.data f1 _ (left - (d.name.size:Int) - (d.rows.length:Int)) HR1.o (by omega) (by omega));by_cases q1:left - (d.name.size:Int) - (d.rows.length:Int)<(d.data.length:Int)
 ·have e1:r= -1:=by rw[← HR.o];exact Bd (by unfold BU;omega)
  subst e1;rw[Bd q1]at HC1;go_enter func233,ntmps233
  go_wp2_with (first
   |(go_at_call 32;refine HC0.o.mono ?_;rintro e w' ⟨rfl,rfl⟩)
   |(go_at_call 263;refine HC1.o.mono ?_;rintro e w' ⟨rfl,rfl⟩))
  go_ret
  exact⟨rfl,HB.o⟩
 have ql1:¬left - (d.name.size:Int) - (d.rows.length:Int) - (d.data.length:Int)<0:=by omega
 rw[Bu q1]at HC1;have HC2:=U (Jl _ d.delta f2 _ (left - (d.name.size:Int) - (d.rows.length:Int) - (d.data.length:Int)) HR2.o (by omega) (by omega));by_cases q2:left - (d.name.size:Int) - (d.rows.length:Int) - (d.data.length:Int)<(d.delta.length:Int)
 ·have e1:r= -1:=by rw[← HR.o];exact Bd (by unfold BU;omega)
  subst e1;rw[Bd q2]at HC2;go_enter func233,ntmps233
  go_wp2_with (first
   |(go_at_call 32;refine HC0.o.mono ?_;rintro e w' ⟨rfl,rfl⟩)
   |(go_at_call 263;((with_reducible refine HC1.o.mono ?_);rintro e w' ⟨rfl,rfl⟩))
   |(go_at_call 263;refine HC2.o.mono ?_;rintro e w' ⟨rfl,rfl⟩))
  go_ret
  exact⟨rfl,HB.o⟩
 have ql2:¬left - (d.name.size:Int) - (d.rows.length:Int) - (d.data.length:Int) - (d.delta.length:Int)<0:=by omega
 rw[Bu q2]at HC2;have e1:r=left - (d.name.size:Int) - (d.rows.length:Int) - (d.data.length:Int) - (d.delta.length:Int):=by rw[← HR.o,Bu (by unfold BU;omega)];unfold BU;omega
 subst e1;go_enter func233,ntmps233
 go_wp2_with (first
  |(go_at_call 32;refine HC0.o.mono ?_;rintro e w' ⟨rfl,rfl⟩)
  |(go_at_call 263;((with_reducible refine HC1.o.mono ?_);rintro e w' ⟨rfl,rfl⟩))
  |(go_at_call 263;refine HC2.o.mono ?_;rintro e w' ⟨rfl,rfl⟩))
 go_ret
 exact⟨rfl,HB.o⟩
theorem szRecS_c(v:Value)(ds:List Ah)(fs:List Addr)(w:World)(left:Int)(h1:rSl 9 Ac w fs v ds)(hl:0≤left)(hl2:left≤1048576) :
  Calls prog 143 #[v,int i64 left] w fun e w' => e= .returned (int i64 (CJ left (AP BU ds)))∧Below w.heap.size w w':=by
 obtain⟨A1,c1,rfl,hc1,hm1,hx⟩:=rSl.at_ Ac.fixed (by decide) h1;clear h1;obtain⟨r,hr⟩:∃r,CJ left (AP BU ds)=r:=⟨_,rfl⟩;rw[hr];have HR:=U hr;clear hr;by_cases h:left<ds.length
 ·have hlt:left - (ds.length:Int)<0:=by omega
  have e1:r= -1:=by rw[← HR.o];exact Bd (by unfold AP;omega)
  subst e1;clear hx;go_enter func143,ntmps143
  go_wp2_with fail
  go_ret
  exact⟨rfl,aB _ _⟩
 ·have hlt:¬left - (ds.length:Int)<0:=by omega
  have HX:=U hx;clear hx;go_enter func143,ntmps143
  go_wp2_with fail
  go_loopw [1,4,5] (fun l r i wr =>∃(j t:Nat),j≤ds.length∧Hid (t=C8 BU ds j)∧(t:Int)≤left - (ds.length:Int)∧i= int i64 j∧r= int i64 0∧l= int i64 (left - (ds.length:Int) - (t:Int))∧Hid (Below w.heap.size w wr)) (fun _ _ i _ => ds.length - (intOf i).toNat)
  case atStart => exact⟨0,0,by omega,(show 0=_ by simp[C8]),by omega,rfl,rfl,by simp,aB _ _⟩
  case round =>
   obtain⟨j,t,hj,HT,htl,rfl,rfl,rfl,HB⟩:=hrel;by_cases hlt2:j<ds.length
   ·obtain⟨ad,b,o,cs,fk,e1,hat⟩:=HX.o j hlt2;subst e1;have hat2:=hat.below Ac.local_ HB.o;have hpl:=hat.place;have hbl:=hat2.lt;have HRG:=U (show wr.rangeAt b o cs from fun q v hq => by
     have hq1:q<cs.length:=(List.getElem?_eq_some_iff.1 hq).1;rw[hat2.cell q hq1,← hq];exact(aO hq1).symm)
    have HI:=U (show(prog.info? 268).map (·.size)=some cs.length by rw[hat2.len];kernel_rfl);have HC:=U (szRec_c ds[j] cs fk wr (left - (ds.length:Int) - (t:Int)) hat2.reads (by omega) (by omega));have hst:=EM BU hlt2;rw[← HT.o]at hst;have HST:=U hst;have hle:=FN BU ds (j+1);have HLE:=U hle;clear hat hat2 hst hle HX;obtain⟨m,hm⟩:∃m,BU ds[j] =m:=⟨_,rfl⟩;rw[hm]at HC HST;clear hm;by_cases h4:left - (ds.length:Int) - (t:Int)<(m:Int)
    ·rw[Bd h4]at HC;have e1:r= -1:=by rw[← HR.o];exact Bd (by unfold AP;have:=HST.o;have:=HLE.o;omega)
     subst e1;go_wp2_with (first
      |(refine aD rfl 268 _ rfl b o rfl cs _ HRG.o underlying268 rfl HI.o ?_)
      |(go_at_call 233;refine HC.o.mono ?_;rintro e w1 ⟨rfl,hb1⟩;have B1:=U (HB.o.trans (hb1.mono HB.o.size));clear hb1))
     go_ret
     exact⟨rfl,B1.o⟩
    ·rw[Bu h4]at HC;have h5:¬left - (ds.length:Int) - (t:Int) - (m:Int)<0:=by omega
     have H4:=U h4;have HE:=U (show left - (ds.length:Int) - (t:Int) - (m:Int)=left - (ds.length:Int) - ((t+m:Nat):Int) by omega);clear h4;go_wp2_with (first
      |(refine aD rfl 268 _ rfl b o rfl cs _ HRG.o underlying268 rfl HI.o ?_)
      |(go_at_call 233;refine HC.o.mono ?_;rintro e w1 ⟨rfl,hb1⟩;have B1:=U (HB.o.trans (hb1.mono HB.o.size));clear hb1))
     go_roundw
     case rel => exact⟨j+1,t+m,by omega,HST.o.symm,by have:=H4.o;omega,by go_num,rfl,by rw[HE.o],B1.o⟩
     case measure => simp[intOf];omega
   ·have e1:t=(ds.map BU).sum:=by rw[HT.o];unfold C8;rw[bK (by omega)]
    have e2:r=left - (ds.length:Int) - (t:Int):=by rw[← HR.o,Bu (by unfold AP;omega)];unfold AP;omega
    subst e2;clear HR e1 HX HT;go_wp2_with fail
    go_ret
    exact⟨rfl,HB.o⟩
theorem szTape_c(d:AS)(cs:List Value)(f:List Addr)(w:World)(left:Int)(h1:Ay w f cs d)(hl:0≤left)(hl2:left≤1048576) :
  Calls prog 81 #[.agg cs.toArray,int i64 left] w fun e w' => e= .returned (int i64 (CJ left (Cr d)))∧Below w.heap.size w w':=by
 dsimp only[Ay]at h1;obtain⟨v0,f0,e,-,h⟩:=h1;subst e;have B1:Below w.heap.size w (w.alloc (.cells #[.bool d.wiped,v0] 135)):=(aB _ _).alloc (aC _) _;have HC:=U (szRecS_c v0 d.recs f0 (w.alloc (.cells #[.bool d.wiped,v0] 135)) left (rSl.below Ac.local_ Ac.fixed h B1) hl hl2);obtain⟨A0,c0,rfl,-⟩:=rSl.head h;have HB:=U B1;have e0:Cr d=AP BU d.recs:=rfl;rw[e0];clear e0 h B1;obtain⟨m,hm⟩:∃m,AP BU d.recs=m:=⟨_,rfl⟩;rw[hm]at HC⊢;clear hm;by_cases h4:left<(m:Int)
 ·rw[Bd h4]at HC⊢;go_enter func81,ntmps81
  go_wp2_with (go_at_call 143;refine HC.o.mono ?_;rintro e w1 ⟨rfl,hb⟩;have HB2:=U (HB.o.trans (hb.mono HB.o.size));clear hb)
  go_ret
  exact⟨rfl,HB2.o⟩
 ·rw[Bu h4]at HC⊢;have h5:¬left - (m:Int)<0:=by omega
  go_enter func81,ntmps81
  go_wp2_with (go_at_call 143;refine HC.o.mono ?_;rintro e w1 ⟨rfl,hb⟩;have HB2:=U (HB.o.trans (hb.mono HB.o.size));clear hb)
  go_ret
  exact⟨rfl,HB2.o⟩
theorem Mb(v:Value)(ds:List AS)(fs:List Addr)(w:World)(left:Int)(h1:rSl 2 Ay w fs v ds)(hl:0≤left)(hl2:left≤1048576) :
  Calls prog 33 #[v,int i64 left] w fun e w' => e= .returned (int i64 (CJ left (AP Cr ds)))∧Below w.heap.size w w':=by
 obtain⟨A1,c1,rfl,hc1,hm1,hx⟩:=rSl.at_ Ay.fixed (by decide) h1;clear h1;obtain⟨r,hr⟩:∃r,CJ left (AP Cr ds)=r:=⟨_,rfl⟩;rw[hr];have HR:=U hr;clear hr;by_cases h:left<ds.length
 ·have hlt:left - (ds.length:Int)<0:=by omega
  have e1:r= -1:=by rw[← HR.o];exact Bd (by unfold AP;omega)
  subst e1;clear hx;go_enter func33,ntmps33
  go_wp2_with fail
  go_ret
  exact⟨rfl,aB _ _⟩
 ·have hlt:¬left - (ds.length:Int)<0:=by omega
  have HX:=U hx;clear hx;go_enter func33,ntmps33
  go_wp2_with fail
  go_loopw [1,4,5] (fun l r i wr =>∃(j t:Nat),j≤ds.length∧Hid (t=C8 Cr ds j)∧(t:Int)≤left - (ds.length:Int)∧i= int i64 j∧r= int i64 0∧l= int i64 (left - (ds.length:Int) - (t:Int))∧Hid (Below w.heap.size w wr)) (fun _ _ i _ => ds.length - (intOf i).toNat)
  case atStart => exact⟨0,0,by omega,(show 0=_ by simp[C8]),by omega,rfl,rfl,by simp,aB _ _⟩
  case round =>
   obtain⟨j,t,hj,HT,htl,rfl,rfl,rfl,HB⟩:=hrel;by_cases hlt2:j<ds.length
   ·obtain⟨ad,b,o,cs,fk,e1,hat⟩:=HX.o j hlt2;subst e1;have hat2:=hat.below Ay.local_ HB.o;have hpl:=hat.place;have hbl:=hat2.lt;have HRG:=U (show wr.rangeAt b o cs from fun q v hq => by
     have hq1:q<cs.length:=(List.getElem?_eq_some_iff.1 hq).1;rw[hat2.cell q hq1,← hq];exact(aO hq1).symm)
    have HI:=U (show(prog.info? 135).map (·.size)=some cs.length by rw[hat2.len];kernel_rfl);have HC:=U (szTape_c ds[j] cs fk wr (left - (ds.length:Int) - (t:Int)) hat2.reads (by omega) (by omega));have hst:=EM Cr hlt2;rw[← HT.o]at hst;have HST:=U hst;have hle:=FN Cr ds (j+1);have HLE:=U hle;clear hat hat2 hst hle HX;obtain⟨m,hm⟩:∃m,Cr ds[j] =m:=⟨_,rfl⟩;rw[hm]at HC HST;clear hm;by_cases h4:left - (ds.length:Int) - (t:Int)<(m:Int)
    ·rw[Bd h4]at HC;have e1:r= -1:=by rw[← HR.o];exact Bd (by unfold AP;have:=HST.o;have:=HLE.o;omega)
     subst e1;go_wp2_with (first
      |(refine aD rfl 135 _ rfl b o rfl cs _ HRG.o underlying135 rfl HI.o ?_)
      |(go_at_call 81;refine HC.o.mono ?_;rintro e w1 ⟨rfl,hb1⟩;have B1:=U (HB.o.trans (hb1.mono HB.o.size));clear hb1))
     go_ret
     exact⟨rfl,B1.o⟩
    ·rw[Bu h4]at HC;have h5:¬left - (ds.length:Int) - (t:Int) - (m:Int)<0:=by omega
     have H4:=U h4;have HE:=U (show left - (ds.length:Int) - (t:Int) - (m:Int)=left - (ds.length:Int) - ((t+m:Nat):Int) by omega);clear h4;go_wp2_with (first
      |(refine aD rfl 135 _ rfl b o rfl cs _ HRG.o underlying135 rfl HI.o ?_)
      |(go_at_call 81;refine HC.o.mono ?_;rintro e w1 ⟨rfl,hb1⟩;have B1:=U (HB.o.trans (hb1.mono HB.o.size));clear hb1))
     go_roundw
     case rel => exact⟨j+1,t+m,by omega,HST.o.symm,by have:=H4.o;omega,by go_num,rfl,by rw[HE.o],B1.o⟩
     case measure => simp[intOf];omega
   ·have e1:t=(ds.map Cr).sum:=by rw[HT.o];unfold C8;rw[bK (by omega)]
    have e2:r=left - (ds.length:Int) - (t:Int):=by rw[← HR.o,Bu (by unfold AP;omega)];unfold AP;omega
    subst e2;clear HR e1 HX HT;go_wp2_with fail
    go_ret
    exact⟨rfl,HB.o⟩
theorem Rx(d:Am)(cs:List Value)(f:List Addr)(w:World)(left:Int)(h1:AC w f cs d)(hl:0≤left)(hl2:left≤1048576) :
  Calls prog 8 #[.agg cs.toArray,int i64 left] w fun e w' => e= .returned (int i64 (CJ left (Dd d)))∧Below w.heap.size w w':=by
 dsimp only[AC]at h1;obtain⟨v0,v1,v2,f0,f1,f2,e,-,-,-,-,-,-,-,-,-,-,-,-,r0,r1,r2⟩:=h1;subst e;obtain⟨W1,hW1⟩:∃W1,w.alloc (.cells #[int i64 d.s.g,int i64 d.s.c,int i64 d.s.data,int i64 d.s.p,int i64 d.s.rows,int i64 d.s.cap,int i64 d.s.b,int i64 d.s.q,int i64 d.s.t,v0,v1,v2,int i64 d.u,int i64 d.stop,.bool d.down] 28)=W1:=⟨_,rfl⟩;have B1:Below w.heap.size w W1:=by rw[← hW1];exact(aB _ _).alloc (aC _) _
 have K1:Blk W1 w.heap.size 28 #[int i64 d.s.g,int i64 d.s.c,int i64 d.s.data,int i64 d.s.p,int i64 d.s.rows,int i64 d.s.cap,int i64 d.s.b,int i64 d.s.q,int i64 d.s.t,v0,v1,v2,int i64 d.u,int i64 d.stop,.bool d.down]:=by rw[← hW1];exact Blk.new w _ _
 have HR0:=U (rSl.below (Al.local_ Ak.local_) (Al.fixed Ak.fixed) r0 B1);have HR1:=U (rSl.below Az.local_ Az.fixed r1 B1);have HR2:=U (rSl.below Ay.local_ Ay.fixed r2 B1);obtain⟨A0,c0,rfl,-⟩:=rSl.head r0;obtain⟨A1,c1,rfl,-⟩:=rSl.head r1;obtain⟨A2,c2,rfl,-⟩:=rSl.head r2;have k9:W1.cell? ⟨w.heap.size,9,none⟩=some (.slice A0 d.g.length c0):=(K1.cell 9).trans rfl;have k10:W1.cell? ⟨w.heap.size,10,none⟩=some (.slice A1 d.on.length c1):=(K1.cell 10).trans rfl;have k11:W1.cell? ⟨w.heap.size,11,none⟩=some (.slice A2 d.v.length c2):=(K1.cell 11).trans rfl;have HB:=U B1;have hz1:w.heap.size<W1.heap.size:=K1.lt;have HC0:=U (On _ d.g f0 W1 left HR0.o hl hl2);obtain⟨r,hr⟩:∃r,CJ left (Dd d)=r:=⟨_,rfl⟩;rw[hr];have HR:=U hr;have hF:Dd d=AP BO d.g+d.on.length+AP Cr d.v:=rfl;rw[hF]at HR;obtain⟨m0,hm0⟩:∃m0,AP BO d.g=m0:=⟨_,rfl⟩;obtain⟨m2,hm2⟩:∃m2,AP Cr d.v=m2:=⟨_,rfl⟩;rw[hm0]at HC0 HR;rw[hm2]at HR;have HM2:=U hm2;clear hr r0 r1 r2 B1 K1 hF hm0 hm2;subst hW1;by_cases q0:left<(m0:Int)
 ·have e1:r= -1:=by rw[← HR.o];exact Bd (by omega)
  subst e1;rw[Bd q0]at HC0;go_enter func8,ntmps8
  go_wp2_with (go_at_call 31;refine HC0.o.mono ?_;rintro e w2 ⟨rfl,b2⟩;have B2:=U (HB.o.trans (b2.mono HB.o.size));clear b2)
  go_ret
  exact⟨rfl,B2.o⟩
 have ql0:¬left - (m0:Int)<0:=by omega
 rw[Bu q0]at HC0;by_cases q1:left - (m0:Int)<(d.on.length:Int)
 ·have e1:r= -1:=by rw[← HR.o];exact Bd (by omega)
  subst e1;go_enter func8,ntmps8
  go_wp2_with (first
   |(go_at_call 31;refine HC0.o.mono ?_;rintro e w2 ⟨rfl,b2⟩;have j10:=(b2.cell (p:=⟨w.heap.size,10,none⟩) hz1).trans k10;have j11:=(b2.cell (p:=⟨w.heap.size,11,none⟩) hz1).trans k11;have hz2:=aE hz1 b2.size;have HC1:=U (IA _ d.on f1 w2 (left - (m0:Int)) (rSl.below Az.local_ Az.fixed HR1.o b2) (by omega) (by omega));rw[Bd q1]at HC1;have B2:=U (HB.o.trans (b2.mono HB.o.size));clear b2)
   |(go_at_call 32;refine HC1.o.mono ?_;rintro e w' ⟨rfl,rfl⟩))
  go_ret
  exact⟨rfl,B2.o⟩
 have ql1:¬left - (m0:Int) - (d.on.length:Int)<0:=by omega
 by_cases q2:left - (m0:Int) - (d.on.length:Int)<(m2:Int)
 ·have e1:r= -1:=by rw[← HR.o];exact Bd (by omega)
  subst e1;go_enter func8,ntmps8
  go_wp2_with (first
   |(go_at_call 31;refine HC0.o.mono ?_;rintro e w2 ⟨rfl,b2⟩;have j10:=(b2.cell (p:=⟨w.heap.size,10,none⟩) hz1).trans k10;have j11:=(b2.cell (p:=⟨w.heap.size,11,none⟩) hz1).trans k11;have hz2:=aE hz1 b2.size;have HC1:=U (IA _ d.on f1 w2 (left - (m0:Int)) (rSl.below Az.local_ Az.fixed HR1.o b2) (by omega) (by omega));rw[Bu q1]at HC1;have HC2:=U (Mb _ d.v f2 w2 (left - (m0:Int) - (d.on.length:Int)) (rSl.below Ay.local_ Ay.fixed HR2.o b2) (by omega) (by omega));rw[HM2.o,Bd q2]at HC2;have B2:=U (HB.o.trans (b2.mono HB.o.size));clear b2)
   |(go_at_call 32;refine HC1.o.mono ?_;rintro e w' ⟨rfl,rfl⟩)
   |(go_at_call 33;refine HC2.o.mono ?_;rintro e w3 ⟨rfl,b3⟩;have B3:=U (B2.o.trans (b3.mono B2.o.size));clear b3))
  go_ret
  exact⟨rfl,B3.o⟩
 have ql2:¬left - (m0:Int) - (d.on.length:Int) - (m2:Int)<0:=by omega
 have e1:r=left - (m0:Int) - (d.on.length:Int) - (m2:Int):=by rw[← HR.o,Bu (by omega)];omega
 subst e1;go_enter func8,ntmps8
 go_wp2_with (first
  |(go_at_call 31;refine HC0.o.mono ?_;rintro e w2 ⟨rfl,b2⟩;have j10:=(b2.cell (p:=⟨w.heap.size,10,none⟩) hz1).trans k10;have j11:=(b2.cell (p:=⟨w.heap.size,11,none⟩) hz1).trans k11;have hz2:=aE hz1 b2.size;have HC1:=U (IA _ d.on f1 w2 (left - (m0:Int)) (rSl.below Az.local_ Az.fixed HR1.o b2) (by omega) (by omega));rw[Bu q1]at HC1;have HC2:=U (Mb _ d.v f2 w2 (left - (m0:Int) - (d.on.length:Int)) (rSl.below Ay.local_ Ay.fixed HR2.o b2) (by omega) (by omega));rw[HM2.o,Bu q2]at HC2;have B2:=U (HB.o.trans (b2.mono HB.o.size));clear b2)
  |(go_at_call 32;refine HC1.o.mono ?_;rintro e w' ⟨rfl,rfl⟩)
  |(go_at_call 33;refine HC2.o.mono ?_;rintro e w3 ⟨rfl,b3⟩;have B3:=U (B2.o.trans (b3.mono B2.o.size));clear b3))
 go_ret
 exact⟨rfl,B3.o⟩
theorem Tryz.infoTotoBlockS:(prog.info? 196).map (fun i =>(i.zero,i.size,i.bytes))=some (some (.agg #[int i64 0,.slice none 0 0]),2,32):=by kernel_rfl
theorem Tryz.infoTotoDriveS:(prog.info? 194).map (fun i =>(i.zero,i.size,i.bytes))=some (some (.agg #[.bool false,.slice none 0 0]),2,32):=by kernel_rfl
theorem Tryz.infoTotoDriveSS:(prog.info? 148).map (fun i =>(i.zero,i.size,i.bytes))=some (some (.slice none 0 0),1,24):=by kernel_rfl
