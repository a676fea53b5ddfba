/- Part 22 of the proof. -/
import Derived.Test.YtofeknacbdcoaaaGreatDoorK10
import Derived.Test.YtofeknacbdcoaaaGreatDoorK09
import Derived.Test.YtofeknacbdcoaaaGreatDoorK07
set_option maxHeartbeats 8000000
set_option maxRecDepth 100000
set_option linter.unusedVariables false
set_option linter.unusedSimpArgs false
open Go.Proofs.Tryz
open Go.Value (int)
open Go.IntKind (i64)
namespace Go.Proofs.YtofeknacbdcoaaaGreatDoor
open Go.RowKit Go.Lib Go.Sort
def EH(s:Sh)(x:Aj):Int:=if CJ x.name.data.toList=true then(if Cv s x=true then 0 else 3)else 5
theorem NN {s}{x:Aj}(h:¬CJ x.name.data.toList=true):EH s x=5:=by unfold EH;rw[aJ h]
theorem OH {s}{x:Aj}(h:CJ x.name.data.toList=true)(c:Cv s x=true):EH s x=0:=by unfold EH;rw[aM h,aM c]
theorem PU {s}{x:Aj}(h:CJ x.name.data.toList=true)(c:Cv s x=false):EH s x=3:=by unfold EH;rw[aM h,aJ (by rw[c];decide)]
theorem PC {l hi}{k m:Nat}(h:Do l hi m)(e:k<=m):Do l hi k:=fun i hi c => h i hi zZ
theorem PV(s:Sh)(hs:s.Ok)(x cs f w)(h:Af w f cs x):
  Calls prog 200 #[shV s,.agg cs] w (zN (int i64 (EH s x)) w):=by
 dsimp only[Af]at h;obtain⟨v0,v1,v2,f0,f1,f2,rfl,rfl,o0,o1,o2,o3,o4,o5,h0,h1,h2⟩:=h;obtain⟨A0,c0,rfl,k0,m0⟩:=rSl.head h0;obtain⟨A1,c1,rfl,k1,m1⟩:=rSl.head h1;obtain⟨A2,c2,rfl,k2,m2⟩:=rSl.head h2;obtain⟨H0,H1,H2⟩:=zI h0 h1 h2;obtain⟨nR,bw⟩:∃nR,x.rows.length=nR:=zJ;obtain⟨nD,bu⟩:∃nD,x.data.length=nD:=zJ;obtain⟨nE,bv⟩:∃nE,x.delta.length=nE:=zJ;obtain⟨ar,b0,ck⟩:=zI bw bu bv;rw[bw]at H0 k0⊢;rw[bu]at H1 k1⊢;rw[bv]at H2 k2⊢;have K1:=(Blk.new w 38 s).alloc (.cells (yZ x A0 nR c0 A1 nD c1 A2 nE c2) 105);have K2:=Blk.new1 w (.cells s 38) 105 (yZ x A0 nR c0 A1 nD c1 A2 nE c2);have hB:Below w w ((w.alloc (.cells s 38)).alloc (.cells (yZ x A0 nR c0 A1 nD c1 A2 nE c2) 105)):=((aC _ _).alloc (aD _) _).alloc zX _;have HB:=zq hB;have S2:=Cn.of K1;have R2:=DC.of K2;have HS:=zq S2;have aw:=zq R2;clear h0 h1 h2 bw bu bv K1 K2 hB;have bh:=zq (Nl s x);obtain⟨r,hr⟩:∃r,EH s x=r:=zJ;rw[hr];have HR:=zq hr;obtain⟨b,hb⟩:∃b,Cv s x=b:=zJ;rw[hb]at bh;have bz:=zq hb;have cn:=HS.o.lt;have co:=aw.o.lt;have r2:=aw.o.c2;rw[ar.o,b0.o]at bh;have av:=zq (Ih x.name ((w.alloc (.cells s 38)).alloc (.cells (yZ x A0 nR c0 A1 nD c1 A2 nE c2) 105)) o2);unfold shV;by_cases q0:CJ x.name.data.toList=true
 case neg =>
  have e1:r=5:=hr.symm.T (NN q0);have e2:Bu x.name.data.toList=5:=by unfold Bu;rw[aJ q0]
  rw[e2]at av;subst e1;clear hr hb q0 e2;go_enter func200,ntmps200
  go_wp2_with (first
  |(refine aE rfl 38 _ rfl w 0 rfl _ _ aa.o.rng underlying38 rfl zY ?_)
  |(go_at_call 208;refine av.o.M ?_;rintro e w3 ⟨rfl,b3⟩;have S3:=HS.o.B b3;have l:=aw.o.B b3;have B3:=zq (HB.o.T (b3.M HB.o.size));have ao:=l.c3;have ap:=l.c6;have aq:=l.c7;have a2:=l.lt;have a4:=S3.lt;have aa:=zq S3;have ag:=zq l;clear b3 S3 l)
  |(go_at_call 247;refine(ak.o w3).M ?_;rintro e w4 ⟨rfl,b4⟩;have S4:=aa.o.B b4;have u:=ag.o.B b4;have B4:=zq (B3.o.T (b4.M B3.o.size));have ah:=u.c3;have ai:=u.c6;have aj:=u.c7;have a3:=u.lt;have a5:=S4.lt;have am:=zq S4;have al:=zq u;clear b4 S4 u))
  go_ret
  exact⟨rfl,B3.o⟩
 have e2:Bu x.name.data.toList=0:=by unfold Bu;rw[aM q0]
 rw[e2]at av;have bg:=zq (show b=true->r=0 from fun e => hr.symm.T (OH q0 (hb.T e)));have a9:=zq (show b=false->r=3 from fun e => hr.symm.T (PU q0 (hb.T e)));clear hr hb q0 e2;by_cases q1:x.length= -1
 ·have hq:(x.length == -1)=true:=ED q1;have ac:(decide (nD=0) && decide (nR=0))=b:=by
   have:=bz.o;unfold Cv at this;rw[aM q1,b0.o,ar.o]at this;exact this
  by_cases q2:nD=0
  ·have cf:¬(0:Int)<(nD:Int):=by omega
   have cb:¬0<nD:=by omega
   by_cases q3:nR=0
   ·have cg:¬(0:Int)<(nR:Int):=by omega
    have cc:¬0<nR:=by omega
    have e1:=bg.o (by rw[<-ac,aN q2,aN q3];rfl);subst e1;clear ac q2 q3 q1;go_enter func200,ntmps200
    go_wp2_with (first
  |(refine aE rfl 38 _ rfl w 0 rfl _ _ aa.o.rng underlying38 rfl zY ?_)
  |(go_at_call 208;refine av.o.M ?_;rintro e w3 ⟨rfl,b3⟩;have S3:=HS.o.B b3;have l:=aw.o.B b3;have B3:=zq (HB.o.T (b3.M HB.o.size));have ao:=l.c3;have ap:=l.c6;have aq:=l.c7;have a2:=l.lt;have a4:=S3.lt;have aa:=zq S3;have ag:=zq l;clear b3 S3 l)
  |(go_at_call 247;refine(ak.o w3).M ?_;rintro e w4 ⟨rfl,b4⟩;have S4:=aa.o.B b4;have u:=ag.o.B b4;have B4:=zq (B3.o.T (b4.M B3.o.size));have ah:=u.c3;have ai:=u.c6;have aj:=u.c7;have a3:=u.lt;have a5:=S4.lt;have am:=zq S4;have al:=zq u;clear b4 S4 u))
    go_ret
    exact⟨rfl,B3.o⟩
   ·have cg:(0:Int)<(nR:Int):=by omega
    have cc:0<nR:=by omega
    have e1:=a9.o (by rw[<-ac,aN q2,aG q3];rfl);subst e1;clear ac q2 q3 q1;go_enter func200,ntmps200
    go_wp2_with (first
  |(refine aE rfl 38 _ rfl w 0 rfl _ _ aa.o.rng underlying38 rfl zY ?_)
  |(go_at_call 208;refine av.o.M ?_;rintro e w3 ⟨rfl,b3⟩;have S3:=HS.o.B b3;have l:=aw.o.B b3;have B3:=zq (HB.o.T (b3.M HB.o.size));have ao:=l.c3;have ap:=l.c6;have aq:=l.c7;have a2:=l.lt;have a4:=S3.lt;have aa:=zq S3;have ag:=zq l;clear b3 S3 l)
  |(go_at_call 247;refine(ak.o w3).M ?_;rintro e w4 ⟨rfl,b4⟩;have S4:=aa.o.B b4;have u:=ag.o.B b4;have B4:=zq (B3.o.T (b4.M B3.o.size));have ah:=u.c3;have ai:=u.c6;have aj:=u.c7;have a3:=u.lt;have a5:=S4.lt;have am:=zq S4;have al:=zq u;clear b4 S4 u))
    go_ret
    exact⟨rfl,B3.o⟩
  ·have cf:(0:Int)<(nD:Int):=by omega
   have cb:0<nD:=by omega
   have e1:=a9.o (by rw[<-ac,aG q2];rfl);subst e1;clear ac q2 q1;go_enter func200,ntmps200
   go_wp2_with (first
  |(refine aE rfl 38 _ rfl w 0 rfl _ _ aa.o.rng underlying38 rfl zY ?_)
  |(go_at_call 208;refine av.o.M ?_;rintro e w3 ⟨rfl,b3⟩;have S3:=HS.o.B b3;have l:=aw.o.B b3;have B3:=zq (HB.o.T (b3.M HB.o.size));have ao:=l.c3;have ap:=l.c6;have aq:=l.c7;have a2:=l.lt;have a4:=S3.lt;have aa:=zq S3;have ag:=zq l;clear b3 S3 l)
  |(go_at_call 247;refine(ak.o w3).M ?_;rintro e w4 ⟨rfl,b4⟩;have S4:=aa.o.B b4;have u:=ag.o.B b4;have B4:=zq (B3.o.T (b4.M B3.o.size));have ah:=u.c3;have ai:=u.c6;have aj:=u.c7;have a3:=u.lt;have a5:=S4.lt;have am:=zq S4;have al:=zq u;clear b4 S4 u))
   go_ret
   exact⟨rfl,B3.o⟩
 ·have hq:(x.length == -1)=false:=Dp q1;have ak:=zq (fun(W:World) => parts_c s hs x.length o3 W);have bs:=zq (JC (s:=s) (n:=x.length));obtain⟨lc,bt⟩:∃lc,C3 s x.length=lc:=zJ;rw[bt]at ak bs;unfold shV at ak;by_cases q2:lc=0
  case neg =>
   have e1:b=false:=by
    have hp:Ef s x.length=false:=by
     cases h:Ef s x.length with
     |false => rfl
     |true => exact absurd (bs.o.2 h) q2
    rw[<-bz.o];unfold Cv;rw[aJ q1,hp];rfl
   have e2:=a9.o e1;subst e2;have cm:(lc != 0)=true:=by simpa using q2
   rw[aJ q2]at ak;clear bt;go_enter func200,ntmps200
   go_wp2_with (first
  |(refine aE rfl 38 _ rfl w 0 rfl _ _ aa.o.rng underlying38 rfl zY ?_)
  |(go_at_call 208;refine av.o.M ?_;rintro e w3 ⟨rfl,b3⟩;have S3:=HS.o.B b3;have l:=aw.o.B b3;have B3:=zq (HB.o.T (b3.M HB.o.size));have ao:=l.c3;have ap:=l.c6;have aq:=l.c7;have a2:=l.lt;have a4:=S3.lt;have aa:=zq S3;have ag:=zq l;clear b3 S3 l)
  |(go_at_call 247;refine(ak.o w3).M ?_;rintro e w4 ⟨rfl,b4⟩;have S4:=aa.o.B b4;have u:=ag.o.B b4;have B4:=zq (B3.o.T (b4.M B3.o.size));have ah:=u.c3;have ai:=u.c6;have aj:=u.c7;have a3:=u.lt;have a5:=S4.lt;have am:=zq S4;have al:=zq u;clear b4 S4 u))
   go_ret
   exact⟨rfl,B4.o⟩
  have hp:Ef s x.length=true:=bs.o.1 q2;have b9:1<=x.length/\x.length<=12 * s.data:=by unfold Ef at hp;exact bE hp
  have au:=bh.o hp q1;rw[q2,aM rfl]at ak;obtain⟨d1,d2⟩:=hs.rows;have ew:IntKind.i64.wrap (s.rows - 1)=s.rows - 1:=IntWalk.i64_in _ zZ;obtain⟨hi,b8⟩:∃hi,s.rows - 1=hi:=zJ;have bi:=zq (fun(v:Int) (W:World) => MI s hs v W);have b2:=zq b9.1;obtain⟨pn,ca⟩:∃pn,Dd s x.length=pn:=zJ;rw[ca]at ak au;rw[b8]at au bi;unfold shV at bi;clear q2 hp d1 d2 ca bt hs b9 ew b8 bh;refine au _ ?_ ?_ ?_ ?_ ?_
  ·intro z y ac;have y':((nR:Int) == pn)=true:=ED y;have z1:((nD:Int) == 0)=true:=IU z;have z2:((nD:Int) == x.length)=false:=Dp (by have:=b2.o;omega);clear au z y q1;go_enter func200,ntmps200
   go_wp2_with (first
  |(refine aE rfl 38 _ rfl w 0 rfl _ _ aa.o.rng underlying38 rfl zY ?_)
  |(go_at_call 208;refine av.o.M ?_;rintro e w3 ⟨rfl,b3⟩;have S3:=HS.o.B b3;have l:=aw.o.B b3;have B3:=zq (HB.o.T (b3.M HB.o.size));have ao:=l.c3;have ap:=l.c6;have aq:=l.c7;have a2:=l.lt;have a4:=S3.lt;have aa:=zq S3;have ag:=zq l;clear b3 S3 l)
  |(go_at_call 247;refine(ak.o w3).M ?_;rintro e w4 ⟨rfl,b4⟩;have S4:=aa.o.B b4;have u:=ag.o.B b4;have B4:=zq (B3.o.T (b4.M B3.o.size));have ah:=u.c3;have ai:=u.c6;have aj:=u.c7;have a3:=u.lt;have a5:=S4.lt;have am:=zq S4;have al:=zq u;clear b4 S4 u))
   have c3:=aB ah;have c6:=aB ai;have c7:=aB aj;have an:=zq (Bv (w:=w4) (fun W => Dl A1 nD c1 W))
   (refine aF zY zY ?_;(repeat go_big_quiet_step (first|exact an.o _ _));refine aQ ?_)
   rintro _ ⟨⟨dq,osq⟩,rfl⟩;have b5:=aI w4 dq osq;generalize grow (redrawn w4 dq) osq=w5 at b5;have S5:=am.o.B b5;have R5:=al.o.B b5;have B5:=zq (B4.o.T (b5.M B4.o.size));have bp:=R5.c3;have bq:=R5.c6;have br:=R5.c7;have bn:=R5.lt;have bo:=S5.lt;have bf:=zq S5;have bd:=zq R5;clear b5 S5 R5;clear c3 c6 c7 an ah ai aj ao ap aq;go_wp2_with (go_at_call 149;refine(FI _ _ _ _).M ?_;rintro e w' ⟨rfl,rfl⟩)
   obtain⟨Aq,cq,eq,-,-,hx⟩:=AW.open_ H0.o;rw[ar.o]at eq;injection eq with az _ a0
   subst az a0;have HX:=zq hx;clear hx;go_loopw [66,10,11,9] (fun i _ _ rb wr =>∃(k:Nat) (fb:Bool),k<=nR/\i=k/\rb= .bool fb/\Hid (fb=decide (Do x.rows hi k))/\Hid (Below w5 w5 wr)) (fun i _ _ _ _ => nR - (intOf i).toNat)
   ·exact⟨0,true,by omega,rfl,rfl,(show true=_ from(aN (Iz _ _)).symm),aC _ _⟩
   ·obtain⟨k,fb,hk,rfl,rfl,HF,ab⟩:=hrel;have bb:=zq (B5.o.T (ab.o.M B5.o.size));by_cases a1:k<nR
    ·have af:k<x.rows.length:=by rw[ar.o];exact a1
     obtain⟨ad,e1,-,b1,p1,-⟩:=HX.o k af;subst e1;have a6:=(bb.o.cell (p:=ad.add k) b1).T p1;have bl:(k:Int)<(nR:Int):=by omega
     obtain⟨xk,ae⟩:∃xk,x.rows[k] =xk:=zJ;rw[ae]at a6;cases fb with
     |false =>
      have a8:¬Do x.rows hi (k+1):=fun h => of_decide_eq_false HF.o.symm (PC h zZ)
      have a7:=zq a8;clear p1 b1 ae af a8;go_wp2
      go_roundw
      ·exact⟨k+1,false,by omega,by go_num,rfl,(aG a7.o).symm,ab.o⟩
      ·simp[intOf];omega
     |true =>
      have bj:Do x.rows hi k:=bE HF.o.symm;have ax:=zq (bf.o.B ab.o);have be:=bd.o.B ab.o;have bx:=be.c6;have ba:=be.lt;have cp:=ax.o.lt;have y0:=ax.o.c0;have y1:=ax.o.c1;have y2:=ax.o.c2;have y3:=ax.o.c3;have y4:=ax.o.c4;have y5:=ax.o.c5;have y6:=ax.o.c6;have y7:=ax.o.c7;have y8:=ax.o.c8;have ci:(k:Int)<=(nR:Int):=by omega
      have cj:(k:Int)<=(c0:Int):=by omega
      have cl:k<=c0:=by omega
      obtain⟨ch,cr,bm,-,-⟩:=rSl.split (j:=k) H0.o zZ;have bc:=zq (fun(W:World) (hW:Below wr wr W) => Fi _ (x.rows.take k) xk ch W (rSl.B Aw.L Aw.X bm (bb.o.T (hW.M bb.o.size))));cases hin:Ap xk 0 hi with
      |false =>
       have a8:¬Do x.rows hi (k+1):=I8 af (.inl (by rw[ae];exact hin)) (k+1) zZ;have a7:=zq a8;have ay:=zq (bi.o xk);rw[hin]at ay;clear p1 b1 ae af a8 bj hin bm be;go_wp2_with (first
      |(go_at_call 203;refine(ay.o _).M ?_;rintro e w6 ⟨rfl,b6⟩;have B6:=zq b6;have y6:=(b6.cell (p:=⟨w.heap.size+1,6,none⟩) ba).T bx;have cd:=aH ba b6.size;clear b6)
      |(go_at_call 148;refine(bc.o _ B6.o).M ?_;rintro e w7 ⟨rfl,b7⟩;have B7:=zq b7;clear b7))
       go_roundw
       ·exact⟨k+1,false,by omega,by go_num,rfl,(aG a7.o).symm,ab.o.T (B6.o.M ab.o.size)⟩
       ·simp[intOf];omega
      |true =>
       have ay:=zq (bi.o xk);rw[hin]at ay;cases hme:decide (xk∈x.rows.take k)with
       |true =>
        rw[hme]at bc;have a8:¬Do x.rows hi (k+1):=I8 af (.inr (by rw[ae];exact bE hme)) (k+1) zZ;have a7:=zq a8;clear p1 b1 ae af a8 bj hin bm be hme;go_wp2_with (first
      |(go_at_call 203;refine(ay.o _).M ?_;rintro e w6 ⟨rfl,b6⟩;have B6:=zq b6;have y6:=(b6.cell (p:=⟨w.heap.size+1,6,none⟩) ba).T bx;have cd:=aH ba b6.size;clear b6)
      |(go_at_call 148;refine(bc.o _ B6.o).M ?_;rintro e w7 ⟨rfl,b7⟩;have B7:=zq b7;clear b7))
        go_roundw
        ·exact⟨k+1,false,by omega,by go_num,rfl,(aG a7.o).symm,ab.o.T ((B6.o.T (B7.o.M B6.o.size)).M ab.o.size)⟩
        ·simp[intOf];omega
       |false =>
        rw[hme]at bc;have ce:=zq (Iy bj af (by rw[ae];exact hin) (by rw[ae];exact of_decide_eq_false hme));clear p1 b1 ae af bj hin bm be hme;go_wp2_with (first
      |(go_at_call 203;refine(ay.o _).M ?_;rintro e w6 ⟨rfl,b6⟩;have B6:=zq b6;have y6:=(b6.cell (p:=⟨w.heap.size+1,6,none⟩) ba).T bx;have cd:=aH ba b6.size;clear b6)
      |(go_at_call 148;refine(bc.o _ B6.o).M ?_;rintro e w7 ⟨rfl,b7⟩;have B7:=zq b7;clear b7))
        go_roundw
        ·exact⟨k+1,true,by omega,by go_num,rfl,(aN ce.o).symm,ab.o.T ((B6.o.T (B7.o.M B6.o.size)).M ab.o.size)⟩
        ·simp[intOf];omega
    ·obtain rfl:k=nR:=by omega
     have bk:fb=b:=by
      rw[ac];unfold DA;rw[ar.o];exact HF.o
     cases fb with
     |true =>
      have e1:=bg.o bk.symm;subst e1;clear bk ac;go_wp2
      go_ret
      exact⟨rfl,bb.o⟩
     |false =>
      have e1:=a9.o bk.symm;subst e1;clear bk ac;go_wp2
      go_ret
      exact⟨rfl,bb.o⟩
  ·intro z y ac;have y':((nR:Int) == pn)=false:=Dp y;have z1:((nD:Int) == 0)=true:=IU z;have z2:((nD:Int) == x.length)=false:=Dp (by have:=b2.o;omega);have e1:=a9.o ac;subst e1;clear au z y q1 ac;go_enter func200,ntmps200
   go_wp2_with (first
  |(refine aE rfl 38 _ rfl w 0 rfl _ _ aa.o.rng underlying38 rfl zY ?_)
  |(go_at_call 208;refine av.o.M ?_;rintro e w3 ⟨rfl,b3⟩;have S3:=HS.o.B b3;have l:=aw.o.B b3;have B3:=zq (HB.o.T (b3.M HB.o.size));have ao:=l.c3;have ap:=l.c6;have aq:=l.c7;have a2:=l.lt;have a4:=S3.lt;have aa:=zq S3;have ag:=zq l;clear b3 S3 l)
  |(go_at_call 247;refine(ak.o w3).M ?_;rintro e w4 ⟨rfl,b4⟩;have S4:=aa.o.B b4;have u:=ag.o.B b4;have B4:=zq (B3.o.T (b4.M B3.o.size));have ah:=u.c3;have ai:=u.c6;have aj:=u.c7;have a3:=u.lt;have a5:=S4.lt;have am:=zq S4;have al:=zq u;clear b4 S4 u))
   have c3:=aB ah;have c6:=aB ai;have c7:=aB aj;have an:=zq (Bv (w:=w4) (fun W => Dl A1 nD c1 W))
   (refine aF zY zY ?_;(repeat go_big_quiet_step (first|exact an.o _ _));refine aQ ?_)
   rintro _ ⟨⟨dq,osq⟩,rfl⟩;have b5:=aI w4 dq osq;generalize grow (redrawn w4 dq) osq=w5 at b5;have S5:=am.o.B b5;have R5:=al.o.B b5;have B5:=zq (B4.o.T (b5.M B4.o.size));have bp:=R5.c3;have bq:=R5.c6;have br:=R5.c7;have bn:=R5.lt;have bo:=S5.lt;have bf:=zq S5;have bd:=zq R5;clear b5 S5 R5;clear c3 c6 c7 an ah ai aj ao ap aq;go_wp2_with (go_at_call 149;refine(FI _ _ _ _).M ?_;rintro e w' ⟨rfl,rfl⟩)
   obtain⟨Aq,cq,eq,-,-,hx⟩:=AW.open_ H0.o;rw[ar.o]at eq;injection eq with az _ a0
   subst az a0;have HX:=zq hx;clear hx;go_loopw [66,10,11,9] (fun i _ _ rb wr =>∃k:Nat,k<=nR/\i=k/\rb= .bool false/\Hid (Below w5 w5 wr)) (fun i _ _ _ _ => nR - (intOf i).toNat)
   ·exact⟨0,by omega,rfl,rfl,aC _ _⟩
   ·obtain⟨k,hk,rfl,rfl,ab⟩:=hrel;by_cases a1:k<nR
    ·have af:k<x.rows.length:=by rw[ar.o];exact a1
     obtain⟨ad,e1,-,b1,p1,-⟩:=HX.o k af;subst e1;have a6:=((B5.o.T (ab.o.M B5.o.size)).cell (p:=ad.add k) b1).T p1;have bl:(k:Int)<(nR:Int):=by omega
     obtain⟨xk,ae⟩:∃xk,x.rows[k] =xk:=zJ;rw[ae]at a6;clear p1 b1 ae af;go_wp2
     go_roundw
     ·exact⟨k+1,by omega,by go_num,rfl,ab.o⟩
     ·simp[intOf];omega
    ·obtain rfl:k=nR:=by omega
     go_wp2
     go_ret
     exact⟨rfl,B5.o.T (ab.o.M B5.o.size)⟩
  ·intro z y g ac;have y':((nD:Int) == x.length)=true:=ED y;have z1:((nD:Int) == 0)=false:=FB z;have g':((nR:Int) == 0)=true:=IU g;have e1:=bg.o ac;subst e1;clear au z y q1 ac g;go_enter func200,ntmps200
   go_wp2_with (first
  |(refine aE rfl 38 _ rfl w 0 rfl _ _ aa.o.rng underlying38 rfl zY ?_)
  |(go_at_call 208;refine av.o.M ?_;rintro e w3 ⟨rfl,b3⟩;have S3:=HS.o.B b3;have l:=aw.o.B b3;have B3:=zq (HB.o.T (b3.M HB.o.size));have ao:=l.c3;have ap:=l.c6;have aq:=l.c7;have a2:=l.lt;have a4:=S3.lt;have aa:=zq S3;have ag:=zq l;clear b3 S3 l)
  |(go_at_call 247;refine(ak.o w3).M ?_;rintro e w4 ⟨rfl,b4⟩;have S4:=aa.o.B b4;have u:=ag.o.B b4;have B4:=zq (B3.o.T (b4.M B3.o.size));have ah:=u.c3;have ai:=u.c6;have aj:=u.c7;have a3:=u.lt;have a5:=S4.lt;have am:=zq S4;have al:=zq u;clear b4 S4 u))
   have c3:=aB ah;have c6:=aB ai;have c7:=aB aj;have an:=zq (Bv (w:=w4) (fun W => Dl A1 nD c1 W))
   (refine aF zY zY ?_;(repeat go_big_quiet_step (first|exact an.o _ _));refine aQ ?_)
   rintro _ ⟨⟨dq,osq⟩,rfl⟩;have b5:=aI w4 dq osq;generalize grow (redrawn w4 dq) osq=w5 at b5;have S5:=am.o.B b5;have R5:=al.o.B b5;have B5:=zq (B4.o.T (b5.M B4.o.size));have bp:=R5.c3;have bq:=R5.c6;have br:=R5.c7;have bn:=R5.lt;have bo:=S5.lt;have bf:=zq S5;have bd:=zq R5;clear b5 S5 R5;clear c3 c6 c7 an ah ai aj ao ap aq;go_wp2_with (go_at_call 149;refine(FI _ _ _ _).M ?_;rintro e w' ⟨rfl,rfl⟩)
   obtain⟨Aq,cq,eq,-,-,hx⟩:=AW.open_ H0.o;rw[ar.o]at eq;injection eq with az _ a0
   subst az a0;have HX:=zq hx;clear hx;go_loopw [66,10,11,9] (fun i _ _ rb wr =>∃k:Nat,k<=nR/\i=k/\rb= .bool false/\Hid (Below w5 w5 wr)) (fun i _ _ _ _ => nR - (intOf i).toNat)
   ·exact⟨0,by omega,rfl,rfl,aC _ _⟩
   ·obtain⟨k,hk,rfl,rfl,ab⟩:=hrel;by_cases a1:k<nR
    ·have af:k<x.rows.length:=by rw[ar.o];exact a1
     obtain⟨ad,e1,-,b1,p1,-⟩:=HX.o k af;subst e1;have a6:=((B5.o.T (ab.o.M B5.o.size)).cell (p:=ad.add k) b1).T p1;have bl:(k:Int)<(nR:Int):=by omega
     obtain⟨xk,ae⟩:∃xk,x.rows[k] =xk:=zJ;rw[ae]at a6;clear p1 b1 ae af;go_wp2
     go_roundw
     ·exact⟨k+1,by omega,by go_num,rfl,ab.o⟩
     ·simp[intOf];omega
    ·obtain rfl:k=nR:=by omega
     go_wp2
     go_ret
     exact⟨rfl,B5.o.T (ab.o.M B5.o.size)⟩
  ·intro z y g ac;have y':((nD:Int) == x.length)=true:=ED y;have z1:((nD:Int) == 0)=false:=FB z;have g':((nR:Int) == 0)=false:=FB g;have e1:=a9.o ac;subst e1;clear au z y q1 ac g;go_enter func200,ntmps200
   go_wp2_with (first
  |(refine aE rfl 38 _ rfl w 0 rfl _ _ aa.o.rng underlying38 rfl zY ?_)
  |(go_at_call 208;refine av.o.M ?_;rintro e w3 ⟨rfl,b3⟩;have S3:=HS.o.B b3;have l:=aw.o.B b3;have B3:=zq (HB.o.T (b3.M HB.o.size));have ao:=l.c3;have ap:=l.c6;have aq:=l.c7;have a2:=l.lt;have a4:=S3.lt;have aa:=zq S3;have ag:=zq l;clear b3 S3 l)
  |(go_at_call 247;refine(ak.o w3).M ?_;rintro e w4 ⟨rfl,b4⟩;have S4:=aa.o.B b4;have u:=ag.o.B b4;have B4:=zq (B3.o.T (b4.M B3.o.size));have ah:=u.c3;have ai:=u.c6;have aj:=u.c7;have a3:=u.lt;have a5:=S4.lt;have am:=zq S4;have al:=zq u;clear b4 S4 u))
   have c3:=aB ah;have c6:=aB ai;have c7:=aB aj;have an:=zq (Bv (w:=w4) (fun W => Dl A1 nD c1 W))
   (refine aF zY zY ?_;(repeat go_big_quiet_step (first|exact an.o _ _));refine aQ ?_)
   rintro _ ⟨⟨dq,osq⟩,rfl⟩;have b5:=aI w4 dq osq;generalize grow (redrawn w4 dq) osq=w5 at b5;have S5:=am.o.B b5;have R5:=al.o.B b5;have B5:=zq (B4.o.T (b5.M B4.o.size));have bp:=R5.c3;have bq:=R5.c6;have br:=R5.c7;have bn:=R5.lt;have bo:=S5.lt;have bf:=zq S5;have bd:=zq R5;clear b5 S5 R5;clear c3 c6 c7 an ah ai aj ao ap aq;go_wp2_with (go_at_call 149;refine(FI _ _ _ _).M ?_;rintro e w' ⟨rfl,rfl⟩)
   obtain⟨Aq,cq,eq,-,-,hx⟩:=AW.open_ H0.o;rw[ar.o]at eq;injection eq with az _ a0
   subst az a0;have HX:=zq hx;clear hx;go_loopw [66,10,11,9] (fun i _ _ rb wr =>∃k:Nat,k<=nR/\i=k/\rb= .bool false/\Hid (Below w5 w5 wr)) (fun i _ _ _ _ => nR - (intOf i).toNat)
   ·exact⟨0,by omega,rfl,rfl,aC _ _⟩
   ·obtain⟨k,hk,rfl,rfl,ab⟩:=hrel;by_cases a1:k<nR
    ·have af:k<x.rows.length:=by rw[ar.o];exact a1
     obtain⟨ad,e1,-,b1,p1,-⟩:=HX.o k af;subst e1;have a6:=((B5.o.T (ab.o.M B5.o.size)).cell (p:=ad.add k) b1).T p1;have bl:(k:Int)<(nR:Int):=by omega
     obtain⟨xk,ae⟩:∃xk,x.rows[k] =xk:=zJ;rw[ae]at a6;clear p1 b1 ae af;go_wp2
     go_roundw
     ·exact⟨k+1,by omega,by go_num,rfl,ab.o⟩
     ·simp[intOf];omega
    ·obtain rfl:k=nR:=by omega
     go_wp2
     go_ret
     exact⟨rfl,B5.o.T (ab.o.M B5.o.size)⟩
  ·intro z y ac;have y':((nD:Int) == x.length)=false:=Dp y;have z1:((nD:Int) == 0)=false:=FB z;have e1:=a9.o ac;subst e1;clear au z y q1 ac;go_enter func200,ntmps200
   go_wp2_with (first
  |(refine aE rfl 38 _ rfl w 0 rfl _ _ aa.o.rng underlying38 rfl zY ?_)
  |(go_at_call 208;refine av.o.M ?_;rintro e w3 ⟨rfl,b3⟩;have S3:=HS.o.B b3;have l:=aw.o.B b3;have B3:=zq (HB.o.T (b3.M HB.o.size));have ao:=l.c3;have ap:=l.c6;have aq:=l.c7;have a2:=l.lt;have a4:=S3.lt;have aa:=zq S3;have ag:=zq l;clear b3 S3 l)
  |(go_at_call 247;refine(ak.o w3).M ?_;rintro e w4 ⟨rfl,b4⟩;have S4:=aa.o.B b4;have u:=ag.o.B b4;have B4:=zq (B3.o.T (b4.M B3.o.size));have ah:=u.c3;have ai:=u.c6;have aj:=u.c7;have a3:=u.lt;have a5:=S4.lt;have am:=zq S4;have al:=zq u;clear b4 S4 u))
   have c3:=aB ah;have c6:=aB ai;have c7:=aB aj;have an:=zq (Bv (w:=w4) (fun W => Dl A1 nD c1 W))
   (refine aF zY zY ?_;(repeat go_big_quiet_step (first|exact an.o _ _));refine aQ ?_)
   rintro _ ⟨⟨dq,osq⟩,rfl⟩;have b5:=aI w4 dq osq;generalize grow (redrawn w4 dq) osq=w5 at b5;have S5:=am.o.B b5;have R5:=al.o.B b5;have B5:=zq (B4.o.T (b5.M B4.o.size));have bp:=R5.c3;have bq:=R5.c6;have br:=R5.c7;have bn:=R5.lt;have bo:=S5.lt;have bf:=zq S5;have bd:=zq R5;clear b5 S5 R5;clear c3 c6 c7 an ah ai aj ao ap aq;go_wp2_with (go_at_call 149;refine(FI _ _ _ _).M ?_;rintro e w' ⟨rfl,rfl⟩)
   obtain⟨Aq,cq,eq,-,-,hx⟩:=AW.open_ H0.o;rw[ar.o]at eq;injection eq with az _ a0
   subst az a0;have HX:=zq hx;clear hx;go_loopw [66,10,11,9] (fun i _ _ rb wr =>∃k:Nat,k<=nR/\i=k/\rb= .bool false/\Hid (Below w5 w5 wr)) (fun i _ _ _ _ => nR - (intOf i).toNat)
   ·exact⟨0,by omega,rfl,rfl,aC _ _⟩
   ·obtain⟨k,hk,rfl,rfl,ab⟩:=hrel;by_cases a1:k<nR
    ·have af:k<x.rows.length:=by rw[ar.o];exact a1
     obtain⟨ad,e1,-,b1,p1,-⟩:=HX.o k af;subst e1;have a6:=((B5.o.T (ab.o.M B5.o.size)).cell (p:=ad.add k) b1).T p1;have bl:(k:Int)<(nR:Int):=by omega
     obtain⟨xk,ae⟩:∃xk,x.rows[k] =xk:=zJ;rw[ae]at a6;clear p1 b1 ae af;go_wp2
     go_roundw
     ·exact⟨k+1,by omega,by go_num,rfl,ab.o⟩
     ·simp[intOf];omega
    ·obtain rfl:k=nR:=by omega
     go_wp2
     go_ret
     exact⟨rfl,B5.o.T (ab.o.M B5.o.size)⟩
theorem TO(v ls)(ac hi:Int)(f w)(h:AW w f v ls)(he:ac - 1=hi)(af:okI hi):
  Calls prog 248 #[v,int i64 ac] w (zN (.bool (CT ls hi)) w):=by
 obtain⟨A,c,rfl,hc,hm,hx⟩:=AW.open_ h;have HX:=zq hx;obtain⟨r,hr⟩:∃r,CT ls hi=r:=zJ;rw[hr];have HR:=zq hr;obtain⟨n,hn⟩:∃n,ls.length=n:=zJ;rw[hn]at hc⊢;have HN:=zq hn;have HW:=zq (show IntKind.i64.wrap (ac - 1)=hi from by rw[he];exact IntWalk.i64_in _ (by have:=af.1;have:=af.2;omega));clear h hx hr hn he af;go_enter func248,ntmps248
 go_wp2
 go_loopw [9,5,6] (fun i _ _ wr =>∃k:Nat,k<=n/\i=k/\Hid (F9 ls hi k)/\Hid (Below w w wr)) (fun i _ _ _ => n - (intOf i).toNat)
 ·exact⟨0,by omega,rfl,Mh _ _,aC _ _⟩
 ·obtain⟨k,hk,rfl,HS,HB⟩:=hrel;have hw:=HW.o;by_cases ah:k<n
  ·have s:k<ls.length:=by rw[HN.o];exact ah
   obtain⟨ad,z,-,b1,p1,-⟩:=HX.o k s;subst z;have ai:=((HB.o.cell (p:=ad.add k) b1).T p1);have ak:(k:Int)<(n:Int):=by omega
   obtain⟨x,hx⟩:∃x,ls[k] =x:=zJ;rw[hx]at ai;have q:=zq (Mg HS.o s);have l:=zq (fun(h:Ap ls[k] 0 hi=false∨(0<k/\ls[k]<=ls[k - 1])) => HR.o.symm.T (Q5 s h));rw[hx]at q l;have u:=zq (fun(W:World) => By x 0 hi W);clear p1;cases hin:Ap x 0 hi with
   |false =>
    rw[hin]at u;have z:r=false:=l.o (.inl hin);subst z;clear hx q l s b1 hin;go_wp2_with (go_at_call 95;(try rw[HW.o]);refine(u.o _).M ?_;rintro e w' ⟨rfl,rfl⟩)
    go_ret
    exact⟨rfl,HB.o⟩
   |true =>
    rw[hin]at u;by_cases a3:k=0
    ·have ab:=zq (q.o hin (fun h => by omega));have a4:¬(0:Int)<(k:Int):=by omega
     have a6:¬0<k:=by omega
     clear hx q l s b1 hin a3;go_wp2_with (go_at_call 95;(try rw[HW.o]);refine(u.o _).M ?_;rintro e w' ⟨rfl,rfl⟩)
     go_roundw
     ·exact⟨k+1,by omega,by go_num,ab.o,HB.o⟩
     ·simp[intOf];omega
    ·have a4:(0:Int)<(k:Int):=by omega
     have a6:0<k:=by omega
     have ae:k - 1<ls.length:=by omega
     obtain⟨aj,z,-,b2,p2,-⟩:=HX.o (k - 1) ae;injection z with z
     subst z;have ag:=((HB.o.cell (p:=ad.add (k - 1)) b2).T p2);obtain⟨y,hy⟩:∃y,ls[k - 1] =y:=zJ;rw[hy]at ag q l;have z:IntKind.i64.wrap ((k:Int) - 1)=((k - 1:Nat):Int):=by rw[IntWalk.i64_in _ zZ];omega
     have e2:((k:Int) - 1)=((k - 1:Nat):Int):=by omega
     have e3:((k - 1:Nat):Int)<(n:Int):=by omega
     obtain⟨k1,aa⟩:∃k1,k - 1=k1:=zJ;rw[aa]at ag z e2 e3;by_cases a5:x<=y
     ·have z:r=false:=l.o (.inr ⟨by omega,a5⟩);subst z;clear hx q l s b1 hin a3 hy ae p2 b2 aa;go_wp2_with (go_at_call 95;(try rw[HW.o]);refine(u.o _).M ?_;rintro e w' ⟨rfl,rfl⟩)
      go_ret
      exact⟨rfl,HB.o⟩
     ·have ab:=zq (q.o hin (fun h => by omega));clear hx q l s b1 hin a3 hy ae p2 b2 aa;go_wp2_with (go_at_call 95;(try rw[HW.o]);refine(u.o _).M ?_;rintro e w' ⟨rfl,rfl⟩)
      go_roundw
      ·exact⟨k+1,by omega,by go_num,ab.o,HB.o⟩
      ·simp[intOf];omega
  ·obtain rfl:k=n:=by omega
   have z:r=true:=by
    rw[<-HR.o];exact Q9 (by rw[HN.o];exact HS.o)
   subst z;go_wp2
   go_ret
   exact⟨rfl,HB.o⟩
theorem Sk(s:Sh)(x:Aj)(P:Prop)(h1:Ap x.group 0 (s.g+s.c - 1)=false->Cs s x=false->P)(f:Ap x.group 0 (s.g+s.c - 1)=true->Ap x.row 0 (s.rows - 1)=false->Cs s x=false->P)(h:Ap x.group 0 (s.g+s.c - 1)=true->Ap x.row 0 (s.rows - 1)=true->CT x.rows (s.g+s.c - 1)=false->Cs s x=false->P)(h4:Ap x.group 0 (s.g+s.c - 1)=true->Ap x.row 0 (s.rows - 1)=true->CT x.rows (s.g+s.c - 1)=true->¬(x.data.length:Int)=s.data * 4->Cs s x=false->P)(l:Ap x.group 0 (s.g+s.c - 1)=true->Ap x.row 0 (s.rows - 1)=true->CT x.rows (s.g+s.c - 1)=true->(x.data.length:Int)=s.data * 4->¬(x.delta.length:Int)=s.g+s.c->Cs s x=false->P)(n:Ap x.group 0 (s.g+s.c - 1)=true->Ap x.row 0 (s.rows - 1)=true->CT x.rows (s.g+s.c - 1)=true->(x.data.length:Int)=s.data * 4->(x.delta.length:Int)=s.g+s.c->Cs s x=(!Cy x x.group && x.rows.all (Cy x))->P):P:=by
 unfold Cs at h1 f h h4 l n;rw[Int.mul_comm 4 s.data]at h1 f h h4 l n;by_cases g:Ap x.group 0 (s.g+s.c - 1)=true
 ·by_cases r:Ap x.row 0 (s.rows - 1)=true
  ·by_cases i:CT x.rows (s.g+s.c - 1)=true
   ·by_cases d:(x.data.length:Int)=s.data * 4
    ·by_cases e:(x.delta.length:Int)=s.g+s.c
     ·exact n g r i d e (by rw[g,r,i,aN d,aN e];rfl)
     ·exact l g r i d e (by rw[g,r,i,aN d,aG e];rfl)
    ·exact h4 g r i d (by rw[g,r,i,aG d];rfl)
   ·have p:CT x.rows (s.g+s.c - 1)=false:=by simpa using i
    exact h g r p (by rw[g,r,p];rfl)
  ·have q:Ap x.row 0 (s.rows - 1)=false:=by simpa using r
   exact f g q (by rw[g,q];rfl)
 ·have o:Ap x.group 0 (s.g+s.c - 1)=false:=by simpa using g
  exact h1 o (by rw[o];rfl)
theorem Jw {w f A n c}{x:Aj}(h:Ah w f (.slice A n c) x.delta){k:Int}(h0:0<=k)(h1:k<(n:Int)):
  ∃(i:Addr) (l:UInt8),A=some i/\(i.add k.toNat).block <w.heap.size/\w.cell? (i.add k.toNat)=some (.int .u8 (l.toNat:Int))/\Cy x k=decide (l≠0):=by
 obtain⟨y,z,e,-,-,r⟩:=Ah.open_ h;injection e with o e2 p
 subst o p;obtain⟨i,q,-,s,u⟩:=r k.toNat zZ;refine⟨i,_,q,s,u,?_⟩;unfold Cy;rw[aP,aO zZ,Option.getD_some]
theorem MB {b:UInt8}(h:b=0):((b.toNat:Int) == 0)=true:=by rw[h];rfl
theorem MA {b:UInt8}(h:¬b=0):((b.toNat:Int) == 0)=false:=by
 rw[beq_eq_false_iff_ne];intro e;have c:b.toNat=0:=by omega
 exact h (UInt8.toNat_inj.1 (by rw[c];rfl))
theorem Qz {b:UInt8}(h:¬b=0):((b.toNat:Int) != 0)=true:=by unfold bne;rw[MA h];rfl
theorem Qy {b:UInt8}(h:b=0):((b.toNat:Int) != 0)=false:=by unfold bne;rw[MB h];rfl
theorem NR(x:Aj)(l)(i c2:Nat)(f)(p:Nat)(k:Int)(W)(n:0<=k)(h1:k<(i:Int))(h:Ah W f (.slice l i c2) x.delta)(z:W.cell? ⟨p,8,none⟩=some (.slice l i c2))(lp:p<W.heap.size):
  Calls prog 250 #[int i64 k,.pointer (some (zE p))] W (zN (.bool (!Cy x k)) W):=by
 obtain⟨y,c,o,r,s,hw⟩:=Jw h n h1;subst o;rw[hw];obtain⟨kn,rfl⟩:=Int.eq_ofNat_of_zero_le n;rw[Int.toNat_natCast]at s r;clear h hw;by_cases q:c=0
 ·rw[show(!decide (c≠0))=true by rw[q];rfl];have u:=MB q;clear q;go_enter func250,ntmps250
  go_wp2
  go_ret
  exact⟨rfl,aC _ _⟩
 ·rw[show(!decide (c≠0))=false by rw[aN q];rfl];have u:=MA q;clear q;go_enter func250,ntmps250
  go_wp2
  go_ret
  exact⟨rfl,aC _ _⟩
theorem Ph(s:Sh)(hs:s.Ok)(x cs f w)(h:Af w f cs x):
  Calls prog 201 #[shV s,.agg cs] w fun e w' => e= .returned (int i64 (if Cs s x=true then 0 else 3))/\Below w w w':=by
 dsimp only[Af]at h;obtain⟨v0,v1,v2,f0,f1,f2,rfl,rfl,o0,o1,o2,o3,o4,o5,h0,h1,h2⟩:=h;obtain⟨A0,c0,rfl,k0,m0⟩:=rSl.head h0;obtain⟨A1,c1,rfl,k1,m1⟩:=rSl.head h1;obtain⟨A2,c2,rfl,k2,m2⟩:=rSl.head h2;obtain⟨H0,H1,H2⟩:=zI h0 h1 h2;obtain⟨nR,a1⟩:∃nR,x.rows.length=nR:=zJ;obtain⟨z,az⟩:∃z,x.data.length=z:=zJ;obtain⟨y,a0⟩:∃y,x.delta.length=y:=zJ;obtain⟨bg,ba,bc⟩:=zI a1 az a0;rw[a1]at H0 k0⊢;rw[az]at H1 k1⊢;rw[a0]at H2 k2⊢;have K1:=(Blk.new w 38 s).alloc (.cells (yZ x A0 nR c0 A1 z c1 A2 y c2) 105);have K2:=Blk.new1 w (.cells s 38) 105 (yZ x A0 nR c0 A1 z c1 A2 y c2);have hB:Below w w ((w.alloc (.cells s 38)).alloc (.cells (yZ x A0 nR c0 A1 z c1 A2 y c2) 105)):=((aC _ _).alloc (aD _) _).alloc zX _;have HB:=zq hB;have S2:=Cn.of K1;have R2:=DC.of K2;have HS:=zq S2;have aa:=zq R2;clear h0 h1 h2 a1 az a0 K1 K2 hB;obtain⟨d1,d2⟩:=hs.data;obtain⟨d3,d4⟩:=hs.g;obtain⟨d5,d6⟩:=hs.c;have af:=zq (Sk s x);obtain⟨b,hb⟩:∃b,Cs s x=b:=zJ;rw[hb]at af⊢;rw[ba.o,bc.o]at af;obtain⟨al,ai⟩:∃al,s.g+s.c=al:=zJ;obtain⟨wd,a3⟩:∃wd,s.data * 4=wd:=zJ;rw[ai,a3]at af;have ao:1<=al/\al<=6:=by omega
 obtain⟨a8,QG,QR,QA,QI,QL⟩:=zF ao (AR (w:=((w.alloc (.cells s 38)).alloc (.cells (yZ x A0 nR c0 A1 z c1 A2 y c2) 105))) (fun W _ => Ik s hs x.group W)) (AR (w:=((w.alloc (.cells s 38)).alloc (.cells (yZ x A0 nR c0 A1 z c1 A2 y c2) 105))) (fun W _ => MI s hs x.row W)) (AR (w:=((w.alloc (.cells s 38)).alloc (.cells (yZ x A0 nR c0 A1 z c1 A2 y c2) 105))) (fun W _ => Fq s hs W)) (AR (w:=((w.alloc (.cells s 38)).alloc (.cells (yZ x A0 nR c0 A1 z c1 A2 y c2) 105))) (fun W hW => TO (.slice A0 nR c0) x.rows al (al - 1) f0 W (rSl.B Aw.L Aw.X H0.o (HB.o.T (hW.M HB.o.size))) rfl ⟨by omega,by omega⟩)) (AR (w:=((w.alloc (.cells s 38)).alloc (.cells (yZ x A0 nR c0 A1 z c1 A2 y c2) 105))) (fun W _ => IK s hs W));have ab:=zq (Bv (w:=((w.alloc (.cells s 38)).alloc (.cells (yZ x A0 nR c0 A1 z c1 A2 y c2) 105))) (fun W => Dl A1 z c1 W));have ac:=zq (Bv (w:=((w.alloc (.cells s 38)).alloc (.cells (yZ x A0 nR c0 A1 z c1 A2 y c2) 105))) (fun W => Dl A2 y c2 W));unfold shV at QG QR QA QL⊢;rw[ai]at QG QA;rw[a3]at QL;have t4:=aB aa.o.c4;have t5:=aB aa.o.c5;have t6:=aB aa.o.c6;have t7:=aB aa.o.c7;have t8:=aB aa.o.c8;have u0:=aB HS.o.c0;have u1:=aB HS.o.c1;have u2:=aB HS.o.c2;have u3:=aB HS.o.c3;have u4:=aB HS.o.c4;have u5:=aB HS.o.c5;have u6:=aB HS.o.c6;have u7:=aB HS.o.c7;have u8:=aB HS.o.c8;have lr:=aa.o.lt;have ls:=HS.o.lt;clear hb ai a3 d1 d2 d3 d4 d5 d6 ao hs;refine af.o _ ?_ ?_ ?_ ?_ ?_ ?_
 ·intro g ae;subst ae;rw[g]at QG;clear af g;go_enter func201,ntmps201
  go_wp2_with fail
  (refine aF zY zY ?_;(repeat go_big_quiet_step (first|exact QG.o _ _|exact QR.o _ _|exact QA.o _ _|exact QI.o _ _|exact QL.o _ _|exact ab.o _ _|exact ac.o _ _));refine aQ ?_)
  rintro _ ⟨⟨dq,osq⟩,rfl⟩;have n:=aI ((w.alloc (.cells s 38)).alloc (.cells (yZ x A0 nR c0 A1 z c1 A2 y c2) 105)) dq osq;generalize grow (redrawn ((w.alloc (.cells s 38)).alloc (.cells (yZ x A0 nR c0 A1 z c1 A2 y c2) 105)) dq) osq=w5 at n;have S5:=HS.o.B n;have l:=aa.o.B n;have B5:=zq (HB.o.T (n.M HB.o.size));have ah:=l.c4;have am:=l.c6;have an:=l.c8;have aj:=l.lt;have ak:=S5.lt;have ag:=zq l;clear n S5 l;clear t4 t5 t6 t7 t8 u0 u1 u2 u3 u4 u5 u6 u7 u8 QG QR QA QI QL ab ac;go_wp2
  go_ret
  exact⟨rfl,B5.o⟩
 ·intro g r ae;subst ae;rw[g]at QG;rw[r]at QR;clear af g r;go_enter func201,ntmps201
  go_wp2_with fail
  (refine aF zY zY ?_;(repeat go_big_quiet_step (first|exact QG.o _ _|exact QR.o _ _|exact QA.o _ _|exact QI.o _ _|exact QL.o _ _|exact ab.o _ _|exact ac.o _ _));refine aQ ?_)
  rintro _ ⟨⟨dq,osq⟩,rfl⟩;have n:=aI ((w.alloc (.cells s 38)).alloc (.cells (yZ x A0 nR c0 A1 z c1 A2 y c2) 105)) dq osq;generalize grow (redrawn ((w.alloc (.cells s 38)).alloc (.cells (yZ x A0 nR c0 A1 z c1 A2 y c2) 105)) dq) osq=w5 at n;have S5:=HS.o.B n;have l:=aa.o.B n;have B5:=zq (HB.o.T (n.M HB.o.size));have ah:=l.c4;have am:=l.c6;have an:=l.c8;have aj:=l.lt;have ak:=S5.lt;have ag:=zq l;clear n S5 l;clear t4 t5 t6 t7 t8 u0 u1 u2 u3 u4 u5 u6 u7 u8 QG QR QA QI QL ab ac;go_wp2
  go_ret
  exact⟨rfl,B5.o⟩
 ·intro g r i ae;subst ae;rw[g]at QG;rw[r]at QR;rw[i]at QI;clear af g r i;go_enter func201,ntmps201
  go_wp2_with fail
  (refine aF zY zY ?_;(repeat go_big_quiet_step (first|exact QG.o _ _|exact QR.o _ _|exact QA.o _ _|exact QI.o _ _|exact QL.o _ _|exact ab.o _ _|exact ac.o _ _));refine aQ ?_)
  rintro _ ⟨⟨dq,osq⟩,rfl⟩;have n:=aI ((w.alloc (.cells s 38)).alloc (.cells (yZ x A0 nR c0 A1 z c1 A2 y c2) 105)) dq osq;generalize grow (redrawn ((w.alloc (.cells s 38)).alloc (.cells (yZ x A0 nR c0 A1 z c1 A2 y c2) 105)) dq) osq=w5 at n;have S5:=HS.o.B n;have l:=aa.o.B n;have B5:=zq (HB.o.T (n.M HB.o.size));have ah:=l.c4;have am:=l.c6;have an:=l.c8;have aj:=l.lt;have ak:=S5.lt;have ag:=zq l;clear n S5 l;clear t4 t5 t6 t7 t8 u0 u1 u2 u3 u4 u5 u6 u7 u8 QG QR QA QI QL ab ac;go_wp2
  go_ret
  exact⟨rfl,B5.o⟩
 ·intro g r i d ae;subst ae;rw[g]at QG;rw[r]at QR;rw[i]at QI;have d':((z:Int) == wd)=false:=Dp d;clear af g r i d;go_enter func201,ntmps201
  go_wp2_with fail
  (refine aF zY zY ?_;(repeat go_big_quiet_step (first|exact QG.o _ _|exact QR.o _ _|exact QA.o _ _|exact QI.o _ _|exact QL.o _ _|exact ab.o _ _|exact ac.o _ _));refine aQ ?_)
  rintro _ ⟨⟨dq,osq⟩,rfl⟩;have n:=aI ((w.alloc (.cells s 38)).alloc (.cells (yZ x A0 nR c0 A1 z c1 A2 y c2) 105)) dq osq;generalize grow (redrawn ((w.alloc (.cells s 38)).alloc (.cells (yZ x A0 nR c0 A1 z c1 A2 y c2) 105)) dq) osq=w5 at n;have S5:=HS.o.B n;have l:=aa.o.B n;have B5:=zq (HB.o.T (n.M HB.o.size));have ah:=l.c4;have am:=l.c6;have an:=l.c8;have aj:=l.lt;have ak:=S5.lt;have ag:=zq l;clear n S5 l;clear t4 t5 t6 t7 t8 u0 u1 u2 u3 u4 u5 u6 u7 u8 QG QR QA QI QL ab ac;go_wp2
  go_ret
  exact⟨rfl,B5.o⟩
 ·intro g r i d e ae;subst ae;rw[g]at QG;rw[r]at QR;rw[i]at QI;have d':((z:Int) == wd)=true:=ED d;have e':((y:Int) == al)=false:=Dp e;clear af g r i d e;go_enter func201,ntmps201
  go_wp2_with fail
  (refine aF zY zY ?_;(repeat go_big_quiet_step (first|exact QG.o _ _|exact QR.o _ _|exact QA.o _ _|exact QI.o _ _|exact QL.o _ _|exact ab.o _ _|exact ac.o _ _));refine aQ ?_)
  rintro _ ⟨⟨dq,osq⟩,rfl⟩;have n:=aI ((w.alloc (.cells s 38)).alloc (.cells (yZ x A0 nR c0 A1 z c1 A2 y c2) 105)) dq osq;generalize grow (redrawn ((w.alloc (.cells s 38)).alloc (.cells (yZ x A0 nR c0 A1 z c1 A2 y c2) 105)) dq) osq=w5 at n;have S5:=HS.o.B n;have l:=aa.o.B n;have B5:=zq (HB.o.T (n.M HB.o.size));have ah:=l.c4;have am:=l.c6;have an:=l.c8;have aj:=l.lt;have ak:=S5.lt;have ag:=zq l;clear n S5 l;clear t4 t5 t6 t7 t8 u0 u1 u2 u3 u4 u5 u6 u7 u8 QG QR QA QI QL ab ac;go_wp2
  go_ret
  exact⟨rfl,B5.o⟩
 ·intro g r i d e ae;have ay:=BF g;have ai:=a8.o;have a2:=i;rw[g]at QG;rw[r]at QR;rw[i]at QI;have d':((z:Int) == wd)=true:=ED d;have e':((y:Int) == al)=true:=ED e;obtain⟨ad,bb,ea,lb,pb,hw⟩:=Jw H2.o ay.1 (show x.group<(y:Int) by omega);subst ea;have a6:=zq pb;have aq:=zq lb;obtain⟨gn,ax⟩:=Int.eq_ofNat_of_zero_le ay.1;have bd:(0:Int)<=(gn:Int):=by omega
  have be:(gn:Int)<(y:Int):=by omega
  rw[ax,Int.toNat_natCast]at a6 aq;have ar:=zq (show∀k,k∈x.rows->0<=k/\k<(y:Int)from fun k hk => by
   obtain⟨j,hj,rfl⟩:=aY hk;have h1:F9 x.rows (al - 1) x.rows.length:=by unfold CT at a2;exact bE a2
   have:=BF (h1 j hj hj).1;omega)
  obtain⟨a9,a5,a4⟩:=zI ax hw ae;clear af g r i d e ae ay ai a2 pb lb hw ax;go_enter func201,ntmps201
  go_wp2_with fail
  (refine aF zY zY ?_;(repeat go_big_quiet_step (first|exact QG.o _ _|exact QR.o _ _|exact QA.o _ _|exact QI.o _ _|exact QL.o _ _|exact ab.o _ _|exact ac.o _ _));refine aQ ?_)
  rintro _ ⟨⟨dq,osq⟩,rfl⟩;have n:=aI ((w.alloc (.cells s 38)).alloc (.cells (yZ x A0 nR c0 A1 z c1 (some ad) y c2) 105)) dq osq;generalize grow (redrawn ((w.alloc (.cells s 38)).alloc (.cells (yZ x A0 nR c0 A1 z c1 (some ad) y c2) 105)) dq) osq=w5 at n;have S5:=HS.o.B n;have l:=aa.o.B n;have B5:=zq (HB.o.T (n.M HB.o.size));have ah:=l.c4;have am:=l.c6;have an:=l.c8;have aj:=l.lt;have ak:=S5.lt;have ag:=zq l;clear n S5 l;clear t4 t5 t6 t7 t8 u0 u1 u2 u3 u4 u5 u6 u7 u8 QG QR QA QI QL ab ac;rw[a9.o]at ah;have bi:=(B5.o.cell (p:=ad.add gn) aq.o).T a6.o;have bh:=aH aq.o B5.o.size;by_cases q:bb=0
  ·have q1:=Qy q;have aw:b=x.rows.all (Cy x):=by rw[a4.o,a5.o,q];rfl
   have bf:=zq aw;have ap:=zq (NM (fun k => !Cy x k) 250 #[.pointer (some (zE (w.heap.size+1)))] _ x.rows f0 w5 (enters_of func250 zY rfl) (rSl.B Aw.L Aw.X H0.o B5.o)
    (fun W u fk j hj hW hR => by
     obtain⟨-,hu,-⟩:=hR;injection hu with hu
     subst hu;obtain⟨k0,k1⟩:=ar.o _ (aT hj);exact NR x _ y c2 f2 (w.heap.size+1) _ W k0 k1 (Ah.B H2.o (B5.o.T (hW.M B5.o.size))) (ag.o.B hW).c8 (ag.o.B hW).lt))
   obtain⟨av,au⟩:∃av,x.rows.any (fun k => !Cy x k)=av:=zJ;rw[au]at ap;have a7:b= !av:=by
    rw[aw,<-au,<-List.not_all_eq_any_not];simp
   clear q aw au;cases av with
   |true =>
    obtain rfl:b=false:=a7;go_wp2_with (go_at_call 249;refine ap.o.M ?_;rintro e w6 ⟨rfl,b6⟩;have B6:=zq b6;clear b6)
    go_ret
    exact⟨rfl,B5.o.T (B6.o.M B5.o.size)⟩
   |false =>
    obtain rfl:b=true:=a7;go_wp2_with (go_at_call 249;refine ap.o.M ?_;rintro e w6 ⟨rfl,b6⟩;have B6:=zq b6;clear b6)
    go_ret
    exact⟨rfl,B5.o.T (B6.o.M B5.o.size)⟩
  ·have q1:=Qz q;obtain rfl:b=false:=by rw[a4.o,a5.o,aN q];rfl
   clear q;go_wp2
   go_ret
   exact⟨rfl,B5.o⟩
theorem Oc {l:List Int}{q:Int->Bool}{k}(h:(l.take k).all q=true)(c:k<l.length)(hq:q l[k] =true):(l.take (k+1)).all q=true:=by
 rw[aK c,List.all_append,h];simp[hq]
theorem all_bad {l:List Int}{q:Int->Bool}{k:Nat}(c:k<l.length)(hq:q l[k] =false):l.all q=false:=by
 rw[<-Bool.not_eq_true,List.all_eq_true];intro h;rw[h _ (aT c)]at hq;cases hq
theorem PX(s:Sh)(hs:s.Ok)(x cs f w)(h:Af w f cs x)(hg:Ap x.group 0 (s.g+s.c - 1)=true)(hi:CT x.rows (s.g+s.c - 1)=true):
  Calls prog 128 #[shV s,.agg cs] w (zN (.bool (decide ((x.delta.length:Int)=s.g+s.c) && (!Cy x x.group && x.rows.all (Cy x)))) w):=by
 dsimp only[Af]at h;obtain⟨v0,v1,v2,f0,f1,f2,rfl,rfl,o0,o1,o2,o3,o4,o5,h0,h1,h2⟩:=h;obtain⟨A0,c0,rfl,k0,m0⟩:=rSl.head h0;obtain⟨A1,c1,rfl,k1,m1⟩:=rSl.head h1;obtain⟨A2,c2,rfl,k2,m2⟩:=rSl.head h2;obtain⟨H0,H1,H2⟩:=zI h0 h1 h2;obtain⟨y,ao⟩:∃y,x.rows.length=y:=zJ;obtain⟨nD,am⟩:∃nD,x.data.length=nD:=zJ;obtain⟨n,an⟩:∃n,x.delta.length=n:=zJ;obtain⟨ai,bc,bd⟩:=zI ao am an;rw[ao]at H0 k0⊢;rw[am]at H1 k1⊢;rw[an]at H2 k2⊢;have K1:=(Blk.new w 38 s).alloc (.cells (yZ x A0 y c0 A1 nD c1 A2 n c2) 105);have K2:=Blk.new1 w (.cells s 38) 105 (yZ x A0 y c0 A1 nD c1 A2 n c2);have hB:Below w w ((w.alloc (.cells s 38)).alloc (.cells (yZ x A0 y c0 A1 nD c1 A2 n c2) 105)):=((aC _ _).alloc (aD _) _).alloc zX _;have HB:=zq hB;have S2:=Cn.of K1;have R2:=DC.of K2;have HS:=zq S2;have aa:=zq R2;clear h0 h1 h2 ao am an K1 K2 hB;obtain⟨d3,d4⟩:=hs.g;obtain⟨d5,d6⟩:=hs.c;obtain⟨al,ac⟩:∃al,s.g+s.c=al:=zJ;rw[ac]at hg hi⊢;have a1:=zq (show 1<=al/\al<=6 by omega);have QA:=zq (AR (w:=((w.alloc (.cells s 38)).alloc (.cells (yZ x A0 y c0 A1 nD c1 A2 n c2) 105))) (fun W _ => EN s hs W));unfold shV at QA⊢;rw[ac]at QA;have t4:=aB aa.o.c4;have t8:=aB aa.o.c8;have u0:=aB HS.o.c0;have u1:=aB HS.o.c1;have u2:=aB HS.o.c2;have u3:=aB HS.o.c3;have u4:=aB HS.o.c4;have u5:=aB HS.o.c5;have u6:=aB HS.o.c6;have u7:=aB HS.o.c7;have u8:=aB HS.o.c8;have lr:=aa.o.lt;have ls:=HS.o.lt;have HG:=zq hg;have HI:=zq hi;clear ac d3 d4 d5 d6 hs hg hi;by_cases e:(n:Int)=al
 case neg =>
  have e':((n:Int) != al)=true:=by simpa using e
  rw[aG e];clear e;go_enter func128,ntmps128
  go_wp2_with fail
  (refine aF zY zY ?_;(repeat go_big_quiet_step (first|exact QA.o _ _));refine aQ ?_)
  rintro _ ⟨⟨dq,osq⟩,rfl⟩;have u:=aI ((w.alloc (.cells s 38)).alloc (.cells (yZ x A0 y c0 A1 nD c1 A2 n c2) 105)) dq osq;generalize grow (redrawn ((w.alloc (.cells s 38)).alloc (.cells (yZ x A0 y c0 A1 nD c1 A2 n c2) 105)) dq) osq=w5 at u;have S5:=HS.o.B u;have l:=aa.o.B u;have B5:=zq (HB.o.T (u.M HB.o.size));have ay:=l.c4;have az:=l.c6;have a0:=l.c8;have av:=l.lt;have aw:=S5.lt;have aj:=zq l;clear u S5 l;clear t4 t8 u0 u1 u2 u3 u4 u5 u6 u7 u8 QA;go_wp2
  go_ret
  exact⟨rfl,B5.o⟩
 have e':((n:Int) != al)=false:=by rw[bne_eq_false_iff_eq];exact e
 rw[aN e,Bool.true_and];have af:=BF HG.o;have ac:=a1.o;obtain⟨ad,bb,ea,lb,pb,hw⟩:=Jw H2.o af.1 (show x.group<(n:Int) by omega);subst ea;obtain⟨gn,a6⟩:=Int.eq_ofNat_of_zero_le af.1;have ar:(0:Int)<=x.group:=af.1;have au:x.group<(n:Int):=by omega
 have ax:=aB ((HB.o.cell (p:=ad.add x.group.toNat) lb).T pb);have be:=zq pb;have ba:=zq lb;have ak:=zq (show∀k,k∈x.rows->0<=k/\k<(n:Int)from fun k hk => by
  obtain⟨j,hj,rfl⟩:=aY hk;have h1:F9 x.rows (al - 1) x.rows.length:=by have:=HI.o;unfold CT at this;exact bE this
  have:=BF (h1 j hj hj).1;omega)
 rw[hw];clear e pb lb hw a6 af ac;by_cases q:bb=0
 case neg =>
  have q1:=Qz q;rw[show(!decide (bb≠0))=false by rw[aN q];rfl];clear q;go_enter func128,ntmps128
  go_wp2_with fail
  (refine aF zY zY ?_;(repeat go_big_quiet_step (first|exact QA.o _ _));refine aQ ?_)
  rintro _ ⟨⟨dq,osq⟩,rfl⟩;have u:=aI ((w.alloc (.cells s 38)).alloc (.cells (yZ x A0 y c0 A1 nD c1 (some ad) n c2) 105)) dq osq;generalize grow (redrawn ((w.alloc (.cells s 38)).alloc (.cells (yZ x A0 y c0 A1 nD c1 (some ad) n c2) 105)) dq) osq=w5 at u;have S5:=HS.o.B u;have l:=aa.o.B u;have B5:=zq (HB.o.T (u.M HB.o.size));have ay:=l.c4;have az:=l.c6;have a0:=l.c8;have av:=l.lt;have aw:=S5.lt;have aj:=zq l;clear u S5 l;clear t4 t8 u0 u1 u2 u3 u4 u5 u6 u7 u8 QA ax;go_wp2
  go_ret
  exact⟨rfl,B5.o⟩
 have q1:=Qy q;rw[show(!decide (bb≠0))=true by rw[q];rfl,Bool.true_and];obtain⟨r,hr⟩:∃r,x.rows.all (Cy x)=r:=zJ;rw[hr];have aq:=zq hr;clear q hr;go_enter func128,ntmps128
 go_wp2_with fail
 (refine aF zY zY ?_;(repeat go_big_quiet_step (first|exact QA.o _ _));refine aQ ?_)
 rintro _ ⟨⟨dq,osq⟩,rfl⟩;have u:=aI ((w.alloc (.cells s 38)).alloc (.cells (yZ x A0 y c0 A1 nD c1 (some ad) n c2) 105)) dq osq;generalize grow (redrawn ((w.alloc (.cells s 38)).alloc (.cells (yZ x A0 y c0 A1 nD c1 (some ad) n c2) 105)) dq) osq=w5 at u;have S5:=HS.o.B u;have l:=aa.o.B u;have B5:=zq (HB.o.T (u.M HB.o.size));have ay:=l.c4;have az:=l.c6;have a0:=l.c8;have av:=l.lt;have aw:=S5.lt;have aj:=zq l;clear u S5 l;clear t4 t8 u0 u1 u2 u3 u4 u5 u6 u7 u8 QA ax ar au;go_wp2_with fail
 obtain⟨Aq,cq,eq,-,-,hx⟩:=AW.open_ H0.o;rw[ai.o]at eq;injection eq with a4 _ a5
 subst a4 a5;have HX:=zq hx;clear hx;go_loopw [5] (fun i wr =>∃k:Nat,k<=y/\i=k/\Hid ((x.rows.take k).all (Cy x)=true)/\Hid (Below w5 w5 wr)) (fun i _ => y - (intOf i).toNat)
 ·exact⟨0,by omega,rfl,(show _=_ by simp),aC _ _⟩
 ·obtain⟨k,hk,rfl,HT,ae⟩:=hrel;have ab:=zq (B5.o.T (ae.o.M B5.o.size));have RW:=aj.o.B ae.o;have z6:=RW.c6;have bi:=aB z6;have bj:=aB RW.c8;have bh:=RW.lt;clear RW;by_cases a7:k<y
  ·have z:k<x.rows.length:=by rw[ai.o];exact a7
   obtain⟨a3,e1,-,b1,p1,-⟩:=HX.o k z;subst e1;have a8:=aB ((ab.o.cell (p:=a3.add k) b1).T p1);have bg:(k:Int)<(y:Int):=by omega
   obtain⟨k0,k1⟩:=ak.o _ (aT z);obtain⟨bf,b4,ea,l4,p4,ag⟩:=Jw H2.o k0 k1;injection ea with ea
   subst ea;have a9:=aB ((ab.o.cell (p:=ad.add (x.rows[k]'z).toNat) l4).T p4);obtain⟨xk,ap⟩:∃xk,x.rows[k] =xk:=zJ;rw[ap]at a8 a9 k0 k1;by_cases q4:b4=0
   ·have q5:=MB q4;have e1:r=false:=aq.o.symm.T (all_bad z (by rw[ag,q4];rfl));subst e1;clear p1 b1 ap z p4 l4 ag q4;go_wp2_with fail
    (refine aF zY zY ?_;(repeat go_big_quiet_step (fail));refine aQ ?_)
    rintro _ ⟨⟨dq,osq⟩,rfl⟩;have ah:=zq (ab.o.T ((aI wr dq osq).M ab.o.size));go_wp2
    go_ret
    exact⟨rfl,ah.o⟩
   ·have q5:=MA q4;have a2:=zq (Oc HT.o z (by rw[ag];exact aN q4));clear p1 b1 ap z p4 l4 ag q4;go_wp2_with fail
    (refine aF zY zY ?_;(repeat go_big_quiet_step (fail));refine aQ ?_)
    rintro _ ⟨⟨dq,osq⟩,rfl⟩;have ah:=zq (ae.o.T ((aI wr dq osq).M ae.o.size));go_wp2
    go_roundw
    ·exact⟨k+1,by omega,by go_num,a2.o,ah.o⟩
    ·simp[intOf];omega
  ·obtain rfl:k=y:=by omega
   have e1:r=true:=by
    have:=HT.o;rw[bB (by rw[ai.o];exact aD _)]at this;exact aq.o.symm.T this
   subst e1;go_wp2
   go_ret
   exact⟨rfl,ab.o⟩
