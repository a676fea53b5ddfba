/- Part 25 of the proof. -/
import Derived.Test.YtfjkoifpdoemdaaGreatJ21
import Derived.Test.YtfjkoifpdoemdaaGreatJ11
set_option maxHeartbeats 8000000
set_option maxRecDepth 100000
set_option linter.unusedVariables false
set_option linter.unusedSimpArgs false
open Go.Proofs.Tryz
open Go.Value (int)
open Go.IntKind (i64)
namespace Go.Proofs.YtfjkoifpdoemdaaGreat
open Go.RowKit Go.Lib Go.Sort
def D5(s:Sh)(x:Ah):Int:=if C7 x.name.data.toList=true then(if Ch s x=true then 0 else 3)else 5
theorem Mj {s:Sh} {x:Ah}(h:¬C7 x.name.data.toList=true):D5 s x=5:=by unfold D5;rw[aI h]
theorem MW {s:Sh} {x:Ah}(h:C7 x.name.data.toList=true)(h2:Ch s x=true):D5 s x=0:=by unfold D5;rw[aL h,aL h2]
theorem NX {s:Sh} {x:Ah}(h:C7 x.name.data.toList=true)(h2:Ch s x=false):D5 s x=3:=by unfold D5;rw[aL h,aI (by rw[h2];decide)]
theorem NL {l:List Int} {hi:Int} {k m:Nat}(h:C4 l hi m)(hk:k≤m):C4 l hi k:=fun i hi h2 => h i hi (by omega)
theorem NZ(s:Sh)(hs:s.Ok)(x:Ah)(cs:List Value)(f:List Addr)(w:World)(h:Ac w f cs x) :
  Calls prog 246 #[shV s,.agg cs.toArray] w fun e w' => e= .returned (int i64 (D5 s x))∧Below w.heap.size w w':=by
 dsimp only[Ac]at h;obtain⟨v0,v1,v2,f0,f1,f2,rfl,rfl,o0,o1,o2,o3,o4,o5,h0,h1,h2⟩:=h;obtain⟨A0,c0,rfl,k0,m0⟩:=rSl.head h0;obtain⟨A1,c1,rfl,k1,m1⟩:=rSl.head h1;obtain⟨A2,c2,rfl,k2,m2⟩:=rSl.head h2;have H0:=U h0;have H1:=U h1;have H2:=U h2;obtain⟨nR,hnR⟩:∃nR,x.rows.length=nR:=⟨_,rfl⟩;obtain⟨nD,hnD⟩:∃nD,x.data.length=nD:=⟨_,rfl⟩;obtain⟨nE,hnE⟩:∃nE,x.delta.length=nE:=⟨_,rfl⟩;have HNR:=U hnR;have HND:=U hnD;have HNE:=U hnE;rw[hnR]at H0 k0⊢;rw[hnD]at H1 k1⊢;rw[hnE]at H2 k2⊢;have K1:=(Blk.new w 31 #[int i64 s.g,int i64 s.c,int i64 s.data,int i64 s.p,int i64 s.rows,int i64 s.cap,int i64 s.b,int i64 s.q,int i64 s.t]).alloc (.cells #[int i64 x.kind,int i64 x.seq,.string x.name,int i64 x.length,int i64 x.group,int i64 x.row,.slice A0 nR c0,.slice A1 nD c1,.slice A2 nE c2] 119);have K2:=Blk.new1 w (.cells #[int i64 s.g,int i64 s.c,int i64 s.data,int i64 s.p,int i64 s.rows,int i64 s.cap,int i64 s.b,int i64 s.q,int i64 s.t] 31) 119 #[int i64 x.kind,int i64 x.seq,.string x.name,int i64 x.length,int i64 x.group,int i64 x.row,.slice A0 nR c0,.slice A1 nD c1,.slice A2 nE c2];have hB:Below w.heap.size w ((w.alloc (.cells #[int i64 s.g,int i64 s.c,int i64 s.data,int i64 s.p,int i64 s.rows,int i64 s.cap,int i64 s.b,int i64 s.q,int i64 s.t] 31)).alloc (.cells #[int i64 x.kind,int i64 x.seq,.string x.name,int i64 x.length,int i64 x.group,int i64 x.row,.slice A0 nR c0,.slice A1 nD c1,.slice A2 nE c2] 119)):=((aB _ _).alloc (aC _) _).alloc (by simp) _;have HB:=U hB;have S2:=DK.of K1;have R2:=Dg.of K2;have HS:=U S2;have HRC:=U R2;clear h0 h1 h2 hnR hnD hnE K1 K2 hB;have HIC:=U (LP s x);obtain⟨r,hr⟩:∃r,D5 s x=r:=⟨_,rfl⟩;rw[hr];have HR:=U hr;obtain⟨b,hb⟩:∃b,Ch s x=b:=⟨_,rfl⟩;rw[hb]at HIC;have HBB:=U hb;have hlo:=HS.o.lt;have hlr:=HRC.o.lt;have r2:=HRC.o.c2;rw[HNR.o,HND.o]at HIC;have HNF:=U (Ks x.name ((w.alloc (.cells #[int i64 s.g,int i64 s.c,int i64 s.data,int i64 s.p,int i64 s.rows,int i64 s.cap,int i64 s.b,int i64 s.q,int i64 s.t] 31)).alloc (.cells #[int i64 x.kind,int i64 x.seq,.string x.name,int i64 x.length,int i64 x.group,int i64 x.row,.slice A0 nR c0,.slice A1 nD c1,.slice A2 nE c2] 119)) o2);unfold shV;by_cases q0:C7 x.name.data.toList=true
 case neg =>
  have e1:r=5:=hr.symm.trans (Mj q0);have e2:BQ x.name.data.toList=5:=by unfold BQ;rw[aI q0]
  rw[e2]at HNF;subst e1;clear hr hb q0 e2;go_enter func246,ntmps246
  go_wp2_with (first
  |(refine aD rfl 31 _ rfl w.heap.size 0 rfl _ _ HS3.o.rng underlying31 rfl (by kernel_rfl) ?_)
  |(go_at_call 72;refine HNF.o.mono ?_;rintro e w3 ⟨rfl,b3⟩;have S3:=HS.o.below b3;have R3:=HRC.o.below b3;have B3:=U (HB.o.trans (b3.mono HB.o.size));have x33:=R3.c3;have x36:=R3.c6;have x37:=R3.c7;have lr3:=R3.lt;have ls3:=S3.lt;have HS3:=U S3;have HR3:=U R3;clear b3 S3 R3)
  |(go_at_call 225;refine(HPT.o w3).mono ?_;rintro e w4 ⟨rfl,b4⟩;have S4:=HS3.o.below b4;have R4:=HR3.o.below b4;have B4:=U (B3.o.trans (b4.mono B3.o.size));have x43:=R4.c3;have x46:=R4.c6;have x47:=R4.c7;have lr4:=R4.lt;have ls4:=S4.lt;have HS4:=U S4;have HR4:=U R4;clear b4 S4 R4))
  go_ret
  exact⟨rfl,B3.o⟩
 have e2:BQ x.name.data.toList=0:=by unfold BQ;rw[aL q0]
 rw[e2]at HNF;have HYES:=U (show b=true→r=0 from fun e => hr.symm.trans (MW q0 (hb.trans e)));have HNO:=U (show b=false→r=3 from fun e => hr.symm.trans (NX q0 (hb.trans e)));clear hr hb q0 e2;by_cases q1:x.length= -1
 ·have hq:(x.length == -1)=true:=Ek q1;have hbv:(decide (nD=0) && decide (nR=0))=b:=by
   have:=HBB.o;unfold Ch at this;rw[aL q1,HND.o,HNR.o]at this;exact this
  by_cases q2:nD=0
  ·have hq2:¬(0:Int)<(nD:Int):=by omega
   have hq2n:¬0<nD:=by omega
   by_cases q3:nR=0
   ·have hq3:¬(0:Int)<(nR:Int):=by omega
    have hq3n:¬0<nR:=by omega
    have e1:=HYES.o (by rw[← hbv,aK q2,aK q3];rfl);subst e1;clear hbv q2 q3 q1;go_enter func246,ntmps246
    go_wp2_with (first
  |(refine aD rfl 31 _ rfl w.heap.size 0 rfl _ _ HS3.o.rng underlying31 rfl (by kernel_rfl) ?_)
  |(go_at_call 72;refine HNF.o.mono ?_;rintro e w3 ⟨rfl,b3⟩;have S3:=HS.o.below b3;have R3:=HRC.o.below b3;have B3:=U (HB.o.trans (b3.mono HB.o.size));have x33:=R3.c3;have x36:=R3.c6;have x37:=R3.c7;have lr3:=R3.lt;have ls3:=S3.lt;have HS3:=U S3;have HR3:=U R3;clear b3 S3 R3)
  |(go_at_call 225;refine(HPT.o w3).mono ?_;rintro e w4 ⟨rfl,b4⟩;have S4:=HS3.o.below b4;have R4:=HR3.o.below b4;have B4:=U (B3.o.trans (b4.mono B3.o.size));have x43:=R4.c3;have x46:=R4.c6;have x47:=R4.c7;have lr4:=R4.lt;have ls4:=S4.lt;have HS4:=U S4;have HR4:=U R4;clear b4 S4 R4))
    go_ret
    exact⟨rfl,B3.o⟩
   ·have hq3:(0:Int)<(nR:Int):=by omega
    have hq3n:0<nR:=by omega
    have e1:=HNO.o (by rw[← hbv,aK q2,aG q3];rfl);subst e1;clear hbv q2 q3 q1;go_enter func246,ntmps246
    go_wp2_with (first
  |(refine aD rfl 31 _ rfl w.heap.size 0 rfl _ _ HS3.o.rng underlying31 rfl (by kernel_rfl) ?_)
  |(go_at_call 72;refine HNF.o.mono ?_;rintro e w3 ⟨rfl,b3⟩;have S3:=HS.o.below b3;have R3:=HRC.o.below b3;have B3:=U (HB.o.trans (b3.mono HB.o.size));have x33:=R3.c3;have x36:=R3.c6;have x37:=R3.c7;have lr3:=R3.lt;have ls3:=S3.lt;have HS3:=U S3;have HR3:=U R3;clear b3 S3 R3)
  |(go_at_call 225;refine(HPT.o w3).mono ?_;rintro e w4 ⟨rfl,b4⟩;have S4:=HS3.o.below b4;have R4:=HR3.o.below b4;have B4:=U (B3.o.trans (b4.mono B3.o.size));have x43:=R4.c3;have x46:=R4.c6;have x47:=R4.c7;have lr4:=R4.lt;have ls4:=S4.lt;have HS4:=U S4;have HR4:=U R4;clear b4 S4 R4))
    go_ret
    exact⟨rfl,B3.o⟩
  ·have hq2:(0:Int)<(nD:Int):=by omega
   have hq2n:0<nD:=by omega
   have e1:=HNO.o (by rw[← hbv,aG q2];rfl);subst e1;clear hbv q2 q1;go_enter func246,ntmps246
   go_wp2_with (first
  |(refine aD rfl 31 _ rfl w.heap.size 0 rfl _ _ HS3.o.rng underlying31 rfl (by kernel_rfl) ?_)
  |(go_at_call 72;refine HNF.o.mono ?_;rintro e w3 ⟨rfl,b3⟩;have S3:=HS.o.below b3;have R3:=HRC.o.below b3;have B3:=U (HB.o.trans (b3.mono HB.o.size));have x33:=R3.c3;have x36:=R3.c6;have x37:=R3.c7;have lr3:=R3.lt;have ls3:=S3.lt;have HS3:=U S3;have HR3:=U R3;clear b3 S3 R3)
  |(go_at_call 225;refine(HPT.o w3).mono ?_;rintro e w4 ⟨rfl,b4⟩;have S4:=HS3.o.below b4;have R4:=HR3.o.below b4;have B4:=U (B3.o.trans (b4.mono B3.o.size));have x43:=R4.c3;have x46:=R4.c6;have x47:=R4.c7;have lr4:=R4.lt;have ls4:=S4.lt;have HS4:=U S4;have HR4:=U R4;clear b4 S4 R4))
   go_ret
   exact⟨rfl,B3.o⟩
 ·have hq:(x.length == -1)=false:=Dp q1;have HPT:=U (fun(W:World) => parts_c s hs x.length o3 W);have HPL:=U (IF (s:=s) (n:=x.length));obtain⟨lc,hlc⟩:∃lc,CK s x.length=lc:=⟨_,rfl⟩;rw[hlc]at HPT HPL;unfold shV at HPT;by_cases q2:lc=0
  case neg =>
   have e1:b=false:=by
    have hp:DG s x.length=false:=by
     cases h:DG s x.length with
     |false => rfl
     |true => exact absurd (HPL.o.2 h) q2
    rw[← HBB.o];unfold Ch;rw[aI q1,hp];rfl
   have e2:=HNO.o e1;subst e2;have hl0:(lc != 0)=true:=by simpa using q2
   rw[aI q2]at HPT;clear hlc;go_enter func246,ntmps246
   go_wp2_with (first
  |(refine aD rfl 31 _ rfl w.heap.size 0 rfl _ _ HS3.o.rng underlying31 rfl (by kernel_rfl) ?_)
  |(go_at_call 72;refine HNF.o.mono ?_;rintro e w3 ⟨rfl,b3⟩;have S3:=HS.o.below b3;have R3:=HRC.o.below b3;have B3:=U (HB.o.trans (b3.mono HB.o.size));have x33:=R3.c3;have x36:=R3.c6;have x37:=R3.c7;have lr3:=R3.lt;have ls3:=S3.lt;have HS3:=U S3;have HR3:=U R3;clear b3 S3 R3)
  |(go_at_call 225;refine(HPT.o w3).mono ?_;rintro e w4 ⟨rfl,b4⟩;have S4:=HS3.o.below b4;have R4:=HR3.o.below b4;have B4:=U (B3.o.trans (b4.mono B3.o.size));have x43:=R4.c3;have x46:=R4.c6;have x47:=R4.c7;have lr4:=R4.lt;have ls4:=S4.lt;have HS4:=U S4;have HR4:=U R4;clear b4 S4 R4))
   go_ret
   exact⟨rfl,B4.o⟩
  have hp:DG s x.length=true:=HPL.o.1 q2;have hpb:1≤x.length∧x.length≤12 * s.data:=by unfold DG at hp;exact bO hp
  have HIC2:=HIC.o hp q1;rw[q2,aL rfl]at HPT;obtain⟨d1,d2⟩:=hs.rows;have ew:IntKind.i64.wrap (s.rows - 1)=s.rows - 1:=IntWalk.i64_in _ (by omega);obtain⟨hi,hhi⟩:∃hi,s.rows - 1=hi:=⟨_,rfl⟩;have HRI:=U (fun(v:Int) (W:World) => Lr s hs v W);have HPR:=U hpb.1;obtain⟨pn,hpn⟩:∃pn,CT s x.length=pn:=⟨_,rfl⟩;rw[hpn]at HPT HIC2;rw[hhi]at HIC2 HRI;unfold shV at HRI;clear q2 hp d1 d2 hpn hlc hs hpb ew hhi HIC;refine HIC2 _ ?_ ?_ ?_ ?_ ?_
  ·intro z y hbv;have y':((nR:Int) == pn)=true:=Ek y;have z1:((nD:Int) == 0)=true:=Hu z;have z2:((nD:Int) == x.length)=false:=Dp (by have:=HPR.o;omega);clear HIC2 z y q1;go_enter func246,ntmps246
   go_wp2_with (first
  |(refine aD rfl 31 _ rfl w.heap.size 0 rfl _ _ HS3.o.rng underlying31 rfl (by kernel_rfl) ?_)
  |(go_at_call 72;refine HNF.o.mono ?_;rintro e w3 ⟨rfl,b3⟩;have S3:=HS.o.below b3;have R3:=HRC.o.below b3;have B3:=U (HB.o.trans (b3.mono HB.o.size));have x33:=R3.c3;have x36:=R3.c6;have x37:=R3.c7;have lr3:=R3.lt;have ls3:=S3.lt;have HS3:=U S3;have HR3:=U R3;clear b3 S3 R3)
  |(go_at_call 225;refine(HPT.o w3).mono ?_;rintro e w4 ⟨rfl,b4⟩;have S4:=HS3.o.below b4;have R4:=HR3.o.below b4;have B4:=U (B3.o.trans (b4.mono B3.o.size));have x43:=R4.c3;have x46:=R4.c6;have x47:=R4.c7;have lr4:=R4.lt;have ls4:=S4.lt;have HS4:=U S4;have HR4:=U R4;clear b4 S4 R4))
   have c3:=aA x43;have c6:=aA x46;have c7:=aA x47;have QSZ:=U (BD (w:=w4) (fun W => C3 A1 nD c1 W))
   (refine aF (by kernel_rfl) (by kernel_rfl) ?_;(repeat(first|go_big_quiet_step (first|exact QSZ.o _ _)|quiet_step (first|exact QSZ.o _ _)));refine aP ?_)
   rintro _ ⟨⟨dq,osq⟩,rfl⟩;have b5:=aH w4 dq osq;generalize grow (redrawn w4 dq) osq=w5 at b5;have S5:=HS4.o.below b5;have R5:=HR4.o.below b5;have B5:=U (B4.o.trans (b5.mono B4.o.size));have x53:=R5.c3;have x56:=R5.c6;have x57:=R5.c7;have lr5:=R5.lt;have ls5:=S5.lt;have HS5:=U S5;have HR5:=U R5;clear b5 S5 R5;clear c3 c6 c7 QSZ x43 x46 x47 x33 x36 x37;go_wp2_with (go_at_call 174;refine(D6 _ _ _ _).mono ?_;rintro e w' ⟨rfl,rfl⟩)
   obtain⟨Aq,cq,eq,-,-,hx⟩:=AO.open_ H0.o;rw[HNR.o]at eq;injection eq with eq1 _ eq3
   subst eq1 eq3;have HX:=U hx;clear hx;go_loopw [66,10,11,9] (fun i _ _ rb wr =>∃(k:Nat) (fb:Bool),k≤nR∧i= int i64 k∧rb= .bool fb∧Hid (fb=decide (C4 x.rows hi k))∧Hid (Below w5.heap.size w5 wr)) (fun i _ _ _ _ => nR - (intOf i).toNat)
   case atStart => exact⟨0,true,by omega,rfl,rfl,(show true=_ from(aK (Ha _ _)).symm),aB _ _⟩
   case round =>
    obtain⟨k,fb,hk,rfl,rfl,HF,HBW⟩:=hrel;have HBA:=U (B5.o.trans (HBW.o.mono B5.o.size));by_cases hlt:k<nR
    ·have hk1:k<x.rows.length:=by rw[HNR.o];exact hlt
     obtain⟨ad,e1,-,b1,p1,-⟩:=HX.o k hk1;subst e1;have p1':=(HBA.o.cell (p:=ad.add k) b1).trans p1;have hki:(k:Int)<(nR:Int):=by omega
     obtain⟨xk,hxk⟩:∃xk,x.rows[k] =xk:=⟨_,rfl⟩;rw[hxk]at p1';cases fb with
     |false =>
      have hnf:¬C4 x.rows hi (k+1):=fun h => of_decide_eq_false HF.o.symm (NL h (by omega))
      have HNF2:=U hnf;clear p1 b1 hxk hk1 hnf;go_wp2_with fail
      go_roundw
      case rel => exact⟨k+1,false,by omega,by go_num,rfl,(aG HNF2.o).symm,HBW.o⟩
      case measure => simp[intOf];omega
     |true =>
      have hap:C4 x.rows hi k:=bO HF.o.symm;have HSR:=U (HS5.o.below HBW.o);have HRR:=HR5.o.below HBW.o;have xr6:=HRR.c6;have lrr:=HRR.lt;have lsr:=HSR.o.lt;have y0:=HSR.o.c0;have y1:=HSR.o.c1;have y2:=HSR.o.c2;have y3:=HSR.o.c3;have y4:=HSR.o.c4;have y5:=HSR.o.c5;have y6:=HSR.o.c6;have y7:=HSR.o.c7;have y8:=HSR.o.c8;have hki2:(k:Int)≤(nR:Int):=by omega
      have hki3:(k:Int)≤(c0:Int):=by omega
      have hkc:k≤c0:=by omega
      obtain⟨q1',q2',hp',-,-⟩:=rSl.split (j:=k) H0.o (by omega);have HCT:=U (fun(W:World) (hW:Below wr.heap.size wr W) => Hv _ (x.rows.take k) xk q1' W (rSl.below Az.local_ Az.fixed hp' (HBA.o.trans (hW.mono HBA.o.size))));cases hin:Ap xk 0 hi with
      |false =>
       have hnf:¬C4 x.rows hi (k+1):=Ib hk1 (.inl (by rw[hxk];exact hin)) (k+1) (by omega);have HNF2:=U hnf;have HRI2:=U (HRI.o xk);rw[hin]at HRI2;clear p1 b1 hxk hk1 hnf hap hin hp' HRR;go_wp2_with (first
      |(go_at_call 45;refine(HRI2.o _).mono ?_;rintro e w6 ⟨rfl,b6⟩;have B6:=U b6;have y6:=(b6.cell (p:=⟨w.heap.size+1,6,none⟩) lrr).trans xr6;have lr6:=aE lrr b6.size;clear b6)
      |(go_at_call 173;refine(HCT.o _ B6.o).mono ?_;rintro e w7 ⟨rfl,b7⟩;have B7:=U b7;clear b7))
       go_roundw
       case rel => exact⟨k+1,false,by omega,by go_num,rfl,(aG HNF2.o).symm,HBW.o.trans (B6.o.mono HBW.o.size)⟩
       case measure => simp[intOf];omega
      |true =>
       have HRI2:=U (HRI.o xk);rw[hin]at HRI2;cases hme:decide (xk∈x.rows.take k)with
       |true =>
        rw[hme]at HCT;have hnf:¬C4 x.rows hi (k+1):=Ib hk1 (.inr (by rw[hxk];exact bO hme)) (k+1) (by omega);have HNF2:=U hnf;clear p1 b1 hxk hk1 hnf hap hin hp' HRR hme;go_wp2_with (first
      |(go_at_call 45;refine(HRI2.o _).mono ?_;rintro e w6 ⟨rfl,b6⟩;have B6:=U b6;have y6:=(b6.cell (p:=⟨w.heap.size+1,6,none⟩) lrr).trans xr6;have lr6:=aE lrr b6.size;clear b6)
      |(go_at_call 173;refine(HCT.o _ B6.o).mono ?_;rintro e w7 ⟨rfl,b7⟩;have B7:=U b7;clear b7))
        go_roundw
        case rel => exact⟨k+1,false,by omega,by go_num,rfl,(aG HNF2.o).symm,HBW.o.trans ((B6.o.trans (B7.o.mono B6.o.size)).mono HBW.o.size)⟩
        case measure => simp[intOf];omega
       |false =>
        rw[hme]at HCT;have HYS:=U (G7 hap hk1 (by rw[hxk];exact hin) (by rw[hxk];exact of_decide_eq_false hme));clear p1 b1 hxk hk1 hap hin hp' HRR hme;go_wp2_with (first
      |(go_at_call 45;refine(HRI2.o _).mono ?_;rintro e w6 ⟨rfl,b6⟩;have B6:=U b6;have y6:=(b6.cell (p:=⟨w.heap.size+1,6,none⟩) lrr).trans xr6;have lr6:=aE lrr b6.size;clear b6)
      |(go_at_call 173;refine(HCT.o _ B6.o).mono ?_;rintro e w7 ⟨rfl,b7⟩;have B7:=U b7;clear b7))
        go_roundw
        case rel => exact⟨k+1,true,by omega,by go_num,rfl,(aK HYS.o).symm,HBW.o.trans ((B6.o.trans (B7.o.mono B6.o.size)).mono HBW.o.size)⟩
        case measure => simp[intOf];omega
    ·obtain rfl:k=nR:=by omega
     have hfb:fb=b:=by
      rw[hbv];unfold DD;rw[HNR.o];exact HF.o
     cases fb with
     |true =>
      have e1:=HYES.o hfb.symm;subst e1;clear hfb hbv;go_wp2_with fail
      go_ret
      exact⟨rfl,HBA.o⟩
     |false =>
      have e1:=HNO.o hfb.symm;subst e1;clear hfb hbv;go_wp2_with fail
      go_ret
      exact⟨rfl,HBA.o⟩
  ·intro z y hbv;have y':((nR:Int) == pn)=false:=Dp y;have z1:((nD:Int) == 0)=true:=Hu z;have z2:((nD:Int) == x.length)=false:=Dp (by have:=HPR.o;omega);have e1:=HNO.o hbv;subst e1;clear HIC2 z y q1 hbv;go_enter func246,ntmps246
   go_wp2_with (first
  |(refine aD rfl 31 _ rfl w.heap.size 0 rfl _ _ HS3.o.rng underlying31 rfl (by kernel_rfl) ?_)
  |(go_at_call 72;refine HNF.o.mono ?_;rintro e w3 ⟨rfl,b3⟩;have S3:=HS.o.below b3;have R3:=HRC.o.below b3;have B3:=U (HB.o.trans (b3.mono HB.o.size));have x33:=R3.c3;have x36:=R3.c6;have x37:=R3.c7;have lr3:=R3.lt;have ls3:=S3.lt;have HS3:=U S3;have HR3:=U R3;clear b3 S3 R3)
  |(go_at_call 225;refine(HPT.o w3).mono ?_;rintro e w4 ⟨rfl,b4⟩;have S4:=HS3.o.below b4;have R4:=HR3.o.below b4;have B4:=U (B3.o.trans (b4.mono B3.o.size));have x43:=R4.c3;have x46:=R4.c6;have x47:=R4.c7;have lr4:=R4.lt;have ls4:=S4.lt;have HS4:=U S4;have HR4:=U R4;clear b4 S4 R4))
   have c3:=aA x43;have c6:=aA x46;have c7:=aA x47;have QSZ:=U (BD (w:=w4) (fun W => C3 A1 nD c1 W))
   (refine aF (by kernel_rfl) (by kernel_rfl) ?_;(repeat(first|go_big_quiet_step (first|exact QSZ.o _ _)|quiet_step (first|exact QSZ.o _ _)));refine aP ?_)
   rintro _ ⟨⟨dq,osq⟩,rfl⟩;have b5:=aH w4 dq osq;generalize grow (redrawn w4 dq) osq=w5 at b5;have S5:=HS4.o.below b5;have R5:=HR4.o.below b5;have B5:=U (B4.o.trans (b5.mono B4.o.size));have x53:=R5.c3;have x56:=R5.c6;have x57:=R5.c7;have lr5:=R5.lt;have ls5:=S5.lt;have HS5:=U S5;have HR5:=U R5;clear b5 S5 R5;clear c3 c6 c7 QSZ x43 x46 x47 x33 x36 x37;go_wp2_with (go_at_call 174;refine(D6 _ _ _ _).mono ?_;rintro e w' ⟨rfl,rfl⟩)
   obtain⟨Aq,cq,eq,-,-,hx⟩:=AO.open_ H0.o;rw[HNR.o]at eq;injection eq with eq1 _ eq3
   subst eq1 eq3;have HX:=U hx;clear hx;go_loopw [66,10,11,9] (fun i _ _ rb wr =>∃k:Nat,k≤nR∧i= int i64 k∧rb= .bool false∧Hid (Below w5.heap.size w5 wr)) (fun i _ _ _ _ => nR - (intOf i).toNat)
   case atStart => exact⟨0,by omega,rfl,rfl,aB _ _⟩
   case round =>
    obtain⟨k,hk,rfl,rfl,HBW⟩:=hrel;by_cases hlt:k<nR
    ·have hk1:k<x.rows.length:=by rw[HNR.o];exact hlt
     obtain⟨ad,e1,-,b1,p1,-⟩:=HX.o k hk1;subst e1;have p1':=((B5.o.trans (HBW.o.mono B5.o.size)).cell (p:=ad.add k) b1).trans p1;have hki:(k:Int)<(nR:Int):=by omega
     obtain⟨xk,hxk⟩:∃xk,x.rows[k] =xk:=⟨_,rfl⟩;rw[hxk]at p1';clear p1 b1 hxk hk1;go_wp2_with fail
     go_roundw
     case rel => exact⟨k+1,by omega,by go_num,rfl,HBW.o⟩
     case measure => simp[intOf];omega
    ·obtain rfl:k=nR:=by omega
     go_wp2_with fail
     go_ret
     exact⟨rfl,B5.o.trans (HBW.o.mono B5.o.size)⟩
  ·intro z y g hbv;have y':((nD:Int) == x.length)=true:=Ek y;have z1:((nD:Int) == 0)=false:=ES z;have g':((nR:Int) == 0)=true:=Hu g;have e1:=HYES.o hbv;subst e1;clear HIC2 z y q1 hbv g;go_enter func246,ntmps246
   go_wp2_with (first
  |(refine aD rfl 31 _ rfl w.heap.size 0 rfl _ _ HS3.o.rng underlying31 rfl (by kernel_rfl) ?_)
  |(go_at_call 72;refine HNF.o.mono ?_;rintro e w3 ⟨rfl,b3⟩;have S3:=HS.o.below b3;have R3:=HRC.o.below b3;have B3:=U (HB.o.trans (b3.mono HB.o.size));have x33:=R3.c3;have x36:=R3.c6;have x37:=R3.c7;have lr3:=R3.lt;have ls3:=S3.lt;have HS3:=U S3;have HR3:=U R3;clear b3 S3 R3)
  |(go_at_call 225;refine(HPT.o w3).mono ?_;rintro e w4 ⟨rfl,b4⟩;have S4:=HS3.o.below b4;have R4:=HR3.o.below b4;have B4:=U (B3.o.trans (b4.mono B3.o.size));have x43:=R4.c3;have x46:=R4.c6;have x47:=R4.c7;have lr4:=R4.lt;have ls4:=S4.lt;have HS4:=U S4;have HR4:=U R4;clear b4 S4 R4))
   have c3:=aA x43;have c6:=aA x46;have c7:=aA x47;have QSZ:=U (BD (w:=w4) (fun W => C3 A1 nD c1 W))
   (refine aF (by kernel_rfl) (by kernel_rfl) ?_;(repeat(first|go_big_quiet_step (first|exact QSZ.o _ _)|quiet_step (first|exact QSZ.o _ _)));refine aP ?_)
   rintro _ ⟨⟨dq,osq⟩,rfl⟩;have b5:=aH w4 dq osq;generalize grow (redrawn w4 dq) osq=w5 at b5;have S5:=HS4.o.below b5;have R5:=HR4.o.below b5;have B5:=U (B4.o.trans (b5.mono B4.o.size));have x53:=R5.c3;have x56:=R5.c6;have x57:=R5.c7;have lr5:=R5.lt;have ls5:=S5.lt;have HS5:=U S5;have HR5:=U R5;clear b5 S5 R5;clear c3 c6 c7 QSZ x43 x46 x47 x33 x36 x37;go_wp2_with (go_at_call 174;refine(D6 _ _ _ _).mono ?_;rintro e w' ⟨rfl,rfl⟩)
   obtain⟨Aq,cq,eq,-,-,hx⟩:=AO.open_ H0.o;rw[HNR.o]at eq;injection eq with eq1 _ eq3
   subst eq1 eq3;have HX:=U hx;clear hx;go_loopw [66,10,11,9] (fun i _ _ rb wr =>∃k:Nat,k≤nR∧i= int i64 k∧rb= .bool false∧Hid (Below w5.heap.size w5 wr)) (fun i _ _ _ _ => nR - (intOf i).toNat)
   case atStart => exact⟨0,by omega,rfl,rfl,aB _ _⟩
   case round =>
    obtain⟨k,hk,rfl,rfl,HBW⟩:=hrel;by_cases hlt:k<nR
    ·have hk1:k<x.rows.length:=by rw[HNR.o];exact hlt
     obtain⟨ad,e1,-,b1,p1,-⟩:=HX.o k hk1;subst e1;have p1':=((B5.o.trans (HBW.o.mono B5.o.size)).cell (p:=ad.add k) b1).trans p1;have hki:(k:Int)<(nR:Int):=by omega
     obtain⟨xk,hxk⟩:∃xk,x.rows[k] =xk:=⟨_,rfl⟩;rw[hxk]at p1';clear p1 b1 hxk hk1;go_wp2_with fail
     go_roundw
     case rel => exact⟨k+1,by omega,by go_num,rfl,HBW.o⟩
     case measure => simp[intOf];omega
    ·obtain rfl:k=nR:=by omega
     go_wp2_with fail
     go_ret
     exact⟨rfl,B5.o.trans (HBW.o.mono B5.o.size)⟩
  ·intro z y g hbv;have y':((nD:Int) == x.length)=true:=Ek y;have z1:((nD:Int) == 0)=false:=ES z;have g':((nR:Int) == 0)=false:=ES g;have e1:=HNO.o hbv;subst e1;clear HIC2 z y q1 hbv g;go_enter func246,ntmps246
   go_wp2_with (first
  |(refine aD rfl 31 _ rfl w.heap.size 0 rfl _ _ HS3.o.rng underlying31 rfl (by kernel_rfl) ?_)
  |(go_at_call 72;refine HNF.o.mono ?_;rintro e w3 ⟨rfl,b3⟩;have S3:=HS.o.below b3;have R3:=HRC.o.below b3;have B3:=U (HB.o.trans (b3.mono HB.o.size));have x33:=R3.c3;have x36:=R3.c6;have x37:=R3.c7;have lr3:=R3.lt;have ls3:=S3.lt;have HS3:=U S3;have HR3:=U R3;clear b3 S3 R3)
  |(go_at_call 225;refine(HPT.o w3).mono ?_;rintro e w4 ⟨rfl,b4⟩;have S4:=HS3.o.below b4;have R4:=HR3.o.below b4;have B4:=U (B3.o.trans (b4.mono B3.o.size));have x43:=R4.c3;have x46:=R4.c6;have x47:=R4.c7;have lr4:=R4.lt;have ls4:=S4.lt;have HS4:=U S4;have HR4:=U R4;clear b4 S4 R4))
   have c3:=aA x43;have c6:=aA x46;have c7:=aA x47;have QSZ:=U (BD (w:=w4) (fun W => C3 A1 nD c1 W))
   (refine aF (by kernel_rfl) (by kernel_rfl) ?_;(repeat(first|go_big_quiet_step (first|exact QSZ.o _ _)|quiet_step (first|exact QSZ.o _ _)));refine aP ?_)
   rintro _ ⟨⟨dq,osq⟩,rfl⟩;have b5:=aH w4 dq osq;generalize grow (redrawn w4 dq) osq=w5 at b5;have S5:=HS4.o.below b5;have R5:=HR4.o.below b5;have B5:=U (B4.o.trans (b5.mono B4.o.size));have x53:=R5.c3;have x56:=R5.c6;have x57:=R5.c7;have lr5:=R5.lt;have ls5:=S5.lt;have HS5:=U S5;have HR5:=U R5;clear b5 S5 R5;clear c3 c6 c7 QSZ x43 x46 x47 x33 x36 x37;go_wp2_with (go_at_call 174;refine(D6 _ _ _ _).mono ?_;rintro e w' ⟨rfl,rfl⟩)
   obtain⟨Aq,cq,eq,-,-,hx⟩:=AO.open_ H0.o;rw[HNR.o]at eq;injection eq with eq1 _ eq3
   subst eq1 eq3;have HX:=U hx;clear hx;go_loopw [66,10,11,9] (fun i _ _ rb wr =>∃k:Nat,k≤nR∧i= int i64 k∧rb= .bool false∧Hid (Below w5.heap.size w5 wr)) (fun i _ _ _ _ => nR - (intOf i).toNat)
   case atStart => exact⟨0,by omega,rfl,rfl,aB _ _⟩
   case round =>
    obtain⟨k,hk,rfl,rfl,HBW⟩:=hrel;by_cases hlt:k<nR
    ·have hk1:k<x.rows.length:=by rw[HNR.o];exact hlt
     obtain⟨ad,e1,-,b1,p1,-⟩:=HX.o k hk1;subst e1;have p1':=((B5.o.trans (HBW.o.mono B5.o.size)).cell (p:=ad.add k) b1).trans p1;have hki:(k:Int)<(nR:Int):=by omega
     obtain⟨xk,hxk⟩:∃xk,x.rows[k] =xk:=⟨_,rfl⟩;rw[hxk]at p1';clear p1 b1 hxk hk1;go_wp2_with fail
     go_roundw
     case rel => exact⟨k+1,by omega,by go_num,rfl,HBW.o⟩
     case measure => simp[intOf];omega
    ·obtain rfl:k=nR:=by omega
     go_wp2_with fail
     go_ret
     exact⟨rfl,B5.o.trans (HBW.o.mono B5.o.size)⟩
  ·intro z y hbv;have y':((nD:Int) == x.length)=false:=Dp y;have z1:((nD:Int) == 0)=false:=ES z;have e1:=HNO.o hbv;subst e1;clear HIC2 z y q1 hbv;go_enter func246,ntmps246
   go_wp2_with (first
  |(refine aD rfl 31 _ rfl w.heap.size 0 rfl _ _ HS3.o.rng underlying31 rfl (by kernel_rfl) ?_)
  |(go_at_call 72;refine HNF.o.mono ?_;rintro e w3 ⟨rfl,b3⟩;have S3:=HS.o.below b3;have R3:=HRC.o.below b3;have B3:=U (HB.o.trans (b3.mono HB.o.size));have x33:=R3.c3;have x36:=R3.c6;have x37:=R3.c7;have lr3:=R3.lt;have ls3:=S3.lt;have HS3:=U S3;have HR3:=U R3;clear b3 S3 R3)
  |(go_at_call 225;refine(HPT.o w3).mono ?_;rintro e w4 ⟨rfl,b4⟩;have S4:=HS3.o.below b4;have R4:=HR3.o.below b4;have B4:=U (B3.o.trans (b4.mono B3.o.size));have x43:=R4.c3;have x46:=R4.c6;have x47:=R4.c7;have lr4:=R4.lt;have ls4:=S4.lt;have HS4:=U S4;have HR4:=U R4;clear b4 S4 R4))
   have c3:=aA x43;have c6:=aA x46;have c7:=aA x47;have QSZ:=U (BD (w:=w4) (fun W => C3 A1 nD c1 W))
   (refine aF (by kernel_rfl) (by kernel_rfl) ?_;(repeat(first|go_big_quiet_step (first|exact QSZ.o _ _)|quiet_step (first|exact QSZ.o _ _)));refine aP ?_)
   rintro _ ⟨⟨dq,osq⟩,rfl⟩;have b5:=aH w4 dq osq;generalize grow (redrawn w4 dq) osq=w5 at b5;have S5:=HS4.o.below b5;have R5:=HR4.o.below b5;have B5:=U (B4.o.trans (b5.mono B4.o.size));have x53:=R5.c3;have x56:=R5.c6;have x57:=R5.c7;have lr5:=R5.lt;have ls5:=S5.lt;have HS5:=U S5;have HR5:=U R5;clear b5 S5 R5;clear c3 c6 c7 QSZ x43 x46 x47 x33 x36 x37;go_wp2_with (go_at_call 174;refine(D6 _ _ _ _).mono ?_;rintro e w' ⟨rfl,rfl⟩)
   obtain⟨Aq,cq,eq,-,-,hx⟩:=AO.open_ H0.o;rw[HNR.o]at eq;injection eq with eq1 _ eq3
   subst eq1 eq3;have HX:=U hx;clear hx;go_loopw [66,10,11,9] (fun i _ _ rb wr =>∃k:Nat,k≤nR∧i= int i64 k∧rb= .bool false∧Hid (Below w5.heap.size w5 wr)) (fun i _ _ _ _ => nR - (intOf i).toNat)
   case atStart => exact⟨0,by omega,rfl,rfl,aB _ _⟩
   case round =>
    obtain⟨k,hk,rfl,rfl,HBW⟩:=hrel;by_cases hlt:k<nR
    ·have hk1:k<x.rows.length:=by rw[HNR.o];exact hlt
     obtain⟨ad,e1,-,b1,p1,-⟩:=HX.o k hk1;subst e1;have p1':=((B5.o.trans (HBW.o.mono B5.o.size)).cell (p:=ad.add k) b1).trans p1;have hki:(k:Int)<(nR:Int):=by omega
     obtain⟨xk,hxk⟩:∃xk,x.rows[k] =xk:=⟨_,rfl⟩;rw[hxk]at p1';clear p1 b1 hxk hk1;go_wp2_with fail
     go_roundw
     case rel => exact⟨k+1,by omega,by go_num,rfl,HBW.o⟩
     case measure => simp[intOf];omega
    ·obtain rfl:k=nR:=by omega
     go_wp2_with fail
     go_ret
     exact⟨rfl,B5.o.trans (HBW.o.mono B5.o.size)⟩
