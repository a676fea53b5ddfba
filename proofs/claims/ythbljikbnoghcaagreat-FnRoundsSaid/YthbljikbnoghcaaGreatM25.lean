/-
  Part 25 of the proof; the last part states and proves the statement.
-/
import Derived.Test.YthbljikbnoghcaaGreatM11
import Derived.Test.YthbljikbnoghcaaGreatM10
set_option maxHeartbeats 8000000
set_option maxRecDepth 100000
set_option linter.unusedVariables false
set_option linter.unusedSimpArgs false
open Go.Value (int)
open Go.IntKind (i64)
namespace Go.Proofs.YthbljikbnoghcaaGreat
open Go.RowKit Go.Lib Go.Sort
def CP(s:Sh)(x:Ag):Int:=if BU x.name.data.toList=true then(if CO s x=true then 0 else 3)else 5
theorem In {s:Sh} {x:Ag}(h:¬BU x.name.data.toList=true):CP s x=5:=by unfold CP;rw[if_neg h]
theorem I4 {s:Sh} {x:Ag}(h:BU x.name.data.toList=true)(h2:CO s x=true):CP s x=0:=by unfold CP;rw[if_pos h,if_pos h2]
theorem JO {s:Sh} {x:Ag}(h:BU x.name.data.toList=true)(h2:CO s x=false):CP s x=3:=by unfold CP;rw[if_pos h,if_neg (by rw[h2];decide)]
theorem JA {l:List Int} {hi:Int} {k m:Nat}(h:Cb l hi m)(hk:k≤m):Cb l hi k:=fun i hi h2 => h i hi (by omega)
theorem JP(s:Sh)(hs:s.Ok)(x:Ag)(cs:List Value)(f:List Addr)(w:World)(h:Ac w f cs x) :
  Calls Tryz.prog 178 #[shV s,.agg cs.toArray] w fun e w' => e= .returned (int i64 (CP s x))∧Below w.heap.size w w':=by
 dsimp only[Ac]at h;obtain⟨v0,v1,v2,f0,f1,f2,rfl,rfl,o0,o1,o2,o3,o4,o5,h0,h1,h2⟩:=h;obtain⟨A0,c0,rfl,k0,m0⟩:=rSl.head h0;obtain⟨A1,c1,rfl,k1,m1⟩:=rSl.head h1;obtain⟨A2,c2,rfl,k2,m2⟩:=rSl.head h2;have H0:=hid h0;have H1:=hid h1;have H2:=hid h2;obtain⟨nR,hnR⟩:∃nR,x.rows.length=nR:=⟨_,rfl⟩;obtain⟨nD,hnD⟩:∃nD,x.data.length=nD:=⟨_,rfl⟩;obtain⟨nE,hnE⟩:∃nE,x.delta.length=nE:=⟨_,rfl⟩;have HNR:=hid hnR;have HND:=hid hnD;have HNE:=hid hnE;rw[hnR]at H0 k0⊢;rw[hnD]at H1 k1⊢;rw[hnE]at H2 k2⊢;have K1:=(Blk.new w 25 #[int i64 s.g,int i64 s.c,int i64 s.data,int i64 s.p,int i64 s.rows,int i64 s.cap,int i64 s.b,int i64 s.q,int i64 s.t]).alloc (.cells #[int i64 x.kind,int i64 x.seq,.string x.name,int i64 x.length,int i64 x.group,int i64 x.row,.slice A0 nR c0,.slice A1 nD c1,.slice A2 nE c2] 76);have K2:=Blk.new1 w (.cells #[int i64 s.g,int i64 s.c,int i64 s.data,int i64 s.p,int i64 s.rows,int i64 s.cap,int i64 s.b,int i64 s.q,int i64 s.t] 25) 76 #[int i64 x.kind,int i64 x.seq,.string x.name,int i64 x.length,int i64 x.group,int i64 x.row,.slice A0 nR c0,.slice A1 nD c1,.slice A2 nE c2];have hB:Below w.heap.size w ((w.alloc (.cells #[int i64 s.g,int i64 s.c,int i64 s.data,int i64 s.p,int i64 s.rows,int i64 s.cap,int i64 s.b,int i64 s.q,int i64 s.t] 25)).alloc (.cells #[int i64 x.kind,int i64 x.seq,.string x.name,int i64 x.length,int i64 x.group,int i64 x.row,.slice A0 nR c0,.slice A1 nD c1,.slice A2 nE c2] 76)):=((Below.refl _ _).alloc (Nat.le_refl _) _).alloc (by simp) _;have HB:=hid hB;have S2:=Ck.of K1;have R2:=Dz.of K2;have HS:=hid S2;have HRC:=hid R2;clear h0 h1 h2 hnR hnD hnE K1 K2 hB;have HIC:=hid (LJ s x);obtain⟨r,hr⟩:∃r,CP s x=r:=⟨_,rfl⟩;rw[hr];have HR:=hid hr;obtain⟨b,hb⟩:∃b,CO s x=b:=⟨_,rfl⟩;rw[hb]at HIC;have HBB:=hid hb;have hlo:=HS.out.lt;have hlr:=HRC.out.lt;have r2:=HRC.out.c2;rw[HNR.out,HND.out]at HIC;have HNF:=hid (C7 x.name ((w.alloc (.cells #[int i64 s.g,int i64 s.c,int i64 s.data,int i64 s.p,int i64 s.rows,int i64 s.cap,int i64 s.b,int i64 s.q,int i64 s.t] 25)).alloc (.cells #[int i64 x.kind,int i64 x.seq,.string x.name,int i64 x.length,int i64 x.group,int i64 x.row,.slice A0 nR c0,.slice A1 nD c1,.slice A2 nE c2] 76)) o2);unfold shV;by_cases q0:BU x.name.data.toList=true
 case neg =>
  have e1:r=5:=hr.symm.trans (In q0);have e2:Bm x.name.data.toList=5:=by unfold Bm;rw[if_neg q0]
  rw[e2]at HNF;subst e1;clear hr hb q0 e2;go_enter Tryz.func178,Tryz.ntmps178
  go_wp2_with (first
  |(refine wpList_load_mid rfl 25 _ rfl w.heap.size 0 rfl _ _ HS3.out.rng Tryz.underlying25 rfl (by kernel_rfl) ?_)
  |(go_at_call 29;refine HNF.out.mono ?_;rintro e w3 ⟨rfl,b3⟩;have S3:=HS.out.below b3;have R3:=HRC.out.below b3;have B3:=hid (HB.out.trans (b3.mono HB.out.size));have x33:=R3.c3;have x36:=R3.c6;have x37:=R3.c7;have lr3:=R3.lt;have ls3:=S3.lt;have HS3:=hid S3;have HR3:=hid R3;clear b3 S3 R3)
  |(go_at_call 69;refine(HPT.out w3).mono ?_;rintro e w4 ⟨rfl,b4⟩;have S4:=HS3.out.below b4;have R4:=HR3.out.below b4;have B4:=hid (B3.out.trans (b4.mono B3.out.size));have x43:=R4.c3;have x46:=R4.c6;have x47:=R4.c7;have lr4:=R4.lt;have ls4:=S4.lt;have HS4:=hid S4;have HR4:=hid R4;clear b4 S4 R4))
  go_ret
  exact⟨rfl,B3.out⟩
 have e2:Bm x.name.data.toList=0:=by unfold Bm;rw[if_pos q0]
 rw[e2]at HNF;have HYES:=hid (show b=true→r=0 from fun e => hr.symm.trans (I4 q0 (hb.trans e)));have HNO:=hid (show b=false→r=3 from fun e => hr.symm.trans (JO q0 (hb.trans e)));clear hr hb q0 e2;by_cases q1:x.length= -1
 ·have hq:(x.length == -1)=true:=FJ q1;have hbv:(decide (nD=0) && decide (nR=0))=b:=by
   have:=HBB.out;unfold CO at this;rw[if_pos q1,HND.out,HNR.out]at this;exact this
  by_cases q2:nD=0
  ·have hq2:¬(0:Int)<(nD:Int):=by omega
   have hq2n:¬0<nD:=by omega
   by_cases q3:nR=0
   ·have hq3:¬(0:Int)<(nR:Int):=by omega
    have hq3n:¬0<nR:=by omega
    have e1:=HYES.out (by rw[← hbv,decide_eq_true q2,decide_eq_true q3];rfl);subst e1;clear hbv q2 q3 q1;go_enter Tryz.func178,Tryz.ntmps178
    go_wp2_with (first
  |(refine wpList_load_mid rfl 25 _ rfl w.heap.size 0 rfl _ _ HS3.out.rng Tryz.underlying25 rfl (by kernel_rfl) ?_)
  |(go_at_call 29;refine HNF.out.mono ?_;rintro e w3 ⟨rfl,b3⟩;have S3:=HS.out.below b3;have R3:=HRC.out.below b3;have B3:=hid (HB.out.trans (b3.mono HB.out.size));have x33:=R3.c3;have x36:=R3.c6;have x37:=R3.c7;have lr3:=R3.lt;have ls3:=S3.lt;have HS3:=hid S3;have HR3:=hid R3;clear b3 S3 R3)
  |(go_at_call 69;refine(HPT.out w3).mono ?_;rintro e w4 ⟨rfl,b4⟩;have S4:=HS3.out.below b4;have R4:=HR3.out.below b4;have B4:=hid (B3.out.trans (b4.mono B3.out.size));have x43:=R4.c3;have x46:=R4.c6;have x47:=R4.c7;have lr4:=R4.lt;have ls4:=S4.lt;have HS4:=hid S4;have HR4:=hid R4;clear b4 S4 R4))
    go_ret
    exact⟨rfl,B3.out⟩
   ·have hq3:(0:Int)<(nR:Int):=by omega
    have hq3n:0<nR:=by omega
    have e1:=HNO.out (by rw[← hbv,decide_eq_true q2,decide_eq_false q3];rfl);subst e1;clear hbv q2 q3 q1;go_enter Tryz.func178,Tryz.ntmps178
    go_wp2_with (first
  |(refine wpList_load_mid rfl 25 _ rfl w.heap.size 0 rfl _ _ HS3.out.rng Tryz.underlying25 rfl (by kernel_rfl) ?_)
  |(go_at_call 29;refine HNF.out.mono ?_;rintro e w3 ⟨rfl,b3⟩;have S3:=HS.out.below b3;have R3:=HRC.out.below b3;have B3:=hid (HB.out.trans (b3.mono HB.out.size));have x33:=R3.c3;have x36:=R3.c6;have x37:=R3.c7;have lr3:=R3.lt;have ls3:=S3.lt;have HS3:=hid S3;have HR3:=hid R3;clear b3 S3 R3)
  |(go_at_call 69;refine(HPT.out w3).mono ?_;rintro e w4 ⟨rfl,b4⟩;have S4:=HS3.out.below b4;have R4:=HR3.out.below b4;have B4:=hid (B3.out.trans (b4.mono B3.out.size));have x43:=R4.c3;have x46:=R4.c6;have x47:=R4.c7;have lr4:=R4.lt;have ls4:=S4.lt;have HS4:=hid S4;have HR4:=hid R4;clear b4 S4 R4))
    go_ret
    exact⟨rfl,B3.out⟩
  ·have hq2:(0:Int)<(nD:Int):=by omega
   have hq2n:0<nD:=by omega
   have e1:=HNO.out (by rw[← hbv,decide_eq_false q2];rfl);subst e1;clear hbv q2 q1;go_enter Tryz.func178,Tryz.ntmps178
   go_wp2_with (first
  |(refine wpList_load_mid rfl 25 _ rfl w.heap.size 0 rfl _ _ HS3.out.rng Tryz.underlying25 rfl (by kernel_rfl) ?_)
  |(go_at_call 29;refine HNF.out.mono ?_;rintro e w3 ⟨rfl,b3⟩;have S3:=HS.out.below b3;have R3:=HRC.out.below b3;have B3:=hid (HB.out.trans (b3.mono HB.out.size));have x33:=R3.c3;have x36:=R3.c6;have x37:=R3.c7;have lr3:=R3.lt;have ls3:=S3.lt;have HS3:=hid S3;have HR3:=hid R3;clear b3 S3 R3)
  |(go_at_call 69;refine(HPT.out w3).mono ?_;rintro e w4 ⟨rfl,b4⟩;have S4:=HS3.out.below b4;have R4:=HR3.out.below b4;have B4:=hid (B3.out.trans (b4.mono B3.out.size));have x43:=R4.c3;have x46:=R4.c6;have x47:=R4.c7;have lr4:=R4.lt;have ls4:=S4.lt;have HS4:=hid S4;have HR4:=hid R4;clear b4 S4 R4))
   go_ret
   exact⟨rfl,B3.out⟩
 ·have hq:(x.length == -1)=false:=Ef q1;have HPT:=hid (fun(W:World) => Ht s hs x.length o3 W);have HPL:=hid (FD (s:=s) (n:=x.length));obtain⟨lc,hlc⟩:∃lc,BY s x.length=lc:=⟨_,rfl⟩;rw[hlc]at HPT HPL;unfold shV at HPT;by_cases q2:lc=0
  case neg =>
   have e1:b=false:=by
    have hp:CV s x.length=false:=by
     cases h:CV s x.length with
     |false => rfl
     |true => exact absurd (HPL.out.2 h) q2
    rw[← HBB.out];unfold CO;rw[if_neg q1,hp];rfl
   have e2:=HNO.out e1;subst e2;have hl0:(lc != 0)=true:=by simpa using q2
   rw[if_neg q2]at HPT;clear hlc;go_enter Tryz.func178,Tryz.ntmps178
   go_wp2_with (first
  |(refine wpList_load_mid rfl 25 _ rfl w.heap.size 0 rfl _ _ HS3.out.rng Tryz.underlying25 rfl (by kernel_rfl) ?_)
  |(go_at_call 29;refine HNF.out.mono ?_;rintro e w3 ⟨rfl,b3⟩;have S3:=HS.out.below b3;have R3:=HRC.out.below b3;have B3:=hid (HB.out.trans (b3.mono HB.out.size));have x33:=R3.c3;have x36:=R3.c6;have x37:=R3.c7;have lr3:=R3.lt;have ls3:=S3.lt;have HS3:=hid S3;have HR3:=hid R3;clear b3 S3 R3)
  |(go_at_call 69;refine(HPT.out w3).mono ?_;rintro e w4 ⟨rfl,b4⟩;have S4:=HS3.out.below b4;have R4:=HR3.out.below b4;have B4:=hid (B3.out.trans (b4.mono B3.out.size));have x43:=R4.c3;have x46:=R4.c6;have x47:=R4.c7;have lr4:=R4.lt;have ls4:=S4.lt;have HS4:=hid S4;have HR4:=hid R4;clear b4 S4 R4))
   go_ret
   exact⟨rfl,B4.out⟩
  have hp:CV s x.length=true:=HPL.out.1 q2;have hpb:1≤x.length∧x.length≤12 * s.data:=by unfold CV at hp;exact of_decide_eq_true hp
  have HIC2:=HIC.out hp q1;rw[q2,if_pos rfl]at HPT;obtain⟨d1,d2⟩:=hs.rows;have ew:IntKind.i64.wrap (s.rows - 1)=s.rows - 1:=IntWalk.i64_in _ (by omega);obtain⟨hi,hhi⟩:∃hi,s.rows - 1=hi:=⟨_,rfl⟩;have HRI:=hid (fun(v:Int) (W:World) => Hl s hs v W);have HPR:=hid hpb.1;obtain⟨pn,hpn⟩:∃pn,Bz s x.length=pn:=⟨_,rfl⟩;rw[hpn]at HPT HIC2;rw[hhi]at HIC2 HRI;unfold shV at HRI;clear q2 hp d1 d2 hpn hlc hs hpb ew hhi HIC;refine HIC2 _ ?_ ?_ ?_ ?_ ?_
  ·intro z y hbv;have y':((nR:Int) == pn)=true:=FJ y;have z1:((nD:Int) == 0)=true:=IP z;have z2:((nD:Int) == x.length)=false:=Ef (by have:=HPR.out;omega);clear HIC2 z y q1;go_enter Tryz.func178,Tryz.ntmps178
   go_wp2_with (first
  |(refine wpList_load_mid rfl 25 _ rfl w.heap.size 0 rfl _ _ HS3.out.rng Tryz.underlying25 rfl (by kernel_rfl) ?_)
  |(go_at_call 29;refine HNF.out.mono ?_;rintro e w3 ⟨rfl,b3⟩;have S3:=HS.out.below b3;have R3:=HRC.out.below b3;have B3:=hid (HB.out.trans (b3.mono HB.out.size));have x33:=R3.c3;have x36:=R3.c6;have x37:=R3.c7;have lr3:=R3.lt;have ls3:=S3.lt;have HS3:=hid S3;have HR3:=hid R3;clear b3 S3 R3)
  |(go_at_call 69;refine(HPT.out w3).mono ?_;rintro e w4 ⟨rfl,b4⟩;have S4:=HS3.out.below b4;have R4:=HR3.out.below b4;have B4:=hid (B3.out.trans (b4.mono B3.out.size));have x43:=R4.c3;have x46:=R4.c6;have x47:=R4.c7;have lr4:=R4.lt;have ls4:=S4.lt;have HS4:=hid S4;have HR4:=hid R4;clear b4 S4 R4))
   have c3:=cell_regrown x43;have c6:=cell_regrown x46;have c7:=cell_regrown x47;have QSZ:=hid (BF (w:=w4) (fun W => Bw A1 nD c1 W))
   (refine wp_region_quiet_below (by kernel_rfl) (by kernel_rfl) ?_;(repeat(first|go_big_quiet_step (first|exact QSZ.out _ _)|quiet_step (first|exact QSZ.out _ _)));refine wpQuiet_nil ?_)
   rintro _ ⟨⟨dq,osq⟩,rfl⟩;have b5:=below_regrown w4 dq osq;generalize grow (redrawn w4 dq) osq=w5 at b5;have S5:=HS4.out.below b5;have R5:=HR4.out.below b5;have B5:=hid (B4.out.trans (b5.mono B4.out.size));have x53:=R5.c3;have x56:=R5.c6;have x57:=R5.c7;have lr5:=R5.lt;have ls5:=S5.lt;have HS5:=hid S5;have HR5:=hid R5;clear b5 S5 R5;clear c3 c6 c7 QSZ x43 x46 x47 x33 x36 x37;go_wp2_with (go_at_call 85;refine(Dx _ _ _ _).mono ?_;rintro e w' ⟨rfl,rfl⟩)
   obtain⟨Aq,cq,eq,-,-,hx⟩:=Cn.open_ H0.out;rw[HNR.out]at eq;injection eq with eq1 _ eq3
   subst eq1 eq3;have HX:=hid hx;clear hx;go_loopw [66,10,11,9] (fun i _ _ rb wr =>∃(k:Nat) (fb:Bool),k≤nR∧i= int i64 k∧rb= .bool fb∧Hid (fb=decide (Cb x.rows hi k))∧Hid (Below w5.heap.size w5 wr)) (fun i _ _ _ _ => nR - (intOf i).toNat)
   case atStart => exact⟨0,true,by omega,rfl,rfl,(show true=_ from(decide_eq_true (Gf _ _)).symm),Below.refl _ _⟩
   case round =>
    obtain⟨k,fb,hk,rfl,rfl,HF,HBW⟩:=hrel;have HBA:=hid (B5.out.trans (HBW.out.mono B5.out.size));by_cases hlt:k<nR
    ·have hk1:k<x.rows.length:=by rw[HNR.out];exact hlt
     obtain⟨ad,e1,-,b1,p1,-⟩:=HX.out k hk1;subst e1;have p1':=(HBA.out.cell (p:=ad.add k) b1).trans p1;have hki:(k:Int)<(nR:Int):=by omega
     obtain⟨xk,hxk⟩:∃xk,x.rows[k] =xk:=⟨_,rfl⟩;rw[hxk]at p1';cases fb with
     |false =>
      have hnf:¬Cb x.rows hi (k+1):=fun h => of_decide_eq_false HF.out.symm (JA h (by omega))
      have HNF2:=hid hnf;clear p1 b1 hxk hk1 hnf;go_wp2_with fail
      go_roundw
      case rel => exact⟨k+1,false,by omega,by go_num,rfl,(decide_eq_false HNF2.out).symm,HBW.out⟩
      case measure => simp[intOf];omega
     |true =>
      have hap:Cb x.rows hi k:=of_decide_eq_true HF.out.symm;have HSR:=hid (HS5.out.below HBW.out);have HRR:=HR5.out.below HBW.out;have xr6:=HRR.c6;have lrr:=HRR.lt;have lsr:=HSR.out.lt;have y0:=HSR.out.c0;have y1:=HSR.out.c1;have y2:=HSR.out.c2;have y3:=HSR.out.c3;have y4:=HSR.out.c4;have y5:=HSR.out.c5;have y6:=HSR.out.c6;have y7:=HSR.out.c7;have y8:=HSR.out.c8;have hki2:(k:Int)≤(nR:Int):=by omega
      have hki3:(k:Int)≤(c0:Int):=by omega
      have hkc:k≤c0:=by omega
      obtain⟨q1',q2',hp',-,-⟩:=rSl.split (j:=k) H0.out (by omega);have HCT:=hid (fun(W:World) (hW:Below wr.heap.size wr W) => CI _ (x.rows.take k) xk q1' W (rSl.below As.local_ As.fixed hp' (HBA.out.trans (hW.mono HBA.out.size))));cases hin:Al xk 0 hi with
      |false =>
       have hnf:¬Cb x.rows hi (k+1):=Fm hk1 (.inl (by rw[hxk];exact hin)) (k+1) (by omega);have HNF2:=hid hnf;have HRI2:=hid (HRI.out xk);rw[hin]at HRI2;clear p1 b1 hxk hk1 hnf hap hin hp' HRR;go_wp2_with (first
      |(go_at_call 180;refine(HRI2.out _).mono ?_;rintro e w6 ⟨rfl,b6⟩;have B6:=hid b6;have y6:=(b6.cell (p:=⟨w.heap.size+1,6,none⟩) lrr).trans xr6;have lr6:=Nat.lt_of_lt_of_le lrr b6.size;clear b6)
      |(go_at_call 96;refine(HCT.out _ B6.out).mono ?_;rintro e w7 ⟨rfl,b7⟩;have B7:=hid b7;clear b7))
       go_roundw
       case rel => exact⟨k+1,false,by omega,by go_num,rfl,(decide_eq_false HNF2.out).symm,HBW.out.trans (B6.out.mono HBW.out.size)⟩
       case measure => simp[intOf];omega
      |true =>
       have HRI2:=hid (HRI.out xk);rw[hin]at HRI2;cases hme:decide (xk∈x.rows.take k)with
       |true =>
        rw[hme]at HCT;have hnf:¬Cb x.rows hi (k+1):=Fm hk1 (.inr (by rw[hxk];exact of_decide_eq_true hme)) (k+1) (by omega);have HNF2:=hid hnf;clear p1 b1 hxk hk1 hnf hap hin hp' HRR hme;go_wp2_with (first
      |(go_at_call 180;refine(HRI2.out _).mono ?_;rintro e w6 ⟨rfl,b6⟩;have B6:=hid b6;have y6:=(b6.cell (p:=⟨w.heap.size+1,6,none⟩) lrr).trans xr6;have lr6:=Nat.lt_of_lt_of_le lrr b6.size;clear b6)
      |(go_at_call 96;refine(HCT.out _ B6.out).mono ?_;rintro e w7 ⟨rfl,b7⟩;have B7:=hid b7;clear b7))
        go_roundw
        case rel => exact⟨k+1,false,by omega,by go_num,rfl,(decide_eq_false HNF2.out).symm,HBW.out.trans ((B6.out.trans (B7.out.mono B6.out.size)).mono HBW.out.size)⟩
        case measure => simp[intOf];omega
       |false =>
        rw[hme]at HCT;have HYS:=hid (Ge hap hk1 (by rw[hxk];exact hin) (by rw[hxk];exact of_decide_eq_false hme));clear p1 b1 hxk hk1 hap hin hp' HRR hme;go_wp2_with (first
      |(go_at_call 180;refine(HRI2.out _).mono ?_;rintro e w6 ⟨rfl,b6⟩;have B6:=hid b6;have y6:=(b6.cell (p:=⟨w.heap.size+1,6,none⟩) lrr).trans xr6;have lr6:=Nat.lt_of_lt_of_le lrr b6.size;clear b6)
      |(go_at_call 96;refine(HCT.out _ B6.out).mono ?_;rintro e w7 ⟨rfl,b7⟩;have B7:=hid b7;clear b7))
        go_roundw
        case rel => exact⟨k+1,true,by omega,by go_num,rfl,(decide_eq_true HYS.out).symm,HBW.out.trans ((B6.out.trans (B7.out.mono B6.out.size)).mono HBW.out.size)⟩
        case measure => simp[intOf];omega
    ·obtain rfl:k=nR:=by omega
     have hfb:fb=b:=by
      rw[hbv];unfold Cl;rw[HNR.out];exact HF.out
     cases fb with
     |true =>
      have e1:=HYES.out hfb.symm;subst e1;clear hfb hbv;go_wp2_with fail
      go_ret
      exact⟨rfl,HBA.out⟩
     |false =>
      have e1:=HNO.out hfb.symm;subst e1;clear hfb hbv;go_wp2_with fail
      go_ret
      exact⟨rfl,HBA.out⟩
  ·intro z y hbv;have y':((nR:Int) == pn)=false:=Ef y;have z1:((nD:Int) == 0)=true:=IP z;have z2:((nD:Int) == x.length)=false:=Ef (by have:=HPR.out;omega);have e1:=HNO.out hbv;subst e1;clear HIC2 z y q1 hbv;go_enter Tryz.func178,Tryz.ntmps178
   go_wp2_with (first
  |(refine wpList_load_mid rfl 25 _ rfl w.heap.size 0 rfl _ _ HS3.out.rng Tryz.underlying25 rfl (by kernel_rfl) ?_)
  |(go_at_call 29;refine HNF.out.mono ?_;rintro e w3 ⟨rfl,b3⟩;have S3:=HS.out.below b3;have R3:=HRC.out.below b3;have B3:=hid (HB.out.trans (b3.mono HB.out.size));have x33:=R3.c3;have x36:=R3.c6;have x37:=R3.c7;have lr3:=R3.lt;have ls3:=S3.lt;have HS3:=hid S3;have HR3:=hid R3;clear b3 S3 R3)
  |(go_at_call 69;refine(HPT.out w3).mono ?_;rintro e w4 ⟨rfl,b4⟩;have S4:=HS3.out.below b4;have R4:=HR3.out.below b4;have B4:=hid (B3.out.trans (b4.mono B3.out.size));have x43:=R4.c3;have x46:=R4.c6;have x47:=R4.c7;have lr4:=R4.lt;have ls4:=S4.lt;have HS4:=hid S4;have HR4:=hid R4;clear b4 S4 R4))
   have c3:=cell_regrown x43;have c6:=cell_regrown x46;have c7:=cell_regrown x47;have QSZ:=hid (BF (w:=w4) (fun W => Bw A1 nD c1 W))
   (refine wp_region_quiet_below (by kernel_rfl) (by kernel_rfl) ?_;(repeat(first|go_big_quiet_step (first|exact QSZ.out _ _)|quiet_step (first|exact QSZ.out _ _)));refine wpQuiet_nil ?_)
   rintro _ ⟨⟨dq,osq⟩,rfl⟩;have b5:=below_regrown w4 dq osq;generalize grow (redrawn w4 dq) osq=w5 at b5;have S5:=HS4.out.below b5;have R5:=HR4.out.below b5;have B5:=hid (B4.out.trans (b5.mono B4.out.size));have x53:=R5.c3;have x56:=R5.c6;have x57:=R5.c7;have lr5:=R5.lt;have ls5:=S5.lt;have HS5:=hid S5;have HR5:=hid R5;clear b5 S5 R5;clear c3 c6 c7 QSZ x43 x46 x47 x33 x36 x37;go_wp2_with (go_at_call 85;refine(Dx _ _ _ _).mono ?_;rintro e w' ⟨rfl,rfl⟩)
   obtain⟨Aq,cq,eq,-,-,hx⟩:=Cn.open_ H0.out;rw[HNR.out]at eq;injection eq with eq1 _ eq3
   subst eq1 eq3;have HX:=hid hx;clear hx;go_loopw [66,10,11,9] (fun i _ _ rb wr =>∃k:Nat,k≤nR∧i= int i64 k∧rb= .bool false∧Hid (Below w5.heap.size w5 wr)) (fun i _ _ _ _ => nR - (intOf i).toNat)
   case atStart => exact⟨0,by omega,rfl,rfl,Below.refl _ _⟩
   case round =>
    obtain⟨k,hk,rfl,rfl,HBW⟩:=hrel;by_cases hlt:k<nR
    ·have hk1:k<x.rows.length:=by rw[HNR.out];exact hlt
     obtain⟨ad,e1,-,b1,p1,-⟩:=HX.out k hk1;subst e1;have p1':=((B5.out.trans (HBW.out.mono B5.out.size)).cell (p:=ad.add k) b1).trans p1;have hki:(k:Int)<(nR:Int):=by omega
     obtain⟨xk,hxk⟩:∃xk,x.rows[k] =xk:=⟨_,rfl⟩;rw[hxk]at p1';clear p1 b1 hxk hk1;go_wp2_with fail
     go_roundw
     case rel => exact⟨k+1,by omega,by go_num,rfl,HBW.out⟩
     case measure => simp[intOf];omega
    ·obtain rfl:k=nR:=by omega
     go_wp2_with fail
     go_ret
     exact⟨rfl,B5.out.trans (HBW.out.mono B5.out.size)⟩
  ·intro z y g hbv;have y':((nD:Int) == x.length)=true:=FJ y;have z1:((nD:Int) == 0)=false:=GJ z;have g':((nR:Int) == 0)=true:=IP g;have e1:=HYES.out hbv;subst e1;clear HIC2 z y q1 hbv g;go_enter Tryz.func178,Tryz.ntmps178
   go_wp2_with (first
  |(refine wpList_load_mid rfl 25 _ rfl w.heap.size 0 rfl _ _ HS3.out.rng Tryz.underlying25 rfl (by kernel_rfl) ?_)
  |(go_at_call 29;refine HNF.out.mono ?_;rintro e w3 ⟨rfl,b3⟩;have S3:=HS.out.below b3;have R3:=HRC.out.below b3;have B3:=hid (HB.out.trans (b3.mono HB.out.size));have x33:=R3.c3;have x36:=R3.c6;have x37:=R3.c7;have lr3:=R3.lt;have ls3:=S3.lt;have HS3:=hid S3;have HR3:=hid R3;clear b3 S3 R3)
  |(go_at_call 69;refine(HPT.out w3).mono ?_;rintro e w4 ⟨rfl,b4⟩;have S4:=HS3.out.below b4;have R4:=HR3.out.below b4;have B4:=hid (B3.out.trans (b4.mono B3.out.size));have x43:=R4.c3;have x46:=R4.c6;have x47:=R4.c7;have lr4:=R4.lt;have ls4:=S4.lt;have HS4:=hid S4;have HR4:=hid R4;clear b4 S4 R4))
   have c3:=cell_regrown x43;have c6:=cell_regrown x46;have c7:=cell_regrown x47;have QSZ:=hid (BF (w:=w4) (fun W => Bw A1 nD c1 W))
   (refine wp_region_quiet_below (by kernel_rfl) (by kernel_rfl) ?_;(repeat(first|go_big_quiet_step (first|exact QSZ.out _ _)|quiet_step (first|exact QSZ.out _ _)));refine wpQuiet_nil ?_)
   rintro _ ⟨⟨dq,osq⟩,rfl⟩;have b5:=below_regrown w4 dq osq;generalize grow (redrawn w4 dq) osq=w5 at b5;have S5:=HS4.out.below b5;have R5:=HR4.out.below b5;have B5:=hid (B4.out.trans (b5.mono B4.out.size));have x53:=R5.c3;have x56:=R5.c6;have x57:=R5.c7;have lr5:=R5.lt;have ls5:=S5.lt;have HS5:=hid S5;have HR5:=hid R5;clear b5 S5 R5;clear c3 c6 c7 QSZ x43 x46 x47 x33 x36 x37;go_wp2_with (go_at_call 85;refine(Dx _ _ _ _).mono ?_;rintro e w' ⟨rfl,rfl⟩)
   obtain⟨Aq,cq,eq,-,-,hx⟩:=Cn.open_ H0.out;rw[HNR.out]at eq;injection eq with eq1 _ eq3
   subst eq1 eq3;have HX:=hid hx;clear hx;go_loopw [66,10,11,9] (fun i _ _ rb wr =>∃k:Nat,k≤nR∧i= int i64 k∧rb= .bool false∧Hid (Below w5.heap.size w5 wr)) (fun i _ _ _ _ => nR - (intOf i).toNat)
   case atStart => exact⟨0,by omega,rfl,rfl,Below.refl _ _⟩
   case round =>
    obtain⟨k,hk,rfl,rfl,HBW⟩:=hrel;by_cases hlt:k<nR
    ·have hk1:k<x.rows.length:=by rw[HNR.out];exact hlt
     obtain⟨ad,e1,-,b1,p1,-⟩:=HX.out k hk1;subst e1;have p1':=((B5.out.trans (HBW.out.mono B5.out.size)).cell (p:=ad.add k) b1).trans p1;have hki:(k:Int)<(nR:Int):=by omega
     obtain⟨xk,hxk⟩:∃xk,x.rows[k] =xk:=⟨_,rfl⟩;rw[hxk]at p1';clear p1 b1 hxk hk1;go_wp2_with fail
     go_roundw
     case rel => exact⟨k+1,by omega,by go_num,rfl,HBW.out⟩
     case measure => simp[intOf];omega
    ·obtain rfl:k=nR:=by omega
     go_wp2_with fail
     go_ret
     exact⟨rfl,B5.out.trans (HBW.out.mono B5.out.size)⟩
  ·intro z y g hbv;have y':((nD:Int) == x.length)=true:=FJ y;have z1:((nD:Int) == 0)=false:=GJ z;have g':((nR:Int) == 0)=false:=GJ g;have e1:=HNO.out hbv;subst e1;clear HIC2 z y q1 hbv g;go_enter Tryz.func178,Tryz.ntmps178
   go_wp2_with (first
  |(refine wpList_load_mid rfl 25 _ rfl w.heap.size 0 rfl _ _ HS3.out.rng Tryz.underlying25 rfl (by kernel_rfl) ?_)
  |(go_at_call 29;refine HNF.out.mono ?_;rintro e w3 ⟨rfl,b3⟩;have S3:=HS.out.below b3;have R3:=HRC.out.below b3;have B3:=hid (HB.out.trans (b3.mono HB.out.size));have x33:=R3.c3;have x36:=R3.c6;have x37:=R3.c7;have lr3:=R3.lt;have ls3:=S3.lt;have HS3:=hid S3;have HR3:=hid R3;clear b3 S3 R3)
  |(go_at_call 69;refine(HPT.out w3).mono ?_;rintro e w4 ⟨rfl,b4⟩;have S4:=HS3.out.below b4;have R4:=HR3.out.below b4;have B4:=hid (B3.out.trans (b4.mono B3.out.size));have x43:=R4.c3;have x46:=R4.c6;have x47:=R4.c7;have lr4:=R4.lt;have ls4:=S4.lt;have HS4:=hid S4;have HR4:=hid R4;clear b4 S4 R4))
   have c3:=cell_regrown x43;have c6:=cell_regrown x46;have c7:=cell_regrown x47;have QSZ:=hid (BF (w:=w4) (fun W => Bw A1 nD c1 W))
   (refine wp_region_quiet_below (by kernel_rfl) (by kernel_rfl) ?_;(repeat(first|go_big_quiet_step (first|exact QSZ.out _ _)|quiet_step (first|exact QSZ.out _ _)));refine wpQuiet_nil ?_)
   rintro _ ⟨⟨dq,osq⟩,rfl⟩;have b5:=below_regrown w4 dq osq;generalize grow (redrawn w4 dq) osq=w5 at b5;have S5:=HS4.out.below b5;have R5:=HR4.out.below b5;have B5:=hid (B4.out.trans (b5.mono B4.out.size));have x53:=R5.c3;have x56:=R5.c6;have x57:=R5.c7;have lr5:=R5.lt;have ls5:=S5.lt;have HS5:=hid S5;have HR5:=hid R5;clear b5 S5 R5;clear c3 c6 c7 QSZ x43 x46 x47 x33 x36 x37;go_wp2_with (go_at_call 85;refine(Dx _ _ _ _).mono ?_;rintro e w' ⟨rfl,rfl⟩)
   obtain⟨Aq,cq,eq,-,-,hx⟩:=Cn.open_ H0.out;rw[HNR.out]at eq;injection eq with eq1 _ eq3
   subst eq1 eq3;have HX:=hid hx;clear hx;go_loopw [66,10,11,9] (fun i _ _ rb wr =>∃k:Nat,k≤nR∧i= int i64 k∧rb= .bool false∧Hid (Below w5.heap.size w5 wr)) (fun i _ _ _ _ => nR - (intOf i).toNat)
   case atStart => exact⟨0,by omega,rfl,rfl,Below.refl _ _⟩
   case round =>
    obtain⟨k,hk,rfl,rfl,HBW⟩:=hrel;by_cases hlt:k<nR
    ·have hk1:k<x.rows.length:=by rw[HNR.out];exact hlt
     obtain⟨ad,e1,-,b1,p1,-⟩:=HX.out k hk1;subst e1;have p1':=((B5.out.trans (HBW.out.mono B5.out.size)).cell (p:=ad.add k) b1).trans p1;have hki:(k:Int)<(nR:Int):=by omega
     obtain⟨xk,hxk⟩:∃xk,x.rows[k] =xk:=⟨_,rfl⟩;rw[hxk]at p1';clear p1 b1 hxk hk1;go_wp2_with fail
     go_roundw
     case rel => exact⟨k+1,by omega,by go_num,rfl,HBW.out⟩
     case measure => simp[intOf];omega
    ·obtain rfl:k=nR:=by omega
     go_wp2_with fail
     go_ret
     exact⟨rfl,B5.out.trans (HBW.out.mono B5.out.size)⟩
  ·intro z y hbv;have y':((nD:Int) == x.length)=false:=Ef y;have z1:((nD:Int) == 0)=false:=GJ z;have e1:=HNO.out hbv;subst e1;clear HIC2 z y q1 hbv;go_enter Tryz.func178,Tryz.ntmps178
   go_wp2_with (first
  |(refine wpList_load_mid rfl 25 _ rfl w.heap.size 0 rfl _ _ HS3.out.rng Tryz.underlying25 rfl (by kernel_rfl) ?_)
  |(go_at_call 29;refine HNF.out.mono ?_;rintro e w3 ⟨rfl,b3⟩;have S3:=HS.out.below b3;have R3:=HRC.out.below b3;have B3:=hid (HB.out.trans (b3.mono HB.out.size));have x33:=R3.c3;have x36:=R3.c6;have x37:=R3.c7;have lr3:=R3.lt;have ls3:=S3.lt;have HS3:=hid S3;have HR3:=hid R3;clear b3 S3 R3)
  |(go_at_call 69;refine(HPT.out w3).mono ?_;rintro e w4 ⟨rfl,b4⟩;have S4:=HS3.out.below b4;have R4:=HR3.out.below b4;have B4:=hid (B3.out.trans (b4.mono B3.out.size));have x43:=R4.c3;have x46:=R4.c6;have x47:=R4.c7;have lr4:=R4.lt;have ls4:=S4.lt;have HS4:=hid S4;have HR4:=hid R4;clear b4 S4 R4))
   have c3:=cell_regrown x43;have c6:=cell_regrown x46;have c7:=cell_regrown x47;have QSZ:=hid (BF (w:=w4) (fun W => Bw A1 nD c1 W))
   (refine wp_region_quiet_below (by kernel_rfl) (by kernel_rfl) ?_;(repeat(first|go_big_quiet_step (first|exact QSZ.out _ _)|quiet_step (first|exact QSZ.out _ _)));refine wpQuiet_nil ?_)
   rintro _ ⟨⟨dq,osq⟩,rfl⟩;have b5:=below_regrown w4 dq osq;generalize grow (redrawn w4 dq) osq=w5 at b5;have S5:=HS4.out.below b5;have R5:=HR4.out.below b5;have B5:=hid (B4.out.trans (b5.mono B4.out.size));have x53:=R5.c3;have x56:=R5.c6;have x57:=R5.c7;have lr5:=R5.lt;have ls5:=S5.lt;have HS5:=hid S5;have HR5:=hid R5;clear b5 S5 R5;clear c3 c6 c7 QSZ x43 x46 x47 x33 x36 x37;go_wp2_with (go_at_call 85;refine(Dx _ _ _ _).mono ?_;rintro e w' ⟨rfl,rfl⟩)
   obtain⟨Aq,cq,eq,-,-,hx⟩:=Cn.open_ H0.out;rw[HNR.out]at eq;injection eq with eq1 _ eq3
   subst eq1 eq3;have HX:=hid hx;clear hx;go_loopw [66,10,11,9] (fun i _ _ rb wr =>∃k:Nat,k≤nR∧i= int i64 k∧rb= .bool false∧Hid (Below w5.heap.size w5 wr)) (fun i _ _ _ _ => nR - (intOf i).toNat)
   case atStart => exact⟨0,by omega,rfl,rfl,Below.refl _ _⟩
   case round =>
    obtain⟨k,hk,rfl,rfl,HBW⟩:=hrel;by_cases hlt:k<nR
    ·have hk1:k<x.rows.length:=by rw[HNR.out];exact hlt
     obtain⟨ad,e1,-,b1,p1,-⟩:=HX.out k hk1;subst e1;have p1':=((B5.out.trans (HBW.out.mono B5.out.size)).cell (p:=ad.add k) b1).trans p1;have hki:(k:Int)<(nR:Int):=by omega
     obtain⟨xk,hxk⟩:∃xk,x.rows[k] =xk:=⟨_,rfl⟩;rw[hxk]at p1';clear p1 b1 hxk hk1;go_wp2_with fail
     go_roundw
     case rel => exact⟨k+1,by omega,by go_num,rfl,HBW.out⟩
     case measure => simp[intOf];omega
    ·obtain rfl:k=nR:=by omega
     go_wp2_with fail
     go_ret
     exact⟨rfl,B5.out.trans (HBW.out.mono B5.out.size)⟩
theorem L9(v:Value)(ls:List Int)(all hi:Int)(f:List Addr)(w:World)(h:Cn w f v ls)(he:all - 1=hi)(hok:okI hi) :
  Calls Tryz.prog 227 #[v,int i64 all] w fun e w' => e= .returned (.bool (C8 ls hi))∧Below w.heap.size w w':=by
 obtain⟨A,c,rfl,hc,hm,hx⟩:=Cn.open_ h;have HX:=hid hx;obtain⟨r,hr⟩:∃r,C8 ls hi=r:=⟨_,rfl⟩;rw[hr];have HR:=hid hr;obtain⟨n,hn⟩:∃n,ls.length=n:=⟨_,rfl⟩;rw[hn]at hc⊢;have HN:=hid hn;have HW:=hid (show IntKind.i64.wrap (all - 1)=hi from by rw[he];exact IntWalk.i64_in _ (by have:=hok.1;have:=hok.2;omega));clear h hx hr hn he hok;go_enter Tryz.func227,Tryz.ntmps227
 go_wp2_with fail
 go_loopw [9,5,6] (fun i _ _ wr =>∃k:Nat,k≤n∧i= int i64 k∧Hid (Ey ls hi k)∧Hid (Below w.heap.size w wr)) (fun i _ _ _ => n - (intOf i).toNat)
 case atStart => exact⟨0,by omega,rfl,Lo _ _,Below.refl _ _⟩
 case round =>
  obtain⟨k,hk,rfl,HS,HB⟩:=hrel;have hw:=HW.out;by_cases hlt:k<n
  ·have hk1:k<ls.length:=by rw[HN.out];exact hlt
   obtain⟨ad,e1,-,b1,p1,-⟩:=HX.out k hk1;subst e1;have p1':=((HB.out.cell (p:=ad.add k) b1).trans p1);have hki:(k:Int)<(n:Int):=by omega
   obtain⟨x,hx⟩:∃x,ls[k] =x:=⟨_,rfl⟩;rw[hx]at p1';have HST:=hid (Ln HS.out hk1);have HBAD:=hid (fun(h:Al ls[k] 0 hi=false∨(0<k∧ls[k]≤ls[k - 1])) => HR.out.symm.trans (riseB_f hk1 h));rw[hx]at HST HBAD;have HIN:=hid (fun(W:World) => AX x 0 hi W);clear p1;cases hin:Al x 0 hi with
   |false =>
    rw[hin]at HIN;have e1:r=false:=HBAD.out (.inl hin);subst e1;clear hx HST HBAD hk1 b1 hin;go_wp2_with (go_at_call 61;(try rw[HW.out]);refine(HIN.out _).mono ?_;rintro e w' ⟨rfl,rfl⟩)
    go_ret
    exact⟨rfl,HB.out⟩
   |true =>
    rw[hin]at HIN;by_cases a3:k=0
    ·have HS2:=hid (HST.out hin (fun h => by omega));have a4:¬(0:Int)<(k:Int):=by omega
     have a6:¬0<k:=by omega
     clear hx HST HBAD hk1 b1 hin a3;go_wp2_with (go_at_call 61;(try rw[HW.out]);refine(HIN.out _).mono ?_;rintro e w' ⟨rfl,rfl⟩)
     go_roundw
     case rel => exact⟨k+1,by omega,by go_num,HS2.out,HB.out⟩
     case measure => simp[intOf];omega
    ·have a4:(0:Int)<(k:Int):=by omega
     have a6:0<k:=by omega
     have hk2:k - 1<ls.length:=by omega
     obtain⟨ad',e1,-,b2,p2,-⟩:=HX.out (k - 1) hk2;injection e1 with e1
     subst e1;have p2':=((HB.out.cell (p:=ad.add (k - 1)) b2).trans p2);obtain⟨y,hy⟩:∃y,ls[k - 1] =y:=⟨_,rfl⟩;rw[hy]at p2' HST HBAD;have e1:IntKind.i64.wrap ((k:Int) - 1)=((k - 1:Nat):Int):=by rw[IntWalk.i64_in _ (by omega)];omega
     have e2:((k:Int) - 1)=((k - 1:Nat):Int):=by omega
     have e3:((k - 1:Nat):Int)<(n:Int):=by omega
     obtain⟨k1,hk1e⟩:∃k1,k - 1=k1:=⟨_,rfl⟩;rw[hk1e]at p2' e1 e2 e3;by_cases a5:x≤y
     ·have e1:r=false:=HBAD.out (.inr ⟨by omega,a5⟩);subst e1;clear hx HST HBAD hk1 b1 hin a3 hy hk2 p2 b2 hk1e;go_wp2_with (go_at_call 61;(try rw[HW.out]);refine(HIN.out _).mono ?_;rintro e w' ⟨rfl,rfl⟩)
      go_ret
      exact⟨rfl,HB.out⟩
     ·have HS2:=hid (HST.out hin (fun h => by omega));clear hx HST HBAD hk1 b1 hin a3 hy hk2 p2 b2 hk1e;go_wp2_with (go_at_call 61;(try rw[HW.out]);refine(HIN.out _).mono ?_;rintro e w' ⟨rfl,rfl⟩)
      go_roundw
      case rel => exact⟨k+1,by omega,by go_num,HS2.out,HB.out⟩
      case measure => simp[intOf];omega
  ·obtain rfl:k=n:=by omega
   have e1:r=true:=by
    rw[← HR.out];exact riseB_t (by rw[HN.out];exact HS.out)
   subst e1;go_wp2_with fail
   go_ret
   exact⟨rfl,HB.out⟩
end Go.Proofs.YthbljikbnoghcaaGreat
