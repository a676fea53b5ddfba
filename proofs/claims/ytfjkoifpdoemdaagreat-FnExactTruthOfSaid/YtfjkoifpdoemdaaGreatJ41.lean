/- Part 41 of the proof. -/
import Derived.Test.YtfjkoifpdoemdaaGreatJ38
set_option maxHeartbeats 8000000
set_option maxRecDepth 100000
set_option linter.unusedVariables false
set_option linter.unusedSimpArgs false
open Go.Proofs.Tryz
open Go.Value (int)
open Go.IntKind (i64)
namespace Go.Proofs.YtfjkoifpdoemdaaGreat
open Go.RowKit Go.Lib Go.Sort
theorem Pa(d:Am)(hs:d.s.sh.Ok)(cs:List Value)(f:List Addr)(w:World)(h:AC w f cs d) :
  Calls prog 97 #[.agg cs.toArray] w fun e w' => e= .returned (.bool (BJ d.s.sh d.g))∧Below w.heap.size w w':=by
 dsimp only[AC]at h;obtain⟨v0,v1,v2,f0,f1,f2,rfl,-,o0,o1,o2,o3,o4,o5,o6,o7,o8,o9,o10,r0,r1,r2⟩:=h;obtain⟨A0,c0,rfl,m0,m0'⟩:=rSl.head r0;obtain⟨A1,c1,rfl,m1,m1'⟩:=rSl.head r1;obtain⟨A2,c2,rfl,m2,m2'⟩:=rSl.head r2;obtain⟨nG,hnG⟩:∃nG,d.g.length=nG:=⟨_,rfl⟩;obtain⟨nO,hnO⟩:∃nO,d.on.length=nO:=⟨_,rfl⟩;obtain⟨nT,hnT⟩:∃nT,d.v.length=nT:=⟨_,rfl⟩;rw[hnG]at r0 m0⊢;rw[hnO]at r1 m1⊢;rw[hnT]at r2 m2⊢;have HNG:=U hnG;have HNO:=U hnO;have HNT:=U hnT;have hb1:Below w.heap.size w (w.alloc (.cells #[int i64 d.s.g,int i64 d.s.c,int i64 d.s.data,int i64 d.s.p,int i64 d.s.rows,int i64 d.s.cap,int i64 d.s.b,int i64 d.s.q,int i64 d.s.t,.slice A0 nG c0,.slice A1 nO c1,.slice A2 nT c2,int i64 d.u,int i64 d.stop,.bool d.down] 35)):=(aB _ _).alloc (aC _) _;have hk1:Blk (w.alloc (.cells #[int i64 d.s.g,int i64 d.s.c,int i64 d.s.data,int i64 d.s.p,int i64 d.s.rows,int i64 d.s.cap,int i64 d.s.b,int i64 d.s.q,int i64 d.s.t,.slice A0 nG c0,.slice A1 nO c1,.slice A2 nT c2,int i64 d.u,int i64 d.stop,.bool d.down] 35)) w.heap.size 35 #[int i64 d.s.g,int i64 d.s.c,int i64 d.s.data,int i64 d.s.p,int i64 d.s.rows,int i64 d.s.cap,int i64 d.s.b,int i64 d.s.q,int i64 d.s.t,.slice A0 nG c0,.slice A1 nO c1,.slice A2 nT c2,int i64 d.u,int i64 d.stop,.bool d.down]:=Blk.new _ _ _;have K1:=U hk1;have HB1:=U hb1;have R0:=U (rSl.below (Al.local_ Ak.local_) (Al.fixed Ak.fixed) r0 hb1);have R1:=U (rSl.below Az.local_ Az.fixed r1 hb1);have R2:=U (rSl.below Ay.local_ Ay.fixed r2 hb1);clear r0 r1 r2 hb1 hk1 hnG hnO hnT;have KN:=U (Blk.new1 w (.cells #[int i64 d.s.g,int i64 d.s.c,int i64 d.s.data,int i64 d.s.p,int i64 d.s.rows,int i64 d.s.cap,int i64 d.s.b,int i64 d.s.q,int i64 d.s.t,.slice A0 nG c0,.slice A1 nO c1,.slice A2 nT c2,int i64 d.u,int i64 d.stop,.bool d.down] 35) 31 #[int i64 0,int i64 0,int i64 0,int i64 0,int i64 0,int i64 0,int i64 0,int i64 0,int i64 0]);have HTH:=U (Blk.there KN.o 9 (by simp));have HRS:=U (Blk.range K1.o 0 [int i64 d.s.g,int i64 d.s.c,int i64 d.s.data,int i64 d.s.p,int i64 d.s.rows,int i64 d.s.cap,int i64 d.s.b,int i64 d.s.q,int i64 d.s.t] rfl);have K3:=U (show Blk (((w.alloc (.cells #[int i64 d.s.g,int i64 d.s.c,int i64 d.s.data,int i64 d.s.p,int i64 d.s.rows,int i64 d.s.cap,int i64 d.s.b,int i64 d.s.q,int i64 d.s.t,.slice A0 nG c0,.slice A1 nO c1,.slice A2 nT c2,int i64 d.u,int i64 d.stop,.bool d.down] 35)).alloc (.cells #[int i64 0,int i64 0,int i64 0,int i64 0,int i64 0,int i64 0,int i64 0,int i64 0,int i64 0] 31)).setCells (w.heap.size+1) 0 [int i64 d.s.g,int i64 d.s.c,int i64 d.s.data,int i64 d.s.p,int i64 d.s.rows,int i64 d.s.cap,int i64 d.s.b,int i64 d.s.q,int i64 d.s.t]) (w.heap.size+1) 31 #[int i64 d.s.g,int i64 d.s.c,int i64 d.s.data,int i64 d.s.p,int i64 d.s.rows,int i64 d.s.cap,int i64 d.s.b,int i64 d.s.q,int i64 d.s.t]from Blk.laid KN.o [int i64 d.s.g,int i64 d.s.c,int i64 d.s.data,int i64 d.s.p,int i64 d.s.rows,int i64 d.s.cap,int i64 d.s.b,int i64 d.s.q,int i64 d.s.t] rfl);have K2:=U (show Blk (((w.alloc (.cells #[int i64 d.s.g,int i64 d.s.c,int i64 d.s.data,int i64 d.s.p,int i64 d.s.rows,int i64 d.s.cap,int i64 d.s.b,int i64 d.s.q,int i64 d.s.t,.slice A0 nG c0,.slice A1 nO c1,.slice A2 nT c2,int i64 d.u,int i64 d.stop,.bool d.down] 35)).alloc (.cells #[int i64 0,int i64 0,int i64 0,int i64 0,int i64 0,int i64 0,int i64 0,int i64 0,int i64 0] 31)).setCells (w.heap.size+1) 0 [int i64 d.s.g,int i64 d.s.c,int i64 d.s.data,int i64 d.s.p,int i64 d.s.rows,int i64 d.s.cap,int i64 d.s.b,int i64 d.s.q,int i64 d.s.t]) w.heap.size 35 #[int i64 d.s.g,int i64 d.s.c,int i64 d.s.data,int i64 d.s.p,int i64 d.s.rows,int i64 d.s.cap,int i64 d.s.b,int i64 d.s.q,int i64 d.s.t,.slice A0 nG c0,.slice A1 nO c1,.slice A2 nT c2,int i64 d.u,int i64 d.stop,.bool d.down]from Blk.farS [int i64 d.s.g,int i64 d.s.c,int i64 d.s.data,int i64 d.s.p,int i64 d.s.rows,int i64 d.s.cap,int i64 d.s.b,int i64 d.s.q,int i64 d.s.t] (w.heap.size+1) 0 _ (by omega) (K1.o.alloc _));have HB2:=U (show Below w.heap.size w (((w.alloc (.cells #[int i64 d.s.g,int i64 d.s.c,int i64 d.s.data,int i64 d.s.p,int i64 d.s.rows,int i64 d.s.cap,int i64 d.s.b,int i64 d.s.q,int i64 d.s.t,.slice A0 nG c0,.slice A1 nO c1,.slice A2 nT c2,int i64 d.u,int i64 d.stop,.bool d.down] 35)).alloc (.cells #[int i64 0,int i64 0,int i64 0,int i64 0,int i64 0,int i64 0,int i64 0,int i64 0,int i64 0] 31)).setCells (w.heap.size+1) 0 [int i64 d.s.g,int i64 d.s.c,int i64 d.s.data,int i64 d.s.p,int i64 d.s.rows,int i64 d.s.cap,int i64 d.s.b,int i64 d.s.q,int i64 d.s.t])from Below.setCells_ _ _ _ _ (by omega) (HB1.o.alloc (by simp) _));have hb12:Below (w.alloc (.cells #[int i64 d.s.g,int i64 d.s.c,int i64 d.s.data,int i64 d.s.p,int i64 d.s.rows,int i64 d.s.cap,int i64 d.s.b,int i64 d.s.q,int i64 d.s.t,.slice A0 nG c0,.slice A1 nO c1,.slice A2 nT c2,int i64 d.u,int i64 d.stop,.bool d.down] 35)).heap.size (w.alloc (.cells #[int i64 d.s.g,int i64 d.s.c,int i64 d.s.data,int i64 d.s.p,int i64 d.s.rows,int i64 d.s.cap,int i64 d.s.b,int i64 d.s.q,int i64 d.s.t,.slice A0 nG c0,.slice A1 nO c1,.slice A2 nT c2,int i64 d.u,int i64 d.stop,.bool d.down] 35)) (((w.alloc (.cells #[int i64 d.s.g,int i64 d.s.c,int i64 d.s.data,int i64 d.s.p,int i64 d.s.rows,int i64 d.s.cap,int i64 d.s.b,int i64 d.s.q,int i64 d.s.t,.slice A0 nG c0,.slice A1 nO c1,.slice A2 nT c2,int i64 d.u,int i64 d.stop,.bool d.down] 35)).alloc (.cells #[int i64 0,int i64 0,int i64 0,int i64 0,int i64 0,int i64 0,int i64 0,int i64 0,int i64 0] 31)).setCells (w.heap.size+1) 0 [int i64 d.s.g,int i64 d.s.c,int i64 d.s.data,int i64 d.s.p,int i64 d.s.rows,int i64 d.s.cap,int i64 d.s.b,int i64 d.s.q,int i64 d.s.t]):=Below.setCells_ _ _ _ _ (by simp) ((aB _ _).alloc (aC _) _);have R02:=U (rSl.below (Al.local_ Ak.local_) (Al.fixed Ak.fixed) R0.o hb12);clear hb12;obtain⟨r,hr⟩:∃r,BJ d.s.sh d.g=r:=⟨_,rfl⟩;rw[hr];have HRV:=U hr;have HAL:=U (fun(W:World) => Gr d.s.sh hs W);have HDV:=U (fun(W:World) => Qc d.s.sh hs W);have HSH:=U (show d.s.sh.rows=d.s.rows from rfl);unfold shV at HAL HDV;obtain⟨al,hal⟩:∃al,d.s.sh.g+d.s.sh.c=al:=⟨_,rfl⟩;obtain⟨dv,hdv⟩:∃dv,d.s.sh.data+d.s.sh.p=dv:=⟨_,rfl⟩;rw[hal]at HAL;rw[hdv]at HDV;have HALE:=U hal;have HDVE:=U hdv;clear hr hs hal hdv;go_enter func97,ntmps97
 go_wp2_with (first
  |(refine aD rfl 31 _ rfl w.heap.size 0 rfl _ _ HRS.o underlying31 rfl (by kernel_rfl) ?_)
  |(refine aW rfl 31 _ _ rfl (w.heap.size+1) 0 #[int i64 d.s.g,int i64 d.s.c,int i64 d.s.data,int i64 d.s.p,int i64 d.s.rows,int i64 d.s.cap,int i64 d.s.b,int i64 d.s.q,int i64 d.s.t] rfl rfl ?_ (by kernel_rfl) (by simp[Value.oneCell']) ?_;(focus (exact HTH.o))))
 generalize((w.alloc (.cells #[int i64 d.s.g,int i64 d.s.c,int i64 d.s.data,int i64 d.s.p,int i64 d.s.rows,int i64 d.s.cap,int i64 d.s.b,int i64 d.s.q,int i64 d.s.t,.slice A0 nG c0,.slice A1 nO c1,.slice A2 nT c2,int i64 d.u,int i64 d.stop,.bool d.down] 35)).alloc (.cells #[int i64 0,int i64 0,int i64 0,int i64 0,int i64 0,int i64 0,int i64 0,int i64 0,int i64 0] 31)).setCells (w.heap.size+1) 0 [int i64 d.s.g,int i64 d.s.c,int i64 d.s.data,int i64 d.s.p,int i64 d.s.rows,int i64 d.s.cap,int i64 d.s.b,int i64 d.s.q,int i64 d.s.t] =w2 at K2 K3 HB2 R02⊢;clear KN HTH HRS K1 HB1 R0 R1 R2;have S2:=U (DK.of (s:=d.s.sh) K3.o);have u0:=aA S2.o.c0;have u1:=aA S2.o.c1;have u2:=aA S2.o.c2;have u3:=aA S2.o.c3;have u4:=aA S2.o.c4;have u5:=aA S2.o.c5;have u6:=aA S2.o.c6;have u7:=aA S2.o.c7;have u8:=aA S2.o.c8;have p9:w2.cell? ⟨w.heap.size,9,none⟩=some (.slice A0 nG c0):=(Blk.cell K2.o 9).trans rfl;have u9:=aA p9;have z1:w.heap.size<w2.heap.size:=K2.o.lt;have z2:w.heap.size+1<w2.heap.size:=K3.o.lt;have QN:=U (BD (w:=w2) (fun W => Nx A0 nG c0 W));have QA:=U (AU (w:=w2) (fun W _ => HAL.o W));by_cases hl:(nG:Int)=al
 ·have hlb:=CR hl;have HL:=U hl;clear hl
  (refine aF (by kernel_rfl) (by kernel_rfl) ?_;(repeat(first|go_big_quiet_step (first|(go_at_call 166;exact QN.o _ _)|(go_at_call 101;exact QA.o _ _))|quiet_step (first|(go_at_call 166;exact QN.o _ _)|(go_at_call 101;exact QA.o _ _))));refine aP ?_)
  rintro _ ⟨⟨dq,osq⟩,rfl⟩;have b5:=aH w2 dq osq;generalize grow (redrawn w2 dq) osq=w5 at b5;have S5:=U (S2.o.below b5);have HB5:=U (HB2.o.trans (b5.mono HB2.o.size));have p95:=(b5.cell (p:=⟨w.heap.size,9,none⟩) z1).trans p9;have z15:w.heap.size<w5.heap.size:=aE z1 b5.size;have z25:w.heap.size+1<w5.heap.size:=aE z2 b5.size;obtain⟨A',c',e,-,hm,hx⟩:=rSl.at_ (Al.fixed Ak.fixed) (by decide) (rSl.below (Al.local_ Ak.local_) (Al.fixed Ak.fixed) R02.o b5);injection e with e1 _ e3
  subst e1 e3;have HX:=U hx;clear hx hm b5 QN QA u0 u1 u2 u3 u4 u5 u6 u7 u8 u9 p9 z1 z2 S2 K2 K3 R02 HB2 hlb;go_wp2_with fail
  go_loopw [19,5,7] (fun i _ _ wr =>∃k:Nat,k≤nG∧i= int i64 k∧Hid (BV (Dr d.s.sh) d.g k)∧Hid (Below w5.heap.size w5 wr)) (fun i _ _ _ => nG - (intOf i).toNat)
  case atStart => exact⟨0,by omega,rfl,BV.zero _ _,aB _ _⟩
  case round =>
   obtain⟨k,hk,rfl,HT,HB⟩:=hrel;by_cases hlt:k<nG
   ·have hk1:k<d.g.length:=by rw[HNG.o];exact hlt
    have hki:(k:Int)<(nG:Int):=by omega
    obtain⟨ad,b,o,cs,fk,rfl,hat⟩:=HX.o k hk1;have hat2:=hat.below (Al.local_ Ak.local_) HB.o;have hpl:=hat.place;have hbl:=hat2.lt;obtain⟨ve,hve,hrd⟩:=hat2.reads;subst hve;obtain⟨Ae,ce,rfl,hmc,hmm⟩:=rSl.head hrd;have hpc:=hat2.cell 0 (by simp);simp only[bE,aU]at hpc;rw[Nat.mul_one]at hpl;have HSTEP:=U (HT.o.step hk1);have HBAD:=U (fun(h:Dr d.s.sh d.g[k] =false) => HRV.o.symm.trans (Kc hk1 h));obtain⟨G,hG⟩:∃G,d.g[k] =G:=⟨_,rfl⟩;rw[hG]at hpc hrd hmc HSTEP HBAD;obtain⟨m,hm⟩:∃m,G.length=m:=⟨_,rfl⟩;rw[hm]at hpc hrd hmc;have HM:=U hm;have HRD:=U hrd;have SR:=U (S5.o.below HB.o);have u0:=aA SR.o.c0;have u1:=aA SR.o.c1;have u2:=aA SR.o.c2;have u3:=aA SR.o.c3;have u4:=aA SR.o.c4;have u5:=aA SR.o.c5;have u6:=aA SR.o.c6;have u7:=aA SR.o.c7;have u8:=aA SR.o.c8;have z1:w.heap.size<wr.heap.size:=aE z15 HB.o.size;have z2:w.heap.size+1<wr.heap.size:=aE z25 HB.o.size;have HBW:=U (HB5.o.trans (HB.o.mono HB5.o.size));have QD:=U (BD (w:=wr) (fun W => Ol Ae m ce W));have QV:=U (AU (w:=wr) (fun W _ => HDV.o W));clear hat hat2 hk1 hG hm hrd;by_cases hl2:(m:Int)=dv
    ·have hlb2:=CR hl2;have HL2:=U (show(G.length:Int)=d.s.sh.data+d.s.sh.p by rw[HM.o,HDVE.o];exact hl2);clear hl2;go_wp2_with fail
     (refine aF (by kernel_rfl) (by kernel_rfl) ?_;(repeat(first|go_big_quiet_step (first|(go_at_call 167;exact QD.o _ _)|(go_at_call 168;exact QV.o _ _))|quiet_step (first|(go_at_call 167;exact QD.o _ _)|(go_at_call 168;exact QV.o _ _))));refine aP ?_)
     rintro _ ⟨⟨dq,osq⟩,rfl⟩;have b7:=aH wr dq osq;generalize grow (redrawn wr dq) osq=w7 at b7;have HB7:=U (HB.o.trans (b7.mono HB.o.size));have HBW7:=U (HBW.o.trans (b7.mono HBW.o.size));obtain⟨A',c',e,-,hmx,hx2⟩:=rSl.at_ Ak.fixed (by decide) (rSl.below Ak.local_ Ak.fixed HRD.o b7);injection e with e1 _ e3
     subst e1 e3;have HX2:=U hx2;have z17:w.heap.size+1<w7.heap.size:=aE z2 b7.size;clear hx2 hmx b7 QD QV u0 u1 u2 u3 u4 u5 u6 u7 u8 z1 z2 SR hlb2 hpc hbl HRD HBW;go_wp2_with fail
     go_loopw [30,7] (fun i _ wr =>∃j:Nat,j≤m∧i= int i64 j∧Hid (BV (C5 d.s.sh) G j)∧Hid (Below w7.heap.size w7 wr)) (fun i _ _ => m - (intOf i).toNat)
     case atStart => exact⟨0,by omega,rfl,BV.zero _ _,aB _ _⟩
     case round =>
      obtain⟨j,hj,rfl,HT2,HBR⟩:=hrel;by_cases hlt2:j<m
      ·have hj1:j<G.length:=by rw[HM.o];exact hlt2
       have hji:(j:Int)<(m:Int):=by omega
       obtain⟨ad2,b2,o2,cs2,fk2,rfl,hat⟩:=HX2.o j hj1;have hat2:=hat.below Ak.local_ HBR.o;have hpl2:=hat.place;have hbl2:=hat2.lt;obtain⟨v3,g3,e3,-,hrb⟩:=hat2.reads;subst e3;obtain⟨A3,c3,rfl,hmc3,hmm3⟩:=rSl.head hrb;have y0:=hat2.cell 0 (by simp);have y1:=hat2.cell 1 (by simp);simp only[bE,aU,bM]at y0 y1;have HSTEP2:=U (HT2.o.step hj1);have HBAD2:=U (fun(h:C5 d.s.sh G[j] =false) => HBAD.o (Kn hj1 h));obtain⟨D,hD⟩:∃D,G[j] =D:=⟨_,rfl⟩;rw[hD]at y0 y1 hrb hmc3 HSTEP2 HBAD2;obtain⟨nb,hnb⟩:∃nb,D.blocks.length=nb:=⟨_,rfl⟩;rw[hnb]at y1 hrb hmc3;have HNB:=U hnb;obtain⟨dw,hdw⟩:∃dw,D.wiped=dw:=⟨_,rfl⟩;rw[hdw]at y0;have SR:=U (S5.o.below (HB7.o.trans (HBR.o.mono HB7.o.size)));have z1:w.heap.size+1<wr.heap.size:=aE z17 HBR.o.size;have HBW2:=U (HBW7.o.trans (HBR.o.mono HBW7.o.size));have hb8:Below wr.heap.size wr (wr.alloc (.cells #[.bool dw,.slice A3 nb c3] 194)):=(aB _ _).alloc (aC _) _;have S8:=U (SR.o.below hb8);have u4:=aA S8.o.c4;have HB8:=U (HBW2.o.trans (hb8.mono HBW2.o.size));have K8:=U (Blk.new wr 194 #[.bool dw,.slice A3 nb c3]);have q1:=aA (show(wr.alloc (.cells #[.bool dw,.slice A3 nb c3] 194)).cell? ⟨wr.heap.size,1,none⟩=some (.slice A3 nb c3)from(Blk.cell K8.o 1).trans rfl);have QSZ:=U (BD (w:=wr.alloc (.cells #[.bool dw,.slice A3 nb c3] 194)) (fun W => Oj A3 nb c3 W));have QCF:=U (AU (w:=wr.alloc (.cells #[.bool dw,.slice A3 nb c3] 194)) (fun W hW => Kg 2 (by omega) sizeOf196 isAgg196 (fun b => !CH b) 171 #[] _ D.blocks _ W (enters_of func171 (by kernel_rfl) rfl) (rSl.below AE.local_ AE.fixed (rSl.below AE.local_ AE.fixed hrb hb8) hW) (fun W2 cs fk j hj hW2 hR => OO D.blocks[j] cs fk W2 hR)));obtain⟨ab,hab⟩:∃ab,(D.blocks.any fun b => !CH b)=ab:=⟨_,rfl⟩;rw[hab]at QCF;have HAB:=U hab;clear hat hat2 hj1 hD hnb hdw hrb hb8 hab;by_cases hl3:(nb:Int)=d.s.sh.rows
       ·have hlb3:=CR hl3;have HDB:=U (show C5 d.s.sh D= !ab by rw[← HAB.o];exact OV (by rw[HNB.o];exact hl3));clear hl3;cases ab with
        |true =>
         have e1:r=false:=HBAD2.o HDB.o;subst e1;go_wp2_with fail
         (refine aF (by kernel_rfl) (by kernel_rfl) ?_;(repeat(first|go_big_quiet_step (first|(go_at_call 169;exact QSZ.o _ _)|(go_at_call 170;exact QCF.o _ _))|quiet_step (first|(go_at_call 169;exact QSZ.o _ _)|(go_at_call 170;exact QCF.o _ _))));refine aP ?_)
         rintro _ ⟨⟨dq,osq⟩,rfl⟩;have HB9:=U (HB8.o.trans ((aH _ dq osq).mono HB8.o.size));go_wp2_with fail
         go_ret
         exact⟨rfl,HB9.o⟩
        |false =>
         have HST2:=U (HSTEP2.o HDB.o);go_wp2_with fail
         (refine aF (by kernel_rfl) (by kernel_rfl) ?_;(repeat(first|go_big_quiet_step (first|(go_at_call 169;exact QSZ.o _ _)|(go_at_call 170;exact QCF.o _ _))|quiet_step (first|(go_at_call 169;exact QSZ.o _ _)|(go_at_call 170;exact QCF.o _ _))));refine aP ?_)
         rintro _ ⟨⟨dq,osq⟩,rfl⟩;have HB9:=U ((HBR.o.alloc HBR.o.size _).trans ((aH (wr.alloc (.cells #[.bool dw,.slice A3 nb c3] 194)) dq osq).mono (HBR.o.alloc HBR.o.size _).size));go_wp2_with fail
         go_roundw
         case rel => exact⟨j+1,by omega,by go_num,HST2.o,HB9.o⟩
         case measure => simp[intOf];omega
       ·have hlb3:=DV hl3;have e1:r=false:=HBAD2.o (Kj (by rw[HNB.o];exact hl3));subst e1;clear hl3;go_wp2_with fail
        (refine aF (by kernel_rfl) (by kernel_rfl) ?_;(repeat(first|go_big_quiet_step (first|(go_at_call 169;exact QSZ.o _ _))|quiet_step (first|(go_at_call 169;exact QSZ.o _ _))));refine aP ?_)
        rintro _ ⟨⟨dq,osq⟩,rfl⟩;have HB9:=U (HB8.o.trans ((aH _ dq osq).mono HB8.o.size));go_wp2_with fail
        go_ret
        exact⟨rfl,HB9.o⟩
      ·obtain rfl:j=m:=by omega
       have HST1:=U (HSTEP.o (LN HL2.o (by rw[HM.o];exact HT2.o)));have HB9:=U (HB7.o.trans (HBR.o.mono HB7.o.size));go_wp2_with fail
       go_roundw
       case rel => exact⟨k+1,by omega,by go_num,HST1.o,HB9.o⟩
       case measure => simp[intOf];omega
    ·have hlb2:=DV hl2;have e1:r=false:=HBAD.o (Ko (by rw[HM.o,HDVE.o];exact hl2));subst e1;clear hl2;go_wp2_with fail
     (refine aF (by kernel_rfl) (by kernel_rfl) ?_;(repeat(first|go_big_quiet_step (first|(go_at_call 167;exact QD.o _ _)|(go_at_call 168;exact QV.o _ _))|quiet_step (first|(go_at_call 167;exact QD.o _ _)|(go_at_call 168;exact QV.o _ _))));refine aP ?_)
     rintro _ ⟨⟨dq,osq⟩,rfl⟩;have HB9:=U (HBW.o.trans ((aH _ dq osq).mono HBW.o.size));go_wp2_with fail
     go_ret
     exact⟨rfl,HB9.o⟩
   ·obtain rfl:k=nG:=by omega
    have e1:r=true:=by
     rw[← HRV.o];exact LH (by rw[HNG.o,HALE.o];exact HL.o) (by rw[HNG.o];exact HT.o)
    subst e1;have HBW:=U (HB5.o.trans (HB.o.mono HB5.o.size));go_wp2_with fail
    go_ret
    exact⟨rfl,HBW.o⟩
 ·have hlb:=DV hl;have e1:r=false:=by
   rw[← HRV.o];exact Kd (by rw[HNG.o,HALE.o];exact hl)
  subst e1;clear hl
  (refine aF (by kernel_rfl) (by kernel_rfl) ?_;(repeat(first|go_big_quiet_step (first|(go_at_call 166;exact QN.o _ _)|(go_at_call 101;exact QA.o _ _))|quiet_step (first|(go_at_call 166;exact QN.o _ _)|(go_at_call 101;exact QA.o _ _))));refine aP ?_)
  rintro _ ⟨⟨dq,osq⟩,rfl⟩;have HB9:=U (HB2.o.trans ((aH _ dq osq).mono HB2.o.size));go_wp2_with fail
  go_ret
  exact⟨rfl,HB9.o⟩
theorem onOK_c(d:Am)(hs:d.s.sh.Ok)(cs:List Value)(f:List Addr)(w:World)(h:AC w f cs d) :
  Calls prog 98 #[.agg cs.toArray] w fun e w' => e= .returned (.bool (onB d.s.sh d.on d.down))∧Below w.heap.size w w':=by
 dsimp only[AC]at h;obtain⟨v0,v1,v2,f0,f1,f2,rfl,-,o0,o1,o2,o3,o4,o5,o6,o7,o8,o9,o10,r0,r1,r2⟩:=h;obtain⟨A0,c0,rfl,m0,m0'⟩:=rSl.head r0;obtain⟨A1,c1,rfl,m1,m1'⟩:=rSl.head r1;obtain⟨A2,c2,rfl,m2,m2'⟩:=rSl.head r2;obtain⟨nG,hnG⟩:∃nG,d.g.length=nG:=⟨_,rfl⟩;obtain⟨nO,hnO⟩:∃nO,d.on.length=nO:=⟨_,rfl⟩;obtain⟨nT,hnT⟩:∃nT,d.v.length=nT:=⟨_,rfl⟩;rw[hnG]at r0 m0⊢;rw[hnO]at r1 m1⊢;rw[hnT]at r2 m2⊢;have HNG:=U hnG;have HNO:=U hnO;have HNT:=U hnT;have hb1:Below w.heap.size w (w.alloc (.cells #[int i64 d.s.g,int i64 d.s.c,int i64 d.s.data,int i64 d.s.p,int i64 d.s.rows,int i64 d.s.cap,int i64 d.s.b,int i64 d.s.q,int i64 d.s.t,.slice A0 nG c0,.slice A1 nO c1,.slice A2 nT c2,int i64 d.u,int i64 d.stop,.bool d.down] 35)):=(aB _ _).alloc (aC _) _;have hk1:Blk (w.alloc (.cells #[int i64 d.s.g,int i64 d.s.c,int i64 d.s.data,int i64 d.s.p,int i64 d.s.rows,int i64 d.s.cap,int i64 d.s.b,int i64 d.s.q,int i64 d.s.t,.slice A0 nG c0,.slice A1 nO c1,.slice A2 nT c2,int i64 d.u,int i64 d.stop,.bool d.down] 35)) w.heap.size 35 #[int i64 d.s.g,int i64 d.s.c,int i64 d.s.data,int i64 d.s.p,int i64 d.s.rows,int i64 d.s.cap,int i64 d.s.b,int i64 d.s.q,int i64 d.s.t,.slice A0 nG c0,.slice A1 nO c1,.slice A2 nT c2,int i64 d.u,int i64 d.stop,.bool d.down]:=Blk.new _ _ _;have K1:=U hk1;have HB1:=U hb1;have R0:=U (rSl.below (Al.local_ Ak.local_) (Al.fixed Ak.fixed) r0 hb1);have R1:=U (rSl.below Az.local_ Az.fixed r1 hb1);have R2:=U (rSl.below Ay.local_ Ay.fixed r2 hb1);clear r0 r1 r2 hb1 hk1 hnG hnO hnT;obtain⟨r,hr⟩:∃r,onB d.s.sh d.on d.down=r:=⟨_,rfl⟩;rw[hr];have HRV:=U hr;obtain⟨al,hal⟩:∃al,d.s.sh.g+d.s.sh.c - 1=al:=⟨_,rfl⟩;have HIG0:=U (fun(x:Int) (W:World) => I6 d.s.sh hs x W);rw[hal]at HIG0;have HALE:=U hal;obtain⟨A',c',e,hcc,hm,hx⟩:=AO.open_ R1.o;injection e with e1 e2 e3
 subst e1 e3;clear e2;rw[HNO.o]at hcc;have HX:=U hx;have p10:(w.alloc (.cells #[int i64 d.s.g,int i64 d.s.c,int i64 d.s.data,int i64 d.s.p,int i64 d.s.rows,int i64 d.s.cap,int i64 d.s.b,int i64 d.s.q,int i64 d.s.t,.slice A0 nG c0,.slice A1 nO c1,.slice A2 nT c2,int i64 d.u,int i64 d.stop,.bool d.down] 35)).cell? ⟨w.heap.size,10,none⟩=some (.slice A1 nO c1):=(Blk.cell K1.o 10).trans rfl;have zz:w.heap.size<(w.alloc (.cells #[int i64 d.s.g,int i64 d.s.c,int i64 d.s.data,int i64 d.s.p,int i64 d.s.rows,int i64 d.s.cap,int i64 d.s.b,int i64 d.s.q,int i64 d.s.t,.slice A0 nG c0,.slice A1 nO c1,.slice A2 nT c2,int i64 d.u,int i64 d.stop,.bool d.down] 35)).heap.size:=K1.o.lt;have HZ:=U zz;unfold shV at HIG0;clear hr hs hal hx zz;go_enter func98,ntmps98
 go_wp2_with fail
 clear p10;go_loopw [8,3,4] (fun i _ _ wr =>∃k:Nat,k≤nO∧i= int i64 k∧Hid (C4 d.on al k)∧Hid (Below (w.alloc (.cells #[int i64 d.s.g,int i64 d.s.c,int i64 d.s.data,int i64 d.s.p,int i64 d.s.rows,int i64 d.s.cap,int i64 d.s.b,int i64 d.s.q,int i64 d.s.t,.slice A0 nG c0,.slice A1 nO c1,.slice A2 nT c2,int i64 d.u,int i64 d.stop,.bool d.down] 35)).heap.size (w.alloc (.cells #[int i64 d.s.g,int i64 d.s.c,int i64 d.s.data,int i64 d.s.p,int i64 d.s.rows,int i64 d.s.cap,int i64 d.s.b,int i64 d.s.q,int i64 d.s.t,.slice A0 nG c0,.slice A1 nO c1,.slice A2 nT c2,int i64 d.u,int i64 d.stop,.bool d.down] 35)) wr)) (fun i _ _ _ => nO - (intOf i).toNat)
 case atStart => exact⟨0,by omega,rfl,Ha _ _,aB _ _⟩
 case round =>
  obtain⟨k,hk,rfl,HT,HB⟩:=hrel;have KW:=U (K1.o.below HB.o K1.o.lt);have p10w:wr.cell? ⟨w.heap.size,10,none⟩=some (.slice A1 nO c1):=(Blk.cell KW.o 10).trans rfl;have zw:w.heap.size<wr.heap.size:=KW.o.lt;have HBW:=U (HB1.o.trans (HB.o.mono HB1.o.size));by_cases hlt:k<nO
  ·have hk1:k<d.on.length:=by rw[HNO.o];exact hlt
   obtain⟨ad,e1,-,b1,p1,-⟩:=HX.o k hk1;subst e1;have p1':=(HB.o.cell (p:=ad.add k) b1).trans p1;have hki:(k:Int)<(nO:Int):=by omega
   have hki2:(k:Int)≤(nO:Int):=by omega
   have hki3:(k:Int)≤(c1:Int):=by omega
   have hkc:k≤c1:=by omega
   obtain⟨x,hx⟩:∃x,d.on[k] =x:=⟨_,rfl⟩;rw[hx]at p1';obtain⟨q1,q2,hp,-,-⟩:=rSl.split (j:=k) R1.o (by rw[HNO.o];omega);have HCT:=U (fun(W:World) (hW:Below wr.heap.size wr W) => Hv _ (d.on.take k) x q1 W (rSl.below Az.local_ Az.fixed hp (HB.o.trans (hW.mono HB.o.size))));have HIG:=U (HIG0.o x);have HRS:=U (Blk.range KW.o 0 [int i64 d.s.g,int i64 d.s.c,int i64 d.s.data,int i64 d.s.p,int i64 d.s.rows,int i64 d.s.cap,int i64 d.s.b,int i64 d.s.q,int i64 d.s.t] rfl);have HOB:=U (fun(h:DD d.on al=false) => show r=false from by rw[← HRV.o];unfold onB;rw[HALE.o,h];rfl);cases hin:Ap x 0 al with
   |true =>
    rw[hin]at HIG;cases hme:decide (x∈d.on.take k)with
    |false =>
     rw[hme]at HCT;have HS2:=U (G7 HT.o hk1 (by rw[hx];exact hin) (by rw[hx];exact of_decide_eq_false hme));clear hx p1 b1 hp hin hme hk1;go_wp2_with (first
      |(refine aD rfl 31 _ rfl w.heap.size 0 rfl _ _ HRS.o underlying31 rfl (by kernel_rfl) ?_)
      |(go_at_call 54;refine(HIG.o _).mono ?_;rintro e w3 ⟨rfl,b3⟩;have B3:=U b3;have p10:=(b3.cell (p:=⟨w.heap.size,10,none⟩) zw).trans p10w;have zw3:w.heap.size<w3.heap.size:=aE zw b3.size;clear b3)
      |(go_at_call 173;refine(HCT.o _ B3.o).mono ?_;rintro e w4 ⟨rfl,b4⟩;have B4:=U b4;clear b4))
     go_roundw
     case rel => exact⟨k+1,by omega,by go_num,HS2.o,HB.o.trans ((B3.o.trans (B4.o.mono B3.o.size)).mono HB.o.size)⟩
     case measure => simp[intOf];omega
    |true =>
     rw[hme]at HCT;have e1:r=false:=HOB.o (Ia hk1 (.inr (by rw[hx];exact bO hme)));subst e1;clear hx p1 b1 hp hin hme hk1;go_wp2_with (first
      |(refine aD rfl 31 _ rfl w.heap.size 0 rfl _ _ HRS.o underlying31 rfl (by kernel_rfl) ?_)
      |(go_at_call 54;refine(HIG.o _).mono ?_;rintro e w3 ⟨rfl,b3⟩;have B3:=U b3;have p10:=(b3.cell (p:=⟨w.heap.size,10,none⟩) zw).trans p10w;have zw3:w.heap.size<w3.heap.size:=aE zw b3.size;clear b3)
      |(go_at_call 173;refine(HCT.o _ B3.o).mono ?_;rintro e w4 ⟨rfl,b4⟩;have B4:=U b4;clear b4))
     go_ret
     exact⟨rfl,HBW.o.trans ((B3.o.trans (B4.o.mono B3.o.size)).mono HBW.o.size)⟩
   |false =>
    rw[hin]at HIG;have e1:r=false:=HOB.o (Ia hk1 (.inl (by rw[hx];exact hin)));subst e1;clear hx p1 b1 hp hin hk1;go_wp2_with (first
      |(refine aD rfl 31 _ rfl w.heap.size 0 rfl _ _ HRS.o underlying31 rfl (by kernel_rfl) ?_)
      |(go_at_call 54;refine(HIG.o _).mono ?_;rintro e w3 ⟨rfl,b3⟩;have B3:=U b3;have p10:=(b3.cell (p:=⟨w.heap.size,10,none⟩) zw).trans p10w;have zw3:w.heap.size<w3.heap.size:=aE zw b3.size;clear b3))
    go_ret
    exact⟨rfl,HBW.o.trans (B3.o.mono HBW.o.size)⟩
  ·obtain rfl:k=nO:=by omega
   have hap:=Mz (l:=d.on) (hi:=al) (by rw[HNO.o];exact HT.o);have hob:r=(decide ((k:Int)≤d.s.cap) && (decide (k=0)||!d.down)):=by
    rw[← HRV.o];unfold onB;rw[HALE.o,hap,HNO.o];rfl
   have HOB:=U hob;clear hap hob;have u5:=aA (show wr.cell? ⟨w.heap.size,5,none⟩=some (int i64 d.s.cap)from(Blk.cell KW.o 5).trans rfl);have u10:=aA p10w;have QS:=U (BD (w:=wr) (fun W => Rm A1 k c1 W));obtain⟨dn,hdn⟩:∃dn,d.down=dn:=⟨_,rfl⟩;have u14:=aA (show wr.cell? ⟨w.heap.size,14,none⟩=some (.bool dn)from(Blk.cell KW.o 14).trans (by rw[← hdn];rfl));rw[hdn]at HOB;clear hdn p10w;by_cases hle:(k:Int)≤d.s.cap
   ·by_cases hz:k=0
    ·have hz1:((k:Int) == 0)=true:=by rw[hz];rfl
     have e1:r=true:=by rw[HOB.o,aK hle,aK hz];rfl
     subst e1;clear hz;go_wp2_with fail
     (refine aF (by kernel_rfl) (by kernel_rfl) ?_;(repeat(first|go_big_quiet_step (first|(go_at_call 174;exact QS.o _ _))|quiet_step (first|(go_at_call 174;exact QS.o _ _))));refine aP ?_)
     rintro _ ⟨⟨dq,osq⟩,rfl⟩;have HB9:=U (HBW.o.trans ((aH _ dq osq).mono HBW.o.size));go_wp2_with fail
     go_ret
     exact⟨rfl,HB9.o⟩
    ·have hz1:((k:Int) == 0)=false:=by simpa using hz
     have e1:r= !dn:=by rw[HOB.o,aK hle,aG hz];rfl
     subst e1;clear hz;go_wp2_with fail
     (refine aF (by kernel_rfl) (by kernel_rfl) ?_;(repeat(first|go_big_quiet_step (first|(go_at_call 174;exact QS.o _ _))|quiet_step (first|(go_at_call 174;exact QS.o _ _))));refine aP ?_)
     rintro _ ⟨⟨dq,osq⟩,rfl⟩;have HB9:=U (HBW.o.trans ((aH _ dq osq).mono HBW.o.size));go_wp2_with fail
     go_ret
     exact⟨rfl,HB9.o⟩
   ·have e1:r=false:=by rw[HOB.o,aG hle];rfl
    subst e1;have hle1:decide ((k:Int)≤d.s.cap)=false:=aG hle;have hle2:d.s.cap<(k:Int):=by omega
    go_wp2_with fail
    (refine aF (by kernel_rfl) (by kernel_rfl) ?_;(repeat(first|go_big_quiet_step (first|(go_at_call 174;exact QS.o _ _))|quiet_step (first|(go_at_call 174;exact QS.o _ _))));refine aP ?_)
    rintro _ ⟨⟨dq,osq⟩,rfl⟩;have HB9:=U (HBW.o.trans ((aH _ dq osq).mono HBW.o.size));go_wp2_with fail
    go_ret
    exact⟨rfl,HB9.o⟩
theorem Pp(t:AS)(cs:List Value)(f:List Addr)(w:World)(h:Ay w f cs t) :
  Calls prog 176 #[.agg cs.toArray] w fun e w' => e= .returned (.bool (decide (200<t.recs.length)))∧Below w.heap.size w w':=by
 obtain⟨v0,f0,rfl,-,h0⟩:=h;obtain⟨A0,c0,rfl,-⟩:=rSl.head h0;clear h0;obtain⟨n,hn⟩:∃n,t.recs.length=n:=⟨_,rfl⟩;rw[hn];clear hn;by_cases h:200<n
 ·have h1:(200:Int)<(n:Int):=by omega
  rw[aK h];clear h;go_enter func176,ntmps176
  go_wp2_with fail
  go_ret
  exact⟨rfl,(aB _ _).alloc (aC _) _⟩
 ·have h1:¬(200:Int)<(n:Int):=by omega
  rw[aG h];clear h;go_enter func176,ntmps176
  go_wp2_with fail
  go_ret
  exact⟨rfl,(aB _ _).alloc (aC _) _⟩
theorem Oq(t:AS)(cs:List Value)(f:List Addr)(w:World)(h:Ay w f cs t) :
  Calls prog 178 #[.agg cs.toArray] w fun e w' => e= .returned (.bool (t.wiped && decide (0<t.recs.length)))∧Below w.heap.size w w':=by
 obtain⟨v0,f0,rfl,-,h0⟩:=h;obtain⟨A0,c0,rfl,-⟩:=rSl.head h0;clear h0;obtain⟨n,hn⟩:∃n,t.recs.length=n:=⟨_,rfl⟩;obtain⟨tw,htw⟩:∃tw,t.wiped=tw:=⟨_,rfl⟩;rw[hn,htw];clear hn htw;cases tw with
 |false =>
  go_enter func178,ntmps178
  go_wp2_with fail
  go_ret
  exact⟨rfl,(aB _ _).alloc (aC _) _⟩
 |true =>
  go_enter func178,ntmps178
  go_wp2_with fail
  go_ret
  exact⟨by rw[Bool.true_and];rfl,(aB _ _).alloc (aC _) _⟩
theorem NG(d:Am)(hsb:shB d.s.sh=true)(cs:List Value)(f:List Addr)(w:World)(h:AC w f cs d) :
  Calls prog 99 #[.agg cs.toArray] w fun e w' => e= .returned (int i64 (Bn d.s.sh d.v))∧Below w.heap.size w w':=by
 dsimp only[AC]at h;obtain⟨v0,v1,v2,f0,f1,f2,rfl,-,o0,o1,o2,o3,o4,o5,o6,o7,o8,o9,o10,r0,r1,r2⟩:=h;obtain⟨A0,c0,rfl,m0,m0'⟩:=rSl.head r0;obtain⟨A1,c1,rfl,m1,m1'⟩:=rSl.head r1;obtain⟨A2,c2,rfl,m2,m2'⟩:=rSl.head r2;obtain⟨nG,hnG⟩:∃nG,d.g.length=nG:=⟨_,rfl⟩;obtain⟨nO,hnO⟩:∃nO,d.on.length=nO:=⟨_,rfl⟩;obtain⟨nT,hnT⟩:∃nT,d.v.length=nT:=⟨_,rfl⟩;rw[hnG]at r0 m0⊢;rw[hnO]at r1 m1⊢;rw[hnT]at r2 m2⊢;have HNG:=U hnG;have HNO:=U hnO;have HNT:=U hnT;have hb1:Below w.heap.size w (w.alloc (.cells #[int i64 d.s.g,int i64 d.s.c,int i64 d.s.data,int i64 d.s.p,int i64 d.s.rows,int i64 d.s.cap,int i64 d.s.b,int i64 d.s.q,int i64 d.s.t,.slice A0 nG c0,.slice A1 nO c1,.slice A2 nT c2,int i64 d.u,int i64 d.stop,.bool d.down] 35)):=(aB _ _).alloc (aC _) _;have hk1:Blk (w.alloc (.cells #[int i64 d.s.g,int i64 d.s.c,int i64 d.s.data,int i64 d.s.p,int i64 d.s.rows,int i64 d.s.cap,int i64 d.s.b,int i64 d.s.q,int i64 d.s.t,.slice A0 nG c0,.slice A1 nO c1,.slice A2 nT c2,int i64 d.u,int i64 d.stop,.bool d.down] 35)) w.heap.size 35 #[int i64 d.s.g,int i64 d.s.c,int i64 d.s.data,int i64 d.s.p,int i64 d.s.rows,int i64 d.s.cap,int i64 d.s.b,int i64 d.s.q,int i64 d.s.t,.slice A0 nG c0,.slice A1 nO c1,.slice A2 nT c2,int i64 d.u,int i64 d.stop,.bool d.down]:=Blk.new _ _ _;have K1:=U hk1;have HB1:=U hb1;have R0:=U (rSl.below (Al.local_ Ak.local_) (Al.fixed Ak.fixed) r0 hb1);have R1:=U (rSl.below Az.local_ Az.fixed r1 hb1);have R2:=U (rSl.below Ay.local_ Ay.fixed r2 hb1);clear r0 r1 r2 hb1 hk1 hnG hnO hnT;obtain⟨r,hr⟩:∃r,Bn d.s.sh d.v=r:=⟨_,rfl⟩;rw[hr];have HRV:=U hr;have HRC:=U (fun(x:Ah) (cs:List Value) (f:List Addr) (W:World) (hR:Ac W f cs x) => Qr d.s.sh hsb x cs f W hR);have HM:=U (Hw 2 (by omega) sizeOf139 isAgg139 (fun t => decide (200<t.recs.length)) 176 #[] _ d.v _ (w.alloc (.cells #[int i64 d.s.g,int i64 d.s.c,int i64 d.s.data,int i64 d.s.p,int i64 d.s.rows,int i64 d.s.cap,int i64 d.s.b,int i64 d.s.q,int i64 d.s.t,.slice A0 nG c0,.slice A1 nO c1,.slice A2 nT c2,int i64 d.u,int i64 d.stop,.bool d.down] 35)) (enters_of func176 (by kernel_rfl) rfl) R2.o (fun W2 cs fk j hj hW2 hR => Pp d.v[j] cs fk W2 hR));have HWP:=U (fun(W:World) (hW:Below (w.alloc (.cells #[int i64 d.s.g,int i64 d.s.c,int i64 d.s.data,int i64 d.s.p,int i64 d.s.rows,int i64 d.s.cap,int i64 d.s.b,int i64 d.s.q,int i64 d.s.t,.slice A0 nG c0,.slice A1 nO c1,.slice A2 nT c2,int i64 d.u,int i64 d.stop,.bool d.down] 35)).heap.size (w.alloc (.cells #[int i64 d.s.g,int i64 d.s.c,int i64 d.s.data,int i64 d.s.p,int i64 d.s.rows,int i64 d.s.cap,int i64 d.s.b,int i64 d.s.q,int i64 d.s.t,.slice A0 nG c0,.slice A1 nO c1,.slice A2 nT c2,int i64 d.u,int i64 d.stop,.bool d.down] 35)) W) => Hw 2 (by omega) sizeOf139 isAgg139 (fun t => t.wiped && decide (0<t.recs.length)) 178 #[] _ d.v _ W (enters_of func178 (by kernel_rfl) rfl) (rSl.below Ay.local_ Ay.fixed R2.o hW) (fun W2 cs fk j hj hW2 hR => Oq d.v[j] cs fk W2 hR));unfold shV at HRC;have p11:(w.alloc (.cells #[int i64 d.s.g,int i64 d.s.c,int i64 d.s.data,int i64 d.s.p,int i64 d.s.rows,int i64 d.s.cap,int i64 d.s.b,int i64 d.s.q,int i64 d.s.t,.slice A0 nG c0,.slice A1 nO c1,.slice A2 nT c2,int i64 d.u,int i64 d.stop,.bool d.down] 35)).cell? ⟨w.heap.size,11,none⟩=some (.slice A2 nT c2):=(Blk.cell K1.o 11).trans rfl;have zz:w.heap.size<(w.alloc (.cells #[int i64 d.s.g,int i64 d.s.c,int i64 d.s.data,int i64 d.s.p,int i64 d.s.rows,int i64 d.s.cap,int i64 d.s.b,int i64 d.s.q,int i64 d.s.t,.slice A0 nG c0,.slice A1 nO c1,.slice A2 nT c2,int i64 d.u,int i64 d.stop,.bool d.down] 35)).heap.size:=K1.o.lt;cases hmany:d.v.any (fun t => decide (200<t.recs.length))with
 |true =>
  rw[hmany]at HM;have e1:r=2:=by rw[← HRV.o];exact FP hmany
  subst e1;clear hr hsb hmany;go_enter func99,ntmps99
  go_wp2_with (go_at_call 175;refine HM.o.mono ?_;rintro e w2 ⟨rfl,b2⟩;have B2:=U b2;clear b2)
  go_ret
  exact⟨rfl,HB1.o.trans (B2.o.mono HB1.o.size)⟩
 |false =>
  rw[hmany]at HM;have HMANY:=U hmany;clear hr hsb hmany;obtain⟨A',c',e,hcc,hm,hx⟩:=rSl.at_ Ay.fixed (by decide) R2.o;injection e with e1 e2 e3
  subst e1 e3;clear e2;have HX:=U hx;clear hx hm;rw[HNT.o]at hcc;go_enter func99,ntmps99
  go_wp2_with (go_at_call 175;refine HM.o.mono ?_;rintro e w2 ⟨rfl,b2⟩;have B2:=U b2;have p11:=(b2.cell (p:=⟨w.heap.size,11,none⟩) zz).trans p11;have z2:w.heap.size<w2.heap.size:=aE zz b2.size;clear b2)
  have HB2:=U (HB1.o.trans (B2.o.mono HB1.o.size));clear p11;generalize(w.alloc (.cells #[int i64 d.s.g,int i64 d.s.c,int i64 d.s.data,int i64 d.s.p,int i64 d.s.rows,int i64 d.s.cap,int i64 d.s.b,int i64 d.s.q,int i64 d.s.t,.slice A0 nG c0,.slice A1 nO c1,.slice A2 nT c2,int i64 d.u,int i64 d.stop,.bool d.down] 35))=w1 at HWP K1 HB1 R0 R1 R2 HX B2 zz HM;go_loopw [14,4,6,7] (fun i _ _ _ wr =>∃k:Nat,k≤nT∧i= int i64 k∧Hid (CB d.s.sh d.v k)∧Hid (Below w1.heap.size w1 wr)) (fun i _ _ _ _ => nT - (intOf i).toNat)
  case atStart => exact⟨0,by omega,rfl,CB.zero _ _,B2.o⟩
  case round =>
   obtain⟨k,hk,rfl,HT,HB⟩:=hrel;clear HB2;have HBW:=U (HB1.o.trans (HB.o.mono HB1.o.size));have zw:w.heap.size<wr.heap.size:=aE zz HB.o.size;by_cases hlt:k<nT
   ·have hk1:k<d.v.length:=by rw[HNT.o];exact hlt
    have hki:(k:Int)<(nT:Int):=by omega
    obtain⟨ad,b,o,cs,fk,rfl,hat⟩:=HX.o k hk1;have hat2:=hat.below Ay.local_ HB.o;have hpl:=hat.place;have hbl:=hat2.lt;obtain⟨v3,g3,e3,-,hrb⟩:=hat2.reads;subst e3;have y0:=hat2.cell 0 (by simp);have y1:=hat2.cell 1 (by simp);simp only[bE,aU,bM]at y0 y1;obtain⟨A3,c3,rfl,hmc3,hmm3,hx3⟩:=rSl.at_ Ac.fixed (by decide) hrb;have HSTEP:=U (HT.o.step hk1);have HBAD:=U (fun(h:AY d.s.sh d.v[k].recs≠0) => show r=AY d.s.sh d.v[k].recs from by
     have h2:=HT.o.bad hk1 h;rw[← HRV.o,IJ HMANY.o (by rw[h2];exact h),h2])
    have HY:=U hx3;obtain⟨tw,htw⟩:∃tw,d.v[k].wiped =tw:=⟨_,rfl⟩;rw[htw]at y0;obtain⟨rs,hrs⟩:∃rs,d.v[k].recs =rs:=⟨_,rfl⟩;rw[hrs]at y1 hmc3 HSTEP HBAD HY;clear hat hat2 hrb hx3 htw hrs hk1;go_wp2_with fail
    have hb0:Hid (Below w1.heap.size w1 (wr.alloc (.cells #[.bool tw,.slice A3 rs.length c3] 139))):=HB.o.alloc HB.o.size _;have hy0:Hid (Below wr.heap.size wr (wr.alloc (.cells #[.bool tw,.slice A3 rs.length c3] 139))):=(aB _ _).alloc (aC _) _;obtain⟨wt,hwt⟩:∃wt,wr.alloc (.cells #[.bool tw,.slice A3 rs.length c3] 139)=wt:=⟨_,rfl⟩;rw[hwt]at hb0 hy0⊢;obtain⟨w8,rfl⟩:∃w8,w8=wr:=⟨_,rfl⟩;clear hwt y0 y1 hpl;go_loopw [21,6,7] (fun i _ _ wr =>∃i':Nat,i'≤rs.length∧i= int i64 i'∧Hid (BV (fun x => decide (AF d.s.sh x=0)) rs i')∧Hid (Below w1.heap.size w1 wr)∧Hid (Below w8.heap.size w8 wr)) (fun i _ _ _ => rs.length - (intOf i).toNat)
    case atStart => exact⟨0,by omega,rfl,BV.zero _ _,hb0.o,hy0.o⟩
    case round =>
     clear hb0 hy0;obtain⟨i,hi,rfl,HT2,HBR,HB8⟩:=hrel;by_cases hlti:i<rs.length
     ·obtain⟨ad3,b3,o3,cs3,f3,rfl,hat⟩:=HY.o i hlti;have hat2:=hat.below Ac.local_ HB8.o;have hpl:=hat.place;have hbl3:=hat2.lt;have hlen:cs3.length=9:=hat2.len;have HR:=U (show wr.rangeAt b3 o3 cs3 from fun q v hq => by
       have hq1:q<cs3.length:=(List.getElem?_eq_some_iff.1 hq).1;rw[hat2.cell q hq1,← hq];exact(aO hq1).symm)
      have HI:=U (show(prog.info? 119).map (·.size)=some cs3.length by rw[hlen];kernel_rfl);have HI2:=U (show(prog.info? 119).map (·.size)=some cs3.toArray.size by rw[aZ,hlen];kernel_rfl);have HON:=U (all_oneCell_toArray (Ac.ones _ _ _ _ hat2.reads));obtain⟨Z,hZ⟩:∃Z:Array Value,#[int i64 0,int i64 0,.string ⟨#[]⟩,int i64 0,int i64 0,int i64 0,.slice none 0 0,.slice none 0 0,.slice none 0 0] =Z:=⟨_,rfl⟩;have hZs:Z.size=9:=by rw[← hZ];rfl
      have KZ:=Blk.new wr 119 Z;have HTH:=U (Blk.there KZ cs3.toArray.size (by rw[aZ,hlen,hZs];exact aC _));obtain⟨W2,hW2⟩:∃W2,(wr.alloc (.cells Z 119)).setCells wr.heap.size 0 cs3.toArray.toList=W2:=⟨_,rfl⟩;have K2:=U (show Blk W2 wr.heap.size 119 cs3.toArray by rw[← hW2];exact Blk.laid KZ _ (by rw[hZs];exact hlen.symm));have B2:=U (show Below wr.heap.size wr W2 by rw[← hW2];exact Ba (Af (aB _ _) _) _ 0 (aC _));have HS2:=U (show wr.heap.size<W2.heap.size from K2.o.lt);have HW2:=U hW2;have HBR2:=U (HBR.o.trans (B2.o.mono HBR.o.size));have HB82:=U (HB8.o.trans (B2.o.mono HB8.o.size));have HR2:=U (Blk.rangeAll K2.o);have HRSW:=U (Blk.range (K1.o.below HBR2.o K1.o.lt) 0 [int i64 d.s.g,int i64 d.s.c,int i64 d.s.data,int i64 d.s.p,int i64 d.s.rows,int i64 d.s.cap,int i64 d.s.b,int i64 d.s.q,int i64 d.s.t] rfl);have HC:=U (HRC.o rs[i] cs3 f3 W2 (AB.below Ac.local_ Ac.fixed hat2.reads B2.o));have HBADI:=U (fun(h:AF d.s.sh rs[i]≠0) => show r=AF d.s.sh rs[i]from by
       have h2:=Ik hlti HT2.o h;rw[HBAD.o (by rw[h2];exact h),h2])
      have HSTI:=U (fun(h:AF d.s.sh rs[i] =0) => HT2.o.step hlti (aK h));obtain⟨rc,hrc⟩:∃rc,AF d.s.sh rs[i] =rc:=⟨_,rfl⟩;rw[hrc]at HC HBADI HSTI;clear hat hat2 hW2 KZ hrc hlen hZs;by_cases h0:rc=0
      ·have HST:=U (HSTI.o h0);subst h0;go_wp2_with (first
        |(refine aD rfl 119 (.tmp 23) rfl b3 o3 rfl cs3 _ HR.o underlying119 rfl HI.o ?_)
        |(refine aW rfl 119 (.tmp 6) (.tmp 24) rfl wr.heap.size 0 cs3.toArray rfl rfl HTH.o HI2.o HON.o ?_;rw[HW2.o])
        |(refine aD rfl 31 _ rfl w.heap.size 0 rfl _ _ HRSW.o underlying31 rfl (by kernel_rfl) ?_)
        |(refine aD rfl 119 (.tmp 6) rfl wr.heap.size 0 rfl cs3 _ HR2.o underlying119 rfl HI.o ?_)
        |(go_at_call 177;refine HC.o.mono ?_;rintro e w3 ⟨rfl,hb3⟩;have B3:=U hb3;clear hb3))
       go_roundw
       case rel => exact⟨i+1,by omega,by go_num,HST.o,HBR2.o.trans (B3.o.mono HBR2.o.size),HB82.o.trans (B3.o.mono HB82.o.size)⟩
       case measure => simp[intOf];omega
      ·have e1:r=rc:=HBADI.o h0;subst e1;have hne:(r != 0)=true:=DV h0;go_wp2_with (first
        |(refine aD rfl 119 (.tmp 23) rfl b3 o3 rfl cs3 _ HR.o underlying119 rfl HI.o ?_)
        |(refine aW rfl 119 (.tmp 6) (.tmp 24) rfl wr.heap.size 0 cs3.toArray rfl rfl HTH.o HI2.o HON.o ?_;rw[HW2.o])
        |(refine aD rfl 31 _ rfl w.heap.size 0 rfl _ _ HRSW.o underlying31 rfl (by kernel_rfl) ?_)
        |(refine aD rfl 119 (.tmp 6) rfl wr.heap.size 0 rfl cs3 _ HR2.o underlying119 rfl HI.o ?_)
        |(go_at_call 177;refine HC.o.mono ?_;rintro e w3 ⟨rfl,hb3⟩;have B3:=U hb3;clear hb3))
       go_ret
       exact⟨rfl,HB1.o.trans ((HBR2.o.trans (B3.o.mono HBR2.o.size)).mono HB1.o.size)⟩
     ·obtain rfl:i=rs.length:=by omega
      have HST:=U (HSTEP.o (IX HT2.o));go_wp2_with fail
      go_roundw
      case rel => exact⟨k+1,by omega,by go_num,HST.o,HBR.o⟩
      case measure => simp[intOf];omega
   ·obtain rfl:k=nT:=by omega
    have hall:AY d.s.sh (d.v.flatMap AS.recs)=0:=CB.all (by rw[HNT.o];exact HT.o);have HEND:=U (HRV.o.symm.trans (II HMANY.o hall));have p11:wr.cell? ⟨w.heap.size,11,none⟩=some (.slice A2 k c2):=(HB.o.cell (p:=⟨w.heap.size,11,none⟩) zz).trans ((Blk.cell K1.o 11).trans rfl);have HW:=U (HWP.o wr HB.o);clear hall;cases hany:d.v.any (fun t => t.wiped && decide (0<t.recs.length))with
    |true =>
     rw[hany]at HEND HW;have e1:r=1:=HEND.o.trans rfl;subst e1;clear hany;go_wp2_with (go_at_call 175;refine HW.o.mono ?_;rintro e w2 ⟨rfl,b2⟩;have B4:=U b2;clear b2)
     go_ret
     exact⟨rfl,HBW.o.trans (B4.o.mono HBW.o.size)⟩
    |false =>
     rw[hany]at HEND HW;have e1:r=0:=HEND.o.trans rfl;subst e1;clear hany;go_wp2_with (go_at_call 175;refine HW.o.mono ?_;rintro e w2 ⟨rfl,b2⟩;have B4:=U b2;clear b2)
     go_ret
     exact⟨rfl,HBW.o.trans (B4.o.mono HBW.o.size)⟩
