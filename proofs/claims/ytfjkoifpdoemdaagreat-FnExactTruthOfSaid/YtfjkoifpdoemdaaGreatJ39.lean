/- Part 39 of the proof. -/
import Derived.Test.YtfjkoifpdoemdaaGreatJ38
set_option maxHeartbeats 8000000
set_option maxRecDepth 100000
set_option linter.unusedVariables false
set_option linter.unusedSimpArgs false
open Go.Proofs.Tryz
open Go.Value (int)
open Go.IntKind (i64)
namespace Go.Proofs.YtfjkoifpdoemdaaGreat
open Go.RowKit Go.Lib Go.Sort
theorem LR(d:Am)(hs:d.s.sh.Ok)(cs:List Value)(f:List Addr)(w:World)(h:AC w f cs d) :
  Calls prog 83 #[.agg cs.toArray] w fun e w' => e= .returned (.bool (BJ d.s.sh d.g))∧Below w.heap.size w w':=by
 dsimp only[AC]at h;obtain⟨v0,v1,v2,f0,f1,f2,rfl,-,o0,o1,o2,o3,o4,o5,o6,o7,o8,o9,o10,r0,r1,r2⟩:=h;obtain⟨A0,c0,rfl,m0,m0'⟩:=rSl.head r0;obtain⟨A1,c1,rfl,m1,m1'⟩:=rSl.head r1;obtain⟨A2,c2,rfl,m2,m2'⟩:=rSl.head r2;obtain⟨nG,hnG⟩:∃nG,d.g.length=nG:=⟨_,rfl⟩;obtain⟨nO,hnO⟩:∃nO,d.on.length=nO:=⟨_,rfl⟩;obtain⟨nT,hnT⟩:∃nT,d.v.length=nT:=⟨_,rfl⟩;rw[hnG]at r0 m0⊢;rw[hnO]at r1 m1⊢;rw[hnT]at r2 m2⊢;have HNG:=U hnG;have HNO:=U hnO;have HNT:=U hnT;have hb1:Below w.heap.size w (w.alloc (.cells #[int i64 d.s.g,int i64 d.s.c,int i64 d.s.data,int i64 d.s.p,int i64 d.s.rows,int i64 d.s.cap,int i64 d.s.b,int i64 d.s.q,int i64 d.s.t,.slice A0 nG c0,.slice A1 nO c1,.slice A2 nT c2,int i64 d.u,int i64 d.stop,.bool d.down] 35)):=(aB _ _).alloc (aC _) _;have hk1:Blk (w.alloc (.cells #[int i64 d.s.g,int i64 d.s.c,int i64 d.s.data,int i64 d.s.p,int i64 d.s.rows,int i64 d.s.cap,int i64 d.s.b,int i64 d.s.q,int i64 d.s.t,.slice A0 nG c0,.slice A1 nO c1,.slice A2 nT c2,int i64 d.u,int i64 d.stop,.bool d.down] 35)) w.heap.size 35 #[int i64 d.s.g,int i64 d.s.c,int i64 d.s.data,int i64 d.s.p,int i64 d.s.rows,int i64 d.s.cap,int i64 d.s.b,int i64 d.s.q,int i64 d.s.t,.slice A0 nG c0,.slice A1 nO c1,.slice A2 nT c2,int i64 d.u,int i64 d.stop,.bool d.down]:=Blk.new _ _ _;have K1:=U hk1;have HB1:=U hb1;have R0:=U (rSl.below (Al.local_ Ak.local_) (Al.fixed Ak.fixed) r0 hb1);have R1:=U (rSl.below Az.local_ Az.fixed r1 hb1);have R2:=U (rSl.below Ay.local_ Ay.fixed r2 hb1);clear r0 r1 r2 hb1 hk1 hnG hnO hnT;have KN:=U (Blk.new1 w (.cells #[int i64 d.s.g,int i64 d.s.c,int i64 d.s.data,int i64 d.s.p,int i64 d.s.rows,int i64 d.s.cap,int i64 d.s.b,int i64 d.s.q,int i64 d.s.t,.slice A0 nG c0,.slice A1 nO c1,.slice A2 nT c2,int i64 d.u,int i64 d.stop,.bool d.down] 35) 31 #[int i64 0,int i64 0,int i64 0,int i64 0,int i64 0,int i64 0,int i64 0,int i64 0,int i64 0]);have HTH:=U (Blk.there KN.o 9 (by simp));have HRS:=U (Blk.range K1.o 0 [int i64 d.s.g,int i64 d.s.c,int i64 d.s.data,int i64 d.s.p,int i64 d.s.rows,int i64 d.s.cap,int i64 d.s.b,int i64 d.s.q,int i64 d.s.t] rfl);have K3:=U (show Blk (((w.alloc (.cells #[int i64 d.s.g,int i64 d.s.c,int i64 d.s.data,int i64 d.s.p,int i64 d.s.rows,int i64 d.s.cap,int i64 d.s.b,int i64 d.s.q,int i64 d.s.t,.slice A0 nG c0,.slice A1 nO c1,.slice A2 nT c2,int i64 d.u,int i64 d.stop,.bool d.down] 35)).alloc (.cells #[int i64 0,int i64 0,int i64 0,int i64 0,int i64 0,int i64 0,int i64 0,int i64 0,int i64 0] 31)).setCells (w.heap.size+1) 0 [int i64 d.s.g,int i64 d.s.c,int i64 d.s.data,int i64 d.s.p,int i64 d.s.rows,int i64 d.s.cap,int i64 d.s.b,int i64 d.s.q,int i64 d.s.t]) (w.heap.size+1) 31 #[int i64 d.s.g,int i64 d.s.c,int i64 d.s.data,int i64 d.s.p,int i64 d.s.rows,int i64 d.s.cap,int i64 d.s.b,int i64 d.s.q,int i64 d.s.t]from Blk.laid KN.o [int i64 d.s.g,int i64 d.s.c,int i64 d.s.data,int i64 d.s.p,int i64 d.s.rows,int i64 d.s.cap,int i64 d.s.b,int i64 d.s.q,int i64 d.s.t] rfl);have K2:=U (show Blk (((w.alloc (.cells #[int i64 d.s.g,int i64 d.s.c,int i64 d.s.data,int i64 d.s.p,int i64 d.s.rows,int i64 d.s.cap,int i64 d.s.b,int i64 d.s.q,int i64 d.s.t,.slice A0 nG c0,.slice A1 nO c1,.slice A2 nT c2,int i64 d.u,int i64 d.stop,.bool d.down] 35)).alloc (.cells #[int i64 0,int i64 0,int i64 0,int i64 0,int i64 0,int i64 0,int i64 0,int i64 0,int i64 0] 31)).setCells (w.heap.size+1) 0 [int i64 d.s.g,int i64 d.s.c,int i64 d.s.data,int i64 d.s.p,int i64 d.s.rows,int i64 d.s.cap,int i64 d.s.b,int i64 d.s.q,int i64 d.s.t]) w.heap.size 35 #[int i64 d.s.g,int i64 d.s.c,int i64 d.s.data,int i64 d.s.p,int i64 d.s.rows,int i64 d.s.cap,int i64 d.s.b,int i64 d.s.q,int i64 d.s.t,.slice A0 nG c0,.slice A1 nO c1,.slice A2 nT c2,int i64 d.u,int i64 d.stop,.bool d.down]from Blk.farS [int i64 d.s.g,int i64 d.s.c,int i64 d.s.data,int i64 d.s.p,int i64 d.s.rows,int i64 d.s.cap,int i64 d.s.b,int i64 d.s.q,int i64 d.s.t] (w.heap.size+1) 0 _ (by omega) (K1.o.alloc _));have HB2:=U (show Below w.heap.size w (((w.alloc (.cells #[int i64 d.s.g,int i64 d.s.c,int i64 d.s.data,int i64 d.s.p,int i64 d.s.rows,int i64 d.s.cap,int i64 d.s.b,int i64 d.s.q,int i64 d.s.t,.slice A0 nG c0,.slice A1 nO c1,.slice A2 nT c2,int i64 d.u,int i64 d.stop,.bool d.down] 35)).alloc (.cells #[int i64 0,int i64 0,int i64 0,int i64 0,int i64 0,int i64 0,int i64 0,int i64 0,int i64 0] 31)).setCells (w.heap.size+1) 0 [int i64 d.s.g,int i64 d.s.c,int i64 d.s.data,int i64 d.s.p,int i64 d.s.rows,int i64 d.s.cap,int i64 d.s.b,int i64 d.s.q,int i64 d.s.t])from Below.setCells_ _ _ _ _ (by omega) (HB1.o.alloc (by simp) _));have hb12:Below (w.alloc (.cells #[int i64 d.s.g,int i64 d.s.c,int i64 d.s.data,int i64 d.s.p,int i64 d.s.rows,int i64 d.s.cap,int i64 d.s.b,int i64 d.s.q,int i64 d.s.t,.slice A0 nG c0,.slice A1 nO c1,.slice A2 nT c2,int i64 d.u,int i64 d.stop,.bool d.down] 35)).heap.size (w.alloc (.cells #[int i64 d.s.g,int i64 d.s.c,int i64 d.s.data,int i64 d.s.p,int i64 d.s.rows,int i64 d.s.cap,int i64 d.s.b,int i64 d.s.q,int i64 d.s.t,.slice A0 nG c0,.slice A1 nO c1,.slice A2 nT c2,int i64 d.u,int i64 d.stop,.bool d.down] 35)) (((w.alloc (.cells #[int i64 d.s.g,int i64 d.s.c,int i64 d.s.data,int i64 d.s.p,int i64 d.s.rows,int i64 d.s.cap,int i64 d.s.b,int i64 d.s.q,int i64 d.s.t,.slice A0 nG c0,.slice A1 nO c1,.slice A2 nT c2,int i64 d.u,int i64 d.stop,.bool d.down] 35)).alloc (.cells #[int i64 0,int i64 0,int i64 0,int i64 0,int i64 0,int i64 0,int i64 0,int i64 0,int i64 0] 31)).setCells (w.heap.size+1) 0 [int i64 d.s.g,int i64 d.s.c,int i64 d.s.data,int i64 d.s.p,int i64 d.s.rows,int i64 d.s.cap,int i64 d.s.b,int i64 d.s.q,int i64 d.s.t]):=Below.setCells_ _ _ _ _ (by simp) ((aB _ _).alloc (aC _) _);have R02:=U (rSl.below (Al.local_ Ak.local_) (Al.fixed Ak.fixed) R0.o hb12);clear hb12;obtain⟨r,hr⟩:∃r,BJ d.s.sh d.g=r:=⟨_,rfl⟩;rw[hr];have HRV:=U hr;have HAL:=U (fun(W:World) => FJ d.s.sh hs W);have HDV:=U (fun(W:World) => Qd d.s.sh hs W);unfold shV at HAL HDV;obtain⟨al,hal⟩:∃al,d.s.sh.g+d.s.sh.c=al:=⟨_,rfl⟩;obtain⟨dv,hdv⟩:∃dv,d.s.sh.data+d.s.sh.p=dv:=⟨_,rfl⟩;rw[hal]at HAL;rw[hdv]at HDV;have HALE:=U hal;have HDVE:=U hdv;clear hr hs hal hdv;go_enter func83,ntmps83
 go_wp2_with (first
  |(refine aD rfl 31 _ rfl w.heap.size 0 rfl _ _ HRS.o underlying31 rfl (by kernel_rfl) ?_)
  |(refine aW rfl 31 _ _ rfl (w.heap.size+1) 0 #[int i64 d.s.g,int i64 d.s.c,int i64 d.s.data,int i64 d.s.p,int i64 d.s.rows,int i64 d.s.cap,int i64 d.s.b,int i64 d.s.q,int i64 d.s.t] rfl rfl ?_ (by kernel_rfl) (by simp[Value.oneCell']) ?_;(focus (exact HTH.o))))
 generalize((w.alloc (.cells #[int i64 d.s.g,int i64 d.s.c,int i64 d.s.data,int i64 d.s.p,int i64 d.s.rows,int i64 d.s.cap,int i64 d.s.b,int i64 d.s.q,int i64 d.s.t,.slice A0 nG c0,.slice A1 nO c1,.slice A2 nT c2,int i64 d.u,int i64 d.stop,.bool d.down] 35)).alloc (.cells #[int i64 0,int i64 0,int i64 0,int i64 0,int i64 0,int i64 0,int i64 0,int i64 0,int i64 0] 31)).setCells (w.heap.size+1) 0 [int i64 d.s.g,int i64 d.s.c,int i64 d.s.data,int i64 d.s.p,int i64 d.s.rows,int i64 d.s.cap,int i64 d.s.b,int i64 d.s.q,int i64 d.s.t] =w2 at K2 K3 HB2 R02⊢;clear KN HTH HRS K1 HB1 R0 R1 R2;have S2:=U (DK.of (s:=d.s.sh) K3.o);have u0:=aA S2.o.c0;have u1:=aA S2.o.c1;have u2:=aA S2.o.c2;have u3:=aA S2.o.c3;have u4:=aA S2.o.c4;have u5:=aA S2.o.c5;have u6:=aA S2.o.c6;have u7:=aA S2.o.c7;have u8:=aA S2.o.c8;have p9:w2.cell? ⟨w.heap.size,9,none⟩=some (.slice A0 nG c0):=(Blk.cell K2.o 9).trans rfl;have u9:=aA p9;have z1:w.heap.size<w2.heap.size:=K2.o.lt;have z2:w.heap.size+1<w2.heap.size:=K3.o.lt;have QA:=U (AU (w:=w2) (fun W _ => HAL.o W));by_cases hl:(nG:Int)=al
 ·have hlb:=CR hl;have HL:=U hl;clear hl
  (refine aF (by kernel_rfl) (by kernel_rfl) ?_;(repeat(first|go_big_quiet_step (first|(go_at_call 37;exact QA.o _ _))|quiet_step (first|(go_at_call 37;exact QA.o _ _))));refine aP ?_)
  rintro _ ⟨⟨dq,osq⟩,rfl⟩;have b5:=aH w2 dq osq;generalize grow (redrawn w2 dq) osq=w5 at b5;have S5:=U (S2.o.below b5);have HB5:=U (HB2.o.trans (b5.mono HB2.o.size));have P9:=U ((b5.cell (p:=⟨w.heap.size,9,none⟩) z1).trans p9);have z15:w.heap.size<w5.heap.size:=aE z1 b5.size;have z25:w.heap.size+1<w5.heap.size:=aE z2 b5.size;obtain⟨A',c',e,-,hm,hx⟩:=rSl.at_ (Al.fixed Ak.fixed) (by decide) (rSl.below (Al.local_ Ak.local_) (Al.fixed Ak.fixed) R02.o b5);injection e with e1 e2 e3
  subst e1 e3;clear e2;have HX:=U hx;clear hx hm b5 QA u0 u1 u2 u3 u4 u5 u6 u7 u8 u9 p9 z1 z2 S2 K2 K3 R02 HB2 hlb;go_wp2_with fail
  go_loopw [4,5,6,7] (fun i _ _ _ wr =>∃k:Nat,k≤nG∧i= int i64 k∧Hid (BV (Dr d.s.sh) d.g k)∧Hid (Below w5.heap.size w5 wr)) (fun i _ _ _ _ => nG - (intOf i).toNat)
  case atStart => exact⟨0,by omega,rfl,BV.zero _ _,aB _ _⟩
  case round =>
   obtain⟨k,hk,rfl,HT,HB⟩:=hrel;have P9R:=U ((HB.o.cell (p:=⟨w.heap.size,9,none⟩) z15).trans P9.o);have p9:=P9R.o;by_cases hlt:k<nG
   ·have hk1:k<d.g.length:=by rw[HNG.o];exact hlt
    have hki:(k:Int)<(nG:Int):=by omega
    obtain⟨ad,b,o,cs,fk,rfl,hat⟩:=HX.o k hk1;have hat2:=hat.below (Al.local_ Ak.local_) HB.o;have hpl:=hat.place;have hbl:=hat2.lt;obtain⟨ve,hve,hrd⟩:=hat2.reads;subst hve;obtain⟨Ae,ce,rfl,hmc,hmm⟩:=rSl.head hrd;have hpc:=hat2.cell 0 (by simp);simp only[bE,aU]at hpc;rw[Nat.mul_one]at hpl;have HSTEP:=U (HT.o.step hk1);have HBAD:=U (fun(h:Dr d.s.sh d.g[k] =false) => HRV.o.symm.trans (Kc hk1 h));obtain⟨G,hG⟩:∃G,d.g[k] =G:=⟨_,rfl⟩;rw[hG]at hpc hrd hmc HSTEP HBAD;obtain⟨m,hm⟩:∃m,G.length=m:=⟨_,rfl⟩;rw[hm]at hpc hrd hmc;have HM:=U hm;have HRD:=U hrd;have SR:=U (S5.o.below HB.o);have u0:=aA SR.o.c0;have u1:=aA SR.o.c1;have u2:=aA SR.o.c2;have u3:=aA SR.o.c3;have u4:=aA SR.o.c4;have u5:=aA SR.o.c5;have u6:=aA SR.o.c6;have u7:=aA SR.o.c7;have u8:=aA SR.o.c8;have u9:=aA p9;have v9:=aA hpc;have z1:w.heap.size<wr.heap.size:=aE z15 HB.o.size;have z2:w.heap.size+1<wr.heap.size:=aE z25 HB.o.size;have HBW:=U (HB5.o.trans (HB.o.mono HB5.o.size));have QV:=U (AU (w:=wr) (fun W _ => HDV.o W));clear hat hat2 hk1 hG hm hrd;by_cases hl2:(m:Int)=dv
    ·have hlb2:=CR hl2;have HL2:=U (show(G.length:Int)=d.s.sh.data+d.s.sh.p by rw[HM.o,HDVE.o];exact hl2);clear hl2;go_wp2_with fail
     (refine aF (by kernel_rfl) (by kernel_rfl) ?_;(repeat(first|go_big_quiet_step (first|(go_at_call 145;exact QV.o _ _))|quiet_step (first|(go_at_call 145;exact QV.o _ _))));refine aP ?_)
     rintro _ ⟨⟨dq,osq⟩,rfl⟩;have b7:=aH wr dq osq;generalize grow (redrawn wr dq) osq=w7 at b7;have HB7:=U (HB.o.trans (b7.mono HB.o.size));have HBW7:=U (HBW.o.trans (b7.mono HBW.o.size));obtain⟨A',c',e,-,hmx,hx2⟩:=rSl.at_ Ak.fixed (by decide) (rSl.below Ak.local_ Ak.fixed HRD.o b7);injection e with e1 e2 e3
     subst e1 e3;clear e2;have HX2:=U hx2;have z07:w.heap.size<w7.heap.size:=aE z1 b7.size;have z17:w.heap.size+1<w7.heap.size:=aE z2 b7.size;have zb7:b<w7.heap.size:=aE hbl b7.size;have P97:=U ((b7.cell (p:=⟨w.heap.size,9,none⟩) z1).trans p9);have PC7:=U ((b7.cell (p:=⟨b,o,none⟩) hbl).trans hpc);clear hx2 hmx b7 QV u0 u1 u2 u3 u4 u5 u6 u7 u8 u9 v9 z1 z2 SR hlb2 hpc hbl HRD HBW p9 P9R;go_wp2_with fail
     go_loopw [5,6,7] (fun i _ _ wr =>∃j:Nat,j≤m∧i= int i64 j∧Hid (BV (C5 d.s.sh) G j)∧Hid (Below w7.heap.size w7 wr)) (fun i _ _ _ => m - (intOf i).toNat)
     case atStart => exact⟨0,by omega,rfl,BV.zero _ _,aB _ _⟩
     case round =>
      obtain⟨j,hj,rfl,HT2,HBR⟩:=hrel;have p9:=(HBR.o.cell (p:=⟨w.heap.size,9,none⟩) z07).trans P97.o;have hpc:=(HBR.o.cell (p:=⟨b,o,none⟩) zb7).trans PC7.o;have hbl:b<wr.heap.size:=aE zb7 HBR.o.size;have z1:w.heap.size<wr.heap.size:=aE z07 HBR.o.size;have z2:w.heap.size+1<wr.heap.size:=aE z17 HBR.o.size;by_cases hlt2:j<m
      ·have hj1:j<G.length:=by rw[HM.o];exact hlt2
       have hji:(j:Int)<(m:Int):=by omega
       obtain⟨ad2,b2,o2,cs2,fk2,rfl,hat⟩:=HX2.o j hj1;have hat2:=hat.below Ak.local_ HBR.o;have hpl2:=hat.place;have hbl2:=hat2.lt;obtain⟨v3,g3,e3,-,hrb⟩:=hat2.reads;subst e3;have y1:=hat2.cell 1 (by simp);simp only[bE,aU,bM]at y1;obtain⟨A3,c3,rfl,hmc3,hmm3,hx3⟩:=rSl.at_ AE.fixed (by decide) hrb;have HSTEP2:=U (HT2.o.step hj1);have HBAD2:=U (fun(h:C5 d.s.sh G[j] =false) => HBAD.o (Kn hj1 h));obtain⟨D,hD⟩:∃D,G[j] =D:=⟨_,rfl⟩;rw[hD]at y1 hmc3 HSTEP2 HBAD2;have HX3:=U hx3;rw[hD]at HX3;obtain⟨nb,hnb⟩:∃nb,D.blocks.length=nb:=⟨_,rfl⟩;rw[hnb]at y1 hmc3;have HNB:=U hnb;have SR:=U (S5.o.below (HB7.o.trans (HBR.o.mono HB7.o.size)));have u4:=SR.o.c4;have HBW2:=U (HBW7.o.trans (HBR.o.mono HBW7.o.size));clear hat hat2 hj1 hD hnb hrb hx3;by_cases hl3:(nb:Int)=d.s.sh.rows
       ·have hlb3:=CR hl3;have HL3:=U (show(D.blocks.length:Int)=d.s.sh.rows by rw[HNB.o];exact hl3);clear hl3;obtain⟨w8,rfl⟩:∃w8,w8=wr:=⟨_,rfl⟩;go_wp2_with fail
        go_loopw [7] (fun i wr =>∃q:Nat,q≤nb∧i= int i64 q∧Hid (BV CH D.blocks q)∧Hid (Below w8.heap.size w8 wr)) (fun i _ => nb - (intOf i).toNat)
        case atStart => exact⟨0,by omega,rfl,BV.zero _ _,aB _ _⟩
        case round =>
         obtain⟨q,hq,rfl,HT3,HB3⟩:=hrel;clear p9 hpc u4 y1;have HBW3:=U (HBW2.o.trans (HB3.o.mono HBW2.o.size));by_cases hlt3:q<nb
         ·have hq1:q<D.blocks.length:=by rw[HNB.o];exact hlt3
          have hqi:(q:Int)<(nb:Int):=by omega
          obtain⟨ad3,b3,o3,cs3,fk3,rfl,hat⟩:=HX3.o q hq1;have hat2:=hat.below AE.local_ HB3.o;have hpl3:=hat.place;have hbl3:=hat2.lt;obtain⟨v4,g4,e4,-,-,hrb⟩:=hat2.reads;subst e4;obtain⟨A4,c4,rfl,hmc4,hmm4⟩:=rSl.head hrb;have x0:=hat2.cell 0 (by simp);have x1:=hat2.cell 1 (by simp);simp only[bE,aU,bM]at x0 x1;have HSTEP3:=U (HT3.o.step hq1);have HBAD3:=U (fun(h:CH D.blocks[q] =false) => HBAD2.o (OW hq1 h));obtain⟨B,hB⟩:∃B,D.blocks[q] =B:=⟨_,rfl⟩;rw[hB]at x0 x1 hmc4 HSTEP3 HBAD3;obtain⟨st,hst⟩:∃st,B.stamp=st:=⟨_,rfl⟩;rw[hst]at x0;obtain⟨ny,hny⟩:∃ny,B.bytes.length=ny:=⟨_,rfl⟩;rw[hny]at x1 hmc4;have HST:=U hst;have HNY:=U hny;have HIN:=U (fun(W:World) => BT st 0 1000000000 W);clear hat hat2 hq1 hB hst hny hrb;cases hin:Ap st 0 1000000000 with
          |false =>
           rw[hin]at HIN;have e1:r=false:=HBAD3.o (MC (by rw[HST.o];exact hin));subst e1;clear hin;go_wp2_with (go_at_call 35;refine(HIN.o _).mono ?_;rintro e w' ⟨rfl,rfl⟩)
           go_ret
           exact⟨rfl,HBW3.o⟩
          |true =>
           rw[hin]at HIN;have HIN2:=U hin;clear hin;by_cases hl4:ny=4
           ·have HST3:=U (HSTEP3.o (PW (by rw[HST.o];exact HIN2.o) (by rw[HNY.o];exact hl4)));have hl5:=CR (a:=(ny:Int)) (b:=4) (by omega);go_wp2_with (go_at_call 35;refine(HIN.o _).mono ?_;rintro e w' ⟨rfl,rfl⟩)
            go_roundw
            case rel => exact⟨q+1,by omega,by go_num,HST3.o,HB3.o⟩
            case measure => simp[intOf];omega
           ·have hl5:=DV (a:=(ny:Int)) (b:=4) (by omega);have e1:r=false:=HBAD3.o (OP (by rw[HNY.o];exact hl4));subst e1;go_wp2_with (go_at_call 35;refine(HIN.o _).mono ?_;rintro e w' ⟨rfl,rfl⟩)
            go_ret
            exact⟨rfl,HBW3.o⟩
         ·obtain rfl:q=nb:=by omega
          have HST2:=U (HSTEP2.o (Qb HL3.o (by rw[HNB.o];exact HT3.o)));have HB9:=U (HBR.o.trans (HB3.o.mono HBR.o.size));go_wp2_with fail
          go_roundw
          case rel => exact⟨j+1,by omega,by go_num,HST2.o,HB9.o⟩
          case measure => simp[intOf];omega
       ·have hlb3:=DV hl3;have e1:r=false:=HBAD2.o (Kj (by rw[HNB.o];exact hl3));subst e1;clear hl3;go_wp2_with fail
        go_ret
        exact⟨rfl,HBW2.o⟩
      ·obtain rfl:j=m:=by omega
       have HST1:=U (HSTEP.o (LN HL2.o (by rw[HM.o];exact HT2.o)));have HB9:=U (HB7.o.trans (HBR.o.mono HB7.o.size));go_wp2_with fail
       go_roundw
       case rel => exact⟨k+1,by omega,by go_num,HST1.o,HB9.o⟩
       case measure => simp[intOf];omega
    ·have hlb2:=DV hl2;have e1:r=false:=HBAD.o (Ko (by rw[HM.o,HDVE.o];exact hl2));subst e1;clear hl2;go_wp2_with fail
     (refine aF (by kernel_rfl) (by kernel_rfl) ?_;(repeat(first|go_big_quiet_step (first|(go_at_call 145;exact QV.o _ _))|quiet_step (first|(go_at_call 145;exact QV.o _ _))));refine aP ?_)
     rintro _ ⟨⟨dq,osq⟩,rfl⟩;have HB9:=U (HBW.o.trans ((aH _ dq osq).mono HBW.o.size));go_wp2_with fail
     go_ret
     exact⟨rfl,HB9.o⟩
   ·obtain rfl:k=nG:=by omega
    have e1:r=true:=by
     rw[← HRV.o];exact LH (by rw[HNG.o,HALE.o];exact HL.o) (by rw[HNG.o];exact HT.o)
    subst e1;have HBW:=U (HB5.o.trans (HB.o.mono HB5.o.size));have z1:w.heap.size<wr.heap.size:=aE z15 HB.o.size;go_wp2_with fail
    go_ret
    exact⟨rfl,HBW.o⟩
 ·have hlb:=DV hl;have e1:r=false:=by
   rw[← HRV.o];exact Kd (by rw[HNG.o,HALE.o];exact hl)
  subst e1;clear hl
  (refine aF (by kernel_rfl) (by kernel_rfl) ?_;(repeat(first|go_big_quiet_step (first|(go_at_call 37;exact QA.o _ _))|quiet_step (first|(go_at_call 37;exact QA.o _ _))));refine aP ?_)
  rintro _ ⟨⟨dq,osq⟩,rfl⟩;have HB9:=U (HB2.o.trans ((aH _ dq osq).mono HB2.o.size));go_wp2_with fail
  go_ret
  exact⟨rfl,HB9.o⟩
