/-
  Part 29 of the proof; the last part states and proves the statement.
-/
import Derived.Test.YthbljikbnoghcaaGreatM28
set_option maxHeartbeats 8000000
set_option maxRecDepth 100000
set_option linter.unusedVariables false
set_option linter.unusedSimpArgs false
open Go.Value (int)
open Go.IntKind (i64)
namespace Go.Proofs.YthbljikbnoghcaaGreat
open Go.RowKit Go.Lib Go.Sort
theorem KO(d:Au)(hs:d.s.sh.Ok)(cs:List Value)(f:List Addr)(w:World)(h:AD w f cs d) :
  Calls Tryz.prog 58 #[.agg cs.toArray] w fun e w' => e= .returned (.bool (BR d.s.sh d.g))∧Below w.heap.size w w':=by
 dsimp only[AD]at h;obtain⟨v0,v1,v2,f0,f1,f2,rfl,-,o0,o1,o2,o3,o4,o5,o6,o7,o8,o9,o10,r0,r1,r2⟩:=h;obtain⟨A0,c0,rfl,m0,m0'⟩:=rSl.head r0;obtain⟨A1,c1,rfl,m1,m1'⟩:=rSl.head r1;obtain⟨A2,c2,rfl,m2,m2'⟩:=rSl.head r2;obtain⟨nG,hnG⟩:∃nG,d.g.length=nG:=⟨_,rfl⟩;obtain⟨nO,hnO⟩:∃nO,d.on.length=nO:=⟨_,rfl⟩;obtain⟨nT,hnT⟩:∃nT,d.v.length=nT:=⟨_,rfl⟩;rw[hnG]at r0 m0⊢;rw[hnO]at r1 m1⊢;rw[hnT]at r2 m2⊢;have HNG:=hid hnG;have HNO:=hid hnO;have HNT:=hid hnT;have hb1:Below w.heap.size w (w.alloc (.cells #[int i64 d.s.g,int i64 d.s.c,int i64 d.s.data,int i64 d.s.p,int i64 d.s.rows,int i64 d.s.cap,int i64 d.s.b,int i64 d.s.q,int i64 d.s.t,.slice A0 nG c0,.slice A1 nO c1,.slice A2 nT c2,int i64 d.u,int i64 d.stop,.bool d.down] 31)):=(Below.refl _ _).alloc (Nat.le_refl _) _;have hk1:Blk (w.alloc (.cells #[int i64 d.s.g,int i64 d.s.c,int i64 d.s.data,int i64 d.s.p,int i64 d.s.rows,int i64 d.s.cap,int i64 d.s.b,int i64 d.s.q,int i64 d.s.t,.slice A0 nG c0,.slice A1 nO c1,.slice A2 nT c2,int i64 d.u,int i64 d.stop,.bool d.down] 31)) w.heap.size 31 #[int i64 d.s.g,int i64 d.s.c,int i64 d.s.data,int i64 d.s.p,int i64 d.s.rows,int i64 d.s.cap,int i64 d.s.b,int i64 d.s.q,int i64 d.s.t,.slice A0 nG c0,.slice A1 nO c1,.slice A2 nT c2,int i64 d.u,int i64 d.stop,.bool d.down]:=Blk.new _ _ _;have K1:=hid hk1;have HB1:=hid hb1;have R0:=hid (rSl.below (Am.local_ Av.local_) (Am.fixed Av.fixed) r0 hb1);have R1:=hid (rSl.below As.local_ As.fixed r1 hb1);have R2:=hid (rSl.below AK.local_ AK.fixed r2 hb1);clear r0 r1 r2 hb1 hk1 hnG hnO hnT;have KN:=hid (Blk.new1 w (.cells #[int i64 d.s.g,int i64 d.s.c,int i64 d.s.data,int i64 d.s.p,int i64 d.s.rows,int i64 d.s.cap,int i64 d.s.b,int i64 d.s.q,int i64 d.s.t,.slice A0 nG c0,.slice A1 nO c1,.slice A2 nT c2,int i64 d.u,int i64 d.stop,.bool d.down] 31) 25 #[int i64 0,int i64 0,int i64 0,int i64 0,int i64 0,int i64 0,int i64 0,int i64 0,int i64 0]);have HTH:=hid (Blk.there KN.out 9 (by simp));have HRS:=hid (Blk.range K1.out 0 [int i64 d.s.g,int i64 d.s.c,int i64 d.s.data,int i64 d.s.p,int i64 d.s.rows,int i64 d.s.cap,int i64 d.s.b,int i64 d.s.q,int i64 d.s.t] rfl);have K3:=hid (show Blk (((w.alloc (.cells #[int i64 d.s.g,int i64 d.s.c,int i64 d.s.data,int i64 d.s.p,int i64 d.s.rows,int i64 d.s.cap,int i64 d.s.b,int i64 d.s.q,int i64 d.s.t,.slice A0 nG c0,.slice A1 nO c1,.slice A2 nT c2,int i64 d.u,int i64 d.stop,.bool d.down] 31)).alloc (.cells #[int i64 0,int i64 0,int i64 0,int i64 0,int i64 0,int i64 0,int i64 0,int i64 0,int i64 0] 25)).setCells (w.heap.size+1) 0 [int i64 d.s.g,int i64 d.s.c,int i64 d.s.data,int i64 d.s.p,int i64 d.s.rows,int i64 d.s.cap,int i64 d.s.b,int i64 d.s.q,int i64 d.s.t]) (w.heap.size+1) 25 #[int i64 d.s.g,int i64 d.s.c,int i64 d.s.data,int i64 d.s.p,int i64 d.s.rows,int i64 d.s.cap,int i64 d.s.b,int i64 d.s.q,int i64 d.s.t]from Blk.laid KN.out [int i64 d.s.g,int i64 d.s.c,int i64 d.s.data,int i64 d.s.p,int i64 d.s.rows,int i64 d.s.cap,int i64 d.s.b,int i64 d.s.q,int i64 d.s.t] rfl);have K2:=hid (show Blk (((w.alloc (.cells #[int i64 d.s.g,int i64 d.s.c,int i64 d.s.data,int i64 d.s.p,int i64 d.s.rows,int i64 d.s.cap,int i64 d.s.b,int i64 d.s.q,int i64 d.s.t,.slice A0 nG c0,.slice A1 nO c1,.slice A2 nT c2,int i64 d.u,int i64 d.stop,.bool d.down] 31)).alloc (.cells #[int i64 0,int i64 0,int i64 0,int i64 0,int i64 0,int i64 0,int i64 0,int i64 0,int i64 0] 25)).setCells (w.heap.size+1) 0 [int i64 d.s.g,int i64 d.s.c,int i64 d.s.data,int i64 d.s.p,int i64 d.s.rows,int i64 d.s.cap,int i64 d.s.b,int i64 d.s.q,int i64 d.s.t]) w.heap.size 31 #[int i64 d.s.g,int i64 d.s.c,int i64 d.s.data,int i64 d.s.p,int i64 d.s.rows,int i64 d.s.cap,int i64 d.s.b,int i64 d.s.q,int i64 d.s.t,.slice A0 nG c0,.slice A1 nO c1,.slice A2 nT c2,int i64 d.u,int i64 d.stop,.bool d.down]from Blk.farS [int i64 d.s.g,int i64 d.s.c,int i64 d.s.data,int i64 d.s.p,int i64 d.s.rows,int i64 d.s.cap,int i64 d.s.b,int i64 d.s.q,int i64 d.s.t] (w.heap.size+1) 0 _ (by omega) (K1.out.alloc _));have HB2:=hid (show Below w.heap.size w (((w.alloc (.cells #[int i64 d.s.g,int i64 d.s.c,int i64 d.s.data,int i64 d.s.p,int i64 d.s.rows,int i64 d.s.cap,int i64 d.s.b,int i64 d.s.q,int i64 d.s.t,.slice A0 nG c0,.slice A1 nO c1,.slice A2 nT c2,int i64 d.u,int i64 d.stop,.bool d.down] 31)).alloc (.cells #[int i64 0,int i64 0,int i64 0,int i64 0,int i64 0,int i64 0,int i64 0,int i64 0,int i64 0] 25)).setCells (w.heap.size+1) 0 [int i64 d.s.g,int i64 d.s.c,int i64 d.s.data,int i64 d.s.p,int i64 d.s.rows,int i64 d.s.cap,int i64 d.s.b,int i64 d.s.q,int i64 d.s.t])from Below.setCells_ _ _ _ _ (by omega) (HB1.out.alloc (by simp) _));have hb12:Below (w.alloc (.cells #[int i64 d.s.g,int i64 d.s.c,int i64 d.s.data,int i64 d.s.p,int i64 d.s.rows,int i64 d.s.cap,int i64 d.s.b,int i64 d.s.q,int i64 d.s.t,.slice A0 nG c0,.slice A1 nO c1,.slice A2 nT c2,int i64 d.u,int i64 d.stop,.bool d.down] 31)).heap.size (w.alloc (.cells #[int i64 d.s.g,int i64 d.s.c,int i64 d.s.data,int i64 d.s.p,int i64 d.s.rows,int i64 d.s.cap,int i64 d.s.b,int i64 d.s.q,int i64 d.s.t,.slice A0 nG c0,.slice A1 nO c1,.slice A2 nT c2,int i64 d.u,int i64 d.stop,.bool d.down] 31)) (((w.alloc (.cells #[int i64 d.s.g,int i64 d.s.c,int i64 d.s.data,int i64 d.s.p,int i64 d.s.rows,int i64 d.s.cap,int i64 d.s.b,int i64 d.s.q,int i64 d.s.t,.slice A0 nG c0,.slice A1 nO c1,.slice A2 nT c2,int i64 d.u,int i64 d.stop,.bool d.down] 31)).alloc (.cells #[int i64 0,int i64 0,int i64 0,int i64 0,int i64 0,int i64 0,int i64 0,int i64 0,int i64 0] 25)).setCells (w.heap.size+1) 0 [int i64 d.s.g,int i64 d.s.c,int i64 d.s.data,int i64 d.s.p,int i64 d.s.rows,int i64 d.s.cap,int i64 d.s.b,int i64 d.s.q,int i64 d.s.t]):=Below.setCells_ _ _ _ _ (by simp) ((Below.refl _ _).alloc (Nat.le_refl _) _);have R02:=hid (rSl.below (Am.local_ Av.local_) (Am.fixed Av.fixed) R0.out hb12);clear hb12;obtain⟨r,hr⟩:∃r,BR d.s.sh d.g=r:=⟨_,rfl⟩;rw[hr];have HRV:=hid hr;have HAL:=hid (fun(W:World) => Cz d.s.sh hs W);have HDV:=hid (fun(W:World) => LF d.s.sh hs W);have HSH:=hid (show d.s.sh.rows=d.s.rows from rfl);unfold shV at HAL HDV;obtain⟨al,hal⟩:∃al,d.s.sh.g+d.s.sh.c=al:=⟨_,rfl⟩;obtain⟨dv,hdv⟩:∃dv,d.s.sh.data+d.s.sh.p=dv:=⟨_,rfl⟩;rw[hal]at HAL;rw[hdv]at HDV;have HALE:=hid hal;have HDVE:=hid hdv;clear hr hs hal hdv;go_enter Tryz.func58,Tryz.ntmps58
 go_wp2_with (first
  |(refine wpList_load_mid rfl 25 _ rfl w.heap.size 0 rfl _ _ HRS.out Tryz.underlying25 rfl (by kernel_rfl) ?_)
  |(refine wpList_store_mid rfl 25 _ _ rfl (w.heap.size+1) 0 #[int i64 d.s.g,int i64 d.s.c,int i64 d.s.data,int i64 d.s.p,int i64 d.s.rows,int i64 d.s.cap,int i64 d.s.b,int i64 d.s.q,int i64 d.s.t] rfl rfl ?_ (by kernel_rfl) (by simp[Value.oneCell']) ?_;(focus (exact HTH.out))))
 generalize((w.alloc (.cells #[int i64 d.s.g,int i64 d.s.c,int i64 d.s.data,int i64 d.s.p,int i64 d.s.rows,int i64 d.s.cap,int i64 d.s.b,int i64 d.s.q,int i64 d.s.t,.slice A0 nG c0,.slice A1 nO c1,.slice A2 nT c2,int i64 d.u,int i64 d.stop,.bool d.down] 31)).alloc (.cells #[int i64 0,int i64 0,int i64 0,int i64 0,int i64 0,int i64 0,int i64 0,int i64 0,int i64 0] 25)).setCells (w.heap.size+1) 0 [int i64 d.s.g,int i64 d.s.c,int i64 d.s.data,int i64 d.s.p,int i64 d.s.rows,int i64 d.s.cap,int i64 d.s.b,int i64 d.s.q,int i64 d.s.t] =w2 at K2 K3 HB2 R02⊢;clear KN HTH HRS K1 HB1 R0 R1 R2;have S2:=hid (Ck.of (s:=d.s.sh) K3.out);have u0:=cell_regrown S2.out.c0;have u1:=cell_regrown S2.out.c1;have u2:=cell_regrown S2.out.c2;have u3:=cell_regrown S2.out.c3;have u4:=cell_regrown S2.out.c4;have u5:=cell_regrown S2.out.c5;have u6:=cell_regrown S2.out.c6;have u7:=cell_regrown S2.out.c7;have u8:=cell_regrown S2.out.c8;have p9:w2.cell? ⟨w.heap.size,9,none⟩=some (.slice A0 nG c0):=(Blk.cell K2.out 9).trans rfl;have u9:=cell_regrown p9;have z1:w.heap.size<w2.heap.size:=K2.out.lt;have z2:w.heap.size+1<w2.heap.size:=K3.out.lt;have QN:=hid (BF (w:=w2) (fun W => Jp A0 nG c0 W));have QA:=hid (Bi (w:=w2) (fun W _ => HAL.out W));by_cases hl:(nG:Int)=al
 ·have hlb:=EB hl;have HL:=hid hl;clear hl
  (refine wp_region_quiet_below (by kernel_rfl) (by kernel_rfl) ?_;(repeat(first|go_big_quiet_step (first|(go_at_call 113;exact QN.out _ _)|(go_at_call 40;exact QA.out _ _))|quiet_step (first|(go_at_call 113;exact QN.out _ _)|(go_at_call 40;exact QA.out _ _))));refine wpQuiet_nil ?_)
  rintro _ ⟨⟨dq,osq⟩,rfl⟩;have b5:=below_regrown w2 dq osq;generalize grow (redrawn w2 dq) osq=w5 at b5;have S5:=hid (S2.out.below b5);have HB5:=hid (HB2.out.trans (b5.mono HB2.out.size));have p95:=(b5.cell (p:=⟨w.heap.size,9,none⟩) z1).trans p9;have z15:w.heap.size<w5.heap.size:=Nat.lt_of_lt_of_le z1 b5.size;have z25:w.heap.size+1<w5.heap.size:=Nat.lt_of_lt_of_le z2 b5.size;obtain⟨A',c',e,-,hm,hx⟩:=rSl.at_ (Am.fixed Av.fixed) (by decide) (rSl.below (Am.local_ Av.local_) (Am.fixed Av.fixed) R02.out b5);injection e with e1 _ e3
  subst e1 e3;have HX:=hid hx;clear hx hm b5 QN QA u0 u1 u2 u3 u4 u5 u6 u7 u8 u9 p9 z1 z2 S2 K2 K3 R02 HB2 hlb;go_wp2_with fail
  go_loopw [19,5,7] (fun i _ _ wr =>∃k:Nat,k≤nG∧i= int i64 k∧Hid (Cx (CT d.s.sh) d.g k)∧Hid (Below w5.heap.size w5 wr)) (fun i _ _ _ => nG - (intOf i).toNat)
  case atStart => exact⟨0,by omega,rfl,Cx.zero _ _,Below.refl _ _⟩
  case round =>
   obtain⟨k,hk,rfl,HT,HB⟩:=hrel;by_cases hlt:k<nG
   ·have hk1:k<d.g.length:=by rw[HNG.out];exact hlt
    have hki:(k:Int)<(nG:Int):=by omega
    obtain⟨ad,b,o,cs,fk,rfl,hat⟩:=HX.out k hk1;have hat2:=hat.below (Am.local_ Av.local_) HB.out;have hpl:=hat.place;have hbl:=hat2.lt;obtain⟨ve,hve,hrd⟩:=hat2.reads;subst hve;obtain⟨Ae,ce,rfl,hmc,hmm⟩:=rSl.head hrd;have hpc:=hat2.cell 0 (by simp);simp only[Nat.add_zero,List.getElem_cons_zero]at hpc;rw[Nat.mul_one]at hpl;have HSTEP:=hid (HT.out.step hk1);have HBAD:=hid (fun(h:CT d.s.sh d.g[k] =false) => HRV.out.symm.trans (Kq hk1 h));obtain⟨G,hG⟩:∃G,d.g[k] =G:=⟨_,rfl⟩;rw[hG]at hpc hrd hmc HSTEP HBAD;obtain⟨m,hm⟩:∃m,G.length=m:=⟨_,rfl⟩;rw[hm]at hpc hrd hmc;have HM:=hid hm;have HRD:=hid hrd;have SR:=hid (S5.out.below HB.out);have u0:=cell_regrown SR.out.c0;have u1:=cell_regrown SR.out.c1;have u2:=cell_regrown SR.out.c2;have u3:=cell_regrown SR.out.c3;have u4:=cell_regrown SR.out.c4;have u5:=cell_regrown SR.out.c5;have u6:=cell_regrown SR.out.c6;have u7:=cell_regrown SR.out.c7;have u8:=cell_regrown SR.out.c8;have z1:w.heap.size<wr.heap.size:=Nat.lt_of_lt_of_le z15 HB.out.size;have z2:w.heap.size+1<wr.heap.size:=Nat.lt_of_lt_of_le z25 HB.out.size;have HBW:=hid (HB5.out.trans (HB.out.mono HB5.out.size));have QD:=hid (BF (w:=wr) (fun W => J2 Ae m ce W));have QV:=hid (Bi (w:=wr) (fun W _ => HDV.out W));clear hat hat2 hk1 hG hm hrd;by_cases hl2:(m:Int)=dv
    ·have hlb2:=EB hl2;have HL2:=hid (show(G.length:Int)=d.s.sh.data+d.s.sh.p by rw[HM.out,HDVE.out];exact hl2);clear hl2;go_wp2_with fail
     (refine wp_region_quiet_below (by kernel_rfl) (by kernel_rfl) ?_;(repeat(first|go_big_quiet_step (first|(go_at_call 114;exact QD.out _ _)|(go_at_call 41;exact QV.out _ _))|quiet_step (first|(go_at_call 114;exact QD.out _ _)|(go_at_call 41;exact QV.out _ _))));refine wpQuiet_nil ?_)
     rintro _ ⟨⟨dq,osq⟩,rfl⟩;have b7:=below_regrown wr dq osq;generalize grow (redrawn wr dq) osq=w7 at b7;have HB7:=hid (HB.out.trans (b7.mono HB.out.size));have HBW7:=hid (HBW.out.trans (b7.mono HBW.out.size));obtain⟨A',c',e,-,hmx,hx2⟩:=rSl.at_ Av.fixed (by decide) (rSl.below Av.local_ Av.fixed HRD.out b7);injection e with e1 _ e3
     subst e1 e3;have HX2:=hid hx2;have z17:w.heap.size+1<w7.heap.size:=Nat.lt_of_lt_of_le z2 b7.size;clear hx2 hmx b7 QD QV u0 u1 u2 u3 u4 u5 u6 u7 u8 z1 z2 SR hlb2 hpc hbl HRD HBW;go_wp2_with fail
     go_loopw [30,7] (fun i _ wr =>∃j:Nat,j≤m∧i= int i64 j∧Hid (Cx (Db d.s.sh) G j)∧Hid (Below w7.heap.size w7 wr)) (fun i _ _ => m - (intOf i).toNat)
     case atStart => exact⟨0,by omega,rfl,Cx.zero _ _,Below.refl _ _⟩
     case round =>
      obtain⟨j,hj,rfl,HT2,HBR⟩:=hrel;by_cases hlt2:j<m
      ·have hj1:j<G.length:=by rw[HM.out];exact hlt2
       have hji:(j:Int)<(m:Int):=by omega
       obtain⟨ad2,b2,o2,cs2,fk2,rfl,hat⟩:=HX2.out j hj1;have hat2:=hat.below Av.local_ HBR.out;have hpl2:=hat.place;have hbl2:=hat2.lt;obtain⟨v3,g3,e3,-,hrb⟩:=hat2.reads;subst e3;obtain⟨A3,c3,rfl,hmc3,hmm3⟩:=rSl.head hrb;have y0:=hat2.cell 0 (by simp);have y1:=hat2.cell 1 (by simp);simp only[Nat.add_zero,List.getElem_cons_zero,List.getElem_cons_succ]at y0 y1;have HSTEP2:=hid (HT2.out.step hj1);have HBAD2:=hid (fun(h:Db d.s.sh G[j] =false) => HBAD.out (KK hj1 h));obtain⟨D,hD⟩:∃D,G[j] =D:=⟨_,rfl⟩;rw[hD]at y0 y1 hrb hmc3 HSTEP2 HBAD2;obtain⟨nb,hnb⟩:∃nb,D.blocks.length=nb:=⟨_,rfl⟩;rw[hnb]at y1 hrb hmc3;have HNB:=hid hnb;obtain⟨dw,hdw⟩:∃dw,D.wiped=dw:=⟨_,rfl⟩;rw[hdw]at y0;have SR:=hid (S5.out.below (HB7.out.trans (HBR.out.mono HB7.out.size)));have z1:w.heap.size+1<wr.heap.size:=Nat.lt_of_lt_of_le z17 HBR.out.size;have HBW2:=hid (HBW7.out.trans (HBR.out.mono HBW7.out.size));have hb8:Below wr.heap.size wr (wr.alloc (.cells #[.bool dw,.slice A3 nb c3] 89)):=(Below.refl _ _).alloc (Nat.le_refl _) _;have S8:=hid (SR.out.below hb8);have u4:=cell_regrown S8.out.c4;have HB8:=hid (HBW2.out.trans (hb8.mono HBW2.out.size));have K8:=hid (Blk.new wr 89 #[.bool dw,.slice A3 nb c3]);have q1:=cell_regrown (show(wr.alloc (.cells #[.bool dw,.slice A3 nb c3] 89)).cell? ⟨wr.heap.size,1,none⟩=some (.slice A3 nb c3)from(Blk.cell K8.out 1).trans rfl);have QSZ:=hid (BF (w:=wr.alloc (.cells #[.bool dw,.slice A3 nb c3] 89)) (fun W => J1 A3 nb c3 W));have QCF:=hid (Bi (w:=wr.alloc (.cells #[.bool dw,.slice A3 nb c3] 89)) (fun W hW => GN 2 (by omega) Tryz.sizeOf118 Tryz.isAgg118 (fun b => !Eg b) 117 #[] _ D.blocks _ W (enters_of Tryz.func117 (by kernel_rfl) rfl) (rSl.below AL.local_ AL.fixed (rSl.below AL.local_ AL.fixed hrb hb8) hW) (fun W2 cs fk j hj hW2 hR => Kp D.blocks[j] cs fk W2 hR)));obtain⟨ab,hab⟩:∃ab,(D.blocks.any fun b => !Eg b)=ab:=⟨_,rfl⟩;rw[hab]at QCF;have HAB:=hid hab;clear hat hat2 hj1 hD hnb hdw hrb hb8 hab;by_cases hl3:(nb:Int)=d.s.sh.rows
       ·have hlb3:=EB hl3;have HDB:=hid (show Db d.s.sh D= !ab by rw[← HAB.out];exact Kz (by rw[HNB.out];exact hl3));clear hl3;cases ab with
        |true =>
         have e1:r=false:=HBAD2.out HDB.out;subst e1;go_wp2_with fail
         (refine wp_region_quiet_below (by kernel_rfl) (by kernel_rfl) ?_;(repeat(first|go_big_quiet_step (first|(go_at_call 115;exact QSZ.out _ _)|(go_at_call 116;exact QCF.out _ _))|quiet_step (first|(go_at_call 115;exact QSZ.out _ _)|(go_at_call 116;exact QCF.out _ _))));refine wpQuiet_nil ?_)
         rintro _ ⟨⟨dq,osq⟩,rfl⟩;have HB9:=hid (HB8.out.trans ((below_regrown _ dq osq).mono HB8.out.size));go_wp2_with fail
         go_ret
         exact⟨rfl,HB9.out⟩
        |false =>
         have HST2:=hid (HSTEP2.out HDB.out);go_wp2_with fail
         (refine wp_region_quiet_below (by kernel_rfl) (by kernel_rfl) ?_;(repeat(first|go_big_quiet_step (first|(go_at_call 115;exact QSZ.out _ _)|(go_at_call 116;exact QCF.out _ _))|quiet_step (first|(go_at_call 115;exact QSZ.out _ _)|(go_at_call 116;exact QCF.out _ _))));refine wpQuiet_nil ?_)
         rintro _ ⟨⟨dq,osq⟩,rfl⟩;have HB9:=hid ((HBR.out.alloc HBR.out.size _).trans ((below_regrown (wr.alloc (.cells #[.bool dw,.slice A3 nb c3] 89)) dq osq).mono (HBR.out.alloc HBR.out.size _).size));go_wp2_with fail
         go_roundw
         case rel => exact⟨j+1,by omega,by go_num,HST2.out,HB9.out⟩
         case measure => simp[intOf];omega
       ·have hlb3:=FL hl3;have e1:r=false:=HBAD2.out (KE (by rw[HNB.out];exact hl3));subst e1;clear hl3;go_wp2_with fail
        (refine wp_region_quiet_below (by kernel_rfl) (by kernel_rfl) ?_;(repeat(first|go_big_quiet_step (first|(go_at_call 115;exact QSZ.out _ _))|quiet_step (first|(go_at_call 115;exact QSZ.out _ _))));refine wpQuiet_nil ?_)
        rintro _ ⟨⟨dq,osq⟩,rfl⟩;have HB9:=hid (HB8.out.trans ((below_regrown _ dq osq).mono HB8.out.size));go_wp2_with fail
        go_ret
        exact⟨rfl,HB9.out⟩
      ·obtain rfl:j=m:=by omega
       have HST1:=hid (HSTEP.out (LG HL2.out (by rw[HM.out];exact HT2.out)));have HB9:=hid (HB7.out.trans (HBR.out.mono HB7.out.size));go_wp2_with fail
       go_roundw
       case rel => exact⟨k+1,by omega,by go_num,HST1.out,HB9.out⟩
       case measure => simp[intOf];omega
    ·have hlb2:=FL hl2;have e1:r=false:=HBAD.out (KM (by rw[HM.out,HDVE.out];exact hl2));subst e1;clear hl2;go_wp2_with fail
     (refine wp_region_quiet_below (by kernel_rfl) (by kernel_rfl) ?_;(repeat(first|go_big_quiet_step (first|(go_at_call 114;exact QD.out _ _)|(go_at_call 41;exact QV.out _ _))|quiet_step (first|(go_at_call 114;exact QD.out _ _)|(go_at_call 41;exact QV.out _ _))));refine wpQuiet_nil ?_)
     rintro _ ⟨⟨dq,osq⟩,rfl⟩;have HB9:=hid (HBW.out.trans ((below_regrown _ dq osq).mono HBW.out.size));go_wp2_with fail
     go_ret
     exact⟨rfl,HB9.out⟩
   ·obtain rfl:k=nG:=by omega
    have e1:r=true:=by
     rw[← HRV.out];exact Lz (by rw[HNG.out,HALE.out];exact HL.out) (by rw[HNG.out];exact HT.out)
    subst e1;have HBW:=hid (HB5.out.trans (HB.out.mono HB5.out.size));go_wp2_with fail
    go_ret
    exact⟨rfl,HBW.out⟩
 ·have hlb:=FL hl;have e1:r=false:=by
   rw[← HRV.out];exact Kr (by rw[HNG.out,HALE.out];exact hl)
  subst e1;clear hl
  (refine wp_region_quiet_below (by kernel_rfl) (by kernel_rfl) ?_;(repeat(first|go_big_quiet_step (first|(go_at_call 113;exact QN.out _ _)|(go_at_call 40;exact QA.out _ _))|quiet_step (first|(go_at_call 113;exact QN.out _ _)|(go_at_call 40;exact QA.out _ _))));refine wpQuiet_nil ?_)
  rintro _ ⟨⟨dq,osq⟩,rfl⟩;have HB9:=hid (HB2.out.trans ((below_regrown _ dq osq).mono HB2.out.size));go_wp2_with fail
  go_ret
  exact⟨rfl,HB9.out⟩
theorem onOK_c(d:Au)(hs:d.s.sh.Ok)(cs:List Value)(f:List Addr)(w:World)(h:AD w f cs d) :
  Calls Tryz.prog 59 #[.agg cs.toArray] w fun e w' => e= .returned (.bool (onB d.s.sh d.on d.down))∧Below w.heap.size w w':=by
 dsimp only[AD]at h;obtain⟨v0,v1,v2,f0,f1,f2,rfl,-,o0,o1,o2,o3,o4,o5,o6,o7,o8,o9,o10,r0,r1,r2⟩:=h;obtain⟨A0,c0,rfl,m0,m0'⟩:=rSl.head r0;obtain⟨A1,c1,rfl,m1,m1'⟩:=rSl.head r1;obtain⟨A2,c2,rfl,m2,m2'⟩:=rSl.head r2;obtain⟨nG,hnG⟩:∃nG,d.g.length=nG:=⟨_,rfl⟩;obtain⟨nO,hnO⟩:∃nO,d.on.length=nO:=⟨_,rfl⟩;obtain⟨nT,hnT⟩:∃nT,d.v.length=nT:=⟨_,rfl⟩;rw[hnG]at r0 m0⊢;rw[hnO]at r1 m1⊢;rw[hnT]at r2 m2⊢;have HNG:=hid hnG;have HNO:=hid hnO;have HNT:=hid hnT;have hb1:Below w.heap.size w (w.alloc (.cells #[int i64 d.s.g,int i64 d.s.c,int i64 d.s.data,int i64 d.s.p,int i64 d.s.rows,int i64 d.s.cap,int i64 d.s.b,int i64 d.s.q,int i64 d.s.t,.slice A0 nG c0,.slice A1 nO c1,.slice A2 nT c2,int i64 d.u,int i64 d.stop,.bool d.down] 31)):=(Below.refl _ _).alloc (Nat.le_refl _) _;have hk1:Blk (w.alloc (.cells #[int i64 d.s.g,int i64 d.s.c,int i64 d.s.data,int i64 d.s.p,int i64 d.s.rows,int i64 d.s.cap,int i64 d.s.b,int i64 d.s.q,int i64 d.s.t,.slice A0 nG c0,.slice A1 nO c1,.slice A2 nT c2,int i64 d.u,int i64 d.stop,.bool d.down] 31)) w.heap.size 31 #[int i64 d.s.g,int i64 d.s.c,int i64 d.s.data,int i64 d.s.p,int i64 d.s.rows,int i64 d.s.cap,int i64 d.s.b,int i64 d.s.q,int i64 d.s.t,.slice A0 nG c0,.slice A1 nO c1,.slice A2 nT c2,int i64 d.u,int i64 d.stop,.bool d.down]:=Blk.new _ _ _;have K1:=hid hk1;have HB1:=hid hb1;have R0:=hid (rSl.below (Am.local_ Av.local_) (Am.fixed Av.fixed) r0 hb1);have R1:=hid (rSl.below As.local_ As.fixed r1 hb1);have R2:=hid (rSl.below AK.local_ AK.fixed r2 hb1);clear r0 r1 r2 hb1 hk1 hnG hnO hnT;obtain⟨r,hr⟩:∃r,onB d.s.sh d.on d.down=r:=⟨_,rfl⟩;rw[hr];have HRV:=hid hr;obtain⟨al,hal⟩:∃al,d.s.sh.g+d.s.sh.c - 1=al:=⟨_,rfl⟩;have HIG0:=hid (fun(x:Int) (W:World) => EO d.s.sh hs x W);rw[hal]at HIG0;have HALE:=hid hal;obtain⟨A',c',e,hcc,hm,hx⟩:=Cn.open_ R1.out;injection e with e1 e2 e3
 subst e1 e3;clear e2;rw[HNO.out]at hcc;have HX:=hid hx;have p10:(w.alloc (.cells #[int i64 d.s.g,int i64 d.s.c,int i64 d.s.data,int i64 d.s.p,int i64 d.s.rows,int i64 d.s.cap,int i64 d.s.b,int i64 d.s.q,int i64 d.s.t,.slice A0 nG c0,.slice A1 nO c1,.slice A2 nT c2,int i64 d.u,int i64 d.stop,.bool d.down] 31)).cell? ⟨w.heap.size,10,none⟩=some (.slice A1 nO c1):=(Blk.cell K1.out 10).trans rfl;have zz:w.heap.size<(w.alloc (.cells #[int i64 d.s.g,int i64 d.s.c,int i64 d.s.data,int i64 d.s.p,int i64 d.s.rows,int i64 d.s.cap,int i64 d.s.b,int i64 d.s.q,int i64 d.s.t,.slice A0 nG c0,.slice A1 nO c1,.slice A2 nT c2,int i64 d.u,int i64 d.stop,.bool d.down] 31)).heap.size:=K1.out.lt;have HZ:=hid zz;unfold shV at HIG0;clear hr hs hal hx zz;go_enter Tryz.func59,Tryz.ntmps59
 go_wp2_with fail
 clear p10;go_loopw [8,3,4] (fun i _ _ wr =>∃k:Nat,k≤nO∧i= int i64 k∧Hid (Cb d.on al k)∧Hid (Below (w.alloc (.cells #[int i64 d.s.g,int i64 d.s.c,int i64 d.s.data,int i64 d.s.p,int i64 d.s.rows,int i64 d.s.cap,int i64 d.s.b,int i64 d.s.q,int i64 d.s.t,.slice A0 nG c0,.slice A1 nO c1,.slice A2 nT c2,int i64 d.u,int i64 d.stop,.bool d.down] 31)).heap.size (w.alloc (.cells #[int i64 d.s.g,int i64 d.s.c,int i64 d.s.data,int i64 d.s.p,int i64 d.s.rows,int i64 d.s.cap,int i64 d.s.b,int i64 d.s.q,int i64 d.s.t,.slice A0 nG c0,.slice A1 nO c1,.slice A2 nT c2,int i64 d.u,int i64 d.stop,.bool d.down] 31)) wr)) (fun i _ _ _ => nO - (intOf i).toNat)
 case atStart => exact⟨0,by omega,rfl,Gf _ _,Below.refl _ _⟩
 case round =>
  obtain⟨k,hk,rfl,HT,HB⟩:=hrel;have KW:=hid (K1.out.below HB.out K1.out.lt);have p10w:wr.cell? ⟨w.heap.size,10,none⟩=some (.slice A1 nO c1):=(Blk.cell KW.out 10).trans rfl;have zw:w.heap.size<wr.heap.size:=KW.out.lt;have HBW:=hid (HB1.out.trans (HB.out.mono HB1.out.size));by_cases hlt:k<nO
  ·have hk1:k<d.on.length:=by rw[HNO.out];exact hlt
   obtain⟨ad,e1,-,b1,p1,-⟩:=HX.out k hk1;subst e1;have p1':=(HB.out.cell (p:=ad.add k) b1).trans p1;have hki:(k:Int)<(nO:Int):=by omega
   have hki2:(k:Int)≤(nO:Int):=by omega
   have hki3:(k:Int)≤(c1:Int):=by omega
   have hkc:k≤c1:=by omega
   obtain⟨x,hx⟩:∃x,d.on[k] =x:=⟨_,rfl⟩;rw[hx]at p1';obtain⟨q1,q2,hp,-,-⟩:=rSl.split (j:=k) R1.out (by rw[HNO.out];omega);have HCT:=hid (fun(W:World) (hW:Below wr.heap.size wr W) => CI _ (d.on.take k) x q1 W (rSl.below As.local_ As.fixed hp (HB.out.trans (hW.mono HB.out.size))));have HIG:=hid (HIG0.out x);have HRS:=hid (Blk.range KW.out 0 [int i64 d.s.g,int i64 d.s.c,int i64 d.s.data,int i64 d.s.p,int i64 d.s.rows,int i64 d.s.cap,int i64 d.s.b,int i64 d.s.q,int i64 d.s.t] rfl);have HOB:=hid (fun(h:Cl d.on al=false) => show r=false from by rw[← HRV.out];unfold onB;rw[HALE.out,h];rfl);cases hin:Al x 0 al with
   |true =>
    rw[hin]at HIG;cases hme:decide (x∈d.on.take k)with
    |false =>
     rw[hme]at HCT;have HS2:=hid (Ge HT.out hk1 (by rw[hx];exact hin) (by rw[hx];exact of_decide_eq_false hme));clear hx p1 b1 hp hin hme hk1;go_wp2_with (first
      |(refine wpList_load_mid rfl 25 _ rfl w.heap.size 0 rfl _ _ HRS.out Tryz.underlying25 rfl (by kernel_rfl) ?_)
      |(go_at_call 119;refine(HIG.out _).mono ?_;rintro e w3 ⟨rfl,b3⟩;have B3:=hid b3;have p10:=(b3.cell (p:=⟨w.heap.size,10,none⟩) zw).trans p10w;have zw3:w.heap.size<w3.heap.size:=Nat.lt_of_lt_of_le zw b3.size;clear b3)
      |(go_at_call 96;refine(HCT.out _ B3.out).mono ?_;rintro e w4 ⟨rfl,b4⟩;have B4:=hid b4;clear b4))
     go_roundw
     case rel => exact⟨k+1,by omega,by go_num,HS2.out,HB.out.trans ((B3.out.trans (B4.out.mono B3.out.size)).mono HB.out.size)⟩
     case measure => simp[intOf];omega
    |true =>
     rw[hme]at HCT;have e1:r=false:=HOB.out (IL hk1 (.inr (by rw[hx];exact of_decide_eq_true hme)));subst e1;clear hx p1 b1 hp hin hme hk1;go_wp2_with (first
      |(refine wpList_load_mid rfl 25 _ rfl w.heap.size 0 rfl _ _ HRS.out Tryz.underlying25 rfl (by kernel_rfl) ?_)
      |(go_at_call 119;refine(HIG.out _).mono ?_;rintro e w3 ⟨rfl,b3⟩;have B3:=hid b3;have p10:=(b3.cell (p:=⟨w.heap.size,10,none⟩) zw).trans p10w;have zw3:w.heap.size<w3.heap.size:=Nat.lt_of_lt_of_le zw b3.size;clear b3)
      |(go_at_call 96;refine(HCT.out _ B3.out).mono ?_;rintro e w4 ⟨rfl,b4⟩;have B4:=hid b4;clear b4))
     go_ret
     exact⟨rfl,HBW.out.trans ((B3.out.trans (B4.out.mono B3.out.size)).mono HBW.out.size)⟩
   |false =>
    rw[hin]at HIG;have e1:r=false:=HOB.out (IL hk1 (.inl (by rw[hx];exact hin)));subst e1;clear hx p1 b1 hp hin hk1;go_wp2_with (first
      |(refine wpList_load_mid rfl 25 _ rfl w.heap.size 0 rfl _ _ HRS.out Tryz.underlying25 rfl (by kernel_rfl) ?_)
      |(go_at_call 119;refine(HIG.out _).mono ?_;rintro e w3 ⟨rfl,b3⟩;have B3:=hid b3;have p10:=(b3.cell (p:=⟨w.heap.size,10,none⟩) zw).trans p10w;have zw3:w.heap.size<w3.heap.size:=Nat.lt_of_lt_of_le zw b3.size;clear b3))
    go_ret
    exact⟨rfl,HBW.out.trans (B3.out.mono HBW.out.size)⟩
  ·obtain rfl:k=nO:=by omega
   have hap:=apartB_t (l:=d.on) (hi:=al) (by rw[HNO.out];exact HT.out);have hob:r=(decide ((k:Int)≤d.s.cap) && (decide (k=0)||!d.down)):=by
    rw[← HRV.out];unfold onB;rw[HALE.out,hap,HNO.out];rfl
   have HOB:=hid hob;clear hap hob;have u5:=cell_regrown (show wr.cell? ⟨w.heap.size,5,none⟩=some (int i64 d.s.cap)from(Blk.cell KW.out 5).trans rfl);have u10:=cell_regrown p10w;have QS:=hid (BF (w:=wr) (fun W => Mc A1 k c1 W));obtain⟨dn,hdn⟩:∃dn,d.down=dn:=⟨_,rfl⟩;have u14:=cell_regrown (show wr.cell? ⟨w.heap.size,14,none⟩=some (.bool dn)from(Blk.cell KW.out 14).trans (by rw[← hdn];rfl));rw[hdn]at HOB;clear hdn p10w;by_cases hle:(k:Int)≤d.s.cap
   ·by_cases hz:k=0
    ·have hz1:((k:Int) == 0)=true:=by rw[hz];rfl
     have e1:r=true:=by rw[HOB.out,decide_eq_true hle,decide_eq_true hz];rfl
     subst e1;clear hz;go_wp2_with fail
     (refine wp_region_quiet_below (by kernel_rfl) (by kernel_rfl) ?_;(repeat(first|go_big_quiet_step (first|(go_at_call 85;exact QS.out _ _))|quiet_step (first|(go_at_call 85;exact QS.out _ _))));refine wpQuiet_nil ?_)
     rintro _ ⟨⟨dq,osq⟩,rfl⟩;have HB9:=hid (HBW.out.trans ((below_regrown _ dq osq).mono HBW.out.size));go_wp2_with fail
     go_ret
     exact⟨rfl,HB9.out⟩
    ·have hz1:((k:Int) == 0)=false:=by simpa using hz
     have e1:r= !dn:=by rw[HOB.out,decide_eq_true hle,decide_eq_false hz];rfl
     subst e1;clear hz;go_wp2_with fail
     (refine wp_region_quiet_below (by kernel_rfl) (by kernel_rfl) ?_;(repeat(first|go_big_quiet_step (first|(go_at_call 85;exact QS.out _ _))|quiet_step (first|(go_at_call 85;exact QS.out _ _))));refine wpQuiet_nil ?_)
     rintro _ ⟨⟨dq,osq⟩,rfl⟩;have HB9:=hid (HBW.out.trans ((below_regrown _ dq osq).mono HBW.out.size));go_wp2_with fail
     go_ret
     exact⟨rfl,HB9.out⟩
   ·have e1:r=false:=by rw[HOB.out,decide_eq_false hle];rfl
    subst e1;have hle1:decide ((k:Int)≤d.s.cap)=false:=decide_eq_false hle;have hle2:d.s.cap<(k:Int):=by omega
    go_wp2_with fail
    (refine wp_region_quiet_below (by kernel_rfl) (by kernel_rfl) ?_;(repeat(first|go_big_quiet_step (first|(go_at_call 85;exact QS.out _ _))|quiet_step (first|(go_at_call 85;exact QS.out _ _))));refine wpQuiet_nil ?_)
    rintro _ ⟨⟨dq,osq⟩,rfl⟩;have HB9:=hid (HBW.out.trans ((below_regrown _ dq osq).mono HBW.out.size));go_wp2_with fail
    go_ret
    exact⟨rfl,HB9.out⟩
theorem Lj(t:AU)(cs:List Value)(f:List Addr)(w:World)(h:AK w f cs t) :
  Calls Tryz.prog 121 #[.agg cs.toArray] w fun e w' => e= .returned (.bool (decide (200<t.recs.length)))∧Below w.heap.size w w':=by
 obtain⟨v0,f0,rfl,-,h0⟩:=h;obtain⟨A0,c0,rfl,-⟩:=rSl.head h0;clear h0;obtain⟨n,hn⟩:∃n,t.recs.length=n:=⟨_,rfl⟩;rw[hn];clear hn;by_cases h:200<n
 ·have h1:(200:Int)<(n:Int):=by omega
  rw[decide_eq_true h];clear h;go_enter Tryz.func121,Tryz.ntmps121
  go_wp2_with fail
  go_ret
  exact⟨rfl,(Below.refl _ _).alloc (Nat.le_refl _) _⟩
 ·have h1:¬(200:Int)<(n:Int):=by omega
  rw[decide_eq_false h];clear h;go_enter Tryz.func121,Tryz.ntmps121
  go_wp2_with fail
  go_ret
  exact⟨rfl,(Below.refl _ _).alloc (Nat.le_refl _) _⟩
theorem J7(t:AU)(cs:List Value)(f:List Addr)(w:World)(h:AK w f cs t) :
  Calls Tryz.prog 123 #[.agg cs.toArray] w fun e w' => e= .returned (.bool (t.wiped && decide (0<t.recs.length)))∧Below w.heap.size w w':=by
 obtain⟨v0,f0,rfl,-,h0⟩:=h;obtain⟨A0,c0,rfl,-⟩:=rSl.head h0;clear h0;obtain⟨n,hn⟩:∃n,t.recs.length=n:=⟨_,rfl⟩;obtain⟨tw,htw⟩:∃tw,t.wiped=tw:=⟨_,rfl⟩;rw[hn,htw];clear hn htw;cases tw with
 |false =>
  go_enter Tryz.func123,Tryz.ntmps123
  go_wp2_with fail
  go_ret
  exact⟨rfl,(Below.refl _ _).alloc (Nat.le_refl _) _⟩
 |true =>
  go_enter Tryz.func123,Tryz.ntmps123
  go_wp2_with fail
  go_ret
  exact⟨by rw[Bool.true_and];rfl,(Below.refl _ _).alloc (Nat.le_refl _) _⟩
theorem Ju(d:Au)(hsb:shB d.s.sh=true)(cs:List Value)(f:List Addr)(w:World)(h:AD w f cs d) :
  Calls Tryz.prog 60 #[.agg cs.toArray] w fun e w' => e= .returned (int i64 (Bf d.s.sh d.v))∧Below w.heap.size w w':=by
 dsimp only[AD]at h;obtain⟨v0,v1,v2,f0,f1,f2,rfl,-,o0,o1,o2,o3,o4,o5,o6,o7,o8,o9,o10,r0,r1,r2⟩:=h;obtain⟨A0,c0,rfl,m0,m0'⟩:=rSl.head r0;obtain⟨A1,c1,rfl,m1,m1'⟩:=rSl.head r1;obtain⟨A2,c2,rfl,m2,m2'⟩:=rSl.head r2;obtain⟨nG,hnG⟩:∃nG,d.g.length=nG:=⟨_,rfl⟩;obtain⟨nO,hnO⟩:∃nO,d.on.length=nO:=⟨_,rfl⟩;obtain⟨nT,hnT⟩:∃nT,d.v.length=nT:=⟨_,rfl⟩;rw[hnG]at r0 m0⊢;rw[hnO]at r1 m1⊢;rw[hnT]at r2 m2⊢;have HNG:=hid hnG;have HNO:=hid hnO;have HNT:=hid hnT;have hb1:Below w.heap.size w (w.alloc (.cells #[int i64 d.s.g,int i64 d.s.c,int i64 d.s.data,int i64 d.s.p,int i64 d.s.rows,int i64 d.s.cap,int i64 d.s.b,int i64 d.s.q,int i64 d.s.t,.slice A0 nG c0,.slice A1 nO c1,.slice A2 nT c2,int i64 d.u,int i64 d.stop,.bool d.down] 31)):=(Below.refl _ _).alloc (Nat.le_refl _) _;have hk1:Blk (w.alloc (.cells #[int i64 d.s.g,int i64 d.s.c,int i64 d.s.data,int i64 d.s.p,int i64 d.s.rows,int i64 d.s.cap,int i64 d.s.b,int i64 d.s.q,int i64 d.s.t,.slice A0 nG c0,.slice A1 nO c1,.slice A2 nT c2,int i64 d.u,int i64 d.stop,.bool d.down] 31)) w.heap.size 31 #[int i64 d.s.g,int i64 d.s.c,int i64 d.s.data,int i64 d.s.p,int i64 d.s.rows,int i64 d.s.cap,int i64 d.s.b,int i64 d.s.q,int i64 d.s.t,.slice A0 nG c0,.slice A1 nO c1,.slice A2 nT c2,int i64 d.u,int i64 d.stop,.bool d.down]:=Blk.new _ _ _;have K1:=hid hk1;have HB1:=hid hb1;have R0:=hid (rSl.below (Am.local_ Av.local_) (Am.fixed Av.fixed) r0 hb1);have R1:=hid (rSl.below As.local_ As.fixed r1 hb1);have R2:=hid (rSl.below AK.local_ AK.fixed r2 hb1);clear r0 r1 r2 hb1 hk1 hnG hnO hnT;obtain⟨r,hr⟩:∃r,Bf d.s.sh d.v=r:=⟨_,rfl⟩;rw[hr];have HRV:=hid hr;have HRC:=hid (fun(x:Ag) (cs:List Value) (f:List Addr) (W:World) (hR:Ac W f cs x) => LH d.s.sh hsb x cs f W hR);have HM:=hid (Fa 2 (by omega) Tryz.sizeOf122 Tryz.isAgg122 (fun t => decide (200<t.recs.length)) 121 #[] _ d.v _ (w.alloc (.cells #[int i64 d.s.g,int i64 d.s.c,int i64 d.s.data,int i64 d.s.p,int i64 d.s.rows,int i64 d.s.cap,int i64 d.s.b,int i64 d.s.q,int i64 d.s.t,.slice A0 nG c0,.slice A1 nO c1,.slice A2 nT c2,int i64 d.u,int i64 d.stop,.bool d.down] 31)) (enters_of Tryz.func121 (by kernel_rfl) rfl) R2.out (fun W2 cs fk j hj hW2 hR => Lj d.v[j] cs fk W2 hR));have HWP:=hid (fun(W:World) (hW:Below (w.alloc (.cells #[int i64 d.s.g,int i64 d.s.c,int i64 d.s.data,int i64 d.s.p,int i64 d.s.rows,int i64 d.s.cap,int i64 d.s.b,int i64 d.s.q,int i64 d.s.t,.slice A0 nG c0,.slice A1 nO c1,.slice A2 nT c2,int i64 d.u,int i64 d.stop,.bool d.down] 31)).heap.size (w.alloc (.cells #[int i64 d.s.g,int i64 d.s.c,int i64 d.s.data,int i64 d.s.p,int i64 d.s.rows,int i64 d.s.cap,int i64 d.s.b,int i64 d.s.q,int i64 d.s.t,.slice A0 nG c0,.slice A1 nO c1,.slice A2 nT c2,int i64 d.u,int i64 d.stop,.bool d.down] 31)) W) => Fa 2 (by omega) Tryz.sizeOf122 Tryz.isAgg122 (fun t => t.wiped && decide (0<t.recs.length)) 123 #[] _ d.v _ W (enters_of Tryz.func123 (by kernel_rfl) rfl) (rSl.below AK.local_ AK.fixed R2.out hW) (fun W2 cs fk j hj hW2 hR => J7 d.v[j] cs fk W2 hR));unfold shV at HRC;have p11:(w.alloc (.cells #[int i64 d.s.g,int i64 d.s.c,int i64 d.s.data,int i64 d.s.p,int i64 d.s.rows,int i64 d.s.cap,int i64 d.s.b,int i64 d.s.q,int i64 d.s.t,.slice A0 nG c0,.slice A1 nO c1,.slice A2 nT c2,int i64 d.u,int i64 d.stop,.bool d.down] 31)).cell? ⟨w.heap.size,11,none⟩=some (.slice A2 nT c2):=(Blk.cell K1.out 11).trans rfl;have zz:w.heap.size<(w.alloc (.cells #[int i64 d.s.g,int i64 d.s.c,int i64 d.s.data,int i64 d.s.p,int i64 d.s.rows,int i64 d.s.cap,int i64 d.s.b,int i64 d.s.q,int i64 d.s.t,.slice A0 nG c0,.slice A1 nO c1,.slice A2 nT c2,int i64 d.u,int i64 d.stop,.bool d.down] 31)).heap.size:=K1.out.lt;cases hmany:d.v.any (fun t => decide (200<t.recs.length))with
 |true =>
  rw[hmany]at HM;have e1:r=2:=by rw[← HRV.out];exact Hy hmany
  subst e1;clear hr hsb hmany;go_enter Tryz.func60,Tryz.ntmps60
  go_wp2_with (go_at_call 120;refine HM.out.mono ?_;rintro e w2 ⟨rfl,b2⟩;have B2:=hid b2;clear b2)
  go_ret
  exact⟨rfl,HB1.out.trans (B2.out.mono HB1.out.size)⟩
 |false =>
  rw[hmany]at HM;have HMANY:=hid hmany;clear hr hsb hmany;obtain⟨A',c',e,hcc,hm,hx⟩:=rSl.at_ AK.fixed (by decide) R2.out;injection e with e1 e2 e3
  subst e1 e3;clear e2;have HX:=hid hx;clear hx hm;rw[HNT.out]at hcc;go_enter Tryz.func60,Tryz.ntmps60
  go_wp2_with (go_at_call 120;refine HM.out.mono ?_;rintro e w2 ⟨rfl,b2⟩;have B2:=hid b2;have p11:=(b2.cell (p:=⟨w.heap.size,11,none⟩) zz).trans p11;have z2:w.heap.size<w2.heap.size:=Nat.lt_of_lt_of_le zz b2.size;clear b2)
  have HB2:=hid (HB1.out.trans (B2.out.mono HB1.out.size));clear p11;generalize(w.alloc (.cells #[int i64 d.s.g,int i64 d.s.c,int i64 d.s.data,int i64 d.s.p,int i64 d.s.rows,int i64 d.s.cap,int i64 d.s.b,int i64 d.s.q,int i64 d.s.t,.slice A0 nG c0,.slice A1 nO c1,.slice A2 nT c2,int i64 d.u,int i64 d.stop,.bool d.down] 31))=w1 at HWP K1 HB1 R0 R1 R2 HX B2 zz HM;go_loopw [14,4,6,7] (fun i _ _ _ wr =>∃k:Nat,k≤nT∧i= int i64 k∧Hid (Ci d.s.sh d.v k)∧Hid (Below w1.heap.size w1 wr)) (fun i _ _ _ _ => nT - (intOf i).toNat)
  case atStart => exact⟨0,by omega,rfl,Ci.zero _ _,B2.out⟩
  case round =>
   obtain⟨k,hk,rfl,HT,HB⟩:=hrel;clear HB2;have HBW:=hid (HB1.out.trans (HB.out.mono HB1.out.size));have zw:w.heap.size<wr.heap.size:=Nat.lt_of_lt_of_le zz HB.out.size;by_cases hlt:k<nT
   ·have hk1:k<d.v.length:=by rw[HNT.out];exact hlt
    have hki:(k:Int)<(nT:Int):=by omega
    obtain⟨ad,b,o,cs,fk,rfl,hat⟩:=HX.out k hk1;have hat2:=hat.below AK.local_ HB.out;have hpl:=hat.place;have hbl:=hat2.lt;obtain⟨v3,g3,e3,-,hrb⟩:=hat2.reads;subst e3;have y0:=hat2.cell 0 (by simp);have y1:=hat2.cell 1 (by simp);simp only[Nat.add_zero,List.getElem_cons_zero,List.getElem_cons_succ]at y0 y1;obtain⟨A3,c3,rfl,hmc3,hmm3,hx3⟩:=rSl.at_ Ac.fixed (by decide) hrb;have HSTEP:=hid (HT.out.step hk1);have HBAD:=hid (fun(h:AS d.s.sh d.v[k].recs≠0) => show r=AS d.s.sh d.v[k].recs from by
     have h2:=HT.out.bad hk1 h;rw[← HRV.out,Iv HMANY.out (by rw[h2];exact h),h2])
    have HY:=hid hx3;obtain⟨tw,htw⟩:∃tw,d.v[k].wiped =tw:=⟨_,rfl⟩;rw[htw]at y0;obtain⟨rs,hrs⟩:∃rs,d.v[k].recs =rs:=⟨_,rfl⟩;rw[hrs]at y1 hmc3 HSTEP HBAD HY;clear hat hat2 hrb hx3 htw hrs hk1;go_wp2_with fail
    have hb0:Hid (Below w1.heap.size w1 (wr.alloc (.cells #[.bool tw,.slice A3 rs.length c3] 122))):=HB.out.alloc HB.out.size _;have hy0:Hid (Below wr.heap.size wr (wr.alloc (.cells #[.bool tw,.slice A3 rs.length c3] 122))):=(Below.refl _ _).alloc (Nat.le_refl _) _;obtain⟨wt,hwt⟩:∃wt,wr.alloc (.cells #[.bool tw,.slice A3 rs.length c3] 122)=wt:=⟨_,rfl⟩;rw[hwt]at hb0 hy0⊢;obtain⟨w8,rfl⟩:∃w8,w8=wr:=⟨_,rfl⟩;clear hwt y0 y1 hpl;go_loopw [21,6,7] (fun i _ _ wr =>∃i':Nat,i'≤rs.length∧i= int i64 i'∧Hid (Cx (fun x => decide (AE d.s.sh x=0)) rs i')∧Hid (Below w1.heap.size w1 wr)∧Hid (Below w8.heap.size w8 wr)) (fun i _ _ _ => rs.length - (intOf i).toNat)
    case atStart => exact⟨0,by omega,rfl,Cx.zero _ _,hb0.out,hy0.out⟩
    case round =>
     clear hb0 hy0;obtain⟨i,hi,rfl,HT2,HBR,HB8⟩:=hrel;by_cases hlti:i<rs.length
     ·obtain⟨ad3,b3,o3,cs3,f3,rfl,hat⟩:=HY.out i hlti;have hat2:=hat.below Ac.local_ HB8.out;have hpl:=hat.place;have hbl3:=hat2.lt;have hlen:cs3.length=9:=hat2.len;have HR:=hid (show wr.rangeAt b3 o3 cs3 from fun q v hq => by
       have hq1:q<cs3.length:=(List.getElem?_eq_some_iff.1 hq).1;rw[hat2.cell q hq1,← hq];exact(List.getElem?_eq_getElem hq1).symm)
      have HI:=hid (show(Tryz.prog.info? 76).map (·.size)=some cs3.length by rw[hlen];kernel_rfl);have HI2:=hid (show(Tryz.prog.info? 76).map (·.size)=some cs3.toArray.size by rw[List.size_toArray,hlen];kernel_rfl);have HON:=hid (all_oneCell_toArray (Ac.ones _ _ _ _ hat2.reads));obtain⟨Z,hZ⟩:∃Z:Array Value,#[int i64 0,int i64 0,.string ⟨#[]⟩,int i64 0,int i64 0,int i64 0,.slice none 0 0,.slice none 0 0,.slice none 0 0] =Z:=⟨_,rfl⟩;have hZs:Z.size=9:=by rw[← hZ];rfl
      have KZ:=Blk.new wr 76 Z;have HTH:=hid (Blk.there KZ cs3.toArray.size (by rw[List.size_toArray,hlen,hZs];exact Nat.le_refl _));obtain⟨W2,hW2⟩:∃W2,(wr.alloc (.cells Z 76)).setCells wr.heap.size 0 cs3.toArray.toList=W2:=⟨_,rfl⟩;have K2:=hid (show Blk W2 wr.heap.size 76 cs3.toArray by rw[← hW2];exact Blk.laid KZ _ (by rw[hZs];exact hlen.symm));have B2:=hid (show Below wr.heap.size wr W2 by rw[← hW2];exact AF (Aa (Below.refl _ _) _) _ 0 (Nat.le_refl _));have HS2:=hid (show wr.heap.size<W2.heap.size from K2.out.lt);have HW2:=hid hW2;have HBR2:=hid (HBR.out.trans (B2.out.mono HBR.out.size));have HB82:=hid (HB8.out.trans (B2.out.mono HB8.out.size));have HR2:=hid (Blk.rangeAll K2.out);have HRSW:=hid (Blk.range (K1.out.below HBR2.out K1.out.lt) 0 [int i64 d.s.g,int i64 d.s.c,int i64 d.s.data,int i64 d.s.p,int i64 d.s.rows,int i64 d.s.cap,int i64 d.s.b,int i64 d.s.q,int i64 d.s.t] rfl);have HC:=hid (HRC.out rs[i] cs3 f3 W2 (Aw.below Ac.local_ Ac.fixed hat2.reads B2.out));have HBADI:=hid (fun(h:AE d.s.sh rs[i]≠0) => show r=AE d.s.sh rs[i]from by
       have h2:=GU hlti HT2.out h;rw[HBAD.out (by rw[h2];exact h),h2])
      have HSTI:=hid (fun(h:AE d.s.sh rs[i] =0) => HT2.out.step hlti (decide_eq_true h));obtain⟨rc,hrc⟩:∃rc,AE d.s.sh rs[i] =rc:=⟨_,rfl⟩;rw[hrc]at HC HBADI HSTI;clear hat hat2 hW2 KZ hrc hlen hZs;by_cases h0:rc=0
      ·have HST:=hid (HSTI.out h0);subst h0;go_wp2_with (first
        |(refine wpList_load_mid rfl 76 (.tmp 23) rfl b3 o3 rfl cs3 _ HR.out Tryz.underlying76 rfl HI.out ?_)
        |(refine wpList_store_mid rfl 76 (.tmp 6) (.tmp 24) rfl wr.heap.size 0 cs3.toArray rfl rfl HTH.out HI2.out HON.out ?_;rw[HW2.out])
        |(refine wpList_load_mid rfl 25 _ rfl w.heap.size 0 rfl _ _ HRSW.out Tryz.underlying25 rfl (by kernel_rfl) ?_)
        |(refine wpList_load_mid rfl 76 (.tmp 6) rfl wr.heap.size 0 rfl cs3 _ HR2.out Tryz.underlying76 rfl HI.out ?_)
        |(go_at_call 122;refine HC.out.mono ?_;rintro e w3 ⟨rfl,hb3⟩;have B3:=hid hb3;clear hb3))
       go_roundw
       case rel => exact⟨i+1,by omega,by go_num,HST.out,HBR2.out.trans (B3.out.mono HBR2.out.size),HB82.out.trans (B3.out.mono HB82.out.size)⟩
       case measure => simp[intOf];omega
      ·have e1:r=rc:=HBADI.out h0;subst e1;have hne:(r != 0)=true:=FL h0;go_wp2_with (first
        |(refine wpList_load_mid rfl 76 (.tmp 23) rfl b3 o3 rfl cs3 _ HR.out Tryz.underlying76 rfl HI.out ?_)
        |(refine wpList_store_mid rfl 76 (.tmp 6) (.tmp 24) rfl wr.heap.size 0 cs3.toArray rfl rfl HTH.out HI2.out HON.out ?_;rw[HW2.out])
        |(refine wpList_load_mid rfl 25 _ rfl w.heap.size 0 rfl _ _ HRSW.out Tryz.underlying25 rfl (by kernel_rfl) ?_)
        |(refine wpList_load_mid rfl 76 (.tmp 6) rfl wr.heap.size 0 rfl cs3 _ HR2.out Tryz.underlying76 rfl HI.out ?_)
        |(go_at_call 122;refine HC.out.mono ?_;rintro e w3 ⟨rfl,hb3⟩;have B3:=hid hb3;clear hb3))
       go_ret
       exact⟨rfl,HB1.out.trans ((HBR2.out.trans (B3.out.mono HBR2.out.size)).mono HB1.out.size)⟩
     ·obtain rfl:i=rs.length:=by omega
      have HST:=hid (HSTEP.out (Ia HT2.out));go_wp2_with fail
      go_roundw
      case rel => exact⟨k+1,by omega,by go_num,HST.out,HBR.out⟩
      case measure => simp[intOf];omega
   ·obtain rfl:k=nT:=by omega
    have hall:AS d.s.sh (d.v.flatMap AU.recs)=0:=Ci.all (by rw[HNT.out];exact HT.out);have HEND:=hid (HRV.out.symm.trans (Iu HMANY.out hall));have p11:wr.cell? ⟨w.heap.size,11,none⟩=some (.slice A2 k c2):=(HB.out.cell (p:=⟨w.heap.size,11,none⟩) zz).trans ((Blk.cell K1.out 11).trans rfl);have HW:=hid (HWP.out wr HB.out);clear hall;cases hany:d.v.any (fun t => t.wiped && decide (0<t.recs.length))with
    |true =>
     rw[hany]at HEND HW;have e1:r=1:=HEND.out.trans rfl;subst e1;clear hany;go_wp2_with (go_at_call 120;refine HW.out.mono ?_;rintro e w2 ⟨rfl,b2⟩;have B4:=hid b2;clear b2)
     go_ret
     exact⟨rfl,HBW.out.trans (B4.out.mono HBW.out.size)⟩
    |false =>
     rw[hany]at HEND HW;have e1:r=0:=HEND.out.trans rfl;subst e1;clear hany;go_wp2_with (go_at_call 120;refine HW.out.mono ?_;rintro e w2 ⟨rfl,b2⟩;have B4:=hid b2;clear b2)
     go_ret
     exact⟨rfl,HBW.out.trans (B4.out.mono HBW.out.size)⟩
end Go.Proofs.YthbljikbnoghcaaGreat
