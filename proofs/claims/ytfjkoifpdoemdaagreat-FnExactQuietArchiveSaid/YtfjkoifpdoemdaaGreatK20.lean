/-
  Part 20 of the proof; the last part states and proves the statement.
-/
import Derived.Test.YtfjkoifpdoemdaaGreatK19
set_option maxHeartbeats 8000000
set_option maxRecDepth 100000
set_option linter.unusedVariables false
set_option linter.unusedSimpArgs false
open Go.Value (int)
open Go.IntKind (i64)
namespace Go.Proofs.YtfjkoifpdoemdaaGreat
open Go.RowKit Go.Lib Go.Sort
theorem IB(d:AC)(hs:d.s.sh.Ok)(cs:List Value)(f:List Addr)(w:World)(h:AB w f cs d) :
  Calls Tryz.prog 83 #[.agg cs.toArray] w fun e w' => e= .returned (.bool (Bo d.s.sh d.g))∧Below w.heap.size w w':=by
 dsimp only[AB]at h;obtain⟨v0,v1,v2,f0,f1,f2,rfl,-,o0,o1,o2,o3,o4,o5,o6,o7,o8,o9,o10,r0,r1,r2⟩:=h;obtain⟨A0,c0,rfl,m0,m0'⟩:=rSl.head r0;obtain⟨A1,c1,rfl,m1,m1'⟩:=rSl.head r1;obtain⟨A2,c2,rfl,m2,m2'⟩:=rSl.head r2;obtain⟨nG,hnG⟩:∃nG,d.g.length=nG:=⟨_,rfl⟩;obtain⟨nO,hnO⟩:∃nO,d.on.length=nO:=⟨_,rfl⟩;obtain⟨nT,hnT⟩:∃nT,d.v.length=nT:=⟨_,rfl⟩;rw[hnG]at r0 m0⊢;rw[hnO]at r1 m1⊢;rw[hnT]at r2 m2⊢;have HNG:=hid hnG;have HNO:=hid hnO;have HNT:=hid hnT;have hb1:Below w.heap.size w (w.alloc (.cells #[int i64 d.s.g,int i64 d.s.c,int i64 d.s.data,int i64 d.s.p,int i64 d.s.rows,int i64 d.s.cap,int i64 d.s.b,int i64 d.s.q,int i64 d.s.t,.slice A0 nG c0,.slice A1 nO c1,.slice A2 nT c2,int i64 d.u,int i64 d.stop,.bool d.down] 35)):=(Below.refl _ _).alloc (Nat.le_refl _) _;have hk1:Blk (w.alloc (.cells #[int i64 d.s.g,int i64 d.s.c,int i64 d.s.data,int i64 d.s.p,int i64 d.s.rows,int i64 d.s.cap,int i64 d.s.b,int i64 d.s.q,int i64 d.s.t,.slice A0 nG c0,.slice A1 nO c1,.slice A2 nT c2,int i64 d.u,int i64 d.stop,.bool d.down] 35)) w.heap.size 35 #[int i64 d.s.g,int i64 d.s.c,int i64 d.s.data,int i64 d.s.p,int i64 d.s.rows,int i64 d.s.cap,int i64 d.s.b,int i64 d.s.q,int i64 d.s.t,.slice A0 nG c0,.slice A1 nO c1,.slice A2 nT c2,int i64 d.u,int i64 d.stop,.bool d.down]:=Blk.new _ _ _;have K1:=hid hk1;have HB1:=hid hb1;have R0:=hid (rSl.below (Ai.local_ Ak.local_) (Ai.fixed Ak.fixed) r0 hb1);have R1:=hid (rSl.below Al.local_ Al.fixed r1 hb1);have R2:=hid (rSl.below As.local_ As.fixed r2 hb1);clear r0 r1 r2 hb1 hk1 hnG hnO hnT;have KN:=hid (Blk.new1 w (.cells #[int i64 d.s.g,int i64 d.s.c,int i64 d.s.data,int i64 d.s.p,int i64 d.s.rows,int i64 d.s.cap,int i64 d.s.b,int i64 d.s.q,int i64 d.s.t,.slice A0 nG c0,.slice A1 nO c1,.slice A2 nT c2,int i64 d.u,int i64 d.stop,.bool d.down] 35) 31 #[int i64 0,int i64 0,int i64 0,int i64 0,int i64 0,int i64 0,int i64 0,int i64 0,int i64 0]);have HTH:=hid (Blk.there KN.out 9 (by simp));have HRS:=hid (Blk.range K1.out 0 [int i64 d.s.g,int i64 d.s.c,int i64 d.s.data,int i64 d.s.p,int i64 d.s.rows,int i64 d.s.cap,int i64 d.s.b,int i64 d.s.q,int i64 d.s.t] rfl);have K3:=hid (show Blk (((w.alloc (.cells #[int i64 d.s.g,int i64 d.s.c,int i64 d.s.data,int i64 d.s.p,int i64 d.s.rows,int i64 d.s.cap,int i64 d.s.b,int i64 d.s.q,int i64 d.s.t,.slice A0 nG c0,.slice A1 nO c1,.slice A2 nT c2,int i64 d.u,int i64 d.stop,.bool d.down] 35)).alloc (.cells #[int i64 0,int i64 0,int i64 0,int i64 0,int i64 0,int i64 0,int i64 0,int i64 0,int i64 0] 31)).setCells (w.heap.size+1) 0 [int i64 d.s.g,int i64 d.s.c,int i64 d.s.data,int i64 d.s.p,int i64 d.s.rows,int i64 d.s.cap,int i64 d.s.b,int i64 d.s.q,int i64 d.s.t]) (w.heap.size+1) 31 #[int i64 d.s.g,int i64 d.s.c,int i64 d.s.data,int i64 d.s.p,int i64 d.s.rows,int i64 d.s.cap,int i64 d.s.b,int i64 d.s.q,int i64 d.s.t]from Blk.laid KN.out [int i64 d.s.g,int i64 d.s.c,int i64 d.s.data,int i64 d.s.p,int i64 d.s.rows,int i64 d.s.cap,int i64 d.s.b,int i64 d.s.q,int i64 d.s.t] rfl);have K2:=hid (show Blk (((w.alloc (.cells #[int i64 d.s.g,int i64 d.s.c,int i64 d.s.data,int i64 d.s.p,int i64 d.s.rows,int i64 d.s.cap,int i64 d.s.b,int i64 d.s.q,int i64 d.s.t,.slice A0 nG c0,.slice A1 nO c1,.slice A2 nT c2,int i64 d.u,int i64 d.stop,.bool d.down] 35)).alloc (.cells #[int i64 0,int i64 0,int i64 0,int i64 0,int i64 0,int i64 0,int i64 0,int i64 0,int i64 0] 31)).setCells (w.heap.size+1) 0 [int i64 d.s.g,int i64 d.s.c,int i64 d.s.data,int i64 d.s.p,int i64 d.s.rows,int i64 d.s.cap,int i64 d.s.b,int i64 d.s.q,int i64 d.s.t]) w.heap.size 35 #[int i64 d.s.g,int i64 d.s.c,int i64 d.s.data,int i64 d.s.p,int i64 d.s.rows,int i64 d.s.cap,int i64 d.s.b,int i64 d.s.q,int i64 d.s.t,.slice A0 nG c0,.slice A1 nO c1,.slice A2 nT c2,int i64 d.u,int i64 d.stop,.bool d.down]from Blk.farS [int i64 d.s.g,int i64 d.s.c,int i64 d.s.data,int i64 d.s.p,int i64 d.s.rows,int i64 d.s.cap,int i64 d.s.b,int i64 d.s.q,int i64 d.s.t] (w.heap.size+1) 0 _ (by omega) (K1.out.alloc _));have HB2:=hid (show Below w.heap.size w (((w.alloc (.cells #[int i64 d.s.g,int i64 d.s.c,int i64 d.s.data,int i64 d.s.p,int i64 d.s.rows,int i64 d.s.cap,int i64 d.s.b,int i64 d.s.q,int i64 d.s.t,.slice A0 nG c0,.slice A1 nO c1,.slice A2 nT c2,int i64 d.u,int i64 d.stop,.bool d.down] 35)).alloc (.cells #[int i64 0,int i64 0,int i64 0,int i64 0,int i64 0,int i64 0,int i64 0,int i64 0,int i64 0] 31)).setCells (w.heap.size+1) 0 [int i64 d.s.g,int i64 d.s.c,int i64 d.s.data,int i64 d.s.p,int i64 d.s.rows,int i64 d.s.cap,int i64 d.s.b,int i64 d.s.q,int i64 d.s.t])from Below.setCells_ _ _ _ _ (by omega) (HB1.out.alloc (by simp) _));have hb12:Below (w.alloc (.cells #[int i64 d.s.g,int i64 d.s.c,int i64 d.s.data,int i64 d.s.p,int i64 d.s.rows,int i64 d.s.cap,int i64 d.s.b,int i64 d.s.q,int i64 d.s.t,.slice A0 nG c0,.slice A1 nO c1,.slice A2 nT c2,int i64 d.u,int i64 d.stop,.bool d.down] 35)).heap.size (w.alloc (.cells #[int i64 d.s.g,int i64 d.s.c,int i64 d.s.data,int i64 d.s.p,int i64 d.s.rows,int i64 d.s.cap,int i64 d.s.b,int i64 d.s.q,int i64 d.s.t,.slice A0 nG c0,.slice A1 nO c1,.slice A2 nT c2,int i64 d.u,int i64 d.stop,.bool d.down] 35)) (((w.alloc (.cells #[int i64 d.s.g,int i64 d.s.c,int i64 d.s.data,int i64 d.s.p,int i64 d.s.rows,int i64 d.s.cap,int i64 d.s.b,int i64 d.s.q,int i64 d.s.t,.slice A0 nG c0,.slice A1 nO c1,.slice A2 nT c2,int i64 d.u,int i64 d.stop,.bool d.down] 35)).alloc (.cells #[int i64 0,int i64 0,int i64 0,int i64 0,int i64 0,int i64 0,int i64 0,int i64 0,int i64 0] 31)).setCells (w.heap.size+1) 0 [int i64 d.s.g,int i64 d.s.c,int i64 d.s.data,int i64 d.s.p,int i64 d.s.rows,int i64 d.s.cap,int i64 d.s.b,int i64 d.s.q,int i64 d.s.t]):=Below.setCells_ _ _ _ _ (by simp) ((Below.refl _ _).alloc (Nat.le_refl _) _);have R02:=hid (rSl.below (Ai.local_ Ak.local_) (Ai.fixed Ak.fixed) R0.out hb12);clear hb12;obtain⟨r,hr⟩:∃r,Bo d.s.sh d.g=r:=⟨_,rfl⟩;rw[hr];have HRV:=hid hr;have HAL:=hid (fun(W:World) => Dz d.s.sh hs W);have HDV:=hid (fun(W:World) => Ma d.s.sh hs W);unfold shV at HAL HDV;obtain⟨al,hal⟩:∃al,d.s.sh.g+d.s.sh.c=al:=⟨_,rfl⟩;obtain⟨dv,hdv⟩:∃dv,d.s.sh.data+d.s.sh.p=dv:=⟨_,rfl⟩;rw[hal]at HAL;rw[hdv]at HDV;have HALE:=hid hal;have HDVE:=hid hdv;clear hr hs hal hdv;go_enter Tryz.func83,Tryz.ntmps83
 go_wp2_with (first
  |(refine wpList_load_mid rfl 31 _ rfl w.heap.size 0 rfl _ _ HRS.out Tryz.underlying31 rfl (by kernel_rfl) ?_)
  |(refine wpList_store_mid rfl 31 _ _ rfl (w.heap.size+1) 0 #[int i64 d.s.g,int i64 d.s.c,int i64 d.s.data,int i64 d.s.p,int i64 d.s.rows,int i64 d.s.cap,int i64 d.s.b,int i64 d.s.q,int i64 d.s.t] rfl rfl ?_ (by kernel_rfl) (by simp[Value.oneCell']) ?_;(focus (exact HTH.out))))
 generalize((w.alloc (.cells #[int i64 d.s.g,int i64 d.s.c,int i64 d.s.data,int i64 d.s.p,int i64 d.s.rows,int i64 d.s.cap,int i64 d.s.b,int i64 d.s.q,int i64 d.s.t,.slice A0 nG c0,.slice A1 nO c1,.slice A2 nT c2,int i64 d.u,int i64 d.stop,.bool d.down] 35)).alloc (.cells #[int i64 0,int i64 0,int i64 0,int i64 0,int i64 0,int i64 0,int i64 0,int i64 0,int i64 0] 31)).setCells (w.heap.size+1) 0 [int i64 d.s.g,int i64 d.s.c,int i64 d.s.data,int i64 d.s.p,int i64 d.s.rows,int i64 d.s.cap,int i64 d.s.b,int i64 d.s.q,int i64 d.s.t] =w2 at K2 K3 HB2 R02⊢;clear KN HTH HRS K1 HB1 R0 R1 R2;have S2:=hid (BF.of (s:=d.s.sh) K3.out);have u0:=cell_regrown S2.out.c0;have u1:=cell_regrown S2.out.c1;have u2:=cell_regrown S2.out.c2;have u3:=cell_regrown S2.out.c3;have u4:=cell_regrown S2.out.c4;have u5:=cell_regrown S2.out.c5;have u6:=cell_regrown S2.out.c6;have u7:=cell_regrown S2.out.c7;have u8:=cell_regrown S2.out.c8;have p9:w2.cell? ⟨w.heap.size,9,none⟩=some (.slice A0 nG c0):=(Blk.cell K2.out 9).trans rfl;have u9:=cell_regrown p9;have z1:w.heap.size<w2.heap.size:=K2.out.lt;have z2:w.heap.size+1<w2.heap.size:=K3.out.lt;have QA:=hid (AF (w:=w2) (fun W _ => HAL.out W));by_cases hl:(nG:Int)=al
 ·have hlb:=Cu hl;have HL:=hid hl;clear hl
  (refine wp_region_quiet_below (by kernel_rfl) (by kernel_rfl) ?_;(repeat(first|go_big_quiet_step (first|(go_at_call 37;exact QA.out _ _))|quiet_step (first|(go_at_call 37;exact QA.out _ _))));refine wpQuiet_nil ?_)
  rintro _ ⟨⟨dq,osq⟩,rfl⟩;have b5:=below_regrown w2 dq osq;generalize grow (redrawn w2 dq) osq=w5 at b5;have S5:=hid (S2.out.below b5);have HB5:=hid (HB2.out.trans (b5.mono HB2.out.size));have P9:=hid ((b5.cell (p:=⟨w.heap.size,9,none⟩) z1).trans p9);have z15:w.heap.size<w5.heap.size:=Nat.lt_of_lt_of_le z1 b5.size;have z25:w.heap.size+1<w5.heap.size:=Nat.lt_of_lt_of_le z2 b5.size;obtain⟨A',c',e,-,hm,hx⟩:=rSl.at_ (Ai.fixed Ak.fixed) (by decide) (rSl.below (Ai.local_ Ak.local_) (Ai.fixed Ak.fixed) R02.out b5);injection e with e1 e2 e3
  subst e1 e3;clear e2;have HX:=hid hx;clear hx hm b5 QA u0 u1 u2 u3 u4 u5 u6 u7 u8 u9 p9 z1 z2 S2 K2 K3 R02 HB2 hlb;go_wp2_with fail
  go_loopw [4,5,6,7] (fun i _ _ _ wr =>∃k:Nat,k≤nG∧i= int i64 k∧Hid (BG (CP d.s.sh) d.g k)∧Hid (Below w5.heap.size w5 wr)) (fun i _ _ _ _ => nG - (intOf i).toNat)
  case atStart => exact⟨0,by omega,rfl,BG.zero _ _,Below.refl _ _⟩
  case round =>
   obtain⟨k,hk,rfl,HT,HB⟩:=hrel;have P9R:=hid ((HB.out.cell (p:=⟨w.heap.size,9,none⟩) z15).trans P9.out);have p9:=P9R.out;by_cases hlt:k<nG
   ·have hk1:k<d.g.length:=by rw[HNG.out];exact hlt
    have hki:(k:Int)<(nG:Int):=by omega
    obtain⟨ad,b,o,cs,fk,rfl,hat⟩:=HX.out k hk1;have hat2:=hat.below (Ai.local_ Ak.local_) HB.out;have hpl:=hat.place;have hbl:=hat2.lt;obtain⟨ve,hve,hrd⟩:=hat2.reads;subst hve;obtain⟨Ae,ce,rfl,hmc,hmm⟩:=rSl.head hrd;have hpc:=hat2.cell 0 (by simp);simp only[Nat.add_zero,List.getElem_cons_zero]at hpc;rw[Nat.mul_one]at hpl;have HSTEP:=hid (HT.out.step hk1);have HBAD:=hid (fun(h:CP d.s.sh d.g[k] =false) => HRV.out.symm.trans (G2 hk1 h));obtain⟨G,hG⟩:∃G,d.g[k] =G:=⟨_,rfl⟩;rw[hG]at hpc hrd hmc HSTEP HBAD;obtain⟨m,hm⟩:∃m,G.length=m:=⟨_,rfl⟩;rw[hm]at hpc hrd hmc;have HM:=hid hm;have HRD:=hid hrd;have SR:=hid (S5.out.below HB.out);have u0:=cell_regrown SR.out.c0;have u1:=cell_regrown SR.out.c1;have u2:=cell_regrown SR.out.c2;have u3:=cell_regrown SR.out.c3;have u4:=cell_regrown SR.out.c4;have u5:=cell_regrown SR.out.c5;have u6:=cell_regrown SR.out.c6;have u7:=cell_regrown SR.out.c7;have u8:=cell_regrown SR.out.c8;have u9:=cell_regrown p9;have v9:=cell_regrown hpc;have z1:w.heap.size<wr.heap.size:=Nat.lt_of_lt_of_le z15 HB.out.size;have z2:w.heap.size+1<wr.heap.size:=Nat.lt_of_lt_of_le z25 HB.out.size;have HBW:=hid (HB5.out.trans (HB.out.mono HB5.out.size));have QV:=hid (AF (w:=wr) (fun W _ => HDV.out W));clear hat hat2 hk1 hG hm hrd;by_cases hl2:(m:Int)=dv
    ·have hlb2:=Cu hl2;have HL2:=hid (show(G.length:Int)=d.s.sh.data+d.s.sh.p by rw[HM.out,HDVE.out];exact hl2);clear hl2;go_wp2_with fail
     (refine wp_region_quiet_below (by kernel_rfl) (by kernel_rfl) ?_;(repeat(first|go_big_quiet_step (first|(go_at_call 145;exact QV.out _ _))|quiet_step (first|(go_at_call 145;exact QV.out _ _))));refine wpQuiet_nil ?_)
     rintro _ ⟨⟨dq,osq⟩,rfl⟩;have b7:=below_regrown wr dq osq;generalize grow (redrawn wr dq) osq=w7 at b7;have HB7:=hid (HB.out.trans (b7.mono HB.out.size));have HBW7:=hid (HBW.out.trans (b7.mono HBW.out.size));obtain⟨A',c',e,-,hmx,hx2⟩:=rSl.at_ Ak.fixed (by decide) (rSl.below Ak.local_ Ak.fixed HRD.out b7);injection e with e1 e2 e3
     subst e1 e3;clear e2;have HX2:=hid hx2;have z07:w.heap.size<w7.heap.size:=Nat.lt_of_lt_of_le z1 b7.size;have z17:w.heap.size+1<w7.heap.size:=Nat.lt_of_lt_of_le z2 b7.size;have zb7:b<w7.heap.size:=Nat.lt_of_lt_of_le hbl b7.size;have P97:=hid ((b7.cell (p:=⟨w.heap.size,9,none⟩) z1).trans p9);have PC7:=hid ((b7.cell (p:=⟨b,o,none⟩) hbl).trans hpc);clear hx2 hmx b7 QV u0 u1 u2 u3 u4 u5 u6 u7 u8 u9 v9 z1 z2 SR hlb2 hpc hbl HRD HBW p9 P9R;go_wp2_with fail
     go_loopw [5,6,7] (fun i _ _ wr =>∃j:Nat,j≤m∧i= int i64 j∧Hid (BG (CC d.s.sh) G j)∧Hid (Below w7.heap.size w7 wr)) (fun i _ _ _ => m - (intOf i).toNat)
     case atStart => exact⟨0,by omega,rfl,BG.zero _ _,Below.refl _ _⟩
     case round =>
      obtain⟨j,hj,rfl,HT2,HBR⟩:=hrel;have p9:=(HBR.out.cell (p:=⟨w.heap.size,9,none⟩) z07).trans P97.out;have hpc:=(HBR.out.cell (p:=⟨b,o,none⟩) zb7).trans PC7.out;have hbl:b<wr.heap.size:=Nat.lt_of_lt_of_le zb7 HBR.out.size;have z1:w.heap.size<wr.heap.size:=Nat.lt_of_lt_of_le z07 HBR.out.size;have z2:w.heap.size+1<wr.heap.size:=Nat.lt_of_lt_of_le z17 HBR.out.size;by_cases hlt2:j<m
      ·have hj1:j<G.length:=by rw[HM.out];exact hlt2
       have hji:(j:Int)<(m:Int):=by omega
       obtain⟨ad2,b2,o2,cs2,fk2,rfl,hat⟩:=HX2.out j hj1;have hat2:=hat.below Ak.local_ HBR.out;have hpl2:=hat.place;have hbl2:=hat2.lt;obtain⟨v3,g3,e3,-,hrb⟩:=hat2.reads;subst e3;have y1:=hat2.cell 1 (by simp);simp only[Nat.add_zero,List.getElem_cons_zero,List.getElem_cons_succ]at y1;obtain⟨A3,c3,rfl,hmc3,hmm3,hx3⟩:=rSl.at_ AD.fixed (by decide) hrb;have HSTEP2:=hid (HT2.out.step hj1);have HBAD2:=hid (fun(h:CC d.s.sh G[j] =false) => HBAD.out (Hf hj1 h));obtain⟨D,hD⟩:∃D,G[j] =D:=⟨_,rfl⟩;rw[hD]at y1 hmc3 HSTEP2 HBAD2;have HX3:=hid hx3;rw[hD]at HX3;obtain⟨nb,hnb⟩:∃nb,D.blocks.length=nb:=⟨_,rfl⟩;rw[hnb]at y1 hmc3;have HNB:=hid hnb;have SR:=hid (S5.out.below (HB7.out.trans (HBR.out.mono HB7.out.size)));have u4:=SR.out.c4;have HBW2:=hid (HBW7.out.trans (HBR.out.mono HBW7.out.size));clear hat hat2 hj1 hD hnb hrb hx3;by_cases hl3:(nb:Int)=d.s.sh.rows
       ·have hlb3:=Cu hl3;have HL3:=hid (show(D.blocks.length:Int)=d.s.sh.rows by rw[HNB.out];exact hl3);clear hl3;obtain⟨w8,rfl⟩:∃w8,w8=wr:=⟨_,rfl⟩;go_wp2_with fail
        go_loopw [7] (fun i wr =>∃q:Nat,q≤nb∧i= int i64 q∧Hid (BG Ct D.blocks q)∧Hid (Below w8.heap.size w8 wr)) (fun i _ => nb - (intOf i).toNat)
        case atStart => exact⟨0,by omega,rfl,BG.zero _ _,Below.refl _ _⟩
        case round =>
         obtain⟨q,hq,rfl,HT3,HB3⟩:=hrel;clear p9 hpc u4 y1;have HBW3:=hid (HBW2.out.trans (HB3.out.mono HBW2.out.size));by_cases hlt3:q<nb
         ·have hq1:q<D.blocks.length:=by rw[HNB.out];exact hlt3
          have hqi:(q:Int)<(nb:Int):=by omega
          obtain⟨ad3,b3,o3,cs3,fk3,rfl,hat⟩:=HX3.out q hq1;have hat2:=hat.below AD.local_ HB3.out;have hpl3:=hat.place;have hbl3:=hat2.lt;obtain⟨v4,g4,e4,-,-,hrb⟩:=hat2.reads;subst e4;obtain⟨A4,c4,rfl,hmc4,hmm4⟩:=rSl.head hrb;have x0:=hat2.cell 0 (by simp);have x1:=hat2.cell 1 (by simp);simp only[Nat.add_zero,List.getElem_cons_zero,List.getElem_cons_succ]at x0 x1;have HSTEP3:=hid (HT3.out.step hq1);have HBAD3:=hid (fun(h:Ct D.blocks[q] =false) => HBAD2.out (KY hq1 h));obtain⟨B,hB⟩:∃B,D.blocks[q] =B:=⟨_,rfl⟩;rw[hB]at x0 x1 hmc4 HSTEP3 HBAD3;obtain⟨st,hst⟩:∃st,B.stamp=st:=⟨_,rfl⟩;rw[hst]at x0;obtain⟨ny,hny⟩:∃ny,B.bytes.length=ny:=⟨_,rfl⟩;rw[hny]at x1 hmc4;have HST:=hid hst;have HNY:=hid hny;have HIN:=hid (fun(W:World) => Bh st 0 1000000000 W);clear hat hat2 hq1 hB hst hny hrb;cases hin:Aj st 0 1000000000 with
          |false =>
           rw[hin]at HIN;have e1:r=false:=HBAD3.out (Jh (by rw[HST.out];exact hin));subst e1;clear hin;go_wp2_with (go_at_call 35;refine(HIN.out _).mono ?_;rintro e w' ⟨rfl,rfl⟩)
           go_ret
           exact⟨rfl,HBW3.out⟩
          |true =>
           rw[hin]at HIN;have HIN2:=hid hin;clear hin;by_cases hl4:ny=4
           ·have HST3:=hid (HSTEP3.out (L5 (by rw[HST.out];exact HIN2.out) (by rw[HNY.out];exact hl4)));have hl5:=Cu (a:=(ny:Int)) (b:=4) (by omega);go_wp2_with (go_at_call 35;refine(HIN.out _).mono ?_;rintro e w' ⟨rfl,rfl⟩)
            go_roundw
            case rel => exact⟨q+1,by omega,by go_num,HST3.out,HB3.out⟩
            case measure => simp[intOf];omega
           ·have hl5:=Dn (a:=(ny:Int)) (b:=4) (by omega);have e1:r=false:=HBAD3.out (KO (by rw[HNY.out];exact hl4));subst e1;go_wp2_with (go_at_call 35;refine(HIN.out _).mono ?_;rintro e w' ⟨rfl,rfl⟩)
            go_ret
            exact⟨rfl,HBW3.out⟩
         ·obtain rfl:q=nb:=by omega
          have HST2:=hid (HSTEP2.out (L8 HL3.out (by rw[HNB.out];exact HT3.out)));have HB9:=hid (HBR.out.trans (HB3.out.mono HBR.out.size));go_wp2_with fail
          go_roundw
          case rel => exact⟨j+1,by omega,by go_num,HST2.out,HB9.out⟩
          case measure => simp[intOf];omega
       ·have hlb3:=Dn hl3;have e1:r=false:=HBAD2.out (Hc (by rw[HNB.out];exact hl3));subst e1;clear hl3;go_wp2_with fail
        go_ret
        exact⟨rfl,HBW2.out⟩
      ·obtain rfl:j=m:=by omega
       have HST1:=hid (HSTEP.out (Iw HL2.out (by rw[HM.out];exact HT2.out)));have HB9:=hid (HB7.out.trans (HBR.out.mono HB7.out.size));go_wp2_with fail
       go_roundw
       case rel => exact⟨k+1,by omega,by go_num,HST1.out,HB9.out⟩
       case measure => simp[intOf];omega
    ·have hlb2:=Dn hl2;have e1:r=false:=HBAD.out (Hg (by rw[HM.out,HDVE.out];exact hl2));subst e1;clear hl2;go_wp2_with fail
     (refine wp_region_quiet_below (by kernel_rfl) (by kernel_rfl) ?_;(repeat(first|go_big_quiet_step (first|(go_at_call 145;exact QV.out _ _))|quiet_step (first|(go_at_call 145;exact QV.out _ _))));refine wpQuiet_nil ?_)
     rintro _ ⟨⟨dq,osq⟩,rfl⟩;have HB9:=hid (HBW.out.trans ((below_regrown _ dq osq).mono HBW.out.size));go_wp2_with fail
     go_ret
     exact⟨rfl,HB9.out⟩
   ·obtain rfl:k=nG:=by omega
    have e1:r=true:=by
     rw[← HRV.out];exact Iu (by rw[HNG.out,HALE.out];exact HL.out) (by rw[HNG.out];exact HT.out)
    subst e1;have HBW:=hid (HB5.out.trans (HB.out.mono HB5.out.size));have z1:w.heap.size<wr.heap.size:=Nat.lt_of_lt_of_le z15 HB.out.size;go_wp2_with fail
    go_ret
    exact⟨rfl,HBW.out⟩
 ·have hlb:=Dn hl;have e1:r=false:=by
   rw[← HRV.out];exact G3 (by rw[HNG.out,HALE.out];exact hl)
  subst e1;clear hl
  (refine wp_region_quiet_below (by kernel_rfl) (by kernel_rfl) ?_;(repeat(first|go_big_quiet_step (first|(go_at_call 37;exact QA.out _ _))|quiet_step (first|(go_at_call 37;exact QA.out _ _))));refine wpQuiet_nil ?_)
  rintro _ ⟨⟨dq,osq⟩,rfl⟩;have HB9:=hid (HB2.out.trans ((below_regrown _ dq osq).mono HB2.out.size));go_wp2_with fail
  go_ret
  exact⟨rfl,HB9.out⟩
end Go.Proofs.YtfjkoifpdoemdaaGreat
