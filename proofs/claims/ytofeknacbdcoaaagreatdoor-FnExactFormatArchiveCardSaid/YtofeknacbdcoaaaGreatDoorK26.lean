/- Part 26 of the proof. -/
import Derived.Test.YtofeknacbdcoaaaGreatDoorK24
import Derived.Test.YtofeknacbdcoaaaGreatDoorK25
set_option maxHeartbeats 8000000
set_option maxRecDepth 100000
set_option linter.unusedVariables false
set_option linter.unusedSimpArgs false
open Go.Proofs.Tryz
open Go.Value (int)
open Go.IntKind (i64)
namespace Go.Proofs.YtofeknacbdcoaaaGreatDoor
open Go.RowKit Go.Lib Go.Sort
theorem Nn(d:As)(hs:d.s.sh.Ok)(cs f w)(h:AF w f cs d):
  Calls prog 75 #[.agg cs] w (zN (.bool (BU d.s.sh d.g)) w):=by
 dsimp only[AF]at h;obtain⟨v0,v1,v2,f0,f1,f2,rfl,-,o0,o1,o2,o3,o4,o5,o6,o7,o8,o9,dr,r0,r1,r2⟩:=h;obtain⟨A0,c0,rfl,m0,dm⟩:=rSl.head r0;obtain⟨A1,c1,rfl,m1,dn⟩:=rSl.head r1;obtain⟨A2,c2,rfl,m2,dp⟩:=rSl.head r2;obtain⟨y,bh⟩:∃y,d.g.length=y:=zJ;obtain⟨nO,bi⟩:∃nO,d.on.length=nO:=zJ;obtain⟨nT,bj⟩:∃nT,d.v.length=nT:=zJ;rw[bh]at r0 m0⊢;rw[bi]at r1 m1⊢;rw[bj]at r2 m2⊢;obtain⟨az,da,db⟩:=zI bh bi bj;have aq:Below w w (w.alloc (.cells (zD d A0 y c0 A1 nO c1 A2 nT c2) 42)):=(aC _ _).alloc (aD _) _;have af:Blk (w.alloc (.cells (zD d A0 y c0 A1 nO c1 A2 nT c2) 42)) w 42 (zD d A0 y c0 A1 nO c1 A2 nT c2):=Blk.new _ _ _;obtain⟨K1,bo,R0,R1,R2⟩:=zG af aq (rSl.B (Ai.L Ar.L) (Ai.X Ar.X) r0 aq) (rSl.B Aw.L Aw.X r1 aq) (rSl.B AE.L AE.X r2 aq);clear r0 r1 r2 aq af bh bi bj;have KN:=zq (Blk.new1 w (.cells (zD d A0 y c0 A1 nO c1 A2 nT c2) 42) 38 yX);obtain⟨b0,bs,K3,K2,ai⟩:=zG (Blk.there KN.o 9 zX) (Blk.range K1.o 0 d.s rfl) (show Blk (((w.alloc (.cells (zD d A0 y c0 A1 nO c1 A2 nT c2) 42)).alloc (.cells yX 38)).setCells (w.heap.size+1) 0 d.s) (w.heap.size+1) 38 d.s from Blk.laid KN.o d.s rfl) (show Blk (((w.alloc (.cells (zD d A0 y c0 A1 nO c1 A2 nT c2) 42)).alloc (.cells yX 38)).setCells (w.heap.size+1) 0 d.s) w 42 (zD d A0 y c0 A1 nO c1 A2 nT c2) from Blk.farS d.s (w.heap.size+1) 0 _ zZ (K1.o.alloc _)) (show Below w w (((w.alloc (.cells (zD d A0 y c0 A1 nO c1 A2 nT c2) 42)).alloc (.cells yX 38)).setCells (w.heap.size+1) 0 d.s)from Below.setCells_ _ _ _ _ zZ (bo.o.alloc zX _));have a7:Below (w.alloc (.cells (zD d A0 y c0 A1 nO c1 A2 nT c2) 42)).heap.size (w.alloc (.cells (zD d A0 y c0 A1 nO c1 A2 nT c2) 42)) (((w.alloc (.cells (zD d A0 y c0 A1 nO c1 A2 nT c2) 42)).alloc (.cells yX 38)).setCells (w.heap.size+1) 0 d.s):=Below.setCells_ _ _ _ _ zX ((aC _ _).alloc (aD _) _);have be:=zq (rSl.B (Ai.L Ar.L) (Ai.X Ar.X) R0.o a7);clear a7;obtain⟨r,hr⟩:∃r,BU d.s.sh d.g=r:=zJ;rw[hr];obtain⟨bd,bb,bc⟩:=zI hr (fun(W:World) => EN d.s.sh hs W) (fun(W:World) => SO d.s.sh hs W);unfold shV at bb bc;obtain⟨al,bf⟩:∃al,d.s.sh.g+d.s.sh.c=al:=zJ;obtain⟨dv,bg⟩:∃dv,d.s.sh.data+d.s.sh.p=dv:=zJ;rw[bf]at bb;rw[bg]at bc;have a3:=zq bf;have a6:=zq bg;clear hr hs bf bg;go_enter func75,ntmps75
 go_wp2_with (first
  |(refine aE rfl 38 _ rfl w 0 rfl _ _ bs.o underlying38 rfl zY ?_)
  |(refine aV rfl 38 _ _ rfl (w.heap.size+1) 0 d.s rfl rfl ?_ zY zU ?_;(focus (exact b0.o))))
 generalize((w.alloc (.cells (zD d A0 y c0 A1 nO c1 A2 nT c2) 42)).alloc (.cells yX 38)).setCells (w.heap.size+1) 0 [int i64 d.s.g,d.s.c,d.s.data,d.s.p,d.s.rows,d.s.cap,d.s.b,d.s.q,d.s.t] =w2 at K2 K3 ai be⊢;clear KN b0 bs K1 bo R0 R1 R2;have S2:=zq (Cn.of (s:=d.s.sh) K3.o);have u0:=aB S2.o.c0;have u1:=aB S2.o.c1;have u2:=aB S2.o.c2;have u3:=aB S2.o.c3;have u4:=aB S2.o.c4;have u5:=aB S2.o.c5;have u6:=aB S2.o.c6;have u7:=aB S2.o.c7;have u8:=aB S2.o.c8;have p9:w2.cell? ⟨w.heap.size,9,none⟩=some (.slice A0 y c0):=(Blk.cell K2.o 9).T rfl;have u9:=aB p9;have z1:w.heap.size<w2.heap.size:=K2.o.lt;have z2:w.heap.size+1<w2.heap.size:=K3.o.lt;have QA:=zq (AR (w:=w2) (fun W _ => bb.o W));by_cases hl:(y:Int)=al
 ·have b8:=Db hl;have HL:=zq hl;clear hl
  (refine aF zY zY ?_;(repeat(first|go_big_quiet_step (first|(go_at_call 15;exact QA.o _ _))|quiet_step (first|(go_at_call 15;exact QA.o _ _))));refine aQ ?_)
  rintro _ ⟨⟨dq,osq⟩,rfl⟩;have b5:=aI w2 dq osq;generalize grow (redrawn w2 dq) osq=w5 at b5;obtain⟨S5,aw,P9⟩:=zI (S2.o.B b5) (ai.o.T (b5.M ai.o.size)) ((b5.cell (p:=⟨w.heap.size,9,none⟩) z1).T p9);have bn:w.heap.size<w5.heap.size:=aH z1 b5.size;have cu:w.heap.size+1<w5.heap.size:=aH z2 b5.size;obtain⟨A',c',e,-,hm,hx⟩:=rSl.at_ (Ai.X Ar.X) zW (rSl.B (Ai.L Ar.L) (Ai.X Ar.X) be.o b5);injection e with e1 e2 e3
  subst e1 e3;clear e2;have HX:=zq hx;clear hx hm b5 QA u0 u1 u2 u3 u4 u5 u6 u7 u8 u9 p9 z1 z2 S2 K2 K3 be ai b8;go_wp2
  go_loopw [4,5,6,7] (fun i _ _ _ wr =>∃k:Nat,k<=y/\i=k/\Hid (Co (DO d.s.sh) d.g k)/\Hid (Below w5 w5 wr)) (fun i _ _ _ _ => y - (intOf i).toNat)
  ·exact⟨0,by omega,rfl,Co.zero _ _,aC _ _⟩
  ·obtain⟨k,hk,rfl,HT,HB⟩:=hrel;have b4:=zq ((HB.o.cell (p:=⟨w.heap.size,9,none⟩) bn).T P9.o);have p9:=b4.o;by_cases co:k<y
   ·have af:k<d.g.length:=by rw[az.o];exact co
    have dj:(k:Int)<(y:Int):=by omega
    obtain⟨ad,b,o,cs,fk,rfl,x⟩:=HX.o k af;have l:=x.B (Ai.L Ar.L) HB.o;have cq:=x.place;have a0:=l.lt;obtain⟨ve,cr,au⟩:=l.reads;subst cr;obtain⟨Ae,ce,rfl,cc,dk⟩:=rSl.head au;have z:=l.cell 0 zX;simp only[bC,aW]at z;rw[Nat.mul_one]at cq;have ap:=zq (HT.o.step af);have am:=zq (fun(h:DO d.s.sh d.g[k] =false) => bd.o.symm.T (LD af h));obtain⟨G,hG⟩:∃G,d.g[k] =G:=zJ;rw[hG]at z au cc ap am;obtain⟨m,hm⟩:∃m,G.length=m:=zJ;rw[hm]at z au cc;obtain⟨HM,br,SR⟩:=zI hm au (S5.o.B HB.o);have u0:=aB SR.o.c0;have u1:=aB SR.o.c1;have u2:=aB SR.o.c2;have u3:=aB SR.o.c3;have u4:=aB SR.o.c4;have u5:=aB SR.o.c5;have u6:=aB SR.o.c6;have u7:=aB SR.o.c7;have u8:=aB SR.o.c8;have u9:=aB p9;have v9:=aB z;have z1:w.heap.size<wr.heap.size:=aH bn HB.o.size;have z2:w.heap.size+1<wr.heap.size:=aH cu HB.o.size;have ae:=zq (aw.o.T (HB.o.M aw.o.size));have QV:=zq (AR (w:=wr) (fun W _ => bc.o W));clear x l af hG hm au;by_cases aj:(m:Int)=dv
    ·have a8:=Db aj;have ci:=zq (show(G.length:Int)=d.s.sh.data+d.s.sh.p by rw[HM.o,a6.o];exact aj);clear aj;go_wp2_with fail
     (refine aF zY zY ?_;(repeat(first|go_big_quiet_step (first|(go_at_call 122;exact QV.o _ _))|quiet_step (first|(go_at_call 122;exact QV.o _ _))));refine aQ ?_)
     rintro _ ⟨⟨dq,osq⟩,rfl⟩;have b7:=aI wr dq osq;generalize grow (redrawn wr dq) osq=w7 at b7;have ax:=zq (HB.o.T (b7.M HB.o.size));have a5:=zq (ae.o.T (b7.M ae.o.size));obtain⟨A',c',e,-,cp,cd⟩:=rSl.at_ Ar.X zW (rSl.B Ar.L Ar.X br.o b7);injection e with e1 e2 e3
     subst e1 e3;clear e2;have ck:=zq cd;have cg:w.heap.size<w7.heap.size:=aH z1 b7.size;have ct:w.heap.size+1<w7.heap.size:=aH z2 b7.size;have ch:b<w7.heap.size:=aH a0 b7.size;have cl:=zq ((b7.cell (p:=⟨w.heap.size,9,none⟩) z1).T p9);have cm:=zq ((b7.cell (p:=⟨b,o,none⟩) a0).T z);clear cd cp b7 QV u0 u1 u2 u3 u4 u5 u6 u7 u8 u9 v9 z1 z2 SR a8 z a0 br ae p9 b4;go_wp2
     go_loopw [5,6,7] (fun i _ _ wr =>∃j:Nat,j<=m/\i=j/\Hid (Co (Dq d.s.sh) G j)/\Hid (Below w7 w7 wr)) (fun i _ _ _ => m - (intOf i).toNat)
     ·exact⟨0,by omega,rfl,Co.zero _ _,aC _ _⟩
     ·obtain⟨j,hj,rfl,bx,n⟩:=hrel;have p9:=(n.o.cell (p:=⟨w.heap.size,9,none⟩) cg).T cl.o;have z:=(n.o.cell (p:=⟨b,o,none⟩) ch).T cm.o;have a0:b<wr.heap.size:=aH ch n.o.size;have z1:w.heap.size<wr.heap.size:=aH cg n.o.size;have z2:w.heap.size+1<wr.heap.size:=aH ct n.o.size;by_cases ca:j<m
      ·have a1:j<G.length:=by rw[HM.o];exact ca
       have di:(j:Int)<(m:Int):=by omega
       obtain⟨dc,b2,o2,de,dg,rfl,x⟩:=ck.o j a1;have l:=x.B Ar.L n.o;have cz:=x.place;have cv:=l.lt;obtain⟨v3,g3,e3,-,ar⟩:=l.reads;subst e3;have y1:=l.cell 1 zX;simp only[bC,aW,bF]at y1;obtain⟨A3,c3,rfl,a9,cx,cf⟩:=rSl.at_ AK.X zW ar;have ag:=zq (bx.o.step a1);have ab:=zq (fun(h:Dq d.s.sh G[j] =false) => am.o (LV a1 h));obtain⟨D,hD⟩:∃D,G[j] =D:=zJ;rw[hD]at y1 a9 ag ab;have b1:=zq cf;rw[hD]at b1;obtain⟨nb,bk⟩:∃nb,D.blocks.length=nb:=zJ;rw[bk]at y1 a9;have ay:=zq bk;have SR:=zq (S5.o.B (ax.o.T (n.o.M ax.o.size)));have u4:=SR.o.c4;have an:=zq (a5.o.T (n.o.M a5.o.size));clear x l a1 hD bk ar cf;by_cases ak:(nb:Int)=d.s.sh.rows
       ·have b9:=Db ak;have cj:=zq (show(D.blocks.length:Int)=d.s.sh.rows by rw[ay.o];exact ak);clear ak;obtain⟨w8,rfl⟩:∃w8,w8=wr:=zJ;go_wp2
        go_loopw [7] (fun i wr =>∃q:Nat,q<=nb/\i=q/\Hid (Co CX D.blocks q)/\Hid (Below w8 w8 wr)) (fun i _ => nb - (intOf i).toNat)
        ·exact⟨0,by omega,rfl,Co.zero _ _,aC _ _⟩
        ·obtain⟨q,hq,rfl,bz,av⟩:=hrel;clear p9 z u4 y1;have a4:=zq (an.o.T (av.o.M an.o.size));by_cases cb:q<nb
         ·have a2:q<D.blocks.length:=by rw[ay.o];exact cb
          have dl:(q:Int)<(nb:Int):=by omega
          obtain⟨dd,b3,o3,df,dh,rfl,x⟩:=b1.o q a2;have l:=x.B AK.L av.o;have c9:=x.place;have cw:=l.lt;obtain⟨v4,g4,e4,-,-,ar⟩:=l.reads;subst e4;obtain⟨A4,c4,rfl,ba,cy⟩:=rSl.head ar;have x0:=l.cell 0 zX;have x1:=l.cell 1 zX;simp only[bC,aW,bF]at x0 x1;have ah:=zq (bz.o.step a2);have ac:=zq (fun(h:CX D.blocks[q] =false) => ab.o (Rp a2 h));obtain⟨B,hB⟩:∃B,D.blocks[q] =B:=zJ;rw[hB]at x0 x1 ba ah ac;obtain⟨st,bm⟩:∃st,B.stamp=st:=zJ;rw[bm]at x0;obtain⟨ny,bl⟩:∃ny,B.bytes.length=ny:=zJ;rw[bl]at x1 ba;obtain⟨bt,bq,ao⟩:=zI bm bl (fun(W:World) => BD st 0 1000000000 W);clear x l a2 hB bm bl ar;cases hin:Ap st 0 1000000000 with
          |false =>
           rw[hin]at ao;have e1:r=false:=ac.o (Og (by rw[bt.o];exact hin));subst e1;clear hin;go_wp2_with (go_at_call 78;refine(ao.o _).M ?_;rintro e w' ⟨rfl,rfl⟩)
           go_ret
           exact⟨rfl,a4.o⟩
          |true =>
           rw[hin]at ao;have bp:=zq hin;clear hin;by_cases b6:ny=4
           ·have bw:=zq (ah.o (SE (by rw[bt.o];exact bp.o) (by rw[bq.o];exact b6)));have cn:=Db (a:=(ny:Int)) (b:=4) zZ;go_wp2_with (go_at_call 78;refine(ao.o _).M ?_;rintro e w' ⟨rfl,rfl⟩)
            go_roundw
            ·exact⟨q+1,by omega,by go_num,bw.o,av.o⟩
            ·simp[intOf];omega
           ·have cn:=EE (a:=(ny:Int)) (b:=4) zZ;have e1:r=false:=ac.o (Ri (by rw[bq.o];exact b6));subst e1;go_wp2_with (go_at_call 78;refine(ao.o _).M ?_;rintro e w' ⟨rfl,rfl⟩)
            go_ret
            exact⟨rfl,a4.o⟩
         ·obtain rfl:q=nb:=by omega
          have bv:=zq (ag.o (SM cj.o (by rw[ay.o];exact bz.o)));have aa:=zq (n.o.T (av.o.M n.o.size));go_wp2
          go_roundw
          ·exact⟨j+1,by omega,by go_num,bv.o,aa.o⟩
          ·simp[intOf];omega
       ·have b9:=EE ak;have e1:r=false:=ab.o (LQ (by rw[ay.o];exact ak));subst e1;clear ak;go_wp2
        go_ret
        exact⟨rfl,an.o⟩
      ·obtain rfl:j=m:=by omega
       have bu:=zq (ap.o (Nh ci.o (by rw[HM.o];exact bx.o)));have aa:=zq (ax.o.T (n.o.M ax.o.size));go_wp2
       go_roundw
       ·exact⟨k+1,by omega,by go_num,bu.o,aa.o⟩
       ·simp[intOf];omega
    ·have a8:=EE aj;have e1:r=false:=am.o (LW (by rw[HM.o,a6.o];exact aj));subst e1;clear aj;go_wp2_with fail
     (refine aF zY zY ?_;(repeat(first|go_big_quiet_step (first|(go_at_call 122;exact QV.o _ _))|quiet_step (first|(go_at_call 122;exact QV.o _ _))));refine aQ ?_)
     rintro _ ⟨⟨dq,osq⟩,rfl⟩;have aa:=zq (ae.o.T ((aI _ dq osq).M ae.o.size));go_wp2
     go_ret
     exact⟨rfl,aa.o⟩
   ·obtain rfl:k=y:=by omega
    have e1:r=true:=by
     rw[<-bd.o];exact Nb (by rw[az.o,a3.o];exact HL.o) (by rw[az.o];exact HT.o)
    subst e1;have ae:=zq (aw.o.T (HB.o.M aw.o.size));have z1:w.heap.size<wr.heap.size:=aH bn HB.o.size;go_wp2
    go_ret
    exact⟨rfl,ae.o⟩
 ·have b8:=EE hl;have e1:r=false:=by
   rw[<-bd.o];exact LF (by rw[az.o,a3.o];exact hl)
  subst e1;clear hl
  (refine aF zY zY ?_;(repeat(first|go_big_quiet_step (first|(go_at_call 15;exact QA.o _ _))|quiet_step (first|(go_at_call 15;exact QA.o _ _))));refine aQ ?_)
  rintro _ ⟨⟨dq,osq⟩,rfl⟩;have aa:=zq (ai.o.T ((aI _ dq osq).M ai.o.size));go_wp2
  go_ret
  exact⟨rfl,aa.o⟩
theorem any2 {α}{l:List α}(h:l.length=2)(p:α->Bool){a b:Bool}(c:p l[0] =a)(h1:p l[1] =b):l.any p=(a||b):=by
 subst c h1;match l,h with
 | [x,y],_ => simp
theorem La(d:As)(aa:shB d.s.sh=true->(BU d.s.sh d.g && (onB d.s.sh d.on d.down && decide (d.v.length=2)))=false)(cs f w)(h:AF w f cs d):
  Calls prog 39 #[.agg cs] w (zN (int i64 (AI d)) w):=by
 have ay:=h;dsimp only[AF]at h;obtain⟨v0,v1,v2,f0,f1,f2,rfl,-,o0,o1,o2,o3,o4,o5,o6,o7,o8,o9,bs,r0,r1,r2⟩:=h;obtain⟨A0,c0,rfl,m0,bp⟩:=rSl.head r0;obtain⟨A1,c1,rfl,m1,bq⟩:=rSl.head r1;obtain⟨A2,c2,rfl,m2,br⟩:=rSl.head r2;obtain⟨nG,an⟩:∃nG,d.g.length=nG:=zJ;obtain⟨n,ao⟩:∃n,d.on.length=n:=zJ;obtain⟨nT,aq⟩:∃nT,d.v.length=nT:=zJ;rw[an]at r0 m0⊢;rw[ao]at r1 m1⊢;rw[aq]at r2 m2⊢;rw[an,ao,aq]at ay;obtain⟨bg,bl,bc,bd⟩:=zH ay an ao aq;have ah:Below w w (w.alloc (.cells (zD d A0 nG c0 A1 n c1 A2 nT c2) 42)):=(aC _ _).alloc (aD _) _;have a8:Blk (w.alloc (.cells (zD d A0 nG c0 A1 n c1 A2 nT c2) 42)) w 42 (zD d A0 nG c0 A1 n c1 A2 nT c2):=Blk.new _ _ _;obtain⟨K1,ba,R0,R1,R2⟩:=zG a8 ah (rSl.B (Ai.L Ar.L) (Ai.X Ar.X) r0 ah) (rSl.B Aw.L Aw.X r1 ah) (rSl.B AE.L AE.X r2 ah);clear ay r0 r1 r2 ah a8 an ao aq;have K2:=K1;have B2:=ba;obtain⟨r,hr⟩:∃r,AI d=r:=zJ;rw[hr];obtain⟨aj,ad,az,bk,bj⟩:=zG hr (Cd d.s.sh (w.alloc (.cells (zD d A0 nG c0 A1 n c1 A2 nT c2) 42))) (Blk.range K1.o 0 d.s rfl) (fun(W:World) => BD d.u 0 1000000000 W) (fun(W:World) => BD d.stop (-1) 1000000000 W);clear hr;cases hsb:shB d.s.sh with
 |false =>
  rw[Ip hsb]at ad;have e1:r=3:=by rw[<-aj.o];exact Iu hsb
  subst e1;unfold shV at ad;clear hsb aa;go_enter func39,ntmps39
  go_wp2_with (refine aE rfl 38 _ rfl w 0 rfl _ _ az.o underlying38 rfl zY ?_)
  refine ad.o.M ?_;rintro e y ⟨rfl,b3⟩;have z:=zq (K2.o.B b3 K2.o.lt);have B3:=zq (B2.o.T (b3.M B2.o.size));have z3:w.heap.size<y.heap.size:=z.o.lt;have be:=zq (Blk.range z.o 0 (zD d A0 nG c0 A1 n c1 A2 nT c2) rfl);clear b3;go_wp2
  go_ret
  exact⟨rfl,B3.o⟩
 |true =>
  rw[CL hsb]at ad;have hs:=De hsb;have ac:okI (d.s.sh.g+d.s.sh.c - 1):=by
   obtain⟨a1,a2⟩:=hs.g;obtain⟨a3,a4⟩:=hs.c;exact⟨by omega,by omega⟩
  obtain⟨aw,au,av,bf,i,ab⟩:=zF (fun(W:World) (hW:Below w w W) => Nn d hs _ _ W (AC.B AF.L AF.X bg.o hW)) (fun(W:World) => EN d.s.sh hs W) (fun(W:World) (hW:Below (w.alloc (.cells (zD d A0 nG c0 A1 n c1 A2 nT c2) 42)).heap.size (w.alloc (.cells (zD d A0 nG c0 A1 n c1 A2 nT c2) 42)) W) => J3 (.slice A1 n c1) d.on (d.s.sh.g+d.s.sh.c - 1) _ W (rSl.B Aw.L Aw.X R1.o hW)) (fun(x:Aj) (cs:List Value) (f:List Addr) (W:World) (hR:Af W f cs x) => NC d.s.sh hsb x cs f W hR) (fun h2 => aj.o.symm.T (I4 (d:=d) hsb h2)) (show(BU d.s.sh d.g && (onB d.s.sh d.on d.down && decide (d.v.length=2)))=false from aa hsb);have ag:=zq (fun h2 h3 => aj.o.symm.T (Gd (d:=d) hsb h2 h3));have ae:=zq (fun h2 h3 => aj.o.symm.T (GV (d:=d) hsb h2 h3));unfold shV at ad au bf;obtain⟨gb,a7⟩:∃gb,BU d.s.sh d.g=gb:=zJ;obtain⟨ob,ai⟩:∃ob,onB d.s.sh d.on d.down=ob:=zJ;obtain⟨dn,am⟩:∃dn,d.down=dn:=zJ;have bb:=zq am;rw[a7]at aw i ag ae ab;rw[ai]at i ag ae ab;rw[bd.o]at i ag ae ab;unfold onB at ai;obtain⟨ap,ax⟩:∃ap,DA d.on (d.s.sh.g+d.s.sh.c - 1)=ap:=zJ;obtain⟨al,a0⟩:∃al,d.s.sh.g+d.s.sh.c=al:=zJ;rw[ax,bc.o,am]at ai;rw[am]at aw;rw[ax]at av;rw[a0]at av au ac;have ew:IntKind.i64.wrap (al - 1)=al - 1:=IntWalk.i64_in _ (by have:=ac.1;have:=ac.2;omega);have af:=zq ai.symm;clear hsb hs a7 ai ax a0 ac am aa;go_enter func39,ntmps39
  go_wp2_with (refine aE rfl 38 _ rfl w 0 rfl _ _ az.o underlying38 rfl zY ?_)
  refine ad.o.M ?_;rintro e y ⟨rfl,b3⟩;obtain⟨BW,z,B3⟩:=zI b3 (K2.o.B b3 K2.o.lt) (B2.o.T (b3.M B2.o.size));have z3:w.heap.size<y.heap.size:=z.o.lt;have be:=zq (Blk.range z.o 0 (zD d A0 nG c0 A1 n c1 A2 nT c2) rfl);clear b3;have u0:=aB (show y.cell? ⟨w.heap.size,0,none⟩=some (int i64 d.s.g)from(Blk.cell z.o 0).T rfl);have u1:=aB (show y.cell? ⟨w.heap.size,1,none⟩=some (int i64 d.s.c)from(Blk.cell z.o 1).T rfl);have u2:=aB (show y.cell? ⟨w.heap.size,2,none⟩=some (int i64 d.s.data)from(Blk.cell z.o 2).T rfl);have u3:=aB (show y.cell? ⟨w.heap.size,3,none⟩=some (int i64 d.s.p)from(Blk.cell z.o 3).T rfl);have u4:=aB (show y.cell? ⟨w.heap.size,4,none⟩=some (int i64 d.s.rows)from(Blk.cell z.o 4).T rfl);have u5:=aB (show y.cell? ⟨w.heap.size,5,none⟩=some (int i64 d.s.cap)from(Blk.cell z.o 5).T rfl);have u6:=aB (show y.cell? ⟨w.heap.size,6,none⟩=some (int i64 d.s.b)from(Blk.cell z.o 6).T rfl);have u7:=aB (show y.cell? ⟨w.heap.size,7,none⟩=some (int i64 d.s.q)from(Blk.cell z.o 7).T rfl);have u8:=aB (show y.cell? ⟨w.heap.size,8,none⟩=some (int i64 d.s.t)from(Blk.cell z.o 8).T rfl);have u9:=aB (show y.cell? ⟨w.heap.size,9,none⟩=some (.slice A0 nG c0)from(Blk.cell z.o 9).T rfl);have bt:=aB (show y.cell? ⟨w.heap.size,10,none⟩=some (.slice A1 n c1)from(Blk.cell z.o 10).T rfl);have bu:=aB (show y.cell? ⟨w.heap.size,11,none⟩=some (.slice A2 nT c2)from(Blk.cell z.o 11).T rfl);have bv:=aB (show y.cell? ⟨w.heap.size,12,none⟩=some (int i64 d.u)from(Blk.cell z.o 12).T rfl);have bw:=aB (show y.cell? ⟨w.heap.size,13,none⟩=some (int i64 d.stop)from(Blk.cell z.o 13).T rfl);have bx:=aB (show y.cell? ⟨w.heap.size,14,none⟩=some (.bool dn)from(Blk.cell z.o 14).T (by rw[<-bb.o];rfl));obtain⟨QB,QA,QP⟩:=zI (AR (w:=y) (fun W hW => aw.o W (B3.o.T (hW.M B3.o.size)))) (AR (w:=y) (fun W _ => au.o W)) (AR (w:=y) (fun W hW => av.o W (BW.o.T (hW.M BW.o.size))));go_wp2_with fail
  cases gb with
  |false =>
   have e1:r=1:=i.o (by rw[af.o];rfl);subst e1
   (refine aF zY zY ?_;(repeat go_big_quiet_step (first|(go_at_call 75;exact QB.o _ _)|(go_at_call 15;exact QA.o _ _)|(go_at_call 76;exact QP.o _ _)));refine aQ ?_)
   rintro _ ⟨⟨dq,osq⟩,rfl⟩;have l:=zq (B3.o.T ((aI _ dq osq).M B3.o.size));go_wp2
   go_ret
   exact⟨rfl,l.o⟩
  |true =>
   cases ap with
   |false =>
    have e1:r=1:=i.o (by rw[af.o];rfl);subst e1
    (refine aF zY zY ?_;(repeat go_big_quiet_step (first|(go_at_call 75;exact QB.o _ _)|(go_at_call 15;exact QA.o _ _)|(go_at_call 76;exact QP.o _ _)));refine aQ ?_)
    rintro _ ⟨⟨dq,osq⟩,rfl⟩;have l:=zq (B3.o.T ((aI _ dq osq).M B3.o.size));go_wp2
    go_ret
    exact⟨rfl,l.o⟩
   |true =>
    by_cases ar:(n:Int)<=d.s.cap
    ·have a6:¬d.s.cap<(n:Int):=by omega
     have bn:decide (d.s.cap<(n:Int))=false:=aG a6;have ak:decide ((n:Int)<=d.s.sh.cap)=true:=aN ar;by_cases h2:nT=2
     ·have bh:((nT:Int) != 2)=false:=Db zZ;have bm:=zq h2;by_cases hz:dn=true/\0<n
      ·obtain⟨rfl,bo⟩:=hz;have a9:(0:Int)<(n:Int):=by omega
       have bi:decide (n=0)=false:=aG zZ;clear h2;have e1:r=1:=i.o (by rw[af.o];rw[ak,bi];rfl);subst e1
       (refine aF zY zY ?_;(repeat go_big_quiet_step (first|(go_at_call 75;exact QB.o _ _)|(go_at_call 15;exact QA.o _ _)|(go_at_call 76;exact QP.o _ _)));refine aQ ?_)
       rintro _ ⟨⟨dq,osq⟩,rfl⟩;have l:=zq (B3.o.T ((aI _ dq osq).M B3.o.size));go_wp2
       go_ret
       exact⟨rfl,l.o⟩
      ·have a5:(true && (ob && decide (nT=2)))=true:=by
        rw[af.o,ak,aN h2];cases dn with
        |false => cases decide (n=0) <;> rfl
        |true => rw[aN (show n=0 by simp at hz;omega)];rfl
       have h9:=ab.o;rw[a5]at h9;cases h9
     ·have bh:((nT:Int) != 2)=true:=EE zZ;cases dn with
      |false =>
       have e1:r=1:=i.o (by rw[aG h2];cases ob <;> rfl);subst e1
       (refine aF zY zY ?_;(repeat go_big_quiet_step (first|(go_at_call 75;exact QB.o _ _)|(go_at_call 15;exact QA.o _ _)|(go_at_call 76;exact QP.o _ _)));refine aQ ?_)
       rintro _ ⟨⟨dq,osq⟩,rfl⟩;have l:=zq (B3.o.T ((aI _ dq osq).M B3.o.size));go_wp2
       go_ret
       exact⟨rfl,l.o⟩
      |true =>
       have e1:r=1:=i.o (by rw[aG h2];cases ob <;> rfl);subst e1;by_cases hz:0<n
       ·have a9:(0:Int)<(n:Int):=by omega
        (refine aF zY zY ?_;(repeat go_big_quiet_step (first|(go_at_call 75;exact QB.o _ _)|(go_at_call 15;exact QA.o _ _)|(go_at_call 76;exact QP.o _ _)));refine aQ ?_)
        rintro _ ⟨⟨dq,osq⟩,rfl⟩;have l:=zq (B3.o.T ((aI _ dq osq).M B3.o.size));go_wp2
        go_ret
        exact⟨rfl,l.o⟩
       ·have a9:¬(0:Int)<(n:Int):=by omega
        (refine aF zY zY ?_;(repeat go_big_quiet_step (first|(go_at_call 75;exact QB.o _ _)|(go_at_call 15;exact QA.o _ _)|(go_at_call 76;exact QP.o _ _)));refine aQ ?_)
        rintro _ ⟨⟨dq,osq⟩,rfl⟩;have l:=zq (B3.o.T ((aI _ dq osq).M B3.o.size));go_wp2
        go_ret
        exact⟨rfl,l.o⟩
    ·have a6:d.s.cap<(n:Int):=by omega
     have ak:decide ((n:Int)<=d.s.sh.cap)=false:=aG ar;have e1:r=1:=i.o (by rw[af.o];rw[ak];rfl);subst e1
     (refine aF zY zY ?_;(repeat go_big_quiet_step (first|(go_at_call 75;exact QB.o _ _)|(go_at_call 15;exact QA.o _ _)|(go_at_call 76;exact QP.o _ _)));refine aQ ?_)
     rintro _ ⟨⟨dq,osq⟩,rfl⟩;have l:=zq (B3.o.T ((aI _ dq osq).M B3.o.size));go_wp2
     go_ret
     exact⟨rfl,l.o⟩
theorem Sq(d:As)(ag:shB d.s.sh=true/\(BU d.s.sh d.g && (onB d.s.sh d.on d.down && decide (d.v.length=2)))=true)(cs f w)(h:AF w f cs d):
  Calls prog 39 #[.agg cs] w (zN (int i64 (AI d)) w):=by
 have b9:=h;dsimp only[AF]at h;obtain⟨v0,v1,v2,f0,f1,f2,rfl,-,o0,o1,o2,o3,o4,o5,o6,o7,o8,o9,en,r0,r1,r2⟩:=h;obtain⟨A0,c0,rfl,m0,em⟩:=rSl.head r0;obtain⟨A1,c1,rfl,m1,bi⟩:=rSl.head r1;obtain⟨A2,c2,rfl,m2,ca⟩:=rSl.head r2;obtain⟨nG,bf⟩:∃nG,d.g.length=nG:=zJ;obtain⟨nO,bg⟩:∃nO,d.on.length=nO:=zJ;obtain⟨nT,bh⟩:∃nT,d.v.length=nT:=zJ;rw[bf]at r0 m0⊢;rw[bg]at r1 m1⊢;rw[bh]at r2 m2⊢;rw[bf,bg,bh]at b9;obtain⟨de,d5,db,cc⟩:=zH b9 bf bg bh;have a6:Below w w (w.alloc (.cells (zD d A0 nG c0 A1 nO c1 A2 nT c2) 42)):=(aC _ _).alloc (aD _) _;have aa:Blk (w.alloc (.cells (zD d A0 nG c0 A1 nO c1 A2 nT c2) 42)) w 42 (zD d A0 nG c0 A1 nO c1 A2 nT c2):=Blk.new _ _ _;obtain⟨K1,c9,R0,R1,R2⟩:=zG aa a6 (rSl.B (Ai.L Ar.L) (Ai.X Ar.X) r0 a6) (rSl.B Aw.L Aw.X r1 a6) (rSl.B AE.L AE.X r2 a6);clear b9 r0 r1 r2 a6 aa bf bg bh;have K2:=K1;have B2:=c9;obtain⟨r,hr⟩:∃r,AI d=r:=zJ;rw[hr];obtain⟨ce,bt,dd,aw,av⟩:=zG hr (Cd d.s.sh (w.alloc (.cells (zD d A0 nG c0 A1 nO c1 A2 nT c2) 42))) (Blk.range K1.o 0 d.s rfl) (fun(W:World) => BD d.u 0 1000000000 W) (fun(W:World) => BD d.stop (-1) 1000000000 W);clear hr;cases hsb:shB d.s.sh with
 |false =>
  rw[hsb]at ag;cases ag.1
 |true =>
  rw[CL hsb]at bt;have hs:=De hsb;have ar:okI (d.s.sh.g+d.s.sh.c - 1):=by
   obtain⟨a1,a2⟩:=hs.g;obtain⟨a3,a4⟩:=hs.c;exact⟨by omega,by omega⟩
  obtain⟨br,bn,bo,cd,n,ab⟩:=zF (fun(W:World) (hW:Below w w W) => Nn d hs _ _ W (AC.B AF.L AF.X de.o hW)) (fun(W:World) => EN d.s.sh hs W) (fun(W:World) (hW:Below (w.alloc (.cells (zD d A0 nG c0 A1 nO c1 A2 nT c2) 42)).heap.size (w.alloc (.cells (zD d A0 nG c0 A1 nO c1 A2 nT c2) 42)) W) => J3 (.slice A1 nO c1) d.on (d.s.sh.g+d.s.sh.c - 1) _ W (rSl.B Aw.L Aw.X R1.o hW)) (fun(x:Aj) (cs:List Value) (f:List Addr) (W:World) (hR:Af W f cs x) => NC d.s.sh hsb x cs f W hR) (fun(h2:(BU d.s.sh d.g && (onB d.s.sh d.on d.down && decide (d.v.length=2)))=false) => show False from by rw[ag.2]at h2;cases h2) (show True from trivial);have ai:=zq (fun h2 h3 => ce.o.symm.T (Gd (d:=d) hsb h2 h3));have ah:=zq (fun h2 h3 => ce.o.symm.T (GV (d:=d) hsb h2 h3));unfold shV at bt bn cd;obtain⟨gb,cn⟩:∃gb,BU d.s.sh d.g=gb:=zJ;obtain⟨ob,a8⟩:∃ob,onB d.s.sh d.on d.down=ob:=zJ;obtain⟨dn,bc⟩:∃dn,d.down=dn:=zJ;have da:=zq bc;rw[cn]at br n ai ah;rw[a8]at n ai ah;rw[cc.o]at n ai ah;unfold onB at a8;obtain⟨ap,bx⟩:∃ap,DA d.on (d.s.sh.g+d.s.sh.c - 1)=ap:=zJ;obtain⟨al,cl⟩:∃al,d.s.sh.g+d.s.sh.c=al:=zJ;rw[bx,db.o,bc]at a8;rw[bc]at br;rw[bx]at bo;rw[cl]at bo bn ar;have ew:IntKind.i64.wrap (al - 1)=al - 1:=IntWalk.i64_in _ (by have:=ar.1;have:=ar.2;omega);have ay:=zq a8.symm;clear hsb hs cn a8 bx cl ar bc ag;go_enter func39,ntmps39
  go_wp2_with (refine aE rfl 38 _ rfl w 0 rfl _ _ dd.o underlying38 rfl zY ?_)
  refine bt.o.M ?_;rintro e w3 ⟨rfl,b3⟩;obtain⟨BW,K3,B3⟩:=zI b3 (K2.o.B b3 K2.o.lt) (B2.o.T (b3.M B2.o.size));have z3:w.heap.size<w3.heap.size:=K3.o.lt;have d6:=zq (Blk.range K3.o 0 (zD d A0 nG c0 A1 nO c1 A2 nT c2) rfl);clear b3;have u0:=aB (show w3.cell? ⟨w.heap.size,0,none⟩=some (int i64 d.s.g)from(Blk.cell K3.o 0).T rfl);have u1:=aB (show w3.cell? ⟨w.heap.size,1,none⟩=some (int i64 d.s.c)from(Blk.cell K3.o 1).T rfl);have u2:=aB (show w3.cell? ⟨w.heap.size,2,none⟩=some (int i64 d.s.data)from(Blk.cell K3.o 2).T rfl);have u3:=aB (show w3.cell? ⟨w.heap.size,3,none⟩=some (int i64 d.s.p)from(Blk.cell K3.o 3).T rfl);have u4:=aB (show w3.cell? ⟨w.heap.size,4,none⟩=some (int i64 d.s.rows)from(Blk.cell K3.o 4).T rfl);have u5:=aB (show w3.cell? ⟨w.heap.size,5,none⟩=some (int i64 d.s.cap)from(Blk.cell K3.o 5).T rfl);have u6:=aB (show w3.cell? ⟨w.heap.size,6,none⟩=some (int i64 d.s.b)from(Blk.cell K3.o 6).T rfl);have u7:=aB (show w3.cell? ⟨w.heap.size,7,none⟩=some (int i64 d.s.q)from(Blk.cell K3.o 7).T rfl);have u8:=aB (show w3.cell? ⟨w.heap.size,8,none⟩=some (int i64 d.s.t)from(Blk.cell K3.o 8).T rfl);have u9:=aB (show w3.cell? ⟨w.heap.size,9,none⟩=some (.slice A0 nG c0)from(Blk.cell K3.o 9).T rfl);have dy:=aB (show w3.cell? ⟨w.heap.size,10,none⟩=some (.slice A1 nO c1)from(Blk.cell K3.o 10).T rfl);have c7:=aB (show w3.cell? ⟨w.heap.size,11,none⟩=some (.slice A2 nT c2)from(Blk.cell K3.o 11).T rfl);have dz:=aB (show w3.cell? ⟨w.heap.size,12,none⟩=some (int i64 d.u)from(Blk.cell K3.o 12).T rfl);have d0:=aB (show w3.cell? ⟨w.heap.size,13,none⟩=some (int i64 d.stop)from(Blk.cell K3.o 13).T rfl);have d3:=aB (show w3.cell? ⟨w.heap.size,14,none⟩=some (.bool dn)from(Blk.cell K3.o 14).T (by rw[<-da.o];rfl));obtain⟨QB,QA,QP⟩:=zI (AR (w:=w3) (fun W hW => br.o W (B3.o.T (hW.M B3.o.size)))) (AR (w:=w3) (fun W _ => bn.o W)) (AR (w:=w3) (fun W hW => bo.o W (BW.o.T (hW.M BW.o.size))));go_wp2_with fail
  cases gb with
  |false =>
   exact(n.o (by rw[ay.o];rfl)).elim
  |true =>
   cases ap with
   |false =>
    exact(n.o (by rw[ay.o];rfl)).elim
   |true =>
    by_cases bm:(nO:Int)<=d.s.cap
    ·have cm:¬d.s.cap<(nO:Int):=by omega
     have eg:decide (d.s.cap<(nO:Int))=false:=aG cm;have bb:decide ((nO:Int)<=d.s.sh.cap)=true:=aN bm;by_cases h2:nT=2
     ·have dm:((nT:Int) != 2)=false:=Db zZ;have a5:=zq h2;by_cases hz:dn=true/\0<nO
      ·obtain⟨rfl,dw⟩:=hz;have dv:(0:Int)<(nO:Int):=by omega
       have dx:decide (nO=0)=false:=aG zZ;clear h2;exact(n.o (by rw[ay.o];rw[bb,dx];rfl)).elim
      ·have ac:(true && (ob && decide (nT=2)))=true:=by
        rw[ay.o,bb,aN h2];cases dn with
        |false => cases decide (nO=0) <;> rfl
        |true => rw[aN (show nO=0 by simp at hz;omega)];rfl
       rcases(show dn=false∨(dn=true/\¬(0:Int)<(nO:Int)/\¬0<nO)from by
        cases dn with
        |false => exact .inl rfl
        |true => exact .inr ⟨rfl,by simp at hz;omega,by simpa using hz⟩)with rfl|⟨rfl,dv,dw⟩
       all_goals
        clear hz;clear h2
        (refine aF zY zY ?_;(repeat go_big_quiet_step (first|(go_at_call 75;exact QB.o _ _)|(go_at_call 15;exact QA.o _ _)|(go_at_call 76;exact QP.o _ _)));refine aQ ?_)
        rintro _ ⟨⟨dq,osq⟩,rfl⟩;have b5:=aI w3 dq osq;generalize grow (redrawn w3 dq) osq=w5 at b5;obtain⟨c8,K5,B5⟩:=zI (BW.o.T (b5.M BW.o.size)) (K3.o.B b5 K3.o.lt) (B3.o.T (b5.M B3.o.size));have z5:w.heap.size<w5.heap.size:=K5.o.lt;have d7:=zq (Blk.range K5.o 0 (zD d A0 nG c0 A1 nO c1 A2 nT c2) rfl);clear b5;clear u0 u1 u2 u3 u4 u5 u6 u7 u8 u9 dy c7 dz d0 d3 QB QA QP;have ae:=zq (ai.o ac);have bq:=zq (ah.o ac);have bw:d.v.length=2:=cc.o.T a5.o;have cj:0<d.v.length:=by omega
        have ck:1<d.v.length:=by omega
        clear ac ai ah n;obtain⟨A',c',e,eh,hm,hx⟩:=rSl.at_ AE.X zW (rSl.B AE.L AE.X R2.o c8.o);injection e with e1 e2 e3
        subst e1 e3;clear e2;have ch:=zq hx;obtain⟨ad,b1,o1,ea,ed,dh,af⟩:=hx 0 cj;obtain⟨d8,b2,o2,eb,ef,ee,l⟩:=hx 1 ck;have b4:=af.place;have cu:=l.place;have ct:ad=⟨b1,o1,none⟩:=by
         rw[Nat.zero_mul]at b4;exact(show ad.add 0=ad from aM rfl).symm.T b4
        subst dh;injection ee with ee
        subst ee;subst ct;rw[Addr.add_lit]at cu;injection cu with dt du
        subst dt;subst du;have a9:=af.lt;obtain⟨v1,g1,e1,-,cv⟩:=af.reads;subst e1;obtain⟨v2,g2,e2,-,cw⟩:=l.reads;subst e2;have y1:=af.cell 1 zX;have y2:=l.cell 1 zX;simp only[aW,bF]at y1 y2;obtain⟨A3,c3,rfl,dp,-⟩:=rSl.head cv;obtain⟨A4,c4,rfl,dr,-⟩:=rSl.head cw;obtain⟨n1,b0⟩:∃n1,d.v[0].recs.length =n1:=zJ;obtain⟨n2,a7⟩:∃n2,d.v[1].recs.length =n2:=zJ;rw[b0]at y1 dp;rw[a7]at y2 dr;simp only[Nat.reduceMul]at y2;have y3:w5.cell? ⟨b1,o1+3,none⟩=some (.slice A4 n2 c4):=y2;obtain⟨bs,HX,aq,bv⟩:=zH (show d.v.any (fun t => decide (200<t.recs.length))=(decide (200<n1)||decide (200<n2))from any2 bw _ (by rw[b0]) (by rw[a7])) (show∀k,(hk:k<d.v.length)->∃ci b o cs fk,some ((b1,o1):Addr)=some ci/\At 2 AE w5 _ ci k b o cs fk d.v[k]from ch.o) bw (show w5.cell? ⟨w.heap.size,11,none⟩=some (.slice (some (b1,o1)) nT c2)from(Blk.cell K5.o 11).T rfl);have bj:=bv.o;have cq:(0:Int)<(nT:Int):=by have:=a5.o;omega
        have cr:(1:Int)<(nT:Int):=by have:=a5.o;omega
        clear af l cv cw b0 a7 hx hm bw cj ck ch b4;by_cases m1:200<n1
        ·have bi:(200:Int)<(n1:Int):=by omega
         have e1:r=2:=by
          have h9:=Gr (s:=d.s.sh) (bs.o.T (by rw[aN m1,Bool.true_or]));rw[ae.o (by rw[h9];decide),h9]
         subst e1;go_wp2
         go_ret
         exact⟨rfl,B5.o⟩
        by_cases m2:200<n2
        ·have bi:¬(200:Int)<(n1:Int):=by omega
         have ca:(200:Int)<(n2:Int):=by omega
         have e1:r=2:=by
          have h9:=Gr (s:=d.s.sh) (bs.o.T (by rw[aN m2,Bool.or_true]));rw[ae.o (by rw[h9];decide),h9]
         subst e1;go_wp2
         go_ret
         exact⟨rfl,B5.o⟩
        have ax:=zq (show d.v.any (fun t => decide (200<t.recs.length))=false from by rw[bs.o];simp[m1,m2]);have bi:¬(200:Int)<(n1:Int):=by omega
        have ca:¬(200:Int)<(n2:Int):=by omega
        go_wp2_with fail
        clear y1 y2 y3 m1 m2 bi ca bj cq cr;go_loopw [4,5,6] (fun i _ _ wr =>∃k:Nat,k<=2/\i=k/\Hid (CR d.s.sh d.v k)/\Hid (Below w5 w5 wr)) (fun i _ _ _ => 2 - (intOf i).toNat)
        ·exact⟨0,by omega,rfl,CR.zero _ _,aC _ _⟩
        ·obtain⟨k,hk,rfl,HT,HB⟩:=hrel;by_cases bz:k<2
         ·have aa:k<d.v.length:=by rw[aq.o];exact bz
          have dk:(k:Int)<2:=by omega
          have co:(k:Int)<(nT:Int):=by have:=a5.o;omega
          obtain⟨df,bk,ok,dg,di,ek,y⟩:=HX.o k aa;injection ek with ek
          subst ek;have aj:=y.place;rw[Addr.add_lit]at aj;injection aj with b6 b7
          subst b6;subst b7;obtain⟨vk,gk,ek,-,ba⟩:=y.reads;subst ek;have y0:=y.cell 0 zX;have y1:=y.cell 1 zX;simp only[bC,aW,bF]at y0 y1;obtain⟨A5,c5,rfl,be,dl,c6⟩:=rSl.at_ Af.X zW ba;have az:=zq (HT.o.step aa);have ab:=zq (fun(h:Bi d.s.sh d.v[k].recs≠0) => show r=Bi d.s.sh d.v[k].recs from by
           have h2:=HT.o.bad aa h;have h9:=JG ax.o (by rw[h2];exact h);rw[ae.o (by rw[h9,h2];exact h),h9,h2])
          have HY:=zq c6;obtain⟨rs,cy⟩:∃rs,d.v[k].recs =rs:=zJ;rw[cy]at y1 be az ab HY;obtain⟨nr,au⟩:∃nr,rs.length=nr:=zJ;rw[au]at y1 be;have cb:=zq au;have Y1:=zq y1;clear y ba c6 cy au y0 y1 aa;go_wp2
          go_loopw [5,6] (fun i _ wr =>∃i':Nat,i'<=nr/\i=i'/\Hid (Co (fun x => decide (AJ d.s.sh x=0)) rs i')/\Hid (Below w5 w5 wr)) (fun i _ _ => nr - (intOf i).toNat)
          ·exact⟨0,by omega,rfl,Co.zero _ _,HB.o⟩
          ·clear HB;obtain⟨i,hi,rfl,bu,HB⟩:=hrel;have bj:=(HB.o.cell (p:=⟨w.heap.size,11,none⟩) z5).T bv.o;have y1:=(HB.o.cell (p:=⟨b1,o1+k * 2+1,none⟩) a9).T Y1.o;have zw:w.heap.size<wr.heap.size:=aH z5 HB.o.size;have zb:b1<wr.heap.size:=aH a9 HB.o.size;by_cases cp:i<nr
           ·have bd:i<rs.length:=by rw[cb.o];exact cp
            have ei:(i:Int)<(nr:Int):=by omega
            obtain⟨d9,b3,o3,ec,f3,rfl,af⟩:=HY.o i bd;have l:=af.B Af.L HB.o;have el:=af.place;have d4:=l.lt;have b8:=l.reads;obtain⟨x,hx⟩:∃x,rs[i] =x:=zJ;have ak:=zq (fun(h:AJ d.s.sh rs[i]≠0) => show r=AJ d.s.sh rs[i]from by
             have h2:=Jg bd bu.o h;rw[ab.o (by rw[h2];exact h),h2])
            have a0:=zq (fun(h:AJ d.s.sh rs[i] =0) => bu.o.step bd (aN h));rw[hx]at b8 ak a0;have dc:=zq b8;obtain⟨v3,v4,v5,g3,g4,g5,e3,-⟩:=b8;subst e3;have q0:=aB (l.cell 0 zX);have q1:=aB (l.cell 1 zX);have q2:=aB (l.cell 2 zX);have q3:=aB (l.cell 3 zX);have q4:=aB (l.cell 4 zX);have q5:=aB (l.cell 5 zX);have q6:=aB (l.cell 6 zX);have q7:=aB (l.cell 7 zX);have q8:=aB (l.cell 8 zX);simp only[bC,aW,bF]at q0 q1 q2 q3 q4 q5 q6 q7 q8;have KW:=zq (K5.o.B HB.o z5);have u0:=aB (show wr.cell? ⟨w.heap.size,0,none⟩=some (int i64 d.s.g)from(Blk.cell KW.o 0).T rfl);have u1:=aB (show wr.cell? ⟨w.heap.size,1,none⟩=some (int i64 d.s.c)from(Blk.cell KW.o 1).T rfl);have u2:=aB (show wr.cell? ⟨w.heap.size,2,none⟩=some (int i64 d.s.data)from(Blk.cell KW.o 2).T rfl);have u3:=aB (show wr.cell? ⟨w.heap.size,3,none⟩=some (int i64 d.s.p)from(Blk.cell KW.o 3).T rfl);have u4:=aB (show wr.cell? ⟨w.heap.size,4,none⟩=some (int i64 d.s.rows)from(Blk.cell KW.o 4).T rfl);have u5:=aB (show wr.cell? ⟨w.heap.size,5,none⟩=some (int i64 d.s.cap)from(Blk.cell KW.o 5).T rfl);have u6:=aB (show wr.cell? ⟨w.heap.size,6,none⟩=some (int i64 d.s.b)from(Blk.cell KW.o 6).T rfl);have u7:=aB (show wr.cell? ⟨w.heap.size,7,none⟩=some (int i64 d.s.q)from(Blk.cell KW.o 7).T rfl);have u8:=aB (show wr.cell? ⟨w.heap.size,8,none⟩=some (int i64 d.s.t)from(Blk.cell KW.o 8).T rfl);have c7:=aB bj;have t1:=aB y1;have QR:=zq (AR (w:=wr) (fun W hW => cd.o x _ f3 W (AC.B Af.L Af.X dc.o hW)));obtain⟨rc,cx⟩:∃rc,AJ d.s.sh x=rc:=zJ;rw[cx]at QR ak a0;have am:=zq (B5.o.T (HB.o.M B5.o.size));clear af l cx hx bd;by_cases h0:rc=0
            ·have an:=zq (a0.o h0);subst h0;go_wp2_with fail
             (refine aF zY zY ?_;(repeat go_big_quiet_step (first|(go_at_call 77;exact QR.o _ _)));refine aQ ?_)
             rintro _ ⟨⟨dq,osq⟩,rfl⟩;have bp:=zq (HB.o.T ((aI wr dq osq).M HB.o.size));go_wp2
             go_roundw
             ·exact⟨i+1,by omega,by go_num,an.o,bp.o⟩
             ·simp[intOf];omega
            ·have e1:r=rc:=ak.o h0;subst e1;have ej:(r != 0)=true:=EE h0;go_wp2_with fail
             (refine aF zY zY ?_;(repeat go_big_quiet_step (first|(go_at_call 77;exact QR.o _ _)));refine aQ ?_)
             rintro _ ⟨⟨dq,osq⟩,rfl⟩;have bp:=zq (am.o.T ((aI _ dq osq).M am.o.size));go_wp2
             go_ret
             exact⟨rfl,bp.o⟩
           ·obtain rfl:i=nr:=by omega
            have an:=zq (az.o (JV (by rw[cb.o];exact bu.o)));go_wp2
            go_roundw
            ·exact⟨k+1,by omega,by go_num,an.o,HB.o⟩
            ·simp[intOf];omega
         ·obtain rfl:k=2:=by omega
          have ac:Bi d.s.sh (d.v.flatMap Be.recs)=0:=CR.all (by rw[aq.o];exact HT.o);have cg:=zq (JF ax.o ac);clear ac;obtain⟨w8,rfl⟩:∃w8,w8=wr:=zJ;go_wp2
          go_loopw [7] (fun i wr =>∃k:Nat,k<=2/\i=k/\Hid (Co (fun t => !(t.wiped && decide (0<t.recs.length))) d.v k)/\wr=w8) (fun i _ => 2 - (intOf i).toNat)
          ·exact⟨0,by omega,rfl,Co.zero _ _,rfl⟩
          ·obtain⟨k,hk,rfl,cf,rfl⟩:=hrel;have zw:w.heap.size<wr.heap.size:=aH z5 HB.o.size;have zb:b1<wr.heap.size:=aH a9 HB.o.size;have am:=zq (B5.o.T (HB.o.M B5.o.size));have KW:=zq (K5.o.B HB.o z5);by_cases bz:k<2
           ·have aa:k<d.v.length:=by rw[aq.o];exact bz
            have dk:(k:Int)<2:=by omega
            have co:(k:Int)<(nT:Int):=by have:=a5.o;omega
            have bj:=(HB.o.cell (p:=⟨w.heap.size,11,none⟩) z5).T bv.o;obtain⟨df,bk,ok,dg,di,ek,y⟩:=HX.o k aa;injection ek with ek
            subst ek;have aj:=y.place;rw[Addr.add_lit]at aj;injection aj with b6 b7
            subst b6;subst b7;obtain⟨vk,gk,ek,-,ba⟩:=y.reads;subst ek;have y0:=y.cell 0 zX;have y1:=y.cell 1 zX;simp only[bC,aW,bF]at y0 y1;obtain⟨A5,c5,rfl,be,dl⟩:=rSl.head ba;have x0:=(HB.o.cell (p:=⟨b1,o1+k * 2,none⟩) a9).T y0;have x1:=(HB.o.cell (p:=⟨b1,o1+k * 2+1,none⟩) a9).T y1;have ao:=zq (cf.o.step aa);have ab:=zq (fun(h:(d.v[k].wiped && decide (0<d.v[k].recs.length))=true) => show r=1 from by
             have h9:=cg.o.T (aM (List.any_eq_true.2 ⟨_,aT aa,h⟩));rw[ae.o (by rw[h9];decide),h9])
            obtain⟨nr,au⟩:∃nr,d.v[k].recs.length =nr:=zJ;rw[au]at x1 ao ab;obtain⟨wp,cz⟩:∃wp,d.v[k].wiped =wp:=zJ;rw[cz]at x0 ao ab;clear y ba y0 y1 aa cz au be;cases wp with
            |false =>
             have an:=zq (ao.o rfl);go_wp2
             go_roundw
             ·exact⟨k+1,by omega,by go_num,an.o,trivial⟩
             ·simp[intOf];omega
            |true =>
             by_cases h0:0<nr
             ·have dj:(0:Int)<(nr:Int):=by omega
              have e1:r=1:=ab.o (by rw[aN h0];rfl);subst e1;go_wp2
              go_ret
              exact⟨rfl,am.o⟩
             ·have dj:¬(0:Int)<(nr:Int):=by omega
              have an:=zq (ao.o (by rw[aG h0];rfl));go_wp2
              go_roundw
              ·exact⟨k+1,by omega,by go_num,an.o,trivial⟩
              ·simp[intOf];omega
           ·obtain rfl:k=2:=by omega
            have bl:d.v.any (fun t => t.wiped && decide (0<t.recs.length))=false:=by
             refine List.any_eq_false.2 fun x hx => ?_
             obtain⟨q,hq,rfl⟩:=aY hx;have h7:(!(d.v[q].wiped && decide (0<d.v[q].recs.length)))=true:=cf.o q hq (by rw[aq.o]at hq;exact hq);intro h9;have h8:(d.v[q].wiped && decide (0<d.v[q].recs.length))=true:=h9;rw[h8]at h7;exact absurd h7 zW
            have z:=zq (bq.o (cg.o.T (aJ (by rw[bl];exact Bool.false_ne_true))));clear bl;have eo:wr.cell? ⟨w.heap.size,12,none⟩=some (int i64 d.u):=(Blk.cell KW.o 12).T rfl;have ep:wr.cell? ⟨w.heap.size,13,none⟩=some (int i64 d.stop):=(Blk.cell KW.o 13).T rfl;cases hw:Ap d.u 0 1000000000 with
            |false =>
             rw[hw]at aw z;have e1:r=3:=z.o.T rfl;subst e1;clear hw;go_wp2_with (first|(go_at_call_has 78 d.u;refine(aw.o _).M ?_;rintro e w' ⟨rfl,rfl⟩)|(go_at_call_has 78 d.stop;refine(av.o _).M ?_;rintro e w' ⟨rfl,rfl⟩))
             go_ret
             exact⟨rfl,am.o⟩
            |true =>
             rw[hw]at aw z;clear hw;cases hw:Ap d.stop (-1) 1000000000 with
             |false =>
              rw[hw]at av z;have e1:r=3:=z.o.T rfl;subst e1;clear hw;go_wp2_with (first|(go_at_call_has 78 d.u;refine(aw.o _).M ?_;rintro e w' ⟨rfl,rfl⟩)|(go_at_call_has 78 d.stop;refine(av.o _).M ?_;rintro e w' ⟨rfl,rfl⟩))
              go_ret
              exact⟨rfl,am.o⟩
             |true =>
              rw[hw]at av z;have e1:r=0:=z.o.T rfl;subst e1;clear hw;go_wp2_with (first|(go_at_call_has 78 d.u;refine(aw.o _).M ?_;rintro e w' ⟨rfl,rfl⟩)|(go_at_call_has 78 d.stop;refine(av.o _).M ?_;rintro e w' ⟨rfl,rfl⟩))
              go_ret
              exact⟨rfl,am.o⟩
     ·have dm:((nT:Int) != 2)=true:=EE zZ;cases dn with
      |false =>
       exact(n.o (by rw[aG h2];cases ob <;> rfl)).elim
      |true =>
       exact(n.o (by rw[aG h2];cases ob <;> rfl)).elim
    ·have cm:d.s.cap<(nO:Int):=by omega
     have bb:decide ((nO:Int)<=d.s.sh.cap)=false:=aG bm;exact(n.o (by rw[ay.o];rw[bb];rfl)).elim
theorem Hx(d cs f w)(h:AF w f cs d):
  Calls prog 39 #[.agg cs] w (zN (int i64 (AI d)) w):=by
 cases hf:(BU d.s.sh d.g && (onB d.s.sh d.on d.down && decide (d.v.length=2)))with
 |false => exact La d (fun _ => hf) cs f w h
 |true =>
  cases hs:shB d.s.sh with
  |false => exact La d (fun c => by rw[hs]at c;cases c) cs f w h
  |true => exact Sq d ⟨hs,hf⟩ cs f w h
