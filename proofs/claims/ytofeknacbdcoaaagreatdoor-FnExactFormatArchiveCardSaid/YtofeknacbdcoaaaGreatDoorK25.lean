/- Part 25 of the proof. -/
import Derived.Test.YtofeknacbdcoaaaGreatDoorK24
import Derived.Test.YtofeknacbdcoaaaGreatDoorK23
import Derived.Test.YtofeknacbdcoaaaGreatDoorK09
import Derived.Test.YtofeknacbdcoaaaGreatDoorK19
set_option maxHeartbeats 8000000
set_option maxRecDepth 100000
set_option linter.unusedVariables false
set_option linter.unusedSimpArgs false
open Go.Proofs.Tryz
open Go.Value (int)
open Go.IntKind (i64)
namespace Go.Proofs.YtofeknacbdcoaaaGreatDoor
open Go.RowKit Go.Lib Go.Sort
theorem onOK_c(d:As)(hs:d.s.sh.Ok)(cs f w)(h:AF w f cs d):
  Calls prog 93 #[.agg cs] w (zN (.bool (onB d.s.sh d.on d.down)) w):=by
 dsimp only[AF]at h;obtain⟨v0,v1,v2,f0,f1,f2,rfl,-,o0,o1,o2,o3,o4,o5,o6,o7,o8,o9,bg,r0,r1,r2⟩:=h;obtain⟨A0,c0,rfl,m0,bd⟩:=rSl.head r0;obtain⟨A1,c1,rfl,m1,be⟩:=rSl.head r1;obtain⟨A2,c2,rfl,m2,bf⟩:=rSl.head r2;obtain⟨nG,aq⟩:∃nG,d.g.length=nG:=zJ;obtain⟨z,ar⟩:∃z,d.on.length=z:=zJ;obtain⟨nT,au⟩:∃nT,d.v.length=nT:=zJ;rw[aq]at r0 m0⊢;rw[ar]at r1 m1⊢;rw[au]at r2 m2⊢;obtain⟨a9,ag,ba⟩:=zI aq ar au;have ah:Below w w (w.alloc (.cells (zD d A0 nG c0 A1 z c1 A2 nT c2) 42)):=(aC _ _).alloc (aD _) _;have y:Blk (w.alloc (.cells (zD d A0 nG c0 A1 z c1 A2 nT c2) 42)) w 42 (zD d A0 nG c0 A1 z c1 A2 nT c2):=Blk.new _ _ _;obtain⟨K1,av,R0,R1,R2⟩:=zG y ah (rSl.B (Ai.L Ar.L) (Ai.X Ar.X) r0 ah) (rSl.B Aw.L Aw.X r1 ah) (rSl.B AE.L AE.X r2 ah);clear r0 r1 r2 ah y aq ar au;obtain⟨r,hr⟩:∃r,onB d.s.sh d.on d.down=r:=zJ;rw[hr];have aw:=zq hr;obtain⟨al,ao⟩:∃al,d.s.sh.g+d.s.sh.c - 1=al:=zJ;have af:=zq (fun(x:Int) (W:World) => Ik d.s.sh hs x W);rw[ao]at af;have am:=zq ao;obtain⟨A',c',e,a1,hm,hx⟩:=AW.open_ R1.o;injection e with e1 e2 e3
 subst e1 e3;clear e2;rw[ag.o]at a1;have HX:=zq hx;have ak:(w.alloc (.cells (zD d A0 nG c0 A1 z c1 A2 nT c2) 42)).cell? ⟨w.heap.size,10,none⟩=some (.slice A1 z c1):=(Blk.cell K1.o 10).T rfl;have zz:w.heap.size<(w.alloc (.cells (zD d A0 nG c0 A1 z c1 A2 nT c2) 42)).heap.size:=K1.o.lt;have HZ:=zq zz;unfold shV at af;clear hr hs ao hx zz;go_enter func93,ntmps93
 go_wp2_with fail
 clear ak;go_loopw [8,3,4] (fun i _ _ wr =>∃k:Nat,k<=z/\i=k/\Hid (Do d.on al k)/\Hid (Below (w.alloc (.cells (zD d A0 nG c0 A1 z c1 A2 nT c2) 42)).heap.size (w.alloc (.cells (zD d A0 nG c0 A1 z c1 A2 nT c2) 42)) wr)) (fun i _ _ _ => z - (intOf i).toNat)
 ·exact⟨0,by omega,rfl,Iz _ _,aC _ _⟩
 ·obtain⟨k,hk,rfl,HT,HB⟩:=hrel;have KW:=zq (K1.o.B HB.o K1.o.lt);have aa:wr.cell? ⟨w.heap.size,10,none⟩=some (.slice A1 z c1):=(Blk.cell KW.o 10).T rfl;have zw:w.heap.size<wr.heap.size:=KW.o.lt;have n:=zq (av.o.T (HB.o.M av.o.size));by_cases a2:k<z
  ·have y:k<d.on.length:=by rw[ag.o];exact a2
   obtain⟨ad,e1,-,b1,p1,-⟩:=HX.o k y;subst e1;have a4:=(HB.o.cell (p:=ad.add k) b1).T p1;have bc:(k:Int)<(z:Int):=by omega
   have a5:(k:Int)<=(z:Int):=by omega
   have a6:(k:Int)<=(c1:Int):=by omega
   have bb:k<=c1:=by omega
   obtain⟨x,hx⟩:∃x,d.on[k] =x:=zJ;rw[hx]at a4;obtain⟨q1,q2,hp,-,-⟩:=rSl.split (j:=k) R1.o (by rw[ag.o];omega);obtain⟨ai,ae,an,ab⟩:=zH (fun(W:World) (hW:Below wr wr W) => Fi _ (d.on.take k) x q1 W (rSl.B Aw.L Aw.X hp (HB.o.T (hW.M HB.o.size)))) (af.o x) (Blk.range KW.o 0 d.s rfl) (fun(h:DA d.on al=false) => show r=false from by rw[<-aw.o];unfold onB;rw[am.o,h];rfl);cases hin:Ap x 0 al with
   |true =>
    rw[hin]at ae;cases hme:decide (x∈d.on.take k)with
    |false =>
     rw[hme]at ai;have a0:=zq (Iy HT.o y (by rw[hx];exact hin) (by rw[hx];exact of_decide_eq_false hme));clear hx p1 b1 hp hin hme y;go_wp2_with (first
      |(refine aE rfl 38 _ rfl w 0 rfl _ _ an.o underlying38 rfl zY ?_)
      |(go_at_call 147;refine(ae.o _).M ?_;rintro e w3 ⟨rfl,b3⟩;have B3:=zq b3;have ak:=(b3.cell (p:=⟨w.heap.size,10,none⟩) zw).T aa;have az:w.heap.size<w3.heap.size:=aH zw b3.size;clear b3)
      |(go_at_call 148;refine(ai.o _ B3.o).M ?_;rintro e w4 ⟨rfl,b4⟩;have B4:=zq b4;clear b4))
     go_roundw
     ·exact⟨k+1,by omega,by go_num,a0.o,HB.o.T ((B3.o.T (B4.o.M B3.o.size)).M HB.o.size)⟩
     ·simp[intOf];omega
    |true =>
     rw[hme]at ai;have e1:r=false:=ab.o (I7 y (.inr (by rw[hx];exact bE hme)));subst e1;clear hx p1 b1 hp hin hme y;go_wp2_with (first
      |(refine aE rfl 38 _ rfl w 0 rfl _ _ an.o underlying38 rfl zY ?_)
      |(go_at_call 147;refine(ae.o _).M ?_;rintro e w3 ⟨rfl,b3⟩;have B3:=zq b3;have ak:=(b3.cell (p:=⟨w.heap.size,10,none⟩) zw).T aa;have az:w.heap.size<w3.heap.size:=aH zw b3.size;clear b3)
      |(go_at_call 148;refine(ai.o _ B3.o).M ?_;rintro e w4 ⟨rfl,b4⟩;have B4:=zq b4;clear b4))
     go_ret
     exact⟨rfl,n.o.T ((B3.o.T (B4.o.M B3.o.size)).M n.o.size)⟩
   |false =>
    rw[hin]at ae;have e1:r=false:=ab.o (I7 y (.inl (by rw[hx];exact hin)));subst e1;clear hx p1 b1 hp hin y;go_wp2_with (first
      |(refine aE rfl 38 _ rfl w 0 rfl _ _ an.o underlying38 rfl zY ?_)
      |(go_at_call 147;refine(ae.o _).M ?_;rintro e w3 ⟨rfl,b3⟩;have B3:=zq b3;have ak:=(b3.cell (p:=⟨w.heap.size,10,none⟩) zw).T aa;have az:w.heap.size<w3.heap.size:=aH zw b3.size;clear b3))
    go_ret
    exact⟨rfl,n.o.T (B3.o.M n.o.size)⟩
  ·obtain rfl:k=z:=by omega
   have ax:=Od (l:=d.on) (hi:=al) (by rw[ag.o];exact HT.o);have ay:r=(decide ((k:Int)<=d.s.cap) && (decide (k=0)||!d.down)):=by
    rw[<-aw.o];unfold onB;rw[am.o,ax,ag.o];rfl
   have ab:=zq ay;clear ax ay;have u5:=aB (show wr.cell? ⟨w.heap.size,5,none⟩=some (int i64 d.s.cap)from(Blk.cell KW.o 5).T rfl);have bh:=aB aa;have QS:=zq (Bv (w:=wr) (fun W => TS A1 k c1 W));obtain⟨dn,ap⟩:∃dn,d.down=dn:=zJ;have bi:=aB (show wr.cell? ⟨w.heap.size,14,none⟩=some (.bool dn)from(Blk.cell KW.o 14).T (by rw[<-ap];rfl));rw[ap]at ab;clear ap aa;by_cases aj:(k:Int)<=d.s.cap
   ·by_cases hz:k=0
    ·have a3:((k:Int) == 0)=true:=by rw[hz];rfl
     have e1:r=true:=by rw[ab.o,aN aj,aN hz];rfl
     subst e1;clear hz;go_wp2_with fail
     (refine aF zY zY ?_;(repeat go_big_quiet_step (first|(go_at_call 149;exact QS.o _ _)));refine aQ ?_)
     rintro _ ⟨⟨dq,osq⟩,rfl⟩;have ac:=zq (n.o.T ((aI _ dq osq).M n.o.size));go_wp2
     go_ret
     exact⟨rfl,ac.o⟩
    ·have a3:((k:Int) == 0)=false:=by simpa using hz
     have e1:r= !dn:=by rw[ab.o,aN aj,aG hz];rfl
     subst e1;clear hz;go_wp2_with fail
     (refine aF zY zY ?_;(repeat go_big_quiet_step (first|(go_at_call 149;exact QS.o _ _)));refine aQ ?_)
     rintro _ ⟨⟨dq,osq⟩,rfl⟩;have ac:=zq (n.o.T ((aI _ dq osq).M n.o.size));go_wp2
     go_ret
     exact⟨rfl,ac.o⟩
   ·have e1:r=false:=by rw[ab.o,aG aj];rfl
    subst e1;have a7:decide ((k:Int)<=d.s.cap)=false:=aG aj;have a8:d.s.cap<(k:Int):=by omega
    go_wp2_with fail
    (refine aF zY zY ?_;(repeat go_big_quiet_step (first|(go_at_call 149;exact QS.o _ _)));refine aQ ?_)
    rintro _ ⟨⟨dq,osq⟩,rfl⟩;have ac:=zq (n.o.T ((aI _ dq osq).M n.o.size));go_wp2
    go_ret
    exact⟨rfl,ac.o⟩
theorem RU(t cs f w)(h:AE w f cs t):
  Calls prog 151 #[.agg cs] w (zN (.bool (decide (200<t.recs.length))) w):=by
 obtain⟨p,o,rfl,-,c⟩:=h;obtain⟨l,c0,rfl,-⟩:=rSl.head c;clear c;obtain⟨n,hn⟩:∃n,t.recs.length=n:=zJ;rw[hn];clear hn;by_cases h:200<n
 ·have i:(200:Int)<(n:Int):=by omega
  rw[aN h];clear h;go_enter func151,ntmps151
  go_wp2
  go_ret
  exact⟨rfl,(aC _ _).alloc (aD _) _⟩
 ·have i:¬(200:Int)<(n:Int):=by omega
  rw[aG h];clear h;go_enter func151,ntmps151
  go_wp2
  go_ret
  exact⟨rfl,(aC _ _).alloc (aD _) _⟩
theorem Qs(t cs f w)(h:AE w f cs t):
  Calls prog 153 #[.agg cs] w (zN (.bool (t.wiped && decide (0<t.recs.length))) w):=by
 obtain⟨q,p,rfl,-,l⟩:=h;obtain⟨o,c0,rfl,-⟩:=rSl.head l;clear l;obtain⟨n,hn⟩:∃n,t.recs.length=n:=zJ;obtain⟨i,c⟩:∃i,t.wiped=i:=zJ;rw[hn,c];clear hn c;cases i with
 |false =>
  go_enter func153,ntmps153
  go_wp2
  go_ret
  exact⟨rfl,(aC _ _).alloc (aD _) _⟩
 |true =>
  go_enter func153,ntmps153
  go_wp2
  go_ret
  exact⟨by rw[Bool.true_and];rfl,(aC _ _).alloc (aD _) _⟩
theorem Pu(d:As)(a6:shB d.s.sh=true)(cs f w)(h:AF w f cs d):
  Calls prog 94 #[.agg cs] w (zN (int i64 (BG d.s.sh d.v)) w):=by
 dsimp only[AF]at h;obtain⟨v0,v1,v2,f0,f1,f2,rfl,-,o0,o1,o2,o3,o4,o5,o6,o7,o8,o9,b6,r0,r1,r2⟩:=h;obtain⟨A0,c0,rfl,m0,b1⟩:=rSl.head r0;obtain⟨A1,c1,rfl,m1,b4⟩:=rSl.head r1;obtain⟨A2,c2,rfl,m2,b5⟩:=rSl.head r2;obtain⟨nG,a3⟩:∃nG,d.g.length=nG:=zJ;obtain⟨nO,a4⟩:∃nO,d.on.length=nO:=zJ;obtain⟨nT,a5⟩:∃nT,d.v.length=nT:=zJ;rw[a3]at r0 m0⊢;rw[a4]at r1 m1⊢;rw[a5]at r2 m2⊢;obtain⟨bt,bu,ax⟩:=zI a3 a4 a5;have aj:Below w w (w.alloc (.cells (zD d A0 nG c0 A1 nO c1 A2 nT c2) 42)):=(aC _ _).alloc (aD _) _;have ac:Blk (w.alloc (.cells (zD d A0 nG c0 A1 nO c1 A2 nT c2) 42)) w 42 (zD d A0 nG c0 A1 nO c1 A2 nT c2):=Blk.new _ _ _;obtain⟨K1,y,R0,R1,R2⟩:=zG ac aj (rSl.B (Ai.L Ar.L) (Ai.X Ar.X) r0 aj) (rSl.B Aw.L Aw.X r1 aj) (rSl.B AE.L AE.X r2 aj);clear r0 r1 r2 aj ac a3 a4 a5;obtain⟨r,hr⟩:∃r,BG d.s.sh d.v=r:=zJ;rw[hr];obtain⟨ay,bb,HM,be⟩:=zH hr (fun(x:Aj) (cs:List Value) (f:List Addr) (W:World) (hR:Af W f cs x) => Te d.s.sh a6 x cs f W hR) (IW 2 zZ sizeOf148 isAgg148 (fun t => decide (200<t.recs.length)) 151 #[] _ d.v _ (w.alloc (.cells (zD d A0 nG c0 A1 nO c1 A2 nT c2) 42)) (enters_of func151 zY rfl) R2.o (fun W2 cs fk j hj af hR => RU d.v[j] cs fk W2 hR)) (fun(W:World) (hW:Below (w.alloc (.cells (zD d A0 nG c0 A1 nO c1 A2 nT c2) 42)).heap.size (w.alloc (.cells (zD d A0 nG c0 A1 nO c1 A2 nT c2) 42)) W) => IW 2 zZ sizeOf148 isAgg148 (fun t => t.wiped && decide (0<t.recs.length)) 153 #[] _ d.v _ W (enters_of func153 zY rfl) (rSl.B AE.L AE.X R2.o hW) (fun W2 cs fk j hj af hR => Qs d.v[j] cs fk W2 hR));unfold shV at bb;have an:(w.alloc (.cells (zD d A0 nG c0 A1 nO c1 A2 nT c2) 42)).cell? ⟨w.heap.size,11,none⟩=some (.slice A2 nT c2):=(Blk.cell K1.o 11).T rfl;have zz:w.heap.size<(w.alloc (.cells (zD d A0 nG c0 A1 nO c1 A2 nT c2) 42)).heap.size:=K1.o.lt;cases hmany:d.v.any (fun t => decide (200<t.recs.length))with
 |true =>
  rw[hmany]at HM;have e1:r=2:=by rw[<-ay.o];exact Gr hmany
  subst e1;clear hr a6 hmany;go_enter func94,ntmps94
  go_wp2_with (go_at_call 150;refine HM.o.M ?_;rintro e w2 ⟨rfl,b2⟩;have B2:=zq b2;clear b2)
  go_ret
  exact⟨rfl,y.o.T (B2.o.M y.o.size)⟩
 |false =>
  rw[hmany]at HM;have ah:=zq hmany;clear hr a6 hmany;obtain⟨A',c',e,bp,hm,hx⟩:=rSl.at_ AE.X zW R2.o;injection e with e1 e2 e3
  subst e1 e3;clear e2;have HX:=zq hx;clear hx hm;rw[ax.o]at bp;go_enter func94,ntmps94
  go_wp2_with (go_at_call 150;refine HM.o.M ?_;rintro e w2 ⟨rfl,b2⟩;have B2:=zq b2;have an:=(b2.cell (p:=⟨w.heap.size,11,none⟩) zz).T an;have z2:w.heap.size<w2.heap.size:=aH zz b2.size;clear b2)
  have bo:=zq (y.o.T (B2.o.M y.o.size));clear an;generalize(w.alloc (.cells (zD d A0 nG c0 A1 nO c1 A2 nT c2) 42))=w1 at be K1 y R0 R1 R2 HX B2 zz HM;go_loopw [14,4,6,7] (fun i _ _ _ wr =>∃k:Nat,k<=nT/\i=k/\Hid (CR d.s.sh d.v k)/\Hid (Below w1 w1 wr)) (fun i _ _ _ _ => nT - (intOf i).toNat)
  ·exact⟨0,by omega,rfl,CR.zero _ _,B2.o⟩
  ·obtain⟨k,hk,rfl,HT,HB⟩:=hrel;clear bo;have am:=zq (y.o.T (HB.o.M y.o.size));have zw:w.heap.size<wr.heap.size:=aH zz HB.o.size;by_cases bq:k<nT
   ·have ac:k<d.v.length:=by rw[ax.o];exact bq
    have bz:(k:Int)<(nT:Int):=by omega
    obtain⟨ad,b,o,cs,fk,rfl,ab⟩:=HX.o k ac;have l:=ab.B AE.L HB.o;have bg:=ab.place;have bx:=l.lt;obtain⟨v3,g3,e3,-,bi⟩:=l.reads;subst e3;have y0:=l.cell 0 zX;have y1:=l.cell 1 zX;simp only[bC,aW,bF]at y0 y1;obtain⟨A3,c3,rfl,bf,bs,bn⟩:=rSl.at_ Af.X zW bi;have ai:=zq (HT.o.step ac);have ap:=zq (fun(h:Bi d.s.sh d.v[k].recs≠0) => show r=Bi d.s.sh d.v[k].recs from by
     have h2:=HT.o.bad ac h;rw[<-ay.o,JG ah.o (by rw[h2];exact h),h2])
    have HY:=zq bn;obtain⟨tw,bl⟩:∃tw,d.v[k].wiped =tw:=zJ;rw[bl]at y0;obtain⟨rs,bk⟩:∃rs,d.v[k].recs =rs:=zJ;rw[bk]at y1 bf ai ap HY;clear ab l bi bn bl bk ac;go_wp2_with fail
    have a2:Hid (Below w1 w1 (wr.alloc (.cells #[.bool tw,.slice A3 rs.length c3] 148))):=HB.o.alloc HB.o.size _;have a7:Hid (Below wr wr (wr.alloc (.cells #[.bool tw,.slice A3 rs.length c3] 148))):=(aC _ _).alloc (aD _) _;obtain⟨wt,bm⟩:∃wt,wr.alloc (.cells #[.bool tw,.slice A3 rs.length c3] 148)=wt:=zJ;rw[bm]at a2 a7⊢;obtain⟨w8,rfl⟩:∃w8,w8=wr:=zJ;clear bm y0 y1 bg;go_loopw [21,6,7] (fun i _ _ wr =>∃i':Nat,i'<=rs.length/\i=i'/\Hid (Co (fun x => decide (AJ d.s.sh x=0)) rs i')/\Hid (Below w1 w1 wr)/\Hid (Below w8 w8 wr)) (fun i _ _ _ => rs.length - (intOf i).toNat)
    ·exact⟨0,by omega,rfl,Co.zero _ _,a2.o,a7.o⟩
    ·clear a2 a7;obtain⟨i,hi,rfl,a0,aw,av⟩:=hrel;by_cases al:i<rs.length
     ·obtain⟨bw,b3,o3,n,f3,rfl,ab⟩:=HY.o i al;have l:=ab.B Af.L av.o;have bg:=ab.place;have br:=l.lt;have aa:n.length=9:=l.len;have HR:=zq (show wr.rangeAt b3 o3 n from fun q v hq => by
       have bh:q<n.length:=(List.getElem?_eq_some_iff.1 hq).1;rw[l.cell q bh,<-hq];exact(aO bh).symm)
      obtain⟨HI,a8,a9⟩:=zI (show(prog.info? 105).map (·.size)=some n.length by rw[aa];kernel_rfl) (show(prog.info? 105).map (·.size)=some n.toArray.size by rw[bD,aa];kernel_rfl) (all_oneCell_toArray (Af.ones _ _ _ _ l.reads));obtain⟨Z,hZ⟩:∃Z:Array Value,#[int i64 0,(),.string ⟨#[]⟩,(),(),(),zQ,zQ,zQ] =Z:=zJ;have a1:Z.size=9:=by rw[<-hZ];rfl
      have KZ:=Blk.new wr 105 Z;have bc:=zq (Blk.there KZ n.toArray.size (by rw[bD,aa,a1];exact aD _));obtain⟨W2,af⟩:∃W2,(wr.alloc (.cells Z 105)).setCells wr 0 n.toArray.toList=W2:=zJ;have K2:=zq (show Blk W2 wr 105 n.toArray by rw[<-af];exact Blk.laid KZ _ (by rw[a1];exact aa.symm));have B2:=zq (show Below wr wr W2 by rw[<-af];exact AS (Ac (aC _ _) _) _ 0 (aD _));obtain⟨bv,bd,z,ao,ba⟩:=zG (show wr.heap.size<W2.heap.size from K2.o.lt) af (aw.o.T (B2.o.M aw.o.size)) (av.o.T (B2.o.M av.o.size)) (Blk.rangeAll K2.o);have aq:=zq (Blk.range (K1.o.B z.o K1.o.lt) 0 d.s rfl);have HC:=zq (bb.o rs[i] n f3 W2 (AC.B Af.L Af.X l.reads B2.o));have ag:=zq (fun(h:AJ d.s.sh rs[i]≠0) => show r=AJ d.s.sh rs[i]from by
       have h2:=Jg al a0.o h;rw[ap.o (by rw[h2];exact h),h2])
      have ar:=zq (fun(h:AJ d.s.sh rs[i] =0) => a0.o.step al (aN h));obtain⟨rc,bj⟩:∃rc,AJ d.s.sh rs[i] =rc:=zJ;rw[bj]at HC ag ar;clear ab l af KZ bj aa a1;by_cases h0:rc=0
      ·have az:=zq (ar.o h0);subst h0;go_wp2_with (first
        |(refine aE rfl 105 (.tmp 23) rfl b3 o3 rfl n _ HR.o underlying105 rfl HI.o ?_)
        |(refine aV rfl 105 (.tmp 6) (.tmp 24) rfl wr 0 n.toArray rfl rfl bc.o a8.o a9.o ?_;rw[bd.o])
        |(refine aE rfl 38 _ rfl w 0 rfl _ _ aq.o underlying38 rfl zY ?_)
        |(refine aE rfl 105 (.tmp 6) rfl wr 0 rfl n _ ba.o underlying105 rfl HI.o ?_)
        |(go_at_call 152;refine HC.o.M ?_;rintro e w3 ⟨rfl,ak⟩;have B3:=zq ak;clear ak))
       go_roundw
       ·exact⟨i+1,by omega,by go_num,az.o,z.o.T (B3.o.M z.o.size),ao.o.T (B3.o.M ao.o.size)⟩
       ·simp[intOf];omega
      ·have e1:r=rc:=ag.o h0;subst e1;have b0:(r != 0)=true:=EE h0;go_wp2_with (first
        |(refine aE rfl 105 (.tmp 23) rfl b3 o3 rfl n _ HR.o underlying105 rfl HI.o ?_)
        |(refine aV rfl 105 (.tmp 6) (.tmp 24) rfl wr 0 n.toArray rfl rfl bc.o a8.o a9.o ?_;rw[bd.o])
        |(refine aE rfl 38 _ rfl w 0 rfl _ _ aq.o underlying38 rfl zY ?_)
        |(refine aE rfl 105 (.tmp 6) rfl wr 0 rfl n _ ba.o underlying105 rfl HI.o ?_)
        |(go_at_call 152;refine HC.o.M ?_;rintro e w3 ⟨rfl,ak⟩;have B3:=zq ak;clear ak))
       go_ret
       exact⟨rfl,y.o.T ((z.o.T (B3.o.M z.o.size)).M y.o.size)⟩
     ·obtain rfl:i=rs.length:=by omega
      have az:=zq (ai.o (JV a0.o));go_wp2
      go_roundw
      ·exact⟨k+1,by omega,by go_num,az.o,aw.o⟩
      ·simp[intOf];omega
   ·obtain rfl:k=nT:=by omega
    have au:Bi d.s.sh (d.v.flatMap Be.recs)=0:=CR.all (by rw[ax.o];exact HT.o);have ae:=zq (ay.o.symm.T (JF ah.o au));have an:wr.cell? ⟨w.heap.size,11,none⟩=some (.slice A2 k c2):=(HB.o.cell (p:=⟨w.heap.size,11,none⟩) zz).T ((Blk.cell K1.o 11).T rfl);have HW:=zq (be.o wr HB.o);clear au;cases hany:d.v.any (fun t => t.wiped && decide (0<t.recs.length))with
    |true =>
     rw[hany]at ae HW;have e1:r=1:=ae.o.T rfl;subst e1;clear hany;go_wp2_with (go_at_call 150;refine HW.o.M ?_;rintro e w2 ⟨rfl,b2⟩;have B4:=zq b2;clear b2)
     go_ret
     exact⟨rfl,am.o.T (B4.o.M am.o.size)⟩
    |false =>
     rw[hany]at ae HW;have e1:r=0:=ae.o.T rfl;subst e1;clear hany;go_wp2_with (go_at_call 150;refine HW.o.M ?_;rintro e w2 ⟨rfl,b2⟩;have B4:=zq b2;clear b2)
     go_ret
     exact⟨rfl,am.o.T (B4.o.M am.o.size)⟩
theorem Lj(d cs f w)(h:AF w f cs d):
  Calls prog 54 #[.agg cs] w (zN (int i64 (AI d)) w):=by
 have am:=h;dsimp only[AF]at h;obtain⟨v0,v1,v2,f0,f1,f2,rfl,-,o0,o1,o2,o3,o4,o5,o6,o7,o8,o9,bf,r0,r1,r2⟩:=h;obtain⟨A0,c0,rfl,m0,bc⟩:=rSl.head r0;obtain⟨A1,c1,rfl,m1,bd⟩:=rSl.head r1;obtain⟨A2,c2,rfl,m2,be⟩:=rSl.head r2;obtain⟨nG,ag⟩:∃nG,d.g.length=nG:=zJ;obtain⟨nO,ah⟩:∃nO,d.on.length=nO:=zJ;obtain⟨z,ai⟩:∃z,d.v.length=z:=zJ;rw[ag]at r0 m0⊢;rw[ah]at r1 m1⊢;rw[ai]at r2 m2⊢;rw[ag,ah,ai]at am;obtain⟨ak,a8,a9,a2⟩:=zH am ag ah ai;have ae:Below w w (w.alloc (.cells (zD d A0 nG c0 A1 nO c1 A2 z c2) 42)):=(aC _ _).alloc (aD _) _;have aw:Blk (w.alloc (.cells (zD d A0 nG c0 A1 nO c1 A2 z c2) 42)) w 42 (zD d A0 nG c0 A1 nO c1 A2 z c2):=Blk.new _ _ _;obtain⟨K1,a1,R0,R1,R2⟩:=zG aw ae (rSl.B (Ai.L Ar.L) (Ai.X Ar.X) r0 ae) (rSl.B Aw.L Aw.X r1 ae) (rSl.B AE.L AE.X r2 ae);clear am r0 r1 r2 ae aw ag ah ai;have K2:=K1;have B2:=a1;obtain⟨r,hr⟩:∃r,AI d=r:=zJ;rw[hr];obtain⟨af,aa,ar,ac,ab⟩:=zG hr (Li d.s.sh (w.alloc (.cells (zD d A0 nG c0 A1 nO c1 A2 z c2) 42))) (Blk.range K1.o 0 d.s rfl) (fun(W:World) => By d.u 0 1000000000 W) (fun(W:World) => By d.stop (-1) 1000000000 W);clear hr;cases hsb:shB d.s.sh with
 |false =>
  rw[Ip hsb]at aa;have e1:r=3:=by rw[<-af.o];exact Iu hsb
  subst e1;unfold shV at aa;clear hsb;go_enter func54,ntmps54
  go_wp2_with (refine aE rfl 38 _ rfl w 0 rfl _ _ ar.o underlying38 rfl zY ?_)
  refine aa.o.M ?_;rintro e w3 ⟨rfl,b3⟩;have K3:=zq (K2.o.B b3 K2.o.lt);have B3:=zq (B2.o.T (b3.M B2.o.size));have z3:w.heap.size<w3.heap.size:=K3.o.lt;have aq:=zq (Blk.range K3.o 0 (zD d A0 nG c0 A1 nO c1 A2 z c2) rfl);clear b3;go_wp2
  go_ret
  exact⟨rfl,B3.o⟩
 |true =>
  rw[CL hsb]at aa;have hs:=De hsb;obtain⟨ao,ap,au,l,x,n⟩:=zF (fun(W:World) (hW:Below w w W) => RD d hs _ _ W (AC.B AF.L AF.X ak.o hW)) (fun(W:World) (hW:Below w w W) => onOK_c d hs _ _ W (AC.B AF.L AF.X ak.o hW)) (fun(W:World) (hW:Below w w W) => Pu d hsb _ _ W (AC.B AF.L AF.X ak.o hW)) (fun h2 => af.o.symm.T (I4 (d:=d) hsb h2)) (fun h2 h3 => af.o.symm.T (Gd (d:=d) hsb h2 h3)) (fun h2 h3 => af.o.symm.T (GV (d:=d) hsb h2 h3));unfold shV at aa;obtain⟨gb,av⟩:∃gb,BU d.s.sh d.g=gb:=zJ;obtain⟨ob,ax⟩:∃ob,onB d.s.sh d.on d.down=ob:=zJ;obtain⟨tc,ay⟩:∃tc,BG d.s.sh d.v=tc:=zJ;rw[av]at ao l x n;rw[ax]at ap l x n;rw[ay]at au x n;rw[a2.o]at l x n;clear hsb hs av ax ay;go_enter func54,ntmps54
  go_wp2_with (refine aE rfl 38 _ rfl w 0 rfl _ _ ar.o underlying38 rfl zY ?_)
  refine aa.o.M ?_;rintro e w3 ⟨rfl,b3⟩;have K3:=zq (K2.o.B b3 K2.o.lt);have B3:=zq (B2.o.T (b3.M B2.o.size));have z3:w.heap.size<w3.heap.size:=K3.o.lt;have aq:=zq (Blk.range K3.o 0 (zD d A0 nG c0 A1 nO c1 A2 z c2) rfl);clear b3;go_wp2_with (refine aE rfl 42 _ rfl w 0 rfl _ _ aq.o underlying42 rfl zY ?_)
  refine(ao.o _ B3.o).M ?_;rintro e w4 ⟨rfl,b4⟩;have y:=zq (K3.o.B b4 K3.o.lt);have B4:=zq (B3.o.T (b4.M B3.o.size));have z4:w.heap.size<w4.heap.size:=y.o.lt;have a3:=zq (Blk.range y.o 0 (zD d A0 nG c0 A1 nO c1 A2 z c2) rfl);clear b4;have p0:w4.cell? ⟨w.heap.size,0,none⟩=some (int i64 d.s.g):=(Blk.cell y.o 0).T rfl;have p1:w4.cell? ⟨w.heap.size,1,none⟩=some (int i64 d.s.c):=(Blk.cell y.o 1).T rfl;have p2:w4.cell? ⟨w.heap.size,2,none⟩=some (int i64 d.s.data):=(Blk.cell y.o 2).T rfl;have p3:w4.cell? ⟨w.heap.size,3,none⟩=some (int i64 d.s.p):=(Blk.cell y.o 3).T rfl;have p4:w4.cell? ⟨w.heap.size,4,none⟩=some (int i64 d.s.rows):=(Blk.cell y.o 4).T rfl;have p5:w4.cell? ⟨w.heap.size,5,none⟩=some (int i64 d.s.cap):=(Blk.cell y.o 5).T rfl;have p6:w4.cell? ⟨w.heap.size,6,none⟩=some (int i64 d.s.b):=(Blk.cell y.o 6).T rfl;have p7:w4.cell? ⟨w.heap.size,7,none⟩=some (int i64 d.s.q):=(Blk.cell y.o 7).T rfl;have p8:w4.cell? ⟨w.heap.size,8,none⟩=some (int i64 d.s.t):=(Blk.cell y.o 8).T rfl;have p9:w4.cell? ⟨w.heap.size,9,none⟩=some (.slice A0 nG c0):=(Blk.cell y.o 9).T rfl;have a6:w4.cell? ⟨w.heap.size,10,none⟩=some (.slice A1 nO c1):=(Blk.cell y.o 10).T rfl;have an:w4.cell? ⟨w.heap.size,11,none⟩=some (.slice A2 z c2):=(Blk.cell y.o 11).T rfl;have az:w4.cell? ⟨w.heap.size,12,none⟩=some (int i64 d.u):=(Blk.cell y.o 12).T rfl;have a0:w4.cell? ⟨w.heap.size,13,none⟩=some (int i64 d.stop):=(Blk.cell y.o 13).T rfl;have a7:w4.cell? ⟨w.heap.size,14,none⟩=some (.bool d.down):=(Blk.cell y.o 14).T rfl;cases gb with
  |false =>
   have e1:r=1:=l.o rfl;subst e1;go_wp2
   go_ret
   exact⟨rfl,B4.o⟩
  |true =>
   go_wp2_with (refine aE rfl 42 _ rfl w 0 rfl _ _ a3.o underlying42 rfl zY ?_)
   refine(ap.o _ B4.o).M ?_;rintro e w5 ⟨rfl,b5⟩;have K5:=zq (y.o.B b5 y.o.lt);have B5:=zq (B4.o.T (b5.M B4.o.size));have z5:w.heap.size<w5.heap.size:=K5.o.lt;have a4:=zq (Blk.range K5.o 0 (zD d A0 nG c0 A1 nO c1 A2 z c2) rfl);clear b5;clear p0 p1 p2 p3 p4 p5 p6 p7 p8 p9 a6 an az a0 a7;have an:w5.cell? ⟨w.heap.size,11,none⟩=some (.slice A2 z c2):=(Blk.cell K5.o 11).T rfl;cases ob with
   |false =>
    have e1:r=1:=l.o rfl;subst e1;go_wp2
    go_ret
    exact⟨rfl,B5.o⟩
   |true =>
    by_cases h2:z=2
    ·have a5:((z:Int) != 2)=false:=Db zZ;have ad:(true && (true && decide (z=2)))=true:=by rw[aN h2];rfl
     have al:=zq (x.o ad);have aj:=zq (n.o ad);clear h2 ad x n l;go_wp2_with (refine aE rfl 42 _ rfl w 0 rfl _ _ a4.o underlying42 rfl zY ?_)
     refine(au.o _ B5.o).M ?_;rintro e w6 ⟨rfl,b6⟩;have K6:=zq (K5.o.B b6 K5.o.lt);have B6:=zq (B5.o.T (b6.M B5.o.size));have z6:w.heap.size<w6.heap.size:=K6.o.lt;have ba:=zq (Blk.range K6.o 0 (zD d A0 nG c0 A1 nO c1 A2 z c2) rfl);clear b6;clear an;have az:w6.cell? ⟨w.heap.size,12,none⟩=some (int i64 d.u):=(Blk.cell K6.o 12).T rfl;have a0:w6.cell? ⟨w.heap.size,13,none⟩=some (int i64 d.stop):=(Blk.cell K6.o 13).T rfl;by_cases h3:tc=0
     ·have i:=zq (aj.o h3);subst h3;cases hw:Ap d.u 0 1000000000 with
      |false =>
       rw[hw]at ac i;have e1:r=3:=i.o.T rfl;subst e1;clear hw;go_wp2_with (first|(go_at_call_has 95 d.u;refine(ac.o _).M ?_;rintro e w' ⟨rfl,rfl⟩)|(go_at_call_has 95 d.stop;refine(ab.o _).M ?_;rintro e w' ⟨rfl,rfl⟩))
       go_ret
       exact⟨rfl,B6.o⟩
      |true =>
       rw[hw]at ac i;clear hw;cases hw:Ap d.stop (-1) 1000000000 with
       |false =>
        rw[hw]at ab i;have e1:r=3:=i.o.T rfl;subst e1;clear hw;go_wp2_with (first|(go_at_call_has 95 d.u;refine(ac.o _).M ?_;rintro e w' ⟨rfl,rfl⟩)|(go_at_call_has 95 d.stop;refine(ab.o _).M ?_;rintro e w' ⟨rfl,rfl⟩))
        go_ret
        exact⟨rfl,B6.o⟩
       |true =>
        rw[hw]at ab i;have e1:r=0:=i.o.T rfl;subst e1;clear hw;go_wp2_with (first|(go_at_call_has 95 d.u;refine(ac.o _).M ?_;rintro e w' ⟨rfl,rfl⟩)|(go_at_call_has 95 d.stop;refine(ab.o _).M ?_;rintro e w' ⟨rfl,rfl⟩))
        go_ret
        exact⟨rfl,B6.o⟩
     ·have e1:r=tc:=al.o h3;subst e1;have bb:(r != 0)=true:=EE h3;go_wp2
      go_ret
      exact⟨rfl,B6.o⟩
    ·have a5:((z:Int) != 2)=true:=EE zZ;have e1:r=1:=l.o (by rw[aG h2];rfl);subst e1;go_wp2
     go_ret
     exact⟨rfl,B5.o⟩
theorem So(s:Sh)(ap:shB s=true)(x cs f w)(h:Af w f cs x)(hk:x.kind=3)(hq:Ap x.seq 1 1000000000=true):
  Calls prog 77 #[shV s,.agg cs] w fun e w' => e= .returned (int i64 (if Ap x.group 0 (s.g+s.c - 1)=true then(if BY x.name x.length 0 x.row x.rows.length x.data.length x.delta.length=true then 0 else 1)else 3))/\Below w w w':=by
 have ao:=h;dsimp only[Af]at h;obtain⟨v0,v1,v2,f0,f1,f2,rfl,rfl,o0,o1,o2,o3,o4,o5,h0,h1,h2⟩:=h;obtain⟨A0,c0,rfl,k0,m0⟩:=rSl.head h0;obtain⟨A1,c1,rfl,k1,m1⟩:=rSl.head h1;obtain⟨A2,c2,rfl,k2,m2⟩:=rSl.head h2;obtain⟨H0,H1,H2⟩:=zI h0 h1 h2;obtain⟨z,an⟩:∃z,x.rows.length=z:=zJ;obtain⟨u,ak⟩:∃u,x.data.length=u:=zJ;obtain⟨y,am⟩:∃y,x.delta.length=y:=zJ;obtain⟨a6,a4,a5⟩:=zI an ak am;rw[an]at H0 k0⊢;rw[ak]at H1 k1⊢;rw[am]at H2 k2⊢;have K1:=(Blk.new w 38 s).alloc (.cells (yZ x A0 z c0 A1 u c1 A2 y c2) 105);have K2:=Blk.new1 w (.cells s 38) 105 (yZ x A0 z c0 A1 u c1 A2 y c2);have hB:Below w w ((w.alloc (.cells s 38)).alloc (.cells (yZ x A0 z c0 A1 u c1 A2 y c2) 105)):=((aC _ _).alloc (aD _) _).alloc zX _;have HB:=zq hB;have S2:=Cn.of K1;have R2:=DC.of K2;have HS:=zq S2;have a9:=zq R2;clear h0 h1 h2 an ak am K1 K2 hB;rw[a6.o,a4.o,a5.o]at ao;have hs:=De ap;obtain⟨d3,d4⟩:=hs.g;obtain⟨d5,d6⟩:=hs.c;have af:=zq (Cd s ((w.alloc (.cells s 38)).alloc (.cells (yZ x A0 z c0 A1 u c1 A2 y c2) 105)));rw[CL ap]at af;have au:=zq (fun(W:World) => BD x.kind 1 4 W);have av:=zq (fun(W:World) => BD x.seq 1 1000000000 W);rw[show Ap x.kind 1 4=true by rw[hk];rfl]at au;rw[hq]at av;have ae:=zq (fun(W:World) => EN s hs W);obtain⟨r,hr⟩:∃r:Int,(if Ap x.group 0 (s.g+s.c - 1)=true then(if BY x.name x.length 0 x.row z u y=true then 0 else 1)else 3)=r:=zJ;rw[hr];have ac:=zq hr;obtain⟨al,ay⟩:∃al,s.g+s.c=al:=zJ;rw[ay]at ae ac;have ew:IntKind.i64.wrap (al - 1)=al - 1:=IntWalk.i64_in _ zZ;have ar:=zq (fun(W:World) => BD x.group 0 (al - 1) W);unfold shV at af ae⊢;have k1:(x.kind == 1)=false:=by rw[hk];rfl
 have k2:(x.kind == 2)=false:=by rw[hk];rfl
 have k3:(x.kind == 3)=true:=ED hk;clear ap hk hq hr ay hs d3 d4 d5 d6;go_enter func77,ntmps77
 go_wp2_with (first|(refine aE rfl 38 _ rfl w 0 rfl _ _ HS.o.rng underlying38 rfl zY ?_))
 refine af.o.M ?_;rintro e l ⟨rfl,b3⟩;have S3:=HS.o.B b3;have R3:=a9.o.B b3;have B3:=zq (HB.o.T (b3.M HB.o.size));have bj:=R3.c0;have bk:=R3.c1;have bl:=R3.c2;have bm:=R3.c4;have bn:=R3.c5;have bo:=R3.c7;have bp:=R3.c8;have bf:=R3.lt;have bh:=S3.lt;have bx:=S3.c0;have bz:=S3.c4;have bb:=zq S3;have aw:=zq R3;clear b3 S3 R3;obtain⟨CS,aa⟩:∃CS:List Value,[int i64 x.kind,x.seq,.string x.name,int i64 x.length,x.group,x.row,.slice A0 z c0,.slice A1 u c1,.slice A2 y c2] =CS:=zJ;obtain⟨ba,a2,a3,a7⟩:=zH (show l.rangeAt (w.heap.size+1) 0 CS by rw[<-aa];exact aw.o.rng) (show(prog.info? 105).map (·.size)=some CS.length by rw[<-aa];kernel_rfl) (show(prog.info? 105).map (·.size)=some CS.toArray.size by rw[<-aa];kernel_rfl) (show CS.toArray.all (·.oneCell')=true from(by rw[<-aa];exact all_oneCell_toArray (Af.ones _ _ _ _ ao)));obtain⟨Z,hZ⟩:∃Z:Array Value,#[int i64 0,(),.string ⟨#[]⟩,(),(),(),zQ,zQ,zQ] =Z:=zJ;have ai:Z.size=9:=(by rw[<-hZ];rfl);have ah:CS.length=9:=(by rw[<-aa];rfl);have KZ:=Blk.new l 105 Z;have bc:=zq (Blk.there KZ CS.toArray.size (by rw[bD,ah,ai];exact aD _));obtain⟨W4,ad⟩:∃W4,(l.alloc (.cells Z 105)).setCells l 0 CS.toArray.toList=W4:=zJ;have K4:=zq (show Blk W4 l 105 CS.toArray by rw[<-ad];exact Blk.laid KZ _ (by rw[ai];exact ah.symm));have b4:=(show Below l l W4 by rw[<-ad];exact AS (Ac (aC _ _) _) _ 0 (aD _));obtain⟨bd,a1,aq⟩:=zI ad aa b4;have be:=B3.o.size;clear ad KZ ai ah;have S4:=bb.o.B b4;have R4:=aw.o.B b4;have B4:=zq (B3.o.T (b4.M B3.o.size));have bq:=R4.c0;have br:=R4.c1;have bs:=R4.c2;have bt:=R4.c4;have bu:=R4.c5;have bv:=R4.c7;have bw:=R4.c8;have bg:=R4.lt;have bi:=S4.lt;have b1:=S4.c0;have b2:=S4.c4;have i:=zq S4;have a8:=zq R4;clear b4 S4 R4;clear ao;have u0:=aB i.o.c0;have u1:=aB i.o.c1;have u2:=aB i.o.c2;have u3:=aB i.o.c3;have u4:=aB i.o.c4;have u5:=aB i.o.c5;have u6:=aB i.o.c6;have u7:=aB i.o.c7;have u8:=aB i.o.c8;have t4:=aB a8.o.c4;go_wp2_with (first
  |(go_at_call_has 78 x.kind;refine(au.o _).M ?_;rintro e w' ⟨rfl,rfl⟩)
  |(go_at_call_has 78 x.seq;refine(av.o _).M ?_;rintro e w' ⟨rfl,rfl⟩)
  |(refine aE rfl 105 _ rfl (w.heap.size+1) 0 rfl CS _ ba.o underlying105 rfl a2.o ?_)
  |(refine aV rfl 105 (.tmp 6) (.tmp 21) rfl l 0 CS.toArray rfl rfl bc.o a3.o a7.o ?_;rw[bd.o]))
 have QA:=zq (AR (w:=W4) (fun W _ => ae.o W));obtain⟨gb,aj⟩:∃gb,Ap x.group 0 (al - 1)=gb:=zJ;rw[aj]at ar;have HQ:=zq aj;have QI:=zq (Bv (w:=W4) ar.o);clear aj;cases gb with
 |false =>
  have e1:r=3:=by rw[<-ac.o,HQ.o];rfl
  subst e1
  (refine aF zY zY ?_;(repeat go_big_quiet_step (first|exact QA.o _ _|exact QI.o _ _));refine aQ ?_)
  rintro _ ⟨⟨dq,osq⟩,rfl⟩;have a0:=zq (B4.o.T ((aI W4 dq osq).M B4.o.size));go_wp2
  go_ret
  exact⟨rfl,a0.o⟩
 |true =>
  (refine aF zY zY ?_;(repeat go_big_quiet_step (first|exact QA.o _ _|exact QI.o _ _));refine aQ ?_)
  rintro _ ⟨⟨dq,osq⟩,rfl⟩;have b5:=aI W4 dq osq;generalize grow (redrawn W4 dq) osq=w5 at b5;have n:=K4.o.B b5 K4.o.lt;rw[<-a1.o]at n;have az:=zq (aq.o.T (b5.M aq.o.size));clear u0 u1 u2 u3 u4 u5 u6 u7 u8 t4 QA QI b5;have KZ:=n.set_ 4 (int i64 0);have ax:=zq (show(w5.setCell (zO l 4) (int i64 0)).rangeAt l 0 [x.kind,x.seq,.string x.name,int i64 x.length,(),x.row,.slice A0 z c0,.slice A1 u c1,.slice A2 y c2]from Blk.rangeAll (cs:=[x.kind,x.seq,.string x.name,int i64 x.length,(),x.row,.slice A0 z c0,.slice A1 u c1,.slice A2 y c2]) KZ);have ag:Below l l (w5.setCell (zO l 4) (int i64 0)):=az.o.setCell (aD _) _;have ab:=zq (B3.o.T (ag.M B3.o.size));have z4:w5.cell? ⟨l.heap.size,4,none⟩=some (int i64 x.group):=(n.cell 4).T rfl;have b0:=n.frozen 4;have lz:=n.lt;have HE:=zq (fun(W:World) => In x.kind x.seq x.name x.length 0 x.row A0 A1 A2 z u y c0 c1 c2 W);cases hev:BY x.name x.length 0 x.row z u y with
  |true =>
   rw[hev]at HE;have e1:r=0:=by rw[<-ac.o,HQ.o,hev];rfl
   subst e1;clear n KZ ag hev;go_wp2_with (first
    |(refine aE rfl 105 _ rfl l 0 rfl [x.kind,x.seq,.string x.name,int i64 x.length,(),x.row,.slice A0 z c0,.slice A1 u c1,.slice A2 y c2] _ ?_ underlying105 rfl zY ?_;(focus (exact ax.o)))
    |(go_at_call 129;refine(HE.o _).M ?_;rintro e w7 ⟨rfl,b7⟩;have B7:=zq b7;clear b7))
   go_ret
   exact⟨rfl,ab.o.T (B7.o.M ab.o.size)⟩
  |false =>
   rw[hev]at HE;have e1:r=1:=by rw[<-ac.o,HQ.o,hev];rfl
   subst e1;clear n KZ ag hev;go_wp2_with (first
    |(refine aE rfl 105 _ rfl l 0 rfl [x.kind,x.seq,.string x.name,int i64 x.length,(),x.row,.slice A0 z c0,.slice A1 u c1,.slice A2 y c2] _ ?_ underlying105 rfl zY ?_;(focus (exact ax.o)))
    |(go_at_call 129;refine(HE.o _).M ?_;rintro e w7 ⟨rfl,b7⟩;have B7:=zq b7;clear b7))
   go_ret
   exact⟨rfl,ab.o.T (B7.o.M ab.o.size)⟩
theorem l2Rise_c(v ls hi f w)(h:AW w f v ls):
  Calls prog 127 #[v,int i64 hi] w (zN (.bool (CT ls hi)) w):=by
 obtain⟨A,c,rfl,hc,hm,hx⟩:=AW.open_ h;have HX:=zq hx;obtain⟨r,hr⟩:∃r,CT ls hi=r:=zJ;rw[hr];have HR:=zq hr;obtain⟨n,hn⟩:∃n,ls.length=n:=zJ;rw[hn]at hc⊢;have HN:=zq hn;clear h hx hr hn;go_enter func127,ntmps127
 go_wp2
 go_loopw [5] (fun i wr =>∃k:Nat,k<=n/\i=k/\Hid (F9 ls hi k)/\Hid (Below w w wr)) (fun i _ => n - (intOf i).toNat)
 ·exact⟨0,by omega,rfl,Mh _ _,aC _ _⟩
 ·obtain⟨k,hk,rfl,HS,HB⟩:=hrel;by_cases ag:k<n
  ·have u:k<ls.length:=by rw[HN.o];exact ag
   obtain⟨ad,z,-,b1,p1,-⟩:=HX.o k u;subst z;have ah:=aB ((HB.o.cell (p:=ad.add k) b1).T p1);have aj:(k:Int)<(n:Int):=by omega
   obtain⟨x,hx⟩:∃x,ls[k] =x:=zJ;rw[hx]at ah;have s:=zq (Mg HS.o u);have l:=zq (fun(h:Ap ls[k] 0 hi=false∨(0<k/\ls[k]<=ls[k - 1])) => HR.o.symm.T (Q5 u h));rw[hx]at s l;clear p1;by_cases a1:x<0
   ·have z:r=false:=l.o (.inl (IY zZ));subst z;clear hx s l u b1;go_wp2_with fail
    (refine aF zY zY ?_;(repeat(first|go_big_quiet_step (fail)|quiet_step (fail)));refine aQ ?_)
    rintro _ ⟨⟨dq,osq⟩,rfl⟩;have q:=zq (HB.o.T ((aI wr dq osq).M HB.o.size));go_wp2
    go_ret
    exact⟨rfl,q.o⟩
   ·by_cases a2:hi<x
    ·have z:r=false:=l.o (.inl (Gp zZ));subst z;clear hx s l u b1;go_wp2_with fail
     (refine aF zY zY ?_;(repeat(first|go_big_quiet_step (fail)|quiet_step (fail)));refine aQ ?_)
     rintro _ ⟨⟨dq,osq⟩,rfl⟩;have q:=zq (HB.o.T ((aI wr dq osq).M HB.o.size));go_wp2
     go_ret
     exact⟨rfl,q.o⟩
    ·have aa:Ap x 0 hi=true:=FD zZ zZ;by_cases a3:k=0
     ·have ac:=zq (s.o aa (fun h => by omega));have a4:¬(0:Int)<(k:Int):=by omega
      have a6:¬0<k:=by omega
      clear hx s l u b1 aa a3;go_wp2_with fail
      (refine aF zY zY ?_;(repeat(first|go_big_quiet_step (fail)|quiet_step (fail)));refine aQ ?_)
      rintro _ ⟨⟨dq,osq⟩,rfl⟩;have q:=zq (HB.o.T ((aI wr dq osq).M HB.o.size));go_wp2
      go_roundw
      ·exact⟨k+1,by omega,by go_num,ac.o,q.o⟩
      ·simp[intOf];omega
     ·have a4:(0:Int)<(k:Int):=by omega
      have a6:0<k:=by omega
      have ae:k - 1<ls.length:=by omega
      obtain⟨ai,z,-,b2,p2,-⟩:=HX.o (k - 1) ae;injection z with z
      subst z;have af:=aB ((HB.o.cell (p:=ad.add (k - 1)) b2).T p2);obtain⟨y,hy⟩:∃y,ls[k - 1] =y:=zJ;rw[hy]at af s l;have z:IntKind.i64.wrap ((k:Int) - 1)=((k - 1:Nat):Int):=by rw[IntWalk.i64_in _ zZ];omega
      have e2:((k:Int) - 1)=((k - 1:Nat):Int):=by omega
      have e3:((k - 1:Nat):Int)<(n:Int):=by omega
      obtain⟨k1,ab⟩:∃k1,k - 1=k1:=zJ;rw[ab]at af z e2 e3;by_cases a5:x<=y
      ·have z:r=false:=l.o (.inr ⟨by omega,a5⟩);subst z;clear hx s l u b1 aa a3 hy ae p2 b2 ab;go_wp2_with fail
       (refine aF zY zY ?_;(repeat(first|go_big_quiet_step (fail)|quiet_step (fail)));refine aQ ?_)
       rintro _ ⟨⟨dq,osq⟩,rfl⟩;have q:=zq (HB.o.T ((aI wr dq osq).M HB.o.size));go_wp2
       go_ret
       exact⟨rfl,q.o⟩
      ·have ac:=zq (s.o aa (fun h => by omega));clear hx s l u b1 aa a3 hy ae p2 b2 ab;go_wp2_with fail
       (refine aF zY zY ?_;(repeat(first|go_big_quiet_step (fail)|quiet_step (fail)));refine aQ ?_)
       rintro _ ⟨⟨dq,osq⟩,rfl⟩;have q:=zq (HB.o.T ((aI wr dq osq).M HB.o.size));go_wp2
       go_roundw
       ·exact⟨k+1,by omega,by go_num,ac.o,q.o⟩
       ·simp[intOf];omega
  ·obtain rfl:k=n:=by omega
   have z:r=true:=by
    rw[<-HR.o];exact Q9 (by rw[HN.o];exact HS.o)
   subst z;go_wp2
   go_ret
   exact⟨rfl,HB.o⟩
theorem Qf(s:Sh)(x:Aj)(P:Prop)(h1:Ap x.group 0 (s.g+s.c - 1)=false->Cs s x=false->P)(f:Ap x.group 0 (s.g+s.c - 1)=true->Ap x.row 0 (s.rows - 1)=false->Cs s x=false->P)(h:Ap x.group 0 (s.g+s.c - 1)=true->Ap x.row 0 (s.rows - 1)=true->CT x.rows (s.g+s.c - 1)=false->Cs s x=false->P)(h4:Ap x.group 0 (s.g+s.c - 1)=true->Ap x.row 0 (s.rows - 1)=true->CT x.rows (s.g+s.c - 1)=true->¬(x.data.length:Int)=s.data * 4->Cs s x=false->P)(l:Ap x.group 0 (s.g+s.c - 1)=true->Ap x.row 0 (s.rows - 1)=true->CT x.rows (s.g+s.c - 1)=true->(x.data.length:Int)=s.data * 4->(decide ((x.delta.length:Int)=s.g+s.c) && (!Cy x x.group && x.rows.all (Cy x)))=false->Cs s x=false->P)(n:Ap x.group 0 (s.g+s.c - 1)=true->Ap x.row 0 (s.rows - 1)=true->CT x.rows (s.g+s.c - 1)=true->(x.data.length:Int)=s.data * 4->(decide ((x.delta.length:Int)=s.g+s.c) && (!Cy x x.group && x.rows.all (Cy x)))=true->Cs s x=true->P):P:=by
 unfold Cs at h1 f h h4 l n;rw[Int.mul_comm 4 s.data]at h1 f h h4 l n;by_cases g:Ap x.group 0 (s.g+s.c - 1)=true
 ·by_cases r:Ap x.row 0 (s.rows - 1)=true
  ·by_cases i:CT x.rows (s.g+s.c - 1)=true
   ·by_cases d:(x.data.length:Int)=s.data * 4
    ·cases e:(decide ((x.delta.length:Int)=s.g+s.c) && (!Cy x x.group && x.rows.all (Cy x)))with
     |true => exact n g r i d e (by rw[g,r,i,aN d,e];rfl)
     |false => exact l g r i d e (by rw[g,r,i,aN d,e];rfl)
    ·exact h4 g r i d (by rw[g,r,i,aG d];rfl)
   ·have p:CT x.rows (s.g+s.c - 1)=false:=by simpa using i
    exact h g r p (by rw[g,r,p];rfl)
  ·have q:Ap x.row 0 (s.rows - 1)=false:=by simpa using r
   exact f g q (by rw[g,q];rfl)
 ·have o:Ap x.group 0 (s.g+s.c - 1)=false:=by simpa using g
  exact h1 o (by rw[o];rfl)
theorem Sp(s:Sh)(ay:shB s=true)(x cs f w)(h:Af w f cs x)(hk:x.kind=4)(hq:Ap x.seq 1 1000000000=true):
  Calls prog 77 #[shV s,.agg cs] w fun e w' => e= .returned (int i64 (if Cs s x=true then(if BY x.name x.length 0 0 0 0 0=true then 0 else 1)else 3))/\Below w w w':=by
 have aj:=h;dsimp only[Af]at h;obtain⟨v0,v1,v2,f0,f1,f2,rfl,rfl,o0,o1,o2,o3,o4,o5,h0,h1,h2⟩:=h;obtain⟨A0,c0,rfl,k0,m0⟩:=rSl.head h0;obtain⟨A1,c1,rfl,k1,m1⟩:=rSl.head h1;obtain⟨A2,c2,rfl,k2,m2⟩:=rSl.head h2;obtain⟨H0,H1,H2⟩:=zI h0 h1 h2;obtain⟨nR,ax⟩:∃nR,x.rows.length=nR:=zJ;obtain⟨nD,av⟩:∃nD,x.data.length=nD:=zJ;obtain⟨nE,aw⟩:∃nE,x.delta.length=nE:=zJ;obtain⟨bf,a4,am⟩:=zI ax av aw;rw[ax]at H0 k0⊢;rw[av]at H1 k1⊢;rw[aw]at H2 k2⊢;have K1:=(Blk.new w 38 s).alloc (.cells (yZ x A0 nR c0 A1 nD c1 A2 nE c2) 105);have K2:=Blk.new1 w (.cells s 38) 105 (yZ x A0 nR c0 A1 nD c1 A2 nE c2);have hB:Below w w ((w.alloc (.cells s 38)).alloc (.cells (yZ x A0 nR c0 A1 nD c1 A2 nE c2) 105)):=((aC _ _).alloc (aD _) _).alloc zX _;have HB:=zq hB;have S2:=Cn.of K1;have R2:=DC.of K2;have HS:=zq S2;have bh:=zq R2;clear h0 h1 h2 ax av aw K1 K2 hB;rw[bf.o,a4.o,am.o]at aj;have hs:=De ay;obtain⟨d1,d2⟩:=hs.rows;obtain⟨d3,d4⟩:=hs.g;obtain⟨d5,d6⟩:=hs.c;have an:=zq (Cd s ((w.alloc (.cells s 38)).alloc (.cells (yZ x A0 nR c0 A1 nD c1 A2 nE c2) 105)));rw[CL ay]at an;have a1:=zq (fun(W:World) => BD x.kind 1 4 W);have a2:=zq (fun(W:World) => BD x.seq 1 1000000000 W);rw[show Ap x.kind 1 4=true by rw[hk];rfl]at a1;rw[hq]at a2;have ao:=zq (fun(W:World) => Jn s hs W);obtain⟨r,hr⟩:∃r:Int,(if Cs s x=true then(if BY x.name x.length 0 0 0 0 0=true then 0 else 1)else 3)=r:=zJ;rw[hr];have ac:=zq hr;have ad:=zq (Qf s x);rw[a4.o]at ad;obtain⟨wd,a9⟩:∃wd,s.data * 4=wd:=zJ;obtain⟨al,a7⟩:∃al,s.g+s.c=al:=zJ;have af:=zq (fun(W:World) (hW:Below w w W) => PX s hs x _ _ W (AC.B Af.L Af.X aj hW));have ak:=zq (fun(W:World) => EN s hs W);rw[am.o]at af;rw[a9]at ao ad;rw[a7]at ad af ak;rw[am.o]at ad;have ew:IntKind.i64.wrap (al - 1)=al - 1:=IntWalk.i64_in _ zZ;have bn:IntKind.i64.wrap (s.rows - 1)=s.rows - 1:=IntWalk.i64_in _ zZ;obtain⟨bd,be,bj⟩:=zI (fun(W:World) => BD x.group 0 (al - 1) W) (fun(W:World) => BD x.row 0 (s.rows - 1) W) (fun(W:World) (hW:Below w w W) => l2Rise_c (.slice A0 nR c0) x.rows (al - 1) f0 W (rSl.B Aw.L Aw.X H0.o hW));obtain⟨wb,a8⟩:∃wb,(decide ((nE:Int)=al) && (!Cy x x.group && x.rows.all (Cy x)))=wb:=zJ;rw[a8]at af ad;unfold shV at an ao ak af⊢;have k1:(x.kind == 1)=false:=by rw[hk];rfl
 have k2:(x.kind == 2)=false:=by rw[hk];rfl
 have k3:(x.kind == 3)=false:=by rw[hk];rfl
 have k4:(x.kind == 4)=true:=ED hk;clear ay hk hq hr a9 a7 a8 hs d1 d2 d3 d4 d5 d6;go_enter func77,ntmps77
 go_wp2_with (first|(refine aE rfl 38 _ rfl w 0 rfl _ _ HS.o.rng underlying38 rfl zY ?_))
 refine an.o.M ?_;rintro e n ⟨rfl,b3⟩;have S3:=HS.o.B b3;have R3:=bh.o.B b3;have B3:=zq (HB.o.T (b3.M HB.o.size));have bt:=R3.c0;have bu:=R3.c1;have bv:=R3.c2;have bw:=R3.c4;have bx:=R3.c5;have bz:=R3.c7;have b0:=R3.c8;have bp:=R3.lt;have br:=S3.lt;have cc:=S3.c0;have cd:=S3.c4;have bk:=zq S3;have a5:=zq R3;clear b3 S3 R3;obtain⟨CS,ae⟩:∃CS:List Value,[int i64 x.kind,x.seq,.string x.name,int i64 x.length,x.group,x.row,.slice A0 nR c0,.slice A1 nD c1,.slice A2 nE c2] =CS:=zJ;obtain⟨bi,bb,bc,bg⟩:=zH (show n.rangeAt (w.heap.size+1) 0 CS by rw[<-ae];exact a5.o.rng) (show(prog.info? 105).map (·.size)=some CS.length by rw[<-ae];kernel_rfl) (show(prog.info? 105).map (·.size)=some CS.toArray.size by rw[<-ae];kernel_rfl) (show CS.toArray.all (·.oneCell')=true from(by rw[<-ae];exact all_oneCell_toArray (Af.ones _ _ _ _ aj)));obtain⟨Z,hZ⟩:∃Z:Array Value,#[int i64 0,(),.string ⟨#[]⟩,(),(),(),zQ,zQ,zQ] =Z:=zJ;have au:Z.size=9:=(by rw[<-hZ];rfl);have ar:CS.length=9:=(by rw[<-ae];rfl);have KZ:=Blk.new n 105 Z;have bl:=zq (Blk.there KZ CS.toArray.size (by rw[bD,ar,au];exact aD _));obtain⟨W4,ai⟩:∃W4,(n.alloc (.cells Z 105)).setCells n 0 CS.toArray.toList=W4:=zJ;have K4:=zq (show Blk W4 n 105 CS.toArray by rw[<-ai];exact Blk.laid KZ _ (by rw[au];exact ar.symm));have b4:=(show Below n n W4 by rw[<-ai];exact AS (Ac (aC _ _) _) _ 0 (aD _));obtain⟨bm,a0,az⟩:=zI ai ae b4;have bo:=B3.o.size;clear ai KZ au ar;have S4:=bk.o.B b4;have R4:=a5.o.B b4;have B4:=zq (B3.o.T (b4.M B3.o.size));have b1:=R4.c0;have b2:=R4.c1;have b6:=R4.c2;have b8:=R4.c4;have b9:=R4.c5;have ca:=R4.c7;have cb:=R4.c8;have bq:=R4.lt;have bs:=S4.lt;have cf:=S4.c0;have cg:=S4.c4;have ab:=zq S4;have aa:=zq R4;clear b4 S4 R4;clear aj;have u0:=aB ab.o.c0;have u1:=aB ab.o.c1;have u2:=aB ab.o.c2;have u3:=aB ab.o.c3;have u4:=aB ab.o.c4;have u5:=aB ab.o.c5;have u6:=aB ab.o.c6;have u7:=aB ab.o.c7;have u8:=aB ab.o.c8;have t0:=aB aa.o.c0;have t1:=aB aa.o.c1;have t2:=aB aa.o.c2;have t3:=aB aa.o.c3;have t4:=aB aa.o.c4;have t5:=aB aa.o.c5;have t6:=aB aa.o.c6;have t7:=aB aa.o.c7;have t8:=aB aa.o.c8;go_wp2_with (first
  |(go_at_call_has 78 x.kind;refine(a1.o _).M ?_;rintro e w' ⟨rfl,rfl⟩)
  |(go_at_call_has 78 x.seq;refine(a2.o _).M ?_;rintro e w' ⟨rfl,rfl⟩)
  |(refine aE rfl 105 _ rfl (w.heap.size+1) 0 rfl CS _ bi.o underlying105 rfl bb.o ?_)
  |(refine aV rfl 105 (.tmp 6) (.tmp 21) rfl n 0 CS.toArray rfl rfl bl.o bc.o bg.o ?_;rw[bm.o]))
 obtain⟨QW,u,y,QA,QI⟩:=zG (AR (w:=W4) (fun W _ => ao.o W)) (Bv (w:=W4) bd.o) (Bv (w:=W4) be.o) (AR (w:=W4) (fun W _ => ak.o W)) (AR (w:=W4) (fun W hW => bj.o W (B4.o.T (hW.M B4.o.size))));have ag:=af.o;rw[show #[int i64 x.kind,x.seq,.string x.name,int i64 x.length,x.group,x.row,.slice A0 nR c0,.slice A1 nD c1,.slice A2 nE c2] =CS.toArray from congrArg List.toArray a0.o]at ag;have ap:=zq (fun hg hi => AR (w:=W4) (fun W hW => ag W (B4.o.T (hW.M B4.o.size)) hg hi));clear ag;refine ad.o _ ?_ ?_ ?_ ?_ ?_ ?_
 ·intro g i;have e1:r=3:=by rw[<-ac.o,i];rfl
  subst e1;rw[g]at u;clear g i
  (refine aF zY zY ?_;(repeat go_big_quiet_step (first|(go_at_call_has 78 x.group;exact u.o _ _)|(go_at_call_has 78 x.row;exact y.o _ _)|(go_at_call 126;exact QW.o _ _)|(go_at_call 15;exact QA.o _ _)|(go_at_call 127;exact QI.o _ _)|(go_at_call 128;exact QX.o _ _)));refine aQ ?_)
  rintro _ ⟨⟨dq,osq⟩,rfl⟩;have z:=zq (B4.o.T ((aI W4 dq osq).M B4.o.size));go_wp2
  go_ret
  exact⟨rfl,z.o⟩
 ·intro g r2 i;have e1:r=3:=by rw[<-ac.o,i];rfl
  subst e1;rw[g]at u;rw[r2]at y;clear g r2 i
  (refine aF zY zY ?_;(repeat go_big_quiet_step (first|(go_at_call_has 78 x.group;exact u.o _ _)|(go_at_call_has 78 x.row;exact y.o _ _)|(go_at_call 126;exact QW.o _ _)|(go_at_call 15;exact QA.o _ _)|(go_at_call 127;exact QI.o _ _)|(go_at_call 128;exact QX.o _ _)));refine aQ ?_)
  rintro _ ⟨⟨dq,osq⟩,rfl⟩;have z:=zq (B4.o.T ((aI W4 dq osq).M B4.o.size));go_wp2
  go_ret
  exact⟨rfl,z.o⟩
 ·intro g r2 i2 i;have e1:r=3:=by rw[<-ac.o,i];rfl
  subst e1;rw[g]at u;rw[r2]at y;rw[i2]at QI;clear g r2 i2 i
  (refine aF zY zY ?_;(repeat go_big_quiet_step (first|(go_at_call_has 78 x.group;exact u.o _ _)|(go_at_call_has 78 x.row;exact y.o _ _)|(go_at_call 126;exact QW.o _ _)|(go_at_call 15;exact QA.o _ _)|(go_at_call 127;exact QI.o _ _)|(go_at_call 128;exact QX.o _ _)));refine aQ ?_)
  rintro _ ⟨⟨dq,osq⟩,rfl⟩;have z:=zq (B4.o.T ((aI W4 dq osq).M B4.o.size));go_wp2
  go_ret
  exact⟨rfl,z.o⟩
 ·intro g r2 i2 d i;have e1:r=3:=by rw[<-ac.o,i];rfl
  subst e1;rw[g]at u;rw[r2]at y;rw[i2]at QI;have d':=EE d;clear g r2 i2 d i
  (refine aF zY zY ?_;(repeat go_big_quiet_step (first|(go_at_call_has 78 x.group;exact u.o _ _)|(go_at_call_has 78 x.row;exact y.o _ _)|(go_at_call 126;exact QW.o _ _)|(go_at_call 15;exact QA.o _ _)|(go_at_call 127;exact QI.o _ _)|(go_at_call 128;exact QX.o _ _)));refine aQ ?_)
  rintro _ ⟨⟨dq,osq⟩,rfl⟩;have z:=zq (B4.o.T ((aI W4 dq osq).M B4.o.size));go_wp2
  go_ret
  exact⟨rfl,z.o⟩
 ·intro g r2 i2 d e2 i;have e1:r=3:=by rw[<-ac.o,i];rfl
  subst e1;rw[g]at u;rw[r2]at y;have QX:=zq (ap.o g i2);rw[i2]at QI;have d':=Db d;rw[e2]at QX;clear g r2 i2 d e2 i
  (refine aF zY zY ?_;(repeat go_big_quiet_step (first|(go_at_call_has 78 x.group;exact u.o _ _)|(go_at_call_has 78 x.row;exact y.o _ _)|(go_at_call 126;exact QW.o _ _)|(go_at_call 15;exact QA.o _ _)|(go_at_call 127;exact QI.o _ _)|(go_at_call 128;exact QX.o _ _)));refine aQ ?_)
  rintro _ ⟨⟨dq,osq⟩,rfl⟩;have z:=zq (B4.o.T ((aI W4 dq osq).M B4.o.size));go_wp2
  go_ret
  exact⟨rfl,z.o⟩
 ·intro g r2 i2 d e2 i;have QX:=zq (ap.o g i2);rw[g]at u;rw[r2]at y;rw[i2]at QI;rw[e2]at QX;have d':=Db d;have a3:=zq i;clear g r2 i2 d e2 i
  (refine aF zY zY ?_;(repeat go_big_quiet_step (first|(go_at_call_has 78 x.group;exact u.o _ _)|(go_at_call_has 78 x.row;exact y.o _ _)|(go_at_call 126;exact QW.o _ _)|(go_at_call 15;exact QA.o _ _)|(go_at_call 127;exact QI.o _ _)|(go_at_call 128;exact QX.o _ _)));refine aQ ?_)
  rintro _ ⟨⟨dq,osq⟩,rfl⟩;have b5:=aI W4 dq osq;generalize grow (redrawn W4 dq) osq=w5 at b5;have l:=K4.o.B b5 K4.o.lt;rw[<-a0.o]at l;have ba:=zq (az.o.T (b5.M az.o.size));clear u0 u1 u2 u3 u4 u5 u6 u7 u8 t0 t1 t2 t3 t4 t5 t6 t7 t8 u y QW QA QI QX ap b5;have KZ:=((((l.set_ 8 (.slice none 0 0)).set_ 4 (int i64 0)).set_ 5 (int i64 0)).set_ 6 (.slice none 0 0)).set_ 7 (.slice none 0 0);have a6:=zq (show(((((w5.setCell (zO n 8) (.slice none 0 0)).setCell (zO n 4) (int i64 0)).setCell (zO n 5) (int i64 0)).setCell (zO n 6) (.slice none 0 0)).setCell (zO n 7) (.slice none 0 0)).rangeAt n 0 [x.kind,x.seq,.string x.name,int i64 x.length,(),(),zQ,zQ,zQ]from Blk.rangeAll (cs:=[x.kind,x.seq,.string x.name,int i64 x.length,(),(),zQ,zQ,zQ]) KZ);have aq:Below n n (((((w5.setCell (zO n 8) (.slice none 0 0)).setCell (zO n 4) (int i64 0)).setCell (zO n 5) (int i64 0)).setCell (zO n 6) (.slice none 0 0)).setCell (zO n 7) (.slice none 0 0)):=((((ba.o.setCell (aD _) _).setCell (aD _) _).setCell (aD _) _).setCell (aD _) _).setCell (aD _) _;have ah:=zq (B3.o.T (aq.M B3.o.size));have z4:w5.cell? ⟨n.heap.size,4,none⟩=some (int i64 x.group):=(l.cell 4).T rfl;have z5:w5.cell? ⟨n.heap.size,5,none⟩=some (int i64 x.row):=(l.cell 5).T rfl;have z6:w5.cell? ⟨n.heap.size,6,none⟩=some (.slice A0 nR c0):=(l.cell 6).T rfl;have ci:=l.frozen 6;have z7:w5.cell? ⟨n.heap.size,7,none⟩=some (.slice A1 nD c1):=(l.cell 7).T rfl;have z8:w5.cell? ⟨n.heap.size,8,none⟩=some (.slice A2 nE c2):=(l.cell 8).T rfl;have ce:=l.frozen 4;have ch:=l.frozen 5;have cj:=l.frozen 7;have ck:=l.frozen 8;have lz:=l.lt;have HE:=zq (fun(W:World) => In x.kind x.seq x.name x.length 0 0 none none none 0 0 0 0 0 0 W);cases hev:BY x.name x.length 0 0 0 0 0 with
  |true =>
   rw[hev]at HE;have e1:r=0:=by rw[<-ac.o,a3.o,hev];rfl
   subst e1;clear l KZ aq hev;go_wp2_with (first
    |(refine aE rfl 105 _ rfl n 0 rfl [x.kind,x.seq,.string x.name,int i64 x.length,(),(),zQ,zQ,zQ] _ ?_ underlying105 rfl zY ?_;(focus (exact a6.o)))
    |(go_at_call 129;refine(HE.o _).M ?_;rintro e w7 ⟨rfl,b7⟩;have B7:=zq b7;clear b7))
   go_ret
   exact⟨rfl,ah.o.T (B7.o.M ah.o.size)⟩
  |false =>
   rw[hev]at HE;have e1:r=1:=by rw[<-ac.o,a3.o,hev];rfl
   subst e1;clear l KZ aq hev;go_wp2_with (first
    |(refine aE rfl 105 _ rfl n 0 rfl [x.kind,x.seq,.string x.name,int i64 x.length,(),(),zQ,zQ,zQ] _ ?_ underlying105 rfl zY ?_;(focus (exact a6.o)))
    |(go_at_call 129;refine(HE.o _).M ?_;rintro e w7 ⟨rfl,b7⟩;have B7:=zq b7;clear b7))
   go_ret
   exact⟨rfl,ah.o.T (B7.o.M ah.o.size)⟩
theorem NC(s:Sh)(c:shB s=true)(x cs f w)(h:Af w f cs x):
  Calls prog 77 #[shV s,.agg cs] w (zN (int i64 (AJ s x)) w):=by
 cases l:Ap x.kind 1 4 with
 |false => exact Ke s c x cs f w h (.inl l)
 |true =>
  cases hq:Ap x.seq 1 1000000000 with
  |false => exact Ke s c x cs f w h (.inr hq)
  |true =>
   rcases kind4 l with i|i|i|i
   ·have:=Sm s c x cs f w h i hq;rwa [TJ i hq]at this
   ·have:=Sn s c x cs f w h i hq;rwa [TK i hq]at this
   ·have:=So s c x cs f w h i hq;rwa [TL i hq]at this
   ·have:=Sp s c x cs f w h i hq;rwa [TM i hq]at this
