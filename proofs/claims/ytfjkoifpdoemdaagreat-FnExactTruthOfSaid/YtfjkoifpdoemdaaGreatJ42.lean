/- Part 42 of the proof. -/
import Derived.Test.YtfjkoifpdoemdaaGreatJ41
import Derived.Test.YtfjkoifpdoemdaaGreatJ31
set_option maxHeartbeats 8000000
set_option maxRecDepth 100000
set_option linter.unusedVariables false
set_option linter.unusedSimpArgs false
open Go.Proofs.Tryz
open Go.Value (int)
open Go.IntKind (i64)
namespace Go.Proofs.YtfjkoifpdoemdaaGreat
open Go.RowKit Go.Lib Go.Sort
theorem JV(d:Am)(cs:List Value)(f:List Addr)(w:World)(h:AC w f cs d) :
  Calls prog 44 #[.agg cs.toArray] w fun e w' => e= .returned (int i64 (AK d))∧Below w.heap.size w w':=by
 have hrw:=h;dsimp only[AC]at h;obtain⟨v0,v1,v2,f0,f1,f2,rfl,-,o0,o1,o2,o3,o4,o5,o6,o7,o8,o9,o10,r0,r1,r2⟩:=h;obtain⟨A0,c0,rfl,m0,m0'⟩:=rSl.head r0;obtain⟨A1,c1,rfl,m1,m1'⟩:=rSl.head r1;obtain⟨A2,c2,rfl,m2,m2'⟩:=rSl.head r2;obtain⟨nG,hnG⟩:∃nG,d.g.length=nG:=⟨_,rfl⟩;obtain⟨nO,hnO⟩:∃nO,d.on.length=nO:=⟨_,rfl⟩;obtain⟨nT,hnT⟩:∃nT,d.v.length=nT:=⟨_,rfl⟩;rw[hnG]at r0 m0⊢;rw[hnO]at r1 m1⊢;rw[hnT]at r2 m2⊢;rw[hnG,hnO,hnT]at hrw;have HRW:=U hrw;have HNG:=U hnG;have HNO:=U hnO;have HNT:=U hnT;have hb1:Below w.heap.size w (w.alloc (.cells #[int i64 d.s.g,int i64 d.s.c,int i64 d.s.data,int i64 d.s.p,int i64 d.s.rows,int i64 d.s.cap,int i64 d.s.b,int i64 d.s.q,int i64 d.s.t,.slice A0 nG c0,.slice A1 nO c1,.slice A2 nT c2,int i64 d.u,int i64 d.stop,.bool d.down] 35)):=(aB _ _).alloc (aC _) _;have hk1:Blk (w.alloc (.cells #[int i64 d.s.g,int i64 d.s.c,int i64 d.s.data,int i64 d.s.p,int i64 d.s.rows,int i64 d.s.cap,int i64 d.s.b,int i64 d.s.q,int i64 d.s.t,.slice A0 nG c0,.slice A1 nO c1,.slice A2 nT c2,int i64 d.u,int i64 d.stop,.bool d.down] 35)) w.heap.size 35 #[int i64 d.s.g,int i64 d.s.c,int i64 d.s.data,int i64 d.s.p,int i64 d.s.rows,int i64 d.s.cap,int i64 d.s.b,int i64 d.s.q,int i64 d.s.t,.slice A0 nG c0,.slice A1 nO c1,.slice A2 nT c2,int i64 d.u,int i64 d.stop,.bool d.down]:=Blk.new _ _ _;have K1:=U hk1;have HB1:=U hb1;have R0:=U (rSl.below (Al.local_ Ak.local_) (Al.fixed Ak.fixed) r0 hb1);have R1:=U (rSl.below Az.local_ Az.fixed r1 hb1);have R2:=U (rSl.below Ay.local_ Ay.fixed r2 hb1);clear hrw r0 r1 r2 hb1 hk1 hnG hnO hnT;have K2:=K1;have B2:=HB1;obtain⟨r,hr⟩:∃r,AK d=r:=⟨_,rfl⟩;rw[hr];have HRV:=U hr;have HSF:=U (JU d.s.sh (w.alloc (.cells #[int i64 d.s.g,int i64 d.s.c,int i64 d.s.data,int i64 d.s.p,int i64 d.s.rows,int i64 d.s.cap,int i64 d.s.b,int i64 d.s.q,int i64 d.s.t,.slice A0 nG c0,.slice A1 nO c1,.slice A2 nT c2,int i64 d.u,int i64 d.stop,.bool d.down] 35)));have HRS:=U (Blk.range K1.o 0 [int i64 d.s.g,int i64 d.s.c,int i64 d.s.data,int i64 d.s.p,int i64 d.s.rows,int i64 d.s.cap,int i64 d.s.b,int i64 d.s.q,int i64 d.s.t] rfl);have HIW:=U (fun(W:World) => Bz d.u 0 1000000000 W);have HIS:=U (fun(W:World) => Bz d.stop (-1) 1000000000 W);clear hr;cases hsb:shB d.s.sh with
 |false =>
  rw[G1 hsb]at HSF;have e1:r=3:=by rw[← HRV.o];exact G3 hsb
  subst e1;unfold shV at HSF;clear hsb;go_enter func44,ntmps44
  go_wp2_with (refine aD rfl 31 _ rfl w.heap.size 0 rfl _ _ HRS.o underlying31 rfl (by kernel_rfl) ?_)
  refine HSF.o.mono ?_;rintro e w3 ⟨rfl,b3⟩;have K3:=U (K2.o.below b3 K2.o.lt);have B3:=U (B2.o.trans (b3.mono B2.o.size));have z3:w.heap.size<w3.heap.size:=K3.o.lt;have HR3:=U (Blk.range K3.o 0 [int i64 d.s.g,int i64 d.s.c,int i64 d.s.data,int i64 d.s.p,int i64 d.s.rows,int i64 d.s.cap,int i64 d.s.b,int i64 d.s.q,int i64 d.s.t,.slice A0 nG c0,.slice A1 nO c1,.slice A2 nT c2,int i64 d.u,int i64 d.stop,.bool d.down] rfl);clear b3;go_wp2_with fail
  go_ret
  exact⟨rfl,B3.o⟩
 |true =>
  rw[C0 hsb]at HSF;have hs:=Ea hsb;have HGR:=U (fun(W:World) (hW:Below w.heap.size w W) => Pa d hs _ _ W (AB.below AC.local_ AC.fixed HRW.o hW));have HON:=U (fun(W:World) (hW:Below w.heap.size w W) => onOK_c d hs _ _ W (AB.below AC.local_ AC.fixed HRW.o hW));have HTF:=U (fun(W:World) (hW:Below w.heap.size w W) => NG d hsb _ _ W (AB.below AC.local_ AC.fixed HRW.o hW));have HFORM:=U (fun h2 => HRV.o.symm.trans (H9 (d:=d) hsb h2));have HTAP:=U (fun h2 h3 => HRV.o.symm.trans (Fz (d:=d) hsb h2 h3));have HEND:=U (fun h2 h3 => HRV.o.symm.trans (Ge (d:=d) hsb h2 h3));unfold shV at HSF;obtain⟨gb,hgb⟩:∃gb,BJ d.s.sh d.g=gb:=⟨_,rfl⟩;obtain⟨ob,hob⟩:∃ob,onB d.s.sh d.on d.down=ob:=⟨_,rfl⟩;obtain⟨tc,htc⟩:∃tc,Bn d.s.sh d.v=tc:=⟨_,rfl⟩;rw[hgb]at HGR HFORM HTAP HEND;rw[hob]at HON HFORM HTAP HEND;rw[htc]at HTF HTAP HEND;rw[HNT.o]at HFORM HTAP HEND;clear hsb hs hgb hob htc;go_enter func44,ntmps44
  go_wp2_with (refine aD rfl 31 _ rfl w.heap.size 0 rfl _ _ HRS.o underlying31 rfl (by kernel_rfl) ?_)
  refine HSF.o.mono ?_;rintro e w3 ⟨rfl,b3⟩;have K3:=U (K2.o.below b3 K2.o.lt);have B3:=U (B2.o.trans (b3.mono B2.o.size));have z3:w.heap.size<w3.heap.size:=K3.o.lt;have HR3:=U (Blk.range K3.o 0 [int i64 d.s.g,int i64 d.s.c,int i64 d.s.data,int i64 d.s.p,int i64 d.s.rows,int i64 d.s.cap,int i64 d.s.b,int i64 d.s.q,int i64 d.s.t,.slice A0 nG c0,.slice A1 nO c1,.slice A2 nT c2,int i64 d.u,int i64 d.stop,.bool d.down] rfl);clear b3;go_wp2_with (refine aD rfl 35 _ rfl w.heap.size 0 rfl _ _ HR3.o underlying35 rfl (by kernel_rfl) ?_)
  refine(HGR.o _ B3.o).mono ?_;rintro e w4 ⟨rfl,b4⟩;have K4:=U (K3.o.below b4 K3.o.lt);have B4:=U (B3.o.trans (b4.mono B3.o.size));have z4:w.heap.size<w4.heap.size:=K4.o.lt;have HR4:=U (Blk.range K4.o 0 [int i64 d.s.g,int i64 d.s.c,int i64 d.s.data,int i64 d.s.p,int i64 d.s.rows,int i64 d.s.cap,int i64 d.s.b,int i64 d.s.q,int i64 d.s.t,.slice A0 nG c0,.slice A1 nO c1,.slice A2 nT c2,int i64 d.u,int i64 d.stop,.bool d.down] rfl);clear b4;have p0:w4.cell? ⟨w.heap.size,0,none⟩=some (int i64 d.s.g):=(Blk.cell K4.o 0).trans rfl;have p1:w4.cell? ⟨w.heap.size,1,none⟩=some (int i64 d.s.c):=(Blk.cell K4.o 1).trans rfl;have p2:w4.cell? ⟨w.heap.size,2,none⟩=some (int i64 d.s.data):=(Blk.cell K4.o 2).trans rfl;have p3:w4.cell? ⟨w.heap.size,3,none⟩=some (int i64 d.s.p):=(Blk.cell K4.o 3).trans rfl;have p4:w4.cell? ⟨w.heap.size,4,none⟩=some (int i64 d.s.rows):=(Blk.cell K4.o 4).trans rfl;have p5:w4.cell? ⟨w.heap.size,5,none⟩=some (int i64 d.s.cap):=(Blk.cell K4.o 5).trans rfl;have p6:w4.cell? ⟨w.heap.size,6,none⟩=some (int i64 d.s.b):=(Blk.cell K4.o 6).trans rfl;have p7:w4.cell? ⟨w.heap.size,7,none⟩=some (int i64 d.s.q):=(Blk.cell K4.o 7).trans rfl;have p8:w4.cell? ⟨w.heap.size,8,none⟩=some (int i64 d.s.t):=(Blk.cell K4.o 8).trans rfl;have p9:w4.cell? ⟨w.heap.size,9,none⟩=some (.slice A0 nG c0):=(Blk.cell K4.o 9).trans rfl;have p10:w4.cell? ⟨w.heap.size,10,none⟩=some (.slice A1 nO c1):=(Blk.cell K4.o 10).trans rfl;have p11:w4.cell? ⟨w.heap.size,11,none⟩=some (.slice A2 nT c2):=(Blk.cell K4.o 11).trans rfl;have p12:w4.cell? ⟨w.heap.size,12,none⟩=some (int i64 d.u):=(Blk.cell K4.o 12).trans rfl;have p13:w4.cell? ⟨w.heap.size,13,none⟩=some (int i64 d.stop):=(Blk.cell K4.o 13).trans rfl;have p14:w4.cell? ⟨w.heap.size,14,none⟩=some (.bool d.down):=(Blk.cell K4.o 14).trans rfl;cases gb with
  |false =>
   have e1:r=1:=HFORM.o rfl;subst e1;go_wp2_with fail
   go_ret
   exact⟨rfl,B4.o⟩
  |true =>
   go_wp2_with (refine aD rfl 35 _ rfl w.heap.size 0 rfl _ _ HR4.o underlying35 rfl (by kernel_rfl) ?_)
   refine(HON.o _ B4.o).mono ?_;rintro e w5 ⟨rfl,b5⟩;have K5:=U (K4.o.below b5 K4.o.lt);have B5:=U (B4.o.trans (b5.mono B4.o.size));have z5:w.heap.size<w5.heap.size:=K5.o.lt;have HR5:=U (Blk.range K5.o 0 [int i64 d.s.g,int i64 d.s.c,int i64 d.s.data,int i64 d.s.p,int i64 d.s.rows,int i64 d.s.cap,int i64 d.s.b,int i64 d.s.q,int i64 d.s.t,.slice A0 nG c0,.slice A1 nO c1,.slice A2 nT c2,int i64 d.u,int i64 d.stop,.bool d.down] rfl);clear b5;clear p0 p1 p2 p3 p4 p5 p6 p7 p8 p9 p10 p11 p12 p13 p14;have p11:w5.cell? ⟨w.heap.size,11,none⟩=some (.slice A2 nT c2):=(Blk.cell K5.o 11).trans rfl;cases ob with
   |false =>
    have e1:r=1:=HFORM.o rfl;subst e1;go_wp2_with fail
    go_ret
    exact⟨rfl,B5.o⟩
   |true =>
    by_cases h2:nT=2
    ·have hn2:((nT:Int) != 2)=false:=CR (by omega);have hall:(true && (true && decide (nT=2)))=true:=by rw[aK h2];rfl
     have HTAP2:=U (HTAP.o hall);have HEND2:=U (HEND.o hall);clear h2 hall HTAP HEND HFORM;go_wp2_with (refine aD rfl 35 _ rfl w.heap.size 0 rfl _ _ HR5.o underlying35 rfl (by kernel_rfl) ?_)
     refine(HTF.o _ B5.o).mono ?_;rintro e w6 ⟨rfl,b6⟩;have K6:=U (K5.o.below b6 K5.o.lt);have B6:=U (B5.o.trans (b6.mono B5.o.size));have z6:w.heap.size<w6.heap.size:=K6.o.lt;have HR6:=U (Blk.range K6.o 0 [int i64 d.s.g,int i64 d.s.c,int i64 d.s.data,int i64 d.s.p,int i64 d.s.rows,int i64 d.s.cap,int i64 d.s.b,int i64 d.s.q,int i64 d.s.t,.slice A0 nG c0,.slice A1 nO c1,.slice A2 nT c2,int i64 d.u,int i64 d.stop,.bool d.down] rfl);clear b6;clear p11;have p12:w6.cell? ⟨w.heap.size,12,none⟩=some (int i64 d.u):=(Blk.cell K6.o 12).trans rfl;have p13:w6.cell? ⟨w.heap.size,13,none⟩=some (int i64 d.stop):=(Blk.cell K6.o 13).trans rfl;by_cases h3:tc=0
     ·have HEND3:=U (HEND2.o h3);subst h3;cases hw:Ap d.u 0 1000000000 with
      |false =>
       rw[hw]at HIW HEND3;have e1:r=3:=HEND3.o.trans rfl;subst e1;clear hw;go_wp2_with (first|(go_at_call_has 100 d.u;refine(HIW.o _).mono ?_;rintro e w' ⟨rfl,rfl⟩)|(go_at_call_has 100 d.stop;refine(HIS.o _).mono ?_;rintro e w' ⟨rfl,rfl⟩))
       go_ret
       exact⟨rfl,B6.o⟩
      |true =>
       rw[hw]at HIW HEND3;clear hw;cases hw:Ap d.stop (-1) 1000000000 with
       |false =>
        rw[hw]at HIS HEND3;have e1:r=3:=HEND3.o.trans rfl;subst e1;clear hw;go_wp2_with (first|(go_at_call_has 100 d.u;refine(HIW.o _).mono ?_;rintro e w' ⟨rfl,rfl⟩)|(go_at_call_has 100 d.stop;refine(HIS.o _).mono ?_;rintro e w' ⟨rfl,rfl⟩))
        go_ret
        exact⟨rfl,B6.o⟩
       |true =>
        rw[hw]at HIS HEND3;have e1:r=0:=HEND3.o.trans rfl;subst e1;clear hw;go_wp2_with (first|(go_at_call_has 100 d.u;refine(HIW.o _).mono ?_;rintro e w' ⟨rfl,rfl⟩)|(go_at_call_has 100 d.stop;refine(HIS.o _).mono ?_;rintro e w' ⟨rfl,rfl⟩))
        go_ret
        exact⟨rfl,B6.o⟩
     ·have e1:r=tc:=HTAP2.o h3;subst e1;have hne:(r != 0)=true:=DV h3;go_wp2_with fail
      go_ret
      exact⟨rfl,B6.o⟩
    ·have hn2:((nT:Int) != 2)=true:=DV (by omega);have e1:r=1:=HFORM.o (by rw[aG h2];rfl);subst e1;go_wp2_with fail
     go_ret
     exact⟨rfl,B5.o⟩
theorem AtW.of {w:World} {p:Nat} {t:TypeId} {cs:List Value} {f:List Addr} {d:Am}(K:Blk w p t cs.toArray)(h:AC w f cs d):AtW w p f d :=
 ⟨cs,h,fun q hq =>(K.cell q).trans (by rw[List.getElem?_toArray];exact aO hq),K.lt⟩
