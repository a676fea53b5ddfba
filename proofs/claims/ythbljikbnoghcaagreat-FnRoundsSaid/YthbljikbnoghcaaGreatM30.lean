/-
  Part 30 of the proof; the last part states and proves the statement.
-/
import Derived.Test.YthbljikbnoghcaaGreatM29
import Derived.Test.YthbljikbnoghcaaGreatM26
import Derived.Test.YthbljikbnoghcaaGreatM10
import Derived.Test.YthbljikbnoghcaaGreatM27
import Derived.Test.YthbljikbnoghcaaGreatM24
set_option maxHeartbeats 8000000
set_option maxRecDepth 100000
set_option linter.unusedVariables false
set_option linter.unusedSimpArgs false
open Go.Value (int)
open Go.IntKind (i64)
namespace Go.Proofs.YthbljikbnoghcaaGreat
open Go.RowKit Go.Lib Go.Sort
theorem Gy(d:Au)(cs:List Value)(f:List Addr)(w:World)(h:AD w f cs d) :
  Calls Tryz.prog 26 #[.agg cs.toArray] w fun e w' => e= .returned (int i64 (AI d))∧Below w.heap.size w w':=by
 have hrw:=h;dsimp only[AD]at h;obtain⟨v0,v1,v2,f0,f1,f2,rfl,-,o0,o1,o2,o3,o4,o5,o6,o7,o8,o9,o10,r0,r1,r2⟩:=h;obtain⟨A0,c0,rfl,m0,m0'⟩:=rSl.head r0;obtain⟨A1,c1,rfl,m1,m1'⟩:=rSl.head r1;obtain⟨A2,c2,rfl,m2,m2'⟩:=rSl.head r2;obtain⟨nG,hnG⟩:∃nG,d.g.length=nG:=⟨_,rfl⟩;obtain⟨nO,hnO⟩:∃nO,d.on.length=nO:=⟨_,rfl⟩;obtain⟨nT,hnT⟩:∃nT,d.v.length=nT:=⟨_,rfl⟩;rw[hnG]at r0 m0⊢;rw[hnO]at r1 m1⊢;rw[hnT]at r2 m2⊢;rw[hnG,hnO,hnT]at hrw;have HRW:=hid hrw;have HNG:=hid hnG;have HNO:=hid hnO;have HNT:=hid hnT;have hb1:Below w.heap.size w (w.alloc (.cells #[int i64 d.s.g,int i64 d.s.c,int i64 d.s.data,int i64 d.s.p,int i64 d.s.rows,int i64 d.s.cap,int i64 d.s.b,int i64 d.s.q,int i64 d.s.t,.slice A0 nG c0,.slice A1 nO c1,.slice A2 nT c2,int i64 d.u,int i64 d.stop,.bool d.down] 31)):=(Below.refl _ _).alloc (Nat.le_refl _) _;have hk1:Blk (w.alloc (.cells #[int i64 d.s.g,int i64 d.s.c,int i64 d.s.data,int i64 d.s.p,int i64 d.s.rows,int i64 d.s.cap,int i64 d.s.b,int i64 d.s.q,int i64 d.s.t,.slice A0 nG c0,.slice A1 nO c1,.slice A2 nT c2,int i64 d.u,int i64 d.stop,.bool d.down] 31)) w.heap.size 31 #[int i64 d.s.g,int i64 d.s.c,int i64 d.s.data,int i64 d.s.p,int i64 d.s.rows,int i64 d.s.cap,int i64 d.s.b,int i64 d.s.q,int i64 d.s.t,.slice A0 nG c0,.slice A1 nO c1,.slice A2 nT c2,int i64 d.u,int i64 d.stop,.bool d.down]:=Blk.new _ _ _;have K1:=hid hk1;have HB1:=hid hb1;have R0:=hid (rSl.below (Am.local_ Av.local_) (Am.fixed Av.fixed) r0 hb1);have R1:=hid (rSl.below As.local_ As.fixed r1 hb1);have R2:=hid (rSl.below AK.local_ AK.fixed r2 hb1);clear hrw r0 r1 r2 hb1 hk1 hnG hnO hnT;have K2:=K1;have B2:=HB1;obtain⟨r,hr⟩:∃r,AI d=r:=⟨_,rfl⟩;rw[hr];have HRV:=hid hr;have HSF:=hid (CN d.s.sh (w.alloc (.cells #[int i64 d.s.g,int i64 d.s.c,int i64 d.s.data,int i64 d.s.p,int i64 d.s.rows,int i64 d.s.cap,int i64 d.s.b,int i64 d.s.q,int i64 d.s.t,.slice A0 nG c0,.slice A1 nO c1,.slice A2 nT c2,int i64 d.u,int i64 d.stop,.bool d.down] 31)));have HRS:=hid (Blk.range K1.out 0 [int i64 d.s.g,int i64 d.s.c,int i64 d.s.data,int i64 d.s.p,int i64 d.s.rows,int i64 d.s.cap,int i64 d.s.b,int i64 d.s.q,int i64 d.s.t] rfl);have HIW:=hid (fun(W:World) => AX d.u 0 1000000000 W);have HIS:=hid (fun(W:World) => AX d.stop (-1) 1000000000 W);clear hr;cases hsb:shB d.s.sh with
 |false =>
  rw[Ej hsb]at HSF;have e1:r=3:=by rw[← HRV.out];exact Hc hsb
  subst e1;unfold shV at HSF;clear hsb;go_enter Tryz.func26,Tryz.ntmps26
  go_wp2_with (refine wpList_load_mid rfl 25 _ rfl w.heap.size 0 rfl _ _ HRS.out Tryz.underlying25 rfl (by kernel_rfl) ?_)
  refine HSF.out.mono ?_;rintro e w3 ⟨rfl,b3⟩;have K3:=hid (K2.out.below b3 K2.out.lt);have B3:=hid (B2.out.trans (b3.mono B2.out.size));have z3:w.heap.size<w3.heap.size:=K3.out.lt;have HR3:=hid (Blk.range K3.out 0 [int i64 d.s.g,int i64 d.s.c,int i64 d.s.data,int i64 d.s.p,int i64 d.s.rows,int i64 d.s.cap,int i64 d.s.b,int i64 d.s.q,int i64 d.s.t,.slice A0 nG c0,.slice A1 nO c1,.slice A2 nT c2,int i64 d.u,int i64 d.stop,.bool d.down] rfl);clear b3;go_wp2_with fail
  go_ret
  exact⟨rfl,B3.out⟩
 |true =>
  rw[DX hsb]at HSF;have hs:=CJ hsb;have HGR:=hid (fun(W:World) (hW:Below w.heap.size w W) => KO d hs _ _ W (Aw.below AD.local_ AD.fixed HRW.out hW));have HON:=hid (fun(W:World) (hW:Below w.heap.size w W) => onOK_c d hs _ _ W (Aw.below AD.local_ AD.fixed HRW.out hW));have HTF:=hid (fun(W:World) (hW:Below w.heap.size w W) => Ju d hsb _ _ W (Aw.below AD.local_ AD.fixed HRW.out hW));have HFORM:=hid (fun h2 => HRV.out.symm.trans (H6 (d:=d) hsb h2));have HTAP:=hid (fun h2 h3 => HRV.out.symm.trans (Hd (d:=d) hsb h2 h3));have HEND:=hid (fun h2 h3 => HRV.out.symm.trans (Ix (d:=d) hsb h2 h3));unfold shV at HSF;obtain⟨gb,hgb⟩:∃gb,BR d.s.sh d.g=gb:=⟨_,rfl⟩;obtain⟨ob,hob⟩:∃ob,onB d.s.sh d.on d.down=ob:=⟨_,rfl⟩;obtain⟨tc,htc⟩:∃tc,Bf d.s.sh d.v=tc:=⟨_,rfl⟩;rw[hgb]at HGR HFORM HTAP HEND;rw[hob]at HON HFORM HTAP HEND;rw[htc]at HTF HTAP HEND;rw[HNT.out]at HFORM HTAP HEND;clear hsb hs hgb hob htc;go_enter Tryz.func26,Tryz.ntmps26
  go_wp2_with (refine wpList_load_mid rfl 25 _ rfl w.heap.size 0 rfl _ _ HRS.out Tryz.underlying25 rfl (by kernel_rfl) ?_)
  refine HSF.out.mono ?_;rintro e w3 ⟨rfl,b3⟩;have K3:=hid (K2.out.below b3 K2.out.lt);have B3:=hid (B2.out.trans (b3.mono B2.out.size));have z3:w.heap.size<w3.heap.size:=K3.out.lt;have HR3:=hid (Blk.range K3.out 0 [int i64 d.s.g,int i64 d.s.c,int i64 d.s.data,int i64 d.s.p,int i64 d.s.rows,int i64 d.s.cap,int i64 d.s.b,int i64 d.s.q,int i64 d.s.t,.slice A0 nG c0,.slice A1 nO c1,.slice A2 nT c2,int i64 d.u,int i64 d.stop,.bool d.down] rfl);clear b3;go_wp2_with (refine wpList_load_mid rfl 31 _ rfl w.heap.size 0 rfl _ _ HR3.out Tryz.underlying31 rfl (by kernel_rfl) ?_)
  refine(HGR.out _ B3.out).mono ?_;rintro e w4 ⟨rfl,b4⟩;have K4:=hid (K3.out.below b4 K3.out.lt);have B4:=hid (B3.out.trans (b4.mono B3.out.size));have z4:w.heap.size<w4.heap.size:=K4.out.lt;have HR4:=hid (Blk.range K4.out 0 [int i64 d.s.g,int i64 d.s.c,int i64 d.s.data,int i64 d.s.p,int i64 d.s.rows,int i64 d.s.cap,int i64 d.s.b,int i64 d.s.q,int i64 d.s.t,.slice A0 nG c0,.slice A1 nO c1,.slice A2 nT c2,int i64 d.u,int i64 d.stop,.bool d.down] rfl);clear b4;have p0:w4.cell? ⟨w.heap.size,0,none⟩=some (int i64 d.s.g):=(Blk.cell K4.out 0).trans rfl;have p1:w4.cell? ⟨w.heap.size,1,none⟩=some (int i64 d.s.c):=(Blk.cell K4.out 1).trans rfl;have p2:w4.cell? ⟨w.heap.size,2,none⟩=some (int i64 d.s.data):=(Blk.cell K4.out 2).trans rfl;have p3:w4.cell? ⟨w.heap.size,3,none⟩=some (int i64 d.s.p):=(Blk.cell K4.out 3).trans rfl;have p4:w4.cell? ⟨w.heap.size,4,none⟩=some (int i64 d.s.rows):=(Blk.cell K4.out 4).trans rfl;have p5:w4.cell? ⟨w.heap.size,5,none⟩=some (int i64 d.s.cap):=(Blk.cell K4.out 5).trans rfl;have p6:w4.cell? ⟨w.heap.size,6,none⟩=some (int i64 d.s.b):=(Blk.cell K4.out 6).trans rfl;have p7:w4.cell? ⟨w.heap.size,7,none⟩=some (int i64 d.s.q):=(Blk.cell K4.out 7).trans rfl;have p8:w4.cell? ⟨w.heap.size,8,none⟩=some (int i64 d.s.t):=(Blk.cell K4.out 8).trans rfl;have p9:w4.cell? ⟨w.heap.size,9,none⟩=some (.slice A0 nG c0):=(Blk.cell K4.out 9).trans rfl;have p10:w4.cell? ⟨w.heap.size,10,none⟩=some (.slice A1 nO c1):=(Blk.cell K4.out 10).trans rfl;have p11:w4.cell? ⟨w.heap.size,11,none⟩=some (.slice A2 nT c2):=(Blk.cell K4.out 11).trans rfl;have p12:w4.cell? ⟨w.heap.size,12,none⟩=some (int i64 d.u):=(Blk.cell K4.out 12).trans rfl;have p13:w4.cell? ⟨w.heap.size,13,none⟩=some (int i64 d.stop):=(Blk.cell K4.out 13).trans rfl;have p14:w4.cell? ⟨w.heap.size,14,none⟩=some (.bool d.down):=(Blk.cell K4.out 14).trans rfl;cases gb with
  |false =>
   have e1:r=1:=HFORM.out rfl;subst e1;go_wp2_with fail
   go_ret
   exact⟨rfl,B4.out⟩
  |true =>
   go_wp2_with (refine wpList_load_mid rfl 31 _ rfl w.heap.size 0 rfl _ _ HR4.out Tryz.underlying31 rfl (by kernel_rfl) ?_)
   refine(HON.out _ B4.out).mono ?_;rintro e w5 ⟨rfl,b5⟩;have K5:=hid (K4.out.below b5 K4.out.lt);have B5:=hid (B4.out.trans (b5.mono B4.out.size));have z5:w.heap.size<w5.heap.size:=K5.out.lt;have HR5:=hid (Blk.range K5.out 0 [int i64 d.s.g,int i64 d.s.c,int i64 d.s.data,int i64 d.s.p,int i64 d.s.rows,int i64 d.s.cap,int i64 d.s.b,int i64 d.s.q,int i64 d.s.t,.slice A0 nG c0,.slice A1 nO c1,.slice A2 nT c2,int i64 d.u,int i64 d.stop,.bool d.down] rfl);clear b5;clear p0 p1 p2 p3 p4 p5 p6 p7 p8 p9 p10 p11 p12 p13 p14;have p11:w5.cell? ⟨w.heap.size,11,none⟩=some (.slice A2 nT c2):=(Blk.cell K5.out 11).trans rfl;cases ob with
   |false =>
    have e1:r=1:=HFORM.out rfl;subst e1;go_wp2_with fail
    go_ret
    exact⟨rfl,B5.out⟩
   |true =>
    by_cases h2:nT=2
    ·have hn2:((nT:Int) != 2)=false:=EB (by omega);have hall:(true && (true && decide (nT=2)))=true:=by rw[decide_eq_true h2];rfl
     have HTAP2:=hid (HTAP.out hall);have HEND2:=hid (HEND.out hall);clear h2 hall HTAP HEND HFORM;go_wp2_with (refine wpList_load_mid rfl 31 _ rfl w.heap.size 0 rfl _ _ HR5.out Tryz.underlying31 rfl (by kernel_rfl) ?_)
     refine(HTF.out _ B5.out).mono ?_;rintro e w6 ⟨rfl,b6⟩;have K6:=hid (K5.out.below b6 K5.out.lt);have B6:=hid (B5.out.trans (b6.mono B5.out.size));have z6:w.heap.size<w6.heap.size:=K6.out.lt;have HR6:=hid (Blk.range K6.out 0 [int i64 d.s.g,int i64 d.s.c,int i64 d.s.data,int i64 d.s.p,int i64 d.s.rows,int i64 d.s.cap,int i64 d.s.b,int i64 d.s.q,int i64 d.s.t,.slice A0 nG c0,.slice A1 nO c1,.slice A2 nT c2,int i64 d.u,int i64 d.stop,.bool d.down] rfl);clear b6;clear p11;have p12:w6.cell? ⟨w.heap.size,12,none⟩=some (int i64 d.u):=(Blk.cell K6.out 12).trans rfl;have p13:w6.cell? ⟨w.heap.size,13,none⟩=some (int i64 d.stop):=(Blk.cell K6.out 13).trans rfl;by_cases h3:tc=0
     ·have HEND3:=hid (HEND2.out h3);subst h3;cases hw:Al d.u 0 1000000000 with
      |false =>
       rw[hw]at HIW HEND3;have e1:r=3:=HEND3.out.trans rfl;subst e1;clear hw;go_wp2_with (first|(go_at_call_has 61 d.u;refine(HIW.out _).mono ?_;rintro e w' ⟨rfl,rfl⟩)|(go_at_call_has 61 d.stop;refine(HIS.out _).mono ?_;rintro e w' ⟨rfl,rfl⟩))
       go_ret
       exact⟨rfl,B6.out⟩
      |true =>
       rw[hw]at HIW HEND3;clear hw;cases hw:Al d.stop (-1) 1000000000 with
       |false =>
        rw[hw]at HIS HEND3;have e1:r=3:=HEND3.out.trans rfl;subst e1;clear hw;go_wp2_with (first|(go_at_call_has 61 d.u;refine(HIW.out _).mono ?_;rintro e w' ⟨rfl,rfl⟩)|(go_at_call_has 61 d.stop;refine(HIS.out _).mono ?_;rintro e w' ⟨rfl,rfl⟩))
        go_ret
        exact⟨rfl,B6.out⟩
       |true =>
        rw[hw]at HIS HEND3;have e1:r=0:=HEND3.out.trans rfl;subst e1;clear hw;go_wp2_with (first|(go_at_call_has 61 d.u;refine(HIW.out _).mono ?_;rintro e w' ⟨rfl,rfl⟩)|(go_at_call_has 61 d.stop;refine(HIS.out _).mono ?_;rintro e w' ⟨rfl,rfl⟩))
        go_ret
        exact⟨rfl,B6.out⟩
     ·have e1:r=tc:=HTAP2.out h3;subst e1;have hne:(r != 0)=true:=FL h3;go_wp2_with fail
      go_ret
      exact⟨rfl,B6.out⟩
    ·have hn2:((nT:Int) != 2)=true:=FL (by omega);have e1:r=1:=HFORM.out (by rw[decide_eq_false h2];rfl);subst e1;go_wp2_with fail
     go_ret
     exact⟨rfl,B5.out⟩
end Go.Proofs.YthbljikbnoghcaaGreat
