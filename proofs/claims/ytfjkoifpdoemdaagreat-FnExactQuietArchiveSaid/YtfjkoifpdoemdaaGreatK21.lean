/-
  Part 21 of the proof; the last part states and proves the statement.
-/
import Derived.Test.YtfjkoifpdoemdaaGreatK14
import Derived.Test.YtfjkoifpdoemdaaGreatK15
import Derived.Test.YtfjkoifpdoemdaaGreatK16
import Derived.Test.YtfjkoifpdoemdaaGreatK20
set_option maxHeartbeats 8000000
set_option maxRecDepth 100000
set_option linter.unusedVariables false
set_option linter.unusedSimpArgs false
open Go.Value (int)
open Go.IntKind (i64)
namespace Go.Proofs.YtfjkoifpdoemdaaGreat
open Go.RowKit Go.Lib Go.Sort
theorem IN(s:Sh)(hsb:shB s=true)(x:Ag)(cs:List Value)(f:List Addr)(w:World)(h:Ac w f cs x) :
  Calls Tryz.prog 85 #[shV s,.agg cs.toArray] w fun e w' => e= .returned (int i64 (Az s x))∧Below w.heap.size w w':=by
 cases hk:Aj x.kind 1 4 with
 |false => exact Gd s hsb x cs f w h (.inl hk)
 |true =>
  cases hq:Aj x.seq 1 1000000000 with
  |false => exact Gd s hsb x cs f w h (.inr hq)
  |true =>
   rcases kind4 hk with h1|h1|h1|h1
   ·have:=LK s hsb x cs f w h h1 hq;rwa [Mv h1 hq]at this
   ·have:=LM s hsb x cs f w h h1 hq;rwa [Mw h1 hq]at this
   ·have:=LN s hsb x cs f w h h1 hq;rwa [Mx h1 hq]at this
   ·have:=LO s hsb x cs f w h h1 hq;rwa [My h1 hq]at this
theorem any2 {α:Type} {l:List α}(h:l.length=2)(p:α→Bool) {a b:Bool}(h0:p l[0] =a)(h1:p l[1] =b):l.any p=(a||b):=by
 subst h0 h1;match l,h with
 | [x,y],_ => simp
theorem GJ(d:AC)(hform:shB d.s.sh=true→(Bo d.s.sh d.g && (onB d.s.sh d.on d.down && decide (d.v.length=2)))=false)(cs:List Value)(f:List Addr)(w:World)(h:AB w f cs d) :
  Calls Tryz.prog 34 #[.agg cs.toArray] w fun e w' => e= .returned (int i64 (AI d))∧Below w.heap.size w w':=by
 have hrw:=h;dsimp only[AB]at h;obtain⟨v0,v1,v2,f0,f1,f2,rfl,-,o0,o1,o2,o3,o4,o5,o6,o7,o8,o9,o10,r0,r1,r2⟩:=h;obtain⟨A0,c0,rfl,m0,m0'⟩:=rSl.head r0;obtain⟨A1,c1,rfl,m1,m1'⟩:=rSl.head r1;obtain⟨A2,c2,rfl,m2,m2'⟩:=rSl.head r2;obtain⟨nG,hnG⟩:∃nG,d.g.length=nG:=⟨_,rfl⟩;obtain⟨nO,hnO⟩:∃nO,d.on.length=nO:=⟨_,rfl⟩;obtain⟨nT,hnT⟩:∃nT,d.v.length=nT:=⟨_,rfl⟩;rw[hnG]at r0 m0⊢;rw[hnO]at r1 m1⊢;rw[hnT]at r2 m2⊢;rw[hnG,hnO,hnT]at hrw;have HRW:=hid hrw;have HNG:=hid hnG;have HNO:=hid hnO;have HNT:=hid hnT;have hb1:Below w.heap.size w (w.alloc (.cells #[int i64 d.s.g,int i64 d.s.c,int i64 d.s.data,int i64 d.s.p,int i64 d.s.rows,int i64 d.s.cap,int i64 d.s.b,int i64 d.s.q,int i64 d.s.t,.slice A0 nG c0,.slice A1 nO c1,.slice A2 nT c2,int i64 d.u,int i64 d.stop,.bool d.down] 35)):=(Below.refl _ _).alloc (Nat.le_refl _) _;have hk1:Blk (w.alloc (.cells #[int i64 d.s.g,int i64 d.s.c,int i64 d.s.data,int i64 d.s.p,int i64 d.s.rows,int i64 d.s.cap,int i64 d.s.b,int i64 d.s.q,int i64 d.s.t,.slice A0 nG c0,.slice A1 nO c1,.slice A2 nT c2,int i64 d.u,int i64 d.stop,.bool d.down] 35)) w.heap.size 35 #[int i64 d.s.g,int i64 d.s.c,int i64 d.s.data,int i64 d.s.p,int i64 d.s.rows,int i64 d.s.cap,int i64 d.s.b,int i64 d.s.q,int i64 d.s.t,.slice A0 nG c0,.slice A1 nO c1,.slice A2 nT c2,int i64 d.u,int i64 d.stop,.bool d.down]:=Blk.new _ _ _;have K1:=hid hk1;have HB1:=hid hb1;have R0:=hid (rSl.below (Ai.local_ Ak.local_) (Ai.fixed Ak.fixed) r0 hb1);have R1:=hid (rSl.below Al.local_ Al.fixed r1 hb1);have R2:=hid (rSl.below As.local_ As.fixed r2 hb1);clear hrw r0 r1 r2 hb1 hk1 hnG hnO hnT;have K2:=K1;have B2:=HB1;obtain⟨r,hr⟩:∃r,AI d=r:=⟨_,rfl⟩;rw[hr];have HRV:=hid hr;have HSF:=hid (Bu d.s.sh (w.alloc (.cells #[int i64 d.s.g,int i64 d.s.c,int i64 d.s.data,int i64 d.s.p,int i64 d.s.rows,int i64 d.s.cap,int i64 d.s.b,int i64 d.s.q,int i64 d.s.t,.slice A0 nG c0,.slice A1 nO c1,.slice A2 nT c2,int i64 d.u,int i64 d.stop,.bool d.down] 35)));have HRS:=hid (Blk.range K1.out 0 [int i64 d.s.g,int i64 d.s.c,int i64 d.s.data,int i64 d.s.p,int i64 d.s.rows,int i64 d.s.cap,int i64 d.s.b,int i64 d.s.q,int i64 d.s.t] rfl);have HIW:=hid (fun(W:World) => Bh d.u 0 1000000000 W);have HIS:=hid (fun(W:World) => Bh d.stop (-1) 1000000000 W);clear hr;cases hsb:shB d.s.sh with
 |false =>
  rw[EW hsb]at HSF;have e1:r=3:=by rw[← HRV.out];exact E1 hsb
  subst e1;unfold shV at HSF;clear hsb hform;go_enter Tryz.func34,Tryz.ntmps34
  go_wp2_with (refine wpList_load_mid rfl 31 _ rfl w.heap.size 0 rfl _ _ HRS.out Tryz.underlying31 rfl (by kernel_rfl) ?_)
  refine HSF.out.mono ?_;rintro e w3 ⟨rfl,b3⟩;have K3:=hid (K2.out.below b3 K2.out.lt);have B3:=hid (B2.out.trans (b3.mono B2.out.size));have z3:w.heap.size<w3.heap.size:=K3.out.lt;have HR3:=hid (Blk.range K3.out 0 [int i64 d.s.g,int i64 d.s.c,int i64 d.s.data,int i64 d.s.p,int i64 d.s.rows,int i64 d.s.cap,int i64 d.s.b,int i64 d.s.q,int i64 d.s.t,.slice A0 nG c0,.slice A1 nO c1,.slice A2 nT c2,int i64 d.u,int i64 d.stop,.bool d.down] rfl);clear b3;go_wp2_with fail
  go_ret
  exact⟨rfl,B3.out⟩
 |true =>
  rw[BZ hsb]at HSF;have hs:=Cv hsb;have hal2:okI (d.s.sh.g+d.s.sh.c - 1):=by
   obtain⟨a1,a2⟩:=hs.g;obtain⟨a3,a4⟩:=hs.c;exact⟨by omega,by omega⟩
  have HGR:=hid (fun(W:World) (hW:Below w.heap.size w W) => IB d hs _ _ W (Ap.below AB.local_ AB.fixed HRW.out hW));have HAL:=hid (fun(W:World) => Dz d.s.sh hs W);have HAP:=hid (fun(W:World) (hW:Below (w.alloc (.cells #[int i64 d.s.g,int i64 d.s.c,int i64 d.s.data,int i64 d.s.p,int i64 d.s.rows,int i64 d.s.cap,int i64 d.s.b,int i64 d.s.q,int i64 d.s.t,.slice A0 nG c0,.slice A1 nO c1,.slice A2 nT c2,int i64 d.u,int i64 d.stop,.bool d.down] 35)).heap.size (w.alloc (.cells #[int i64 d.s.g,int i64 d.s.c,int i64 d.s.data,int i64 d.s.p,int i64 d.s.rows,int i64 d.s.cap,int i64 d.s.b,int i64 d.s.q,int i64 d.s.t,.slice A0 nG c0,.slice A1 nO c1,.slice A2 nT c2,int i64 d.u,int i64 d.stop,.bool d.down] 35)) W) => F7 (.slice A1 nO c1) d.on (d.s.sh.g+d.s.sh.c - 1) _ W (rSl.below Al.local_ Al.fixed R1.out hW));have HRF:=hid (fun(x:Ag) (cs:List Value) (f:List Addr) (W:World) (hR:Ac W f cs x) => IN d.s.sh hsb x cs f W hR);have HFORM:=hid (fun h2 => HRV.out.symm.trans (Fs (d:=d) hsb h2));have HBAD:=hid (show(Bo d.s.sh d.g && (onB d.s.sh d.on d.down && decide (d.v.length=2)))=false from hform hsb);have HTAP:=hid (fun h2 h3 => HRV.out.symm.trans (DW (d:=d) hsb h2 h3));have HEND:=hid (fun h2 h3 => HRV.out.symm.trans (Es (d:=d) hsb h2 h3));unfold shV at HSF HAL HRF;obtain⟨gb,hgb⟩:∃gb,Bo d.s.sh d.g=gb:=⟨_,rfl⟩;obtain⟨ob,hob⟩:∃ob,onB d.s.sh d.on d.down=ob:=⟨_,rfl⟩;obtain⟨dn,hdn⟩:∃dn,d.down=dn:=⟨_,rfl⟩;have HDN:=hid hdn;rw[hgb]at HGR HFORM HTAP HEND HBAD;rw[hob]at HFORM HTAP HEND HBAD;rw[HNT.out]at HFORM HTAP HEND HBAD;unfold onB at hob;obtain⟨ap,hap⟩:∃ap,CV d.on (d.s.sh.g+d.s.sh.c - 1)=ap:=⟨_,rfl⟩;obtain⟨al,hal⟩:∃al,d.s.sh.g+d.s.sh.c=al:=⟨_,rfl⟩;rw[hap,HNO.out,hdn]at hob;rw[hdn]at HGR;rw[hap]at HAP;rw[hal]at HAP HAL hal2;have ew:IntKind.i64.wrap (al - 1)=al - 1:=IntWalk.i64_in _ (by have:=hal2.1;have:=hal2.2;omega);have HOB:=hid hob.symm;clear hsb hs hgb hob hap hal hal2 hdn hform;go_enter Tryz.func34,Tryz.ntmps34
  go_wp2_with (refine wpList_load_mid rfl 31 _ rfl w.heap.size 0 rfl _ _ HRS.out Tryz.underlying31 rfl (by kernel_rfl) ?_)
  refine HSF.out.mono ?_;rintro e w3 ⟨rfl,b3⟩;have BW:=hid b3;have K3:=hid (K2.out.below b3 K2.out.lt);have B3:=hid (B2.out.trans (b3.mono B2.out.size));have z3:w.heap.size<w3.heap.size:=K3.out.lt;have HR3:=hid (Blk.range K3.out 0 [int i64 d.s.g,int i64 d.s.c,int i64 d.s.data,int i64 d.s.p,int i64 d.s.rows,int i64 d.s.cap,int i64 d.s.b,int i64 d.s.q,int i64 d.s.t,.slice A0 nG c0,.slice A1 nO c1,.slice A2 nT c2,int i64 d.u,int i64 d.stop,.bool d.down] rfl);clear b3;have u0:=cell_regrown (show w3.cell? ⟨w.heap.size,0,none⟩=some (int i64 d.s.g)from(Blk.cell K3.out 0).trans rfl);have u1:=cell_regrown (show w3.cell? ⟨w.heap.size,1,none⟩=some (int i64 d.s.c)from(Blk.cell K3.out 1).trans rfl);have u2:=cell_regrown (show w3.cell? ⟨w.heap.size,2,none⟩=some (int i64 d.s.data)from(Blk.cell K3.out 2).trans rfl);have u3:=cell_regrown (show w3.cell? ⟨w.heap.size,3,none⟩=some (int i64 d.s.p)from(Blk.cell K3.out 3).trans rfl);have u4:=cell_regrown (show w3.cell? ⟨w.heap.size,4,none⟩=some (int i64 d.s.rows)from(Blk.cell K3.out 4).trans rfl);have u5:=cell_regrown (show w3.cell? ⟨w.heap.size,5,none⟩=some (int i64 d.s.cap)from(Blk.cell K3.out 5).trans rfl);have u6:=cell_regrown (show w3.cell? ⟨w.heap.size,6,none⟩=some (int i64 d.s.b)from(Blk.cell K3.out 6).trans rfl);have u7:=cell_regrown (show w3.cell? ⟨w.heap.size,7,none⟩=some (int i64 d.s.q)from(Blk.cell K3.out 7).trans rfl);have u8:=cell_regrown (show w3.cell? ⟨w.heap.size,8,none⟩=some (int i64 d.s.t)from(Blk.cell K3.out 8).trans rfl);have u9:=cell_regrown (show w3.cell? ⟨w.heap.size,9,none⟩=some (.slice A0 nG c0)from(Blk.cell K3.out 9).trans rfl);have u10:=cell_regrown (show w3.cell? ⟨w.heap.size,10,none⟩=some (.slice A1 nO c1)from(Blk.cell K3.out 10).trans rfl);have u11:=cell_regrown (show w3.cell? ⟨w.heap.size,11,none⟩=some (.slice A2 nT c2)from(Blk.cell K3.out 11).trans rfl);have u12:=cell_regrown (show w3.cell? ⟨w.heap.size,12,none⟩=some (int i64 d.u)from(Blk.cell K3.out 12).trans rfl);have u13:=cell_regrown (show w3.cell? ⟨w.heap.size,13,none⟩=some (int i64 d.stop)from(Blk.cell K3.out 13).trans rfl);have u14:=cell_regrown (show w3.cell? ⟨w.heap.size,14,none⟩=some (.bool dn)from(Blk.cell K3.out 14).trans (by rw[← HDN.out];rfl));have QB:=hid (AF (w:=w3) (fun W hW => HGR.out W (B3.out.trans (hW.mono B3.out.size))));have QA:=hid (AF (w:=w3) (fun W _ => HAL.out W));have QP:=hid (AF (w:=w3) (fun W hW => HAP.out W (BW.out.trans (hW.mono BW.out.size))));go_wp2_with fail
  cases gb with
  |false =>
   have e1:r=1:=HFORM.out (by rw[HOB.out];rfl);subst e1
   (refine wp_region_quiet_below (by kernel_rfl) (by kernel_rfl) ?_;(repeat(first|go_big_quiet_step (first|(go_at_call 83;exact QB.out _ _)|(go_at_call 37;exact QA.out _ _)|(go_at_call 84;exact QP.out _ _))|quiet_step (first|(go_at_call 83;exact QB.out _ _)|(go_at_call 37;exact QA.out _ _)|(go_at_call 84;exact QP.out _ _))));refine wpQuiet_nil ?_)
   rintro _ ⟨⟨dq,osq⟩,rfl⟩;have HB9:=hid (B3.out.trans ((below_regrown _ dq osq).mono B3.out.size));go_wp2_with fail
   go_ret
   exact⟨rfl,HB9.out⟩
  |true =>
   cases ap with
   |false =>
    have e1:r=1:=HFORM.out (by rw[HOB.out];rfl);subst e1
    (refine wp_region_quiet_below (by kernel_rfl) (by kernel_rfl) ?_;(repeat(first|go_big_quiet_step (first|(go_at_call 83;exact QB.out _ _)|(go_at_call 37;exact QA.out _ _)|(go_at_call 84;exact QP.out _ _))|quiet_step (first|(go_at_call 83;exact QB.out _ _)|(go_at_call 37;exact QA.out _ _)|(go_at_call 84;exact QP.out _ _))));refine wpQuiet_nil ?_)
    rintro _ ⟨⟨dq,osq⟩,rfl⟩;have HB9:=hid (B3.out.trans ((below_regrown _ dq osq).mono B3.out.size));go_wp2_with fail
    go_ret
    exact⟨rfl,HB9.out⟩
   |true =>
    by_cases hcap:(nO:Int)≤d.s.cap
    ·have hc1:¬d.s.cap<(nO:Int):=by omega
     have hc2:decide (d.s.cap<(nO:Int))=false:=decide_eq_false hc1;have hc3:decide ((nO:Int)≤d.s.sh.cap)=true:=decide_eq_true hcap;by_cases h2:nT=2
     ·have hn2:((nT:Int) != 2)=false:=Cu (by omega);have HT2:=hid h2;by_cases hz:dn=true∧0<nO
      ·obtain⟨rfl,hz2⟩:=hz;have hz1:(0:Int)<(nO:Int):=by omega
       have hz3:decide (nO=0)=false:=decide_eq_false (by omega);clear h2;have e1:r=1:=HFORM.out (by rw[HOB.out];rw[hc3,hz3];rfl);subst e1
       (refine wp_region_quiet_below (by kernel_rfl) (by kernel_rfl) ?_;(repeat(first|go_big_quiet_step (first|(go_at_call 83;exact QB.out _ _)|(go_at_call 37;exact QA.out _ _)|(go_at_call 84;exact QP.out _ _))|quiet_step (first|(go_at_call 83;exact QB.out _ _)|(go_at_call 37;exact QA.out _ _)|(go_at_call 84;exact QP.out _ _))));refine wpQuiet_nil ?_)
       rintro _ ⟨⟨dq,osq⟩,rfl⟩;have HB9:=hid (B3.out.trans ((below_regrown _ dq osq).mono B3.out.size));go_wp2_with fail
       go_ret
       exact⟨rfl,HB9.out⟩
      ·have hall:(true && (ob && decide (nT=2)))=true:=by
        rw[HOB.out,hc3,decide_eq_true h2];cases dn with
        |false => cases decide (nO=0) <;> rfl
        |true => rw[decide_eq_true (show nO=0 by simp at hz;omega)];rfl
       have h9:=HBAD.out;rw[hall]at h9;cases h9
     ·have hn2:((nT:Int) != 2)=true:=Dn (by omega);cases dn with
      |false =>
       have e1:r=1:=HFORM.out (by rw[decide_eq_false h2];cases ob <;> rfl);subst e1
       (refine wp_region_quiet_below (by kernel_rfl) (by kernel_rfl) ?_;(repeat(first|go_big_quiet_step (first|(go_at_call 83;exact QB.out _ _)|(go_at_call 37;exact QA.out _ _)|(go_at_call 84;exact QP.out _ _))|quiet_step (first|(go_at_call 83;exact QB.out _ _)|(go_at_call 37;exact QA.out _ _)|(go_at_call 84;exact QP.out _ _))));refine wpQuiet_nil ?_)
       rintro _ ⟨⟨dq,osq⟩,rfl⟩;have HB9:=hid (B3.out.trans ((below_regrown _ dq osq).mono B3.out.size));go_wp2_with fail
       go_ret
       exact⟨rfl,HB9.out⟩
      |true =>
       have e1:r=1:=HFORM.out (by rw[decide_eq_false h2];cases ob <;> rfl);subst e1;by_cases hz:0<nO
       ·have hz1:(0:Int)<(nO:Int):=by omega
        (refine wp_region_quiet_below (by kernel_rfl) (by kernel_rfl) ?_;(repeat(first|go_big_quiet_step (first|(go_at_call 83;exact QB.out _ _)|(go_at_call 37;exact QA.out _ _)|(go_at_call 84;exact QP.out _ _))|quiet_step (first|(go_at_call 83;exact QB.out _ _)|(go_at_call 37;exact QA.out _ _)|(go_at_call 84;exact QP.out _ _))));refine wpQuiet_nil ?_)
        rintro _ ⟨⟨dq,osq⟩,rfl⟩;have HB9:=hid (B3.out.trans ((below_regrown _ dq osq).mono B3.out.size));go_wp2_with fail
        go_ret
        exact⟨rfl,HB9.out⟩
       ·have hz1:¬(0:Int)<(nO:Int):=by omega
        (refine wp_region_quiet_below (by kernel_rfl) (by kernel_rfl) ?_;(repeat(first|go_big_quiet_step (first|(go_at_call 83;exact QB.out _ _)|(go_at_call 37;exact QA.out _ _)|(go_at_call 84;exact QP.out _ _))|quiet_step (first|(go_at_call 83;exact QB.out _ _)|(go_at_call 37;exact QA.out _ _)|(go_at_call 84;exact QP.out _ _))));refine wpQuiet_nil ?_)
        rintro _ ⟨⟨dq,osq⟩,rfl⟩;have HB9:=hid (B3.out.trans ((below_regrown _ dq osq).mono B3.out.size));go_wp2_with fail
        go_ret
        exact⟨rfl,HB9.out⟩
    ·have hc1:d.s.cap<(nO:Int):=by omega
     have hc3:decide ((nO:Int)≤d.s.sh.cap)=false:=decide_eq_false hcap;have e1:r=1:=HFORM.out (by rw[HOB.out];rw[hc3];rfl);subst e1
     (refine wp_region_quiet_below (by kernel_rfl) (by kernel_rfl) ?_;(repeat(first|go_big_quiet_step (first|(go_at_call 83;exact QB.out _ _)|(go_at_call 37;exact QA.out _ _)|(go_at_call 84;exact QP.out _ _))|quiet_step (first|(go_at_call 83;exact QB.out _ _)|(go_at_call 37;exact QA.out _ _)|(go_at_call 84;exact QP.out _ _))));refine wpQuiet_nil ?_)
     rintro _ ⟨⟨dq,osq⟩,rfl⟩;have HB9:=hid (B3.out.trans ((below_regrown _ dq osq).mono B3.out.size));go_wp2_with fail
     go_ret
     exact⟨rfl,HB9.out⟩
theorem LP(d:AC)(hform:shB d.s.sh=true∧(Bo d.s.sh d.g && (onB d.s.sh d.on d.down && decide (d.v.length=2)))=true)(cs:List Value)(f:List Addr)(w:World)(h:AB w f cs d) :
  Calls Tryz.prog 34 #[.agg cs.toArray] w fun e w' => e= .returned (int i64 (AI d))∧Below w.heap.size w w':=by
 have hrw:=h;dsimp only[AB]at h;obtain⟨v0,v1,v2,f0,f1,f2,rfl,-,o0,o1,o2,o3,o4,o5,o6,o7,o8,o9,o10,r0,r1,r2⟩:=h;obtain⟨A0,c0,rfl,m0,m0'⟩:=rSl.head r0;obtain⟨A1,c1,rfl,m1,m1'⟩:=rSl.head r1;obtain⟨A2,c2,rfl,m2,m2'⟩:=rSl.head r2;obtain⟨nG,hnG⟩:∃nG,d.g.length=nG:=⟨_,rfl⟩;obtain⟨nO,hnO⟩:∃nO,d.on.length=nO:=⟨_,rfl⟩;obtain⟨nT,hnT⟩:∃nT,d.v.length=nT:=⟨_,rfl⟩;rw[hnG]at r0 m0⊢;rw[hnO]at r1 m1⊢;rw[hnT]at r2 m2⊢;rw[hnG,hnO,hnT]at hrw;have HRW:=hid hrw;have HNG:=hid hnG;have HNO:=hid hnO;have HNT:=hid hnT;have hb1:Below w.heap.size w (w.alloc (.cells #[int i64 d.s.g,int i64 d.s.c,int i64 d.s.data,int i64 d.s.p,int i64 d.s.rows,int i64 d.s.cap,int i64 d.s.b,int i64 d.s.q,int i64 d.s.t,.slice A0 nG c0,.slice A1 nO c1,.slice A2 nT c2,int i64 d.u,int i64 d.stop,.bool d.down] 35)):=(Below.refl _ _).alloc (Nat.le_refl _) _;have hk1:Blk (w.alloc (.cells #[int i64 d.s.g,int i64 d.s.c,int i64 d.s.data,int i64 d.s.p,int i64 d.s.rows,int i64 d.s.cap,int i64 d.s.b,int i64 d.s.q,int i64 d.s.t,.slice A0 nG c0,.slice A1 nO c1,.slice A2 nT c2,int i64 d.u,int i64 d.stop,.bool d.down] 35)) w.heap.size 35 #[int i64 d.s.g,int i64 d.s.c,int i64 d.s.data,int i64 d.s.p,int i64 d.s.rows,int i64 d.s.cap,int i64 d.s.b,int i64 d.s.q,int i64 d.s.t,.slice A0 nG c0,.slice A1 nO c1,.slice A2 nT c2,int i64 d.u,int i64 d.stop,.bool d.down]:=Blk.new _ _ _;have K1:=hid hk1;have HB1:=hid hb1;have R0:=hid (rSl.below (Ai.local_ Ak.local_) (Ai.fixed Ak.fixed) r0 hb1);have R1:=hid (rSl.below Al.local_ Al.fixed r1 hb1);have R2:=hid (rSl.below As.local_ As.fixed r2 hb1);clear hrw r0 r1 r2 hb1 hk1 hnG hnO hnT;have K2:=K1;have B2:=HB1;obtain⟨r,hr⟩:∃r,AI d=r:=⟨_,rfl⟩;rw[hr];have HRV:=hid hr;have HSF:=hid (Bu d.s.sh (w.alloc (.cells #[int i64 d.s.g,int i64 d.s.c,int i64 d.s.data,int i64 d.s.p,int i64 d.s.rows,int i64 d.s.cap,int i64 d.s.b,int i64 d.s.q,int i64 d.s.t,.slice A0 nG c0,.slice A1 nO c1,.slice A2 nT c2,int i64 d.u,int i64 d.stop,.bool d.down] 35)));have HRS:=hid (Blk.range K1.out 0 [int i64 d.s.g,int i64 d.s.c,int i64 d.s.data,int i64 d.s.p,int i64 d.s.rows,int i64 d.s.cap,int i64 d.s.b,int i64 d.s.q,int i64 d.s.t] rfl);have HIW:=hid (fun(W:World) => Bh d.u 0 1000000000 W);have HIS:=hid (fun(W:World) => Bh d.stop (-1) 1000000000 W);clear hr;cases hsb:shB d.s.sh with
 |false =>
  rw[hsb]at hform;cases hform.1
 |true =>
  rw[BZ hsb]at HSF;have hs:=Cv hsb;have hal2:okI (d.s.sh.g+d.s.sh.c - 1):=by
   obtain⟨a1,a2⟩:=hs.g;obtain⟨a3,a4⟩:=hs.c;exact⟨by omega,by omega⟩
  have HGR:=hid (fun(W:World) (hW:Below w.heap.size w W) => IB d hs _ _ W (Ap.below AB.local_ AB.fixed HRW.out hW));have HAL:=hid (fun(W:World) => Dz d.s.sh hs W);have HAP:=hid (fun(W:World) (hW:Below (w.alloc (.cells #[int i64 d.s.g,int i64 d.s.c,int i64 d.s.data,int i64 d.s.p,int i64 d.s.rows,int i64 d.s.cap,int i64 d.s.b,int i64 d.s.q,int i64 d.s.t,.slice A0 nG c0,.slice A1 nO c1,.slice A2 nT c2,int i64 d.u,int i64 d.stop,.bool d.down] 35)).heap.size (w.alloc (.cells #[int i64 d.s.g,int i64 d.s.c,int i64 d.s.data,int i64 d.s.p,int i64 d.s.rows,int i64 d.s.cap,int i64 d.s.b,int i64 d.s.q,int i64 d.s.t,.slice A0 nG c0,.slice A1 nO c1,.slice A2 nT c2,int i64 d.u,int i64 d.stop,.bool d.down] 35)) W) => F7 (.slice A1 nO c1) d.on (d.s.sh.g+d.s.sh.c - 1) _ W (rSl.below Al.local_ Al.fixed R1.out hW));have HRF:=hid (fun(x:Ag) (cs:List Value) (f:List Addr) (W:World) (hR:Ac W f cs x) => IN d.s.sh hsb x cs f W hR);have HFORM:=hid (fun(h2:(Bo d.s.sh d.g && (onB d.s.sh d.on d.down && decide (d.v.length=2)))=false) => show False from by rw[hform.2]at h2;cases h2);have HBAD:=hid (show True from trivial);have HTAP:=hid (fun h2 h3 => HRV.out.symm.trans (DW (d:=d) hsb h2 h3));have HEND:=hid (fun h2 h3 => HRV.out.symm.trans (Es (d:=d) hsb h2 h3));unfold shV at HSF HAL HRF;obtain⟨gb,hgb⟩:∃gb,Bo d.s.sh d.g=gb:=⟨_,rfl⟩;obtain⟨ob,hob⟩:∃ob,onB d.s.sh d.on d.down=ob:=⟨_,rfl⟩;obtain⟨dn,hdn⟩:∃dn,d.down=dn:=⟨_,rfl⟩;have HDN:=hid hdn;rw[hgb]at HGR HFORM HTAP HEND;rw[hob]at HFORM HTAP HEND;rw[HNT.out]at HFORM HTAP HEND;unfold onB at hob;obtain⟨ap,hap⟩:∃ap,CV d.on (d.s.sh.g+d.s.sh.c - 1)=ap:=⟨_,rfl⟩;obtain⟨al,hal⟩:∃al,d.s.sh.g+d.s.sh.c=al:=⟨_,rfl⟩;rw[hap,HNO.out,hdn]at hob;rw[hdn]at HGR;rw[hap]at HAP;rw[hal]at HAP HAL hal2;have ew:IntKind.i64.wrap (al - 1)=al - 1:=IntWalk.i64_in _ (by have:=hal2.1;have:=hal2.2;omega);have HOB:=hid hob.symm;clear hsb hs hgb hob hap hal hal2 hdn hform;go_enter Tryz.func34,Tryz.ntmps34
  go_wp2_with (refine wpList_load_mid rfl 31 _ rfl w.heap.size 0 rfl _ _ HRS.out Tryz.underlying31 rfl (by kernel_rfl) ?_)
  refine HSF.out.mono ?_;rintro e w3 ⟨rfl,b3⟩;have BW:=hid b3;have K3:=hid (K2.out.below b3 K2.out.lt);have B3:=hid (B2.out.trans (b3.mono B2.out.size));have z3:w.heap.size<w3.heap.size:=K3.out.lt;have HR3:=hid (Blk.range K3.out 0 [int i64 d.s.g,int i64 d.s.c,int i64 d.s.data,int i64 d.s.p,int i64 d.s.rows,int i64 d.s.cap,int i64 d.s.b,int i64 d.s.q,int i64 d.s.t,.slice A0 nG c0,.slice A1 nO c1,.slice A2 nT c2,int i64 d.u,int i64 d.stop,.bool d.down] rfl);clear b3;have u0:=cell_regrown (show w3.cell? ⟨w.heap.size,0,none⟩=some (int i64 d.s.g)from(Blk.cell K3.out 0).trans rfl);have u1:=cell_regrown (show w3.cell? ⟨w.heap.size,1,none⟩=some (int i64 d.s.c)from(Blk.cell K3.out 1).trans rfl);have u2:=cell_regrown (show w3.cell? ⟨w.heap.size,2,none⟩=some (int i64 d.s.data)from(Blk.cell K3.out 2).trans rfl);have u3:=cell_regrown (show w3.cell? ⟨w.heap.size,3,none⟩=some (int i64 d.s.p)from(Blk.cell K3.out 3).trans rfl);have u4:=cell_regrown (show w3.cell? ⟨w.heap.size,4,none⟩=some (int i64 d.s.rows)from(Blk.cell K3.out 4).trans rfl);have u5:=cell_regrown (show w3.cell? ⟨w.heap.size,5,none⟩=some (int i64 d.s.cap)from(Blk.cell K3.out 5).trans rfl);have u6:=cell_regrown (show w3.cell? ⟨w.heap.size,6,none⟩=some (int i64 d.s.b)from(Blk.cell K3.out 6).trans rfl);have u7:=cell_regrown (show w3.cell? ⟨w.heap.size,7,none⟩=some (int i64 d.s.q)from(Blk.cell K3.out 7).trans rfl);have u8:=cell_regrown (show w3.cell? ⟨w.heap.size,8,none⟩=some (int i64 d.s.t)from(Blk.cell K3.out 8).trans rfl);have u9:=cell_regrown (show w3.cell? ⟨w.heap.size,9,none⟩=some (.slice A0 nG c0)from(Blk.cell K3.out 9).trans rfl);have u10:=cell_regrown (show w3.cell? ⟨w.heap.size,10,none⟩=some (.slice A1 nO c1)from(Blk.cell K3.out 10).trans rfl);have u11:=cell_regrown (show w3.cell? ⟨w.heap.size,11,none⟩=some (.slice A2 nT c2)from(Blk.cell K3.out 11).trans rfl);have u12:=cell_regrown (show w3.cell? ⟨w.heap.size,12,none⟩=some (int i64 d.u)from(Blk.cell K3.out 12).trans rfl);have u13:=cell_regrown (show w3.cell? ⟨w.heap.size,13,none⟩=some (int i64 d.stop)from(Blk.cell K3.out 13).trans rfl);have u14:=cell_regrown (show w3.cell? ⟨w.heap.size,14,none⟩=some (.bool dn)from(Blk.cell K3.out 14).trans (by rw[← HDN.out];rfl));have QB:=hid (AF (w:=w3) (fun W hW => HGR.out W (B3.out.trans (hW.mono B3.out.size))));have QA:=hid (AF (w:=w3) (fun W _ => HAL.out W));have QP:=hid (AF (w:=w3) (fun W hW => HAP.out W (BW.out.trans (hW.mono BW.out.size))));go_wp2_with fail
  cases gb with
  |false =>
   exact(HFORM.out (by rw[HOB.out];rfl)).elim
  |true =>
   cases ap with
   |false =>
    exact(HFORM.out (by rw[HOB.out];rfl)).elim
   |true =>
    by_cases hcap:(nO:Int)≤d.s.cap
    ·have hc1:¬d.s.cap<(nO:Int):=by omega
     have hc2:decide (d.s.cap<(nO:Int))=false:=decide_eq_false hc1;have hc3:decide ((nO:Int)≤d.s.sh.cap)=true:=decide_eq_true hcap;by_cases h2:nT=2
     ·have hn2:((nT:Int) != 2)=false:=Cu (by omega);have HT2:=hid h2;by_cases hz:dn=true∧0<nO
      ·obtain⟨rfl,hz2⟩:=hz;have hz1:(0:Int)<(nO:Int):=by omega
       have hz3:decide (nO=0)=false:=decide_eq_false (by omega);clear h2;exact(HFORM.out (by rw[HOB.out];rw[hc3,hz3];rfl)).elim
      ·have hall:(true && (ob && decide (nT=2)))=true:=by
        rw[HOB.out,hc3,decide_eq_true h2];cases dn with
        |false => cases decide (nO=0) <;> rfl
        |true => rw[decide_eq_true (show nO=0 by simp at hz;omega)];rfl
       rcases(show dn=false∨(dn=true∧¬(0:Int)<(nO:Int)∧¬0<nO)from by
        cases dn with
        |false => exact .inl rfl
        |true => exact .inr ⟨rfl,by simp at hz;omega,by simpa using hz⟩)with rfl|⟨rfl,hz1,hz2⟩
       all_goals
        clear hz;clear h2
        (refine wp_region_quiet_below (by kernel_rfl) (by kernel_rfl) ?_;(repeat(first|go_big_quiet_step (first|(go_at_call 83;exact QB.out _ _)|(go_at_call 37;exact QA.out _ _)|(go_at_call 84;exact QP.out _ _))|quiet_step (first|(go_at_call 83;exact QB.out _ _)|(go_at_call 37;exact QA.out _ _)|(go_at_call 84;exact QP.out _ _))));refine wpQuiet_nil ?_)
        rintro _ ⟨⟨dq,osq⟩,rfl⟩;have b5:=below_regrown w3 dq osq;generalize grow (redrawn w3 dq) osq=w5 at b5;have BW5:=hid (BW.out.trans (b5.mono BW.out.size));have K5:=hid (K3.out.below b5 K3.out.lt);have B5:=hid (B3.out.trans (b5.mono B3.out.size));have z5:w.heap.size<w5.heap.size:=K5.out.lt;have HR5:=hid (Blk.range K5.out 0 [int i64 d.s.g,int i64 d.s.c,int i64 d.s.data,int i64 d.s.p,int i64 d.s.rows,int i64 d.s.cap,int i64 d.s.b,int i64 d.s.q,int i64 d.s.t,.slice A0 nG c0,.slice A1 nO c1,.slice A2 nT c2,int i64 d.u,int i64 d.stop,.bool d.down] rfl);clear b5;clear u0 u1 u2 u3 u4 u5 u6 u7 u8 u9 u10 u11 u12 u13 u14 QB QA QP;have HTAP2:=hid (HTAP.out hall);have HEND2:=hid (HEND.out hall);have hT2:d.v.length=2:=HNT.out.trans HT2.out;have h01:0<d.v.length:=by omega
        have h11:1<d.v.length:=by omega
        clear hall HTAP HEND HFORM;obtain⟨A',c',e,hcc,hm,hx⟩:=rSl.at_ As.fixed (by decide) (rSl.below As.local_ As.fixed R2.out BW5.out);injection e with e1 e2 e3
        subst e1 e3;clear e2;have HX0:=hid hx;obtain⟨ad,b1,o1,cs1,fk1,ead,hat⟩:=hx 0 h01;obtain⟨ad',b2,o2,cs2,fk2,ee,hat2⟩:=hx 1 h11;have hp1:=hat.place;have hp2:=hat2.place;have hp11:ad=⟨b1,o1,none⟩:=by
         rw[Nat.zero_mul]at hp1;exact(show ad.add 0=ad from if_pos rfl).symm.trans hp1
        subst ead;injection ee with ee
        subst ee;subst hp11;rw[Addr.add_lit]at hp2;injection hp2 with hp3 hp4
        subst hp3;subst hp4;have hq1:=hat.lt;obtain⟨v1,g1,e1,-,hr1⟩:=hat.reads;subst e1;obtain⟨v2,g2,e2,-,hr2⟩:=hat2.reads;subst e2;have y1:=hat.cell 1 (by simp);have y2:=hat2.cell 1 (by simp);simp only[List.getElem_cons_zero,List.getElem_cons_succ]at y1 y2;obtain⟨A3,c3,rfl,hn3,-⟩:=rSl.head hr1;obtain⟨A4,c4,rfl,hn4,-⟩:=rSl.head hr2;obtain⟨n1,hn1⟩:∃n1,d.v[0].recs.length =n1:=⟨_,rfl⟩;obtain⟨n2,hn2'⟩:∃n2,d.v[1].recs.length =n2:=⟨_,rfl⟩;rw[hn1]at y1 hn3;rw[hn2']at y2 hn4;simp only[Nat.reduceMul]at y2;have y3:w5.cell? ⟨b1,o1+3,none⟩=some (.slice A4 n2 c4):=y2;have HMA:=hid (show d.v.any (fun t => decide (200<t.recs.length))=(decide (200<n1)||decide (200<n2))from any2 hT2 _ (by rw[hn1]) (by rw[hn2']));have HX:=hid (show∀k,(hk:k<d.v.length)→∃ad2 b o cs fk,some (⟨b1,o1,none⟩:Addr)=some ad2∧At 2 As w5 _ ad2 k b o cs fk d.v[k]from HX0.out);have HT2':=hid hT2;have P11:=hid (show w5.cell? ⟨w.heap.size,11,none⟩=some (.slice (some ⟨b1,o1,none⟩) nT c2)from(Blk.cell K5.out 11).trans rfl);have p11:=P11.out;have hn20:(0:Int)<(nT:Int):=by have:=HT2.out;omega
        have hn21:(1:Int)<(nT:Int):=by have:=HT2.out;omega
        clear hat hat2 hr1 hr2 hn1 hn2' hx hm hT2 h01 h11 HX0 hp1;by_cases m1:200<n1
        ·have m1':(200:Int)<(n1:Int):=by omega
         have e1:r=2:=by
          have h9:=Eb (s:=d.s.sh) (HMA.out.trans (by rw[decide_eq_true m1,Bool.true_or]));rw[HTAP2.out (by rw[h9];decide),h9]
         subst e1;go_wp2_with fail
         go_ret
         exact⟨rfl,B5.out⟩
        by_cases m2:200<n2
        ·have m1':¬(200:Int)<(n1:Int):=by omega
         have m2':(200:Int)<(n2:Int):=by omega
         have e1:r=2:=by
          have h9:=Eb (s:=d.s.sh) (HMA.out.trans (by rw[decide_eq_true m2,Bool.or_true]));rw[HTAP2.out (by rw[h9];decide),h9]
         subst e1;go_wp2_with fail
         go_ret
         exact⟨rfl,B5.out⟩
        have HMANY:=hid (show d.v.any (fun t => decide (200<t.recs.length))=false from by rw[HMA.out];simp[m1,m2]);have m1':¬(200:Int)<(n1:Int):=by omega
        have m2':¬(200:Int)<(n2:Int):=by omega
        go_wp2_with fail
        clear y1 y2 y3 m1 m2 m1' m2' p11 hn20 hn21;go_loopw [4,5,6] (fun i _ _ wr =>∃k:Nat,k≤2∧i= int i64 k∧Hid (Cg d.s.sh d.v k)∧Hid (Below w5.heap.size w5 wr)) (fun i _ _ _ => 2 - (intOf i).toNat)
        case atStart => exact⟨0,by omega,rfl,Cg.zero _ _,Below.refl _ _⟩
        case round =>
         obtain⟨k,hk,rfl,HT,HB⟩:=hrel;by_cases hlt:k<2
         ·have hk1:k<d.v.length:=by rw[HT2'.out];exact hlt
          have hki:(k:Int)<2:=by omega
          have hki2:(k:Int)<(nT:Int):=by have:=HT2.out;omega
          obtain⟨adk,bk,ok,csk,fkk,ek,hatk⟩:=HX.out k hk1;injection ek with ek
          subst ek;have hplk:=hatk.place;rw[Addr.add_lit]at hplk;injection hplk with hpb hpo
          subst hpb;subst hpo;obtain⟨vk,gk,ek,-,hrk⟩:=hatk.reads;subst ek;have y0:=hatk.cell 0 (by simp);have y1:=hatk.cell 1 (by simp);simp only[Nat.add_zero,List.getElem_cons_zero,List.getElem_cons_succ]at y0 y1;obtain⟨A5,c5,rfl,hn5,hm5,hx5⟩:=rSl.at_ Ac.fixed (by decide) hrk;have HSTEP:=hid (HT.out.step hk1);have HBAD:=hid (fun(h:AX d.s.sh d.v[k].recs≠0) => show r=AX d.s.sh d.v[k].recs from by
           have h2:=HT.out.bad hk1 h;have h9:=FO HMANY.out (by rw[h2];exact h);rw[HTAP2.out (by rw[h9,h2];exact h),h9,h2])
          have HY:=hid hx5;obtain⟨rs,hrs⟩:∃rs,d.v[k].recs =rs:=⟨_,rfl⟩;rw[hrs]at y1 hn5 HSTEP HBAD HY;obtain⟨nr,hnr⟩:∃nr,rs.length=nr:=⟨_,rfl⟩;rw[hnr]at y1 hn5;have HNR:=hid hnr;have Y1:=hid y1;clear hatk hrk hx5 hrs hnr y0 y1 hk1;go_wp2_with fail
          go_loopw [5,6] (fun i _ wr =>∃i':Nat,i'≤nr∧i= int i64 i'∧Hid (BG (fun x => decide (Az d.s.sh x=0)) rs i')∧Hid (Below w5.heap.size w5 wr)) (fun i _ _ => nr - (intOf i).toNat)
          case atStart => exact⟨0,by omega,rfl,BG.zero _ _,HB.out⟩
          case round =>
           clear HB;obtain⟨i,hi,rfl,HT3,HB⟩:=hrel;have p11:=(HB.out.cell (p:=⟨w.heap.size,11,none⟩) z5).trans P11.out;have y1:=(HB.out.cell (p:=⟨b1,o1+k * 2+1,none⟩) hq1).trans Y1.out;have zw:w.heap.size<wr.heap.size:=Nat.lt_of_lt_of_le z5 HB.out.size;have zb:b1<wr.heap.size:=Nat.lt_of_lt_of_le hq1 HB.out.size;by_cases hlti:i<nr
           ·have hi1:i<rs.length:=by rw[HNR.out];exact hlti
            have hii:(i:Int)<(nr:Int):=by omega
            obtain⟨ad3,b3,o3,cs3,f3,rfl,hat⟩:=HY.out i hi1;have hat2:=hat.below Ac.local_ HB.out;have hpl:=hat.place;have hbl3:=hat2.lt;have hrd:=hat2.reads;obtain⟨x,hx⟩:∃x,rs[i] =x:=⟨_,rfl⟩;have HBADI:=hid (fun(h:Az d.s.sh rs[i]≠0) => show r=Az d.s.sh rs[i]from by
             have h2:=Fy hi1 HT3.out h;rw[HBAD.out (by rw[h2];exact h),h2])
            have HSTI:=hid (fun(h:Az d.s.sh rs[i] =0) => HT3.out.step hi1 (decide_eq_true h));rw[hx]at hrd HBADI HSTI;have HRD:=hid hrd;obtain⟨v3,v4,v5,g3,g4,g5,e3,-⟩:=hrd;subst e3;have q0:=cell_regrown (hat2.cell 0 (by simp));have q1:=cell_regrown (hat2.cell 1 (by simp));have q2:=cell_regrown (hat2.cell 2 (by simp));have q3:=cell_regrown (hat2.cell 3 (by simp));have q4:=cell_regrown (hat2.cell 4 (by simp));have q5:=cell_regrown (hat2.cell 5 (by simp));have q6:=cell_regrown (hat2.cell 6 (by simp));have q7:=cell_regrown (hat2.cell 7 (by simp));have q8:=cell_regrown (hat2.cell 8 (by simp));simp only[Nat.add_zero,List.getElem_cons_zero,List.getElem_cons_succ]at q0 q1 q2 q3 q4 q5 q6 q7 q8;have KW:=hid (K5.out.below HB.out z5);have u0:=cell_regrown (show wr.cell? ⟨w.heap.size,0,none⟩=some (int i64 d.s.g)from(Blk.cell KW.out 0).trans rfl);have u1:=cell_regrown (show wr.cell? ⟨w.heap.size,1,none⟩=some (int i64 d.s.c)from(Blk.cell KW.out 1).trans rfl);have u2:=cell_regrown (show wr.cell? ⟨w.heap.size,2,none⟩=some (int i64 d.s.data)from(Blk.cell KW.out 2).trans rfl);have u3:=cell_regrown (show wr.cell? ⟨w.heap.size,3,none⟩=some (int i64 d.s.p)from(Blk.cell KW.out 3).trans rfl);have u4:=cell_regrown (show wr.cell? ⟨w.heap.size,4,none⟩=some (int i64 d.s.rows)from(Blk.cell KW.out 4).trans rfl);have u5:=cell_regrown (show wr.cell? ⟨w.heap.size,5,none⟩=some (int i64 d.s.cap)from(Blk.cell KW.out 5).trans rfl);have u6:=cell_regrown (show wr.cell? ⟨w.heap.size,6,none⟩=some (int i64 d.s.b)from(Blk.cell KW.out 6).trans rfl);have u7:=cell_regrown (show wr.cell? ⟨w.heap.size,7,none⟩=some (int i64 d.s.q)from(Blk.cell KW.out 7).trans rfl);have u8:=cell_regrown (show wr.cell? ⟨w.heap.size,8,none⟩=some (int i64 d.s.t)from(Blk.cell KW.out 8).trans rfl);have u11:=cell_regrown p11;have t1:=cell_regrown y1;have QR:=hid (AF (w:=wr) (fun W hW => HRF.out x _ f3 W (Ap.below Ac.local_ Ac.fixed HRD.out hW)));obtain⟨rc,hrc⟩:∃rc,Az d.s.sh x=rc:=⟨_,rfl⟩;rw[hrc]at QR HBADI HSTI;have HBW:=hid (B5.out.trans (HB.out.mono B5.out.size));clear hat hat2 hrc hx hi1;by_cases h0:rc=0
            ·have HST:=hid (HSTI.out h0);subst h0;go_wp2_with fail
             (refine wp_region_quiet_below (by kernel_rfl) (by kernel_rfl) ?_;(repeat(first|go_big_quiet_step (first|(go_at_call 85;exact QR.out _ _))|quiet_step (first|(go_at_call 85;exact QR.out _ _))));refine wpQuiet_nil ?_)
             rintro _ ⟨⟨dq,osq⟩,rfl⟩;have HB9:=hid (HB.out.trans ((below_regrown wr dq osq).mono HB.out.size));go_wp2_with fail
             go_roundw
             case rel => exact⟨i+1,by omega,by go_num,HST.out,HB9.out⟩
             case measure => simp[intOf];omega
            ·have e1:r=rc:=HBADI.out h0;subst e1;have hne:(r != 0)=true:=Dn h0;go_wp2_with fail
             (refine wp_region_quiet_below (by kernel_rfl) (by kernel_rfl) ?_;(repeat(first|go_big_quiet_step (first|(go_at_call 85;exact QR.out _ _))|quiet_step (first|(go_at_call 85;exact QR.out _ _))));refine wpQuiet_nil ?_)
             rintro _ ⟨⟨dq,osq⟩,rfl⟩;have HB9:=hid (HBW.out.trans ((below_regrown _ dq osq).mono HBW.out.size));go_wp2_with fail
             go_ret
             exact⟨rfl,HB9.out⟩
           ·obtain rfl:i=nr:=by omega
            have HST:=hid (HSTEP.out (FZ (by rw[HNR.out];exact HT3.out)));go_wp2_with fail
            go_roundw
            case rel => exact⟨k+1,by omega,by go_num,HST.out,HB.out⟩
            case measure => simp[intOf];omega
         ·obtain rfl:k=2:=by omega
          have hall:AX d.s.sh (d.v.flatMap AS.recs)=0:=Cg.all (by rw[HT2'.out];exact HT.out);have HTE:=hid (FN HMANY.out hall);clear hall;obtain⟨w8,rfl⟩:∃w8,w8=wr:=⟨_,rfl⟩;go_wp2_with fail
          go_loopw [7] (fun i wr =>∃k:Nat,k≤2∧i= int i64 k∧Hid (BG (fun t => !(t.wiped && decide (0<t.recs.length))) d.v k)∧wr=w8) (fun i _ => 2 - (intOf i).toNat)
          case atStart => exact⟨0,by omega,rfl,BG.zero _ _,rfl⟩
          case round =>
           obtain⟨k,hk,rfl,HT4,rfl⟩:=hrel;have zw:w.heap.size<wr.heap.size:=Nat.lt_of_lt_of_le z5 HB.out.size;have zb:b1<wr.heap.size:=Nat.lt_of_lt_of_le hq1 HB.out.size;have HBW:=hid (B5.out.trans (HB.out.mono B5.out.size));have KW:=hid (K5.out.below HB.out z5);by_cases hlt:k<2
           ·have hk1:k<d.v.length:=by rw[HT2'.out];exact hlt
            have hki:(k:Int)<2:=by omega
            have hki2:(k:Int)<(nT:Int):=by have:=HT2.out;omega
            have p11:=(HB.out.cell (p:=⟨w.heap.size,11,none⟩) z5).trans P11.out;obtain⟨adk,bk,ok,csk,fkk,ek,hatk⟩:=HX.out k hk1;injection ek with ek
            subst ek;have hplk:=hatk.place;rw[Addr.add_lit]at hplk;injection hplk with hpb hpo
            subst hpb;subst hpo;obtain⟨vk,gk,ek,-,hrk⟩:=hatk.reads;subst ek;have y0:=hatk.cell 0 (by simp);have y1:=hatk.cell 1 (by simp);simp only[Nat.add_zero,List.getElem_cons_zero,List.getElem_cons_succ]at y0 y1;obtain⟨A5,c5,rfl,hn5,hm5⟩:=rSl.head hrk;have x0:=(HB.out.cell (p:=⟨b1,o1+k * 2,none⟩) hq1).trans y0;have x1:=(HB.out.cell (p:=⟨b1,o1+k * 2+1,none⟩) hq1).trans y1;have HST4:=hid (HT4.out.step hk1);have HBAD:=hid (fun(h:(d.v[k].wiped && decide (0<d.v[k].recs.length))=true) => show r=1 from by
             have h9:=HTE.out.trans (if_pos (List.any_eq_true.2 ⟨_,List.getElem_mem hk1,h⟩));rw[HTAP2.out (by rw[h9];decide),h9])
            obtain⟨nr,hnr⟩:∃nr,d.v[k].recs.length =nr:=⟨_,rfl⟩;rw[hnr]at x1 HST4 HBAD;obtain⟨wp,hwp⟩:∃wp,d.v[k].wiped =wp:=⟨_,rfl⟩;rw[hwp]at x0 HST4 HBAD;clear hatk hrk y0 y1 hk1 hwp hnr hn5;cases wp with
            |false =>
             have HST:=hid (HST4.out rfl);go_wp2_with fail
             go_roundw
             case rel => exact⟨k+1,by omega,by go_num,HST.out,trivial⟩
             case measure => simp[intOf];omega
            |true =>
             by_cases h0:0<nr
             ·have h0':(0:Int)<(nr:Int):=by omega
              have e1:r=1:=HBAD.out (by rw[decide_eq_true h0];rfl);subst e1;go_wp2_with fail
              go_ret
              exact⟨rfl,HBW.out⟩
             ·have h0':¬(0:Int)<(nr:Int):=by omega
              have HST:=hid (HST4.out (by rw[decide_eq_false h0];rfl));go_wp2_with fail
              go_roundw
              case rel => exact⟨k+1,by omega,by go_num,HST.out,trivial⟩
              case measure => simp[intOf];omega
           ·obtain rfl:k=2:=by omega
            have hany:d.v.any (fun t => t.wiped && decide (0<t.recs.length))=false:=by
             refine List.any_eq_false.2 fun x hx => ?_
             obtain⟨q,hq,rfl⟩:=List.getElem_of_mem hx;have h7:(!(d.v[q].wiped && decide (0<d.v[q].recs.length)))=true:=HT4.out q hq (by rw[HT2'.out]at hq;exact hq);intro h9;have h8:(d.v[q].wiped && decide (0<d.v[q].recs.length))=true:=h9;rw[h8]at h7;exact absurd h7 (by decide)
            have HEND3:=hid (HEND2.out (HTE.out.trans (if_neg (by rw[hany];exact Bool.false_ne_true))));clear hany;have p12:wr.cell? ⟨w.heap.size,12,none⟩=some (int i64 d.u):=(Blk.cell KW.out 12).trans rfl;have p13:wr.cell? ⟨w.heap.size,13,none⟩=some (int i64 d.stop):=(Blk.cell KW.out 13).trans rfl;cases hw:Aj d.u 0 1000000000 with
            |false =>
             rw[hw]at HIW HEND3;have e1:r=3:=HEND3.out.trans rfl;subst e1;clear hw;go_wp2_with (first|(go_at_call_has 35 d.u;refine(HIW.out _).mono ?_;rintro e w' ⟨rfl,rfl⟩)|(go_at_call_has 35 d.stop;refine(HIS.out _).mono ?_;rintro e w' ⟨rfl,rfl⟩))
             go_ret
             exact⟨rfl,HBW.out⟩
            |true =>
             rw[hw]at HIW HEND3;clear hw;cases hw:Aj d.stop (-1) 1000000000 with
             |false =>
              rw[hw]at HIS HEND3;have e1:r=3:=HEND3.out.trans rfl;subst e1;clear hw;go_wp2_with (first|(go_at_call_has 35 d.u;refine(HIW.out _).mono ?_;rintro e w' ⟨rfl,rfl⟩)|(go_at_call_has 35 d.stop;refine(HIS.out _).mono ?_;rintro e w' ⟨rfl,rfl⟩))
              go_ret
              exact⟨rfl,HBW.out⟩
             |true =>
              rw[hw]at HIS HEND3;have e1:r=0:=HEND3.out.trans rfl;subst e1;clear hw;go_wp2_with (first|(go_at_call_has 35 d.u;refine(HIW.out _).mono ?_;rintro e w' ⟨rfl,rfl⟩)|(go_at_call_has 35 d.stop;refine(HIS.out _).mono ?_;rintro e w' ⟨rfl,rfl⟩))
              go_ret
              exact⟨rfl,HBW.out⟩
     ·have hn2:((nT:Int) != 2)=true:=Dn (by omega);cases dn with
      |false =>
       exact(HFORM.out (by rw[decide_eq_false h2];cases ob <;> rfl)).elim
      |true =>
       exact(HFORM.out (by rw[decide_eq_false h2];cases ob <;> rfl)).elim
    ·have hc1:d.s.cap<(nO:Int):=by omega
     have hc3:decide ((nO:Int)≤d.s.sh.cap)=false:=decide_eq_false hcap;exact(HFORM.out (by rw[HOB.out];rw[hc3];rfl)).elim
theorem GY(d:AC)(cs:List Value)(f:List Addr)(w:World)(h:AB w f cs d) :
  Calls Tryz.prog 34 #[.agg cs.toArray] w fun e w' => e= .returned (int i64 (AI d))∧Below w.heap.size w w':=by
 cases hf:(Bo d.s.sh d.g && (onB d.s.sh d.on d.down && decide (d.v.length=2)))with
 |false => exact GJ d (fun _ => hf) cs f w h
 |true =>
  cases hs:shB d.s.sh with
  |false => exact GJ d (fun h2 => by rw[hs]at h2;cases h2) cs f w h
  |true => exact LP d ⟨hs,hf⟩ cs f w h
end Go.Proofs.YtfjkoifpdoemdaaGreat
