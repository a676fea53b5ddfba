/-
  Part 16 of the proof; the last part states and proves the statement.
-/
import Derived.Test.YtfjkoifpdoemdaaGreatK15
set_option maxHeartbeats 8000000
set_option maxRecDepth 100000
set_option linter.unusedVariables false
set_option linter.unusedSimpArgs false
open Go.Value (int)
open Go.IntKind (i64)
namespace Go.Proofs.YtfjkoifpdoemdaaGreat
open Go.RowKit Go.Lib Go.Sort
theorem Kg(s:Sh)(x:Ag)(P:Prop)
  (h1:Aj x.group 0 (s.g+s.c - 1)=false→Bt s x=false→P)
  (h2:Aj x.group 0 (s.g+s.c - 1)=true→Aj x.row 0 (s.rows - 1)=false→Bt s x=false→P)
  (h3:Aj x.group 0 (s.g+s.c - 1)=true→Aj x.row 0 (s.rows - 1)=true→Ch x.rows (s.g+s.c - 1)=false→Bt s x=false→P)
  (h4:Aj x.group 0 (s.g+s.c - 1)=true→Aj x.row 0 (s.rows - 1)=true→Ch x.rows (s.g+s.c - 1)=true→¬(x.data.length:Int)=s.data * 4→Bt s x=false→P)
  (h5:Aj x.group 0 (s.g+s.c - 1)=true→Aj x.row 0 (s.rows - 1)=true→Ch x.rows (s.g+s.c - 1)=true→(x.data.length:Int)=s.data * 4→(decide ((x.delta.length:Int)=s.g+s.c) && (!BN x x.group && x.rows.all (BN x)))=false→Bt s x=false→P)
  (h6:Aj x.group 0 (s.g+s.c - 1)=true→Aj x.row 0 (s.rows - 1)=true→Ch x.rows (s.g+s.c - 1)=true→(x.data.length:Int)=s.data * 4→(decide ((x.delta.length:Int)=s.g+s.c) && (!BN x x.group && x.rows.all (BN x)))=true→Bt s x=true→P):P:=by
 unfold Bt at h1 h2 h3 h4 h5 h6;rw[Int.mul_comm 4 s.data]at h1 h2 h3 h4 h5 h6;by_cases g:Aj x.group 0 (s.g+s.c - 1)=true
 ·by_cases r:Aj x.row 0 (s.rows - 1)=true
  ·by_cases i:Ch x.rows (s.g+s.c - 1)=true
   ·by_cases d:(x.data.length:Int)=s.data * 4
    ·cases e:(decide ((x.delta.length:Int)=s.g+s.c) && (!BN x x.group && x.rows.all (BN x)))with
     |true => exact h6 g r i d e (by rw[g,r,i,decide_eq_true d,e];rfl)
     |false => exact h5 g r i d e (by rw[g,r,i,decide_eq_true d,e];rfl)
    ·exact h4 g r i d (by rw[g,r,i,decide_eq_false d];rfl)
   ·have i':Ch x.rows (s.g+s.c - 1)=false:=by simpa using i
    exact h3 g r i' (by rw[g,r,i'];rfl)
  ·have r':Aj x.row 0 (s.rows - 1)=false:=by simpa using r
   exact h2 g r' (by rw[g,r'];rfl)
 ·have g':Aj x.group 0 (s.g+s.c - 1)=false:=by simpa using g
  exact h1 g' (by rw[g'];rfl)
theorem LO(s:Sh)(hsb:shB s=true)(x:Ag)(cs:List Value)(f:List Addr)(w:World)(h:Ac w f cs x)(hk:x.kind=4)(hq:Aj x.seq 1 1000000000=true) :
  Calls Tryz.prog 85 #[shV s,.agg cs.toArray] w fun e w' => e= .returned (int i64 (if Bt s x=true then(if Bs x.name x.length 0 0 0 0 0=true then 0 else 1)else 3))∧Below w.heap.size w w':=by
 have hrr:=h;dsimp only[Ac]at h;obtain⟨v0,v1,v2,f0,f1,f2,rfl,rfl,o0,o1,o2,o3,o4,o5,h0,h1,h2⟩:=h;obtain⟨A0,c0,rfl,k0,m0⟩:=rSl.head h0;obtain⟨A1,c1,rfl,k1,m1⟩:=rSl.head h1;obtain⟨A2,c2,rfl,k2,m2⟩:=rSl.head h2;have H0:=hid h0;have H1:=hid h1;have H2:=hid h2;obtain⟨nR,hnR⟩:∃nR,x.rows.length=nR:=⟨_,rfl⟩;obtain⟨nD,hnD⟩:∃nD,x.data.length=nD:=⟨_,rfl⟩;obtain⟨nE,hnE⟩:∃nE,x.delta.length=nE:=⟨_,rfl⟩;have HNR:=hid hnR;have HND:=hid hnD;have HNE:=hid hnE;rw[hnR]at H0 k0⊢;rw[hnD]at H1 k1⊢;rw[hnE]at H2 k2⊢;have K1:=(Blk.new w 31 #[int i64 s.g,int i64 s.c,int i64 s.data,int i64 s.p,int i64 s.rows,int i64 s.cap,int i64 s.b,int i64 s.q,int i64 s.t]).alloc (.cells #[int i64 x.kind,int i64 x.seq,.string x.name,int i64 x.length,int i64 x.group,int i64 x.row,.slice A0 nR c0,.slice A1 nD c1,.slice A2 nE c2] 119);have K2:=Blk.new1 w (.cells #[int i64 s.g,int i64 s.c,int i64 s.data,int i64 s.p,int i64 s.rows,int i64 s.cap,int i64 s.b,int i64 s.q,int i64 s.t] 31) 119 #[int i64 x.kind,int i64 x.seq,.string x.name,int i64 x.length,int i64 x.group,int i64 x.row,.slice A0 nR c0,.slice A1 nD c1,.slice A2 nE c2];have hB:Below w.heap.size w ((w.alloc (.cells #[int i64 s.g,int i64 s.c,int i64 s.data,int i64 s.p,int i64 s.rows,int i64 s.cap,int i64 s.b,int i64 s.q,int i64 s.t] 31)).alloc (.cells #[int i64 x.kind,int i64 x.seq,.string x.name,int i64 x.length,int i64 x.group,int i64 x.row,.slice A0 nR c0,.slice A1 nD c1,.slice A2 nE c2] 119)):=((Below.refl _ _).alloc (Nat.le_refl _) _).alloc (by simp) _;have HB:=hid hB;have S2:=BF.of K1;have R2:=CH.of K2;have HS:=hid S2;have HRC:=hid R2;clear h0 h1 h2 hnR hnD hnE K1 K2 hB;rw[HNR.out,HND.out,HNE.out]at hrr;have hs:=Cv hsb;obtain⟨d1,d2⟩:=hs.rows;obtain⟨d3,d4⟩:=hs.g;obtain⟨d5,d6⟩:=hs.c;have HSF:=hid (Bu s ((w.alloc (.cells #[int i64 s.g,int i64 s.c,int i64 s.data,int i64 s.p,int i64 s.rows,int i64 s.cap,int i64 s.b,int i64 s.q,int i64 s.t] 31)).alloc (.cells #[int i64 x.kind,int i64 x.seq,.string x.name,int i64 x.length,int i64 x.group,int i64 x.row,.slice A0 nR c0,.slice A1 nD c1,.slice A2 nE c2] 119)));rw[BZ hsb]at HSF;have HIK:=hid (fun(W:World) => Bh x.kind 1 4 W);have HIQ:=hid (fun(W:World) => Bh x.seq 1 1000000000 W);rw[show Aj x.kind 1 4=true by rw[hk];rfl]at HIK;rw[hq]at HIQ;have HWD:=hid (fun(W:World) => FB s hs W);obtain⟨r,hr⟩:∃r:Int,(if Bt s x=true then(if Bs x.name x.length 0 0 0 0 0=true then 0 else 1)else 3)=r:=⟨_,rfl⟩;rw[hr];have HRV:=hid hr;have HMC:=hid (Kg s x);rw[HND.out]at HMC;obtain⟨wd,hwd⟩:∃wd,s.data * 4=wd:=⟨_,rfl⟩;obtain⟨al,hal⟩:∃al,s.g+s.c=al:=⟨_,rfl⟩;have HXW:=hid (fun(W:World) (hW:Below w.heap.size w W) => J7 s hs x _ _ W (Ap.below Ac.local_ Ac.fixed hrr hW));have HAL:=hid (fun(W:World) => Dz s hs W);rw[HNE.out]at HXW;rw[hwd]at HWD HMC;rw[hal]at HMC HXW HAL;rw[HNE.out]at HMC;have ew:IntKind.i64.wrap (al - 1)=al - 1:=IntWalk.i64_in _ (by omega);have ew2:IntKind.i64.wrap (s.rows - 1)=s.rows - 1:=IntWalk.i64_in _ (by omega);have HIG:=hid (fun(W:World) => Bh x.group 0 (al - 1) W);have HIR:=hid (fun(W:World) => Bh x.row 0 (s.rows - 1) W);have HRS:=hid (fun(W:World) (hW:Below w.heap.size w W) => l2Rise_c (.slice A0 nR c0) x.rows (al - 1) f0 W (rSl.below Al.local_ Al.fixed H0.out hW));obtain⟨wb,hwb⟩:∃wb,(decide ((nE:Int)=al) && (!BN x x.group && x.rows.all (BN x)))=wb:=⟨_,rfl⟩;rw[hwb]at HXW HMC;unfold shV at HSF HWD HAL HXW⊢;have k1:(x.kind == 1)=false:=by rw[hk];rfl
 have k2:(x.kind == 2)=false:=by rw[hk];rfl
 have k3:(x.kind == 3)=false:=by rw[hk];rfl
 have k4:(x.kind == 4)=true:=Dc hk;clear hsb hk hq hr hwd hal hwb hs d1 d2 d3 d4 d5 d6;go_enter Tryz.func85,Tryz.ntmps85
 go_wp2_with (first|(refine wpList_load_mid rfl 31 _ rfl w.heap.size 0 rfl _ _ HS.out.rng Tryz.underlying31 rfl (by kernel_rfl) ?_))
 refine HSF.out.mono ?_;rintro e w3 ⟨rfl,b3⟩;have S3:=HS.out.below b3;have R3:=HRC.out.below b3;have B3:=hid (HB.out.trans (b3.mono HB.out.size));have x30:=R3.c0;have x31:=R3.c1;have x32:=R3.c2;have x34:=R3.c4;have x35:=R3.c5;have x37:=R3.c7;have x38:=R3.c8;have lr3:=R3.lt;have ls3:=S3.lt;have y30:=S3.c0;have y34:=S3.c4;have HS3:=hid S3;have HR3:=hid R3;clear b3 S3 R3;obtain⟨CS,hCS⟩:∃CS:List Value,[int i64 x.kind,int i64 x.seq,.string x.name,int i64 x.length,int i64 x.group,int i64 x.row,.slice A0 nR c0,.slice A1 nD c1,.slice A2 nE c2] =CS:=⟨_,rfl⟩;have HRG:=hid (show w3.rangeAt (w.heap.size+1) 0 CS by rw[← hCS];exact HR3.out.rng);have HI1:=hid (show(Tryz.prog.info? 119).map (·.size)=some CS.length by rw[← hCS];kernel_rfl);have HI2:=hid (show(Tryz.prog.info? 119).map (·.size)=some CS.toArray.size by rw[← hCS];kernel_rfl);have HON:=hid (show CS.toArray.all (·.oneCell')=true from(by rw[← hCS];exact all_oneCell_toArray (Ac.ones _ _ _ _ hrr)));obtain⟨Z,hZ⟩:∃Z:Array Value,#[int i64 0,int i64 0,.string ⟨#[]⟩,int i64 0,int i64 0,int i64 0,.slice none 0 0,.slice none 0 0,.slice none 0 0] =Z:=⟨_,rfl⟩;have hZs:Z.size=9:=(by rw[← hZ];rfl);have hCl:CS.length=9:=(by rw[← hCS];rfl);have KZ:=Blk.new w3 119 Z;have HTH:=hid (Blk.there KZ CS.toArray.size (by rw[List.size_toArray,hCl,hZs];exact Nat.le_refl _));obtain⟨W4,hW4⟩:∃W4,(w3.alloc (.cells Z 119)).setCells w3.heap.size 0 CS.toArray.toList=W4:=⟨_,rfl⟩;have K4:=hid (show Blk W4 w3.heap.size 119 CS.toArray by rw[← hW4];exact Blk.laid KZ _ (by rw[hZs];exact hCl.symm));have b4:=(show Below w3.heap.size w3 W4 by rw[← hW4];exact Aw (Ah (Below.refl _ _) _) _ 0 (Nat.le_refl _));have HW4:=hid hW4;have HCS:=hid hCS;have BB4:=hid b4;have hb3:=B3.out.size;clear hW4 KZ hZs hCl;have S4:=HS3.out.below b4;have R4:=HR3.out.below b4;have B4:=hid (B3.out.trans (b4.mono B3.out.size));have x40:=R4.c0;have x41:=R4.c1;have x42:=R4.c2;have x44:=R4.c4;have x45:=R4.c5;have x47:=R4.c7;have x48:=R4.c8;have lr4:=R4.lt;have ls4:=S4.lt;have y40:=S4.c0;have y44:=S4.c4;have HS4:=hid S4;have HR4:=hid R4;clear b4 S4 R4;clear hrr;have u0:=cell_regrown HS4.out.c0;have u1:=cell_regrown HS4.out.c1;have u2:=cell_regrown HS4.out.c2;have u3:=cell_regrown HS4.out.c3;have u4:=cell_regrown HS4.out.c4;have u5:=cell_regrown HS4.out.c5;have u6:=cell_regrown HS4.out.c6;have u7:=cell_regrown HS4.out.c7;have u8:=cell_regrown HS4.out.c8;have t0:=cell_regrown HR4.out.c0;have t1:=cell_regrown HR4.out.c1;have t2:=cell_regrown HR4.out.c2;have t3:=cell_regrown HR4.out.c3;have t4:=cell_regrown HR4.out.c4;have t5:=cell_regrown HR4.out.c5;have t6:=cell_regrown HR4.out.c6;have t7:=cell_regrown HR4.out.c7;have t8:=cell_regrown HR4.out.c8;go_wp2_with (first
  |(go_at_call_has 35 x.kind;refine(HIK.out _).mono ?_;rintro e w' ⟨rfl,rfl⟩)
  |(go_at_call_has 35 x.seq;refine(HIQ.out _).mono ?_;rintro e w' ⟨rfl,rfl⟩)
  |(refine wpList_load_mid rfl 119 _ rfl (w.heap.size+1) 0 rfl CS _ HRG.out Tryz.underlying119 rfl HI1.out ?_)
  |(refine wpList_store_mid rfl 119 (.tmp 6) (.tmp 21) rfl w3.heap.size 0 CS.toArray rfl rfl HTH.out HI2.out HON.out ?_;rw[HW4.out]))
 have QW:=hid (AF (w:=W4) (fun W _ => HWD.out W));have QIG:=hid (Bc (w:=W4) HIG.out);have QIR:=hid (Bc (w:=W4) HIR.out);have QA:=hid (AF (w:=W4) (fun W _ => HAL.out W));have QI:=hid (AF (w:=W4) (fun W hW => HRS.out W (B4.out.trans (hW.mono B4.out.size))));have HXW2:=HXW.out;rw[show #[int i64 x.kind,int i64 x.seq,.string x.name,int i64 x.length,int i64 x.group,int i64 x.row,.slice A0 nR c0,.slice A1 nD c1,.slice A2 nE c2] =CS.toArray from congrArg List.toArray HCS.out]at HXW2;have QXF:=hid (fun hg hi => AF (w:=W4) (fun W hW => HXW2 W (B4.out.trans (hW.mono B4.out.size)) hg hi));clear HXW2;refine HMC.out _ ?_ ?_ ?_ ?_ ?_ ?_
 ·intro g hmb;have e1:r=3:=by rw[← HRV.out,hmb];rfl
  subst e1;rw[g]at QIG;clear g hmb
  (refine wp_region_quiet_below (by kernel_rfl) (by kernel_rfl) ?_;(repeat(first|go_big_quiet_step (first|(go_at_call_has 35 x.group;exact QIG.out _ _)|(go_at_call_has 35 x.row;exact QIR.out _ _)|(go_at_call 148;exact QW.out _ _)|(go_at_call 37;exact QA.out _ _)|(go_at_call 149;exact QI.out _ _)|(go_at_call 150;exact QX.out _ _))|quiet_step (first|(go_at_call_has 35 x.group;exact QIG.out _ _)|(go_at_call_has 35 x.row;exact QIR.out _ _)|(go_at_call 148;exact QW.out _ _)|(go_at_call 37;exact QA.out _ _)|(go_at_call 149;exact QI.out _ _)|(go_at_call 150;exact QX.out _ _))));refine wpQuiet_nil ?_)
  rintro _ ⟨⟨dq,osq⟩,rfl⟩;have HB5:=hid (B4.out.trans ((below_regrown W4 dq osq).mono B4.out.size));go_wp2_with fail
  go_ret
  exact⟨rfl,HB5.out⟩
 ·intro g r2 hmb;have e1:r=3:=by rw[← HRV.out,hmb];rfl
  subst e1;rw[g]at QIG;rw[r2]at QIR;clear g r2 hmb
  (refine wp_region_quiet_below (by kernel_rfl) (by kernel_rfl) ?_;(repeat(first|go_big_quiet_step (first|(go_at_call_has 35 x.group;exact QIG.out _ _)|(go_at_call_has 35 x.row;exact QIR.out _ _)|(go_at_call 148;exact QW.out _ _)|(go_at_call 37;exact QA.out _ _)|(go_at_call 149;exact QI.out _ _)|(go_at_call 150;exact QX.out _ _))|quiet_step (first|(go_at_call_has 35 x.group;exact QIG.out _ _)|(go_at_call_has 35 x.row;exact QIR.out _ _)|(go_at_call 148;exact QW.out _ _)|(go_at_call 37;exact QA.out _ _)|(go_at_call 149;exact QI.out _ _)|(go_at_call 150;exact QX.out _ _))));refine wpQuiet_nil ?_)
  rintro _ ⟨⟨dq,osq⟩,rfl⟩;have HB5:=hid (B4.out.trans ((below_regrown W4 dq osq).mono B4.out.size));go_wp2_with fail
  go_ret
  exact⟨rfl,HB5.out⟩
 ·intro g r2 i2 hmb;have e1:r=3:=by rw[← HRV.out,hmb];rfl
  subst e1;rw[g]at QIG;rw[r2]at QIR;rw[i2]at QI;clear g r2 i2 hmb
  (refine wp_region_quiet_below (by kernel_rfl) (by kernel_rfl) ?_;(repeat(first|go_big_quiet_step (first|(go_at_call_has 35 x.group;exact QIG.out _ _)|(go_at_call_has 35 x.row;exact QIR.out _ _)|(go_at_call 148;exact QW.out _ _)|(go_at_call 37;exact QA.out _ _)|(go_at_call 149;exact QI.out _ _)|(go_at_call 150;exact QX.out _ _))|quiet_step (first|(go_at_call_has 35 x.group;exact QIG.out _ _)|(go_at_call_has 35 x.row;exact QIR.out _ _)|(go_at_call 148;exact QW.out _ _)|(go_at_call 37;exact QA.out _ _)|(go_at_call 149;exact QI.out _ _)|(go_at_call 150;exact QX.out _ _))));refine wpQuiet_nil ?_)
  rintro _ ⟨⟨dq,osq⟩,rfl⟩;have HB5:=hid (B4.out.trans ((below_regrown W4 dq osq).mono B4.out.size));go_wp2_with fail
  go_ret
  exact⟨rfl,HB5.out⟩
 ·intro g r2 i2 d hmb;have e1:r=3:=by rw[← HRV.out,hmb];rfl
  subst e1;rw[g]at QIG;rw[r2]at QIR;rw[i2]at QI;have d':=Dn d;clear g r2 i2 d hmb
  (refine wp_region_quiet_below (by kernel_rfl) (by kernel_rfl) ?_;(repeat(first|go_big_quiet_step (first|(go_at_call_has 35 x.group;exact QIG.out _ _)|(go_at_call_has 35 x.row;exact QIR.out _ _)|(go_at_call 148;exact QW.out _ _)|(go_at_call 37;exact QA.out _ _)|(go_at_call 149;exact QI.out _ _)|(go_at_call 150;exact QX.out _ _))|quiet_step (first|(go_at_call_has 35 x.group;exact QIG.out _ _)|(go_at_call_has 35 x.row;exact QIR.out _ _)|(go_at_call 148;exact QW.out _ _)|(go_at_call 37;exact QA.out _ _)|(go_at_call 149;exact QI.out _ _)|(go_at_call 150;exact QX.out _ _))));refine wpQuiet_nil ?_)
  rintro _ ⟨⟨dq,osq⟩,rfl⟩;have HB5:=hid (B4.out.trans ((below_regrown W4 dq osq).mono B4.out.size));go_wp2_with fail
  go_ret
  exact⟨rfl,HB5.out⟩
 ·intro g r2 i2 d e2 hmb;have e1:r=3:=by rw[← HRV.out,hmb];rfl
  subst e1;rw[g]at QIG;rw[r2]at QIR;have QX:=hid (QXF.out g i2);rw[i2]at QI;have d':=Cu d;rw[e2]at QX;clear g r2 i2 d e2 hmb
  (refine wp_region_quiet_below (by kernel_rfl) (by kernel_rfl) ?_;(repeat(first|go_big_quiet_step (first|(go_at_call_has 35 x.group;exact QIG.out _ _)|(go_at_call_has 35 x.row;exact QIR.out _ _)|(go_at_call 148;exact QW.out _ _)|(go_at_call 37;exact QA.out _ _)|(go_at_call 149;exact QI.out _ _)|(go_at_call 150;exact QX.out _ _))|quiet_step (first|(go_at_call_has 35 x.group;exact QIG.out _ _)|(go_at_call_has 35 x.row;exact QIR.out _ _)|(go_at_call 148;exact QW.out _ _)|(go_at_call 37;exact QA.out _ _)|(go_at_call 149;exact QI.out _ _)|(go_at_call 150;exact QX.out _ _))));refine wpQuiet_nil ?_)
  rintro _ ⟨⟨dq,osq⟩,rfl⟩;have HB5:=hid (B4.out.trans ((below_regrown W4 dq osq).mono B4.out.size));go_wp2_with fail
  go_ret
  exact⟨rfl,HB5.out⟩
 ·intro g r2 i2 d e2 hmb;have QX:=hid (QXF.out g i2);rw[g]at QIG;rw[r2]at QIR;rw[i2]at QI;rw[e2]at QX;have d':=Cu d;have HMB:=hid hmb;clear g r2 i2 d e2 hmb
  (refine wp_region_quiet_below (by kernel_rfl) (by kernel_rfl) ?_;(repeat(first|go_big_quiet_step (first|(go_at_call_has 35 x.group;exact QIG.out _ _)|(go_at_call_has 35 x.row;exact QIR.out _ _)|(go_at_call 148;exact QW.out _ _)|(go_at_call 37;exact QA.out _ _)|(go_at_call 149;exact QI.out _ _)|(go_at_call 150;exact QX.out _ _))|quiet_step (first|(go_at_call_has 35 x.group;exact QIG.out _ _)|(go_at_call_has 35 x.row;exact QIR.out _ _)|(go_at_call 148;exact QW.out _ _)|(go_at_call 37;exact QA.out _ _)|(go_at_call 149;exact QI.out _ _)|(go_at_call 150;exact QX.out _ _))));refine wpQuiet_nil ?_)
  rintro _ ⟨⟨dq,osq⟩,rfl⟩;have b5:=below_regrown W4 dq osq;generalize grow (redrawn W4 dq) osq=w5 at b5;have K5':=K4.out.below b5 K4.out.lt;rw[← HCS.out]at K5';have BB5:=hid (BB4.out.trans (b5.mono BB4.out.size));clear u0 u1 u2 u3 u4 u5 u6 u7 u8 t0 t1 t2 t3 t4 t5 t6 t7 t8 QIG QIR QW QA QI QX QXF b5;have KZ:=((((K5'.set_ 8 (.slice none 0 0)).set_ 4 (int i64 0)).set_ 5 (int i64 0)).set_ 6 (.slice none 0 0)).set_ 7 (.slice none 0 0);have HRZ:=hid (show(((((w5.setCell ⟨w3.heap.size,8,none⟩ (.slice none 0 0)).setCell ⟨w3.heap.size,4,none⟩ (int i64 0)).setCell ⟨w3.heap.size,5,none⟩ (int i64 0)).setCell ⟨w3.heap.size,6,none⟩ (.slice none 0 0)).setCell ⟨w3.heap.size,7,none⟩ (.slice none 0 0)).rangeAt w3.heap.size 0 [int i64 x.kind,int i64 x.seq,.string x.name,int i64 x.length,int i64 0,int i64 0,.slice none 0 0,.slice none 0 0,.slice none 0 0]from Blk.rangeAll (cs:=[int i64 x.kind,int i64 x.seq,.string x.name,int i64 x.length,int i64 0,int i64 0,.slice none 0 0,.slice none 0 0,.slice none 0 0]) KZ);have hBZ:Below w3.heap.size w3 (((((w5.setCell ⟨w3.heap.size,8,none⟩ (.slice none 0 0)).setCell ⟨w3.heap.size,4,none⟩ (int i64 0)).setCell ⟨w3.heap.size,5,none⟩ (int i64 0)).setCell ⟨w3.heap.size,6,none⟩ (.slice none 0 0)).setCell ⟨w3.heap.size,7,none⟩ (.slice none 0 0)):=((((BB5.out.setCell (Nat.le_refl _) _).setCell (Nat.le_refl _) _).setCell (Nat.le_refl _) _).setCell (Nat.le_refl _) _).setCell (Nat.le_refl _) _;have HBZ:=hid (B3.out.trans (hBZ.mono B3.out.size));have z4:w5.cell? ⟨w3.heap.size,4,none⟩=some (int i64 x.group):=(K5'.cell 4).trans rfl;have z5:w5.cell? ⟨w3.heap.size,5,none⟩=some (int i64 x.row):=(K5'.cell 5).trans rfl;have z6:w5.cell? ⟨w3.heap.size,6,none⟩=some (.slice A0 nR c0):=(K5'.cell 6).trans rfl;have y6':=K5'.frozen 6;have z7:w5.cell? ⟨w3.heap.size,7,none⟩=some (.slice A1 nD c1):=(K5'.cell 7).trans rfl;have z8:w5.cell? ⟨w3.heap.size,8,none⟩=some (.slice A2 nE c2):=(K5'.cell 8).trans rfl;have y4':=K5'.frozen 4;have y5':=K5'.frozen 5;have y7':=K5'.frozen 7;have y8':=K5'.frozen 8;have lz:=K5'.lt;have HE:=hid (fun(W:World) => EU x.kind x.seq x.name x.length 0 0 none none none 0 0 0 0 0 0 W);cases hev:Bs x.name x.length 0 0 0 0 0 with
  |true =>
   rw[hev]at HE;have e1:r=0:=by rw[← HRV.out,HMB.out,hev];rfl
   subst e1;clear K5' KZ hBZ hev;go_wp2_with (first
    |(refine wpList_load_mid rfl 119 _ rfl w3.heap.size 0 rfl [int i64 x.kind,int i64 x.seq,.string x.name,int i64 x.length,int i64 0,int i64 0,.slice none 0 0,.slice none 0 0,.slice none 0 0] _ ?_ Tryz.underlying119 rfl (by kernel_rfl) ?_;(focus (exact HRZ.out)))
    |(go_at_call 151;refine(HE.out _).mono ?_;rintro e w7 ⟨rfl,b7⟩;have B7:=hid b7;clear b7))
   go_ret
   exact⟨rfl,HBZ.out.trans (B7.out.mono HBZ.out.size)⟩
  |false =>
   rw[hev]at HE;have e1:r=1:=by rw[← HRV.out,HMB.out,hev];rfl
   subst e1;clear K5' KZ hBZ hev;go_wp2_with (first
    |(refine wpList_load_mid rfl 119 _ rfl w3.heap.size 0 rfl [int i64 x.kind,int i64 x.seq,.string x.name,int i64 x.length,int i64 0,int i64 0,.slice none 0 0,.slice none 0 0,.slice none 0 0] _ ?_ Tryz.underlying119 rfl (by kernel_rfl) ?_;(focus (exact HRZ.out)))
    |(go_at_call 151;refine(HE.out _).mono ?_;rintro e w7 ⟨rfl,b7⟩;have B7:=hid b7;clear b7))
   go_ret
   exact⟨rfl,HBZ.out.trans (B7.out.mono HBZ.out.size)⟩
end Go.Proofs.YtfjkoifpdoemdaaGreat
