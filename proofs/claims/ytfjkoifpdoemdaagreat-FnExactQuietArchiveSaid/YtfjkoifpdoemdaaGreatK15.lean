/-
  Part 15 of the proof; the last part states and proves the statement.
-/
import Derived.Test.YtfjkoifpdoemdaaGreatK13
import Derived.Test.YtfjkoifpdoemdaaGreatK14
import Derived.Sort.AtCall
set_option maxHeartbeats 8000000
set_option maxRecDepth 100000
set_option linter.unusedVariables false
set_option linter.unusedSimpArgs false
open Go.Value (int)
open Go.IntKind (i64)
namespace Go.Proofs.YtfjkoifpdoemdaaGreat
open Go.RowKit Go.Lib Go.Sort
theorem Gd(s:Sh)(hsb:shB s=true)(x:Ag)(cs:List Value)(f:List Addr)(w:World)(h:Ac w f cs x)(hbad:Aj x.kind 1 4=false∨Aj x.seq 1 1000000000=false) :
  Calls Tryz.prog 85 #[shV s,.agg cs.toArray] w fun e w' => e= .returned (int i64 (Az s x))∧Below w.heap.size w w':=by
 dsimp only[Ac]at h;obtain⟨v0,v1,v2,f0,f1,f2,rfl,rfl,o0,o1,o2,o3,o4,o5,h0,h1,h2⟩:=h;obtain⟨A0,c0,rfl,k0,m0⟩:=rSl.head h0;obtain⟨A1,c1,rfl,k1,m1⟩:=rSl.head h1;obtain⟨A2,c2,rfl,k2,m2⟩:=rSl.head h2;have H0:=hid h0;have H1:=hid h1;have H2:=hid h2;obtain⟨nR,hnR⟩:∃nR,x.rows.length=nR:=⟨_,rfl⟩;obtain⟨nD,hnD⟩:∃nD,x.data.length=nD:=⟨_,rfl⟩;obtain⟨nE,hnE⟩:∃nE,x.delta.length=nE:=⟨_,rfl⟩;have HNR:=hid hnR;have HND:=hid hnD;have HNE:=hid hnE;rw[hnR]at H0 k0⊢;rw[hnD]at H1 k1⊢;rw[hnE]at H2 k2⊢;have K1:=(Blk.new w 31 #[int i64 s.g,int i64 s.c,int i64 s.data,int i64 s.p,int i64 s.rows,int i64 s.cap,int i64 s.b,int i64 s.q,int i64 s.t]).alloc (.cells #[int i64 x.kind,int i64 x.seq,.string x.name,int i64 x.length,int i64 x.group,int i64 x.row,.slice A0 nR c0,.slice A1 nD c1,.slice A2 nE c2] 119);have K2:=Blk.new1 w (.cells #[int i64 s.g,int i64 s.c,int i64 s.data,int i64 s.p,int i64 s.rows,int i64 s.cap,int i64 s.b,int i64 s.q,int i64 s.t] 31) 119 #[int i64 x.kind,int i64 x.seq,.string x.name,int i64 x.length,int i64 x.group,int i64 x.row,.slice A0 nR c0,.slice A1 nD c1,.slice A2 nE c2];have hB:Below w.heap.size w ((w.alloc (.cells #[int i64 s.g,int i64 s.c,int i64 s.data,int i64 s.p,int i64 s.rows,int i64 s.cap,int i64 s.b,int i64 s.q,int i64 s.t] 31)).alloc (.cells #[int i64 x.kind,int i64 x.seq,.string x.name,int i64 x.length,int i64 x.group,int i64 x.row,.slice A0 nR c0,.slice A1 nD c1,.slice A2 nE c2] 119)):=((Below.refl _ _).alloc (Nat.le_refl _) _).alloc (by simp) _;have HB:=hid hB;have S2:=BF.of K1;have R2:=CH.of K2;have HS:=hid S2;have HRC:=hid R2;clear h0 h1 h2 hnR hnD hnE K1 K2 hB;have HSF:=hid (Bu s ((w.alloc (.cells #[int i64 s.g,int i64 s.c,int i64 s.data,int i64 s.p,int i64 s.rows,int i64 s.cap,int i64 s.b,int i64 s.q,int i64 s.t] 31)).alloc (.cells #[int i64 x.kind,int i64 x.seq,.string x.name,int i64 x.length,int i64 x.group,int i64 x.row,.slice A0 nR c0,.slice A1 nD c1,.slice A2 nE c2] 119)));rw[BZ hsb]at HSF;have HIK:=hid (fun(W:World) => Bh x.kind 1 4 W);have HIQ:=hid (fun(W:World) => Bh x.seq 1 1000000000 W);unfold shV at HSF⊢;unfold Az;cases h1:Aj x.kind 1 4 with
 |false =>
  rw[h1]at HIK;rw[if_neg (by decide)];clear hbad h1 hsb;go_enter Tryz.func85,Tryz.ntmps85
  go_wp2_with (first
  |(refine wpList_load_mid rfl 31 _ rfl w.heap.size 0 rfl _ _ HS.out.rng Tryz.underlying31 rfl (by kernel_rfl) ?_)
  |(go_at_call 82;refine HSF.out.mono ?_;rintro e w3 ⟨rfl,b3⟩;have S3:=HS.out.below b3;have R3:=HRC.out.below b3;have B3:=hid (HB.out.trans (b3.mono HB.out.size));have x30:=R3.c0;have x31:=R3.c1;have x32:=R3.c2;have x34:=R3.c4;have x35:=R3.c5;have x37:=R3.c7;have x38:=R3.c8;have lr3:=R3.lt;have ls3:=S3.lt;have y30:=S3.c0;have y34:=S3.c4;have HS3:=hid S3;have HR3:=hid R3;clear b3 S3 R3)
  |(go_at_call_has 35 x.kind;refine(HIK.out _).mono ?_;rintro e w' ⟨rfl,rfl⟩)
  |(go_at_call_has 35 x.seq;refine(HIQ.out _).mono ?_;rintro e w' ⟨rfl,rfl⟩)
  |(refine wpList_load_mid rfl 31 _ rfl w.heap.size 0 rfl _ _ HS3.out.rng Tryz.underlying31 rfl (by kernel_rfl) ?_)
  |(refine wpList_load_mid rfl 119 _ rfl (w.heap.size+1) 0 rfl _ _ HR3.out.rng Tryz.underlying119 rfl (by kernel_rfl) ?_))
  go_ret
  exact⟨rfl,B3.out⟩
 |true =>
  rw[h1]at HIK;have h2:Aj x.seq 1 1000000000=false:=by
   rcases hbad with h|h
   ·rw[h1]at h;cases h
   ·exact h
  rw[h2]at HIQ⊢;rw[if_pos rfl,if_neg (by decide)];clear hbad h1 h2 hsb;go_enter Tryz.func85,Tryz.ntmps85
  go_wp2_with (first
  |(refine wpList_load_mid rfl 31 _ rfl w.heap.size 0 rfl _ _ HS.out.rng Tryz.underlying31 rfl (by kernel_rfl) ?_)
  |(go_at_call 82;refine HSF.out.mono ?_;rintro e w3 ⟨rfl,b3⟩;have S3:=HS.out.below b3;have R3:=HRC.out.below b3;have B3:=hid (HB.out.trans (b3.mono HB.out.size));have x30:=R3.c0;have x31:=R3.c1;have x32:=R3.c2;have x34:=R3.c4;have x35:=R3.c5;have x37:=R3.c7;have x38:=R3.c8;have lr3:=R3.lt;have ls3:=S3.lt;have y30:=S3.c0;have y34:=S3.c4;have HS3:=hid S3;have HR3:=hid R3;clear b3 S3 R3)
  |(go_at_call_has 35 x.kind;refine(HIK.out _).mono ?_;rintro e w' ⟨rfl,rfl⟩)
  |(go_at_call_has 35 x.seq;refine(HIQ.out _).mono ?_;rintro e w' ⟨rfl,rfl⟩)
  |(refine wpList_load_mid rfl 31 _ rfl w.heap.size 0 rfl _ _ HS3.out.rng Tryz.underlying31 rfl (by kernel_rfl) ?_)
  |(refine wpList_load_mid rfl 119 _ rfl (w.heap.size+1) 0 rfl _ _ HR3.out.rng Tryz.underlying119 rfl (by kernel_rfl) ?_))
  go_ret
  exact⟨rfl,B3.out⟩
theorem LK(s:Sh)(hsb:shB s=true)(x:Ag)(cs:List Value)(f:List Addr)(w:World)(h:Ac w f cs x)(hk:x.kind=1)(hq:Aj x.seq 1 1000000000=true) :
  Calls Tryz.prog 85 #[shV s,.agg cs.toArray] w fun e w' => e= .returned (int i64 (if BY x.name.data.toList=true then(if BP s x=true then(if Bs ⟨#[]⟩ 0 x.group x.row 0 0 x.delta.length=true then 0 else 1)else 3)else 5))∧Below w.heap.size w w':=by
 have hrr:=h;dsimp only[Ac]at h;obtain⟨v0,v1,v2,f0,f1,f2,rfl,rfl,o0,o1,o2,o3,o4,o5,h0,h1,h2⟩:=h;obtain⟨A0,c0,rfl,k0,m0⟩:=rSl.head h0;obtain⟨A1,c1,rfl,k1,m1⟩:=rSl.head h1;obtain⟨A2,c2,rfl,k2,m2⟩:=rSl.head h2;have H0:=hid h0;have H1:=hid h1;have H2:=hid h2;obtain⟨nR,hnR⟩:∃nR,x.rows.length=nR:=⟨_,rfl⟩;obtain⟨nD,hnD⟩:∃nD,x.data.length=nD:=⟨_,rfl⟩;obtain⟨nE,hnE⟩:∃nE,x.delta.length=nE:=⟨_,rfl⟩;have HNR:=hid hnR;have HND:=hid hnD;have HNE:=hid hnE;rw[hnR]at H0 k0⊢;rw[hnD]at H1 k1⊢;rw[hnE]at H2 k2⊢;have K1:=(Blk.new w 31 #[int i64 s.g,int i64 s.c,int i64 s.data,int i64 s.p,int i64 s.rows,int i64 s.cap,int i64 s.b,int i64 s.q,int i64 s.t]).alloc (.cells #[int i64 x.kind,int i64 x.seq,.string x.name,int i64 x.length,int i64 x.group,int i64 x.row,.slice A0 nR c0,.slice A1 nD c1,.slice A2 nE c2] 119);have K2:=Blk.new1 w (.cells #[int i64 s.g,int i64 s.c,int i64 s.data,int i64 s.p,int i64 s.rows,int i64 s.cap,int i64 s.b,int i64 s.q,int i64 s.t] 31) 119 #[int i64 x.kind,int i64 x.seq,.string x.name,int i64 x.length,int i64 x.group,int i64 x.row,.slice A0 nR c0,.slice A1 nD c1,.slice A2 nE c2];have hB:Below w.heap.size w ((w.alloc (.cells #[int i64 s.g,int i64 s.c,int i64 s.data,int i64 s.p,int i64 s.rows,int i64 s.cap,int i64 s.b,int i64 s.q,int i64 s.t] 31)).alloc (.cells #[int i64 x.kind,int i64 x.seq,.string x.name,int i64 x.length,int i64 x.group,int i64 x.row,.slice A0 nR c0,.slice A1 nD c1,.slice A2 nE c2] 119)):=((Below.refl _ _).alloc (Nat.le_refl _) _).alloc (by simp) _;have HB:=hid hB;have S2:=BF.of K1;have R2:=CH.of K2;have HS:=hid S2;have HRC:=hid R2;clear h0 h1 h2 hnR hnD hnE K1 K2 hB;rw[HNR.out,HND.out,HNE.out]at hrr;have HRRR:=hid hrr;have HOKS:=hid (Cv hsb);have HSF:=hid (Bu s ((w.alloc (.cells #[int i64 s.g,int i64 s.c,int i64 s.data,int i64 s.p,int i64 s.rows,int i64 s.cap,int i64 s.b,int i64 s.q,int i64 s.t] 31)).alloc (.cells #[int i64 x.kind,int i64 x.seq,.string x.name,int i64 x.length,int i64 x.group,int i64 x.row,.slice A0 nR c0,.slice A1 nD c1,.slice A2 nE c2] 119)));rw[BZ hsb]at HSF;have HIK:=hid (fun(W:World) => Bh x.kind 1 4 W);have HIQ:=hid (fun(W:World) => Bh x.seq 1 1000000000 W);rw[show Aj x.kind 1 4=true by rw[hk];rfl]at HIK;rw[hq]at HIQ;obtain⟨r,hr⟩:∃r:Int,(if BY x.name.data.toList=true then(if BP s x=true then(if Bs ⟨#[]⟩ 0 x.group x.row 0 0 nE=true then 0 else 1)else 3)else 5)=r:=⟨_,rfl⟩;rw[hr];have HRV:=hid hr;clear hr;unfold shV at HSF⊢;have k1:(x.kind == 1)=true:=Dc hk;clear hsb hk hq;go_enter Tryz.func85,Tryz.ntmps85
 go_wp2_with (first|(refine wpList_load_mid rfl 31 _ rfl w.heap.size 0 rfl _ _ HS.out.rng Tryz.underlying31 rfl (by kernel_rfl) ?_))
 refine HSF.out.mono ?_;rintro e w3 ⟨rfl,b3⟩;have S3:=HS.out.below b3;have R3:=HRC.out.below b3;have B3:=hid (HB.out.trans (b3.mono HB.out.size));have x30:=R3.c0;have x31:=R3.c1;have x32:=R3.c2;have x34:=R3.c4;have x35:=R3.c5;have x37:=R3.c7;have x38:=R3.c8;have lr3:=R3.lt;have ls3:=S3.lt;have y30:=S3.c0;have y34:=S3.c4;have HS3:=hid S3;have HR3:=hid R3;clear b3 S3 R3;obtain⟨CS,hCS⟩:∃CS:List Value,[int i64 x.kind,int i64 x.seq,.string x.name,int i64 x.length,int i64 x.group,int i64 x.row,.slice A0 nR c0,.slice A1 nD c1,.slice A2 nE c2] =CS:=⟨_,rfl⟩;have HRG:=hid (show w3.rangeAt (w.heap.size+1) 0 CS by rw[← hCS];exact HR3.out.rng);have HI1:=hid (show(Tryz.prog.info? 119).map (·.size)=some CS.length by rw[← hCS];kernel_rfl);have HI2:=hid (show(Tryz.prog.info? 119).map (·.size)=some CS.toArray.size by rw[← hCS];kernel_rfl);have HON:=hid (show CS.toArray.all (·.oneCell')=true from(by rw[← hCS];exact all_oneCell_toArray (Ac.ones _ _ _ _ hrr)));obtain⟨Z,hZ⟩:∃Z:Array Value,#[int i64 0,int i64 0,.string ⟨#[]⟩,int i64 0,int i64 0,int i64 0,.slice none 0 0,.slice none 0 0,.slice none 0 0] =Z:=⟨_,rfl⟩;have hZs:Z.size=9:=(by rw[← hZ];rfl);have hCl:CS.length=9:=(by rw[← hCS];rfl);have KZ:=Blk.new w3 119 Z;have HTH:=hid (Blk.there KZ CS.toArray.size (by rw[List.size_toArray,hCl,hZs];exact Nat.le_refl _));obtain⟨W4,hW4⟩:∃W4,(w3.alloc (.cells Z 119)).setCells w3.heap.size 0 CS.toArray.toList=W4:=⟨_,rfl⟩;have K4:=hid (show Blk W4 w3.heap.size 119 CS.toArray by rw[← hW4];exact Blk.laid KZ _ (by rw[hZs];exact hCl.symm));have b4:=(show Below w3.heap.size w3 W4 by rw[← hW4];exact Aw (Ah (Below.refl _ _) _) _ 0 (Nat.le_refl _));have HW4:=hid hW4;have HCS:=hid hCS;have BB4:=hid b4;have hb3:=B3.out.size;clear hW4 KZ hZs hCl;have S4:=HS3.out.below b4;have R4:=HR3.out.below b4;have B4:=hid (B3.out.trans (b4.mono B3.out.size));have x40:=R4.c0;have x41:=R4.c1;have x42:=R4.c2;have x44:=R4.c4;have x45:=R4.c5;have x47:=R4.c7;have x48:=R4.c8;have lr4:=R4.lt;have ls4:=S4.lt;have y40:=S4.c0;have y44:=S4.c4;have HS4:=hid S4;have HR4:=hid R4;clear b4 S4 R4;clear hrr;go_wp2_with (first
  |(go_at_call_has 35 x.kind;refine(HIK.out _).mono ?_;rintro e w' ⟨rfl,rfl⟩)
  |(go_at_call_has 35 x.seq;refine(HIQ.out _).mono ?_;rintro e w' ⟨rfl,rfl⟩)
  |(refine wpList_load_mid rfl 119 _ rfl (w.heap.size+1) 0 rfl CS _ HRG.out Tryz.underlying119 rfl HI1.out ?_)
  |(refine wpList_store_mid rfl 119 (.tmp 6) (.tmp 21) rfl w3.heap.size 0 CS.toArray rfl rfl HTH.out HI2.out HON.out ?_;rw[HW4.out]))
 refine(EX x.name W4 o2).mono ?_;rintro e w5 ⟨rfl,b5⟩;have K5:=hid (K4.out.below b5 K4.out.lt);have BB5:=hid (BB4.out.trans (b5.mono BB4.out.size));have S5:=HS4.out.below b5;have R5:=HR4.out.below b5;have B5:=hid (B4.out.trans (b5.mono B4.out.size));have x50:=R5.c0;have x51:=R5.c1;have x52:=R5.c2;have x54:=R5.c4;have x55:=R5.c5;have x57:=R5.c7;have x58:=R5.c8;have lr5:=R5.lt;have ls5:=S5.lt;have y50:=S5.c0;have y54:=S5.c4;have HS5:=hid S5;have HR5:=hid R5;clear b5 S5 R5;have HRG5:=hid (show w5.rangeAt (w.heap.size+1) 0 CS by rw[← HCS.out];exact HR5.out.rng);by_cases q:BY x.name.data.toList=true
 case neg =>
  have e1:r=5:=by rw[← HRV.out,if_neg q]
  subst e1;rw[show Bb x.name.data.toList=5 by unfold Bb;rw[if_neg q]];clear q;go_wp2_with fail
  go_ret
  exact⟨rfl,B5.out⟩
 have HQ:=hid q;rw[show Bb x.name.data.toList=0 by unfold Bb;rw[if_pos q]];clear q;have hit:=l5Item_c s HOKS.out x _ _ w5 (Ap.below Ac.local_ Ac.fixed HRRR.out B5.out);rw[HCS.out]at hit;unfold shV at hit;have HIT:=hid hit;clear hit;go_wp2_with (first
  |(refine wpList_load_mid rfl 31 _ rfl w.heap.size 0 rfl _ _ HS5.out.rng Tryz.underlying31 rfl (by kernel_rfl) ?_)
  |(refine wpList_load_mid rfl 119 _ rfl (w.heap.size+1) 0 rfl CS _ HRG5.out Tryz.underlying119 rfl HI1.out ?_))
 refine HIT.out.mono ?_;rintro e w6 ⟨rfl,b6⟩;have K6:=K5.out.below b6 K5.out.lt;have BB6:=hid (BB5.out.trans (b6.mono BB5.out.size));have S6:=HS5.out.below b6;have R6:=HR5.out.below b6;have B6:=hid (B5.out.trans (b6.mono B5.out.size));have x60:=R6.c0;have x61:=R6.c1;have x62:=R6.c2;have x64:=R6.c4;have x65:=R6.c5;have x67:=R6.c7;have x68:=R6.c8;have lr6:=R6.lt;have ls6:=S6.lt;have y60:=S6.c0;have y64:=S6.c4;have HS6:=hid S6;have HR6:=hid R6;clear b6 S6 R6;cases hib:BP s x with
 |false =>
  have e1:r=3:=by rw[← HRV.out,if_pos HQ.out,hib];rfl
  subst e1;clear hib;go_wp2_with fail
  go_ret
  exact⟨rfl,B6.out⟩
 |true =>
  have KZ:=(((K6.set_ 2 (.string ⟨#[]⟩)).set_ 3 (int i64 0)).set_ 6 (.slice none 0 0)).set_ 7 (.slice none 0 0);rw[← HCS.out]at KZ;have HRZ:=hid (show((((w6.setCell ⟨w3.heap.size,2,none⟩ (.string ⟨#[]⟩)).setCell ⟨w3.heap.size,3,none⟩ (int i64 0)).setCell ⟨w3.heap.size,6,none⟩ (.slice none 0 0)).setCell ⟨w3.heap.size,7,none⟩ (.slice none 0 0)).rangeAt w3.heap.size 0 [int i64 x.kind,int i64 x.seq,.string ⟨#[]⟩,int i64 0,int i64 x.group,int i64 x.row,.slice none 0 0,.slice none 0 0,.slice A2 nE c2]from Blk.rangeAll (cs:=[int i64 x.kind,int i64 x.seq,.string ⟨#[]⟩,int i64 0,int i64 x.group,int i64 x.row,.slice none 0 0,.slice none 0 0,.slice A2 nE c2]) KZ);have hBZ:Below w3.heap.size w3 ((((w6.setCell ⟨w3.heap.size,2,none⟩ (.string ⟨#[]⟩)).setCell ⟨w3.heap.size,3,none⟩ (int i64 0)).setCell ⟨w3.heap.size,6,none⟩ (.slice none 0 0)).setCell ⟨w3.heap.size,7,none⟩ (.slice none 0 0)):=(((BB6.out.setCell (Nat.le_refl _) _).setCell (Nat.le_refl _) _).setCell (Nat.le_refl _) _).setCell (Nat.le_refl _) _;have HBZ:=hid (B3.out.trans (hBZ.mono B3.out.size));have K6':=K6;rw[← HCS.out]at K6';have z2:w6.cell? ⟨w3.heap.size,2,none⟩=some (.string x.name):=(K6'.cell 2).trans rfl;have z3:w6.cell? ⟨w3.heap.size,3,none⟩=some (int i64 x.length):=(K6'.cell 3).trans rfl;have z6:w6.cell? ⟨w3.heap.size,6,none⟩=some (.slice A0 nR c0):=(K6'.cell 6).trans rfl;have z7:w6.cell? ⟨w3.heap.size,7,none⟩=some (.slice A1 nD c1):=(K6'.cell 7).trans rfl;have y2:=K6'.frozen 2;have y3:=K6'.frozen 3;have y6:=K6'.frozen 6;have y7:=K6'.frozen 7;have HE:=hid (fun(W:World) => EU x.kind x.seq ⟨#[]⟩ 0 x.group x.row none none A2 0 0 nE 0 0 c2 W);cases hev:Bs ⟨#[]⟩ 0 x.group x.row 0 0 nE with
  |true =>
   rw[hev]at HE;have e1:r=0:=by rw[← HRV.out,if_pos HQ.out,hib,hev];rfl
   subst e1;clear K6 K6' KZ hBZ hev hib;go_wp2_with (first
    |(refine wpList_load_mid rfl 119 _ rfl w3.heap.size 0 rfl [int i64 x.kind,int i64 x.seq,.string ⟨#[]⟩,int i64 0,int i64 x.group,int i64 x.row,.slice none 0 0,.slice none 0 0,.slice A2 nE c2] _ ?_ Tryz.underlying119 rfl (by kernel_rfl) ?_;(focus (exact HRZ.out)))
    |(go_at_call 151;refine(HE.out _).mono ?_;rintro e w7 ⟨rfl,b7⟩;have B7:=hid b7;clear b7))
   go_ret
   exact⟨rfl,HBZ.out.trans (B7.out.mono HBZ.out.size)⟩
  |false =>
   rw[hev]at HE;have e1:r=1:=by rw[← HRV.out,if_pos HQ.out,hib,hev];rfl
   subst e1;clear K6 K6' KZ hBZ hev hib;go_wp2_with (first
    |(refine wpList_load_mid rfl 119 _ rfl w3.heap.size 0 rfl [int i64 x.kind,int i64 x.seq,.string ⟨#[]⟩,int i64 0,int i64 x.group,int i64 x.row,.slice none 0 0,.slice none 0 0,.slice A2 nE c2] _ ?_ Tryz.underlying119 rfl (by kernel_rfl) ?_;(focus (exact HRZ.out)))
    |(go_at_call 151;refine(HE.out _).mono ?_;rintro e w7 ⟨rfl,b7⟩;have B7:=hid b7;clear b7))
   go_ret
   exact⟨rfl,HBZ.out.trans (B7.out.mono HBZ.out.size)⟩
theorem ID(s:Sh)(x:Ag)(P:Prop)
  (h1:Aj x.group 0 (s.g - 1)=false→CX s x=false→P)
  (h2:Aj x.group 0 (s.g - 1)=true→Aj x.row 0 (s.rows - 1)=false→CX s x=false→P)
  (h3:Aj x.group 0 (s.g - 1)=true→Aj x.row 0 (s.rows - 1)=true→¬(x.data.length:Int)=s.data * 4→CX s x=false→P)
  (h4:Aj x.group 0 (s.g - 1)=true→Aj x.row 0 (s.rows - 1)=true→(x.data.length:Int)=s.data * 4→¬(x.delta.length:Int)=s.data * 4→CX s x=false→P)
  (h5:Aj x.group 0 (s.g - 1)=true→Aj x.row 0 (s.rows - 1)=true→(x.data.length:Int)=s.data * 4→(x.delta.length:Int)=s.data * 4→CX s x=true→P):P:=by
 unfold CX at h1 h2 h3 h4 h5;rw[Int.mul_comm 4 s.data]at h1 h2 h3 h4 h5;by_cases g:Aj x.group 0 (s.g - 1)=true
 ·by_cases r:Aj x.row 0 (s.rows - 1)=true
  ·by_cases d:(x.data.length:Int)=s.data * 4
   ·by_cases e:(x.delta.length:Int)=s.data * 4
    ·exact h5 g r d e (by rw[g,r,decide_eq_true d,decide_eq_true e];rfl)
    ·exact h4 g r d e (by rw[g,r,decide_eq_true d,decide_eq_false e];rfl)
   ·exact h3 g r d (by rw[g,r,decide_eq_false d];rfl)
  ·have r':Aj x.row 0 (s.rows - 1)=false:=by simpa using r
   exact h2 g r' (by rw[g,r'];rfl)
 ·have g':Aj x.group 0 (s.g - 1)=false:=by simpa using g
  exact h1 g' (by rw[g'];rfl)
theorem Dn {a b:Int}(h:¬a=b):(a != b)=true:=by simpa using h
theorem Cu {a b:Int}(h:a=b):(a != b)=false:=by simpa using h
theorem LM(s:Sh)(hsb:shB s=true)(x:Ag)(cs:List Value)(f:List Addr)(w:World)(h:Ac w f cs x)(hk:x.kind=2)(hq:Aj x.seq 1 1000000000=true) :
  Calls Tryz.prog 85 #[shV s,.agg cs.toArray] w fun e w' => e= .returned (int i64 (if CX s x=true then(if Bs x.name x.length 0 0 x.rows.length 0 0=true then 0 else 1)else 3))∧Below w.heap.size w w':=by
 have hrr:=h;dsimp only[Ac]at h;obtain⟨v0,v1,v2,f0,f1,f2,rfl,rfl,o0,o1,o2,o3,o4,o5,h0,h1,h2⟩:=h;obtain⟨A0,c0,rfl,k0,m0⟩:=rSl.head h0;obtain⟨A1,c1,rfl,k1,m1⟩:=rSl.head h1;obtain⟨A2,c2,rfl,k2,m2⟩:=rSl.head h2;have H0:=hid h0;have H1:=hid h1;have H2:=hid h2;obtain⟨nR,hnR⟩:∃nR,x.rows.length=nR:=⟨_,rfl⟩;obtain⟨nD,hnD⟩:∃nD,x.data.length=nD:=⟨_,rfl⟩;obtain⟨nE,hnE⟩:∃nE,x.delta.length=nE:=⟨_,rfl⟩;have HNR:=hid hnR;have HND:=hid hnD;have HNE:=hid hnE;rw[hnR]at H0 k0⊢;rw[hnD]at H1 k1⊢;rw[hnE]at H2 k2⊢;have K1:=(Blk.new w 31 #[int i64 s.g,int i64 s.c,int i64 s.data,int i64 s.p,int i64 s.rows,int i64 s.cap,int i64 s.b,int i64 s.q,int i64 s.t]).alloc (.cells #[int i64 x.kind,int i64 x.seq,.string x.name,int i64 x.length,int i64 x.group,int i64 x.row,.slice A0 nR c0,.slice A1 nD c1,.slice A2 nE c2] 119);have K2:=Blk.new1 w (.cells #[int i64 s.g,int i64 s.c,int i64 s.data,int i64 s.p,int i64 s.rows,int i64 s.cap,int i64 s.b,int i64 s.q,int i64 s.t] 31) 119 #[int i64 x.kind,int i64 x.seq,.string x.name,int i64 x.length,int i64 x.group,int i64 x.row,.slice A0 nR c0,.slice A1 nD c1,.slice A2 nE c2];have hB:Below w.heap.size w ((w.alloc (.cells #[int i64 s.g,int i64 s.c,int i64 s.data,int i64 s.p,int i64 s.rows,int i64 s.cap,int i64 s.b,int i64 s.q,int i64 s.t] 31)).alloc (.cells #[int i64 x.kind,int i64 x.seq,.string x.name,int i64 x.length,int i64 x.group,int i64 x.row,.slice A0 nR c0,.slice A1 nD c1,.slice A2 nE c2] 119)):=((Below.refl _ _).alloc (Nat.le_refl _) _).alloc (by simp) _;have HB:=hid hB;have S2:=BF.of K1;have R2:=CH.of K2;have HS:=hid S2;have HRC:=hid R2;clear h0 h1 h2 hnR hnD hnE K1 K2 hB;rw[HNR.out,HND.out,HNE.out]at hrr;have hs:=Cv hsb;obtain⟨d1,d2⟩:=hs.rows;obtain⟨d3,d4⟩:=hs.g;have HSF:=hid (Bu s ((w.alloc (.cells #[int i64 s.g,int i64 s.c,int i64 s.data,int i64 s.p,int i64 s.rows,int i64 s.cap,int i64 s.b,int i64 s.q,int i64 s.t] 31)).alloc (.cells #[int i64 x.kind,int i64 x.seq,.string x.name,int i64 x.length,int i64 x.group,int i64 x.row,.slice A0 nR c0,.slice A1 nD c1,.slice A2 nE c2] 119)));rw[BZ hsb]at HSF;have HIK:=hid (fun(W:World) => Bh x.kind 1 4 W);have HIQ:=hid (fun(W:World) => Bh x.seq 1 1000000000 W);rw[show Aj x.kind 1 4=true by rw[hk];rfl]at HIK;rw[hq]at HIQ;have HWD:=hid (fun(W:World) => FB s hs W);obtain⟨r,hr⟩:∃r:Int,(if CX s x=true then(if Bs x.name x.length 0 0 nR 0 0=true then 0 else 1)else 3)=r:=⟨_,rfl⟩;rw[hr];have HRV:=hid hr;have HMC:=hid (ID s x);rw[HND.out,HNE.out]at HMC;obtain⟨wd,hwd⟩:∃wd,s.data * 4=wd:=⟨_,rfl⟩;rw[hwd]at HWD HMC;have ew:IntKind.i64.wrap (s.g - 1)=s.g - 1:=IntWalk.i64_in _ (by omega);have ew2:IntKind.i64.wrap (s.rows - 1)=s.rows - 1:=IntWalk.i64_in _ (by omega);have HIG:=hid (fun(W:World) => Bh x.group 0 (s.g - 1) W);have HIR:=hid (fun(W:World) => Bh x.row 0 (s.rows - 1) W);unfold shV at HSF HWD⊢;have k1:(x.kind == 1)=false:=by rw[hk];rfl
 have k2:(x.kind == 2)=true:=Dc hk;clear hsb hk hq hr hwd hs d1 d2 d3 d4;go_enter Tryz.func85,Tryz.ntmps85
 go_wp2_with (first|(refine wpList_load_mid rfl 31 _ rfl w.heap.size 0 rfl _ _ HS.out.rng Tryz.underlying31 rfl (by kernel_rfl) ?_))
 refine HSF.out.mono ?_;rintro e w3 ⟨rfl,b3⟩;have S3:=HS.out.below b3;have R3:=HRC.out.below b3;have B3:=hid (HB.out.trans (b3.mono HB.out.size));have x30:=R3.c0;have x31:=R3.c1;have x32:=R3.c2;have x34:=R3.c4;have x35:=R3.c5;have x37:=R3.c7;have x38:=R3.c8;have lr3:=R3.lt;have ls3:=S3.lt;have y30:=S3.c0;have y34:=S3.c4;have HS3:=hid S3;have HR3:=hid R3;clear b3 S3 R3;obtain⟨CS,hCS⟩:∃CS:List Value,[int i64 x.kind,int i64 x.seq,.string x.name,int i64 x.length,int i64 x.group,int i64 x.row,.slice A0 nR c0,.slice A1 nD c1,.slice A2 nE c2] =CS:=⟨_,rfl⟩;have HRG:=hid (show w3.rangeAt (w.heap.size+1) 0 CS by rw[← hCS];exact HR3.out.rng);have HI1:=hid (show(Tryz.prog.info? 119).map (·.size)=some CS.length by rw[← hCS];kernel_rfl);have HI2:=hid (show(Tryz.prog.info? 119).map (·.size)=some CS.toArray.size by rw[← hCS];kernel_rfl);have HON:=hid (show CS.toArray.all (·.oneCell')=true from(by rw[← hCS];exact all_oneCell_toArray (Ac.ones _ _ _ _ hrr)));obtain⟨Z,hZ⟩:∃Z:Array Value,#[int i64 0,int i64 0,.string ⟨#[]⟩,int i64 0,int i64 0,int i64 0,.slice none 0 0,.slice none 0 0,.slice none 0 0] =Z:=⟨_,rfl⟩;have hZs:Z.size=9:=(by rw[← hZ];rfl);have hCl:CS.length=9:=(by rw[← hCS];rfl);have KZ:=Blk.new w3 119 Z;have HTH:=hid (Blk.there KZ CS.toArray.size (by rw[List.size_toArray,hCl,hZs];exact Nat.le_refl _));obtain⟨W4,hW4⟩:∃W4,(w3.alloc (.cells Z 119)).setCells w3.heap.size 0 CS.toArray.toList=W4:=⟨_,rfl⟩;have K4:=hid (show Blk W4 w3.heap.size 119 CS.toArray by rw[← hW4];exact Blk.laid KZ _ (by rw[hZs];exact hCl.symm));have b4:=(show Below w3.heap.size w3 W4 by rw[← hW4];exact Aw (Ah (Below.refl _ _) _) _ 0 (Nat.le_refl _));have HW4:=hid hW4;have HCS:=hid hCS;have BB4:=hid b4;have hb3:=B3.out.size;clear hW4 KZ hZs hCl;have S4:=HS3.out.below b4;have R4:=HR3.out.below b4;have B4:=hid (B3.out.trans (b4.mono B3.out.size));have x40:=R4.c0;have x41:=R4.c1;have x42:=R4.c2;have x44:=R4.c4;have x45:=R4.c5;have x47:=R4.c7;have x48:=R4.c8;have lr4:=R4.lt;have ls4:=S4.lt;have y40:=S4.c0;have y44:=S4.c4;have HS4:=hid S4;have HR4:=hid R4;clear b4 S4 R4;clear hrr;have u0:=cell_regrown HS4.out.c0;have u1:=cell_regrown HS4.out.c1;have u2:=cell_regrown HS4.out.c2;have u3:=cell_regrown HS4.out.c3;have u4:=cell_regrown HS4.out.c4;have u5:=cell_regrown HS4.out.c5;have u6:=cell_regrown HS4.out.c6;have u7:=cell_regrown HS4.out.c7;have u8:=cell_regrown HS4.out.c8;have t4:=cell_regrown HR4.out.c4;have t5:=cell_regrown HR4.out.c5;have t7:=cell_regrown HR4.out.c7;have t8:=cell_regrown HR4.out.c8;go_wp2_with (first
  |(go_at_call_has 35 x.kind;refine(HIK.out _).mono ?_;rintro e w' ⟨rfl,rfl⟩)
  |(go_at_call_has 35 x.seq;refine(HIQ.out _).mono ?_;rintro e w' ⟨rfl,rfl⟩)
  |(refine wpList_load_mid rfl 119 _ rfl (w.heap.size+1) 0 rfl CS _ HRG.out Tryz.underlying119 rfl HI1.out ?_)
  |(refine wpList_store_mid rfl 119 (.tmp 6) (.tmp 21) rfl w3.heap.size 0 CS.toArray rfl rfl HTH.out HI2.out HON.out ?_;rw[HW4.out]))
 have QW:=hid (AF (w:=W4) (fun W _ => HWD.out W));have QIG:=hid (Bc (w:=W4) HIG.out);have QIR:=hid (Bc (w:=W4) HIR.out);refine HMC.out _ ?_ ?_ ?_ ?_ ?_
 ·intro g hmb;have e1:r=3:=by rw[← HRV.out,hmb];rfl
  subst e1;rw[g]at QIG;clear g hmb
  (refine wp_region_quiet_below (by kernel_rfl) (by kernel_rfl) ?_;(repeat(first|go_big_quiet_step (first|(go_at_call_has 35 x.group;exact QIG.out _ _)|(go_at_call_has 35 x.row;exact QIR.out _ _)|(go_at_call 148;exact QW.out _ _))|quiet_step (first|(go_at_call_has 35 x.group;exact QIG.out _ _)|(go_at_call_has 35 x.row;exact QIR.out _ _)|(go_at_call 148;exact QW.out _ _))));refine wpQuiet_nil ?_)
  rintro _ ⟨⟨dq,osq⟩,rfl⟩;have HB5:=hid (B4.out.trans ((below_regrown W4 dq osq).mono B4.out.size));go_wp2_with fail
  go_ret
  exact⟨rfl,HB5.out⟩
 ·intro g r2 hmb;have e1:r=3:=by rw[← HRV.out,hmb];rfl
  subst e1;rw[g]at QIG;rw[r2]at QIR;clear g r2 hmb
  (refine wp_region_quiet_below (by kernel_rfl) (by kernel_rfl) ?_;(repeat(first|go_big_quiet_step (first|(go_at_call_has 35 x.group;exact QIG.out _ _)|(go_at_call_has 35 x.row;exact QIR.out _ _)|(go_at_call 148;exact QW.out _ _))|quiet_step (first|(go_at_call_has 35 x.group;exact QIG.out _ _)|(go_at_call_has 35 x.row;exact QIR.out _ _)|(go_at_call 148;exact QW.out _ _))));refine wpQuiet_nil ?_)
  rintro _ ⟨⟨dq,osq⟩,rfl⟩;have HB5:=hid (B4.out.trans ((below_regrown W4 dq osq).mono B4.out.size));go_wp2_with fail
  go_ret
  exact⟨rfl,HB5.out⟩
 ·intro g r2 d hmb;have e1:r=3:=by rw[← HRV.out,hmb];rfl
  subst e1;rw[g]at QIG;rw[r2]at QIR;have d':=Dn d;clear g r2 d hmb
  (refine wp_region_quiet_below (by kernel_rfl) (by kernel_rfl) ?_;(repeat(first|go_big_quiet_step (first|(go_at_call_has 35 x.group;exact QIG.out _ _)|(go_at_call_has 35 x.row;exact QIR.out _ _)|(go_at_call 148;exact QW.out _ _))|quiet_step (first|(go_at_call_has 35 x.group;exact QIG.out _ _)|(go_at_call_has 35 x.row;exact QIR.out _ _)|(go_at_call 148;exact QW.out _ _))));refine wpQuiet_nil ?_)
  rintro _ ⟨⟨dq,osq⟩,rfl⟩;have HB5:=hid (B4.out.trans ((below_regrown W4 dq osq).mono B4.out.size));go_wp2_with fail
  go_ret
  exact⟨rfl,HB5.out⟩
 ·intro g r2 d e2 hmb;have e1:r=3:=by rw[← HRV.out,hmb];rfl
  subst e1;rw[g]at QIG;rw[r2]at QIR;have d':=Cu d;have e':=Dn e2;clear g r2 d e2 hmb
  (refine wp_region_quiet_below (by kernel_rfl) (by kernel_rfl) ?_;(repeat(first|go_big_quiet_step (first|(go_at_call_has 35 x.group;exact QIG.out _ _)|(go_at_call_has 35 x.row;exact QIR.out _ _)|(go_at_call 148;exact QW.out _ _))|quiet_step (first|(go_at_call_has 35 x.group;exact QIG.out _ _)|(go_at_call_has 35 x.row;exact QIR.out _ _)|(go_at_call 148;exact QW.out _ _))));refine wpQuiet_nil ?_)
  rintro _ ⟨⟨dq,osq⟩,rfl⟩;have HB5:=hid (B4.out.trans ((below_regrown W4 dq osq).mono B4.out.size));go_wp2_with fail
  go_ret
  exact⟨rfl,HB5.out⟩
 ·intro g r2 d e2 hmb;rw[g]at QIG;rw[r2]at QIR;have d':=Cu d;have e':=Cu e2;have HMB:=hid hmb;clear g r2 d e2 hmb
  (refine wp_region_quiet_below (by kernel_rfl) (by kernel_rfl) ?_;(repeat(first|go_big_quiet_step (first|(go_at_call_has 35 x.group;exact QIG.out _ _)|(go_at_call_has 35 x.row;exact QIR.out _ _)|(go_at_call 148;exact QW.out _ _))|quiet_step (first|(go_at_call_has 35 x.group;exact QIG.out _ _)|(go_at_call_has 35 x.row;exact QIR.out _ _)|(go_at_call 148;exact QW.out _ _))));refine wpQuiet_nil ?_)
  rintro _ ⟨⟨dq,osq⟩,rfl⟩;have b5:=below_regrown W4 dq osq;generalize grow (redrawn W4 dq) osq=w5 at b5;have K5':=K4.out.below b5 K4.out.lt;rw[← HCS.out]at K5';have BB5:=hid (BB4.out.trans (b5.mono BB4.out.size));clear u0 u1 u2 u3 u4 u5 u6 u7 u8 t4 t5 t7 t8 QIG QIR QW b5;have KZ:=(((K5'.set_ 4 (int i64 0)).set_ 5 (int i64 0)).set_ 7 (.slice none 0 0)).set_ 8 (.slice none 0 0);have HRZ:=hid (show((((w5.setCell ⟨w3.heap.size,4,none⟩ (int i64 0)).setCell ⟨w3.heap.size,5,none⟩ (int i64 0)).setCell ⟨w3.heap.size,7,none⟩ (.slice none 0 0)).setCell ⟨w3.heap.size,8,none⟩ (.slice none 0 0)).rangeAt w3.heap.size 0 [int i64 x.kind,int i64 x.seq,.string x.name,int i64 x.length,int i64 0,int i64 0,.slice A0 nR c0,.slice none 0 0,.slice none 0 0]from Blk.rangeAll (cs:=[int i64 x.kind,int i64 x.seq,.string x.name,int i64 x.length,int i64 0,int i64 0,.slice A0 nR c0,.slice none 0 0,.slice none 0 0]) KZ);have hBZ:Below w3.heap.size w3 ((((w5.setCell ⟨w3.heap.size,4,none⟩ (int i64 0)).setCell ⟨w3.heap.size,5,none⟩ (int i64 0)).setCell ⟨w3.heap.size,7,none⟩ (.slice none 0 0)).setCell ⟨w3.heap.size,8,none⟩ (.slice none 0 0)):=(((BB5.out.setCell (Nat.le_refl _) _).setCell (Nat.le_refl _) _).setCell (Nat.le_refl _) _).setCell (Nat.le_refl _) _;have HBZ:=hid (B3.out.trans (hBZ.mono B3.out.size));have z4:w5.cell? ⟨w3.heap.size,4,none⟩=some (int i64 x.group):=(K5'.cell 4).trans rfl;have z5:w5.cell? ⟨w3.heap.size,5,none⟩=some (int i64 x.row):=(K5'.cell 5).trans rfl;have z7:w5.cell? ⟨w3.heap.size,7,none⟩=some (.slice A1 nD c1):=(K5'.cell 7).trans rfl;have z8:w5.cell? ⟨w3.heap.size,8,none⟩=some (.slice A2 nE c2):=(K5'.cell 8).trans rfl;have y4':=K5'.frozen 4;have y5':=K5'.frozen 5;have y7':=K5'.frozen 7;have y8':=K5'.frozen 8;have lz:=K5'.lt;have HE:=hid (fun(W:World) => EU x.kind x.seq x.name x.length 0 0 A0 none none nR 0 0 c0 0 0 W);cases hev:Bs x.name x.length 0 0 nR 0 0 with
  |true =>
   rw[hev]at HE;have e1:r=0:=by rw[← HRV.out,HMB.out,hev];rfl
   subst e1;clear K5' KZ hBZ hev;go_wp2_with (first
    |(refine wpList_load_mid rfl 119 _ rfl w3.heap.size 0 rfl [int i64 x.kind,int i64 x.seq,.string x.name,int i64 x.length,int i64 0,int i64 0,.slice A0 nR c0,.slice none 0 0,.slice none 0 0] _ ?_ Tryz.underlying119 rfl (by kernel_rfl) ?_;(focus (exact HRZ.out)))
    |(go_at_call 151;refine(HE.out _).mono ?_;rintro e w7 ⟨rfl,b7⟩;have B7:=hid b7;clear b7))
   go_ret
   exact⟨rfl,HBZ.out.trans (B7.out.mono HBZ.out.size)⟩
  |false =>
   rw[hev]at HE;have e1:r=1:=by rw[← HRV.out,HMB.out,hev];rfl
   subst e1;clear K5' KZ hBZ hev;go_wp2_with (first
    |(refine wpList_load_mid rfl 119 _ rfl w3.heap.size 0 rfl [int i64 x.kind,int i64 x.seq,.string x.name,int i64 x.length,int i64 0,int i64 0,.slice A0 nR c0,.slice none 0 0,.slice none 0 0] _ ?_ Tryz.underlying119 rfl (by kernel_rfl) ?_;(focus (exact HRZ.out)))
    |(go_at_call 151;refine(HE.out _).mono ?_;rintro e w7 ⟨rfl,b7⟩;have B7:=hid b7;clear b7))
   go_ret
   exact⟨rfl,HBZ.out.trans (B7.out.mono HBZ.out.size)⟩
theorem LN(s:Sh)(hsb:shB s=true)(x:Ag)(cs:List Value)(f:List Addr)(w:World)(h:Ac w f cs x)(hk:x.kind=3)(hq:Aj x.seq 1 1000000000=true) :
  Calls Tryz.prog 85 #[shV s,.agg cs.toArray] w fun e w' => e= .returned (int i64 (if Aj x.group 0 (s.g+s.c - 1)=true then(if Bs x.name x.length 0 x.row x.rows.length x.data.length x.delta.length=true then 0 else 1)else 3))∧Below w.heap.size w w':=by
 have hrr:=h;dsimp only[Ac]at h;obtain⟨v0,v1,v2,f0,f1,f2,rfl,rfl,o0,o1,o2,o3,o4,o5,h0,h1,h2⟩:=h;obtain⟨A0,c0,rfl,k0,m0⟩:=rSl.head h0;obtain⟨A1,c1,rfl,k1,m1⟩:=rSl.head h1;obtain⟨A2,c2,rfl,k2,m2⟩:=rSl.head h2;have H0:=hid h0;have H1:=hid h1;have H2:=hid h2;obtain⟨nR,hnR⟩:∃nR,x.rows.length=nR:=⟨_,rfl⟩;obtain⟨nD,hnD⟩:∃nD,x.data.length=nD:=⟨_,rfl⟩;obtain⟨nE,hnE⟩:∃nE,x.delta.length=nE:=⟨_,rfl⟩;have HNR:=hid hnR;have HND:=hid hnD;have HNE:=hid hnE;rw[hnR]at H0 k0⊢;rw[hnD]at H1 k1⊢;rw[hnE]at H2 k2⊢;have K1:=(Blk.new w 31 #[int i64 s.g,int i64 s.c,int i64 s.data,int i64 s.p,int i64 s.rows,int i64 s.cap,int i64 s.b,int i64 s.q,int i64 s.t]).alloc (.cells #[int i64 x.kind,int i64 x.seq,.string x.name,int i64 x.length,int i64 x.group,int i64 x.row,.slice A0 nR c0,.slice A1 nD c1,.slice A2 nE c2] 119);have K2:=Blk.new1 w (.cells #[int i64 s.g,int i64 s.c,int i64 s.data,int i64 s.p,int i64 s.rows,int i64 s.cap,int i64 s.b,int i64 s.q,int i64 s.t] 31) 119 #[int i64 x.kind,int i64 x.seq,.string x.name,int i64 x.length,int i64 x.group,int i64 x.row,.slice A0 nR c0,.slice A1 nD c1,.slice A2 nE c2];have hB:Below w.heap.size w ((w.alloc (.cells #[int i64 s.g,int i64 s.c,int i64 s.data,int i64 s.p,int i64 s.rows,int i64 s.cap,int i64 s.b,int i64 s.q,int i64 s.t] 31)).alloc (.cells #[int i64 x.kind,int i64 x.seq,.string x.name,int i64 x.length,int i64 x.group,int i64 x.row,.slice A0 nR c0,.slice A1 nD c1,.slice A2 nE c2] 119)):=((Below.refl _ _).alloc (Nat.le_refl _) _).alloc (by simp) _;have HB:=hid hB;have S2:=BF.of K1;have R2:=CH.of K2;have HS:=hid S2;have HRC:=hid R2;clear h0 h1 h2 hnR hnD hnE K1 K2 hB;rw[HNR.out,HND.out,HNE.out]at hrr;have hs:=Cv hsb;obtain⟨d3,d4⟩:=hs.g;obtain⟨d5,d6⟩:=hs.c;have HSF:=hid (Bu s ((w.alloc (.cells #[int i64 s.g,int i64 s.c,int i64 s.data,int i64 s.p,int i64 s.rows,int i64 s.cap,int i64 s.b,int i64 s.q,int i64 s.t] 31)).alloc (.cells #[int i64 x.kind,int i64 x.seq,.string x.name,int i64 x.length,int i64 x.group,int i64 x.row,.slice A0 nR c0,.slice A1 nD c1,.slice A2 nE c2] 119)));rw[BZ hsb]at HSF;have HIK:=hid (fun(W:World) => Bh x.kind 1 4 W);have HIQ:=hid (fun(W:World) => Bh x.seq 1 1000000000 W);rw[show Aj x.kind 1 4=true by rw[hk];rfl]at HIK;rw[hq]at HIQ;have HAL:=hid (fun(W:World) => Dz s hs W);obtain⟨r,hr⟩:∃r:Int,(if Aj x.group 0 (s.g+s.c - 1)=true then(if Bs x.name x.length 0 x.row nR nD nE=true then 0 else 1)else 3)=r:=⟨_,rfl⟩;rw[hr];have HRV:=hid hr;obtain⟨al,hal⟩:∃al,s.g+s.c=al:=⟨_,rfl⟩;rw[hal]at HAL HRV;have ew:IntKind.i64.wrap (al - 1)=al - 1:=IntWalk.i64_in _ (by omega);have HIG:=hid (fun(W:World) => Bh x.group 0 (al - 1) W);unfold shV at HSF HAL⊢;have k1:(x.kind == 1)=false:=by rw[hk];rfl
 have k2:(x.kind == 2)=false:=by rw[hk];rfl
 have k3:(x.kind == 3)=true:=Dc hk;clear hsb hk hq hr hal hs d3 d4 d5 d6;go_enter Tryz.func85,Tryz.ntmps85
 go_wp2_with (first|(refine wpList_load_mid rfl 31 _ rfl w.heap.size 0 rfl _ _ HS.out.rng Tryz.underlying31 rfl (by kernel_rfl) ?_))
 refine HSF.out.mono ?_;rintro e w3 ⟨rfl,b3⟩;have S3:=HS.out.below b3;have R3:=HRC.out.below b3;have B3:=hid (HB.out.trans (b3.mono HB.out.size));have x30:=R3.c0;have x31:=R3.c1;have x32:=R3.c2;have x34:=R3.c4;have x35:=R3.c5;have x37:=R3.c7;have x38:=R3.c8;have lr3:=R3.lt;have ls3:=S3.lt;have y30:=S3.c0;have y34:=S3.c4;have HS3:=hid S3;have HR3:=hid R3;clear b3 S3 R3;obtain⟨CS,hCS⟩:∃CS:List Value,[int i64 x.kind,int i64 x.seq,.string x.name,int i64 x.length,int i64 x.group,int i64 x.row,.slice A0 nR c0,.slice A1 nD c1,.slice A2 nE c2] =CS:=⟨_,rfl⟩;have HRG:=hid (show w3.rangeAt (w.heap.size+1) 0 CS by rw[← hCS];exact HR3.out.rng);have HI1:=hid (show(Tryz.prog.info? 119).map (·.size)=some CS.length by rw[← hCS];kernel_rfl);have HI2:=hid (show(Tryz.prog.info? 119).map (·.size)=some CS.toArray.size by rw[← hCS];kernel_rfl);have HON:=hid (show CS.toArray.all (·.oneCell')=true from(by rw[← hCS];exact all_oneCell_toArray (Ac.ones _ _ _ _ hrr)));obtain⟨Z,hZ⟩:∃Z:Array Value,#[int i64 0,int i64 0,.string ⟨#[]⟩,int i64 0,int i64 0,int i64 0,.slice none 0 0,.slice none 0 0,.slice none 0 0] =Z:=⟨_,rfl⟩;have hZs:Z.size=9:=(by rw[← hZ];rfl);have hCl:CS.length=9:=(by rw[← hCS];rfl);have KZ:=Blk.new w3 119 Z;have HTH:=hid (Blk.there KZ CS.toArray.size (by rw[List.size_toArray,hCl,hZs];exact Nat.le_refl _));obtain⟨W4,hW4⟩:∃W4,(w3.alloc (.cells Z 119)).setCells w3.heap.size 0 CS.toArray.toList=W4:=⟨_,rfl⟩;have K4:=hid (show Blk W4 w3.heap.size 119 CS.toArray by rw[← hW4];exact Blk.laid KZ _ (by rw[hZs];exact hCl.symm));have b4:=(show Below w3.heap.size w3 W4 by rw[← hW4];exact Aw (Ah (Below.refl _ _) _) _ 0 (Nat.le_refl _));have HW4:=hid hW4;have HCS:=hid hCS;have BB4:=hid b4;have hb3:=B3.out.size;clear hW4 KZ hZs hCl;have S4:=HS3.out.below b4;have R4:=HR3.out.below b4;have B4:=hid (B3.out.trans (b4.mono B3.out.size));have x40:=R4.c0;have x41:=R4.c1;have x42:=R4.c2;have x44:=R4.c4;have x45:=R4.c5;have x47:=R4.c7;have x48:=R4.c8;have lr4:=R4.lt;have ls4:=S4.lt;have y40:=S4.c0;have y44:=S4.c4;have HS4:=hid S4;have HR4:=hid R4;clear b4 S4 R4;clear hrr;have u0:=cell_regrown HS4.out.c0;have u1:=cell_regrown HS4.out.c1;have u2:=cell_regrown HS4.out.c2;have u3:=cell_regrown HS4.out.c3;have u4:=cell_regrown HS4.out.c4;have u5:=cell_regrown HS4.out.c5;have u6:=cell_regrown HS4.out.c6;have u7:=cell_regrown HS4.out.c7;have u8:=cell_regrown HS4.out.c8;have t4:=cell_regrown HR4.out.c4;go_wp2_with (first
  |(go_at_call_has 35 x.kind;refine(HIK.out _).mono ?_;rintro e w' ⟨rfl,rfl⟩)
  |(go_at_call_has 35 x.seq;refine(HIQ.out _).mono ?_;rintro e w' ⟨rfl,rfl⟩)
  |(refine wpList_load_mid rfl 119 _ rfl (w.heap.size+1) 0 rfl CS _ HRG.out Tryz.underlying119 rfl HI1.out ?_)
  |(refine wpList_store_mid rfl 119 (.tmp 6) (.tmp 21) rfl w3.heap.size 0 CS.toArray rfl rfl HTH.out HI2.out HON.out ?_;rw[HW4.out]))
 have QA:=hid (AF (w:=W4) (fun W _ => HAL.out W));obtain⟨gb,hgb⟩:∃gb,Aj x.group 0 (al - 1)=gb:=⟨_,rfl⟩;rw[hgb]at HIG;have HQ:=hid hgb;have QI:=hid (Bc (w:=W4) HIG.out);clear hgb;cases gb with
 |false =>
  have e1:r=3:=by rw[← HRV.out,HQ.out];rfl
  subst e1
  (refine wp_region_quiet_below (by kernel_rfl) (by kernel_rfl) ?_;(repeat(first|go_big_quiet_step (first|exact QA.out _ _|exact QI.out _ _)|quiet_step (first|exact QA.out _ _|exact QI.out _ _)));refine wpQuiet_nil ?_)
  rintro _ ⟨⟨dq,osq⟩,rfl⟩;have HB5:=hid (B4.out.trans ((below_regrown W4 dq osq).mono B4.out.size));go_wp2_with fail
  go_ret
  exact⟨rfl,HB5.out⟩
 |true =>
  (refine wp_region_quiet_below (by kernel_rfl) (by kernel_rfl) ?_;(repeat(first|go_big_quiet_step (first|exact QA.out _ _|exact QI.out _ _)|quiet_step (first|exact QA.out _ _|exact QI.out _ _)));refine wpQuiet_nil ?_)
  rintro _ ⟨⟨dq,osq⟩,rfl⟩;have b5:=below_regrown W4 dq osq;generalize grow (redrawn W4 dq) osq=w5 at b5;have K5':=K4.out.below b5 K4.out.lt;rw[← HCS.out]at K5';have BB5:=hid (BB4.out.trans (b5.mono BB4.out.size));clear u0 u1 u2 u3 u4 u5 u6 u7 u8 t4 QA QI b5;have KZ:=K5'.set_ 4 (int i64 0);have HRZ:=hid (show(w5.setCell ⟨w3.heap.size,4,none⟩ (int i64 0)).rangeAt w3.heap.size 0 [int i64 x.kind,int i64 x.seq,.string x.name,int i64 x.length,int i64 0,int i64 x.row,.slice A0 nR c0,.slice A1 nD c1,.slice A2 nE c2]from Blk.rangeAll (cs:=[int i64 x.kind,int i64 x.seq,.string x.name,int i64 x.length,int i64 0,int i64 x.row,.slice A0 nR c0,.slice A1 nD c1,.slice A2 nE c2]) KZ);have hBZ:Below w3.heap.size w3 (w5.setCell ⟨w3.heap.size,4,none⟩ (int i64 0)):=BB5.out.setCell (Nat.le_refl _) _;have HBZ:=hid (B3.out.trans (hBZ.mono B3.out.size));have z4:w5.cell? ⟨w3.heap.size,4,none⟩=some (int i64 x.group):=(K5'.cell 4).trans rfl;have y4':=K5'.frozen 4;have lz:=K5'.lt;have HE:=hid (fun(W:World) => EU x.kind x.seq x.name x.length 0 x.row A0 A1 A2 nR nD nE c0 c1 c2 W);cases hev:Bs x.name x.length 0 x.row nR nD nE with
  |true =>
   rw[hev]at HE;have e1:r=0:=by rw[← HRV.out,HQ.out,hev];rfl
   subst e1;clear K5' KZ hBZ hev;go_wp2_with (first
    |(refine wpList_load_mid rfl 119 _ rfl w3.heap.size 0 rfl [int i64 x.kind,int i64 x.seq,.string x.name,int i64 x.length,int i64 0,int i64 x.row,.slice A0 nR c0,.slice A1 nD c1,.slice A2 nE c2] _ ?_ Tryz.underlying119 rfl (by kernel_rfl) ?_;(focus (exact HRZ.out)))
    |(go_at_call 151;refine(HE.out _).mono ?_;rintro e w7 ⟨rfl,b7⟩;have B7:=hid b7;clear b7))
   go_ret
   exact⟨rfl,HBZ.out.trans (B7.out.mono HBZ.out.size)⟩
  |false =>
   rw[hev]at HE;have e1:r=1:=by rw[← HRV.out,HQ.out,hev];rfl
   subst e1;clear K5' KZ hBZ hev;go_wp2_with (first
    |(refine wpList_load_mid rfl 119 _ rfl w3.heap.size 0 rfl [int i64 x.kind,int i64 x.seq,.string x.name,int i64 x.length,int i64 0,int i64 x.row,.slice A0 nR c0,.slice A1 nD c1,.slice A2 nE c2] _ ?_ Tryz.underlying119 rfl (by kernel_rfl) ?_;(focus (exact HRZ.out)))
    |(go_at_call 151;refine(HE.out _).mono ?_;rintro e w7 ⟨rfl,b7⟩;have B7:=hid b7;clear b7))
   go_ret
   exact⟨rfl,HBZ.out.trans (B7.out.mono HBZ.out.size)⟩
theorem l2Rise_c(v:Value)(ls:List Int)(hi:Int)(f:List Addr)(w:World)(h:Bg w f v ls) :
  Calls Tryz.prog 149 #[v,int i64 hi] w fun e w' => e= .returned (.bool (Ch ls hi))∧Below w.heap.size w w':=by
 obtain⟨A,c,rfl,hc,hm,hx⟩:=Bg.open_ h;have HX:=hid hx;obtain⟨r,hr⟩:∃r,Ch ls hi=r:=⟨_,rfl⟩;rw[hr];have HR:=hid hr;obtain⟨n,hn⟩:∃n,ls.length=n:=⟨_,rfl⟩;rw[hn]at hc⊢;have HN:=hid hn;clear h hx hr hn;go_enter Tryz.func149,Tryz.ntmps149
 go_wp2_with fail
 go_loopw [5] (fun i wr =>∃k:Nat,k≤n∧i= int i64 k∧Hid (DS ls hi k)∧Hid (Below w.heap.size w wr)) (fun i _ => n - (intOf i).toNat)
 case atStart => exact⟨0,by omega,rfl,Hq _ _,Below.refl _ _⟩
 case round =>
  obtain⟨k,hk,rfl,HS,HB⟩:=hrel;by_cases hlt:k<n
  ·have hk1:k<ls.length:=by rw[HN.out];exact hlt
   obtain⟨ad,e1,-,b1,p1,-⟩:=HX.out k hk1;subst e1;have p1':=cell_regrown ((HB.out.cell (p:=ad.add k) b1).trans p1);have hki:(k:Int)<(n:Int):=by omega
   obtain⟨x,hx⟩:∃x,ls[k] =x:=⟨_,rfl⟩;rw[hx]at p1';have HST:=hid (Hp HS.out hk1);have HBAD:=hid (fun(h:Aj ls[k] 0 hi=false∨(0<k∧ls[k]≤ls[k - 1])) => HR.out.symm.trans (KI hk1 h));rw[hx]at HST HBAD;clear p1;by_cases a1:x<0
   ·have e1:r=false:=HBAD.out (.inl (Fm (by omega)));subst e1;clear hx HST HBAD hk1 b1;go_wp2_with fail
    (refine wp_region_quiet_below (by kernel_rfl) (by kernel_rfl) ?_;(repeat(first|go_big_quiet_step (fail)|quiet_step (fail)));refine wpQuiet_nil ?_)
    rintro _ ⟨⟨dq,osq⟩,rfl⟩;have HB1:=hid (HB.out.trans ((below_regrown wr dq osq).mono HB.out.size));go_wp2_with fail
    go_ret
    exact⟨rfl,HB1.out⟩
   ·by_cases a2:hi<x
    ·have e1:r=false:=HBAD.out (.inl (Gh (by omega)));subst e1;clear hx HST HBAD hk1 b1;go_wp2_with fail
     (refine wp_region_quiet_below (by kernel_rfl) (by kernel_rfl) ?_;(repeat(first|go_big_quiet_step (fail)|quiet_step (fail)));refine wpQuiet_nil ?_)
     rintro _ ⟨⟨dq,osq⟩,rfl⟩;have HB1:=hid (HB.out.trans ((below_regrown wr dq osq).mono HB.out.size));go_wp2_with fail
     go_ret
     exact⟨rfl,HB1.out⟩
    ·have hin:Aj x 0 hi=true:=F6 (by omega) (by omega);by_cases a3:k=0
     ·have HS2:=hid (HST.out hin (fun h => by omega));have a4:¬(0:Int)<(k:Int):=by omega
      have a6:¬0<k:=by omega
      clear hx HST HBAD hk1 b1 hin a3;go_wp2_with fail
      (refine wp_region_quiet_below (by kernel_rfl) (by kernel_rfl) ?_;(repeat(first|go_big_quiet_step (fail)|quiet_step (fail)));refine wpQuiet_nil ?_)
      rintro _ ⟨⟨dq,osq⟩,rfl⟩;have HB1:=hid (HB.out.trans ((below_regrown wr dq osq).mono HB.out.size));go_wp2_with fail
      go_roundw
      case rel => exact⟨k+1,by omega,by go_num,HS2.out,HB1.out⟩
      case measure => simp[intOf];omega
     ·have a4:(0:Int)<(k:Int):=by omega
      have a6:0<k:=by omega
      have hk2:k - 1<ls.length:=by omega
      obtain⟨ad',e1,-,b2,p2,-⟩:=HX.out (k - 1) hk2;injection e1 with e1
      subst e1;have p2':=cell_regrown ((HB.out.cell (p:=ad.add (k - 1)) b2).trans p2);obtain⟨y,hy⟩:∃y,ls[k - 1] =y:=⟨_,rfl⟩;rw[hy]at p2' HST HBAD;have e1:IntKind.i64.wrap ((k:Int) - 1)=((k - 1:Nat):Int):=by rw[IntWalk.i64_in _ (by omega)];omega
      have e2:((k:Int) - 1)=((k - 1:Nat):Int):=by omega
      have e3:((k - 1:Nat):Int)<(n:Int):=by omega
      obtain⟨k1,hk1e⟩:∃k1,k - 1=k1:=⟨_,rfl⟩;rw[hk1e]at p2' e1 e2 e3;by_cases a5:x≤y
      ·have e1:r=false:=HBAD.out (.inr ⟨by omega,a5⟩);subst e1;clear hx HST HBAD hk1 b1 hin a3 hy hk2 p2 b2 hk1e;go_wp2_with fail
       (refine wp_region_quiet_below (by kernel_rfl) (by kernel_rfl) ?_;(repeat(first|go_big_quiet_step (fail)|quiet_step (fail)));refine wpQuiet_nil ?_)
       rintro _ ⟨⟨dq,osq⟩,rfl⟩;have HB1:=hid (HB.out.trans ((below_regrown wr dq osq).mono HB.out.size));go_wp2_with fail
       go_ret
       exact⟨rfl,HB1.out⟩
      ·have HS2:=hid (HST.out hin (fun h => by omega));clear hx HST HBAD hk1 b1 hin a3 hy hk2 p2 b2 hk1e;go_wp2_with fail
       (refine wp_region_quiet_below (by kernel_rfl) (by kernel_rfl) ?_;(repeat(first|go_big_quiet_step (fail)|quiet_step (fail)));refine wpQuiet_nil ?_)
       rintro _ ⟨⟨dq,osq⟩,rfl⟩;have HB1:=hid (HB.out.trans ((below_regrown wr dq osq).mono HB.out.size));go_wp2_with fail
       go_roundw
       case rel => exact⟨k+1,by omega,by go_num,HS2.out,HB1.out⟩
       case measure => simp[intOf];omega
  ·obtain rfl:k=n:=by omega
   have e1:r=true:=by
    rw[← HR.out];exact KJ (by rw[HN.out];exact HS.out)
   subst e1;go_wp2_with fail
   go_ret
   exact⟨rfl,HB.out⟩
end Go.Proofs.YtfjkoifpdoemdaaGreat
