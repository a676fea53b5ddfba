/-
  Part 28 of the proof; the last part states and proves the statement.
-/
import Derived.Test.YthbljikbnoghcaaGreatM24
import Derived.Test.YthbljikbnoghcaaGreatM25
import Derived.Test.YthbljikbnoghcaaGreatM26
import Derived.Test.YthbljikbnoghcaaGreatM27
set_option maxHeartbeats 8000000
set_option maxRecDepth 100000
set_option linter.unusedVariables false
set_option linter.unusedSimpArgs false
open Go.Value (int)
open Go.IntKind (i64)
namespace Go.Proofs.YthbljikbnoghcaaGreat
open Go.RowKit Go.Lib Go.Sort
theorem okZ:okI 0:=⟨by decide,by decide⟩
theorem okE:(⟨#[]⟩:ByteArray).size≤9223372036854775807:=by decide
theorem Kg {w:World}:rSl 1 As w [] (.slice none 0 0) []:=⟨none,0,rfl,Nat.le_refl _,by omega,.inl ⟨rfl,rfl⟩⟩
theorem GD {w:World}:rSl 1 AG w [] (.slice none 0 0) []:=⟨none,0,rfl,Nat.le_refl _,by omega,.inl ⟨rfl,rfl⟩⟩
theorem bareR1 {x:Ag} {A0 A1 A2:Option Addr} {nR nD nE c0 c1 c2:Nat} {f0 f1 f2:List Addr} {w:World}(hk:x.kind=1)(o0:okI x.kind)(o1:okI x.seq)(o2:x.name.size≤9223372036854775807)(o3:okI x.length)(o4:okI x.group)(o5:okI x.row)
  (h0:rSl 1 As w f0 (.slice A0 nR c0) x.rows) (h1:rSl 1 AG w f1 (.slice A1 nD c1) x.data) (h2:rSl 1 AG w f2 (.slice A2 nE c2) x.delta):Ac w (f0 ++(f1 ++ [])) [int i64 x.kind,int i64 x.seq,.string x.name,int i64 x.length,int i64 0,int i64 0,.slice A0 nR c0,.slice A1 nD c1,.slice none 0 0] (Ct x):=by
 unfold Ct;rw[if_pos hk];exact⟨_,_,_,f0,f1,[],rfl,rfl,o0,o1,o2,o3,okZ,okZ,h0,h1,GD⟩
theorem bareR2 {x:Ag} {A0 A1 A2:Option Addr} {nR nD nE c0 c1 c2:Nat} {f0 f1 f2:List Addr} {w:World}(hk:x.kind=2)(o0:okI x.kind)(o1:okI x.seq)(o2:x.name.size≤9223372036854775807)(o3:okI x.length)(o4:okI x.group)(o5:okI x.row)
  (h0:rSl 1 As w f0 (.slice A0 nR c0) x.rows) (h1:rSl 1 AG w f1 (.slice A1 nD c1) x.data) (h2:rSl 1 AG w f2 (.slice A2 nE c2) x.delta):Ac w ([] ++(f1 ++ f2)) [int i64 x.kind,int i64 x.seq,.string ⟨#[]⟩,int i64 0,int i64 x.group,int i64 x.row,.slice none 0 0,.slice A1 nD c1,.slice A2 nE c2] (Ct x):=by
 unfold Ct;rw[if_neg (by omega),if_pos hk];exact⟨_,_,_,[],f1,f2,rfl,rfl,o0,o1,okE,okZ,o4,o5,Kg,h1,h2⟩
theorem bareR3 {x:Ag} {A0 A1 A2:Option Addr} {nR nD nE c0 c1 c2:Nat} {f0 f1 f2:List Addr} {w:World}(hk:x.kind=3)(o0:okI x.kind)(o1:okI x.seq)(o2:x.name.size≤9223372036854775807)(o3:okI x.length)(o4:okI x.group)(o5:okI x.row)
  (h0:rSl 1 As w f0 (.slice A0 nR c0) x.rows) (h1:rSl 1 AG w f1 (.slice A1 nD c1) x.data) (h2:rSl 1 AG w f2 (.slice A2 nE c2) x.delta):Ac w ([] ++([] ++ [])) [int i64 x.kind,int i64 x.seq,.string ⟨#[]⟩,int i64 0,int i64 x.group,int i64 0,.slice none 0 0,.slice none 0 0,.slice none 0 0] (Ct x):=by
 unfold Ct;rw[if_neg (by omega),if_neg (by omega),if_pos hk];exact⟨_,_,_,[],[],[],rfl,rfl,o0,o1,okE,okZ,o4,okZ,Kg,GD,GD⟩
theorem bareR4 {x:Ag} {A0 A1 A2:Option Addr} {nR nD nE c0 c1 c2:Nat} {f0 f1 f2:List Addr} {w:World}(hk:x.kind=4)(o0:okI x.kind)(o1:okI x.seq)(o2:x.name.size≤9223372036854775807)(o3:okI x.length)(o4:okI x.group)(o5:okI x.row)
  (h0:rSl 1 As w f0 (.slice A0 nR c0) x.rows) (h1:rSl 1 AG w f1 (.slice A1 nD c1) x.data) (h2:rSl 1 AG w f2 (.slice A2 nE c2) x.delta):Ac w (f0 ++(f1 ++ f2)) [int i64 x.kind,int i64 x.seq,.string ⟨#[]⟩,int i64 0,int i64 x.group,int i64 x.row,.slice A0 nR c0,.slice A1 nD c1,.slice A2 nE c2] (Ct x):=by
 unfold Ct;rw[if_neg (by omega),if_neg (by omega),if_neg (by omega)];exact⟨_,_,_,f0,f1,f2,rfl,rfl,o0,o1,okE,okZ,o4,o5,h0,h1,h2⟩
theorem KQ(s:Sh)(hsb:shB s=true)(x:Ag)(cs:List Value)(f:List Addr)(w:World)(h:Ac w f cs x)(hk:x.kind=1)(hq:Al x.seq 1 1000000000=true) :
  Calls Tryz.prog 122 #[shV s,.agg cs.toArray] w fun e w' => e= .returned (int i64 (AE s x))∧Below w.heap.size w w':=by
 have hrr:=h;dsimp only[Ac]at h;obtain⟨v0,v1,v2,f0,f1,f2,rfl,rfl,o0,o1,o2,o3,o4,o5,h0,h1,h2⟩:=h;obtain⟨A0,c0,rfl,k0,m0⟩:=rSl.head h0;obtain⟨A1,c1,rfl,k1,m1⟩:=rSl.head h1;obtain⟨A2,c2,rfl,k2,m2⟩:=rSl.head h2;have H0:=hid h0;have H1:=hid h1;have H2:=hid h2;obtain⟨nR,hnR⟩:∃nR,x.rows.length=nR:=⟨_,rfl⟩;obtain⟨nD,hnD⟩:∃nD,x.data.length=nD:=⟨_,rfl⟩;obtain⟨nE,hnE⟩:∃nE,x.delta.length=nE:=⟨_,rfl⟩;have HNR:=hid hnR;have HND:=hid hnD;have HNE:=hid hnE;rw[hnR]at H0 k0⊢;rw[hnD]at H1 k1⊢;rw[hnE]at H2 k2⊢;have K1:=(Blk.new w 25 #[int i64 s.g,int i64 s.c,int i64 s.data,int i64 s.p,int i64 s.rows,int i64 s.cap,int i64 s.b,int i64 s.q,int i64 s.t]).alloc (.cells #[int i64 x.kind,int i64 x.seq,.string x.name,int i64 x.length,int i64 x.group,int i64 x.row,.slice A0 nR c0,.slice A1 nD c1,.slice A2 nE c2] 76);have K2:=Blk.new1 w (.cells #[int i64 s.g,int i64 s.c,int i64 s.data,int i64 s.p,int i64 s.rows,int i64 s.cap,int i64 s.b,int i64 s.q,int i64 s.t] 25) 76 #[int i64 x.kind,int i64 x.seq,.string x.name,int i64 x.length,int i64 x.group,int i64 x.row,.slice A0 nR c0,.slice A1 nD c1,.slice A2 nE c2];have hB:Below w.heap.size w ((w.alloc (.cells #[int i64 s.g,int i64 s.c,int i64 s.data,int i64 s.p,int i64 s.rows,int i64 s.cap,int i64 s.b,int i64 s.q,int i64 s.t] 25)).alloc (.cells #[int i64 x.kind,int i64 x.seq,.string x.name,int i64 x.length,int i64 x.group,int i64 x.row,.slice A0 nR c0,.slice A1 nD c1,.slice A2 nE c2] 76)):=((Below.refl _ _).alloc (Nat.le_refl _) _).alloc (by simp) _;have HB:=hid hB;have S2:=Ck.of K1;have R2:=Dz.of K2;have HS:=hid S2;have HRC:=hid R2;clear h0 h1 h2 hnR hnD hnE K1 K2 hB;rw[HNR.out,HND.out,HNE.out]at hrr;have hs:=CJ hsb;have HIK:=hid (fun(W:World) => AX x.kind 1 4 W);have HIQ:=hid (fun(W:World) => AX x.seq 1 1000000000 W);rw[show Al x.kind 1 4=true by rw[hk];rfl]at HIK;rw[hq]at HIQ;have hrc:=DU (s:=s) (show Al x.kind 1 4=true by rw[hk];rfl) hq;rw[Ex]at hrc;obtain⟨r,hr⟩:∃r:Int,AE s x=r:=⟨_,rfl⟩;rw[hr]at hrc⊢;obtain⟨pc,hpc⟩:∃pc:Int,Bt s x=pc:=⟨_,rfl⟩;rw[hpc]at hrc;have HRV:=hid hrc;have HPC:=hid hpc;have HBR:=hid (fun(W:World) => bare1_c x A0 A1 A2 nR nD nE c0 c1 c2 W hk);have HBW:=hid (bareR1 hk o0 o1 o2 o3 o4 o5 H0.out H1.out H2.out);have HSM:=hid (fun(W:World) (hW:Below w.heap.size w W) => DW x (Ct x) _ _ _ _ W (Aw.below Ac.local_ Ac.fixed hrr hW) (Aw.below Ac.local_ Ac.fixed HBW.out hW));obtain⟨sm,hsm⟩:∃sm,decide (x=Ct x)=sm:=⟨_,rfl⟩;rw[hsm]at HSM HRV;have k1:(x.kind == 1)=true:=by rw[hk];rfl
 have k3:(x.kind == 3)=false:=by rw[hk];rfl
 have k4:(x.kind == 4)=false:=by rw[hk];rfl
 have HFA:=hid (JP s hs x _ _ ((w.alloc (.cells #[int i64 s.g,int i64 s.c,int i64 s.data,int i64 s.p,int i64 s.rows,int i64 s.cap,int i64 s.b,int i64 s.q,int i64 s.t] 25)).alloc (.cells #[int i64 x.kind,int i64 x.seq,.string x.name,int i64 x.length,int i64 x.group,int i64 x.row,.slice A0 nR c0,.slice A1 nD c1,.slice A2 nE c2] 76)) (Aw.below Ac.local_ Ac.fixed hrr HB.out));have e0:Bt s x=CP s x:=by unfold Bt;rw[if_pos hk];rfl
 rw[← e0,hpc]at HFA;unfold shV at HFA⊢;clear hsb hk hq hs hr hrc hpc hsm hrr o0 o1 o2 o3 o4 o5 e0;go_enter Tryz.func122,Tryz.ntmps122
 go_wp2_with (first
  |(go_at_call_has 61 x.kind;refine(HIK.out _).mono ?_;rintro e w' ⟨rfl,rfl⟩)
  |(go_at_call_has 61 x.seq;refine(HIQ.out _).mono ?_;rintro e w' ⟨rfl,rfl⟩)
  |(refine wpList_load_mid rfl 25 _ rfl w.heap.size 0 rfl _ _ HS.out.rng Tryz.underlying25 rfl (by kernel_rfl) ?_)
  |(refine wpList_load_mid rfl 76 _ rfl (w.heap.size+1) 0 rfl _ _ HRC.out.rng Tryz.underlying76 rfl (by kernel_rfl) ?_))
 refine HFA.out.mono ?_;rintro e w3 ⟨rfl,b3⟩;have HS3:=hid (HS.out.below b3);have HR3:=hid (HRC.out.below b3);have B3:=hid (HB.out.trans (b3.mono HB.out.size));have ls3:=HS3.out.lt;have lr3:=HR3.out.lt;have u0:=cell_regrown HS3.out.c0;have u1:=cell_regrown HS3.out.c1;have u2:=cell_regrown HS3.out.c2;have u3:=cell_regrown HS3.out.c3;have u4:=cell_regrown HS3.out.c4;have u5:=cell_regrown HS3.out.c5;have u6:=cell_regrown HS3.out.c6;have u7:=cell_regrown HS3.out.c7;have u8:=cell_regrown HS3.out.c8;have t0:=cell_regrown HR3.out.c0;have t1:=cell_regrown HR3.out.c1;have t2:=cell_regrown HR3.out.c2;have t3:=cell_regrown HR3.out.c3;have t4:=cell_regrown HR3.out.c4;have t5:=cell_regrown HR3.out.c5;have t6:=cell_regrown HR3.out.c6;have t7:=cell_regrown HR3.out.c7;have t8:=cell_regrown HR3.out.c8;clear b3;by_cases hp:pc=0
 ·subst hp;have QB:=hid (Bi (w:=w3) (fun W _ => HBR.out W));have QM:=hid (Bi (w:=w3) (fun W hW => HSM.out W (B3.out.trans (hW.mono B3.out.size))));cases sm with
  |true =>
   have e1:r=0:=HRV.out.trans rfl;subst e1;go_wp2_with fail
   (refine wp_region_quiet_below (by kernel_rfl) (by kernel_rfl) ?_;(repeat(first|go_big_quiet_step (first|(go_at_call 182;exact QB.out _ _)|(go_at_call 181;exact QM.out _ _))|quiet_step (first|(go_at_call 182;exact QB.out _ _)|(go_at_call 181;exact QM.out _ _))));refine wpQuiet_nil ?_)
   rintro _ ⟨⟨dq2,osq2⟩,rfl⟩;have HB9:=hid (B3.out.trans ((below_regrown _ dq2 osq2).mono B3.out.size));go_wp2_with fail
   go_ret
   exact⟨rfl,HB9.out⟩
  |false =>
   have e1:r=1:=HRV.out.trans rfl;subst e1;go_wp2_with fail
   (refine wp_region_quiet_below (by kernel_rfl) (by kernel_rfl) ?_;(repeat(first|go_big_quiet_step (first|(go_at_call 182;exact QB.out _ _)|(go_at_call 181;exact QM.out _ _))|quiet_step (first|(go_at_call 182;exact QB.out _ _)|(go_at_call 181;exact QM.out _ _))));refine wpQuiet_nil ?_)
   rintro _ ⟨⟨dq2,osq2⟩,rfl⟩;have HB9:=hid (B3.out.trans ((below_regrown _ dq2 osq2).mono B3.out.size));go_wp2_with fail
   go_ret
   exact⟨rfl,HB9.out⟩
 ·have e1:r=pc:=HRV.out.trans (if_neg hp);subst e1;have hp2:(r == 0)=false:=by simpa using hp
  clear hp;go_wp2_with fail
  (refine wp_region_quiet_below (by kernel_rfl) (by kernel_rfl) ?_;(repeat(first|go_big_quiet_step (fail)|quiet_step (fail)));refine wpQuiet_nil ?_)
  rintro _ ⟨⟨dq2,osq2⟩,rfl⟩;have HB9:=hid (B3.out.trans ((below_regrown _ dq2 osq2).mono B3.out.size));go_wp2_with fail
  go_ret
  exact⟨rfl,HB9.out⟩
theorem KU(s:Sh)(hsb:shB s=true)(x:Ag)(cs:List Value)(f:List Addr)(w:World)(h:Ac w f cs x)(hk:x.kind=2)(hq:Al x.seq 1 1000000000=true) :
  Calls Tryz.prog 122 #[shV s,.agg cs.toArray] w fun e w' => e= .returned (int i64 (AE s x))∧Below w.heap.size w w':=by
 have hrr:=h;dsimp only[Ac]at h;obtain⟨v0,v1,v2,f0,f1,f2,rfl,rfl,o0,o1,o2,o3,o4,o5,h0,h1,h2⟩:=h;obtain⟨A0,c0,rfl,k0,m0⟩:=rSl.head h0;obtain⟨A1,c1,rfl,k1,m1⟩:=rSl.head h1;obtain⟨A2,c2,rfl,k2,m2⟩:=rSl.head h2;have H0:=hid h0;have H1:=hid h1;have H2:=hid h2;obtain⟨nR,hnR⟩:∃nR,x.rows.length=nR:=⟨_,rfl⟩;obtain⟨nD,hnD⟩:∃nD,x.data.length=nD:=⟨_,rfl⟩;obtain⟨nE,hnE⟩:∃nE,x.delta.length=nE:=⟨_,rfl⟩;have HNR:=hid hnR;have HND:=hid hnD;have HNE:=hid hnE;rw[hnR]at H0 k0⊢;rw[hnD]at H1 k1⊢;rw[hnE]at H2 k2⊢;have K1:=(Blk.new w 25 #[int i64 s.g,int i64 s.c,int i64 s.data,int i64 s.p,int i64 s.rows,int i64 s.cap,int i64 s.b,int i64 s.q,int i64 s.t]).alloc (.cells #[int i64 x.kind,int i64 x.seq,.string x.name,int i64 x.length,int i64 x.group,int i64 x.row,.slice A0 nR c0,.slice A1 nD c1,.slice A2 nE c2] 76);have K2:=Blk.new1 w (.cells #[int i64 s.g,int i64 s.c,int i64 s.data,int i64 s.p,int i64 s.rows,int i64 s.cap,int i64 s.b,int i64 s.q,int i64 s.t] 25) 76 #[int i64 x.kind,int i64 x.seq,.string x.name,int i64 x.length,int i64 x.group,int i64 x.row,.slice A0 nR c0,.slice A1 nD c1,.slice A2 nE c2];have hB:Below w.heap.size w ((w.alloc (.cells #[int i64 s.g,int i64 s.c,int i64 s.data,int i64 s.p,int i64 s.rows,int i64 s.cap,int i64 s.b,int i64 s.q,int i64 s.t] 25)).alloc (.cells #[int i64 x.kind,int i64 x.seq,.string x.name,int i64 x.length,int i64 x.group,int i64 x.row,.slice A0 nR c0,.slice A1 nD c1,.slice A2 nE c2] 76)):=((Below.refl _ _).alloc (Nat.le_refl _) _).alloc (by simp) _;have HB:=hid hB;have S2:=Ck.of K1;have R2:=Dz.of K2;have HS:=hid S2;have HRC:=hid R2;clear h0 h1 h2 hnR hnD hnE K1 K2 hB;rw[HNR.out,HND.out,HNE.out]at hrr;have hs:=CJ hsb;have HIK:=hid (fun(W:World) => AX x.kind 1 4 W);have HIQ:=hid (fun(W:World) => AX x.seq 1 1000000000 W);rw[show Al x.kind 1 4=true by rw[hk];rfl]at HIK;rw[hq]at HIQ;have hrc:=DU (s:=s) (show Al x.kind 1 4=true by rw[hk];rfl) hq;rw[Ex]at hrc;obtain⟨r,hr⟩:∃r:Int,AE s x=r:=⟨_,rfl⟩;rw[hr]at hrc⊢;obtain⟨pc,hpc⟩:∃pc:Int,Bt s x=pc:=⟨_,rfl⟩;rw[hpc]at hrc;have HRV:=hid hrc;have HPC:=hid hpc;have HBR:=hid (fun(W:World) => bare2_c x A0 A1 A2 nR nD nE c0 c1 c2 W hk);have HBW:=hid (bareR2 hk o0 o1 o2 o3 o4 o5 H0.out H1.out H2.out);have HSM:=hid (fun(W:World) (hW:Below w.heap.size w W) => DW x (Ct x) _ _ _ _ W (Aw.below Ac.local_ Ac.fixed hrr hW) (Aw.below Ac.local_ Ac.fixed HBW.out hW));obtain⟨sm,hsm⟩:∃sm,decide (x=Ct x)=sm:=⟨_,rfl⟩;rw[hsm]at HSM HRV;have k1:(x.kind == 1)=false:=by rw[hk];rfl
 have k3:(x.kind == 3)=false:=by rw[hk];rfl
 have k4:(x.kind == 4)=false:=by rw[hk];rfl
 have e0:Bt s x=if Ew s x=true then 0 else 3:=by unfold Bt;rw[if_neg (by omega),if_pos hk]
 rw[hpc]at e0;have HMC:=hid (LU s x);rw[HND.out,HNE.out]at HMC;obtain⟨mb,hmb0⟩:∃mb,Ew s x=mb:=⟨_,rfl⟩;rw[hmb0]at e0 HMC;have HE0:=hid e0;obtain⟨wd,hwd⟩:∃wd,s.data * 4=wd:=⟨_,rfl⟩;have HRL:=hid (fun(W:World) => E0 s hs W);rw[hwd]at HMC HRL;have QRL:=hid (Bi (w:=((w.alloc (.cells #[int i64 s.g,int i64 s.c,int i64 s.data,int i64 s.p,int i64 s.rows,int i64 s.cap,int i64 s.b,int i64 s.q,int i64 s.t] 25)).alloc (.cells #[int i64 x.kind,int i64 x.seq,.string x.name,int i64 x.length,int i64 x.group,int i64 x.row,.slice A0 nR c0,.slice A1 nD c1,.slice A2 nE c2] 76))) (fun W _ => HRL.out W));have QID:=hid (Bi (w:=((w.alloc (.cells #[int i64 s.g,int i64 s.c,int i64 s.data,int i64 s.p,int i64 s.rows,int i64 s.cap,int i64 s.b,int i64 s.q,int i64 s.t] 25)).alloc (.cells #[int i64 x.kind,int i64 x.seq,.string x.name,int i64 x.length,int i64 x.group,int i64 x.row,.slice A0 nR c0,.slice A1 nD c1,.slice A2 nE c2] 76))) (fun W _ => Fs s hs x.group W));have QIR:=hid (Bi (w:=((w.alloc (.cells #[int i64 s.g,int i64 s.c,int i64 s.data,int i64 s.p,int i64 s.rows,int i64 s.cap,int i64 s.b,int i64 s.q,int i64 s.t] 25)).alloc (.cells #[int i64 x.kind,int i64 x.seq,.string x.name,int i64 x.length,int i64 x.group,int i64 x.row,.slice A0 nR c0,.slice A1 nD c1,.slice A2 nE c2] 76))) (fun W _ => Hl s hs x.row W));have QSD:=hid (BF (w:=((w.alloc (.cells #[int i64 s.g,int i64 s.c,int i64 s.data,int i64 s.p,int i64 s.rows,int i64 s.cap,int i64 s.b,int i64 s.q,int i64 s.t] 25)).alloc (.cells #[int i64 x.kind,int i64 x.seq,.string x.name,int i64 x.length,int i64 x.group,int i64 x.row,.slice A0 nR c0,.slice A1 nD c1,.slice A2 nE c2] 76))) (fun W => Bw A1 nD c1 W));have QSE:=hid (BF (w:=((w.alloc (.cells #[int i64 s.g,int i64 s.c,int i64 s.data,int i64 s.p,int i64 s.rows,int i64 s.cap,int i64 s.b,int i64 s.q,int i64 s.t] 25)).alloc (.cells #[int i64 x.kind,int i64 x.seq,.string x.name,int i64 x.length,int i64 x.group,int i64 x.row,.slice A0 nR c0,.slice A1 nD c1,.slice A2 nE c2] 76))) (fun W => Bw A2 nE c2 W));unfold shV at QRL QID QIR⊢;clear hsb hk hq hs hr hrc hpc hsm hrr o0 o1 o2 o3 o4 o5 e0 hmb0 hwd HRL;have u0:=cell_regrown HS.out.c0;have u1:=cell_regrown HS.out.c1;have u2:=cell_regrown HS.out.c2;have u3:=cell_regrown HS.out.c3;have u4:=cell_regrown HS.out.c4;have u5:=cell_regrown HS.out.c5;have u6:=cell_regrown HS.out.c6;have u7:=cell_regrown HS.out.c7;have u8:=cell_regrown HS.out.c8;have t0:=cell_regrown HRC.out.c0;have t1:=cell_regrown HRC.out.c1;have t2:=cell_regrown HRC.out.c2;have t3:=cell_regrown HRC.out.c3;have t4:=cell_regrown HRC.out.c4;have t5:=cell_regrown HRC.out.c5;have t6:=cell_regrown HRC.out.c6;have t7:=cell_regrown HRC.out.c7;have t8:=cell_regrown HRC.out.c8;have xx:=HS.out.lt;have xy:=HRC.out.lt;refine HMC.out _ ?_ ?_ ?_ ?_ ?_
 ·intro g hmb;subst hmb;have e2:pc=3:=HE0.out;subst e2;rw[g]at QID;clear g;have e1:r=3:=HRV.out.trans (if_neg (by decide));subst e1;go_enter Tryz.func122,Tryz.ntmps122
  go_wp2_with (first
  |(go_at_call_has 61 x.kind;refine(HIK.out _).mono ?_;rintro e w' ⟨rfl,rfl⟩)
  |(go_at_call_has 61 x.seq;refine(HIQ.out _).mono ?_;rintro e w' ⟨rfl,rfl⟩)
  |(refine wpList_load_mid rfl 25 _ rfl w.heap.size 0 rfl _ _ HS.out.rng Tryz.underlying25 rfl (by kernel_rfl) ?_)
  |(refine wpList_load_mid rfl 76 _ rfl (w.heap.size+1) 0 rfl _ _ HRC.out.rng Tryz.underlying76 rfl (by kernel_rfl) ?_))
  (refine wp_region_quiet_below (by kernel_rfl) (by kernel_rfl) ?_;(repeat(first|go_big_quiet_step (first|(go_at_call 51;exact QID.out _ _)|(go_at_call 180;exact QIR.out _ _)|(go_at_call 127;exact QRL.out _ _)|(go_at_call_has 70 nD;exact QSD.out _ _)|(go_at_call_has 70 nE;exact QSE.out _ _))|quiet_step (first|(go_at_call 51;exact QID.out _ _)|(go_at_call 180;exact QIR.out _ _)|(go_at_call 127;exact QRL.out _ _)|(go_at_call_has 70 nD;exact QSD.out _ _)|(go_at_call_has 70 nE;exact QSE.out _ _))));refine wpQuiet_nil ?_)
  rintro _ ⟨⟨dq,osq⟩,rfl⟩;have b5:=below_regrown ((w.alloc (.cells #[int i64 s.g,int i64 s.c,int i64 s.data,int i64 s.p,int i64 s.rows,int i64 s.cap,int i64 s.b,int i64 s.q,int i64 s.t] 25)).alloc (.cells #[int i64 x.kind,int i64 x.seq,.string x.name,int i64 x.length,int i64 x.group,int i64 x.row,.slice A0 nR c0,.slice A1 nD c1,.slice A2 nE c2] 76)) dq osq;generalize grow (redrawn ((w.alloc (.cells #[int i64 s.g,int i64 s.c,int i64 s.data,int i64 s.p,int i64 s.rows,int i64 s.cap,int i64 s.b,int i64 s.q,int i64 s.t] 25)).alloc (.cells #[int i64 x.kind,int i64 x.seq,.string x.name,int i64 x.length,int i64 x.group,int i64 x.row,.slice A0 nR c0,.slice A1 nD c1,.slice A2 nE c2] 76)) dq) osq=w5 at b5;have B5:=hid (HB.out.trans (b5.mono HB.out.size));clear b5;go_wp2_with fail
  (refine wp_region_quiet_below (by kernel_rfl) (by kernel_rfl) ?_;(repeat(first|go_big_quiet_step (fail)|quiet_step (fail)));refine wpQuiet_nil ?_)
  rintro _ ⟨⟨dq2,osq2⟩,rfl⟩;have HB9:=hid (B5.out.trans ((below_regrown _ dq2 osq2).mono B5.out.size));go_wp2_with fail
  go_ret
  exact⟨rfl,HB9.out⟩
 ·intro g r2 hmb;subst hmb;have e2:pc=3:=HE0.out;subst e2;rw[g]at QID;rw[r2]at QIR;clear g r2;have e1:r=3:=HRV.out.trans (if_neg (by decide));subst e1;go_enter Tryz.func122,Tryz.ntmps122
  go_wp2_with (first
  |(go_at_call_has 61 x.kind;refine(HIK.out _).mono ?_;rintro e w' ⟨rfl,rfl⟩)
  |(go_at_call_has 61 x.seq;refine(HIQ.out _).mono ?_;rintro e w' ⟨rfl,rfl⟩)
  |(refine wpList_load_mid rfl 25 _ rfl w.heap.size 0 rfl _ _ HS.out.rng Tryz.underlying25 rfl (by kernel_rfl) ?_)
  |(refine wpList_load_mid rfl 76 _ rfl (w.heap.size+1) 0 rfl _ _ HRC.out.rng Tryz.underlying76 rfl (by kernel_rfl) ?_))
  (refine wp_region_quiet_below (by kernel_rfl) (by kernel_rfl) ?_;(repeat(first|go_big_quiet_step (first|(go_at_call 51;exact QID.out _ _)|(go_at_call 180;exact QIR.out _ _)|(go_at_call 127;exact QRL.out _ _)|(go_at_call_has 70 nD;exact QSD.out _ _)|(go_at_call_has 70 nE;exact QSE.out _ _))|quiet_step (first|(go_at_call 51;exact QID.out _ _)|(go_at_call 180;exact QIR.out _ _)|(go_at_call 127;exact QRL.out _ _)|(go_at_call_has 70 nD;exact QSD.out _ _)|(go_at_call_has 70 nE;exact QSE.out _ _))));refine wpQuiet_nil ?_)
  rintro _ ⟨⟨dq,osq⟩,rfl⟩;have b5:=below_regrown ((w.alloc (.cells #[int i64 s.g,int i64 s.c,int i64 s.data,int i64 s.p,int i64 s.rows,int i64 s.cap,int i64 s.b,int i64 s.q,int i64 s.t] 25)).alloc (.cells #[int i64 x.kind,int i64 x.seq,.string x.name,int i64 x.length,int i64 x.group,int i64 x.row,.slice A0 nR c0,.slice A1 nD c1,.slice A2 nE c2] 76)) dq osq;generalize grow (redrawn ((w.alloc (.cells #[int i64 s.g,int i64 s.c,int i64 s.data,int i64 s.p,int i64 s.rows,int i64 s.cap,int i64 s.b,int i64 s.q,int i64 s.t] 25)).alloc (.cells #[int i64 x.kind,int i64 x.seq,.string x.name,int i64 x.length,int i64 x.group,int i64 x.row,.slice A0 nR c0,.slice A1 nD c1,.slice A2 nE c2] 76)) dq) osq=w5 at b5;have B5:=hid (HB.out.trans (b5.mono HB.out.size));clear b5;go_wp2_with fail
  (refine wp_region_quiet_below (by kernel_rfl) (by kernel_rfl) ?_;(repeat(first|go_big_quiet_step (fail)|quiet_step (fail)));refine wpQuiet_nil ?_)
  rintro _ ⟨⟨dq2,osq2⟩,rfl⟩;have HB9:=hid (B5.out.trans ((below_regrown _ dq2 osq2).mono B5.out.size));go_wp2_with fail
  go_ret
  exact⟨rfl,HB9.out⟩
 ·intro g r2 d hmb;subst hmb;have e2:pc=3:=HE0.out;subst e2;rw[g]at QID;rw[r2]at QIR;have d1:=FL d;clear g r2 d;have e1:r=3:=HRV.out.trans (if_neg (by decide));subst e1;go_enter Tryz.func122,Tryz.ntmps122
  go_wp2_with (first
  |(go_at_call_has 61 x.kind;refine(HIK.out _).mono ?_;rintro e w' ⟨rfl,rfl⟩)
  |(go_at_call_has 61 x.seq;refine(HIQ.out _).mono ?_;rintro e w' ⟨rfl,rfl⟩)
  |(refine wpList_load_mid rfl 25 _ rfl w.heap.size 0 rfl _ _ HS.out.rng Tryz.underlying25 rfl (by kernel_rfl) ?_)
  |(refine wpList_load_mid rfl 76 _ rfl (w.heap.size+1) 0 rfl _ _ HRC.out.rng Tryz.underlying76 rfl (by kernel_rfl) ?_))
  (refine wp_region_quiet_below (by kernel_rfl) (by kernel_rfl) ?_;(repeat(first|go_big_quiet_step (first|(go_at_call 51;exact QID.out _ _)|(go_at_call 180;exact QIR.out _ _)|(go_at_call 127;exact QRL.out _ _)|(go_at_call_has 70 nD;exact QSD.out _ _)|(go_at_call_has 70 nE;exact QSE.out _ _))|quiet_step (first|(go_at_call 51;exact QID.out _ _)|(go_at_call 180;exact QIR.out _ _)|(go_at_call 127;exact QRL.out _ _)|(go_at_call_has 70 nD;exact QSD.out _ _)|(go_at_call_has 70 nE;exact QSE.out _ _))));refine wpQuiet_nil ?_)
  rintro _ ⟨⟨dq,osq⟩,rfl⟩;have b5:=below_regrown ((w.alloc (.cells #[int i64 s.g,int i64 s.c,int i64 s.data,int i64 s.p,int i64 s.rows,int i64 s.cap,int i64 s.b,int i64 s.q,int i64 s.t] 25)).alloc (.cells #[int i64 x.kind,int i64 x.seq,.string x.name,int i64 x.length,int i64 x.group,int i64 x.row,.slice A0 nR c0,.slice A1 nD c1,.slice A2 nE c2] 76)) dq osq;generalize grow (redrawn ((w.alloc (.cells #[int i64 s.g,int i64 s.c,int i64 s.data,int i64 s.p,int i64 s.rows,int i64 s.cap,int i64 s.b,int i64 s.q,int i64 s.t] 25)).alloc (.cells #[int i64 x.kind,int i64 x.seq,.string x.name,int i64 x.length,int i64 x.group,int i64 x.row,.slice A0 nR c0,.slice A1 nD c1,.slice A2 nE c2] 76)) dq) osq=w5 at b5;have B5:=hid (HB.out.trans (b5.mono HB.out.size));clear b5;go_wp2_with fail
  (refine wp_region_quiet_below (by kernel_rfl) (by kernel_rfl) ?_;(repeat(first|go_big_quiet_step (fail)|quiet_step (fail)));refine wpQuiet_nil ?_)
  rintro _ ⟨⟨dq2,osq2⟩,rfl⟩;have HB9:=hid (B5.out.trans ((below_regrown _ dq2 osq2).mono B5.out.size));go_wp2_with fail
  go_ret
  exact⟨rfl,HB9.out⟩
 ·intro g r2 d d2 hmb;subst hmb;have e2:pc=3:=HE0.out;subst e2;rw[g]at QID;rw[r2]at QIR;have d1:=EB d;have d3:=FL d2;clear g r2 d d2;have e1:r=3:=HRV.out.trans (if_neg (by decide));subst e1;go_enter Tryz.func122,Tryz.ntmps122
  go_wp2_with (first
  |(go_at_call_has 61 x.kind;refine(HIK.out _).mono ?_;rintro e w' ⟨rfl,rfl⟩)
  |(go_at_call_has 61 x.seq;refine(HIQ.out _).mono ?_;rintro e w' ⟨rfl,rfl⟩)
  |(refine wpList_load_mid rfl 25 _ rfl w.heap.size 0 rfl _ _ HS.out.rng Tryz.underlying25 rfl (by kernel_rfl) ?_)
  |(refine wpList_load_mid rfl 76 _ rfl (w.heap.size+1) 0 rfl _ _ HRC.out.rng Tryz.underlying76 rfl (by kernel_rfl) ?_))
  (refine wp_region_quiet_below (by kernel_rfl) (by kernel_rfl) ?_;(repeat(first|go_big_quiet_step (first|(go_at_call 51;exact QID.out _ _)|(go_at_call 180;exact QIR.out _ _)|(go_at_call 127;exact QRL.out _ _)|(go_at_call_has 70 nD;exact QSD.out _ _)|(go_at_call_has 70 nE;exact QSE.out _ _))|quiet_step (first|(go_at_call 51;exact QID.out _ _)|(go_at_call 180;exact QIR.out _ _)|(go_at_call 127;exact QRL.out _ _)|(go_at_call_has 70 nD;exact QSD.out _ _)|(go_at_call_has 70 nE;exact QSE.out _ _))));refine wpQuiet_nil ?_)
  rintro _ ⟨⟨dq,osq⟩,rfl⟩;have b5:=below_regrown ((w.alloc (.cells #[int i64 s.g,int i64 s.c,int i64 s.data,int i64 s.p,int i64 s.rows,int i64 s.cap,int i64 s.b,int i64 s.q,int i64 s.t] 25)).alloc (.cells #[int i64 x.kind,int i64 x.seq,.string x.name,int i64 x.length,int i64 x.group,int i64 x.row,.slice A0 nR c0,.slice A1 nD c1,.slice A2 nE c2] 76)) dq osq;generalize grow (redrawn ((w.alloc (.cells #[int i64 s.g,int i64 s.c,int i64 s.data,int i64 s.p,int i64 s.rows,int i64 s.cap,int i64 s.b,int i64 s.q,int i64 s.t] 25)).alloc (.cells #[int i64 x.kind,int i64 x.seq,.string x.name,int i64 x.length,int i64 x.group,int i64 x.row,.slice A0 nR c0,.slice A1 nD c1,.slice A2 nE c2] 76)) dq) osq=w5 at b5;have B5:=hid (HB.out.trans (b5.mono HB.out.size));clear b5;go_wp2_with fail
  (refine wp_region_quiet_below (by kernel_rfl) (by kernel_rfl) ?_;(repeat(first|go_big_quiet_step (fail)|quiet_step (fail)));refine wpQuiet_nil ?_)
  rintro _ ⟨⟨dq2,osq2⟩,rfl⟩;have HB9:=hid (B5.out.trans ((below_regrown _ dq2 osq2).mono B5.out.size));go_wp2_with fail
  go_ret
  exact⟨rfl,HB9.out⟩
 ·intro g r2 d d2 hmb;subst hmb;have e2:pc=0:=HE0.out;subst e2;rw[g]at QID;rw[r2]at QIR;have d1:=EB d;have d3:=EB d2;clear g r2 d d2;go_enter Tryz.func122,Tryz.ntmps122
  go_wp2_with (first
  |(go_at_call_has 61 x.kind;refine(HIK.out _).mono ?_;rintro e w' ⟨rfl,rfl⟩)
  |(go_at_call_has 61 x.seq;refine(HIQ.out _).mono ?_;rintro e w' ⟨rfl,rfl⟩)
  |(refine wpList_load_mid rfl 25 _ rfl w.heap.size 0 rfl _ _ HS.out.rng Tryz.underlying25 rfl (by kernel_rfl) ?_)
  |(refine wpList_load_mid rfl 76 _ rfl (w.heap.size+1) 0 rfl _ _ HRC.out.rng Tryz.underlying76 rfl (by kernel_rfl) ?_))
  (refine wp_region_quiet_below (by kernel_rfl) (by kernel_rfl) ?_;(repeat(first|go_big_quiet_step (first|(go_at_call 51;exact QID.out _ _)|(go_at_call 180;exact QIR.out _ _)|(go_at_call 127;exact QRL.out _ _)|(go_at_call_has 70 nD;exact QSD.out _ _)|(go_at_call_has 70 nE;exact QSE.out _ _))|quiet_step (first|(go_at_call 51;exact QID.out _ _)|(go_at_call 180;exact QIR.out _ _)|(go_at_call 127;exact QRL.out _ _)|(go_at_call_has 70 nD;exact QSD.out _ _)|(go_at_call_has 70 nE;exact QSE.out _ _))));refine wpQuiet_nil ?_)
  rintro _ ⟨⟨dq,osq⟩,rfl⟩;have b5:=below_regrown ((w.alloc (.cells #[int i64 s.g,int i64 s.c,int i64 s.data,int i64 s.p,int i64 s.rows,int i64 s.cap,int i64 s.b,int i64 s.q,int i64 s.t] 25)).alloc (.cells #[int i64 x.kind,int i64 x.seq,.string x.name,int i64 x.length,int i64 x.group,int i64 x.row,.slice A0 nR c0,.slice A1 nD c1,.slice A2 nE c2] 76)) dq osq;generalize grow (redrawn ((w.alloc (.cells #[int i64 s.g,int i64 s.c,int i64 s.data,int i64 s.p,int i64 s.rows,int i64 s.cap,int i64 s.b,int i64 s.q,int i64 s.t] 25)).alloc (.cells #[int i64 x.kind,int i64 x.seq,.string x.name,int i64 x.length,int i64 x.group,int i64 x.row,.slice A0 nR c0,.slice A1 nD c1,.slice A2 nE c2] 76)) dq) osq=w5 at b5;have HS5:=hid (HS.out.below b5);have HR5:=hid (HRC.out.below b5);have B5:=hid (HB.out.trans (b5.mono HB.out.size));have ls5:=HS5.out.lt;have lr5:=HR5.out.lt;clear u0 u1 u2 u3 u4 u5 u6 u7 u8 t0 t1 t2 t3 t4 t5 t6 t7 t8 b5;have u0:=cell_regrown HS5.out.c0;have u1:=cell_regrown HS5.out.c1;have u2:=cell_regrown HS5.out.c2;have u3:=cell_regrown HS5.out.c3;have u4:=cell_regrown HS5.out.c4;have u5:=cell_regrown HS5.out.c5;have u6:=cell_regrown HS5.out.c6;have u7:=cell_regrown HS5.out.c7;have u8:=cell_regrown HS5.out.c8;have t0:=cell_regrown HR5.out.c0;have t1:=cell_regrown HR5.out.c1;have t2:=cell_regrown HR5.out.c2;have t3:=cell_regrown HR5.out.c3;have t4:=cell_regrown HR5.out.c4;have t5:=cell_regrown HR5.out.c5;have t6:=cell_regrown HR5.out.c6;have t7:=cell_regrown HR5.out.c7;have t8:=cell_regrown HR5.out.c8;have QB:=hid (Bi (w:=w5) (fun W _ => HBR.out W));have QM:=hid (Bi (w:=w5) (fun W hW => HSM.out W (B5.out.trans (hW.mono B5.out.size))));cases sm with
  |true =>
   have e1:r=0:=HRV.out.trans rfl;subst e1;go_wp2_with fail
   (refine wp_region_quiet_below (by kernel_rfl) (by kernel_rfl) ?_;(repeat(first|go_big_quiet_step (first|(go_at_call 182;exact QB.out _ _)|(go_at_call 181;exact QM.out _ _))|quiet_step (first|(go_at_call 182;exact QB.out _ _)|(go_at_call 181;exact QM.out _ _))));refine wpQuiet_nil ?_)
   rintro _ ⟨⟨dq2,osq2⟩,rfl⟩;have HB9:=hid (B5.out.trans ((below_regrown _ dq2 osq2).mono B5.out.size));go_wp2_with fail
   go_ret
   exact⟨rfl,HB9.out⟩
  |false =>
   have e1:r=1:=HRV.out.trans rfl;subst e1;go_wp2_with fail
   (refine wp_region_quiet_below (by kernel_rfl) (by kernel_rfl) ?_;(repeat(first|go_big_quiet_step (first|(go_at_call 182;exact QB.out _ _)|(go_at_call 181;exact QM.out _ _))|quiet_step (first|(go_at_call 182;exact QB.out _ _)|(go_at_call 181;exact QM.out _ _))));refine wpQuiet_nil ?_)
   rintro _ ⟨⟨dq2,osq2⟩,rfl⟩;have HB9:=hid (B5.out.trans ((below_regrown _ dq2 osq2).mono B5.out.size));go_wp2_with fail
   go_ret
   exact⟨rfl,HB9.out⟩
theorem KV(s:Sh)(hsb:shB s=true)(x:Ag)(cs:List Value)(f:List Addr)(w:World)(h:Ac w f cs x)(hk:x.kind=3)(hq:Al x.seq 1 1000000000=true) :
  Calls Tryz.prog 122 #[shV s,.agg cs.toArray] w fun e w' => e= .returned (int i64 (AE s x))∧Below w.heap.size w w':=by
 have hrr:=h;dsimp only[Ac]at h;obtain⟨v0,v1,v2,f0,f1,f2,rfl,rfl,o0,o1,o2,o3,o4,o5,h0,h1,h2⟩:=h;obtain⟨A0,c0,rfl,k0,m0⟩:=rSl.head h0;obtain⟨A1,c1,rfl,k1,m1⟩:=rSl.head h1;obtain⟨A2,c2,rfl,k2,m2⟩:=rSl.head h2;have H0:=hid h0;have H1:=hid h1;have H2:=hid h2;obtain⟨nR,hnR⟩:∃nR,x.rows.length=nR:=⟨_,rfl⟩;obtain⟨nD,hnD⟩:∃nD,x.data.length=nD:=⟨_,rfl⟩;obtain⟨nE,hnE⟩:∃nE,x.delta.length=nE:=⟨_,rfl⟩;have HNR:=hid hnR;have HND:=hid hnD;have HNE:=hid hnE;rw[hnR]at H0 k0⊢;rw[hnD]at H1 k1⊢;rw[hnE]at H2 k2⊢;have K1:=(Blk.new w 25 #[int i64 s.g,int i64 s.c,int i64 s.data,int i64 s.p,int i64 s.rows,int i64 s.cap,int i64 s.b,int i64 s.q,int i64 s.t]).alloc (.cells #[int i64 x.kind,int i64 x.seq,.string x.name,int i64 x.length,int i64 x.group,int i64 x.row,.slice A0 nR c0,.slice A1 nD c1,.slice A2 nE c2] 76);have K2:=Blk.new1 w (.cells #[int i64 s.g,int i64 s.c,int i64 s.data,int i64 s.p,int i64 s.rows,int i64 s.cap,int i64 s.b,int i64 s.q,int i64 s.t] 25) 76 #[int i64 x.kind,int i64 x.seq,.string x.name,int i64 x.length,int i64 x.group,int i64 x.row,.slice A0 nR c0,.slice A1 nD c1,.slice A2 nE c2];have hB:Below w.heap.size w ((w.alloc (.cells #[int i64 s.g,int i64 s.c,int i64 s.data,int i64 s.p,int i64 s.rows,int i64 s.cap,int i64 s.b,int i64 s.q,int i64 s.t] 25)).alloc (.cells #[int i64 x.kind,int i64 x.seq,.string x.name,int i64 x.length,int i64 x.group,int i64 x.row,.slice A0 nR c0,.slice A1 nD c1,.slice A2 nE c2] 76)):=((Below.refl _ _).alloc (Nat.le_refl _) _).alloc (by simp) _;have HB:=hid hB;have S2:=Ck.of K1;have R2:=Dz.of K2;have HS:=hid S2;have HRC:=hid R2;clear h0 h1 h2 hnR hnD hnE K1 K2 hB;rw[HNR.out,HND.out,HNE.out]at hrr;have hs:=CJ hsb;have HIK:=hid (fun(W:World) => AX x.kind 1 4 W);have HIQ:=hid (fun(W:World) => AX x.seq 1 1000000000 W);rw[show Al x.kind 1 4=true by rw[hk];rfl]at HIK;rw[hq]at HIQ;have hrc:=DU (s:=s) (show Al x.kind 1 4=true by rw[hk];rfl) hq;rw[Ex]at hrc;obtain⟨r,hr⟩:∃r:Int,AE s x=r:=⟨_,rfl⟩;rw[hr]at hrc⊢;obtain⟨pc,hpc⟩:∃pc:Int,Bt s x=pc:=⟨_,rfl⟩;rw[hpc]at hrc;have HRV:=hid hrc;have HPC:=hid hpc;have HBR:=hid (fun(W:World) => bare3_c x A0 A1 A2 nR nD nE c0 c1 c2 W hk);have HBW:=hid (bareR3 hk o0 o1 o2 o3 o4 o5 H0.out H1.out H2.out);have HSM:=hid (fun(W:World) (hW:Below w.heap.size w W) => DW x (Ct x) _ _ _ _ W (Aw.below Ac.local_ Ac.fixed hrr hW) (Aw.below Ac.local_ Ac.fixed HBW.out hW));obtain⟨sm,hsm⟩:∃sm,decide (x=Ct x)=sm:=⟨_,rfl⟩;rw[hsm]at HSM HRV;have k1:(x.kind == 1)=false:=by rw[hk];rfl
 have k3:(x.kind == 3)=true:=by rw[hk];rfl
 have k4:(x.kind == 4)=false:=by rw[hk];rfl
 have HFA:=hid (EO s hs x.group ((w.alloc (.cells #[int i64 s.g,int i64 s.c,int i64 s.data,int i64 s.p,int i64 s.rows,int i64 s.cap,int i64 s.b,int i64 s.q,int i64 s.t] 25)).alloc (.cells #[int i64 x.kind,int i64 x.seq,.string x.name,int i64 x.length,int i64 x.group,int i64 x.row,.slice A0 nR c0,.slice A1 nD c1,.slice A2 nE c2] 76)));have e0:Bt s x=if Al x.group 0 (s.g+s.c - 1)=true then 0 else 3:=by unfold Bt;rw[if_neg (by omega),if_neg (by omega),if_pos hk];rfl
 rw[hpc]at e0;obtain⟨ig,hig⟩:∃ig,Al x.group 0 (s.g+s.c - 1)=ig:=⟨_,rfl⟩;rw[hig]at e0 HFA;have HE0:=hid e0;unfold shV at HFA⊢;clear hsb hk hq hs hr hrc hpc hsm hrr o0 o1 o2 o3 o4 o5 e0 hig;have x4:=HRC.out.c4;go_enter Tryz.func122,Tryz.ntmps122
 go_wp2_with (first
  |(go_at_call_has 61 x.kind;refine(HIK.out _).mono ?_;rintro e w' ⟨rfl,rfl⟩)
  |(go_at_call_has 61 x.seq;refine(HIQ.out _).mono ?_;rintro e w' ⟨rfl,rfl⟩)
  |(refine wpList_load_mid rfl 25 _ rfl w.heap.size 0 rfl _ _ HS.out.rng Tryz.underlying25 rfl (by kernel_rfl) ?_)
  |(refine wpList_load_mid rfl 76 _ rfl (w.heap.size+1) 0 rfl _ _ HRC.out.rng Tryz.underlying76 rfl (by kernel_rfl) ?_))
 refine HFA.out.mono ?_;rintro e w3 ⟨rfl,b3⟩;have HS3:=hid (HS.out.below b3);have HR3:=hid (HRC.out.below b3);have B3:=hid (HB.out.trans (b3.mono HB.out.size));have ls3:=HS3.out.lt;have lr3:=HR3.out.lt;have u0:=cell_regrown HS3.out.c0;have u1:=cell_regrown HS3.out.c1;have u2:=cell_regrown HS3.out.c2;have u3:=cell_regrown HS3.out.c3;have u4:=cell_regrown HS3.out.c4;have u5:=cell_regrown HS3.out.c5;have u6:=cell_regrown HS3.out.c6;have u7:=cell_regrown HS3.out.c7;have u8:=cell_regrown HS3.out.c8;have t0:=cell_regrown HR3.out.c0;have t1:=cell_regrown HR3.out.c1;have t2:=cell_regrown HR3.out.c2;have t3:=cell_regrown HR3.out.c3;have t4:=cell_regrown HR3.out.c4;have t5:=cell_regrown HR3.out.c5;have t6:=cell_regrown HR3.out.c6;have t7:=cell_regrown HR3.out.c7;have t8:=cell_regrown HR3.out.c8;clear b3 x4;cases ig with
 |true =>
  have e2:pc=0:=HE0.out;subst e2;have QB:=hid (Bi (w:=w3) (fun W _ => HBR.out W));have QM:=hid (Bi (w:=w3) (fun W hW => HSM.out W (B3.out.trans (hW.mono B3.out.size))));cases sm with
  |true =>
   have e1:r=0:=HRV.out.trans rfl;subst e1;go_wp2_with fail
   (refine wp_region_quiet_below (by kernel_rfl) (by kernel_rfl) ?_;(repeat(first|go_big_quiet_step (first|(go_at_call 182;exact QB.out _ _)|(go_at_call 181;exact QM.out _ _))|quiet_step (first|(go_at_call 182;exact QB.out _ _)|(go_at_call 181;exact QM.out _ _))));refine wpQuiet_nil ?_)
   rintro _ ⟨⟨dq2,osq2⟩,rfl⟩;have HB9:=hid (B3.out.trans ((below_regrown _ dq2 osq2).mono B3.out.size));go_wp2_with fail
   go_ret
   exact⟨rfl,HB9.out⟩
  |false =>
   have e1:r=1:=HRV.out.trans rfl;subst e1;go_wp2_with fail
   (refine wp_region_quiet_below (by kernel_rfl) (by kernel_rfl) ?_;(repeat(first|go_big_quiet_step (first|(go_at_call 182;exact QB.out _ _)|(go_at_call 181;exact QM.out _ _))|quiet_step (first|(go_at_call 182;exact QB.out _ _)|(go_at_call 181;exact QM.out _ _))));refine wpQuiet_nil ?_)
   rintro _ ⟨⟨dq2,osq2⟩,rfl⟩;have HB9:=hid (B3.out.trans ((below_regrown _ dq2 osq2).mono B3.out.size));go_wp2_with fail
   go_ret
   exact⟨rfl,HB9.out⟩
 |false =>
  have e2:pc=3:=HE0.out;subst e2;have e1:r=3:=HRV.out.trans (if_neg (by decide));subst e1;go_wp2_with fail
  (refine wp_region_quiet_below (by kernel_rfl) (by kernel_rfl) ?_;(repeat(first|go_big_quiet_step (fail)|quiet_step (fail)));refine wpQuiet_nil ?_)
  rintro _ ⟨⟨dq2,osq2⟩,rfl⟩;have HB9:=hid (B3.out.trans ((below_regrown _ dq2 osq2).mono B3.out.size));go_wp2_with fail
  go_ret
  exact⟨rfl,HB9.out⟩
theorem KY(s:Sh)(hsb:shB s=true)(x:Ag)(cs:List Value)(f:List Addr)(w:World)(h:Ac w f cs x)(hk:x.kind=4)(hq:Al x.seq 1 1000000000=true) :
  Calls Tryz.prog 122 #[shV s,.agg cs.toArray] w fun e w' => e= .returned (int i64 (AE s x))∧Below w.heap.size w w':=by
 have hrr:=h;dsimp only[Ac]at h;obtain⟨v0,v1,v2,f0,f1,f2,rfl,rfl,o0,o1,o2,o3,o4,o5,h0,h1,h2⟩:=h;obtain⟨A0,c0,rfl,k0,m0⟩:=rSl.head h0;obtain⟨A1,c1,rfl,k1,m1⟩:=rSl.head h1;obtain⟨A2,c2,rfl,k2,m2⟩:=rSl.head h2;have H0:=hid h0;have H1:=hid h1;have H2:=hid h2;obtain⟨nR,hnR⟩:∃nR,x.rows.length=nR:=⟨_,rfl⟩;obtain⟨nD,hnD⟩:∃nD,x.data.length=nD:=⟨_,rfl⟩;obtain⟨nE,hnE⟩:∃nE,x.delta.length=nE:=⟨_,rfl⟩;have HNR:=hid hnR;have HND:=hid hnD;have HNE:=hid hnE;rw[hnR]at H0 k0⊢;rw[hnD]at H1 k1⊢;rw[hnE]at H2 k2⊢;have K1:=(Blk.new w 25 #[int i64 s.g,int i64 s.c,int i64 s.data,int i64 s.p,int i64 s.rows,int i64 s.cap,int i64 s.b,int i64 s.q,int i64 s.t]).alloc (.cells #[int i64 x.kind,int i64 x.seq,.string x.name,int i64 x.length,int i64 x.group,int i64 x.row,.slice A0 nR c0,.slice A1 nD c1,.slice A2 nE c2] 76);have K2:=Blk.new1 w (.cells #[int i64 s.g,int i64 s.c,int i64 s.data,int i64 s.p,int i64 s.rows,int i64 s.cap,int i64 s.b,int i64 s.q,int i64 s.t] 25) 76 #[int i64 x.kind,int i64 x.seq,.string x.name,int i64 x.length,int i64 x.group,int i64 x.row,.slice A0 nR c0,.slice A1 nD c1,.slice A2 nE c2];have hB:Below w.heap.size w ((w.alloc (.cells #[int i64 s.g,int i64 s.c,int i64 s.data,int i64 s.p,int i64 s.rows,int i64 s.cap,int i64 s.b,int i64 s.q,int i64 s.t] 25)).alloc (.cells #[int i64 x.kind,int i64 x.seq,.string x.name,int i64 x.length,int i64 x.group,int i64 x.row,.slice A0 nR c0,.slice A1 nD c1,.slice A2 nE c2] 76)):=((Below.refl _ _).alloc (Nat.le_refl _) _).alloc (by simp) _;have HB:=hid hB;have S2:=Ck.of K1;have R2:=Dz.of K2;have HS:=hid S2;have HRC:=hid R2;clear h0 h1 h2 hnR hnD hnE K1 K2 hB;rw[HNR.out,HND.out,HNE.out]at hrr;have hs:=CJ hsb;have HIK:=hid (fun(W:World) => AX x.kind 1 4 W);have HIQ:=hid (fun(W:World) => AX x.seq 1 1000000000 W);rw[show Al x.kind 1 4=true by rw[hk];rfl]at HIK;rw[hq]at HIQ;have hrc:=DU (s:=s) (show Al x.kind 1 4=true by rw[hk];rfl) hq;rw[Ex]at hrc;obtain⟨r,hr⟩:∃r:Int,AE s x=r:=⟨_,rfl⟩;rw[hr]at hrc⊢;obtain⟨pc,hpc⟩:∃pc:Int,Bt s x=pc:=⟨_,rfl⟩;rw[hpc]at hrc;have HRV:=hid hrc;have HPC:=hid hpc;have HBR:=hid (fun(W:World) => bare4_c x A0 A1 A2 nR nD nE c0 c1 c2 W hk);have HBW:=hid (bareR4 hk o0 o1 o2 o3 o4 o5 H0.out H1.out H2.out);have HSM:=hid (fun(W:World) (hW:Below w.heap.size w W) => DW x (Ct x) _ _ _ _ W (Aw.below Ac.local_ Ac.fixed hrr hW) (Aw.below Ac.local_ Ac.fixed HBW.out hW));obtain⟨sm,hsm⟩:∃sm,decide (x=Ct x)=sm:=⟨_,rfl⟩;rw[hsm]at HSM HRV;have k1:(x.kind == 1)=false:=by rw[hk];rfl
 have k3:(x.kind == 3)=false:=by rw[hk];rfl
 have k4:(x.kind == 4)=true:=by rw[hk];rfl
 have HFA:=hid (Jo s hs x _ _ ((w.alloc (.cells #[int i64 s.g,int i64 s.c,int i64 s.data,int i64 s.p,int i64 s.rows,int i64 s.cap,int i64 s.b,int i64 s.q,int i64 s.t] 25)).alloc (.cells #[int i64 x.kind,int i64 x.seq,.string x.name,int i64 x.length,int i64 x.group,int i64 x.row,.slice A0 nR c0,.slice A1 nD c1,.slice A2 nE c2] 76)) (Aw.below Ac.local_ Ac.fixed hrr HB.out));have e0:Bt s x=if Df s x=true then 0 else 3:=by unfold Bt;rw[if_neg (by omega),if_neg (by omega),if_neg (by omega)]
 rw[← e0,hpc]at HFA;unfold shV at HFA⊢;clear hsb hk hq hs hr hrc hpc hsm hrr o0 o1 o2 o3 o4 o5 e0;go_enter Tryz.func122,Tryz.ntmps122
 go_wp2_with (first
  |(go_at_call_has 61 x.kind;refine(HIK.out _).mono ?_;rintro e w' ⟨rfl,rfl⟩)
  |(go_at_call_has 61 x.seq;refine(HIQ.out _).mono ?_;rintro e w' ⟨rfl,rfl⟩)
  |(refine wpList_load_mid rfl 25 _ rfl w.heap.size 0 rfl _ _ HS.out.rng Tryz.underlying25 rfl (by kernel_rfl) ?_)
  |(refine wpList_load_mid rfl 76 _ rfl (w.heap.size+1) 0 rfl _ _ HRC.out.rng Tryz.underlying76 rfl (by kernel_rfl) ?_))
 refine HFA.out.mono ?_;rintro e w3 ⟨rfl,b3⟩;have HS3:=hid (HS.out.below b3);have HR3:=hid (HRC.out.below b3);have B3:=hid (HB.out.trans (b3.mono HB.out.size));have ls3:=HS3.out.lt;have lr3:=HR3.out.lt;have u0:=cell_regrown HS3.out.c0;have u1:=cell_regrown HS3.out.c1;have u2:=cell_regrown HS3.out.c2;have u3:=cell_regrown HS3.out.c3;have u4:=cell_regrown HS3.out.c4;have u5:=cell_regrown HS3.out.c5;have u6:=cell_regrown HS3.out.c6;have u7:=cell_regrown HS3.out.c7;have u8:=cell_regrown HS3.out.c8;have t0:=cell_regrown HR3.out.c0;have t1:=cell_regrown HR3.out.c1;have t2:=cell_regrown HR3.out.c2;have t3:=cell_regrown HR3.out.c3;have t4:=cell_regrown HR3.out.c4;have t5:=cell_regrown HR3.out.c5;have t6:=cell_regrown HR3.out.c6;have t7:=cell_regrown HR3.out.c7;have t8:=cell_regrown HR3.out.c8;clear b3;by_cases hp:pc=0
 ·subst hp;have QB:=hid (Bi (w:=w3) (fun W _ => HBR.out W));have QM:=hid (Bi (w:=w3) (fun W hW => HSM.out W (B3.out.trans (hW.mono B3.out.size))));cases sm with
  |true =>
   have e1:r=0:=HRV.out.trans rfl;subst e1;go_wp2_with fail
   (refine wp_region_quiet_below (by kernel_rfl) (by kernel_rfl) ?_;(repeat(first|go_big_quiet_step (first|(go_at_call 182;exact QB.out _ _)|(go_at_call 181;exact QM.out _ _))|quiet_step (first|(go_at_call 182;exact QB.out _ _)|(go_at_call 181;exact QM.out _ _))));refine wpQuiet_nil ?_)
   rintro _ ⟨⟨dq2,osq2⟩,rfl⟩;have HB9:=hid (B3.out.trans ((below_regrown _ dq2 osq2).mono B3.out.size));go_wp2_with fail
   go_ret
   exact⟨rfl,HB9.out⟩
  |false =>
   have e1:r=1:=HRV.out.trans rfl;subst e1;go_wp2_with fail
   (refine wp_region_quiet_below (by kernel_rfl) (by kernel_rfl) ?_;(repeat(first|go_big_quiet_step (first|(go_at_call 182;exact QB.out _ _)|(go_at_call 181;exact QM.out _ _))|quiet_step (first|(go_at_call 182;exact QB.out _ _)|(go_at_call 181;exact QM.out _ _))));refine wpQuiet_nil ?_)
   rintro _ ⟨⟨dq2,osq2⟩,rfl⟩;have HB9:=hid (B3.out.trans ((below_regrown _ dq2 osq2).mono B3.out.size));go_wp2_with fail
   go_ret
   exact⟨rfl,HB9.out⟩
 ·have e1:r=pc:=HRV.out.trans (if_neg hp);subst e1;have hp2:(r == 0)=false:=by simpa using hp
  clear hp;go_wp2_with fail
  (refine wp_region_quiet_below (by kernel_rfl) (by kernel_rfl) ?_;(repeat(first|go_big_quiet_step (fail)|quiet_step (fail)));refine wpQuiet_nil ?_)
  rintro _ ⟨⟨dq2,osq2⟩,rfl⟩;have HB9:=hid (B3.out.trans ((below_regrown _ dq2 osq2).mono B3.out.size));go_wp2_with fail
  go_ret
  exact⟨rfl,HB9.out⟩
theorem FU(s:Sh)(x:Ag)(cs:List Value)(f:List Addr)(w:World)(h:Ac w f cs x)(hbad:Al x.kind 1 4=false∨(Al x.kind 1 4=true∧Al x.seq 1 1000000000=false)) :
  Calls Tryz.prog 122 #[shV s,.agg cs.toArray] w fun e w' => e= .returned (int i64 (AE s x))∧Below w.heap.size w w':=by
 dsimp only[Ac]at h;obtain⟨v0,v1,v2,f0,f1,f2,rfl,rfl,o0,o1,o2,o3,o4,o5,h0,h1,h2⟩:=h;obtain⟨A0,c0,rfl,k0,m0⟩:=rSl.head h0;obtain⟨A1,c1,rfl,k1,m1⟩:=rSl.head h1;obtain⟨A2,c2,rfl,k2,m2⟩:=rSl.head h2;have H0:=hid h0;have H1:=hid h1;have H2:=hid h2;obtain⟨nR,hnR⟩:∃nR,x.rows.length=nR:=⟨_,rfl⟩;obtain⟨nD,hnD⟩:∃nD,x.data.length=nD:=⟨_,rfl⟩;obtain⟨nE,hnE⟩:∃nE,x.delta.length=nE:=⟨_,rfl⟩;have HNR:=hid hnR;have HND:=hid hnD;have HNE:=hid hnE;rw[hnR]at H0 k0⊢;rw[hnD]at H1 k1⊢;rw[hnE]at H2 k2⊢;have K1:=(Blk.new w 25 #[int i64 s.g,int i64 s.c,int i64 s.data,int i64 s.p,int i64 s.rows,int i64 s.cap,int i64 s.b,int i64 s.q,int i64 s.t]).alloc (.cells #[int i64 x.kind,int i64 x.seq,.string x.name,int i64 x.length,int i64 x.group,int i64 x.row,.slice A0 nR c0,.slice A1 nD c1,.slice A2 nE c2] 76);have K2:=Blk.new1 w (.cells #[int i64 s.g,int i64 s.c,int i64 s.data,int i64 s.p,int i64 s.rows,int i64 s.cap,int i64 s.b,int i64 s.q,int i64 s.t] 25) 76 #[int i64 x.kind,int i64 x.seq,.string x.name,int i64 x.length,int i64 x.group,int i64 x.row,.slice A0 nR c0,.slice A1 nD c1,.slice A2 nE c2];have hB:Below w.heap.size w ((w.alloc (.cells #[int i64 s.g,int i64 s.c,int i64 s.data,int i64 s.p,int i64 s.rows,int i64 s.cap,int i64 s.b,int i64 s.q,int i64 s.t] 25)).alloc (.cells #[int i64 x.kind,int i64 x.seq,.string x.name,int i64 x.length,int i64 x.group,int i64 x.row,.slice A0 nR c0,.slice A1 nD c1,.slice A2 nE c2] 76)):=((Below.refl _ _).alloc (Nat.le_refl _) _).alloc (by simp) _;have HB:=hid hB;have S2:=Ck.of K1;have R2:=Dz.of K2;have HS:=hid S2;have HRC:=hid R2;clear h0 h1 h2 hnR hnD hnE K1 K2 hB;have HIK:=hid (fun(W:World) => AX x.kind 1 4 W);have HIQ:=hid (fun(W:World) => AX x.seq 1 1000000000 W);unfold shV;rcases hbad with hb|⟨hb,hb2⟩
 ·have e1:AE s x=5:=by unfold AE;rw[if_neg (by rw[hb];exact Bool.false_ne_true)]
  rw[e1];rw[hb]at HIK;clear hb e1;go_enter Tryz.func122,Tryz.ntmps122
  go_wp2_with (first
  |(go_at_call_has 61 x.kind;refine(HIK.out _).mono ?_;rintro e w' ⟨rfl,rfl⟩)
  |(go_at_call_has 61 x.seq;refine(HIQ.out _).mono ?_;rintro e w' ⟨rfl,rfl⟩))
  go_ret
  exact⟨rfl,HB.out⟩
 ·have e1:AE s x=3:=by unfold AE;rw[if_pos hb,if_neg (by rw[hb2];exact Bool.false_ne_true)]
  rw[e1];rw[hb]at HIK;rw[hb2]at HIQ;clear hb hb2 e1;go_enter Tryz.func122,Tryz.ntmps122
  go_wp2_with (first
  |(go_at_call_has 61 x.kind;refine(HIK.out _).mono ?_;rintro e w' ⟨rfl,rfl⟩)
  |(go_at_call_has 61 x.seq;refine(HIQ.out _).mono ?_;rintro e w' ⟨rfl,rfl⟩))
  go_ret
  exact⟨rfl,HB.out⟩
theorem LH(s:Sh)(hsb:shB s=true)(x:Ag)(cs:List Value)(f:List Addr)(w:World)(h:Ac w f cs x) :
  Calls Tryz.prog 122 #[shV s,.agg cs.toArray] w fun e w' => e= .returned (int i64 (AE s x))∧Below w.heap.size w w':=by
 cases hk:Al x.kind 1 4 with
 |false => exact FU s x cs f w h (.inl hk)
 |true =>
  cases hq:Al x.seq 1 1000000000 with
  |false => exact FU s x cs f w h (.inr ⟨hk,hq⟩)
  |true =>
   rcases kind4 hk with h1|h1|h1|h1
   ·exact KQ s hsb x cs f w h h1 hq
   ·exact KU s hsb x cs f w h h1 hq
   ·exact KV s hsb x cs f w h h1 hq
   ·exact KY s hsb x cs f w h h1 hq
theorem LF(s:Sh)(h:s.Ok)(w:World) :
  Calls Tryz.prog 41 #[shV s] w fun e w' => e= .returned (int i64 (s.data+s.p))∧Below w.heap.size w w':=by
 obtain⟨a1,a2⟩:=h.data;obtain⟨b1,b2⟩:=h.p;unfold shV;go_enter Tryz.func41,Tryz.ntmps41
 go_wp2
 go_ret
 exact⟨rfl,(Below.refl _ _).alloc (Nat.le_refl _) _⟩
theorem Jp(A:Option Addr)(n c:Nat)(w:World):Calls Tryz.prog 113 #[.slice A n c] w fun e w' => e= .returned (int i64 (n:Int))∧w=w':=by
 go_enter Tryz.func113,Tryz.ntmps113
 go_wp2_with fail
 go_ret
 exact⟨rfl,rfl⟩
theorem J2(A:Option Addr)(n c:Nat)(w:World):Calls Tryz.prog 114 #[.slice A n c] w fun e w' => e= .returned (int i64 (n:Int))∧w=w':=by
 go_enter Tryz.func114,Tryz.ntmps114
 go_wp2_with fail
 go_ret
 exact⟨rfl,rfl⟩
theorem J1(A:Option Addr)(n c:Nat)(w:World):Calls Tryz.prog 115 #[.slice A n c] w fun e w' => e= .returned (int i64 (n:Int))∧w=w':=by
 go_enter Tryz.func115,Tryz.ntmps115
 go_wp2_with fail
 go_ret
 exact⟨rfl,rfl⟩
theorem Mc(A:Option Addr)(n c:Nat)(w:World):Calls Tryz.prog 85 #[.slice A n c] w fun e w' => e= .returned (int i64 (n:Int))∧w=w':=by
 go_enter Tryz.func85,Tryz.ntmps85
 go_wp2_with fail
 go_ret
 exact⟨rfl,rfl⟩
theorem Ly(b:CG)(cs:List Value)(f:List Addr)(w:World)(h:AL w f cs b) :
  Calls Tryz.prog 118 #[.agg cs.toArray] w fun e w' => e= .returned (.bool (Eg b))∧Below w.heap.size w w':=by
 obtain⟨v0,f0,rfl,-,-,h0⟩:=h;obtain⟨A0,c0,rfl,-⟩:=rSl.head h0;have HIN:=hid (fun(W:World) => AX b.stamp 0 1000000000 W);unfold Eg;clear h0;obtain⟨n,hn⟩:∃n,b.bytes.length=n:=⟨_,rfl⟩;rw[hn];clear hn;cases hi:Al b.stamp 0 1000000000 with
 |false =>
  rw[hi]at HIN;clear hi;go_enter Tryz.func118,Tryz.ntmps118
  go_wp2_with (go_at_call 61;refine(HIN.out _).mono ?_;rintro e w' ⟨rfl,rfl⟩)
  go_ret
  exact⟨rfl,(Below.refl _ _).alloc (Nat.le_refl _) _⟩
 |true =>
  rw[hi]at HIN;clear hi;have e0:((n:Int) == 4)=decide (n=4):=by rw[Bool.eq_iff_iff];simp;omega
  go_enter Tryz.func118,Tryz.ntmps118
  go_wp2_with (go_at_call 61;refine(HIN.out _).mono ?_;rintro e w' ⟨rfl,rfl⟩)
  go_ret
  exact⟨by rw[Bool.true_and];rfl,(Below.refl _ _).alloc (Nat.le_refl _) _⟩
theorem Kp(b:CG)(cs:List Value)(f:List Addr)(w:World)(h:AL w f cs b) :
  Calls Tryz.prog 117 #[.agg cs.toArray] w fun e w' => e= .returned (.bool (!Eg b))∧Below w.heap.size w w':=by
 have h2:=h;obtain⟨v0,f0,rfl,-,-,h0⟩:=h;obtain⟨A0,c0,rfl,-⟩:=rSl.head h0;have hb:Below w.heap.size w (w.alloc (.cells #[int i64 b.stamp,.slice A0 b.bytes.length c0] 118)):=(Below.refl _ _).alloc (Nat.le_refl _) _;have HC:=hid (Ly b _ f _ (Aw.below AL.local_ AL.fixed h2 hb));have HB:=hid hb;clear h2 h0 hb;obtain⟨r,hr⟩:∃r,Eg b=r:=⟨_,rfl⟩;rw[hr]at HC⊢;clear hr;go_enter Tryz.func117,Tryz.ntmps117
 go_wp2_with (go_at_call 118;refine HC.out.mono ?_;rintro e w' ⟨rfl,b1⟩)
 go_ret
 exact⟨rfl,HB.out.trans (b1.mono HB.out.size)⟩
end Go.Proofs.YthbljikbnoghcaaGreat
