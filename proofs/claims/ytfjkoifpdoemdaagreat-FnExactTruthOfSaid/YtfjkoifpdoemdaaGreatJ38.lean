/- Part 38 of the proof. -/
import Derived.Test.YtfjkoifpdoemdaaGreatJ32
import Derived.Test.YtfjkoifpdoemdaaGreatJ25
import Derived.Test.YtfjkoifpdoemdaaGreatJ22
import Derived.Test.YtfjkoifpdoemdaaGreatJ23
import Derived.Test.YtfjkoifpdoemdaaGreatJ26
set_option maxHeartbeats 8000000
set_option maxRecDepth 100000
set_option linter.unusedVariables false
set_option linter.unusedSimpArgs false
open Go.Proofs.Tryz
open Go.Value (int)
open Go.IntKind (i64)
namespace Go.Proofs.YtfjkoifpdoemdaaGreat
open Go.RowKit Go.Lib Go.Sort
theorem okZ:okI 0:=⟨by decide,by decide⟩
theorem okE:(⟨#[]⟩:ByteArray).size≤9223372036854775807:=by decide
theorem OB {w:World}:rSl 1 Az w [] (.slice none 0 0) []:=⟨none,0,rfl,aC _,by omega,.inl ⟨rfl,rfl⟩⟩
theorem J4 {w:World}:rSl 1 Ai w [] (.slice none 0 0) []:=⟨none,0,rfl,aC _,by omega,.inl ⟨rfl,rfl⟩⟩
theorem bareR1 {x:Ah} {A0 A1 A2:Option Addr} {nR nD nE c0 c1 c2:Nat} {f0 f1 f2:List Addr} {w:World}(hk:x.kind=1)(o0:okI x.kind)(o1:okI x.seq)(o2:x.name.size≤9223372036854775807)(o3:okI x.length)(o4:okI x.group)(o5:okI x.row)
  (h0:rSl 1 Az w f0 (.slice A0 nR c0) x.rows) (h1:rSl 1 Ai w f1 (.slice A1 nD c1) x.data) (h2:rSl 1 Ai w f2 (.slice A2 nE c2) x.delta):Ac w (f0 ++(f1 ++ [])) [int i64 x.kind,int i64 x.seq,.string x.name,int i64 x.length,int i64 0,int i64 0,.slice A0 nR c0,.slice A1 nD c1,.slice none 0 0] (Dv x):=by
 unfold Dv;rw[aL hk];exact⟨_,_,_,f0,f1,[],rfl,rfl,o0,o1,o2,o3,okZ,okZ,h0,h1,J4⟩
theorem bareR2 {x:Ah} {A0 A1 A2:Option Addr} {nR nD nE c0 c1 c2:Nat} {f0 f1 f2:List Addr} {w:World}(hk:x.kind=2)(o0:okI x.kind)(o1:okI x.seq)(o2:x.name.size≤9223372036854775807)(o3:okI x.length)(o4:okI x.group)(o5:okI x.row)
  (h0:rSl 1 Az w f0 (.slice A0 nR c0) x.rows) (h1:rSl 1 Ai w f1 (.slice A1 nD c1) x.data) (h2:rSl 1 Ai w f2 (.slice A2 nE c2) x.delta):Ac w ([] ++(f1 ++ f2)) [int i64 x.kind,int i64 x.seq,.string ⟨#[]⟩,int i64 0,int i64 x.group,int i64 x.row,.slice none 0 0,.slice A1 nD c1,.slice A2 nE c2] (Dv x):=by
 unfold Dv;rw[aI (by omega),aL hk];exact⟨_,_,_,[],f1,f2,rfl,rfl,o0,o1,okE,okZ,o4,o5,OB,h1,h2⟩
theorem bareR3 {x:Ah} {A0 A1 A2:Option Addr} {nR nD nE c0 c1 c2:Nat} {f0 f1 f2:List Addr} {w:World}(hk:x.kind=3)(o0:okI x.kind)(o1:okI x.seq)(o2:x.name.size≤9223372036854775807)(o3:okI x.length)(o4:okI x.group)(o5:okI x.row)
  (h0:rSl 1 Az w f0 (.slice A0 nR c0) x.rows) (h1:rSl 1 Ai w f1 (.slice A1 nD c1) x.data) (h2:rSl 1 Ai w f2 (.slice A2 nE c2) x.delta):Ac w ([] ++([] ++ [])) [int i64 x.kind,int i64 x.seq,.string ⟨#[]⟩,int i64 0,int i64 x.group,int i64 0,.slice none 0 0,.slice none 0 0,.slice none 0 0] (Dv x):=by
 unfold Dv;rw[aI (by omega),aI (by omega),aL hk];exact⟨_,_,_,[],[],[],rfl,rfl,o0,o1,okE,okZ,o4,okZ,OB,J4,J4⟩
theorem bareR4 {x:Ah} {A0 A1 A2:Option Addr} {nR nD nE c0 c1 c2:Nat} {f0 f1 f2:List Addr} {w:World}(hk:x.kind=4)(o0:okI x.kind)(o1:okI x.seq)(o2:x.name.size≤9223372036854775807)(o3:okI x.length)(o4:okI x.group)(o5:okI x.row)
  (h0:rSl 1 Az w f0 (.slice A0 nR c0) x.rows) (h1:rSl 1 Ai w f1 (.slice A1 nD c1) x.data) (h2:rSl 1 Ai w f2 (.slice A2 nE c2) x.delta):Ac w (f0 ++(f1 ++ f2)) [int i64 x.kind,int i64 x.seq,.string ⟨#[]⟩,int i64 0,int i64 x.group,int i64 x.row,.slice A0 nR c0,.slice A1 nD c1,.slice A2 nE c2] (Dv x):=by
 unfold Dv;rw[aI (by omega),aI (by omega),aI (by omega)];exact⟨_,_,_,f0,f1,f2,rfl,rfl,o0,o1,okE,okZ,o4,o5,h0,h1,h2⟩
theorem Pc(s:Sh)(hsb:shB s=true)(x:Ah)(cs:List Value)(f:List Addr)(w:World)(h:Ac w f cs x)(hk:x.kind=1)(hq:Ap x.seq 1 1000000000=true) :
  Calls prog 177 #[shV s,.agg cs.toArray] w fun e w' => e= .returned (int i64 (AF s x))∧Below w.heap.size w w':=by
 have hrr:=h;dsimp only[Ac]at h;obtain⟨v0,v1,v2,f0,f1,f2,rfl,rfl,o0,o1,o2,o3,o4,o5,h0,h1,h2⟩:=h;obtain⟨A0,c0,rfl,k0,m0⟩:=rSl.head h0;obtain⟨A1,c1,rfl,k1,m1⟩:=rSl.head h1;obtain⟨A2,c2,rfl,k2,m2⟩:=rSl.head h2;have H0:=U h0;have H1:=U h1;have H2:=U h2;obtain⟨nR,hnR⟩:∃nR,x.rows.length=nR:=⟨_,rfl⟩;obtain⟨nD,hnD⟩:∃nD,x.data.length=nD:=⟨_,rfl⟩;obtain⟨nE,hnE⟩:∃nE,x.delta.length=nE:=⟨_,rfl⟩;have HNR:=U hnR;have HND:=U hnD;have HNE:=U hnE;rw[hnR]at H0 k0⊢;rw[hnD]at H1 k1⊢;rw[hnE]at H2 k2⊢;have K1:=(Blk.new w 31 #[int i64 s.g,int i64 s.c,int i64 s.data,int i64 s.p,int i64 s.rows,int i64 s.cap,int i64 s.b,int i64 s.q,int i64 s.t]).alloc (.cells #[int i64 x.kind,int i64 x.seq,.string x.name,int i64 x.length,int i64 x.group,int i64 x.row,.slice A0 nR c0,.slice A1 nD c1,.slice A2 nE c2] 119);have K2:=Blk.new1 w (.cells #[int i64 s.g,int i64 s.c,int i64 s.data,int i64 s.p,int i64 s.rows,int i64 s.cap,int i64 s.b,int i64 s.q,int i64 s.t] 31) 119 #[int i64 x.kind,int i64 x.seq,.string x.name,int i64 x.length,int i64 x.group,int i64 x.row,.slice A0 nR c0,.slice A1 nD c1,.slice A2 nE c2];have hB:Below w.heap.size w ((w.alloc (.cells #[int i64 s.g,int i64 s.c,int i64 s.data,int i64 s.p,int i64 s.rows,int i64 s.cap,int i64 s.b,int i64 s.q,int i64 s.t] 31)).alloc (.cells #[int i64 x.kind,int i64 x.seq,.string x.name,int i64 x.length,int i64 x.group,int i64 x.row,.slice A0 nR c0,.slice A1 nD c1,.slice A2 nE c2] 119)):=((aB _ _).alloc (aC _) _).alloc (by simp) _;have HB:=U hB;have S2:=DK.of K1;have R2:=Dg.of K2;have HS:=U S2;have HRC:=U R2;clear h0 h1 h2 hnR hnD hnE K1 K2 hB;rw[HNR.o,HND.o,HNE.o]at hrr;have hs:=Ea hsb;have HIK:=U (fun(W:World) => Bz x.kind 1 4 W);have HIQ:=U (fun(W:World) => Bz x.seq 1 1000000000 W);rw[show Ap x.kind 1 4=true by rw[hk];rfl]at HIK;rw[hq]at HIQ;have hrc:=DI (s:=s) (show Ap x.kind 1 4=true by rw[hk];rfl) hq;rw[Gq]at hrc;obtain⟨r,hr⟩:∃r:Int,AF s x=r:=⟨_,rfl⟩;rw[hr]at hrc⊢;obtain⟨pc,hpc⟩:∃pc:Int,AZ s x=pc:=⟨_,rfl⟩;rw[hpc]at hrc;have HRV:=U hrc;have HPC:=U hpc;have HBR:=U (fun(W:World) => bare1_c x A0 A1 A2 nR nD nE c0 c1 c2 W hk);have HBW:=U (bareR1 hk o0 o1 o2 o3 o4 o5 H0.o H1.o H2.o);have HSM:=U (fun(W:World) (hW:Below w.heap.size w W) => Fx x (Dv x) _ _ _ _ W (AB.below Ac.local_ Ac.fixed hrr hW) (AB.below Ac.local_ Ac.fixed HBW.o hW));obtain⟨sm,hsm⟩:∃sm,decide (x=Dv x)=sm:=⟨_,rfl⟩;rw[hsm]at HSM HRV;have k1:(x.kind == 1)=true:=by rw[hk];rfl
 have k3:(x.kind == 3)=false:=by rw[hk];rfl
 have k4:(x.kind == 4)=false:=by rw[hk];rfl
 have HFA:=U (NZ s hs x _ _ ((w.alloc (.cells #[int i64 s.g,int i64 s.c,int i64 s.data,int i64 s.p,int i64 s.rows,int i64 s.cap,int i64 s.b,int i64 s.q,int i64 s.t] 31)).alloc (.cells #[int i64 x.kind,int i64 x.seq,.string x.name,int i64 x.length,int i64 x.group,int i64 x.row,.slice A0 nR c0,.slice A1 nD c1,.slice A2 nE c2] 119)) (AB.below Ac.local_ Ac.fixed hrr HB.o));have e0:AZ s x=D5 s x:=by unfold AZ;rw[aL hk];rfl
 rw[← e0,hpc]at HFA;unfold shV at HFA⊢;clear hsb hk hq hs hr hrc hpc hsm hrr o0 o1 o2 o3 o4 o5 e0;go_enter func177,ntmps177
 go_wp2_with (first
  |(go_at_call_has 100 x.kind;refine(HIK.o _).mono ?_;rintro e w' ⟨rfl,rfl⟩)
  |(go_at_call_has 100 x.seq;refine(HIQ.o _).mono ?_;rintro e w' ⟨rfl,rfl⟩)
  |(refine aD rfl 31 _ rfl w.heap.size 0 rfl _ _ HS.o.rng underlying31 rfl (by kernel_rfl) ?_)
  |(refine aD rfl 119 _ rfl (w.heap.size+1) 0 rfl _ _ HRC.o.rng underlying119 rfl (by kernel_rfl) ?_))
 refine HFA.o.mono ?_;rintro e w3 ⟨rfl,b3⟩;have HS3:=U (HS.o.below b3);have HR3:=U (HRC.o.below b3);have B3:=U (HB.o.trans (b3.mono HB.o.size));have ls3:=HS3.o.lt;have lr3:=HR3.o.lt;have u0:=aA HS3.o.c0;have u1:=aA HS3.o.c1;have u2:=aA HS3.o.c2;have u3:=aA HS3.o.c3;have u4:=aA HS3.o.c4;have u5:=aA HS3.o.c5;have u6:=aA HS3.o.c6;have u7:=aA HS3.o.c7;have u8:=aA HS3.o.c8;have t0:=aA HR3.o.c0;have t1:=aA HR3.o.c1;have t2:=aA HR3.o.c2;have t3:=aA HR3.o.c3;have t4:=aA HR3.o.c4;have t5:=aA HR3.o.c5;have t6:=aA HR3.o.c6;have t7:=aA HR3.o.c7;have t8:=aA HR3.o.c8;clear b3;by_cases hp:pc=0
 ·subst hp;have QB:=U (AU (w:=w3) (fun W _ => HBR.o W));have QM:=U (AU (w:=w3) (fun W hW => HSM.o W (B3.o.trans (hW.mono B3.o.size))));cases sm with
  |true =>
   have e1:r=0:=HRV.o.trans rfl;subst e1;go_wp2_with fail
   (refine aF (by kernel_rfl) (by kernel_rfl) ?_;(repeat(first|go_big_quiet_step (first|(go_at_call 251;exact QB.o _ _)|(go_at_call 250;exact QM.o _ _))|quiet_step (first|(go_at_call 251;exact QB.o _ _)|(go_at_call 250;exact QM.o _ _))));refine aP ?_)
   rintro _ ⟨⟨dq2,osq2⟩,rfl⟩;have HB9:=U (B3.o.trans ((aH _ dq2 osq2).mono B3.o.size));go_wp2_with fail
   go_ret
   exact⟨rfl,HB9.o⟩
  |false =>
   have e1:r=1:=HRV.o.trans rfl;subst e1;go_wp2_with fail
   (refine aF (by kernel_rfl) (by kernel_rfl) ?_;(repeat(first|go_big_quiet_step (first|(go_at_call 251;exact QB.o _ _)|(go_at_call 250;exact QM.o _ _))|quiet_step (first|(go_at_call 251;exact QB.o _ _)|(go_at_call 250;exact QM.o _ _))));refine aP ?_)
   rintro _ ⟨⟨dq2,osq2⟩,rfl⟩;have HB9:=U (B3.o.trans ((aH _ dq2 osq2).mono B3.o.size));go_wp2_with fail
   go_ret
   exact⟨rfl,HB9.o⟩
 ·have e1:r=pc:=HRV.o.trans (aI hp);subst e1;have hp2:(r == 0)=false:=by simpa using hp
  clear hp;go_wp2_with fail
  (refine aF (by kernel_rfl) (by kernel_rfl) ?_;(repeat(first|go_big_quiet_step (fail)|quiet_step (fail)));refine aP ?_)
  rintro _ ⟨⟨dq2,osq2⟩,rfl⟩;have HB9:=U (B3.o.trans ((aH _ dq2 osq2).mono B3.o.size));go_wp2_with fail
  go_ret
  exact⟨rfl,HB9.o⟩
theorem Pd(s:Sh)(hsb:shB s=true)(x:Ah)(cs:List Value)(f:List Addr)(w:World)(h:Ac w f cs x)(hk:x.kind=2)(hq:Ap x.seq 1 1000000000=true) :
  Calls prog 177 #[shV s,.agg cs.toArray] w fun e w' => e= .returned (int i64 (AF s x))∧Below w.heap.size w w':=by
 have hrr:=h;dsimp only[Ac]at h;obtain⟨v0,v1,v2,f0,f1,f2,rfl,rfl,o0,o1,o2,o3,o4,o5,h0,h1,h2⟩:=h;obtain⟨A0,c0,rfl,k0,m0⟩:=rSl.head h0;obtain⟨A1,c1,rfl,k1,m1⟩:=rSl.head h1;obtain⟨A2,c2,rfl,k2,m2⟩:=rSl.head h2;have H0:=U h0;have H1:=U h1;have H2:=U h2;obtain⟨nR,hnR⟩:∃nR,x.rows.length=nR:=⟨_,rfl⟩;obtain⟨nD,hnD⟩:∃nD,x.data.length=nD:=⟨_,rfl⟩;obtain⟨nE,hnE⟩:∃nE,x.delta.length=nE:=⟨_,rfl⟩;have HNR:=U hnR;have HND:=U hnD;have HNE:=U hnE;rw[hnR]at H0 k0⊢;rw[hnD]at H1 k1⊢;rw[hnE]at H2 k2⊢;have K1:=(Blk.new w 31 #[int i64 s.g,int i64 s.c,int i64 s.data,int i64 s.p,int i64 s.rows,int i64 s.cap,int i64 s.b,int i64 s.q,int i64 s.t]).alloc (.cells #[int i64 x.kind,int i64 x.seq,.string x.name,int i64 x.length,int i64 x.group,int i64 x.row,.slice A0 nR c0,.slice A1 nD c1,.slice A2 nE c2] 119);have K2:=Blk.new1 w (.cells #[int i64 s.g,int i64 s.c,int i64 s.data,int i64 s.p,int i64 s.rows,int i64 s.cap,int i64 s.b,int i64 s.q,int i64 s.t] 31) 119 #[int i64 x.kind,int i64 x.seq,.string x.name,int i64 x.length,int i64 x.group,int i64 x.row,.slice A0 nR c0,.slice A1 nD c1,.slice A2 nE c2];have hB:Below w.heap.size w ((w.alloc (.cells #[int i64 s.g,int i64 s.c,int i64 s.data,int i64 s.p,int i64 s.rows,int i64 s.cap,int i64 s.b,int i64 s.q,int i64 s.t] 31)).alloc (.cells #[int i64 x.kind,int i64 x.seq,.string x.name,int i64 x.length,int i64 x.group,int i64 x.row,.slice A0 nR c0,.slice A1 nD c1,.slice A2 nE c2] 119)):=((aB _ _).alloc (aC _) _).alloc (by simp) _;have HB:=U hB;have S2:=DK.of K1;have R2:=Dg.of K2;have HS:=U S2;have HRC:=U R2;clear h0 h1 h2 hnR hnD hnE K1 K2 hB;rw[HNR.o,HND.o,HNE.o]at hrr;have hs:=Ea hsb;have HIK:=U (fun(W:World) => Bz x.kind 1 4 W);have HIQ:=U (fun(W:World) => Bz x.seq 1 1000000000 W);rw[show Ap x.kind 1 4=true by rw[hk];rfl]at HIK;rw[hq]at HIQ;have hrc:=DI (s:=s) (show Ap x.kind 1 4=true by rw[hk];rfl) hq;rw[Gq]at hrc;obtain⟨r,hr⟩:∃r:Int,AF s x=r:=⟨_,rfl⟩;rw[hr]at hrc⊢;obtain⟨pc,hpc⟩:∃pc:Int,AZ s x=pc:=⟨_,rfl⟩;rw[hpc]at hrc;have HRV:=U hrc;have HPC:=U hpc;have HBR:=U (fun(W:World) => bare2_c x A0 A1 A2 nR nD nE c0 c1 c2 W hk);have HBW:=U (bareR2 hk o0 o1 o2 o3 o4 o5 H0.o H1.o H2.o);have HSM:=U (fun(W:World) (hW:Below w.heap.size w W) => Fx x (Dv x) _ _ _ _ W (AB.below Ac.local_ Ac.fixed hrr hW) (AB.below Ac.local_ Ac.fixed HBW.o hW));obtain⟨sm,hsm⟩:∃sm,decide (x=Dv x)=sm:=⟨_,rfl⟩;rw[hsm]at HSM HRV;have k1:(x.kind == 1)=false:=by rw[hk];rfl
 have k3:(x.kind == 3)=false:=by rw[hk];rfl
 have k4:(x.kind == 4)=false:=by rw[hk];rfl
 have e0:AZ s x=if DF s x=true then 0 else 3:=by unfold AZ;rw[aI (by omega),aL hk]
 rw[hpc]at e0;have HMC:=U (LV s x);rw[HND.o,HNE.o]at HMC;obtain⟨mb,hmb0⟩:∃mb,DF s x=mb:=⟨_,rfl⟩;rw[hmb0]at e0 HMC;have HE0:=U e0;obtain⟨wd,hwd⟩:∃wd,s.data * 4=wd:=⟨_,rfl⟩;have HRL:=U (fun(W:World) => Ho s hs W);rw[hwd]at HMC HRL;have QRL:=U (AU (w:=((w.alloc (.cells #[int i64 s.g,int i64 s.c,int i64 s.data,int i64 s.p,int i64 s.rows,int i64 s.cap,int i64 s.b,int i64 s.q,int i64 s.t] 31)).alloc (.cells #[int i64 x.kind,int i64 x.seq,.string x.name,int i64 x.length,int i64 x.group,int i64 x.row,.slice A0 nR c0,.slice A1 nD c1,.slice A2 nE c2] 119))) (fun W _ => HRL.o W));have QID:=U (AU (w:=((w.alloc (.cells #[int i64 s.g,int i64 s.c,int i64 s.data,int i64 s.p,int i64 s.rows,int i64 s.cap,int i64 s.b,int i64 s.q,int i64 s.t] 31)).alloc (.cells #[int i64 x.kind,int i64 x.seq,.string x.name,int i64 x.length,int i64 x.group,int i64 x.row,.slice A0 nR c0,.slice A1 nD c1,.slice A2 nE c2] 119))) (fun W _ => GH s hs x.group W));have QIR:=U (AU (w:=((w.alloc (.cells #[int i64 s.g,int i64 s.c,int i64 s.data,int i64 s.p,int i64 s.rows,int i64 s.cap,int i64 s.b,int i64 s.q,int i64 s.t] 31)).alloc (.cells #[int i64 x.kind,int i64 x.seq,.string x.name,int i64 x.length,int i64 x.group,int i64 x.row,.slice A0 nR c0,.slice A1 nD c1,.slice A2 nE c2] 119))) (fun W _ => Lr s hs x.row W));have QSD:=U (BD (w:=((w.alloc (.cells #[int i64 s.g,int i64 s.c,int i64 s.data,int i64 s.p,int i64 s.rows,int i64 s.cap,int i64 s.b,int i64 s.q,int i64 s.t] 31)).alloc (.cells #[int i64 x.kind,int i64 x.seq,.string x.name,int i64 x.length,int i64 x.group,int i64 x.row,.slice A0 nR c0,.slice A1 nD c1,.slice A2 nE c2] 119))) (fun W => C3 A1 nD c1 W));have QSE:=U (BD (w:=((w.alloc (.cells #[int i64 s.g,int i64 s.c,int i64 s.data,int i64 s.p,int i64 s.rows,int i64 s.cap,int i64 s.b,int i64 s.q,int i64 s.t] 31)).alloc (.cells #[int i64 x.kind,int i64 x.seq,.string x.name,int i64 x.length,int i64 x.group,int i64 x.row,.slice A0 nR c0,.slice A1 nD c1,.slice A2 nE c2] 119))) (fun W => C3 A2 nE c2 W));unfold shV at QRL QID QIR⊢;clear hsb hk hq hs hr hrc hpc hsm hrr o0 o1 o2 o3 o4 o5 e0 hmb0 hwd HRL;have u0:=aA HS.o.c0;have u1:=aA HS.o.c1;have u2:=aA HS.o.c2;have u3:=aA HS.o.c3;have u4:=aA HS.o.c4;have u5:=aA HS.o.c5;have u6:=aA HS.o.c6;have u7:=aA HS.o.c7;have u8:=aA HS.o.c8;have t0:=aA HRC.o.c0;have t1:=aA HRC.o.c1;have t2:=aA HRC.o.c2;have t3:=aA HRC.o.c3;have t4:=aA HRC.o.c4;have t5:=aA HRC.o.c5;have t6:=aA HRC.o.c6;have t7:=aA HRC.o.c7;have t8:=aA HRC.o.c8;have xx:=HS.o.lt;have xy:=HRC.o.lt;refine HMC.o _ ?_ ?_ ?_ ?_ ?_
 ·intro g hmb;subst hmb;have e2:pc=3:=HE0.o;subst e2;rw[g]at QID;clear g;have e1:r=3:=HRV.o.trans (aI (by decide));subst e1;go_enter func177,ntmps177
  go_wp2_with (first
  |(go_at_call_has 100 x.kind;refine(HIK.o _).mono ?_;rintro e w' ⟨rfl,rfl⟩)
  |(go_at_call_has 100 x.seq;refine(HIQ.o _).mono ?_;rintro e w' ⟨rfl,rfl⟩)
  |(refine aD rfl 31 _ rfl w.heap.size 0 rfl _ _ HS.o.rng underlying31 rfl (by kernel_rfl) ?_)
  |(refine aD rfl 119 _ rfl (w.heap.size+1) 0 rfl _ _ HRC.o.rng underlying119 rfl (by kernel_rfl) ?_))
  (refine aF (by kernel_rfl) (by kernel_rfl) ?_;(repeat(first|go_big_quiet_step (first|(go_at_call 187;exact QID.o _ _)|(go_at_call 45;exact QIR.o _ _)|(go_at_call 249;exact QRL.o _ _)|(go_at_call_has 248 nD;exact QSD.o _ _)|(go_at_call_has 248 nE;exact QSE.o _ _))|quiet_step (first|(go_at_call 187;exact QID.o _ _)|(go_at_call 45;exact QIR.o _ _)|(go_at_call 249;exact QRL.o _ _)|(go_at_call_has 248 nD;exact QSD.o _ _)|(go_at_call_has 248 nE;exact QSE.o _ _))));refine aP ?_)
  rintro _ ⟨⟨dq,osq⟩,rfl⟩;have b5:=aH ((w.alloc (.cells #[int i64 s.g,int i64 s.c,int i64 s.data,int i64 s.p,int i64 s.rows,int i64 s.cap,int i64 s.b,int i64 s.q,int i64 s.t] 31)).alloc (.cells #[int i64 x.kind,int i64 x.seq,.string x.name,int i64 x.length,int i64 x.group,int i64 x.row,.slice A0 nR c0,.slice A1 nD c1,.slice A2 nE c2] 119)) dq osq;generalize grow (redrawn ((w.alloc (.cells #[int i64 s.g,int i64 s.c,int i64 s.data,int i64 s.p,int i64 s.rows,int i64 s.cap,int i64 s.b,int i64 s.q,int i64 s.t] 31)).alloc (.cells #[int i64 x.kind,int i64 x.seq,.string x.name,int i64 x.length,int i64 x.group,int i64 x.row,.slice A0 nR c0,.slice A1 nD c1,.slice A2 nE c2] 119)) dq) osq=w5 at b5;have B5:=U (HB.o.trans (b5.mono HB.o.size));clear b5;go_wp2_with fail
  (refine aF (by kernel_rfl) (by kernel_rfl) ?_;(repeat(first|go_big_quiet_step (fail)|quiet_step (fail)));refine aP ?_)
  rintro _ ⟨⟨dq2,osq2⟩,rfl⟩;have HB9:=U (B5.o.trans ((aH _ dq2 osq2).mono B5.o.size));go_wp2_with fail
  go_ret
  exact⟨rfl,HB9.o⟩
 ·intro g r2 hmb;subst hmb;have e2:pc=3:=HE0.o;subst e2;rw[g]at QID;rw[r2]at QIR;clear g r2;have e1:r=3:=HRV.o.trans (aI (by decide));subst e1;go_enter func177,ntmps177
  go_wp2_with (first
  |(go_at_call_has 100 x.kind;refine(HIK.o _).mono ?_;rintro e w' ⟨rfl,rfl⟩)
  |(go_at_call_has 100 x.seq;refine(HIQ.o _).mono ?_;rintro e w' ⟨rfl,rfl⟩)
  |(refine aD rfl 31 _ rfl w.heap.size 0 rfl _ _ HS.o.rng underlying31 rfl (by kernel_rfl) ?_)
  |(refine aD rfl 119 _ rfl (w.heap.size+1) 0 rfl _ _ HRC.o.rng underlying119 rfl (by kernel_rfl) ?_))
  (refine aF (by kernel_rfl) (by kernel_rfl) ?_;(repeat(first|go_big_quiet_step (first|(go_at_call 187;exact QID.o _ _)|(go_at_call 45;exact QIR.o _ _)|(go_at_call 249;exact QRL.o _ _)|(go_at_call_has 248 nD;exact QSD.o _ _)|(go_at_call_has 248 nE;exact QSE.o _ _))|quiet_step (first|(go_at_call 187;exact QID.o _ _)|(go_at_call 45;exact QIR.o _ _)|(go_at_call 249;exact QRL.o _ _)|(go_at_call_has 248 nD;exact QSD.o _ _)|(go_at_call_has 248 nE;exact QSE.o _ _))));refine aP ?_)
  rintro _ ⟨⟨dq,osq⟩,rfl⟩;have b5:=aH ((w.alloc (.cells #[int i64 s.g,int i64 s.c,int i64 s.data,int i64 s.p,int i64 s.rows,int i64 s.cap,int i64 s.b,int i64 s.q,int i64 s.t] 31)).alloc (.cells #[int i64 x.kind,int i64 x.seq,.string x.name,int i64 x.length,int i64 x.group,int i64 x.row,.slice A0 nR c0,.slice A1 nD c1,.slice A2 nE c2] 119)) dq osq;generalize grow (redrawn ((w.alloc (.cells #[int i64 s.g,int i64 s.c,int i64 s.data,int i64 s.p,int i64 s.rows,int i64 s.cap,int i64 s.b,int i64 s.q,int i64 s.t] 31)).alloc (.cells #[int i64 x.kind,int i64 x.seq,.string x.name,int i64 x.length,int i64 x.group,int i64 x.row,.slice A0 nR c0,.slice A1 nD c1,.slice A2 nE c2] 119)) dq) osq=w5 at b5;have B5:=U (HB.o.trans (b5.mono HB.o.size));clear b5;go_wp2_with fail
  (refine aF (by kernel_rfl) (by kernel_rfl) ?_;(repeat(first|go_big_quiet_step (fail)|quiet_step (fail)));refine aP ?_)
  rintro _ ⟨⟨dq2,osq2⟩,rfl⟩;have HB9:=U (B5.o.trans ((aH _ dq2 osq2).mono B5.o.size));go_wp2_with fail
  go_ret
  exact⟨rfl,HB9.o⟩
 ·intro g r2 d hmb;subst hmb;have e2:pc=3:=HE0.o;subst e2;rw[g]at QID;rw[r2]at QIR;have d1:=DV d;clear g r2 d;have e1:r=3:=HRV.o.trans (aI (by decide));subst e1;go_enter func177,ntmps177
  go_wp2_with (first
  |(go_at_call_has 100 x.kind;refine(HIK.o _).mono ?_;rintro e w' ⟨rfl,rfl⟩)
  |(go_at_call_has 100 x.seq;refine(HIQ.o _).mono ?_;rintro e w' ⟨rfl,rfl⟩)
  |(refine aD rfl 31 _ rfl w.heap.size 0 rfl _ _ HS.o.rng underlying31 rfl (by kernel_rfl) ?_)
  |(refine aD rfl 119 _ rfl (w.heap.size+1) 0 rfl _ _ HRC.o.rng underlying119 rfl (by kernel_rfl) ?_))
  (refine aF (by kernel_rfl) (by kernel_rfl) ?_;(repeat(first|go_big_quiet_step (first|(go_at_call 187;exact QID.o _ _)|(go_at_call 45;exact QIR.o _ _)|(go_at_call 249;exact QRL.o _ _)|(go_at_call_has 248 nD;exact QSD.o _ _)|(go_at_call_has 248 nE;exact QSE.o _ _))|quiet_step (first|(go_at_call 187;exact QID.o _ _)|(go_at_call 45;exact QIR.o _ _)|(go_at_call 249;exact QRL.o _ _)|(go_at_call_has 248 nD;exact QSD.o _ _)|(go_at_call_has 248 nE;exact QSE.o _ _))));refine aP ?_)
  rintro _ ⟨⟨dq,osq⟩,rfl⟩;have b5:=aH ((w.alloc (.cells #[int i64 s.g,int i64 s.c,int i64 s.data,int i64 s.p,int i64 s.rows,int i64 s.cap,int i64 s.b,int i64 s.q,int i64 s.t] 31)).alloc (.cells #[int i64 x.kind,int i64 x.seq,.string x.name,int i64 x.length,int i64 x.group,int i64 x.row,.slice A0 nR c0,.slice A1 nD c1,.slice A2 nE c2] 119)) dq osq;generalize grow (redrawn ((w.alloc (.cells #[int i64 s.g,int i64 s.c,int i64 s.data,int i64 s.p,int i64 s.rows,int i64 s.cap,int i64 s.b,int i64 s.q,int i64 s.t] 31)).alloc (.cells #[int i64 x.kind,int i64 x.seq,.string x.name,int i64 x.length,int i64 x.group,int i64 x.row,.slice A0 nR c0,.slice A1 nD c1,.slice A2 nE c2] 119)) dq) osq=w5 at b5;have B5:=U (HB.o.trans (b5.mono HB.o.size));clear b5;go_wp2_with fail
  (refine aF (by kernel_rfl) (by kernel_rfl) ?_;(repeat(first|go_big_quiet_step (fail)|quiet_step (fail)));refine aP ?_)
  rintro _ ⟨⟨dq2,osq2⟩,rfl⟩;have HB9:=U (B5.o.trans ((aH _ dq2 osq2).mono B5.o.size));go_wp2_with fail
  go_ret
  exact⟨rfl,HB9.o⟩
 ·intro g r2 d d2 hmb;subst hmb;have e2:pc=3:=HE0.o;subst e2;rw[g]at QID;rw[r2]at QIR;have d1:=CR d;have d3:=DV d2;clear g r2 d d2;have e1:r=3:=HRV.o.trans (aI (by decide));subst e1;go_enter func177,ntmps177
  go_wp2_with (first
  |(go_at_call_has 100 x.kind;refine(HIK.o _).mono ?_;rintro e w' ⟨rfl,rfl⟩)
  |(go_at_call_has 100 x.seq;refine(HIQ.o _).mono ?_;rintro e w' ⟨rfl,rfl⟩)
  |(refine aD rfl 31 _ rfl w.heap.size 0 rfl _ _ HS.o.rng underlying31 rfl (by kernel_rfl) ?_)
  |(refine aD rfl 119 _ rfl (w.heap.size+1) 0 rfl _ _ HRC.o.rng underlying119 rfl (by kernel_rfl) ?_))
  (refine aF (by kernel_rfl) (by kernel_rfl) ?_;(repeat(first|go_big_quiet_step (first|(go_at_call 187;exact QID.o _ _)|(go_at_call 45;exact QIR.o _ _)|(go_at_call 249;exact QRL.o _ _)|(go_at_call_has 248 nD;exact QSD.o _ _)|(go_at_call_has 248 nE;exact QSE.o _ _))|quiet_step (first|(go_at_call 187;exact QID.o _ _)|(go_at_call 45;exact QIR.o _ _)|(go_at_call 249;exact QRL.o _ _)|(go_at_call_has 248 nD;exact QSD.o _ _)|(go_at_call_has 248 nE;exact QSE.o _ _))));refine aP ?_)
  rintro _ ⟨⟨dq,osq⟩,rfl⟩;have b5:=aH ((w.alloc (.cells #[int i64 s.g,int i64 s.c,int i64 s.data,int i64 s.p,int i64 s.rows,int i64 s.cap,int i64 s.b,int i64 s.q,int i64 s.t] 31)).alloc (.cells #[int i64 x.kind,int i64 x.seq,.string x.name,int i64 x.length,int i64 x.group,int i64 x.row,.slice A0 nR c0,.slice A1 nD c1,.slice A2 nE c2] 119)) dq osq;generalize grow (redrawn ((w.alloc (.cells #[int i64 s.g,int i64 s.c,int i64 s.data,int i64 s.p,int i64 s.rows,int i64 s.cap,int i64 s.b,int i64 s.q,int i64 s.t] 31)).alloc (.cells #[int i64 x.kind,int i64 x.seq,.string x.name,int i64 x.length,int i64 x.group,int i64 x.row,.slice A0 nR c0,.slice A1 nD c1,.slice A2 nE c2] 119)) dq) osq=w5 at b5;have B5:=U (HB.o.trans (b5.mono HB.o.size));clear b5;go_wp2_with fail
  (refine aF (by kernel_rfl) (by kernel_rfl) ?_;(repeat(first|go_big_quiet_step (fail)|quiet_step (fail)));refine aP ?_)
  rintro _ ⟨⟨dq2,osq2⟩,rfl⟩;have HB9:=U (B5.o.trans ((aH _ dq2 osq2).mono B5.o.size));go_wp2_with fail
  go_ret
  exact⟨rfl,HB9.o⟩
 ·intro g r2 d d2 hmb;subst hmb;have e2:pc=0:=HE0.o;subst e2;rw[g]at QID;rw[r2]at QIR;have d1:=CR d;have d3:=CR d2;clear g r2 d d2;go_enter func177,ntmps177
  go_wp2_with (first
  |(go_at_call_has 100 x.kind;refine(HIK.o _).mono ?_;rintro e w' ⟨rfl,rfl⟩)
  |(go_at_call_has 100 x.seq;refine(HIQ.o _).mono ?_;rintro e w' ⟨rfl,rfl⟩)
  |(refine aD rfl 31 _ rfl w.heap.size 0 rfl _ _ HS.o.rng underlying31 rfl (by kernel_rfl) ?_)
  |(refine aD rfl 119 _ rfl (w.heap.size+1) 0 rfl _ _ HRC.o.rng underlying119 rfl (by kernel_rfl) ?_))
  (refine aF (by kernel_rfl) (by kernel_rfl) ?_;(repeat(first|go_big_quiet_step (first|(go_at_call 187;exact QID.o _ _)|(go_at_call 45;exact QIR.o _ _)|(go_at_call 249;exact QRL.o _ _)|(go_at_call_has 248 nD;exact QSD.o _ _)|(go_at_call_has 248 nE;exact QSE.o _ _))|quiet_step (first|(go_at_call 187;exact QID.o _ _)|(go_at_call 45;exact QIR.o _ _)|(go_at_call 249;exact QRL.o _ _)|(go_at_call_has 248 nD;exact QSD.o _ _)|(go_at_call_has 248 nE;exact QSE.o _ _))));refine aP ?_)
  rintro _ ⟨⟨dq,osq⟩,rfl⟩;have b5:=aH ((w.alloc (.cells #[int i64 s.g,int i64 s.c,int i64 s.data,int i64 s.p,int i64 s.rows,int i64 s.cap,int i64 s.b,int i64 s.q,int i64 s.t] 31)).alloc (.cells #[int i64 x.kind,int i64 x.seq,.string x.name,int i64 x.length,int i64 x.group,int i64 x.row,.slice A0 nR c0,.slice A1 nD c1,.slice A2 nE c2] 119)) dq osq;generalize grow (redrawn ((w.alloc (.cells #[int i64 s.g,int i64 s.c,int i64 s.data,int i64 s.p,int i64 s.rows,int i64 s.cap,int i64 s.b,int i64 s.q,int i64 s.t] 31)).alloc (.cells #[int i64 x.kind,int i64 x.seq,.string x.name,int i64 x.length,int i64 x.group,int i64 x.row,.slice A0 nR c0,.slice A1 nD c1,.slice A2 nE c2] 119)) dq) osq=w5 at b5;have HS5:=U (HS.o.below b5);have HR5:=U (HRC.o.below b5);have B5:=U (HB.o.trans (b5.mono HB.o.size));have ls5:=HS5.o.lt;have lr5:=HR5.o.lt;clear u0 u1 u2 u3 u4 u5 u6 u7 u8 t0 t1 t2 t3 t4 t5 t6 t7 t8 b5;have u0:=aA HS5.o.c0;have u1:=aA HS5.o.c1;have u2:=aA HS5.o.c2;have u3:=aA HS5.o.c3;have u4:=aA HS5.o.c4;have u5:=aA HS5.o.c5;have u6:=aA HS5.o.c6;have u7:=aA HS5.o.c7;have u8:=aA HS5.o.c8;have t0:=aA HR5.o.c0;have t1:=aA HR5.o.c1;have t2:=aA HR5.o.c2;have t3:=aA HR5.o.c3;have t4:=aA HR5.o.c4;have t5:=aA HR5.o.c5;have t6:=aA HR5.o.c6;have t7:=aA HR5.o.c7;have t8:=aA HR5.o.c8;have QB:=U (AU (w:=w5) (fun W _ => HBR.o W));have QM:=U (AU (w:=w5) (fun W hW => HSM.o W (B5.o.trans (hW.mono B5.o.size))));cases sm with
  |true =>
   have e1:r=0:=HRV.o.trans rfl;subst e1;go_wp2_with fail
   (refine aF (by kernel_rfl) (by kernel_rfl) ?_;(repeat(first|go_big_quiet_step (first|(go_at_call 251;exact QB.o _ _)|(go_at_call 250;exact QM.o _ _))|quiet_step (first|(go_at_call 251;exact QB.o _ _)|(go_at_call 250;exact QM.o _ _))));refine aP ?_)
   rintro _ ⟨⟨dq2,osq2⟩,rfl⟩;have HB9:=U (B5.o.trans ((aH _ dq2 osq2).mono B5.o.size));go_wp2_with fail
   go_ret
   exact⟨rfl,HB9.o⟩
  |false =>
   have e1:r=1:=HRV.o.trans rfl;subst e1;go_wp2_with fail
   (refine aF (by kernel_rfl) (by kernel_rfl) ?_;(repeat(first|go_big_quiet_step (first|(go_at_call 251;exact QB.o _ _)|(go_at_call 250;exact QM.o _ _))|quiet_step (first|(go_at_call 251;exact QB.o _ _)|(go_at_call 250;exact QM.o _ _))));refine aP ?_)
   rintro _ ⟨⟨dq2,osq2⟩,rfl⟩;have HB9:=U (B5.o.trans ((aH _ dq2 osq2).mono B5.o.size));go_wp2_with fail
   go_ret
   exact⟨rfl,HB9.o⟩
theorem Pe(s:Sh)(hsb:shB s=true)(x:Ah)(cs:List Value)(f:List Addr)(w:World)(h:Ac w f cs x)(hk:x.kind=3)(hq:Ap x.seq 1 1000000000=true) :
  Calls prog 177 #[shV s,.agg cs.toArray] w fun e w' => e= .returned (int i64 (AF s x))∧Below w.heap.size w w':=by
 have hrr:=h;dsimp only[Ac]at h;obtain⟨v0,v1,v2,f0,f1,f2,rfl,rfl,o0,o1,o2,o3,o4,o5,h0,h1,h2⟩:=h;obtain⟨A0,c0,rfl,k0,m0⟩:=rSl.head h0;obtain⟨A1,c1,rfl,k1,m1⟩:=rSl.head h1;obtain⟨A2,c2,rfl,k2,m2⟩:=rSl.head h2;have H0:=U h0;have H1:=U h1;have H2:=U h2;obtain⟨nR,hnR⟩:∃nR,x.rows.length=nR:=⟨_,rfl⟩;obtain⟨nD,hnD⟩:∃nD,x.data.length=nD:=⟨_,rfl⟩;obtain⟨nE,hnE⟩:∃nE,x.delta.length=nE:=⟨_,rfl⟩;have HNR:=U hnR;have HND:=U hnD;have HNE:=U hnE;rw[hnR]at H0 k0⊢;rw[hnD]at H1 k1⊢;rw[hnE]at H2 k2⊢;have K1:=(Blk.new w 31 #[int i64 s.g,int i64 s.c,int i64 s.data,int i64 s.p,int i64 s.rows,int i64 s.cap,int i64 s.b,int i64 s.q,int i64 s.t]).alloc (.cells #[int i64 x.kind,int i64 x.seq,.string x.name,int i64 x.length,int i64 x.group,int i64 x.row,.slice A0 nR c0,.slice A1 nD c1,.slice A2 nE c2] 119);have K2:=Blk.new1 w (.cells #[int i64 s.g,int i64 s.c,int i64 s.data,int i64 s.p,int i64 s.rows,int i64 s.cap,int i64 s.b,int i64 s.q,int i64 s.t] 31) 119 #[int i64 x.kind,int i64 x.seq,.string x.name,int i64 x.length,int i64 x.group,int i64 x.row,.slice A0 nR c0,.slice A1 nD c1,.slice A2 nE c2];have hB:Below w.heap.size w ((w.alloc (.cells #[int i64 s.g,int i64 s.c,int i64 s.data,int i64 s.p,int i64 s.rows,int i64 s.cap,int i64 s.b,int i64 s.q,int i64 s.t] 31)).alloc (.cells #[int i64 x.kind,int i64 x.seq,.string x.name,int i64 x.length,int i64 x.group,int i64 x.row,.slice A0 nR c0,.slice A1 nD c1,.slice A2 nE c2] 119)):=((aB _ _).alloc (aC _) _).alloc (by simp) _;have HB:=U hB;have S2:=DK.of K1;have R2:=Dg.of K2;have HS:=U S2;have HRC:=U R2;clear h0 h1 h2 hnR hnD hnE K1 K2 hB;rw[HNR.o,HND.o,HNE.o]at hrr;have hs:=Ea hsb;have HIK:=U (fun(W:World) => Bz x.kind 1 4 W);have HIQ:=U (fun(W:World) => Bz x.seq 1 1000000000 W);rw[show Ap x.kind 1 4=true by rw[hk];rfl]at HIK;rw[hq]at HIQ;have hrc:=DI (s:=s) (show Ap x.kind 1 4=true by rw[hk];rfl) hq;rw[Gq]at hrc;obtain⟨r,hr⟩:∃r:Int,AF s x=r:=⟨_,rfl⟩;rw[hr]at hrc⊢;obtain⟨pc,hpc⟩:∃pc:Int,AZ s x=pc:=⟨_,rfl⟩;rw[hpc]at hrc;have HRV:=U hrc;have HPC:=U hpc;have HBR:=U (fun(W:World) => bare3_c x A0 A1 A2 nR nD nE c0 c1 c2 W hk);have HBW:=U (bareR3 hk o0 o1 o2 o3 o4 o5 H0.o H1.o H2.o);have HSM:=U (fun(W:World) (hW:Below w.heap.size w W) => Fx x (Dv x) _ _ _ _ W (AB.below Ac.local_ Ac.fixed hrr hW) (AB.below Ac.local_ Ac.fixed HBW.o hW));obtain⟨sm,hsm⟩:∃sm,decide (x=Dv x)=sm:=⟨_,rfl⟩;rw[hsm]at HSM HRV;have k1:(x.kind == 1)=false:=by rw[hk];rfl
 have k3:(x.kind == 3)=true:=by rw[hk];rfl
 have k4:(x.kind == 4)=false:=by rw[hk];rfl
 have HFA:=U (I6 s hs x.group ((w.alloc (.cells #[int i64 s.g,int i64 s.c,int i64 s.data,int i64 s.p,int i64 s.rows,int i64 s.cap,int i64 s.b,int i64 s.q,int i64 s.t] 31)).alloc (.cells #[int i64 x.kind,int i64 x.seq,.string x.name,int i64 x.length,int i64 x.group,int i64 x.row,.slice A0 nR c0,.slice A1 nD c1,.slice A2 nE c2] 119)));have e0:AZ s x=if Ap x.group 0 (s.g+s.c - 1)=true then 0 else 3:=by unfold AZ;rw[aI (by omega),aI (by omega),aL hk];rfl
 rw[hpc]at e0;obtain⟨ig,hig⟩:∃ig,Ap x.group 0 (s.g+s.c - 1)=ig:=⟨_,rfl⟩;rw[hig]at e0 HFA;have HE0:=U e0;unfold shV at HFA⊢;clear hsb hk hq hs hr hrc hpc hsm hrr o0 o1 o2 o3 o4 o5 e0 hig;have x4:=HRC.o.c4;go_enter func177,ntmps177
 go_wp2_with (first
  |(go_at_call_has 100 x.kind;refine(HIK.o _).mono ?_;rintro e w' ⟨rfl,rfl⟩)
  |(go_at_call_has 100 x.seq;refine(HIQ.o _).mono ?_;rintro e w' ⟨rfl,rfl⟩)
  |(refine aD rfl 31 _ rfl w.heap.size 0 rfl _ _ HS.o.rng underlying31 rfl (by kernel_rfl) ?_)
  |(refine aD rfl 119 _ rfl (w.heap.size+1) 0 rfl _ _ HRC.o.rng underlying119 rfl (by kernel_rfl) ?_))
 refine HFA.o.mono ?_;rintro e w3 ⟨rfl,b3⟩;have HS3:=U (HS.o.below b3);have HR3:=U (HRC.o.below b3);have B3:=U (HB.o.trans (b3.mono HB.o.size));have ls3:=HS3.o.lt;have lr3:=HR3.o.lt;have u0:=aA HS3.o.c0;have u1:=aA HS3.o.c1;have u2:=aA HS3.o.c2;have u3:=aA HS3.o.c3;have u4:=aA HS3.o.c4;have u5:=aA HS3.o.c5;have u6:=aA HS3.o.c6;have u7:=aA HS3.o.c7;have u8:=aA HS3.o.c8;have t0:=aA HR3.o.c0;have t1:=aA HR3.o.c1;have t2:=aA HR3.o.c2;have t3:=aA HR3.o.c3;have t4:=aA HR3.o.c4;have t5:=aA HR3.o.c5;have t6:=aA HR3.o.c6;have t7:=aA HR3.o.c7;have t8:=aA HR3.o.c8;clear b3 x4;cases ig with
 |true =>
  have e2:pc=0:=HE0.o;subst e2;have QB:=U (AU (w:=w3) (fun W _ => HBR.o W));have QM:=U (AU (w:=w3) (fun W hW => HSM.o W (B3.o.trans (hW.mono B3.o.size))));cases sm with
  |true =>
   have e1:r=0:=HRV.o.trans rfl;subst e1;go_wp2_with fail
   (refine aF (by kernel_rfl) (by kernel_rfl) ?_;(repeat(first|go_big_quiet_step (first|(go_at_call 251;exact QB.o _ _)|(go_at_call 250;exact QM.o _ _))|quiet_step (first|(go_at_call 251;exact QB.o _ _)|(go_at_call 250;exact QM.o _ _))));refine aP ?_)
   rintro _ ⟨⟨dq2,osq2⟩,rfl⟩;have HB9:=U (B3.o.trans ((aH _ dq2 osq2).mono B3.o.size));go_wp2_with fail
   go_ret
   exact⟨rfl,HB9.o⟩
  |false =>
   have e1:r=1:=HRV.o.trans rfl;subst e1;go_wp2_with fail
   (refine aF (by kernel_rfl) (by kernel_rfl) ?_;(repeat(first|go_big_quiet_step (first|(go_at_call 251;exact QB.o _ _)|(go_at_call 250;exact QM.o _ _))|quiet_step (first|(go_at_call 251;exact QB.o _ _)|(go_at_call 250;exact QM.o _ _))));refine aP ?_)
   rintro _ ⟨⟨dq2,osq2⟩,rfl⟩;have HB9:=U (B3.o.trans ((aH _ dq2 osq2).mono B3.o.size));go_wp2_with fail
   go_ret
   exact⟨rfl,HB9.o⟩
 |false =>
  have e2:pc=3:=HE0.o;subst e2;have e1:r=3:=HRV.o.trans (aI (by decide));subst e1;go_wp2_with fail
  (refine aF (by kernel_rfl) (by kernel_rfl) ?_;(repeat(first|go_big_quiet_step (fail)|quiet_step (fail)));refine aP ?_)
  rintro _ ⟨⟨dq2,osq2⟩,rfl⟩;have HB9:=U (B3.o.trans ((aH _ dq2 osq2).mono B3.o.size));go_wp2_with fail
  go_ret
  exact⟨rfl,HB9.o⟩
theorem Pf(s:Sh)(hsb:shB s=true)(x:Ah)(cs:List Value)(f:List Addr)(w:World)(h:Ac w f cs x)(hk:x.kind=4)(hq:Ap x.seq 1 1000000000=true) :
  Calls prog 177 #[shV s,.agg cs.toArray] w fun e w' => e= .returned (int i64 (AF s x))∧Below w.heap.size w w':=by
 have hrr:=h;dsimp only[Ac]at h;obtain⟨v0,v1,v2,f0,f1,f2,rfl,rfl,o0,o1,o2,o3,o4,o5,h0,h1,h2⟩:=h;obtain⟨A0,c0,rfl,k0,m0⟩:=rSl.head h0;obtain⟨A1,c1,rfl,k1,m1⟩:=rSl.head h1;obtain⟨A2,c2,rfl,k2,m2⟩:=rSl.head h2;have H0:=U h0;have H1:=U h1;have H2:=U h2;obtain⟨nR,hnR⟩:∃nR,x.rows.length=nR:=⟨_,rfl⟩;obtain⟨nD,hnD⟩:∃nD,x.data.length=nD:=⟨_,rfl⟩;obtain⟨nE,hnE⟩:∃nE,x.delta.length=nE:=⟨_,rfl⟩;have HNR:=U hnR;have HND:=U hnD;have HNE:=U hnE;rw[hnR]at H0 k0⊢;rw[hnD]at H1 k1⊢;rw[hnE]at H2 k2⊢;have K1:=(Blk.new w 31 #[int i64 s.g,int i64 s.c,int i64 s.data,int i64 s.p,int i64 s.rows,int i64 s.cap,int i64 s.b,int i64 s.q,int i64 s.t]).alloc (.cells #[int i64 x.kind,int i64 x.seq,.string x.name,int i64 x.length,int i64 x.group,int i64 x.row,.slice A0 nR c0,.slice A1 nD c1,.slice A2 nE c2] 119);have K2:=Blk.new1 w (.cells #[int i64 s.g,int i64 s.c,int i64 s.data,int i64 s.p,int i64 s.rows,int i64 s.cap,int i64 s.b,int i64 s.q,int i64 s.t] 31) 119 #[int i64 x.kind,int i64 x.seq,.string x.name,int i64 x.length,int i64 x.group,int i64 x.row,.slice A0 nR c0,.slice A1 nD c1,.slice A2 nE c2];have hB:Below w.heap.size w ((w.alloc (.cells #[int i64 s.g,int i64 s.c,int i64 s.data,int i64 s.p,int i64 s.rows,int i64 s.cap,int i64 s.b,int i64 s.q,int i64 s.t] 31)).alloc (.cells #[int i64 x.kind,int i64 x.seq,.string x.name,int i64 x.length,int i64 x.group,int i64 x.row,.slice A0 nR c0,.slice A1 nD c1,.slice A2 nE c2] 119)):=((aB _ _).alloc (aC _) _).alloc (by simp) _;have HB:=U hB;have S2:=DK.of K1;have R2:=Dg.of K2;have HS:=U S2;have HRC:=U R2;clear h0 h1 h2 hnR hnD hnE K1 K2 hB;rw[HNR.o,HND.o,HNE.o]at hrr;have hs:=Ea hsb;have HIK:=U (fun(W:World) => Bz x.kind 1 4 W);have HIQ:=U (fun(W:World) => Bz x.seq 1 1000000000 W);rw[show Ap x.kind 1 4=true by rw[hk];rfl]at HIK;rw[hq]at HIQ;have hrc:=DI (s:=s) (show Ap x.kind 1 4=true by rw[hk];rfl) hq;rw[Gq]at hrc;obtain⟨r,hr⟩:∃r:Int,AF s x=r:=⟨_,rfl⟩;rw[hr]at hrc⊢;obtain⟨pc,hpc⟩:∃pc:Int,AZ s x=pc:=⟨_,rfl⟩;rw[hpc]at hrc;have HRV:=U hrc;have HPC:=U hpc;have HBR:=U (fun(W:World) => bare4_c x A0 A1 A2 nR nD nE c0 c1 c2 W hk);have HBW:=U (bareR4 hk o0 o1 o2 o3 o4 o5 H0.o H1.o H2.o);have HSM:=U (fun(W:World) (hW:Below w.heap.size w W) => Fx x (Dv x) _ _ _ _ W (AB.below Ac.local_ Ac.fixed hrr hW) (AB.below Ac.local_ Ac.fixed HBW.o hW));obtain⟨sm,hsm⟩:∃sm,decide (x=Dv x)=sm:=⟨_,rfl⟩;rw[hsm]at HSM HRV;have k1:(x.kind == 1)=false:=by rw[hk];rfl
 have k3:(x.kind == 3)=false:=by rw[hk];rfl
 have k4:(x.kind == 4)=true:=by rw[hk];rfl
 have HFA:=U (Nw s hs x _ _ ((w.alloc (.cells #[int i64 s.g,int i64 s.c,int i64 s.data,int i64 s.p,int i64 s.rows,int i64 s.cap,int i64 s.b,int i64 s.q,int i64 s.t] 31)).alloc (.cells #[int i64 x.kind,int i64 x.seq,.string x.name,int i64 x.length,int i64 x.group,int i64 x.row,.slice A0 nR c0,.slice A1 nD c1,.slice A2 nE c2] 119)) (AB.below Ac.local_ Ac.fixed hrr HB.o));have e0:AZ s x=if Cc s x=true then 0 else 3:=by unfold AZ;rw[aI (by omega),aI (by omega),aI (by omega)]
 rw[← e0,hpc]at HFA;unfold shV at HFA⊢;clear hsb hk hq hs hr hrc hpc hsm hrr o0 o1 o2 o3 o4 o5 e0;go_enter func177,ntmps177
 go_wp2_with (first
  |(go_at_call_has 100 x.kind;refine(HIK.o _).mono ?_;rintro e w' ⟨rfl,rfl⟩)
  |(go_at_call_has 100 x.seq;refine(HIQ.o _).mono ?_;rintro e w' ⟨rfl,rfl⟩)
  |(refine aD rfl 31 _ rfl w.heap.size 0 rfl _ _ HS.o.rng underlying31 rfl (by kernel_rfl) ?_)
  |(refine aD rfl 119 _ rfl (w.heap.size+1) 0 rfl _ _ HRC.o.rng underlying119 rfl (by kernel_rfl) ?_))
 refine HFA.o.mono ?_;rintro e w3 ⟨rfl,b3⟩;have HS3:=U (HS.o.below b3);have HR3:=U (HRC.o.below b3);have B3:=U (HB.o.trans (b3.mono HB.o.size));have ls3:=HS3.o.lt;have lr3:=HR3.o.lt;have u0:=aA HS3.o.c0;have u1:=aA HS3.o.c1;have u2:=aA HS3.o.c2;have u3:=aA HS3.o.c3;have u4:=aA HS3.o.c4;have u5:=aA HS3.o.c5;have u6:=aA HS3.o.c6;have u7:=aA HS3.o.c7;have u8:=aA HS3.o.c8;have t0:=aA HR3.o.c0;have t1:=aA HR3.o.c1;have t2:=aA HR3.o.c2;have t3:=aA HR3.o.c3;have t4:=aA HR3.o.c4;have t5:=aA HR3.o.c5;have t6:=aA HR3.o.c6;have t7:=aA HR3.o.c7;have t8:=aA HR3.o.c8;clear b3;by_cases hp:pc=0
 ·subst hp;have QB:=U (AU (w:=w3) (fun W _ => HBR.o W));have QM:=U (AU (w:=w3) (fun W hW => HSM.o W (B3.o.trans (hW.mono B3.o.size))));cases sm with
  |true =>
   have e1:r=0:=HRV.o.trans rfl;subst e1;go_wp2_with fail
   (refine aF (by kernel_rfl) (by kernel_rfl) ?_;(repeat(first|go_big_quiet_step (first|(go_at_call 251;exact QB.o _ _)|(go_at_call 250;exact QM.o _ _))|quiet_step (first|(go_at_call 251;exact QB.o _ _)|(go_at_call 250;exact QM.o _ _))));refine aP ?_)
   rintro _ ⟨⟨dq2,osq2⟩,rfl⟩;have HB9:=U (B3.o.trans ((aH _ dq2 osq2).mono B3.o.size));go_wp2_with fail
   go_ret
   exact⟨rfl,HB9.o⟩
  |false =>
   have e1:r=1:=HRV.o.trans rfl;subst e1;go_wp2_with fail
   (refine aF (by kernel_rfl) (by kernel_rfl) ?_;(repeat(first|go_big_quiet_step (first|(go_at_call 251;exact QB.o _ _)|(go_at_call 250;exact QM.o _ _))|quiet_step (first|(go_at_call 251;exact QB.o _ _)|(go_at_call 250;exact QM.o _ _))));refine aP ?_)
   rintro _ ⟨⟨dq2,osq2⟩,rfl⟩;have HB9:=U (B3.o.trans ((aH _ dq2 osq2).mono B3.o.size));go_wp2_with fail
   go_ret
   exact⟨rfl,HB9.o⟩
 ·have e1:r=pc:=HRV.o.trans (aI hp);subst e1;have hp2:(r == 0)=false:=by simpa using hp
  clear hp;go_wp2_with fail
  (refine aF (by kernel_rfl) (by kernel_rfl) ?_;(repeat(first|go_big_quiet_step (fail)|quiet_step (fail)));refine aP ?_)
  rintro _ ⟨⟨dq2,osq2⟩,rfl⟩;have HB9:=U (B3.o.trans ((aH _ dq2 osq2).mono B3.o.size));go_wp2_with fail
  go_ret
  exact⟨rfl,HB9.o⟩
theorem I5(s:Sh)(x:Ah)(cs:List Value)(f:List Addr)(w:World)(h:Ac w f cs x)(hbad:Ap x.kind 1 4=false∨(Ap x.kind 1 4=true∧Ap x.seq 1 1000000000=false)) :
  Calls prog 177 #[shV s,.agg cs.toArray] w fun e w' => e= .returned (int i64 (AF s x))∧Below w.heap.size w w':=by
 dsimp only[Ac]at h;obtain⟨v0,v1,v2,f0,f1,f2,rfl,rfl,o0,o1,o2,o3,o4,o5,h0,h1,h2⟩:=h;obtain⟨A0,c0,rfl,k0,m0⟩:=rSl.head h0;obtain⟨A1,c1,rfl,k1,m1⟩:=rSl.head h1;obtain⟨A2,c2,rfl,k2,m2⟩:=rSl.head h2;have H0:=U h0;have H1:=U h1;have H2:=U h2;obtain⟨nR,hnR⟩:∃nR,x.rows.length=nR:=⟨_,rfl⟩;obtain⟨nD,hnD⟩:∃nD,x.data.length=nD:=⟨_,rfl⟩;obtain⟨nE,hnE⟩:∃nE,x.delta.length=nE:=⟨_,rfl⟩;have HNR:=U hnR;have HND:=U hnD;have HNE:=U hnE;rw[hnR]at H0 k0⊢;rw[hnD]at H1 k1⊢;rw[hnE]at H2 k2⊢;have K1:=(Blk.new w 31 #[int i64 s.g,int i64 s.c,int i64 s.data,int i64 s.p,int i64 s.rows,int i64 s.cap,int i64 s.b,int i64 s.q,int i64 s.t]).alloc (.cells #[int i64 x.kind,int i64 x.seq,.string x.name,int i64 x.length,int i64 x.group,int i64 x.row,.slice A0 nR c0,.slice A1 nD c1,.slice A2 nE c2] 119);have K2:=Blk.new1 w (.cells #[int i64 s.g,int i64 s.c,int i64 s.data,int i64 s.p,int i64 s.rows,int i64 s.cap,int i64 s.b,int i64 s.q,int i64 s.t] 31) 119 #[int i64 x.kind,int i64 x.seq,.string x.name,int i64 x.length,int i64 x.group,int i64 x.row,.slice A0 nR c0,.slice A1 nD c1,.slice A2 nE c2];have hB:Below w.heap.size w ((w.alloc (.cells #[int i64 s.g,int i64 s.c,int i64 s.data,int i64 s.p,int i64 s.rows,int i64 s.cap,int i64 s.b,int i64 s.q,int i64 s.t] 31)).alloc (.cells #[int i64 x.kind,int i64 x.seq,.string x.name,int i64 x.length,int i64 x.group,int i64 x.row,.slice A0 nR c0,.slice A1 nD c1,.slice A2 nE c2] 119)):=((aB _ _).alloc (aC _) _).alloc (by simp) _;have HB:=U hB;have S2:=DK.of K1;have R2:=Dg.of K2;have HS:=U S2;have HRC:=U R2;clear h0 h1 h2 hnR hnD hnE K1 K2 hB;have HIK:=U (fun(W:World) => Bz x.kind 1 4 W);have HIQ:=U (fun(W:World) => Bz x.seq 1 1000000000 W);unfold shV;rcases hbad with hb|⟨hb,hb2⟩
 ·have e1:AF s x=5:=by unfold AF;rw[aI (by rw[hb];exact Bool.false_ne_true)]
  rw[e1];rw[hb]at HIK;clear hb e1;go_enter func177,ntmps177
  go_wp2_with (first
  |(go_at_call_has 100 x.kind;refine(HIK.o _).mono ?_;rintro e w' ⟨rfl,rfl⟩)
  |(go_at_call_has 100 x.seq;refine(HIQ.o _).mono ?_;rintro e w' ⟨rfl,rfl⟩))
  go_ret
  exact⟨rfl,HB.o⟩
 ·have e1:AF s x=3:=by unfold AF;rw[aL hb,aI (by rw[hb2];exact Bool.false_ne_true)]
  rw[e1];rw[hb]at HIK;rw[hb2]at HIQ;clear hb hb2 e1;go_enter func177,ntmps177
  go_wp2_with (first
  |(go_at_call_has 100 x.kind;refine(HIK.o _).mono ?_;rintro e w' ⟨rfl,rfl⟩)
  |(go_at_call_has 100 x.seq;refine(HIQ.o _).mono ?_;rintro e w' ⟨rfl,rfl⟩))
  go_ret
  exact⟨rfl,HB.o⟩
theorem Qr(s:Sh)(hsb:shB s=true)(x:Ah)(cs:List Value)(f:List Addr)(w:World)(h:Ac w f cs x) :
  Calls prog 177 #[shV s,.agg cs.toArray] w fun e w' => e= .returned (int i64 (AF s x))∧Below w.heap.size w w':=by
 cases hk:Ap x.kind 1 4 with
 |false => exact I5 s x cs f w h (.inl hk)
 |true =>
  cases hq:Ap x.seq 1 1000000000 with
  |false => exact I5 s x cs f w h (.inr ⟨hk,hq⟩)
  |true =>
   rcases kind4 hk with h1|h1|h1|h1
   ·exact Pc s hsb x cs f w h h1 hq
   ·exact Pd s hsb x cs f w h h1 hq
   ·exact Pe s hsb x cs f w h h1 hq
   ·exact Pf s hsb x cs f w h h1 hq
theorem Qd(s:Sh)(h:s.Ok)(w:World) :
  Calls prog 145 #[shV s] w fun e w' => e= .returned (int i64 (s.data+s.p))∧Below w.heap.size w w':=by
 obtain⟨a1,a2⟩:=h.data;obtain⟨b1,b2⟩:=h.p;unfold shV;go_enter func145,ntmps145
 go_wp2
 go_ret
 exact⟨rfl,(aB _ _).alloc (aC _) _⟩
theorem Qc(s:Sh)(h:s.Ok)(w:World) :
  Calls prog 168 #[shV s] w fun e w' => e= .returned (int i64 (s.data+s.p))∧Below w.heap.size w w':=by
 obtain⟨a1,a2⟩:=h.data;obtain⟨b1,b2⟩:=h.p;unfold shV;go_enter func168,ntmps168
 go_wp2
 go_ret
 exact⟨rfl,(aB _ _).alloc (aC _) _⟩
theorem Nx(A:Option Addr)(n c:Nat)(w:World):Calls prog 166 #[.slice A n c] w fun e w' => e= .returned (int i64 (n:Int))∧w=w':=by
 go_enter func166,ntmps166
 go_wp2_with fail
 go_ret
 exact⟨rfl,rfl⟩
theorem Ol(A:Option Addr)(n c:Nat)(w:World):Calls prog 167 #[.slice A n c] w fun e w' => e= .returned (int i64 (n:Int))∧w=w':=by
 go_enter func167,ntmps167
 go_wp2_with fail
 go_ret
 exact⟨rfl,rfl⟩
theorem Oj(A:Option Addr)(n c:Nat)(w:World):Calls prog 169 #[.slice A n c] w fun e w' => e= .returned (int i64 (n:Int))∧w=w':=by
 go_enter func169,ntmps169
 go_wp2_with fail
 go_ret
 exact⟨rfl,rfl⟩
theorem Rm(A:Option Addr)(n c:Nat)(w:World):Calls prog 174 #[.slice A n c] w fun e w' => e= .returned (int i64 (n:Int))∧w=w':=by
 go_enter func174,ntmps174
 go_wp2_with fail
 go_ret
 exact⟨rfl,rfl⟩
theorem PX(b:Bt)(cs:List Value)(f:List Addr)(w:World)(h:AE w f cs b) :
  Calls prog 172 #[.agg cs.toArray] w fun e w' => e= .returned (.bool (CH b))∧Below w.heap.size w w':=by
 obtain⟨v0,f0,rfl,-,-,h0⟩:=h;obtain⟨A0,c0,rfl,-⟩:=rSl.head h0;have HIN:=U (fun(W:World) => Bz b.stamp 0 1000000000 W);unfold CH;clear h0;obtain⟨n,hn⟩:∃n,b.bytes.length=n:=⟨_,rfl⟩;rw[hn];clear hn;cases hi:Ap b.stamp 0 1000000000 with
 |false =>
  rw[hi]at HIN;clear hi;go_enter func172,ntmps172
  go_wp2_with (go_at_call 100;refine(HIN.o _).mono ?_;rintro e w' ⟨rfl,rfl⟩)
  go_ret
  exact⟨rfl,(aB _ _).alloc (aC _) _⟩
 |true =>
  rw[hi]at HIN;clear hi;have e0:((n:Int) == 4)=decide (n=4):=by rw[Bool.eq_iff_iff];simp;omega
  go_enter func172,ntmps172
  go_wp2_with (go_at_call 100;refine(HIN.o _).mono ?_;rintro e w' ⟨rfl,rfl⟩)
  go_ret
  exact⟨by rw[Bool.true_and];rfl,(aB _ _).alloc (aC _) _⟩
theorem OO(b:Bt)(cs:List Value)(f:List Addr)(w:World)(h:AE w f cs b) :
  Calls prog 171 #[.agg cs.toArray] w fun e w' => e= .returned (.bool (!CH b))∧Below w.heap.size w w':=by
 have h2:=h;obtain⟨v0,f0,rfl,-,-,h0⟩:=h;obtain⟨A0,c0,rfl,-⟩:=rSl.head h0;have hb:Below w.heap.size w (w.alloc (.cells #[int i64 b.stamp,.slice A0 b.bytes.length c0] 196)):=(aB _ _).alloc (aC _) _;have HC:=U (PX b _ f _ (AB.below AE.local_ AE.fixed h2 hb));have HB:=U hb;clear h2 h0 hb;obtain⟨r,hr⟩:∃r,CH b=r:=⟨_,rfl⟩;rw[hr]at HC⊢;clear hr;go_enter func171,ntmps171
 go_wp2_with (go_at_call 172;refine HC.o.mono ?_;rintro e w' ⟨rfl,b1⟩)
 go_ret
 exact⟨rfl,HB.o.trans (b1.mono HB.o.size)⟩
