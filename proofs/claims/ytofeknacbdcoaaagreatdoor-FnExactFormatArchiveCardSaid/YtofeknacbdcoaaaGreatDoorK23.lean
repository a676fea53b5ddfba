/- Part 23 of the proof. -/
import Derived.Test.YtofeknacbdcoaaaGreatDoorK10
import Derived.Test.YtofeknacbdcoaaaGreatDoorK22
import Derived.Test.YtofeknacbdcoaaaGreatDoorK19
import Derived.Sort.AtCall
import Derived.Test.YtofeknacbdcoaaaGreatDoorK03
import Derived.Test.YtofeknacbdcoaaaGreatDoorK02
import Derived.BigRegion
set_option maxHeartbeats 8000000
set_option maxRecDepth 100000
set_option linter.unusedVariables false
set_option linter.unusedSimpArgs false
open Go.Proofs.Tryz
open Go.Value (int)
open Go.IntKind (i64)
namespace Go.Proofs.YtofeknacbdcoaaaGreatDoor
open Go.RowKit Go.Lib Go.Sort
theorem Ke(s:Sh)(ag:shB s=true)(x cs f w)(h:Af w f cs x)(n:Ap x.kind 1 4=false∨Ap x.seq 1 1000000000=false):
  Calls prog 77 #[shV s,.agg cs] w (zN (int i64 (AJ s x)) w):=by
 dsimp only[Af]at h;obtain⟨v0,v1,v2,f0,f1,f2,rfl,rfl,o0,o1,o2,o3,o4,o5,h0,z,h2⟩:=h;obtain⟨A0,c0,rfl,k0,m0⟩:=rSl.head h0;obtain⟨A1,c1,rfl,k1,m1⟩:=rSl.head z;obtain⟨A2,c2,rfl,k2,m2⟩:=rSl.head h2;obtain⟨H0,H1,H2⟩:=zI h0 z h2;obtain⟨nR,af⟩:∃nR,x.rows.length=nR:=zJ;obtain⟨nD,ad⟩:∃nD,x.data.length=nD:=zJ;obtain⟨nE,ae⟩:∃nE,x.delta.length=nE:=zJ;obtain⟨ax,av,aw⟩:=zI af ad ae;rw[af]at H0 k0⊢;rw[ad]at H1 k1⊢;rw[ae]at H2 k2⊢;have K1:=(Blk.new w 38 s).alloc (.cells (yZ x A0 nR c0 A1 nD c1 A2 nE c2) 105);have K2:=Blk.new1 w (.cells s 38) 105 (yZ x A0 nR c0 A1 nD c1 A2 nE c2);have hB:Below w w ((w.alloc (.cells s 38)).alloc (.cells (yZ x A0 nR c0 A1 nD c1 A2 nE c2) 105)):=((aC _ _).alloc (aD _) _).alloc zX _;have HB:=zq hB;have S2:=Cn.of K1;have R2:=DC.of K2;have HS:=zq S2;have ah:=zq R2;clear h0 z h2 af ad ae K1 K2 hB;have u:=zq (Cd s ((w.alloc (.cells s 38)).alloc (.cells (yZ x A0 nR c0 A1 nD c1 A2 nE c2) 105)));rw[CL ag]at u;have r:=zq (fun(W:World) => BD x.kind 1 4 W);have aa:=zq (fun(W:World) => BD x.seq 1 1000000000 W);unfold shV at u⊢;unfold AJ;cases z:Ap x.kind 1 4 with
 |false =>
  rw[z]at r;rw[aJ zW];clear n z ag;go_enter func77,ntmps77
  go_wp2_with (first
  |(refine aE rfl 38 _ rfl w 0 rfl _ _ HS.o.rng underlying38 rfl zY ?_)
  |(go_at_call 74;refine u.o.M ?_;rintro e w3 ⟨rfl,y⟩;have l:=HS.o.B y;have i:=ah.o.B y;have B3:=zq (HB.o.T (y.M HB.o.size));have ak:=i.c0;have al:=i.c1;have am:=i.c2;have an:=i.c4;have ao:=i.c5;have ap:=i.c7;have aq:=i.c8;have ai:=i.lt;have aj:=l.lt;have ar:=l.c0;have au:=l.c4;have ac:=zq l;have ab:=zq i;clear y l i)
  |(go_at_call_has 78 x.kind;refine(r.o _).M ?_;rintro e w' ⟨rfl,rfl⟩)
  |(go_at_call_has 78 x.seq;refine(aa.o _).M ?_;rintro e w' ⟨rfl,rfl⟩)
  |(refine aE rfl 38 _ rfl w 0 rfl _ _ ac.o.rng underlying38 rfl zY ?_)
  |(refine aE rfl 105 _ rfl (w.heap.size+1) 0 rfl _ _ ab.o.rng underlying105 rfl zY ?_))
  go_ret
  exact⟨rfl,B3.o⟩
 |true =>
  rw[z]at r;have h2:Ap x.seq 1 1000000000=false:=by
   rcases n with h|h
   ·rw[z]at h;cases h
   ·exact h
  rw[h2]at aa⊢;rw[aM rfl,aJ zW];clear n z h2 ag;go_enter func77,ntmps77
  go_wp2_with (first
  |(refine aE rfl 38 _ rfl w 0 rfl _ _ HS.o.rng underlying38 rfl zY ?_)
  |(go_at_call 74;refine u.o.M ?_;rintro e w3 ⟨rfl,y⟩;have l:=HS.o.B y;have i:=ah.o.B y;have B3:=zq (HB.o.T (y.M HB.o.size));have ak:=i.c0;have al:=i.c1;have am:=i.c2;have an:=i.c4;have ao:=i.c5;have ap:=i.c7;have aq:=i.c8;have ai:=i.lt;have aj:=l.lt;have ar:=l.c0;have au:=l.c4;have ac:=zq l;have ab:=zq i;clear y l i)
  |(go_at_call_has 78 x.kind;refine(r.o _).M ?_;rintro e w' ⟨rfl,rfl⟩)
  |(go_at_call_has 78 x.seq;refine(aa.o _).M ?_;rintro e w' ⟨rfl,rfl⟩)
  |(refine aE rfl 38 _ rfl w 0 rfl _ _ ac.o.rng underlying38 rfl zY ?_)
  |(refine aE rfl 105 _ rfl (w.heap.size+1) 0 rfl _ _ ab.o.rng underlying105 rfl zY ?_))
  go_ret
  exact⟨rfl,B3.o⟩
theorem Sm(s:Sh)(an:shB s=true)(x cs f w)(h:Af w f cs x)(hk:x.kind=1)(hq:Ap x.seq 1 1000000000=true):
  Calls prog 77 #[shV s,.agg cs] w fun e w' => e= .returned (int i64 (if CJ x.name.data.toList=true then(if Cv s x=true then(if BY ⟨#[]⟩ 0 x.group x.row 0 0 x.delta.length=true then 0 else 1)else 3)else 5))/\Below w w w':=by
 have af:=h;dsimp only[Af]at h;obtain⟨v0,v1,v2,f0,f1,f2,rfl,rfl,o0,o1,o2,o3,o4,o5,h0,h1,h2⟩:=h;obtain⟨A0,c0,rfl,k0,m0⟩:=rSl.head h0;obtain⟨A1,c1,rfl,k1,m1⟩:=rSl.head h1;obtain⟨z,c2,rfl,k2,m2⟩:=rSl.head h2;obtain⟨H0,H1,H2⟩:=zI h0 h1 h2;obtain⟨nR,am⟩:∃nR,x.rows.length=nR:=zJ;obtain⟨nD,ak⟩:∃nD,x.data.length=nD:=zJ;obtain⟨u,al⟩:∃u,x.delta.length=u:=zJ;obtain⟨a7,a5,a6⟩:=zI am ak al;rw[am]at H0 k0⊢;rw[ak]at H1 k1⊢;rw[al]at H2 k2⊢;have K1:=(Blk.new w 38 s).alloc (.cells (yZ x A0 nR c0 A1 nD c1 z u c2) 105);have K2:=Blk.new1 w (.cells s 38) 105 (yZ x A0 nR c0 A1 nD c1 z u c2);have hB:Below w w ((w.alloc (.cells s 38)).alloc (.cells (yZ x A0 nR c0 A1 nD c1 z u c2) 105)):=((aC _ _).alloc (aD _) _).alloc zX _;have HB:=zq hB;have S2:=Cn.of K1;have R2:=DC.of K2;have HS:=zq S2;have ba:=zq R2;clear h0 h1 h2 am ak al K1 K2 hB;rw[a7.o,a5.o,a6.o]at af;obtain⟨az,av,ag⟩:=zI af (De an) (Cd s ((w.alloc (.cells s 38)).alloc (.cells (yZ x A0 nR c0 A1 nD c1 z u c2) 105)));rw[CL an]at ag;have ar:=zq (fun(W:World) => BD x.kind 1 4 W);have au:=zq (fun(W:World) => BD x.seq 1 1000000000 W);rw[show Ap x.kind 1 4=true by rw[hk];rfl]at ar;rw[hq]at au;obtain⟨r,hr⟩:∃r:Int,(if CJ x.name.data.toList=true then(if Cv s x=true then(if BY ⟨#[]⟩ 0 x.group x.row 0 0 u=true then 0 else 1)else 3)else 5)=r:=zJ;rw[hr];have ac:=zq hr;clear hr;unfold shV at ag⊢;have k1:(x.kind == 1)=true:=ED hk;clear an hk hq;go_enter func77,ntmps77
 go_wp2_with (first|(refine aE rfl 38 _ rfl w 0 rfl _ _ HS.o.rng underlying38 rfl zY ?_))
 refine ag.o.M ?_;rintro e i ⟨rfl,b3⟩;have S3:=HS.o.B b3;have R3:=ba.o.B b3;have B3:=zq (HB.o.T (b3.M HB.o.size));have br:=R3.c0;have bs:=R3.c1;have bt:=R3.c2;have bu:=R3.c4;have bv:=R3.c5;have bw:=R3.c7;have bx:=R3.c8;have bj:=R3.lt;have bn:=S3.lt;have cp:=S3.c0;have cq:=S3.c4;have bc:=zq S3;have aw:=zq R3;clear b3 S3 R3;obtain⟨n,y⟩:∃n:List Value,[int i64 x.kind,x.seq,.string x.name,int i64 x.length,x.group,x.row,.slice A0 nR c0,.slice A1 nD c1,.slice z u c2] =n:=zJ;obtain⟨bb,aq,a3,a8⟩:=zH (show i.rangeAt (w.heap.size+1) 0 n by rw[<-y];exact aw.o.rng) (show(prog.info? 105).map (·.size)=some n.length by rw[<-y];kernel_rfl) (show(prog.info? 105).map (·.size)=some n.toArray.size by rw[<-y];kernel_rfl) (show n.toArray.all (·.oneCell')=true from(by rw[<-y];exact all_oneCell_toArray (Af.ones _ _ _ _ af)));obtain⟨Z,hZ⟩:∃Z:Array Value,#[int i64 0,(),.string ⟨#[]⟩,(),(),(),zQ,zQ,zQ] =Z:=zJ;have aj:Z.size=9:=(by rw[<-hZ];rfl);have ai:n.length=9:=(by rw[<-y];rfl);have KZ:=Blk.new i 105 Z;have be:=zq (Blk.there KZ n.toArray.size (by rw[bD,ai,aj];exact aD _));obtain⟨W4,ad⟩:∃W4,(i.alloc (.cells Z 105)).setCells i 0 n.toArray.toList=W4:=zJ;have K4:=zq (show Blk W4 i 105 n.toArray by rw[<-ad];exact Blk.laid KZ _ (by rw[aj];exact ai.symm));have b4:=(show Below i i W4 by rw[<-ad];exact AS (Ac (aC _ _) _) _ 0 (aD _));obtain⟨bf,ab,ao⟩:=zI ad y b4;have bi:=B3.o.size;clear ad KZ aj ai;have S4:=bc.o.B b4;have R4:=aw.o.B b4;have B4:=zq (B3.o.T (b4.M B3.o.size));have bz:=R4.c0;have b0:=R4.c1;have b1:=R4.c2;have b2:=R4.c4;have b8:=R4.c5;have b9:=R4.c7;have ca:=R4.c8;have bk:=R4.lt;have bo:=S4.lt;have cr:=S4.c0;have ct:=S4.c4;have bd:=zq S4;have a9:=zq R4;clear b4 S4 R4;clear af;go_wp2_with (first
  |(go_at_call_has 78 x.kind;refine(ar.o _).M ?_;rintro e w' ⟨rfl,rfl⟩)
  |(go_at_call_has 78 x.seq;refine(au.o _).M ?_;rintro e w' ⟨rfl,rfl⟩)
  |(refine aE rfl 105 _ rfl (w.heap.size+1) 0 rfl n _ bb.o underlying105 rfl aq.o ?_)
  |(refine aV rfl 105 (.tmp 6) (.tmp 21) rfl i 0 n.toArray rfl rfl be.o a3.o a8.o ?_;rw[bf.o]))
 refine(Ir x.name W4 o2).M ?_;rintro e w5 ⟨rfl,b5⟩;have K5:=zq (K4.o.B b5 K4.o.lt);have ap:=zq (ao.o.T (b5.M ao.o.size));have S5:=bd.o.B b5;have R5:=a9.o.B b5;have B5:=zq (B4.o.T (b5.M B4.o.size));have cb:=R5.c0;have cc:=R5.c1;have cd:=R5.c2;have ce:=R5.c4;have cf:=R5.c5;have cg:=R5.c7;have ch:=R5.c8;have bl:=R5.lt;have bp:=S5.lt;have cu:=S5.c0;have cv:=S5.c4;have a1:=zq S5;have ax:=zq R5;clear b5 S5 R5;have ay:=zq (show w5.rangeAt (w.heap.size+1) 0 n by rw[<-ab.o];exact ax.o.rng);by_cases q:CJ x.name.data.toList=true
 case neg =>
  have e1:r=5:=by rw[<-ac.o,aJ q]
  subst e1;rw[show Bu x.name.data.toList=5 by unfold Bu;rw[aJ q]];clear q;go_wp2
  go_ret
  exact⟨rfl,B5.o⟩
 have HQ:=zq q;rw[show Bu x.name.data.toList=0 by unfold Bu;rw[aM q]];clear q;have ae:=l5Item_c s av.o x _ _ w5 (AC.B Af.L Af.X az.o B5.o);rw[ab.o]at ae;unfold shV at ae;have a4:=zq ae;clear ae;go_wp2_with (first
  |(refine aE rfl 38 _ rfl w 0 rfl _ _ a1.o.rng underlying38 rfl zY ?_)
  |(refine aE rfl 105 _ rfl (w.heap.size+1) 0 rfl n _ ay.o underlying105 rfl aq.o ?_))
 refine a4.o.M ?_;rintro e w6 ⟨rfl,b6⟩;have K6:=K5.o.B b6 K5.o.lt;have a2:=zq (ap.o.T (b6.M ap.o.size));have S6:=a1.o.B b6;have R6:=ax.o.B b6;have B6:=zq (B5.o.T (b6.M B5.o.size));have ci:=R6.c0;have cj:=R6.c1;have ck:=R6.c2;have cl:=R6.c4;have cm:=R6.c5;have cn:=R6.c7;have co:=R6.c8;have bm:=R6.lt;have bq:=S6.lt;have cw:=S6.c0;have cx:=S6.c4;have bh:=zq S6;have bg:=zq R6;clear b6 S6 R6;cases hib:Cv s x with
 |false =>
  have e1:r=3:=by rw[<-ac.o,aM HQ.o,hib];rfl
  subst e1;clear hib;go_wp2
  go_ret
  exact⟨rfl,B6.o⟩
 |true =>
  have KZ:=(((K6.set_ 2 (.string ⟨#[]⟩)).set_ 3 (int i64 0)).set_ 6 (.slice none 0 0)).set_ 7 (.slice none 0 0);rw[<-ab.o]at KZ;have a0:=zq (show((((w6.setCell (zO i 2) (.string ⟨#[]⟩)).setCell (zO i 3) (int i64 0)).setCell (zO i 6) (.slice none 0 0)).setCell (zO i 7) (.slice none 0 0)).rangeAt i 0 [x.kind,x.seq,.string ⟨#[]⟩,(),x.group,x.row,zQ,zQ,.slice z u c2]from Blk.rangeAll (cs:=[x.kind,x.seq,.string ⟨#[]⟩,(),x.group,x.row,zQ,zQ,.slice z u c2]) KZ);have ah:Below i i ((((w6.setCell (zO i 2) (.string ⟨#[]⟩)).setCell (zO i 3) (int i64 0)).setCell (zO i 6) (.slice none 0 0)).setCell (zO i 7) (.slice none 0 0)):=(((a2.o.setCell (aD _) _).setCell (aD _) _).setCell (aD _) _).setCell (aD _) _;have aa:=zq (B3.o.T (ah.M B3.o.size));have l:=K6;rw[<-ab.o]at l;have z2:w6.cell? ⟨i.heap.size,2,none⟩=some (.string x.name):=(l.cell 2).T rfl;have z3:w6.cell? ⟨i.heap.size,3,none⟩=some (int i64 x.length):=(l.cell 3).T rfl;have z6:w6.cell? ⟨i.heap.size,6,none⟩=some (.slice A0 nR c0):=(l.cell 6).T rfl;have z7:w6.cell? ⟨i.heap.size,7,none⟩=some (.slice A1 nD c1):=(l.cell 7).T rfl;have y2:=l.frozen 2;have y3:=l.frozen 3;have y6:=l.frozen 6;have y7:=l.frozen 7;have HE:=zq (fun(W:World) => In x.kind x.seq ⟨#[]⟩ 0 x.group x.row none none z 0 0 u 0 0 c2 W);cases hev:BY ⟨#[]⟩ 0 x.group x.row 0 0 u with
  |true =>
   rw[hev]at HE;have e1:r=0:=by rw[<-ac.o,aM HQ.o,hib,hev];rfl
   subst e1;clear K6 l KZ ah hev hib;go_wp2_with (first
    |(refine aE rfl 105 _ rfl i 0 rfl [x.kind,x.seq,.string ⟨#[]⟩,(),x.group,x.row,zQ,zQ,.slice z u c2] _ ?_ underlying105 rfl zY ?_;(focus (exact a0.o)))
    |(go_at_call 129;refine(HE.o _).M ?_;rintro e w7 ⟨rfl,b7⟩;have B7:=zq b7;clear b7))
   go_ret
   exact⟨rfl,aa.o.T (B7.o.M aa.o.size)⟩
  |false =>
   rw[hev]at HE;have e1:r=1:=by rw[<-ac.o,aM HQ.o,hib,hev];rfl
   subst e1;clear K6 l KZ ah hev hib;go_wp2_with (first
    |(refine aE rfl 105 _ rfl i 0 rfl [x.kind,x.seq,.string ⟨#[]⟩,(),x.group,x.row,zQ,zQ,.slice z u c2] _ ?_ underlying105 rfl zY ?_;(focus (exact a0.o)))
    |(go_at_call 129;refine(HE.o _).M ?_;rintro e w7 ⟨rfl,b7⟩;have B7:=zq b7;clear b7))
   go_ret
   exact⟨rfl,aa.o.T (B7.o.M aa.o.size)⟩
theorem Nq(s:Sh)(x:Aj)(P:Prop)(h1:Ap x.group 0 (s.g - 1)=false->Ee s x=false->P)(c:Ap x.group 0 (s.g - 1)=true->Ap x.row 0 (s.rows - 1)=false->Ee s x=false->P)(f:Ap x.group 0 (s.g - 1)=true->Ap x.row 0 (s.rows - 1)=true->¬(x.data.length:Int)=s.data * 4->Ee s x=false->P)(h4:Ap x.group 0 (s.g - 1)=true->Ap x.row 0 (s.rows - 1)=true->(x.data.length:Int)=s.data * 4->¬(x.delta.length:Int)=s.data * 4->Ee s x=false->P)(h:Ap x.group 0 (s.g - 1)=true->Ap x.row 0 (s.rows - 1)=true->(x.data.length:Int)=s.data * 4->(x.delta.length:Int)=s.data * 4->Ee s x=true->P):P:=by
 unfold Ee at h1 c f h4 h;rw[Int.mul_comm 4 s.data]at h1 c f h4 h;by_cases g:Ap x.group 0 (s.g - 1)=true
 ·by_cases r:Ap x.row 0 (s.rows - 1)=true
  ·by_cases d:(x.data.length:Int)=s.data * 4
   ·by_cases e:(x.delta.length:Int)=s.data * 4
    ·exact h g r d e (by rw[g,r,aN d,aN e];rfl)
    ·exact h4 g r d e (by rw[g,r,aN d,aG e];rfl)
   ·exact f g r d (by rw[g,r,aG d];rfl)
  ·have l:Ap x.row 0 (s.rows - 1)=false:=by simpa using r
   exact c g l (by rw[g,l];rfl)
 ·have i:Ap x.group 0 (s.g - 1)=false:=by simpa using g
  exact h1 i (by rw[i];rfl)
theorem EE {a b:Int}(h:¬a=b):(a != b)=true:=by simpa using h
theorem Db {a b:Int}(h:a=b):(a != b)=false:=by simpa using h
theorem Sn(s:Sh)(aq:shB s=true)(x cs f w)(h:Af w f cs x)(hk:x.kind=2)(hq:Ap x.seq 1 1000000000=true):
  Calls prog 77 #[shV s,.agg cs] w fun e w' => e= .returned (int i64 (if Ee s x=true then(if BY x.name x.length 0 0 x.rows.length 0 0=true then 0 else 1)else 3))/\Below w w w':=by
 have ap:=h;dsimp only[Af]at h;obtain⟨v0,v1,v2,f0,f1,f2,rfl,rfl,o0,o1,o2,o3,o4,o5,h0,h1,h2⟩:=h;obtain⟨A0,c0,rfl,k0,m0⟩:=rSl.head h0;obtain⟨A1,c1,rfl,k1,m1⟩:=rSl.head h1;obtain⟨A2,c2,rfl,k2,m2⟩:=rSl.head h2;obtain⟨H0,H1,H2⟩:=zI h0 h1 h2;obtain⟨nR,ao⟩:∃nR,x.rows.length=nR:=zJ;obtain⟨nD,am⟩:∃nD,x.data.length=nD:=zJ;obtain⟨nE,an⟩:∃nE,x.delta.length=nE:=zJ;obtain⟨a8,ax,ay⟩:=zI ao am an;rw[ao]at H0 k0⊢;rw[am]at H1 k1⊢;rw[an]at H2 k2⊢;have K1:=(Blk.new w 38 s).alloc (.cells (yZ x A0 nR c0 A1 nD c1 A2 nE c2) 105);have K2:=Blk.new1 w (.cells s 38) 105 (yZ x A0 nR c0 A1 nD c1 A2 nE c2);have hB:Below w w ((w.alloc (.cells s 38)).alloc (.cells (yZ x A0 nR c0 A1 nD c1 A2 nE c2) 105)):=((aC _ _).alloc (aD _) _).alloc zX _;have HB:=zq hB;have S2:=Cn.of K1;have R2:=DC.of K2;have HS:=zq S2;have ba:=zq R2;clear h0 h1 h2 ao am an K1 K2 hB;rw[a8.o,ax.o,ay.o]at ap;have hs:=De aq;obtain⟨d1,d2⟩:=hs.rows;obtain⟨d3,d4⟩:=hs.g;have ah:=zq (Cd s ((w.alloc (.cells s 38)).alloc (.cells (yZ x A0 nR c0 A1 nD c1 A2 nE c2) 105)));rw[CL aq]at ah;have au:=zq (fun(W:World) => BD x.kind 1 4 W);have av:=zq (fun(W:World) => BD x.seq 1 1000000000 W);rw[show Ap x.kind 1 4=true by rw[hk];rfl]at au;rw[hq]at av;have ai:=zq (fun(W:World) => Jn s hs W);obtain⟨r,hr⟩:∃r:Int,(if Ee s x=true then(if BY x.name x.length 0 0 nR 0 0=true then 0 else 1)else 3)=r:=zJ;rw[hr];have ab:=zq hr;have ag:=zq (Nq s x);rw[ax.o,ay.o]at ag;obtain⟨wd,a1⟩:∃wd,s.data * 4=wd:=zJ;rw[a1]at ai ag;have ew:IntKind.i64.wrap (s.g - 1)=s.g - 1:=IntWalk.i64_in _ zZ;have bf:IntKind.i64.wrap (s.rows - 1)=s.rows - 1:=IntWalk.i64_in _ zZ;have a6:=zq (fun(W:World) => BD x.group 0 (s.g - 1) W);have a7:=zq (fun(W:World) => BD x.row 0 (s.rows - 1) W);unfold shV at ah ai⊢;have k1:(x.kind == 1)=false:=by rw[hk];rfl
 have k2:(x.kind == 2)=true:=ED hk;clear aq hk hq hr a1 hs d1 d2 d3 d4;go_enter func77,ntmps77
 go_wp2_with (first|(refine aE rfl 38 _ rfl w 0 rfl _ _ HS.o.rng underlying38 rfl zY ?_))
 refine ah.o.M ?_;rintro e n ⟨rfl,b3⟩;have S3:=HS.o.B b3;have R3:=ba.o.B b3;have B3:=zq (HB.o.T (b3.M HB.o.size));have bl:=R3.c0;have bm:=R3.c1;have bn:=R3.c2;have bo:=R3.c4;have bp:=R3.c5;have bq:=R3.c7;have br:=R3.c8;have bh:=R3.lt;have bj:=S3.lt;have b0:=S3.c0;have b1:=S3.c4;have bc:=zq S3;have az:=zq R3;clear b3 S3 R3;obtain⟨CS,ac⟩:∃CS:List Value,[int i64 x.kind,x.seq,.string x.name,int i64 x.length,x.group,x.row,.slice A0 nR c0,.slice A1 nD c1,.slice A2 nE c2] =CS:=zJ;obtain⟨bb,a4,a5,a9⟩:=zH (show n.rangeAt (w.heap.size+1) 0 CS by rw[<-ac];exact az.o.rng) (show(prog.info? 105).map (·.size)=some CS.length by rw[<-ac];kernel_rfl) (show(prog.info? 105).map (·.size)=some CS.toArray.size by rw[<-ac];kernel_rfl) (show CS.toArray.all (·.oneCell')=true from(by rw[<-ac];exact all_oneCell_toArray (Af.ones _ _ _ _ ap)));obtain⟨Z,hZ⟩:∃Z:Array Value,#[int i64 0,(),.string ⟨#[]⟩,(),(),(),zQ,zQ,zQ] =Z:=zJ;have al:Z.size=9:=(by rw[<-hZ];rfl);have ak:CS.length=9:=(by rw[<-ac];rfl);have KZ:=Blk.new n 105 Z;have bd:=zq (Blk.there KZ CS.toArray.size (by rw[bD,ak,al];exact aD _));obtain⟨W4,af⟩:∃W4,(n.alloc (.cells Z 105)).setCells n 0 CS.toArray.toList=W4:=zJ;have K4:=zq (show Blk W4 n 105 CS.toArray by rw[<-af];exact Blk.laid KZ _ (by rw[al];exact ak.symm));have b4:=(show Below n n W4 by rw[<-af];exact AS (Ac (aC _ _) _) _ 0 (aD _));obtain⟨be,a3,ar⟩:=zI af ac b4;have bg:=B3.o.size;clear af KZ al ak;have S4:=bc.o.B b4;have R4:=az.o.B b4;have B4:=zq (B3.o.T (b4.M B3.o.size));have bs:=R4.c0;have bt:=R4.c1;have bu:=R4.c2;have bv:=R4.c4;have bw:=R4.c5;have bx:=R4.c7;have bz:=R4.c8;have bi:=R4.lt;have bk:=S4.lt;have b6:=S4.c0;have b8:=S4.c4;have z:=zq S4;have ae:=zq R4;clear b4 S4 R4;clear ap;have u0:=aB z.o.c0;have u1:=aB z.o.c1;have u2:=aB z.o.c2;have u3:=aB z.o.c3;have u4:=aB z.o.c4;have u5:=aB z.o.c5;have u6:=aB z.o.c6;have u7:=aB z.o.c7;have u8:=aB z.o.c8;have t4:=aB ae.o.c4;have t5:=aB ae.o.c5;have t7:=aB ae.o.c7;have t8:=aB ae.o.c8;go_wp2_with (first
  |(go_at_call_has 78 x.kind;refine(au.o _).M ?_;rintro e w' ⟨rfl,rfl⟩)
  |(go_at_call_has 78 x.seq;refine(av.o _).M ?_;rintro e w' ⟨rfl,rfl⟩)
  |(refine aE rfl 105 _ rfl (w.heap.size+1) 0 rfl CS _ bb.o underlying105 rfl a4.o ?_)
  |(refine aV rfl 105 (.tmp 6) (.tmp 21) rfl n 0 CS.toArray rfl rfl bd.o a5.o a9.o ?_;rw[be.o]))
 obtain⟨QW,u,y⟩:=zI (AR (w:=W4) (fun W _ => ai.o W)) (Bv (w:=W4) a6.o) (Bv (w:=W4) a7.o);refine ag.o _ ?_ ?_ ?_ ?_ ?_
 ·intro g i;have e1:r=3:=by rw[<-ab.o,i];rfl
  subst e1;rw[g]at u;clear g i
  (refine aF zY zY ?_;(repeat go_big_quiet_step (first|(go_at_call_has 78 x.group;exact u.o _ _)|(go_at_call_has 78 x.row;exact y.o _ _)|(go_at_call 126;exact QW.o _ _)));refine aQ ?_)
  rintro _ ⟨⟨dq,osq⟩,rfl⟩;have aa:=zq (B4.o.T ((aI W4 dq osq).M B4.o.size));go_wp2
  go_ret
  exact⟨rfl,aa.o⟩
 ·intro g r2 i;have e1:r=3:=by rw[<-ab.o,i];rfl
  subst e1;rw[g]at u;rw[r2]at y;clear g r2 i
  (refine aF zY zY ?_;(repeat go_big_quiet_step (first|(go_at_call_has 78 x.group;exact u.o _ _)|(go_at_call_has 78 x.row;exact y.o _ _)|(go_at_call 126;exact QW.o _ _)));refine aQ ?_)
  rintro _ ⟨⟨dq,osq⟩,rfl⟩;have aa:=zq (B4.o.T ((aI W4 dq osq).M B4.o.size));go_wp2
  go_ret
  exact⟨rfl,aa.o⟩
 ·intro g r2 d i;have e1:r=3:=by rw[<-ab.o,i];rfl
  subst e1;rw[g]at u;rw[r2]at y;have d':=EE d;clear g r2 d i
  (refine aF zY zY ?_;(repeat go_big_quiet_step (first|(go_at_call_has 78 x.group;exact u.o _ _)|(go_at_call_has 78 x.row;exact y.o _ _)|(go_at_call 126;exact QW.o _ _)));refine aQ ?_)
  rintro _ ⟨⟨dq,osq⟩,rfl⟩;have aa:=zq (B4.o.T ((aI W4 dq osq).M B4.o.size));go_wp2
  go_ret
  exact⟨rfl,aa.o⟩
 ·intro g r2 d e2 i;have e1:r=3:=by rw[<-ab.o,i];rfl
  subst e1;rw[g]at u;rw[r2]at y;have d':=Db d;have e':=EE e2;clear g r2 d e2 i
  (refine aF zY zY ?_;(repeat go_big_quiet_step (first|(go_at_call_has 78 x.group;exact u.o _ _)|(go_at_call_has 78 x.row;exact y.o _ _)|(go_at_call 126;exact QW.o _ _)));refine aQ ?_)
  rintro _ ⟨⟨dq,osq⟩,rfl⟩;have aa:=zq (B4.o.T ((aI W4 dq osq).M B4.o.size));go_wp2
  go_ret
  exact⟨rfl,aa.o⟩
 ·intro g r2 d e2 i;rw[g]at u;rw[r2]at y;have d':=Db d;have e':=Db e2;have aw:=zq i;clear g r2 d e2 i
  (refine aF zY zY ?_;(repeat go_big_quiet_step (first|(go_at_call_has 78 x.group;exact u.o _ _)|(go_at_call_has 78 x.row;exact y.o _ _)|(go_at_call 126;exact QW.o _ _)));refine aQ ?_)
  rintro _ ⟨⟨dq,osq⟩,rfl⟩;have b5:=aI W4 dq osq;generalize grow (redrawn W4 dq) osq=w5 at b5;have l:=K4.o.B b5 K4.o.lt;rw[<-a3.o]at l;have a2:=zq (ar.o.T (b5.M ar.o.size));clear u0 u1 u2 u3 u4 u5 u6 u7 u8 t4 t5 t7 t8 u y QW b5;have KZ:=(((l.set_ 4 (int i64 0)).set_ 5 (int i64 0)).set_ 7 (.slice none 0 0)).set_ 8 (.slice none 0 0);have a0:=zq (show((((w5.setCell (zO n 4) (int i64 0)).setCell (zO n 5) (int i64 0)).setCell (zO n 7) (.slice none 0 0)).setCell (zO n 8) (.slice none 0 0)).rangeAt n 0 [x.kind,x.seq,.string x.name,int i64 x.length,(),(),.slice A0 nR c0,zQ,zQ]from Blk.rangeAll (cs:=[x.kind,x.seq,.string x.name,int i64 x.length,(),(),.slice A0 nR c0,zQ,zQ]) KZ);have aj:Below n n ((((w5.setCell (zO n 4) (int i64 0)).setCell (zO n 5) (int i64 0)).setCell (zO n 7) (.slice none 0 0)).setCell (zO n 8) (.slice none 0 0)):=(((a2.o.setCell (aD _) _).setCell (aD _) _).setCell (aD _) _).setCell (aD _) _;have ad:=zq (B3.o.T (aj.M B3.o.size));have z4:w5.cell? ⟨n.heap.size,4,none⟩=some (int i64 x.group):=(l.cell 4).T rfl;have z5:w5.cell? ⟨n.heap.size,5,none⟩=some (int i64 x.row):=(l.cell 5).T rfl;have z7:w5.cell? ⟨n.heap.size,7,none⟩=some (.slice A1 nD c1):=(l.cell 7).T rfl;have z8:w5.cell? ⟨n.heap.size,8,none⟩=some (.slice A2 nE c2):=(l.cell 8).T rfl;have b2:=l.frozen 4;have b9:=l.frozen 5;have ca:=l.frozen 7;have cb:=l.frozen 8;have lz:=l.lt;have HE:=zq (fun(W:World) => In x.kind x.seq x.name x.length 0 0 A0 none none nR 0 0 c0 0 0 W);cases hev:BY x.name x.length 0 0 nR 0 0 with
  |true =>
   rw[hev]at HE;have e1:r=0:=by rw[<-ab.o,aw.o,hev];rfl
   subst e1;clear l KZ aj hev;go_wp2_with (first
    |(refine aE rfl 105 _ rfl n 0 rfl [x.kind,x.seq,.string x.name,int i64 x.length,(),(),.slice A0 nR c0,zQ,zQ] _ ?_ underlying105 rfl zY ?_;(focus (exact a0.o)))
    |(go_at_call 129;refine(HE.o _).M ?_;rintro e w7 ⟨rfl,b7⟩;have B7:=zq b7;clear b7))
   go_ret
   exact⟨rfl,ad.o.T (B7.o.M ad.o.size)⟩
  |false =>
   rw[hev]at HE;have e1:r=1:=by rw[<-ab.o,aw.o,hev];rfl
   subst e1;clear l KZ aj hev;go_wp2_with (first
    |(refine aE rfl 105 _ rfl n 0 rfl [x.kind,x.seq,.string x.name,int i64 x.length,(),(),.slice A0 nR c0,zQ,zQ] _ ?_ underlying105 rfl zY ?_;(focus (exact a0.o)))
    |(go_at_call 129;refine(HE.o _).M ?_;rintro e w7 ⟨rfl,b7⟩;have B7:=zq b7;clear b7))
   go_ret
   exact⟨rfl,ad.o.T (B7.o.M ad.o.size)⟩
theorem bare1_c(x:Aj)(c f r i h s c0 c1 c2)(w:World)(y:x.kind=1):
  Calls prog 207 #[.agg (yZ x c i c0 f h c1 r s c2)] w (zN (.agg #[x.kind,x.seq,.string x.name,int i64 x.length,(),(),.slice c i c0,.slice f h c1,zQ]) w):=by
 have k1:(x.kind == 1)=true:=by rw[y];rfl
 have k2:(x.kind == 2)=false:=by rw[y];rfl
 have k3:(x.kind == 3)=false:=by rw[y];rfl
 have k4:(x.kind == 4)=false:=by rw[y];rfl
 clear y;obtain⟨HB,u,z,q⟩:=zH (show Below w w (((w.alloc (.cells (yZ x c i c0 f h c1 r s c2) 105)).alloc (.cells yY 105)).alloc (.cells #[x.kind,x.seq,.string ⟨#[]⟩,(),(),(),zQ,zQ,zQ] 105))from(((aC _ _).alloc (aD _) _).alloc zX _).alloc zV _) (show Blk (((w.alloc (.cells (yZ x c i c0 f h c1 r s c2) 105)).alloc (.cells yY 105)).alloc (.cells #[x.kind,x.seq,.string ⟨#[]⟩,(),(),(),zQ,zQ,zQ] 105)) w 105 (yZ x c i c0 f h c1 r s c2)from((Blk.new _ _ _).alloc _).alloc _) (show Blk (((w.alloc (.cells (yZ x c i c0 f h c1 r s c2) 105)).alloc (.cells yY 105)).alloc (.cells #[x.kind,x.seq,.string ⟨#[]⟩,(),(),(),zQ,zQ,zQ] 105)) (w.heap.size+1) 105 yY from(Blk.new1 w (.cells (yZ x c i c0 f h c1 r s c2) 105) 105 yY).alloc (.cells #[x.kind,x.seq,.string ⟨#[]⟩,(),(),(),zQ,zQ,zQ] 105)) (show Blk (((w.alloc (.cells (yZ x c i c0 f h c1 r s c2) 105)).alloc (.cells yY 105)).alloc (.cells #[x.kind,x.seq,.string ⟨#[]⟩,(),(),(),zQ,zQ,zQ] 105)) (w.heap.size+1+1) 105 #[x.kind,x.seq,.string ⟨#[]⟩,(),(),(),zQ,zQ,zQ]from Blk.new2 w (.cells (yZ x c i c0 f h c1 r s c2) 105) (.cells yY 105) 105 #[x.kind,x.seq,.string ⟨#[]⟩,(),(),(),zQ,zQ,zQ]);go_enter func207,ntmps207
 go_wp2_with fail
 generalize(((w.alloc (.cells (yZ x c i c0 f h c1 r s c2) 105)).alloc (.cells yY 105)).alloc (.cells #[x.kind,x.seq,.string ⟨#[]⟩,(),(),(),zQ,zQ,zQ] 105))=l at HB u z q⊢;have p2:l.cell? ⟨w.heap.size,2,none⟩=some (.string x.name):=(Blk.cell u.o 2).T rfl;have s2:l.cell? ⟨w.heap.size+1+1,2,none⟩=some (.string ⟨#[]⟩):=(Blk.cell q.o 2).T rfl;have t2:=Blk.frozen q.o 2;have p3:l.cell? ⟨w.heap.size,3,none⟩=some (int i64 x.length):=(Blk.cell u.o 3).T rfl;have s3:l.cell? ⟨w.heap.size+1+1,3,none⟩=some (int i64 0):=(Blk.cell q.o 3).T rfl;have t3:=Blk.frozen q.o 3;have p7:l.cell? ⟨w.heap.size,7,none⟩=some (.slice f h c1):=(Blk.cell u.o 7).T rfl;have s7:l.cell? ⟨w.heap.size+1+1,7,none⟩=some (.slice none 0 0):=(Blk.cell q.o 7).T rfl;have t7:=Blk.frozen q.o 7;have p6:l.cell? ⟨w.heap.size,6,none⟩=some (.slice c i c0):=(Blk.cell u.o 6).T rfl;have s6:l.cell? ⟨w.heap.size+1+1,6,none⟩=some (.slice none 0 0):=(Blk.cell q.o 6).T rfl;have t6:=Blk.frozen q.o 6;have z1:w.heap.size<l.heap.size:=u.o.lt;have z2:w.heap.size+1<l.heap.size:=z.o.lt;have z3:w.heap.size+1+1<l.heap.size:=q.o.lt;go_region
 obtain⟨L2,L3,n⟩:=zI (show Blk ((((l.setCell (zO (w.heap.size+1+1) 2) (.string x.name)).setCell (zO (w.heap.size+1+1) 3) (int i64 x.length)).setCell (zO (w.heap.size+1+1) 7) (.slice f h c1)).setCell (zO (w.heap.size+1+1) 6) (.slice c i c0)) (w.heap.size+1) 105 yY from(Blk.far (p:=⟨w.heap.size+1+1,6,none⟩) (Blk.far (p:=⟨w.heap.size+1+1,7,none⟩) (Blk.far (p:=⟨w.heap.size+1+1,3,none⟩) (Blk.far (p:=⟨w.heap.size+1+1,2,none⟩) z.o zX (.string x.name)) zX (int i64 x.length)) zX (.slice f h c1)) zX (.slice c i c0))) (show Blk ((((l.setCell (zO (w.heap.size+1+1) 2) (.string x.name)).setCell (zO (w.heap.size+1+1) 3) (int i64 x.length)).setCell (zO (w.heap.size+1+1) 7) (.slice f h c1)).setCell (zO (w.heap.size+1+1) 6) (.slice c i c0)) (w.heap.size+1+1) 105 #[x.kind,x.seq,.string x.name,int i64 x.length,(),(),.slice c i c0,.slice f h c1,zQ]from(Blk.set_ (Blk.set_ (Blk.set_ (Blk.set_ q.o _ _) _ _) _ _) _ _)) (show Below w w ((((l.setCell (zO (w.heap.size+1+1) 2) (.string x.name)).setCell (zO (w.heap.size+1+1) 3) (int i64 x.length)).setCell (zO (w.heap.size+1+1) 7) (.slice f h c1)).setCell (zO (w.heap.size+1+1) 6) (.slice c i c0))from((((HB.o.setCell (show w.heap.size<=w.heap.size+1+1 by omega) _).setCell (show w.heap.size<=w.heap.size+1+1 by omega) _).setCell (show w.heap.size<=w.heap.size+1+1 by omega) _).setCell (show w.heap.size<=w.heap.size+1+1 by omega) _));generalize((((l.setCell (zO (w.heap.size+1+1) 2) (.string x.name)).setCell (zO (w.heap.size+1+1) 3) (int i64 x.length)).setCell (zO (w.heap.size+1+1) 7) (.slice f h c1)).setCell (zO (w.heap.size+1+1) 6) (.slice c i c0))=w5 at L2 L3 n⊢;have ab:=zq (Blk.there L2.o 9 zX);have aa:=zq (Blk.range L3.o 0 [x.kind,x.seq,.string x.name,int i64 x.length,(),(),.slice c i c0,.slice f h c1,zQ] rfl);clear p2 s2 t2 p3 s3 t3 p7 s7 t7 p6 s6 t6 z1 z2 z3 u z q HB;go_wp2_with (first
  |(refine aE rfl 105 _ rfl (w.heap.size+1+1) 0 rfl [x.kind,x.seq,.string x.name,int i64 x.length,(),(),.slice c i c0,.slice f h c1,zQ] _ ?_ underlying105 rfl zY ?_;(focus (exact aa.o)))
  |(refine aV rfl 105 _ _ rfl (w.heap.size+1) 0 #[x.kind,x.seq,.string x.name,int i64 x.length,(),(),.slice c i c0,.slice f h c1,zQ] rfl rfl ?_ zY zU ?_;(focus (exact ab.o))))
 refine bodyPost_ret (results_cell_row rfl _ _ (w.heap.size+1) 105 #[x.kind,x.seq,.string x.name,int i64 x.length,(),(),.slice c i c0,.slice f h c1,zQ] (0,0) _ rfl (L2.o.laid [x.kind,x.seq,.string x.name,int i64 x.length,(),(),.slice c i c0,.slice f h c1,zQ] rfl) underlying105 rfl zY) rfl ?_;exact⟨rfl,Below.setCells_ _ _ _ _ zZ (show Below w w w5.drew from⟨n.o.os,n.o.tape,n.o.output,n.o.size,n.o.block⟩)⟩
theorem bare2_c(x:Aj)(r c f s h i c0 c1 c2)(w:World)(y:x.kind=2):
  Calls prog 207 #[.agg (yZ x r s c0 c h c1 f i c2)] w (zN (.agg #[x.kind,x.seq,.string ⟨#[]⟩,(),x.group,x.row,zQ,.slice c h c1,.slice f i c2]) w):=by
 have k1:(x.kind == 1)=false:=by rw[y];rfl
 have k2:(x.kind == 2)=true:=by rw[y];rfl
 have k3:(x.kind == 3)=false:=by rw[y];rfl
 have k4:(x.kind == 4)=false:=by rw[y];rfl
 clear y;obtain⟨HB,u,z,q⟩:=zH (show Below w w (((w.alloc (.cells (yZ x r s c0 c h c1 f i c2) 105)).alloc (.cells yY 105)).alloc (.cells #[x.kind,x.seq,.string ⟨#[]⟩,(),(),(),zQ,zQ,zQ] 105))from(((aC _ _).alloc (aD _) _).alloc zX _).alloc zV _) (show Blk (((w.alloc (.cells (yZ x r s c0 c h c1 f i c2) 105)).alloc (.cells yY 105)).alloc (.cells #[x.kind,x.seq,.string ⟨#[]⟩,(),(),(),zQ,zQ,zQ] 105)) w 105 (yZ x r s c0 c h c1 f i c2)from((Blk.new _ _ _).alloc _).alloc _) (show Blk (((w.alloc (.cells (yZ x r s c0 c h c1 f i c2) 105)).alloc (.cells yY 105)).alloc (.cells #[x.kind,x.seq,.string ⟨#[]⟩,(),(),(),zQ,zQ,zQ] 105)) (w.heap.size+1) 105 yY from(Blk.new1 w (.cells (yZ x r s c0 c h c1 f i c2) 105) 105 yY).alloc (.cells #[x.kind,x.seq,.string ⟨#[]⟩,(),(),(),zQ,zQ,zQ] 105)) (show Blk (((w.alloc (.cells (yZ x r s c0 c h c1 f i c2) 105)).alloc (.cells yY 105)).alloc (.cells #[x.kind,x.seq,.string ⟨#[]⟩,(),(),(),zQ,zQ,zQ] 105)) (w.heap.size+1+1) 105 #[x.kind,x.seq,.string ⟨#[]⟩,(),(),(),zQ,zQ,zQ]from Blk.new2 w (.cells (yZ x r s c0 c h c1 f i c2) 105) (.cells yY 105) 105 #[x.kind,x.seq,.string ⟨#[]⟩,(),(),(),zQ,zQ,zQ]);go_enter func207,ntmps207
 go_wp2_with fail
 generalize(((w.alloc (.cells (yZ x r s c0 c h c1 f i c2) 105)).alloc (.cells yY 105)).alloc (.cells #[x.kind,x.seq,.string ⟨#[]⟩,(),(),(),zQ,zQ,zQ] 105))=l at HB u z q⊢;have p4:l.cell? ⟨w.heap.size,4,none⟩=some (int i64 x.group):=(Blk.cell u.o 4).T rfl;have s4:l.cell? ⟨w.heap.size+1+1,4,none⟩=some (int i64 0):=(Blk.cell q.o 4).T rfl;have t4:=Blk.frozen q.o 4;have p5:l.cell? ⟨w.heap.size,5,none⟩=some (int i64 x.row):=(Blk.cell u.o 5).T rfl;have s5:l.cell? ⟨w.heap.size+1+1,5,none⟩=some (int i64 0):=(Blk.cell q.o 5).T rfl;have t5:=Blk.frozen q.o 5;have p7:l.cell? ⟨w.heap.size,7,none⟩=some (.slice c h c1):=(Blk.cell u.o 7).T rfl;have s7:l.cell? ⟨w.heap.size+1+1,7,none⟩=some (.slice none 0 0):=(Blk.cell q.o 7).T rfl;have t7:=Blk.frozen q.o 7;have p8:l.cell? ⟨w.heap.size,8,none⟩=some (.slice f i c2):=(Blk.cell u.o 8).T rfl;have s8:l.cell? ⟨w.heap.size+1+1,8,none⟩=some (.slice none 0 0):=(Blk.cell q.o 8).T rfl;have t8:=Blk.frozen q.o 8;have z1:w.heap.size<l.heap.size:=u.o.lt;have z2:w.heap.size+1<l.heap.size:=z.o.lt;have z3:w.heap.size+1+1<l.heap.size:=q.o.lt;go_region
 obtain⟨L2,L3,n⟩:=zI (show Blk ((((l.setCell (zO (w.heap.size+1+1) 4) (int i64 x.group)).setCell (zO (w.heap.size+1+1) 5) (int i64 x.row)).setCell (zO (w.heap.size+1+1) 7) (.slice c h c1)).setCell (zO (w.heap.size+1+1) 8) (.slice f i c2)) (w.heap.size+1) 105 yY from(Blk.far (p:=⟨w.heap.size+1+1,8,none⟩) (Blk.far (p:=⟨w.heap.size+1+1,7,none⟩) (Blk.far (p:=⟨w.heap.size+1+1,5,none⟩) (Blk.far (p:=⟨w.heap.size+1+1,4,none⟩) z.o zX (int i64 x.group)) zX (int i64 x.row)) zX (.slice c h c1)) zX (.slice f i c2))) (show Blk ((((l.setCell (zO (w.heap.size+1+1) 4) (int i64 x.group)).setCell (zO (w.heap.size+1+1) 5) (int i64 x.row)).setCell (zO (w.heap.size+1+1) 7) (.slice c h c1)).setCell (zO (w.heap.size+1+1) 8) (.slice f i c2)) (w.heap.size+1+1) 105 #[x.kind,x.seq,.string ⟨#[]⟩,(),x.group,x.row,zQ,.slice c h c1,.slice f i c2]from(Blk.set_ (Blk.set_ (Blk.set_ (Blk.set_ q.o _ _) _ _) _ _) _ _)) (show Below w w ((((l.setCell (zO (w.heap.size+1+1) 4) (int i64 x.group)).setCell (zO (w.heap.size+1+1) 5) (int i64 x.row)).setCell (zO (w.heap.size+1+1) 7) (.slice c h c1)).setCell (zO (w.heap.size+1+1) 8) (.slice f i c2))from((((HB.o.setCell (show w.heap.size<=w.heap.size+1+1 by omega) _).setCell (show w.heap.size<=w.heap.size+1+1 by omega) _).setCell (show w.heap.size<=w.heap.size+1+1 by omega) _).setCell (show w.heap.size<=w.heap.size+1+1 by omega) _));generalize((((l.setCell (zO (w.heap.size+1+1) 4) (int i64 x.group)).setCell (zO (w.heap.size+1+1) 5) (int i64 x.row)).setCell (zO (w.heap.size+1+1) 7) (.slice c h c1)).setCell (zO (w.heap.size+1+1) 8) (.slice f i c2))=w5 at L2 L3 n⊢;have ab:=zq (Blk.there L2.o 9 zX);have aa:=zq (Blk.range L3.o 0 [x.kind,x.seq,.string ⟨#[]⟩,(),x.group,x.row,zQ,.slice c h c1,.slice f i c2] rfl);clear p4 s4 t4 p5 s5 t5 p7 s7 t7 p8 s8 t8 z1 z2 z3 u z q HB;go_wp2_with (first
  |(refine aE rfl 105 _ rfl (w.heap.size+1+1) 0 rfl [x.kind,x.seq,.string ⟨#[]⟩,(),x.group,x.row,zQ,.slice c h c1,.slice f i c2] _ ?_ underlying105 rfl zY ?_;(focus (exact aa.o)))
  |(refine aV rfl 105 _ _ rfl (w.heap.size+1) 0 #[x.kind,x.seq,.string ⟨#[]⟩,(),x.group,x.row,zQ,.slice c h c1,.slice f i c2] rfl rfl ?_ zY zU ?_;(focus (exact ab.o))))
 refine bodyPost_ret (results_cell_row rfl _ _ (w.heap.size+1) 105 #[x.kind,x.seq,.string ⟨#[]⟩,(),x.group,x.row,zQ,.slice c h c1,.slice f i c2] (0,0) _ rfl (L2.o.laid [x.kind,x.seq,.string ⟨#[]⟩,(),x.group,x.row,zQ,.slice c h c1,.slice f i c2] rfl) underlying105 rfl zY) rfl ?_;exact⟨rfl,Below.setCells_ _ _ _ _ zZ (show Below w w w5.drew from⟨n.o.os,n.o.tape,n.o.output,n.o.size,n.o.block⟩)⟩
theorem bare3_c(x:Aj)(c f h p l n c0 c1 c2)(w:World)(i:x.kind=3):
  Calls prog 207 #[.agg (yZ x c p c0 f l c1 h n c2)] w (zN (.agg #[x.kind,x.seq,.string ⟨#[]⟩,(),x.group,(),zQ,zQ,zQ]) w):=by
 have k1:(x.kind == 1)=false:=by rw[i];rfl
 have k2:(x.kind == 2)=false:=by rw[i];rfl
 have k3:(x.kind == 3)=true:=by rw[i];rfl
 have k4:(x.kind == 4)=false:=by rw[i];rfl
 clear i;have u:=zq (show Below w w (((w.alloc (.cells (yZ x c p c0 f l c1 h n c2) 105)).alloc (.cells yY 105)).alloc (.cells #[x.kind,x.seq,.string ⟨#[]⟩,(),x.group,(),zQ,zQ,zQ] 105))from(((aC _ _).alloc (aD _) _).alloc zX _).alloc zV _);have s:=zq (show Blk (((w.alloc (.cells (yZ x c p c0 f l c1 h n c2) 105)).alloc (.cells yY 105)).alloc (.cells #[x.kind,x.seq,.string ⟨#[]⟩,(),x.group,(),zQ,zQ,zQ] 105)) (w.heap.size+1) 105 yY from(Blk.new1 w (.cells (yZ x c p c0 f l c1 h n c2) 105) 105 yY).alloc (.cells #[x.kind,x.seq,.string ⟨#[]⟩,(),x.group,(),zQ,zQ,zQ] 105));have r:=zq (Blk.there s.o 9 zX);have q:=zq (Blk.range (Blk.new2 w (.cells (yZ x c p c0 f l c1 h n c2) 105) (.cells yY 105) 105 #[x.kind,x.seq,.string ⟨#[]⟩,(),x.group,(),zQ,zQ,zQ]) 0 [x.kind,x.seq,.string ⟨#[]⟩,(),x.group,(),zQ,zQ,zQ] rfl);go_enter func207,ntmps207
 go_wp2_with (first
  |(refine aE rfl 105 _ rfl (w.heap.size+1+1) 0 rfl [x.kind,x.seq,.string ⟨#[]⟩,(),x.group,(),zQ,zQ,zQ] _ ?_ underlying105 rfl zY ?_;(focus (exact q.o)))
  |(refine aV rfl 105 _ _ rfl (w.heap.size+1) 0 #[x.kind,x.seq,.string ⟨#[]⟩,(),x.group,(),zQ,zQ,zQ] rfl rfl ?_ zY zU ?_;(focus (exact r.o))))
 refine bodyPost_ret (results_cell_row rfl _ _ (w.heap.size+1) 105 #[x.kind,x.seq,.string ⟨#[]⟩,(),x.group,(),zQ,zQ,zQ] (0,0) _ rfl (s.o.laid [x.kind,x.seq,.string ⟨#[]⟩,(),x.group,(),zQ,zQ,zQ] rfl) underlying105 rfl zY) rfl ?_;exact⟨rfl,Below.setCells_ _ _ _ _ zZ u.o⟩
theorem bare4_c(x:Aj)(c f h n i l c0 c1 c2)(w:World)(y:x.kind=4):
  Calls prog 207 #[.agg (yZ x c n c0 f i c1 h l c2)] w (zN (.agg #[x.kind,x.seq,.string ⟨#[]⟩,(),x.group,x.row,.slice c n c0,.slice f i c1,.slice h l c2]) w):=by
 have k1:(x.kind == 1)=false:=by rw[y];rfl
 have k2:(x.kind == 2)=false:=by rw[y];rfl
 have k3:(x.kind == 3)=false:=by rw[y];rfl
 have k4:(x.kind == 4)=true:=by rw[y];rfl
 clear y;obtain⟨HB,u,z,r⟩:=zH (show Below w w (((w.alloc (.cells (yZ x c n c0 f i c1 h l c2) 105)).alloc (.cells yY 105)).alloc (.cells #[x.kind,x.seq,.string ⟨#[]⟩,(),(),(),zQ,zQ,zQ] 105))from(((aC _ _).alloc (aD _) _).alloc zX _).alloc zV _) (show Blk (((w.alloc (.cells (yZ x c n c0 f i c1 h l c2) 105)).alloc (.cells yY 105)).alloc (.cells #[x.kind,x.seq,.string ⟨#[]⟩,(),(),(),zQ,zQ,zQ] 105)) w 105 (yZ x c n c0 f i c1 h l c2)from((Blk.new _ _ _).alloc _).alloc _) (show Blk (((w.alloc (.cells (yZ x c n c0 f i c1 h l c2) 105)).alloc (.cells yY 105)).alloc (.cells #[x.kind,x.seq,.string ⟨#[]⟩,(),(),(),zQ,zQ,zQ] 105)) (w.heap.size+1) 105 yY from(Blk.new1 w (.cells (yZ x c n c0 f i c1 h l c2) 105) 105 yY).alloc (.cells #[x.kind,x.seq,.string ⟨#[]⟩,(),(),(),zQ,zQ,zQ] 105)) (show Blk (((w.alloc (.cells (yZ x c n c0 f i c1 h l c2) 105)).alloc (.cells yY 105)).alloc (.cells #[x.kind,x.seq,.string ⟨#[]⟩,(),(),(),zQ,zQ,zQ] 105)) (w.heap.size+1+1) 105 #[x.kind,x.seq,.string ⟨#[]⟩,(),(),(),zQ,zQ,zQ]from Blk.new2 w (.cells (yZ x c n c0 f i c1 h l c2) 105) (.cells yY 105) 105 #[x.kind,x.seq,.string ⟨#[]⟩,(),(),(),zQ,zQ,zQ]);go_enter func207,ntmps207
 go_wp2_with fail
 generalize(((w.alloc (.cells (yZ x c n c0 f i c1 h l c2) 105)).alloc (.cells yY 105)).alloc (.cells #[x.kind,x.seq,.string ⟨#[]⟩,(),(),(),zQ,zQ,zQ] 105))=q at HB u z r⊢;have p4:q.cell? ⟨w.heap.size,4,none⟩=some (int i64 x.group):=(Blk.cell u.o 4).T rfl;have s4:q.cell? ⟨w.heap.size+1+1,4,none⟩=some (int i64 0):=(Blk.cell r.o 4).T rfl;have t4:=Blk.frozen r.o 4;have p5:q.cell? ⟨w.heap.size,5,none⟩=some (int i64 x.row):=(Blk.cell u.o 5).T rfl;have s5:q.cell? ⟨w.heap.size+1+1,5,none⟩=some (int i64 0):=(Blk.cell r.o 5).T rfl;have t5:=Blk.frozen r.o 5;have p6:q.cell? ⟨w.heap.size,6,none⟩=some (.slice c n c0):=(Blk.cell u.o 6).T rfl;have s6:q.cell? ⟨w.heap.size+1+1,6,none⟩=some (.slice none 0 0):=(Blk.cell r.o 6).T rfl;have t6:=Blk.frozen r.o 6;have p7:q.cell? ⟨w.heap.size,7,none⟩=some (.slice f i c1):=(Blk.cell u.o 7).T rfl;have s7:q.cell? ⟨w.heap.size+1+1,7,none⟩=some (.slice none 0 0):=(Blk.cell r.o 7).T rfl;have t7:=Blk.frozen r.o 7;have p8:q.cell? ⟨w.heap.size,8,none⟩=some (.slice h l c2):=(Blk.cell u.o 8).T rfl;have s8:q.cell? ⟨w.heap.size+1+1,8,none⟩=some (.slice none 0 0):=(Blk.cell r.o 8).T rfl;have t8:=Blk.frozen r.o 8;have z1:w.heap.size<q.heap.size:=u.o.lt;have z2:w.heap.size+1<q.heap.size:=z.o.lt;have z3:w.heap.size+1+1<q.heap.size:=r.o.lt;go_region
 obtain⟨L2,L3,s⟩:=zI (show Blk (((((q.setCell (zO (w.heap.size+1+1) 4) (int i64 x.group)).setCell (zO (w.heap.size+1+1) 5) (int i64 x.row)).setCell (zO (w.heap.size+1+1) 6) (.slice c n c0)).setCell (zO (w.heap.size+1+1) 7) (.slice f i c1)).setCell (zO (w.heap.size+1+1) 8) (.slice h l c2)) (w.heap.size+1) 105 yY from(Blk.far (p:=⟨w.heap.size+1+1,8,none⟩) (Blk.far (p:=⟨w.heap.size+1+1,7,none⟩) (Blk.far (p:=⟨w.heap.size+1+1,6,none⟩) (Blk.far (p:=⟨w.heap.size+1+1,5,none⟩) (Blk.far (p:=⟨w.heap.size+1+1,4,none⟩) z.o zX (int i64 x.group)) zX (int i64 x.row)) zX (.slice c n c0)) zX (.slice f i c1)) zX (.slice h l c2))) (show Blk (((((q.setCell (zO (w.heap.size+1+1) 4) (int i64 x.group)).setCell (zO (w.heap.size+1+1) 5) (int i64 x.row)).setCell (zO (w.heap.size+1+1) 6) (.slice c n c0)).setCell (zO (w.heap.size+1+1) 7) (.slice f i c1)).setCell (zO (w.heap.size+1+1) 8) (.slice h l c2)) (w.heap.size+1+1) 105 #[x.kind,x.seq,.string ⟨#[]⟩,(),x.group,x.row,.slice c n c0,.slice f i c1,.slice h l c2]from(Blk.set_ (Blk.set_ (Blk.set_ (Blk.set_ (Blk.set_ r.o _ _) _ _) _ _) _ _) _ _)) (show Below w w (((((q.setCell (zO (w.heap.size+1+1) 4) (int i64 x.group)).setCell (zO (w.heap.size+1+1) 5) (int i64 x.row)).setCell (zO (w.heap.size+1+1) 6) (.slice c n c0)).setCell (zO (w.heap.size+1+1) 7) (.slice f i c1)).setCell (zO (w.heap.size+1+1) 8) (.slice h l c2))from(((((HB.o.setCell (show w.heap.size<=w.heap.size+1+1 by omega) _).setCell (show w.heap.size<=w.heap.size+1+1 by omega) _).setCell (show w.heap.size<=w.heap.size+1+1 by omega) _).setCell (show w.heap.size<=w.heap.size+1+1 by omega) _).setCell (show w.heap.size<=w.heap.size+1+1 by omega) _));generalize(((((q.setCell (zO (w.heap.size+1+1) 4) (int i64 x.group)).setCell (zO (w.heap.size+1+1) 5) (int i64 x.row)).setCell (zO (w.heap.size+1+1) 6) (.slice c n c0)).setCell (zO (w.heap.size+1+1) 7) (.slice f i c1)).setCell (zO (w.heap.size+1+1) 8) (.slice h l c2))=w5 at L2 L3 s⊢;have ab:=zq (Blk.there L2.o 9 zX);have aa:=zq (Blk.range L3.o 0 [x.kind,x.seq,.string ⟨#[]⟩,(),x.group,x.row,.slice c n c0,.slice f i c1,.slice h l c2] rfl);clear p4 s4 t4 p5 s5 t5 p6 s6 t6 p7 s7 t7 p8 s8 t8 z1 z2 z3 u z r HB;go_wp2_with (first
  |(refine aE rfl 105 _ rfl (w.heap.size+1+1) 0 rfl [x.kind,x.seq,.string ⟨#[]⟩,(),x.group,x.row,.slice c n c0,.slice f i c1,.slice h l c2] _ ?_ underlying105 rfl zY ?_;(focus (exact aa.o)))
  |(refine aV rfl 105 _ _ rfl (w.heap.size+1) 0 #[x.kind,x.seq,.string ⟨#[]⟩,(),x.group,x.row,.slice c n c0,.slice f i c1,.slice h l c2] rfl rfl ?_ zY zU ?_;(focus (exact ab.o))))
 refine bodyPost_ret (results_cell_row rfl _ _ (w.heap.size+1) 105 #[x.kind,x.seq,.string ⟨#[]⟩,(),x.group,x.row,.slice c n c0,.slice f i c1,.slice h l c2] (0,0) _ rfl (L2.o.laid [x.kind,x.seq,.string ⟨#[]⟩,(),x.group,x.row,.slice c n c0,.slice f i c1,.slice h l c2] rfl) underlying105 rfl zY) rfl ?_;exact⟨rfl,Below.setCells_ _ _ _ _ zZ (show Below w w w5.drew from⟨s.o.os,s.o.tape,s.o.output,s.o.size,s.o.block⟩)⟩
