/- Part 24 of the proof. -/
import Derived.Test.YtofeknacbdcoaaaGreatDoorK19
import Derived.Test.YtofeknacbdcoaaaGreatDoorK22
import Derived.Test.YtofeknacbdcoaaaGreatDoorK23
import Derived.Test.YtofeknacbdcoaaaGreatDoorK21
set_option maxHeartbeats 8000000
set_option maxRecDepth 100000
set_option linter.unusedVariables false
set_option linter.unusedSimpArgs false
open Go.Proofs.Tryz
open Go.Value (int)
open Go.IntKind (i64)
namespace Go.Proofs.YtofeknacbdcoaaaGreatDoor
open Go.RowKit Go.Lib Go.Sort
theorem okZ:okI 0:=⟨by decide,by decide⟩
theorem okE:(⟨#[]⟩:ByteArray).size<=9223372036854775807:=by decide
theorem QZ {w}:rSl 1 Aw w [] (.slice none 0 0) []:=⟨none,0,rfl,aD _,by omega,.inl ⟨rfl,rfl⟩⟩
theorem Lu {w}:rSl 1 Al w [] (.slice none 0 0) []:=⟨none,0,rfl,aD _,by omega,.inl ⟨rfl,rfl⟩⟩
theorem bareR1 {x:Aj}{f h n l i r c0 c1 c2 c e o w}(q:x.kind=1)(s:okI x.kind)(u:okI x.seq)(y:x.name.size<=9223372036854775807)(z:okI x.length)(o4:okI x.group)(o5:okI x.row)(p:rSl 1 Aw w c (.slice f l c0) x.rows)(h1:rSl 1 Al w e (.slice h i c1) x.data)(h2:rSl 1 Al w o (.slice n r c2) x.delta):Af w (c ++(e ++ [])) [x.kind,x.seq,.string x.name,int i64 x.length,(),(),.slice f l c0,.slice h i c1,zQ] (DU x):=by
 unfold DU;rw[aM q];exact⟨_,_,_,c,e,[],rfl,rfl,s,u,y,z,okZ,okZ,p,h1,Lu⟩
theorem bareR2 {x:Aj}{n f h r i l c0 c1 c2 o c e w}(q:x.kind=2)(s:okI x.kind)(u:okI x.seq)(o2:x.name.size<=9223372036854775807)(o3:okI x.length)(y:okI x.group)(z:okI x.row)(h0:rSl 1 Aw w o (.slice n r c0) x.rows)(h1:rSl 1 Al w c (.slice f i c1) x.data)(p:rSl 1 Al w e (.slice h l c2) x.delta):Af w ([] ++(c ++ e)) [x.kind,x.seq,.string ⟨#[]⟩,(),x.group,x.row,zQ,.slice f i c1,.slice h l c2] (DU x):=by
 unfold DU;rw[aJ zZ,aM q];exact⟨_,_,_,[],c,e,rfl,rfl,s,u,okE,okZ,y,z,QZ,h1,p⟩
theorem bareR3 {x:Aj}{c e f q o p c0 c1 c2 h i l w}(n:x.kind=3)(r:okI x.kind)(s:okI x.seq)(o2:x.name.size<=9223372036854775807)(o3:okI x.length)(u:okI x.group)(o5:okI x.row)(y:rSl 1 Aw w h (.slice c q c0) x.rows)(h1:rSl 1 Al w i (.slice e o c1) x.data)(z:rSl 1 Al w l (.slice f p c2) x.delta):Af w ([] ++([] ++ [])) [x.kind,x.seq,.string ⟨#[]⟩,(),x.group,(),zQ,zQ,zQ] (DU x):=by
 unfold DU;rw[aJ zZ,aJ zZ,aM n];exact⟨_,_,_,[],[],[],rfl,rfl,r,s,okE,okZ,u,okZ,QZ,Lu,Lu⟩
theorem bareR4 {x:Aj}{h i l p n o c0 c1 c2 c e f w}(hk:x.kind=4)(s:okI x.kind)(u:okI x.seq)(o2:x.name.size<=9223372036854775807)(o3:okI x.length)(y:okI x.group)(z:okI x.row)(q:rSl 1 Aw w c (.slice h p c0) x.rows)(h1:rSl 1 Al w e (.slice i n c1) x.data)(r:rSl 1 Al w f (.slice l o c2) x.delta):Af w (c ++(e ++ f)) [x.kind,x.seq,.string ⟨#[]⟩,(),x.group,x.row,.slice h p c0,.slice i n c1,.slice l o c2] (DU x):=by
 unfold DU;rw[aJ zZ,aJ zZ,aJ zZ];exact⟨_,_,_,c,e,f,rfl,rfl,s,u,okE,okZ,y,z,q,h1,r⟩
theorem RF(s:Sh)(al:shB s=true)(x cs f w)(h:Af w f cs x)(hk:x.kind=1)(hq:Ap x.seq 1 1000000000=true):
  Calls prog 152 #[shV s,.agg cs] w (zN (int i64 (AJ s x)) w):=by
 have ac:=h;dsimp only[Af]at h;obtain⟨v0,v1,v2,f0,f1,f2,rfl,rfl,o0,o1,o2,o3,o4,o5,h0,h1,h2⟩:=h;obtain⟨A0,c0,rfl,k0,m0⟩:=rSl.head h0;obtain⟨A1,c1,rfl,k1,m1⟩:=rSl.head h1;obtain⟨A2,c2,rfl,k2,m2⟩:=rSl.head h2;obtain⟨H0,H1,H2⟩:=zI h0 h1 h2;obtain⟨nR,ag⟩:∃nR,x.rows.length=nR:=zJ;obtain⟨nD,ae⟩:∃nD,x.data.length=nD:=zJ;obtain⟨nE,af⟩:∃nE,x.delta.length=nE:=zJ;obtain⟨ar,ap,aq⟩:=zI ag ae af;rw[ag]at H0 k0⊢;rw[ae]at H1 k1⊢;rw[af]at H2 k2⊢;have K1:=(Blk.new w 38 s).alloc (.cells (yZ x A0 nR c0 A1 nD c1 A2 nE c2) 105);have K2:=Blk.new1 w (.cells s 38) 105 (yZ x A0 nR c0 A1 nD c1 A2 nE c2);have hB:Below w w ((w.alloc (.cells s 38)).alloc (.cells (yZ x A0 nR c0 A1 nD c1 A2 nE c2) 105)):=((aC _ _).alloc (aD _) _).alloc zX _;have HB:=zq hB;have S2:=Cn.of K1;have R2:=DC.of K2;have HS:=zq S2;have aj:=zq R2;clear h0 h1 h2 ag ae af K1 K2 hB;rw[ar.o,ap.o,aq.o]at ac;have hs:=De al;have ah:=zq (fun(W:World) => By x.kind 1 4 W);have ai:=zq (fun(W:World) => By x.seq 1 1000000000 W);rw[show Ap x.kind 1 4=true by rw[hk];rfl]at ah;rw[hq]at ai;have z:=Ei (s:=s) (show Ap x.kind 1 4=true by rw[hk];rfl) hq;rw[Hb]at z;obtain⟨r,hr⟩:∃r:Int,AJ s x=r:=zJ;rw[hr]at z⊢;obtain⟨pc,ab⟩:∃pc:Int,Bj s x=pc:=zJ;rw[ab]at z;obtain⟨aa,au,an,ao⟩:=zH z ab (fun(W:World) => bare1_c x A0 A1 A2 nR nD nE c0 c1 c2 W hk) (bareR1 hk o0 o1 o2 o3 o4 o5 H0.o H1.o H2.o);have ak:=zq (fun(W:World) (hW:Below w w W) => Gb x (DU x) _ _ _ _ W (AC.B Af.L Af.X ac hW) (AC.B Af.L Af.X ao.o hW));obtain⟨sm,am⟩:∃sm,decide (x=DU x)=sm:=zJ;rw[am]at ak aa;have k1:(x.kind == 1)=true:=by rw[hk];rfl
 have k3:(x.kind == 3)=false:=by rw[hk];rfl
 have k4:(x.kind == 4)=false:=by rw[hk];rfl
 have ad:=zq (PV s hs x _ _ ((w.alloc (.cells s 38)).alloc (.cells (yZ x A0 nR c0 A1 nD c1 A2 nE c2) 105)) (AC.B Af.L Af.X ac HB.o));have e0:Bj s x=EH s x:=by unfold Bj;rw[aM hk];rfl
 rw[<-e0,ab]at ad;unfold shV at ad⊢;clear al hk hq hs hr z ab am ac o0 o1 o2 o3 o4 o5 e0;go_enter func152,ntmps152
 go_wp2_with (first
  |(go_at_call_has 95 x.kind;refine(ah.o _).M ?_;rintro e w' ⟨rfl,rfl⟩)
  |(go_at_call_has 95 x.seq;refine(ai.o _).M ?_;rintro e w' ⟨rfl,rfl⟩)
  |(refine aE rfl 38 _ rfl w 0 rfl _ _ HS.o.rng underlying38 rfl zY ?_)
  |(refine aE rfl 105 _ rfl (w.heap.size+1) 0 rfl _ _ aj.o.rng underlying105 rfl zY ?_))
 refine ad.o.M ?_;rintro e w3 ⟨rfl,b3⟩;obtain⟨l,i,B3⟩:=zI (HS.o.B b3) (aj.o.B b3) (HB.o.T (b3.M HB.o.size));have ax:=l.o.lt;have aw:=i.o.lt;have u0:=aB l.o.c0;have u1:=aB l.o.c1;have u2:=aB l.o.c2;have u3:=aB l.o.c3;have u4:=aB l.o.c4;have u5:=aB l.o.c5;have u6:=aB l.o.c6;have u7:=aB l.o.c7;have u8:=aB l.o.c8;have t0:=aB i.o.c0;have t1:=aB i.o.c1;have t2:=aB i.o.c2;have t3:=aB i.o.c3;have t4:=aB i.o.c4;have t5:=aB i.o.c5;have t6:=aB i.o.c6;have t7:=aB i.o.c7;have t8:=aB i.o.c8;clear b3;by_cases hp:pc=0
 ·subst hp;have QB:=zq (AR (w:=w3) (fun W _ => an.o W));have QM:=zq (AR (w:=w3) (fun W hW => ak.o W (B3.o.T (hW.M B3.o.size))));cases sm with
  |true =>
   have e1:r=0:=aa.o.T rfl;subst e1;go_wp2_with fail
   (refine aF zY zY ?_;(repeat go_big_quiet_step (first|(go_at_call 207;exact QB.o _ _)|(go_at_call 206;exact QM.o _ _)));refine aQ ?_)
   rintro _ ⟨⟨y,n⟩,rfl⟩;have u:=zq (B3.o.T ((aI _ y n).M B3.o.size));go_wp2
   go_ret
   exact⟨rfl,u.o⟩
  |false =>
   have e1:r=1:=aa.o.T rfl;subst e1;go_wp2_with fail
   (refine aF zY zY ?_;(repeat go_big_quiet_step (first|(go_at_call 207;exact QB.o _ _)|(go_at_call 206;exact QM.o _ _)));refine aQ ?_)
   rintro _ ⟨⟨y,n⟩,rfl⟩;have u:=zq (B3.o.T ((aI _ y n).M B3.o.size));go_wp2
   go_ret
   exact⟨rfl,u.o⟩
 ·have e1:r=pc:=aa.o.T (aJ hp);subst e1;have av:(r == 0)=false:=by simpa using hp
  clear hp;go_wp2_with fail
  (refine aF zY zY ?_;(repeat go_big_quiet_step (fail));refine aQ ?_)
  rintro _ ⟨⟨y,n⟩,rfl⟩;have u:=zq (B3.o.T ((aI _ y n).M B3.o.size));go_wp2
  go_ret
  exact⟨rfl,u.o⟩
theorem RG(s:Sh)(a0:shB s=true)(x cs f w)(h:Af w f cs x)(hk:x.kind=2)(hq:Ap x.seq 1 1000000000=true):
  Calls prog 152 #[shV s,.agg cs] w (zN (int i64 (AJ s x)) w):=by
 have aw:=h;dsimp only[Af]at h;obtain⟨v0,v1,v2,f0,f1,f2,rfl,rfl,o0,o1,o2,o3,o4,o5,h0,h1,h2⟩:=h;obtain⟨A0,c0,rfl,k0,m0⟩:=rSl.head h0;obtain⟨A1,c1,rfl,k1,m1⟩:=rSl.head h1;obtain⟨A2,c2,rfl,k2,m2⟩:=rSl.head h2;obtain⟨H0,H1,H2⟩:=zI h0 h1 h2;obtain⟨nR,av⟩:∃nR,x.rows.length=nR:=zJ;obtain⟨n,ar⟩:∃n,x.data.length=n:=zJ;obtain⟨u,au⟩:∃u,x.delta.length=u:=zJ;obtain⟨a5,ax,ay⟩:=zI av ar au;rw[av]at H0 k0⊢;rw[ar]at H1 k1⊢;rw[au]at H2 k2⊢;have K1:=(Blk.new w 38 s).alloc (.cells (yZ x A0 nR c0 A1 n c1 A2 u c2) 105);have K2:=Blk.new1 w (.cells s 38) 105 (yZ x A0 nR c0 A1 n c1 A2 u c2);have hB:Below w w ((w.alloc (.cells s 38)).alloc (.cells (yZ x A0 nR c0 A1 n c1 A2 u c2) 105)):=((aC _ _).alloc (aD _) _).alloc zX _;have HB:=zq hB;have S2:=Cn.of K1;have R2:=DC.of K2;have HS:=zq S2;have l:=zq R2;clear h0 h1 h2 av ar au K1 K2 hB;rw[a5.o,ax.o,ay.o]at aw;have hs:=De a0;have ag:=zq (fun(W:World) => By x.kind 1 4 W);have ah:=zq (fun(W:World) => By x.seq 1 1000000000 W);rw[show Ap x.kind 1 4=true by rw[hk];rfl]at ag;rw[hq]at ah;have am:=Ei (s:=s) (show Ap x.kind 1 4=true by rw[hk];rfl) hq;rw[Hb]at am;obtain⟨r,hr⟩:∃r:Int,AJ s x=r:=zJ;rw[hr]at am⊢;obtain⟨pc,ao⟩:∃pc:Int,Bj s x=pc:=zJ;rw[ao]at am;obtain⟨af,a6,a3,a4⟩:=zH am ao (fun(W:World) => bare2_c x A0 A1 A2 nR n u c0 c1 c2 W hk) (bareR2 hk o0 o1 o2 o3 o4 o5 H0.o H1.o H2.o);have az:=zq (fun(W:World) (hW:Below w w W) => Gb x (DU x) _ _ _ _ W (AC.B Af.L Af.X aw hW) (AC.B Af.L Af.X a4.o hW));obtain⟨sm,a1⟩:∃sm,decide (x=DU x)=sm:=zJ;rw[a1]at az af;have k1:(x.kind == 1)=false:=by rw[hk];rfl
 have k3:(x.kind == 3)=false:=by rw[hk];rfl
 have k4:(x.kind == 4)=false:=by rw[hk];rfl
 have e0:Bj s x=if Ee s x=true then 0 else 3:=by unfold Bj;rw[aJ zZ,aM hk]
 rw[ao]at e0;have an:=zq (Nq s x);rw[ax.o,ay.o]at an;obtain⟨mb,ap⟩:∃mb,Ee s x=mb:=zJ;rw[ap]at e0 an;have aj:=zq e0;obtain⟨wd,a2⟩:∃wd,s.data * 4=wd:=zJ;have aq:=zq (fun(W:World) => IK s hs W);rw[a2]at an aq;obtain⟨ai,z,ad,ak,al⟩:=zG (AR (w:=((w.alloc (.cells s 38)).alloc (.cells (yZ x A0 nR c0 A1 n c1 A2 u c2) 105))) (fun W _ => aq.o W)) (AR (w:=((w.alloc (.cells s 38)).alloc (.cells (yZ x A0 nR c0 A1 n c1 A2 u c2) 105))) (fun W _ => Hq s hs x.group W)) (AR (w:=((w.alloc (.cells s 38)).alloc (.cells (yZ x A0 nR c0 A1 n c1 A2 u c2) 105))) (fun W _ => MI s hs x.row W)) (Bv (w:=((w.alloc (.cells s 38)).alloc (.cells (yZ x A0 nR c0 A1 n c1 A2 u c2) 105))) (fun W => Dl A1 n c1 W)) (Bv (w:=((w.alloc (.cells s 38)).alloc (.cells (yZ x A0 nR c0 A1 n c1 A2 u c2) 105))) (fun W => Dl A2 u c2 W));unfold shV at ai z ad⊢;clear a0 hk hq hs hr am ao a1 aw o0 o1 o2 o3 o4 o5 e0 ap a2 aq;have u0:=aB HS.o.c0;have u1:=aB HS.o.c1;have u2:=aB HS.o.c2;have u3:=aB HS.o.c3;have u4:=aB HS.o.c4;have u5:=aB HS.o.c5;have u6:=aB HS.o.c6;have u7:=aB HS.o.c7;have u8:=aB HS.o.c8;have t0:=aB l.o.c0;have t1:=aB l.o.c1;have t2:=aB l.o.c2;have t3:=aB l.o.c3;have t4:=aB l.o.c4;have t5:=aB l.o.c5;have t6:=aB l.o.c6;have t7:=aB l.o.c7;have t8:=aB l.o.c8;have xx:=HS.o.lt;have xy:=l.o.lt;refine an.o _ ?_ ?_ ?_ ?_ ?_
 ·intro g ae;subst ae;have e2:pc=3:=aj.o;subst e2;rw[g]at z;clear g;have e1:r=3:=af.o.T (aJ zW);subst e1;go_enter func152,ntmps152
  go_wp2_with (first
  |(go_at_call_has 95 x.kind;refine(ag.o _).M ?_;rintro e w' ⟨rfl,rfl⟩)
  |(go_at_call_has 95 x.seq;refine(ah.o _).M ?_;rintro e w' ⟨rfl,rfl⟩)
  |(refine aE rfl 38 _ rfl w 0 rfl _ _ HS.o.rng underlying38 rfl zY ?_)
  |(refine aE rfl 105 _ rfl (w.heap.size+1) 0 rfl _ _ l.o.rng underlying105 rfl zY ?_))
  (refine aF zY zY ?_;(repeat go_big_quiet_step (first|(go_at_call 202;exact z.o _ _)|(go_at_call 203;exact ad.o _ _)|(go_at_call 205;exact ai.o _ _)|(go_at_call_has 204 n;exact ak.o _ _)|(go_at_call_has 204 u;exact al.o _ _)));refine aQ ?_)
  rintro _ ⟨⟨dq,osq⟩,rfl⟩;have b5:=aI ((w.alloc (.cells s 38)).alloc (.cells (yZ x A0 nR c0 A1 n c1 A2 u c2) 105)) dq osq;generalize grow (redrawn ((w.alloc (.cells s 38)).alloc (.cells (yZ x A0 nR c0 A1 n c1 A2 u c2) 105)) dq) osq=w5 at b5;have B5:=zq (HB.o.T (b5.M HB.o.size));clear b5;go_wp2_with fail
  (refine aF zY zY ?_;(repeat go_big_quiet_step (fail));refine aQ ?_)
  rintro _ ⟨⟨aa,i⟩,rfl⟩;have y:=zq (B5.o.T ((aI _ aa i).M B5.o.size));go_wp2
  go_ret
  exact⟨rfl,y.o⟩
 ·intro g r2 ae;subst ae;have e2:pc=3:=aj.o;subst e2;rw[g]at z;rw[r2]at ad;clear g r2;have e1:r=3:=af.o.T (aJ zW);subst e1;go_enter func152,ntmps152
  go_wp2_with (first
  |(go_at_call_has 95 x.kind;refine(ag.o _).M ?_;rintro e w' ⟨rfl,rfl⟩)
  |(go_at_call_has 95 x.seq;refine(ah.o _).M ?_;rintro e w' ⟨rfl,rfl⟩)
  |(refine aE rfl 38 _ rfl w 0 rfl _ _ HS.o.rng underlying38 rfl zY ?_)
  |(refine aE rfl 105 _ rfl (w.heap.size+1) 0 rfl _ _ l.o.rng underlying105 rfl zY ?_))
  (refine aF zY zY ?_;(repeat go_big_quiet_step (first|(go_at_call 202;exact z.o _ _)|(go_at_call 203;exact ad.o _ _)|(go_at_call 205;exact ai.o _ _)|(go_at_call_has 204 n;exact ak.o _ _)|(go_at_call_has 204 u;exact al.o _ _)));refine aQ ?_)
  rintro _ ⟨⟨dq,osq⟩,rfl⟩;have b5:=aI ((w.alloc (.cells s 38)).alloc (.cells (yZ x A0 nR c0 A1 n c1 A2 u c2) 105)) dq osq;generalize grow (redrawn ((w.alloc (.cells s 38)).alloc (.cells (yZ x A0 nR c0 A1 n c1 A2 u c2) 105)) dq) osq=w5 at b5;have B5:=zq (HB.o.T (b5.M HB.o.size));clear b5;go_wp2_with fail
  (refine aF zY zY ?_;(repeat go_big_quiet_step (fail));refine aQ ?_)
  rintro _ ⟨⟨aa,i⟩,rfl⟩;have y:=zq (B5.o.T ((aI _ aa i).M B5.o.size));go_wp2
  go_ret
  exact⟨rfl,y.o⟩
 ·intro g r2 d ae;subst ae;have e2:pc=3:=aj.o;subst e2;rw[g]at z;rw[r2]at ad;have d1:=EE d;clear g r2 d;have e1:r=3:=af.o.T (aJ zW);subst e1;go_enter func152,ntmps152
  go_wp2_with (first
  |(go_at_call_has 95 x.kind;refine(ag.o _).M ?_;rintro e w' ⟨rfl,rfl⟩)
  |(go_at_call_has 95 x.seq;refine(ah.o _).M ?_;rintro e w' ⟨rfl,rfl⟩)
  |(refine aE rfl 38 _ rfl w 0 rfl _ _ HS.o.rng underlying38 rfl zY ?_)
  |(refine aE rfl 105 _ rfl (w.heap.size+1) 0 rfl _ _ l.o.rng underlying105 rfl zY ?_))
  (refine aF zY zY ?_;(repeat go_big_quiet_step (first|(go_at_call 202;exact z.o _ _)|(go_at_call 203;exact ad.o _ _)|(go_at_call 205;exact ai.o _ _)|(go_at_call_has 204 n;exact ak.o _ _)|(go_at_call_has 204 u;exact al.o _ _)));refine aQ ?_)
  rintro _ ⟨⟨dq,osq⟩,rfl⟩;have b5:=aI ((w.alloc (.cells s 38)).alloc (.cells (yZ x A0 nR c0 A1 n c1 A2 u c2) 105)) dq osq;generalize grow (redrawn ((w.alloc (.cells s 38)).alloc (.cells (yZ x A0 nR c0 A1 n c1 A2 u c2) 105)) dq) osq=w5 at b5;have B5:=zq (HB.o.T (b5.M HB.o.size));clear b5;go_wp2_with fail
  (refine aF zY zY ?_;(repeat go_big_quiet_step (fail));refine aQ ?_)
  rintro _ ⟨⟨aa,i⟩,rfl⟩;have y:=zq (B5.o.T ((aI _ aa i).M B5.o.size));go_wp2
  go_ret
  exact⟨rfl,y.o⟩
 ·intro g r2 d d2 ae;subst ae;have e2:pc=3:=aj.o;subst e2;rw[g]at z;rw[r2]at ad;have d1:=Db d;have d3:=EE d2;clear g r2 d d2;have e1:r=3:=af.o.T (aJ zW);subst e1;go_enter func152,ntmps152
  go_wp2_with (first
  |(go_at_call_has 95 x.kind;refine(ag.o _).M ?_;rintro e w' ⟨rfl,rfl⟩)
  |(go_at_call_has 95 x.seq;refine(ah.o _).M ?_;rintro e w' ⟨rfl,rfl⟩)
  |(refine aE rfl 38 _ rfl w 0 rfl _ _ HS.o.rng underlying38 rfl zY ?_)
  |(refine aE rfl 105 _ rfl (w.heap.size+1) 0 rfl _ _ l.o.rng underlying105 rfl zY ?_))
  (refine aF zY zY ?_;(repeat go_big_quiet_step (first|(go_at_call 202;exact z.o _ _)|(go_at_call 203;exact ad.o _ _)|(go_at_call 205;exact ai.o _ _)|(go_at_call_has 204 n;exact ak.o _ _)|(go_at_call_has 204 u;exact al.o _ _)));refine aQ ?_)
  rintro _ ⟨⟨dq,osq⟩,rfl⟩;have b5:=aI ((w.alloc (.cells s 38)).alloc (.cells (yZ x A0 nR c0 A1 n c1 A2 u c2) 105)) dq osq;generalize grow (redrawn ((w.alloc (.cells s 38)).alloc (.cells (yZ x A0 nR c0 A1 n c1 A2 u c2) 105)) dq) osq=w5 at b5;have B5:=zq (HB.o.T (b5.M HB.o.size));clear b5;go_wp2_with fail
  (refine aF zY zY ?_;(repeat go_big_quiet_step (fail));refine aQ ?_)
  rintro _ ⟨⟨aa,i⟩,rfl⟩;have y:=zq (B5.o.T ((aI _ aa i).M B5.o.size));go_wp2
  go_ret
  exact⟨rfl,y.o⟩
 ·intro g r2 d d2 ae;subst ae;have e2:pc=0:=aj.o;subst e2;rw[g]at z;rw[r2]at ad;have d1:=Db d;have d3:=Db d2;clear g r2 d d2;go_enter func152,ntmps152
  go_wp2_with (first
  |(go_at_call_has 95 x.kind;refine(ag.o _).M ?_;rintro e w' ⟨rfl,rfl⟩)
  |(go_at_call_has 95 x.seq;refine(ah.o _).M ?_;rintro e w' ⟨rfl,rfl⟩)
  |(refine aE rfl 38 _ rfl w 0 rfl _ _ HS.o.rng underlying38 rfl zY ?_)
  |(refine aE rfl 105 _ rfl (w.heap.size+1) 0 rfl _ _ l.o.rng underlying105 rfl zY ?_))
  (refine aF zY zY ?_;(repeat go_big_quiet_step (first|(go_at_call 202;exact z.o _ _)|(go_at_call 203;exact ad.o _ _)|(go_at_call 205;exact ai.o _ _)|(go_at_call_has 204 n;exact ak.o _ _)|(go_at_call_has 204 u;exact al.o _ _)));refine aQ ?_)
  rintro _ ⟨⟨dq,osq⟩,rfl⟩;have b5:=aI ((w.alloc (.cells s 38)).alloc (.cells (yZ x A0 nR c0 A1 n c1 A2 u c2) 105)) dq osq;generalize grow (redrawn ((w.alloc (.cells s 38)).alloc (.cells (yZ x A0 nR c0 A1 n c1 A2 u c2) 105)) dq) osq=w5 at b5;obtain⟨ac,ab,B5⟩:=zI (HS.o.B b5) (l.o.B b5) (HB.o.T (b5.M HB.o.size));have a8:=ac.o.lt;have a7:=ab.o.lt;clear u0 u1 u2 u3 u4 u5 u6 u7 u8 t0 t1 t2 t3 t4 t5 t6 t7 t8 b5;have u0:=aB ac.o.c0;have u1:=aB ac.o.c1;have u2:=aB ac.o.c2;have u3:=aB ac.o.c3;have u4:=aB ac.o.c4;have u5:=aB ac.o.c5;have u6:=aB ac.o.c6;have u7:=aB ac.o.c7;have u8:=aB ac.o.c8;have t0:=aB ab.o.c0;have t1:=aB ab.o.c1;have t2:=aB ab.o.c2;have t3:=aB ab.o.c3;have t4:=aB ab.o.c4;have t5:=aB ab.o.c5;have t6:=aB ab.o.c6;have t7:=aB ab.o.c7;have t8:=aB ab.o.c8;have QB:=zq (AR (w:=w5) (fun W _ => a3.o W));have QM:=zq (AR (w:=w5) (fun W hW => az.o W (B5.o.T (hW.M B5.o.size))));cases sm with
  |true =>
   have e1:r=0:=af.o.T rfl;subst e1;go_wp2_with fail
   (refine aF zY zY ?_;(repeat go_big_quiet_step (first|(go_at_call 207;exact QB.o _ _)|(go_at_call 206;exact QM.o _ _)));refine aQ ?_)
   rintro _ ⟨⟨aa,i⟩,rfl⟩;have y:=zq (B5.o.T ((aI _ aa i).M B5.o.size));go_wp2
   go_ret
   exact⟨rfl,y.o⟩
  |false =>
   have e1:r=1:=af.o.T rfl;subst e1;go_wp2_with fail
   (refine aF zY zY ?_;(repeat go_big_quiet_step (first|(go_at_call 207;exact QB.o _ _)|(go_at_call 206;exact QM.o _ _)));refine aQ ?_)
   rintro _ ⟨⟨aa,i⟩,rfl⟩;have y:=zq (B5.o.T ((aI _ aa i).M B5.o.size));go_wp2
   go_ret
   exact⟨rfl,y.o⟩
theorem RH(s:Sh)(an:shB s=true)(x cs f w)(h:Af w f cs x)(hk:x.kind=3)(hq:Ap x.seq 1 1000000000=true):
  Calls prog 152 #[shV s,.agg cs] w (zN (int i64 (AJ s x)) w):=by
 have ah:=h;dsimp only[Af]at h;obtain⟨v0,v1,v2,f0,f1,f2,rfl,rfl,o0,o1,o2,o3,o4,o5,h0,h1,h2⟩:=h;obtain⟨A0,c0,rfl,k0,m0⟩:=rSl.head h0;obtain⟨A1,c1,rfl,k1,m1⟩:=rSl.head h1;obtain⟨A2,c2,rfl,k2,m2⟩:=rSl.head h2;obtain⟨H0,H1,H2⟩:=zI h0 h1 h2;obtain⟨nR,ag⟩:∃nR,x.rows.length=nR:=zJ;obtain⟨nD,ae⟩:∃nD,x.data.length=nD:=zJ;obtain⟨nE,af⟩:∃nE,x.delta.length=nE:=zJ;obtain⟨av,ar,au⟩:=zI ag ae af;rw[ag]at H0 k0⊢;rw[ae]at H1 k1⊢;rw[af]at H2 k2⊢;have K1:=(Blk.new w 38 s).alloc (.cells (yZ x A0 nR c0 A1 nD c1 A2 nE c2) 105);have K2:=Blk.new1 w (.cells s 38) 105 (yZ x A0 nR c0 A1 nD c1 A2 nE c2);have hB:Below w w ((w.alloc (.cells s 38)).alloc (.cells (yZ x A0 nR c0 A1 nD c1 A2 nE c2) 105)):=((aC _ _).alloc (aD _) _).alloc zX _;have HB:=zq hB;have S2:=Cn.of K1;have R2:=DC.of K2;have HS:=zq S2;have ad:=zq R2;clear h0 h1 h2 ag ae af K1 K2 hB;rw[av.o,ar.o,au.o]at ah;have hs:=De an;have aj:=zq (fun(W:World) => By x.kind 1 4 W);have ak:=zq (fun(W:World) => By x.seq 1 1000000000 W);rw[show Ap x.kind 1 4=true by rw[hk];rfl]at aj;rw[hq]at ak;have z:=Ei (s:=s) (show Ap x.kind 1 4=true by rw[hk];rfl) hq;rw[Hb]at z;obtain⟨r,hr⟩:∃r:Int,AJ s x=r:=zJ;rw[hr]at z⊢;obtain⟨pc,ab⟩:∃pc:Int,Bj s x=pc:=zJ;rw[ab]at z;obtain⟨aa,aw,ap,aq⟩:=zH z ab (fun(W:World) => bare3_c x A0 A1 A2 nR nD nE c0 c1 c2 W hk) (bareR3 hk o0 o1 o2 o3 o4 o5 H0.o H1.o H2.o);have al:=zq (fun(W:World) (hW:Below w w W) => Gb x (DU x) _ _ _ _ W (AC.B Af.L Af.X ah hW) (AC.B Af.L Af.X aq.o hW));obtain⟨sm,ao⟩:∃sm,decide (x=DU x)=sm:=zJ;rw[ao]at al aa;have k1:(x.kind == 1)=false:=by rw[hk];rfl
 have k3:(x.kind == 3)=true:=by rw[hk];rfl
 have k4:(x.kind == 4)=false:=by rw[hk];rfl
 have ac:=zq (Ik s hs x.group ((w.alloc (.cells s 38)).alloc (.cells (yZ x A0 nR c0 A1 nD c1 A2 nE c2) 105)));have e0:Bj s x=if Ap x.group 0 (s.g+s.c - 1)=true then 0 else 3:=by unfold Bj;rw[aJ zZ,aJ zZ,aM hk];rfl
 rw[ab]at e0;obtain⟨ig,am⟩:∃ig,Ap x.group 0 (s.g+s.c - 1)=ig:=zJ;rw[am]at e0 ac;have ai:=zq e0;unfold shV at ac⊢;clear an hk hq hs hr z ab ao ah o0 o1 o2 o3 o4 o5 e0 am;have x4:=ad.o.c4;go_enter func152,ntmps152
 go_wp2_with (first
  |(go_at_call_has 95 x.kind;refine(aj.o _).M ?_;rintro e w' ⟨rfl,rfl⟩)
  |(go_at_call_has 95 x.seq;refine(ak.o _).M ?_;rintro e w' ⟨rfl,rfl⟩)
  |(refine aE rfl 38 _ rfl w 0 rfl _ _ HS.o.rng underlying38 rfl zY ?_)
  |(refine aE rfl 105 _ rfl (w.heap.size+1) 0 rfl _ _ ad.o.rng underlying105 rfl zY ?_))
 refine ac.o.M ?_;rintro e w3 ⟨rfl,b3⟩;obtain⟨l,i,B3⟩:=zI (HS.o.B b3) (ad.o.B b3) (HB.o.T (b3.M HB.o.size));have ay:=l.o.lt;have ax:=i.o.lt;have u0:=aB l.o.c0;have u1:=aB l.o.c1;have u2:=aB l.o.c2;have u3:=aB l.o.c3;have u4:=aB l.o.c4;have u5:=aB l.o.c5;have u6:=aB l.o.c6;have u7:=aB l.o.c7;have u8:=aB l.o.c8;have t0:=aB i.o.c0;have t1:=aB i.o.c1;have t2:=aB i.o.c2;have t3:=aB i.o.c3;have t4:=aB i.o.c4;have t5:=aB i.o.c5;have t6:=aB i.o.c6;have t7:=aB i.o.c7;have t8:=aB i.o.c8;clear b3 x4;cases ig with
 |true =>
  have e2:pc=0:=ai.o;subst e2;have QB:=zq (AR (w:=w3) (fun W _ => ap.o W));have QM:=zq (AR (w:=w3) (fun W hW => al.o W (B3.o.T (hW.M B3.o.size))));cases sm with
  |true =>
   have e1:r=0:=aa.o.T rfl;subst e1;go_wp2_with fail
   (refine aF zY zY ?_;(repeat go_big_quiet_step (first|(go_at_call 207;exact QB.o _ _)|(go_at_call 206;exact QM.o _ _)));refine aQ ?_)
   rintro _ ⟨⟨y,n⟩,rfl⟩;have u:=zq (B3.o.T ((aI _ y n).M B3.o.size));go_wp2
   go_ret
   exact⟨rfl,u.o⟩
  |false =>
   have e1:r=1:=aa.o.T rfl;subst e1;go_wp2_with fail
   (refine aF zY zY ?_;(repeat go_big_quiet_step (first|(go_at_call 207;exact QB.o _ _)|(go_at_call 206;exact QM.o _ _)));refine aQ ?_)
   rintro _ ⟨⟨y,n⟩,rfl⟩;have u:=zq (B3.o.T ((aI _ y n).M B3.o.size));go_wp2
   go_ret
   exact⟨rfl,u.o⟩
 |false =>
  have e2:pc=3:=ai.o;subst e2;have e1:r=3:=aa.o.T (aJ zW);subst e1;go_wp2_with fail
  (refine aF zY zY ?_;(repeat go_big_quiet_step (fail));refine aQ ?_)
  rintro _ ⟨⟨y,n⟩,rfl⟩;have u:=zq (B3.o.T ((aI _ y n).M B3.o.size));go_wp2
  go_ret
  exact⟨rfl,u.o⟩
theorem RI(s:Sh)(al:shB s=true)(x cs f w)(h:Af w f cs x)(hk:x.kind=4)(hq:Ap x.seq 1 1000000000=true):
  Calls prog 152 #[shV s,.agg cs] w (zN (int i64 (AJ s x)) w):=by
 have ac:=h;dsimp only[Af]at h;obtain⟨v0,v1,v2,f0,f1,f2,rfl,rfl,o0,o1,o2,o3,o4,o5,h0,h1,h2⟩:=h;obtain⟨A0,c0,rfl,k0,m0⟩:=rSl.head h0;obtain⟨A1,c1,rfl,k1,m1⟩:=rSl.head h1;obtain⟨A2,c2,rfl,k2,m2⟩:=rSl.head h2;obtain⟨H0,H1,H2⟩:=zI h0 h1 h2;obtain⟨nR,ag⟩:∃nR,x.rows.length=nR:=zJ;obtain⟨nD,ae⟩:∃nD,x.data.length=nD:=zJ;obtain⟨nE,af⟩:∃nE,x.delta.length=nE:=zJ;obtain⟨ar,ap,aq⟩:=zI ag ae af;rw[ag]at H0 k0⊢;rw[ae]at H1 k1⊢;rw[af]at H2 k2⊢;have K1:=(Blk.new w 38 s).alloc (.cells (yZ x A0 nR c0 A1 nD c1 A2 nE c2) 105);have K2:=Blk.new1 w (.cells s 38) 105 (yZ x A0 nR c0 A1 nD c1 A2 nE c2);have hB:Below w w ((w.alloc (.cells s 38)).alloc (.cells (yZ x A0 nR c0 A1 nD c1 A2 nE c2) 105)):=((aC _ _).alloc (aD _) _).alloc zX _;have HB:=zq hB;have S2:=Cn.of K1;have R2:=DC.of K2;have HS:=zq S2;have aj:=zq R2;clear h0 h1 h2 ag ae af K1 K2 hB;rw[ar.o,ap.o,aq.o]at ac;have hs:=De al;have ah:=zq (fun(W:World) => By x.kind 1 4 W);have ai:=zq (fun(W:World) => By x.seq 1 1000000000 W);rw[show Ap x.kind 1 4=true by rw[hk];rfl]at ah;rw[hq]at ai;have z:=Ei (s:=s) (show Ap x.kind 1 4=true by rw[hk];rfl) hq;rw[Hb]at z;obtain⟨r,hr⟩:∃r:Int,AJ s x=r:=zJ;rw[hr]at z⊢;obtain⟨pc,ab⟩:∃pc:Int,Bj s x=pc:=zJ;rw[ab]at z;obtain⟨aa,au,an,ao⟩:=zH z ab (fun(W:World) => bare4_c x A0 A1 A2 nR nD nE c0 c1 c2 W hk) (bareR4 hk o0 o1 o2 o3 o4 o5 H0.o H1.o H2.o);have ak:=zq (fun(W:World) (hW:Below w w W) => Gb x (DU x) _ _ _ _ W (AC.B Af.L Af.X ac hW) (AC.B Af.L Af.X ao.o hW));obtain⟨sm,am⟩:∃sm,decide (x=DU x)=sm:=zJ;rw[am]at ak aa;have k1:(x.kind == 1)=false:=by rw[hk];rfl
 have k3:(x.kind == 3)=false:=by rw[hk];rfl
 have k4:(x.kind == 4)=true:=by rw[hk];rfl
 have ad:=zq (Ph s hs x _ _ ((w.alloc (.cells s 38)).alloc (.cells (yZ x A0 nR c0 A1 nD c1 A2 nE c2) 105)) (AC.B Af.L Af.X ac HB.o));have e0:Bj s x=if Cs s x=true then 0 else 3:=by unfold Bj;rw[aJ zZ,aJ zZ,aJ zZ]
 rw[<-e0,ab]at ad;unfold shV at ad⊢;clear al hk hq hs hr z ab am ac o0 o1 o2 o3 o4 o5 e0;go_enter func152,ntmps152
 go_wp2_with (first
  |(go_at_call_has 95 x.kind;refine(ah.o _).M ?_;rintro e w' ⟨rfl,rfl⟩)
  |(go_at_call_has 95 x.seq;refine(ai.o _).M ?_;rintro e w' ⟨rfl,rfl⟩)
  |(refine aE rfl 38 _ rfl w 0 rfl _ _ HS.o.rng underlying38 rfl zY ?_)
  |(refine aE rfl 105 _ rfl (w.heap.size+1) 0 rfl _ _ aj.o.rng underlying105 rfl zY ?_))
 refine ad.o.M ?_;rintro e w3 ⟨rfl,b3⟩;obtain⟨l,i,B3⟩:=zI (HS.o.B b3) (aj.o.B b3) (HB.o.T (b3.M HB.o.size));have ax:=l.o.lt;have aw:=i.o.lt;have u0:=aB l.o.c0;have u1:=aB l.o.c1;have u2:=aB l.o.c2;have u3:=aB l.o.c3;have u4:=aB l.o.c4;have u5:=aB l.o.c5;have u6:=aB l.o.c6;have u7:=aB l.o.c7;have u8:=aB l.o.c8;have t0:=aB i.o.c0;have t1:=aB i.o.c1;have t2:=aB i.o.c2;have t3:=aB i.o.c3;have t4:=aB i.o.c4;have t5:=aB i.o.c5;have t6:=aB i.o.c6;have t7:=aB i.o.c7;have t8:=aB i.o.c8;clear b3;by_cases hp:pc=0
 ·subst hp;have QB:=zq (AR (w:=w3) (fun W _ => an.o W));have QM:=zq (AR (w:=w3) (fun W hW => ak.o W (B3.o.T (hW.M B3.o.size))));cases sm with
  |true =>
   have e1:r=0:=aa.o.T rfl;subst e1;go_wp2_with fail
   (refine aF zY zY ?_;(repeat go_big_quiet_step (first|(go_at_call 207;exact QB.o _ _)|(go_at_call 206;exact QM.o _ _)));refine aQ ?_)
   rintro _ ⟨⟨y,n⟩,rfl⟩;have u:=zq (B3.o.T ((aI _ y n).M B3.o.size));go_wp2
   go_ret
   exact⟨rfl,u.o⟩
  |false =>
   have e1:r=1:=aa.o.T rfl;subst e1;go_wp2_with fail
   (refine aF zY zY ?_;(repeat go_big_quiet_step (first|(go_at_call 207;exact QB.o _ _)|(go_at_call 206;exact QM.o _ _)));refine aQ ?_)
   rintro _ ⟨⟨y,n⟩,rfl⟩;have u:=zq (B3.o.T ((aI _ y n).M B3.o.size));go_wp2
   go_ret
   exact⟨rfl,u.o⟩
 ·have e1:r=pc:=aa.o.T (aJ hp);subst e1;have av:(r == 0)=false:=by simpa using hp
  clear hp;go_wp2_with fail
  (refine aF zY zY ?_;(repeat go_big_quiet_step (fail));refine aQ ?_)
  rintro _ ⟨⟨y,n⟩,rfl⟩;have u:=zq (B3.o.T ((aI _ y n).M B3.o.size));go_wp2
  go_ret
  exact⟨rfl,u.o⟩
theorem J2(s x cs f w)(h:Af w f cs x)(aa:Ap x.kind 1 4=false∨(Ap x.kind 1 4=true/\Ap x.seq 1 1000000000=false)):
  Calls prog 152 #[shV s,.agg cs] w (zN (int i64 (AJ s x)) w):=by
 dsimp only[Af]at h;obtain⟨v0,v1,v2,f0,f1,f2,rfl,rfl,o0,o1,o2,o3,o4,o5,h0,h1,h2⟩:=h;obtain⟨A0,c0,rfl,k0,m0⟩:=rSl.head h0;obtain⟨A1,c1,rfl,k1,m1⟩:=rSl.head h1;obtain⟨A2,c2,rfl,k2,m2⟩:=rSl.head h2;obtain⟨H0,H1,H2⟩:=zI h0 h1 h2;obtain⟨nR,y⟩:∃nR,x.rows.length=nR:=zJ;obtain⟨nD,r⟩:∃nD,x.data.length=nD:=zJ;obtain⟨nE,u⟩:∃nE,x.delta.length=nE:=zJ;obtain⟨ad,ab,ac⟩:=zI y r u;rw[y]at H0 k0⊢;rw[r]at H1 k1⊢;rw[u]at H2 k2⊢;have K1:=(Blk.new w 38 s).alloc (.cells (yZ x A0 nR c0 A1 nD c1 A2 nE c2) 105);have K2:=Blk.new1 w (.cells s 38) 105 (yZ x A0 nR c0 A1 nD c1 A2 nE c2);have hB:Below w w ((w.alloc (.cells s 38)).alloc (.cells (yZ x A0 nR c0 A1 nD c1 A2 nE c2) 105)):=((aC _ _).alloc (aD _) _).alloc zX _;have HB:=zq hB;have S2:=Cn.of K1;have R2:=DC.of K2;have HS:=zq S2;have ae:=zq R2;clear h0 h1 h2 y r u K1 K2 hB;have i:=zq (fun(W:World) => By x.kind 1 4 W);have l:=zq (fun(W:World) => By x.seq 1 1000000000 W);unfold shV;rcases aa with hb|⟨hb,n⟩
 ·have z:AJ s x=5:=by unfold AJ;rw[aJ (by rw[hb];exact Bool.false_ne_true)]
  rw[z];rw[hb]at i;clear hb z;go_enter func152,ntmps152
  go_wp2_with (first
  |(go_at_call_has 95 x.kind;refine(i.o _).M ?_;rintro e w' ⟨rfl,rfl⟩)
  |(go_at_call_has 95 x.seq;refine(l.o _).M ?_;rintro e w' ⟨rfl,rfl⟩))
  go_ret
  exact⟨rfl,HB.o⟩
 ·have z:AJ s x=3:=by unfold AJ;rw[aM hb,aJ (by rw[n];exact Bool.false_ne_true)]
  rw[z];rw[hb]at i;rw[n]at l;clear hb n z;go_enter func152,ntmps152
  go_wp2_with (first
  |(go_at_call_has 95 x.kind;refine(i.o _).M ?_;rintro e w' ⟨rfl,rfl⟩)
  |(go_at_call_has 95 x.seq;refine(l.o _).M ?_;rintro e w' ⟨rfl,rfl⟩))
  go_ret
  exact⟨rfl,HB.o⟩
theorem Te(s:Sh)(c:shB s=true)(x cs f w)(h:Af w f cs x):
  Calls prog 152 #[shV s,.agg cs] w (zN (int i64 (AJ s x)) w):=by
 cases l:Ap x.kind 1 4 with
 |false => exact J2 s x cs f w h (.inl l)
 |true =>
  cases hq:Ap x.seq 1 1000000000 with
  |false => exact J2 s x cs f w h (.inr ⟨l,hq⟩)
  |true =>
   rcases kind4 l with i|i|i|i
   ·exact RF s c x cs f w h i hq
   ·exact RG s c x cs f w h i hq
   ·exact RH s c x cs f w h i hq
   ·exact RI s c x cs f w h i hq
theorem SO(s:Sh)(h:s.Ok)(w:World):
  Calls prog 122 #[shV s] w (zN (int i64 (s.data+s.p)) w):=by
 obtain⟨c,f⟩:=h.data;obtain⟨i,l⟩:=h.p;unfold shV;go_enter func122,ntmps122
 go_wp2
 go_ret
 exact⟨rfl,(aC _ _).alloc (aD _) _⟩
theorem SN(s:Sh)(h:s.Ok)(w:World):
  Calls prog 142 #[shV s] w (zN (int i64 (s.data+s.p)) w):=by
 obtain⟨c,f⟩:=h.data;obtain⟨i,l⟩:=h.p;unfold shV;go_enter func142,ntmps142
 go_wp2
 go_ret
 exact⟨rfl,(aC _ _).alloc (aD _) _⟩
theorem Pi(A n c)(w:World):Calls prog 140 #[.slice A n c] w (zM (int i64 (n:Int)) w):=by
 go_enter func140,ntmps140
 go_wp2
 go_ret
 exact⟨rfl,rfl⟩
theorem Qh(A n c)(w:World):Calls prog 141 #[.slice A n c] w (zM (int i64 (n:Int)) w):=by
 go_enter func141,ntmps141
 go_wp2
 go_ret
 exact⟨rfl,rfl⟩
theorem Qg(A n c)(w:World):Calls prog 143 #[.slice A n c] w (zM (int i64 (n:Int)) w):=by
 go_enter func143,ntmps143
 go_wp2
 go_ret
 exact⟨rfl,rfl⟩
theorem TS(A n c)(w:World):Calls prog 149 #[.slice A n c] w (zM (int i64 (n:Int)) w):=by
 go_enter func149,ntmps149
 go_wp2
 go_ret
 exact⟨rfl,rfl⟩
theorem SF(b cs f w)(h:AK w f cs b):
  Calls prog 146 #[.agg cs] w (zN (.bool (CX b)) w):=by
 obtain⟨r,q,rfl,-,-,i⟩:=h;obtain⟨l,c0,rfl,-⟩:=rSl.head i;have c:=zq (fun(W:World) => By b.stamp 0 1000000000 W);unfold CX;clear i;obtain⟨n,hn⟩:∃n,b.bytes.length=n:=zJ;rw[hn];clear hn;cases hi:Ap b.stamp 0 1000000000 with
 |false =>
  rw[hi]at c;clear hi;go_enter func146,ntmps146
  go_wp2_with (go_at_call 95;refine(c.o _).M ?_;rintro e w' ⟨rfl,rfl⟩)
  go_ret
  exact⟨rfl,(aC _ _).alloc (aD _) _⟩
 |true =>
  rw[hi]at c;clear hi;have p:((n:Int) == 4)=decide (n=4):=by rw[Bool.eq_iff_iff];simp;omega
  go_enter func146,ntmps146
  go_wp2_with (go_at_call 95;refine(c.o _).M ?_;rintro e w' ⟨rfl,rfl⟩)
  go_ret
  exact⟨by rw[Bool.true_and];rfl,(aC _ _).alloc (aD _) _⟩
theorem Rh(b cs f w)(h:AK w f cs b):
  Calls prog 145 #[.agg cs] w (zN (.bool (!CX b)) w):=by
 have n:=h;obtain⟨u,s,rfl,-,-,l⟩:=h;obtain⟨p,c0,rfl,-⟩:=rSl.head l;have hb:Below w w (w.alloc (.cells #[b.stamp,.slice p b.bytes.length c0] 193)):=(aC _ _).alloc (aD _) _;have i:=zq (SF b _ f _ (AC.B AK.L AK.X n hb));have c:=zq hb;clear n l hb;obtain⟨r,hr⟩:∃r,CX b=r:=zJ;rw[hr]at i⊢;clear hr;go_enter func145,ntmps145
 go_wp2_with (go_at_call 146;refine i.o.M ?_;rintro e w' ⟨rfl,q⟩)
 go_ret
 exact⟨rfl,c.o.T (q.M c.o.size)⟩
theorem RD(d:As)(hs:d.s.sh.Ok)(cs f w)(h:AF w f cs d):
  Calls prog 92 #[.agg cs] w (zN (.bool (BU d.s.sh d.g)) w):=by
 dsimp only[AF]at h;obtain⟨v0,v1,v2,f0,f1,f2,rfl,-,o0,o1,o2,o3,o4,o5,o6,o7,o8,o9,cu,r0,r1,r2⟩:=h;obtain⟨A0,c0,rfl,m0,cq⟩:=rSl.head r0;obtain⟨A1,c1,rfl,m1,cr⟩:=rSl.head r1;obtain⟨A2,c2,rfl,m2,ct⟩:=rSl.head r2;obtain⟨x,be⟩:∃x,d.g.length=x:=zJ;obtain⟨nO,bf⟩:∃nO,d.on.length=nO:=zJ;obtain⟨nT,bg⟩:∃nT,d.v.length=nT:=zJ;rw[be]at r0 m0⊢;rw[bf]at r1 m1⊢;rw[bg]at r2 m2⊢;obtain⟨aw,cg,ch⟩:=zI be bf bg;have ao:Below w w (w.alloc (.cells (zD d A0 x c0 A1 nO c1 A2 nT c2) 42)):=(aC _ _).alloc (aD _) _;have ae:Blk (w.alloc (.cells (zD d A0 x c0 A1 nO c1 A2 nT c2) 42)) w 42 (zD d A0 x c0 A1 nO c1 A2 nT c2):=Blk.new _ _ _;obtain⟨K1,bi,R0,R1,R2⟩:=zG ae ao (rSl.B (Ai.L Ar.L) (Ai.X Ar.X) r0 ao) (rSl.B Aw.L Aw.X r1 ao) (rSl.B AE.L AE.X r2 ao);clear r0 r1 r2 ao ae be bf bg;have KN:=zq (Blk.new1 w (.cells (zD d A0 x c0 A1 nO c1 A2 nT c2) 42) 38 yX);obtain⟨bq,bm,K3,K2,ag⟩:=zG (Blk.there KN.o 9 zX) (Blk.range K1.o 0 d.s rfl) (show Blk (((w.alloc (.cells (zD d A0 x c0 A1 nO c1 A2 nT c2) 42)).alloc (.cells yX 38)).setCells (w.heap.size+1) 0 d.s) (w.heap.size+1) 38 d.s from Blk.laid KN.o d.s rfl) (show Blk (((w.alloc (.cells (zD d A0 x c0 A1 nO c1 A2 nT c2) 42)).alloc (.cells yX 38)).setCells (w.heap.size+1) 0 d.s) w 42 (zD d A0 x c0 A1 nO c1 A2 nT c2) from Blk.farS d.s (w.heap.size+1) 0 _ zZ (K1.o.alloc _)) (show Below w w (((w.alloc (.cells (zD d A0 x c0 A1 nO c1 A2 nT c2) 42)).alloc (.cells yX 38)).setCells (w.heap.size+1) 0 d.s)from Below.setCells_ _ _ _ _ zZ (bi.o.alloc zX _));have a4:Below (w.alloc (.cells (zD d A0 x c0 A1 nO c1 A2 nT c2) 42)).heap.size (w.alloc (.cells (zD d A0 x c0 A1 nO c1 A2 nT c2) 42)) (((w.alloc (.cells (zD d A0 x c0 A1 nO c1 A2 nT c2) 42)).alloc (.cells yX 38)).setCells (w.heap.size+1) 0 d.s):=Below.setCells_ _ _ _ _ zX ((aC _ _).alloc (aD _) _);have ba:=zq (rSl.B (Ai.L Ar.L) (Ai.X Ar.X) R0.o a4);clear a4;obtain⟨r,hr⟩:∃r,BU d.s.sh d.g=r:=zJ;rw[hr];obtain⟨a9,a7,a8,ci⟩:=zH hr (fun(W:World) => Fq d.s.sh hs W) (fun(W:World) => SN d.s.sh hs W) (show d.s.sh.rows=d.s.rows from rfl);unfold shV at a7 a8;obtain⟨al,bc⟩:∃al,d.s.sh.g+d.s.sh.c=al:=zJ;obtain⟨dv,bd⟩:∃dv,d.s.sh.data+d.s.sh.p=dv:=zJ;rw[bc]at a7;rw[bd]at a8;have a0:=zq bc;have a3:=zq bd;clear hr hs bc bd;go_enter func92,ntmps92
 go_wp2_with (first
  |(refine aE rfl 38 _ rfl w 0 rfl _ _ bm.o underlying38 rfl zY ?_)
  |(refine aV rfl 38 _ _ rfl (w.heap.size+1) 0 d.s rfl rfl ?_ zY zU ?_;(focus (exact bq.o))))
 generalize((w.alloc (.cells (zD d A0 x c0 A1 nO c1 A2 nT c2) 42)).alloc (.cells yX 38)).setCells (w.heap.size+1) 0 [int i64 d.s.g,d.s.c,d.s.data,d.s.p,d.s.rows,d.s.cap,d.s.b,d.s.q,d.s.t] =w2 at K2 K3 ag ba⊢;clear KN bq bm K1 bi R0 R1 R2;have S2:=zq (Cn.of (s:=d.s.sh) K3.o);have u0:=aB S2.o.c0;have u1:=aB S2.o.c1;have u2:=aB S2.o.c2;have u3:=aB S2.o.c3;have u4:=aB S2.o.c4;have u5:=aB S2.o.c5;have u6:=aB S2.o.c6;have u7:=aB S2.o.c7;have u8:=aB S2.o.c8;have p9:w2.cell? ⟨w.heap.size,9,none⟩=some (.slice A0 x c0):=(Blk.cell K2.o 9).T rfl;have u9:=aB p9;have z1:w.heap.size<w2.heap.size:=K2.o.lt;have z2:w.heap.size+1<w2.heap.size:=K3.o.lt;have QN:=zq (Bv (w:=w2) (fun W => Pi A0 x c0 W));have QA:=zq (AR (w:=w2) (fun W _ => a7.o W));by_cases hl:(x:Int)=al
 ·have bs:=Db hl;have HL:=zq hl;clear hl
  (refine aF zY zY ?_;(repeat(first|go_big_quiet_step (first|(go_at_call 140;exact QN.o _ _)|(go_at_call 27;exact QA.o _ _))|quiet_step (first|(go_at_call 140;exact QN.o _ _)|(go_at_call 27;exact QA.o _ _))));refine aQ ?_)
  rintro _ ⟨⟨dq,osq⟩,rfl⟩;have b5:=aI w2 dq osq;generalize grow (redrawn w2 dq) osq=w5 at b5;have S5:=zq (S2.o.B b5);have ar:=zq (ag.o.T (b5.M ag.o.size));have cv:=(b5.cell (p:=⟨w.heap.size,9,none⟩) z1).T p9;have b9:w.heap.size<w5.heap.size:=aH z1 b5.size;have cb:w.heap.size+1<w5.heap.size:=aH z2 b5.size;obtain⟨A',c',e,-,hm,hx⟩:=rSl.at_ (Ai.X Ar.X) zW (rSl.B (Ai.L Ar.L) (Ai.X Ar.X) ba.o b5);injection e with e1 _ e3
  subst e1 e3;have HX:=zq hx;clear hx hm b5 QN QA u0 u1 u2 u3 u4 u5 u6 u7 u8 u9 p9 z1 z2 S2 K2 K3 ba ag bs;go_wp2
  go_loopw [19,5,7] (fun i _ _ wr =>∃k:Nat,k<=x/\i=k/\Hid (Co (DO d.s.sh) d.g k)/\Hid (Below w5 w5 wr)) (fun i _ _ _ => x - (intOf i).toNat)
  ·exact⟨0,by omega,rfl,Co.zero _ _,aC _ _⟩
  ·obtain⟨k,hk,rfl,HT,HB⟩:=hrel;by_cases b3:k<x
   ·have ae:k<d.g.length:=by rw[aw.o];exact b3
    have co:(k:Int)<(x:Int):=by omega
    obtain⟨ad,b,o,cs,fk,rfl,ac⟩:=HX.o k ae;have l:=ac.B (Ai.L Ar.L) HB.o;have b6:=ac.place;have b1:=l.lt;obtain⟨ve,b8,aq⟩:=l.reads;subst b8;obtain⟨Ae,ce,rfl,bv,cp⟩:=rSl.head aq;have az:=l.cell 0 zX;simp only[bC,aW]at az;rw[Nat.mul_one]at b6;have am:=zq (HT.o.step ae);have ak:=zq (fun(h:DO d.s.sh d.g[k] =false) => a9.o.symm.T (LD ae h));obtain⟨G,hG⟩:∃G,d.g[k] =G:=zJ;rw[hG]at az aq bv am ak;obtain⟨m,hm⟩:∃m,G.length=m:=zJ;rw[hm]at az aq bv;obtain⟨HM,bl,SR⟩:=zI hm aq (S5.o.B HB.o);have u0:=aB SR.o.c0;have u1:=aB SR.o.c1;have u2:=aB SR.o.c2;have u3:=aB SR.o.c3;have u4:=aB SR.o.c4;have u5:=aB SR.o.c5;have u6:=aB SR.o.c6;have u7:=aB SR.o.c7;have u8:=aB SR.o.c8;have z1:w.heap.size<wr.heap.size:=aH b9 HB.o.size;have z2:w.heap.size+1<wr.heap.size:=aH cb HB.o.size;obtain⟨aa,QD,QV⟩:=zI (ar.o.T (HB.o.M ar.o.size)) (Bv (w:=wr) (fun W => Qh Ae m ce W)) (AR (w:=wr) (fun W _ => a8.o W));clear ac l ae hG hm aq;by_cases ai:(m:Int)=dv
    ·have a5:=Db ai;have bz:=zq (show(G.length:Int)=d.s.sh.data+d.s.sh.p by rw[HM.o,a3.o];exact ai);clear ai;go_wp2_with fail
     (refine aF zY zY ?_;(repeat(first|go_big_quiet_step (first|(go_at_call 141;exact QD.o _ _)|(go_at_call 142;exact QV.o _ _))|quiet_step (first|(go_at_call 141;exact QD.o _ _)|(go_at_call 142;exact QV.o _ _))));refine aQ ?_)
     rintro _ ⟨⟨dq,osq⟩,rfl⟩;have b7:=aI wr dq osq;generalize grow (redrawn wr dq) osq=w7 at b7;have au:=zq (HB.o.T (b7.M HB.o.size));have a2:=zq (aa.o.T (b7.M aa.o.size));obtain⟨A',c',e,-,b4,bw⟩:=rSl.at_ Ar.X zW (rSl.B Ar.L Ar.X bl.o b7);injection e with e1 _ e3
     subst e1 e3;have b0:=zq bw;have ca:w.heap.size+1<w7.heap.size:=aH z2 b7.size;clear bw b4 b7 QD QV u0 u1 u2 u3 u4 u5 u6 u7 u8 z1 z2 SR a5 az b1 bl aa;go_wp2
     go_loopw [30,7] (fun i _ wr =>∃j:Nat,j<=m/\i=j/\Hid (Co (Dq d.s.sh) G j)/\Hid (Below w7 w7 wr)) (fun i _ _ => m - (intOf i).toNat)
     ·exact⟨0,by omega,rfl,Co.zero _ _,aC _ _⟩
     ·obtain⟨j,hj,rfl,bp,y⟩:=hrel;by_cases bu:j<m
      ·have ay:j<G.length:=by rw[HM.o];exact bu
       have cn:(j:Int)<(m:Int):=by omega
       obtain⟨cj,b2,o2,ck,cl,rfl,ac⟩:=b0.o j ay;have l:=ac.B Ar.L y.o;have cf:=ac.place;have cc:=l.lt;obtain⟨v3,g3,e3,-,ap⟩:=l.reads;subst e3;obtain⟨A3,c3,rfl,a6,cd⟩:=rSl.head ap;have y0:=l.cell 0 zX;have y1:=l.cell 1 zX;simp only[bC,aW,bF]at y0 y1;have af:=zq (bp.o.step ay);have z:=zq (fun(h:Dq d.s.sh G[j] =false) => ak.o (LV ay h));obtain⟨D,hD⟩:∃D,G[j] =D:=zJ;rw[hD]at y0 y1 ap a6 af z;obtain⟨nb,bh⟩:∃nb,D.blocks.length=nb:=zJ;rw[bh]at y1 ap a6;have bk:=zq bh;obtain⟨dw,br⟩:∃dw,D.wiped=dw:=zJ;rw[br]at y0;have SR:=zq (S5.o.B (au.o.T (y.o.M au.o.size)));have z1:w.heap.size+1<wr.heap.size:=aH ca y.o.size;have a1:=zq (a2.o.T (y.o.M a2.o.size));have ax:Below wr wr (wr.alloc (.cells #[.bool dw,.slice A3 nb c3] 110)):=(aC _ _).alloc (aD _) _;have S8:=zq (SR.o.B ax);have u4:=aB S8.o.c4;have av:=zq (a1.o.T (ax.M a1.o.size));have K8:=zq (Blk.new wr 110 #[.bool dw,.slice A3 nb c3]);have q1:=aB (show(wr.alloc (.cells #[.bool dw,.slice A3 nb c3] 110)).cell? ⟨wr.heap.size,1,none⟩=some (.slice A3 nb c3)from(Blk.cell K8.o 1).T rfl);have ah:=zq (Bv (w:=wr.alloc (.cells #[.bool dw,.slice A3 nb c3] 110)) (fun W => Qg A3 nb c3 W));have an:=zq (AR (w:=wr.alloc (.cells #[.bool dw,.slice A3 nb c3] 110)) (fun W hW => LI 2 zZ sizeOf193 isAgg193 (fun b => !CX b) 145 #[] _ D.blocks _ W (enters_of func145 zY rfl) (rSl.B AK.L AK.X (rSl.B AK.L AK.X ap ax) hW) (fun W2 cs fk j hj cm hR => Rh D.blocks[j] cs fk W2 hR)));obtain⟨ab,bb⟩:∃ab,(D.blocks.any fun b => !CX b)=ab:=zJ;rw[bb]at an;have bx:=zq bb;clear ac l ay hD bh br ap ax bb;by_cases aj:(nb:Int)=d.s.sh.rows
       ·have bt:=Db aj;have bj:=zq (show Dq d.s.sh D= !ab by rw[<-bx.o];exact Ro (by rw[bk.o];exact aj));clear aj;cases ab with
        |true =>
         have e1:r=false:=z.o bj.o;subst e1;go_wp2_with fail
         (refine aF zY zY ?_;(repeat(first|go_big_quiet_step (first|(go_at_call 143;exact ah.o _ _)|(go_at_call 144;exact an.o _ _))|quiet_step (first|(go_at_call 143;exact ah.o _ _)|(go_at_call 144;exact an.o _ _))));refine aQ ?_)
         rintro _ ⟨⟨dq,osq⟩,rfl⟩;have n:=zq (av.o.T ((aI _ dq osq).M av.o.size));go_wp2
         go_ret
         exact⟨rfl,n.o⟩
        |false =>
         have bo:=zq (af.o bj.o);go_wp2_with fail
         (refine aF zY zY ?_;(repeat(first|go_big_quiet_step (first|(go_at_call 143;exact ah.o _ _)|(go_at_call 144;exact an.o _ _))|quiet_step (first|(go_at_call 143;exact ah.o _ _)|(go_at_call 144;exact an.o _ _))));refine aQ ?_)
         rintro _ ⟨⟨dq,osq⟩,rfl⟩;have n:=zq ((y.o.alloc y.o.size _).T ((aI (wr.alloc (.cells #[.bool dw,.slice A3 nb c3] 110)) dq osq).M (y.o.alloc y.o.size _).size));go_wp2
         go_roundw
         ·exact⟨j+1,by omega,by go_num,bo.o,n.o⟩
         ·simp[intOf];omega
       ·have bt:=EE aj;have e1:r=false:=z.o (LQ (by rw[bk.o];exact aj));subst e1;clear aj;go_wp2_with fail
        (refine aF zY zY ?_;(repeat(first|go_big_quiet_step (first|(go_at_call 143;exact ah.o _ _))|quiet_step (first|(go_at_call 143;exact ah.o _ _))));refine aQ ?_)
        rintro _ ⟨⟨dq,osq⟩,rfl⟩;have n:=zq (av.o.T ((aI _ dq osq).M av.o.size));go_wp2
        go_ret
        exact⟨rfl,n.o⟩
      ·obtain rfl:j=m:=by omega
       have bn:=zq (am.o (Nh bz.o (by rw[HM.o];exact bp.o)));have n:=zq (au.o.T (y.o.M au.o.size));go_wp2
       go_roundw
       ·exact⟨k+1,by omega,by go_num,bn.o,n.o⟩
       ·simp[intOf];omega
    ·have a5:=EE ai;have e1:r=false:=ak.o (LW (by rw[HM.o,a3.o];exact ai));subst e1;clear ai;go_wp2_with fail
     (refine aF zY zY ?_;(repeat(first|go_big_quiet_step (first|(go_at_call 141;exact QD.o _ _)|(go_at_call 142;exact QV.o _ _))|quiet_step (first|(go_at_call 141;exact QD.o _ _)|(go_at_call 142;exact QV.o _ _))));refine aQ ?_)
     rintro _ ⟨⟨dq,osq⟩,rfl⟩;have n:=zq (aa.o.T ((aI _ dq osq).M aa.o.size));go_wp2
     go_ret
     exact⟨rfl,n.o⟩
   ·obtain rfl:k=x:=by omega
    have e1:r=true:=by
     rw[<-a9.o];exact Nb (by rw[aw.o,a0.o];exact HL.o) (by rw[aw.o];exact HT.o)
    subst e1;have aa:=zq (ar.o.T (HB.o.M ar.o.size));go_wp2
    go_ret
    exact⟨rfl,aa.o⟩
 ·have bs:=EE hl;have e1:r=false:=by
   rw[<-a9.o];exact LF (by rw[aw.o,a0.o];exact hl)
  subst e1;clear hl
  (refine aF zY zY ?_;(repeat(first|go_big_quiet_step (first|(go_at_call 140;exact QN.o _ _)|(go_at_call 27;exact QA.o _ _))|quiet_step (first|(go_at_call 140;exact QN.o _ _)|(go_at_call 27;exact QA.o _ _))));refine aQ ?_)
  rintro _ ⟨⟨dq,osq⟩,rfl⟩;have n:=zq (ag.o.T ((aI _ dq osq).M ag.o.size));go_wp2
  go_ret
  exact⟨rfl,n.o⟩
