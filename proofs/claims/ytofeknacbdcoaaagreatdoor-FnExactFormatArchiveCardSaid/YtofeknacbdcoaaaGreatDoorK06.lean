/- Part 6 of the proof. -/
import Derived.Test.YtofeknacbdcoaaaGreatDoorK05
import Derived.Test.YtofeknacbdcoaaaGreatDoorK01
import Derived.Test.YtofeknacbdcoaaaGreatDoorK00
import Derived.Lib.ItoaNum
import Derived.Test.YtofeknacbdcoaaaGreatDoorK03
import Derived.Laws.BytesArg
import Derived.Deep.RegionLaw
import Derived.Test.YtofeknacbdcoaaaGreatDoorK02
set_option maxHeartbeats 8000000
set_option maxRecDepth 100000
set_option linter.unusedVariables false
set_option linter.unusedSimpArgs false
open Go.Proofs.Tryz
open Go.Value (int)
open Go.IntKind (i64)
namespace Go.Proofs.YtofeknacbdcoaaaGreatDoor
open Go.RowKit Go.Lib Go.Sort
theorem toDesk_c(d cs f w)(h1:Bb w f cs d)(af:FV d<=1048576):
  Calls prog 19 #[.agg cs] w (I5 Bb d w):=by
 dsimp only[Bb]at h1;obtain⟨v0,v1,v2,f0,f1,f2,e,-,o0,o1,r0,r1,r2⟩:=h1;subst e;unfold FV at af;obtain⟨ac,H0,H1,H2⟩:=zH (And.intro o0 o1) r0 r1 r2;obtain⟨A0,c0,rfl,-⟩:=rSl.head r0;obtain⟨A1,c1,rfl,-⟩:=rSl.head r1;obtain⟨A2,c2,rfl,-⟩:=rSl.head r2;obtain⟨ah,ai,aj⟩:=zI (show AH Cm d.queues<=1048576 by omega) (show AH BM d.aside<=1048576 by omega) (show AH Ch d.answers<=1048576 by omega);clear r0 r1 r2 o0 o1 af;have hB:Below w w (((w.alloc (.cells (zB d A0 c0 A1 c1 A2 c2) 33)).alloc (.cells yV 47)).alloc (.cells yV 47)):=(((aC _ _).alloc (aD _) _).alloc zX _).alloc zV _;obtain⟨k0,k1,k2,N1⟩:=zH (show Blk (((w.alloc (.cells (zB d A0 c0 A1 c1 A2 c2) 33)).alloc (.cells yV 47)).alloc (.cells yV 47)) w 33 (zB d A0 c0 A1 c1 A2 c2) from((Blk.new w 33 (zB d A0 c0 A1 c1 A2 c2)).alloc (.cells yV 47)).alloc (.cells yV 47)) (show Blk (((w.alloc (.cells (zB d A0 c0 A1 c1 A2 c2) 33)).alloc (.cells yV 47)).alloc (.cells yV 47)) (w.heap.size+1) 47 yV from(Blk.new1 w (.cells (zB d A0 c0 A1 c1 A2 c2) 33) 47 yV).alloc (.cells yV 47)) (show Blk (((w.alloc (.cells (zB d A0 c0 A1 c1 A2 c2) 33)).alloc (.cells yV 47)).alloc (.cells yV 47)) (w.heap.size+1+1) 47 yV from Blk.new2 w (.cells (zB d A0 c0 A1 c1 A2 c2) 33) (.cells yV 47) 47 yV) hB;clear hB;go_enter func19,ntmps19
 go_wp2_with fail
 refine(Px _ d.queues f0 _ (rSl.B (Ai.L Ag.L) (Ai.X Ag.X) H0.o N1.o) ah.o).M ?_;rintro e w2 ⟨n,q,g0,rfl,q0,aa,h⟩;simp only[World.size_alloc]at aa;obtain⟨x0,x1,i,X1,u,Q0⟩:=zF (Blk.B k0.o h k0.o.lt) (Blk.B k1.o h k1.o.lt) (Blk.B k2.o h k2.o.lt) ((N1.o).T (h.M (N1.o).size)) (show∀a,a∈g0->w.heap.size+3<=a.block from fun a c => by have:=aa a c;omega) q0;have z3:w.heap.size+1+1<w2.heap.size:=i.o.lt;clear aa q0 h k0 k1 k2 N1;have z2:=z3;clear z3;have s1:=Blk.cell i.o 0;have t1:=Blk.frozen i.o 0;have p1:=Blk.cell x0.o 1;simp at p1 s1;go_wp2_with fail
 have l:Below w w (w2.setCell (zE (w.heap.size+1+1)) (.slice n d.queues.length q)):=X1.o.setCell (show w.heap.size<=w.heap.size+1+1 by omega) _;obtain⟨y0,y1,y2,R0⟩:=zH (Blk.far x0.o (p:=⟨w.heap.size+1+1,0,none⟩) zV (.slice n d.queues.length q)) (Blk.far x1.o (p:=⟨w.heap.size+1+1,0,none⟩) zX (.slice n d.queues.length q)) (show Blk (w2.setCell (zE (w.heap.size+1+1)) (.slice n d.queues.length q)) (w.heap.size+1+1) 47 #[.slice n d.queues.length q,zQ,zQ,(),()]from Blk.set_ i.o 0 (.slice n d.queues.length q)) (show rSl 1 (Ai 4 Ag) (w2.setCell (zE (w.heap.size+1+1)) (.slice n d.queues.length q)) g0 (.slice n d.queues.length q) d.queues from(Q0.o.keep (Ai.L Ag.L) (AV.set_ _ u.o zX _)));refine(Lf _ d.aside f1 _ (rSl.B Ag.L Ag.X H1.o l) ai.o).M ?_;rintro e w3 ⟨r,s,g1,rfl,q1,ad,h⟩;clear s1 t1 p1 x0 x1 i X1 Q0;obtain⟨x0,x1,i,X1⟩:=zH (Blk.B y0.o h y0.o.lt) (Blk.B y1.o h y1.o.lt) (Blk.B y2.o h y2.o.lt) ((l).T (h.M (l).size));obtain⟨x,Q1,Q0⟩:=zI (show∀a,a∈g1->w.heap.size+3<=a.block from fun a c => by have:=ad a c;(try simp only[World.size_setCell]at this);omega) q1 (rSl.B (Ai.L Ag.L) (Ai.X Ag.X) R0.o h);have z3:w.heap.size+1+1<w3.heap.size:=i.o.lt;clear z2 ad q1 h y0 y1 y2 l R0;have z2:=z3;clear z3;have s2:=Blk.cell i.o 1;have t2:=Blk.frozen i.o 1;have p2:=Blk.cell x0.o 2;simp at p2 s2;go_wp2_with fail
 have l:Below w w (w3.setCell (zO (w.heap.size+1+1) 1) (.slice r d.aside.length s)):=X1.o.setCell (show w.heap.size<=w.heap.size+1+1 by omega) _;obtain⟨y0,y1,y2,R0,R1⟩:=zG (Blk.far x0.o (p:=⟨w.heap.size+1+1,1,none⟩) zV (.slice r d.aside.length s)) (Blk.far x1.o (p:=⟨w.heap.size+1+1,1,none⟩) zX (.slice r d.aside.length s)) (show Blk (w3.setCell (zO (w.heap.size+1+1) 1) (.slice r d.aside.length s)) (w.heap.size+1+1) 47 #[.slice n d.queues.length q,.slice r d.aside.length s,zQ,(),()]from Blk.set_ i.o 1 (.slice r d.aside.length s)) (show rSl 1 (Ai 4 Ag) (w3.setCell (zO (w.heap.size+1+1) 1) (.slice r d.aside.length s)) g0 (.slice n d.queues.length q) d.queues from(Q0.o.keep (Ai.L Ag.L) (AV.set_ _ u.o zX _))) (show rSl 4 Ag (w3.setCell (zO (w.heap.size+1+1) 1) (.slice r d.aside.length s)) g1 (.slice r d.aside.length s) d.aside from(Q1.o.keep Ag.L (AV.set_ _ x.o zX _)));refine(Qp _ d.answers f2 _ (rSl.B AB.L AB.X H2.o l) aj.o).M ?_;rintro e w4 ⟨z,e2,g2,rfl,q2,ae,h⟩;clear s2 t2 p2 x0 x1 i X1 Q0 Q1;obtain⟨x0,x1,i,X1,y,Q2⟩:=zF (Blk.B y0.o h y0.o.lt) (Blk.B y1.o h y1.o.lt) (Blk.B y2.o h y2.o.lt) ((l).T (h.M (l).size)) (show∀a,a∈g2->w.heap.size+3<=a.block from fun a c => by have:=ae a c;(try simp only[World.size_setCell]at this);omega) q2;have Q0:=zq (rSl.B (Ai.L Ag.L) (Ai.X Ag.X) R0.o h);have Q1:=zq (rSl.B Ag.L Ag.X R1.o h);have z3:w.heap.size+1+1<w4.heap.size:=i.o.lt;clear z2 ae q2 h y0 y1 y2 l R0 R1;have z2:=z3;clear z3;have s2:=Blk.cell i.o 2;have t2:=Blk.frozen i.o 2;have s3:=Blk.cell i.o 3;have t3:=Blk.frozen i.o 3;have s4:=Blk.cell i.o 4;have t4:=Blk.frozen i.o 4;have p3:=Blk.cell x0.o 3;have p4:=Blk.cell x0.o 4;simp at s2 s3 s4 p3 p4;have K2:=zq (show Blk (((w4.setCell (zO (w.heap.size+1+1) 2) (.slice z d.answers.length e2)).setCell (zO (w.heap.size+1+1) 3) (int i64 d.turn)).setCell (zO (w.heap.size+1+1) 4) (int i64 d.next)) (w.heap.size+1+1) 47 (zB d n q r s z e2) from Blk.set_ (Blk.set_ (Blk.set_ i.o 2 (.slice z d.answers.length e2)) 3 (int i64 d.turn)) 4 (int i64 d.next));have K1:=zq (show Blk (((w4.setCell (zO (w.heap.size+1+1) 2) (.slice z d.answers.length e2)).setCell (zO (w.heap.size+1+1) 3) (int i64 d.turn)).setCell (zO (w.heap.size+1+1) 4) (int i64 d.next)) (w.heap.size+1) 47 yV from Blk.far (Blk.far (Blk.far x1.o zX _) zX _) zX _);have ag:=zq (Blk.range K2.o 0 (zB d n q r s z e2) rfl);have ak:=zq (Blk.there K1.o 5 zX);go_wp2_with (first
  |(refine aE rfl 47 _ rfl (w.heap.size+1+1) 0 rfl (zB d n q r s z e2) _ ?_ underlying47 rfl zY ?_;(focus (exact ag.o)))
  |(refine aV rfl 47 _ _ rfl (w.heap.size+1) 0 (zB d n q r s z e2) rfl rfl ?_ zY zU ?_;(focus (exact ak.o))))
 have KF:=K1.o.laid (zB d n q r s z e2) rfl;refine bodyPost_ret (results_cell_row rfl _ _ (w.heap.size+1) 47 (zB d n q r s z e2) (0,0) _ rfl KF underlying47 rfl zY) rfl ?_;have ab:∀(g:List Addr),(∀a,a∈g->w.heap.size+3<=a.block)->∀a,a∈g->w.heap.size<=a.block:=fun g hg a c => by have:=hg a c;omega
 refine⟨(zB d n q r s z e2),g0 ++(g1 ++ g2),rfl,⟨_,_,_,g0,g1,g2,rfl,rfl,ac.o.1,ac.o.2,?_,?_,?_⟩,fun a c => ?_,?_⟩
 ·exact(((Q0.o.keep (Ai.L Ag.L) (AV.set_ _ u.o zX _)).keep (Ai.L Ag.L) (AV.set_ _ u.o zX _)).keep (Ai.L Ag.L) (AV.set_ _ u.o zX _)).keep (Ai.L Ag.L) (Ep _ _ _ _ fun a c => by have:=u.o a c;omega)
 ·exact(((Q1.o.keep Ag.L (AV.set_ _ x.o zX _)).keep Ag.L (AV.set_ _ x.o zX _)).keep Ag.L (AV.set_ _ x.o zX _)).keep Ag.L (Ep _ _ _ _ fun a c => by have:=x.o a c;omega)
 ·exact(((Q2.o.keep AB.L (AV.set_ _ y.o zX _)).keep AB.L (AV.set_ _ y.o zX _)).keep AB.L (AV.set_ _ y.o zX _)).keep AB.L (Ep _ _ _ _ fun a c => by have:=y.o a c;omega)
 ·rcases List.mem_append.1 c with c|c
  ·exact ab _ u.o a c
  ·rcases List.mem_append.1 c with c|c
   ·exact ab _ x.o a c
   ·exact ab _ y.o a c
 ·exact Below.setCells_ _ _ _ _ zZ (((X1.o.setCell zV _).setCell zV _).setCell zV _)
theorem AG.parts {w f cs d}(h:AG w f cs d):∃c1 c2 i l,cs=c1 ++ c2/\f=i ++ l/\AF w i c1 d.world/\Bb w l c2 d.desk:=by
 dsimp only[AG]at h;obtain⟨v0,v1,v2,v3,v4,v5,x,i,l,y,z,f5,e,ef,o0,o1,o2,o3,o4,o5,o6,o7,o8,o9,n,o,r,h0,h1,h2,h3,h4,h5⟩:=h;refine⟨[d.world.s.g,d.world.s.c,d.world.s.data,d.world.s.p,d.world.s.rows,d.world.s.cap,d.world.s.b,d.world.s.q,d.world.s.t,v0,v1,v2,d.world.u,d.world.stop,.bool d.world.down],[v3,v4,v5,d.desk.turn,d.desk.next],x ++(i ++ l),y ++(z ++ f5),by rw[e];rfl,by rw[ef];simp only[List.append_assoc],?_,?_⟩
 ·exact⟨v0,v1,v2,x,i,l,rfl,rfl,o0,o1,o2,o3,o4,o5,o6,o7,o8,o9,n,h0,h1,h2⟩
 ·exact⟨v3,v4,v5,y,z,f5,rfl,rfl,o,r,h3,h4,h5⟩
theorem AG.of {w l n c1 c2}{d:AX}(h1:AF w l c1 d.world)(o:Bb w n c2 d.desk):AG w (l ++ n) (c1 ++ c2) d:=by
 dsimp only[AF,Bb]at h1 o;obtain⟨v0,v1,v2,r,g1,g2,e,q,y,z,o2,o3,o4,o5,o6,o7,o8,o9,f,r0,r1,r2⟩:=h1;obtain⟨v3,v4,v5,s,u,x,p,c,h,i,r3,r4,r5⟩:=o;exact⟨v0,v1,v2,v3,v4,v5,r,g1,g2,s,u,x,by rw[e,p];rfl,by rw[q,c];simp only[List.append_assoc],y,z,o2,o3,o4,o5,o6,o7,o8,o9,f,h,i,r0,r1,r2,r3,r4,r5⟩
theorem Fb {w:World}{g o}{a b:List Value}(h:w.rangeAt g o (a ++ b)):w.rangeAt g o a:=fun q v hq => h q v (by
 obtain⟨c,e⟩:=List.getElem?_eq_some_iff.1 hq;rw[List.getElem?_append_left c];exact hq)
theorem Ey {w:World}{g o}{a b:List Value}(h:w.rangeAt g o (a ++ b)):w.rangeAt g (o+a.length) b:=fun q v hq => by
 have:=h (a.length+q) v (by rw[List.getElem?_append_right zZ];simpa using hq);rw[<-Nat.add_assoc]at this;exact this
theorem Qn(d cs f w)(left:Int)(h1:AG w f cs d)(hl:0<=left)(aj:left<=1048576):
  Calls prog 4 #[.agg cs,int i64 left] w (zN (int i64 (BL left (DH d))) w):=by
 obtain⟨c1,c2,g1,g2,rfl,-,hw,hd⟩:=h1.parts;clear h1;have l:=AF.wide _ _ _ _ hw;have ai:=Bb.wide _ _ _ _ hd;obtain⟨W1,q⟩:∃W1,w.alloc (.cells (c1 ++ c2).toArray 35)=W1:=zJ;have B1:Below w w W1:=by rw[<-q];exact(aC _ _).alloc (aD _) _
 have K1:Blk W1 w 35 (c1 ++ c2).toArray:=by rw[<-q];exact Blk.new w _ _
 have p:=zq (Fb (Blk.rangeAll K1));have ac:w.heap.size<W1.heap.size:=K1.lt;obtain⟨y,ae,c,HK⟩:=zH (show(prog.info? 28).map (·.size)=some c1.length by rw[l];kernel_rfl) (show(prog.info? 33).map (·.size)=some c2.length by rw[ai];kernel_rfl) (T0 d.world c1 g1 W1 left (AC.B AF.L AF.X hw B1) hl aj) K1;obtain⟨x,HD,ad⟩:=zI B1 (AC.B Bb.L Bb.X hd B1) l;obtain⟨r,hr⟩:∃r,BL left (DH d)=r:=zJ;rw[hr];have hF:DH d=Fg d.world+FV d.desk:=rfl;rw[hF]at hr;obtain⟨n,aa⟩:∃n,Fg d.world=n:=zJ;obtain⟨m1,ab⟩:∃m1,FV d.desk=m1:=zJ;rw[aa]at c;rw[aa,ab]at hr;have ah:=zq ab;have HR:=zq hr;clear hr hF aa ab hw hd K1 B1 l ai;rw[<-q]at c p HK x HD ac;clear q;by_cases q0:left<(n:Int)
 ·have e1:r= -1:=by rw[<-HR.o];exact AM zZ
  subst e1;rw[AM q0]at c;go_enter func4,ntmps4
  go_wp2_with (first
   |(refine aE rfl 28 _ rfl w 0 rfl c1 _ p.o underlying28 rfl y.o ?_)
   |(go_at_call 9;refine c.o.M ?_;rintro e s ⟨rfl,h⟩;have u:=zq (x.o.T (h.M x.o.size));clear h))
  go_ret
  exact⟨rfl,u.o⟩
 have al:¬left - (n:Int)<0:=by omega
 rw[Bd q0]at c;have af:=zq (show 0<=left - (n:Int) by omega);have ag:=zq (show left - (n:Int)<=1048576 by omega);by_cases q1:left - (n:Int)<(m1:Int)
 ·have e1:r= -1:=by rw[<-HR.o];exact AM zZ
  subst e1;go_enter func4,ntmps4
  go_wp2_with (first
   |(refine aE rfl 28 _ rfl w 0 rfl c1 _ p.o underlying28 rfl y.o ?_)
   |(go_at_call 9;refine c.o.M ?_;rintro e s ⟨rfl,h⟩;have u:=zq (x.o.T (h.M x.o.size));have z:=zq (show s.rangeAt w 15 c2 from by have:=Ey (Blk.rangeAll (HK.o.B h HK.o.lt));rw[ad.o]at this;exact this);have ak:w.heap.size<s.heap.size:=aH ac h.size;have i:=zq (Ps d.desk c2 g2 s (left - (n:Int)) (AC.B Bb.L Bb.X HD.o h) af.o ag.o);rw[ah.o,AM q1]at i;clear h)
   |(refine aE rfl 33 _ rfl w 15 rfl c2 _ z.o underlying33 rfl ae.o ?_)
   |(go_at_call 10;refine i.o.M ?_;rintro e w3 ⟨rfl,b3⟩;have B3:=zq (u.o.T (b3.M u.o.size));clear b3))
  go_ret
  exact⟨rfl,B3.o⟩
 have am:¬left - (n:Int) - (m1:Int)<0:=by omega
 have e1:r=left - (n:Int) - (m1:Int):=by rw[<-HR.o,Bd zZ];omega
 subst e1;go_enter func4,ntmps4
 go_wp2_with (first
  |(refine aE rfl 28 _ rfl w 0 rfl c1 _ p.o underlying28 rfl y.o ?_)
  |(go_at_call 9;refine c.o.M ?_;rintro e s ⟨rfl,h⟩;have u:=zq (x.o.T (h.M x.o.size));have z:=zq (show s.rangeAt w 15 c2 from by have:=Ey (Blk.rangeAll (HK.o.B h HK.o.lt));rw[ad.o]at this;exact this);have ak:w.heap.size<s.heap.size:=aH ac h.size;have i:=zq (Ps d.desk c2 g2 s (left - (n:Int)) (AC.B Bb.L Bb.X HD.o h) af.o ag.o);rw[ah.o,Bd q1]at i;clear h)
  |(refine aE rfl 33 _ rfl w 15 rfl c2 _ z.o underlying33 rfl ae.o ?_)
  |(go_at_call 10;refine i.o.M ?_;rintro e w3 ⟨rfl,b3⟩;have B3:=zq (u.o.T (b3.M u.o.size));clear b3))
 go_ret
 exact⟨rfl,B3.o⟩
theorem sizeSC:∀(c:List Value) (b o:Nat) (w:World),(w.setCells b o c).heap.size =w.heap.size
 | [],_,_,_ => rfl
 |v :: r,b,o,w =>(sizeSC r b (o+1) _).T (World.size_setCell _ _ _)
theorem Ma {cs:Array Value}{o:Nat}{c:List Value}(h:o+c.length<=cs.size):E2 cs o c=(cs.toList.take o ++(c ++ cs.toList.drop (o+c.length))).toArray:=by
 apply Array.ext_getElem?
 intro i;have e:(List.take o cs.toList ++(c ++ List.drop (o+c.length) cs.toList)).toArray[i]? =(List.take o cs.toList ++(c ++ List.drop (o+c.length) cs.toList))[i]?:=by rw[List.getElem?_toArray]
 rw[F6 c o cs h,e];by_cases f:i<o
 ·rw[aM f,List.getElem?_append_left zV,List.getElem?_take,aM f];simp
 ·rw[aJ f,List.getElem?_append_right zV];rw[show i - (cs.toList.take o).length =i - o from by simp;omega];by_cases l:i<o+c.length
  ·rw[aM l,List.getElem?_append_left zZ]
  ·rw[aJ l,List.getElem?_append_right zZ,List.getElem?_drop,show o+c.length+(i - o - c.length)=i by omega];simp
theorem Qq(d cs f w)(h1:AG w f cs d)(ar:DH d<=1048576):
  Calls prog 6 #[.agg cs] w (I5 AG d w):=by
 obtain⟨c1,c2,g1,g2,rfl,-,hw,hd⟩:=h1.parts;clear h1;have s:=AF.wide _ _ _ _ hw;have aq:=Bb.wide _ _ _ _ hd;unfold DH at ar;have hB:Below w w (((w.alloc (.cells (c1 ++ c2).toArray 35)).alloc (.cells yU 49)).alloc (.cells yU 49)):=(((aC _ _).alloc (aD _) _).alloc zX _).alloc zV _;have k0:Blk (((w.alloc (.cells (c1 ++ c2).toArray 35)).alloc (.cells yU 49)).alloc (.cells yU 49)) w 35 (c1 ++ c2).toArray:=((Blk.new w 35 (c1 ++ c2).toArray).alloc (.cells yU 49)).alloc (.cells yU 49);have k1:Blk (((w.alloc (.cells (c1 ++ c2).toArray 35)).alloc (.cells yU 49)).alloc (.cells yU 49)) (w.heap.size+1) 49 yU:=(Blk.new1 w (.cells (c1 ++ c2).toArray 35) 49 yU).alloc (.cells yU 49);have k2:Blk (((w.alloc (.cells (c1 ++ c2).toArray 35)).alloc (.cells yU 49)).alloc (.cells yU 49)) (w.heap.size+1+1) 49 yU:=Blk.new2 w (.cells (c1 ++ c2).toArray 35) (.cells yU 49) 49 yU;obtain⟨an,a1,ay,ax,a4,a2⟩:=zF (show(((w.alloc (.cells (c1 ++ c2).toArray 35)).alloc (.cells yU 49)).alloc (.cells yU 49)).heap.size =w.heap.size+3 by simp) (Fb (Blk.rangeAll k0)) (show(prog.info? 28).map (·.size)=some c1.length by rw[s];kernel_rfl) (show(prog.info? 33).map (·.size)=some c2.length by rw[aq];kernel_rfl) (Ud d.world c1 g1 _ (AC.B AF.L AF.X hw hB) zZ) (fun(W:World) (hW:Below w w W) => toDesk_c d.desk c2 g2 W (AC.B Bb.L Bb.X hd hW) zZ);obtain⟨au,HB,ai,aj,ak⟩:=zG s hB k0 k1 k2;clear hw hd hB k0 k1 k2 s aq ar;go_enter func6,ntmps6
 go_wp2_with (refine aE rfl 28 _ rfl w 0 rfl c1 _ a1.o underlying28 rfl ay.o ?_)
 refine a4.o.M ?_;rintro e w1 ⟨c,h1,rfl,r1,z,b1⟩;rw[an.o]at z;have l1:=AF.wide _ _ _ _ r1;obtain⟨K0,K1,K2,B1⟩:=zH (ai.o.B b1 ai.o.lt) (aj.o.B b1 aj.o.lt) (ak.o.B b1 ak.o.lt) (HB.o.T (b1.M HB.o.size));obtain⟨a3,av,az⟩:=zI (show w1.there (w.heap.size+1+1) 0 c.toArray.size by rw[show c.toArray.size=15 from List.size_toArray.T l1];exact Blk.there K2.o 15 zX) (show(prog.info? 42).map (·.size)=some c.toArray.size by rw[show c.toArray.size=15 from List.size_toArray.T l1];kernel_rfl) (all_oneCell_toArray (AF.ones _ _ _ _ r1));obtain⟨x,n⟩:∃x,w1.setCells (w.heap.size+1+1) 0 c.toArray.toList=x:=zJ;obtain⟨a5,N0,N1⟩:=zI n (show Blk x w 35 (c1 ++ c2).toArray by rw[<-n];exact Blk.farS _ _ _ _ zZ K0.o) (show Blk x (w.heap.size+1) 49 yU by rw[<-n];exact Blk.farS _ _ _ _ zZ K1.o);have N2:=zq (show Blk x (w.heap.size+1+1) 49 (c ++(yV:List Value)).toArray by
  rw[<-n];have h:=Blk.setCells_ c.toArray.toList 0 _ _ K2.o;rw[Ma (by simp[l1])]at h;simpa [l1]using h)
 have X1:=zq (show Below w w x by rw[<-n];exact Below.setCells_ _ _ _ _ zZ B1.o);have am:=zq (show w.heap.size+3<=x.heap.size by
  have h1:=b1.size;rw[an.o]at h1;have h2:x.heap.size=w1.heap.size:=by rw[<-n];exact sizeSC _ _ _ _
  omega)
 obtain⟨R1,a0,af,L1⟩:=zH (show AF x h1 c d.world by rw[<-n];exact AF.L _ _ _ _ _ r1 (Ep _ _ _ _ fun a i => by have:=z a i;omega)) (show x.rangeAt w 15 c2 from by have:=Ey (Blk.rangeAll N0.o);rw[au.o]at this;exact this) z l1;have zx:w.heap.size<x.heap.size:=N0.o.lt;clear r1 z b1 n l1 K0 K1 K2 B1;go_wp2_with (first
  |(refine aV rfl 42 _ _ rfl (w.heap.size+1+1) 0 c.toArray rfl rfl a3.o av.o az.o ?_;rw[a5.o])
  |(refine aE rfl 33 _ rfl w 15 rfl c2 _ a0.o underlying33 rfl ax.o ?_))
 refine(a2.o _ X1.o).M ?_;rintro e w2 ⟨p,h2,rfl,r2,ag,b2⟩;have l2:=Bb.wide _ _ _ _ r2;obtain⟨M1,M2,B2,ap⟩:=zH (N1.o.B b2 N1.o.lt) (N2.o.B b2 N2.o.lt) (X1.o.T (b2.M X1.o.size)) (AC.B AF.L AF.X R1.o b2);have ao:=zq (show w2.there (w.heap.size+1+1) 15 p.toArray.size by
  rw[show p.toArray.size=5 from List.size_toArray.T l2];intro j hj;have h:=Blk.there M2.o 20 (by simp[L1.o]) (15+j) zZ;simpa using h)
 have aw:=zq (show(prog.info? 47).map (·.size)=some p.toArray.size by rw[show p.toArray.size=5 from List.size_toArray.T l2];kernel_rfl);have al:=zq (all_oneCell_toArray (Bb.ones _ _ _ _ r2));obtain⟨y,r⟩:∃y,w2.setCells (w.heap.size+1+1) 15 p.toArray.toList=y:=zJ;have a6:=zq r;have P1:=zq (show Blk y (w.heap.size+1) 49 yU by rw[<-r];exact Blk.farS _ _ _ _ zZ M1.o);have P2:=zq (show Blk y (w.heap.size+1+1) 49 (c ++ p).toArray by
  rw[<-r];have h:=Blk.setCells_ p.toArray.toList 15 _ _ M2.o;rw[Ma (by simp[L1.o,l2])]at h;have e:List.take 15 (c ++(yV:List Value))=c:=by rw[<-L1.o,List.take_left]
  have e2:List.drop 20 (c ++(yV:List Value))= []:=List.drop_of_length_le (by simp[L1.o]);simpa [e,e2,l2]using h)
 obtain⟨X2,S1,S2⟩:=zI (show Below w w y by rw[<-r];exact Below.setCells_ _ _ _ _ zZ B2.o) (show AF y h1 c d.world by rw[<-r];exact AF.L _ _ _ _ _ ap.o (Ep _ _ _ _ fun a i => by have:=af.o a i;omega)) (show Bb y h2 p d.desk by rw[<-r];exact Bb.L _ _ _ _ _ r2 (Ep _ _ _ _ fun a i => by have:=ag a i;have:=am.o;omega));have l:(c ++ p).length =20:=by rw[aU,L1.o,l2]
 obtain⟨ah,ad,aa,q⟩:=zH (show∀a,a∈h2->w.heap.size+3<=a.block from fun a i => by have:=ag a i;have:=am.o;omega) (Blk.rangeAll P2.o) (show(prog.info? 49).map (·.size)=some (c ++ p).length by rw[l];kernel_rfl) (show(prog.info? 49).map (·.size)=some (c ++ p).toArray.size by rw[show(c ++ p).toArray.size =20 from List.size_toArray.T l];kernel_rfl);obtain⟨ae,ac,ab⟩:=zI (show y.there (w.heap.size+1) 0 (c ++ p).toArray.size by rw[show(c ++ p).toArray.size =20 from List.size_toArray.T l];exact Blk.there P1.o 20 zX) (all_oneCell_toArray (AG.ones _ _ _ _ (AG.of S1.o S2.o))) l;have a7:w.heap.size+1<y.heap.size:=P1.o.lt;have a8:w.heap.size+1+1<y.heap.size:=P2.o.lt;clear r2 ag b2 r l2 l zx M1 M2 B2 ap N0 N1 N2 R1;obtain⟨u,hu⟩:∃u,c ++ p=u:=zJ;rw[hu]at P2 ad aa q ae ac ab;have HU:=zq hu;clear hu;go_wp2_with (first
  |(refine aV rfl 47 _ _ rfl (w.heap.size+1+1) 15 p.toArray rfl rfl ao.o aw.o al.o ?_;rw[a6.o])
  |(refine aE rfl 49 _ rfl (w.heap.size+1+1) 0 rfl u _ ad.o underlying49 rfl aa.o ?_)
  |(refine aV rfl 49 _ _ rfl (w.heap.size+1) 0 u.toArray rfl rfl ae.o q.o ac.o ?_))
 have KF:=P1.o.laid u.toArray.toList (by simp[ab.o]);refine bodyPost_ret (results_cell_row rfl _ _ (w.heap.size+1) 49 u.toArray (0,0) _ rfl (show Blk _ _ _ _ from by simpa using KF) underlying49 rfl q.o) rfl ?_;refine⟨u,h1 ++ h2,rfl,?_,fun a i => ?_,Below.setCells_ _ _ _ _ zZ X2.o⟩
 ·rw[<-HU.o];exact AG.of (AF.L _ _ _ _ _ S1.o (Ep _ _ _ _ fun a i => by have:=af.o a i;omega)) (Bb.L _ _ _ _ _ S2.o (Ep _ _ _ _ fun a i => by have:=ah.o a i;omega))
 ·rcases List.mem_append.1 i with i|i
  ·have:=af.o a i;omega
  ·have:=ah.o a i;omega
end Go.Proofs.YtofeknacbdcoaaaGreatDoor
namespace Go.Proofs.YtofeknacbdcoaaaGreatDoor
open Go.RowKit
def Cc(k:Nat):UInt8:=if k<10 then UInt8.ofNat (48+k)else UInt8.ofNat (87+k)
def F4(l:List UInt8):List UInt8:=l.flatMap fun b => [Cc (b.toNat / 16),Cc (b.toNat % 16)]
def Gl(l:List UInt8):ByteArray:=⟨(F4 l).toArray⟩
theorem FC(l:List UInt8):(F4 l).length =2 * l.length:=by
 induction l with
 |nil => rfl
 |cons b l ih => simp only[F4,List.flatMap_cons,aU,List.length_cons,List.length_nil]at *;omega
theorem Ni(l:List UInt8)(b:UInt8):F4 (l ++ [b])=F4 l ++ [Cc (b.toNat / 16),Cc (b.toNat % 16)]:=by simp[F4]
def hexD:ByteArray:={ data:=#[48,49,50,51,52,53,54,55,56,57,97,98,99,100,101,102] }
theorem Ow:∀k,k<16->hexD.extract k (k+1)=⟨#[Cc k]⟩:=by decide +kernel
theorem Ox:∀k,(h:k<16)->hexD[k]'(by show k<16;exact h)=Cc k:=by decide +kernel
theorem Bz(a b:List UInt8):(⟨a.toArray⟩:ByteArray) ++⟨b.toArray⟩=⟨(a ++ b).toArray⟩:=by
 apply ByteArray.ext
 simp
theorem OM(v:Int)(c:0<=v)(hv:v<16)(w:World):
  Calls prog 46 #[.int .u8 v] w (zM (.string ⟨[Cc v.toNat].toArray⟩) w):=by
 obtain⟨n,rfl⟩:=Int.eq_ofNat_of_zero_le c;have H:=zq (Ow n zZ);go_enter func46,ntmps46
 go_wp2
 go_ret
 exact⟨I1 H.o,rfl⟩
theorem Qj(v)(xs:List UInt8)(fs w)(h1:Ah w fs v xs)(ad:xs.length<=1048576):
  Calls prog 14 #[v] w (zN (.string (Gl xs)) w):=by
 obtain⟨A1,c1,rfl,ab,ac,r⟩:=Ah.open_ h1;clear h1;go_enter func14,ntmps14
 go_wp2
 go_loopw [3,4] (fun o i wr =>∃j:Nat,j<=xs.length/\i=j/\o= .string (Gl (xs.take j))/\Below w w wr) (fun _ i _ => xs.length - (intOf i).toNat)
 ·exact⟨0,by omega,rfl,rfl,aC _ _⟩
 ·obtain⟨j,hj,rfl,rfl,c⟩:=hrel;by_cases h:j<xs.length
  ·obtain⟨x,z,_,y,g1⟩:=r j h;subst z;have aa:=(c.cell (p:=x.add j) y).T g1;clear g1 r;have hb:=UInt8.toNat_lt xs[j];have u:=zq (show Gl (xs.take j) ++⟨[Cc (xs[j].toNat / 16)].toArray⟩ ++⟨[Cc (xs[j].toNat % 16)].toArray⟩=Gl (xs.take (j+1))from by
    unfold Gl;rw[Bz,Bz,aK h,Ni,List.append_assoc];rfl)
   have n:(Gl (xs.take j)).size =2 * j:=by show(F4 _).toArray.size =_;simp[FC];omega
   have n1:¬9223372036854775807<(Gl (xs.take j)).size +1:=by omega
   have n2:¬9223372036854775807<(Gl (xs.take j)).size +1+1:=by omega
   clear n;generalize Gl (xs.take j)=S at *;go_wp2
   refine wp_region_quiet_lit zY zY ?_;repeat(first|go_big_quiet_step ((go_at_call 46;refine quietL (OM _ ?_ ?_ _) <;> omega))|quiet_step ((go_at_call 46;refine quietL (OM _ ?_ ?_ _) <;> omega)))
   refine aQ ?_;intro _ q;obtain⟨nq,l⟩:=q;subst l;go_wp2
   go_roundw
   ·exact⟨j+1,by omega,by go_num,by rw[<-u.o],AT c _⟩
   ·simp[intOf];omega
  ·have f:xs.take j=xs:=bB zZ;have s:=zq f;clear f r;go_wp2
   go_ret
   exact⟨I1 (by rw[s.o]),c⟩
theorem Lg(B b:Nat)(bs c w)(h:Lib.IsBuilder 73 5 B b bs w)(f:bs.length+1<=140737488355328)(i:B<=w.heap.size):
  Calls prog 62 #[.pointer (some (zE b)),.int .u8 c] w fun e w' => e= .returned .nilIface/\Lib.IsBuilder 73 5 B b (bs ++ [.int .u8 c]) w'/\Below B w w' :=
 (Tryz.writeByte B b bs c w h f i).M fun _ _ l =>⟨l.1,.inr l.2.1,l.2.2⟩
theorem IV(l:List UInt8)(b:UInt8):Lib.byteCells (l ++ [b])=Lib.byteCells l ++ [.int .u8 (b.toNat:Int)]:=by simp[Lib.byteCells]
theorem GM(l:List UInt8):(Lib.byteCells l).length =l.length:=by simp[Lib.byteCells]
theorem PP(v)(xs:List UInt8)(fs w)(h1:Ah w fs v xs)(ag:xs.length<=1048576):
  Calls prog 26 #[v] w (zN (.string (Gl xs)) w):=by
 obtain⟨A1,c1,rfl,ae,af,hx⟩:=Ah.open_ h1;clear h1;go_enter func26,ntmps26
 go_wp2
 go_loopw [9] (fun i wr =>∃j:Nat,j<=xs.length/\i=j/\Lib.IsBuilder 73 5 w.heap.size w (Lib.byteCells (F4 (xs.take j))) wr/\Below w w wr) (fun i _ => xs.length - (intOf i).toNat)
 ·exact⟨0,by omega,rfl,Lib.fresh_isBuilder _ _ _,(aC _ _).alloc (aD _) _⟩
 ·obtain⟨j,hj,rfl,n,f⟩:=hrel;by_cases aa:j<xs.length
  ·obtain⟨a1,e1,_,b1,g1⟩:=hx j aa;subst e1;have ad:=(f.cell (p:=a1.add j) b1).T g1;clear g1 hx;have hb:=UInt8.toNat_lt xs[j];have q1:xs[j].toNat / 16<16:=by omega
   have q2:xs[j].toNat % 16<16:=by omega
   have ab:=zq (Ox (xs[j].toNat / 16) q1);have ac:=zq (Ox (xs[j].toNat % 16) q2);have hl:(F4 (xs.take j)).length =2 * j:=by rw[FC,aX];omega
   have HS:=zq (show F4 (xs.take (j+1))=F4 (xs.take j) ++ [Cc (xs[j].toNat / 16),Cc (xs[j].toNat % 16)]from by rw[aK aa,Ni]);generalize F4 (xs.take j)=S at *;have HL:=zq hl;clear hl;have x:=f.size;have h:(Lib.byteCells S).length +1<=140737488355328:=by rw[GM,HL.o];omega
   go_wp2_with fail
   refine(Lg w w (Lib.byteCells S) _ wr n h x).M ?_;rintro e w1 ⟨rfl,hu,c⟩;have s:Lib.IsBuilder 73 5 w.heap.size w (Lib.byteCells (S ++ [Cc (xs[j].toNat / 16)])) w1:=by
    rw[IV,<-ab.o];exact hu
   clear hu n h;have y:=aZ x c.size;have q:=f.T c;have l:(Lib.byteCells (S ++ [Cc (xs[j].toNat / 16)])).length +1<=140737488355328:=by rw[GM,aU,HL.o];simp;omega
   clear f c x ad;go_wp2_with fail
   refine(Lg w w _ _ w1 s l y).M ?_;rintro e w2 ⟨rfl,hu,r⟩;have u:Lib.IsBuilder 73 5 w.heap.size w (Lib.byteCells (S ++ [Cc (xs[j].toNat / 16),Cc (xs[j].toNat % 16)])) w2:=by
    rw[show S ++ [Cc (xs[j].toNat / 16),Cc (xs[j].toNat % 16)] =(S ++ [Cc (xs[j].toNat / 16)]) ++ [Cc (xs[j].toNat % 16)]from by simp,IV,<-ac.o];exact hu
   have HU:=zq u;have HB:=zq (q.T r);clear hu u s q r l y;go_wp2
   go_roundw
   ·exact⟨j+1,by omega,by go_num,by rw[HS.o];exact HU.o,HB.o⟩
   ·simp[intOf];omega
  ·have z:xs.take j=xs:=bB zZ;rw[z]at n;clear z hx;have x:=f.size;go_wp2_with fail
   refine(Tryz.builderString w w (F4 xs) wr n x).M ?_;rintro e w1 ⟨rfl,c⟩;go_wp2
   go_ret
   exact⟨rfl,f.T c⟩
end Go.Proofs.YtofeknacbdcoaaaGreatDoor
namespace Go.Proofs.YtofeknacbdcoaaaGreatDoor
open Go.RowKit Go.Lib Go.Sort
theorem IX {n:Nat}(h:¬n<10):Lib.decDigits n=Lib.decDigits (n / 10) ++ [UInt8.ofNat (48+n % 10)]:=by rw[Lib.decDigits,dif_neg h]
theorem JQ:∀(k n:Nat),0<k->n<10 ^ k->(Lib.decDigits n).length<=k
 |0,_,h,_ => absurd h zZ
 |k+1,n,_,h => by
  by_cases q:n<10
  ·rw[Lib.decDigits_one q];simp
  ·rw[IX q,aU];have c:0<k:=by
    rcases k with _|k
    ·simp at h;omega
    ·omega
   have:=JQ k (n / 10) c (by rw[Nat.pow_succ]at h;omega);simp;omega
theorem EY {n:Nat}(h:n<=1000000000000):(Lib.decDigits n).length<=13:=JQ 13 n zZ zZ
def Dc(L:List Int):Prop:=∀x,x∈L->0<=x/\x<=1000000000000
def Bg(wd:List UInt8)(L:List Int):List UInt8:=wd ++ L.flatMap fun n => 32 :: Lib.decDigits n.toNat
theorem No(wd:List UInt8):Bg wd [] =wd:=by simp[Bg]
theorem G9(wd:List UInt8)(x:Int)(L:List Int):Bg wd (x :: L)=Bg (Bg wd [x]) L:=by simp[Bg]
theorem RT(wd:List UInt8)(L:List Int)(x:Int):Bg wd (L ++ [x])=Bg wd L ++ 32 :: Lib.decDigits x.toNat:=by simp[Bg]
theorem DJ(wd:List UInt8):∀(L:List Int),Dc L->(Bg wd L).length<=wd.length+14 * L.length:=by
 intro L;induction L generalizing wd with
 |nil => intro _;rw[No];simp
 |cons x L ih =>
  intro h;rw[G9];have e:=ih (Bg wd [x]) fun y c => h y (List.mem_cons_of_mem _ c)
  obtain⟨f,i⟩:=h x List.mem_cons_self;have h4:(Bg wd [x]).length<=wd.length+14:=by
   have:=EY (n:=x.toNat) zZ;simp[Bg];omega
  rw[List.length_cons];omega
theorem conv1 {W:World}{z:Int}{k g:Nat}(c:z=(k:Int))(h:W.cell? ⟨g,0,none⟩=some (.int .u8 z)):
  (convert 61 9 (.slice (some (zE g)) 1 1)).run prog W= .ok (.string ⟨#[UInt8.ofNat k]⟩) W:=by
 subst c;have:=run_convert_bytes_arg (P:=prog) W 61 5 underlying61 underlying5 g 0 1 1 [(k:Int)] rfl (fun i e => by
  obtain rfl:i=0:=by omega
  exact h) _ underlying9
 rw[this];have:strOfNums [(k:Int)] =⟨#[UInt8.ofNat k]⟩:=by unfold strOfNums;simp[ByteArray.push]
 rw[this]
theorem Lp(n:Nat)(h:n<10)(w:World):
  Calls prog 42 #[int i64 n] w (zN (.string ⟨(Lib.decDigits n).toArray⟩) w):=by
 rw[Lib.decDigits_one h];have B:=zq ((aC w w).alloc (aD _) (.cells #[.int .u8 (48+(n:Int))] 5));have c:=zq (conv1 (W:=w.alloc (.cells #[.int .u8 (48+(n:Int))] 5)) (z:=48+(n:Int)) (k:=48+n) (g:=w.heap.size) zZ ((Blk.new w _ #[.int .u8 (48+(n:Int))]).cell 0));obtain⟨S,f⟩:∃S:ByteArray,⟨#[UInt8.ofNat (48+n)]⟩=S:=zJ;rw[f]at c⊢;clear f;go_enter func42,ntmps42
 go_wp2_with fail
 rw[c.o];simp only[Result.andThen];rw[Oper.upon_value];go_wp2
 go_ret
 exact⟨rfl,B.o⟩
theorem OL:∀(n:Nat),n<=1000000000000->∀(w:World),
  Calls prog 42 #[int i64 n] w (zN (.string ⟨(Lib.decDigits n).toArray⟩) w):=by
 intro n;induction n using Nat.strongRecOn with
 |_ n ih =>
  intro hn w;by_cases h:n<10
  ·exact Lp n h w
  ·have x:=zq (ih (n / 10) zZ zZ);clear ih;obtain⟨q,hq⟩:∃q,n / 10=q:=zJ;obtain⟨r,hr⟩:∃r,n % 10=r:=zJ;have ae:r<10:=by omega
   have c:=Bz (Lib.decDigits (n / 10)) [UInt8.ofNat (48+n % 10)];rw[<-IX h]at c;have l:=zq (fun(W:World) (g:Nat) (h:W.cell? ⟨g,0,none⟩=some (.int .u8 (48+(r:Int)))) => conv1 (W:=W) (z:=48+(r:Int)) (k:=48+r) (g:=g) zZ h);have i:=EY (n:=n / 10) zZ;have ac:=EY (n:=n) zZ;obtain⟨S,hS⟩:∃S:ByteArray,⟨(Lib.decDigits n).toArray⟩=S:=zJ;rw[hS]at c⊢;obtain⟨D,hD⟩:∃D:ByteArray,⟨(Lib.decDigits (n / 10)).toArray⟩=D:=zJ;have aa:D.size<=13:=by subst hD;simpa [ByteArray.size]using i
   rw[hD]at c x;rw[hr]at c;obtain⟨E,s⟩:∃E:ByteArray,(⟨#[UInt8.ofNat (48+r)]⟩:ByteArray)=E:=zJ;have ab:E.size=1:=by subst s;rfl
   have f:(⟨[UInt8.ofNat (48+r)].toArray⟩:ByteArray)=E:=s;rw[f]at c;rw[s]at l;have q1:((n:Int).tdiv 10)=(q:Int):=by rw[<-hq];exact(Int.ofNat_tdiv n 10).symm
   have q2:((n:Int).tmod 10)=(r:Int):=by rw[<-hr];exact(Int.ofNat_tmod n 10).symm
   have n1:¬9223372036854775807<D.size+E.size:=by omega
   have HS:=zq c;rw[hq]at x;have ad:¬(n:Int)<10:=by omega
   have q3:IntKind.i64.wrap (q:Int)=(q:Int):=by rw[IntKind.wrap_i64];omega
   have q4:IntKind.u8.wrap (48+(r:Int))=48+(r:Int):=by simp[IntKind.wrap,IntKind.bits,IntKind.signed];omega
   have q5:IntKind.i64.wrap (48+(r:Int))=48+(r:Int):=by rw[IntKind.wrap_i64];omega
   have q6:IntKind.i64.wrap (r:Int)=(r:Int):=by rw[IntKind.wrap_i64];omega
   clear c hS hD s f i ac aa ab hq hr h;have u:=zq (fun W:World => l.o (W.alloc (.cells #[.int .u8 (48+(r:Int))] 5)) W ((Blk.new W 5 #[.int .u8 (48+(r:Int))]).cell 0));have kA:(w.alloc (.cells #[.int .u8 (48+(r:Int))] 5)).drew.cell? ⟨w.heap.size,0,none⟩=some (.int .u8 (48+(r:Int))):=(Blk.new w 5 #[.int .u8 (48+(r:Int))]).cell 0;have cA:=l.o (w.alloc (.cells #[.int .u8 (48+(r:Int))] 5)).drew w kA;have y:=zq kA;clear kA;go_enter func42,ntmps42
   go_wp2_with fail
   go_region_law (go_simp;go_at_call 42;refine(x.o _).M ?_;rintro e w1 ⟨rfl,b1⟩;have c1:=u.o w1;(try have c2:=l.o w1 w ((b1.cell (p:=⟨w.heap.size,0,none⟩) zX).T y.o));have B1:=zq (Below.T (show Below w w _ by repeat(with_reducible first|exact aC _ _|apply Ac|apply Am)) (b1.M zX));clear b1;dsimp only)
   all_goals
    go_wp2
    go_ret
    exact⟨I1 (by rw[HS.o]),by repeat(with_reducible first|exact B1.o|exact aC _ _|apply Ac|apply Am)⟩
end Go.Proofs.YtofeknacbdcoaaaGreatDoor
namespace Go.Proofs.YtofeknacbdcoaaaGreatDoor
open Go.RowKit Go.Sort
theorem Dg {l:List UInt8}{S:ByteArray}(h:(⟨l.toArray⟩:ByteArray)=S){n:Nat}(c:l.length<=n):S.size<=n:=by
 subst h;simpa [ByteArray.size]using c
theorem E1(wd:List UInt8)(xs v f w)(h:AW w f v xs)(hx:Dc xs)(hl:xs.length<=2000000)(hw:wd.length<=1000000000):
  Calls prog 12 #[.string ⟨wd.toArray⟩,v] w (zN (.string ⟨(Bg wd xs).toArray⟩) w):=by
 obtain⟨A,c,rfl,hc,hm,ho⟩:=AW.open_ h;obtain⟨HX,HN,HL,HW⟩:=zH ho hx hl hw;clear h ho hx hw;obtain⟨S0,r⟩:∃S:ByteArray,⟨wd.toArray⟩=S:=zJ;rw[r];have aa:=zq r;clear r;go_enter func12,ntmps12
 go_wp2
 go_loopw [0,5] (fun o i wr =>∃(j:Nat) (S:ByteArray),j<=xs.length/\i=j/\o= .string S/\Hid ((⟨(Bg wd (xs.take j)).toArray⟩:ByteArray)=S)/\Hid (Below w w wr)) (fun _ i _ => xs.length - (intOf i).toNat)
 ·exact⟨0,S0,by omega,rfl,rfl,(show _=_ by rw[List.take_zero,No];exact aa.o),aC _ _⟩
 ·obtain⟨j,S,hj,rfl,rfl,HS,z⟩:=hrel;by_cases s:j<xs.length
  ·obtain⟨ad,e1,-,b1,p1,-⟩:=HX.o j s;subst e1;have ac:=(z.o.cell (p:=ad.add j) b1).T p1;obtain⟨x0,x1⟩:=HN.o _ (aT s);obtain⟨n,hn⟩:=Int.eq_ofNat_of_zero_le x0;have HD:=zq (fun W:World => OL n zZ W);have u:=Dg HS.o (DJ wd (xs.take j) fun x h => HN.o x (List.mem_of_mem_take h));have q:=EY (n:=n) zZ;obtain⟨D,hD⟩:∃D:ByteArray,⟨(Lib.decDigits n).toArray⟩=D:=zJ;have ab:=Dg hD q;have l:=zq (show(⟨(Bg wd (xs.take (j+1))).toArray⟩:ByteArray)=S ++⟨#[32]⟩ ++ D from by
    rw[<-HS.o,<-hD,Bz,Bz,aK s,RT,hn,List.append_assoc];rfl)
   rw[hD]at HD;rw[hn]at ac;have hw:=HW.o;have y:(xs.take j).length =j:=by rw[aX];omega
   rw[y]at u;have n1:¬9223372036854775807<S.size+1:=by omega
   have n2:¬9223372036854775807<S.size+1+D.size:=by omega
   clear p1 hD x0 x1 hn q hw y ab u;go_wp2_with (go_at_call 42;refine(HD.o _).M ?_;rintro e w1 ⟨rfl,b1⟩;have B1:=zq (z.o.T (b1.M z.o.size));clear b1)
   go_roundw
   ·exact⟨j+1,_,by omega,by go_num,rfl,l.o,B1.o⟩
   ·simp[intOf];omega
  ·obtain rfl:j=xs.length:=by omega
   have l:=zq HS.o;rw[bA]at l;go_wp2
   go_ret
   exact⟨I1 l.o.symm,z.o⟩
theorem Hg {a b:ByteArray}(h:a=b):(a.toList == b.toList)=true:=by subst h;simp
theorem Fr {a b:ByteArray}(h:a≠b):(a.toList == b.toList)=false:=by
 have:=Ly h;simpa using this
theorem OP(v1 v2)(xs l:List UInt8)(f1 f2 w)(h1:Ah w f1 v1 xs)(y:Ah w f2 v2 l):
  Calls prog 182 #[v1,v2] w (zN (.bool (decide (xs=l))) w):=by
 obtain⟨A1,c1,rfl,ac,ae,hx⟩:=Ah.open_ h1;obtain⟨A2,c2,rfl,ad,af,hy⟩:=Ah.open_ y;clear h1 y;by_cases s:xs.length=l.length
 ·have hb:=CY s;have u:=zq s;clear s;go_enter func182,ntmps182
  go_wp2
  go_loopw [4,5] (fun r i wr =>∃k:Nat,k<=xs.length/\i=k/\r= .bool false/\xs.take k=l.take k/\Below w w wr) (fun _ i _ => xs.length - (intOf i).toNat)
  ·exact⟨0,by omega,rfl,rfl,by simp,aC _ _⟩
  ·obtain⟨k,hk,rfl,rfl,z,c⟩:=hrel;have x:=zq z;clear z;by_cases h:k<xs.length
   ·have f:k<l.length:=by rw[<-u.o];exact h
    obtain⟨a1,e1,_,b1,g1⟩:=hx k h;obtain⟨a2,e2,_,b2,g2⟩:=hy k f;subst e1 e2;have aa:=(c.cell (p:=a1.add k) b1).T g1;have ab:=(c.cell (p:=a2.add k) b2).T g2;clear g1 g2 hx hy;by_cases n:xs[k] =l[k]
    ·have hn:=bneU8f n;have HE:=zq n;clear n;go_wp2
     go_quiet (fail)
     go_wp2
     go_roundw
     ·exact⟨k+1,by omega,by go_num,rfl,Kf x.o h f HE.o,AT c _⟩
     ·simp[intOf];omega
    ·have hn:=bneU8t n;go_wp2
     go_quiet (fail)
     go_wp2
     go_ret
     exact⟨C5 (by simp;intro e;subst e;exact n rfl),AT c _⟩
   ·have q:k=xs.length:=by omega
    have H:=x.o;rw[q,bA,u.o,bA]at H;have H1:=zq H;clear H q;go_wp2
    go_ret
    exact⟨C5 (by simp[H1.o]),c⟩
 ·have hb:=CZ s;go_enter func182,ntmps182
  go_wp2
  go_ret
  exact⟨C5 (by simp;intro e;subst e;exact s rfl),aC _ _⟩
theorem Ah.bytesIn {w fs A n c}{xs:List UInt8}(h:Ah w fs (.slice A n c) xs):Lib.BytesIn w A n (xs.map fun x =>(x.toNat:Int))/\xs.length=n:=by
 obtain⟨y,c1,e,s,u,p⟩:=Ah.open_ h;injection e with l f r
 subst l f r;refine⟨?_,rfl⟩;intro hn;obtain⟨z,l,_,_,_⟩:=p 0 hn;subst l;refine Lib.BytesIn.of_cells (fun i o => ?_) hn;obtain⟨q,f,_,_,h4⟩:=p i o;injection f with f
 subst f;rw[h4];simp[List.getD,aO o]
theorem Kx(l:List UInt8):Lib.bytesOf (l.map fun x =>(x.toNat:Int))=l:=by
 unfold Lib.bytesOf;rw[List.map_map];conv => rhs;rw[<-List.map_id l]
 apply List.map_congr_left
 intro x _;simp
theorem JM(i v2)(xs c:List UInt8)(o p w)(h1:Ah w o i xs)(f:Ah w p v2 c):
  Calls prog 252 #[i,v2] w (zN (.bool (decide (xs=c))) w):=by
 obtain⟨l,c1,rfl,-⟩:=h1.form;obtain⟨n,c2,rfl,-⟩:=f.form;refine(Tryz.bytesEqual l n _ c1 _ c2 (xs.map fun x =>(x.toNat:Int)) (c.map fun x =>(x.toNat:Int)) w zX zX (Ah.bytesIn h1).1 (Ah.bytesIn f).1).M ?_;rintro e w' ⟨rfl,rfl⟩;rw[Kx,Kx];refine⟨C5 ?_,aC _ _⟩;by_cases h:xs=c <;> simp[h]
theorem l6Nums_c(v1 v2 xs h f1 f2 w)(h1:AW w f1 v1 xs)(y:AW w f2 v2 h):
  Calls prog 181 #[v1,v2] w (zN (.bool (decide (xs=h))) w):=by
 obtain⟨A1,c1,rfl,ac,ae,hx⟩:=AW.open_ h1;obtain⟨A2,c2,rfl,ad,af,hy⟩:=AW.open_ y;clear h1 y;by_cases s:xs.length=h.length
 ·have hb:=CY s;have u:=zq s;clear s;go_enter func181,ntmps181
  go_wp2
  go_loopw [4,5] (fun r i wr =>∃k:Nat,k<=xs.length/\i=k/\r= .bool false/\xs.take k=h.take k/\Below w w wr) (fun _ i _ => xs.length - (intOf i).toNat)
  ·exact⟨0,by omega,rfl,rfl,by simp,aC _ _⟩
  ·obtain⟨k,hk,rfl,rfl,z,c⟩:=hrel;have x:=zq z;clear z;by_cases l:k<xs.length
   ·have f:k<h.length:=by rw[<-u.o];exact l
    obtain⟨a1,e1,_,b1,g1,_⟩:=hx k l;obtain⟨a2,e2,_,b2,g2,_⟩:=hy k f;subst e1 e2;have aa:=(c.cell (p:=a1.add k) b1).T g1;have ab:=(c.cell (p:=a2.add k) b2).T g2;clear g1 g2 hx hy;by_cases n:xs[k] =h[k]
    ·have hn:(xs[k] != h[k])=false:=by simpa using n
     have HE:=zq n;clear n;go_wp2
     go_quiet (fail)
     go_wp2
     go_roundw
     ·exact⟨k+1,by omega,by go_num,rfl,Kf x.o l f HE.o,AT c _⟩
     ·simp[intOf];omega
    ·have hn:(xs[k] != h[k])=true:=by simpa using n
     go_wp2
     go_quiet (fail)
     go_wp2
     go_ret
     exact⟨C5 (by simp;intro e;subst e;exact n rfl),AT c _⟩
   ·have q:k=xs.length:=by omega
    have H:=x.o;rw[q,bA,u.o,bA]at H;have H1:=zq H;clear H q;go_wp2
    go_ret
    exact⟨C5 (by simp[H1.o]),c⟩
 ·have hb:=CZ s;go_enter func181,ntmps181
  go_wp2
  go_ret
  exact⟨C5 (by simp;intro e;subst e;exact s rfl),aC _ _⟩
theorem Pj(v1 v2 xs h f1 f2 w)(h1:AW w f1 v1 xs)(y:AW w f2 v2 h):
  Calls prog 251 #[v1,v2] w (zN (.bool (decide (xs=h))) w):=by
 obtain⟨A1,c1,rfl,ac,ae,hx⟩:=AW.open_ h1;obtain⟨A2,c2,rfl,ad,af,hy⟩:=AW.open_ y;clear h1 y;by_cases s:xs.length=h.length
 ·have hb:=CY s;have u:=zq s;clear s;go_enter func251,ntmps251
  go_wp2
  go_loopw [13,5,4] (fun i _ r wr =>∃k:Nat,k<=xs.length/\i=k/\r= .bool false/\xs.take k=h.take k/\Below w w wr) (fun i _ _ _ => xs.length - (intOf i).toNat)
  ·exact⟨0,by omega,rfl,rfl,by simp,aC _ _⟩
  ·obtain⟨k,hk,rfl,rfl,z,c⟩:=hrel;have x:=zq z;clear z;by_cases l:k<xs.length
   ·have f:k<h.length:=by rw[<-u.o];exact l
    obtain⟨a1,e1,_,b1,g1,_⟩:=hx k l;obtain⟨a2,e2,_,b2,g2,_⟩:=hy k f;subst e1 e2;have aa:=(c.cell (p:=a1.add k) b1).T g1;have ab:=(c.cell (p:=a2.add k) b2).T g2;clear g1 g2 hx hy;by_cases n:xs[k] =h[k]
    ·have hn:(xs[k] != h[k])=false:=by simpa using n
     have HE:=zq n;clear n;go_wp2
     go_quiet (fail)
     go_wp2
     go_roundw
     ·exact⟨k+1,by omega,by go_num,rfl,Kf x.o l f HE.o,AT c _⟩
     ·simp[intOf];omega
    ·have hn:(xs[k] != h[k])=true:=by simpa using n
     go_wp2
     go_quiet (fail)
     go_wp2
     go_ret
     exact⟨C5 (by simp;intro e;subst e;exact n rfl),AT c _⟩
   ·have q:k=xs.length:=by omega
    have H:=x.o;rw[q,bA,u.o,bA]at H;have H1:=zq H;clear H q;go_wp2
    go_ret
    exact⟨C5 (by simp[H1.o]),c⟩
 ·have hb:=CZ s;go_enter func251,ntmps251
  go_wp2
  go_ret
  exact⟨C5 (by simp;intro e;subst e;exact s rfl),aC _ _⟩
theorem Gb(d1 d2 ap aq f1 f2 w)(h1:Af w f1 ap d1)(h2:Af w f2 aq d2):
  Calls prog 206 #[.agg ap,.agg aq] w (zN (.bool (decide (d1=d2))) w):=by
 obtain⟨x0,x1,i,x3,x4,x5,x6,x7,x8⟩:=d1;obtain⟨y0,y1,y2,y3,y4,y5,y6,y7,y8⟩:=d2;dsimp only[Af]at h1 h2;obtain⟨bd,be,bf,ax,ay,az,e,-,a7,a8,a9,ba,bb,bc,ae,af,ag⟩:=h1;subst e;obtain⟨bm,bn,bo,a3,a4,a5,e,-,bg,bh,bi,bj,bk,bl,aj,ak,al⟩:=h2;subst e;have au:=zq ae;obtain⟨ac,ad,rfl,-⟩:=rSl.head ae;clear ae;have av:=zq af;obtain⟨n,s,rfl,-⟩:=rSl.head af;clear af;have aw:=zq ag;obtain⟨r,u,rfl,-⟩:=rSl.head ag;clear ag;have a0:=zq aj;obtain⟨ah,ai,rfl,-⟩:=rSl.head aj;clear aj;have a1:=zq ak;obtain⟨x,z,rfl,-⟩:=rSl.head ak;clear ak;have a2:=zq al;obtain⟨y,aa,rfl,-⟩:=rSl.head al;clear al;obtain⟨f,an⟩:∃f,decide ((⟨x0,x1,i,x3,x4,x5,x6,x7,x8⟩:Aj)=⟨y0,y1,y2,y3,y4,y5,y6,y7,y8⟩)=f:=zJ;rw[an];have l:=zq an;clear an;have h:=zq (show∀o1 o2:Obj,Below w w ((w.alloc o1).alloc o2)from fun o1 o2 =>((aC _ _).alloc (aD _) _).alloc zX _);by_cases q:x0=y0
 case neg =>
  have c:f=false:=by rw[<-l.o];exact aG (fun e => q (congrArg Aj.kind e))
  subst c;have hq:(x0 == y0)=false:=by simpa using q
  clear q;go_enter func206,ntmps206
  go_wp2
  go_ret
  exact⟨rfl,(h.o _ _)⟩
 subst q;by_cases q:x1=y1
 case neg =>
  have c:f=false:=by rw[<-l.o];exact aG (fun e => q (congrArg Aj.seq e))
  subst c;have hq:(x1 == y1)=false:=by simpa using q
  clear q;go_enter func206,ntmps206
  go_wp2
  go_ret
  exact⟨rfl,(h.o _ _)⟩
 subst q;by_cases q:i=y2
 case neg =>
  have c:f=false:=by rw[<-l.o];exact aG (fun e => q (congrArg Aj.name e))
  subst c;have hq:=Fr q;clear q;go_enter func206,ntmps206
  go_wp2
  go_ret
  exact⟨rfl,(h.o _ _)⟩
 subst q;by_cases q:x3=y3
 case neg =>
  have c:f=false:=by rw[<-l.o];exact aG (fun e => q (congrArg Aj.length e))
  subst c;have hq:(x3 == y3)=false:=by simpa using q
  clear q;go_enter func206,ntmps206
  go_wp2
  go_ret
  exact⟨rfl,(h.o _ _)⟩
 subst q;by_cases q:x4=y4
 case neg =>
  have c:f=false:=by rw[<-l.o];exact aG (fun e => q (congrArg Aj.group e))
  subst c;have hq:(x4 == y4)=false:=by simpa using q
  clear q;go_enter func206,ntmps206
  go_wp2
  go_ret
  exact⟨rfl,(h.o _ _)⟩
 subst q;by_cases q:x5=y5
 case neg =>
  have c:f=false:=by rw[<-l.o];exact aG (fun e => q (congrArg Aj.row e))
  subst c;have hq:(x5 == y5)=false:=by simpa using q
  clear q;go_enter func206,ntmps206
  go_wp2
  go_ret
  exact⟨rfl,(h.o _ _)⟩
 subst q;have hs:=Hg (rfl:i=i);go_enter func206,ntmps206
 go_wp2_with fail
 refine(Pj _ _ x6 y6 ax a3 _ (rSl.B Aw.L Aw.X au.o (h.o _ _)) (rSl.B Aw.L Aw.X a0.o (h.o _ _))).M ?_;rintro e w1 ⟨rfl,am⟩;have B1:=zq ((h.o _ _).T (am.M zV));have C1:=zq am;clear am;by_cases q6:x6=y6
 case neg =>
  have c:f=false:=by rw[<-l.o];exact aG (fun e => q6 (congrArg Aj.rows e))
  subst c;rw[aG q6];go_wp2
  go_ret
  exact⟨rfl,B1.o⟩
 rw[aN q6];obtain⟨Wa,a6⟩:∃Wa:World,Wa=(w.alloc (.cells #[int i64 x0,int i64 x1,.string i,int i64 x3,int i64 x4,int i64 x5,.slice ac x6.length ad,.slice n x7.length s,.slice r x8.length u] 105)).alloc (.cells #[int i64 x0,int i64 x1,.string i,int i64 x3,int i64 x4,int i64 x5,.slice ah y6.length ai,.slice x y7.length z,.slice y y8.length aa] 105):=zJ;have K1:=zq (((Blk.new w 105 #[int i64 x0,int i64 x1,.string i,int i64 x3,int i64 x4,int i64 x5,.slice ac x6.length ad,.slice n x7.length s,.slice r x8.length u]).alloc (.cells #[int i64 x0,int i64 x1,.string i,int i64 x3,int i64 x4,int i64 x5,.slice ah y6.length ai,.slice x y7.length z,.slice y y8.length aa] 105)).B C1.o zV);have K2:=zq ((Blk.new1 w (.cells #[int i64 x0,int i64 x1,.string i,int i64 x3,int i64 x4,int i64 x5,.slice ac x6.length ad,.slice n x7.length s,.slice r x8.length u] 105) 105 #[int i64 x0,int i64 x1,.string i,int i64 x3,int i64 x4,int i64 x5,.slice ah y6.length ai,.slice x y7.length z,.slice y y8.length aa]).B C1.o zX);clear a6 C1 h Wa;have p7:w1.cell? ⟨w.heap.size,7,none⟩=some (.slice n x7.length s):=(K1.o.cell 7).T rfl;have p8:w1.cell? ⟨w.heap.size,8,none⟩=some (.slice r x8.length u):=(K1.o.cell 8).T rfl;have q7:w1.cell? ⟨w.heap.size+1,7,none⟩=some (.slice x y7.length z):=(K2.o.cell 7).T rfl;have q8:w1.cell? ⟨w.heap.size+1,8,none⟩=some (.slice y y8.length aa):=(K2.o.cell 8).T rfl;have z1:=K1.o.lt;have z2:=K2.o.lt;have Q6:=zq q6;clear q6;go_wp2_with fail
 refine(JM _ _ x7 y7 ay a4 _ (rSl.B Al.L Al.X av.o B1.o) (rSl.B Al.L Al.X a1.o B1.o)).M ?_;rintro e w2 ⟨rfl,ab⟩;have B2:=zq (B1.o.T (ab.M B1.o.size));have bp:=(ab.cell (p:=⟨w.heap.size,8,none⟩) z1).T p8;have bq:=(ab.cell (p:=⟨w.heap.size+1,8,none⟩) z2).T q8;clear ab p7 p8 q7 q8;by_cases q7:x7=y7
 case neg =>
  have c:f=false:=by rw[<-l.o];exact aG (fun e => q7 (congrArg Aj.data e))
  subst c;rw[aG q7];clear q7;go_wp2
  go_ret
  exact⟨rfl,B2.o⟩
 rw[aN q7];have Q7:=zq q7;clear q7;go_wp2_with fail
 refine(JM _ _ x8 y8 az a5 _ (rSl.B Al.L Al.X aw.o B2.o) (rSl.B Al.L Al.X a2.o B2.o)).M ?_;rintro e w3 ⟨rfl,ar⟩;have B3:=zq (B2.o.T (ar.M B2.o.size));clear ar;obtain⟨rc,ao⟩:∃rc,decide (x8=y8)=rc:=zJ;have c:rc=f:=by
  rw[<-l.o,<-ao];have h6:=Q6.o;have h7:=Q7.o;subst h6 h7;simp
 rw[ao,c];clear ao c;go_wp2
 go_ret
 exact⟨rfl,B3.o⟩
theorem Sj(d1 d2 ap aq f1 f2 w)(h1:Af w f1 ap d1)(h2:Af w f2 aq d2):
  Calls prog 134 #[.agg ap,.agg aq] w (zN (.bool (decide (d1=d2))) w):=by
 obtain⟨x0,x1,i,x3,x4,x5,x6,x7,x8⟩:=d1;obtain⟨y0,y1,y2,y3,y4,y5,y6,y7,y8⟩:=d2;dsimp only[Af]at h1 h2;obtain⟨bd,be,bf,ax,ay,az,e,-,a7,a8,a9,ba,bb,bc,ae,af,ag⟩:=h1;subst e;obtain⟨bm,bn,bo,a3,a4,a5,e,-,bg,bh,bi,bj,bk,bl,aj,ak,al⟩:=h2;subst e;have au:=zq ae;obtain⟨ac,ad,rfl,-⟩:=rSl.head ae;clear ae;have av:=zq af;obtain⟨n,s,rfl,-⟩:=rSl.head af;clear af;have aw:=zq ag;obtain⟨r,u,rfl,-⟩:=rSl.head ag;clear ag;have a0:=zq aj;obtain⟨ah,ai,rfl,-⟩:=rSl.head aj;clear aj;have a1:=zq ak;obtain⟨x,z,rfl,-⟩:=rSl.head ak;clear ak;have a2:=zq al;obtain⟨y,aa,rfl,-⟩:=rSl.head al;clear al;obtain⟨f,an⟩:∃f,decide ((⟨x0,x1,i,x3,x4,x5,x6,x7,x8⟩:Aj)=⟨y0,y1,y2,y3,y4,y5,y6,y7,y8⟩)=f:=zJ;rw[an];have l:=zq an;clear an;have h:=zq (show∀o1 o2:Obj,Below w w ((w.alloc o1).alloc o2)from fun o1 o2 =>((aC _ _).alloc (aD _) _).alloc zX _);by_cases q:x0=y0
 case neg =>
  have c:f=false:=by rw[<-l.o];exact aG (fun e => q (congrArg Aj.kind e))
  subst c;have hq:(x0 == y0)=false:=by simpa using q
  clear q;go_enter func134,ntmps134
  go_wp2
  go_ret
  exact⟨rfl,(h.o _ _)⟩
 subst q;by_cases q:x1=y1
 case neg =>
  have c:f=false:=by rw[<-l.o];exact aG (fun e => q (congrArg Aj.seq e))
  subst c;have hq:(x1 == y1)=false:=by simpa using q
  clear q;go_enter func134,ntmps134
  go_wp2
  go_ret
  exact⟨rfl,(h.o _ _)⟩
 subst q;by_cases q:i=y2
 case neg =>
  have c:f=false:=by rw[<-l.o];exact aG (fun e => q (congrArg Aj.name e))
  subst c;have hq:=Fr q;clear q;go_enter func134,ntmps134
  go_wp2
  go_ret
  exact⟨rfl,(h.o _ _)⟩
 subst q;by_cases q:x3=y3
 case neg =>
  have c:f=false:=by rw[<-l.o];exact aG (fun e => q (congrArg Aj.length e))
  subst c;have hq:(x3 == y3)=false:=by simpa using q
  clear q;go_enter func134,ntmps134
  go_wp2
  go_ret
  exact⟨rfl,(h.o _ _)⟩
 subst q;by_cases q:x4=y4
 case neg =>
  have c:f=false:=by rw[<-l.o];exact aG (fun e => q (congrArg Aj.group e))
  subst c;have hq:(x4 == y4)=false:=by simpa using q
  clear q;go_enter func134,ntmps134
  go_wp2
  go_ret
  exact⟨rfl,(h.o _ _)⟩
 subst q;by_cases q:x5=y5
 case neg =>
  have c:f=false:=by rw[<-l.o];exact aG (fun e => q (congrArg Aj.row e))
  subst c;have hq:(x5 == y5)=false:=by simpa using q
  clear q;go_enter func134,ntmps134
  go_wp2
  go_ret
  exact⟨rfl,(h.o _ _)⟩
 subst q;have hs:=Hg (rfl:i=i);go_enter func134,ntmps134
 go_wp2_with fail
 refine(l6Nums_c _ _ x6 y6 ax a3 _ (rSl.B Aw.L Aw.X au.o (h.o _ _)) (rSl.B Aw.L Aw.X a0.o (h.o _ _))).M ?_;rintro e w1 ⟨rfl,am⟩;have B1:=zq ((h.o _ _).T (am.M zV));have C1:=zq am;clear am;by_cases q6:x6=y6
 case neg =>
  have c:f=false:=by rw[<-l.o];exact aG (fun e => q6 (congrArg Aj.rows e))
  subst c;rw[aG q6];go_wp2
  go_ret
  exact⟨rfl,B1.o⟩
 rw[aN q6];obtain⟨Wa,a6⟩:∃Wa:World,Wa=(w.alloc (.cells #[int i64 x0,int i64 x1,.string i,int i64 x3,int i64 x4,int i64 x5,.slice ac x6.length ad,.slice n x7.length s,.slice r x8.length u] 105)).alloc (.cells #[int i64 x0,int i64 x1,.string i,int i64 x3,int i64 x4,int i64 x5,.slice ah y6.length ai,.slice x y7.length z,.slice y y8.length aa] 105):=zJ;have K1:=zq (((Blk.new w 105 #[int i64 x0,int i64 x1,.string i,int i64 x3,int i64 x4,int i64 x5,.slice ac x6.length ad,.slice n x7.length s,.slice r x8.length u]).alloc (.cells #[int i64 x0,int i64 x1,.string i,int i64 x3,int i64 x4,int i64 x5,.slice ah y6.length ai,.slice x y7.length z,.slice y y8.length aa] 105)).B C1.o zV);have K2:=zq ((Blk.new1 w (.cells #[int i64 x0,int i64 x1,.string i,int i64 x3,int i64 x4,int i64 x5,.slice ac x6.length ad,.slice n x7.length s,.slice r x8.length u] 105) 105 #[int i64 x0,int i64 x1,.string i,int i64 x3,int i64 x4,int i64 x5,.slice ah y6.length ai,.slice x y7.length z,.slice y y8.length aa]).B C1.o zX);clear a6 C1 h Wa;have p7:w1.cell? ⟨w.heap.size,7,none⟩=some (.slice n x7.length s):=(K1.o.cell 7).T rfl;have p8:w1.cell? ⟨w.heap.size,8,none⟩=some (.slice r x8.length u):=(K1.o.cell 8).T rfl;have q7:w1.cell? ⟨w.heap.size+1,7,none⟩=some (.slice x y7.length z):=(K2.o.cell 7).T rfl;have q8:w1.cell? ⟨w.heap.size+1,8,none⟩=some (.slice y y8.length aa):=(K2.o.cell 8).T rfl;have z1:=K1.o.lt;have z2:=K2.o.lt;have Q6:=zq q6;clear q6;go_wp2_with fail
 refine(OP _ _ x7 y7 ay a4 _ (rSl.B Al.L Al.X av.o B1.o) (rSl.B Al.L Al.X a1.o B1.o)).M ?_;rintro e w2 ⟨rfl,ab⟩;have B2:=zq (B1.o.T (ab.M B1.o.size));have bp:=(ab.cell (p:=⟨w.heap.size,8,none⟩) z1).T p8;have bq:=(ab.cell (p:=⟨w.heap.size+1,8,none⟩) z2).T q8;clear ab p7 p8 q7 q8;by_cases q7:x7=y7
 case neg =>
  have c:f=false:=by rw[<-l.o];exact aG (fun e => q7 (congrArg Aj.data e))
  subst c;rw[aG q7];clear q7;go_wp2
  go_ret
  exact⟨rfl,B2.o⟩
 rw[aN q7];have Q7:=zq q7;clear q7;go_wp2_with fail
 refine(OP _ _ x8 y8 az a5 _ (rSl.B Al.L Al.X aw.o B2.o) (rSl.B Al.L Al.X a2.o B2.o)).M ?_;rintro e w3 ⟨rfl,ar⟩;have B3:=zq (B2.o.T (ar.M B2.o.size));clear ar;obtain⟨rc,ao⟩:∃rc,decide (x8=y8)=rc:=zJ;have c:rc=f:=by
  rw[<-l.o,<-ao];have h6:=Q6.o;have h7:=Q7.o;subst h6 h7;simp
 rw[ao,c];clear ao c;go_wp2
 go_ret
 exact⟨rfl,B3.o⟩
