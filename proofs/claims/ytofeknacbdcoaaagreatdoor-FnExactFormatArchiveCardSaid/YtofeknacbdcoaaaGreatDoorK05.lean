/- Part 5 of the proof. -/
import Derived.Test.YtofeknacbdcoaaaGreatDoorK04
import Derived.Test.YtofeknacbdcoaaaGreatDoorK03
set_option maxHeartbeats 8000000
set_option maxRecDepth 100000
set_option linter.unusedVariables false
set_option linter.unusedSimpArgs false
open Go.Proofs.Tryz
open Go.Value (int)
open Go.IntKind (i64)
namespace Go.Proofs.YtofeknacbdcoaaaGreatDoor
open Go.RowKit Go.Sort
theorem Sz(d cs f w)(h1:Ag w f cs d)(q:BM d<=1048576):
  Calls prog 89 #[.agg cs] w (I5 Ag d w):=by
 obtain⟨e,-,h,i,l,n⟩:=h1;subst e;have c:=zq (And.intro h (And.intro i (And.intro l n)));clear h i l n;go_enter func89,ntmps89
 go_wp2_with fail
 refine bodyPost_ret (v:=.agg #[d.id,d.kind,.string d.name,d.group]) (by simp[results,Tryz.results89,go_sem]) rfl ⟨[d.id,d.kind,.string d.name,d.group],[],rfl,⟨rfl,rfl,c.o.1,c.o.2.1,c.o.2.2.1,c.o.2.2.2⟩,(fun a p => by cases p),?_⟩;repeat(first|exact aC _ _|(refine Below.alloc ?_ ?_ _)|(refine Below.setCell ?_ ?_ _))
 all_goals (first|exact aD _|(simp;done)|(simp;omega))
theorem Tryz.infoTotoTicketS:(prog.info? 112).map (fun i =>(i.zero,i.size,i.bytes))=some (some (.agg #[(),(),.string ⟨#[]⟩,()]),4,40):=by kernel_rfl
theorem Lf(v ds fs w)(h1:rSl 4 Ag w fs v ds)(ah:AH BM ds<=1048576):
  Calls prog 52 #[v] w (Iv 4 Ag ds w):=by
 obtain⟨A1,c1,rfl,ak,al,hx⟩:=rSl.at_ Ag.X zW h1;have af:ds.length<=1048576:=by unfold AH at ah;omega
 have HX:=zq hx;clear hx h1;have ag:=Cf prog 44 112 (.agg #[(),(),.string ⟨#[]⟩,()]) 4 40 underlying44 Tryz.infoTotoTicketS ds.length af zZ;go_enter func52,ntmps52
 go_wp2
 go_loopw [4] (fun i wr =>∃j:Nat,j<=ds.length/\i=j/\Hid (CE 4 Ag wr w 112 ds j)/\Hid (Below w w wr)) (fun i _ => ds.length - (intOf i).toNat)
 ·exact⟨0,by omega,rfl,CE.start (Blk.new _ _ _),(aC _ _).alloc (aD _) _⟩
 ·obtain⟨j,hj,rfl,HP,s⟩:=hrel;clear ag;by_cases f:j<ds.length
  ·obtain⟨ad,b,o,cs,fk,e1,l⟩:=HX.o j f;subst e1;have c:=l.B Ag.L s.o;have am:=l.place;have aj:=c.lt;have aa:=zq (show wr.rangeAt b o cs from fun q v hq => by
    have r:q<cs.length:=(List.getElem?_eq_some_iff.1 hq).1;rw[c.cell q r,<-hq];exact(aO r).symm)
   have HI:=zq (show(prog.info? 141).map (·.size)=some cs.length by rw[c.len];kernel_rfl);have HC:=zq (Sz ds[j] cs fk wr c.reads (by have:=EB BM f;omega));clear l c HX;go_wp2_with (first
    |(refine aE rfl 141 _ rfl b o rfl cs _ aa.o underlying141 rfl HI.o ?_)
    |(go_at_call 89;go_loud (refine HC.o.M ?_;rintro e w1 ⟨n,fu,rfl,u,p,b1⟩;have HU:=zq u;have x:=zq p;have B1:=zq b1;have h:n.length=4:=Ag.wide _ _ _ _ u;have P1:=zq (HP.o.B Ag.L Ag.X b1);have z:=zq (all_oneCell_toArray (Ag.ones _ _ _ _ u));have ab:=zq (show w1.there w (j * 4) n.toArray.size by rw[show n.toArray.size=4 from List.size_toArray.T h];exact P1.o.there f);have y:=zq (show(prog.info? 112).map (·.size)=some n.toArray.size by rw[show n.toArray.size=4 from List.size_toArray.T h];kernel_rfl);have ac:=zq h;have an:w.heap.size<w1.heap.size:=P1.o.lt;clear u p b1 h))
    |(refine aV rfl 112 _ _ rfl w (j * 4) n.toArray rfl rfl ab.o y.o z.o ?_))
   go_roundw
   ·have ai:=P1.o.step Ag.L f ac.o HU.o (fun a ha => by have:=x.o a ha;have:=HP.o.lt;omega);exact⟨j+1,by omega,by go_num,ai,Below.setCells_ _ _ _ _ (aD _) (s.o.T (B1.o.M s.o.size))⟩
   ·simp[intOf];omega
  ·obtain rfl:j=ds.length:=by omega
   clear HX;go_wp2
   go_ret
   obtain⟨ae,hr,hf⟩:=HP.o.reads zZ;exact⟨some (zE w),ds.length,ae,rfl,hr,hf,s.o⟩
theorem Tryz.infoTotoTicketSS:(prog.info? 44).map (fun i =>(i.zero,i.size,i.bytes))=some (some (.slice none 0 0),1,24):=by kernel_rfl
theorem Px(v)(ds:List (List AA))(fs)(w:World)(h1:rSl 1 (Ai 4 Ag) w fs v ds)(ag:AH Cm ds<=1048576):
  Calls prog 51 #[v] w (Iv 1 (Ai 4 Ag) ds w):=by
 obtain⟨A1,c1,rfl,aj,ak,hx⟩:=rSl.at_ (Ai.X Ag.X) zW h1;have ab:ds.length<=1048576:=by unfold AH at ag;omega
 have x:=zq hx;clear hx h1;have ac:=Cf prog 43 44 (.slice none 0 0) 1 24 underlying43 Tryz.infoTotoTicketSS ds.length ab zZ;go_enter func51,ntmps51
 go_wp2
 go_loopw [4] (fun i wr =>∃j:Nat,j<=ds.length/\i=j/\Hid (CE 1 (Ai 4 Ag) wr w 44 ds j)/\Hid (Below w w wr)) (fun i _ => ds.length - (intOf i).toNat)
 ·exact⟨0,by omega,rfl,CE.start (z:=#[zQ]) (by rw[Nat.mul_one];exact Blk.new _ _ _),(aC _ _).alloc (aD _) _⟩
 ·obtain⟨j,hj,rfl,u,r⟩:=hrel;clear ac;by_cases f:j<ds.length
  ·obtain⟨ad,b,o,cs,fk,e1,h⟩:=x.o j f;subst e1;have c:=h.B (Ai.L Ag.L) r.o;have af:=h.place;have ai:=c.lt;obtain⟨ve,ah,l⟩:=c.reads;subst ah;obtain⟨Ae,ce,rfl,-⟩:=rSl.head l;have ae:=c.cell 0 zX;simp only[bC,aW]at ae;rw[Nat.mul_one]at af;have HC:=zq (Lf _ ds[j] fk wr l (by have:=EB Cm f;have e:Cm ds[j] =AH BM ds[j]:=rfl;omega));clear l;clear h c x;go_wp2_with (first
    |(go_at_call 52;go_loud (refine HC.o.M ?_;rintro e w1 ⟨Au,cu,fu,rfl,ru,n,b1⟩;have HU:=zq ru;have s:=zq n;have B1:=zq b1;have y:=zq (u.o.B (Ai.L Ag.L) (Ai.X Ag.X) b1);have th:=y.o.there f 0 zZ;simp only[Nat.mul_one,bC]at th;obtain⟨q,an⟩:=th;obtain⟨ux,al⟩:=Option.isSome_iff_exists.1 q;have am:w.heap.size<w1.heap.size:=y.o.lt;clear ru n b1 q)))
   go_roundw
   ·have p:=y.o.step (us:=[.slice Au ds[j].length cu]) (Ai.L Ag.L) f rfl ⟨_,rfl,HU.o⟩ (fun a ha => by have:=s.o a ha;have:=u.o.lt;omega);rw[Nat.mul_one]at p;exact⟨j+1,by omega,by go_num,p,(r.o.T (B1.o.M r.o.size)).setCell (aD _) _⟩
   ·simp[intOf];omega
  ·obtain rfl:j=ds.length:=by omega
   clear x;go_wp2
   go_ret
   obtain⟨aa,hr,hf⟩:=u.o.reads zZ;exact⟨some (zE w),ds.length,aa,rfl,hr,hf,r.o⟩
theorem Sw(d cs f w)(h1:AB w f cs d)(aa:Ch d<=1048576):
  Calls prog 90 #[.agg cs] w (I5 AB d w):=by
 dsimp only[AB]at h1;obtain⟨v0,f0,e,-,r,s,u,h⟩:=h1;subst e;have H:=zq h;have c:=zq (And.intro r (And.intro s u));obtain⟨A1,c1,rfl,-⟩:=rSl.head h;clear h r s u;go_enter func90,ntmps90
 go_wp2_with fail
 have z:Below w w (((w.alloc (.cells #[d.id,d.code,d.turn,.slice A1 d.bytes.length c1] 144)).alloc (.cells #[(),(),(),zQ] 163)).alloc (.cells #[d.id,d.code,d.turn,zQ] 163)):=(((aC _ _).alloc (aD _) _).alloc zX _).alloc zV _;refine(It _ d.bytes f0 _ (rSl.B Al.L Al.X H.o z) aa).M ?_;rintro e w1 ⟨x,y,f1,rfl,r1,n,l⟩;obtain⟨k1,k2,B1⟩:=zI (Blk.B ((Blk.new1 w (.cells #[d.id,d.code,d.turn,.slice A1 d.bytes.length c1] 144) 163 #[(),(),(),zQ]).alloc (.cells #[d.id,d.code,d.turn,zQ] 163)) l zX) (Blk.B (Blk.new2 w (.cells #[d.id,d.code,d.turn,.slice A1 d.bytes.length c1] 144) (.cells #[(),(),(),zQ] 163) 163 #[d.id,d.code,d.turn,zQ]) l zX) (z.T (l.M z.size));have q:∀a,a∈f1->w.heap.size+3<=a.block:=fun a ha => by have:=n a ha;simp at this;omega
 have i:=zq q;have HR:=zq r1;have z0:=l.size;simp only[World.size_alloc]at z0;have z1:w.heap.size+1<w1.heap.size:=by omega
 have z2:w.heap.size+1+1<w1.heap.size:=by omega
 clear n q r1 l z z0;have p0:=Blk.cell k1.o 0;have q0:=Blk.cell k2.o 0;have ab:=Blk.frozen k1.o 0;have af:=Blk.frozen k2.o 0;have p1:=Blk.cell k1.o 1;have q1:=Blk.cell k2.o 1;have ac:=Blk.frozen k1.o 1;have ag:=Blk.frozen k2.o 1;have p2:=Blk.cell k1.o 2;have q2:=Blk.cell k2.o 2;have ad:=Blk.frozen k1.o 2;have ah:=Blk.frozen k2.o 2;have p3:=Blk.cell k1.o 3;have q3:=Blk.cell k2.o 3;have ae:=Blk.frozen k1.o 3;have ai:=Blk.frozen k2.o 3;simp at p0 p1 p2 p3 q0 q1 q2 q3;go_wp2_with fail
 have K1:=(Blk.set_ (Blk.set_ (Blk.set_ (Blk.set_ (Blk.far k1.o (p:=⟨w.heap.size+1+1,3,none⟩) zX (.slice x d.bytes.length y)) 0 (int i64 d.id)) 1 (int i64 d.code)) 2 (int i64 d.turn)) 3 (.slice x d.bytes.length y));refine bodyPost_ret (results_cell_row rfl _ _ (w.heap.size+1) 163 #[d.id,d.code,d.turn,.slice x d.bytes.length y] (0,0) _ rfl K1 underlying163 rfl zY) rfl ?_;refine⟨[d.id,d.code,d.turn,.slice x d.bytes.length y],f1,rfl,⟨_,f1,rfl,rfl,c.o.1,c.o.2.1,c.o.2.2,?_⟩,fun a ha => by have:=i.o a ha;omega,((((B1.o.setCell zV _).setCell zX _).setCell zX _).setCell zX _).setCell zX _⟩;exact((((HR.o.keep Al.L (AV.set_ _ i.o zX _)).keep Al.L (AV.set_ _ i.o zX _)).keep Al.L (AV.set_ _ i.o zX _)).keep Al.L (AV.set_ _ i.o zX _)).keep Al.L (AV.set_ _ i.o zX _)
theorem Tryz.infoTotoAnswerS:(prog.info? 163).map (fun i =>(i.zero,i.size,i.bytes))=some (some (.agg #[(),(),(),zQ]),4,48):=by kernel_rfl
theorem Qp(v ds fs w)(h1:rSl 4 AB w fs v ds)(ah:AH Ch ds<=1048576):
  Calls prog 53 #[v] w (Iv 4 AB ds w):=by
 obtain⟨A1,c1,rfl,ak,al,hx⟩:=rSl.at_ AB.X zW h1;have af:ds.length<=1048576:=by unfold AH at ah;omega
 have HX:=zq hx;clear hx h1;have ag:=Cf prog 45 163 (.agg #[(),(),(),zQ]) 4 48 underlying45 Tryz.infoTotoAnswerS ds.length af zZ;go_enter func53,ntmps53
 go_wp2
 go_loopw [4] (fun i wr =>∃j:Nat,j<=ds.length/\i=j/\Hid (CE 4 AB wr w 163 ds j)/\Hid (Below w w wr)) (fun i _ => ds.length - (intOf i).toNat)
 ·exact⟨0,by omega,rfl,CE.start (Blk.new _ _ _),(aC _ _).alloc (aD _) _⟩
 ·obtain⟨j,hj,rfl,HP,s⟩:=hrel;clear ag;by_cases f:j<ds.length
  ·obtain⟨ad,b,o,cs,fk,e1,l⟩:=HX.o j f;subst e1;have c:=l.B AB.L s.o;have am:=l.place;have aj:=c.lt;have aa:=zq (show wr.rangeAt b o cs from fun q v hq => by
    have r:q<cs.length:=(List.getElem?_eq_some_iff.1 hq).1;rw[c.cell q r,<-hq];exact(aO r).symm)
   have HI:=zq (show(prog.info? 144).map (·.size)=some cs.length by rw[c.len];kernel_rfl);have HC:=zq (Sw ds[j] cs fk wr c.reads (by have:=EB Ch f;omega));clear l c HX;go_wp2_with (first
    |(refine aE rfl 144 _ rfl b o rfl cs _ aa.o underlying144 rfl HI.o ?_)
    |(go_at_call 90;go_loud (refine HC.o.M ?_;rintro e w1 ⟨n,fu,rfl,u,p,b1⟩;have HU:=zq u;have x:=zq p;have B1:=zq b1;have h:n.length=4:=AB.wide _ _ _ _ u;have P1:=zq (HP.o.B AB.L AB.X b1);have z:=zq (all_oneCell_toArray (AB.ones _ _ _ _ u));have ab:=zq (show w1.there w (j * 4) n.toArray.size by rw[show n.toArray.size=4 from List.size_toArray.T h];exact P1.o.there f);have y:=zq (show(prog.info? 163).map (·.size)=some n.toArray.size by rw[show n.toArray.size=4 from List.size_toArray.T h];kernel_rfl);have ac:=zq h;have an:w.heap.size<w1.heap.size:=P1.o.lt;clear u p b1 h))
    |(refine aV rfl 163 _ _ rfl w (j * 4) n.toArray rfl rfl ab.o y.o z.o ?_))
   go_roundw
   ·have ai:=P1.o.step AB.L f ac.o HU.o (fun a ha => by have:=x.o a ha;have:=HP.o.lt;omega);exact⟨j+1,by omega,by go_num,ai,Below.setCells_ _ _ _ _ (aD _) (s.o.T (B1.o.M s.o.size))⟩
   ·simp[intOf];omega
  ·obtain rfl:j=ds.length:=by omega
   clear HX;go_wp2
   go_ret
   obtain⟨ae,hr,hf⟩:=HP.o.reads zZ;exact⟨some (zE w),ds.length,ae,rfl,hr,hf,s.o⟩
theorem Tryz.infoToInt:(prog.info? 2).map (fun i =>(i.zero,i.size,i.bytes))=some (some (int i64 0),1,8):=by kernel_rfl
theorem Pw(v xs fs w)(h1:AW w fs v xs)(x:xs.length<=1048576):
  Calls prog 49 #[v] w (Iv 1 Aw xs w):=by
 obtain⟨A1,c1,rfl,aa,ab,y⟩:=AW.open_ h1;have r:=zq y;clear y h1;have u:=Cf prog 25 2 (int i64 0) 1 8 underlying25 Tryz.infoToInt xs.length x zZ;go_enter func49,ntmps49
 go_wp2
 go_loopw [4] (fun i wr =>∃j:Nat,j<=xs.length/\i=j/\Hid (CE 1 Aw wr w 2 xs j)/\Hid (Below w w wr)) (fun i _ => xs.length - (intOf i).toNat)
 ·exact⟨0,by omega,rfl,CE.start (z:=#[()]) (by rw[Nat.mul_one];exact Blk.new _ _ _),(aC _ _).alloc (aD _) _⟩
 ·obtain⟨j,hj,rfl,n,q⟩:=hrel;clear u;by_cases c:j<xs.length
  ·obtain⟨ad,e1,-,b1,p1,h⟩:=r.o j c;subst e1;have af:=(q.o.cell (p:=ad.add j) b1).T p1;have th:=n.o.there c 0 zZ;simp only[Nat.mul_one,bC]at th;obtain⟨l,ag⟩:=th;obtain⟨ux,ac⟩:=Option.isSome_iff_exists.1 l;have ae:w.heap.size<wr.heap.size:=n.o.lt;have e:=zq h;clear r l p1 h;go_wp2
   go_roundw
   ·have f:=n.o.step (us:=[int i64 xs[j]]) (fk:=[]) Aw.L c rfl ⟨rfl,rfl,e.o.1,e.o.2⟩ (fun a ha => by cases ha);rw[Nat.mul_one]at f;exact⟨j+1,by omega,by go_num,f,q.o.setCell (aD _) _⟩
   ·simp[intOf];omega
  ·obtain rfl:j=xs.length:=by omega
   clear r;go_wp2
   go_ret
   obtain⟨s,hr,hf⟩:=n.o.reads zZ;exact⟨some (zE w),xs.length,s,rfl,hr,hf,q.o⟩
theorem toRec_c(d cs f w)(h1:Af w f cs d)(af:Cx d<=1048576):
  Calls prog 196 #[.agg cs] w (I5 Af d w):=by
 dsimp only[Af]at h1;obtain⟨v0,v1,v2,f0,f1,f2,e,-,o0,o1,o2,o3,o4,o5,r0,r1,r2⟩:=h1;subst e;unfold Cx at af;obtain⟨i,H0,H1,H2⟩:=zH (And.intro o0 (And.intro o1 (And.intro o2 (And.intro o3 (And.intro o4 o5))))) r0 r1 r2;obtain⟨A0,c0,rfl,-⟩:=rSl.head r0;obtain⟨A1,c1,rfl,-⟩:=rSl.head r1;obtain⟨A2,c2,rfl,-⟩:=rSl.head r2;obtain⟨ah,ai,aj⟩:=zI (show d.rows.length<=1048576 by omega) (show d.data.length<=1048576 by omega) (show d.delta.length<=1048576 by omega);clear r0 r1 r2 o0 o1 o2 o3 o4 o5 af;have hB:Below w w (((w.alloc (.cells (yZ d A0 d.rows.length c0 A1 d.data.length c1 A2 d.delta.length c2) 239)).alloc (.cells yY 105)).alloc (.cells (zK d zQ zQ zQ) 105)):=(((aC _ _).alloc (aD _) _).alloc zX _).alloc zV _;go_enter func196,ntmps196
 go_wp2_with fail
 refine(Pw _ d.rows f0 _ (rSl.B Aw.L Aw.X H0.o hB) ah.o).M ?_;rintro e w1 ⟨h,l,g0,rfl,q0,ac,b1⟩;obtain⟨k0,k1,k2,B1,q,Q0⟩:=zF (Blk.B (((Blk.new w 239 (yZ d A0 d.rows.length c0 A1 d.data.length c1 A2 d.delta.length c2)).alloc (.cells yY 105)).alloc (.cells (zK d zQ zQ zQ) 105)) b1 zV) (Blk.B ((Blk.new1 w (.cells (yZ d A0 d.rows.length c0 A1 d.data.length c1 A2 d.delta.length c2) 239) 105 yY).alloc (.cells (zK d zQ zQ zQ) 105)) b1 zX) (Blk.B (Blk.new2 w (.cells (yZ d A0 d.rows.length c0 A1 d.data.length c1 A2 d.delta.length c2) 239) (.cells yY 105) 105 (zK d zQ zQ zQ)) b1 zX) (hB.T (b1.M hB.size)) (show∀a,a∈g0->w.heap.size+3<=a.block from fun a c => by have:=ac a c;simp at this;omega) q0;have z0:=b1.size;simp only[World.size_alloc]at z0;have z1:w.heap.size+1+1<w1.heap.size:=by omega
 clear ac q0 b1 hB z0;have p7:=Blk.cell k0.o 7;have s6:=Blk.cell k2.o 6;have t6:=Blk.frozen k2.o 6;simp at p7 s6;go_wp2_with fail
 have y:Below w w (w1.setCell (zO (w.heap.size+1+1) 6) (.slice h d.rows.length l)):=B1.o.setCell zV _;refine(It _ d.data f1 _ (rSl.B Al.L Al.X H1.o y) ai.o).M ?_;rintro e w2 ⟨n,r,g1,rfl,q1,ad,b2⟩;obtain⟨m0,m1,m2,B2⟩:=zH (Blk.B (Blk.far k0.o (p:=⟨w.heap.size+1+1,6,none⟩) zV (.slice h d.rows.length l)) b2 zV) (Blk.B (Blk.far k1.o (p:=⟨w.heap.size+1+1,6,none⟩) zX (.slice h d.rows.length l)) b2 zV) (show Blk w2 (w.heap.size+1+1) 105 (zK d (.slice h d.rows.length l) zQ zQ)from Blk.B (Blk.set_ k2.o 6 (.slice h d.rows.length l)) b2 zV) (y.T (b2.M y.size));obtain⟨al,x,Q1⟩:=zI (rSl.B Aw.L Aw.X (Q0.o.keep Aw.L (AV.set_ _ q.o zX _)) b2) (show∀a,a∈g1->w.heap.size+3<=a.block from fun a c => by have:=ad a c;simp at this;omega) q1;have z0:=b2.size;simp only[World.size_setCell]at z0;have z2:w.heap.size+1+1<w2.heap.size:=by omega
 clear ad q1 b2 y z0 p7 s6 t6 z1;have p8:=Blk.cell m0.o 8;have s7:=Blk.cell m2.o 7;have t7:=Blk.frozen m2.o 7;simp at p8 s7;go_wp2_with fail
 have z:Below w w (w2.setCell (zO (w.heap.size+1+1) 7) (.slice n d.data.length r)):=B2.o.setCell zV _;refine(It _ d.delta f2 _ (rSl.B Al.L Al.X H2.o z) aj.o).M ?_;rintro e w3 ⟨s,u,g2,rfl,q2,ae,b3⟩;obtain⟨n1,n2,B3,am⟩:=zH (Blk.B (Blk.far m1.o (p:=⟨w.heap.size+1+1,7,none⟩) zX (.slice n d.data.length r)) b3 zV) (show Blk w3 (w.heap.size+1+1) 105 (zK d (.slice h d.rows.length l) (.slice n d.data.length r) zQ)from Blk.B (Blk.set_ m2.o 7 (.slice n d.data.length r)) b3 zV) (z.T (b3.M z.size)) (rSl.B Aw.L Aw.X (al.o.keep Aw.L (AV.set_ _ q.o zX _)) b3);obtain⟨an,aa,Q2⟩:=zI (rSl.B Al.L Al.X (Q1.o.keep Al.L (AV.set_ _ x.o zX _)) b3) (show∀a,a∈g2->w.heap.size+3<=a.block from fun a c => by have:=ae a c;simp at this;omega) q2;have z0:=b3.size;simp only[World.size_setCell]at z0;have z3:w.heap.size+1+1<w3.heap.size:=by omega
 have z4:w.heap.size+1<w3.heap.size:=by omega
 clear ae q2 b3 z z0 p8 s7 t7 z2 k0 k1 k2 m0 m1 m2;have s8:=Blk.cell n2.o 8;have t8:=Blk.frozen n2.o 8;simp at s8;have K2:=zq (show Blk (w3.setCell (zO (w.heap.size+1+1) 8) (.slice s d.delta.length u)) (w.heap.size+1+1) 105 (yZ d h d.rows.length l n d.data.length r s d.delta.length u)from Blk.set_ n2.o 8 (.slice s d.delta.length u));have K1:=zq (Blk.far n1.o (p:=⟨w.heap.size+1+1,8,none⟩) zX (.slice s d.delta.length u));have ag:=zq (Blk.range K2.o 0 (yZ d h d.rows.length l n d.data.length r s d.delta.length u) rfl);have ak:=zq (Blk.there K1.o 9 zX);go_wp2_with (first
  |(refine aE rfl 105 _ rfl (w.heap.size+1+1) 0 rfl (yZ d h d.rows.length l n d.data.length r s d.delta.length u) _ ?_ underlying105 rfl zY ?_;(focus (exact ag.o)))
  |(refine aV rfl 105 _ _ rfl (w.heap.size+1) 0 (yZ d h d.rows.length l n d.data.length r s d.delta.length u) rfl rfl ?_ zY zU ?_;(focus (exact ak.o))))
 have KF:=K1.o.laid (yZ d h d.rows.length l n d.data.length r s d.delta.length u) rfl;refine bodyPost_ret (results_cell_row rfl _ _ (w.heap.size+1) 105 (yZ d h d.rows.length l n d.data.length r s d.delta.length u) (0,0) _ rfl KF underlying105 rfl zY) rfl ?_;have ab:∀(g:List Addr),(∀a,a∈g->w.heap.size+3<=a.block)->∀a,a∈g->w.heap.size<=a.block:=fun g hg a c => by have:=hg a c;omega
 refine⟨(yZ d h d.rows.length l n d.data.length r s d.delta.length u),g0 ++(g1 ++ g2),rfl,⟨_,_,_,g0,g1,g2,rfl,rfl,i.o.1,i.o.2.1,i.o.2.2.1,i.o.2.2.2.1,i.o.2.2.2.2.1,i.o.2.2.2.2.2,?_,?_,?_⟩,fun a c => ?_,?_⟩
 ·exact(am.o.keep Aw.L (AV.set_ _ q.o zX _)).keep Aw.L (Ep _ _ _ _ fun a c => by have:=q.o a c;omega)
 ·exact(an.o.keep Al.L (AV.set_ _ x.o zX _)).keep Al.L (Ep _ _ _ _ fun a c => by have:=x.o a c;omega)
 ·exact(Q2.o.keep Al.L (AV.set_ _ aa.o zX _)).keep Al.L (Ep _ _ _ _ fun a c => by have:=aa.o a c;omega)
 ·rcases List.mem_append.1 c with c|c
  ·exact ab _ q.o a c
  ·rcases List.mem_append.1 c with c|c
   ·exact ab _ x.o a c
   ·exact ab _ aa.o a c
 ·exact Below.setCells_ _ _ _ _ zZ (B3.o.setCell zV _)
theorem Tryz.infoTotoRecS:(prog.info? 105).map (fun i =>(i.zero,i.size,i.bytes))=some (some (.agg yY),9,128):=by kernel_rfl
theorem toRecS_c(v ds fs w)(h1:rSl 9 Af w fs v ds)(ah:AH Cx ds<=1048576):
  Calls prog 138 #[v] w (Iv 9 Af ds w):=by
 obtain⟨A1,c1,rfl,ak,al,hx⟩:=rSl.at_ Af.X zW h1;have af:ds.length<=1048576:=by unfold AH at ah;omega
 have HX:=zq hx;clear hx h1;have ag:=Cf prog 99 105 (.agg yY) 9 128 underlying99 Tryz.infoTotoRecS ds.length af zZ;go_enter func138,ntmps138
 go_wp2
 go_loopw [4] (fun i wr =>∃j:Nat,j<=ds.length/\i=j/\Hid (CE 9 Af wr w 105 ds j)/\Hid (Below w w wr)) (fun i _ => ds.length - (intOf i).toNat)
 ·exact⟨0,by omega,rfl,CE.start (Blk.new _ _ _),(aC _ _).alloc (aD _) _⟩
 ·obtain⟨j,hj,rfl,HP,s⟩:=hrel;clear ag;by_cases f:j<ds.length
  ·obtain⟨ad,b,o,cs,fk,e1,l⟩:=HX.o j f;subst e1;have c:=l.B Af.L s.o;have am:=l.place;have aj:=c.lt;have aa:=zq (show wr.rangeAt b o cs from fun q v hq => by
    have r:q<cs.length:=(List.getElem?_eq_some_iff.1 hq).1;rw[c.cell q r,<-hq];exact(aO r).symm)
   have HI:=zq (show(prog.info? 239).map (·.size)=some cs.length by rw[c.len];kernel_rfl);have HC:=zq (toRec_c ds[j] cs fk wr c.reads (by have:=EB Cx f;omega));clear l c HX;go_wp2_with (first
    |(refine aE rfl 239 _ rfl b o rfl cs _ aa.o underlying239 rfl HI.o ?_)
    |(go_at_call 196;go_loud (refine HC.o.M ?_;rintro e w1 ⟨n,fu,rfl,u,p,b1⟩;have HU:=zq u;have x:=zq p;have B1:=zq b1;have h:n.length=9:=Af.wide _ _ _ _ u;have P1:=zq (HP.o.B Af.L Af.X b1);have z:=zq (all_oneCell_toArray (Af.ones _ _ _ _ u));have ab:=zq (show w1.there w (j * 9) n.toArray.size by rw[show n.toArray.size=9 from List.size_toArray.T h];exact P1.o.there f);have y:=zq (show(prog.info? 105).map (·.size)=some n.toArray.size by rw[show n.toArray.size=9 from List.size_toArray.T h];kernel_rfl);have ac:=zq h;have an:w.heap.size<w1.heap.size:=P1.o.lt;clear u p b1 h))
    |(refine aV rfl 105 _ _ rfl w (j * 9) n.toArray rfl rfl ab.o y.o z.o ?_))
   go_roundw
   ·have ai:=P1.o.step Af.L f ac.o HU.o (fun a ha => by have:=x.o a ha;have:=HP.o.lt;omega);exact⟨j+1,by omega,by go_num,ai,Below.setCells_ _ _ _ _ (aD _) (s.o.T (B1.o.M s.o.size))⟩
   ·simp[intOf];omega
  ·obtain rfl:j=ds.length:=by omega
   clear HX;go_wp2
   go_ret
   obtain⟨ae,hr,hf⟩:=HP.o.reads zZ;exact⟨some (zE w),ds.length,ae,rfl,hr,hf,s.o⟩
theorem toTape_c(d cs f w)(h1:AE w f cs d)(z:C6 d<=1048576):
  Calls prog 88 #[.agg cs] w (I5 AE d w):=by
 dsimp only[AE]at h1;obtain⟨v0,f0,e,-,h⟩:=h1;subst e;have H:=zq h;obtain⟨u,c1,rfl,-⟩:=rSl.head h;clear h;go_enter func88,ntmps88
 go_wp2_with fail
 have s:Below w w (((w.alloc (.cells #[.bool d.wiped,.slice u d.recs.length c1] 139)).alloc (.cells #[.bool false,zQ] 148)).alloc (.cells #[.bool d.wiped,zQ] 148)):=(((aC _ _).alloc (aD _) _).alloc zX _).alloc zV _;refine(toRecS_c _ d.recs f0 _ (rSl.B Af.L Af.X H.o s) z).M ?_;rintro e w1 ⟨n,r,x,rfl,r1,i,c⟩;obtain⟨k1,k2,B1⟩:=zI (Blk.B ((Blk.new1 w (.cells #[.bool d.wiped,.slice u d.recs.length c1] 139) 148 #[.bool false,zQ]).alloc (.cells #[.bool d.wiped,zQ] 148)) c zX) (Blk.B (Blk.new2 w (.cells #[.bool d.wiped,.slice u d.recs.length c1] 139) (.cells #[.bool false,zQ] 148) 148 #[.bool d.wiped,zQ]) c zX) (s.T (c.M s.size));have l:∀a,a∈x->w.heap.size+3<=a.block:=fun a y => by have:=i a y;simp at this;omega
 have q:=zq l;have HR:=zq r1;have z0:=c.size;simp only[World.size_alloc]at z0;have z1:w.heap.size+1<w1.heap.size:=by omega
 have z2:w.heap.size+1+1<w1.heap.size:=by omega
 clear i l r1 c s z0;have p0:=Blk.cell k1.o 0;have p1:=Blk.cell k1.o 1;have q0:=Blk.cell k2.o 0;have q1:=Blk.cell k2.o 1;have f0:=Blk.frozen k1.o 0;have aa:=Blk.frozen k1.o 1;have g0:=Blk.frozen k2.o 0;have g1:=Blk.frozen k2.o 1;simp at p0 p1 q0 q1;go_wp2_with fail
 have K1:=Blk.set_ (Blk.set_ (Blk.far k1.o (p:=⟨w.heap.size+1+1,1,none⟩) zX (.slice n d.recs.length r)) 0 (.bool d.wiped)) 1 (.slice n d.recs.length r);refine bodyPost_ret (results_cell_row rfl _ _ (w.heap.size+1) 148 #[.bool d.wiped,.slice n d.recs.length r] (0,0) _ rfl K1 underlying148 rfl zY) rfl ?_;refine⟨[.bool d.wiped,.slice n d.recs.length r],x,rfl,⟨_,x,rfl,rfl,?_⟩,fun a y => by have:=q.o a y;omega,((B1.o.setCell zV _).setCell zX _).setCell zX _⟩;exact((HR.o.keep Af.L (AV.set_ _ q.o zX _)).keep Af.L (AV.set_ _ q.o zX _)).keep Af.L (AV.set_ _ q.o zX _)
theorem Tryz.infoTotoTapeS:(prog.info? 148).map (fun i =>(i.zero,i.size,i.bytes))=some (some (.agg #[.bool false,zQ]),2,32):=by kernel_rfl
theorem Uc(v ds fs w)(h1:rSl 2 AE w fs v ds)(ah:AH C6 ds<=1048576):
  Calls prog 50 #[v] w (Iv 2 AE ds w):=by
 obtain⟨A1,c1,rfl,ak,al,hx⟩:=rSl.at_ AE.X zW h1;have af:ds.length<=1048576:=by unfold AH at ah;omega
 have HX:=zq hx;clear hx h1;have ag:=Cf prog 40 148 (.agg #[.bool false,zQ]) 2 32 underlying40 Tryz.infoTotoTapeS ds.length af zZ;go_enter func50,ntmps50
 go_wp2
 go_loopw [4] (fun i wr =>∃j:Nat,j<=ds.length/\i=j/\Hid (CE 2 AE wr w 148 ds j)/\Hid (Below w w wr)) (fun i _ => ds.length - (intOf i).toNat)
 ·exact⟨0,by omega,rfl,CE.start (Blk.new _ _ _),(aC _ _).alloc (aD _) _⟩
 ·obtain⟨j,hj,rfl,HP,s⟩:=hrel;clear ag;by_cases f:j<ds.length
  ·obtain⟨ad,b,o,cs,fk,e1,l⟩:=HX.o j f;subst e1;have c:=l.B AE.L s.o;have am:=l.place;have aj:=c.lt;have aa:=zq (show wr.rangeAt b o cs from fun q v hq => by
    have r:q<cs.length:=(List.getElem?_eq_some_iff.1 hq).1;rw[c.cell q r,<-hq];exact(aO r).symm)
   have HI:=zq (show(prog.info? 139).map (·.size)=some cs.length by rw[c.len];kernel_rfl);have HC:=zq (toTape_c ds[j] cs fk wr c.reads (by have:=EB C6 f;omega));clear l c HX;go_wp2_with (first
    |(refine aE rfl 139 _ rfl b o rfl cs _ aa.o underlying139 rfl HI.o ?_)
    |(go_at_call 88;go_loud (refine HC.o.M ?_;rintro e w1 ⟨n,fu,rfl,u,p,b1⟩;have HU:=zq u;have x:=zq p;have B1:=zq b1;have h:n.length=2:=AE.wide _ _ _ _ u;have P1:=zq (HP.o.B AE.L AE.X b1);have z:=zq (all_oneCell_toArray (AE.ones _ _ _ _ u));have ab:=zq (show w1.there w (j * 2) n.toArray.size by rw[show n.toArray.size=2 from List.size_toArray.T h];exact P1.o.there f);have y:=zq (show(prog.info? 148).map (·.size)=some n.toArray.size by rw[show n.toArray.size=2 from List.size_toArray.T h];kernel_rfl);have ac:=zq h;have an:w.heap.size<w1.heap.size:=P1.o.lt;clear u p b1 h))
    |(refine aV rfl 148 _ _ rfl w (j * 2) n.toArray rfl rfl ab.o y.o z.o ?_))
   go_roundw
   ·have ai:=P1.o.step AE.L f ac.o HU.o (fun a ha => by have:=x.o a ha;have:=HP.o.lt;omega);exact⟨j+1,by omega,by go_num,ai,Below.setCells_ _ _ _ _ (aD _) (s.o.T (B1.o.M s.o.size))⟩
   ·simp[intOf];omega
  ·obtain rfl:j=ds.length:=by omega
   clear HX;go_wp2
   go_ret
   obtain⟨ae,hr,hf⟩:=HP.o.reads zZ;exact⟨some (zE w),ds.length,ae,rfl,hr,hf,s.o⟩
end Go.Proofs.YtofeknacbdcoaaaGreatDoor
namespace Go.Proofs.YtofeknacbdcoaaaGreatDoor
open Go.RowKit Go.Lib Go.Sort
theorem Ub(d:Bh)(w:World):
  Calls prog 47 #[.agg d] w (zN (.agg d) w):=by
 have l:Below w w (((w.alloc (.cells d 23)).alloc (.cells yX 38)).alloc (.cells d 38)):=(((aC _ _).alloc (aD _) _).alloc zX _).alloc zV _;have i:=zq (show Blk (((w.alloc (.cells d 23)).alloc (.cells yX 38)).alloc (.cells d 38)) (w.heap.size+1) 38 yX from(Blk.new1 w (.cells d 23) 38 yX).alloc (.cells d 38));obtain⟨h,f,n⟩:=zI (Blk.there i.o 9 zX) (Blk.range (Blk.new2 w (.cells d 23) (.cells yX 38) 38 d) 0 d rfl) l;clear l;go_enter func47,ntmps47
 go_wp2_with (first
  |(refine aE rfl 38 _ rfl (w.heap.size+1+1) 0 rfl d _ ?_ underlying38 rfl zY ?_;(focus (exact f.o)))
  |(refine aV rfl 38 _ _ rfl (w.heap.size+1) 0 d rfl rfl ?_ zY zU ?_;(focus (exact h.o))))
 have r:=i.o.laid d rfl;refine bodyPost_ret (results_cell_row rfl _ _ (w.heap.size+1) 38 d (0,0) _ rfl r underlying38 rfl zY) rfl ?_;exact⟨rfl,Below.setCells_ _ _ _ _ zZ n.o⟩
theorem Ud(d cs f w)(h1:AF w f cs d)(ai:Fg d<=1048576):
  Calls prog 18 #[.agg cs] w (I5 AF d w):=by
 dsimp only[AF]at h1;obtain⟨v0,v1,v2,f0,f1,f2,e,-,o0,o1,o2,o3,o4,o5,o6,o7,o8,o9,aj,r0,r1,r2⟩:=h1;subst e;unfold Fg at ai;obtain⟨i,H0,H1,H2⟩:=zH (And.intro o0 (And.intro o1 (And.intro o2 (And.intro o3 (And.intro o4 (And.intro o5 (And.intro o6 (And.intro o7 (And.intro o8 (And.intro o9 aj)))))))))) r0 r1 r2;obtain⟨A0,c0,rfl,-⟩:=rSl.head r0;obtain⟨A1,c1,rfl,-⟩:=rSl.head r1;obtain⟨A2,c2,rfl,-⟩:=rSl.head r2;obtain⟨al,am,an⟩:=zI (show AH CD d.g<=1048576 by omega) (show d.on.length<=1048576 by omega) (show AH C6 d.v<=1048576 by omega);clear r0 r1 r2 o0 o1 o2 o3 o4 o5 o6 o7 o8 o9 aj ai;have hB:Below w w (((w.alloc (.cells (zD d A0 d.g.length c0 A1 d.on.length c1 A2 d.v.length c2) 28)).alloc (.cells yW 42)).alloc (.cells yW 42)):=(((aC _ _).alloc (aD _) _).alloc zX _).alloc zV _;have ae:=zq (Blk.range (((Blk.new w 28 (zD d A0 d.g.length c0 A1 d.on.length c1 A2 d.v.length c2)).alloc (.cells yW 42)).alloc (.cells yW 42)) 0 d.s rfl);go_enter func18,ntmps18
 go_wp2_with (refine aE rfl 23 _ rfl w 0 rfl d.s _ ?_ underlying23 rfl zY ?_;(focus (exact ae.o)))
 refine(Ub d.s _).M ?_;rintro e w1 ⟨rfl,b1⟩;obtain⟨k0,k1,k2,B1⟩:=zH (Blk.B (((Blk.new w 28 (zD d A0 d.g.length c0 A1 d.on.length c1 A2 d.v.length c2)).alloc (.cells yW 42)).alloc (.cells yW 42)) b1 zV) (Blk.B ((Blk.new1 w (.cells (zD d A0 d.g.length c0 A1 d.on.length c1 A2 d.v.length c2) 28) 42 yW).alloc (.cells yW 42)) b1 zX) (Blk.B (Blk.new2 w (.cells (zD d A0 d.g.length c0 A1 d.on.length c1 A2 d.v.length c2) 28) (.cells yW 42) 42 yW) b1 zX) (hB.T (b1.M hB.size));have z0:=b1.size;simp only[World.size_alloc]at z0;have z1:w.heap.size+1+1<w1.heap.size:=by omega
 have ac:=zq (Blk.there k2.o 9 zX);clear b1 hB z0 ae;obtain⟨n0,n1,n2,N1⟩:=zH (Blk.farS d.s (w.heap.size+1+1) 0 _ zZ k0.o) (Blk.farS d.s (w.heap.size+1+1) 0 _ zZ k1.o) (show Blk (w1.setCells (w.heap.size+1+1) 0 d.s) (w.heap.size+1+1) 42 #[d.s.g,d.s.c,d.s.data,d.s.p,d.s.rows,d.s.cap,d.s.b,d.s.q,d.s.t,zQ,zQ,zQ,(),(),.bool false]from by have h:=Blk.setCells_ d.s 0 _ _ k2.o;rw[show E2 yW 0 [int i64 d.s.g,d.s.c,d.s.data,d.s.p,d.s.rows,d.s.cap,d.s.b,d.s.q,d.s.t] = #[int i64 d.s.g,d.s.c,d.s.data,d.s.p,d.s.rows,d.s.cap,d.s.b,d.s.q,d.s.t,zQ,zQ,zQ,(),(),.bool false]from by kernel_rfl]at h;exact h) (Below.setCells_ d.s (w.heap.size+1+1) 0 _ zZ B1.o);have z2:w.heap.size+1+1<(w1.setCells (w.heap.size+1+1) 0 d.s).heap.size:=by have:=n2.o.lt;omega
 clear k0 k1 k2 B1;go_wp2_with (go_loud (refine aV rfl 38 _ _ rfl (w.heap.size+1+1) 0 d.s rfl rfl ?_ zY zU ?_;(focus (exact ac.o));(generalize w1.setCells (w.heap.size+1+1) 0 [int i64 d.s.g,d.s.c,d.s.data,d.s.p,d.s.rows,d.s.cap,d.s.b,d.s.q,d.s.t] =u0 at n0 n1 n2 N1 z2⊢);have p9:u0.cell? ⟨w.heap.size,9,none⟩=some (.slice A0 d.g.length c0):=(Blk.cell n0.o 9).T rfl))
 clear p9 ac;refine(Qr _ d.g f0 _ (rSl.B (Ai.L Ar.L) (Ai.X Ar.X) H0.o N1.o) al.o).M ?_;rintro e w2 ⟨y,e0,g0,rfl,q0,af,r⟩;obtain⟨x0,x1,n,X1,z,Q0⟩:=zF (Blk.B n0.o r n0.o.lt) (Blk.B n1.o r n1.o.lt) (Blk.B n2.o r n2.o.lt) ((N1.o).T (r.M (N1.o).size)) (show∀a,a∈g0->w.heap.size+3<=a.block from fun a l => by have:=af a l;omega) q0;have z3:w.heap.size+1+1<w2.heap.size:=n.o.lt;clear z2 af q0 r n0 n1 n2 N1;have z2:=z3;clear z3;have s1:=Blk.cell n.o 9;have t1:=Blk.frozen n.o 9;have p1:=Blk.cell x0.o 10;simp at p1 s1;go_wp2_with fail
 have x:Below w w (w2.setCell (zO (w.heap.size+1+1) 9) (.slice y d.g.length e0)):=X1.o.setCell (show w.heap.size<=w.heap.size+1+1 by omega) _;obtain⟨y0,y1,y2,R0⟩:=zH (Blk.far x0.o (p:=⟨w.heap.size+1+1,9,none⟩) zV (.slice y d.g.length e0)) (Blk.far x1.o (p:=⟨w.heap.size+1+1,9,none⟩) zX (.slice y d.g.length e0)) (show Blk (w2.setCell (zO (w.heap.size+1+1) 9) (.slice y d.g.length e0)) (w.heap.size+1+1) 42 #[d.s.g,d.s.c,d.s.data,d.s.p,d.s.rows,d.s.cap,d.s.b,d.s.q,d.s.t,.slice y d.g.length e0,zQ,zQ,(),(),.bool false]from Blk.set_ n.o 9 (.slice y d.g.length e0)) (show rSl 1 (Ai 2 Ar) (w2.setCell (zO (w.heap.size+1+1) 9) (.slice y d.g.length e0)) g0 (.slice y d.g.length e0) d.g from(Q0.o.keep (Ai.L Ar.L) (AV.set_ _ z.o zX _)));refine(Pw _ d.on f1 _ (rSl.B Aw.L Aw.X H1.o x) am.o).M ?_;rintro e w3 ⟨D1,e1,g1,rfl,q1,ag,r⟩;clear s1 t1 p1 x0 x1 n X1 Q0;obtain⟨x0,x1,n,X1⟩:=zH (Blk.B y0.o r y0.o.lt) (Blk.B y1.o r y1.o.lt) (Blk.B y2.o r y2.o.lt) ((x).T (r.M (x).size));obtain⟨aa,Q1,Q0⟩:=zI (show∀a,a∈g1->w.heap.size+3<=a.block from fun a l => by have:=ag a l;(try simp only[World.size_setCell]at this);omega) q1 (rSl.B (Ai.L Ar.L) (Ai.X Ar.X) R0.o r);have z3:w.heap.size+1+1<w3.heap.size:=n.o.lt;clear z2 ag q1 r y0 y1 y2 x R0;have z2:=z3;clear z3;have s2:=Blk.cell n.o 10;have t2:=Blk.frozen n.o 10;have p2:=Blk.cell x0.o 11;simp at p2 s2;go_wp2_with fail
 have x:Below w w (w3.setCell (zO (w.heap.size+1+1) 10) (.slice D1 d.on.length e1)):=X1.o.setCell (show w.heap.size<=w.heap.size+1+1 by omega) _;obtain⟨y0,y1,y2,R0,R1⟩:=zG (Blk.far x0.o (p:=⟨w.heap.size+1+1,10,none⟩) zV (.slice D1 d.on.length e1)) (Blk.far x1.o (p:=⟨w.heap.size+1+1,10,none⟩) zX (.slice D1 d.on.length e1)) (show Blk (w3.setCell (zO (w.heap.size+1+1) 10) (.slice D1 d.on.length e1)) (w.heap.size+1+1) 42 #[d.s.g,d.s.c,d.s.data,d.s.p,d.s.rows,d.s.cap,d.s.b,d.s.q,d.s.t,.slice y d.g.length e0,.slice D1 d.on.length e1,zQ,(),(),.bool false]from Blk.set_ n.o 10 (.slice D1 d.on.length e1)) (show rSl 1 (Ai 2 Ar) (w3.setCell (zO (w.heap.size+1+1) 10) (.slice D1 d.on.length e1)) g0 (.slice y d.g.length e0) d.g from(Q0.o.keep (Ai.L Ar.L) (AV.set_ _ z.o zX _))) (show rSl 1 Aw (w3.setCell (zO (w.heap.size+1+1) 10) (.slice D1 d.on.length e1)) g1 (.slice D1 d.on.length e1) d.on from(Q1.o.keep Aw.L (AV.set_ _ aa.o zX _)));refine(Uc _ d.v f2 _ (rSl.B AE.L AE.X H2.o x) an.o).M ?_;rintro e w4 ⟨D2,e2,g2,rfl,q2,ah,r⟩;clear s2 t2 p2 x0 x1 n X1 Q0 Q1;obtain⟨x0,x1,n,X1,ab,Q2⟩:=zF (Blk.B y0.o r y0.o.lt) (Blk.B y1.o r y1.o.lt) (Blk.B y2.o r y2.o.lt) ((x).T (r.M (x).size)) (show∀a,a∈g2->w.heap.size+3<=a.block from fun a l => by have:=ah a l;(try simp only[World.size_setCell]at this);omega) q2;have Q0:=zq (rSl.B (Ai.L Ar.L) (Ai.X Ar.X) R0.o r);have Q1:=zq (rSl.B Aw.L Aw.X R1.o r);have z3:w.heap.size+1+1<w4.heap.size:=n.o.lt;clear z2 ah q2 r y0 y1 y2 x R0 R1;have z2:=z3;clear z3;have s3:=Blk.cell n.o 11;have t3:=Blk.frozen n.o 11;have s4:=Blk.cell n.o 12;have t4:=Blk.frozen n.o 12;have s5:=Blk.cell n.o 13;have t5:=Blk.frozen n.o 13;have s6:=Blk.cell n.o 14;have t6:=Blk.frozen n.o 14;have p3:=Blk.cell x0.o 12;have p4:=Blk.cell x0.o 13;have p5:=Blk.cell x0.o 14;simp at s3 s4 s5 s6 p3 p4 p5;have K2:=zq (show Blk ((((w4.setCell (zO (w.heap.size+1+1) 11) (.slice D2 d.v.length e2)).setCell (zO (w.heap.size+1+1) 12) (int i64 d.u)).setCell (zO (w.heap.size+1+1) 13) (int i64 d.stop)).setCell (zO (w.heap.size+1+1) 14) (.bool d.down)) (w.heap.size+1+1) 42 (zD d y d.g.length e0 D1 d.on.length e1 D2 d.v.length e2) from Blk.set_ (Blk.set_ (Blk.set_ (Blk.set_ n.o 11 (.slice D2 d.v.length e2)) 12 (int i64 d.u)) 13 (int i64 d.stop)) 14 (.bool d.down));have K1:=zq (show Blk ((((w4.setCell (zO (w.heap.size+1+1) 11) (.slice D2 d.v.length e2)).setCell (zO (w.heap.size+1+1) 12) (int i64 d.u)).setCell (zO (w.heap.size+1+1) 13) (int i64 d.stop)).setCell (zO (w.heap.size+1+1) 14) (.bool d.down)) (w.heap.size+1) 42 yW from Blk.far (Blk.far (Blk.far (Blk.far x1.o zX _) zX _) zX _) zX _);have ak:=zq (Blk.range K2.o 0 (zD d y d.g.length e0 D1 d.on.length e1 D2 d.v.length e2) rfl);have ac:=zq (Blk.there K1.o 15 zX);go_wp2_with (first
  |(refine aE rfl 42 _ rfl (w.heap.size+1+1) 0 rfl (zD d y d.g.length e0 D1 d.on.length e1 D2 d.v.length e2) _ ?_ underlying42 rfl zY ?_;(focus (exact ak.o)))
  |(refine aV rfl 42 _ _ rfl (w.heap.size+1) 0 (zD d y d.g.length e0 D1 d.on.length e1 D2 d.v.length e2) rfl rfl ?_ zY zU ?_;(focus (exact ac.o))))
 have KF:=K1.o.laid (zD d y d.g.length e0 D1 d.on.length e1 D2 d.v.length e2) rfl;refine bodyPost_ret (results_cell_row rfl _ _ (w.heap.size+1) 42 (zD d y d.g.length e0 D1 d.on.length e1 D2 d.v.length e2) (0,0) _ rfl KF underlying42 rfl zY) rfl ?_;have ad:∀(g:List Addr),(∀a,a∈g->w.heap.size+3<=a.block)->∀a,a∈g->w.heap.size<=a.block:=fun g hg a l => by have:=hg a l;omega
 refine⟨(zD d y d.g.length e0 D1 d.on.length e1 D2 d.v.length e2),g0 ++(g1 ++ g2),rfl,⟨_,_,_,g0,g1,g2,rfl,rfl,i.o.1,i.o.2.1,i.o.2.2.1,i.o.2.2.2.1,i.o.2.2.2.2.1,i.o.2.2.2.2.2.1,i.o.2.2.2.2.2.2.1,i.o.2.2.2.2.2.2.2.1,i.o.2.2.2.2.2.2.2.2.1,i.o.2.2.2.2.2.2.2.2.2.1,i.o.2.2.2.2.2.2.2.2.2.2,?_,?_,?_⟩,fun a l => ?_,?_⟩
 ·exact((((Q0.o.keep (Ai.L Ar.L) (AV.set_ _ z.o zX _)).keep (Ai.L Ar.L) (AV.set_ _ z.o zX _)).keep (Ai.L Ar.L) (AV.set_ _ z.o zX _)).keep (Ai.L Ar.L) (AV.set_ _ z.o zX _)).keep (Ai.L Ar.L) (Ep _ _ _ _ fun a l => by have:=z.o a l;omega)
 ·exact((((Q1.o.keep Aw.L (AV.set_ _ aa.o zX _)).keep Aw.L (AV.set_ _ aa.o zX _)).keep Aw.L (AV.set_ _ aa.o zX _)).keep Aw.L (AV.set_ _ aa.o zX _)).keep Aw.L (Ep _ _ _ _ fun a l => by have:=aa.o a l;omega)
 ·exact((((Q2.o.keep AE.L (AV.set_ _ ab.o zX _)).keep AE.L (AV.set_ _ ab.o zX _)).keep AE.L (AV.set_ _ ab.o zX _)).keep AE.L (AV.set_ _ ab.o zX _)).keep AE.L (Ep _ _ _ _ fun a l => by have:=ab.o a l;omega)
 ·rcases List.mem_append.1 l with l|l
  ·exact ad _ z.o a l
  ·rcases List.mem_append.1 l with l|l
   ·exact ad _ aa.o a l
   ·exact ad _ ab.o a l
 ·exact Below.setCells_ _ _ _ _ zZ ((((X1.o.setCell zV _).setCell zV _).setCell zV _).setCell zV _)
