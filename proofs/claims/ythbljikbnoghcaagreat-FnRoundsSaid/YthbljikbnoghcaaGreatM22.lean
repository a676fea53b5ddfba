/-
  Part 22 of the proof; the last part states and proves the statement.
-/
import Derived.Test.YthbljikbnoghcaaGreatM12
import Derived.Sort.AtCall
import Derived.Test.YthbljikbnoghcaaGreatM13
set_option maxHeartbeats 8000000
set_option maxRecDepth 100000
set_option linter.unusedVariables false
set_option linter.unusedSimpArgs false
open Go.Value (int)
open Go.IntKind (i64)
namespace Go.Proofs.YthbljikbnoghcaaGreat
open Go.RowKit Go.Lib Go.Sort
structure AnO (W:World) (p o:Nat) (x:AO) (v:Value):Prop where
 c0:W.cell? ⟨p,o,none⟩=some (int i64 x.id)
 c1:W.cell? ⟨p,o+1,none⟩=some (int i64 x.code)
 c2:W.cell? ⟨p,o+2,none⟩=some (int i64 x.turn)
 c3:W.cell? ⟨p,o+3,none⟩=some v
 lt:p<W.heap.size
theorem AnO.below {W W':World} {p o:Nat} {x:AO} {v:Value}(h:AnO W p o x v)(hb:Below W.heap.size W W'):AnO W' p o x v :=
 ⟨(hb.cell (p:=⟨p,o,none⟩) h.lt).trans h.c0,(hb.cell (p:=⟨p,o+1,none⟩) h.lt).trans h.c1,(hb.cell (p:=⟨p,o+2,none⟩) h.lt).trans h.c2,(hb.cell (p:=⟨p,o+3,none⟩) h.lt).trans h.c3,Nat.lt_of_lt_of_le h.lt hb.size⟩
theorem AnO.ofBlk {W:World} {p:Nat} {T:TypeId} {x:AO} {v:Value}(K:Blk W p T #[int i64 x.id,int i64 x.code,int i64 x.turn,v]):AnO W p 0 x v :=
 ⟨(K.cell 0).trans rfl,(K.cell 1).trans rfl,(K.cell 2).trans rfl,(K.cell 3).trans rfl,K.lt⟩
def D4(hi:Int)(d:AH)(i:Nat):Prop:=Ds hi d.turn (d.answers.take i) (DJ d)=0
def Du(hi:Int)(d:AH)(i:Nat)(x:AO):Int:=DE hi d.turn (DJ d ++(d.answers.take i).map AO.id) x
theorem D4.step {hi:Int} {d:AH} {i:Nat}(h:D4 hi d i)(hk:i<d.answers.length)(h0:Du hi d i d.answers[i] =0):D4 hi d (i+1):=by
 unfold D4 at h⊢;rw[List.take_succ_eq_append_getElem hk];exact Mb h h0
theorem D4.bad {hi:Int} {d:AH} {i:Nat}(h:D4 hi d i)(hk:i<d.answers.length)(h0:Du hi d i d.answers[i]≠0):anH hi d=Du hi d i d.answers[i]:=by
 unfold D4 at h;have:=seqA_bad (b:=d.answers.drop (i+1)) h h0;unfold Du;rw[← this];unfold anH;congr 1
 rw[← List.drop_eq_getElem_cons hk,List.take_append_drop]
theorem D4.all {hi:Int} {d:AH} {i:Nat}(h:D4 hi d i)(hk:d.answers.length≤i):anH hi d=0:=by
 unfold D4 at h;rw[List.take_of_length_le hk]at h;exact h
theorem FI {hi:Int} {d:AH} {i:Nat} {x:AO}(h:(Al x.id 1 hi && (Al x.code 0 12 && Al x.turn 0 d.turn))=false):Du hi d i x=3:=by unfold Du DE;rw[if_neg (by rw[h];exact Bool.false_ne_true)]
theorem Gd {hi:Int} {d:AH} {i:Nat} {x:AO}(h:(Al x.id 1 hi && (Al x.code 0 12 && Al x.turn 0 d.turn))=true)(h1:36<x.bytes.length):Du hi d i x=2:=by unfold Du DE;rw[if_pos h,if_pos h1]
theorem GI {hi:Int} {d:AH} {i:Nat} {x:AO}(h:(Al x.id 1 hi && (Al x.code 0 12 && Al x.turn 0 d.turn))=true)(h1:¬36<x.bytes.length):Du hi d i x=if x.id∈DJ d ++(d.answers.take i).map AO.id then 7 else 0:=by unfold Du DE;rw[if_pos h,if_neg h1]
theorem Do.of {W:World} {p:Nat} {T:TypeId} {d:AH} {A0 A1 A2:Option Addr} {c0 c1 c2:Nat} {f0 f1 f2:List Addr}(K:Blk W p T #[.slice A0 d.queues.length c0,.slice A1 d.aside.length c1,.slice A2 d.answers.length c2,int i64 d.turn,int i64 d.next])
  (r0:rSl 1 (Am 4 Ah) W f0 (.slice A0 d.queues.length c0) d.queues) (r1:rSl 4 Ah W f1 (.slice A1 d.aside.length c1) d.aside) (r2:rSl 4 AA W f2 (.slice A2 d.answers.length c2) d.answers):Do W p 0 d A0 A1 A2 c0 c1 c2 f0 f1 f2 :=
 ⟨(K.cell 0).trans rfl,(K.cell 1).trans rfl,(K.cell 2).trans rfl,(K.cell 3).trans rfl,(K.cell 4).trans rfl,K.lt,r0,r1,r2⟩
theorem H9 {hi:Int} {s:Sh} {d:AH}(h:¬(d.queues.length:Int)=s.g+s.c):Cg hi s d=1:=by unfold Cg;rw[if_neg h]
theorem GQ {hi:Int} {s:Sh} {d:AH}(h:(d.queues.length:Int)=s.g+s.c)(h1:(d.queues.any (Ch s)||(decide (20<d.aside.length)||decide (200<d.answers.length)))=true):Cg hi s d=2:=by unfold Cg;rw[if_pos h,if_pos h1]
theorem Ky {hi:Int} {s:Sh} {d:AH}(h:(d.queues.length:Int)=s.g+s.c)(h1:(d.queues.any (Ch s)||(decide (20<d.aside.length)||decide (200<d.answers.length)))=false) :
  Cg hi s d=if tkC s d=0 then(if anH hi d=0 then(if(Al d.turn 0 1000000000 && Al d.next 1 1000000000)=true then 0 else 3)else anH hi d)else tkC s d:=by unfold Cg;rw[if_pos h,if_neg (by rw[h1];exact Bool.false_ne_true)]
def FX(s:Sh)(d:AH)(k:Nat):Prop:=∀q,(hq:q<d.queues.length)→q<k→Ch s d.queues[q] =false
theorem FX.step {s:Sh} {d:AH} {k:Nat}(h:FX s d k)(hk:k<d.queues.length)(h1:Ch s d.queues[k] =false):FX s d (k+1):=fun q hq hqk => by
 by_cases e:q=k
 ·subst e;exact h1
 ·exact h q hq (by omega)
theorem FX.all {s:Sh} {d:AH} {k:Nat}(h:FX s d k)(hk:d.queues.length≤k):d.queues.any (Ch s)=false :=
 List.any_eq_false.2 fun x hx => by
  obtain⟨q,hq,rfl⟩:=List.getElem_of_mem hx;rw[h q hq (by omega)];exact Bool.false_ne_true
theorem Ck.keepB {W W':World} {p B:Nat} {s:Sh}(h:Ck W p s)(hp:p<B)(hb:Below B W W'):Ck W' p s :=
 ⟨fun j v hj =>(hb.cell (p:=⟨p,0+j,none⟩) hp).trans (h.rng j v hj),(hb.cell (p:=⟨p,0,none⟩) hp).trans h.c0,(hb.cell (p:=⟨p,1,none⟩) hp).trans h.c1,(hb.cell (p:=⟨p,2,none⟩) hp).trans h.c2,(hb.cell (p:=⟨p,3,none⟩) hp).trans h.c3,(hb.cell (p:=⟨p,4,none⟩) hp).trans h.c4,(hb.cell (p:=⟨p,5,none⟩) hp).trans h.c5,(hb.cell (p:=⟨p,6,none⟩) hp).trans h.c6,(hb.cell (p:=⟨p,7,none⟩) hp).trans h.c7,(hb.cell (p:=⟨p,8,none⟩) hp).trans h.c8,Nat.lt_of_lt_of_le h.lt hb.size⟩
theorem Ma {d:AH} {i:Nat}(h:i<d.queues.length):AM d=AV 0 (d.queues.take i) ++(d.queues[i].map (fun t =>(t,(i:Int))) ++(AV (i+1) (d.queues.drop (i+1)) ++ d.aside.map fun t =>(t,-1))):=by
 unfold AM;conv => lhs;rw[← List.take_append_drop i d.queues]
 rw[Ep,List.drop_eq_getElem_cons h,AV,List.length_take,Nat.min_eq_left (by omega),Nat.zero_add];simp only[List.append_assoc]
structure C0 (s:Sh) (d:AH) (B pi:Nat) (P:List (An × Int)) (W:World):Prop where
 zero:DK s d.next P [] =0
 pre:∃R,AM d=P ++ R
 nums:∃A n c,D0 W B pi (P.map fun x => x.1.id) A n c
theorem C0.small {s:Sh} {d:AH} {B pi:Nat} {P:List (An × Int)} {W:World}(h:C0 s d B pi P W)(hsm:(AN d).length≤1000000):(P.map fun x => x.1.id).length≤1000000:=by
 obtain⟨R,hR⟩:=h.pre;have h1:=Ed d;rw[hR,List.length_append]at h1;rw[List.length_map];omega
theorem C0.bad {s:Sh} {d:AH} {B pi:Nat} {P R:List (An × Int)} {x:An × Int} {W:World}(h:C0 s d B pi P W)(hR:AM d=P ++ x :: R)(h0:CR s d.next (P.map fun x => x.1.id) x≠0):tkC s d=CR s d.next (P.map fun x => x.1.id) x:=by
 have:=Jn (b:=R) (ids:=[]) h.zero (by rw[List.nil_append];exact h0);rw[List.nil_append]at this;unfold tkC;rw[hR];exact this
theorem C0.step {s:Sh} {d:AH} {B pi:Nat} {P R:List (An × Int)} {x:An × Int} {W W':World}(h:C0 s d B pi P W)(hR:AM d=P ++ x :: R)(h0:CR s d.next (P.map fun x => x.1.id) x=0)(hn:∃A n c,D0 W' B pi ((P.map fun x => x.1.id) ++ [x.1.id]) A n c):C0 s d B pi (P ++ [x]) W' :=
 ⟨Ij h.zero (by rw[List.nil_append];exact h0),⟨R,by rw[hR];simp⟩,by rw[List.map_append];exact hn⟩
theorem C0.to {s:Sh} {d:AH} {B pi:Nat} {P P':List (An × Int)} {W:World}(h:C0 s d B pi P W)(e:P=P'):C0 s d B pi P' W:=e ▸ h
theorem C0.all {s:Sh} {d:AH} {B pi:Nat} {W:World}(h:C0 s d B pi (AM d) W):tkC s d=0:=h.zero
theorem G1(s:Sh)(hsb:shB s=true)(d:AH)(hsm:(AN d).length≤1000000)(ps pd pi B:Nat)(P R:List (An × Int))(t:An)(q:Int)(hidn:okI t.id)(hnm:t.name.size≤9223372036854775807)(W w:World)
  (h:C0 s d B pi P W) (hR:AM d=P ++(t,q) :: R) (hw:Below W.heap.size W w) (hS:Ck w ps s) (hD:w.cell? ⟨pd,4,none⟩=some (int i64 d.next)) :
  Calls Tryz.prog 125 #[tkV t,int i64 q,.pointer (some ⟨ps,0,none⟩),.pointer (some ⟨pd,0,none⟩),.pointer (some ⟨pi,0,none⟩)] w fun e w' =>∃r,e= .returned (int i64 r)∧Below B w w'∧w.heap.size≤w'.heap.size∧(r≠0→tkC s d=r)∧(r=0→C0 s d B pi (P ++ [(t,q)]) w'):=by
 obtain⟨A,n,c,hN⟩:=h.nums;refine(look_c s hsb t hidn hnm q d.next ps pd pi B _ A n c w hS hD (hN.below hw) (h.small hsm)).mono ?_;rintro e w' ⟨rfl,hb,hsz,hn⟩;exact⟨_,rfl,hb,hsz,fun h0 => h.bad hR h0,fun h0 => h.step hR h0 (hn h0)⟩
theorem Hz(s:Sh)(hsb:shB s=true)(d:AH)(hsm:(AN d).length≤1000000)(cs:List Value)(f:List Addr)(w:World)(h:Ba w f cs d) :
  Calls Tryz.prog 66 #[shV s,.agg cs.toArray] w fun e w' => e= .returned (int i64 (tkC s d))∧Below w.heap.size w w':=by
 dsimp only[Ba]at h;obtain⟨v0,v1,v2,f0,f1,f2,rfl,-,o0,o1,r0,r1,r2⟩:=h;obtain⟨A0,c0,rfl,m0,m0'⟩:=rSl.head r0;obtain⟨A1,c1,rfl,m1,m1'⟩:=rSl.head r1;obtain⟨A2,c2,rfl,m2,m2'⟩:=rSl.head r2;obtain⟨g0,hg0⟩:∃g0,w.heap.size=g0:=⟨_,rfl⟩;obtain⟨u4,hu4⟩:∃u4,((((w.alloc (.cells #[int i64 s.g,int i64 s.c,int i64 s.data,int i64 s.p,int i64 s.rows,int i64 s.cap,int i64 s.b,int i64 s.q,int i64 s.t] 25)).alloc (.cells #[.slice A0 d.queues.length c0,.slice A1 d.aside.length c1,.slice A2 d.answers.length c2,int i64 d.turn,int i64 d.next] 36)).alloc (.cells #[] 2)).alloc (.cells #[.slice none 0 0] 28))=u4:=⟨_,rfl⟩;have hs4:u4.heap.size=g0+4:=by rw[← hu4,← hg0];simp
 have hb4:Below w.heap.size w u4:=by rw[← hu4];exact Aa (Aa (Aa (Aa (Below.refl _ _) _) _) _) _
 have hS4:Ck u4 g0 s:=by rw[← hu4,← hg0];exact Ck.of ((((Blk.new w 25 #[int i64 s.g,int i64 s.c,int i64 s.data,int i64 s.p,int i64 s.rows,int i64 s.cap,int i64 s.b,int i64 s.q,int i64 s.t]).alloc _).alloc _).alloc _)
 have hK4:Blk u4 (g0+1) 36 #[.slice A0 d.queues.length c0,.slice A1 d.aside.length c1,.slice A2 d.answers.length c2,int i64 d.turn,int i64 d.next]:=by rw[← hu4,← hg0];exact((Blk.new1 w (.cells #[int i64 s.g,int i64 s.c,int i64 s.data,int i64 s.p,int i64 s.rows,int i64 s.cap,int i64 s.b,int i64 s.q,int i64 s.t] 25) 36 #[.slice A0 d.queues.length c0,.slice A1 d.aside.length c1,.slice A2 d.answers.length c2,int i64 d.turn,int i64 d.next]).alloc _).alloc _
 have hE4:Blk u4 (g0+2) 2 #[]:=by rw[← hu4,← hg0];exact(Blk.new2 w (.cells #[int i64 s.g,int i64 s.c,int i64 s.data,int i64 s.p,int i64 s.rows,int i64 s.cap,int i64 s.b,int i64 s.q,int i64 s.t] 25) (.cells #[.slice A0 d.queues.length c0,.slice A1 d.aside.length c1,.slice A2 d.answers.length c2,int i64 d.turn,int i64 d.next] 36) 2 #[]).alloc _
 have hP4:Blk u4 (g0+3) 28 #[.slice none 0 0]:=by
  rw[← hu4,← hg0];have:=Blk.new (((w.alloc (.cells #[int i64 s.g,int i64 s.c,int i64 s.data,int i64 s.p,int i64 s.rows,int i64 s.cap,int i64 s.b,int i64 s.q,int i64 s.t] 25)).alloc (.cells #[.slice A0 d.queues.length c0,.slice A1 d.aside.length c1,.slice A2 d.answers.length c2,int i64 d.turn,int i64 d.next] 36)).alloc (.cells #[] 2)) 28 #[.slice none 0 0];rwa [show(((w.alloc (.cells #[int i64 s.g,int i64 s.c,int i64 s.data,int i64 s.p,int i64 s.rows,int i64 s.cap,int i64 s.b,int i64 s.q,int i64 s.t] 25)).alloc (.cells #[.slice A0 d.queues.length c0,.slice A1 d.aside.length c1,.slice A2 d.answers.length c2,int i64 d.turn,int i64 d.next] 36)).alloc (.cells #[] 2)).heap.size =w.heap.size+3 by simp]at this
 obtain⟨u5,hu5⟩:∃u5,u4.setCell ⟨g0+3,0,none⟩ (.slice (some ⟨g0+2,0,none⟩) 0 0)=u5:=⟨_,rfl⟩;have hb5:Below (g0+2) u4 u5:=by rw[← hu5];exact(Below.refl _ _).setCell (show g0+2≤g0+3 by omega) _
 have hs5:u5.heap.size=g0+4:=by rw[← hu5];simpa [World.setCell]using hs4
 have hN5:D0 u5 (g0+2) (g0+3) [] (some ⟨g0+2,0,none⟩) 0 0:=by
  have K5:Blk u5 (g0+3) 28 #[.slice (some ⟨g0+2,0,none⟩) 0 0]:=by rw[← hu5];exact Blk.set_ hP4 0 _
  have E5:Blk u5 (g0+2) 2 #[]:=by rw[← hu5];exact Blk.far hE4 (by simp) _
  refine⟨(K5.cell 0).trans rfl,K5.frozen 0,by omega,by omega,Aj.start ⟨rfl,.inr ⟨g0+2,0,#[],rfl,Nat.le_refl _,E5,Nat.le_refl _,by unfold maxLen;omega,rfl,rfl⟩⟩,fun e => ?_⟩;injection e with e
  exact absurd e (by show¬g0+2=g0+3;omega)
 have hS5:=hS4.keepB (show g0<g0+2 by omega) hb5;have hK5:Blk u5 (g0+1) 36 #[.slice A0 d.queues.length c0,.slice A1 d.aside.length c1,.slice A2 d.answers.length c2,int i64 d.turn,int i64 d.next]:=by rw[← hu5];exact Blk.far hK4 (by simp) _
 have hB5:Below w.heap.size w u5:=hb4.trans (hb5.mono (by omega));have HS:=hid hS5;have HK:=hid hK5;have HB:=hid hB5;have HZ:=hid hs5;have HSEEN:=hid (show C0 s d (g0+2) (g0+3) (AV 0 (d.queues.take 0)) u5 from⟨rfl,⟨_,rfl⟩,_,_,_,hN5⟩);have HU4:=hid hu4;have HU5:=hid hu5;have HSB:=hid hsb;have HSM:=hid hsm;have HG:=hid hg0;obtain⟨nQ,hnQ⟩:∃nQ,d.queues.length=nQ:=⟨_,rfl⟩;obtain⟨nS,hnS⟩:∃nS,d.aside.length=nS:=⟨_,rfl⟩;have HNQ:=hid hnQ;have HNS:=hid hnS;have R0:=hid r0;have R1:=hid r1;obtain⟨r,hr⟩:∃r,tkC s d=r:=⟨_,rfl⟩;rw[hr];have HR:=hid hr;have k0:u5.cell? ⟨g0+1,0,none⟩=some (.slice A0 nQ c0):=(hK5.cell 0).trans (by rw[← hnQ];rfl);have k1:=hid (show u5.cell? ⟨g0+1,1,none⟩=some (.slice A1 nS c1)from(hK5.cell 1).trans (by rw[← hnS];rfl));have hz1:g0+1<u5.heap.size:=by omega
 have hp4:u4.cell? ⟨g0+3,0,none⟩=some (.slice none 0 0):=(hP4.cell 0).trans rfl;have hf4:=hP4.frozen 0;have hz4:g0+3<u4.heap.size:=by omega
 rw[hnQ]at m0;rw[hnS]at m1;unfold shV;clear hs4 hb4 hS4 hK4 hE4 hP4 hb5 hs5 hN5 hS5 hK5 hB5 hsb hsm hnQ hnS r0 r1 r2 hr m2 m2' o0 o1;go_enter Tryz.func66,Tryz.ntmps66
 go_wp2_with fail
 clear hu4 hu5 hp4 hf4 hz4 k0 hg0;go_loopw [20] (fun ix wr =>∃i:Nat,i≤nQ∧ix= int i64 i∧Hid (C0 s d (g0+2) (g0+3) (AV 0 (d.queues.take i)) wr)∧Hid (Below (g0+2) u5 wr)∧Hid (u5.heap.size≤wr.heap.size)) (fun ix _ => nQ - (intOf ix).toNat)
 case atStart => exact⟨0,by omega,rfl,HSEEN.out,Below.refl _ _,Nat.le_refl _⟩
 case round =>
  clear HSEEN;obtain⟨i,hi,rfl,HSN,HB2,HSZ⟩:=hrel;have HBW:=hid (show Below w.heap.size w wr from HB.out.trans (HB2.out.mono (by rw[HG.out];omega)));by_cases hlt:i<nQ
  ·have hk:i<d.queues.length:=by rw[HNQ.out];exact hlt
   obtain⟨Ax,cx,ev,hc,hm,hx⟩:=rSl.at_ (Am.fixed Ah.fixed) (by decide) R0.out;injection ev with ev1 ev2 ev3
   subst ev1 ev3;clear ev2;rw[HNQ.out]at hc;obtain⟨ad,b,oo,cs,fk,rfl,hat0⟩:=hx i hk;obtain⟨ve0,hve0,hrd0⟩:=hat0.reads;subst hve0;have hat:=hat0.below (Am.local_ Ah.local_) HBW.out;have hpl:=hat.place;have hbl:=hat.lt;obtain⟨Ae,ce,rfl,hmc,hmm⟩:=rSl.head hrd0;have hpc:=hat.cell 0 (by simp);simp only[Nat.add_zero,List.getElem_cons_zero]at hpc;rw[Nat.mul_one]at hpl;have hki:(i:Int)<(nQ:Int):=by omega
   have HCUT:=hid (Ma hk);have HNXT:=hid (show AV 0 (d.queues.take (i+1))=AV 0 (d.queues.take i) ++ d.queues[i].map (fun t =>(t,(i:Int)))from by
    rw[List.take_succ_eq_append_getElem hk,Ep,List.length_take,Nat.min_eq_left (by omega),Nat.zero_add];simp[AV])
   obtain⟨q,hq⟩:∃q,d.queues[i] =q:=⟨_,rfl⟩;rw[hq]at hpc hrd0 hmc HCUT HNXT;obtain⟨nq,hnq⟩:∃nq,q.length=nq:=⟨_,rfl⟩;rw[hnq]at hpc hrd0 hmc;have HNL:=hid hnq;have HQ:=hid hrd0;clear hat hat0 hx hk hq hrd0 hnq;go_wp2_with fail
   have HLT:=hid hlt;clear hpc hpl hbl hki hlt;go_loopw [27] (fun jx wr =>∃j:Nat,j≤nq∧jx= int i64 j∧Hid (C0 s d (g0+2) (g0+3) (AV 0 (d.queues.take i) ++(q.take j).map (fun t =>(t,(i:Int)))) wr)∧Hid (Below (g0+2) u5 wr)∧Hid (u5.heap.size≤wr.heap.size)) (fun jx _ => nq - (intOf jx).toNat)
   case atStart => exact⟨0,by omega,rfl,HSN.out.to (by simp),HB2.out,HSZ.out⟩
   case round =>
    clear HSN HB2 HSZ HBW;obtain⟨j,hj,rfl,HSN,HB2,HSZ⟩:=hrel;have HBW:=hid (show Below w.heap.size w wr from HB.out.trans (HB2.out.mono (by rw[HG.out];omega)));by_cases hlt:j<nq
    ·have hk:j<q.length:=by rw[HNL.out];exact hlt
     have HREST:=hid (show AM d=(AV 0 (d.queues.take i) ++(q.take j).map (fun t =>(t,(i:Int)))) ++(q[j],(i:Int)) ::((q.drop (j+1)).map (fun t =>(t,(i:Int))) ++(AV (i+1) (d.queues.drop (i+1)) ++ d.aside.map fun t =>(t,-1)))from by
      rw[HCUT.out,List.append_assoc];congr 1
      conv => lhs;rw[← List.take_append_drop j q]
      rw[List.drop_eq_getElem_cons hk];simp only[List.map_append,List.map_cons,List.append_assoc,List.cons_append])
     have HSTP:=hid (show(AV 0 (d.queues.take i) ++(q.take j).map (fun t =>(t,(i:Int)))) ++ [(q[j],(i:Int))] =AV 0 (d.queues.take i) ++(q.take (j+1)).map (fun t =>(t,(i:Int)))from by
      rw[List.take_succ_eq_append_getElem hk,List.map_append,List.append_assoc];rfl)
     obtain⟨Ay,cy,ev,hc2,hm2,hx⟩:=rSl.at_ Ah.fixed (by decide) (rSl.below Ah.local_ Ah.fixed HQ.out HBW.out);injection ev with ev1 ev2 ev3
     subst ev1 ev3;clear ev2;rw[HNL.out]at hc2;obtain⟨ad2,b2,o2,cs2,fk2,rfl,hat⟩:=hx j hk;have hpl:=hat.place;have hbl:=hat.lt;obtain⟨hcs,-,oid,-,onm,-⟩:=hat.reads;subst hcs;have HRG:=hid (TkO.of hat).rng;have hki:(j:Int)<(nq:Int):=by omega
     obtain⟨t,ht⟩:∃t,q[j] =t:=⟨_,rfl⟩;rw[ht]at HRG HREST HSTP oid onm;obtain⟨Z,hZ⟩:∃Z:Array Value,#[int i64 0,int i64 0,.string ⟨#[]⟩,int i64 0] =Z:=⟨_,rfl⟩;have hZs:Z.size=4:=by rw[← hZ];rfl
     have KZ:=Blk.new wr 103 Z;have HTH:=hid (Blk.there KZ 4 (by rw[hZs];exact Nat.le_refl _));obtain⟨w3,hW2⟩:∃w3,(wr.alloc (.cells Z 103)).setCells wr.heap.size 0 [int i64 t.id,int i64 t.kind,.string t.name,int i64 t.group] =w3:=⟨_,rfl⟩;have K3:=hid (show Blk w3 wr.heap.size 103 #[int i64 t.id,int i64 t.kind,.string t.name,int i64 t.group] by rw[← hW2];exact Blk.laid KZ [int i64 t.id,int i64 t.kind,.string t.name,int i64 t.group] (by rw[hZs];rfl));have b3:Below wr.heap.size wr w3:=by rw[← hW2];exact AF (Aa (Below.refl _ _) _) _ 0 (Nat.le_refl _)
     have HW2:=hid hW2;have HR3:=hid (Blk.rangeAll K3.out);have hB3:Below (g0+2) u5 w3:=HB2.out.trans (b3.mono (by have:=HSZ.out;have:=HZ.out;omega));have HB3:=hid hB3;have hz3:=K3.out.lt;have HLK:=hid (G1 s HSB.out d HSM.out g0 (g0+1) (g0+3) (g0+2) _ _ t ((i:Int)) oid onm wr w3 HSN.out HREST.out b3 (HS.out.keepB (by omega) hB3) ((hB3.cell (p:=⟨g0+1,4,none⟩) (by simp)).trans ((HK.out.cell 4).trans rfl)));rw[HSTP.out]at HLK;have HSZ3:=hid (show u5.heap.size≤w3.heap.size from Nat.le_trans HSZ.out b3.size);unfold tkV at HLK;clear hat hx hk ht hW2 KZ hZs b3 hB3 HREST HSTP HSN oid onm;go_wp2_with (first
      |(refine wpList_load_mid rfl 103 _ rfl b2 o2 rfl _ _ HRG.out Tryz.underlying103 rfl (by kernel_rfl) ?_)
      |(refine wpList_store_mid rfl 103 _ _ rfl wr.heap.size 0 #[int i64 t.id,int i64 t.kind,.string t.name,int i64 t.group] rfl rfl HTH.out (by kernel_rfl) (by simp[Value.oneCell']) ?_;rw[show(wr.alloc (.cells Z 103)).setCells wr.heap.size 0 (#[int i64 t.id,int i64 t.kind,.string t.name,int i64 t.group]:Array Value).toList =w3 from HW2.out])
      |(refine wpList_load_mid rfl 103 _ rfl wr.heap.size 0 rfl _ _ HR3.out Tryz.underlying103 rfl (by kernel_rfl) ?_))
     refine HLK.out.mono ?_;rintro e w7 ⟨rr,rfl,b7,s7,bad7,ok7⟩;have B7:=hid (HB3.out.trans b7);have S7:=hid (Nat.le_trans HSZ3.out s7);have BW7:=hid (show Below w.heap.size w w7 from HB.out.trans (B7.out.mono (by rw[HG.out];omega)));by_cases hr0:rr=0
     ·have O7:=hid (ok7 hr0);subst hr0;clear b7 s7 bad7 ok7;go_wp2_with fail
      go_roundw
      case rel => exact⟨j+1,by omega,by go_num,O7.out,B7.out,S7.out⟩
      case measure => simp[intOf];omega
     ·have e0:r=rr:=HR.out.symm.trans (bad7 hr0);subst e0;have hb:=Eo hr0;clear b7 s7 bad7 ok7 hr0;go_wp2_with fail
      go_ret
      exact⟨rfl,BW7.out⟩
    ·obtain rfl:nq=j:=by omega
     have hlt0:=HLT.out;have HSN3:=hid (HSN.out.to (P':=AV 0 (d.queues.take (i+1))) (by rw[HNXT.out,List.take_of_length_le (l:=q) (by rw[HNL.out];exact Nat.le_refl _)]));go_wp2_with fail
     go_roundw
     case rel => exact⟨i+1,by omega,by go_num,HSN3.out,HB2.out,HSZ.out⟩
     case measure => simp[intOf];omega
  ·obtain rfl:nQ=i:=by omega
   have HSN3:=hid (HSN.out.to (P':=AV 0 d.queues ++(d.aside.take 0).map (fun t =>(t,(-1:Int)))) (by rw[List.take_of_length_le (l:=d.queues) (by rw[HNQ.out];exact Nat.le_refl _)];simp));have k1w:=(HB2.out.cell (p:=⟨g0+1,1,none⟩) (by simp)).trans k1.out;have hzw:g0+1<wr.heap.size:=Nat.lt_of_lt_of_le hz1 HSZ.out;clear HSN;go_wp2_with fail
   clear k1w;go_loopw [43] (fun jx wr =>∃j:Nat,j≤nS∧jx= int i64 j∧Hid (C0 s d (g0+2) (g0+3) (AV 0 d.queues ++(d.aside.take j).map (fun t =>(t,(-1:Int)))) wr)∧Hid (Below (g0+2) u5 wr)∧Hid (u5.heap.size≤wr.heap.size)) (fun jx _ => nS - (intOf jx).toNat)
   case atStart => exact⟨0,by omega,rfl,HSN3.out,HB2.out,HSZ.out⟩
   case round =>
    clear HSN3 HB2 HSZ HBW;obtain⟨j,hj,rfl,HSN,HB2,HSZ⟩:=hrel;have HBW:=hid (show Below w.heap.size w wr from HB.out.trans (HB2.out.mono (by rw[HG.out];omega)));by_cases hlt:j<nS
    ·have hk:j<d.aside.length:=by rw[HNS.out];exact hlt
     have HREST:=hid (show AM d=(AV 0 d.queues ++(d.aside.take j).map (fun t =>(t,(-1:Int)))) ++(d.aside[j],(-1:Int)) ::(d.aside.drop (j+1)).map (fun t =>(t,(-1:Int)))from by
      unfold AM;rw[List.append_assoc];congr 1
      conv => lhs;rw[← List.take_append_drop j d.aside]
      rw[List.drop_eq_getElem_cons hk];simp only[List.map_append,List.map_cons])
     have HSTP:=hid (show(AV 0 d.queues ++(d.aside.take j).map (fun t =>(t,(-1:Int)))) ++ [(d.aside[j],(-1:Int))] =AV 0 d.queues ++(d.aside.take (j+1)).map (fun t =>(t,(-1:Int)))from by
      rw[List.take_succ_eq_append_getElem hk,List.map_append,List.append_assoc];rfl)
     obtain⟨Ay,cy,ev,hc2,hm2,hx⟩:=rSl.at_ Ah.fixed (by decide) (rSl.below Ah.local_ Ah.fixed R1.out HBW.out);injection ev with ev1 ev2 ev3
     subst ev1 ev3;clear ev2;rw[HNS.out]at hc2;obtain⟨ad2,b2,o2,cs2,fk2,rfl,hat⟩:=hx j hk;have hpl:=hat.place;have hbl:=hat.lt;obtain⟨hcs,-,oid,-,onm,-⟩:=hat.reads;subst hcs;have HRG:=hid (TkO.of hat).rng;have hki:(j:Int)<(nS:Int):=by omega
     obtain⟨t,ht⟩:∃t,d.aside[j] =t:=⟨_,rfl⟩;rw[ht]at HRG HREST HSTP oid onm;obtain⟨Z,hZ⟩:∃Z:Array Value,#[int i64 0,int i64 0,.string ⟨#[]⟩,int i64 0] =Z:=⟨_,rfl⟩;have hZs:Z.size=4:=by rw[← hZ];rfl
     have KZ:=Blk.new wr 103 Z;have HTH:=hid (Blk.there KZ 4 (by rw[hZs];exact Nat.le_refl _));obtain⟨w3,hW2⟩:∃w3,(wr.alloc (.cells Z 103)).setCells wr.heap.size 0 [int i64 t.id,int i64 t.kind,.string t.name,int i64 t.group] =w3:=⟨_,rfl⟩;have K3:=hid (show Blk w3 wr.heap.size 103 #[int i64 t.id,int i64 t.kind,.string t.name,int i64 t.group] by rw[← hW2];exact Blk.laid KZ [int i64 t.id,int i64 t.kind,.string t.name,int i64 t.group] (by rw[hZs];rfl));have b3:Below wr.heap.size wr w3:=by rw[← hW2];exact AF (Aa (Below.refl _ _) _) _ 0 (Nat.le_refl _)
     have HW2:=hid hW2;have HR3:=hid (Blk.rangeAll K3.out);have hB3:Below (g0+2) u5 w3:=HB2.out.trans (b3.mono (by have:=HSZ.out;have:=HZ.out;omega));have HB3:=hid hB3;have hz3:=K3.out.lt;have HLK:=hid (G1 s HSB.out d HSM.out g0 (g0+1) (g0+3) (g0+2) _ _ t ((-1:Int)) oid onm wr w3 HSN.out HREST.out b3 (HS.out.keepB (by omega) hB3) ((hB3.cell (p:=⟨g0+1,4,none⟩) (by simp)).trans ((HK.out.cell 4).trans rfl)));rw[HSTP.out]at HLK;have HSZ3:=hid (show u5.heap.size≤w3.heap.size from Nat.le_trans HSZ.out b3.size);unfold tkV at HLK;clear hat hx hk ht hW2 KZ hZs b3 hB3 HREST HSTP HSN oid onm;go_wp2_with (first
      |(refine wpList_load_mid rfl 103 _ rfl b2 o2 rfl _ _ HRG.out Tryz.underlying103 rfl (by kernel_rfl) ?_)
      |(refine wpList_store_mid rfl 103 _ _ rfl wr.heap.size 0 #[int i64 t.id,int i64 t.kind,.string t.name,int i64 t.group] rfl rfl HTH.out (by kernel_rfl) (by simp[Value.oneCell']) ?_;rw[show(wr.alloc (.cells Z 103)).setCells wr.heap.size 0 (#[int i64 t.id,int i64 t.kind,.string t.name,int i64 t.group]:Array Value).toList =w3 from HW2.out])
      |(refine wpList_load_mid rfl 103 _ rfl wr.heap.size 0 rfl _ _ HR3.out Tryz.underlying103 rfl (by kernel_rfl) ?_))
     refine HLK.out.mono ?_;rintro e w7 ⟨rr,rfl,b7,s7,bad7,ok7⟩;have B7:=hid (HB3.out.trans b7);have S7:=hid (Nat.le_trans HSZ3.out s7);have BW7:=hid (show Below w.heap.size w w7 from HB.out.trans (B7.out.mono (by rw[HG.out];omega)));by_cases hr0:rr=0
     ·have O7:=hid (ok7 hr0);subst hr0;clear b7 s7 bad7 ok7;go_wp2_with fail
      go_roundw
      case rel => exact⟨j+1,by omega,by go_num,O7.out,B7.out,S7.out⟩
      case measure => simp[intOf];omega
     ·have e0:r=rr:=HR.out.symm.trans (bad7 hr0);subst e0;have hb:=Eo hr0;clear b7 s7 bad7 ok7 hr0;go_wp2_with fail
      go_ret
      exact⟨rfl,BW7.out⟩
    ·obtain rfl:nS=j:=by omega
     have e0:r=0:=HR.out.symm.trans (HSN.out.to (P':=AM d) (by rw[List.take_of_length_le (l:=d.aside) (by rw[HNS.out];exact Nat.le_refl _)];rfl)).all;subst e0;go_wp2_with fail
     go_ret
     exact⟨rfl,HBW.out⟩
end Go.Proofs.YthbljikbnoghcaaGreat
