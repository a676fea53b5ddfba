/- Part 21 of the proof. -/
import Derived.Test.YtofeknacbdcoaaaGreatDoorK20
import Derived.Test.YtofeknacbdcoaaaGreatDoorK07
import Derived.Test.YtofeknacbdcoaaaGreatDoorK19
set_option maxHeartbeats 8000000
set_option maxRecDepth 100000
set_option linter.unusedVariables false
set_option linter.unusedSimpArgs false
open Go.Proofs.Tryz
open Go.Value (int)
open Go.IntKind (i64)
namespace Go.Proofs.YtofeknacbdcoaaaGreatDoor
open Go.RowKit Go.Lib Go.Sort
structure Fh (W:World) (B M:Nat) (ids:List Int) (A:Option Addr) (n c:Nat):Prop where
 own:Ak 1 2 Aw W B (.slice A n c) ids []
 at_:∀k,(Value.slice A n c).ownBlock =some k->k=B∨M<=k
 size:M<=W.heap.size
theorem Fh.len {W B M ids A n c}(h:Fh W B M ids A n c):n=ids.length/\n<=c/\c<=9223372036854775807:=by
 obtain⟨i,l,e,p,q⟩:=h.own.length;injection e with _ f o
 exact⟨f,by omega,by omega⟩
theorem Fh.B {W e B M ids A n c}(h:Fh W B M ids A n c)(hb:Below W W e):Fh e B M ids A n c :=
 ⟨h.own.B Aw.L Aw.X hb,h.at_,aZ h.size hb.size⟩
theorem Qt {w B M ids A n c x}(h:Fh w B M ids A n c)(o:B<=M)(hx:okI x)(hn:ids.length+1<=1000000000):
  ∃s w',(Builtin.append_ #[25,25] 25 #[.slice A n c,.slice (some (zE w)) 1 1]).run prog (w.alloc (.cells #[int i64 x] 2))= .ok s w'/\∃i l,s= .slice i (n+1) l/\Fh w' B M (ids ++ [x]) i (n+1) l/\Below B w w'/\w.heap.size<=w'.heap.size/\(∀k,k<M->k≠B->w'.heap[k]? =w.heap[k]?):=by
 have hb:Below w w (w.alloc (.cells #[int i64 x] 2)):=Ac (aC _ _) _;have h2:=h.B hb;have u:B<=w.heap.size:=aZ o h.size;obtain⟨s,w',q1,i,l,rfl,z,b9,s9,k9,y⟩:=IT h2.own hx hn (aZ u hb.size) (Blk.new w _ _);obtain⟨e,-,-⟩:=h.len;rw[<-e]at z q1 y;refine⟨_,w',q1,i,l,rfl,⟨z,fun k p => ?_,aZ h.size (aZ hb.size s9)⟩,(hb.M u).T b9,aZ hb.size s9,fun k p r => ?_⟩
 ·rcases y k p with q|q
  ·exact h.at_ k q
  ·exact .inr (aZ h.size (aZ hb.size q))
 ·have f:k<w.heap.size:=aH p h.size;refine(k9 k (aH f hb.size) fun e => ?_).T (hb.block k f);rcases h.at_ k e with q|q
  ·exact r q
  ·omega
theorem My(d)(bl:(AY d).length<=1000000)(b6:d.answers.length<=1000000)(cs f w)(h:Bb w f cs d):
  Calls prog 101 #[.agg cs] w (zN (int i64 (anH (d.next - 1) d)) w):=by
 dsimp only[Bb]at h;obtain⟨v0,v1,v2,f0,f1,f2,rfl,-,o0,o1,r0,r1,r2⟩:=h;obtain⟨A0,c0,rfl,m0,cl⟩:=rSl.head r0;obtain⟨A1,c1,rfl,m1,cm⟩:=rSl.head r1;obtain⟨A2,c2,rfl,m2,c4⟩:=rSl.head r2;obtain⟨u,a1⟩:∃u,w.heap.size=u:=zJ;obtain⟨u2,a2⟩:∃u2,((w.alloc (.cells (zB d A0 c0 A1 c1 A2 c2) 47)).alloc (.cells #[] 2))=u2:=zJ;have b5:u2.heap.size=u+2:=by rw[<-a2,<-a1];simp
 have a0:Below w w u2:=by rw[<-a2];exact Ac (Ac (aC _ _) _) _
 have bi:Blk u2 u 47 (zB d A0 c0 A1 c1 A2 c2):=by rw[<-a2,<-a1];exact(Blk.new w 47 (zB d A0 c0 A1 c1 A2 c2)).alloc _
 have bu:Blk u2 (u+1) 2 #[]:=by rw[<-a2,<-a1];exact Blk.new1 w (.cells (zB d A0 c0 A1 c1 A2 c2) 47) 2 #[]
 have bt:=Ej.of (d:=d) bi (rSl.B (Ai.L Ag.L) (Ai.X Ag.X) r0 a0) (rSl.B Ag.L Ag.X r1 a0) (rSl.B AB.L AB.X r2 a0);obtain⟨bs,HE,HK,HB,HZ,HG⟩:=zF (NJ u 0 d A0 A1 A2 c0 c1 c2 f0 f1 f2 u2 bt bl) bu bi a0 b5 a1;obtain⟨bq,cd,R2⟩:=zI bl b6 r2;obtain⟨n,hn⟩:∃n,(AY d).length =n:=zJ;rw[hn]at bs;have HN:=zq hn;obtain⟨nA,bx⟩:∃nA,d.answers.length=nA:=zJ;have a5:=zq bx;obtain⟨r,hr⟩:∃r,anH (d.next - 1) d=r:=zJ;rw[hr];have HR:=zq hr;have ct:u<u2.heap.size:=by omega
 clear b5 a0 bi bu bt bl b6 hn bx hr r0 r1 r2 m0 cl m1 cm m2 o0 o1;go_enter func101,ntmps101
 go_wp2_with fail
 refine bs.o.M ?_;rintro e w1 ⟨A,c,gs,rfl,ra,mg,b1⟩;obtain⟨RA,MG,B1,bn,bd,cc⟩:=zF ra mg b1 (show Fh w1 (u+1) w1 [] (some (zE (u+1))) 0 0 from⟨Ak.start ⟨rfl,.inr ⟨u+1,0,#[],rfl,aD _,HE.o.B b1 HE.o.lt,aD _,by unfold maxLen;omega,rfl,rfl⟩⟩,fun k hk => by injection hk with hk;exact .inl hk.symm,aD _⟩) (HK.o.B b1 HK.o.lt) (show Below w w w1 from HB.o.T (b1.M HB.o.size));have ax:=zq (show u+2<=w1.heap.size by have:=b1.size;have:=HZ.o;omega);have bm:=zq (show∀a,a∈gs->a.block<w1.heap.size/\a.block≠u+1 from fun a ha =>⟨rSl.there Ag.X ra a ha,by have:=mg a ha;have:=HZ.o;omega⟩);clear ra mg b1 a2 a1;go_wp2
 go_loopw [11,3] (fun ix vv wr =>∃(i c':Nat) (A':Option Addr),i<=n/\ix=i/\vv= .slice A' i c'/\Hid (Fh wr (u+1) w1 (((AY d).take i).map AA.id) A' i c')/\Hid (Below (u+1) w1 wr)/\Hid (rSl 4 Ag wr gs (.slice A n c) (AY d))) (fun ix _ _ => n - (intOf ix).toNat)
 ·exact⟨0,0,some (zE (u+1)),by omega,rfl,rfl,bn.o,aC _ _,RA.o⟩
 ·clear bn;obtain⟨i,c',A',hi,rfl,rfl,ag,ao,a6⟩:=hrel;by_cases bj:i<n
  ·have hk:i<(AY d).length:=by rw[HN.o];exact bj
   obtain⟨Ay,cy,ev,cg,cr,hx⟩:=rSl.at_ Ag.X zW a6.o;injection ev with bf bg bh
   subst bf bh;clear bg;rw[HN.o]at cg;obtain⟨co,b2,o2,cp,cq,rfl,y⟩:=hx i hk;have cj:=y.place;have cf:=y.lt;obtain⟨ch,-,av,-,cn,-⟩:=y.reads;subst ch;have ab:=zq (TkO.of y).rng;have ci:(i:Int)<(n:Int):=by omega
   have az:=zq (show((AY d).take (i+1)).map AA.id=((AY d).take i).map AA.id ++ [(AY d)[i].id]from by rw[aK hk,List.map_append];rfl);obtain⟨t,ht⟩:∃t,(AY d)[i] =t:=zJ;rw[ht]at ab az av;obtain⟨Z,hZ⟩:∃Z:Array Value,#[int i64 0,(),.string ⟨#[]⟩,()] =Z:=zJ;have au:Z.size=4:=by rw[<-hZ];rfl
   have KZ:=Blk.new wr 112 Z;have ah:=zq (Blk.there KZ 4 (by rw[au];exact aD _));obtain⟨z,aj⟩:∃z,(wr.alloc (.cells Z 112)).setCells wr 0 [int i64 t.id,t.kind,.string t.name,t.group] =z:=zJ;have K3:=zq (show Blk z wr 112 #[t.id,t.kind,.string t.name,t.group] by rw[<-aj];exact Blk.laid KZ [t.id,t.kind,.string t.name,t.group] (by rw[au];rfl));have b3:Below wr wr z:=by rw[<-aj];exact AS (Ac (aC _ _) _) _ 0 (aD _)
   have ai:=zq aj;have ck:=K3.o.lt;have p3:z.cell? ⟨wr.heap.size,0,none⟩=some (int i64 t.id):=(K3.o.cell 0).T rfl;obtain⟨B3,bb,bp⟩:=zI (show Below (u+1) wr z from b3.M (by have:=ax.o;have:=ag.o.size;omega)) (Qt (ag.o.B b3) (by have:=ax.o;omega) av (by rw[bH,aX];have:=bq.o;omega)) (rSl.B Ag.L Ag.X a6.o b3);clear y hx hk ht aj KZ au b3 av cn ag a6;go_wp2_with (first
    |(refine aE rfl 112 _ rfl b2 o2 rfl _ _ ab.o underlying112 rfl zY ?_)
    |(refine aV rfl 112 _ _ rfl wr 0 #[t.id,t.kind,.string t.name,t.group] rfl rfl ah.o zY zU ?_;rw[show(wr.alloc (.cells Z 112)).setCells wr 0 (#[t.id,t.kind,.string t.name,t.group]:Array Value).toList =z from ai.o])
    |(at_builtin;refine An rfl (.tmp 15) (.tmp 18) 25 rfl _ _ zT zT bb.o ?_;rintro v9 w9 ⟨A9,c9,rfl,o9,b9,s9,k9⟩;have O9:=zq o9;have B9:=zq b9;have K9:=zq k9;clear o9 b9 s9 k9))
   go_roundw
   ·exact⟨i+1,c9,A9,by omega,by go_num,rfl,(show Fh _ _ _ _ _ _ _ from by rw[az.o];exact O9.o),ao.o.T (B3.o.T B9.o),rSl.keep Ag.L bp.o (fun a ha => World.cell?_of_block (K9.o a.block (bm.o a ha).1 (bm.o a ha).2))⟩
   ·simp[intOf];omega
  ·obtain rfl:n=i:=by omega
   have ay:=zq (show Fh wr (u+1) w1 (Fy d ++(d.answers.take 0).map AQ.id) A' n c' from by
    have:=ag.o;rw[bB (l:=AY d) (by rw[HN.o];exact aD _)]at this;rw[List.take_zero,List.map_nil,List.append_nil];exact this)
   have k2:wr.cell? ⟨u,2,none⟩=some (.slice A2 nA c2):=(ao.o.cell (p:=⟨u,2,none⟩) zX).T ((bd.o.cell 2).T (by rw[<-a5.o];rfl));have cu:u<wr.heap.size:=by have:=ay.o.size;have:=ax.o;omega
   clear ag a6;go_wp2_with fail
   clear k2;go_loopw [24,3] (fun ix vv wr =>∃(i m c':Nat) (A':Option Addr),i<=nA/\ix=i/\vv= .slice A' m c'/\Hid (Fh wr (u+1) w1 (Fy d ++(d.answers.take i).map AQ.id) A' m c')/\Hid (Below (u+1) w1 wr)/\Hid (Fv (d.next - 1) d i)) (fun ix _ _ => nA - (intOf ix).toNat)
   ·exact⟨0,n,c',A',by omega,rfl,rfl,ay.o,ao.o,(show Fv _ d 0 from rfl)⟩
   ·clear ay ao;obtain⟨i,m,c',A',hi,rfl,rfl,ag,ao,HT⟩:=hrel;have a4:=zq (show Below w w wr from cc.o.T (ao.o.M (by rw[HG.o];omega)));by_cases bj:i<nA
    ·have hk:i<d.answers.length:=by rw[a5.o];exact bj
     obtain⟨Ax,cx,ev,hc,hm,hx⟩:=rSl.at_ AB.X zW (rSl.B AB.L AB.X R2.o a4.o);injection ev with bf bg bh
     subst bf bh;clear bg;rw[a5.o]at hc;obtain⟨ad,b,oo,cs,fk,rfl,y⟩:=hx i hk;have cj:=y.place;have cf:=y.lt;have aw:cs.length=4:=y.len;have ab:=zq (show wr.rangeAt b oo cs from fun q v hq => by
      have bz:q<cs.length:=(List.getElem?_eq_some_iff.1 hq).1;rw[y.cell q bz,<-hq];exact(aO bz).symm)
     obtain⟨v0,q0,a7,-,av,-,-,b0⟩:=y.reads;obtain⟨Ab,cb,rfl,bv,bw⟩:=rSl.head b0;have ci:(i:Int)<(nA:Int):=by omega
     obtain⟨ak,ar,az⟩:=zI (fun h0 => HR.o.symm.T (HT.o.bad hk h0)) (fun h0 => HT.o.step hk h0) (show Fy d ++(d.answers.take (i+1)).map AQ.id=(Fy d ++(d.answers.take i).map AQ.id) ++ [d.answers[i].id]from by rw[aK hk,List.map_append,List.append_assoc];rfl);obtain⟨x,b7⟩:∃x,d.answers[i] =x:=zJ;rw[b7]at a7 ak ar bv av az;obtain⟨nb,bk⟩:∃nb,x.bytes.length=nb:=zJ;rw[bk]at a7 bv;have be:=zq bk;obtain⟨Z,hZ⟩:∃Z:Array Value,#[int i64 0,(),(),zQ] =Z:=zJ;have au:Z.size=4:=by rw[<-hZ];rfl
     have KZ:=Blk.new wr 163 Z;have ah:=zq (Blk.there KZ cs.toArray.size (by rw[show cs.toArray.size=4 from List.size_toArray.T aw,au];exact aD _));obtain⟨z,aj⟩:∃z,(wr.alloc (.cells Z 163)).setCells wr 0 cs.toArray.toList=z:=zJ;have K3:=zq (show Blk z wr 163 cs.toArray by rw[<-aj];exact Blk.laid KZ _ (by rw[au];exact aw.symm));have b3:Below wr wr z:=by rw[<-aj];exact AS (Ac (aC _ _) _) _ 0 (aD _)
     obtain⟨ai,HI,ap,aq,X3,B3⟩:=zF aj (show(prog.info? 163).map (·.size)=some cs.length by rw[aw];kernel_rfl) (show(prog.info? 163).map (·.size)=some cs.toArray.size by rw[show cs.toArray.size=4 from List.size_toArray.T aw];kernel_rfl) (all_oneCell_toArray (AB.ones _ _ _ _ y.reads)) (show AnO z wr 0 x (.slice Ab nb cb)from AnO.ofBlk (by rw[<-a7];exact K3.o)) (show Below (u+1) w1 z from ao.o.T (b3.M (by have:=ax.o;have:=ag.o.size;omega)));have ac:=zq (a4.o.T (b3.M a4.o.size));have N3:=zq (ag.o.B b3);have bc:=zq (show Calls prog 148 #[.slice A' m c',x.id] z (zN (.bool (decide (x.id∈Fy d ++(d.answers.take i).map AQ.id))) z)from by
      obtain⟨gs,hr,-⟩:=N3.o.own.reads;exact Fi _ _ x.id _ z hr)
     have a8:=X3.o.lt;have x0:z.cell? ⟨wr.heap.size,0,none⟩=some (int i64 x.id):=X3.o.c0;have x1:z.cell? ⟨wr.heap.size,1,none⟩=some (int i64 x.code):=X3.o.c1;have x2:z.cell? ⟨wr.heap.size,2,none⟩=some (int i64 x.turn):=X3.o.c2;have x3:z.cell? ⟨wr.heap.size,3,none⟩=some (.slice Ab nb cb):=X3.o.c3;have d3:z.cell? ⟨u,3,none⟩=some (int i64 d.turn):=(B3.o.cell (p:=⟨u,3,none⟩) zX).T ((bd.o.cell 3).T rfl);have d4:z.cell? ⟨u,4,none⟩=some (int i64 d.next):=(B3.o.cell (p:=⟨u,4,none⟩) zX).T ((bd.o.cell 4).T rfl);have ck:u<z.heap.size:=by have:=N3.o.size;have:=ax.o;omega
     obtain⟨al,am,s⟩:=zI (fun(W:World) => By x.code 0 12 W) (fun(W:World) => By x.turn 0 d.turn W) (show(Ap x.id 1 (d.next - 1) && (Ap x.code 0 12 && Ap x.turn 0 d.turn))=false->r=3 from fun h0 =>(ak.o (by rw[FZ h0];decide)).T (FZ h0));have af:=zq (show(Ap x.id 1 (d.next - 1) && (Ap x.code 0 12 && Ap x.turn 0 d.turn))=true->36<nb->r=2 from fun h0 h1 => by
      rw[<-be.o]at h1;exact(ak.o (by rw[Gv h0 h1];decide)).T (Gv h0 h1))
     have aa:=zq (show(Ap x.id 1 (d.next - 1) && (Ap x.code 0 12 && Ap x.turn 0 d.turn))=true->¬36<nb->x.id∈Fy d ++(d.answers.take i).map AQ.id->r=7 from fun h0 h1 h2 => by
      rw[<-be.o]at h1;have e:=(GY (i:=i) (x:=x) h0 h1).T (aM h2);exact(ak.o (by rw[e];decide)).T e)
     have ae:=zq (show(Ap x.id 1 (d.next - 1) && (Ap x.code 0 12 && Ap x.turn 0 d.turn))=true->¬36<nb->x.id∉Fy d ++(d.answers.take i).map AQ.id->Fv (d.next - 1) d (i+1)from fun h0 h1 h2 => by
      rw[<-be.o]at h1;exact ar.o ((GY (i:=i) (x:=x) h0 h1).T (aJ h2)))
     have br:=zq (show(Fy d ++(d.answers.take i).map AQ.id).length +1<=1000000000 by
      unfold Fy;rw[aU,bH,bH,aX];have:=bq.o;have:=cd.o;omega)
     have bo:=zq av;clear y hx aj KZ au a7 b7 bk b0 hk b3 av bw ak ar ag;by_cases j1:x.id<1
     ·obtain rfl:r=3:=s.o (by rw[IY j1];rfl);go_wp2_with (first
       |(refine aE rfl 163 _ rfl b oo rfl cs _ ab.o underlying163 rfl HI.o ?_)
       |(refine aV rfl 163 _ _ rfl wr 0 cs.toArray rfl rfl ah.o ap.o aq.o ?_;rw[ai.o])
       |(go_at_call_has 95 x.code;refine(al.o _).M ?_;rintro e w' ⟨rfl,rfl⟩)
       |(go_at_call_has 95 x.turn;refine(am.o _).M ?_;rintro e w' ⟨rfl,rfl⟩))
      go_ret
      exact⟨rfl,ac.o⟩
     by_cases j2:d.next<=x.id
     ·obtain rfl:r=3:=s.o (by rw[Gp (show d.next - 1<x.id by omega)];rfl);have cw:decide (d.next<=x.id)=true:=aN j2;go_wp2_with (first
       |(refine aE rfl 163 _ rfl b oo rfl cs _ ab.o underlying163 rfl HI.o ?_)
       |(refine aV rfl 163 _ _ rfl wr 0 cs.toArray rfl rfl ah.o ap.o aq.o ?_;rw[ai.o])
       |(go_at_call_has 95 x.code;refine(al.o _).M ?_;rintro e w' ⟨rfl,rfl⟩)
       |(go_at_call_has 95 x.turn;refine(am.o _).M ?_;rintro e w' ⟨rfl,rfl⟩))
      go_ret
      exact⟨rfl,ac.o⟩
     have HJ:=zq (show Ap x.id 1 (d.next - 1)=true from FD zZ zZ);have cv:¬x.id<1:=j1;have cz:x.id<d.next:=by omega
     rw[HJ.o,Bool.true_and]at s af aa ae;clear j1 j2;obtain⟨i2,a9⟩:∃i2,Ap x.code 0 12=i2:=zJ;obtain⟨i3,ba⟩:∃i3,Ap x.turn 0 d.turn=i3:=zJ;rw[a9]at al s af aa ae;rw[ba]at am s af aa ae;clear a9 ba;cases i2 with
     |false =>
      obtain rfl:r=3:=s.o rfl;go_wp2_with (first
       |(refine aE rfl 163 _ rfl b oo rfl cs _ ab.o underlying163 rfl HI.o ?_)
       |(refine aV rfl 163 _ _ rfl wr 0 cs.toArray rfl rfl ah.o ap.o aq.o ?_;rw[ai.o])
       |(go_at_call_has 95 x.code;refine(al.o _).M ?_;rintro e w' ⟨rfl,rfl⟩)
       |(go_at_call_has 95 x.turn;refine(am.o _).M ?_;rintro e w' ⟨rfl,rfl⟩))
      go_ret
      exact⟨rfl,ac.o⟩
     |true =>
      cases i3 with
      |false =>
       obtain rfl:r=3:=s.o rfl;go_wp2_with (first
        |(refine aE rfl 163 _ rfl b oo rfl cs _ ab.o underlying163 rfl HI.o ?_)
        |(refine aV rfl 163 _ _ rfl wr 0 cs.toArray rfl rfl ah.o ap.o aq.o ?_;rw[ai.o])
        |(go_at_call_has 95 x.code;refine(al.o _).M ?_;rintro e w' ⟨rfl,rfl⟩)
        |(go_at_call_has 95 x.turn;refine(am.o _).M ?_;rintro e w' ⟨rfl,rfl⟩))
       go_ret
       exact⟨rfl,ac.o⟩
      |true =>
       by_cases a3:36<nb
       ·obtain rfl:r=2:=af.o rfl a3;have b8:(36:Int)<(nb:Int):=by omega
        go_wp2_with (first
         |(refine aE rfl 163 _ rfl b oo rfl cs _ ab.o underlying163 rfl HI.o ?_)
         |(refine aV rfl 163 _ _ rfl wr 0 cs.toArray rfl rfl ah.o ap.o aq.o ?_;rw[ai.o])
         |(go_at_call_has 95 x.code;refine(al.o _).M ?_;rintro e w' ⟨rfl,rfl⟩)
         |(go_at_call_has 95 x.turn;refine(am.o _).M ?_;rintro e w' ⟨rfl,rfl⟩))
        go_ret
        exact⟨rfl,ac.o⟩
       have b8:¬(36:Int)<(nb:Int):=by omega
       obtain⟨mb,an⟩:∃mb,decide (x.id∈Fy d ++(d.answers.take i).map AQ.id)=mb:=zJ;rw[an]at bc;cases mb with
       |true =>
        obtain rfl:r=7:=aa.o rfl a3 (bE an);clear an a3;go_wp2_with (first
         |(refine aE rfl 163 _ rfl b oo rfl cs _ ab.o underlying163 rfl HI.o ?_)
         |(refine aV rfl 163 _ _ rfl wr 0 cs.toArray rfl rfl ah.o ap.o aq.o ?_;rw[ai.o])
         |(go_at_call_has 95 x.code;refine(al.o _).M ?_;rintro e w' ⟨rfl,rfl⟩)
         |(go_at_call_has 95 x.turn;refine(am.o _).M ?_;rintro e w' ⟨rfl,rfl⟩)
         |(go_at_call 148;refine bc.o.M ?_;rintro e w4 ⟨rfl,b4⟩;have BC:=zq (ac.o.T (b4.M ac.o.size));have y0:=(b4.cell (p:=⟨wr.heap.size,0,none⟩) a8).T x0;have y1:=aH a8 b4.size;clear b4))
        go_ret
        exact⟨rfl,BC.o⟩
       |false =>
        have ce:=zq (ae.o rfl a3 (of_decide_eq_false an));clear an a3;go_wp2_with (first
         |(refine aE rfl 163 _ rfl b oo rfl cs _ ab.o underlying163 rfl HI.o ?_)
         |(refine aV rfl 163 _ _ rfl wr 0 cs.toArray rfl rfl ah.o ap.o aq.o ?_;rw[ai.o])
         |(go_at_call_has 95 x.code;refine(al.o _).M ?_;rintro e w' ⟨rfl,rfl⟩)
         |(go_at_call_has 95 x.turn;refine(am.o _).M ?_;rintro e w' ⟨rfl,rfl⟩)
         |(go_at_call 148;refine bc.o.M ?_;rintro e w4 ⟨rfl,b4⟩;have BC:=zq (ac.o.T (b4.M ac.o.size));have y0:=(b4.cell (p:=⟨wr.heap.size,0,none⟩) a8).T x0;have y1:=aH a8 b4.size;have bb:=zq (Qt (N3.o.B b4) (by have:=ax.o;omega) bo.o br.o);have ca:=zq (show Below (u+1) w1 w4 from B3.o.T (b4.M zZ));clear b4)
         |(at_builtin;refine An rfl (.tmp 63) (.tmp 66) 25 rfl _ _ zT zT bb.o ?_;rintro v9 w9 ⟨A9,c9,rfl,o9,b9,s9,k9⟩;have O9:=zq o9;have B9:=zq (ca.o.T b9);clear o9 b9 s9 k9))
        go_roundw
        ·exact⟨i+1,m+1,c9,A9,by omega,by go_num,rfl,(show Fh _ _ _ _ _ _ _ from by rw[az.o];exact O9.o),B9.o,ce.o⟩
        ·simp[intOf];omega
    ·obtain rfl:nA=i:=by omega
     have e0:r=0:=HR.o.symm.T (HT.o.all (by rw[a5.o];exact aD _));subst e0;go_wp2
     go_ret
     exact⟨rfl,a4.o⟩
theorem OD(p:List AA->Bool)(g)(cb:Array Value)(v)(ds:List (List AA))(f w)(eg:∀args w,(callFunc g args).run prog w= .ok (.enter g args) w)(h:rSl 1 (Ai 4 Ag) w f v ds)(hp:∀(W:World) (u:Value) (fk:List Addr) (j:Nat) (hj:j<ds.length),Below w w W->(Ai 4 Ag) W fk [u] ds[j]->Calls prog g (#[u] ++ cb) W (zN (.bool (p ds[j])) W)):
  Calls prog 154 #[v,.func (.func g) #[] cb] w (zN (int i64 (Em p ds)) w):=by
 obtain⟨A,c,rfl,hc,hm,hx⟩:=rSl.at_ (Ai.X Ag.X) (Nat.succ_pos 0) h;have HX:=zq hx;have HP:=zq hp;clear hx hp h;obtain⟨rr,z⟩:∃rr,Em p ds=rr:=zJ;rw[z];have RR:=zq z;clear z;go_enter func154,ntmps154
 go_wp2
 go_loopw [8,5] (fun i _ wr =>∃j:Nat,j<=ds.length/\i=j/\Hid (∀q,(hq:q<ds.length)->q<j->p ds[q] =false)/\Hid (Below w w wr)) (fun i _ _ => ds.length - (intOf i).toNat)
 ·exact⟨0,by omega,rfl,(fun q hq h => by omega),aC _ _⟩
 ·obtain⟨j,hj,rfl,HF,r⟩:=hrel;by_cases x:j<ds.length
  ·obtain⟨ad,b,o,cs,fk,rfl,n⟩:=HX.o j x;have l:=n.B (Ai.L Ag.L) r.o;obtain⟨u,rfl⟩:∃u,cs= [u]:=by
    have:=n.len;match cs,this with
    | [u],_ => exact⟨u,rfl⟩
   have hl:wr.cell? ⟨b,o,none⟩=some u:=by
    have:=l.cell 0 zX;simpa using this
   have ac:=n.place;rw[Nat.mul_one]at ac;have ae:=l.lt;have HC:=zq (HP.o wr u fk j x r.o l.reads);clear n l;obtain⟨pj,y⟩:∃pj,p ds[j] =pj:=zJ;rw[y]at HC;have aa:=zq y;clear y;cases pj with
   |true =>
    have e1:rr=j:=by rw[<-RR.o];exact Gn x aa.o HF.o
    subst e1;go_wp2_with (go_at_fn g;refine HC.o.M ?_;rintro e w1 ⟨rfl,s⟩)
    go_ret
    exact⟨rfl,r.o.T (s.M r.o.size)⟩
   |false =>
    go_wp2_with (go_at_fn g;refine HC.o.M ?_;rintro e w1 ⟨rfl,s⟩)
    have ab:=zq (r.o.T (s.M r.o.size));go_roundw
    ·refine⟨j+1,by omega,by go_num,(show Hid _ from fun q hq af => ?_),ab⟩;by_cases e:q=j
     ·subst e;exact aa.o
     ·exact HF.o q hq zZ
    ·simp[intOf];omega
  ·have e1:rr= -1:=by rw[<-RR.o];exact FT (fun q hq => HF.o q hq zZ)
   subst e1;go_wp2
   go_ret
   exact⟨rfl,r.o⟩
theorem LJ(p:List AA->Bool)(g)(i:Array Value)(v)(ds:List (List AA))(f w)(r:∀args w,(callFunc g args).run prog w= .ok (.enter g args) w)(h:rSl 1 (Ai 4 Ag) w f v ds)(q:∀(W:World) (u:Value) (fk:List Addr) (j:Nat) (x:j<ds.length),Below w w W->(Ai 4 Ag) W fk [u] ds[j]->Calls prog g (#[u] ++ i) W (zN (.bool (p ds[j])) W)):
  Calls prog 97 #[v,.func (.func g) #[] i] w (zN (.bool (ds.any p)) w):=by
 have n:=zq (OD p g i v ds f w r h q);rw[<-Ho];obtain⟨A,c,rfl,s,hm⟩:=rSl.head h;clear q h;generalize Em p ds=y at n;go_enter func97,ntmps97
 go_wp2_with (go_at_call 154;refine n.o.M ?_;rintro e z ⟨rfl,l⟩)
 go_ret
 exact⟨rfl,l⟩
theorem sizeQ_c(A n c)(w:World):Calls prog 96 #[.slice A n c] w (zM (int i64 (n:Int)) w):=by
 go_enter func96,ntmps96
 go_wp2
 go_ret
 exact⟨rfl,rfl⟩
theorem sizeT_c(A n c)(w:World):Calls prog 99 #[.slice A n c] w (zM (int i64 (n:Int)) w):=by
 go_enter func99,ntmps99
 go_wp2
 go_ret
 exact⟨rfl,rfl⟩
theorem long1_c(s p)(q:List AA)(A c w)(h:Cn w p s):
  Calls prog 98 #[.slice A q.length c,.pointer (some (zE p))] w (zN (.bool (Di s q)) w):=by
 have y:=aB h.c7;have x:=h.lt;have f:Di s q=decide (s.q<(q.length:Int)):=rfl;obtain⟨n,hn⟩:∃n,q.length=n:=zJ;rw[hn]at f⊢;obtain⟨r,hr⟩:∃r,Di s q=r:=zJ;rw[hr]at f⊢;have u:=zq (Bv (w:=w) (fun W => sizeT_c A n c W));clear h hn hr;by_cases i:s.q<(n:Int)
 ·have l:r=true:=by rw[f];exact aN i
  subst l;clear f;go_enter func98,ntmps98
  go_wp2_with fail
  (refine aF zY zY ?_;(repeat go_big_quiet_step (first|exact u.o _ _));refine aQ ?_)
  rintro _ ⟨⟨dq,osq⟩,rfl⟩;go_wp2
  go_ret
  exact⟨by simp[i],aI w dq osq⟩
 ·have l:r=false:=by rw[f];exact aG i
  subst l;clear f;go_enter func98,ntmps98
  go_wp2_with fail
  (refine aF zY zY ?_;(repeat go_big_quiet_step (first|exact u.o _ _));refine aQ ?_)
  rintro _ ⟨⟨dq,osq⟩,rfl⟩;go_wp2
  go_ret
  exact⟨by simp[i],aI w dq osq⟩
theorem LY(s:Sh)(ay:shB s=true)(d cs f w)(h:Bb w f cs d):
  Calls prog 55 #[shV s,.agg cs] w (zN (int i64 (Cb (d.next - 1) s d)) w):=by
 have hs:=De ay;have ar:=h;dsimp only[Bb]at h;obtain⟨v0,v1,v2,f0,f1,f2,rfl,-,o0,o1,r0,r1,r2⟩:=h;obtain⟨A0,c0,rfl,m0,be⟩:=rSl.head r0;obtain⟨A1,c1,rfl,m1,a6⟩:=rSl.head r1;obtain⟨A2,c2,rfl,m2,a7⟩:=rSl.head r2;have hB:Below w w ((w.alloc (.cells s 38)).alloc (.cells (zB d A0 c0 A1 c1 A2 c2) 47)):=((aC _ _).alloc (aD _) _).alloc zX _;obtain⟨HB,S2,D2,K2⟩:=zH hB (Cn.of ((Blk.new w 38 s).alloc (.cells (zB d A0 c0 A1 c1 A2 c2) 47))) (Ej.of (d:=d) (Blk.new1 w (.cells s 38) 47 (zB d A0 c0 A1 c1 A2 c2)) (rSl.B (Ai.L Ag.L) (Ai.X Ag.X) r0 hB) (rSl.B Ag.L Ag.X r1 hB) (rSl.B AB.L AB.X r2 hB)) (Blk.new1 w (.cells s 38) 47 (zB d A0 c0 A1 c1 A2 c2));have bd:=S2.o.lt;have bc:=D2.o.lt;obtain⟨bb,HA,an,ak⟩:=zH ar (fun(W:World) => Fq s hs W) (fun(ai:(AY d).length<=1000000) (W:World) (hW:Below w w W) => MW s ay d ai _ _ W (AC.B Bb.L Bb.X ar hW)) (fun(ai:(AY d).length<=1000000) (au:d.answers.length<=1000000) (W:World) (hW:Below w w W) => My d ai au _ _ W (AC.B Bb.L Bb.X ar hW));have ag:=zq (fun(W:World) (hS:Cn W w s) (hD:rSl 1 (Ai 4 Ag) W f0 (.slice A0 d.queues.length c0) d.queues) =>
  LJ (Di s) 98 #[.pointer (some (zE w))] _ d.queues f0 W (enters_of func98 zY rfl) hD (fun W' u fk j hj hW hR => by
   obtain⟨v,hv,hr⟩:=hR;injection hv with hv _
   subst hv;obtain⟨Ae,ce,rfl,-⟩:=rSl.head hr;exact long1_c s w d.queues[j] Ae ce W' (hS.B hW)))
 have ad:=zq (fun(hl:(d.queues.length:Int)=s.g+s.c) (hq:d.queues.any (Di s)=false) (ha:d.aside.length<=20) => aZ (I6 hs hl hq ha) (show 60<=1000000 by decide));obtain⟨hi,a1⟩:∃hi,d.next - 1=hi:=zJ;rw[a1]at ak⊢;obtain⟨r,hr⟩:∃r,Cb hi s d=r:=zJ;rw[hr];obtain⟨aj,x,ab⟩:=zI (fun h0 => hr.symm.T (JS (hi:=hi) (s:=s) (d:=d) h0)) (fun h0 h1 => hr.symm.T (Jd (hi:=hi) (s:=s) (d:=d) h0 h1)) (fun h0 h1 => hr.symm.T (LO (hi:=hi) (s:=s) (d:=d) h0 h1));obtain⟨al,a0⟩:∃al,s.g+s.c=al:=zJ;rw[a0]at HA aj x ab ad;obtain⟨nQ,aw⟩:∃nQ,d.queues.length=nQ:=zJ;obtain⟨nS,ax⟩:∃nS,d.aside.length=nS:=zJ;obtain⟨nA,av⟩:∃nA,d.answers.length=nA:=zJ;obtain⟨aa,n,l⟩:=zI aw ax av;rw[aw]at aj x ab ad ag m0 an ak;rw[ax]at x ab ad an ak;rw[av]at x ab an ak;obtain⟨lb,a4⟩:∃lb,d.queues.any (Di s)=lb:=zJ;rw[a4]at ag x ab ad;unfold shV at HA an⊢;have ap:=zq (fun(W:World) => By d.turn 0 1000000000 W);have aq:=zq (fun(W:World) => By d.next 1 1000000000 W);clear hB hr a0 a1 aw ax av hs ay r0 r1 r2 o0 o1 m1 m2 a6 a7 a4 ar;go_enter func55,ntmps55
 go_wp2_with fail
 have u0:=aB S2.o.c0;have u1:=aB S2.o.c1;have u2:=aB S2.o.c2;have u3:=aB S2.o.c3;have u4:=aB S2.o.c4;have u5:=aB S2.o.c5;have u6:=aB S2.o.c6;have u7:=aB S2.o.c7;have u8:=aB S2.o.c8;have k0:=aB (show((w.alloc (.cells s 38)).alloc (.cells (zB d A0 c0 A1 c1 A2 c2) 47)).cell? ⟨w.heap.size+1,0,none⟩=some (.slice A0 nQ c0)from D2.o.k0.T (by rw[aa.o]));have QS:=zq (Bv (w:=((w.alloc (.cells s 38)).alloc (.cells (zB d A0 c0 A1 c1 A2 c2) 47))) (fun W => sizeQ_c A0 nQ c0 W));have QA:=zq (AR (w:=((w.alloc (.cells s 38)).alloc (.cells (zB d A0 c0 A1 c1 A2 c2) 47))) (fun W _ => HA.o W));by_cases q1:(nQ:Int)=al
 case neg =>
  obtain rfl:r=1:=aj.o q1;have hb:=Ex q1;clear q1
  (refine aF zY zY ?_;(repeat go_big_quiet_step (first|(go_at_call 96;exact QS.o _ _)|(go_at_call 27;exact QA.o _ _)));refine aQ ?_)
  rintro _ ⟨⟨dq,osq⟩,rfl⟩;have BQ:=zq (HB.o.T ((aI ((w.alloc (.cells s 38)).alloc (.cells (zB d A0 c0 A1 c1 A2 c2) 47)) dq osq).M HB.o.size));go_wp2
  go_ret
  exact⟨rfl,BQ.o⟩
 have Q1:=zq q1;have hb:=I0 q1;clear q1
 (refine aF zY zY ?_;(repeat go_big_quiet_step (first|(go_at_call 96;exact QS.o _ _)|(go_at_call 27;exact QA.o _ _)));refine aQ ?_)
 rintro _ ⟨⟨dq,osq⟩,rfl⟩;have b5:=aI ((w.alloc (.cells s 38)).alloc (.cells (zB d A0 c0 A1 c1 A2 c2) 47)) dq osq;generalize grow (redrawn ((w.alloc (.cells s 38)).alloc (.cells (zB d A0 c0 A1 c1 A2 c2) 47)) dq) osq=w5 at b5;obtain⟨S5,D5,K5,B5⟩:=zH (S2.o.B b5) (D2.o.B b5) (K2.o.B b5 K2.o.lt) (HB.o.T (b5.M HB.o.size));have ah:=zq (show rSl 1 (Ai 4 Ag) w5 f0 (.slice A0 nQ c0) d.queues from by have:=D5.o.r0;rwa [aa.o]at this);have p0:w5.cell? ⟨w.heap.size+1,0,none⟩=some (.slice A0 nQ c0):=by have:=D5.o.k0;rwa [aa.o]at this
 have z5:=S5.o.lt;have y5:=D5.o.lt;clear b5 u0 u1 u2 u3 u4 u5 u6 u7 u8 k0 QA QS hb;have ba:=zq (show∀W,Cn W w s->W.rangeAt w 0 s from fun W h => h.rng);cases lb with
 |true =>
  obtain rfl:r=2:=x.o Q1.o rfl;go_wp2_with (first
   |(go_at_call 97;refine(ag.o _ S5.o ah.o).M ?_;rintro e w6 ⟨rfl,i⟩;have S6:=zq (S5.o.B i);have D6:=zq (D5.o.B i);have K6:=zq (K5.o.B i K5.o.lt);have B6:=zq (B5.o.T (i.M B5.o.size));have z6:=S6.o.lt;have y6:=D6.o.lt;have p1:w6.cell? ⟨w.heap.size+1,1,none⟩=some (.slice A1 nS c1):=(by have:=D6.o.k1;rwa [n.o]at this);have p2:w6.cell? ⟨w.heap.size+1,2,none⟩=some (.slice A2 nA c2):=(by have:=D6.o.k2;rwa [l.o]at this);have z:=zq S6.o.rng;have y:=zq (show w6.rangeAt (w.heap.size+1) 0 [.slice A0 nQ c0,.slice A1 nS c1,.slice A2 nA c2,d.turn,d.next]from by have:=Blk.rangeAll K6.o;rwa [aa.o,n.o,l.o]at this);clear i))
  go_ret
  exact⟨rfl,B6.o⟩
 |false =>
  by_cases q3:20<nS
  ·obtain rfl:r=2:=x.o Q1.o (by rw[aN q3];rfl);have a8:(20:Int)<(nS:Int):=by omega
   go_wp2_with (first
    |(go_at_call 97;refine(ag.o _ S5.o ah.o).M ?_;rintro e w6 ⟨rfl,i⟩;have S6:=zq (S5.o.B i);have D6:=zq (D5.o.B i);have K6:=zq (K5.o.B i K5.o.lt);have B6:=zq (B5.o.T (i.M B5.o.size));have z6:=S6.o.lt;have y6:=D6.o.lt;have p1:w6.cell? ⟨w.heap.size+1,1,none⟩=some (.slice A1 nS c1):=(by have:=D6.o.k1;rwa [n.o]at this);have p2:w6.cell? ⟨w.heap.size+1,2,none⟩=some (.slice A2 nA c2):=(by have:=D6.o.k2;rwa [l.o]at this);have z:=zq S6.o.rng;have y:=zq (show w6.rangeAt (w.heap.size+1) 0 [.slice A0 nQ c0,.slice A1 nS c1,.slice A2 nA c2,d.turn,d.next]from by have:=Blk.rangeAll K6.o;rwa [aa.o,n.o,l.o]at this);clear i))
   go_ret
   exact⟨rfl,B6.o⟩
  have a8:¬(20:Int)<(nS:Int):=by omega
  by_cases q4:200<nA
  ·obtain rfl:r=2:=x.o Q1.o (by rw[aN q4,Bool.or_true,Bool.or_true]);have a9:(200:Int)<(nA:Int):=by omega
   go_wp2_with (first
    |(go_at_call 97;refine(ag.o _ S5.o ah.o).M ?_;rintro e w6 ⟨rfl,i⟩;have S6:=zq (S5.o.B i);have D6:=zq (D5.o.B i);have K6:=zq (K5.o.B i K5.o.lt);have B6:=zq (B5.o.T (i.M B5.o.size));have z6:=S6.o.lt;have y6:=D6.o.lt;have p1:w6.cell? ⟨w.heap.size+1,1,none⟩=some (.slice A1 nS c1):=(by have:=D6.o.k1;rwa [n.o]at this);have p2:w6.cell? ⟨w.heap.size+1,2,none⟩=some (.slice A2 nA c2):=(by have:=D6.o.k2;rwa [l.o]at this);have z:=zq S6.o.rng;have y:=zq (show w6.rangeAt (w.heap.size+1) 0 [.slice A0 nQ c0,.slice A1 nS c1,.slice A2 nA c2,d.turn,d.next]from by have:=Blk.rangeAll K6.o;rwa [aa.o,n.o,l.o]at this);clear i))
   go_ret
   exact⟨rfl,B6.o⟩
  have a9:¬(200:Int)<(nA:Int):=by omega
  have af:=zq (ab.o Q1.o (by rw[aG q3,aG q4];rfl));have ai:=ad.o Q1.o rfl zZ;have au:nA<=1000000:=by omega
  have am:=zq (an.o ai);have ao:=zq (ak.o ai au);clear q3 q4 ab x aj ai au an ak;obtain⟨tc,a5⟩:∃tc,tkC s d=tc:=zJ;rw[a5]at am af;clear a5;obtain⟨ac,az⟩:∃ac,anH hi d=ac:=zJ;rw[az]at ao af;clear az;by_cases q5:tc=0
  case neg =>
   have e1:r=tc:=by have:=af.o;rwa [aJ q5]at this
   have bf:=Ex q5;subst e1;clear q5;go_wp2_with (first
    |(go_at_call 97;refine(ag.o _ S5.o ah.o).M ?_;rintro e w6 ⟨rfl,i⟩;have S6:=zq (S5.o.B i);have D6:=zq (D5.o.B i);have K6:=zq (K5.o.B i K5.o.lt);have B6:=zq (B5.o.T (i.M B5.o.size));have z6:=S6.o.lt;have y6:=D6.o.lt;have p1:w6.cell? ⟨w.heap.size+1,1,none⟩=some (.slice A1 nS c1):=(by have:=D6.o.k1;rwa [n.o]at this);have p2:w6.cell? ⟨w.heap.size+1,2,none⟩=some (.slice A2 nA c2):=(by have:=D6.o.k2;rwa [l.o]at this);have z:=zq S6.o.rng;have y:=zq (show w6.rangeAt (w.heap.size+1) 0 [.slice A0 nQ c0,.slice A1 nS c1,.slice A2 nA c2,d.turn,d.next]from by have:=Blk.rangeAll K6.o;rwa [aa.o,n.o,l.o]at this);clear i)
    |(refine aE rfl 38 _ rfl w 0 rfl _ _ z.o underlying38 rfl zY ?_)
    |(refine aE rfl 47 _ rfl (w.heap.size+1) 0 rfl _ _ y.o underlying47 rfl zY ?_)
    |(go_at_call 100;refine(am.o _ B6.o).M ?_;rintro e w7 ⟨rfl,b7⟩;have K7:=zq (K6.o.B b7 K6.o.lt);have B7:=zq (B6.o.T (b7.M B6.o.size));have y7:=K7.o.lt;have ae:=zq (show w7.rangeAt (w.heap.size+1) 0 [.slice A0 nQ c0,.slice A1 nS c1,.slice A2 nA c2,d.turn,d.next]from by have:=Blk.rangeAll K7.o;rwa [aa.o,n.o,l.o]at this);clear b7))
   go_ret
   exact⟨rfl,B7.o⟩
  subst q5;rw[aM rfl]at af;by_cases q6:ac=0
  case neg =>
   have e1:r=ac:=by have:=af.o;rwa [aJ q6]at this
   have bg:=Ex q6;subst e1;clear q6;go_wp2_with (first
    |(go_at_call 97;refine(ag.o _ S5.o ah.o).M ?_;rintro e w6 ⟨rfl,i⟩;have S6:=zq (S5.o.B i);have D6:=zq (D5.o.B i);have K6:=zq (K5.o.B i K5.o.lt);have B6:=zq (B5.o.T (i.M B5.o.size));have z6:=S6.o.lt;have y6:=D6.o.lt;have p1:w6.cell? ⟨w.heap.size+1,1,none⟩=some (.slice A1 nS c1):=(by have:=D6.o.k1;rwa [n.o]at this);have p2:w6.cell? ⟨w.heap.size+1,2,none⟩=some (.slice A2 nA c2):=(by have:=D6.o.k2;rwa [l.o]at this);have z:=zq S6.o.rng;have y:=zq (show w6.rangeAt (w.heap.size+1) 0 [.slice A0 nQ c0,.slice A1 nS c1,.slice A2 nA c2,d.turn,d.next]from by have:=Blk.rangeAll K6.o;rwa [aa.o,n.o,l.o]at this);clear i)
    |(refine aE rfl 38 _ rfl w 0 rfl _ _ z.o underlying38 rfl zY ?_)
    |(refine aE rfl 47 _ rfl (w.heap.size+1) 0 rfl _ _ y.o underlying47 rfl zY ?_)
    |(go_at_call 100;refine(am.o _ B6.o).M ?_;rintro e w7 ⟨rfl,b7⟩;have K7:=zq (K6.o.B b7 K6.o.lt);have B7:=zq (B6.o.T (b7.M B6.o.size));have y7:=K7.o.lt;have ae:=zq (show w7.rangeAt (w.heap.size+1) 0 [.slice A0 nQ c0,.slice A1 nS c1,.slice A2 nA c2,d.turn,d.next]from by have:=Blk.rangeAll K7.o;rwa [aa.o,n.o,l.o]at this);clear b7)
    |(refine aE rfl 47 _ rfl (w.heap.size+1) 0 rfl _ _ ae.o underlying47 rfl zY ?_)
    |(go_at_call 101;refine(ao.o _ B7.o).M ?_;rintro e w8 ⟨rfl,b8⟩;have K8:=zq (K7.o.B b8 K7.o.lt);have B8:=zq (B7.o.T (b8.M B7.o.size));have y8:=K8.o.lt;have x3:w8.cell? ⟨w.heap.size+1,3,none⟩=some (int i64 d.turn):=(K8.o.cell 3).T rfl;have x4:w8.cell? ⟨w.heap.size+1,4,none⟩=some (int i64 d.next):=(K8.o.cell 4).T rfl;clear b8))
   go_ret
   exact⟨rfl,B8.o⟩
  subst q6;rw[aM rfl]at af;obtain⟨j3,a2⟩:∃j3,Ap d.turn 0 1000000000=j3:=zJ;obtain⟨j4,a3⟩:∃j4,Ap d.next 1 1000000000=j4:=zJ;rw[a2]at ap af;rw[a3]at aq af;clear a2 a3;cases j3 with
  |false =>
   obtain rfl:r=3:=af.o;go_wp2_with (first
    |(go_at_call 97;refine(ag.o _ S5.o ah.o).M ?_;rintro e w6 ⟨rfl,i⟩;have S6:=zq (S5.o.B i);have D6:=zq (D5.o.B i);have K6:=zq (K5.o.B i K5.o.lt);have B6:=zq (B5.o.T (i.M B5.o.size));have z6:=S6.o.lt;have y6:=D6.o.lt;have p1:w6.cell? ⟨w.heap.size+1,1,none⟩=some (.slice A1 nS c1):=(by have:=D6.o.k1;rwa [n.o]at this);have p2:w6.cell? ⟨w.heap.size+1,2,none⟩=some (.slice A2 nA c2):=(by have:=D6.o.k2;rwa [l.o]at this);have z:=zq S6.o.rng;have y:=zq (show w6.rangeAt (w.heap.size+1) 0 [.slice A0 nQ c0,.slice A1 nS c1,.slice A2 nA c2,d.turn,d.next]from by have:=Blk.rangeAll K6.o;rwa [aa.o,n.o,l.o]at this);clear i)
    |(refine aE rfl 38 _ rfl w 0 rfl _ _ z.o underlying38 rfl zY ?_)
    |(refine aE rfl 47 _ rfl (w.heap.size+1) 0 rfl _ _ y.o underlying47 rfl zY ?_)
    |(go_at_call 100;refine(am.o _ B6.o).M ?_;rintro e w7 ⟨rfl,b7⟩;have K7:=zq (K6.o.B b7 K6.o.lt);have B7:=zq (B6.o.T (b7.M B6.o.size));have y7:=K7.o.lt;have ae:=zq (show w7.rangeAt (w.heap.size+1) 0 [.slice A0 nQ c0,.slice A1 nS c1,.slice A2 nA c2,d.turn,d.next]from by have:=Blk.rangeAll K7.o;rwa [aa.o,n.o,l.o]at this);clear b7)
    |(refine aE rfl 47 _ rfl (w.heap.size+1) 0 rfl _ _ ae.o underlying47 rfl zY ?_)
    |(go_at_call 101;refine(ao.o _ B7.o).M ?_;rintro e w8 ⟨rfl,b8⟩;have K8:=zq (K7.o.B b8 K7.o.lt);have B8:=zq (B7.o.T (b8.M B7.o.size));have y8:=K8.o.lt;have x3:w8.cell? ⟨w.heap.size+1,3,none⟩=some (int i64 d.turn):=(K8.o.cell 3).T rfl;have x4:w8.cell? ⟨w.heap.size+1,4,none⟩=some (int i64 d.next):=(K8.o.cell 4).T rfl;clear b8)
    |(go_at_call_has 95 d.turn;refine(ap.o _).M ?_;rintro e w' ⟨rfl,rfl⟩)
    |(go_at_call_has 95 d.next;refine(aq.o _).M ?_;rintro e w' ⟨rfl,rfl⟩))
   go_ret
   exact⟨rfl,B8.o⟩
  |true =>
   cases j4 with
   |false =>
    obtain rfl:r=3:=af.o;go_wp2_with (first
     |(go_at_call 97;refine(ag.o _ S5.o ah.o).M ?_;rintro e w6 ⟨rfl,i⟩;have S6:=zq (S5.o.B i);have D6:=zq (D5.o.B i);have K6:=zq (K5.o.B i K5.o.lt);have B6:=zq (B5.o.T (i.M B5.o.size));have z6:=S6.o.lt;have y6:=D6.o.lt;have p1:w6.cell? ⟨w.heap.size+1,1,none⟩=some (.slice A1 nS c1):=(by have:=D6.o.k1;rwa [n.o]at this);have p2:w6.cell? ⟨w.heap.size+1,2,none⟩=some (.slice A2 nA c2):=(by have:=D6.o.k2;rwa [l.o]at this);have z:=zq S6.o.rng;have y:=zq (show w6.rangeAt (w.heap.size+1) 0 [.slice A0 nQ c0,.slice A1 nS c1,.slice A2 nA c2,d.turn,d.next]from by have:=Blk.rangeAll K6.o;rwa [aa.o,n.o,l.o]at this);clear i)
     |(refine aE rfl 38 _ rfl w 0 rfl _ _ z.o underlying38 rfl zY ?_)
     |(refine aE rfl 47 _ rfl (w.heap.size+1) 0 rfl _ _ y.o underlying47 rfl zY ?_)
     |(go_at_call 100;refine(am.o _ B6.o).M ?_;rintro e w7 ⟨rfl,b7⟩;have K7:=zq (K6.o.B b7 K6.o.lt);have B7:=zq (B6.o.T (b7.M B6.o.size));have y7:=K7.o.lt;have ae:=zq (show w7.rangeAt (w.heap.size+1) 0 [.slice A0 nQ c0,.slice A1 nS c1,.slice A2 nA c2,d.turn,d.next]from by have:=Blk.rangeAll K7.o;rwa [aa.o,n.o,l.o]at this);clear b7)
     |(refine aE rfl 47 _ rfl (w.heap.size+1) 0 rfl _ _ ae.o underlying47 rfl zY ?_)
     |(go_at_call 101;refine(ao.o _ B7.o).M ?_;rintro e w8 ⟨rfl,b8⟩;have K8:=zq (K7.o.B b8 K7.o.lt);have B8:=zq (B7.o.T (b8.M B7.o.size));have y8:=K8.o.lt;have x3:w8.cell? ⟨w.heap.size+1,3,none⟩=some (int i64 d.turn):=(K8.o.cell 3).T rfl;have x4:w8.cell? ⟨w.heap.size+1,4,none⟩=some (int i64 d.next):=(K8.o.cell 4).T rfl;clear b8)
     |(go_at_call_has 95 d.turn;refine(ap.o _).M ?_;rintro e w' ⟨rfl,rfl⟩)
     |(go_at_call_has 95 d.next;refine(aq.o _).M ?_;rintro e w' ⟨rfl,rfl⟩))
    go_ret
    exact⟨rfl,B8.o⟩
   |true =>
    obtain rfl:r=0:=af.o;go_wp2_with (first
     |(go_at_call 97;refine(ag.o _ S5.o ah.o).M ?_;rintro e w6 ⟨rfl,i⟩;have S6:=zq (S5.o.B i);have D6:=zq (D5.o.B i);have K6:=zq (K5.o.B i K5.o.lt);have B6:=zq (B5.o.T (i.M B5.o.size));have z6:=S6.o.lt;have y6:=D6.o.lt;have p1:w6.cell? ⟨w.heap.size+1,1,none⟩=some (.slice A1 nS c1):=(by have:=D6.o.k1;rwa [n.o]at this);have p2:w6.cell? ⟨w.heap.size+1,2,none⟩=some (.slice A2 nA c2):=(by have:=D6.o.k2;rwa [l.o]at this);have z:=zq S6.o.rng;have y:=zq (show w6.rangeAt (w.heap.size+1) 0 [.slice A0 nQ c0,.slice A1 nS c1,.slice A2 nA c2,d.turn,d.next]from by have:=Blk.rangeAll K6.o;rwa [aa.o,n.o,l.o]at this);clear i)
     |(refine aE rfl 38 _ rfl w 0 rfl _ _ z.o underlying38 rfl zY ?_)
     |(refine aE rfl 47 _ rfl (w.heap.size+1) 0 rfl _ _ y.o underlying47 rfl zY ?_)
     |(go_at_call 100;refine(am.o _ B6.o).M ?_;rintro e w7 ⟨rfl,b7⟩;have K7:=zq (K6.o.B b7 K6.o.lt);have B7:=zq (B6.o.T (b7.M B6.o.size));have y7:=K7.o.lt;have ae:=zq (show w7.rangeAt (w.heap.size+1) 0 [.slice A0 nQ c0,.slice A1 nS c1,.slice A2 nA c2,d.turn,d.next]from by have:=Blk.rangeAll K7.o;rwa [aa.o,n.o,l.o]at this);clear b7)
     |(refine aE rfl 47 _ rfl (w.heap.size+1) 0 rfl _ _ ae.o underlying47 rfl zY ?_)
     |(go_at_call 101;refine(ao.o _ B7.o).M ?_;rintro e w8 ⟨rfl,b8⟩;have K8:=zq (K7.o.B b8 K7.o.lt);have B8:=zq (B7.o.T (b8.M B7.o.size));have y8:=K8.o.lt;have x3:w8.cell? ⟨w.heap.size+1,3,none⟩=some (int i64 d.turn):=(K8.o.cell 3).T rfl;have x4:w8.cell? ⟨w.heap.size+1,4,none⟩=some (int i64 d.next):=(K8.o.cell 4).T rfl;clear b8)
     |(go_at_call_has 95 d.turn;refine(ap.o _).M ?_;rintro e w' ⟨rfl,rfl⟩)
     |(go_at_call_has 95 d.next;refine(aq.o _).M ?_;rintro e w' ⟨rfl,rfl⟩))
    go_ret
    exact⟨rfl,B8.o⟩
theorem Ob {α:Type}{p:α->Bool}{l:List α}{k:Nat}(c:k<l.length)(h:p l[k] =false):l.all p=false :=
 List.all_eq_false.2 ⟨l[k],aT c,by rw[h];exact Bool.false_ne_true⟩
theorem allUpto {α:Type}{p:α->Bool}{l:List α}(h:∀q,(hq:q<l.length)->p l[q] =true):l.all p=true :=
 List.all_eq_true.2 fun x c => by
  obtain⟨q,hq,rfl⟩:=aY c;exact h q hq
def Co {α:Type}(p:α->Bool)(l:List α)(k:Nat):Prop:=∀q,(hq:q<l.length)->q<k->p l[q] =true
theorem Co.zero {α:Type}(p:α->Bool)(l:List α):Co p l 0:=fun _ _ h => by omega
theorem Co.step {α:Type}{p:α->Bool}{l:List α}{k}(h:Co p l k)(i:k<l.length)(c:p l[k] =true):Co p l (k+1):=fun q hq f => by
 by_cases e:q=k
 ·subst e;exact c
 ·exact h q hq zZ
theorem Co.all {α:Type}{p:α->Bool}{l:List α}(h:Co p l l.length):l.all p=true:=allUpto fun q hq => h q hq hq
theorem LF {s:Sh}{e:List (List Ba)}(h:(e.length:Int)≠s.g+s.c):BU s e=false:=by
 unfold BU;rw[aG h];rfl
theorem LD {s}{c:List (List Ba)}{k:Nat}(e:k<c.length)(h:DO s c[k] =false):BU s c=false:=by
 unfold BU;rw[Ob e h,Bool.and_false]
theorem Nb {s:Sh}{e:List (List Ba)}(h:(e.length:Int)=s.g+s.c)(f:Co (DO s) e e.length):BU s e=true:=by
 unfold BU;rw[aN h,f.all];rfl
theorem LW {s:Sh}{g:List Ba}(h:(g.length:Int)≠s.data+s.p):DO s g=false:=by
 unfold DO;rw[aG h];rfl
theorem LV {s}{g:List Ba}{k:Nat}(c:k<g.length)(h:Dq s g[k] =false):DO s g=false:=by
 unfold DO;rw[Ob c h,Bool.and_false]
theorem Nh {s:Sh}{g:List Ba}(h:(g.length:Int)=s.data+s.p)(c:Co (Dq s) g g.length):DO s g=true:=by
 unfold DO;rw[aN h,c.all];rfl
theorem LQ {s:Sh}{d:Ba}(h:(d.blocks.length:Int)≠s.rows):Dq s d=false:=by
 unfold Dq;rw[aG h];rfl
theorem Rp {s}{d:Ba}{k:Nat}(c:k<d.blocks.length)(h:CX d.blocks[k] =false):Dq s d=false:=by
 unfold Dq;rw[Ob c h,Bool.and_false]
theorem SM {s:Sh}{d:Ba}(h:(d.blocks.length:Int)=s.rows)(c:Co CX d.blocks d.blocks.length):Dq s d=true:=by
 unfold Dq;rw[aN h,c.all];rfl
theorem Ro {s:Sh}{d:Ba}(h:(d.blocks.length:Int)=s.rows):Dq s d= !(d.blocks.any fun b => !CX b):=by
 unfold Dq;rw[aN h,Bool.true_and,Bool.eq_iff_iff];simp
theorem Og {b:Cj}(h:Ap b.stamp 0 1000000000=false):CX b=false:=by unfold CX;rw[h];rfl
theorem Ri {b:Cj}(h:b.bytes.length≠4):CX b=false:=by unfold CX;rw[aG h,Bool.and_false]
theorem SE {b:Cj}(h:Ap b.stamp 0 1000000000=true)(c:b.bytes.length=4):CX b=true:=by unfold CX;rw[h,aN c];rfl
theorem Jg {s}:∀ {l:List Aj} {k:Nat} (c:k<l.length),Co (fun r => decide (AJ s r=0)) l k->AJ s l[k]≠0->Bi s l=AJ s l[k]
 |r :: l,0,c,h,hb => by
  have e:¬AJ s r=0:=hb;show(if AJ s r=0 then Bi s l else AJ s r)=AJ s r
  rw[aJ e]
 |r :: l,k+1,c,h,hb => by
  have f:AJ s r=0:=by have:=h 0 zX zZ;simpa using this
  have i:k<l.length:=by simpa using c
  show(if AJ s r=0 then Bi s l else AJ s r)=AJ s l[k]
  rw[aM f];exact Jg (by simpa using c) (fun q hq n => h (q+1) (by simpa using hq) zZ) hb
theorem JV {s}:∀ {l:List Aj},Co (fun r => decide (AJ s r=0)) l l.length->Bi s l=0
 | [],_ => rfl
 |r :: l,h => by
  have e:AJ s r=0:=by have:=h 0 zX zX;simpa using this
  show(if AJ s r=0 then Bi s l else AJ s r)=0
  rw[aM e];exact JV fun q hq c => h (q+1) (by simpa using hq) (by simpa using c)
def CR(s:Sh)(c:List Be)(k:Nat):Prop:=Bi s ((c.take k).flatMap Be.recs)=0
theorem CR.zero(s c):CR s c 0:=rfl
theorem CR.step {s c k}(h:CR s c k)(f:k<c.length)(e:Bi s c[k].recs =0):CR s c (k+1):=by
 unfold CR;rw[aK f,List.flatMap_append,GO s _ _ h];simpa using e
theorem JU {s}:∀(a b:List Aj),Bi s a≠0->Bi s (a ++ b)=Bi s a
 | [],b,h => absurd rfl h
 |r :: l,b,h => by
  show(if AJ s r=0 then Bi s (l ++ b)else AJ s r)=(if AJ s r=0 then Bi s l else AJ s r)
  by_cases c:AJ s r=0
  ·rw[aM c,aM c];refine JU l b fun e => h ?_
   show(if AJ s r=0 then Bi s l else AJ s r)=0
   rw[aM c,e]
  ·rw[aJ c,aJ c]
theorem CR.bad {s c k}(h:CR s c k)(f:k<c.length)(e:Bi s c[k].recs≠0):Bi s (c.flatMap Be.recs)=Bi s c[k].recs:=by
 conv => lhs;rw[<-List.take_append_drop k c]
 rw[List.flatMap_append,GO s _ _ h,List.drop_eq_getElem_cons f,List.flatMap_cons,JU _ _ e]
theorem CR.all {s c}(h:CR s c c.length):Bi s (c.flatMap Be.recs)=0:=by
 unfold CR at h;rwa [bA]at h
theorem Gr {s}{c:List Be}(h:c.any (fun t => decide (200<t.recs.length))=true):BG s c=2:=by unfold BG;rw[aM h]
theorem JG {s}{c:List Be}(h:c.any (fun t => decide (200<t.recs.length))=false)(e:Bi s (c.flatMap Be.recs)≠0):BG s c=Bi s (c.flatMap Be.recs):=by
 unfold BG;rw[aJ (by rw[h];exact Bool.false_ne_true),aJ e]
theorem JF {s}{c:List Be}(h:c.any (fun t => decide (200<t.recs.length))=false)(e:Bi s (c.flatMap Be.recs)=0):BG s c=if c.any (fun t => t.wiped && decide (0<t.recs.length))=true then 1 else 0:=by
 unfold BG;rw[aJ (by rw[h];exact Bool.false_ne_true),aM e]
theorem Iu {d:As}(h:shB d.s.sh=false):AI d=3:=by unfold AI;rw[aJ (by rw[h];exact Bool.false_ne_true)]
theorem I4 {d:As}(h:shB d.s.sh=true)(c:(BU d.s.sh d.g && (onB d.s.sh d.on d.down && decide (d.v.length=2)))=false):AI d=1:=by
 unfold AI;rw[aM h,aJ (by rw[c];exact Bool.false_ne_true)]
theorem Gd {d:As}(h:shB d.s.sh=true)(c:(BU d.s.sh d.g && (onB d.s.sh d.on d.down && decide (d.v.length=2)))=true)(e:BG d.s.sh d.v≠0):AI d=BG d.s.sh d.v:=by
 unfold AI;rw[aM h,aM c,aJ e]
theorem GV {d:As}(h:shB d.s.sh=true)(c:(BU d.s.sh d.g && (onB d.s.sh d.on d.down && decide (d.v.length=2)))=true)(e:BG d.s.sh d.v=0):AI d=if(Ap d.u 0 1000000000 && Ap d.stop (-1) 1000000000)=true then 0 else 3:=by
 unfold AI;rw[aM h,aM c,aM e]
