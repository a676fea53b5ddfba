/- Part 20 of the proof. -/
import Derived.Test.YtofeknacbdcoaaaGreatDoorK19
import Derived.Test.YtofeknacbdcoaaaGreatDoorK11
import Derived.Test.YtofeknacbdcoaaaGreatDoorK09
import Derived.Sort.AtCall
set_option maxHeartbeats 8000000
set_option maxRecDepth 100000
set_option linter.unusedVariables false
set_option linter.unusedSimpArgs false
open Go.Proofs.Tryz
open Go.Value (int)
open Go.IntKind (i64)
namespace Go.Proofs.YtofeknacbdcoaaaGreatDoor
open Go.RowKit Go.Lib Go.Sort
def EU:List UInt8:=[116,117,114,110]
def sOn:List UInt8:=[111,110]
def Ko:List UInt8:=[111,98,106,101,99,116,32]
def NZ:List UInt8:=[108,111,115,116]
def Dt:List UInt8:=[119,105,112,101,100]
def Ds:List UInt8:=[113,117,101,117,101]
def FH:List UInt8:=[97,115,105,100,101]
def EI(t:Th):List UInt8:=if t.lost=true then NZ else F4 t.bytes
def Eo(t:Th):List UInt8:=Ko ++ t.name.data.toList ++ [32] ++ EI t ++ [10]
def EQ(wd:List UInt8)(g:Nat)(L:List Int):List UInt8:=if L= []then []else Bg (Bg wd [(g:Int)]) L ++ [10]
def Ec(d:AX):List UInt8:=Bg EU [d.desk.turn,if d.world.down=true then 1 else 0] ++ [10] ++ Bg sOn d.world.on ++ [10]
def DT(d:AX)(g:Nat):List UInt8:=EQ Dt g (DZ (AD d.world g) (AD d.world g).length)
def DP(d:AX)(g:Nat):List UInt8:=EQ Ds g (BJ ((d.desk.queues[g]?).getD []))
def asdW(d:AX):List UInt8:=if d.desk.aside= []then []else Bg FH (BJ d.desk.aside) ++ [10]
def GP(d:AX)(X:List Th):List UInt8 :=
 Ec d ++ X.flatMap Eo ++(List.range d.world.g.length).flatMap (DT d) ++(List.range d.desk.queues.length).flatMap (DP d) ++ asdW d
theorem GW {α β:Type}{f:α->List β}{l:List α}{j:Nat}(h:j<l.length):(l.take (j+1)).flatMap f=(l.take j).flatMap f ++ f l[j]:=by
 rw[aK h,List.flatMap_append];simp
theorem Eh {β}{f:Nat->List β}{j:Nat}:(List.range (j+1)).flatMap f=(List.range j).flatMap f ++ f j:=by
 rw[List.range_succ,List.flatMap_append];simp
theorem Jh {α β:Type}{f:α->List β}{b:Nat}:∀(l:List α),(∀x,x∈l->(f x).length<=b)->(l.flatMap f).length<=l.length * b
 | [],_ => by simp
 |x :: l,h => by
  rw[List.flatMap_cons,aU,List.length_cons,Nat.add_mul];have e:=Jh l fun y c => h y (List.mem_cons_of_mem _ c)
  have i:=h x List.mem_cons_self;omega
structure H7 (d:AX) (X:List Th):Prop where
 turn:0<=d.desk.turn/\d.desk.turn<=1000000000000
 on:Dc d.world.on
 onl:d.world.on.length<=1000000
 xl:X.length<=5000000
 xs:∀t,t∈X->t.name.size<=1000000/\t.bytes.length<=1000000
 gl:d.world.g.length<=1000000
 dl:∀g,(AD d.world g).length<=1000000
 ql:d.desk.queues.length<=1000000
 qs:∀q,q∈d.desk.queues->q.length<=1000000/\Dc (BJ q)
 al:d.desk.aside.length<=1000000
 aside:Dc (BJ d.desk.aside)
theorem Kn {t:Th}(h:t.name.size<=1000000/\t.bytes.length<=1000000):(Eo t).length<=4000000:=by
 have c:t.name.data.toList.length=t.name.size:=Array.length_toList;have e:(EI t).length<=2000004:=by
  unfold EI;split
  ·simp only[NZ,List.length_cons,List.length_nil];omega
  ·rw[FC];omega
 unfold Eo;simp only[aU,c,Ko,List.length_cons,List.length_nil];omega
theorem Km {wd:List UInt8}{g:Nat}{L}(hw:wd.length<=100)(hg:g<=1000000)(e:Dc L)(f:L.length<=1000000):(EQ wd g L).length<=15000000:=by
 unfold EQ;split
 ·simp
 ·rw[aU,<-G9];have:=DJ wd ((g:Int) :: L) (fun x c => by
   rcases List.mem_cons.1 c with rfl|c
   ·omega
   ·exact e x c)
  rw[List.length_cons]at this;simp;omega
theorem H7.wip {d X}(h:H7 d X){g}:(DZ (AD d.world g) (AD d.world g).length).length<=1000000/\Dc (DZ (AD d.world g) (AD d.world g).length):=by
 obtain⟨f,c⟩:=Ks (AD d.world g) (AD d.world g).length;have i:=h.dl g;exact⟨by omega,fun x e => by have:=c x e;omega⟩
theorem H7.que {d X}(h:H7 d X){g:Nat}:((d.desk.queues[g]?).getD []).length<=1000000/\Dc (BJ ((d.desk.queues[g]?).getD [])):=by
 by_cases q:g<d.desk.queues.length
 ·rw[aO q];exact h.qs _ (aT _)
 ·rw[List.getElem?_eq_none zZ];exact⟨by simp,fun x c => by cases c⟩
theorem Jl {d X}(h:H7 d X):(Ec d).length<=20000000:=by
 unfold Ec;have e:=DJ EU [d.desk.turn,if d.world.down=true then 1 else 0] (fun x c => by
  have:=h.turn;rcases List.mem_cons.1 c with rfl|c
  ·omega
  ·obtain rfl:=List.mem_singleton.1 c;split <;> omega)
 have f:=DJ sOn d.world.on h.on;have i:=h.onl;simp only[aU,List.length_cons,List.length_nil,EU,sOn]at *;omega
structure AnO (W:World) (p o:Nat) (x:AQ) (v:Value):Prop where
 c0:W.cell? ⟨p,o,none⟩=some (int i64 x.id)
 c1:W.cell? ⟨p,o+1,none⟩=some (int i64 x.code)
 c2:W.cell? ⟨p,o+2,none⟩=some (int i64 x.turn)
 c3:W.cell? ⟨p,o+3,none⟩=some v
 lt:p<W.heap.size
theorem AnO.B {W c p o x v}(h:AnO W p o x v)(hb:Below W W c):AnO c p o x v :=
 ⟨(hb.cell (p:=⟨p,o,none⟩) h.lt).T h.c0,(hb.cell (p:=⟨p,o+1,none⟩) h.lt).T h.c1,(hb.cell (p:=⟨p,o+2,none⟩) h.lt).T h.c2,(hb.cell (p:=⟨p,o+3,none⟩) h.lt).T h.c3,aH h.lt hb.size⟩
theorem AnO.ofBlk {W p T}{x:AQ}{v:Value}(K:Blk W p T #[x.id,x.code,x.turn,v]):AnO W p 0 x v :=
 ⟨(K.cell 0).T rfl,(K.cell 1).T rfl,(K.cell 2).T rfl,(K.cell 3).T rfl,K.lt⟩
def Fv(hi:Int)(d:AP)(i:Nat):Prop:=Gc hi d.turn (d.answers.take i) (Fy d)=0
def FA(hi:Int)(d:AP)(i:Nat)(x:AQ):Int:=Gz hi d.turn (Fy d ++(d.answers.take i).map AQ.id) x
theorem Fv.step {hi d i}(h:Fv hi d i)(e:i<d.answers.length)(c:FA hi d i d.answers[i] =0):Fv hi d (i+1):=by
 unfold Fv at h⊢;rw[aK e];exact TR h c
theorem Fv.bad {hi d i}(h:Fv hi d i)(e:i<d.answers.length)(c:FA hi d i d.answers[i]≠0):anH hi d=FA hi d i d.answers[i]:=by
 unfold Fv at h;have:=seqA_bad (b:=d.answers.drop (i+1)) h c;unfold FA;rw[<-this];unfold anH;congr 1
 rw[<-List.drop_eq_getElem_cons e,List.take_append_drop]
theorem Fv.all {hi d i}(h:Fv hi d i)(c:d.answers.length<=i):anH hi d=0:=by
 unfold Fv at h;rw[bB c]at h;exact h
theorem FZ {hi:Int}{d:AP}{i}{x:AQ}(h:(Ap x.id 1 hi && (Ap x.code 0 12 && Ap x.turn 0 d.turn))=false):FA hi d i x=3:=by unfold FA Gz;rw[aJ (by rw[h];exact Bool.false_ne_true)]
theorem Gv {hi:Int}{d:AP}{i}{x:AQ}(h:(Ap x.id 1 hi && (Ap x.code 0 12 && Ap x.turn 0 d.turn))=true)(h1:36<x.bytes.length):FA hi d i x=2:=by unfold FA Gz;rw[aM h,aM h1]
theorem GY {hi:Int}{d:AP}{i}{x:AQ}(h:(Ap x.id 1 hi && (Ap x.code 0 12 && Ap x.turn 0 d.turn))=true)(h1:¬36<x.bytes.length):FA hi d i x=if x.id∈Fy d ++(d.answers.take i).map AQ.id then 7 else 0:=by unfold FA Gz;rw[aM h,aJ h1]
theorem OJ(p o d A0 A1 A2 c0 c1 c2 f0 f1 f2 w)(h:Ej w p o d A0 A1 A2 c0 c1 c2 f0 f1 f2)(bh:(AY d).length<=1000000):
  Calls prog 80 #[.pointer (some (p,o))] w (zN (int i64 (anH (IntKind.i64.wrap (d.next - 1)) d)) w):=by
 have HH:=zq h;have ar:=zq (Lo p o d A0 A1 A2 c0 c1 c2 f0 f1 f2 _ h bh);obtain⟨n,hn⟩:∃n,(AY d).length =n:=zJ;rw[hn]at ar;have HN:=zq hn;obtain⟨nA,bd⟩:∃nA,d.answers.length=nA:=zJ;have af:=zq bd;obtain⟨hi,a1⟩:∃hi,IntKind.i64.wrap (d.next - 1)=hi:=zJ;rw[a1];have bn:=zq a1;obtain⟨r,hr⟩:∃r,anH hi d=r:=zJ;rw[hr];have HR:=zq hr;have hz:=HH.o.lt;clear h hn hr bd a1 bh;go_enter func80,ntmps80
 go_wp2_with fail
 refine ar.o.M ?_;rintro e w1 ⟨A,c,gs,rfl,ra,b1⟩;obtain⟨RA,bm,B1⟩:=zI ra (HH.o.B b1) b1;clear ra b1 ar;go_wp2
 go_loopw [4] (fun ix wr =>∃i:Nat,i<=nA/\ix=i/\Hid (Fv hi d i)/\Hid (Below w1 w1 wr)) (fun ix _ => nA - (intOf ix).toNat)
 ·exact⟨0,by omega,rfl,(show Fv hi d 0 from rfl),aC _ _⟩
 ·obtain⟨i,b0,rfl,HT,ai⟩:=hrel;have au:=zq (B1.o.T (ai.o.M B1.o.size));have D1:=zq (bm.o.B ai.o);have p2:=D1.o.k2;rw[af.o]at p2;have b8:=D1.o.lt;by_cases bs:i<nA
  ·have hk:i<d.answers.length:=by rw[af.o];exact bs
   obtain⟨Ax,cx,ev,hc,hm,hx⟩:=rSl.at_ AB.X zW D1.o.r2;injection ev with bp bq br
   subst bp br;clear bq;rw[af.o]at hc;obtain⟨ad,b,oo,cs,fk,rfl,ab⟩:=hx i hk;have b4:=ab.place;have bz:=ab.lt;have ae:cs.length=4:=ab.len;have al:=zq (show wr.rangeAt b oo cs from fun q v hq => by
    have bf:q<cs.length:=(List.getElem?_eq_some_iff.1 hq).1;rw[ab.cell q bf,<-hq];exact(aO bf).symm)
   obtain⟨v0,g0,ao,-,o0,o1,o2,bg⟩:=ab.reads;obtain⟨Ab,cb,rfl,bb,bc⟩:=rSl.head bg;have b3:(i:Int)<(nA:Int):=by omega
   have bu:(i:Int)<=(nA:Int):=by omega
   have bv:(i:Int)<=(c2:Int):=by omega
   have b2:i<=c2:=by omega
   have z:=zq (fun h0 => HR.o.symm.T (HT.o.bad hk h0));have aa:=zq (fun h0 => HT.o.step hk h0);obtain⟨q1,q2,be,-,-⟩:=rSl.split (j:=i) D1.o.r2 (by rw[af.o];omega);have bk:=zq (fun(x:Int) (W:World) (hW:Below wr wr W) => Tm _ (d.answers.take i) x q1 W (rSl.B AB.L AB.X be hW));have bo:=zq (fun(x:Int) (W:World) (hW:Below w1 w1 W) => L4 _ (AY d) x gs W (rSl.B Ag.L Ag.X RA.o hW));obtain⟨x,bi⟩:∃x,d.answers[i] =x:=zJ;rw[bi]at ao z aa bb;obtain⟨nb,a3⟩:∃nb,x.bytes.length=nb:=zJ;rw[a3]at ao bb;have ax:=zq a3;obtain⟨Z,hZ⟩:∃Z:Array Value,#[int i64 0,(),(),zQ] =Z:=zJ;have az:Z.size=4:=by rw[<-hZ];rfl
   have KZ:=Blk.new wr 163 Z;have am:=zq (Blk.there KZ cs.toArray.size (by rw[show cs.toArray.size=4 from List.size_toArray.T ae,az];exact aD _));obtain⟨w3,ap⟩:∃w3,(wr.alloc (.cells Z 163)).setCells wr 0 cs.toArray.toList=w3:=zJ;obtain⟨K3,B3,an,HI,aj,ak⟩:=zF (show Blk w3 wr 163 cs.toArray by rw[<-ap];exact Blk.laid KZ _ (by rw[az];exact ae.symm)) (show Below wr wr w3 by rw[<-ap];exact AS (Ac (aC _ _) _) _ 0 (aD _)) ap (show(prog.info? 163).map (·.size)=some cs.length by rw[ae];kernel_rfl) (show(prog.info? 163).map (·.size)=some cs.toArray.size by rw[show cs.toArray.size=4 from List.size_toArray.T ae];kernel_rfl) (all_oneCell_toArray (AB.ones _ _ _ _ ab.reads));obtain⟨X3,D3,y,a6⟩:=zH (show AnO w3 wr 0 x (.slice Ab nb cb)from AnO.ofBlk (by rw[<-ao];exact K3.o)) (D1.o.B B3.o) (au.o.T (B3.o.M au.o.size)) (ai.o.T (B3.o.M ai.o.size));have b6:=X3.o.lt;have bw:=D3.o.lt;have u0:=aB X3.o.c0;have u1:=aB X3.o.c1;have u2:=aB X3.o.c2;have d3:=aB D3.o.k3;have d4:=aB D3.o.k4;have bt:=bn.o;obtain⟨QI,QC,QT⟩:=zI (Bv (w:=w3) (fun W => BD x.id 1 hi W)) (Bv (w:=w3) (fun W => BD x.code 0 12 W)) (Bv (w:=w3) (fun W => BD x.turn 0 d.turn W));obtain⟨i1,l⟩:∃i1,Ap x.id 1 hi=i1:=zJ;obtain⟨i2,s⟩:∃i2,Ap x.code 0 12=i2:=zJ;obtain⟨i3,u⟩:∃i3,Ap x.turn 0 d.turn=i3:=zJ;rw[l]at QI;rw[s]at QC;rw[u]at QT;have f:=zq (show(i1 && (i2 && i3))=false->r=3 from fun h0 => by
    rw[<-l,<-s,<-u]at h0;exact(z.o (by rw[FZ h0];decide)).T (FZ h0))
   have aw:=zq (show(i1 && (i2 && i3))=true->36<nb->r=2 from fun h0 h1 => by
    rw[<-l,<-s,<-u]at h0;rw[<-ax.o]at h1;exact(z.o (by rw[Gv h0 h1];decide)).T (Gv h0 h1))
   have ac:=zq (show(i1 && (i2 && i3))=true->¬36<nb->x.id∈Fy d ++(d.answers.take i).map AQ.id->r=7 from fun h0 h1 h2 => by
    rw[<-l,<-s,<-u]at h0;rw[<-ax.o]at h1;have e:=(GY (i:=i) (x:=x) h0 h1).T (aM h2);exact(z.o (by rw[e];decide)).T e)
   have av:=zq (show(i1 && (i2 && i3))=true->¬36<nb->x.id∉Fy d ++(d.answers.take i).map AQ.id->Fv hi d (i+1)from fun h0 h1 h2 => by
    rw[<-l,<-s,<-u]at h0;rw[<-ax.o]at h1;exact aa.o ((GY (i:=i) (x:=x) h0 h1).T (aJ h2)))
   clear ab hx ap KZ az ao l s u be bi a3 bg hk o0 o1 o2 bc z aa;cases i1 with
   |false =>
    obtain rfl:r=3:=f.o rfl;go_wp2_with (first
     |(refine aE rfl 163 _ rfl b oo rfl cs _ al.o underlying163 rfl HI.o ?_)
     |(refine aV rfl 163 _ _ rfl wr 0 cs.toArray rfl rfl am.o aj.o ak.o ?_;rw[an.o]))
    (refine aF zY zY ?_;(repeat go_big_quiet_step (first|(go_at_call_has 78 x.id;exact QI.o _ _)|(go_at_call_has 78 x.code;exact QC.o _ _)|(go_at_call_has 78 x.turn;exact QT.o _ _)));refine aQ ?_)
    rintro _ ⟨⟨dq,osq⟩,rfl⟩;have BQ:=zq (y.o.T ((aI w3 dq osq).M y.o.size));go_wp2
    go_ret
    exact⟨rfl,BQ.o⟩
   |true =>
    cases i2 with
    |false =>
     obtain rfl:r=3:=f.o rfl;go_wp2_with (first
      |(refine aE rfl 163 _ rfl b oo rfl cs _ al.o underlying163 rfl HI.o ?_)
      |(refine aV rfl 163 _ _ rfl wr 0 cs.toArray rfl rfl am.o aj.o ak.o ?_;rw[an.o]))
     (refine aF zY zY ?_;(repeat go_big_quiet_step (first|(go_at_call_has 78 x.id;exact QI.o _ _)|(go_at_call_has 78 x.code;exact QC.o _ _)|(go_at_call_has 78 x.turn;exact QT.o _ _)));refine aQ ?_)
     rintro _ ⟨⟨dq,osq⟩,rfl⟩;have BQ:=zq (y.o.T ((aI w3 dq osq).M y.o.size));go_wp2
     go_ret
     exact⟨rfl,BQ.o⟩
    |true =>
     cases i3 with
     |false =>
      obtain rfl:r=3:=f.o rfl;go_wp2_with (first
       |(refine aE rfl 163 _ rfl b oo rfl cs _ al.o underlying163 rfl HI.o ?_)
       |(refine aV rfl 163 _ _ rfl wr 0 cs.toArray rfl rfl am.o aj.o ak.o ?_;rw[an.o]))
      (refine aF zY zY ?_;(repeat go_big_quiet_step (first|(go_at_call_has 78 x.id;exact QI.o _ _)|(go_at_call_has 78 x.code;exact QC.o _ _)|(go_at_call_has 78 x.turn;exact QT.o _ _)));refine aQ ?_)
      rintro _ ⟨⟨dq,osq⟩,rfl⟩;have BQ:=zq (y.o.T ((aI w3 dq osq).M y.o.size));go_wp2
      go_ret
      exact⟨rfl,BQ.o⟩
     |true =>
      go_wp2_with (first
       |(refine aE rfl 163 _ rfl b oo rfl cs _ al.o underlying163 rfl HI.o ?_)
       |(refine aV rfl 163 _ _ rfl wr 0 cs.toArray rfl rfl am.o aj.o ak.o ?_;rw[an.o]))
      (refine aF zY zY ?_;(repeat go_big_quiet_step (first|(go_at_call_has 78 x.id;exact QI.o _ _)|(go_at_call_has 78 x.code;exact QC.o _ _)|(go_at_call_has 78 x.turn;exact QT.o _ _)));refine aQ ?_)
      rintro _ ⟨⟨dq,osq⟩,rfl⟩;have b5:=aI w3 dq osq;generalize grow (redrawn w3 dq) osq=w5 at b5;obtain⟨X5,D5,a5,ag,ah⟩:=zG (X3.o.B b5) (D3.o.B b5) (B3.o.T (b5.M B3.o.size)) (y.o.T (b5.M y.o.size)) (a6.o.T (b5.M a6.o.size));clear b5 u0 u1 u2 d3 d4 bt QI QC QT f;have x3:=X5.o.c3;have b7:=X5.o.lt;have bx:=D5.o.lt;by_cases a4:36<nb
      ·obtain rfl:r=2:=aw.o rfl a4;have bj:(36:Int)<(nb:Int):=by omega
       go_wp2
       go_ret
       exact⟨rfl,ag.o⟩
      have ay:=zq a4;have bj:¬(36:Int)<(nb:Int):=by omega
      clear a4;go_wp2_with fail
      have u0:=aB X5.o.c0;have u9:=aB (show w5.cell? ⟨p,o+2,none⟩=some (.slice (some ad) nA c2)from by have:=D5.o.k2;rwa [af.o]at this);have ba:=zq (fun(W:World) (hW:Below w5 w5 W) => bo.o x.id W (ah.o.T (hW.M ah.o.size)));have a7:=zq (fun(W:World) (hW:Below w5 w5 W) => bk.o x.id W (a5.o.T (hW.M a5.o.size)));obtain⟨m1,a2⟩:∃m1,decide (x.id∈(AY d).map AA.id)=m1:=zJ;rw[a2]at ba;have a9:=zq a2;clear a2;have QW:=zq (AR (w:=w5) ba.o);cases m1 with
      |true =>
       obtain rfl:r=7:=ac.o rfl (by have:=ay.o;omega) (bM _ (bE a9.o))
       (refine aF zY zY ?_;(repeat go_big_quiet_step (first|(go_at_call 132;exact QW.o _ _)));refine aQ ?_)
       rintro _ ⟨⟨dq,osq⟩,rfl⟩;have BQ:=zq (ag.o.T ((aI w5 dq osq).M ag.o.size));go_wp2
       go_ret
       exact⟨rfl,BQ.o⟩
      |false =>
       have a0:=QJ x.id 0 (d.answers.take i);obtain⟨fi,aq⟩:∃fi,GQ x.id 0 (d.answers.take i)=fi:=zJ;rw[aq]at a7 a0;have a8:=zq a0;have QF:=zq (AR (w:=w5) a7.o);clear aq a0;by_cases q0:0<=fi
       ·obtain rfl:r=7:=ac.o rfl (by have:=ay.o;omega) (bO _ (bE (a8.o.symm.T (aN q0))))
        (refine aF zY zY ?_;(repeat go_big_quiet_step (first|(go_at_call 132;exact QW.o _ _)|(go_at_call 133;exact QF.o _ _)));refine aQ ?_)
        rintro _ ⟨⟨dq,osq⟩,rfl⟩;have BQ:=zq (ag.o.T ((aI w5 dq osq).M ag.o.size));go_wp2
        go_ret
        exact⟨rfl,BQ.o⟩
       ·have b9:fi<0:=by omega
        have bl:=zq (av.o rfl (by have:=ay.o;omega) (fun hm =>(List.mem_append.1 hm).elim (fun h1 => absurd h1 (of_decide_eq_false a9.o)) (fun h2 => absurd h2 (of_decide_eq_false (a8.o.symm.T (aG q0))))))
        (refine aF zY zY ?_;(repeat go_big_quiet_step (first|(go_at_call 132;exact QW.o _ _)|(go_at_call 133;exact QF.o _ _)));refine aQ ?_)
        rintro _ ⟨⟨dq,osq⟩,rfl⟩;have BQ:=zq (ah.o.T ((aI w5 dq osq).M ah.o.size));go_wp2
        go_roundw
        ·exact⟨i+1,by omega,by go_num,bl.o,BQ.o⟩
        ·simp[intOf];omega
  ·obtain rfl:i=nA:=by omega
   have e1:r=0:=HR.o.symm.T (HT.o.all (by rw[af.o];exact aD _));subst e1;go_wp2
   go_ret
   exact⟨rfl,au.o⟩
theorem Ej.of {W p T}{d:AP}{c e f c0 c1 c2 h i l}(K:Blk W p T (zB d c c0 e c1 f c2))(r0:rSl 1 (Ai 4 Ag) W h (.slice c d.queues.length c0) d.queues)(r1:rSl 4 Ag W i (.slice e d.aside.length c1) d.aside)(r2:rSl 4 AB W l (.slice f d.answers.length c2) d.answers):Ej W p 0 d c e f c0 c1 c2 h i l :=
 ⟨(K.cell 0).T rfl,(K.cell 1).T rfl,(K.cell 2).T rfl,(K.cell 3).T rfl,(K.cell 4).T rfl,K.lt,r0,r1,r2⟩
theorem JS {hi}{s:Sh}{d:AP}(h:¬(d.queues.length:Int)=s.g+s.c):Cb hi s d=1:=by unfold Cb;rw[aJ h]
theorem Jd {hi}{s:Sh}{d:AP}(h:(d.queues.length:Int)=s.g+s.c)(h1:(d.queues.any (Di s)||(decide (20<d.aside.length)||decide (200<d.answers.length)))=true):Cb hi s d=2:=by unfold Cb;rw[aM h,aM h1]
theorem LO {hi}{s:Sh}{d:AP}(h:(d.queues.length:Int)=s.g+s.c)(h1:(d.queues.any (Di s)||(decide (20<d.aside.length)||decide (200<d.answers.length)))=false):
  Cb hi s d=if tkC s d=0 then(if anH hi d=0 then(if(Ap d.turn 0 1000000000 && Ap d.next 1 1000000000)=true then 0 else 3)else anH hi d)else tkC s d:=by unfold Cb;rw[aM h,aJ (by rw[h1];exact Bool.false_ne_true)]
def Hu(s:Sh)(d:AP)(k:Nat):Prop:=∀q,(hq:q<d.queues.length)->q<k->Di s d.queues[q] =false
theorem Hu.step {s d k}(h:Hu s d k)(f:k<d.queues.length)(h1:Di s d.queues[k] =false):Hu s d (k+1):=fun q hq c => by
 by_cases e:q=k
 ·subst e;exact h1
 ·exact h q hq zZ
theorem Hu.all {s d k}(h:Hu s d k)(e:d.queues.length<=k):d.queues.any (Di s)=false :=
 List.any_eq_false.2 fun x c => by
  obtain⟨q,hq,rfl⟩:=aY c;rw[h q hq zZ];exact Bool.false_ne_true
theorem long_any {s}{d:AP}{k:Nat}(c:k<d.queues.length)(h1:Di s d.queues[k] =true):d.queues.any (Di s)=true:=List.any_eq_true.2 ⟨_,aT c,h1⟩
theorem Mn(s:Sh)(au:shB s=true)(d cs f w)(h:Bb w f cs d):
  Calls prog 40 #[shV s,.agg cs] w (zN (int i64 (Cb (IntKind.i64.wrap (d.next - 1)) s d)) w):=by
 have hs:=De au;dsimp only[Bb]at h;obtain⟨v0,v1,v2,f0,f1,f2,rfl,-,o0,o1,r0,r1,r2⟩:=h;obtain⟨A0,c0,rfl,m0,bz⟩:=rSl.head r0;obtain⟨A1,c1,rfl,m1,bn⟩:=rSl.head r1;obtain⟨A2,c2,rfl,m2,bo⟩:=rSl.head r2;have hB:Below w w ((w.alloc (.cells s 38)).alloc (.cells (zB d A0 c0 A1 c1 A2 c2) 47)):=((aC _ _).alloc (aD _) _).alloc zX _;obtain⟨HB,S2,D2⟩:=zI hB (Cn.of ((Blk.new w 38 s).alloc (.cells (zB d A0 c0 A1 c1 A2 c2) 47))) (Ej.of (d:=d) (Blk.new1 w (.cells s 38) 47 (zB d A0 c0 A1 c1 A2 c2)) (rSl.B (Ai.L Ag.L) (Ai.X Ag.X) r0 hB) (rSl.B Ag.L Ag.X r1 hB) (rSl.B AB.L AB.X r2 hB));have bf:=zq S2.o.rng;have bx:=S2.o.lt;have bw:=D2.o.lt;have av:=zq (fun(W:World) => Cd s W);rw[CL au]at av;obtain⟨HA,a4,ah,y⟩:=zH (fun(W:World) => EN s hs W) (fun(W:World) (hW:Ej W (w.heap.size+1) 0 d A0 A1 A2 c0 c1 c2 f0 f1 f2) (az:(AY d).length<=1000000) => OK s au _ _ d A0 A1 A2 c0 c1 c2 f0 f1 f2 W hW az) (fun(W:World) (hW:Ej W (w.heap.size+1) 0 d A0 A1 A2 c0 c1 c2 f0 f1 f2) (az:(AY d).length<=1000000) => OJ _ _ d A0 A1 A2 c0 c1 c2 f0 f1 f2 W hW az) (fun(hl:(d.queues.length:Int)=s.g+s.c) (hq:d.queues.any (Di s)=false) (ha:d.aside.length<=20) => aZ (I6 hs hl hq ha) (show 60<=1000000 by decide));obtain⟨hi,a7⟩:∃hi,IntKind.i64.wrap (d.next - 1)=hi:=zJ;rw[a7]at ah⊢;obtain⟨r,hr⟩:∃r,Cb hi s d=r:=zJ;rw[hr];obtain⟨ag,l,x⟩:=zI (fun h0 => hr.symm.T (JS (hi:=hi) (s:=s) (d:=d) h0)) (fun h0 h1 => hr.symm.T (Jd (hi:=hi) (s:=s) (d:=d) h0 h1)) (fun h0 h1 => hr.symm.T (LO (hi:=hi) (s:=s) (d:=d) h0 h1));obtain⟨al,a6⟩:∃al,s.g+s.c=al:=zJ;rw[a6]at HA ag l x y;obtain⟨nQ,aq⟩:∃nQ,d.queues.length=nQ:=zJ;obtain⟨nS,ay⟩:∃nS,d.aside.length=nS:=zJ;obtain⟨nA,ax⟩:∃nA,d.answers.length=nA:=zJ;obtain⟨ak,be,bd⟩:=zI aq ay ax;rw[aq]at ag l x y m0;rw[ay]at l x y;rw[ax]at l x;unfold shV at av HA a4⊢;obtain⟨ao,ap,br⟩:=zI (fun(W:World) => BD d.turn 0 1000000000 W) (fun(W:World) => BD d.next 1 1000000000 W) aq;clear hB hr a6 a7 aq ay ax hs au r0 r1 r2 o0 o1 m1 m2 bn bo;go_enter func40,ntmps40
 go_wp2_with (first
  |(refine aE rfl 38 _ rfl w 0 rfl _ _ bf.o underlying38 rfl zY ?_)
  |(go_at_call 74;refine(av.o _).M ?_;rintro e w3 ⟨rfl,b3⟩;have S3:=zq (S2.o.B b3);have D3:=zq (D2.o.B b3);have B3:=zq (HB.o.T (b3.M HB.o.size));have z3:=S3.o.lt;have y3:=D3.o.lt;clear b3))
 have u0:=aB S3.o.c0;have u1:=aB S3.o.c1;have u2:=aB S3.o.c2;have u3:=aB S3.o.c3;have u4:=aB S3.o.c4;have u5:=aB S3.o.c5;have u6:=aB S3.o.c6;have u7:=aB S3.o.c7;have u8:=aB S3.o.c8;have k0:=aB (show w3.cell? ⟨w.heap.size+1,0,none⟩=some (.slice A0 nQ c0)from by have:=D3.o.k0;rwa [ak.o]at this);have QA:=zq (AR (w:=w3) (fun W _ => HA.o W));by_cases q1:(nQ:Int)=al
 case neg =>
  obtain rfl:r=1:=ag.o q1;have hb:=Ex q1;clear q1
  (refine aF zY zY ?_;(repeat go_big_quiet_step (first|exact QA.o _ _));refine aQ ?_)
  rintro _ ⟨⟨dq,osq⟩,rfl⟩;have BQ:=zq (B3.o.T ((aI w3 dq osq).M B3.o.size));go_wp2
  go_ret
  exact⟨rfl,BQ.o⟩
 have Q1:=zq q1;have hb:=I0 q1;clear q1
 (refine aF zY zY ?_;(repeat go_big_quiet_step (first|exact QA.o _ _));refine aQ ?_)
 rintro _ ⟨⟨dq,osq⟩,rfl⟩;have b5:=aI w3 dq osq;generalize grow (redrawn w3 dq) osq=w5 at b5;obtain⟨S5,D5,B5⟩:=zI (S3.o.B b5) (D3.o.B b5) (B3.o.T (b5.M B3.o.size));clear b5 u0 u1 u2 u3 u4 u5 u6 u7 u8 k0 QA hb;go_wp2
 go_loopw [6] (fun ix wr =>∃i:Nat,i<=nQ/\ix=i/\Hid (Hu s d i)/\Hid (Below w5 w5 wr)) (fun ix _ => nQ - (intOf ix).toNat)
 ·exact⟨0,by omega,rfl,(show Hu s d 0 from fun q hq h => by omega),aC _ _⟩
 ·obtain⟨i,bt,rfl,HT,aj⟩:=hrel;obtain⟨u,D6,S6⟩:=zI (B5.o.T (aj.o.M B5.o.size)) (D5.o.B aj.o) (S5.o.B aj.o);have p0:wr.cell? ⟨w.heap.size+1,0,none⟩=some (.slice A0 nQ c0):=by have:=D6.o.k0;rwa [ak.o]at this
  have z6:=S6.o.lt;have y6:=D6.o.lt;by_cases bk:i<nQ
  ·have hk:i<d.queues.length:=by rw[ak.o];exact bk
   obtain⟨Ax,cx,ev,hc,hm,hx⟩:=rSl.at_ (Ai.X Ag.X) zW D6.o.r0;injection ev with bh bi bj
   subst bh bj;clear bi;rw[ak.o]at hc;obtain⟨ad,b,oo,cs,fk,rfl,an⟩:=hx i hk;have bl:=an.place;have bs:=an.lt;obtain⟨ve,bm,bb⟩:=an.reads;subst bm;obtain⟨Ae,ce,rfl,ba,bv⟩:=rSl.head bb;have ar:=an.cell 0 zX;simp only[bC,aW]at ar;rw[Nat.mul_one]at bl;have bu:(i:Int)<(nQ:Int):=by omega
   have a3:=zq (fun h0 => HT.o.step hk h0);have a2:=zq (fun h0 => long_any (s:=s) hk h0);obtain⟨q,hq⟩:∃q,d.queues[i] =q:=zJ;rw[hq]at ar a3 a2 ba;have aw:Di s q=decide (s.q<(q.length:Int)):=rfl;obtain⟨n,hn⟩:∃n,q.length=n:=zJ;rw[hn]at ar aw ba;have a1:=zq aw;clear an hx bb hk hq hn aw;go_wp2_with fail
   have v0:=aB p0;have v1:=aB ar;have v2:=aB S6.o.c7;by_cases q2:s.q<(n:Int)
   ·obtain rfl:r=2:=l.o Q1.o (by rw[a2.o (a1.o.T (aN q2))];rfl)
    (refine aF zY zY ?_;(repeat go_big_quiet_step (fail));refine aQ ?_)
    rintro _ ⟨⟨dq,osq⟩,rfl⟩;have BQ:=zq (u.o.T ((aI wr dq osq).M u.o.size));go_wp2
    go_ret
    exact⟨rfl,BQ.o⟩
   ·have b1:¬s.q<(n:Int):=q2;have bg:=zq (a3.o (a1.o.T (aG q2)));have b0:decide (s.q<(n:Int))=false:=aG q2;clear q2
    (refine aF zY zY ?_;(repeat go_big_quiet_step (fail));refine aQ ?_)
    rintro _ ⟨⟨dq,osq⟩,rfl⟩;have BQ:=zq (aj.o.T ((aI wr dq osq).M aj.o.size));go_wp2
    go_roundw
    ·exact⟨i+1,by omega,by go_num,bg.o,BQ.o⟩
    ·simp[intOf];omega
  ·obtain rfl:i=nQ:=by omega
   have a0:=zq (HT.o.all (by rw[ak.o];exact aD _));have p1:wr.cell? ⟨w.heap.size+1,1,none⟩=some (.slice A1 nS c1):=by have:=D6.o.k1;rwa [be.o]at this
   have p2:wr.cell? ⟨w.heap.size+1,2,none⟩=some (.slice A2 nA c2):=by have:=D6.o.k2;rwa [bd.o]at this
   by_cases q3:20<nS
   ·obtain rfl:r=2:=l.o Q1.o (by rw[aN q3,Bool.true_or,Bool.or_true]);have bp:(20:Int)<(nS:Int):=by omega
    go_wp2
    go_ret
    exact⟨rfl,u.o⟩
   have bp:¬(20:Int)<(nS:Int):=by omega
   by_cases q4:200<nA
   ·obtain rfl:r=2:=l.o Q1.o (by rw[aN q4,Bool.or_true,Bool.or_true]);have bq:(200:Int)<(nA:Int):=by omega
    go_wp2
    go_ret
    exact⟨rfl,u.o⟩
   have bq:¬(200:Int)<(nA:Int):=by omega
   have af:=zq (x.o Q1.o (by rw[a0.o,aG q3,aG q4];rfl));have am:=zq (y.o Q1.o a0.o zZ);have ai:=zq (a4.o wr D6.o am.o);have ab:=zq S6.o.rng;clear q3 q4 x l ag;obtain⟨tc,bc⟩:∃tc,tkC s d=tc:=zJ;rw[bc]at ai af;clear bc;obtain⟨ac,a5⟩:∃ac,anH hi d=ac:=zJ;rw[a5]at ah af;clear a5;by_cases q5:tc=0
   case neg =>
    have e1:r=tc:=by have:=af.o;rwa [aJ q5]at this
    have b2:=Ex q5;subst e1;clear q5;go_wp2_with (first
     |(refine aE rfl 38 _ rfl w 0 rfl _ _ ab.o underlying38 rfl zY ?_)
     |(go_at_call 79;refine ai.o.M ?_;rintro e w7 ⟨rfl,z⟩;have B7:=zq (u.o.T (z.M u.o.size));clear z))
    go_ret
    exact⟨rfl,B7.o⟩
   subst q5;rw[aM rfl]at af;by_cases q6:ac=0
   case neg =>
    have e1:r=ac:=by have:=af.o;rwa [aJ q6]at this
    have b4:=Ex q6;subst e1;clear q6;go_wp2_with (first
     |(refine aE rfl 38 _ rfl w 0 rfl _ _ ab.o underlying38 rfl zY ?_)
     |(go_at_call 79;refine ai.o.M ?_;rintro e w7 ⟨rfl,z⟩;have B7:=zq (u.o.T (z.M u.o.size));have ae:=zq (ah.o w7 (D6.o.B z) am.o);clear z)
     |(go_at_call 80;refine ae.o.M ?_;rintro e w8 ⟨rfl,b8⟩;have B8:=zq (B7.o.T (b8.M B7.o.size));clear b8))
    go_ret
    exact⟨rfl,B8.o⟩
   subst q6;rw[aM rfl]at af;have aa:=zq af.o;obtain⟨j3,a8⟩:∃j3,Ap d.turn 0 1000000000=j3:=zJ;obtain⟨j4,a9⟩:∃j4,Ap d.next 1 1000000000=j4:=zJ;rw[a8]at ao aa;rw[a9]at ap aa;clear a8 a9;cases j3 with
   |false =>
    obtain rfl:r=3:=aa.o;go_wp2_with (first
     |(refine aE rfl 38 _ rfl w 0 rfl _ _ ab.o underlying38 rfl zY ?_)
     |(go_at_call 79;refine ai.o.M ?_;rintro e w7 ⟨rfl,z⟩;have B7:=zq (u.o.T (z.M u.o.size));have D7:=zq (D6.o.B z);have ae:=zq (ah.o w7 D7.o am.o);clear z)
     |(go_at_call 80;refine ae.o.M ?_;rintro e w8 ⟨rfl,b8⟩;have B8:=zq (B7.o.T (b8.M B7.o.size));have D8:=zq (D7.o.B b8);have x3:w8.cell? ⟨w.heap.size+1,3,none⟩=some (int i64 d.turn):=D8.o.k3;have x4:w8.cell? ⟨w.heap.size+1,4,none⟩=some (int i64 d.next):=D8.o.k4;have y8:=D8.o.lt;clear b8)
     |(go_at_call_has 78 d.turn;refine(ao.o _).M ?_;rintro e w' ⟨rfl,rfl⟩)
     |(go_at_call_has 78 d.next;refine(ap.o _).M ?_;rintro e w' ⟨rfl,rfl⟩))
    go_ret
    exact⟨rfl,B8.o⟩
   |true =>
    cases j4 with
    |false =>
     obtain rfl:r=3:=aa.o;go_wp2_with (first
      |(refine aE rfl 38 _ rfl w 0 rfl _ _ ab.o underlying38 rfl zY ?_)
      |(go_at_call 79;refine ai.o.M ?_;rintro e w7 ⟨rfl,z⟩;have B7:=zq (u.o.T (z.M u.o.size));have D7:=zq (D6.o.B z);have ae:=zq (ah.o w7 D7.o am.o);clear z)
      |(go_at_call 80;refine ae.o.M ?_;rintro e w8 ⟨rfl,b8⟩;have B8:=zq (B7.o.T (b8.M B7.o.size));have D8:=zq (D7.o.B b8);have x3:w8.cell? ⟨w.heap.size+1,3,none⟩=some (int i64 d.turn):=D8.o.k3;have x4:w8.cell? ⟨w.heap.size+1,4,none⟩=some (int i64 d.next):=D8.o.k4;have y8:=D8.o.lt;clear b8)
      |(go_at_call_has 78 d.turn;refine(ao.o _).M ?_;rintro e w' ⟨rfl,rfl⟩)
      |(go_at_call_has 78 d.next;refine(ap.o _).M ?_;rintro e w' ⟨rfl,rfl⟩))
     go_ret
     exact⟨rfl,B8.o⟩
    |true =>
     obtain rfl:r=0:=aa.o;go_wp2_with (first
      |(refine aE rfl 38 _ rfl w 0 rfl _ _ ab.o underlying38 rfl zY ?_)
      |(go_at_call 79;refine ai.o.M ?_;rintro e w7 ⟨rfl,z⟩;have B7:=zq (u.o.T (z.M u.o.size));have D7:=zq (D6.o.B z);have ae:=zq (ah.o w7 D7.o am.o);clear z)
      |(go_at_call 80;refine ae.o.M ?_;rintro e w8 ⟨rfl,b8⟩;have B8:=zq (B7.o.T (b8.M B7.o.size));have D8:=zq (D7.o.B b8);have x3:w8.cell? ⟨w.heap.size+1,3,none⟩=some (int i64 d.turn):=D8.o.k3;have x4:w8.cell? ⟨w.heap.size+1,4,none⟩=some (int i64 d.next):=D8.o.k4;have y8:=D8.o.lt;clear b8)
      |(go_at_call_has 78 d.turn;refine(ao.o _).M ?_;rintro e w' ⟨rfl,rfl⟩)
      |(go_at_call_has 78 d.next;refine(ap.o _).M ?_;rintro e w' ⟨rfl,rfl⟩))
     go_ret
     exact⟨rfl,B8.o⟩
theorem Cn.keepB {W e}{p B:Nat}{s}(h:Cn W p s)(c:p<B)(hb:Below B W e):Cn e p s :=
 ⟨fun j v f =>(hb.cell (p:=⟨p,0+j,none⟩) c).T (h.rng j v f),(hb.cell (p:=⟨p,0,none⟩) c).T h.c0,(hb.cell (p:=⟨p,1,none⟩) c).T h.c1,(hb.cell (p:=⟨p,2,none⟩) c).T h.c2,(hb.cell (p:=⟨p,3,none⟩) c).T h.c3,(hb.cell (p:=⟨p,4,none⟩) c).T h.c4,(hb.cell (p:=⟨p,5,none⟩) c).T h.c5,(hb.cell (p:=⟨p,6,none⟩) c).T h.c6,(hb.cell (p:=⟨p,7,none⟩) c).T h.c7,(hb.cell (p:=⟨p,8,none⟩) c).T h.c8,aH h.lt hb.size⟩
theorem TP {d:AP}{i:Nat}(h:i<d.queues.length):Bq d=Bw 0 (d.queues.take i) ++(d.queues[i].map (fun t =>(t,(i:Int))) ++(Bw (i+1) (d.queues.drop (i+1)) ++ d.aside.map fun t =>(t,-1))):=by
 unfold Bq;conv => lhs;rw[<-List.take_append_drop i d.queues]
 rw[GT,List.drop_eq_getElem_cons h,Bw,aX,Nat.min_eq_left zZ,Nat.zero_add];simp only[List.append_assoc]
structure EP (s:Sh) (d:AP) (B pi:Nat) (P:List (AA × Int)) (W:World):Prop where
 zero:Fd s d.next P [] =0
 pre:∃R,Bq d=P ++ R
 nums:∃A n c,Gh W B pi (P.map fun x => x.1.id) A n c
theorem EP.small {s d B i}{P:List (AA × Int)}{W}(h:EP s d B i P W)(f:(AY d).length<=1000000):(P.map fun x => x.1.id).length<=1000000:=by
 obtain⟨R,e⟩:=h.pre;have c:=Gy d;rw[e,aU]at c;rw[bH];omega
theorem EP.bad {s d B f}{P R:List (AA × Int)}{x:AA × Int}{W}(h:EP s d B f P W)(e:Bq d=P ++ x :: R)(c:Dm s d.next (P.map fun x => x.1.id) x≠0):tkC s d=Dm s d.next (P.map fun x => x.1.id) x:=by
 have:=Pg (b:=R) (ids:=[]) h.zero (by rw[List.nil_append];exact c);rw[List.nil_append]at this;unfold tkC;rw[e];exact this
theorem EP.step {s d B e}{P R:List (AA × Int)}{x:AA × Int}{W f}(h:EP s d B e P W)(l:Bq d=P ++ x :: R)(i:Dm s d.next (P.map fun x => x.1.id) x=0)(hn:∃A n c,Gh f B e ((P.map fun x => x.1.id) ++ [x.1.id]) A n c):EP s d B e (P ++ [x]) f :=
 ⟨NA h.zero (by rw[List.nil_append];exact i),⟨R,by rw[l];simp⟩,by rw[List.map_append];exact hn⟩
theorem EP.to {s d B c}{P P':List (AA × Int)}{W}(h:EP s d B c P W)(e:P=P'):EP s d B c P' W:=e ▸ h
theorem EP.all {s d B c}{W:World}(h:EP s d B c (Bq d) W):tkC s d=0:=h.zero
theorem Mc(s:Sh)(p:shB s=true)(d)(u:(AY d).length<=1000000)(z y l B:Nat)(P R:List (AA × Int))(t:AA)(q:Int)(f:okI t.id)(o:t.name.size<=9223372036854775807)(W w)(h:EP s d B l P W)(hR:Bq d=P ++(t,q) :: R)(hw:Below W W w)(hS:Cn w z s)(hD:w.cell? ⟨y,4,none⟩=some (int i64 d.next)):
  Calls prog 155 #[tkV t,int i64 q,.pointer (some (zE z)),.pointer (some (zE y)),.pointer (some (zE l))] w fun e w' =>∃r,e= .returned (int i64 r)/\Below B w w'/\w.heap.size<=w'.heap.size/\(r≠0->tkC s d=r)/\(r=0->EP s d B l (P ++ [(t,q)]) w'):=by
 obtain⟨A,n,c,hN⟩:=h.nums;refine(look_c s p t f o q d.next z y l B _ A n c w hS hD (hN.B hw) (h.small u)).M ?_;rintro e w' ⟨rfl,hb,x,hn⟩;exact⟨_,rfl,hb,x,fun i => h.bad hR i,fun i => h.step hR i (hn i)⟩
theorem MW(s:Sh)(b1:shB s=true)(d)(b4:(AY d).length<=1000000)(cs f w)(h:Bb w f cs d):
  Calls prog 100 #[shV s,.agg cs] w (zN (int i64 (tkC s d)) w):=by
 dsimp only[Bb]at h;obtain⟨v0,v1,v2,f0,f1,f2,rfl,-,o0,o1,r0,r1,r2⟩:=h;obtain⟨A0,c0,rfl,m0,cp⟩:=rSl.head r0;obtain⟨A1,c1,rfl,m1,cq⟩:=rSl.head r1;obtain⟨A2,c2,rfl,m2,cj⟩:=rSl.head r2;obtain⟨n,am⟩:∃n,w.heap.size=n:=zJ;obtain⟨u4,aj⟩:∃u4,((((w.alloc (.cells s 38)).alloc (.cells (zB d A0 c0 A1 c1 A2 c2) 47)).alloc (.cells #[] 2)).alloc (.cells #[zQ] 25))=u4:=zJ;have bz:u4.heap.size=n+4:=by rw[<-aj,<-am];simp
 have bw:Below w w u4:=by rw[<-aj];exact Ac (Ac (Ac (Ac (aC _ _) _) _) _) _
 have bu:Cn u4 n s:=by rw[<-aj,<-am];exact Cn.of ((((Blk.new w 38 s).alloc _).alloc _).alloc _)
 have bs:Blk u4 (n+1) 47 (zB d A0 c0 A1 c1 A2 c2):=by rw[<-aj,<-am];exact((Blk.new1 w (.cells s 38) 47 (zB d A0 c0 A1 c1 A2 c2)).alloc _).alloc _
 have br:Blk u4 (n+2) 2 #[]:=by rw[<-aj,<-am];exact(Blk.new2 w (.cells s 38) (.cells (zB d A0 c0 A1 c1 A2 c2) 47) 2 #[]).alloc _
 have a3:Blk u4 (n+3) 25 #[zQ]:=by
  rw[<-aj,<-am];have:=Blk.new (((w.alloc (.cells s 38)).alloc (.cells (zB d A0 c0 A1 c1 A2 c2) 47)).alloc (.cells #[] 2)) 25 #[zQ];rwa [show(((w.alloc (.cells s 38)).alloc (.cells (zB d A0 c0 A1 c1 A2 c2) 47)).alloc (.cells #[] 2)).heap.size =w.heap.size+3 by simp]at this
 obtain⟨u5,ao⟩:∃u5,u4.setCell (zE (n+3)) (.slice (some (zE (n+2))) 0 0)=u5:=zJ;have bi:Below (n+2) u4 u5:=by rw[<-ao];exact(aC _ _).setCell (show n+2<=n+3 by omega) _
 have b0:u5.heap.size=n+4:=by rw[<-ao];simpa [World.setCell]using bz
 have bt:Gh u5 (n+2) (n+3) [] (some (zE (n+2))) 0 0:=by
  have K5:Blk u5 (n+3) 25 #[.slice (some (zE (n+2))) 0 0]:=by rw[<-ao];exact Blk.set_ a3 0 _
  have E5:Blk u5 (n+2) 2 #[]:=by rw[<-ao];exact Blk.far br zX _
  refine⟨(K5.cell 0).T rfl,K5.frozen 0,by omega,by omega,Ak.start ⟨rfl,.inr ⟨n+2,0,#[],rfl,aD _,E5,aD _,by unfold maxLen;omega,rfl,rfl⟩⟩,fun e => ?_⟩;injection e with e
  exact absurd e (by show¬n+2=n+3;omega)
 have bv:=bu.keepB (show n<n+2 by omega) bi;have a2:Blk u5 (n+1) 47 (zB d A0 c0 A1 c1 A2 c2):=by rw[<-ao];exact Blk.far bs zX _
 have bq:Below w w u5:=bw.T (bi.M zZ);obtain⟨HS,HK,HB,HZ,aw,cl⟩:=zF bv a2 bq b0 (show EP s d (n+2) (n+3) (Bw 0 (d.queues.take 0)) u5 from⟨rfl,⟨_,rfl⟩,_,_,_,bt⟩) aj;obtain⟨cm,bo,bp,HG⟩:=zH ao b1 b4 am;obtain⟨nQ,a4⟩:∃nQ,d.queues.length=nQ:=zJ;obtain⟨nS,a5⟩:∃nS,d.aside.length=nS:=zJ;obtain⟨bd,be,R0,R1⟩:=zH a4 a5 r0 r1;obtain⟨r,hr⟩:∃r,tkC s d=r:=zJ;rw[hr];have HR:=zq hr;have k0:u5.cell? ⟨n+1,0,none⟩=some (.slice A0 nQ c0):=(a2.cell 0).T (by rw[<-a4];rfl);have k1:=zq (show u5.cell? ⟨n+1,1,none⟩=some (.slice A1 nS c1)from(a2.cell 1).T (by rw[<-a5];rfl));have cf:n+1<u5.heap.size:=by omega
 have cd:u4.cell? ⟨n+3,0,none⟩=some (.slice none 0 0):=(a3.cell 0).T rfl;have cb:=a3.frozen 0;have ch:n+3<u4.heap.size:=by omega
 rw[a4]at m0;rw[a5]at m1;unfold shV;clear bz bw bu bs br a3 bi b0 bt bv a2 bq b1 b4 a4 a5 r0 r1 r2 hr m2 cj o0 o1;go_enter func100,ntmps100
 go_wp2_with fail
 clear aj ao cd cb ch k0 am;go_loopw [20] (fun ix wr =>∃i:Nat,i<=nQ/\ix=i/\Hid (EP s d (n+2) (n+3) (Bw 0 (d.queues.take i)) wr)/\Hid (Below (n+2) u5 wr)/\Hid (u5.heap.size<=wr.heap.size)) (fun ix _ => nQ - (intOf ix).toNat)
 ·exact⟨0,by omega,rfl,aw.o,aC _ _,aD _⟩
 ·clear aw;obtain⟨i,hi,rfl,z,y,aa⟩:=hrel;have ah:=zq (show Below w w wr from HB.o.T (y.o.M (by rw[HG.o];omega)));by_cases an:i<nQ
  ·have hk:i<d.queues.length:=by rw[bd.o];exact an
   obtain⟨Ax,cx,ev,hc,hm,hx⟩:=rSl.at_ (Ai.X Ag.X) zW R0.o;injection ev with ay az a0
   subst ay a0;clear az;rw[bd.o]at hc;obtain⟨ad,b,oo,cs,fk,rfl,a1⟩:=hx i hk;obtain⟨cr,b5,ai⟩:=a1.reads;subst b5;have u:=a1.B (Ai.L Ag.L) ah.o;have a7:=u.place;have bj:=u.lt;obtain⟨Ae,ce,rfl,bx,cn⟩:=rSl.head ai;have a6:=u.cell 0 zX;simp only[bC,aW]at a6;rw[Nat.mul_one]at a7;have bm:(i:Int)<(nQ:Int):=by omega
   have a8:=zq (TP hk);have a9:=zq (show Bw 0 (d.queues.take (i+1))=Bw 0 (d.queues.take i) ++ d.queues[i].map (fun t =>(t,(i:Int)))from by
    rw[aK hk,GT,aX,Nat.min_eq_left zZ,Nat.zero_add];simp[Bw])
   obtain⟨q,hq⟩:∃q,d.queues[i] =q:=zJ;rw[hq]at a6 ai bx a8 a9;obtain⟨nq,bn⟩:∃nq,q.length=nq:=zJ;rw[bn]at a6 ai bx;have bc:=zq bn;have HQ:=zq ai;clear u a1 hx hk hq ai bn;go_wp2_with fail
   have b6:=zq an;clear a6 a7 bj bm an;go_loopw [27] (fun jx wr =>∃j:Nat,j<=nq/\jx=j/\Hid (EP s d (n+2) (n+3) (Bw 0 (d.queues.take i) ++(q.take j).map (fun t =>(t,(i:Int)))) wr)/\Hid (Below (n+2) u5 wr)/\Hid (u5.heap.size<=wr.heap.size)) (fun jx _ => nq - (intOf jx).toNat)
   ·exact⟨0,by omega,rfl,z.o.to zX,y.o,aa.o⟩
   ·clear z y aa ah;obtain⟨j,hj,rfl,z,y,aa⟩:=hrel;have ah:=zq (show Below w w wr from HB.o.T (y.o.M (by rw[HG.o];omega)));by_cases an:j<nq
    ·have hk:j<q.length:=by rw[bc.o];exact an
     have x:=zq (show Bq d=(Bw 0 (d.queues.take i) ++(q.take j).map (fun t =>(t,(i:Int)))) ++(q[j],(i:Int)) ::((q.drop (j+1)).map (fun t =>(t,(i:Int))) ++(Bw (i+1) (d.queues.drop (i+1)) ++ d.aside.map fun t =>(t,-1)))from by
      rw[a8.o,List.append_assoc];congr 1
      conv => lhs;rw[<-List.take_append_drop j q]
      rw[List.drop_eq_getElem_cons hk];simp only[List.map_append,List.map_cons,List.append_assoc,List.cons_append])
     have ab:=zq (show(Bw 0 (d.queues.take i) ++(q.take j).map (fun t =>(t,(i:Int)))) ++ [(q[j],(i:Int))] =Bw 0 (d.queues.take i) ++(q.take (j+1)).map (fun t =>(t,(i:Int)))from by
      rw[aK hk,List.map_append,List.append_assoc];rfl)
     obtain⟨Ay,cy,ev,bk,cc,hx⟩:=rSl.at_ Ag.X zW (rSl.B Ag.L Ag.X HQ.o ah.o);injection ev with ay az a0
     subst ay a0;clear az;rw[bc.o]at bk;obtain⟨b8,b2,o2,b9,ca,rfl,u⟩:=hx j hk;have a7:=u.place;have bj:=u.lt;obtain⟨bl,-,ap,-,ar,-⟩:=u.reads;subst bl;have av:=zq (TkO.of u).rng;have bm:(j:Int)<(nq:Int):=by omega
     obtain⟨t,ht⟩:∃t,q[j] =t:=zJ;rw[ht]at av x ab ap ar;obtain⟨Z,hZ⟩:∃Z:Array Value,#[int i64 0,(),.string ⟨#[]⟩,()] =Z:=zJ;have al:Z.size=4:=by rw[<-hZ];rfl
     have KZ:=Blk.new wr 112 Z;have bg:=zq (Blk.there KZ 4 (by rw[al];exact aD _));obtain⟨w3,ag⟩:∃w3,(wr.alloc (.cells Z 112)).setCells wr 0 [int i64 t.id,t.kind,.string t.name,t.group] =w3:=zJ;have K3:=zq (show Blk w3 wr 112 #[t.id,t.kind,.string t.name,t.group] by rw[<-ag];exact Blk.laid KZ [t.id,t.kind,.string t.name,t.group] (by rw[al];rfl));have b3:Below wr wr w3:=by rw[<-ag];exact AS (Ac (aC _ _) _) _ 0 (aD _)
     have bh:=zq ag;have bf:=zq (Blk.rangeAll K3.o);have af:Below (n+2) u5 w3:=y.o.T (b3.M (by have:=aa.o;have:=HZ.o;omega));have bb:=zq af;have cg:=K3.o.lt;have ak:=zq (Mc s bo.o d bp.o n (n+1) (n+3) (n+2) _ _ t ((i:Int)) ap ar wr w3 z.o x.o b3 (HS.o.keepB zZ af) ((af.cell (p:=⟨n+1,4,none⟩) zX).T ((HK.o.cell 4).T rfl)));rw[ab.o]at ak;have ax:=zq (show u5.heap.size<=w3.heap.size from aZ aa.o b3.size);unfold tkV at ak;clear u hx hk ht ag KZ al b3 af x ab z ap ar;go_wp2_with (first
      |(refine aE rfl 112 _ rfl b2 o2 rfl _ _ av.o underlying112 rfl zY ?_)
      |(refine aV rfl 112 _ _ rfl wr 0 #[t.id,t.kind,.string t.name,t.group] rfl rfl bg.o zY zU ?_;rw[show(wr.alloc (.cells Z 112)).setCells wr 0 (#[t.id,t.kind,.string t.name,t.group]:Array Value).toList =w3 from bh.o])
      |(refine aE rfl 112 _ rfl wr 0 rfl _ _ bf.o underlying112 rfl zY ?_))
     refine ak.o.M ?_;rintro e w7 ⟨rr,rfl,b7,s7,ac,aq⟩;have B7:=zq (bb.o.T b7);have S7:=zq (aZ ax.o s7);have ba:=zq (show Below w w w7 from HB.o.T (B7.o.M (by rw[HG.o];omega)));by_cases ae:rr=0
     ·have O7:=zq (aq ae);subst ae;clear b7 s7 ac aq;go_wp2
      go_roundw
      ·exact⟨j+1,by omega,by go_num,O7.o,B7.o,S7.o⟩
      ·simp[intOf];omega
     ·have e0:r=rr:=HR.o.symm.T (ac ae);subst e0;have hb:=Ex ae;clear b7 s7 ac aq ae;go_wp2
      go_ret
      exact⟨rfl,ba.o⟩
    ·obtain rfl:nq=j:=by omega
     have ck:=b6.o;have au:=zq (z.o.to (P':=Bw 0 (d.queues.take (i+1))) (by rw[a9.o,bB (l:=q) (by rw[bc.o];exact aD _)]));go_wp2
     go_roundw
     ·exact⟨i+1,by omega,by go_num,au.o,y.o,aa.o⟩
     ·simp[intOf];omega
  ·obtain rfl:nQ=i:=by omega
   have au:=zq (z.o.to (P':=Bw 0 d.queues ++(d.aside.take 0).map (fun t =>(t,(-1:Int)))) (by rw[bB (l:=d.queues) (by rw[bd.o];exact aD _)];simp));have ci:=(y.o.cell (p:=⟨n+1,1,none⟩) zX).T k1.o;have co:n+1<wr.heap.size:=aH cf aa.o;clear z;go_wp2_with fail
   clear ci;go_loopw [43] (fun jx wr =>∃j:Nat,j<=nS/\jx=j/\Hid (EP s d (n+2) (n+3) (Bw 0 d.queues ++(d.aside.take j).map (fun t =>(t,(-1:Int)))) wr)/\Hid (Below (n+2) u5 wr)/\Hid (u5.heap.size<=wr.heap.size)) (fun jx _ => nS - (intOf jx).toNat)
   ·exact⟨0,by omega,rfl,au.o,y.o,aa.o⟩
   ·clear au y aa ah;obtain⟨j,hj,rfl,z,y,aa⟩:=hrel;have ah:=zq (show Below w w wr from HB.o.T (y.o.M (by rw[HG.o];omega)));by_cases an:j<nS
    ·have hk:j<d.aside.length:=by rw[be.o];exact an
     have x:=zq (show Bq d=(Bw 0 d.queues ++(d.aside.take j).map (fun t =>(t,(-1:Int)))) ++(d.aside[j],(-1:Int)) ::(d.aside.drop (j+1)).map (fun t =>(t,(-1:Int)))from by
      unfold Bq;rw[List.append_assoc];congr 1
      conv => lhs;rw[<-List.take_append_drop j d.aside]
      rw[List.drop_eq_getElem_cons hk];simp only[List.map_append,List.map_cons])
     have ab:=zq (show(Bw 0 d.queues ++(d.aside.take j).map (fun t =>(t,(-1:Int)))) ++ [(d.aside[j],(-1:Int))] =Bw 0 d.queues ++(d.aside.take (j+1)).map (fun t =>(t,(-1:Int)))from by
      rw[aK hk,List.map_append,List.append_assoc];rfl)
     obtain⟨Ay,cy,ev,bk,cc,hx⟩:=rSl.at_ Ag.X zW (rSl.B Ag.L Ag.X R1.o ah.o);injection ev with ay az a0
     subst ay a0;clear az;rw[be.o]at bk;obtain⟨b8,b2,o2,b9,ca,rfl,u⟩:=hx j hk;have a7:=u.place;have bj:=u.lt;obtain⟨bl,-,ap,-,ar,-⟩:=u.reads;subst bl;have av:=zq (TkO.of u).rng;have bm:(j:Int)<(nS:Int):=by omega
     obtain⟨t,ht⟩:∃t,d.aside[j] =t:=zJ;rw[ht]at av x ab ap ar;obtain⟨Z,hZ⟩:∃Z:Array Value,#[int i64 0,(),.string ⟨#[]⟩,()] =Z:=zJ;have al:Z.size=4:=by rw[<-hZ];rfl
     have KZ:=Blk.new wr 112 Z;have bg:=zq (Blk.there KZ 4 (by rw[al];exact aD _));obtain⟨w3,ag⟩:∃w3,(wr.alloc (.cells Z 112)).setCells wr 0 [int i64 t.id,t.kind,.string t.name,t.group] =w3:=zJ;have K3:=zq (show Blk w3 wr 112 #[t.id,t.kind,.string t.name,t.group] by rw[<-ag];exact Blk.laid KZ [t.id,t.kind,.string t.name,t.group] (by rw[al];rfl));have b3:Below wr wr w3:=by rw[<-ag];exact AS (Ac (aC _ _) _) _ 0 (aD _)
     have bh:=zq ag;have bf:=zq (Blk.rangeAll K3.o);have af:Below (n+2) u5 w3:=y.o.T (b3.M (by have:=aa.o;have:=HZ.o;omega));have bb:=zq af;have cg:=K3.o.lt;have ak:=zq (Mc s bo.o d bp.o n (n+1) (n+3) (n+2) _ _ t ((-1:Int)) ap ar wr w3 z.o x.o b3 (HS.o.keepB zZ af) ((af.cell (p:=⟨n+1,4,none⟩) zX).T ((HK.o.cell 4).T rfl)));rw[ab.o]at ak;have ax:=zq (show u5.heap.size<=w3.heap.size from aZ aa.o b3.size);unfold tkV at ak;clear u hx hk ht ag KZ al b3 af x ab z ap ar;go_wp2_with (first
      |(refine aE rfl 112 _ rfl b2 o2 rfl _ _ av.o underlying112 rfl zY ?_)
      |(refine aV rfl 112 _ _ rfl wr 0 #[t.id,t.kind,.string t.name,t.group] rfl rfl bg.o zY zU ?_;rw[show(wr.alloc (.cells Z 112)).setCells wr 0 (#[t.id,t.kind,.string t.name,t.group]:Array Value).toList =w3 from bh.o])
      |(refine aE rfl 112 _ rfl wr 0 rfl _ _ bf.o underlying112 rfl zY ?_))
     refine ak.o.M ?_;rintro e w7 ⟨rr,rfl,b7,s7,ac,aq⟩;have B7:=zq (bb.o.T b7);have S7:=zq (aZ ax.o s7);have ba:=zq (show Below w w w7 from HB.o.T (B7.o.M (by rw[HG.o];omega)));by_cases ae:rr=0
     ·have O7:=zq (aq ae);subst ae;clear b7 s7 ac aq;go_wp2
      go_roundw
      ·exact⟨j+1,by omega,by go_num,O7.o,B7.o,S7.o⟩
      ·simp[intOf];omega
     ·have e0:r=rr:=HR.o.symm.T (ac ae);subst e0;have hb:=Ex ae;clear b7 s7 ac aq ae;go_wp2
      go_ret
      exact⟨rfl,ba.o⟩
    ·obtain rfl:nS=j:=by omega
     have e0:r=0:=HR.o.symm.T (z.o.to (P':=Bq d) (by rw[bB (l:=d.aside) (by rw[be.o];exact aD _)];rfl)).all;subst e0;go_wp2
     go_ret
     exact⟨rfl,ah.o⟩
