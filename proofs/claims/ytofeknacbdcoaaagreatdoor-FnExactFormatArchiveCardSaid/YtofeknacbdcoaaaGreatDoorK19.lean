/- Part 19 of the proof. -/
import Derived.Test.YtofeknacbdcoaaaGreatDoorK18
import Derived.Test.YtofeknacbdcoaaaGreatDoorK13
import Derived.Test.YtofeknacbdcoaaaGreatDoorK15
import Derived.Test.YtofeknacbdcoaaaGreatDoorK17
import Derived.Test.YtofeknacbdcoaaaGreatDoorK16
import Derived.Test.YtofeknacbdcoaaaGreatDoorK09
import Derived.Test.YtofeknacbdcoaaaGreatDoorK10
import Derived.Test.YtofeknacbdcoaaaGreatDoorK06
import Derived.Test.YtofeknacbdcoaaaGreatDoorK01
import Derived.Lib.QuietBelow
set_option maxHeartbeats 8000000
set_option maxRecDepth 100000
set_option linter.unusedVariables false
set_option linter.unusedSimpArgs false
open Go.Proofs.Tryz
open Go.Value (int)
open Go.IntKind (i64)
namespace Go.Proofs.YtofeknacbdcoaaaGreatDoor
open Go.RowKit Go.Lib Go.Sort
def DF(d:As)(g row:Nat):Option (List UInt8) :=
 match ER d.s.g (AU d) (g:Int) (row:Int)with
 |some m => some m.data
 |none => DE d.s.data.toNat (if(g:Int)<d.s.g then BK d g row else C4 d (CA d.s.g (AU d) (g:Int)) g row)
theorem Jm {d:As}{g row:Nat}{m}(h:ER d.s.g (AU d) (g:Int) (row:Int)=some m):DF d g row=some m.data:=by unfold DF;rw[h]
theorem G3 {d:As}{g row:Nat}(h:ER d.s.g (AU d) (g:Int) (row:Int)=none)(hg:(g:Int)<d.s.g):DF d g row=DE d.s.data.toNat (BK d g row):=by unfold DF;rw[h,aM hg]
theorem Ig {d:As}{g row:Nat}(h:ER d.s.g (AU d) (g:Int) (row:Int)=none)(hg:¬(g:Int)<d.s.g):DF d g row=DE d.s.data.toNat (C4 d (CA d.s.g (AU d) (g:Int)) g row):=by unfold DF;rw[h,aJ hg]
structure Ck (d:As):Prop where
 ok:d.s.sh.Ok
 gl:(d.g.length:Int)=d.s.g+d.s.c
 dl:∀g,g<d.g.length->((AD d g).length:Int)=d.s.data+d.s.p
 bl:∀g,g<d.g.length->∀dr,dr∈AD d g->(dr.blocks.length:Int)=d.s.rows
 b4:∀g,g<d.g.length->∀dr,dr∈AD d g->∀b,b∈dr.blocks->b.bytes.length=4
 tp:d.v.length=2
 sm:(Dk d).length<=1000000
 mv:∀m,m∈Dk d->m.kind=2->0<=m.group/\m.group<d.s.g/\(m.data.length:Int)=4 * d.s.data/\(m.delta.length:Int)=4 * d.s.data
theorem insF_mem {e}{r x:Aj}:x∈MD e r↔x∈e∨x=r:=by
 have h:=List.takeWhile_append_dropWhile (p:=Bp r) (l:=e.reverse);unfold MD;simp only[bQ,List.mem_reverse,List.mem_cons];constructor
 ·rintro(c|c|c)
  ·exact .inl (List.mem_reverse.1 (h ▸ bO _ c))
  ·exact .inr c
  ·exact .inl (List.mem_reverse.1 (h ▸ bM _ c))
 ·rintro(c|c)
  ·have:=List.mem_reverse.2 c;rw[<-h]at this;rcases List.mem_append.1 this with f|f
   ·exact .inr (.inr f)
   ·exact .inl f
  ·exact .inr (.inl c)
theorem Fj:∀(n:Nat) (l:List Aj),l.length=n->∀x,x∈BV l->x∈l
 |0,l,hl,x,h => by
  obtain rfl:=bN hl;exact h
 |n+1,l,hl,x,h => by
  obtain⟨c,r,rfl⟩:∃c r,l=c ++ [r]:=⟨l.dropLast,l.getLast (by intro e;rw[e]at hl;simp at hl),(List.dropLast_concat_getLast _).symm⟩;rw[aU]at hl;rw[IB]at h;unfold Kp at h;split at h
  ·exact bM _ (Fj n c (by simpa using hl) x h)
  ·rcases insF_mem.1 h with h|h
   ·exact bM _ (Fj n c (by simpa using hl) x h)
   ·rw[h];simp
theorem Py {c e g}{m:Aj}(h:m∈CA c e g):m∈e/\m.kind=2:=by
 unfold CA at h;obtain⟨i,f⟩:=List.mem_filter.1 h;unfold CB at f;simp only[Bool.and_eq_true,bG]at f;exact⟨i,f.1⟩
theorem O1 {c e}{g row:Int}{m}(h:ER c e g row=some m):m∈e/\m.kind=2:=by
 unfold ER at h;split at h
 ·unfold FL at h;have:=List.mem_of_find?_eq_some h;exact Py (List.mem_reverse.1 this)
 ·cases h
theorem Ck.row {d}(h:Ck d){g row:Nat}(hg:g<d.g.length)(hr:(row:Int)<d.s.rows):(∀c,c∈AD d g->row<c.blocks.length)/\(∀c,c∈AD d g->(Cu c row).bytes.length =4):=by
 have f:∀c,c∈AD d g->row<c.blocks.length:=fun c e => by have:=h.bl g hg c e;omega
 exact⟨f,fun c e => by rw[Na (f c e)];exact h.b4 g hg c e _ (aT _)⟩
theorem Ck.par {d}(h:Ck d){g row:Nat}(hg:g<d.g.length)(c:d.s.g<=g)(hr:(row:Int)<d.s.rows):Kg d g row (CA d.s.g (AU d) (g:Int)) :=
 ⟨h.ok,hg,c,by have:=h.gl;omega,(h.row hg hr).1,(h.row hg hr).2,h.dl g hg,fun m hm => by
  obtain⟨e,f⟩:=Py hm;obtain⟨i,l,o,n⟩:=h.mv m (Fj _ _ rfl m e) f;exact⟨i,l,n⟩⟩
theorem Ck.blocks4 {d}(h:Ck d){g row:Nat}(hg:g<d.g.length)(hr:(row:Int)<d.s.rows):Dz (BK d g row) 4:=fun l f => by
 obtain⟨c,e,rfl⟩:=List.mem_map.1 f;unfold Df;split
 ·exact .inl rfl
 ·exact .inr ((h.row hg hr).2 c e)
theorem Ck.will4 {d}(h:Ck d){g row:Nat}(hg:g<d.g.length)(e:d.s.g<=g)(hr:(row:Int)<d.s.rows):Dz (C4 d (CA d.s.g (AU d) (g:Int)) g row) 4:=fun l f => by
 obtain⟨k,c,rfl⟩:=aY f;unfold C4 at c⊢;rw[CG]at c;rw[GJ _ _ _ _ c];unfold He;split
 ·exact .inl rfl
 ·exact .inr (DS (fun m hm =>((h.par hg e hr).enc c m hm).1) ((h.row hg hr).2 _ (aT c)))
theorem hv_count {bl:List (List UInt8)}{L:List Ba}(h:∀k,(hk:k<L.length)->(0<(bl.getD k []).length↔L[k].wiped =false)):∀j,j<=L.length->(BI bl j).length +Hr L j=j:=by
 intro j;induction j with
 |zero => intro _;simp[G4,Hr]
 |succ j ih =>
  intro i;have f:=ih zZ;have c:=h j zZ;rw[F5,Ns zZ,aU];cases hw:L[j].wiped with
  |true =>
   have e:¬0<(bl.getD j []).length:=fun h4 => by rw[hw]at c;cases c.1 h4
   rw[aJ e];simp;omega
  |false =>
   rw[aM (c.2 hw)];simp;omega
theorem Nf {n s:Nat}{bl:List (List UInt8)}{L:List Ba}(c:bl.length=L.length)(hn:L.length=n+s)(h:∀k,(hk:k<L.length)->(0<(bl.getD k []).length↔L[k].wiped =false))(f:s<Hr L L.length):DE n bl=none:=by
 have e:=hv_count h L.length (aD _);unfold DE;rw[aM];rw[Lh,aX,c];omega
theorem Uh(enc:Aj->List (List UInt8))(row)(L:List Ba):GB enc row [] L=L.map (Df row):=by
 apply bK
 ·rw[CG,bH]
 ·intro k c e;rw[CG]at c;rw[GJ _ _ _ _ c,bI];rfl
theorem Si {row c}(h4:(Cu c row).bytes.length =4):0<(Df row c).length↔c.wiped=false:=by
 unfold Df;cases c.wiped with
 |true => simp
 |false => simp[h4]
theorem Ck.dead {d}(h:Ck d){g row:Nat}(hg:g<d.g.length)(hr:(row:Int)<d.s.rows)(u:LM d g=true)(i:ER d.s.g (AU d) (g:Int) (row:Int)=none):DF d g row=none:=by
 obtain⟨n,o⟩:=h.ok.data;obtain⟨q,r⟩:=h.ok.p;simp only[Bh.sh]at n o q r;have x:=h.dl g hg;have hw:d.s.p<(Hr (AD d g) (AD d g).length:Int):=bE u;have h4:=(h.row hg hr).2;by_cases l:(g:Int)<d.s.g
 ·rw[G3 i l];refine Nf (s:=d.s.p.toNat) (L:=AD d g) (by simp[BK]) zZ (fun k c => ?_) zZ;have e:(BK d g row).getD k [] =Df row (AD d g)[k]:=by unfold BK;simp[aP,c]
  rw[e];exact Si (h4 _ (aT c))
 ·rw[Ig i l];refine Nf (s:=d.s.p.toNat) (L:=AD d g) (by unfold C4;rw[CG]) zZ (fun k c => ?_) zZ;have f:k<(C4 d (CA d.s.g (AU d) (g:Int)) g row).length:=by unfold C4;rw[CG];exact c
  have e:(C4 d (CA d.s.g (AU d) (g:Int)) g row).getD k [] =He (Cr d g) row (CA d.s.g (AU d) (g:Int)) k (AD d g)[k]:=by
   rw[aP,aO f,Option.getD_some];unfold C4;exact GJ _ _ _ _ c
  rw[e];unfold He;have y:=DS (b:=(Cu (AD d g)[k] row).bytes) (stamp:=(Cu (AD d g)[k] row).stamp) (row:=(row:Int)) (fun m hm =>((h.par hg zZ hr).enc c m hm).1) (h4 _ (aT c));cases(AD d g)[k].wiped with
  |true => simp
  |false => rw[aJ zX,y];simp
def BP(d:As)(row:Nat):List (List UInt8):=(List.range d.g.length).map fun g =>(DF d g row).getD []
def Fc(d:As)(g row:Nat):Option (List UInt8) :=
 match DF d g row with
 |some b => some b
 |none =>(Fx (4 * d.s.data.toNat) d.s.g.toNat d.s.c.toNat (BP d row)).map fun L => L.getD g []
theorem Kb {d}{g row:Nat}{b:List UInt8}(h:DF d g row=some b):Fc d g row=some b:=by unfold Fc;rw[h]
theorem Lw {d}{g row:Nat}(h:DF d g row=none):Fc d g row=(Fx (4 * d.s.data.toNat) d.s.g.toNat d.s.c.toNat (BP d row)).map fun L => L.getD g []:=by unfold Fc;rw[h]
theorem Ea(d row):(BP d row).length =d.g.length:=by simp[BP]
theorem KJ(d:As)(row){k:Nat}(h:k<d.g.length):(BP d row).take (k+1)=(BP d row).take k ++ [(DF d k row).getD []]:=by
 rw[aK (by rw[Ea];exact h)];simp[BP]
theorem JZ {d}(h:Ck d){g row:Nat}(hg:g<d.g.length)(hr:(row:Int)<d.s.rows){b:List UInt8}(hb:DF d g row=some b):b.length=4 * d.s.data.toNat:=by
 obtain⟨i,l⟩:=h.ok.data;obtain⟨o,q⟩:=h.ok.p;simp only[Bh.sh]at i l o q;have u:=h.dl g hg;have c:∀bl:List (List UInt8),bl.length=(AD d g).length->Dz bl 4->∀b,DE d.s.data.toNat bl=some b->b.length=4 * d.s.data.toNat:=fun bl z r b e => by
  unfold DE at e;split at e
  ·cases e
  ·rename_i hn
   injection e with e
   subst e;have hv:=Gm d.s.data.toNat bl bl.length;have:=EX (n:=d.s.data.toNat) (bl:=bl) zZ zZ zZ r zZ d.s.data.toNat (aD _);omega
 cases ho:ER d.s.g (AU d) (g:Int) (row:Int)with
 |some m =>
  rw[Jm ho]at hb;injection hb with hb
  subst hb;obtain⟨x,y⟩:=O1 ho;obtain⟨-,-,q3,-⟩:=h.mv m (Fj _ _ rfl m x) y;omega
 |none =>
  by_cases f:(g:Int)<d.s.g
  ·rw[G3 ho f]at hb;exact c _ (by simp[BK]) (h.blocks4 hg hr) _ hb
  ·rw[Ig ho f]at hb;exact c _ (by unfold C4;rw[CG]) (h.will4 hg zZ hr) _ hb
theorem Jo {d}(h:Ck d){row:Nat}(hr:(row:Int)<d.s.rows):Dz (BP d row) (4 * d.s.data.toNat):=fun l e => by
 obtain⟨g,hg,rfl⟩:=List.mem_map.1 e;have c:=List.mem_range.1 hg;cases hb:DF d g row with
 |none => exact .inl rfl
 |some b => exact .inr (JZ h c hr hb)
theorem Qe {d}(h:Ck d){g row:Nat}(hg:g<d.g.length)(hr:(row:Int)<d.s.rows){b:List UInt8}(hb:Fc d g row=some b):b.length=4 * d.s.data.toNat:=by
 obtain⟨l,o⟩:=h.ok.g;obtain⟨p,r⟩:=h.ok.c;simp only[Bh.sh]at l o p r;have u:=h.gl;have x:=Ea d row;cases hh:DF d g row with
 |some b' =>
  rw[Kb hh]at hb;injection hb with hb
  subst hb;exact JZ h hg hr hh
 |none =>
  rw[Lw hh]at hb;unfold Fx at hb;split at hb
  ·cases hb
  ·rename_i hn
   injection hb with hb
   dsimp only at hb;have y:=Gm d.s.g.toNat (BP d row) (BP d row).length;have e:(ES (4 * d.s.data.toNat) d.s.g.toNat (BP d row) (AN d.s.g.toNat (BP d row) (BP d row).length) (d.s.g.toNat+d.s.c.toNat)).getD g [] =Ev (4 * d.s.data.toNat) d.s.g.toNat (BP d row) (AN d.s.g.toNat (BP d row) (BP d row).length) g:=by
    have f:g<d.s.g.toNat+d.s.c.toNat:=by omega
    simp[ES,aP,f]
   rw[e]at hb;obtain⟨-,-,-,-,q⟩:=Gi (m:=4 * d.s.data.toNat) (n:=d.s.g.toNat) (bl:=BP d row) (i:=g) zZ zZ zZ (Jo h hr) zZ zZ;rw[<-hb];exact q
theorem Ah.mine {w f v}{l:List UInt8}{lo:Nat}(h:Ah w f v l)(hf:∀a,a∈f->lo<=a.block/\w.frozen? a=false):AL lo w f:=by
 refine⟨?_,fun a y =>(hf a y).1,fun a y =>(hf a y).2⟩;obtain⟨A,c,e,h1,h2,r⟩:=h;rcases r with⟨-,rfl⟩|⟨q,ab,s,-,e2,e3,rfl,r⟩
 ·exact List.nodup_nil
 ·have aa:s.flatten= []:=by
   rw[List.flatten_eq_nil_iff];intro x hx;obtain⟨i,hi,rfl⟩:=aY hx;obtain⟨q1,q2,q3,q4,p,z⟩:=r i zZ;exact p
  rw[aa,List.append_nil];cases hl:l.length with
  |zero => rw[Nat.zero_mul];exact List.nodup_nil
  |succ n =>
   obtain⟨q1,q2,q3,q4,p,z⟩:=r 0 zZ;have hc:=q4 0 zZ;obtain⟨b,o,hP⟩:=MR hc;have h0:q.add 0=q:=addZero q;have u:q=⟨b,o,none⟩:=by rw[<-h0];simpa using hP
   exact FG (by rw[u])
theorem here_c(p fs d)(g row:Nat)(w)(h:AtW w p fs d)(hT:Ck d)(hg:g<d.g.length)(hr:(row:Int)<d.s.rows):
  Calls prog 171 #[.pointer (some (zE p)),int i64 (g:Int),int i64 (row:Int)] w (Iw (DF d g row) w):=by
 obtain⟨a1,a2⟩:=hT.ok.data;obtain⟨b1,b2⟩:=hT.ok.p;simp only[Bh.sh]at a1 a2 b1 b2;have bv:=hT.dl g hg;obtain⟨bn,HH,HT⟩:=zI (RS p fs d (g:Int) (row:Int) w h hT.ok zZ hT.sm) h hT;have bw:(prog.info? 105).map (·.size)=some 9:=by kernel_rfl
 have lp:p<w.heap.size:=by obtain⟨A0,A1,A2,c0,c1,c2,f0,f1,f2,HC⟩:=h.cells;exact HC.lt
 obtain⟨X,hX⟩:∃X,DF d g row=X:=zJ;rw[hX];have HX:=zq hX;obtain⟨n,bf⟩:∃n:Nat,d.s.data=n:=⟨d.s.data.toNat,by omega⟩;obtain⟨ns,bg⟩:∃ns:Nat,d.s.p=ns:=⟨d.s.p.toNat,by omega⟩;have z:=zq bf;have a4:=zq bg;have ai:1<=n:=by omega
 have aj:n<=3:=by omega
 have b0:ns<=2:=by omega
 have al:=zq (show(AD d g).length =n+ns by omega);clear h hT hX bf bg a1 a2 b1 b2 bv;go_enter func171,ntmps171
 go_wp2_with fail
 refine bn.o.M ?_;rintro e w1 (⟨m,cs,f1,v1,c,rfl,af,f,bh,av,l⟩|⟨c,cs,rfl,af,f,l⟩);all_goals
  obtain⟨B1,am,an⟩:=zI l (show(prog.info? 105).map (·.size)=some cs.size by rw[af];exact bw) f;obtain⟨Z,hZ⟩:∃Z:Array Value,#[int i64 0,(),.string ⟨#[]⟩,(),(),(),zQ,zQ,zQ] =Z:=zJ;have ae:Z.size=9:=by rw[<-hZ];rfl
  have KZ:=Blk.new w1 105 Z;have ap:=zq (Blk.there KZ cs.size (by rw[af,ae];exact aD _));obtain⟨W2,ab⟩:∃W2,(w1.alloc (.cells Z 105)).setCells w1 0 cs.toList=W2:=zJ;have K2:Blk W2 w1 105 cs:=by
   have:=Blk.laid KZ cs.toList (by rw[ae,Array.length_toList,af]);rw[Array.toArray_toList]at this;rw[<-ab];exact this
  have ad:Below w1 w1 W2:=by rw[<-ab];exact AS (Ac (aC _ _) _) _ 0 (aD _)
  obtain⟨aq,B2,b9⟩:=zI ab (l.T (ad.M l.size)) K2
 ·have y7:W2.cell? ⟨w1.heap.size,7,none⟩=some v1:=by rw[K2.cell];exact bh
  have gb:w1.heap.size<W2.heap.size:=K2.lt;have bz:m.data.length<=1048576:=by
   obtain⟨q1,q2⟩:=O1 c;obtain⟨-,-,q3,-⟩:=HT.o.mv m (Fj _ _ rfl m q1) q2;have:=z.o;omega
  have e1:X=some m.data:=by rw[<-HX.o];exact Jm c
  subst e1;have bm:=zq (Hh v1 m.data f1 W2 (av.B ad) bz);obtain⟨A7,c7,rfl,-⟩:=rSl.head av;clear c f bh av l KZ ab K2 ad ae;go_wp2_with (first
   |(refine aV rfl 105 (.tmp 8) (.tmp 16) rfl w1 0 cs rfl rfl ap.o am.o an.o ?_;rw[aq.o])
   |(go_at_call 110;refine bm.o.M ?_;rintro e w3 h3;obtain⟨A3,c3,f3,e3,r3,m3,b3⟩:=h3.fresh;subst e3;have R3:=zq r3;have M3:=zq m3;have q:=zq b3;clear h3 r3 m3 b3))
  go_ret2
  exact .inl ⟨m.data,A3,c3,f3,rfl,rfl,R3.o,M3.o.M B2.o.size,B2.o.T (q.o.M B2.o.size)⟩
 ·clear f l KZ ab K2 ad ae;have a0:=zq (Oh p fs d g row W2 (HH.o.B B2.o) hg (HT.o.row hg hr).1 (by rw[al.o];omega));have bd:(BK d g row).length =n+ns:=by unfold BK;rw[bH];exact al.o
  have a3:=zq bd;have b8:=B2.o.size;have ag:=zq c;clear bd c;by_cases qg:(g:Int)<d.s.g
  ·have au:Ap (g:Int) 0 (d.s.g - 1)=true:=FD zZ zZ;have e1:X=DE n (BK d g row):=by rw[<-HX.o,G3 ag.o qg,z.o];rfl
   have ac:=zq e1;clear qg e1;go_wp2_with (first
    |(refine aV rfl 105 (.tmp 8) (.tmp 16) rfl w1 0 cs rfl rfl ap.o am.o an.o ?_;rw[aq.o])
    |(go_at_call 230;refine a0.o.M ?_;rintro e w3 ⟨A3,c3,f3,rfl,o3,g3,b3⟩;rw[a3.o]at o3⊢;have O3:=zq o3;have q:=zq (B2.o.T (b3.M B2.o.size));have bx:=aH lp q.o.size;obtain⟨bj,bk,bl,bp,bq,br,bs,bt,bu,u⟩:=(HH.o.B q.o).cells;have ao:=zq u.s;have HD:=zq (Hq d.s.sh HT.o.ok (g:Int) w3);unfold shV at HD;rw[show d.s.sh.g=d.s.g from rfl,au]at HD;clear o3 g3 b3 u)
    |(refine aE rfl 38 (.tmp 28) rfl p 0 rfl _ _ ao.o underlying38 rfl zY ?_)
    |(go_at_call 202;refine HD.o.M ?_;rintro e w4 ⟨rfl,b4⟩;have B4:=zq (q.o.T (b4.M q.o.size));have az:=zq b4;have ca:=aH lp B4.o.size;obtain⟨aw,ax,ay,a7,a8,a9,ba,bb,bc,x⟩:=(HH.o.B B4.o).cells;have aa:=zq x.s;have HR:=zq (row_c d.s.sh w4);unfold shV at HR;rw[show d.s.sh.data=d.s.data from rfl,show d.s.sh.p=d.s.p from rfl]at HR;clear b4 x)
    |(refine aE rfl 38 (.tmp 39) rfl p 0 rfl _ _ aa.o underlying38 rfl zY ?_)
    |(go_at_call 232;refine HR.o.M ?_;rintro e w5 ⟨rfl,b5⟩;have r:=zq (B4.o.T (b5.M B4.o.size));have ak:=zq (az.o.T (b5.M az.o.size));clear b5))
   obtain⟨gr,be,-⟩:=O3.o.reads;have i:=HT.o.blocks4 hg hr;have y:=zq (KR n ns (.slice A3 (n+ns) c3) (BK d g row) (gr ++ f3) w5 (rSl.B Az.loc Az.fix be ak.o) ai aj (by rw[a3.o];omega) i);clear be i;rw[<-ac.o]at y;rw[z.o,a4.o];refine y.o.M ?_;rintro e w6 (⟨D,A6,c6,f6,e6,rfl,r6,m6,b6⟩|⟨e6,rfl,b6⟩)
   ·obtain⟨R6,M6,B6,E6⟩:=zH r6 m6 b6 e6;clear r6 m6 b6 e6;go_wp2
    go_ret2
    exact .inl ⟨D,A6,c6,f6,E6.o,rfl,R6.o,M6.o.M r.o.size,r.o.T (B6.o.M r.o.size)⟩
   ·have B6:=zq b6;have E6:=zq e6;clear b6 e6;go_wp2
    go_ret2
    exact .inr ⟨E6.o,rfl,r.o.T (B6.o.M r.o.size)⟩
  ·have au:Ap (g:Int) 0 (d.s.g - 1)=false:=Gp zZ;have e1:X=DE n (C4 d (CA d.s.g (AU d) (g:Int)) g row):=by rw[<-HX.o,Ig ag.o qg,z.o];rfl
   have ac:=zq e1;have ah:=HT.o.par hg zZ hr;have i:=HT.o.will4 hg zZ hr;have a5:=zq (fun(W:World) (hW:Below w w W) => willBe_c p fs d g row W (HH.o.B hW) HT.o.sm ah);obtain⟨Wf,ar⟩:∃Wf,C4 d (CA d.s.g (AU d) (g:Int)) g row=Wf:=zJ;have bi:Wf.length=n+ns:=by rw[<-ar];unfold C4;rw[CG];exact al.o
   rw[ar]at a5 ac i;have a6:=zq bi;have bo:=zq i;clear qg e1 ah bi i ar;go_wp2_with (first
    |(refine aV rfl 105 (.tmp 8) (.tmp 16) rfl w1 0 cs rfl rfl ap.o am.o an.o ?_;rw[aq.o])
    |(go_at_call 230;refine a0.o.M ?_;rintro e w3 ⟨A3,c3,f3,rfl,o3,g3,b3⟩;have q:=zq (B2.o.T (b3.M B2.o.size));have bx:=aH lp q.o.size;obtain⟨bj,bk,bl,bp,bq,br,bs,bt,bu,u⟩:=(HH.o.B q.o).cells;have ao:=zq u.s;have HD:=zq (Hq d.s.sh HT.o.ok (g:Int) w3);unfold shV at HD;rw[show d.s.sh.g=d.s.g from rfl,au]at HD;clear o3 g3 b3 u)
    |(refine aE rfl 38 (.tmp 28) rfl p 0 rfl _ _ ao.o underlying38 rfl zY ?_)
    |(go_at_call 202;refine HD.o.M ?_;rintro e w4 ⟨rfl,b4⟩;have B4:=zq (q.o.T (b4.M q.o.size));have HW:=zq (a5.o w4 B4.o);clear b4)
    |(go_at_call 231;refine HW.o.M ?_;rintro e w7 ⟨A7,c7,f7,rfl,r7,b7⟩;rw[a6.o]at r7⊢;have R7:=zq r7;have B7:=zq (B4.o.T (b7.M B4.o.size));have cb:=aH lp B7.o.size;obtain⟨aw,ax,ay,a7,a8,a9,ba,bb,bc,x⟩:=(HH.o.B B7.o).cells;have aa:=zq x.s;have HR:=zq (row_c d.s.sh w7);unfold shV at HR;rw[show d.s.sh.data=d.s.data from rfl,show d.s.sh.p=d.s.p from rfl]at HR;clear r7 b7 x)
    |(refine aE rfl 38 (.tmp 39) rfl p 0 rfl _ _ aa.o underlying38 rfl zY ?_)
    |(go_at_call 232;refine HR.o.M ?_;rintro e w5 ⟨rfl,b5⟩;have r:=zq (B7.o.T (b5.M B7.o.size));have ak:=zq b5;clear b5))
   have y:=zq (KR n ns (.slice A7 (n+ns) c7) Wf f7 w5 (rSl.B Az.loc Az.fix R7.o ak.o) ai aj (by rw[a6.o];omega) bo.o);rw[<-ac.o]at y;rw[z.o,a4.o];refine y.o.M ?_;rintro e w6 (⟨D,A6,c6,f6,e6,rfl,r6,m6,b6⟩|⟨e6,rfl,b6⟩)
   ·obtain⟨R6,M6,B6,E6⟩:=zH r6 m6 b6 e6;clear r6 m6 b6 e6;go_wp2
    go_ret2
    exact .inl ⟨D,A6,c6,f6,E6.o,rfl,R6.o,M6.o.M r.o.size,r.o.T (B6.o.M r.o.size)⟩
   ·have B6:=zq b6;have E6:=zq e6;clear b6 e6;go_wp2
    go_ret2
    exact .inr ⟨E6.o,rfl,r.o.T (B6.o.M r.o.size)⟩
theorem Ue(p fs d)(g row:Nat)(w)(h:AtW w p fs d)(hT:Ck d)(hg:g<d.g.length)(hr:(row:Int)<d.s.rows):
  Calls prog 111 #[.pointer (some (zE p)),int i64 (g:Int),int i64 (row:Int)] w (Iw (Fc d g row) w):=by
 obtain⟨a1,a2⟩:=hT.ok.data;obtain⟨b1,b2⟩:=hT.ok.g;obtain⟨b3,b4⟩:=hT.ok.c;simp only[Bh.sh]at a1 a2 b1 b2 b3 b4;have bs:=hT.gl;have HH:=zq h;have HT:=zq hT;have lp:p<w.heap.size:=by obtain⟨A0,A1,A2,c0,c1,c2,f0,f1,f2,HC⟩:=h.cells;exact HC.lt
 have ax:=zq (fun(W:World) (hW:Below w w W) (k:Nat) (hk:k<d.g.length) => here_c p fs d k row W (h.B hW) hT hk hr);obtain⟨nd,a8⟩:∃nd:Nat,d.s.data=nd:=⟨d.s.data.toNat,by omega⟩;obtain⟨l,a9⟩:∃l:Nat,d.s.g=l:=⟨d.s.g.toNat,by omega⟩;obtain⟨n,a6⟩:∃n:Nat,d.s.c=n:=⟨d.s.c.toNat,by omega⟩;obtain⟨ay,ae,ad⟩:=zI a8 a9 a6;have bw:nd<=3:=by omega
 have ba:1<=l:=by omega
 have bb:l<=4:=by omega
 have a7:n<=2:=by omega
 have ac:=zq (show d.g.length=l+n by omega);have br:g<l+n:=by omega
 clear h hT a8 a9 a6 a1 a2 b1 b2 b3 b4 bs;go_enter func111,ntmps111
 go_wp2_with fail
 refine(ax.o w (aC _ _) g hg).M ?_;rintro e w1 (⟨D,A6,c6,f6,e6,rfl,r6,m6,z⟩|⟨e6,rfl,z⟩)
 ·obtain⟨R6,B6,M6,E6⟩:=zH r6 z m6 (Kb e6);clear r6 z e6 m6;go_wp2
  go_ret2
  exact .inl ⟨D,A6,c6,f6,E6.o,rfl,R6.o,M6.o,B6.o⟩
 ·have B1:=zq z;have an:=Lw e6;rw[ay.o,ae.o,ad.o,Int.toNat_natCast,Int.toNat_natCast,Int.toNat_natCast]at an;have al:=zq an;have s1:=z.size;have bt:p<w1.heap.size:=aH lp s1;have ag:=zq (show∀W,Below w w W->W.rangeAt p 0 d.s from fun W hW => by
   obtain⟨bx,bz,b0,ca,cb,cc,ce,cf,cg,bg⟩:=(HH.o.B hW).cells;exact bg.s)
  have HE:=zq (Ak.emptyL (w:=w1));have am:Below w1 w1 (w1.alloc (.cells #[] 61)):=Ac (aC _ _) _;have bf:=zq am;have bj:=zq (ag.o _ (z.T (am.M s1)));have y:=Fq d.s.sh HT.o.ok (w1.alloc (.cells #[] 61));unfold shV at y;rw[show d.s.sh.g+d.s.sh.c=((l+n:Nat):Int)from by show d.s.g+d.s.c=_;rw[ae.o,ad.o];rfl]at y;have ar:=zq y;clear e6 z an am y;go_wp2_with (first
   |(refine aE rfl 38 (.tmp 28) rfl p 0 rfl _ _ bj.o underlying38 rfl zY ?_)
   |(go_at_call 27;refine ar.o.M ?_;rintro e w2 ⟨rfl,b2⟩;have B2:=zq (bf.o.T (b2.M zX));have aw:=zq (HE.o.B Az.loc Az.fix b2);clear b2))
  go_loopw [31,10,11,12,13] (fun i o _ _ _ wr =>∃(k:Nat) (A:Option Addr) (c3:Nat) (fo:List Addr),k<=l+n/\i=k/\o= .slice A k c3/\Hid (Ak 1 61 (Ai 1 Al) wr w1 o ((BP d row).take k) fo)/\Hid (Below w1 w1 wr)) (fun i _ _ _ _ _ => l+n - (intOf i).toNat)
  ·exact⟨0,_,0,[],by omega,rfl,rfl,aw.o,B2.o⟩
  ·obtain⟨k,A,c3,fo,hk,rfl,rfl,HO,HB⟩:=hrel;clear HE aw B2;have sB:=HB.o.size;have au:=zq sB;have ab:=zq (B1.o.T (HB.o.M s1));by_cases a4:k<l+n
   ·have HC:=zq (ax.o wr ab.o k (by rw[ac.o];exact a4));have bc:=KJ d row (show k<d.g.length by rw[ac.o];exact a4);have ai:((BP d row).take k).length =k:=by rw[aX,Ea,ac.o];omega
    have a0:=zq bc.symm;have x:=zq ai;have ci:(k:Int)<((l:Int)+(n:Int)):=by omega
    clear bc ai;go_wp2_with fail
    refine HC.o.M ?_;rintro e w3 (⟨D,A6,c6,f6,e6,rfl,r6,m6,z⟩|⟨e6,rfl,z⟩)
    ·have u:=a0.o;rw[e6,Option.getD_some]at u;have aa:=zq (Tryz.addAny (wr:=wr) (W:=w3.alloc (.cells #[.slice A6 D.length c6] 61)) (b:=w3.heap.size) (ve:=.slice A6 D.length c6) (f:=f6) (L:=D) HO.o au.o (by rw[x.o];omega) (Ac z _) (Blk.new _ _ _) (r6.B (Ac (aC _ _) _)) (fun a ha => .inr (m6.from_ a ha)));rw[x.o,u]at aa;clear e6 r6 m6 z u;go_wp2_with (at_builtin;refine An rfl (.tmp 41) (.tmp 43) 156 rfl _ _ zT zT aa.o ?_;rintro v8 w8 ⟨A8,c8,h8,rfl,o8,B8,e8,s8⟩;have ak:=zq o8;have aj:=zq B8;clear o8 B8 s8)
     go_roundw
     ·exact⟨k+1,A8,c8,_,by omega,by go_num,rfl,ak.o,HB.o.T aj.o⟩
     ·simp[intOf];omega
    ·have u:=a0.o;rw[e6,Option.getD_none]at u;have aa:=zq (Tryz.addAny (wr:=wr) (W:=w3.alloc (.cells #[zQ] 61)) (b:=w3.heap.size) (ve:=.slice none 0 0) (f:=[]) (L:=[]) HO.o au.o (by rw[x.o];omega) (Ac z _) (Blk.new _ _ _) (Ah.empty zZ) (fun a ha => by cases ha));rw[x.o,u]at aa;clear e6 z u;go_wp2_with (at_builtin;refine An rfl (.tmp 41) (.tmp 43) 156 rfl _ _ zT zT aa.o ?_;rintro v8 w8 ⟨A8,c8,h8,rfl,o8,B8,e8,s8⟩;have ak:=zq o8;have aj:=zq B8;clear o8 B8 s8)
     go_roundw
     ·exact⟨k+1,A8,c8,_,by omega,by go_num,rfl,ak.o,HB.o.T aj.o⟩
     ·simp[intOf];omega
   ·obtain rfl:k=l+n:=by omega
    have ho:=HO.o;have a5:(BP d row).length =l+n:=by rw[Ea];exact ac.o
    rw[bB zZ]at ho;obtain⟨gr,a3,-⟩:=ho.reads;have r:=Jo HT.o hr;rw[ay.o,Int.toNat_natCast]at r;have av:=zq (fun(W:World) (hW:Below wr wr W) => PG l n (.slice A (l+n) c3) (BP d row) (gr ++ fo) W (4 * nd) (rSl.B Az.loc Az.fix a3 hW) ba bb a7 (by rw[a5];omega) r zZ);have af:=SJ d.s.sh wr;unfold shV at af;rw[show d.s.sh.g=(l:Int)from ae.o,show d.s.sh.c=(n:Int)from ad.o]at af;have ao:=ag.o wr ab.o;rw[ae.o,ad.o]at ao;have az:=zq ao;have bh:=zq af;have cj:p<wr.heap.size:=aH bt sB;obtain⟨Y,hY⟩:∃Y,Fx (4 * nd) l n (BP d row)=Y:=zJ;rw[hY]at av al;have HY:=zq hY;clear ho a5 a3 r af ao hY;go_wp2_with (first
     |(refine aE rfl 38 (.tmp 49) rfl p 0 rfl _ _ az.o underlying38 rfl zY ?_)
     |(go_at_call 172;refine bh.o.M ?_;rintro e w5 ⟨rfl,b5⟩;have bi:=zq (av.o w5 b5);have B5:=zq (ab.o.T (b5.M ab.o.size));clear b5))
    refine bi.o.M ?_;rintro e w6 (⟨L,A9,c9,f9,e9,rfl,r9,m9,b9⟩|⟨e9,rfl,b9⟩)
    ·have hL:L.length=l+n:=by
      have h1:=HY.o;rw[e9]at h1;unfold Fx at h1;split at h1
      ·cases h1
      ·injection h1 with h1
       rw[<-h1];exact Eu _ _ _ _ _
     obtain⟨b7,cd,bn,-,-,bd⟩:=Az.open_ r9;injection bn with bo _ bp
     subst bo bp;have ah:g<L.length:=by omega
     obtain⟨b8,be,bl,bq,bm,bv,ck,ap,bu,aq,-⟩:=bd g ah;subst bm;have ch:(g:Int)<(L.length:Int):=by omega
     have hm:=Ah.mine (lo:=w5.heap.size) ap (fun a ha =>⟨m9.from_ a (aq a ha),m9.free a (aq a ha)⟩);have hR:Fc d g row=some (L[g]'ah):=by
      rw[al.o,e9,Option.map_some];simp[aP,hL,br]
     obtain⟨HR,HM,bk,B9⟩:=zH hR hm ap (B5.o.T (b9.M B5.o.size));clear bd r9 m9 b9 bu aq hm hR ap hL e9;go_wp2
     go_ret2
     exact .inl ⟨L[g],be,bl,bq,HR.o,rfl,bk.o,HM.o.M B5.o.size,B9.o⟩
    ·have hR:Fc d g row=none:=by rw[al.o,e9];rfl
     have HR:=zq hR;have B9:=zq (B5.o.T (b9.M B5.o.size));clear b9 hR e9;go_wp2
     go_ret2
     exact .inr ⟨HR.o,rfl,B9.o⟩
def irF(d:As)(g:Nat)(rows:List Int):Nat->Option (List UInt8)
 |0 => some []
 |k+1 =>(irF d g rows k).bind fun L =>((rows[k]?).bind fun r => Fc d g r.toNat).map fun b => L ++ b
theorem OG {d g rows}{k:Nat}{L b:List UInt8}(h:irF d g rows k=some L)(c:k<rows.length)(hb:Fc d g rows[k].toNat =some b):irF d g rows (k+1)=some (L ++ b):=by
 unfold irF;rw[h,aO c];simp[hb]
theorem OF {d g}{rows:List Int}{k:Nat}(c:k<rows.length)(hb:Fc d g rows[k].toNat =none):irF d g rows (k+1)=none:=by
 unfold irF;rw[aO c];cases irF d g rows k <;> simp[hb]
theorem irF_up {d g rows}{k:Nat}(h:irF d g rows k=none):irF d g rows (k+1)=none:=by
 unfold irF;rw[h];rfl
theorem OE {d g rows}{k:Nat}(h:irF d g rows k=none):∀n,irF d g rows (k+n)=none
 |0 => h
 |n+1 => irF_up (OE h n)
theorem G7 {d}(e:Ck d){g:Nat}{rows:List Int}(hg:g<d.g.length)(hr:∀r,r∈rows->0<=r/\r<d.s.rows):∀k,k<=rows.length->∀L,irF d g rows k=some L->L.length=k * (4 * d.s.data.toNat)
 |0,_,L,h => by simp[irF]at h;subst h;simp
 |k+1,hk,L,h => by
  have c:k<rows.length:=by omega
  unfold irF at h;rw[aO c]at h;cases h1:irF d g rows k with
  |none => rw[h1]at h;simp at h
  |some M =>
   rw[h1]at h;cases h2:Fc d g rows[k].toNat with
   |none => simp[h2]at h
   |some b =>
    simp[h2]at h;subst h;have f:=G7 e hg hr k zZ M h1;have h4:=hr _ (aT c);have i:=Qe e hg (row:=rows[k].toNat) zZ h2;rw[aU,f,i,Nat.add_mul,Nat.one_mul]
def Du(d:As)(r:Aj):Option (List UInt8) :=
 if 0<r.data.length then some r.data else(irF d (EF d.s.g r.name).toNat r.rows r.rows.length).map fun L => L.take r.length.toNat
structure GC (d:As) (r:Aj):Prop where
 nm:r.name.size<=1000000
 dl:r.data.length<=1000000
 rl:r.rows.length<=6
 rw_:∀q,q∈r.rows->0<=q/\q<d.s.rows
 ln:r.data.length=0->0<=r.length/\r.length<=r.rows.length * (4 * d.s.data)
theorem Ak.cutB {w}{base n c xl C:Nat}{A}{L:List UInt8}(h:Ak 1 5 Al w base (.slice A n c) L [])(r:xl<=L.length)(h1:xl<=C)(q:C<=9223372036854775807):∃fs,Ah w fs (.slice A xl C) (L.take xl)/\AL base w fs:=by
 obtain⟨p,r1,r2⟩:=h.readsMine ⟨List.nodup_nil,(fun a f => by cases f),(fun a f => by cases f)⟩;obtain⟨g1,g2,l,-,u⟩:=rSl.split r1 r;have i:(L.take xl).length =xl:=by rw[aX];omega
 refine⟨g1,?_,Ah.mine (v:=.slice A xl c) l fun a f => ?_⟩
 ·obtain⟨x,y,e,q1,q2,s⟩:=l;injection e with o z e3
  subst o;exact⟨A,C,by rw[i],by rw[i];exact h1,q,s⟩
 ·have hm:a∈p:=u.subset (bM _ f);exact⟨r2.from_ a hm,r2.free a hm⟩
theorem yG{p:Prop}(h:p:=by repeat(with_reducible first|assumption|exact aC _ _|apply Ac|apply Am)):p:=h
theorem SB(ks:Nat)(az:ks=9)(zS:∀w,(Go.sizeOf 38).run prog w= .ok ks w)(aS:∀w,(isAgg 38).run prog w= .ok true w)(p fs d x cs f w)(h:AtW w p fs d)(hx:Af w f cs x)(hT:Ck d)(hI:GC d x):
  Calls prog 61 #[.pointer (some (zE p)),.agg cs] w (Iw (Du d x) w):=by
 have a4:=hx;dsimp only[Af]at hx;obtain⟨v0,v1,v2,f0,f1,f2,e,-,-,-,-,-,-,-,r0,r1,r2⟩:=hx;subst e;obtain⟨A0,c0,rfl,-,-,a3⟩:=AW.open_ r0;have bd:=zq a3;clear a3;obtain⟨A1,c1,rfl,-⟩:=rSl.head r1;obtain⟨A2,c2,rfl,-⟩:=rSl.head r2;obtain⟨l,y⟩:∃l,x.rows.length=l:=zJ;obtain⟨nD,u⟩:∃nD,x.data.length=nD:=zJ;rw[y]at r0;rw[u]at r1;have aw:=zq y;have bw:=zq u;obtain⟨nE,ag⟩:∃nE,x.delta.length=nE:=zJ;rw[ag]at r2;rw[y,u,ag];obtain⟨n,z⟩:∃n,w.alloc (.cells (yZ x A0 l c0 A1 nD c1 A2 nE c2) 105)=n:=zJ;have ab:Below w w n:=by rw[<-z];exact(aC _ _).alloc (aD _) _
 have K1:Blk n w 105 (yZ x A0 l c0 A1 nD c1 A2 nE c2):=by rw[<-z];exact Blk.new w _ _
 have z1:n.heap.size=w.heap.size+1:=by rw[<-z];simp
 obtain⟨ae,a5,bv,HT,HI⟩:=zG ab (h.B ab) K1 hT hI;have bl:=hI.dl;rw[u]at bl;have p2:n.cell? ⟨w.heap.size,2,none⟩=some (.string x.name):=(K1.cell 2).T rfl;have p3:n.cell? ⟨w.heap.size,3,none⟩=some (int i64 x.length):=(K1.cell 3).T rfl;have p6:n.cell? ⟨w.heap.size,6,none⟩=some (.slice A0 l c0):=(K1.cell 6).T rfl;have p7:n.cell? ⟨w.heap.size,7,none⟩=some (.slice A1 nD c1):=(K1.cell 7).T rfl;have lw:w.heap.size<n.heap.size:=by omega
 have bf:=zq z1;by_cases q:0<nD
 ·have e1:Du d x=some x.data:=by unfold Du;rw[u,aM q]
  rw[e1];have a7:=zq ((Hh _ x.data f1 n (rSl.B Al.L Al.X r1 ab) zZ).M fun e w' h => LG.fresh h);have qi:(0:Int)<(nD:Int):=by omega
  clear r0 r1 r2 ab K1 z1 h a4 hT hI e1 y u ag;go_enter func61,ntmps61
  go_wp2_with fail
  try rw[z]
  clear z;go_wp2_with (go_at_call 110;refine a7.o.M ?_;rintro e w2 ⟨A3,c3,f3,rfl,r3,m3,b3⟩;have R3:=zq r3;have M3:=zq m3;have B3:=zq b3;clear r3 m3 b3)
  go_ret2
  exact .inl ⟨_,A3,c3,f3,rfl,rfl,R3.o,M3.o.M (by have:=bf.o;omega),ae.o.T (B3.o.M ae.o.size)⟩
 ·obtain⟨gh,ao⟩:∃gh:Nat,EF d.s.g x.name=(gh:Int):=⟨(EF d.s.g x.name).toNat,by have:=Hl (nm:=x.name) (show 0<d.s.g from by have:=hT.ok.g.1;simp only[Bh.sh]at this;omega);omega⟩;have bi:=Hl (nm:=x.name) (show 0<d.s.g from by have:=hT.ok.g.1;simp only[Bh.sh]at this;omega);have an:gh<d.g.length:=by have h1:=hT.gl;have h2:=hT.ok.c.1;simp only[Bh.sh]at h2;omega
  have e1:Du d x=(irF d gh x.rows l).map fun L => L.take x.length.toNat:=by unfold Du;rw[u,aJ q,y,ao,Int.toNat_natCast]
  rw[e1];have hl:=hI.ln zZ;rw[y]at hl;have bm:=hI.rl;rw[y]at bm;have ay:=hT.ok.data;simp only[Bh.sh]at ay;have cb:d.s.data<=3:=by have:=ay.2;omega
  have cd:x.length<=1000:=by
   have h1:((l:Int) * (4 * d.s.data))<=6 * (4 * 3):=Int.mul_le_mul zZ zZ zZ zZ;omega
  have aj:=zq (G7 hT (rows:=x.rows) an hI.rw_);have a2:∀k,k<=l->k * (4 * d.s.data.toNat)<=100:=fun k hk => by
   have h1:k * (4 * d.s.data.toNat)<=6 * (4 * 3):=Nat.mul_le_mul zZ zZ;omega
  have bc:=zq a2;have a9:=zq (show x.length.toNat<=l * (4 * d.s.data.toNat)from by
   have:((l * (4 * d.s.data.toNat):Nat):Int)=(l:Int) * (4 * d.s.data):=by
    rw[Int.natCast_mul,Int.natCast_mul,Int.toNat_of_nonneg zZ];rfl
   omega)
  have ax:=zq (fun(W:World) (hW:Below w w W) (m:Nat) (hm:(m:Int)<d.s.rows) => Ue p fs d gh m W (h.B hW) hT an hm);have ac:=fun W => home_c d.s.sh hT.ok x.name hI.nm W
  unfold shV at ac;simp only[Bh.sh]at ac;rw[ao]at ac;have aq:=zq ac;have af:=zq (show∀W,Below n n W->(Sem.run prog (loadCellsFrom (zE p) 0 ks #[]) W= .ok d.s W/\W.cell? ⟨w.heap.size,2,none⟩=some (.string x.name))from fun W hW => by
   obtain⟨bs,bt,bu,bx,bz,b0,b4,b5,b7,HC⟩:=(a5.o.B hW).cells;exact⟨HC.shapeRun ks az,(hW.cell (p:=⟨w.heap.size,2,none⟩) lw).T p2⟩)
  have bb:=zq hI.rw_;have HE:=zq (Ak.emptyB (w:=n));have bq:¬ks=0:=by omega
  have br:0<ks:=by omega
  have hq:¬(0:Int)<(nD:Int):=by omega
  have a1:=hl.1;clear r0 r1 r2 ab K1 z1 h a4 hT hI e1 y u ag bi an hl a2 ac ao az;go_enter func61,ntmps61
  go_wp2_with fail
  try rw[z]
  clear z;go_wp2
  go_loopw [22,6,8,9,10] (fun i o _ _ _ wr =>∃(k:Nat) (A:Option Addr) (c3:Nat) (L:List UInt8),k<=l/\i=k/\o= .slice A L.length c3/\Hid (irF d gh x.rows k=some L)/\Hid (Ak 1 5 Al wr n o L [])/\Hid (Below n n wr)) (fun i _ _ _ _ _ => l - (intOf i).toNat)
  ·exact⟨0,_,0,[],by omega,rfl,rfl,rfl,HE.o,(aC _ _).alloc (aD _) _⟩
  ·obtain⟨k,A,c3,L,hk,rfl,rfl,HL,HO,HB⟩:=hrel;clear HE;have am:=HB.o.size;have r:=zq (show Below w w wr from ae.o.T (HB.o.M ae.o.size));by_cases bj:k<l
   ·have aa:k<x.rows.length:=by rw[aw.o];exact bj
    have cc:(k:Int)<(l:Int):=by omega
    obtain⟨ad,eA,-,b1,pc,-⟩:=bd.o k aa;subst eA;have ah:=bb.o _ (aT aa);obtain⟨m,hm⟩:∃m:Nat,x.rows[k] =(m:Int):=⟨x.rows[k].toNat,by omega⟩;have pk:=(r.o.cell (p:=ad.add k) b1).T pc;rw[hm]at pk ah;have av:=zq ah.2;have q0:=(af.o wr HB.o).1;have q2:=(af.o wr HB.o).2;cases hrf:Fc d gh m with
    |some D =>
     have ar:=zq (OG HL.o aa (b:=D) (by rw[hm,Int.toNat_natCast];exact hrf));have a8:=zq (aj.o (k+1) zZ _ ar.o);have bn:=bc.o (k+1) zZ;rw[<-a8.o,aU]at bn;have al:=zq (fun(W:World) (hW:Below wr wr W) =>(ax.o W (r.o.T (hW.M r.o.size)) m av.o).M (R':=fun e w' =>∃A c fs,e= .returned (.tuple #[.slice A D.length c,.bool true])/\Ah w' fs (.slice A D.length c) D/\AL W w' fs/\Below W W w') (by
      intro e w' hq;rw[hrf]at hq;rcases hq with⟨D',A,c,fs,e1,h2,h3,h4,h5⟩|⟨e1,-⟩
      ·injection e1 with e1;subst e1;exact⟨A,c,fs,h2,h3,h4,h5⟩
      ·cases e1))
     clear hrf pc b1 ah hm aa;go_wp2_with fail
     go_region_held3 (fun W => Sem.run prog (loadCellsFrom (zE p) 0 ks #[]) W= .ok d.s W/\W.cell? ⟨w.heap.size,2,none⟩=some (.string x.name))
      (exact af.o _ (HB.o.T (Below.M yG am)))
      (first
       |(go_at_call 112;refine(aq.o _).M ?_;rintro e w2 ⟨rfl,b2⟩;have B2:=Below.via (a:=wr) yG b2)
       |(go_at_call 111;refine(al.o _ yG).M ?_;rintro e w3 ⟨A6,c6,f6,rfl,r6,m6,b6⟩;have B3:=Below.via (a:=wr) yG b6))
     have a6:=zq (Tryz.appendBytes (wr:=wr) (W:=w3) (v:=.slice A L.length c3) HO.o am B3 r6 (fun a ha => by have h1:=m6.from_ a ha;have h2:=B2.size;first|omega|(simp at h1;omega)) zZ);have ap:=zq B3;clear r6 m6 b6 B3 q0 q2;go_wp2_with (at_builtin;refine An rfl (.tmp 41) (.tmp 42) 61 rfl _ _ zT zT a6.o ?_;rintro v8 w8 ⟨A8,c8,rfl,o8,b8,s8⟩;have O8:=zq o8;have B8:=zq b8;clear o8 b8 s8)
     go_roundw
     ·exact⟨k+1,A8,c8,L ++ D,by omega,by go_num,by rw[aU],ar.o,O8.o,HB.o.T B8.o⟩
     ·simp[intOf];omega
    |none =>
     have ba:=zq (show irF d gh x.rows l=none from by
      have h1:=OE (OF (g:=gh) aa (by rw[hm,Int.toNat_natCast];exact hrf)) (l - (k+1));rw[show k+1+(l - (k+1))=l from by omega]at h1;exact h1)
     have al:=zq (fun(W:World) (hW:Below wr wr W) =>(ax.o W (r.o.T (hW.M r.o.size)) m av.o).M (R':=fun e w' => e= .returned (.tuple #[zQ,.bool false])/\Below W W w') (by
      intro e w' hq;rw[hrf]at hq;rcases hq with⟨D',A,c,fs,e1,-⟩|⟨e1,h2,h3⟩
      ·cases e1
      ·exact⟨h2,h3⟩))
     clear hrf pc b1 ah hm aa;go_wp2_with fail
     go_region_held3 (fun W => Sem.run prog (loadCellsFrom (zE p) 0 ks #[]) W= .ok d.s W/\W.cell? ⟨w.heap.size,2,none⟩=some (.string x.name))
      (exact af.o _ (HB.o.T (Below.M yG am)))
      (first
       |(go_at_call 112;refine(aq.o _).M ?_;rintro e w2 ⟨rfl,b2⟩;have B2:=Below.via (a:=wr) yG b2)
       |(go_at_call 111;refine(al.o _ yG).M ?_;rintro e w3 ⟨rfl,b6⟩;have B3:=Below.via (a:=wr) yG b6))
     have ap:=zq B3;clear b6 B3 q0 q2;go_wp2
     go_ret2
     exact .inr ⟨by rw[ba.o];rfl,rfl,r.o.T (ap.o.M r.o.size)⟩
   ·obtain rfl:k=l:=by omega
    have bk:=aj.o k (by rw[aw.o];omega) _ HL.o;have a0:=a9.o;obtain⟨A',c',e9,b9,ca⟩:=HO.o.length;injection e9 with bg _ bh
    subst bg bh;obtain⟨xl,ai⟩:∃xl:Nat,x.length=(xl:Int):=⟨x.length.toNat,by omega⟩;rw[ai,Int.toNat_natCast]at a0;have bp:=(HB.o.cell (p:=⟨w.heap.size,3,none⟩) lw).T p3;rw[ai]at bp;have bo:xl<=L.length:=by omega
    obtain⟨gs,r8,m8⟩:=Ak.cutB (C:=xl) HO.o bo (aD _) zZ;have R8:=zq r8;have M8:=zq (m8.M (show w.heap.size<=n.heap.size from by omega));have ce:xl<=c3:=by omega
    have be:=zq ai;have ak:(L.take xl).length =xl:=by rw[aX];omega
    have au:=zq ak;clear bk a0 ai r8 m8 ak a1 p3;go_wp2
    go_ret2
    exact .inl ⟨L.take xl,A,xl,gs,by rw[HL.o,be.o];rfl,by rw[au.o];rfl,by rw[au.o];exact R8.o,M8.o,r.o⟩
theorem SA(p fs d x cs f w)(h:AtW w p fs d)(i:Af w f cs x)(e:Ck d)(c:GC d x):
  Calls prog 61 #[.pointer (some (zE p)),.agg cs] w (Iw (Du d x) w) :=
 SB 9 rfl sizeOf38 isAgg38 p fs d x cs f w h i e c
theorem EA {c x}(h:Mb c x):x∈c:=by
 obtain⟨k,f,e,-⟩:=h;exact e ▸ aT f
def BY(nm:ByteArray)(l g r:Int)(n0 n1 n2:Nat):Bool:=decide (nm=⟨#[]⟩) && (decide (l=0) && (decide (g=0) && (decide (r=0) && (decide (n0=0) && (decide (n1=0) && decide (n2=0))))))
theorem strE_f {a:ByteArray}(h:¬a=⟨#[]⟩):(a.toList == [])=false:=by
 have:=Fr (b:=⟨#[]⟩) h;simpa using this
theorem In(k q)(nm:ByteArray)(l g r u x y n0 n1 n2 c0 c1 c2)(w:World):
  Calls prog 129 #[.agg #[int i64 k,int i64 q,.string nm,int i64 l,int i64 g,int i64 r,.slice u n0 c0,.slice x n1 c1,.slice y n2 c2]] w (zN (.bool (BY nm l g r n0 n1 n2)) w):=by
 have c:=zq (show Below w w (w.alloc (.cells #[int i64 k,int i64 q,.string nm,int i64 l,int i64 g,int i64 r,.slice u n0 c0,.slice x n1 c1,.slice y n2 c2] 105))from Ac (aC _ _) _);unfold BY;by_cases f:nm=⟨#[]⟩
 case neg =>
  rw[aG f];rw[Bool.false_and];have z0:=strE_f f;have z:=Fr (b:=⟨#[]⟩) f;clear f;go_enter func129,ntmps129
  go_wp2
  go_ret
  exact⟨rfl,c.o⟩
 rw[aN f];rw[Bool.true_and];subst f;by_cases h:l=0
 case neg =>
  rw[aG h];rw[Bool.false_and];have z1:(l == 0)=false:=Dp h;clear h;go_enter func129,ntmps129
  go_wp2
  go_ret
  exact⟨rfl,c.o⟩
 rw[aN h];rw[Bool.true_and];subst h;by_cases i:g=0
 case neg =>
  rw[aG i];rw[Bool.false_and];have z2:(g == 0)=false:=Dp i;clear i;go_enter func129,ntmps129
  go_wp2
  go_ret
  exact⟨rfl,c.o⟩
 rw[aN i];rw[Bool.true_and];subst i;by_cases n:r=0
 case neg =>
  rw[aG n];rw[Bool.false_and];have z3:(r == 0)=false:=Dp n;clear n;go_enter func129,ntmps129
  go_wp2
  go_ret
  exact⟨rfl,c.o⟩
 rw[aN n];rw[Bool.true_and];subst n;by_cases h4:n0=0
 case neg =>
  rw[aG h4];rw[Bool.false_and];have z4:=FB h4;clear h4;go_enter func129,ntmps129
  go_wp2
  go_ret
  exact⟨rfl,c.o⟩
 rw[aN h4];rw[Bool.true_and];subst h4;by_cases p:n1=0
 case neg =>
  rw[aG p];rw[Bool.false_and];have z5:=FB p;clear p;go_enter func129,ntmps129
  go_wp2
  go_ret
  exact⟨rfl,c.o⟩
 rw[aN p];rw[Bool.true_and];subst p;by_cases s:n2=0
 case neg =>
  rw[aG s];have z6:=FB s;clear s;go_enter func129,ntmps129
  go_wp2
  go_ret
  exact⟨rfl,c.o⟩
 rw[aN s];subst s;go_enter func129,ntmps129
 go_wp2
 go_ret
 exact⟨rfl,c.o⟩
theorem Jf {s}:∀ {l:List Aj},Bi s l=0->∀r,r∈l->AJ s r=0
 | [],_,r,hr => by cases hr
 |x :: l,h,r,hr => by
  unfold Bi at h;split at h
  ·rename_i c
   rcases List.mem_cons.1 hr with rfl|hr
   ·exact c
   ·exact Jf h r hr
  ·rename_i c;exact absurd h c
theorem Pd {s}{r:Aj}(h:AJ s r=0)(c:r.kind=2):Ee s r=true:=by
 by_cases hm:Ee s r=true
 ·exact hm
 ·have e:Bj s r=3:=by unfold Bj;rw[aJ zZ,aM c,aJ hm]
  unfold AJ at h;rw[aM (by rw[c];rfl),e]at h;split at h <;> simp at h
theorem kind4 {x:Aj}(h:Ap x.kind 1 4=true):x.kind=1∨x.kind=2∨x.kind=3∨x.kind=4:=by
 have:=BF h;omega
theorem Ei {s}{x:Aj}(c:Ap x.kind 1 4=true)(hq:Ap x.seq 1 1000000000=true):AJ s x=if Bj s x=0 then(if Fo x=true then 0 else 1)else Bj s x:=by
 unfold AJ;rw[aM c,aM hq]
theorem TJ {s}{x:Aj}(f:x.kind=1)(hq:Ap x.seq 1 1000000000=true):(if CJ x.name.data.toList=true then(if Cv s x=true then(if BY ⟨#[]⟩ 0 x.group x.row 0 0 x.delta.length=true then 0 else 1)else 3)else 5)=AJ s x:=by
 rw[Ei (by rw[f];rfl) hq];have h:Bj s x=(if CJ x.name.data.toList=true then(if Cv s x=true then 0 else 3)else 5):=by unfold Bj;rw[aM f]
 have i:Fo x=BY ⟨#[]⟩ 0 x.group x.row 0 0 x.delta.length:=by
  unfold Fo BY;rw[aM f,Bool.eq_iff_iff];simp[List.length_eq_zero_iff]
 rw[h,i];by_cases c:CJ x.name.data.toList=true
 ·by_cases e:Cv s x=true
  ·rw[aM c,aM c,aM e,aM e,aM rfl]
  ·rw[aM c,aM c,aJ e,aJ e,aJ zW]
 ·rw[aJ c,aJ c,aJ zW]
theorem TK {s}{x:Aj}(e:x.kind=2)(hq:Ap x.seq 1 1000000000=true):(if Ee s x=true then(if BY x.name x.length 0 0 x.rows.length 0 0=true then 0 else 1)else 3)=AJ s x:=by
 rw[Ei (by rw[e];rfl) hq];have f:Bj s x=(if Ee s x=true then 0 else 3):=by unfold Bj;rw[aJ zZ,aM e]
 have h:Fo x=BY x.name x.length 0 0 x.rows.length 0 0:=by
  unfold Fo BY;rw[aJ zZ,aM e,Bool.eq_iff_iff];simp[List.length_eq_zero_iff]
 rw[f,h];by_cases c:Ee s x=true
 ·rw[aM c,aM c,aM rfl]
 ·rw[aJ c,aJ c,aJ zW]
theorem TL {s:Sh}{x:Aj}(f:x.kind=3)(hq:Ap x.seq 1 1000000000=true):(if Ap x.group 0 (s.g+s.c - 1)=true then(if BY x.name x.length 0 x.row x.rows.length x.data.length x.delta.length=true then 0 else 1)else 3)=AJ s x:=by
 rw[Ei (by rw[f];rfl) hq];have h:Bj s x=(if Ap x.group 0 (s.g+s.c - 1)=true then 0 else 3):=by unfold Bj;rw[aJ zZ,aJ zZ,aM f];rfl
 have i:Fo x=BY x.name x.length 0 x.row x.rows.length x.data.length x.delta.length:=by
  unfold Fo BY;rw[aJ zZ,aJ zZ,aM f,Bool.eq_iff_iff];simp[List.length_eq_zero_iff]
 rw[h,i];by_cases e:Ap x.group 0 (s.g+s.c - 1)=true
 ·rw[aM e,aM e,aM rfl]
 ·rw[aJ e,aJ e,aJ zW]
theorem TM {s}{x:Aj}(h:x.kind=4)(hq:Ap x.seq 1 1000000000=true):(if Cs s x=true then(if BY x.name x.length 0 0 0 0 0=true then 0 else 1)else 3)=AJ s x:=by
 rw[Ei (by rw[h];rfl) hq];have e:Bj s x=(if Cs s x=true then 0 else 3):=by unfold Bj;rw[aJ zZ,aJ zZ,aJ zZ]
 have f:Fo x=BY x.name x.length 0 0 0 0 0:=by
  unfold Fo BY;rw[aJ zZ,aJ zZ,aJ zZ,Bool.eq_iff_iff];simp
 rw[e,f];by_cases c:Cs s x=true
 ·rw[aM c,aM c,aM rfl]
 ·rw[aJ c,aJ c,aJ zW]
def DU(r:Aj):Aj :=
 if r.kind=1 then⟨r.kind,r.seq,r.name,r.length,0,0,r.rows,r.data,[]⟩else if r.kind=2 then⟨r.kind,r.seq,⟨#[]⟩,0,r.group,r.row,[],r.data,r.delta⟩
 else if r.kind=3 then⟨r.kind,r.seq,⟨#[]⟩,0,r.group,0,[],[],[]⟩else⟨r.kind,r.seq,⟨#[]⟩,0,r.group,r.row,r.rows,r.data,r.delta⟩
theorem Hb(r:Aj):Fo r=decide (r=DU r):=by
 obtain⟨k,q,nm,l,g,n,o,h,i⟩:=r;unfold Fo DU;by_cases c:k=1
 ·subst c;rw[Bool.eq_iff_iff];simp
 ·by_cases e:k=2
  ·subst e;rw[Bool.eq_iff_iff];simp
  ·by_cases f:k=3
   ·subst f;rw[Bool.eq_iff_iff];simp
   ·rw[Bool.eq_iff_iff];simp[c,e,f]
theorem two_of {α}:∀ {l:List α},l.length=2->∃a b,l= [a,b]
 | [a,b],_ =>⟨a,b,rfl⟩
 | [],h => by simp at h
 | [_],h => by simp at h
 |_ :: _ :: _ :: _,h => by simp only[List.length_cons]at h;omega
theorem FW {d:As}(h:AI d=0):Ck d:=by
 unfold AI at h;by_cases p:shB d.s.sh=true
 ·rw[aM p]at h;by_cases hb:(BU d.s.sh d.g && (onB d.s.sh d.on d.down && decide (d.v.length=2)))=true
  ·rw[aM hb]at h;simp only[Bool.and_eq_true,bG]at hb;obtain⟨hb,-,r⟩:=hb;have f:BG d.s.sh d.v=0:=by
    by_cases f:BG d.s.sh d.v=0
    ·exact f
    ·rw[aJ f]at h;exact h
   clear h;unfold BG at f;by_cases hm:d.v.any (fun t => decide (200<t.recs.length))=true
   ·rw[aM hm]at f;exact absurd f zW
   ·rw[aJ hm]at f;have l:Bi d.s.sh (d.v.flatMap Be.recs)=0:=by
     by_cases l:Bi d.s.sh (d.v.flatMap Be.recs)=0
     ·exact l
     ·rw[aJ l]at f;exact f
    unfold BU at hb;simp only[Bool.and_eq_true,bG,List.all_eq_true]at hb;obtain⟨hg,hb⟩:=hb;have c:∀g,g<d.g.length->DO d.s.sh (AD d g)=true:=fun g hg => by
     have e:AD d g=d.g[g]:=by simp[AD,aP,hg]
     rw[e];exact hb _ (aT hg)
    unfold DO at c;simp only[Bool.and_eq_true,bG,List.all_eq_true]at c;unfold Dq at c;simp only[Bool.and_eq_true,bG,List.all_eq_true]at c;unfold CX at c;simp only[Bool.and_eq_true,bG]at c;refine⟨De p,hg,fun g hg =>(c g hg).1,fun g hg n i =>((c g hg).2 n i).1,fun g hg n i b hb =>(((c g hg).2 n i).2 b hb).2,r,?_,fun m hm y => ?_⟩
    ·obtain⟨a,b,e⟩:=two_of r;unfold Dk;rw[e]at hm⊢;simp only[List.any_cons,List.any_nil,Bool.or_false,Bool.or_eq_true,bG,not_or]at hm;simp only[List.flatMap_cons,List.flatMap_nil,List.append_nil,aU];omega
    ·have o:=Pd (Jf l m hm) y;unfold Ee at o;simp only[Bool.and_eq_true,bG]at o;obtain⟨u,-,h4,x⟩:=o;have q:=BF u;have e:d.s.sh.g=d.s.g:=rfl;rw[e]at q;exact⟨q.1,by omega,h4,x⟩
  ·rw[aJ hb]at h;exact absurd h zW
 ·rw[aJ p]at h;exact absurd h zW
theorem recs_ok {d:As}(h:AI d=0):∀r,r∈Dk d->AJ d.s.sh r=0:=by
 unfold AI at h;by_cases f:shB d.s.sh=true
 ·rw[aM f]at h;by_cases hb:(BU d.s.sh d.g && (onB d.s.sh d.on d.down && decide (d.v.length=2)))=true
  ·rw[aM hb]at h;have c:BG d.s.sh d.v=0:=by
    by_cases c:BG d.s.sh d.v=0
    ·exact c
    ·rw[aJ c]at h;exact h
   unfold BG at c;by_cases hm:d.v.any (fun t => decide (200<t.recs.length))=true
   ·rw[aM hm]at c;exact absurd c zW
   ·rw[aJ hm]at c;have e:Bi d.s.sh (d.v.flatMap Be.recs)=0:=by
     by_cases e:Bi d.s.sh (d.v.flatMap Be.recs)=0
     ·exact e
     ·rw[aJ e]at c;exact c
    exact Jf e
  ·rw[aJ hb]at h;exact absurd h zW
 ·rw[aJ f]at h;exact absurd h zW
theorem Oj {d:As}(h:AI d=0):∀r,r∈AU d->AJ d.s.sh r=0:=fun r hr => recs_ok h r (Fj _ _ rfl r hr)
theorem Hv {s}{r:Aj}(h:AJ s r=0)(c:r.kind=1):CJ r.name.data.toList=true/\Cv s r=true:=by
 by_cases hn:CJ r.name.data.toList=true
 ·by_cases hm:Cv s r=true
  ·exact⟨hn,hm⟩
  ·have e:Bj s r=3:=by unfold Bj;rw[aM c,aM hn,aJ hm]
   unfold AJ at h;rw[aM (by rw[c];rfl),e]at h;split at h <;> simp at h
 ·have e:Bj s r=5:=by unfold Bj;rw[aM c,aJ hn]
  unfold AJ at h;rw[aM (by rw[c];rfl),e]at h;split at h <;> simp at h
theorem J5 {nm:ByteArray}(h:CJ nm.data.toList=true):nm.size<=8:=by
 unfold CJ at h;simp only[Bool.and_eq_true,bG]at h;have c:=h.2.2;simp at c;exact c
theorem names_of {d:As}(h:AI d=0):∀r,r∈AU d->r.name.size<=1000000:=fun r hr => by
 have c:=Oj h r hr;by_cases e:r.kind=1
 ·have:=J5 (Hv c e).1;omega
 ·have i:r.name=⟨#[]⟩:=by
   unfold AJ at c;split at c
   ·split at c
    ·split at c
     ·split at c
      ·rename_i hr
       unfold Fo at hr;rw[aJ e]at hr;split at hr
       ·simp only[bG]at hr;exact hr.1
       ·split at hr
        ·simp only[bG]at hr;exact hr.1
        ·simp only[bG]at hr;exact hr.1
      ·simp at c
     ·rename_i f;exact absurd c f
    ·simp at c
   ·simp at c
  rw[i];exact Nat.zero_le _
theorem GF {d:As}(h:AI d=0){x:Aj}(hx:x∈AU d)(i:x.kind=1)(z:x.length≠ -1):GC d x/\0<=x.length:=by
 obtain⟨hn,c⟩:=Hv (Oj h x hx) i;have ab:=J5 hn;have n:=FW h;have y:=n.ok.data;unfold Cv at c;rw[aJ z]at c;simp only[Bool.and_eq_true]at c;obtain⟨f,c⟩:=c;unfold Ef at f;simp only[bG]at f;have aa:=(J8 n.ok f.1).2 f.2;have o:d.s.sh.data=d.s.data:=rfl;have p:d.s.sh.rows=d.s.rows:=rfl;by_cases q:0<x.data.length
 ·rw[aM q]at c;simp only[Bool.and_eq_true,bG]at c;exact⟨⟨by omega,by omega,by omega,fun r hr =>(by rw[List.length_eq_zero_iff.1 c.2]at hr;cases hr),fun e => by omega⟩,by omega⟩
 ·rw[aJ q]at c;simp only[Bool.and_eq_true,bG]at c;obtain⟨hr,l⟩:=c;unfold DA at l;simp only[bG]at l;refine⟨⟨by omega,by omega,by omega,fun r hm => ?_,fun _ =>⟨by omega,?_⟩⟩,by omega⟩
  ·obtain⟨k,i,rfl⟩:=aY hm;have:=BF (l k i i).1;rw[p]at this;omega
  ·rw[hr];unfold Dd;rw[o]at f y⊢;have h1:=Int.emod_add_mul_ediv (x.length - 1) (4 * d.s.data);have h2:=Int.emod_lt_of_pos (x.length - 1) (show 0<4 * d.s.data by omega);have u:((x.length - 1) / (4 * d.s.data)+1) * (4 * d.s.data)=4 * d.s.data * ((x.length - 1) / (4 * d.s.data))+4 * d.s.data:=by
    rw[Int.add_mul,Int.one_mul,Int.mul_comm]
   rw[u];omega
end Go.Proofs.YtofeknacbdcoaaaGreatDoor
namespace Go.Proofs.YtofeknacbdcoaaaGreatDoor
open Go.RowKit
structure Th where
 name:ByteArray
 lost:Bool
 bytes:List UInt8
deriving DecidableEq
def rTh:AC Th:=fun w fs cs d =>∃v,cs= [.string d.name,.bool d.lost,v]/\d.name.size<=9223372036854775807/\Ah w fs v d.bytes
theorem rTh.L:BE rTh:=fun _ _ _ _ _ ⟨v,e,hn,h⟩ c =>⟨v,e,hn,rSl.keep Al.L h c⟩
theorem rTh.X:BN rTh:=fun _ _ _ _ ⟨_,_,_,h⟩ => rSl.there Al.X h
abbrev F8 (w:World) (fs:List Addr) (v:Value) (ds:List Th):Prop:=rSl 3 rTh w fs v ds
theorem F8.B {w w' fs v ds}(h:F8 w fs v ds)(hb:Below w w w'):F8 w' fs v ds:=rSl.B rTh.L rTh.X h hb
def AtTh(w:World)(p:Addr)(d:Th)(A:Option Addr)(c:Nat):Prop :=
 w.cell? p=some (.string d.name)/\w.cell? ⟨p.block,p.off+1,none⟩=some (.bool d.lost)/\w.cell? ⟨p.block,p.off+2,none⟩=some (.slice A d.bytes.length c)
theorem AtTh.B {B w w' p d A c}(h:AtTh w p d A c)(hb:Below B w w')(e:p.block<B):AtTh w' p d A c :=
 ⟨(hb.cell e).T h.1,(hb.cell (p:=⟨p.block,p.off+1,none⟩) e).T h.2.1,(hb.cell (p:=⟨p.block,p.off+2,none⟩) e).T h.2.2⟩
theorem F8.open_ {w fs v ds}(h:F8 w fs v ds):
  ∃A c,v= .slice A ds.length c/\ds.length<=c/\c<=9223372036854775807/\∀k,(o:k<ds.length)->∃f i c2 fk,A=some f/\(f.add (k * 3)).block <w.heap.size/\
   AtTh w (f.add (k * 3)) ds[k] i c2/\ds[k].name.size<=9223372036854775807/\Ah w fk (.slice i ds[k].bytes.length c2) ds[k].bytes/\FJ fk w/\(∀a,a∈fk->a∈fs)/\(∀q,q<3->f.add (k * 3+q)∈fs):=by
 obtain⟨A,c,e,z,h2,n⟩:=h;refine⟨A,c,e,z,by omega,fun k o => ?_⟩;rcases n with⟨rfl,_⟩|⟨f,x,l,y,e2,e3,u,n⟩
 ·cases o
 ·obtain⟨q1,q2,q3,r,v2,q6,q7,s⟩:=n k o;obtain⟨i,c2,rfl,-⟩:=s.form;have p:=r 0 zZ;have p1:=r 1 zZ;have p2:=r 2 zZ;simp only[q6,aW,bF,bC]at p p1 p2;rw[NY f (k * 3) 0]at p1;rw[NY f (k * 3) 1]at p2;refine⟨f,i,c2,l[k],y,World.block_lt_of_cell? _ _ p,⟨p,p1,p2⟩,q7,s,rSl.there Al.X s,fun a ha => ?_,fun q hq => ?_⟩
  ·rw[u];exact bO _ (List.mem_flatten.2 ⟨_,aT q2,ha⟩)
  ·rw[u];exact bM _ (Bt.2 ⟨k * 3+q,by omega,rfl⟩)
def Ms:List Th->Nat
 | [] => 0
 |d :: r => d.name.size+d.bytes.length+Ms r
end Go.Proofs.YtofeknacbdcoaaaGreatDoor
namespace Go.Proofs.YtofeknacbdcoaaaGreatDoor
open Go.RowKit Go.Sort
theorem strNe_t {a b:ByteArray}(h:a≠b):(!a.toList == b.toList)=true:=by
 have:a.toList≠b.toList:=fun e => h (WideShapes.bytes_inj (by rwa [ByteArray.toList_eq,ByteArray.toList_eq]at e))
 simpa using this
end Go.Proofs.YtofeknacbdcoaaaGreatDoor
namespace Go.Proofs.YtofeknacbdcoaaaGreatDoor
open Go.RowKit
end Go.Proofs.YtofeknacbdcoaaaGreatDoor
namespace Go.Proofs.YtofeknacbdcoaaaGreatDoor
open Go.RowKit Go.Sort
def markOne(k:Nat)(d:Th):Th:=⟨mkT k,decide ((k+1) % 3=0),mkBytes (k+2) d.bytes.length⟩
def markTh:Nat->List Th->List Th
 |_,[] => []
 |k,d :: r => markOne k d :: markTh (k+2+d.bytes.length) r
def stage(k:Nat)(ds:List Th)(j:Nat):List Th:=markTh k (ds.take j) ++ ds.drop j
end Go.Proofs.YtofeknacbdcoaaaGreatDoor
namespace Go.Proofs.YtofeknacbdcoaaaGreatDoor
open Go.RowKit Go.Lib Go.Sort
def Dy(d:As)(x:Aj):Th:=⟨x.name,(Du d x).isNone,(Du d x).getD []⟩
theorem NG {d}{x:Aj}{M:List UInt8}(h:Du d x=some M):Dy d x=⟨x.name,false,M⟩:=by unfold Dy;rw[h];rfl
theorem NF {d}{x:Aj}(h:Du d x=none):Dy d x=⟨x.name,true,[]⟩:=by unfold Dy;rw[h];rfl
def TrS(d:As)(X:Int × List Th):Prop:=(AI d=0/\∃L,Eb (AU d) L/\X=(0,L.map (Dy d)))∨(¬AI d=0/\X=(AI d,[]))
theorem TrS.ok {d}{X:Int × List Th}(h:TrS d X)(hw:AI d=0):∃L,Eb (AU d) L/\X=(0,L.map (Dy d)):=by
 rcases h with⟨_,h⟩|⟨h,_⟩
 ·exact h
 ·exact absurd hw h
theorem TrS.bad {d}{X:Int × List Th}(h:TrS d X)(hw:¬AI d=0):X=(AI d,[]):=by
 rcases h with⟨h,_⟩|⟨_,h⟩
 ·exact absurd h hw
 ·exact h
theorem Pa(r)(c:List Aj):∀a,a<=c.length->(∀q,(hq:q<c.length)->a<=q->F7 r c[q] =true)->∃a,a<=c.length/\(∀q,(hq:q<c.length)->a<=q->F7 r c[q] =true)/\(a=0∨∃(l:a - 1<c.length),F7 r c[a - 1] =false)
 |0,h,h1 =>⟨0,h,h1,.inl rfl⟩
 |a+1,h,h1 => by
  cases e:F7 r c[a]with
  |true =>
   refine Pa r c a zZ fun q hq i => ?_
   by_cases f:q=a
   ·subst f;exact e
   ·exact h1 q hq zZ
  |false => exact⟨a+1,h,h1,.inr ⟨by omega,e⟩⟩
theorem QK(c:List Aj):∀i,i<=c.length->∃e,Da c i e
 |0,_ =>⟨[],.start c⟩
 |i+1,h => by
  obtain⟨e,f⟩:=QK c i zZ;by_cases q:c[i].kind =1/\c[i].length≠ -1/\CU c c[i].name c.length=(i:Int)
  ·obtain⟨a,o,l,n⟩:=Pa c[i] e e.length (aD _) (fun q hq h => by omega);exact⟨_,f.put zZ rfl q.1 q.2.1 q.2.2 o l n⟩
  ·exact⟨e,f.skip zZ q⟩
theorem Il {d:As}(h:AI d=0){x:Aj}(p:x∈AU d)(l:x.kind=1)(n:x.length≠ -1):x.name.size<=8/\x.data.length<=100:=by
 obtain⟨hn,c⟩:=Hv (Oj h x p) l;have e:=J5 hn;have i:=FW h;have y:=i.ok.data;unfold Cv at c;rw[aJ n]at c;simp only[Bool.and_eq_true]at c;obtain⟨f,c⟩:=c;unfold Ef at f;simp only[bG]at f;have o:=(J8 i.ok f.1).2 f.2;have r:d.s.sh.data=d.s.data:=rfl;have u:d.s.sh.rows=d.s.rows:=rfl;by_cases q:0<x.data.length
 ·rw[aM q]at c;simp only[Bool.and_eq_true,bG]at c;exact⟨e,by omega⟩
 ·exact⟨e,by omega⟩
theorem KD {d}(f:Ck d){x}(i:GC d x)(o:x.data.length<=100):((Du d x).getD []).length<=100:=by
 unfold Du;by_cases q:0<x.data.length
 ·rw[aM q];exact o
 ·rw[aJ q];have n:=Hl (nm:=x.name) (show 0<d.s.g from by have:=f.ok.g.1;simp only[Bh.sh]at this;omega);cases e:irF d (EF d.s.g x.name).toNat x.rows x.rows.length with
  |none => exact Nat.zero_le _
  |some M =>
   have l:=G7 f (g:=(EF d.s.g x.name).toNat) (by have l:=f.gl;have h:=f.ok.c.1;simp only[Bh.sh]at h;omega) i.rw_ _ (aD _) M e;have h:=f.ok.data;simp only[Bh.sh]at h;have p:x.rows.length * (4 * d.s.data.toNat)<=6 * (4 * 3):=Nat.mul_le_mul i.rl zZ;simp only[Option.map_some,Option.getD_some,aX];omega
theorem NH(f:Aj->Th):∀L:List Aj,(∀x,x∈L->(f x).name.size +(f x).bytes.length<=108)->Ms (L.map f)<=108 * L.length
 | [],_ => by simp[Ms]
 |x :: L,h => by
  have e:=NH f L fun y c => h y (List.mem_cons_of_mem _ c)
  have i:=h x (List.mem_cons_self ..);simp only[List.map_cons,Ms,List.length_cons];omega
theorem TrS.small {d}{X:Int × List Th}(h:TrS d X):X.2.length+Ms X.2<=10000000000:=by
 by_cases hw:AI d=0
 ·obtain⟨L,c,rfl⟩:=h.ok hw;have l:=FW hw;have q:L.length<=(AU d).length:=FU _ _ (c.sorted.imp (fun {a b} f e => by subst e;exact E7 a f)) fun x i => EA ((c.mem x).1 i)
  have r:=FP d;have s:=l.sm;have h4:=NH (Dy d) L fun x i => by
   have o:=(c.mem x).1 i;have n:=EA o;obtain⟨k,u,e,k1,k2,-⟩:=o;obtain⟨y,p⟩:=Il hw n k1 k2;have z:=KD l (GF hw n k1 k2).1 p;show x.name.size+((Du d x).getD []).length<=108
   omega
  simp only[bH];omega
 ·rw[h.bad hw];exact Nat.zero_le _
theorem thForm {w fs v ds}(h:F8 w fs v ds):∃A c,v= .slice A ds.length c:=by
 obtain⟨A,c,e,-⟩:=F8.open_ h;exact⟨A,c,e⟩
