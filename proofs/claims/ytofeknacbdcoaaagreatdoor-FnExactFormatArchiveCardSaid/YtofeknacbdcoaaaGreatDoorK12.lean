/- Part 12 of the proof. -/
import Derived.Test.YtofeknacbdcoaaaGreatDoorK09
import Derived.Lib.SliceRun
import Derived.RangeFuncNested
import Derived.RangeFuncBound
import Derived.RangeFuncCalls
import Derived.RangeFuncLeaves
import Derived.Shelf.Abstract
import Derived.WalkKit
import Derived.OwnWalkIn
import Derived.TacticsInMore
import Derived.LoopNIn
import Derived.LoopIn
set_option maxHeartbeats 8000000
set_option maxRecDepth 100000
set_option linter.unusedVariables false
set_option linter.unusedSimpArgs false
open Go.Proofs.Tryz
open Go.Value (int)
open Go.IntKind (i64)
namespace Go.Proofs.YtofeknacbdcoaaaGreatDoor
open Go.RowKit Go.Lib Go.Sort
def CB(c:Int)(e:List Aj)(group:Int)(x:Aj):Bool:=decide (x.kind=2) && ((decide (c<=group)||decide (x.group=group)) && !G1 e x.seq group)
theorem Ug(ks:Nat)(ai:ks=9)(zS:∀w,(Go.sizeOf 38).run prog w= .ok ks w)(aS:∀w,(isAgg 38).run prog w= .ok true w)(x cs f)(p b1 b2 b3 n c:Nat)(A fs fa d)(z:List Aj)(group:Int)(w)(hx:Af w f cs x)(hw:AtW w p fs d)(an:d.s.sh.Ok)(am:0<=group)(h1:w.cell? ⟨b1,0,none⟩=some (.pointer (some (zE p))))(h2:w.cell? ⟨b2,0,none⟩=some (int i64 group))(h3:w.cell? ⟨b3,0,none⟩=some (.slice A n c))(ha:rSl 9 Af w fa (.slice A n c) z):
  Calls prog 279 #[.agg cs,.pointer (some (zE b1)),.pointer (some (zE b2)),.pointer (some (zE b3))] w (zN (.bool (!CB d.s.g z group x)) w):=by
 obtain⟨A0,A1,A2,c0,c1,c2,f0,f1,f2,h⟩:=hw.cells;obtain⟨x0,x1,x2,x3,x4,x5,x6,x7,x8⟩:=x;dsimp only[Af]at hx;obtain⟨v0,v1,v2,g0,g1,g2,e,-⟩:=hx;subst e;obtain⟨l,af⟩:∃l,w.alloc (.cells #[int i64 x0,int i64 x1,.string x2,int i64 x3,int i64 x4,int i64 x5,v0,v1,v2] 105)=l:=zJ;have hB:Below w w l:=by rw[<-af];exact(aC _ _).alloc (aD _) _
 have K:Blk l w 105 #[int i64 x0,int i64 x1,.string x2,int i64 x3,int i64 x4,int i64 x5,v0,v1,v2]:=by rw[<-af];exact Blk.new w _ _
 have q0:=aB (w:=l) (a:=⟨w.heap.size,0,none⟩) ((K.cell 0).T rfl);have q1:=aB (w:=l) (a:=⟨w.heap.size,1,none⟩) ((K.cell 1).T rfl);have q4:=aB (w:=l) (a:=⟨w.heap.size,4,none⟩) ((K.cell 4).T rfl);have r1:=aB (w:=l) ((hB.cell (p:=⟨b1,0,none⟩) (World.block_lt_of_cell? _ _ h1)).T h1);have r2:=aB (w:=l) ((hB.cell (p:=⟨b2,0,none⟩) (World.block_lt_of_cell? _ _ h2)).T h2);have r3:=aB (w:=l) ((hB.cell (p:=⟨b3,0,none⟩) (World.block_lt_of_cell? _ _ h3)).T h3);have ak:=hw.B hB;obtain⟨au,ap,al,ao⟩:=ak;have lS:∀dd os,Sem.run prog (loadCellsFrom (zE p) 0 ks #[]) (grow (redrawn l dd) os)= .ok d.s (grow (redrawn l dd) os):=fun dd os =>
  run_loadCellsFrom_list _ _ _ d.s ks (by rw[ai];rfl) (fun q v hq => by
   rw[Addr.add_lit];refine aB (w:=l) ?_ dd os;have r:=fun q => hB.cell (p:=⟨p,q,none⟩) h.lt
   match q,hq with
   |0,hq => simp at hq;subst hq;exact(r 0).T h.n0
   |1,hq => simp at hq;subst hq;exact(r 1).T h.n1
   |2,hq => simp at hq;subst hq;exact(r 2).T h.n2
   |3,hq => simp at hq;subst hq;exact(r 3).T h.n3
   |4,hq => simp at hq;subst hq;exact(r 4).T h.n4
   |5,hq => simp at hq;subst hq;exact(r 5).T h.n5
   |6,hq => simp at hq;subst hq;exact(r 6).T h.n6
   |7,hq => simp at hq;subst hq;exact(r 7).T h.n7
   |8,hq => simp at hq;subst hq;exact(r 8).T h.n8
   |q+9,hq => simp at hq)
 have ah:∀dd os,Calls prog 202 #[.agg d.s,int i64 group] (grow (redrawn l dd) os) fun e ae => e= .returned (.bool (Ap group 0 (d.s.g - 1)))/\∃p:Regrown,ae=grow (redrawn l p.d) p.os :=
  fun dd os => Calls.regrown_of (Hq d.s.sh an group _)
 have ad:∀dd os,Calls prog 280 #[.slice A n c,int i64 x1,int i64 group] (grow (redrawn l dd) os) fun e ae => e= .returned (.bool (G1 z x1 group))/\∃p:Regrown,ae=grow (redrawn l p.d) p.os :=
  fun dd os => Calls.regrown_of (isDone_c _ z fa x1 group _ (rSl.B Af.L Af.X (rSl.B Af.L Af.X ha hB) (aI l dd os)))
 obtain⟨rb,ab⟩:∃rb,(!CB d.s.g z group ⟨x0,x1,x2,x3,x4,x5,x6,x7,x8⟩)=rb:=zJ;rw[ab];unfold CB at ab;simp only at ab;obtain⟨bd,ag⟩:∃bd,G1 z x1 group=bd:=zJ;rw[ag]at ab ad;have aq:¬ks=0:=by omega
 have ar:0<ks:=by omega
 obtain⟨HB,HE,HD,u⟩:=zH hB ad ah ab;have av:p<w.heap.size:=h.lt;clear ag ap al ao h hw ha h1 h2 h3 hB K ah ad ab ai;by_cases qk:x0=2
 ·by_cases qg:group<d.s.g
  ·have aa:Ap group 0 (d.s.g - 1)=true:=FD am zZ;rw[aa]at HD;by_cases qe:x4=group
   ·have e1:rb=bd:=by rw[<-u.o];simp[qk,qe]
    subst e1;have hk:(x0 != 2)=false:=by simpa using qk
    have he:(x4 != group)=false:=by simpa using qe
    clear qk qg qe aa u;go_enter func279,ntmps279
    go_wp2_with fail
    refine aF zY zY ?_;repeat(first|go_big_quiet_step (first|exact HE.o _ _|exact HD.o _ _)|quiet_step (first|exact HE.o _ _|exact HD.o _ _))
    refine aQ ?_;intro _ y;obtain⟨⟨dq,osq⟩,i⟩:=y;subst i;go_wp2
    go_ret
    exact⟨rfl,HB.o.T ((aI l dq osq).M HB.o.size)⟩
   ·have ac:¬d.s.g<=group:=by omega
    have e1:rb=true:=by rw[<-u.o];simp[qk,qe,ac]
    subst e1;have hk:(x0 != 2)=false:=by simpa using qk
    have he:(x4 != group)=true:=by simpa using qe
    clear qk qg qe aa u ac;go_enter func279,ntmps279
    go_wp2_with fail
    refine aF zY zY ?_;repeat(first|go_big_quiet_step (first|exact HE.o _ _|exact HD.o _ _)|quiet_step (first|exact HE.o _ _|exact HD.o _ _))
    refine aQ ?_;intro _ y;obtain⟨⟨dq,osq⟩,i⟩:=y;subst i;go_wp2
    go_ret
    exact⟨rfl,HB.o.T ((aI l dq osq).M HB.o.size)⟩
  ·have aa:Ap group 0 (d.s.g - 1)=false:=Gp zZ;rw[aa]at HD;have aj:d.s.g<=group:=by omega
   have e1:rb=bd:=by rw[<-u.o];simp[qk,aj]
   subst e1;have hk:(x0 != 2)=false:=by simpa using qk
   clear qk qg aa u aj;go_enter func279,ntmps279
   go_wp2_with fail
   refine aF zY zY ?_;repeat(first|go_big_quiet_step (first|exact HE.o _ _|exact HD.o _ _)|quiet_step (first|exact HE.o _ _|exact HD.o _ _))
   refine aQ ?_;intro _ y;obtain⟨⟨dq,osq⟩,i⟩:=y;subst i;go_wp2
   go_ret
   exact⟨rfl,HB.o.T ((aI l dq osq).M HB.o.size)⟩
 ·have e1:rb=true:=by rw[<-u.o];simp[qk]
  subst e1;have hk:(x0 != 2)=true:=by simpa using qk
  clear qk u;go_enter func279,ntmps279
  go_wp2_with fail
  refine aF zY zY ?_;repeat(first|go_big_quiet_step (first|exact HE.o _ _|exact HD.o _ _)|quiet_step (first|exact HE.o _ _|exact HD.o _ _))
  refine aQ ?_;intro _ y;obtain⟨⟨dq,osq⟩,i⟩:=y;subst i;go_wp2
  go_ret
  exact⟨rfl,HB.o.T ((aI l dq osq).M HB.o.size)⟩
theorem PF(v ds f w)(h:rSl 9 Af w f v ds)(hn:ds.length<=1000000):
  Calls prog 278 #[v] w fun e w' =>∃v' fs,e= .returned v'/\Ak 9 105 Af w' w v' ds fs/\(∀a,a∈fs->a.block<w.heap.size)/\Below w w w':=by
 have y:=rSl.there Af.X h;have u:=zq (show Below w w (w.alloc (.cells #[] 105))from(aC _ _).alloc (aD _) _);have s:=IZ (w4:=w) (W:=w.alloc (.cells #[] 105)) (v:=.slice (some (zE w)) 0 0) (D:=[]) (D2:=ds) (h1:=[]) zV h u.o (Ak.start ⟨rfl,.inr ⟨w.heap.size,0,#[],rfl,aD _,Blk.new w _ _,aD _,by unfold maxLen;omega,rfl,rfl⟩⟩);have l:=zq s;obtain⟨A,c,rfl,hc,hm⟩:=rSl.head h;have HT:=zq y;have H:=zq h;clear s y h;have ac:∀(w:World) (a:Option Addr) (n c r i:Nat),(binOp .eql 99 (.slice a n c) (.slice none r i)).run prog w= .ok (.bool a.isNone) w:=fun w a n c r i => Lib.run_eql_slice_nil w _ _ a n c r i underlying99
 cases A with
 |none =>
  have hz:Hid (ds= []):=by
   show ds= []
   obtain⟨A',i,e,-,-,q⟩:=H.o;rcases q with⟨h,-⟩|⟨ad,aa,ab,e2,-⟩
   ·exact h
   ·injection e with x
    rw[e2]at x;cases x
  go_enter func278,ntmps278
  go_wp2
  go_ret
  refine⟨_,[],rfl,?_,(fun a p => by cases p),aC _ _⟩;rw[hz.o];exact Ak.start ⟨rfl,.inl ⟨rfl,rfl⟩⟩
 |some ad =>
  go_enter func278,ntmps278
  go_wp2_with (at_builtin;refine An rfl (.tmp 5) (.tmp 6) 99 rfl _ _ zT zT l.o ?_;rintro v6 w6 ⟨q,z,s6,r6,-⟩;have O6:=zq z;have S6:=zq s6;have R6:=zq r6;clear z s6 r6)
  go_ret
  refine⟨_,[] ++ q,rfl,by simpa using O6.o,(fun a p => HT.o a (S6.o.subset (by simpa using p))),?_⟩;exact u.o.grown R6.o zX (fun k hk => by simp[Value.ownBlock]at hk;omega)
structure DW (w:World) (base g n:Nat) (got:Nat->Option Aj):Prop where
 there:w.there g 0 (n * 9)
 lo:base<=g
 lt:g<w.heap.size
 el:∀i,i<n->∀d,got i=some d->∃cs fk,Af w fk cs d/\w.rangeAt g (i * 9) cs/\∀a,a∈fk->a.block<base
theorem DW.B {w w' base g n}{c:Nat->Option Aj}(h:DW w base g n c)(hb:Below w w w'):DW w' base g n c :=
 ⟨fun j e =>⟨by rw[hb.cell (p:=⟨g,0+j,none⟩) h.lt];exact(h.there j e).1,by rw[hb.frozen (p:=⟨g,0+j,none⟩) h.lt];exact(h.there j e).2⟩,h.lo,aH h.lt hb.size,fun i s d r => by
  obtain⟨cs,fk,f,l,o⟩:=h.el i s d r;exact⟨cs,fk,AC.B Af.L Af.X f hb,fun q v hq =>(hb.cell (p:=⟨g,i * 9+q,none⟩) h.lt).T (l q v hq),o⟩⟩
theorem DW.got_ {w base g n}{e c:Nat->Option Aj}(h:DW w base g n e)(hg:∀i,i<n->∀d,c i=some d->e i=some d):DW w base g n c :=
 ⟨h.there,h.lo,h.lt,fun i f d l => h.el i f d (hg i f d l)⟩
theorem NI {w:World}{g n:Nat}(h:w.there g 0 n)(b o c):(w.setCells b o c).there g 0 n:=fun j f => by
 refine⟨?_,by rw[World.frozen?_setCells];exact(h j f).2⟩;have:∀(c:List Value) (o:Nat) (w:World),(w.cell? (zO g (0+j))).isSome =true->((w.setCells b o c).cell? (zO g (0+j))).isSome =true:=by
  intro c;induction c with
  |nil => intro o w h;exact h
  |cons v r ih =>
   intro o w h;refine ih (o+1) _ ?_;by_cases e:((b,o):Addr)=⟨g,0+j,none⟩
   ·rw[e,World.cell?_setCell_same' _ _ _ (by simpa using h)];rfl
   ·rw[World.cell?_setCell_other _ _ _ _ e];exact h
 exact this c o w (h j f).1
theorem DW.store {w base g n}{l:Nat->Option Aj}(h:DW w base g n l){i:Nat}(hi:i<n){cs fk d}(hr:Af w fk cs d)(hf:∀a,a∈fk->a.block<base):DW (w.setCells g (i * 9) cs) base g n (fun q => if q=i then some d else l q):=by
 have y:=h.lo;have o:=Af.wide _ _ _ _ hr;have c:∀a:Addr,a.block<base->(w.setCells g (i * 9) cs).cell? a=w.cell? a:=fun a r => World.cell?_setCells_out g cs (i * 9) w a (fun e => by omega)
 refine⟨NI h.there _ _ _,y,by rw[size_setCells];exact h.lt,fun q hq e f => ?_⟩;by_cases p:q=i
 ·subst p;simp only[if_true]at f;injection f with f
  subst f;refine⟨cs,fk,Af.L _ _ _ _ _ hr (fun a r => c a (hf a r)),World.rangeAt_setCells_same _ _ _ _ (fun j hj => ?_),hf⟩;have:=h.there (q * 9+j) zZ;rw[Nat.zero_add]at this;exact this
 ·simp only[p,if_false]at f;obtain⟨s,u,z,h2,h3⟩:=h.el q hq e f;have x:=Af.wide _ _ _ _ z;exact⟨s,u,Af.L _ _ _ _ _ z (fun a r => c a (h3 a r)),World.rangeAt_setCells_apart h2 _ _ _ (by
   right
   rw[o,x];rcases Nat.lt_or_ge q i with ab|aa
   ·left;omega
   ·right;omega),h3⟩
theorem DW.cleared {w base g n}{c:Nat->Option Aj}(h:DW w base g n c)(i:Nat)(x:List Value):DW (w.setCells g (i * 9) x) base g n (fun q => if q<i then c q else none):=by
 have u:=h.lo;have l:∀a:Addr,a.block<base->(w.setCells g (i * 9) x).cell? a=w.cell? a:=fun a ha => World.cell?_setCells_out g x (i * 9) w a (fun e => by omega)
 refine⟨NI h.there _ _ _,u,by rw[size_setCells];exact h.lt,fun q hq e o => ?_⟩;by_cases f:q<i
 ·simp only[f,if_true]at o;obtain⟨p,r,y,h2,z⟩:=h.el q hq e o;have s:=Af.wide _ _ _ _ y;exact⟨p,r,Af.L _ _ _ _ _ y (fun a ha => l a (z a ha)),World.rangeAt_setCells_apart h2 _ _ _ (by right;left;rw[s];omega),z⟩
 ·simp only[f,if_false]at o;cases o
theorem DW.of_own {w}{base g n c:Nat}{E:TypeId}{ds:List Aj}{fs}(h:Ak 9 E Af w base (.slice (some (zE g)) n c) ds fs)(y:∀a,a∈fs->a.block<base):DW w base g n (fun i => ds[i]?)/\n=ds.length/\n<=c/\c<=9223372036854775807:=by
 obtain⟨A',c',e,x,hm⟩:=h.length;injection e with o e2 s
 subst e2 s;obtain⟨l,u,h1,h2,rfl,⟨hl,ht⟩,h5,h6⟩:=h;rcases ht with⟨e,_⟩|⟨g',cap,r,e,q1,q2,q3,q4,q5,q6⟩
 ·cases e
 ·injection e with o e2 s
  injection o with o
  injection o with o _ _
  subst o s;have f:Blk w g E r:=q2;have hw:∀c,c∈l->c.length=9:=by
   intro c x;obtain⟨i,z,rfl⟩:=aY x;obtain⟨_,_,p3,_⟩:=h5 i zZ;exact p3
  refine⟨⟨f.there (ds.length * 9) (by rw[q5];exact Nat.mul_le_mul_right _ q3),q1,f.lt,fun i z d p => ?_⟩,rfl,x,hm⟩;obtain⟨p1,p2,p3,p4⟩:=h5 i z;rw[aO z]at p;injection p with p
  subst p;refine⟨l[i],u[i],p4,fun q v hq => ?_,fun a ha => y a (List.mem_flatten.2 ⟨_,aT p2,ha⟩)⟩;have aa:q<l[i].length:=(List.getElem?_eq_some_iff.1 hq).1;rw[f.cell];have e7:=El l hw i q p1 zZ;rw[<-q6,List.getElem?_take,aM zZ,Array.getElem?_toList]at e7;rw[e7,hq]
theorem DW.reads {w base g n}{e:Nat->Option Aj}(h:DW w base g n e){L:List Aj}{c:Nat}(y:L.length<=n)(x:L.length<=c)(p:c<=9223372036854775807)(hg:∀i,(l:i<L.length)->e i=some L[i]):∃fs,rSl 9 Af w fs (.slice (some (zE g)) L.length c) L:=by
 have r:∀i:Fin L.length,∃q:List Value × List Addr,Af w q.2 q.1 (L[i.1]'i.2)/\w.rangeAt g (i.1 * 9) q.1:=fun i => by
  obtain⟨cs,fk,f,o,-⟩:=h.el i.1 zZ _ (hg i.1 i.2);exact⟨(cs,fk),f,o⟩
 obtain⟨Q,u⟩:=Classical.axiomOfChoice r;refine⟨_,some (zE g),c,rfl,x,p,.inr ⟨(zE g),List.ofFn fun i =>(Q i).1,List.ofFn fun i =>(Q i).2,rfl,by simp,by simp,rfl,fun i l => ?_⟩⟩;obtain⟨f,o⟩:=u ⟨i,l⟩;refine⟨by simpa using l,by simpa using l,by simpa using Af.wide _ _ _ _ f,fun j s => ?_,by simpa using f⟩;simp only[List.getElem_ofFn]at s⊢;rw[CO];exact o j _ (aO s)
theorem GN {α:Type}{keep:α->Bool}{ds:List α}{j:Nat}(c:j<ds.length)(h:keep ds[j] =true):(ds.take (j+1)).filter keep=(ds.take j).filter keep ++ [ds[j]]:=by
 rw[aK c,List.filter_append];simp[h]
theorem D9 {α:Type}{keep:α->Bool}{ds:List α}{j:Nat}(c:j<ds.length)(h:keep ds[j] =false):(ds.take (j+1)).filter keep=(ds.take j).filter keep:=by
 rw[aK c,List.filter_append];simp[h]
theorem MT(w:World)(s:TypeId)(g o n c:Nat)(hn:0<n)(p:w.there g o (n * 9)):∃u:List Value,(Builtin.clear_ #[99] s #[.slice (some (g,o)) n c]).run prog w= .ok (.tuple #[]) (w.setCells g o u):=by
 refine⟨(Builtin.zeroCells yY n).toList,?_⟩;have e:(Builtin.zeroCells yY n).toList.length =n * 9:=by simp[Builtin.zeroCells]
 have f:=run_storeCells_cells (P:=prog) g o _ 0 w (fun j h => by rw[e]at h;have:=(p j h).1;simpa using this) (fun j h => by rw[e]at h;have:=(p j h).2;simpa using this) (by
  intro v l;simp only[Builtin.zeroCells,Array.toList_map,List.mem_map]at l;obtain⟨i,-,rfl⟩:=l;have:i % 9<9:=Nat.mod_lt _ zZ;generalize hq:i % 9=q at this;match q,this with
  |0,_ => rfl
  |1,_ => rfl
  |2,_ => rfl
  |3,_ => rfl
  |4,_ => rfl
  |5,_ => rfl
  |6,_ => rfl
  |7,_ => rfl
  |8,_ => rfl)
 obtain⟨m,rfl⟩:∃m,n=m+1:=⟨n - 1,by omega⟩;generalize r:(Builtin.zeroCells yY (m+1)).toList =Z at f e⊢;simp only[bC]at f;have l:=zeroValue105;simp[Builtin.clear_,run_underlying underlying99,l,Value.cells,r,f]
theorem Om(p:Aj->Bool)(gf)(cb:Array Value)(base v ds fs w)(eg:∀args w,(callFunc gf args).run prog w= .ok (.enter gf args) w)(ho:Ak 9 105 Af w base v ds fs)(a5:∀a,a∈fs->a.block<base)(y:base<=w.heap.size)(b2:ds.length<=1000000)(hp:∀(W:World) (cs:List Value) (fk:List Addr) (d:Aj),Below base w W->Af W fk cs d->d∈ds->Calls prog gf (#[.agg cs] ++ cb) W (zN (.bool (p d)) W)):
  Calls prog 277 #[v,.func (.func gf) #[] cb] w fun e w' =>∃A c bf,e= .returned (.slice A (ds.filter fun x => !p x).length c)/\rSl 9 Af w' bf (.slice A (ds.filter fun x => !p x).length c) (ds.filter fun x => !p x)/\Below base w w':=by
 obtain⟨fr,ax,-⟩:=ho.reads;obtain⟨HI,ac,HP⟩:=zI (LZ 9 zZ sizeOf105 isAgg105 p gf cb v ds (fr ++ fs) w eg ax (fun W cs fk j hj hW hR => hp W cs fk ds[j] (hW.M y) hR (aT hj))) ax hp;clear hp ax;by_cases aa:ds.any p=true
 case neg =>
  have z:∀q,(hq:q<ds.length)->p ds[q] =false:=fun q hq => by
   cases h:p ds[q]with
   |false => rfl
   |true => exact absurd (List.any_eq_true.2 ⟨_,aT hq,h⟩) aa
  have zq:ds.filter (fun x => !p x)=ds:=List.filter_eq_self.2 (fun x hx => by
   obtain⟨q,hq,rfl⟩:=aY hx;rw[z q hq];rfl)
  rw[zq];rw[FT z]at HI;obtain⟨A,c,rfl,-⟩:=rSl.head ac.o;clear z zq aa ho;go_enter func277,ntmps277
  go_wp2_with (go_at_call 255;refine HI.o.M ?_;rintro e w1 ⟨rfl,af⟩)
  go_ret
  exact⟨A,c,fr ++ fs,rfl,rSl.B Af.L Af.X ac.o af,af.M y⟩
 case pos =>
 -- the first that is struck
 have ak:∃k0,∃hk:k0<ds.length,p ds[k0] =true/\∀q,(hq:q<ds.length)->q<k0->p ds[q] =false:=by
  cases hf:ds.findIdx? p with
  |none =>
   rw[List.findIdx?_eq_none_iff]at hf;obtain⟨x,hx,a7⟩:=List.any_eq_true.1 aa;rw[hf x hx]at a7;cases a7
  |some k0 =>
   obtain⟨h1,h2,h3⟩:=List.findIdx?_eq_some_iff_getElem.1 hf;exact⟨k0,h1,h2,fun q hq bl => by have:=h3 q bl;simpa using this⟩
 obtain⟨k0,ak,aw,ae⟩:=ak;rw[Gn ak aw ae]at HI
 -- the row
 obtain⟨g,n,c,rfl⟩:∃g n c,v= .slice (some (zE g)) n c:=by
  obtain⟨A,c,e,-⟩:=ho.length;obtain⟨xs,hl,ht⟩:=ho.cells;rcases ht with⟨rfl,e0⟩|⟨g,cap,br,rfl,_⟩
  ·omega
  ·exact⟨g,_,_,rfl⟩
 obtain⟨al,hn,b0,bj⟩:=DW.of_own ho a5;have l:=zq al;have HN:=zq hn;have bo:k0<n:=by omega
 have bz:n<=1000000:=by omega
 have ao:=zq (show(ds.take (k0+1)).filter (fun x => !p x)=ds.take k0 by
  rw[D9 ak (by rw[aw];rfl)];exact List.filter_eq_self.2 (fun x hx => by
   obtain⟨q,hq,rfl⟩:=aY hx;rw[aX]at hq;rw[List.getElem_take,ae q zZ zZ];rfl))
 have bp:((k0:Int) == -1)=false:=beq_eq_false_iff_ne.2 zZ;have bq:¬((k0:Int)= -1):=by omega
 clear aw ae aa ho al hn a5 ac;go_enter func277,ntmps277
 go_wp2_with (go_at_call 255;refine HI.o.M ?_;rintro e w1 ⟨rfl,af⟩;have B1:=zq af;clear af)
 have ah:Hid (DW w1 base g n (fun q => if q<k0 then((ds.take (k0+1)).filter fun x => !p x)[q]? else if k0+1<=q then ds[q]? else none)):=by
  show DW _ _ _ _ _
  refine(l.o.B B1.o).got_ (fun i hi d f => ?_);by_cases h1:i<k0
  ·rw[aM h1,ao.o,List.getElem?_take,aM h1]at f;exact f
  ·rw[aJ h1]at f;split at f
   ·exact f
   ·cases f
 have a9:Hid (k0=((ds.take (k0+1)).filter fun x => !p x).length):=(show _=_ by rw[ao.o,aX];omega);clear l ao;go_loopw [5,6,7] (fun u v _ wr =>∃(i j:Nat),u=i/\v=j/\i<j/\j<=n/\Hid (i=((ds.take j).filter fun x => !p x).length)/\Hid (DW wr base g n (fun q => if q<i then((ds.take j).filter fun x => !p x)[q]? else if j<=q then ds[q]? else none))/\Hid (Below base w wr)) (fun _ v _ _ => n - (intOf v).toNat)
 ·exact⟨k0,k0+1,rfl,by go_num,by omega,by omega,a9.o,ah.o,B1.o.M y⟩
 ·clear ah a9;obtain⟨i,j,rfl,rfl,bw,bx,HL,HR,HB⟩:=hrel;by_cases bk:j<n
  ·have aj:j<ds.length:=by have:=HN.o;omega
   have a6:(j:Int)<(n:Int):=by omega
   obtain⟨cs,fk,hr,ab,a4⟩:=HR.o.el j bk ds[j] (by
    rw[aJ zZ,aM (aD _)];exact aO aj)
   have r:=Af.wide _ _ _ _ hr;have bt:=HR.o.lt;have ag:=HR.o.lo;obtain⟨a1,ad,ap,aq⟩:=zH ab (show(prog.info? 105).map (·.size)=some cs.length by rw[r];kernel_rfl) (show(prog.info? 105).map (·.size)=some cs.toArray.size by rw[bD,r];kernel_rfl) (all_oneCell_toArray (Af.ones _ _ _ _ hr));obtain⟨Z,hZ⟩:∃Z:Array Value,#[int i64 0,(),.string ⟨#[]⟩,(),(),(),zQ,zQ,zQ] =Z:=zJ;have ar:Z.size=9:=by rw[<-hZ];rfl
   have KZ:=Blk.new wr 105 Z;have a2:=zq (Blk.there KZ cs.toArray.size (by rw[bD,r,ar];exact aD _));obtain⟨W2,ai⟩:∃W2,(wr.alloc (.cells Z 105)).setCells wr 0 cs.toArray.toList=W2:=zJ;obtain⟨K2,B2,a3⟩:=zI (show Blk W2 wr 105 cs.toArray by rw[<-ai];exact Blk.laid KZ _ (by rw[ar];exact r.symm)) (show Below wr wr W2 by rw[<-ai];exact AS (Ac (aC _ _) _) _ 0 (aD _)) ai;have a0:=zq (Blk.rangeAll K2.o);have au:base<=wr.heap.size:=by omega
   have an:=zq (HB.o.T (B2.o.M au));have ac:=zq (AC.B Af.L Af.X hr B2.o);obtain⟨HC,bb,ay⟩:=zI (HP.o W2 cs fk ds[j] an.o ac.o (aT aj)) a4 r;clear hr ab a4 ai KZ r ar;obtain⟨pj,av⟩:∃pj,p ds[j] =pj:=zJ;rw[av]at HC;have az:=zq av;clear av;have am:=fun(W3:World) (s:Below W2 W2 W3) =>(HR.o.B B2.o).B s
   have l:=zq am;clear am;cases pj with
   |true =>
    go_wp2_with (first
     |(refine aE rfl 105 (.tmp 24) rfl g (j * 9) rfl cs _ a1.o underlying105 rfl ad.o ?_)
     |(refine aV rfl 105 (.tmp 7) (.tmp 25) rfl wr 0 cs.toArray rfl rfl a2.o ap.o aq.o ?_;rw[a3.o])
     |(refine aE rfl 105 (.tmp 7) rfl wr 0 rfl cs _ a0.o underlying105 rfl ad.o ?_)
     |(go_at_fn gf;refine HC.o.M ?_;rintro e w3 ⟨rfl,s⟩;have B3:=zq s;clear s))
    go_roundw
    ·have hF:=D9 (keep:=fun x => !p x) aj (by rw[az.o];rfl);refine⟨i,j+1,rfl,by go_num,by omega,by omega,(show _=_ by rw[hF];exact HL.o),(show DW _ _ _ _ _ from ?_),an.o.T (B3.o.M (aZ au B2.o.size))⟩;rw[hF];refine(l.o _ B3.o).got_ (fun q hq d f => ?_);by_cases h1:q<i
     ·rw[aM h1]at f⊢;exact f
     ·rw[aJ h1]at f⊢;split at f
      ·rw[aM zZ];exact f
      ·cases f
    ·simp[intOf];omega
   |false =>
    go_wp2_with (first
     |(refine aE rfl 105 (.tmp 24) rfl g (j * 9) rfl cs _ a1.o underlying105 rfl ad.o ?_)
     |(refine aV rfl 105 (.tmp 7) (.tmp 25) rfl wr 0 cs.toArray rfl rfl a2.o ap.o aq.o ?_;rw[a3.o])
     |(refine aE rfl 105 (.tmp 7) rfl wr 0 rfl cs _ a0.o underlying105 rfl ad.o ?_)
     |(go_at_fn gf;refine HC.o.M ?_;rintro e w3 ⟨rfl,s⟩;have B3:=zq s;have bd:=zq (Blk.rangeAll (K2.o.B s K2.o.lt));have be:=zq (show w3.there g (i * 9) cs.toArray.size from fun q hq => by
       have b1:q<9:=by rw[bD,ay.o]at hq;exact hq
       have:=(l.o _ s).there (i * 9+q) zZ;rw[Nat.zero_add]at this;exact this);clear s)
     |(refine aE rfl 105 (.tmp 7) rfl wr 0 rfl cs _ bd.o underlying105 rfl ad.o ?_)
     |(refine aV rfl 105 (.tmp 33) (.tmp 32) rfl g (i * 9) cs.toArray rfl rfl be.o ap.o aq.o ?_))
    go_roundw
    ·have hF:=GN (keep:=fun x => !p x) aj (by rw[az.o];rfl);have bh:=an.o.T (B3.o.M (aZ au B2.o.size));refine⟨i+1,j+1,by go_num,by go_num,by omega,by omega,(show _=_ by rw[hF,aU,<-HL.o];rfl),(show DW _ _ _ _ _ from ?_),(show Below _ _ _ from AS bh _ _ ag)⟩;rw[hF];refine((l.o _ B3.o).store (i:=i) zZ (AC.B Af.L Af.X ac.o B3.o) bb.o).got_ (fun q hq d f => ?_);by_cases h1:q=i
     ·subst h1;rw[aM rfl];rw[aM zZ,List.getElem?_append_right (by rw[<-HL.o];exact aD _),<-HL.o]at f;simpa using f
     ·rw[aJ h1];by_cases h2:q<i
      ·rw[aM h2];rw[aM zZ,List.getElem?_append_left (by rw[<-HL.o];exact h2)]at f;exact f
      ·rw[aJ h2];rw[aJ zZ]at f;split at f
       ·rw[aM zZ];exact f
       ·cases f
    ·simp[intOf];omega
  ·obtain rfl:j=n:=by omega
   have a6:¬(j:Int)<(j:Int):=by omega
   obtain⟨vs,bs⟩:=MT wr 0 g (i * 9) (j - i) (c - i) zZ (fun q hq => by
    have:=HR.o.there (i * 9+q) zZ;rw[Nat.zero_add]at this;exact this)
   have bv:¬c=i:=by omega
   have bn:(i:Int)<=(j:Int):=by omega
   have bu:(0:Int)<=(i:Int):=by omega
   have bm:(i:Int)<=(c:Int):=by omega
   have bi:=zq (HR.o.cleared i vs);have ag:=HR.o.lo;have ba:=zq (show Below base w (wr.setCells g (i * 9) vs)from AS HB.o _ _ ag);have bc:=zq (show(ds.take j).filter (fun x => !p x)=ds.filter (fun x => !p x) by rw[bB (by have:=HN.o;omega)]);clear HR HB;go_wp2
   go_ret
   rw[<-bc.o];have hi:=HL.o;obtain⟨bg,a8⟩:=bi.o.reads (L:=(ds.take j).filter fun x => !p x) (c:=c) (by rw[<-hi];omega) (by rw[<-hi];omega) bj (fun q hq => by
    rw[aM (by rw[hi];exact hq),aM (by rw[hi];exact hq)];exact aO hq)
   rw[<-hi]at a8⊢;exact⟨some (zE g),c,rfl,⟨bg,a8⟩,ba.o⟩
def CA(c:Int)(e:List Aj)(group:Int):List Aj:=e.filter (CB c e group)
theorem Uf(x cs f)(p i l o n c:Nat)(A fs u d)(h:List Aj)(group:Int)(w)(hx:Af w f cs x)(hw:AtW w p fs d)(r:d.s.sh.Ok)(q:0<=group)(h1:w.cell? ⟨i,0,none⟩=some (.pointer (some (zE p))))(y:w.cell? ⟨l,0,none⟩=some (int i64 group))(z:w.cell? ⟨o,0,none⟩=some (.slice A n c))(ha:rSl 9 Af w u (.slice A n c) h):
  Calls prog 279 #[.agg cs,.pointer (some (zE i)),.pointer (some (zE l)),.pointer (some (zE o))] w (zN (.bool (!CB d.s.g h group x)) w) :=
 Ug 9 rfl sizeOf38 isAgg38 x cs f p i l o n c A fs u d h group w hx hw r q h1 y z ha
theorem FP(d):(AU d).length<=(Dk d).length:=by
 unfold AU;rw[LK];exact Hj _ _ rfl
theorem Pz(p fs d)(group:Int)(w)(h:AtW w p fs d)(ap:d.s.sh.Ok)(ao:0<=group)(aq:(Dk d).length<=1000000):
  Calls prog 263 #[.pointer (some (zE p)),int i64 group] w fun e w' =>∃A c an,e= .returned (.slice A (CA d.s.g (AU d) group).length c)/\rSl 9 Af w' an (.slice A (CA d.s.g (AU d) group).length c) (CA d.s.g (AU d) group)/\Below w w w':=by
 obtain⟨u,y⟩:∃u,(w.alloc (.cells #[.pointer (some (zE p))] 67)).alloc (.cells #[int i64 group] 2)=u:=zJ;have ac:Below w w u:=by rw[<-y];exact((aC _ _).alloc (aD _) _).alloc zX _
 have K1:Blk u w 67 #[.pointer (some (zE p))]:=by rw[<-y];exact(Blk.new w _ _).alloc _
 have K2:Blk u (w.heap.size+1) 2 #[int i64 group]:=by rw[<-y];exact Blk.new1 w _ _ _
 have ae:=zq (h.B ac);obtain⟨HC,ab,ag,ah⟩:=zH (SK p fs d u ae.o aq) ac K1 K2;have hl:=FP d;have p1:u.cell? ⟨w.heap.size,0,none⟩=some (.pointer (some (zE p))):=(K1.cell 0).T rfl;clear h ac K1 K2;obtain⟨f,l⟩:∃f,AU d=f:=zJ;rw[l]at HC hl⊢;have ar:=zq l;clear l;go_enter func263,ntmps263
 go_wp2_with (go_at_call 106;refine HC.o.M ?_;rintro e z ⟨A,c,fa,rfl,ra,b2⟩;have RA:=zq ra;have B2:=zq b2;have W3:=zq (show Below z z (z.alloc (.cells #[.slice A f.length c] 99))from(aC _ _).alloc (aD _) _);have af:=zq (PF _ f fa (z.alloc (.cells #[.slice A f.length c] 99)) (rSl.B Af.L Af.X RA.o W3.o) zZ);clear ra b2)
 refine af.o.M ?_;rintro e w4 ⟨v',am,rfl,own,q,b4⟩;obtain⟨r,ad⟩:∃r,z.alloc (.cells #[.slice A f.length c] 99)=r:=zJ;rw[ad]at own q b4 W3;have K3:Blk r z 99 #[.slice A f.length c]:=by rw[<-ad];exact Blk.new z _ _
 have i:Below u u r:=B2.o.T (W3.o.M B2.o.size);have k1:Blk r w 67 #[.pointer (some (zE p))]:=ag.o.B i ag.o.lt;have k2:Blk r (w.heap.size+1) 2 #[int i64 group]:=ah.o.B i ah.o.lt;have ai:AtW r p fs d:=ae.o.B i;have aj:=rSl.B Af.L Af.X RA.o W3.o;have aa:=zq (Om (fun x => !CB d.s.g f group x) 279 #[.pointer (some (zE w)),.pointer (some (zE (w.heap.size+1))),.pointer (some (zE z))] r v' f am w4 (enters_of func279 zY rfl) own q b4.size zZ
  (fun W cs fk x hW hR _ => by
   have n:Below r r W:=b4.T hW;exact Uf x cs fk p w (w.heap.size+1) z f.length c A fs fa d f group W hR (ai.B n) ap ao (((k1.B n k1.lt).cell 0).T rfl) (((k2.B n k2.lt).cell 0).T rfl) (((K3.B n K3.lt).cell 0).T rfl) (rSl.B Af.L Af.X aj n)))
 rw[show(f.filter fun x => !(!CB d.s.g f group x))=CA d.s.g f group by unfold CA;congr 1;funext x;simp]at aa;have ak:=zq (show Below w w w4 from ab.o.T ((i.T (b4.M i.size)).M ab.o.size));have al:=zq (show w.heap.size<=r.heap.size from aZ ab.o.size i.size);clear own q b4 K3 i k1 k2 ai aj y ad af;go_wp2_with (go_at_call 277;refine aa.o.M ?_;rintro e w5 ⟨A5,c5,f5,rfl,r5,b5⟩)
 go_ret
 exact⟨A5,c5,f5,rfl,r5,ak.o.T (b5.M al.o)⟩
theorem L9(s v l f group w)(h:rSl 9 Af w f v l)(bh:l.length<=1000000):
  Calls prog 185 #[shV s,v,int i64 group] w fun e w' =>∃A c aw,e= .returned (.slice A (CA s.g l group).length c)/\rSl 9 Af w' aw (.slice A (CA s.g l group).length c) (CA s.g l group)/\(∀a,a∈aw->a∈f∨w.heap.size<=a.block)/\Below w w w':=by
 obtain⟨A0,c0,rfl,hc,hm,hx⟩:=rSl.at_ Af.X zZ h;obtain⟨HX,ar,a3⟩:=zI hx h (rSl.there Af.X h);obtain⟨g0,aj⟩:∃g0,w.heap.size=g0:=zJ;have HG:=zq aj;clear hx h;unfold shV;go_enter func185,ntmps185
 go_wp2_with fail
 obtain⟨W1,ah⟩:∃W1,(w.alloc (.cells s 38))=W1:=zJ;have ax:Below w w W1:=by rw[<-ah];exact(aC _ _).alloc (aD _) _
 have k1:Blk W1 g0 38 s:=by rw[<-ah,<-aj];exact Blk.new w _ _
 have z1:W1.heap.size=g0+1:=by rw[<-ah,<-aj];simp
 have ak:Hid (Ak 9 105 Af (W1.alloc (.cells #[] 105)) (g0+1) (.slice (some (zE (g0+1))) 0 0) ((l.take 0).filter (CB s.g l group)) []):=by
  have:=Ak.start (R:=Af) (World.ownsRow_lit (base:=W1.heap.size) (e:=105) (size:=9) W1 #[] 0 (aD _) (Nat.zero_le _) rfl);rw[z1]at this;exact this
 have a0:Hid (Below (g0+1) W1 (W1.alloc (.cells #[] 105))):=(aC _ _).alloc zZ _;obtain⟨a1,be,a5⟩:=zI ax k1 z1;have pg:W1.cell? ⟨g0,0,none⟩=some (int i64 s.g):=(k1.cell 0).T rfl;have gz:g0<W1.heap.size:=k1.lt;clear ax k1;rw[ah];try rw[aj]
 try simp only[z1]
 clear ah z1 aj;go_loopw [8,7,9] (fun a b _ wr =>∃(i n c:Nat) (A:Option Addr) (fo:List Addr),i<=l.length/\a=i/\b= .slice A n c/\Hid (n=((l.take i).filter (CB s.g l group)).length)/\Hid (Ak 9 105 Af wr (g0+1) (.slice A n c) ((l.take i).filter (CB s.g l group)) fo)/\Hid (∀a,a∈fo->a∈f)/\Hid (Below (g0+1) W1 wr)) (fun a _ _ _ => l.length - (intOf a).toNat)
 ·exact⟨0,0,0,some (zE (g0+1)),[],by omega,rfl,rfl,(show _=_ by simp),ak.o,(show∀_,_ from fun a ha => by cases ha),a0.o⟩
 ·clear ak a0;obtain⟨i,n,c,A,fo,hi,rfl,rfl,HN,HO,HF,HB⟩:=hrel;have a9:=(HB.o.cell (p:=⟨g0,0,none⟩) (show g0<g0+1 by omega)).T pg;have bb:=HB.o.size;have af:g0+1<=wr.heap.size:=by have:=a5.o;omega
  have a6:g0<wr.heap.size:=by omega
  have an:=zq (show Below w w wr from a1.o.T (HB.o.M (by rw[HG.o];omega)));by_cases x:i<l.length
  ·obtain⟨bf,b3,o3,r,f3,rfl,ai⟩:=HX.o i x;have y:=ai.B Af.L an.o;have bc:=ai.place;have ba:=y.lt;have z:r.length=9:=y.len;have HR:=zq (show wr.rangeAt b3 o3 r from fun q v hq => by
    have az:q<r.length:=(List.getElem?_eq_some_iff.1 hq).1;rw[y.cell q az,<-hq];exact(aO az).symm)
   obtain⟨HI,aa,ab,av,a2⟩:=zG (show(prog.info? 105).map (·.size)=some r.length by rw[z];kernel_rfl) (show(prog.info? 105).map (·.size)=some r.toArray.size by rw[bD,z];kernel_rfl) (all_oneCell_toArray (Af.ones _ _ _ _ y.reads)) (show r.toArray.size=9 by rw[bD];exact z) (show∀a,a∈f3->a∈f from ai.sub);obtain⟨Z,hZ⟩:∃Z:Array Value,#[int i64 0,(),.string ⟨#[]⟩,(),(),(),zQ,zQ,zQ] =Z:=zJ;have ap:Z.size=9:=by rw[<-hZ];rfl
   have KZ:=Blk.new wr 105 Z;have ad:=zq (Blk.there KZ r.toArray.size (by rw[bD,z,ap];exact aD _));obtain⟨W2,al⟩:∃W2,(wr.alloc (.cells Z 105)).setCells wr 0 r.toArray.toList=W2:=zJ;have k2:Blk W2 wr 105 r.toArray:=by rw[<-al];exact Blk.laid KZ _ (by rw[ap];exact z.symm)
   have B2:=zq (show Below wr wr W2 by rw[<-al];exact AS (Ac (aC _ _) _) _ 0 (aD _));have ae:=zq al;obtain⟨ag,au,ac⟩:=zI (HO.o.B Af.L Af.X B2.o) (AC.B Af.L Af.X y.reads B2.o) (Blk.rangeAll k2);have bg:=k2.lt;obtain⟨v0,v1,v2,q0,q1,q2,e,-⟩:=ai.reads;have y0:W2.cell? ⟨wr.heap.size,0,none⟩=some (int i64 l[i].kind):=by rw[k2.cell,e];rfl
   have y1:W2.cell? ⟨wr.heap.size,1,none⟩=some (int i64 l[i].seq):=by rw[k2.cell,e];rfl
   have y4:W2.cell? ⟨wr.heap.size,4,none⟩=some (int i64 l[i].group):=by rw[k2.cell,e];rfl
   have bi:=(B2.o.cell (p:=⟨g0,0,none⟩) a6).T a9;have HD:=zq (l6Done_c _ l f l[i].seq group W2 (rSl.B Af.L Af.X (rSl.B Af.L Af.X ar.o an.o) B2.o));have a4:=zq (show n+1<=1000000000 by
    have h2:=HN.o;have h3:=List.length_filter_le (CB s.g l group) (l.take i);rw[aX]at h3;omega)
   have am:=zq (Qv (P:=fun a => a∈f) (fun a ha => by have:=a3.o a ha;have:=HG.o;omega) (w:=W2) (W:=W2.alloc (.cells r.toArray 105)) (b:=W2.heap.size) ag.o zZ (Ac (aC _ _) _) (Blk.new _ _ _) (AC.B Af.L Af.X au.o (Ac (aC _ _) _)) a2.o HF.o (by rw[<-HN.o];exact a4.o));rw[<-HN.o]at am;have aq:CB s.g l group l[i] =(decide (l[i].kind =2) && ((decide (s.g<=group)||decide (l[i].group =group)) && !G1 l l[i].seq group)):=rfl;clear ai y al KZ z ap k2 e;obtain⟨bd,ay⟩:∃bd,G1 l l[i].seq group=bd:=zJ;rw[ay]at HD aq;have u:=zq aq;clear ay aq;by_cases qk:l[i].kind =2
   ·have hk:(l[i].kind == 2)=true:=by simpa using qk
    by_cases qg:s.g<=group
    ·cases bd with
     |true =>
      have KE:=zq (show CB s.g l group l[i] =false by rw[u.o];simp);clear qk u;go_wp2_with (first
       |(refine aE rfl 105 (.tmp 19) rfl b3 o3 rfl r _ HR.o underlying105 rfl HI.o ?_)
       |(refine aV rfl 105 (.tmp 9) (.tmp 20) rfl wr 0 r.toArray rfl rfl ad.o aa.o ab.o ?_;rw[ae.o])
       |(refine aE rfl 105 (.tmp 9) rfl wr 0 rfl r _ ac.o underlying105 rfl HI.o ?_)
       |(go_at_call 240;refine HD.o.M ?_;rintro e w' ⟨rfl,rfl⟩))
      go_roundw
      ·have hF:=D9 (keep:=CB s.g l group) x KE.o;exact⟨i+1,n,c,A,fo,by omega,by go_num,rfl,(show _=_ by rw[hF];exact HN.o),(show Ak _ _ _ _ _ _ _ _ by rw[hF];exact ag.o),HF.o,HB.o.T (B2.o.M af)⟩
      ·simp[intOf];omega
     |false =>
      have KE:=zq (show CB s.g l group l[i] =true by rw[u.o];simp[qk,qg]);clear qk u;go_wp2_with (first
       |(refine aE rfl 105 (.tmp 19) rfl b3 o3 rfl r _ HR.o underlying105 rfl HI.o ?_)
       |(refine aV rfl 105 (.tmp 9) (.tmp 20) rfl wr 0 r.toArray rfl rfl ad.o aa.o ab.o ?_;rw[ae.o])
       |(refine aE rfl 105 (.tmp 9) rfl wr 0 rfl r _ ac.o underlying105 rfl HI.o ?_)
       |(go_at_call 240;refine HD.o.M ?_;rintro e w' ⟨rfl,rfl⟩)
       |(refine FM rfl 99 105 (.tmp 45) rfl r.toArray rfl _ 9 128 underlying99 Tryz.infoRec zZ zZ av.o ?_)
       |(at_builtin;refine An rfl (.tmp 44) (.tmp 46) 99 rfl _ _ zT zT am.o ?_;rintro v8 w8 ⟨g8,c8,ao,rfl,o8,h8,b8,s8,q8,r8⟩;have O8:=zq o8;have H8:=zq h8;have B8:=zq b8;clear o8 h8 b8 s8 q8 r8))
      go_roundw
      ·have hF:=GN (keep:=CB s.g l group) x KE.o;exact⟨i+1,n+1,c8,some (zE g8),ao,by omega,by go_num,rfl,(show _=_ by rw[hF,aU,<-HN.o];rfl),(show Ak _ _ _ _ _ _ _ _ by rw[hF];exact O8.o),H8.o,(HB.o.T ((B2.o.M af).T B8.o))⟩
      ·simp[intOf];omega
    ·have bj:group<s.g:=by omega
     by_cases qe:l[i].group =group
     ·have he:(l[i].group == group)=true:=by simpa using qe
      cases bd with
      |true =>
       have KE:=zq (show CB s.g l group l[i] =false by rw[u.o];simp);clear qk u qe;go_wp2_with (first
        |(refine aE rfl 105 (.tmp 19) rfl b3 o3 rfl r _ HR.o underlying105 rfl HI.o ?_)
        |(refine aV rfl 105 (.tmp 9) (.tmp 20) rfl wr 0 r.toArray rfl rfl ad.o aa.o ab.o ?_;rw[ae.o])
        |(refine aE rfl 105 (.tmp 9) rfl wr 0 rfl r _ ac.o underlying105 rfl HI.o ?_)
        |(go_at_call 240;refine HD.o.M ?_;rintro e w' ⟨rfl,rfl⟩))
       go_roundw
       ·have hF:=D9 (keep:=CB s.g l group) x KE.o;exact⟨i+1,n,c,A,fo,by omega,by go_num,rfl,(show _=_ by rw[hF];exact HN.o),(show Ak _ _ _ _ _ _ _ _ by rw[hF];exact ag.o),HF.o,HB.o.T (B2.o.M af)⟩
       ·simp[intOf];omega
      |false =>
       have KE:=zq (show CB s.g l group l[i] =true by rw[u.o];simp[qk,qe]);clear qk u qe;go_wp2_with (first
        |(refine aE rfl 105 (.tmp 19) rfl b3 o3 rfl r _ HR.o underlying105 rfl HI.o ?_)
        |(refine aV rfl 105 (.tmp 9) (.tmp 20) rfl wr 0 r.toArray rfl rfl ad.o aa.o ab.o ?_;rw[ae.o])
        |(refine aE rfl 105 (.tmp 9) rfl wr 0 rfl r _ ac.o underlying105 rfl HI.o ?_)
        |(go_at_call 240;refine HD.o.M ?_;rintro e w' ⟨rfl,rfl⟩)
        |(refine FM rfl 99 105 (.tmp 45) rfl r.toArray rfl _ 9 128 underlying99 Tryz.infoRec zZ zZ av.o ?_)
        |(at_builtin;refine An rfl (.tmp 44) (.tmp 46) 99 rfl _ _ zT zT am.o ?_;rintro v8 w8 ⟨g8,c8,ao,rfl,o8,h8,b8,s8,q8,r8⟩;have O8:=zq o8;have H8:=zq h8;have B8:=zq b8;clear o8 h8 b8 s8 q8 r8))
       go_roundw
       ·have hF:=GN (keep:=CB s.g l group) x KE.o;exact⟨i+1,n+1,c8,some (zE g8),ao,by omega,by go_num,rfl,(show _=_ by rw[hF,aU,<-HN.o];rfl),(show Ak _ _ _ _ _ _ _ _ by rw[hF];exact O8.o),H8.o,(HB.o.T ((B2.o.M af).T B8.o))⟩
       ·simp[intOf];omega
     ·have he:(l[i].group == group)=false:=by simpa using qe
      have KE:=zq (show CB s.g l group l[i] =false by rw[u.o];simp[qe,qg]);clear qk u qe;go_wp2_with (first
       |(refine aE rfl 105 (.tmp 19) rfl b3 o3 rfl r _ HR.o underlying105 rfl HI.o ?_)
       |(refine aV rfl 105 (.tmp 9) (.tmp 20) rfl wr 0 r.toArray rfl rfl ad.o aa.o ab.o ?_;rw[ae.o])
       |(refine aE rfl 105 (.tmp 9) rfl wr 0 rfl r _ ac.o underlying105 rfl HI.o ?_)
       |(go_at_call 240;refine HD.o.M ?_;rintro e w' ⟨rfl,rfl⟩))
      go_roundw
      ·have hF:=D9 (keep:=CB s.g l group) x KE.o;exact⟨i+1,n,c,A,fo,by omega,by go_num,rfl,(show _=_ by rw[hF];exact HN.o),(show Ak _ _ _ _ _ _ _ _ by rw[hF];exact ag.o),HF.o,HB.o.T (B2.o.M af)⟩
      ·simp[intOf];omega
   ·have hk:(l[i].kind == 2)=false:=by simpa using qk
    have KE:=zq (show CB s.g l group l[i] =false by rw[u.o];simp[qk]);clear qk u;go_wp2_with (first
     |(refine aE rfl 105 (.tmp 19) rfl b3 o3 rfl r _ HR.o underlying105 rfl HI.o ?_)
     |(refine aV rfl 105 (.tmp 9) (.tmp 20) rfl wr 0 r.toArray rfl rfl ad.o aa.o ab.o ?_;rw[ae.o])
     |(refine aE rfl 105 (.tmp 9) rfl wr 0 rfl r _ ac.o underlying105 rfl HI.o ?_)
     |(go_at_call 240;refine HD.o.M ?_;rintro e w' ⟨rfl,rfl⟩))
    go_roundw
    ·have hF:=D9 (keep:=CB s.g l group) x KE.o;exact⟨i+1,n,c,A,fo,by omega,by go_num,rfl,(show _=_ by rw[hF];exact HN.o),(show Ak _ _ _ _ _ _ _ _ by rw[hF];exact ag.o),HF.o,HB.o.T (B2.o.M af)⟩
    ·simp[intOf];omega
  ·obtain rfl:i=l.length:=by omega
   go_wp2
   go_ret
   have h1:=HN.o;have h2:=HO.o;rw[bA]at h1 h2;obtain⟨gr,a8,-,-,-,a7,-⟩:=h2.reads;have h3:n=(CA s.g l group).length:=h1;subst h3;exact⟨A,c,gr ++ fo,rfl,a8,fun a ha => by
    rcases List.mem_append.1 ha with ha|ha
    ·have:=a7 a ha;have:=HG.o;exact .inr zZ
    ·exact .inl (HF.o a ha),an.o⟩
def FL(L:List Aj)(row:Int):Option Aj:=L.reverse.find? fun x => decide (x.row=row)
def ER(c:Int)(e:List Aj)(group row:Int):Option Aj:=if group<c then FL (CA c e group) row else none
theorem TA {L:List Aj}{row:Int}{k:Nat}(l:k<L.length)(h:L[k].row =row)(hb:∀q,(hq:q<L.length)->k<q->L[q].row≠row):FL L row=some L[k]:=by
 unfold FL;have e:L.reverse=(L.drop (k+1)).reverse ++ L[k] ::(L.take k).reverse:=by
  conv => lhs;rw[<-List.take_append_drop k L,List.drop_eq_getElem_cons l]
  simp
 rw[e,List.find?_append];have:(L.drop (k+1)).reverse.find? (fun x => decide (x.row=row))=none:=by
  rw[List.find?_eq_none];intro x c;rw[List.mem_reverse]at c;obtain⟨i,f,rfl⟩:=aY c;rw[bP]at f;rw[List.getElem_drop];have:=hb (k+1+i) zZ zZ;simpa using this
 rw[this];simp[h]
theorem RQ {L:List Aj}{row:Int}(hb:∀q,(hq:q<L.length)->L[q].row≠row):FL L row=none:=by
 unfold FL;rw[List.find?_eq_none];intro x c;rw[List.mem_reverse]at c;obtain⟨i,e,rfl⟩:=aY c;simpa using hb i e
def OptS(L?:Option (List UInt8))(S:Addr->Prop)(w:World)(e:Ending)(w':World):Prop :=
 (∃L A c fs,L? =some L/\e= .returned (.tuple #[.slice A L.length c,.bool true])/\Ah w' fs (.slice A L.length c) L/\(∀a,a∈fs->S a∨w.heap.size<=a.block)/\Below w w w')∨(L? =none/\e= .returned (.tuple #[zQ,.bool false])/\Below w w w')
theorem LA.s {w p fs d e f i c0 c1 c2 l n o}(h:LA w p fs d e f i c0 c1 c2 l n o):w.rangeAt p 0 d.s:=fun q v hq => by
 rw[Nat.zero_add];match q,hq with
 |0,hq => simp at hq;subst hq;exact h.n0
 |1,hq => simp at hq;subst hq;exact h.n1
 |2,hq => simp at hq;subst hq;exact h.n2
 |3,hq => simp at hq;subst hq;exact h.n3
 |4,hq => simp at hq;subst hq;exact h.n4
 |5,hq => simp at hq;subst hq;exact h.n5
 |6,hq => simp at hq;subst hq;exact h.n6
 |7,hq => simp at hq;subst hq;exact h.n7
 |8,hq => simp at hq;subst hq;exact h.n8
 |q+9,hq => simp at hq
theorem l13Own_c(p fs d v l f group row w)(h:AtW w p fs d)(ha:rSl 9 Af w f v l)(ao:l.length<=1000000):
  Calls prog 183 #[.pointer (some (zE p)),v,int i64 group,int i64 row] w (OptS ((ER d.s.g l group row).map Aj.data) (fun a => a∈f) w):=by
 obtain⟨A0,A1,A2,c0,c1,c2,f0,f1,f2,x⟩:=h.cells;have aj:=zq x.s;have n0:=x.n0;have hp:=x.lt;have HU:=zq (L9 d.s.sh v l f group w ha ao);obtain⟨Av,cv,rfl,-⟩:=rSl.head ha;have ae:=List.length_filter_le (CB d.s.g l group) l;clear x h ha;have u:ER d.s.g l group row=if group<d.s.g then FL (CA d.s.g l group) row else none:=rfl
 obtain⟨rr,ag⟩:∃rr,ER d.s.g l group row=rr:=zJ;rw[ag]at u⊢;have n:=zq u;clear u ag;have ak:(CA d.s.g l group).length<=1000000:=by unfold CA;omega
 unfold shV at HU;rw[show d.s.sh.g=d.s.g from rfl,show d.s.sh.c=d.s.c from rfl,show d.s.sh.data=d.s.data from rfl,show d.s.sh.p=d.s.p from rfl,show d.s.sh.rows=d.s.rows from rfl,show d.s.sh.cap=d.s.cap from rfl,show d.s.sh.b=d.s.b from rfl,show d.s.sh.q=d.s.q from rfl,show d.s.sh.t=d.s.t from rfl]at HU;obtain⟨L,hL⟩:∃L,CA d.s.g l group=L:=zJ;rw[hL]at HU n ak;clear hL ae;go_enter func183,ntmps183
 go_wp2_with (first
  |(refine aE rfl 38 (.tmp 14) rfl p 0 rfl _ _ aj.o underlying38 rfl zY ?_)
  |(go_at_call 185;refine HU.o.M ?_;rintro e w1 ⟨A5,c5,f5,rfl,r5,l5,b5⟩;have R5:=zq r5;have L5:=zq l5;have B5:=zq b5;clear r5 l5 b5))
 obtain⟨ap,aq,e,au,ax,hx⟩:=rSl.at_ Af.X zZ R5.o;injection e with z _ e3
 subst z e3;have HX:=zq hx;have a0:=(B5.o.cell (p:=⟨p,0,none⟩) hp).T n0;have ay:p<w1.heap.size:=aH hp B5.o.size;clear hx n0;by_cases qg:group<d.s.g
 ·rw[aM qg]at n;go_loop [11] (fun i =>∃k:Nat,k<=L.length/\i= int i64 ((k:Int) - 1)/\Hid (∀q,(hq:q<L.length)->k<=q->L[q].row≠row)) (fun i =>(intOf i+1).toNat)
  ·exact⟨L.length,aD _,by go_num,fun q hq h => by omega⟩
  ·obtain⟨k,hk,rfl,HF⟩:=hrel;by_cases al:k=0
   ·subst al;have z:rr=none:=by rw[n.o];exact RQ (fun q hq => HF.o q hq (Nat.zero_le _))
    subst z;go_wp2
    go_ret2
    exact .inr ⟨rfl,rfl,B5.o⟩
   ·obtain⟨m,rfl⟩:∃m,k=m+1:=⟨k - 1,by omega⟩;have af:m<L.length:=by omega
    have r1:((m+1:Nat):Int) - 1=(m:Int):=by omega
    rw[r1];have aw:(0:Int)<=(m:Int):=by omega
    obtain⟨ad,b,o,cs,fk,rfl,r⟩:=HX.o m af;have az:=r.place;have ar:=r.lt;have y:=r.sub;obtain⟨v0,v1,v2,g0,g1,g2,e,ac,-,-,-,-,-,-,-,aa,-⟩:=r.reads;have ab:=zq (show∀a,a∈g1->a∈f∨w.heap.size<=a.block from fun a ha => L5.o a (y a (by rw[ac];exact bO _ (bM _ ha))));obtain⟨A7,c7,e7,-⟩:=rSl.head aa;subst e7;have y5:w1.cell? ⟨b,o+5,none⟩=some (int i64 L[m].row):=by
     have:=r.cell 5 (by rw[r.len];omega);simpa [e]using this
    have y7:w1.cell? ⟨b,o+7,none⟩=some (.slice A7 L[m].data.length c7):=by
     have:=r.cell 7 (by rw[r.len];omega);simpa [e]using this
    have ai:=zq aa;clear r e aa y ac;by_cases qr:L[m].row =row
    ·have hq:(L[m].row == row)=true:=by simpa using qr
     have z:rr=some L[m]:=by rw[n.o];exact TA af qr (fun q hq an => HF.o q hq zZ)
     subst z;clear qr;go_wp2
     go_ret2
     exact .inl ⟨_,A7,c7,g1,rfl,rfl,ai.o,ab.o,B5.o⟩
    ·have hq:(L[m].row == row)=false:=by simpa using qr
     have ah:=zq qr;clear qr;go_wp2
     go_round
     ·refine⟨m,by omega,by go_num,(show∀_,_ from fun q hq an => ?_)⟩;by_cases e:q=m
      ·subst e;exact ah.o
      ·exact HF.o q hq zZ
     ·simp[intOf]
 ·rw[aJ qg]at n;have z:rr=none:=n.o;subst z;by_cases am:L.length=0
  ·rw[am];go_loop [11] (fun i => i= int i64 (-1)) (fun i => 0)
   ·go_num
   ·subst hrel;go_wp2
    go_ret2
    exact .inr ⟨rfl,rfl,B5.o⟩
  ·have av:(0:Int)<=(L.length:Int) - 1:=by omega
   go_loop [11] (fun i => i= int i64 ((L.length:Int) - 1)) (fun i => 0)
   ·go_num
   ·subst hrel;go_wp2
    go_ret2
    exact .inr ⟨rfl,rfl,B5.o⟩
attribute [local go_sem] Oper.semAt_some
theorem GX {F:Fence}{n}{P:Program}{e:Array Oper}{rest}{i:Oper}{a:Act}{w:World}{Q:Exit->Act->World->Prop}(q:i.guard=none)(l)(x:Operand)(r:i.op= .load l x)(b o:Nat)(hx:a.eval x= .pointer (some (b,o)))(cs)(d:TypeDesc)(u:w.rangeAt b o cs)(z:P.underlying l=some d)(y:d.isRow=true)(hi:(P.info? l).map (·.size)=some cs.length)(h:wpListIn F n P e Q rest (a.put i.dst (.agg cs)) w):wpListIn F n P e Q (i :: rest) a w :=
 wpListIn_plain q fun K s => by
  refine⟨fun f p => ?_,?_⟩
  ·unfold Oper.about at p;rw[r]at p;cases p
  ·rw[Oper.semAt_eq _ _ _ (by rw[r];intro c;simp)];unfold execOp;simp only[r,hx,Instr.loadAt,Instr.sureAddr,Sem.run_bind,Sem.run_pure,Result.andThen_ok,run_loadVar_mid w b o l cs d u z y hi];exact s _ _ h
theorem GK {F:Fence}{n}{P:Program}{i:Array Oper}{rest}{l:Oper}{a:Act}{w:World}{Q:Exit->Act->World->Prop}(q:l.guard=none)(s)(x y:Operand)(r:l.op= .store s x y)(b o:Nat)(e:Array Value)(hx:a.eval x= .pointer (some (b,o)))(hy:a.eval y= .agg e)(z:w.there b o e.size)(hi:(P.info? s).map (·.size)=some e.size)(h1:e.all (·.oneCell')=true)(h:wpListIn F n P i Q rest (a.put l.dst undef) (w.setCells b o e.toList)):wpListIn F n P i Q (l :: rest) a w :=
 wpListIn_plain q fun K u => by
  refine⟨fun f p => ?_,?_⟩
  ·unfold Oper.about at p;rw[r]at p;cases p
  ·rw[Oper.semAt_eq _ _ _ (by rw[r];intro c;simp)];unfold execOp;simp only[r,hx,hy,Instr.storeAt,Instr.sureAddr,Sem.run_bind,Sem.run_pure,Result.andThen_ok,run_storeVar_mid w b o s e z hi h1];exact u _ _ h
theorem KeepsOthers.setCells(b):∀(c:List Value) (o:Nat) (W:World),KeepsOthers W (W.setCells b o c)
 | [],_,W => KeepsOthers.refl W
 |v :: c,o,W =>(KeepsOthers.setCell W (b,o) v).trans (KeepsOthers.setCells b c (o+1) _)
theorem Mz {β:Type}(B t)(f:β->Array Value):Own (fun s W => Blk W B t (f s)):=fun s X Y row h hg c =>
 h.grown hg (fun i => by obtain⟨o,e,l⟩:=c B i.symm;rw[show X.heap[B]? =_ from h]at e;cases e;cases l)
structure Dh (w0:World) where
 i:Int
 d:Aj
 cs:List Value
 fk:List Addr
 ok:Af w0 fk cs d
theorem back1_in(l Bs n₀:Nat)(A c fs)(L:List Aj)(u)(hr:rSl 9 Af u fs (.slice A L.length c) L)(am:n₀=u.heap.size)(J Jx:List (Dh u)->World->Prop)(n:Nat)(hn:1<=n)(hY:∀pre x W,J pre W->pre.length<L.length->YieldAt Fence.wide (n - 1) prog l #[int i64 x.i,.agg x.cs.toArray] W fun e y =>
   (e= .returned (.bool true)/\J (pre ++ [x]) y/\Below n₀ W y)∨(e= .returned (.bool false)/\Jx (pre ++ [x]) y))(W)(af:Below n₀ u W)(ae:u.cell? ⟨Bs,0,none⟩=some (.slice A L.length c))(h0:J [] W):
  CallsIn Fence.wide n prog 276 #[.func (.yield l) #[] #[],.pointer (some (zE Bs))] W fun e y =>(∃v,e= .returned v)/\
   ((∃ys,ys.map Dh.d=L.reverse/\J ys y)∨(∃pre,(∃k,pre.map Dh.d=L.reverse.take k)/\Jx pre y)):=by
 obtain⟨A',c',e,hc,hm,hx⟩:=rSl.at_ Af.X zZ hr;injection e with e1 _ e3
 subst e1 e3;have HX:=zq hx;have au:=zq af;have aj:Bs<n₀:=by rw[am];exact World.block_lt_of_cell? _ _ ae
 have ah:=zq (fun(y:World) (h:Below n₀ u y) =>(h.cell (p:=⟨Bs,0,none⟩) aj).T ae);have HY:=zq hY;have a4:=ah.o W af;clear hx ae hY af;refine callsIn_of_wp func276 rfl trivial ?_ rfl;simp only[ntmps276,bD,List.length_cons,List.length_nil,Nat.reduceAdd,Nat.reduceSub,Array.replicate_succ,Array.replicate_zero,List.push_toArray,List.append_toArray,List.nil_append,List.cons_append];gi_wp2
 gi_loopw [3] (fun i wr =>∃k:Nat,k<=L.length/\i= int i64 ((k:Int) - 1)/\Hid (Below n₀ u wr)/\Hid (∃pre:List (Dh u),pre.map Dh.d=L.reverse.take (L.length - k)/\pre.length=L.length - k/\J pre wr))
  (fun i _ =>(intOf i+1).toNat)
 ·exact⟨L.length,aD _,by go_num,au,[],by simp,by simp,h0⟩
 ·obtain⟨k,hk,rfl,HB,ab⟩:=hrel;obtain⟨pre,s,a6,hJ⟩:=ab.o;by_cases ax:k=0
  ·subst ax;have HJ:=zq hJ;have r:=zq s;clear hJ s;gi_wp2
   go_end0
   exact⟨⟨_,rfl⟩,.inl ⟨pre,by rw[r.o,Nat.sub_zero,<-List.length_reverse,bA],HJ.o⟩⟩
  ·obtain⟨m,rfl⟩:∃m,k=m+1:=⟨k - 1,by omega⟩;have ag:m<L.length:=by omega
   have r1:((m+1:Nat):Int) - 1=(m:Int):=by omega
   rw[r1];have a5:(0:Int)<=(m:Int):=by omega
   obtain⟨ad,b,o,cs,fk,rfl,f⟩:=HX.o m ag;have a2:=f.place;have aw:b<n₀:=by rw[am];exact f.lt
   have HR:Hid (wr.rangeAt b o cs):=fun q v hq => by
    have an:q<cs.length:=(List.getElem?_eq_some_iff.1 hq).1;rw[HB.o.cell (p:=⟨b,o+q,none⟩) aw,f.cell q an,<-hq];exact(aO an).symm
   have aa:=f.len;have a3:=ah.o wr HB.o;obtain⟨x,az,a0,ao⟩:∃x:Dh u,x.i=(m:Int)/\x.cs=cs/\x.d=L[m]:=⟨⟨m,L[m],cs,fk,f.reads⟩,rfl,rfl,rfl⟩;have ai:=zq ao;have ap:=HY.o pre x wr hJ zZ;rw[az,a0]at ap;obtain⟨fn,tmps,aq,a1,hy,hR⟩:=ap;have av:=zq hR;have r:=zq s;have ay:(prog.info? 105).map (·.size)=some cs.length:=by rw[aa];kernel_rfl
   clear f hR ao hJ s aa ab;gi_wp2_with (refine GX rfl 105 (.tmp 15) rfl b o rfl cs _ HR.o underlying105 rfl ay ?_)
   refine av.o.mono ?_;rintro e W3 (⟨rfl,ak,al⟩|⟨rfl,z⟩)
   ·have ac:=zq ak;have ar:=zq al;clear ak al;gi_wp2
    go_roundw
    ·refine⟨m,by omega,by go_num,HB.o.T ar.o,pre ++ [x],?_,by simp;omega,ac.o⟩;rw[List.map_append,r.o,List.map_cons,List.map_nil,ai.o];have e:L.length - m=(L.length - (m+1))+1:=by omega
     rw[e,List.take_add_one,List.getElem?_reverse zZ];have e2:L.length - 1 - (L.length - (m+1))=m:=by omega
     rw[e2,aO ag];rfl
    ·simp[intOf]
   ·have ac:=zq z;clear z;gi_wp2
    refine bodyPost_ret (results_none rfl _ _ _) rfl ?_;refine⟨⟨_,rfl⟩,.inr ⟨pre ++ [x],⟨L.length - m,?_⟩,ac.o⟩⟩;rw[List.map_append,r.o,List.map_cons,List.map_nil,ai.o];have e:L.length - m=(L.length - (m+1))+1:=by omega
    rw[e,List.take_add_one,List.getElem?_reverse zZ];have e2:L.length - 1 - (L.length - (m+1))=m:=by omega
    rw[e2,aO ag];rfl
theorem Rf(h p:Nat)(A c fs)(L:List Aj)(e)(hr:rSl 9 Af e fs (.slice A L.length c) L)(f:p=e.heap.size)(n:Nat)(hn:1<=n)(o:e.cell? ⟨h,0,none⟩=some (.slice A L.length c)):
  SeqStopsK Fence.wide n prog 276 #[.pointer (some (zE h))] (fun x:Dh e => #[Value.int .i64 x.i,.agg x.cs.toArray]) (Below p) (fun y => y.map Dh.d=L.reverse) (fun pre =>∃k,pre.map Dh.d=L.reverse.take k) L.length e:=fun l J q W s _ _ u r =>
 back1_in l h p A c fs L e hr f J q n hn u W (f ▸ s) o r
theorem Rg(A n c)(w:World):Calls prog 262 #[.slice A n c] w fun e w' => e= .returned (.func (.func 276) #[] #[.pointer (some (zE w))])/\w'=w.alloc (.cells #[.slice A n c] 99):=by
 go_enter func262,ntmps262
 go_wp2
 go_ret
 exact⟨rfl,rfl⟩
