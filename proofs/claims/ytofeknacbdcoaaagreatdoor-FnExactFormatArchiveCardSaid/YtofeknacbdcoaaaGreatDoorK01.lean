/- Part 1 of the proof. -/
import Derived.Test.YtofeknacbdcoaaaGreatDoorK00
import Derived.Test.YtofeknacbdcoaaaGreatDoorRows
import Derived.WalkKit
import Derived.WalkSpells
import Derived.WalkLawsBesides
import Derived.Deep.QuietTactic
import Derived.BigQuiet
import Derived.Lib.Hide
import Derived.Deep.AppendLies
import Derived.Deep.OwnRows
import Derived.Lib.QuietBelow
import Derived.Maps.AppendAt
import Derived.Laws.CopyRow
import Derived.Deep.MidRow
import Derived.Laws.MakeOwn
import Derived.ProofKit
import Derived.Deep.Slices
import Derived.ChangeArms
set_option maxHeartbeats 8000000
set_option maxRecDepth 100000
set_option linter.unusedVariables false
set_option linter.unusedSimpArgs false
open Go.Proofs.Tryz
open Go.Value (int)
open Go.IntKind (i64)
namespace Go.Proofs.YtofeknacbdcoaaaGreatDoor
open Go.RowKit
theorem Of(a:Addr)(n):(a.add n).block =a.block:=by unfold Addr.add;split <;> rfl
theorem JK(a:Addr)(i j:Nat):(a.add i).add j=a.add (i+j):=by
 unfold Addr.add;by_cases c:i=0 <;> by_cases e:j=0 <;> simp[c,e,Nat.add_assoc]
theorem addZero(a:Addr):a.add 0=a:=by unfold Addr.add;simp
theorem addInj(a:Addr)(i j:Nat)(h:a.add i=a.add j):i=j∨a.spot.isSome:=by
 unfold Addr.add at h;cases a with
 |mk b o s =>
  cases s with
  |some x => right;rfl
  |none =>
   left
   by_cases c:i=0 <;> by_cases e:j=0 <;> simp_all
theorem AT {B a w}(h:Below B a w)(n):Below B a (w.drewN n):=⟨h.os,h.tape,h.output,h.size,h.block⟩
def Bf(ad:Addr)(n:Nat):List Addr:=(List.range n).map ad.add
theorem Bt {ad}{n:Nat}{a:Addr}:a∈Bf ad n↔∃k,k<n/\a=ad.add k:=by
 simp[Bf,eq_comm]
theorem N8(ad)(n m:Nat):Bf ad (n+m)=Bf ad n ++ Bf (ad.add n) m:=by
 unfold Bf;rw[List.range_add,List.map_append,List.map_map];congr 1
 apply List.map_congr_left
 intro k _;simp[JK]
theorem FG {ad:Addr}{n}(h:ad.spot=none):(Bf ad n).Nodup:=by
 unfold Bf;rw[List.nodup_iff_pairwise_ne,List.pairwise_map];refine List.Pairwise.imp ?_ (List.nodup_range (n:=n));intro a b c e;rcases addInj _ _ _ e with e|e
 ·exact c e
 ·rw[h]at e;cases e
def AV(fs:List Addr)(w w':World):Prop:=∀a,a∈fs->w'.cell? a=w.cell? a
theorem AV.left {fs c:List Addr}{w w':World}(h:AV (fs ++ c) w w'):AV fs w w':=fun a e => h a (bM _ e)
theorem AV.right {fs c:List Addr}{w w':World}(h:AV (fs ++ c) w w'):AV c w w':=fun a e => h a (bO _ e)
theorem AV.mem {c:List (List Addr)}{w w'}(h:AV c.flatten w w'){fs:List Addr}(f:fs∈c):AV fs w w':=fun a e => h a (List.mem_flatten.2 ⟨fs,f,e⟩)
theorem AV.refl(fs w):AV fs w w:=fun _ _ => rfl
def FJ(fs:List Addr)(w:World):Prop:=∀a,a∈fs->a.block<w.heap.size
theorem AV.of_below {fs:List Addr}{B:Nat}{w w'}(e:∀a,a∈fs->a.block<B)(h:Below B w w'):AV fs w w':=fun a c => h.cell (e a c)
abbrev AC (α:Type):=World->List Addr->List Value->α->Prop
def BE {α:Type}(R:AC α):Prop:=∀w w' fs cs d,R w fs cs d->AV fs w w'->R w' fs cs d
def BN {α:Type}(R:AC α):Prop:=∀w fs cs d,R w fs cs d->FJ fs w
def GL {α:Type}(k:Nat)(R:AC α):Prop:=∀w fs cs d,R w fs cs d->cs.length=k
def Bo(b:UInt8):Value:=.int .u8 (b.toNat:Int)
def Aw:AC Int:=fun _ fs cs x => fs= []/\cs= [int i64 x]/\ -9223372036854775808<=x/\x<=9223372036854775807
def Al:AC UInt8:=fun _ fs cs x => fs= []/\cs= [Bo x]
def Dx:AC ByteArray:=fun _ fs cs x => fs= []/\cs= [.string x]/\x.size<=9223372036854775807
def rSl {α:Type}(k:Nat)(R:AC α)(w:World)(fs:List Addr)(v:Value)(ds:List α):Prop :=
 ∃(A:Option Addr) (c:Nat),v= .slice A ds.length c/\ds.length<=c/\c<=9223372036854775807/\
  ((ds= []/\fs= [])∨∃(l:Addr) (e:List (List Value)) (f:List (List Addr)),A=some l/\e.length=ds.length/\f.length=ds.length/\fs=Bf l (ds.length * k) ++ f.flatten/\
   ∀i,(h:i<ds.length)->∃(n:i<e.length) (o:i<f.length),e[i].length =k/\(∀j,(hj:j<e[i].length)->w.cell? (l.add (i * k+j))=some e[i][j])/\R w f[i] e[i] ds[i])
theorem rSl.keep {α k}{R:AC α}(hR:BE R){w w' fs v}{ds:List α}(h:rSl k R w fs v ds)(r:AV fs w w'):rSl k R w' fs v ds:=by
 obtain⟨A,c,e,h1,h2,f⟩:=h;refine⟨A,c,e,h1,h2,?_⟩;rcases f with f|⟨u,l,n,x,y,z,o,f⟩
 ·exact .inl f
 ·refine .inr ⟨u,l,n,x,y,z,o,fun i p => ?_⟩;obtain⟨q1,q2,s,q4,q5⟩:=f i p;subst o;refine⟨q1,q2,s,fun j q => ?_,hR _ _ _ _ _ q5 (r.right.mem (aT _))⟩;rw[r.left _ (Bt.2 ⟨i * k+j,?_,rfl⟩)]
  ·exact q4 j q
  ·rw[s]at q;calc i * k+j<i * k+k:=by omega
    _=(i+1) * k:=by rw[Nat.add_mul];omega
    _<=ds.length * k:=Nat.mul_le_mul_right _ p
theorem rSl.there {α k}{R:AC α}(z:BN R){w fs v}{ds:List α}(h:rSl k R w fs v ds):FJ fs w:=by
 obtain⟨A,c,e,h1,h2,n⟩:=h;rcases n with⟨_,rfl⟩|⟨ad,x,y,e1,e2,e3,rfl,n⟩
 ·intro a l;cases l
 ·intro a l;rcases List.mem_append.1 l with l|l
  ·obtain⟨q,hq,rfl⟩:=Bt.1 l;have p:0<k:=by
    rcases Nat.eq_zero_or_pos k with e|e
    ·subst e;simp at hq
    ·exact e
   have o:q / k<ds.length:=by rw[Nat.div_lt_iff_lt_mul p];exact hq
   obtain⟨q1,q2,r,s,u⟩:=n (q / k) o;have hm:q % k<k:=Nat.mod_lt _ p;have:=s (q % k) (by rw[r];exact hm);rw[show q / k * k+q % k=q from by rw[Nat.mul_comm];exact Nat.div_add_mod q k]at this;exact World.block_lt_of_cell? _ _ this
  ·obtain⟨f,hf,hm⟩:=List.mem_flatten.1 l;obtain⟨i,o,rfl⟩:=aY hf;obtain⟨q1,q2,r,s,u⟩:=n i zZ;exact z _ _ _ _ u a hm
theorem rSl.B {α k}{R:AC α}(e:BE R)(c:BN R){w w' fs v}{ds:List α}(h:rSl k R w fs v ds)(hb:Below w w w'):rSl k R w' fs v ds :=
 h.keep e (.of_below (h.there c) hb)
def Ai {α:Type}(k:Nat)(R:AC α):AC (List α):=fun w fs cs ds =>∃v,cs= [v]/\rSl k R w fs v ds
theorem Ai.L {α k}{R:AC α}(c:BE R):BE (Ai k R):=fun _ _ _ _ _ ⟨v,e,h⟩ f =>⟨v,e,h.keep c f⟩
theorem Ai.X {α k}{R:AC α}(c:BN R):BN (Ai k R):=fun _ _ _ _ ⟨_,_,h⟩ => h.there c
theorem Ai.wide {α k}{R:AC α}:GL 1 (Ai k R):=fun _ _ _ _ ⟨_,e,_⟩ => by rw[e];rfl
theorem Aw.L:BE Aw:=fun _ _ _ _ _ h _ => h
theorem Aw.X:BN Aw:=fun _ _ _ _ h a c => by rw[h.1]at c;cases c
theorem Al.L:BE Al:=fun _ _ _ _ _ h _ => h
theorem Al.X:BN Al:=fun _ _ _ _ h a c => by rw[h.1]at c;cases c
theorem Dx.L:BE Dx:=fun _ _ _ _ _ h _ => h
theorem Dx.X:BN Dx:=fun _ _ _ _ h a c => by rw[h.1]at c;cases c
abbrev Ah:=rSl 1 Al
abbrev AW:=rSl 1 Aw
abbrev CC:=rSl 1 Dx
theorem Ah.B {w w' fs v}{ds:List UInt8}(h:Ah w fs v ds)(hb:Below w w w'):Ah w' fs v ds:=rSl.B Al.L Al.X h hb
theorem Ah.open_ {w fs v}{bs:List UInt8}(h:Ah w fs v bs):
  ∃A c,v= .slice A bs.length c/\bs.length<=c/\c<=9223372036854775807/\∀k,(l:k<bs.length)->∃f,A=some f/\f.add k∈fs/\(f.add k).block <w.heap.size/\w.cell? (f.add k)=some (.int .u8 (bs[k].toNat:Int)):=by
 obtain⟨A,c,e,s,h2,i⟩:=h;refine⟨A,c,e,s,by omega,fun k l => ?_⟩;rcases i with⟨rfl,_⟩|⟨f,o,r,p,y,z,q,i⟩
 ·cases l
 ·obtain⟨q1,q2,q3,u,q5,x⟩:=i k l;have n:=u 0 zZ;simp only[x,aW,Nat.mul_one,bC]at n;exact⟨f,p,by rw[q];exact bM _ (Bt.2 ⟨k,by omega,rfl⟩),World.block_lt_of_cell? _ _ n,n⟩
theorem Ah.close_ {w:World}{ad:Addr}{c:Nat}{bs:List UInt8}(h1:bs.length<=c)(l:c<=9223372036854775807)(h:∀k,(hk:k<bs.length)->w.cell? (ad.add k)=some (.int .u8 (bs[k].toNat:Int))):
  Ah w (Bf ad bs.length) (.slice (some ad) bs.length c) bs:=by
 refine⟨some ad,c,rfl,h1,by omega,.inr ⟨ad,bs.map fun b => [Bo b],bs.map fun _ => [],rfl,by simp,by simp,?_,fun i e =>⟨by simpa using e,by simpa using e,by simp,fun j f => ?_,?_⟩⟩⟩
 ·have:(bs.map fun _ =>([]:List Addr)).flatten = []:=by simp[List.flatten_eq_nil_iff]
  rw[this];simp
 ·simp at f;subst f;simpa [Bo]using h i e
 ·simp[Al]
theorem Ah.empty {w A}{c:Nat}(e:c<=9223372036854775807):Ah w [] (.slice A 0 c) []:=⟨A,c,rfl,Nat.zero_le _,by omega,.inl ⟨rfl,rfl⟩⟩
theorem C5 {a b:Bool}(h:a=b):Ending.returned (.bool a)= .returned (.bool b):=by rw[h]
theorem I1 {a b:ByteArray}(h:a=b):Ending.returned (.string a)= .returned (.string b):=by rw[h]
theorem bneU8t {a b:UInt8}(h:a≠b):(((a.toNat:Int) !=(b.toNat:Int)):Bool)=true:=by
 rw[bne_iff_ne];intro e;exact h (UInt8.toNat_inj.1 zZ)
theorem bneU8f {a b:UInt8}(h:a=b):(((a.toNat:Int) !=(b.toNat:Int)):Bool)=false:=by
 subst h;simp
theorem CZ {a b:Nat}(h:a≠b):(((a:Int) !=(b:Int)):Bool)=true:=by rw[bne_iff_ne];omega
theorem CY {a b:Nat}(h:a=b):(((a:Int) !=(b:Int)):Bool)=false:=by subst h;simp
theorem Kf {α}{xs c:List α}{k:Nat}(h:xs.take k=c.take k)(h1:k<xs.length)(e:k<c.length)(f:xs[k] =c[k]):xs.take (k+1)=c.take (k+1):=by
 rw[aK h1,aK e,h,f]
structure AL (lo:Nat) (w:World) (fs:List Addr):Prop where
 nodup:fs.Nodup
 from_:∀a,a∈fs->lo<=a.block
 free:∀a,a∈fs->w.frozen? a=false
structure Bn (fs:List Addr) (w w':World):Prop where
 os:w'.os=w.os
 tape:w'.tape=w.tape
 output:w'.output=w.output
 size:w.heap.size<=w'.heap.size
 cell:∀a:Addr,a∉fs->a.block<w.heap.size->w'.cell? a=w.cell? a
 frozen:∀a:Addr,a.block<w.heap.size->w'.frozen? a=w.frozen? a
 block:∀k,k<w.heap.size->(∀a,a∈fs->a.block≠k)->w'.heap[k]? =w.heap[k]?
theorem Bn.refl(fs w):Bn fs w w:=⟨rfl,rfl,rfl,aD _,fun _ _ _ => rfl,fun _ _ => rfl,fun _ _ _ => rfl⟩
theorem Bn.M {fs f:List Addr}{w w'}(h:Bn fs w w')(i:∀a,a∈fs->a∈f):Bn f w w' :=
 ⟨h.os,h.tape,h.output,h.size,fun a c hb => h.cell a (fun e => c (i a e)) hb,h.frozen,fun k l e => h.block k l fun a c => e a (i a c)⟩
theorem Bn.T {fs a b c}(h:Bn fs a b)(k:Bn fs b c):Bn fs a c :=
 ⟨k.os.T h.os,k.tape.T h.tape,k.output.T h.output,aZ h.size k.size,fun x e hb =>(k.cell x e (aH hb h.size)).T (h.cell x e hb),
  fun x hb =>(k.frozen x (aH hb h.size)).T (h.frozen x hb),fun x e f =>(k.block x (aH e h.size) f).T (h.block x e f)⟩
theorem Bn.of_below {fs}{w w':World}(h:Below w w w'):Bn fs w w' :=
 ⟨h.os,h.tape,h.output,h.size,fun _ _ hb => h.cell hb,fun _ hb => h.frozen hb,fun k c _ => h.block k c⟩
theorem Bn.setCell {fs a w}(h:Bn fs a w){p:Addr}(c:p∈fs)(u):Bn fs a (w.setCell p u) :=
 h.T ⟨rfl,rfl,rfl,by simp[World.setCell],fun x i _ => World.cell?_setCell_other w p x u (fun e => i (by rw[<-e];exact c)),fun x _ => World.frozen?_setCell w p x u,fun k _ f => Below.heap_setCell w p u k (fun e => f p c e.symm)⟩
theorem Bn.drewN {fs a w}(h:Bn fs a w)(n):Bn fs a (w.drewN n):=⟨h.os,h.tape,h.output,h.size,h.cell,h.frozen,h.block⟩
theorem Bn.B {fs w w'}(h:Bn fs w w'){B:Nat}(i:B<=w.heap.size)(f:∀a,a∈fs->B<=a.block):Below B w w' :=
 ⟨h.os,h.tape,h.output,h.size,fun k l => h.block k zZ fun a c e => by have:=f a c;omega⟩
theorem Bn.same {fs c w w'}(h:Bn fs w w')(i:FJ c w)(f:∀a,a∈c->a∉fs):AV c w w':=fun a e => h.cell a (f a e) (i a e)
theorem AL.keep {lo}{w w':World}{fs}(h:AL lo w fs)(e:∀a,a∈fs->w'.frozen? a=w.frozen? a):AL lo w' fs:=⟨h.nodup,h.from_,fun a c =>(e a c).T (h.free a c)⟩
theorem AL.wrote {lo w w' fs c}(h:AL lo w fs)(hw:Bn c w w')(f:FJ fs w):AL lo w' fs:=h.keep fun a e => hw.frozen a (f a e)
theorem AL.M {lo c:Nat}{w fs}(h:AL lo w fs)(f:c<=lo):AL c w fs:=⟨h.nodup,fun a e => aZ f (h.from_ a e),h.free⟩
theorem AL.set_ {lo w fs}(h:AL lo w fs)(p u):AL lo (w.setCell p u) fs:=h.keep fun a _ => World.frozen?_setCell w p a u
theorem AV.set_ {fs:List Addr}(w){p:Addr}{lo:Nat}(f:∀a,a∈fs->lo<=a.block)(h:p.block<lo)(u):AV fs w (w.setCell p u) :=
 fun a c => World.cell?_setCell_other w p a u fun e => by have:=f a c;rw[<-e]at this;omega
theorem Nu {ad}{n i j:Nat}(h:(Bf ad n).Nodup)(hi:i<n)(l:j<n)(e:ad.add i=ad.add j):i=j:=by
 unfold Bf at h;rw[List.nodup_iff_pairwise_ne,List.pairwise_iff_getElem]at h;rcases Nat.lt_trichotomy i j with f|o|c
 ·have:=h i j (by simpa using hi) (by simpa using l) f;simp at this;exact absurd e this
 ·exact o
 ·have:=h j i (by simpa using l) (by simpa using hi) c;simp at this;exact absurd e.symm this
theorem Ah.form {w fs v}{bs:List UInt8}(h:Ah w fs v bs):
  ∃A c,v= .slice A bs.length c/\bs.length<=c/\c<=9223372036854775807/\((bs= []/\fs= [])∨∃n,A=some n/\fs=Bf n bs.length/\∀k,(p:k<bs.length)->w.cell? (n.add k)=some (.int .u8 (bs[k].toNat:Int))):=by
 obtain⟨A,c,e,y,h2,l⟩:=h;refine⟨A,c,e,y,by omega,?_⟩;rcases l with l|⟨n,s,o,u,e2,e3,x,l⟩
 ·exact .inl l
 ·have hz:o.flatten= []:=by
   rw[List.flatten_eq_nil_iff];intro f z;obtain⟨i,hi,rfl⟩:=aY z;obtain⟨_,_,_,_,q,_⟩:=l i zZ;exact q
  refine .inr ⟨n,u,by rw[x,hz];simp,fun k p => ?_⟩;obtain⟨q1,q2,q3,q4,q5,q6⟩:=l k p;have r:=q4 0 zZ;simp only[q6,aW,Nat.mul_one,bC]at r;exact r
theorem Ah.store {w fs ad}{c n:Nat}{bs:List UInt8}(h:Ah w fs (.slice (some ad) n c) bs)(hn:fs.Nodup){j:Nat}(o:j<bs.length)(b:UInt8):
  Ah (w.setCell (ad.add j) (.int .u8 (b.toNat:Int))) fs (.slice (some ad) n c) (bs.set j b):=by
 obtain⟨A,c',e,y,z,f⟩:=Ah.form h;injection e with s u x
 subst u x;rcases f with⟨rfl,_⟩|⟨q,l,p,f⟩
 ·simp at o
 ·rw[<-s]at l;injection l with l
  subst l;have:=Ah.close_ (w:=w.setCell (ad.add j) (.int .u8 (b.toNat:Int))) (ad:=ad) (c:=c) (bs:=bs.set j b) (by simpa using y) z (fun k i => by
   simp only[List.length_set]at i;by_cases e:j=k
   ·subst e;rw[World.cell?_setCell_same _ _ _ (f j i),List.getElem_set_self]
   ·rw[World.cell?_setCell_other,List.getElem_set_ne e]
    ·exact f k i
    ·intro r;rw[p]at hn;exact e (Nu hn o i r))
  rw[List.length_set,<-p]at this;exact this
def Blk(w:World)(g:Nat)(t:TypeId)(cs:Array Value):Prop:=w.heap[g]? =some (.cells cs t (0,0))
section
variable {w w':World} {g:Nat} {t:TypeId} {cs:Array Value}
theorem Blk.lt(h:Blk w g t cs):g<w.heap.size:=by
 rcases Nat.lt_or_ge g w with e|c
 ·exact e
 ·unfold Blk at h;rw[Array.getElem?_eq_none c]at h;cases h
theorem Blk.cell(h:Blk w g t cs)(i:Nat):w.cell? ⟨g,i,none⟩=cs[i]?:=cell_of_row w g i cs t (0,0) h
theorem Blk.frozen(h:Blk w g t cs)(i:Nat):w.frozen? ⟨g,i,none⟩=false:=by
 unfold Blk at h;simp[World.frozen?,h]
theorem Blk.new(w:World)(t)(cs:Array Value):Blk (w.alloc (.cells cs t)) w t cs:=heap_alloc_new w _
theorem Blk.drewN(h:Blk w g t cs)(n):Blk (w.drewN n) g t cs:=h
theorem Blk.alloc(h:Blk w g t cs)(o):Blk (w.alloc o) g t cs:=(Below.heap_alloc w o g h.lt).T h
theorem Blk.set_(h:Blk w g t cs)(i:Nat)(u:Value):Blk (w.setCell (g,i) u) g t (cs.setIfInBounds i u):=by
 unfold Blk at h⊢;simp[World.setCell,Array.getElem?_modify,h]
theorem Blk.far(h:Blk w g t cs){p:Addr}(c:g≠p.block)(u):Blk (w.setCell p u) g t cs:=(Below.heap_setCell w p u g c).T h
theorem Blk.B {B}(h:Blk w g t cs)(hb:Below B w w')(hg:g<B):Blk w' g t cs:=(hb.block g hg).T h
theorem Blk.grown {row}(h:Blk w g t cs)(hb:w.grownBy w' row)(hg:some g≠row):Blk w' g t cs:=(hb.block g h.lt hg).T h
end
theorem Blk.new1(w:World)(o t)(cs:Array Value):Blk ((w.alloc o).alloc (.cells cs t)) (w.heap.size+1) t cs:=by
 have:=Blk.new (w.alloc o) t cs;rwa [World.size_alloc]at this
theorem Blk.new2(w:World)(o c t)(cs:Array Value):Blk (((w.alloc o).alloc c).alloc (.cells cs t)) (w.heap.size+1+1) t cs:=by
 have:=Blk.new ((w.alloc o).alloc c) t cs;rwa [World.size_alloc,World.size_alloc]at this
theorem Blk.at_ {w g t}{cs:Array Value}(h:Blk w g t cs)(i:Nat){v}(hv:cs[i]? =some v):w.cell? ⟨g,i,none⟩=some v:=(h.cell i).T hv
theorem CO(g k:Nat):((zE g):Addr).add k=⟨g,k,none⟩:=by unfold Addr.add;split <;> simp_all
theorem quietL {P:Program}{f:FuncId}{args:Array Value}{w:World}{n}{v:Value}(h:Calls P f args (w.drewN n) fun e w' => e= .returned v/\w.drewN n=w'):Calls P f args (w.drewN n) fun e c => e= .returned v/\∃m,c=w.drewN m :=
 h.M fun _ _ i =>⟨i.1,n,i.2.symm⟩
def FK(c:List Value)(z:Value)(j:Nat):Array Value:=(c.take j ++ List.replicate (c.length - j) z).toArray
theorem Rx(c z j):(FK c z j).size =c.length:=by simp[FK];omega
theorem Rz(c:List Value)(z:Value)(n:Nat)(h:n=c.length):madeCells #[z] n=FK c z 0:=by
 subst h;apply Array.toList_inj.1
 rw[toList_madeCells_one];simp[FK]
theorem Ry {c:List Value}{z}{j:Nat}(h:j<c.length):(FK c z j).setIfInBounds j c[j] =FK c z (j+1):=by
 apply Array.toList_inj.1
 rw[Array.toList_setIfInBounds];unfold FK;apply bK
 ·simp;omega
 ·intro i f l;simp only[List.getElem_set,List.getElem_append,aX,List.getElem_take,List.getElem_replicate];by_cases e:j=i
  ·subst e;simp;omega
  ·rw[aJ e];by_cases h:i<j
   ·rw[dif_pos zZ,dif_pos zZ]
   ·rw[dif_neg zZ,dif_neg zZ]
theorem Rw(c z):FK c z c.length=c.toArray:=by simp[FK]
theorem SX(c:List Value)(z j)(i:Nat)(h:i<c.length):∃u,(FK c z j)[i]? =some u:=by
 have:i<(FK c z j).size:=by rw[Rx];exact h
 exact⟨_,Array.getElem?_eq_getElem this⟩
theorem Ah.of_blk {w g T}{bs:List UInt8}(h:Blk w g T (bs.map Bo).toArray)(e:bs.length<=1000000000000):
  Ah w (Bf (zE g) bs.length) (.slice (some (zE g)) bs.length bs.length) bs :=
 Ah.close_ (aD _) zZ fun k c => by
  rw[CO,h.cell];simp[Bo,c]
def mkByte(k:Nat):UInt8:=UInt8.ofNat k
def mkBytes(k n:Nat):List UInt8:=(List.range n).map fun i => mkByte (k+i)
theorem IF {α}{k:Nat}:∀(e:List (List α)),(∀c,c∈e->c.length=k)->e.flatten.length=e.length * k
 | [],_ => by simp
 |c :: r,h => by
  rw[List.flatten_cons,aU,h c zX,IF r (fun x f => h x (by simp[f])),List.length_cons,Nat.add_mul,Nat.one_mul,Nat.add_comm]
theorem El {α}{k:Nat}:∀(e:List (List α)),(∀c,c∈e->c.length=k)->∀(i j:Nat) (h:i<e.length),j<k->e.flatten[i * k+j]? =e[i][j]?
 | [],_,_,_,h,_ => by cases h
 |c :: r,h,0,j,_,hj => by
  have:=h c zX;simp only[Nat.zero_mul,Nat.zero_add,List.flatten_cons,aW];rw[List.getElem?_append_left zZ]
 |c :: r,h,i+1,j,hi,hj => by
  have f:=h c zX;have:=El r (fun x l => h x (by simp[l])) i j (by simpa using hi) hj;simp only[List.flatten_cons,bF];rw[List.getElem?_append_right (by rw[f,Nat.add_mul];omega),f,<-this];congr 1
  rw[Nat.add_mul];omega
theorem JX {α}{k:Nat}:∀(e:List (List α)),(∀c,c∈e->c.length=k)->∀i,i<=e.length->e.flatten.take (i * k)=(e.take i).flatten
 | [],_,i,hi => by simp at hi;subst hi;simp
 |c :: r,h,0,_ => by simp
 |c :: r,h,i+1,hi => by
  have f:=h c zX;rw[List.flatten_cons,List.take_succ_cons,List.flatten_cons,<-JX r (fun x l => h x (by simp[l])) i (by simpa using hi),show(i+1) * k=c.length+i * k from by rw[f,Nat.add_mul];omega,List.take_length_add_append]
theorem JW {α}{k:Nat}:∀(e:List (List α)),(∀c,c∈e->c.length=k)->∀i,i<=e.length->e.flatten.drop (i * k)=(e.drop i).flatten
 | [],_,i,hi => by simp
 |c :: r,h,0,_ => by simp
 |c :: r,h,i+1,hi => by
  have f:=h c zX;rw[List.flatten_cons,List.drop_succ_cons,<-JW r (fun x l => h x (by simp[l])) i (by simpa using hi),show(i+1) * k=c.length+i * k from by rw[f,Nat.add_mul];omega,List.drop_length_add_append]
def Ak {α:Type}(k:Nat)(E:TypeId)(R:AC α)(w:World)(base:Nat)(v:Value)(ds:List α)(fs:List Addr):Prop :=
 ∃(c:List (List Value)) (e:List (List Addr)),c.length=ds.length/\e.length=ds.length/\fs=e.flatten/\w.ownsRow base E k v ds.length c.flatten/\
  (∀i,(h:i<ds.length)->∃(f:i<c.length) (l:i<e.length),c[i].length =k/\R w e[i] c[i] ds[i])/\(∀a,a∈fs->v.ownBlock≠some a.block)
theorem Ak.cells {α k E}{R:AC α}{w base v}{ds:List α}{fs}(h:Ak k E R w base v ds fs):∃xs,w.ownsRow base E k v ds.length xs:=by
 obtain⟨c,_,_,_,_,h4,_⟩:=h;exact⟨_,h4⟩
theorem II {w:World}{base E k v n xs r}(h:w.ownsRow base E k v n xs)(x:w.ownsRow base E k v n r):xs=r:=by
 obtain⟨l1,t1⟩:=h;obtain⟨l2,t2⟩:=x;rcases t1 with⟨rfl,u⟩|⟨g1,cap,s,rfl,y,i,_,_,_,l⟩
 ·rw[u,Nat.zero_mul]at l1 l2;rw[bN l1,bN l2]
 ·rcases t2 with⟨e,_⟩|⟨g2,p,q,e,z,c,_,_,_,o⟩
  ·cases e
  ·injection e with f eb ec
   injection f with f
   injection f with f
   subst f;rw[i]at c;injection c with c
   injection c with c
   subst c;rw[<-l,<-o]
section
variable {α:Type} {k:Nat} {E:TypeId} {R:AC α} {w w':World} {base:Nat} {v:Value} {ds:List α} {fs:List Addr}
theorem Ak.start(h:w.ownsRow base E k v 0 []):Ak k E R w base v [] []:=⟨[],[],rfl,rfl,rfl,h,(fun _ h => by cases h),(fun _ h => by cases h)⟩
theorem Ak.M {c:Nat}(h:Ak k E R w base v ds fs)(hb:c<=base):Ak k E R w c v ds fs:=by
 obtain⟨e,i,n,o,p,⟨s,h4⟩,q,r⟩:=h;refine⟨e,i,n,o,p,⟨s,?_⟩,q,r⟩;rcases h4 with h|⟨g,cap,f,u,l,h⟩
 ·exact .inl h
 ·exact .inr ⟨g,cap,f,u,aZ hb l,h⟩
theorem Ak.lt(h:Ak k E R w base v ds fs):∀b,v.ownBlock=some b->base<=b/\b<w.heap.size:=by
 obtain⟨_,_,_,_,_,h4,_,_⟩:=h;exact fun b hb => h4.lt b hb
theorem Ak.there(n:BN R)(h:Ak k E R w base v ds fs):FJ fs w:=by
 obtain⟨c,e,r,s,rfl,h4,l,u⟩:=h;intro a o;obtain⟨f,p,hm⟩:=List.mem_flatten.1 o;obtain⟨i,x,rfl⟩:=aY p;obtain⟨p1,p2,y,q⟩:=l i zZ;exact n _ _ _ _ q a hm
theorem Ak.keep(u:BE R)(h:Ak k E R w base v ds fs)(hb:∀b,v.ownBlock=some b->w'.heap[b]? =w.heap[b]?)(y:AV fs w w'):Ak k E R w' base v ds fs:=by
 obtain⟨c,f,o,p,rfl,h4,r,s⟩:=h;refine⟨c,f,o,p,rfl,⟨h4.1,?_⟩,fun i x => ?_,s⟩
 ·rcases h4.2 with h|⟨g,cap,e,n,l,hg,q⟩
  ·exact .inl h
  ·exact .inr ⟨g,cap,e,n,l,(hb g (by rw[n];rfl)).T hg,q⟩
 ·obtain⟨p1,p2,z,p4⟩:=r i x;exact⟨p1,p2,z,u _ _ _ _ _ p4 (y.mem (aT p2))⟩
theorem Ak.B(e:BE R)(c:BN R)(h:Ak k E R w base v ds fs)(hb:Below w w w'):Ak k E R w' base v ds fs :=
 h.keep e (fun b f => hb.block b (h.lt b f).2) (AV.of_below (h.there c) hb)
theorem Ak.wrote(n:BE R)(l:BN R)(h:Ak k E R w base v ds fs){c}(hw:Bn c w w')(h1:∀a,a∈c->v.ownBlock≠some a.block)(i:∀a,a∈fs->a∉c):Ak k E R w' base v ds fs :=
 h.keep n (fun b f => hw.block b (h.lt b f).2 fun a o e => h1 a o (by rw[f,e])) (hw.same (h.there l) i)
theorem Ak.length(h:Ak k E R w base v ds fs):∃A c,v= .slice A ds.length c/\ds.length<=c/\c<=9223372036854775807:=by
 obtain⟨l,o,q,r,rfl,h4,s,u⟩:=h;rcases h4.2 with⟨rfl,h⟩|⟨g,cap,n,rfl,hb,hg,f,e,p,i⟩
 ·exact⟨none,0,by rw[h],by omega,by omega⟩
 ·unfold maxLen at e;exact⟨_,_,rfl,f,by omega⟩
theorem Ak.far(h:Ak k E R w base v ds fs):∀a,a∈fs->v.ownBlock≠some a.block:=by
 obtain⟨_,_,_,_,_,_,_,c⟩:=h;exact c
theorem Ak.ones(q:∀w f cs d,R w f cs d->∀u,u∈cs->u.oneCell'=true)(h:Ak k E R w base v ds fs){xs}(s:w.ownsRow base E k v ds.length xs):∀u,u∈xs->u.oneCell'=true:=by
 obtain⟨n,o,y,z,h3,h4,p,h6⟩:=h;intro u l;rw[II s h4]at l;obtain⟨c,r,e⟩:=List.mem_flatten.1 l;obtain⟨i,hi,rfl⟩:=aY r;obtain⟨_,_,_,x⟩:=p i zZ;exact q _ _ _ _ x u e
theorem Ak.reads(h:Ak k E R w base v ds fs):∃o,rSl k R w (o ++ fs) v ds/\o.Nodup/\(∀a,a∈o->v.ownBlock=some a.block)/\(∀a,a∈o->w.frozen? a=false)/\(∀a,a∈o->base<=a.block)/\(∀a,a∈fs->v.ownBlock≠some a.block):=by
 have ab:=h.lt;obtain⟨e,n,h1,y,rfl,⟨hl,h4⟩,h5,h6⟩:=h;have hw:∀c,c∈e->c.length=k:=by
  intro c hc;obtain⟨i,u,rfl⟩:=aY hc;obtain⟨_,_,r,_⟩:=h5 i zZ;exact r
 rcases h4 with⟨rfl,h0⟩|⟨g,cap,f,rfl,hb,hg,x,s,aa,l⟩
 ·have:ds= []:=bN h0;subst this;have:n= []:=bN y;subst this;exact⟨[],⟨none,0,rfl,aD _,by omega,.inl ⟨rfl,rfl⟩⟩,List.nodup_nil,(fun _ h => by cases h),(fun _ h => by cases h),(fun _ h => by cases h),h6⟩
 ·simp only[maxLen]at s;refine⟨Bf (zE g) (ds.length * k),⟨some (zE g),cap,rfl,x,by omega,.inr ⟨(zE g),e,n,rfl,h1,y,rfl,fun i u => ?_⟩⟩,FG rfl,fun a p => ?_,fun a p => ?_,fun a p => ?_,h6⟩
  ·obtain⟨p1,p2,r,p4⟩:=h5 i u;refine⟨p1,p2,r,fun j hj => ?_,p4⟩;rw[CO,cell_of_row w g _ f E (0,0) hg];have hq:i * k+j<ds.length * k:=by
    rw[r]at hj;calc i * k+j<i * k+k:=by omega
     _=(i+1) * k:=by rw[Nat.add_mul];omega
     _<=ds.length * k:=Nat.mul_le_mul_right _ u
   have z:(f.toList.take (ds.length * k))[i * k+j]? =some e[i][j]:=by
    rw[l,El e hw i j p1 zZ];exact aO hj
   rw[List.getElem?_take,aM hq]at z;simpa using z
  ·obtain⟨q,_,rfl⟩:=Bt.1 p;rw[CO];rfl
  ·obtain⟨q,_,rfl⟩:=Bt.1 p;rw[CO];exact frozen_of_row w g q f E hg
  ·obtain⟨q,_,rfl⟩:=Bt.1 p;rw[CO];exact hb
theorem Ak.readsMine(h:Ak k E R w base v ds fs)(hm:AL base w fs):∃f,rSl k R w f v ds/\AL base w f:=by
 obtain⟨f,i,l,n,h4,o,p⟩:=h.reads;refine⟨f ++ fs,i,?_,fun a c => ?_,fun a c => ?_⟩
 ·unfold List.Nodup;refine List.pairwise_append.2 ⟨l,hm.nodup,fun a c b hb e => ?_⟩;subst e;exact p a hb (n a c)
 ·rcases List.mem_append.1 c with c|c
  ·exact o a c
  ·exact hm.from_ a c
 ·rcases List.mem_append.1 c with c|c
  ·exact h4 a c
  ·exact hm.free a c
theorem Ak.insert(hR:BE R)(hF:BN R)(h:Ak k E R w base v ds fs){i:Nat}(hi:i<=ds.length){us:List Value}{f}{d:α}{v' xs}(hx:w.ownsRow base E k v ds.length xs)(hw:w'.ownsRow base E k v' (ds.length+1) (xs.take (i * k) ++ us ++ xs.drop (i * k)))(al:us.length=k)(hg:w.grownBy w' v.ownBlock)(hv:v'.ownBlock=v.ownBlock∨v'.ownBlock=some w)(hr:R w f us d)(ad:∀a,a∈f->v.ownBlock≠some a.block):
  ∃aa,Ak k E R w' base v' (ds.take i ++ d :: ds.drop i) aa/\aa.Perm (fs ++ f):=by
 have r:=h.there hF;obtain⟨o,n,h1,h2,rfl,h4,h5,h6⟩:=h;have ah:∀c,c∈o->c.length=k:=by
  intro c hc;obtain⟨i,hi,rfl⟩:=aY hc;obtain⟨_,_,z,_⟩:=h5 i zZ;exact z
 have ae:=hF _ _ _ _ hr;have s:∀b:Addr,b.block<w.heap.size->v.ownBlock≠some b.block->w'.cell? b=w.cell? b:=fun b hb ak => hg.cell_far b hb (fun e => ak e.symm)
 have ai:(ds.take i ++ d :: ds.drop i).length =ds.length+1:=by simp;omega
 refine⟨(n.take i ++ f :: n.drop i).flatten,⟨o.take i ++ us :: o.drop i,n.take i ++ f :: n.drop i,by simp;omega,by simp;omega,rfl,?_,fun q hq => ?_,fun b hb => ?_⟩,?_⟩
 ·rw[ai];rw[II hx h4,JX o ah i zZ,JW o ah i zZ]at hw;simpa [List.append_assoc]using hw
 ·have af:∀p,(ag:p<ds.length)->∃(h1:p<o.length) (h2:p<n.length),o[p].length =k/\R w' n[p] o[p] ds[p]:=by
   intro p ag;obtain⟨p1,p2,z,p4⟩:=h5 p ag;refine⟨p1,p2,z,hR _ _ _ _ _ p4 fun b hb => ?_⟩;have ac:=List.mem_flatten.2 ⟨_,aT p2,hb⟩;exact s b (r b ac) (h6 b ac)
  rcases Nat.lt_trichotomy q i with ao|he|an
  ·obtain⟨p1,p2,z,p4⟩:=af q zZ;refine⟨by simp;omega,by simp;omega,?_⟩;have e1:(o.take i ++ us :: o.drop i)[q]' zV =o[q]:=by rw[List.getElem_append_left zV];simp
   have u:(n.take i ++ f :: n.drop i)[q]' zV =n[q]:=by rw[List.getElem_append_left zV];simp
   have e3:(ds.take i ++ d :: ds.drop i)[q]'hq=ds[q]' zZ :=by rw[List.getElem_append_left zV];simp
   rw[e1,u,e3];exact⟨z,p4⟩
  ·subst he;refine⟨by simp;omega,by simp;omega,?_⟩;have e1:(o.take q ++ us :: o.drop q)[q]' zV =us:=by rw[List.getElem_append_right zV];simp[Nat.min_eq_left (show q<=o.length by omega)]
   have u:(n.take q ++ f :: n.drop q)[q]' zV =f:=by rw[List.getElem_append_right zV];simp[Nat.min_eq_left (show q<=n.length by omega)]
   have e3:(ds.take q ++ d :: ds.drop q)[q]'hq=d:=by rw[List.getElem_append_right zV];simp[Nat.min_eq_left hi]
   rw[e1,u,e3];exact⟨al,hR _ _ _ _ _ hr fun b hb => s b (ae b hb) (ad b hb)⟩
  ·obtain⟨p,rfl⟩:∃p,q=p+1:=⟨q - 1,by omega⟩;rw[ai]at hq;obtain⟨p1,p2,z,p4⟩:=af p zZ;refine⟨by simp;omega,by simp;omega,?_⟩;have e1:(o.take i ++ us :: o.drop i)[p+1]' zV =o[p]:=by
    rw[List.getElem_append_right zV,List.getElem_cons];simp only[aX,Nat.min_eq_left (show i<=o.length by omega),List.getElem_drop];rw[dif_neg zZ];congr 1;omega
   have u:(n.take i ++ f :: n.drop i)[p+1]' zV =n[p]:=by
    rw[List.getElem_append_right zV,List.getElem_cons];simp only[aX,Nat.min_eq_left (show i<=n.length by omega),List.getElem_drop];rw[dif_neg zZ];congr 1;omega
   have e3:(ds.take i ++ d :: ds.drop i)[p+1]' zV =ds[p]' zZ :=by
    rw[List.getElem_append_right zV,List.getElem_cons];simp only[aX,Nat.min_eq_left hi,List.getElem_drop];rw[dif_neg zZ];congr 1;omega
   rw[e1,u,e3];exact⟨z,p4⟩
 ·have ab:b∈n.flatten∨b∈f:=by
   obtain⟨l,y,x⟩:=List.mem_flatten.1 hb;rcases List.mem_append.1 y with y|y
   ·exact .inl (List.mem_flatten.2 ⟨l,List.mem_of_mem_take y,x⟩)
   ·rcases List.mem_cons.1 y with rfl|y
    ·exact .inr x
    ·exact .inl (List.mem_flatten.2 ⟨l,List.mem_of_mem_drop y,x⟩)
  have am:b.block<w.heap.size:=ab.elim (r b) (ae b);have aj:v.ownBlock≠some b.block:=ab.elim (h6 b) (ad b);rcases hv with e|e
  ·rw[e];exact aj
  ·rw[e];intro u;injection u with u;omega
 ·have:(n.take i ++ f :: n.drop i).Perm (n ++ [f]):=by
   have h0:(n ++ [f])=n.take i ++(n.drop i ++ [f]):=by rw[<-List.append_assoc,List.take_append_drop]
   rw[h0];exact List.Perm.append_left _ (List.perm_append_comm (l₁:=[f]) (l₂:=n.drop i))
  have:=this.flatten;simpa using this
end
section
variable {α:Type} {k:Nat} {E:TypeId} {R:AC α} {w w':World} {base:Nat} {v:Value} {ds:List α} {fs:List Addr}
theorem Ak.extend(hR:BE R)(hF:BN R)(h:Ak k E R w base v ds fs){ds2:List α}{css2:List (List Value)}{fss2:List (List Addr)}{v' xs}(hx:w.ownsRow base E k v ds.length xs)(hw:w'.ownsRow base E k v' (ds.length+ds2.length) (xs ++ css2.flatten))(hc:css2.length=ds2.length)(hf:fss2.length=ds2.length)(hg:w.grownBy w' v.ownBlock)(hv:v'.ownBlock=v.ownBlock∨v'.ownBlock=some w)(hr:∀i,(h:i<ds2.length)->∃(h1:i<css2.length) (h2:i<fss2.length),css2[i].length =k/\R w fss2[i] css2[i] ds2[i])(s:∀a,a∈fss2.flatten->v.ownBlock≠some a.block):
  Ak k E R w' base v' (ds ++ ds2) (fs ++ fss2.flatten):=by
 have c:=h.there hF;obtain⟨o,p,h1,h2,rfl,h4,h5,h6⟩:=h;have x:∀a,a∈fss2.flatten->a.block<w.heap.size:=by
  intro a ha;obtain⟨f,aa,hm⟩:=List.mem_flatten.1 ha;obtain⟨i,hi,rfl⟩:=aY aa;obtain⟨p1,p2,p3,y⟩:=hr i zZ;exact hF _ _ _ _ y a hm
 have n:∀b:Addr,b.block<w.heap.size->v.ownBlock≠some b.block->w'.cell? b=w.cell? b:=fun b hb ab => hg.cell_far b hb (fun e => ab e.symm)
 refine⟨o ++ css2,p ++ fss2,by simp[h1,hc],by simp[h2,hf],by simp,?_,fun q hq => ?_,fun b hb => ?_⟩
 ·rw[aU,List.flatten_append,<-II hx h4];exact hw
 ·rcases Nat.lt_or_ge q ds.length with u|ac
  ·obtain⟨p1,p2,p3,y⟩:=h5 q u;refine⟨by simp;omega,by simp;omega,?_⟩;rw[List.getElem_append_left p1,List.getElem_append_left p2,List.getElem_append_left u];refine⟨p3,hR _ _ _ _ _ y fun b hb => ?_⟩;have l:=List.mem_flatten.2 ⟨_,aT p2,hb⟩;exact n b (c b l) (h6 b l)
  ·rw[aU]at hq;obtain⟨p1,p2,p3,y⟩:=hr (q - ds.length) zZ;refine⟨by simp;omega,by simp;omega,?_⟩;have e1:(o ++ css2)[q]' zV =css2[q - ds.length]:=by rw[List.getElem_append_right zZ];simp only[h1]
   have z:(p ++ fss2)[q]' zV =fss2[q - ds.length]:=by rw[List.getElem_append_right zZ];simp only[h2]
   have e3:(ds ++ ds2)[q]' zV =ds2[q - ds.length]' zZ :=by rw[List.getElem_append_right zZ]
   rw[e1,z,e3];refine⟨p3,hR _ _ _ _ _ y fun b hb => ?_⟩;have l:=List.mem_flatten.2 ⟨_,aT p2,hb⟩;exact n b (x b l) (s b l)
 ·have r:b.block<w.heap.size/\v.ownBlock≠some b.block:=(List.mem_append.1 hb).elim (fun h =>⟨c b h,h6 b h⟩) (fun h =>⟨x b h,s b h⟩);rcases hv with e|e
  ·rw[e];exact r.2
  ·rw[e];intro z;injection z with z;have:=r.1;omega
end
theorem Mj {P:Program}(w:World)(base)(t s e:TypeId)(i:TypeInfo)(size)(o:P.underlying t=some (.slice e))(hi:P.info? e=some i)(v n xs)(f:w.ownsRow base e size v n xs)(c:Nat):
  (Builtin.append_ #[t,t] s #[v,.slice none 0 c]).run P w= .ok v w:=by
 rcases f.2 with⟨rfl,rfl⟩|⟨g,cap,p,rfl,hb,hg,h,q,r,l⟩
 ·simp[Builtin.append_,run_underlying o,sizeOf,typeInfo,hi,Builtin.lenOf,Builtin.firstCells]
 ·have u:(n:Int)+0<=(cap:Int):=by omega
  simp[Builtin.append_,run_underlying o,sizeOf,typeInfo,hi,Builtin.lenOf,Builtin.firstCells,h,storeCells]
def Gf {α:Type}(k:Nat)(E:TypeId)(R:AC α)(base:Nat)(w:World)(e:Option Nat)(ds:List α)(fs f:List Addr)(v':Value)(w':World):Prop :=
 ∃c,Ak k E R w' base v' ds (fs ++ c)/\c.Sublist f/\w.grownBy w' e/\(v'.ownBlock=e∨v'.ownBlock=some w)
theorem Ak.appendRun {α}{k:Nat}{E}{R:AC α}{P:Program}{w:World}(t ty:TypeId)(z)(bytes:Nat)(ht:P.underlying t=some (.slice E))(hi:(P.info? E).map (fun i =>(i.zero,i.size,i.bytes))=some (some z,k,bytes))(am:z.cells.size=k)(hk:0<k)(hR:BE R)(hF:BN R)(hO:∀w f cs d,R w f cs d->∀u,u∈cs->u.oneCell'=true)(base v)(ds:List α)(fs)(o:Ak k E R w base v ds fs)(u)(ds2:List α)(gs)(ab:rSl k R w gs u ds2)(af:∀a,a∈gs->v.ownBlock≠some a.block)(hn:ds.length+ds2.length<=1000000000)(hb:bytes<=1000)(s:base<=w.heap.size):
  ∃v' w',(Builtin.append_ #[t,t] ty #[v,u]).run P w= .ok v' w'/\Gf k E R base w v.ownBlock (ds ++ ds2) fs gs v' w':=by
 obtain⟨i,aa,aj,ak,al⟩:=info_parts hi;obtain⟨xs,y⟩:=o.cells;have ac:(ds.length+ds2.length) * bytes<=140737488355328:=aZ (Nat.mul_le_mul hn hb) zZ;obtain⟨A,c,rfl,an,ao,hs⟩:=ab;have r:∀(p:Addr) (l:List (List Value)) (n:List (List Addr)),l.length=ds2.length->n.length=ds2.length->(∀a,a∈n.flatten->a∈gs)->n.flatten.Sublist gs->
   (∀i,(h:i<ds2.length)->∃(h1:i<l.length) (h2:i<n.length),l[i].length =k/\(∀j,(hj:j<l[i].length)->w.cell? (p.add (i * k+j))=some l[i][j])/\R w n[i] l[i] ds2[i])->
   ∃v' w',(Builtin.append_ #[t,t] ty #[v,.slice (some p) ds2.length c]).run P w= .ok v' w'/\Gf k E R base w v.ownBlock (ds ++ ds2) fs gs v' w':=by
  intro p l n h1 h2 h3 h4 h5;have hw:∀c,c∈l->c.length=k:=by
   intro c hc;obtain⟨i,hi,rfl⟩:=aY hc;obtain⟨_,_,p3,_⟩:=h5 i zZ;exact p3
  obtain⟨v',w',q1,q2,q3,q4,q5⟩:=run_append_own_at (P:=P) w base t ty E i z k bytes ht aa aj ak al am hk v ds.length xs y p ds2.length c l.flatten (by rw[IF l hw,h1]) (fun j x hj => by
    have ah:j<ds2.length * k:=by
     have:=(List.getElem?_eq_some_iff.1 hj).1;rw[IF l hw,h1]at this;exact this
    have ag:j / k<ds2.length:=by rw[Nat.div_lt_iff_lt_mul hk];exact ah
    obtain⟨p1,p2,p3,p4,p5⟩:=h5 (j / k) ag;have hm:j % k<k:=Nat.mod_lt _ hk;have e:j / k * k+j % k=j:=by rw[Nat.mul_comm];exact Nat.div_add_mod j k
    have:=El l hw (j / k) (j % k) p1 hm;rw[e,hj,aO zZ]at this;injection this with this
    rw[this,<-p4 (j % k) zZ,e]) (fun x hx => by
    obtain⟨cc,ae,ai⟩:=List.mem_flatten.1 hx;obtain⟨q,hq,rfl⟩:=aY ae;obtain⟨_,_,_,_,p5⟩:=h5 q zZ;exact hO _ _ _ _ p5 x ai) (by simp only[maxLen];omega) ac s
  exact⟨v',w',q1,n.flatten,Ak.extend hR hF o y q2 h1 h2 q3 q5 (fun i hi => by obtain⟨p1,p2,p3,p4,p5⟩:=h5 i hi;exact⟨p1,p2,p3,p5⟩) (fun a ha => af a (h3 a ha)),h4,q3,q5⟩
 rcases hs with⟨rfl,rfl⟩|⟨p,l,n,rfl,h1,h2,rfl,h5⟩
 ·cases A with
  |none => exact⟨v,w,Mj w base t ty E i k ht aa v ds.length xs y c,[],by simpa using o,List.Sublist.refl _,⟨rfl,rfl,rfl,aD _,fun _ _ _ => rfl⟩,.inl rfl⟩
  |some p => exact r p [] [] rfl rfl (fun a ha => by cases ha) (List.Sublist.refl _) (fun i hi => by cases hi)
 ·exact r p l n h1 h2 (fun a ha => bO _ ha) (List.sublist_append_right _ _) h5
theorem An {P:Program}{w:World}{e:Array Oper}{rest}{o:Oper}{a:Act}{Q:Exit->Act->World->Prop}{S:Value->World->Prop}(f:o.guard=none)(s x:Operand)(t:TypeId)(p:o.op= .call { callee:=.builtin .append,args:=#[s,x],argTypes:=#[t,t] })(v u:Value)(q:a.eval s=v)(r:a.eval x=u)(hr:∃c w',(Builtin.append_ #[t,t] o.type #[v,u]).run P w= .ok c w'/\S c w')(h:∀c w',S c w'->wpList P e Q rest (a.put o.dst c) w'):wpList P e Q (o :: rest) a w:=by
 obtain⟨c,w',i,l⟩:=hr;refine wpList_plain f fun K n => ?_
 unfold Oper.wp execOp;simp only[p,resolve,invoke,builtin,Sem.run_bind,Sem.run_pure,Result.andThen_ok,List.map_toArray,List.map_cons,List.map_nil,q,r,i];exact n _ _ (h c w' l)
theorem AZ {P:Program}{w:World}{e:Array Oper}{o:Oper}{a:Act}{K:Act->World->Prop}{Q:Exit->Act->World->Prop}{E:Prop}{S:Value->World->Prop}(f:o.guard=none)(s x:Operand)(t:TypeId)(n:o.op= .call { callee:=.builtin .append,args:=#[s,x],argTypes:=#[t,t] })(v u:Value)(p:a.eval s=v)(q:a.eval x=u)(hr:∃c w',(Builtin.append_ #[t,t] o.type #[v,u]).run P w= .ok c w'/\S c w')(h:∀c w',S c w'->K (a.put o.dst c) w'):if Region.wanted o (yielded e a.tmps)=true then Oper.wp P o a w K Q else E:=by
 have hw:Region.wanted o (yielded e a.tmps)=true:=by simp[Region.wanted,f]
 rw[aM hw];obtain⟨c,w',i,l⟩:=hr;unfold Oper.wp execOp;simp only[n,resolve,invoke,builtin,Sem.run_bind,Sem.run_pure,Result.andThen_ok,List.map_toArray,List.map_cons,List.map_nil,p,q,i];exact h c w' l
theorem Ak.appendOne {α}{k:Nat}{E}{R:AC α}{P:Program}{w:World}(t ty:TypeId)(z)(bytes:Nat)(ht:P.underlying t=some (.slice E))(hi:(P.info? E).map (fun i =>(i.zero,i.size,i.bytes))=some (some z,k,bytes))(aa:z.cells.size=k)(hk:0<k)(hR:BE R)(hF:BN R)(hO:∀w f cs d,R w f cs d->∀u,u∈cs->u.oneCell'=true)(base v)(ds:List α)(fs)(c:Ak k E R w base v ds fs)(g)(us:List Value)(f)(d:α)(r:us.length=k)(l:Blk w g E us.toArray)(hr:R w f us d)(p:∀a,a∈f->v.ownBlock≠some a.block)(hn:ds.length+1<=1000000000)(hb:bytes<=1000)(e:base<=w.heap.size):
  ∃h w',(Builtin.append_ #[t,t] ty #[v,.slice (some (zE g)) 1 1]).run P w= .ok h w'/\Gf k E R base w v.ownBlock (ds ++ [d]) fs f h w':=by
 obtain⟨i,q,s,x,y⟩:=info_parts hi;obtain⟨xs,n⟩:=c.cells;have o:(ds.length+1) * bytes<=140737488355328:=aZ (Nat.mul_le_mul hn hb) zZ;obtain⟨h,w',q1,q2,q3,q4,q5⟩:=run_append_own_at (P:=P) w base t ty E i z k bytes ht q s x y aa hk v ds.length xs n (zE g) 1 1 us zZ (fun j u hu => by rw[CO,l.cell];simpa using hu) (hO _ _ _ _ hr) (by simp only[maxLen];omega) o e;have:=Ak.extend (ds2:=[d]) (css2:=[us]) (fss2:=[f]) (v':=h) (w':=w') hR hF c n (by simpa using q2) rfl rfl q3 q5 (fun i hi => by
  have:i=0:=by simpa using hi
  subst this;exact⟨by simp,by simp,r,hr⟩) (fun a ha => p a (by simpa using ha))
 exact⟨h,w',q1,f,by simpa using this,List.Sublist.refl _,q3,q5⟩
theorem rSl.split {α k}{R:AC α}{w fs A n c}{ds:List α}(h:rSl k R w fs (.slice A n c) ds){j:Nat}(hj:j<=ds.length):
  ∃g1 g2,rSl k R w g1 (.slice A j c) (ds.take j)/\rSl k R w g2 (.slice (if c=j then A else A.map (fun x => x.add (j * k))) (n - j) (c - j)) (ds.drop j)/\(g1 ++ g2).Perm fs:=by
 obtain⟨A',c',e,aa,o,hs⟩:=h;injection e with e1 e2 e3
 subst e1 e2 e3;have l1:(ds.take j).length =j:=by rw[aX];omega
 have l2:(ds.drop j).length =ds.length - j:=by rw[bP]
 rcases hs with⟨rfl,rfl⟩|⟨l,p,f,rfl,h1,h2,rfl,h5⟩
 ·simp at hj;subst hj;exact⟨[],[],⟨A,c,by simp,by simp,o,.inl ⟨by simp,rfl⟩⟩,⟨if c=0 then A else A.map (fun x => x.add (0 * k)),c,by simp,by simp,o,.inl ⟨by simp,rfl⟩⟩,by simp⟩
 ·refine⟨Bf l (j * k) ++(f.take j).flatten,Bf (l.add (j * k)) ((ds.length - j) * k) ++(f.drop j).flatten,?_,?_,?_⟩
  ·refine⟨some l,c,by rw[l1],by omega,o,.inr ⟨l,p.take j,f.take j,rfl,by simp;omega,by simp;omega,by rw[l1],fun i s => ?_⟩⟩;rw[l1]at s;obtain⟨p1,p2,y,z,p5⟩:=h5 i zZ;refine⟨by simp;omega,by simp;omega,?_⟩;simp only[List.getElem_take];exact⟨y,z,p5⟩
  ·by_cases r:c=j
   ·have u:ds.length=j:=by omega
    rw[aM r];refine⟨some l,c - j,by rw[l2],by omega,by omega,.inl ⟨by apply bN;omega,?_⟩⟩;rw[List.drop_of_length_le zZ];simp[u,Bf]
   ·rw[aJ r];refine⟨some (l.add (j * k)),c - j,by rw[l2];rfl,by omega,by omega,.inr ⟨l.add (j * k),p.drop j,f.drop j,rfl,by simp;omega,by simp;omega,by rw[l2],fun i s => ?_⟩⟩;rw[l2]at s;obtain⟨p1,p2,y,z,p5⟩:=h5 (j+i) zZ;refine⟨by simp;omega,by simp;omega,?_⟩;simp only[List.getElem_drop];refine⟨y,fun q hq => ?_,p5⟩;rw[JK,show j * k+(i * k+q)=(j+i) * k+q from by rw[Nat.add_mul];omega];exact z q hq
  ·have e:Bf l (ds.length * k)=Bf l (j * k) ++ Bf (l.add (j * k)) ((ds.length - j) * k):=by
    rw[<-N8,<-Nat.add_mul];congr 2;omega
   rw[e];conv => rhs;rw[<-List.take_append_drop j f,List.flatten_append]
   rw[List.append_assoc,List.append_assoc];refine List.Perm.append_left _ ?_;rw[<-List.append_assoc,<-List.append_assoc];exact List.Perm.append_right _ List.perm_append_comm
theorem Fa:∀(w:World) (f:List Addr) (cs:List Value) (d:UInt8),Al w f cs d->∀u,u∈cs->u.oneCell'=true:=by
 rintro w f cs d ⟨-,rfl⟩ u c;simp at c;subst c;rfl
theorem Pb:∀(w:World) (f:List Addr) (cs:List Value) (d:Int),Aw w f cs d->∀u,u∈cs->u.oneCell'=true:=by
 rintro w f cs d ⟨-,rfl,-⟩ u c;simp at c;subst c;rfl
theorem Ak.flatBytes {E:TypeId}{w base v}{ds:List UInt8}{fs}(h:Ak 1 E Al w base v ds fs):fs= []:=by
 obtain⟨c,e,p,q,rfl,h4,l,r⟩:=h;rw[List.flatten_eq_nil_iff];intro f n;obtain⟨i,s,rfl⟩:=aY n;obtain⟨_,_,_,o⟩:=l i zZ;exact o.1
theorem Ak.flatInts {E:TypeId}{w base v ds fs}(h:Ak 1 E Aw w base v ds fs):fs= []:=by
 obtain⟨c,e,p,q,rfl,h4,l,r⟩:=h;rw[List.flatten_eq_nil_iff];intro f n;obtain⟨i,s,rfl⟩:=aY n;obtain⟨_,_,_,o⟩:=l i zZ;exact o.1
def Fresh {α:Type}(k:Nat)(R:AC α)(w:World)(ds:List α)(v':Value)(w':World):Prop:=∃c,rSl k R w' c v' ds/\AL w w' c/\Below w w w'
theorem RC {P:Program}{w}(t p e:TypeId)(ht:P.underlying t=some (.slice e))(hi:(P.info? e).map (fun i =>(i.zero,i.size,i.bytes))=some (some (.int .u8 0),1,1)){v}{bs:List UInt8}{f}(hr:Ah w f v bs)(hn:bs.length<=1000000000):
  ∃l w',(Builtin.append_ #[t,t] p #[.slice (some (zE w)) 0 0,v]).run P (w.alloc (.cells #[] e))= .ok l w'/\Fresh 1 Al w bs l w':=by
 have hb:Below w w (w.alloc (.cells #[] e)):=(aC _ _).alloc (aD _) _;have c:=Ak.start (R:=Al) (World.ownsRow_lit (base:=w.heap.size) (e:=e) (size:=1) w #[] 0 (aD _) (Nat.zero_le _) rfl);have o:=rSl.there Al.X hr;obtain⟨l,w',r,hs,n,h3,h4,h5⟩:=Ak.appendRun t p (.int .u8 0) 1 ht hi rfl zW Al.L Al.X Fa w _ [] [] c v bs f (Ah.B hr hb) (fun a y e => by
  simp[Value.ownBlock]at e;have:=o a y;omega) zV zZ zX
 refine⟨l,w',r,?_⟩;have s:=Ak.flatBytes n;rw[s]at n;obtain⟨q,u,x⟩:=n.readsMine ⟨List.nodup_nil,(fun _ h => by cases h),(fun _ h => by cases h)⟩;exact⟨q,u,x,hb.grown h4 zX (fun k z => by simp[Value.ownBlock]at z;omega)⟩
end Go.Proofs.YtofeknacbdcoaaaGreatDoor
namespace Go.Proofs.YtofeknacbdcoaaaGreatDoor
open Go.RowKit Go.Sort
def digU(k:Nat):UInt8:=UInt8.ofNat (48+k % 10)
def markL(k:Nat)(c:List UInt8):List UInt8:=if h:k=0 then c else markL (k / 10) (digU k :: c)
termination_by k
decreasing_by omega
def mkT(k:Nat):ByteArray:=⟨(109 :: markL k []).toArray⟩
theorem NY(a:Addr)(m n:Nat):a.add (m+(n+1))=⟨(a.add m).block,(a.add m).off +(n+1),none⟩:=by
 rw[<-Addr.add_add];simp[Addr.add]
theorem Fs {α}{l m:List α}{k:Nat}(h:l.take k=m.take k)(h1:k<l.length)(c:k<m.length)(e:l[k] =m[k]):l.take (k+1)=m.take (k+1):=by
 rw[aK h1,aK c,h,e]
section
variable {α:Type} {k:Nat} {R:AC α} {w:World} {fs:List Addr} {v:Value} {ds:List α}
theorem rSl.head(h:rSl k R w fs v ds):∃A c,v= .slice A ds.length c/\ds.length<=c/\c<=9223372036854775807:=by
 obtain⟨A,c,e,f,i,l⟩:=h;exact⟨A,c,e,f,i⟩
structure At (k:Nat) (R:AC α) (w:World) (fs:List Addr) (ad:Addr) (j:Nat) (b o:Nat) (cs:List Value) (fk:List Addr) (d:α):Prop where
 place:ad.add (j * k)=⟨b,o,none⟩
 lt:b<w.heap.size
 len:cs.length=k
 cell:∀q,(hq:q<cs.length)->w.cell? ⟨b,o+q,none⟩=some cs[q]
 reads:R w fk cs d
 there:FJ fk w
 sub:∀a,a∈fk->a∈fs
 mem:∀q,q<k->((zO b (o+q)):Addr)∈fs
theorem Jr {a:Addr}{m b o:Nat}(h:a.add m=⟨b,o,none⟩)(q:Nat):a.add (m+q)=⟨b,o+q,none⟩:=by
 cases q with
 |zero => rw[bC,h];rfl
 |succ q => rw[NY,h]
theorem MR {a:Addr}{w:World}{u}(h:w.cell? a=some u):∃b o,a=⟨b,o,none⟩:=by
 have:=World.cell?_spot h;cases a with
 |mk b o s => simp only at this;subst this;exact⟨b,o,rfl⟩
theorem rSl.at_(hF:BN R)(hk:0<k)(h:rSl k R w fs v ds):∃A c,v= .slice A ds.length c/\ds.length<=c/\c<=9223372036854775807/\∀j,(l:j<ds.length)->∃f b o cs fk,A=some f/\At k R w fs f j b o cs fk ds[j]:=by
 obtain⟨A,c,e,h1,h2,r⟩:=h;refine⟨A,c,e,h1,h2,fun j l => ?_⟩;rcases r with⟨rfl,_⟩|⟨f,n,p,z,e2,e3,u,r⟩
 ·cases l
 ·obtain⟨q1,q2,q3,x,y⟩:=r j l;have s:=x 0 zZ;rw[bC]at s;obtain⟨b,o,i⟩:=MR s;refine⟨f,b,o,n[j],p[j],z,i,?_,q3,fun q hq => ?_,y,hF _ _ _ _ y,fun a ha => ?_,fun q hq => ?_⟩
  ·have:=World.block_lt_of_cell? _ _ s;rwa [i]at this
  ·rw[<-Jr i];exact x q hq
  ·rw[u];exact bO _ (List.mem_flatten.2 ⟨_,aT q2,ha⟩)
  ·rw[<-Jr i,u];refine bM _ (Bt.2 ⟨j * k+q,?_,rfl⟩);calc j * k+q<j * k+k:=by omega
    _=(j+1) * k:=by rw[Nat.add_mul];omega
    _<=ds.length * k:=Nat.mul_le_mul_right _ l
theorem At.B {ad j b o cs fk}{d:α}{w'}(c:BE R)(h:At k R w fs ad j b o cs fk d)(hb:Below w w w'):At k R w' fs ad j b o cs fk d :=
 ⟨h.place,aH h.lt hb.size,h.len,fun q hq =>(hb.cell (p:=⟨b,o+q,none⟩) h.lt).T (h.cell q hq),c _ _ _ _ _ h.reads (AV.of_below h.there hb),fun a e => aH (h.there a e) hb.size,h.sub,h.mem⟩
end
section
variable {α:Type} (one:Nat->α->α) (num:α->Nat)
end
theorem Blk.range {w g t}{cs:Array Value}(h:Blk w g t cs)(o)(l:List Value)(e:(cs.toList.drop o).take l.length=l):w.rangeAt g o l:=by
 intro j v c;rw[h.cell];rw[<-e,List.getElem?_take]at c;split at c
 ·rw[List.getElem?_drop]at c;simpa using c
 ·cases c
end Go.Proofs.YtofeknacbdcoaaaGreatDoor
namespace Go.Proofs.YtofeknacbdcoaaaGreatDoor
open Go.RowKit
theorem TX(v)(xs:List UInt8)(fs w)(left:Int)(h1:Ah w fs v xs)(n:-1<=left)(f:left<=1048576):
  Calls prog 119 #[v,int i64 left] w fun e w' => e= .returned (int i64 (if left<xs.length then -1 else left - xs.length))/\w=w':=by
 obtain⟨l,c1,rfl,c,i,o⟩:=Ah.open_ h1;clear h1;by_cases h:left<xs.length
 ·rw[aM h];go_enter func119,ntmps119
  go_wp2
  go_ret
  exact⟨rfl,rfl⟩
 ·rw[aJ h];go_enter func119,ntmps119
  go_wp2
  go_ret
  exact⟨rfl,rfl⟩
theorem Ie(v1 v2)(xs l:List UInt8)(f1 f2 w)(h1:Ah w f1 v1 xs)(y:Ah w f2 v2 l):
  Calls prog 176 #[v1,v2] w (zN (.bool (decide (xs=l))) w):=by
 obtain⟨A1,c1,rfl,ac,ae,hx⟩:=Ah.open_ h1;obtain⟨A2,c2,rfl,ad,af,hy⟩:=Ah.open_ y;clear h1 y;by_cases s:xs.length=l.length
 ·have hb:=CY s;have u:=zq s;clear s;go_enter func176,ntmps176
  go_wp2
  go_loopw [4,5] (fun r i wr =>∃k:Nat,k<=xs.length/\i=k/\r= .bool false/\xs.take k=l.take k/\Below w w wr) (fun _ i _ => xs.length - (intOf i).toNat)
  ·exact⟨0,by omega,rfl,rfl,by simp,aC _ _⟩
  ·obtain⟨k,hk,rfl,rfl,z,c⟩:=hrel;have x:=zq z;clear z;by_cases h:k<xs.length
   ·have f:k<l.length:=by rw[<-u.o];exact h
    obtain⟨a1,e1,_,b1,g1⟩:=hx k h;obtain⟨a2,e2,_,b2,g2⟩:=hy k f;subst e1 e2;have aa:=(c.cell (p:=a1.add k) b1).T g1;have ab:=(c.cell (p:=a2.add k) b2).T g2;clear g1 g2 hx hy;by_cases n:xs[k] =l[k]
    ·have hn:=bneU8f n;have HE:=zq n;clear n;go_wp2
     go_quiet (fail)
     go_wp2
     go_roundw
     ·exact⟨k+1,by omega,by go_num,rfl,Kf x.o h f HE.o,AT c _⟩
     ·simp[intOf];omega
    ·have hn:=bneU8t n;go_wp2
     go_quiet (fail)
     go_wp2
     go_ret
     exact⟨C5 (by simp;intro e;subst e;exact n rfl),AT c _⟩
   ·have q:k=xs.length:=by omega
    have H:=x.o;rw[q,bA,u.o,bA]at H;have H1:=zq H;clear H q;go_wp2
    go_ret
    exact⟨C5 (by simp[H1.o]),c⟩
 ·have hb:=CZ s;go_enter func176,ntmps176
  go_wp2
  go_ret
  exact⟨C5 (by simp;intro e;subst e;exact s rfl),aC _ _⟩
theorem Tryz.info5:(prog.info? 5).map (fun i =>(i.zero,i.size,i.bytes))=some (some (.int .u8 0),1,1):=by kernel_rfl
theorem T9(v)(xs:List UInt8)(fs w)(h1:Ah w fs v xs)(ad:xs.length<=1048576):
  Calls prog 139 #[v] w fun e w' => e= .returned (.slice (some (zE w)) xs.length xs.length)/\Below w w w'/\
   Blk w' w 5 (xs.map Bo).toArray/\w'.heap.size=w.heap.size+1:=by
 obtain⟨A1,c1,rfl,ab,ac,x⟩:=Ah.open_ h1;clear h1;have l:=run_make_row' (P:=prog) 61 5 (.int .u8 0) 1 underlying61 Tryz.info5 rfl .i64 .i64 xs.length zZ zZ;have z:=zq (Rz (xs.map Bo) (.int .u8 0) xs.length zX);go_enter func139,ntmps139
 go_wp2
 go_loopw [4] (fun i wr =>∃j:Nat,j<=xs.length/\i=j/\Below w w wr/\Blk wr w 5 (FK (xs.map Bo) (.int .u8 0) j)/\wr.heap.size=w.heap.size+1) (fun i _ => xs.length - (intOf i).toNat)
 ·exact⟨0,by omega,rfl,(aC _ _).alloc (aD _) _,by rw[<-z.o];exact Blk.new _ _ _,by simp⟩
 ·obtain⟨j,hj,rfl,hb,c,h⟩:=hrel;by_cases f:j<xs.length
  ·obtain⟨a1,e1,_,b1,g1⟩:=x j f;subst e1;have aa:=(hb.cell (p:=a1.add j) b1).T g1;clear g1 x l;obtain⟨u,y⟩:=SX (xs.map Bo) (.int .u8 0) j j (by simpa using f);have c2:=(c.cell j).T y;have f2:=c.frozen j;clear y;have n:=zq hb;clear hb;have q:=zq c;clear c;have r:=zq h;clear h;go_wp2
   go_roundw
   ·refine⟨j+1,by omega,by go_num,n.o.setCell (aD _) _,?_,by simp[r.o]⟩;have:=q.o.set_ j (Bo xs[j]);rw[show Bo xs[j] =(xs.map Bo)[j]'(by simpa using f)from by simp,Ry (by simpa using f)]at this;simpa [Bo]using this
   ·simp[intOf];omega
  ·have s:j=(xs.map Bo).length:=by simp;omega
   have n:=zq hb;clear hb;have q:=zq c;clear c;have r:=zq h;clear h;clear l x;go_wp2
   go_ret
   refine⟨rfl,n.o,?_,r.o⟩;have:=q.o;rw[s,Rw]at this;exact this
end Go.Proofs.YtofeknacbdcoaaaGreatDoor
namespace Go.Proofs.YtofeknacbdcoaaaGreatDoor
open Go.RowKit Go.Sort
theorem Lx {a b:ByteArray}(h:a=b):(!a.toList == b.toList)=false:=by subst h;simp
theorem Ly {a b:ByteArray}(h:a≠b):(!a.toList == b.toList)=true:=by
 have:a.toList≠b.toList:=fun e => h (WideShapes.bytes_inj (by rwa [ByteArray.toList_eq,ByteArray.toList_eq]at e))
 simpa using this
theorem CC.open_ {w fs v}{ss:List ByteArray}(h:CC w fs v ss):
  ∃A c,v= .slice A ss.length c/\ss.length<=c/\c<=9223372036854775807/\∀k,(l:k<ss.length)->∃f,A=some f/\f.add k∈fs/\(f.add k).block <w.heap.size/\w.cell? (f.add k)=some (.string ss[k])/\ss[k].size<=9223372036854775807:=by
 obtain⟨A,c,e,s,h2,i⟩:=h;refine⟨A,c,e,s,by omega,fun k l => ?_⟩;rcases i with⟨rfl,_⟩|⟨f,o,r,p,z,e3,q,i⟩
 ·cases l
 ·obtain⟨q1,q2,q3,u,q5,x,y⟩:=i k l;have n:=u 0 zZ;simp only[x,aW,Nat.mul_one,bC]at n;exact⟨f,p,by rw[q];exact bM _ (Bt.2 ⟨k,by omega,rfl⟩),World.block_lt_of_cell? _ _ n,n,y⟩
theorem CC.close_ {w:World}{ad:Addr}{c:Nat}{ss:List ByteArray}(h1:ss.length<=c)(l:c<=9223372036854775807)(h:∀k,(hk:k<ss.length)->w.cell? (ad.add k)=some (.string ss[k])/\ss[k].size<=9223372036854775807):
  CC w (Bf ad ss.length) (.slice (some ad) ss.length c) ss:=by
 refine⟨some ad,c,rfl,h1,by omega,.inr ⟨ad,ss.map fun b => [.string b],ss.map fun _ => [],rfl,by simp,by simp,?_,fun i e =>⟨by simpa using e,by simpa using e,by simp,fun j f => ?_,?_⟩⟩⟩
 ·have:(ss.map fun _ =>([]:List Addr)).flatten = []:=by simp[List.flatten_eq_nil_iff]
  rw[this];simp
 ·simp at f;subst f;simpa using(h i e).1
 ·simpa [Dx]using(h i e).2
theorem CC.form {w fs v}{ss:List ByteArray}(h:CC w fs v ss):
  ∃A c,v= .slice A ss.length c/\ss.length<=c/\c<=9223372036854775807/\((ss= []/\fs= [])∨∃n,A=some n/\fs=Bf n ss.length/\∀k,(p:k<ss.length)->w.cell? (n.add k)=some (.string ss[k])/\ss[k].size<=9223372036854775807):=by
 obtain⟨A,c,e,y,h2,l⟩:=h;refine⟨A,c,e,y,by omega,?_⟩;rcases l with l|⟨n,s,o,u,e2,e3,x,l⟩
 ·exact .inl l
 ·have hz:o.flatten= []:=by
   rw[List.flatten_eq_nil_iff];intro f z;obtain⟨i,hi,rfl⟩:=aY z;obtain⟨_,_,_,_,q,_⟩:=l i zZ;exact q
  refine .inr ⟨n,u,by rw[x,hz];simp,fun k p => ?_⟩;obtain⟨q1,q2,q3,q4,q5,q6,q8⟩:=l k p;have r:=q4 0 zZ;simp only[q6,aW,Nat.mul_one,bC]at r;exact⟨r,q8⟩
theorem CC.store {w fs ad}{c n:Nat}{ss:List ByteArray}(h:CC w fs (.slice (some ad) n c) ss)(hn:fs.Nodup){j:Nat}(o:j<ss.length)(b:ByteArray)(hb:b.size<=9223372036854775807):
  CC (w.setCell (ad.add j) (.string b)) fs (.slice (some ad) n c) (ss.set j b):=by
 obtain⟨A,c',e,y,z,f⟩:=CC.form h;injection e with s u x
 subst u x;rcases f with⟨rfl,_⟩|⟨q,l,p,f⟩
 ·simp at o
 ·rw[<-s]at l;injection l with l
  subst l;have:=CC.close_ (w:=w.setCell (ad.add j) (.string b)) (ad:=ad) (c:=c) (ss:=ss.set j b) (by simpa using y) z (fun k i => by
   simp only[List.length_set]at i;by_cases e:j=k
   ·subst e;rw[World.cell?_setCell_same _ _ _ (f j i).1,List.getElem_set_self];exact⟨rfl,hb⟩
   ·rw[World.cell?_setCell_other,List.getElem_set_ne e]
    ·exact f k i
    ·intro r;rw[p]at hn;exact e (Nu hn o i r))
  rw[List.length_set,<-p]at this;exact this
theorem CC.B {w w' fs v}{ss:List ByteArray}(h:CC w fs v ss)(hb:Below w w w'):CC w' fs v ss:=rSl.B Dx.L Dx.X h hb
theorem CC.empty {w A}{c:Nat}(e:c<=9223372036854775807):CC w [] (.slice A 0 c) []:=⟨A,c,rfl,Nat.zero_le _,by omega,.inl ⟨rfl,rfl⟩⟩
end Go.Proofs.YtofeknacbdcoaaaGreatDoor
namespace Go.Proofs.YtofeknacbdcoaaaGreatDoor
open Go.RowKit Go.ChangeShapes Go.WideShapes
def Cg {α:Type}(t:TypeId)(R:AC α):Prop :=
 ∀(H:Type) (h:TypeId × Value->H) (W:World) (base:Nat) (c:Nat->Bool) (f:Bool) (e:Nat) (cs:List Value) (x:DataW H × List MemPlace),
  DataW.trod h prog W base c f e t cs=some x->∃fs d,R W fs cs d
def Me:AC Bool:=fun _ fs cs x => fs= []/\cs= [.bool x]
theorem Me.L:BE Me:=fun _ _ _ _ _ h _ => h
theorem Me.X:BN Me:=fun _ _ _ _ h a c => by rw[h.1]at c;cases c
theorem Bl {t:TypeId}(o:prog.underlying t=some (.int .i64)):Cg t Aw:=by
 intro H l W base c i f cs x h;obtain⟨n,e,_,hw⟩:=DataW.trod_int o h;refine⟨[],n,rfl,e,?_⟩;simp[Lit.wf,IntKind.min,IntKind.max,IntKind.bits,IntKind.signed]at hw;omega
theorem Sa {t:TypeId}(o:prog.underlying t=some (.int .u8)):Cg t Al:=by
 intro H l W base c i f cs x h;obtain⟨n,e,_,hw⟩:=DataW.trod_int o h;simp[Lit.wf,IntKind.min,IntKind.max,IntKind.bits,IntKind.signed]at hw;refine⟨[],UInt8.ofNat n.toNat,rfl,?_⟩;rw[e];have:((UInt8.ofNat n.toNat).toNat:Int)=n:=by
  rw[UInt8.toNat_ofNat'];omega
 show [Value.int .u8 n] = [Value.int .u8 _]
 rw[this]
theorem Jq {t:TypeId}(o:prog.underlying t=some .bool):Cg t Me:=by
 intro H l W base c i f cs x h;obtain⟨n,e,_⟩:=DataW.trod_bool o h;exact⟨[],n,rfl,e⟩
theorem Nv {t:TypeId}(p:prog.underlying t=some .string):Cg t Dx:=by
 intro H l W base c i f cs x h;obtain⟨n,e,_,o⟩:=DataW.trod_string p h;exact⟨[],n,rfl,e,by simpa [maxLen]using o⟩
theorem CV {α}{t e:TypeId}{R:AC α}{k:Nat}(ht:prog.underlying t=some (.slice e))(hk:prog.cellsOf e=k)(hR:Cg e R):Cg t (Ai k R):=by
 intro H aa W base r z s cs x h;rcases Go.Deep.open_slice ht h with⟨rfl,_⟩|⟨a,len,cap,m,n,D,Pl,rfl,_,hl,hc,hm,_,p⟩
 ·exact⟨[],[],_,rfl,none,0,rfl,aD _,by omega,.inl ⟨rfl,rfl⟩⟩
 ·have ab:len<=m:=by rw[hm];split <;> omega
  have f:∀i:Fin len,∃q:List Addr × α × List Value,q.2.2.length=k/\(∀j,(c:j<q.2.2.length)->W.cell? (a.add (i.1 * k+j))=some q.2.2[j])/\R W q.1 q.2.2 q.2.1:=by
   intro i;obtain⟨o,h1,h2⟩:=p i.1 zZ;obtain⟨_,u,h4⟩:=World.cells?_some h1;obtain⟨fs,d,h5⟩:=hR _ _ _ _ _ _ _ _ _ h2;refine⟨(fs,d,o),by rw[u,hk],fun j c => ?_,h5⟩;have y:=h4 j (by simpa [u]using c);rw[JK,hk]at y;rw[y];exact aO c
  let Q:=fun i:Fin len => Classical.choose (f i)
  have HQ:=fun i:Fin len => Classical.choose_spec (f i)
  refine⟨Bf a (len * k) ++(List.ofFn fun i =>(Q i).1).flatten,List.ofFn fun i =>(Q i).2.1,_,rfl,some a,cap,by simp,by simpa using hl,by simpa [maxLen]using hc,.inr ⟨a,List.ofFn fun i =>(Q i).2.2,List.ofFn fun i =>(Q i).1,rfl,by simp,by simp,by simp,?_⟩⟩;intro i l;simp only[List.length_ofFn]at l;obtain⟨q1,q2,q3⟩:=HQ ⟨i,l⟩;refine⟨by simpa using l,by simpa using l,by simpa using q1,fun j c => ?_,by simpa using q3⟩;simp only[List.getElem_ofFn]at c⊢;exact q2 j c
theorem Gw:Cg 61 (Ai 1 Al):=CV underlying61 zY (Sa underlying5)
theorem Cg.arg {α t}{R:AC α}(h:Cg t R){H:Type}{enc:TypeId × Value->H}{W base}{c:Nat->Bool}{e v}{d:DataW H}{p:List MemPlace}(hv:DataW.Trod enc prog W base c e t v d p):∃fs x,R W fs v.cells.toList x:=by
 obtain⟨f,i⟩:=hv;exact h _ _ _ _ _ _ _ _ _ i
theorem AO {t:TypeId}{c:Array Field}(u:prog.underlying t=some (.struct c)){H:Type}{enc:TypeId × Value->H}{W base}{e:Nat->Bool}{o l}{cs:List Value}{x:DataW H × List MemPlace}(h:DataW.trod enc prog W base e o l t cs=some x)(i:Nat)(f:Field)(q:c[i]? =some f){α}{R:AC α}(s:Cg f.type R):
  ∃fs d,R W fs ((cs.drop f.offset).take (prog.cellsOf f.type)) d:=by
 obtain⟨xs,n,_,_,_,r,hg⟩:=DataW.trod_struct u h;have y:i<c.size:=(Array.getElem?_eq_some_iff.1 q).1;have p:=hg i f q;rw[aO zZ]at p;exact s _ _ _ _ _ _ _ _ _ p
theorem Ct {t:TypeId}{e:Array Field}(n:prog.underlying t=some (.struct e)){H:Type}{enc:TypeId × Value->H}{W base}{c:Nat->Bool}{i f}{cs:List Value}{x:DataW H × List MemPlace}(h:DataW.trod enc prog W base c i f t cs=some x):cs.length=prog.cellsOf t:=by
 obtain⟨_,_,_,_,l,_⟩:=DataW.trod_struct n h;exact l
theorem Re {α}{t:TypeId}{e:Array Field}{R:AC α}(n:prog.underlying t=some (.struct e))(h:Cg t R){H:Type}{enc:TypeId × Value->H}{W}{r:Reach}{i base}{c:Nat->Bool}{f v}{d:DataW H}{p:List MemPlace}(l:Value.okWide prog W r i t v)(hv:DataW.Trod enc prog W base c f t v d p):∃fs x,∃cs:Array Value,v= .agg cs/\R W fs cs.toList x:=by
 obtain⟨cs,rfl,_⟩:=okWide_struct n l;obtain⟨fs,x,o⟩:=h.arg hv;exact⟨fs,x,cs,rfl,by simpa [Value.cells]using o⟩
theorem Tryz.own:ownKnob prog.godebug=none:=by kernel_rfl
theorem Tryz.laidOut:laidOutB prog=true:=by kernel_rfl
