/-
  Part 0 of the proof; the last part states and proves the statement.
-/
import Derived.Test.YtfjkoifpdoemdaaGreatRows
import Derived.WalkKit
import Derived.WalkSpells
import Derived.WalkLawsBesides
import Derived.Deep.QuietTactic
import Derived.BigQuiet
import Derived.Lib.Hide
import Derived.Deep.AppendLies
import Derived.Deep.OwnRows
import Derived.Lib.QuietBelow
import Derived.Maps.AppendAt
import Derived.Laws.CopyRow
import Derived.Deep.MidRow
import Derived.Laws.MakeOwn
import Derived.ProofKit
set_option maxHeartbeats 8000000
set_option maxRecDepth 100000
set_option linter.unusedVariables false
set_option linter.unusedSimpArgs false
open Go.Value (int)
open Go.IntKind (i64)
namespace Go.Proofs.YtfjkoifpdoemdaaGreat
open Go.RowKit
open Go.Lib (hid)
theorem Jg(a:Addr)(n:Nat):(a.add n).block =a.block:=by unfold Addr.add;split <;> rfl
theorem I9(a:Addr)(i j:Nat):(a.add i).add j=a.add (i+j):=by
 unfold Addr.add;by_cases hi:i=0 <;> by_cases hj:j=0 <;> simp[hi,hj,Nat.add_assoc]
theorem addInj(a:Addr)(i j:Nat)(h:a.add i=a.add j):i=j∨a.spot.isSome:=by
 unfold Addr.add at h;cases a with
 |mk b o s =>
  cases s with
  |some x => right;rfl
  |none =>
   left
   by_cases hi:i=0 <;> by_cases hj:j=0 <;> simp_all
theorem BK {B:Nat} {a w:World}(h:Below B a w)(n:Nat):Below B a (w.drewN n):=⟨h.os,h.tape,h.output,h.size,h.block⟩
def Bz(ad:Addr)(n:Nat):List Addr:=(List.range n).map ad.add
theorem BH {ad:Addr} {n:Nat} {a:Addr}:a∈Bz ad n↔∃k,k<n∧a=ad.add k:=by
 simp[Bz,eq_comm]
theorem Ja(ad:Addr)(n m:Nat):Bz ad (n+m)=Bz ad n ++ Bz (ad.add n) m:=by
 unfold Bz;rw[List.range_add,List.map_append,List.map_map];congr 1
 apply List.map_congr_left
 intro k _;simp[I9]
theorem GB {ad:Addr} {n:Nat}(h:ad.spot=none):(Bz ad n).Nodup:=by
 unfold Bz;rw[List.nodup_iff_pairwise_ne,List.pairwise_map];refine List.Pairwise.imp ?_ (List.nodup_range (n:=n));intro a b hab e;rcases addInj _ _ _ e with e|e
 ·exact hab e
 ·rw[h]at e;cases e
def AP(fs:List Addr)(w w':World):Prop:=∀a,a∈fs→w'.cell? a=w.cell? a
theorem AP.left {fs gs:List Addr} {w w':World}(h:AP (fs ++ gs) w w'):AP fs w w':=fun a ha => h a (List.mem_append_left _ ha)
theorem AP.right {fs gs:List Addr} {w w':World}(h:AP (fs ++ gs) w w'):AP gs w w':=fun a ha => h a (List.mem_append_right _ ha)
theorem AP.mem {fss:List (List Addr)} {w w':World}(h:AP fss.flatten w w') {fs:List Addr}(hf:fs∈fss):AP fs w w':=fun a ha => h a (List.mem_flatten.2 ⟨fs,hf,ha⟩)
theorem AP.refl(fs:List Addr)(w:World):AP fs w w:=fun _ _ => rfl
def EJ(fs:List Addr)(w:World):Prop:=∀a,a∈fs→a.block<w.heap.size
theorem AP.of_below {fs:List Addr} {B:Nat} {w w':World}(ht:∀a,a∈fs→a.block<B)(h:Below B w w'):AP fs w w':=fun a ha => h.cell (ht a ha)
abbrev Ap (α:Type):=World→List Addr→List Value→α→Prop
def Bm {α:Type}(R:Ap α):Prop:=∀w w' fs cs d,R w fs cs d→AP fs w w'→R w' fs cs d
def Bv {α:Type}(R:Ap α):Prop:=∀w fs cs d,R w fs cs d→EJ fs w
def Ek {α:Type}(k:Nat)(R:Ap α):Prop:=∀w fs cs d,R w fs cs d→cs.length=k
def CE(b:UInt8):Value:=.int .u8 (b.toNat:Int)
def Al:Ap Int:=fun _ fs cs x => fs= []∧cs= [int i64 x]∧ -9223372036854775808≤x∧x≤9223372036854775807
def Av:Ap UInt8:=fun _ fs cs x => fs= []∧cs= [CE x]
def FD:Ap ByteArray:=fun _ fs cs x => fs= []∧cs= [.string x]∧x.size≤9223372036854775807
def rSl {α:Type}(k:Nat)(R:Ap α)(w:World)(fs:List Addr)(v:Value)(ds:List α):Prop :=
 ∃(A:Option Addr) (c:Nat),v= .slice A ds.length c∧ds.length≤c∧c≤9223372036854775807∧
  ((ds= []∧fs= [])∨∃(ad:Addr) (css:List (List Value)) (fss:List (List Addr)),A=some ad∧css.length=ds.length∧fss.length=ds.length∧fs=Bz ad (ds.length * k) ++ fss.flatten∧
   ∀i,(h:i<ds.length)→∃(h1:i<css.length) (h2:i<fss.length),css[i].length =k∧(∀j,(hj:j<css[i].length)→w.cell? (ad.add (i * k+j))=some css[i][j])∧R w fss[i] css[i] ds[i])
theorem rSl.keep {α:Type} {k:Nat} {R:Ap α}(hR:Bm R) {w w':World} {fs:List Addr} {v:Value} {ds:List α}(h:rSl k R w fs v ds)(hs:AP fs w w'):rSl k R w' fs v ds:=by
 obtain⟨A,c,e,h1,h2,h3⟩:=h;refine⟨A,c,e,h1,h2,?_⟩;rcases h3 with h3|⟨ad,css,fss,e1,e2,e3,e4,h3⟩
 ·exact .inl h3
 ·refine .inr ⟨ad,css,fss,e1,e2,e3,e4,fun i hi => ?_⟩;obtain⟨q1,q2,q3,q4,q5⟩:=h3 i hi;subst e4;refine⟨q1,q2,q3,fun j hj => ?_,hR _ _ _ _ _ q5 (hs.right.mem (List.getElem_mem _))⟩;rw[hs.left _ (BH.2 ⟨i * k+j,?_,rfl⟩)]
  ·exact q4 j hj
  ·rw[q3]at hj;calc i * k+j<i * k+k:=by omega
    _=(i+1) * k:=by rw[Nat.add_mul];omega
    _≤ds.length * k:=Nat.mul_le_mul_right _ hi
theorem rSl.there {α:Type} {k:Nat} {R:Ap α}(hR:Bv R) {w:World} {fs:List Addr} {v:Value} {ds:List α}(h:rSl k R w fs v ds):EJ fs w:=by
 obtain⟨A,c,e,h1,h2,h3⟩:=h;rcases h3 with⟨_,rfl⟩|⟨ad,css,fss,e1,e2,e3,rfl,h3⟩
 ·intro a ha;cases ha
 ·intro a ha;rcases List.mem_append.1 ha with ha|ha
  ·obtain⟨q,hq,rfl⟩:=BH.1 ha;have hk:0<k:=by
    rcases Nat.eq_zero_or_pos k with e|e
    ·subst e;simp at hq
    ·exact e
   have hi:q / k<ds.length:=by rw[Nat.div_lt_iff_lt_mul hk];exact hq
   obtain⟨q1,q2,q3,q4,q5⟩:=h3 (q / k) hi;have hm:q % k<k:=Nat.mod_lt _ hk;have:=q4 (q % k) (by rw[q3];exact hm);rw[show q / k * k+q % k=q from by rw[Nat.mul_comm];exact Nat.div_add_mod q k]at this;exact World.block_lt_of_cell? _ _ this
  ·obtain⟨f,hf,hm⟩:=List.mem_flatten.1 ha;obtain⟨i,hi,rfl⟩:=List.getElem_of_mem hf;obtain⟨q1,q2,q3,q4,q5⟩:=h3 i (by omega);exact hR _ _ _ _ q5 a hm
theorem rSl.below {α:Type} {k:Nat} {R:Ap α}(hR:Bm R)(hF:Bv R) {w w':World} {fs:List Addr} {v:Value} {ds:List α}(h:rSl k R w fs v ds)(hb:Below w.heap.size w w'):rSl k R w' fs v ds :=
 h.keep hR (.of_below (h.there hF) hb)
def Ai {α:Type}(k:Nat)(R:Ap α):Ap (List α):=fun w fs cs ds =>∃v,cs= [v]∧rSl k R w fs v ds
theorem Ai.local_ {α:Type} {k:Nat} {R:Ap α}(hR:Bm R):Bm (Ai k R):=fun _ _ _ _ _ ⟨v,e,h⟩ hs =>⟨v,e,h.keep hR hs⟩
theorem Ai.fixed {α:Type} {k:Nat} {R:Ap α}(hR:Bv R):Bv (Ai k R):=fun _ _ _ _ ⟨_,_,h⟩ => h.there hR
theorem Ai.wide {α:Type} {k:Nat} {R:Ap α}:Ek 1 (Ai k R):=fun _ _ _ _ ⟨_,e,_⟩ => by rw[e];rfl
theorem Al.local_:Bm Al:=fun _ _ _ _ _ h _ => h
theorem Al.fixed:Bv Al:=fun _ _ _ _ h a ha => by rw[h.1]at ha;cases ha
theorem Av.local_:Bm Av:=fun _ _ _ _ _ h _ => h
theorem Av.fixed:Bv Av:=fun _ _ _ _ h a ha => by rw[h.1]at ha;cases ha
theorem FD.local_:Bm FD:=fun _ _ _ _ _ h _ => h
theorem FD.fixed:Bv FD:=fun _ _ _ _ h a ha => by rw[h.1]at ha;cases ha
abbrev AM:=rSl 1 Av
abbrev Bg:=rSl 1 Al
abbrev C5:=rSl 1 FD
theorem AM.below {w w':World} {fs:List Addr} {v:Value} {ds:List UInt8}(h:AM w fs v ds)(hb:Below w.heap.size w w'):AM w' fs v ds:=rSl.below Av.local_ Av.fixed h hb
theorem AM.open_ {w:World} {fs:List Addr} {v:Value} {bs:List UInt8}(h:AM w fs v bs) :
  ∃A c,v= .slice A bs.length c∧bs.length≤c∧c≤9223372036854775807∧∀k,(hk:k<bs.length)→∃ad,A=some ad∧ad.add k∈fs∧(ad.add k).block <w.heap.size∧w.cell? (ad.add k)=some (.int .u8 (bs[k].toNat:Int)):=by
 obtain⟨A,c,e,h1,h2,h3⟩:=h;refine⟨A,c,e,h1,by omega,fun k hk => ?_⟩;rcases h3 with⟨rfl,_⟩|⟨ad,css,fss,e1,e2,e3,e4,h3⟩
 ·cases hk
 ·obtain⟨q1,q2,q3,q4,q5,q6⟩:=h3 k hk;have q7:=q4 0 (by omega);simp only[q6,List.getElem_cons_zero,Nat.mul_one,Nat.add_zero]at q7;exact⟨ad,e1,by rw[e4];exact List.mem_append_left _ (BH.2 ⟨k,by omega,rfl⟩),World.block_lt_of_cell? _ _ q7,q7⟩
theorem AM.close_ {w:World} {ad:Addr} {c:Nat} {bs:List UInt8}(h1:bs.length≤c)(h2:c≤9223372036854775807)(h:∀k,(hk:k<bs.length)→w.cell? (ad.add k)=some (.int .u8 (bs[k].toNat:Int))) :
  AM w (Bz ad bs.length) (.slice (some ad) bs.length c) bs:=by
 refine⟨some ad,c,rfl,h1,by omega,.inr ⟨ad,bs.map fun b => [CE b],bs.map fun _ => [],rfl,by simp,by simp,?_,fun i hi =>⟨by simpa using hi,by simpa using hi,by simp,fun j hj => ?_,?_⟩⟩⟩
 ·have:(bs.map fun _ =>([]:List Addr)).flatten = []:=by simp[List.flatten_eq_nil_iff]
  rw[this];simp
 ·simp at hj;subst hj;simpa [CE]using h i hi
 ·simp[Av]
theorem AM.empty {w:World} {A:Option Addr} {c:Nat}(h2:c≤9223372036854775807):AM w [] (.slice A 0 c) []:=⟨A,c,rfl,Nat.zero_le _,by omega,.inl ⟨rfl,rfl⟩⟩
theorem Co {a b:Bool}(h:a=b):Ending.returned (.bool a)= .returned (.bool b):=by rw[h]
theorem bneU8t {a b:UInt8}(h:a≠b):(((a.toNat:Int) !=(b.toNat:Int)):Bool)=true:=by
 rw[bne_iff_ne];intro e;exact h (UInt8.toNat_inj.1 (by omega))
theorem bneU8f {a b:UInt8}(h:a=b):(((a.toNat:Int) !=(b.toNat:Int)):Bool)=false:=by
 subst h;simp
theorem Cl {a b:Nat}(h:a≠b):(((a:Int) !=(b:Int)):Bool)=true:=by rw[bne_iff_ne];omega
theorem Ck {a b:Nat}(h:a=b):(((a:Int) !=(b:Int)):Bool)=false:=by subst h;simp
theorem Ge {α:Type} {xs ys:List α} {k:Nat}(h:xs.take k=ys.take k)(h1:k<xs.length)(h2:k<ys.length)(h3:xs[k] =ys[k]):xs.take (k+1)=ys.take (k+1):=by
 rw[List.take_succ_eq_append_getElem h1,List.take_succ_eq_append_getElem h2,h,h3]
structure Cq (lo:Nat) (w:World) (fs:List Addr):Prop where
 nodup:fs.Nodup
 from_:∀a,a∈fs→lo≤a.block
 free:∀a,a∈fs→w.frozen? a=false
structure BX (fs:List Addr) (w w':World):Prop where
 os:w'.os=w.os
 tape:w'.tape=w.tape
 output:w'.output=w.output
 size:w.heap.size≤w'.heap.size
 cell:∀a:Addr,a∉fs→a.block<w.heap.size→w'.cell? a=w.cell? a
 frozen:∀a:Addr,a.block<w.heap.size→w'.frozen? a=w.frozen? a
 block:∀k,k<w.heap.size→(∀a,a∈fs→a.block≠k)→w'.heap[k]? =w.heap[k]?
theorem BX.refl(fs:List Addr)(w:World):BX fs w w:=⟨rfl,rfl,rfl,Nat.le_refl _,fun _ _ _ => rfl,fun _ _ => rfl,fun _ _ _ => rfl⟩
theorem BX.mono {fs gs:List Addr} {w w':World}(h:BX fs w w')(hs:∀a,a∈fs→a∈gs):BX gs w w' :=
 ⟨h.os,h.tape,h.output,h.size,fun a ha hb => h.cell a (fun hf => ha (hs a hf)) hb,h.frozen,fun k hk hf => h.block k hk fun a ha => hf a (hs a ha)⟩
theorem BX.trans {fs:List Addr} {a b c:World}(h:BX fs a b)(k:BX fs b c):BX fs a c :=
 ⟨k.os.trans h.os,k.tape.trans h.tape,k.output.trans h.output,Nat.le_trans h.size k.size,fun x hx hb =>(k.cell x hx (Nat.lt_of_lt_of_le hb h.size)).trans (h.cell x hx hb),
  fun x hb =>(k.frozen x (Nat.lt_of_lt_of_le hb h.size)).trans (h.frozen x hb),fun x hx hf =>(k.block x (Nat.lt_of_lt_of_le hx h.size) hf).trans (h.block x hx hf)⟩
theorem BX.of_below {fs:List Addr} {w w':World}(h:Below w.heap.size w w'):BX fs w w' :=
 ⟨h.os,h.tape,h.output,h.size,fun _ _ hb => h.cell hb,fun _ hb => h.frozen hb,fun k hk _ => h.block k hk⟩
theorem BX.setCell {fs:List Addr} {a w:World}(h:BX fs a w) {p:Addr}(hp:p∈fs)(u:Value):BX fs a (w.setCell p u) :=
 h.trans ⟨rfl,rfl,rfl,by simp[World.setCell],fun x hx _ => World.cell?_setCell_other w p x u (fun e => hx (by rw[← e];exact hp)),fun x _ => World.frozen?_setCell w p x u,fun k _ hf => Below.heap_setCell w p u k (fun e => hf p hp e.symm)⟩
theorem BX.drewN {fs:List Addr} {a w:World}(h:BX fs a w)(n:Nat):BX fs a (w.drewN n):=⟨h.os,h.tape,h.output,h.size,h.cell,h.frozen,h.block⟩
theorem BX.below {fs:List Addr} {w w':World}(h:BX fs w w') {B:Nat}(hB:B≤w.heap.size)(hf:∀a,a∈fs→B≤a.block):Below B w w' :=
 ⟨h.os,h.tape,h.output,h.size,fun k hk => h.block k (by omega) fun a ha e => by have:=hf a ha;omega⟩
theorem BX.same {fs gs:List Addr} {w w':World}(h:BX fs w w')(ht:EJ gs w)(hd:∀a,a∈gs→a∉fs):AP gs w w':=fun a ha => h.cell a (hd a ha) (ht a ha)
theorem Cq.keep {lo:Nat} {w w':World} {fs:List Addr}(h:Cq lo w fs)(hf:∀a,a∈fs→w'.frozen? a=w.frozen? a):Cq lo w' fs:=⟨h.nodup,h.from_,fun a ha =>(hf a ha).trans (h.free a ha)⟩
theorem Cq.wrote {lo:Nat} {w w':World} {fs gs:List Addr}(h:Cq lo w fs)(hw:BX gs w w')(ht:EJ fs w):Cq lo w' fs:=h.keep fun a ha => hw.frozen a (ht a ha)
theorem Cq.mono {lo lo':Nat} {w:World} {fs:List Addr}(h:Cq lo w fs)(hl:lo'≤lo):Cq lo' w fs:=⟨h.nodup,fun a ha => Nat.le_trans hl (h.from_ a ha),h.free⟩
theorem Cq.set_ {lo:Nat} {w:World} {fs:List Addr}(h:Cq lo w fs)(p:Addr)(u:Value):Cq lo (w.setCell p u) fs:=h.keep fun a _ => World.frozen?_setCell w p a u
theorem AP.set_ {fs:List Addr}(w:World) {p:Addr} {lo:Nat}(hf:∀a,a∈fs→lo≤a.block)(hp:p.block<lo)(u:Value):AP fs w (w.setCell p u) :=
 fun a ha => World.cell?_setCell_other w p a u fun e => by have:=hf a ha;rw[← e]at this;omega
theorem IG {ad:Addr} {n i j:Nat}(h:(Bz ad n).Nodup)(hi:i<n)(hj:j<n)(e:ad.add i=ad.add j):i=j:=by
 unfold Bz at h;rw[List.nodup_iff_pairwise_ne,List.pairwise_iff_getElem]at h;rcases Nat.lt_trichotomy i j with hlt|he|hgt
 ·have:=h i j (by simpa using hi) (by simpa using hj) hlt;simp at this;exact absurd e this
 ·exact he
 ·have:=h j i (by simpa using hj) (by simpa using hi) hgt;simp at this;exact absurd e.symm this
theorem AM.form {w:World} {fs:List Addr} {v:Value} {bs:List UInt8}(h:AM w fs v bs) :
  ∃A c,v= .slice A bs.length c∧bs.length≤c∧c≤9223372036854775807∧((bs= []∧fs= [])∨∃ad,A=some ad∧fs=Bz ad bs.length∧∀k,(hk:k<bs.length)→w.cell? (ad.add k)=some (.int .u8 (bs[k].toNat:Int))):=by
 obtain⟨A,c,e,h1,h2,h3⟩:=h;refine⟨A,c,e,h1,by omega,?_⟩;rcases h3 with h3|⟨ad,css,fss,e1,e2,e3,e4,h3⟩
 ·exact .inl h3
 ·have hz:fss.flatten= []:=by
   rw[List.flatten_eq_nil_iff];intro f hf;obtain⟨i,hi,rfl⟩:=List.getElem_of_mem hf;obtain⟨_,_,_,_,q,_⟩:=h3 i (by omega);exact q
  refine .inr ⟨ad,e1,by rw[e4,hz];simp,fun k hk => ?_⟩;obtain⟨q1,q2,q3,q4,q5,q6⟩:=h3 k hk;have q7:=q4 0 (by omega);simp only[q6,List.getElem_cons_zero,Nat.mul_one,Nat.add_zero]at q7;exact q7
theorem AM.store {w:World} {fs:List Addr} {ad:Addr} {c n:Nat} {bs:List UInt8}(h:AM w fs (.slice (some ad) n c) bs)(hn:fs.Nodup) {j:Nat}(hj:j<bs.length)(b:UInt8) :
  AM (w.setCell (ad.add j) (.int .u8 (b.toNat:Int))) fs (.slice (some ad) n c) (bs.set j b):=by
 obtain⟨A,c',e,h1,h2,h3⟩:=AM.form h;injection e with e1 e2 e3
 subst e2 e3;rcases h3 with⟨rfl,_⟩|⟨ad',q1,q4,h3⟩
 ·simp at hj
 ·rw[← e1]at q1;injection q1 with q1
  subst q1;have:=AM.close_ (w:=w.setCell (ad.add j) (.int .u8 (b.toNat:Int))) (ad:=ad) (c:=c) (bs:=bs.set j b) (by simpa using h1) h2 (fun k hk => by
   simp only[List.length_set]at hk;by_cases e:j=k
   ·subst e;rw[World.cell?_setCell_same _ _ _ (h3 j hk),List.getElem_set_self]
   ·rw[World.cell?_setCell_other,List.getElem_set_ne e]
    ·exact h3 k hk
    ·intro e';rw[q4]at hn;exact e (IG hn hj hk e'))
  rw[List.length_set,← q4]at this;exact this
def Blk(w:World)(g:Nat)(t:TypeId)(cs:Array Value):Prop:=w.heap[g]? =some (.cells cs t (0,0))
section
variable {w w':World} {g:Nat} {t:TypeId} {cs:Array Value}
theorem Blk.lt(h:Blk w g t cs):g<w.heap.size:=by
 rcases Nat.lt_or_ge g w.heap.size with hlt|hge
 ·exact hlt
 ·unfold Blk at h;rw[Array.getElem?_eq_none hge]at h;cases h
theorem Blk.cell(h:Blk w g t cs)(i:Nat):w.cell? ⟨g,i,none⟩=cs[i]?:=cell_of_row w g i cs t (0,0) h
theorem Blk.frozen(h:Blk w g t cs)(i:Nat):w.frozen? ⟨g,i,none⟩=false:=by
 unfold Blk at h;simp[World.frozen?,h]
theorem Blk.new(w:World)(t:TypeId)(cs:Array Value):Blk (w.alloc (.cells cs t)) w.heap.size t cs:=heap_alloc_new w _
theorem Blk.drewN(h:Blk w g t cs)(n:Nat):Blk (w.drewN n) g t cs:=h
theorem Blk.alloc(h:Blk w g t cs)(o:Obj):Blk (w.alloc o) g t cs:=(Below.heap_alloc w o g h.lt).trans h
theorem Blk.set_(h:Blk w g t cs)(i:Nat)(u:Value):Blk (w.setCell ⟨g,i,none⟩ u) g t (cs.setIfInBounds i u):=by
 unfold Blk at h⊢;simp[World.setCell,Array.getElem?_modify,h]
theorem Blk.far(h:Blk w g t cs) {p:Addr}(hp:g≠p.block)(u:Value):Blk (w.setCell p u) g t cs:=(Below.heap_setCell w p u g hp).trans h
theorem Blk.below {B:Nat}(h:Blk w g t cs)(hb:Below B w w')(hg:g<B):Blk w' g t cs:=(hb.block g hg).trans h
theorem Blk.grown {row:Option Nat}(h:Blk w g t cs)(hb:w.grownBy w' row)(hg:some g≠row):Blk w' g t cs:=(hb.block g h.lt hg).trans h
end
theorem Blk.new1(w:World)(o:Obj)(t:TypeId)(cs:Array Value):Blk ((w.alloc o).alloc (.cells cs t)) (w.heap.size+1) t cs:=by
 have:=Blk.new (w.alloc o) t cs;rwa [World.size_alloc]at this
theorem Blk.new2(w:World)(o o2:Obj)(t:TypeId)(cs:Array Value):Blk (((w.alloc o).alloc o2).alloc (.cells cs t)) (w.heap.size+1+1) t cs:=by
 have:=Blk.new ((w.alloc o).alloc o2) t cs;rwa [World.size_alloc,World.size_alloc]at this
theorem Blk.at_ {w:World} {g:Nat} {t:TypeId} {cs:Array Value}(h:Blk w g t cs)(i:Nat) {v:Value}(hv:cs[i]? =some v):w.cell? ⟨g,i,none⟩=some v:=(h.cell i).trans hv
theorem CO(g k:Nat):(⟨g,0,none⟩:Addr).add k=⟨g,k,none⟩:=by unfold Addr.add;split <;> simp_all
def DH(vs:List Value)(z:Value)(j:Nat):Array Value:=(vs.take j ++ List.replicate (vs.length - j) z).toArray
theorem Lf(vs:List Value)(z:Value)(j:Nat):(DH vs z j).size =vs.length:=by simp[DH];omega
theorem Lh(vs:List Value)(z:Value)(n:Nat)(h:n=vs.length):madeCells #[z] n=DH vs z 0:=by
 subst h;apply Array.toList_inj.1
 rw[toList_madeCells_one];simp[DH]
theorem Lg {vs:List Value} {z:Value} {j:Nat}(h:j<vs.length):(DH vs z j).setIfInBounds j vs[j] =DH vs z (j+1):=by
 apply Array.toList_inj.1
 rw[Array.toList_setIfInBounds];unfold DH;apply List.ext_getElem
 ·simp;omega
 ·intro i h1 h2;simp only[List.getElem_set,List.getElem_append,List.length_take,List.getElem_take,List.getElem_replicate];by_cases e:j=i
  ·subst e;simp;omega
  ·rw[if_neg e];by_cases h:i<j
   ·rw[dif_pos (by omega),dif_pos (by omega)]
   ·rw[dif_neg (by omega),dif_neg (by omega)]
theorem Le(vs:List Value)(z:Value):DH vs z vs.length=vs.toArray:=by simp[DH]
theorem Mg(vs:List Value)(z:Value)(j:Nat)(i:Nat)(h:i<vs.length):∃u,(DH vs z j)[i]? =some u:=by
 have:i<(DH vs z j).size:=by rw[Lf];exact h
 exact⟨_,Array.getElem?_eq_getElem this⟩
theorem AM.of_blk {w:World} {g:Nat} {T:TypeId} {bs:List UInt8}(h:Blk w g T (bs.map CE).toArray)(hs:bs.length≤1000000000000) :
  AM w (Bz ⟨g,0,none⟩ bs.length) (.slice (some ⟨g,0,none⟩) bs.length bs.length) bs :=
 AM.close_ (Nat.le_refl _) (by omega) fun k hk => by
  rw[CO,h.cell];simp[CE,hk]
theorem Fb {α:Type} {k:Nat}:∀(css:List (List α)),(∀c,c∈css→c.length=k)→css.flatten.length=css.length * k
 | [],_ => by simp
 |c :: r,h => by
  rw[List.flatten_cons,List.length_append,h c (by simp),Fb r (fun x hx => h x (by simp[hx])),List.length_cons,Nat.add_mul,Nat.one_mul,Nat.add_comm]
theorem Dk {α:Type} {k:Nat}:∀(css:List (List α)),(∀c,c∈css→c.length=k)→∀(i j:Nat) (h:i<css.length),j<k→css.flatten[i * k+j]? =css[i][j]?
 | [],_,_,_,h,_ => by cases h
 |c :: r,h,0,j,_,hj => by
  have:=h c (by simp);simp only[Nat.zero_mul,Nat.zero_add,List.flatten_cons,List.getElem_cons_zero];rw[List.getElem?_append_left (by omega)]
 |c :: r,h,i+1,j,hi,hj => by
  have hc:=h c (by simp);have:=Dk r (fun x hx => h x (by simp[hx])) i j (by simpa using hi) hj;simp only[List.flatten_cons,List.getElem_cons_succ];rw[List.getElem?_append_right (by rw[hc,Nat.add_mul];omega),hc,← this];congr 1
  rw[Nat.add_mul];omega
theorem F1 {α:Type} {k:Nat}:∀(css:List (List α)),(∀c,c∈css→c.length=k)→∀i,i≤css.length→css.flatten.take (i * k)=(css.take i).flatten
 | [],_,i,hi => by simp at hi;subst hi;simp
 |c :: r,h,0,_ => by simp
 |c :: r,h,i+1,hi => by
  have hc:=h c (by simp);rw[List.flatten_cons,List.take_succ_cons,List.flatten_cons,← F1 r (fun x hx => h x (by simp[hx])) i (by simpa using hi),show(i+1) * k=c.length+i * k from by rw[hc,Nat.add_mul];omega,List.take_length_add_append]
theorem F0 {α:Type} {k:Nat}:∀(css:List (List α)),(∀c,c∈css→c.length=k)→∀i,i≤css.length→css.flatten.drop (i * k)=(css.drop i).flatten
 | [],_,i,hi => by simp
 |c :: r,h,0,_ => by simp
 |c :: r,h,i+1,hi => by
  have hc:=h c (by simp);rw[List.flatten_cons,List.drop_succ_cons,← F0 r (fun x hx => h x (by simp[hx])) i (by simpa using hi),show(i+1) * k=c.length+i * k from by rw[hc,Nat.add_mul];omega,List.drop_length_add_append]
def Ao {α:Type}(k:Nat)(E:TypeId)(R:Ap α)(w:World)(base:Nat)(v:Value)(ds:List α)(fs:List Addr):Prop :=
 ∃(css:List (List Value)) (fss:List (List Addr)),css.length=ds.length∧fss.length=ds.length∧fs=fss.flatten∧w.ownsRow base E k v ds.length css.flatten∧
  (∀i,(h:i<ds.length)→∃(h1:i<css.length) (h2:i<fss.length),css[i].length =k∧R w fss[i] css[i] ds[i])∧(∀a,a∈fs→v.ownBlock≠some a.block)
theorem Ao.cells {α:Type} {k:Nat} {E:TypeId} {R:Ap α} {w:World} {base:Nat} {v:Value} {ds:List α} {fs:List Addr}(h:Ao k E R w base v ds fs):∃xs,w.ownsRow base E k v ds.length xs:=by
 obtain⟨css,_,_,_,_,h4,_⟩:=h;exact⟨_,h4⟩
theorem Fd {w:World} {base:Nat} {E:TypeId} {k:Nat} {v:Value} {n:Nat} {xs ys:List Value}(h:w.ownsRow base E k v n xs)(h2:w.ownsRow base E k v n ys):xs=ys:=by
 obtain⟨l1,t1⟩:=h;obtain⟨l2,t2⟩:=h2;rcases t1 with⟨rfl,h0⟩|⟨g1,cap,cur,rfl,hb1,hg1,_,_,_,ht1⟩
 ·rw[h0,Nat.zero_mul]at l1 l2;rw[List.eq_nil_of_length_eq_zero l1,List.eq_nil_of_length_eq_zero l2]
 ·rcases t2 with⟨e,_⟩|⟨g2,cap2,cur2,e,hb2,hg2,_,_,_,ht2⟩
  ·cases e
  ·injection e with ea eb ec
   injection ea with ea
   injection ea with ea
   subst ea;rw[hg1]at hg2;injection hg2 with hg2
   injection hg2 with hg2
   subst hg2;rw[← ht1,← ht2]
section
variable {α:Type} {k:Nat} {E:TypeId} {R:Ap α} {w w':World} {base:Nat} {v:Value} {ds:List α} {fs:List Addr}
theorem Ao.start(h:w.ownsRow base E k v 0 []):Ao k E R w base v [] []:=⟨[],[],rfl,rfl,rfl,h,(fun _ h => by cases h),(fun _ h => by cases h)⟩
theorem Ao.mono {base':Nat}(h:Ao k E R w base v ds fs)(hb:base'≤base):Ao k E R w base' v ds fs:=by
 obtain⟨css,fss,h1,h2,h3,⟨hl,h4⟩,h5,h6⟩:=h;refine⟨css,fss,h1,h2,h3,⟨hl,?_⟩,h5,h6⟩;rcases h4 with h|⟨g,cap,cur,hv,hbb,h⟩
 ·exact .inl h
 ·exact .inr ⟨g,cap,cur,hv,Nat.le_trans hb hbb,h⟩
theorem Ao.lt(h:Ao k E R w base v ds fs):∀b,v.ownBlock=some b→base≤b∧b<w.heap.size:=by
 obtain⟨_,_,_,_,_,h4,_,_⟩:=h;exact fun b hb => h4.lt b hb
theorem Ao.there(hF:Bv R)(h:Ao k E R w base v ds fs):EJ fs w:=by
 obtain⟨css,fss,h1,h2,rfl,h4,h5,h6⟩:=h;intro a ha;obtain⟨f,hf,hm⟩:=List.mem_flatten.1 ha;obtain⟨i,hi,rfl⟩:=List.getElem_of_mem hf;obtain⟨p1,p2,p3,p4⟩:=h5 i (by omega);exact hF _ _ _ _ p4 a hm
theorem Ao.keep(hR:Bm R)(h:Ao k E R w base v ds fs)(hb:∀b,v.ownBlock=some b→w'.heap[b]? =w.heap[b]?)(hs:AP fs w w'):Ao k E R w' base v ds fs:=by
 obtain⟨css,fss,h1,h2,rfl,h4,h5,h6⟩:=h;refine⟨css,fss,h1,h2,rfl,⟨h4.1,?_⟩,fun i hi => ?_,h6⟩
 ·rcases h4.2 with h|⟨g,cap,cur,hv,hbb,hg,h3⟩
  ·exact .inl h
  ·exact .inr ⟨g,cap,cur,hv,hbb,(hb g (by rw[hv];rfl)).trans hg,h3⟩
 ·obtain⟨p1,p2,p3,p4⟩:=h5 i hi;exact⟨p1,p2,p3,hR _ _ _ _ _ p4 (hs.mem (List.getElem_mem p2))⟩
theorem Ao.below(hR:Bm R)(hF:Bv R)(h:Ao k E R w base v ds fs)(hb:Below w.heap.size w w'):Ao k E R w' base v ds fs :=
 h.keep hR (fun b hv => hb.block b (h.lt b hv).2) (AP.of_below (h.there hF) hb)
theorem Ao.wrote(hR:Bm R)(hF:Bv R)(h:Ao k E R w base v ds fs) {gs:List Addr}(hw:BX gs w w')(h1:∀a,a∈gs→v.ownBlock≠some a.block)(h2:∀a,a∈fs→a∉gs):Ao k E R w' base v ds fs :=
 h.keep hR (fun b hv => hw.block b (h.lt b hv).2 fun a ha e => h1 a ha (by rw[hv,e])) (hw.same (h.there hF) h2)
theorem Ao.length(h:Ao k E R w base v ds fs):∃A c,v= .slice A ds.length c∧ds.length≤c∧c≤9223372036854775807:=by
 obtain⟨css,fss,h1,h2,rfl,h4,h5,h6⟩:=h;rcases h4.2 with⟨rfl,h⟩|⟨g,cap,cur,rfl,hb,hg,hnc,hcm,hcs,htake⟩
 ·exact⟨none,0,by rw[h],by omega,by omega⟩
 ·unfold maxLen at hcm;exact⟨_,_,rfl,hnc,by omega⟩
theorem Ao.far(h:Ao k E R w base v ds fs):∀a,a∈fs→v.ownBlock≠some a.block:=by
 obtain⟨_,_,_,_,_,_,_,h6⟩:=h;exact h6
theorem Ao.ones(hO:∀w f cs d,R w f cs d→∀u,u∈cs→u.oneCell'=true)(h:Ao k E R w base v ds fs) {xs:List Value}(hx:w.ownsRow base E k v ds.length xs):∀u,u∈xs→u.oneCell'=true:=by
 obtain⟨css,fss,h1,h2,h3,h4,h5,h6⟩:=h;intro u hu;rw[Fd hx h4]at hu;obtain⟨c,hc,huc⟩:=List.mem_flatten.1 hu;obtain⟨i,hi,rfl⟩:=List.getElem_of_mem hc;obtain⟨_,_,_,p4⟩:=h5 i (by omega);exact hO _ _ _ _ p4 u huc
theorem Ao.reads(h:Ao k E R w base v ds fs):∃gs,rSl k R w (gs ++ fs) v ds∧gs.Nodup∧(∀a,a∈gs→v.ownBlock=some a.block)∧(∀a,a∈gs→w.frozen? a=false)∧(∀a,a∈gs→base≤a.block)∧(∀a,a∈fs→v.ownBlock≠some a.block):=by
 have hlt:=h.lt;obtain⟨css,fss,h1,h2,rfl,⟨hl,h4⟩,h5,h6⟩:=h;have hw:∀c,c∈css→c.length=k:=by
  intro c hc;obtain⟨i,hi,rfl⟩:=List.getElem_of_mem hc;obtain⟨_,_,p3,_⟩:=h5 i (by omega);exact p3
 rcases h4 with⟨rfl,h0⟩|⟨g,cap,cur,rfl,hb,hg,hnc,hcm,hcs,htake⟩
 ·have:ds= []:=List.eq_nil_of_length_eq_zero h0;subst this;have:fss= []:=List.eq_nil_of_length_eq_zero h2;subst this;exact⟨[],⟨none,0,rfl,Nat.le_refl _,by omega,.inl ⟨rfl,rfl⟩⟩,List.nodup_nil,(fun _ h => by cases h),(fun _ h => by cases h),(fun _ h => by cases h),h6⟩
 ·simp only[maxLen]at hcm;refine⟨Bz ⟨g,0,none⟩ (ds.length * k),⟨some ⟨g,0,none⟩,cap,rfl,hnc,by omega,.inr ⟨⟨g,0,none⟩,css,fss,rfl,h1,h2,rfl,fun i hi => ?_⟩⟩,GB rfl,fun a ha => ?_,fun a ha => ?_,fun a ha => ?_,h6⟩
  ·obtain⟨p1,p2,p3,p4⟩:=h5 i hi;refine⟨p1,p2,p3,fun j hj => ?_,p4⟩;rw[CO,cell_of_row w g _ cur E (0,0) hg];have hq:i * k+j<ds.length * k:=by
    rw[p3]at hj;calc i * k+j<i * k+k:=by omega
     _=(i+1) * k:=by rw[Nat.add_mul];omega
     _≤ds.length * k:=Nat.mul_le_mul_right _ hi
   have h3:(cur.toList.take (ds.length * k))[i * k+j]? =some css[i][j]:=by
    rw[htake,Dk css hw i j p1 (by omega)];exact List.getElem?_eq_getElem hj
   rw[List.getElem?_take,if_pos hq]at h3;simpa using h3
  ·obtain⟨q,_,rfl⟩:=BH.1 ha;rw[CO];rfl
  ·obtain⟨q,_,rfl⟩:=BH.1 ha;rw[CO];exact frozen_of_row w g q cur E hg
  ·obtain⟨q,_,rfl⟩:=BH.1 ha;rw[CO];exact hb
theorem Ao.insert(hR:Bm R)(hF:Bv R)(h:Ao k E R w base v ds fs) {i:Nat}(hi:i≤ds.length) {us:List Value} {f:List Addr} {d:α} {v':Value}
  {xs:List Value} (hx:w.ownsRow base E k v ds.length xs) (hw:w'.ownsRow base E k v' (ds.length+1) (xs.take (i * k) ++ us ++ xs.drop (i * k)))
  (hus:us.length=k) (hg:w.grownBy w' v.ownBlock) (hv:v'.ownBlock=v.ownBlock∨v'.ownBlock=some w.heap.size) (hr:R w f us d) (hfd:∀a,a∈f→v.ownBlock≠some a.block) :
  ∃fs',Ao k E R w' base v' (ds.take i ++ d :: ds.drop i) fs'∧fs'.Perm (fs ++ f):=by
 have hthere:=h.there hF;obtain⟨css,fss,h1,h2,rfl,h4,h5,h6⟩:=h;have hwd:∀c,c∈css→c.length=k:=by
  intro c hc;obtain⟨i,hi,rfl⟩:=List.getElem_of_mem hc;obtain⟨_,_,p3,_⟩:=h5 i (by omega);exact p3
 have hft:=hF _ _ _ _ hr;have hcell:∀b:Addr,b.block<w.heap.size→v.ownBlock≠some b.block→w'.cell? b=w.cell? b:=fun b hb hne => hg.cell_far b hb (fun e => hne e.symm)
 have hxl:(ds.take i ++ d :: ds.drop i).length =ds.length+1:=by simp;omega
 refine⟨(fss.take i ++ f :: fss.drop i).flatten,⟨css.take i ++ us :: css.drop i,fss.take i ++ f :: fss.drop i,by simp;omega,by simp;omega,rfl,?_,fun q hq => ?_,fun b hb => ?_⟩,?_⟩
 ·rw[hxl];rw[Fd hx h4,F1 css hwd i (by omega),F0 css hwd i (by omega)]at hw;simpa [List.append_assoc]using hw
 ·have hgo:∀q',(hq':q'<ds.length)→∃(h1:q'<css.length) (h2:q'<fss.length),css[q'].length =k∧R w' fss[q'] css[q'] ds[q']:=by
   intro q' hq';obtain⟨p1,p2,p3,p4⟩:=h5 q' hq';refine⟨p1,p2,p3,hR _ _ _ _ _ p4 fun b hb => ?_⟩;have hbf:=List.mem_flatten.2 ⟨_,List.getElem_mem p2,hb⟩;exact hcell b (hthere b hbf) (h6 b hbf)
  rcases Nat.lt_trichotomy q i with hlt|he|hgt
  ·obtain⟨p1,p2,p3,p4⟩:=hgo q (by omega);refine⟨by simp;omega,by simp;omega,?_⟩;have e1:(css.take i ++ us :: css.drop i)[q]'(by simp;omega)=css[q]:=by rw[List.getElem_append_left (by simp;omega)];simp
   have e2:(fss.take i ++ f :: fss.drop i)[q]'(by simp;omega)=fss[q]:=by rw[List.getElem_append_left (by simp;omega)];simp
   have e3:(ds.take i ++ d :: ds.drop i)[q]'hq=ds[q]'(by omega):=by rw[List.getElem_append_left (by simp;omega)];simp
   rw[e1,e2,e3];exact⟨p3,p4⟩
  ·subst he;refine⟨by simp;omega,by simp;omega,?_⟩;have e1:(css.take q ++ us :: css.drop q)[q]'(by simp;omega)=us:=by rw[List.getElem_append_right (by simp;omega)];simp[Nat.min_eq_left (show q≤css.length by omega)]
   have e2:(fss.take q ++ f :: fss.drop q)[q]'(by simp;omega)=f:=by rw[List.getElem_append_right (by simp;omega)];simp[Nat.min_eq_left (show q≤fss.length by omega)]
   have e3:(ds.take q ++ d :: ds.drop q)[q]'hq=d:=by rw[List.getElem_append_right (by simp;omega)];simp[Nat.min_eq_left hi]
   rw[e1,e2,e3];exact⟨hus,hR _ _ _ _ _ hr fun b hb => hcell b (hft b hb) (hfd b hb)⟩
  ·obtain⟨q',rfl⟩:∃q',q=q'+1:=⟨q - 1,by omega⟩;rw[hxl]at hq;obtain⟨p1,p2,p3,p4⟩:=hgo q' (by omega);refine⟨by simp;omega,by simp;omega,?_⟩;have e1:(css.take i ++ us :: css.drop i)[q'+1]'(by simp;omega)=css[q']:=by
    rw[List.getElem_append_right (by simp;omega),List.getElem_cons];simp only[List.length_take,Nat.min_eq_left (show i≤css.length by omega),List.getElem_drop];rw[dif_neg (by omega)];congr 1;omega
   have e2:(fss.take i ++ f :: fss.drop i)[q'+1]'(by simp;omega)=fss[q']:=by
    rw[List.getElem_append_right (by simp;omega),List.getElem_cons];simp only[List.length_take,Nat.min_eq_left (show i≤fss.length by omega),List.getElem_drop];rw[dif_neg (by omega)];congr 1;omega
   have e3:(ds.take i ++ d :: ds.drop i)[q'+1]'(by simp;omega)=ds[q']'(by omega):=by
    rw[List.getElem_append_right (by simp;omega),List.getElem_cons];simp only[List.length_take,Nat.min_eq_left hi,List.getElem_drop];rw[dif_neg (by omega)];congr 1;omega
   rw[e1,e2,e3];exact⟨p3,p4⟩
 ·have hb':b∈fss.flatten∨b∈f:=by
   obtain⟨l,hl,hbl⟩:=List.mem_flatten.1 hb;rcases List.mem_append.1 hl with hl|hl
   ·exact .inl (List.mem_flatten.2 ⟨l,List.mem_of_mem_take hl,hbl⟩)
   ·rcases List.mem_cons.1 hl with rfl|hl
    ·exact .inr hbl
    ·exact .inl (List.mem_flatten.2 ⟨l,List.mem_of_mem_drop hl,hbl⟩)
  have hbs:b.block<w.heap.size:=hb'.elim (hthere b) (hft b);have hbn:v.ownBlock≠some b.block:=hb'.elim (h6 b) (hfd b);rcases hv with e|e
  ·rw[e];exact hbn
  ·rw[e];intro e2;injection e2 with e2;omega
 ·have:(fss.take i ++ f :: fss.drop i).Perm (fss ++ [f]):=by
   have h0:(fss ++ [f])=fss.take i ++(fss.drop i ++ [f]):=by rw[← List.append_assoc,List.take_append_drop]
   rw[h0];exact List.Perm.append_left _ (List.perm_append_comm (l₁:=[f]) (l₂:=fss.drop i))
  have:=this.flatten;simpa using this
end
section
variable {α:Type} {k:Nat} {E:TypeId} {R:Ap α} {w w':World} {base:Nat} {v:Value} {ds:List α} {fs:List Addr}
theorem Ao.extend(hR:Bm R)(hF:Bv R)(h:Ao k E R w base v ds fs) {ds2:List α} {css2:List (List Value)} {fss2:List (List Addr)} {v':Value} {xs:List Value}(hx:w.ownsRow base E k v ds.length xs)
  (hw:w'.ownsRow base E k v' (ds.length+ds2.length) (xs ++ css2.flatten)) (hc:css2.length=ds2.length) (hf:fss2.length=ds2.length) (hg:w.grownBy w' v.ownBlock) (hv:v'.ownBlock=v.ownBlock∨v'.ownBlock=some w.heap.size)
  (hr:∀i,(h:i<ds2.length)→∃(h1:i<css2.length) (h2:i<fss2.length),css2[i].length =k∧R w fss2[i] css2[i] ds2[i]) (hfd:∀a,a∈fss2.flatten→v.ownBlock≠some a.block) :
  Ao k E R w' base v' (ds ++ ds2) (fs ++ fss2.flatten):=by
 have hthere:=h.there hF;obtain⟨css,fss,h1,h2,rfl,h4,h5,h6⟩:=h;have ht2:∀a,a∈fss2.flatten→a.block<w.heap.size:=by
  intro a ha;obtain⟨f,hf2,hm⟩:=List.mem_flatten.1 ha;obtain⟨i,hi,rfl⟩:=List.getElem_of_mem hf2;obtain⟨p1,p2,p3,p4⟩:=hr i (by omega);exact hF _ _ _ _ p4 a hm
 have hcell:∀b:Addr,b.block<w.heap.size→v.ownBlock≠some b.block→w'.cell? b=w.cell? b:=fun b hb hne => hg.cell_far b hb (fun e => hne e.symm)
 refine⟨css ++ css2,fss ++ fss2,by simp[h1,hc],by simp[h2,hf],by simp,?_,fun q hq => ?_,fun b hb => ?_⟩
 ·rw[List.length_append,List.flatten_append,← Fd hx h4];exact hw
 ·rcases Nat.lt_or_ge q ds.length with hlt|hge
  ·obtain⟨p1,p2,p3,p4⟩:=h5 q hlt;refine⟨by simp;omega,by simp;omega,?_⟩;rw[List.getElem_append_left p1,List.getElem_append_left p2,List.getElem_append_left hlt];refine⟨p3,hR _ _ _ _ _ p4 fun b hb => ?_⟩;have hbf:=List.mem_flatten.2 ⟨_,List.getElem_mem p2,hb⟩;exact hcell b (hthere b hbf) (h6 b hbf)
  ·rw[List.length_append]at hq;obtain⟨p1,p2,p3,p4⟩:=hr (q - ds.length) (by omega);refine⟨by simp;omega,by simp;omega,?_⟩;have e1:(css ++ css2)[q]'(by simp;omega)=css2[q - ds.length]:=by rw[List.getElem_append_right (by omega)];simp only[h1]
   have e2:(fss ++ fss2)[q]'(by simp;omega)=fss2[q - ds.length]:=by rw[List.getElem_append_right (by omega)];simp only[h2]
   have e3:(ds ++ ds2)[q]'(by simp;omega)=ds2[q - ds.length]'(by omega):=by rw[List.getElem_append_right (by omega)]
   rw[e1,e2,e3];refine⟨p3,hR _ _ _ _ _ p4 fun b hb => ?_⟩;have hbf:=List.mem_flatten.2 ⟨_,List.getElem_mem p2,hb⟩;exact hcell b (ht2 b hbf) (hfd b hbf)
 ·have hbs:b.block<w.heap.size∧v.ownBlock≠some b.block:=(List.mem_append.1 hb).elim (fun h =>⟨hthere b h,h6 b h⟩) (fun h =>⟨ht2 b h,hfd b h⟩);rcases hv with e|e
  ·rw[e];exact hbs.2
  ·rw[e];intro e2;injection e2 with e2;have:=hbs.1;omega
end
theorem Hr {P:Program}(w:World)(base:Nat)(t ty e:TypeId)(i:TypeInfo)(size:Nat)(ht:P.underlying t=some (.slice e))(hi:P.info? e=some i)(v:Value)(n:Nat)(xs:List Value)(hown:w.ownsRow base e size v n xs)(c:Nat) :
  (Builtin.append_ #[t,t] ty #[v,.slice none 0 c]).run P w= .ok v w:=by
 rcases hown.2 with⟨rfl,rfl⟩|⟨g,cap,cur,rfl,hb,hg,hnc,hcm,hcs,htake⟩
 ·simp[Builtin.append_,run_underlying ht,sizeOf,typeInfo,hi,Builtin.lenOf,Builtin.firstCells]
 ·have h1:(n:Int)+0≤(cap:Int):=by omega
  simp[Builtin.append_,run_underlying ht,sizeOf,typeInfo,hi,Builtin.lenOf,Builtin.firstCells,hnc,storeCells]
def DX {α:Type}(k:Nat)(E:TypeId)(R:Ap α)(base:Nat)(w:World)(ob:Option Nat)(ds:List α)(fs gs:List Addr)(v':Value)(w':World):Prop :=
 ∃hs,Ao k E R w' base v' ds (fs ++ hs)∧hs.Sublist gs∧w.grownBy w' ob∧(v'.ownBlock=ob∨v'.ownBlock=some w.heap.size)
theorem Ao.appendRun {α:Type} {k:Nat} {E:TypeId} {R:Ap α} {P:Program} {w:World}(t ty:TypeId)(z:Value)(bytes:Nat)(ht:P.underlying t=some (.slice E))(hi:(P.info? E).map (fun i =>(i.zero,i.size,i.bytes))=some (some z,k,bytes))(hzs:z.cells.size=k)(hk:0<k)
  (hR:Bm R) (hF:Bv R) (hO:∀w f cs d,R w f cs d→∀u,u∈cs→u.oneCell'=true) (base:Nat) (v:Value) (ds:List α) (fs:List Addr) (hown:Ao k E R w base v ds fs) (u:Value) (ds2:List α) (gs:List Addr) (hsrc:rSl k R w gs u ds2) (hfd:∀a,a∈gs→v.ownBlock≠some a.block)
  (hn:ds.length+ds2.length≤1000000000) (hb:bytes≤1000) (hbase:base≤w.heap.size) :
  ∃v' w',(Builtin.append_ #[t,t] ty #[v,u]).run P w= .ok v' w'∧DX k E R base w v.ownBlock (ds ++ ds2) fs gs v' w':=by
 obtain⟨i,hi0,hz0,hz1,hz2⟩:=info_parts hi;obtain⟨xs,hxs⟩:=hown.cells;have hbb:(ds.length+ds2.length) * bytes≤140737488355328:=Nat.le_trans (Nat.mul_le_mul hn hb) (by omega);obtain⟨A,c,rfl,hc1,hc2,hs⟩:=hsrc;have main:∀(ad:Addr) (css:List (List Value)) (fss:List (List Addr)),css.length=ds2.length→fss.length=ds2.length→(∀a,a∈fss.flatten→a∈gs)→fss.flatten.Sublist gs→
   (∀i,(h:i<ds2.length)→∃(h1:i<css.length) (h2:i<fss.length),css[i].length =k∧(∀j,(hj:j<css[i].length)→w.cell? (ad.add (i * k+j))=some css[i][j])∧R w fss[i] css[i] ds2[i])→
   ∃v' w',(Builtin.append_ #[t,t] ty #[v,.slice (some ad) ds2.length c]).run P w= .ok v' w'∧DX k E R base w v.ownBlock (ds ++ ds2) fs gs v' w':=by
  intro ad css fss h1 h2 h3 h4 h5;have hw:∀c,c∈css→c.length=k:=by
   intro c hc;obtain⟨i,hi,rfl⟩:=List.getElem_of_mem hc;obtain⟨_,_,p3,_⟩:=h5 i (by omega);exact p3
  obtain⟨v',w',q1,q2,q3,q4,q5⟩:=run_append_own_at (P:=P) w base t ty E i z k bytes ht hi0 hz0 hz1 hz2 hzs hk v ds.length xs hxs ad ds2.length c css.flatten (by rw[Fb css hw,h1]) (fun j x hj => by
    have hlt:j<ds2.length * k:=by
     have:=(List.getElem?_eq_some_iff.1 hj).1;rw[Fb css hw,h1]at this;exact this
    have hi2:j / k<ds2.length:=by rw[Nat.div_lt_iff_lt_mul hk];exact hlt
    obtain⟨p1,p2,p3,p4,p5⟩:=h5 (j / k) hi2;have hm:j % k<k:=Nat.mod_lt _ hk;have e:j / k * k+j % k=j:=by rw[Nat.mul_comm];exact Nat.div_add_mod j k
    have:=Dk css hw (j / k) (j % k) p1 hm;rw[e,hj,List.getElem?_eq_getElem (by omega)]at this;injection this with this
    rw[this,← p4 (j % k) (by omega),e]) (fun x hx => by
    obtain⟨cc,hcc,hxc⟩:=List.mem_flatten.1 hx;obtain⟨q,hq,rfl⟩:=List.getElem_of_mem hcc;obtain⟨_,_,_,_,p5⟩:=h5 q (by omega);exact hO _ _ _ _ p5 x hxc) (by simp only[maxLen];omega) hbb hbase
  exact⟨v',w',q1,fss.flatten,Ao.extend hR hF hown hxs q2 h1 h2 q3 q5 (fun i hi => by obtain⟨p1,p2,p3,p4,p5⟩:=h5 i hi;exact⟨p1,p2,p3,p5⟩) (fun a ha => hfd a (h3 a ha)),h4,q3,q5⟩
 rcases hs with⟨rfl,rfl⟩|⟨ad,css,fss,rfl,h1,h2,rfl,h5⟩
 ·cases A with
  |none => exact⟨v,w,Hr w base t ty E i k ht hi0 v ds.length xs hxs c,[],by simpa using hown,List.Sublist.refl _,⟨rfl,rfl,rfl,Nat.le_refl _,fun _ _ _ => rfl⟩,.inl rfl⟩
  |some ad => exact main ad [] [] rfl rfl (fun a ha => by cases ha) (List.Sublist.refl _) (fun i hi => by cases hi)
 ·exact main ad css fss h1 h2 (fun a ha => List.mem_append_right _ ha) (List.sublist_append_right _ _) h5
theorem AQ {P:Program} {w:World} {ops:Array Oper} {rest:List Oper} {o:Oper} {a:Act} {Q:Exit→Act→World→Prop} {S:Value→World→Prop}(hgd:o.guard=none)(s x:Operand)(t:TypeId)
  (ho:o.op= .call { callee:=.builtin .append,args:=#[s,x],argTypes:=#[t,t] }) (v u:Value) (hs:a.eval s=v) (hx:a.eval x=u) (hr:∃v' w',(Builtin.append_ #[t,t] o.type #[v,u]).run P w= .ok v' w'∧S v' w')
  (h:∀v' w',S v' w'→wpList P ops Q rest (a.put o.dst v') w'):wpList P ops Q (o :: rest) a w:=by
 obtain⟨v',w',h1,h2⟩:=hr;refine wpList_plain hgd fun K hK => ?_
 unfold Oper.wp execOp;simp only[ho,resolve,invoke,builtin,Sem.run_bind,Sem.run_pure,Result.andThen_ok,List.map_toArray,List.map_cons,List.map_nil,hs,hx,h1];exact hK _ _ (h v' w' h2)
theorem Bf {P:Program} {w:World} {ops:Array Oper} {o:Oper} {a:Act} {K:Act→World→Prop} {Q:Exit→Act→World→Prop} {E:Prop} {S:Value→World→Prop}(hgd:o.guard=none)(s x:Operand)(t:TypeId)
  (ho:o.op= .call { callee:=.builtin .append,args:=#[s,x],argTypes:=#[t,t] }) (v u:Value) (hs:a.eval s=v) (hx:a.eval x=u) (hr:∃v' w',(Builtin.append_ #[t,t] o.type #[v,u]).run P w= .ok v' w'∧S v' w')
  (h:∀v' w',S v' w'→K (a.put o.dst v') w'):if Region.wanted o (yielded ops a.tmps)=true then Oper.wp P o a w K Q else E:=by
 have hw:Region.wanted o (yielded ops a.tmps)=true:=by simp[Region.wanted,hgd]
 rw[if_pos hw];obtain⟨v',w',h1,h2⟩:=hr;unfold Oper.wp execOp;simp only[ho,resolve,invoke,builtin,Sem.run_bind,Sem.run_pure,Result.andThen_ok,List.map_toArray,List.map_cons,List.map_nil,hs,hx,h1];exact h v' w' h2
theorem Ao.appendOne {α:Type} {k:Nat} {E:TypeId} {R:Ap α} {P:Program} {w:World}(t ty:TypeId)(z:Value)(bytes:Nat)(ht:P.underlying t=some (.slice E))(hi:(P.info? E).map (fun i =>(i.zero,i.size,i.bytes))=some (some z,k,bytes))(hzs:z.cells.size=k)(hk:0<k)
  (hR:Bm R) (hF:Bv R) (hO:∀w f cs d,R w f cs d→∀u,u∈cs→u.oneCell'=true) (base:Nat) (v:Value) (ds:List α) (fs:List Addr) (hown:Ao k E R w base v ds fs) (g:Nat) (us:List Value) (f:List Addr) (d:α) (hus:us.length=k) (hblk:Blk w g E us.toArray) (hr:R w f us d) (hfd:∀a,a∈f→v.ownBlock≠some a.block)
  (hn:ds.length+1≤1000000000) (hb:bytes≤1000) (hbase:base≤w.heap.size) :
  ∃v' w',(Builtin.append_ #[t,t] ty #[v,.slice (some ⟨g,0,none⟩) 1 1]).run P w= .ok v' w'∧DX k E R base w v.ownBlock (ds ++ [d]) fs f v' w':=by
 obtain⟨i,hi0,hz0,hz1,hz2⟩:=info_parts hi;obtain⟨xs,hxs⟩:=hown.cells;have hbb:(ds.length+1) * bytes≤140737488355328:=Nat.le_trans (Nat.mul_le_mul hn hb) (by omega);obtain⟨v',w',q1,q2,q3,q4,q5⟩:=run_append_own_at (P:=P) w base t ty E i z k bytes ht hi0 hz0 hz1 hz2 hzs hk v ds.length xs hxs ⟨g,0,none⟩ 1 1 us (by omega) (fun j u hu => by rw[CO,hblk.cell];simpa using hu) (hO _ _ _ _ hr) (by simp only[maxLen];omega) hbb hbase;have:=Ao.extend (ds2:=[d]) (css2:=[us]) (fss2:=[f]) (v':=v') (w':=w') hR hF hown hxs (by simpa using q2) rfl rfl q3 q5 (fun i hi => by
  have:i=0:=by simpa using hi
  subst this;exact⟨by simp,by simp,hus,hr⟩) (fun a ha => hfd a (by simpa using ha))
 exact⟨v',w',q1,f,by simpa using this,List.Sublist.refl _,q3,q5⟩
theorem rSl.split {α:Type} {k:Nat} {R:Ap α} {w:World} {fs:List Addr} {A:Option Addr} {n c:Nat} {ds:List α}(h:rSl k R w fs (.slice A n c) ds) {j:Nat}(hj:j≤ds.length) :
  ∃g1 g2,rSl k R w g1 (.slice A j c) (ds.take j)∧rSl k R w g2 (.slice (if c=j then A else A.map (fun x => x.add (j * k))) (n - j) (c - j)) (ds.drop j)∧(g1 ++ g2).Perm fs:=by
 obtain⟨A',c',e,hc1,hc2,hs⟩:=h;injection e with e1 e2 e3
 subst e1 e2 e3;have l1:(ds.take j).length =j:=by rw[List.length_take];omega
 have l2:(ds.drop j).length =ds.length - j:=by rw[List.length_drop]
 rcases hs with⟨rfl,rfl⟩|⟨ad,css,fss,rfl,h1,h2,rfl,h5⟩
 ·simp at hj;subst hj;exact⟨[],[],⟨A,c,by simp,by simp,hc2,.inl ⟨by simp,rfl⟩⟩,⟨if c=0 then A else A.map (fun x => x.add (0 * k)),c,by simp,by simp,hc2,.inl ⟨by simp,rfl⟩⟩,by simp⟩
 ·refine⟨Bz ad (j * k) ++(fss.take j).flatten,Bz (ad.add (j * k)) ((ds.length - j) * k) ++(fss.drop j).flatten,?_,?_,?_⟩
  ·refine⟨some ad,c,by rw[l1],by omega,hc2,.inr ⟨ad,css.take j,fss.take j,rfl,by simp;omega,by simp;omega,by rw[l1],fun i hi => ?_⟩⟩;rw[l1]at hi;obtain⟨p1,p2,p3,p4,p5⟩:=h5 i (by omega);refine⟨by simp;omega,by simp;omega,?_⟩;simp only[List.getElem_take];exact⟨p3,p4,p5⟩
  ·by_cases hcj:c=j
   ·have hnj:ds.length=j:=by omega
    rw[if_pos hcj];refine⟨some ad,c - j,by rw[l2],by omega,by omega,.inl ⟨by apply List.eq_nil_of_length_eq_zero;omega,?_⟩⟩;rw[List.drop_of_length_le (by omega)];simp[hnj,Bz]
   ·rw[if_neg hcj];refine⟨some (ad.add (j * k)),c - j,by rw[l2];rfl,by omega,by omega,.inr ⟨ad.add (j * k),css.drop j,fss.drop j,rfl,by simp;omega,by simp;omega,by rw[l2],fun i hi => ?_⟩⟩;rw[l2]at hi;obtain⟨p1,p2,p3,p4,p5⟩:=h5 (j+i) (by omega);refine⟨by simp;omega,by simp;omega,?_⟩;simp only[List.getElem_drop];refine⟨p3,fun q hq => ?_,p5⟩;rw[I9,show j * k+(i * k+q)=(j+i) * k+q from by rw[Nat.add_mul];omega];exact p4 q hq
  ·have e:Bz ad (ds.length * k)=Bz ad (j * k) ++ Bz (ad.add (j * k)) ((ds.length - j) * k):=by
    rw[← Ja,← Nat.add_mul];congr 2;omega
   rw[e];conv => rhs;rw[← List.take_append_drop j fss,List.flatten_append]
   rw[List.append_assoc,List.append_assoc];refine List.Perm.append_left _ ?_;rw[← List.append_assoc,← List.append_assoc];exact List.Perm.append_right _ List.perm_append_comm
theorem JF:∀(w:World) (f:List Addr) (cs:List Value) (d:Int),Al w f cs d→∀u,u∈cs→u.oneCell'=true:=by
 rintro w f cs d ⟨-,rfl,-⟩ u hu;simp at hu;subst hu;rfl
end Go.Proofs.YtfjkoifpdoemdaaGreat
namespace Go.Proofs.YtfjkoifpdoemdaaGreat
open Go.RowKit Go.Sort
open Go.Lib (hid)
theorem addTo(a:Addr)(m n:Nat):a.add (m+(n+1))=⟨(a.add m).block,(a.add m).off +(n+1),none⟩:=by
 rw[← Addr.add_add];simp[Addr.add]
theorem DO {α:Type} {l m:List α} {k:Nat}(h:l.take k=m.take k)(h1:k<l.length)(h2:k<m.length)(he:l[k] =m[k]):l.take (k+1)=m.take (k+1):=by
 rw[List.take_succ_eq_append_getElem h1,List.take_succ_eq_append_getElem h2,h,he]
section
variable {α:Type} {k:Nat} {R:Ap α} {w:World} {fs:List Addr} {v:Value} {ds:List α}
theorem rSl.head(h:rSl k R w fs v ds):∃A c,v= .slice A ds.length c∧ds.length≤c∧c≤9223372036854775807:=by
 obtain⟨A,c,e,h1,h2,h3⟩:=h;exact⟨A,c,e,h1,h2⟩
structure At (k:Nat) (R:Ap α) (w:World) (fs:List Addr) (ad:Addr) (j:Nat) (b o:Nat) (cs:List Value) (fk:List Addr) (d:α):Prop where
 place:ad.add (j * k)=⟨b,o,none⟩
 lt:b<w.heap.size
 len:cs.length=k
 cell:∀q,(hq:q<cs.length)→w.cell? ⟨b,o+q,none⟩=some cs[q]
 reads:R w fk cs d
 there:EJ fk w
 sub:∀a,a∈fk→a∈fs
 mem:∀q,q<k→(⟨b,o+q,none⟩:Addr)∈fs
theorem JE {a:Addr} {m b o:Nat}(h:a.add m=⟨b,o,none⟩)(q:Nat):a.add (m+q)=⟨b,o+q,none⟩:=by
 cases q with
 |zero => rw[Nat.add_zero,h];rfl
 |succ q => rw[addTo,h]
theorem KH {a:Addr} {w:World} {u:Value}(h:w.cell? a=some u):∃b o,a=⟨b,o,none⟩:=by
 have:=World.cell?_spot h;cases a with
 |mk b o s => simp only at this;subst this;exact⟨b,o,rfl⟩
theorem rSl.at_(hF:Bv R)(hk:0<k)(h:rSl k R w fs v ds):∃A c,v= .slice A ds.length c∧ds.length≤c∧c≤9223372036854775807∧∀j,(hj:j<ds.length)→∃ad b o cs fk,A=some ad∧At k R w fs ad j b o cs fk ds[j]:=by
 obtain⟨A,c,e,h1,h2,h3⟩:=h;refine⟨A,c,e,h1,h2,fun j hj => ?_⟩;rcases h3 with⟨rfl,_⟩|⟨ad,css,fss,e1,e2,e3,e4,h3⟩
 ·cases hj
 ·obtain⟨q1,q2,q3,q4,q5⟩:=h3 j hj;have p0:=q4 0 (by omega);rw[Nat.add_zero]at p0;obtain⟨b,o,hP⟩:=KH p0;refine⟨ad,b,o,css[j],fss[j],e1,hP,?_,q3,fun q hq => ?_,q5,hF _ _ _ _ q5,fun a ha => ?_,fun q hq => ?_⟩
  ·have:=World.block_lt_of_cell? _ _ p0;rwa [hP]at this
  ·rw[← JE hP];exact q4 q hq
  ·rw[e4];exact List.mem_append_right _ (List.mem_flatten.2 ⟨_,List.getElem_mem q2,ha⟩)
  ·rw[← JE hP,e4];refine List.mem_append_left _ (BH.2 ⟨j * k+q,?_,rfl⟩);calc j * k+q<j * k+k:=by omega
    _=(j+1) * k:=by rw[Nat.add_mul];omega
    _≤ds.length * k:=Nat.mul_le_mul_right _ hj
theorem At.below {ad:Addr} {j b o:Nat} {cs:List Value} {fk:List Addr} {d:α} {w':World}(hL:Bm R)(h:At k R w fs ad j b o cs fk d)(hb:Below w.heap.size w w'):At k R w' fs ad j b o cs fk d :=
 ⟨h.place,Nat.lt_of_lt_of_le h.lt hb.size,h.len,fun q hq =>(hb.cell (p:=⟨b,o+q,none⟩) h.lt).trans (h.cell q hq),hL _ _ _ _ _ h.reads (AP.of_below h.there hb),fun a ha => Nat.lt_of_lt_of_le (h.there a ha) hb.size,h.sub,h.mem⟩
end
section
variable {α:Type} (one:Nat→α→α) (num:α→Nat)
end
theorem Blk.range {w:World} {g:Nat} {t:TypeId} {cs:Array Value}(h:Blk w g t cs)(o:Nat)(l:List Value)(hl:(cs.toList.drop o).take l.length=l):w.rangeAt g o l:=by
 intro j v hj;rw[h.cell];rw[← hl,List.getElem?_take]at hj;split at hj
 ·rw[List.getElem?_drop]at hj;simpa using hj
 ·cases hj
end Go.Proofs.YtfjkoifpdoemdaaGreat
namespace Go.Proofs.YtfjkoifpdoemdaaGreat
open Go.RowKit
open Go.Lib (hid)
theorem MI(v:Value)(xs:List UInt8)(fs:List Addr)(w:World)(left:Int)(h1:AM w fs v xs)(hl:-1≤left)(hl2:left≤1048576) :
  Calls Tryz.prog 263 #[v,int i64 left] w fun e w' => e= .returned (int i64 (if left<xs.length then -1 else left - xs.length))∧w=w':=by
 obtain⟨A1,c1,rfl,hc1,hm1,hx⟩:=AM.open_ h1;clear h1;by_cases h:left<xs.length
 ·rw[if_pos h];go_enter Tryz.func263,Tryz.ntmps263
  go_wp2
  go_ret
  exact⟨rfl,rfl⟩
 ·rw[if_neg h];go_enter Tryz.func263,Tryz.ntmps263
  go_wp2
  go_ret
  exact⟨rfl,rfl⟩
theorem EP(v1 v2:Value)(xs ys:List UInt8)(f1 f2:List Addr)(w:World)(h1:AM w f1 v1 xs)(h2:AM w f2 v2 ys) :
  Calls Tryz.prog 56 #[v1,v2] w fun e w' => e= .returned (.bool (decide (xs=ys)))∧Below w.heap.size w w':=by
 obtain⟨A1,c1,rfl,hc1,hm1,hx⟩:=AM.open_ h1;obtain⟨A2,c2,rfl,hc2,hm2,hy⟩:=AM.open_ h2;clear h1 h2;by_cases hl:xs.length=ys.length
 ·have hb:=Ck hl;have HL:=hid hl;clear hl;go_enter Tryz.func56,Tryz.ntmps56
  go_wp2
  go_loopw [4,5] (fun r i wr =>∃k:Nat,k≤xs.length∧i= int i64 k∧r= .bool false∧xs.take k=ys.take k∧Below w.heap.size w wr) (fun _ i _ => xs.length - (intOf i).toNat)
  case atStart => exact⟨0,by omega,rfl,rfl,by simp,Below.refl _ _⟩
  case round =>
   obtain⟨k,hk,rfl,rfl,ht,hbl⟩:=hrel;have HT:=hid ht;clear ht;by_cases hlt:k<xs.length
   ·have hlt2:k<ys.length:=by rw[← HL.out];exact hlt
    obtain⟨a1,e1,_,b1,g1⟩:=hx k hlt;obtain⟨a2,e2,_,b2,g2⟩:=hy k hlt2;subst e1 e2;have g1':=(hbl.cell (p:=a1.add k) b1).trans g1;have g2':=(hbl.cell (p:=a2.add k) b2).trans g2;clear g1 g2 hx hy;by_cases he:xs[k] =ys[k]
    ·have hn:=bneU8f he;have HE:=hid he;clear he;go_wp2
     go_quiet (fail)
     go_wp2
     go_roundw
     case rel => exact⟨k+1,by omega,by go_num,rfl,Ge HT.out hlt hlt2 HE.out,BK hbl _⟩
     case measure => simp[intOf];omega
    ·have hn:=bneU8t he;go_wp2
     go_quiet (fail)
     go_wp2
     go_ret
     exact⟨Co (by simp;intro e;subst e;exact he rfl),BK hbl _⟩
   ·have hk':k=xs.length:=by omega
    have H:=HT.out;rw[hk',List.take_length,HL.out,List.take_length]at H;have H1:=hid H;clear H hk';go_wp2
    go_ret
    exact⟨Co (by simp[H1.out]),hbl⟩
 ·have hb:=Cl hl;go_enter Tryz.func56,Tryz.ntmps56
  go_wp2
  go_ret
  exact⟨Co (by simp;intro e;subst e;exact hl rfl),Below.refl _ _⟩
theorem Tryz.info5:(Tryz.prog.info? 5).map (fun i =>(i.zero,i.size,i.bytes))=some (some (.int .u8 0),1,1):=by kernel_rfl
theorem MM(v:Value)(xs:List UInt8)(fs:List Addr)(w:World)(h1:AM w fs v xs)(hsm:xs.length≤1048576) :
  Calls Tryz.prog 268 #[v] w fun e w' => e= .returned (.slice (some ⟨w.heap.size,0,none⟩) xs.length xs.length)∧Below w.heap.size w w'∧
   Blk w' w.heap.size 5 (xs.map CE).toArray∧w'.heap.size=w.heap.size+1:=by
 obtain⟨A1,c1,rfl,hc1,hm1,hx⟩:=AM.open_ h1;clear h1;have hmk:=run_make_row' (P:=Tryz.prog) 39 5 (.int .u8 0) 1 Tryz.underlying39 Tryz.info5 rfl .i64 .i64 xs.length (by omega) (by omega);have HZ:=hid (Lh (xs.map CE) (.int .u8 0) xs.length (by simp));go_enter Tryz.func268,Tryz.ntmps268
 go_wp2
 go_loopw [4] (fun i wr =>∃j:Nat,j≤xs.length∧i= int i64 j∧Below w.heap.size w wr∧Blk wr w.heap.size 5 (DH (xs.map CE) (.int .u8 0) j)∧wr.heap.size=w.heap.size+1) (fun i _ => xs.length - (intOf i).toNat)
 case atStart => exact⟨0,by omega,rfl,(Below.refl _ _).alloc (Nat.le_refl _) _,by rw[← HZ.out];exact Blk.new _ _ _,by simp⟩
 case round =>
  obtain⟨j,hj,rfl,hb,hbk,hsz⟩:=hrel;by_cases hlt:j<xs.length
  ·obtain⟨a1,e1,_,b1,g1⟩:=hx j hlt;subst e1;have g1':=(hb.cell (p:=a1.add j) b1).trans g1;clear g1 hx hmk;obtain⟨u,hu⟩:=Mg (xs.map CE) (.int .u8 0) j j (by simpa using hlt);have c2:=(hbk.cell j).trans hu;have f2:=hbk.frozen j;clear hu;have HB:=hid hb;clear hb;have HK:=hid hbk;clear hbk;have HS:=hid hsz;clear hsz;go_wp2
   go_roundw
   case rel =>
    refine⟨j+1,by omega,by go_num,HB.out.setCell (Nat.le_refl _) _,?_,by simp[HS.out]⟩;have:=HK.out.set_ j (CE xs[j]);rw[show CE xs[j] =(xs.map CE)[j]'(by simpa using hlt)from by simp,Lg (by simpa using hlt)]at this;simpa [CE]using this
   case measure => simp[intOf];omega
  ·have hk':j=(xs.map CE).length:=by simp;omega
   have HB:=hid hb;clear hb;have HK:=hid hbk;clear hbk;have HS:=hid hsz;clear hsz;clear hmk hx;go_wp2
   go_ret
   refine⟨rfl,HB.out,?_,HS.out⟩;have:=HK.out;rw[hk',Le]at this;exact this
end Go.Proofs.YtfjkoifpdoemdaaGreat
namespace Go.Proofs.YtfjkoifpdoemdaaGreat
open Go.RowKit Go.Sort
open Go.Lib (hid)
theorem JL {a b:ByteArray}(h:a=b):(!a.toList == b.toList)=false:=by subst h;simp
theorem GZ {a b:ByteArray}(h:a≠b):(!a.toList == b.toList)=true:=by
 have:a.toList≠b.toList:=fun e => h (WideShapes.bytes_inj (by rwa [ByteArray.toList_eq,ByteArray.toList_eq]at e))
 simpa using this
theorem C5.open_ {w:World} {fs:List Addr} {v:Value} {ss:List ByteArray}(h:C5 w fs v ss) :
  ∃A c,v= .slice A ss.length c∧ss.length≤c∧c≤9223372036854775807∧∀k,(hk:k<ss.length)→∃ad,A=some ad∧ad.add k∈fs∧(ad.add k).block <w.heap.size∧w.cell? (ad.add k)=some (.string ss[k])∧ss[k].size≤9223372036854775807:=by
 obtain⟨A,c,e,h1,h2,h3⟩:=h;refine⟨A,c,e,h1,by omega,fun k hk => ?_⟩;rcases h3 with⟨rfl,_⟩|⟨ad,css,fss,e1,e2,e3,e4,h3⟩
 ·cases hk
 ·obtain⟨q1,q2,q3,q4,q5,q6,q8⟩:=h3 k hk;have q7:=q4 0 (by omega);simp only[q6,List.getElem_cons_zero,Nat.mul_one,Nat.add_zero]at q7;exact⟨ad,e1,by rw[e4];exact List.mem_append_left _ (BH.2 ⟨k,by omega,rfl⟩),World.block_lt_of_cell? _ _ q7,q7,q8⟩
theorem C5.close_ {w:World} {ad:Addr} {c:Nat} {ss:List ByteArray}(h1:ss.length≤c)(h2:c≤9223372036854775807)(h:∀k,(hk:k<ss.length)→w.cell? (ad.add k)=some (.string ss[k])∧ss[k].size≤9223372036854775807) :
  C5 w (Bz ad ss.length) (.slice (some ad) ss.length c) ss:=by
 refine⟨some ad,c,rfl,h1,by omega,.inr ⟨ad,ss.map fun b => [.string b],ss.map fun _ => [],rfl,by simp,by simp,?_,fun i hi =>⟨by simpa using hi,by simpa using hi,by simp,fun j hj => ?_,?_⟩⟩⟩
 ·have:(ss.map fun _ =>([]:List Addr)).flatten = []:=by simp[List.flatten_eq_nil_iff]
  rw[this];simp
 ·simp at hj;subst hj;simpa using(h i hi).1
 ·simpa [FD]using(h i hi).2
theorem C5.form {w:World} {fs:List Addr} {v:Value} {ss:List ByteArray}(h:C5 w fs v ss) :
  ∃A c,v= .slice A ss.length c∧ss.length≤c∧c≤9223372036854775807∧((ss= []∧fs= [])∨∃ad,A=some ad∧fs=Bz ad ss.length∧∀k,(hk:k<ss.length)→w.cell? (ad.add k)=some (.string ss[k])∧ss[k].size≤9223372036854775807):=by
 obtain⟨A,c,e,h1,h2,h3⟩:=h;refine⟨A,c,e,h1,by omega,?_⟩;rcases h3 with h3|⟨ad,css,fss,e1,e2,e3,e4,h3⟩
 ·exact .inl h3
 ·have hz:fss.flatten= []:=by
   rw[List.flatten_eq_nil_iff];intro f hf;obtain⟨i,hi,rfl⟩:=List.getElem_of_mem hf;obtain⟨_,_,_,_,q,_⟩:=h3 i (by omega);exact q
  refine .inr ⟨ad,e1,by rw[e4,hz];simp,fun k hk => ?_⟩;obtain⟨q1,q2,q3,q4,q5,q6,q8⟩:=h3 k hk;have q7:=q4 0 (by omega);simp only[q6,List.getElem_cons_zero,Nat.mul_one,Nat.add_zero]at q7;exact⟨q7,q8⟩
theorem C5.store {w:World} {fs:List Addr} {ad:Addr} {c n:Nat} {ss:List ByteArray}(h:C5 w fs (.slice (some ad) n c) ss)(hn:fs.Nodup) {j:Nat}(hj:j<ss.length)(b:ByteArray)(hb:b.size≤9223372036854775807) :
  C5 (w.setCell (ad.add j) (.string b)) fs (.slice (some ad) n c) (ss.set j b):=by
 obtain⟨A,c',e,h1,h2,h3⟩:=C5.form h;injection e with e1 e2 e3
 subst e2 e3;rcases h3 with⟨rfl,_⟩|⟨ad',q1,q4,h3⟩
 ·simp at hj
 ·rw[← e1]at q1;injection q1 with q1
  subst q1;have:=C5.close_ (w:=w.setCell (ad.add j) (.string b)) (ad:=ad) (c:=c) (ss:=ss.set j b) (by simpa using h1) h2 (fun k hk => by
   simp only[List.length_set]at hk;by_cases e:j=k
   ·subst e;rw[World.cell?_setCell_same _ _ _ (h3 j hk).1,List.getElem_set_self];exact⟨rfl,hb⟩
   ·rw[World.cell?_setCell_other,List.getElem_set_ne e]
    ·exact h3 k hk
    ·intro e';rw[q4]at hn;exact e (IG hn hj hk e'))
  rw[List.length_set,← q4]at this;exact this
theorem C5.below {w w':World} {fs:List Addr} {v:Value} {ss:List ByteArray}(h:C5 w fs v ss)(hb:Below w.heap.size w w'):C5 w' fs v ss:=rSl.below FD.local_ FD.fixed h hb
theorem C5.empty {w:World} {A:Option Addr} {c:Nat}(h2:c≤9223372036854775807):C5 w [] (.slice A 0 c) []:=⟨A,c,rfl,Nat.zero_le _,by omega,.inl ⟨rfl,rfl⟩⟩
end Go.Proofs.YtfjkoifpdoemdaaGreat
