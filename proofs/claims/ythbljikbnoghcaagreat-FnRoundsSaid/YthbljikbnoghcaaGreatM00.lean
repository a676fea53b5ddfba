/-
  Part 0 of the proof; the last part states and proves the statement.
-/
import Derived.Test.YthbljikbnoghcaaGreatRows
import Derived.WalkKit
import Derived.WalkSpells
import Derived.WalkLawsBesides
import Derived.Deep.QuietTactic
import Derived.BigQuiet
import Derived.Lib.Hide
import Derived.Deep.AppendLies
import Derived.Deep.OwnRows
import Derived.Lib.QuietBelow
import Derived.Maps.AppendAt
import Derived.Laws.CopyRow
set_option maxHeartbeats 8000000
set_option maxRecDepth 100000
set_option linter.unusedVariables false
set_option linter.unusedSimpArgs false
open Go.Value (int)
open Go.IntKind (i64)
namespace Go.Proofs.YthbljikbnoghcaaGreat
open Go.RowKit
open Go.Lib (hid)
theorem EA(a:Addr)(n:Nat):(a.add n).block =a.block:=by unfold Addr.add;split <;> rfl
theorem IG(a:Addr)(i j:Nat):(a.add i).add j=a.add (i+j):=by
 unfold Addr.add;by_cases hi:i=0 <;> by_cases hj:j=0 <;> simp[hi,hj,Nat.add_assoc]
theorem addZero(a:Addr):a.add 0=a:=by unfold Addr.add;simp
theorem addInj(a:Addr)(i j:Nat)(h:a.add i=a.add j):i=j∨a.spot.isSome:=by
 unfold Addr.add at h;cases a with
 |mk b o s =>
  cases s with
  |some x => right;rfl
  |none =>
   left
   by_cases hi:i=0 <;> by_cases hj:j=0 <;> simp_all
theorem Be {B:Nat} {a w:World}(h:Below B a w)(n:Nat):Below B a (w.drewN n):=⟨h.os,h.tape,h.output,h.size,h.block⟩
def Az(ad:Addr)(n:Nat):List Addr:=(List.range n).map ad.add
theorem AY {ad:Addr} {n:Nat} {a:Addr}:a∈Az ad n↔∃k,k<n∧a=ad.add k:=by
 simp[Az,eq_comm]
theorem II(ad:Addr)(n m:Nat):Az ad (n+m)=Az ad n ++ Az (ad.add n) m:=by
 unfold Az;rw[List.range_add,List.map_append,List.map_map];congr 1
 apply List.map_congr_left
 intro k _;simp[IG]
theorem CB {ad:Addr} {n:Nat}(h:ad.spot=none):(Az ad n).Nodup:=by
 unfold Az;rw[List.nodup_iff_pairwise_ne,List.pairwise_map];refine List.Pairwise.imp ?_ (List.nodup_range (n:=n));intro a b hab e;rcases addInj _ _ _ e with e|e
 ·exact hab e
 ·rw[h]at e;cases e
def AT(fs:List Addr)(w w':World):Prop:=∀a,a∈fs→w'.cell? a=w.cell? a
theorem AT.left {fs gs:List Addr} {w w':World}(h:AT (fs ++ gs) w w'):AT fs w w':=fun a ha => h a (List.mem_append_left _ ha)
theorem AT.right {fs gs:List Addr} {w w':World}(h:AT (fs ++ gs) w w'):AT gs w w':=fun a ha => h a (List.mem_append_right _ ha)
theorem AT.mem {fss:List (List Addr)} {w w':World}(h:AT fss.flatten w w') {fs:List Addr}(hf:fs∈fss):AT fs w w':=fun a ha => h a (List.mem_flatten.2 ⟨fs,hf,ha⟩)
theorem AT.refl(fs:List Addr)(w:World):AT fs w w:=fun _ _ => rfl
def CM(fs:List Addr)(w:World):Prop:=∀a,a∈fs→a.block<w.heap.size
theorem AT.of_below {fs:List Addr} {B:Nat} {w w':World}(ht:∀a,a∈fs→a.block<B)(h:Below B w w'):AT fs w w':=fun a ha => h.cell (ht a ha)
abbrev Aw (α:Type):=World→List Addr→List Value→α→Prop
def AZ {α:Type}(R:Aw α):Prop:=∀w w' fs cs d,R w fs cs d→AT fs w w'→R w' fs cs d
def Bh {α:Type}(R:Aw α):Prop:=∀w fs cs d,R w fs cs d→CM fs w
def El {α:Type}(k:Nat)(R:Aw α):Prop:=∀w fs cs d,R w fs cs d→cs.length=k
def DO(b:UInt8):Value:=.int .u8 (b.toNat:Int)
def As:Aw Int:=fun _ fs cs x => fs= []∧cs= [int i64 x]∧ -9223372036854775808≤x∧x≤9223372036854775807
def AG:Aw UInt8:=fun _ fs cs x => fs= []∧cs= [DO x]
def F2:Aw ByteArray:=fun _ fs cs x => fs= []∧cs= [.string x]∧x.size≤9223372036854775807
def rSl {α:Type}(k:Nat)(R:Aw α)(w:World)(fs:List Addr)(v:Value)(ds:List α):Prop :=
 ∃(A:Option Addr) (c:Nat),v= .slice A ds.length c∧ds.length≤c∧c≤9223372036854775807∧
  ((ds= []∧fs= [])∨∃(ad:Addr) (css:List (List Value)) (fss:List (List Addr)),A=some ad∧css.length=ds.length∧fss.length=ds.length∧fs=Az ad (ds.length * k) ++ fss.flatten∧
   ∀i,(h:i<ds.length)→∃(h1:i<css.length) (h2:i<fss.length),css[i].length =k∧(∀j,(hj:j<css[i].length)→w.cell? (ad.add (i * k+j))=some css[i][j])∧R w fss[i] css[i] ds[i])
theorem rSl.keep {α:Type} {k:Nat} {R:Aw α}(hR:AZ R) {w w':World} {fs:List Addr} {v:Value} {ds:List α}(h:rSl k R w fs v ds)(hs:AT fs w w'):rSl k R w' fs v ds:=by
 obtain⟨A,c,e,h1,h2,h3⟩:=h;refine⟨A,c,e,h1,h2,?_⟩;rcases h3 with h3|⟨ad,css,fss,e1,e2,e3,e4,h3⟩
 ·exact .inl h3
 ·refine .inr ⟨ad,css,fss,e1,e2,e3,e4,fun i hi => ?_⟩;obtain⟨q1,q2,q3,q4,q5⟩:=h3 i hi;subst e4;refine⟨q1,q2,q3,fun j hj => ?_,hR _ _ _ _ _ q5 (hs.right.mem (List.getElem_mem _))⟩;rw[hs.left _ (AY.2 ⟨i * k+j,?_,rfl⟩)]
  ·exact q4 j hj
  ·rw[q3]at hj;calc i * k+j<i * k+k:=by omega
    _=(i+1) * k:=by rw[Nat.add_mul];omega
    _≤ds.length * k:=Nat.mul_le_mul_right _ hi
theorem rSl.there {α:Type} {k:Nat} {R:Aw α}(hR:Bh R) {w:World} {fs:List Addr} {v:Value} {ds:List α}(h:rSl k R w fs v ds):CM fs w:=by
 obtain⟨A,c,e,h1,h2,h3⟩:=h;rcases h3 with⟨_,rfl⟩|⟨ad,css,fss,e1,e2,e3,rfl,h3⟩
 ·intro a ha;cases ha
 ·intro a ha;rcases List.mem_append.1 ha with ha|ha
  ·obtain⟨q,hq,rfl⟩:=AY.1 ha;have hk:0<k:=by
    rcases Nat.eq_zero_or_pos k with e|e
    ·subst e;simp at hq
    ·exact e
   have hi:q / k<ds.length:=by rw[Nat.div_lt_iff_lt_mul hk];exact hq
   obtain⟨q1,q2,q3,q4,q5⟩:=h3 (q / k) hi;have hm:q % k<k:=Nat.mod_lt _ hk;have:=q4 (q % k) (by rw[q3];exact hm);rw[show q / k * k+q % k=q from by rw[Nat.mul_comm];exact Nat.div_add_mod q k]at this;exact World.block_lt_of_cell? _ _ this
  ·obtain⟨f,hf,hm⟩:=List.mem_flatten.1 ha;obtain⟨i,hi,rfl⟩:=List.getElem_of_mem hf;obtain⟨q1,q2,q3,q4,q5⟩:=h3 i (by omega);exact hR _ _ _ _ q5 a hm
theorem rSl.below {α:Type} {k:Nat} {R:Aw α}(hR:AZ R)(hF:Bh R) {w w':World} {fs:List Addr} {v:Value} {ds:List α}(h:rSl k R w fs v ds)(hb:Below w.heap.size w w'):rSl k R w' fs v ds :=
 h.keep hR (.of_below (h.there hF) hb)
def Am {α:Type}(k:Nat)(R:Aw α):Aw (List α):=fun w fs cs ds =>∃v,cs= [v]∧rSl k R w fs v ds
theorem Am.local_ {α:Type} {k:Nat} {R:Aw α}(hR:AZ R):AZ (Am k R):=fun _ _ _ _ _ ⟨v,e,h⟩ hs =>⟨v,e,h.keep hR hs⟩
theorem Am.fixed {α:Type} {k:Nat} {R:Aw α}(hR:Bh R):Bh (Am k R):=fun _ _ _ _ ⟨_,_,h⟩ => h.there hR
theorem Am.wide {α:Type} {k:Nat} {R:Aw α}:El 1 (Am k R):=fun _ _ _ _ ⟨_,e,_⟩ => by rw[e];rfl
theorem As.local_:AZ As:=fun _ _ _ _ _ h _ => h
theorem As.fixed:Bh As:=fun _ _ _ _ h a ha => by rw[h.1]at ha;cases ha
theorem AG.local_:AZ AG:=fun _ _ _ _ _ h _ => h
theorem AG.fixed:Bh AG:=fun _ _ _ _ h a ha => by rw[h.1]at ha;cases ha
theorem F2.local_:AZ F2:=fun _ _ _ _ _ h _ => h
theorem F2.fixed:Bh F2:=fun _ _ _ _ h a ha => by rw[h.1]at ha;cases ha
abbrev Ap:=rSl 1 AG
abbrev Cn:=rSl 1 As
abbrev CD:=rSl 1 F2
theorem Ap.below {w w':World} {fs:List Addr} {v:Value} {ds:List UInt8}(h:Ap w fs v ds)(hb:Below w.heap.size w w'):Ap w' fs v ds:=rSl.below AG.local_ AG.fixed h hb
theorem Ap.open_ {w:World} {fs:List Addr} {v:Value} {bs:List UInt8}(h:Ap w fs v bs) :
  ∃A c,v= .slice A bs.length c∧bs.length≤c∧c≤9223372036854775807∧∀k,(hk:k<bs.length)→∃ad,A=some ad∧ad.add k∈fs∧(ad.add k).block <w.heap.size∧w.cell? (ad.add k)=some (.int .u8 (bs[k].toNat:Int)):=by
 obtain⟨A,c,e,h1,h2,h3⟩:=h;refine⟨A,c,e,h1,by omega,fun k hk => ?_⟩;rcases h3 with⟨rfl,_⟩|⟨ad,css,fss,e1,e2,e3,e4,h3⟩
 ·cases hk
 ·obtain⟨q1,q2,q3,q4,q5,q6⟩:=h3 k hk;have q7:=q4 0 (by omega);simp only[q6,List.getElem_cons_zero,Nat.mul_one,Nat.add_zero]at q7;exact⟨ad,e1,by rw[e4];exact List.mem_append_left _ (AY.2 ⟨k,by omega,rfl⟩),World.block_lt_of_cell? _ _ q7,q7⟩
theorem Ap.close_ {w:World} {ad:Addr} {c:Nat} {bs:List UInt8}(h1:bs.length≤c)(h2:c≤9223372036854775807)(h:∀k,(hk:k<bs.length)→w.cell? (ad.add k)=some (.int .u8 (bs[k].toNat:Int))) :
  Ap w (Az ad bs.length) (.slice (some ad) bs.length c) bs:=by
 refine⟨some ad,c,rfl,h1,by omega,.inr ⟨ad,bs.map fun b => [DO b],bs.map fun _ => [],rfl,by simp,by simp,?_,fun i hi =>⟨by simpa using hi,by simpa using hi,by simp,fun j hj => ?_,?_⟩⟩⟩
 ·have:(bs.map fun _ =>([]:List Addr)).flatten = []:=by simp[List.flatten_eq_nil_iff]
  rw[this];simp
 ·simp at hj;subst hj;simpa [DO]using h i hi
 ·simp[AG]
theorem Ap.empty {w:World} {A:Option Addr} {c:Nat}(h2:c≤9223372036854775807):Ap w [] (.slice A 0 c) []:=⟨A,c,rfl,Nat.zero_le _,by omega,.inl ⟨rfl,rfl⟩⟩
theorem Dn {a b:Bool}(h:a=b):Ending.returned (.bool a)= .returned (.bool b):=by rw[h]
theorem bneU8t {a b:UInt8}(h:a≠b):(((a.toNat:Int) !=(b.toNat:Int)):Bool)=true:=by
 rw[bne_iff_ne];intro e;exact h (UInt8.toNat_inj.1 (by omega))
theorem bneU8f {a b:UInt8}(h:a=b):(((a.toNat:Int) !=(b.toNat:Int)):Bool)=false:=by
 subst h;simp
theorem Gt {a b:Nat}(h:a≠b):(((a:Int) !=(b:Int)):Bool)=true:=by rw[bne_iff_ne];omega
theorem Gs {a b:Nat}(h:a=b):(((a:Int) !=(b:Int)):Bool)=false:=by subst h;simp
theorem takeEq {α:Type} {xs ys:List α} {k:Nat}(h:xs.take k=ys.take k)(h1:k<xs.length)(h2:k<ys.length)(h3:xs[k] =ys[k]):xs.take (k+1)=ys.take (k+1):=by
 rw[List.take_succ_eq_append_getElem h1,List.take_succ_eq_append_getElem h2,h,h3]
structure Ak (lo:Nat) (w:World) (fs:List Addr):Prop where
 nodup:fs.Nodup
 from_:∀a,a∈fs→lo≤a.block
 free:∀a,a∈fs→w.frozen? a=false
structure AC (fs:List Addr) (w w':World):Prop where
 os:w'.os=w.os
 tape:w'.tape=w.tape
 output:w'.output=w.output
 size:w.heap.size≤w'.heap.size
 cell:∀a:Addr,a∉fs→a.block<w.heap.size→w'.cell? a=w.cell? a
 frozen:∀a:Addr,a.block<w.heap.size→w'.frozen? a=w.frozen? a
 block:∀k,k<w.heap.size→(∀a,a∈fs→a.block≠k)→w'.heap[k]? =w.heap[k]?
theorem AC.refl(fs:List Addr)(w:World):AC fs w w:=⟨rfl,rfl,rfl,Nat.le_refl _,fun _ _ _ => rfl,fun _ _ => rfl,fun _ _ _ => rfl⟩
theorem AC.mono {fs gs:List Addr} {w w':World}(h:AC fs w w')(hs:∀a,a∈fs→a∈gs):AC gs w w' :=
 ⟨h.os,h.tape,h.output,h.size,fun a ha hb => h.cell a (fun hf => ha (hs a hf)) hb,h.frozen,fun k hk hf => h.block k hk fun a ha => hf a (hs a ha)⟩
theorem AC.trans {fs:List Addr} {a b c:World}(h:AC fs a b)(k:AC fs b c):AC fs a c :=
 ⟨k.os.trans h.os,k.tape.trans h.tape,k.output.trans h.output,Nat.le_trans h.size k.size,fun x hx hb =>(k.cell x hx (Nat.lt_of_lt_of_le hb h.size)).trans (h.cell x hx hb),
  fun x hb =>(k.frozen x (Nat.lt_of_lt_of_le hb h.size)).trans (h.frozen x hb),fun x hx hf =>(k.block x (Nat.lt_of_lt_of_le hx h.size) hf).trans (h.block x hx hf)⟩
theorem AC.of_below {fs:List Addr} {w w':World}(h:Below w.heap.size w w'):AC fs w w' :=
 ⟨h.os,h.tape,h.output,h.size,fun _ _ hb => h.cell hb,fun _ hb => h.frozen hb,fun k hk _ => h.block k hk⟩
theorem AC.setCell {fs:List Addr} {a w:World}(h:AC fs a w) {p:Addr}(hp:p∈fs)(u:Value):AC fs a (w.setCell p u) :=
 h.trans ⟨rfl,rfl,rfl,by simp[World.setCell],fun x hx _ => World.cell?_setCell_other w p x u (fun e => hx (by rw[← e];exact hp)),fun x _ => World.frozen?_setCell w p x u,fun k _ hf => Below.heap_setCell w p u k (fun e => hf p hp e.symm)⟩
theorem AC.drewN {fs:List Addr} {a w:World}(h:AC fs a w)(n:Nat):AC fs a (w.drewN n):=⟨h.os,h.tape,h.output,h.size,h.cell,h.frozen,h.block⟩
theorem AC.below {fs:List Addr} {w w':World}(h:AC fs w w') {B:Nat}(hB:B≤w.heap.size)(hf:∀a,a∈fs→B≤a.block):Below B w w' :=
 ⟨h.os,h.tape,h.output,h.size,fun k hk => h.block k (by omega) fun a ha e => by have:=hf a ha;omega⟩
theorem AC.same {fs gs:List Addr} {w w':World}(h:AC fs w w')(ht:CM gs w)(hd:∀a,a∈gs→a∉fs):AT gs w w':=fun a ha => h.cell a (hd a ha) (ht a ha)
theorem Ak.keep {lo:Nat} {w w':World} {fs:List Addr}(h:Ak lo w fs)(hf:∀a,a∈fs→w'.frozen? a=w.frozen? a):Ak lo w' fs:=⟨h.nodup,h.from_,fun a ha =>(hf a ha).trans (h.free a ha)⟩
theorem Ak.wrote {lo:Nat} {w w':World} {fs gs:List Addr}(h:Ak lo w fs)(hw:AC gs w w')(ht:CM fs w):Ak lo w' fs:=h.keep fun a ha => hw.frozen a (ht a ha)
theorem Ak.mono {lo lo':Nat} {w:World} {fs:List Addr}(h:Ak lo w fs)(hl:lo'≤lo):Ak lo' w fs:=⟨h.nodup,fun a ha => Nat.le_trans hl (h.from_ a ha),h.free⟩
theorem Ak.set_ {lo:Nat} {w:World} {fs:List Addr}(h:Ak lo w fs)(p:Addr)(u:Value):Ak lo (w.setCell p u) fs:=h.keep fun a _ => World.frozen?_setCell w p a u
theorem AT.set_ {fs:List Addr}(w:World) {p:Addr} {lo:Nat}(hf:∀a,a∈fs→lo≤a.block)(hp:p.block<lo)(u:Value):AT fs w (w.setCell p u) :=
 fun a ha => World.cell?_setCell_other w p a u fun e => by have:=hf a ha;rw[← e]at this;omega
theorem Ig {ad:Addr} {n i j:Nat}(h:(Az ad n).Nodup)(hi:i<n)(hj:j<n)(e:ad.add i=ad.add j):i=j:=by
 unfold Az at h;rw[List.nodup_iff_pairwise_ne,List.pairwise_iff_getElem]at h;rcases Nat.lt_trichotomy i j with hlt|he|hgt
 ·have:=h i j (by simpa using hi) (by simpa using hj) hlt;simp at this;exact absurd e this
 ·exact he
 ·have:=h j i (by simpa using hj) (by simpa using hi) hgt;simp at this;exact absurd e.symm this
theorem Ap.form {w:World} {fs:List Addr} {v:Value} {bs:List UInt8}(h:Ap w fs v bs) :
  ∃A c,v= .slice A bs.length c∧bs.length≤c∧c≤9223372036854775807∧((bs= []∧fs= [])∨∃ad,A=some ad∧fs=Az ad bs.length∧∀k,(hk:k<bs.length)→w.cell? (ad.add k)=some (.int .u8 (bs[k].toNat:Int))):=by
 obtain⟨A,c,e,h1,h2,h3⟩:=h;refine⟨A,c,e,h1,by omega,?_⟩;rcases h3 with h3|⟨ad,css,fss,e1,e2,e3,e4,h3⟩
 ·exact .inl h3
 ·have hz:fss.flatten= []:=by
   rw[List.flatten_eq_nil_iff];intro f hf;obtain⟨i,hi,rfl⟩:=List.getElem_of_mem hf;obtain⟨_,_,_,_,q,_⟩:=h3 i (by omega);exact q
  refine .inr ⟨ad,e1,by rw[e4,hz];simp,fun k hk => ?_⟩;obtain⟨q1,q2,q3,q4,q5,q6⟩:=h3 k hk;have q7:=q4 0 (by omega);simp only[q6,List.getElem_cons_zero,Nat.mul_one,Nat.add_zero]at q7;exact q7
theorem Ap.store {w:World} {fs:List Addr} {ad:Addr} {c n:Nat} {bs:List UInt8}(h:Ap w fs (.slice (some ad) n c) bs)(hn:fs.Nodup) {j:Nat}(hj:j<bs.length)(b:UInt8) :
  Ap (w.setCell (ad.add j) (.int .u8 (b.toNat:Int))) fs (.slice (some ad) n c) (bs.set j b):=by
 obtain⟨A,c',e,h1,h2,h3⟩:=Ap.form h;injection e with e1 e2 e3
 subst e2 e3;rcases h3 with⟨rfl,_⟩|⟨ad',q1,q4,h3⟩
 ·simp at hj
 ·rw[← e1]at q1;injection q1 with q1
  subst q1;have:=Ap.close_ (w:=w.setCell (ad.add j) (.int .u8 (b.toNat:Int))) (ad:=ad) (c:=c) (bs:=bs.set j b) (by simpa using h1) h2 (fun k hk => by
   simp only[List.length_set]at hk;by_cases e:j=k
   ·subst e;rw[World.cell?_setCell_same _ _ _ (h3 j hk),List.getElem_set_self]
   ·rw[World.cell?_setCell_other,List.getElem_set_ne e]
    ·exact h3 k hk
    ·intro e';rw[q4]at hn;exact e (Ig hn hj hk e'))
  rw[List.length_set,← q4]at this;exact this
def Blk(w:World)(g:Nat)(t:TypeId)(cs:Array Value):Prop:=w.heap[g]? =some (.cells cs t (0,0))
section
variable {w w':World} {g:Nat} {t:TypeId} {cs:Array Value}
theorem Blk.lt(h:Blk w g t cs):g<w.heap.size:=by
 rcases Nat.lt_or_ge g w.heap.size with hlt|hge
 ·exact hlt
 ·unfold Blk at h;rw[Array.getElem?_eq_none hge]at h;cases h
theorem Blk.cell(h:Blk w g t cs)(i:Nat):w.cell? ⟨g,i,none⟩=cs[i]?:=cell_of_row w g i cs t (0,0) h
theorem Blk.frozen(h:Blk w g t cs)(i:Nat):w.frozen? ⟨g,i,none⟩=false:=by
 unfold Blk at h;simp[World.frozen?,h]
theorem Blk.new(w:World)(t:TypeId)(cs:Array Value):Blk (w.alloc (.cells cs t)) w.heap.size t cs:=heap_alloc_new w _
theorem Blk.drewN(h:Blk w g t cs)(n:Nat):Blk (w.drewN n) g t cs:=h
theorem Blk.alloc(h:Blk w g t cs)(o:Obj):Blk (w.alloc o) g t cs:=(Below.heap_alloc w o g h.lt).trans h
theorem Blk.set_(h:Blk w g t cs)(i:Nat)(u:Value):Blk (w.setCell ⟨g,i,none⟩ u) g t (cs.setIfInBounds i u):=by
 unfold Blk at h⊢;simp[World.setCell,Array.getElem?_modify,h]
theorem Blk.far(h:Blk w g t cs) {p:Addr}(hp:g≠p.block)(u:Value):Blk (w.setCell p u) g t cs:=(Below.heap_setCell w p u g hp).trans h
theorem Blk.below {B:Nat}(h:Blk w g t cs)(hb:Below B w w')(hg:g<B):Blk w' g t cs:=(hb.block g hg).trans h
theorem Blk.grown {row:Option Nat}(h:Blk w g t cs)(hb:w.grownBy w' row)(hg:some g≠row):Blk w' g t cs:=(hb.block g h.lt hg).trans h
end
theorem Blk.new1(w:World)(o:Obj)(t:TypeId)(cs:Array Value):Blk ((w.alloc o).alloc (.cells cs t)) (w.heap.size+1) t cs:=by
 have:=Blk.new (w.alloc o) t cs;rwa [World.size_alloc]at this
theorem Blk.new2(w:World)(o o2:Obj)(t:TypeId)(cs:Array Value):Blk (((w.alloc o).alloc o2).alloc (.cells cs t)) (w.heap.size+1+1) t cs:=by
 have:=Blk.new ((w.alloc o).alloc o2) t cs;rwa [World.size_alloc,World.size_alloc]at this
theorem Blk.at_ {w:World} {g:Nat} {t:TypeId} {cs:Array Value}(h:Blk w g t cs)(i:Nat) {v:Value}(hv:cs[i]? =some v):w.cell? ⟨g,i,none⟩=some v:=(h.cell i).trans hv
theorem BG(g k:Nat):(⟨g,0,none⟩:Addr).add k=⟨g,k,none⟩:=by unfold Addr.add;split <;> simp_all
theorem Ap.of_blk {w:World} {g:Nat} {T:TypeId} {bs:List UInt8}(h:Blk w g T (bs.map DO).toArray)(hs:bs.length≤1000000000000) :
  Ap w (Az ⟨g,0,none⟩ bs.length) (.slice (some ⟨g,0,none⟩) bs.length bs.length) bs :=
 Ap.close_ (Nat.le_refl _) (by omega) fun k hk => by
  rw[BG,h.cell];simp[DO,hk]
theorem EW {α:Type} {k:Nat}:∀(css:List (List α)),(∀c,c∈css→c.length=k)→css.flatten.length=css.length * k
 | [],_ => by simp
 |c :: r,h => by
  rw[List.flatten_cons,List.length_append,h c (by simp),EW r (fun x hx => h x (by simp[hx])),List.length_cons,Nat.add_mul,Nat.one_mul,Nat.add_comm]
theorem CY {α:Type} {k:Nat}:∀(css:List (List α)),(∀c,c∈css→c.length=k)→∀(i j:Nat) (h:i<css.length),j<k→css.flatten[i * k+j]? =css[i][j]?
 | [],_,_,_,h,_ => by cases h
 |c :: r,h,0,j,_,hj => by
  have:=h c (by simp);simp only[Nat.zero_mul,Nat.zero_add,List.flatten_cons,List.getElem_cons_zero];rw[List.getElem?_append_left (by omega)]
 |c :: r,h,i+1,j,hi,hj => by
  have hc:=h c (by simp);have:=CY r (fun x hx => h x (by simp[hx])) i j (by simpa using hi) hj;simp only[List.flatten_cons,List.getElem_cons_succ];rw[List.getElem?_append_right (by rw[hc,Nat.add_mul];omega),hc,← this];congr 1
  rw[Nat.add_mul];omega
theorem FT {α:Type} {k:Nat}:∀(css:List (List α)),(∀c,c∈css→c.length=k)→∀i,i≤css.length→css.flatten.take (i * k)=(css.take i).flatten
 | [],_,i,hi => by simp at hi;subst hi;simp
 |c :: r,h,0,_ => by simp
 |c :: r,h,i+1,hi => by
  have hc:=h c (by simp);rw[List.flatten_cons,List.take_succ_cons,List.flatten_cons,← FT r (fun x hx => h x (by simp[hx])) i (by simpa using hi),show(i+1) * k=c.length+i * k from by rw[hc,Nat.add_mul];omega,List.take_length_add_append]
theorem FS {α:Type} {k:Nat}:∀(css:List (List α)),(∀c,c∈css→c.length=k)→∀i,i≤css.length→css.flatten.drop (i * k)=(css.drop i).flatten
 | [],_,i,hi => by simp
 |c :: r,h,0,_ => by simp
 |c :: r,h,i+1,hi => by
  have hc:=h c (by simp);rw[List.flatten_cons,List.drop_succ_cons,← FS r (fun x hx => h x (by simp[hx])) i (by simpa using hi),show(i+1) * k=c.length+i * k from by rw[hc,Nat.add_mul];omega,List.drop_length_add_append]
def Aj {α:Type}(k:Nat)(E:TypeId)(R:Aw α)(w:World)(base:Nat)(v:Value)(ds:List α)(fs:List Addr):Prop :=
 ∃(css:List (List Value)) (fss:List (List Addr)),css.length=ds.length∧fss.length=ds.length∧fs=fss.flatten∧w.ownsRow base E k v ds.length css.flatten∧
  (∀i,(h:i<ds.length)→∃(h1:i<css.length) (h2:i<fss.length),css[i].length =k∧R w fss[i] css[i] ds[i])∧(∀a,a∈fs→v.ownBlock≠some a.block)
theorem Aj.cells {α:Type} {k:Nat} {E:TypeId} {R:Aw α} {w:World} {base:Nat} {v:Value} {ds:List α} {fs:List Addr}(h:Aj k E R w base v ds fs):∃xs,w.ownsRow base E k v ds.length xs:=by
 obtain⟨css,_,_,_,_,h4,_⟩:=h;exact⟨_,h4⟩
theorem EZ {w:World} {base:Nat} {E:TypeId} {k:Nat} {v:Value} {n:Nat} {xs ys:List Value}(h:w.ownsRow base E k v n xs)(h2:w.ownsRow base E k v n ys):xs=ys:=by
 obtain⟨l1,t1⟩:=h;obtain⟨l2,t2⟩:=h2;rcases t1 with⟨rfl,h0⟩|⟨g1,cap,cur,rfl,hb1,hg1,_,_,_,ht1⟩
 ·rw[h0,Nat.zero_mul]at l1 l2;rw[List.eq_nil_of_length_eq_zero l1,List.eq_nil_of_length_eq_zero l2]
 ·rcases t2 with⟨e,_⟩|⟨g2,cap2,cur2,e,hb2,hg2,_,_,_,ht2⟩
  ·cases e
  ·injection e with ea eb ec
   injection ea with ea
   injection ea with ea
   subst ea;rw[hg1]at hg2;injection hg2 with hg2
   injection hg2 with hg2
   subst hg2;rw[← ht1,← ht2]
section
variable {α:Type} {k:Nat} {E:TypeId} {R:Aw α} {w w':World} {base:Nat} {v:Value} {ds:List α} {fs:List Addr}
theorem Aj.start(h:w.ownsRow base E k v 0 []):Aj k E R w base v [] []:=⟨[],[],rfl,rfl,rfl,h,(fun _ h => by cases h),(fun _ h => by cases h)⟩
theorem Aj.mono {base':Nat}(h:Aj k E R w base v ds fs)(hb:base'≤base):Aj k E R w base' v ds fs:=by
 obtain⟨css,fss,h1,h2,h3,⟨hl,h4⟩,h5,h6⟩:=h;refine⟨css,fss,h1,h2,h3,⟨hl,?_⟩,h5,h6⟩;rcases h4 with h|⟨g,cap,cur,hv,hbb,h⟩
 ·exact .inl h
 ·exact .inr ⟨g,cap,cur,hv,Nat.le_trans hb hbb,h⟩
theorem Aj.lt(h:Aj k E R w base v ds fs):∀b,v.ownBlock=some b→base≤b∧b<w.heap.size:=by
 obtain⟨_,_,_,_,_,h4,_,_⟩:=h;exact fun b hb => h4.lt b hb
theorem Aj.there(hF:Bh R)(h:Aj k E R w base v ds fs):CM fs w:=by
 obtain⟨css,fss,h1,h2,rfl,h4,h5,h6⟩:=h;intro a ha;obtain⟨f,hf,hm⟩:=List.mem_flatten.1 ha;obtain⟨i,hi,rfl⟩:=List.getElem_of_mem hf;obtain⟨p1,p2,p3,p4⟩:=h5 i (by omega);exact hF _ _ _ _ p4 a hm
theorem Aj.keep(hR:AZ R)(h:Aj k E R w base v ds fs)(hb:∀b,v.ownBlock=some b→w'.heap[b]? =w.heap[b]?)(hs:AT fs w w'):Aj k E R w' base v ds fs:=by
 obtain⟨css,fss,h1,h2,rfl,h4,h5,h6⟩:=h;refine⟨css,fss,h1,h2,rfl,⟨h4.1,?_⟩,fun i hi => ?_,h6⟩
 ·rcases h4.2 with h|⟨g,cap,cur,hv,hbb,hg,h3⟩
  ·exact .inl h
  ·exact .inr ⟨g,cap,cur,hv,hbb,(hb g (by rw[hv];rfl)).trans hg,h3⟩
 ·obtain⟨p1,p2,p3,p4⟩:=h5 i hi;exact⟨p1,p2,p3,hR _ _ _ _ _ p4 (hs.mem (List.getElem_mem p2))⟩
theorem Aj.below(hR:AZ R)(hF:Bh R)(h:Aj k E R w base v ds fs)(hb:Below w.heap.size w w'):Aj k E R w' base v ds fs :=
 h.keep hR (fun b hv => hb.block b (h.lt b hv).2) (AT.of_below (h.there hF) hb)
theorem Aj.wrote(hR:AZ R)(hF:Bh R)(h:Aj k E R w base v ds fs) {gs:List Addr}(hw:AC gs w w')(h1:∀a,a∈gs→v.ownBlock≠some a.block)(h2:∀a,a∈fs→a∉gs):Aj k E R w' base v ds fs :=
 h.keep hR (fun b hv => hw.block b (h.lt b hv).2 fun a ha e => h1 a ha (by rw[hv,e])) (hw.same (h.there hF) h2)
theorem Aj.length(h:Aj k E R w base v ds fs):∃A c,v= .slice A ds.length c∧ds.length≤c∧c≤9223372036854775807:=by
 obtain⟨css,fss,h1,h2,rfl,h4,h5,h6⟩:=h;rcases h4.2 with⟨rfl,h⟩|⟨g,cap,cur,rfl,hb,hg,hnc,hcm,hcs,htake⟩
 ·exact⟨none,0,by rw[h],by omega,by omega⟩
 ·unfold maxLen at hcm;exact⟨_,_,rfl,hnc,by omega⟩
theorem Aj.far(h:Aj k E R w base v ds fs):∀a,a∈fs→v.ownBlock≠some a.block:=by
 obtain⟨_,_,_,_,_,_,_,h6⟩:=h;exact h6
theorem Aj.ones(hO:∀w f cs d,R w f cs d→∀u,u∈cs→u.oneCell'=true)(h:Aj k E R w base v ds fs) {xs:List Value}(hx:w.ownsRow base E k v ds.length xs):∀u,u∈xs→u.oneCell'=true:=by
 obtain⟨css,fss,h1,h2,h3,h4,h5,h6⟩:=h;intro u hu;rw[EZ hx h4]at hu;obtain⟨c,hc,huc⟩:=List.mem_flatten.1 hu;obtain⟨i,hi,rfl⟩:=List.getElem_of_mem hc;obtain⟨_,_,_,p4⟩:=h5 i (by omega);exact hO _ _ _ _ p4 u huc
theorem Aj.reads(h:Aj k E R w base v ds fs):∃gs,rSl k R w (gs ++ fs) v ds∧gs.Nodup∧(∀a,a∈gs→v.ownBlock=some a.block)∧(∀a,a∈gs→w.frozen? a=false)∧(∀a,a∈gs→base≤a.block)∧(∀a,a∈fs→v.ownBlock≠some a.block):=by
 have hlt:=h.lt;obtain⟨css,fss,h1,h2,rfl,⟨hl,h4⟩,h5,h6⟩:=h;have hw:∀c,c∈css→c.length=k:=by
  intro c hc;obtain⟨i,hi,rfl⟩:=List.getElem_of_mem hc;obtain⟨_,_,p3,_⟩:=h5 i (by omega);exact p3
 rcases h4 with⟨rfl,h0⟩|⟨g,cap,cur,rfl,hb,hg,hnc,hcm,hcs,htake⟩
 ·have:ds= []:=List.eq_nil_of_length_eq_zero h0;subst this;have:fss= []:=List.eq_nil_of_length_eq_zero h2;subst this;exact⟨[],⟨none,0,rfl,Nat.le_refl _,by omega,.inl ⟨rfl,rfl⟩⟩,List.nodup_nil,(fun _ h => by cases h),(fun _ h => by cases h),(fun _ h => by cases h),h6⟩
 ·simp only[maxLen]at hcm;refine⟨Az ⟨g,0,none⟩ (ds.length * k),⟨some ⟨g,0,none⟩,cap,rfl,hnc,by omega,.inr ⟨⟨g,0,none⟩,css,fss,rfl,h1,h2,rfl,fun i hi => ?_⟩⟩,CB rfl,fun a ha => ?_,fun a ha => ?_,fun a ha => ?_,h6⟩
  ·obtain⟨p1,p2,p3,p4⟩:=h5 i hi;refine⟨p1,p2,p3,fun j hj => ?_,p4⟩;rw[BG,cell_of_row w g _ cur E (0,0) hg];have hq:i * k+j<ds.length * k:=by
    rw[p3]at hj;calc i * k+j<i * k+k:=by omega
     _=(i+1) * k:=by rw[Nat.add_mul];omega
     _≤ds.length * k:=Nat.mul_le_mul_right _ hi
   have h3:(cur.toList.take (ds.length * k))[i * k+j]? =some css[i][j]:=by
    rw[htake,CY css hw i j p1 (by omega)];exact List.getElem?_eq_getElem hj
   rw[List.getElem?_take,if_pos hq]at h3;simpa using h3
  ·obtain⟨q,_,rfl⟩:=AY.1 ha;rw[BG];rfl
  ·obtain⟨q,_,rfl⟩:=AY.1 ha;rw[BG];exact frozen_of_row w g q cur E hg
  ·obtain⟨q,_,rfl⟩:=AY.1 ha;rw[BG];exact hb
theorem Aj.readsMine(h:Aj k E R w base v ds fs)(hm:Ak base w fs):∃gs,rSl k R w gs v ds∧Ak base w gs:=by
 obtain⟨gs,h1,h2,h3,h4,h5,h6⟩:=h.reads;refine⟨gs ++ fs,h1,?_,fun a ha => ?_,fun a ha => ?_⟩
 ·unfold List.Nodup;refine List.pairwise_append.2 ⟨h2,hm.nodup,fun a ha b hb e => ?_⟩;subst e;exact h6 a hb (h3 a ha)
 ·rcases List.mem_append.1 ha with ha|ha
  ·exact h5 a ha
  ·exact hm.from_ a ha
 ·rcases List.mem_append.1 ha with ha|ha
  ·exact h4 a ha
  ·exact hm.free a ha
theorem Aj.insert(hR:AZ R)(hF:Bh R)(h:Aj k E R w base v ds fs) {i:Nat}(hi:i≤ds.length) {us:List Value} {f:List Addr} {d:α} {v':Value}
  {xs:List Value} (hx:w.ownsRow base E k v ds.length xs) (hw:w'.ownsRow base E k v' (ds.length+1) (xs.take (i * k) ++ us ++ xs.drop (i * k)))
  (hus:us.length=k) (hg:w.grownBy w' v.ownBlock) (hv:v'.ownBlock=v.ownBlock∨v'.ownBlock=some w.heap.size) (hr:R w f us d) (hfd:∀a,a∈f→v.ownBlock≠some a.block) :
  ∃fs',Aj k E R w' base v' (ds.take i ++ d :: ds.drop i) fs'∧fs'.Perm (fs ++ f):=by
 have hthere:=h.there hF;obtain⟨css,fss,h1,h2,rfl,h4,h5,h6⟩:=h;have hwd:∀c,c∈css→c.length=k:=by
  intro c hc;obtain⟨i,hi,rfl⟩:=List.getElem_of_mem hc;obtain⟨_,_,p3,_⟩:=h5 i (by omega);exact p3
 have hft:=hF _ _ _ _ hr;have hcell:∀b:Addr,b.block<w.heap.size→v.ownBlock≠some b.block→w'.cell? b=w.cell? b:=fun b hb hne => hg.cell_far b hb (fun e => hne e.symm)
 have hxl:(ds.take i ++ d :: ds.drop i).length =ds.length+1:=by simp;omega
 refine⟨(fss.take i ++ f :: fss.drop i).flatten,⟨css.take i ++ us :: css.drop i,fss.take i ++ f :: fss.drop i,by simp;omega,by simp;omega,rfl,?_,fun q hq => ?_,fun b hb => ?_⟩,?_⟩
 ·rw[hxl];rw[EZ hx h4,FT css hwd i (by omega),FS css hwd i (by omega)]at hw;simpa [List.append_assoc]using hw
 ·have hgo:∀q',(hq':q'<ds.length)→∃(h1:q'<css.length) (h2:q'<fss.length),css[q'].length =k∧R w' fss[q'] css[q'] ds[q']:=by
   intro q' hq';obtain⟨p1,p2,p3,p4⟩:=h5 q' hq';refine⟨p1,p2,p3,hR _ _ _ _ _ p4 fun b hb => ?_⟩;have hbf:=List.mem_flatten.2 ⟨_,List.getElem_mem p2,hb⟩;exact hcell b (hthere b hbf) (h6 b hbf)
  rcases Nat.lt_trichotomy q i with hlt|he|hgt
  ·obtain⟨p1,p2,p3,p4⟩:=hgo q (by omega);refine⟨by simp;omega,by simp;omega,?_⟩;have e1:(css.take i ++ us :: css.drop i)[q]'(by simp;omega)=css[q]:=by rw[List.getElem_append_left (by simp;omega)];simp
   have e2:(fss.take i ++ f :: fss.drop i)[q]'(by simp;omega)=fss[q]:=by rw[List.getElem_append_left (by simp;omega)];simp
   have e3:(ds.take i ++ d :: ds.drop i)[q]'hq=ds[q]'(by omega):=by rw[List.getElem_append_left (by simp;omega)];simp
   rw[e1,e2,e3];exact⟨p3,p4⟩
  ·subst he;refine⟨by simp;omega,by simp;omega,?_⟩;have e1:(css.take q ++ us :: css.drop q)[q]'(by simp;omega)=us:=by rw[List.getElem_append_right (by simp;omega)];simp[Nat.min_eq_left (show q≤css.length by omega)]
   have e2:(fss.take q ++ f :: fss.drop q)[q]'(by simp;omega)=f:=by rw[List.getElem_append_right (by simp;omega)];simp[Nat.min_eq_left (show q≤fss.length by omega)]
   have e3:(ds.take q ++ d :: ds.drop q)[q]'hq=d:=by rw[List.getElem_append_right (by simp;omega)];simp[Nat.min_eq_left hi]
   rw[e1,e2,e3];exact⟨hus,hR _ _ _ _ _ hr fun b hb => hcell b (hft b hb) (hfd b hb)⟩
  ·obtain⟨q',rfl⟩:∃q',q=q'+1:=⟨q - 1,by omega⟩;rw[hxl]at hq;obtain⟨p1,p2,p3,p4⟩:=hgo q' (by omega);refine⟨by simp;omega,by simp;omega,?_⟩;have e1:(css.take i ++ us :: css.drop i)[q'+1]'(by simp;omega)=css[q']:=by
    rw[List.getElem_append_right (by simp;omega),List.getElem_cons];simp only[List.length_take,Nat.min_eq_left (show i≤css.length by omega),List.getElem_drop];rw[dif_neg (by omega)];congr 1;omega
   have e2:(fss.take i ++ f :: fss.drop i)[q'+1]'(by simp;omega)=fss[q']:=by
    rw[List.getElem_append_right (by simp;omega),List.getElem_cons];simp only[List.length_take,Nat.min_eq_left (show i≤fss.length by omega),List.getElem_drop];rw[dif_neg (by omega)];congr 1;omega
   have e3:(ds.take i ++ d :: ds.drop i)[q'+1]'(by simp;omega)=ds[q']'(by omega):=by
    rw[List.getElem_append_right (by simp;omega),List.getElem_cons];simp only[List.length_take,Nat.min_eq_left hi,List.getElem_drop];rw[dif_neg (by omega)];congr 1;omega
   rw[e1,e2,e3];exact⟨p3,p4⟩
 ·have hb':b∈fss.flatten∨b∈f:=by
   obtain⟨l,hl,hbl⟩:=List.mem_flatten.1 hb;rcases List.mem_append.1 hl with hl|hl
   ·exact .inl (List.mem_flatten.2 ⟨l,List.mem_of_mem_take hl,hbl⟩)
   ·rcases List.mem_cons.1 hl with rfl|hl
    ·exact .inr hbl
    ·exact .inl (List.mem_flatten.2 ⟨l,List.mem_of_mem_drop hl,hbl⟩)
  have hbs:b.block<w.heap.size:=hb'.elim (hthere b) (hft b);have hbn:v.ownBlock≠some b.block:=hb'.elim (h6 b) (hfd b);rcases hv with e|e
  ·rw[e];exact hbn
  ·rw[e];intro e2;injection e2 with e2;omega
 ·have:(fss.take i ++ f :: fss.drop i).Perm (fss ++ [f]):=by
   have h0:(fss ++ [f])=fss.take i ++(fss.drop i ++ [f]):=by rw[← List.append_assoc,List.take_append_drop]
   rw[h0];exact List.Perm.append_left _ (List.perm_append_comm (l₁:=[f]) (l₂:=fss.drop i))
  have:=this.flatten;simpa using this
end
section
variable {α:Type} {k:Nat} {E:TypeId} {R:Aw α} {w w':World} {base:Nat} {v:Value} {ds:List α} {fs:List Addr}
theorem Aj.extend(hR:AZ R)(hF:Bh R)(h:Aj k E R w base v ds fs) {ds2:List α} {css2:List (List Value)} {fss2:List (List Addr)} {v':Value} {xs:List Value}(hx:w.ownsRow base E k v ds.length xs)
  (hw:w'.ownsRow base E k v' (ds.length+ds2.length) (xs ++ css2.flatten)) (hc:css2.length=ds2.length) (hf:fss2.length=ds2.length) (hg:w.grownBy w' v.ownBlock) (hv:v'.ownBlock=v.ownBlock∨v'.ownBlock=some w.heap.size)
  (hr:∀i,(h:i<ds2.length)→∃(h1:i<css2.length) (h2:i<fss2.length),css2[i].length =k∧R w fss2[i] css2[i] ds2[i]) (hfd:∀a,a∈fss2.flatten→v.ownBlock≠some a.block) :
  Aj k E R w' base v' (ds ++ ds2) (fs ++ fss2.flatten):=by
 have hthere:=h.there hF;obtain⟨css,fss,h1,h2,rfl,h4,h5,h6⟩:=h;have ht2:∀a,a∈fss2.flatten→a.block<w.heap.size:=by
  intro a ha;obtain⟨f,hf2,hm⟩:=List.mem_flatten.1 ha;obtain⟨i,hi,rfl⟩:=List.getElem_of_mem hf2;obtain⟨p1,p2,p3,p4⟩:=hr i (by omega);exact hF _ _ _ _ p4 a hm
 have hcell:∀b:Addr,b.block<w.heap.size→v.ownBlock≠some b.block→w'.cell? b=w.cell? b:=fun b hb hne => hg.cell_far b hb (fun e => hne e.symm)
 refine⟨css ++ css2,fss ++ fss2,by simp[h1,hc],by simp[h2,hf],by simp,?_,fun q hq => ?_,fun b hb => ?_⟩
 ·rw[List.length_append,List.flatten_append,← EZ hx h4];exact hw
 ·rcases Nat.lt_or_ge q ds.length with hlt|hge
  ·obtain⟨p1,p2,p3,p4⟩:=h5 q hlt;refine⟨by simp;omega,by simp;omega,?_⟩;rw[List.getElem_append_left p1,List.getElem_append_left p2,List.getElem_append_left hlt];refine⟨p3,hR _ _ _ _ _ p4 fun b hb => ?_⟩;have hbf:=List.mem_flatten.2 ⟨_,List.getElem_mem p2,hb⟩;exact hcell b (hthere b hbf) (h6 b hbf)
  ·rw[List.length_append]at hq;obtain⟨p1,p2,p3,p4⟩:=hr (q - ds.length) (by omega);refine⟨by simp;omega,by simp;omega,?_⟩;have e1:(css ++ css2)[q]'(by simp;omega)=css2[q - ds.length]:=by rw[List.getElem_append_right (by omega)];simp only[h1]
   have e2:(fss ++ fss2)[q]'(by simp;omega)=fss2[q - ds.length]:=by rw[List.getElem_append_right (by omega)];simp only[h2]
   have e3:(ds ++ ds2)[q]'(by simp;omega)=ds2[q - ds.length]'(by omega):=by rw[List.getElem_append_right (by omega)]
   rw[e1,e2,e3];refine⟨p3,hR _ _ _ _ _ p4 fun b hb => ?_⟩;have hbf:=List.mem_flatten.2 ⟨_,List.getElem_mem p2,hb⟩;exact hcell b (ht2 b hbf) (hfd b hbf)
 ·have hbs:b.block<w.heap.size∧v.ownBlock≠some b.block:=(List.mem_append.1 hb).elim (fun h =>⟨hthere b h,h6 b h⟩) (fun h =>⟨ht2 b h,hfd b h⟩);rcases hv with e|e
  ·rw[e];exact hbs.2
  ·rw[e];intro e2;injection e2 with e2;have:=hbs.1;omega
end
theorem G5 {P:Program}(w:World)(base:Nat)(t ty e:TypeId)(i:TypeInfo)(size:Nat)(ht:P.underlying t=some (.slice e))(hi:P.info? e=some i)(v:Value)(n:Nat)(xs:List Value)(hown:w.ownsRow base e size v n xs)(c:Nat) :
  (Builtin.append_ #[t,t] ty #[v,.slice none 0 c]).run P w= .ok v w:=by
 rcases hown.2 with⟨rfl,rfl⟩|⟨g,cap,cur,rfl,hb,hg,hnc,hcm,hcs,htake⟩
 ·simp[Builtin.append_,run_underlying ht,sizeOf,typeInfo,hi,Builtin.lenOf,Builtin.firstCells]
 ·have h1:(n:Int)+0≤(cap:Int):=by omega
  simp[Builtin.append_,run_underlying ht,sizeOf,typeInfo,hi,Builtin.lenOf,Builtin.firstCells,hnc,storeCells]
def Fg {α:Type}(k:Nat)(E:TypeId)(R:Aw α)(base:Nat)(w:World)(ob:Option Nat)(ds:List α)(fs gs:List Addr)(v':Value)(w':World):Prop :=
 ∃hs,Aj k E R w' base v' ds (fs ++ hs)∧hs.Sublist gs∧w.grownBy w' ob∧(v'.ownBlock=ob∨v'.ownBlock=some w.heap.size)
theorem Aj.appendRun {α:Type} {k:Nat} {E:TypeId} {R:Aw α} {P:Program} {w:World}(t ty:TypeId)(z:Value)(bytes:Nat)(ht:P.underlying t=some (.slice E))(hi:(P.info? E).map (fun i =>(i.zero,i.size,i.bytes))=some (some z,k,bytes))(hzs:z.cells.size=k)(hk:0<k)
  (hR:AZ R) (hF:Bh R) (hO:∀w f cs d,R w f cs d→∀u,u∈cs→u.oneCell'=true) (base:Nat) (v:Value) (ds:List α) (fs:List Addr) (hown:Aj k E R w base v ds fs) (u:Value) (ds2:List α) (gs:List Addr) (hsrc:rSl k R w gs u ds2) (hfd:∀a,a∈gs→v.ownBlock≠some a.block)
  (hn:ds.length+ds2.length≤1000000000) (hb:bytes≤1000) (hbase:base≤w.heap.size) :
  ∃v' w',(Builtin.append_ #[t,t] ty #[v,u]).run P w= .ok v' w'∧Fg k E R base w v.ownBlock (ds ++ ds2) fs gs v' w':=by
 obtain⟨i,hi0,hz0,hz1,hz2⟩:=info_parts hi;obtain⟨xs,hxs⟩:=hown.cells;have hbb:(ds.length+ds2.length) * bytes≤140737488355328:=Nat.le_trans (Nat.mul_le_mul hn hb) (by omega);obtain⟨A,c,rfl,hc1,hc2,hs⟩:=hsrc;have main:∀(ad:Addr) (css:List (List Value)) (fss:List (List Addr)),css.length=ds2.length→fss.length=ds2.length→(∀a,a∈fss.flatten→a∈gs)→fss.flatten.Sublist gs→
   (∀i,(h:i<ds2.length)→∃(h1:i<css.length) (h2:i<fss.length),css[i].length =k∧(∀j,(hj:j<css[i].length)→w.cell? (ad.add (i * k+j))=some css[i][j])∧R w fss[i] css[i] ds2[i])→
   ∃v' w',(Builtin.append_ #[t,t] ty #[v,.slice (some ad) ds2.length c]).run P w= .ok v' w'∧Fg k E R base w v.ownBlock (ds ++ ds2) fs gs v' w':=by
  intro ad css fss h1 h2 h3 h4 h5;have hw:∀c,c∈css→c.length=k:=by
   intro c hc;obtain⟨i,hi,rfl⟩:=List.getElem_of_mem hc;obtain⟨_,_,p3,_⟩:=h5 i (by omega);exact p3
  obtain⟨v',w',q1,q2,q3,q4,q5⟩:=run_append_own_at (P:=P) w base t ty E i z k bytes ht hi0 hz0 hz1 hz2 hzs hk v ds.length xs hxs ad ds2.length c css.flatten (by rw[EW css hw,h1]) (fun j x hj => by
    have hlt:j<ds2.length * k:=by
     have:=(List.getElem?_eq_some_iff.1 hj).1;rw[EW css hw,h1]at this;exact this
    have hi2:j / k<ds2.length:=by rw[Nat.div_lt_iff_lt_mul hk];exact hlt
    obtain⟨p1,p2,p3,p4,p5⟩:=h5 (j / k) hi2;have hm:j % k<k:=Nat.mod_lt _ hk;have e:j / k * k+j % k=j:=by rw[Nat.mul_comm];exact Nat.div_add_mod j k
    have:=CY css hw (j / k) (j % k) p1 hm;rw[e,hj,List.getElem?_eq_getElem (by omega)]at this;injection this with this
    rw[this,← p4 (j % k) (by omega),e]) (fun x hx => by
    obtain⟨cc,hcc,hxc⟩:=List.mem_flatten.1 hx;obtain⟨q,hq,rfl⟩:=List.getElem_of_mem hcc;obtain⟨_,_,_,_,p5⟩:=h5 q (by omega);exact hO _ _ _ _ p5 x hxc) (by simp only[maxLen];omega) hbb hbase
  exact⟨v',w',q1,fss.flatten,Aj.extend hR hF hown hxs q2 h1 h2 q3 q5 (fun i hi => by obtain⟨p1,p2,p3,p4,p5⟩:=h5 i hi;exact⟨p1,p2,p3,p5⟩) (fun a ha => hfd a (h3 a ha)),h4,q3,q5⟩
 rcases hs with⟨rfl,rfl⟩|⟨ad,css,fss,rfl,h1,h2,rfl,h5⟩
 ·cases A with
  |none => exact⟨v,w,G5 w base t ty E i k ht hi0 v ds.length xs hxs c,[],by simpa using hown,List.Sublist.refl _,⟨rfl,rfl,rfl,Nat.le_refl _,fun _ _ _ => rfl⟩,.inl rfl⟩
  |some ad => exact main ad [] [] rfl rfl (fun a ha => by cases ha) (List.Sublist.refl _) (fun i hi => by cases hi)
 ·exact main ad css fss h1 h2 (fun a ha => List.mem_append_right _ ha) (List.sublist_append_right _ _) h5
theorem AB {P:Program} {w:World} {ops:Array Oper} {rest:List Oper} {o:Oper} {a:Act} {Q:Exit→Act→World→Prop} {S:Value→World→Prop}(hgd:o.guard=none)(s x:Operand)(t:TypeId)
  (ho:o.op= .call { callee:=.builtin .append,args:=#[s,x],argTypes:=#[t,t] }) (v u:Value) (hs:a.eval s=v) (hx:a.eval x=u) (hr:∃v' w',(Builtin.append_ #[t,t] o.type #[v,u]).run P w= .ok v' w'∧S v' w')
  (h:∀v' w',S v' w'→wpList P ops Q rest (a.put o.dst v') w'):wpList P ops Q (o :: rest) a w:=by
 obtain⟨v',w',h1,h2⟩:=hr;refine wpList_plain hgd fun K hK => ?_
 unfold Oper.wp execOp;simp only[ho,resolve,invoke,builtin,Sem.run_bind,Sem.run_pure,Result.andThen_ok,List.map_toArray,List.map_cons,List.map_nil,hs,hx,h1];exact hK _ _ (h v' w' h2)
theorem AR {P:Program} {w:World} {ops:Array Oper} {o:Oper} {a:Act} {K:Act→World→Prop} {Q:Exit→Act→World→Prop} {E:Prop} {S:Value→World→Prop}(hgd:o.guard=none)(s x:Operand)(t:TypeId)
  (ho:o.op= .call { callee:=.builtin .append,args:=#[s,x],argTypes:=#[t,t] }) (v u:Value) (hs:a.eval s=v) (hx:a.eval x=u) (hr:∃v' w',(Builtin.append_ #[t,t] o.type #[v,u]).run P w= .ok v' w'∧S v' w')
  (h:∀v' w',S v' w'→K (a.put o.dst v') w'):if Region.wanted o (yielded ops a.tmps)=true then Oper.wp P o a w K Q else E:=by
 have hw:Region.wanted o (yielded ops a.tmps)=true:=by simp[Region.wanted,hgd]
 rw[if_pos hw];obtain⟨v',w',h1,h2⟩:=hr;unfold Oper.wp execOp;simp only[ho,resolve,invoke,builtin,Sem.run_bind,Sem.run_pure,Result.andThen_ok,List.map_toArray,List.map_cons,List.map_nil,hs,hx,h1];exact h v' w' h2
theorem Aj.appendOne {α:Type} {k:Nat} {E:TypeId} {R:Aw α} {P:Program} {w:World}(t ty:TypeId)(z:Value)(bytes:Nat)(ht:P.underlying t=some (.slice E))(hi:(P.info? E).map (fun i =>(i.zero,i.size,i.bytes))=some (some z,k,bytes))(hzs:z.cells.size=k)(hk:0<k)
  (hR:AZ R) (hF:Bh R) (hO:∀w f cs d,R w f cs d→∀u,u∈cs→u.oneCell'=true) (base:Nat) (v:Value) (ds:List α) (fs:List Addr) (hown:Aj k E R w base v ds fs) (g:Nat) (us:List Value) (f:List Addr) (d:α) (hus:us.length=k) (hblk:Blk w g E us.toArray) (hr:R w f us d) (hfd:∀a,a∈f→v.ownBlock≠some a.block)
  (hn:ds.length+1≤1000000000) (hb:bytes≤1000) (hbase:base≤w.heap.size) :
  ∃v' w',(Builtin.append_ #[t,t] ty #[v,.slice (some ⟨g,0,none⟩) 1 1]).run P w= .ok v' w'∧Fg k E R base w v.ownBlock (ds ++ [d]) fs f v' w':=by
 obtain⟨i,hi0,hz0,hz1,hz2⟩:=info_parts hi;obtain⟨xs,hxs⟩:=hown.cells;have hbb:(ds.length+1) * bytes≤140737488355328:=Nat.le_trans (Nat.mul_le_mul hn hb) (by omega);obtain⟨v',w',q1,q2,q3,q4,q5⟩:=run_append_own_at (P:=P) w base t ty E i z k bytes ht hi0 hz0 hz1 hz2 hzs hk v ds.length xs hxs ⟨g,0,none⟩ 1 1 us (by omega) (fun j u hu => by rw[BG,hblk.cell];simpa using hu) (hO _ _ _ _ hr) (by simp only[maxLen];omega) hbb hbase;have:=Aj.extend (ds2:=[d]) (css2:=[us]) (fss2:=[f]) (v':=v') (w':=w') hR hF hown hxs (by simpa using q2) rfl rfl q3 q5 (fun i hi => by
  have:i=0:=by simpa using hi
  subst this;exact⟨by simp,by simp,hus,hr⟩) (fun a ha => hfd a (by simpa using ha))
 exact⟨v',w',q1,f,by simpa using this,List.Sublist.refl _,q3,q5⟩
theorem rSl.split {α:Type} {k:Nat} {R:Aw α} {w:World} {fs:List Addr} {A:Option Addr} {n c:Nat} {ds:List α}(h:rSl k R w fs (.slice A n c) ds) {j:Nat}(hj:j≤ds.length) :
  ∃g1 g2,rSl k R w g1 (.slice A j c) (ds.take j)∧rSl k R w g2 (.slice (if c=j then A else A.map (fun x => x.add (j * k))) (n - j) (c - j)) (ds.drop j)∧(g1 ++ g2).Perm fs:=by
 obtain⟨A',c',e,hc1,hc2,hs⟩:=h;injection e with e1 e2 e3
 subst e1 e2 e3;have l1:(ds.take j).length =j:=by rw[List.length_take];omega
 have l2:(ds.drop j).length =ds.length - j:=by rw[List.length_drop]
 rcases hs with⟨rfl,rfl⟩|⟨ad,css,fss,rfl,h1,h2,rfl,h5⟩
 ·simp at hj;subst hj;exact⟨[],[],⟨A,c,by simp,by simp,hc2,.inl ⟨by simp,rfl⟩⟩,⟨if c=0 then A else A.map (fun x => x.add (0 * k)),c,by simp,by simp,hc2,.inl ⟨by simp,rfl⟩⟩,by simp⟩
 ·refine⟨Az ad (j * k) ++(fss.take j).flatten,Az (ad.add (j * k)) ((ds.length - j) * k) ++(fss.drop j).flatten,?_,?_,?_⟩
  ·refine⟨some ad,c,by rw[l1],by omega,hc2,.inr ⟨ad,css.take j,fss.take j,rfl,by simp;omega,by simp;omega,by rw[l1],fun i hi => ?_⟩⟩;rw[l1]at hi;obtain⟨p1,p2,p3,p4,p5⟩:=h5 i (by omega);refine⟨by simp;omega,by simp;omega,?_⟩;simp only[List.getElem_take];exact⟨p3,p4,p5⟩
  ·by_cases hcj:c=j
   ·have hnj:ds.length=j:=by omega
    rw[if_pos hcj];refine⟨some ad,c - j,by rw[l2],by omega,by omega,.inl ⟨by apply List.eq_nil_of_length_eq_zero;omega,?_⟩⟩;rw[List.drop_of_length_le (by omega)];simp[hnj,Az]
   ·rw[if_neg hcj];refine⟨some (ad.add (j * k)),c - j,by rw[l2];rfl,by omega,by omega,.inr ⟨ad.add (j * k),css.drop j,fss.drop j,rfl,by simp;omega,by simp;omega,by rw[l2],fun i hi => ?_⟩⟩;rw[l2]at hi;obtain⟨p1,p2,p3,p4,p5⟩:=h5 (j+i) (by omega);refine⟨by simp;omega,by simp;omega,?_⟩;simp only[List.getElem_drop];refine⟨p3,fun q hq => ?_,p5⟩;rw[IG,show j * k+(i * k+q)=(j+i) * k+q from by rw[Nat.add_mul];omega];exact p4 q hq
  ·have e:Az ad (ds.length * k)=Az ad (j * k) ++ Az (ad.add (j * k)) ((ds.length - j) * k):=by
    rw[← II,← Nat.add_mul];congr 2;omega
   rw[e];conv => rhs;rw[← List.take_append_drop j fss,List.flatten_append]
   rw[List.append_assoc,List.append_assoc];refine List.Perm.append_left _ ?_;rw[← List.append_assoc,← List.append_assoc];exact List.Perm.append_right _ List.perm_append_comm
theorem Jk:∀(w:World) (f:List Addr) (cs:List Value) (d:Int),As w f cs d→∀u,u∈cs→u.oneCell'=true:=by
 rintro w f cs d ⟨-,rfl,-⟩ u hu;simp at hu;subst hu;rfl
end Go.Proofs.YthbljikbnoghcaaGreat
