/- Part 0 of the proof. -/
import Derived.Test.YtfjkoifpdoemdaaGreatRows
import Derived.WalkKit
import Derived.WalkSpells
import Derived.WalkLawsBesides
import Derived.Deep.QuietTactic
import Derived.BigQuiet
import Derived.Lib.Hide
import Derived.Deep.AppendLies
import Derived.Deep.OwnRows
import Derived.Lib.QuietBelow
import Derived.Maps.AppendAt
import Derived.Laws.CopyRow
import Derived.Deep.MidRow
import Derived.Laws.MakeOwn
import Derived.ProofKit
import Derived.Deep.LoopGhost
import Derived.Deep.RegionHeld
import Derived.Below
set_option maxHeartbeats 8000000
set_option maxRecDepth 100000
set_option linter.unusedVariables false
set_option linter.unusedSimpArgs false
namespace Go.RowKit
theorem Hid.o {p:Prop}(h:Hid p):p:=h.out
end Go.RowKit
namespace Go
theorem Aside.o {p:Prop}(h:Aside p):p:=h.out
theorem Shut.o {p:Prop}(h:Shut p):p:=h.out
end Go
namespace Go.Proofs.YtfjkoifpdoemdaaGreat
theorem U {p:Prop}(h:p):RowKit.Hid p:=Lib.hid h
section
open Go.RowKit Go.Lib Go.Sort
abbrev aA:=@cell_regrown
abbrev aB:=@Below.refl
abbrev aC:=@Nat.le_refl
abbrev aD:=@wpList_load_mid
abbrev aE:=@Nat.lt_of_lt_of_le
abbrev aF:=@wp_region_quiet_below
abbrev aG:=@decide_eq_false
abbrev aH:=@below_regrown
abbrev aI:=@if_neg
abbrev aJ:=@List.getD_eq_getElem?_getD
abbrev aK:=@decide_eq_true
abbrev aL:=@if_pos
abbrev aM:=@List.take_succ_eq_append_getElem
abbrev aN:=@List.getElem_mem
abbrev aO:=@List.getElem?_eq_getElem
abbrev aP:=@wpQuiet_nil
abbrev aQ:=@List.length_take
abbrev aT:=@List.mem_append_right
abbrev aU:=@List.getElem_cons_zero
abbrev aV:=@List.take_length
abbrev aW:=@wpList_store_mid
abbrev aX:=@List.mem_append_left
abbrev aY:=@List.getElem_of_mem
abbrev aZ:=@List.size_toArray
abbrev bC:=@List.length_append
abbrev bE:=@Nat.add_zero
abbrev bK:=@List.take_of_length_le
abbrev bL:=@Nat.le_trans
abbrev bM:=@List.getElem_cons_succ
abbrev bN:=@decide_eq_true_eq
abbrev bO:=@of_decide_eq_true
abbrev bP:=@List.ext_getElem
abbrev bQ:=@List.getElem_map
abbrev bR:=@List.length_map
abbrev bT:=@List.eq_nil_of_length_eq_zero
abbrev bU:=@List.length_drop
abbrev bV:=@List.mem_append
end
end Go.Proofs.YtfjkoifpdoemdaaGreat
open Go.Proofs.Tryz
open Go.Value (int)
open Go.IntKind (i64)
namespace Go.Proofs.YtfjkoifpdoemdaaGreat
open Go.RowKit
theorem MB(a:Addr)(n:Nat):(a.add n).block =a.block:=by unfold Addr.add;split <;> rfl
theorem IN(a:Addr)(i j:Nat):(a.add i).add j=a.add (i+j):=by
 unfold Addr.add;by_cases hi:i=0 <;> by_cases hj:j=0 <;> simp[hi,hj,Nat.add_assoc]
theorem addZero(a:Addr):a.add 0=a:=by unfold Addr.add;simp
theorem addInj(a:Addr)(i j:Nat)(h:a.add i=a.add j):i=j∨a.spot.isSome:=by
 unfold Addr.add at h;cases a with
 |mk b o s =>
  cases s with
  |some x => right;rfl
  |none =>
   left
   by_cases hi:i=0 <;> by_cases hj:j=0 <;> simp_all
theorem AM {B:Nat} {a w:World}(h:Below B a w)(n:Nat):Below B a (w.drewN n):=⟨h.os,h.tape,h.output,h.size,h.block⟩
def AV(ad:Addr)(n:Nat):List Addr:=(List.range n).map ad.add
theorem Bb {ad:Addr} {n:Nat} {a:Addr}:a∈AV ad n↔∃k,k<n∧a=ad.add k:=by
 simp[AV,eq_comm]
theorem Mu(ad:Addr)(n m:Nat):AV ad (n+m)=AV ad n ++ AV (ad.add n) m:=by
 unfold AV;rw[List.range_add,List.map_append,List.map_map];congr 1
 apply List.map_congr_left
 intro k _;simp[IN]
theorem DO {ad:Addr} {n:Nat}(h:ad.spot=none):(AV ad n).Nodup:=by
 unfold AV;rw[List.nodup_iff_pairwise_ne,List.pairwise_map];refine List.Pairwise.imp ?_ (List.nodup_range (n:=n));intro a b hab e;rcases addInj _ _ _ e with e|e
 ·exact hab e
 ·rw[h]at e;cases e
def AQ(fs:List Addr)(w w':World):Prop:=∀a,a∈fs→w'.cell? a=w.cell? a
theorem AQ.left {fs gs:List Addr} {w w':World}(h:AQ (fs ++ gs) w w'):AQ fs w w':=fun a ha => h a (aX _ ha)
theorem AQ.right {fs gs:List Addr} {w w':World}(h:AQ (fs ++ gs) w w'):AQ gs w w':=fun a ha => h a (aT _ ha)
theorem AQ.mem {fss:List (List Addr)} {w w':World}(h:AQ fss.flatten w w') {fs:List Addr}(hf:fs∈fss):AQ fs w w':=fun a ha => h a (List.mem_flatten.2 ⟨fs,hf,ha⟩)
theorem AQ.refl(fs:List Addr)(w:World):AQ fs w w:=fun _ _ => rfl
def CX(fs:List Addr)(w:World):Prop:=∀a,a∈fs→a.block<w.heap.size
theorem AQ.of_below {fs:List Addr} {B:Nat} {w w':World}(ht:∀a,a∈fs→a.block<B)(h:Below B w w'):AQ fs w w':=fun a ha => h.cell (ht a ha)
abbrev AB (α:Type):=World→List Addr→List Value→α→Prop
def Bi {α:Type}(R:AB α):Prop:=∀w w' fs cs d,R w fs cs d→AQ fs w w'→R w' fs cs d
def Bl {α:Type}(R:AB α):Prop:=∀w fs cs d,R w fs cs d→CX fs w
def F8 {α:Type}(k:Nat)(R:AB α):Prop:=∀w fs cs d,R w fs cs d→cs.length=k
def Be(b:UInt8):Value:=.int .u8 (b.toNat:Int)
def Az:AB Int:=fun _ fs cs x => fs= []∧cs= [int i64 x]∧ -9223372036854775808≤x∧x≤9223372036854775807
def Ai:AB UInt8:=fun _ fs cs x => fs= []∧cs= [Be x]
def Iw:AB ByteArray:=fun _ fs cs x => fs= []∧cs= [.string x]∧x.size≤9223372036854775807
def rSl {α:Type}(k:Nat)(R:AB α)(w:World)(fs:List Addr)(v:Value)(ds:List α):Prop :=
 ∃(A:Option Addr) (c:Nat),v= .slice A ds.length c∧ds.length≤c∧c≤9223372036854775807∧
  ((ds= []∧fs= [])∨∃(ad:Addr) (css:List (List Value)) (fss:List (List Addr)),A=some ad∧css.length=ds.length∧fss.length=ds.length∧fs=AV ad (ds.length * k) ++ fss.flatten∧
   ∀i,(h:i<ds.length)→∃(h1:i<css.length) (h2:i<fss.length),css[i].length =k∧(∀j,(hj:j<css[i].length)→w.cell? (ad.add (i * k+j))=some css[i][j])∧R w fss[i] css[i] ds[i])
theorem rSl.keep {α:Type} {k:Nat} {R:AB α}(hR:Bi R) {w w':World} {fs:List Addr} {v:Value} {ds:List α}(h:rSl k R w fs v ds)(hs:AQ fs w w'):rSl k R w' fs v ds:=by
 obtain⟨A,c,e,h1,h2,h3⟩:=h;refine⟨A,c,e,h1,h2,?_⟩;rcases h3 with h3|⟨ad,css,fss,e1,e2,e3,e4,h3⟩
 ·exact .inl h3
 ·refine .inr ⟨ad,css,fss,e1,e2,e3,e4,fun i hi => ?_⟩;obtain⟨q1,q2,q3,q4,q5⟩:=h3 i hi;subst e4;refine⟨q1,q2,q3,fun j hj => ?_,hR _ _ _ _ _ q5 (hs.right.mem (aN _))⟩;rw[hs.left _ (Bb.2 ⟨i * k+j,?_,rfl⟩)]
  ·exact q4 j hj
  ·rw[q3]at hj;calc i * k+j<i * k+k:=by omega
    _=(i+1) * k:=by rw[Nat.add_mul];omega
    _≤ds.length * k:=Nat.mul_le_mul_right _ hi
theorem rSl.there {α:Type} {k:Nat} {R:AB α}(hR:Bl R) {w:World} {fs:List Addr} {v:Value} {ds:List α}(h:rSl k R w fs v ds):CX fs w:=by
 obtain⟨A,c,e,h1,h2,h3⟩:=h;rcases h3 with⟨_,rfl⟩|⟨ad,css,fss,e1,e2,e3,rfl,h3⟩
 ·intro a ha;cases ha
 ·intro a ha;rcases List.mem_append.1 ha with ha|ha
  ·obtain⟨q,hq,rfl⟩:=Bb.1 ha;have hk:0<k:=by
    rcases Nat.eq_zero_or_pos k with e|e
    ·subst e;simp at hq
    ·exact e
   have hi:q / k<ds.length:=by rw[Nat.div_lt_iff_lt_mul hk];exact hq
   obtain⟨q1,q2,q3,q4,q5⟩:=h3 (q / k) hi;have hm:q % k<k:=Nat.mod_lt _ hk;have:=q4 (q % k) (by rw[q3];exact hm);rw[show q / k * k+q % k=q from by rw[Nat.mul_comm];exact Nat.div_add_mod q k]at this;exact World.block_lt_of_cell? _ _ this
  ·obtain⟨f,hf,hm⟩:=List.mem_flatten.1 ha;obtain⟨i,hi,rfl⟩:=aY hf;obtain⟨q1,q2,q3,q4,q5⟩:=h3 i (by omega);exact hR _ _ _ _ q5 a hm
theorem rSl.below {α:Type} {k:Nat} {R:AB α}(hR:Bi R)(hF:Bl R) {w w':World} {fs:List Addr} {v:Value} {ds:List α}(h:rSl k R w fs v ds)(hb:Below w.heap.size w w'):rSl k R w' fs v ds :=
 h.keep hR (.of_below (h.there hF) hb)
def Al {α:Type}(k:Nat)(R:AB α):AB (List α):=fun w fs cs ds =>∃v,cs= [v]∧rSl k R w fs v ds
theorem Al.local_ {α:Type} {k:Nat} {R:AB α}(hR:Bi R):Bi (Al k R):=fun _ _ _ _ _ ⟨v,e,h⟩ hs =>⟨v,e,h.keep hR hs⟩
theorem Al.fixed {α:Type} {k:Nat} {R:AB α}(hR:Bl R):Bl (Al k R):=fun _ _ _ _ ⟨_,_,h⟩ => h.there hR
theorem Al.wide {α:Type} {k:Nat} {R:AB α}:F8 1 (Al k R):=fun _ _ _ _ ⟨_,e,_⟩ => by rw[e];rfl
theorem Az.local_:Bi Az:=fun _ _ _ _ _ h _ => h
theorem Az.fixed:Bl Az:=fun _ _ _ _ h a ha => by rw[h.1]at ha;cases ha
theorem Ai.local_:Bi Ai:=fun _ _ _ _ _ h _ => h
theorem Ai.fixed:Bl Ai:=fun _ _ _ _ h a ha => by rw[h.1]at ha;cases ha
theorem Iw.local_:Bi Iw:=fun _ _ _ _ _ h _ => h
theorem Iw.fixed:Bl Iw:=fun _ _ _ _ h a ha => by rw[h.1]at ha;cases ha
abbrev Ag:=rSl 1 Ai
abbrev AO:=rSl 1 Az
abbrev DR:=rSl 1 Iw
theorem Ag.below {w w':World} {fs:List Addr} {v:Value} {ds:List UInt8}(h:Ag w fs v ds)(hb:Below w.heap.size w w'):Ag w' fs v ds:=rSl.below Ai.local_ Ai.fixed h hb
theorem Ag.open_ {w:World} {fs:List Addr} {v:Value} {bs:List UInt8}(h:Ag w fs v bs) :
  ∃A c,v= .slice A bs.length c∧bs.length≤c∧c≤9223372036854775807∧∀k,(hk:k<bs.length)→∃ad,A=some ad∧ad.add k∈fs∧(ad.add k).block <w.heap.size∧w.cell? (ad.add k)=some (.int .u8 (bs[k].toNat:Int)):=by
 obtain⟨A,c,e,h1,h2,h3⟩:=h;refine⟨A,c,e,h1,by omega,fun k hk => ?_⟩;rcases h3 with⟨rfl,_⟩|⟨ad,css,fss,e1,e2,e3,e4,h3⟩
 ·cases hk
 ·obtain⟨q1,q2,q3,q4,q5,q6⟩:=h3 k hk;have q7:=q4 0 (by omega);simp only[q6,aU,Nat.mul_one,bE]at q7;exact⟨ad,e1,by rw[e4];exact aX _ (Bb.2 ⟨k,by omega,rfl⟩),World.block_lt_of_cell? _ _ q7,q7⟩
theorem Ag.close_ {w:World} {ad:Addr} {c:Nat} {bs:List UInt8}(h1:bs.length≤c)(h2:c≤9223372036854775807)(h:∀k,(hk:k<bs.length)→w.cell? (ad.add k)=some (.int .u8 (bs[k].toNat:Int))) :
  Ag w (AV ad bs.length) (.slice (some ad) bs.length c) bs:=by
 refine⟨some ad,c,rfl,h1,by omega,.inr ⟨ad,bs.map fun b => [Be b],bs.map fun _ => [],rfl,by simp,by simp,?_,fun i hi =>⟨by simpa using hi,by simpa using hi,by simp,fun j hj => ?_,?_⟩⟩⟩
 ·have:(bs.map fun _ =>([]:List Addr)).flatten = []:=by simp[List.flatten_eq_nil_iff]
  rw[this];simp
 ·simp at hj;subst hj;simpa [Be]using h i hi
 ·simp[Ai]
theorem Ag.empty {w:World} {A:Option Addr} {c:Nat}(h2:c≤9223372036854775807):Ag w [] (.slice A 0 c) []:=⟨A,c,rfl,Nat.zero_le _,by omega,.inl ⟨rfl,rfl⟩⟩
theorem Cq {a b:Bool}(h:a=b):Ending.returned (.bool a)= .returned (.bool b):=by rw[h]
theorem KJ {k:IntKind} {a b:Int}(h:a=b):Ending.returned (.int k a)= .returned (.int k b):=by rw[h]
theorem MF {a b:UInt8}(h:a≠b):(((a.toNat:Int) !=(b.toNat:Int)):Bool)=true:=by
 rw[bne_iff_ne];intro e;exact h (UInt8.toNat_inj.1 (by omega))
theorem ME {a b:UInt8}(h:a=b):(((a.toNat:Int) !=(b.toNat:Int)):Bool)=false:=by
 subst h;simp
theorem Dc {a b:Nat}(h:a≠b):(((a:Int) !=(b:Int)):Bool)=true:=by rw[bne_iff_ne];omega
theorem Db {a b:Nat}(h:a=b):(((a:Int) !=(b:Int)):Bool)=false:=by subst h;simp
theorem H7 {α:Type} {xs ys:List α} {k:Nat}(h:xs.take k=ys.take k)(h1:k<xs.length)(h2:k<ys.length)(h3:xs[k] =ys[k]):xs.take (k+1)=ys.take (k+1):=by
 rw[aM h1,aM h2,h,h3]
structure Aw (lo:Nat) (w:World) (fs:List Addr):Prop where
 nodup:fs.Nodup
 from_:∀a,a∈fs→lo≤a.block
 free:∀a,a∈fs→w.frozen? a=false
structure AD (fs:List Addr) (w w':World):Prop where
 os:w'.os=w.os
 tape:w'.tape=w.tape
 output:w'.output=w.output
 size:w.heap.size≤w'.heap.size
 cell:∀a:Addr,a∉fs→a.block<w.heap.size→w'.cell? a=w.cell? a
 frozen:∀a:Addr,a.block<w.heap.size→w'.frozen? a=w.frozen? a
 block:∀k,k<w.heap.size→(∀a,a∈fs→a.block≠k)→w'.heap[k]? =w.heap[k]?
theorem AD.refl(fs:List Addr)(w:World):AD fs w w:=⟨rfl,rfl,rfl,aC _,fun _ _ _ => rfl,fun _ _ => rfl,fun _ _ _ => rfl⟩
theorem AD.mono {fs gs:List Addr} {w w':World}(h:AD fs w w')(hs:∀a,a∈fs→a∈gs):AD gs w w' :=
 ⟨h.os,h.tape,h.output,h.size,fun a ha hb => h.cell a (fun hf => ha (hs a hf)) hb,h.frozen,fun k hk hf => h.block k hk fun a ha => hf a (hs a ha)⟩
theorem AD.trans {fs:List Addr} {a b c:World}(h:AD fs a b)(k:AD fs b c):AD fs a c :=
 ⟨k.os.trans h.os,k.tape.trans h.tape,k.output.trans h.output,bL h.size k.size,fun x hx hb =>(k.cell x hx (aE hb h.size)).trans (h.cell x hx hb),
  fun x hb =>(k.frozen x (aE hb h.size)).trans (h.frozen x hb),fun x hx hf =>(k.block x (aE hx h.size) hf).trans (h.block x hx hf)⟩
theorem AD.of_below {fs:List Addr} {w w':World}(h:Below w.heap.size w w'):AD fs w w' :=
 ⟨h.os,h.tape,h.output,h.size,fun _ _ hb => h.cell hb,fun _ hb => h.frozen hb,fun k hk _ => h.block k hk⟩
theorem AD.setCell {fs:List Addr} {a w:World}(h:AD fs a w) {p:Addr}(hp:p∈fs)(u:Value):AD fs a (w.setCell p u) :=
 h.trans ⟨rfl,rfl,rfl,by simp[World.setCell],fun x hx _ => World.cell?_setCell_other w p x u (fun e => hx (by rw[← e];exact hp)),fun x _ => World.frozen?_setCell w p x u,fun k _ hf => Below.heap_setCell w p u k (fun e => hf p hp e.symm)⟩
theorem AD.drewN {fs:List Addr} {a w:World}(h:AD fs a w)(n:Nat):AD fs a (w.drewN n):=⟨h.os,h.tape,h.output,h.size,h.cell,h.frozen,h.block⟩
theorem AD.below {fs:List Addr} {w w':World}(h:AD fs w w') {B:Nat}(hB:B≤w.heap.size)(hf:∀a,a∈fs→B≤a.block):Below B w w' :=
 ⟨h.os,h.tape,h.output,h.size,fun k hk => h.block k (by omega) fun a ha e => by have:=hf a ha;omega⟩
theorem AD.same {fs gs:List Addr} {w w':World}(h:AD fs w w')(ht:CX gs w)(hd:∀a,a∈gs→a∉fs):AQ gs w w':=fun a ha => h.cell a (hd a ha) (ht a ha)
theorem Aw.keep {lo:Nat} {w w':World} {fs:List Addr}(h:Aw lo w fs)(hf:∀a,a∈fs→w'.frozen? a=w.frozen? a):Aw lo w' fs:=⟨h.nodup,h.from_,fun a ha =>(hf a ha).trans (h.free a ha)⟩
theorem Aw.wrote {lo:Nat} {w w':World} {fs gs:List Addr}(h:Aw lo w fs)(hw:AD gs w w')(ht:CX fs w):Aw lo w' fs:=h.keep fun a ha => hw.frozen a (ht a ha)
theorem Aw.mono {lo lo':Nat} {w:World} {fs:List Addr}(h:Aw lo w fs)(hl:lo'≤lo):Aw lo' w fs:=⟨h.nodup,fun a ha => bL hl (h.from_ a ha),h.free⟩
theorem Aw.set_ {lo:Nat} {w:World} {fs:List Addr}(h:Aw lo w fs)(p:Addr)(u:Value):Aw lo (w.setCell p u) fs:=h.keep fun a _ => World.frozen?_setCell w p a u
theorem AQ.set_ {fs:List Addr}(w:World) {p:Addr} {lo:Nat}(hf:∀a,a∈fs→lo≤a.block)(hp:p.block<lo)(u:Value):AQ fs w (w.setCell p u) :=
 fun a ha => World.cell?_setCell_other w p a u fun e => by have:=hf a ha;rw[← e]at this;omega
theorem F1 {ad:Addr} {n i j:Nat}(h:(AV ad n).Nodup)(hi:i<n)(hj:j<n)(e:ad.add i=ad.add j):i=j:=by
 unfold AV at h;rw[List.nodup_iff_pairwise_ne,List.pairwise_iff_getElem]at h;rcases Nat.lt_trichotomy i j with hlt|he|hgt
 ·have:=h i j (by simpa using hi) (by simpa using hj) hlt;simp at this;exact absurd e this
 ·exact he
 ·have:=h j i (by simpa using hj) (by simpa using hi) hgt;simp at this;exact absurd e.symm this
theorem Ag.form {w:World} {fs:List Addr} {v:Value} {bs:List UInt8}(h:Ag w fs v bs) :
  ∃A c,v= .slice A bs.length c∧bs.length≤c∧c≤9223372036854775807∧((bs= []∧fs= [])∨∃ad,A=some ad∧fs=AV ad bs.length∧∀k,(hk:k<bs.length)→w.cell? (ad.add k)=some (.int .u8 (bs[k].toNat:Int))):=by
 obtain⟨A,c,e,h1,h2,h3⟩:=h;refine⟨A,c,e,h1,by omega,?_⟩;rcases h3 with h3|⟨ad,css,fss,e1,e2,e3,e4,h3⟩
 ·exact .inl h3
 ·have hz:fss.flatten= []:=by
   rw[List.flatten_eq_nil_iff];intro f hf;obtain⟨i,hi,rfl⟩:=aY hf;obtain⟨_,_,_,_,q,_⟩:=h3 i (by omega);exact q
  refine .inr ⟨ad,e1,by rw[e4,hz];simp,fun k hk => ?_⟩;obtain⟨q1,q2,q3,q4,q5,q6⟩:=h3 k hk;have q7:=q4 0 (by omega);simp only[q6,aU,Nat.mul_one,bE]at q7;exact q7
theorem Ag.store {w:World} {fs:List Addr} {ad:Addr} {c n:Nat} {bs:List UInt8}(h:Ag w fs (.slice (some ad) n c) bs)(hn:fs.Nodup) {j:Nat}(hj:j<bs.length)(b:UInt8) :
  Ag (w.setCell (ad.add j) (.int .u8 (b.toNat:Int))) fs (.slice (some ad) n c) (bs.set j b):=by
 obtain⟨A,c',e,h1,h2,h3⟩:=Ag.form h;injection e with e1 e2 e3
 subst e2 e3;rcases h3 with⟨rfl,_⟩|⟨ad',q1,q4,h3⟩
 ·simp at hj
 ·rw[← e1]at q1;injection q1 with q1
  subst q1;have:=Ag.close_ (w:=w.setCell (ad.add j) (.int .u8 (b.toNat:Int))) (ad:=ad) (c:=c) (bs:=bs.set j b) (by simpa using h1) h2 (fun k hk => by
   simp only[List.length_set]at hk;by_cases e:j=k
   ·subst e;rw[World.cell?_setCell_same _ _ _ (h3 j hk),List.getElem_set_self]
   ·rw[World.cell?_setCell_other,List.getElem_set_ne e]
    ·exact h3 k hk
    ·intro e';rw[q4]at hn;exact e (F1 hn hj hk e'))
  rw[List.length_set,← q4]at this;exact this
def Blk(w:World)(g:Nat)(t:TypeId)(cs:Array Value):Prop:=w.heap[g]? =some (.cells cs t (0,0))
section
variable {w w':World} {g:Nat} {t:TypeId} {cs:Array Value}
theorem Blk.lt(h:Blk w g t cs):g<w.heap.size:=by
 rcases Nat.lt_or_ge g w.heap.size with hlt|hge
 ·exact hlt
 ·unfold Blk at h;rw[Array.getElem?_eq_none hge]at h;cases h
theorem Blk.cell(h:Blk w g t cs)(i:Nat):w.cell? ⟨g,i,none⟩=cs[i]?:=cell_of_row w g i cs t (0,0) h
theorem Blk.frozen(h:Blk w g t cs)(i:Nat):w.frozen? ⟨g,i,none⟩=false:=by
 unfold Blk at h;simp[World.frozen?,h]
theorem Blk.new(w:World)(t:TypeId)(cs:Array Value):Blk (w.alloc (.cells cs t)) w.heap.size t cs:=heap_alloc_new w _
theorem Blk.drewN(h:Blk w g t cs)(n:Nat):Blk (w.drewN n) g t cs:=h
theorem Blk.alloc(h:Blk w g t cs)(o:Obj):Blk (w.alloc o) g t cs:=(Below.heap_alloc w o g h.lt).trans h
theorem Blk.set_(h:Blk w g t cs)(i:Nat)(u:Value):Blk (w.setCell ⟨g,i,none⟩ u) g t (cs.setIfInBounds i u):=by
 unfold Blk at h⊢;simp[World.setCell,Array.getElem?_modify,h]
theorem Blk.far(h:Blk w g t cs) {p:Addr}(hp:g≠p.block)(u:Value):Blk (w.setCell p u) g t cs:=(Below.heap_setCell w p u g hp).trans h
theorem Blk.below {B:Nat}(h:Blk w g t cs)(hb:Below B w w')(hg:g<B):Blk w' g t cs:=(hb.block g hg).trans h
theorem Blk.grown {row:Option Nat}(h:Blk w g t cs)(hb:w.grownBy w' row)(hg:some g≠row):Blk w' g t cs:=(hb.block g h.lt hg).trans h
end
theorem Blk.new1(w:World)(o:Obj)(t:TypeId)(cs:Array Value):Blk ((w.alloc o).alloc (.cells cs t)) (w.heap.size+1) t cs:=by
 have:=Blk.new (w.alloc o) t cs;rwa [World.size_alloc]at this
theorem Blk.new2(w:World)(o o2:Obj)(t:TypeId)(cs:Array Value):Blk (((w.alloc o).alloc o2).alloc (.cells cs t)) (w.heap.size+1+1) t cs:=by
 have:=Blk.new ((w.alloc o).alloc o2) t cs;rwa [World.size_alloc,World.size_alloc]at this
theorem Blk.at_ {w:World} {g:Nat} {t:TypeId} {cs:Array Value}(h:Blk w g t cs)(i:Nat) {v:Value}(hv:cs[i]? =some v):w.cell? ⟨g,i,none⟩=some v:=(h.cell i).trans hv
theorem Cs(g k:Nat):(⟨g,0,none⟩:Addr).add k=⟨g,k,none⟩:=by unfold Addr.add;split <;> simp_all
def EU(vs:List Value)(z:Value)(j:Nat):Array Value:=(vs.take j ++ List.replicate (vs.length - j) z).toArray
theorem O2(vs:List Value)(z:Value)(j:Nat):(EU vs z j).size =vs.length:=by simp[EU];omega
theorem O5(vs:List Value)(z:Value)(n:Nat)(h:n=vs.length):madeCells #[z] n=EU vs z 0:=by
 subst h;apply Array.toList_inj.1
 rw[toList_madeCells_one];simp[EU]
theorem O4 {vs:List Value} {z:Value} {j:Nat}(h:j<vs.length):(EU vs z j).setIfInBounds j vs[j] =EU vs z (j+1):=by
 apply Array.toList_inj.1
 rw[Array.toList_setIfInBounds];unfold EU;apply bP
 ·simp;omega
 ·intro i h1 h2;simp only[List.getElem_set,List.getElem_append,aQ,List.getElem_take,List.getElem_replicate];by_cases e:j=i
  ·subst e;simp;omega
  ·rw[aI e];by_cases h:i<j
   ·rw[dif_pos (by omega),dif_pos (by omega)]
   ·rw[dif_neg (by omega),dif_neg (by omega)]
theorem O1(vs:List Value)(z:Value):EU vs z vs.length=vs.toArray:=by simp[EU]
theorem Ql(vs:List Value)(z:Value)(j:Nat)(i:Nat)(h:i<vs.length):∃u,(EU vs z j)[i]? =some u:=by
 have:i<(EU vs z j).size:=by rw[O2];exact h
 exact⟨_,Array.getElem?_eq_getElem this⟩
theorem Ag.of_blk {w:World} {g:Nat} {T:TypeId} {bs:List UInt8}(h:Blk w g T (bs.map Be).toArray)(hs:bs.length≤1000000000000) :
  Ag w (AV ⟨g,0,none⟩ bs.length) (.slice (some ⟨g,0,none⟩) bs.length bs.length) bs :=
 Ag.close_ (aC _) (by omega) fun k hk => by
  rw[Cs,h.cell];simp[Be,hk]
def Fr(k:Nat):UInt8:=UInt8.ofNat k
def BC(k n:Nat):List UInt8:=(List.range n).map fun i => Fr (k+i)
theorem BN(k n:Nat):(BC k n).length =n:=by simp[BC]
theorem Hh(k n i:Nat)(h:i<(BC k n).length):(BC k n)[i] =Fr (k+i):=by simp[BC]
theorem Nj(k:Nat):(Fr k).toNat =k % 256:=by simp[Fr]
theorem Hg {α:Type} {k:Nat}:∀(css:List (List α)),(∀c,c∈css→c.length=k)→css.flatten.length=css.length * k
 | [],_ => by simp
 |c :: r,h => by
  rw[List.flatten_cons,bC,h c (by simp),Hg r (fun x hx => h x (by simp[hx])),List.length_cons,Nat.add_mul,Nat.one_mul,Nat.add_comm]
theorem DM {α:Type} {k:Nat}:∀(css:List (List α)),(∀c,c∈css→c.length=k)→∀(i j:Nat) (h:i<css.length),j<k→css.flatten[i * k+j]? =css[i][j]?
 | [],_,_,_,h,_ => by cases h
 |c :: r,h,0,j,_,hj => by
  have:=h c (by simp);simp only[Nat.zero_mul,Nat.zero_add,List.flatten_cons,aU];rw[List.getElem?_append_left (by omega)]
 |c :: r,h,i+1,j,hi,hj => by
  have hc:=h c (by simp);have:=DM r (fun x hx => h x (by simp[hx])) i j (by simpa using hi) hj;simp only[List.flatten_cons,bM];rw[List.getElem?_append_right (by rw[hc,Nat.add_mul];omega),hc,← this];congr 1
  rw[Nat.add_mul];omega
theorem I0 {α:Type} {k:Nat}:∀(css:List (List α)),(∀c,c∈css→c.length=k)→∀i,i≤css.length→css.flatten.take (i * k)=(css.take i).flatten
 | [],_,i,hi => by simp at hi;subst hi;simp
 |c :: r,h,0,_ => by simp
 |c :: r,h,i+1,hi => by
  have hc:=h c (by simp);rw[List.flatten_cons,List.take_succ_cons,List.flatten_cons,← I0 r (fun x hx => h x (by simp[hx])) i (by simpa using hi),show(i+1) * k=c.length+i * k from by rw[hc,Nat.add_mul];omega,List.take_length_add_append]
theorem IZ {α:Type} {k:Nat}:∀(css:List (List α)),(∀c,c∈css→c.length=k)→∀i,i≤css.length→css.flatten.drop (i * k)=(css.drop i).flatten
 | [],_,i,hi => by simp
 |c :: r,h,0,_ => by simp
 |c :: r,h,i+1,hi => by
  have hc:=h c (by simp);rw[List.flatten_cons,List.drop_succ_cons,← IZ r (fun x hx => h x (by simp[hx])) i (by simpa using hi),show(i+1) * k=c.length+i * k from by rw[hc,Nat.add_mul];omega,List.drop_length_add_append]
def Aj {α:Type}(k:Nat)(E:TypeId)(R:AB α)(w:World)(base:Nat)(v:Value)(ds:List α)(fs:List Addr):Prop :=
 ∃(css:List (List Value)) (fss:List (List Addr)),css.length=ds.length∧fss.length=ds.length∧fs=fss.flatten∧w.ownsRow base E k v ds.length css.flatten∧
  (∀i,(h:i<ds.length)→∃(h1:i<css.length) (h2:i<fss.length),css[i].length =k∧R w fss[i] css[i] ds[i])∧(∀a,a∈fs→v.ownBlock≠some a.block)
theorem Aj.cells {α:Type} {k:Nat} {E:TypeId} {R:AB α} {w:World} {base:Nat} {v:Value} {ds:List α} {fs:List Addr}(h:Aj k E R w base v ds fs):∃xs,w.ownsRow base E k v ds.length xs:=by
 obtain⟨css,_,_,_,_,h4,_⟩:=h;exact⟨_,h4⟩
theorem Hm {w:World} {base:Nat} {E:TypeId} {k:Nat} {v:Value} {n:Nat} {xs ys:List Value}(h:w.ownsRow base E k v n xs)(h2:w.ownsRow base E k v n ys):xs=ys:=by
 obtain⟨l1,t1⟩:=h;obtain⟨l2,t2⟩:=h2;rcases t1 with⟨rfl,h0⟩|⟨g1,cap,cur,rfl,hb1,hg1,_,_,_,ht1⟩
 ·rw[h0,Nat.zero_mul]at l1 l2;rw[bT l1,bT l2]
 ·rcases t2 with⟨e,_⟩|⟨g2,cap2,cur2,e,hb2,hg2,_,_,_,ht2⟩
  ·cases e
  ·injection e with ea eb ec
   injection ea with ea
   injection ea with ea
   subst ea;rw[hg1]at hg2;injection hg2 with hg2
   injection hg2 with hg2
   subst hg2;rw[← ht1,← ht2]
section
variable {α:Type} {k:Nat} {E:TypeId} {R:AB α} {w w':World} {base:Nat} {v:Value} {ds:List α} {fs:List Addr}
theorem Aj.start(h:w.ownsRow base E k v 0 []):Aj k E R w base v [] []:=⟨[],[],rfl,rfl,rfl,h,(fun _ h => by cases h),(fun _ h => by cases h)⟩
theorem Aj.mono {base':Nat}(h:Aj k E R w base v ds fs)(hb:base'≤base):Aj k E R w base' v ds fs:=by
 obtain⟨css,fss,h1,h2,h3,⟨hl,h4⟩,h5,h6⟩:=h;refine⟨css,fss,h1,h2,h3,⟨hl,?_⟩,h5,h6⟩;rcases h4 with h|⟨g,cap,cur,hv,hbb,h⟩
 ·exact .inl h
 ·exact .inr ⟨g,cap,cur,hv,bL hb hbb,h⟩
theorem Aj.lt(h:Aj k E R w base v ds fs):∀b,v.ownBlock=some b→base≤b∧b<w.heap.size:=by
 obtain⟨_,_,_,_,_,h4,_,_⟩:=h;exact fun b hb => h4.lt b hb
theorem Aj.there(hF:Bl R)(h:Aj k E R w base v ds fs):CX fs w:=by
 obtain⟨css,fss,h1,h2,rfl,h4,h5,h6⟩:=h;intro a ha;obtain⟨f,hf,hm⟩:=List.mem_flatten.1 ha;obtain⟨i,hi,rfl⟩:=aY hf;obtain⟨p1,p2,p3,p4⟩:=h5 i (by omega);exact hF _ _ _ _ p4 a hm
theorem Aj.keep(hR:Bi R)(h:Aj k E R w base v ds fs)(hb:∀b,v.ownBlock=some b→w'.heap[b]? =w.heap[b]?)(hs:AQ fs w w'):Aj k E R w' base v ds fs:=by
 obtain⟨css,fss,h1,h2,rfl,h4,h5,h6⟩:=h;refine⟨css,fss,h1,h2,rfl,⟨h4.1,?_⟩,fun i hi => ?_,h6⟩
 ·rcases h4.2 with h|⟨g,cap,cur,hv,hbb,hg,h3⟩
  ·exact .inl h
  ·exact .inr ⟨g,cap,cur,hv,hbb,(hb g (by rw[hv];rfl)).trans hg,h3⟩
 ·obtain⟨p1,p2,p3,p4⟩:=h5 i hi;exact⟨p1,p2,p3,hR _ _ _ _ _ p4 (hs.mem (aN p2))⟩
theorem Aj.below(hR:Bi R)(hF:Bl R)(h:Aj k E R w base v ds fs)(hb:Below w.heap.size w w'):Aj k E R w' base v ds fs :=
 h.keep hR (fun b hv => hb.block b (h.lt b hv).2) (AQ.of_below (h.there hF) hb)
theorem Aj.wrote(hR:Bi R)(hF:Bl R)(h:Aj k E R w base v ds fs) {gs:List Addr}(hw:AD gs w w')(h1:∀a,a∈gs→v.ownBlock≠some a.block)(h2:∀a,a∈fs→a∉gs):Aj k E R w' base v ds fs :=
 h.keep hR (fun b hv => hw.block b (h.lt b hv).2 fun a ha e => h1 a ha (by rw[hv,e])) (hw.same (h.there hF) h2)
theorem Aj.length(h:Aj k E R w base v ds fs):∃A c,v= .slice A ds.length c∧ds.length≤c∧c≤9223372036854775807:=by
 obtain⟨css,fss,h1,h2,rfl,h4,h5,h6⟩:=h;rcases h4.2 with⟨rfl,h⟩|⟨g,cap,cur,rfl,hb,hg,hnc,hcm,hcs,htake⟩
 ·exact⟨none,0,by rw[h],by omega,by omega⟩
 ·unfold maxLen at hcm;exact⟨_,_,rfl,hnc,by omega⟩
theorem Aj.far(h:Aj k E R w base v ds fs):∀a,a∈fs→v.ownBlock≠some a.block:=by
 obtain⟨_,_,_,_,_,_,_,h6⟩:=h;exact h6
theorem Aj.ones(hO:∀w f cs d,R w f cs d→∀u,u∈cs→u.oneCell'=true)(h:Aj k E R w base v ds fs) {xs:List Value}(hx:w.ownsRow base E k v ds.length xs):∀u,u∈xs→u.oneCell'=true:=by
 obtain⟨css,fss,h1,h2,h3,h4,h5,h6⟩:=h;intro u hu;rw[Hm hx h4]at hu;obtain⟨c,hc,huc⟩:=List.mem_flatten.1 hu;obtain⟨i,hi,rfl⟩:=aY hc;obtain⟨_,_,_,p4⟩:=h5 i (by omega);exact hO _ _ _ _ p4 u huc
theorem Aj.reads(h:Aj k E R w base v ds fs):∃gs,rSl k R w (gs ++ fs) v ds∧gs.Nodup∧(∀a,a∈gs→v.ownBlock=some a.block)∧(∀a,a∈gs→w.frozen? a=false)∧(∀a,a∈gs→base≤a.block)∧(∀a,a∈fs→v.ownBlock≠some a.block):=by
 have hlt:=h.lt;obtain⟨css,fss,h1,h2,rfl,⟨hl,h4⟩,h5,h6⟩:=h;have hw:∀c,c∈css→c.length=k:=by
  intro c hc;obtain⟨i,hi,rfl⟩:=aY hc;obtain⟨_,_,p3,_⟩:=h5 i (by omega);exact p3
 rcases h4 with⟨rfl,h0⟩|⟨g,cap,cur,rfl,hb,hg,hnc,hcm,hcs,htake⟩
 ·have:ds= []:=bT h0;subst this;have:fss= []:=bT h2;subst this;exact⟨[],⟨none,0,rfl,aC _,by omega,.inl ⟨rfl,rfl⟩⟩,List.nodup_nil,(fun _ h => by cases h),(fun _ h => by cases h),(fun _ h => by cases h),h6⟩
 ·simp only[maxLen]at hcm;refine⟨AV ⟨g,0,none⟩ (ds.length * k),⟨some ⟨g,0,none⟩,cap,rfl,hnc,by omega,.inr ⟨⟨g,0,none⟩,css,fss,rfl,h1,h2,rfl,fun i hi => ?_⟩⟩,DO rfl,fun a ha => ?_,fun a ha => ?_,fun a ha => ?_,h6⟩
  ·obtain⟨p1,p2,p3,p4⟩:=h5 i hi;refine⟨p1,p2,p3,fun j hj => ?_,p4⟩;rw[Cs,cell_of_row w g _ cur E (0,0) hg];have hq:i * k+j<ds.length * k:=by
    rw[p3]at hj;calc i * k+j<i * k+k:=by omega
     _=(i+1) * k:=by rw[Nat.add_mul];omega
     _≤ds.length * k:=Nat.mul_le_mul_right _ hi
   have h3:(cur.toList.take (ds.length * k))[i * k+j]? =some css[i][j]:=by
    rw[htake,DM css hw i j p1 (by omega)];exact aO hj
   rw[List.getElem?_take,aL hq]at h3;simpa using h3
  ·obtain⟨q,_,rfl⟩:=Bb.1 ha;rw[Cs];rfl
  ·obtain⟨q,_,rfl⟩:=Bb.1 ha;rw[Cs];exact frozen_of_row w g q cur E hg
  ·obtain⟨q,_,rfl⟩:=Bb.1 ha;rw[Cs];exact hb
theorem Aj.readsMine(h:Aj k E R w base v ds fs)(hm:Aw base w fs):∃gs,rSl k R w gs v ds∧Aw base w gs:=by
 obtain⟨gs,h1,h2,h3,h4,h5,h6⟩:=h.reads;refine⟨gs ++ fs,h1,?_,fun a ha => ?_,fun a ha => ?_⟩
 ·unfold List.Nodup;refine List.pairwise_append.2 ⟨h2,hm.nodup,fun a ha b hb e => ?_⟩;subst e;exact h6 a hb (h3 a ha)
 ·rcases List.mem_append.1 ha with ha|ha
  ·exact h5 a ha
  ·exact hm.from_ a ha
 ·rcases List.mem_append.1 ha with ha|ha
  ·exact h4 a ha
  ·exact hm.free a ha
theorem Aj.insert(hR:Bi R)(hF:Bl R)(h:Aj k E R w base v ds fs) {i:Nat}(hi:i≤ds.length) {us:List Value} {f:List Addr} {d:α} {v':Value}
  {xs:List Value} (hx:w.ownsRow base E k v ds.length xs) (hw:w'.ownsRow base E k v' (ds.length+1) (xs.take (i * k) ++ us ++ xs.drop (i * k)))
  (hus:us.length=k) (hg:w.grownBy w' v.ownBlock) (hv:v'.ownBlock=v.ownBlock∨v'.ownBlock=some w.heap.size) (hr:R w f us d) (hfd:∀a,a∈f→v.ownBlock≠some a.block) :
  ∃fs',Aj k E R w' base v' (ds.take i ++ d :: ds.drop i) fs'∧fs'.Perm (fs ++ f):=by
 have hthere:=h.there hF;obtain⟨css,fss,h1,h2,rfl,h4,h5,h6⟩:=h;have hwd:∀c,c∈css→c.length=k:=by
  intro c hc;obtain⟨i,hi,rfl⟩:=aY hc;obtain⟨_,_,p3,_⟩:=h5 i (by omega);exact p3
 have hft:=hF _ _ _ _ hr;have hcell:∀b:Addr,b.block<w.heap.size→v.ownBlock≠some b.block→w'.cell? b=w.cell? b:=fun b hb hne => hg.cell_far b hb (fun e => hne e.symm)
 have hxl:(ds.take i ++ d :: ds.drop i).length =ds.length+1:=by simp;omega
 refine⟨(fss.take i ++ f :: fss.drop i).flatten,⟨css.take i ++ us :: css.drop i,fss.take i ++ f :: fss.drop i,by simp;omega,by simp;omega,rfl,?_,fun q hq => ?_,fun b hb => ?_⟩,?_⟩
 ·rw[hxl];rw[Hm hx h4,I0 css hwd i (by omega),IZ css hwd i (by omega)]at hw;simpa [List.append_assoc]using hw
 ·have hgo:∀q',(hq':q'<ds.length)→∃(h1:q'<css.length) (h2:q'<fss.length),css[q'].length =k∧R w' fss[q'] css[q'] ds[q']:=by
   intro q' hq';obtain⟨p1,p2,p3,p4⟩:=h5 q' hq';refine⟨p1,p2,p3,hR _ _ _ _ _ p4 fun b hb => ?_⟩;have hbf:=List.mem_flatten.2 ⟨_,aN p2,hb⟩;exact hcell b (hthere b hbf) (h6 b hbf)
  rcases Nat.lt_trichotomy q i with hlt|he|hgt
  ·obtain⟨p1,p2,p3,p4⟩:=hgo q (by omega);refine⟨by simp;omega,by simp;omega,?_⟩;have e1:(css.take i ++ us :: css.drop i)[q]'(by simp;omega)=css[q]:=by rw[List.getElem_append_left (by simp;omega)];simp
   have e2:(fss.take i ++ f :: fss.drop i)[q]'(by simp;omega)=fss[q]:=by rw[List.getElem_append_left (by simp;omega)];simp
   have e3:(ds.take i ++ d :: ds.drop i)[q]'hq=ds[q]'(by omega):=by rw[List.getElem_append_left (by simp;omega)];simp
   rw[e1,e2,e3];exact⟨p3,p4⟩
  ·subst he;refine⟨by simp;omega,by simp;omega,?_⟩;have e1:(css.take q ++ us :: css.drop q)[q]'(by simp;omega)=us:=by rw[List.getElem_append_right (by simp;omega)];simp[Nat.min_eq_left (show q≤css.length by omega)]
   have e2:(fss.take q ++ f :: fss.drop q)[q]'(by simp;omega)=f:=by rw[List.getElem_append_right (by simp;omega)];simp[Nat.min_eq_left (show q≤fss.length by omega)]
   have e3:(ds.take q ++ d :: ds.drop q)[q]'hq=d:=by rw[List.getElem_append_right (by simp;omega)];simp[Nat.min_eq_left hi]
   rw[e1,e2,e3];exact⟨hus,hR _ _ _ _ _ hr fun b hb => hcell b (hft b hb) (hfd b hb)⟩
  ·obtain⟨q',rfl⟩:∃q',q=q'+1:=⟨q - 1,by omega⟩;rw[hxl]at hq;obtain⟨p1,p2,p3,p4⟩:=hgo q' (by omega);refine⟨by simp;omega,by simp;omega,?_⟩;have e1:(css.take i ++ us :: css.drop i)[q'+1]'(by simp;omega)=css[q']:=by
    rw[List.getElem_append_right (by simp;omega),List.getElem_cons];simp only[aQ,Nat.min_eq_left (show i≤css.length by omega),List.getElem_drop];rw[dif_neg (by omega)];congr 1;omega
   have e2:(fss.take i ++ f :: fss.drop i)[q'+1]'(by simp;omega)=fss[q']:=by
    rw[List.getElem_append_right (by simp;omega),List.getElem_cons];simp only[aQ,Nat.min_eq_left (show i≤fss.length by omega),List.getElem_drop];rw[dif_neg (by omega)];congr 1;omega
   have e3:(ds.take i ++ d :: ds.drop i)[q'+1]'(by simp;omega)=ds[q']'(by omega):=by
    rw[List.getElem_append_right (by simp;omega),List.getElem_cons];simp only[aQ,Nat.min_eq_left hi,List.getElem_drop];rw[dif_neg (by omega)];congr 1;omega
   rw[e1,e2,e3];exact⟨p3,p4⟩
 ·have hb':b∈fss.flatten∨b∈f:=by
   obtain⟨l,hl,hbl⟩:=List.mem_flatten.1 hb;rcases List.mem_append.1 hl with hl|hl
   ·exact .inl (List.mem_flatten.2 ⟨l,List.mem_of_mem_take hl,hbl⟩)
   ·rcases List.mem_cons.1 hl with rfl|hl
    ·exact .inr hbl
    ·exact .inl (List.mem_flatten.2 ⟨l,List.mem_of_mem_drop hl,hbl⟩)
  have hbs:b.block<w.heap.size:=hb'.elim (hthere b) (hft b);have hbn:v.ownBlock≠some b.block:=hb'.elim (h6 b) (hfd b);rcases hv with e|e
  ·rw[e];exact hbn
  ·rw[e];intro e2;injection e2 with e2;omega
 ·have:(fss.take i ++ f :: fss.drop i).Perm (fss ++ [f]):=by
   have h0:(fss ++ [f])=fss.take i ++(fss.drop i ++ [f]):=by rw[← List.append_assoc,List.take_append_drop]
   rw[h0];exact List.Perm.append_left _ (List.perm_append_comm (l₁:=[f]) (l₂:=fss.drop i))
  have:=this.flatten;simpa using this
end
section
variable {α:Type} {k:Nat} {E:TypeId} {R:AB α} {w w':World} {base:Nat} {v:Value} {ds:List α} {fs:List Addr}
theorem Aj.extend(hR:Bi R)(hF:Bl R)(h:Aj k E R w base v ds fs) {ds2:List α} {css2:List (List Value)} {fss2:List (List Addr)} {v':Value} {xs:List Value}(hx:w.ownsRow base E k v ds.length xs)
  (hw:w'.ownsRow base E k v' (ds.length+ds2.length) (xs ++ css2.flatten)) (hc:css2.length=ds2.length) (hf:fss2.length=ds2.length) (hg:w.grownBy w' v.ownBlock) (hv:v'.ownBlock=v.ownBlock∨v'.ownBlock=some w.heap.size)
  (hr:∀i,(h:i<ds2.length)→∃(h1:i<css2.length) (h2:i<fss2.length),css2[i].length =k∧R w fss2[i] css2[i] ds2[i]) (hfd:∀a,a∈fss2.flatten→v.ownBlock≠some a.block) :
  Aj k E R w' base v' (ds ++ ds2) (fs ++ fss2.flatten):=by
 have hthere:=h.there hF;obtain⟨css,fss,h1,h2,rfl,h4,h5,h6⟩:=h;have ht2:∀a,a∈fss2.flatten→a.block<w.heap.size:=by
  intro a ha;obtain⟨f,hf2,hm⟩:=List.mem_flatten.1 ha;obtain⟨i,hi,rfl⟩:=aY hf2;obtain⟨p1,p2,p3,p4⟩:=hr i (by omega);exact hF _ _ _ _ p4 a hm
 have hcell:∀b:Addr,b.block<w.heap.size→v.ownBlock≠some b.block→w'.cell? b=w.cell? b:=fun b hb hne => hg.cell_far b hb (fun e => hne e.symm)
 refine⟨css ++ css2,fss ++ fss2,by simp[h1,hc],by simp[h2,hf],by simp,?_,fun q hq => ?_,fun b hb => ?_⟩
 ·rw[bC,List.flatten_append,← Hm hx h4];exact hw
 ·rcases Nat.lt_or_ge q ds.length with hlt|hge
  ·obtain⟨p1,p2,p3,p4⟩:=h5 q hlt;refine⟨by simp;omega,by simp;omega,?_⟩;rw[List.getElem_append_left p1,List.getElem_append_left p2,List.getElem_append_left hlt];refine⟨p3,hR _ _ _ _ _ p4 fun b hb => ?_⟩;have hbf:=List.mem_flatten.2 ⟨_,aN p2,hb⟩;exact hcell b (hthere b hbf) (h6 b hbf)
  ·rw[bC]at hq;obtain⟨p1,p2,p3,p4⟩:=hr (q - ds.length) (by omega);refine⟨by simp;omega,by simp;omega,?_⟩;have e1:(css ++ css2)[q]'(by simp;omega)=css2[q - ds.length]:=by rw[List.getElem_append_right (by omega)];simp only[h1]
   have e2:(fss ++ fss2)[q]'(by simp;omega)=fss2[q - ds.length]:=by rw[List.getElem_append_right (by omega)];simp only[h2]
   have e3:(ds ++ ds2)[q]'(by simp;omega)=ds2[q - ds.length]'(by omega):=by rw[List.getElem_append_right (by omega)]
   rw[e1,e2,e3];refine⟨p3,hR _ _ _ _ _ p4 fun b hb => ?_⟩;have hbf:=List.mem_flatten.2 ⟨_,aN p2,hb⟩;exact hcell b (ht2 b hbf) (hfd b hbf)
 ·have hbs:b.block<w.heap.size∧v.ownBlock≠some b.block:=(List.mem_append.1 hb).elim (fun h =>⟨hthere b h,h6 b h⟩) (fun h =>⟨ht2 b h,hfd b h⟩);rcases hv with e|e
  ·rw[e];exact hbs.2
  ·rw[e];intro e2;injection e2 with e2;have:=hbs.1;omega
end
theorem KQ {P:Program}(w:World)(base:Nat)(t ty e:TypeId)(i:TypeInfo)(size:Nat)(ht:P.underlying t=some (.slice e))(hi:P.info? e=some i)(v:Value)(n:Nat)(xs:List Value)(hown:w.ownsRow base e size v n xs)(c:Nat) :
  (Builtin.append_ #[t,t] ty #[v,.slice none 0 c]).run P w= .ok v w:=by
 rcases hown.2 with⟨rfl,rfl⟩|⟨g,cap,cur,rfl,hb,hg,hnc,hcm,hcs,htake⟩
 ·simp[Builtin.append_,run_underlying ht,sizeOf,typeInfo,hi,Builtin.lenOf,Builtin.firstCells]
 ·have h1:(n:Int)+0≤(cap:Int):=by omega
  simp[Builtin.append_,run_underlying ht,sizeOf,typeInfo,hi,Builtin.lenOf,Builtin.firstCells,hnc,storeCells]
def FB {α:Type}(k:Nat)(E:TypeId)(R:AB α)(base:Nat)(w:World)(ob:Option Nat)(ds:List α)(fs gs:List Addr)(v':Value)(w':World):Prop :=
 ∃hs,Aj k E R w' base v' ds (fs ++ hs)∧hs.Sublist gs∧w.grownBy w' ob∧(v'.ownBlock=ob∨v'.ownBlock=some w.heap.size)
theorem Aj.appendRun {α:Type} {k:Nat} {E:TypeId} {R:AB α} {P:Program} {w:World}(t ty:TypeId)(z:Value)(bytes:Nat)(ht:P.underlying t=some (.slice E))(hi:(P.info? E).map (fun i =>(i.zero,i.size,i.bytes))=some (some z,k,bytes))(hzs:z.cells.size=k)(hk:0<k)
  (hR:Bi R) (hF:Bl R) (hO:∀w f cs d,R w f cs d→∀u,u∈cs→u.oneCell'=true) (base:Nat) (v:Value) (ds:List α) (fs:List Addr) (hown:Aj k E R w base v ds fs) (u:Value) (ds2:List α) (gs:List Addr) (hsrc:rSl k R w gs u ds2) (hfd:∀a,a∈gs→v.ownBlock≠some a.block)
  (hn:ds.length+ds2.length≤1000000000) (hb:bytes≤1000) (hbase:base≤w.heap.size) :
  ∃v' w',(Builtin.append_ #[t,t] ty #[v,u]).run P w= .ok v' w'∧FB k E R base w v.ownBlock (ds ++ ds2) fs gs v' w':=by
 obtain⟨i,hi0,hz0,hz1,hz2⟩:=info_parts hi;obtain⟨xs,hxs⟩:=hown.cells;have hbb:(ds.length+ds2.length) * bytes≤140737488355328:=bL (Nat.mul_le_mul hn hb) (by omega);obtain⟨A,c,rfl,hc1,hc2,hs⟩:=hsrc;have main:∀(ad:Addr) (css:List (List Value)) (fss:List (List Addr)),css.length=ds2.length→fss.length=ds2.length→(∀a,a∈fss.flatten→a∈gs)→fss.flatten.Sublist gs→
   (∀i,(h:i<ds2.length)→∃(h1:i<css.length) (h2:i<fss.length),css[i].length =k∧(∀j,(hj:j<css[i].length)→w.cell? (ad.add (i * k+j))=some css[i][j])∧R w fss[i] css[i] ds2[i])→
   ∃v' w',(Builtin.append_ #[t,t] ty #[v,.slice (some ad) ds2.length c]).run P w= .ok v' w'∧FB k E R base w v.ownBlock (ds ++ ds2) fs gs v' w':=by
  intro ad css fss h1 h2 h3 h4 h5;have hw:∀c,c∈css→c.length=k:=by
   intro c hc;obtain⟨i,hi,rfl⟩:=aY hc;obtain⟨_,_,p3,_⟩:=h5 i (by omega);exact p3
  obtain⟨v',w',q1,q2,q3,q4,q5⟩:=run_append_own_at (P:=P) w base t ty E i z k bytes ht hi0 hz0 hz1 hz2 hzs hk v ds.length xs hxs ad ds2.length c css.flatten (by rw[Hg css hw,h1]) (fun j x hj => by
    have hlt:j<ds2.length * k:=by
     have:=(List.getElem?_eq_some_iff.1 hj).1;rw[Hg css hw,h1]at this;exact this
    have hi2:j / k<ds2.length:=by rw[Nat.div_lt_iff_lt_mul hk];exact hlt
    obtain⟨p1,p2,p3,p4,p5⟩:=h5 (j / k) hi2;have hm:j % k<k:=Nat.mod_lt _ hk;have e:j / k * k+j % k=j:=by rw[Nat.mul_comm];exact Nat.div_add_mod j k
    have:=DM css hw (j / k) (j % k) p1 hm;rw[e,hj,aO (by omega)]at this;injection this with this
    rw[this,← p4 (j % k) (by omega),e]) (fun x hx => by
    obtain⟨cc,hcc,hxc⟩:=List.mem_flatten.1 hx;obtain⟨q,hq,rfl⟩:=aY hcc;obtain⟨_,_,_,_,p5⟩:=h5 q (by omega);exact hO _ _ _ _ p5 x hxc) (by simp only[maxLen];omega) hbb hbase
  exact⟨v',w',q1,fss.flatten,Aj.extend hR hF hown hxs q2 h1 h2 q3 q5 (fun i hi => by obtain⟨p1,p2,p3,p4,p5⟩:=h5 i hi;exact⟨p1,p2,p3,p5⟩) (fun a ha => hfd a (h3 a ha)),h4,q3,q5⟩
 rcases hs with⟨rfl,rfl⟩|⟨ad,css,fss,rfl,h1,h2,rfl,h5⟩
 ·cases A with
  |none => exact⟨v,w,KQ w base t ty E i k ht hi0 v ds.length xs hxs c,[],by simpa using hown,List.Sublist.refl _,⟨rfl,rfl,rfl,aC _,fun _ _ _ => rfl⟩,.inl rfl⟩
  |some ad => exact main ad [] [] rfl rfl (fun a ha => by cases ha) (List.Sublist.refl _) (fun i hi => by cases hi)
 ·exact main ad css fss h1 h2 (fun a ha => aT _ ha) (List.sublist_append_right _ _) h5
theorem Ar {P:Program} {w:World} {ops:Array Oper} {rest:List Oper} {o:Oper} {a:Act} {Q:Exit→Act→World→Prop} {S:Value→World→Prop}(hgd:o.guard=none)(s x:Operand)(t:TypeId)
  (ho:o.op= .call { callee:=.builtin .append,args:=#[s,x],argTypes:=#[t,t] }) (v u:Value) (hs:a.eval s=v) (hx:a.eval x=u) (hr:∃v' w',(Builtin.append_ #[t,t] o.type #[v,u]).run P w= .ok v' w'∧S v' w')
  (h:∀v' w',S v' w'→wpList P ops Q rest (a.put o.dst v') w'):wpList P ops Q (o :: rest) a w:=by
 obtain⟨v',w',h1,h2⟩:=hr;refine wpList_plain hgd fun K hK => ?_
 unfold Oper.wp execOp;simp only[ho,resolve,invoke,builtin,Sem.run_bind,Sem.run_pure,Result.andThen_ok,List.map_toArray,List.map_cons,List.map_nil,hs,hx,h1];exact hK _ _ (h v' w' h2)
theorem AR {P:Program} {w:World} {ops:Array Oper} {o:Oper} {a:Act} {K:Act→World→Prop} {Q:Exit→Act→World→Prop} {E:Prop} {S:Value→World→Prop}(hgd:o.guard=none)(s x:Operand)(t:TypeId)
  (ho:o.op= .call { callee:=.builtin .append,args:=#[s,x],argTypes:=#[t,t] }) (v u:Value) (hs:a.eval s=v) (hx:a.eval x=u) (hr:∃v' w',(Builtin.append_ #[t,t] o.type #[v,u]).run P w= .ok v' w'∧S v' w')
  (h:∀v' w',S v' w'→K (a.put o.dst v') w'):if Region.wanted o (yielded ops a.tmps)=true then Oper.wp P o a w K Q else E:=by
 have hw:Region.wanted o (yielded ops a.tmps)=true:=by simp[Region.wanted,hgd]
 rw[aL hw];obtain⟨v',w',h1,h2⟩:=hr;unfold Oper.wp execOp;simp only[ho,resolve,invoke,builtin,Sem.run_bind,Sem.run_pure,Result.andThen_ok,List.map_toArray,List.map_cons,List.map_nil,hs,hx,h1];exact h v' w' h2
theorem Aj.appendOne {α:Type} {k:Nat} {E:TypeId} {R:AB α} {P:Program} {w:World}(t ty:TypeId)(z:Value)(bytes:Nat)(ht:P.underlying t=some (.slice E))(hi:(P.info? E).map (fun i =>(i.zero,i.size,i.bytes))=some (some z,k,bytes))(hzs:z.cells.size=k)(hk:0<k)
  (hR:Bi R) (hF:Bl R) (hO:∀w f cs d,R w f cs d→∀u,u∈cs→u.oneCell'=true) (base:Nat) (v:Value) (ds:List α) (fs:List Addr) (hown:Aj k E R w base v ds fs) (g:Nat) (us:List Value) (f:List Addr) (d:α) (hus:us.length=k) (hblk:Blk w g E us.toArray) (hr:R w f us d) (hfd:∀a,a∈f→v.ownBlock≠some a.block)
  (hn:ds.length+1≤1000000000) (hb:bytes≤1000) (hbase:base≤w.heap.size) :
  ∃v' w',(Builtin.append_ #[t,t] ty #[v,.slice (some ⟨g,0,none⟩) 1 1]).run P w= .ok v' w'∧FB k E R base w v.ownBlock (ds ++ [d]) fs f v' w':=by
 obtain⟨i,hi0,hz0,hz1,hz2⟩:=info_parts hi;obtain⟨xs,hxs⟩:=hown.cells;have hbb:(ds.length+1) * bytes≤140737488355328:=bL (Nat.mul_le_mul hn hb) (by omega);obtain⟨v',w',q1,q2,q3,q4,q5⟩:=run_append_own_at (P:=P) w base t ty E i z k bytes ht hi0 hz0 hz1 hz2 hzs hk v ds.length xs hxs ⟨g,0,none⟩ 1 1 us (by omega) (fun j u hu => by rw[Cs,hblk.cell];simpa using hu) (hO _ _ _ _ hr) (by simp only[maxLen];omega) hbb hbase;have:=Aj.extend (ds2:=[d]) (css2:=[us]) (fss2:=[f]) (v':=v') (w':=w') hR hF hown hxs (by simpa using q2) rfl rfl q3 q5 (fun i hi => by
  have:i=0:=by simpa using hi
  subst this;exact⟨by simp,by simp,hus,hr⟩) (fun a ha => hfd a (by simpa using ha))
 exact⟨v',w',q1,f,by simpa using this,List.Sublist.refl _,q3,q5⟩
theorem rSl.split {α:Type} {k:Nat} {R:AB α} {w:World} {fs:List Addr} {A:Option Addr} {n c:Nat} {ds:List α}(h:rSl k R w fs (.slice A n c) ds) {j:Nat}(hj:j≤ds.length) :
  ∃g1 g2,rSl k R w g1 (.slice A j c) (ds.take j)∧rSl k R w g2 (.slice (if c=j then A else A.map (fun x => x.add (j * k))) (n - j) (c - j)) (ds.drop j)∧(g1 ++ g2).Perm fs:=by
 obtain⟨A',c',e,hc1,hc2,hs⟩:=h;injection e with e1 e2 e3
 subst e1 e2 e3;have l1:(ds.take j).length =j:=by rw[aQ];omega
 have l2:(ds.drop j).length =ds.length - j:=by rw[bU]
 rcases hs with⟨rfl,rfl⟩|⟨ad,css,fss,rfl,h1,h2,rfl,h5⟩
 ·simp at hj;subst hj;exact⟨[],[],⟨A,c,by simp,by simp,hc2,.inl ⟨by simp,rfl⟩⟩,⟨if c=0 then A else A.map (fun x => x.add (0 * k)),c,by simp,by simp,hc2,.inl ⟨by simp,rfl⟩⟩,by simp⟩
 ·refine⟨AV ad (j * k) ++(fss.take j).flatten,AV (ad.add (j * k)) ((ds.length - j) * k) ++(fss.drop j).flatten,?_,?_,?_⟩
  ·refine⟨some ad,c,by rw[l1],by omega,hc2,.inr ⟨ad,css.take j,fss.take j,rfl,by simp;omega,by simp;omega,by rw[l1],fun i hi => ?_⟩⟩;rw[l1]at hi;obtain⟨p1,p2,p3,p4,p5⟩:=h5 i (by omega);refine⟨by simp;omega,by simp;omega,?_⟩;simp only[List.getElem_take];exact⟨p3,p4,p5⟩
  ·by_cases hcj:c=j
   ·have hnj:ds.length=j:=by omega
    rw[aL hcj];refine⟨some ad,c - j,by rw[l2],by omega,by omega,.inl ⟨by apply bT;omega,?_⟩⟩;rw[List.drop_of_length_le (by omega)];simp[hnj,AV]
   ·rw[aI hcj];refine⟨some (ad.add (j * k)),c - j,by rw[l2];rfl,by omega,by omega,.inr ⟨ad.add (j * k),css.drop j,fss.drop j,rfl,by simp;omega,by simp;omega,by rw[l2],fun i hi => ?_⟩⟩;rw[l2]at hi;obtain⟨p1,p2,p3,p4,p5⟩:=h5 (j+i) (by omega);refine⟨by simp;omega,by simp;omega,?_⟩;simp only[List.getElem_drop];refine⟨p3,fun q hq => ?_,p5⟩;rw[IN,show j * k+(i * k+q)=(j+i) * k+q from by rw[Nat.add_mul];omega];exact p4 q hq
  ·have e:AV ad (ds.length * k)=AV ad (j * k) ++ AV (ad.add (j * k)) ((ds.length - j) * k):=by
    rw[← Mu,← Nat.add_mul];congr 2;omega
   rw[e];conv => rhs;rw[← List.take_append_drop j fss,List.flatten_append]
   rw[List.append_assoc,List.append_assoc];refine List.Perm.append_left _ ?_;rw[← List.append_assoc,← List.append_assoc];exact List.Perm.append_right _ List.perm_append_comm
theorem Ev:∀(w:World) (f:List Addr) (cs:List Value) (d:UInt8),Ai w f cs d→∀u,u∈cs→u.oneCell'=true:=by
 rintro w f cs d ⟨-,rfl⟩ u hu;simp at hu;subst hu;rfl
theorem Aj.flatBytes {E:TypeId} {w:World} {base:Nat} {v:Value} {ds:List UInt8} {fs:List Addr}(h:Aj 1 E Ai w base v ds fs):fs= []:=by
 obtain⟨css,fss,h1,h2,rfl,h4,h5,h6⟩:=h;rw[List.flatten_eq_nil_iff];intro f hf;obtain⟨i,hi,rfl⟩:=aY hf;obtain⟨_,_,_,p4⟩:=h5 i (by omega);exact p4.1
theorem Aj.flatInts {E:TypeId} {w:World} {base:Nat} {v:Value} {ds:List Int} {fs:List Addr}(h:Aj 1 E Az w base v ds fs):fs= []:=by
 obtain⟨css,fss,h1,h2,rfl,h4,h5,h6⟩:=h;rw[List.flatten_eq_nil_iff];intro f hf;obtain⟨i,hi,rfl⟩:=aY hf;obtain⟨_,_,_,p4⟩:=h5 i (by omega);exact p4.1
def Fresh {α:Type}(k:Nat)(R:AB α)(w:World)(ds:List α)(v':Value)(w':World):Prop:=∃fs',rSl k R w' fs' v' ds∧Aw w.heap.size w' fs'∧Below w.heap.size w w'
theorem O7 {P:Program} {w:World}(t ty e:TypeId)(ht:P.underlying t=some (.slice e))(hi:(P.info? e).map (fun i =>(i.zero,i.size,i.bytes))=some (some (.int .u8 0),1,1)) {v:Value} {bs:List UInt8} {f:List Addr}(hr:Ag w f v bs)(hn:bs.length≤1000000000) :
  ∃v' w',(Builtin.append_ #[t,t] ty #[.slice (some ⟨w.heap.size,0,none⟩) 0 0,v]).run P (w.alloc (.cells #[] e))= .ok v' w'∧Fresh 1 Ai w bs v' w':=by
 have hb:Below w.heap.size w (w.alloc (.cells #[] e)):=(aB _ _).alloc (aC _) _;have hown:=Aj.start (R:=Ai) (World.ownsRow_lit (base:=w.heap.size) (e:=e) (size:=1) w #[] 0 (aC _) (Nat.zero_le _) rfl);have ht2:=rSl.there Ai.fixed hr;obtain⟨v',w',h1,hs,h2,h3,h4,h5⟩:=Aj.appendRun t ty (.int .u8 0) 1 ht hi rfl (by decide) Ai.local_ Ai.fixed Ev w.heap.size _ [] [] hown v bs f (Ag.below hr hb) (fun a ha e => by
  simp[Value.ownBlock]at e;have:=ht2 a ha;omega) (by simp;omega) (by omega) (by simp)
 refine⟨v',w',h1,?_⟩;have h6:=Aj.flatBytes h2;rw[h6]at h2;obtain⟨gs,h7,h8⟩:=h2.readsMine ⟨List.nodup_nil,(fun _ h => by cases h),(fun _ h => by cases h)⟩;exact⟨gs,h7,h8,hb.grown h4 (by simp) (fun k hk => by simp[Value.ownBlock]at hk;omega)⟩
end Go.Proofs.YtfjkoifpdoemdaaGreat
namespace Go.Proofs.YtfjkoifpdoemdaaGreat
open Go.RowKit Go.Sort
def Ih(k:Nat):UInt8:=UInt8.ofNat (48+k % 10)
theorem OU(k:Nat):(Ih k).toNat =48+k % 10:=by unfold Ih;rw[UInt8.toNat_ofNat'];omega
theorem consB(d:UInt8)(l:List UInt8):(⟨#[d]⟩:ByteArray) ++⟨l.toArray⟩=⟨(d :: l).toArray⟩:=by
 apply ByteArray.ext
 rw[ByteArray.data_append];simp
def Fq(k:Nat)(out:List UInt8):List UInt8:=if h:k=0 then out else Fq (k / 10) (Ih k :: out)
termination_by k
decreasing_by omega
theorem Is(out:List UInt8):Fq 0 out=out:=by rw[Fq];rfl
theorem Kz {k:Nat}(h:0<k)(out:List UInt8):Fq k out=Fq (k / 10) (Ih k :: out):=by
 rw[Fq,dif_neg (by omega)]
def mkT(k:Nat):ByteArray:=⟨(109 :: Fq k []).toArray⟩
theorem It(k:Nat)(w:World)(hk:0<k)(hk2:k≤10000000000000) :
  Calls prog 141 #[int i64 (k:Int)] w fun e w' => e= .returned (.string (mkT k))∧Below w.heap.size w w':=by
 have hk3:¬(k:Int)≤0:=by omega
 obtain⟨T,hT⟩:∃T,mkT k=T:=⟨_,rfl⟩;rw[hT];have HT:=U hT;clear hT;go_enter func141,ntmps141
 go_wp2
 go_loopw [0,3] (fun n o wr =>∃(m:Nat) (l:List UInt8),n= int i64 m∧o= .string ⟨l.toArray⟩∧Fq m l=Fq k []∧l.length+m≤k∧Below w.heap.size w wr) (fun n _ _ =>(intOf n).toNat)
 case atStart => exact⟨k,[],rfl,rfl,rfl,by simp,aB _ _⟩
 case round =>
  obtain⟨m,l,rfl,rfl,hml,hlm,hb⟩:=hrel;have HML:=U hml;have HB:=U hb;clear hml hb;by_cases hm:0<m
  ·have hm1:(0:Int)<(m:Int):=by omega
   have hls:(⟨l.toArray⟩:ByteArray).size =l.length:=by simp[ByteArray.size]
   have hsz:¬9223372036854775807<1+(⟨l.toArray⟩:ByteArray).size:=by rw[hls];omega
   have hd:(Ih m).toNat =48+m % 10:=OU m;have hcv:(convert 39 9 (.slice (some ⟨wr.heap.size,0,none⟩) 1 1)).run prog (wr.alloc (.cells #[.int .u8 (48+(m:Int) % 10)] 5))= .ok (.string ⟨#[Ih m]⟩) (wr.alloc (.cells #[.int .u8 (48+(m:Int) % 10)] 5)) :=
    run_convert_bytes_back _ 39 9 5 ⟨wr.heap.size,0,none⟩ 1 [Ih m] underlying39 underlying5 underlying9 (fun j hj => by
     have:j=0:=by simpa using hj
     subst this;rw[Cs,(Blk.new wr 5 #[.int .u8 (48+(m:Int) % 10)]).cell];simp only[aU,hd];rw[show((48+m % 10:Nat):Int)=48+(m:Int) % 10 from by omega];rfl)
   have hst:=Kz hm l;have HST:=U hst;clear hst hd;go_wp2
   go_roundw
   case rel =>
    refine⟨m / 10,Ih m :: l,by simp,by rw[consB],by rw[← HST.o];exact HML.o,by simp;omega,HB.o.alloc HB.o.size _⟩
   case measure => simp[intOf];omega
  ·obtain rfl:m=0:=by omega
   have hl:=HML.o;rw[Is]at hl;have hls:(⟨l.toArray⟩:ByteArray).size =l.length:=by simp[ByteArray.size]
   have hsz:¬9223372036854775807<1+(⟨l.toArray⟩:ByteArray).size:=by rw[hls];omega
   have hT:(⟨#[109]⟩:ByteArray) ++⟨l.toArray⟩=T:=by rw[consB,← HT.o,hl];rfl
   have HTT:=U hT;clear hl hT;go_wp2
   go_ret
   rw[HTT.o];exact⟨rfl,HB.o⟩
theorem mkT_size(k:Nat):(mkT k).size =(Fq k []).length +1:=by simp[mkT,ByteArray.size]
theorem Nh(n:Nat):∀(k:Nat) (out:List UInt8),k≤n→(Fq k out).length≤out.length+k:=by
 induction n with
 |zero =>
  intro k out h;obtain rfl:k=0:=by omega
  rw[Is];omega
 |succ n ih =>
  intro k out h;by_cases hk:0<k
  ·rw[Kz hk];have:=ih (k / 10) (Ih k :: out) (by omega);simp only[List.length_cons]at this;omega
  ·obtain rfl:k=0:=by omega
   rw[Is];omega
theorem LU(k:Nat)(h:k≤10000000000000):(mkT k).size≤9223372036854775807:=by
 rw[mkT_size];have:=Nh k k [] (aC _);simp only[List.length_nil]at this;omega
theorem Jp(a:Addr)(m n:Nat):a.add (m+(n+1))=⟨(a.add m).block,(a.add m).off +(n+1),none⟩:=by
 rw[← Addr.add_add];simp[Addr.add]
theorem IY {fss:List (List Addr)}(h:fss.flatten.Nodup) {i j:Nat}(hi:i<fss.length)(hj:j<fss.length)(hne:i≠j) {a:Addr}(ha:a∈fss[i]):a∉fss[j]:=by
 intro hb;unfold List.Nodup at h;rw[List.pairwise_flatten]at h;have h2:=List.pairwise_iff_getElem.1 h.2;rcases Nat.lt_or_ge i j with hlt|hge
 ·exact h2 i j hi hj hlt a ha a hb rfl
 ·exact h2 j i hj hi (by omega) a hb a ha rfl
theorem FO {α:Type} {l m:List α} {k:Nat}(h:l.take k=m.take k)(h1:k<l.length)(h2:k<m.length)(he:l[k] =m[k]):l.take (k+1)=m.take (k+1):=by
 rw[aM h1,aM h2,h,he]
section
variable {α:Type} {k:Nat} {R:AB α} {w:World} {fs:List Addr} {v:Value} {ds:List α}
theorem rSl.head(h:rSl k R w fs v ds):∃A c,v= .slice A ds.length c∧ds.length≤c∧c≤9223372036854775807:=by
 obtain⟨A,c,e,h1,h2,h3⟩:=h;exact⟨A,c,e,h1,h2⟩
structure At (k:Nat) (R:AB α) (w:World) (fs:List Addr) (ad:Addr) (j:Nat) (b o:Nat) (cs:List Value) (fk:List Addr) (d:α):Prop where
 place:ad.add (j * k)=⟨b,o,none⟩
 lt:b<w.heap.size
 len:cs.length=k
 cell:∀q,(hq:q<cs.length)→w.cell? ⟨b,o+q,none⟩=some cs[q]
 reads:R w fk cs d
 there:CX fk w
 sub:∀a,a∈fk→a∈fs
 mem:∀q,q<k→(⟨b,o+q,none⟩:Addr)∈fs
theorem DQ {a:Addr} {m b o:Nat}(h:a.add m=⟨b,o,none⟩)(q:Nat):a.add (m+q)=⟨b,o+q,none⟩:=by
 cases q with
 |zero => rw[bE,h];rfl
 |succ q => rw[Jp,h]
theorem Jv {a:Addr} {w:World} {u:Value}(h:w.cell? a=some u):∃b o,a=⟨b,o,none⟩:=by
 have:=World.cell?_spot h;cases a with
 |mk b o s => simp only at this;subst this;exact⟨b,o,rfl⟩
theorem rSl.at_(hF:Bl R)(hk:0<k)(h:rSl k R w fs v ds):∃A c,v= .slice A ds.length c∧ds.length≤c∧c≤9223372036854775807∧∀j,(hj:j<ds.length)→∃ad b o cs fk,A=some ad∧At k R w fs ad j b o cs fk ds[j]:=by
 obtain⟨A,c,e,h1,h2,h3⟩:=h;refine⟨A,c,e,h1,h2,fun j hj => ?_⟩;rcases h3 with⟨rfl,_⟩|⟨ad,css,fss,e1,e2,e3,e4,h3⟩
 ·cases hj
 ·obtain⟨q1,q2,q3,q4,q5⟩:=h3 j hj;have p0:=q4 0 (by omega);rw[bE]at p0;obtain⟨b,o,hP⟩:=Jv p0;refine⟨ad,b,o,css[j],fss[j],e1,hP,?_,q3,fun q hq => ?_,q5,hF _ _ _ _ q5,fun a ha => ?_,fun q hq => ?_⟩
  ·have:=World.block_lt_of_cell? _ _ p0;rwa [hP]at this
  ·rw[← DQ hP];exact q4 q hq
  ·rw[e4];exact aT _ (List.mem_flatten.2 ⟨_,aN q2,ha⟩)
  ·rw[← DQ hP,e4];refine aX _ (Bb.2 ⟨j * k+q,?_,rfl⟩);calc j * k+q<j * k+k:=by omega
    _=(j+1) * k:=by rw[Nat.add_mul];omega
    _≤ds.length * k:=Nat.mul_le_mul_right _ hj
theorem rSl.upd(hL:Bi R)(hF:Bl R)(hk:0<k)(h:rSl k R w fs v ds)(hn:fs.Nodup)(j:Nat)(hj:j<ds.length) :
  ∃ad c b o cs fk,v= .slice (some ad) ds.length c∧At k R w fs ad j b o cs fk ds[j]∧fk.Nodup∧(∀q,q<k→(⟨b,o+q,none⟩:Addr)∉fk)∧
   (∀(w':World) (cs':List Value) (d':α),cs'.length=k→(∀a,a∈fs→(∀q,q<k→a≠⟨b,o+q,none⟩)→a∉fk→w'.cell? a=w.cell? a)→
    (∀q,(hq:q<cs'.length)→w'.cell? ⟨b,o+q,none⟩=some cs'[q])→R w' fk cs' d'→rSl k R w' fs v (ds.set j d')):=by
 obtain⟨A,c,e,h1,h2,h3⟩:=h;rcases h3 with⟨rfl,_⟩|⟨ad,css,fss,e1,e2,e3,e4,h3⟩
 ·cases hj
 obtain⟨q1,q2,q3,q4,q5⟩:=h3 j hj;have p0:=q4 0 (by omega);rw[bE]at p0;obtain⟨b,o,hP⟩:=Jv p0;subst e4;have hn':=hn;unfold List.Nodup at hn';rw[List.pairwise_append]at hn';obtain⟨hn1,hn2,hn3⟩:=hn';have inrow:∀q,q<ds.length * k→ad.add q∈AV ad (ds.length * k):=fun q hq => Bb.2 ⟨q,hq,rfl⟩
 have infl:∀i,(hi:i<fss.length)→∀a,a∈fss[i]→a∈fss.flatten:=fun i hi a ha => List.mem_flatten.2 ⟨_,aN hi,ha⟩
 have rowne:∀q,q<ds.length * k→∀a,a∈fss.flatten→a≠ad.add q:=fun q hq a ha e => hn3 _ (inrow q hq) _ ha e.symm
 have bound:∀i q,i<ds.length→q<k→i * k+q<ds.length * k:=fun i q hi hq => by
  calc i * k+q<i * k+k:=by omega
   _=(i+1) * k:=by rw[Nat.add_mul];omega
   _≤ds.length * k:=Nat.mul_le_mul_right _ hi
 refine⟨ad,c,b,o,css[j],fss[j],by rw[e,e1],⟨hP,?_,q3,fun q hq => ?_,q5,hF _ _ _ _ q5,fun a ha => aT _ (infl j q2 a ha),fun q hq => ?_⟩,?_,fun q hq => ?_,?_⟩
 ·have:=World.block_lt_of_cell? _ _ p0;rwa [hP]at this
 ·rw[← DQ hP];exact q4 q hq
 ·rw[← DQ hP];exact aX _ (inrow _ (bound j q hj hq))
 ·have:=List.pairwise_flatten.1 hn2;exact this.1 _ (aN q2)
 ·rw[← DQ hP];exact fun ha => rowne _ (bound j q hj hq) _ (infl j q2 _ ha) rfl
 ·intro w' cs' d' hlen hsame hcell hR;refine⟨A,c,by rw[e];simp,by simpa using h1,h2,.inr ⟨ad,css.set j cs',fss,e1,by simpa using e2,by simpa using e3,by simp,fun i hi => ?_⟩⟩;have hi':i<ds.length:=by simpa using hi
  obtain⟨r1,r2,r3,r4,r5⟩:=h3 i hi';by_cases hij:i=j
  ·subst hij;refine⟨by simpa using r1,r2,by simpa using hlen,fun q hq => ?_,?_⟩
   ·simp only[List.getElem_set_self]at hq⊢;rw[DQ hP];exact hcell q hq
   ·simp only[List.getElem_set_self];exact hR
  ·refine⟨by simpa using r1,r2,?_,fun q hq => ?_,?_⟩
   ·rw[List.getElem_set_ne (Ne.symm hij)];exact r3
   ·simp only[List.getElem_set_ne (Ne.symm hij)]at hq⊢;have hqk:q<k:=by omega
    have inj:∀q',q'<k→ad.add (i * k+q)≠⟨b,o+q',none⟩:=fun q' hq' e => by
     rw[← DQ hP]at e;have e2:=F1 hn1 (bound i q hi' hqk) (bound j q' hj hq') e;have:(i * k+q) / k=(j * k+q') / k:=by rw[e2]
     rw[Nat.add_comm,Nat.add_comm (j * k),Nat.add_mul_div_right _ _ hk,Nat.add_mul_div_right _ _ hk,Nat.div_eq_of_lt hqk,Nat.div_eq_of_lt hq']at this;omega
    rw[hsame _ (aX _ (inrow _ (bound i q hi' hqk))) inj (fun ha => rowne _ (bound i q hi' hqk) _ (infl j q2 _ ha) rfl)];exact r4 q hq
   ·simp only[List.getElem_set_ne (Ne.symm hij)];refine hL _ _ _ _ _ r5 fun a ha => ?_
    have hf:=infl i r2 a ha;exact hsame a (aT _ hf) (fun q hq => by rw[← DQ hP];exact rowne _ (bound j q hj hq) a hf) (IY hn2 r2 q2 hij ha)
theorem At.below {ad:Addr} {j b o:Nat} {cs:List Value} {fk:List Addr} {d:α} {w':World}(hL:Bi R)(h:At k R w fs ad j b o cs fk d)(hb:Below w.heap.size w w'):At k R w' fs ad j b o cs fk d :=
 ⟨h.place,aE h.lt hb.size,h.len,fun q hq =>(hb.cell (p:=⟨b,o+q,none⟩) h.lt).trans (h.cell q hq),hL _ _ _ _ _ h.reads (AQ.of_below h.there hb),fun a ha => aE (h.there a ha) hb.size,h.sub,h.mem⟩
end
section
variable {α:Type} (one:Nat→α→α) (num:α→Nat)
def Bj:Nat→List α→List α
 |_,[] => []
 |k,d :: r => one k d :: Bj (k+num d) r
def AA:List α→Nat
 | [] => 0
 |d :: r => num d+AA r
theorem JK:∀(l:List α) (d:α),AA num (l ++ [d])=AA num l+num d
 | [],d => by simp[AA]
 |a :: r,d => by simp only[List.cons_append,AA,JK r d];omega
theorem Ja:∀(k:Nat) (l:List α) (d:α),Bj one num k (l ++ [d])=Bj one num k l ++ [one (k+AA num l) d]
 |k,[],d => by simp[Bj,AA]
 |k,a :: r,d => by
  simp only[List.cons_append,Bj,Ja _ r d,AA];rw[show k+num a+AA num r=k+(num a+AA num r)from by omega]
theorem EI:∀(k:Nat) (l:List α),(Bj one num k l).length =l.length
 |_,[] => rfl
 |k,a :: r => by simp[Bj,EI _ r]
theorem CE {l:List α} {k:Nat}(h:k<l.length):AA num (l.take (k+1))=AA num (l.take k)+num l[k]:=by
 rw[aM h,JK]
theorem Dn:∀(l:List α) (k:Nat),AA num (l.take k)≤AA num l
 | [],k => by simp[AA]
 |a :: r,0 => by simp[AA]
 |a :: r,k+1 => by
  have:=Dn r k;simp only[List.take_succ_cons,AA];omega
def Cd(k:Nat)(ds:List α)(j:Nat):List α:=Bj one num k (ds.take j) ++ ds.drop j
theorem DJ(k:Nat)(ds:List α)(j:Nat)(h:j≤ds.length):(Cd one num k ds j).length =ds.length:=by
 unfold Cd;rw[bC,EI,aQ,bU];omega
theorem Ec(k:Nat)(ds:List α):Cd one num k ds 0=ds:=by simp[Cd,Bj]
theorem Ey(k:Nat)(ds:List α):Cd one num k ds ds.length=Bj one num k ds:=by simp[Cd]
theorem Ez(k:Nat)(ds:List α)(j:Nat)(h:j<ds.length)(h2:j<(Cd one num k ds j).length):(Cd one num k ds j)[j] =ds[j]:=by
 have hl:(Bj one num k (ds.take j)).length =j:=by rw[EI,aQ];omega
 unfold Cd at h2⊢;rw[List.getElem_append_right (by omega)];simp[hl]
theorem EA(k:Nat)(ds:List α)(j:Nat)(h:j<ds.length):(Cd one num k ds j).set j (one (k+AA num (ds.take j)) ds[j])=Cd one num k ds (j+1):=by
 have hl:(Bj one num k (ds.take j)).length =j:=by rw[EI,aQ];omega
 unfold Cd;rw[List.set_append_right _ _ (by omega),hl,Nat.sub_self,List.drop_eq_getElem_cons h,List.set_cons_zero,aM h,Ja];simp
end
theorem mod3(c:Nat):(((c:Int)) % 3 == 0)=decide (c % 3=0):=by
 by_cases h:c % 3=0
 ·rw[aK h];simp;omega
 ·rw[aG h];simp;omega
theorem Blk.range {w:World} {g:Nat} {t:TypeId} {cs:Array Value}(h:Blk w g t cs)(o:Nat)(l:List Value)(hl:(cs.toList.drop o).take l.length=l):w.rangeAt g o l:=by
 intro j v hj;rw[h.cell];rw[← hl,List.getElem?_take]at hj;split at hj
 ·rw[List.getElem?_drop]at hj;simpa using hj
 ·cases hj
end Go.Proofs.YtfjkoifpdoemdaaGreat
namespace Go.Proofs.YtfjkoifpdoemdaaGreat
open Go.RowKit
theorem Rv(v:Value)(xs:List UInt8)(fs:List Addr)(w:World)(left:Int)(h1:Ag w fs v xs)(hl:-1≤left)(hl2:left≤1048576) :
  Calls prog 263 #[v,int i64 left] w fun e w' => e= .returned (int i64 (if left<xs.length then -1 else left - xs.length))∧w=w':=by
 obtain⟨A1,c1,rfl,hc1,hm1,hx⟩:=Ag.open_ h1;clear h1;by_cases h:left<xs.length
 ·rw[aL h];go_enter func263,ntmps263
  go_wp2
  go_ret
  exact⟨rfl,rfl⟩
 ·rw[aI h];go_enter func263,ntmps263
  go_wp2
  go_ret
  exact⟨rfl,rfl⟩
theorem GS(v1 v2:Value)(xs ys:List UInt8)(f1 f2:List Addr)(w:World)(h1:Ag w f1 v1 xs)(h2:Ag w f2 v2 ys) :
  Calls prog 56 #[v1,v2] w fun e w' => e= .returned (.bool (decide (xs=ys)))∧Below w.heap.size w w':=by
 obtain⟨A1,c1,rfl,hc1,hm1,hx⟩:=Ag.open_ h1;obtain⟨A2,c2,rfl,hc2,hm2,hy⟩:=Ag.open_ h2;clear h1 h2;by_cases hl:xs.length=ys.length
 ·have hb:=Db hl;have HL:=U hl;clear hl;go_enter func56,ntmps56
  go_wp2
  go_loopw [4,5] (fun r i wr =>∃k:Nat,k≤xs.length∧i= int i64 k∧r= .bool false∧xs.take k=ys.take k∧Below w.heap.size w wr) (fun _ i _ => xs.length - (intOf i).toNat)
  case atStart => exact⟨0,by omega,rfl,rfl,by simp,aB _ _⟩
  case round =>
   obtain⟨k,hk,rfl,rfl,ht,hbl⟩:=hrel;have HT:=U ht;clear ht;by_cases hlt:k<xs.length
   ·have hlt2:k<ys.length:=by rw[← HL.o];exact hlt
    obtain⟨a1,e1,_,b1,g1⟩:=hx k hlt;obtain⟨a2,e2,_,b2,g2⟩:=hy k hlt2;subst e1 e2;have g1':=(hbl.cell (p:=a1.add k) b1).trans g1;have g2':=(hbl.cell (p:=a2.add k) b2).trans g2;clear g1 g2 hx hy;by_cases he:xs[k] =ys[k]
    ·have hn:=ME he;have HE:=U he;clear he;go_wp2
     go_quiet (fail)
     go_wp2
     go_roundw
     case rel => exact⟨k+1,by omega,by go_num,rfl,H7 HT.o hlt hlt2 HE.o,AM hbl _⟩
     case measure => simp[intOf];omega
    ·have hn:=MF he;go_wp2
     go_quiet (fail)
     go_wp2
     go_ret
     exact⟨Cq (by simp;intro e;subst e;exact he rfl),AM hbl _⟩
   ·have hk':k=xs.length:=by omega
    have H:=HT.o;rw[hk',aV,HL.o,aV]at H;have H1:=U H;clear H hk';go_wp2
    go_ret
    exact⟨Cq (by simp[H1.o]),hbl⟩
 ·have hb:=Dc hl;go_enter func56,ntmps56
  go_wp2
  go_ret
  exact⟨Cq (by simp;intro e;subst e;exact hl rfl),aB _ _⟩
def Kp(k:Nat)(xs:List UInt8):Int:=if xs=BC k xs.length then((k+xs.length:Nat):Int)else -1
theorem LO {k:Nat} {xs:List UInt8}(h:xs=BC k xs.length):Kp k xs=(k:Int)+(xs.length:Int):=by unfold Kp;rw[aL h];omega
theorem heldB_no {k j:Nat} {xs:List UInt8}(hj:j<xs.length)(h:xs[j]≠Fr (k+j)):Kp k xs= -1:=by
 unfold Kp;rw[aI];intro e;apply h
 have:=List.getElem_of_eq e hj;rw[this,Hh]
theorem MG(k j:Nat):IntKind.u8.wrap ((k:Int)+(j:Int))=((Fr (k+j)).toNat:Int):=by
 rw[Nj];simp[IntKind.wrap,IntKind.bits,IntKind.signed]
theorem NT(v:Value)(xs:List UInt8)(fs:List Addr)(w:World)(k:Nat)(h1:Ag w fs v xs)(hk0:k≤1000000000000)(hsm:xs.length≤1000000000000) :
  Calls prog 61 #[v,int i64 k] w fun e w' => e= .returned (int i64 (Kp k xs))∧Below w.heap.size w w':=by
 obtain⟨A1,c1,rfl,hc1,hm1,hx⟩:=Ag.open_ h1;clear h1;go_enter func61,ntmps61
 go_wp2
 go_loopw [1,4,5] (fun kk r i wr =>∃j:Nat,j≤xs.length∧i= int i64 j∧kk= int i64 ((k:Int)+(j:Int))∧r= int i64 0∧xs.take j=(BC k xs.length).take j∧Below w.heap.size w wr) (fun _ _ i _ => xs.length - (intOf i).toNat)
 case atStart => exact⟨0,by omega,rfl,by simp,rfl,by simp,aB _ _⟩
 case round =>
  obtain⟨j,hj,rfl,rfl,rfl,ht,hbl⟩:=hrel;have HT:=U ht;clear ht;by_cases hlt:j<xs.length
  ·obtain⟨a1,e1,_,b1,g1⟩:=hx j hlt;subst e1;have g1':=(hbl.cell (p:=a1.add j) b1).trans g1;clear g1 hx;have hw:=MG k j;by_cases he:xs[j] =Fr (k+j)
   ·have hn:=ME he;have HE:=U he;clear he;go_wp2
    go_roundw
    case rel => exact⟨j+1,by omega,by go_num,by congr 1,rfl,H7 HT.o hlt (by rw[BN];exact hlt) (by rw[HE.o,Hh]),hbl⟩
    case measure => simp[intOf];omega
   ·have hn:=MF he;go_wp2
    go_ret
    exact⟨KJ (heldB_no hlt he).symm,hbl⟩
  ·go_wp2
   go_ret
   have hk':j=xs.length:=by omega
   refine⟨KJ ((congrArg (fun q:Nat =>(k:Int)+(q:Int)) hk').trans (LO ?_).symm),hbl⟩;have H:=HT.o;rw[hk',aV,bK (by rw[BN];exact aC _)]at H;exact H
theorem markStep {xs:List UInt8} {k j:Nat}(hj:j<xs.length):((BC k j) ++ xs.drop j).set j (Fr (k+j))=BC k (j+1) ++ xs.drop (j+1):=by
 apply bP
 ·simp[BN];omega
 ·intro i h1 h2;simp only[List.getElem_set,List.getElem_append,BN,Hh,List.getElem_drop];simp only[List.length_set,bC,BN,bU]at h1;by_cases e:j=i
  ·subst e;simp
  ·rw[aI e];by_cases h:i<j
   ·rw[dif_pos h,dif_pos (by omega)]
   ·rw[dif_neg h,dif_neg (by omega)];congr 1;omega
theorem JG(v:Value)(xs:List UInt8)(fs:List Addr)(w:World)(k:Nat)(lo:Nat)(h1:Ag w fs v xs)(hm:Aw lo w fs)(hk0:k≤1000000000000)(hsm:xs.length≤1000000000000) :
  Calls prog 60 #[v,int i64 k] w fun e w' => e= .returned (int i64 ((k:Int)+(xs.length:Int)))∧AD fs w w'∧Ag w' fs v (BC k xs.length):=by
 have h1':=h1;obtain⟨A1,c1,rfl,hc1,hm1,hx⟩:=Ag.open_ h1;have hrd:∀k,(hk:k<xs.length)→∃ad,A1=some ad∧ad.add k∈fs∧(ad.add k).block <w.heap.size∧w.frozen? (ad.add k)=false:=fun k hk => by
  obtain⟨ad,e1,e2,e3,_⟩:=hx k hk;exact⟨ad,e1,e2,e3,hm.free _ e2⟩
 go_enter func60,ntmps60
 go_wp2
 go_loopw [1,5] (fun kk i wr =>∃j:Nat,j≤xs.length∧i= int i64 j∧kk= int i64 ((k:Int)+(j:Int))∧AD fs w wr∧Ag wr fs (.slice A1 xs.length c1) (BC k j ++ xs.drop j)) (fun _ i _ => xs.length - (intOf i).toNat)
 case atStart => exact⟨0,by omega,rfl,by simp,AD.refl _ _,by simpa [BC]using h1'⟩
 case round =>
  obtain⟨j,hj,rfl,rfl,hwr,hrb⟩:=hrel;by_cases hlt:j<xs.length
  ·obtain⟨a1,e1,hmem,b1,hfz⟩:=hrd j hlt;subst e1;have hfz':=(hwr.frozen _ b1).trans hfz;clear hfz hrd hx;have hcell:wr.cell? (a1.add j)=some (.int .u8 (((BC k j ++ xs.drop j)[j]'(by simp[BN];omega)).toNat:Int)):=by
    obtain⟨A,c,e,_,_,h⟩:=Ag.open_ hrb;obtain⟨ad,e2,_,_,h2⟩:=h j (by simp[BN];omega);injection e with e3 e4 e5
    rw[e2]at e3;injection e3 with e6
    rw[e6];exact h2
   have hw:=MG k j;have HR:=U hrb;clear hrb;have HW:=U hwr;clear hwr;go_wp2
   go_roundw
   case rel =>
    refine⟨j+1,by omega,by go_num,by congr 1,HW.o.setCell hmem _,?_⟩;have H:=Ag.store HR.o hm.nodup (j:=j) (by simp[BN];omega) (Fr (k+j));rw[markStep hlt]at H;exact H
   case measure => simp[intOf];omega
  ·have hk':j=xs.length:=by omega
   have HR:=U hrb;clear hrb;have HW:=U hwr;clear hwr;clear hrd hx;go_wp2
   go_ret
   refine⟨KJ (congrArg (fun q:Nat =>(k:Int)+(q:Int)) hk'),HW.o,?_⟩;have H:=HR.o;rw[hk',List.drop_length,List.append_nil]at H;exact H
theorem Tryz.info5:(prog.info? 5).map (fun i =>(i.zero,i.size,i.bytes))=some (some (.int .u8 0),1,1):=by kernel_rfl
theorem Rz(v:Value)(xs:List UInt8)(fs:List Addr)(w:World)(h1:Ag w fs v xs)(hsm:xs.length≤1048576) :
  Calls prog 268 #[v] w fun e w' => e= .returned (.slice (some ⟨w.heap.size,0,none⟩) xs.length xs.length)∧Below w.heap.size w w'∧
   Blk w' w.heap.size 5 (xs.map Be).toArray∧w'.heap.size=w.heap.size+1:=by
 obtain⟨A1,c1,rfl,hc1,hm1,hx⟩:=Ag.open_ h1;clear h1;have hmk:=run_make_row' (P:=prog) 39 5 (.int .u8 0) 1 underlying39 Tryz.info5 rfl .i64 .i64 xs.length (by omega) (by omega);have HZ:=U (O5 (xs.map Be) (.int .u8 0) xs.length (by simp));go_enter func268,ntmps268
 go_wp2
 go_loopw [4] (fun i wr =>∃j:Nat,j≤xs.length∧i= int i64 j∧Below w.heap.size w wr∧Blk wr w.heap.size 5 (EU (xs.map Be) (.int .u8 0) j)∧wr.heap.size=w.heap.size+1) (fun i _ => xs.length - (intOf i).toNat)
 case atStart => exact⟨0,by omega,rfl,(aB _ _).alloc (aC _) _,by rw[← HZ.o];exact Blk.new _ _ _,by simp⟩
 case round =>
  obtain⟨j,hj,rfl,hb,hbk,hsz⟩:=hrel;by_cases hlt:j<xs.length
  ·obtain⟨a1,e1,_,b1,g1⟩:=hx j hlt;subst e1;have g1':=(hb.cell (p:=a1.add j) b1).trans g1;clear g1 hx hmk;obtain⟨u,hu⟩:=Ql (xs.map Be) (.int .u8 0) j j (by simpa using hlt);have c2:=(hbk.cell j).trans hu;have f2:=hbk.frozen j;clear hu;have HB:=U hb;clear hb;have HK:=U hbk;clear hbk;have HS:=U hsz;clear hsz;go_wp2
   go_roundw
   case rel =>
    refine⟨j+1,by omega,by go_num,HB.o.setCell (aC _) _,?_,by simp[HS.o]⟩;have:=HK.o.set_ j (Be xs[j]);rw[show Be xs[j] =(xs.map Be)[j]'(by simpa using hlt)from by simp,O4 (by simpa using hlt)]at this;simpa [Be]using this
   case measure => simp[intOf];omega
  ·have hk':j=(xs.map Be).length:=by simp;omega
   have HB:=U hb;clear hb;have HK:=U hbk;clear hbk;have HS:=U hsz;clear hsz;clear hmk hx;go_wp2
   go_ret
   refine⟨rfl,HB.o,?_,HS.o⟩;have:=HK.o;rw[hk',O1]at this;exact this
end Go.Proofs.YtfjkoifpdoemdaaGreat
namespace Go.Proofs.YtfjkoifpdoemdaaGreat
open Go.RowKit Go.Sort
theorem strNeq_f {a b:ByteArray}(h:a=b):(!a.toList == b.toList)=false:=by subst h;simp
theorem NF {a b:ByteArray}(h:a≠b):(!a.toList == b.toList)=true:=by
 have:a.toList≠b.toList:=fun e => h (WideShapes.bytes_inj (by rwa [ByteArray.toList_eq,ByteArray.toList_eq]at e))
 simpa using this
theorem DR.open_ {w:World} {fs:List Addr} {v:Value} {ss:List ByteArray}(h:DR w fs v ss) :
  ∃A c,v= .slice A ss.length c∧ss.length≤c∧c≤9223372036854775807∧∀k,(hk:k<ss.length)→∃ad,A=some ad∧ad.add k∈fs∧(ad.add k).block <w.heap.size∧w.cell? (ad.add k)=some (.string ss[k])∧ss[k].size≤9223372036854775807:=by
 obtain⟨A,c,e,h1,h2,h3⟩:=h;refine⟨A,c,e,h1,by omega,fun k hk => ?_⟩;rcases h3 with⟨rfl,_⟩|⟨ad,css,fss,e1,e2,e3,e4,h3⟩
 ·cases hk
 ·obtain⟨q1,q2,q3,q4,q5,q6,q8⟩:=h3 k hk;have q7:=q4 0 (by omega);simp only[q6,aU,Nat.mul_one,bE]at q7;exact⟨ad,e1,by rw[e4];exact aX _ (Bb.2 ⟨k,by omega,rfl⟩),World.block_lt_of_cell? _ _ q7,q7,q8⟩
theorem DR.close_ {w:World} {ad:Addr} {c:Nat} {ss:List ByteArray}(h1:ss.length≤c)(h2:c≤9223372036854775807)(h:∀k,(hk:k<ss.length)→w.cell? (ad.add k)=some (.string ss[k])∧ss[k].size≤9223372036854775807) :
  DR w (AV ad ss.length) (.slice (some ad) ss.length c) ss:=by
 refine⟨some ad,c,rfl,h1,by omega,.inr ⟨ad,ss.map fun b => [.string b],ss.map fun _ => [],rfl,by simp,by simp,?_,fun i hi =>⟨by simpa using hi,by simpa using hi,by simp,fun j hj => ?_,?_⟩⟩⟩
 ·have:(ss.map fun _ =>([]:List Addr)).flatten = []:=by simp[List.flatten_eq_nil_iff]
  rw[this];simp
 ·simp at hj;subst hj;simpa using(h i hi).1
 ·simpa [Iw]using(h i hi).2
theorem DR.form {w:World} {fs:List Addr} {v:Value} {ss:List ByteArray}(h:DR w fs v ss) :
  ∃A c,v= .slice A ss.length c∧ss.length≤c∧c≤9223372036854775807∧((ss= []∧fs= [])∨∃ad,A=some ad∧fs=AV ad ss.length∧∀k,(hk:k<ss.length)→w.cell? (ad.add k)=some (.string ss[k])∧ss[k].size≤9223372036854775807):=by
 obtain⟨A,c,e,h1,h2,h3⟩:=h;refine⟨A,c,e,h1,by omega,?_⟩;rcases h3 with h3|⟨ad,css,fss,e1,e2,e3,e4,h3⟩
 ·exact .inl h3
 ·have hz:fss.flatten= []:=by
   rw[List.flatten_eq_nil_iff];intro f hf;obtain⟨i,hi,rfl⟩:=aY hf;obtain⟨_,_,_,_,q,_⟩:=h3 i (by omega);exact q
  refine .inr ⟨ad,e1,by rw[e4,hz];simp,fun k hk => ?_⟩;obtain⟨q1,q2,q3,q4,q5,q6,q8⟩:=h3 k hk;have q7:=q4 0 (by omega);simp only[q6,aU,Nat.mul_one,bE]at q7;exact⟨q7,q8⟩
theorem DR.store {w:World} {fs:List Addr} {ad:Addr} {c n:Nat} {ss:List ByteArray}(h:DR w fs (.slice (some ad) n c) ss)(hn:fs.Nodup) {j:Nat}(hj:j<ss.length)(b:ByteArray)(hb:b.size≤9223372036854775807) :
  DR (w.setCell (ad.add j) (.string b)) fs (.slice (some ad) n c) (ss.set j b):=by
 obtain⟨A,c',e,h1,h2,h3⟩:=DR.form h;injection e with e1 e2 e3
 subst e2 e3;rcases h3 with⟨rfl,_⟩|⟨ad',q1,q4,h3⟩
 ·simp at hj
 ·rw[← e1]at q1;injection q1 with q1
  subst q1;have:=DR.close_ (w:=w.setCell (ad.add j) (.string b)) (ad:=ad) (c:=c) (ss:=ss.set j b) (by simpa using h1) h2 (fun k hk => by
   simp only[List.length_set]at hk;by_cases e:j=k
   ·subst e;rw[World.cell?_setCell_same _ _ _ (h3 j hk).1,List.getElem_set_self];exact⟨rfl,hb⟩
   ·rw[World.cell?_setCell_other,List.getElem_set_ne e]
    ·exact h3 k hk
    ·intro e';rw[q4]at hn;exact e (F1 hn hj hk e'))
  rw[List.length_set,← q4]at this;exact this
theorem DR.below {w w':World} {fs:List Addr} {v:Value} {ss:List ByteArray}(h:DR w fs v ss)(hb:Below w.heap.size w w'):DR w' fs v ss:=rSl.below Iw.local_ Iw.fixed h hb
theorem DR.empty {w:World} {A:Option Addr} {c:Nat}(h2:c≤9223372036854775807):DR w [] (.slice A 0 c) []:=⟨A,c,rfl,Nat.zero_le _,by omega,.inl ⟨rfl,rfl⟩⟩
