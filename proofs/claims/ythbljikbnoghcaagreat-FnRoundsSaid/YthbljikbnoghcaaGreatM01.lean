/-
  Part 1 of the proof; the last part states and proves the statement.
-/
import Derived.Test.YthbljikbnoghcaaGreatM00
import Derived.Lib.QuietBelow
import Derived.Deep.MidRow
import Derived.Laws.MakeOwn
import Derived.ProofKit
import Derived.Deep.Slices
import Derived.ChangeArms
set_option maxHeartbeats 8000000
set_option maxRecDepth 100000
set_option linter.unusedVariables false
set_option linter.unusedSimpArgs false
namespace Go.Proofs.YthbljikbnoghcaaGreat
open Go.RowKit Go.Sort
open Go.Lib (hid)
theorem addTo(a:Addr)(m n:Nat):a.add (m+(n+1))=⟨(a.add m).block,(a.add m).off +(n+1),none⟩:=by
 rw[← Addr.add_add];simp[Addr.add]
section
variable {α:Type} {k:Nat} {R:Aw α} {w:World} {fs:List Addr} {v:Value} {ds:List α}
theorem rSl.head(h:rSl k R w fs v ds):∃A c,v= .slice A ds.length c∧ds.length≤c∧c≤9223372036854775807:=by
 obtain⟨A,c,e,h1,h2,h3⟩:=h;exact⟨A,c,e,h1,h2⟩
structure At (k:Nat) (R:Aw α) (w:World) (fs:List Addr) (ad:Addr) (j:Nat) (b o:Nat) (cs:List Value) (fk:List Addr) (d:α):Prop where
 place:ad.add (j * k)=⟨b,o,none⟩
 lt:b<w.heap.size
 len:cs.length=k
 cell:∀q,(hq:q<cs.length)→w.cell? ⟨b,o+q,none⟩=some cs[q]
 reads:R w fk cs d
 there:CM fk w
 sub:∀a,a∈fk→a∈fs
 mem:∀q,q<k→(⟨b,o+q,none⟩:Addr)∈fs
theorem Jj {a:Addr} {m b o:Nat}(h:a.add m=⟨b,o,none⟩)(q:Nat):a.add (m+q)=⟨b,o+q,none⟩:=by
 cases q with
 |zero => rw[Nat.add_zero,h];rfl
 |succ q => rw[addTo,h]
theorem Hu {a:Addr} {w:World} {u:Value}(h:w.cell? a=some u):∃b o,a=⟨b,o,none⟩:=by
 have:=World.cell?_spot h;cases a with
 |mk b o s => simp only at this;subst this;exact⟨b,o,rfl⟩
theorem rSl.at_(hF:Bh R)(hk:0<k)(h:rSl k R w fs v ds):∃A c,v= .slice A ds.length c∧ds.length≤c∧c≤9223372036854775807∧∀j,(hj:j<ds.length)→∃ad b o cs fk,A=some ad∧At k R w fs ad j b o cs fk ds[j]:=by
 obtain⟨A,c,e,h1,h2,h3⟩:=h;refine⟨A,c,e,h1,h2,fun j hj => ?_⟩;rcases h3 with⟨rfl,_⟩|⟨ad,css,fss,e1,e2,e3,e4,h3⟩
 ·cases hj
 ·obtain⟨q1,q2,q3,q4,q5⟩:=h3 j hj;have p0:=q4 0 (by omega);rw[Nat.add_zero]at p0;obtain⟨b,o,hP⟩:=Hu p0;refine⟨ad,b,o,css[j],fss[j],e1,hP,?_,q3,fun q hq => ?_,q5,hF _ _ _ _ q5,fun a ha => ?_,fun q hq => ?_⟩
  ·have:=World.block_lt_of_cell? _ _ p0;rwa [hP]at this
  ·rw[← Jj hP];exact q4 q hq
  ·rw[e4];exact List.mem_append_right _ (List.mem_flatten.2 ⟨_,List.getElem_mem q2,ha⟩)
  ·rw[← Jj hP,e4];refine List.mem_append_left _ (AY.2 ⟨j * k+q,?_,rfl⟩);calc j * k+q<j * k+k:=by omega
    _=(j+1) * k:=by rw[Nat.add_mul];omega
    _≤ds.length * k:=Nat.mul_le_mul_right _ hj
theorem At.below {ad:Addr} {j b o:Nat} {cs:List Value} {fk:List Addr} {d:α} {w':World}(hL:AZ R)(h:At k R w fs ad j b o cs fk d)(hb:Below w.heap.size w w'):At k R w' fs ad j b o cs fk d :=
 ⟨h.place,Nat.lt_of_lt_of_le h.lt hb.size,h.len,fun q hq =>(hb.cell (p:=⟨b,o+q,none⟩) h.lt).trans (h.cell q hq),hL _ _ _ _ _ h.reads (AT.of_below h.there hb),fun a ha => Nat.lt_of_lt_of_le (h.there a ha) hb.size,h.sub,h.mem⟩
end
section
variable {α:Type} (one:Nat→α→α) (num:α→Nat)
end
theorem Blk.range {w:World} {g:Nat} {t:TypeId} {cs:Array Value}(h:Blk w g t cs)(o:Nat)(l:List Value)(hl:(cs.toList.drop o).take l.length=l):w.rangeAt g o l:=by
 intro j v hj;rw[h.cell];rw[← hl,List.getElem?_take]at hj;split at hj
 ·rw[List.getElem?_drop]at hj;simpa using hj
 ·cases hj
end Go.Proofs.YthbljikbnoghcaaGreat
namespace Go.Proofs.YthbljikbnoghcaaGreat
open Go.RowKit
open Go.Lib (hid)
theorem Tryz.info5:(Tryz.prog.info? 5).map (fun i =>(i.zero,i.size,i.bytes))=some (some (.int .u8 0),1,1):=by kernel_rfl
end Go.Proofs.YthbljikbnoghcaaGreat
namespace Go.Proofs.YthbljikbnoghcaaGreat
open Go.RowKit Go.Sort
open Go.Lib (hid)
theorem strNeq_t {a b:ByteArray}(h:a≠b):(!a.toList == b.toList)=true:=by
 have:a.toList≠b.toList:=fun e => h (WideShapes.bytes_inj (by rwa [ByteArray.toList_eq,ByteArray.toList_eq]at e))
 simpa using this
theorem CD.open_ {w:World} {fs:List Addr} {v:Value} {ss:List ByteArray}(h:CD w fs v ss) :
  ∃A c,v= .slice A ss.length c∧ss.length≤c∧c≤9223372036854775807∧∀k,(hk:k<ss.length)→∃ad,A=some ad∧ad.add k∈fs∧(ad.add k).block <w.heap.size∧w.cell? (ad.add k)=some (.string ss[k])∧ss[k].size≤9223372036854775807:=by
 obtain⟨A,c,e,h1,h2,h3⟩:=h;refine⟨A,c,e,h1,by omega,fun k hk => ?_⟩;rcases h3 with⟨rfl,_⟩|⟨ad,css,fss,e1,e2,e3,e4,h3⟩
 ·cases hk
 ·obtain⟨q1,q2,q3,q4,q5,q6,q8⟩:=h3 k hk;have q7:=q4 0 (by omega);simp only[q6,List.getElem_cons_zero,Nat.mul_one,Nat.add_zero]at q7;exact⟨ad,e1,by rw[e4];exact List.mem_append_left _ (AY.2 ⟨k,by omega,rfl⟩),World.block_lt_of_cell? _ _ q7,q7,q8⟩
theorem CD.close_ {w:World} {ad:Addr} {c:Nat} {ss:List ByteArray}(h1:ss.length≤c)(h2:c≤9223372036854775807)(h:∀k,(hk:k<ss.length)→w.cell? (ad.add k)=some (.string ss[k])∧ss[k].size≤9223372036854775807) :
  CD w (Az ad ss.length) (.slice (some ad) ss.length c) ss:=by
 refine⟨some ad,c,rfl,h1,by omega,.inr ⟨ad,ss.map fun b => [.string b],ss.map fun _ => [],rfl,by simp,by simp,?_,fun i hi =>⟨by simpa using hi,by simpa using hi,by simp,fun j hj => ?_,?_⟩⟩⟩
 ·have:(ss.map fun _ =>([]:List Addr)).flatten = []:=by simp[List.flatten_eq_nil_iff]
  rw[this];simp
 ·simp at hj;subst hj;simpa using(h i hi).1
 ·simpa [F2]using(h i hi).2
theorem CD.form {w:World} {fs:List Addr} {v:Value} {ss:List ByteArray}(h:CD w fs v ss) :
  ∃A c,v= .slice A ss.length c∧ss.length≤c∧c≤9223372036854775807∧((ss= []∧fs= [])∨∃ad,A=some ad∧fs=Az ad ss.length∧∀k,(hk:k<ss.length)→w.cell? (ad.add k)=some (.string ss[k])∧ss[k].size≤9223372036854775807):=by
 obtain⟨A,c,e,h1,h2,h3⟩:=h;refine⟨A,c,e,h1,by omega,?_⟩;rcases h3 with h3|⟨ad,css,fss,e1,e2,e3,e4,h3⟩
 ·exact .inl h3
 ·have hz:fss.flatten= []:=by
   rw[List.flatten_eq_nil_iff];intro f hf;obtain⟨i,hi,rfl⟩:=List.getElem_of_mem hf;obtain⟨_,_,_,_,q,_⟩:=h3 i (by omega);exact q
  refine .inr ⟨ad,e1,by rw[e4,hz];simp,fun k hk => ?_⟩;obtain⟨q1,q2,q3,q4,q5,q6,q8⟩:=h3 k hk;have q7:=q4 0 (by omega);simp only[q6,List.getElem_cons_zero,Nat.mul_one,Nat.add_zero]at q7;exact⟨q7,q8⟩
theorem CD.store {w:World} {fs:List Addr} {ad:Addr} {c n:Nat} {ss:List ByteArray}(h:CD w fs (.slice (some ad) n c) ss)(hn:fs.Nodup) {j:Nat}(hj:j<ss.length)(b:ByteArray)(hb:b.size≤9223372036854775807) :
  CD (w.setCell (ad.add j) (.string b)) fs (.slice (some ad) n c) (ss.set j b):=by
 obtain⟨A,c',e,h1,h2,h3⟩:=CD.form h;injection e with e1 e2 e3
 subst e2 e3;rcases h3 with⟨rfl,_⟩|⟨ad',q1,q4,h3⟩
 ·simp at hj
 ·rw[← e1]at q1;injection q1 with q1
  subst q1;have:=CD.close_ (w:=w.setCell (ad.add j) (.string b)) (ad:=ad) (c:=c) (ss:=ss.set j b) (by simpa using h1) h2 (fun k hk => by
   simp only[List.length_set]at hk;by_cases e:j=k
   ·subst e;rw[World.cell?_setCell_same _ _ _ (h3 j hk).1,List.getElem_set_self];exact⟨rfl,hb⟩
   ·rw[World.cell?_setCell_other,List.getElem_set_ne e]
    ·exact h3 k hk
    ·intro e';rw[q4]at hn;exact e (Ig hn hj hk e'))
  rw[List.length_set,← q4]at this;exact this
theorem CD.below {w w':World} {fs:List Addr} {v:Value} {ss:List ByteArray}(h:CD w fs v ss)(hb:Below w.heap.size w w'):CD w' fs v ss:=rSl.below F2.local_ F2.fixed h hb
theorem CD.empty {w:World} {A:Option Addr} {c:Nat}(h2:c≤9223372036854775807):CD w [] (.slice A 0 c) []:=⟨A,c,rfl,Nat.zero_le _,by omega,.inl ⟨rfl,rfl⟩⟩
end Go.Proofs.YthbljikbnoghcaaGreat
namespace Go.Proofs.YthbljikbnoghcaaGreat
open Go.RowKit Go.ChangeShapes Go.WideShapes
open Go.Lib (hid)
def Fh {α:Type}(t:TypeId)(R:Aw α):Prop :=
 ∀(H:Type) (enc:TypeId × Value→H) (W:World) (base:Nat) (spare:Nat→Bool) (held:Bool) (fuel:Nat) (cs:List Value) (x:DataW H × List MemPlace),
  DataW.trod enc Tryz.prog W base spare held fuel t cs=some x→∃fs d,R W fs cs d
def IB:Aw Bool:=fun _ fs cs x => fs= []∧cs= [.bool x]
theorem IB.local_:AZ IB:=fun _ _ _ _ _ h _ => h
theorem IB.fixed:Bh IB:=fun _ _ _ _ h a ha => by rw[h.1]at ha;cases ha
theorem Ll {t:TypeId}(ht:Tryz.prog.underlying t=some (.int .u8)):Fh t AG:=by
 intro H enc W base spare held fuel cs x h;obtain⟨n,e,_,hw⟩:=DataW.trod_int ht h;simp[Lit.wf,IntKind.min,IntKind.max,IntKind.bits,IntKind.signed]at hw;refine⟨[],UInt8.ofNat n.toNat,rfl,?_⟩;rw[e];have:((UInt8.ofNat n.toNat).toNat:Int)=n:=by
  rw[UInt8.toNat_ofNat'];omega
 show [Value.int .u8 n] = [Value.int .u8 _]
 rw[this]
theorem JX {α:Type} {t e:TypeId} {R:Aw α} {k:Nat}(ht:Tryz.prog.underlying t=some (.slice e))(hk:Tryz.prog.cellsOf e=k)(hR:Fh e R):Fh t (Am k R):=by
 intro H enc W base spare held fuel cs x h;rcases Go.Deep.open_slice ht h with⟨rfl,_⟩|⟨a,len,cap,m,n,D,Pl,rfl,_,hl,hc,hm,_,hel⟩
 ·exact⟨[],[],_,rfl,none,0,rfl,Nat.le_refl _,by omega,.inl ⟨rfl,rfl⟩⟩
 ·have hlm:len≤m:=by rw[hm];split <;> omega
  have key:∀i:Fin len,∃q:List Addr × α × List Value,q.2.2.length=k∧(∀j,(hj:j<q.2.2.length)→W.cell? (a.add (i.1 * k+j))=some q.2.2[j])∧R W q.1 q.2.2 q.2.1:=by
   intro i;obtain⟨cs',h1,h2⟩:=hel i.1 (by omega);obtain⟨_,h3,h4⟩:=World.cells?_some h1;obtain⟨fs,d,h5⟩:=hR _ _ _ _ _ _ _ _ _ h2;refine⟨(fs,d,cs'),by rw[h3,hk],fun j hj => ?_,h5⟩;have h6:=h4 j (by simpa [h3]using hj);rw[IG,hk]at h6;rw[h6];exact List.getElem?_eq_getElem hj
  let Q:=fun i:Fin len => Classical.choose (key i)
  have HQ:=fun i:Fin len => Classical.choose_spec (key i)
  refine⟨Az a (len * k) ++(List.ofFn fun i =>(Q i).1).flatten,List.ofFn fun i =>(Q i).2.1,_,rfl,some a,cap,by simp,by simpa using hl,by simpa [maxLen]using hc,.inr ⟨a,List.ofFn fun i =>(Q i).2.2,List.ofFn fun i =>(Q i).1,rfl,by simp,by simp,by simp,?_⟩⟩;intro i hi;simp only[List.length_ofFn]at hi;obtain⟨q1,q2,q3⟩:=HQ ⟨i,hi⟩;refine⟨by simpa using hi,by simpa using hi,by simpa using q1,fun j hj => ?_,by simpa using q3⟩;simp only[List.getElem_ofFn]at hj⊢;exact q2 j hj
theorem JW:Fh 22 (Am 1 AG):=JX Tryz.underlying22 (by kernel_rfl) (Ll Tryz.underlying5)
theorem Fh.arg {α:Type} {t:TypeId} {R:Aw α}(h:Fh t R) {H:Type} {enc:TypeId × Value→H} {W:World} {base:Nat} {spare:Nat→Bool} {held:Bool} {v:Value} {d:DataW H} {p:List MemPlace}
  (hv:DataW.Trod enc Tryz.prog W base spare held t v d p):∃fs x,R W fs v.cells.toList x:=by
 obtain⟨fuel,hf⟩:=hv;exact h _ _ _ _ _ _ _ _ _ hf
theorem Lx {α:Type} {t e:TypeId} {R:Aw α} {k:Nat}(ht:Tryz.prog.underlying t=some (.slice e))(h:Fh t (Am k R)) {H:Type} {enc:TypeId × Value→H} {W:World} {r:Reach} {b0 base:Nat} {spare:Nat→Bool} {held:Bool} {v:Value} {d:DataW H} {p:List MemPlace}
  (ho:Value.okWide Tryz.prog W r b0 t v) (hv:DataW.Trod enc Tryz.prog W base spare held t v d p):∃fs x,rSl k R W fs v x:=by
 obtain⟨a,n,c,rfl⟩:=okWide_slice ht ho;obtain⟨fs,x,v',e,hx⟩:=h.arg hv;simp[Value.cells]at e;subst e;exact⟨fs,x,hx⟩
theorem Tryz.own:ownKnob Tryz.prog.godebug=none:=by kernel_rfl
theorem Tryz.laidOut:laidOutB Tryz.prog=true:=by kernel_rfl
end Go.Proofs.YthbljikbnoghcaaGreat
