/-
  Part 11 of the proof; the last part states and proves the statement.
-/
import Derived.Test.YtfjkoifpdoemdaaGreatK10
import Derived.Test.YtfjkoifpdoemdaaGreatK09
import Derived.Lib.SliceRun
set_option maxHeartbeats 8000000
set_option maxRecDepth 100000
set_option linter.unusedVariables false
set_option linter.unusedSimpArgs false
open Go.Value (int)
open Go.IntKind (i64)
namespace Go.Proofs.YtfjkoifpdoemdaaGreat
open Go.RowKit Go.Lib Go.Sort
def Ba.sh(s:Ba):Sh:=⟨s.g,s.c,s.data,s.p,s.rows,s.cap,s.b,s.q,s.t⟩
theorem isData_c(s:Sh)(h:s.Ok)(g:Int)(w:World) :
  Calls Tryz.prog 187 #[shV s,int i64 g] w fun e w' => e= .returned (.bool (Aj g 0 (s.g - 1)))∧Below w.heap.size w w':=by
 obtain⟨a1,a2⟩:=h.g;unfold shV;go_enter Tryz.func187,Tryz.ntmps187
 go_wp2_with (go_at_call 100;refine(Be _ _ _ _).mono ?_;rintro e w' ⟨rfl,rfl⟩)
 go_ret
 exact⟨rfl,(Below.refl _ _).alloc (Nat.le_refl _) _⟩
theorem Ij(s:Sh)(h:s.Ok)(g:Int)(w:World) :
  Calls Tryz.prog 45 #[shV s,int i64 g] w fun e w' => e= .returned (.bool (Aj g 0 (s.rows - 1)))∧Below w.heap.size w w':=by
 obtain⟨a1,a2⟩:=h.rows;unfold shV;go_enter Tryz.func45,Tryz.ntmps45
 go_wp2_with (go_at_call 100;refine(Be _ _ _ _).mono ?_;rintro e w' ⟨rfl,rfl⟩)
 go_ret
 exact⟨rfl,(Below.refl _ _).alloc (Nat.le_refl _) _⟩
theorem ET(s:Sh)(h:s.Ok)(g:Int)(w:World) :
  Calls Tryz.prog 54 #[shV s,int i64 g] w fun e w' => e= .returned (.bool (Aj g 0 (s.g+s.c - 1)))∧Below w.heap.size w w':=by
 obtain⟨a1,a2⟩:=h.g;obtain⟨b1,b2⟩:=h.c;have HK:=hid (Blk.rangeAll (cs:=[int i64 s.g,int i64 s.c,int i64 s.data,int i64 s.p,int i64 s.rows,int i64 s.cap,int i64 s.b,int i64 s.q,int i64 s.t]) (Blk.new w 31 _));have HC:=hid (fun W => DV s h W);unfold shV at HC⊢;go_enter Tryz.func54,Tryz.ntmps54
 go_wp2_with (first
  |(refine wpList_load_mid rfl 31 (.tmp 2) rfl w.heap.size 0 rfl _ _ HK.out Tryz.underlying31 rfl (by kernel_rfl) ?_)
  |(go_at_call 101;refine(HC.out _).mono ?_;rintro e w1 ⟨rfl,hb1⟩;have B1:=hid hb1;clear hb1)
  |(go_at_call 100;refine(Be _ _ _ _).mono ?_;rintro e w' ⟨rfl,rfl⟩))
 go_ret
 exact⟨rfl,((Below.refl _ _).alloc (Nat.le_refl _) _).trans (B1.out.mono (by simp))⟩
def letB(c:UInt8):Bool:=decide (97≤c.toNat) && decide (c.toNat≤122)
def digB(c:UInt8):Bool:=decide (48≤c.toNat) && decide (c.toNat≤57)
def Cs(i:Nat)(c:UInt8):Bool:=letB c||(decide (0<i) && digB c)
def Dt(l:List UInt8)(k:Nat):Prop:=∀i,(h:i<l.length)→i<k→Cs i l[i] =true
instance (l:List UInt8) (k:Nat):Decidable (Dt l k):=by unfold Dt;infer_instance
def BY(l:List UInt8):Bool:=decide (Dt l l.length) && (decide (1≤l.length) && decide (l.length≤8))
def Bb(l:List UInt8):Int:=if BY l=true then 0 else 5
theorem GG(l:List UInt8):Dt l 0:=fun _ _ h => by omega
theorem GF {l:List UInt8} {k:Nat}(h:Dt l k)(hk:k<l.length)(hs:Cs k l[k] =true):Dt l (k+1):=fun i hi hik => by
 by_cases e:i=k
 ·subst e;exact hs
 ·exact h i hi (by omega)
theorem EF {l:List UInt8} {k:Nat}(hk:k<l.length)(hs:Cs k l[k] =false):Bb l=5:=by
 unfold Bb BY;rw[if_neg];intro h;simp only[Bool.and_eq_true,decide_eq_true_eq]at h;have:=h.1 k hk hk;rw[hs]at this;cases this
theorem EG {l:List UInt8}(h:l.length<1∨8<l.length):Bb l=5:=by
 unfold Bb BY;rw[if_neg];intro h2;simp only[Bool.and_eq_true,decide_eq_true_eq]at h2;omega
theorem Gz {l:List UInt8}(h:Dt l l.length)(h1:1≤l.length)(h2:l.length≤8):Bb l=0:=by
 unfold Bb BY;rw[if_pos];simp only[Bool.and_eq_true,decide_eq_true_eq];exact⟨h,h1,h2⟩
def CA(l:List Int)(hi:Int)(k:Nat):Prop:=∀i,(h:i<l.length)→i<k→Aj l[i] 0 hi=true∧l[i]∉l.take i
instance (l:List Int) (hi:Int) (k:Nat):Decidable (CA l hi k):=by unfold CA;infer_instance
def CV(l:List Int)(hi:Int):Bool:=decide (CA l hi l.length)
theorem E6(l:List Int)(hi:Int):CA l hi 0:=fun _ _ h => by omega
theorem E4 {l:List Int} {hi:Int} {k:Nat}(h:CA l hi k)(hk:k<l.length)(h1:Aj l[k] 0 hi=true)(h2:l[k]∉l.take k):CA l hi (k+1):=fun i hi hik => by
 by_cases e:i=k
 ·subst e;exact⟨h1,h2⟩
 ·exact h i hi (by omega)
theorem Fw {l:List Int} {hi:Int} {k:Nat}(hk:k<l.length)(h:Aj l[k] 0 hi=false∨l[k]∈l.take k):∀m,k<m→¬CA l hi m:=fun m hm ha => by
 obtain⟨h1,h2⟩:=ha k hk hm;rcases h with h|h
 ·rw[h]at h1;cases h1
 ·exact h2 h
theorem Jf {l:List Int} {hi:Int}(h:CA l hi l.length):CV l hi=true:=by unfold CV;simpa using h
theorem Fv {l:List Int} {hi:Int} {k:Nat}(hk:k<l.length)(h:Aj l[k] 0 hi=false∨l[k]∈l.take k):CV l hi=false:=by
 unfold CV;simpa using Fw hk h _ hk
def DS(l:List Int)(hi:Int)(k:Nat):Prop:=∀i,(h:i<l.length)→i<k→Aj l[i] 0 hi=true∧(0<i→l[i - 1] <l[i])
instance (l:List Int) (hi:Int) (k:Nat):Decidable (DS l hi k):=by unfold DS;infer_instance
def Ch(l:List Int)(hi:Int):Bool:=decide (DS l hi l.length)
theorem Hq(l:List Int)(hi:Int):DS l hi 0:=fun _ _ h => by omega
theorem Hp {l:List Int} {hi:Int} {k:Nat}(h:DS l hi k)(hk:k<l.length)(h1:Aj l[k] 0 hi=true)(h2:0<k→l[k - 1] <l[k]):DS l hi (k+1):=fun i hi hik => by
 by_cases e:i=k
 ·subst e;exact⟨h1,h2⟩
 ·exact h i hi (by omega)
theorem KJ {l:List Int} {hi:Int}(h:DS l hi l.length):Ch l hi=true:=by unfold Ch;simpa using h
theorem KI {l:List Int} {hi:Int} {k:Nat}(hk:k<l.length)(h:Aj l[k] 0 hi=false∨(0<k∧l[k]≤l[k - 1])):Ch l hi=false:=by
 unfold Ch;simp only[decide_eq_false_iff_not];intro ha;obtain⟨h1,h2⟩:=ha k hk hk;rcases h with h|⟨h,h3⟩
 ·rw[h]at h1;cases h1
 ·have:=h2 h;omega
def CD(s:Sh)(n:Int):Bool:=decide (1≤n∧n≤12 * s.data)
def Bp(s:Sh)(n:Int):Int:=(n - 1) / (4 * s.data)+1
theorem IJ {s:Sh}(h:s.Ok) {n:Int}(h1:1≤n):Bp s n≤3↔n≤12 * s.data:=by
 have:=h.data;have h4:0<4 * s.data:=by omega
 unfold Bp;constructor
 ·intro h2;have h3:(n - 1) / (4 * s.data)<3:=by omega
  rw[Int.ediv_lt_iff_lt_mul h4]at h3;omega
 ·intro h2;have h3:(n - 1) / (4 * s.data)<3:=by
   rw[Int.ediv_lt_iff_lt_mul h4];omega
  omega
def BP(s:Sh)(r:Ag):Bool :=
 if r.length= -1 then decide (r.data.length=0) && decide (r.rows.length=0)else
  CD s r.length && (if 0<r.data.length then decide ((r.data.length:Int)=r.length) && decide (r.rows.length=0)else decide ((r.rows.length:Int)=Bp s r.length) && CV r.rows (s.rows - 1))
def CX(s:Sh)(r:Ag):Bool:=Aj r.group 0 (s.g - 1) && (Aj r.row 0 (s.rows - 1) && (decide ((r.data.length:Int)=4 * s.data) && decide ((r.delta.length:Int)=4 * s.data)))
def doneB(s:Sh)(r:Ag):Bool:=Aj r.group 0 (s.g+s.c - 1)
def BN(r:Ag)(k:Int):Bool:=decide (r.delta.getD k.toNat 0≠0)
def Bt(s:Sh)(r:Ag):Bool:=Aj r.group 0 (s.g+s.c - 1) && (Aj r.row 0 (s.rows - 1) && (Ch r.rows (s.g+s.c - 1) && (decide ((r.data.length:Int)=4 * s.data) && (decide ((r.delta.length:Int)=s.g+s.c) && (!BN r r.group && r.rows.all (BN r))))))
def Dp(r:Ag):Bool :=
 if r.kind=1 then decide (r.group=0∧r.row=0∧r.delta= [])else if r.kind=2 then decide (r.name=⟨#[]⟩∧r.length=0∧r.rows= [])
 else if r.kind=3 then decide (r.name=⟨#[]⟩∧r.length=0∧r.row=0∧r.rows= []∧r.data= []∧r.delta= [])else decide (r.name=⟨#[]⟩∧r.length=0)
def AT(s:Sh)(r:Ag):Int :=
 if r.kind=1 then(if BY r.name.data.toList=true then(if BP s r=true then 0 else 3)else 5)else if r.kind=2 then(if CX s r=true then 0 else 3)
 else if r.kind=3 then(if doneB s r=true then 0 else 3)else(if Bt s r=true then 0 else 3)
def Az(s:Sh)(r:Ag):Int :=
 if Aj r.kind 1 4=true then(if Aj r.seq 1 1000000000=true then(if AT s r=0 then(if Dp r=true then 0 else 1)else AT s r)else 3)else 5
def Ct(b:By):Bool:=Aj b.stamp 0 1000000000 && decide (b.bytes.length=4)
def CC(s:Sh)(d:AU):Bool:=decide ((d.blocks.length:Int)=s.rows) && d.blocks.all Ct
def CP(s:Sh)(g:List AU):Bool:=decide ((g.length:Int)=s.data+s.p) && g.all (CC s)
def Bo(s:Sh)(gs:List (List AU)):Bool:=decide ((gs.length:Int)=s.g+s.c) && gs.all (CP s)
def onB(s:Sh)(on:List Int)(down:Bool):Bool:=CV on (s.g+s.c - 1) && (decide ((on.length:Int)≤s.cap) && (decide (on.length=0)||!down))
def AX(s:Sh):List Ag→Int
 | [] => 0
 |r :: l => if Az s r=0 then AX s l else Az s r
theorem Em(s:Sh):∀(a b:List Ag),AX s a=0→AX s (a ++ b)=AX s b
 | [],b,_ => rfl
 |r :: l,b,h => by
  unfold AX at h;split at h
  ·rename_i h0
   rw[List.cons_append];show(if Az s r=0 then AX s (l ++ b)else Az s r)=AX s b
   rw[if_pos h0];exact Em s l b h
  ·rename_i h0;exact absurd h h0
def Bj(s:Sh)(ts:List AS):Int :=
 if ts.any (fun t => decide (200<t.recs.length))=true then 2 else if AX s (ts.flatMap AS.recs)=0 then(if ts.any (fun t => t.wiped && decide (0<t.recs.length))=true then 1 else 0)else AX s (ts.flatMap AS.recs)
def AI(d:AC):Int :=
 if shB d.s.sh=true then
  (if(Bo d.s.sh d.g && (onB d.s.sh d.on d.down && decide (d.v.length=2)))=true then
   (if Bj d.s.sh d.v=0 then(if(Aj d.u 0 1000000000 && Aj d.stop (-1) 1000000000)=true then 0 else 3)else Bj d.s.sh d.v)
  else 1)
 else 3
structure BU (w:World) (base g n:Nat) (got:Nat→Option Ag):Prop where
 there:w.there g 0 (n * 9)
 lo:base≤g
 lt:g<w.heap.size
 el:∀i,i<n→∀d,got i=some d→∃cs fk,Ac w fk cs d∧w.rangeAt g (i * 9) cs∧∀a,a∈fk→a.block<base
theorem BU.below {w w':World} {base g n:Nat} {got:Nat→Option Ag}(h:BU w base g n got)(hb:Below w.heap.size w w'):BU w' base g n got :=
 ⟨fun j hj =>⟨by rw[hb.cell (p:=⟨g,0+j,none⟩) h.lt];exact(h.there j hj).1,by rw[hb.frozen (p:=⟨g,0+j,none⟩) h.lt];exact(h.there j hj).2⟩,h.lo,Nat.lt_of_lt_of_le h.lt hb.size,fun i hi d hd => by
  obtain⟨cs,fk,h1,h2,h3⟩:=h.el i hi d hd;exact⟨cs,fk,Ap.below Ac.local_ Ac.fixed h1 hb,fun q v hq =>(hb.cell (p:=⟨g,i * 9+q,none⟩) h.lt).trans (h2 q v hq),h3⟩⟩
theorem BU.got_ {w:World} {base g n:Nat} {got got':Nat→Option Ag}(h:BU w base g n got)(hg:∀i,i<n→∀d,got' i=some d→got i=some d):BU w base g n got' :=
 ⟨h.there,h.lo,h.lt,fun i hi d hd => h.el i hi d (hg i hi d hd)⟩
theorem IR {w:World} {g n:Nat}(h:w.there g 0 n)(b o:Nat)(vs:List Value):(w.setCells b o vs).there g 0 n:=fun j hj => by
 refine⟨?_,by rw[World.frozen?_setCells];exact(h j hj).2⟩;have:∀(vs:List Value) (o:Nat) (w:World),(w.cell? ⟨g,0+j,none⟩).isSome =true→((w.setCells b o vs).cell? ⟨g,0+j,none⟩).isSome =true:=by
  intro vs;induction vs with
  |nil => intro o w h;exact h
  |cons v r ih =>
   intro o w h;refine ih (o+1) _ ?_;by_cases e:(⟨b,o,none⟩:Addr)=⟨g,0+j,none⟩
   ·rw[e,World.cell?_setCell_same' _ _ _ (by simpa using h)];rfl
   ·rw[World.cell?_setCell_other _ _ _ _ e];exact h
 exact this vs o w (h j hj).1
theorem BU.store {w:World} {base g n:Nat} {got:Nat→Option Ag}(h:BU w base g n got) {i:Nat}(hi:i<n) {cs:List Value} {fk:List Addr} {d:Ag}(hr:Ac w fk cs d)(hf:∀a,a∈fk→a.block<base):BU (w.setCells g (i * 9) cs) base g n (fun q => if q=i then some d else got q):=by
 have hlo:=h.lo;have hlen:=Ac.wide _ _ _ _ hr;have same:∀a:Addr,a.block<base→(w.setCells g (i * 9) cs).cell? a=w.cell? a:=fun a ha => World.cell?_setCells_out g cs (i * 9) w a (fun e => by omega)
 refine⟨IR h.there _ _ _,hlo,by rw[size_setCells];exact h.lt,fun q hq e he => ?_⟩;by_cases hqi:q=i
 ·subst hqi;simp only[if_true]at he;injection he with he
  subst he;refine⟨cs,fk,Ac.local_ _ _ _ _ _ hr (fun a ha => same a (hf a ha)),World.rangeAt_setCells_same _ _ _ _ (fun j hj => ?_),hf⟩;have:=h.there (q * 9+j) (by omega);rw[Nat.zero_add]at this;exact this
 ·simp only[hqi,if_false]at he;obtain⟨cs2,fk2,h1,h2,h3⟩:=h.el q hq e he;have hl2:=Ac.wide _ _ _ _ h1;exact⟨cs2,fk2,Ac.local_ _ _ _ _ _ h1 (fun a ha => same a (h3 a ha)),World.rangeAt_setCells_apart h2 _ _ _ (by
   right
   rw[hlen,hl2];rcases Nat.lt_or_ge q i with hlt|hge
   ·left;omega
   ·right;omega),h3⟩
theorem BU.cleared {w:World} {base g n:Nat} {got:Nat→Option Ag}(h:BU w base g n got)(i:Nat)(vs:List Value):BU (w.setCells g (i * 9) vs) base g n (fun q => if q<i then got q else none):=by
 have hlo:=h.lo;have same:∀a:Addr,a.block<base→(w.setCells g (i * 9) vs).cell? a=w.cell? a:=fun a ha => World.cell?_setCells_out g vs (i * 9) w a (fun e => by omega)
 refine⟨IR h.there _ _ _,hlo,by rw[size_setCells];exact h.lt,fun q hq e he => ?_⟩;by_cases hqi:q<i
 ·simp only[hqi,if_true]at he;obtain⟨cs2,fk2,h1,h2,h3⟩:=h.el q hq e he;have hl2:=Ac.wide _ _ _ _ h1;exact⟨cs2,fk2,Ac.local_ _ _ _ _ _ h1 (fun a ha => same a (h3 a ha)),World.rangeAt_setCells_apart h2 _ _ _ (by right;left;rw[hl2];omega),h3⟩
 ·simp only[hqi,if_false]at he;cases he
theorem BU.of_own {w:World} {base g n c:Nat} {E:TypeId} {ds:List Ag} {fs:List Addr}(h:Ao 9 E Ac w base (.slice (some ⟨g,0,none⟩) n c) ds fs)(hfs:∀a,a∈fs→a.block<base):BU w base g n (fun i => ds[i]?)∧n=ds.length∧n≤c∧c≤9223372036854775807:=by
 obtain⟨A',c',e,hc,hm⟩:=h.length;injection e with e1 e2 e3
 subst e2 e3;obtain⟨css,fss,h1,h2,rfl,⟨hl,ht⟩,h5,h6⟩:=h;rcases ht with⟨e,_⟩|⟨g',cap,cur,e,q1,q2,q3,q4,q5,q6⟩
 ·cases e
 ·injection e with e1 e2 e3
  injection e1 with e1
  injection e1 with e1 _ _
  subst e1 e3;have hblk:Blk w g E cur:=q2;have hw:∀c,c∈css→c.length=9:=by
   intro c hc;obtain⟨i,hi,rfl⟩:=List.getElem_of_mem hc;obtain⟨_,_,p3,_⟩:=h5 i (by omega);exact p3
  refine⟨⟨hblk.there (ds.length * 9) (by rw[q5];exact Nat.mul_le_mul_right _ q3),q1,hblk.lt,fun i hi d hd => ?_⟩,rfl,hc,hm⟩;obtain⟨p1,p2,p3,p4⟩:=h5 i hi;rw[List.getElem?_eq_getElem hi]at hd;injection hd with hd
  subst hd;refine⟨css[i],fss[i],p4,fun q v hq => ?_,fun a ha => hfs a (List.mem_flatten.2 ⟨_,List.getElem_mem p2,ha⟩)⟩;have hq1:q<css[i].length:=(List.getElem?_eq_some_iff.1 hq).1;rw[hblk.cell];have e7:=Dk css hw i q p1 (by omega);rw[← q6,List.getElem?_take,if_pos (by omega),Array.getElem?_toList]at e7;rw[e7,hq]
theorem BU.reads {w:World} {base g n:Nat} {got:Nat→Option Ag}(h:BU w base g n got) {L:List Ag} {c:Nat}(hL:L.length≤n)(hc:L.length≤c)(hc2:c≤9223372036854775807)(hg:∀i,(hi:i<L.length)→got i=some L[i]):∃fs,rSl 9 Ac w fs (.slice (some ⟨g,0,none⟩) L.length c) L:=by
 have hex:∀i:Fin L.length,∃q:List Value × List Addr,Ac w q.2 q.1 (L[i.1]'i.2)∧w.rangeAt g (i.1 * 9) q.1:=fun i => by
  obtain⟨cs,fk,h1,h2,-⟩:=h.el i.1 (by omega) _ (hg i.1 i.2);exact⟨(cs,fk),h1,h2⟩
 obtain⟨Q,hQ⟩:=Classical.axiomOfChoice hex;refine⟨_,some ⟨g,0,none⟩,c,rfl,hc,hc2,.inr ⟨⟨g,0,none⟩,List.ofFn fun i =>(Q i).1,List.ofFn fun i =>(Q i).2,rfl,by simp,by simp,rfl,fun i hi => ?_⟩⟩;obtain⟨h1,h2⟩:=hQ ⟨i,hi⟩;refine⟨by simpa using hi,by simpa using hi,by simpa using Ac.wide _ _ _ _ h1,fun j hj => ?_,by simpa using h1⟩;simp only[List.getElem_ofFn]at hj⊢;rw[CO];exact h2 j _ (List.getElem?_eq_getElem hj)
theorem IU {α:Type} {keep:α→Bool} {ds:List α} {j:Nat}(hj:j<ds.length)(h:keep ds[j] =true):(ds.take (j+1)).filter keep=(ds.take j).filter keep ++ [ds[j]]:=by
 rw[List.take_succ_eq_append_getElem hj,List.filter_append];simp[h]
theorem FI {α:Type} {keep:α→Bool} {ds:List α} {j:Nat}(hj:j<ds.length)(h:keep ds[j] =false):(ds.take (j+1)).filter keep=(ds.take j).filter keep:=by
 rw[List.take_succ_eq_append_getElem hj,List.filter_append];simp[h]
theorem Ir(w:World)(ty:TypeId)(g o n c:Nat)(hn:0<n)(ht:w.there g o (n * 9)):∃vs:List Value,(Builtin.clear_ #[80] ty #[.slice (some ⟨g,o,none⟩) n c]).run Tryz.prog w= .ok (.tuple #[]) (w.setCells g o vs):=by
 refine⟨(Builtin.zeroCells #[int i64 0,int i64 0,.string ⟨#[]⟩,int i64 0,int i64 0,int i64 0,.slice none 0 0,.slice none 0 0,.slice none 0 0] n).toList,?_⟩;have hlen:(Builtin.zeroCells #[int i64 0,int i64 0,.string ⟨#[]⟩,int i64 0,int i64 0,int i64 0,.slice none 0 0,.slice none 0 0,.slice none 0 0] n).toList.length =n * 9:=by simp[Builtin.zeroCells]
 have hst:=run_storeCells_cells (P:=Tryz.prog) g o _ 0 w (fun j hj => by rw[hlen]at hj;have:=(ht j hj).1;simpa using this) (fun j hj => by rw[hlen]at hj;have:=(ht j hj).2;simpa using this) (by
  intro v hv;simp only[Builtin.zeroCells,Array.toList_map,List.mem_map]at hv;obtain⟨i,-,rfl⟩:=hv;have:i % 9<9:=Nat.mod_lt _ (by omega);generalize hq:i % 9=q at this;match q,this with
  |0,_ => rfl
  |1,_ => rfl
  |2,_ => rfl
  |3,_ => rfl
  |4,_ => rfl
  |5,_ => rfl
  |6,_ => rfl
  |7,_ => rfl
  |8,_ => rfl)
 obtain⟨m,rfl⟩:∃m,n=m+1:=⟨n - 1,by omega⟩;generalize hz:(Builtin.zeroCells #[int i64 0,int i64 0,.string ⟨#[]⟩,int i64 0,int i64 0,int i64 0,.slice none 0 0,.slice none 0 0,.slice none 0 0] (m+1)).toList =Z at hst hlen⊢;simp only[Nat.add_zero]at hst;have hv:=Tryz.zeroValue119;simp[Builtin.clear_,run_underlying Tryz.underlying80,hv,Value.cells,hz,hst]
theorem Dd(d:AC):(AV d).length≤(CJ d).length:=by
 unfold AV;rw[G7];exact EB _ _ rfl
end Go.Proofs.YtfjkoifpdoemdaaGreat
