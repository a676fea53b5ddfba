/-
  Part 1 of the proof; the last part states and proves the statement.
-/
import Derived.Test.YtfjkoifpdoemdaaGreatK00
import Derived.ProofKit
import Derived.Deep.Slices
import Derived.ChangeArms
import Derived.Deep.MidRow
set_option maxHeartbeats 8000000
set_option maxRecDepth 100000
set_option linter.unusedVariables false
set_option linter.unusedSimpArgs false
namespace Go.Proofs.YtfjkoifpdoemdaaGreat
open Go.RowKit Go.ChangeShapes Go.WideShapes
open Go.Lib (hid)
def Bw {α:Type}(t:TypeId)(R:Ap α):Prop :=
 ∀(H:Type) (enc:TypeId × Value→H) (W:World) (base:Nat) (spare:Nat→Bool) (held:Bool) (fuel:Nat) (cs:List Value) (x:DataW H × List MemPlace),
  DataW.trod enc Tryz.prog W base spare held fuel t cs=some x→∃fs d,R W fs cs d
def Hn:Ap Bool:=fun _ fs cs x => fs= []∧cs= [.bool x]
theorem Hn.local_:Bm Hn:=fun _ _ _ _ _ h _ => h
theorem Hn.fixed:Bv Hn:=fun _ _ _ _ h a ha => by rw[h.1]at ha;cases ha
theorem AW {t:TypeId}(ht:Tryz.prog.underlying t=some (.int .i64)):Bw t Al:=by
 intro H enc W base spare held fuel cs x h;obtain⟨n,e,_,hw⟩:=DataW.trod_int ht h;refine⟨[],n,rfl,e,?_⟩;simp[Lit.wf,IntKind.min,IntKind.max,IntKind.bits,IntKind.signed]at hw;omega
theorem Lz {t:TypeId}(ht:Tryz.prog.underlying t=some (.int .u8)):Bw t Av:=by
 intro H enc W base spare held fuel cs x h;obtain⟨n,e,_,hw⟩:=DataW.trod_int ht h;simp[Lit.wf,IntKind.min,IntKind.max,IntKind.bits,IntKind.signed]at hw;refine⟨[],UInt8.ofNat n.toNat,rfl,?_⟩;rw[e];have:((UInt8.ofNat n.toNat).toNat:Int)=n:=by
  rw[UInt8.toNat_ofNat'];omega
 show [Value.int .u8 n] = [Value.int .u8 _]
 rw[this]
theorem FC {t:TypeId}(ht:Tryz.prog.underlying t=some .bool):Bw t Hn:=by
 intro H enc W base spare held fuel cs x h;obtain⟨n,e,_⟩:=DataW.trod_bool ht h;exact⟨[],n,rfl,e⟩
theorem II {t:TypeId}(ht:Tryz.prog.underlying t=some .string):Bw t FD:=by
 intro H enc W base spare held fuel cs x h;obtain⟨n,e,_,hs⟩:=DataW.trod_string ht h;exact⟨[],n,rfl,e,by simpa [maxLen]using hs⟩
theorem Cj {α:Type} {t e:TypeId} {R:Ap α} {k:Nat}(ht:Tryz.prog.underlying t=some (.slice e))(hk:Tryz.prog.cellsOf e=k)(hR:Bw e R):Bw t (Ai k R):=by
 intro H enc W base spare held fuel cs x h;rcases Go.Deep.open_slice ht h with⟨rfl,_⟩|⟨a,len,cap,m,n,D,Pl,rfl,_,hl,hc,hm,_,hel⟩
 ·exact⟨[],[],_,rfl,none,0,rfl,Nat.le_refl _,by omega,.inl ⟨rfl,rfl⟩⟩
 ·have hlm:len≤m:=by rw[hm];split <;> omega
  have key:∀i:Fin len,∃q:List Addr × α × List Value,q.2.2.length=k∧(∀j,(hj:j<q.2.2.length)→W.cell? (a.add (i.1 * k+j))=some q.2.2[j])∧R W q.1 q.2.2 q.2.1:=by
   intro i;obtain⟨cs',h1,h2⟩:=hel i.1 (by omega);obtain⟨_,h3,h4⟩:=World.cells?_some h1;obtain⟨fs,d,h5⟩:=hR _ _ _ _ _ _ _ _ _ h2;refine⟨(fs,d,cs'),by rw[h3,hk],fun j hj => ?_,h5⟩;have h6:=h4 j (by simpa [h3]using hj);rw[I9,hk]at h6;rw[h6];exact List.getElem?_eq_getElem hj
  let Q:=fun i:Fin len => Classical.choose (key i)
  have HQ:=fun i:Fin len => Classical.choose_spec (key i)
  refine⟨Bz a (len * k) ++(List.ofFn fun i =>(Q i).1).flatten,List.ofFn fun i =>(Q i).2.1,_,rfl,some a,cap,by simp,by simpa using hl,by simpa [maxLen]using hc,.inr ⟨a,List.ofFn fun i =>(Q i).2.2,List.ofFn fun i =>(Q i).1,rfl,by simp,by simp,by simp,?_⟩⟩;intro i hi;simp only[List.length_ofFn]at hi;obtain⟨q1,q2,q3⟩:=HQ ⟨i,hi⟩;refine⟨by simpa using hi,by simpa using hi,by simpa using q1,fun j hj => ?_,by simpa using q3⟩;simp only[List.getElem_ofFn]at hj⊢;exact q2 j hj
theorem Ef:Bw 39 (Ai 1 Av):=Cj Tryz.underlying39 (by kernel_rfl) (Lz Tryz.underlying5)
theorem Bw.arg {α:Type} {t:TypeId} {R:Ap α}(h:Bw t R) {H:Type} {enc:TypeId × Value→H} {W:World} {base:Nat} {spare:Nat→Bool} {held:Bool} {v:Value} {d:DataW H} {p:List MemPlace}
  (hv:DataW.Trod enc Tryz.prog W base spare held t v d p):∃fs x,R W fs v.cells.toList x:=by
 obtain⟨fuel,hf⟩:=hv;exact h _ _ _ _ _ _ _ _ _ hf
theorem AH {t:TypeId} {flds:Array Field}(ht:Tryz.prog.underlying t=some (.struct flds)) {H:Type} {enc:TypeId × Value→H} {W:World} {base:Nat} {spare:Nat→Bool} {held:Bool} {fuel:Nat} {cs:List Value} {x:DataW H × List MemPlace}
  (h:DataW.trod enc Tryz.prog W base spare held fuel t cs=some x) (i:Nat) (f:Field) (hf:flds[i]? =some f) {α:Type} {R:Ap α} (hR:Bw f.type R) :
  ∃fs d,R W fs ((cs.drop f.offset).take (Tryz.prog.cellsOf f.type)) d:=by
 obtain⟨xs,n,_,_,_,hlen,hg⟩:=DataW.trod_struct ht h;have hi:i<flds.size:=(Array.getElem?_eq_some_iff.1 hf).1;have h1:=hg i f hf;rw[List.getElem?_eq_getElem (by omega)]at h1;exact hR _ _ _ _ _ _ _ _ _ h1
theorem BJ {t:TypeId} {flds:Array Field}(ht:Tryz.prog.underlying t=some (.struct flds)) {H:Type} {enc:TypeId × Value→H} {W:World} {base:Nat} {spare:Nat→Bool} {held:Bool} {fuel:Nat} {cs:List Value} {x:DataW H × List MemPlace}
  (h:DataW.trod enc Tryz.prog W base spare held fuel t cs=some x):cs.length=Tryz.prog.cellsOf t:=by
 obtain⟨_,_,_,_,hl,_⟩:=DataW.trod_struct ht h;exact hl
theorem KL {α:Type} {t:TypeId} {flds:Array Field} {R:Ap α}(ht:Tryz.prog.underlying t=some (.struct flds))(h:Bw t R) {H:Type} {enc:TypeId × Value→H} {W:World} {r:Reach} {b0 base:Nat} {spare:Nat→Bool} {held:Bool} {v:Value} {d:DataW H} {p:List MemPlace}
  (ho:Value.okWide Tryz.prog W r b0 t v) (hv:DataW.Trod enc Tryz.prog W base spare held t v d p):∃fs x,∃cs:Array Value,v= .agg cs∧R W fs cs.toList x:=by
 obtain⟨cs,rfl,_⟩:=okWide_struct ht ho;obtain⟨fs,x,hx⟩:=h.arg hv;exact⟨fs,x,cs,rfl,by simpa [Value.cells]using hx⟩
theorem Tryz.own:ownKnob Tryz.prog.godebug=none:=by kernel_rfl
theorem Tryz.laidOut:laidOutB Tryz.prog=true:=by kernel_rfl
end Go.Proofs.YtfjkoifpdoemdaaGreat
namespace Go.Proofs.YtfjkoifpdoemdaaGreat
open Go.RowKit Go.Sort
open Go.Lib (hid)
def okI(x:Int):Prop:=-9223372036854775808≤x∧x≤9223372036854775807
structure Ba where
 g:Int
 c:Int
 data:Int
 p:Int
 rows:Int
 cap:Int
 b:Int
 q:Int
 t:Int
deriving DecidableEq
structure By where
 stamp:Int
 bytes:List UInt8
deriving DecidableEq
structure AU where
 wiped:Bool
 blocks:List By
deriving DecidableEq
structure Ag where
 kind:Int
 seq:Int
 name:ByteArray
 length:Int
 group:Int
 row:Int
 rows:List Int
 data:List UInt8
 delta:List UInt8
deriving DecidableEq
structure AS where
 wiped:Bool
 recs:List Ag
deriving DecidableEq
structure AC where
 s:Ba
 g:List (List AU)
 on:List Int
 v:List AS
 u:Int
 stop:Int
 down:Bool
deriving DecidableEq
structure An where
 id:Int
 kind:Int
 name:ByteArray
 group:Int
deriving DecidableEq
structure AK where
 id:Int
 code:Int
 turn:Int
 bytes:List UInt8
deriving DecidableEq
structure AJ where
 queues:List (List An)
 aside:List An
 answers:List AK
 turn:Int
 next:Int
deriving DecidableEq
structure AY where
 world:AC
 desk:AJ
deriving DecidableEq
structure Fj where
 code:Int
 id:Int
 archive:AY
deriving DecidableEq
def Di:Ap Ba:=fun _ fs cs d => cs= [.int .i64 d.g,.int .i64 d.c,.int .i64 d.data,.int .i64 d.p,.int .i64 d.rows,.int .i64 d.cap,.int .i64 d.b,.int .i64 d.q,.int .i64 d.t]∧fs= []∧okI d.g∧okI d.c∧okI d.data∧okI d.p∧okI d.rows∧okI d.cap∧okI d.b∧okI d.q∧okI d.t
theorem Di.local_:Bm Di:=fun _ _ _ _ _ h _ => h
theorem Di.fixed:Bv Di:=fun _ _ _ _ h a ha => by rw[h.2.1]at ha;cases ha
theorem Di.ones:∀(w:World) (f:List Addr) (cs:List Value) (d:Ba),Di w f cs d→∀u,u∈cs→u.oneCell'=true:=by
 rintro w fs cs d ⟨e,ef,o0,o1,o2,o3,o4,o5,o6,o7,o8⟩ u hu;subst e;simp only[List.mem_cons,List.not_mem_nil,or_false]at hu;rcases hu with rfl|rfl|rfl|rfl|rfl|rfl|rfl|rfl|rfl <;> rfl
theorem Di.wide:Ek 9 Di:=by
 rintro w fs cs d ⟨e,ef,o0,o1,o2,o3,o4,o5,o6,o7,o8⟩;subst e;rfl
def AD:Ap By:=fun w fs cs d =>∃(v0:Value) (f0:List Addr),cs= [.int .i64 d.stamp,v0]∧fs=f0∧okI d.stamp∧rSl 1 Av w f0 v0 d.bytes
theorem AD.local_:Bm AD:=by
 rintro w w' fs cs d ⟨v0,f0,e,ef,o0,h0⟩ hs;subst ef;exact⟨v0,_,e,rfl,o0,rSl.keep Av.local_ h0 hs⟩
theorem AD.fixed:Bv AD:=by
 rintro w fs cs d ⟨v0,f0,e,ef,o0,h0⟩ a ha;subst ef;exact rSl.there Av.fixed h0 a ha
theorem AD.ones:∀(w:World) (f:List Addr) (cs:List Value) (d:By),AD w f cs d→∀u,u∈cs→u.oneCell'=true:=by
 rintro w fs cs d ⟨v0,f0,e,ef,o0,h0⟩ u hu;subst e;obtain⟨A0,c0,rfl,-⟩:=rSl.head h0;simp only[List.mem_cons,List.not_mem_nil,or_false]at hu;rcases hu with rfl|rfl <;> rfl
theorem AD.wide:Ek 2 AD:=by
 rintro w fs cs d ⟨v0,f0,e,ef,o0,h0⟩;subst e;rfl
def Ak:Ap AU:=fun w fs cs d =>∃(v0:Value) (f0:List Addr),cs= [.bool d.wiped,v0]∧fs=f0∧rSl 2 AD w f0 v0 d.blocks
theorem Ak.local_:Bm Ak:=by
 rintro w w' fs cs d ⟨v0,f0,e,ef,h0⟩ hs;subst ef;exact⟨v0,_,e,rfl,rSl.keep AD.local_ h0 hs⟩
theorem Ak.fixed:Bv Ak:=by
 rintro w fs cs d ⟨v0,f0,e,ef,h0⟩ a ha;subst ef;exact rSl.there AD.fixed h0 a ha
theorem Ak.ones:∀(w:World) (f:List Addr) (cs:List Value) (d:AU),Ak w f cs d→∀u,u∈cs→u.oneCell'=true:=by
 rintro w fs cs d ⟨v0,f0,e,ef,h0⟩ u hu;subst e;obtain⟨A0,c0,rfl,-⟩:=rSl.head h0;simp only[List.mem_cons,List.not_mem_nil,or_false]at hu;rcases hu with rfl|rfl <;> rfl
theorem Ak.wide:Ek 2 Ak:=by
 rintro w fs cs d ⟨v0,f0,e,ef,h0⟩;subst e;rfl
def Ac:Ap Ag:=fun w fs cs d =>∃(v0:Value) (v1:Value) (v2:Value) (f0:List Addr) (f1:List Addr) (f2:List Addr),cs= [.int .i64 d.kind,.int .i64 d.seq,.string d.name,.int .i64 d.length,.int .i64 d.group,.int .i64 d.row,v0,v1,v2]∧fs=f0 ++(f1 ++(f2))∧okI d.kind∧okI d.seq∧d.name.size≤9223372036854775807∧okI d.length∧okI d.group∧okI d.row∧rSl 1 Al w f0 v0 d.rows∧rSl 1 Av w f1 v1 d.data∧rSl 1 Av w f2 v2 d.delta
theorem Ac.local_:Bm Ac:=by
 rintro w w' fs cs d ⟨v0,v1,v2,f0,f1,f2,e,ef,o0,o1,o2,o3,o4,o5,h0,h1,h2⟩ hs;subst ef;exact⟨v0,v1,v2,_,_,_,e,rfl,o0,o1,o2,o3,o4,o5,rSl.keep Al.local_ h0 hs.left,rSl.keep Av.local_ h1 hs.right.left,rSl.keep Av.local_ h2 hs.right.right⟩
theorem Ac.fixed:Bv Ac:=by
 rintro w fs cs d ⟨v0,v1,v2,f0,f1,f2,e,ef,o0,o1,o2,o3,o4,o5,h0,h1,h2⟩ a ha;subst ef;rcases List.mem_append.1 ha with ha|ha
 ·exact rSl.there Al.fixed h0 a ha
 rcases List.mem_append.1 ha with ha|ha
 ·exact rSl.there Av.fixed h1 a ha
 exact rSl.there Av.fixed h2 a ha
theorem Ac.ones:∀(w:World) (f:List Addr) (cs:List Value) (d:Ag),Ac w f cs d→∀u,u∈cs→u.oneCell'=true:=by
 rintro w fs cs d ⟨v0,v1,v2,f0,f1,f2,e,ef,o0,o1,o2,o3,o4,o5,h0,h1,h2⟩ u hu;subst e;obtain⟨A0,c0,rfl,-⟩:=rSl.head h0;obtain⟨A1,c1,rfl,-⟩:=rSl.head h1;obtain⟨A2,c2,rfl,-⟩:=rSl.head h2;simp only[List.mem_cons,List.not_mem_nil,or_false]at hu;rcases hu with rfl|rfl|rfl|rfl|rfl|rfl|rfl|rfl|rfl <;> rfl
theorem Ac.wide:Ek 9 Ac:=by
 rintro w fs cs d ⟨v0,v1,v2,f0,f1,f2,e,ef,o0,o1,o2,o3,o4,o5,h0,h1,h2⟩;subst e;rfl
def As:Ap AS:=fun w fs cs d =>∃(v0:Value) (f0:List Addr),cs= [.bool d.wiped,v0]∧fs=f0∧rSl 9 Ac w f0 v0 d.recs
theorem As.local_:Bm As:=by
 rintro w w' fs cs d ⟨v0,f0,e,ef,h0⟩ hs;subst ef;exact⟨v0,_,e,rfl,rSl.keep Ac.local_ h0 hs⟩
theorem As.fixed:Bv As:=by
 rintro w fs cs d ⟨v0,f0,e,ef,h0⟩ a ha;subst ef;exact rSl.there Ac.fixed h0 a ha
theorem As.ones:∀(w:World) (f:List Addr) (cs:List Value) (d:AS),As w f cs d→∀u,u∈cs→u.oneCell'=true:=by
 rintro w fs cs d ⟨v0,f0,e,ef,h0⟩ u hu;subst e;obtain⟨A0,c0,rfl,-⟩:=rSl.head h0;simp only[List.mem_cons,List.not_mem_nil,or_false]at hu;rcases hu with rfl|rfl <;> rfl
theorem As.wide:Ek 2 As:=by
 rintro w fs cs d ⟨v0,f0,e,ef,h0⟩;subst e;rfl
def AB:Ap AC:=fun w fs cs d =>∃(v0:Value) (v1:Value) (v2:Value) (f0:List Addr) (f1:List Addr) (f2:List Addr),cs= [.int .i64 d.s.g,.int .i64 d.s.c,.int .i64 d.s.data,.int .i64 d.s.p,.int .i64 d.s.rows,.int .i64 d.s.cap,.int .i64 d.s.b,.int .i64 d.s.q,.int .i64 d.s.t,v0,v1,v2,.int .i64 d.u,.int .i64 d.stop,.bool d.down]∧fs=f0 ++(f1 ++(f2))∧okI d.s.g∧okI d.s.c∧okI d.s.data∧okI d.s.p∧okI d.s.rows∧okI d.s.cap∧okI d.s.b∧okI d.s.q∧okI d.s.t∧okI d.u∧okI d.stop∧rSl 1 (Ai 2 Ak) w f0 v0 d.g∧rSl 1 Al w f1 v1 d.on∧rSl 2 As w f2 v2 d.v
theorem AB.local_:Bm AB:=by
 rintro w w' fs cs d ⟨v0,v1,v2,f0,f1,f2,e,ef,o0,o1,o2,o3,o4,o5,o6,o7,o8,o9,o10,h0,h1,h2⟩ hs;subst ef;exact⟨v0,v1,v2,_,_,_,e,rfl,o0,o1,o2,o3,o4,o5,o6,o7,o8,o9,o10,rSl.keep (Ai.local_ Ak.local_) h0 hs.left,rSl.keep Al.local_ h1 hs.right.left,rSl.keep As.local_ h2 hs.right.right⟩
theorem AB.fixed:Bv AB:=by
 rintro w fs cs d ⟨v0,v1,v2,f0,f1,f2,e,ef,o0,o1,o2,o3,o4,o5,o6,o7,o8,o9,o10,h0,h1,h2⟩ a ha;subst ef;rcases List.mem_append.1 ha with ha|ha
 ·exact rSl.there (Ai.fixed Ak.fixed) h0 a ha
 rcases List.mem_append.1 ha with ha|ha
 ·exact rSl.there Al.fixed h1 a ha
 exact rSl.there As.fixed h2 a ha
theorem AB.ones:∀(w:World) (f:List Addr) (cs:List Value) (d:AC),AB w f cs d→∀u,u∈cs→u.oneCell'=true:=by
 rintro w fs cs d ⟨v0,v1,v2,f0,f1,f2,e,ef,o0,o1,o2,o3,o4,o5,o6,o7,o8,o9,o10,h0,h1,h2⟩ u hu;subst e;obtain⟨A0,c0,rfl,-⟩:=rSl.head h0;obtain⟨A1,c1,rfl,-⟩:=rSl.head h1;obtain⟨A2,c2,rfl,-⟩:=rSl.head h2;simp only[List.mem_cons,List.not_mem_nil,or_false]at hu;rcases hu with rfl|rfl|rfl|rfl|rfl|rfl|rfl|rfl|rfl|rfl|rfl|rfl|rfl|rfl|rfl <;> rfl
theorem AB.wide:Ek 15 AB:=by
 rintro w fs cs d ⟨v0,v1,v2,f0,f1,f2,e,ef,o0,o1,o2,o3,o4,o5,o6,o7,o8,o9,o10,h0,h1,h2⟩;subst e;rfl
def Af:Ap An:=fun _ fs cs d => cs= [.int .i64 d.id,.int .i64 d.kind,.string d.name,.int .i64 d.group]∧fs= []∧okI d.id∧okI d.kind∧d.name.size≤9223372036854775807∧okI d.group
theorem Af.local_:Bm Af:=fun _ _ _ _ _ h _ => h
theorem Af.fixed:Bv Af:=fun _ _ _ _ h a ha => by rw[h.2.1]at ha;cases ha
theorem Af.ones:∀(w:World) (f:List Addr) (cs:List Value) (d:An),Af w f cs d→∀u,u∈cs→u.oneCell'=true:=by
 rintro w fs cs d ⟨e,ef,o0,o1,o2,o3⟩ u hu;subst e;simp only[List.mem_cons,List.not_mem_nil,or_false]at hu;rcases hu with rfl|rfl|rfl|rfl <;> rfl
theorem Af.wide:Ek 4 Af:=by
 rintro w fs cs d ⟨e,ef,o0,o1,o2,o3⟩;subst e;rfl
def Am:Ap AK:=fun w fs cs d =>∃(v0:Value) (f0:List Addr),cs= [.int .i64 d.id,.int .i64 d.code,.int .i64 d.turn,v0]∧fs=f0∧okI d.id∧okI d.code∧okI d.turn∧rSl 1 Av w f0 v0 d.bytes
theorem Am.local_:Bm Am:=by
 rintro w w' fs cs d ⟨v0,f0,e,ef,o0,o1,o2,h0⟩ hs;subst ef;exact⟨v0,_,e,rfl,o0,o1,o2,rSl.keep Av.local_ h0 hs⟩
theorem Am.fixed:Bv Am:=by
 rintro w fs cs d ⟨v0,f0,e,ef,o0,o1,o2,h0⟩ a ha;subst ef;exact rSl.there Av.fixed h0 a ha
theorem Am.ones:∀(w:World) (f:List Addr) (cs:List Value) (d:AK),Am w f cs d→∀u,u∈cs→u.oneCell'=true:=by
 rintro w fs cs d ⟨v0,f0,e,ef,o0,o1,o2,h0⟩ u hu;subst e;obtain⟨A0,c0,rfl,-⟩:=rSl.head h0;simp only[List.mem_cons,List.not_mem_nil,or_false]at hu;rcases hu with rfl|rfl|rfl|rfl <;> rfl
theorem Am.wide:Ek 4 Am:=by
 rintro w fs cs d ⟨v0,f0,e,ef,o0,o1,o2,h0⟩;subst e;rfl
def AO:Ap AJ:=fun w fs cs d =>∃(v0:Value) (v1:Value) (v2:Value) (f0:List Addr) (f1:List Addr) (f2:List Addr),cs= [v0,v1,v2,.int .i64 d.turn,.int .i64 d.next]∧fs=f0 ++(f1 ++(f2))∧okI d.turn∧okI d.next∧rSl 1 (Ai 4 Af) w f0 v0 d.queues∧rSl 4 Af w f1 v1 d.aside∧rSl 4 Am w f2 v2 d.answers
theorem AO.local_:Bm AO:=by
 rintro w w' fs cs d ⟨v0,v1,v2,f0,f1,f2,e,ef,o0,o1,h0,h1,h2⟩ hs;subst ef;exact⟨v0,v1,v2,_,_,_,e,rfl,o0,o1,rSl.keep (Ai.local_ Af.local_) h0 hs.left,rSl.keep Af.local_ h1 hs.right.left,rSl.keep Am.local_ h2 hs.right.right⟩
theorem AO.fixed:Bv AO:=by
 rintro w fs cs d ⟨v0,v1,v2,f0,f1,f2,e,ef,o0,o1,h0,h1,h2⟩ a ha;subst ef;rcases List.mem_append.1 ha with ha|ha
 ·exact rSl.there (Ai.fixed Af.fixed) h0 a ha
 rcases List.mem_append.1 ha with ha|ha
 ·exact rSl.there Af.fixed h1 a ha
 exact rSl.there Am.fixed h2 a ha
theorem AO.ones:∀(w:World) (f:List Addr) (cs:List Value) (d:AJ),AO w f cs d→∀u,u∈cs→u.oneCell'=true:=by
 rintro w fs cs d ⟨v0,v1,v2,f0,f1,f2,e,ef,o0,o1,h0,h1,h2⟩ u hu;subst e;obtain⟨A0,c0,rfl,-⟩:=rSl.head h0;obtain⟨A1,c1,rfl,-⟩:=rSl.head h1;obtain⟨A2,c2,rfl,-⟩:=rSl.head h2;simp only[List.mem_cons,List.not_mem_nil,or_false]at hu;rcases hu with rfl|rfl|rfl|rfl|rfl <;> rfl
theorem AO.wide:Ek 5 AO:=by
 rintro w fs cs d ⟨v0,v1,v2,f0,f1,f2,e,ef,o0,o1,h0,h1,h2⟩;subst e;rfl
def AE:Ap AY:=fun w fs cs d =>∃(v0:Value) (v1:Value) (v2:Value) (v3:Value) (v4:Value) (v5:Value) (f0:List Addr) (f1:List Addr) (f2:List Addr) (f3:List Addr) (f4:List Addr) (f5:List Addr),cs= [.int .i64 d.world.s.g,.int .i64 d.world.s.c,.int .i64 d.world.s.data,.int .i64 d.world.s.p,.int .i64 d.world.s.rows,.int .i64 d.world.s.cap,.int .i64 d.world.s.b,.int .i64 d.world.s.q,.int .i64 d.world.s.t,v0,v1,v2,.int .i64 d.world.u,.int .i64 d.world.stop,.bool d.world.down,v3,v4,v5,.int .i64 d.desk.turn,.int .i64 d.desk.next]∧fs=f0 ++(f1 ++(f2 ++(f3 ++(f4 ++(f5)))))∧okI d.world.s.g∧okI d.world.s.c∧okI d.world.s.data∧okI d.world.s.p∧okI d.world.s.rows∧okI d.world.s.cap∧okI d.world.s.b∧okI d.world.s.q∧okI d.world.s.t∧okI d.world.u∧okI d.world.stop∧okI d.desk.turn∧okI d.desk.next∧rSl 1 (Ai 2 Ak) w f0 v0 d.world.g∧rSl 1 Al w f1 v1 d.world.on∧rSl 2 As w f2 v2 d.world.v∧rSl 1 (Ai 4 Af) w f3 v3 d.desk.queues∧rSl 4 Af w f4 v4 d.desk.aside∧rSl 4 Am w f5 v5 d.desk.answers
theorem AE.local_:Bm AE:=by
 rintro w w' fs cs d ⟨v0,v1,v2,v3,v4,v5,f0,f1,f2,f3,f4,f5,e,ef,o0,o1,o2,o3,o4,o5,o6,o7,o8,o9,o10,o11,o12,h0,h1,h2,h3,h4,h5⟩ hs;subst ef;exact⟨v0,v1,v2,v3,v4,v5,_,_,_,_,_,_,e,rfl,o0,o1,o2,o3,o4,o5,o6,o7,o8,o9,o10,o11,o12,rSl.keep (Ai.local_ Ak.local_) h0 hs.left,rSl.keep Al.local_ h1 hs.right.left,rSl.keep As.local_ h2 hs.right.right.left,rSl.keep (Ai.local_ Af.local_) h3 hs.right.right.right.left,rSl.keep Af.local_ h4 hs.right.right.right.right.left,rSl.keep Am.local_ h5 hs.right.right.right.right.right⟩
theorem AE.fixed:Bv AE:=by
 rintro w fs cs d ⟨v0,v1,v2,v3,v4,v5,f0,f1,f2,f3,f4,f5,e,ef,o0,o1,o2,o3,o4,o5,o6,o7,o8,o9,o10,o11,o12,h0,h1,h2,h3,h4,h5⟩ a ha;subst ef;rcases List.mem_append.1 ha with ha|ha
 ·exact rSl.there (Ai.fixed Ak.fixed) h0 a ha
 rcases List.mem_append.1 ha with ha|ha
 ·exact rSl.there Al.fixed h1 a ha
 rcases List.mem_append.1 ha with ha|ha
 ·exact rSl.there As.fixed h2 a ha
 rcases List.mem_append.1 ha with ha|ha
 ·exact rSl.there (Ai.fixed Af.fixed) h3 a ha
 rcases List.mem_append.1 ha with ha|ha
 ·exact rSl.there Af.fixed h4 a ha
 exact rSl.there Am.fixed h5 a ha
theorem AE.ones:∀(w:World) (f:List Addr) (cs:List Value) (d:AY),AE w f cs d→∀u,u∈cs→u.oneCell'=true:=by
 rintro w fs cs d ⟨v0,v1,v2,v3,v4,v5,f0,f1,f2,f3,f4,f5,e,ef,o0,o1,o2,o3,o4,o5,o6,o7,o8,o9,o10,o11,o12,h0,h1,h2,h3,h4,h5⟩ u hu;subst e;obtain⟨A0,c0,rfl,-⟩:=rSl.head h0;obtain⟨A1,c1,rfl,-⟩:=rSl.head h1;obtain⟨A2,c2,rfl,-⟩:=rSl.head h2;obtain⟨A3,c3,rfl,-⟩:=rSl.head h3;obtain⟨A4,c4,rfl,-⟩:=rSl.head h4;obtain⟨A5,c5,rfl,-⟩:=rSl.head h5;simp only[List.mem_cons,List.not_mem_nil,or_false]at hu;rcases hu with rfl|rfl|rfl|rfl|rfl|rfl|rfl|rfl|rfl|rfl|rfl|rfl|rfl|rfl|rfl|rfl|rfl|rfl|rfl|rfl <;> rfl
theorem AE.wide:Ek 20 AE:=by
 rintro w fs cs d ⟨v0,v1,v2,v3,v4,v5,f0,f1,f2,f3,f4,f5,e,ef,o0,o1,o2,o3,o4,o5,o6,o7,o8,o9,o10,o11,o12,h0,h1,h2,h3,h4,h5⟩;subst e;rfl
def Ce:Ap Fj:=fun w fs cs d =>∃(v0:Value) (v1:Value) (v2:Value) (v3:Value) (v4:Value) (v5:Value) (f0:List Addr) (f1:List Addr) (f2:List Addr) (f3:List Addr) (f4:List Addr) (f5:List Addr),cs= [.int .i64 d.code,.int .i64 d.id,.int .i64 d.archive.world.s.g,.int .i64 d.archive.world.s.c,.int .i64 d.archive.world.s.data,.int .i64 d.archive.world.s.p,.int .i64 d.archive.world.s.rows,.int .i64 d.archive.world.s.cap,.int .i64 d.archive.world.s.b,.int .i64 d.archive.world.s.q,.int .i64 d.archive.world.s.t,v0,v1,v2,.int .i64 d.archive.world.u,.int .i64 d.archive.world.stop,.bool d.archive.world.down,v3,v4,v5,.int .i64 d.archive.desk.turn,.int .i64 d.archive.desk.next]∧fs=f0 ++(f1 ++(f2 ++(f3 ++(f4 ++(f5)))))∧okI d.code∧okI d.id∧okI d.archive.world.s.g∧okI d.archive.world.s.c∧okI d.archive.world.s.data∧okI d.archive.world.s.p∧okI d.archive.world.s.rows∧okI d.archive.world.s.cap∧okI d.archive.world.s.b∧okI d.archive.world.s.q∧okI d.archive.world.s.t∧okI d.archive.world.u∧okI d.archive.world.stop∧okI d.archive.desk.turn∧okI d.archive.desk.next∧rSl 1 (Ai 2 Ak) w f0 v0 d.archive.world.g∧rSl 1 Al w f1 v1 d.archive.world.on∧rSl 2 As w f2 v2 d.archive.world.v∧rSl 1 (Ai 4 Af) w f3 v3 d.archive.desk.queues∧rSl 4 Af w f4 v4 d.archive.desk.aside∧rSl 4 Am w f5 v5 d.archive.desk.answers
theorem Ce.local_:Bm Ce:=by
 rintro w w' fs cs d ⟨v0,v1,v2,v3,v4,v5,f0,f1,f2,f3,f4,f5,e,ef,o0,o1,o2,o3,o4,o5,o6,o7,o8,o9,o10,o11,o12,o13,o14,h0,h1,h2,h3,h4,h5⟩ hs;subst ef;exact⟨v0,v1,v2,v3,v4,v5,_,_,_,_,_,_,e,rfl,o0,o1,o2,o3,o4,o5,o6,o7,o8,o9,o10,o11,o12,o13,o14,rSl.keep (Ai.local_ Ak.local_) h0 hs.left,rSl.keep Al.local_ h1 hs.right.left,rSl.keep As.local_ h2 hs.right.right.left,rSl.keep (Ai.local_ Af.local_) h3 hs.right.right.right.left,rSl.keep Af.local_ h4 hs.right.right.right.right.left,rSl.keep Am.local_ h5 hs.right.right.right.right.right⟩
theorem Ce.fixed:Bv Ce:=by
 rintro w fs cs d ⟨v0,v1,v2,v3,v4,v5,f0,f1,f2,f3,f4,f5,e,ef,o0,o1,o2,o3,o4,o5,o6,o7,o8,o9,o10,o11,o12,o13,o14,h0,h1,h2,h3,h4,h5⟩ a ha;subst ef;rcases List.mem_append.1 ha with ha|ha
 ·exact rSl.there (Ai.fixed Ak.fixed) h0 a ha
 rcases List.mem_append.1 ha with ha|ha
 ·exact rSl.there Al.fixed h1 a ha
 rcases List.mem_append.1 ha with ha|ha
 ·exact rSl.there As.fixed h2 a ha
 rcases List.mem_append.1 ha with ha|ha
 ·exact rSl.there (Ai.fixed Af.fixed) h3 a ha
 rcases List.mem_append.1 ha with ha|ha
 ·exact rSl.there Af.fixed h4 a ha
 exact rSl.there Am.fixed h5 a ha
theorem Ce.ones:∀(w:World) (f:List Addr) (cs:List Value) (d:Fj),Ce w f cs d→∀u,u∈cs→u.oneCell'=true:=by
 rintro w fs cs d ⟨v0,v1,v2,v3,v4,v5,f0,f1,f2,f3,f4,f5,e,ef,o0,o1,o2,o3,o4,o5,o6,o7,o8,o9,o10,o11,o12,o13,o14,h0,h1,h2,h3,h4,h5⟩ u hu;subst e;obtain⟨A0,c0,rfl,-⟩:=rSl.head h0;obtain⟨A1,c1,rfl,-⟩:=rSl.head h1;obtain⟨A2,c2,rfl,-⟩:=rSl.head h2;obtain⟨A3,c3,rfl,-⟩:=rSl.head h3;obtain⟨A4,c4,rfl,-⟩:=rSl.head h4;obtain⟨A5,c5,rfl,-⟩:=rSl.head h5;simp only[List.mem_cons,List.not_mem_nil,or_false]at hu;rcases hu with rfl|rfl|rfl|rfl|rfl|rfl|rfl|rfl|rfl|rfl|rfl|rfl|rfl|rfl|rfl|rfl|rfl|rfl|rfl|rfl|rfl|rfl <;> rfl
theorem Ce.wide:Ek 22 Ce:=by
 rintro w fs cs d ⟨v0,v1,v2,v3,v4,v5,f0,f1,f2,f3,f4,f5,e,ef,o0,o1,o2,o3,o4,o5,o6,o7,o8,o9,o10,o11,o12,o13,o14,h0,h1,h2,h3,h4,h5⟩;subst e;rfl
theorem Ap.below {α:Type} {R:Ap α}(hL:Bm R)(hF:Bv R) {w w':World} {fs:List Addr} {cs:List Value} {d:α}(h:R w fs cs d)(hb:Below w.heap.size w w'):R w' fs cs d:=hL _ _ _ _ _ h (AP.of_below (hF _ _ _ _ h) hb)
theorem Ai.one {α:Type} {R:Ap α} {k:Nat} {w:World} {fs:List Addr} {v:Value} {ds:List α}(h:Ai k R w fs [v] ds):rSl k R w fs v ds:=by
 obtain⟨v',e,h⟩:=h;injection e with e _
 rwa [e]
theorem Bg.open_ {w:World} {fs:List Addr} {v:Value} {bs:List Int}(h:Bg w fs v bs) :
  ∃A c,v= .slice A bs.length c∧bs.length≤c∧c≤9223372036854775807∧∀k,(hk:k<bs.length)→∃ad,A=some ad∧ad.add k∈fs∧(ad.add k).block <w.heap.size∧w.cell? (ad.add k)=some (.int .i64 bs[k])∧okI bs[k]:=by
 obtain⟨A,c,e,h1,h2,h3⟩:=h;refine⟨A,c,e,h1,by omega,fun k hk => ?_⟩;rcases h3 with⟨rfl,_⟩|⟨ad,css,fss,e1,e2,e3,e4,h3⟩
 ·cases hk
 ·obtain⟨q1,q2,q3,q4,q5,q6,q8⟩:=h3 k hk;have q7:=q4 0 (by omega);simp only[q6,List.getElem_cons_zero,Nat.mul_one,Nat.add_zero]at q7;exact⟨ad,e1,by rw[e4];exact List.mem_append_left _ (BH.2 ⟨k,by omega,rfl⟩),World.block_lt_of_cell? _ _ q7,q7,q8⟩
theorem Hd(v1 v2:Value)(xs ys:List Int)(f1 f2:List Addr)(w:World)(h1:Bg w f1 v1 xs)(h2:Bg w f2 v2 ys) :
  Calls Tryz.prog 51 #[v1,v2] w fun e w' => e= .returned (.bool (decide (xs=ys)))∧Below w.heap.size w w':=by
 obtain⟨A1,c1,rfl,hc1,hm1,hx⟩:=Bg.open_ h1;obtain⟨A2,c2,rfl,hc2,hm2,hy⟩:=Bg.open_ h2;clear h1 h2;by_cases hl:xs.length=ys.length
 ·have hb:=Ck hl;have HL:=hid hl;clear hl;go_enter Tryz.func51,Tryz.ntmps51
  go_wp2
  go_loopw [4,5] (fun r i wr =>∃k:Nat,k≤xs.length∧i= .int .i64 k∧r= .bool false∧xs.take k=ys.take k∧Below w.heap.size w wr) (fun _ i _ => xs.length - (intOf i).toNat)
  case atStart => exact⟨0,by omega,rfl,rfl,by simp,Below.refl _ _⟩
  case round =>
   obtain⟨k,hk,rfl,rfl,ht,hbl⟩:=hrel;have HT:=hid ht;clear ht;by_cases hlt:k<xs.length
   ·have hlt2:k<ys.length:=by rw[← HL.out];exact hlt
    obtain⟨a1,e1,_,b1,g1,_⟩:=hx k hlt;obtain⟨a2,e2,_,b2,g2,_⟩:=hy k hlt2;subst e1 e2;have g1':=(hbl.cell (p:=a1.add k) b1).trans g1;have g2':=(hbl.cell (p:=a2.add k) b2).trans g2;clear g1 g2 hx hy;by_cases he:xs[k] =ys[k]
    ·have hn:(xs[k] != ys[k])=false:=by simpa using he
     have HE:=hid he;clear he;go_wp2
     go_quiet (fail)
     go_wp2
     go_roundw
     case rel => exact⟨k+1,by omega,by go_num,rfl,Ge HT.out hlt hlt2 HE.out,BK hbl _⟩
     case measure => simp[intOf];omega
    ·have hn:(xs[k] != ys[k])=true:=by simpa using he
     go_wp2
     go_quiet (fail)
     go_wp2
     go_ret
     exact⟨Co (by simp;intro e;subst e;exact he rfl),BK hbl _⟩
   ·have hk':k=xs.length:=by omega
    have H:=HT.out;rw[hk',List.take_length,HL.out,List.take_length]at H;have H1:=hid H;clear H hk';go_wp2
    go_ret
    exact⟨Co (by simp[H1.out]),hbl⟩
 ·have hb:=Cl hl;go_enter Tryz.func51,Tryz.ntmps51
  go_wp2
  go_ret
  exact⟨Co (by simp;intro e;subst e;exact hl rfl),Below.refl _ _⟩
theorem Cq.below {lo:Nat} {w w':World} {f:List Addr}(h:Cq lo w f)(hb:Below w.heap.size w w')(ht:EJ f w):Cq lo w' f:=h.wrote (BX.of_below (fs:=f) hb) ht
theorem Blk.drew_ {w:World} {g:Nat} {t:TypeId} {cs:Array Value}(h:Blk w g t cs):Blk w.drew g t cs:=h
theorem Ao.alloc_ {α:Type} {k:Nat} {E:TypeId} {R:Ap α}(hR:Bm R)(hF:Bv R) {w:World} {base:Nat} {v:Value} {ds:List α} {fs:List Addr} {o:Obj}(h:Ao k E R w base v ds fs):Ao k E R (w.alloc o) base v ds fs:=h.below hR hF ((Below.refl _ _).alloc (Nat.le_refl _) _)
theorem Ao.drew_ {α:Type} {k:Nat} {E:TypeId} {R:Ap α}(hR:Bm R) {w:World} {base:Nat} {v:Value} {ds:List α} {fs:List Addr}(h:Ao k E R w base v ds fs):Ao k E R w.drew base v ds fs:=h.keep hR (fun _ _ => rfl) (fun _ _ => rfl)
theorem Ah {w W:World}(h:Below w.heap.size w W)(o:Obj):Below w.heap.size w (W.alloc o):=h.alloc h.size o
theorem AL {w W:World}(h:Below w.heap.size w W):Below w.heap.size w W.drew:=⟨h.os,h.tape,h.output,h.size,h.block⟩
theorem Ao.far_ {α:Type} {k:Nat} {E:TypeId} {R:Ap α}(hR:Bm R) {w:World} {base:Nat} {v:Value} {ds:List α} {fs:List Addr}(h:Ao k E R w base v ds fs)(hm:Cq base w fs) {p:Addr}(hp:p.block<base)(u:Value):Ao k E R (w.setCell p u) base v ds fs :=
 h.keep hR (fun b hb => Below.heap_setCell w p u b (by have:=(h.lt b hb).1;omega)) (fun a ha => World.cell?_setCell_other _ _ _ _ (fun e => by have:=hm.from_ a ha;rw[← e]at this;omega))
def Dr(cs:Array Value):Nat→List Value→Array Value
 |_,[] => cs
 |o,v :: r => Dr (cs.setIfInBounds o v) (o+1) r
theorem Blk.setCells_ {g:Nat} {t:TypeId}:∀(vs:List Value) (o:Nat) (w:World) (cs:Array Value),Blk w g t cs→Blk (w.setCells g o vs) g t (Dr cs o vs)
 | [],_,_,_,h => h
 |v :: r,o,_,_,h => Blk.setCells_ r (o+1) _ _ (Blk.set_ h o v)
theorem DQ:∀(vs:List Value) (o:Nat) (cs:Array Value),o+vs.length≤cs.size→∀i,(Dr cs o vs)[i]? =if i<o then cs[i]? else if i<o+vs.length then vs[i - o]? else cs[i]?
 | [],o,cs,_,i => by simp[Dr];intro h1 h2;omega
 |v :: r,o,cs,h,i => by
  simp only[List.length_cons]at h;rw[Dr,DQ r (o+1) _ (by simp;omega) i];rcases Nat.lt_trichotomy i o with h1|h1|h1
  ·rw[if_pos (by omega),if_pos h1,Array.getElem?_setIfInBounds_ne (by omega)]
  ·subst h1;rw[if_pos (by omega),if_neg (by omega),if_pos (by simp),Array.getElem?_setIfInBounds_self_of_lt (by omega)];simp
  ·rw[if_neg (show¬i<o+1 from by omega),if_neg (show¬i<o from by omega),List.length_cons,show o+(r.length+1)=o+1+r.length from by omega,Array.getElem?_setIfInBounds_ne (by omega)];by_cases h2:i<o+1+r.length
   ·rw[if_pos h2,if_pos h2,show i - o=(i - (o+1))+1 from by omega,List.getElem?_cons_succ]
   ·rw[if_neg h2,if_neg h2]
theorem Ls(vs:List Value)(cs:Array Value)(h:cs.size=vs.length):Dr cs 0 vs=vs.toArray:=by
 apply Array.ext_getElem?
 intro i;rw[DQ vs 0 cs (by omega) i,if_neg (by omega),Nat.zero_add];by_cases hi:i<vs.length
 ·rw[if_pos hi];simp
 ·rw[if_neg hi,Array.getElem?_eq_none (by omega)];simp;omega
theorem Blk.laid {w:World} {g:Nat} {t:TypeId} {cs:Array Value}(h:Blk w g t cs)(vs:List Value)(hl:cs.size=vs.length):Blk (w.setCells g 0 vs) g t vs.toArray:=by
 have:=Blk.setCells_ vs 0 w cs h;rwa [Ls vs cs hl]at this
theorem Blk.farS {g:Nat} {t:TypeId} {cs:Array Value}:∀(vs:List Value) (b o:Nat) (w:World),g≠b→Blk w g t cs→Blk (w.setCells b o vs) g t cs
 | [],_,_,_,_,h => h
 |v :: r,b,o,_,hg,h => Blk.farS r b (o+1) _ hg (Blk.far h hg v)
theorem Below.setCells_ {B:Nat} {w0:World}:∀(vs:List Value) (b o:Nat) (w:World),B≤b→Below B w0 w→Below B w0 (w.setCells b o vs)
 | [],_,_,_,_,h => h
 |v :: r,b,o,_,hb,h => Below.setCells_ r b (o+1) _ hb (h.setCell hb v)
theorem Ao.farS {α:Type} {k:Nat} {E:TypeId} {R:Ap α}(hR:Bm R) {base:Nat} {v:Value} {ds:List α} {fs:List Addr}:∀(vs:List Value) (b o:Nat) (w:World),b<base→Ao k E R w base v ds fs→Cq base w fs→Ao k E R (w.setCells b o vs) base v ds fs
 | [],_,_,_,_,h,_ => h
 |u :: r,b,o,_,hb,h,hm => Ao.farS hR r b (o+1) _ hb (Ao.far_ hR h hm (p:=⟨b,o,none⟩) hb u) (Cq.set_ hm _ u)
theorem Blk.there {w:World} {g:Nat} {t:TypeId} {cs:Array Value}(h:Blk w g t cs)(n:Nat)(hn:n≤cs.size):w.there g 0 n:=fun j hj => by
 rw[Nat.zero_add];refine⟨?_,h.frozen j⟩;rw[h.cell,Array.getElem?_eq_getElem (by omega)];rfl
theorem Ai.ones {α:Type} {k:Nat} {R:Ap α}:∀(w:World) (f:List Addr) (cs:List Value) (d:List α),Ai k R w f cs d→∀u,u∈cs→u.oneCell'=true:=by
 rintro w f cs d ⟨v,rfl,h⟩ u hu;obtain⟨A,c,rfl,-⟩:=rSl.head h;simp only[List.mem_cons,List.not_mem_nil,or_false]at hu;subst hu;rfl
theorem BI(P:Program)(t e:TypeId)(z:Value)(k bytes:Nat)(ht:P.underlying t=some (.slice e))(hinfo:(P.info? e).map (fun i =>(i.zero,i.size,i.bytes))=some (some z,k,bytes))(n:Nat)(hn:n≤1048576)(hby:bytes≤1000)(w:World) :
  (Instr.makeSlice t (.int .i64 (n:Int)) (.int .i64 (n:Int))).run P w= .ok (.slice (some ⟨w.heap.size,0,none⟩) n n) (w.alloc (.cells (madeCells z.cells (n * k)) e)):=by
 obtain⟨i,hi,hz,hs,hb⟩:=info_parts hinfo;have h2:bytes * n≤1048576000:=by
  calc bytes * n≤1000 * 1048576:=Nat.mul_le_mul hby hn
   _=1048576000:=by decide
 have h3:(i.bytes:Int) * (n:Int)≤281474976710656:=by
  rw[hb];have:((bytes * n:Nat):Int)≤1048576000:=Int.ofNat_le.2 h2;rw[Int.natCast_mul]at this;omega
 have:=run_make w t e i z ht hi hz .i64 .i64 (n:Int) (n:Int) (by omega) (by omega) h3 (by omega);rw[hs]at this;simpa using this
theorem rSl.ofRow {α:Type} {k:Nat} {R:Ap α} {w:World} {g n:Nat} {ds:List α}(css:List (List Value))(fss:List (List Addr))(hn:ds.length=n)(hm:n≤9223372036854775807)(h1:css.length=n)(h2:fss.length=n)
  (h:∀i,(hi:i<n)→(css[i]'(by omega)).length =k∧(∀q,(hq:q<(css[i]'(by omega)).length)→w.cell? ⟨g,i * k+q,none⟩=some (css[i]'(by omega))[q])∧R w (fss[i]'(by omega)) (css[i]'(by omega)) (ds[i]'(by omega))) :
  rSl k R w (Bz ⟨g,0,none⟩ (n * k) ++ fss.flatten) (.slice (some ⟨g,0,none⟩) n n) ds:=by
 subst hn;refine⟨some ⟨g,0,none⟩,ds.length,rfl,Nat.le_refl _,hm,.inr ⟨⟨g,0,none⟩,css,fss,rfl,h1,h2,rfl,fun i hi => ?_⟩⟩;obtain⟨a,b,c⟩:=h i hi;refine⟨by omega,by omega,a,fun q hq => ?_,c⟩;have e:(⟨g,0,none⟩:Addr).add (i * k+q)=⟨g,i * k+q,none⟩:=CO g _;rw[e];exact b q hq
theorem Gs {g n:Nat} {a:Addr}(h:a∈Bz ⟨g,0,none⟩ n):a.block=g:=by
 obtain⟨q,_,rfl⟩:=BH.1 h;exact Jg _ _
theorem Blk.wrote {w w':World} {fs:List Addr} {g:Nat} {t:TypeId} {cs:Array Value}(h:Blk w g t cs)(hw:BX fs w w')(hf:∀a,a∈fs→a.block≠g):Blk w' g t cs:=(hw.block g h.lt hf).trans h
theorem Cq.left {lo:Nat} {w:World} {f g:List Addr}(h:Cq lo w (f ++ g)):Cq lo w f:=⟨(List.nodup_append.1 h.nodup).1,fun a ha => h.from_ a (List.mem_append_left _ ha),fun a ha => h.free a (List.mem_append_left _ ha)⟩
theorem Cq.right {lo:Nat} {w:World} {f g:List Addr}(h:Cq lo w (f ++ g)):Cq lo w g:=⟨(List.nodup_append.1 h.nodup).2.1,fun a ha => h.from_ a (List.mem_append_right _ ha),fun a ha => h.free a (List.mem_append_right _ ha)⟩
theorem Cq.apart {lo:Nat} {w:World} {f g:List Addr}(h:Cq lo w (f ++ g))(a:Addr)(ha:a∈f)(hb:a∈g):False:=(List.nodup_append.1 h.nodup).2.2 a ha a hb rfl
theorem C6 {fs:List Addr}(vs:List Value)(b o:Nat)(w:World)(h:∀a,a∈fs→a.block≠b):AP fs w (w.setCells b o vs):=fun a ha => World.cell?_setCells_out b vs o w a (fun hb _ => absurd hb (h a ha))
theorem Blk.rangeAll {w:World} {g:Nat} {t:TypeId} {cs:List Value}(h:Blk w g t cs.toArray):w.rangeAt g 0 cs:=Blk.range h 0 cs (by simp)
section
variable {α:Type} {k:Nat} {R:Ap α} {w w':World} {H j:Nat} {T:TypeId} {ds:List α}
def BT(k:Nat)(R:Ap α)(w:World)(H:Nat)(T:TypeId)(ds:List α)(j:Nat):Prop :=
 ∃cs:Array Value,Blk w H T cs∧cs.size=ds.length * k∧∀i,(h:i<ds.length)→i<j→∃us fk,us.length=k∧(∀q,q<k→cs[i * k+q]? =us[q]?)∧R w fk us ds[i]∧∀a,a∈fk→H<a.block
theorem BT.start {z:Array Value}(h:Blk w H T (madeCells z (ds.length * k))):BT k R w H T ds 0:=⟨_,h,size_madeCells _ _,fun _ _ h => absurd h (Nat.not_lt_zero _)⟩
theorem BT.lt(h:BT k R w H T ds j):H<w.heap.size:=by
 obtain⟨cs,hk,-⟩:=h;exact hk.lt
theorem BT.below(hL:Bm R)(hF:Bv R)(h:BT k R w H T ds j)(hb:Below w.heap.size w w'):BT k R w' H T ds j:=by
 obtain⟨cs,hk,hs,h⟩:=h;refine⟨cs,hk.below hb hk.lt,hs,fun i hi hj => ?_⟩;obtain⟨us,fk,h1,h2,h3,h4⟩:=h i hi hj;exact⟨us,fk,h1,h2,Ap.below hL hF h3 hb,h4⟩
theorem Gx:∀(vs:List Value) (o:Nat) (cs:Array Value),(Dr cs o vs).size =cs.size
 | [],_,_ => rfl
 |v :: r,o,cs => by
  show(Dr (cs.setIfInBounds o v) (o+1) r).size =_
  rw[Gx r];simp
theorem Iq {n j k:Nat}(h:j<n):j * k+k≤n * k:=by
 calc j * k+k=(j+1) * k:=by rw[Nat.add_mul];omega
  _≤n * k:=Nat.mul_le_mul_right _ h
theorem BT.there(h:BT k R w H T ds j) {i:Nat}(hi:i<ds.length):w.there H (i * k) k:=by
 obtain⟨cs,hk,hs,-⟩:=h;intro q hq;have:=Iq (k:=k) hi;refine⟨?_,hk.frozen _⟩;rw[hk.cell,Array.getElem?_eq_getElem (by omega)];rfl
theorem BT.step(hL:Bm R)(h:BT k R w H T ds j)(hj:j<ds.length) {us:List Value} {fk:List Addr}(hu:us.length=k)(hr:R w fk us ds[j])(hf:∀a,a∈fk→H<a.block):BT k R (w.setCells H (j * k) us) H T ds (j+1):=by
 obtain⟨cs,hk,hs,h⟩:=h;have hfit:=Iq (k:=k) hj;refine⟨Dr cs (j * k) us,hk.setCells_ _ _ _,by rw[Gx,hs],fun i hi hij => ?_⟩;by_cases e:i=j
 ·subst e;refine⟨us,fk,hu,fun q hq => ?_,hL _ _ _ _ _ hr (C6 _ _ _ _ fun a ha => by have:=hf a ha;omega),hf⟩;rw[DQ _ _ _ (by omega),if_neg (by omega),if_pos (by omega),Nat.add_sub_cancel_left]
 ·obtain⟨us',fk',h1,h2,h3,h4⟩:=h i hi (by omega);refine⟨us',fk',h1,fun q hq => ?_,hL _ _ _ _ _ h3 (C6 _ _ _ _ fun a ha => by have:=h4 a ha;omega),h4⟩;have h5:i * k+q<j * k:=by have:=Iq (k:=k) (show i<j by omega);omega
  rw[DQ _ _ _ (by omega),if_pos h5];exact h2 q hq
theorem BT.reads(h:BT k R w H T ds ds.length)(hm:ds.length≤9223372036854775807):∃fs,rSl k R w fs (.slice (some ⟨H,0,none⟩) ds.length ds.length) ds∧∀a,a∈fs→H≤a.block:=by
 obtain⟨cs,hk,hs,h⟩:=h;have hc:∀i:Fin ds.length,∃p:List Value × List Addr,p.1.length=k∧(∀q,q<k→cs[i.val * k+q]? =p.1[q]?)∧R w p.2 p.1 ds[i.val]∧∀a,a∈p.2→H<a.block:=fun i => by
  obtain⟨us,fk,h1,h2,h3,h4⟩:=h i.val i.isLt i.isLt;exact⟨(us,fk),h1,h2,h3,h4⟩
 obtain⟨f,hf⟩:=Classical.axiomOfChoice hc;refine⟨_,rSl.ofRow ((List.finRange ds.length).map fun i =>(f i).1) ((List.finRange ds.length).map fun i =>(f i).2) rfl hm (by simp) (by simp) (fun i hi => ?_),fun a ha => ?_⟩
 ·simp only[List.getElem_map,List.getElem_finRange,Fin.cast_mk];obtain⟨h1,h2,h3,-⟩:=hf ⟨i,hi⟩;refine⟨h1,fun q hq => ?_,h3⟩;rw[hk.cell,h2 q (by omega),List.getElem?_eq_getElem hq]
 ·rcases List.mem_append.1 ha with ha|ha
  ·rw[Gs ha];exact Nat.le_refl _
  ·obtain⟨l,hl,hal⟩:=List.mem_flatten.1 ha;obtain⟨i,-,rfl⟩:=List.mem_map.1 hl;exact Nat.le_of_lt ((hf i).2.2.2 a hal)
end
def E2 {α:Type}(k:Nat)(R:Ap α)(ds:List α)(w:World)(e:Ending)(w':World):Prop :=
 ∃A c fs,e= .returned (.slice A ds.length c)∧rSl k R w' fs (.slice A ds.length c) ds∧(∀a,a∈fs→w.heap.size≤a.block)∧Below w.heap.size w w'
def Ft {α:Type}(R:Ap α)(d:α)(w:World)(e:Ending)(w':World):Prop :=
 ∃cs fs,e= .returned (.agg cs.toArray)∧R w' fs cs d∧(∀a,a∈fs→w.heap.size≤a.block)∧Below w.heap.size w w'
theorem EZ(v:Value)(xs:List UInt8)(fs:List Addr)(w:World)(h1:AM w fs v xs)(hsm:xs.length≤1048576) :
  Calls Tryz.prog 268 #[v] w (E2 1 Av xs w) :=
 (MM v xs fs w h1 hsm).mono fun e w' ⟨he,hb,hk,_⟩ => by
  have:=AM.of_blk hk (by omega);exact⟨some ⟨w.heap.size,0,none⟩,xs.length,_,he,this,fun a ha => by rw[Gs ha];exact Nat.le_refl _,hb⟩
end Go.Proofs.YtfjkoifpdoemdaaGreat
