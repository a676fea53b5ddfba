/-
  Part 2 of the proof; the last part states and proves the statement.
-/
import Derived.Test.YthbljikbnoghcaaGreatM01
import Derived.Test.YthbljikbnoghcaaGreatM00
import Derived.Deep.MidRow
import Derived.Lib.SliceRun
import Derived.Shelf.Bytes.SlEqualAll
import Derived.Test.YthbljikbnoghcaaGreatProg
set_option maxHeartbeats 8000000
set_option maxRecDepth 100000
set_option linter.unusedVariables false
set_option linter.unusedSimpArgs false
open Go.Value (int)
open Go.IntKind (i64)
namespace Go.Proofs.YthbljikbnoghcaaGreat
open Go.RowKit Go.Sort
open Go.Lib (hid)
def okI(x:Int):Prop:=-9223372036854775808≤x∧x≤9223372036854775807
structure BO where
 g:Int
 c:Int
 data:Int
 p:Int
 rows:Int
 cap:Int
 b:Int
 q:Int
 t:Int
deriving DecidableEq
structure CG where
 stamp:Int
 bytes:List UInt8
deriving DecidableEq
structure Bo where
 wiped:Bool
 blocks:List CG
deriving DecidableEq
structure Ag where
 kind:Int
 seq:Int
 name:ByteArray
 length:Int
 group:Int
 row:Int
 rows:List Int
 data:List UInt8
 delta:List UInt8
deriving DecidableEq
structure AU where
 wiped:Bool
 recs:List Ag
deriving DecidableEq
structure Au where
 s:BO
 g:List (List Bo)
 on:List Int
 v:List AU
 u:Int
 stop:Int
 down:Bool
deriving DecidableEq
structure An where
 id:Int
 kind:Int
 name:ByteArray
 group:Int
deriving DecidableEq
structure AO where
 id:Int
 code:Int
 turn:Int
 bytes:List UInt8
deriving DecidableEq
structure AH where
 queues:List (List An)
 aside:List An
 answers:List AO
 turn:Int
 next:Int
deriving DecidableEq
structure Ao where
 world:Au
 desk:AH
deriving DecidableEq
structure Dg where
 code:Int
 id:Int
 archive:Ao
deriving DecidableEq
def Ei:Aw BO:=fun _ fs cs d => cs= [int i64 d.g,int i64 d.c,int i64 d.data,int i64 d.p,int i64 d.rows,int i64 d.cap,int i64 d.b,int i64 d.q,int i64 d.t]∧fs= []∧okI d.g∧okI d.c∧okI d.data∧okI d.p∧okI d.rows∧okI d.cap∧okI d.b∧okI d.q∧okI d.t
theorem Ei.local_:AZ Ei:=fun _ _ _ _ _ h _ => h
theorem Ei.fixed:Bh Ei:=fun _ _ _ _ h a ha => by rw[h.2.1]at ha;cases ha
theorem Ei.ones:∀(w:World) (f:List Addr) (cs:List Value) (d:BO),Ei w f cs d→∀u,u∈cs→u.oneCell'=true:=by
 rintro w fs cs d ⟨e,ef,o0,o1,o2,o3,o4,o5,o6,o7,o8⟩ u hu;subst e;simp only[List.mem_cons,List.not_mem_nil,or_false]at hu;rcases hu with rfl|rfl|rfl|rfl|rfl|rfl|rfl|rfl|rfl <;> rfl
theorem Ei.wide:El 9 Ei:=by
 rintro w fs cs d ⟨e,ef,o0,o1,o2,o3,o4,o5,o6,o7,o8⟩;subst e;rfl
def AL:Aw CG:=fun w fs cs d =>∃(v0:Value) (f0:List Addr),cs= [int i64 d.stamp,v0]∧fs=f0∧okI d.stamp∧rSl 1 AG w f0 v0 d.bytes
theorem AL.local_:AZ AL:=by
 rintro w w' fs cs d ⟨v0,f0,e,ef,o0,h0⟩ hs;subst ef;exact⟨v0,_,e,rfl,o0,rSl.keep AG.local_ h0 hs⟩
theorem AL.fixed:Bh AL:=by
 rintro w fs cs d ⟨v0,f0,e,ef,o0,h0⟩ a ha;subst ef;exact rSl.there AG.fixed h0 a ha
theorem AL.ones:∀(w:World) (f:List Addr) (cs:List Value) (d:CG),AL w f cs d→∀u,u∈cs→u.oneCell'=true:=by
 rintro w fs cs d ⟨v0,f0,e,ef,o0,h0⟩ u hu;subst e;obtain⟨A0,c0,rfl,-⟩:=rSl.head h0;simp only[List.mem_cons,List.not_mem_nil,or_false]at hu;rcases hu with rfl|rfl <;> rfl
theorem AL.wide:El 2 AL:=by
 rintro w fs cs d ⟨v0,f0,e,ef,o0,h0⟩;subst e;rfl
def Av:Aw Bo:=fun w fs cs d =>∃(v0:Value) (f0:List Addr),cs= [.bool d.wiped,v0]∧fs=f0∧rSl 2 AL w f0 v0 d.blocks
theorem Av.local_:AZ Av:=by
 rintro w w' fs cs d ⟨v0,f0,e,ef,h0⟩ hs;subst ef;exact⟨v0,_,e,rfl,rSl.keep AL.local_ h0 hs⟩
theorem Av.fixed:Bh Av:=by
 rintro w fs cs d ⟨v0,f0,e,ef,h0⟩ a ha;subst ef;exact rSl.there AL.fixed h0 a ha
theorem Av.ones:∀(w:World) (f:List Addr) (cs:List Value) (d:Bo),Av w f cs d→∀u,u∈cs→u.oneCell'=true:=by
 rintro w fs cs d ⟨v0,f0,e,ef,h0⟩ u hu;subst e;obtain⟨A0,c0,rfl,-⟩:=rSl.head h0;simp only[List.mem_cons,List.not_mem_nil,or_false]at hu;rcases hu with rfl|rfl <;> rfl
theorem Av.wide:El 2 Av:=by
 rintro w fs cs d ⟨v0,f0,e,ef,h0⟩;subst e;rfl
def Ac:Aw Ag:=fun w fs cs d =>∃(v0:Value) (v1:Value) (v2:Value) (f0:List Addr) (f1:List Addr) (f2:List Addr),cs= [int i64 d.kind,int i64 d.seq,.string d.name,int i64 d.length,int i64 d.group,int i64 d.row,v0,v1,v2]∧fs=f0 ++(f1 ++(f2))∧okI d.kind∧okI d.seq∧d.name.size≤9223372036854775807∧okI d.length∧okI d.group∧okI d.row∧rSl 1 As w f0 v0 d.rows∧rSl 1 AG w f1 v1 d.data∧rSl 1 AG w f2 v2 d.delta
theorem Ac.local_:AZ Ac:=by
 rintro w w' fs cs d ⟨v0,v1,v2,f0,f1,f2,e,ef,o0,o1,o2,o3,o4,o5,h0,h1,h2⟩ hs;subst ef;exact⟨v0,v1,v2,_,_,_,e,rfl,o0,o1,o2,o3,o4,o5,rSl.keep As.local_ h0 hs.left,rSl.keep AG.local_ h1 hs.right.left,rSl.keep AG.local_ h2 hs.right.right⟩
theorem Ac.fixed:Bh Ac:=by
 rintro w fs cs d ⟨v0,v1,v2,f0,f1,f2,e,ef,o0,o1,o2,o3,o4,o5,h0,h1,h2⟩ a ha;subst ef;rcases List.mem_append.1 ha with ha|ha
 ·exact rSl.there As.fixed h0 a ha
 rcases List.mem_append.1 ha with ha|ha
 ·exact rSl.there AG.fixed h1 a ha
 exact rSl.there AG.fixed h2 a ha
theorem Ac.ones:∀(w:World) (f:List Addr) (cs:List Value) (d:Ag),Ac w f cs d→∀u,u∈cs→u.oneCell'=true:=by
 rintro w fs cs d ⟨v0,v1,v2,f0,f1,f2,e,ef,o0,o1,o2,o3,o4,o5,h0,h1,h2⟩ u hu;subst e;obtain⟨A0,c0,rfl,-⟩:=rSl.head h0;obtain⟨A1,c1,rfl,-⟩:=rSl.head h1;obtain⟨A2,c2,rfl,-⟩:=rSl.head h2;simp only[List.mem_cons,List.not_mem_nil,or_false]at hu;rcases hu with rfl|rfl|rfl|rfl|rfl|rfl|rfl|rfl|rfl <;> rfl
theorem Ac.wide:El 9 Ac:=by
 rintro w fs cs d ⟨v0,v1,v2,f0,f1,f2,e,ef,o0,o1,o2,o3,o4,o5,h0,h1,h2⟩;subst e;rfl
def AK:Aw AU:=fun w fs cs d =>∃(v0:Value) (f0:List Addr),cs= [.bool d.wiped,v0]∧fs=f0∧rSl 9 Ac w f0 v0 d.recs
theorem AK.local_:AZ AK:=by
 rintro w w' fs cs d ⟨v0,f0,e,ef,h0⟩ hs;subst ef;exact⟨v0,_,e,rfl,rSl.keep Ac.local_ h0 hs⟩
theorem AK.fixed:Bh AK:=by
 rintro w fs cs d ⟨v0,f0,e,ef,h0⟩ a ha;subst ef;exact rSl.there Ac.fixed h0 a ha
theorem AK.ones:∀(w:World) (f:List Addr) (cs:List Value) (d:AU),AK w f cs d→∀u,u∈cs→u.oneCell'=true:=by
 rintro w fs cs d ⟨v0,f0,e,ef,h0⟩ u hu;subst e;obtain⟨A0,c0,rfl,-⟩:=rSl.head h0;simp only[List.mem_cons,List.not_mem_nil,or_false]at hu;rcases hu with rfl|rfl <;> rfl
theorem AK.wide:El 2 AK:=by
 rintro w fs cs d ⟨v0,f0,e,ef,h0⟩;subst e;rfl
def AD:Aw Au:=fun w fs cs d =>∃(v0:Value) (v1:Value) (v2:Value) (f0:List Addr) (f1:List Addr) (f2:List Addr),cs= [int i64 d.s.g,int i64 d.s.c,int i64 d.s.data,int i64 d.s.p,int i64 d.s.rows,int i64 d.s.cap,int i64 d.s.b,int i64 d.s.q,int i64 d.s.t,v0,v1,v2,int i64 d.u,int i64 d.stop,.bool d.down]∧fs=f0 ++(f1 ++(f2))∧okI d.s.g∧okI d.s.c∧okI d.s.data∧okI d.s.p∧okI d.s.rows∧okI d.s.cap∧okI d.s.b∧okI d.s.q∧okI d.s.t∧okI d.u∧okI d.stop∧rSl 1 (Am 2 Av) w f0 v0 d.g∧rSl 1 As w f1 v1 d.on∧rSl 2 AK w f2 v2 d.v
theorem AD.local_:AZ AD:=by
 rintro w w' fs cs d ⟨v0,v1,v2,f0,f1,f2,e,ef,o0,o1,o2,o3,o4,o5,o6,o7,o8,o9,o10,h0,h1,h2⟩ hs;subst ef;exact⟨v0,v1,v2,_,_,_,e,rfl,o0,o1,o2,o3,o4,o5,o6,o7,o8,o9,o10,rSl.keep (Am.local_ Av.local_) h0 hs.left,rSl.keep As.local_ h1 hs.right.left,rSl.keep AK.local_ h2 hs.right.right⟩
theorem AD.fixed:Bh AD:=by
 rintro w fs cs d ⟨v0,v1,v2,f0,f1,f2,e,ef,o0,o1,o2,o3,o4,o5,o6,o7,o8,o9,o10,h0,h1,h2⟩ a ha;subst ef;rcases List.mem_append.1 ha with ha|ha
 ·exact rSl.there (Am.fixed Av.fixed) h0 a ha
 rcases List.mem_append.1 ha with ha|ha
 ·exact rSl.there As.fixed h1 a ha
 exact rSl.there AK.fixed h2 a ha
theorem AD.ones:∀(w:World) (f:List Addr) (cs:List Value) (d:Au),AD w f cs d→∀u,u∈cs→u.oneCell'=true:=by
 rintro w fs cs d ⟨v0,v1,v2,f0,f1,f2,e,ef,o0,o1,o2,o3,o4,o5,o6,o7,o8,o9,o10,h0,h1,h2⟩ u hu;subst e;obtain⟨A0,c0,rfl,-⟩:=rSl.head h0;obtain⟨A1,c1,rfl,-⟩:=rSl.head h1;obtain⟨A2,c2,rfl,-⟩:=rSl.head h2;simp only[List.mem_cons,List.not_mem_nil,or_false]at hu;rcases hu with rfl|rfl|rfl|rfl|rfl|rfl|rfl|rfl|rfl|rfl|rfl|rfl|rfl|rfl|rfl <;> rfl
theorem AD.wide:El 15 AD:=by
 rintro w fs cs d ⟨v0,v1,v2,f0,f1,f2,e,ef,o0,o1,o2,o3,o4,o5,o6,o7,o8,o9,o10,h0,h1,h2⟩;subst e;rfl
def Ah:Aw An:=fun _ fs cs d => cs= [int i64 d.id,int i64 d.kind,.string d.name,int i64 d.group]∧fs= []∧okI d.id∧okI d.kind∧d.name.size≤9223372036854775807∧okI d.group
theorem Ah.local_:AZ Ah:=fun _ _ _ _ _ h _ => h
theorem Ah.fixed:Bh Ah:=fun _ _ _ _ h a ha => by rw[h.2.1]at ha;cases ha
theorem Ah.ones:∀(w:World) (f:List Addr) (cs:List Value) (d:An),Ah w f cs d→∀u,u∈cs→u.oneCell'=true:=by
 rintro w fs cs d ⟨e,ef,o0,o1,o2,o3⟩ u hu;subst e;simp only[List.mem_cons,List.not_mem_nil,or_false]at hu;rcases hu with rfl|rfl|rfl|rfl <;> rfl
theorem Ah.wide:El 4 Ah:=by
 rintro w fs cs d ⟨e,ef,o0,o1,o2,o3⟩;subst e;rfl
def AA:Aw AO:=fun w fs cs d =>∃(v0:Value) (f0:List Addr),cs= [int i64 d.id,int i64 d.code,int i64 d.turn,v0]∧fs=f0∧okI d.id∧okI d.code∧okI d.turn∧rSl 1 AG w f0 v0 d.bytes
theorem AA.local_:AZ AA:=by
 rintro w w' fs cs d ⟨v0,f0,e,ef,o0,o1,o2,h0⟩ hs;subst ef;exact⟨v0,_,e,rfl,o0,o1,o2,rSl.keep AG.local_ h0 hs⟩
theorem AA.fixed:Bh AA:=by
 rintro w fs cs d ⟨v0,f0,e,ef,o0,o1,o2,h0⟩ a ha;subst ef;exact rSl.there AG.fixed h0 a ha
theorem AA.ones:∀(w:World) (f:List Addr) (cs:List Value) (d:AO),AA w f cs d→∀u,u∈cs→u.oneCell'=true:=by
 rintro w fs cs d ⟨v0,f0,e,ef,o0,o1,o2,h0⟩ u hu;subst e;obtain⟨A0,c0,rfl,-⟩:=rSl.head h0;simp only[List.mem_cons,List.not_mem_nil,or_false]at hu;rcases hu with rfl|rfl|rfl|rfl <;> rfl
theorem AA.wide:El 4 AA:=by
 rintro w fs cs d ⟨v0,f0,e,ef,o0,o1,o2,h0⟩;subst e;rfl
def Ba:Aw AH:=fun w fs cs d =>∃(v0:Value) (v1:Value) (v2:Value) (f0:List Addr) (f1:List Addr) (f2:List Addr),cs= [v0,v1,v2,int i64 d.turn,int i64 d.next]∧fs=f0 ++(f1 ++(f2))∧okI d.turn∧okI d.next∧rSl 1 (Am 4 Ah) w f0 v0 d.queues∧rSl 4 Ah w f1 v1 d.aside∧rSl 4 AA w f2 v2 d.answers
theorem Ba.local_:AZ Ba:=by
 rintro w w' fs cs d ⟨v0,v1,v2,f0,f1,f2,e,ef,o0,o1,h0,h1,h2⟩ hs;subst ef;exact⟨v0,v1,v2,_,_,_,e,rfl,o0,o1,rSl.keep (Am.local_ Ah.local_) h0 hs.left,rSl.keep Ah.local_ h1 hs.right.left,rSl.keep AA.local_ h2 hs.right.right⟩
theorem Ba.fixed:Bh Ba:=by
 rintro w fs cs d ⟨v0,v1,v2,f0,f1,f2,e,ef,o0,o1,h0,h1,h2⟩ a ha;subst ef;rcases List.mem_append.1 ha with ha|ha
 ·exact rSl.there (Am.fixed Ah.fixed) h0 a ha
 rcases List.mem_append.1 ha with ha|ha
 ·exact rSl.there Ah.fixed h1 a ha
 exact rSl.there AA.fixed h2 a ha
theorem Ba.ones:∀(w:World) (f:List Addr) (cs:List Value) (d:AH),Ba w f cs d→∀u,u∈cs→u.oneCell'=true:=by
 rintro w fs cs d ⟨v0,v1,v2,f0,f1,f2,e,ef,o0,o1,h0,h1,h2⟩ u hu;subst e;obtain⟨A0,c0,rfl,-⟩:=rSl.head h0;obtain⟨A1,c1,rfl,-⟩:=rSl.head h1;obtain⟨A2,c2,rfl,-⟩:=rSl.head h2;simp only[List.mem_cons,List.not_mem_nil,or_false]at hu;rcases hu with rfl|rfl|rfl|rfl|rfl <;> rfl
theorem Ba.wide:El 5 Ba:=by
 rintro w fs cs d ⟨v0,v1,v2,f0,f1,f2,e,ef,o0,o1,h0,h1,h2⟩;subst e;rfl
def Af:Aw Ao:=fun w fs cs d =>∃(v0:Value) (v1:Value) (v2:Value) (v3:Value) (v4:Value) (v5:Value) (f0:List Addr) (f1:List Addr) (f2:List Addr) (f3:List Addr) (f4:List Addr) (f5:List Addr),cs= [int i64 d.world.s.g,int i64 d.world.s.c,int i64 d.world.s.data,int i64 d.world.s.p,int i64 d.world.s.rows,int i64 d.world.s.cap,int i64 d.world.s.b,int i64 d.world.s.q,int i64 d.world.s.t,v0,v1,v2,int i64 d.world.u,int i64 d.world.stop,.bool d.world.down,v3,v4,v5,int i64 d.desk.turn,int i64 d.desk.next]∧fs=f0 ++(f1 ++(f2 ++(f3 ++(f4 ++(f5)))))∧okI d.world.s.g∧okI d.world.s.c∧okI d.world.s.data∧okI d.world.s.p∧okI d.world.s.rows∧okI d.world.s.cap∧okI d.world.s.b∧okI d.world.s.q∧okI d.world.s.t∧okI d.world.u∧okI d.world.stop∧okI d.desk.turn∧okI d.desk.next∧rSl 1 (Am 2 Av) w f0 v0 d.world.g∧rSl 1 As w f1 v1 d.world.on∧rSl 2 AK w f2 v2 d.world.v∧rSl 1 (Am 4 Ah) w f3 v3 d.desk.queues∧rSl 4 Ah w f4 v4 d.desk.aside∧rSl 4 AA w f5 v5 d.desk.answers
theorem Af.local_:AZ Af:=by
 rintro w w' fs cs d ⟨v0,v1,v2,v3,v4,v5,f0,f1,f2,f3,f4,f5,e,ef,o0,o1,o2,o3,o4,o5,o6,o7,o8,o9,o10,o11,o12,h0,h1,h2,h3,h4,h5⟩ hs;subst ef;exact⟨v0,v1,v2,v3,v4,v5,_,_,_,_,_,_,e,rfl,o0,o1,o2,o3,o4,o5,o6,o7,o8,o9,o10,o11,o12,rSl.keep (Am.local_ Av.local_) h0 hs.left,rSl.keep As.local_ h1 hs.right.left,rSl.keep AK.local_ h2 hs.right.right.left,rSl.keep (Am.local_ Ah.local_) h3 hs.right.right.right.left,rSl.keep Ah.local_ h4 hs.right.right.right.right.left,rSl.keep AA.local_ h5 hs.right.right.right.right.right⟩
theorem Af.fixed:Bh Af:=by
 rintro w fs cs d ⟨v0,v1,v2,v3,v4,v5,f0,f1,f2,f3,f4,f5,e,ef,o0,o1,o2,o3,o4,o5,o6,o7,o8,o9,o10,o11,o12,h0,h1,h2,h3,h4,h5⟩ a ha;subst ef;rcases List.mem_append.1 ha with ha|ha
 ·exact rSl.there (Am.fixed Av.fixed) h0 a ha
 rcases List.mem_append.1 ha with ha|ha
 ·exact rSl.there As.fixed h1 a ha
 rcases List.mem_append.1 ha with ha|ha
 ·exact rSl.there AK.fixed h2 a ha
 rcases List.mem_append.1 ha with ha|ha
 ·exact rSl.there (Am.fixed Ah.fixed) h3 a ha
 rcases List.mem_append.1 ha with ha|ha
 ·exact rSl.there Ah.fixed h4 a ha
 exact rSl.there AA.fixed h5 a ha
theorem Af.ones:∀(w:World) (f:List Addr) (cs:List Value) (d:Ao),Af w f cs d→∀u,u∈cs→u.oneCell'=true:=by
 rintro w fs cs d ⟨v0,v1,v2,v3,v4,v5,f0,f1,f2,f3,f4,f5,e,ef,o0,o1,o2,o3,o4,o5,o6,o7,o8,o9,o10,o11,o12,h0,h1,h2,h3,h4,h5⟩ u hu;subst e;obtain⟨A0,c0,rfl,-⟩:=rSl.head h0;obtain⟨A1,c1,rfl,-⟩:=rSl.head h1;obtain⟨A2,c2,rfl,-⟩:=rSl.head h2;obtain⟨A3,c3,rfl,-⟩:=rSl.head h3;obtain⟨A4,c4,rfl,-⟩:=rSl.head h4;obtain⟨A5,c5,rfl,-⟩:=rSl.head h5;simp only[List.mem_cons,List.not_mem_nil,or_false]at hu;rcases hu with rfl|rfl|rfl|rfl|rfl|rfl|rfl|rfl|rfl|rfl|rfl|rfl|rfl|rfl|rfl|rfl|rfl|rfl|rfl|rfl <;> rfl
theorem Af.wide:El 20 Af:=by
 rintro w fs cs d ⟨v0,v1,v2,v3,v4,v5,f0,f1,f2,f3,f4,f5,e,ef,o0,o1,o2,o3,o4,o5,o6,o7,o8,o9,o10,o11,o12,h0,h1,h2,h3,h4,h5⟩;subst e;rfl
def Bc:Aw Dg:=fun w fs cs d =>∃(v0:Value) (v1:Value) (v2:Value) (v3:Value) (v4:Value) (v5:Value) (f0:List Addr) (f1:List Addr) (f2:List Addr) (f3:List Addr) (f4:List Addr) (f5:List Addr),cs= [int i64 d.code,int i64 d.id,int i64 d.archive.world.s.g,int i64 d.archive.world.s.c,int i64 d.archive.world.s.data,int i64 d.archive.world.s.p,int i64 d.archive.world.s.rows,int i64 d.archive.world.s.cap,int i64 d.archive.world.s.b,int i64 d.archive.world.s.q,int i64 d.archive.world.s.t,v0,v1,v2,int i64 d.archive.world.u,int i64 d.archive.world.stop,.bool d.archive.world.down,v3,v4,v5,int i64 d.archive.desk.turn,int i64 d.archive.desk.next]∧fs=f0 ++(f1 ++(f2 ++(f3 ++(f4 ++(f5)))))∧okI d.code∧okI d.id∧okI d.archive.world.s.g∧okI d.archive.world.s.c∧okI d.archive.world.s.data∧okI d.archive.world.s.p∧okI d.archive.world.s.rows∧okI d.archive.world.s.cap∧okI d.archive.world.s.b∧okI d.archive.world.s.q∧okI d.archive.world.s.t∧okI d.archive.world.u∧okI d.archive.world.stop∧okI d.archive.desk.turn∧okI d.archive.desk.next∧rSl 1 (Am 2 Av) w f0 v0 d.archive.world.g∧rSl 1 As w f1 v1 d.archive.world.on∧rSl 2 AK w f2 v2 d.archive.world.v∧rSl 1 (Am 4 Ah) w f3 v3 d.archive.desk.queues∧rSl 4 Ah w f4 v4 d.archive.desk.aside∧rSl 4 AA w f5 v5 d.archive.desk.answers
theorem Bc.local_:AZ Bc:=by
 rintro w w' fs cs d ⟨v0,v1,v2,v3,v4,v5,f0,f1,f2,f3,f4,f5,e,ef,o0,o1,o2,o3,o4,o5,o6,o7,o8,o9,o10,o11,o12,o13,o14,h0,h1,h2,h3,h4,h5⟩ hs;subst ef;exact⟨v0,v1,v2,v3,v4,v5,_,_,_,_,_,_,e,rfl,o0,o1,o2,o3,o4,o5,o6,o7,o8,o9,o10,o11,o12,o13,o14,rSl.keep (Am.local_ Av.local_) h0 hs.left,rSl.keep As.local_ h1 hs.right.left,rSl.keep AK.local_ h2 hs.right.right.left,rSl.keep (Am.local_ Ah.local_) h3 hs.right.right.right.left,rSl.keep Ah.local_ h4 hs.right.right.right.right.left,rSl.keep AA.local_ h5 hs.right.right.right.right.right⟩
theorem Bc.fixed:Bh Bc:=by
 rintro w fs cs d ⟨v0,v1,v2,v3,v4,v5,f0,f1,f2,f3,f4,f5,e,ef,o0,o1,o2,o3,o4,o5,o6,o7,o8,o9,o10,o11,o12,o13,o14,h0,h1,h2,h3,h4,h5⟩ a ha;subst ef;rcases List.mem_append.1 ha with ha|ha
 ·exact rSl.there (Am.fixed Av.fixed) h0 a ha
 rcases List.mem_append.1 ha with ha|ha
 ·exact rSl.there As.fixed h1 a ha
 rcases List.mem_append.1 ha with ha|ha
 ·exact rSl.there AK.fixed h2 a ha
 rcases List.mem_append.1 ha with ha|ha
 ·exact rSl.there (Am.fixed Ah.fixed) h3 a ha
 rcases List.mem_append.1 ha with ha|ha
 ·exact rSl.there Ah.fixed h4 a ha
 exact rSl.there AA.fixed h5 a ha
theorem Bc.ones:∀(w:World) (f:List Addr) (cs:List Value) (d:Dg),Bc w f cs d→∀u,u∈cs→u.oneCell'=true:=by
 rintro w fs cs d ⟨v0,v1,v2,v3,v4,v5,f0,f1,f2,f3,f4,f5,e,ef,o0,o1,o2,o3,o4,o5,o6,o7,o8,o9,o10,o11,o12,o13,o14,h0,h1,h2,h3,h4,h5⟩ u hu;subst e;obtain⟨A0,c0,rfl,-⟩:=rSl.head h0;obtain⟨A1,c1,rfl,-⟩:=rSl.head h1;obtain⟨A2,c2,rfl,-⟩:=rSl.head h2;obtain⟨A3,c3,rfl,-⟩:=rSl.head h3;obtain⟨A4,c4,rfl,-⟩:=rSl.head h4;obtain⟨A5,c5,rfl,-⟩:=rSl.head h5;simp only[List.mem_cons,List.not_mem_nil,or_false]at hu;rcases hu with rfl|rfl|rfl|rfl|rfl|rfl|rfl|rfl|rfl|rfl|rfl|rfl|rfl|rfl|rfl|rfl|rfl|rfl|rfl|rfl|rfl|rfl <;> rfl
theorem Bc.wide:El 22 Bc:=by
 rintro w fs cs d ⟨v0,v1,v2,v3,v4,v5,f0,f1,f2,f3,f4,f5,e,ef,o0,o1,o2,o3,o4,o5,o6,o7,o8,o9,o10,o11,o12,o13,o14,h0,h1,h2,h3,h4,h5⟩;subst e;rfl
theorem Aw.below {α:Type} {R:Aw α}(hL:AZ R)(hF:Bh R) {w w':World} {fs:List Addr} {cs:List Value} {d:α}(h:R w fs cs d)(hb:Below w.heap.size w w'):R w' fs cs d:=hL _ _ _ _ _ h (AT.of_below (hF _ _ _ _ h) hb)
theorem Am.one {α:Type} {R:Aw α} {k:Nat} {w:World} {fs:List Addr} {v:Value} {ds:List α}(h:Am k R w fs [v] ds):rSl k R w fs v ds:=by
 obtain⟨v',e,h⟩:=h;injection e with e _
 rwa [e]
theorem Cn.open_ {w:World} {fs:List Addr} {v:Value} {bs:List Int}(h:Cn w fs v bs) :
  ∃A c,v= .slice A bs.length c∧bs.length≤c∧c≤9223372036854775807∧∀k,(hk:k<bs.length)→∃ad,A=some ad∧ad.add k∈fs∧(ad.add k).block <w.heap.size∧w.cell? (ad.add k)=some (int i64 bs[k])∧okI bs[k]:=by
 obtain⟨A,c,e,h1,h2,h3⟩:=h;refine⟨A,c,e,h1,by omega,fun k hk => ?_⟩;rcases h3 with⟨rfl,_⟩|⟨ad,css,fss,e1,e2,e3,e4,h3⟩
 ·cases hk
 ·obtain⟨q1,q2,q3,q4,q5,q6,q8⟩:=h3 k hk;have q7:=q4 0 (by omega);simp only[q6,List.getElem_cons_zero,Nat.mul_one,Nat.add_zero]at q7;exact⟨ad,e1,by rw[e4];exact List.mem_append_left _ (AY.2 ⟨k,by omega,rfl⟩),World.block_lt_of_cell? _ _ q7,q7,q8⟩
theorem Ak.below {lo:Nat} {w w':World} {f:List Addr}(h:Ak lo w f)(hb:Below w.heap.size w w')(ht:CM f w):Ak lo w' f:=h.wrote (AC.of_below (fs:=f) hb) ht
theorem Blk.drew_ {w:World} {g:Nat} {t:TypeId} {cs:Array Value}(h:Blk w g t cs):Blk w.drew g t cs:=h
theorem Aj.alloc_ {α:Type} {k:Nat} {E:TypeId} {R:Aw α}(hR:AZ R)(hF:Bh R) {w:World} {base:Nat} {v:Value} {ds:List α} {fs:List Addr} {o:Obj}(h:Aj k E R w base v ds fs):Aj k E R (w.alloc o) base v ds fs:=h.below hR hF ((Below.refl _ _).alloc (Nat.le_refl _) _)
theorem Aj.drew_ {α:Type} {k:Nat} {E:TypeId} {R:Aw α}(hR:AZ R) {w:World} {base:Nat} {v:Value} {ds:List α} {fs:List Addr}(h:Aj k E R w base v ds fs):Aj k E R w.drew base v ds fs:=h.keep hR (fun _ _ => rfl) (fun _ _ => rfl)
theorem Aa {w W:World}(h:Below w.heap.size w W)(o:Obj):Below w.heap.size w (W.alloc o):=h.alloc h.size o
theorem Ai {w W:World}(h:Below w.heap.size w W):Below w.heap.size w W.drew:=⟨h.os,h.tape,h.output,h.size,h.block⟩
theorem Cj {w W:World}(h:Below w.drew.heap.size w.drew W):Below w.heap.size w W:=⟨h.os,h.tape,h.output,h.size,h.block⟩
theorem Aj.far_ {α:Type} {k:Nat} {E:TypeId} {R:Aw α}(hR:AZ R) {w:World} {base:Nat} {v:Value} {ds:List α} {fs:List Addr}(h:Aj k E R w base v ds fs)(hm:Ak base w fs) {p:Addr}(hp:p.block<base)(u:Value):Aj k E R (w.setCell p u) base v ds fs :=
 h.keep hR (fun b hb => Below.heap_setCell w p u b (by have:=(h.lt b hb).1;omega)) (fun a ha => World.cell?_setCell_other _ _ _ _ (fun e => by have:=hm.from_ a ha;rw[← e]at this;omega))
theorem Ak.appended {α:Type} {k:Nat} {E:TypeId} {R:Aw α}(hF:Bh R) {wr W w8:World} {base:Nat} {v:Value} {ds:List α} {fs f h:List Addr}(ho:Aj k E R wr base v ds fs)(hm:Ak base wr fs)(hW:Below wr.heap.size wr W)(hf:Ak wr.heap.size W f)(hft:CM f W)(s:h.Sublist f)(r:W.grownBy w8 v.ownBlock)(hbase:base≤wr.heap.size):Ak base w8 (fs ++ h):=by
 have ht:=ho.there hF;refine⟨?_,fun a ha => ?_,fun a ha => ?_⟩
 ·unfold List.Nodup;refine List.pairwise_append.2 ⟨hm.nodup,s.nodup hf.nodup,fun a ha b hb e => ?_⟩;subst e;have:=ht a ha;have:=hf.from_ a (s.subset hb);omega
 ·rcases List.mem_append.1 ha with ha|ha
  ·exact hm.from_ a ha
  ·exact Nat.le_trans hbase (hf.from_ a (s.subset ha))
 ·rcases List.mem_append.1 ha with ha|ha
  ·rw[World.frozen?_of_block (r.block a.block (Nat.lt_of_lt_of_le (ht a ha) hW.size) (fun e => ho.far a ha e.symm)),hW.frozen (ht a ha)];exact hm.free a ha
  ·have ha2:=s.subset ha;rw[World.frozen?_of_block (r.block a.block (hft a ha2) (fun e => by have:=(ho.lt _ e.symm).2;have:=hf.from_ a ha2;omega))];exact hf.free a ha2
theorem EP {α:Type}(j:Nat)(d:α):List.replicate j d ++ [d] =List.replicate (j+1) d:=(List.replicate_succ').symm
theorem Cm {α:Type} {k:Nat} {E:TypeId} {R:Aw α} {P:Program}(t ty:TypeId)(z:Value)(bytes:Nat)(ht:P.underlying t=some (.slice E))(hi:(P.info? E).map (fun i =>(i.zero,i.size,i.bytes))=some (some z,k,bytes))(hzs:z.cells.size=k)(hk:0<k)
  (hR:AZ R) (hF:Bh R) (hO:∀w f cs d,R w f cs d→∀u,u∈cs→u.oneCell'=true) (hb:bytes≤1000) {wr w2 W:World} {base:Nat} {v:Value} {ds:List α} {fs:List Addr} (ho:Aj k E R wr base v ds fs) (hm:Ak base wr fs) (hbase:base≤wr.heap.size) (hn:ds.length+1≤1000000000)
  {us:List Value} {f:List Addr} {d:α} {b:Nat} (B2:Below wr.heap.size wr w2) (hr:R w2 f us d) (hf:Ak wr.heap.size w2 f) (hus:us.length=k) (B5:Below w2.heap.size w2 W) (hblk:Blk W b E us.toArray) :
  ∃v' w',(Builtin.append_ #[t,t] ty #[v,.slice (some ⟨b,0,none⟩) 1 1]).run P W= .ok v' w'∧∃A c h,v'= .slice A (ds.length+1) c∧Aj k E R w' base v' (ds ++ [d]) (fs ++ h)∧Ak base w' (fs ++ h)∧Below base wr w'∧wr.heap.size≤w'.heap.size:=by
 have BW:Below wr.heap.size wr W:=B2.trans (B5.mono B2.size);have ho2:Aj k E R W base v ds fs:=ho.below hR hF BW;have hr2:R W f us d:=Aw.below hR hF hr B5;have hf2:Ak wr.heap.size W f:=hf.below B5 (hF _ _ _ _ hr);obtain⟨v',w',q1,h,q2,q3,q4,-⟩:=Aj.appendOne (P:=P) t ty z bytes ht hi hzs hk hR hF hO base v ds fs ho2 b us f d hus hblk hr2 (fun a ha e => by
  have:=(ho.lt _ e).2;have:=hf.from_ a ha;omega) hn hb (Nat.le_trans hbase BW.size)
 obtain⟨A,c,e,-⟩:=q2.length;exact⟨v',w',q1,A,c,h,by rw[e];simp,q2,Ak.appended hF ho hm BW hf2 (hF _ _ _ _ hr2) q3 q4 hbase,Below.grown (BW.mono hbase) q4 (Nat.le_trans hbase BW.size) (fun k hk =>(ho.lt k hk).1),Nat.le_trans BW.size q4.size⟩
def DQ(cs:Array Value):Nat→List Value→Array Value
 |_,[] => cs
 |o,v :: r => DQ (cs.setIfInBounds o v) (o+1) r
theorem Blk.setCells_ {g:Nat} {t:TypeId}:∀(vs:List Value) (o:Nat) (w:World) (cs:Array Value),Blk w g t cs→Blk (w.setCells g o vs) g t (DQ cs o vs)
 | [],_,_,_,h => h
 |v :: r,o,_,_,h => Blk.setCells_ r (o+1) _ _ (Blk.set_ h o v)
theorem Ev:∀(vs:List Value) (o:Nat) (cs:Array Value),o+vs.length≤cs.size→∀i,(DQ cs o vs)[i]? =if i<o then cs[i]? else if i<o+vs.length then vs[i - o]? else cs[i]?
 | [],o,cs,_,i => by simp[DQ];intro h1 h2;omega
 |v :: r,o,cs,h,i => by
  simp only[List.length_cons]at h;rw[DQ,Ev r (o+1) _ (by simp;omega) i];rcases Nat.lt_trichotomy i o with h1|h1|h1
  ·rw[if_pos (by omega),if_pos h1,Array.getElem?_setIfInBounds_ne (by omega)]
  ·subst h1;rw[if_pos (by omega),if_neg (by omega),if_pos (by simp),Array.getElem?_setIfInBounds_self_of_lt (by omega)];simp
  ·rw[if_neg (show¬i<o+1 from by omega),if_neg (show¬i<o from by omega),List.length_cons,show o+(r.length+1)=o+1+r.length from by omega,Array.getElem?_setIfInBounds_ne (by omega)];by_cases h2:i<o+1+r.length
   ·rw[if_pos h2,if_pos h2,show i - o=(i - (o+1))+1 from by omega,List.getElem?_cons_succ]
   ·rw[if_neg h2,if_neg h2]
theorem Le(vs:List Value)(cs:Array Value)(h:cs.size=vs.length):DQ cs 0 vs=vs.toArray:=by
 apply Array.ext_getElem?
 intro i;rw[Ev vs 0 cs (by omega) i,if_neg (by omega),Nat.zero_add];by_cases hi:i<vs.length
 ·rw[if_pos hi];simp
 ·rw[if_neg hi,Array.getElem?_eq_none (by omega)];simp;omega
theorem Blk.laid {w:World} {g:Nat} {t:TypeId} {cs:Array Value}(h:Blk w g t cs)(vs:List Value)(hl:cs.size=vs.length):Blk (w.setCells g 0 vs) g t vs.toArray:=by
 have:=Blk.setCells_ vs 0 w cs h;rwa [Le vs cs hl]at this
theorem Blk.farS {g:Nat} {t:TypeId} {cs:Array Value}:∀(vs:List Value) (b o:Nat) (w:World),g≠b→Blk w g t cs→Blk (w.setCells b o vs) g t cs
 | [],_,_,_,_,h => h
 |v :: r,b,o,_,hg,h => Blk.farS r b (o+1) _ hg (Blk.far h hg v)
theorem Below.setCells_ {B:Nat} {w0:World}:∀(vs:List Value) (b o:Nat) (w:World),B≤b→Below B w0 w→Below B w0 (w.setCells b o vs)
 | [],_,_,_,_,h => h
 |v :: r,b,o,_,hb,h => Below.setCells_ r b (o+1) _ hb (h.setCell hb v)
theorem Ak.setS {lo:Nat} {fs:List Addr}:∀(vs:List Value) (b o:Nat) (w:World),Ak lo w fs→Ak lo (w.setCells b o vs) fs
 | [],_,_,_,h => h
 |v :: r,b,o,_,h => Ak.setS r b (o+1) _ (Ak.set_ h _ v)
theorem Aj.farS {α:Type} {k:Nat} {E:TypeId} {R:Aw α}(hR:AZ R) {base:Nat} {v:Value} {ds:List α} {fs:List Addr}:∀(vs:List Value) (b o:Nat) (w:World),b<base→Aj k E R w base v ds fs→Ak base w fs→Aj k E R (w.setCells b o vs) base v ds fs
 | [],_,_,_,_,h,_ => h
 |u :: r,b,o,_,hb,h,hm => Aj.farS hR r b (o+1) _ hb (Aj.far_ hR h hm (p:=⟨b,o,none⟩) hb u) (Ak.set_ hm _ u)
theorem Blk.there {w:World} {g:Nat} {t:TypeId} {cs:Array Value}(h:Blk w g t cs)(n:Nat)(hn:n≤cs.size):w.there g 0 n:=fun j hj => by
 rw[Nat.zero_add];refine⟨?_,h.frozen j⟩;rw[h.cell,Array.getElem?_eq_getElem (by omega)];rfl
theorem Am.ones {α:Type} {k:Nat} {R:Aw α}:∀(w:World) (f:List Addr) (cs:List Value) (d:List α),Am k R w f cs d→∀u,u∈cs→u.oneCell'=true:=by
 rintro w f cs d ⟨v,rfl,h⟩ u hu;obtain⟨A,c,rfl,-⟩:=rSl.head h;simp only[List.mem_cons,List.not_mem_nil,or_false]at hu;subst hu;rfl
theorem CW(P:Program)(t e:TypeId)(z:Value)(k bytes:Nat)(ht:P.underlying t=some (.slice e))(hinfo:(P.info? e).map (fun i =>(i.zero,i.size,i.bytes))=some (some z,k,bytes))(n:Nat)(hn:n≤1048576)(hby:bytes≤1000)(w:World) :
  (Instr.makeSlice t (int i64 (n:Int)) (int i64 (n:Int))).run P w= .ok (.slice (some ⟨w.heap.size,0,none⟩) n n) (w.alloc (.cells (madeCells z.cells (n * k)) e)):=by
 obtain⟨i,hi,hz,hs,hb⟩:=info_parts hinfo;have h2:bytes * n≤1048576000:=by
  calc bytes * n≤1000 * 1048576:=Nat.mul_le_mul hby hn
   _=1048576000:=by decide
 have h3:(i.bytes:Int) * (n:Int)≤281474976710656:=by
  rw[hb];have:((bytes * n:Nat):Int)≤1048576000:=Int.ofNat_le.2 h2;rw[Int.natCast_mul]at this;omega
 have:=run_make w t e i z ht hi hz .i64 .i64 (n:Int) (n:Int) (by omega) (by omega) h3 (by omega);rw[hs]at this;simpa using this
theorem rSl.ofRow {α:Type} {k:Nat} {R:Aw α} {w:World} {g n:Nat} {ds:List α}(css:List (List Value))(fss:List (List Addr))(hn:ds.length=n)(hm:n≤9223372036854775807)(h1:css.length=n)(h2:fss.length=n)
  (h:∀i,(hi:i<n)→(css[i]'(by omega)).length =k∧(∀q,(hq:q<(css[i]'(by omega)).length)→w.cell? ⟨g,i * k+q,none⟩=some (css[i]'(by omega))[q])∧R w (fss[i]'(by omega)) (css[i]'(by omega)) (ds[i]'(by omega))) :
  rSl k R w (Az ⟨g,0,none⟩ (n * k) ++ fss.flatten) (.slice (some ⟨g,0,none⟩) n n) ds:=by
 subst hn;refine⟨some ⟨g,0,none⟩,ds.length,rfl,Nat.le_refl _,hm,.inr ⟨⟨g,0,none⟩,css,fss,rfl,h1,h2,rfl,fun i hi => ?_⟩⟩;obtain⟨a,b,c⟩:=h i hi;refine⟨by omega,by omega,a,fun q hq => ?_,c⟩;have e:(⟨g,0,none⟩:Addr).add (i * k+q)=⟨g,i * k+q,none⟩:=BG g _;rw[e];exact b q hq
theorem BM {g n:Nat} {a:Addr}(h:a∈Az ⟨g,0,none⟩ n):a.block=g:=by
 obtain⟨q,_,rfl⟩:=AY.1 h;exact EA _ _
theorem Blk.wrote {w w':World} {fs:List Addr} {g:Nat} {t:TypeId} {cs:Array Value}(h:Blk w g t cs)(hw:AC fs w w')(hf:∀a,a∈fs→a.block≠g):Blk w' g t cs:=(hw.block g h.lt hf).trans h
theorem Ak.left {lo:Nat} {w:World} {f g:List Addr}(h:Ak lo w (f ++ g)):Ak lo w f:=⟨(List.nodup_append.1 h.nodup).1,fun a ha => h.from_ a (List.mem_append_left _ ha),fun a ha => h.free a (List.mem_append_left _ ha)⟩
theorem Ak.right {lo:Nat} {w:World} {f g:List Addr}(h:Ak lo w (f ++ g)):Ak lo w g:=⟨(List.nodup_append.1 h.nodup).2.1,fun a ha => h.from_ a (List.mem_append_right _ ha),fun a ha => h.free a (List.mem_append_right _ ha)⟩
theorem Ak.apart {lo:Nat} {w:World} {f g:List Addr}(h:Ak lo w (f ++ g))(a:Addr)(ha:a∈f)(hb:a∈g):False:=(List.nodup_append.1 h.nodup).2.2 a ha a hb rfl
theorem CE {fs:List Addr}(vs:List Value)(b o:Nat)(w:World)(h:∀a,a∈fs→a.block≠b):AT fs w (w.setCells b o vs):=fun a ha => World.cell?_setCells_out b vs o w a (fun hb _ => absurd hb (h a ha))
theorem boxed(w:World)(t:TypeId)(Z:Array Value)(cs:List Value)(h:Z.size=cs.length):Below w.heap.size w ((w.alloc (.cells Z t)).setCells w.heap.size 0 cs)∧Blk ((w.alloc (.cells Z t)).setCells w.heap.size 0 cs) w.heap.size t cs.toArray :=
 ⟨Below.setCells_ _ _ _ _ (Nat.le_refl _) ((Below.refl _ _).alloc (Nat.le_refl _) _),Blk.laid (Blk.new _ _ _) cs h⟩
theorem Blk.rangeAll {w:World} {g:Nat} {t:TypeId} {cs:List Value}(h:Blk w g t cs.toArray):w.rangeAt g 0 cs:=Blk.range h 0 cs (by simp)
end Go.Proofs.YthbljikbnoghcaaGreat
namespace Go.Proofs.YthbljikbnoghcaaGreat
open Go.RowKit
open Go.Lib (hid)
theorem IQ {w:World} {base:Nat} {T:TypeId} {v:Value} {n:Nat} {l:List UInt8}(h:w.ownsRow base T 1 v n (l.map DO)):∃fs,Ap w fs v l∧Ak base w fs:=by
 obtain⟨hl,h2⟩:=h;simp at hl;rcases h2 with⟨rfl,h0⟩|⟨g,cap,cur,rfl,hb,hg,hnc,hcm,hcs,htake⟩
 ·have:l= []:=List.eq_nil_of_length_eq_zero (by omega);subst this;exact⟨[],Ap.empty (by omega),List.nodup_nil,(fun _ h => by cases h),(fun _ h => by cases h)⟩
 ·subst hl;simp only[maxLen]at hcm;refine⟨Az ⟨g,0,none⟩ l.length,Ap.close_ hnc (by omega) (fun k hk => ?_),CB rfl,fun a ha => ?_,fun a ha => ?_⟩
  ·rw[BG,cell_of_row w g k cur T (0,0) hg];have h3:(cur.toList.take (l.length * 1))[k]? =some (DO l[k]):=by rw[htake];simp[hk]
   rw[List.getElem?_take]at h3;rw[if_pos (by omega)]at h3;simpa [DO]using h3
  ·obtain⟨k,_,rfl⟩:=AY.1 ha;rw[EA];exact hb
  ·obtain⟨k,_,rfl⟩:=AY.1 ha;rw[BG];exact frozen_of_row w g k cur T hg
def clPost(xs:List UInt8)(w:World)(e:Ending)(w':World):Prop :=
 ∃v fs,e= .returned v∧Ap w' fs v xs∧Ak w.heap.size w' fs∧Below w.heap.size w w'
theorem Ap.cells {w:World} {fs:List Addr} {ad:Addr} {n c:Nat} {xs:List UInt8}(h:Ap w fs (.slice (some ad) n c) xs):∀j u,(xs.map DO)[j]? =some u→w.cell? (ad.add j)=some u:=by
 obtain⟨A1,c1,e,hc1,hm1,hx⟩:=Ap.open_ h;intro j u hj;have hlt:j<xs.length:=by
  have:=(List.getElem?_eq_some_iff.1 hj).1;simpa using this
 obtain⟨a2,e2,_,_,h4⟩:=hx j hlt;injection e with e1
 rw[e2]at e1;injection e1 with e1
 subst e1;rw[h4];simp[hlt]at hj;rw[← hj];rfl
theorem Cc(v:Value)(xs:List UInt8)(fs:List Addr)(w:World)(h1:Ap w fs v xs)(hsm:xs.length≤1048576) :
  Calls Tryz.prog 73 #[v] w (clPost xs w):=by
 obtain⟨i0,hi,hz0,hz1,hz2⟩:=info_parts Tryz.info5;have q22:∀(w:World) (a:Option Addr) (n c n' c':Nat),(binOp .eql 22 (.slice a n c) (.slice none n' c')).run Tryz.prog w= .ok (.bool a.isNone) w:=fun w a n c n' c' => Lib.run_eql_slice_nil w _ _ a n c n' c' Tryz.underlying22
 have H1:=hid h1;obtain⟨A1,c1,rfl,hc1,hm1,hx⟩:=h1.form;clear h1;cases A1 with
 |none =>
  have hxs:xs= []:=by
   rcases hx with⟨rfl,_⟩|⟨ad,e,_⟩
   ·rfl
   ·cases e
  subst hxs;clear hx;go_enter Tryz.func73,Tryz.ntmps73
  go_wp2_with fail
  go_ret
  exact⟨_,[],rfl,Ap.empty (by omega),⟨List.nodup_nil,(fun _ h => by cases h),(fun _ h => by cases h)⟩,Below.refl _ _⟩
 |some ad =>
  clear hx;have hce:=hid (Ap.cells (H1.out.below ((Below.refl w.heap.size w).alloc (Nat.le_refl _) (.cells #[] 5))));go_enter Tryz.func73,Tryz.ntmps73
  go_wp2_with (at_builtin;refine wpList_append_own _ rfl _ _ 22 rfl w.heap.size 5 i0 (.int .u8 0) 1 1 Tryz.underlying22 hi hz0 hz1 hz2 rfl (by decide) _ _ _ rfl (World.ownsRow_lit w #[] 0 (Nat.le_refl _) (Nat.zero_le _) rfl) ad xs.length c1 (xs.map DO) rfl ?qc1 hce.out ?qc3 ?qc4 ?qc5 ?qc6 ?_)
  case qc1 => simp
  case qc3 => intro u hu;obtain⟨x,_,rfl⟩:=List.mem_map.1 hu;rfl
  case qc4 => unfold maxLen;omega
  case qc5 => omega
  case qc6 => simp
  intro v' w1 hown hgrow hnil;have HB:=hid (((Below.refl w.heap.size w).alloc (Nat.le_refl _) (.cells #[] 5)).grown hgrow (by simp) (by intro k hk;simp[Value.ownBlock]at hk;omega));have HO:=hid hown;clear hown hgrow hnil;go_wp2
  go_ret
  obtain⟨fs',h2,h3⟩:=IQ (show w1.ownsRow w.heap.size 5 1 v' xs.length (xs.map DO)from HO.out);exact⟨_,fs',rfl,h2,h3,HB.out⟩
end Go.Proofs.YthbljikbnoghcaaGreat
namespace Go.Proofs
open Go.Shelf Go.RowKit
def Tryz.laysnb115_ren:Go.Shelf.Ren:=⟨fun|115 => 231|n => n,fun|4 => 4|9 => 9|37 => 22|5 => 5|n => n,fun n => n⟩
theorem Tryz.laysnb115:Go.Proofs.Lays.nb115 Tryz.prog Tryz.laysnb115_ren:={
 mixed:=by kernel_rfl
 f115:=Tryz.func231.trans (congrArg some (by kernel_rfl))
 t4:=Tryz.underlying4
 a4:=Tryz.isAgg4
 z4:=Tryz.sizeOf4
 v4:=Tryz.zeroValue4
 t9:=Tryz.underlying9
 a9:=Tryz.isAgg9
 z9:=Tryz.sizeOf9
 v9:=Tryz.zeroValue9
 t37:=Tryz.underlying22
 a37:=Tryz.isAgg22
 z37:=Tryz.sizeOf22
 v37:=Tryz.zeroValue22
 t5:=Tryz.underlying5
 a5:=Tryz.isAgg5
 z5:=Tryz.sizeOf5
 v5:=Tryz.zeroValue5 }
theorem Tryz.bytesEqual(p1 p2:Option Addr)(n c m d:Nat)(xs ys:List Int)(w:World)(hx:xs.length=n)(hy:ys.length=m)(h1:Lib.BytesIn w p1 n xs)(h2:Lib.BytesIn w p2 m ys) :
  Calls Tryz.prog 231 #[.slice p1 n c,.slice p2 m d] w fun e w' => e= .returned (.bool (Lib.bytesOf xs == Lib.bytesOf ys))∧w'=w:=Any.bytes_Equal_all Tryz.laysnb115 p1 p2 n c m d xs ys w hx hy h1 h2
end Go.Proofs
