/- Part 2 of the proof. -/
import Derived.Test.YtofeknacbdcoaaaGreatDoorK01
set_option maxHeartbeats 8000000
set_option maxRecDepth 100000
set_option linter.unusedVariables false
set_option linter.unusedSimpArgs false
open Go.Proofs.Tryz
open Go.Value (int)
open Go.IntKind (i64)
namespace Go.Proofs.YtofeknacbdcoaaaGreatDoor
open Go.RowKit Go.Sort
def okI(x:Int):Prop:=-9223372036854775808<=x/\x<=9223372036854775807
structure Bh where
 g:Int
 c:Int
 data:Int
 p:Int
 rows:Int
 cap:Int
 b:Int
 q:Int
 t:Int
deriving DecidableEq
instance:Coe Bh (List Value):=⟨fun s=>[.int .i64 s.g,.int .i64 s.c,.int .i64 s.data,.int .i64 s.p,.int .i64 s.rows,.int .i64 s.cap,.int .i64 s.b,.int .i64 s.q,.int .i64 s.t]⟩
structure Cj where
 stamp:Int
 bytes:List UInt8
deriving DecidableEq
structure Ba where
 wiped:Bool
 blocks:List Cj
deriving DecidableEq
structure Aj where
 kind:Int
 seq:Int
 name:ByteArray
 length:Int
 group:Int
 row:Int
 rows:List Int
 data:List UInt8
 delta:List UInt8
deriving DecidableEq
structure zKY where zK::(x:Aj)(a b c:Value)
abbrev zK:=@zKY.zK
instance(x a b c):CoeDep zKY (zKY.zK x a b c) (List Value):=⟨[.int .i64 x.kind,.int .i64 x.seq,.string x.name,.int .i64 x.length,.int .i64 x.group,.int .i64 x.row,a,b,c]⟩
instance(x a b c):CoeDep zKY (zKY.zK x a b c) (Array Value):=⟨#[.int .i64 x.kind,.int .i64 x.seq,.string x.name,.int .i64 x.length,.int .i64 x.group,.int .i64 x.row,a,b,c]⟩
structure yZY where yZ::(x:Aj)(a:Option Addr)(b c:Nat)(e:Option Addr)(f g:Nat)(h:Option Addr)(i j:Nat)
abbrev yZ:=@yZY.yZ
instance(x a b c e f g h i j):CoeDep yZY (yZY.yZ x a b c e f g h i j) (List Value):=⟨[.int .i64 x.kind,.int .i64 x.seq,.string x.name,.int .i64 x.length,.int .i64 x.group,.int .i64 x.row,.slice a b c,.slice e f g,.slice h i j]⟩
instance(x a b c e f g h i j):CoeDep yZY (yZY.yZ x a b c e f g h i j) (Array Value):=⟨#[.int .i64 x.kind,.int .i64 x.seq,.string x.name,.int .i64 x.length,.int .i64 x.group,.int .i64 x.row,.slice a b c,.slice e f g,.slice h i j]⟩
structure Be where
 wiped:Bool
 recs:List Aj
deriving DecidableEq
structure As where
 s:Bh
 g:List (List Ba)
 on:List Int
 v:List Be
 u:Int
 stop:Int
 down:Bool
deriving DecidableEq
structure zCY where zC::(d:As)(a b c:Value)
abbrev zC:=@zCY.zC
instance(d a b c):CoeDep zCY (zCY.zC d a b c) (List Value):=⟨[.int .i64 d.s.g,.int .i64 d.s.c,.int .i64 d.s.data,.int .i64 d.s.p,.int .i64 d.s.rows,.int .i64 d.s.cap,.int .i64 d.s.b,.int .i64 d.s.q,.int .i64 d.s.t,a,b,c,.int .i64 d.u,.int .i64 d.stop,.bool d.down]⟩
instance(d a b c):CoeDep zCY (zCY.zC d a b c) (Array Value):=⟨#[.int .i64 d.s.g,.int .i64 d.s.c,.int .i64 d.s.data,.int .i64 d.s.p,.int .i64 d.s.rows,.int .i64 d.s.cap,.int .i64 d.s.b,.int .i64 d.s.q,.int .i64 d.s.t,a,b,c,.int .i64 d.u,.int .i64 d.stop,.bool d.down]⟩
structure zDY where zD::(d:As)(a:Option Addr)(b c:Nat)(e:Option Addr)(f g:Nat)(h:Option Addr)(i j:Nat)
abbrev zD:=@zDY.zD
instance(d a b c e f g h i j):CoeDep zDY (zDY.zD d a b c e f g h i j) (List Value):=⟨[.int .i64 d.s.g,.int .i64 d.s.c,.int .i64 d.s.data,.int .i64 d.s.p,.int .i64 d.s.rows,.int .i64 d.s.cap,.int .i64 d.s.b,.int .i64 d.s.q,.int .i64 d.s.t,.slice a b c,.slice e f g,.slice h i j,.int .i64 d.u,.int .i64 d.stop,.bool d.down]⟩
instance(d a b c e f g h i j):CoeDep zDY (zDY.zD d a b c e f g h i j) (Array Value):=⟨#[.int .i64 d.s.g,.int .i64 d.s.c,.int .i64 d.s.data,.int .i64 d.s.p,.int .i64 d.s.rows,.int .i64 d.s.cap,.int .i64 d.s.b,.int .i64 d.s.q,.int .i64 d.s.t,.slice a b c,.slice e f g,.slice h i j,.int .i64 d.u,.int .i64 d.stop,.bool d.down]⟩
structure AA where
 id:Int
 kind:Int
 name:ByteArray
 group:Int
deriving DecidableEq
structure AQ where
 id:Int
 code:Int
 turn:Int
 bytes:List UInt8
deriving DecidableEq
structure AP where
 queues:List (List AA)
 aside:List AA
 answers:List AQ
 turn:Int
 next:Int
deriving DecidableEq
structure zBY where zB::(d:AP)(a:Option Addr)(b:Nat)(c:Option Addr)(e:Nat)(f:Option Addr)(g:Nat)
abbrev zB:=@zBY.zB
instance(d a b c e f g):CoeDep zBY (zBY.zB d a b c e f g) (List Value):=⟨[.slice a d.queues.length b,.slice c d.aside.length e,.slice f d.answers.length g,.int .i64 d.turn,.int .i64 d.next]⟩
instance(d a b c e f g):CoeDep zBY (zBY.zB d a b c e f g) (Array Value):=⟨#[.slice a d.queues.length b,.slice c d.aside.length e,.slice f d.answers.length g,.int .i64 d.turn,.int .i64 d.next]⟩
structure AX where
 world:As
 desk:AP
deriving DecidableEq
structure IS where
 code:Int
 id:Int
 archive:AX
deriving DecidableEq
def EL:AC Bh:=fun _ fs cs d => cs= [int i64 d.g,d.c,d.data,d.p,d.rows,d.cap,d.b,d.q,d.t]/\fs= []/\okI d.g/\okI d.c/\okI d.data/\okI d.p/\okI d.rows/\okI d.cap/\okI d.b/\okI d.q/\okI d.t
theorem EL.L:BE EL:=fun _ _ _ _ _ h _ => h
theorem EL.X:BN EL:=fun _ _ _ _ h a c => by rw[h.2.1]at c;cases c
theorem EL.ones:∀(w:World) (f:List Addr) (cs:List Value) (d:Bh),EL w f cs d->∀u,u∈cs->u.oneCell'=true:=by
 rintro w fs cs d ⟨e,h,i,l,n,o,p,q,r,s,x⟩ u c;subst e;simp only[List.mem_cons,List.not_mem_nil,or_false]at c;rcases c with rfl|rfl|rfl|rfl|rfl|rfl|rfl|rfl|rfl <;> rfl
theorem EL.wide:GL 9 EL:=by
 rintro w fs cs d ⟨e,c,f,h,i,l,n,o,p,q,r⟩;subst e;rfl
def AK:AC Cj:=fun w fs cs d =>∃(e:Value) (c:List Addr),cs= [int i64 d.stamp,e]/\fs=c/\okI d.stamp/\rSl 1 Al w c e d.bytes
theorem AK.L:BE AK:=by
 rintro w w' fs cs d ⟨l,n,e,c,i,f⟩ h;subst c;exact⟨l,_,e,rfl,i,rSl.keep Al.L f h⟩
theorem AK.X:BN AK:=by
 rintro w fs cs d ⟨n,i,e,c,l,f⟩ a h;subst c;exact rSl.there Al.X f a h
theorem AK.ones:∀(w:World) (f:List Addr) (cs:List Value) (d:Cj),AK w f cs d->∀u,u∈cs->u.oneCell'=true:=by
 rintro w fs cs d ⟨p,n,e,l,o,h⟩ u c;subst e;obtain⟨i,c0,rfl,-⟩:=rSl.head h;simp only[List.mem_cons,List.not_mem_nil,or_false]at c;rcases c with rfl|rfl <;> rfl
theorem AK.wide:GL 2 AK:=by
 rintro w fs cs d ⟨l,f,e,c,i,h⟩;subst e;rfl
def Ar:AC Ba:=fun w fs cs d =>∃(e:Value) (c:List Addr),cs= [.bool d.wiped,e]/\fs=c/\rSl 2 AK w c e d.blocks
theorem Ar.L:BE Ar:=by
 rintro w w' fs cs d ⟨i,l,e,c,f⟩ h;subst c;exact⟨i,_,e,rfl,rSl.keep AK.L f h⟩
theorem Ar.X:BN Ar:=by
 rintro w fs cs d ⟨l,i,e,c,f⟩ a h;subst c;exact rSl.there AK.X f a h
theorem Ar.ones:∀(w:World) (f:List Addr) (cs:List Value) (d:Ba),Ar w f cs d->∀u,u∈cs->u.oneCell'=true:=by
 rintro w fs cs d ⟨o,n,e,l,h⟩ u c;subst e;obtain⟨i,c0,rfl,-⟩:=rSl.head h;simp only[List.mem_cons,List.not_mem_nil,or_false]at c;rcases c with rfl|rfl <;> rfl
theorem Ar.wide:GL 2 Ar:=by
 rintro w fs cs d ⟨i,f,e,c,h⟩;subst e;rfl
def Af:AC Aj:=fun w fs cs d =>∃(h:Value) (i:Value) (l:Value) (c:List Addr) (e:List Addr) (f:List Addr),cs= [int i64 d.kind,d.seq,.string d.name,int i64 d.length,d.group,d.row,h,i,l]/\fs=c ++(e ++(f))/\okI d.kind/\okI d.seq/\d.name.size<=9223372036854775807/\okI d.length/\okI d.group/\okI d.row/\rSl 1 Aw w c h d.rows/\rSl 1 Al w e i d.data/\rSl 1 Al w f l d.delta
theorem Af.L:BE Af:=by
 rintro w w' fs cs d ⟨u,x,y,z,f1,f2,e,f,n,o,p,q,r,s,h,i,l⟩ c;subst f;exact⟨u,x,y,_,_,_,e,rfl,n,o,p,q,r,s,rSl.keep Aw.L h c.left,rSl.keep Al.L i c.right.left,rSl.keep Al.L l c.right.right⟩
theorem Af.X:BN Af:=by
 rintro w fs cs d ⟨z,v1,v2,n,o,p,e,f,q,r,s,u,x,y,h,i,l⟩ a c;subst f;rcases List.mem_append.1 c with c|c
 ·exact rSl.there Aw.X h a c
 rcases List.mem_append.1 c with c|c
 ·exact rSl.there Al.X i a c
 exact rSl.there Al.X l a c
theorem Af.ones:∀(w:World) (f:List Addr) (cs:List Value) (d:Aj),Af w f cs d->∀u,u∈cs->u.oneCell'=true:=by
 rintro w fs cs d ⟨v0,v1,v2,r,s,x,e,q,y,z,o2,o3,o4,o5,h,i,l⟩ u c;subst e;obtain⟨n,c0,rfl,-⟩:=rSl.head h;obtain⟨o,c1,rfl,-⟩:=rSl.head i;obtain⟨p,c2,rfl,-⟩:=rSl.head l;simp only[List.mem_cons,List.not_mem_nil,or_false]at c;rcases c with rfl|rfl|rfl|rfl|rfl|rfl|rfl|rfl|rfl <;> rfl
theorem Af.wide:GL 9 Af:=by
 rintro w fs cs d ⟨y,z,v2,f,h,i,e,c,p,q,r,s,u,x,l,n,o⟩;subst e;rfl
def AE:AC Be:=fun w fs cs d =>∃(e:Value) (c:List Addr),cs= [.bool d.wiped,e]/\fs=c/\rSl 9 Af w c e d.recs
theorem AE.L:BE AE:=by
 rintro w w' fs cs d ⟨i,l,e,c,f⟩ h;subst c;exact⟨i,_,e,rfl,rSl.keep Af.L f h⟩
theorem AE.X:BN AE:=by
 rintro w fs cs d ⟨l,i,e,c,f⟩ a h;subst c;exact rSl.there Af.X f a h
theorem AE.ones:∀(w:World) (f:List Addr) (cs:List Value) (d:Be),AE w f cs d->∀u,u∈cs->u.oneCell'=true:=by
 rintro w fs cs d ⟨o,n,e,l,h⟩ u c;subst e;obtain⟨i,c0,rfl,-⟩:=rSl.head h;simp only[List.mem_cons,List.not_mem_nil,or_false]at c;rcases c with rfl|rfl <;> rfl
theorem AE.wide:GL 2 AE:=by
 rintro w fs cs d ⟨i,f,e,c,h⟩;subst e;rfl
def AF:AC As:=fun w fs cs d =>∃(i:Value) (l:Value) (n:Value) (e:List Addr) (f:List Addr) (h:List Addr),cs= [int i64 d.s.g,d.s.c,d.s.data,d.s.p,d.s.rows,d.s.cap,d.s.b,d.s.q,d.s.t,i,l,n,d.u,d.stop,.bool d.down]/\fs=e ++(f ++(h))/\okI d.s.g/\okI d.s.c/\okI d.s.data/\okI d.s.p/\okI d.s.rows/\okI d.s.cap/\okI d.s.b/\okI d.s.q/\okI d.s.t/\okI d.u/\okI d.stop/\rSl 1 (Ai 2 Ar) w e i d.g/\rSl 1 Aw w f l d.on/\rSl 2 AE w h n d.v
theorem AF.L:BE AF:=by
 rintro w w' fs cs d ⟨v0,v1,v2,f0,f1,f2,e,h,o,p,q,r,s,u,x,y,z,o9,f,i,l,n⟩ c;subst h;exact⟨v0,v1,v2,_,_,_,e,rfl,o,p,q,r,s,u,x,y,z,o9,f,rSl.keep (Ai.L Ar.L) i c.left,rSl.keep Aw.L l c.right.left,rSl.keep AE.L n c.right.right⟩
theorem AF.X:BN AF:=by
 rintro w fs cs d ⟨v0,v1,v2,o,p,q,e,f,r,s,u,x,y,z,o6,o7,o8,o9,n,h,i,l⟩ a c;subst f;rcases List.mem_append.1 c with c|c
 ·exact rSl.there (Ai.X Ar.X) h a c
 rcases List.mem_append.1 c with c|c
 ·exact rSl.there Aw.X i a c
 exact rSl.there AE.X l a c
theorem AF.ones:∀(w:World) (f:List Addr) (cs:List Value) (d:As),AF w f cs d->∀u,u∈cs->u.oneCell'=true:=by
 rintro w fs cs d ⟨v0,v1,v2,s,x,y,e,r,z,o1,o2,o3,o4,o5,o6,o7,o8,o9,n,h,i,l⟩ u c;subst e;obtain⟨o,c0,rfl,-⟩:=rSl.head h;obtain⟨p,c1,rfl,-⟩:=rSl.head i;obtain⟨q,c2,rfl,-⟩:=rSl.head l;simp only[List.mem_cons,List.not_mem_nil,or_false]at c;rcases c with rfl|rfl|rfl|rfl|rfl|rfl|rfl|rfl|rfl|rfl|rfl|rfl|rfl|rfl|rfl <;> rfl
theorem AF.wide:GL 15 AF:=by
 rintro w fs cs d ⟨v0,v1,v2,h,i,l,e,f,q,r,s,u,x,y,z,o7,o8,o9,c,n,o,p⟩;subst e;rfl
def Ag:AC AA:=fun _ fs cs d => cs= [int i64 d.id,d.kind,.string d.name,d.group]/\fs= []/\okI d.id/\okI d.kind/\d.name.size<=9223372036854775807/\okI d.group
theorem Ag.L:BE Ag:=fun _ _ _ _ _ h _ => h
theorem Ag.X:BN Ag:=fun _ _ _ _ h a c => by rw[h.2.1]at c;cases c
theorem Ag.ones:∀(w:World) (f:List Addr) (cs:List Value) (d:AA),Ag w f cs d->∀u,u∈cs->u.oneCell'=true:=by
 rintro w fs cs d ⟨e,h,i,l,n,o⟩ u c;subst e;simp only[List.mem_cons,List.not_mem_nil,or_false]at c;rcases c with rfl|rfl|rfl|rfl <;> rfl
theorem Ag.wide:GL 4 Ag:=by
 rintro w fs cs d ⟨e,c,f,h,i,l⟩;subst e;rfl
def AB:AC AQ:=fun w fs cs d =>∃(e:Value) (c:List Addr),cs= [int i64 d.id,d.code,d.turn,e]/\fs=c/\okI d.id/\okI d.code/\okI d.turn/\rSl 1 Al w c e d.bytes
theorem AB.L:BE AB:=by
 rintro w w' fs cs d ⟨o,p,e,c,i,l,n,f⟩ h;subst c;exact⟨o,_,e,rfl,i,l,n,rSl.keep Al.L f h⟩
theorem AB.X:BN AB:=by
 rintro w fs cs d ⟨p,i,e,c,l,n,o,f⟩ a h;subst c;exact rSl.there Al.X f a h
theorem AB.ones:∀(w:World) (f:List Addr) (cs:List Value) (d:AQ),AB w f cs d->∀u,u∈cs->u.oneCell'=true:=by
 rintro w fs cs d ⟨r,n,e,l,o,p,q,h⟩ u c;subst e;obtain⟨i,c0,rfl,-⟩:=rSl.head h;simp only[List.mem_cons,List.not_mem_nil,or_false]at c;rcases c with rfl|rfl|rfl|rfl <;> rfl
theorem AB.wide:GL 4 AB:=by
 rintro w fs cs d ⟨o,f,e,c,i,l,n,h⟩;subst e;rfl
def Bb:AC AP:=fun w fs cs d =>∃(h:Value) (i:Value) (l:Value) (c:List Addr) (e:List Addr) (f:List Addr),cs= [h,i,l,int i64 d.turn,int i64 d.next]/\fs=c ++(e ++(f))/\okI d.turn/\okI d.next/\rSl 1 (Ai 4 Ag) w c h d.queues/\rSl 4 Ag w e i d.aside/\rSl 4 AB w f l d.answers
theorem Bb.L:BE Bb:=by
 rintro w w' fs cs d ⟨p,q,r,s,u,x,e,f,n,o,h,i,l⟩ c;subst f;exact⟨p,q,r,_,_,_,e,rfl,n,o,rSl.keep (Ai.L Ag.L) h c.left,rSl.keep Ag.L i c.right.left,rSl.keep AB.L l c.right.right⟩
theorem Bb.X:BN Bb:=by
 rintro w fs cs d ⟨s,u,x,n,o,p,e,f,q,r,h,i,l⟩ a c;subst f;rcases List.mem_append.1 c with c|c
 ·exact rSl.there (Ai.X Ag.X) h a c
 rcases List.mem_append.1 c with c|c
 ·exact rSl.there Ag.X i a c
 exact rSl.there AB.X l a c
theorem Bb.ones:∀(w:World) (f:List Addr) (cs:List Value) (d:AP),Bb w f cs d->∀u,u∈cs->u.oneCell'=true:=by
 rintro w fs cs d ⟨v0,v1,v2,r,s,x,e,q,y,z,h,i,l⟩ u c;subst e;obtain⟨n,c0,rfl,-⟩:=rSl.head h;obtain⟨o,c1,rfl,-⟩:=rSl.head i;obtain⟨p,c2,rfl,-⟩:=rSl.head l;simp only[List.mem_cons,List.not_mem_nil,or_false]at c;rcases c with rfl|rfl|rfl|rfl|rfl <;> rfl
theorem Bb.wide:GL 5 Bb:=by
 rintro w fs cs d ⟨r,s,u,f,h,i,e,c,p,q,l,n,o⟩;subst e;rfl
def AG:AC AX:=fun w fs cs d =>∃(o:Value) (r:Value) (x:Value) (y:Value) (z:Value) (v5:Value) (e:List Addr) (f:List Addr) (h:List Addr) (i:List Addr) (l:List Addr) (n:List Addr),cs= [int i64 d.world.s.g,d.world.s.c,d.world.s.data,d.world.s.p,d.world.s.rows,d.world.s.cap,d.world.s.b,d.world.s.q,d.world.s.t,o,r,x,d.world.u,d.world.stop,.bool d.world.down,y,z,v5,d.desk.turn,d.desk.next]/\fs=e ++(f ++(h ++(i ++(l ++(n)))))/\okI d.world.s.g/\okI d.world.s.c/\okI d.world.s.data/\okI d.world.s.p/\okI d.world.s.rows/\okI d.world.s.cap/\okI d.world.s.b/\okI d.world.s.q/\okI d.world.s.t/\okI d.world.u/\okI d.world.stop/\okI d.desk.turn/\okI d.desk.next/\rSl 1 (Ai 2 Ar) w e o d.world.g/\rSl 1 Aw w f r d.world.on/\rSl 2 AE w h x d.world.v/\rSl 1 (Ai 4 Ag) w i y d.desk.queues/\rSl 4 Ag w l z d.desk.aside/\rSl 4 AB w n v5 d.desk.answers
theorem AG.L:BE AG:=by
 rintro w w' fs cs d ⟨v0,v1,v2,v3,v4,v5,f0,f1,f2,f3,f4,f5,e,l,s,u,x,y,z,o5,o6,o7,o8,o9,f,h,i,n,o,p,q,h4,r⟩ c;subst l;exact⟨v0,v1,v2,v3,v4,v5,_,_,_,_,_,_,e,rfl,s,u,x,y,z,o5,o6,o7,o8,o9,f,h,i,rSl.keep (Ai.L Ar.L) n c.left,rSl.keep Aw.L o c.right.left,rSl.keep AE.L p c.right.right.left,rSl.keep (Ai.L Ag.L) q c.right.right.right.left,rSl.keep Ag.L h4 c.right.right.right.right.left,rSl.keep AB.L r c.right.right.right.right.right⟩
theorem AG.X:BN AG:=by
 rintro w fs cs d ⟨v0,v1,v2,v3,v4,v5,s,u,x,y,z,f5,e,f,o0,o1,o2,o3,o4,o5,o6,o7,o8,o9,p,q,r,h,i,l,n,h4,o⟩ a c;subst f;rcases List.mem_append.1 c with c|c
 ·exact rSl.there (Ai.X Ar.X) h a c
 rcases List.mem_append.1 c with c|c
 ·exact rSl.there Aw.X i a c
 rcases List.mem_append.1 c with c|c
 ·exact rSl.there AE.X l a c
 rcases List.mem_append.1 c with c|c
 ·exact rSl.there (Ai.X Ag.X) n a c
 rcases List.mem_append.1 c with c|c
 ·exact rSl.there Ag.X h4 a c
 exact rSl.there AB.X o a c
theorem AG.ones:∀(w:World) (f:List Addr) (cs:List Value) (d:AX),AG w f cs d->∀u,u∈cs->u.oneCell'=true:=by
 rintro w fs cs d ⟨v0,v1,v2,v3,v4,v5,f0,f1,f2,f3,f4,f5,e,ef,o0,o1,o2,o3,o4,o5,o6,o7,o8,o9,p,q,r,h,i,l,n,h4,o⟩ u c;subst e;obtain⟨s,c0,rfl,-⟩:=rSl.head h;obtain⟨x,c1,rfl,-⟩:=rSl.head i;obtain⟨y,c2,rfl,-⟩:=rSl.head l;obtain⟨z,c3,rfl,-⟩:=rSl.head n;obtain⟨A4,c4,rfl,-⟩:=rSl.head h4;obtain⟨A5,c5,rfl,-⟩:=rSl.head o;simp only[List.mem_cons,List.not_mem_nil,or_false]at c;rcases c with rfl|rfl|rfl|rfl|rfl|rfl|rfl|rfl|rfl|rfl|rfl|rfl|rfl|rfl|rfl|rfl|rfl|rfl|rfl|rfl <;> rfl
theorem AG.wide:GL 20 AG:=by
 rintro w fs cs d ⟨v0,v1,v2,v3,v4,v5,l,n,o,p,q,r,e,i,o0,o1,o2,o3,o4,o5,o6,o7,o8,o9,c,f,h,s,u,x,y,h4,z⟩;subst e;rfl
def CP:AC IS:=fun w fs cs d =>∃(o:Value) (r:Value) (x:Value) (y:Value) (z:Value) (v5:Value) (e:List Addr) (f:List Addr) (h:List Addr) (i:List Addr) (l:List Addr) (n:List Addr),cs= [int i64 d.code,d.id,d.archive.world.s.g,d.archive.world.s.c,d.archive.world.s.data,d.archive.world.s.p,d.archive.world.s.rows,d.archive.world.s.cap,d.archive.world.s.b,d.archive.world.s.q,d.archive.world.s.t,o,r,x,d.archive.world.u,d.archive.world.stop,.bool d.archive.world.down,y,z,v5,d.archive.desk.turn,d.archive.desk.next]/\fs=e ++(f ++(h ++(i ++(l ++(n)))))/\okI d.code/\okI d.id/\okI d.archive.world.s.g/\okI d.archive.world.s.c/\okI d.archive.world.s.data/\okI d.archive.world.s.p/\okI d.archive.world.s.rows/\okI d.archive.world.s.cap/\okI d.archive.world.s.b/\okI d.archive.world.s.q/\okI d.archive.world.s.t/\okI d.archive.world.u/\okI d.archive.world.stop/\okI d.archive.desk.turn/\okI d.archive.desk.next/\rSl 1 (Ai 2 Ar) w e o d.archive.world.g/\rSl 1 Aw w f r d.archive.world.on/\rSl 2 AE w h x d.archive.world.v/\rSl 1 (Ai 4 Ag) w i y d.archive.desk.queues/\rSl 4 Ag w l z d.archive.desk.aside/\rSl 4 AB w n v5 d.archive.desk.answers
theorem CP.L:BE CP:=by
 rintro w w' fs cs d ⟨v0,v1,v2,v3,v4,v5,f0,f1,f2,f3,f4,f5,e,o,x,y,z,o3,o4,o5,o6,o7,o8,o9,f,h,i,l,n,p,q,r,s,h4,u⟩ c;subst o;exact⟨v0,v1,v2,v3,v4,v5,_,_,_,_,_,_,e,rfl,x,y,z,o3,o4,o5,o6,o7,o8,o9,f,h,i,l,n,rSl.keep (Ai.L Ar.L) p c.left,rSl.keep Aw.L q c.right.left,rSl.keep AE.L r c.right.right.left,rSl.keep (Ai.L Ag.L) s c.right.right.right.left,rSl.keep Ag.L h4 c.right.right.right.right.left,rSl.keep AB.L u c.right.right.right.right.right⟩
theorem CP.X:BN CP:=by
 rintro w fs cs d ⟨v0,v1,v2,v3,v4,v5,x,y,z,f3,f4,f5,e,f,o0,o1,o2,o3,o4,o5,o6,o7,o8,o9,p,q,r,s,u,h,i,l,n,h4,o⟩ a c;subst f;rcases List.mem_append.1 c with c|c
 ·exact rSl.there (Ai.X Ar.X) h a c
 rcases List.mem_append.1 c with c|c
 ·exact rSl.there Aw.X i a c
 rcases List.mem_append.1 c with c|c
 ·exact rSl.there AE.X l a c
 rcases List.mem_append.1 c with c|c
 ·exact rSl.there (Ai.X Ag.X) n a c
 rcases List.mem_append.1 c with c|c
 ·exact rSl.there Ag.X h4 a c
 exact rSl.there AB.X o a c
theorem CP.ones:∀(w:World) (f:List Addr) (cs:List Value) (d:IS),CP w f cs d->∀u,u∈cs->u.oneCell'=true:=by
 rintro w fs cs d ⟨v0,v1,v2,v3,v4,v5,f0,f1,f2,f3,f4,f5,e,ef,o0,o1,o2,o3,o4,o5,o6,o7,o8,o9,p,q,r,s,x,h,i,l,n,h4,o⟩ u c;subst e;obtain⟨y,c0,rfl,-⟩:=rSl.head h;obtain⟨z,c1,rfl,-⟩:=rSl.head i;obtain⟨A2,c2,rfl,-⟩:=rSl.head l;obtain⟨A3,c3,rfl,-⟩:=rSl.head n;obtain⟨A4,c4,rfl,-⟩:=rSl.head h4;obtain⟨A5,c5,rfl,-⟩:=rSl.head o;simp only[List.mem_cons,List.not_mem_nil,or_false]at c;rcases c with rfl|rfl|rfl|rfl|rfl|rfl|rfl|rfl|rfl|rfl|rfl|rfl|rfl|rfl|rfl|rfl|rfl|rfl|rfl|rfl|rfl|rfl <;> rfl
theorem CP.wide:GL 22 CP:=by
 rintro w fs cs d ⟨v0,v1,v2,v3,v4,v5,o,p,q,r,s,u,e,n,o0,o1,o2,o3,o4,o5,o6,o7,o8,o9,c,f,h,i,l,x,y,z,h3,h4,h5⟩;subst e;rfl
theorem AC.B {α}{R:AC α}(e:BE R)(c:BN R){w w' fs cs}{d:α}(h:R w fs cs d)(hb:Below w w w'):R w' fs cs d:=e _ _ _ _ _ h (AV.of_below (c _ _ _ _ h) hb)
theorem Ai.one {α}{R:AC α}{k w fs}{v:Value}{ds:List α}(h:Ai k R w fs [v] ds):rSl k R w fs v ds:=by
 obtain⟨c,e,h⟩:=h;injection e with e _
 rwa [e]
theorem AW.open_ {w fs v bs}(h:AW w fs v bs):
  ∃A c,v= .slice A bs.length c/\bs.length<=c/\c<=9223372036854775807/\∀k,(l:k<bs.length)->∃f,A=some f/\f.add k∈fs/\(f.add k).block <w.heap.size/\w.cell? (f.add k)=some (int i64 bs[k])/\okI bs[k]:=by
 obtain⟨A,c,e,s,h2,i⟩:=h;refine⟨A,c,e,s,by omega,fun k l => ?_⟩;rcases i with⟨rfl,_⟩|⟨f,o,r,p,z,e3,q,i⟩
 ·cases l
 ·obtain⟨q1,q2,q3,u,q5,x,y⟩:=i k l;have n:=u 0 zZ;simp only[x,aW,Nat.mul_one,bC]at n;exact⟨f,p,by rw[q];exact bM _ (Bt.2 ⟨k,by omega,rfl⟩),World.block_lt_of_cell? _ _ n,n,y⟩
theorem LU(v1 v2 xs h f1 f2 w)(h1:AW w f1 v1 xs)(y:AW w f2 v2 h):
  Calls prog 65 #[v1,v2] w (zN (.bool (decide (xs=h))) w):=by
 obtain⟨A1,c1,rfl,ac,ae,hx⟩:=AW.open_ h1;obtain⟨A2,c2,rfl,ad,af,hy⟩:=AW.open_ y;clear h1 y;by_cases s:xs.length=h.length
 ·have hb:=CY s;have u:=zq s;clear s;go_enter func65,ntmps65
  go_wp2
  go_loopw [4,5] (fun r i wr =>∃k:Nat,k<=xs.length/\i=k/\r= .bool false/\xs.take k=h.take k/\Below w w wr) (fun _ i _ => xs.length - (intOf i).toNat)
  ·exact⟨0,by omega,rfl,rfl,by simp,aC _ _⟩
  ·obtain⟨k,hk,rfl,rfl,z,c⟩:=hrel;have x:=zq z;clear z;by_cases l:k<xs.length
   ·have f:k<h.length:=by rw[<-u.o];exact l
    obtain⟨a1,e1,_,b1,g1,_⟩:=hx k l;obtain⟨a2,e2,_,b2,g2,_⟩:=hy k f;subst e1 e2;have aa:=(c.cell (p:=a1.add k) b1).T g1;have ab:=(c.cell (p:=a2.add k) b2).T g2;clear g1 g2 hx hy;by_cases n:xs[k] =h[k]
    ·have hn:(xs[k] != h[k])=false:=by simpa using n
     have HE:=zq n;clear n;go_wp2
     go_quiet (fail)
     go_wp2
     go_roundw
     ·exact⟨k+1,by omega,by go_num,rfl,Kf x.o l f HE.o,AT c _⟩
     ·simp[intOf];omega
    ·have hn:(xs[k] != h[k])=true:=by simpa using n
     go_wp2
     go_quiet (fail)
     go_wp2
     go_ret
     exact⟨C5 (by simp;intro e;subst e;exact n rfl),AT c _⟩
   ·have q:k=xs.length:=by omega
    have H:=x.o;rw[q,bA,u.o,bA]at H;have H1:=zq H;clear H q;go_wp2
    go_ret
    exact⟨C5 (by simp[H1.o]),c⟩
 ·have hb:=CZ s;go_enter func65,ntmps65
  go_wp2
  go_ret
  exact⟨C5 (by simp;intro e;subst e;exact s rfl),aC _ _⟩
theorem SU(d1 d2 r s f1 f2 w)(h1:EL w f1 r d1)(h2:EL w f2 s d2):
  Calls prog 63 #[.agg r,.agg s] w (zN (.bool (decide (d1=d2))) w):=by
 obtain⟨u,x,y,z,x4,x5,x6,x7,x8⟩:=d1;obtain⟨y0,y1,y2,y3,y4,y5,y6,y7,y8⟩:=d2;dsimp only[EL]at h1 h2;obtain⟨e,-,aa,ab,ac,ad,ae,af,ag,ah,ai⟩:=h1;subst e;obtain⟨e,-,aj,ak,al,am,an,ao,ap,aq,ar⟩:=h2;subst e;obtain⟨h,n⟩:∃h,decide ((⟨u,x,y,z,x4,x5,x6,x7,x8⟩:Bh)=⟨y0,y1,y2,y3,y4,y5,y6,y7,y8⟩)=h:=zJ;rw[n];have l:=zq n;clear n;have i:=zq (show∀o1 o2:Obj,Below w w ((w.alloc o1).alloc o2)from fun o1 o2 =>((aC _ _).alloc (aD _) _).alloc zX _);by_cases q:u=y0
 case neg =>
  have f:h=false:=by rw[<-l.o];exact aG (fun e => q (congrArg Bh.g e))
  subst f;have hq:(u != y0)=true:=bne_iff_ne.2 q;clear q;go_enter func63,ntmps63
  go_wp2
  go_ret
  exact⟨rfl,(i.o _ _)⟩
 subst q;by_cases q:x=y1
 case neg =>
  have f:h=false:=by rw[<-l.o];exact aG (fun e => q (congrArg Bh.c e))
  subst f;have hq:(x != y1)=true:=bne_iff_ne.2 q;clear q;go_enter func63,ntmps63
  go_wp2
  go_ret
  exact⟨rfl,(i.o _ _)⟩
 subst q;by_cases q:y=y2
 case neg =>
  have f:h=false:=by rw[<-l.o];exact aG (fun e => q (congrArg Bh.data e))
  subst f;have hq:(y != y2)=true:=bne_iff_ne.2 q;clear q;go_enter func63,ntmps63
  go_wp2
  go_ret
  exact⟨rfl,(i.o _ _)⟩
 subst q;by_cases q:z=y3
 case neg =>
  have f:h=false:=by rw[<-l.o];exact aG (fun e => q (congrArg Bh.p e))
  subst f;have hq:(z != y3)=true:=bne_iff_ne.2 q;clear q;go_enter func63,ntmps63
  go_wp2
  go_ret
  exact⟨rfl,(i.o _ _)⟩
 subst q;by_cases q:x4=y4
 case neg =>
  have f:h=false:=by rw[<-l.o];exact aG (fun e => q (congrArg Bh.rows e))
  subst f;have hq:(x4 != y4)=true:=bne_iff_ne.2 q;clear q;go_enter func63,ntmps63
  go_wp2
  go_ret
  exact⟨rfl,(i.o _ _)⟩
 subst q;by_cases q:x5=y5
 case neg =>
  have f:h=false:=by rw[<-l.o];exact aG (fun e => q (congrArg Bh.cap e))
  subst f;have hq:(x5 != y5)=true:=bne_iff_ne.2 q;clear q;go_enter func63,ntmps63
  go_wp2
  go_ret
  exact⟨rfl,(i.o _ _)⟩
 subst q;by_cases q:x6=y6
 case neg =>
  have f:h=false:=by rw[<-l.o];exact aG (fun e => q (congrArg Bh.b e))
  subst f;have hq:(x6 != y6)=true:=bne_iff_ne.2 q;clear q;go_enter func63,ntmps63
  go_wp2
  go_ret
  exact⟨rfl,(i.o _ _)⟩
 subst q;by_cases q:x7=y7
 case neg =>
  have f:h=false:=by rw[<-l.o];exact aG (fun e => q (congrArg Bh.q e))
  subst f;have hq:(x7 != y7)=true:=bne_iff_ne.2 q;clear q;go_enter func63,ntmps63
  go_wp2
  go_ret
  exact⟨rfl,(i.o _ _)⟩
 subst q;by_cases q:x8=y8
 case neg =>
  have f:h=false:=by rw[<-l.o];exact aG (fun e => q (congrArg Bh.t e))
  subst f;have hq:(x8 != y8)=true:=bne_iff_ne.2 q;clear q;go_enter func63,ntmps63
  go_wp2
  go_ret
  exact⟨rfl,(i.o _ _)⟩
 subst q;have f:h=true:=by rw[<-l.o];exact aN rfl
 subst f;go_enter func63,ntmps63
 go_wp2
 go_ret
 exact⟨rfl,(i.o _ _)⟩
theorem SQ(d1 d2 y z f1 f2 w)(h1:AK w f1 y d1)(h2:AK w f2 z d2):
  Calls prog 270 #[.agg y,.agg z] w (zN (.bool (decide (d1=d2))) w):=by
 obtain⟨p,x1⟩:=d1;obtain⟨y0,y1⟩:=d2;dsimp only[AK]at h1 h2;obtain⟨af,ad,e,-,ae,h⟩:=h1;subst e;obtain⟨ai,ag,e,-,ah,i⟩:=h2;subst e;have ab:=zq h;obtain⟨r,s,rfl,-⟩:=rSl.head h;clear h;have ac:=zq i;obtain⟨u,x,rfl,-⟩:=rSl.head i;clear i;obtain⟨rb,n⟩:∃rb,decide ((⟨p,x1⟩:Cj)=⟨y0,y1⟩)=rb:=zJ;rw[n];have RB:=zq n;clear n;have c:=zq (show∀o1 o2:Obj,Below w w ((w.alloc o1).alloc o2)from fun o1 o2 =>((aC _ _).alloc (aD _) _).alloc zX _);by_cases q:p=y0
 case neg =>
  have e1:rb=false:=by rw[<-RB.o];exact aG (fun e => q (congrArg Cj.stamp e))
  subst e1;have hq:(p != y0)=true:=bne_iff_ne.2 q;clear q;go_enter func270,ntmps270
  go_wp2
  go_ret
  exact⟨rfl,(c.o _ _)⟩
 subst q;go_enter func270,ntmps270
 go_wp2_with fail
 refine(Ie _ _ x1 y1 _ _ _ (rSl.B Al.L Al.X ab.o (c.o _ _)) (rSl.B Al.L Al.X ac.o (c.o _ _))).M ?_;rintro e u1 ⟨rfl,hb⟩;have aa:=Blk.B ((Blk.new w 193 #[int i64 p,.slice r x1.length s]).alloc (.cells #[int i64 p,.slice u y1.length x] 193)) hb zV;have l:=Blk.B (Blk.new (w.alloc (.cells #[int i64 p,.slice r x1.length s] 193)) 193 #[int i64 p,.slice u y1.length x]) hb zX;rw[World.size_alloc]at l;have K1:=zq aa;have K2:=zq l;clear aa l;have f:=c.o;clear c;have c:=zq ((f _ _).T (hb.M (f _ _).size));clear hb f;by_cases q:x1=y1
 case neg =>
  have e1:rb=false:=by rw[<-RB.o];exact aG (fun e => q (congrArg Cj.bytes e))
  subst e1;rw[aG q];clear q;go_wp2
  go_ret
  exact⟨rfl,c.o⟩
 rw[aN q];subst q;have e1:rb=true:=by rw[<-RB.o];exact aN rfl
 subst e1;go_wp2
 go_ret
 exact⟨rfl,c.o⟩
theorem Rt(v1 v2 xs l f1 f2 w)(h1:rSl 2 AK w f1 v1 xs)(h2:rSl 2 AK w f2 v2 l):
  Calls prog 237 #[v1,v2] w (zN (.bool (decide (xs=l))) w):=by
 obtain⟨A1,c1,rfl,a0,a4,hx⟩:=rSl.at_ AK.X zW h1;obtain⟨A2,c2,rfl,a3,a5,hy⟩:=rSl.at_ AK.X zW h2;clear h1 h2;obtain⟨rb,x⟩:∃rb,decide (xs=l)=rb:=zJ;rw[x];have RB:=zq x;clear x;have HX:=zq hx;have HY:=zq hy;clear hx hy;by_cases hl:xs.length=l.length
 ·have hb:=CY hl;have HL:=zq hl;clear hl;go_enter func237,ntmps237
  go_wp2
  go_loopw [4,5] (fun r i wr =>∃k:Nat,k<=xs.length/\i=k/\r= .bool false/\xs.take k=l.take k/\Below w w wr) (fun _ i _ => xs.length - (intOf i).toNat)
  ·exact⟨0,by omega,rfl,rfl,by simp,aC _ _⟩
  ·obtain⟨k,hk,rfl,rfl,ht,h⟩:=hrel;have HT:=zq ht;clear ht;by_cases u:k<xs.length
   ·have n:k<l.length:=by rw[<-HL.o];exact u
    obtain⟨a1,b1,o1,aw,g1,q,c⟩:=HX.o k u;obtain⟨a2,b2,o2,ax,g2,e2,f⟩:=HY.o k n;subst q e2;replace c:=c.B AK.L h
    replace f:=f.B AK.L h
    have HB:=zq h;clear h;clear HX HY;obtain⟨ar,aq,e,-,-,aa⟩:=c.reads;subst e;obtain⟨ae,af,rfl,-⟩:=rSl.head aa;clear aa;obtain⟨av,au,e,-,-,ab⟩:=f.reads;subst e;obtain⟨ai,aj,rfl,-⟩:=rSl.head ab;clear ab;have ay:=c.place;have az:=f.place;have ag:=aB (c.cell 0 zX);have ah:=aB (c.cell 1 zX);simp only[aW,bF,bC]at ag ah;have ak:=aB (f.cell 0 zX);have al:=aB (f.cell 1 zX);simp only[aW,bF,bC]at ak al;have hc:∀d os,Calls prog 270 #[.agg #[int i64 xs[k].stamp,.slice ae xs[k].bytes.length af],.agg #[int i64 l[k].stamp,.slice ai l[k].bytes.length aj]] (grow (redrawn wr d) os) fun e an => e= .returned (.bool (decide (xs[k] =l[k])))/\∃p:Regrown,an=grow (redrawn wr p.d) p.os :=
     fun d os => Calls.regrown_of (SQ xs[k] l[k] _ _ g1 g2 _ (AC.B AK.L AK.X c.reads (aI wr d os)) (AC.B AK.L AK.X f.reads (aI wr d os)))
    obtain⟨bb,s⟩:∃bb,decide (xs[k] =l[k])=bb:=zJ;rw[s]at hc;have z:=zq s;clear s;have HC:=zq hc;clear hc;have ao:=zq c;have ap:=zq f;clear c f;go_wp2_with fail
    refine aF zY zY ?_;repeat(first|go_big_quiet_step (exact HC.o _ _)|quiet_step (exact HC.o _ _))
    refine aQ ?_;intro _ am;obtain⟨⟨dq,osq⟩,ad⟩:=am;subst ad;have y:=zq (HB.o.T ((aI wr dq osq).M HB.o.size));cases bb with
    |true =>
     have he:=bE z.o;have HE:=zq he;clear he;go_wp2
     go_roundw
     ·exact⟨k+1,by omega,by go_num,rfl,Fs HT.o u n HE.o,y.o⟩
     ·simp[intOf];omega
    |false =>
     have he:=of_decide_eq_false z.o;have q:rb=false:=by rw[<-RB.o];exact aG (fun e => he (by subst e;rfl))
     subst q;clear he;go_wp2
     go_ret
     exact⟨rfl,y.o⟩
   ·have ac:k=xs.length:=by omega
    have H:=HT.o;rw[ac,bA,HL.o,bA]at H;have q:rb=true:=by rw[<-RB.o];exact aN H
    subst q;have HB:=zq h;clear H ac HX HY h;go_wp2
    go_ret
    exact⟨rfl,HB.o⟩
 ·have hb:=CZ hl;have q:rb=false:=by rw[<-RB.o];exact aG (fun e => hl (by rw[e]))
  subst q;clear HX HY;go_enter func237,ntmps237
  go_wp2
  go_ret
  exact⟨rfl,aC _ _⟩
theorem SS(d1 d2 y z f1 f2 w)(h1:Ar w f1 y d1)(h2:Ar w f2 z d2):
  Calls prog 174 #[.agg y,.agg z] w (zN (.bool (decide (d1=d2))) w):=by
 obtain⟨p,x1⟩:=d1;obtain⟨y0,y1⟩:=d2;dsimp only[Ar]at h1 h2;obtain⟨ae,ad,e,-,h⟩:=h1;subst e;obtain⟨ag,af,e,-,i⟩:=h2;subst e;have ab:=zq h;obtain⟨r,s,rfl,-⟩:=rSl.head h;clear h;have ac:=zq i;obtain⟨u,x,rfl,-⟩:=rSl.head i;clear i;obtain⟨rb,n⟩:∃rb,decide ((⟨p,x1⟩:Ba)=⟨y0,y1⟩)=rb:=zJ;rw[n];have RB:=zq n;clear n;have c:=zq (show∀o1 o2:Obj,Below w w ((w.alloc o1).alloc o2)from fun o1 o2 =>((aC _ _).alloc (aD _) _).alloc zX _);by_cases q:p=y0
 case neg =>
  have e1:rb=false:=by rw[<-RB.o];exact aG (fun e => q (congrArg Ba.wiped e))
  subst e1;have hq:(!p == y0)=true:=by simpa using q
  clear q;go_enter func174,ntmps174
  go_wp2
  go_ret
  exact⟨rfl,(c.o _ _)⟩
 subst q;go_enter func174,ntmps174
 go_wp2_with fail
 refine(Rt _ _ x1 y1 _ _ _ (rSl.B AK.L AK.X ab.o (c.o _ _)) (rSl.B AK.L AK.X ac.o (c.o _ _))).M ?_;rintro e u1 ⟨rfl,hb⟩;have aa:=Blk.B ((Blk.new w 110 #[.bool p,.slice r x1.length s]).alloc (.cells #[.bool p,.slice u y1.length x] 110)) hb zV;have l:=Blk.B (Blk.new (w.alloc (.cells #[.bool p,.slice r x1.length s] 110)) 110 #[.bool p,.slice u y1.length x]) hb zX;rw[World.size_alloc]at l;have K1:=zq aa;have K2:=zq l;clear aa l;have f:=c.o;clear c;have c:=zq ((f _ _).T (hb.M (f _ _).size));clear hb f;by_cases q:x1=y1
 case neg =>
  have e1:rb=false:=by rw[<-RB.o];exact aG (fun e => q (congrArg Ba.blocks e))
  subst e1;rw[aG q];clear q;go_wp2
  go_ret
  exact⟨rfl,c.o⟩
 rw[aN q];subst q;have e1:rb=true:=by rw[<-RB.o];exact aN rfl
 subst e1;go_wp2
 go_ret
 exact⟨rfl,c.o⟩
theorem Ru(v1 v2 xs l f1 f2 w)(h1:rSl 2 Ar w f1 v1 xs)(h2:rSl 2 Ar w f2 v2 l):
  Calls prog 113 #[v1,v2] w (zN (.bool (decide (xs=l))) w):=by
 obtain⟨A1,c1,rfl,a0,a4,hx⟩:=rSl.at_ Ar.X zW h1;obtain⟨A2,c2,rfl,a3,a5,hy⟩:=rSl.at_ Ar.X zW h2;clear h1 h2;obtain⟨rb,x⟩:∃rb,decide (xs=l)=rb:=zJ;rw[x];have RB:=zq x;clear x;have HX:=zq hx;have HY:=zq hy;clear hx hy;by_cases hl:xs.length=l.length
 ·have hb:=CY hl;have HL:=zq hl;clear hl;go_enter func113,ntmps113
  go_wp2
  go_loopw [4,5] (fun r i wr =>∃k:Nat,k<=xs.length/\i=k/\r= .bool false/\xs.take k=l.take k/\Below w w wr) (fun _ i _ => xs.length - (intOf i).toNat)
  ·exact⟨0,by omega,rfl,rfl,by simp,aC _ _⟩
  ·obtain⟨k,hk,rfl,rfl,ht,h⟩:=hrel;have HT:=zq ht;clear ht;by_cases u:k<xs.length
   ·have n:k<l.length:=by rw[<-HL.o];exact u
    obtain⟨a1,b1,o1,aw,g1,q,c⟩:=HX.o k u;obtain⟨a2,b2,o2,ax,g2,e2,f⟩:=HY.o k n;subst q e2;replace c:=c.B Ar.L h
    replace f:=f.B Ar.L h
    have HB:=zq h;clear h;clear HX HY;obtain⟨ar,aq,e,-,aa⟩:=c.reads;subst e;obtain⟨ae,af,rfl,-⟩:=rSl.head aa;clear aa;obtain⟨av,au,e,-,ab⟩:=f.reads;subst e;obtain⟨ai,aj,rfl,-⟩:=rSl.head ab;clear ab;have ay:=c.place;have az:=f.place;have ag:=aB (c.cell 0 zX);have ah:=aB (c.cell 1 zX);simp only[aW,bF,bC]at ag ah;have ak:=aB (f.cell 0 zX);have al:=aB (f.cell 1 zX);simp only[aW,bF,bC]at ak al;have hc:∀d os,Calls prog 174 #[.agg #[.bool xs[k].wiped,.slice ae xs[k].blocks.length af],.agg #[.bool l[k].wiped,.slice ai l[k].blocks.length aj]] (grow (redrawn wr d) os) fun e an => e= .returned (.bool (decide (xs[k] =l[k])))/\∃p:Regrown,an=grow (redrawn wr p.d) p.os :=
     fun d os => Calls.regrown_of (SS xs[k] l[k] _ _ g1 g2 _ (AC.B Ar.L Ar.X c.reads (aI wr d os)) (AC.B Ar.L Ar.X f.reads (aI wr d os)))
    obtain⟨bb,s⟩:∃bb,decide (xs[k] =l[k])=bb:=zJ;rw[s]at hc;have z:=zq s;clear s;have HC:=zq hc;clear hc;have ao:=zq c;have ap:=zq f;clear c f;go_wp2_with fail
    refine aF zY zY ?_;repeat(first|go_big_quiet_step (exact HC.o _ _)|quiet_step (exact HC.o _ _))
    refine aQ ?_;intro _ am;obtain⟨⟨dq,osq⟩,ad⟩:=am;subst ad;have y:=zq (HB.o.T ((aI wr dq osq).M HB.o.size));cases bb with
    |true =>
     have he:=bE z.o;have HE:=zq he;clear he;go_wp2
     go_roundw
     ·exact⟨k+1,by omega,by go_num,rfl,Fs HT.o u n HE.o,y.o⟩
     ·simp[intOf];omega
    |false =>
     have he:=of_decide_eq_false z.o;have q:rb=false:=by rw[<-RB.o];exact aG (fun e => he (by subst e;rfl))
     subst q;clear he;go_wp2
     go_ret
     exact⟨rfl,y.o⟩
   ·have ac:k=xs.length:=by omega
    have H:=HT.o;rw[ac,bA,HL.o,bA]at H;have q:rb=true:=by rw[<-RB.o];exact aN H
    subst q;have HB:=zq h;clear H ac HX HY h;go_wp2
    go_ret
    exact⟨rfl,HB.o⟩
 ·have hb:=CZ hl;have q:rb=false:=by rw[<-RB.o];exact aG (fun e => hl (by rw[e]))
  subst q;clear HX HY;go_enter func113,ntmps113
  go_wp2
  go_ret
  exact⟨rfl,aC _ _⟩
theorem PN(v1 v2)(xs l:List (List Ba))(f1 f2)(w:World)(h1:rSl 1 (Ai 2 Ar) w f1 v1 xs)(h2:rSl 1 (Ai 2 Ar) w f2 v2 l):
  Calls prog 64 #[v1,v2] w (zN (.bool (decide (xs=l))) w):=by
 obtain⟨A1,c1,rfl,aw,ay,hx⟩:=rSl.at_ (Ai.X Ar.X) zW h1;obtain⟨A2,c2,rfl,ax,az,hy⟩:=rSl.at_ (Ai.X Ar.X) zW h2;clear h1 h2;obtain⟨rb,x⟩:∃rb,decide (xs=l)=rb:=zJ;rw[x];have RB:=zq x;clear x;have HX:=zq hx;have HY:=zq hy;clear hx hy;by_cases hl:xs.length=l.length
 ·have hb:=CY hl;have HL:=zq hl;clear hl;go_enter func64,ntmps64
  go_wp2
  go_loopw [4,5] (fun r i wr =>∃k:Nat,k<=xs.length/\i=k/\r= .bool false/\xs.take k=l.take k/\Below w w wr) (fun _ i _ => xs.length - (intOf i).toNat)
  ·exact⟨0,by omega,rfl,rfl,by simp,aC _ _⟩
  ·obtain⟨k,hk,rfl,rfl,ht,h⟩:=hrel;have HT:=zq ht;clear ht;by_cases u:k<xs.length
   ·have n:k<l.length:=by rw[<-HL.o];exact u
    obtain⟨a1,b1,o1,au,g1,q,c⟩:=HX.o k u;obtain⟨a2,b2,o2,av,g2,e2,f⟩:=HY.o k n;subst q e2;replace c:=c.B (Ai.L Ar.L) h
    replace f:=f.B (Ai.L Ar.L) h
    have HB:=zq h;clear h;clear HX HY;obtain⟨aq,e,aa⟩:=c.reads;subst e;obtain⟨ae,af,rfl,-⟩:=rSl.head aa;clear aa;obtain⟨ar,e,ab⟩:=f.reads;subst e;obtain⟨ah,ai,rfl,-⟩:=rSl.head ab;clear ab;have ak:=c.place;have al:=f.place;simp only[Nat.mul_one]at ak al;have ag:=aB (c.cell 0 zX);simp only[aW,bC]at ag;have aj:=aB (f.cell 0 zX);simp only[aW,bC]at aj;have hc:∀d os,Calls prog 113 #[.slice ae xs[k].length af,.slice ah l[k].length ai] (grow (redrawn wr d) os) fun e an => e= .returned (.bool (decide (xs[k] =l[k])))/\∃p:Regrown,an=grow (redrawn wr p.d) p.os :=
     fun d os => Calls.regrown_of (Ru _ _ xs[k] l[k] g1 g2 _ (rSl.B Ar.L Ar.X (Ai.one c.reads) (aI wr d os)) (rSl.B Ar.L Ar.X (Ai.one f.reads) (aI wr d os)))
    obtain⟨bb,s⟩:∃bb,decide (xs[k] =l[k])=bb:=zJ;rw[s]at hc;have z:=zq s;clear s;have HC:=zq hc;clear hc;have ao:=zq c;have ap:=zq f;clear c f;go_wp2_with fail
    refine aF zY zY ?_;repeat(first|go_big_quiet_step (exact HC.o _ _)|quiet_step (exact HC.o _ _))
    refine aQ ?_;intro _ am;obtain⟨⟨dq,osq⟩,ad⟩:=am;subst ad;have y:=zq (HB.o.T ((aI wr dq osq).M HB.o.size));cases bb with
    |true =>
     have he:=bE z.o;have HE:=zq he;clear he;go_wp2
     go_roundw
     ·exact⟨k+1,by omega,by go_num,rfl,Fs HT.o u n HE.o,y.o⟩
     ·simp[intOf];omega
    |false =>
     have he:=of_decide_eq_false z.o;have q:rb=false:=by rw[<-RB.o];exact aG (fun e => he (by subst e;rfl))
     subst q;clear he;go_wp2
     go_ret
     exact⟨rfl,y.o⟩
   ·have ac:k=xs.length:=by omega
    have H:=HT.o;rw[ac,bA,HL.o,bA]at H;have q:rb=true:=by rw[<-RB.o];exact aN H
    subst q;have HB:=zq h;clear H ac HX HY h;go_wp2
    go_ret
    exact⟨rfl,HB.o⟩
 ·have hb:=CZ hl;have q:rb=false:=by rw[<-RB.o];exact aG (fun e => hl (by rw[e]))
  subst q;clear HX HY;go_enter func64,ntmps64
  go_wp2
  go_ret
  exact⟨rfl,aC _ _⟩
theorem eqRec_c(d1 d2 aw ax f1 f2 w)(h1:Af w f1 aw d1)(h2:Af w f2 ax d2):
  Calls prog 238 #[.agg aw,.agg ax] w (zN (.bool (decide (d1=d2))) w):=by
 obtain⟨x0,x1,z,x3,x4,x5,x6,x7,x8⟩:=d1;obtain⟨y0,y1,y2,y3,y4,y5,y6,y7,y8⟩:=d2;dsimp only[Af]at h1 h2;obtain⟨bd,be,bf,a4,a5,a6,e,-,a7,a8,a9,ba,bb,bc,ab,ac,ad⟩:=h1;subst e;obtain⟨bp,bq,br,bg,bh,bi,e,-,bj,bk,bl,bm,bn,bo,ae,af,ag⟩:=h2;subst e;have ay:=zq ab;obtain⟨ai,al,rfl,-⟩:=rSl.head ab;clear ab;have az:=zq ac;obtain⟨aj,am,rfl,-⟩:=rSl.head ac;clear ac;have a0:=zq ad;obtain⟨ak,an,rfl,-⟩:=rSl.head ad;clear ad;have a1:=zq ae;obtain⟨ao,ar,rfl,-⟩:=rSl.head ae;clear ae;have a2:=zq af;obtain⟨ap,au,rfl,-⟩:=rSl.head af;clear af;have a3:=zq ag;obtain⟨aq,av,rfl,-⟩:=rSl.head ag;clear ag;obtain⟨p,ah⟩:∃p,decide ((⟨x0,x1,z,x3,x4,x5,x6,x7,x8⟩:Aj)=⟨y0,y1,y2,y3,y4,y5,y6,y7,y8⟩)=p:=zJ;rw[ah];have r:=zq ah;clear ah;have c:=zq (show∀o1 o2:Obj,Below w w ((w.alloc o1).alloc o2)from fun o1 o2 =>((aC _ _).alloc (aD _) _).alloc zX _);by_cases q:x0=y0
 case neg =>
  have i:p=false:=by rw[<-r.o];exact aG (fun e => q (congrArg Aj.kind e))
  subst i;have hq:(x0 != y0)=true:=bne_iff_ne.2 q;clear q;go_enter func238,ntmps238
  go_wp2
  go_ret
  exact⟨rfl,(c.o _ _)⟩
 subst q;by_cases q:x1=y1
 case neg =>
  have i:p=false:=by rw[<-r.o];exact aG (fun e => q (congrArg Aj.seq e))
  subst i;have hq:(x1 != y1)=true:=bne_iff_ne.2 q;clear q;go_enter func238,ntmps238
  go_wp2
  go_ret
  exact⟨rfl,(c.o _ _)⟩
 subst q;by_cases q:z=y2
 case neg =>
  have i:p=false:=by rw[<-r.o];exact aG (fun e => q (congrArg Aj.name e))
  subst i;have hq:=Ly q;clear q;go_enter func238,ntmps238
  go_wp2
  go_ret
  exact⟨rfl,(c.o _ _)⟩
 subst q;have bs:=Lx (rfl:z=z);by_cases q:x3=y3
 case neg =>
  have i:p=false:=by rw[<-r.o];exact aG (fun e => q (congrArg Aj.length e))
  subst i;have hq:(x3 != y3)=true:=bne_iff_ne.2 q;clear q;go_enter func238,ntmps238
  go_wp2
  go_ret
  exact⟨rfl,(c.o _ _)⟩
 subst q;by_cases q:x4=y4
 case neg =>
  have i:p=false:=by rw[<-r.o];exact aG (fun e => q (congrArg Aj.group e))
  subst i;have hq:(x4 != y4)=true:=bne_iff_ne.2 q;clear q;go_enter func238,ntmps238
  go_wp2
  go_ret
  exact⟨rfl,(c.o _ _)⟩
 subst q;by_cases q:x5=y5
 case neg =>
  have i:p=false:=by rw[<-r.o];exact aG (fun e => q (congrArg Aj.row e))
  subst i;have hq:(x5 != y5)=true:=bne_iff_ne.2 q;clear q;go_enter func238,ntmps238
  go_wp2
  go_ret
  exact⟨rfl,(c.o _ _)⟩
 subst q;go_enter func238,ntmps238
 go_wp2_with fail
 refine(LU _ _ x6 y6 _ _ _ (rSl.B Aw.L Aw.X ay.o (c.o _ _)) (rSl.B Aw.L Aw.X a1.o (c.o _ _))).M ?_;rintro e u6 ⟨rfl,hb⟩;have h:=Blk.B ((Blk.new w 105 #[int i64 x0,int i64 x1,.string z,int i64 x3,int i64 x4,int i64 x5,.slice ai x6.length al,.slice aj x7.length am,.slice ak x8.length an]).alloc (.cells #[int i64 x0,int i64 x1,.string z,int i64 x3,int i64 x4,int i64 x5,.slice ao y6.length ar,.slice ap y7.length au,.slice aq y8.length av] 105)) hb zV;have f:=Blk.B (Blk.new (w.alloc (.cells #[int i64 x0,int i64 x1,.string z,int i64 x3,int i64 x4,int i64 x5,.slice ai x6.length al,.slice aj x7.length am,.slice ak x8.length an] 105)) 105 #[int i64 x0,int i64 x1,.string z,int i64 x3,int i64 x4,int i64 x5,.slice ao y6.length ar,.slice ap y7.length au,.slice aq y8.length av]) hb zX;rw[World.size_alloc]at f;have s:=zq h;have u:=zq f;have x:=Blk.cell h 7;have y:=Blk.cell f 7;have l:=Blk.cell h 8;have n:=Blk.cell f 8;simp only[List.getElem?_toArray,List.getElem?_cons_zero,List.getElem?_cons_succ]at x y l n;clear h f;have aa:=c.o;clear c;have c:=zq ((aa _ _).T (hb.M (aa _ _).size));clear hb aa;by_cases q:x6=y6
 case neg =>
  have i:p=false:=by rw[<-r.o];exact aG (fun e => q (congrArg Aj.rows e))
  subst i;rw[aG q];clear q;go_wp2
  go_ret
  exact⟨rfl,c.o⟩
 rw[aN q];subst q;go_wp2_with fail
 refine(Ie _ _ x7 y7 _ _ _ (rSl.B Al.L Al.X az.o c.o) (rSl.B Al.L Al.X a2.o c.o)).M ?_;rintro e u7 ⟨rfl,hb⟩;have h:=Blk.B s.o hb s.o.lt;have f:=Blk.B u.o hb u.o.lt;clear s u x y l n;have s:=zq h;have u:=zq f;have l:=Blk.cell h 8;have n:=Blk.cell f 8;simp only[List.getElem?_toArray,List.getElem?_cons_zero,List.getElem?_cons_succ]at l n;clear h f;replace c:=zq (c.o.T (hb.M (c.o).size));clear hb
 by_cases q:x7=y7
 case neg =>
  have i:p=false:=by rw[<-r.o];exact aG (fun e => q (congrArg Aj.data e))
  subst i;rw[aG q];clear q;go_wp2
  go_ret
  exact⟨rfl,c.o⟩
 rw[aN q];subst q;go_wp2_with fail
 refine(Ie _ _ x8 y8 _ _ _ (rSl.B Al.L Al.X a0.o c.o) (rSl.B Al.L Al.X a3.o c.o)).M ?_;rintro e u8 ⟨rfl,hb⟩;have h:=Blk.B s.o hb s.o.lt;have f:=Blk.B u.o hb u.o.lt;clear s u l n;have s:=zq h;have u:=zq f;clear h f;replace c:=zq (c.o.T (hb.M (c.o).size));clear hb
 by_cases q:x8=y8
 case neg =>
  have i:p=false:=by rw[<-r.o];exact aG (fun e => q (congrArg Aj.delta e))
  subst i;rw[aG q];clear q;go_wp2
  go_ret
  exact⟨rfl,c.o⟩
 rw[aN q];subst q;have i:p=true:=by rw[<-r.o];exact aN rfl
 subst i;go_wp2
 go_ret
 exact⟨rfl,c.o⟩
theorem eqRecS_c(v1 v2 xs h f1 f2 w)(h1:rSl 9 Af w f1 v1 xs)(h2:rSl 9 Af w f2 v2 h):
  Calls prog 175 #[v1,v2] w (zN (.bool (decide (xs=h))) w):=by
 obtain⟨A1,c1,rfl,b4,b6,hx⟩:=rSl.at_ Af.X zW h1;obtain⟨A2,c2,rfl,b5,b7,hy⟩:=rSl.at_ Af.X zW h2;clear h1 h2;obtain⟨rb,x⟩:∃rb,decide (xs=h)=rb:=zJ;rw[x];have RB:=zq x;clear x;have HX:=zq hx;have HY:=zq hy;clear hx hy;by_cases hl:xs.length=h.length
 ·have hb:=CY hl;have HL:=zq hl;clear hl;go_enter func175,ntmps175
  go_wp2
  go_loopw [4,5] (fun r i wr =>∃k:Nat,k<=xs.length/\i=k/\r= .bool false/\xs.take k=h.take k/\Below w w wr) (fun _ i _ => xs.length - (intOf i).toNat)
  ·exact⟨0,by omega,rfl,rfl,by simp,aC _ _⟩
  ·obtain⟨k,hk,rfl,rfl,ht,l⟩:=hrel;have HT:=zq ht;clear ht;by_cases u:k<xs.length
   ·have n:k<h.length:=by rw[<-HL.o];exact u
    obtain⟨a1,b1,o1,bx,g1,q,c⟩:=HX.o k u;obtain⟨a2,b2,o2,bz,g2,e2,f⟩:=HY.o k n;subst q e2;replace c:=c.B Af.L l
    replace f:=f.B Af.L l
    have HB:=zq l;clear l;clear HX HY;obtain⟨bo,bp,bq,bl,bm,bn,e,-,-,-,-,-,-,-,aa,ab,ac⟩:=c.reads;subst e;obtain⟨ai,al,rfl,-⟩:=rSl.head aa;obtain⟨aj,am,rfl,-⟩:=rSl.head ab;obtain⟨ak,an,rfl,-⟩:=rSl.head ac;clear aa ab ac;obtain⟨bu,bv,bw,br,bs,bt,e,-,-,-,-,-,-,-,ad,ae,af⟩:=f.reads;subst e;obtain⟨az,a4,rfl,-⟩:=rSl.head ad;obtain⟨a0,a5,rfl,-⟩:=rSl.head ae;obtain⟨a3,a6,rfl,-⟩:=rSl.head af;clear ad ae af;have b0:=c.place;have b3:=f.place;have ao:=aB (c.cell 0 zX);have ap:=aB (c.cell 1 zX);have aq:=aB (c.cell 2 zX);have ar:=aB (c.cell 3 zX);have au:=aB (c.cell 4 zX);have av:=aB (c.cell 5 zX);have aw:=aB (c.cell 6 zX);have ax:=aB (c.cell 7 zX);have ay:=aB (c.cell 8 zX);simp only[aW,bF,bC]at ao ap aq ar au av aw ax ay;have a7:=aB (f.cell 0 zX);have a8:=aB (f.cell 1 zX);have a9:=aB (f.cell 2 zX);have ba:=aB (f.cell 3 zX);have bc:=aB (f.cell 4 zX);have bd:=aB (f.cell 5 zX);have be:=aB (f.cell 6 zX);have bf:=aB (f.cell 7 zX);have bg:=aB (f.cell 8 zX);simp only[aW,bF,bC]at a7 a8 a9 ba bc bd be bf bg;have hc:∀d os,Calls prog 238 #[.agg #[int i64 xs[k].kind,int i64 xs[k].seq,.string xs[k].name,int i64 xs[k].length,int i64 xs[k].group,int i64 xs[k].row,.slice ai xs[k].rows.length al,.slice aj xs[k].data.length am,.slice ak xs[k].delta.length an],.agg #[int i64 h[k].kind,int i64 h[k].seq,.string h[k].name,int i64 h[k].length,int i64 h[k].group,int i64 h[k].row,.slice az h[k].rows.length a4,.slice a0 h[k].data.length a5,.slice a3 h[k].delta.length a6]] (grow (redrawn wr d) os) fun e bi => e= .returned (.bool (decide (xs[k] =h[k])))/\∃p:Regrown,bi=grow (redrawn wr p.d) p.os :=
     fun d os => Calls.regrown_of (eqRec_c xs[k] h[k] _ _ g1 g2 _ (AC.B Af.L Af.X c.reads (aI wr d os)) (AC.B Af.L Af.X f.reads (aI wr d os)))
    obtain⟨bb,s⟩:∃bb,decide (xs[k] =h[k])=bb:=zJ;rw[s]at hc;have z:=zq s;clear s;have HC:=zq hc;clear hc;have bj:=zq c;have bk:=zq f;clear c f;go_wp2_with fail
    refine aF zY zY ?_;repeat(first|go_big_quiet_step (exact HC.o _ _)|quiet_step (exact HC.o _ _))
    refine aQ ?_;intro _ bh;obtain⟨⟨dq,osq⟩,ah⟩:=bh;subst ah;have y:=zq (HB.o.T ((aI wr dq osq).M HB.o.size));cases bb with
    |true =>
     have he:=bE z.o;have HE:=zq he;clear he;go_wp2
     go_roundw
     ·exact⟨k+1,by omega,by go_num,rfl,Fs HT.o u n HE.o,y.o⟩
     ·simp[intOf];omega
    |false =>
     have he:=of_decide_eq_false z.o;have q:rb=false:=by rw[<-RB.o];exact aG (fun e => he (by subst e;rfl))
     subst q;clear he;go_wp2
     go_ret
     exact⟨rfl,y.o⟩
   ·have ag:k=xs.length:=by omega
    have H:=HT.o;rw[ag,bA,HL.o,bA]at H;have q:rb=true:=by rw[<-RB.o];exact aN H
    subst q;have HB:=zq l;clear H ag HX HY l;go_wp2
    go_ret
    exact⟨rfl,HB.o⟩
 ·have hb:=CZ hl;have q:rb=false:=by rw[<-RB.o];exact aG (fun e => hl (by rw[e]))
  subst q;clear HX HY;go_enter func175,ntmps175
  go_wp2
  go_ret
  exact⟨rfl,aC _ _⟩
theorem eqTape_c(d1 d2 y z f1 f2 w)(h1:AE w f1 y d1)(h2:AE w f2 z d2):
  Calls prog 114 #[.agg y,.agg z] w (zN (.bool (decide (d1=d2))) w):=by
 obtain⟨p,x1⟩:=d1;obtain⟨y0,y1⟩:=d2;dsimp only[AE]at h1 h2;obtain⟨ae,ad,e,-,h⟩:=h1;subst e;obtain⟨ag,af,e,-,i⟩:=h2;subst e;have ab:=zq h;obtain⟨r,s,rfl,-⟩:=rSl.head h;clear h;have ac:=zq i;obtain⟨u,x,rfl,-⟩:=rSl.head i;clear i;obtain⟨rb,n⟩:∃rb,decide ((⟨p,x1⟩:Be)=⟨y0,y1⟩)=rb:=zJ;rw[n];have RB:=zq n;clear n;have c:=zq (show∀o1 o2:Obj,Below w w ((w.alloc o1).alloc o2)from fun o1 o2 =>((aC _ _).alloc (aD _) _).alloc zX _);by_cases q:p=y0
 case neg =>
  have e1:rb=false:=by rw[<-RB.o];exact aG (fun e => q (congrArg Be.wiped e))
  subst e1;have hq:(!p == y0)=true:=by simpa using q
  clear q;go_enter func114,ntmps114
  go_wp2
  go_ret
  exact⟨rfl,(c.o _ _)⟩
 subst q;go_enter func114,ntmps114
 go_wp2_with fail
 refine(eqRecS_c _ _ x1 y1 _ _ _ (rSl.B Af.L Af.X ab.o (c.o _ _)) (rSl.B Af.L Af.X ac.o (c.o _ _))).M ?_;rintro e u1 ⟨rfl,hb⟩;have aa:=Blk.B ((Blk.new w 148 #[.bool p,.slice r x1.length s]).alloc (.cells #[.bool p,.slice u y1.length x] 148)) hb zV;have l:=Blk.B (Blk.new (w.alloc (.cells #[.bool p,.slice r x1.length s] 148)) 148 #[.bool p,.slice u y1.length x]) hb zX;rw[World.size_alloc]at l;have K1:=zq aa;have K2:=zq l;clear aa l;have f:=c.o;clear c;have c:=zq ((f _ _).T (hb.M (f _ _).size));clear hb f;by_cases q:x1=y1
 case neg =>
  have e1:rb=false:=by rw[<-RB.o];exact aG (fun e => q (congrArg Be.recs e))
  subst e1;rw[aG q];clear q;go_wp2
  go_ret
  exact⟨rfl,c.o⟩
 rw[aN q];subst q;have e1:rb=true:=by rw[<-RB.o];exact aN rfl
 subst e1;go_wp2
 go_ret
 exact⟨rfl,c.o⟩
theorem SV(v1 v2 xs l f1 f2 w)(h1:rSl 2 AE w f1 v1 xs)(h2:rSl 2 AE w f2 v2 l):
  Calls prog 66 #[v1,v2] w (zN (.bool (decide (xs=l))) w):=by
 obtain⟨A1,c1,rfl,a0,a4,hx⟩:=rSl.at_ AE.X zW h1;obtain⟨A2,c2,rfl,a3,a5,hy⟩:=rSl.at_ AE.X zW h2;clear h1 h2;obtain⟨rb,x⟩:∃rb,decide (xs=l)=rb:=zJ;rw[x];have RB:=zq x;clear x;have HX:=zq hx;have HY:=zq hy;clear hx hy;by_cases hl:xs.length=l.length
 ·have hb:=CY hl;have HL:=zq hl;clear hl;go_enter func66,ntmps66
  go_wp2
  go_loopw [4,5] (fun r i wr =>∃k:Nat,k<=xs.length/\i=k/\r= .bool false/\xs.take k=l.take k/\Below w w wr) (fun _ i _ => xs.length - (intOf i).toNat)
  ·exact⟨0,by omega,rfl,rfl,by simp,aC _ _⟩
  ·obtain⟨k,hk,rfl,rfl,ht,h⟩:=hrel;have HT:=zq ht;clear ht;by_cases u:k<xs.length
   ·have n:k<l.length:=by rw[<-HL.o];exact u
    obtain⟨a1,b1,o1,aw,g1,q,c⟩:=HX.o k u;obtain⟨a2,b2,o2,ax,g2,e2,f⟩:=HY.o k n;subst q e2;replace c:=c.B AE.L h
    replace f:=f.B AE.L h
    have HB:=zq h;clear h;clear HX HY;obtain⟨ar,aq,e,-,aa⟩:=c.reads;subst e;obtain⟨ae,af,rfl,-⟩:=rSl.head aa;clear aa;obtain⟨av,au,e,-,ab⟩:=f.reads;subst e;obtain⟨ai,aj,rfl,-⟩:=rSl.head ab;clear ab;have ay:=c.place;have az:=f.place;have ag:=aB (c.cell 0 zX);have ah:=aB (c.cell 1 zX);simp only[aW,bF,bC]at ag ah;have ak:=aB (f.cell 0 zX);have al:=aB (f.cell 1 zX);simp only[aW,bF,bC]at ak al;have hc:∀d os,Calls prog 114 #[.agg #[.bool xs[k].wiped,.slice ae xs[k].recs.length af],.agg #[.bool l[k].wiped,.slice ai l[k].recs.length aj]] (grow (redrawn wr d) os) fun e an => e= .returned (.bool (decide (xs[k] =l[k])))/\∃p:Regrown,an=grow (redrawn wr p.d) p.os :=
     fun d os => Calls.regrown_of (eqTape_c xs[k] l[k] _ _ g1 g2 _ (AC.B AE.L AE.X c.reads (aI wr d os)) (AC.B AE.L AE.X f.reads (aI wr d os)))
    obtain⟨bb,s⟩:∃bb,decide (xs[k] =l[k])=bb:=zJ;rw[s]at hc;have z:=zq s;clear s;have HC:=zq hc;clear hc;have ao:=zq c;have ap:=zq f;clear c f;go_wp2_with fail
    refine aF zY zY ?_;repeat(first|go_big_quiet_step (exact HC.o _ _)|quiet_step (exact HC.o _ _))
    refine aQ ?_;intro _ am;obtain⟨⟨dq,osq⟩,ad⟩:=am;subst ad;have y:=zq (HB.o.T ((aI wr dq osq).M HB.o.size));cases bb with
    |true =>
     have he:=bE z.o;have HE:=zq he;clear he;go_wp2
     go_roundw
     ·exact⟨k+1,by omega,by go_num,rfl,Fs HT.o u n HE.o,y.o⟩
     ·simp[intOf];omega
    |false =>
     have he:=of_decide_eq_false z.o;have q:rb=false:=by rw[<-RB.o];exact aG (fun e => he (by subst e;rfl))
     subst q;clear he;go_wp2
     go_ret
     exact⟨rfl,y.o⟩
   ·have ac:k=xs.length:=by omega
    have H:=HT.o;rw[ac,bA,HL.o,bA]at H;have q:rb=true:=by rw[<-RB.o];exact aN H
    subst q;have HB:=zq h;clear H ac HX HY h;go_wp2
    go_ret
    exact⟨rfl,HB.o⟩
 ·have hb:=CZ hl;have q:rb=false:=by rw[<-RB.o];exact aG (fun e => hl (by rw[e]))
  subst q;clear HX HY;go_enter func66,ntmps66
  go_wp2
  go_ret
  exact⟨rfl,aC _ _⟩
