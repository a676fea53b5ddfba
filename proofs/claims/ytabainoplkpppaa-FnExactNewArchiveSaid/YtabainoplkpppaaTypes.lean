/-
  The archive's types as data, and how a world reads as them (printed by wip/lawtypes.py).
-/
import Derived.Test.YtabainoplkpppaaGen
import Derived.Test.YtabainoplkpppaaLBytes
import Derived.Test.YtabainoplkpppaaStrs
import Derived.Test.YtabainoplkpppaaOpen
namespace Go.Proofs.Ytabainoplkpppaa
open Go.RowKit Go.Sort

def okI (x : Int) : Prop := -9223372036854775808 ≤ x ∧ x ≤ 9223372036854775807

structure ShapeD where
  groups : Int
  column : Int
  data : Int
  spare : Int
  rows : Int
  cap : Int
  batch : Int
  queue : Int
  stage : Int
deriving DecidableEq

structure BlockD where
  stamp : Int
  bytes : List UInt8
deriving DecidableEq

structure DriveD where
  wiped : Bool
  blocks : List BlockD
deriving DecidableEq

structure RecD where
  kind : Int
  seq : Int
  name : ByteArray
  length : Int
  group : Int
  row : Int
  rows : List Int
  data : List UInt8
  delta : List UInt8
deriving DecidableEq

structure TapeD where
  wiped : Bool
  recs : List RecD
deriving DecidableEq

structure WorldD where
  shape : ShapeD
  groups : List (List DriveD)
  on : List Int
  tapes : List TapeD
  writes : Int
  stop : Int
  down : Bool
deriving DecidableEq

structure TicketD where
  id : Int
  kind : Int
  name : ByteArray
  group : Int
deriving DecidableEq

structure AnswerD where
  id : Int
  code : Int
  turn : Int
  bytes : List UInt8
deriving DecidableEq

structure DeskD where
  queues : List (List TicketD)
  aside : List TicketD
  answers : List AnswerD
  turn : Int
  next : Int
deriving DecidableEq

structure ArchiveD where
  world : WorldD
  desk : DeskD
deriving DecidableEq

structure ArchiveResultD where
  code : Int
  id : Int
  archive : ArchiveD
deriving DecidableEq

def rShape : Repr ShapeD := fun _ fs cs d => cs = [.int .i64 d.groups, .int .i64 d.column, .int .i64 d.data, .int .i64 d.spare, .int .i64 d.rows, .int .i64 d.cap, .int .i64 d.batch, .int .i64 d.queue, .int .i64 d.stage] ∧ fs = [] ∧ okI d.groups ∧ okI d.column ∧ okI d.data ∧ okI d.spare ∧ okI d.rows ∧ okI d.cap ∧ okI d.batch ∧ okI d.queue ∧ okI d.stage

theorem rShape.local_ : Local rShape := fun _ _ _ _ _ h _ => h
theorem rShape.fixed : Fixed rShape := fun _ _ _ _ h a ha => by rw [h.2.1] at ha; cases ha

theorem rShape.ones : ∀ (w : World) (f : List Addr) (cs : List Value) (d : ShapeD), rShape w f cs d → ∀ u, u ∈ cs → u.oneCell' = true := by
  rintro w fs cs d ⟨e, ef, o0, o1, o2, o3, o4, o5, o6, o7, o8⟩ u hu
  subst e
  simp only [List.mem_cons, List.not_mem_nil, or_false] at hu
  rcases hu with rfl | rfl | rfl | rfl | rfl | rfl | rfl | rfl | rfl <;> rfl

theorem rShape.wide : Wide 9 rShape := by
  rintro w fs cs d ⟨e, ef, o0, o1, o2, o3, o4, o5, o6, o7, o8⟩
  subst e
  rfl

def rBlock : Repr BlockD := fun w fs cs d => ∃ (v0 : Value) (f0 : List Addr), cs = [.int .i64 d.stamp, v0] ∧ fs = f0 ∧ okI d.stamp ∧ rSl 1 rByte w f0 v0 d.bytes

theorem rBlock.local_ : Local rBlock := by
  rintro w w' fs cs d ⟨v0, f0, e, ef, o0, h0⟩ hs
  subst ef
  exact ⟨v0, _, e, rfl, o0, rSl.keep rByte.local_ h0 hs⟩

theorem rBlock.fixed : Fixed rBlock := by
  rintro w fs cs d ⟨v0, f0, e, ef, o0, h0⟩ a ha
  subst ef
  exact rSl.there rByte.fixed h0 a ha

theorem rBlock.ones : ∀ (w : World) (f : List Addr) (cs : List Value) (d : BlockD), rBlock w f cs d → ∀ u, u ∈ cs → u.oneCell' = true := by
  rintro w fs cs d ⟨v0, f0, e, ef, o0, h0⟩ u hu
  subst e
  obtain ⟨A0, c0, rfl, -⟩ := rSl.head h0
  simp only [List.mem_cons, List.not_mem_nil, or_false] at hu
  rcases hu with rfl | rfl <;> rfl

theorem rBlock.wide : Wide 2 rBlock := by
  rintro w fs cs d ⟨v0, f0, e, ef, o0, h0⟩
  subst e
  rfl

def rDrive : Repr DriveD := fun w fs cs d => ∃ (v0 : Value) (f0 : List Addr), cs = [.bool d.wiped, v0] ∧ fs = f0 ∧ rSl 2 rBlock w f0 v0 d.blocks

theorem rDrive.local_ : Local rDrive := by
  rintro w w' fs cs d ⟨v0, f0, e, ef, h0⟩ hs
  subst ef
  exact ⟨v0, _, e, rfl, rSl.keep rBlock.local_ h0 hs⟩

theorem rDrive.fixed : Fixed rDrive := by
  rintro w fs cs d ⟨v0, f0, e, ef, h0⟩ a ha
  subst ef
  exact rSl.there rBlock.fixed h0 a ha

theorem rDrive.ones : ∀ (w : World) (f : List Addr) (cs : List Value) (d : DriveD), rDrive w f cs d → ∀ u, u ∈ cs → u.oneCell' = true := by
  rintro w fs cs d ⟨v0, f0, e, ef, h0⟩ u hu
  subst e
  obtain ⟨A0, c0, rfl, -⟩ := rSl.head h0
  simp only [List.mem_cons, List.not_mem_nil, or_false] at hu
  rcases hu with rfl | rfl <;> rfl

theorem rDrive.wide : Wide 2 rDrive := by
  rintro w fs cs d ⟨v0, f0, e, ef, h0⟩
  subst e
  rfl

def rRec : Repr RecD := fun w fs cs d => ∃ (v0 : Value) (v1 : Value) (v2 : Value) (f0 : List Addr) (f1 : List Addr) (f2 : List Addr), cs = [.int .i64 d.kind, .int .i64 d.seq, .string d.name, .int .i64 d.length, .int .i64 d.group, .int .i64 d.row, v0, v1, v2] ∧ fs = f0 ++ (f1 ++ (f2)) ∧ okI d.kind ∧ okI d.seq ∧ d.name.size ≤ 9223372036854775807 ∧ okI d.length ∧ okI d.group ∧ okI d.row ∧ rSl 1 rInt w f0 v0 d.rows ∧ rSl 1 rByte w f1 v1 d.data ∧ rSl 1 rByte w f2 v2 d.delta

theorem rRec.local_ : Local rRec := by
  rintro w w' fs cs d ⟨v0, v1, v2, f0, f1, f2, e, ef, o0, o1, o2, o3, o4, o5, h0, h1, h2⟩ hs
  subst ef
  exact ⟨v0, v1, v2, _, _, _, e, rfl, o0, o1, o2, o3, o4, o5, rSl.keep rInt.local_ h0 hs.left, rSl.keep rByte.local_ h1 hs.right.left, rSl.keep rByte.local_ h2 hs.right.right⟩

theorem rRec.fixed : Fixed rRec := by
  rintro w fs cs d ⟨v0, v1, v2, f0, f1, f2, e, ef, o0, o1, o2, o3, o4, o5, h0, h1, h2⟩ a ha
  subst ef
  rcases List.mem_append.1 ha with ha | ha
  · exact rSl.there rInt.fixed h0 a ha
  rcases List.mem_append.1 ha with ha | ha
  · exact rSl.there rByte.fixed h1 a ha
  exact rSl.there rByte.fixed h2 a ha

theorem rRec.ones : ∀ (w : World) (f : List Addr) (cs : List Value) (d : RecD), rRec w f cs d → ∀ u, u ∈ cs → u.oneCell' = true := by
  rintro w fs cs d ⟨v0, v1, v2, f0, f1, f2, e, ef, o0, o1, o2, o3, o4, o5, h0, h1, h2⟩ u hu
  subst e
  obtain ⟨A0, c0, rfl, -⟩ := rSl.head h0
  obtain ⟨A1, c1, rfl, -⟩ := rSl.head h1
  obtain ⟨A2, c2, rfl, -⟩ := rSl.head h2
  simp only [List.mem_cons, List.not_mem_nil, or_false] at hu
  rcases hu with rfl | rfl | rfl | rfl | rfl | rfl | rfl | rfl | rfl <;> rfl

theorem rRec.wide : Wide 9 rRec := by
  rintro w fs cs d ⟨v0, v1, v2, f0, f1, f2, e, ef, o0, o1, o2, o3, o4, o5, h0, h1, h2⟩
  subst e
  rfl

def rTape : Repr TapeD := fun w fs cs d => ∃ (v0 : Value) (f0 : List Addr), cs = [.bool d.wiped, v0] ∧ fs = f0 ∧ rSl 9 rRec w f0 v0 d.recs

theorem rTape.local_ : Local rTape := by
  rintro w w' fs cs d ⟨v0, f0, e, ef, h0⟩ hs
  subst ef
  exact ⟨v0, _, e, rfl, rSl.keep rRec.local_ h0 hs⟩

theorem rTape.fixed : Fixed rTape := by
  rintro w fs cs d ⟨v0, f0, e, ef, h0⟩ a ha
  subst ef
  exact rSl.there rRec.fixed h0 a ha

theorem rTape.ones : ∀ (w : World) (f : List Addr) (cs : List Value) (d : TapeD), rTape w f cs d → ∀ u, u ∈ cs → u.oneCell' = true := by
  rintro w fs cs d ⟨v0, f0, e, ef, h0⟩ u hu
  subst e
  obtain ⟨A0, c0, rfl, -⟩ := rSl.head h0
  simp only [List.mem_cons, List.not_mem_nil, or_false] at hu
  rcases hu with rfl | rfl <;> rfl

theorem rTape.wide : Wide 2 rTape := by
  rintro w fs cs d ⟨v0, f0, e, ef, h0⟩
  subst e
  rfl

def rWorld : Repr WorldD := fun w fs cs d => ∃ (v0 : Value) (v1 : Value) (v2 : Value) (f0 : List Addr) (f1 : List Addr) (f2 : List Addr), cs = [.int .i64 d.shape.groups, .int .i64 d.shape.column, .int .i64 d.shape.data, .int .i64 d.shape.spare, .int .i64 d.shape.rows, .int .i64 d.shape.cap, .int .i64 d.shape.batch, .int .i64 d.shape.queue, .int .i64 d.shape.stage, v0, v1, v2, .int .i64 d.writes, .int .i64 d.stop, .bool d.down] ∧ fs = f0 ++ (f1 ++ (f2)) ∧ okI d.shape.groups ∧ okI d.shape.column ∧ okI d.shape.data ∧ okI d.shape.spare ∧ okI d.shape.rows ∧ okI d.shape.cap ∧ okI d.shape.batch ∧ okI d.shape.queue ∧ okI d.shape.stage ∧ okI d.writes ∧ okI d.stop ∧ rSl 1 (rSlice 2 rDrive) w f0 v0 d.groups ∧ rSl 1 rInt w f1 v1 d.on ∧ rSl 2 rTape w f2 v2 d.tapes

theorem rWorld.local_ : Local rWorld := by
  rintro w w' fs cs d ⟨v0, v1, v2, f0, f1, f2, e, ef, o0, o1, o2, o3, o4, o5, o6, o7, o8, o9, o10, h0, h1, h2⟩ hs
  subst ef
  exact ⟨v0, v1, v2, _, _, _, e, rfl, o0, o1, o2, o3, o4, o5, o6, o7, o8, o9, o10, rSl.keep (rSlice.local_ rDrive.local_) h0 hs.left, rSl.keep rInt.local_ h1 hs.right.left, rSl.keep rTape.local_ h2 hs.right.right⟩

theorem rWorld.fixed : Fixed rWorld := by
  rintro w fs cs d ⟨v0, v1, v2, f0, f1, f2, e, ef, o0, o1, o2, o3, o4, o5, o6, o7, o8, o9, o10, h0, h1, h2⟩ a ha
  subst ef
  rcases List.mem_append.1 ha with ha | ha
  · exact rSl.there (rSlice.fixed rDrive.fixed) h0 a ha
  rcases List.mem_append.1 ha with ha | ha
  · exact rSl.there rInt.fixed h1 a ha
  exact rSl.there rTape.fixed h2 a ha

theorem rWorld.ones : ∀ (w : World) (f : List Addr) (cs : List Value) (d : WorldD), rWorld w f cs d → ∀ u, u ∈ cs → u.oneCell' = true := by
  rintro w fs cs d ⟨v0, v1, v2, f0, f1, f2, e, ef, o0, o1, o2, o3, o4, o5, o6, o7, o8, o9, o10, h0, h1, h2⟩ u hu
  subst e
  obtain ⟨A0, c0, rfl, -⟩ := rSl.head h0
  obtain ⟨A1, c1, rfl, -⟩ := rSl.head h1
  obtain ⟨A2, c2, rfl, -⟩ := rSl.head h2
  simp only [List.mem_cons, List.not_mem_nil, or_false] at hu
  rcases hu with rfl | rfl | rfl | rfl | rfl | rfl | rfl | rfl | rfl | rfl | rfl | rfl | rfl | rfl | rfl <;> rfl

theorem rWorld.wide : Wide 15 rWorld := by
  rintro w fs cs d ⟨v0, v1, v2, f0, f1, f2, e, ef, o0, o1, o2, o3, o4, o5, o6, o7, o8, o9, o10, h0, h1, h2⟩
  subst e
  rfl

def rTicket : Repr TicketD := fun _ fs cs d => cs = [.int .i64 d.id, .int .i64 d.kind, .string d.name, .int .i64 d.group] ∧ fs = [] ∧ okI d.id ∧ okI d.kind ∧ d.name.size ≤ 9223372036854775807 ∧ okI d.group

theorem rTicket.local_ : Local rTicket := fun _ _ _ _ _ h _ => h
theorem rTicket.fixed : Fixed rTicket := fun _ _ _ _ h a ha => by rw [h.2.1] at ha; cases ha

theorem rTicket.ones : ∀ (w : World) (f : List Addr) (cs : List Value) (d : TicketD), rTicket w f cs d → ∀ u, u ∈ cs → u.oneCell' = true := by
  rintro w fs cs d ⟨e, ef, o0, o1, o2, o3⟩ u hu
  subst e
  simp only [List.mem_cons, List.not_mem_nil, or_false] at hu
  rcases hu with rfl | rfl | rfl | rfl <;> rfl

theorem rTicket.wide : Wide 4 rTicket := by
  rintro w fs cs d ⟨e, ef, o0, o1, o2, o3⟩
  subst e
  rfl

def rAnswer : Repr AnswerD := fun w fs cs d => ∃ (v0 : Value) (f0 : List Addr), cs = [.int .i64 d.id, .int .i64 d.code, .int .i64 d.turn, v0] ∧ fs = f0 ∧ okI d.id ∧ okI d.code ∧ okI d.turn ∧ rSl 1 rByte w f0 v0 d.bytes

theorem rAnswer.local_ : Local rAnswer := by
  rintro w w' fs cs d ⟨v0, f0, e, ef, o0, o1, o2, h0⟩ hs
  subst ef
  exact ⟨v0, _, e, rfl, o0, o1, o2, rSl.keep rByte.local_ h0 hs⟩

theorem rAnswer.fixed : Fixed rAnswer := by
  rintro w fs cs d ⟨v0, f0, e, ef, o0, o1, o2, h0⟩ a ha
  subst ef
  exact rSl.there rByte.fixed h0 a ha

theorem rAnswer.ones : ∀ (w : World) (f : List Addr) (cs : List Value) (d : AnswerD), rAnswer w f cs d → ∀ u, u ∈ cs → u.oneCell' = true := by
  rintro w fs cs d ⟨v0, f0, e, ef, o0, o1, o2, h0⟩ u hu
  subst e
  obtain ⟨A0, c0, rfl, -⟩ := rSl.head h0
  simp only [List.mem_cons, List.not_mem_nil, or_false] at hu
  rcases hu with rfl | rfl | rfl | rfl <;> rfl

theorem rAnswer.wide : Wide 4 rAnswer := by
  rintro w fs cs d ⟨v0, f0, e, ef, o0, o1, o2, h0⟩
  subst e
  rfl

def rDesk : Repr DeskD := fun w fs cs d => ∃ (v0 : Value) (v1 : Value) (v2 : Value) (f0 : List Addr) (f1 : List Addr) (f2 : List Addr), cs = [v0, v1, v2, .int .i64 d.turn, .int .i64 d.next] ∧ fs = f0 ++ (f1 ++ (f2)) ∧ okI d.turn ∧ okI d.next ∧ rSl 1 (rSlice 4 rTicket) w f0 v0 d.queues ∧ rSl 4 rTicket w f1 v1 d.aside ∧ rSl 4 rAnswer w f2 v2 d.answers

theorem rDesk.local_ : Local rDesk := by
  rintro w w' fs cs d ⟨v0, v1, v2, f0, f1, f2, e, ef, o0, o1, h0, h1, h2⟩ hs
  subst ef
  exact ⟨v0, v1, v2, _, _, _, e, rfl, o0, o1, rSl.keep (rSlice.local_ rTicket.local_) h0 hs.left, rSl.keep rTicket.local_ h1 hs.right.left, rSl.keep rAnswer.local_ h2 hs.right.right⟩

theorem rDesk.fixed : Fixed rDesk := by
  rintro w fs cs d ⟨v0, v1, v2, f0, f1, f2, e, ef, o0, o1, h0, h1, h2⟩ a ha
  subst ef
  rcases List.mem_append.1 ha with ha | ha
  · exact rSl.there (rSlice.fixed rTicket.fixed) h0 a ha
  rcases List.mem_append.1 ha with ha | ha
  · exact rSl.there rTicket.fixed h1 a ha
  exact rSl.there rAnswer.fixed h2 a ha

theorem rDesk.ones : ∀ (w : World) (f : List Addr) (cs : List Value) (d : DeskD), rDesk w f cs d → ∀ u, u ∈ cs → u.oneCell' = true := by
  rintro w fs cs d ⟨v0, v1, v2, f0, f1, f2, e, ef, o0, o1, h0, h1, h2⟩ u hu
  subst e
  obtain ⟨A0, c0, rfl, -⟩ := rSl.head h0
  obtain ⟨A1, c1, rfl, -⟩ := rSl.head h1
  obtain ⟨A2, c2, rfl, -⟩ := rSl.head h2
  simp only [List.mem_cons, List.not_mem_nil, or_false] at hu
  rcases hu with rfl | rfl | rfl | rfl | rfl <;> rfl

theorem rDesk.wide : Wide 5 rDesk := by
  rintro w fs cs d ⟨v0, v1, v2, f0, f1, f2, e, ef, o0, o1, h0, h1, h2⟩
  subst e
  rfl

def rArchive : Repr ArchiveD := fun w fs cs d => ∃ (v0 : Value) (v1 : Value) (v2 : Value) (v3 : Value) (v4 : Value) (v5 : Value) (f0 : List Addr) (f1 : List Addr) (f2 : List Addr) (f3 : List Addr) (f4 : List Addr) (f5 : List Addr), cs = [.int .i64 d.world.shape.groups, .int .i64 d.world.shape.column, .int .i64 d.world.shape.data, .int .i64 d.world.shape.spare, .int .i64 d.world.shape.rows, .int .i64 d.world.shape.cap, .int .i64 d.world.shape.batch, .int .i64 d.world.shape.queue, .int .i64 d.world.shape.stage, v0, v1, v2, .int .i64 d.world.writes, .int .i64 d.world.stop, .bool d.world.down, v3, v4, v5, .int .i64 d.desk.turn, .int .i64 d.desk.next] ∧ fs = f0 ++ (f1 ++ (f2 ++ (f3 ++ (f4 ++ (f5))))) ∧ okI d.world.shape.groups ∧ okI d.world.shape.column ∧ okI d.world.shape.data ∧ okI d.world.shape.spare ∧ okI d.world.shape.rows ∧ okI d.world.shape.cap ∧ okI d.world.shape.batch ∧ okI d.world.shape.queue ∧ okI d.world.shape.stage ∧ okI d.world.writes ∧ okI d.world.stop ∧ okI d.desk.turn ∧ okI d.desk.next ∧ rSl 1 (rSlice 2 rDrive) w f0 v0 d.world.groups ∧ rSl 1 rInt w f1 v1 d.world.on ∧ rSl 2 rTape w f2 v2 d.world.tapes ∧ rSl 1 (rSlice 4 rTicket) w f3 v3 d.desk.queues ∧ rSl 4 rTicket w f4 v4 d.desk.aside ∧ rSl 4 rAnswer w f5 v5 d.desk.answers

theorem rArchive.local_ : Local rArchive := by
  rintro w w' fs cs d ⟨v0, v1, v2, v3, v4, v5, f0, f1, f2, f3, f4, f5, e, ef, o0, o1, o2, o3, o4, o5, o6, o7, o8, o9, o10, o11, o12, h0, h1, h2, h3, h4, h5⟩ hs
  subst ef
  exact ⟨v0, v1, v2, v3, v4, v5, _, _, _, _, _, _, e, rfl, o0, o1, o2, o3, o4, o5, o6, o7, o8, o9, o10, o11, o12, rSl.keep (rSlice.local_ rDrive.local_) h0 hs.left, rSl.keep rInt.local_ h1 hs.right.left, rSl.keep rTape.local_ h2 hs.right.right.left, rSl.keep (rSlice.local_ rTicket.local_) h3 hs.right.right.right.left, rSl.keep rTicket.local_ h4 hs.right.right.right.right.left, rSl.keep rAnswer.local_ h5 hs.right.right.right.right.right⟩

theorem rArchive.fixed : Fixed rArchive := by
  rintro w fs cs d ⟨v0, v1, v2, v3, v4, v5, f0, f1, f2, f3, f4, f5, e, ef, o0, o1, o2, o3, o4, o5, o6, o7, o8, o9, o10, o11, o12, h0, h1, h2, h3, h4, h5⟩ a ha
  subst ef
  rcases List.mem_append.1 ha with ha | ha
  · exact rSl.there (rSlice.fixed rDrive.fixed) h0 a ha
  rcases List.mem_append.1 ha with ha | ha
  · exact rSl.there rInt.fixed h1 a ha
  rcases List.mem_append.1 ha with ha | ha
  · exact rSl.there rTape.fixed h2 a ha
  rcases List.mem_append.1 ha with ha | ha
  · exact rSl.there (rSlice.fixed rTicket.fixed) h3 a ha
  rcases List.mem_append.1 ha with ha | ha
  · exact rSl.there rTicket.fixed h4 a ha
  exact rSl.there rAnswer.fixed h5 a ha

theorem rArchive.ones : ∀ (w : World) (f : List Addr) (cs : List Value) (d : ArchiveD), rArchive w f cs d → ∀ u, u ∈ cs → u.oneCell' = true := by
  rintro w fs cs d ⟨v0, v1, v2, v3, v4, v5, f0, f1, f2, f3, f4, f5, e, ef, o0, o1, o2, o3, o4, o5, o6, o7, o8, o9, o10, o11, o12, h0, h1, h2, h3, h4, h5⟩ u hu
  subst e
  obtain ⟨A0, c0, rfl, -⟩ := rSl.head h0
  obtain ⟨A1, c1, rfl, -⟩ := rSl.head h1
  obtain ⟨A2, c2, rfl, -⟩ := rSl.head h2
  obtain ⟨A3, c3, rfl, -⟩ := rSl.head h3
  obtain ⟨A4, c4, rfl, -⟩ := rSl.head h4
  obtain ⟨A5, c5, rfl, -⟩ := rSl.head h5
  simp only [List.mem_cons, List.not_mem_nil, or_false] at hu
  rcases hu with rfl | rfl | rfl | rfl | rfl | rfl | rfl | rfl | rfl | rfl | rfl | rfl | rfl | rfl | rfl | rfl | rfl | rfl | rfl | rfl <;> rfl

theorem rArchive.wide : Wide 20 rArchive := by
  rintro w fs cs d ⟨v0, v1, v2, v3, v4, v5, f0, f1, f2, f3, f4, f5, e, ef, o0, o1, o2, o3, o4, o5, o6, o7, o8, o9, o10, o11, o12, h0, h1, h2, h3, h4, h5⟩
  subst e
  rfl

def rArchiveResult : Repr ArchiveResultD := fun w fs cs d => ∃ (v0 : Value) (v1 : Value) (v2 : Value) (v3 : Value) (v4 : Value) (v5 : Value) (f0 : List Addr) (f1 : List Addr) (f2 : List Addr) (f3 : List Addr) (f4 : List Addr) (f5 : List Addr), cs = [.int .i64 d.code, .int .i64 d.id, .int .i64 d.archive.world.shape.groups, .int .i64 d.archive.world.shape.column, .int .i64 d.archive.world.shape.data, .int .i64 d.archive.world.shape.spare, .int .i64 d.archive.world.shape.rows, .int .i64 d.archive.world.shape.cap, .int .i64 d.archive.world.shape.batch, .int .i64 d.archive.world.shape.queue, .int .i64 d.archive.world.shape.stage, v0, v1, v2, .int .i64 d.archive.world.writes, .int .i64 d.archive.world.stop, .bool d.archive.world.down, v3, v4, v5, .int .i64 d.archive.desk.turn, .int .i64 d.archive.desk.next] ∧ fs = f0 ++ (f1 ++ (f2 ++ (f3 ++ (f4 ++ (f5))))) ∧ okI d.code ∧ okI d.id ∧ okI d.archive.world.shape.groups ∧ okI d.archive.world.shape.column ∧ okI d.archive.world.shape.data ∧ okI d.archive.world.shape.spare ∧ okI d.archive.world.shape.rows ∧ okI d.archive.world.shape.cap ∧ okI d.archive.world.shape.batch ∧ okI d.archive.world.shape.queue ∧ okI d.archive.world.shape.stage ∧ okI d.archive.world.writes ∧ okI d.archive.world.stop ∧ okI d.archive.desk.turn ∧ okI d.archive.desk.next ∧ rSl 1 (rSlice 2 rDrive) w f0 v0 d.archive.world.groups ∧ rSl 1 rInt w f1 v1 d.archive.world.on ∧ rSl 2 rTape w f2 v2 d.archive.world.tapes ∧ rSl 1 (rSlice 4 rTicket) w f3 v3 d.archive.desk.queues ∧ rSl 4 rTicket w f4 v4 d.archive.desk.aside ∧ rSl 4 rAnswer w f5 v5 d.archive.desk.answers

theorem rArchiveResult.local_ : Local rArchiveResult := by
  rintro w w' fs cs d ⟨v0, v1, v2, v3, v4, v5, f0, f1, f2, f3, f4, f5, e, ef, o0, o1, o2, o3, o4, o5, o6, o7, o8, o9, o10, o11, o12, o13, o14, h0, h1, h2, h3, h4, h5⟩ hs
  subst ef
  exact ⟨v0, v1, v2, v3, v4, v5, _, _, _, _, _, _, e, rfl, o0, o1, o2, o3, o4, o5, o6, o7, o8, o9, o10, o11, o12, o13, o14, rSl.keep (rSlice.local_ rDrive.local_) h0 hs.left, rSl.keep rInt.local_ h1 hs.right.left, rSl.keep rTape.local_ h2 hs.right.right.left, rSl.keep (rSlice.local_ rTicket.local_) h3 hs.right.right.right.left, rSl.keep rTicket.local_ h4 hs.right.right.right.right.left, rSl.keep rAnswer.local_ h5 hs.right.right.right.right.right⟩

theorem rArchiveResult.fixed : Fixed rArchiveResult := by
  rintro w fs cs d ⟨v0, v1, v2, v3, v4, v5, f0, f1, f2, f3, f4, f5, e, ef, o0, o1, o2, o3, o4, o5, o6, o7, o8, o9, o10, o11, o12, o13, o14, h0, h1, h2, h3, h4, h5⟩ a ha
  subst ef
  rcases List.mem_append.1 ha with ha | ha
  · exact rSl.there (rSlice.fixed rDrive.fixed) h0 a ha
  rcases List.mem_append.1 ha with ha | ha
  · exact rSl.there rInt.fixed h1 a ha
  rcases List.mem_append.1 ha with ha | ha
  · exact rSl.there rTape.fixed h2 a ha
  rcases List.mem_append.1 ha with ha | ha
  · exact rSl.there (rSlice.fixed rTicket.fixed) h3 a ha
  rcases List.mem_append.1 ha with ha | ha
  · exact rSl.there rTicket.fixed h4 a ha
  exact rSl.there rAnswer.fixed h5 a ha

theorem rArchiveResult.ones : ∀ (w : World) (f : List Addr) (cs : List Value) (d : ArchiveResultD), rArchiveResult w f cs d → ∀ u, u ∈ cs → u.oneCell' = true := by
  rintro w fs cs d ⟨v0, v1, v2, v3, v4, v5, f0, f1, f2, f3, f4, f5, e, ef, o0, o1, o2, o3, o4, o5, o6, o7, o8, o9, o10, o11, o12, o13, o14, h0, h1, h2, h3, h4, h5⟩ u hu
  subst e
  obtain ⟨A0, c0, rfl, -⟩ := rSl.head h0
  obtain ⟨A1, c1, rfl, -⟩ := rSl.head h1
  obtain ⟨A2, c2, rfl, -⟩ := rSl.head h2
  obtain ⟨A3, c3, rfl, -⟩ := rSl.head h3
  obtain ⟨A4, c4, rfl, -⟩ := rSl.head h4
  obtain ⟨A5, c5, rfl, -⟩ := rSl.head h5
  simp only [List.mem_cons, List.not_mem_nil, or_false] at hu
  rcases hu with rfl | rfl | rfl | rfl | rfl | rfl | rfl | rfl | rfl | rfl | rfl | rfl | rfl | rfl | rfl | rfl | rfl | rfl | rfl | rfl | rfl | rfl <;> rfl

theorem rArchiveResult.wide : Wide 22 rArchiveResult := by
  rintro w fs cs d ⟨v0, v1, v2, v3, v4, v5, f0, f1, f2, f3, f4, f5, e, ef, o0, o1, o2, o3, o4, o5, o6, o7, o8, o9, o10, o11, o12, o13, o14, h0, h1, h2, h3, h4, h5⟩
  subst e
  rfl

end Go.Proofs.Ytabainoplkpppaa
