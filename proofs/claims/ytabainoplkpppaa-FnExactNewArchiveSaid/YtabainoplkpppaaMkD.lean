/-
  What the laws' marks make of the archive's data (printed by wip/lawtypes.py).
-/
import Derived.Test.YtabainoplkpppaaMk1
namespace Go.Proofs.Ytabainoplkpppaa
open Go.RowKit Go.Sort

def numBlock (d : BlockD) : Nat := 1 + d.bytes.length
def oneBlock (k : Nat) (d : BlockD) : BlockD := ⟨((k : Nat) : Int), (mkBytes (k + 1) d.bytes.length)⟩

def numDrive (d : DriveD) : Nat := 1 + numSeq numBlock d.blocks
def oneDrive (k : Nat) (d : DriveD) : DriveD := ⟨(decide ((k) % 3 = 0)), (markSeq oneBlock numBlock (k + 1) d.blocks)⟩

def numRec (d : RecD) : Nat := 1 + 1 + 1 + 1 + 1 + 1 + d.rows.length + d.data.length + d.delta.length
def oneRec (k : Nat) (d : RecD) : RecD := ⟨((k : Nat) : Int), ((k + 1 : Nat) : Int), (mkT (k + 1 + 1)), ((k + 1 + 1 + 1 : Nat) : Int), ((k + 1 + 1 + 1 + 1 : Nat) : Int), ((k + 1 + 1 + 1 + 1 + 1 : Nat) : Int), (mkI (k + 1 + 1 + 1 + 1 + 1 + 1) d.rows.length), (mkBytes (k + 1 + 1 + 1 + 1 + 1 + 1 + d.rows.length) d.data.length), (mkBytes (k + 1 + 1 + 1 + 1 + 1 + 1 + d.rows.length + d.data.length) d.delta.length)⟩

def numTape (d : TapeD) : Nat := 1 + numSeq numRec d.recs
def oneTape (k : Nat) (d : TapeD) : TapeD := ⟨(decide ((k) % 3 = 0)), (markSeq oneRec numRec (k + 1) d.recs)⟩

def numTicket (_ : TicketD) : Nat := 4
def oneTicket (k : Nat) (_ : TicketD) : TicketD := ⟨((k : Nat) : Int), ((k + 1 : Nat) : Int), (mkT (k + 1 + 1)), ((k + 1 + 1 + 1 : Nat) : Int)⟩

def numAnswer (d : AnswerD) : Nat := 1 + 1 + 1 + d.bytes.length
def oneAnswer (k : Nat) (d : AnswerD) : AnswerD := ⟨((k : Nat) : Int), ((k + 1 : Nat) : Int), ((k + 1 + 1 : Nat) : Int), (mkBytes (k + 1 + 1 + 1) d.bytes.length)⟩

end Go.Proofs.Ytabainoplkpppaa
