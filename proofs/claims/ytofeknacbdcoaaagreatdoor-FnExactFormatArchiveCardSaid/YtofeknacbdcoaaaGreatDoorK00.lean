/- Part 0 of the proof. -/
import Derived.Shelf.Bytes.SlEqualAll
import Derived.Shelf.SlSortCmp.WholeK
import Derived.Shelf.Small.Strs
import Derived.Shelf.Strings.Builder1
import Derived.Shelf.Strings.OnBuilder
import Derived.Shelf.LaysM
import Derived.Shelf.Strconv.Itoa4
import Derived.Shelf.SlSortCmp.KitK
import Derived.Test.YtofeknacbdcoaaaGreatDoorProg
import Derived.Lib.Hide
import Derived.Deep.LoopGhost
import Derived.Deep.RegionHeld
import Derived.Lib.QuietBelow
import Derived.Below
import Derived.Deep.MidRow
set_option maxHeartbeats 8000000
set_option maxRecDepth 100000
set_option linter.unusedVariables false
set_option linter.unusedSimpArgs false
namespace Go.RowKit
theorem Hid.o {p:Prop}(h:Hid p):p:=h.out
end Go.RowKit
namespace Go
theorem Aside.o {p:Prop}(h:Aside p):p:=h.out
theorem Shut.o {p:Prop}(h:Shut p):p:=h.out
end Go
namespace Go.Proofs.YtofeknacbdcoaaaGreatDoor
theorem zZ {p:Prop}(h:p:=by omega):p:=h
theorem zY {p:Prop}(h:p:=by kernel_rfl):p:=h
theorem zX {p:Prop}(h:p:=by simp):p:=h
theorem zW {p:Prop}(h:p:=by decide):p:=h
theorem zV {p:Prop}(h:p:=by simp;omega):p:=h
theorem zU {p:Prop}(h:p:=by simp[Value.oneCell']):p:=h
theorem zT {p:Prop}(h:p:=by rfl):p:=h
structure zP where
def zQ:zP:={}
instance:Coe zP Value:=⟨fun _=>.slice none 0 0⟩
instance:Coe Unit Value:=⟨fun _=>.int .i64 0⟩
instance:Coe Int Value:=⟨.int .i64⟩
end Go.Proofs.YtofeknacbdcoaaaGreatDoor
abbrev Go.RowKit.Below.T:=@Go.RowKit.Below.trans
abbrev Go.RowKit.Below.M:=@Go.RowKit.Below.mono
abbrev Go.Calls.M:=@Go.Calls.mono
abbrev Eq.T:=@Eq.trans
abbrev List.Perm.T:=@List.Perm.trans
abbrev Iff.T:=@Iff.trans
namespace Go.Proofs.YtofeknacbdcoaaaGreatDoor
open Go.RowKit
instance:Coe World Nat:=⟨fun w=>w.heap.size⟩
structure yYY where
def yY:yYY:={}
instance:Coe yYY (List Value):=⟨fun _=>[.int .i64 0,.int .i64 0,.string ⟨#[]⟩,.int .i64 0,.int .i64 0,.int .i64 0,.slice none 0 0,.slice none 0 0,.slice none 0 0]⟩
structure yXY where
def yX:yXY:={}
instance:Coe yXY (List Value):=⟨fun _=>[.int .i64 0,.int .i64 0,.int .i64 0,.int .i64 0,.int .i64 0,.int .i64 0,.int .i64 0,.int .i64 0,.int .i64 0]⟩
structure yWY where
def yW:yWY:={}
instance:Coe yWY (List Value):=⟨fun _=>[.int .i64 0,.int .i64 0,.int .i64 0,.int .i64 0,.int .i64 0,.int .i64 0,.int .i64 0,.int .i64 0,.int .i64 0,.slice none 0 0,.slice none 0 0,.slice none 0 0,.int .i64 0,.int .i64 0,.bool false]⟩
structure yVY where
def yV:yVY:={}
instance:Coe yVY (List Value):=⟨fun _=>[.slice none 0 0,.slice none 0 0,.slice none 0 0,.int .i64 0,.int .i64 0]⟩
structure yUY where
def yU:yUY:={}
instance:Coe yUY (List Value):=⟨fun _=>[.int .i64 0,.int .i64 0,.int .i64 0,.int .i64 0,.int .i64 0,.int .i64 0,.int .i64 0,.int .i64 0,.int .i64 0,.slice none 0 0,.slice none 0 0,.slice none 0 0,.int .i64 0,.int .i64 0,.bool false,.slice none 0 0,.slice none 0 0,.slice none 0 0,.int .i64 0,.int .i64 0]⟩
instance:Coe (List Value) (Array Value):=⟨List.toArray⟩
instance:Coe Nat Value:=⟨fun n=>.int .i64 n⟩
structure zOY where zO::(b o:Nat)
abbrev zO:=@zOY.zO
instance(b o):CoeDep zOY (zOY.zO b o) Addr:=⟨⟨b,o,none⟩⟩
structure zEY where zE::(b:Nat)
abbrev zE:=@zEY.zE
instance(b):CoeDep zEY (zEY.zE b) Addr:=⟨⟨b,0,none⟩⟩
instance(b o:Nat):CoeDep (Nat×Nat) (b,o) Addr:=⟨⟨b,o,none⟩⟩
abbrev zN(v:Value)(w:World)(e:Ending)(w':World):Prop:=e= .returned v/\Below w.heap.size w w'
abbrev zM(v:Value)(w:World)(e:Ending)(w':World):Prop:=e= .returned v/\w=w'
theorem zJ {p:Prop}(h:p:=by exact ⟨_,rfl⟩):p:=h
theorem zI {pa pb pc:Prop}(a:pa)(b:pb)(c:pc):RowKit.Hid pa/\RowKit.Hid pb/\RowKit.Hid pc:=⟨Go.Lib.hid a,Go.Lib.hid b,Go.Lib.hid c⟩
theorem zH {pa pb pc pd:Prop}(a:pa)(b:pb)(c:pc)(d:pd):RowKit.Hid pa/\RowKit.Hid pb/\RowKit.Hid pc/\RowKit.Hid pd:=⟨Go.Lib.hid a,Go.Lib.hid b,Go.Lib.hid c,Go.Lib.hid d⟩
theorem zG {pa pb pc pd pe:Prop}(a:pa)(b:pb)(c:pc)(d:pd)(e:pe):RowKit.Hid pa/\RowKit.Hid pb/\RowKit.Hid pc/\RowKit.Hid pd/\RowKit.Hid pe:=⟨Go.Lib.hid a,Go.Lib.hid b,Go.Lib.hid c,Go.Lib.hid d,Go.Lib.hid e⟩
theorem zF {pa pb pc pd pe pf:Prop}(a:pa)(b:pb)(c:pc)(d:pd)(e:pe)(f:pf):RowKit.Hid pa/\RowKit.Hid pb/\RowKit.Hid pc/\RowKit.Hid pd/\RowKit.Hid pe/\RowKit.Hid pf:=⟨Go.Lib.hid a,Go.Lib.hid b,Go.Lib.hid c,Go.Lib.hid d,Go.Lib.hid e,Go.Lib.hid f⟩
end Go.Proofs.YtofeknacbdcoaaaGreatDoor
namespace Go.Proofs.YtofeknacbdcoaaaGreatDoor
theorem zq {p:Prop}(h:p):RowKit.Hid p:=Lib.hid h
section
open Go.RowKit Go.Lib Go.Sort
abbrev aB:=@cell_regrown
abbrev aC:=@Below.refl
abbrev aD:=@Nat.le_refl
abbrev aE:=@wpList_load_mid
abbrev aF:=@wp_region_quiet_below
abbrev aG:=@decide_eq_false
abbrev aH:=@Nat.lt_of_lt_of_le
abbrev aI:=@below_regrown
abbrev aJ:=@if_neg
abbrev aK:=@List.take_succ_eq_append_getElem
abbrev aM:=@if_pos
abbrev aN:=@decide_eq_true
abbrev aO:=@List.getElem?_eq_getElem
abbrev aP:=@List.getD_eq_getElem?_getD
abbrev aQ:=@wpQuiet_nil
abbrev aT:=@List.getElem_mem
abbrev aU:=@List.length_append
abbrev aV:=@wpList_store_mid
abbrev aW:=@List.getElem_cons_zero
abbrev aX:=@List.length_take
abbrev aY:=@List.getElem_of_mem
abbrev aZ:=@Nat.le_trans
abbrev bA:=@List.take_length
abbrev bB:=@List.take_of_length_le
abbrev bC:=@Nat.add_zero
abbrev bD:=@List.size_toArray
abbrev bE:=@of_decide_eq_true
abbrev bF:=@List.getElem_cons_succ
abbrev bG:=@decide_eq_true_eq
abbrev bH:=@List.length_map
abbrev bI:=@List.getElem_map
abbrev bK:=@List.ext_getElem
abbrev bM:=@List.mem_append_left
abbrev bN:=@List.eq_nil_of_length_eq_zero
abbrev bO:=@List.mem_append_right
abbrev bP:=@List.length_drop
abbrev bQ:=@List.mem_append
end
end Go.Proofs.YtofeknacbdcoaaaGreatDoor
namespace Go.Proofs
open Go.Shelf Go.RowKit
def Tryz.laysnb115_ren:Go.Shelf.Ren:=⟨fun|115 => 252|n => n,fun|4 => 4|9 => 9|37 => 61|5 => 5|n => n,fun n => n⟩
theorem Tryz.laysnb115:Go.Proofs.Lays.nb115 Tryz.prog Tryz.laysnb115_ren:=by
 constructor
 all_goals first|(intros;kernel_rfl)|(constructor <;> intros <;> kernel_rfl)
theorem Tryz.bytesEqual(p1 p2:Option Addr)(n c m d:Nat)(xs f:List Int)(w:World)(i:xs.length=n)(l:f.length=m)(h1:Lib.BytesIn w p1 n xs)(h:Lib.BytesIn w p2 m f) :
  Calls Tryz.prog 252 #[.slice p1 n c,.slice p2 m d] w fun e w' => e= .returned (.bool (Lib.bytesOf xs == Lib.bytesOf f))∧w'=w:=Any.bytes_Equal_all Tryz.laysnb115 p1 p2 n c m d xs f w i l h1 h
def Tryz.sortRecs_ren:Go.Shelf.Ren:=⟨fun|6 => 107|15 => 169|14 => 168|28 => 227|29 => 211|20 => 219|21 => 220|22 => 221|23 => 222|24 => 223|25 => 224|26 => 225|27 => 226|46 => 257|47 => 258|48 => 259|49 => 260|50 => 261|57 => 275|n => n,fun|22 => 99|24 => 105|25 => 177|3 => 3|39 => 228|0 => 0|53 => 263|55 => 219|4 => 4|46 => 271|45 => 270|50 => 275|5 => 5|9 => 9|66 => 300|70 => 304|76 => 320|77 => 321|n => n,fun|n => n⟩
theorem Tryz.sortRecs:Go.Proofs.SlLaysF0.n6 Tryz.prog Tryz.sortRecs_ren:=by
 constructor
 case f6 => exact⟨Tryz.f107.name,by decide,Tryz.func107.trans (congrArg some (by kernel_rfl))⟩
 case f14 => exact⟨Tryz.f168.name,by decide,Tryz.func168.trans (congrArg some (by kernel_rfl))⟩
 case f20 => exact⟨Tryz.f219.name,by decide,Tryz.func219.trans (congrArg some (by kernel_rfl))⟩
 case f21 => exact⟨Tryz.f220.name,by decide,Tryz.func220.trans (congrArg some (by kernel_rfl))⟩
 case f22 => exact⟨Tryz.f221.name,by decide,Tryz.func221.trans (congrArg some (by kernel_rfl))⟩
 case f23 => exact⟨Tryz.f222.name,by decide,Tryz.func222.trans (congrArg some (by kernel_rfl))⟩
 case f24 => exact⟨Tryz.f223.name,by decide,Tryz.func223.trans (congrArg some (by kernel_rfl))⟩
 case f25 => exact⟨Tryz.f224.name,by decide,Tryz.func224.trans (congrArg some (by kernel_rfl))⟩
 case f26 => exact⟨Tryz.f225.name,by decide,Tryz.func225.trans (congrArg some (by kernel_rfl))⟩
 case f27 => exact⟨Tryz.f226.name,by decide,Tryz.func226.trans (congrArg some (by kernel_rfl))⟩
 case f46 => exact⟨Tryz.f257.name,by decide,Tryz.func257.trans (congrArg some (by kernel_rfl))⟩
 case f49 => exact⟨Tryz.f260.name,by decide,Tryz.func260.trans (congrArg some (by kernel_rfl))⟩
 case f50 => exact⟨Tryz.f261.name,by decide,Tryz.func261.trans (congrArg some (by kernel_rfl))⟩
 case f57 => exact⟨Tryz.f275.name,by decide,Tryz.func275.trans (congrArg some (by kernel_rfl))⟩
 all_goals first|(intros;kernel_rfl)|(constructor <;> intros <;> kernel_rfl)
def Tryz.strCmp_ren:Go.Shelf.Ren:=⟨fun|106 => 109|213 => 170|265 => 228|n => n,fun|9 => 9|3 => 3|n => n,fun|n => n⟩
theorem Tryz.strCmp:Go.Proofs.Lays.n106 Tryz.prog Tryz.strCmp_ren:=by
 constructor
 all_goals first|(intros;kernel_rfl)|(constructor <;> intros <;> kernel_rfl)
def Tryz.jR:Go.Shelf.Ren:=⟨fun|156 => 58|167 => 62|165 => 104|166 => 22|169 => 30|240 => 57|241 => 158|276 => 103|277 => 209|n => n,fun|31 => 79|9 => 9|3 => 3|4 => 4|0 => 0|20 => 20|72 => 73|76 => 76|70 => 71|37 => 61|75 => 75|127 => 126|164 => 171|5 => 5|80 => 85|n => n,fun|n => n⟩
theorem Tryz.jL:Go.Proofs.Lays.n156 Tryz.prog Tryz.jR:=by
 constructor
 all_goals (intros;kernel_rfl)
theorem Tryz.bX:Builder.Extra Tryz.prog Tryz.jR:=by constructor <;> first|(intros;kernel_rfl)|decide|(constructor <;> first|(intros;kernel_rfl)|decide)
def Tryz.fR:Go.Shelf.Ren:=⟨fun|173 => 59|246 => 105|283 => 159|284 => 160|285 => 161|286 => 162|129 => 211|317 => 210|318 => 212|319 => 213|320 => 214|337 => 253|338 => 254|n => n,fun|2 => 2|3 => 3|9 => 9|4 => 4|171 => 218|0 => 0|53 => 219|37 => 61|5 => 5|173 => 222|212 => 262|51 => 263|20 => 20|213 => 264|46 => 228|232 => 318|233 => 319|n => n,fun|17 => 0|18 => 2|19 => 3|n => n⟩
theorem Tryz.fL:Go.Proofs.LaysM.n173 Tryz.prog Tryz.fR:=by constructor <;> first|(intros;kernel_rfl)|(constructor <;> intros <;> kernel_rfl)
theorem Tryz.bL:Go.Proofs.Lays.n167 Tryz.prog Tryz.jR:={ Tryz.jL,Tryz.bX with f167:=Tryz.func62.trans (congrArg some (by kernel_rfl)) }
theorem Tryz.writeByte(B b:Nat)(bs:List Value)(c:Int)(w:World)(h:Lib.IsBuilder 73 5 B b bs w)(f:bs.length+1≤140737488355328)(i:B≤w.heap.size) :
  Calls Tryz.prog 62 #[.pointer (some ⟨b,0,none⟩),.int .u8 c] w fun e w' => e= .returned .nilIface∧(Lib.BuilderAt 73 5 B b (.pointer (some ⟨b,0,none⟩)) (bs ++ [.int .u8 c]) w'∧RowKit.Below B w w'):=Any.Builder_WriteByte Tryz.bL Tryz.bX B b bs c w h f i
theorem Tryz.builderString(B b:Nat)(l:List UInt8)(w:World)(h:Lib.IsBuilder 73 5 B b (Lib.byteCells l) w)(c:B≤w.heap.size) :
  Calls Tryz.prog 30 #[.pointer (some ⟨b,0,none⟩)] w fun e w' => e= .returned (.string ⟨l.toArray⟩)∧RowKit.Below B w w' :=
 Any.Builder_String_any { Tryz.jL with } Tryz.bX B b l w h c
def Tryz.laysF20_ren:Go.Shelf.Ren:=⟨fun|20 => 219|n => n,fun|0 => 0|3 => 3|4 => 4|22 => 99|24 => 105|25 => 177|n => n,fun n => n⟩
theorem Tryz.laysF20:Go.Proofs.SlLaysF0.n20 Tryz.prog Tryz.laysF20_ren:=by
 constructor
 case f20 => exact ⟨_, (by kernel_rfl : (Tryz.f219.name == "runtime.NumGoroutine") = false), Tryz.func219.trans (congrArg some (by kernel_rfl))⟩
 all_goals first|(intros;kernel_rfl)|(constructor <;> intros <;> kernel_rfl)
end Go.Proofs
