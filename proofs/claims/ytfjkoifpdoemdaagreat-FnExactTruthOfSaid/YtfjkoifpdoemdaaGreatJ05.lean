/- Part 5 of the proof. -/
import Derived.Test.YtfjkoifpdoemdaaGreatJ04
import Derived.Test.YtfjkoifpdoemdaaGreatJ01
import Derived.Shelf.Bytes.SlEqualAll
import Derived.Test.YtfjkoifpdoemdaaGreatProg
set_option maxHeartbeats 8000000
set_option maxRecDepth 100000
set_option linter.unusedVariables false
set_option linter.unusedSimpArgs false
open Go.Value (int)
open Go.IntKind (i64)
namespace Go.Proofs.YtfjkoifpdoemdaaGreat
open Go.RowKit Go.Sort
open Go.Lib (hid)
theorem Tryz.infoToInt:(Tryz.prog.info? 2).map (fun i =>(i.zero,i.size,i.bytes))=some (some (int i64 0),1,8):=by kernel_rfl
theorem Tryz.infoTotoRecS:(Tryz.prog.info? 119).map (fun i =>(i.zero,i.size,i.bytes))=some (some (.agg #[int i64 0,int i64 0,.string ⟨#[]⟩,int i64 0,int i64 0,int i64 0,.slice none 0 0,.slice none 0 0,.slice none 0 0]),9,128):=by kernel_rfl
theorem Tryz.infoTotoTapeS:(Tryz.prog.info? 139).map (fun i =>(i.zero,i.size,i.bytes))=some (some (.agg #[.bool false,.slice none 0 0]),2,32):=by kernel_rfl
end Go.Proofs.YtfjkoifpdoemdaaGreat
namespace Go.Proofs.YtfjkoifpdoemdaaGreat
open Go.RowKit Go.Lib Go.Sort
theorem RD(d:AX)(w:World) :
  Calls Tryz.prog 40 #[.agg #[int i64 d.g,int i64 d.c,int i64 d.data,int i64 d.p,int i64 d.rows,int i64 d.cap,int i64 d.b,int i64 d.q,int i64 d.t]] w fun e w' => e= .returned (.agg #[int i64 d.g,int i64 d.c,int i64 d.data,int i64 d.p,int i64 d.rows,int i64 d.cap,int i64 d.b,int i64 d.q,int i64 d.t])∧Below w.heap.size w w':=by
 have hB:Below w.heap.size w (((w.alloc (.cells #[int i64 d.g,int i64 d.c,int i64 d.data,int i64 d.p,int i64 d.rows,int i64 d.cap,int i64 d.b,int i64 d.q,int i64 d.t] 23)).alloc (.cells #[int i64 0,int i64 0,int i64 0,int i64 0,int i64 0,int i64 0,int i64 0,int i64 0,int i64 0] 31)).alloc (.cells #[int i64 d.g,int i64 d.c,int i64 d.data,int i64 d.p,int i64 d.rows,int i64 d.cap,int i64 d.b,int i64 d.q,int i64 d.t] 31)):=(((Below.refl _ _).alloc (Nat.le_refl _) _).alloc (by simp) _).alloc (by simp;omega) _;have K1:=hid (show Blk (((w.alloc (.cells #[int i64 d.g,int i64 d.c,int i64 d.data,int i64 d.p,int i64 d.rows,int i64 d.cap,int i64 d.b,int i64 d.q,int i64 d.t] 23)).alloc (.cells #[int i64 0,int i64 0,int i64 0,int i64 0,int i64 0,int i64 0,int i64 0,int i64 0,int i64 0] 31)).alloc (.cells #[int i64 d.g,int i64 d.c,int i64 d.data,int i64 d.p,int i64 d.rows,int i64 d.cap,int i64 d.b,int i64 d.q,int i64 d.t] 31)) (w.heap.size+1) 31 #[int i64 0,int i64 0,int i64 0,int i64 0,int i64 0,int i64 0,int i64 0,int i64 0,int i64 0]from(Blk.new1 w (.cells #[int i64 d.g,int i64 d.c,int i64 d.data,int i64 d.p,int i64 d.rows,int i64 d.cap,int i64 d.b,int i64 d.q,int i64 d.t] 23) 31 #[int i64 0,int i64 0,int i64 0,int i64 0,int i64 0,int i64 0,int i64 0,int i64 0,int i64 0]).alloc (.cells #[int i64 d.g,int i64 d.c,int i64 d.data,int i64 d.p,int i64 d.rows,int i64 d.cap,int i64 d.b,int i64 d.q,int i64 d.t] 31));have HTH:=hid (Blk.there K1.out 9 (by simp));have HRG:=hid (Blk.range (Blk.new2 w (.cells #[int i64 d.g,int i64 d.c,int i64 d.data,int i64 d.p,int i64 d.rows,int i64 d.cap,int i64 d.b,int i64 d.q,int i64 d.t] 23) (.cells #[int i64 0,int i64 0,int i64 0,int i64 0,int i64 0,int i64 0,int i64 0,int i64 0,int i64 0] 31) 31 #[int i64 d.g,int i64 d.c,int i64 d.data,int i64 d.p,int i64 d.rows,int i64 d.cap,int i64 d.b,int i64 d.q,int i64 d.t]) 0 [int i64 d.g,int i64 d.c,int i64 d.data,int i64 d.p,int i64 d.rows,int i64 d.cap,int i64 d.b,int i64 d.q,int i64 d.t] rfl);have HB:=hid hB;clear hB;go_enter Tryz.func40,Tryz.ntmps40
 go_wp2_with (first
  |(refine wpList_load_mid rfl 31 _ rfl (w.heap.size+1+1) 0 rfl [int i64 d.g,int i64 d.c,int i64 d.data,int i64 d.p,int i64 d.rows,int i64 d.cap,int i64 d.b,int i64 d.q,int i64 d.t] _ ?_ Tryz.underlying31 rfl (by kernel_rfl) ?_;(focus (exact HRG.out)))
  |(refine wpList_store_mid rfl 31 _ _ rfl (w.heap.size+1) 0 #[int i64 d.g,int i64 d.c,int i64 d.data,int i64 d.p,int i64 d.rows,int i64 d.cap,int i64 d.b,int i64 d.q,int i64 d.t] rfl rfl ?_ (by kernel_rfl) (by simp[Value.oneCell']) ?_;(focus (exact HTH.out))))
 have KF:=K1.out.laid [int i64 d.g,int i64 d.c,int i64 d.data,int i64 d.p,int i64 d.rows,int i64 d.cap,int i64 d.b,int i64 d.q,int i64 d.t] rfl;refine bodyPost_ret (results_cell_row rfl _ _ (w.heap.size+1) 31 #[int i64 d.g,int i64 d.c,int i64 d.data,int i64 d.p,int i64 d.rows,int i64 d.cap,int i64 d.b,int i64 d.q,int i64 d.t] (0,0) _ rfl KF Tryz.underlying31 rfl (by kernel_rfl)) rfl ?_;exact⟨rfl,Below.setCells_ _ _ _ _ (by omega) HB.out⟩
end Go.Proofs.YtfjkoifpdoemdaaGreat
namespace Go.Proofs
open Go.Shelf Go.RowKit
def Tryz.laysnb115_ren:Go.Shelf.Ren:=⟨fun|115 => 105|n => n,fun|4 => 4|9 => 9|37 => 39|5 => 5|n => n,fun n => n⟩
theorem Tryz.laysnb115:Go.Proofs.Lays.nb115 Tryz.prog Tryz.laysnb115_ren:={
 mixed:=by kernel_rfl
 f115:=Tryz.func105.trans (congrArg some (by kernel_rfl))
 t4:=Tryz.underlying4
 a4:=Tryz.isAgg4
 z4:=Tryz.sizeOf4
 v4:=Tryz.zeroValue4
 t9:=Tryz.underlying9
 a9:=Tryz.isAgg9
 z9:=Tryz.sizeOf9
 v9:=Tryz.zeroValue9
 t37:=Tryz.underlying39
 a37:=Tryz.isAgg39
 z37:=Tryz.sizeOf39
 v37:=Tryz.zeroValue39
 t5:=Tryz.underlying5
 a5:=Tryz.isAgg5
 z5:=Tryz.sizeOf5
 v5:=Tryz.zeroValue5 }
theorem Tryz.bytesEqual(p1 p2:Option Addr)(n c m d:Nat)(xs ys:List Int)(w:World)(hx:xs.length=n)(hy:ys.length=m)(h1:Lib.BytesIn w p1 n xs)(h2:Lib.BytesIn w p2 m ys) :
  Calls Tryz.prog 105 #[.slice p1 n c,.slice p2 m d] w fun e w' => e= .returned (.bool (Lib.bytesOf xs == Lib.bytesOf ys))∧w'=w:=Any.bytes_Equal_all Tryz.laysnb115 p1 p2 n c m d xs ys w hx hy h1 h2
end Go.Proofs
