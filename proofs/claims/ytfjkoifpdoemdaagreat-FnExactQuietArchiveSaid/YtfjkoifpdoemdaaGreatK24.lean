/-
  Part 24 of the proof; the last part states and proves the statement.
-/
import Derived.Test.YtfjkoifpdoemdaaGreatK10
import Derived.Shelf.SlSortCmp.WholeK
import Derived.Test.YtfjkoifpdoemdaaGreatK00
import Derived.Shelf.Small.Strs
set_option maxHeartbeats 8000000
set_option maxRecDepth 100000
set_option linter.unusedVariables false
set_option linter.unusedSimpArgs false
open Go.Value (int)
open Go.IntKind (i64)
namespace Go.Proofs.YtfjkoifpdoemdaaGreat
open Go.RowKit Go.Lib Go.Sort
def Dq(nm:ByteArray)(r:Ag):Bool:=decide (r.kind=1∧r.name=nm)
def Cb(recs:List Ag)(nm:ByteArray):Nat→Int
 |0 => -1
 |n+1 => if(recs[n]?).any (Dq nm)then(n:Int)else Cb recs nm n
theorem GV {recs:List Ag} {nm:ByteArray} {n:Nat}(h:n<recs.length)(hi:Dq nm recs[n] =true):Cb recs nm (n+1)=(n:Int):=by
 unfold Cb;rw[List.getElem?_eq_getElem h];simp[hi]
theorem Gl {recs:List Ag} {nm:ByteArray} {n:Nat}(h:n<recs.length)(hi:Dq nm recs[n] =false):Cb recs nm (n+1)=Cb recs nm n:=by
 rw[Cb,List.getElem?_eq_getElem h];simp[hi]
theorem KD(recs:List Ag)(nm:ByteArray)(k:Nat):∀n,Cb recs nm n=(k:Int)→∃h:k<recs.length,Dq nm recs[k] =true
 |0,h => by simp[Cb]at h
 |n+1,h => by
  unfold Cb at h;split at h
  ·rename_i hn
   have:n=k:=by omega
   subst this;cases e:recs[n]? with
   |none => rw[e]at hn;simp at hn
   |some r =>
    rw[e]at hn;obtain⟨h1,h2⟩:=List.getElem?_eq_some_iff.1 e;exact⟨h1,by rw[h2];simpa using hn⟩
  ·exact KD recs nm k n h
theorem Lr(v:Value)(ds:List Ag)(f:List Addr)(nm:ByteArray)(w:World)(h:rSl 9 Ac w f v ds) :
  Calls Tryz.prog 70 #[v,.string nm] w fun e w' => e= .returned (int i64 (Cb ds nm ds.length))∧w=w':=by
 obtain⟨A,c,rfl,hc,hm,hx⟩:=rSl.at_ Ac.fixed (by omega) h;have HX:=hid hx;clear hx h;go_enter Tryz.func70,Tryz.ntmps70
 go_wp2_with fail
 go_loop [5,6] (fun a i =>∃j:Nat,j≤ds.length∧i= int i64 j∧a= int i64 (Cb ds nm j)) (fun _ i => ds.length - (intOf i).toNat)
 case atStart => exact⟨0,by omega,rfl,rfl⟩
 case round =>
  obtain⟨j,hj,rfl,rfl⟩:=hrel;by_cases hlt:j<ds.length
  ·obtain⟨ad,b,o,cs,fk,rfl,hat⟩:=HX.out j hlt;have hpl:=hat.place;have hrd:=hat.reads;obtain⟨v0,v1,v2,f0,f1,f2,e,-⟩:=hrd;have hb0:=hat.lt;have c0:w.cell? ⟨b,o,none⟩=some (int i64 ds[j].kind):=by
    have:=hat.cell 0 (by rw[hat.len];omega);simpa [e]using this
   have c2:w.cell? ⟨b,o+2,none⟩=some (.string ds[j].name):=by
    have:=hat.cell 2 (by rw[hat.len];omega);simpa [e]using this
   clear hat e;have hdp:Dq nm ds[j] =decide (ds[j].kind =1∧ds[j].name =nm):=rfl;have HY:=hid (fun q => GV (nm:=nm) hlt q);have HN:=hid (fun q => Gl (nm:=nm) hlt q);have HDP:=hid hdp;clear hdp;by_cases q:ds[j].kind =1
   ·by_cases q2:ds[j].name =nm
    ·have h1:(ds[j].kind == 1)=true:=by simpa using q
     have h2:=Fr q2;have HI:=hid (HY.out (by rw[HDP.out];simp[q,q2]));clear q q2;go_wp2_with fail
     go_round
     case rel => exact⟨j+1,by omega,by go_num,by rw[HI.out]⟩
     case measure => simp[intOf];omega
    ·have h1:(ds[j].kind == 1)=true:=by simpa using q
     have h2:=DM q2;have HI:=hid (HN.out (by rw[HDP.out];simp[q,q2]));clear q q2;go_wp2_with fail
     go_round
     case rel => exact⟨j+1,by omega,by go_num,by rw[HI.out]⟩
     case measure => simp[intOf];omega
   ·have h1:(ds[j].kind == 1)=false:=by simpa using q
    have HI:=hid (HN.out (by rw[HDP.out];simp[q]));clear q;go_wp2_with fail
    go_round
    case rel => exact⟨j+1,by omega,by go_num,by rw[HI.out]⟩
    case measure => simp[intOf];omega
  ·have e1:j=ds.length:=by omega
   subst e1;go_wp2_with fail
   go_ret
   exact⟨rfl,rfl⟩
end Go.Proofs.YtfjkoifpdoemdaaGreat
namespace Go.Proofs
open Go.Shelf
def Tryz.sortRecs_ren:Go.Shelf.Ren:=⟨fun|6 => 222|15 => 278|14 => 277|28 => 309|29 => 310|20 => 299|21 => 302|22 => 303|23 => 304|24 => 305|25 => 306|26 => 307|27 => 308|46 => 319|47 => 320|48 => 321|49 => 322|50 => 323|57 => 327|n => n,fun|22 => 80|24 => 119|25 => 255|3 => 3|39 => 301|0 => 0|53 => 321|55 => 323|4 => 4|46 => 314|45 => 313|50 => 318|5 => 5|9 => 9|66 => 329|70 => 333|76 => 336|77 => 337|n => n,fun|n => n⟩
theorem Tryz.sortRecs:Go.Proofs.SlLaysF0.n6 Tryz.prog Tryz.sortRecs_ren:={
 mixed:=by kernel_rfl
 f6:=⟨Tryz.f222.name,by decide,Tryz.func222.trans (congrArg some (by kernel_rfl))⟩
 f14:=⟨Tryz.f277.name,by decide,Tryz.func277.trans (congrArg some (by kernel_rfl))⟩
 f15:=Tryz.func278.trans (congrArg some (by kernel_rfl))
 f20:=⟨Tryz.f299.name,by decide,Tryz.func299.trans (congrArg some (by kernel_rfl))⟩
 f21:=⟨Tryz.f302.name,by decide,Tryz.func302.trans (congrArg some (by kernel_rfl))⟩
 f22:=⟨Tryz.f303.name,by decide,Tryz.func303.trans (congrArg some (by kernel_rfl))⟩
 f23:=⟨Tryz.f304.name,by decide,Tryz.func304.trans (congrArg some (by kernel_rfl))⟩
 f24:=⟨Tryz.f305.name,by decide,Tryz.func305.trans (congrArg some (by kernel_rfl))⟩
 f25:=⟨Tryz.f306.name,by decide,Tryz.func306.trans (congrArg some (by kernel_rfl))⟩
 f26:=⟨Tryz.f307.name,by decide,Tryz.func307.trans (congrArg some (by kernel_rfl))⟩
 f27:=⟨Tryz.f308.name,by decide,Tryz.func308.trans (congrArg some (by kernel_rfl))⟩
 f28:=Tryz.func309.trans (congrArg some (by kernel_rfl))
 f29:=Tryz.func310.trans (congrArg some (by kernel_rfl))
 f46:=⟨Tryz.f319.name,by decide,Tryz.func319.trans (congrArg some (by kernel_rfl))⟩
 f47:=Tryz.func320.trans (congrArg some (by kernel_rfl))
 f48:=Tryz.func321.trans (congrArg some (by kernel_rfl))
 f49:=⟨Tryz.f322.name,by decide,Tryz.func322.trans (congrArg some (by kernel_rfl))⟩
 f50:=⟨Tryz.f323.name,by decide,Tryz.func323.trans (congrArg some (by kernel_rfl))⟩
 f57:=⟨Tryz.f327.name,by decide,Tryz.func327.trans (congrArg some (by kernel_rfl))⟩
 t0:=Tryz.underlying0
 a0:=Tryz.isAgg0
 z0:=Tryz.sizeOf0
 v0:=Tryz.zeroValue0
 t3:=Tryz.underlying3
 a3:=Tryz.isAgg3
 z3:=Tryz.sizeOf3
 v3:=Tryz.zeroValue3
 t4:=Tryz.underlying4
 a4:=Tryz.isAgg4
 z4:=Tryz.sizeOf4
 v4:=Tryz.zeroValue4
 t5:=Tryz.underlying5
 a5:=Tryz.isAgg5
 z5:=Tryz.sizeOf5
 v5:=Tryz.zeroValue5
 t9:=Tryz.underlying9
 a9:=Tryz.isAgg9
 z9:=Tryz.sizeOf9
 v9:=Tryz.zeroValue9
 t22:=Tryz.underlying80
 a22:=Tryz.isAgg80
 z22:=Tryz.sizeOf80
 v22:=Tryz.zeroValue80
 t25:=Tryz.underlying255
 a25:=Tryz.isAgg255
 z25:=Tryz.sizeOf255
 v25:=Tryz.zeroValue255
 t39:=Tryz.underlying301
 a39:=Tryz.isAgg301
 z39:=Tryz.sizeOf301
 v39:=Tryz.zeroValue301
 t45:=Tryz.underlying313
 a45:=Tryz.isAgg313
 z45:=Tryz.sizeOf313
 v45:=Tryz.zeroValue313
 t46:=Tryz.underlying314
 a46:=Tryz.isAgg314
 z46:=Tryz.sizeOf314
 v46:=Tryz.zeroValue314
 t50:=Tryz.underlying318
 a50:=Tryz.isAgg318
 z50:=Tryz.sizeOf318
 v50:=Tryz.zeroValue318
 t53:=Tryz.underlying321
 a53:=Tryz.isAgg321
 z53:=Tryz.sizeOf321
 v53:=Tryz.zeroValue321
 t55:=Tryz.underlying323
 a55:=Tryz.isAgg323
 z55:=Tryz.sizeOf323
 v55:=Tryz.zeroValue323
 t66:=Tryz.underlying329
 a66:=Tryz.isAgg329
 z66:=Tryz.sizeOf329
 v66:=Tryz.zeroValue329
 t70:=Tryz.underlying333
 a70:=Tryz.isAgg333
 z70:=Tryz.sizeOf333
 v70:=Tryz.zeroValue333
 t76:=Tryz.underlying336
 a76:=Tryz.isAgg336
 z76:=Tryz.sizeOf336
 v76:=Tryz.zeroValue336
 t77:=Tryz.underlying337
 a77:=Tryz.isAgg337
 z77:=Tryz.sizeOf337
 v77:=Tryz.zeroValue337 }
end Go.Proofs
namespace Go.Proofs
open Go.Shelf
def Tryz.strCmp_ren:Go.Shelf.Ren:=⟨fun|106 => 231|213 => 280|265 => 311|n => n,fun|9 => 9|3 => 3|n => n,fun|n => n⟩
theorem Tryz.strCmp:Go.Proofs.Lays.n106 Tryz.prog Tryz.strCmp_ren:={
 mixed:=by kernel_rfl
 f106:=Tryz.func231.trans (congrArg some (by kernel_rfl))
 f213:=Tryz.func280.trans (congrArg some (by kernel_rfl))
 f265:=Tryz.func311.trans (congrArg some (by kernel_rfl))
 t3:=Tryz.underlying3
 a3:=Tryz.isAgg3
 z3:=Tryz.sizeOf3
 v3:=Tryz.zeroValue3
 t9:=Tryz.underlying9
 a9:=Tryz.isAgg9
 z9:=Tryz.sizeOf9
 v9:=Tryz.zeroValue9 }
end Go.Proofs
