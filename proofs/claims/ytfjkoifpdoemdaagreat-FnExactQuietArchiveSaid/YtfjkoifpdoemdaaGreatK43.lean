/-
  Part 43 of the proof; the last part states and proves the statement.
-/
import Derived.Test.YtfjkoifpdoemdaaGreatK02
import Derived.Test.YtfjkoifpdoemdaaGreatK05
import Derived.Test.YtfjkoifpdoemdaaGreatK42
set_option maxHeartbeats 8000000
set_option maxRecDepth 100000
set_option linter.unusedVariables false
set_option linter.unusedSimpArgs false
open Go.Value (int)
open Go.IntKind (i64)
namespace Go.Proofs.YtfjkoifpdoemdaaGreat
open Go.RowKit Go.Lib Go.Sort
theorem Lu(ka:Nat)(hka:ka=20)(zA:∀w,(Go.sizeOf 62).run Tryz.prog w= .ok ka w)(aA:∀w,(isAgg 62).run Tryz.prog w= .ok true w)(zL:∀w,(Go.sizeOf 53).run Tryz.prog w= .ok ka w)(aL:∀w,(isAgg 53).run Tryz.prog w= .ok true w)(d:AY)(cs:List Value)(f:List Addr)(w:World)(h:AE w f cs d) :
  Calls Tryz.prog 5 #[.agg cs.toArray] w fun e w' => e= .returned (.bool true)∧Below w.heap.size w w':=by
 have hlen:=h.next.2;have hB:Below w.heap.size w (w.alloc (.cells cs.toArray 53)):=Ah (Below.refl _ _) _;have K1:Blk (w.alloc (.cells cs.toArray 53)) w.heap.size 53 cs.toArray:=Blk.new w _ _;have h1:=Ap.below AE.local_ AE.fixed h hB;have HRW:=hid h;have HRG:=hid (Blk.rangeAll K1);have HI:=hid (show(Tryz.prog.info? 53).map (·.size)=some cs.length by rw[hlen];kernel_rfl);have HB:=hid hB;have HK:=hid K1;have HLEN:=hid hlen;have HSZ:=hid (Km d cs f _ 1048576 h1 (by omega) (by omega));have HKA:=hid hka;have hka0:¬ka=0:=by omega
 have hka1:0<ka:=by omega
 clear h h1 hlen hB K1 hka;by_cases hsz:(1048576:Int)<(CM d:Int)
 ·rw[AG hsz]at HSZ;clear hsz;go_enter Tryz.func5,Tryz.ntmps5
  go_wp2_with (first
   |(refine wpList_load_mid rfl 53 _ rfl w.heap.size 0 rfl cs _ HRG.out Tryz.underlying53 rfl HI.out ?_)
   |(go_at_call 19;refine HSZ.out.mono ?_;rintro e w3 ⟨rfl,b3⟩;have B3:=hid (HB.out.trans (b3.mono HB.out.size));clear b3))
  go_ret
  exact⟨rfl,B3.out⟩
 ·rw[AR hsz]at HSZ;have hsz2:CM d≤1048576:=by omega
  have hlt:¬(1048576:Int) - (CM d:Int)<0:=by omega
  have HTO:=hid (fun(W:World) (hW:Below w.heap.size w W) => Kp d _ _ W (Ap.below AE.local_ AE.fixed HRW.out hW) hsz2);have HSP:=hid (fun(cs:List Value) (f:List Addr) (W:World) (hR:AE W f cs d) => Gc d cs f W hR);have HIM:=hid (fun(cs:List Value) (f:List Addr) (W:World) (hR:AE W f cs d) => F4 d cs f W hR);have HEQ:=hid (fun(c1 c2:List Value) (f1 f2:List Addr) (W:World) (h1:AE W f1 c1 d) (h2:AE W f2 c2 d) => JY d d c1 c2 f1 f2 W h1 h2);rw[decide_eq_true (rfl:d=d)]at HEQ;obtain⟨tb,htb⟩:∃tb,EI d=tb:=⟨_,rfl⟩;rw[htb]at HSP HIM;obtain⟨lf,hlf⟩:∃lf,(1048576:Int) - (CM d:Int)=lf:=⟨_,rfl⟩;rw[hlf]at HSZ hlt;have hbb:(tb != tb)=false:=by cases tb <;> rfl
  clear hsz hsz2 htb hlf;go_enter Tryz.func5,Tryz.ntmps5
  go_wp2_with (refine wpList_load_mid rfl 53 _ rfl w.heap.size 0 rfl cs _ HRG.out Tryz.underlying53 rfl HI.out ?_)
  refine HSZ.out.mono ?_;rintro e w3 ⟨rfl,b3⟩;have K3:=hid (HK.out.below b3 HK.out.lt);have B3:=hid (HB.out.trans (b3.mono HB.out.size));have HR3:=hid (Blk.rangeAll K3.out);clear b3;go_wp2_with (refine wpList_load_mid rfl 53 _ rfl w.heap.size 0 rfl cs _ HR3.out Tryz.underlying53 rfl HI.out ?_)
  refine(HTO.out _ B3.out).mono ?_;rintro e w4 ⟨cs4,f4,rfl,r4,hf4,b4⟩;have R4:=hid r4;have K4:=hid (K3.out.below b4 K3.out.lt);have B4:=hid (B3.out.trans (b4.mono B3.out.size));clear r4 hf4 b4;go_wp2_with fail
  refine(HSP.out _ _ _ R4.out).mono ?_;rintro e w5 ⟨rfl,b5⟩;have K5:=hid (K4.out.below b5 K4.out.lt);have B5:=hid (B4.out.trans (b5.mono B4.out.size));have HR5:=hid (Blk.rangeAll K5.out);clear R4 b5;go_wp2_with (refine wpList_load_mid rfl 53 _ rfl w.heap.size 0 rfl cs _ HR5.out Tryz.underlying53 rfl HI.out ?_)
  refine(HTO.out _ B5.out).mono ?_;rintro e w6 ⟨cs6,f6,rfl,r6,hf6,b6⟩;have R6:=hid r6;have hlen6:=r6.next.2;have K6:=hid (K5.out.below b6 K5.out.lt);have B6:=hid (B5.out.trans (b6.mono B5.out.size));have HI6:=hid (show(Tryz.prog.info? 62).map (·.size)=some cs6.length by rw[hlen6];kernel_rfl);have HI62:=hid (show(Tryz.prog.info? 62).map (·.size)=some cs6.toArray.size by rw[List.size_toArray,hlen6];kernel_rfl);have HON:=hid (all_oneCell_toArray (AE.ones _ _ _ _ r6));obtain⟨Z,hZ⟩:∃Z:Array Value,#[int i64 0,int i64 0,int i64 0,int i64 0,int i64 0,int i64 0,int i64 0,int i64 0,int i64 0,.slice none 0 0,.slice none 0 0,.slice none 0 0,int i64 0,int i64 0,.bool false,.slice none 0 0,.slice none 0 0,.slice none 0 0,int i64 0,int i64 0] =Z:=⟨_,rfl⟩;have hZs:Z.size=20:=by rw[← hZ];rfl
  have KZ:=Blk.new w6 62 Z;have HTH:=hid (Blk.there KZ cs6.toArray.size (by rw[List.size_toArray,hlen6,hZs];exact Nat.le_refl _));obtain⟨w7,hw7⟩:∃w7,(w6.alloc (.cells Z 62)).setCells w6.heap.size 0 cs6.toArray.toList=w7:=⟨_,rfl⟩;have kx:Blk w7 w6.heap.size 62 cs6.toArray:=by rw[← hw7];exact Blk.laid KZ _ (by rw[hZs];exact hlen6.symm)
  have b67:Below w6.heap.size w6 w7:=by rw[← hw7];exact Aw (Ah (Below.refl _ _) _) _ 0 (Nat.le_refl _)
  have HW7:=hid hw7;have KX:=hid kx;have R7:=hid (Ap.below AE.local_ AE.fixed R6.out b67);have B7:=hid (B6.out.trans (b67.mono B6.out.size));have K7:=hid (K6.out.below b67 K6.out.lt);have HRX:=hid (Blk.rangeAll kx);have HL6:=hid hlen6;clear hf6 b6 r6 hlen6 hZs KZ hw7 kx b67;go_wp2_with (first
   |(refine wpList_store_mid rfl 62 _ _ rfl w6.heap.size 0 cs6.toArray rfl rfl HTH.out HI62.out HON.out ?_;rw[HW7.out])
   |(refine wpList_load_mid rfl 62 _ rfl w6.heap.size 0 rfl cs6 _ HRX.out Tryz.underlying62 rfl HI6.out ?_))
  refine(HIM.out _ _ _ R7.out).mono ?_;rintro e w8 ⟨rfl,b8⟩;have KX8:=hid (KX.out.below b8 KX.out.lt);have R8:=hid (Ap.below AE.local_ AE.fixed R7.out b8);have K8:=hid (K7.out.below b8 K7.out.lt);have B8:=hid (B7.out.trans (b8.mono B7.out.size));have HS:=hid (show∀W,Below w8.heap.size w8 W→(Sem.run Tryz.prog (loadCellsFrom ⟨w6.heap.size,0,none⟩ 0 ka #[]) W= .ok cs6.toArray W∧Sem.run Tryz.prog (loadCellsFrom ⟨w.heap.size,0,none⟩ 0 ka #[]) W= .ok cs.toArray W)from fun W hW => by
   have e1:=KX8.out.below hW KX8.out.lt;have e2:=K8.out.below hW K8.out.lt;refine⟨run_loadCellsFrom_list _ _ _ cs6 ka (by rw[HKA.out];exact HL6.out) (fun q v hq => ?_),run_loadCellsFrom_list _ _ _ cs ka (by rw[HKA.out];exact HLEN.out) (fun q v hq => ?_)⟩
   ·rw[Addr.add_lit,e1.cell,Nat.zero_add,List.getElem?_toArray];exact hq
   ·rw[Addr.add_lit,e2.cell,Nat.zero_add,List.getElem?_toArray];exact hq)
  have zx8:=KX8.out.lt;have z8:=K8.out.lt;clear b8 R7 R6 hZ;go_wp2_with fail
  go_region_held3 (fun W => Sem.run Tryz.prog (loadCellsFrom ⟨w6.heap.size,0,none⟩ 0 ka #[]) W= .ok cs6.toArray W∧Sem.run Tryz.prog (loadCellsFrom ⟨w.heap.size,0,none⟩ 0 ka #[]) W= .ok cs.toArray W)
   ((refine HS.out _ ?_;repeat(with_reducible first|assumption|exact Below.refl _ _|apply Ah|apply AL)))
   (first
    |(go_at_call 21;refine(HTO.out _ (B8.out.trans (Below.mono (by repeat(with_reducible first|assumption|exact Below.refl _ _|apply Ah|apply AL)) B8.out.size))).mono ?_;rintro e w9 ⟨cs9,f9,rfl,r9,hf9,b9⟩;have R9:=hid r9;have b89:=Below.viaQ (a:=w8) (by repeat(with_reducible first|assumption|exact Below.refl _ _|apply Ah|apply AL)) b9;have R89:=hid (Ap.below AE.local_ AE.fixed R8.out b89))
    |(go_at_call 23;refine(HEQ.out _ _ _ _ _ R89.out R9.out).mono ?_;rintro e w10 ⟨rfl,b10⟩;have b810:=Below.viaQ (a:=w8) b89 b10))
  all_goals
   go_wp2_with fail
   go_ret
   exact⟨rfl,B8.out.trans (b810.mono B8.out.size)⟩
theorem Lt(d:AY)(cs:List Value)(f:List Addr)(w:World)(h:AE w f cs d) :
  Calls Tryz.prog 5 #[.agg cs.toArray] w fun e w' => e= .returned (.bool true)∧Below w.heap.size w w' :=
 Lu 20 rfl Tryz.sizeOf62 Tryz.isAgg62 Tryz.sizeOf53 Tryz.isAgg53 d cs f w h
end Go.Proofs.YtfjkoifpdoemdaaGreat
