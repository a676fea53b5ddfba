/-
  FnExactTrueColumn: the statement, proved: for every argument the law answers true and leaves what was there as it was.
-/
import Derived.Test.YtfjkoifpdoemdaaGreatQ04
import Derived.Test.YtfjkoifpdoemdaaGreatR36
import Derived.Test.YtfjkoifpdoemdaaGreatQ01
import Derived.ProofKit
import Derived.OpenShut
import Derived.ShutString
import Derived.ChangeOld
import Derived.Below
set_option maxHeartbeats 8000000
set_option maxRecDepth 100000
set_option linter.unusedVariables false
set_option linter.unusedSimpArgs false
namespace Go.Proofs.YtfjkoifpdoemdaaGreat
open Go.RowKit Go.Lib Go.Sort
theorem lawTrueColumn_c (d:WorldD) (row:Int) (hrow:okI row) (cs:List Value) (f:List Addr) (w:World) (h:rWorld w f cs d) :
  Calls Tryz.prog 3 #[.agg cs.toArray,.int .i64 row] w fun e w' => e = .returned (.bool true) ∧ Below w.heap.size w w':=by
 have hrw:=h
 dsimp only [rWorld] at h
 obtain ⟨v0,v1,v2,f0,f1,f2,rfl,-,o0,o1,o2,o3,o4,o5,o6,o7,o8,o9,o10,r0,r1,r2⟩:=h
 obtain ⟨A0,c0,rfl,m0,m0'⟩:=rSl.head r0
 obtain ⟨A1,c1,rfl,m1,m1'⟩:=rSl.head r1
 obtain ⟨A2,c2,rfl,m2,m2'⟩:=rSl.head r2
 obtain ⟨nG,hnG⟩:∃ nG,d.groups.length = nG:=⟨_,rfl⟩
 obtain ⟨nO,hnO⟩:∃ nO,d.on.length = nO:=⟨_,rfl⟩
 obtain ⟨nT,hnT⟩:∃ nT,d.tapes.length = nT:=⟨_,rfl⟩
 rw [hnG] at r0 m0 ⊢
 rw [hnO] at r1 m1 ⊢
 rw [hnT] at r2 m2 ⊢
 rw [hnG,hnO,hnT] at hrw
 have HRW:=hid hrw
 have HNG:=hid hnG
 have HNO:=hid hnO
 have HNT:=hid hnT
 have hb1:Below w.heap.size w (w.alloc (.cells #[.int .i64 d.shape.groups,.int .i64 d.shape.column,.int .i64 d.shape.data,.int .i64 d.shape.spare,.int .i64 d.shape.rows,.int .i64 d.shape.cap,.int .i64 d.shape.batch,.int .i64 d.shape.queue,.int .i64 d.shape.stage,.slice A0 nG c0,.slice A1 nO c1,.slice A2 nT c2,.int .i64 d.writes,.int .i64 d.stop,.bool d.down] 28)):=(Below.refl _ _).alloc (Nat.le_refl _) _
 have hk1:Blk (w.alloc (.cells #[.int .i64 d.shape.groups,.int .i64 d.shape.column,.int .i64 d.shape.data,.int .i64 d.shape.spare,.int .i64 d.shape.rows,.int .i64 d.shape.cap,.int .i64 d.shape.batch,.int .i64 d.shape.queue,.int .i64 d.shape.stage,.slice A0 nG c0,.slice A1 nO c1,.slice A2 nT c2,.int .i64 d.writes,.int .i64 d.stop,.bool d.down] 28)) w.heap.size 28 #[.int .i64 d.shape.groups,.int .i64 d.shape.column,.int .i64 d.shape.data,.int .i64 d.shape.spare,.int .i64 d.shape.rows,.int .i64 d.shape.cap,.int .i64 d.shape.batch,.int .i64 d.shape.queue,.int .i64 d.shape.stage,.slice A0 nG c0,.slice A1 nO c1,.slice A2 nT c2,.int .i64 d.writes,.int .i64 d.stop,.bool d.down]:=Blk.new _ _ _
 have K1:=hid hk1
 have HB1:=hid hb1
 have R0:=hid (rSl.below (rSlice.local_ rDrive.local_) (rSlice.fixed rDrive.fixed) r0 hb1)
 have R1:=hid (rSl.below rInt.local_ rInt.fixed r1 hb1)
 have R2:=hid (rSl.below rTape.local_ rTape.fixed r2 hb1)
 clear hrw r0 r1 r2 hb1 hk1 hnG hnO hnT
 have K2:=K1
 have B2:=HB1
 have HRG:=hid (Blk.range K1.out 0 [.int .i64 d.shape.groups,.int .i64 d.shape.column,.int .i64 d.shape.data,.int .i64 d.shape.spare,.int .i64 d.shape.rows,.int .i64 d.shape.cap,.int .i64 d.shape.batch,.int .i64 d.shape.queue,.int .i64 d.shape.stage,.slice A0 nG c0,.slice A1 nO c1,.slice A2 nT c2,.int .i64 d.writes,.int .i64 d.stop,.bool d.down] rfl)
 have HSZ:=hid (szWorld_c d _ _ (w.alloc (.cells #[.int .i64 d.shape.groups,.int .i64 d.shape.column,.int .i64 d.shape.data,.int .i64 d.shape.spare,.int .i64 d.shape.rows,.int .i64 d.shape.cap,.int .i64 d.shape.batch,.int .i64 d.shape.queue,.int .i64 d.shape.stage,.slice A0 nG c0,.slice A1 nO c1,.slice A2 nT c2,.int .i64 d.writes,.int .i64 d.stop,.bool d.down] 28)) 1048576 (Repr.below rWorld.local_ rWorld.fixed HRW.out HB1.out) (by omega) (by omega))
 by_cases hsz:(1048576:Int) < (szWorldF d:Int)
 ·rw [leftF_t hsz] at HSZ
  clear hsz
  go_enter Tryz.func3,Tryz.ntmps3
  go_wp2_with (first
   | (refine wpList_load_mid rfl 28 _ rfl w.heap.size 0 rfl [.int .i64 d.shape.groups,.int .i64 d.shape.column,.int .i64 d.shape.data,.int .i64 d.shape.spare,.int .i64 d.shape.rows,.int .i64 d.shape.cap,.int .i64 d.shape.batch,.int .i64 d.shape.queue,.int .i64 d.shape.stage,.slice A0 nG c0,.slice A1 nO c1,.slice A2 nT c2,.int .i64 d.writes,.int .i64 d.stop,.bool d.down] _ HRG.out Tryz.underlying28 rfl (by kernel_rfl) ?_)
   | (go_at_call 8;refine HSZ.out.mono ?_;rintro e w3 ⟨rfl,b3⟩;have B3:=hid (B2.out.trans (b3.mono B2.out.size));clear b3))
  go_ret
  exact ⟨rfl,B3.out⟩
 ·rw [leftF_f hsz] at HSZ
  have hsz2:szWorldF d ≤ 1048576:=by omega
  have hlt:¬ (1048576:Int) - (szWorldF d:Int) < 0:=by omega
  have HTO:=hid (fun (W:World) (hW:Below w.heap.size w W) => toWorld_c d _ _ W (Repr.below rWorld.local_ rWorld.fixed HRW.out hW) hsz2)
  have HSP:=hid (fun (cs:List Value) (f:List Addr) (W:World) (hR:rWorld W f cs d) => specTrueColumn_c d row hrow cs f W hR)
  have HIM:=hid (fun (cs:List Value) (f:List Addr) (W:World) (hR:rWorld W f cs d) => implTrueColumn_c d row cs f W hR)
  have HEQ:=hid (fun (c1 c2:List Value) (f1 f2:List Addr) (W:World) (h1:rWorld W f1 c1 d) (h2:rWorld W f2 c2 d) => eqWorld_c d d c1 c2 f1 f2 W h1 h2)
  rw [decide_eq_true (rfl:d = d)] at HEQ
  obtain ⟨tb,htb⟩:∃ tb,tcB d row = tb:=⟨_,rfl⟩
  rw [htb] at HSP HIM
  obtain ⟨lf,hlf⟩:∃ lf,(1048576:Int) - (szWorldF d:Int) = lf:=⟨_,rfl⟩
  rw [hlf] at HSZ hlt
  have hbb:(tb != tb) = false:=by cases tb <;> rfl
  clear hsz hsz2 htb hlf
  go_enter Tryz.func3,Tryz.ntmps3
  go_wp2_with (refine wpList_load_mid rfl 28 _ rfl w.heap.size 0 rfl [.int .i64 d.shape.groups,.int .i64 d.shape.column,.int .i64 d.shape.data,.int .i64 d.shape.spare,.int .i64 d.shape.rows,.int .i64 d.shape.cap,.int .i64 d.shape.batch,.int .i64 d.shape.queue,.int .i64 d.shape.stage,.slice A0 nG c0,.slice A1 nO c1,.slice A2 nT c2,.int .i64 d.writes,.int .i64 d.stop,.bool d.down] _ HRG.out Tryz.underlying28 rfl (by kernel_rfl) ?_)
  refine HSZ.out.mono ?_
  rintro e w3 ⟨rfl,b3⟩
  have K3:=hid (K2.out.below b3 K2.out.lt)
  have B3:=hid (B2.out.trans (b3.mono B2.out.size))
  have z3:w.heap.size < w3.heap.size:=K3.out.lt
  have HR3:=hid (Blk.range K3.out 0 [.int .i64 d.shape.groups,.int .i64 d.shape.column,.int .i64 d.shape.data,.int .i64 d.shape.spare,.int .i64 d.shape.rows,.int .i64 d.shape.cap,.int .i64 d.shape.batch,.int .i64 d.shape.queue,.int .i64 d.shape.stage,.slice A0 nG c0,.slice A1 nO c1,.slice A2 nT c2,.int .i64 d.writes,.int .i64 d.stop,.bool d.down] rfl)
  clear b3
  go_wp2_with (refine wpList_load_mid rfl 28 _ rfl w.heap.size 0 rfl [.int .i64 d.shape.groups,.int .i64 d.shape.column,.int .i64 d.shape.data,.int .i64 d.shape.spare,.int .i64 d.shape.rows,.int .i64 d.shape.cap,.int .i64 d.shape.batch,.int .i64 d.shape.queue,.int .i64 d.shape.stage,.slice A0 nG c0,.slice A1 nO c1,.slice A2 nT c2,.int .i64 d.writes,.int .i64 d.stop,.bool d.down] _ HR3.out Tryz.underlying28 rfl (by kernel_rfl) ?_)
  refine (HTO.out _ B3.out).mono ?_
  rintro e w4 ⟨cs4,f4,rfl,r4,hf4,b4⟩
  have R4:=hid r4
  have K4:=hid (K3.out.below b4 K3.out.lt)
  have B4:=hid (B3.out.trans (b4.mono B3.out.size))
  have z4:w.heap.size < w4.heap.size:=K4.out.lt
  have HR4:=hid (Blk.range K4.out 0 [.int .i64 d.shape.groups,.int .i64 d.shape.column,.int .i64 d.shape.data,.int .i64 d.shape.spare,.int .i64 d.shape.rows,.int .i64 d.shape.cap,.int .i64 d.shape.batch,.int .i64 d.shape.queue,.int .i64 d.shape.stage,.slice A0 nG c0,.slice A1 nO c1,.slice A2 nT c2,.int .i64 d.writes,.int .i64 d.stop,.bool d.down] rfl)
  clear b4
  clear r4 hf4
  go_wp2_with fail
  refine (HSP.out _ _ _ R4.out).mono ?_
  rintro e w5 ⟨rfl,b5⟩
  have K5:=hid (K4.out.below b5 K4.out.lt)
  have B5:=hid (B4.out.trans (b5.mono B4.out.size))
  have z5:w.heap.size < w5.heap.size:=K5.out.lt
  have HR5:=hid (Blk.range K5.out 0 [.int .i64 d.shape.groups,.int .i64 d.shape.column,.int .i64 d.shape.data,.int .i64 d.shape.spare,.int .i64 d.shape.rows,.int .i64 d.shape.cap,.int .i64 d.shape.batch,.int .i64 d.shape.queue,.int .i64 d.shape.stage,.slice A0 nG c0,.slice A1 nO c1,.slice A2 nT c2,.int .i64 d.writes,.int .i64 d.stop,.bool d.down] rfl)
  clear b5
  clear R4
  go_wp2_with (refine wpList_load_mid rfl 28 _ rfl w.heap.size 0 rfl [.int .i64 d.shape.groups,.int .i64 d.shape.column,.int .i64 d.shape.data,.int .i64 d.shape.spare,.int .i64 d.shape.rows,.int .i64 d.shape.cap,.int .i64 d.shape.batch,.int .i64 d.shape.queue,.int .i64 d.shape.stage,.slice A0 nG c0,.slice A1 nO c1,.slice A2 nT c2,.int .i64 d.writes,.int .i64 d.stop,.bool d.down] _ HR5.out Tryz.underlying28 rfl (by kernel_rfl) ?_)
  refine (HTO.out _ B5.out).mono ?_
  rintro e w6 ⟨cs6,f6,rfl,r6,hf6,b6⟩
  have R6:=hid r6
  obtain ⟨x0,x1,x2,g0,g1,g2,e6,-⟩:=r6
  subst e6
  have K6:=hid (K5.out.below b6 K5.out.lt)
  have B6:=hid (B5.out.trans (b6.mono B5.out.size))
  have z6:w.heap.size < w6.heap.size:=K6.out.lt
  have HR6:=hid (Blk.range K6.out 0 [.int .i64 d.shape.groups,.int .i64 d.shape.column,.int .i64 d.shape.data,.int .i64 d.shape.spare,.int .i64 d.shape.rows,.int .i64 d.shape.cap,.int .i64 d.shape.batch,.int .i64 d.shape.queue,.int .i64 d.shape.stage,.slice A0 nG c0,.slice A1 nO c1,.slice A2 nT c2,.int .i64 d.writes,.int .i64 d.stop,.bool d.down] rfl)
  clear b6
  clear hf6
  have hb7:Below w6.heap.size w6 ((w6.alloc (.cells #[.int .i64 0,.int .i64 0,.int .i64 0,.int .i64 0,.int .i64 0,.int .i64 0,.int .i64 0,.int .i64 0,.int .i64 0,.slice none 0 0,.slice none 0 0,.slice none 0 0,.int .i64 0,.int .i64 0,.bool false] 35)).setCells w6.heap.size 0 [.int .i64 d.shape.groups,.int .i64 d.shape.column,.int .i64 d.shape.data,.int .i64 d.shape.spare,.int .i64 d.shape.rows,.int .i64 d.shape.cap,.int .i64 d.shape.batch,.int .i64 d.shape.queue,.int .i64 d.shape.stage,x0,x1,x2,.int .i64 d.writes,.int .i64 d.stop,.bool d.down]):=(boxed w6 35 #[.int .i64 0,.int .i64 0,.int .i64 0,.int .i64 0,.int .i64 0,.int .i64 0,.int .i64 0,.int .i64 0,.int .i64 0,.slice none 0 0,.slice none 0 0,.slice none 0 0,.int .i64 0,.int .i64 0,.bool false] [.int .i64 d.shape.groups,.int .i64 d.shape.column,.int .i64 d.shape.data,.int .i64 d.shape.spare,.int .i64 d.shape.rows,.int .i64 d.shape.cap,.int .i64 d.shape.batch,.int .i64 d.shape.queue,.int .i64 d.shape.stage,x0,x1,x2,.int .i64 d.writes,.int .i64 d.stop,.bool d.down] rfl).1
  have hk7:Blk ((w6.alloc (.cells #[.int .i64 0,.int .i64 0,.int .i64 0,.int .i64 0,.int .i64 0,.int .i64 0,.int .i64 0,.int .i64 0,.int .i64 0,.slice none 0 0,.slice none 0 0,.slice none 0 0,.int .i64 0,.int .i64 0,.bool false] 35)).setCells w6.heap.size 0 [.int .i64 d.shape.groups,.int .i64 d.shape.column,.int .i64 d.shape.data,.int .i64 d.shape.spare,.int .i64 d.shape.rows,.int .i64 d.shape.cap,.int .i64 d.shape.batch,.int .i64 d.shape.queue,.int .i64 d.shape.stage,x0,x1,x2,.int .i64 d.writes,.int .i64 d.stop,.bool d.down]) w6.heap.size 35 #[.int .i64 d.shape.groups,.int .i64 d.shape.column,.int .i64 d.shape.data,.int .i64 d.shape.spare,.int .i64 d.shape.rows,.int .i64 d.shape.cap,.int .i64 d.shape.batch,.int .i64 d.shape.queue,.int .i64 d.shape.stage,x0,x1,x2,.int .i64 d.writes,.int .i64 d.stop,.bool d.down]:=(boxed w6 35 #[.int .i64 0,.int .i64 0,.int .i64 0,.int .i64 0,.int .i64 0,.int .i64 0,.int .i64 0,.int .i64 0,.int .i64 0,.slice none 0 0,.slice none 0 0,.slice none 0 0,.int .i64 0,.int .i64 0,.bool false] [.int .i64 d.shape.groups,.int .i64 d.shape.column,.int .i64 d.shape.data,.int .i64 d.shape.spare,.int .i64 d.shape.rows,.int .i64 d.shape.cap,.int .i64 d.shape.batch,.int .i64 d.shape.queue,.int .i64 d.shape.stage,x0,x1,x2,.int .i64 d.writes,.int .i64 d.stop,.bool d.down] rfl).2
  have KX:=hid hk7
  have HTH:=hid (Blk.there (Blk.new w6 35 #[.int .i64 0,.int .i64 0,.int .i64 0,.int .i64 0,.int .i64 0,.int .i64 0,.int .i64 0,.int .i64 0,.int .i64 0,.slice none 0 0,.slice none 0 0,.slice none 0 0,.int .i64 0,.int .i64 0,.bool false]) 15 (by simp))
  have R7:=hid (Repr.below rWorld.local_ rWorld.fixed R6.out hb7)
  have B7:=hid (B6.out.trans (hb7.mono B6.out.size))
  have K7:=hid (K6.out.below hb7 K6.out.lt)
  have HON:=hid (show (#[.int .i64 d.shape.groups,.int .i64 d.shape.column,.int .i64 d.shape.data,.int .i64 d.shape.spare,.int .i64 d.shape.rows,.int .i64 d.shape.cap,.int .i64 d.shape.batch,.int .i64 d.shape.queue,.int .i64 d.shape.stage,x0,x1,x2,.int .i64 d.writes,.int .i64 d.stop,.bool d.down]:Array Value).all (·.oneCell') = true from all_oneCell_toArray (rWorld.ones _ _ _ _ R6.out))
  have HRX:=hid (Blk.range KX.out 0 [.int .i64 d.shape.groups,.int .i64 d.shape.column,.int .i64 d.shape.data,.int .i64 d.shape.spare,.int .i64 d.shape.rows,.int .i64 d.shape.cap,.int .i64 d.shape.batch,.int .i64 d.shape.queue,.int .i64 d.shape.stage,x0,x1,x2,.int .i64 d.writes,.int .i64 d.stop,.bool d.down] rfl)
  obtain ⟨w7,hw7⟩:∃ w7,(w6.alloc (.cells #[.int .i64 0,.int .i64 0,.int .i64 0,.int .i64 0,.int .i64 0,.int .i64 0,.int .i64 0,.int .i64 0,.int .i64 0,.slice none 0 0,.slice none 0 0,.slice none 0 0,.int .i64 0,.int .i64 0,.bool false] 35)).setCells w6.heap.size 0 [.int .i64 d.shape.groups,.int .i64 d.shape.column,.int .i64 d.shape.data,.int .i64 d.shape.spare,.int .i64 d.shape.rows,.int .i64 d.shape.cap,.int .i64 d.shape.batch,.int .i64 d.shape.queue,.int .i64 d.shape.stage,x0,x1,x2,.int .i64 d.writes,.int .i64 d.stop,.bool d.down] = w7:=⟨_,rfl⟩
  rw [hw7] at KX R7 B7 K7 HRX
  have HW7:=hid hw7
  have zx:w6.heap.size < w7.heap.size:=KX.out.lt
  clear hb7 hk7 hw7
  go_wp2_with (first
   | (refine wpList_store_mid rfl 35 _ _ rfl w6.heap.size 0 #[.int .i64 d.shape.groups,.int .i64 d.shape.column,.int .i64 d.shape.data,.int .i64 d.shape.spare,.int .i64 d.shape.rows,.int .i64 d.shape.cap,.int .i64 d.shape.batch,.int .i64 d.shape.queue,.int .i64 d.shape.stage,x0,x1,x2,.int .i64 d.writes,.int .i64 d.stop,.bool d.down] rfl rfl HTH.out (by kernel_rfl) HON.out ?_;rw [show (w6.alloc (.cells #[.int .i64 0,.int .i64 0,.int .i64 0,.int .i64 0,.int .i64 0,.int .i64 0,.int .i64 0,.int .i64 0,.int .i64 0,.slice none 0 0,.slice none 0 0,.slice none 0 0,.int .i64 0,.int .i64 0,.bool false] 35)).setCells w6.heap.size 0 (#[.int .i64 d.shape.groups,.int .i64 d.shape.column,.int .i64 d.shape.data,.int .i64 d.shape.spare,.int .i64 d.shape.rows,.int .i64 d.shape.cap,.int .i64 d.shape.batch,.int .i64 d.shape.queue,.int .i64 d.shape.stage,x0,x1,x2,.int .i64 d.writes,.int .i64 d.stop,.bool d.down]:Array Value).toList = w7 from HW7.out])
   | (refine wpList_load_mid rfl 35 _ rfl w6.heap.size 0 rfl [.int .i64 d.shape.groups,.int .i64 d.shape.column,.int .i64 d.shape.data,.int .i64 d.shape.spare,.int .i64 d.shape.rows,.int .i64 d.shape.cap,.int .i64 d.shape.batch,.int .i64 d.shape.queue,.int .i64 d.shape.stage,x0,x1,x2,.int .i64 d.writes,.int .i64 d.stop,.bool d.down] _ HRX.out Tryz.underlying35 rfl (by kernel_rfl) ?_))
  refine (HIM.out _ _ _ R7.out).mono ?_
  rintro e w8 ⟨rfl,b8⟩
  have KX8:=hid (KX.out.below b8 KX.out.lt)
  have R8:=hid (Repr.below rWorld.local_ rWorld.fixed R7.out b8)
  have K8:=hid (K7.out.below b8 K7.out.lt)
  have B8:=hid (B7.out.trans (b8.mono B7.out.size))
  have z8:w.heap.size < w8.heap.size:=K8.out.lt
  have HR8:=hid (Blk.range K8.out 0 [.int .i64 d.shape.groups,.int .i64 d.shape.column,.int .i64 d.shape.data,.int .i64 d.shape.spare,.int .i64 d.shape.rows,.int .i64 d.shape.cap,.int .i64 d.shape.batch,.int .i64 d.shape.queue,.int .i64 d.shape.stage,.slice A0 nG c0,.slice A1 nO c1,.slice A2 nT c2,.int .i64 d.writes,.int .i64 d.stop,.bool d.down] rfl)
  clear b8
  have zx8:w6.heap.size < w8.heap.size:=KX8.out.lt
  have p0:w8.cell? ⟨w.heap.size,0,none⟩ = some (.int .i64 d.shape.groups):=(Blk.cell K8.out 0).trans rfl
  have q0:w8.cell? ⟨w6.heap.size,0,none⟩ = some (.int .i64 d.shape.groups):=(Blk.cell KX8.out 0).trans rfl
  have p1:w8.cell? ⟨w.heap.size,1,none⟩ = some (.int .i64 d.shape.column):=(Blk.cell K8.out 1).trans rfl
  have q1:w8.cell? ⟨w6.heap.size,1,none⟩ = some (.int .i64 d.shape.column):=(Blk.cell KX8.out 1).trans rfl
  have p2:w8.cell? ⟨w.heap.size,2,none⟩ = some (.int .i64 d.shape.data):=(Blk.cell K8.out 2).trans rfl
  have q2:w8.cell? ⟨w6.heap.size,2,none⟩ = some (.int .i64 d.shape.data):=(Blk.cell KX8.out 2).trans rfl
  have p3:w8.cell? ⟨w.heap.size,3,none⟩ = some (.int .i64 d.shape.spare):=(Blk.cell K8.out 3).trans rfl
  have q3:w8.cell? ⟨w6.heap.size,3,none⟩ = some (.int .i64 d.shape.spare):=(Blk.cell KX8.out 3).trans rfl
  have p4:w8.cell? ⟨w.heap.size,4,none⟩ = some (.int .i64 d.shape.rows):=(Blk.cell K8.out 4).trans rfl
  have q4:w8.cell? ⟨w6.heap.size,4,none⟩ = some (.int .i64 d.shape.rows):=(Blk.cell KX8.out 4).trans rfl
  have p5:w8.cell? ⟨w.heap.size,5,none⟩ = some (.int .i64 d.shape.cap):=(Blk.cell K8.out 5).trans rfl
  have q5:w8.cell? ⟨w6.heap.size,5,none⟩ = some (.int .i64 d.shape.cap):=(Blk.cell KX8.out 5).trans rfl
  have p6:w8.cell? ⟨w.heap.size,6,none⟩ = some (.int .i64 d.shape.batch):=(Blk.cell K8.out 6).trans rfl
  have q6:w8.cell? ⟨w6.heap.size,6,none⟩ = some (.int .i64 d.shape.batch):=(Blk.cell KX8.out 6).trans rfl
  have p7:w8.cell? ⟨w.heap.size,7,none⟩ = some (.int .i64 d.shape.queue):=(Blk.cell K8.out 7).trans rfl
  have q7:w8.cell? ⟨w6.heap.size,7,none⟩ = some (.int .i64 d.shape.queue):=(Blk.cell KX8.out 7).trans rfl
  have p8:w8.cell? ⟨w.heap.size,8,none⟩ = some (.int .i64 d.shape.stage):=(Blk.cell K8.out 8).trans rfl
  have q8:w8.cell? ⟨w6.heap.size,8,none⟩ = some (.int .i64 d.shape.stage):=(Blk.cell KX8.out 8).trans rfl
  have p9:w8.cell? ⟨w.heap.size,9,none⟩ = some (.slice A0 nG c0):=(Blk.cell K8.out 9).trans rfl
  have q9:w8.cell? ⟨w6.heap.size,9,none⟩ = some (x0):=(Blk.cell KX8.out 9).trans rfl
  have p10:w8.cell? ⟨w.heap.size,10,none⟩ = some (.slice A1 nO c1):=(Blk.cell K8.out 10).trans rfl
  have q10:w8.cell? ⟨w6.heap.size,10,none⟩ = some (x1):=(Blk.cell KX8.out 10).trans rfl
  have p11:w8.cell? ⟨w.heap.size,11,none⟩ = some (.slice A2 nT c2):=(Blk.cell K8.out 11).trans rfl
  have q11:w8.cell? ⟨w6.heap.size,11,none⟩ = some (x2):=(Blk.cell KX8.out 11).trans rfl
  have p12:w8.cell? ⟨w.heap.size,12,none⟩ = some (.int .i64 d.writes):=(Blk.cell K8.out 12).trans rfl
  have q12:w8.cell? ⟨w6.heap.size,12,none⟩ = some (.int .i64 d.writes):=(Blk.cell KX8.out 12).trans rfl
  have p13:w8.cell? ⟨w.heap.size,13,none⟩ = some (.int .i64 d.stop):=(Blk.cell K8.out 13).trans rfl
  have q13:w8.cell? ⟨w6.heap.size,13,none⟩ = some (.int .i64 d.stop):=(Blk.cell KX8.out 13).trans rfl
  have p14:w8.cell? ⟨w.heap.size,14,none⟩ = some (.bool d.down):=(Blk.cell K8.out 14).trans rfl
  have q14:w8.cell? ⟨w6.heap.size,14,none⟩ = some (.bool d.down):=(Blk.cell KX8.out 14).trans rfl
  go_wp2_with fail
  go_region_law (first
   | (go_simp;go_at_call 10;refine (HTO.out _ (B8.out.trans (Below.mono (by repeat (with_reducible first | assumption | exact Below.refl _ _ | apply belowAlloc | apply belowDrew)) B8.out.size))).mono ?_;rintro e w9 ⟨cs9,f9,rfl,r9,hf9,b9⟩;have R9:=hid r9;have hb9:Below w8.heap.size w8 w9:=⟨b9.os,b9.tape,b9.output,b9.size,b9.block⟩;have HB9:=hid hb9;have q0':=(b9.cell (p:=⟨w6.heap.size,0,none⟩) zx8).trans q0;have q1':=(b9.cell (p:=⟨w6.heap.size,1,none⟩) zx8).trans q1;have q2':=(b9.cell (p:=⟨w6.heap.size,2,none⟩) zx8).trans q2;have q3':=(b9.cell (p:=⟨w6.heap.size,3,none⟩) zx8).trans q3;have q4':=(b9.cell (p:=⟨w6.heap.size,4,none⟩) zx8).trans q4;have q5':=(b9.cell (p:=⟨w6.heap.size,5,none⟩) zx8).trans q5;have q6':=(b9.cell (p:=⟨w6.heap.size,6,none⟩) zx8).trans q6;have q7':=(b9.cell (p:=⟨w6.heap.size,7,none⟩) zx8).trans q7;have q8':=(b9.cell (p:=⟨w6.heap.size,8,none⟩) zx8).trans q8;have q9':=(b9.cell (p:=⟨w6.heap.size,9,none⟩) zx8).trans q9;have q10':=(b9.cell (p:=⟨w6.heap.size,10,none⟩) zx8).trans q10;have q11':=(b9.cell (p:=⟨w6.heap.size,11,none⟩) zx8).trans q11;have q12':=(b9.cell (p:=⟨w6.heap.size,12,none⟩) zx8).trans q12;have q13':=(b9.cell (p:=⟨w6.heap.size,13,none⟩) zx8).trans q13;have q14':=(b9.cell (p:=⟨w6.heap.size,14,none⟩) zx8).trans q14;have zx9:w6.heap.size < w9.heap.size:=Nat.lt_of_lt_of_le zx8 b9.size;clear r9 hf9 b9 hb9)
   | (go_simp;go_at_call 12;refine (HEQ.out _ _ _ _ _ (Repr.below rWorld.local_ rWorld.fixed R8.out HB9.out) R9.out).mono ?_;rintro e w10 ⟨rfl,b10⟩;have hb10:Below w9.heap.size w9 w10:=⟨b10.os,b10.tape,b10.output,b10.size,b10.block⟩;have HB10:=hid hb10;clear b10 hb10))
  trace_state
  all_goals
   go_wp2_with fail
   go_ret
   exact ⟨rfl,B8.out.trans ((HB9.out.trans (HB10.out.mono HB9.out.size)).mono B8.out.size)⟩
end Go.Proofs.YtfjkoifpdoemdaaGreat
namespace Go.Proofs.YtfjkoifpdoemdaaGreat
open Go.RowKit Go.ChangeShapes Go.WideShapes
open Go.Lib (hid)
theorem cut2 (cs:List Value) (a0 a1:Value) (hl:cs.length = 2) (h0:(cs.drop 0).take 1 = [a0]) (h1:(cs.drop 1).take 1 = [a1]):cs = [a0,a1]:=by
 match cs,hl with
 | [c0,c1],_ => simp_all
theorem cut9 (cs:List Value) (a0 a1 a2 a3 a4 a5 a6 a7 a8:Value) (hl:cs.length = 9) (h0:(cs.drop 0).take 1 = [a0]) (h1:(cs.drop 1).take 1 = [a1]) (h2:(cs.drop 2).take 1 = [a2]) (h3:(cs.drop 3).take 1 = [a3]) (h4:(cs.drop 4).take 1 = [a4]) (h5:(cs.drop 5).take 1 = [a5]) (h6:(cs.drop 6).take 1 = [a6]) (h7:(cs.drop 7).take 1 = [a7]) (h8:(cs.drop 8).take 1 = [a8]):cs = [a0,a1,a2,a3,a4,a5,a6,a7,a8]:=by
 match cs,hl with
 | [c0,c1,c2,c3,c4,c5,c6,c7,c8],_ => simp_all
theorem cutW (cs:List Value) (a0 a1 a2 a3 a4 a5 a6 a7 a8 a9 a10 a11 a12 a13 a14:Value) (hl:cs.length = 15) (h0:(cs.drop 0).take 9 = [a0,a1,a2,a3,a4,a5,a6,a7,a8]) (h9:(cs.drop 9).take 1 = [a9]) (h10:(cs.drop 10).take 1 = [a10]) (h11:(cs.drop 11).take 1 = [a11]) (h12:(cs.drop 12).take 1 = [a12]) (h13:(cs.drop 13).take 1 = [a13]) (h14:(cs.drop 14).take 1 = [a14]):cs = [a0,a1,a2,a3,a4,a5,a6,a7,a8,a9,a10,a11,a12,a13,a14]:=by
 match cs,hl with
 | [c0,c1,c2,c3,c4,c5,c6,c7,c8,c9,c10,c11,c12,c13,c14],_ => simp_all
theorem opens_shapeD:Opens 23 rShape:=by
 intro H enc W base spare held fuel cs x h
 have hl:cs.length = 9:=(struct_length Tryz.underlying23 h).trans (by kernel_rfl)
 obtain ⟨_,d0,_,e0,l0⟩:=field_of Tryz.underlying23 h 0 _ rfl (opens_int Tryz.underlying2)
 obtain ⟨_,d1,_,e1,l1⟩:=field_of Tryz.underlying23 h 1 _ rfl (opens_int Tryz.underlying2)
 obtain ⟨_,d2,_,e2,l2⟩:=field_of Tryz.underlying23 h 2 _ rfl (opens_int Tryz.underlying2)
 obtain ⟨_,d3,_,e3,l3⟩:=field_of Tryz.underlying23 h 3 _ rfl (opens_int Tryz.underlying2)
 obtain ⟨_,d4,_,e4,l4⟩:=field_of Tryz.underlying23 h 4 _ rfl (opens_int Tryz.underlying2)
 obtain ⟨_,d5,_,e5,l5⟩:=field_of Tryz.underlying23 h 5 _ rfl (opens_int Tryz.underlying2)
 obtain ⟨_,d6,_,e6,l6⟩:=field_of Tryz.underlying23 h 6 _ rfl (opens_int Tryz.underlying2)
 obtain ⟨_,d7,_,e7,l7⟩:=field_of Tryz.underlying23 h 7 _ rfl (opens_int Tryz.underlying2)
 obtain ⟨_,d8,_,e8,l8⟩:=field_of Tryz.underlying23 h 8 _ rfl (opens_int Tryz.underlying2)
 exact ⟨[],⟨d0,d1,d2,d3,d4,d5,d6,d7,d8⟩,cut9 cs _ _ _ _ _ _ _ _ _ hl e0 e1 e2 e3 e4 e5 e6 e7 e8,rfl,l0,l1,l2,l3,l4,l5,l6,l7,l8⟩
theorem opens_ints:Opens 25 (rSlice 1 rInt):=opens_slice Tryz.underlying25 (by kernel_rfl) (opens_int Tryz.underlying2)
theorem opens_block:Opens 304 rBlock:=by
 intro H enc W base spare held fuel cs x h
 have hl:cs.length = 2:=(struct_length Tryz.underlying304 h).trans (by kernel_rfl)
 obtain ⟨_,d0,_,e0,l0⟩:=field_of Tryz.underlying304 h 0 _ rfl (opens_int Tryz.underlying2)
 obtain ⟨f1,d1,v,e1,hb⟩:=field_of Tryz.underlying304 h 1 _ rfl opens_bytes
 exact ⟨f1,⟨d0,d1⟩,v,f1,cut2 cs _ _ hl e0 e1,rfl,l0,hb⟩
theorem opens_blocks:Opens 188 (rSlice 2 rBlock):=opens_slice Tryz.underlying188 (by kernel_rfl) opens_block
theorem opens_drive:Opens 190 rDrive:=by
 intro H enc W base spare held fuel cs x h
 have hl:cs.length = 2:=(struct_length Tryz.underlying190 h).trans (by kernel_rfl)
 obtain ⟨_,d0,_,e0⟩:=field_of Tryz.underlying190 h 0 _ rfl (opens_bool Tryz.underlying4)
 obtain ⟨f1,d1,v,e1,hb⟩:=field_of Tryz.underlying190 h 1 _ rfl opens_blocks
 exact ⟨f1,⟨d0,d1⟩,v,f1,cut2 cs _ _ hl e0 e1,rfl,hb⟩
theorem opens_drives:Opens 131 (rSlice 2 rDrive):=opens_slice Tryz.underlying131 (by kernel_rfl) opens_drive
theorem opens_drivess:Opens 24 (rSlice 1 (rSlice 2 rDrive)):=opens_slice Tryz.underlying24 (by kernel_rfl) opens_drives
theorem opens_rec:Opens 268 rRec:=by
 intro H enc W base spare held fuel cs x h
 have hl:cs.length = 9:=(struct_length Tryz.underlying268 h).trans (by kernel_rfl)
 obtain ⟨_,d0,_,e0,l0⟩:=field_of Tryz.underlying268 h 0 _ rfl (opens_int Tryz.underlying2)
 obtain ⟨_,d1,_,e1,l1⟩:=field_of Tryz.underlying268 h 1 _ rfl (opens_int Tryz.underlying2)
 obtain ⟨_,d2,_,e2,l2⟩:=field_of Tryz.underlying268 h 2 _ rfl (opens_str Tryz.underlying9)
 obtain ⟨_,d3,_,e3,l3⟩:=field_of Tryz.underlying268 h 3 _ rfl (opens_int Tryz.underlying2)
 obtain ⟨_,d4,_,e4,l4⟩:=field_of Tryz.underlying268 h 4 _ rfl (opens_int Tryz.underlying2)
 obtain ⟨_,d5,_,e5,l5⟩:=field_of Tryz.underlying268 h 5 _ rfl (opens_int Tryz.underlying2)
 obtain ⟨f6,d6,v6,e6,h6⟩:=field_of Tryz.underlying268 h 6 _ rfl opens_ints
 obtain ⟨f7,d7,v7,e7,h7⟩:=field_of Tryz.underlying268 h 7 _ rfl opens_bytes
 obtain ⟨f8,d8,v8,e8,h8⟩:=field_of Tryz.underlying268 h 8 _ rfl opens_bytes
 exact ⟨f6 ++ (f7 ++ f8),⟨d0,d1,d2,d3,d4,d5,d6,d7,d8⟩,v6,v7,v8,f6,f7,f8,cut9 cs _ _ _ _ _ _ _ _ _ hl e0 e1 e2 e3 e4 e5 e6 e7 e8,rfl,l0,l1,l2,l3,l4,l5,h6,h7,h8⟩
theorem opens_recs:Opens 133 (rSlice 9 rRec):=opens_slice Tryz.underlying133 (by kernel_rfl) opens_rec
theorem opens_tape:Opens 135 rTape:=by
 intro H enc W base spare held fuel cs x h
 have hl:cs.length = 2:=(struct_length Tryz.underlying135 h).trans (by kernel_rfl)
 obtain ⟨_,d0,_,e0⟩:=field_of Tryz.underlying135 h 0 _ rfl (opens_bool Tryz.underlying4)
 obtain ⟨f1,d1,v,e1,hb⟩:=field_of Tryz.underlying135 h 1 _ rfl opens_recs
 exact ⟨f1,⟨d0,d1⟩,v,f1,cut2 cs _ _ hl e0 e1,rfl,hb⟩
theorem opens_tapes:Opens 26 (rSlice 2 rTape):=opens_slice Tryz.underlying26 (by kernel_rfl) opens_tape
theorem opens_world:Opens 28 rWorld:=by
 intro H enc W base spare held fuel cs x h
 have hl:cs.length = 15:=(struct_length Tryz.underlying28 h).trans (by kernel_rfl)
 obtain ⟨_,d0,e0,_,l0,l1,l2,l3,l4,l5,l6,l7,l8⟩:=field_of Tryz.underlying28 h 0 _ rfl opens_shapeD
 obtain ⟨f1,d1,v1,e1,h1⟩:=field_of Tryz.underlying28 h 1 _ rfl opens_drivess
 obtain ⟨f2,d2,v2,e2,h2⟩:=field_of Tryz.underlying28 h 2 _ rfl opens_ints
 obtain ⟨f3,d3,v3,e3,h3⟩:=field_of Tryz.underlying28 h 3 _ rfl opens_tapes
 obtain ⟨_,d4,_,e4,l9⟩:=field_of Tryz.underlying28 h 4 _ rfl (opens_int Tryz.underlying2)
 obtain ⟨_,d5,_,e5,l10⟩:=field_of Tryz.underlying28 h 5 _ rfl (opens_int Tryz.underlying2)
 obtain ⟨_,d6,_,e6⟩:=field_of Tryz.underlying28 h 6 _ rfl (opens_bool Tryz.underlying4)
 exact ⟨f1 ++ (f2 ++ f3),⟨d0,d1,d2,d3,d4,d5,d6⟩,v1,v2,v3,f1,f2,f3,cutW cs _ _ _ _ _ _ _ _ _ _ _ _ _ _ _ hl e0 e1 e2 e3 e4 e5 e6,rfl,l0,l1,l2,l3,l4,l5,l6,l7,l8,l9,l10,h1,h2,h3⟩
theorem lawTc_w {v:Value} {fs:List Addr} {d:WorldD} {row:Int} {W:World} (h:∃ cs:Array Value,v = .agg cs ∧ rWorld W fs cs.toList d) (hr:(Lit.int .i64 row).wf = true) :
  Calls Tryz.prog 3 #[v,.int .i64 row] W fun e w' => e = .returned (.bool true) ∧ Below W.heap.size W w':=by
 obtain ⟨⟨cs⟩,rfl,h⟩:=h
 exact lawTrueColumn_c d row (by simp [Lit.wf,IntKind.min,IntKind.max,IntKind.bits,IntKind.signed] at hr;exact ⟨by omega,by omega⟩) cs fs W h
end Go.Proofs.YtfjkoifpdoemdaaGreat
namespace Go.Proofs.YtfjkoifpdoemdaaGreat.fnExactTrueColumn
open Go.ChangeShapes Go.WideShapes Go.ChangeAt Go.RowKit
open Go.ChangeMaps (open_string shut_string)
set_option linter.unusedVariables false
theorem lifted (os:Os) (started:os.Started) (H:Type) (enc:TypeId × Value → H) :
  ReturnsInHanded {} Tryz.checked os 3 .any (Rows.fnExactTrueColumnSpec.pre6 enc Tryz.prog Tryz.f3 Rows.fnExactTrueColumnRow.domain false) (Rows.fnExactTrueColumnSpec.post enc Tryz.prog Tryz.f3 false true false false):=by
 refine returnsInHanded_of_change (C:=Tryz.checked) Tryz.own started (by kernel_rfl) Tryz.func3
  (ChangeSpec.witness6 (enc:=enc) (C:=Tryz.checked) false ⟨#[],#[.agg #[.int .i64 0,.int .i64 0,.int .i64 0,.int .i64 0,.int .i64 0,.int .i64 0,.int .i64 0,.int .i64 0,.int .i64 0,.slice none 0 0,.slice none 0 0,.slice none 0 0,.int .i64 0,.int .i64 0,.bool false],.int .i64 0],[]⟩ 8 (by kernel_rfl) (by kernel_rfl) (by kernel_rfl) (by kernel_rfl)) ?_
 intro W base args ds gs before hval0 hW hcnd _
 have hval:∀ (j:Nat) t v,Tryz.f3.params[j]? = some t → args[j]? = some v → Value.okWide Tryz.prog W .any base t v:=hval0
 have hW':=hW
 obtain ⟨p,q,hA0,hV,rfl,hfz,hnd⟩:=hW
 have hA:DataW.TrodAll enc Tryz.prog W 0 (fun _ => true) true Tryz.f3.params.toList args.toList ds p:=hA0
 rw [Tryz.params3] at hA hval
 obtain ⟨v0,vs0,d0,ds0,p0,q0,hargs,rfl,rfl,h0,r0⟩:=trodAll_cons hA
 obtain ⟨v1,vs1,d1,ds1,p1,q1,rfl,rfl,rfl,h1,r1⟩:=trodAll_cons r0
 obtain ⟨rfl,rfl,rfl⟩:=trodAll_nil r1
 obtain rfl:args = #[v0,v1]:=by cases args;simp_all
 obtain ⟨rfl,rfl⟩:=trodVars_none hV
 have k0:=h0
 have lt0:∀ x ∈ p0,x.block < W.heap.size:=by obtain ⟨m,hm⟩:=k0;exact DataW.trod_lt m _ _ _ hm
 have k1:=h1
 have lt1:∀ x ∈ p1,x.block < W.heap.size:=by obtain ⟨m,hm⟩:=k1;exact DataW.trod_lt m _ _ _ hm
 obtain ⟨fs0,x0,w0⟩:=arg_struct Tryz.underlying28 opens_world (hval 0 28 v0 rfl rfl) h0
 obtain ⟨x1,rfl,rfl,rfl,w1⟩:=open_int Tryz.underlying2 (hval 1 2 v1 rfl rfl) h1
 clear hA0 hval0
 refine (lawTc_w (W:=W) w0 w1).mono fun e W' ⟨he,bel⟩ => ?_
 subst he
 exact ⟨_,rfl,_,_,_,[],_,[],hW',trodAll_mk1 (shut_bool Tryz.underlying4 _),(trodAll_cons_mk (Below.trod Tryz.laidOut (by kernel_rfl) (of_decide_eq_true (by kernel_rfl)) k0 bel lt0) (trodAll_cons_mk (Below.trod Tryz.laidOut (by kernel_rfl) (of_decide_eq_true (by kernel_rfl)) k1 bel lt1) trodAll_mk0)),rfl,bel.frame _,fun h => by cases h⟩
theorem proved:Rows.FnExactTrueColumnSaid :=
 OpenClaim.holds_of_wide 3 Tryz.f3 rfl rfl rfl rfl rfl rfl rfl ⟨rfl,rfl,rfl,rfl,rfl⟩ rfl rfl rfl rfl rfl (by as_aux_lemma => kernel_rfl) Tryz.func3 (by as_aux_lemma => kernel_rfl)
  (of_decide_eq_true (by as_aux_lemma => kernel_rfl)) (by unfold Func.isWrapper;first | (rw [if_pos (by as_aux_lemma => decide +kernel)];as_aux_lemma => kernel_rfl) | (rw [if_neg (by as_aux_lemma => decide +kernel)];exact ⟨rfl,rfl⟩))
  (fun os started H enc _ => lifted os started H enc)
#print axioms proved
end Go.Proofs.YtfjkoifpdoemdaaGreat.fnExactTrueColumn
