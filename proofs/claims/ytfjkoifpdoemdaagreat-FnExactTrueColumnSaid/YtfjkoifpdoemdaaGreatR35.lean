/-
  Part 35 of the proof; the last part states and proves the statement.
-/
import Derived.Test.YtfjkoifpdoemdaaGreatR34
import Derived.Test.YtfjkoifpdoemdaaGreatR29
set_option maxHeartbeats 8000000
set_option maxRecDepth 100000
set_option linter.unusedVariables false
set_option linter.unusedSimpArgs false
namespace Go.Proofs.YtfjkoifpdoemdaaGreat
open Go.RowKit Go.Lib Go.Sort
theorem implWorldFault_c (d:WorldD) (cs:List Value) (f:List Addr) (w:World) (h:rWorld w f cs d) :
  Calls Tryz.prog 44 #[.agg cs.toArray] w fun e w' => e = .returned (.int .i64 (worldCode d)) ∧ Below w.heap.size w w':=by
 have hrw:=h
 dsimp only [rWorld] at h
 obtain ⟨v0,v1,v2,f0,f1,f2,rfl,-,o0,o1,o2,o3,o4,o5,o6,o7,o8,o9,o10,r0,r1,r2⟩:=h
 obtain ⟨A0,c0,rfl,m0,m0'⟩:=rSl.head r0
 obtain ⟨A1,c1,rfl,m1,m1'⟩:=rSl.head r1
 obtain ⟨A2,c2,rfl,m2,m2'⟩:=rSl.head r2
 obtain ⟨nG,hnG⟩:∃ nG,d.groups.length = nG:=⟨_,rfl⟩
 obtain ⟨nO,hnO⟩:∃ nO,d.on.length = nO:=⟨_,rfl⟩
 obtain ⟨nT,hnT⟩:∃ nT,d.tapes.length = nT:=⟨_,rfl⟩
 rw [hnG] at r0 m0 ⊢
 rw [hnO] at r1 m1 ⊢
 rw [hnT] at r2 m2 ⊢
 rw [hnG,hnO,hnT] at hrw
 have HRW:=hid hrw
 have HNG:=hid hnG
 have HNO:=hid hnO
 have HNT:=hid hnT
 have hb1:Below w.heap.size w (w.alloc (.cells #[.int .i64 d.shape.groups,.int .i64 d.shape.column,.int .i64 d.shape.data,.int .i64 d.shape.spare,.int .i64 d.shape.rows,.int .i64 d.shape.cap,.int .i64 d.shape.batch,.int .i64 d.shape.queue,.int .i64 d.shape.stage,.slice A0 nG c0,.slice A1 nO c1,.slice A2 nT c2,.int .i64 d.writes,.int .i64 d.stop,.bool d.down] 35)):=(Below.refl _ _).alloc (Nat.le_refl _) _
 have hk1:Blk (w.alloc (.cells #[.int .i64 d.shape.groups,.int .i64 d.shape.column,.int .i64 d.shape.data,.int .i64 d.shape.spare,.int .i64 d.shape.rows,.int .i64 d.shape.cap,.int .i64 d.shape.batch,.int .i64 d.shape.queue,.int .i64 d.shape.stage,.slice A0 nG c0,.slice A1 nO c1,.slice A2 nT c2,.int .i64 d.writes,.int .i64 d.stop,.bool d.down] 35)) w.heap.size 35 #[.int .i64 d.shape.groups,.int .i64 d.shape.column,.int .i64 d.shape.data,.int .i64 d.shape.spare,.int .i64 d.shape.rows,.int .i64 d.shape.cap,.int .i64 d.shape.batch,.int .i64 d.shape.queue,.int .i64 d.shape.stage,.slice A0 nG c0,.slice A1 nO c1,.slice A2 nT c2,.int .i64 d.writes,.int .i64 d.stop,.bool d.down]:=Blk.new _ _ _
 have K1:=hid hk1
 have HB1:=hid hb1
 have R0:=hid (rSl.below (rSlice.local_ rDrive.local_) (rSlice.fixed rDrive.fixed) r0 hb1)
 have R1:=hid (rSl.below rInt.local_ rInt.fixed r1 hb1)
 have R2:=hid (rSl.below rTape.local_ rTape.fixed r2 hb1)
 clear hrw r0 r1 r2 hb1 hk1 hnG hnO hnT
 have K2:=K1
 have B2:=HB1
 obtain ⟨r,hr⟩:∃ r,worldCode d = r:=⟨_,rfl⟩
 rw [hr]
 have HRV:=hid hr
 have HSF:=hid (implShapeFault_c d.shape.sh (w.alloc (.cells #[.int .i64 d.shape.groups,.int .i64 d.shape.column,.int .i64 d.shape.data,.int .i64 d.shape.spare,.int .i64 d.shape.rows,.int .i64 d.shape.cap,.int .i64 d.shape.batch,.int .i64 d.shape.queue,.int .i64 d.shape.stage,.slice A0 nG c0,.slice A1 nO c1,.slice A2 nT c2,.int .i64 d.writes,.int .i64 d.stop,.bool d.down] 35)))
 have HRS:=hid (Blk.range K1.out 0 [.int .i64 d.shape.groups,.int .i64 d.shape.column,.int .i64 d.shape.data,.int .i64 d.shape.spare,.int .i64 d.shape.rows,.int .i64 d.shape.cap,.int .i64 d.shape.batch,.int .i64 d.shape.queue,.int .i64 d.shape.stage] rfl)
 have HIW:=hid (fun (W:World) => inside_c d.writes 0 1000000000 W)
 have HIS:=hid (fun (W:World) => inside_c d.stop (-1) 1000000000 W)
 clear hr
 cases hsb:shB d.shape.sh with
 | false =>
  rw [shCode_no hsb] at HSF
  have e1:r = 3:=by rw [← HRV.out];exact worldCode_shape hsb
  subst e1
  unfold shV at HSF
  clear hsb
  go_enter Tryz.func44,Tryz.ntmps44
  go_wp2_with (refine wpList_load_mid rfl 31 _ rfl w.heap.size 0 rfl [.int .i64 d.shape.groups,.int .i64 d.shape.column,.int .i64 d.shape.data,.int .i64 d.shape.spare,.int .i64 d.shape.rows,.int .i64 d.shape.cap,.int .i64 d.shape.batch,.int .i64 d.shape.queue,.int .i64 d.shape.stage] _ HRS.out Tryz.underlying31 rfl (by kernel_rfl) ?_)
  refine HSF.out.mono ?_
  rintro e w3 ⟨rfl,b3⟩
  have K3:=hid (K2.out.below b3 K2.out.lt)
  have B3:=hid (B2.out.trans (b3.mono B2.out.size))
  have z3:w.heap.size < w3.heap.size:=K3.out.lt
  have HR3:=hid (Blk.range K3.out 0 [.int .i64 d.shape.groups,.int .i64 d.shape.column,.int .i64 d.shape.data,.int .i64 d.shape.spare,.int .i64 d.shape.rows,.int .i64 d.shape.cap,.int .i64 d.shape.batch,.int .i64 d.shape.queue,.int .i64 d.shape.stage,.slice A0 nG c0,.slice A1 nO c1,.slice A2 nT c2,.int .i64 d.writes,.int .i64 d.stop,.bool d.down] rfl)
  clear b3
  go_wp2_with fail
  go_ret
  exact ⟨rfl,B3.out⟩
 | true =>
  rw [shCode_yes hsb] at HSF
  have hs:=shB_ok hsb
  have HGR:=hid (fun (W:World) (hW:Below w.heap.size w W) => groupsOK_c d hs _ _ W (Repr.below rWorld.local_ rWorld.fixed HRW.out hW))
  have HON:=hid (fun (W:World) (hW:Below w.heap.size w W) => onOK_c d hs _ _ W (Repr.below rWorld.local_ rWorld.fixed HRW.out hW))
  have HTF:=hid (fun (W:World) (hW:Below w.heap.size w W) => tapesFault_c d hsb _ _ W (Repr.below rWorld.local_ rWorld.fixed HRW.out hW))
  have HFORM:=hid (fun h2 => HRV.out.symm.trans (worldCode_form (d:=d) hsb h2))
  have HTAP:=hid (fun h2 h3 => HRV.out.symm.trans (worldCode_tapes (d:=d) hsb h2 h3))
  have HEND:=hid (fun h2 h3 => HRV.out.symm.trans (worldCode_end (d:=d) hsb h2 h3))
  unfold shV at HSF
  obtain ⟨gb,hgb⟩:∃ gb,builtB d.shape.sh d.groups = gb:=⟨_,rfl⟩
  obtain ⟨ob,hob⟩:∃ ob,onB d.shape.sh d.on d.down = ob:=⟨_,rfl⟩
  obtain ⟨tc,htc⟩:∃ tc,tapesCode d.shape.sh d.tapes = tc:=⟨_,rfl⟩
  rw [hgb] at HGR HFORM HTAP HEND
  rw [hob] at HON HFORM HTAP HEND
  rw [htc] at HTF HTAP HEND
  rw [HNT.out] at HFORM HTAP HEND
  clear hsb hs hgb hob htc
  go_enter Tryz.func44,Tryz.ntmps44
  go_wp2_with (refine wpList_load_mid rfl 31 _ rfl w.heap.size 0 rfl [.int .i64 d.shape.groups,.int .i64 d.shape.column,.int .i64 d.shape.data,.int .i64 d.shape.spare,.int .i64 d.shape.rows,.int .i64 d.shape.cap,.int .i64 d.shape.batch,.int .i64 d.shape.queue,.int .i64 d.shape.stage] _ HRS.out Tryz.underlying31 rfl (by kernel_rfl) ?_)
  refine HSF.out.mono ?_
  rintro e w3 ⟨rfl,b3⟩
  have K3:=hid (K2.out.below b3 K2.out.lt)
  have B3:=hid (B2.out.trans (b3.mono B2.out.size))
  have z3:w.heap.size < w3.heap.size:=K3.out.lt
  have HR3:=hid (Blk.range K3.out 0 [.int .i64 d.shape.groups,.int .i64 d.shape.column,.int .i64 d.shape.data,.int .i64 d.shape.spare,.int .i64 d.shape.rows,.int .i64 d.shape.cap,.int .i64 d.shape.batch,.int .i64 d.shape.queue,.int .i64 d.shape.stage,.slice A0 nG c0,.slice A1 nO c1,.slice A2 nT c2,.int .i64 d.writes,.int .i64 d.stop,.bool d.down] rfl)
  clear b3
  go_wp2_with (refine wpList_load_mid rfl 35 _ rfl w.heap.size 0 rfl [.int .i64 d.shape.groups,.int .i64 d.shape.column,.int .i64 d.shape.data,.int .i64 d.shape.spare,.int .i64 d.shape.rows,.int .i64 d.shape.cap,.int .i64 d.shape.batch,.int .i64 d.shape.queue,.int .i64 d.shape.stage,.slice A0 nG c0,.slice A1 nO c1,.slice A2 nT c2,.int .i64 d.writes,.int .i64 d.stop,.bool d.down] _ HR3.out Tryz.underlying35 rfl (by kernel_rfl) ?_)
  refine (HGR.out _ B3.out).mono ?_
  rintro e w4 ⟨rfl,b4⟩
  have K4:=hid (K3.out.below b4 K3.out.lt)
  have B4:=hid (B3.out.trans (b4.mono B3.out.size))
  have z4:w.heap.size < w4.heap.size:=K4.out.lt
  have HR4:=hid (Blk.range K4.out 0 [.int .i64 d.shape.groups,.int .i64 d.shape.column,.int .i64 d.shape.data,.int .i64 d.shape.spare,.int .i64 d.shape.rows,.int .i64 d.shape.cap,.int .i64 d.shape.batch,.int .i64 d.shape.queue,.int .i64 d.shape.stage,.slice A0 nG c0,.slice A1 nO c1,.slice A2 nT c2,.int .i64 d.writes,.int .i64 d.stop,.bool d.down] rfl)
  clear b4
  have p0:w4.cell? ⟨w.heap.size,0,none⟩ = some (.int .i64 d.shape.groups):=(Blk.cell K4.out 0).trans rfl
  have p1:w4.cell? ⟨w.heap.size,1,none⟩ = some (.int .i64 d.shape.column):=(Blk.cell K4.out 1).trans rfl
  have p2:w4.cell? ⟨w.heap.size,2,none⟩ = some (.int .i64 d.shape.data):=(Blk.cell K4.out 2).trans rfl
  have p3:w4.cell? ⟨w.heap.size,3,none⟩ = some (.int .i64 d.shape.spare):=(Blk.cell K4.out 3).trans rfl
  have p4:w4.cell? ⟨w.heap.size,4,none⟩ = some (.int .i64 d.shape.rows):=(Blk.cell K4.out 4).trans rfl
  have p5:w4.cell? ⟨w.heap.size,5,none⟩ = some (.int .i64 d.shape.cap):=(Blk.cell K4.out 5).trans rfl
  have p6:w4.cell? ⟨w.heap.size,6,none⟩ = some (.int .i64 d.shape.batch):=(Blk.cell K4.out 6).trans rfl
  have p7:w4.cell? ⟨w.heap.size,7,none⟩ = some (.int .i64 d.shape.queue):=(Blk.cell K4.out 7).trans rfl
  have p8:w4.cell? ⟨w.heap.size,8,none⟩ = some (.int .i64 d.shape.stage):=(Blk.cell K4.out 8).trans rfl
  have p9:w4.cell? ⟨w.heap.size,9,none⟩ = some (.slice A0 nG c0):=(Blk.cell K4.out 9).trans rfl
  have p10:w4.cell? ⟨w.heap.size,10,none⟩ = some (.slice A1 nO c1):=(Blk.cell K4.out 10).trans rfl
  have p11:w4.cell? ⟨w.heap.size,11,none⟩ = some (.slice A2 nT c2):=(Blk.cell K4.out 11).trans rfl
  have p12:w4.cell? ⟨w.heap.size,12,none⟩ = some (.int .i64 d.writes):=(Blk.cell K4.out 12).trans rfl
  have p13:w4.cell? ⟨w.heap.size,13,none⟩ = some (.int .i64 d.stop):=(Blk.cell K4.out 13).trans rfl
  have p14:w4.cell? ⟨w.heap.size,14,none⟩ = some (.bool d.down):=(Blk.cell K4.out 14).trans rfl
  cases gb with
  | false =>
   have e1:r = 1:=HFORM.out rfl
   subst e1
   go_wp2_with fail
   go_ret
   exact ⟨rfl,B4.out⟩
  | true =>
   go_wp2_with (refine wpList_load_mid rfl 35 _ rfl w.heap.size 0 rfl [.int .i64 d.shape.groups,.int .i64 d.shape.column,.int .i64 d.shape.data,.int .i64 d.shape.spare,.int .i64 d.shape.rows,.int .i64 d.shape.cap,.int .i64 d.shape.batch,.int .i64 d.shape.queue,.int .i64 d.shape.stage,.slice A0 nG c0,.slice A1 nO c1,.slice A2 nT c2,.int .i64 d.writes,.int .i64 d.stop,.bool d.down] _ HR4.out Tryz.underlying35 rfl (by kernel_rfl) ?_)
   refine (HON.out _ B4.out).mono ?_
   rintro e w5 ⟨rfl,b5⟩
   have K5:=hid (K4.out.below b5 K4.out.lt)
   have B5:=hid (B4.out.trans (b5.mono B4.out.size))
   have z5:w.heap.size < w5.heap.size:=K5.out.lt
   have HR5:=hid (Blk.range K5.out 0 [.int .i64 d.shape.groups,.int .i64 d.shape.column,.int .i64 d.shape.data,.int .i64 d.shape.spare,.int .i64 d.shape.rows,.int .i64 d.shape.cap,.int .i64 d.shape.batch,.int .i64 d.shape.queue,.int .i64 d.shape.stage,.slice A0 nG c0,.slice A1 nO c1,.slice A2 nT c2,.int .i64 d.writes,.int .i64 d.stop,.bool d.down] rfl)
   clear b5
   clear p0 p1 p2 p3 p4 p5 p6 p7 p8 p9 p10 p11 p12 p13 p14
   have p11:w5.cell? ⟨w.heap.size,11,none⟩ = some (.slice A2 nT c2):=(Blk.cell K5.out 11).trans rfl
   cases ob with
   | false =>
    have e1:r = 1:=HFORM.out rfl
    subst e1
    go_wp2_with fail
    go_ret
    exact ⟨rfl,B5.out⟩
   | true =>
    by_cases h2:nT = 2
    ·have hn2:((nT:Int) != 2) = false:=bneI_f (by omega)
     have hall:(true && (true && decide (nT = 2))) = true:=by rw [decide_eq_true h2];rfl
     have HTAP2:=hid (HTAP.out hall)
     have HEND2:=hid (HEND.out hall)
     clear h2 hall HTAP HEND HFORM
     go_wp2_with (refine wpList_load_mid rfl 35 _ rfl w.heap.size 0 rfl [.int .i64 d.shape.groups,.int .i64 d.shape.column,.int .i64 d.shape.data,.int .i64 d.shape.spare,.int .i64 d.shape.rows,.int .i64 d.shape.cap,.int .i64 d.shape.batch,.int .i64 d.shape.queue,.int .i64 d.shape.stage,.slice A0 nG c0,.slice A1 nO c1,.slice A2 nT c2,.int .i64 d.writes,.int .i64 d.stop,.bool d.down] _ HR5.out Tryz.underlying35 rfl (by kernel_rfl) ?_)
     refine (HTF.out _ B5.out).mono ?_
     rintro e w6 ⟨rfl,b6⟩
     have K6:=hid (K5.out.below b6 K5.out.lt)
     have B6:=hid (B5.out.trans (b6.mono B5.out.size))
     have z6:w.heap.size < w6.heap.size:=K6.out.lt
     have HR6:=hid (Blk.range K6.out 0 [.int .i64 d.shape.groups,.int .i64 d.shape.column,.int .i64 d.shape.data,.int .i64 d.shape.spare,.int .i64 d.shape.rows,.int .i64 d.shape.cap,.int .i64 d.shape.batch,.int .i64 d.shape.queue,.int .i64 d.shape.stage,.slice A0 nG c0,.slice A1 nO c1,.slice A2 nT c2,.int .i64 d.writes,.int .i64 d.stop,.bool d.down] rfl)
     clear b6
     clear p11
     have p12:w6.cell? ⟨w.heap.size,12,none⟩ = some (.int .i64 d.writes):=(Blk.cell K6.out 12).trans rfl
     have p13:w6.cell? ⟨w.heap.size,13,none⟩ = some (.int .i64 d.stop):=(Blk.cell K6.out 13).trans rfl
     by_cases h3:tc = 0
     ·have HEND3:=hid (HEND2.out h3)
      subst h3
      cases hw:insB d.writes 0 1000000000 with
      | false =>
       rw [hw] at HIW HEND3
       have e1:r = 3:=HEND3.out.trans rfl
       subst e1
       clear hw
       go_wp2_with (first | (go_at_call_has 100 d.writes;refine (HIW.out _).mono ?_;rintro e w' ⟨rfl,rfl⟩) | (go_at_call_has 100 d.stop;refine (HIS.out _).mono ?_;rintro e w' ⟨rfl,rfl⟩))
       go_ret
       exact ⟨rfl,B6.out⟩
      | true =>
       rw [hw] at HIW HEND3
       clear hw
       cases hw:insB d.stop (-1) 1000000000 with
       | false =>
        rw [hw] at HIS HEND3
        have e1:r = 3:=HEND3.out.trans rfl
        subst e1
        clear hw
        go_wp2_with (first | (go_at_call_has 100 d.writes;refine (HIW.out _).mono ?_;rintro e w' ⟨rfl,rfl⟩) | (go_at_call_has 100 d.stop;refine (HIS.out _).mono ?_;rintro e w' ⟨rfl,rfl⟩))
        go_ret
        exact ⟨rfl,B6.out⟩
       | true =>
        rw [hw] at HIS HEND3
        have e1:r = 0:=HEND3.out.trans rfl
        subst e1
        clear hw
        go_wp2_with (first | (go_at_call_has 100 d.writes;refine (HIW.out _).mono ?_;rintro e w' ⟨rfl,rfl⟩) | (go_at_call_has 100 d.stop;refine (HIS.out _).mono ?_;rintro e w' ⟨rfl,rfl⟩))
        go_ret
        exact ⟨rfl,B6.out⟩
     ·have e1:r = tc:=HTAP2.out h3
      subst e1
      have hne:(r != 0) = true:=bneI h3
      go_wp2_with fail
      go_ret
      exact ⟨rfl,B6.out⟩
    ·have hn2:((nT:Int) != 2) = true:=bneI (by omega)
     have e1:r = 1:=HFORM.out (by rw [decide_eq_false h2];rfl)
     subst e1
     go_wp2_with fail
     go_ret
     exact ⟨rfl,B5.out⟩
def tcB (d:WorldD) (row:Int):Bool:=decide (worldCode d = 0) && (insB row 0 (d.shape.rows - 1) && colB d row.toNat)
theorem tcB_code {d:WorldD} {row:Int} (h:¬ worldCode d = 0):tcB d row = false:=by unfold tcB;rw [decide_eq_false h];rfl
theorem tcB_row {d:WorldD} {row:Int} (h:insB row 0 (d.shape.rows - 1) = false):tcB d row = false:=by unfold tcB;rw [h,Bool.false_and,Bool.and_false]
theorem tcB_col {d:WorldD} {n:Nat} (h:worldCode d = 0) (h2:insB (n:Int) 0 (d.shape.rows - 1) = true):tcB d (n:Int) = colB d n:=by unfold tcB;rw [decide_eq_true h,h2,Int.toNat_natCast];rfl
theorem colB_none {d:WorldD} {n:Nat} (h:trueF d n = none):colB d n = false:=by unfold colB;rw [h]
theorem colB_some {d:WorldD} {n:Nat} {L:List (List UInt8)} (h:trueF d n = some L):colB d n = fitsF (4 * d.shape.data.toNat) d.shape.groups.toNat d.shape.column.toNat L:=by unfold colB;rw [h]
theorem AtW.of {w:World} {p:Nat} {t:TypeId} {cs:List Value} {f:List Addr} {d:WorldD} (K:Blk w p t cs.toArray) (h:rWorld w f cs d):AtW w p f d :=
 ⟨cs,h,fun q hq => (K.cell q).trans (by rw [List.getElem?_toArray];exact List.getElem?_eq_getElem hq),K.lt⟩
structure ColOk (d:WorldD):Prop where
 len:d.groups.length = d.shape.groups.toNat + d.shape.column.toNat
 g:(d.shape.groups.toNat:Int) = d.shape.groups
 c:(d.shape.column.toNat:Int) = d.shape.column
 g1:1 ≤ d.shape.groups.toNat
 g4:d.shape.groups.toNat ≤ 4
 c2:d.shape.column.toNat ≤ 2
 m:4 * d.shape.data.toNat ≤ 1000
theorem TrueOk.col {d:WorldD} (h:TrueOk d):ColOk d:=by
 obtain ⟨a1,a2⟩:=h.ok.groups
 obtain ⟨a3,a4⟩:=h.ok.column
 obtain ⟨a5,a6⟩:=h.ok.data
 simp only [ShapeD.sh] at a1 a2 a3 a4 a5 a6
 have:=h.gl
 exact ⟨by omega,by omega,by omega,by omega,by omega,by omega,by omega⟩
theorem implTrueColumn_c (d:WorldD) (row:Int) (cs:List Value) (f:List Addr) (w:World) (h:rWorld w f cs d) :
  Calls Tryz.prog 11 #[.agg cs.toArray,.int .i64 row] w fun e w' => e = .returned (.bool (tcB d row)) ∧ Below w.heap.size w w':=by
 have hrw:=h
 dsimp only [rWorld] at h
 obtain ⟨v0,v1,v2,f0,f1,f2,rfl,-,o0,o1,o2,o3,o4,o5,o6,o7,o8,o9,o10,r0,r1,r2⟩:=h
 obtain ⟨A0,c0,rfl,m0,m0'⟩:=rSl.head r0
 obtain ⟨A1,c1,rfl,m1,m1'⟩:=rSl.head r1
 obtain ⟨A2,c2,rfl,m2,m2'⟩:=rSl.head r2
 obtain ⟨nG,hnG⟩:∃ nG,d.groups.length = nG:=⟨_,rfl⟩
 obtain ⟨nO,hnO⟩:∃ nO,d.on.length = nO:=⟨_,rfl⟩
 obtain ⟨nT,hnT⟩:∃ nT,d.tapes.length = nT:=⟨_,rfl⟩
 rw [hnG] at r0 m0 ⊢
 rw [hnO] at r1 m1 ⊢
 rw [hnT] at r2 m2 ⊢
 rw [hnG,hnO,hnT] at hrw
 have HRW:=hid hrw
 have HNG:=hid hnG
 have HNO:=hid hnO
 have HNT:=hid hnT
 have hb1:Below w.heap.size w (w.alloc (.cells #[.int .i64 d.shape.groups,.int .i64 d.shape.column,.int .i64 d.shape.data,.int .i64 d.shape.spare,.int .i64 d.shape.rows,.int .i64 d.shape.cap,.int .i64 d.shape.batch,.int .i64 d.shape.queue,.int .i64 d.shape.stage,.slice A0 nG c0,.slice A1 nO c1,.slice A2 nT c2,.int .i64 d.writes,.int .i64 d.stop,.bool d.down] 35)):=(Below.refl _ _).alloc (Nat.le_refl _) _
 have hk1:Blk (w.alloc (.cells #[.int .i64 d.shape.groups,.int .i64 d.shape.column,.int .i64 d.shape.data,.int .i64 d.shape.spare,.int .i64 d.shape.rows,.int .i64 d.shape.cap,.int .i64 d.shape.batch,.int .i64 d.shape.queue,.int .i64 d.shape.stage,.slice A0 nG c0,.slice A1 nO c1,.slice A2 nT c2,.int .i64 d.writes,.int .i64 d.stop,.bool d.down] 35)) w.heap.size 35 #[.int .i64 d.shape.groups,.int .i64 d.shape.column,.int .i64 d.shape.data,.int .i64 d.shape.spare,.int .i64 d.shape.rows,.int .i64 d.shape.cap,.int .i64 d.shape.batch,.int .i64 d.shape.queue,.int .i64 d.shape.stage,.slice A0 nG c0,.slice A1 nO c1,.slice A2 nT c2,.int .i64 d.writes,.int .i64 d.stop,.bool d.down]:=Blk.new _ _ _
 have K1:=hid hk1
 have HB1:=hid hb1
 have R0:=hid (rSl.below (rSlice.local_ rDrive.local_) (rSlice.fixed rDrive.fixed) r0 hb1)
 have R1:=hid (rSl.below rInt.local_ rInt.fixed r1 hb1)
 have R2:=hid (rSl.below rTape.local_ rTape.fixed r2 hb1)
 clear hrw r0 r1 r2 hb1 hk1 hnG hnO hnT
 obtain ⟨r,hr⟩:∃ r,tcB d row = r:=⟨_,rfl⟩
 rw [hr]
 have HRV:=hid hr
 have HWF:=hid (fun (W:World) (hW:Below w.heap.size w W) => implWorldFault_c d _ _ W (Repr.below rWorld.local_ rWorld.fixed HRW.out hW))
 have HRG:=hid (Blk.range K1.out 0 [.int .i64 d.shape.groups,.int .i64 d.shape.column,.int .i64 d.shape.data,.int .i64 d.shape.spare,.int .i64 d.shape.rows,.int .i64 d.shape.cap,.int .i64 d.shape.batch,.int .i64 d.shape.queue,.int .i64 d.shape.stage,.slice A0 nG c0,.slice A1 nO c1,.slice A2 nT c2,.int .i64 d.writes,.int .i64 d.stop,.bool d.down] rfl)
 have B2:=HB1
 have K2:=K1
 clear hr
 by_cases hwc:worldCode d = 0
 ·have hT:=trueOk_of hwc
  have HT:=hid hT
  have HCO:=hid hT.col
  rw [hwc] at HWF
  have HIR:=hid (fun (W:World) => isRow_c d.shape.sh hT.ok row W)
  have HCM:=hid (fun (W:World) => columns_c d.shape.sh W)
  have HWC:=hid hwc
  unfold shV at HIR HCM
  clear hwc hT
  go_enter Tryz.func11,Tryz.ntmps11
  go_wp2_with (refine wpList_load_mid rfl 35 _ rfl w.heap.size 0 rfl [.int .i64 d.shape.groups,.int .i64 d.shape.column,.int .i64 d.shape.data,.int .i64 d.shape.spare,.int .i64 d.shape.rows,.int .i64 d.shape.cap,.int .i64 d.shape.batch,.int .i64 d.shape.queue,.int .i64 d.shape.stage,.slice A0 nG c0,.slice A1 nO c1,.slice A2 nT c2,.int .i64 d.writes,.int .i64 d.stop,.bool d.down] _ HRG.out Tryz.underlying35 rfl (by kernel_rfl) ?_)
  refine (HWF.out _ B2.out).mono ?_
  rintro e w3 ⟨rfl,b3⟩
  have K3:=hid (K2.out.below b3 K2.out.lt)
  have B3:=hid (B2.out.trans (b3.mono B2.out.size))
  have z3:w.heap.size < w3.heap.size:=K3.out.lt
  have HR3:=hid (Blk.range K3.out 0 [.int .i64 d.shape.groups,.int .i64 d.shape.column,.int .i64 d.shape.data,.int .i64 d.shape.spare,.int .i64 d.shape.rows,.int .i64 d.shape.cap,.int .i64 d.shape.batch,.int .i64 d.shape.queue,.int .i64 d.shape.stage,.slice A0 nG c0,.slice A1 nO c1,.slice A2 nT c2,.int .i64 d.writes,.int .i64 d.stop,.bool d.down] rfl)
  clear b3
  have p0:w3.cell? ⟨w.heap.size,0,none⟩ = some (.int .i64 d.shape.groups):=(Blk.cell K3.out 0).trans rfl
  have p1:w3.cell? ⟨w.heap.size,1,none⟩ = some (.int .i64 d.shape.column):=(Blk.cell K3.out 1).trans rfl
  have p2:w3.cell? ⟨w.heap.size,2,none⟩ = some (.int .i64 d.shape.data):=(Blk.cell K3.out 2).trans rfl
  have p3:w3.cell? ⟨w.heap.size,3,none⟩ = some (.int .i64 d.shape.spare):=(Blk.cell K3.out 3).trans rfl
  have p4:w3.cell? ⟨w.heap.size,4,none⟩ = some (.int .i64 d.shape.rows):=(Blk.cell K3.out 4).trans rfl
  have p5:w3.cell? ⟨w.heap.size,5,none⟩ = some (.int .i64 d.shape.cap):=(Blk.cell K3.out 5).trans rfl
  have p6:w3.cell? ⟨w.heap.size,6,none⟩ = some (.int .i64 d.shape.batch):=(Blk.cell K3.out 6).trans rfl
  have p7:w3.cell? ⟨w.heap.size,7,none⟩ = some (.int .i64 d.shape.queue):=(Blk.cell K3.out 7).trans rfl
  have p8:w3.cell? ⟨w.heap.size,8,none⟩ = some (.int .i64 d.shape.stage):=(Blk.cell K3.out 8).trans rfl
  cases hin:insB row 0 (d.shape.rows - 1) with
  | false =>
   have hin2:insB row 0 (d.shape.sh.rows - 1) = false:=hin
   rw [hin2] at HIR
   have e1:r = false:=by rw [← HRV.out];exact tcB_row hin
   subst e1
   clear hin hin2
   go_wp2_with (go_at_call 45;refine (HIR.out _).mono ?_;rintro e w4 ⟨rfl,b4⟩;have B4:=hid (B3.out.trans (b4.mono B3.out.size));clear b4)
   go_ret
   exact ⟨rfl,B4.out⟩
  | true =>
   have hin2:insB row 0 (d.shape.sh.rows - 1) = true:=hin
   rw [hin2] at HIR
   obtain ⟨n,rfl⟩:∃ n:Nat,row = (n:Int):=⟨row.toNat,by have:=insB_true hin;omega⟩
   have hnr:(n:Int) < d.shape.rows:=by have:=insB_true hin;omega
   have HTL:=hid (fun (W:World) (hA:AtW W w.heap.size f d) => trueLists_c w.heap.size f d n W hA HT.out hnr)
   have HAW:=hid (fun (hR:rWorld w f [.int .i64 d.shape.groups,.int .i64 d.shape.column,.int .i64 d.shape.data,.int .i64 d.shape.spare,.int .i64 d.shape.rows,.int .i64 d.shape.cap,.int .i64 d.shape.batch,.int .i64 d.shape.queue,.int .i64 d.shape.stage,.slice A0 nG c0,.slice A1 nO c1,.slice A2 nT c2,.int .i64 d.writes,.int .i64 d.stop,.bool d.down] d) (W:World) (hW:Below w.heap.size w W) (K:Blk W w.heap.size 35 #[.int .i64 d.shape.groups,.int .i64 d.shape.column,.int .i64 d.shape.data,.int .i64 d.shape.spare,.int .i64 d.shape.rows,.int .i64 d.shape.cap,.int .i64 d.shape.batch,.int .i64 d.shape.queue,.int .i64 d.shape.stage,.slice A0 nG c0,.slice A1 nO c1,.slice A2 nT c2,.int .i64 d.writes,.int .i64 d.stop,.bool d.down]) => AtW.of (d:=d) K (Repr.below rWorld.local_ rWorld.fixed hR hW))
   have HCOL:=hid (HRV.out.symm.trans (tcB_col HWC.out hin))
   have HALL:=hid (fun (L:List (List UInt8)) (hL:trueF d n = some L) => trueF_all HT.out hnr hL)
   clear hin hin2 hnr
   go_wp2_with (go_at_call 45;refine (HIR.out _).mono ?_;rintro e w4 ⟨rfl,b4⟩;have K4:=hid (K3.out.below b4 K3.out.lt);have B4:=hid (B3.out.trans (b4.mono B3.out.size));clear b4)
   refine (HTL.out _ (HAW.out HRW.out _ B4.out K4.out)).mono ?_
   rintro e w5 (⟨L,A,c,fs,e5,rfl,r5,b5⟩ | ⟨e5,rfl,b5⟩)
   ·have K5:=hid (K4.out.below b5 K4.out.lt)
    have B5:=hid (B4.out.trans (b5.mono B4.out.size))
    have e1:r = fitsF (4 * d.shape.data.toNat) d.shape.groups.toNat d.shape.column.toNat L:=HCOL.out.trans (colB_some e5)
    subst e1
    have HFT:=hid (fun (W:World) (hW:Below w5.heap.size w5 W) => fits_c (4 * d.shape.data.toNat) d.shape.groups.toNat d.shape.column.toNat _ L fs W (rSl.below rLists.loc rLists.fix r5 hW) (by rw [trueF_length e5];exact HCO.out.len) (HALL.out L e5) HCO.out.g1 HCO.out.g4 HCO.out.c2 HCO.out.m)
    rw [HCO.out.g,HCO.out.c] at HFT
    clear p0 p1 p2 p3 p4 p5 p6 p7 p8 r5 b5 e5
    have p0:w5.cell? ⟨w.heap.size,0,none⟩ = some (.int .i64 d.shape.groups):=(Blk.cell K5.out 0).trans rfl
    have p1:w5.cell? ⟨w.heap.size,1,none⟩ = some (.int .i64 d.shape.column):=(Blk.cell K5.out 1).trans rfl
    have p2:w5.cell? ⟨w.heap.size,2,none⟩ = some (.int .i64 d.shape.data):=(Blk.cell K5.out 2).trans rfl
    have p3:w5.cell? ⟨w.heap.size,3,none⟩ = some (.int .i64 d.shape.spare):=(Blk.cell K5.out 3).trans rfl
    have p4:w5.cell? ⟨w.heap.size,4,none⟩ = some (.int .i64 d.shape.rows):=(Blk.cell K5.out 4).trans rfl
    have p5:w5.cell? ⟨w.heap.size,5,none⟩ = some (.int .i64 d.shape.cap):=(Blk.cell K5.out 5).trans rfl
    have p6:w5.cell? ⟨w.heap.size,6,none⟩ = some (.int .i64 d.shape.batch):=(Blk.cell K5.out 6).trans rfl
    have p7:w5.cell? ⟨w.heap.size,7,none⟩ = some (.int .i64 d.shape.queue):=(Blk.cell K5.out 7).trans rfl
    have p8:w5.cell? ⟨w.heap.size,8,none⟩ = some (.int .i64 d.shape.stage):=(Blk.cell K5.out 8).trans rfl
    have z5:w.heap.size < w5.heap.size:=K5.out.lt
    go_wp2_with (first
     | (go_at_call 47;refine (HCM.out _).mono ?_;rintro e w6 ⟨rfl,b6⟩;have B6:=hid b6;clear b6)
     | (go_at_call 48;refine (HFT.out _ B6.out).mono ?_;rintro e w7 ⟨rfl,b7⟩;have B7:=hid b7;clear b7))
    go_ret
    exact ⟨rfl,B5.out.trans ((B6.out.trans (B7.out.mono B6.out.size)).mono B5.out.size)⟩
   ·have e1:r = false:=HCOL.out.trans (colB_none e5)
    subst e1
    have B5:=hid (B4.out.trans (b5.mono B4.out.size))
    clear b5 e5
    go_wp2_with fail
    go_ret
    exact ⟨rfl,B5.out⟩
 ·have e1:r = false:=by rw [← HRV.out];exact tcB_code hwc
  subst e1
  obtain ⟨wc,hw⟩:∃ wc,worldCode d = wc:=⟨_,rfl⟩
  rw [hw] at HWF hwc
  have hne:(wc != 0) = true:=bneI hwc
  clear hw hwc
  go_enter Tryz.func11,Tryz.ntmps11
  go_wp2_with (refine wpList_load_mid rfl 35 _ rfl w.heap.size 0 rfl [.int .i64 d.shape.groups,.int .i64 d.shape.column,.int .i64 d.shape.data,.int .i64 d.shape.spare,.int .i64 d.shape.rows,.int .i64 d.shape.cap,.int .i64 d.shape.batch,.int .i64 d.shape.queue,.int .i64 d.shape.stage,.slice A0 nG c0,.slice A1 nO c1,.slice A2 nT c2,.int .i64 d.writes,.int .i64 d.stop,.bool d.down] _ HRG.out Tryz.underlying35 rfl (by kernel_rfl) ?_)
  refine (HWF.out _ B2.out).mono ?_
  rintro e w3 ⟨rfl,b3⟩
  have K3:=hid (K2.out.below b3 K2.out.lt)
  have B3:=hid (B2.out.trans (b3.mono B2.out.size))
  have z3:w.heap.size < w3.heap.size:=K3.out.lt
  have HR3:=hid (Blk.range K3.out 0 [.int .i64 d.shape.groups,.int .i64 d.shape.column,.int .i64 d.shape.data,.int .i64 d.shape.spare,.int .i64 d.shape.rows,.int .i64 d.shape.cap,.int .i64 d.shape.batch,.int .i64 d.shape.queue,.int .i64 d.shape.stage,.slice A0 nG c0,.slice A1 nO c1,.slice A2 nT c2,.int .i64 d.writes,.int .i64 d.stop,.bool d.down] rfl)
  clear b3
  go_wp2_with fail
  go_ret
  exact ⟨rfl,B3.out⟩
end Go.Proofs.YtfjkoifpdoemdaaGreat
