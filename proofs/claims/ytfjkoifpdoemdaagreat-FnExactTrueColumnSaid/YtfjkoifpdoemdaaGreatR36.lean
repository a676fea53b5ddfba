/-
  Part 36 of the proof; the last part states and proves the statement.
-/
import Derived.Test.YtfjkoifpdoemdaaGreatR33
import Derived.Test.YtfjkoifpdoemdaaGreatR35
import Derived.Test.YtfjkoifpdoemdaaGreatQ09
import Derived.Test.YtfjkoifpdoemdaaGreatR28
set_option maxHeartbeats 8000000
set_option maxRecDepth 100000
set_option linter.unusedVariables false
set_option linter.unusedSimpArgs false
namespace Go.Proofs.YtfjkoifpdoemdaaGreat
open Go.RowKit Go.Lib Go.Sort
theorem specTrueColumn_c (d:WorldD) (row:Int) (hrow:okI row) (cs:List Value) (f:List Addr) (w:World) (h:rWorld w f cs d) :
  Calls Tryz.prog 9 #[.agg cs.toArray,.int .i64 row] w fun e w' => e = .returned (.bool (tcB d row)) ∧ Below w.heap.size w w':=by
 have hrw:=h
 dsimp only [rWorld] at h
 obtain ⟨v0,v1,v2,f0,f1,f2,rfl,-,o0,o1,o2,o3,o4,o5,o6,o7,o8,o9,o10,r0,r1,r2⟩:=h
 obtain ⟨A0,c0,rfl,m0,m0'⟩:=rSl.head r0
 obtain ⟨A1,c1,rfl,m1,m1'⟩:=rSl.head r1
 obtain ⟨A2,c2,rfl,m2,m2'⟩:=rSl.head r2
 obtain ⟨nG,hnG⟩:∃ nG,d.groups.length = nG:=⟨_,rfl⟩
 obtain ⟨nO,hnO⟩:∃ nO,d.on.length = nO:=⟨_,rfl⟩
 obtain ⟨nT,hnT⟩:∃ nT,d.tapes.length = nT:=⟨_,rfl⟩
 rw [hnG] at r0 m0 ⊢
 rw [hnO] at r1 m1 ⊢
 rw [hnT] at r2 m2 ⊢
 rw [hnG,hnO,hnT] at hrw
 have HRW:=hid hrw
 have HNG:=hid hnG
 have HNO:=hid hnO
 have HNT:=hid hnT
 have hb1:Below w.heap.size w (w.alloc (.cells #[.int .i64 d.shape.groups,.int .i64 d.shape.column,.int .i64 d.shape.data,.int .i64 d.shape.spare,.int .i64 d.shape.rows,.int .i64 d.shape.cap,.int .i64 d.shape.batch,.int .i64 d.shape.queue,.int .i64 d.shape.stage,.slice A0 nG c0,.slice A1 nO c1,.slice A2 nT c2,.int .i64 d.writes,.int .i64 d.stop,.bool d.down] 35)):=(Below.refl _ _).alloc (Nat.le_refl _) _
 have hk1:Blk (w.alloc (.cells #[.int .i64 d.shape.groups,.int .i64 d.shape.column,.int .i64 d.shape.data,.int .i64 d.shape.spare,.int .i64 d.shape.rows,.int .i64 d.shape.cap,.int .i64 d.shape.batch,.int .i64 d.shape.queue,.int .i64 d.shape.stage,.slice A0 nG c0,.slice A1 nO c1,.slice A2 nT c2,.int .i64 d.writes,.int .i64 d.stop,.bool d.down] 35)) w.heap.size 35 #[.int .i64 d.shape.groups,.int .i64 d.shape.column,.int .i64 d.shape.data,.int .i64 d.shape.spare,.int .i64 d.shape.rows,.int .i64 d.shape.cap,.int .i64 d.shape.batch,.int .i64 d.shape.queue,.int .i64 d.shape.stage,.slice A0 nG c0,.slice A1 nO c1,.slice A2 nT c2,.int .i64 d.writes,.int .i64 d.stop,.bool d.down]:=Blk.new _ _ _
 have K1:=hid hk1
 have HB1:=hid hb1
 have R0:=hid (rSl.below (rSlice.local_ rDrive.local_) (rSlice.fixed rDrive.fixed) r0 hb1)
 have R1:=hid (rSl.below rInt.local_ rInt.fixed r1 hb1)
 have R2:=hid (rSl.below rTape.local_ rTape.fixed r2 hb1)
 clear hrw r0 r1 r2 hb1 hk1 hnG hnO hnT
 obtain ⟨r,hr⟩:∃ r,tcB d row = r:=⟨_,rfl⟩
 rw [hr]
 have HRV:=hid hr
 have HWF:=hid (fun (W:World) (hW:Below w.heap.size w W) => specWorldFault_c d _ _ W (Repr.below rWorld.local_ rWorld.fixed HRW.out hW))
 have HRG:=hid (Blk.range K1.out 0 [.int .i64 d.shape.groups,.int .i64 d.shape.column,.int .i64 d.shape.data,.int .i64 d.shape.spare,.int .i64 d.shape.rows,.int .i64 d.shape.cap,.int .i64 d.shape.batch,.int .i64 d.shape.queue,.int .i64 d.shape.stage,.slice A0 nG c0,.slice A1 nO c1,.slice A2 nT c2,.int .i64 d.writes,.int .i64 d.stop,.bool d.down] rfl)
 have B2:=HB1
 have K2:=K1
 clear hr
 by_cases hwc:worldCode d = 0
 ·have hT:=trueOk_of hwc
  have HT:=hid hT
  have HCO:=hid hT.col
  rw [hwc] at HWF
  obtain ⟨a5,a6⟩:=hT.ok.rows
  have ew:IntKind.i64.wrap (d.shape.rows - 1) = d.shape.rows - 1:=IntWalk.i64_in _ (by simp only [ShapeD.sh] at a5 a6;omega)
  have HIR:=hid (fun (W:World) => l1In_c row 0 (d.shape.rows - 1) W)
  have HWC:=hid hwc
  clear hwc hT a5 a6
  go_enter Tryz.func9,Tryz.ntmps9
  go_wp2_with (refine wpList_load_mid rfl 35 _ rfl w.heap.size 0 rfl [.int .i64 d.shape.groups,.int .i64 d.shape.column,.int .i64 d.shape.data,.int .i64 d.shape.spare,.int .i64 d.shape.rows,.int .i64 d.shape.cap,.int .i64 d.shape.batch,.int .i64 d.shape.queue,.int .i64 d.shape.stage,.slice A0 nG c0,.slice A1 nO c1,.slice A2 nT c2,.int .i64 d.writes,.int .i64 d.stop,.bool d.down] _ HRG.out Tryz.underlying35 rfl (by kernel_rfl) ?_)
  refine (HWF.out _ B2.out).mono ?_
  rintro e w3 ⟨rfl,b3⟩
  have K3:=hid (K2.out.below b3 K2.out.lt)
  have B3:=hid (B2.out.trans (b3.mono B2.out.size))
  have z3:w.heap.size < w3.heap.size:=K3.out.lt
  have HR3:=hid (Blk.range K3.out 0 [.int .i64 d.shape.groups,.int .i64 d.shape.column,.int .i64 d.shape.data,.int .i64 d.shape.spare,.int .i64 d.shape.rows,.int .i64 d.shape.cap,.int .i64 d.shape.batch,.int .i64 d.shape.queue,.int .i64 d.shape.stage,.slice A0 nG c0,.slice A1 nO c1,.slice A2 nT c2,.int .i64 d.writes,.int .i64 d.stop,.bool d.down] rfl)
  clear b3
  have p1:w3.cell? ⟨w.heap.size,1,none⟩ = some (.int .i64 d.shape.column):=(Blk.cell K3.out 1).trans rfl
  have p4:w3.cell? ⟨w.heap.size,4,none⟩ = some (.int .i64 d.shape.rows):=(Blk.cell K3.out 4).trans rfl
  cases hin:insB row 0 (d.shape.rows - 1) with
  | false =>
   rw [hin] at HIR
   have e1:r = false:=by rw [← HRV.out];exact tcB_row hin
   subst e1
   clear hin
   go_wp2_with (go_at_call 35;refine (HIR.out _).mono ?_;rintro e w' ⟨rfl,rfl⟩)
   go_ret
   exact ⟨rfl,B3.out⟩
  | true =>
   rw [hin] at HIR
   obtain ⟨n,rfl⟩:∃ n:Nat,row = (n:Int):=⟨row.toNat,by have:=insB_true hin;omega⟩
   have hnr:(n:Int) < d.shape.rows:=by have:=insB_true hin;omega
   have HA3:=hid (AtW.of (d:=d) K3.out (Repr.below rWorld.local_ rWorld.fixed HRW.out B3.out))
   have HCT:=hid (l6Counted_c w.heap.size f d w3 HA3.out HT.out.tp HT.out.sm)
   have HCOL:=hid (HRV.out.symm.trans (tcB_col HWC.out hin))
   have HALL:=hid (fun (L:List (List UInt8)) (hL:trueF d n = some L) => trueF_all HT.out hnr hL)
   have HL13:=hid (fun (W:World) (fa:List Addr) (v:Value) (hA:AtW W w.heap.size f d) (ha:rSl 9 rRec W fa v (cntW d)) (k:Nat) (hk:k < d.groups.length) => l13RowS_c w.heap.size f d v fa k n W hA ha HT.out hk hnr)
   have HAL:=hid (fun (W:World) => l5All_c d.shape.sh HT.out.ok W)
   unfold shV at HAL
   rw [show d.shape.sh.groups + d.shape.sh.column = (d.groups.length:Int) from HT.out.gl.symm,HNG.out] at HAL
   rw [HNG.out] at HL13
   have HNG6:=hid (show nG ≤ 6 by have h1:=HCO.out.len;rw [HNG.out] at h1;have:=HCO.out.g4;have:=HCO.out.c2;omega)
   have HTF:=hid (show trueF d n = tlF d n nG from by unfold trueF;rw [HNG.out])
   clear hin hnr
   go_wp2_with (go_at_call 35;refine (HIR.out _).mono ?_;rintro e w' ⟨rfl,rfl⟩)
   refine HCT.out.mono ?_
   rintro e w4 ⟨A4,c4,f4,rfl,r4,b4⟩
   have R4:=hid r4
   have HF4:=hid (show ∀ a,a ∈ f4 → a.block < w4.heap.size from fun a ha => rSl.there rRec.fixed r4 a ha)
   have K4:=hid (K3.out.below b4 K3.out.lt)
   have B4:=hid (B3.out.trans (b4.mono B3.out.size))
   have z4:w.heap.size < w4.heap.size:=K4.out.lt
   have HR4:=hid (Blk.range K4.out 0 [.int .i64 d.shape.groups,.int .i64 d.shape.column,.int .i64 d.shape.data,.int .i64 d.shape.spare,.int .i64 d.shape.rows,.int .i64 d.shape.cap,.int .i64 d.shape.batch,.int .i64 d.shape.queue,.int .i64 d.shape.stage,.slice A0 nG c0,.slice A1 nO c1,.slice A2 nT c2,.int .i64 d.writes,.int .i64 d.stop,.bool d.down] rfl)
   clear b4
   have HA4:=hid (AtW.of (d:=d) K4.out (Repr.below rWorld.local_ rWorld.fixed HRW.out B4.out))
   have hb5:Below w4.heap.size w4 (w4.alloc (.cells #[] 39)):=belowAlloc (Below.refl _ _) _
   have HB5:=hid hb5
   have HE:=hid (OwnL.emptyL (w:=w4))
   clear p1 p4 r4 hb5 HA3
   go_wp2_with fail
   go_loopw [7,6,8,9] (fun i o _ _ wr => ∃ (k:Nat) (A:Option Addr) (c3:Nat) (fo:List Addr) (L:List (List UInt8)),k ≤ nG ∧ i = .int .i64 k ∧ o = .slice A k c3 ∧ Hid (tlF d n k = some L) ∧ Hid (OwnL 1 39 (rSlice 1 rByte) wr w4.heap.size o L fo) ∧ Hid (Below w4.heap.size w4 wr)) (fun i _ _ _ _ => nG - (intOf i).toNat)
   case atStart => exact ⟨0,_,0,[],[],by omega,rfl,rfl,rfl,HE.out,HB5.out⟩
   case round =>
    obtain ⟨k,A,c3,fo,L,hk,rfl,rfl,HL,HO,HB⟩:=hrel
    clear HE HB5
    have KW:=hid (K4.out.below HB.out z4)
    have zw:w.heap.size < wr.heap.size:=KW.out.lt
    have HRS:=hid (Blk.range KW.out 0 [.int .i64 d.shape.groups,.int .i64 d.shape.column,.int .i64 d.shape.data,.int .i64 d.shape.spare,.int .i64 d.shape.rows,.int .i64 d.shape.cap,.int .i64 d.shape.batch,.int .i64 d.shape.queue,.int .i64 d.shape.stage] rfl)
    have HBS:=hid HB.out.size
    have HLEN:=hid (tlF_length HL.out)
    by_cases hkn:k < nG
    ·have hki:(k:Int) < (nG:Int):=by omega
     go_wp2_with (first
      | (refine wpList_load_mid rfl 31 _ rfl w.heap.size 0 rfl [.int .i64 d.shape.groups,.int .i64 d.shape.column,.int .i64 d.shape.data,.int .i64 d.shape.spare,.int .i64 d.shape.rows,.int .i64 d.shape.cap,.int .i64 d.shape.batch,.int .i64 d.shape.queue,.int .i64 d.shape.stage] _ HRS.out Tryz.underlying31 rfl (by kernel_rfl) ?_)
      | (go_at_call 37;refine (HAL.out _).mono ?_;rintro e w5 ⟨rfl,b5⟩;have B5:=hid b5;clear b5))
     refine (HL13.out _ f4 (.slice A4 (cntW d).length c4) (HA4.out.below (HB.out.trans (B5.out.mono HB.out.size))) (rSl.below rRec.local_ rRec.fixed R4.out (HB.out.trans (B5.out.mono HB.out.size))) k hkn).mono ?_
     rintro e w6 (⟨D,A6,c6,f6,e6,rfl,r6,l6,b6⟩ | ⟨e6,rfl,b6⟩)
     ·have HL2:=hid (tlF_some HL.out e6)
      have hb6:Below wr.heap.size wr w6:=B5.out.trans (b6.mono B5.out.size)
      have hf6:∀ a,a ∈ f6 → a.block < w4.heap.size ∨ wr.heap.size ≤ a.block:=fun a ha => by
       rcases l6 a ha with h6 | h6
       ·exact .inl (HF4.out a h6)
       ·exact .inr (Nat.le_trans B5.out.size h6)
      have HAP:=hid (Tryz.addAny (wr:=wr) (W:=w6.alloc (.cells #[.slice A6 D.length c6] 39)) (b:=w6.heap.size) (ve:=.slice A6 D.length c6) (f:=f6) (L:=D) HO.out HBS.out (by rw [HLEN.out];have:=HNG6.out;omega) (belowAlloc hb6 _) (Blk.new _ _ _) (r6.below (belowAlloc (Below.refl _ _) _)) hf6)
      rw [HLEN.out] at HAP
      clear e6 r6 l6 b6 hb6 hf6
      go_wp2_with (at_builtin;refine wpList_append_of rfl (.tmp 40) (.tmp 42) 83 rfl _ _ (by rfl) (by rfl) HAP.out ?_;rintro v8 w8 ⟨A8,c8,h8,rfl,o8,B8,e8,s8⟩;have HO8:=hid o8;have HB8:=hid B8;clear o8 B8 s8)
      go_roundw
      case rel => exact ⟨k + 1,A8,c8,_,L ++ [D],by omega,by go_num,rfl,HL2.out,HO8.out,HB.out.trans HB8.out⟩
      case measure => simp [intOf];omega
     ·have e1:r = false:=by rw [HCOL.out];exact colB_none (by rw [HTF.out];exact tlF_none_le (k:=k + 1) (by omega) (tlF_none e6))
      subst e1
      have HB6:=hid (B4.out.trans ((HB.out.trans ((B5.out.trans (b6.mono B5.out.size)).mono HB.out.size)).mono B4.out.size))
      clear e6 b6
      go_wp2_with fail
      go_ret
      exact ⟨rfl,HB6.out⟩
    ·obtain rfl:k = nG:=by omega
     have hL:trueF d n = some L:=HTF.out.trans HL.out
     have e1:r = fitsF (4 * d.shape.data.toNat) d.shape.groups.toNat d.shape.column.toNat L:=HCOL.out.trans (colB_some hL)
     subst e1
     obtain ⟨gs,r8,-⟩:=HO.out.reads
     have hle:=HLEN.out
     have HFT:=hid (fun (W:World) (hW:Below wr.heap.size wr W) => ColumnFits_c (4 * d.shape.data.toNat) d.shape.groups.toNat d.shape.column.toNat _ L _ W (rSl.below rLists.loc rLists.fix r8 hW) (by rw [trueF_length hL];exact HCO.out.len) (HALL.out L hL) HCO.out.g1 HCO.out.g4 HCO.out.c2 HCO.out.m)
     rw [HCO.out.c] at HFT
     have HBW:=hid (B4.out.trans (HB.out.mono B4.out.size))
     have p1:wr.cell? ⟨w.heap.size,1,none⟩ = some (.int .i64 d.shape.column):=(Blk.cell KW.out 1).trans rfl
     clear hL r8 hle
     go_wp2_with (first
      | (refine wpList_load_mid rfl 31 _ rfl w.heap.size 0 rfl [.int .i64 d.shape.groups,.int .i64 d.shape.column,.int .i64 d.shape.data,.int .i64 d.shape.spare,.int .i64 d.shape.rows,.int .i64 d.shape.cap,.int .i64 d.shape.batch,.int .i64 d.shape.queue,.int .i64 d.shape.stage] _ HRS.out Tryz.underlying31 rfl (by kernel_rfl) ?_)
      | (go_at_call 37;refine (HAL.out _).mono ?_;rintro e w5 ⟨rfl,b5⟩;have B5:=hid b5;have p1':=(b5.cell (p:=⟨w.heap.size,1,none⟩) zw).trans p1;have zw5:w.heap.size < w5.heap.size:=Nat.lt_of_lt_of_le zw b5.size;clear b5)
      | (go_at_call 39;refine (HFT.out _ B5.out).mono ?_;rintro e w7 ⟨rfl,b7⟩;have B7:=hid b7;clear b7))
     go_ret
     exact ⟨rfl,HBW.out.trans ((B5.out.trans (B7.out.mono B5.out.size)).mono HBW.out.size)⟩
 ·have e1:r = false:=by rw [← HRV.out];exact tcB_code hwc
  subst e1
  obtain ⟨wc,hw⟩:∃ wc,worldCode d = wc:=⟨_,rfl⟩
  rw [hw] at HWF hwc
  have hne:(wc != 0) = true:=bneI hwc
  clear hw hwc
  go_enter Tryz.func9,Tryz.ntmps9
  go_wp2_with (refine wpList_load_mid rfl 35 _ rfl w.heap.size 0 rfl [.int .i64 d.shape.groups,.int .i64 d.shape.column,.int .i64 d.shape.data,.int .i64 d.shape.spare,.int .i64 d.shape.rows,.int .i64 d.shape.cap,.int .i64 d.shape.batch,.int .i64 d.shape.queue,.int .i64 d.shape.stage,.slice A0 nG c0,.slice A1 nO c1,.slice A2 nT c2,.int .i64 d.writes,.int .i64 d.stop,.bool d.down] _ HRG.out Tryz.underlying35 rfl (by kernel_rfl) ?_)
  refine (HWF.out _ B2.out).mono ?_
  rintro e w3 ⟨rfl,b3⟩
  have K3:=hid (K2.out.below b3 K2.out.lt)
  have B3:=hid (B2.out.trans (b3.mono B2.out.size))
  have z3:w.heap.size < w3.heap.size:=K3.out.lt
  have HR3:=hid (Blk.range K3.out 0 [.int .i64 d.shape.groups,.int .i64 d.shape.column,.int .i64 d.shape.data,.int .i64 d.shape.spare,.int .i64 d.shape.rows,.int .i64 d.shape.cap,.int .i64 d.shape.batch,.int .i64 d.shape.queue,.int .i64 d.shape.stage,.slice A0 nG c0,.slice A1 nO c1,.slice A2 nT c2,.int .i64 d.writes,.int .i64 d.stop,.bool d.down] rfl)
  clear b3
  go_wp2_with fail
  go_ret
  exact ⟨rfl,B3.out⟩
end Go.Proofs.YtfjkoifpdoemdaaGreat
