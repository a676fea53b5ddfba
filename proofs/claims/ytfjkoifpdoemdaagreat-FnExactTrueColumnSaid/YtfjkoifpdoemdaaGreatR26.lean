/-
  Part 26 of the proof; the last part states and proves the statement.
-/
import Derived.Test.YtfjkoifpdoemdaaGreatR19
import Derived.Test.YtfjkoifpdoemdaaGreatQ17
set_option maxHeartbeats 8000000
set_option maxRecDepth 100000
set_option linter.unusedVariables false
set_option linter.unusedSimpArgs false
namespace Go.Proofs.YtfjkoifpdoemdaaGreat
open Go.RowKit Go.Lib Go.Sort
theorem hv_count {bl:List (List UInt8)} {L:List DriveD} (h:∀ k,(hk:k < L.length) → (0 < (bl.getD k []).length ↔ L[k].wiped = false)):∀ j,j ≤ L.length → (hvAll bl j).length + nWip L j = j:=by
 intro j
 induction j with
 | zero => intro _;simp [hvAll_zero,nWip]
 | succ j ih =>
  intro hj
  have h1:=ih (by omega)
  have h2:=h j (by omega)
  rw [hvAll_step,nWip_step (by omega),List.length_append]
  cases hw:L[j].wiped with
  | true =>
   have h3:¬ 0 < (bl.getD j []).length:=fun h4 => by rw [hw] at h2;cases h2.1 h4
   rw [if_neg h3]
   simp
   omega
  | false =>
   rw [if_pos (h2.2 hw)]
   simp
   omega
theorem decF_dead {n s:Nat} {bl:List (List UInt8)} {L:List DriveD} (hl:bl.length = L.length) (hn:L.length = n + s) (h:∀ k,(hk:k < L.length) → (0 < (bl.getD k []).length ↔ L[k].wiped = false)) (hd:s < nWip L L.length):decF n bl = none:=by
 have h1:=hv_count h L.length (Nat.le_refl _)
 unfold decF
 rw [if_pos]
 rw [hvAt_all,List.length_take,hl]
 omega
theorem willL_nil (enc:RecD → List (List UInt8)) (row:Nat) (L:List DriveD):willL enc row [] L = L.map (rowB row):=by
 apply List.ext_getElem
 ·rw [willL_length,List.length_map]
 ·intro k h1 h2
  rw [willL_length] at h1
  rw [willL_get _ _ _ _ h1,List.getElem_map]
  rfl
theorem rowB_there {row:Nat} {dr:DriveD} (h4:(blkAt dr row).bytes.length = 4):0 < (rowB row dr).length ↔ dr.wiped = false:=by
 unfold rowB
 cases dr.wiped with
 | true => simp
 | false => simp [h4]
theorem TrueOk.dead {d:WorldD} (h:TrueOk d) {g row:Nat} (hg:g < d.groups.length) (hr:(row:Int) < d.shape.rows) (hd:deadF d g = true) (ho:ownF d.shape.groups (cntW d) (g:Int) (row:Int) = none):hereF d g row = none:=by
 obtain ⟨a1,a2⟩:=h.ok.data
 obtain ⟨b1,b2⟩:=h.ok.spare
 simp only [ShapeD.sh] at a1 a2 b1 b2
 have hdl:=h.dl g hg
 have hw:d.shape.spare < (nWip (drivesF d g) (drivesF d g).length:Int):=of_decide_eq_true hd
 have h4:=(h.row hg hr).2
 by_cases qg:(g:Int) < d.shape.groups
 ·rw [hereF_data ho qg]
  refine decF_dead (s:=d.shape.spare.toNat) (L:=drivesF d g) (by simp [blocksF]) (by omega) (fun k hk => ?_) (by omega)
  have e:(blocksF d g row).getD k [] = rowB row (drivesF d g)[k]:=by unfold blocksF;simp [List.getD_eq_getElem?_getD,hk]
  rw [e]
  exact rowB_there (h4 _ (List.getElem_mem hk))
 ·rw [hereF_par ho qg]
  refine decF_dead (s:=d.shape.spare.toNat) (L:=drivesF d g) (by unfold willF;rw [willL_length]) (by omega) (fun k hk => ?_) (by omega)
  have hk2:k < (willF d (undF d.shape.groups (cntW d) (g:Int)) g row).length:=by unfold willF;rw [willL_length];exact hk
  have e:(willF d (undF d.shape.groups (cntW d) (g:Int)) g row).getD k [] = willD (encW d g) row (undF d.shape.groups (cntW d) (g:Int)) k (drivesF d g)[k]:=by
   rw [List.getD_eq_getElem?_getD,List.getElem?_eq_getElem hk2,Option.getD_some]
   unfold willF
   exact willL_get _ _ _ _ hk
  rw [e]
  unfold willD
  have hl:=willB_length (b:=(blkAt (drivesF d g)[k] row).bytes) (stamp:=(blkAt (drivesF d g)[k] row).stamp) (row:=(row:Int)) (fun m hm => ((h.par hg (by omega) hr).enc hk m hm).1) (h4 _ (List.getElem_mem hk))
  cases (drivesF d g)[k].wiped with
  | true => simp
  | false => rw [if_neg (by simp),hl];simp
def listsF (d:WorldD) (row:Nat):List (List UInt8):=(List.range d.groups.length).map fun g => (hereF d g row).getD []
def rowF (d:WorldD) (g row:Nat):Option (List UInt8) :=
 match hereF d g row with
 | some b => some b
 | none => (colF (4 * d.shape.data.toNat) d.shape.groups.toNat d.shape.column.toNat (listsF d row)).map fun L => L.getD g []
theorem rowF_here {d:WorldD} {g row:Nat} {b:List UInt8} (h:hereF d g row = some b):rowF d g row = some b:=by unfold rowF;rw [h]
theorem rowF_col {d:WorldD} {g row:Nat} (h:hereF d g row = none):rowF d g row = (colF (4 * d.shape.data.toNat) d.shape.groups.toNat d.shape.column.toNat (listsF d row)).map fun L => L.getD g []:=by unfold rowF;rw [h]
theorem listsF_length (d:WorldD) (row:Nat):(listsF d row).length = d.groups.length:=by simp [listsF]
theorem listsF_take (d:WorldD) (row:Nat) {k:Nat} (h:k < d.groups.length):(listsF d row).take (k + 1) = (listsF d row).take k ++ [(hereF d k row).getD []]:=by
 rw [List.take_succ_eq_append_getElem (by rw [listsF_length];exact h)]
 simp [listsF]
theorem hereF_length {d:WorldD} (h:TrueOk d) {g row:Nat} (hg:g < d.groups.length) (hr:(row:Int) < d.shape.rows) {b:List UInt8} (hb:hereF d g row = some b):b.length = 4 * d.shape.data.toNat:=by
 obtain ⟨a1,a2⟩:=h.ok.data
 obtain ⟨b1,b2⟩:=h.ok.spare
 simp only [ShapeD.sh] at a1 a2 b1 b2
 have hdl:=h.dl g hg
 have hdec:∀ bl:List (List UInt8),bl.length = (drivesF d g).length → OrNone bl 4 → ∀ b,decF d.shape.data.toNat bl = some b → b.length = 4 * d.shape.data.toNat:=fun bl hl hO b hd => by
  unfold decF at hd
  split at hd
  ·cases hd
  ·rename_i hn
   injection hd with hd
   subst hd
   have hv:=hvAt_le d.shape.data.toNat bl bl.length
   have:=decAt_length (n:=d.shape.data.toNat) (bl:=bl) (by omega) (by omega) (by omega) hO (by omega) d.shape.data.toNat (Nat.le_refl _)
   omega
 cases ho:ownF d.shape.groups (cntW d) (g:Int) (row:Int) with
 | some m =>
  rw [hereF_some ho] at hb
  injection hb with hb
  subst hb
  obtain ⟨q1,q2⟩:=ownF_mem ho
  obtain ⟨-,-,q3,-⟩:=h.mv m (countF_sub _ _ rfl m q1) q2
  omega
 | none =>
  by_cases qg:(g:Int) < d.shape.groups
  ·rw [hereF_data ho qg] at hb
   exact hdec _ (by simp [blocksF]) (h.blocks4 hg hr) _ hb
  ·rw [hereF_par ho qg] at hb
   exact hdec _ (by unfold willF;rw [willL_length]) (h.will4 hg (by omega) hr) _ hb
theorem listsF_all {d:WorldD} (h:TrueOk d) {row:Nat} (hr:(row:Int) < d.shape.rows):OrNone (listsF d row) (4 * d.shape.data.toNat):=fun l hl => by
 obtain ⟨g,hg,rfl⟩:=List.mem_map.1 hl
 have hg':=List.mem_range.1 hg
 cases hb:hereF d g row with
 | none => exact .inl rfl
 | some b => exact .inr (hereF_length h hg' hr hb)
theorem rowF_length {d:WorldD} (h:TrueOk d) {g row:Nat} (hg:g < d.groups.length) (hr:(row:Int) < d.shape.rows) {b:List UInt8} (hb:rowF d g row = some b):b.length = 4 * d.shape.data.toNat:=by
 obtain ⟨a1,a2⟩:=h.ok.groups
 obtain ⟨b1,b2⟩:=h.ok.column
 simp only [ShapeD.sh] at a1 a2 b1 b2
 have hgl:=h.gl
 have hll:=listsF_length d row
 cases hh:hereF d g row with
 | some b' =>
  rw [rowF_here hh] at hb
  injection hb with hb
  subst hb
  exact hereF_length h hg hr hh
 | none =>
  rw [rowF_col hh] at hb
  unfold colF at hb
  split at hb
  ·cases hb
  ·rename_i hn
   injection hb with hb
   dsimp only at hb
   have hv:=hvAt_le d.shape.groups.toNat (listsF d row) (listsF d row).length
   have e:(colAt (4 * d.shape.data.toNat) d.shape.groups.toNat (listsF d row) (hvAt d.shape.groups.toNat (listsF d row) (listsF d row).length) (d.shape.groups.toNat + d.shape.column.toNat)).getD g [] = colPart (4 * d.shape.data.toNat) d.shape.groups.toNat (listsF d row) (hvAt d.shape.groups.toNat (listsF d row) (listsF d row).length) g:=by
    have hgg:g < d.shape.groups.toNat + d.shape.column.toNat:=by omega
    simp [colAt,List.getD_eq_getElem?_getD,hgg]
   rw [e] at hb
   obtain ⟨-,-,-,-,q⟩:=colPart_length (m:=4 * d.shape.data.toNat) (n:=d.shape.groups.toNat) (bl:=listsF d row) (i:=g) (by omega) (by omega) (by omega) (listsF_all h hr) (by omega) (by omega)
   rw [← hb]
   exact q
theorem rBytes.mine {w:World} {f:List Addr} {v:Value} {l:List UInt8} {lo:Nat} (h:rBytes w f v l) (hf:∀ a,a ∈ f → lo ≤ a.block ∧ w.frozen? a = false):Mine lo w f:=by
 refine ⟨?_,fun a ha => (hf a ha).1,fun a ha => (hf a ha).2⟩
 obtain ⟨A,c,e,h1,h2,h3⟩:=h
 rcases h3 with ⟨-,rfl⟩ | ⟨ad,css,fss,-,e2,e3,rfl,h3⟩
 ·exact List.nodup_nil
 ·have hfl:fss.flatten = []:=by
   rw [List.flatten_eq_nil_iff]
   intro x hx
   obtain ⟨i,hi,rfl⟩:=List.getElem_of_mem hx
   obtain ⟨q1,q2,q3,q4,hfi,hcs⟩:=h3 i (by omega)
   exact hfi
  rw [hfl,List.append_nil]
  cases hl:l.length with
  | zero => rw [Nat.zero_mul];exact List.nodup_nil
  | succ n =>
   obtain ⟨q1,q2,q3,q4,hfi,hcs⟩:=h3 0 (by omega)
   have hc:=q4 0 (by omega)
   obtain ⟨b,o,hP⟩:=placeOf hc
   have h0:ad.add 0 = ad:=addZero ad
   have hP':ad = ⟨b,o,none⟩:=by rw [← h0];simpa using hP
   exact nodup_addrs (by rw [hP'])
theorem here_c (p:Nat) (fs:List Addr) (d:WorldD) (g row:Nat) (w:World) (h:AtW w p fs d) (hT:TrueOk d) (hg:g < d.groups.length) (hr:(row:Int) < d.shape.rows) :
  Calls Tryz.prog 109 #[.pointer (some ⟨p,0,none⟩),.int .i64 (g:Int),.int .i64 (row:Int)] w (OptB (hereF d g row) w):=by
 obtain ⟨a1,a2⟩:=hT.ok.data
 obtain ⟨b1,b2⟩:=hT.ok.spare
 simp only [ShapeD.sh] at a1 a2 b1 b2
 have hdl:=hT.dl g hg
 have HLM:=hid (lastMove_c p fs d (g:Int) (row:Int) w h hT.ok (by omega) hT.sm)
 have HH:=hid h
 have HT:=hid hT
 have hks:(Tryz.prog.info? 119).map (·.size) = some 9:=by kernel_rfl
 have lp:p < w.heap.size:=by obtain ⟨A0,A1,A2,c0,c1,c2,f0,f1,f2,HC⟩:=h.cells;exact HC.lt
 obtain ⟨X,hX⟩:∃ X,hereF d g row = X:=⟨_,rfl⟩
 rw [hX]
 have HX:=hid hX
 obtain ⟨nd,hnd⟩:∃ nd:Nat,d.shape.data = nd:=⟨d.shape.data.toNat,by omega⟩
 obtain ⟨ns,hns⟩:∃ ns:Nat,d.shape.spare = ns:=⟨d.shape.spare.toNat,by omega⟩
 have HND:=hid hnd
 have HNS:=hid hns
 have hnd1:1 ≤ nd:=by omega
 have hnd3:nd ≤ 3:=by omega
 have hns2:ns ≤ 2:=by omega
 have HDL:=hid (show (drivesF d g).length = nd + ns by omega)
 clear h hT hX hnd hns a1 a2 b1 b2 hdl
 go_enter Tryz.func109,Tryz.ntmps109
 go_wp2_with fail
 refine HLM.out.mono ?_
 rintro e w1 (⟨m,cs,f1,v1,hown,rfl,hcs,hones,hv7,hr7,hb1⟩ | ⟨hown,cs,rfl,hcs,hones,hb1⟩)
 all_goals
  have B1:=hid hb1
  have HI2:=hid (show (Tryz.prog.info? 119).map (·.size) = some cs.size by rw [hcs];exact hks)
  have HON:=hid hones
  obtain ⟨Z,hZ⟩:∃ Z:Array Value,#[.int .i64 0,.int .i64 0,.string ⟨#[]⟩,.int .i64 0,.int .i64 0,.int .i64 0,.slice none 0 0,.slice none 0 0,.slice none 0 0] = Z:=⟨_,rfl⟩
  have hZs:Z.size = 9:=by rw [← hZ];rfl
  have KZ:=Blk.new w1 119 Z
  have HTH:=hid (Blk.there KZ cs.size (by rw [hcs,hZs];exact Nat.le_refl _))
  obtain ⟨W2,hW2⟩:∃ W2,(w1.alloc (.cells Z 119)).setCells w1.heap.size 0 cs.toList = W2:=⟨_,rfl⟩
  have K2:Blk W2 w1.heap.size 119 cs:=by
   have:=Blk.laid KZ cs.toList (by rw [hZs,Array.length_toList,hcs])
   rw [Array.toArray_toList] at this
   rw [← hW2];exact this
  have b12:Below w1.heap.size w1 W2:=by rw [← hW2];exact belowSetCells (belowAlloc (Below.refl _ _) _) _ 0 (Nat.le_refl _)
  have HW2:=hid hW2
  have B2:=hid (hb1.trans (b12.mono hb1.size))
  have HK2:=hid K2
 ·have y7:W2.cell? ⟨w1.heap.size,7,none⟩ = some v1:=by rw [K2.cell];exact hv7
  have gb:w1.heap.size < W2.heap.size:=K2.lt
  have hmd:m.data.length ≤ 1048576:=by
   obtain ⟨q1,q2⟩:=ownF_mem hown
   obtain ⟨-,-,q3,-⟩:=HT.out.mv m (countF_sub _ _ rfl m q1) q2
   have:=HND.out
   omega
  have e1:X = some m.data:=by rw [← HX.out];exact hereF_some hown
  subst e1
  have HCL:=hid (cloneBytes_c v1 m.data f1 W2 (hr7.below b12) hmd)
  obtain ⟨A7,c7,rfl,-⟩:=rSl.head hr7
  clear hown hones hv7 hr7 hb1 KZ hW2 K2 b12 hZs
  go_wp2_with (first
   | (refine wpList_store_mid rfl 119 (.tmp 8) (.tmp 16) rfl w1.heap.size 0 cs rfl rfl HTH.out HI2.out HON.out ?_;rw [HW2.out])
   | (go_at_call 138;refine HCL.out.mono ?_;rintro e w3 h3;obtain ⟨A3,c3,f3,e3,r3,m3,b3⟩:=h3.fresh;subst e3;have R3:=hid r3;have M3:=hid m3;have B3:=hid b3;clear h3 r3 m3 b3))
  go_ret2
  exact .inl ⟨m.data,A3,c3,f3,rfl,rfl,R3.out,M3.out.mono B2.out.size,B2.out.trans (B3.out.mono B2.out.size)⟩
 ·clear hones hb1 KZ hW2 K2 b12 hZs
  have HBC:=hid (blocks_c p fs d g row W2 (HH.out.below B2.out) hg (HT.out.row hg hr).1 (by rw [HDL.out];omega))
  have hbl:(blocksF d g row).length = nd + ns:=by unfold blocksF;rw [List.length_map];exact HDL.out
  have HBL:=hid hbl
  have hsz2:=B2.out.size
  have HOWN:=hid hown
  clear hbl hown
  by_cases qg:(g:Int) < d.shape.groups
  ·have hin:insB (g:Int) 0 (d.shape.groups - 1) = true:=insB_t (by omega) (by omega)
   have e1:X = decF nd (blocksF d g row):=by rw [← HX.out,hereF_data HOWN.out qg,HND.out];rfl
   have HE1:=hid e1
   clear qg e1
   go_wp2_with (first
    | (refine wpList_store_mid rfl 119 (.tmp 8) (.tmp 16) rfl w1.heap.size 0 cs rfl rfl HTH.out HI2.out HON.out ?_;rw [HW2.out])
    | (go_at_call 186;refine HBC.out.mono ?_;rintro e w3 ⟨A3,c3,f3,rfl,o3,g3,b3⟩;rw [HBL.out] at o3 ⊢;have O3:=hid o3;have B3:=hid (B2.out.trans (b3.mono B2.out.size));have hl3:=Nat.lt_of_lt_of_le lp B3.out.size;obtain ⟨A0',A1',A2',c0',c1',c2',f0',f1',f2',HC3⟩:=(HH.out.below B3.out).cells;have HSH:=hid HC3.shape;have HD:=hid (isData_c d.shape.sh HT.out.ok (g:Int) w3);unfold shV at HD;rw [show d.shape.sh.groups = d.shape.groups from rfl,hin] at HD;clear o3 g3 b3 HC3)
    | (refine wpList_load_mid rfl 31 (.tmp 28) rfl p 0 rfl [.int .i64 d.shape.groups,.int .i64 d.shape.column,.int .i64 d.shape.data,.int .i64 d.shape.spare,.int .i64 d.shape.rows,.int .i64 d.shape.cap,.int .i64 d.shape.batch,.int .i64 d.shape.queue,.int .i64 d.shape.stage] _ HSH.out Tryz.underlying31 rfl (by kernel_rfl) ?_)
    | (go_at_call 187;refine HD.out.mono ?_;rintro e w4 ⟨rfl,b4⟩;have B4:=hid (B3.out.trans (b4.mono B3.out.size));have B34:=hid b4;have hl4:=Nat.lt_of_lt_of_le lp B4.out.size;obtain ⟨A0'',A1'',A2'',c0'',c1'',c2'',f0'',f1'',f2'',HC4⟩:=(HH.out.below B4.out).cells;have HSH4:=hid HC4.shape;have HR:=hid (row_c d.shape.sh w4);unfold shV at HR;rw [show d.shape.sh.data = d.shape.data from rfl,show d.shape.sh.spare = d.shape.spare from rfl] at HR;clear b4 HC4)
    | (refine wpList_load_mid rfl 31 (.tmp 39) rfl p 0 rfl [.int .i64 d.shape.groups,.int .i64 d.shape.column,.int .i64 d.shape.data,.int .i64 d.shape.spare,.int .i64 d.shape.rows,.int .i64 d.shape.cap,.int .i64 d.shape.batch,.int .i64 d.shape.queue,.int .i64 d.shape.stage] _ HSH4.out Tryz.underlying31 rfl (by kernel_rfl) ?_)
    | (go_at_call 189;refine HR.out.mono ?_;rintro e w5 ⟨rfl,b5⟩;have B5:=hid (B4.out.trans (b5.mono B4.out.size));have B35:=hid (B34.out.trans (b5.mono B34.out.size));clear b5))
   obtain ⟨gr,hgr,-⟩:=O3.out.reads
   have hO4:=HT.out.blocks4 hg hr
   have HDC:=hid (rowDecode_c nd ns (.slice A3 (nd + ns) c3) (blocksF d g row) (gr ++ f3) w5 (rSl.below rLists.loc rLists.fix hgr B35.out) hnd1 hnd3 (by rw [HBL.out];omega) hO4)
   clear hgr hO4
   rw [← HE1.out] at HDC
   rw [HND.out,HNS.out]
   refine HDC.out.mono ?_
   rintro e w6 (⟨D,A6,c6,f6,e6,rfl,r6,m6,b6⟩ | ⟨e6,rfl,b6⟩)
   ·have R6:=hid r6
    have M6:=hid m6
    have B6:=hid b6
    have E6:=hid e6
    clear r6 m6 b6 e6
    go_wp2_with fail
    go_ret2
    exact .inl ⟨D,A6,c6,f6,E6.out,rfl,R6.out,M6.out.mono B5.out.size,B5.out.trans (B6.out.mono B5.out.size)⟩
   ·have B6:=hid b6
    have E6:=hid e6
    clear b6 e6
    go_wp2_with fail
    go_ret2
    exact .inr ⟨E6.out,rfl,B5.out.trans (B6.out.mono B5.out.size)⟩
  ·have hin:insB (g:Int) 0 (d.shape.groups - 1) = false:=insB_hi (by omega)
   have e1:X = decF nd (willF d (undF d.shape.groups (cntW d) (g:Int)) g row):=by rw [← HX.out,hereF_par HOWN.out qg,HND.out];rfl
   have HE1:=hid e1
   have hPar:=HT.out.par hg (by omega) hr
   have hO4:=HT.out.will4 hg (by omega) hr
   have HWC:=hid (fun (W:World) (hW:Below w.heap.size w W) => willBe_c p fs d g row W (HH.out.below hW) HT.out.sm hPar)
   obtain ⟨Wf,hWf⟩:∃ Wf,willF d (undF d.shape.groups (cntW d) (g:Int)) g row = Wf:=⟨_,rfl⟩
   have hwl:Wf.length = nd + ns:=by rw [← hWf];unfold willF;rw [willL_length];exact HDL.out
   rw [hWf] at HWC HE1 hO4
   have HWL:=hid hwl
   have HO4:=hid hO4
   clear qg e1 hPar hwl hO4 hWf
   go_wp2_with (first
    | (refine wpList_store_mid rfl 119 (.tmp 8) (.tmp 16) rfl w1.heap.size 0 cs rfl rfl HTH.out HI2.out HON.out ?_;rw [HW2.out])
    | (go_at_call 186;refine HBC.out.mono ?_;rintro e w3 ⟨A3,c3,f3,rfl,o3,g3,b3⟩;have B3:=hid (B2.out.trans (b3.mono B2.out.size));have hl3:=Nat.lt_of_lt_of_le lp B3.out.size;obtain ⟨A0',A1',A2',c0',c1',c2',f0',f1',f2',HC3⟩:=(HH.out.below B3.out).cells;have HSH:=hid HC3.shape;have HD:=hid (isData_c d.shape.sh HT.out.ok (g:Int) w3);unfold shV at HD;rw [show d.shape.sh.groups = d.shape.groups from rfl,hin] at HD;clear o3 g3 b3 HC3)
    | (refine wpList_load_mid rfl 31 (.tmp 28) rfl p 0 rfl [.int .i64 d.shape.groups,.int .i64 d.shape.column,.int .i64 d.shape.data,.int .i64 d.shape.spare,.int .i64 d.shape.rows,.int .i64 d.shape.cap,.int .i64 d.shape.batch,.int .i64 d.shape.queue,.int .i64 d.shape.stage] _ HSH.out Tryz.underlying31 rfl (by kernel_rfl) ?_)
    | (go_at_call 187;refine HD.out.mono ?_;rintro e w4 ⟨rfl,b4⟩;have B4:=hid (B3.out.trans (b4.mono B3.out.size));have HW:=hid (HWC.out w4 B4.out);clear b4)
    | (go_at_call 188;refine HW.out.mono ?_;rintro e w7 ⟨A7,c7,f7,rfl,r7,b7⟩;rw [HWL.out] at r7 ⊢;have R7:=hid r7;have B7:=hid (B4.out.trans (b7.mono B4.out.size));have hl7:=Nat.lt_of_lt_of_le lp B7.out.size;obtain ⟨A0'',A1'',A2'',c0'',c1'',c2'',f0'',f1'',f2'',HC4⟩:=(HH.out.below B7.out).cells;have HSH4:=hid HC4.shape;have HR:=hid (row_c d.shape.sh w7);unfold shV at HR;rw [show d.shape.sh.data = d.shape.data from rfl,show d.shape.sh.spare = d.shape.spare from rfl] at HR;clear r7 b7 HC4)
    | (refine wpList_load_mid rfl 31 (.tmp 39) rfl p 0 rfl [.int .i64 d.shape.groups,.int .i64 d.shape.column,.int .i64 d.shape.data,.int .i64 d.shape.spare,.int .i64 d.shape.rows,.int .i64 d.shape.cap,.int .i64 d.shape.batch,.int .i64 d.shape.queue,.int .i64 d.shape.stage] _ HSH4.out Tryz.underlying31 rfl (by kernel_rfl) ?_)
    | (go_at_call 189;refine HR.out.mono ?_;rintro e w5 ⟨rfl,b5⟩;have B5:=hid (B7.out.trans (b5.mono B7.out.size));have B35:=hid b5;clear b5))
   have HDC:=hid (rowDecode_c nd ns (.slice A7 (nd + ns) c7) Wf f7 w5 (rSl.below rLists.loc rLists.fix R7.out B35.out) hnd1 hnd3 (by rw [HWL.out];omega) HO4.out)
   rw [← HE1.out] at HDC
   rw [HND.out,HNS.out]
   refine HDC.out.mono ?_
   rintro e w6 (⟨D,A6,c6,f6,e6,rfl,r6,m6,b6⟩ | ⟨e6,rfl,b6⟩)
   ·have R6:=hid r6
    have M6:=hid m6
    have B6:=hid b6
    have E6:=hid e6
    clear r6 m6 b6 e6
    go_wp2_with fail
    go_ret2
    exact .inl ⟨D,A6,c6,f6,E6.out,rfl,R6.out,M6.out.mono B5.out.size,B5.out.trans (B6.out.mono B5.out.size)⟩
   ·have B6:=hid b6
    have E6:=hid e6
    clear b6 e6
    go_wp2_with fail
    go_ret2
    exact .inr ⟨E6.out,rfl,B5.out.trans (B6.out.mono B5.out.size)⟩
theorem trueRow_c (p:Nat) (fs:List Addr) (d:WorldD) (g row:Nat) (w:World) (h:AtW w p fs d) (hT:TrueOk d) (hg:g < d.groups.length) (hr:(row:Int) < d.shape.rows) :
  Calls Tryz.prog 55 #[.pointer (some ⟨p,0,none⟩),.int .i64 (g:Int),.int .i64 (row:Int)] w (OptB (rowF d g row) w):=by
 obtain ⟨a1,a2⟩:=hT.ok.data
 obtain ⟨b1,b2⟩:=hT.ok.groups
 obtain ⟨b3,b4⟩:=hT.ok.column
 simp only [ShapeD.sh] at a1 a2 b1 b2 b3 b4
 have hgl:=hT.gl
 have HH:=hid h
 have HT:=hid hT
 have lp:p < w.heap.size:=by obtain ⟨A0,A1,A2,c0,c1,c2,f0,f1,f2,HC⟩:=h.cells;exact HC.lt
 have HHR:=hid (fun (W:World) (hW:Below w.heap.size w W) (k:Nat) (hk:k < d.groups.length) => here_c p fs d k row W (h.below hW) hT hk hr)
 obtain ⟨nd,hnd⟩:∃ nd:Nat,d.shape.data = nd:=⟨d.shape.data.toNat,by omega⟩
 obtain ⟨ng,hng⟩:∃ ng:Nat,d.shape.groups = ng:=⟨d.shape.groups.toNat,by omega⟩
 obtain ⟨nc,hnc⟩:∃ nc:Nat,d.shape.column = nc:=⟨d.shape.column.toNat,by omega⟩
 have HND:=hid hnd
 have HNG:=hid hng
 have HNC:=hid hnc
 have hnd3:nd ≤ 3:=by omega
 have hng1:1 ≤ ng:=by omega
 have hng4:ng ≤ 4:=by omega
 have hnc2:nc ≤ 2:=by omega
 have HGL:=hid (show d.groups.length = ng + nc by omega)
 have hg2:g < ng + nc:=by omega
 clear h hT hnd hng hnc a1 a2 b1 b2 b3 b4 hgl
 go_enter Tryz.func55,Tryz.ntmps55
 go_wp2_with fail
 refine (HHR.out w (Below.refl _ _) g hg).mono ?_
 rintro e w1 (⟨D,A6,c6,f6,e6,rfl,r6,m6,b6⟩ | ⟨e6,rfl,b6⟩)
 ·have R6:=hid r6
  have B6:=hid b6
  have M6:=hid m6
  have E6:=hid (rowF_here e6)
  clear r6 b6 e6 m6
  go_wp2_with fail
  go_ret2
  exact .inl ⟨D,A6,c6,f6,E6.out,rfl,R6.out,M6.out,B6.out⟩
 ·have B1:=hid b6
  have hrc:=rowF_col e6
  rw [HND.out,HNG.out,HNC.out,Int.toNat_natCast,Int.toNat_natCast,Int.toNat_natCast] at hrc
  have HRC:=hid hrc
  have s1:=b6.size
  have lp1:p < w1.heap.size:=Nat.lt_of_lt_of_le lp s1
  have HSHF:=hid (show ∀ W,Below w.heap.size w W → W.rangeAt p 0 [.int .i64 d.shape.groups,.int .i64 d.shape.column,.int .i64 d.shape.data,.int .i64 d.shape.spare,.int .i64 d.shape.rows,.int .i64 d.shape.cap,.int .i64 d.shape.batch,.int .i64 d.shape.queue,.int .i64 d.shape.stage] from fun W hW => by
   obtain ⟨A0',A1',A2',c0',c1',c2',f0',f1',f2',HC1⟩:=(HH.out.below hW).cells
   exact HC1.shape)
  have HE:=hid (OwnL.emptyL (w:=w1))
  have hb2:Below w1.heap.size w1 (w1.alloc (.cells #[] 39)):=belowAlloc (Below.refl _ _) _
  have HB2:=hid hb2
  have HSH:=hid (HSHF.out _ (b6.trans (hb2.mono s1)))
  have hall:=shapeAll_c d.shape.sh HT.out.ok (w1.alloc (.cells #[] 39))
  unfold shV at hall
  rw [show d.shape.sh.groups + d.shape.sh.column = ((ng + nc:Nat):Int) from by show d.shape.groups + d.shape.column = _;rw [HNG.out,HNC.out];rfl] at hall
  have HALL:=hid hall
  clear e6 b6 hrc hb2 hall
  go_wp2_with (first
   | (refine wpList_load_mid rfl 31 (.tmp 28) rfl p 0 rfl [.int .i64 d.shape.groups,.int .i64 d.shape.column,.int .i64 d.shape.data,.int .i64 d.shape.spare,.int .i64 d.shape.rows,.int .i64 d.shape.cap,.int .i64 d.shape.batch,.int .i64 d.shape.queue,.int .i64 d.shape.stage] _ HSH.out Tryz.underlying31 rfl (by kernel_rfl) ?_)
   | (go_at_call 101;refine HALL.out.mono ?_;rintro e w2 ⟨rfl,b2⟩;have B2:=hid (HB2.out.trans (b2.mono (by simp)));have HE3:=hid (HE.out.below rLists.loc rLists.fix b2);clear b2))
  go_loopw [31,10,11,12,13] (fun i o _ _ _ wr => ∃ (k:Nat) (A:Option Addr) (c3:Nat) (fo:List Addr),k ≤ ng + nc ∧ i = .int .i64 k ∧ o = .slice A k c3 ∧ Hid (OwnL 1 39 (rSlice 1 rByte) wr w1.heap.size o ((listsF d row).take k) fo) ∧ Hid (Below w1.heap.size w1 wr)) (fun i _ _ _ _ _ => ng + nc - (intOf i).toNat)
  case atStart => exact ⟨0,_,0,[],by omega,rfl,rfl,HE3.out,B2.out⟩
  case round =>
   obtain ⟨k,A,c3,fo,hk,rfl,rfl,HO,HB⟩:=hrel
   clear HE HE3 B2
   have sB:=HB.out.size
   have HBS:=hid sB
   have HBW:=hid (B1.out.trans (HB.out.mono s1))
   by_cases hkn:k < ng + nc
   ·have HC:=hid (HHR.out wr HBW.out k (by rw [HGL.out];exact hkn))
    have hst:=listsF_take d row (show k < d.groups.length by rw [HGL.out];exact hkn)
    have hlen:((listsF d row).take k).length = k:=by rw [List.length_take,listsF_length,HGL.out];omega
    have HST:=hid hst.symm
    have HLEN:=hid hlen
    have hki:(k:Int) < ((ng:Int) + (nc:Int)):=by omega
    clear hst hlen
    go_wp2_with fail
    refine HC.out.mono ?_
    rintro e w3 (⟨D,A6,c6,f6,e6,rfl,r6,m6,b6⟩ | ⟨e6,rfl,b6⟩)
    ·have hs3:=HST.out
     rw [e6,Option.getD_some] at hs3
     have HAP:=hid (Tryz.addAny (wr:=wr) (W:=w3.alloc (.cells #[.slice A6 D.length c6] 39)) (b:=w3.heap.size) (ve:=.slice A6 D.length c6) (f:=f6) (L:=D) HO.out HBS.out (by rw [HLEN.out];omega) (belowAlloc b6 _) (Blk.new _ _ _) (r6.below (belowAlloc (Below.refl _ _) _)) (fun a ha => .inr (m6.from_ a ha)))
     rw [HLEN.out,hs3] at HAP
     clear e6 r6 m6 b6 hs3
     go_wp2_with (at_builtin;refine wpList_append_of rfl (.tmp 41) (.tmp 43) 83 rfl _ _ (by rfl) (by rfl) HAP.out ?_;rintro v8 w8 ⟨A8,c8,h8,rfl,o8,B8,e8,s8⟩;have HO8:=hid o8;have HB8:=hid B8;clear o8 B8 s8)
     go_roundw
     case rel => exact ⟨k + 1,A8,c8,_,by omega,by go_num,rfl,HO8.out,HB.out.trans HB8.out⟩
     case measure => simp [intOf];omega
    ·have hs3:=HST.out
     rw [e6,Option.getD_none] at hs3
     have HAP:=hid (Tryz.addAny (wr:=wr) (W:=w3.alloc (.cells #[.slice none 0 0] 39)) (b:=w3.heap.size) (ve:=.slice none 0 0) (f:=[]) (L:=[]) HO.out HBS.out (by rw [HLEN.out];omega) (belowAlloc b6 _) (Blk.new _ _ _) (rBytes.empty (by omega)) (fun a ha => by cases ha))
     rw [HLEN.out,hs3] at HAP
     clear e6 b6 hs3
     go_wp2_with (at_builtin;refine wpList_append_of rfl (.tmp 41) (.tmp 43) 83 rfl _ _ (by rfl) (by rfl) HAP.out ?_;rintro v8 w8 ⟨A8,c8,h8,rfl,o8,B8,e8,s8⟩;have HO8:=hid o8;have HB8:=hid B8;clear o8 B8 s8)
     go_roundw
     case rel => exact ⟨k + 1,A8,c8,_,by omega,by go_num,rfl,HO8.out,HB.out.trans HB8.out⟩
     case measure => simp [intOf];omega
   ·obtain rfl:k = ng + nc:=by omega
    have ho:=HO.out
    have hll:(listsF d row).length = ng + nc:=by rw [listsF_length];exact HGL.out
    rw [List.take_of_length_le (by omega)] at ho
    obtain ⟨gr,hgr,-⟩:=ho.reads
    have hall4:=listsF_all HT.out hr
    rw [HND.out,Int.toNat_natCast] at hall4
    have HDC:=hid (fun (W:World) (hW:Below wr.heap.size wr W) => colDecode_c ng nc (.slice A (ng + nc) c3) (listsF d row) (gr ++ fo) W (4 * nd) (rSl.below rLists.loc rLists.fix hgr hW) hng1 hng4 hnc2 (by rw [hll];omega) hall4 (by omega))
    have hcs:=columns_c d.shape.sh wr
    unfold shV at hcs
    rw [show d.shape.sh.groups = (ng:Int) from HNG.out,show d.shape.sh.column = (nc:Int) from HNC.out] at hcs
    have hsh:=HSHF.out wr HBW.out
    rw [HNG.out,HNC.out] at hsh
    have HSH2:=hid hsh
    have HCS:=hid hcs
    have lp2:p < wr.heap.size:=Nat.lt_of_lt_of_le lp1 sB
    obtain ⟨Y,hY⟩:∃ Y,colF (4 * nd) ng nc (listsF d row) = Y:=⟨_,rfl⟩
    rw [hY] at HDC HRC
    have HY:=hid hY
    clear ho hll hgr hall4 hcs hsh hY
    go_wp2_with (first
     | (refine wpList_load_mid rfl 31 (.tmp 49) rfl p 0 rfl [.int .i64 (ng:Int),.int .i64 (nc:Int),.int .i64 d.shape.data,.int .i64 d.shape.spare,.int .i64 d.shape.rows,.int .i64 d.shape.cap,.int .i64 d.shape.batch,.int .i64 d.shape.queue,.int .i64 d.shape.stage] _ HSH2.out Tryz.underlying31 rfl (by kernel_rfl) ?_)
     | (go_at_call 47;refine HCS.out.mono ?_;rintro e w5 ⟨rfl,b5⟩;have HDD:=hid (HDC.out w5 b5);have B5:=hid (HBW.out.trans (b5.mono HBW.out.size));clear b5))
    refine HDD.out.mono ?_
    rintro e w6 (⟨L,A9,c9,f9,e9,rfl,r9,m9,b9⟩ | ⟨e9,rfl,b9⟩)
    ·have hL:L.length = ng + nc:=by
      have h1:=HY.out
      rw [e9] at h1
      unfold colF at h1
      split at h1
      ·cases h1
      ·injection h1 with h1
       rw [← h1];exact colAt_length _ _ _ _ _
     obtain ⟨A9',c9',e9',-,-,hx9⟩:=rLists.open_ r9
     injection e9' with e91 _ e93
     subst e91 e93
     have hgl9:g < L.length:=by omega
     obtain ⟨ad9,A10,c10,f10,e10,bl10,p10,r10,t10,s10,-⟩:=hx9 g hgl9
     subst e10
     have hgi:(g:Int) < (L.length:Int):=by omega
     have hm:=rBytes.mine (lo:=w5.heap.size) r10 (fun a ha => ⟨m9.from_ a (s10 a ha),m9.free a (s10 a ha)⟩)
     have hR:rowF d g row = some (L[g]'hgl9):=by
      rw [HRC.out,e9,Option.map_some]
      simp [List.getD_eq_getElem?_getD,hL,hg2]
     have HR:=hid hR
     have HM:=hid hm
     have R10:=hid r10
     have B9:=hid (B5.out.trans (b9.mono B5.out.size))
     clear hx9 r9 m9 b9 t10 s10 hm hR r10 hL e9
     go_wp2_with fail
     go_ret2
     exact .inl ⟨L[g],A10,c10,f10,HR.out,rfl,R10.out,HM.out.mono B5.out.size,B9.out⟩
    ·have hR:rowF d g row = none:=by rw [HRC.out,e9];rfl
     have HR:=hid hR
     have B9:=hid (B5.out.trans (b9.mono B5.out.size))
     clear b9 hR e9
     go_wp2_with fail
     go_ret2
     exact .inr ⟨HR.out,rfl,B9.out⟩
end Go.Proofs.YtfjkoifpdoemdaaGreat
