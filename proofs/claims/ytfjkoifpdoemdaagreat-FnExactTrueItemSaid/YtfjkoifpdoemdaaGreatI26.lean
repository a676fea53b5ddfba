/-
  Part 26 of the proof.
-/
import Derived.Test.YtfjkoifpdoemdaaGreatI19
import Derived.Test.YtfjkoifpdoemdaaGreatI17
import Derived.Test.YtfjkoifpdoemdaaGreatI09
set_option maxHeartbeats 8000000
set_option maxRecDepth 100000
set_option linter.unusedVariables false
set_option linter.unusedSimpArgs false
open Go.Value (int)
open Go.IntKind (i64)
namespace Go.Proofs.YtfjkoifpdoemdaaGreat
open Go.RowKit Go.Lib Go.Sort
theorem hv_count {bl:List (List UInt8)} {L:List AL}(h:∀k,(hk:k<L.length)→(0<(bl.getD k []).length↔L[k].wiped =false)):∀j,j≤L.length→(Bp bl j).length +Gn L j=j:=by
 intro j;induction j with
 |zero => intro _;simp[F2,Gn]
 |succ j ih =>
  intro hj;have h1:=ih (by omega);have h2:=h j (by omega);rw[Fb,LB (by omega),List.length_append];cases hw:L[j].wiped with
  |true =>
   have h3:¬0<(bl.getD j []).length:=fun h4 => by rw[hw]at h2;cases h2.1 h4
   rw[if_neg h3];simp;omega
  |false =>
   rw[if_pos (h2.2 hw)];simp;omega
theorem Lt {n s:Nat} {bl:List (List UInt8)} {L:List AL}(hl:bl.length=L.length)(hn:L.length=n+s)(h:∀k,(hk:k<L.length)→(0<(bl.getD k []).length↔L[k].wiped =false))(hd:s<Gn L L.length):Da n bl=none:=by
 have h1:=hv_count h L.length (Nat.le_refl _);unfold Da;rw[if_pos];rw[JC,List.length_take,hl];omega
theorem Qz(enc:Ai→List (List UInt8))(row:Nat)(L:List AL):FE enc row [] L=L.map (CP row):=by
 apply List.ext_getElem
 ·rw[Cn,List.length_map]
 ·intro k h1 h2;rw[Cn]at h1;rw[FM _ _ _ _ h1,List.getElem_map];rfl
theorem OV {row:Nat} {dr:AL}(h4:(Cd dr row).bytes.length =4):0<(CP row dr).length↔dr.wiped=false:=by
 unfold CP;cases dr.wiped with
 |true => simp
 |false => simp[h4]
theorem BO.dead {d:Am}(h:BO d) {g row:Nat}(hg:g<d.g.length)(hr:(row:Int)<d.s.rows)(hd:J5 d g=true)(ho:D8 d.s.g (AM d) (g:Int) (row:Int)=none):C6 d g row=none:=by
 obtain⟨a1,a2⟩:=h.ok.data;obtain⟨b1,b2⟩:=h.ok.p;simp only[AW.sh]at a1 a2 b1 b2;have hdl:=h.dl g hg;have hw:d.s.p<(Gn (AJ d g) (AJ d g).length:Int):=of_decide_eq_true hd;have h4:=(h.row hg hr).2;by_cases qg:(g:Int)<d.s.g
 ·rw[F0 ho qg];refine Lt (s:=d.s.p.toNat) (L:=AJ d g) (by simp[Bq]) (by omega) (fun k hk => ?_) (by omega);have e:(Bq d g row).getD k [] =CP row (AJ d g)[k]:=by unfold Bq;simp[List.getD_eq_getElem?_getD,hk]
  rw[e];exact OV (h4 _ (List.getElem_mem hk))
 ·rw[GI ho qg];refine Lt (s:=d.s.p.toNat) (L:=AJ d g) (by unfold CE;rw[Cn]) (by omega) (fun k hk => ?_) (by omega);have hk2:k<(CE d (Ch d.s.g (AM d) (g:Int)) g row).length:=by unfold CE;rw[Cn];exact hk
  have e:(CE d (Ch d.s.g (AM d) (g:Int)) g row).getD k [] =F4 (BV d g) row (Ch d.s.g (AM d) (g:Int)) k (AJ d g)[k]:=by
   rw[List.getD_eq_getElem?_getD,List.getElem?_eq_getElem hk2,Option.getD_some];unfold CE;exact FM _ _ _ _ hk
  rw[e];unfold F4;have hl:=Dm (b:=(Cd (AJ d g)[k] row).bytes) (stamp:=(Cd (AJ d g)[k] row).stamp) (row:=(row:Int)) (fun m hm =>((h.par hg (by omega) hr).enc hk m hm).1) (h4 _ (List.getElem_mem hk));cases(AJ d g)[k].wiped with
  |true => simp
  |false => rw[if_neg (by simp),hl];simp
def Bz(d:Am)(row:Nat):List (List UInt8):=(List.range d.g.length).map fun g =>(C6 d g row).getD []
def Eh(d:Am)(g row:Nat):Option (List UInt8) :=
 match C6 d g row with
 |some b => some b
 |none =>(EF (4 * d.s.data.toNat) d.s.g.toNat d.s.c.toNat (Bz d row)).map fun L => L.getD g []
theorem IC {d:Am} {g row:Nat} {b:List UInt8}(h:C6 d g row=some b):Eh d g row=some b:=by unfold Eh;rw[h]
theorem JB {d:Am} {g row:Nat}(h:C6 d g row=none):Eh d g row=(EF (4 * d.s.data.toNat) d.s.g.toNat d.s.c.toNat (Bz d row)).map fun L => L.getD g []:=by unfold Eh;rw[h]
theorem Dv(d:Am)(row:Nat):(Bz d row).length =d.g.length:=by simp[Bz]
theorem Jq(d:Am)(row:Nat) {k:Nat}(h:k<d.g.length):(Bz d row).take (k+1)=(Bz d row).take k ++ [(C6 d k row).getD []]:=by
 rw[List.take_succ_eq_append_getElem (by rw[Dv];exact h)];simp[Bz]
theorem Iz {d:Am}(h:BO d) {g row:Nat}(hg:g<d.g.length)(hr:(row:Int)<d.s.rows) {b:List UInt8}(hb:C6 d g row=some b):b.length=4 * d.s.data.toNat:=by
 obtain⟨a1,a2⟩:=h.ok.data;obtain⟨b1,b2⟩:=h.ok.p;simp only[AW.sh]at a1 a2 b1 b2;have hdl:=h.dl g hg;have hdec:∀bl:List (List UInt8),bl.length=(AJ d g).length→C5 bl 4→∀b,Da d.s.data.toNat bl=some b→b.length=4 * d.s.data.toNat:=fun bl hl hO b hd => by
  unfold Da at hd;split at hd
  ·cases hd
  ·rename_i hn
   injection hd with hd
   subst hd;have hv:=Fs d.s.data.toNat bl bl.length;have:=Ei (n:=d.s.data.toNat) (bl:=bl) (by omega) (by omega) (by omega) hO (by omega) d.s.data.toNat (Nat.le_refl _);omega
 cases ho:D8 d.s.g (AM d) (g:Int) (row:Int)with
 |some m =>
  rw[Ik ho]at hb;injection hb with hb
  subst hb;obtain⟨q1,q2⟩:=Ms ho;obtain⟨-,-,q3,-⟩:=h.mv m (EC _ _ rfl m q1) q2;omega
 |none =>
  by_cases qg:(g:Int)<d.s.g
  ·rw[F0 ho qg]at hb;exact hdec _ (by simp[Bq]) (h.blocks4 hg hr) _ hb
  ·rw[GI ho qg]at hb;exact hdec _ (by unfold CE;rw[Cn]) (h.will4 hg (by omega) hr) _ hb
theorem Hq {d:Am}(h:BO d) {row:Nat}(hr:(row:Int)<d.s.rows):C5 (Bz d row) (4 * d.s.data.toNat):=fun l hl => by
 obtain⟨g,hg,rfl⟩:=List.mem_map.1 hl;have hg':=List.mem_range.1 hg;cases hb:C6 d g row with
 |none => exact .inl rfl
 |some b => exact .inr (Iz h hg' hr hb)
theorem Nq {d:Am}(h:BO d) {g row:Nat}(hg:g<d.g.length)(hr:(row:Int)<d.s.rows) {b:List UInt8}(hb:Eh d g row=some b):b.length=4 * d.s.data.toNat:=by
 obtain⟨a1,a2⟩:=h.ok.g;obtain⟨b1,b2⟩:=h.ok.c;simp only[AW.sh]at a1 a2 b1 b2;have hgl:=h.gl;have hll:=Dv d row;cases hh:C6 d g row with
 |some b' =>
  rw[IC hh]at hb;injection hb with hb
  subst hb;exact Iz h hg hr hh
 |none =>
  rw[JB hh]at hb;unfold EF at hb;split at hb
  ·cases hb
  ·rename_i hn
   injection hb with hb
   dsimp only at hb;have hv:=Fs d.s.g.toNat (Bz d row) (Bz d row).length;have e:(Ea (4 * d.s.data.toNat) d.s.g.toNat (Bz d row) (AI d.s.g.toNat (Bz d row) (Bz d row).length) (d.s.g.toNat+d.s.c.toNat)).getD g [] =DQ (4 * d.s.data.toNat) d.s.g.toNat (Bz d row) (AI d.s.g.toNat (Bz d row) (Bz d row).length) g:=by
    have hgg:g<d.s.g.toNat+d.s.c.toNat:=by omega
    simp[Ea,List.getD_eq_getElem?_getD,hgg]
   rw[e]at hb;obtain⟨-,-,-,-,q⟩:=Fu (m:=4 * d.s.data.toNat) (n:=d.s.g.toNat) (bl:=Bz d row) (i:=g) (by omega) (by omega) (by omega) (Hq h hr) (by omega) (by omega);rw[← hb];exact q
theorem Ag.mine {w:World} {f:List Addr} {v:Value} {l:List UInt8} {lo:Nat}(h:Ag w f v l)(hf:∀a,a∈f→lo≤a.block∧w.frozen? a=false):Az lo w f:=by
 refine⟨?_,fun a ha =>(hf a ha).1,fun a ha =>(hf a ha).2⟩;obtain⟨A,c,e,h1,h2,h3⟩:=h;rcases h3 with⟨-,rfl⟩|⟨ad,css,fss,-,e2,e3,rfl,h3⟩
 ·exact List.nodup_nil
 ·have hfl:fss.flatten= []:=by
   rw[List.flatten_eq_nil_iff];intro x hx;obtain⟨i,hi,rfl⟩:=List.getElem_of_mem hx;obtain⟨q1,q2,q3,q4,hfi,hcs⟩:=h3 i (by omega);exact hfi
  rw[hfl,List.append_nil];cases hl:l.length with
  |zero => rw[Nat.zero_mul];exact List.nodup_nil
  |succ n =>
   obtain⟨q1,q2,q3,q4,hfi,hcs⟩:=h3 0 (by omega);have hc:=q4 0 (by omega);obtain⟨b,o,hP⟩:=I9 hc;have h0:ad.add 0=ad:=addZero ad;have hP':ad=⟨b,o,none⟩:=by rw[← h0];simpa using hP
   exact DF (by rw[hP'])
theorem here_c(p:Nat)(fs:List Addr)(d:Am)(g row:Nat)(w:World)(h:AtW w p fs d)(hT:BO d)(hg:g<d.g.length)(hr:(row:Int)<d.s.rows) :
  Calls Tryz.prog 109 #[.pointer (some ⟨p,0,none⟩),int i64 (g:Int),int i64 (row:Int)] w (GX (C6 d g row) w):=by
 obtain⟨a1,a2⟩:=hT.ok.data;obtain⟨b1,b2⟩:=hT.ok.p;simp only[AW.sh]at a1 a2 b1 b2;have hdl:=hT.dl g hg;have HLM:=hid (NY p fs d (g:Int) (row:Int) w h hT.ok (by omega) hT.sm);have HH:=hid h;have HT:=hid hT;have hks:(Tryz.prog.info? 119).map (·.size)=some 9:=by kernel_rfl
 have lp:p<w.heap.size:=by obtain⟨A0,A1,A2,c0,c1,c2,f0,f1,f2,HC⟩:=h.cells;exact HC.lt
 obtain⟨X,hX⟩:∃X,C6 d g row=X:=⟨_,rfl⟩;rw[hX];have HX:=hid hX;obtain⟨nd,hnd⟩:∃nd:Nat,d.s.data=nd:=⟨d.s.data.toNat,by omega⟩;obtain⟨ns,hns⟩:∃ns:Nat,d.s.p=ns:=⟨d.s.p.toNat,by omega⟩;have HND:=hid hnd;have HNS:=hid hns;have hnd1:1≤nd:=by omega
 have hnd3:nd≤3:=by omega
 have hns2:ns≤2:=by omega
 have HDL:=hid (show(AJ d g).length =nd+ns by omega);clear h hT hX hnd hns a1 a2 b1 b2 hdl;go_enter Tryz.func109,Tryz.ntmps109
 go_wp2_with fail
 refine HLM.out.mono ?_;rintro e w1 (⟨m,cs,f1,v1,hown,rfl,hcs,hones,hv7,hr7,hb1⟩|⟨hown,cs,rfl,hcs,hones,hb1⟩);all_goals
  have B1:=hid hb1;have HI2:=hid (show(Tryz.prog.info? 119).map (·.size)=some cs.size by rw[hcs];exact hks);have HON:=hid hones;obtain⟨Z,hZ⟩:∃Z:Array Value,#[int i64 0,int i64 0,.string ⟨#[]⟩,int i64 0,int i64 0,int i64 0,.slice none 0 0,.slice none 0 0,.slice none 0 0] =Z:=⟨_,rfl⟩;have hZs:Z.size=9:=by rw[← hZ];rfl
  have KZ:=Blk.new w1 119 Z;have HTH:=hid (Blk.there KZ cs.size (by rw[hcs,hZs];exact Nat.le_refl _));obtain⟨W2,hW2⟩:∃W2,(w1.alloc (.cells Z 119)).setCells w1.heap.size 0 cs.toList=W2:=⟨_,rfl⟩;have K2:Blk W2 w1.heap.size 119 cs:=by
   have:=Blk.laid KZ cs.toList (by rw[hZs,Array.length_toList,hcs]);rw[Array.toArray_toList]at this;rw[← hW2];exact this
  have b12:Below w1.heap.size w1 W2:=by rw[← hW2];exact AZ (Af (Below.refl _ _) _) _ 0 (Nat.le_refl _)
  have HW2:=hid hW2;have B2:=hid (hb1.trans (b12.mono hb1.size));have HK2:=hid K2
 ·have y7:W2.cell? ⟨w1.heap.size,7,none⟩=some v1:=by rw[K2.cell];exact hv7
  have gb:w1.heap.size<W2.heap.size:=K2.lt;have hmd:m.data.length≤1048576:=by
   obtain⟨q1,q2⟩:=Ms hown;obtain⟨-,-,q3,-⟩:=HT.out.mv m (EC _ _ rfl m q1) q2;have:=HND.out;omega
  have e1:X=some m.data:=by rw[← HX.out];exact Ik hown
  subst e1;have HCL:=hid (Gs v1 m.data f1 W2 (hr7.below b12) hmd);obtain⟨A7,c7,rfl,-⟩:=rSl.head hr7;clear hown hones hv7 hr7 hb1 KZ hW2 K2 b12 hZs;go_wp2_with (first
   |(refine wpList_store_mid rfl 119 (.tmp 8) (.tmp 16) rfl w1.heap.size 0 cs rfl rfl HTH.out HI2.out HON.out ?_;rw[HW2.out])
   |(go_at_call 138;refine HCL.out.mono ?_;rintro e w3 h3;obtain⟨A3,c3,f3,e3,r3,m3,b3⟩:=h3.fresh;subst e3;have R3:=hid r3;have M3:=hid m3;have B3:=hid b3;clear h3 r3 m3 b3))
  go_ret2
  exact .inl ⟨m.data,A3,c3,f3,rfl,rfl,R3.out,M3.out.mono B2.out.size,B2.out.trans (B3.out.mono B2.out.size)⟩
 ·clear hones hb1 KZ hW2 K2 b12 hZs;have HBC:=hid (LX p fs d g row W2 (HH.out.below B2.out) hg (HT.out.row hg hr).1 (by rw[HDL.out];omega));have hbl:(Bq d g row).length =nd+ns:=by unfold Bq;rw[List.length_map];exact HDL.out
  have HBL:=hid hbl;have hsz2:=B2.out.size;have HOWN:=hid hown;clear hbl hown;by_cases qg:(g:Int)<d.s.g
  ·have hin:An (g:Int) 0 (d.s.g - 1)=true:=Fe (by omega) (by omega);have e1:X=Da nd (Bq d g row):=by rw[← HX.out,F0 HOWN.out qg,HND.out];rfl
   have HE1:=hid e1;clear qg e1;go_wp2_with (first
    |(refine wpList_store_mid rfl 119 (.tmp 8) (.tmp 16) rfl w1.heap.size 0 cs rfl rfl HTH.out HI2.out HON.out ?_;rw[HW2.out])
    |(go_at_call 186;refine HBC.out.mono ?_;rintro e w3 ⟨A3,c3,f3,rfl,o3,g3,b3⟩;rw[HBL.out]at o3⊢;have O3:=hid o3;have B3:=hid (B2.out.trans (b3.mono B2.out.size));have hl3:=Nat.lt_of_lt_of_le lp B3.out.size;obtain⟨A0',A1',A2',c0',c1',c2',f0',f1',f2',HC3⟩:=(HH.out.below B3.out).cells;have HSH:=hid HC3.s;have HD:=hid (Gj d.s.sh HT.out.ok (g:Int) w3);unfold shV at HD;rw[show d.s.sh.g=d.s.g from rfl,hin]at HD;clear o3 g3 b3 HC3)
    |(refine wpList_load_mid rfl 31 (.tmp 28) rfl p 0 rfl _ _ HSH.out Tryz.underlying31 rfl (by kernel_rfl) ?_)
    |(go_at_call 187;refine HD.out.mono ?_;rintro e w4 ⟨rfl,b4⟩;have B4:=hid (B3.out.trans (b4.mono B3.out.size));have B34:=hid b4;have hl4:=Nat.lt_of_lt_of_le lp B4.out.size;obtain⟨A0'',A1'',A2'',c0'',c1'',c2'',f0'',f1'',f2'',HC4⟩:=(HH.out.below B4.out).cells;have HSH4:=hid HC4.s;have HR:=hid (row_c d.s.sh w4);unfold shV at HR;rw[show d.s.sh.data=d.s.data from rfl,show d.s.sh.p=d.s.p from rfl]at HR;clear b4 HC4)
    |(refine wpList_load_mid rfl 31 (.tmp 39) rfl p 0 rfl _ _ HSH4.out Tryz.underlying31 rfl (by kernel_rfl) ?_)
    |(go_at_call 189;refine HR.out.mono ?_;rintro e w5 ⟨rfl,b5⟩;have B5:=hid (B4.out.trans (b5.mono B4.out.size));have B35:=hid (B34.out.trans (b5.mono B34.out.size));clear b5))
   obtain⟨gr,hgr,-⟩:=O3.out.reads;have hO4:=HT.out.blocks4 hg hr;have HDC:=hid (Jk nd ns (.slice A3 (nd+ns) c3) (Bq d g row) (gr ++ f3) w5 (rSl.below Ap.loc Ap.fix hgr B35.out) hnd1 hnd3 (by rw[HBL.out];omega) hO4);clear hgr hO4;rw[← HE1.out]at HDC;rw[HND.out,HNS.out];refine HDC.out.mono ?_;rintro e w6 (⟨D,A6,c6,f6,e6,rfl,r6,m6,b6⟩|⟨e6,rfl,b6⟩)
   ·have R6:=hid r6;have M6:=hid m6;have B6:=hid b6;have E6:=hid e6;clear r6 m6 b6 e6;go_wp2_with fail
    go_ret2
    exact .inl ⟨D,A6,c6,f6,E6.out,rfl,R6.out,M6.out.mono B5.out.size,B5.out.trans (B6.out.mono B5.out.size)⟩
   ·have B6:=hid b6;have E6:=hid e6;clear b6 e6;go_wp2_with fail
    go_ret2
    exact .inr ⟨E6.out,rfl,B5.out.trans (B6.out.mono B5.out.size)⟩
  ·have hin:An (g:Int) 0 (d.s.g - 1)=false:=Gc (by omega);have e1:X=Da nd (CE d (Ch d.s.g (AM d) (g:Int)) g row):=by rw[← HX.out,GI HOWN.out qg,HND.out];rfl
   have HE1:=hid e1;have hPar:=HT.out.par hg (by omega) hr;have hO4:=HT.out.will4 hg (by omega) hr;have HWC:=hid (fun(W:World) (hW:Below w.heap.size w W) => willBe_c p fs d g row W (HH.out.below hW) HT.out.sm hPar);obtain⟨Wf,hWf⟩:∃Wf,CE d (Ch d.s.g (AM d) (g:Int)) g row=Wf:=⟨_,rfl⟩;have hwl:Wf.length=nd+ns:=by rw[← hWf];unfold CE;rw[Cn];exact HDL.out
   rw[hWf]at HWC HE1 hO4;have HWL:=hid hwl;have HO4:=hid hO4;clear qg e1 hPar hwl hO4 hWf;go_wp2_with (first
    |(refine wpList_store_mid rfl 119 (.tmp 8) (.tmp 16) rfl w1.heap.size 0 cs rfl rfl HTH.out HI2.out HON.out ?_;rw[HW2.out])
    |(go_at_call 186;refine HBC.out.mono ?_;rintro e w3 ⟨A3,c3,f3,rfl,o3,g3,b3⟩;have B3:=hid (B2.out.trans (b3.mono B2.out.size));have hl3:=Nat.lt_of_lt_of_le lp B3.out.size;obtain⟨A0',A1',A2',c0',c1',c2',f0',f1',f2',HC3⟩:=(HH.out.below B3.out).cells;have HSH:=hid HC3.s;have HD:=hid (Gj d.s.sh HT.out.ok (g:Int) w3);unfold shV at HD;rw[show d.s.sh.g=d.s.g from rfl,hin]at HD;clear o3 g3 b3 HC3)
    |(refine wpList_load_mid rfl 31 (.tmp 28) rfl p 0 rfl _ _ HSH.out Tryz.underlying31 rfl (by kernel_rfl) ?_)
    |(go_at_call 187;refine HD.out.mono ?_;rintro e w4 ⟨rfl,b4⟩;have B4:=hid (B3.out.trans (b4.mono B3.out.size));have HW:=hid (HWC.out w4 B4.out);clear b4)
    |(go_at_call 188;refine HW.out.mono ?_;rintro e w7 ⟨A7,c7,f7,rfl,r7,b7⟩;rw[HWL.out]at r7⊢;have R7:=hid r7;have B7:=hid (B4.out.trans (b7.mono B4.out.size));have hl7:=Nat.lt_of_lt_of_le lp B7.out.size;obtain⟨A0'',A1'',A2'',c0'',c1'',c2'',f0'',f1'',f2'',HC4⟩:=(HH.out.below B7.out).cells;have HSH4:=hid HC4.s;have HR:=hid (row_c d.s.sh w7);unfold shV at HR;rw[show d.s.sh.data=d.s.data from rfl,show d.s.sh.p=d.s.p from rfl]at HR;clear r7 b7 HC4)
    |(refine wpList_load_mid rfl 31 (.tmp 39) rfl p 0 rfl _ _ HSH4.out Tryz.underlying31 rfl (by kernel_rfl) ?_)
    |(go_at_call 189;refine HR.out.mono ?_;rintro e w5 ⟨rfl,b5⟩;have B5:=hid (B7.out.trans (b5.mono B7.out.size));have B35:=hid b5;clear b5))
   have HDC:=hid (Jk nd ns (.slice A7 (nd+ns) c7) Wf f7 w5 (rSl.below Ap.loc Ap.fix R7.out B35.out) hnd1 hnd3 (by rw[HWL.out];omega) HO4.out);rw[← HE1.out]at HDC;rw[HND.out,HNS.out];refine HDC.out.mono ?_;rintro e w6 (⟨D,A6,c6,f6,e6,rfl,r6,m6,b6⟩|⟨e6,rfl,b6⟩)
   ·have R6:=hid r6;have M6:=hid m6;have B6:=hid b6;have E6:=hid e6;clear r6 m6 b6 e6;go_wp2_with fail
    go_ret2
    exact .inl ⟨D,A6,c6,f6,E6.out,rfl,R6.out,M6.out.mono B5.out.size,B5.out.trans (B6.out.mono B5.out.size)⟩
   ·have B6:=hid b6;have E6:=hid e6;clear b6 e6;go_wp2_with fail
    go_ret2
    exact .inr ⟨E6.out,rfl,B5.out.trans (B6.out.mono B5.out.size)⟩
theorem Qw(p:Nat)(fs:List Addr)(d:Am)(g row:Nat)(w:World)(h:AtW w p fs d)(hT:BO d)(hg:g<d.g.length)(hr:(row:Int)<d.s.rows) :
  Calls Tryz.prog 55 #[.pointer (some ⟨p,0,none⟩),int i64 (g:Int),int i64 (row:Int)] w (GX (Eh d g row) w):=by
 obtain⟨a1,a2⟩:=hT.ok.data;obtain⟨b1,b2⟩:=hT.ok.g;obtain⟨b3,b4⟩:=hT.ok.c;simp only[AW.sh]at a1 a2 b1 b2 b3 b4;have hgl:=hT.gl;have HH:=hid h;have HT:=hid hT;have lp:p<w.heap.size:=by obtain⟨A0,A1,A2,c0,c1,c2,f0,f1,f2,HC⟩:=h.cells;exact HC.lt
 have HHR:=hid (fun(W:World) (hW:Below w.heap.size w W) (k:Nat) (hk:k<d.g.length) => here_c p fs d k row W (h.below hW) hT hk hr);obtain⟨nd,hnd⟩:∃nd:Nat,d.s.data=nd:=⟨d.s.data.toNat,by omega⟩;obtain⟨ng,hng⟩:∃ng:Nat,d.s.g=ng:=⟨d.s.g.toNat,by omega⟩;obtain⟨nc,hnc⟩:∃nc:Nat,d.s.c=nc:=⟨d.s.c.toNat,by omega⟩;have HND:=hid hnd;have HNG:=hid hng;have HNC:=hid hnc;have hnd3:nd≤3:=by omega
 have hng1:1≤ng:=by omega
 have hng4:ng≤4:=by omega
 have hnc2:nc≤2:=by omega
 have HGL:=hid (show d.g.length=ng+nc by omega);have hg2:g<ng+nc:=by omega
 clear h hT hnd hng hnc a1 a2 b1 b2 b3 b4 hgl;go_enter Tryz.func55,Tryz.ntmps55
 go_wp2_with fail
 refine(HHR.out w (Below.refl _ _) g hg).mono ?_;rintro e w1 (⟨D,A6,c6,f6,e6,rfl,r6,m6,b6⟩|⟨e6,rfl,b6⟩)
 ·have R6:=hid r6;have B6:=hid b6;have M6:=hid m6;have E6:=hid (IC e6);clear r6 b6 e6 m6;go_wp2_with fail
  go_ret2
  exact .inl ⟨D,A6,c6,f6,E6.out,rfl,R6.out,M6.out,B6.out⟩
 ·have B1:=hid b6;have hrc:=JB e6;rw[HND.out,HNG.out,HNC.out,Int.toNat_natCast,Int.toNat_natCast,Int.toNat_natCast]at hrc;have HRC:=hid hrc;have s1:=b6.size;have lp1:p<w1.heap.size:=Nat.lt_of_lt_of_le lp s1;have HSHF:=hid (show∀W,Below w.heap.size w W→W.rangeAt p 0 [int i64 d.s.g,int i64 d.s.c,int i64 d.s.data,int i64 d.s.p,int i64 d.s.rows,int i64 d.s.cap,int i64 d.s.b,int i64 d.s.q,int i64 d.s.t]from fun W hW => by
   obtain⟨A0',A1',A2',c0',c1',c2',f0',f1',f2',HC1⟩:=(HH.out.below hW).cells;exact HC1.s)
  have HE:=hid (Al.emptyL (w:=w1));have hb2:Below w1.heap.size w1 (w1.alloc (.cells #[] 39)):=Af (Below.refl _ _) _;have HB2:=hid hb2;have HSH:=hid (HSHF.out _ (b6.trans (hb2.mono s1)));have hall:=FW d.s.sh HT.out.ok (w1.alloc (.cells #[] 39));unfold shV at hall;rw[show d.s.sh.g+d.s.sh.c=((ng+nc:Nat):Int)from by show d.s.g+d.s.c=_;rw[HNG.out,HNC.out];rfl]at hall;have HALL:=hid hall;clear e6 b6 hrc hb2 hall;go_wp2_with (first
   |(refine wpList_load_mid rfl 31 (.tmp 28) rfl p 0 rfl _ _ HSH.out Tryz.underlying31 rfl (by kernel_rfl) ?_)
   |(go_at_call 101;refine HALL.out.mono ?_;rintro e w2 ⟨rfl,b2⟩;have B2:=hid (HB2.out.trans (b2.mono (by simp)));have HE3:=hid (HE.out.below Ap.loc Ap.fix b2);clear b2))
  go_loopw [31,10,11,12,13] (fun i o _ _ _ wr =>∃(k:Nat) (A:Option Addr) (c3:Nat) (fo:List Addr),k≤ng+nc∧i= int i64 k∧o= .slice A k c3∧Hid (Al 1 39 (Ak 1 Ah) wr w1.heap.size o ((Bz d row).take k) fo)∧Hid (Below w1.heap.size w1 wr)) (fun i _ _ _ _ _ => ng+nc - (intOf i).toNat)
  case atStart => exact⟨0,_,0,[],by omega,rfl,rfl,HE3.out,B2.out⟩
  case round =>
   obtain⟨k,A,c3,fo,hk,rfl,rfl,HO,HB⟩:=hrel;clear HE HE3 B2;have sB:=HB.out.size;have HBS:=hid sB;have HBW:=hid (B1.out.trans (HB.out.mono s1));by_cases hkn:k<ng+nc
   ·have HC:=hid (HHR.out wr HBW.out k (by rw[HGL.out];exact hkn));have hst:=Jq d row (show k<d.g.length by rw[HGL.out];exact hkn);have hlen:((Bz d row).take k).length =k:=by rw[List.length_take,Dv,HGL.out];omega
    have HST:=hid hst.symm;have HLEN:=hid hlen;have hki:(k:Int)<((ng:Int)+(nc:Int)):=by omega
    clear hst hlen;go_wp2_with fail
    refine HC.out.mono ?_;rintro e w3 (⟨D,A6,c6,f6,e6,rfl,r6,m6,b6⟩|⟨e6,rfl,b6⟩)
    ·have hs3:=HST.out;rw[e6,Option.getD_some]at hs3;have HAP:=hid (Tryz.addAny (wr:=wr) (W:=w3.alloc (.cells #[.slice A6 D.length c6] 39)) (b:=w3.heap.size) (ve:=.slice A6 D.length c6) (f:=f6) (L:=D) HO.out HBS.out (by rw[HLEN.out];omega) (Af b6 _) (Blk.new _ _ _) (r6.below (Af (Below.refl _ _) _)) (fun a ha => .inr (m6.from_ a ha)));rw[HLEN.out,hs3]at HAP;clear e6 r6 m6 b6 hs3;go_wp2_with (at_builtin;refine As rfl (.tmp 41) (.tmp 43) 83 rfl _ _ (by rfl) (by rfl) HAP.out ?_;rintro v8 w8 ⟨A8,c8,h8,rfl,o8,B8,e8,s8⟩;have HO8:=hid o8;have HB8:=hid B8;clear o8 B8 s8)
     go_roundw
     case rel => exact⟨k+1,A8,c8,_,by omega,by go_num,rfl,HO8.out,HB.out.trans HB8.out⟩
     case measure => simp[intOf];omega
    ·have hs3:=HST.out;rw[e6,Option.getD_none]at hs3;have HAP:=hid (Tryz.addAny (wr:=wr) (W:=w3.alloc (.cells #[.slice none 0 0] 39)) (b:=w3.heap.size) (ve:=.slice none 0 0) (f:=[]) (L:=[]) HO.out HBS.out (by rw[HLEN.out];omega) (Af b6 _) (Blk.new _ _ _) (Ag.empty (by omega)) (fun a ha => by cases ha));rw[HLEN.out,hs3]at HAP;clear e6 b6 hs3;go_wp2_with (at_builtin;refine As rfl (.tmp 41) (.tmp 43) 83 rfl _ _ (by rfl) (by rfl) HAP.out ?_;rintro v8 w8 ⟨A8,c8,h8,rfl,o8,B8,e8,s8⟩;have HO8:=hid o8;have HB8:=hid B8;clear o8 B8 s8)
     go_roundw
     case rel => exact⟨k+1,A8,c8,_,by omega,by go_num,rfl,HO8.out,HB.out.trans HB8.out⟩
     case measure => simp[intOf];omega
   ·obtain rfl:k=ng+nc:=by omega
    have ho:=HO.out;have hll:(Bz d row).length =ng+nc:=by rw[Dv];exact HGL.out
    rw[List.take_of_length_le (by omega)]at ho;obtain⟨gr,hgr,-⟩:=ho.reads;have hall4:=Hq HT.out hr;rw[HND.out,Int.toNat_natCast]at hall4;have HDC:=hid (fun(W:World) (hW:Below wr.heap.size wr W) => Ng ng nc (.slice A (ng+nc) c3) (Bz d row) (gr ++ fo) W (4 * nd) (rSl.below Ap.loc Ap.fix hgr hW) hng1 hng4 hnc2 (by rw[hll];omega) hall4 (by omega));have hcs:=Pj d.s.sh wr;unfold shV at hcs;rw[show d.s.sh.g=(ng:Int)from HNG.out,show d.s.sh.c=(nc:Int)from HNC.out]at hcs;have hsh:=HSHF.out wr HBW.out;rw[HNG.out,HNC.out]at hsh;have HSH2:=hid hsh;have HCS:=hid hcs;have lp2:p<wr.heap.size:=Nat.lt_of_lt_of_le lp1 sB;obtain⟨Y,hY⟩:∃Y,EF (4 * nd) ng nc (Bz d row)=Y:=⟨_,rfl⟩;rw[hY]at HDC HRC;have HY:=hid hY;clear ho hll hgr hall4 hcs hsh hY;go_wp2_with (first
     |(refine wpList_load_mid rfl 31 (.tmp 49) rfl p 0 rfl _ _ HSH2.out Tryz.underlying31 rfl (by kernel_rfl) ?_)
     |(go_at_call 47;refine HCS.out.mono ?_;rintro e w5 ⟨rfl,b5⟩;have HDD:=hid (HDC.out w5 b5);have B5:=hid (HBW.out.trans (b5.mono HBW.out.size));clear b5))
    refine HDD.out.mono ?_;rintro e w6 (⟨L,A9,c9,f9,e9,rfl,r9,m9,b9⟩|⟨e9,rfl,b9⟩)
    ·have hL:L.length=ng+nc:=by
      have h1:=HY.out;rw[e9]at h1;unfold EF at h1;split at h1
      ·cases h1
      ·injection h1 with h1
       rw[← h1];exact DT _ _ _ _ _
     obtain⟨A9',c9',e9',-,-,hx9⟩:=Ap.open_ r9;injection e9' with e91 _ e93
     subst e91 e93;have hgl9:g<L.length:=by omega
     obtain⟨ad9,A10,c10,f10,e10,bl10,p10,r10,t10,s10,-⟩:=hx9 g hgl9;subst e10;have hgi:(g:Int)<(L.length:Int):=by omega
     have hm:=Ag.mine (lo:=w5.heap.size) r10 (fun a ha =>⟨m9.from_ a (s10 a ha),m9.free a (s10 a ha)⟩);have hR:Eh d g row=some (L[g]'hgl9):=by
      rw[HRC.out,e9,Option.map_some];simp[List.getD_eq_getElem?_getD,hL,hg2]
     have HR:=hid hR;have HM:=hid hm;have R10:=hid r10;have B9:=hid (B5.out.trans (b9.mono B5.out.size));clear hx9 r9 m9 b9 t10 s10 hm hR r10 hL e9;go_wp2_with fail
     go_ret2
     exact .inl ⟨L[g],A10,c10,f10,HR.out,rfl,R10.out,HM.out.mono B5.out.size,B9.out⟩
    ·have hR:Eh d g row=none:=by rw[HRC.out,e9];rfl
     have HR:=hid hR;have B9:=hid (B5.out.trans (b9.mono B5.out.size));clear b9 hR e9;go_wp2_with fail
     go_ret2
     exact .inr ⟨HR.out,rfl,B9.out⟩
def irF(d:Am)(g:Nat)(rows:List Int):Nat→Option (List UInt8)
 |0 => some []
 |k+1 =>(irF d g rows k).bind fun L =>((rows[k]?).bind fun r => Eh d g r.toNat).map fun b => L ++ b
theorem Mu {d:Am} {g:Nat} {rows:List Int} {k:Nat} {L b:List UInt8}(h:irF d g rows k=some L)(hk:k<rows.length)(hb:Eh d g rows[k].toNat =some b):irF d g rows (k+1)=some (L ++ b):=by
 unfold irF;rw[h,List.getElem?_eq_getElem hk];simp[hb]
theorem LS {d:Am} {g:Nat} {rows:List Int} {k:Nat}(hk:k<rows.length)(hb:Eh d g rows[k].toNat =none):irF d g rows (k+1)=none:=by
 unfold irF;rw[List.getElem?_eq_getElem hk];cases irF d g rows k <;> simp[hb]
theorem irF_up {d:Am} {g:Nat} {rows:List Int} {k:Nat}(h:irF d g rows k=none):irF d g rows (k+1)=none:=by
 unfold irF;rw[h];rfl
theorem LU {d:Am} {g:Nat} {rows:List Int} {k:Nat}(h:irF d g rows k=none):∀n,irF d g rows (k+n)=none
 |0 => h
 |n+1 => irF_up (LU h n)
theorem F1 {d:Am}(hT:BO d) {g:Nat} {rows:List Int}(hg:g<d.g.length)(hr:∀r,r∈rows→0≤r∧r<d.s.rows):∀k,k≤rows.length→∀L,irF d g rows k=some L→L.length=k * (4 * d.s.data.toNat)
 |0,_,L,h => by simp[irF]at h;subst h;simp
 |k+1,hk,L,h => by
  have hk2:k<rows.length:=by omega
  unfold irF at h;rw[List.getElem?_eq_getElem hk2]at h;cases h1:irF d g rows k with
  |none => rw[h1]at h;simp at h
  |some M =>
   rw[h1]at h;cases h2:Eh d g rows[k].toNat with
   |none => simp[h2]at h
   |some b =>
    simp[h2]at h;subst h;have h3:=F1 hT hg hr k (by omega) M h1;have h4:=hr _ (List.getElem_mem hk2);have h5:=Nq hT hg (row:=rows[k].toNat) (by omega) h2;rw[List.length_append,h3,h5,Nat.add_mul,Nat.one_mul]
def Do(d:Am)(r:Ai):Option (List UInt8) :=
 if 0<r.data.length then some r.data else(irF d (EL d.s.g r.name).toNat r.rows r.rows.length).map fun L => L.take r.length.toNat
structure Gt (d:Am) (r:Ai):Prop where
 nm:r.name.size≤1000000
 dl:r.data.length≤1000000
 rl:r.rows.length≤6
 rw_:∀q,q∈r.rows→0≤q∧q<d.s.rows
 ln:r.data.length=0→0≤r.length∧r.length≤r.rows.length * (4 * d.s.data)
theorem Al.cutB {w:World} {base n c xl C:Nat} {A:Option Addr} {L:List UInt8}(h:Al 1 5 Ah w base (.slice A n c) L [])(hx:xl≤L.length)(h1:xl≤C)(h2:C≤9223372036854775807):∃fs,Ag w fs (.slice A xl C) (L.take xl)∧Az base w fs:=by
 obtain⟨gs,r1,r2⟩:=h.readsMine ⟨List.nodup_nil,(fun a ha => by cases ha),(fun a ha => by cases ha)⟩;obtain⟨g1,g2,s1,-,s3⟩:=rSl.split r1 hx;have hl:(L.take xl).length =xl:=by rw[List.length_take];omega
 refine⟨g1,?_,Ag.mine (v:=.slice A xl c) s1 fun a ha => ?_⟩
 ·obtain⟨A',c',e,q1,q2,q3⟩:=s1;injection e with e1 e2 e3
  subst e1;exact⟨A,C,by rw[hl],by rw[hl];exact h1,h2,q3⟩
 ·have hm:a∈gs:=s3.subset (List.mem_append_left _ ha);exact⟨r2.from_ a hm,r2.free a hm⟩
theorem OZ(ks:Nat)(hks:ks=9)(zS:∀w,(Go.sizeOf 31).run Tryz.prog w= .ok ks w)(aS:∀w,(isAgg 31).run Tryz.prog w= .ok true w)(p:Nat)(fs:List Addr)(d:Am)(x:Ai)(cs:List Value)(f:List Addr)(w:World)
  (h:AtW w p fs d) (hx:Ac w f cs x) (hT:BO d) (hI:Gt d x) :
  Calls Tryz.prog 74 #[.pointer (some ⟨p,0,none⟩),.agg cs.toArray] w (GX (Do d x) w):=by
 have hxx:=hx;dsimp only[Ac]at hx;obtain⟨v0,v1,v2,f0,f1,f2,e,-,-,-,-,-,-,-,r0,r1,r2⟩:=hx;subst e;obtain⟨A0,c0,rfl,-,-,hx0⟩:=AN.open_ r0;have HX0:=hid hx0;clear hx0;obtain⟨A1,c1,rfl,-⟩:=rSl.head r1;obtain⟨A2,c2,rfl,-⟩:=rSl.head r2;obtain⟨nR,hnR⟩:∃nR,x.rows.length=nR:=⟨_,rfl⟩;obtain⟨nD,hnD⟩:∃nD,x.data.length=nD:=⟨_,rfl⟩;rw[hnR]at r0;rw[hnD]at r1;have HNR:=hid hnR;have HND:=hid hnD;obtain⟨nE,hnE⟩:∃nE,x.delta.length=nE:=⟨_,rfl⟩;rw[hnE]at r2;rw[hnR,hnD,hnE];obtain⟨W1,hW1⟩:∃W1,w.alloc (.cells #[int i64 x.kind,int i64 x.seq,.string x.name,int i64 x.length,int i64 x.group,int i64 x.row,.slice A0 nR c0,.slice A1 nD c1,.slice A2 nE c2] 119)=W1:=⟨_,rfl⟩;have hB1:Below w.heap.size w W1:=by rw[← hW1];exact(Below.refl _ _).alloc (Nat.le_refl _) _
 have K1:Blk W1 w.heap.size 119 #[int i64 x.kind,int i64 x.seq,.string x.name,int i64 x.length,int i64 x.group,int i64 x.row,.slice A0 nR c0,.slice A1 nD c1,.slice A2 nE c2]:=by rw[← hW1];exact Blk.new w _ _
 have z1:W1.heap.size=w.heap.size+1:=by rw[← hW1];simp
 have HB1:=hid hB1;have HA1:=hid (h.below hB1);have HK1:=hid K1;have HT:=hid hT;have HI:=hid hI;have hnl:=hI.dl;rw[hnD]at hnl;have p2:W1.cell? ⟨w.heap.size,2,none⟩=some (.string x.name):=(K1.cell 2).trans rfl;have p3:W1.cell? ⟨w.heap.size,3,none⟩=some (int i64 x.length):=(K1.cell 3).trans rfl;have p6:W1.cell? ⟨w.heap.size,6,none⟩=some (.slice A0 nR c0):=(K1.cell 6).trans rfl;have p7:W1.cell? ⟨w.heap.size,7,none⟩=some (.slice A1 nD c1):=(K1.cell 7).trans rfl;have lw:w.heap.size<W1.heap.size:=by omega
 have HZ1:=hid z1;by_cases q:0<nD
 ·have e1:Do d x=some x.data:=by unfold Do;rw[hnD,if_pos q]
  rw[e1];have HCL:=hid ((Gs _ x.data f1 W1 (rSl.below Ah.local_ Ah.fixed r1 hB1) (by omega)).mono fun e w' h => Ki.fresh h);have qi:(0:Int)<(nD:Int):=by omega
  clear r0 r1 r2 hB1 K1 z1 h hxx hT hI e1 hnR hnD hnE;go_enter Tryz.func74,Tryz.ntmps74
  go_wp2_with fail
  try rw[hW1]
  clear hW1;go_wp2_with (go_at_call 138;refine HCL.out.mono ?_;rintro e w2 ⟨A3,c3,f3,rfl,r3,m3,b3⟩;have R3:=hid r3;have M3:=hid m3;have B3:=hid b3;clear r3 m3 b3)
  go_ret2
  exact .inl ⟨_,A3,c3,f3,rfl,rfl,R3.out,M3.out.mono (by have:=HZ1.out;omega),HB1.out.trans (B3.out.mono HB1.out.size)⟩
 ·obtain⟨gh,hgh⟩:∃gh:Nat,EL d.s.g x.name=(gh:Int):=⟨(EL d.s.g x.name).toNat,by have:=Gk (nm:=x.name) (show 0<d.s.g from by have:=hT.ok.g.1;simp only[AW.sh]at this;omega);omega⟩;have hin:=Gk (nm:=x.name) (show 0<d.s.g from by have:=hT.ok.g.1;simp only[AW.sh]at this;omega);have hgg:gh<d.g.length:=by have h1:=hT.gl;have h2:=hT.ok.c.1;simp only[AW.sh]at h2;omega
  have e1:Do d x=(irF d gh x.rows nR).map fun L => L.take x.length.toNat:=by unfold Do;rw[hnD,if_neg q,hnR,hgh,Int.toNat_natCast]
  rw[e1];have hl:=hI.ln (by omega);rw[hnR]at hl;have hrl:=hI.rl;rw[hnR]at hrl;have hdd:=hT.ok.data;simp only[AW.sh]at hdd;have hd3:d.s.data≤3:=by have:=hdd.2;omega
  have hlx:x.length≤1000:=by
   have h1:((nR:Int) * (4 * d.s.data))≤6 * (4 * 3):=Int.mul_le_mul (by omega) (by omega) (by omega) (by omega);omega
  have HLEN:=hid (F1 hT (rows:=x.rows) hgg hI.rw_);have hsm:∀k,k≤nR→k * (4 * d.s.data.toNat)≤100:=fun k hk => by
   have h1:k * (4 * d.s.data.toNat)≤6 * (4 * 3):=Nat.mul_le_mul (by omega) (by omega);omega
  have HSM:=hid hsm;have HLN:=hid (show x.length.toNat≤nR * (4 * d.s.data.toNat)from by
   have:((nR * (4 * d.s.data.toNat):Nat):Int)=(nR:Int) * (4 * d.s.data):=by
    rw[Int.natCast_mul,Int.natCast_mul,Int.toNat_of_nonneg (by omega)];rfl
   omega)
  have HTR:=hid (fun(W:World) (hW:Below w.heap.size w W) (m:Nat) (hm:(m:Int)<d.s.rows) => Qw p fs d gh m W (h.below hW) hT hgg hm);have hho:=fun W => home_c d.s.sh hT.ok x.name hI.nm W
  unfold shV at hho;simp only[AW.sh]at hho;rw[hgh]at hho;have HHO:=hid hho;have HKS:=hid (show∀W,Below W1.heap.size W1 W→(Sem.run Tryz.prog (loadCellsFrom ⟨p,0,none⟩ 0 ks #[]) W= .ok #[int i64 d.s.g,int i64 d.s.c,int i64 d.s.data,int i64 d.s.p,int i64 d.s.rows,int i64 d.s.cap,int i64 d.s.b,int i64 d.s.q,int i64 d.s.t] W∧W.cell? ⟨w.heap.size,2,none⟩=some (.string x.name))from fun W hW => by
   obtain⟨A0',A1',A2',c0',c1',c2',f0',f1',f2',HC⟩:=(HA1.out.below hW).cells;exact⟨HC.shapeRun ks hks,(hW.cell (p:=⟨w.heap.size,2,none⟩) lw).trans p2⟩)
  have HRW:=hid hI.rw_;have HE:=hid (Al.emptyB (w:=W1));have hks0:¬ks=0:=by omega
  have hks1:0<ks:=by omega
  have hq:¬(0:Int)<(nD:Int):=by omega
  have hln0:=hl.1;clear r0 r1 r2 hB1 K1 z1 h hxx hT hI e1 hnR hnD hnE hin hgg hl hsm hho hgh hks;go_enter Tryz.func74,Tryz.ntmps74
  go_wp2_with fail
  try rw[hW1]
  clear hW1;go_wp2_with fail
  go_loopw [22,6,8,9,10] (fun i o _ _ _ wr =>∃(k:Nat) (A:Option Addr) (c3:Nat) (L:List UInt8),k≤nR∧i= int i64 k∧o= .slice A L.length c3∧Hid (irF d gh x.rows k=some L)∧Hid (Al 1 5 Ah wr W1.heap.size o L [])∧Hid (Below W1.heap.size W1 wr)) (fun i _ _ _ _ _ => nR - (intOf i).toNat)
  case atStart => exact⟨0,_,0,[],by omega,rfl,rfl,rfl,HE.out,(Below.refl _ _).alloc (Nat.le_refl _) _⟩
  case round =>
   obtain⟨k,A,c3,L,hk,rfl,rfl,HL,HO,HB⟩:=hrel;clear HE;have hbs:=HB.out.size;have HBW:=hid (show Below w.heap.size w wr from HB1.out.trans (HB.out.mono HB1.out.size));by_cases hkn:k<nR
   ·have hkr:k<x.rows.length:=by rw[HNR.out];exact hkn
    have hki:(k:Int)<(nR:Int):=by omega
    obtain⟨ad,eA,-,b1,pc,-⟩:=HX0.out k hkr;subst eA;have hrw:=HRW.out _ (List.getElem_mem hkr);obtain⟨m,hm⟩:∃m:Nat,x.rows[k] =(m:Int):=⟨x.rows[k].toNat,by omega⟩;have pk:=(HBW.out.cell (p:=ad.add k) b1).trans pc;rw[hm]at pk hrw;have HML:=hid hrw.2;have q0:=(HKS.out wr HB.out).1;have q2:=(HKS.out wr HB.out).2;cases hrf:Eh d gh m with
    |some D =>
     have HL2:=hid (Mu HL.out hkr (b:=D) (by rw[hm,Int.toNat_natCast];exact hrf));have HDL:=hid (HLEN.out (k+1) (by omega) _ HL2.out);have hs2:=HSM.out (k+1) (by omega);rw[← HDL.out,List.length_append]at hs2;have HT2:=hid (fun(W:World) (hW:Below wr.heap.size wr W) =>(HTR.out W (HBW.out.trans (hW.mono HBW.out.size)) m HML.out).mono (R':=fun e w' =>∃A c fs,e= .returned (.tuple #[.slice A D.length c,.bool true])∧Ag w' fs (.slice A D.length c) D∧Az W.heap.size w' fs∧Below W.heap.size W w') (by
      intro e w' hq;rw[hrf]at hq;rcases hq with⟨D',A,c,fs,e1,h2,h3,h4,h5⟩|⟨e1,-⟩
      ·injection e1 with e1;subst e1;exact⟨A,c,fs,h2,h3,h4,h5⟩
      ·cases e1))
     clear hrf pc b1 hrw hm hkr;go_wp2_with fail
     go_region_held3 (fun W => Sem.run Tryz.prog (loadCellsFrom ⟨p,0,none⟩ 0 ks #[]) W= .ok #[int i64 d.s.g,int i64 d.s.c,int i64 d.s.data,int i64 d.s.p,int i64 d.s.rows,int i64 d.s.cap,int i64 d.s.b,int i64 d.s.q,int i64 d.s.t] W∧W.cell? ⟨w.heap.size,2,none⟩=some (.string x.name))
      (exact HKS.out _ (HB.out.trans (Below.mono (by repeat(with_reducible first|assumption|exact Below.refl _ _|apply Af|apply Ar)) hbs)))
      (first
       |(go_at_call 139;refine(HHO.out _).mono ?_;rintro e w2 ⟨rfl,b2⟩;have B2:=Below.via (a:=wr) (by repeat(with_reducible first|assumption|exact Below.refl _ _|apply Af|apply Ar)) b2)
       |(go_at_call 55;refine(HT2.out _ (by repeat(with_reducible first|assumption|exact Below.refl _ _|apply Af|apply Ar))).mono ?_;rintro e w3 ⟨A6,c6,f6,rfl,r6,m6,b6⟩;have B3:=Below.via (a:=wr) (by repeat(with_reducible first|assumption|exact Below.refl _ _|apply Af|apply Ar)) b6))
     have HAP:=hid (Tryz.appendBytes (wr:=wr) (W:=w3) (v:=.slice A L.length c3) HO.out hbs B3 r6 (fun a ha => by have h1:=m6.from_ a ha;have h2:=B2.size;first|omega|(simp at h1;omega)) (by omega));have HB3:=hid B3;clear r6 m6 b6 B3 q0 q2;go_wp2_with (at_builtin;refine As rfl (.tmp 41) (.tmp 42) 39 rfl _ _ (by rfl) (by rfl) HAP.out ?_;rintro v8 w8 ⟨A8,c8,rfl,o8,b8,s8⟩;have O8:=hid o8;have B8:=hid b8;clear o8 b8 s8)
     go_roundw
     case rel => exact⟨k+1,A8,c8,L ++ D,by omega,by go_num,by rw[List.length_append],HL2.out,O8.out,HB.out.trans B8.out⟩
     case measure => simp[intOf];omega
    |none =>
     have HNO:=hid (show irF d gh x.rows nR=none from by
      have h1:=LU (LS (g:=gh) hkr (by rw[hm,Int.toNat_natCast];exact hrf)) (nR - (k+1));rw[show k+1+(nR - (k+1))=nR from by omega]at h1;exact h1)
     have HT2:=hid (fun(W:World) (hW:Below wr.heap.size wr W) =>(HTR.out W (HBW.out.trans (hW.mono HBW.out.size)) m HML.out).mono (R':=fun e w' => e= .returned (.tuple #[.slice none 0 0,.bool false])∧Below W.heap.size W w') (by
      intro e w' hq;rw[hrf]at hq;rcases hq with⟨D',A,c,fs,e1,-⟩|⟨e1,h2,h3⟩
      ·cases e1
      ·exact⟨h2,h3⟩))
     clear hrf pc b1 hrw hm hkr;go_wp2_with fail
     go_region_held3 (fun W => Sem.run Tryz.prog (loadCellsFrom ⟨p,0,none⟩ 0 ks #[]) W= .ok #[int i64 d.s.g,int i64 d.s.c,int i64 d.s.data,int i64 d.s.p,int i64 d.s.rows,int i64 d.s.cap,int i64 d.s.b,int i64 d.s.q,int i64 d.s.t] W∧W.cell? ⟨w.heap.size,2,none⟩=some (.string x.name))
      (exact HKS.out _ (HB.out.trans (Below.mono (by repeat(with_reducible first|assumption|exact Below.refl _ _|apply Af|apply Ar)) hbs)))
      (first
       |(go_at_call 139;refine(HHO.out _).mono ?_;rintro e w2 ⟨rfl,b2⟩;have B2:=Below.via (a:=wr) (by repeat(with_reducible first|assumption|exact Below.refl _ _|apply Af|apply Ar)) b2)
       |(go_at_call 55;refine(HT2.out _ (by repeat(with_reducible first|assumption|exact Below.refl _ _|apply Af|apply Ar))).mono ?_;rintro e w3 ⟨rfl,b6⟩;have B3:=Below.via (a:=wr) (by repeat(with_reducible first|assumption|exact Below.refl _ _|apply Af|apply Ar)) b6))
     have HB3:=hid B3;clear b6 B3 q0 q2;go_wp2_with fail
     go_ret2
     exact .inr ⟨by rw[HNO.out];rfl,rfl,HBW.out.trans (HB3.out.mono HBW.out.size)⟩
   ·obtain rfl:k=nR:=by omega
    have hll:=HLEN.out k (by rw[HNR.out];omega) _ HL.out;have hln:=HLN.out;obtain⟨A',c',e9,hc1,hc2⟩:=HO.out.length;injection e9 with e91 _ e93
    subst e91 e93;obtain⟨xl,hxl⟩:∃xl:Nat,x.length=(xl:Int):=⟨x.length.toNat,by omega⟩;rw[hxl,Int.toNat_natCast]at hln;have p3':=(HB.out.cell (p:=⟨w.heap.size,3,none⟩) lw).trans p3;rw[hxl]at p3';have hxL:xl≤L.length:=by omega
    obtain⟨gs,r8,m8⟩:=Al.cutB (C:=xl) HO.out hxL (Nat.le_refl _) (by omega);have R8:=hid r8;have M8:=hid (m8.mono (show w.heap.size≤W1.heap.size from by omega));have hxc:xl≤c3:=by omega
    have HXL:=hid hxl;have hlt2:(L.take xl).length =xl:=by rw[List.length_take];omega
    have HLT:=hid hlt2;clear hll hln hxl r8 m8 hlt2 hln0 p3;go_wp2_with fail
    go_ret2
    exact .inl ⟨L.take xl,A,xl,gs,by rw[HL.out,HXL.out];rfl,by rw[HLT.out];rfl,by rw[HLT.out];exact R8.out,M8.out,HBW.out⟩
theorem NX(p:Nat)(fs:List Addr)(d:Am)(x:Ai)(cs:List Value)(f:List Addr)(w:World)
  (h:AtW w p fs d) (hx:Ac w f cs x) (hT:BO d) (hI:Gt d x) :
  Calls Tryz.prog 74 #[.pointer (some ⟨p,0,none⟩),.agg cs.toArray] w (GX (Do d x) w) :=
 OZ 9 rfl Tryz.sizeOf31 Tryz.isAgg31 p fs d x cs f w h hx hT hI
theorem Tryz.appendAny {wr:World} {base:Nat} {v u:Value} {ds L:List UInt8} {gs:List Addr}(ho:Al 1 5 Ah wr base v ds [])(hbase:base≤wr.heap.size)(hr:Ag wr gs u L)(hg:∀a,a∈gs→a.block<base)(hn:ds.length+L.length≤1000000000) :
  ∃v' w',(Builtin.append_ #[39,39] 39 #[v,u]).run Tryz.prog wr= .ok v' w'∧∃A c,v'= .slice A (ds.length+L.length) c∧Al 1 5 Ah w' base v' (ds ++ L) []∧Below base wr w'∧wr.heap.size≤w'.heap.size:=by
 obtain⟨v',w',h1,hs,h2,h3,h4,h5⟩:=Al.appendRun (P:=Tryz.prog) 39 39 (.int .u8 0) 1 Tryz.underlying39 Tryz.info5 rfl (by decide) Ah.local_ Ah.fixed Ec base v ds [] ho u L gs hr (fun a ha e => by
  have:=(ho.lt _ e).1;have:=hg a ha;omega) hn (by omega) hbase
 have h6:=h2.flatBytes;rw[h6]at h2;obtain⟨A,c,e,-⟩:=h2.length;exact⟨v',w',h1,A,c,by rw[e,List.length_append],h2,Below.grown (Below.refl _ _) h4 hbase (fun k hk =>(ho.lt k hk).1),h4.size⟩
theorem l2Join_c(v:Value)(Ls:List (List UInt8))(f:List Addr)(w:World)(h:Ap w f v Ls)(hn:Ls.flatten.length≤1000000) :
  Calls Tryz.prog 134 #[v] w (Bw Ls.flatten w):=by
 obtain⟨A0,c0,rfl,hc,hm,hx⟩:=Ap.open_ h;have HT:=hid (rSl.there Ap.fix h);have HX:=hid hx;have HE:=hid (Al.emptyB (w:=w));have HFL:=hid (show∀k,k≤Ls.length→(Ls.take k).flatten.length≤1000000 from fun k _ => by
  have h1:Ls.flatten=(Ls.take k).flatten ++(Ls.drop k).flatten:=by rw[← List.flatten_append,List.take_append_drop]
  rw[h1,List.length_append]at hn;omega)
 clear h hx;go_enter Tryz.func134,Tryz.ntmps134
 go_wp2_with fail
 go_loopw [4,3] (fun i o wr =>∃(k:Nat) (A:Option Addr) (c:Nat) (D:List UInt8),k≤Ls.length∧i= int i64 k∧o= .slice A D.length c∧Hid (D=(Ls.take k).flatten)∧Hid (Al 1 5 Ah wr w.heap.size o D [])∧Hid (Below w.heap.size w wr)) (fun i _ _ => Ls.length - (intOf i).toNat)
 case atStart => exact⟨0,_,0,[],by omega,rfl,rfl,rfl,HE.out,(Below.refl _ _).alloc (Nat.le_refl _) _⟩
 case round =>
  obtain⟨k,A,c,D,hk,rfl,rfl,HD,HO,HB⟩:=hrel;clear HE;by_cases hlt:k<Ls.length
  ·obtain⟨ad,A9,c9,f9,rfl,bl9,p9,r9,-,hs9,-⟩:=HX.out k hlt;have pk:=(HB.out.cell (p:=ad.add k) bl9).trans p9;have hki:(k:Int)<(Ls.length:Int):=by omega
   have hst:(Ls.take (k+1)).flatten =D ++ Ls[k]:=by rw[HD.out,List.take_succ_eq_append_getElem hlt,List.flatten_append];simp
   have hle:=HFL.out (k+1) (by omega);rw[hst,List.length_append]at hle;have HST:=hid hst;have HAP:=hid (Tryz.appendAny (wr:=wr) HO.out HB.out.size (rSl.below Ah.local_ Ah.fixed r9 HB.out) (fun a ha => HT.out a (hs9 a ha)) (by omega));clear hst r9 p9;go_wp2_with (at_builtin;refine As rfl (.tmp 12) (.tmp 16) 39 rfl _ _ (by rfl) (by rfl) HAP.out ?_;rintro v8 w8 ⟨A8,c8,rfl,o8,b8,s8⟩;have O8:=hid o8;have B8:=hid b8;clear o8 b8 s8)
   go_roundw
   case rel => exact⟨k+1,A8,c8,D ++ Ls[k],by omega,by go_num,by rw[List.length_append],HST.out.symm,O8.out,HB.out.trans B8.out⟩
   case measure => simp[intOf];omega
  ·obtain rfl:k=Ls.length:=by omega
   have hd:=HD.out;rw[List.take_length]at hd;have HD2:=hid hd;clear hd;go_wp2_with fail
   go_ret
   rw[← HD2.out];exact Al.freshB HO.out HB.out
end Go.Proofs.YtfjkoifpdoemdaaGreat
