/-
  Part 26 of the proof; the last part states and proves the statement.
-/
import Derived.Test.YtfjkoifpdoemdaaGreatT19
import Derived.Test.YtfjkoifpdoemdaaGreatT17
set_option maxHeartbeats 8000000
set_option maxRecDepth 100000
set_option linter.unusedVariables false
set_option linter.unusedSimpArgs false
namespace Go.Proofs.YtfjkoifpdoemdaaGreat
open Go.RowKit Go.Lib Go.Sort
theorem hv_count {bl:List (List UInt8)} {L:List AJ}(h:∀k,(hk:k<L.length)→(0<(bl.getD k []).length↔L[k].wiped =false)):∀j,j≤L.length→(Bl bl j).length +F3 L j=j:=by
 intro j;induction j with
 |zero => intro _;simp[FS,F3]
 |succ j ih =>
  intro hj;have h1:=ih (by omega);have h2:=h j (by omega);rw[Fc,Kk (by omega),List.length_append];cases hw:L[j].wiped with
  |true =>
   have h3:¬0<(bl.getD j []).length:=fun h4 => by rw[hw]at h2;cases h2.1 h4
   rw[if_neg h3];simp;omega
  |false =>
   rw[if_pos (h2.2 hw)];simp;omega
theorem KJ {n s:Nat} {bl:List (List UInt8)} {L:List AJ}(hl:bl.length=L.length)(hn:L.length=n+s)(h:∀k,(hk:k<L.length)→(0<(bl.getD k []).length↔L[k].wiped =false))(hd:s<F3 L L.length):C5 n bl=none:=by
 have h1:=hv_count h L.length (Nat.le_refl _);unfold C5;rw[if_pos];rw[I5,List.length_take,hl];omega
theorem OL(enc:Ah→List (List UInt8))(row:Nat)(L:List AJ):Ft enc row [] L=L.map (CK row):=by
 apply List.ext_getElem
 ·rw[Ck,List.length_map]
 ·intro k h1 h2;rw[Ck]at h1;rw[Fv _ _ _ _ h1,List.getElem_map];rfl
theorem NC {row:Nat} {dr:AJ}(h4:(Cc dr row).bytes.length =4):0<(CK row dr).length↔dr.wiped=false:=by
 unfold CK;cases dr.wiped with
 |true => simp
 |false => simp[h4]
theorem Cq.dead {d:Am}(h:Cq d) {g row:Nat}(hg:g<d.g.length)(hr:(row:Int)<d.s.rows)(hd:JM d g=true)(ho:DX d.s.g (AX d) (g:Int) (row:Int)=none):C4 d g row=none:=by
 obtain⟨a1,a2⟩:=h.ok.data;obtain⟨b1,b2⟩:=h.ok.p;simp only[Bo.sh]at a1 a2 b1 b2;have hdl:=h.dl g hg;have hw:d.s.p<(F3 (AI d g) (AI d g).length:Int):=of_decide_eq_true hd;have h4:=(h.row hg hr).2;by_cases qg:(g:Int)<d.s.g
 ·rw[FU ho qg];refine KJ (s:=d.s.p.toNat) (L:=AI d g) (by simp[Bn]) (by omega) (fun k hk => ?_) (by omega);have e:(Bn d g row).getD k [] =CK row (AI d g)[k]:=by unfold Bn;simp[List.getD_eq_getElem?_getD,hk]
  rw[e];exact NC (h4 _ (List.getElem_mem hk))
 ·rw[Gk ho qg];refine KJ (s:=d.s.p.toNat) (L:=AI d g) (by unfold Cx;rw[Ck]) (by omega) (fun k hk => ?_) (by omega);have hk2:k<(Cx d (Cf d.s.g (AX d) (g:Int)) g row).length:=by unfold Cx;rw[Ck];exact hk
  have e:(Cx d (Cf d.s.g (AX d) (g:Int)) g row).getD k [] =FQ (BT d g) row (Cf d.s.g (AX d) (g:Int)) k (AI d g)[k]:=by
   rw[List.getD_eq_getElem?_getD,List.getElem?_eq_getElem hk2,Option.getD_some];unfold Cx;exact Fv _ _ _ _ hk
  rw[e];unfold FQ;have hl:=De (b:=(Cc (AI d g)[k] row).bytes) (stamp:=(Cc (AI d g)[k] row).stamp) (row:=(row:Int)) (fun m hm =>((h.par hg (by omega) hr).enc hk m hm).1) (h4 _ (List.getElem_mem hk));cases(AI d g)[k].wiped with
  |true => simp
  |false => rw[if_neg (by simp),hl];simp
def Bv(d:Am)(row:Nat):List (List UInt8):=(List.range d.g.length).map fun g =>(C4 d g row).getD []
def Ev(d:Am)(g row:Nat):Option (List UInt8) :=
 match C4 d g row with
 |some b => some b
 |none =>(Eu (4 * d.s.data.toNat) d.s.g.toNat d.s.c.toNat (Bv d row)).map fun L => L.getD g []
theorem Ic {d:Am} {g row:Nat} {b:List UInt8}(h:C4 d g row=some b):Ev d g row=some b:=by unfold Ev;rw[h]
theorem I7 {d:Am} {g row:Nat}(h:C4 d g row=none):Ev d g row=(Eu (4 * d.s.data.toNat) d.s.g.toNat d.s.c.toNat (Bv d row)).map fun L => L.getD g []:=by unfold Ev;rw[h]
theorem Dp(d:Am)(row:Nat):(Bv d row).length =d.g.length:=by simp[Bv]
theorem I0(d:Am)(row:Nat) {k:Nat}(h:k<d.g.length):(Bv d row).take (k+1)=(Bv d row).take k ++ [(C4 d k row).getD []]:=by
 rw[List.take_succ_eq_append_getElem (by rw[Dp];exact h)];simp[Bv]
theorem Io {d:Am}(h:Cq d) {g row:Nat}(hg:g<d.g.length)(hr:(row:Int)<d.s.rows) {b:List UInt8}(hb:C4 d g row=some b):b.length=4 * d.s.data.toNat:=by
 obtain⟨a1,a2⟩:=h.ok.data;obtain⟨b1,b2⟩:=h.ok.p;simp only[Bo.sh]at a1 a2 b1 b2;have hdl:=h.dl g hg;have hdec:∀bl:List (List UInt8),bl.length=(AI d g).length→CZ bl 4→∀b,C5 d.s.data.toNat bl=some b→b.length=4 * d.s.data.toNat:=fun bl hl hO b hd => by
  unfold C5 at hd;split at hd
  ·cases hd
  ·rename_i hn
   injection hd with hd
   subst hd;have hv:=Fh d.s.data.toNat bl bl.length;have:=D7 (n:=d.s.data.toNat) (bl:=bl) (by omega) (by omega) (by omega) hO (by omega) d.s.data.toNat (Nat.le_refl _);omega
 cases ho:DX d.s.g (AX d) (g:Int) (row:Int)with
 |some m =>
  rw[Ho ho]at hb;injection hb with hb
  subst hb;obtain⟨q1,q2⟩:=Ll ho;obtain⟨-,-,q3,-⟩:=h.mv m (EV _ _ rfl m q1) q2;omega
 |none =>
  by_cases qg:(g:Int)<d.s.g
  ·rw[FU ho qg]at hb;exact hdec _ (by simp[Bn]) (h.blocks4 hg hr) _ hb
  ·rw[Gk ho qg]at hb;exact hdec _ (by unfold Cx;rw[Ck]) (h.will4 hg (by omega) hr) _ hb
theorem Hn {d:Am}(h:Cq d) {row:Nat}(hr:(row:Int)<d.s.rows):CZ (Bv d row) (4 * d.s.data.toNat):=fun l hl => by
 obtain⟨g,hg,rfl⟩:=List.mem_map.1 hl;have hg':=List.mem_range.1 hg;cases hb:C4 d g row with
 |none => exact .inl rfl
 |some b => exact .inr (Io h hg' hr hb)
theorem IJ {d:Am}(h:Cq d) {g row:Nat}(hg:g<d.g.length)(hr:(row:Int)<d.s.rows) {b:List UInt8}(hb:Ev d g row=some b):b.length=4 * d.s.data.toNat:=by
 obtain⟨a1,a2⟩:=h.ok.g;obtain⟨b1,b2⟩:=h.ok.c;simp only[Bo.sh]at a1 a2 b1 b2;have hgl:=h.gl;have hll:=Dp d row;cases hh:C4 d g row with
 |some b' =>
  rw[Ic hh]at hb;injection hb with hb
  subst hb;exact Io h hg hr hh
 |none =>
  rw[I7 hh]at hb;unfold Eu at hb;split at hb
  ·cases hb
  ·rename_i hn
   injection hb with hb
   dsimp only at hb;have hv:=Fh d.s.g.toNat (Bv d row) (Bv d row).length;have e:(DZ (4 * d.s.data.toNat) d.s.g.toNat (Bv d row) (AG d.s.g.toNat (Bv d row) (Bv d row).length) (d.s.g.toNat+d.s.c.toNat)).getD g [] =DG (4 * d.s.data.toNat) d.s.g.toNat (Bv d row) (AG d.s.g.toNat (Bv d row) (Bv d row).length) g:=by
    have hgg:g<d.s.g.toNat+d.s.c.toNat:=by omega
    simp[DZ,List.getD_eq_getElem?_getD,hgg]
   rw[e]at hb;obtain⟨-,-,-,-,q⟩:=Fn (m:=4 * d.s.data.toNat) (n:=d.s.g.toNat) (bl:=Bv d row) (i:=g) (by omega) (by omega) (by omega) (Hn h hr) (by omega) (by omega);rw[← hb];exact q
theorem Af.mine {w:World} {f:List Addr} {v:Value} {l:List UInt8} {lo:Nat}(h:Af w f v l)(hf:∀a,a∈f→lo≤a.block∧w.frozen? a=false):Ay lo w f:=by
 refine⟨?_,fun a ha =>(hf a ha).1,fun a ha =>(hf a ha).2⟩;obtain⟨A,c,e,h1,h2,h3⟩:=h;rcases h3 with⟨-,rfl⟩|⟨ad,css,fss,-,e2,e3,rfl,h3⟩
 ·exact List.nodup_nil
 ·have hfl:fss.flatten= []:=by
   rw[List.flatten_eq_nil_iff];intro x hx;obtain⟨i,hi,rfl⟩:=List.getElem_of_mem hx;obtain⟨q1,q2,q3,q4,hfi,hcs⟩:=h3 i (by omega);exact hfi
  rw[hfl,List.append_nil];cases hl:l.length with
  |zero => rw[Nat.zero_mul];exact List.nodup_nil
  |succ n =>
   obtain⟨q1,q2,q3,q4,hfi,hcs⟩:=h3 0 (by omega);have hc:=q4 0 (by omega);obtain⟨b,o,hP⟩:=IC hc;have h0:ad.add 0=ad:=addZero ad;have hP':ad=⟨b,o,none⟩:=by rw[← h0];simpa using hP
   exact Dz (by rw[hP'])
theorem here_c(p:Nat)(fs:List Addr)(d:Am)(g row:Nat)(w:World)(h:AtW w p fs d)(hT:Cq d)(hg:g<d.g.length)(hr:(row:Int)<d.s.rows) :
  Calls Tryz.prog 109 #[.pointer (some ⟨p,0,none⟩),.int .i64 (g:Int),.int .i64 (row:Int)] w (J6 (C4 d g row) w):=by
 obtain⟨a1,a2⟩:=hT.ok.data;obtain⟨b1,b2⟩:=hT.ok.p;simp only[Bo.sh]at a1 a2 b1 b2;have hdl:=hT.dl g hg;have HLM:=hid (Og p fs d (g:Int) (row:Int) w h hT.ok (by omega) hT.sm);have HH:=hid h;have HT:=hid hT;have hks:(Tryz.prog.info? 119).map (·.size)=some 9:=by kernel_rfl
 have lp:p<w.heap.size:=by obtain⟨A0,A1,A2,c0,c1,c2,f0,f1,f2,HC⟩:=h.cells;exact HC.lt
 obtain⟨X,hX⟩:∃X,C4 d g row=X:=⟨_,rfl⟩;rw[hX];have HX:=hid hX;obtain⟨nd,hnd⟩:∃nd:Nat,d.s.data=nd:=⟨d.s.data.toNat,by omega⟩;obtain⟨ns,hns⟩:∃ns:Nat,d.s.p=ns:=⟨d.s.p.toNat,by omega⟩;have HND:=hid hnd;have HNS:=hid hns;have hnd1:1≤nd:=by omega
 have hnd3:nd≤3:=by omega
 have hns2:ns≤2:=by omega
 have HDL:=hid (show(AI d g).length =nd+ns by omega);clear h hT hX hnd hns a1 a2 b1 b2 hdl;go_enter Tryz.func109,Tryz.ntmps109
 go_wp2_with fail
 refine HLM.out.mono ?_;rintro e w1 (⟨m,cs,f1,v1,hown,rfl,hcs,hones,hv7,hr7,hb1⟩|⟨hown,cs,rfl,hcs,hones,hb1⟩);all_goals
  have B1:=hid hb1;have HI2:=hid (show(Tryz.prog.info? 119).map (·.size)=some cs.size by rw[hcs];exact hks);have HON:=hid hones;obtain⟨Z,hZ⟩:∃Z:Array Value,#[.int .i64 0,.int .i64 0,.string ⟨#[]⟩,.int .i64 0,.int .i64 0,.int .i64 0,.slice none 0 0,.slice none 0 0,.slice none 0 0] =Z:=⟨_,rfl⟩;have hZs:Z.size=9:=by rw[← hZ];rfl
  have KZ:=Blk.new w1 119 Z;have HTH:=hid (Blk.there KZ cs.size (by rw[hcs,hZs];exact Nat.le_refl _));obtain⟨W2,hW2⟩:∃W2,(w1.alloc (.cells Z 119)).setCells w1.heap.size 0 cs.toList=W2:=⟨_,rfl⟩;have K2:Blk W2 w1.heap.size 119 cs:=by
   have:=Blk.laid KZ cs.toList (by rw[hZs,Array.length_toList,hcs]);rw[Array.toArray_toList]at this;rw[← hW2];exact this
  have b12:Below w1.heap.size w1 W2:=by rw[← hW2];exact Bh (Ac (Below.refl _ _) _) _ 0 (Nat.le_refl _)
  have HW2:=hid hW2;have B2:=hid (hb1.trans (b12.mono hb1.size));have HK2:=hid K2
 ·have y7:W2.cell? ⟨w1.heap.size,7,none⟩=some v1:=by rw[K2.cell];exact hv7
  have gb:w1.heap.size<W2.heap.size:=K2.lt;have hmd:m.data.length≤1048576:=by
   obtain⟨q1,q2⟩:=Ll hown;obtain⟨-,-,q3,-⟩:=HT.out.mv m (EV _ _ rfl m q1) q2;have:=HND.out;omega
  have e1:X=some m.data:=by rw[← HX.out];exact Ho hown
  subst e1;have HCL:=hid (Ik v1 m.data f1 W2 (hr7.below b12) hmd);obtain⟨A7,c7,rfl,-⟩:=rSl.head hr7;clear hown hones hv7 hr7 hb1 KZ hW2 K2 b12 hZs;go_wp2_with (first
   |(refine wpList_store_mid rfl 119 (.tmp 8) (.tmp 16) rfl w1.heap.size 0 cs rfl rfl HTH.out HI2.out HON.out ?_;rw[HW2.out])
   |(go_at_call 138;refine HCL.out.mono ?_;rintro e w3 h3;obtain⟨A3,c3,f3,e3,r3,m3,b3⟩:=h3.fresh;subst e3;have R3:=hid r3;have M3:=hid m3;have B3:=hid b3;clear h3 r3 m3 b3))
  go_ret2
  exact .inl ⟨m.data,A3,c3,f3,rfl,rfl,R3.out,M3.out.mono B2.out.size,B2.out.trans (B3.out.mono B2.out.size)⟩
 ·clear hones hb1 KZ hW2 K2 b12 hZs;have HBC:=hid (Mc p fs d g row W2 (HH.out.below B2.out) hg (HT.out.row hg hr).1 (by rw[HDL.out];omega));have hbl:(Bn d g row).length =nd+ns:=by unfold Bn;rw[List.length_map];exact HDL.out
  have HBL:=hid hbl;have hsz2:=B2.out.size;have HOWN:=hid hown;clear hbl hown;by_cases qg:(g:Int)<d.s.g
  ·have hin:Al (g:Int) 0 (d.s.g - 1)=true:=Ex (by omega) (by omega);have e1:X=C5 nd (Bn d g row):=by rw[← HX.out,FU HOWN.out qg,HND.out];rfl
   have HE1:=hid e1;clear qg e1;go_wp2_with (first
    |(refine wpList_store_mid rfl 119 (.tmp 8) (.tmp 16) rfl w1.heap.size 0 cs rfl rfl HTH.out HI2.out HON.out ?_;rw[HW2.out])
    |(go_at_call 186;refine HBC.out.mono ?_;rintro e w3 ⟨A3,c3,f3,rfl,o3,g3,b3⟩;rw[HBL.out]at o3⊢;have O3:=hid o3;have B3:=hid (B2.out.trans (b3.mono B2.out.size));have hl3:=Nat.lt_of_lt_of_le lp B3.out.size;obtain⟨A0',A1',A2',c0',c1',c2',f0',f1',f2',HC3⟩:=(HH.out.below B3.out).cells;have HSH:=hid HC3.s;have HD:=hid (F7 d.s.sh HT.out.ok (g:Int) w3);unfold shV at HD;rw[show d.s.sh.g=d.s.g from rfl,hin]at HD;clear o3 g3 b3 HC3)
    |(refine wpList_load_mid rfl 31 (.tmp 28) rfl p 0 rfl [.int .i64 d.s.g,.int .i64 d.s.c,.int .i64 d.s.data,.int .i64 d.s.p,.int .i64 d.s.rows,.int .i64 d.s.cap,.int .i64 d.s.b,.int .i64 d.s.q,.int .i64 d.s.t] _ HSH.out Tryz.underlying31 rfl (by kernel_rfl) ?_)
    |(go_at_call 187;refine HD.out.mono ?_;rintro e w4 ⟨rfl,b4⟩;have B4:=hid (B3.out.trans (b4.mono B3.out.size));have B34:=hid b4;have hl4:=Nat.lt_of_lt_of_le lp B4.out.size;obtain⟨A0'',A1'',A2'',c0'',c1'',c2'',f0'',f1'',f2'',HC4⟩:=(HH.out.below B4.out).cells;have HSH4:=hid HC4.s;have HR:=hid (row_c d.s.sh w4);unfold shV at HR;rw[show d.s.sh.data=d.s.data from rfl,show d.s.sh.p=d.s.p from rfl]at HR;clear b4 HC4)
    |(refine wpList_load_mid rfl 31 (.tmp 39) rfl p 0 rfl [.int .i64 d.s.g,.int .i64 d.s.c,.int .i64 d.s.data,.int .i64 d.s.p,.int .i64 d.s.rows,.int .i64 d.s.cap,.int .i64 d.s.b,.int .i64 d.s.q,.int .i64 d.s.t] _ HSH4.out Tryz.underlying31 rfl (by kernel_rfl) ?_)
    |(go_at_call 189;refine HR.out.mono ?_;rintro e w5 ⟨rfl,b5⟩;have B5:=hid (B4.out.trans (b5.mono B4.out.size));have B35:=hid (B34.out.trans (b5.mono B34.out.size));clear b5))
   obtain⟨gr,hgr,-⟩:=O3.out.reads;have hO4:=HT.out.blocks4 hg hr;have HDC:=hid (IV nd ns (.slice A3 (nd+ns) c3) (Bn d g row) (gr ++ f3) w5 (rSl.below An.loc An.fix hgr B35.out) hnd1 hnd3 (by rw[HBL.out];omega) hO4);clear hgr hO4;rw[← HE1.out]at HDC;rw[HND.out,HNS.out];refine HDC.out.mono ?_;rintro e w6 (⟨D,A6,c6,f6,e6,rfl,r6,m6,b6⟩|⟨e6,rfl,b6⟩)
   ·have R6:=hid r6;have M6:=hid m6;have B6:=hid b6;have E6:=hid e6;clear r6 m6 b6 e6;go_wp2_with fail
    go_ret2
    exact .inl ⟨D,A6,c6,f6,E6.out,rfl,R6.out,M6.out.mono B5.out.size,B5.out.trans (B6.out.mono B5.out.size)⟩
   ·have B6:=hid b6;have E6:=hid e6;clear b6 e6;go_wp2_with fail
    go_ret2
    exact .inr ⟨E6.out,rfl,B5.out.trans (B6.out.mono B5.out.size)⟩
  ·have hin:Al (g:Int) 0 (d.s.g - 1)=false:=FY (by omega);have e1:X=C5 nd (Cx d (Cf d.s.g (AX d) (g:Int)) g row):=by rw[← HX.out,Gk HOWN.out qg,HND.out];rfl
   have HE1:=hid e1;have hPar:=HT.out.par hg (by omega) hr;have hO4:=HT.out.will4 hg (by omega) hr;have HWC:=hid (fun(W:World) (hW:Below w.heap.size w W) => willBe_c p fs d g row W (HH.out.below hW) HT.out.sm hPar);obtain⟨Wf,hWf⟩:∃Wf,Cx d (Cf d.s.g (AX d) (g:Int)) g row=Wf:=⟨_,rfl⟩;have hwl:Wf.length=nd+ns:=by rw[← hWf];unfold Cx;rw[Ck];exact HDL.out
   rw[hWf]at HWC HE1 hO4;have HWL:=hid hwl;have HO4:=hid hO4;clear qg e1 hPar hwl hO4 hWf;go_wp2_with (first
    |(refine wpList_store_mid rfl 119 (.tmp 8) (.tmp 16) rfl w1.heap.size 0 cs rfl rfl HTH.out HI2.out HON.out ?_;rw[HW2.out])
    |(go_at_call 186;refine HBC.out.mono ?_;rintro e w3 ⟨A3,c3,f3,rfl,o3,g3,b3⟩;have B3:=hid (B2.out.trans (b3.mono B2.out.size));have hl3:=Nat.lt_of_lt_of_le lp B3.out.size;obtain⟨A0',A1',A2',c0',c1',c2',f0',f1',f2',HC3⟩:=(HH.out.below B3.out).cells;have HSH:=hid HC3.s;have HD:=hid (F7 d.s.sh HT.out.ok (g:Int) w3);unfold shV at HD;rw[show d.s.sh.g=d.s.g from rfl,hin]at HD;clear o3 g3 b3 HC3)
    |(refine wpList_load_mid rfl 31 (.tmp 28) rfl p 0 rfl [.int .i64 d.s.g,.int .i64 d.s.c,.int .i64 d.s.data,.int .i64 d.s.p,.int .i64 d.s.rows,.int .i64 d.s.cap,.int .i64 d.s.b,.int .i64 d.s.q,.int .i64 d.s.t] _ HSH.out Tryz.underlying31 rfl (by kernel_rfl) ?_)
    |(go_at_call 187;refine HD.out.mono ?_;rintro e w4 ⟨rfl,b4⟩;have B4:=hid (B3.out.trans (b4.mono B3.out.size));have HW:=hid (HWC.out w4 B4.out);clear b4)
    |(go_at_call 188;refine HW.out.mono ?_;rintro e w7 ⟨A7,c7,f7,rfl,r7,b7⟩;rw[HWL.out]at r7⊢;have R7:=hid r7;have B7:=hid (B4.out.trans (b7.mono B4.out.size));have hl7:=Nat.lt_of_lt_of_le lp B7.out.size;obtain⟨A0'',A1'',A2'',c0'',c1'',c2'',f0'',f1'',f2'',HC4⟩:=(HH.out.below B7.out).cells;have HSH4:=hid HC4.s;have HR:=hid (row_c d.s.sh w7);unfold shV at HR;rw[show d.s.sh.data=d.s.data from rfl,show d.s.sh.p=d.s.p from rfl]at HR;clear r7 b7 HC4)
    |(refine wpList_load_mid rfl 31 (.tmp 39) rfl p 0 rfl [.int .i64 d.s.g,.int .i64 d.s.c,.int .i64 d.s.data,.int .i64 d.s.p,.int .i64 d.s.rows,.int .i64 d.s.cap,.int .i64 d.s.b,.int .i64 d.s.q,.int .i64 d.s.t] _ HSH4.out Tryz.underlying31 rfl (by kernel_rfl) ?_)
    |(go_at_call 189;refine HR.out.mono ?_;rintro e w5 ⟨rfl,b5⟩;have B5:=hid (B7.out.trans (b5.mono B7.out.size));have B35:=hid b5;clear b5))
   have HDC:=hid (IV nd ns (.slice A7 (nd+ns) c7) Wf f7 w5 (rSl.below An.loc An.fix R7.out B35.out) hnd1 hnd3 (by rw[HWL.out];omega) HO4.out);rw[← HE1.out]at HDC;rw[HND.out,HNS.out];refine HDC.out.mono ?_;rintro e w6 (⟨D,A6,c6,f6,e6,rfl,r6,m6,b6⟩|⟨e6,rfl,b6⟩)
   ·have R6:=hid r6;have M6:=hid m6;have B6:=hid b6;have E6:=hid e6;clear r6 m6 b6 e6;go_wp2_with fail
    go_ret2
    exact .inl ⟨D,A6,c6,f6,E6.out,rfl,R6.out,M6.out.mono B5.out.size,B5.out.trans (B6.out.mono B5.out.size)⟩
   ·have B6:=hid b6;have E6:=hid e6;clear b6 e6;go_wp2_with fail
    go_ret2
    exact .inr ⟨E6.out,rfl,B5.out.trans (B6.out.mono B5.out.size)⟩
theorem OA(p:Nat)(fs:List Addr)(d:Am)(g row:Nat)(w:World)(h:AtW w p fs d)(hT:Cq d)(hg:g<d.g.length)(hr:(row:Int)<d.s.rows) :
  Calls Tryz.prog 55 #[.pointer (some ⟨p,0,none⟩),.int .i64 (g:Int),.int .i64 (row:Int)] w (J6 (Ev d g row) w):=by
 obtain⟨a1,a2⟩:=hT.ok.data;obtain⟨b1,b2⟩:=hT.ok.g;obtain⟨b3,b4⟩:=hT.ok.c;simp only[Bo.sh]at a1 a2 b1 b2 b3 b4;have hgl:=hT.gl;have HH:=hid h;have HT:=hid hT;have lp:p<w.heap.size:=by obtain⟨A0,A1,A2,c0,c1,c2,f0,f1,f2,HC⟩:=h.cells;exact HC.lt
 have HHR:=hid (fun(W:World) (hW:Below w.heap.size w W) (k:Nat) (hk:k<d.g.length) => here_c p fs d k row W (h.below hW) hT hk hr);obtain⟨nd,hnd⟩:∃nd:Nat,d.s.data=nd:=⟨d.s.data.toNat,by omega⟩;obtain⟨ng,hng⟩:∃ng:Nat,d.s.g=ng:=⟨d.s.g.toNat,by omega⟩;obtain⟨nc,hnc⟩:∃nc:Nat,d.s.c=nc:=⟨d.s.c.toNat,by omega⟩;have HND:=hid hnd;have HNG:=hid hng;have HNC:=hid hnc;have hnd3:nd≤3:=by omega
 have hng1:1≤ng:=by omega
 have hng4:ng≤4:=by omega
 have hnc2:nc≤2:=by omega
 have HGL:=hid (show d.g.length=ng+nc by omega);have hg2:g<ng+nc:=by omega
 clear h hT hnd hng hnc a1 a2 b1 b2 b3 b4 hgl;go_enter Tryz.func55,Tryz.ntmps55
 go_wp2_with fail
 refine(HHR.out w (Below.refl _ _) g hg).mono ?_;rintro e w1 (⟨D,A6,c6,f6,e6,rfl,r6,m6,b6⟩|⟨e6,rfl,b6⟩)
 ·have R6:=hid r6;have B6:=hid b6;have M6:=hid m6;have E6:=hid (Ic e6);clear r6 b6 e6 m6;go_wp2_with fail
  go_ret2
  exact .inl ⟨D,A6,c6,f6,E6.out,rfl,R6.out,M6.out,B6.out⟩
 ·have B1:=hid b6;have hrc:=I7 e6;rw[HND.out,HNG.out,HNC.out,Int.toNat_natCast,Int.toNat_natCast,Int.toNat_natCast]at hrc;have HRC:=hid hrc;have s1:=b6.size;have lp1:p<w1.heap.size:=Nat.lt_of_lt_of_le lp s1;have HSHF:=hid (show∀W,Below w.heap.size w W→W.rangeAt p 0 [.int .i64 d.s.g,.int .i64 d.s.c,.int .i64 d.s.data,.int .i64 d.s.p,.int .i64 d.s.rows,.int .i64 d.s.cap,.int .i64 d.s.b,.int .i64 d.s.q,.int .i64 d.s.t]from fun W hW => by
   obtain⟨A0',A1',A2',c0',c1',c2',f0',f1',f2',HC1⟩:=(HH.out.below hW).cells;exact HC1.s)
  have HE:=hid (Ak.emptyL (w:=w1));have hb2:Below w1.heap.size w1 (w1.alloc (.cells #[] 39)):=Ac (Below.refl _ _) _;have HB2:=hid hb2;have HSH:=hid (HSHF.out _ (b6.trans (hb2.mono s1)));have hall:=FO d.s.sh HT.out.ok (w1.alloc (.cells #[] 39));unfold shV at hall;rw[show d.s.sh.g+d.s.sh.c=((ng+nc:Nat):Int)from by show d.s.g+d.s.c=_;rw[HNG.out,HNC.out];rfl]at hall;have HALL:=hid hall;clear e6 b6 hrc hb2 hall;go_wp2_with (first
   |(refine wpList_load_mid rfl 31 (.tmp 28) rfl p 0 rfl [.int .i64 d.s.g,.int .i64 d.s.c,.int .i64 d.s.data,.int .i64 d.s.p,.int .i64 d.s.rows,.int .i64 d.s.cap,.int .i64 d.s.b,.int .i64 d.s.q,.int .i64 d.s.t] _ HSH.out Tryz.underlying31 rfl (by kernel_rfl) ?_)
   |(go_at_call 101;refine HALL.out.mono ?_;rintro e w2 ⟨rfl,b2⟩;have B2:=hid (HB2.out.trans (b2.mono (by simp)));have HE3:=hid (HE.out.below An.loc An.fix b2);clear b2))
  go_loopw [31,10,11,12,13] (fun i o _ _ _ wr =>∃(k:Nat) (A:Option Addr) (c3:Nat) (fo:List Addr),k≤ng+nc∧i= .int .i64 k∧o= .slice A k c3∧Hid (Ak 1 39 (Aj 1 Ag) wr w1.heap.size o ((Bv d row).take k) fo)∧Hid (Below w1.heap.size w1 wr)) (fun i _ _ _ _ _ => ng+nc - (intOf i).toNat)
  case atStart => exact⟨0,_,0,[],by omega,rfl,rfl,HE3.out,B2.out⟩
  case round =>
   obtain⟨k,A,c3,fo,hk,rfl,rfl,HO,HB⟩:=hrel;clear HE HE3 B2;have sB:=HB.out.size;have HBS:=hid sB;have HBW:=hid (B1.out.trans (HB.out.mono s1));by_cases hkn:k<ng+nc
   ·have HC:=hid (HHR.out wr HBW.out k (by rw[HGL.out];exact hkn));have hst:=I0 d row (show k<d.g.length by rw[HGL.out];exact hkn);have hlen:((Bv d row).take k).length =k:=by rw[List.length_take,Dp,HGL.out];omega
    have HST:=hid hst.symm;have HLEN:=hid hlen;have hki:(k:Int)<((ng:Int)+(nc:Int)):=by omega
    clear hst hlen;go_wp2_with fail
    refine HC.out.mono ?_;rintro e w3 (⟨D,A6,c6,f6,e6,rfl,r6,m6,b6⟩|⟨e6,rfl,b6⟩)
    ·have hs3:=HST.out;rw[e6,Option.getD_some]at hs3;have HAP:=hid (Tryz.addAny (wr:=wr) (W:=w3.alloc (.cells #[.slice A6 D.length c6] 39)) (b:=w3.heap.size) (ve:=.slice A6 D.length c6) (f:=f6) (L:=D) HO.out HBS.out (by rw[HLEN.out];omega) (Ac b6 _) (Blk.new _ _ _) (r6.below (Ac (Below.refl _ _) _)) (fun a ha => .inr (m6.from_ a ha)));rw[HLEN.out,hs3]at HAP;clear e6 r6 m6 b6 hs3;go_wp2_with (at_builtin;refine As rfl (.tmp 41) (.tmp 43) 83 rfl _ _ (by rfl) (by rfl) HAP.out ?_;rintro v8 w8 ⟨A8,c8,h8,rfl,o8,B8,e8,s8⟩;have HO8:=hid o8;have HB8:=hid B8;clear o8 B8 s8)
     go_roundw
     case rel => exact⟨k+1,A8,c8,_,by omega,by go_num,rfl,HO8.out,HB.out.trans HB8.out⟩
     case measure => simp[intOf];omega
    ·have hs3:=HST.out;rw[e6,Option.getD_none]at hs3;have HAP:=hid (Tryz.addAny (wr:=wr) (W:=w3.alloc (.cells #[.slice none 0 0] 39)) (b:=w3.heap.size) (ve:=.slice none 0 0) (f:=[]) (L:=[]) HO.out HBS.out (by rw[HLEN.out];omega) (Ac b6 _) (Blk.new _ _ _) (Af.empty (by omega)) (fun a ha => by cases ha));rw[HLEN.out,hs3]at HAP;clear e6 b6 hs3;go_wp2_with (at_builtin;refine As rfl (.tmp 41) (.tmp 43) 83 rfl _ _ (by rfl) (by rfl) HAP.out ?_;rintro v8 w8 ⟨A8,c8,h8,rfl,o8,B8,e8,s8⟩;have HO8:=hid o8;have HB8:=hid B8;clear o8 B8 s8)
     go_roundw
     case rel => exact⟨k+1,A8,c8,_,by omega,by go_num,rfl,HO8.out,HB.out.trans HB8.out⟩
     case measure => simp[intOf];omega
   ·obtain rfl:k=ng+nc:=by omega
    have ho:=HO.out;have hll:(Bv d row).length =ng+nc:=by rw[Dp];exact HGL.out
    rw[List.take_of_length_le (by omega)]at ho;obtain⟨gr,hgr,-⟩:=ho.reads;have hall4:=Hn HT.out hr;rw[HND.out,Int.toNat_natCast]at hall4;have HDC:=hid (fun(W:World) (hW:Below wr.heap.size wr W) => ME ng nc (.slice A (ng+nc) c3) (Bv d row) (gr ++ fo) W (4 * nd) (rSl.below An.loc An.fix hgr hW) hng1 hng4 hnc2 (by rw[hll];omega) hall4 (by omega));have hcs:=Pg d.s.sh wr;unfold shV at hcs;rw[show d.s.sh.g=(ng:Int)from HNG.out,show d.s.sh.c=(nc:Int)from HNC.out]at hcs;have hsh:=HSHF.out wr HBW.out;rw[HNG.out,HNC.out]at hsh;have HSH2:=hid hsh;have HCS:=hid hcs;have lp2:p<wr.heap.size:=Nat.lt_of_lt_of_le lp1 sB;obtain⟨Y,hY⟩:∃Y,Eu (4 * nd) ng nc (Bv d row)=Y:=⟨_,rfl⟩;rw[hY]at HDC HRC;have HY:=hid hY;clear ho hll hgr hall4 hcs hsh hY;go_wp2_with (first
     |(refine wpList_load_mid rfl 31 (.tmp 49) rfl p 0 rfl [.int .i64 (ng:Int),.int .i64 (nc:Int),.int .i64 d.s.data,.int .i64 d.s.p,.int .i64 d.s.rows,.int .i64 d.s.cap,.int .i64 d.s.b,.int .i64 d.s.q,.int .i64 d.s.t] _ HSH2.out Tryz.underlying31 rfl (by kernel_rfl) ?_)
     |(go_at_call 47;refine HCS.out.mono ?_;rintro e w5 ⟨rfl,b5⟩;have HDD:=hid (HDC.out w5 b5);have B5:=hid (HBW.out.trans (b5.mono HBW.out.size));clear b5))
    refine HDD.out.mono ?_;rintro e w6 (⟨L,A9,c9,f9,e9,rfl,r9,m9,b9⟩|⟨e9,rfl,b9⟩)
    ·have hL:L.length=ng+nc:=by
      have h1:=HY.out;rw[e9]at h1;unfold Eu at h1;split at h1
      ·cases h1
      ·injection h1 with h1
       rw[← h1];exact DK _ _ _ _ _
     obtain⟨A9',c9',e9',-,-,hx9⟩:=An.open_ r9;injection e9' with e91 _ e93
     subst e91 e93;have hgl9:g<L.length:=by omega
     obtain⟨ad9,A10,c10,f10,e10,bl10,p10,r10,t10,s10,-⟩:=hx9 g hgl9;subst e10;have hgi:(g:Int)<(L.length:Int):=by omega
     have hm:=Af.mine (lo:=w5.heap.size) r10 (fun a ha =>⟨m9.from_ a (s10 a ha),m9.free a (s10 a ha)⟩);have hR:Ev d g row=some (L[g]'hgl9):=by
      rw[HRC.out,e9,Option.map_some];simp[List.getD_eq_getElem?_getD,hL,hg2]
     have HR:=hid hR;have HM:=hid hm;have R10:=hid r10;have B9:=hid (B5.out.trans (b9.mono B5.out.size));clear hx9 r9 m9 b9 t10 s10 hm hR r10 hL e9;go_wp2_with fail
     go_ret2
     exact .inl ⟨L[g],A10,c10,f10,HR.out,rfl,R10.out,HM.out.mono B5.out.size,B9.out⟩
    ·have hR:Ev d g row=none:=by rw[HRC.out,e9];rfl
     have HR:=hid hR;have B9:=hid (B5.out.trans (b9.mono B5.out.size));clear b9 hR e9;go_wp2_with fail
     go_ret2
     exact .inr ⟨HR.out,rfl,B9.out⟩
end Go.Proofs.YtfjkoifpdoemdaaGreat
