/-
  Part 31 of the proof; the last part states and proves the statement.
-/
import Derived.Test.YtfjkoifpdoemdaaGreatK05
import Derived.Test.YtfjkoifpdoemdaaGreatK30
import Derived.Test.YtfjkoifpdoemdaaGreatK23
import Derived.Test.YtfjkoifpdoemdaaGreatK21
set_option maxHeartbeats 8000000
set_option maxRecDepth 100000
set_option linter.unusedVariables false
set_option linter.unusedSimpArgs false
open Go.Value (int)
open Go.IntKind (i64)
namespace Go.Proofs.YtfjkoifpdoemdaaGreat
open Go.RowKit Go.Lib Go.Sort
def C3(hi:Int)(d:AY):Int :=
 if AI d.world=0 then(if BA hi d.world.s.sh d.desk=0 then(if(d.world.down && decide (0<(AN d.desk).length))=true then 1 else 0)else BA hi d.world.s.sh d.desk)else AI d.world
theorem Ga {d:AC}(h:AI d=0):shB d.s.sh=true:=by
 by_cases hs:shB d.s.sh=true
 ·exact hs
 ·unfold AI at h;rw[if_neg hs]at h;exact absurd h (by decide)
theorem Ee {hi:Int} {s:Sh} {d:AJ}(hs:s.Ok)(h:BA hi s d=0):(AN d).length≤1000000:=by
 by_cases h1:(d.queues.length:Int)=s.g+s.c
 ·cases h2:(d.queues.any (CI s)||(decide (20<d.aside.length)||decide (200<d.answers.length)))with
  |true => rw[Fx h1 h2]at h;exact absurd h (by decide)
  |false =>
   simp only[Bool.or_eq_false_iff,decide_eq_false_iff_not]at h2;exact Nat.le_trans (Fu hs h1 h2.1 (by omega)) (by decide)
 ·rw[FW h1]at h;exact absurd h (by decide)
theorem CG.ofArc {W:World} {p:Nat} {T:TypeId} {d:AJ} {c1 c2:List Value} {f2:List Addr}(K:Blk W p T (c1 ++ c2).toArray)(hl:c1.length=15)(h:AO W f2 c2 d) :
  ∃A0 A1 A2 k0 k1 k2 g0 g1 g2,CG W p 15 d A0 A1 A2 k0 k1 k2 g0 g1 g2:=by
 dsimp only[AO]at h;obtain⟨v0,v1,v2,g0,g1,g2,e,-,o0,o1,r0,r1,r2⟩:=h;obtain⟨A0,k0,rfl,-⟩:=rSl.head r0;obtain⟨A1,k1,rfl,-⟩:=rSl.head r1;obtain⟨A2,k2,rfl,-⟩:=rSl.head r2;have hc:∀j v,c2[j]? =some v→W.cell? ⟨p,15+j,none⟩=some v:=fun j v hj => by
  rw[K.cell,List.getElem?_toArray,List.getElem?_append_right (by omega),hl,show 15+j - 15=j by omega];exact hj
 subst e;exact⟨A0,A1,A2,k0,k1,k2,g0,g1,g2,hc 0 _ rfl,hc 1 _ rfl,hc 2 _ rfl,hc 3 _ rfl,hc 4 _ rfl,K.lt,r0,r1,r2⟩
theorem EK {W:World} {f1:List Addr} {c1:List Value} {d:AC}(h:AB W f1 c1 d):c1.take 9= [int i64 d.s.g,int i64 d.s.c,int i64 d.s.data,int i64 d.s.p,int i64 d.s.rows,int i64 d.s.cap,int i64 d.s.b,int i64 d.s.q,int i64 d.s.t]∧c1[14]? =some (.bool d.down):=by
 dsimp only[AB]at h;obtain⟨v0,v1,v2,g0,g1,g2,e,-⟩:=h;subst e;exact⟨rfl,rfl⟩
theorem F3(d:AY)(cs:List Value)(f:List Addr)(w:World)(h:AE w f cs d) :
  Calls Tryz.prog 66 #[.agg cs.toArray] w fun e w' => e= .returned (int i64 (C3 (d.desk.next - 1) d))∧Below w.heap.size w w':=by
 obtain⟨c1,c2,g1,g2,rfl,-,hw,hd⟩:=h.parts;clear h;have hl15:=AB.wide _ _ _ _ hw;have hl5:=AO.wide _ _ _ _ hd;have hB:Below w.heap.size w (w.alloc (.cells (c1 ++ c2).toArray 62)):=(Below.refl _ _).alloc (Nat.le_refl _) _;have K1:Blk (w.alloc (.cells (c1 ++ c2).toArray 62)) w.heap.size 62 (c1 ++ c2).toArray:=Blk.new w _ _;have HB:=hid hB;have HK:=hid K1;have H15:=hid hl15;have HRW:=hid (Ej (Blk.rangeAll K1));have HIW:=hid (show(Tryz.prog.info? 35).map (·.size)=some c1.length by rw[hl15];kernel_rfl);have HID:=hid (show(Tryz.prog.info? 60).map (·.size)=some c2.length by rw[hl5];kernel_rfl);have HSHP:=hid (show∀W,Blk W w.heap.size 62 (c1 ++ c2).toArray→W.rangeAt w.heap.size 0 [int i64 d.world.s.g,int i64 d.world.s.c,int i64 d.world.s.data,int i64 d.world.s.p,int i64 d.world.s.rows,int i64 d.world.s.cap,int i64 d.world.s.b,int i64 d.world.s.q,int i64 d.world.s.t]from fun W K => by
  have h1:=Ej (Blk.rangeAll K);rw[← List.take_append_drop 9 c1]at h1;rw[← (EK hw).1];exact Ej h1)
 have HC14:=hid (show∀W,Blk W w.heap.size 62 (c1 ++ c2).toArray→W.cell? ⟨w.heap.size,14,none⟩=some (.bool d.world.down)from fun W K => by
  rw[K.cell,List.getElem?_toArray,List.getElem?_append_left (by omega)];exact(EK hw).2)
 have HWF:=hid (GQ d.world c1 g1 (w.alloc (.cells (c1 ++ c2).toArray 62)) (Ap.below AB.local_ AB.fixed hw hB));have HDF0:=hid (fun(h0:AI d.world=0) (W:World) (hW:Below w.heap.size w W) => Hh d.world.s.sh (Ga h0) d.desk c2 g2 W (Ap.below AO.local_ AO.fixed hd hW));have HTK0:=hid (fun(hsm:(AN d.desk).length≤1000000) (W:World) (K:Blk W w.heap.size 62 (c1 ++ c2).toArray) (hW:Below w.heap.size w W) => show Calls Tryz.prog 125 #[.pointer (some ⟨w.heap.size,15,none⟩)] W (fun e w' =>∃A c gs,e= .returned (.slice A (AN d.desk).length c)∧rSl 4 Af w' gs (.slice A (AN d.desk).length c) (AN d.desk)∧(∀a,a∈gs→W.heap.size≤a.block)∧Below W.heap.size W w')from by
  obtain⟨A0,A1,A2,k0,k1,k2,q0,q1,q2,hD⟩:=CG.ofArc K hl15 (Ap.below AO.local_ AO.fixed hd hW);exact Gf w.heap.size 15 d.desk A0 A1 A2 k0 k1 k2 q0 q1 q2 W hD hsm)
 obtain⟨r,hr⟩:∃r,C3 (d.desk.next - 1) d=r:=⟨_,rfl⟩;rw[hr];have HR:=hid hr;clear hr hB K1 hw hd hl15 hl5;have HSMALL:=hid (fun(h0:AI d.world=0) (h1:BA (d.desk.next - 1) d.world.s.sh d.desk=0) => Ee (Cv (Ga h0)) h1);unfold shV at HDF0;by_cases q0:AI d.world=0
 case neg =>
  have e1:r=AI d.world:=by have:=HR.out;unfold C3 at this;rw[if_neg q0]at this;exact this.symm
  obtain⟨wc,hwc⟩:∃wc,AI d.world=wc:=⟨_,rfl⟩;rw[hwc]at HWF e1 q0;have hb:=C8 q0;subst e1;clear q0 hwc;go_enter Tryz.func66,Tryz.ntmps66
  go_wp2_with (first
   |(refine wpList_load_mid rfl 35 _ rfl w.heap.size 0 rfl c1 _ HRW.out Tryz.underlying35 rfl HIW.out ?_)
   |(go_at_call 44;refine HWF.out.mono ?_;rintro e w3 ⟨rfl,b3⟩;have K3:=hid (HK.out.below b3 HK.out.lt);have B3:=hid (HB.out.trans (b3.mono HB.out.size));have z3:=K3.out.lt;have HRS3:=hid (HSHP.out w3 K3.out);have HRD3:=hid (show w3.rangeAt w.heap.size 15 c2 from by have:=C9 (Blk.rangeAll K3.out);rw[H15.out]at this;exact this);clear b3))
  go_ret
  exact⟨rfl,B3.out⟩
 have HDF:=hid (HDF0.out q0);have HSM1:=hid (fun h1 => HSMALL.out q0 h1);have HR2:=hid (show(if BA (d.desk.next - 1) d.world.s.sh d.desk=0 then(if(d.world.down && decide (0<(AN d.desk).length))=true then 1 else 0)else BA (d.desk.next - 1) d.world.s.sh d.desk)=r by have:=HR.out;unfold C3 at this;rwa [if_pos q0]at this);rw[q0]at HWF;clear q0 HSMALL HDF0 HR;obtain⟨dc,hdc⟩:∃dc,BA (d.desk.next - 1) d.world.s.sh d.desk=dc:=⟨_,rfl⟩;have HDF1:=HDF;clear HDF;rw[show d.world.s.sh.g=d.world.s.g from rfl,show d.world.s.sh.c=d.world.s.c from rfl,show d.world.s.sh.data=d.world.s.data from rfl,show d.world.s.sh.p=d.world.s.p from rfl,show d.world.s.sh.rows=d.world.s.rows from rfl,show d.world.s.sh.cap=d.world.s.cap from rfl,show d.world.s.sh.b=d.world.s.b from rfl,show d.world.s.sh.q=d.world.s.q from rfl,show d.world.s.sh.t=d.world.s.t from rfl]at HDF1;have HDF:=HDF1;clear HDF1;rw[hdc]at HDF HSM1 HR2;clear hdc;by_cases q1:dc=0
 case neg =>
  have e1:r=dc:=by have:=HR2.out;rwa [if_neg q1,eq_comm]at this
  have hb:=C8 q1;subst e1;clear q1;go_enter Tryz.func66,Tryz.ntmps66
  go_wp2_with (first
   |(refine wpList_load_mid rfl 35 _ rfl w.heap.size 0 rfl c1 _ HRW.out Tryz.underlying35 rfl HIW.out ?_)
   |(go_at_call 44;refine HWF.out.mono ?_;rintro e w3 ⟨rfl,b3⟩;have K3:=hid (HK.out.below b3 HK.out.lt);have B3:=hid (HB.out.trans (b3.mono HB.out.size));have z3:=K3.out.lt;have HRS3:=hid (HSHP.out w3 K3.out);have HRD3:=hid (show w3.rangeAt w.heap.size 15 c2 from by have:=C9 (Blk.rangeAll K3.out);rw[H15.out]at this;exact this);clear b3)
   |(refine wpList_load_mid rfl 31 _ rfl w.heap.size 0 rfl _ _ HRS3.out Tryz.underlying31 rfl (by kernel_rfl) ?_)
   |(refine wpList_load_mid rfl 60 _ rfl w.heap.size 15 rfl c2 _ HRD3.out Tryz.underlying60 rfl HID.out ?_)
   |(go_at_call 124;refine(HDF.out _ B3.out).mono ?_;rintro e w4 ⟨rfl,b4⟩;have K4:=hid (K3.out.below b4 K3.out.lt);have B4:=hid (B3.out.trans (b4.mono B3.out.size));have z4:=K4.out.lt;have x14:w4.cell? ⟨w.heap.size,14,none⟩=some (.bool d.world.down):=HC14.out w4 K4.out;clear b4))
  go_ret
  exact⟨rfl,B4.out⟩
 subst q1;rw[if_pos rfl]at HR2;have HTKS:=hid (HTK0.out (HSM1.out rfl));obtain⟨n,hn⟩:∃n,(AN d.desk).length =n:=⟨_,rfl⟩;rw[hn]at HTKS HR2;obtain⟨dn,hdn⟩:∃dn,d.world.down=dn:=⟨_,rfl⟩;rw[hdn]at HC14 HR2;clear HTK0 HSM1;cases dn with
 |false =>
  obtain rfl:r=0:=HR2.out.symm;go_enter Tryz.func66,Tryz.ntmps66
  go_wp2_with (first
   |(refine wpList_load_mid rfl 35 _ rfl w.heap.size 0 rfl c1 _ HRW.out Tryz.underlying35 rfl HIW.out ?_)
   |(go_at_call 44;refine HWF.out.mono ?_;rintro e w3 ⟨rfl,b3⟩;have K3:=hid (HK.out.below b3 HK.out.lt);have B3:=hid (HB.out.trans (b3.mono HB.out.size));have z3:=K3.out.lt;have HRS3:=hid (HSHP.out w3 K3.out);have HRD3:=hid (show w3.rangeAt w.heap.size 15 c2 from by have:=C9 (Blk.rangeAll K3.out);rw[H15.out]at this;exact this);clear b3)
   |(refine wpList_load_mid rfl 31 _ rfl w.heap.size 0 rfl _ _ HRS3.out Tryz.underlying31 rfl (by kernel_rfl) ?_)
   |(refine wpList_load_mid rfl 60 _ rfl w.heap.size 15 rfl c2 _ HRD3.out Tryz.underlying60 rfl HID.out ?_)
   |(go_at_call 124;refine(HDF.out _ B3.out).mono ?_;rintro e w4 ⟨rfl,b4⟩;have K4:=hid (K3.out.below b4 K3.out.lt);have B4:=hid (B3.out.trans (b4.mono B3.out.size));have z4:=K4.out.lt;have x14:w4.cell? ⟨w.heap.size,14,none⟩=some (.bool false):=HC14.out w4 K4.out;clear b4))
  go_ret
  exact⟨rfl,B4.out⟩
 |true =>
  by_cases q2:0<n
  ·obtain rfl:r=1:=HR2.out.symm.trans (by rw[decide_eq_true q2];rfl);have q2i:(0:Int)<(n:Int):=by omega
   go_enter Tryz.func66,Tryz.ntmps66
   go_wp2_with (first
    |(refine wpList_load_mid rfl 35 _ rfl w.heap.size 0 rfl c1 _ HRW.out Tryz.underlying35 rfl HIW.out ?_)
    |(go_at_call 44;refine HWF.out.mono ?_;rintro e w3 ⟨rfl,b3⟩;have K3:=hid (HK.out.below b3 HK.out.lt);have B3:=hid (HB.out.trans (b3.mono HB.out.size));have z3:=K3.out.lt;have HRS3:=hid (HSHP.out w3 K3.out);have HRD3:=hid (show w3.rangeAt w.heap.size 15 c2 from by have:=C9 (Blk.rangeAll K3.out);rw[H15.out]at this;exact this);clear b3)
    |(refine wpList_load_mid rfl 31 _ rfl w.heap.size 0 rfl _ _ HRS3.out Tryz.underlying31 rfl (by kernel_rfl) ?_)
    |(refine wpList_load_mid rfl 60 _ rfl w.heap.size 15 rfl c2 _ HRD3.out Tryz.underlying60 rfl HID.out ?_)
    |(go_at_call 124;refine(HDF.out _ B3.out).mono ?_;rintro e w4 ⟨rfl,b4⟩;have K4:=hid (K3.out.below b4 K3.out.lt);have B4:=hid (B3.out.trans (b4.mono B3.out.size));have z4:=K4.out.lt;have x14:w4.cell? ⟨w.heap.size,14,none⟩=some (.bool true):=HC14.out w4 K4.out;clear b4)
    |(go_at_call 125;refine(HTKS.out w4 K4.out B4.out).mono ?_;rintro e w5 ⟨A5,c5,g5,rfl,-,-,b5⟩;have B5:=hid (B4.out.trans (b5.mono B4.out.size));clear  b5))
   go_ret
   exact⟨rfl,B5.out⟩
  ·obtain rfl:r=0:=HR2.out.symm.trans (by rw[decide_eq_false q2];rfl);obtain rfl:n=0:=by omega
   clear q2;go_enter Tryz.func66,Tryz.ntmps66
   go_wp2_with (first
    |(refine wpList_load_mid rfl 35 _ rfl w.heap.size 0 rfl c1 _ HRW.out Tryz.underlying35 rfl HIW.out ?_)
    |(go_at_call 44;refine HWF.out.mono ?_;rintro e w3 ⟨rfl,b3⟩;have K3:=hid (HK.out.below b3 HK.out.lt);have B3:=hid (HB.out.trans (b3.mono HB.out.size));have z3:=K3.out.lt;have HRS3:=hid (HSHP.out w3 K3.out);have HRD3:=hid (show w3.rangeAt w.heap.size 15 c2 from by have:=C9 (Blk.rangeAll K3.out);rw[H15.out]at this;exact this);clear b3)
    |(refine wpList_load_mid rfl 31 _ rfl w.heap.size 0 rfl _ _ HRS3.out Tryz.underlying31 rfl (by kernel_rfl) ?_)
    |(refine wpList_load_mid rfl 60 _ rfl w.heap.size 15 rfl c2 _ HRD3.out Tryz.underlying60 rfl HID.out ?_)
    |(go_at_call 124;refine(HDF.out _ B3.out).mono ?_;rintro e w4 ⟨rfl,b4⟩;have K4:=hid (K3.out.below b4 K3.out.lt);have B4:=hid (B3.out.trans (b4.mono B3.out.size));have z4:=K4.out.lt;have x14:w4.cell? ⟨w.heap.size,14,none⟩=some (.bool true):=HC14.out w4 K4.out;clear b4)
    |(go_at_call 125;refine(HTKS.out w4 K4.out B4.out).mono ?_;rintro e w5 ⟨A5,c5,g5,rfl,-,-,b5⟩;have B5:=hid (B4.out.trans (b5.mono B4.out.size));clear  b5))
   go_ret
   exact⟨rfl,B5.out⟩
theorem Gb(d:AY)(cs:List Value)(f:List Addr)(w:World)(h:AE w f cs d) :
  Calls Tryz.prog 63 #[.agg cs.toArray] w fun e w' => e= .returned (int i64 (C3 (IntKind.i64.wrap (d.desk.next - 1)) d))∧Below w.heap.size w w':=by
 obtain⟨c1,c2,g1,g2,rfl,-,hw,hd⟩:=h.parts;clear h;have hl15:=AB.wide _ _ _ _ hw;have hl5:=AO.wide _ _ _ _ hd;have hB:Below w.heap.size w (w.alloc (.cells (c1 ++ c2).toArray 62)):=(Below.refl _ _).alloc (Nat.le_refl _) _;have K1:Blk (w.alloc (.cells (c1 ++ c2).toArray 62)) w.heap.size 62 (c1 ++ c2).toArray:=Blk.new w _ _;have HB:=hid hB;have HK:=hid K1;have H15:=hid hl15;have HRW:=hid (Ej (Blk.rangeAll K1));have HIW:=hid (show(Tryz.prog.info? 35).map (·.size)=some c1.length by rw[hl15];kernel_rfl);have HID:=hid (show(Tryz.prog.info? 60).map (·.size)=some c2.length by rw[hl5];kernel_rfl);have HSHP:=hid (show∀W,Blk W w.heap.size 62 (c1 ++ c2).toArray→W.rangeAt w.heap.size 0 [int i64 d.world.s.g,int i64 d.world.s.c,int i64 d.world.s.data,int i64 d.world.s.p,int i64 d.world.s.rows,int i64 d.world.s.cap,int i64 d.world.s.b,int i64 d.world.s.q,int i64 d.world.s.t]from fun W K => by
  have h1:=Ej (Blk.rangeAll K);rw[← List.take_append_drop 9 c1]at h1;rw[← (EK hw).1];exact Ej h1)
 have HC14:=hid (show∀W,Blk W w.heap.size 62 (c1 ++ c2).toArray→W.cell? ⟨w.heap.size,14,none⟩=some (.bool d.world.down)from fun W K => by
  rw[K.cell,List.getElem?_toArray,List.getElem?_append_left (by omega)];exact(EK hw).2)
 have HWF:=hid (GY d.world c1 g1 (w.alloc (.cells (c1 ++ c2).toArray 62)) (Ap.below AB.local_ AB.fixed hw hB));have HDF0:=hid (fun(h0:AI d.world=0) (W:World) (hW:Below w.heap.size w W) => Hu d.world.s.sh (Ga h0) d.desk c2 g2 W (Ap.below AO.local_ AO.fixed hd hW));have HTK0:=hid (fun(hsm:(AN d.desk).length≤1000000) (W:World) (K:Blk W w.heap.size 62 (c1 ++ c2).toArray) (hW:Below w.heap.size w W) => show Calls Tryz.prog 117 #[.pointer (some ⟨w.heap.size,15,none⟩)] W (fun e w' =>∃A c gs,e= .returned (.slice A (AN d.desk).length c)∧rSl 4 Af w' gs (.slice A (AN d.desk).length c) (AN d.desk)∧Below W.heap.size W w')from by
  obtain⟨A0,A1,A2,k0,k1,k2,q0,q1,q2,hD⟩:=CG.ofArc K hl15 (Ap.below AO.local_ AO.fixed hd hW);exact FA w.heap.size 15 d.desk A0 A1 A2 k0 k1 k2 q0 q1 q2 W hD hsm)
 obtain⟨r,hr⟩:∃r,C3 (IntKind.i64.wrap (d.desk.next - 1)) d=r:=⟨_,rfl⟩;rw[hr];have HR:=hid hr;clear hr hB K1 hw hd hl15 hl5;have HSMALL:=hid (fun(h0:AI d.world=0) (h1:BA (IntKind.i64.wrap (d.desk.next - 1)) d.world.s.sh d.desk=0) => Ee (Cv (Ga h0)) h1);unfold shV at HDF0;by_cases q0:AI d.world=0
 case neg =>
  have e1:r=AI d.world:=by have:=HR.out;unfold C3 at this;rw[if_neg q0]at this;exact this.symm
  obtain⟨wc,hwc⟩:∃wc,AI d.world=wc:=⟨_,rfl⟩;rw[hwc]at HWF e1 q0;have hb:=C8 q0;subst e1;clear q0 hwc;go_enter Tryz.func63,Tryz.ntmps63
  go_wp2_with (first
   |(refine wpList_load_mid rfl 35 _ rfl w.heap.size 0 rfl c1 _ HRW.out Tryz.underlying35 rfl HIW.out ?_)
   |(go_at_call 34;refine HWF.out.mono ?_;rintro e w3 ⟨rfl,b3⟩;have K3:=hid (HK.out.below b3 HK.out.lt);have B3:=hid (HB.out.trans (b3.mono HB.out.size));have z3:=K3.out.lt;have HRS3:=hid (HSHP.out w3 K3.out);have HRD3:=hid (show w3.rangeAt w.heap.size 15 c2 from by have:=C9 (Blk.rangeAll K3.out);rw[H15.out]at this;exact this);clear b3))
  go_ret
  exact⟨rfl,B3.out⟩
 have HDF:=hid (HDF0.out q0);have HSM1:=hid (fun h1 => HSMALL.out q0 h1);have HR2:=hid (show(if BA (IntKind.i64.wrap (d.desk.next - 1)) d.world.s.sh d.desk=0 then(if(d.world.down && decide (0<(AN d.desk).length))=true then 1 else 0)else BA (IntKind.i64.wrap (d.desk.next - 1)) d.world.s.sh d.desk)=r by have:=HR.out;unfold C3 at this;rwa [if_pos q0]at this);rw[q0]at HWF;clear q0 HSMALL HDF0 HR;obtain⟨dc,hdc⟩:∃dc,BA (IntKind.i64.wrap (d.desk.next - 1)) d.world.s.sh d.desk=dc:=⟨_,rfl⟩;have HDF1:=HDF;clear HDF;rw[show d.world.s.sh.g=d.world.s.g from rfl,show d.world.s.sh.c=d.world.s.c from rfl,show d.world.s.sh.data=d.world.s.data from rfl,show d.world.s.sh.p=d.world.s.p from rfl,show d.world.s.sh.rows=d.world.s.rows from rfl,show d.world.s.sh.cap=d.world.s.cap from rfl,show d.world.s.sh.b=d.world.s.b from rfl,show d.world.s.sh.q=d.world.s.q from rfl,show d.world.s.sh.t=d.world.s.t from rfl]at HDF1;have HDF:=HDF1;clear HDF1;rw[hdc]at HDF HSM1 HR2;clear hdc;by_cases q1:dc=0
 case neg =>
  have e1:r=dc:=by have:=HR2.out;rwa [if_neg q1,eq_comm]at this
  have hb:=C8 q1;subst e1;clear q1;go_enter Tryz.func63,Tryz.ntmps63
  go_wp2_with (first
   |(refine wpList_load_mid rfl 35 _ rfl w.heap.size 0 rfl c1 _ HRW.out Tryz.underlying35 rfl HIW.out ?_)
   |(go_at_call 34;refine HWF.out.mono ?_;rintro e w3 ⟨rfl,b3⟩;have K3:=hid (HK.out.below b3 HK.out.lt);have B3:=hid (HB.out.trans (b3.mono HB.out.size));have z3:=K3.out.lt;have HRS3:=hid (HSHP.out w3 K3.out);have HRD3:=hid (show w3.rangeAt w.heap.size 15 c2 from by have:=C9 (Blk.rangeAll K3.out);rw[H15.out]at this;exact this);clear b3)
   |(refine wpList_load_mid rfl 31 _ rfl w.heap.size 0 rfl _ _ HRS3.out Tryz.underlying31 rfl (by kernel_rfl) ?_)
   |(refine wpList_load_mid rfl 60 _ rfl w.heap.size 15 rfl c2 _ HRD3.out Tryz.underlying60 rfl HID.out ?_)
   |(go_at_call 116;refine(HDF.out _ B3.out).mono ?_;rintro e w4 ⟨rfl,b4⟩;have K4:=hid (K3.out.below b4 K3.out.lt);have B4:=hid (B3.out.trans (b4.mono B3.out.size));have z4:=K4.out.lt;have x14:w4.cell? ⟨w.heap.size,14,none⟩=some (.bool d.world.down):=HC14.out w4 K4.out;clear b4))
  go_ret
  exact⟨rfl,B4.out⟩
 subst q1;rw[if_pos rfl]at HR2;have HTKS:=hid (HTK0.out (HSM1.out rfl));obtain⟨n,hn⟩:∃n,(AN d.desk).length =n:=⟨_,rfl⟩;rw[hn]at HTKS HR2;obtain⟨dn,hdn⟩:∃dn,d.world.down=dn:=⟨_,rfl⟩;rw[hdn]at HC14 HR2;clear HTK0 HSM1;cases dn with
 |false =>
  obtain rfl:r=0:=HR2.out.symm;go_enter Tryz.func63,Tryz.ntmps63
  go_wp2_with (first
   |(refine wpList_load_mid rfl 35 _ rfl w.heap.size 0 rfl c1 _ HRW.out Tryz.underlying35 rfl HIW.out ?_)
   |(go_at_call 34;refine HWF.out.mono ?_;rintro e w3 ⟨rfl,b3⟩;have K3:=hid (HK.out.below b3 HK.out.lt);have B3:=hid (HB.out.trans (b3.mono HB.out.size));have z3:=K3.out.lt;have HRS3:=hid (HSHP.out w3 K3.out);have HRD3:=hid (show w3.rangeAt w.heap.size 15 c2 from by have:=C9 (Blk.rangeAll K3.out);rw[H15.out]at this;exact this);clear b3)
   |(refine wpList_load_mid rfl 31 _ rfl w.heap.size 0 rfl _ _ HRS3.out Tryz.underlying31 rfl (by kernel_rfl) ?_)
   |(refine wpList_load_mid rfl 60 _ rfl w.heap.size 15 rfl c2 _ HRD3.out Tryz.underlying60 rfl HID.out ?_)
   |(go_at_call 116;refine(HDF.out _ B3.out).mono ?_;rintro e w4 ⟨rfl,b4⟩;have K4:=hid (K3.out.below b4 K3.out.lt);have B4:=hid (B3.out.trans (b4.mono B3.out.size));have z4:=K4.out.lt;have x14:w4.cell? ⟨w.heap.size,14,none⟩=some (.bool false):=HC14.out w4 K4.out;clear b4))
  go_ret
  exact⟨rfl,B4.out⟩
 |true =>
  by_cases q2:0<n
  ·obtain rfl:r=1:=HR2.out.symm.trans (by rw[decide_eq_true q2];rfl);have q2i:(0:Int)<(n:Int):=by omega
   go_enter Tryz.func63,Tryz.ntmps63
   go_wp2_with (first
    |(refine wpList_load_mid rfl 35 _ rfl w.heap.size 0 rfl c1 _ HRW.out Tryz.underlying35 rfl HIW.out ?_)
    |(go_at_call 34;refine HWF.out.mono ?_;rintro e w3 ⟨rfl,b3⟩;have K3:=hid (HK.out.below b3 HK.out.lt);have B3:=hid (HB.out.trans (b3.mono HB.out.size));have z3:=K3.out.lt;have HRS3:=hid (HSHP.out w3 K3.out);have HRD3:=hid (show w3.rangeAt w.heap.size 15 c2 from by have:=C9 (Blk.rangeAll K3.out);rw[H15.out]at this;exact this);clear b3)
    |(refine wpList_load_mid rfl 31 _ rfl w.heap.size 0 rfl _ _ HRS3.out Tryz.underlying31 rfl (by kernel_rfl) ?_)
    |(refine wpList_load_mid rfl 60 _ rfl w.heap.size 15 rfl c2 _ HRD3.out Tryz.underlying60 rfl HID.out ?_)
    |(go_at_call 116;refine(HDF.out _ B3.out).mono ?_;rintro e w4 ⟨rfl,b4⟩;have K4:=hid (K3.out.below b4 K3.out.lt);have B4:=hid (B3.out.trans (b4.mono B3.out.size));have z4:=K4.out.lt;have x14:w4.cell? ⟨w.heap.size,14,none⟩=some (.bool true):=HC14.out w4 K4.out;clear b4)
    |(go_at_call 117;refine(HTKS.out w4 K4.out B4.out).mono ?_;rintro e w5 ⟨A5,c5,g5,rfl,-,b5⟩;have B5:=hid (B4.out.trans (b5.mono B4.out.size));clear  b5))
   go_ret
   exact⟨rfl,B5.out⟩
  ·obtain rfl:r=0:=HR2.out.symm.trans (by rw[decide_eq_false q2];rfl);obtain rfl:n=0:=by omega
   clear q2;go_enter Tryz.func63,Tryz.ntmps63
   go_wp2_with (first
    |(refine wpList_load_mid rfl 35 _ rfl w.heap.size 0 rfl c1 _ HRW.out Tryz.underlying35 rfl HIW.out ?_)
    |(go_at_call 34;refine HWF.out.mono ?_;rintro e w3 ⟨rfl,b3⟩;have K3:=hid (HK.out.below b3 HK.out.lt);have B3:=hid (HB.out.trans (b3.mono HB.out.size));have z3:=K3.out.lt;have HRS3:=hid (HSHP.out w3 K3.out);have HRD3:=hid (show w3.rangeAt w.heap.size 15 c2 from by have:=C9 (Blk.rangeAll K3.out);rw[H15.out]at this;exact this);clear b3)
    |(refine wpList_load_mid rfl 31 _ rfl w.heap.size 0 rfl _ _ HRS3.out Tryz.underlying31 rfl (by kernel_rfl) ?_)
    |(refine wpList_load_mid rfl 60 _ rfl w.heap.size 15 rfl c2 _ HRD3.out Tryz.underlying60 rfl HID.out ?_)
    |(go_at_call 116;refine(HDF.out _ B3.out).mono ?_;rintro e w4 ⟨rfl,b4⟩;have K4:=hid (K3.out.below b4 K3.out.lt);have B4:=hid (B3.out.trans (b4.mono B3.out.size));have z4:=K4.out.lt;have x14:w4.cell? ⟨w.heap.size,14,none⟩=some (.bool true):=HC14.out w4 K4.out;clear b4)
    |(go_at_call 117;refine(HTKS.out w4 K4.out B4.out).mono ?_;rintro e w5 ⟨A5,c5,g5,rfl,-,b5⟩;have B5:=hid (B4.out.trans (b5.mono B4.out.size));clear  b5))
   go_ret
   exact⟨rfl,B5.out⟩
end Go.Proofs.YtfjkoifpdoemdaaGreat
