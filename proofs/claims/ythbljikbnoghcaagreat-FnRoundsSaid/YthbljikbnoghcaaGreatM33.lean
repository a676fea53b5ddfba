/-
  Part 33 of the proof; the last part states and proves the statement.
-/
import Derived.Test.YthbljikbnoghcaaGreatM20
import Derived.Test.YthbljikbnoghcaaGreatM24
import Derived.Test.YthbljikbnoghcaaGreatM30
import Derived.Test.YthbljikbnoghcaaGreatM32
import Derived.Test.YthbljikbnoghcaaGreatM21
import Derived.Test.YthbljikbnoghcaaGreatM10
import Derived.Lib.SliceRun
set_option maxHeartbeats 8000000
set_option maxRecDepth 100000
set_option linter.unusedVariables false
set_option linter.unusedSimpArgs false
open Go.Value (int)
open Go.IntKind (i64)
namespace Go.Proofs.YthbljikbnoghcaaGreat
open Go.RowKit Go.Lib Go.Sort
def C6(hi:Int)(d:Ao):Int :=
 if AI d.world=0 then(if Cg hi d.world.s.sh d.desk=0 then(if(d.world.down && decide (0<(AN d.desk).length))=true then 1 else 0)else Cg hi d.world.s.sh d.desk)else AI d.world
theorem shB_of {d:Au}(h:AI d=0):shB d.s.sh=true:=by
 by_cases hs:shB d.s.sh=true
 ·exact hs
 ·unfold AI at h;rw[if_neg hs]at h;exact absurd h (by decide)
theorem JI {hi:Int} {s:Sh} {d:AH}(hs:s.Ok)(h:Cg hi s d=0):(AN d).length≤1000000:=by
 by_cases h1:(d.queues.length:Int)=s.g+s.c
 ·cases h2:(d.queues.any (Ch s)||(decide (20<d.aside.length)||decide (200<d.answers.length)))with
  |true => rw[GQ h1 h2]at h;exact absurd h (by decide)
  |false =>
   simp only[Bool.or_eq_false_iff,decide_eq_false_iff_not]at h2;exact Nat.le_trans (GH hs h1 h2.1 (by omega)) (by decide)
 ·rw[H9 h1]at h;exact absurd h (by decide)
theorem Do.ofArc {W:World} {p:Nat} {T:TypeId} {d:AH} {c1 c2:List Value} {f2:List Addr}(K:Blk W p T (c1 ++ c2).toArray)(hl:c1.length=15)(h:Ba W f2 c2 d) :
  ∃A0 A1 A2 k0 k1 k2 g0 g1 g2,Do W p 15 d A0 A1 A2 k0 k1 k2 g0 g1 g2:=by
 dsimp only[Ba]at h;obtain⟨v0,v1,v2,g0,g1,g2,e,-,o0,o1,r0,r1,r2⟩:=h;obtain⟨A0,k0,rfl,-⟩:=rSl.head r0;obtain⟨A1,k1,rfl,-⟩:=rSl.head r1;obtain⟨A2,k2,rfl,-⟩:=rSl.head r2;have hc:∀j v,c2[j]? =some v→W.cell? ⟨p,15+j,none⟩=some v:=fun j v hj => by
  rw[K.cell,List.getElem?_toArray,List.getElem?_append_right (by omega),hl,show 15+j - 15=j by omega];exact hj
 subst e;exact⟨A0,A1,A2,k0,k1,k2,g0,g1,g2,hc 0 _ rfl,hc 1 _ rfl,hc 2 _ rfl,hc 3 _ rfl,hc 4 _ rfl,K.lt,r0,r1,r2⟩
theorem H7 {W:World} {f1:List Addr} {c1:List Value} {d:Au}(h:AD W f1 c1 d):c1.take 9= [int i64 d.s.g,int i64 d.s.c,int i64 d.s.data,int i64 d.s.p,int i64 d.s.rows,int i64 d.s.cap,int i64 d.s.b,int i64 d.s.q,int i64 d.s.t]∧c1[14]? =some (.bool d.down):=by
 dsimp only[AD]at h;obtain⟨v0,v1,v2,g0,g1,g2,e,-⟩:=h;subst e;exact⟨rfl,rfl⟩
theorem De(d:Ao)(cs:List Value)(f:List Addr)(w:World)(h:Af w f cs d) :
  Calls Tryz.prog 10 #[.agg cs.toArray] w fun e w' => e= .returned (int i64 (C6 (d.desk.next - 1) d))∧Below w.heap.size w w':=by
 obtain⟨c1,c2,g1,g2,rfl,-,hw,hd⟩:=h.parts;clear h;have hl15:=AD.wide _ _ _ _ hw;have hl5:=Ba.wide _ _ _ _ hd;have hB:Below w.heap.size w (w.alloc (.cells (c1 ++ c2).toArray 38)):=(Below.refl _ _).alloc (Nat.le_refl _) _;have K1:Blk (w.alloc (.cells (c1 ++ c2).toArray 38)) w.heap.size 38 (c1 ++ c2).toArray:=Blk.new w _ _;have HB:=hid hB;have HK:=hid K1;have H15:=hid hl15;have HRW:=hid (G2 (Blk.rangeAll K1));have HIW:=hid (show(Tryz.prog.info? 31).map (·.size)=some c1.length by rw[hl15];kernel_rfl);have HID:=hid (show(Tryz.prog.info? 36).map (·.size)=some c2.length by rw[hl5];kernel_rfl);have HSHP:=hid (show∀W,Blk W w.heap.size 38 (c1 ++ c2).toArray→W.rangeAt w.heap.size 0 [int i64 d.world.s.g,int i64 d.world.s.c,int i64 d.world.s.data,int i64 d.world.s.p,int i64 d.world.s.rows,int i64 d.world.s.cap,int i64 d.world.s.b,int i64 d.world.s.q,int i64 d.world.s.t]from fun W K => by
  have h1:=G2 (Blk.rangeAll K);rw[← List.take_append_drop 9 c1]at h1;rw[← (H7 hw).1];exact G2 h1)
 have HC14:=hid (show∀W,Blk W w.heap.size 38 (c1 ++ c2).toArray→W.cell? ⟨w.heap.size,14,none⟩=some (.bool d.world.down)from fun W K => by
  rw[K.cell,List.getElem?_toArray,List.getElem?_append_left (by omega)];exact(H7 hw).2)
 have HWF:=hid (Gy d.world c1 g1 (w.alloc (.cells (c1 ++ c2).toArray 38)) (Aw.below AD.local_ AD.fixed hw hB));have HDF0:=hid (fun(h0:AI d.world=0) (W:World) (hW:Below w.heap.size w W) => GY d.world.s.sh (shB_of h0) d.desk c2 g2 W (Aw.below Ba.local_ Ba.fixed hd hW));have HTK0:=hid (fun(hsm:(AN d.desk).length≤1000000) (W:World) (K:Blk W w.heap.size 38 (c1 ++ c2).toArray) (hW:Below w.heap.size w W) => show Calls Tryz.prog 28 #[.pointer (some ⟨w.heap.size,15,none⟩)] W (fun e w' =>∃A c gs,e= .returned (.slice A (AN d.desk).length c)∧rSl 4 Ah w' gs (.slice A (AN d.desk).length c) (AN d.desk)∧(∀a,a∈gs→W.heap.size≤a.block)∧Below W.heap.size W w')from by
  obtain⟨A0,A1,A2,k0,k1,k2,q0,q1,q2,hD⟩:=Do.ofArc K hl15 (Aw.below Ba.local_ Ba.fixed hd hW);exact ES w.heap.size 15 d.desk A0 A1 A2 k0 k1 k2 q0 q1 q2 W hD hsm)
 obtain⟨r,hr⟩:∃r,C6 (d.desk.next - 1) d=r:=⟨_,rfl⟩;rw[hr];have HR:=hid hr;clear hr hB K1 hw hd hl15 hl5;have HSMALL:=hid (fun(h0:AI d.world=0) (h1:Cg (d.desk.next - 1) d.world.s.sh d.desk=0) => JI (CJ (shB_of h0)) h1);unfold shV at HDF0;by_cases q0:AI d.world=0
 case neg =>
  have e1:r=AI d.world:=by have:=HR.out;unfold C6 at this;rw[if_neg q0]at this;exact this.symm
  obtain⟨wc,hwc⟩:∃wc,AI d.world=wc:=⟨_,rfl⟩;rw[hwc]at HWF e1 q0;have hb:=Eo q0;subst e1;clear q0 hwc;go_enter Tryz.func10,Tryz.ntmps10
  go_wp2_with (first
   |(refine wpList_load_mid rfl 31 _ rfl w.heap.size 0 rfl c1 _ HRW.out Tryz.underlying31 rfl HIW.out ?_)
   |(go_at_call 26;refine HWF.out.mono ?_;rintro e w3 ⟨rfl,b3⟩;have K3:=hid (HK.out.below b3 HK.out.lt);have B3:=hid (HB.out.trans (b3.mono HB.out.size));have z3:=K3.out.lt;have HRS3:=hid (HSHP.out w3 K3.out);have HRD3:=hid (show w3.rangeAt w.heap.size 15 c2 from by have:=Fd (Blk.rangeAll K3.out);rw[H15.out]at this;exact this);clear b3))
  go_ret
  exact⟨rfl,B3.out⟩
 have HDF:=hid (HDF0.out q0);have HSM1:=hid (fun h1 => HSMALL.out q0 h1);have HR2:=hid (show(if Cg (d.desk.next - 1) d.world.s.sh d.desk=0 then(if(d.world.down && decide (0<(AN d.desk).length))=true then 1 else 0)else Cg (d.desk.next - 1) d.world.s.sh d.desk)=r by have:=HR.out;unfold C6 at this;rwa [if_pos q0]at this);rw[q0]at HWF;clear q0 HSMALL HDF0 HR;obtain⟨dc,hdc⟩:∃dc,Cg (d.desk.next - 1) d.world.s.sh d.desk=dc:=⟨_,rfl⟩;have HDF1:=HDF;clear HDF;rw[show d.world.s.sh.g=d.world.s.g from rfl,show d.world.s.sh.c=d.world.s.c from rfl,show d.world.s.sh.data=d.world.s.data from rfl,show d.world.s.sh.p=d.world.s.p from rfl,show d.world.s.sh.rows=d.world.s.rows from rfl,show d.world.s.sh.cap=d.world.s.cap from rfl,show d.world.s.sh.b=d.world.s.b from rfl,show d.world.s.sh.q=d.world.s.q from rfl,show d.world.s.sh.t=d.world.s.t from rfl]at HDF1;have HDF:=HDF1;clear HDF1;rw[hdc]at HDF HSM1 HR2;clear hdc;by_cases q1:dc=0
 case neg =>
  have e1:r=dc:=by have:=HR2.out;rwa [if_neg q1,eq_comm]at this
  have hb:=Eo q1;subst e1;clear q1;go_enter Tryz.func10,Tryz.ntmps10
  go_wp2_with (first
   |(refine wpList_load_mid rfl 31 _ rfl w.heap.size 0 rfl c1 _ HRW.out Tryz.underlying31 rfl HIW.out ?_)
   |(go_at_call 26;refine HWF.out.mono ?_;rintro e w3 ⟨rfl,b3⟩;have K3:=hid (HK.out.below b3 HK.out.lt);have B3:=hid (HB.out.trans (b3.mono HB.out.size));have z3:=K3.out.lt;have HRS3:=hid (HSHP.out w3 K3.out);have HRD3:=hid (show w3.rangeAt w.heap.size 15 c2 from by have:=Fd (Blk.rangeAll K3.out);rw[H15.out]at this;exact this);clear b3)
   |(refine wpList_load_mid rfl 25 _ rfl w.heap.size 0 rfl _ _ HRS3.out Tryz.underlying25 rfl (by kernel_rfl) ?_)
   |(refine wpList_load_mid rfl 36 _ rfl w.heap.size 15 rfl c2 _ HRD3.out Tryz.underlying36 rfl HID.out ?_)
   |(go_at_call 27;refine(HDF.out _ B3.out).mono ?_;rintro e w4 ⟨rfl,b4⟩;have K4:=hid (K3.out.below b4 K3.out.lt);have B4:=hid (B3.out.trans (b4.mono B3.out.size));have z4:=K4.out.lt;have x14:w4.cell? ⟨w.heap.size,14,none⟩=some (.bool d.world.down):=HC14.out w4 K4.out;clear b4))
  go_ret
  exact⟨rfl,B4.out⟩
 subst q1;rw[if_pos rfl]at HR2;have HTKS:=hid (HTK0.out (HSM1.out rfl));obtain⟨n,hn⟩:∃n,(AN d.desk).length =n:=⟨_,rfl⟩;rw[hn]at HTKS HR2;obtain⟨dn,hdn⟩:∃dn,d.world.down=dn:=⟨_,rfl⟩;rw[hdn]at HC14 HR2;clear HTK0 HSM1;cases dn with
 |false =>
  obtain rfl:r=0:=HR2.out.symm;go_enter Tryz.func10,Tryz.ntmps10
  go_wp2_with (first
   |(refine wpList_load_mid rfl 31 _ rfl w.heap.size 0 rfl c1 _ HRW.out Tryz.underlying31 rfl HIW.out ?_)
   |(go_at_call 26;refine HWF.out.mono ?_;rintro e w3 ⟨rfl,b3⟩;have K3:=hid (HK.out.below b3 HK.out.lt);have B3:=hid (HB.out.trans (b3.mono HB.out.size));have z3:=K3.out.lt;have HRS3:=hid (HSHP.out w3 K3.out);have HRD3:=hid (show w3.rangeAt w.heap.size 15 c2 from by have:=Fd (Blk.rangeAll K3.out);rw[H15.out]at this;exact this);clear b3)
   |(refine wpList_load_mid rfl 25 _ rfl w.heap.size 0 rfl _ _ HRS3.out Tryz.underlying25 rfl (by kernel_rfl) ?_)
   |(refine wpList_load_mid rfl 36 _ rfl w.heap.size 15 rfl c2 _ HRD3.out Tryz.underlying36 rfl HID.out ?_)
   |(go_at_call 27;refine(HDF.out _ B3.out).mono ?_;rintro e w4 ⟨rfl,b4⟩;have K4:=hid (K3.out.below b4 K3.out.lt);have B4:=hid (B3.out.trans (b4.mono B3.out.size));have z4:=K4.out.lt;have x14:w4.cell? ⟨w.heap.size,14,none⟩=some (.bool false):=HC14.out w4 K4.out;clear b4))
  go_ret
  exact⟨rfl,B4.out⟩
 |true =>
  by_cases q2:0<n
  ·obtain rfl:r=1:=HR2.out.symm.trans (by rw[decide_eq_true q2];rfl);have q2i:(0:Int)<(n:Int):=by omega
   go_enter Tryz.func10,Tryz.ntmps10
   go_wp2_with (first
    |(refine wpList_load_mid rfl 31 _ rfl w.heap.size 0 rfl c1 _ HRW.out Tryz.underlying31 rfl HIW.out ?_)
    |(go_at_call 26;refine HWF.out.mono ?_;rintro e w3 ⟨rfl,b3⟩;have K3:=hid (HK.out.below b3 HK.out.lt);have B3:=hid (HB.out.trans (b3.mono HB.out.size));have z3:=K3.out.lt;have HRS3:=hid (HSHP.out w3 K3.out);have HRD3:=hid (show w3.rangeAt w.heap.size 15 c2 from by have:=Fd (Blk.rangeAll K3.out);rw[H15.out]at this;exact this);clear b3)
    |(refine wpList_load_mid rfl 25 _ rfl w.heap.size 0 rfl _ _ HRS3.out Tryz.underlying25 rfl (by kernel_rfl) ?_)
    |(refine wpList_load_mid rfl 36 _ rfl w.heap.size 15 rfl c2 _ HRD3.out Tryz.underlying36 rfl HID.out ?_)
    |(go_at_call 27;refine(HDF.out _ B3.out).mono ?_;rintro e w4 ⟨rfl,b4⟩;have K4:=hid (K3.out.below b4 K3.out.lt);have B4:=hid (B3.out.trans (b4.mono B3.out.size));have z4:=K4.out.lt;have x14:w4.cell? ⟨w.heap.size,14,none⟩=some (.bool true):=HC14.out w4 K4.out;clear b4)
    |(go_at_call 28;refine(HTKS.out w4 K4.out B4.out).mono ?_;rintro e w5 ⟨A5,c5,g5,rfl,-,-,b5⟩;have B5:=hid (B4.out.trans (b5.mono B4.out.size));clear  b5))
   go_ret
   exact⟨rfl,B5.out⟩
  ·obtain rfl:r=0:=HR2.out.symm.trans (by rw[decide_eq_false q2];rfl);obtain rfl:n=0:=by omega
   clear q2;go_enter Tryz.func10,Tryz.ntmps10
   go_wp2_with (first
    |(refine wpList_load_mid rfl 31 _ rfl w.heap.size 0 rfl c1 _ HRW.out Tryz.underlying31 rfl HIW.out ?_)
    |(go_at_call 26;refine HWF.out.mono ?_;rintro e w3 ⟨rfl,b3⟩;have K3:=hid (HK.out.below b3 HK.out.lt);have B3:=hid (HB.out.trans (b3.mono HB.out.size));have z3:=K3.out.lt;have HRS3:=hid (HSHP.out w3 K3.out);have HRD3:=hid (show w3.rangeAt w.heap.size 15 c2 from by have:=Fd (Blk.rangeAll K3.out);rw[H15.out]at this;exact this);clear b3)
    |(refine wpList_load_mid rfl 25 _ rfl w.heap.size 0 rfl _ _ HRS3.out Tryz.underlying25 rfl (by kernel_rfl) ?_)
    |(refine wpList_load_mid rfl 36 _ rfl w.heap.size 15 rfl c2 _ HRD3.out Tryz.underlying36 rfl HID.out ?_)
    |(go_at_call 27;refine(HDF.out _ B3.out).mono ?_;rintro e w4 ⟨rfl,b4⟩;have K4:=hid (K3.out.below b4 K3.out.lt);have B4:=hid (B3.out.trans (b4.mono B3.out.size));have z4:=K4.out.lt;have x14:w4.cell? ⟨w.heap.size,14,none⟩=some (.bool true):=HC14.out w4 K4.out;clear b4)
    |(go_at_call 28;refine(HTKS.out w4 K4.out B4.out).mono ?_;rintro e w5 ⟨A5,c5,g5,rfl,-,-,b5⟩;have B5:=hid (B4.out.trans (b5.mono B4.out.size));clear  b5))
   go_ret
   exact⟨rfl,B5.out⟩
abbrev BP:Array Value:=#[int i64 0,int i64 0,int i64 0,int i64 0,int i64 0,int i64 0,int i64 0,int i64 0,int i64 0,.slice none 0 0,.slice none 0 0,.slice none 0 0,int i64 0,int i64 0,.bool false,.slice none 0 0,.slice none 0 0,.slice none 0 0,int i64 0,int i64 0]
theorem aOnes {d:Au} {k:AH} {A0 A1 A2 B0 B1 B2:Option Addr} {n0 n1 n2 c0 c1 c2 m0 m1 m2 e0 e1 e2:Nat}:(Bk d (.slice A0 n0 c0) (.slice A1 n1 c1) (.slice A2 n2 c2) ++ BH k (.slice B0 m0 e0) (.slice B1 m1 e1) (.slice B2 m2 e2)).toArray.all Value.oneCell'=true:=by simp[Bk,BH,Value.oneCell']
def ArcZ(w:World)(f:List Addr)(cs:List Value)(d:Ao):Prop:=∃v0 v1 v2 u0 A f0 f1 f2 f3,cs=Bk d.world v0 v1 v2 ++ BH d.desk u0 (.slice A 0 0) (.slice none 0 0)∧f=f0 ++(f1 ++(f2 ++ f3))∧rSl 1 (Am 2 Av) w f0 v0 d.world.g∧rSl 1 As w f1 v1 d.world.on∧rSl 2 Bu w f2 v2 d.world.v∧rSl 1 BX w f3 u0 d.desk.queues
theorem D7(d:Ao)(G:Nat)(hE:Cv d.desk G)(hs:D3 d.world)(cs:List Value)(f:List Addr)(w:World)(h:Af w f cs d) :
  Calls Tryz.prog 23 #[.agg cs.toArray] w fun e w' =>∃cs' f',e= .returned (.agg cs'.toArray)∧Af w' f' cs' d∧ArcZ w' f' cs' d∧Ak w.heap.size w' f'∧Below w.heap.size w w':=by
 obtain⟨c1,c2,g1,g2,rfl,-,hw,hd⟩:=h.parts;clear h;have hl15:=AD.wide _ _ _ _ hw;have hl5:=Ba.wide _ _ _ _ hd;obtain⟨W2,hW2⟩:∃W2,(w.alloc (.cells (c1 ++ c2).toArray 38)).alloc (.cells BP 38)=W2:=⟨_,rfl⟩;have KA:=hid (show Blk W2 w.heap.size 38 (c1 ++ c2).toArray by rw[← hW2];exact(Blk.new w _ _).alloc _);have KB:=hid (show Blk W2 (w.heap.size+1) 38 BP by rw[← hW2];exact Blk.new1 w _ _ _);have b2:Below w.heap.size w W2:=by rw[← hW2];exact Aa (Aa (Below.refl _ _) _) _
 have HIW:=hid (show(Tryz.prog.info? 31).map (·.size)=some c1.length by rw[hl15];kernel_rfl);have HID:=hid (show(Tryz.prog.info? 36).map (·.size)=some c2.length by rw[hl5];kernel_rfl);have HSS:=hid (show∀W:World,Below W2.heap.size W2 W→(W.rangeAt w.heap.size 0 c1∧W.rangeAt w.heap.size 15 c2∧W.there (w.heap.size+1) 0 20)from fun W hW => by
  have k:=KA.out.below hW KA.out.lt;refine⟨G2 (Blk.rangeAll k),?_,Blk.there (KB.out.below hW KB.out.lt) 20 (by simp)⟩;have:=Fd (Blk.rangeAll k);rwa [hl15]at this)
 have HCW:=hid (fun(W:World) (hW:Below W2.heap.size W2 W) => IT d.world c1 g1 W (Aw.below AD.local_ AD.fixed (Aw.below AD.local_ AD.fixed hw b2) hW) hs);have HCD:=hid (fun(W:World) (hW:Below W2.heap.size W2 W) => JD d.desk G hE c2 g2 W (Aw.below Ba.local_ Ba.fixed (Aw.below Ba.local_ Ba.fixed hd b2) hW));have HB2:=hid b2;have HSZ:=hid (show W2.heap.size=w.heap.size+2 by rw[← hW2];simp);clear hw hd hl15 hl5 b2 hE hs;go_enter Tryz.func23,Tryz.ntmps23
 go_wp2_with fail
 try rw[hW2]
 clear hW2;refine wp_region_noPanic ?_;refine wp_region_held_drew (S:=fun w' => w'.rangeAt w.heap.size 0 c1∧w'.rangeAt w.heap.size 15 c2∧w'.there (w.heap.size+1) 0 20) (by kernel_rfl) (HSS.out _ (Ai (Below.refl _ _))) (fun hHeld => ?_);refine wpAnyH_take (i:=0) (oi:=_) (v:=.pointer (some ⟨w.heap.size,0,none⟩)) rfl (by kernel_rfl) (by kernel_rfl) (by kernel_rfl) (fun _ _ _ h => h) (Or.inl ⟨by rfl,by intro w' hSw;clear hSw hHeld;go_simp⟩) (by assumption) ?_;refine wpAnyH_take (i:=1) (oi:=_) (v:=_) rfl (by kernel_rfl) (by kernel_rfl) (by kernel_rfl) (fun _ _ _ h => h) (yieldsIf_load_mid (by rfl) 31 (.tmp 3) rfl w.heap.size 0 rfl c1 _ (fun _ h => h.1) Tryz.underlying31 rfl HIW.out) (by assumption) ?_;refine wpAnyH_take (i:=3) (oi:=_) (v:=.pointer (some ⟨w.heap.size,15,none⟩)) rfl (by kernel_rfl) (by kernel_rfl) (by kernel_rfl) (fun _ _ _ h => h) (Or.inl ⟨by rfl,by intro w' hSw;clear hSw hHeld;go_simp⟩) (by assumption) ?_;refine wpAnyH_take (i:=4) (oi:=_) (v:=_) rfl (by kernel_rfl) (by kernel_rfl) (by kernel_rfl) (fun _ _ _ h => h) (yieldsIf_load_mid (by rfl) 36 (.tmp 6) rfl w.heap.size 15 rfl c2 _ (fun _ h => h.2.1) Tryz.underlying36 rfl HID.out) (by assumption) ?_;refine wpAnyH_ready (rs:=[2]) (by kernel_rfl) (by simp) ?_;refine AllReadyH.cons rfl (fun K hK => ?_) AllReadyH.nil;clear hHeld;go_simp
 go_at_call 43
 refine(HCW.out _ (Ai (Below.refl _ _))).mono ?_;rintro e w3 ⟨cs3,f3,rfl,r3,z3,m3,b3⟩;dsimp only;have hb3:=Cj b3;have hS3:=HSS.out w3 hb3;refine hK.out _ _ hS3 (fun _ => ?_);clear hK;refine wpAnyH_ready (rs:=[5]) (by kernel_rfl) (by simp) ?_;refine AllReadyH.cons rfl (fun K hK => ?_) AllReadyH.nil;go_simp
 go_at_call 44
 refine(HCD.out _ hb3).mono ?_;rintro e w4 ⟨B0,e0,B1,e1,f4,rfl,r4,z4,rfl,m4,b4⟩;dsimp only;have hb4:Below W2.heap.size W2 w4:=hb3.trans (b4.mono hb3.size);have hS4:=HSS.out w4 hb4;refine hK.out _ _ hS4 (fun _ => ?_);clear hK;obtain⟨v0,v1,v2,q0,q1,q2,rfl,rfl,s0,s1,s2⟩:=z3;obtain⟨A0,k0,rfl,-⟩:=rSl.head s0;obtain⟨A1,k1,rfl,-⟩:=rSl.head s1;obtain⟨A2,k2,rfl,-⟩:=rSl.head s2;have HZS:=hid (And.intro s0 (And.intro s1 (And.intro s2 z4)));clear s0 s1 s2 z4;refine wpAnyH_take (i:=6) (oi:=_) (v:=.agg (Bk d.world (.slice A0 d.world.g.length k0) (.slice A1 d.world.on.length k1) (.slice A2 d.world.v.length k2) ++ BH d.desk (.slice B0 G e0) (.slice B1 0 0) (.slice none 0 0)).toArray) rfl (by kernel_rfl) (by kernel_rfl) (by kernel_rfl) (fun _ _ _ h => h) (Or.inl ⟨by rfl,by intro w' hSw;clear hSw;kernel_rfl⟩) (by assumption) ?_;refine wpAnyH_ready (rs:=[7]) (by kernel_rfl) (by simp) ?_;refine AllReadyH.cons rfl (fun K hK => ?_) AllReadyH.nil;rw[if_pos (by rfl)];refine wp_store_mid 38 (.tmp 2) (.tmp 9) rfl (w.heap.size+1) 0 (Bk d.world (.slice A0 d.world.g.length k0) (.slice A1 d.world.on.length k1) (.slice A2 d.world.v.length k2) ++ BH d.desk (.slice B0 G e0) (.slice B1 0 0) (.slice none 0 0)).toArray rfl rfl hS4.2.2 (by kernel_rfl) aOnes ?_;refine hK.out _ _ ⟨World.rangeAt_setCells_apart hS4.1 _ _ _ (Or.inl (by omega)),World.rangeAt_setCells_apart hS4.2.1 _ _ _ (Or.inl (by omega)),World.there_setCells hS4.2.2 _ _ _⟩ (fun _ => ?_);clear hK hS3 hS4 HSS;refine wpAnyH_done (by kernel_rfl) ?_ _;refine NoPanic.normal ?_;have t3:=AD.fixed _ _ _ _ r3;have R3:=Aw.below AD.local_ AD.fixed r3 b4;have M3:=m3.below b4 t3;have HM:=hid (show Ak W2.heap.size w4 ((q0 ++(q1 ++ q2)) ++ f4)from Ak.cat (mid:=w3.heap.size) (M3.mono (Nat.le_refl _)) m4 t3 hb3.size);have HR:=hid (Af.of (d:=d) R3 r4);have hz:=HSZ.out;have HB34:=hid b4;have K7:=hid ((KB.out.below hb4 KB.out.lt).laid (Bk d.world (.slice A0 d.world.g.length k0) (.slice A1 d.world.on.length k1) (.slice A2 d.world.v.length k2) ++ BH d.desk (.slice B0 G e0) (.slice B1 0 0) (.slice none 0 0)) rfl);have HB4:=hid (HB2.out.trans (hb4.mono HB2.out.size));clear r3 m3 b3 r4 m4 b4 hb3 hb4 R3 M3 t3;go_wp2_with fail
 refine bodyPost_ret (Bb (g:=w.heap.size+1) rfl _ _ _ _ _ rfl K7.out Tryz.underlying38 rfl (by kernel_rfl)) rfl ?_;have hr:Af (w4.setCells (w.heap.size+1) 0 (Bk d.world (.slice A0 d.world.g.length k0) (.slice A1 d.world.on.length k1) (.slice A2 d.world.v.length k2) ++ BH d.desk (.slice B0 G e0) (.slice B1 0 0) (.slice none 0 0))) ((q0 ++(q1 ++ q2)) ++ f4) (Bk d.world (.slice A0 d.world.g.length k0) (.slice A1 d.world.on.length k1) (.slice A2 d.world.v.length k2) ++ BH d.desk (.slice B0 G e0) (.slice B1 0 0) (.slice none 0 0)) d:=Af.local_ _ _ _ _ _ HR.out (CE _ _ 0 _ fun a ha e => by have:=HM.out.from_ a ha;omega);have hz:ArcZ (w4.setCells (w.heap.size+1) 0 (Bk d.world (.slice A0 d.world.g.length k0) (.slice A1 d.world.on.length k1) (.slice A2 d.world.v.length k2) ++ BH d.desk (.slice B0 G e0) (.slice B1 0 0) (.slice none 0 0))) ((q0 ++(q1 ++ q2)) ++ f4) (Bk d.world (.slice A0 d.world.g.length k0) (.slice A1 d.world.on.length k1) (.slice A2 d.world.v.length k2) ++ BH d.desk (.slice B0 G e0) (.slice B1 0 0) (.slice none 0 0)) d:=by
  obtain⟨s0,s1,s2,s3⟩:=HZS.out;have b4:=HB34.out;have hsm:=CE (Bk d.world (.slice A0 d.world.g.length k0) (.slice A1 d.world.on.length k1) (.slice A2 d.world.v.length k2) ++ BH d.desk (.slice B0 G e0) (.slice B1 0 0) (.slice none 0 0)) (w.heap.size+1) 0 w4 (fs:=(q0 ++(q1 ++ q2)) ++ f4) (fun a ha e => by have:=HM.out.from_ a ha;omega);exact⟨_,_,_,_,_,q0,q1,q2,f4,rfl,by simp only[List.append_assoc],rSl.keep (Am.local_ Av.local_) (rSl.below (Am.local_ Av.local_) (Am.fixed Av.fixed) s0 b4) hsm.left.left,rSl.keep As.local_ (rSl.below As.local_ As.fixed s1 b4) hsm.left.right.left,rSl.keep Bu.local_ (rSl.below Bu.local_ Bu.fixed s2 b4) hsm.left.right.right,rSl.keep BX.local_ s3 hsm.right⟩
 have hm:=(Ak.setS (Bk d.world (.slice A0 d.world.g.length k0) (.slice A1 d.world.on.length k1) (.slice A2 d.world.v.length k2) ++ BH d.desk (.slice B0 G e0) (.slice B1 0 0) (.slice none 0 0)) (w.heap.size+1) 0 w4 HM.out).mono (show w.heap.size≤W2.heap.size by omega);have hb:=Below.setCells_ (Bk d.world (.slice A0 d.world.g.length k0) (.slice A1 d.world.on.length k1) (.slice A2 d.world.v.length k2) ++ BH d.desk (.slice B0 G e0) (.slice B1 0 0) (.slice none 0 0)) (w.heap.size+1) 0 w4 (show w.heap.size≤w.heap.size+1 by omega) HB4.out;first|exact⟨_,_,rfl,hr,hz,hm,hb⟩|exact⟨_,rfl,_,hr,hz,hm,hb⟩
theorem Hh(d:Ao)(G:Nat)(hE:Cv d.desk G)(hs:D3 d.world)(cs:List Value)(f:List Addr)(w:World)(h:Af w f cs d) :
  Calls Tryz.prog 23 #[.agg cs.toArray] w fun e w' =>∃cs' f',e= .returned (.agg cs'.toArray)∧Af w' f' cs' d∧Ak w.heap.size w' f'∧Below w.heap.size w w':=by
 refine(D7 d G hE hs cs f w h).mono ?_;intro e w' hh;first
 |(obtain⟨cs',f',e1,r,-,m,b⟩:=hh;first|exact⟨cs',f',e1,r,m,b⟩|exact⟨cs',e1,f',r,m,b⟩)
 |(obtain⟨cs',e1,f',r,-,m,b⟩:=hh;first|exact⟨cs',f',e1,r,m,b⟩|exact⟨cs',e1,f',r,m,b⟩)
theorem Jl {P:Program} {w:World}(t ty e:TypeId)(i:TypeInfo)(z:Value)(ht:P.underlying t=some (.slice e))(hi:P.info? e=some i)(hz:i.zero=some z)(A:Option Addr)
  (a:Addr) (n c:Nat) (news:List Value) (hl:news.length=n * i.size) (hnews:∀j v,news[j]? =some v→w.cell? (a.add j)=some v)
  (h0:0<n) (h63:(n:Int)≤9223372036854775807) (h48:n * i.bytes≤281474976710656) :
  (Builtin.append_ #[t,t] ty #[.slice A 0 0,.slice (some a) n c]).run P w=(Builtin.append_ #[t,t] ty #[.slice none 0 0,.slice (some a) n c]).run P w:=by
 cases A with
 |none => rfl
 |some b =>
  rw[run_append_nil w t ty e i z ht hi hz a n c news hl hnews h0 h63 h48,run_append_grow w t ty e i z ht hi hz b 0 0 [] (by simp) (by simp) a n c news hl hnews (by omega) (by simpa using h63) (by rw[Nat.zero_add,nextslicecap_zero h0];exact h48)];simp
theorem CH {α:Type} {k:Nat} {E:TypeId} {R:Aw α} {P:Program}(t ty:TypeId)(z:Value)(bytes:Nat)(ht:P.underlying t=some (.slice E))(hi:(P.info? E).map (fun i =>(i.zero,i.size,i.bytes))=some (some z,k,bytes))(hzs:z.cells.size=k)(hk:0<k)
  (hR:AZ R) (hF:Bh R) (hO:∀w f cs d,R w f cs d→∀u,u∈cs→u.oneCell'=true) (hb:bytes≤1000) {wr w2 W:World} {A:Option Addr}
  {us:List Value} {f:List Addr} {d:α} {b:Nat} (B2:Below wr.heap.size wr w2) (hr:R w2 f us d) (hf:Ak wr.heap.size w2 f) (hus:us.length=k) (B5:Below w2.heap.size w2 W) (hblk:Blk W b E us.toArray) :
  ∃v' w',(Builtin.append_ #[t,t] ty #[.slice A 0 0,.slice (some ⟨b,0,none⟩) 1 1]).run P W= .ok v' w'∧∃A' c h,v'= .slice A' 1 c∧Aj k E R w' wr.heap.size v' [d] h∧Ak wr.heap.size w' h∧Below wr.heap.size wr w'∧wr.heap.size≤w'.heap.size:=by
 obtain⟨v',w',q1,A',c,h,e,o,m,bb,s⟩:=Cm (P:=P) (R:=R) t ty z bytes ht hi hzs hk hR hF hO hb (wr:=wr) (base:=wr.heap.size) (v:=.slice none 0 0) (ds:=[]) (fs:=[]) (Aj.start ⟨by simp,.inl ⟨rfl,rfl⟩⟩) (Ak.nil _ _) (Nat.le_refl _) (by simp) B2 hr hf hus B5 hblk;obtain⟨i,hi0,hz0,hz1,hz2⟩:=info_parts hi;refine⟨v',w',?_,A',c,h,e,o,m,bb,s⟩;rw[Jl t ty E i z ht hi0 hz0 A ⟨b,0,none⟩ 1 1 us (by rw[hus,hz1];omega) (fun j v hj => by
  rw[BG,hblk.cell,List.getElem?_toArray];exact hj) (by omega) (by omega) (by rw[hz2];omega)]
 exact q1
def Ft(groups:Int)(all:List Ag)(group:Int)(x:Ag):Bool:=decide (x.kind=2) && ((decide (groups≤group)||decide (x.group=group)) && !GR all x.seq group)
theorem Mh(ks:Nat)(hks:ks=9)(zS:∀w,(Go.sizeOf 25).run Tryz.prog w= .ok ks w)(aS:∀w,(isAgg 25).run Tryz.prog w= .ok true w)(x:Ag)(cs:List Value)(f:List Addr)(p b1 b2 b3 n c:Nat)(A:Option Addr)(fs fa:List Addr)(d:Au)(all:List Ag)(group:Int)(w:World)
  (hx:Ac w f cs x) (hw:AtW w p fs d) (hok:d.s.sh.Ok) (hg0:0≤group) (h1:w.cell? ⟨b1,0,none⟩=some (.pointer (some ⟨p,0,none⟩))) (h2:w.cell? ⟨b2,0,none⟩=some (int i64 group)) (h3:w.cell? ⟨b3,0,none⟩=some (.slice A n c)) (ha:rSl 9 Ac w fa (.slice A n c) all) :
  Calls Tryz.prog 144 #[.agg cs.toArray,.pointer (some ⟨b1,0,none⟩),.pointer (some ⟨b2,0,none⟩),.pointer (some ⟨b3,0,none⟩)] w fun e w' => e= .returned (.bool (!Ft d.s.g all group x))∧Below w.heap.size w w':=by
 obtain⟨A0,A1,A2,c0,c1,c2,f0,f1,f2,HCs⟩:=hw.cells;obtain⟨x0,x1,x2,x3,x4,x5,x6,x7,x8⟩:=x;dsimp only[Ac]at hx;obtain⟨v0,v1,v2,g0,g1,g2,e,-⟩:=hx;subst e;obtain⟨WA,hWA⟩:∃WA,w.alloc (.cells #[int i64 x0,int i64 x1,.string x2,int i64 x3,int i64 x4,int i64 x5,v0,v1,v2] 76)=WA:=⟨_,rfl⟩;have hB:Below w.heap.size w WA:=by rw[← hWA];exact(Below.refl _ _).alloc (Nat.le_refl _) _
 have K:Blk WA w.heap.size 76 #[int i64 x0,int i64 x1,.string x2,int i64 x3,int i64 x4,int i64 x5,v0,v1,v2]:=by rw[← hWA];exact Blk.new w _ _
 have q0:=cell_regrown (w:=WA) (a:=⟨w.heap.size,0,none⟩) ((K.cell 0).trans rfl);have q1:=cell_regrown (w:=WA) (a:=⟨w.heap.size,1,none⟩) ((K.cell 1).trans rfl);have q4:=cell_regrown (w:=WA) (a:=⟨w.heap.size,4,none⟩) ((K.cell 4).trans rfl);have r1:=cell_regrown (w:=WA) ((hB.cell (p:=⟨b1,0,none⟩) (World.block_lt_of_cell? _ _ h1)).trans h1);have r2:=cell_regrown (w:=WA) ((hB.cell (p:=⟨b2,0,none⟩) (World.block_lt_of_cell? _ _ h2)).trans h2);have r3:=cell_regrown (w:=WA) ((hB.cell (p:=⟨b3,0,none⟩) (World.block_lt_of_cell? _ _ h3)).trans h3);have hW2:=hw.below hB;obtain⟨css,hrw,hcc,hpl⟩:=hW2;have lS:∀dd os,Sem.run Tryz.prog (loadCellsFrom ⟨p,0,none⟩ 0 ks #[]) (grow (redrawn WA dd) os)= .ok #[int i64 d.s.g,int i64 d.s.c,int i64 d.s.data,int i64 d.s.p,int i64 d.s.rows,int i64 d.s.cap,int i64 d.s.b,int i64 d.s.q,int i64 d.s.t] (grow (redrawn WA dd) os):=fun dd os =>
  run_loadCellsFrom_list _ _ _ [int i64 d.s.g,int i64 d.s.c,int i64 d.s.data,int i64 d.s.p,int i64 d.s.rows,int i64 d.s.cap,int i64 d.s.b,int i64 d.s.q,int i64 d.s.t] ks (by rw[hks];rfl) (fun q v hq => by
   rw[Addr.add_lit];refine cell_regrown (w:=WA) ?_ dd os;have hB2:=fun q => hB.cell (p:=⟨p,q,none⟩) HCs.lt
   match q,hq with
   |0,hq => simp at hq;subst hq;exact(hB2 0).trans HCs.n0
   |1,hq => simp at hq;subst hq;exact(hB2 1).trans HCs.n1
   |2,hq => simp at hq;subst hq;exact(hB2 2).trans HCs.n2
   |3,hq => simp at hq;subst hq;exact(hB2 3).trans HCs.n3
   |4,hq => simp at hq;subst hq;exact(hB2 4).trans HCs.n4
   |5,hq => simp at hq;subst hq;exact(hB2 5).trans HCs.n5
   |6,hq => simp at hq;subst hq;exact(hB2 6).trans HCs.n6
   |7,hq => simp at hq;subst hq;exact(hB2 7).trans HCs.n7
   |8,hq => simp at hq;subst hq;exact(hB2 8).trans HCs.n8
   |q+9,hq => simp at hq)
 have hcD:∀dd os,Calls Tryz.prog 51 #[.agg #[int i64 d.s.g,int i64 d.s.c,int i64 d.s.data,int i64 d.s.p,int i64 d.s.rows,int i64 d.s.cap,int i64 d.s.b,int i64 d.s.q,int i64 d.s.t],int i64 group] (grow (redrawn WA dd) os) fun e w'' => e= .returned (.bool (Al group 0 (d.s.g - 1)))∧∃p:Regrown,w''=grow (redrawn WA p.d) p.os :=
  fun dd os => Calls.regrown_of (Fs d.s.sh hok group _)
 have hcE:∀dd os,Calls Tryz.prog 145 #[.slice A n c,int i64 x1,int i64 group] (grow (redrawn WA dd) os) fun e w'' => e= .returned (.bool (GR all x1 group))∧∃p:Regrown,w''=grow (redrawn WA p.d) p.os :=
  fun dd os => Calls.regrown_of (isDone_c _ all fa x1 group _ (rSl.below Ac.local_ Ac.fixed (rSl.below Ac.local_ Ac.fixed ha hB) (below_regrown WA dd os)))
 obtain⟨rb,hrb⟩:∃rb,(!Ft d.s.g all group ⟨x0,x1,x2,x3,x4,x5,x6,x7,x8⟩)=rb:=⟨_,rfl⟩;rw[hrb];unfold Ft at hrb;simp only at hrb;obtain⟨bd,hbd⟩:∃bd,GR all x1 group=bd:=⟨_,rfl⟩;rw[hbd]at hrb hcE;have hks0:¬ks=0:=by omega
 have hks1:0<ks:=by omega
 have HB:=hid hB;have HE:=hid hcE;have HD:=hid hcD;have HRB:=hid hrb;have hnp:p<w.heap.size:=HCs.lt;clear hbd hrw hcc hpl HCs hw ha h1 h2 h3 hB K hcD hcE hrb hks;by_cases qk:x0=2
 ·by_cases qg:group<d.s.g
  ·have hin:Al group 0 (d.s.g - 1)=true:=FV hg0 (by omega);rw[hin]at HD;by_cases qe:x4=group
   ·have e1:rb=bd:=by rw[← HRB.out];simp[qk,qe]
    subst e1;have hk:(x0 != 2)=false:=by simpa using qk
    have he:(x4 != group)=false:=by simpa using qe
    clear qk qg qe hin HRB;go_enter Tryz.func144,Tryz.ntmps144
    go_wp2_with fail
    refine wp_region_quiet_below (by kernel_rfl) (by kernel_rfl) ?_;repeat(first|go_big_quiet_step (first|exact HE.out _ _|exact HD.out _ _)|quiet_step (first|exact HE.out _ _|exact HD.out _ _))
    refine wpQuiet_nil ?_;intro _ hw';obtain⟨⟨dq,osq⟩,hw''⟩:=hw';subst hw'';go_wp2_with fail
    go_ret
    exact⟨rfl,HB.out.trans ((below_regrown WA dq osq).mono HB.out.size)⟩
   ·have hnle:¬d.s.g≤group:=by omega
    have e1:rb=true:=by rw[← HRB.out];simp[qk,qe,hnle]
    subst e1;have hk:(x0 != 2)=false:=by simpa using qk
    have he:(x4 != group)=true:=by simpa using qe
    clear qk qg qe hin HRB hnle;go_enter Tryz.func144,Tryz.ntmps144
    go_wp2_with fail
    refine wp_region_quiet_below (by kernel_rfl) (by kernel_rfl) ?_;repeat(first|go_big_quiet_step (first|exact HE.out _ _|exact HD.out _ _)|quiet_step (first|exact HE.out _ _|exact HD.out _ _))
    refine wpQuiet_nil ?_;intro _ hw';obtain⟨⟨dq,osq⟩,hw''⟩:=hw';subst hw'';go_wp2_with fail
    go_ret
    exact⟨rfl,HB.out.trans ((below_regrown WA dq osq).mono HB.out.size)⟩
  ·have hin:Al group 0 (d.s.g - 1)=false:=F5 (by omega);rw[hin]at HD;have hle:d.s.g≤group:=by omega
   have e1:rb=bd:=by rw[← HRB.out];simp[qk,hle]
   subst e1;have hk:(x0 != 2)=false:=by simpa using qk
   clear qk qg hin HRB hle;go_enter Tryz.func144,Tryz.ntmps144
   go_wp2_with fail
   refine wp_region_quiet_below (by kernel_rfl) (by kernel_rfl) ?_;repeat(first|go_big_quiet_step (first|exact HE.out _ _|exact HD.out _ _)|quiet_step (first|exact HE.out _ _|exact HD.out _ _))
   refine wpQuiet_nil ?_;intro _ hw';obtain⟨⟨dq,osq⟩,hw''⟩:=hw';subst hw'';go_wp2_with fail
   go_ret
   exact⟨rfl,HB.out.trans ((below_regrown WA dq osq).mono HB.out.size)⟩
 ·have e1:rb=true:=by rw[← HRB.out];simp[qk]
  subst e1;have hk:(x0 != 2)=true:=by simpa using qk
  clear qk HRB;go_enter Tryz.func144,Tryz.ntmps144
  go_wp2_with fail
  refine wp_region_quiet_below (by kernel_rfl) (by kernel_rfl) ?_;repeat(first|go_big_quiet_step (first|exact HE.out _ _|exact HD.out _ _)|quiet_step (first|exact HE.out _ _|exact HD.out _ _))
  refine wpQuiet_nil ?_;intro _ hw';obtain⟨⟨dq,osq⟩,hw''⟩:=hw';subst hw'';go_wp2_with fail
  go_ret
  exact⟨rfl,HB.out.trans ((below_regrown WA dq osq).mono HB.out.size)⟩
theorem JF(v:Value)(ds:List Ag)(f:List Addr)(w:World)(h:rSl 9 Ac w f v ds)(hn:ds.length≤1000000) :
  Calls Tryz.prog 143 #[v] w fun e w' =>∃v' fs,e= .returned v'∧Aj 9 76 Ac w' w.heap.size v' ds fs∧(∀a,a∈fs→a.block<w.heap.size)∧Below w.heap.size w w':=by
 have ht:=rSl.there Ac.fixed h;have HB:=hid (show Below w.heap.size w (w.alloc (.cells #[] 76))from(Below.refl _ _).alloc (Nat.le_refl _) _);have HA:=insRec3 (w4:=w) (W:=w.alloc (.cells #[] 76)) (v:=.slice (some ⟨w.heap.size,0,none⟩) 0 0) (D:=[]) (D2:=ds) (h1:=[]) (by simp;omega) h HB.out (Aj.start ⟨rfl,.inr ⟨w.heap.size,0,#[],rfl,Nat.le_refl _,Blk.new w _ _,Nat.le_refl _,by unfold maxLen;omega,rfl,rfl⟩⟩);have HAP:=hid HA;obtain⟨A,c,rfl,hc,hm⟩:=rSl.head h;have HT:=hid ht;have H:=hid h;clear HA ht h;have q22:∀(w:World) (a:Option Addr) (n c n' c':Nat),(binOp .eql 113 (.slice a n c) (.slice none n' c')).run Tryz.prog w= .ok (.bool a.isNone) w:=fun w a n c n' c' => Lib.run_eql_slice_nil w _ _ a n c n' c' Tryz.underlying113
 cases A with
 |none =>
  have hz:Hid (ds= []):=by
   show ds= []
   obtain⟨A',c',e,-,-,hs⟩:=H.out;rcases hs with⟨h,-⟩|⟨ad,css,fss,e2,-⟩
   ·exact h
   ·injection e with e1
    rw[e2]at e1;cases e1
  go_enter Tryz.func143,Tryz.ntmps143
  go_wp2_with fail
  go_ret
  refine⟨_,[],rfl,?_,(fun a ha => by cases ha),Below.refl _ _⟩;rw[hz.out];exact Aj.start ⟨rfl,.inl ⟨rfl,rfl⟩⟩
 |some ad =>
  go_enter Tryz.func143,Tryz.ntmps143
  go_wp2_with (at_builtin;refine AB rfl (.tmp 5) (.tmp 6) 113 rfl _ _ (by rfl) (by rfl) HAP.out ?_;rintro v6 w6 ⟨hs,o6,s6,r6,-⟩;have O6:=hid o6;have S6:=hid s6;have R6:=hid r6;clear o6 s6 r6)
  go_ret
  refine⟨_,[] ++ hs,rfl,by simpa using O6.out,(fun a ha => HT.out a (S6.out.subset (by simpa using ha))),?_⟩;exact HB.out.grown R6.out (by simp) (fun k hk => by simp[Value.ownBlock]at hk;omega)
structure Bp (w:World) (base g n:Nat) (got:Nat→Option Ag):Prop where
 there:w.there g 0 (n * 9)
 lo:base≤g
 lt:g<w.heap.size
 el:∀i,i<n→∀d,got i=some d→∃cs fk,Ac w fk cs d∧w.rangeAt g (i * 9) cs∧∀a,a∈fk→a.block<base
theorem Bp.below {w w':World} {base g n:Nat} {got:Nat→Option Ag}(h:Bp w base g n got)(hb:Below w.heap.size w w'):Bp w' base g n got :=
 ⟨fun j hj =>⟨by rw[hb.cell (p:=⟨g,0+j,none⟩) h.lt];exact(h.there j hj).1,by rw[hb.frozen (p:=⟨g,0+j,none⟩) h.lt];exact(h.there j hj).2⟩,h.lo,Nat.lt_of_lt_of_le h.lt hb.size,fun i hi d hd => by
  obtain⟨cs,fk,h1,h2,h3⟩:=h.el i hi d hd;exact⟨cs,fk,Aw.below Ac.local_ Ac.fixed h1 hb,fun q v hq =>(hb.cell (p:=⟨g,i * 9+q,none⟩) h.lt).trans (h2 q v hq),h3⟩⟩
theorem Bp.got_ {w:World} {base g n:Nat} {got got':Nat→Option Ag}(h:Bp w base g n got)(hg:∀i,i<n→∀d,got' i=some d→got i=some d):Bp w base g n got' :=
 ⟨h.there,h.lo,h.lt,fun i hi d hd => h.el i hi d (hg i hi d hd)⟩
theorem Ik {w:World} {g n:Nat}(h:w.there g 0 n)(b o:Nat)(vs:List Value):(w.setCells b o vs).there g 0 n:=fun j hj => by
 refine⟨?_,by rw[World.frozen?_setCells];exact(h j hj).2⟩;have:∀(vs:List Value) (o:Nat) (w:World),(w.cell? ⟨g,0+j,none⟩).isSome =true→((w.setCells b o vs).cell? ⟨g,0+j,none⟩).isSome =true:=by
  intro vs;induction vs with
  |nil => intro o w h;exact h
  |cons v r ih =>
   intro o w h;refine ih (o+1) _ ?_;by_cases e:(⟨b,o,none⟩:Addr)=⟨g,0+j,none⟩
   ·rw[e,World.cell?_setCell_same' _ _ _ (by simpa using h)];rfl
   ·rw[World.cell?_setCell_other _ _ _ _ e];exact h
 exact this vs o w (h j hj).1
theorem Bp.store {w:World} {base g n:Nat} {got:Nat→Option Ag}(h:Bp w base g n got) {i:Nat}(hi:i<n) {cs:List Value} {fk:List Addr} {d:Ag}(hr:Ac w fk cs d)(hf:∀a,a∈fk→a.block<base):Bp (w.setCells g (i * 9) cs) base g n (fun q => if q=i then some d else got q):=by
 have hlo:=h.lo;have hlen:=Ac.wide _ _ _ _ hr;have same:∀a:Addr,a.block<base→(w.setCells g (i * 9) cs).cell? a=w.cell? a:=fun a ha => World.cell?_setCells_out g cs (i * 9) w a (fun e => by omega)
 refine⟨Ik h.there _ _ _,hlo,by rw[size_setCells];exact h.lt,fun q hq e he => ?_⟩;by_cases hqi:q=i
 ·subst hqi;simp only[if_true]at he;injection he with he
  subst he;refine⟨cs,fk,Ac.local_ _ _ _ _ _ hr (fun a ha => same a (hf a ha)),World.rangeAt_setCells_same _ _ _ _ (fun j hj => ?_),hf⟩;have:=h.there (q * 9+j) (by omega);rw[Nat.zero_add]at this;exact this
 ·simp only[hqi,if_false]at he;obtain⟨cs2,fk2,h1,h2,h3⟩:=h.el q hq e he;have hl2:=Ac.wide _ _ _ _ h1;exact⟨cs2,fk2,Ac.local_ _ _ _ _ _ h1 (fun a ha => same a (h3 a ha)),World.rangeAt_setCells_apart h2 _ _ _ (by
   right
   rw[hlen,hl2];rcases Nat.lt_or_ge q i with hlt|hge
   ·left;omega
   ·right;omega),h3⟩
theorem Bp.cleared {w:World} {base g n:Nat} {got:Nat→Option Ag}(h:Bp w base g n got)(i:Nat)(vs:List Value):Bp (w.setCells g (i * 9) vs) base g n (fun q => if q<i then got q else none):=by
 have hlo:=h.lo;have same:∀a:Addr,a.block<base→(w.setCells g (i * 9) vs).cell? a=w.cell? a:=fun a ha => World.cell?_setCells_out g vs (i * 9) w a (fun e => by omega)
 refine⟨Ik h.there _ _ _,hlo,by rw[size_setCells];exact h.lt,fun q hq e he => ?_⟩;by_cases hqi:q<i
 ·simp only[hqi,if_true]at he;obtain⟨cs2,fk2,h1,h2,h3⟩:=h.el q hq e he;have hl2:=Ac.wide _ _ _ _ h1;exact⟨cs2,fk2,Ac.local_ _ _ _ _ _ h1 (fun a ha => same a (h3 a ha)),World.rangeAt_setCells_apart h2 _ _ _ (by right;left;rw[hl2];omega),h3⟩
 ·simp only[hqi,if_false]at he;cases he
theorem Bp.of_own {w:World} {base g n c:Nat} {E:TypeId} {ds:List Ag} {fs:List Addr}(h:Aj 9 E Ac w base (.slice (some ⟨g,0,none⟩) n c) ds fs)(hfs:∀a,a∈fs→a.block<base):Bp w base g n (fun i => ds[i]?)∧n=ds.length∧n≤c∧c≤9223372036854775807:=by
 obtain⟨A',c',e,hc,hm⟩:=h.length;injection e with e1 e2 e3
 subst e2 e3;obtain⟨css,fss,h1,h2,rfl,⟨hl,ht⟩,h5,h6⟩:=h;rcases ht with⟨e,_⟩|⟨g',cap,cur,e,q1,q2,q3,q4,q5,q6⟩
 ·cases e
 ·injection e with e1 e2 e3
  injection e1 with e1
  injection e1 with e1 _ _
  subst e1 e3;have hblk:Blk w g E cur:=q2;have hw:∀c,c∈css→c.length=9:=by
   intro c hc;obtain⟨i,hi,rfl⟩:=List.getElem_of_mem hc;obtain⟨_,_,p3,_⟩:=h5 i (by omega);exact p3
  refine⟨⟨hblk.there (ds.length * 9) (by rw[q5];exact Nat.mul_le_mul_right _ q3),q1,hblk.lt,fun i hi d hd => ?_⟩,rfl,hc,hm⟩;obtain⟨p1,p2,p3,p4⟩:=h5 i hi;rw[List.getElem?_eq_getElem hi]at hd;injection hd with hd
  subst hd;refine⟨css[i],fss[i],p4,fun q v hq => ?_,fun a ha => hfs a (List.mem_flatten.2 ⟨_,List.getElem_mem p2,ha⟩)⟩;have hq1:q<css[i].length:=(List.getElem?_eq_some_iff.1 hq).1;rw[hblk.cell];have e7:=CY css hw i q p1 (by omega);rw[← q6,List.getElem?_take,if_pos (by omega),Array.getElem?_toList]at e7;rw[e7,hq]
theorem Bp.reads {w:World} {base g n:Nat} {got:Nat→Option Ag}(h:Bp w base g n got) {L:List Ag} {c:Nat}(hL:L.length≤n)(hc:L.length≤c)(hc2:c≤9223372036854775807)(hg:∀i,(hi:i<L.length)→got i=some L[i]):∃fs,rSl 9 Ac w fs (.slice (some ⟨g,0,none⟩) L.length c) L:=by
 have hex:∀i:Fin L.length,∃q:List Value × List Addr,Ac w q.2 q.1 (L[i.1]'i.2)∧w.rangeAt g (i.1 * 9) q.1:=fun i => by
  obtain⟨cs,fk,h1,h2,-⟩:=h.el i.1 (by omega) _ (hg i.1 i.2);exact⟨(cs,fk),h1,h2⟩
 obtain⟨Q,hQ⟩:=Classical.axiomOfChoice hex;refine⟨_,some ⟨g,0,none⟩,c,rfl,hc,hc2,.inr ⟨⟨g,0,none⟩,List.ofFn fun i =>(Q i).1,List.ofFn fun i =>(Q i).2,rfl,by simp,by simp,rfl,fun i hi => ?_⟩⟩;obtain⟨h1,h2⟩:=hQ ⟨i,hi⟩;refine⟨by simpa using hi,by simpa using hi,by simpa using Ac.wide _ _ _ _ h1,fun j hj => ?_,by simpa using h1⟩;simp only[List.getElem_ofFn]at hj⊢;rw[BG];exact h2 j _ (List.getElem?_eq_getElem hj)
end Go.Proofs.YthbljikbnoghcaaGreat
