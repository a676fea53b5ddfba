/-
  Part 47 of the proof; the last part states and proves the statement.
-/
import Derived.Test.YthbljikbnoghcaaGreatM46
import Derived.Test.YthbljikbnoghcaaGreatM40
import Derived.Test.YthbljikbnoghcaaGreatM02
import Derived.Test.YthbljikbnoghcaaGreatM10
import Derived.Test.YthbljikbnoghcaaGreatM14
set_option maxHeartbeats 8000000
set_option maxRecDepth 100000
set_option linter.unusedVariables false
set_option linter.unusedSimpArgs false
open Go.Value (int)
open Go.IntKind (i64)
namespace Go.Proofs.YthbljikbnoghcaaGreat
open Go.RowKit Go.Lib Go.Sort
theorem ans_open {w:World} {h8:List Addr} {A8:Option Addr} {c8:Nat} {n tu:Int} {y:UInt8}(h:rSl 4 AA w h8 (.slice A8 1 c8) [⟨n,0,tu,[y]⟩]):∃b o A9 c9 g,A8=some ⟨b,o,none⟩∧w.rangeAt b o [int i64 n,int i64 0,int i64 tu,.slice A9 1 c9]∧Ap w g (.slice A9 1 c9) [y]∧b<w.heap.size:=by
 obtain⟨A,c,e,-,-,hx⟩:=rSl.at_ AA.fixed (by decide) h;injection e with ea _ ec
 subst ea ec;obtain⟨ad,b,o,cs,fk,rfl,hat⟩:=hx 0 (by simp);have pl:=hat.place;obtain⟨v0,g0,e1,e2,-,-,-,r⟩:=hat.reads;obtain⟨A9,c9,rfl,-⟩:=rSl.head r;have ead:ad=⟨b,o,none⟩:=by
  have:ad.add (0 * 4)=ad:=by simp[Addr.add]
  rw[← this];exact pl
 refine⟨b,o,A9,c9,g0,by rw[ead],fun q v hq => ?_,r,hat.lt⟩;have hq1:q<cs.length:=by
  rw[hat.len];have:=(List.getElem?_eq_some_iff.1 hq).1;simpa using this
 rw[hat.cell q hq1,← hq];subst e1;exact(List.getElem?_eq_getElem hq1).symm
theorem poll_one(p c8:Nat)(A8:Option Addr)(h8:List Addr)(n tu:Int)(y:UInt8)(w:World)(h17:w.cell? ⟨p,17,none⟩=some (.slice A8 1 c8))(lp:p<w.heap.size)(h:rSl 4 AA w h8 (.slice A8 1 c8) [⟨n,0,tu,[y]⟩]) :
  Calls Tryz.prog 35 #[.pointer (some ⟨p,15,none⟩),int i64 n] w fun e w' =>∃A' c' fy,e= .returned (.agg #[int i64 0,int i64 n,int i64 0,int i64 tu,.slice A' 1 c'])∧Ap w' fy (.slice A' 1 c') [y]∧(∀a,a∈fy→w.heap.size≤a.block)∧Below w.heap.size w w':=by
 obtain⟨b,o,A9,c9,g,rfl,hrg,hby,hlt⟩:=ans_open h;obtain⟨W1,hW1⟩:∃W1,w.alloc (.cells #[int i64 0,int i64 0,int i64 0,int i64 0,.slice none 0 0] 51)=W1:=⟨_,rfl⟩;have b1:Below w.heap.size w W1:=by rw[← hW1];exact Aa (Below.refl _ _) _
 have K1:=hid (show Blk W1 w.heap.size 51 #[int i64 0,int i64 0,int i64 0,int i64 0,.slice none 0 0] by rw[← hW1];exact Blk.new _ _ _);have HRG:=hid (show W1.rangeAt b o [int i64 n,int i64 0,int i64 tu,.slice A9 1 c9]from fun q v hq =>(b1.cell (p:=⟨b,o+q,none⟩) hlt).trans (hrg q v hq));have B1:=hid b1;have H17:=hid h17;have HBY:=hid (Ap.below hby b1);have x17:W1.cell? ⟨p,17,none⟩=some (.slice (some ⟨b,o,none⟩) 1 c8):=(b1.cell (p:=⟨p,17,none⟩) lp).trans h17;have xl:p<W1.heap.size:=Nat.lt_of_lt_of_le lp b1.size;have hnn:(n == n)=true:=by simp
 clear h hrg hby hlt b1;go_enter Tryz.func35,Tryz.ntmps35
 go_wp2_with fail
 try rw[hW1]
 go_loop [12,6] (fun i _ => i= int i64 0) (fun _ _ => 0)
 case atStart => exact rfl
 case round =>
  subst hrel;clear hW1 x17;obtain⟨W2,hW2⟩:∃W2,(W1.alloc (.cells #[int i64 0,int i64 0,int i64 0,.slice none 0 0] 49)).setCells W1.heap.size 0 (#[int i64 n,int i64 0,int i64 tu,.slice A9 1 c9]:Array Value).toList =W2:=⟨_,rfl⟩;have b2:Below W1.heap.size W1 W2:=by rw[← hW2];exact Below.setCells_ _ _ _ _ (Nat.le_refl _) (Aa (Below.refl _ _) _)
  have k2:Blk W2 W1.heap.size 49 #[int i64 n,int i64 0,int i64 tu,.slice A9 1 c9]:=by rw[← hW2];exact Blk.laid (Blk.new W1 _ _) _ rfl
  have HK2:=hid k2;have B2:=hid b2;have x0:W2.cell? ⟨W1.heap.size,0,none⟩=some (int i64 n):=(k2.cell 0).trans rfl;have x3:W2.cell? ⟨W1.heap.size,3,none⟩=some (.slice A9 1 c9):=(k2.cell 3).trans rfl;have x2l:=k2.lt;have HW2:=hid hW2;have HBY2:=hid (Ap.below HBY.out b2);clear hW2 b2 k2;go_wp2_with (first
   |(refine wpList_load_mid rfl 49 (.tmp 14) rfl b o rfl _ _ HRG.out Tryz.underlying49 rfl (by kernel_rfl) ?_)
   |(refine wpList_store_mid rfl 49 (.tmp 6) (.tmp 15) rfl W1.heap.size 0 #[int i64 n,int i64 0,int i64 tu,.slice A9 1 c9] rfl rfl (Blk.there (Blk.new W1 _ #[int i64 0,int i64 0,int i64 0,.slice none 0 0]) 4 (by simp)) (by kernel_rfl) (by simp[Value.oneCell']) ?_;rw[HW2.out])
   |(go_at_call 73;refine(Cc _ [y] g _ HBY2.out (by simp)).mono ?_;rintro e w3 ⟨v3,f3,rfl,r3,m3,b3⟩;have hd3:=rSl.head r3;obtain⟨A3,c3,rfl,-⟩:=hd3;have R3:=hid r3;have M3:=hid m3;have B3:=hid b3;have k3:=HK2.out.below b3 HK2.out.lt;have y3:w3.cell? ⟨W1.heap.size,3,none⟩=some (.slice A9 1 c9):=(k3.cell 3).trans rfl;have yf:=k3.frozen 3;have yl:=k3.lt;have HK4:=hid (k3.set_ 3 (.slice A3 1 c3));clear r3 m3 b3 k3)
   |(refine wpList_load_mid rfl 49 (.tmp 6) rfl W1.heap.size 0 rfl _ _ (Blk.range HK4.out 0 [int i64 n,int i64 0,int i64 tu,.slice A3 1 c3] rfl) Tryz.underlying49 rfl (by kernel_rfl) ?_)
   |(refine wpList_store_mid rfl 51 (.tmp 4) (.tmp 25) rfl w.heap.size 0 #[int i64 0,int i64 n,int i64 0,int i64 tu,.slice A3 1 c3] rfl rfl (Blk.there (((K1.out.below B2.out K1.out.lt).below B3.out (Nat.lt_of_lt_of_le K1.out.lt B2.out.size)).far (by have:=K1.out.lt;show w.heap.size≠W1.heap.size;omega) _) 5 (by simp)) (by kernel_rfl) (by simp[Value.oneCell']) ?_))
  have k5:=((K1.out.below B2.out K1.out.lt).below B3.out (Nat.lt_of_lt_of_le K1.out.lt B2.out.size)).far (p:=⟨W1.heap.size,3,none⟩) (by have:=K1.out.lt;show w.heap.size≠W1.heap.size;omega) (.slice A3 1 c3);have K6:=k5.laid [int i64 0,int i64 n,int i64 0,int i64 tu,.slice A3 1 c3] rfl;refine bodyPost_ret (results_cell_row rfl _ _ w.heap.size 51 #[int i64 0,int i64 n,int i64 0,int i64 tu,.slice A3 1 c3] (0,0) _ rfl K6 Tryz.underlying51 rfl (by kernel_rfl)) rfl ?_;have hs1:=K1.out.lt;have hs2:=B2.out.size;have hb13:Below w.heap.size w w3:=B1.out.trans ((B2.out.trans (B3.out.mono B2.out.size)).mono B1.out.size);refine⟨A3,c3,f3,rfl,?_,(fun a ha => by have:=M3.out.from_ a ha;omega),Below.setCells_ _ _ _ _ (Nat.le_refl _) (hb13.setCell (by show w.heap.size≤W1.heap.size;omega) _)⟩;have r4:Ap (w3.setCell ⟨W1.heap.size,3,none⟩ (.slice A3 1 c3)) f3 (.slice A3 1 c3) [y]:=rSl.keep AG.local_ R3.out (fun a ha => World.cell?_setCell_other _ _ _ _ (fun e => by have:=M3.out.from_ a ha;rw[← e]at this;have:W2.heap.size≤W1.heap.size:=this;have:=HK2.out.lt;omega));exact rSl.keep AG.local_ r4 (CE _ _ 0 _ fun a ha e => by have:=M3.out.from_ a ha;omega)
theorem Iq(d:Ao)(n tu:Int)(y:UInt8)(hcode:C6 (d.desk.next - 1) d=0)(han:d.desk.answers= [⟨n,0,tu,[y]⟩])(cs:List Value)(f:List Addr)(w:World)(h:Af w f cs d) :
  Calls Tryz.prog 13 #[.agg cs.toArray,int i64 n] w fun e w' =>∃A' c' fy,e= .returned (.agg #[int i64 0,int i64 n,int i64 0,int i64 tu,.slice A' 1 c'])∧Ap w' fy (.slice A' 1 c') [y]∧Below w.heap.size w w':=by
 have hl20:cs.length=20:=Af.wide _ _ _ _ h;obtain⟨c8,A8,h8,h17,r8⟩:∃c8 A8 h8,cs.toArray[17]? =some (.slice A8 1 c8)∧rSl 4 AA w h8 (.slice A8 1 c8) [⟨n,0,tu,[y]⟩]:=by
  obtain⟨c1,c2,g1,g2,rfl,-,hw,hk⟩:=h.parts;obtain⟨v0,v1,v2,q0,q1,q2,rfl,-,-,-⟩:=hw.parts;obtain⟨u0,u1,u2,f3,f4,f5,rfl,-,-,-,-,-,r5⟩:=hk;rw[han]at r5;obtain⟨A8,c8,rfl,-⟩:=rSl.head r5;exact⟨c8,A8,f5,rfl,r5⟩
 obtain⟨W2,hW2⟩:∃W2,(w.alloc (.cells cs.toArray 38)).alloc (.cells #[int i64 0,int i64 0,int i64 0,int i64 0,.slice none 0 0] 51)=W2:=⟨_,rfl⟩;have KA:=hid (show Blk W2 w.heap.size 38 cs.toArray by rw[← hW2];exact(Blk.new w _ _).alloc _);have KB:=hid (show Blk W2 (w.heap.size+1) 51 #[int i64 0,int i64 0,int i64 0,int i64 0,.slice none 0 0] by rw[← hW2];exact Blk.new1 w _ _ _);have b2:Below w.heap.size w W2:=by rw[← hW2];exact Aa (Aa (Below.refl _ _) _) _
 have HB2:=hid b2;have hAF:=De d cs f W2 (Aw.below Af.local_ Af.fixed h b2);rw[hcode]at hAF;have HAF:=hid hAF;have HRG:=hid (Blk.rangeAll KA.out);have hIA:=hid (show(Tryz.prog.info? 38).map (·.size)=some cs.length by rw[hl20];kernel_rfl);have HPO:=hid (fun(W:World) (hW:Below W2.heap.size W2 W) => poll_one w.heap.size c8 A8 h8 n tu y W (((KA.out.below hW KA.out.lt).cell 17).trans h17) (KA.out.below hW KA.out.lt).lt (rSl.below AA.local_ AA.fixed (rSl.below AA.local_ AA.fixed r8 b2) hW));clear h b2 hcode han h17 r8 hl20 hAF;go_enter Tryz.func13,Tryz.ntmps13
 go_wp2_with (first
  |((try rw[hW2]);refine wpList_load_mid rfl 38 (.tmp 2) rfl w.heap.size 0 rfl cs _ HRG.out Tryz.underlying38 rfl hIA.out ?_)
  |(go_at_call 10;refine HAF.out.mono ?_;rintro e w3 ⟨rfl,b3⟩;have B3:=hid b3;clear b3)
  |(go_at_call 35;refine(HPO.out _ B3.out).mono ?_;rintro e w4 ⟨A4,c4,f4,rfl,r4,m4,b4⟩;have R4:=hid r4;have M4:=hid m4;have B4:=hid (B3.out.trans (b4.mono B3.out.size));have KB4:=hid (KB.out.below (B3.out.trans (b4.mono B3.out.size)) KB.out.lt);have HTH:=hid (Blk.there (KB.out.below (B3.out.trans (b4.mono B3.out.size)) KB.out.lt) 5 (by simp));clear r4 m4 b4)
  |(refine wpList_store_mid rfl 51 (.tmp 4) (.tmp 14) rfl (w.heap.size+1) 0 #[int i64 0,int i64 n,int i64 0,int i64 tu,.slice A4 1 c4] rfl rfl HTH.out (by kernel_rfl) (by simp[Value.oneCell']) ?_))
 have K5:=KB4.out.laid [int i64 0,int i64 n,int i64 0,int i64 tu,.slice A4 1 c4] rfl;refine bodyPost_ret (results_cell_row rfl _ _ (w.heap.size+1) 51 #[int i64 0,int i64 n,int i64 0,int i64 tu,.slice A4 1 c4] (0,0) _ rfl K5 Tryz.underlying51 rfl (by kernel_rfl)) rfl ?_;have h3:=B3.out.size;have h2:=KB.out.lt;refine⟨A4,c4,f4,rfl,rSl.keep AG.local_ R4.out (CE _ _ 0 _ fun a ha e => by have:=M4.out a ha;omega),?_⟩;exact Below.setCells_ _ _ _ _ (by omega) (HB2.out.trans (B4.out.mono HB2.out.size))
theorem Bd.over {b:Nat} {code:List UInt8} {fs:List Addr} {t t':Nat} {w w' w'':World} {o:Obj}(h:Bd b code fs t w w')(k:Bd b code fs t' (w'.alloc o) w''):Bd b code fs t' w w'':=(h.more (Aa (Below.refl _ _) o)).trans k
theorem D9 {g:Nat}:∀(vs:List Value) (o:Nat) (w:World),w.grownBy (w.setCells g o vs) (some g)
 | [],o,w => GV _ _
 |v :: vs,o,w => by
  refine DP (r:=some g) ?_ (D9 vs (o+1) (w.setCell ⟨g,o,none⟩ v)) (fun q e => .inr e);exact⟨rfl,rfl,rfl,by simp[World.setCell],fun q hq hne => Below.heap_setCell w _ _ q (fun e => hne (by rw[e]))⟩
theorem Bd.last {b:Nat} {code:List UInt8} {fs:List Addr} {t g:Nat} {w w':World}(h:Bd b code fs t w w')(hg:w.heap.size≤g)(hb:b<w.heap.size)(ht:CM fs w)(vs:List Value)(o:Nat):Bd b code fs t w (w'.setCells g o vs) :=
 ⟨h.src.grown (D9 vs o w') (fun e => by injection e with e;omega) (fun a ha e => by have:=ht a ha;injection e with e;omega),DP h.grown (D9 vs o w') (fun q e => by injection e with e;subst e;exact .inl hg)⟩
theorem LO(b:Nat)(code:List UInt8)(fs:List Addr)(t:Nat)(w:World)(h:Src w b code fs t)(ht:t≤900000)(hc:code.length≤1048576) :
  Calls Tryz.prog 36 #[.pointer (some ⟨b,0,none⟩)] w fun e w' =>∃s:Sh,e= .returned (shV s)∧Bd b code fs (t+9) w w':=by
 have hbl:=h.lt;have HTH:=hid h.there;have bw:Below w.heap.size w (w.alloc (.cells #[int i64 0,int i64 0,int i64 0,int i64 0,int i64 0,int i64 0,int i64 0,int i64 0,int i64 0] 25)):=Aa (Below.refl _ _) _;have K0:=hid (Blk.new w 25 #[int i64 0,int i64 0,int i64 0,int i64 0,int i64 0,int i64 0,int i64 0,int i64 0,int i64 0]);have HD0:=hid (show Bd b code fs t w (w.alloc (.cells #[int i64 0,int i64 0,int i64 0,int i64 0,int i64 0,int i64 0,int i64 0,int i64 0,int i64 0] 25))from⟨h.keep bw,Bv bw⟩);clear bw h;go_enter Tryz.func36,Tryz.ntmps36
 go_wp2_with fail
 refine(Br b code fs (t+0) (w.heap.size+1) [2,3,1,4] 4 _ (HD0.out.src.keep (Aa (Below.refl _ _) _)) (Blk.new1 _ _ _ _) (by omega) rfl (by omega) (by omega) (by omega) hc).mono ?_;rintro e W1 ⟨r0,rfl,-,hd⟩;have HD1:=hid (HD0.out.over hd);have K1:=hid (Blk.grown (Blk.alloc K0.out _) hd.grown (by intro e;injection e with e;omega));clear hd;go_wp2_with fail
 have z1:=HD1.out.src.lt;refine(Br b code fs (t+1) W1.heap.size [1,2,1,0] 4 _ (HD1.out.src.keep (Aa (Below.refl _ _) _)) (Blk.new _ _ _) (by omega) rfl (by omega) (by omega) (by omega) hc).mono ?_;rintro e W2 ⟨r1,rfl,-,hd⟩;have HD2:=hid (HD1.out.over hd);have K2:=hid (Blk.grown (Blk.alloc K1.out _) hd.grown (by intro e;injection e with e;omega));clear hd z1;go_wp2_with fail
 have z2:=HD2.out.src.lt;refine(Br b code fs (t+2) W2.heap.size [2,1,3] 3 _ (HD2.out.src.keep (Aa (Below.refl _ _) _)) (Blk.new _ _ _) (by omega) rfl (by omega) (by omega) (by omega) hc).mono ?_;rintro e W3 ⟨r2,rfl,-,hd⟩;have HD3:=hid (HD2.out.over hd);have K3:=hid (Blk.grown (Blk.alloc K2.out _) hd.grown (by intro e;injection e with e;omega));clear hd z2;go_wp2_with fail
 have z3:=HD3.out.src.lt;refine(Br b code fs (t+3) W3.heap.size [1,0,2] 3 _ (HD3.out.src.keep (Aa (Below.refl _ _) _)) (Blk.new _ _ _) (by omega) rfl (by omega) (by omega) (by omega) hc).mono ?_;rintro e W4 ⟨r3,rfl,-,hd⟩;have HD4:=hid (HD3.out.over hd);have K4:=hid (Blk.grown (Blk.alloc K3.out _) hd.grown (by intro e;injection e with e;omega));clear hd z3;go_wp2_with fail
 have z4:=HD4.out.src.lt;refine(Br b code fs (t+4) W4.heap.size [2,3,4] 3 _ (HD4.out.src.keep (Aa (Below.refl _ _) _)) (Blk.new _ _ _) (by omega) rfl (by omega) (by omega) (by omega) hc).mono ?_;rintro e W5 ⟨r4,rfl,-,hd⟩;have HD5:=hid (HD4.out.over hd);have K5:=hid (Blk.grown (Blk.alloc K4.out _) hd.grown (by intro e;injection e with e;omega));clear hd z4;go_wp2_with fail
 have z5:=HD5.out.src.lt;refine(Br b code fs (t+5) W5.heap.size [1,2,3] 3 _ (HD5.out.src.keep (Aa (Below.refl _ _) _)) (Blk.new _ _ _) (by omega) rfl (by omega) (by omega) (by omega) hc).mono ?_;rintro e W6 ⟨r5,rfl,-,hd⟩;have HD6:=hid (HD5.out.over hd);have K6:=hid (Blk.grown (Blk.alloc K5.out _) hd.grown (by intro e;injection e with e;omega));clear hd z5;go_wp2_with fail
 have z6:=HD6.out.src.lt;refine(Br b code fs (t+6) W6.heap.size [1,2] 2 _ (HD6.out.src.keep (Aa (Below.refl _ _) _)) (Blk.new _ _ _) (by omega) rfl (by omega) (by omega) (by omega) hc).mono ?_;rintro e W7 ⟨r6,rfl,-,hd⟩;have HD7:=hid (HD6.out.over hd);have K7:=hid (Blk.grown (Blk.alloc K6.out _) hd.grown (by intro e;injection e with e;omega));clear hd z6;go_wp2_with fail
 have z7:=HD7.out.src.lt;refine(Br b code fs (t+7) W7.heap.size [1,2,3] 3 _ (HD7.out.src.keep (Aa (Below.refl _ _) _)) (Blk.new _ _ _) (by omega) rfl (by omega) (by omega) (by omega) hc).mono ?_;rintro e W8 ⟨r7,rfl,-,hd⟩;have HD8:=hid (HD7.out.over hd);have K8:=hid (Blk.grown (Blk.alloc K7.out _) hd.grown (by intro e;injection e with e;omega));clear hd z7;go_wp2_with fail
 have z8:=HD8.out.src.lt;refine(Br b code fs (t+8) W8.heap.size [60,20,100,400] 4 _ (HD8.out.src.keep (Aa (Below.refl _ _) _)) (Blk.new _ _ _) (by omega) rfl (by omega) (by omega) (by omega) hc).mono ?_;rintro e W9 ⟨r8,rfl,-,hd⟩;have HD9:=hid (HD8.out.over hd);have K9:=hid (Blk.grown (Blk.alloc K8.out _) hd.grown (by intro e;injection e with e;omega));clear hd z8;have HT9:=hid (Blk.there K9.out 9 (by simp));go_wp2_with (refine wpList_store_mid rfl 25 (.tmp 2) (.tmp 30) rfl w.heap.size 0 #[int i64 r0,int i64 r1,int i64 r2,int i64 r3,int i64 r4,int i64 r5,int i64 r6,int i64 r7,int i64 r8] rfl rfl HT9.out (by kernel_rfl) (by simp[Value.oneCell']) ?_)
 refine bodyPost_ret (Bb (g:=w.heap.size) rfl _ _ _ _ _ rfl (K9.out.laid [int i64 r0,int i64 r1,int i64 r2,int i64 r3,int i64 r4,int i64 r5,int i64 r6,int i64 r7,int i64 r8] rfl) Tryz.underlying25 rfl (by kernel_rfl)) rfl ?_;exact⟨⟨r0,r1,r2,r3,r4,r5,r6,r7,r8⟩,rfl,HD9.out.last (Nat.le_refl _) hbl HTH.out _ _⟩
theorem l4Bent_c(b:Nat)(code:List UInt8)(fs:List Addr)(t:Nat)(w:World)(h:Src w b code fs t)(ht:t≤800000)(hc:code.length≤1048576) :
  Calls Tryz.prog 15 #[.pointer (some ⟨b,0,none⟩)] w fun e w' =>∃s:Sh,e= .returned (shV s)∧Bd b code fs (t+11) w w':=by
 have hbl:=h.lt;have HFS:=hid h.there;have bw:Below w.heap.size w (w.alloc (.cells #[int i64 0,int i64 0,int i64 0,int i64 0,int i64 0,int i64 0,int i64 0,int i64 0,int i64 0] 25)):=Aa (Below.refl _ _) _;have K0:=hid (Blk.new w 25 #[int i64 0,int i64 0,int i64 0,int i64 0,int i64 0,int i64 0,int i64 0,int i64 0,int i64 0]);have HD0:=hid (show Bd b code fs t w (w.alloc (.cells #[int i64 0,int i64 0,int i64 0,int i64 0,int i64 0,int i64 0,int i64 0,int i64 0,int i64 0] 25))from⟨h.keep bw,Bv bw⟩);clear bw h;go_enter Tryz.func15,Tryz.ntmps15
 go_wp2_with fail
 refine(LO b code fs t _ HD0.out.src (by omega) hc).mono ?_;rintro e W1 ⟨⟨s0,s1,s2,s3,s4,s5,s6,s7,s8⟩,rfl,hd⟩;have HD1:=hid (HD0.out.trans hd);have K1:=hid (Blk.grown K0.out hd.grown (by intro e;injection e with e;omega));have HTH:=hid (Blk.there (Blk.new W1 25 #[int i64 0,int i64 0,int i64 0,int i64 0,int i64 0,int i64 0,int i64 0,int i64 0,int i64 0]) 9 (by simp));have HG1:=hid (show w.heap.size≤W1.heap.size from HD1.out.grown.size);have K01:=hid (show w.heap.size<W1.heap.size from K1.out.lt);clear hd;unfold shV;obtain⟨W2,hW2⟩:∃W2,(W1.alloc (.cells #[int i64 0,int i64 0,int i64 0,int i64 0,int i64 0,int i64 0,int i64 0,int i64 0,int i64 0] 25)).setCells W1.heap.size 0 [int i64 s0,int i64 s1,int i64 s2,int i64 s3,int i64 s4,int i64 s5,int i64 s6,int i64 s7,int i64 s8] =W2:=⟨_,rfl⟩;have HW2:=hid hW2;have K3:=hid (show Blk W2 W1.heap.size 25 #[int i64 s0,int i64 s1,int i64 s2,int i64 s3,int i64 s4,int i64 s5,int i64 s6,int i64 s7,int i64 s8] by rw[← hW2];exact(Blk.new W1 25 #[int i64 0,int i64 0,int i64 0,int i64 0,int i64 0,int i64 0,int i64 0,int i64 0,int i64 0]).laid [int i64 s0,int i64 s1,int i64 s2,int i64 s3,int i64 s4,int i64 s5,int i64 s6,int i64 s7,int i64 s8] rfl);have K2:=hid (show Blk W2 w.heap.size 25 #[int i64 0,int i64 0,int i64 0,int i64 0,int i64 0,int i64 0,int i64 0,int i64 0,int i64 0] by rw[← hW2];exact Blk.farS _ _ 0 _ (by have:=K1.out.lt;omega) (K1.out.alloc _));have HD2:=hid (show Bd b code fs (t+9) w W2 by rw[← hW2];exact(HD1.out.more (Aa (Below.refl _ _) _)).last HG1.out hbl HFS.out _ _);have hne:=HD1.out.src.lt;clear hW2;go_wp2_with (refine wpList_store_mid rfl 25 (.tmp 3) (.tmp 5) rfl W1.heap.size 0 #[int i64 s0,int i64 s1,int i64 s2,int i64 s3,int i64 s4,int i64 s5,int i64 s6,int i64 s7,int i64 s8] rfl rfl HTH.out (by kernel_rfl) (by simp[Value.oneCell']) ?_;rw[HW2.out])
 refine(I6 b code fs (t+9) 24 W2 HD2.out.src (by omega) (by omega) (by omega) hc).mono ?_;rintro e W3 ⟨r,rfl,hr0,hr1,hd⟩;have HD3:=hid (HD2.out.trans hd);have KA:=hid (Blk.grown K2.out hd.grown (by intro e;injection e with e;omega));have KB:=hid (Blk.grown K3.out hd.grown (by intro e;injection e with e;omega));clear hd K1 K2 K3 HTH HW2 HD0 HD1 HD2;rcases(show r=0∨r=1∨r=2∨r=3∨r=4∨r=5∨r=6∨r=7∨r=8∨9≤r by omega)with rfl|rfl|rfl|rfl|rfl|rfl|rfl|rfl|rfl|h9
 ·clear hr0 hr1;go_wp2_with fail
  have z3:=HD3.out.src.lt;refine(Br b code fs (t+10) W3.heap.size [0,5] 2 _ (HD3.out.src.keep (Aa (Below.refl _ _) _)) (Blk.new _ _ _) (by omega) rfl (by omega) (by omega) (by omega) hc).mono ?_;rintro e W4 ⟨q,rfl,-,hd⟩;have HD4:=hid (HD3.out.over hd);have k4:=Blk.grown (Blk.alloc KB.out _) hd.grown (by intro e;injection e with e;omega);have ka:=Blk.grown (Blk.alloc KA.out _) hd.grown (by intro e;injection e with e;omega);have e4:=k4.frozen 0;have c4:W4.cell? ⟨W1.heap.size,0,none⟩=some (int i64 s0):=(k4.cell 0).trans rfl;have z4:=k4.lt;have HRG:=hid (Blk.range (k4.set_ 0 (int i64 q)) 0 [int i64 q,int i64 s1,int i64 s2,int i64 s3,int i64 s4,int i64 s5,int i64 s6,int i64 s7,int i64 s8] rfl);have KW:=hid (ka.far (p:=⟨W1.heap.size,0,none⟩) (by have:=K01.out;simp;omega) (int i64 q));have HTH:=hid (Blk.there KW.out 9 (by simp));have HD5:=hid (show Bd b code fs (t+11) w (W4.setCell ⟨W1.heap.size,0,none⟩ (int i64 q))from HD4.out.last HG1.out hbl HFS.out [int i64 q] 0);clear hd k4 ka z3;go_wp2_with (first
   |(refine wpList_load_mid rfl 25 (.tmp 3) rfl W1.heap.size 0 rfl _ _ HRG.out Tryz.underlying25 rfl (by kernel_rfl) ?_)
   |(refine wpList_store_mid rfl 25 (.tmp 2) (.tmp 62) rfl w.heap.size 0 #[int i64 q,int i64 s1,int i64 s2,int i64 s3,int i64 s4,int i64 s5,int i64 s6,int i64 s7,int i64 s8] rfl rfl HTH.out (by kernel_rfl) (by simp[Value.oneCell']) ?_))
  refine bodyPost_ret (Bb (g:=w.heap.size) rfl _ _ _ _ _ rfl (KW.out.laid [int i64 q,int i64 s1,int i64 s2,int i64 s3,int i64 s4,int i64 s5,int i64 s6,int i64 s7,int i64 s8] rfl) Tryz.underlying25 rfl (by kernel_rfl)) rfl ?_;exact⟨⟨q,s1,s2,s3,s4,s5,s6,s7,s8⟩,rfl,HD5.out.last (Nat.le_refl _) hbl HFS.out _ _⟩
 ·clear hr0 hr1;go_wp2_with fail
  have z3:=HD3.out.src.lt;refine(Br b code fs (t+10) W3.heap.size [-1,3] 2 _ (HD3.out.src.keep (Aa (Below.refl _ _) _)) (Blk.new _ _ _) (by omega) rfl (by omega) (by omega) (by omega) hc).mono ?_;rintro e W4 ⟨q,rfl,-,hd⟩;have HD4:=hid (HD3.out.over hd);have k4:=Blk.grown (Blk.alloc KB.out _) hd.grown (by intro e;injection e with e;omega);have ka:=Blk.grown (Blk.alloc KA.out _) hd.grown (by intro e;injection e with e;omega);have e4:=k4.frozen 1;have c4:W4.cell? ⟨W1.heap.size,1,none⟩=some (int i64 s1):=(k4.cell 1).trans rfl;have z4:=k4.lt;have HRG:=hid (Blk.range (k4.set_ 1 (int i64 q)) 0 [int i64 s0,int i64 q,int i64 s2,int i64 s3,int i64 s4,int i64 s5,int i64 s6,int i64 s7,int i64 s8] rfl);have KW:=hid (ka.far (p:=⟨W1.heap.size,1,none⟩) (by have:=K01.out;simp;omega) (int i64 q));have HTH:=hid (Blk.there KW.out 9 (by simp));have HD5:=hid (show Bd b code fs (t+11) w (W4.setCell ⟨W1.heap.size,1,none⟩ (int i64 q))from HD4.out.last HG1.out hbl HFS.out [int i64 q] 1);clear hd k4 ka z3;go_wp2_with (first
   |(refine wpList_load_mid rfl 25 (.tmp 3) rfl W1.heap.size 0 rfl _ _ HRG.out Tryz.underlying25 rfl (by kernel_rfl) ?_)
   |(refine wpList_store_mid rfl 25 (.tmp 2) (.tmp 62) rfl w.heap.size 0 #[int i64 s0,int i64 q,int i64 s2,int i64 s3,int i64 s4,int i64 s5,int i64 s6,int i64 s7,int i64 s8] rfl rfl HTH.out (by kernel_rfl) (by simp[Value.oneCell']) ?_))
  refine bodyPost_ret (Bb (g:=w.heap.size) rfl _ _ _ _ _ rfl (KW.out.laid [int i64 s0,int i64 q,int i64 s2,int i64 s3,int i64 s4,int i64 s5,int i64 s6,int i64 s7,int i64 s8] rfl) Tryz.underlying25 rfl (by kernel_rfl)) rfl ?_;exact⟨⟨s0,q,s2,s3,s4,s5,s6,s7,s8⟩,rfl,HD5.out.last (Nat.le_refl _) hbl HFS.out _ _⟩
 ·clear hr0 hr1;go_wp2_with fail
  have z3:=HD3.out.src.lt;refine(Br b code fs (t+10) W3.heap.size [0,4] 2 _ (HD3.out.src.keep (Aa (Below.refl _ _) _)) (Blk.new _ _ _) (by omega) rfl (by omega) (by omega) (by omega) hc).mono ?_;rintro e W4 ⟨q,rfl,-,hd⟩;have HD4:=hid (HD3.out.over hd);have k4:=Blk.grown (Blk.alloc KB.out _) hd.grown (by intro e;injection e with e;omega);have ka:=Blk.grown (Blk.alloc KA.out _) hd.grown (by intro e;injection e with e;omega);have e4:=k4.frozen 2;have c4:W4.cell? ⟨W1.heap.size,2,none⟩=some (int i64 s2):=(k4.cell 2).trans rfl;have z4:=k4.lt;have HRG:=hid (Blk.range (k4.set_ 2 (int i64 q)) 0 [int i64 s0,int i64 s1,int i64 q,int i64 s3,int i64 s4,int i64 s5,int i64 s6,int i64 s7,int i64 s8] rfl);have KW:=hid (ka.far (p:=⟨W1.heap.size,2,none⟩) (by have:=K01.out;simp;omega) (int i64 q));have HTH:=hid (Blk.there KW.out 9 (by simp));have HD5:=hid (show Bd b code fs (t+11) w (W4.setCell ⟨W1.heap.size,2,none⟩ (int i64 q))from HD4.out.last HG1.out hbl HFS.out [int i64 q] 2);clear hd k4 ka z3;go_wp2_with (first
   |(refine wpList_load_mid rfl 25 (.tmp 3) rfl W1.heap.size 0 rfl _ _ HRG.out Tryz.underlying25 rfl (by kernel_rfl) ?_)
   |(refine wpList_store_mid rfl 25 (.tmp 2) (.tmp 62) rfl w.heap.size 0 #[int i64 s0,int i64 s1,int i64 q,int i64 s3,int i64 s4,int i64 s5,int i64 s6,int i64 s7,int i64 s8] rfl rfl HTH.out (by kernel_rfl) (by simp[Value.oneCell']) ?_))
  refine bodyPost_ret (Bb (g:=w.heap.size) rfl _ _ _ _ _ rfl (KW.out.laid [int i64 s0,int i64 s1,int i64 q,int i64 s3,int i64 s4,int i64 s5,int i64 s6,int i64 s7,int i64 s8] rfl) Tryz.underlying25 rfl (by kernel_rfl)) rfl ?_;exact⟨⟨s0,s1,q,s3,s4,s5,s6,s7,s8⟩,rfl,HD5.out.last (Nat.le_refl _) hbl HFS.out _ _⟩
 ·clear hr0 hr1;go_wp2_with fail
  have z3:=HD3.out.src.lt;refine(Br b code fs (t+10) W3.heap.size [-1,3] 2 _ (HD3.out.src.keep (Aa (Below.refl _ _) _)) (Blk.new _ _ _) (by omega) rfl (by omega) (by omega) (by omega) hc).mono ?_;rintro e W4 ⟨q,rfl,-,hd⟩;have HD4:=hid (HD3.out.over hd);have k4:=Blk.grown (Blk.alloc KB.out _) hd.grown (by intro e;injection e with e;omega);have ka:=Blk.grown (Blk.alloc KA.out _) hd.grown (by intro e;injection e with e;omega);have e4:=k4.frozen 3;have c4:W4.cell? ⟨W1.heap.size,3,none⟩=some (int i64 s3):=(k4.cell 3).trans rfl;have z4:=k4.lt;have HRG:=hid (Blk.range (k4.set_ 3 (int i64 q)) 0 [int i64 s0,int i64 s1,int i64 s2,int i64 q,int i64 s4,int i64 s5,int i64 s6,int i64 s7,int i64 s8] rfl);have KW:=hid (ka.far (p:=⟨W1.heap.size,3,none⟩) (by have:=K01.out;simp;omega) (int i64 q));have HTH:=hid (Blk.there KW.out 9 (by simp));have HD5:=hid (show Bd b code fs (t+11) w (W4.setCell ⟨W1.heap.size,3,none⟩ (int i64 q))from HD4.out.last HG1.out hbl HFS.out [int i64 q] 3);clear hd k4 ka z3;go_wp2_with (first
   |(refine wpList_load_mid rfl 25 (.tmp 3) rfl W1.heap.size 0 rfl _ _ HRG.out Tryz.underlying25 rfl (by kernel_rfl) ?_)
   |(refine wpList_store_mid rfl 25 (.tmp 2) (.tmp 62) rfl w.heap.size 0 #[int i64 s0,int i64 s1,int i64 s2,int i64 q,int i64 s4,int i64 s5,int i64 s6,int i64 s7,int i64 s8] rfl rfl HTH.out (by kernel_rfl) (by simp[Value.oneCell']) ?_))
  refine bodyPost_ret (Bb (g:=w.heap.size) rfl _ _ _ _ _ rfl (KW.out.laid [int i64 s0,int i64 s1,int i64 s2,int i64 q,int i64 s4,int i64 s5,int i64 s6,int i64 s7,int i64 s8] rfl) Tryz.underlying25 rfl (by kernel_rfl)) rfl ?_;exact⟨⟨s0,s1,s2,q,s4,s5,s6,s7,s8⟩,rfl,HD5.out.last (Nat.le_refl _) hbl HFS.out _ _⟩
 ·clear hr0 hr1;go_wp2_with fail
  have z3:=HD3.out.src.lt;refine(Br b code fs (t+10) W3.heap.size [0,7,6] 3 _ (HD3.out.src.keep (Aa (Below.refl _ _) _)) (Blk.new _ _ _) (by omega) rfl (by omega) (by omega) (by omega) hc).mono ?_;rintro e W4 ⟨q,rfl,-,hd⟩;have HD4:=hid (HD3.out.over hd);have k4:=Blk.grown (Blk.alloc KB.out _) hd.grown (by intro e;injection e with e;omega);have ka:=Blk.grown (Blk.alloc KA.out _) hd.grown (by intro e;injection e with e;omega);have e4:=k4.frozen 4;have c4:W4.cell? ⟨W1.heap.size,4,none⟩=some (int i64 s4):=(k4.cell 4).trans rfl;have z4:=k4.lt;have HRG:=hid (Blk.range (k4.set_ 4 (int i64 q)) 0 [int i64 s0,int i64 s1,int i64 s2,int i64 s3,int i64 q,int i64 s5,int i64 s6,int i64 s7,int i64 s8] rfl);have KW:=hid (ka.far (p:=⟨W1.heap.size,4,none⟩) (by have:=K01.out;simp;omega) (int i64 q));have HTH:=hid (Blk.there KW.out 9 (by simp));have HD5:=hid (show Bd b code fs (t+11) w (W4.setCell ⟨W1.heap.size,4,none⟩ (int i64 q))from HD4.out.last HG1.out hbl HFS.out [int i64 q] 4);clear hd k4 ka z3;go_wp2_with (first
   |(refine wpList_load_mid rfl 25 (.tmp 3) rfl W1.heap.size 0 rfl _ _ HRG.out Tryz.underlying25 rfl (by kernel_rfl) ?_)
   |(refine wpList_store_mid rfl 25 (.tmp 2) (.tmp 62) rfl w.heap.size 0 #[int i64 s0,int i64 s1,int i64 s2,int i64 s3,int i64 q,int i64 s5,int i64 s6,int i64 s7,int i64 s8] rfl rfl HTH.out (by kernel_rfl) (by simp[Value.oneCell']) ?_))
  refine bodyPost_ret (Bb (g:=w.heap.size) rfl _ _ _ _ _ rfl (KW.out.laid [int i64 s0,int i64 s1,int i64 s2,int i64 s3,int i64 q,int i64 s5,int i64 s6,int i64 s7,int i64 s8] rfl) Tryz.underlying25 rfl (by kernel_rfl)) rfl ?_;exact⟨⟨s0,s1,s2,s3,q,s5,s6,s7,s8⟩,rfl,HD5.out.last (Nat.le_refl _) hbl HFS.out _ _⟩
 ·clear hr0 hr1;go_wp2_with fail
  have z3:=HD3.out.src.lt;refine(Br b code fs (t+10) W3.heap.size [0,7,6] 3 _ (HD3.out.src.keep (Aa (Below.refl _ _) _)) (Blk.new _ _ _) (by omega) rfl (by omega) (by omega) (by omega) hc).mono ?_;rintro e W4 ⟨q,rfl,-,hd⟩;have HD4:=hid (HD3.out.over hd);have k4:=Blk.grown (Blk.alloc KB.out _) hd.grown (by intro e;injection e with e;omega);have ka:=Blk.grown (Blk.alloc KA.out _) hd.grown (by intro e;injection e with e;omega);have e4:=k4.frozen 5;have c4:W4.cell? ⟨W1.heap.size,5,none⟩=some (int i64 s5):=(k4.cell 5).trans rfl;have z4:=k4.lt;have HRG:=hid (Blk.range (k4.set_ 5 (int i64 q)) 0 [int i64 s0,int i64 s1,int i64 s2,int i64 s3,int i64 s4,int i64 q,int i64 s6,int i64 s7,int i64 s8] rfl);have KW:=hid (ka.far (p:=⟨W1.heap.size,5,none⟩) (by have:=K01.out;simp;omega) (int i64 q));have HTH:=hid (Blk.there KW.out 9 (by simp));have HD5:=hid (show Bd b code fs (t+11) w (W4.setCell ⟨W1.heap.size,5,none⟩ (int i64 q))from HD4.out.last HG1.out hbl HFS.out [int i64 q] 5);clear hd k4 ka z3;go_wp2_with (first
   |(refine wpList_load_mid rfl 25 (.tmp 3) rfl W1.heap.size 0 rfl _ _ HRG.out Tryz.underlying25 rfl (by kernel_rfl) ?_)
   |(refine wpList_store_mid rfl 25 (.tmp 2) (.tmp 62) rfl w.heap.size 0 #[int i64 s0,int i64 s1,int i64 s2,int i64 s3,int i64 s4,int i64 q,int i64 s6,int i64 s7,int i64 s8] rfl rfl HTH.out (by kernel_rfl) (by simp[Value.oneCell']) ?_))
  refine bodyPost_ret (Bb (g:=w.heap.size) rfl _ _ _ _ _ rfl (KW.out.laid [int i64 s0,int i64 s1,int i64 s2,int i64 s3,int i64 s4,int i64 q,int i64 s6,int i64 s7,int i64 s8] rfl) Tryz.underlying25 rfl (by kernel_rfl)) rfl ?_;exact⟨⟨s0,s1,s2,s3,s4,q,s6,s7,s8⟩,rfl,HD5.out.last (Nat.le_refl _) hbl HFS.out _ _⟩
 ·clear hr0 hr1;go_wp2_with fail
  have z3:=HD3.out.src.lt;refine(Br b code fs (t+10) W3.heap.size [0,5,4] 3 _ (HD3.out.src.keep (Aa (Below.refl _ _) _)) (Blk.new _ _ _) (by omega) rfl (by omega) (by omega) (by omega) hc).mono ?_;rintro e W4 ⟨q,rfl,-,hd⟩;have HD4:=hid (HD3.out.over hd);have k4:=Blk.grown (Blk.alloc KB.out _) hd.grown (by intro e;injection e with e;omega);have ka:=Blk.grown (Blk.alloc KA.out _) hd.grown (by intro e;injection e with e;omega);have e4:=k4.frozen 6;have c4:W4.cell? ⟨W1.heap.size,6,none⟩=some (int i64 s6):=(k4.cell 6).trans rfl;have z4:=k4.lt;have HRG:=hid (Blk.range (k4.set_ 6 (int i64 q)) 0 [int i64 s0,int i64 s1,int i64 s2,int i64 s3,int i64 s4,int i64 s5,int i64 q,int i64 s7,int i64 s8] rfl);have KW:=hid (ka.far (p:=⟨W1.heap.size,6,none⟩) (by have:=K01.out;simp;omega) (int i64 q));have HTH:=hid (Blk.there KW.out 9 (by simp));have HD5:=hid (show Bd b code fs (t+11) w (W4.setCell ⟨W1.heap.size,6,none⟩ (int i64 q))from HD4.out.last HG1.out hbl HFS.out [int i64 q] 6);clear hd k4 ka z3;go_wp2_with (first
   |(refine wpList_load_mid rfl 25 (.tmp 3) rfl W1.heap.size 0 rfl _ _ HRG.out Tryz.underlying25 rfl (by kernel_rfl) ?_)
   |(refine wpList_store_mid rfl 25 (.tmp 2) (.tmp 62) rfl w.heap.size 0 #[int i64 s0,int i64 s1,int i64 s2,int i64 s3,int i64 s4,int i64 s5,int i64 q,int i64 s7,int i64 s8] rfl rfl HTH.out (by kernel_rfl) (by simp[Value.oneCell']) ?_))
  refine bodyPost_ret (Bb (g:=w.heap.size) rfl _ _ _ _ _ rfl (KW.out.laid [int i64 s0,int i64 s1,int i64 s2,int i64 s3,int i64 s4,int i64 s5,int i64 q,int i64 s7,int i64 s8] rfl) Tryz.underlying25 rfl (by kernel_rfl)) rfl ?_;exact⟨⟨s0,s1,s2,s3,s4,s5,q,s7,s8⟩,rfl,HD5.out.last (Nat.le_refl _) hbl HFS.out _ _⟩
 ·clear hr0 hr1;go_wp2_with fail
  have z3:=HD3.out.src.lt;refine(Br b code fs (t+10) W3.heap.size [0,7,6] 3 _ (HD3.out.src.keep (Aa (Below.refl _ _) _)) (Blk.new _ _ _) (by omega) rfl (by omega) (by omega) (by omega) hc).mono ?_;rintro e W4 ⟨q,rfl,-,hd⟩;have HD4:=hid (HD3.out.over hd);have k4:=Blk.grown (Blk.alloc KB.out _) hd.grown (by intro e;injection e with e;omega);have ka:=Blk.grown (Blk.alloc KA.out _) hd.grown (by intro e;injection e with e;omega);have e4:=k4.frozen 7;have c4:W4.cell? ⟨W1.heap.size,7,none⟩=some (int i64 s7):=(k4.cell 7).trans rfl;have z4:=k4.lt;have HRG:=hid (Blk.range (k4.set_ 7 (int i64 q)) 0 [int i64 s0,int i64 s1,int i64 s2,int i64 s3,int i64 s4,int i64 s5,int i64 s6,int i64 q,int i64 s8] rfl);have KW:=hid (ka.far (p:=⟨W1.heap.size,7,none⟩) (by have:=K01.out;simp;omega) (int i64 q));have HTH:=hid (Blk.there KW.out 9 (by simp));have HD5:=hid (show Bd b code fs (t+11) w (W4.setCell ⟨W1.heap.size,7,none⟩ (int i64 q))from HD4.out.last HG1.out hbl HFS.out [int i64 q] 7);clear hd k4 ka z3;go_wp2_with (first
   |(refine wpList_load_mid rfl 25 (.tmp 3) rfl W1.heap.size 0 rfl _ _ HRG.out Tryz.underlying25 rfl (by kernel_rfl) ?_)
   |(refine wpList_store_mid rfl 25 (.tmp 2) (.tmp 62) rfl w.heap.size 0 #[int i64 s0,int i64 s1,int i64 s2,int i64 s3,int i64 s4,int i64 s5,int i64 s6,int i64 q,int i64 s8] rfl rfl HTH.out (by kernel_rfl) (by simp[Value.oneCell']) ?_))
  refine bodyPost_ret (Bb (g:=w.heap.size) rfl _ _ _ _ _ rfl (KW.out.laid [int i64 s0,int i64 s1,int i64 s2,int i64 s3,int i64 s4,int i64 s5,int i64 s6,int i64 q,int i64 s8] rfl) Tryz.underlying25 rfl (by kernel_rfl)) rfl ?_;exact⟨⟨s0,s1,s2,s3,s4,s5,s6,q,s8⟩,rfl,HD5.out.last (Nat.le_refl _) hbl HFS.out _ _⟩
 ·clear hr0 hr1;go_wp2_with fail
  have z3:=HD3.out.src.lt;refine(Br b code fs (t+10) W3.heap.size [-1,401,0] 3 _ (HD3.out.src.keep (Aa (Below.refl _ _) _)) (Blk.new _ _ _) (by omega) rfl (by omega) (by omega) (by omega) hc).mono ?_;rintro e W4 ⟨q,rfl,-,hd⟩;have HD4:=hid (HD3.out.over hd);have k4:=Blk.grown (Blk.alloc KB.out _) hd.grown (by intro e;injection e with e;omega);have ka:=Blk.grown (Blk.alloc KA.out _) hd.grown (by intro e;injection e with e;omega);have e4:=k4.frozen 8;have c4:W4.cell? ⟨W1.heap.size,8,none⟩=some (int i64 s8):=(k4.cell 8).trans rfl;have z4:=k4.lt;have HRG:=hid (Blk.range (k4.set_ 8 (int i64 q)) 0 [int i64 s0,int i64 s1,int i64 s2,int i64 s3,int i64 s4,int i64 s5,int i64 s6,int i64 s7,int i64 q] rfl);have KW:=hid (ka.far (p:=⟨W1.heap.size,8,none⟩) (by have:=K01.out;simp;omega) (int i64 q));have HTH:=hid (Blk.there KW.out 9 (by simp));have HD5:=hid (show Bd b code fs (t+11) w (W4.setCell ⟨W1.heap.size,8,none⟩ (int i64 q))from HD4.out.last HG1.out hbl HFS.out [int i64 q] 8);clear hd k4 ka z3;go_wp2_with (first
   |(refine wpList_load_mid rfl 25 (.tmp 3) rfl W1.heap.size 0 rfl _ _ HRG.out Tryz.underlying25 rfl (by kernel_rfl) ?_)
   |(refine wpList_store_mid rfl 25 (.tmp 2) (.tmp 62) rfl w.heap.size 0 #[int i64 s0,int i64 s1,int i64 s2,int i64 s3,int i64 s4,int i64 s5,int i64 s6,int i64 s7,int i64 q] rfl rfl HTH.out (by kernel_rfl) (by simp[Value.oneCell']) ?_))
  refine bodyPost_ret (Bb (g:=w.heap.size) rfl _ _ _ _ _ rfl (KW.out.laid [int i64 s0,int i64 s1,int i64 s2,int i64 s3,int i64 s4,int i64 s5,int i64 s6,int i64 s7,int i64 q] rfl) Tryz.underlying25 rfl (by kernel_rfl)) rfl ?_;exact⟨⟨s0,s1,s2,s3,s4,s5,s6,s7,q⟩,rfl,HD5.out.last (Nat.le_refl _) hbl HFS.out _ _⟩
 ·have n0:(r == 0)=false:=by rw[beq_eq_false_iff_ne];omega
  have n1:(r == 1)=false:=by rw[beq_eq_false_iff_ne];omega
  have n2:(r == 2)=false:=by rw[beq_eq_false_iff_ne];omega
  have n3:(r == 3)=false:=by rw[beq_eq_false_iff_ne];omega
  have n4:(r == 4)=false:=by rw[beq_eq_false_iff_ne];omega
  have n5:(r == 5)=false:=by rw[beq_eq_false_iff_ne];omega
  have n6:(r == 6)=false:=by rw[beq_eq_false_iff_ne];omega
  have n7:(r == 7)=false:=by rw[beq_eq_false_iff_ne];omega
  have n8:(r == 8)=false:=by rw[beq_eq_false_iff_ne];omega
  have HRG:=hid (Blk.range KB.out 0 [int i64 s0,int i64 s1,int i64 s2,int i64 s3,int i64 s4,int i64 s5,int i64 s6,int i64 s7,int i64 s8] rfl);have HTH:=hid (Blk.there KA.out 9 (by simp));clear hr0 hr1;go_wp2_with (first
   |(refine wpList_load_mid rfl 25 (.tmp 3) rfl W1.heap.size 0 rfl _ _ HRG.out Tryz.underlying25 rfl (by kernel_rfl) ?_)
   |(refine wpList_store_mid rfl 25 (.tmp 2) (.tmp 62) rfl w.heap.size 0 #[int i64 s0,int i64 s1,int i64 s2,int i64 s3,int i64 s4,int i64 s5,int i64 s6,int i64 s7,int i64 s8] rfl rfl HTH.out (by kernel_rfl) (by simp[Value.oneCell']) ?_))
  refine bodyPost_ret (Bb (g:=w.heap.size) rfl _ _ _ _ _ rfl (KA.out.laid [int i64 s0,int i64 s1,int i64 s2,int i64 s3,int i64 s4,int i64 s5,int i64 s6,int i64 s7,int i64 s8] rfl) Tryz.underlying25 rfl (by kernel_rfl)) rfl ?_;refine⟨⟨s0,s1,s2,s3,s4,s5,s6,s7,s8⟩,rfl,?_⟩;have:=HD3.out.last (Nat.le_refl _) hbl HFS.out [int i64 s0,int i64 s1,int i64 s2,int i64 s3,int i64 s4,int i64 s5,int i64 s6,int i64 s7,int i64 s8] 0;exact⟨this.src.mono (by omega),this.grown⟩
theorem LD(v:Value)(code:List UInt8)(fs:List Addr)(w:World)(h1:Ap w fs v code)(hc:code.length≤1048576) :
  Calls Tryz.prog 5 #[v] w fun e w' =>∃s:Sh,e= .returned (shV s)∧Below w.heap.size w w':=by
 obtain⟨W1,hW1⟩:∃W1,w.alloc (.cells #[int i64 0,int i64 0,int i64 0,int i64 0,int i64 0,int i64 0,int i64 0,int i64 0,int i64 0] 25)=W1:=⟨_,rfl⟩;have K0:=hid (show Blk W1 w.heap.size 25 #[int i64 0,int i64 0,int i64 0,int i64 0,int i64 0,int i64 0,int i64 0,int i64 0,int i64 0] by rw[← hW1];exact Blk.new _ _ _);have b1:Below w.heap.size w W1:=by rw[← hW1];exact Aa (Below.refl _ _) _
 have HB1:=hid b1;have HS:=hid (Ld v code fs W1 (Ap.below h1 b1));clear b1 h1;go_enter Tryz.func5,Tryz.ntmps5
 go_wp2_with (go_at_call 16;(try rw[hW1]);refine HS.out.mono ?_;rintro e w2 ⟨rfl,hsrc,b2⟩;have HSR:=hid hsrc;have B2:=hid b2;clear hsrc b2)
 refine(l4Bent_c _ code fs 0 w2 HSR.out (by omega) hc).mono ?_;rintro e w3 ⟨⟨s0,s1,s2,s3,s4,s5,s6,s7,s8⟩,rfl,hd⟩;have B3:=hid (hd.below (B:=W1.heap.size) (Nat.le_refl _) B2.out.size);have HB13:=hid (B2.out.trans B3.out);have K3:=hid (K0.out.below HB13.out K0.out.lt);have HTH:=hid (Blk.there K3.out 9 (by simp));clear hd HSR B2 hW1;unfold shV;go_wp2_with (refine wpList_store_mid rfl 25 (.tmp 2) (.tmp 5) rfl w.heap.size 0 #[int i64 s0,int i64 s1,int i64 s2,int i64 s3,int i64 s4,int i64 s5,int i64 s6,int i64 s7,int i64 s8] rfl rfl HTH.out (by kernel_rfl) (by simp[Value.oneCell']) ?_)
 refine bodyPost_ret (Bb (g:=w.heap.size) rfl _ _ _ _ _ rfl (K3.out.laid [int i64 s0,int i64 s1,int i64 s2,int i64 s3,int i64 s4,int i64 s5,int i64 s6,int i64 s7,int i64 s8] rfl) Tryz.underlying25 rfl (by kernel_rfl)) rfl ?_;exact⟨⟨s0,s1,s2,s3,s4,s5,s6,s7,s8⟩,rfl,Below.setCells_ _ _ _ _ (Nat.le_refl _) (HB1.out.trans (HB13.out.mono HB1.out.size))⟩
theorem LV {l:List Bo}(h:∀x,x∈l→x.wiped=false):∀n,En l n=0:=by
 intro n;unfold En;rw[List.countP_eq_zero];intro x hx;rw[h x (List.mem_of_mem_take hx)];exact Bool.false_ne_true
theorem rest_new {s:Sh}(h:shB s=true):DA ⟨BZ s (s.g+s.c).toNat (s.data+s.p).toNat s.rows.toNat,Dq (s.g+s.c).toNat⟩ (s.g+s.c).toNat:=by
 have hz:=Jq h;have hok:=hz.ok;have e1:=hz.all;have e2:=hz.drives;have e3:=hz.rows;obtain⟨G,hG⟩:∃G,(s.g+s.c).toNat =G:=⟨_,rfl⟩;obtain⟨D,hD⟩:∃D,(s.data+s.p).toNat =D:=⟨_,rfl⟩;obtain⟨N,hN⟩:∃N,s.rows.toNat=N:=⟨_,rfl⟩;rw[hG]at e1⊢;rw[hD]at e2⊢;rw[hN]at e3⊢;have o1:=hok.g;have o2:=hok.c;have o3:=hok.data;have o4:=hok.p;have o5:=hok.rows;have o6:=hok.q;have hdr:∀g,g<G→BV (BZ s G D N) g=List.replicate D (Dc N):=fun g hg => by
  rw[Gj (by show g<(List.replicate G _).length;simpa using hg)];show(List.replicate G (List.replicate D (Dc N)))[g]'_=_
  rw[List.getElem_replicate]
 have hgl:((BZ s G D N).g.length:Int)=s.g+s.c:=by rw[e1];simp[BZ]
 refine⟨⟨rfl,rfl,hok,hgl,fun g hg => ?_,fun g hg => ?_⟩,⟨rfl,rfl,rfl,by omega⟩,e1.symm,⟨?_,?_,?_,by simp[BZ],by simp[BZ],?_⟩,rfl,?_⟩
 ·rw[hdr g (by simpa [BZ]using hg),List.length_replicate];omega
 ·unfold GP;rw[hdr g (by simpa [BZ]using hg),LV (fun x hx => by rw[(List.mem_replicate.1 hx).2];rfl)];rw[decide_eq_false_iff_not];show¬s.p<((0:Nat):Int)
  omega
 ·simp[BZ];omega
 ·intro g hg;rw[(List.mem_replicate.1 (show g∈List.replicate G (List.replicate D (Dc N))from hg)).2,List.length_replicate];omega
 ·intro g hg x hx;rw[(List.mem_replicate.1 (show g∈List.replicate G (List.replicate D (Dc N))from hg)).2]at hx;rw[(List.mem_replicate.1 hx).2];refine⟨by simp[Dc];omega,fun b hb => ?_⟩;rw[(List.mem_replicate.1 (show b∈List.replicate N FK from hb)).2];simp[FK]
 ·intro t ht;have:t=DZ:=by simpa [BZ]using ht
  subst this;exact⟨by simp[DZ],fun r hr => by cases hr⟩
 ·refine(CX (d:=⟨BZ s G D N,Dq G⟩) rfl).2 ⟨?_,?_⟩
  ·have hb:BR s (List.replicate G (List.replicate D (Dc N)))=true:=by
    unfold BR;rw[decide_eq_true (show((List.replicate G (List.replicate D (Dc N))).length:Int)=s.g+s.c by rw[List.length_replicate,e1]),Bool.true_and,List.all_eq_true];intro g hg;rw[(List.mem_replicate.1 hg).2];unfold CT;rw[decide_eq_true (show((List.replicate D (Dc N)).length:Int)=s.data+s.p by rw[List.length_replicate,e2]),Bool.true_and,List.all_eq_true];intro x hx;rw[(List.mem_replicate.1 hx).2];unfold Db;rw[decide_eq_true (show((Dc N).blocks.length:Int)=s.rows by rw[e3];simp[Dc]),Bool.true_and,List.all_eq_true];intro b hb;rw[(List.mem_replicate.1 (show b∈List.replicate N FK from hb)).2];rfl
   have ho:onB s [] false=true:=by
    unfold onB;have:=hok.cap;rw[show Cl [] (s.g+s.c - 1)=true from Fl.2 ⟨List.Pairwise.nil,fun x hx => by cases hx⟩];simp;omega
   have ht:Bf s [DZ,DZ] =0:=rfl;unfold AI;show(if shB s=true then(if(BR s (List.replicate G (List.replicate D (Dc N))) && (onB s [] false && decide (2=2)))=true then(if Bf s [DZ,DZ] =0 then(if(Al 0 0 1000000000 && Al (-1) (-1) 1000000000)=true then(0:Int)else 3)else Bf s [DZ,DZ])else 1)else 3)=0
   rw[if_pos h,hb,ho,ht];rfl
  ·refine Gu (d:=Dq G) (by show((List.replicate G ([]:List An)).length:Int)=s.g+s.c;rw[List.length_replicate,e1]) ?_ ?_ rfl rfl rfl
   ·have:(Dq G).queues.any (Ch s)=false:=List.any_eq_false.2 fun q hq => by
     rw[(List.mem_replicate.1 (show q∈List.replicate G ([]:List An)from hq)).2];unfold Ch;simp;omega
    show((Dq G).queues.any (Ch s)||(decide (20<0)||decide (200<0)))=false
    rw[this];rfl
   ·have hS:AM (Dq G)= []:=by
     have:=Dw (Dq G);have hT:AN (Dq G)= []:=by unfold AN Dq;simp
     rw[hT]at this;exact List.map_eq_nil_iff.1 this
    unfold tkC;rw[hS];rfl
theorem LR(v1 v2:Value)(xs ys:List UInt8)(f1 f2:List Addr)(w:World)(h1:Ap w f1 v1 xs)(h2:Ap w f2 v2 ys) :
  Calls Tryz.prog 14 #[v1,v2] w fun e w' => e= .returned (.bool (decide (xs=ys)))∧Below w.heap.size w w':=by
 obtain⟨A1,c1,rfl,hc1,hm1,hx⟩:=Ap.open_ h1;obtain⟨A2,c2,rfl,hc2,hm2,hy⟩:=Ap.open_ h2;clear h1 h2;by_cases hl:xs.length=ys.length
 ·have hb:=Gs hl;have HL:=hid hl;clear hl;go_enter Tryz.func14,Tryz.ntmps14
  go_wp2
  go_loopw [4,5] (fun r i wr =>∃k:Nat,k≤xs.length∧i= int i64 k∧r= .bool false∧xs.take k=ys.take k∧Below w.heap.size w wr) (fun _ i _ => xs.length - (intOf i).toNat)
  case atStart => exact⟨0,by omega,rfl,rfl,by simp,Below.refl _ _⟩
  case round =>
   obtain⟨k,hk,rfl,rfl,ht,hbl⟩:=hrel;have HT:=hid ht;clear ht;by_cases hlt:k<xs.length
   ·have hlt2:k<ys.length:=by rw[← HL.out];exact hlt
    obtain⟨a1,e1,_,b1,g1⟩:=hx k hlt;obtain⟨a2,e2,_,b2,g2⟩:=hy k hlt2;subst e1 e2;have g1':=(hbl.cell (p:=a1.add k) b1).trans g1;have g2':=(hbl.cell (p:=a2.add k) b2).trans g2;clear g1 g2 hx hy;by_cases he:xs[k] =ys[k]
    ·have hn:=bneU8f he;have HE:=hid he;clear he;go_wp2
     go_quiet (fail)
     go_wp2
     go_roundw
     case rel => exact⟨k+1,by omega,by go_num,rfl,takeEq HT.out hlt hlt2 HE.out,Be hbl _⟩
     case measure => simp[intOf];omega
    ·have hn:=bneU8t he;go_wp2
     go_quiet (fail)
     go_wp2
     go_ret
     exact⟨Dn (by simp;intro e;subst e;exact he rfl),Be hbl _⟩
   ·have hk':k=xs.length:=by omega
    have H:=HT.out;rw[hk',List.take_length,HL.out,List.take_length]at H;have H1:=hid H;clear H hk';go_wp2
    go_ret
    exact⟨Dn (by simp[H1.out]),hbl⟩
 ·have hb:=Gt hl;go_enter Tryz.func14,Tryz.ntmps14
  go_wp2
  go_ret
  exact⟨Dn (by simp;intro e;subst e;exact hl rfl),Below.refl _ _⟩
theorem lwBig_c(v:Value)(xs:List UInt8)(fs:List Addr)(w:World)(h1:Ap w fs v xs) :
  Calls Tryz.prog 4 #[v] w fun e w' => e= .returned (.bool (decide (1048576<xs.length)))∧w=w':=by
 obtain⟨A1,c1,rfl,-⟩:=h1.form;clear h1;by_cases h:1048576<xs.length
 ·go_enter Tryz.func4,Tryz.ntmps4
  go_wp2
  go_ret
  exact⟨Dn (by simp;omega),rfl⟩
 ·go_enter Tryz.func4,Tryz.ntmps4
  go_wp2
  go_ret
  exact⟨Dn (by simp;omega),rfl⟩
theorem Hn:BU (⟨#[108,111,103]⟩:ByteArray).data.toList =true:=by decide
structure EH (w:World) (b3 b5:Nat) (s:Sh) (G i:Nat) (W:World) (d:Ao) (ca:List Value) (f:List Addr):Prop where
 kb:Blk W b5 38 ca.toArray
 rd:Af W f ca d
 far:∀a,a∈f→a.block≠b5
 rest:DA d G
 turn:d.desk.turn=(i:Int)
 wr:d.world.u=((0:Nat):Int)
 stop:d.world.stop= -1
 next:d.desk.next=((1:Nat):Int)
 she:d.world.s=s.toD
 ks:Blk W b3 25 #[int i64 s.g,int i64 s.c,int i64 s.data,int i64 s.p,int i64 s.rows,int i64 s.cap,int i64 s.b,int i64 s.q,int i64 s.t]
 be:Below w.heap.size w W
theorem EH.below {w:World} {b3 b5:Nat} {s:Sh} {G i:Nat} {W W':World} {d:Ao} {ca:List Value} {f:List Addr}(h:EH w b3 b5 s G i W d ca f)(hb:Below W.heap.size W W'):EH w b3 b5 s G i W' d ca f :=
 ⟨h.kb.below hb h.kb.lt,Aw.below Af.local_ Af.fixed h.rd hb,h.far,h.rest,h.turn,h.wr,h.stop,h.next,h.she,h.ks.below hb h.ks.lt,h.be.trans (hb.mono h.be.size)⟩
theorem EH.next_ {w:World} {b3 b5:Nat} {s:Sh} {G i g:Nat} {W:World} {d d':Ao} {ca ca':List Value} {f f':List Addr}(h:EH w b3 b5 s G i W d ca f)(hr:Af W f' ca' d')(hf:∀a,a∈f'→a.block≠b5)(hg:g<G)(hi:i<1000000000)(hd:d'=AP d (g:Int))(hl:w.heap.size≤b5)(hne:b3≠b5):EH w b3 b5 s G (i+1) (W.setCells b5 0 ca') d' ca' f':=by
 subst hd;have hw:=Af.wide _ _ _ _ hr;have hw0:=Af.wide _ _ _ _ h.rd;refine⟨h.kb.laid ca' (by rw[List.size_toArray,hw0,hw]),Af.local_ _ _ _ _ _ hr (CE _ _ 0 _ hf),hf,h.rest.turned hg (by rw[h.turn];omega),?_,h.wr,h.stop,h.next,h.she,Blk.farS _ _ _ _ hne h.ks,Below.setCells_ _ _ _ _ hl h.be⟩;show d.desk.turn+1=_
 rw[h.turn];simp
end Go.Proofs.YthbljikbnoghcaaGreat
