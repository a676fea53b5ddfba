/-
  Part 2 of the proof; the last part states and proves the statement.
-/
import Derived.Test.YtfjkoifpdoemdaaGreatI01
set_option maxHeartbeats 8000000
set_option maxRecDepth 100000
set_option linter.unusedVariables false
set_option linter.unusedSimpArgs false
open Go.Value (int)
open Go.IntKind (i64)
namespace Go.Proofs.YtfjkoifpdoemdaaGreat
open Go.RowKit Go.Sort
open Go.Lib (hid)
theorem PG(d1 d2:AW)(cs1 cs2:List Value)(f1 f2:List Addr)(w:World)(h1:D6 w f1 cs1 d1)(h2:D6 w f2 cs2 d2) :
  Calls Tryz.prog 49 #[.agg cs1.toArray,.agg cs2.toArray] w fun e w' => e= .returned (.bool (decide (d1=d2)))∧Below w.heap.size w w':=by
 obtain⟨x0,x1,x2,x3,x4,x5,x6,x7,x8⟩:=d1;obtain⟨y0,y1,y2,y3,y4,y5,y6,y7,y8⟩:=d2;dsimp only[D6]at h1 h2;obtain⟨e,-,ao0,ao1,ao2,ao3,ao4,ao5,ao6,ao7,ao8⟩:=h1;subst e;obtain⟨e,-,bo0,bo1,bo2,bo3,bo4,bo5,bo6,bo7,bo8⟩:=h2;subst e;obtain⟨rb,hrb⟩:∃rb,decide ((⟨x0,x1,x2,x3,x4,x5,x6,x7,x8⟩:AW)=⟨y0,y1,y2,y3,y4,y5,y6,y7,y8⟩)=rb:=⟨_,rfl⟩;rw[hrb];have RB:=hid hrb;clear hrb;have BB:=hid (show∀o1 o2:Obj,Below w.heap.size w ((w.alloc o1).alloc o2)from fun o1 o2 =>((Below.refl _ _).alloc (Nat.le_refl _) _).alloc (by simp) _);by_cases q:x0=y0
 case neg =>
  have e1:rb=false:=by rw[← RB.out];exact decide_eq_false (fun e => q (congrArg AW.g e))
  subst e1;have hq:(x0 != y0)=true:=bne_iff_ne.2 q;clear q;go_enter Tryz.func49,Tryz.ntmps49
  go_wp2_with fail
  go_ret
  exact⟨rfl,(BB.out _ _)⟩
 subst q;by_cases q:x1=y1
 case neg =>
  have e1:rb=false:=by rw[← RB.out];exact decide_eq_false (fun e => q (congrArg AW.c e))
  subst e1;have hq:(x1 != y1)=true:=bne_iff_ne.2 q;clear q;go_enter Tryz.func49,Tryz.ntmps49
  go_wp2_with fail
  go_ret
  exact⟨rfl,(BB.out _ _)⟩
 subst q;by_cases q:x2=y2
 case neg =>
  have e1:rb=false:=by rw[← RB.out];exact decide_eq_false (fun e => q (congrArg AW.data e))
  subst e1;have hq:(x2 != y2)=true:=bne_iff_ne.2 q;clear q;go_enter Tryz.func49,Tryz.ntmps49
  go_wp2_with fail
  go_ret
  exact⟨rfl,(BB.out _ _)⟩
 subst q;by_cases q:x3=y3
 case neg =>
  have e1:rb=false:=by rw[← RB.out];exact decide_eq_false (fun e => q (congrArg AW.p e))
  subst e1;have hq:(x3 != y3)=true:=bne_iff_ne.2 q;clear q;go_enter Tryz.func49,Tryz.ntmps49
  go_wp2_with fail
  go_ret
  exact⟨rfl,(BB.out _ _)⟩
 subst q;by_cases q:x4=y4
 case neg =>
  have e1:rb=false:=by rw[← RB.out];exact decide_eq_false (fun e => q (congrArg AW.rows e))
  subst e1;have hq:(x4 != y4)=true:=bne_iff_ne.2 q;clear q;go_enter Tryz.func49,Tryz.ntmps49
  go_wp2_with fail
  go_ret
  exact⟨rfl,(BB.out _ _)⟩
 subst q;by_cases q:x5=y5
 case neg =>
  have e1:rb=false:=by rw[← RB.out];exact decide_eq_false (fun e => q (congrArg AW.cap e))
  subst e1;have hq:(x5 != y5)=true:=bne_iff_ne.2 q;clear q;go_enter Tryz.func49,Tryz.ntmps49
  go_wp2_with fail
  go_ret
  exact⟨rfl,(BB.out _ _)⟩
 subst q;by_cases q:x6=y6
 case neg =>
  have e1:rb=false:=by rw[← RB.out];exact decide_eq_false (fun e => q (congrArg AW.b e))
  subst e1;have hq:(x6 != y6)=true:=bne_iff_ne.2 q;clear q;go_enter Tryz.func49,Tryz.ntmps49
  go_wp2_with fail
  go_ret
  exact⟨rfl,(BB.out _ _)⟩
 subst q;by_cases q:x7=y7
 case neg =>
  have e1:rb=false:=by rw[← RB.out];exact decide_eq_false (fun e => q (congrArg AW.q e))
  subst e1;have hq:(x7 != y7)=true:=bne_iff_ne.2 q;clear q;go_enter Tryz.func49,Tryz.ntmps49
  go_wp2_with fail
  go_ret
  exact⟨rfl,(BB.out _ _)⟩
 subst q;by_cases q:x8=y8
 case neg =>
  have e1:rb=false:=by rw[← RB.out];exact decide_eq_false (fun e => q (congrArg AW.t e))
  subst e1;have hq:(x8 != y8)=true:=bne_iff_ne.2 q;clear q;go_enter Tryz.func49,Tryz.ntmps49
  go_wp2_with fail
  go_ret
  exact⟨rfl,(BB.out _ _)⟩
 subst q;have e1:rb=true:=by rw[← RB.out];exact decide_eq_true rfl
 subst e1;go_enter Tryz.func49,Tryz.ntmps49
 go_wp2_with fail
 go_ret
 exact⟨rfl,(BB.out _ _)⟩
theorem PM(d1 d2:Br)(cs1 cs2:List Value)(f1 f2:List Addr)(w:World)(h1:AD w f1 cs1 d1)(h2:AD w f2 cs2 d2) :
  Calls Tryz.prog 291 #[.agg cs1.toArray,.agg cs2.toArray] w fun e w' => e= .returned (.bool (decide (d1=d2)))∧Below w.heap.size w w':=by
 obtain⟨x0,x1⟩:=d1;obtain⟨y0,y1⟩:=d2;dsimp only[AD]at h1 h2;obtain⟨av0,af0,e,-,ao0,ah0⟩:=h1;subst e;obtain⟨bv0,bf0,e,-,bo0,bh0⟩:=h2;subst e;have aH0:=hid ah0;obtain⟨aA0,ac0,rfl,-⟩:=rSl.head ah0;clear ah0;have bH0:=hid bh0;obtain⟨bA0,bc0,rfl,-⟩:=rSl.head bh0;clear bh0;obtain⟨rb,hrb⟩:∃rb,decide ((⟨x0,x1⟩:Br)=⟨y0,y1⟩)=rb:=⟨_,rfl⟩;rw[hrb];have RB:=hid hrb;clear hrb;have BB:=hid (show∀o1 o2:Obj,Below w.heap.size w ((w.alloc o1).alloc o2)from fun o1 o2 =>((Below.refl _ _).alloc (Nat.le_refl _) _).alloc (by simp) _);by_cases q:x0=y0
 case neg =>
  have e1:rb=false:=by rw[← RB.out];exact decide_eq_false (fun e => q (congrArg Br.stamp e))
  subst e1;have hq:(x0 != y0)=true:=bne_iff_ne.2 q;clear q;go_enter Tryz.func291,Tryz.ntmps291
  go_wp2_with fail
  go_ret
  exact⟨rfl,(BB.out _ _)⟩
 subst q;go_enter Tryz.func291,Tryz.ntmps291
 go_wp2_with fail
 refine(GC _ _ x1 y1 _ _ _ (rSl.below Ah.local_ Ah.fixed aH0.out (BB.out _ _)) (rSl.below Ah.local_ Ah.fixed bH0.out (BB.out _ _))).mono ?_;rintro e u1 ⟨rfl,hb⟩;have hK1:=Blk.below ((Blk.new w 196 #[int i64 x0,.slice aA0 x1.length ac0]).alloc (.cells #[int i64 x0,.slice bA0 y1.length bc0] 196)) hb (by simp;omega);have hK2:=Blk.below (Blk.new (w.alloc (.cells #[int i64 x0,.slice aA0 x1.length ac0] 196)) 196 #[int i64 x0,.slice bA0 y1.length bc0]) hb (by simp);rw[World.size_alloc]at hK2;have K1:=hid hK1;have K2:=hid hK2;clear hK1 hK2;have BB0:=BB.out;clear BB;have BB:=hid ((BB0 _ _).trans (hb.mono (BB0 _ _).size));clear hb BB0;by_cases q:x1=y1
 case neg =>
  have e1:rb=false:=by rw[← RB.out];exact decide_eq_false (fun e => q (congrArg Br.bytes e))
  subst e1;rw[decide_eq_false q];clear q;go_wp2_with fail
  go_ret
  exact⟨rfl,BB.out⟩
 rw[decide_eq_true q];subst q;have e1:rb=true:=by rw[← RB.out];exact decide_eq_true rfl
 subst e1;go_wp2_with fail
 go_ret
 exact⟨rfl,BB.out⟩
theorem Of(v1 v2:Value)(xs ys:List Br)(f1 f2:List Addr)(w:World)(h1:rSl 2 AD w f1 v1 xs)(h2:rSl 2 AD w f2 v2 ys) :
  Calls Tryz.prog 255 #[v1,v2] w fun e w' => e= .returned (.bool (decide (xs=ys)))∧Below w.heap.size w w':=by
 obtain⟨A1,c1,rfl,hc1,hm1,hx⟩:=rSl.at_ AD.fixed (by decide) h1;obtain⟨A2,c2,rfl,hc2,hm2,hy⟩:=rSl.at_ AD.fixed (by decide) h2;clear h1 h2;obtain⟨rb,hrb⟩:∃rb,decide (xs=ys)=rb:=⟨_,rfl⟩;rw[hrb];have RB:=hid hrb;clear hrb;have HX:=hid hx;have HY:=hid hy;clear hx hy;by_cases hl:xs.length=ys.length
 ·have hb:=Df hl;have HL:=hid hl;clear hl;go_enter Tryz.func255,Tryz.ntmps255
  go_wp2
  go_loopw [4,5] (fun r i wr =>∃k:Nat,k≤xs.length∧i= int i64 k∧r= .bool false∧xs.take k=ys.take k∧Below w.heap.size w wr) (fun _ i _ => xs.length - (intOf i).toNat)
  case atStart => exact⟨0,by omega,rfl,rfl,by simp,Below.refl _ _⟩
  case round =>
   obtain⟨k,hk,rfl,rfl,ht,hbl⟩:=hrel;have HT:=hid ht;clear ht;by_cases hlt:k<xs.length
   ·have hlt2:k<ys.length:=by rw[← HL.out];exact hlt
    obtain⟨a1,b1,o1,cs1,g1,e1,at1⟩:=HX.out k hlt;obtain⟨a2,b2,o2,cs2,g2,e2,at2⟩:=HY.out k hlt2;subst e1 e2;replace at1:=at1.below AD.local_ hbl
    replace at2:=at2.below AD.local_ hbl
    have HB:=hid hbl;clear hbl;clear HX HY;obtain⟨av0,af0,e,-,-,ah0⟩:=at1.reads;subst e;obtain⟨aA0,ac0,rfl,-⟩:=rSl.head ah0;clear ah0;obtain⟨bv0,bf0,e,-,-,bh0⟩:=at2.reads;subst e;obtain⟨bA0,bc0,rfl,-⟩:=rSl.head bh0;clear bh0;have hP1:=at1.place;have hP2:=at2.place;have ap0:=cell_regrown (at1.cell 0 (by simp));have ap1:=cell_regrown (at1.cell 1 (by simp));simp only[List.getElem_cons_zero,List.getElem_cons_succ,Nat.add_zero]at ap0 ap1;have bp0:=cell_regrown (at2.cell 0 (by simp));have bp1:=cell_regrown (at2.cell 1 (by simp));simp only[List.getElem_cons_zero,List.getElem_cons_succ,Nat.add_zero]at bp0 bp1;have hc:∀d os,Calls Tryz.prog 291 #[.agg #[int i64 xs[k].stamp,.slice aA0 xs[k].bytes.length ac0],.agg #[int i64 ys[k].stamp,.slice bA0 ys[k].bytes.length bc0]] (grow (redrawn wr d) os) fun e w'' => e= .returned (.bool (decide (xs[k] =ys[k])))∧∃p:Regrown,w''=grow (redrawn wr p.d) p.os :=
     fun d os => Calls.regrown_of (PM xs[k] ys[k] _ _ g1 g2 _ (AC.below AD.local_ AD.fixed at1.reads (below_regrown wr d os)) (AC.below AD.local_ AD.fixed at2.reads (below_regrown wr d os)))
    obtain⟨bb,hbb⟩:∃bb,decide (xs[k] =ys[k])=bb:=⟨_,rfl⟩;rw[hbb]at hc;have HBB:=hid hbb;clear hbb;have HC:=hid hc;clear hc;have AT1:=hid at1;have AT2:=hid at2;clear at1 at2;go_wp2_with fail
    refine wp_region_quiet_below (by kernel_rfl) (by kernel_rfl) ?_;repeat(first|go_big_quiet_step (exact HC.out _ _)|quiet_step (exact HC.out _ _))
    refine wpQuiet_nil ?_;intro _ hw';obtain⟨⟨dq,osq⟩,hw''⟩:=hw';subst hw'';have HB1:=hid (HB.out.trans ((below_regrown wr dq osq).mono HB.out.size));cases bb with
    |true =>
     have he:=of_decide_eq_true HBB.out;have HE:=hid he;clear he;go_wp2_with fail
     go_roundw
     case rel => exact⟨k+1,by omega,by go_num,rfl,Hc HT.out hlt hlt2 HE.out,HB1.out⟩
     case measure => simp[intOf];omega
    |false =>
     have he:=of_decide_eq_false HBB.out;have e1:rb=false:=by rw[← RB.out];exact decide_eq_false (fun e => he (by subst e;rfl))
     subst e1;clear he;go_wp2_with fail
     go_ret
     exact⟨rfl,HB1.out⟩
   ·have hk':k=xs.length:=by omega
    have H:=HT.out;rw[hk',List.take_length,HL.out,List.take_length]at H;have e1:rb=true:=by rw[← RB.out];exact decide_eq_true H
    subst e1;have HB:=hid hbl;clear H hk' HX HY hbl;go_wp2
    go_ret
    exact⟨rfl,HB.out⟩
 ·have hb:=Dk hl;have e1:rb=false:=by rw[← RB.out];exact decide_eq_false (fun e => hl (by rw[e]))
  subst e1;clear HX HY;go_enter Tryz.func255,Tryz.ntmps255
  go_wp2
  go_ret
  exact⟨rfl,Below.refl _ _⟩
theorem PC(d1 d2:AL)(cs1 cs2:List Value)(f1 f2:List Addr)(w:World)(h1:Aj w f1 cs1 d1)(h2:Aj w f2 cs2 d2) :
  Calls Tryz.prog 183 #[.agg cs1.toArray,.agg cs2.toArray] w fun e w' => e= .returned (.bool (decide (d1=d2)))∧Below w.heap.size w w':=by
 obtain⟨x0,x1⟩:=d1;obtain⟨y0,y1⟩:=d2;dsimp only[Aj]at h1 h2;obtain⟨av0,af0,e,-,ah0⟩:=h1;subst e;obtain⟨bv0,bf0,e,-,bh0⟩:=h2;subst e;have aH0:=hid ah0;obtain⟨aA0,ac0,rfl,-⟩:=rSl.head ah0;clear ah0;have bH0:=hid bh0;obtain⟨bA0,bc0,rfl,-⟩:=rSl.head bh0;clear bh0;obtain⟨rb,hrb⟩:∃rb,decide ((⟨x0,x1⟩:AL)=⟨y0,y1⟩)=rb:=⟨_,rfl⟩;rw[hrb];have RB:=hid hrb;clear hrb;have BB:=hid (show∀o1 o2:Obj,Below w.heap.size w ((w.alloc o1).alloc o2)from fun o1 o2 =>((Below.refl _ _).alloc (Nat.le_refl _) _).alloc (by simp) _);by_cases q:x0=y0
 case neg =>
  have e1:rb=false:=by rw[← RB.out];exact decide_eq_false (fun e => q (congrArg AL.wiped e))
  subst e1;have hq:(!x0 == y0)=true:=by simpa using q
  clear q;go_enter Tryz.func183,Tryz.ntmps183
  go_wp2_with fail
  go_ret
  exact⟨rfl,(BB.out _ _)⟩
 subst q;go_enter Tryz.func183,Tryz.ntmps183
 go_wp2_with fail
 refine(Of _ _ x1 y1 _ _ _ (rSl.below AD.local_ AD.fixed aH0.out (BB.out _ _)) (rSl.below AD.local_ AD.fixed bH0.out (BB.out _ _))).mono ?_;rintro e u1 ⟨rfl,hb⟩;have hK1:=Blk.below ((Blk.new w 194 #[.bool x0,.slice aA0 x1.length ac0]).alloc (.cells #[.bool x0,.slice bA0 y1.length bc0] 194)) hb (by simp;omega);have hK2:=Blk.below (Blk.new (w.alloc (.cells #[.bool x0,.slice aA0 x1.length ac0] 194)) 194 #[.bool x0,.slice bA0 y1.length bc0]) hb (by simp);rw[World.size_alloc]at hK2;have K1:=hid hK1;have K2:=hid hK2;clear hK1 hK2;have BB0:=BB.out;clear BB;have BB:=hid ((BB0 _ _).trans (hb.mono (BB0 _ _).size));clear hb BB0;by_cases q:x1=y1
 case neg =>
  have e1:rb=false:=by rw[← RB.out];exact decide_eq_false (fun e => q (congrArg AL.blocks e))
  subst e1;rw[decide_eq_false q];clear q;go_wp2_with fail
  go_ret
  exact⟨rfl,BB.out⟩
 rw[decide_eq_true q];subst q;have e1:rb=true:=by rw[← RB.out];exact decide_eq_true rfl
 subst e1;go_wp2_with fail
 go_ret
 exact⟨rfl,BB.out⟩
theorem N3(v1 v2:Value)(xs ys:List AL)(f1 f2:List Addr)(w:World)(h1:rSl 2 Aj w f1 v1 xs)(h2:rSl 2 Aj w f2 v2 ys) :
  Calls Tryz.prog 106 #[v1,v2] w fun e w' => e= .returned (.bool (decide (xs=ys)))∧Below w.heap.size w w':=by
 obtain⟨A1,c1,rfl,hc1,hm1,hx⟩:=rSl.at_ Aj.fixed (by decide) h1;obtain⟨A2,c2,rfl,hc2,hm2,hy⟩:=rSl.at_ Aj.fixed (by decide) h2;clear h1 h2;obtain⟨rb,hrb⟩:∃rb,decide (xs=ys)=rb:=⟨_,rfl⟩;rw[hrb];have RB:=hid hrb;clear hrb;have HX:=hid hx;have HY:=hid hy;clear hx hy;by_cases hl:xs.length=ys.length
 ·have hb:=Df hl;have HL:=hid hl;clear hl;go_enter Tryz.func106,Tryz.ntmps106
  go_wp2
  go_loopw [4,5] (fun r i wr =>∃k:Nat,k≤xs.length∧i= int i64 k∧r= .bool false∧xs.take k=ys.take k∧Below w.heap.size w wr) (fun _ i _ => xs.length - (intOf i).toNat)
  case atStart => exact⟨0,by omega,rfl,rfl,by simp,Below.refl _ _⟩
  case round =>
   obtain⟨k,hk,rfl,rfl,ht,hbl⟩:=hrel;have HT:=hid ht;clear ht;by_cases hlt:k<xs.length
   ·have hlt2:k<ys.length:=by rw[← HL.out];exact hlt
    obtain⟨a1,b1,o1,cs1,g1,e1,at1⟩:=HX.out k hlt;obtain⟨a2,b2,o2,cs2,g2,e2,at2⟩:=HY.out k hlt2;subst e1 e2;replace at1:=at1.below Aj.local_ hbl
    replace at2:=at2.below Aj.local_ hbl
    have HB:=hid hbl;clear hbl;clear HX HY;obtain⟨av0,af0,e,-,ah0⟩:=at1.reads;subst e;obtain⟨aA0,ac0,rfl,-⟩:=rSl.head ah0;clear ah0;obtain⟨bv0,bf0,e,-,bh0⟩:=at2.reads;subst e;obtain⟨bA0,bc0,rfl,-⟩:=rSl.head bh0;clear bh0;have hP1:=at1.place;have hP2:=at2.place;have ap0:=cell_regrown (at1.cell 0 (by simp));have ap1:=cell_regrown (at1.cell 1 (by simp));simp only[List.getElem_cons_zero,List.getElem_cons_succ,Nat.add_zero]at ap0 ap1;have bp0:=cell_regrown (at2.cell 0 (by simp));have bp1:=cell_regrown (at2.cell 1 (by simp));simp only[List.getElem_cons_zero,List.getElem_cons_succ,Nat.add_zero]at bp0 bp1;have hc:∀d os,Calls Tryz.prog 183 #[.agg #[.bool xs[k].wiped,.slice aA0 xs[k].blocks.length ac0],.agg #[.bool ys[k].wiped,.slice bA0 ys[k].blocks.length bc0]] (grow (redrawn wr d) os) fun e w'' => e= .returned (.bool (decide (xs[k] =ys[k])))∧∃p:Regrown,w''=grow (redrawn wr p.d) p.os :=
     fun d os => Calls.regrown_of (PC xs[k] ys[k] _ _ g1 g2 _ (AC.below Aj.local_ Aj.fixed at1.reads (below_regrown wr d os)) (AC.below Aj.local_ Aj.fixed at2.reads (below_regrown wr d os)))
    obtain⟨bb,hbb⟩:∃bb,decide (xs[k] =ys[k])=bb:=⟨_,rfl⟩;rw[hbb]at hc;have HBB:=hid hbb;clear hbb;have HC:=hid hc;clear hc;have AT1:=hid at1;have AT2:=hid at2;clear at1 at2;go_wp2_with fail
    refine wp_region_quiet_below (by kernel_rfl) (by kernel_rfl) ?_;repeat(first|go_big_quiet_step (exact HC.out _ _)|quiet_step (exact HC.out _ _))
    refine wpQuiet_nil ?_;intro _ hw';obtain⟨⟨dq,osq⟩,hw''⟩:=hw';subst hw'';have HB1:=hid (HB.out.trans ((below_regrown wr dq osq).mono HB.out.size));cases bb with
    |true =>
     have he:=of_decide_eq_true HBB.out;have HE:=hid he;clear he;go_wp2_with fail
     go_roundw
     case rel => exact⟨k+1,by omega,by go_num,rfl,Hc HT.out hlt hlt2 HE.out,HB1.out⟩
     case measure => simp[intOf];omega
    |false =>
     have he:=of_decide_eq_false HBB.out;have e1:rb=false:=by rw[← RB.out];exact decide_eq_false (fun e => he (by subst e;rfl))
     subst e1;clear he;go_wp2_with fail
     go_ret
     exact⟨rfl,HB1.out⟩
   ·have hk':k=xs.length:=by omega
    have H:=HT.out;rw[hk',List.take_length,HL.out,List.take_length]at H;have e1:rb=true:=by rw[← RB.out];exact decide_eq_true H
    subst e1;have HB:=hid hbl;clear H hk' HX HY hbl;go_wp2
    go_ret
    exact⟨rfl,HB.out⟩
 ·have hb:=Dk hl;have e1:rb=false:=by rw[← RB.out];exact decide_eq_false (fun e => hl (by rw[e]))
  subst e1;clear HX HY;go_enter Tryz.func106,Tryz.ntmps106
  go_wp2
  go_ret
  exact⟨rfl,Below.refl _ _⟩
theorem NF(v1 v2:Value)(xs ys:List (List AL))(f1 f2:List Addr)(w:World)(h1:rSl 1 (Ak 2 Aj) w f1 v1 xs)(h2:rSl 1 (Ak 2 Aj) w f2 v2 ys) :
  Calls Tryz.prog 50 #[v1,v2] w fun e w' => e= .returned (.bool (decide (xs=ys)))∧Below w.heap.size w w':=by
 obtain⟨A1,c1,rfl,hc1,hm1,hx⟩:=rSl.at_ (Ak.fixed Aj.fixed) (by decide) h1;obtain⟨A2,c2,rfl,hc2,hm2,hy⟩:=rSl.at_ (Ak.fixed Aj.fixed) (by decide) h2;clear h1 h2;obtain⟨rb,hrb⟩:∃rb,decide (xs=ys)=rb:=⟨_,rfl⟩;rw[hrb];have RB:=hid hrb;clear hrb;have HX:=hid hx;have HY:=hid hy;clear hx hy;by_cases hl:xs.length=ys.length
 ·have hb:=Df hl;have HL:=hid hl;clear hl;go_enter Tryz.func50,Tryz.ntmps50
  go_wp2
  go_loopw [4,5] (fun r i wr =>∃k:Nat,k≤xs.length∧i= int i64 k∧r= .bool false∧xs.take k=ys.take k∧Below w.heap.size w wr) (fun _ i _ => xs.length - (intOf i).toNat)
  case atStart => exact⟨0,by omega,rfl,rfl,by simp,Below.refl _ _⟩
  case round =>
   obtain⟨k,hk,rfl,rfl,ht,hbl⟩:=hrel;have HT:=hid ht;clear ht;by_cases hlt:k<xs.length
   ·have hlt2:k<ys.length:=by rw[← HL.out];exact hlt
    obtain⟨a1,b1,o1,cs1,g1,e1,at1⟩:=HX.out k hlt;obtain⟨a2,b2,o2,cs2,g2,e2,at2⟩:=HY.out k hlt2;subst e1 e2;replace at1:=at1.below (Ak.local_ Aj.local_) hbl
    replace at2:=at2.below (Ak.local_ Aj.local_) hbl
    have HB:=hid hbl;clear hbl;clear HX HY;obtain⟨av0,e,ah0⟩:=at1.reads;subst e;obtain⟨aA0,ac0,rfl,-⟩:=rSl.head ah0;clear ah0;obtain⟨bv0,e,bh0⟩:=at2.reads;subst e;obtain⟨bA0,bc0,rfl,-⟩:=rSl.head bh0;clear bh0;have hP1:=at1.place;have hP2:=at2.place;simp only[Nat.mul_one]at hP1 hP2;have ap0:=cell_regrown (at1.cell 0 (by simp));simp only[List.getElem_cons_zero,Nat.add_zero]at ap0;have bp0:=cell_regrown (at2.cell 0 (by simp));simp only[List.getElem_cons_zero,Nat.add_zero]at bp0;have hc:∀d os,Calls Tryz.prog 106 #[.slice aA0 xs[k].length ac0,.slice bA0 ys[k].length bc0] (grow (redrawn wr d) os) fun e w'' => e= .returned (.bool (decide (xs[k] =ys[k])))∧∃p:Regrown,w''=grow (redrawn wr p.d) p.os :=
     fun d os => Calls.regrown_of (N3 _ _ xs[k] ys[k] g1 g2 _ (rSl.below Aj.local_ Aj.fixed (Ak.one at1.reads) (below_regrown wr d os)) (rSl.below Aj.local_ Aj.fixed (Ak.one at2.reads) (below_regrown wr d os)))
    obtain⟨bb,hbb⟩:∃bb,decide (xs[k] =ys[k])=bb:=⟨_,rfl⟩;rw[hbb]at hc;have HBB:=hid hbb;clear hbb;have HC:=hid hc;clear hc;have AT1:=hid at1;have AT2:=hid at2;clear at1 at2;go_wp2_with fail
    refine wp_region_quiet_below (by kernel_rfl) (by kernel_rfl) ?_;repeat(first|go_big_quiet_step (exact HC.out _ _)|quiet_step (exact HC.out _ _))
    refine wpQuiet_nil ?_;intro _ hw';obtain⟨⟨dq,osq⟩,hw''⟩:=hw';subst hw'';have HB1:=hid (HB.out.trans ((below_regrown wr dq osq).mono HB.out.size));cases bb with
    |true =>
     have he:=of_decide_eq_true HBB.out;have HE:=hid he;clear he;go_wp2_with fail
     go_roundw
     case rel => exact⟨k+1,by omega,by go_num,rfl,Hc HT.out hlt hlt2 HE.out,HB1.out⟩
     case measure => simp[intOf];omega
    |false =>
     have he:=of_decide_eq_false HBB.out;have e1:rb=false:=by rw[← RB.out];exact decide_eq_false (fun e => he (by subst e;rfl))
     subst e1;clear he;go_wp2_with fail
     go_ret
     exact⟨rfl,HB1.out⟩
   ·have hk':k=xs.length:=by omega
    have H:=HT.out;rw[hk',List.take_length,HL.out,List.take_length]at H;have e1:rb=true:=by rw[← RB.out];exact decide_eq_true H
    subst e1;have HB:=hid hbl;clear H hk' HX HY hbl;go_wp2
    go_ret
    exact⟨rfl,HB.out⟩
 ·have hb:=Dk hl;have e1:rb=false:=by rw[← RB.out];exact decide_eq_false (fun e => hl (by rw[e]))
  subst e1;clear HX HY;go_enter Tryz.func50,Tryz.ntmps50
  go_wp2
  go_ret
  exact⟨rfl,Below.refl _ _⟩
theorem eqRec_c(d1 d2:Ai)(cs1 cs2:List Value)(f1 f2:List Addr)(w:World)(h1:Ac w f1 cs1 d1)(h2:Ac w f2 cs2 d2) :
  Calls Tryz.prog 256 #[.agg cs1.toArray,.agg cs2.toArray] w fun e w' => e= .returned (.bool (decide (d1=d2)))∧Below w.heap.size w w':=by
 obtain⟨x0,x1,x2,x3,x4,x5,x6,x7,x8⟩:=d1;obtain⟨y0,y1,y2,y3,y4,y5,y6,y7,y8⟩:=d2;dsimp only[Ac]at h1 h2;obtain⟨av0,av1,av2,af0,af1,af2,e,-,ao0,ao1,ao2,ao3,ao4,ao5,ah0,ah1,ah2⟩:=h1;subst e;obtain⟨bv0,bv1,bv2,bf0,bf1,bf2,e,-,bo0,bo1,bo2,bo3,bo4,bo5,bh0,bh1,bh2⟩:=h2;subst e;have aH0:=hid ah0;obtain⟨aA0,ac0,rfl,-⟩:=rSl.head ah0;clear ah0;have aH1:=hid ah1;obtain⟨aA1,ac1,rfl,-⟩:=rSl.head ah1;clear ah1;have aH2:=hid ah2;obtain⟨aA2,ac2,rfl,-⟩:=rSl.head ah2;clear ah2;have bH0:=hid bh0;obtain⟨bA0,bc0,rfl,-⟩:=rSl.head bh0;clear bh0;have bH1:=hid bh1;obtain⟨bA1,bc1,rfl,-⟩:=rSl.head bh1;clear bh1;have bH2:=hid bh2;obtain⟨bA2,bc2,rfl,-⟩:=rSl.head bh2;clear bh2;obtain⟨rb,hrb⟩:∃rb,decide ((⟨x0,x1,x2,x3,x4,x5,x6,x7,x8⟩:Ai)=⟨y0,y1,y2,y3,y4,y5,y6,y7,y8⟩)=rb:=⟨_,rfl⟩;rw[hrb];have RB:=hid hrb;clear hrb;have BB:=hid (show∀o1 o2:Obj,Below w.heap.size w ((w.alloc o1).alloc o2)from fun o1 o2 =>((Below.refl _ _).alloc (Nat.le_refl _) _).alloc (by simp) _);by_cases q:x0=y0
 case neg =>
  have e1:rb=false:=by rw[← RB.out];exact decide_eq_false (fun e => q (congrArg Ai.kind e))
  subst e1;have hq:(x0 != y0)=true:=bne_iff_ne.2 q;clear q;go_enter Tryz.func256,Tryz.ntmps256
  go_wp2_with fail
  go_ret
  exact⟨rfl,(BB.out _ _)⟩
 subst q;by_cases q:x1=y1
 case neg =>
  have e1:rb=false:=by rw[← RB.out];exact decide_eq_false (fun e => q (congrArg Ai.seq e))
  subst e1;have hq:(x1 != y1)=true:=bne_iff_ne.2 q;clear q;go_enter Tryz.func256,Tryz.ntmps256
  go_wp2_with fail
  go_ret
  exact⟨rfl,(BB.out _ _)⟩
 subst q;by_cases q:x2=y2
 case neg =>
  have e1:rb=false:=by rw[← RB.out];exact decide_eq_false (fun e => q (congrArg Ai.name e))
  subst e1;have hq:=LW q;clear q;go_enter Tryz.func256,Tryz.ntmps256
  go_wp2_with fail
  go_ret
  exact⟨rfl,(BB.out _ _)⟩
 subst q;have hs2:=strNeq_f (rfl:x2=x2);by_cases q:x3=y3
 case neg =>
  have e1:rb=false:=by rw[← RB.out];exact decide_eq_false (fun e => q (congrArg Ai.length e))
  subst e1;have hq:(x3 != y3)=true:=bne_iff_ne.2 q;clear q;go_enter Tryz.func256,Tryz.ntmps256
  go_wp2_with fail
  go_ret
  exact⟨rfl,(BB.out _ _)⟩
 subst q;by_cases q:x4=y4
 case neg =>
  have e1:rb=false:=by rw[← RB.out];exact decide_eq_false (fun e => q (congrArg Ai.group e))
  subst e1;have hq:(x4 != y4)=true:=bne_iff_ne.2 q;clear q;go_enter Tryz.func256,Tryz.ntmps256
  go_wp2_with fail
  go_ret
  exact⟨rfl,(BB.out _ _)⟩
 subst q;by_cases q:x5=y5
 case neg =>
  have e1:rb=false:=by rw[← RB.out];exact decide_eq_false (fun e => q (congrArg Ai.row e))
  subst e1;have hq:(x5 != y5)=true:=bne_iff_ne.2 q;clear q;go_enter Tryz.func256,Tryz.ntmps256
  go_wp2_with fail
  go_ret
  exact⟨rfl,(BB.out _ _)⟩
 subst q;go_enter Tryz.func256,Tryz.ntmps256
 go_wp2_with fail
 refine(J6 _ _ x6 y6 _ _ _ (rSl.below Ay.local_ Ay.fixed aH0.out (BB.out _ _)) (rSl.below Ay.local_ Ay.fixed bH0.out (BB.out _ _))).mono ?_;rintro e u6 ⟨rfl,hb⟩;have hK1:=Blk.below ((Blk.new w 119 #[int i64 x0,int i64 x1,.string x2,int i64 x3,int i64 x4,int i64 x5,.slice aA0 x6.length ac0,.slice aA1 x7.length ac1,.slice aA2 x8.length ac2]).alloc (.cells #[int i64 x0,int i64 x1,.string x2,int i64 x3,int i64 x4,int i64 x5,.slice bA0 y6.length bc0,.slice bA1 y7.length bc1,.slice bA2 y8.length bc2] 119)) hb (by simp;omega);have hK2:=Blk.below (Blk.new (w.alloc (.cells #[int i64 x0,int i64 x1,.string x2,int i64 x3,int i64 x4,int i64 x5,.slice aA0 x6.length ac0,.slice aA1 x7.length ac1,.slice aA2 x8.length ac2] 119)) 119 #[int i64 x0,int i64 x1,.string x2,int i64 x3,int i64 x4,int i64 x5,.slice bA0 y6.length bc0,.slice bA1 y7.length bc1,.slice bA2 y8.length bc2]) hb (by simp);rw[World.size_alloc]at hK2;have K1:=hid hK1;have K2:=hid hK2;have k1_7:=Blk.cell hK1 7;have k2_7:=Blk.cell hK2 7;have k1_8:=Blk.cell hK1 8;have k2_8:=Blk.cell hK2 8;simp only[List.getElem?_toArray,List.getElem?_cons_zero,List.getElem?_cons_succ]at k1_7 k2_7 k1_8 k2_8;clear hK1 hK2;have BB0:=BB.out;clear BB;have BB:=hid ((BB0 _ _).trans (hb.mono (BB0 _ _).size));clear hb BB0;by_cases q:x6=y6
 case neg =>
  have e1:rb=false:=by rw[← RB.out];exact decide_eq_false (fun e => q (congrArg Ai.rows e))
  subst e1;rw[decide_eq_false q];clear q;go_wp2_with fail
  go_ret
  exact⟨rfl,BB.out⟩
 rw[decide_eq_true q];subst q;go_wp2_with fail
 refine(GC _ _ x7 y7 _ _ _ (rSl.below Ah.local_ Ah.fixed aH1.out BB.out) (rSl.below Ah.local_ Ah.fixed bH1.out BB.out)).mono ?_;rintro e u7 ⟨rfl,hb⟩;have hK1:=Blk.below K1.out hb K1.out.lt;have hK2:=Blk.below K2.out hb K2.out.lt;clear K1 K2 k1_7 k2_7 k1_8 k2_8;have K1:=hid hK1;have K2:=hid hK2;have k1_8:=Blk.cell hK1 8;have k2_8:=Blk.cell hK2 8;simp only[List.getElem?_toArray,List.getElem?_cons_zero,List.getElem?_cons_succ]at k1_8 k2_8;clear hK1 hK2;replace BB:=hid (BB.out.trans (hb.mono (BB.out).size));clear hb
 by_cases q:x7=y7
 case neg =>
  have e1:rb=false:=by rw[← RB.out];exact decide_eq_false (fun e => q (congrArg Ai.data e))
  subst e1;rw[decide_eq_false q];clear q;go_wp2_with fail
  go_ret
  exact⟨rfl,BB.out⟩
 rw[decide_eq_true q];subst q;go_wp2_with fail
 refine(GC _ _ x8 y8 _ _ _ (rSl.below Ah.local_ Ah.fixed aH2.out BB.out) (rSl.below Ah.local_ Ah.fixed bH2.out BB.out)).mono ?_;rintro e u8 ⟨rfl,hb⟩;have hK1:=Blk.below K1.out hb K1.out.lt;have hK2:=Blk.below K2.out hb K2.out.lt;clear K1 K2 k1_8 k2_8;have K1:=hid hK1;have K2:=hid hK2;clear hK1 hK2;replace BB:=hid (BB.out.trans (hb.mono (BB.out).size));clear hb
 by_cases q:x8=y8
 case neg =>
  have e1:rb=false:=by rw[← RB.out];exact decide_eq_false (fun e => q (congrArg Ai.delta e))
  subst e1;rw[decide_eq_false q];clear q;go_wp2_with fail
  go_ret
  exact⟨rfl,BB.out⟩
 rw[decide_eq_true q];subst q;have e1:rb=true:=by rw[← RB.out];exact decide_eq_true rfl
 subst e1;go_wp2_with fail
 go_ret
 exact⟨rfl,BB.out⟩
theorem eqRecS_c(v1 v2:Value)(xs ys:List Ai)(f1 f2:List Addr)(w:World)(h1:rSl 9 Ac w f1 v1 xs)(h2:rSl 9 Ac w f2 v2 ys) :
  Calls Tryz.prog 184 #[v1,v2] w fun e w' => e= .returned (.bool (decide (xs=ys)))∧Below w.heap.size w w':=by
 obtain⟨A1,c1,rfl,hc1,hm1,hx⟩:=rSl.at_ Ac.fixed (by decide) h1;obtain⟨A2,c2,rfl,hc2,hm2,hy⟩:=rSl.at_ Ac.fixed (by decide) h2;clear h1 h2;obtain⟨rb,hrb⟩:∃rb,decide (xs=ys)=rb:=⟨_,rfl⟩;rw[hrb];have RB:=hid hrb;clear hrb;have HX:=hid hx;have HY:=hid hy;clear hx hy;by_cases hl:xs.length=ys.length
 ·have hb:=Df hl;have HL:=hid hl;clear hl;go_enter Tryz.func184,Tryz.ntmps184
  go_wp2
  go_loopw [4,5] (fun r i wr =>∃k:Nat,k≤xs.length∧i= int i64 k∧r= .bool false∧xs.take k=ys.take k∧Below w.heap.size w wr) (fun _ i _ => xs.length - (intOf i).toNat)
  case atStart => exact⟨0,by omega,rfl,rfl,by simp,Below.refl _ _⟩
  case round =>
   obtain⟨k,hk,rfl,rfl,ht,hbl⟩:=hrel;have HT:=hid ht;clear ht;by_cases hlt:k<xs.length
   ·have hlt2:k<ys.length:=by rw[← HL.out];exact hlt
    obtain⟨a1,b1,o1,cs1,g1,e1,at1⟩:=HX.out k hlt;obtain⟨a2,b2,o2,cs2,g2,e2,at2⟩:=HY.out k hlt2;subst e1 e2;replace at1:=at1.below Ac.local_ hbl
    replace at2:=at2.below Ac.local_ hbl
    have HB:=hid hbl;clear hbl;clear HX HY;obtain⟨av0,av1,av2,af0,af1,af2,e,-,-,-,-,-,-,-,ah0,ah1,ah2⟩:=at1.reads;subst e;obtain⟨aA0,ac0,rfl,-⟩:=rSl.head ah0;obtain⟨aA1,ac1,rfl,-⟩:=rSl.head ah1;obtain⟨aA2,ac2,rfl,-⟩:=rSl.head ah2;clear ah0 ah1 ah2;obtain⟨bv0,bv1,bv2,bf0,bf1,bf2,e,-,-,-,-,-,-,-,bh0,bh1,bh2⟩:=at2.reads;subst e;obtain⟨bA0,bc0,rfl,-⟩:=rSl.head bh0;obtain⟨bA1,bc1,rfl,-⟩:=rSl.head bh1;obtain⟨bA2,bc2,rfl,-⟩:=rSl.head bh2;clear bh0 bh1 bh2;have hP1:=at1.place;have hP2:=at2.place;have ap0:=cell_regrown (at1.cell 0 (by simp));have ap1:=cell_regrown (at1.cell 1 (by simp));have ap2:=cell_regrown (at1.cell 2 (by simp));have ap3:=cell_regrown (at1.cell 3 (by simp));have ap4:=cell_regrown (at1.cell 4 (by simp));have ap5:=cell_regrown (at1.cell 5 (by simp));have ap6:=cell_regrown (at1.cell 6 (by simp));have ap7:=cell_regrown (at1.cell 7 (by simp));have ap8:=cell_regrown (at1.cell 8 (by simp));simp only[List.getElem_cons_zero,List.getElem_cons_succ,Nat.add_zero]at ap0 ap1 ap2 ap3 ap4 ap5 ap6 ap7 ap8;have bp0:=cell_regrown (at2.cell 0 (by simp));have bp1:=cell_regrown (at2.cell 1 (by simp));have bp2:=cell_regrown (at2.cell 2 (by simp));have bp3:=cell_regrown (at2.cell 3 (by simp));have bp4:=cell_regrown (at2.cell 4 (by simp));have bp5:=cell_regrown (at2.cell 5 (by simp));have bp6:=cell_regrown (at2.cell 6 (by simp));have bp7:=cell_regrown (at2.cell 7 (by simp));have bp8:=cell_regrown (at2.cell 8 (by simp));simp only[List.getElem_cons_zero,List.getElem_cons_succ,Nat.add_zero]at bp0 bp1 bp2 bp3 bp4 bp5 bp6 bp7 bp8;have hc:∀d os,Calls Tryz.prog 256 #[.agg #[int i64 xs[k].kind,int i64 xs[k].seq,.string xs[k].name,int i64 xs[k].length,int i64 xs[k].group,int i64 xs[k].row,.slice aA0 xs[k].rows.length ac0,.slice aA1 xs[k].data.length ac1,.slice aA2 xs[k].delta.length ac2],.agg #[int i64 ys[k].kind,int i64 ys[k].seq,.string ys[k].name,int i64 ys[k].length,int i64 ys[k].group,int i64 ys[k].row,.slice bA0 ys[k].rows.length bc0,.slice bA1 ys[k].data.length bc1,.slice bA2 ys[k].delta.length bc2]] (grow (redrawn wr d) os) fun e w'' => e= .returned (.bool (decide (xs[k] =ys[k])))∧∃p:Regrown,w''=grow (redrawn wr p.d) p.os :=
     fun d os => Calls.regrown_of (eqRec_c xs[k] ys[k] _ _ g1 g2 _ (AC.below Ac.local_ Ac.fixed at1.reads (below_regrown wr d os)) (AC.below Ac.local_ Ac.fixed at2.reads (below_regrown wr d os)))
    obtain⟨bb,hbb⟩:∃bb,decide (xs[k] =ys[k])=bb:=⟨_,rfl⟩;rw[hbb]at hc;have HBB:=hid hbb;clear hbb;have HC:=hid hc;clear hc;have AT1:=hid at1;have AT2:=hid at2;clear at1 at2;go_wp2_with fail
    refine wp_region_quiet_below (by kernel_rfl) (by kernel_rfl) ?_;repeat(first|go_big_quiet_step (exact HC.out _ _)|quiet_step (exact HC.out _ _))
    refine wpQuiet_nil ?_;intro _ hw';obtain⟨⟨dq,osq⟩,hw''⟩:=hw';subst hw'';have HB1:=hid (HB.out.trans ((below_regrown wr dq osq).mono HB.out.size));cases bb with
    |true =>
     have he:=of_decide_eq_true HBB.out;have HE:=hid he;clear he;go_wp2_with fail
     go_roundw
     case rel => exact⟨k+1,by omega,by go_num,rfl,Hc HT.out hlt hlt2 HE.out,HB1.out⟩
     case measure => simp[intOf];omega
    |false =>
     have he:=of_decide_eq_false HBB.out;have e1:rb=false:=by rw[← RB.out];exact decide_eq_false (fun e => he (by subst e;rfl))
     subst e1;clear he;go_wp2_with fail
     go_ret
     exact⟨rfl,HB1.out⟩
   ·have hk':k=xs.length:=by omega
    have H:=HT.out;rw[hk',List.take_length,HL.out,List.take_length]at H;have e1:rb=true:=by rw[← RB.out];exact decide_eq_true H
    subst e1;have HB:=hid hbl;clear H hk' HX HY hbl;go_wp2
    go_ret
    exact⟨rfl,HB.out⟩
 ·have hb:=Dk hl;have e1:rb=false:=by rw[← RB.out];exact decide_eq_false (fun e => hl (by rw[e]))
  subst e1;clear HX HY;go_enter Tryz.func184,Tryz.ntmps184
  go_wp2
  go_ret
  exact⟨rfl,Below.refl _ _⟩
theorem eqTape_c(d1 d2:AQ)(cs1 cs2:List Value)(f1 f2:List Addr)(w:World)(h1:Aw w f1 cs1 d1)(h2:Aw w f2 cs2 d2) :
  Calls Tryz.prog 107 #[.agg cs1.toArray,.agg cs2.toArray] w fun e w' => e= .returned (.bool (decide (d1=d2)))∧Below w.heap.size w w':=by
 obtain⟨x0,x1⟩:=d1;obtain⟨y0,y1⟩:=d2;dsimp only[Aw]at h1 h2;obtain⟨av0,af0,e,-,ah0⟩:=h1;subst e;obtain⟨bv0,bf0,e,-,bh0⟩:=h2;subst e;have aH0:=hid ah0;obtain⟨aA0,ac0,rfl,-⟩:=rSl.head ah0;clear ah0;have bH0:=hid bh0;obtain⟨bA0,bc0,rfl,-⟩:=rSl.head bh0;clear bh0;obtain⟨rb,hrb⟩:∃rb,decide ((⟨x0,x1⟩:AQ)=⟨y0,y1⟩)=rb:=⟨_,rfl⟩;rw[hrb];have RB:=hid hrb;clear hrb;have BB:=hid (show∀o1 o2:Obj,Below w.heap.size w ((w.alloc o1).alloc o2)from fun o1 o2 =>((Below.refl _ _).alloc (Nat.le_refl _) _).alloc (by simp) _);by_cases q:x0=y0
 case neg =>
  have e1:rb=false:=by rw[← RB.out];exact decide_eq_false (fun e => q (congrArg AQ.wiped e))
  subst e1;have hq:(!x0 == y0)=true:=by simpa using q
  clear q;go_enter Tryz.func107,Tryz.ntmps107
  go_wp2_with fail
  go_ret
  exact⟨rfl,(BB.out _ _)⟩
 subst q;go_enter Tryz.func107,Tryz.ntmps107
 go_wp2_with fail
 refine(eqRecS_c _ _ x1 y1 _ _ _ (rSl.below Ac.local_ Ac.fixed aH0.out (BB.out _ _)) (rSl.below Ac.local_ Ac.fixed bH0.out (BB.out _ _))).mono ?_;rintro e u1 ⟨rfl,hb⟩;have hK1:=Blk.below ((Blk.new w 139 #[.bool x0,.slice aA0 x1.length ac0]).alloc (.cells #[.bool x0,.slice bA0 y1.length bc0] 139)) hb (by simp;omega);have hK2:=Blk.below (Blk.new (w.alloc (.cells #[.bool x0,.slice aA0 x1.length ac0] 139)) 139 #[.bool x0,.slice bA0 y1.length bc0]) hb (by simp);rw[World.size_alloc]at hK2;have K1:=hid hK1;have K2:=hid hK2;clear hK1 hK2;have BB0:=BB.out;clear BB;have BB:=hid ((BB0 _ _).trans (hb.mono (BB0 _ _).size));clear hb BB0;by_cases q:x1=y1
 case neg =>
  have e1:rb=false:=by rw[← RB.out];exact decide_eq_false (fun e => q (congrArg AQ.recs e))
  subst e1;rw[decide_eq_false q];clear q;go_wp2_with fail
  go_ret
  exact⟨rfl,BB.out⟩
 rw[decide_eq_true q];subst q;have e1:rb=true:=by rw[← RB.out];exact decide_eq_true rfl
 subst e1;go_wp2_with fail
 go_ret
 exact⟨rfl,BB.out⟩
theorem PQ(v1 v2:Value)(xs ys:List AQ)(f1 f2:List Addr)(w:World)(h1:rSl 2 Aw w f1 v1 xs)(h2:rSl 2 Aw w f2 v2 ys) :
  Calls Tryz.prog 52 #[v1,v2] w fun e w' => e= .returned (.bool (decide (xs=ys)))∧Below w.heap.size w w':=by
 obtain⟨A1,c1,rfl,hc1,hm1,hx⟩:=rSl.at_ Aw.fixed (by decide) h1;obtain⟨A2,c2,rfl,hc2,hm2,hy⟩:=rSl.at_ Aw.fixed (by decide) h2;clear h1 h2;obtain⟨rb,hrb⟩:∃rb,decide (xs=ys)=rb:=⟨_,rfl⟩;rw[hrb];have RB:=hid hrb;clear hrb;have HX:=hid hx;have HY:=hid hy;clear hx hy;by_cases hl:xs.length=ys.length
 ·have hb:=Df hl;have HL:=hid hl;clear hl;go_enter Tryz.func52,Tryz.ntmps52
  go_wp2
  go_loopw [4,5] (fun r i wr =>∃k:Nat,k≤xs.length∧i= int i64 k∧r= .bool false∧xs.take k=ys.take k∧Below w.heap.size w wr) (fun _ i _ => xs.length - (intOf i).toNat)
  case atStart => exact⟨0,by omega,rfl,rfl,by simp,Below.refl _ _⟩
  case round =>
   obtain⟨k,hk,rfl,rfl,ht,hbl⟩:=hrel;have HT:=hid ht;clear ht;by_cases hlt:k<xs.length
   ·have hlt2:k<ys.length:=by rw[← HL.out];exact hlt
    obtain⟨a1,b1,o1,cs1,g1,e1,at1⟩:=HX.out k hlt;obtain⟨a2,b2,o2,cs2,g2,e2,at2⟩:=HY.out k hlt2;subst e1 e2;replace at1:=at1.below Aw.local_ hbl
    replace at2:=at2.below Aw.local_ hbl
    have HB:=hid hbl;clear hbl;clear HX HY;obtain⟨av0,af0,e,-,ah0⟩:=at1.reads;subst e;obtain⟨aA0,ac0,rfl,-⟩:=rSl.head ah0;clear ah0;obtain⟨bv0,bf0,e,-,bh0⟩:=at2.reads;subst e;obtain⟨bA0,bc0,rfl,-⟩:=rSl.head bh0;clear bh0;have hP1:=at1.place;have hP2:=at2.place;have ap0:=cell_regrown (at1.cell 0 (by simp));have ap1:=cell_regrown (at1.cell 1 (by simp));simp only[List.getElem_cons_zero,List.getElem_cons_succ,Nat.add_zero]at ap0 ap1;have bp0:=cell_regrown (at2.cell 0 (by simp));have bp1:=cell_regrown (at2.cell 1 (by simp));simp only[List.getElem_cons_zero,List.getElem_cons_succ,Nat.add_zero]at bp0 bp1;have hc:∀d os,Calls Tryz.prog 107 #[.agg #[.bool xs[k].wiped,.slice aA0 xs[k].recs.length ac0],.agg #[.bool ys[k].wiped,.slice bA0 ys[k].recs.length bc0]] (grow (redrawn wr d) os) fun e w'' => e= .returned (.bool (decide (xs[k] =ys[k])))∧∃p:Regrown,w''=grow (redrawn wr p.d) p.os :=
     fun d os => Calls.regrown_of (eqTape_c xs[k] ys[k] _ _ g1 g2 _ (AC.below Aw.local_ Aw.fixed at1.reads (below_regrown wr d os)) (AC.below Aw.local_ Aw.fixed at2.reads (below_regrown wr d os)))
    obtain⟨bb,hbb⟩:∃bb,decide (xs[k] =ys[k])=bb:=⟨_,rfl⟩;rw[hbb]at hc;have HBB:=hid hbb;clear hbb;have HC:=hid hc;clear hc;have AT1:=hid at1;have AT2:=hid at2;clear at1 at2;go_wp2_with fail
    refine wp_region_quiet_below (by kernel_rfl) (by kernel_rfl) ?_;repeat(first|go_big_quiet_step (exact HC.out _ _)|quiet_step (exact HC.out _ _))
    refine wpQuiet_nil ?_;intro _ hw';obtain⟨⟨dq,osq⟩,hw''⟩:=hw';subst hw'';have HB1:=hid (HB.out.trans ((below_regrown wr dq osq).mono HB.out.size));cases bb with
    |true =>
     have he:=of_decide_eq_true HBB.out;have HE:=hid he;clear he;go_wp2_with fail
     go_roundw
     case rel => exact⟨k+1,by omega,by go_num,rfl,Hc HT.out hlt hlt2 HE.out,HB1.out⟩
     case measure => simp[intOf];omega
    |false =>
     have he:=of_decide_eq_false HBB.out;have e1:rb=false:=by rw[← RB.out];exact decide_eq_false (fun e => he (by subst e;rfl))
     subst e1;clear he;go_wp2_with fail
     go_ret
     exact⟨rfl,HB1.out⟩
   ·have hk':k=xs.length:=by omega
    have H:=HT.out;rw[hk',List.take_length,HL.out,List.take_length]at H;have e1:rb=true:=by rw[← RB.out];exact decide_eq_true H
    subst e1;have HB:=hid hbl;clear H hk' HX HY hbl;go_wp2
    go_ret
    exact⟨rfl,HB.out⟩
 ·have hb:=Dk hl;have e1:rb=false:=by rw[← RB.out];exact decide_eq_false (fun e => hl (by rw[e]))
  subst e1;clear HX HY;go_enter Tryz.func52,Tryz.ntmps52
  go_wp2
  go_ret
  exact⟨rfl,Below.refl _ _⟩
theorem PV(d1 d2:Am)(cs1 cs2:List Value)(f1 f2:List Addr)(w:World)(h1:AB w f1 cs1 d1)(h2:AB w f2 cs2 d2) :
  Calls Tryz.prog 12 #[.agg cs1.toArray,.agg cs2.toArray] w fun e w' => e= .returned (.bool (decide (d1=d2)))∧Below w.heap.size w w':=by
 obtain⟨x0,x1,x2,x3,x4,x5,x6⟩:=d1;obtain⟨y0,y1,y2,y3,y4,y5,y6⟩:=d2;dsimp only[AB]at h1 h2;obtain⟨av0,av1,av2,af0,af1,af2,e,-,ao0,ao1,ao2,ao3,ao4,ao5,ao6,ao7,ao8,ao9,ao10,ah0,ah1,ah2⟩:=h1;subst e;obtain⟨bv0,bv1,bv2,bf0,bf1,bf2,e,-,bo0,bo1,bo2,bo3,bo4,bo5,bo6,bo7,bo8,bo9,bo10,bh0,bh1,bh2⟩:=h2;subst e;have aH0:=hid ah0;obtain⟨aA0,ac0,rfl,-⟩:=rSl.head ah0;clear ah0;have aH1:=hid ah1;obtain⟨aA1,ac1,rfl,-⟩:=rSl.head ah1;clear ah1;have aH2:=hid ah2;obtain⟨aA2,ac2,rfl,-⟩:=rSl.head ah2;clear ah2;have bH0:=hid bh0;obtain⟨bA0,bc0,rfl,-⟩:=rSl.head bh0;clear bh0;have bH1:=hid bh1;obtain⟨bA1,bc1,rfl,-⟩:=rSl.head bh1;clear bh1;have bH2:=hid bh2;obtain⟨bA2,bc2,rfl,-⟩:=rSl.head bh2;clear bh2;obtain⟨rb,hrb⟩:∃rb,decide ((⟨x0,x1,x2,x3,x4,x5,x6⟩:Am)=⟨y0,y1,y2,y3,y4,y5,y6⟩)=rb:=⟨_,rfl⟩;rw[hrb];have RB:=hid hrb;clear hrb;have BB:=hid (show∀o1 o2:Obj,Below w.heap.size w ((w.alloc o1).alloc o2)from fun o1 o2 =>((Below.refl _ _).alloc (Nat.le_refl _) _).alloc (by simp) _);go_enter Tryz.func12,Tryz.ntmps12
 go_wp2_with fail
 refine(PG x0 y0 _ _ _ _ _ ⟨rfl,rfl,ao0,ao1,ao2,ao3,ao4,ao5,ao6,ao7,ao8⟩ ⟨rfl,rfl,bo0,bo1,bo2,bo3,bo4,bo5,bo6,bo7,bo8⟩).mono ?_;rintro e u0 ⟨rfl,hb⟩;have hK1:=Blk.below ((Blk.new w 35 #[int i64 x0.g,int i64 x0.c,int i64 x0.data,int i64 x0.p,int i64 x0.rows,int i64 x0.cap,int i64 x0.b,int i64 x0.q,int i64 x0.t,.slice aA0 x1.length ac0,.slice aA1 x2.length ac1,.slice aA2 x3.length ac2,int i64 x4,int i64 x5,.bool x6]).alloc (.cells #[int i64 y0.g,int i64 y0.c,int i64 y0.data,int i64 y0.p,int i64 y0.rows,int i64 y0.cap,int i64 y0.b,int i64 y0.q,int i64 y0.t,.slice bA0 y1.length bc0,.slice bA1 y2.length bc1,.slice bA2 y3.length bc2,int i64 y4,int i64 y5,.bool y6] 35)) hb (by simp;omega);have hK2:=Blk.below (Blk.new (w.alloc (.cells #[int i64 x0.g,int i64 x0.c,int i64 x0.data,int i64 x0.p,int i64 x0.rows,int i64 x0.cap,int i64 x0.b,int i64 x0.q,int i64 x0.t,.slice aA0 x1.length ac0,.slice aA1 x2.length ac1,.slice aA2 x3.length ac2,int i64 x4,int i64 x5,.bool x6] 35)) 35 #[int i64 y0.g,int i64 y0.c,int i64 y0.data,int i64 y0.p,int i64 y0.rows,int i64 y0.cap,int i64 y0.b,int i64 y0.q,int i64 y0.t,.slice bA0 y1.length bc0,.slice bA1 y2.length bc1,.slice bA2 y3.length bc2,int i64 y4,int i64 y5,.bool y6]) hb (by simp);rw[World.size_alloc]at hK2;have K1:=hid hK1;have K2:=hid hK2;have k1_9:=Blk.cell hK1 9;have k2_9:=Blk.cell hK2 9;have k1_10:=Blk.cell hK1 10;have k2_10:=Blk.cell hK2 10;have k1_11:=Blk.cell hK1 11;have k2_11:=Blk.cell hK2 11;have k1_12:=Blk.cell hK1 12;have k2_12:=Blk.cell hK2 12;have k1_13:=Blk.cell hK1 13;have k2_13:=Blk.cell hK2 13;have k1_14:=Blk.cell hK1 14;have k2_14:=Blk.cell hK2 14;simp only[List.getElem?_toArray,List.getElem?_cons_zero,List.getElem?_cons_succ]at k1_9 k2_9 k1_10 k2_10 k1_11 k2_11 k1_12 k2_12 k1_13 k2_13 k1_14 k2_14;clear hK1 hK2;have BB0:=BB.out;clear BB;have BB:=hid ((BB0 _ _).trans (hb.mono (BB0 _ _).size));clear hb BB0;by_cases q:x0=y0
 case neg =>
  have e1:rb=false:=by rw[← RB.out];exact decide_eq_false (fun e => q (congrArg Am.s e))
  subst e1;rw[decide_eq_false q];clear q;go_wp2_with fail
  go_ret
  exact⟨rfl,BB.out⟩
 rw[decide_eq_true q];subst q;go_wp2_with fail
 refine(NF _ _ x1 y1 _ _ _ (rSl.below (Ak.local_ Aj.local_) (Ak.fixed Aj.fixed) aH0.out BB.out) (rSl.below (Ak.local_ Aj.local_) (Ak.fixed Aj.fixed) bH0.out BB.out)).mono ?_;rintro e u1 ⟨rfl,hb⟩;have hK1:=Blk.below K1.out hb K1.out.lt;have hK2:=Blk.below K2.out hb K2.out.lt;clear K1 K2 k1_9 k2_9 k1_10 k2_10 k1_11 k2_11 k1_12 k2_12 k1_13 k2_13 k1_14 k2_14;have K1:=hid hK1;have K2:=hid hK2;have k1_10:=Blk.cell hK1 10;have k2_10:=Blk.cell hK2 10;have k1_11:=Blk.cell hK1 11;have k2_11:=Blk.cell hK2 11;have k1_12:=Blk.cell hK1 12;have k2_12:=Blk.cell hK2 12;have k1_13:=Blk.cell hK1 13;have k2_13:=Blk.cell hK2 13;have k1_14:=Blk.cell hK1 14;have k2_14:=Blk.cell hK2 14;simp only[List.getElem?_toArray,List.getElem?_cons_zero,List.getElem?_cons_succ]at k1_10 k2_10 k1_11 k2_11 k1_12 k2_12 k1_13 k2_13 k1_14 k2_14;clear hK1 hK2;replace BB:=hid (BB.out.trans (hb.mono (BB.out).size));clear hb
 by_cases q:x1=y1
 case neg =>
  have e1:rb=false:=by rw[← RB.out];exact decide_eq_false (fun e => q (congrArg Am.g e))
  subst e1;rw[decide_eq_false q];clear q;go_wp2_with fail
  go_ret
  exact⟨rfl,BB.out⟩
 rw[decide_eq_true q];subst q;go_wp2_with fail
 refine(J6 _ _ x2 y2 _ _ _ (rSl.below Ay.local_ Ay.fixed aH1.out BB.out) (rSl.below Ay.local_ Ay.fixed bH1.out BB.out)).mono ?_;rintro e u2 ⟨rfl,hb⟩;have hK1:=Blk.below K1.out hb K1.out.lt;have hK2:=Blk.below K2.out hb K2.out.lt;clear K1 K2 k1_10 k2_10 k1_11 k2_11 k1_12 k2_12 k1_13 k2_13 k1_14 k2_14;have K1:=hid hK1;have K2:=hid hK2;have k1_11:=Blk.cell hK1 11;have k2_11:=Blk.cell hK2 11;have k1_12:=Blk.cell hK1 12;have k2_12:=Blk.cell hK2 12;have k1_13:=Blk.cell hK1 13;have k2_13:=Blk.cell hK2 13;have k1_14:=Blk.cell hK1 14;have k2_14:=Blk.cell hK2 14;simp only[List.getElem?_toArray,List.getElem?_cons_zero,List.getElem?_cons_succ]at k1_11 k2_11 k1_12 k2_12 k1_13 k2_13 k1_14 k2_14;clear hK1 hK2;replace BB:=hid (BB.out.trans (hb.mono (BB.out).size));clear hb
 by_cases q:x2=y2
 case neg =>
  have e1:rb=false:=by rw[← RB.out];exact decide_eq_false (fun e => q (congrArg Am.on e))
  subst e1;rw[decide_eq_false q];clear q;go_wp2_with fail
  go_ret
  exact⟨rfl,BB.out⟩
 rw[decide_eq_true q];subst q;go_wp2_with fail
 refine(PQ _ _ x3 y3 _ _ _ (rSl.below Aw.local_ Aw.fixed aH2.out BB.out) (rSl.below Aw.local_ Aw.fixed bH2.out BB.out)).mono ?_;rintro e u3 ⟨rfl,hb⟩;have hK1:=Blk.below K1.out hb K1.out.lt;have hK2:=Blk.below K2.out hb K2.out.lt;clear K1 K2 k1_11 k2_11 k1_12 k2_12 k1_13 k2_13 k1_14 k2_14;have K1:=hid hK1;have K2:=hid hK2;have k1_12:=Blk.cell hK1 12;have k2_12:=Blk.cell hK2 12;have k1_13:=Blk.cell hK1 13;have k2_13:=Blk.cell hK2 13;have k1_14:=Blk.cell hK1 14;have k2_14:=Blk.cell hK2 14;simp only[List.getElem?_toArray,List.getElem?_cons_zero,List.getElem?_cons_succ]at k1_12 k2_12 k1_13 k2_13 k1_14 k2_14;clear hK1 hK2;replace BB:=hid (BB.out.trans (hb.mono (BB.out).size));clear hb
 by_cases q:x3=y3
 case neg =>
  have e1:rb=false:=by rw[← RB.out];exact decide_eq_false (fun e => q (congrArg Am.v e))
  subst e1;rw[decide_eq_false q];clear q;go_wp2_with fail
  go_ret
  exact⟨rfl,BB.out⟩
 rw[decide_eq_true q];subst q;by_cases q:x4=y4
 case neg =>
  have e1:rb=false:=by rw[← RB.out];exact decide_eq_false (fun e => q (congrArg Am.u e))
  subst e1;have hq:(x4 != y4)=true:=bne_iff_ne.2 q;clear q;go_wp2_with fail
  go_ret
  exact⟨rfl,BB.out⟩
 subst q;by_cases q:x5=y5
 case neg =>
  have e1:rb=false:=by rw[← RB.out];exact decide_eq_false (fun e => q (congrArg Am.stop e))
  subst e1;have hq:(x5 != y5)=true:=bne_iff_ne.2 q;clear q;go_wp2_with fail
  go_ret
  exact⟨rfl,BB.out⟩
 subst q;by_cases q:x6=y6
 case neg =>
  have e1:rb=false:=by rw[← RB.out];exact decide_eq_false (fun e => q (congrArg Am.down e))
  subst e1;have hq:(!x6 == y6)=true:=by simpa using q
  clear q;go_wp2_with fail
  go_ret
  exact⟨rfl,BB.out⟩
 subst q;have e1:rb=true:=by rw[← RB.out];exact decide_eq_true rfl
 subst e1;go_wp2_with fail
 go_ret
 exact⟨rfl,BB.out⟩
end Go.Proofs.YtfjkoifpdoemdaaGreat
