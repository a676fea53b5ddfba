/-
  Part 2 of the proof; the last part states and proves the statement.
-/
import Derived.Test.YtfjkoifpdoemdaaGreatK01
set_option maxHeartbeats 8000000
set_option maxRecDepth 100000
set_option linter.unusedVariables false
set_option linter.unusedSimpArgs false
open Go.Value (int)
open Go.IntKind (i64)
namespace Go.Proofs.YtfjkoifpdoemdaaGreat
open Go.RowKit Go.Sort
open Go.Lib (hid)
theorem Md(d1 d2:Ba)(cs1 cs2:List Value)(f1 f2:List Addr)(w:World)(h1:Di w f1 cs1 d1)(h2:Di w f2 cs2 d2) :
  Calls Tryz.prog 49 #[.agg cs1.toArray,.agg cs2.toArray] w fun e w' => e= .returned (.bool (decide (d1=d2)))∧Below w.heap.size w w':=by
 obtain⟨x0,x1,x2,x3,x4,x5,x6,x7,x8⟩:=d1;obtain⟨y0,y1,y2,y3,y4,y5,y6,y7,y8⟩:=d2;dsimp only[Di]at h1 h2;obtain⟨e,-,ao0,ao1,ao2,ao3,ao4,ao5,ao6,ao7,ao8⟩:=h1;subst e;obtain⟨e,-,bo0,bo1,bo2,bo3,bo4,bo5,bo6,bo7,bo8⟩:=h2;subst e;obtain⟨rb,hrb⟩:∃rb,decide ((⟨x0,x1,x2,x3,x4,x5,x6,x7,x8⟩:Ba)=⟨y0,y1,y2,y3,y4,y5,y6,y7,y8⟩)=rb:=⟨_,rfl⟩;rw[hrb];have RB:=hid hrb;clear hrb;have BB:=hid (show∀o1 o2:Obj,Below w.heap.size w ((w.alloc o1).alloc o2)from fun o1 o2 =>((Below.refl _ _).alloc (Nat.le_refl _) _).alloc (by simp) _);by_cases q:x0=y0
 case neg =>
  have e1:rb=false:=by rw[← RB.out];exact decide_eq_false (fun e => q (congrArg Ba.g e))
  subst e1;have hq:(x0 != y0)=true:=bne_iff_ne.2 q;clear q;go_enter Tryz.func49,Tryz.ntmps49
  go_wp2_with fail
  go_ret
  exact⟨rfl,(BB.out _ _)⟩
 subst q;by_cases q:x1=y1
 case neg =>
  have e1:rb=false:=by rw[← RB.out];exact decide_eq_false (fun e => q (congrArg Ba.c e))
  subst e1;have hq:(x1 != y1)=true:=bne_iff_ne.2 q;clear q;go_enter Tryz.func49,Tryz.ntmps49
  go_wp2_with fail
  go_ret
  exact⟨rfl,(BB.out _ _)⟩
 subst q;by_cases q:x2=y2
 case neg =>
  have e1:rb=false:=by rw[← RB.out];exact decide_eq_false (fun e => q (congrArg Ba.data e))
  subst e1;have hq:(x2 != y2)=true:=bne_iff_ne.2 q;clear q;go_enter Tryz.func49,Tryz.ntmps49
  go_wp2_with fail
  go_ret
  exact⟨rfl,(BB.out _ _)⟩
 subst q;by_cases q:x3=y3
 case neg =>
  have e1:rb=false:=by rw[← RB.out];exact decide_eq_false (fun e => q (congrArg Ba.p e))
  subst e1;have hq:(x3 != y3)=true:=bne_iff_ne.2 q;clear q;go_enter Tryz.func49,Tryz.ntmps49
  go_wp2_with fail
  go_ret
  exact⟨rfl,(BB.out _ _)⟩
 subst q;by_cases q:x4=y4
 case neg =>
  have e1:rb=false:=by rw[← RB.out];exact decide_eq_false (fun e => q (congrArg Ba.rows e))
  subst e1;have hq:(x4 != y4)=true:=bne_iff_ne.2 q;clear q;go_enter Tryz.func49,Tryz.ntmps49
  go_wp2_with fail
  go_ret
  exact⟨rfl,(BB.out _ _)⟩
 subst q;by_cases q:x5=y5
 case neg =>
  have e1:rb=false:=by rw[← RB.out];exact decide_eq_false (fun e => q (congrArg Ba.cap e))
  subst e1;have hq:(x5 != y5)=true:=bne_iff_ne.2 q;clear q;go_enter Tryz.func49,Tryz.ntmps49
  go_wp2_with fail
  go_ret
  exact⟨rfl,(BB.out _ _)⟩
 subst q;by_cases q:x6=y6
 case neg =>
  have e1:rb=false:=by rw[← RB.out];exact decide_eq_false (fun e => q (congrArg Ba.b e))
  subst e1;have hq:(x6 != y6)=true:=bne_iff_ne.2 q;clear q;go_enter Tryz.func49,Tryz.ntmps49
  go_wp2_with fail
  go_ret
  exact⟨rfl,(BB.out _ _)⟩
 subst q;by_cases q:x7=y7
 case neg =>
  have e1:rb=false:=by rw[← RB.out];exact decide_eq_false (fun e => q (congrArg Ba.q e))
  subst e1;have hq:(x7 != y7)=true:=bne_iff_ne.2 q;clear q;go_enter Tryz.func49,Tryz.ntmps49
  go_wp2_with fail
  go_ret
  exact⟨rfl,(BB.out _ _)⟩
 subst q;by_cases q:x8=y8
 case neg =>
  have e1:rb=false:=by rw[← RB.out];exact decide_eq_false (fun e => q (congrArg Ba.t e))
  subst e1;have hq:(x8 != y8)=true:=bne_iff_ne.2 q;clear q;go_enter Tryz.func49,Tryz.ntmps49
  go_wp2_with fail
  go_ret
  exact⟨rfl,(BB.out _ _)⟩
 subst q;have e1:rb=true:=by rw[← RB.out];exact decide_eq_true rfl
 subst e1;go_enter Tryz.func49,Tryz.ntmps49
 go_wp2_with fail
 go_ret
 exact⟨rfl,(BB.out _ _)⟩
theorem Mb(d1 d2:By)(cs1 cs2:List Value)(f1 f2:List Addr)(w:World)(h1:AD w f1 cs1 d1)(h2:AD w f2 cs2 d2) :
  Calls Tryz.prog 291 #[.agg cs1.toArray,.agg cs2.toArray] w fun e w' => e= .returned (.bool (decide (d1=d2)))∧Below w.heap.size w w':=by
 obtain⟨x0,x1⟩:=d1;obtain⟨y0,y1⟩:=d2;dsimp only[AD]at h1 h2;obtain⟨av0,af0,e,-,ao0,ah0⟩:=h1;subst e;obtain⟨bv0,bf0,e,-,bo0,bh0⟩:=h2;subst e;have aH0:=hid ah0;obtain⟨aA0,ac0,rfl,-⟩:=rSl.head ah0;clear ah0;have bH0:=hid bh0;obtain⟨bA0,bc0,rfl,-⟩:=rSl.head bh0;clear bh0;obtain⟨rb,hrb⟩:∃rb,decide ((⟨x0,x1⟩:By)=⟨y0,y1⟩)=rb:=⟨_,rfl⟩;rw[hrb];have RB:=hid hrb;clear hrb;have BB:=hid (show∀o1 o2:Obj,Below w.heap.size w ((w.alloc o1).alloc o2)from fun o1 o2 =>((Below.refl _ _).alloc (Nat.le_refl _) _).alloc (by simp) _);by_cases q:x0=y0
 case neg =>
  have e1:rb=false:=by rw[← RB.out];exact decide_eq_false (fun e => q (congrArg By.stamp e))
  subst e1;have hq:(x0 != y0)=true:=bne_iff_ne.2 q;clear q;go_enter Tryz.func291,Tryz.ntmps291
  go_wp2_with fail
  go_ret
  exact⟨rfl,(BB.out _ _)⟩
 subst q;go_enter Tryz.func291,Tryz.ntmps291
 go_wp2_with fail
 refine(EP _ _ x1 y1 _ _ _ (rSl.below Av.local_ Av.fixed aH0.out (BB.out _ _)) (rSl.below Av.local_ Av.fixed bH0.out (BB.out _ _))).mono ?_;rintro e u1 ⟨rfl,hb⟩;have hK1:=Blk.below ((Blk.new w 196 #[int i64 x0,.slice aA0 x1.length ac0]).alloc (.cells #[int i64 x0,.slice bA0 y1.length bc0] 196)) hb (by simp;omega);have hK2:=Blk.below (Blk.new (w.alloc (.cells #[int i64 x0,.slice aA0 x1.length ac0] 196)) 196 #[int i64 x0,.slice bA0 y1.length bc0]) hb (by simp);rw[World.size_alloc]at hK2;have K1:=hid hK1;have K2:=hid hK2;clear hK1 hK2;have BB0:=BB.out;clear BB;have BB:=hid ((BB0 _ _).trans (hb.mono (BB0 _ _).size));clear hb BB0;by_cases q:x1=y1
 case neg =>
  have e1:rb=false:=by rw[← RB.out];exact decide_eq_false (fun e => q (congrArg By.bytes e))
  subst e1;rw[decide_eq_false q];clear q;go_wp2_with fail
  go_ret
  exact⟨rfl,BB.out⟩
 rw[decide_eq_true q];subst q;have e1:rb=true:=by rw[← RB.out];exact decide_eq_true rfl
 subst e1;go_wp2_with fail
 go_ret
 exact⟨rfl,BB.out⟩
theorem Lb(v1 v2:Value)(xs ys:List By)(f1 f2:List Addr)(w:World)(h1:rSl 2 AD w f1 v1 xs)(h2:rSl 2 AD w f2 v2 ys) :
  Calls Tryz.prog 255 #[v1,v2] w fun e w' => e= .returned (.bool (decide (xs=ys)))∧Below w.heap.size w w':=by
 obtain⟨A1,c1,rfl,hc1,hm1,hx⟩:=rSl.at_ AD.fixed (by decide) h1;obtain⟨A2,c2,rfl,hc2,hm2,hy⟩:=rSl.at_ AD.fixed (by decide) h2;clear h1 h2;obtain⟨rb,hrb⟩:∃rb,decide (xs=ys)=rb:=⟨_,rfl⟩;rw[hrb];have RB:=hid hrb;clear hrb;have HX:=hid hx;have HY:=hid hy;clear hx hy;by_cases hl:xs.length=ys.length
 ·have hb:=Ck hl;have HL:=hid hl;clear hl;go_enter Tryz.func255,Tryz.ntmps255
  go_wp2
  go_loopw [4,5] (fun r i wr =>∃k:Nat,k≤xs.length∧i= int i64 k∧r= .bool false∧xs.take k=ys.take k∧Below w.heap.size w wr) (fun _ i _ => xs.length - (intOf i).toNat)
  case atStart => exact⟨0,by omega,rfl,rfl,by simp,Below.refl _ _⟩
  case round =>
   obtain⟨k,hk,rfl,rfl,ht,hbl⟩:=hrel;have HT:=hid ht;clear ht;by_cases hlt:k<xs.length
   ·have hlt2:k<ys.length:=by rw[← HL.out];exact hlt
    obtain⟨a1,b1,o1,cs1,g1,e1,at1⟩:=HX.out k hlt;obtain⟨a2,b2,o2,cs2,g2,e2,at2⟩:=HY.out k hlt2;subst e1 e2;replace at1:=at1.below AD.local_ hbl
    replace at2:=at2.below AD.local_ hbl
    have HB:=hid hbl;clear hbl;clear HX HY;obtain⟨av0,af0,e,-,-,ah0⟩:=at1.reads;subst e;obtain⟨aA0,ac0,rfl,-⟩:=rSl.head ah0;clear ah0;obtain⟨bv0,bf0,e,-,-,bh0⟩:=at2.reads;subst e;obtain⟨bA0,bc0,rfl,-⟩:=rSl.head bh0;clear bh0;have hP1:=at1.place;have hP2:=at2.place;have ap0:=cell_regrown (at1.cell 0 (by simp));have ap1:=cell_regrown (at1.cell 1 (by simp));simp only[List.getElem_cons_zero,List.getElem_cons_succ,Nat.add_zero]at ap0 ap1;have bp0:=cell_regrown (at2.cell 0 (by simp));have bp1:=cell_regrown (at2.cell 1 (by simp));simp only[List.getElem_cons_zero,List.getElem_cons_succ,Nat.add_zero]at bp0 bp1;have hc:∀d os,Calls Tryz.prog 291 #[.agg #[int i64 xs[k].stamp,.slice aA0 xs[k].bytes.length ac0],.agg #[int i64 ys[k].stamp,.slice bA0 ys[k].bytes.length bc0]] (grow (redrawn wr d) os) fun e w'' => e= .returned (.bool (decide (xs[k] =ys[k])))∧∃p:Regrown,w''=grow (redrawn wr p.d) p.os :=
     fun d os => Calls.regrown_of (Mb xs[k] ys[k] _ _ g1 g2 _ (Ap.below AD.local_ AD.fixed at1.reads (below_regrown wr d os)) (Ap.below AD.local_ AD.fixed at2.reads (below_regrown wr d os)))
    obtain⟨bb,hbb⟩:∃bb,decide (xs[k] =ys[k])=bb:=⟨_,rfl⟩;rw[hbb]at hc;have HBB:=hid hbb;clear hbb;have HC:=hid hc;clear hc;have AT1:=hid at1;have AT2:=hid at2;clear at1 at2;go_wp2_with fail
    refine wp_region_quiet_below (by kernel_rfl) (by kernel_rfl) ?_;repeat(first|go_big_quiet_step (exact HC.out _ _)|quiet_step (exact HC.out _ _))
    refine wpQuiet_nil ?_;intro _ hw';obtain⟨⟨dq,osq⟩,hw''⟩:=hw';subst hw'';have HB1:=hid (HB.out.trans ((below_regrown wr dq osq).mono HB.out.size));cases bb with
    |true =>
     have he:=of_decide_eq_true HBB.out;have HE:=hid he;clear he;go_wp2_with fail
     go_roundw
     case rel => exact⟨k+1,by omega,by go_num,rfl,DO HT.out hlt hlt2 HE.out,HB1.out⟩
     case measure => simp[intOf];omega
    |false =>
     have he:=of_decide_eq_false HBB.out;have e1:rb=false:=by rw[← RB.out];exact decide_eq_false (fun e => he (by subst e;rfl))
     subst e1;clear he;go_wp2_with fail
     go_ret
     exact⟨rfl,HB1.out⟩
   ·have hk':k=xs.length:=by omega
    have H:=HT.out;rw[hk',List.take_length,HL.out,List.take_length]at H;have e1:rb=true:=by rw[← RB.out];exact decide_eq_true H
    subst e1;have HB:=hid hbl;clear H hk' HX HY hbl;go_wp2
    go_ret
    exact⟨rfl,HB.out⟩
 ·have hb:=Cl hl;have e1:rb=false:=by rw[← RB.out];exact decide_eq_false (fun e => hl (by rw[e]))
  subst e1;clear HX HY;go_enter Tryz.func255,Tryz.ntmps255
  go_wp2
  go_ret
  exact⟨rfl,Below.refl _ _⟩
theorem Mc(d1 d2:AU)(cs1 cs2:List Value)(f1 f2:List Addr)(w:World)(h1:Ak w f1 cs1 d1)(h2:Ak w f2 cs2 d2) :
  Calls Tryz.prog 183 #[.agg cs1.toArray,.agg cs2.toArray] w fun e w' => e= .returned (.bool (decide (d1=d2)))∧Below w.heap.size w w':=by
 obtain⟨x0,x1⟩:=d1;obtain⟨y0,y1⟩:=d2;dsimp only[Ak]at h1 h2;obtain⟨av0,af0,e,-,ah0⟩:=h1;subst e;obtain⟨bv0,bf0,e,-,bh0⟩:=h2;subst e;have aH0:=hid ah0;obtain⟨aA0,ac0,rfl,-⟩:=rSl.head ah0;clear ah0;have bH0:=hid bh0;obtain⟨bA0,bc0,rfl,-⟩:=rSl.head bh0;clear bh0;obtain⟨rb,hrb⟩:∃rb,decide ((⟨x0,x1⟩:AU)=⟨y0,y1⟩)=rb:=⟨_,rfl⟩;rw[hrb];have RB:=hid hrb;clear hrb;have BB:=hid (show∀o1 o2:Obj,Below w.heap.size w ((w.alloc o1).alloc o2)from fun o1 o2 =>((Below.refl _ _).alloc (Nat.le_refl _) _).alloc (by simp) _);by_cases q:x0=y0
 case neg =>
  have e1:rb=false:=by rw[← RB.out];exact decide_eq_false (fun e => q (congrArg AU.wiped e))
  subst e1;have hq:(!x0 == y0)=true:=by simpa using q
  clear q;go_enter Tryz.func183,Tryz.ntmps183
  go_wp2_with fail
  go_ret
  exact⟨rfl,(BB.out _ _)⟩
 subst q;go_enter Tryz.func183,Tryz.ntmps183
 go_wp2_with fail
 refine(Lb _ _ x1 y1 _ _ _ (rSl.below AD.local_ AD.fixed aH0.out (BB.out _ _)) (rSl.below AD.local_ AD.fixed bH0.out (BB.out _ _))).mono ?_;rintro e u1 ⟨rfl,hb⟩;have hK1:=Blk.below ((Blk.new w 194 #[.bool x0,.slice aA0 x1.length ac0]).alloc (.cells #[.bool x0,.slice bA0 y1.length bc0] 194)) hb (by simp;omega);have hK2:=Blk.below (Blk.new (w.alloc (.cells #[.bool x0,.slice aA0 x1.length ac0] 194)) 194 #[.bool x0,.slice bA0 y1.length bc0]) hb (by simp);rw[World.size_alloc]at hK2;have K1:=hid hK1;have K2:=hid hK2;clear hK1 hK2;have BB0:=BB.out;clear BB;have BB:=hid ((BB0 _ _).trans (hb.mono (BB0 _ _).size));clear hb BB0;by_cases q:x1=y1
 case neg =>
  have e1:rb=false:=by rw[← RB.out];exact decide_eq_false (fun e => q (congrArg AU.blocks e))
  subst e1;rw[decide_eq_false q];clear q;go_wp2_with fail
  go_ret
  exact⟨rfl,BB.out⟩
 rw[decide_eq_true q];subst q;have e1:rb=true:=by rw[← RB.out];exact decide_eq_true rfl
 subst e1;go_wp2_with fail
 go_ret
 exact⟨rfl,BB.out⟩
theorem Lc(v1 v2:Value)(xs ys:List AU)(f1 f2:List Addr)(w:World)(h1:rSl 2 Ak w f1 v1 xs)(h2:rSl 2 Ak w f2 v2 ys) :
  Calls Tryz.prog 106 #[v1,v2] w fun e w' => e= .returned (.bool (decide (xs=ys)))∧Below w.heap.size w w':=by
 obtain⟨A1,c1,rfl,hc1,hm1,hx⟩:=rSl.at_ Ak.fixed (by decide) h1;obtain⟨A2,c2,rfl,hc2,hm2,hy⟩:=rSl.at_ Ak.fixed (by decide) h2;clear h1 h2;obtain⟨rb,hrb⟩:∃rb,decide (xs=ys)=rb:=⟨_,rfl⟩;rw[hrb];have RB:=hid hrb;clear hrb;have HX:=hid hx;have HY:=hid hy;clear hx hy;by_cases hl:xs.length=ys.length
 ·have hb:=Ck hl;have HL:=hid hl;clear hl;go_enter Tryz.func106,Tryz.ntmps106
  go_wp2
  go_loopw [4,5] (fun r i wr =>∃k:Nat,k≤xs.length∧i= int i64 k∧r= .bool false∧xs.take k=ys.take k∧Below w.heap.size w wr) (fun _ i _ => xs.length - (intOf i).toNat)
  case atStart => exact⟨0,by omega,rfl,rfl,by simp,Below.refl _ _⟩
  case round =>
   obtain⟨k,hk,rfl,rfl,ht,hbl⟩:=hrel;have HT:=hid ht;clear ht;by_cases hlt:k<xs.length
   ·have hlt2:k<ys.length:=by rw[← HL.out];exact hlt
    obtain⟨a1,b1,o1,cs1,g1,e1,at1⟩:=HX.out k hlt;obtain⟨a2,b2,o2,cs2,g2,e2,at2⟩:=HY.out k hlt2;subst e1 e2;replace at1:=at1.below Ak.local_ hbl
    replace at2:=at2.below Ak.local_ hbl
    have HB:=hid hbl;clear hbl;clear HX HY;obtain⟨av0,af0,e,-,ah0⟩:=at1.reads;subst e;obtain⟨aA0,ac0,rfl,-⟩:=rSl.head ah0;clear ah0;obtain⟨bv0,bf0,e,-,bh0⟩:=at2.reads;subst e;obtain⟨bA0,bc0,rfl,-⟩:=rSl.head bh0;clear bh0;have hP1:=at1.place;have hP2:=at2.place;have ap0:=cell_regrown (at1.cell 0 (by simp));have ap1:=cell_regrown (at1.cell 1 (by simp));simp only[List.getElem_cons_zero,List.getElem_cons_succ,Nat.add_zero]at ap0 ap1;have bp0:=cell_regrown (at2.cell 0 (by simp));have bp1:=cell_regrown (at2.cell 1 (by simp));simp only[List.getElem_cons_zero,List.getElem_cons_succ,Nat.add_zero]at bp0 bp1;have hc:∀d os,Calls Tryz.prog 183 #[.agg #[.bool xs[k].wiped,.slice aA0 xs[k].blocks.length ac0],.agg #[.bool ys[k].wiped,.slice bA0 ys[k].blocks.length bc0]] (grow (redrawn wr d) os) fun e w'' => e= .returned (.bool (decide (xs[k] =ys[k])))∧∃p:Regrown,w''=grow (redrawn wr p.d) p.os :=
     fun d os => Calls.regrown_of (Mc xs[k] ys[k] _ _ g1 g2 _ (Ap.below Ak.local_ Ak.fixed at1.reads (below_regrown wr d os)) (Ap.below Ak.local_ Ak.fixed at2.reads (below_regrown wr d os)))
    obtain⟨bb,hbb⟩:∃bb,decide (xs[k] =ys[k])=bb:=⟨_,rfl⟩;rw[hbb]at hc;have HBB:=hid hbb;clear hbb;have HC:=hid hc;clear hc;have AT1:=hid at1;have AT2:=hid at2;clear at1 at2;go_wp2_with fail
    refine wp_region_quiet_below (by kernel_rfl) (by kernel_rfl) ?_;repeat(first|go_big_quiet_step (exact HC.out _ _)|quiet_step (exact HC.out _ _))
    refine wpQuiet_nil ?_;intro _ hw';obtain⟨⟨dq,osq⟩,hw''⟩:=hw';subst hw'';have HB1:=hid (HB.out.trans ((below_regrown wr dq osq).mono HB.out.size));cases bb with
    |true =>
     have he:=of_decide_eq_true HBB.out;have HE:=hid he;clear he;go_wp2_with fail
     go_roundw
     case rel => exact⟨k+1,by omega,by go_num,rfl,DO HT.out hlt hlt2 HE.out,HB1.out⟩
     case measure => simp[intOf];omega
    |false =>
     have he:=of_decide_eq_false HBB.out;have e1:rb=false:=by rw[← RB.out];exact decide_eq_false (fun e => he (by subst e;rfl))
     subst e1;clear he;go_wp2_with fail
     go_ret
     exact⟨rfl,HB1.out⟩
   ·have hk':k=xs.length:=by omega
    have H:=HT.out;rw[hk',List.take_length,HL.out,List.take_length]at H;have e1:rb=true:=by rw[← RB.out];exact decide_eq_true H
    subst e1;have HB:=hid hbl;clear H hk' HX HY hbl;go_wp2
    go_ret
    exact⟨rfl,HB.out⟩
 ·have hb:=Cl hl;have e1:rb=false:=by rw[← RB.out];exact decide_eq_false (fun e => hl (by rw[e]))
  subst e1;clear HX HY;go_enter Tryz.func106,Tryz.ntmps106
  go_wp2
  go_ret
  exact⟨rfl,Below.refl _ _⟩
theorem JZ(v1 v2:Value)(xs ys:List (List AU))(f1 f2:List Addr)(w:World)(h1:rSl 1 (Ai 2 Ak) w f1 v1 xs)(h2:rSl 1 (Ai 2 Ak) w f2 v2 ys) :
  Calls Tryz.prog 50 #[v1,v2] w fun e w' => e= .returned (.bool (decide (xs=ys)))∧Below w.heap.size w w':=by
 obtain⟨A1,c1,rfl,hc1,hm1,hx⟩:=rSl.at_ (Ai.fixed Ak.fixed) (by decide) h1;obtain⟨A2,c2,rfl,hc2,hm2,hy⟩:=rSl.at_ (Ai.fixed Ak.fixed) (by decide) h2;clear h1 h2;obtain⟨rb,hrb⟩:∃rb,decide (xs=ys)=rb:=⟨_,rfl⟩;rw[hrb];have RB:=hid hrb;clear hrb;have HX:=hid hx;have HY:=hid hy;clear hx hy;by_cases hl:xs.length=ys.length
 ·have hb:=Ck hl;have HL:=hid hl;clear hl;go_enter Tryz.func50,Tryz.ntmps50
  go_wp2
  go_loopw [4,5] (fun r i wr =>∃k:Nat,k≤xs.length∧i= int i64 k∧r= .bool false∧xs.take k=ys.take k∧Below w.heap.size w wr) (fun _ i _ => xs.length - (intOf i).toNat)
  case atStart => exact⟨0,by omega,rfl,rfl,by simp,Below.refl _ _⟩
  case round =>
   obtain⟨k,hk,rfl,rfl,ht,hbl⟩:=hrel;have HT:=hid ht;clear ht;by_cases hlt:k<xs.length
   ·have hlt2:k<ys.length:=by rw[← HL.out];exact hlt
    obtain⟨a1,b1,o1,cs1,g1,e1,at1⟩:=HX.out k hlt;obtain⟨a2,b2,o2,cs2,g2,e2,at2⟩:=HY.out k hlt2;subst e1 e2;replace at1:=at1.below (Ai.local_ Ak.local_) hbl
    replace at2:=at2.below (Ai.local_ Ak.local_) hbl
    have HB:=hid hbl;clear hbl;clear HX HY;obtain⟨av0,e,ah0⟩:=at1.reads;subst e;obtain⟨aA0,ac0,rfl,-⟩:=rSl.head ah0;clear ah0;obtain⟨bv0,e,bh0⟩:=at2.reads;subst e;obtain⟨bA0,bc0,rfl,-⟩:=rSl.head bh0;clear bh0;have hP1:=at1.place;have hP2:=at2.place;simp only[Nat.mul_one]at hP1 hP2;have ap0:=cell_regrown (at1.cell 0 (by simp));simp only[List.getElem_cons_zero,Nat.add_zero]at ap0;have bp0:=cell_regrown (at2.cell 0 (by simp));simp only[List.getElem_cons_zero,Nat.add_zero]at bp0;have hc:∀d os,Calls Tryz.prog 106 #[.slice aA0 xs[k].length ac0,.slice bA0 ys[k].length bc0] (grow (redrawn wr d) os) fun e w'' => e= .returned (.bool (decide (xs[k] =ys[k])))∧∃p:Regrown,w''=grow (redrawn wr p.d) p.os :=
     fun d os => Calls.regrown_of (Lc _ _ xs[k] ys[k] g1 g2 _ (rSl.below Ak.local_ Ak.fixed (Ai.one at1.reads) (below_regrown wr d os)) (rSl.below Ak.local_ Ak.fixed (Ai.one at2.reads) (below_regrown wr d os)))
    obtain⟨bb,hbb⟩:∃bb,decide (xs[k] =ys[k])=bb:=⟨_,rfl⟩;rw[hbb]at hc;have HBB:=hid hbb;clear hbb;have HC:=hid hc;clear hc;have AT1:=hid at1;have AT2:=hid at2;clear at1 at2;go_wp2_with fail
    refine wp_region_quiet_below (by kernel_rfl) (by kernel_rfl) ?_;repeat(first|go_big_quiet_step (exact HC.out _ _)|quiet_step (exact HC.out _ _))
    refine wpQuiet_nil ?_;intro _ hw';obtain⟨⟨dq,osq⟩,hw''⟩:=hw';subst hw'';have HB1:=hid (HB.out.trans ((below_regrown wr dq osq).mono HB.out.size));cases bb with
    |true =>
     have he:=of_decide_eq_true HBB.out;have HE:=hid he;clear he;go_wp2_with fail
     go_roundw
     case rel => exact⟨k+1,by omega,by go_num,rfl,DO HT.out hlt hlt2 HE.out,HB1.out⟩
     case measure => simp[intOf];omega
    |false =>
     have he:=of_decide_eq_false HBB.out;have e1:rb=false:=by rw[← RB.out];exact decide_eq_false (fun e => he (by subst e;rfl))
     subst e1;clear he;go_wp2_with fail
     go_ret
     exact⟨rfl,HB1.out⟩
   ·have hk':k=xs.length:=by omega
    have H:=HT.out;rw[hk',List.take_length,HL.out,List.take_length]at H;have e1:rb=true:=by rw[← RB.out];exact decide_eq_true H
    subst e1;have HB:=hid hbl;clear H hk' HX HY hbl;go_wp2
    go_ret
    exact⟨rfl,HB.out⟩
 ·have hb:=Cl hl;have e1:rb=false:=by rw[← RB.out];exact decide_eq_false (fun e => hl (by rw[e]))
  subst e1;clear HX HY;go_enter Tryz.func50,Tryz.ntmps50
  go_wp2
  go_ret
  exact⟨rfl,Below.refl _ _⟩
theorem eqRec_c(d1 d2:Ag)(cs1 cs2:List Value)(f1 f2:List Addr)(w:World)(h1:Ac w f1 cs1 d1)(h2:Ac w f2 cs2 d2) :
  Calls Tryz.prog 256 #[.agg cs1.toArray,.agg cs2.toArray] w fun e w' => e= .returned (.bool (decide (d1=d2)))∧Below w.heap.size w w':=by
 obtain⟨x0,x1,x2,x3,x4,x5,x6,x7,x8⟩:=d1;obtain⟨y0,y1,y2,y3,y4,y5,y6,y7,y8⟩:=d2;dsimp only[Ac]at h1 h2;obtain⟨av0,av1,av2,af0,af1,af2,e,-,ao0,ao1,ao2,ao3,ao4,ao5,ah0,ah1,ah2⟩:=h1;subst e;obtain⟨bv0,bv1,bv2,bf0,bf1,bf2,e,-,bo0,bo1,bo2,bo3,bo4,bo5,bh0,bh1,bh2⟩:=h2;subst e;have aH0:=hid ah0;obtain⟨aA0,ac0,rfl,-⟩:=rSl.head ah0;clear ah0;have aH1:=hid ah1;obtain⟨aA1,ac1,rfl,-⟩:=rSl.head ah1;clear ah1;have aH2:=hid ah2;obtain⟨aA2,ac2,rfl,-⟩:=rSl.head ah2;clear ah2;have bH0:=hid bh0;obtain⟨bA0,bc0,rfl,-⟩:=rSl.head bh0;clear bh0;have bH1:=hid bh1;obtain⟨bA1,bc1,rfl,-⟩:=rSl.head bh1;clear bh1;have bH2:=hid bh2;obtain⟨bA2,bc2,rfl,-⟩:=rSl.head bh2;clear bh2;obtain⟨rb,hrb⟩:∃rb,decide ((⟨x0,x1,x2,x3,x4,x5,x6,x7,x8⟩:Ag)=⟨y0,y1,y2,y3,y4,y5,y6,y7,y8⟩)=rb:=⟨_,rfl⟩;rw[hrb];have RB:=hid hrb;clear hrb;have BB:=hid (show∀o1 o2:Obj,Below w.heap.size w ((w.alloc o1).alloc o2)from fun o1 o2 =>((Below.refl _ _).alloc (Nat.le_refl _) _).alloc (by simp) _);by_cases q:x0=y0
 case neg =>
  have e1:rb=false:=by rw[← RB.out];exact decide_eq_false (fun e => q (congrArg Ag.kind e))
  subst e1;have hq:(x0 != y0)=true:=bne_iff_ne.2 q;clear q;go_enter Tryz.func256,Tryz.ntmps256
  go_wp2_with fail
  go_ret
  exact⟨rfl,(BB.out _ _)⟩
 subst q;by_cases q:x1=y1
 case neg =>
  have e1:rb=false:=by rw[← RB.out];exact decide_eq_false (fun e => q (congrArg Ag.seq e))
  subst e1;have hq:(x1 != y1)=true:=bne_iff_ne.2 q;clear q;go_enter Tryz.func256,Tryz.ntmps256
  go_wp2_with fail
  go_ret
  exact⟨rfl,(BB.out _ _)⟩
 subst q;by_cases q:x2=y2
 case neg =>
  have e1:rb=false:=by rw[← RB.out];exact decide_eq_false (fun e => q (congrArg Ag.name e))
  subst e1;have hq:=GZ q;clear q;go_enter Tryz.func256,Tryz.ntmps256
  go_wp2_with fail
  go_ret
  exact⟨rfl,(BB.out _ _)⟩
 subst q;have hs2:=JL (rfl:x2=x2);by_cases q:x3=y3
 case neg =>
  have e1:rb=false:=by rw[← RB.out];exact decide_eq_false (fun e => q (congrArg Ag.length e))
  subst e1;have hq:(x3 != y3)=true:=bne_iff_ne.2 q;clear q;go_enter Tryz.func256,Tryz.ntmps256
  go_wp2_with fail
  go_ret
  exact⟨rfl,(BB.out _ _)⟩
 subst q;by_cases q:x4=y4
 case neg =>
  have e1:rb=false:=by rw[← RB.out];exact decide_eq_false (fun e => q (congrArg Ag.group e))
  subst e1;have hq:(x4 != y4)=true:=bne_iff_ne.2 q;clear q;go_enter Tryz.func256,Tryz.ntmps256
  go_wp2_with fail
  go_ret
  exact⟨rfl,(BB.out _ _)⟩
 subst q;by_cases q:x5=y5
 case neg =>
  have e1:rb=false:=by rw[← RB.out];exact decide_eq_false (fun e => q (congrArg Ag.row e))
  subst e1;have hq:(x5 != y5)=true:=bne_iff_ne.2 q;clear q;go_enter Tryz.func256,Tryz.ntmps256
  go_wp2_with fail
  go_ret
  exact⟨rfl,(BB.out _ _)⟩
 subst q;go_enter Tryz.func256,Tryz.ntmps256
 go_wp2_with fail
 refine(Hd _ _ x6 y6 _ _ _ (rSl.below Al.local_ Al.fixed aH0.out (BB.out _ _)) (rSl.below Al.local_ Al.fixed bH0.out (BB.out _ _))).mono ?_;rintro e u6 ⟨rfl,hb⟩;have hK1:=Blk.below ((Blk.new w 119 #[int i64 x0,int i64 x1,.string x2,int i64 x3,int i64 x4,int i64 x5,.slice aA0 x6.length ac0,.slice aA1 x7.length ac1,.slice aA2 x8.length ac2]).alloc (.cells #[int i64 x0,int i64 x1,.string x2,int i64 x3,int i64 x4,int i64 x5,.slice bA0 y6.length bc0,.slice bA1 y7.length bc1,.slice bA2 y8.length bc2] 119)) hb (by simp;omega);have hK2:=Blk.below (Blk.new (w.alloc (.cells #[int i64 x0,int i64 x1,.string x2,int i64 x3,int i64 x4,int i64 x5,.slice aA0 x6.length ac0,.slice aA1 x7.length ac1,.slice aA2 x8.length ac2] 119)) 119 #[int i64 x0,int i64 x1,.string x2,int i64 x3,int i64 x4,int i64 x5,.slice bA0 y6.length bc0,.slice bA1 y7.length bc1,.slice bA2 y8.length bc2]) hb (by simp);rw[World.size_alloc]at hK2;have K1:=hid hK1;have K2:=hid hK2;have k1_7:=Blk.cell hK1 7;have k2_7:=Blk.cell hK2 7;have k1_8:=Blk.cell hK1 8;have k2_8:=Blk.cell hK2 8;simp only[List.getElem?_toArray,List.getElem?_cons_zero,List.getElem?_cons_succ]at k1_7 k2_7 k1_8 k2_8;clear hK1 hK2;have BB0:=BB.out;clear BB;have BB:=hid ((BB0 _ _).trans (hb.mono (BB0 _ _).size));clear hb BB0;by_cases q:x6=y6
 case neg =>
  have e1:rb=false:=by rw[← RB.out];exact decide_eq_false (fun e => q (congrArg Ag.rows e))
  subst e1;rw[decide_eq_false q];clear q;go_wp2_with fail
  go_ret
  exact⟨rfl,BB.out⟩
 rw[decide_eq_true q];subst q;go_wp2_with fail
 refine(EP _ _ x7 y7 _ _ _ (rSl.below Av.local_ Av.fixed aH1.out BB.out) (rSl.below Av.local_ Av.fixed bH1.out BB.out)).mono ?_;rintro e u7 ⟨rfl,hb⟩;have hK1:=Blk.below K1.out hb K1.out.lt;have hK2:=Blk.below K2.out hb K2.out.lt;clear K1 K2 k1_7 k2_7 k1_8 k2_8;have K1:=hid hK1;have K2:=hid hK2;have k1_8:=Blk.cell hK1 8;have k2_8:=Blk.cell hK2 8;simp only[List.getElem?_toArray,List.getElem?_cons_zero,List.getElem?_cons_succ]at k1_8 k2_8;clear hK1 hK2;replace BB:=hid (BB.out.trans (hb.mono (BB.out).size));clear hb
 by_cases q:x7=y7
 case neg =>
  have e1:rb=false:=by rw[← RB.out];exact decide_eq_false (fun e => q (congrArg Ag.data e))
  subst e1;rw[decide_eq_false q];clear q;go_wp2_with fail
  go_ret
  exact⟨rfl,BB.out⟩
 rw[decide_eq_true q];subst q;go_wp2_with fail
 refine(EP _ _ x8 y8 _ _ _ (rSl.below Av.local_ Av.fixed aH2.out BB.out) (rSl.below Av.local_ Av.fixed bH2.out BB.out)).mono ?_;rintro e u8 ⟨rfl,hb⟩;have hK1:=Blk.below K1.out hb K1.out.lt;have hK2:=Blk.below K2.out hb K2.out.lt;clear K1 K2 k1_8 k2_8;have K1:=hid hK1;have K2:=hid hK2;clear hK1 hK2;replace BB:=hid (BB.out.trans (hb.mono (BB.out).size));clear hb
 by_cases q:x8=y8
 case neg =>
  have e1:rb=false:=by rw[← RB.out];exact decide_eq_false (fun e => q (congrArg Ag.delta e))
  subst e1;rw[decide_eq_false q];clear q;go_wp2_with fail
  go_ret
  exact⟨rfl,BB.out⟩
 rw[decide_eq_true q];subst q;have e1:rb=true:=by rw[← RB.out];exact decide_eq_true rfl
 subst e1;go_wp2_with fail
 go_ret
 exact⟨rfl,BB.out⟩
theorem eqRecS_c(v1 v2:Value)(xs ys:List Ag)(f1 f2:List Addr)(w:World)(h1:rSl 9 Ac w f1 v1 xs)(h2:rSl 9 Ac w f2 v2 ys) :
  Calls Tryz.prog 184 #[v1,v2] w fun e w' => e= .returned (.bool (decide (xs=ys)))∧Below w.heap.size w w':=by
 obtain⟨A1,c1,rfl,hc1,hm1,hx⟩:=rSl.at_ Ac.fixed (by decide) h1;obtain⟨A2,c2,rfl,hc2,hm2,hy⟩:=rSl.at_ Ac.fixed (by decide) h2;clear h1 h2;obtain⟨rb,hrb⟩:∃rb,decide (xs=ys)=rb:=⟨_,rfl⟩;rw[hrb];have RB:=hid hrb;clear hrb;have HX:=hid hx;have HY:=hid hy;clear hx hy;by_cases hl:xs.length=ys.length
 ·have hb:=Ck hl;have HL:=hid hl;clear hl;go_enter Tryz.func184,Tryz.ntmps184
  go_wp2
  go_loopw [4,5] (fun r i wr =>∃k:Nat,k≤xs.length∧i= int i64 k∧r= .bool false∧xs.take k=ys.take k∧Below w.heap.size w wr) (fun _ i _ => xs.length - (intOf i).toNat)
  case atStart => exact⟨0,by omega,rfl,rfl,by simp,Below.refl _ _⟩
  case round =>
   obtain⟨k,hk,rfl,rfl,ht,hbl⟩:=hrel;have HT:=hid ht;clear ht;by_cases hlt:k<xs.length
   ·have hlt2:k<ys.length:=by rw[← HL.out];exact hlt
    obtain⟨a1,b1,o1,cs1,g1,e1,at1⟩:=HX.out k hlt;obtain⟨a2,b2,o2,cs2,g2,e2,at2⟩:=HY.out k hlt2;subst e1 e2;replace at1:=at1.below Ac.local_ hbl
    replace at2:=at2.below Ac.local_ hbl
    have HB:=hid hbl;clear hbl;clear HX HY;obtain⟨av0,av1,av2,af0,af1,af2,e,-,-,-,-,-,-,-,ah0,ah1,ah2⟩:=at1.reads;subst e;obtain⟨aA0,ac0,rfl,-⟩:=rSl.head ah0;obtain⟨aA1,ac1,rfl,-⟩:=rSl.head ah1;obtain⟨aA2,ac2,rfl,-⟩:=rSl.head ah2;clear ah0 ah1 ah2;obtain⟨bv0,bv1,bv2,bf0,bf1,bf2,e,-,-,-,-,-,-,-,bh0,bh1,bh2⟩:=at2.reads;subst e;obtain⟨bA0,bc0,rfl,-⟩:=rSl.head bh0;obtain⟨bA1,bc1,rfl,-⟩:=rSl.head bh1;obtain⟨bA2,bc2,rfl,-⟩:=rSl.head bh2;clear bh0 bh1 bh2;have hP1:=at1.place;have hP2:=at2.place;have ap0:=cell_regrown (at1.cell 0 (by simp));have ap1:=cell_regrown (at1.cell 1 (by simp));have ap2:=cell_regrown (at1.cell 2 (by simp));have ap3:=cell_regrown (at1.cell 3 (by simp));have ap4:=cell_regrown (at1.cell 4 (by simp));have ap5:=cell_regrown (at1.cell 5 (by simp));have ap6:=cell_regrown (at1.cell 6 (by simp));have ap7:=cell_regrown (at1.cell 7 (by simp));have ap8:=cell_regrown (at1.cell 8 (by simp));simp only[List.getElem_cons_zero,List.getElem_cons_succ,Nat.add_zero]at ap0 ap1 ap2 ap3 ap4 ap5 ap6 ap7 ap8;have bp0:=cell_regrown (at2.cell 0 (by simp));have bp1:=cell_regrown (at2.cell 1 (by simp));have bp2:=cell_regrown (at2.cell 2 (by simp));have bp3:=cell_regrown (at2.cell 3 (by simp));have bp4:=cell_regrown (at2.cell 4 (by simp));have bp5:=cell_regrown (at2.cell 5 (by simp));have bp6:=cell_regrown (at2.cell 6 (by simp));have bp7:=cell_regrown (at2.cell 7 (by simp));have bp8:=cell_regrown (at2.cell 8 (by simp));simp only[List.getElem_cons_zero,List.getElem_cons_succ,Nat.add_zero]at bp0 bp1 bp2 bp3 bp4 bp5 bp6 bp7 bp8;have hc:∀d os,Calls Tryz.prog 256 #[.agg #[int i64 xs[k].kind,int i64 xs[k].seq,.string xs[k].name,int i64 xs[k].length,int i64 xs[k].group,int i64 xs[k].row,.slice aA0 xs[k].rows.length ac0,.slice aA1 xs[k].data.length ac1,.slice aA2 xs[k].delta.length ac2],.agg #[int i64 ys[k].kind,int i64 ys[k].seq,.string ys[k].name,int i64 ys[k].length,int i64 ys[k].group,int i64 ys[k].row,.slice bA0 ys[k].rows.length bc0,.slice bA1 ys[k].data.length bc1,.slice bA2 ys[k].delta.length bc2]] (grow (redrawn wr d) os) fun e w'' => e= .returned (.bool (decide (xs[k] =ys[k])))∧∃p:Regrown,w''=grow (redrawn wr p.d) p.os :=
     fun d os => Calls.regrown_of (eqRec_c xs[k] ys[k] _ _ g1 g2 _ (Ap.below Ac.local_ Ac.fixed at1.reads (below_regrown wr d os)) (Ap.below Ac.local_ Ac.fixed at2.reads (below_regrown wr d os)))
    obtain⟨bb,hbb⟩:∃bb,decide (xs[k] =ys[k])=bb:=⟨_,rfl⟩;rw[hbb]at hc;have HBB:=hid hbb;clear hbb;have HC:=hid hc;clear hc;have AT1:=hid at1;have AT2:=hid at2;clear at1 at2;go_wp2_with fail
    refine wp_region_quiet_below (by kernel_rfl) (by kernel_rfl) ?_;repeat(first|go_big_quiet_step (exact HC.out _ _)|quiet_step (exact HC.out _ _))
    refine wpQuiet_nil ?_;intro _ hw';obtain⟨⟨dq,osq⟩,hw''⟩:=hw';subst hw'';have HB1:=hid (HB.out.trans ((below_regrown wr dq osq).mono HB.out.size));cases bb with
    |true =>
     have he:=of_decide_eq_true HBB.out;have HE:=hid he;clear he;go_wp2_with fail
     go_roundw
     case rel => exact⟨k+1,by omega,by go_num,rfl,DO HT.out hlt hlt2 HE.out,HB1.out⟩
     case measure => simp[intOf];omega
    |false =>
     have he:=of_decide_eq_false HBB.out;have e1:rb=false:=by rw[← RB.out];exact decide_eq_false (fun e => he (by subst e;rfl))
     subst e1;clear he;go_wp2_with fail
     go_ret
     exact⟨rfl,HB1.out⟩
   ·have hk':k=xs.length:=by omega
    have H:=HT.out;rw[hk',List.take_length,HL.out,List.take_length]at H;have e1:rb=true:=by rw[← RB.out];exact decide_eq_true H
    subst e1;have HB:=hid hbl;clear H hk' HX HY hbl;go_wp2
    go_ret
    exact⟨rfl,HB.out⟩
 ·have hb:=Cl hl;have e1:rb=false:=by rw[← RB.out];exact decide_eq_false (fun e => hl (by rw[e]))
  subst e1;clear HX HY;go_enter Tryz.func184,Tryz.ntmps184
  go_wp2
  go_ret
  exact⟨rfl,Below.refl _ _⟩
theorem eqTape_c(d1 d2:AS)(cs1 cs2:List Value)(f1 f2:List Addr)(w:World)(h1:As w f1 cs1 d1)(h2:As w f2 cs2 d2) :
  Calls Tryz.prog 107 #[.agg cs1.toArray,.agg cs2.toArray] w fun e w' => e= .returned (.bool (decide (d1=d2)))∧Below w.heap.size w w':=by
 obtain⟨x0,x1⟩:=d1;obtain⟨y0,y1⟩:=d2;dsimp only[As]at h1 h2;obtain⟨av0,af0,e,-,ah0⟩:=h1;subst e;obtain⟨bv0,bf0,e,-,bh0⟩:=h2;subst e;have aH0:=hid ah0;obtain⟨aA0,ac0,rfl,-⟩:=rSl.head ah0;clear ah0;have bH0:=hid bh0;obtain⟨bA0,bc0,rfl,-⟩:=rSl.head bh0;clear bh0;obtain⟨rb,hrb⟩:∃rb,decide ((⟨x0,x1⟩:AS)=⟨y0,y1⟩)=rb:=⟨_,rfl⟩;rw[hrb];have RB:=hid hrb;clear hrb;have BB:=hid (show∀o1 o2:Obj,Below w.heap.size w ((w.alloc o1).alloc o2)from fun o1 o2 =>((Below.refl _ _).alloc (Nat.le_refl _) _).alloc (by simp) _);by_cases q:x0=y0
 case neg =>
  have e1:rb=false:=by rw[← RB.out];exact decide_eq_false (fun e => q (congrArg AS.wiped e))
  subst e1;have hq:(!x0 == y0)=true:=by simpa using q
  clear q;go_enter Tryz.func107,Tryz.ntmps107
  go_wp2_with fail
  go_ret
  exact⟨rfl,(BB.out _ _)⟩
 subst q;go_enter Tryz.func107,Tryz.ntmps107
 go_wp2_with fail
 refine(eqRecS_c _ _ x1 y1 _ _ _ (rSl.below Ac.local_ Ac.fixed aH0.out (BB.out _ _)) (rSl.below Ac.local_ Ac.fixed bH0.out (BB.out _ _))).mono ?_;rintro e u1 ⟨rfl,hb⟩;have hK1:=Blk.below ((Blk.new w 139 #[.bool x0,.slice aA0 x1.length ac0]).alloc (.cells #[.bool x0,.slice bA0 y1.length bc0] 139)) hb (by simp;omega);have hK2:=Blk.below (Blk.new (w.alloc (.cells #[.bool x0,.slice aA0 x1.length ac0] 139)) 139 #[.bool x0,.slice bA0 y1.length bc0]) hb (by simp);rw[World.size_alloc]at hK2;have K1:=hid hK1;have K2:=hid hK2;clear hK1 hK2;have BB0:=BB.out;clear BB;have BB:=hid ((BB0 _ _).trans (hb.mono (BB0 _ _).size));clear hb BB0;by_cases q:x1=y1
 case neg =>
  have e1:rb=false:=by rw[← RB.out];exact decide_eq_false (fun e => q (congrArg AS.recs e))
  subst e1;rw[decide_eq_false q];clear q;go_wp2_with fail
  go_ret
  exact⟨rfl,BB.out⟩
 rw[decide_eq_true q];subst q;have e1:rb=true:=by rw[← RB.out];exact decide_eq_true rfl
 subst e1;go_wp2_with fail
 go_ret
 exact⟨rfl,BB.out⟩
theorem Me(v1 v2:Value)(xs ys:List AS)(f1 f2:List Addr)(w:World)(h1:rSl 2 As w f1 v1 xs)(h2:rSl 2 As w f2 v2 ys) :
  Calls Tryz.prog 52 #[v1,v2] w fun e w' => e= .returned (.bool (decide (xs=ys)))∧Below w.heap.size w w':=by
 obtain⟨A1,c1,rfl,hc1,hm1,hx⟩:=rSl.at_ As.fixed (by decide) h1;obtain⟨A2,c2,rfl,hc2,hm2,hy⟩:=rSl.at_ As.fixed (by decide) h2;clear h1 h2;obtain⟨rb,hrb⟩:∃rb,decide (xs=ys)=rb:=⟨_,rfl⟩;rw[hrb];have RB:=hid hrb;clear hrb;have HX:=hid hx;have HY:=hid hy;clear hx hy;by_cases hl:xs.length=ys.length
 ·have hb:=Ck hl;have HL:=hid hl;clear hl;go_enter Tryz.func52,Tryz.ntmps52
  go_wp2
  go_loopw [4,5] (fun r i wr =>∃k:Nat,k≤xs.length∧i= int i64 k∧r= .bool false∧xs.take k=ys.take k∧Below w.heap.size w wr) (fun _ i _ => xs.length - (intOf i).toNat)
  case atStart => exact⟨0,by omega,rfl,rfl,by simp,Below.refl _ _⟩
  case round =>
   obtain⟨k,hk,rfl,rfl,ht,hbl⟩:=hrel;have HT:=hid ht;clear ht;by_cases hlt:k<xs.length
   ·have hlt2:k<ys.length:=by rw[← HL.out];exact hlt
    obtain⟨a1,b1,o1,cs1,g1,e1,at1⟩:=HX.out k hlt;obtain⟨a2,b2,o2,cs2,g2,e2,at2⟩:=HY.out k hlt2;subst e1 e2;replace at1:=at1.below As.local_ hbl
    replace at2:=at2.below As.local_ hbl
    have HB:=hid hbl;clear hbl;clear HX HY;obtain⟨av0,af0,e,-,ah0⟩:=at1.reads;subst e;obtain⟨aA0,ac0,rfl,-⟩:=rSl.head ah0;clear ah0;obtain⟨bv0,bf0,e,-,bh0⟩:=at2.reads;subst e;obtain⟨bA0,bc0,rfl,-⟩:=rSl.head bh0;clear bh0;have hP1:=at1.place;have hP2:=at2.place;have ap0:=cell_regrown (at1.cell 0 (by simp));have ap1:=cell_regrown (at1.cell 1 (by simp));simp only[List.getElem_cons_zero,List.getElem_cons_succ,Nat.add_zero]at ap0 ap1;have bp0:=cell_regrown (at2.cell 0 (by simp));have bp1:=cell_regrown (at2.cell 1 (by simp));simp only[List.getElem_cons_zero,List.getElem_cons_succ,Nat.add_zero]at bp0 bp1;have hc:∀d os,Calls Tryz.prog 107 #[.agg #[.bool xs[k].wiped,.slice aA0 xs[k].recs.length ac0],.agg #[.bool ys[k].wiped,.slice bA0 ys[k].recs.length bc0]] (grow (redrawn wr d) os) fun e w'' => e= .returned (.bool (decide (xs[k] =ys[k])))∧∃p:Regrown,w''=grow (redrawn wr p.d) p.os :=
     fun d os => Calls.regrown_of (eqTape_c xs[k] ys[k] _ _ g1 g2 _ (Ap.below As.local_ As.fixed at1.reads (below_regrown wr d os)) (Ap.below As.local_ As.fixed at2.reads (below_regrown wr d os)))
    obtain⟨bb,hbb⟩:∃bb,decide (xs[k] =ys[k])=bb:=⟨_,rfl⟩;rw[hbb]at hc;have HBB:=hid hbb;clear hbb;have HC:=hid hc;clear hc;have AT1:=hid at1;have AT2:=hid at2;clear at1 at2;go_wp2_with fail
    refine wp_region_quiet_below (by kernel_rfl) (by kernel_rfl) ?_;repeat(first|go_big_quiet_step (exact HC.out _ _)|quiet_step (exact HC.out _ _))
    refine wpQuiet_nil ?_;intro _ hw';obtain⟨⟨dq,osq⟩,hw''⟩:=hw';subst hw'';have HB1:=hid (HB.out.trans ((below_regrown wr dq osq).mono HB.out.size));cases bb with
    |true =>
     have he:=of_decide_eq_true HBB.out;have HE:=hid he;clear he;go_wp2_with fail
     go_roundw
     case rel => exact⟨k+1,by omega,by go_num,rfl,DO HT.out hlt hlt2 HE.out,HB1.out⟩
     case measure => simp[intOf];omega
    |false =>
     have he:=of_decide_eq_false HBB.out;have e1:rb=false:=by rw[← RB.out];exact decide_eq_false (fun e => he (by subst e;rfl))
     subst e1;clear he;go_wp2_with fail
     go_ret
     exact⟨rfl,HB1.out⟩
   ·have hk':k=xs.length:=by omega
    have H:=HT.out;rw[hk',List.take_length,HL.out,List.take_length]at H;have e1:rb=true:=by rw[← RB.out];exact decide_eq_true H
    subst e1;have HB:=hid hbl;clear H hk' HX HY hbl;go_wp2
    go_ret
    exact⟨rfl,HB.out⟩
 ·have hb:=Cl hl;have e1:rb=false:=by rw[← RB.out];exact decide_eq_false (fun e => hl (by rw[e]))
  subst e1;clear HX HY;go_enter Tryz.func52,Tryz.ntmps52
  go_wp2
  go_ret
  exact⟨rfl,Below.refl _ _⟩
theorem Ld(d1 d2:An)(cs1 cs2:List Value)(f1 f2:List Addr)(w:World)(h1:Af w f1 cs1 d1)(h2:Af w f2 cs2 d2) :
  Calls Tryz.prog 228 #[.agg cs1.toArray,.agg cs2.toArray] w fun e w' => e= .returned (.bool (decide (d1=d2)))∧Below w.heap.size w w':=by
 obtain⟨x0,x1,x2,x3⟩:=d1;obtain⟨y0,y1,y2,y3⟩:=d2;dsimp only[Af]at h1 h2;obtain⟨e,-,ao0,ao1,ao2,ao3⟩:=h1;subst e;obtain⟨e,-,bo0,bo1,bo2,bo3⟩:=h2;subst e;obtain⟨rb,hrb⟩:∃rb,decide ((⟨x0,x1,x2,x3⟩:An)=⟨y0,y1,y2,y3⟩)=rb:=⟨_,rfl⟩;rw[hrb];have RB:=hid hrb;clear hrb;have BB:=hid (show∀o1 o2:Obj,Below w.heap.size w ((w.alloc o1).alloc o2)from fun o1 o2 =>((Below.refl _ _).alloc (Nat.le_refl _) _).alloc (by simp) _);by_cases q:x0=y0
 case neg =>
  have e1:rb=false:=by rw[← RB.out];exact decide_eq_false (fun e => q (congrArg An.id e))
  subst e1;have hq:(x0 != y0)=true:=bne_iff_ne.2 q;clear q;go_enter Tryz.func228,Tryz.ntmps228
  go_wp2_with fail
  go_ret
  exact⟨rfl,(BB.out _ _)⟩
 subst q;by_cases q:x1=y1
 case neg =>
  have e1:rb=false:=by rw[← RB.out];exact decide_eq_false (fun e => q (congrArg An.kind e))
  subst e1;have hq:(x1 != y1)=true:=bne_iff_ne.2 q;clear q;go_enter Tryz.func228,Tryz.ntmps228
  go_wp2_with fail
  go_ret
  exact⟨rfl,(BB.out _ _)⟩
 subst q;by_cases q:x2=y2
 case neg =>
  have e1:rb=false:=by rw[← RB.out];exact decide_eq_false (fun e => q (congrArg An.name e))
  subst e1;have hq:=GZ q;clear q;go_enter Tryz.func228,Tryz.ntmps228
  go_wp2_with fail
  go_ret
  exact⟨rfl,(BB.out _ _)⟩
 subst q;have hs2:=JL (rfl:x2=x2);by_cases q:x3=y3
 case neg =>
  have e1:rb=false:=by rw[← RB.out];exact decide_eq_false (fun e => q (congrArg An.group e))
  subst e1;have hq:(x3 != y3)=true:=bne_iff_ne.2 q;clear q;go_enter Tryz.func228,Tryz.ntmps228
  go_wp2_with fail
  go_ret
  exact⟨rfl,(BB.out _ _)⟩
 subst q;have e1:rb=true:=by rw[← RB.out];exact decide_eq_true rfl
 subst e1;go_enter Tryz.func228,Tryz.ntmps228
 go_wp2_with fail
 go_ret
 exact⟨rfl,(BB.out _ _)⟩
theorem Gu(v1 v2:Value)(xs ys:List An)(f1 f2:List Addr)(w:World)(h1:rSl 4 Af w f1 v1 xs)(h2:rSl 4 Af w f2 v2 ys) :
  Calls Tryz.prog 131 #[v1,v2] w fun e w' => e= .returned (.bool (decide (xs=ys)))∧Below w.heap.size w w':=by
 obtain⟨A1,c1,rfl,hc1,hm1,hx⟩:=rSl.at_ Af.fixed (by decide) h1;obtain⟨A2,c2,rfl,hc2,hm2,hy⟩:=rSl.at_ Af.fixed (by decide) h2;clear h1 h2;obtain⟨rb,hrb⟩:∃rb,decide (xs=ys)=rb:=⟨_,rfl⟩;rw[hrb];have RB:=hid hrb;clear hrb;have HX:=hid hx;have HY:=hid hy;clear hx hy;by_cases hl:xs.length=ys.length
 ·have hb:=Ck hl;have HL:=hid hl;clear hl;go_enter Tryz.func131,Tryz.ntmps131
  go_wp2
  go_loopw [4,5] (fun r i wr =>∃k:Nat,k≤xs.length∧i= int i64 k∧r= .bool false∧xs.take k=ys.take k∧Below w.heap.size w wr) (fun _ i _ => xs.length - (intOf i).toNat)
  case atStart => exact⟨0,by omega,rfl,rfl,by simp,Below.refl _ _⟩
  case round =>
   obtain⟨k,hk,rfl,rfl,ht,hbl⟩:=hrel;have HT:=hid ht;clear ht;by_cases hlt:k<xs.length
   ·have hlt2:k<ys.length:=by rw[← HL.out];exact hlt
    obtain⟨a1,b1,o1,cs1,g1,e1,at1⟩:=HX.out k hlt;obtain⟨a2,b2,o2,cs2,g2,e2,at2⟩:=HY.out k hlt2;subst e1 e2;replace at1:=at1.below Af.local_ hbl
    replace at2:=at2.below Af.local_ hbl
    have HB:=hid hbl;clear hbl;clear HX HY;obtain⟨e,-,-,-,-,-⟩:=at1.reads;subst e;obtain⟨e,-,-,-,-,-⟩:=at2.reads;subst e;have hP1:=at1.place;have hP2:=at2.place;have ap0:=cell_regrown (at1.cell 0 (by simp));have ap1:=cell_regrown (at1.cell 1 (by simp));have ap2:=cell_regrown (at1.cell 2 (by simp));have ap3:=cell_regrown (at1.cell 3 (by simp));simp only[List.getElem_cons_zero,List.getElem_cons_succ,Nat.add_zero]at ap0 ap1 ap2 ap3;have bp0:=cell_regrown (at2.cell 0 (by simp));have bp1:=cell_regrown (at2.cell 1 (by simp));have bp2:=cell_regrown (at2.cell 2 (by simp));have bp3:=cell_regrown (at2.cell 3 (by simp));simp only[List.getElem_cons_zero,List.getElem_cons_succ,Nat.add_zero]at bp0 bp1 bp2 bp3;have hc:∀d os,Calls Tryz.prog 228 #[.agg #[int i64 xs[k].id,int i64 xs[k].kind,.string xs[k].name,int i64 xs[k].group],.agg #[int i64 ys[k].id,int i64 ys[k].kind,.string ys[k].name,int i64 ys[k].group]] (grow (redrawn wr d) os) fun e w'' => e= .returned (.bool (decide (xs[k] =ys[k])))∧∃p:Regrown,w''=grow (redrawn wr p.d) p.os :=
     fun d os => Calls.regrown_of (Ld xs[k] ys[k] _ _ g1 g2 _ (Ap.below Af.local_ Af.fixed at1.reads (below_regrown wr d os)) (Ap.below Af.local_ Af.fixed at2.reads (below_regrown wr d os)))
    obtain⟨bb,hbb⟩:∃bb,decide (xs[k] =ys[k])=bb:=⟨_,rfl⟩;rw[hbb]at hc;have HBB:=hid hbb;clear hbb;have HC:=hid hc;clear hc;have AT1:=hid at1;have AT2:=hid at2;clear at1 at2;go_wp2_with fail
    refine wp_region_quiet_below (by kernel_rfl) (by kernel_rfl) ?_;repeat(first|go_big_quiet_step (exact HC.out _ _)|quiet_step (exact HC.out _ _))
    refine wpQuiet_nil ?_;intro _ hw';obtain⟨⟨dq,osq⟩,hw''⟩:=hw';subst hw'';have HB1:=hid (HB.out.trans ((below_regrown wr dq osq).mono HB.out.size));cases bb with
    |true =>
     have he:=of_decide_eq_true HBB.out;have HE:=hid he;clear he;go_wp2_with fail
     go_roundw
     case rel => exact⟨k+1,by omega,by go_num,rfl,DO HT.out hlt hlt2 HE.out,HB1.out⟩
     case measure => simp[intOf];omega
    |false =>
     have he:=of_decide_eq_false HBB.out;have e1:rb=false:=by rw[← RB.out];exact decide_eq_false (fun e => he (by subst e;rfl))
     subst e1;clear he;go_wp2_with fail
     go_ret
     exact⟨rfl,HB1.out⟩
   ·have hk':k=xs.length:=by omega
    have H:=HT.out;rw[hk',List.take_length,HL.out,List.take_length]at H;have e1:rb=true:=by rw[← RB.out];exact decide_eq_true H
    subst e1;have HB:=hid hbl;clear H hk' HX HY hbl;go_wp2
    go_ret
    exact⟨rfl,HB.out⟩
 ·have hb:=Cl hl;have e1:rb=false:=by rw[← RB.out];exact decide_eq_false (fun e => hl (by rw[e]))
  subst e1;clear HX HY;go_enter Tryz.func131,Tryz.ntmps131
  go_wp2
  go_ret
  exact⟨rfl,Below.refl _ _⟩
theorem Jm(v1 v2:Value)(xs ys:List (List An))(f1 f2:List Addr)(w:World)(h1:rSl 1 (Ai 4 Af) w f1 v1 xs)(h2:rSl 1 (Ai 4 Af) w f2 v2 ys) :
  Calls Tryz.prog 130 #[v1,v2] w fun e w' => e= .returned (.bool (decide (xs=ys)))∧Below w.heap.size w w':=by
 obtain⟨A1,c1,rfl,hc1,hm1,hx⟩:=rSl.at_ (Ai.fixed Af.fixed) (by decide) h1;obtain⟨A2,c2,rfl,hc2,hm2,hy⟩:=rSl.at_ (Ai.fixed Af.fixed) (by decide) h2;clear h1 h2;obtain⟨rb,hrb⟩:∃rb,decide (xs=ys)=rb:=⟨_,rfl⟩;rw[hrb];have RB:=hid hrb;clear hrb;have HX:=hid hx;have HY:=hid hy;clear hx hy;by_cases hl:xs.length=ys.length
 ·have hb:=Ck hl;have HL:=hid hl;clear hl;go_enter Tryz.func130,Tryz.ntmps130
  go_wp2
  go_loopw [4,5] (fun r i wr =>∃k:Nat,k≤xs.length∧i= int i64 k∧r= .bool false∧xs.take k=ys.take k∧Below w.heap.size w wr) (fun _ i _ => xs.length - (intOf i).toNat)
  case atStart => exact⟨0,by omega,rfl,rfl,by simp,Below.refl _ _⟩
  case round =>
   obtain⟨k,hk,rfl,rfl,ht,hbl⟩:=hrel;have HT:=hid ht;clear ht;by_cases hlt:k<xs.length
   ·have hlt2:k<ys.length:=by rw[← HL.out];exact hlt
    obtain⟨a1,b1,o1,cs1,g1,e1,at1⟩:=HX.out k hlt;obtain⟨a2,b2,o2,cs2,g2,e2,at2⟩:=HY.out k hlt2;subst e1 e2;replace at1:=at1.below (Ai.local_ Af.local_) hbl
    replace at2:=at2.below (Ai.local_ Af.local_) hbl
    have HB:=hid hbl;clear hbl;clear HX HY;obtain⟨av0,e,ah0⟩:=at1.reads;subst e;obtain⟨aA0,ac0,rfl,-⟩:=rSl.head ah0;clear ah0;obtain⟨bv0,e,bh0⟩:=at2.reads;subst e;obtain⟨bA0,bc0,rfl,-⟩:=rSl.head bh0;clear bh0;have hP1:=at1.place;have hP2:=at2.place;simp only[Nat.mul_one]at hP1 hP2;have ap0:=cell_regrown (at1.cell 0 (by simp));simp only[List.getElem_cons_zero,Nat.add_zero]at ap0;have bp0:=cell_regrown (at2.cell 0 (by simp));simp only[List.getElem_cons_zero,Nat.add_zero]at bp0;have hc:∀d os,Calls Tryz.prog 131 #[.slice aA0 xs[k].length ac0,.slice bA0 ys[k].length bc0] (grow (redrawn wr d) os) fun e w'' => e= .returned (.bool (decide (xs[k] =ys[k])))∧∃p:Regrown,w''=grow (redrawn wr p.d) p.os :=
     fun d os => Calls.regrown_of (Gu _ _ xs[k] ys[k] g1 g2 _ (rSl.below Af.local_ Af.fixed (Ai.one at1.reads) (below_regrown wr d os)) (rSl.below Af.local_ Af.fixed (Ai.one at2.reads) (below_regrown wr d os)))
    obtain⟨bb,hbb⟩:∃bb,decide (xs[k] =ys[k])=bb:=⟨_,rfl⟩;rw[hbb]at hc;have HBB:=hid hbb;clear hbb;have HC:=hid hc;clear hc;have AT1:=hid at1;have AT2:=hid at2;clear at1 at2;go_wp2_with fail
    refine wp_region_quiet_below (by kernel_rfl) (by kernel_rfl) ?_;repeat(first|go_big_quiet_step (exact HC.out _ _)|quiet_step (exact HC.out _ _))
    refine wpQuiet_nil ?_;intro _ hw';obtain⟨⟨dq,osq⟩,hw''⟩:=hw';subst hw'';have HB1:=hid (HB.out.trans ((below_regrown wr dq osq).mono HB.out.size));cases bb with
    |true =>
     have he:=of_decide_eq_true HBB.out;have HE:=hid he;clear he;go_wp2_with fail
     go_roundw
     case rel => exact⟨k+1,by omega,by go_num,rfl,DO HT.out hlt hlt2 HE.out,HB1.out⟩
     case measure => simp[intOf];omega
    |false =>
     have he:=of_decide_eq_false HBB.out;have e1:rb=false:=by rw[← RB.out];exact decide_eq_false (fun e => he (by subst e;rfl))
     subst e1;clear he;go_wp2_with fail
     go_ret
     exact⟨rfl,HB1.out⟩
   ·have hk':k=xs.length:=by omega
    have H:=HT.out;rw[hk',List.take_length,HL.out,List.take_length]at H;have e1:rb=true:=by rw[← RB.out];exact decide_eq_true H
    subst e1;have HB:=hid hbl;clear H hk' HX HY hbl;go_wp2
    go_ret
    exact⟨rfl,HB.out⟩
 ·have hb:=Cl hl;have e1:rb=false:=by rw[← RB.out];exact decide_eq_false (fun e => hl (by rw[e]))
  subst e1;clear HX HY;go_enter Tryz.func130,Tryz.ntmps130
  go_wp2
  go_ret
  exact⟨rfl,Below.refl _ _⟩
theorem La(d1 d2:AK)(cs1 cs2:List Value)(f1 f2:List Addr)(w:World)(h1:Am w f1 cs1 d1)(h2:Am w f2 cs2 d2) :
  Calls Tryz.prog 229 #[.agg cs1.toArray,.agg cs2.toArray] w fun e w' => e= .returned (.bool (decide (d1=d2)))∧Below w.heap.size w w':=by
 obtain⟨x0,x1,x2,x3⟩:=d1;obtain⟨y0,y1,y2,y3⟩:=d2;dsimp only[Am]at h1 h2;obtain⟨av0,af0,e,-,ao0,ao1,ao2,ah0⟩:=h1;subst e;obtain⟨bv0,bf0,e,-,bo0,bo1,bo2,bh0⟩:=h2;subst e;have aH0:=hid ah0;obtain⟨aA0,ac0,rfl,-⟩:=rSl.head ah0;clear ah0;have bH0:=hid bh0;obtain⟨bA0,bc0,rfl,-⟩:=rSl.head bh0;clear bh0;obtain⟨rb,hrb⟩:∃rb,decide ((⟨x0,x1,x2,x3⟩:AK)=⟨y0,y1,y2,y3⟩)=rb:=⟨_,rfl⟩;rw[hrb];have RB:=hid hrb;clear hrb;have BB:=hid (show∀o1 o2:Obj,Below w.heap.size w ((w.alloc o1).alloc o2)from fun o1 o2 =>((Below.refl _ _).alloc (Nat.le_refl _) _).alloc (by simp) _);by_cases q:x0=y0
 case neg =>
  have e1:rb=false:=by rw[← RB.out];exact decide_eq_false (fun e => q (congrArg AK.id e))
  subst e1;have hq:(x0 != y0)=true:=bne_iff_ne.2 q;clear q;go_enter Tryz.func229,Tryz.ntmps229
  go_wp2_with fail
  go_ret
  exact⟨rfl,(BB.out _ _)⟩
 subst q;by_cases q:x1=y1
 case neg =>
  have e1:rb=false:=by rw[← RB.out];exact decide_eq_false (fun e => q (congrArg AK.code e))
  subst e1;have hq:(x1 != y1)=true:=bne_iff_ne.2 q;clear q;go_enter Tryz.func229,Tryz.ntmps229
  go_wp2_with fail
  go_ret
  exact⟨rfl,(BB.out _ _)⟩
 subst q;by_cases q:x2=y2
 case neg =>
  have e1:rb=false:=by rw[← RB.out];exact decide_eq_false (fun e => q (congrArg AK.turn e))
  subst e1;have hq:(x2 != y2)=true:=bne_iff_ne.2 q;clear q;go_enter Tryz.func229,Tryz.ntmps229
  go_wp2_with fail
  go_ret
  exact⟨rfl,(BB.out _ _)⟩
 subst q;go_enter Tryz.func229,Tryz.ntmps229
 go_wp2_with fail
 refine(EP _ _ x3 y3 _ _ _ (rSl.below Av.local_ Av.fixed aH0.out (BB.out _ _)) (rSl.below Av.local_ Av.fixed bH0.out (BB.out _ _))).mono ?_;rintro e u3 ⟨rfl,hb⟩;have hK1:=Blk.below ((Blk.new w 244 #[int i64 x0,int i64 x1,int i64 x2,.slice aA0 x3.length ac0]).alloc (.cells #[int i64 x0,int i64 x1,int i64 x2,.slice bA0 y3.length bc0] 244)) hb (by simp;omega);have hK2:=Blk.below (Blk.new (w.alloc (.cells #[int i64 x0,int i64 x1,int i64 x2,.slice aA0 x3.length ac0] 244)) 244 #[int i64 x0,int i64 x1,int i64 x2,.slice bA0 y3.length bc0]) hb (by simp);rw[World.size_alloc]at hK2;have K1:=hid hK1;have K2:=hid hK2;clear hK1 hK2;have BB0:=BB.out;clear BB;have BB:=hid ((BB0 _ _).trans (hb.mono (BB0 _ _).size));clear hb BB0;by_cases q:x3=y3
 case neg =>
  have e1:rb=false:=by rw[← RB.out];exact decide_eq_false (fun e => q (congrArg AK.bytes e))
  subst e1;rw[decide_eq_false q];clear q;go_wp2_with fail
  go_ret
  exact⟨rfl,BB.out⟩
 rw[decide_eq_true q];subst q;have e1:rb=true:=by rw[← RB.out];exact decide_eq_true rfl
 subst e1;go_wp2_with fail
 go_ret
 exact⟨rfl,BB.out⟩
theorem JX(v1 v2:Value)(xs ys:List AK)(f1 f2:List Addr)(w:World)(h1:rSl 4 Am w f1 v1 xs)(h2:rSl 4 Am w f2 v2 ys) :
  Calls Tryz.prog 132 #[v1,v2] w fun e w' => e= .returned (.bool (decide (xs=ys)))∧Below w.heap.size w w':=by
 obtain⟨A1,c1,rfl,hc1,hm1,hx⟩:=rSl.at_ Am.fixed (by decide) h1;obtain⟨A2,c2,rfl,hc2,hm2,hy⟩:=rSl.at_ Am.fixed (by decide) h2;clear h1 h2;obtain⟨rb,hrb⟩:∃rb,decide (xs=ys)=rb:=⟨_,rfl⟩;rw[hrb];have RB:=hid hrb;clear hrb;have HX:=hid hx;have HY:=hid hy;clear hx hy;by_cases hl:xs.length=ys.length
 ·have hb:=Ck hl;have HL:=hid hl;clear hl;go_enter Tryz.func132,Tryz.ntmps132
  go_wp2
  go_loopw [4,5] (fun r i wr =>∃k:Nat,k≤xs.length∧i= int i64 k∧r= .bool false∧xs.take k=ys.take k∧Below w.heap.size w wr) (fun _ i _ => xs.length - (intOf i).toNat)
  case atStart => exact⟨0,by omega,rfl,rfl,by simp,Below.refl _ _⟩
  case round =>
   obtain⟨k,hk,rfl,rfl,ht,hbl⟩:=hrel;have HT:=hid ht;clear ht;by_cases hlt:k<xs.length
   ·have hlt2:k<ys.length:=by rw[← HL.out];exact hlt
    obtain⟨a1,b1,o1,cs1,g1,e1,at1⟩:=HX.out k hlt;obtain⟨a2,b2,o2,cs2,g2,e2,at2⟩:=HY.out k hlt2;subst e1 e2;replace at1:=at1.below Am.local_ hbl
    replace at2:=at2.below Am.local_ hbl
    have HB:=hid hbl;clear hbl;clear HX HY;obtain⟨av0,af0,e,-,-,-,-,ah0⟩:=at1.reads;subst e;obtain⟨aA0,ac0,rfl,-⟩:=rSl.head ah0;clear ah0;obtain⟨bv0,bf0,e,-,-,-,-,bh0⟩:=at2.reads;subst e;obtain⟨bA0,bc0,rfl,-⟩:=rSl.head bh0;clear bh0;have hP1:=at1.place;have hP2:=at2.place;have ap0:=cell_regrown (at1.cell 0 (by simp));have ap1:=cell_regrown (at1.cell 1 (by simp));have ap2:=cell_regrown (at1.cell 2 (by simp));have ap3:=cell_regrown (at1.cell 3 (by simp));simp only[List.getElem_cons_zero,List.getElem_cons_succ,Nat.add_zero]at ap0 ap1 ap2 ap3;have bp0:=cell_regrown (at2.cell 0 (by simp));have bp1:=cell_regrown (at2.cell 1 (by simp));have bp2:=cell_regrown (at2.cell 2 (by simp));have bp3:=cell_regrown (at2.cell 3 (by simp));simp only[List.getElem_cons_zero,List.getElem_cons_succ,Nat.add_zero]at bp0 bp1 bp2 bp3;have hc:∀d os,Calls Tryz.prog 229 #[.agg #[int i64 xs[k].id,int i64 xs[k].code,int i64 xs[k].turn,.slice aA0 xs[k].bytes.length ac0],.agg #[int i64 ys[k].id,int i64 ys[k].code,int i64 ys[k].turn,.slice bA0 ys[k].bytes.length bc0]] (grow (redrawn wr d) os) fun e w'' => e= .returned (.bool (decide (xs[k] =ys[k])))∧∃p:Regrown,w''=grow (redrawn wr p.d) p.os :=
     fun d os => Calls.regrown_of (La xs[k] ys[k] _ _ g1 g2 _ (Ap.below Am.local_ Am.fixed at1.reads (below_regrown wr d os)) (Ap.below Am.local_ Am.fixed at2.reads (below_regrown wr d os)))
    obtain⟨bb,hbb⟩:∃bb,decide (xs[k] =ys[k])=bb:=⟨_,rfl⟩;rw[hbb]at hc;have HBB:=hid hbb;clear hbb;have HC:=hid hc;clear hc;have AT1:=hid at1;have AT2:=hid at2;clear at1 at2;go_wp2_with fail
    refine wp_region_quiet_below (by kernel_rfl) (by kernel_rfl) ?_;repeat(first|go_big_quiet_step (exact HC.out _ _)|quiet_step (exact HC.out _ _))
    refine wpQuiet_nil ?_;intro _ hw';obtain⟨⟨dq,osq⟩,hw''⟩:=hw';subst hw'';have HB1:=hid (HB.out.trans ((below_regrown wr dq osq).mono HB.out.size));cases bb with
    |true =>
     have he:=of_decide_eq_true HBB.out;have HE:=hid he;clear he;go_wp2_with fail
     go_roundw
     case rel => exact⟨k+1,by omega,by go_num,rfl,DO HT.out hlt hlt2 HE.out,HB1.out⟩
     case measure => simp[intOf];omega
    |false =>
     have he:=of_decide_eq_false HBB.out;have e1:rb=false:=by rw[← RB.out];exact decide_eq_false (fun e => he (by subst e;rfl))
     subst e1;clear he;go_wp2_with fail
     go_ret
     exact⟨rfl,HB1.out⟩
   ·have hk':k=xs.length:=by omega
    have H:=HT.out;rw[hk',List.take_length,HL.out,List.take_length]at H;have e1:rb=true:=by rw[← RB.out];exact decide_eq_true H
    subst e1;have HB:=hid hbl;clear H hk' HX HY hbl;go_wp2
    go_ret
    exact⟨rfl,HB.out⟩
 ·have hb:=Cl hl;have e1:rb=false:=by rw[← RB.out];exact decide_eq_false (fun e => hl (by rw[e]))
  subst e1;clear HX HY;go_enter Tryz.func132,Tryz.ntmps132
  go_wp2
  go_ret
  exact⟨rfl,Below.refl _ _⟩
theorem eqDesk_c(d1 d2:AJ)(cs1 cs2:List Value)(f1 f2:List Addr)(w:World)(h1:AO w f1 cs1 d1)(h2:AO w f2 cs2 d2) :
  Calls Tryz.prog 68 #[.agg cs1.toArray,.agg cs2.toArray] w fun e w' => e= .returned (.bool (decide (d1=d2)))∧Below w.heap.size w w':=by
 obtain⟨x0,x1,x2,x3,x4⟩:=d1;obtain⟨y0,y1,y2,y3,y4⟩:=d2;dsimp only[AO]at h1 h2;obtain⟨av0,av1,av2,af0,af1,af2,e,-,ao0,ao1,ah0,ah1,ah2⟩:=h1;subst e;obtain⟨bv0,bv1,bv2,bf0,bf1,bf2,e,-,bo0,bo1,bh0,bh1,bh2⟩:=h2;subst e;have aH0:=hid ah0;obtain⟨aA0,ac0,rfl,-⟩:=rSl.head ah0;clear ah0;have aH1:=hid ah1;obtain⟨aA1,ac1,rfl,-⟩:=rSl.head ah1;clear ah1;have aH2:=hid ah2;obtain⟨aA2,ac2,rfl,-⟩:=rSl.head ah2;clear ah2;have bH0:=hid bh0;obtain⟨bA0,bc0,rfl,-⟩:=rSl.head bh0;clear bh0;have bH1:=hid bh1;obtain⟨bA1,bc1,rfl,-⟩:=rSl.head bh1;clear bh1;have bH2:=hid bh2;obtain⟨bA2,bc2,rfl,-⟩:=rSl.head bh2;clear bh2;obtain⟨rb,hrb⟩:∃rb,decide ((⟨x0,x1,x2,x3,x4⟩:AJ)=⟨y0,y1,y2,y3,y4⟩)=rb:=⟨_,rfl⟩;rw[hrb];have RB:=hid hrb;clear hrb;have BB:=hid (show∀o1 o2:Obj,Below w.heap.size w ((w.alloc o1).alloc o2)from fun o1 o2 =>((Below.refl _ _).alloc (Nat.le_refl _) _).alloc (by simp) _);go_enter Tryz.func68,Tryz.ntmps68
 go_wp2_with fail
 refine(Jm _ _ x0 y0 _ _ _ (rSl.below (Ai.local_ Af.local_) (Ai.fixed Af.fixed) aH0.out (BB.out _ _)) (rSl.below (Ai.local_ Af.local_) (Ai.fixed Af.fixed) bH0.out (BB.out _ _))).mono ?_;rintro e u0 ⟨rfl,hb⟩;have hK1:=Blk.below ((Blk.new w 60 #[.slice aA0 x0.length ac0,.slice aA1 x1.length ac1,.slice aA2 x2.length ac2,int i64 x3,int i64 x4]).alloc (.cells #[.slice bA0 y0.length bc0,.slice bA1 y1.length bc1,.slice bA2 y2.length bc2,int i64 y3,int i64 y4] 60)) hb (by simp;omega);have hK2:=Blk.below (Blk.new (w.alloc (.cells #[.slice aA0 x0.length ac0,.slice aA1 x1.length ac1,.slice aA2 x2.length ac2,int i64 x3,int i64 x4] 60)) 60 #[.slice bA0 y0.length bc0,.slice bA1 y1.length bc1,.slice bA2 y2.length bc2,int i64 y3,int i64 y4]) hb (by simp);rw[World.size_alloc]at hK2;have K1:=hid hK1;have K2:=hid hK2;have k1_1:=Blk.cell hK1 1;have k2_1:=Blk.cell hK2 1;have k1_2:=Blk.cell hK1 2;have k2_2:=Blk.cell hK2 2;have k1_3:=Blk.cell hK1 3;have k2_3:=Blk.cell hK2 3;have k1_4:=Blk.cell hK1 4;have k2_4:=Blk.cell hK2 4;simp only[List.getElem?_toArray,List.getElem?_cons_zero,List.getElem?_cons_succ]at k1_1 k2_1 k1_2 k2_2 k1_3 k2_3 k1_4 k2_4;clear hK1 hK2;have BB0:=BB.out;clear BB;have BB:=hid ((BB0 _ _).trans (hb.mono (BB0 _ _).size));clear hb BB0;by_cases q:x0=y0
 case neg =>
  have e1:rb=false:=by rw[← RB.out];exact decide_eq_false (fun e => q (congrArg AJ.queues e))
  subst e1;rw[decide_eq_false q];clear q;go_wp2_with fail
  go_ret
  exact⟨rfl,BB.out⟩
 rw[decide_eq_true q];subst q;go_wp2_with fail
 refine(Gu _ _ x1 y1 _ _ _ (rSl.below Af.local_ Af.fixed aH1.out BB.out) (rSl.below Af.local_ Af.fixed bH1.out BB.out)).mono ?_;rintro e u1 ⟨rfl,hb⟩;have hK1:=Blk.below K1.out hb K1.out.lt;have hK2:=Blk.below K2.out hb K2.out.lt;clear K1 K2 k1_1 k2_1 k1_2 k2_2 k1_3 k2_3 k1_4 k2_4;have K1:=hid hK1;have K2:=hid hK2;have k1_2:=Blk.cell hK1 2;have k2_2:=Blk.cell hK2 2;have k1_3:=Blk.cell hK1 3;have k2_3:=Blk.cell hK2 3;have k1_4:=Blk.cell hK1 4;have k2_4:=Blk.cell hK2 4;simp only[List.getElem?_toArray,List.getElem?_cons_zero,List.getElem?_cons_succ]at k1_2 k2_2 k1_3 k2_3 k1_4 k2_4;clear hK1 hK2;replace BB:=hid (BB.out.trans (hb.mono (BB.out).size));clear hb
 by_cases q:x1=y1
 case neg =>
  have e1:rb=false:=by rw[← RB.out];exact decide_eq_false (fun e => q (congrArg AJ.aside e))
  subst e1;rw[decide_eq_false q];clear q;go_wp2_with fail
  go_ret
  exact⟨rfl,BB.out⟩
 rw[decide_eq_true q];subst q;go_wp2_with fail
 refine(JX _ _ x2 y2 _ _ _ (rSl.below Am.local_ Am.fixed aH2.out BB.out) (rSl.below Am.local_ Am.fixed bH2.out BB.out)).mono ?_;rintro e u2 ⟨rfl,hb⟩;have hK1:=Blk.below K1.out hb K1.out.lt;have hK2:=Blk.below K2.out hb K2.out.lt;clear K1 K2 k1_2 k2_2 k1_3 k2_3 k1_4 k2_4;have K1:=hid hK1;have K2:=hid hK2;have k1_3:=Blk.cell hK1 3;have k2_3:=Blk.cell hK2 3;have k1_4:=Blk.cell hK1 4;have k2_4:=Blk.cell hK2 4;simp only[List.getElem?_toArray,List.getElem?_cons_zero,List.getElem?_cons_succ]at k1_3 k2_3 k1_4 k2_4;clear hK1 hK2;replace BB:=hid (BB.out.trans (hb.mono (BB.out).size));clear hb
 by_cases q:x2=y2
 case neg =>
  have e1:rb=false:=by rw[← RB.out];exact decide_eq_false (fun e => q (congrArg AJ.answers e))
  subst e1;rw[decide_eq_false q];clear q;go_wp2_with fail
  go_ret
  exact⟨rfl,BB.out⟩
 rw[decide_eq_true q];subst q;by_cases q:x3=y3
 case neg =>
  have e1:rb=false:=by rw[← RB.out];exact decide_eq_false (fun e => q (congrArg AJ.turn e))
  subst e1;have hq:(x3 != y3)=true:=bne_iff_ne.2 q;clear q;go_wp2_with fail
  go_ret
  exact⟨rfl,BB.out⟩
 subst q;by_cases q:x4=y4
 case neg =>
  have e1:rb=false:=by rw[← RB.out];exact decide_eq_false (fun e => q (congrArg AJ.next e))
  subst e1;have hq:(x4 != y4)=true:=bne_iff_ne.2 q;clear q;go_wp2_with fail
  go_ret
  exact⟨rfl,BB.out⟩
 subst q;have e1:rb=true:=by rw[← RB.out];exact decide_eq_true rfl
 subst e1;go_wp2_with fail
 go_ret
 exact⟨rfl,BB.out⟩
theorem Mf(d1 d2:AC)(cs1 cs2:List Value)(f1 f2:List Addr)(w:World)(h1:AB w f1 cs1 d1)(h2:AB w f2 cs2 d2) :
  Calls Tryz.prog 12 #[.agg cs1.toArray,.agg cs2.toArray] w fun e w' => e= .returned (.bool (decide (d1=d2)))∧Below w.heap.size w w':=by
 obtain⟨x0,x1,x2,x3,x4,x5,x6⟩:=d1;obtain⟨y0,y1,y2,y3,y4,y5,y6⟩:=d2;dsimp only[AB]at h1 h2;obtain⟨av0,av1,av2,af0,af1,af2,e,-,ao0,ao1,ao2,ao3,ao4,ao5,ao6,ao7,ao8,ao9,ao10,ah0,ah1,ah2⟩:=h1;subst e;obtain⟨bv0,bv1,bv2,bf0,bf1,bf2,e,-,bo0,bo1,bo2,bo3,bo4,bo5,bo6,bo7,bo8,bo9,bo10,bh0,bh1,bh2⟩:=h2;subst e;have aH0:=hid ah0;obtain⟨aA0,ac0,rfl,-⟩:=rSl.head ah0;clear ah0;have aH1:=hid ah1;obtain⟨aA1,ac1,rfl,-⟩:=rSl.head ah1;clear ah1;have aH2:=hid ah2;obtain⟨aA2,ac2,rfl,-⟩:=rSl.head ah2;clear ah2;have bH0:=hid bh0;obtain⟨bA0,bc0,rfl,-⟩:=rSl.head bh0;clear bh0;have bH1:=hid bh1;obtain⟨bA1,bc1,rfl,-⟩:=rSl.head bh1;clear bh1;have bH2:=hid bh2;obtain⟨bA2,bc2,rfl,-⟩:=rSl.head bh2;clear bh2;obtain⟨rb,hrb⟩:∃rb,decide ((⟨x0,x1,x2,x3,x4,x5,x6⟩:AC)=⟨y0,y1,y2,y3,y4,y5,y6⟩)=rb:=⟨_,rfl⟩;rw[hrb];have RB:=hid hrb;clear hrb;have BB:=hid (show∀o1 o2:Obj,Below w.heap.size w ((w.alloc o1).alloc o2)from fun o1 o2 =>((Below.refl _ _).alloc (Nat.le_refl _) _).alloc (by simp) _);go_enter Tryz.func12,Tryz.ntmps12
 go_wp2_with fail
 refine(Md x0 y0 _ _ _ _ _ ⟨rfl,rfl,ao0,ao1,ao2,ao3,ao4,ao5,ao6,ao7,ao8⟩ ⟨rfl,rfl,bo0,bo1,bo2,bo3,bo4,bo5,bo6,bo7,bo8⟩).mono ?_;rintro e u0 ⟨rfl,hb⟩;have hK1:=Blk.below ((Blk.new w 35 #[int i64 x0.g,int i64 x0.c,int i64 x0.data,int i64 x0.p,int i64 x0.rows,int i64 x0.cap,int i64 x0.b,int i64 x0.q,int i64 x0.t,.slice aA0 x1.length ac0,.slice aA1 x2.length ac1,.slice aA2 x3.length ac2,int i64 x4,int i64 x5,.bool x6]).alloc (.cells #[int i64 y0.g,int i64 y0.c,int i64 y0.data,int i64 y0.p,int i64 y0.rows,int i64 y0.cap,int i64 y0.b,int i64 y0.q,int i64 y0.t,.slice bA0 y1.length bc0,.slice bA1 y2.length bc1,.slice bA2 y3.length bc2,int i64 y4,int i64 y5,.bool y6] 35)) hb (by simp;omega);have hK2:=Blk.below (Blk.new (w.alloc (.cells #[int i64 x0.g,int i64 x0.c,int i64 x0.data,int i64 x0.p,int i64 x0.rows,int i64 x0.cap,int i64 x0.b,int i64 x0.q,int i64 x0.t,.slice aA0 x1.length ac0,.slice aA1 x2.length ac1,.slice aA2 x3.length ac2,int i64 x4,int i64 x5,.bool x6] 35)) 35 #[int i64 y0.g,int i64 y0.c,int i64 y0.data,int i64 y0.p,int i64 y0.rows,int i64 y0.cap,int i64 y0.b,int i64 y0.q,int i64 y0.t,.slice bA0 y1.length bc0,.slice bA1 y2.length bc1,.slice bA2 y3.length bc2,int i64 y4,int i64 y5,.bool y6]) hb (by simp);rw[World.size_alloc]at hK2;have K1:=hid hK1;have K2:=hid hK2;have k1_9:=Blk.cell hK1 9;have k2_9:=Blk.cell hK2 9;have k1_10:=Blk.cell hK1 10;have k2_10:=Blk.cell hK2 10;have k1_11:=Blk.cell hK1 11;have k2_11:=Blk.cell hK2 11;have k1_12:=Blk.cell hK1 12;have k2_12:=Blk.cell hK2 12;have k1_13:=Blk.cell hK1 13;have k2_13:=Blk.cell hK2 13;have k1_14:=Blk.cell hK1 14;have k2_14:=Blk.cell hK2 14;simp only[List.getElem?_toArray,List.getElem?_cons_zero,List.getElem?_cons_succ]at k1_9 k2_9 k1_10 k2_10 k1_11 k2_11 k1_12 k2_12 k1_13 k2_13 k1_14 k2_14;clear hK1 hK2;have BB0:=BB.out;clear BB;have BB:=hid ((BB0 _ _).trans (hb.mono (BB0 _ _).size));clear hb BB0;by_cases q:x0=y0
 case neg =>
  have e1:rb=false:=by rw[← RB.out];exact decide_eq_false (fun e => q (congrArg AC.s e))
  subst e1;rw[decide_eq_false q];clear q;go_wp2_with fail
  go_ret
  exact⟨rfl,BB.out⟩
 rw[decide_eq_true q];subst q;go_wp2_with fail
 refine(JZ _ _ x1 y1 _ _ _ (rSl.below (Ai.local_ Ak.local_) (Ai.fixed Ak.fixed) aH0.out BB.out) (rSl.below (Ai.local_ Ak.local_) (Ai.fixed Ak.fixed) bH0.out BB.out)).mono ?_;rintro e u1 ⟨rfl,hb⟩;have hK1:=Blk.below K1.out hb K1.out.lt;have hK2:=Blk.below K2.out hb K2.out.lt;clear K1 K2 k1_9 k2_9 k1_10 k2_10 k1_11 k2_11 k1_12 k2_12 k1_13 k2_13 k1_14 k2_14;have K1:=hid hK1;have K2:=hid hK2;have k1_10:=Blk.cell hK1 10;have k2_10:=Blk.cell hK2 10;have k1_11:=Blk.cell hK1 11;have k2_11:=Blk.cell hK2 11;have k1_12:=Blk.cell hK1 12;have k2_12:=Blk.cell hK2 12;have k1_13:=Blk.cell hK1 13;have k2_13:=Blk.cell hK2 13;have k1_14:=Blk.cell hK1 14;have k2_14:=Blk.cell hK2 14;simp only[List.getElem?_toArray,List.getElem?_cons_zero,List.getElem?_cons_succ]at k1_10 k2_10 k1_11 k2_11 k1_12 k2_12 k1_13 k2_13 k1_14 k2_14;clear hK1 hK2;replace BB:=hid (BB.out.trans (hb.mono (BB.out).size));clear hb
 by_cases q:x1=y1
 case neg =>
  have e1:rb=false:=by rw[← RB.out];exact decide_eq_false (fun e => q (congrArg AC.g e))
  subst e1;rw[decide_eq_false q];clear q;go_wp2_with fail
  go_ret
  exact⟨rfl,BB.out⟩
 rw[decide_eq_true q];subst q;go_wp2_with fail
 refine(Hd _ _ x2 y2 _ _ _ (rSl.below Al.local_ Al.fixed aH1.out BB.out) (rSl.below Al.local_ Al.fixed bH1.out BB.out)).mono ?_;rintro e u2 ⟨rfl,hb⟩;have hK1:=Blk.below K1.out hb K1.out.lt;have hK2:=Blk.below K2.out hb K2.out.lt;clear K1 K2 k1_10 k2_10 k1_11 k2_11 k1_12 k2_12 k1_13 k2_13 k1_14 k2_14;have K1:=hid hK1;have K2:=hid hK2;have k1_11:=Blk.cell hK1 11;have k2_11:=Blk.cell hK2 11;have k1_12:=Blk.cell hK1 12;have k2_12:=Blk.cell hK2 12;have k1_13:=Blk.cell hK1 13;have k2_13:=Blk.cell hK2 13;have k1_14:=Blk.cell hK1 14;have k2_14:=Blk.cell hK2 14;simp only[List.getElem?_toArray,List.getElem?_cons_zero,List.getElem?_cons_succ]at k1_11 k2_11 k1_12 k2_12 k1_13 k2_13 k1_14 k2_14;clear hK1 hK2;replace BB:=hid (BB.out.trans (hb.mono (BB.out).size));clear hb
 by_cases q:x2=y2
 case neg =>
  have e1:rb=false:=by rw[← RB.out];exact decide_eq_false (fun e => q (congrArg AC.on e))
  subst e1;rw[decide_eq_false q];clear q;go_wp2_with fail
  go_ret
  exact⟨rfl,BB.out⟩
 rw[decide_eq_true q];subst q;go_wp2_with fail
 refine(Me _ _ x3 y3 _ _ _ (rSl.below As.local_ As.fixed aH2.out BB.out) (rSl.below As.local_ As.fixed bH2.out BB.out)).mono ?_;rintro e u3 ⟨rfl,hb⟩;have hK1:=Blk.below K1.out hb K1.out.lt;have hK2:=Blk.below K2.out hb K2.out.lt;clear K1 K2 k1_11 k2_11 k1_12 k2_12 k1_13 k2_13 k1_14 k2_14;have K1:=hid hK1;have K2:=hid hK2;have k1_12:=Blk.cell hK1 12;have k2_12:=Blk.cell hK2 12;have k1_13:=Blk.cell hK1 13;have k2_13:=Blk.cell hK2 13;have k1_14:=Blk.cell hK1 14;have k2_14:=Blk.cell hK2 14;simp only[List.getElem?_toArray,List.getElem?_cons_zero,List.getElem?_cons_succ]at k1_12 k2_12 k1_13 k2_13 k1_14 k2_14;clear hK1 hK2;replace BB:=hid (BB.out.trans (hb.mono (BB.out).size));clear hb
 by_cases q:x3=y3
 case neg =>
  have e1:rb=false:=by rw[← RB.out];exact decide_eq_false (fun e => q (congrArg AC.v e))
  subst e1;rw[decide_eq_false q];clear q;go_wp2_with fail
  go_ret
  exact⟨rfl,BB.out⟩
 rw[decide_eq_true q];subst q;by_cases q:x4=y4
 case neg =>
  have e1:rb=false:=by rw[← RB.out];exact decide_eq_false (fun e => q (congrArg AC.u e))
  subst e1;have hq:(x4 != y4)=true:=bne_iff_ne.2 q;clear q;go_wp2_with fail
  go_ret
  exact⟨rfl,BB.out⟩
 subst q;by_cases q:x5=y5
 case neg =>
  have e1:rb=false:=by rw[← RB.out];exact decide_eq_false (fun e => q (congrArg AC.stop e))
  subst e1;have hq:(x5 != y5)=true:=bne_iff_ne.2 q;clear q;go_wp2_with fail
  go_ret
  exact⟨rfl,BB.out⟩
 subst q;by_cases q:x6=y6
 case neg =>
  have e1:rb=false:=by rw[← RB.out];exact decide_eq_false (fun e => q (congrArg AC.down e))
  subst e1;have hq:(!x6 == y6)=true:=by simpa using q
  clear q;go_wp2_with fail
  go_ret
  exact⟨rfl,BB.out⟩
 subst q;have e1:rb=true:=by rw[← RB.out];exact decide_eq_true rfl
 subst e1;go_wp2_with fail
 go_ret
 exact⟨rfl,BB.out⟩
theorem JY(d1 d2:AY)(cs1 cs2:List Value)(f1 f2:List Addr)(w:World)(h1:AE w f1 cs1 d1)(h2:AE w f2 cs2 d2) :
  Calls Tryz.prog 23 #[.agg cs1.toArray,.agg cs2.toArray] w fun e w' => e= .returned (.bool (decide (d1=d2)))∧Below w.heap.size w w':=by
 obtain⟨x0,x1⟩:=d1;obtain⟨y0,y1⟩:=d2;dsimp only[AE]at h1 h2;obtain⟨av0,av1,av2,av3,av4,av5,af0,af1,af2,af3,af4,af5,e,-,ao0,ao1,ao2,ao3,ao4,ao5,ao6,ao7,ao8,ao9,ao10,ao11,ao12,ah0,ah1,ah2,ah3,ah4,ah5⟩:=h1;subst e;obtain⟨bv0,bv1,bv2,bv3,bv4,bv5,bf0,bf1,bf2,bf3,bf4,bf5,e,-,bo0,bo1,bo2,bo3,bo4,bo5,bo6,bo7,bo8,bo9,bo10,bo11,bo12,bh0,bh1,bh2,bh3,bh4,bh5⟩:=h2;subst e;have aH0:=hid ah0;obtain⟨aA0,ac0,rfl,-⟩:=rSl.head ah0;clear ah0;have aH1:=hid ah1;obtain⟨aA1,ac1,rfl,-⟩:=rSl.head ah1;clear ah1;have aH2:=hid ah2;obtain⟨aA2,ac2,rfl,-⟩:=rSl.head ah2;clear ah2;have aH3:=hid ah3;obtain⟨aA3,ac3,rfl,-⟩:=rSl.head ah3;clear ah3;have aH4:=hid ah4;obtain⟨aA4,ac4,rfl,-⟩:=rSl.head ah4;clear ah4;have aH5:=hid ah5;obtain⟨aA5,ac5,rfl,-⟩:=rSl.head ah5;clear ah5;have bH0:=hid bh0;obtain⟨bA0,bc0,rfl,-⟩:=rSl.head bh0;clear bh0;have bH1:=hid bh1;obtain⟨bA1,bc1,rfl,-⟩:=rSl.head bh1;clear bh1;have bH2:=hid bh2;obtain⟨bA2,bc2,rfl,-⟩:=rSl.head bh2;clear bh2;have bH3:=hid bh3;obtain⟨bA3,bc3,rfl,-⟩:=rSl.head bh3;clear bh3;have bH4:=hid bh4;obtain⟨bA4,bc4,rfl,-⟩:=rSl.head bh4;clear bh4;have bH5:=hid bh5;obtain⟨bA5,bc5,rfl,-⟩:=rSl.head bh5;clear bh5;obtain⟨rb,hrb⟩:∃rb,decide ((⟨x0,x1⟩:AY)=⟨y0,y1⟩)=rb:=⟨_,rfl⟩;rw[hrb];have RB:=hid hrb;clear hrb;have BB:=hid (show∀o1 o2:Obj,Below w.heap.size w ((w.alloc o1).alloc o2)from fun o1 o2 =>((Below.refl _ _).alloc (Nat.le_refl _) _).alloc (by simp) _);have hR1:=Blk.range ((Blk.new w 62 #[int i64 x0.s.g,int i64 x0.s.c,int i64 x0.s.data,int i64 x0.s.p,int i64 x0.s.rows,int i64 x0.s.cap,int i64 x0.s.b,int i64 x0.s.q,int i64 x0.s.t,.slice aA0 x0.g.length ac0,.slice aA1 x0.on.length ac1,.slice aA2 x0.v.length ac2,int i64 x0.u,int i64 x0.stop,.bool x0.down,.slice aA3 x1.queues.length ac3,.slice aA4 x1.aside.length ac4,.slice aA5 x1.answers.length ac5,int i64 x1.turn,int i64 x1.next]).alloc (.cells #[int i64 y0.s.g,int i64 y0.s.c,int i64 y0.s.data,int i64 y0.s.p,int i64 y0.s.rows,int i64 y0.s.cap,int i64 y0.s.b,int i64 y0.s.q,int i64 y0.s.t,.slice bA0 y0.g.length bc0,.slice bA1 y0.on.length bc1,.slice bA2 y0.v.length bc2,int i64 y0.u,int i64 y0.stop,.bool y0.down,.slice bA3 y1.queues.length bc3,.slice bA4 y1.aside.length bc4,.slice bA5 y1.answers.length bc5,int i64 y1.turn,int i64 y1.next] 62)) 0 [int i64 x0.s.g,int i64 x0.s.c,int i64 x0.s.data,int i64 x0.s.p,int i64 x0.s.rows,int i64 x0.s.cap,int i64 x0.s.b,int i64 x0.s.q,int i64 x0.s.t,.slice aA0 x0.g.length ac0,.slice aA1 x0.on.length ac1,.slice aA2 x0.v.length ac2,int i64 x0.u,int i64 x0.stop,.bool x0.down] rfl;have hR2:=Blk.range (Blk.new (w.alloc (.cells #[int i64 x0.s.g,int i64 x0.s.c,int i64 x0.s.data,int i64 x0.s.p,int i64 x0.s.rows,int i64 x0.s.cap,int i64 x0.s.b,int i64 x0.s.q,int i64 x0.s.t,.slice aA0 x0.g.length ac0,.slice aA1 x0.on.length ac1,.slice aA2 x0.v.length ac2,int i64 x0.u,int i64 x0.stop,.bool x0.down,.slice aA3 x1.queues.length ac3,.slice aA4 x1.aside.length ac4,.slice aA5 x1.answers.length ac5,int i64 x1.turn,int i64 x1.next] 62)) 62 #[int i64 y0.s.g,int i64 y0.s.c,int i64 y0.s.data,int i64 y0.s.p,int i64 y0.s.rows,int i64 y0.s.cap,int i64 y0.s.b,int i64 y0.s.q,int i64 y0.s.t,.slice bA0 y0.g.length bc0,.slice bA1 y0.on.length bc1,.slice bA2 y0.v.length bc2,int i64 y0.u,int i64 y0.stop,.bool y0.down,.slice bA3 y1.queues.length bc3,.slice bA4 y1.aside.length bc4,.slice bA5 y1.answers.length bc5,int i64 y1.turn,int i64 y1.next]) 0 [int i64 y0.s.g,int i64 y0.s.c,int i64 y0.s.data,int i64 y0.s.p,int i64 y0.s.rows,int i64 y0.s.cap,int i64 y0.s.b,int i64 y0.s.q,int i64 y0.s.t,.slice bA0 y0.g.length bc0,.slice bA1 y0.on.length bc1,.slice bA2 y0.v.length bc2,int i64 y0.u,int i64 y0.stop,.bool y0.down] rfl;rw[World.size_alloc]at hR2;have HR1:=hid hR1;have HR2:=hid hR2;clear hR1 hR2;go_enter Tryz.func23,Tryz.ntmps23
 go_wp2_with (first|(refine wpList_load_mid rfl 35 (.tmp 5) rfl w.heap.size 0 rfl _ _ HR1.out Tryz.underlying35 rfl (by kernel_rfl) ?_)|(refine wpList_load_mid rfl 35 (.tmp 7) rfl (w.heap.size+1) 0 rfl _ _ HR2.out Tryz.underlying35 rfl (by kernel_rfl) ?_))
 refine(Mf x0 y0 _ _ _ _ _ ⟨_,_,_,_,_,_,rfl,rfl,ao0,ao1,ao2,ao3,ao4,ao5,ao6,ao7,ao8,ao9,ao10,rSl.below (Ai.local_ Ak.local_) (Ai.fixed Ak.fixed) aH0.out (BB.out _ _),rSl.below Al.local_ Al.fixed aH1.out (BB.out _ _),rSl.below As.local_ As.fixed aH2.out (BB.out _ _)⟩ ⟨_,_,_,_,_,_,rfl,rfl,bo0,bo1,bo2,bo3,bo4,bo5,bo6,bo7,bo8,bo9,bo10,rSl.below (Ai.local_ Ak.local_) (Ai.fixed Ak.fixed) bH0.out (BB.out _ _),rSl.below Al.local_ Al.fixed bH1.out (BB.out _ _),rSl.below As.local_ As.fixed bH2.out (BB.out _ _)⟩).mono ?_;rintro e u0 ⟨rfl,hb⟩;have hK1:=Blk.below ((Blk.new w 62 #[int i64 x0.s.g,int i64 x0.s.c,int i64 x0.s.data,int i64 x0.s.p,int i64 x0.s.rows,int i64 x0.s.cap,int i64 x0.s.b,int i64 x0.s.q,int i64 x0.s.t,.slice aA0 x0.g.length ac0,.slice aA1 x0.on.length ac1,.slice aA2 x0.v.length ac2,int i64 x0.u,int i64 x0.stop,.bool x0.down,.slice aA3 x1.queues.length ac3,.slice aA4 x1.aside.length ac4,.slice aA5 x1.answers.length ac5,int i64 x1.turn,int i64 x1.next]).alloc (.cells #[int i64 y0.s.g,int i64 y0.s.c,int i64 y0.s.data,int i64 y0.s.p,int i64 y0.s.rows,int i64 y0.s.cap,int i64 y0.s.b,int i64 y0.s.q,int i64 y0.s.t,.slice bA0 y0.g.length bc0,.slice bA1 y0.on.length bc1,.slice bA2 y0.v.length bc2,int i64 y0.u,int i64 y0.stop,.bool y0.down,.slice bA3 y1.queues.length bc3,.slice bA4 y1.aside.length bc4,.slice bA5 y1.answers.length bc5,int i64 y1.turn,int i64 y1.next] 62)) hb (by simp;omega);have hK2:=Blk.below (Blk.new (w.alloc (.cells #[int i64 x0.s.g,int i64 x0.s.c,int i64 x0.s.data,int i64 x0.s.p,int i64 x0.s.rows,int i64 x0.s.cap,int i64 x0.s.b,int i64 x0.s.q,int i64 x0.s.t,.slice aA0 x0.g.length ac0,.slice aA1 x0.on.length ac1,.slice aA2 x0.v.length ac2,int i64 x0.u,int i64 x0.stop,.bool x0.down,.slice aA3 x1.queues.length ac3,.slice aA4 x1.aside.length ac4,.slice aA5 x1.answers.length ac5,int i64 x1.turn,int i64 x1.next] 62)) 62 #[int i64 y0.s.g,int i64 y0.s.c,int i64 y0.s.data,int i64 y0.s.p,int i64 y0.s.rows,int i64 y0.s.cap,int i64 y0.s.b,int i64 y0.s.q,int i64 y0.s.t,.slice bA0 y0.g.length bc0,.slice bA1 y0.on.length bc1,.slice bA2 y0.v.length bc2,int i64 y0.u,int i64 y0.stop,.bool y0.down,.slice bA3 y1.queues.length bc3,.slice bA4 y1.aside.length bc4,.slice bA5 y1.answers.length bc5,int i64 y1.turn,int i64 y1.next]) hb (by simp);rw[World.size_alloc]at hK2;have K1:=hid hK1;have K2:=hid hK2;have k1_15:=Blk.cell hK1 15;have k2_15:=Blk.cell hK2 15;have k1_16:=Blk.cell hK1 16;have k2_16:=Blk.cell hK2 16;have k1_17:=Blk.cell hK1 17;have k2_17:=Blk.cell hK2 17;have k1_18:=Blk.cell hK1 18;have k2_18:=Blk.cell hK2 18;have k1_19:=Blk.cell hK1 19;have k2_19:=Blk.cell hK2 19;simp only[List.getElem?_toArray,List.getElem?_cons_zero,List.getElem?_cons_succ]at k1_15 k2_15 k1_16 k2_16 k1_17 k2_17 k1_18 k2_18 k1_19 k2_19;clear hK1 hK2;have BB0:=BB.out;clear BB;have BB:=hid ((BB0 _ _).trans (hb.mono (BB0 _ _).size));clear hb BB0;by_cases q:x0=y0
 case neg =>
  have e1:rb=false:=by rw[← RB.out];exact decide_eq_false (fun e => q (congrArg AY.world e))
  subst e1;rw[decide_eq_false q];clear q;go_wp2_with fail
  go_ret
  exact⟨rfl,BB.out⟩
 rw[decide_eq_true q];subst q;go_wp2_with fail
 refine(eqDesk_c x1 y1 _ _ _ _ _ ⟨_,_,_,_,_,_,rfl,rfl,ao11,ao12,rSl.below (Ai.local_ Af.local_) (Ai.fixed Af.fixed) aH3.out BB.out,rSl.below Af.local_ Af.fixed aH4.out BB.out,rSl.below Am.local_ Am.fixed aH5.out BB.out⟩ ⟨_,_,_,_,_,_,rfl,rfl,bo11,bo12,rSl.below (Ai.local_ Af.local_) (Ai.fixed Af.fixed) bH3.out BB.out,rSl.below Af.local_ Af.fixed bH4.out BB.out,rSl.below Am.local_ Am.fixed bH5.out BB.out⟩).mono ?_;rintro e u1 ⟨rfl,hb⟩;have hK1:=Blk.below K1.out hb K1.out.lt;have hK2:=Blk.below K2.out hb K2.out.lt;clear K1 K2 k1_15 k2_15 k1_16 k2_16 k1_17 k2_17 k1_18 k2_18 k1_19 k2_19;have K1:=hid hK1;have K2:=hid hK2;clear hK1 hK2;replace BB:=hid (BB.out.trans (hb.mono (BB.out).size));clear hb
 by_cases q:x1=y1
 case neg =>
  have e1:rb=false:=by rw[← RB.out];exact decide_eq_false (fun e => q (congrArg AY.desk e))
  subst e1;rw[decide_eq_false q];clear q;go_wp2_with fail
  go_ret
  exact⟨rfl,BB.out⟩
 rw[decide_eq_true q];subst q;have e1:rb=true:=by rw[← RB.out];exact decide_eq_true rfl
 subst e1;go_wp2_with fail
 go_ret
 exact⟨rfl,BB.out⟩
end Go.Proofs.YtfjkoifpdoemdaaGreat
