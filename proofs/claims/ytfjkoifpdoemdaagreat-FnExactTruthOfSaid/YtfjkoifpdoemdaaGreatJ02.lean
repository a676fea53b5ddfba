/- Part 2 of the proof. -/
import Derived.Test.YtfjkoifpdoemdaaGreatJ01
set_option maxHeartbeats 8000000
set_option maxRecDepth 100000
set_option linter.unusedVariables false
set_option linter.unusedSimpArgs false
open Go.Proofs.Tryz
open Go.Value (int)
open Go.IntKind (i64)
namespace Go.Proofs.YtfjkoifpdoemdaaGreat
open Go.RowKit Go.Sort
theorem Qh(d1 d2:AX)(cs1 cs2:List Value)(f1 f2:List Addr)(w:World)(h1:D9 w f1 cs1 d1)(h2:D9 w f2 cs2 d2) :
  Calls prog 49 #[.agg cs1.toArray,.agg cs2.toArray] w fun e w' => e= .returned (.bool (decide (d1=d2)))∧Below w.heap.size w w':=by
 obtain⟨x0,x1,x2,x3,x4,x5,x6,x7,x8⟩:=d1;obtain⟨y0,y1,y2,y3,y4,y5,y6,y7,y8⟩:=d2;dsimp only[D9]at h1 h2;obtain⟨e,-,ao0,ao1,ao2,ao3,ao4,ao5,ao6,ao7,ao8⟩:=h1;subst e;obtain⟨e,-,bo0,bo1,bo2,bo3,bo4,bo5,bo6,bo7,bo8⟩:=h2;subst e;obtain⟨rb,hrb⟩:∃rb,decide ((⟨x0,x1,x2,x3,x4,x5,x6,x7,x8⟩:AX)=⟨y0,y1,y2,y3,y4,y5,y6,y7,y8⟩)=rb:=⟨_,rfl⟩;rw[hrb];have RB:=U hrb;clear hrb;have BB:=U (show∀o1 o2:Obj,Below w.heap.size w ((w.alloc o1).alloc o2)from fun o1 o2 =>((aB _ _).alloc (aC _) _).alloc (by simp) _);by_cases q:x0=y0
 case neg =>
  have e1:rb=false:=by rw[← RB.o];exact aG (fun e => q (congrArg AX.g e))
  subst e1;have hq:(x0 != y0)=true:=bne_iff_ne.2 q;clear q;go_enter func49,ntmps49
  go_wp2_with fail
  go_ret
  exact⟨rfl,(BB.o _ _)⟩
 subst q;by_cases q:x1=y1
 case neg =>
  have e1:rb=false:=by rw[← RB.o];exact aG (fun e => q (congrArg AX.c e))
  subst e1;have hq:(x1 != y1)=true:=bne_iff_ne.2 q;clear q;go_enter func49,ntmps49
  go_wp2_with fail
  go_ret
  exact⟨rfl,(BB.o _ _)⟩
 subst q;by_cases q:x2=y2
 case neg =>
  have e1:rb=false:=by rw[← RB.o];exact aG (fun e => q (congrArg AX.data e))
  subst e1;have hq:(x2 != y2)=true:=bne_iff_ne.2 q;clear q;go_enter func49,ntmps49
  go_wp2_with fail
  go_ret
  exact⟨rfl,(BB.o _ _)⟩
 subst q;by_cases q:x3=y3
 case neg =>
  have e1:rb=false:=by rw[← RB.o];exact aG (fun e => q (congrArg AX.p e))
  subst e1;have hq:(x3 != y3)=true:=bne_iff_ne.2 q;clear q;go_enter func49,ntmps49
  go_wp2_with fail
  go_ret
  exact⟨rfl,(BB.o _ _)⟩
 subst q;by_cases q:x4=y4
 case neg =>
  have e1:rb=false:=by rw[← RB.o];exact aG (fun e => q (congrArg AX.rows e))
  subst e1;have hq:(x4 != y4)=true:=bne_iff_ne.2 q;clear q;go_enter func49,ntmps49
  go_wp2_with fail
  go_ret
  exact⟨rfl,(BB.o _ _)⟩
 subst q;by_cases q:x5=y5
 case neg =>
  have e1:rb=false:=by rw[← RB.o];exact aG (fun e => q (congrArg AX.cap e))
  subst e1;have hq:(x5 != y5)=true:=bne_iff_ne.2 q;clear q;go_enter func49,ntmps49
  go_wp2_with fail
  go_ret
  exact⟨rfl,(BB.o _ _)⟩
 subst q;by_cases q:x6=y6
 case neg =>
  have e1:rb=false:=by rw[← RB.o];exact aG (fun e => q (congrArg AX.b e))
  subst e1;have hq:(x6 != y6)=true:=bne_iff_ne.2 q;clear q;go_enter func49,ntmps49
  go_wp2_with fail
  go_ret
  exact⟨rfl,(BB.o _ _)⟩
 subst q;by_cases q:x7=y7
 case neg =>
  have e1:rb=false:=by rw[← RB.o];exact aG (fun e => q (congrArg AX.q e))
  subst e1;have hq:(x7 != y7)=true:=bne_iff_ne.2 q;clear q;go_enter func49,ntmps49
  go_wp2_with fail
  go_ret
  exact⟨rfl,(BB.o _ _)⟩
 subst q;by_cases q:x8=y8
 case neg =>
  have e1:rb=false:=by rw[← RB.o];exact aG (fun e => q (congrArg AX.t e))
  subst e1;have hq:(x8 != y8)=true:=bne_iff_ne.2 q;clear q;go_enter func49,ntmps49
  go_wp2_with fail
  go_ret
  exact⟨rfl,(BB.o _ _)⟩
 subst q;have e1:rb=true:=by rw[← RB.o];exact aK rfl
 subst e1;go_enter func49,ntmps49
 go_wp2_with fail
 go_ret
 exact⟨rfl,(BB.o _ _)⟩
theorem Qf(d1 d2:Bt)(cs1 cs2:List Value)(f1 f2:List Addr)(w:World)(h1:AE w f1 cs1 d1)(h2:AE w f2 cs2 d2) :
  Calls prog 291 #[.agg cs1.toArray,.agg cs2.toArray] w fun e w' => e= .returned (.bool (decide (d1=d2)))∧Below w.heap.size w w':=by
 obtain⟨x0,x1⟩:=d1;obtain⟨y0,y1⟩:=d2;dsimp only[AE]at h1 h2;obtain⟨av0,af0,e,-,ao0,ah0⟩:=h1;subst e;obtain⟨bv0,bf0,e,-,bo0,bh0⟩:=h2;subst e;have aH0:=U ah0;obtain⟨aA0,ac0,rfl,-⟩:=rSl.head ah0;clear ah0;have bH0:=U bh0;obtain⟨bA0,bc0,rfl,-⟩:=rSl.head bh0;clear bh0;obtain⟨rb,hrb⟩:∃rb,decide ((⟨x0,x1⟩:Bt)=⟨y0,y1⟩)=rb:=⟨_,rfl⟩;rw[hrb];have RB:=U hrb;clear hrb;have BB:=U (show∀o1 o2:Obj,Below w.heap.size w ((w.alloc o1).alloc o2)from fun o1 o2 =>((aB _ _).alloc (aC _) _).alloc (by simp) _);by_cases q:x0=y0
 case neg =>
  have e1:rb=false:=by rw[← RB.o];exact aG (fun e => q (congrArg Bt.stamp e))
  subst e1;have hq:(x0 != y0)=true:=bne_iff_ne.2 q;clear q;go_enter func291,ntmps291
  go_wp2_with fail
  go_ret
  exact⟨rfl,(BB.o _ _)⟩
 subst q;go_enter func291,ntmps291
 go_wp2_with fail
 refine(GS _ _ x1 y1 _ _ _ (rSl.below Ai.local_ Ai.fixed aH0.o (BB.o _ _)) (rSl.below Ai.local_ Ai.fixed bH0.o (BB.o _ _))).mono ?_;rintro e u1 ⟨rfl,hb⟩;have hK1:=Blk.below ((Blk.new w 196 #[int i64 x0,.slice aA0 x1.length ac0]).alloc (.cells #[int i64 x0,.slice bA0 y1.length bc0] 196)) hb (by simp;omega);have hK2:=Blk.below (Blk.new (w.alloc (.cells #[int i64 x0,.slice aA0 x1.length ac0] 196)) 196 #[int i64 x0,.slice bA0 y1.length bc0]) hb (by simp);rw[World.size_alloc]at hK2;have K1:=U hK1;have K2:=U hK2;clear hK1 hK2;have BB0:=BB.o;clear BB;have BB:=U ((BB0 _ _).trans (hb.mono (BB0 _ _).size));clear hb BB0;by_cases q:x1=y1
 case neg =>
  have e1:rb=false:=by rw[← RB.o];exact aG (fun e => q (congrArg Bt.bytes e))
  subst e1;rw[aG q];clear q;go_wp2_with fail
  go_ret
  exact⟨rfl,BB.o⟩
 rw[aK q];subst q;have e1:rb=true:=by rw[← RB.o];exact aK rfl
 subst e1;go_wp2_with fail
 go_ret
 exact⟨rfl,BB.o⟩
theorem OY(v1 v2:Value)(xs ys:List Bt)(f1 f2:List Addr)(w:World)(h1:rSl 2 AE w f1 v1 xs)(h2:rSl 2 AE w f2 v2 ys) :
  Calls prog 255 #[v1,v2] w fun e w' => e= .returned (.bool (decide (xs=ys)))∧Below w.heap.size w w':=by
 obtain⟨A1,c1,rfl,hc1,hm1,hx⟩:=rSl.at_ AE.fixed (by decide) h1;obtain⟨A2,c2,rfl,hc2,hm2,hy⟩:=rSl.at_ AE.fixed (by decide) h2;clear h1 h2;obtain⟨rb,hrb⟩:∃rb,decide (xs=ys)=rb:=⟨_,rfl⟩;rw[hrb];have RB:=U hrb;clear hrb;have HX:=U hx;have HY:=U hy;clear hx hy;by_cases hl:xs.length=ys.length
 ·have hb:=Db hl;have HL:=U hl;clear hl;go_enter func255,ntmps255
  go_wp2
  go_loopw [4,5] (fun r i wr =>∃k:Nat,k≤xs.length∧i= int i64 k∧r= .bool false∧xs.take k=ys.take k∧Below w.heap.size w wr) (fun _ i _ => xs.length - (intOf i).toNat)
  case atStart => exact⟨0,by omega,rfl,rfl,by simp,aB _ _⟩
  case round =>
   obtain⟨k,hk,rfl,rfl,ht,hbl⟩:=hrel;have HT:=U ht;clear ht;by_cases hlt:k<xs.length
   ·have hlt2:k<ys.length:=by rw[← HL.o];exact hlt
    obtain⟨a1,b1,o1,cs1,g1,e1,at1⟩:=HX.o k hlt;obtain⟨a2,b2,o2,cs2,g2,e2,at2⟩:=HY.o k hlt2;subst e1 e2;replace at1:=at1.below AE.local_ hbl
    replace at2:=at2.below AE.local_ hbl
    have HB:=U hbl;clear hbl;clear HX HY;obtain⟨av0,af0,e,-,-,ah0⟩:=at1.reads;subst e;obtain⟨aA0,ac0,rfl,-⟩:=rSl.head ah0;clear ah0;obtain⟨bv0,bf0,e,-,-,bh0⟩:=at2.reads;subst e;obtain⟨bA0,bc0,rfl,-⟩:=rSl.head bh0;clear bh0;have hP1:=at1.place;have hP2:=at2.place;have ap0:=aA (at1.cell 0 (by simp));have ap1:=aA (at1.cell 1 (by simp));simp only[aU,bM,bE]at ap0 ap1;have bp0:=aA (at2.cell 0 (by simp));have bp1:=aA (at2.cell 1 (by simp));simp only[aU,bM,bE]at bp0 bp1;have hc:∀d os,Calls prog 291 #[.agg #[int i64 xs[k].stamp,.slice aA0 xs[k].bytes.length ac0],.agg #[int i64 ys[k].stamp,.slice bA0 ys[k].bytes.length bc0]] (grow (redrawn wr d) os) fun e w'' => e= .returned (.bool (decide (xs[k] =ys[k])))∧∃p:Regrown,w''=grow (redrawn wr p.d) p.os :=
     fun d os => Calls.regrown_of (Qf xs[k] ys[k] _ _ g1 g2 _ (AB.below AE.local_ AE.fixed at1.reads (aH wr d os)) (AB.below AE.local_ AE.fixed at2.reads (aH wr d os)))
    obtain⟨bb,hbb⟩:∃bb,decide (xs[k] =ys[k])=bb:=⟨_,rfl⟩;rw[hbb]at hc;have HBB:=U hbb;clear hbb;have HC:=U hc;clear hc;have AT1:=U at1;have AT2:=U at2;clear at1 at2;go_wp2_with fail
    refine aF (by kernel_rfl) (by kernel_rfl) ?_;repeat(first|go_big_quiet_step (exact HC.o _ _)|quiet_step (exact HC.o _ _))
    refine aP ?_;intro _ hw';obtain⟨⟨dq,osq⟩,hw''⟩:=hw';subst hw'';have HB1:=U (HB.o.trans ((aH wr dq osq).mono HB.o.size));cases bb with
    |true =>
     have he:=bO HBB.o;have HE:=U he;clear he;go_wp2_with fail
     go_roundw
     case rel => exact⟨k+1,by omega,by go_num,rfl,FO HT.o hlt hlt2 HE.o,HB1.o⟩
     case measure => simp[intOf];omega
    |false =>
     have he:=of_decide_eq_false HBB.o;have e1:rb=false:=by rw[← RB.o];exact aG (fun e => he (by subst e;rfl))
     subst e1;clear he;go_wp2_with fail
     go_ret
     exact⟨rfl,HB1.o⟩
   ·have hk':k=xs.length:=by omega
    have H:=HT.o;rw[hk',aV,HL.o,aV]at H;have e1:rb=true:=by rw[← RB.o];exact aK H
    subst e1;have HB:=U hbl;clear H hk' HX HY hbl;go_wp2
    go_ret
    exact⟨rfl,HB.o⟩
 ·have hb:=Dc hl;have e1:rb=false:=by rw[← RB.o];exact aG (fun e => hl (by rw[e]))
  subst e1;clear HX HY;go_enter func255,ntmps255
  go_wp2
  go_ret
  exact⟨rfl,aB _ _⟩
theorem Qg(d1 d2:AL)(cs1 cs2:List Value)(f1 f2:List Addr)(w:World)(h1:Ak w f1 cs1 d1)(h2:Ak w f2 cs2 d2) :
  Calls prog 183 #[.agg cs1.toArray,.agg cs2.toArray] w fun e w' => e= .returned (.bool (decide (d1=d2)))∧Below w.heap.size w w':=by
 obtain⟨x0,x1⟩:=d1;obtain⟨y0,y1⟩:=d2;dsimp only[Ak]at h1 h2;obtain⟨av0,af0,e,-,ah0⟩:=h1;subst e;obtain⟨bv0,bf0,e,-,bh0⟩:=h2;subst e;have aH0:=U ah0;obtain⟨aA0,ac0,rfl,-⟩:=rSl.head ah0;clear ah0;have bH0:=U bh0;obtain⟨bA0,bc0,rfl,-⟩:=rSl.head bh0;clear bh0;obtain⟨rb,hrb⟩:∃rb,decide ((⟨x0,x1⟩:AL)=⟨y0,y1⟩)=rb:=⟨_,rfl⟩;rw[hrb];have RB:=U hrb;clear hrb;have BB:=U (show∀o1 o2:Obj,Below w.heap.size w ((w.alloc o1).alloc o2)from fun o1 o2 =>((aB _ _).alloc (aC _) _).alloc (by simp) _);by_cases q:x0=y0
 case neg =>
  have e1:rb=false:=by rw[← RB.o];exact aG (fun e => q (congrArg AL.wiped e))
  subst e1;have hq:(!x0 == y0)=true:=by simpa using q
  clear q;go_enter func183,ntmps183
  go_wp2_with fail
  go_ret
  exact⟨rfl,(BB.o _ _)⟩
 subst q;go_enter func183,ntmps183
 go_wp2_with fail
 refine(OY _ _ x1 y1 _ _ _ (rSl.below AE.local_ AE.fixed aH0.o (BB.o _ _)) (rSl.below AE.local_ AE.fixed bH0.o (BB.o _ _))).mono ?_;rintro e u1 ⟨rfl,hb⟩;have hK1:=Blk.below ((Blk.new w 194 #[.bool x0,.slice aA0 x1.length ac0]).alloc (.cells #[.bool x0,.slice bA0 y1.length bc0] 194)) hb (by simp;omega);have hK2:=Blk.below (Blk.new (w.alloc (.cells #[.bool x0,.slice aA0 x1.length ac0] 194)) 194 #[.bool x0,.slice bA0 y1.length bc0]) hb (by simp);rw[World.size_alloc]at hK2;have K1:=U hK1;have K2:=U hK2;clear hK1 hK2;have BB0:=BB.o;clear BB;have BB:=U ((BB0 _ _).trans (hb.mono (BB0 _ _).size));clear hb BB0;by_cases q:x1=y1
 case neg =>
  have e1:rb=false:=by rw[← RB.o];exact aG (fun e => q (congrArg AL.blocks e))
  subst e1;rw[aG q];clear q;go_wp2_with fail
  go_ret
  exact⟨rfl,BB.o⟩
 rw[aK q];subst q;have e1:rb=true:=by rw[← RB.o];exact aK rfl
 subst e1;go_wp2_with fail
 go_ret
 exact⟨rfl,BB.o⟩
theorem OZ(v1 v2:Value)(xs ys:List AL)(f1 f2:List Addr)(w:World)(h1:rSl 2 Ak w f1 v1 xs)(h2:rSl 2 Ak w f2 v2 ys) :
  Calls prog 106 #[v1,v2] w fun e w' => e= .returned (.bool (decide (xs=ys)))∧Below w.heap.size w w':=by
 obtain⟨A1,c1,rfl,hc1,hm1,hx⟩:=rSl.at_ Ak.fixed (by decide) h1;obtain⟨A2,c2,rfl,hc2,hm2,hy⟩:=rSl.at_ Ak.fixed (by decide) h2;clear h1 h2;obtain⟨rb,hrb⟩:∃rb,decide (xs=ys)=rb:=⟨_,rfl⟩;rw[hrb];have RB:=U hrb;clear hrb;have HX:=U hx;have HY:=U hy;clear hx hy;by_cases hl:xs.length=ys.length
 ·have hb:=Db hl;have HL:=U hl;clear hl;go_enter func106,ntmps106
  go_wp2
  go_loopw [4,5] (fun r i wr =>∃k:Nat,k≤xs.length∧i= int i64 k∧r= .bool false∧xs.take k=ys.take k∧Below w.heap.size w wr) (fun _ i _ => xs.length - (intOf i).toNat)
  case atStart => exact⟨0,by omega,rfl,rfl,by simp,aB _ _⟩
  case round =>
   obtain⟨k,hk,rfl,rfl,ht,hbl⟩:=hrel;have HT:=U ht;clear ht;by_cases hlt:k<xs.length
   ·have hlt2:k<ys.length:=by rw[← HL.o];exact hlt
    obtain⟨a1,b1,o1,cs1,g1,e1,at1⟩:=HX.o k hlt;obtain⟨a2,b2,o2,cs2,g2,e2,at2⟩:=HY.o k hlt2;subst e1 e2;replace at1:=at1.below Ak.local_ hbl
    replace at2:=at2.below Ak.local_ hbl
    have HB:=U hbl;clear hbl;clear HX HY;obtain⟨av0,af0,e,-,ah0⟩:=at1.reads;subst e;obtain⟨aA0,ac0,rfl,-⟩:=rSl.head ah0;clear ah0;obtain⟨bv0,bf0,e,-,bh0⟩:=at2.reads;subst e;obtain⟨bA0,bc0,rfl,-⟩:=rSl.head bh0;clear bh0;have hP1:=at1.place;have hP2:=at2.place;have ap0:=aA (at1.cell 0 (by simp));have ap1:=aA (at1.cell 1 (by simp));simp only[aU,bM,bE]at ap0 ap1;have bp0:=aA (at2.cell 0 (by simp));have bp1:=aA (at2.cell 1 (by simp));simp only[aU,bM,bE]at bp0 bp1;have hc:∀d os,Calls prog 183 #[.agg #[.bool xs[k].wiped,.slice aA0 xs[k].blocks.length ac0],.agg #[.bool ys[k].wiped,.slice bA0 ys[k].blocks.length bc0]] (grow (redrawn wr d) os) fun e w'' => e= .returned (.bool (decide (xs[k] =ys[k])))∧∃p:Regrown,w''=grow (redrawn wr p.d) p.os :=
     fun d os => Calls.regrown_of (Qg xs[k] ys[k] _ _ g1 g2 _ (AB.below Ak.local_ Ak.fixed at1.reads (aH wr d os)) (AB.below Ak.local_ Ak.fixed at2.reads (aH wr d os)))
    obtain⟨bb,hbb⟩:∃bb,decide (xs[k] =ys[k])=bb:=⟨_,rfl⟩;rw[hbb]at hc;have HBB:=U hbb;clear hbb;have HC:=U hc;clear hc;have AT1:=U at1;have AT2:=U at2;clear at1 at2;go_wp2_with fail
    refine aF (by kernel_rfl) (by kernel_rfl) ?_;repeat(first|go_big_quiet_step (exact HC.o _ _)|quiet_step (exact HC.o _ _))
    refine aP ?_;intro _ hw';obtain⟨⟨dq,osq⟩,hw''⟩:=hw';subst hw'';have HB1:=U (HB.o.trans ((aH wr dq osq).mono HB.o.size));cases bb with
    |true =>
     have he:=bO HBB.o;have HE:=U he;clear he;go_wp2_with fail
     go_roundw
     case rel => exact⟨k+1,by omega,by go_num,rfl,FO HT.o hlt hlt2 HE.o,HB1.o⟩
     case measure => simp[intOf];omega
    |false =>
     have he:=of_decide_eq_false HBB.o;have e1:rb=false:=by rw[← RB.o];exact aG (fun e => he (by subst e;rfl))
     subst e1;clear he;go_wp2_with fail
     go_ret
     exact⟨rfl,HB1.o⟩
   ·have hk':k=xs.length:=by omega
    have H:=HT.o;rw[hk',aV,HL.o,aV]at H;have e1:rb=true:=by rw[← RB.o];exact aK H
    subst e1;have HB:=U hbl;clear H hk' HX HY hbl;go_wp2
    go_ret
    exact⟨rfl,HB.o⟩
 ·have hb:=Dc hl;have e1:rb=false:=by rw[← RB.o];exact aG (fun e => hl (by rw[e]))
  subst e1;clear HX HY;go_enter func106,ntmps106
  go_wp2
  go_ret
  exact⟨rfl,aB _ _⟩
theorem NS(v1 v2:Value)(xs ys:List (List AL))(f1 f2:List Addr)(w:World)(h1:rSl 1 (Al 2 Ak) w f1 v1 xs)(h2:rSl 1 (Al 2 Ak) w f2 v2 ys) :
  Calls prog 50 #[v1,v2] w fun e w' => e= .returned (.bool (decide (xs=ys)))∧Below w.heap.size w w':=by
 obtain⟨A1,c1,rfl,hc1,hm1,hx⟩:=rSl.at_ (Al.fixed Ak.fixed) (by decide) h1;obtain⟨A2,c2,rfl,hc2,hm2,hy⟩:=rSl.at_ (Al.fixed Ak.fixed) (by decide) h2;clear h1 h2;obtain⟨rb,hrb⟩:∃rb,decide (xs=ys)=rb:=⟨_,rfl⟩;rw[hrb];have RB:=U hrb;clear hrb;have HX:=U hx;have HY:=U hy;clear hx hy;by_cases hl:xs.length=ys.length
 ·have hb:=Db hl;have HL:=U hl;clear hl;go_enter func50,ntmps50
  go_wp2
  go_loopw [4,5] (fun r i wr =>∃k:Nat,k≤xs.length∧i= int i64 k∧r= .bool false∧xs.take k=ys.take k∧Below w.heap.size w wr) (fun _ i _ => xs.length - (intOf i).toNat)
  case atStart => exact⟨0,by omega,rfl,rfl,by simp,aB _ _⟩
  case round =>
   obtain⟨k,hk,rfl,rfl,ht,hbl⟩:=hrel;have HT:=U ht;clear ht;by_cases hlt:k<xs.length
   ·have hlt2:k<ys.length:=by rw[← HL.o];exact hlt
    obtain⟨a1,b1,o1,cs1,g1,e1,at1⟩:=HX.o k hlt;obtain⟨a2,b2,o2,cs2,g2,e2,at2⟩:=HY.o k hlt2;subst e1 e2;replace at1:=at1.below (Al.local_ Ak.local_) hbl
    replace at2:=at2.below (Al.local_ Ak.local_) hbl
    have HB:=U hbl;clear hbl;clear HX HY;obtain⟨av0,e,ah0⟩:=at1.reads;subst e;obtain⟨aA0,ac0,rfl,-⟩:=rSl.head ah0;clear ah0;obtain⟨bv0,e,bh0⟩:=at2.reads;subst e;obtain⟨bA0,bc0,rfl,-⟩:=rSl.head bh0;clear bh0;have hP1:=at1.place;have hP2:=at2.place;simp only[Nat.mul_one]at hP1 hP2;have ap0:=aA (at1.cell 0 (by simp));simp only[aU,bE]at ap0;have bp0:=aA (at2.cell 0 (by simp));simp only[aU,bE]at bp0;have hc:∀d os,Calls prog 106 #[.slice aA0 xs[k].length ac0,.slice bA0 ys[k].length bc0] (grow (redrawn wr d) os) fun e w'' => e= .returned (.bool (decide (xs[k] =ys[k])))∧∃p:Regrown,w''=grow (redrawn wr p.d) p.os :=
     fun d os => Calls.regrown_of (OZ _ _ xs[k] ys[k] g1 g2 _ (rSl.below Ak.local_ Ak.fixed (Al.one at1.reads) (aH wr d os)) (rSl.below Ak.local_ Ak.fixed (Al.one at2.reads) (aH wr d os)))
    obtain⟨bb,hbb⟩:∃bb,decide (xs[k] =ys[k])=bb:=⟨_,rfl⟩;rw[hbb]at hc;have HBB:=U hbb;clear hbb;have HC:=U hc;clear hc;have AT1:=U at1;have AT2:=U at2;clear at1 at2;go_wp2_with fail
    refine aF (by kernel_rfl) (by kernel_rfl) ?_;repeat(first|go_big_quiet_step (exact HC.o _ _)|quiet_step (exact HC.o _ _))
    refine aP ?_;intro _ hw';obtain⟨⟨dq,osq⟩,hw''⟩:=hw';subst hw'';have HB1:=U (HB.o.trans ((aH wr dq osq).mono HB.o.size));cases bb with
    |true =>
     have he:=bO HBB.o;have HE:=U he;clear he;go_wp2_with fail
     go_roundw
     case rel => exact⟨k+1,by omega,by go_num,rfl,FO HT.o hlt hlt2 HE.o,HB1.o⟩
     case measure => simp[intOf];omega
    |false =>
     have he:=of_decide_eq_false HBB.o;have e1:rb=false:=by rw[← RB.o];exact aG (fun e => he (by subst e;rfl))
     subst e1;clear he;go_wp2_with fail
     go_ret
     exact⟨rfl,HB1.o⟩
   ·have hk':k=xs.length:=by omega
    have H:=HT.o;rw[hk',aV,HL.o,aV]at H;have e1:rb=true:=by rw[← RB.o];exact aK H
    subst e1;have HB:=U hbl;clear H hk' HX HY hbl;go_wp2
    go_ret
    exact⟨rfl,HB.o⟩
 ·have hb:=Dc hl;have e1:rb=false:=by rw[← RB.o];exact aG (fun e => hl (by rw[e]))
  subst e1;clear HX HY;go_enter func50,ntmps50
  go_wp2
  go_ret
  exact⟨rfl,aB _ _⟩
theorem eqRec_c(d1 d2:Ah)(cs1 cs2:List Value)(f1 f2:List Addr)(w:World)(h1:Ac w f1 cs1 d1)(h2:Ac w f2 cs2 d2) :
  Calls prog 256 #[.agg cs1.toArray,.agg cs2.toArray] w fun e w' => e= .returned (.bool (decide (d1=d2)))∧Below w.heap.size w w':=by
 obtain⟨x0,x1,x2,x3,x4,x5,x6,x7,x8⟩:=d1;obtain⟨y0,y1,y2,y3,y4,y5,y6,y7,y8⟩:=d2;dsimp only[Ac]at h1 h2;obtain⟨av0,av1,av2,af0,af1,af2,e,-,ao0,ao1,ao2,ao3,ao4,ao5,ah0,ah1,ah2⟩:=h1;subst e;obtain⟨bv0,bv1,bv2,bf0,bf1,bf2,e,-,bo0,bo1,bo2,bo3,bo4,bo5,bh0,bh1,bh2⟩:=h2;subst e;have aH0:=U ah0;obtain⟨aA0,ac0,rfl,-⟩:=rSl.head ah0;clear ah0;have aH1:=U ah1;obtain⟨aA1,ac1,rfl,-⟩:=rSl.head ah1;clear ah1;have aH2:=U ah2;obtain⟨aA2,ac2,rfl,-⟩:=rSl.head ah2;clear ah2;have bH0:=U bh0;obtain⟨bA0,bc0,rfl,-⟩:=rSl.head bh0;clear bh0;have bH1:=U bh1;obtain⟨bA1,bc1,rfl,-⟩:=rSl.head bh1;clear bh1;have bH2:=U bh2;obtain⟨bA2,bc2,rfl,-⟩:=rSl.head bh2;clear bh2;obtain⟨rb,hrb⟩:∃rb,decide ((⟨x0,x1,x2,x3,x4,x5,x6,x7,x8⟩:Ah)=⟨y0,y1,y2,y3,y4,y5,y6,y7,y8⟩)=rb:=⟨_,rfl⟩;rw[hrb];have RB:=U hrb;clear hrb;have BB:=U (show∀o1 o2:Obj,Below w.heap.size w ((w.alloc o1).alloc o2)from fun o1 o2 =>((aB _ _).alloc (aC _) _).alloc (by simp) _);by_cases q:x0=y0
 case neg =>
  have e1:rb=false:=by rw[← RB.o];exact aG (fun e => q (congrArg Ah.kind e))
  subst e1;have hq:(x0 != y0)=true:=bne_iff_ne.2 q;clear q;go_enter func256,ntmps256
  go_wp2_with fail
  go_ret
  exact⟨rfl,(BB.o _ _)⟩
 subst q;by_cases q:x1=y1
 case neg =>
  have e1:rb=false:=by rw[← RB.o];exact aG (fun e => q (congrArg Ah.seq e))
  subst e1;have hq:(x1 != y1)=true:=bne_iff_ne.2 q;clear q;go_enter func256,ntmps256
  go_wp2_with fail
  go_ret
  exact⟨rfl,(BB.o _ _)⟩
 subst q;by_cases q:x2=y2
 case neg =>
  have e1:rb=false:=by rw[← RB.o];exact aG (fun e => q (congrArg Ah.name e))
  subst e1;have hq:=NF q;clear q;go_enter func256,ntmps256
  go_wp2_with fail
  go_ret
  exact⟨rfl,(BB.o _ _)⟩
 subst q;have hs2:=strNeq_f (rfl:x2=x2);by_cases q:x3=y3
 case neg =>
  have e1:rb=false:=by rw[← RB.o];exact aG (fun e => q (congrArg Ah.length e))
  subst e1;have hq:(x3 != y3)=true:=bne_iff_ne.2 q;clear q;go_enter func256,ntmps256
  go_wp2_with fail
  go_ret
  exact⟨rfl,(BB.o _ _)⟩
 subst q;by_cases q:x4=y4
 case neg =>
  have e1:rb=false:=by rw[← RB.o];exact aG (fun e => q (congrArg Ah.group e))
  subst e1;have hq:(x4 != y4)=true:=bne_iff_ne.2 q;clear q;go_enter func256,ntmps256
  go_wp2_with fail
  go_ret
  exact⟨rfl,(BB.o _ _)⟩
 subst q;by_cases q:x5=y5
 case neg =>
  have e1:rb=false:=by rw[← RB.o];exact aG (fun e => q (congrArg Ah.row e))
  subst e1;have hq:(x5 != y5)=true:=bne_iff_ne.2 q;clear q;go_enter func256,ntmps256
  go_wp2_with fail
  go_ret
  exact⟨rfl,(BB.o _ _)⟩
 subst q;go_enter func256,ntmps256
 go_wp2_with fail
 refine(Km _ _ x6 y6 _ _ _ (rSl.below Az.local_ Az.fixed aH0.o (BB.o _ _)) (rSl.below Az.local_ Az.fixed bH0.o (BB.o _ _))).mono ?_;rintro e u6 ⟨rfl,hb⟩;have hK1:=Blk.below ((Blk.new w 119 #[int i64 x0,int i64 x1,.string x2,int i64 x3,int i64 x4,int i64 x5,.slice aA0 x6.length ac0,.slice aA1 x7.length ac1,.slice aA2 x8.length ac2]).alloc (.cells #[int i64 x0,int i64 x1,.string x2,int i64 x3,int i64 x4,int i64 x5,.slice bA0 y6.length bc0,.slice bA1 y7.length bc1,.slice bA2 y8.length bc2] 119)) hb (by simp;omega);have hK2:=Blk.below (Blk.new (w.alloc (.cells #[int i64 x0,int i64 x1,.string x2,int i64 x3,int i64 x4,int i64 x5,.slice aA0 x6.length ac0,.slice aA1 x7.length ac1,.slice aA2 x8.length ac2] 119)) 119 #[int i64 x0,int i64 x1,.string x2,int i64 x3,int i64 x4,int i64 x5,.slice bA0 y6.length bc0,.slice bA1 y7.length bc1,.slice bA2 y8.length bc2]) hb (by simp);rw[World.size_alloc]at hK2;have K1:=U hK1;have K2:=U hK2;have k1_7:=Blk.cell hK1 7;have k2_7:=Blk.cell hK2 7;have k1_8:=Blk.cell hK1 8;have k2_8:=Blk.cell hK2 8;simp only[List.getElem?_toArray,List.getElem?_cons_zero,List.getElem?_cons_succ]at k1_7 k2_7 k1_8 k2_8;clear hK1 hK2;have BB0:=BB.o;clear BB;have BB:=U ((BB0 _ _).trans (hb.mono (BB0 _ _).size));clear hb BB0;by_cases q:x6=y6
 case neg =>
  have e1:rb=false:=by rw[← RB.o];exact aG (fun e => q (congrArg Ah.rows e))
  subst e1;rw[aG q];clear q;go_wp2_with fail
  go_ret
  exact⟨rfl,BB.o⟩
 rw[aK q];subst q;go_wp2_with fail
 refine(GS _ _ x7 y7 _ _ _ (rSl.below Ai.local_ Ai.fixed aH1.o BB.o) (rSl.below Ai.local_ Ai.fixed bH1.o BB.o)).mono ?_;rintro e u7 ⟨rfl,hb⟩;have hK1:=Blk.below K1.o hb K1.o.lt;have hK2:=Blk.below K2.o hb K2.o.lt;clear K1 K2 k1_7 k2_7 k1_8 k2_8;have K1:=U hK1;have K2:=U hK2;have k1_8:=Blk.cell hK1 8;have k2_8:=Blk.cell hK2 8;simp only[List.getElem?_toArray,List.getElem?_cons_zero,List.getElem?_cons_succ]at k1_8 k2_8;clear hK1 hK2;replace BB:=U (BB.o.trans (hb.mono (BB.o).size));clear hb
 by_cases q:x7=y7
 case neg =>
  have e1:rb=false:=by rw[← RB.o];exact aG (fun e => q (congrArg Ah.data e))
  subst e1;rw[aG q];clear q;go_wp2_with fail
  go_ret
  exact⟨rfl,BB.o⟩
 rw[aK q];subst q;go_wp2_with fail
 refine(GS _ _ x8 y8 _ _ _ (rSl.below Ai.local_ Ai.fixed aH2.o BB.o) (rSl.below Ai.local_ Ai.fixed bH2.o BB.o)).mono ?_;rintro e u8 ⟨rfl,hb⟩;have hK1:=Blk.below K1.o hb K1.o.lt;have hK2:=Blk.below K2.o hb K2.o.lt;clear K1 K2 k1_8 k2_8;have K1:=U hK1;have K2:=U hK2;clear hK1 hK2;replace BB:=U (BB.o.trans (hb.mono (BB.o).size));clear hb
 by_cases q:x8=y8
 case neg =>
  have e1:rb=false:=by rw[← RB.o];exact aG (fun e => q (congrArg Ah.delta e))
  subst e1;rw[aG q];clear q;go_wp2_with fail
  go_ret
  exact⟨rfl,BB.o⟩
 rw[aK q];subst q;have e1:rb=true:=by rw[← RB.o];exact aK rfl
 subst e1;go_wp2_with fail
 go_ret
 exact⟨rfl,BB.o⟩
theorem eqRecS_c(v1 v2:Value)(xs ys:List Ah)(f1 f2:List Addr)(w:World)(h1:rSl 9 Ac w f1 v1 xs)(h2:rSl 9 Ac w f2 v2 ys) :
  Calls prog 184 #[v1,v2] w fun e w' => e= .returned (.bool (decide (xs=ys)))∧Below w.heap.size w w':=by
 obtain⟨A1,c1,rfl,hc1,hm1,hx⟩:=rSl.at_ Ac.fixed (by decide) h1;obtain⟨A2,c2,rfl,hc2,hm2,hy⟩:=rSl.at_ Ac.fixed (by decide) h2;clear h1 h2;obtain⟨rb,hrb⟩:∃rb,decide (xs=ys)=rb:=⟨_,rfl⟩;rw[hrb];have RB:=U hrb;clear hrb;have HX:=U hx;have HY:=U hy;clear hx hy;by_cases hl:xs.length=ys.length
 ·have hb:=Db hl;have HL:=U hl;clear hl;go_enter func184,ntmps184
  go_wp2
  go_loopw [4,5] (fun r i wr =>∃k:Nat,k≤xs.length∧i= int i64 k∧r= .bool false∧xs.take k=ys.take k∧Below w.heap.size w wr) (fun _ i _ => xs.length - (intOf i).toNat)
  case atStart => exact⟨0,by omega,rfl,rfl,by simp,aB _ _⟩
  case round =>
   obtain⟨k,hk,rfl,rfl,ht,hbl⟩:=hrel;have HT:=U ht;clear ht;by_cases hlt:k<xs.length
   ·have hlt2:k<ys.length:=by rw[← HL.o];exact hlt
    obtain⟨a1,b1,o1,cs1,g1,e1,at1⟩:=HX.o k hlt;obtain⟨a2,b2,o2,cs2,g2,e2,at2⟩:=HY.o k hlt2;subst e1 e2;replace at1:=at1.below Ac.local_ hbl
    replace at2:=at2.below Ac.local_ hbl
    have HB:=U hbl;clear hbl;clear HX HY;obtain⟨av0,av1,av2,af0,af1,af2,e,-,-,-,-,-,-,-,ah0,ah1,ah2⟩:=at1.reads;subst e;obtain⟨aA0,ac0,rfl,-⟩:=rSl.head ah0;obtain⟨aA1,ac1,rfl,-⟩:=rSl.head ah1;obtain⟨aA2,ac2,rfl,-⟩:=rSl.head ah2;clear ah0 ah1 ah2;obtain⟨bv0,bv1,bv2,bf0,bf1,bf2,e,-,-,-,-,-,-,-,bh0,bh1,bh2⟩:=at2.reads;subst e;obtain⟨bA0,bc0,rfl,-⟩:=rSl.head bh0;obtain⟨bA1,bc1,rfl,-⟩:=rSl.head bh1;obtain⟨bA2,bc2,rfl,-⟩:=rSl.head bh2;clear bh0 bh1 bh2;have hP1:=at1.place;have hP2:=at2.place;have ap0:=aA (at1.cell 0 (by simp));have ap1:=aA (at1.cell 1 (by simp));have ap2:=aA (at1.cell 2 (by simp));have ap3:=aA (at1.cell 3 (by simp));have ap4:=aA (at1.cell 4 (by simp));have ap5:=aA (at1.cell 5 (by simp));have ap6:=aA (at1.cell 6 (by simp));have ap7:=aA (at1.cell 7 (by simp));have ap8:=aA (at1.cell 8 (by simp));simp only[aU,bM,bE]at ap0 ap1 ap2 ap3 ap4 ap5 ap6 ap7 ap8;have bp0:=aA (at2.cell 0 (by simp));have bp1:=aA (at2.cell 1 (by simp));have bp2:=aA (at2.cell 2 (by simp));have bp3:=aA (at2.cell 3 (by simp));have bp4:=aA (at2.cell 4 (by simp));have bp5:=aA (at2.cell 5 (by simp));have bp6:=aA (at2.cell 6 (by simp));have bp7:=aA (at2.cell 7 (by simp));have bp8:=aA (at2.cell 8 (by simp));simp only[aU,bM,bE]at bp0 bp1 bp2 bp3 bp4 bp5 bp6 bp7 bp8;have hc:∀d os,Calls prog 256 #[.agg #[int i64 xs[k].kind,int i64 xs[k].seq,.string xs[k].name,int i64 xs[k].length,int i64 xs[k].group,int i64 xs[k].row,.slice aA0 xs[k].rows.length ac0,.slice aA1 xs[k].data.length ac1,.slice aA2 xs[k].delta.length ac2],.agg #[int i64 ys[k].kind,int i64 ys[k].seq,.string ys[k].name,int i64 ys[k].length,int i64 ys[k].group,int i64 ys[k].row,.slice bA0 ys[k].rows.length bc0,.slice bA1 ys[k].data.length bc1,.slice bA2 ys[k].delta.length bc2]] (grow (redrawn wr d) os) fun e w'' => e= .returned (.bool (decide (xs[k] =ys[k])))∧∃p:Regrown,w''=grow (redrawn wr p.d) p.os :=
     fun d os => Calls.regrown_of (eqRec_c xs[k] ys[k] _ _ g1 g2 _ (AB.below Ac.local_ Ac.fixed at1.reads (aH wr d os)) (AB.below Ac.local_ Ac.fixed at2.reads (aH wr d os)))
    obtain⟨bb,hbb⟩:∃bb,decide (xs[k] =ys[k])=bb:=⟨_,rfl⟩;rw[hbb]at hc;have HBB:=U hbb;clear hbb;have HC:=U hc;clear hc;have AT1:=U at1;have AT2:=U at2;clear at1 at2;go_wp2_with fail
    refine aF (by kernel_rfl) (by kernel_rfl) ?_;repeat(first|go_big_quiet_step (exact HC.o _ _)|quiet_step (exact HC.o _ _))
    refine aP ?_;intro _ hw';obtain⟨⟨dq,osq⟩,hw''⟩:=hw';subst hw'';have HB1:=U (HB.o.trans ((aH wr dq osq).mono HB.o.size));cases bb with
    |true =>
     have he:=bO HBB.o;have HE:=U he;clear he;go_wp2_with fail
     go_roundw
     case rel => exact⟨k+1,by omega,by go_num,rfl,FO HT.o hlt hlt2 HE.o,HB1.o⟩
     case measure => simp[intOf];omega
    |false =>
     have he:=of_decide_eq_false HBB.o;have e1:rb=false:=by rw[← RB.o];exact aG (fun e => he (by subst e;rfl))
     subst e1;clear he;go_wp2_with fail
     go_ret
     exact⟨rfl,HB1.o⟩
   ·have hk':k=xs.length:=by omega
    have H:=HT.o;rw[hk',aV,HL.o,aV]at H;have e1:rb=true:=by rw[← RB.o];exact aK H
    subst e1;have HB:=U hbl;clear H hk' HX HY hbl;go_wp2
    go_ret
    exact⟨rfl,HB.o⟩
 ·have hb:=Dc hl;have e1:rb=false:=by rw[← RB.o];exact aG (fun e => hl (by rw[e]))
  subst e1;clear HX HY;go_enter func184,ntmps184
  go_wp2
  go_ret
  exact⟨rfl,aB _ _⟩
theorem eqTape_c(d1 d2:AS)(cs1 cs2:List Value)(f1 f2:List Addr)(w:World)(h1:Ay w f1 cs1 d1)(h2:Ay w f2 cs2 d2) :
  Calls prog 107 #[.agg cs1.toArray,.agg cs2.toArray] w fun e w' => e= .returned (.bool (decide (d1=d2)))∧Below w.heap.size w w':=by
 obtain⟨x0,x1⟩:=d1;obtain⟨y0,y1⟩:=d2;dsimp only[Ay]at h1 h2;obtain⟨av0,af0,e,-,ah0⟩:=h1;subst e;obtain⟨bv0,bf0,e,-,bh0⟩:=h2;subst e;have aH0:=U ah0;obtain⟨aA0,ac0,rfl,-⟩:=rSl.head ah0;clear ah0;have bH0:=U bh0;obtain⟨bA0,bc0,rfl,-⟩:=rSl.head bh0;clear bh0;obtain⟨rb,hrb⟩:∃rb,decide ((⟨x0,x1⟩:AS)=⟨y0,y1⟩)=rb:=⟨_,rfl⟩;rw[hrb];have RB:=U hrb;clear hrb;have BB:=U (show∀o1 o2:Obj,Below w.heap.size w ((w.alloc o1).alloc o2)from fun o1 o2 =>((aB _ _).alloc (aC _) _).alloc (by simp) _);by_cases q:x0=y0
 case neg =>
  have e1:rb=false:=by rw[← RB.o];exact aG (fun e => q (congrArg AS.wiped e))
  subst e1;have hq:(!x0 == y0)=true:=by simpa using q
  clear q;go_enter func107,ntmps107
  go_wp2_with fail
  go_ret
  exact⟨rfl,(BB.o _ _)⟩
 subst q;go_enter func107,ntmps107
 go_wp2_with fail
 refine(eqRecS_c _ _ x1 y1 _ _ _ (rSl.below Ac.local_ Ac.fixed aH0.o (BB.o _ _)) (rSl.below Ac.local_ Ac.fixed bH0.o (BB.o _ _))).mono ?_;rintro e u1 ⟨rfl,hb⟩;have hK1:=Blk.below ((Blk.new w 139 #[.bool x0,.slice aA0 x1.length ac0]).alloc (.cells #[.bool x0,.slice bA0 y1.length bc0] 139)) hb (by simp;omega);have hK2:=Blk.below (Blk.new (w.alloc (.cells #[.bool x0,.slice aA0 x1.length ac0] 139)) 139 #[.bool x0,.slice bA0 y1.length bc0]) hb (by simp);rw[World.size_alloc]at hK2;have K1:=U hK1;have K2:=U hK2;clear hK1 hK2;have BB0:=BB.o;clear BB;have BB:=U ((BB0 _ _).trans (hb.mono (BB0 _ _).size));clear hb BB0;by_cases q:x1=y1
 case neg =>
  have e1:rb=false:=by rw[← RB.o];exact aG (fun e => q (congrArg AS.recs e))
  subst e1;rw[aG q];clear q;go_wp2_with fail
  go_ret
  exact⟨rfl,BB.o⟩
 rw[aK q];subst q;have e1:rb=true:=by rw[← RB.o];exact aK rfl
 subst e1;go_wp2_with fail
 go_ret
 exact⟨rfl,BB.o⟩
theorem Qi(v1 v2:Value)(xs ys:List AS)(f1 f2:List Addr)(w:World)(h1:rSl 2 Ay w f1 v1 xs)(h2:rSl 2 Ay w f2 v2 ys) :
  Calls prog 52 #[v1,v2] w fun e w' => e= .returned (.bool (decide (xs=ys)))∧Below w.heap.size w w':=by
 obtain⟨A1,c1,rfl,hc1,hm1,hx⟩:=rSl.at_ Ay.fixed (by decide) h1;obtain⟨A2,c2,rfl,hc2,hm2,hy⟩:=rSl.at_ Ay.fixed (by decide) h2;clear h1 h2;obtain⟨rb,hrb⟩:∃rb,decide (xs=ys)=rb:=⟨_,rfl⟩;rw[hrb];have RB:=U hrb;clear hrb;have HX:=U hx;have HY:=U hy;clear hx hy;by_cases hl:xs.length=ys.length
 ·have hb:=Db hl;have HL:=U hl;clear hl;go_enter func52,ntmps52
  go_wp2
  go_loopw [4,5] (fun r i wr =>∃k:Nat,k≤xs.length∧i= int i64 k∧r= .bool false∧xs.take k=ys.take k∧Below w.heap.size w wr) (fun _ i _ => xs.length - (intOf i).toNat)
  case atStart => exact⟨0,by omega,rfl,rfl,by simp,aB _ _⟩
  case round =>
   obtain⟨k,hk,rfl,rfl,ht,hbl⟩:=hrel;have HT:=U ht;clear ht;by_cases hlt:k<xs.length
   ·have hlt2:k<ys.length:=by rw[← HL.o];exact hlt
    obtain⟨a1,b1,o1,cs1,g1,e1,at1⟩:=HX.o k hlt;obtain⟨a2,b2,o2,cs2,g2,e2,at2⟩:=HY.o k hlt2;subst e1 e2;replace at1:=at1.below Ay.local_ hbl
    replace at2:=at2.below Ay.local_ hbl
    have HB:=U hbl;clear hbl;clear HX HY;obtain⟨av0,af0,e,-,ah0⟩:=at1.reads;subst e;obtain⟨aA0,ac0,rfl,-⟩:=rSl.head ah0;clear ah0;obtain⟨bv0,bf0,e,-,bh0⟩:=at2.reads;subst e;obtain⟨bA0,bc0,rfl,-⟩:=rSl.head bh0;clear bh0;have hP1:=at1.place;have hP2:=at2.place;have ap0:=aA (at1.cell 0 (by simp));have ap1:=aA (at1.cell 1 (by simp));simp only[aU,bM,bE]at ap0 ap1;have bp0:=aA (at2.cell 0 (by simp));have bp1:=aA (at2.cell 1 (by simp));simp only[aU,bM,bE]at bp0 bp1;have hc:∀d os,Calls prog 107 #[.agg #[.bool xs[k].wiped,.slice aA0 xs[k].recs.length ac0],.agg #[.bool ys[k].wiped,.slice bA0 ys[k].recs.length bc0]] (grow (redrawn wr d) os) fun e w'' => e= .returned (.bool (decide (xs[k] =ys[k])))∧∃p:Regrown,w''=grow (redrawn wr p.d) p.os :=
     fun d os => Calls.regrown_of (eqTape_c xs[k] ys[k] _ _ g1 g2 _ (AB.below Ay.local_ Ay.fixed at1.reads (aH wr d os)) (AB.below Ay.local_ Ay.fixed at2.reads (aH wr d os)))
    obtain⟨bb,hbb⟩:∃bb,decide (xs[k] =ys[k])=bb:=⟨_,rfl⟩;rw[hbb]at hc;have HBB:=U hbb;clear hbb;have HC:=U hc;clear hc;have AT1:=U at1;have AT2:=U at2;clear at1 at2;go_wp2_with fail
    refine aF (by kernel_rfl) (by kernel_rfl) ?_;repeat(first|go_big_quiet_step (exact HC.o _ _)|quiet_step (exact HC.o _ _))
    refine aP ?_;intro _ hw';obtain⟨⟨dq,osq⟩,hw''⟩:=hw';subst hw'';have HB1:=U (HB.o.trans ((aH wr dq osq).mono HB.o.size));cases bb with
    |true =>
     have he:=bO HBB.o;have HE:=U he;clear he;go_wp2_with fail
     go_roundw
     case rel => exact⟨k+1,by omega,by go_num,rfl,FO HT.o hlt hlt2 HE.o,HB1.o⟩
     case measure => simp[intOf];omega
    |false =>
     have he:=of_decide_eq_false HBB.o;have e1:rb=false:=by rw[← RB.o];exact aG (fun e => he (by subst e;rfl))
     subst e1;clear he;go_wp2_with fail
     go_ret
     exact⟨rfl,HB1.o⟩
   ·have hk':k=xs.length:=by omega
    have H:=HT.o;rw[hk',aV,HL.o,aV]at H;have e1:rb=true:=by rw[← RB.o];exact aK H
    subst e1;have HB:=U hbl;clear H hk' HX HY hbl;go_wp2
    go_ret
    exact⟨rfl,HB.o⟩
 ·have hb:=Dc hl;have e1:rb=false:=by rw[← RB.o];exact aG (fun e => hl (by rw[e]))
  subst e1;clear HX HY;go_enter func52,ntmps52
  go_wp2
  go_ret
  exact⟨rfl,aB _ _⟩
theorem Qk(d1 d2:Am)(cs1 cs2:List Value)(f1 f2:List Addr)(w:World)(h1:AC w f1 cs1 d1)(h2:AC w f2 cs2 d2) :
  Calls prog 12 #[.agg cs1.toArray,.agg cs2.toArray] w fun e w' => e= .returned (.bool (decide (d1=d2)))∧Below w.heap.size w w':=by
 obtain⟨x0,x1,x2,x3,x4,x5,x6⟩:=d1;obtain⟨y0,y1,y2,y3,y4,y5,y6⟩:=d2;dsimp only[AC]at h1 h2;obtain⟨av0,av1,av2,af0,af1,af2,e,-,ao0,ao1,ao2,ao3,ao4,ao5,ao6,ao7,ao8,ao9,ao10,ah0,ah1,ah2⟩:=h1;subst e;obtain⟨bv0,bv1,bv2,bf0,bf1,bf2,e,-,bo0,bo1,bo2,bo3,bo4,bo5,bo6,bo7,bo8,bo9,bo10,bh0,bh1,bh2⟩:=h2;subst e;have aH0:=U ah0;obtain⟨aA0,ac0,rfl,-⟩:=rSl.head ah0;clear ah0;have aH1:=U ah1;obtain⟨aA1,ac1,rfl,-⟩:=rSl.head ah1;clear ah1;have aH2:=U ah2;obtain⟨aA2,ac2,rfl,-⟩:=rSl.head ah2;clear ah2;have bH0:=U bh0;obtain⟨bA0,bc0,rfl,-⟩:=rSl.head bh0;clear bh0;have bH1:=U bh1;obtain⟨bA1,bc1,rfl,-⟩:=rSl.head bh1;clear bh1;have bH2:=U bh2;obtain⟨bA2,bc2,rfl,-⟩:=rSl.head bh2;clear bh2;obtain⟨rb,hrb⟩:∃rb,decide ((⟨x0,x1,x2,x3,x4,x5,x6⟩:Am)=⟨y0,y1,y2,y3,y4,y5,y6⟩)=rb:=⟨_,rfl⟩;rw[hrb];have RB:=U hrb;clear hrb;have BB:=U (show∀o1 o2:Obj,Below w.heap.size w ((w.alloc o1).alloc o2)from fun o1 o2 =>((aB _ _).alloc (aC _) _).alloc (by simp) _);go_enter func12,ntmps12
 go_wp2_with fail
 refine(Qh x0 y0 _ _ _ _ _ ⟨rfl,rfl,ao0,ao1,ao2,ao3,ao4,ao5,ao6,ao7,ao8⟩ ⟨rfl,rfl,bo0,bo1,bo2,bo3,bo4,bo5,bo6,bo7,bo8⟩).mono ?_;rintro e u0 ⟨rfl,hb⟩;have hK1:=Blk.below ((Blk.new w 35 #[int i64 x0.g,int i64 x0.c,int i64 x0.data,int i64 x0.p,int i64 x0.rows,int i64 x0.cap,int i64 x0.b,int i64 x0.q,int i64 x0.t,.slice aA0 x1.length ac0,.slice aA1 x2.length ac1,.slice aA2 x3.length ac2,int i64 x4,int i64 x5,.bool x6]).alloc (.cells #[int i64 y0.g,int i64 y0.c,int i64 y0.data,int i64 y0.p,int i64 y0.rows,int i64 y0.cap,int i64 y0.b,int i64 y0.q,int i64 y0.t,.slice bA0 y1.length bc0,.slice bA1 y2.length bc1,.slice bA2 y3.length bc2,int i64 y4,int i64 y5,.bool y6] 35)) hb (by simp;omega);have hK2:=Blk.below (Blk.new (w.alloc (.cells #[int i64 x0.g,int i64 x0.c,int i64 x0.data,int i64 x0.p,int i64 x0.rows,int i64 x0.cap,int i64 x0.b,int i64 x0.q,int i64 x0.t,.slice aA0 x1.length ac0,.slice aA1 x2.length ac1,.slice aA2 x3.length ac2,int i64 x4,int i64 x5,.bool x6] 35)) 35 #[int i64 y0.g,int i64 y0.c,int i64 y0.data,int i64 y0.p,int i64 y0.rows,int i64 y0.cap,int i64 y0.b,int i64 y0.q,int i64 y0.t,.slice bA0 y1.length bc0,.slice bA1 y2.length bc1,.slice bA2 y3.length bc2,int i64 y4,int i64 y5,.bool y6]) hb (by simp);rw[World.size_alloc]at hK2;have K1:=U hK1;have K2:=U hK2;have k1_9:=Blk.cell hK1 9;have k2_9:=Blk.cell hK2 9;have k1_10:=Blk.cell hK1 10;have k2_10:=Blk.cell hK2 10;have k1_11:=Blk.cell hK1 11;have k2_11:=Blk.cell hK2 11;have k1_12:=Blk.cell hK1 12;have k2_12:=Blk.cell hK2 12;have k1_13:=Blk.cell hK1 13;have k2_13:=Blk.cell hK2 13;have k1_14:=Blk.cell hK1 14;have k2_14:=Blk.cell hK2 14;simp only[List.getElem?_toArray,List.getElem?_cons_zero,List.getElem?_cons_succ]at k1_9 k2_9 k1_10 k2_10 k1_11 k2_11 k1_12 k2_12 k1_13 k2_13 k1_14 k2_14;clear hK1 hK2;have BB0:=BB.o;clear BB;have BB:=U ((BB0 _ _).trans (hb.mono (BB0 _ _).size));clear hb BB0;by_cases q:x0=y0
 case neg =>
  have e1:rb=false:=by rw[← RB.o];exact aG (fun e => q (congrArg Am.s e))
  subst e1;rw[aG q];clear q;go_wp2_with fail
  go_ret
  exact⟨rfl,BB.o⟩
 rw[aK q];subst q;go_wp2_with fail
 refine(NS _ _ x1 y1 _ _ _ (rSl.below (Al.local_ Ak.local_) (Al.fixed Ak.fixed) aH0.o BB.o) (rSl.below (Al.local_ Ak.local_) (Al.fixed Ak.fixed) bH0.o BB.o)).mono ?_;rintro e u1 ⟨rfl,hb⟩;have hK1:=Blk.below K1.o hb K1.o.lt;have hK2:=Blk.below K2.o hb K2.o.lt;clear K1 K2 k1_9 k2_9 k1_10 k2_10 k1_11 k2_11 k1_12 k2_12 k1_13 k2_13 k1_14 k2_14;have K1:=U hK1;have K2:=U hK2;have k1_10:=Blk.cell hK1 10;have k2_10:=Blk.cell hK2 10;have k1_11:=Blk.cell hK1 11;have k2_11:=Blk.cell hK2 11;have k1_12:=Blk.cell hK1 12;have k2_12:=Blk.cell hK2 12;have k1_13:=Blk.cell hK1 13;have k2_13:=Blk.cell hK2 13;have k1_14:=Blk.cell hK1 14;have k2_14:=Blk.cell hK2 14;simp only[List.getElem?_toArray,List.getElem?_cons_zero,List.getElem?_cons_succ]at k1_10 k2_10 k1_11 k2_11 k1_12 k2_12 k1_13 k2_13 k1_14 k2_14;clear hK1 hK2;replace BB:=U (BB.o.trans (hb.mono (BB.o).size));clear hb
 by_cases q:x1=y1
 case neg =>
  have e1:rb=false:=by rw[← RB.o];exact aG (fun e => q (congrArg Am.g e))
  subst e1;rw[aG q];clear q;go_wp2_with fail
  go_ret
  exact⟨rfl,BB.o⟩
 rw[aK q];subst q;go_wp2_with fail
 refine(Km _ _ x2 y2 _ _ _ (rSl.below Az.local_ Az.fixed aH1.o BB.o) (rSl.below Az.local_ Az.fixed bH1.o BB.o)).mono ?_;rintro e u2 ⟨rfl,hb⟩;have hK1:=Blk.below K1.o hb K1.o.lt;have hK2:=Blk.below K2.o hb K2.o.lt;clear K1 K2 k1_10 k2_10 k1_11 k2_11 k1_12 k2_12 k1_13 k2_13 k1_14 k2_14;have K1:=U hK1;have K2:=U hK2;have k1_11:=Blk.cell hK1 11;have k2_11:=Blk.cell hK2 11;have k1_12:=Blk.cell hK1 12;have k2_12:=Blk.cell hK2 12;have k1_13:=Blk.cell hK1 13;have k2_13:=Blk.cell hK2 13;have k1_14:=Blk.cell hK1 14;have k2_14:=Blk.cell hK2 14;simp only[List.getElem?_toArray,List.getElem?_cons_zero,List.getElem?_cons_succ]at k1_11 k2_11 k1_12 k2_12 k1_13 k2_13 k1_14 k2_14;clear hK1 hK2;replace BB:=U (BB.o.trans (hb.mono (BB.o).size));clear hb
 by_cases q:x2=y2
 case neg =>
  have e1:rb=false:=by rw[← RB.o];exact aG (fun e => q (congrArg Am.on e))
  subst e1;rw[aG q];clear q;go_wp2_with fail
  go_ret
  exact⟨rfl,BB.o⟩
 rw[aK q];subst q;go_wp2_with fail
 refine(Qi _ _ x3 y3 _ _ _ (rSl.below Ay.local_ Ay.fixed aH2.o BB.o) (rSl.below Ay.local_ Ay.fixed bH2.o BB.o)).mono ?_;rintro e u3 ⟨rfl,hb⟩;have hK1:=Blk.below K1.o hb K1.o.lt;have hK2:=Blk.below K2.o hb K2.o.lt;clear K1 K2 k1_11 k2_11 k1_12 k2_12 k1_13 k2_13 k1_14 k2_14;have K1:=U hK1;have K2:=U hK2;have k1_12:=Blk.cell hK1 12;have k2_12:=Blk.cell hK2 12;have k1_13:=Blk.cell hK1 13;have k2_13:=Blk.cell hK2 13;have k1_14:=Blk.cell hK1 14;have k2_14:=Blk.cell hK2 14;simp only[List.getElem?_toArray,List.getElem?_cons_zero,List.getElem?_cons_succ]at k1_12 k2_12 k1_13 k2_13 k1_14 k2_14;clear hK1 hK2;replace BB:=U (BB.o.trans (hb.mono (BB.o).size));clear hb
 by_cases q:x3=y3
 case neg =>
  have e1:rb=false:=by rw[← RB.o];exact aG (fun e => q (congrArg Am.v e))
  subst e1;rw[aG q];clear q;go_wp2_with fail
  go_ret
  exact⟨rfl,BB.o⟩
 rw[aK q];subst q;by_cases q:x4=y4
 case neg =>
  have e1:rb=false:=by rw[← RB.o];exact aG (fun e => q (congrArg Am.u e))
  subst e1;have hq:(x4 != y4)=true:=bne_iff_ne.2 q;clear q;go_wp2_with fail
  go_ret
  exact⟨rfl,BB.o⟩
 subst q;by_cases q:x5=y5
 case neg =>
  have e1:rb=false:=by rw[← RB.o];exact aG (fun e => q (congrArg Am.stop e))
  subst e1;have hq:(x5 != y5)=true:=bne_iff_ne.2 q;clear q;go_wp2_with fail
  go_ret
  exact⟨rfl,BB.o⟩
 subst q;by_cases q:x6=y6
 case neg =>
  have e1:rb=false:=by rw[← RB.o];exact aG (fun e => q (congrArg Am.down e))
  subst e1;have hq:(!x6 == y6)=true:=by simpa using q
  clear q;go_wp2_with fail
  go_ret
  exact⟨rfl,BB.o⟩
 subst q;have e1:rb=true:=by rw[← RB.o];exact aK rfl
 subst e1;go_wp2_with fail
 go_ret
 exact⟨rfl,BB.o⟩
