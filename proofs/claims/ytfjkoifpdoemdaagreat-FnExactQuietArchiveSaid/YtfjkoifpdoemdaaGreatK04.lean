/-
  Part 4 of the proof; the last part states and proves the statement.
-/
import Derived.Test.YtfjkoifpdoemdaaGreatK03
import Derived.Test.YtfjkoifpdoemdaaGreatK01
import Derived.Shelf.Bytes.SlEqualAll
import Derived.Test.YtfjkoifpdoemdaaGreatProg
set_option maxHeartbeats 8000000
set_option maxRecDepth 100000
set_option linter.unusedVariables false
set_option linter.unusedSimpArgs false
open Go.Value (int)
open Go.IntKind (i64)
namespace Go.Proofs.YtfjkoifpdoemdaaGreat
open Go.RowKit Go.Sort
open Go.Lib (hid)
def Bl(t:An):Nat:=t.name.size
def BE(q:List An):Nat:=AA Bl q
def Bx(a:AK):Nat:=a.bytes.length
def DN(d:AJ):Nat:=AA BE d.queues+AA Bl d.aside+AA Bx d.answers
def CM(d:AY):Nat:=Dv d.world+DN d.desk
theorem LV(d:An)(cs:List Value)(f:List Addr)(w:World)(left:Int)(h1:Af w f cs d)(hl:0≤left)(hl2:left≤1048576) :
  Calls Tryz.prog 194 #[.agg cs.toArray,int i64 left] w fun e w' => e= .returned (int i64 (Bk left (Bl d)))∧Below w.heap.size w w':=by
 obtain⟨e,-,-,-,hn,-⟩:=h1;subst e;have B1:Below w.heap.size w (w.alloc (.cells #[int i64 d.id,int i64 d.kind,.string d.name,int i64 d.group] 233)):=(Below.refl _ _).alloc (Nat.le_refl _) _;have e0:Bl d=d.name.size:=rfl;rw[e0];clear e0;by_cases h4:left<(d.name.size:Int)
 ·have h5:left - (d.name.size:Int)<0:=by omega
  rw[AG h4];go_enter Tryz.func194,Tryz.ntmps194
  go_wp2_with fail
  go_ret
  exact⟨rfl,B1⟩
 ·rw[AR h4];have h5:¬left - (d.name.size:Int)<0:=by omega
  go_enter Tryz.func194,Tryz.ntmps194
  go_wp2_with fail
  go_ret
  exact⟨rfl,B1⟩
theorem Ei(v:Value)(ds:List An)(fs:List Addr)(w:World)(left:Int)(h1:rSl 4 Af w fs v ds)(hl:0≤left)(hl2:left≤1048576) :
  Calls Tryz.prog 114 #[v,int i64 left] w fun e w' => e= .returned (int i64 (Bk left (AA Bl ds)))∧Below w.heap.size w w':=by
 obtain⟨A1,c1,rfl,hc1,hm1,hx⟩:=rSl.at_ Af.fixed (by decide) h1;clear h1;obtain⟨r,hr⟩:∃r,Bk left (AA Bl ds)=r:=⟨_,rfl⟩;rw[hr];have HR:=hid hr;clear hr;by_cases h:left<ds.length
 ·have hlt:left - (ds.length:Int)<0:=by omega
  have e1:r= -1:=by rw[← HR.out];exact AG (by unfold AA;omega)
  subst e1;clear hx;go_enter Tryz.func114,Tryz.ntmps114
  go_wp2_with fail
  go_ret
  exact⟨rfl,Below.refl _ _⟩
 ·have hlt:¬left - (ds.length:Int)<0:=by omega
  have HX:=hid hx;clear hx;go_enter Tryz.func114,Tryz.ntmps114
  go_wp2_with fail
  go_loopw [1,4,5] (fun l r i wr =>∃(j t:Nat),j≤ds.length∧Hid (t=BD Bl ds j)∧(t:Int)≤left - (ds.length:Int)∧i= int i64 j∧r= int i64 0∧l= int i64 (left - (ds.length:Int) - (t:Int))∧Hid (Below w.heap.size w wr)) (fun _ _ i _ => ds.length - (intOf i).toNat)
  case atStart => exact⟨0,0,by omega,(show 0=_ by simp[BD]),by omega,rfl,rfl,by simp,Below.refl _ _⟩
  case round =>
   obtain⟨j,t,hj,HT,htl,rfl,rfl,rfl,HB⟩:=hrel;by_cases hlt2:j<ds.length
   ·obtain⟨ad,b,o,cs,fk,e1,hat⟩:=HX.out j hlt2;subst e1;have hat2:=hat.below Af.local_ HB.out;have hpl:=hat.place;have hbl:=hat2.lt;have HRG:=hid (show wr.rangeAt b o cs from fun q v hq => by
     have hq1:q<cs.length:=(List.getElem?_eq_some_iff.1 hq).1;rw[hat2.cell q hq1,← hq];exact(List.getElem?_eq_getElem hq1).symm)
    have HI:=hid (show(Tryz.prog.info? 233).map (·.size)=some cs.length by rw[hat2.len];kernel_rfl);have HC:=hid (LV ds[j] cs fk wr (left - (ds.length:Int) - (t:Int)) hat2.reads (by omega) (by omega));have hst:=CL Bl hlt2;rw[← HT.out]at hst;have HST:=hid hst;have hle:=Dh Bl ds (j+1);have HLE:=hid hle;clear hat hat2 hst hle HX;obtain⟨m,hm⟩:∃m,Bl ds[j] =m:=⟨_,rfl⟩;rw[hm]at HC HST;clear hm;by_cases h4:left - (ds.length:Int) - (t:Int)<(m:Int)
    ·rw[AG h4]at HC;have e1:r= -1:=by rw[← HR.out];exact AG (by unfold AA;have:=HST.out;have:=HLE.out;omega)
     subst e1;go_wp2_with (first
      |(refine wpList_load_mid rfl 233 _ rfl b o rfl cs _ HRG.out Tryz.underlying233 rfl HI.out ?_)
      |(go_at_call 194;refine HC.out.mono ?_;rintro e w1 ⟨rfl,hb1⟩;have B1:=hid (HB.out.trans (hb1.mono HB.out.size));clear hb1))
     go_ret
     exact⟨rfl,B1.out⟩
    ·rw[AR h4]at HC;have h5:¬left - (ds.length:Int) - (t:Int) - (m:Int)<0:=by omega
     have H4:=hid h4;have HE:=hid (show left - (ds.length:Int) - (t:Int) - (m:Int)=left - (ds.length:Int) - ((t+m:Nat):Int) by omega);clear h4;go_wp2_with (first
      |(refine wpList_load_mid rfl 233 _ rfl b o rfl cs _ HRG.out Tryz.underlying233 rfl HI.out ?_)
      |(go_at_call 194;refine HC.out.mono ?_;rintro e w1 ⟨rfl,hb1⟩;have B1:=hid (HB.out.trans (hb1.mono HB.out.size));clear hb1))
     go_roundw
     case rel => exact⟨j+1,t+m,by omega,HST.out.symm,by have:=H4.out;omega,by go_num,rfl,by rw[HE.out],B1.out⟩
     case measure => simp[intOf];omega
   ·have e1:t=(ds.map Bl).sum:=by rw[HT.out];unfold BD;rw[List.take_of_length_le (by omega)]
    have e2:r=left - (ds.length:Int) - (t:Int):=by rw[← HR.out,AR (by unfold AA;omega)];unfold AA;omega
    subst e2;clear HR e1 HX HT;go_wp2_with fail
    go_ret
    exact⟨rfl,HB.out⟩
theorem JN(v:Value)(ds:List (List An))(fs:List Addr)(w:World)(left:Int)(h1:rSl 1 (Ai 4 Af) w fs v ds)(hl:0≤left)(hl2:left≤1048576) :
  Calls Tryz.prog 113 #[v,int i64 left] w fun e w' => e= .returned (int i64 (Bk left (AA BE ds)))∧Below w.heap.size w w':=by
 obtain⟨A1,c1,rfl,hc1,hm1,hx⟩:=rSl.at_ (Ai.fixed Af.fixed) (by decide) h1;clear h1;obtain⟨r,hr⟩:∃r,Bk left (AA BE ds)=r:=⟨_,rfl⟩;rw[hr];have HR:=hid hr;clear hr;by_cases h:left<ds.length
 ·have hlt:left - (ds.length:Int)<0:=by omega
  have e1:r= -1:=by rw[← HR.out];exact AG (by unfold AA;omega)
  subst e1;clear hx;go_enter Tryz.func113,Tryz.ntmps113
  go_wp2_with fail
  go_ret
  exact⟨rfl,Below.refl _ _⟩
 ·have hlt:¬left - (ds.length:Int)<0:=by omega
  have HX:=hid hx;clear hx;go_enter Tryz.func113,Tryz.ntmps113
  go_wp2_with fail
  go_loopw [1,4,5] (fun l r i wr =>∃(j t:Nat),j≤ds.length∧Hid (t=BD BE ds j)∧(t:Int)≤left - (ds.length:Int)∧i= int i64 j∧r= int i64 0∧l= int i64 (left - (ds.length:Int) - (t:Int))∧Hid (Below w.heap.size w wr)) (fun _ _ i _ => ds.length - (intOf i).toNat)
  case atStart => exact⟨0,0,by omega,(show 0=_ by simp[BD]),by omega,rfl,rfl,by simp,Below.refl _ _⟩
  case round =>
   obtain⟨j,t,hj,HT,htl,rfl,rfl,rfl,HB⟩:=hrel;by_cases hlt2:j<ds.length
   ·obtain⟨ad,b,o,cs,fk,e1,hat⟩:=HX.out j hlt2;subst e1;have hat2:=hat.below (Ai.local_ Af.local_) HB.out;have hpl:=hat.place;have hbl:=hat2.lt;obtain⟨ve,hve,hrd⟩:=hat2.reads;subst hve;obtain⟨Ae,ce,rfl,-⟩:=rSl.head hrd;have hpc:=hat2.cell 0 (by simp);simp only[Nat.add_zero,List.getElem_cons_zero]at hpc;rw[Nat.mul_one]at hpl;have HC:=hid (Ei _ ds[j] fk wr (left - (ds.length:Int) - (t:Int)) hrd (by omega) (by omega));have hst:=CL BE hlt2;rw[← HT.out]at hst;have HST:=hid hst;have hle:=Dh BE ds (j+1);have HLE:=hid hle;clear hat hat2 hst hle HX hrd;obtain⟨m,hm⟩:∃m,BE ds[j] =m:=⟨_,rfl⟩;have hm2:AA Bl ds[j] =m:=hm;rw[hm2]at HC;rw[hm]at HST;clear hm2;clear hm;by_cases h4:left - (ds.length:Int) - (t:Int)<(m:Int)
    ·rw[AG h4]at HC;have e1:r= -1:=by rw[← HR.out];exact AG (by unfold AA;have:=HST.out;have:=HLE.out;omega)
     subst e1;go_wp2_with (first
      |(go_at_call 114;refine HC.out.mono ?_;rintro e w1 ⟨rfl,hb1⟩;have B1:=hid (HB.out.trans (hb1.mono HB.out.size));clear hb1))
     go_ret
     exact⟨rfl,B1.out⟩
    ·rw[AR h4]at HC;have h5:¬left - (ds.length:Int) - (t:Int) - (m:Int)<0:=by omega
     have H4:=hid h4;have HE:=hid (show left - (ds.length:Int) - (t:Int) - (m:Int)=left - (ds.length:Int) - ((t+m:Nat):Int) by omega);clear h4;go_wp2_with (first
      |(go_at_call 114;refine HC.out.mono ?_;rintro e w1 ⟨rfl,hb1⟩;have B1:=hid (HB.out.trans (hb1.mono HB.out.size));clear hb1))
     go_roundw
     case rel => exact⟨j+1,t+m,by omega,HST.out.symm,by have:=H4.out;omega,by go_num,rfl,by rw[HE.out],B1.out⟩
     case measure => simp[intOf];omega
   ·have e1:t=(ds.map BE).sum:=by rw[HT.out];unfold BD;rw[List.take_of_length_le (by omega)]
    have e2:r=left - (ds.length:Int) - (t:Int):=by rw[← HR.out,AR (by unfold AA;omega)];unfold AA;omega
    subst e2;clear HR e1 HX HT;go_wp2_with fail
    go_ret
    exact⟨rfl,HB.out⟩
theorem LR(d:AK)(cs:List Value)(f:List Addr)(w:World)(left:Int)(h1:Am w f cs d)(hl:0≤left)(hl2:left≤1048576) :
  Calls Tryz.prog 195 #[.agg cs.toArray,int i64 left] w fun e w' => e= .returned (int i64 (Bk left (Bx d)))∧Below w.heap.size w w':=by
 dsimp only[Am]at h1;obtain⟨v0,f0,e,-,-,-,-,h⟩:=h1;subst e;have B1:Below w.heap.size w (w.alloc (.cells #[int i64 d.id,int i64 d.code,int i64 d.turn,v0] 236)):=(Below.refl _ _).alloc (Nat.le_refl _) _;have HC:=hid (EY v0 d.bytes f0 (w.alloc (.cells #[int i64 d.id,int i64 d.code,int i64 d.turn,v0] 236)) left (rSl.below Av.local_ Av.fixed h B1) hl hl2);obtain⟨A0,c0,rfl,-⟩:=rSl.head h;have HB:=hid B1;have e0:Bx d=d.bytes.length:=rfl;rw[e0];clear e0 h B1;by_cases h4:left<(d.bytes.length:Int)
 ·rw[AG h4]at HC⊢;go_enter Tryz.func195,Tryz.ntmps195
  go_wp2_with (go_at_call 263;refine HC.out.mono ?_;rintro e w1 ⟨rfl,rfl⟩;have HB2:=HB)
  go_ret
  exact⟨rfl,HB2.out⟩
 ·rw[AR h4]at HC⊢;have h5:¬left - (d.bytes.length:Int)<0:=by omega
  go_enter Tryz.func195,Tryz.ntmps195
  go_wp2_with (go_at_call 263;refine HC.out.mono ?_;rintro e w1 ⟨rfl,rfl⟩;have HB2:=HB)
  go_ret
  exact⟨rfl,HB2.out⟩
theorem GL(v:Value)(ds:List AK)(fs:List Addr)(w:World)(left:Int)(h1:rSl 4 Am w fs v ds)(hl:0≤left)(hl2:left≤1048576) :
  Calls Tryz.prog 115 #[v,int i64 left] w fun e w' => e= .returned (int i64 (Bk left (AA Bx ds)))∧Below w.heap.size w w':=by
 obtain⟨A1,c1,rfl,hc1,hm1,hx⟩:=rSl.at_ Am.fixed (by decide) h1;clear h1;obtain⟨r,hr⟩:∃r,Bk left (AA Bx ds)=r:=⟨_,rfl⟩;rw[hr];have HR:=hid hr;clear hr;by_cases h:left<ds.length
 ·have hlt:left - (ds.length:Int)<0:=by omega
  have e1:r= -1:=by rw[← HR.out];exact AG (by unfold AA;omega)
  subst e1;clear hx;go_enter Tryz.func115,Tryz.ntmps115
  go_wp2_with fail
  go_ret
  exact⟨rfl,Below.refl _ _⟩
 ·have hlt:¬left - (ds.length:Int)<0:=by omega
  have HX:=hid hx;clear hx;go_enter Tryz.func115,Tryz.ntmps115
  go_wp2_with fail
  go_loopw [1,4,5] (fun l r i wr =>∃(j t:Nat),j≤ds.length∧Hid (t=BD Bx ds j)∧(t:Int)≤left - (ds.length:Int)∧i= int i64 j∧r= int i64 0∧l= int i64 (left - (ds.length:Int) - (t:Int))∧Hid (Below w.heap.size w wr)) (fun _ _ i _ => ds.length - (intOf i).toNat)
  case atStart => exact⟨0,0,by omega,(show 0=_ by simp[BD]),by omega,rfl,rfl,by simp,Below.refl _ _⟩
  case round =>
   obtain⟨j,t,hj,HT,htl,rfl,rfl,rfl,HB⟩:=hrel;by_cases hlt2:j<ds.length
   ·obtain⟨ad,b,o,cs,fk,e1,hat⟩:=HX.out j hlt2;subst e1;have hat2:=hat.below Am.local_ HB.out;have hpl:=hat.place;have hbl:=hat2.lt;have HRG:=hid (show wr.rangeAt b o cs from fun q v hq => by
     have hq1:q<cs.length:=(List.getElem?_eq_some_iff.1 hq).1;rw[hat2.cell q hq1,← hq];exact(List.getElem?_eq_getElem hq1).symm)
    have HI:=hid (show(Tryz.prog.info? 236).map (·.size)=some cs.length by rw[hat2.len];kernel_rfl);have HC:=hid (LR ds[j] cs fk wr (left - (ds.length:Int) - (t:Int)) hat2.reads (by omega) (by omega));have hst:=CL Bx hlt2;rw[← HT.out]at hst;have HST:=hid hst;have hle:=Dh Bx ds (j+1);have HLE:=hid hle;clear hat hat2 hst hle HX;obtain⟨m,hm⟩:∃m,Bx ds[j] =m:=⟨_,rfl⟩;rw[hm]at HC HST;clear hm;by_cases h4:left - (ds.length:Int) - (t:Int)<(m:Int)
    ·rw[AG h4]at HC;have e1:r= -1:=by rw[← HR.out];exact AG (by unfold AA;have:=HST.out;have:=HLE.out;omega)
     subst e1;go_wp2_with (first
      |(refine wpList_load_mid rfl 236 _ rfl b o rfl cs _ HRG.out Tryz.underlying236 rfl HI.out ?_)
      |(go_at_call 195;refine HC.out.mono ?_;rintro e w1 ⟨rfl,hb1⟩;have B1:=hid (HB.out.trans (hb1.mono HB.out.size));clear hb1))
     go_ret
     exact⟨rfl,B1.out⟩
    ·rw[AR h4]at HC;have h5:¬left - (ds.length:Int) - (t:Int) - (m:Int)<0:=by omega
     have H4:=hid h4;have HE:=hid (show left - (ds.length:Int) - (t:Int) - (m:Int)=left - (ds.length:Int) - ((t+m:Nat):Int) by omega);clear h4;go_wp2_with (first
      |(refine wpList_load_mid rfl 236 _ rfl b o rfl cs _ HRG.out Tryz.underlying236 rfl HI.out ?_)
      |(go_at_call 195;refine HC.out.mono ?_;rintro e w1 ⟨rfl,hb1⟩;have B1:=hid (HB.out.trans (hb1.mono HB.out.size));clear hb1))
     go_roundw
     case rel => exact⟨j+1,t+m,by omega,HST.out.symm,by have:=H4.out;omega,by go_num,rfl,by rw[HE.out],B1.out⟩
     case measure => simp[intOf];omega
   ·have e1:t=(ds.map Bx).sum:=by rw[HT.out];unfold BD;rw[List.take_of_length_le (by omega)]
    have e2:r=left - (ds.length:Int) - (t:Int):=by rw[← HR.out,AR (by unfold AA;omega)];unfold AA;omega
    subst e2;clear HR e1 HX HT;go_wp2_with fail
    go_ret
    exact⟨rfl,HB.out⟩
theorem JM(d:AJ)(cs:List Value)(f:List Addr)(w:World)(left:Int)(h1:AO w f cs d)(hl:0≤left)(hl2:left≤1048576) :
  Calls Tryz.prog 62 #[.agg cs.toArray,int i64 left] w fun e w' => e= .returned (int i64 (Bk left (DN d)))∧Below w.heap.size w w':=by
 dsimp only[AO]at h1;obtain⟨v0,v1,v2,f0,f1,f2,e,-,-,-,r0,r1,r2⟩:=h1;subst e;obtain⟨W1,hW1⟩:∃W1,w.alloc (.cells #[v0,v1,v2,int i64 d.turn,int i64 d.next] 51)=W1:=⟨_,rfl⟩;have B1:Below w.heap.size w W1:=by rw[← hW1];exact(Below.refl _ _).alloc (Nat.le_refl _) _
 have K1:Blk W1 w.heap.size 51 #[v0,v1,v2,int i64 d.turn,int i64 d.next]:=by rw[← hW1];exact Blk.new w _ _
 have HR0:=hid (rSl.below (Ai.local_ Af.local_) (Ai.fixed Af.fixed) r0 B1);have HR1:=hid (rSl.below Af.local_ Af.fixed r1 B1);have HR2:=hid (rSl.below Am.local_ Am.fixed r2 B1);obtain⟨A0,c0,rfl,-⟩:=rSl.head r0;obtain⟨A1,c1,rfl,-⟩:=rSl.head r1;obtain⟨A2,c2,rfl,-⟩:=rSl.head r2;have k0:W1.cell? ⟨w.heap.size,0,none⟩=some (.slice A0 d.queues.length c0):=(K1.cell 0).trans rfl;have k1:W1.cell? ⟨w.heap.size,1,none⟩=some (.slice A1 d.aside.length c1):=(K1.cell 1).trans rfl;have k2:W1.cell? ⟨w.heap.size,2,none⟩=some (.slice A2 d.answers.length c2):=(K1.cell 2).trans rfl;have HB:=hid B1;have hz1:w.heap.size<W1.heap.size:=K1.lt;have HC0:=hid (JN _ d.queues f0 W1 left HR0.out hl hl2);obtain⟨r,hr⟩:∃r,Bk left (DN d)=r:=⟨_,rfl⟩;rw[hr];have HR:=hid hr;have hF:DN d=AA BE d.queues+AA Bl d.aside+AA Bx d.answers:=rfl;rw[hF]at HR;obtain⟨m0,hm0⟩:∃m0,AA BE d.queues=m0:=⟨_,rfl⟩;obtain⟨m1,hm1⟩:∃m1,AA Bl d.aside=m1:=⟨_,rfl⟩;obtain⟨m2,hm2⟩:∃m2,AA Bx d.answers=m2:=⟨_,rfl⟩;rw[hm0]at HC0 HR;rw[hm1,hm2]at HR;have HM1:=hid hm1;have HM2:=hid hm2;clear hr r0 r1 r2 B1 K1 hF hm0 hm1 hm2;subst hW1;by_cases q0:left<(m0:Int)
 ·have e1:r= -1:=by rw[← HR.out];exact AG (by omega)
  subst e1;rw[AG q0]at HC0;go_enter Tryz.func62,Tryz.ntmps62
  go_wp2_with (first
   |(go_at_call 113;refine HC0.out.mono ?_;rintro e w2 ⟨rfl,b2⟩;have j1:=(b2.cell (p:=⟨w.heap.size,1,none⟩) hz1).trans k1;have j2:=(b2.cell (p:=⟨w.heap.size,2,none⟩) hz1).trans k2;have hz2:=Nat.lt_of_lt_of_le hz1 b2.size;have B2:=hid (HB.out.trans (b2.mono HB.out.size));clear b2))
  go_ret
  exact⟨rfl,B2.out⟩
 have ql0:¬left - (m0:Int)<0:=by omega
 rw[AR q0]at HC0;by_cases q1:left - (m0:Int)<(m1:Int)
 ·have e1:r= -1:=by rw[← HR.out];exact AG (by omega)
  subst e1;go_enter Tryz.func62,Tryz.ntmps62
  go_wp2_with (first
   |(go_at_call 113;refine HC0.out.mono ?_;rintro e w2 ⟨rfl,b2⟩;have j1:=(b2.cell (p:=⟨w.heap.size,1,none⟩) hz1).trans k1;have j2:=(b2.cell (p:=⟨w.heap.size,2,none⟩) hz1).trans k2;have hz2:=Nat.lt_of_lt_of_le hz1 b2.size;have B2:=hid (HB.out.trans (b2.mono HB.out.size));have HC1:=hid (Ei _ d.aside f1 w2 (left - (m0:Int)) (rSl.below Af.local_ Af.fixed HR1.out b2) (by omega) (by omega));rw[HM1.out,AG q1]at HC1;have B12:=hid b2;clear b2)
   |(go_at_call 114;refine HC1.out.mono ?_;rintro e w3 ⟨rfl,b3⟩;have i2:=(b3.cell (p:=⟨w.heap.size,2,none⟩) hz2).trans j2;have hz3:=Nat.lt_of_lt_of_le hz2 b3.size;have B3:=hid (B2.out.trans (b3.mono B2.out.size));clear b3))
  go_ret
  exact⟨rfl,B3.out⟩
 have ql1:¬left - (m0:Int) - (m1:Int)<0:=by omega
 by_cases q2:left - (m0:Int) - (m1:Int)<(m2:Int)
 ·have e1:r= -1:=by rw[← HR.out];exact AG (by omega)
  subst e1;go_enter Tryz.func62,Tryz.ntmps62
  go_wp2_with (first
   |(go_at_call 113;refine HC0.out.mono ?_;rintro e w2 ⟨rfl,b2⟩;have j1:=(b2.cell (p:=⟨w.heap.size,1,none⟩) hz1).trans k1;have j2:=(b2.cell (p:=⟨w.heap.size,2,none⟩) hz1).trans k2;have hz2:=Nat.lt_of_lt_of_le hz1 b2.size;have B2:=hid (HB.out.trans (b2.mono HB.out.size));have HC1:=hid (Ei _ d.aside f1 w2 (left - (m0:Int)) (rSl.below Af.local_ Af.fixed HR1.out b2) (by omega) (by omega));rw[HM1.out,AR q1]at HC1;have B12:=hid b2;clear b2)
   |(go_at_call 114;refine HC1.out.mono ?_;rintro e w3 ⟨rfl,b3⟩;have i2:=(b3.cell (p:=⟨w.heap.size,2,none⟩) hz2).trans j2;have hz3:=Nat.lt_of_lt_of_le hz2 b3.size;have B3:=hid (B2.out.trans (b3.mono B2.out.size));have HC2:=hid (GL _ d.answers f2 w3 (left - (m0:Int) - (m1:Int)) (rSl.below Am.local_ Am.fixed HR2.out (B12.out.trans (b3.mono B12.out.size))) (by omega) (by omega));rw[HM2.out,AG q2]at HC2;clear b3)
   |(go_at_call 115;refine HC2.out.mono ?_;rintro e w4 ⟨rfl,b4⟩;have B4:=hid (B3.out.trans (b4.mono B3.out.size));clear b4))
  go_ret
  exact⟨rfl,B4.out⟩
 have Q2:=hid q2;have ql2:¬left - (m0:Int) - (m1:Int) - (m2:Int)<0:=by omega
 have e1:r=left - (m0:Int) - (m1:Int) - (m2:Int):=by rw[← HR.out,AR (by omega)];omega
 subst e1;go_enter Tryz.func62,Tryz.ntmps62
 go_wp2_with (first
  |(go_at_call 113;refine HC0.out.mono ?_;rintro e w2 ⟨rfl,b2⟩;have j1:=(b2.cell (p:=⟨w.heap.size,1,none⟩) hz1).trans k1;have j2:=(b2.cell (p:=⟨w.heap.size,2,none⟩) hz1).trans k2;have hz2:=Nat.lt_of_lt_of_le hz1 b2.size;have B2:=hid (HB.out.trans (b2.mono HB.out.size));have HC1:=hid (Ei _ d.aside f1 w2 (left - (m0:Int)) (rSl.below Af.local_ Af.fixed HR1.out b2) (by omega) (by omega));rw[HM1.out,AR q1]at HC1;have B12:=hid b2;clear b2)
  |(go_at_call 114;refine HC1.out.mono ?_;rintro e w3 ⟨rfl,b3⟩;have i2:=(b3.cell (p:=⟨w.heap.size,2,none⟩) hz2).trans j2;have hz3:=Nat.lt_of_lt_of_le hz2 b3.size;have B3:=hid (B2.out.trans (b3.mono B2.out.size));have HC2:=hid (GL _ d.answers f2 w3 (left - (m0:Int) - (m1:Int)) (rSl.below Am.local_ Am.fixed HR2.out (B12.out.trans (b3.mono B12.out.size))) (by omega) (by omega));rw[HM2.out,AR (left:=left - (m0:Int) - (m1:Int)) (n:=m2) (by have:=Q2.out;omega)]at HC2;clear b3)
  |(go_at_call 115;refine HC2.out.mono ?_;rintro e w4 ⟨rfl,b4⟩;have B4:=hid (B3.out.trans (b4.mono B3.out.size));clear b4))
 go_ret
 exact⟨rfl,B4.out⟩
theorem L0(d:An)(cs:List Value)(f:List Addr)(w:World)(h1:Af w f cs d)(hsm:Bl d≤1048576) :
  Calls Tryz.prog 201 #[.agg cs.toArray] w (Ft Af d w):=by
 obtain⟨e,-,o0,o1,o2,o3⟩:=h1;subst e;have HOK:=hid (And.intro o0 (And.intro o1 (And.intro o2 o3)));clear o0 o1 o2 o3;go_enter Tryz.func201,Tryz.ntmps201
 go_wp2_with fail
 refine bodyPost_ret (v:=.agg #[int i64 d.id,int i64 d.kind,.string d.name,int i64 d.group]) (by simp[results,Tryz.results201,go_sem]) rfl ⟨[int i64 d.id,int i64 d.kind,.string d.name,int i64 d.group],[],rfl,⟨rfl,rfl,HOK.out.1,HOK.out.2.1,HOK.out.2.2.1,HOK.out.2.2.2⟩,(fun a ha => by cases ha),?_⟩;repeat(first|exact Below.refl _ _|(refine Below.alloc ?_ ?_ _)|(refine Below.setCell ?_ ?_ _))
 all_goals (first|exact Nat.le_refl _|(simp;done)|(simp;omega))
theorem Tryz.infoTotoTicketS:(Tryz.prog.info? 242).map (fun i =>(i.zero,i.size,i.bytes))=some (some (.agg #[int i64 0,int i64 0,.string ⟨#[]⟩,int i64 0]),4,40):=by kernel_rfl
theorem GN(v:Value)(ds:List An)(fs:List Addr)(w:World)(h1:rSl 4 Af w fs v ds)(hsm:AA Bl ds≤1048576) :
  Calls Tryz.prog 122 #[v] w (E2 4 Af ds w):=by
 obtain⟨A1,c1,rfl,hc1,hm1,hx⟩:=rSl.at_ Af.fixed (by decide) h1;have hdl:ds.length≤1048576:=by unfold AA at hsm;omega
 have HX:=hid hx;clear hx h1;have hmk:=BI Tryz.prog 57 242 (.agg #[int i64 0,int i64 0,.string ⟨#[]⟩,int i64 0]) 4 40 Tryz.underlying57 Tryz.infoTotoTicketS ds.length hdl (by omega);go_enter Tryz.func122,Tryz.ntmps122
 go_wp2_with fail
 go_loopw [4] (fun i wr =>∃j:Nat,j≤ds.length∧i= int i64 j∧Hid (BT 4 Af wr w.heap.size 242 ds j)∧Hid (Below w.heap.size w wr)) (fun i _ => ds.length - (intOf i).toNat)
 case atStart => exact⟨0,by omega,rfl,BT.start (Blk.new _ _ _),(Below.refl _ _).alloc (Nat.le_refl _) _⟩
 case round =>
  obtain⟨j,hj,rfl,HP,HB⟩:=hrel;clear hmk;by_cases hlt2:j<ds.length
  ·obtain⟨ad,b,o,cs,fk,e1,hat⟩:=HX.out j hlt2;subst e1;have hat2:=hat.below Af.local_ HB.out;have hpl:=hat.place;have hbl:=hat2.lt;have HRG:=hid (show wr.rangeAt b o cs from fun q v hq => by
    have hq1:q<cs.length:=(List.getElem?_eq_some_iff.1 hq).1;rw[hat2.cell q hq1,← hq];exact(List.getElem?_eq_getElem hq1).symm)
   have HI:=hid (show(Tryz.prog.info? 233).map (·.size)=some cs.length by rw[hat2.len];kernel_rfl);have HC:=hid (L0 ds[j] cs fk wr hat2.reads (by have:=Db Bl hlt2;omega));clear hat hat2 HX;go_wp2_with (first
    |(refine wpList_load_mid rfl 233 _ rfl b o rfl cs _ HRG.out Tryz.underlying233 rfl HI.out ?_)
    |(go_at_call 201;go_loud (refine HC.out.mono ?_;rintro e w1 ⟨us,fu,rfl,ru,hfu,b1⟩;have HU:=hid ru;have HFU:=hid hfu;have B1:=hid b1;have hul:us.length=4:=Af.wide _ _ _ _ ru;have P1:=hid (HP.out.below Af.local_ Af.fixed b1);have HON:=hid (all_oneCell_toArray (Af.ones _ _ _ _ ru));have HTH:=hid (show w1.there w.heap.size (j * 4) us.toArray.size by rw[show us.toArray.size=4 from List.size_toArray.trans hul];exact P1.out.there hlt2);have HI2:=hid (show(Tryz.prog.info? 242).map (·.size)=some us.toArray.size by rw[show us.toArray.size=4 from List.size_toArray.trans hul];kernel_rfl);have HUL:=hid hul;have hz1:w.heap.size<w1.heap.size:=P1.out.lt;clear ru hfu b1 hul))
    |(refine wpList_store_mid rfl 242 _ _ rfl w.heap.size (j * 4) us.toArray rfl rfl HTH.out HI2.out HON.out ?_))
   go_roundw
   case rel =>
    have hst:=P1.out.step Af.local_ hlt2 HUL.out HU.out (fun a ha => by have:=HFU.out a ha;have:=HP.out.lt;omega);exact⟨j+1,by omega,by go_num,hst,Below.setCells_ _ _ _ _ (Nat.le_refl _) (HB.out.trans (B1.out.mono HB.out.size))⟩
   case measure => simp[intOf];omega
  ·obtain rfl:j=ds.length:=by omega
   clear HX;go_wp2_with fail
   go_ret
   obtain⟨fs',hr,hf⟩:=HP.out.reads (by omega);exact⟨some ⟨w.heap.size,0,none⟩,ds.length,fs',rfl,hr,hf,HB.out⟩
theorem Tryz.infoTotoTicketSS:(Tryz.prog.info? 57).map (fun i =>(i.zero,i.size,i.bytes))=some (some (.slice none 0 0),1,24):=by kernel_rfl
theorem JR(v:Value)(ds:List (List An))(fs:List Addr)(w:World)(h1:rSl 1 (Ai 4 Af) w fs v ds)(hsm:AA BE ds≤1048576) :
  Calls Tryz.prog 121 #[v] w (E2 1 (Ai 4 Af) ds w):=by
 obtain⟨A1,c1,rfl,hc1,hm1,hx⟩:=rSl.at_ (Ai.fixed Af.fixed) (by decide) h1;have hdl:ds.length≤1048576:=by unfold AA at hsm;omega
 have HX:=hid hx;clear hx h1;have hmk:=BI Tryz.prog 56 57 (.slice none 0 0) 1 24 Tryz.underlying56 Tryz.infoTotoTicketSS ds.length hdl (by omega);go_enter Tryz.func121,Tryz.ntmps121
 go_wp2_with fail
 go_loopw [4] (fun i wr =>∃j:Nat,j≤ds.length∧i= int i64 j∧Hid (BT 1 (Ai 4 Af) wr w.heap.size 57 ds j)∧Hid (Below w.heap.size w wr)) (fun i _ => ds.length - (intOf i).toNat)
 case atStart => exact⟨0,by omega,rfl,BT.start (z:=#[.slice none 0 0]) (by rw[Nat.mul_one];exact Blk.new _ _ _),(Below.refl _ _).alloc (Nat.le_refl _) _⟩
 case round =>
  obtain⟨j,hj,rfl,HP,HB⟩:=hrel;clear hmk;by_cases hlt2:j<ds.length
  ·obtain⟨ad,b,o,cs,fk,e1,hat⟩:=HX.out j hlt2;subst e1;have hat2:=hat.below (Ai.local_ Af.local_) HB.out;have hpl:=hat.place;have hbl:=hat2.lt;obtain⟨ve,hve,hrd⟩:=hat2.reads;subst hve;obtain⟨Ae,ce,rfl,-⟩:=rSl.head hrd;have hpc:=hat2.cell 0 (by simp);simp only[Nat.add_zero,List.getElem_cons_zero]at hpc;rw[Nat.mul_one]at hpl;have HC:=hid (GN _ ds[j] fk wr hrd (by have:=Db BE hlt2;have e:BE ds[j] =AA Bl ds[j]:=rfl;omega));clear hrd;clear hat hat2 HX;go_wp2_with (first
    |(go_at_call 122;go_loud (refine HC.out.mono ?_;rintro e w1 ⟨Au,cu,fu,rfl,ru,hfu,b1⟩;have HU:=hid ru;have HFU:=hid hfu;have B1:=hid b1;have P1:=hid (HP.out.below (Ai.local_ Af.local_) (Ai.fixed Af.fixed) b1);have th:=P1.out.there hlt2 0 (by omega);simp only[Nat.mul_one,Nat.add_zero]at th;obtain⟨th1,th2⟩:=th;obtain⟨ux,hux⟩:=Option.isSome_iff_exists.1 th1;have hz1:w.heap.size<w1.heap.size:=P1.out.lt;clear ru hfu b1 th1)))
   go_roundw
   case rel =>
    have hst:=P1.out.step (us:=[.slice Au ds[j].length cu]) (Ai.local_ Af.local_) hlt2 rfl ⟨_,rfl,HU.out⟩ (fun a ha => by have:=HFU.out a ha;have:=HP.out.lt;omega);rw[Nat.mul_one]at hst;exact⟨j+1,by omega,by go_num,hst,(HB.out.trans (B1.out.mono HB.out.size)).setCell (Nat.le_refl _) _⟩
   case measure => simp[intOf];omega
  ·obtain rfl:j=ds.length:=by omega
   clear HX;go_wp2_with fail
   go_ret
   obtain⟨fs',hr,hf⟩:=HP.out.reads (by omega);exact⟨some ⟨w.heap.size,0,none⟩,ds.length,fs',rfl,hr,hf,HB.out⟩
theorem LX(d:AK)(cs:List Value)(f:List Addr)(w:World)(h1:Am w f cs d)(hsm:Bx d≤1048576) :
  Calls Tryz.prog 202 #[.agg cs.toArray] w (Ft Am d w):=by
 dsimp only[Am]at h1;obtain⟨v0,f0,e,-,ok1,ok2,ok3,h⟩:=h1;subst e;have H:=hid h;have HOK:=hid (And.intro ok1 (And.intro ok2 ok3));obtain⟨A1,c1,rfl,-⟩:=rSl.head h;clear h ok1 ok2 ok3;go_enter Tryz.func202,Tryz.ntmps202
 go_wp2_with fail
 have hB:Below w.heap.size w (((w.alloc (.cells #[int i64 d.id,int i64 d.code,int i64 d.turn,.slice A1 d.bytes.length c1] 236)).alloc (.cells #[int i64 0,int i64 0,int i64 0,.slice none 0 0] 244)).alloc (.cells #[int i64 d.id,int i64 d.code,int i64 d.turn,.slice none 0 0] 244)):=(((Below.refl _ _).alloc (Nat.le_refl _) _).alloc (by simp) _).alloc (by simp;omega) _;refine(EZ _ d.bytes f0 _ (rSl.below Av.local_ Av.fixed H.out hB) hsm).mono ?_;rintro e w1 ⟨A',c',f1,rfl,r1,hf1,b1⟩;have k1:=hid (Blk.below ((Blk.new1 w (.cells #[int i64 d.id,int i64 d.code,int i64 d.turn,.slice A1 d.bytes.length c1] 236) 244 #[int i64 0,int i64 0,int i64 0,.slice none 0 0]).alloc (.cells #[int i64 d.id,int i64 d.code,int i64 d.turn,.slice none 0 0] 244)) b1 (by simp));have k2:=hid (Blk.below (Blk.new2 w (.cells #[int i64 d.id,int i64 d.code,int i64 d.turn,.slice A1 d.bytes.length c1] 236) (.cells #[int i64 0,int i64 0,int i64 0,.slice none 0 0] 244) 244 #[int i64 d.id,int i64 d.code,int i64 d.turn,.slice none 0 0]) b1 (by simp));have B1:=hid (hB.trans (b1.mono hB.size));have hf2:∀a,a∈f1→w.heap.size+3≤a.block:=fun a ha => by have:=hf1 a ha;simp at this;omega
 have HF:=hid hf2;have HR:=hid r1;have z0:=b1.size;simp only[World.size_alloc]at z0;have z1:w.heap.size+1<w1.heap.size:=by omega
 have z2:w.heap.size+1+1<w1.heap.size:=by omega
 clear hf1 hf2 r1 b1 hB z0;have p0:=Blk.cell k1.out 0;have q0:=Blk.cell k2.out 0;have f0x:=Blk.frozen k1.out 0;have g0x:=Blk.frozen k2.out 0;have p1:=Blk.cell k1.out 1;have q1:=Blk.cell k2.out 1;have f1x:=Blk.frozen k1.out 1;have g1x:=Blk.frozen k2.out 1;have p2:=Blk.cell k1.out 2;have q2:=Blk.cell k2.out 2;have f2x:=Blk.frozen k1.out 2;have g2x:=Blk.frozen k2.out 2;have p3:=Blk.cell k1.out 3;have q3:=Blk.cell k2.out 3;have f3x:=Blk.frozen k1.out 3;have g3x:=Blk.frozen k2.out 3;simp at p0 p1 p2 p3 q0 q1 q2 q3;go_wp2_with fail
 have K1:=(Blk.set_ (Blk.set_ (Blk.set_ (Blk.set_ (Blk.far k1.out (p:=⟨w.heap.size+1+1,3,none⟩) (by simp) (.slice A' d.bytes.length c')) 0 (int i64 d.id)) 1 (int i64 d.code)) 2 (int i64 d.turn)) 3 (.slice A' d.bytes.length c'));refine bodyPost_ret (results_cell_row rfl _ _ (w.heap.size+1) 244 #[int i64 d.id,int i64 d.code,int i64 d.turn,.slice A' d.bytes.length c'] (0,0) _ rfl K1 Tryz.underlying244 rfl (by kernel_rfl)) rfl ?_;refine⟨[int i64 d.id,int i64 d.code,int i64 d.turn,.slice A' d.bytes.length c'],f1,rfl,⟨_,f1,rfl,rfl,HOK.out.1,HOK.out.2.1,HOK.out.2.2,?_⟩,fun a ha => by have:=HF.out a ha;omega,((((B1.out.setCell (by simp;omega) _).setCell (by simp) _).setCell (by simp) _).setCell (by simp) _).setCell (by simp) _⟩;exact((((HR.out.keep Av.local_ (AP.set_ _ HF.out (by simp) _)).keep Av.local_ (AP.set_ _ HF.out (by simp) _)).keep Av.local_ (AP.set_ _ HF.out (by simp) _)).keep Av.local_ (AP.set_ _ HF.out (by simp) _)).keep Av.local_ (AP.set_ _ HF.out (by simp) _)
theorem Tryz.infoTotoAnswerS:(Tryz.prog.info? 244).map (fun i =>(i.zero,i.size,i.bytes))=some (some (.agg #[int i64 0,int i64 0,int i64 0,.slice none 0 0]),4,48):=by kernel_rfl
theorem Ko(v:Value)(ds:List AK)(fs:List Addr)(w:World)(h1:rSl 4 Am w fs v ds)(hsm:AA Bx ds≤1048576) :
  Calls Tryz.prog 123 #[v] w (E2 4 Am ds w):=by
 obtain⟨A1,c1,rfl,hc1,hm1,hx⟩:=rSl.at_ Am.fixed (by decide) h1;have hdl:ds.length≤1048576:=by unfold AA at hsm;omega
 have HX:=hid hx;clear hx h1;have hmk:=BI Tryz.prog 58 244 (.agg #[int i64 0,int i64 0,int i64 0,.slice none 0 0]) 4 48 Tryz.underlying58 Tryz.infoTotoAnswerS ds.length hdl (by omega);go_enter Tryz.func123,Tryz.ntmps123
 go_wp2_with fail
 go_loopw [4] (fun i wr =>∃j:Nat,j≤ds.length∧i= int i64 j∧Hid (BT 4 Am wr w.heap.size 244 ds j)∧Hid (Below w.heap.size w wr)) (fun i _ => ds.length - (intOf i).toNat)
 case atStart => exact⟨0,by omega,rfl,BT.start (Blk.new _ _ _),(Below.refl _ _).alloc (Nat.le_refl _) _⟩
 case round =>
  obtain⟨j,hj,rfl,HP,HB⟩:=hrel;clear hmk;by_cases hlt2:j<ds.length
  ·obtain⟨ad,b,o,cs,fk,e1,hat⟩:=HX.out j hlt2;subst e1;have hat2:=hat.below Am.local_ HB.out;have hpl:=hat.place;have hbl:=hat2.lt;have HRG:=hid (show wr.rangeAt b o cs from fun q v hq => by
    have hq1:q<cs.length:=(List.getElem?_eq_some_iff.1 hq).1;rw[hat2.cell q hq1,← hq];exact(List.getElem?_eq_getElem hq1).symm)
   have HI:=hid (show(Tryz.prog.info? 236).map (·.size)=some cs.length by rw[hat2.len];kernel_rfl);have HC:=hid (LX ds[j] cs fk wr hat2.reads (by have:=Db Bx hlt2;omega));clear hat hat2 HX;go_wp2_with (first
    |(refine wpList_load_mid rfl 236 _ rfl b o rfl cs _ HRG.out Tryz.underlying236 rfl HI.out ?_)
    |(go_at_call 202;go_loud (refine HC.out.mono ?_;rintro e w1 ⟨us,fu,rfl,ru,hfu,b1⟩;have HU:=hid ru;have HFU:=hid hfu;have B1:=hid b1;have hul:us.length=4:=Am.wide _ _ _ _ ru;have P1:=hid (HP.out.below Am.local_ Am.fixed b1);have HON:=hid (all_oneCell_toArray (Am.ones _ _ _ _ ru));have HTH:=hid (show w1.there w.heap.size (j * 4) us.toArray.size by rw[show us.toArray.size=4 from List.size_toArray.trans hul];exact P1.out.there hlt2);have HI2:=hid (show(Tryz.prog.info? 244).map (·.size)=some us.toArray.size by rw[show us.toArray.size=4 from List.size_toArray.trans hul];kernel_rfl);have HUL:=hid hul;have hz1:w.heap.size<w1.heap.size:=P1.out.lt;clear ru hfu b1 hul))
    |(refine wpList_store_mid rfl 244 _ _ rfl w.heap.size (j * 4) us.toArray rfl rfl HTH.out HI2.out HON.out ?_))
   go_roundw
   case rel =>
    have hst:=P1.out.step Am.local_ hlt2 HUL.out HU.out (fun a ha => by have:=HFU.out a ha;have:=HP.out.lt;omega);exact⟨j+1,by omega,by go_num,hst,Below.setCells_ _ _ _ _ (Nat.le_refl _) (HB.out.trans (B1.out.mono HB.out.size))⟩
   case measure => simp[intOf];omega
  ·obtain rfl:j=ds.length:=by omega
   clear HX;go_wp2_with fail
   go_ret
   obtain⟨fs',hr,hf⟩:=HP.out.reads (by omega);exact⟨some ⟨w.heap.size,0,none⟩,ds.length,fs',rfl,hr,hf,HB.out⟩
theorem Tryz.infoToInt:(Tryz.prog.info? 2).map (fun i =>(i.zero,i.size,i.bytes))=some (some (int i64 0),1,8):=by kernel_rfl
theorem JQ(v:Value)(xs:List Int)(fs:List Addr)(w:World)(h1:Bg w fs v xs)(hsm:xs.length≤1048576) :
  Calls Tryz.prog 42 #[v] w (E2 1 Al xs w):=by
 obtain⟨A1,c1,rfl,hc1,hm1,hx⟩:=Bg.open_ h1;have HX:=hid hx;clear hx h1;have hmk:=BI Tryz.prog 25 2 (int i64 0) 1 8 Tryz.underlying25 Tryz.infoToInt xs.length hsm (by omega);go_enter Tryz.func42,Tryz.ntmps42
 go_wp2_with fail
 go_loopw [4] (fun i wr =>∃j:Nat,j≤xs.length∧i= int i64 j∧Hid (BT 1 Al wr w.heap.size 2 xs j)∧Hid (Below w.heap.size w wr)) (fun i _ => xs.length - (intOf i).toNat)
 case atStart => exact⟨0,by omega,rfl,BT.start (z:=#[int i64 0]) (by rw[Nat.mul_one];exact Blk.new _ _ _),(Below.refl _ _).alloc (Nat.le_refl _) _⟩
 case round =>
  obtain⟨j,hj,rfl,HP,HB⟩:=hrel;clear hmk;by_cases hlt2:j<xs.length
  ·obtain⟨ad,e1,-,b1,p1,okx⟩:=HX.out j hlt2;subst e1;have p1':=(HB.out.cell (p:=ad.add j) b1).trans p1;have th:=HP.out.there hlt2 0 (by omega);simp only[Nat.mul_one,Nat.add_zero]at th;obtain⟨th1,th2⟩:=th;obtain⟨ux,hux⟩:=Option.isSome_iff_exists.1 th1;have hz1:w.heap.size<wr.heap.size:=HP.out.lt;have HOK:=hid okx;clear HX th1 p1 okx;go_wp2_with fail
   go_roundw
   case rel =>
    have hst:=HP.out.step (us:=[int i64 xs[j]]) (fk:=[]) Al.local_ hlt2 rfl ⟨rfl,rfl,HOK.out.1,HOK.out.2⟩ (fun a ha => by cases ha);rw[Nat.mul_one]at hst;exact⟨j+1,by omega,by go_num,hst,HB.out.setCell (Nat.le_refl _) _⟩
   case measure => simp[intOf];omega
  ·obtain rfl:j=xs.length:=by omega
   clear HX;go_wp2_with fail
   go_ret
   obtain⟨fs',hr,hf⟩:=HP.out.reads (by omega);exact⟨some ⟨w.heap.size,0,none⟩,xs.length,fs',rfl,hr,hf,HB.out⟩
theorem toRec_c(d:Ag)(cs:List Value)(f:List Addr)(w:World)(h1:Ac w f cs d)(hsm:BL d≤1048576) :
  Calls Tryz.prog 242 #[.agg cs.toArray] w (Ft Ac d w):=by
 dsimp only[Ac]at h1;obtain⟨v0,v1,v2,f0,f1,f2,e,-,o0,o1,o2,o3,o4,o5,r0,r1,r2⟩:=h1;subst e;unfold BL at hsm;have HOK:=hid (And.intro o0 (And.intro o1 (And.intro o2 (And.intro o3 (And.intro o4 o5)))));have H0:=hid r0;have H1:=hid r1;have H2:=hid r2;obtain⟨A0,c0,rfl,-⟩:=rSl.head r0;obtain⟨A1,c1,rfl,-⟩:=rSl.head r1;obtain⟨A2,c2,rfl,-⟩:=rSl.head r2;have HS0:=hid (show d.rows.length≤1048576 by omega);have HS1:=hid (show d.data.length≤1048576 by omega);have HS2:=hid (show d.delta.length≤1048576 by omega);clear r0 r1 r2 o0 o1 o2 o3 o4 o5 hsm;have hB:Below w.heap.size w (((w.alloc (.cells #[int i64 d.kind,int i64 d.seq,.string d.name,int i64 d.length,int i64 d.group,int i64 d.row,.slice A0 d.rows.length c0,.slice A1 d.data.length c1,.slice A2 d.delta.length c2] 268)).alloc (.cells #[int i64 0,int i64 0,.string ⟨#[]⟩,int i64 0,int i64 0,int i64 0,.slice none 0 0,.slice none 0 0,.slice none 0 0] 119)).alloc (.cells #[int i64 d.kind,int i64 d.seq,.string d.name,int i64 d.length,int i64 d.group,int i64 d.row,.slice none 0 0,.slice none 0 0,.slice none 0 0] 119)):=(((Below.refl _ _).alloc (Nat.le_refl _) _).alloc (by simp) _).alloc (by simp;omega) _;go_enter Tryz.func242,Tryz.ntmps242
 go_wp2_with fail
 refine(JQ _ d.rows f0 _ (rSl.below Al.local_ Al.fixed H0.out hB) HS0.out).mono ?_;rintro e w1 ⟨D0,e0,g0,rfl,q0,hg0,b1⟩;have k0:=hid (Blk.below (((Blk.new w 268 #[int i64 d.kind,int i64 d.seq,.string d.name,int i64 d.length,int i64 d.group,int i64 d.row,.slice A0 d.rows.length c0,.slice A1 d.data.length c1,.slice A2 d.delta.length c2]).alloc (.cells #[int i64 0,int i64 0,.string ⟨#[]⟩,int i64 0,int i64 0,int i64 0,.slice none 0 0,.slice none 0 0,.slice none 0 0] 119)).alloc (.cells #[int i64 d.kind,int i64 d.seq,.string d.name,int i64 d.length,int i64 d.group,int i64 d.row,.slice none 0 0,.slice none 0 0,.slice none 0 0] 119)) b1 (by simp;omega));have k1:=hid (Blk.below ((Blk.new1 w (.cells #[int i64 d.kind,int i64 d.seq,.string d.name,int i64 d.length,int i64 d.group,int i64 d.row,.slice A0 d.rows.length c0,.slice A1 d.data.length c1,.slice A2 d.delta.length c2] 268) 119 #[int i64 0,int i64 0,.string ⟨#[]⟩,int i64 0,int i64 0,int i64 0,.slice none 0 0,.slice none 0 0,.slice none 0 0]).alloc (.cells #[int i64 d.kind,int i64 d.seq,.string d.name,int i64 d.length,int i64 d.group,int i64 d.row,.slice none 0 0,.slice none 0 0,.slice none 0 0] 119)) b1 (by simp));have k2:=hid (Blk.below (Blk.new2 w (.cells #[int i64 d.kind,int i64 d.seq,.string d.name,int i64 d.length,int i64 d.group,int i64 d.row,.slice A0 d.rows.length c0,.slice A1 d.data.length c1,.slice A2 d.delta.length c2] 268) (.cells #[int i64 0,int i64 0,.string ⟨#[]⟩,int i64 0,int i64 0,int i64 0,.slice none 0 0,.slice none 0 0,.slice none 0 0] 119) 119 #[int i64 d.kind,int i64 d.seq,.string d.name,int i64 d.length,int i64 d.group,int i64 d.row,.slice none 0 0,.slice none 0 0,.slice none 0 0]) b1 (by simp));have B1:=hid (hB.trans (b1.mono hB.size));have HG0:=hid (show∀a,a∈g0→w.heap.size+3≤a.block from fun a ha => by have:=hg0 a ha;simp at this;omega);have Q0:=hid q0;have z0:=b1.size;simp only[World.size_alloc]at z0;have z1:w.heap.size+1+1<w1.heap.size:=by omega
 clear hg0 q0 b1 hB z0;have p7:=Blk.cell k0.out 7;have s6:=Blk.cell k2.out 6;have t6:=Blk.frozen k2.out 6;simp at p7 s6;go_wp2_with fail
 have hB2:Below w.heap.size w (w1.setCell ⟨w.heap.size+1+1,6,none⟩ (.slice D0 d.rows.length e0)):=B1.out.setCell (by simp;omega) _;refine(EZ _ d.data f1 _ (rSl.below Av.local_ Av.fixed H1.out hB2) HS1.out).mono ?_;rintro e w2 ⟨D1,e1,g1,rfl,q1,hg1,b2⟩;have m0:=hid (Blk.below (Blk.far k0.out (p:=⟨w.heap.size+1+1,6,none⟩) (by simp;omega) (.slice D0 d.rows.length e0)) b2 (by simp;omega));have m1:=hid (Blk.below (Blk.far k1.out (p:=⟨w.heap.size+1+1,6,none⟩) (by simp) (.slice D0 d.rows.length e0)) b2 (by simp;omega));have m2:=hid (show Blk w2 (w.heap.size+1+1) 119 #[int i64 d.kind,int i64 d.seq,.string d.name,int i64 d.length,int i64 d.group,int i64 d.row,.slice D0 d.rows.length e0,.slice none 0 0,.slice none 0 0]from Blk.below (Blk.set_ k2.out 6 (.slice D0 d.rows.length e0)) b2 (by simp;omega));have B2:=hid (hB2.trans (b2.mono hB2.size));have Q02:=hid (rSl.below Al.local_ Al.fixed (Q0.out.keep Al.local_ (AP.set_ _ HG0.out (by simp) _)) b2);have HG1:=hid (show∀a,a∈g1→w.heap.size+3≤a.block from fun a ha => by have:=hg1 a ha;simp at this;omega);have Q1:=hid q1;have z0:=b2.size;simp only[World.size_setCell]at z0;have z2:w.heap.size+1+1<w2.heap.size:=by omega
 clear hg1 q1 b2 hB2 z0 p7 s6 t6 z1;have p8:=Blk.cell m0.out 8;have s7:=Blk.cell m2.out 7;have t7:=Blk.frozen m2.out 7;simp at p8 s7;go_wp2_with fail
 have hB3:Below w.heap.size w (w2.setCell ⟨w.heap.size+1+1,7,none⟩ (.slice D1 d.data.length e1)):=B2.out.setCell (by simp;omega) _;refine(EZ _ d.delta f2 _ (rSl.below Av.local_ Av.fixed H2.out hB3) HS2.out).mono ?_;rintro e w3 ⟨D2,e2,g2,rfl,q2,hg2,b3⟩;have n1:=hid (Blk.below (Blk.far m1.out (p:=⟨w.heap.size+1+1,7,none⟩) (by simp) (.slice D1 d.data.length e1)) b3 (by simp;omega));have n2:=hid (show Blk w3 (w.heap.size+1+1) 119 #[int i64 d.kind,int i64 d.seq,.string d.name,int i64 d.length,int i64 d.group,int i64 d.row,.slice D0 d.rows.length e0,.slice D1 d.data.length e1,.slice none 0 0]from Blk.below (Blk.set_ m2.out 7 (.slice D1 d.data.length e1)) b3 (by simp;omega));have B3:=hid (hB3.trans (b3.mono hB3.size));have Q03:=hid (rSl.below Al.local_ Al.fixed (Q02.out.keep Al.local_ (AP.set_ _ HG0.out (by simp) _)) b3);have Q13:=hid (rSl.below Av.local_ Av.fixed (Q1.out.keep Av.local_ (AP.set_ _ HG1.out (by simp) _)) b3);have HG2:=hid (show∀a,a∈g2→w.heap.size+3≤a.block from fun a ha => by have:=hg2 a ha;simp at this;omega);have Q2:=hid q2;have z0:=b3.size;simp only[World.size_setCell]at z0;have z3:w.heap.size+1+1<w3.heap.size:=by omega
 have z4:w.heap.size+1<w3.heap.size:=by omega
 clear hg2 q2 b3 hB3 z0 p8 s7 t7 z2 k0 k1 k2 m0 m1 m2;have s8:=Blk.cell n2.out 8;have t8:=Blk.frozen n2.out 8;simp at s8;have K2:=hid (show Blk (w3.setCell ⟨w.heap.size+1+1,8,none⟩ (.slice D2 d.delta.length e2)) (w.heap.size+1+1) 119 #[int i64 d.kind,int i64 d.seq,.string d.name,int i64 d.length,int i64 d.group,int i64 d.row,.slice D0 d.rows.length e0,.slice D1 d.data.length e1,.slice D2 d.delta.length e2]from Blk.set_ n2.out 8 (.slice D2 d.delta.length e2));have K1:=hid (Blk.far n1.out (p:=⟨w.heap.size+1+1,8,none⟩) (by simp) (.slice D2 d.delta.length e2));have HRG:=hid (Blk.range K2.out 0 [int i64 d.kind,int i64 d.seq,.string d.name,int i64 d.length,int i64 d.group,int i64 d.row,.slice D0 d.rows.length e0,.slice D1 d.data.length e1,.slice D2 d.delta.length e2] rfl);have HTH:=hid (Blk.there K1.out 9 (by simp));go_wp2_with (first
  |(refine wpList_load_mid rfl 119 _ rfl (w.heap.size+1+1) 0 rfl [int i64 d.kind,int i64 d.seq,.string d.name,int i64 d.length,int i64 d.group,int i64 d.row,.slice D0 d.rows.length e0,.slice D1 d.data.length e1,.slice D2 d.delta.length e2] _ ?_ Tryz.underlying119 rfl (by kernel_rfl) ?_;(focus (exact HRG.out)))
  |(refine wpList_store_mid rfl 119 _ _ rfl (w.heap.size+1) 0 #[int i64 d.kind,int i64 d.seq,.string d.name,int i64 d.length,int i64 d.group,int i64 d.row,.slice D0 d.rows.length e0,.slice D1 d.data.length e1,.slice D2 d.delta.length e2] rfl rfl ?_ (by kernel_rfl) (by simp[Value.oneCell']) ?_;(focus (exact HTH.out))))
 have KF:=K1.out.laid [int i64 d.kind,int i64 d.seq,.string d.name,int i64 d.length,int i64 d.group,int i64 d.row,.slice D0 d.rows.length e0,.slice D1 d.data.length e1,.slice D2 d.delta.length e2] rfl;refine bodyPost_ret (results_cell_row rfl _ _ (w.heap.size+1) 119 #[int i64 d.kind,int i64 d.seq,.string d.name,int i64 d.length,int i64 d.group,int i64 d.row,.slice D0 d.rows.length e0,.slice D1 d.data.length e1,.slice D2 d.delta.length e2] (0,0) _ rfl KF Tryz.underlying119 rfl (by kernel_rfl)) rfl ?_;have hs0:∀(g:List Addr),(∀a,a∈g→w.heap.size+3≤a.block)→∀a,a∈g→w.heap.size≤a.block:=fun g hg a ha => by have:=hg a ha;omega
 refine⟨[int i64 d.kind,int i64 d.seq,.string d.name,int i64 d.length,int i64 d.group,int i64 d.row,.slice D0 d.rows.length e0,.slice D1 d.data.length e1,.slice D2 d.delta.length e2],g0 ++(g1 ++ g2),rfl,⟨_,_,_,g0,g1,g2,rfl,rfl,HOK.out.1,HOK.out.2.1,HOK.out.2.2.1,HOK.out.2.2.2.1,HOK.out.2.2.2.2.1,HOK.out.2.2.2.2.2,?_,?_,?_⟩,fun a ha => ?_,?_⟩
 ·exact(Q03.out.keep Al.local_ (AP.set_ _ HG0.out (by simp) _)).keep Al.local_ (C6 _ _ _ _ fun a ha => by have:=HG0.out a ha;omega)
 ·exact(Q13.out.keep Av.local_ (AP.set_ _ HG1.out (by simp) _)).keep Av.local_ (C6 _ _ _ _ fun a ha => by have:=HG1.out a ha;omega)
 ·exact(Q2.out.keep Av.local_ (AP.set_ _ HG2.out (by simp) _)).keep Av.local_ (C6 _ _ _ _ fun a ha => by have:=HG2.out a ha;omega)
 ·rcases List.mem_append.1 ha with ha|ha
  ·exact hs0 _ HG0.out a ha
  ·rcases List.mem_append.1 ha with ha|ha
   ·exact hs0 _ HG1.out a ha
   ·exact hs0 _ HG2.out a ha
 ·exact Below.setCells_ _ _ _ _ (by omega) (B3.out.setCell (by simp;omega) _)
theorem Tryz.infoTotoRecS:(Tryz.prog.info? 119).map (fun i =>(i.zero,i.size,i.bytes))=some (some (.agg #[int i64 0,int i64 0,.string ⟨#[]⟩,int i64 0,int i64 0,int i64 0,.slice none 0 0,.slice none 0 0,.slice none 0 0]),9,128):=by kernel_rfl
theorem toRecS_c(v:Value)(ds:List Ag)(fs:List Addr)(w:World)(h1:rSl 9 Ac w fs v ds)(hsm:AA BL ds≤1048576) :
  Calls Tryz.prog 165 #[v] w (E2 9 Ac ds w):=by
 obtain⟨A1,c1,rfl,hc1,hm1,hx⟩:=rSl.at_ Ac.fixed (by decide) h1;have hdl:ds.length≤1048576:=by unfold AA at hsm;omega
 have HX:=hid hx;clear hx h1;have hmk:=BI Tryz.prog 80 119 (.agg #[int i64 0,int i64 0,.string ⟨#[]⟩,int i64 0,int i64 0,int i64 0,.slice none 0 0,.slice none 0 0,.slice none 0 0]) 9 128 Tryz.underlying80 Tryz.infoTotoRecS ds.length hdl (by omega);go_enter Tryz.func165,Tryz.ntmps165
 go_wp2_with fail
 go_loopw [4] (fun i wr =>∃j:Nat,j≤ds.length∧i= int i64 j∧Hid (BT 9 Ac wr w.heap.size 119 ds j)∧Hid (Below w.heap.size w wr)) (fun i _ => ds.length - (intOf i).toNat)
 case atStart => exact⟨0,by omega,rfl,BT.start (Blk.new _ _ _),(Below.refl _ _).alloc (Nat.le_refl _) _⟩
 case round =>
  obtain⟨j,hj,rfl,HP,HB⟩:=hrel;clear hmk;by_cases hlt2:j<ds.length
  ·obtain⟨ad,b,o,cs,fk,e1,hat⟩:=HX.out j hlt2;subst e1;have hat2:=hat.below Ac.local_ HB.out;have hpl:=hat.place;have hbl:=hat2.lt;have HRG:=hid (show wr.rangeAt b o cs from fun q v hq => by
    have hq1:q<cs.length:=(List.getElem?_eq_some_iff.1 hq).1;rw[hat2.cell q hq1,← hq];exact(List.getElem?_eq_getElem hq1).symm)
   have HI:=hid (show(Tryz.prog.info? 268).map (·.size)=some cs.length by rw[hat2.len];kernel_rfl);have HC:=hid (toRec_c ds[j] cs fk wr hat2.reads (by have:=Db BL hlt2;omega));clear hat hat2 HX;go_wp2_with (first
    |(refine wpList_load_mid rfl 268 _ rfl b o rfl cs _ HRG.out Tryz.underlying268 rfl HI.out ?_)
    |(go_at_call 242;go_loud (refine HC.out.mono ?_;rintro e w1 ⟨us,fu,rfl,ru,hfu,b1⟩;have HU:=hid ru;have HFU:=hid hfu;have B1:=hid b1;have hul:us.length=9:=Ac.wide _ _ _ _ ru;have P1:=hid (HP.out.below Ac.local_ Ac.fixed b1);have HON:=hid (all_oneCell_toArray (Ac.ones _ _ _ _ ru));have HTH:=hid (show w1.there w.heap.size (j * 9) us.toArray.size by rw[show us.toArray.size=9 from List.size_toArray.trans hul];exact P1.out.there hlt2);have HI2:=hid (show(Tryz.prog.info? 119).map (·.size)=some us.toArray.size by rw[show us.toArray.size=9 from List.size_toArray.trans hul];kernel_rfl);have HUL:=hid hul;have hz1:w.heap.size<w1.heap.size:=P1.out.lt;clear ru hfu b1 hul))
    |(refine wpList_store_mid rfl 119 _ _ rfl w.heap.size (j * 9) us.toArray rfl rfl HTH.out HI2.out HON.out ?_))
   go_roundw
   case rel =>
    have hst:=P1.out.step Ac.local_ hlt2 HUL.out HU.out (fun a ha => by have:=HFU.out a ha;have:=HP.out.lt;omega);exact⟨j+1,by omega,by go_num,hst,Below.setCells_ _ _ _ _ (Nat.le_refl _) (HB.out.trans (B1.out.mono HB.out.size))⟩
   case measure => simp[intOf];omega
  ·obtain rfl:j=ds.length:=by omega
   clear HX;go_wp2_with fail
   go_ret
   obtain⟨fs',hr,hf⟩:=HP.out.reads (by omega);exact⟨some ⟨w.heap.size,0,none⟩,ds.length,fs',rfl,hr,hf,HB.out⟩
theorem toTape_c(d:AS)(cs:List Value)(f:List Addr)(w:World)(h1:As w f cs d)(hsm:Cp d≤1048576) :
  Calls Tryz.prog 95 #[.agg cs.toArray] w (Ft As d w):=by
 dsimp only[As]at h1;obtain⟨v0,f0,e,-,h⟩:=h1;subst e;have H:=hid h;obtain⟨A1,c1,rfl,-⟩:=rSl.head h;clear h;go_enter Tryz.func95,Tryz.ntmps95
 go_wp2_with fail
 have hB:Below w.heap.size w (((w.alloc (.cells #[.bool d.wiped,.slice A1 d.recs.length c1] 135)).alloc (.cells #[.bool false,.slice none 0 0] 139)).alloc (.cells #[.bool d.wiped,.slice none 0 0] 139)):=(((Below.refl _ _).alloc (Nat.le_refl _) _).alloc (by simp) _).alloc (by simp;omega) _;refine(toRecS_c _ d.recs f0 _ (rSl.below Ac.local_ Ac.fixed H.out hB) hsm).mono ?_;rintro e w1 ⟨A',c',f1,rfl,r1,hf1,b1⟩;have k1:=hid (Blk.below ((Blk.new1 w (.cells #[.bool d.wiped,.slice A1 d.recs.length c1] 135) 139 #[.bool false,.slice none 0 0]).alloc (.cells #[.bool d.wiped,.slice none 0 0] 139)) b1 (by simp));have k2:=hid (Blk.below (Blk.new2 w (.cells #[.bool d.wiped,.slice A1 d.recs.length c1] 135) (.cells #[.bool false,.slice none 0 0] 139) 139 #[.bool d.wiped,.slice none 0 0]) b1 (by simp));have B1:=hid (hB.trans (b1.mono hB.size));have hf2:∀a,a∈f1→w.heap.size+3≤a.block:=fun a ha => by have:=hf1 a ha;simp at this;omega
 have HF:=hid hf2;have HR:=hid r1;have z0:=b1.size;simp only[World.size_alloc]at z0;have z1:w.heap.size+1<w1.heap.size:=by omega
 have z2:w.heap.size+1+1<w1.heap.size:=by omega
 clear hf1 hf2 r1 b1 hB z0;have p0:=Blk.cell k1.out 0;have p1:=Blk.cell k1.out 1;have q0:=Blk.cell k2.out 0;have q1:=Blk.cell k2.out 1;have f0:=Blk.frozen k1.out 0;have f1':=Blk.frozen k1.out 1;have g0:=Blk.frozen k2.out 0;have g1:=Blk.frozen k2.out 1;simp at p0 p1 q0 q1;go_wp2_with fail
 have K1:=Blk.set_ (Blk.set_ (Blk.far k1.out (p:=⟨w.heap.size+1+1,1,none⟩) (by simp) (.slice A' d.recs.length c')) 0 (.bool d.wiped)) 1 (.slice A' d.recs.length c');refine bodyPost_ret (results_cell_row rfl _ _ (w.heap.size+1) 139 #[.bool d.wiped,.slice A' d.recs.length c'] (0,0) _ rfl K1 Tryz.underlying139 rfl (by kernel_rfl)) rfl ?_;refine⟨[.bool d.wiped,.slice A' d.recs.length c'],f1,rfl,⟨_,f1,rfl,rfl,?_⟩,fun a ha => by have:=HF.out a ha;omega,((B1.out.setCell (by simp;omega) _).setCell (by simp) _).setCell (by simp) _⟩;exact((HR.out.keep Ac.local_ (AP.set_ _ HF.out (by simp) _)).keep Ac.local_ (AP.set_ _ HF.out (by simp) _)).keep Ac.local_ (AP.set_ _ HF.out (by simp) _)
theorem Tryz.infoTotoTapeS:(Tryz.prog.info? 139).map (fun i =>(i.zero,i.size,i.bytes))=some (some (.agg #[.bool false,.slice none 0 0]),2,32):=by kernel_rfl
theorem MP(v:Value)(ds:List AS)(fs:List Addr)(w:World)(h1:rSl 2 As w fs v ds)(hsm:AA Cp ds≤1048576) :
  Calls Tryz.prog 43 #[v] w (E2 2 As ds w):=by
 obtain⟨A1,c1,rfl,hc1,hm1,hx⟩:=rSl.at_ As.fixed (by decide) h1;have hdl:ds.length≤1048576:=by unfold AA at hsm;omega
 have HX:=hid hx;clear hx h1;have hmk:=BI Tryz.prog 33 139 (.agg #[.bool false,.slice none 0 0]) 2 32 Tryz.underlying33 Tryz.infoTotoTapeS ds.length hdl (by omega);go_enter Tryz.func43,Tryz.ntmps43
 go_wp2_with fail
 go_loopw [4] (fun i wr =>∃j:Nat,j≤ds.length∧i= int i64 j∧Hid (BT 2 As wr w.heap.size 139 ds j)∧Hid (Below w.heap.size w wr)) (fun i _ => ds.length - (intOf i).toNat)
 case atStart => exact⟨0,by omega,rfl,BT.start (Blk.new _ _ _),(Below.refl _ _).alloc (Nat.le_refl _) _⟩
 case round =>
  obtain⟨j,hj,rfl,HP,HB⟩:=hrel;clear hmk;by_cases hlt2:j<ds.length
  ·obtain⟨ad,b,o,cs,fk,e1,hat⟩:=HX.out j hlt2;subst e1;have hat2:=hat.below As.local_ HB.out;have hpl:=hat.place;have hbl:=hat2.lt;have HRG:=hid (show wr.rangeAt b o cs from fun q v hq => by
    have hq1:q<cs.length:=(List.getElem?_eq_some_iff.1 hq).1;rw[hat2.cell q hq1,← hq];exact(List.getElem?_eq_getElem hq1).symm)
   have HI:=hid (show(Tryz.prog.info? 135).map (·.size)=some cs.length by rw[hat2.len];kernel_rfl);have HC:=hid (toTape_c ds[j] cs fk wr hat2.reads (by have:=Db Cp hlt2;omega));clear hat hat2 HX;go_wp2_with (first
    |(refine wpList_load_mid rfl 135 _ rfl b o rfl cs _ HRG.out Tryz.underlying135 rfl HI.out ?_)
    |(go_at_call 95;go_loud (refine HC.out.mono ?_;rintro e w1 ⟨us,fu,rfl,ru,hfu,b1⟩;have HU:=hid ru;have HFU:=hid hfu;have B1:=hid b1;have hul:us.length=2:=As.wide _ _ _ _ ru;have P1:=hid (HP.out.below As.local_ As.fixed b1);have HON:=hid (all_oneCell_toArray (As.ones _ _ _ _ ru));have HTH:=hid (show w1.there w.heap.size (j * 2) us.toArray.size by rw[show us.toArray.size=2 from List.size_toArray.trans hul];exact P1.out.there hlt2);have HI2:=hid (show(Tryz.prog.info? 139).map (·.size)=some us.toArray.size by rw[show us.toArray.size=2 from List.size_toArray.trans hul];kernel_rfl);have HUL:=hid hul;have hz1:w.heap.size<w1.heap.size:=P1.out.lt;clear ru hfu b1 hul))
    |(refine wpList_store_mid rfl 139 _ _ rfl w.heap.size (j * 2) us.toArray rfl rfl HTH.out HI2.out HON.out ?_))
   go_roundw
   case rel =>
    have hst:=P1.out.step As.local_ hlt2 HUL.out HU.out (fun a ha => by have:=HFU.out a ha;have:=HP.out.lt;omega);exact⟨j+1,by omega,by go_num,hst,Below.setCells_ _ _ _ _ (Nat.le_refl _) (HB.out.trans (B1.out.mono HB.out.size))⟩
   case measure => simp[intOf];omega
  ·obtain rfl:j=ds.length:=by omega
   clear HX;go_wp2_with fail
   go_ret
   obtain⟨fs',hr,hf⟩:=HP.out.reads (by omega);exact⟨some ⟨w.heap.size,0,none⟩,ds.length,fs',rfl,hr,hf,HB.out⟩
end Go.Proofs.YtfjkoifpdoemdaaGreat
namespace Go.Proofs.YtfjkoifpdoemdaaGreat
open Go.RowKit Go.Lib Go.Sort
theorem MO(d:Ba)(w:World) :
  Calls Tryz.prog 40 #[.agg #[int i64 d.g,int i64 d.c,int i64 d.data,int i64 d.p,int i64 d.rows,int i64 d.cap,int i64 d.b,int i64 d.q,int i64 d.t]] w fun e w' => e= .returned (.agg #[int i64 d.g,int i64 d.c,int i64 d.data,int i64 d.p,int i64 d.rows,int i64 d.cap,int i64 d.b,int i64 d.q,int i64 d.t])∧Below w.heap.size w w':=by
 have hB:Below w.heap.size w (((w.alloc (.cells #[int i64 d.g,int i64 d.c,int i64 d.data,int i64 d.p,int i64 d.rows,int i64 d.cap,int i64 d.b,int i64 d.q,int i64 d.t] 23)).alloc (.cells #[int i64 0,int i64 0,int i64 0,int i64 0,int i64 0,int i64 0,int i64 0,int i64 0,int i64 0] 31)).alloc (.cells #[int i64 d.g,int i64 d.c,int i64 d.data,int i64 d.p,int i64 d.rows,int i64 d.cap,int i64 d.b,int i64 d.q,int i64 d.t] 31)):=(((Below.refl _ _).alloc (Nat.le_refl _) _).alloc (by simp) _).alloc (by simp;omega) _;have K1:=hid (show Blk (((w.alloc (.cells #[int i64 d.g,int i64 d.c,int i64 d.data,int i64 d.p,int i64 d.rows,int i64 d.cap,int i64 d.b,int i64 d.q,int i64 d.t] 23)).alloc (.cells #[int i64 0,int i64 0,int i64 0,int i64 0,int i64 0,int i64 0,int i64 0,int i64 0,int i64 0] 31)).alloc (.cells #[int i64 d.g,int i64 d.c,int i64 d.data,int i64 d.p,int i64 d.rows,int i64 d.cap,int i64 d.b,int i64 d.q,int i64 d.t] 31)) (w.heap.size+1) 31 #[int i64 0,int i64 0,int i64 0,int i64 0,int i64 0,int i64 0,int i64 0,int i64 0,int i64 0]from(Blk.new1 w (.cells #[int i64 d.g,int i64 d.c,int i64 d.data,int i64 d.p,int i64 d.rows,int i64 d.cap,int i64 d.b,int i64 d.q,int i64 d.t] 23) 31 #[int i64 0,int i64 0,int i64 0,int i64 0,int i64 0,int i64 0,int i64 0,int i64 0,int i64 0]).alloc (.cells #[int i64 d.g,int i64 d.c,int i64 d.data,int i64 d.p,int i64 d.rows,int i64 d.cap,int i64 d.b,int i64 d.q,int i64 d.t] 31));have HTH:=hid (Blk.there K1.out 9 (by simp));have HRG:=hid (Blk.range (Blk.new2 w (.cells #[int i64 d.g,int i64 d.c,int i64 d.data,int i64 d.p,int i64 d.rows,int i64 d.cap,int i64 d.b,int i64 d.q,int i64 d.t] 23) (.cells #[int i64 0,int i64 0,int i64 0,int i64 0,int i64 0,int i64 0,int i64 0,int i64 0,int i64 0] 31) 31 #[int i64 d.g,int i64 d.c,int i64 d.data,int i64 d.p,int i64 d.rows,int i64 d.cap,int i64 d.b,int i64 d.q,int i64 d.t]) 0 [int i64 d.g,int i64 d.c,int i64 d.data,int i64 d.p,int i64 d.rows,int i64 d.cap,int i64 d.b,int i64 d.q,int i64 d.t] rfl);have HB:=hid hB;clear hB;go_enter Tryz.func40,Tryz.ntmps40
 go_wp2_with (first
  |(refine wpList_load_mid rfl 31 _ rfl (w.heap.size+1+1) 0 rfl [int i64 d.g,int i64 d.c,int i64 d.data,int i64 d.p,int i64 d.rows,int i64 d.cap,int i64 d.b,int i64 d.q,int i64 d.t] _ ?_ Tryz.underlying31 rfl (by kernel_rfl) ?_;(focus (exact HRG.out)))
  |(refine wpList_store_mid rfl 31 _ _ rfl (w.heap.size+1) 0 #[int i64 d.g,int i64 d.c,int i64 d.data,int i64 d.p,int i64 d.rows,int i64 d.cap,int i64 d.b,int i64 d.q,int i64 d.t] rfl rfl ?_ (by kernel_rfl) (by simp[Value.oneCell']) ?_;(focus (exact HTH.out))))
 have KF:=K1.out.laid [int i64 d.g,int i64 d.c,int i64 d.data,int i64 d.p,int i64 d.rows,int i64 d.cap,int i64 d.b,int i64 d.q,int i64 d.t] rfl;refine bodyPost_ret (results_cell_row rfl _ _ (w.heap.size+1) 31 #[int i64 d.g,int i64 d.c,int i64 d.data,int i64 d.p,int i64 d.rows,int i64 d.cap,int i64 d.b,int i64 d.q,int i64 d.t] (0,0) _ rfl KF Tryz.underlying31 rfl (by kernel_rfl)) rfl ?_;exact⟨rfl,Below.setCells_ _ _ _ _ (by omega) HB.out⟩
theorem MQ(d:AC)(cs:List Value)(f:List Addr)(w:World)(h1:AB w f cs d)(hsm:Dv d≤1048576) :
  Calls Tryz.prog 10 #[.agg cs.toArray] w (Ft AB d w):=by
 dsimp only[AB]at h1;obtain⟨v0,v1,v2,f0,f1,f2,e,-,o0,o1,o2,o3,o4,o5,o6,o7,o8,o9,o10,r0,r1,r2⟩:=h1;subst e;unfold Dv at hsm;have HOK:=hid (And.intro o0 (And.intro o1 (And.intro o2 (And.intro o3 (And.intro o4 (And.intro o5 (And.intro o6 (And.intro o7 (And.intro o8 (And.intro o9 o10))))))))));have H0:=hid r0;have H1:=hid r1;have H2:=hid r2;obtain⟨A0,c0,rfl,-⟩:=rSl.head r0;obtain⟨A1,c1,rfl,-⟩:=rSl.head r1;obtain⟨A2,c2,rfl,-⟩:=rSl.head r2;have HS0:=hid (show AA BR d.g≤1048576 by omega);have HS1:=hid (show d.on.length≤1048576 by omega);have HS2:=hid (show AA Cp d.v≤1048576 by omega);clear r0 r1 r2 o0 o1 o2 o3 o4 o5 o6 o7 o8 o9 o10 hsm;have hB:Below w.heap.size w (((w.alloc (.cells #[int i64 d.s.g,int i64 d.s.c,int i64 d.s.data,int i64 d.s.p,int i64 d.s.rows,int i64 d.s.cap,int i64 d.s.b,int i64 d.s.q,int i64 d.s.t,.slice A0 d.g.length c0,.slice A1 d.on.length c1,.slice A2 d.v.length c2,int i64 d.u,int i64 d.stop,.bool d.down] 28)).alloc (.cells #[int i64 0,int i64 0,int i64 0,int i64 0,int i64 0,int i64 0,int i64 0,int i64 0,int i64 0,.slice none 0 0,.slice none 0 0,.slice none 0 0,int i64 0,int i64 0,.bool false] 35)).alloc (.cells #[int i64 0,int i64 0,int i64 0,int i64 0,int i64 0,int i64 0,int i64 0,int i64 0,int i64 0,.slice none 0 0,.slice none 0 0,.slice none 0 0,int i64 0,int i64 0,.bool false] 35)):=(((Below.refl _ _).alloc (Nat.le_refl _) _).alloc (by simp) _).alloc (by simp;omega) _;have HRP:=hid (Blk.range (((Blk.new w 28 #[int i64 d.s.g,int i64 d.s.c,int i64 d.s.data,int i64 d.s.p,int i64 d.s.rows,int i64 d.s.cap,int i64 d.s.b,int i64 d.s.q,int i64 d.s.t,.slice A0 d.g.length c0,.slice A1 d.on.length c1,.slice A2 d.v.length c2,int i64 d.u,int i64 d.stop,.bool d.down]).alloc (.cells #[int i64 0,int i64 0,int i64 0,int i64 0,int i64 0,int i64 0,int i64 0,int i64 0,int i64 0,.slice none 0 0,.slice none 0 0,.slice none 0 0,int i64 0,int i64 0,.bool false] 35)).alloc (.cells #[int i64 0,int i64 0,int i64 0,int i64 0,int i64 0,int i64 0,int i64 0,int i64 0,int i64 0,.slice none 0 0,.slice none 0 0,.slice none 0 0,int i64 0,int i64 0,.bool false] 35)) 0 [int i64 d.s.g,int i64 d.s.c,int i64 d.s.data,int i64 d.s.p,int i64 d.s.rows,int i64 d.s.cap,int i64 d.s.b,int i64 d.s.q,int i64 d.s.t] rfl);go_enter Tryz.func10,Tryz.ntmps10
 go_wp2_with (refine wpList_load_mid rfl 23 _ rfl w.heap.size 0 rfl [int i64 d.s.g,int i64 d.s.c,int i64 d.s.data,int i64 d.s.p,int i64 d.s.rows,int i64 d.s.cap,int i64 d.s.b,int i64 d.s.q,int i64 d.s.t] _ ?_ Tryz.underlying23 rfl (by kernel_rfl) ?_;(focus (exact HRP.out)))
 refine(MO d.s _).mono ?_;rintro e w1 ⟨rfl,b1⟩;have k0:=hid (Blk.below (((Blk.new w 28 #[int i64 d.s.g,int i64 d.s.c,int i64 d.s.data,int i64 d.s.p,int i64 d.s.rows,int i64 d.s.cap,int i64 d.s.b,int i64 d.s.q,int i64 d.s.t,.slice A0 d.g.length c0,.slice A1 d.on.length c1,.slice A2 d.v.length c2,int i64 d.u,int i64 d.stop,.bool d.down]).alloc (.cells #[int i64 0,int i64 0,int i64 0,int i64 0,int i64 0,int i64 0,int i64 0,int i64 0,int i64 0,.slice none 0 0,.slice none 0 0,.slice none 0 0,int i64 0,int i64 0,.bool false] 35)).alloc (.cells #[int i64 0,int i64 0,int i64 0,int i64 0,int i64 0,int i64 0,int i64 0,int i64 0,int i64 0,.slice none 0 0,.slice none 0 0,.slice none 0 0,int i64 0,int i64 0,.bool false] 35)) b1 (by simp;omega));have k1:=hid (Blk.below ((Blk.new1 w (.cells #[int i64 d.s.g,int i64 d.s.c,int i64 d.s.data,int i64 d.s.p,int i64 d.s.rows,int i64 d.s.cap,int i64 d.s.b,int i64 d.s.q,int i64 d.s.t,.slice A0 d.g.length c0,.slice A1 d.on.length c1,.slice A2 d.v.length c2,int i64 d.u,int i64 d.stop,.bool d.down] 28) 35 #[int i64 0,int i64 0,int i64 0,int i64 0,int i64 0,int i64 0,int i64 0,int i64 0,int i64 0,.slice none 0 0,.slice none 0 0,.slice none 0 0,int i64 0,int i64 0,.bool false]).alloc (.cells #[int i64 0,int i64 0,int i64 0,int i64 0,int i64 0,int i64 0,int i64 0,int i64 0,int i64 0,.slice none 0 0,.slice none 0 0,.slice none 0 0,int i64 0,int i64 0,.bool false] 35)) b1 (by simp));have k2:=hid (Blk.below (Blk.new2 w (.cells #[int i64 d.s.g,int i64 d.s.c,int i64 d.s.data,int i64 d.s.p,int i64 d.s.rows,int i64 d.s.cap,int i64 d.s.b,int i64 d.s.q,int i64 d.s.t,.slice A0 d.g.length c0,.slice A1 d.on.length c1,.slice A2 d.v.length c2,int i64 d.u,int i64 d.stop,.bool d.down] 28) (.cells #[int i64 0,int i64 0,int i64 0,int i64 0,int i64 0,int i64 0,int i64 0,int i64 0,int i64 0,.slice none 0 0,.slice none 0 0,.slice none 0 0,int i64 0,int i64 0,.bool false] 35) 35 #[int i64 0,int i64 0,int i64 0,int i64 0,int i64 0,int i64 0,int i64 0,int i64 0,int i64 0,.slice none 0 0,.slice none 0 0,.slice none 0 0,int i64 0,int i64 0,.bool false]) b1 (by simp));have B1:=hid (hB.trans (b1.mono hB.size));have z0:=b1.size;simp only[World.size_alloc]at z0;have z1:w.heap.size+1+1<w1.heap.size:=by omega
 have HTH:=hid (Blk.there k2.out 9 (by simp));clear b1 hB z0 HRP;have n0:=hid (Blk.farS [int i64 d.s.g,int i64 d.s.c,int i64 d.s.data,int i64 d.s.p,int i64 d.s.rows,int i64 d.s.cap,int i64 d.s.b,int i64 d.s.q,int i64 d.s.t] (w.heap.size+1+1) 0 _ (by omega) k0.out);have n1:=hid (Blk.farS [int i64 d.s.g,int i64 d.s.c,int i64 d.s.data,int i64 d.s.p,int i64 d.s.rows,int i64 d.s.cap,int i64 d.s.b,int i64 d.s.q,int i64 d.s.t] (w.heap.size+1+1) 0 _ (by omega) k1.out);have n2:=hid (show Blk (w1.setCells (w.heap.size+1+1) 0 [int i64 d.s.g,int i64 d.s.c,int i64 d.s.data,int i64 d.s.p,int i64 d.s.rows,int i64 d.s.cap,int i64 d.s.b,int i64 d.s.q,int i64 d.s.t]) (w.heap.size+1+1) 35 #[int i64 d.s.g,int i64 d.s.c,int i64 d.s.data,int i64 d.s.p,int i64 d.s.rows,int i64 d.s.cap,int i64 d.s.b,int i64 d.s.q,int i64 d.s.t,.slice none 0 0,.slice none 0 0,.slice none 0 0,int i64 0,int i64 0,.bool false]from by have h:=Blk.setCells_ [int i64 d.s.g,int i64 d.s.c,int i64 d.s.data,int i64 d.s.p,int i64 d.s.rows,int i64 d.s.cap,int i64 d.s.b,int i64 d.s.q,int i64 d.s.t] 0 _ _ k2.out;rw[show Dr #[int i64 0,int i64 0,int i64 0,int i64 0,int i64 0,int i64 0,int i64 0,int i64 0,int i64 0,.slice none 0 0,.slice none 0 0,.slice none 0 0,int i64 0,int i64 0,.bool false] 0 [int i64 d.s.g,int i64 d.s.c,int i64 d.s.data,int i64 d.s.p,int i64 d.s.rows,int i64 d.s.cap,int i64 d.s.b,int i64 d.s.q,int i64 d.s.t] = #[int i64 d.s.g,int i64 d.s.c,int i64 d.s.data,int i64 d.s.p,int i64 d.s.rows,int i64 d.s.cap,int i64 d.s.b,int i64 d.s.q,int i64 d.s.t,.slice none 0 0,.slice none 0 0,.slice none 0 0,int i64 0,int i64 0,.bool false]from by kernel_rfl]at h;exact h);have N1:=hid (Below.setCells_ [int i64 d.s.g,int i64 d.s.c,int i64 d.s.data,int i64 d.s.p,int i64 d.s.rows,int i64 d.s.cap,int i64 d.s.b,int i64 d.s.q,int i64 d.s.t] (w.heap.size+1+1) 0 _ (by omega) B1.out);have z2:w.heap.size+1+1<(w1.setCells (w.heap.size+1+1) 0 [int i64 d.s.g,int i64 d.s.c,int i64 d.s.data,int i64 d.s.p,int i64 d.s.rows,int i64 d.s.cap,int i64 d.s.b,int i64 d.s.q,int i64 d.s.t]).heap.size:=by have:=n2.out.lt;omega
 clear k0 k1 k2 B1;go_wp2_with (go_loud (refine wpList_store_mid rfl 31 _ _ rfl (w.heap.size+1+1) 0 #[int i64 d.s.g,int i64 d.s.c,int i64 d.s.data,int i64 d.s.p,int i64 d.s.rows,int i64 d.s.cap,int i64 d.s.b,int i64 d.s.q,int i64 d.s.t] rfl rfl ?_ (by kernel_rfl) (by simp[Value.oneCell']) ?_;(focus (exact HTH.out));(generalize w1.setCells (w.heap.size+1+1) 0 [int i64 d.s.g,int i64 d.s.c,int i64 d.s.data,int i64 d.s.p,int i64 d.s.rows,int i64 d.s.cap,int i64 d.s.b,int i64 d.s.q,int i64 d.s.t] =u0 at n0 n1 n2 N1 z2⊢);have p9:u0.cell? ⟨w.heap.size,9,none⟩=some (.slice A0 d.g.length c0):=(Blk.cell n0.out 9).trans rfl))
 clear p9 HTH;refine(Kq _ d.g f0 _ (rSl.below (Ai.local_ Ak.local_) (Ai.fixed Ak.fixed) H0.out N1.out) HS0.out).mono ?_;rintro e w2 ⟨D0,e0,g0,rfl,q0,hg0,b2⟩;have x0:=hid (Blk.below n0.out b2 n0.out.lt);have x1:=hid (Blk.below n1.out b2 n1.out.lt);have x2:=hid (Blk.below n2.out b2 n2.out.lt);have X1:=hid ((N1.out).trans (b2.mono (N1.out).size));have HG0:=hid (show∀a,a∈g0→w.heap.size+3≤a.block from fun a ha => by have:=hg0 a ha;omega);have Q0:=hid q0;have z3:w.heap.size+1+1<w2.heap.size:=x2.out.lt;clear z2 hg0 q0 b2 n0 n1 n2 N1;have z2:=z3;clear z3;have s1:=Blk.cell x2.out 9;have t1:=Blk.frozen x2.out 9;have p1:=Blk.cell x0.out 10;simp at p1 s1;go_wp2_with fail
 have hB2:Below w.heap.size w (w2.setCell ⟨w.heap.size+1+1,9,none⟩ (.slice D0 d.g.length e0)):=X1.out.setCell (show w.heap.size≤w.heap.size+1+1 by omega) _;have y0:=hid (Blk.far x0.out (p:=⟨w.heap.size+1+1,9,none⟩) (by simp;omega) (.slice D0 d.g.length e0));have y1:=hid (Blk.far x1.out (p:=⟨w.heap.size+1+1,9,none⟩) (by simp) (.slice D0 d.g.length e0));have y2:=hid (show Blk (w2.setCell ⟨w.heap.size+1+1,9,none⟩ (.slice D0 d.g.length e0)) (w.heap.size+1+1) 35 #[int i64 d.s.g,int i64 d.s.c,int i64 d.s.data,int i64 d.s.p,int i64 d.s.rows,int i64 d.s.cap,int i64 d.s.b,int i64 d.s.q,int i64 d.s.t,.slice D0 d.g.length e0,.slice none 0 0,.slice none 0 0,int i64 0,int i64 0,.bool false]from Blk.set_ x2.out 9 (.slice D0 d.g.length e0));have R0:=hid (show rSl 1 (Ai 2 Ak) (w2.setCell ⟨w.heap.size+1+1,9,none⟩ (.slice D0 d.g.length e0)) g0 (.slice D0 d.g.length e0) d.g from(Q0.out.keep (Ai.local_ Ak.local_) (AP.set_ _ HG0.out (by simp) _)));refine(JQ _ d.on f1 _ (rSl.below Al.local_ Al.fixed H1.out hB2) HS1.out).mono ?_;rintro e w3 ⟨D1,e1,g1,rfl,q1,hg1,b2⟩;clear s1 t1 p1 x0 x1 x2 X1 Q0;have x0:=hid (Blk.below y0.out b2 y0.out.lt);have x1:=hid (Blk.below y1.out b2 y1.out.lt);have x2:=hid (Blk.below y2.out b2 y2.out.lt);have X1:=hid ((hB2).trans (b2.mono (hB2).size));have HG1:=hid (show∀a,a∈g1→w.heap.size+3≤a.block from fun a ha => by have:=hg1 a ha;(try simp only[World.size_setCell]at this);omega);have Q1:=hid q1;have Q0:=hid (rSl.below (Ai.local_ Ak.local_) (Ai.fixed Ak.fixed) R0.out b2);have z3:w.heap.size+1+1<w3.heap.size:=x2.out.lt;clear z2 hg1 q1 b2 y0 y1 y2 hB2 R0;have z2:=z3;clear z3;have s2:=Blk.cell x2.out 10;have t2:=Blk.frozen x2.out 10;have p2:=Blk.cell x0.out 11;simp at p2 s2;go_wp2_with fail
 have hB2:Below w.heap.size w (w3.setCell ⟨w.heap.size+1+1,10,none⟩ (.slice D1 d.on.length e1)):=X1.out.setCell (show w.heap.size≤w.heap.size+1+1 by omega) _;have y0:=hid (Blk.far x0.out (p:=⟨w.heap.size+1+1,10,none⟩) (by simp;omega) (.slice D1 d.on.length e1));have y1:=hid (Blk.far x1.out (p:=⟨w.heap.size+1+1,10,none⟩) (by simp) (.slice D1 d.on.length e1));have y2:=hid (show Blk (w3.setCell ⟨w.heap.size+1+1,10,none⟩ (.slice D1 d.on.length e1)) (w.heap.size+1+1) 35 #[int i64 d.s.g,int i64 d.s.c,int i64 d.s.data,int i64 d.s.p,int i64 d.s.rows,int i64 d.s.cap,int i64 d.s.b,int i64 d.s.q,int i64 d.s.t,.slice D0 d.g.length e0,.slice D1 d.on.length e1,.slice none 0 0,int i64 0,int i64 0,.bool false]from Blk.set_ x2.out 10 (.slice D1 d.on.length e1));have R0:=hid (show rSl 1 (Ai 2 Ak) (w3.setCell ⟨w.heap.size+1+1,10,none⟩ (.slice D1 d.on.length e1)) g0 (.slice D0 d.g.length e0) d.g from(Q0.out.keep (Ai.local_ Ak.local_) (AP.set_ _ HG0.out (by simp) _)));have R1:=hid (show rSl 1 Al (w3.setCell ⟨w.heap.size+1+1,10,none⟩ (.slice D1 d.on.length e1)) g1 (.slice D1 d.on.length e1) d.on from(Q1.out.keep Al.local_ (AP.set_ _ HG1.out (by simp) _)));refine(MP _ d.v f2 _ (rSl.below As.local_ As.fixed H2.out hB2) HS2.out).mono ?_;rintro e w4 ⟨D2,e2,g2,rfl,q2,hg2,b2⟩;clear s2 t2 p2 x0 x1 x2 X1 Q0 Q1;have x0:=hid (Blk.below y0.out b2 y0.out.lt);have x1:=hid (Blk.below y1.out b2 y1.out.lt);have x2:=hid (Blk.below y2.out b2 y2.out.lt);have X1:=hid ((hB2).trans (b2.mono (hB2).size));have HG2:=hid (show∀a,a∈g2→w.heap.size+3≤a.block from fun a ha => by have:=hg2 a ha;(try simp only[World.size_setCell]at this);omega);have Q2:=hid q2;have Q0:=hid (rSl.below (Ai.local_ Ak.local_) (Ai.fixed Ak.fixed) R0.out b2);have Q1:=hid (rSl.below Al.local_ Al.fixed R1.out b2);have z3:w.heap.size+1+1<w4.heap.size:=x2.out.lt;clear z2 hg2 q2 b2 y0 y1 y2 hB2 R0 R1;have z2:=z3;clear z3;have s3:=Blk.cell x2.out 11;have t3:=Blk.frozen x2.out 11;have s4:=Blk.cell x2.out 12;have t4:=Blk.frozen x2.out 12;have s5:=Blk.cell x2.out 13;have t5:=Blk.frozen x2.out 13;have s6:=Blk.cell x2.out 14;have t6:=Blk.frozen x2.out 14;have p3:=Blk.cell x0.out 12;have p4:=Blk.cell x0.out 13;have p5:=Blk.cell x0.out 14;simp at s3 s4 s5 s6 p3 p4 p5;have K2:=hid (show Blk ((((w4.setCell ⟨w.heap.size+1+1,11,none⟩ (.slice D2 d.v.length e2)).setCell ⟨w.heap.size+1+1,12,none⟩ (int i64 d.u)).setCell ⟨w.heap.size+1+1,13,none⟩ (int i64 d.stop)).setCell ⟨w.heap.size+1+1,14,none⟩ (.bool d.down)) (w.heap.size+1+1) 35 #[int i64 d.s.g,int i64 d.s.c,int i64 d.s.data,int i64 d.s.p,int i64 d.s.rows,int i64 d.s.cap,int i64 d.s.b,int i64 d.s.q,int i64 d.s.t,.slice D0 d.g.length e0,.slice D1 d.on.length e1,.slice D2 d.v.length e2,int i64 d.u,int i64 d.stop,.bool d.down]from Blk.set_ (Blk.set_ (Blk.set_ (Blk.set_ x2.out 11 (.slice D2 d.v.length e2)) 12 (int i64 d.u)) 13 (int i64 d.stop)) 14 (.bool d.down));have K1:=hid (show Blk ((((w4.setCell ⟨w.heap.size+1+1,11,none⟩ (.slice D2 d.v.length e2)).setCell ⟨w.heap.size+1+1,12,none⟩ (int i64 d.u)).setCell ⟨w.heap.size+1+1,13,none⟩ (int i64 d.stop)).setCell ⟨w.heap.size+1+1,14,none⟩ (.bool d.down)) (w.heap.size+1) 35 #[int i64 0,int i64 0,int i64 0,int i64 0,int i64 0,int i64 0,int i64 0,int i64 0,int i64 0,.slice none 0 0,.slice none 0 0,.slice none 0 0,int i64 0,int i64 0,.bool false]from Blk.far (Blk.far (Blk.far (Blk.far x1.out (by simp) _) (by simp) _) (by simp) _) (by simp) _);have HRG:=hid (Blk.range K2.out 0 [int i64 d.s.g,int i64 d.s.c,int i64 d.s.data,int i64 d.s.p,int i64 d.s.rows,int i64 d.s.cap,int i64 d.s.b,int i64 d.s.q,int i64 d.s.t,.slice D0 d.g.length e0,.slice D1 d.on.length e1,.slice D2 d.v.length e2,int i64 d.u,int i64 d.stop,.bool d.down] rfl);have HTH:=hid (Blk.there K1.out 15 (by simp));go_wp2_with (first
  |(refine wpList_load_mid rfl 35 _ rfl (w.heap.size+1+1) 0 rfl [int i64 d.s.g,int i64 d.s.c,int i64 d.s.data,int i64 d.s.p,int i64 d.s.rows,int i64 d.s.cap,int i64 d.s.b,int i64 d.s.q,int i64 d.s.t,.slice D0 d.g.length e0,.slice D1 d.on.length e1,.slice D2 d.v.length e2,int i64 d.u,int i64 d.stop,.bool d.down] _ ?_ Tryz.underlying35 rfl (by kernel_rfl) ?_;(focus (exact HRG.out)))
  |(refine wpList_store_mid rfl 35 _ _ rfl (w.heap.size+1) 0 #[int i64 d.s.g,int i64 d.s.c,int i64 d.s.data,int i64 d.s.p,int i64 d.s.rows,int i64 d.s.cap,int i64 d.s.b,int i64 d.s.q,int i64 d.s.t,.slice D0 d.g.length e0,.slice D1 d.on.length e1,.slice D2 d.v.length e2,int i64 d.u,int i64 d.stop,.bool d.down] rfl rfl ?_ (by kernel_rfl) (by simp[Value.oneCell']) ?_;(focus (exact HTH.out))))
 have KF:=K1.out.laid [int i64 d.s.g,int i64 d.s.c,int i64 d.s.data,int i64 d.s.p,int i64 d.s.rows,int i64 d.s.cap,int i64 d.s.b,int i64 d.s.q,int i64 d.s.t,.slice D0 d.g.length e0,.slice D1 d.on.length e1,.slice D2 d.v.length e2,int i64 d.u,int i64 d.stop,.bool d.down] rfl;refine bodyPost_ret (results_cell_row rfl _ _ (w.heap.size+1) 35 #[int i64 d.s.g,int i64 d.s.c,int i64 d.s.data,int i64 d.s.p,int i64 d.s.rows,int i64 d.s.cap,int i64 d.s.b,int i64 d.s.q,int i64 d.s.t,.slice D0 d.g.length e0,.slice D1 d.on.length e1,.slice D2 d.v.length e2,int i64 d.u,int i64 d.stop,.bool d.down] (0,0) _ rfl KF Tryz.underlying35 rfl (by kernel_rfl)) rfl ?_;have hs0:∀(g:List Addr),(∀a,a∈g→w.heap.size+3≤a.block)→∀a,a∈g→w.heap.size≤a.block:=fun g hg a ha => by have:=hg a ha;omega
 refine⟨[int i64 d.s.g,int i64 d.s.c,int i64 d.s.data,int i64 d.s.p,int i64 d.s.rows,int i64 d.s.cap,int i64 d.s.b,int i64 d.s.q,int i64 d.s.t,.slice D0 d.g.length e0,.slice D1 d.on.length e1,.slice D2 d.v.length e2,int i64 d.u,int i64 d.stop,.bool d.down],g0 ++(g1 ++ g2),rfl,⟨_,_,_,g0,g1,g2,rfl,rfl,HOK.out.1,HOK.out.2.1,HOK.out.2.2.1,HOK.out.2.2.2.1,HOK.out.2.2.2.2.1,HOK.out.2.2.2.2.2.1,HOK.out.2.2.2.2.2.2.1,HOK.out.2.2.2.2.2.2.2.1,HOK.out.2.2.2.2.2.2.2.2.1,HOK.out.2.2.2.2.2.2.2.2.2.1,HOK.out.2.2.2.2.2.2.2.2.2.2,?_,?_,?_⟩,fun a ha => ?_,?_⟩
 ·exact((((Q0.out.keep (Ai.local_ Ak.local_) (AP.set_ _ HG0.out (by simp) _)).keep (Ai.local_ Ak.local_) (AP.set_ _ HG0.out (by simp) _)).keep (Ai.local_ Ak.local_) (AP.set_ _ HG0.out (by simp) _)).keep (Ai.local_ Ak.local_) (AP.set_ _ HG0.out (by simp) _)).keep (Ai.local_ Ak.local_) (C6 _ _ _ _ fun a ha => by have:=HG0.out a ha;omega)
 ·exact((((Q1.out.keep Al.local_ (AP.set_ _ HG1.out (by simp) _)).keep Al.local_ (AP.set_ _ HG1.out (by simp) _)).keep Al.local_ (AP.set_ _ HG1.out (by simp) _)).keep Al.local_ (AP.set_ _ HG1.out (by simp) _)).keep Al.local_ (C6 _ _ _ _ fun a ha => by have:=HG1.out a ha;omega)
 ·exact((((Q2.out.keep As.local_ (AP.set_ _ HG2.out (by simp) _)).keep As.local_ (AP.set_ _ HG2.out (by simp) _)).keep As.local_ (AP.set_ _ HG2.out (by simp) _)).keep As.local_ (AP.set_ _ HG2.out (by simp) _)).keep As.local_ (C6 _ _ _ _ fun a ha => by have:=HG2.out a ha;omega)
 ·rcases List.mem_append.1 ha with ha|ha
  ·exact hs0 _ HG0.out a ha
  ·rcases List.mem_append.1 ha with ha|ha
   ·exact hs0 _ HG1.out a ha
   ·exact hs0 _ HG2.out a ha
 ·exact Below.setCells_ _ _ _ _ (by omega) ((((X1.out.setCell (by simp;omega) _).setCell (by simp;omega) _).setCell (by simp;omega) _).setCell (by simp;omega) _)
end Go.Proofs.YtfjkoifpdoemdaaGreat
namespace Go.Proofs
open Go.Shelf Go.RowKit
def Tryz.laysnb115_ren:Go.Shelf.Ren:=⟨fun|115 => 105|n => n,fun|4 => 4|9 => 9|37 => 39|5 => 5|n => n,fun n => n⟩
theorem Tryz.laysnb115:Go.Proofs.Lays.nb115 Tryz.prog Tryz.laysnb115_ren:={
 mixed:=by kernel_rfl
 f115:=Tryz.func105.trans (congrArg some (by kernel_rfl))
 t4:=Tryz.underlying4
 a4:=Tryz.isAgg4
 z4:=Tryz.sizeOf4
 v4:=Tryz.zeroValue4
 t9:=Tryz.underlying9
 a9:=Tryz.isAgg9
 z9:=Tryz.sizeOf9
 v9:=Tryz.zeroValue9
 t37:=Tryz.underlying39
 a37:=Tryz.isAgg39
 z37:=Tryz.sizeOf39
 v37:=Tryz.zeroValue39
 t5:=Tryz.underlying5
 a5:=Tryz.isAgg5
 z5:=Tryz.sizeOf5
 v5:=Tryz.zeroValue5 }
theorem Tryz.bytesEqual(p1 p2:Option Addr)(n c m d:Nat)(xs ys:List Int)(w:World)(hx:xs.length=n)(hy:ys.length=m)(h1:Lib.BytesIn w p1 n xs)(h2:Lib.BytesIn w p2 m ys) :
  Calls Tryz.prog 105 #[.slice p1 n c,.slice p2 m d] w fun e w' => e= .returned (.bool (Lib.bytesOf xs == Lib.bytesOf ys))∧w'=w:=Any.bytes_Equal_all Tryz.laysnb115 p1 p2 n c m d xs ys w hx hy h1 h2
end Go.Proofs
