/-
  Part 3 of the proof; the last part states and proves the statement.
-/
import Derived.Test.YtfjkoifpdoemdaaGreatI01
import Derived.Test.YtfjkoifpdoemdaaGreatI02
set_option maxHeartbeats 8000000
set_option maxRecDepth 100000
set_option linter.unusedVariables false
set_option linter.unusedSimpArgs false
open Go.Value (int)
open Go.IntKind (i64)
namespace Go.Proofs.YtfjkoifpdoemdaaGreat
open Go.RowKit Go.Sort
open Go.Lib (hid)
def CC(left:Int)(n:Nat):Int:=if left<(n:Int)then -1 else left - (n:Int)
theorem Bb {left:Int} {n:Nat}(h:left<(n:Int)):CC left n= -1:=by unfold CC;rw[if_pos h]
theorem Bu {left:Int} {n:Nat}(h:¬left<(n:Int)):CC left n=left - (n:Int):=by unfold CC;rw[if_neg h]
def CY {α:Type}(f:α→Nat)(l:List α)(k:Nat):Nat:=((l.take k).map f).sum
def AO {α:Type}(f:α→Nat)(l:List α):Nat:=l.length+(l.map f).sum
theorem Ey {α:Type}(f:α→Nat) {l:List α} {k:Nat}(h:k<l.length):CY f l (k+1)=CY f l k+f l[k]:=by
 unfold CY;rw[List.take_succ_eq_append_getElem h,List.map_append,List.sum_append];simp only[List.map_cons,List.map_nil,List.sum_cons,List.sum_nil,Nat.add_zero]
theorem Fq {α:Type}(f:α→Nat)(l:List α)(k:Nat):CY f l k≤(l.map f).sum:=by
 unfold CY;conv => rhs;rw[← List.take_append_drop k l]
 rw[List.map_append,List.sum_append];omega
theorem FI {α:Type}(f:α→Nat) {l:List α} {k:Nat}(h:k<l.length):f l[k] +1≤AO f l:=by
 have h1:=Ey f h;have h2:=Fq f l (k+1);unfold AO;omega
def BU(b:Br):Nat:=b.bytes.length
def BR(d:AL):Nat:=AO BU d.blocks
def BL(g:List AL):Nat:=AO BR g
def BP(r:Ai):Nat:=r.name.size+r.rows.length+r.data.length+r.delta.length
def Cl(t:AQ):Nat:=AO BP t.recs
def C3(d:Am):Nat:=AO BL d.g+d.on.length+AO Cl d.v
theorem Ii(v:Value)(xs:List Int)(fs:List Addr)(w:World)(left:Int)(h1:AN w fs v xs)(hl:0≤left)(hl2:left≤1048576) :
  Calls Tryz.prog 32 #[v,int i64 left] w fun e w' => e= .returned (int i64 (CC left xs.length))∧w=w':=by
 obtain⟨A1,c1,rfl,hc1,hm1,-⟩:=AN.open_ h1;clear h1;by_cases h:left<(xs.length:Int)
 ·have hlt:left - (xs.length:Int)<0:=by omega
  rw[Bb h];go_enter Tryz.func32,Tryz.ntmps32
  go_wp2
  go_ret
  exact⟨rfl,rfl⟩
 ·have hlt:¬left - (xs.length:Int)<0:=by omega
  rw[Bu h];go_enter Tryz.func32,Tryz.ntmps32
  go_wp2
  go_ret
  exact⟨rfl,rfl⟩
theorem IT(v:Value)(xs:List UInt8)(fs:List Addr)(w:World)(left:Int)(h1:Ag w fs v xs)(hl:0≤left)(hl2:left≤1048576) :
  Calls Tryz.prog 263 #[v,int i64 left] w fun e w' => e= .returned (int i64 (CC left xs.length))∧w=w':=Py v xs fs w left h1 (by omega) hl2
theorem Qr(d:Br)(cs:List Value)(f:List Addr)(w:World)(left:Int)(h1:AD w f cs d)(hl:0≤left)(hl2:left≤1048576) :
  Calls Tryz.prog 281 #[.agg cs.toArray,int i64 left] w fun e w' => e= .returned (int i64 (CC left (BU d)))∧Below w.heap.size w w':=by
 dsimp only[AD]at h1;obtain⟨v0,f0,e,-,-,h⟩:=h1;subst e;have B1:Below w.heap.size w (w.alloc (.cells #[int i64 d.stamp,v0] 304)):=(Below.refl _ _).alloc (Nat.le_refl _) _;have HC:=hid (IT v0 d.bytes f0 (w.alloc (.cells #[int i64 d.stamp,v0] 304)) left (rSl.below Ah.local_ Ah.fixed h B1) hl hl2);obtain⟨A0,c0,rfl,-⟩:=rSl.head h;have HB:=hid B1;have e0:BU d=d.bytes.length:=rfl;rw[e0];clear e0 h B1;by_cases h4:left<(d.bytes.length:Int)
 ·rw[Bb h4]at HC⊢;go_enter Tryz.func281,Tryz.ntmps281
  go_wp2_with (go_at_call 263;refine HC.out.mono ?_;rintro e w1 ⟨rfl,rfl⟩;have HB2:=HB)
  go_ret
  exact⟨rfl,HB2.out⟩
 ·rw[Bu h4]at HC⊢;have h5:¬left - (d.bytes.length:Int)<0:=by omega
  go_enter Tryz.func281,Tryz.ntmps281
  go_wp2_with (go_at_call 263;refine HC.out.mono ?_;rintro e w1 ⟨rfl,rfl⟩;have HB2:=HB)
  go_ret
  exact⟨rfl,HB2.out⟩
theorem OT(v:Value)(ds:List Br)(fs:List Addr)(w:World)(left:Int)(h1:rSl 2 AD w fs v ds)(hl:0≤left)(hl2:left≤1048576) :
  Calls Tryz.prog 232 #[v,int i64 left] w fun e w' => e= .returned (int i64 (CC left (AO BU ds)))∧Below w.heap.size w w':=by
 obtain⟨A1,c1,rfl,hc1,hm1,hx⟩:=rSl.at_ AD.fixed (by decide) h1;clear h1;obtain⟨r,hr⟩:∃r,CC left (AO BU ds)=r:=⟨_,rfl⟩;rw[hr];have HR:=hid hr;clear hr;by_cases h:left<ds.length
 ·have hlt:left - (ds.length:Int)<0:=by omega
  have e1:r= -1:=by rw[← HR.out];exact Bb (by unfold AO;omega)
  subst e1;clear hx;go_enter Tryz.func232,Tryz.ntmps232
  go_wp2_with fail
  go_ret
  exact⟨rfl,Below.refl _ _⟩
 ·have hlt:¬left - (ds.length:Int)<0:=by omega
  have HX:=hid hx;clear hx;go_enter Tryz.func232,Tryz.ntmps232
  go_wp2_with fail
  go_loopw [1,4,5] (fun l r i wr =>∃(j t:Nat),j≤ds.length∧Hid (t=CY BU ds j)∧(t:Int)≤left - (ds.length:Int)∧i= int i64 j∧r= int i64 0∧l= int i64 (left - (ds.length:Int) - (t:Int))∧Hid (Below w.heap.size w wr)) (fun _ _ i _ => ds.length - (intOf i).toNat)
  case atStart => exact⟨0,0,by omega,(show 0=_ by simp[CY]),by omega,rfl,rfl,by simp,Below.refl _ _⟩
  case round =>
   obtain⟨j,t,hj,HT,htl,rfl,rfl,rfl,HB⟩:=hrel;by_cases hlt2:j<ds.length
   ·obtain⟨ad,b,o,cs,fk,e1,hat⟩:=HX.out j hlt2;subst e1;have hat2:=hat.below AD.local_ HB.out;have hpl:=hat.place;have hbl:=hat2.lt;have HRG:=hid (show wr.rangeAt b o cs from fun q v hq => by
     have hq1:q<cs.length:=(List.getElem?_eq_some_iff.1 hq).1;rw[hat2.cell q hq1,← hq];exact(List.getElem?_eq_getElem hq1).symm)
    have HI:=hid (show(Tryz.prog.info? 304).map (·.size)=some cs.length by rw[hat2.len];kernel_rfl);have HC:=hid (Qr ds[j] cs fk wr (left - (ds.length:Int) - (t:Int)) hat2.reads (by omega) (by omega));have hst:=Ey BU hlt2;rw[← HT.out]at hst;have HST:=hid hst;have hle:=Fq BU ds (j+1);have HLE:=hid hle;clear hat hat2 hst hle HX;obtain⟨m,hm⟩:∃m,BU ds[j] =m:=⟨_,rfl⟩;rw[hm]at HC HST;clear hm;by_cases h4:left - (ds.length:Int) - (t:Int)<(m:Int)
    ·rw[Bb h4]at HC;have e1:r= -1:=by rw[← HR.out];exact Bb (by unfold AO;have:=HST.out;have:=HLE.out;omega)
     subst e1;go_wp2_with (first
      |(refine wpList_load_mid rfl 304 _ rfl b o rfl cs _ HRG.out Tryz.underlying304 rfl HI.out ?_)
      |(go_at_call 281;refine HC.out.mono ?_;rintro e w1 ⟨rfl,hb1⟩;have B1:=hid (HB.out.trans (hb1.mono HB.out.size));clear hb1))
     go_ret
     exact⟨rfl,B1.out⟩
    ·rw[Bu h4]at HC;have h5:¬left - (ds.length:Int) - (t:Int) - (m:Int)<0:=by omega
     have H4:=hid h4;have HE:=hid (show left - (ds.length:Int) - (t:Int) - (m:Int)=left - (ds.length:Int) - ((t+m:Nat):Int) by omega);clear h4;go_wp2_with (first
      |(refine wpList_load_mid rfl 304 _ rfl b o rfl cs _ HRG.out Tryz.underlying304 rfl HI.out ?_)
      |(go_at_call 281;refine HC.out.mono ?_;rintro e w1 ⟨rfl,hb1⟩;have B1:=hid (HB.out.trans (hb1.mono HB.out.size));clear hb1))
     go_roundw
     case rel => exact⟨j+1,t+m,by omega,HST.out.symm,by have:=H4.out;omega,by go_num,rfl,by rw[HE.out],B1.out⟩
     case measure => simp[intOf];omega
   ·have e1:t=(ds.map BU).sum:=by rw[HT.out];unfold CY;rw[List.take_of_length_le (by omega)]
    have e2:r=left - (ds.length:Int) - (t:Int):=by rw[← HR.out,Bu (by unfold AO;omega)];unfold AO;omega
    subst e2;clear HR e1 HX HT;go_wp2_with fail
    go_ret
    exact⟨rfl,HB.out⟩
theorem Qf(d:AL)(cs:List Value)(f:List Addr)(w:World)(left:Int)(h1:Aj w f cs d)(hl:0≤left)(hl2:left≤1048576) :
  Calls Tryz.prog 142 #[.agg cs.toArray,int i64 left] w fun e w' => e= .returned (int i64 (CC left (BR d)))∧Below w.heap.size w w':=by
 dsimp only[Aj]at h1;obtain⟨v0,f0,e,-,h⟩:=h1;subst e;have B1:Below w.heap.size w (w.alloc (.cells #[.bool d.wiped,v0] 190)):=(Below.refl _ _).alloc (Nat.le_refl _) _;have HC:=hid (OT v0 d.blocks f0 (w.alloc (.cells #[.bool d.wiped,v0] 190)) left (rSl.below AD.local_ AD.fixed h B1) hl hl2);obtain⟨A0,c0,rfl,-⟩:=rSl.head h;have HB:=hid B1;have e0:BR d=AO BU d.blocks:=rfl;rw[e0];clear e0 h B1;obtain⟨m,hm⟩:∃m,AO BU d.blocks=m:=⟨_,rfl⟩;rw[hm]at HC⊢;clear hm;by_cases h4:left<(m:Int)
 ·rw[Bb h4]at HC⊢;go_enter Tryz.func142,Tryz.ntmps142
  go_wp2_with (go_at_call 232;refine HC.out.mono ?_;rintro e w1 ⟨rfl,hb⟩;have HB2:=hid (HB.out.trans (hb.mono HB.out.size));clear hb)
  go_ret
  exact⟨rfl,HB2.out⟩
 ·rw[Bu h4]at HC⊢;have h5:¬left - (m:Int)<0:=by omega
  go_enter Tryz.func142,Tryz.ntmps142
  go_wp2_with (go_at_call 232;refine HC.out.mono ?_;rintro e w1 ⟨rfl,hb⟩;have HB2:=hid (HB.out.trans (hb.mono HB.out.size));clear hb)
  go_ret
  exact⟨rfl,HB2.out⟩
theorem N9(v:Value)(ds:List AL)(fs:List Addr)(w:World)(left:Int)(h1:rSl 2 Aj w fs v ds)(hl:0≤left)(hl2:left≤1048576) :
  Calls Tryz.prog 80 #[v,int i64 left] w fun e w' => e= .returned (int i64 (CC left (AO BR ds)))∧Below w.heap.size w w':=by
 obtain⟨A1,c1,rfl,hc1,hm1,hx⟩:=rSl.at_ Aj.fixed (by decide) h1;clear h1;obtain⟨r,hr⟩:∃r,CC left (AO BR ds)=r:=⟨_,rfl⟩;rw[hr];have HR:=hid hr;clear hr;by_cases h:left<ds.length
 ·have hlt:left - (ds.length:Int)<0:=by omega
  have e1:r= -1:=by rw[← HR.out];exact Bb (by unfold AO;omega)
  subst e1;clear hx;go_enter Tryz.func80,Tryz.ntmps80
  go_wp2_with fail
  go_ret
  exact⟨rfl,Below.refl _ _⟩
 ·have hlt:¬left - (ds.length:Int)<0:=by omega
  have HX:=hid hx;clear hx;go_enter Tryz.func80,Tryz.ntmps80
  go_wp2_with fail
  go_loopw [1,4,5] (fun l r i wr =>∃(j t:Nat),j≤ds.length∧Hid (t=CY BR ds j)∧(t:Int)≤left - (ds.length:Int)∧i= int i64 j∧r= int i64 0∧l= int i64 (left - (ds.length:Int) - (t:Int))∧Hid (Below w.heap.size w wr)) (fun _ _ i _ => ds.length - (intOf i).toNat)
  case atStart => exact⟨0,0,by omega,(show 0=_ by simp[CY]),by omega,rfl,rfl,by simp,Below.refl _ _⟩
  case round =>
   obtain⟨j,t,hj,HT,htl,rfl,rfl,rfl,HB⟩:=hrel;by_cases hlt2:j<ds.length
   ·obtain⟨ad,b,o,cs,fk,e1,hat⟩:=HX.out j hlt2;subst e1;have hat2:=hat.below Aj.local_ HB.out;have hpl:=hat.place;have hbl:=hat2.lt;have HRG:=hid (show wr.rangeAt b o cs from fun q v hq => by
     have hq1:q<cs.length:=(List.getElem?_eq_some_iff.1 hq).1;rw[hat2.cell q hq1,← hq];exact(List.getElem?_eq_getElem hq1).symm)
    have HI:=hid (show(Tryz.prog.info? 190).map (·.size)=some cs.length by rw[hat2.len];kernel_rfl);have HC:=hid (Qf ds[j] cs fk wr (left - (ds.length:Int) - (t:Int)) hat2.reads (by omega) (by omega));have hst:=Ey BR hlt2;rw[← HT.out]at hst;have HST:=hid hst;have hle:=Fq BR ds (j+1);have HLE:=hid hle;clear hat hat2 hst hle HX;obtain⟨m,hm⟩:∃m,BR ds[j] =m:=⟨_,rfl⟩;rw[hm]at HC HST;clear hm;by_cases h4:left - (ds.length:Int) - (t:Int)<(m:Int)
    ·rw[Bb h4]at HC;have e1:r= -1:=by rw[← HR.out];exact Bb (by unfold AO;have:=HST.out;have:=HLE.out;omega)
     subst e1;go_wp2_with (first
      |(refine wpList_load_mid rfl 190 _ rfl b o rfl cs _ HRG.out Tryz.underlying190 rfl HI.out ?_)
      |(go_at_call 142;refine HC.out.mono ?_;rintro e w1 ⟨rfl,hb1⟩;have B1:=hid (HB.out.trans (hb1.mono HB.out.size));clear hb1))
     go_ret
     exact⟨rfl,B1.out⟩
    ·rw[Bu h4]at HC;have h5:¬left - (ds.length:Int) - (t:Int) - (m:Int)<0:=by omega
     have H4:=hid h4;have HE:=hid (show left - (ds.length:Int) - (t:Int) - (m:Int)=left - (ds.length:Int) - ((t+m:Nat):Int) by omega);clear h4;go_wp2_with (first
      |(refine wpList_load_mid rfl 190 _ rfl b o rfl cs _ HRG.out Tryz.underlying190 rfl HI.out ?_)
      |(go_at_call 142;refine HC.out.mono ?_;rintro e w1 ⟨rfl,hb1⟩;have B1:=hid (HB.out.trans (hb1.mono HB.out.size));clear hb1))
     go_roundw
     case rel => exact⟨j+1,t+m,by omega,HST.out.symm,by have:=H4.out;omega,by go_num,rfl,by rw[HE.out],B1.out⟩
     case measure => simp[intOf];omega
   ·have e1:t=(ds.map BR).sum:=by rw[HT.out];unfold CY;rw[List.take_of_length_le (by omega)]
    have e2:r=left - (ds.length:Int) - (t:Int):=by rw[← HR.out,Bu (by unfold AO;omega)];unfold AO;omega
    subst e2;clear HR e1 HX HT;go_wp2_with fail
    go_ret
    exact⟨rfl,HB.out⟩
theorem Nm(v:Value)(ds:List (List AL))(fs:List Addr)(w:World)(left:Int)(h1:rSl 1 (Ak 2 Aj) w fs v ds)(hl:0≤left)(hl2:left≤1048576) :
  Calls Tryz.prog 31 #[v,int i64 left] w fun e w' => e= .returned (int i64 (CC left (AO BL ds)))∧Below w.heap.size w w':=by
 obtain⟨A1,c1,rfl,hc1,hm1,hx⟩:=rSl.at_ (Ak.fixed Aj.fixed) (by decide) h1;clear h1;obtain⟨r,hr⟩:∃r,CC left (AO BL ds)=r:=⟨_,rfl⟩;rw[hr];have HR:=hid hr;clear hr;by_cases h:left<ds.length
 ·have hlt:left - (ds.length:Int)<0:=by omega
  have e1:r= -1:=by rw[← HR.out];exact Bb (by unfold AO;omega)
  subst e1;clear hx;go_enter Tryz.func31,Tryz.ntmps31
  go_wp2_with fail
  go_ret
  exact⟨rfl,Below.refl _ _⟩
 ·have hlt:¬left - (ds.length:Int)<0:=by omega
  have HX:=hid hx;clear hx;go_enter Tryz.func31,Tryz.ntmps31
  go_wp2_with fail
  go_loopw [1,4,5] (fun l r i wr =>∃(j t:Nat),j≤ds.length∧Hid (t=CY BL ds j)∧(t:Int)≤left - (ds.length:Int)∧i= int i64 j∧r= int i64 0∧l= int i64 (left - (ds.length:Int) - (t:Int))∧Hid (Below w.heap.size w wr)) (fun _ _ i _ => ds.length - (intOf i).toNat)
  case atStart => exact⟨0,0,by omega,(show 0=_ by simp[CY]),by omega,rfl,rfl,by simp,Below.refl _ _⟩
  case round =>
   obtain⟨j,t,hj,HT,htl,rfl,rfl,rfl,HB⟩:=hrel;by_cases hlt2:j<ds.length
   ·obtain⟨ad,b,o,cs,fk,e1,hat⟩:=HX.out j hlt2;subst e1;have hat2:=hat.below (Ak.local_ Aj.local_) HB.out;have hpl:=hat.place;have hbl:=hat2.lt;obtain⟨ve,hve,hrd⟩:=hat2.reads;subst hve;obtain⟨Ae,ce,rfl,-⟩:=rSl.head hrd;have hpc:=hat2.cell 0 (by simp);simp only[Nat.add_zero,List.getElem_cons_zero]at hpc;rw[Nat.mul_one]at hpl;have HC:=hid (N9 _ ds[j] fk wr (left - (ds.length:Int) - (t:Int)) hrd (by omega) (by omega));have hst:=Ey BL hlt2;rw[← HT.out]at hst;have HST:=hid hst;have hle:=Fq BL ds (j+1);have HLE:=hid hle;clear hat hat2 hst hle HX hrd;obtain⟨m,hm⟩:∃m,BL ds[j] =m:=⟨_,rfl⟩;have hm2:AO BR ds[j] =m:=hm;rw[hm2]at HC;rw[hm]at HST;clear hm2;clear hm;by_cases h4:left - (ds.length:Int) - (t:Int)<(m:Int)
    ·rw[Bb h4]at HC;have e1:r= -1:=by rw[← HR.out];exact Bb (by unfold AO;have:=HST.out;have:=HLE.out;omega)
     subst e1;go_wp2_with (first
      |(go_at_call 80;refine HC.out.mono ?_;rintro e w1 ⟨rfl,hb1⟩;have B1:=hid (HB.out.trans (hb1.mono HB.out.size));clear hb1))
     go_ret
     exact⟨rfl,B1.out⟩
    ·rw[Bu h4]at HC;have h5:¬left - (ds.length:Int) - (t:Int) - (m:Int)<0:=by omega
     have H4:=hid h4;have HE:=hid (show left - (ds.length:Int) - (t:Int) - (m:Int)=left - (ds.length:Int) - ((t+m:Nat):Int) by omega);clear h4;go_wp2_with (first
      |(go_at_call 80;refine HC.out.mono ?_;rintro e w1 ⟨rfl,hb1⟩;have B1:=hid (HB.out.trans (hb1.mono HB.out.size));clear hb1))
     go_roundw
     case rel => exact⟨j+1,t+m,by omega,HST.out.symm,by have:=H4.out;omega,by go_num,rfl,by rw[HE.out],B1.out⟩
     case measure => simp[intOf];omega
   ·have e1:t=(ds.map BL).sum:=by rw[HT.out];unfold CY;rw[List.take_of_length_le (by omega)]
    have e2:r=left - (ds.length:Int) - (t:Int):=by rw[← HR.out,Bu (by unfold AO;omega)];unfold AO;omega
    subst e2;clear HR e1 HX HT;go_wp2_with fail
    go_ret
    exact⟨rfl,HB.out⟩
theorem szRec_c(d:Ai)(cs:List Value)(f:List Addr)(w:World)(left:Int)(h1:Ac w f cs d)(hl:0≤left)(hl2:left≤1048576) :
  Calls Tryz.prog 233 #[.agg cs.toArray,int i64 left] w fun e w' => e= .returned (int i64 (CC left (BP d)))∧Below w.heap.size w w':=by
 dsimp only[Ac]at h1;obtain⟨v0,v1,v2,f0,f1,f2,e,-,-,-,hsz,-,-,-,r0,r1,r2⟩:=h1;subst e;have B1:Below w.heap.size w (w.alloc (.cells #[int i64 d.kind,int i64 d.seq,.string d.name,int i64 d.length,int i64 d.group,int i64 d.row,v0,v1,v2] 268)):=(Below.refl _ _).alloc (Nat.le_refl _) _;have HR0:=hid (rSl.below Ay.local_ Ay.fixed r0 B1);have HR1:=hid (rSl.below Ah.local_ Ah.fixed r1 B1);have HR2:=hid (rSl.below Ah.local_ Ah.fixed r2 B1);obtain⟨A0,c0,rfl,-⟩:=rSl.head r0;obtain⟨A1,c1,rfl,-⟩:=rSl.head r1;obtain⟨A2,c2,rfl,-⟩:=rSl.head r2;have HB:=hid B1;obtain⟨r,hr⟩:∃r,CC left (BP d)=r:=⟨_,rfl⟩;rw[hr];have HR:=hid hr;clear hr r0 r1 r2 B1;by_cases qn:left<(d.name.size:Int)
 ·have e1:r= -1:=by rw[← HR.out];exact Bb (by unfold BP;omega)
  subst e1;have ql:left - (d.name.size:Int)<0:=by omega
  go_enter Tryz.func233,Tryz.ntmps233
  go_wp2_with fail
  go_ret
  exact⟨rfl,HB.out⟩
 have ql:¬left - (d.name.size:Int)<0:=by omega
 have HC0:=hid (Ii _ d.rows f0 _ (left - (d.name.size:Int)) HR0.out (by omega) (by omega));by_cases q0:left - (d.name.size:Int)<(d.rows.length:Int)
 ·have e1:r= -1:=by rw[← HR.out];exact Bb (by unfold BP;omega)
  subst e1;rw[Bb q0]at HC0;go_enter Tryz.func233,Tryz.ntmps233
  go_wp2_with (go_at_call 32;refine HC0.out.mono ?_;rintro e w' ⟨rfl,rfl⟩)
  go_ret
  exact⟨rfl,HB.out⟩
 have ql0:¬left - (d.name.size:Int) - (d.rows.length:Int)<0:=by omega
 rw[Bu q0]at HC0;have HC1:=hid (IT _ d.data f1 _ (left - (d.name.size:Int) - (d.rows.length:Int)) HR1.out (by omega) (by omega));by_cases q1:left - (d.name.size:Int) - (d.rows.length:Int)<(d.data.length:Int)
 ·have e1:r= -1:=by rw[← HR.out];exact Bb (by unfold BP;omega)
  subst e1;rw[Bb q1]at HC1;go_enter Tryz.func233,Tryz.ntmps233
  go_wp2_with (first
   |(go_at_call 32;refine HC0.out.mono ?_;rintro e w' ⟨rfl,rfl⟩)
   |(go_at_call 263;refine HC1.out.mono ?_;rintro e w' ⟨rfl,rfl⟩))
  go_ret
  exact⟨rfl,HB.out⟩
 have ql1:¬left - (d.name.size:Int) - (d.rows.length:Int) - (d.data.length:Int)<0:=by omega
 rw[Bu q1]at HC1;have HC2:=hid (IT _ d.delta f2 _ (left - (d.name.size:Int) - (d.rows.length:Int) - (d.data.length:Int)) HR2.out (by omega) (by omega));by_cases q2:left - (d.name.size:Int) - (d.rows.length:Int) - (d.data.length:Int)<(d.delta.length:Int)
 ·have e1:r= -1:=by rw[← HR.out];exact Bb (by unfold BP;omega)
  subst e1;rw[Bb q2]at HC2;go_enter Tryz.func233,Tryz.ntmps233
  go_wp2_with (first
   |(go_at_call 32;refine HC0.out.mono ?_;rintro e w' ⟨rfl,rfl⟩)
   |(go_at_call 263;((with_reducible refine HC1.out.mono ?_);rintro e w' ⟨rfl,rfl⟩))
   |(go_at_call 263;refine HC2.out.mono ?_;rintro e w' ⟨rfl,rfl⟩))
  go_ret
  exact⟨rfl,HB.out⟩
 have ql2:¬left - (d.name.size:Int) - (d.rows.length:Int) - (d.data.length:Int) - (d.delta.length:Int)<0:=by omega
 rw[Bu q2]at HC2;have e1:r=left - (d.name.size:Int) - (d.rows.length:Int) - (d.data.length:Int) - (d.delta.length:Int):=by rw[← HR.out,Bu (by unfold BP;omega)];unfold BP;omega
 subst e1;go_enter Tryz.func233,Tryz.ntmps233
 go_wp2_with (first
  |(go_at_call 32;refine HC0.out.mono ?_;rintro e w' ⟨rfl,rfl⟩)
  |(go_at_call 263;((with_reducible refine HC1.out.mono ?_);rintro e w' ⟨rfl,rfl⟩))
  |(go_at_call 263;refine HC2.out.mono ?_;rintro e w' ⟨rfl,rfl⟩))
 go_ret
 exact⟨rfl,HB.out⟩
theorem szRecS_c(v:Value)(ds:List Ai)(fs:List Addr)(w:World)(left:Int)(h1:rSl 9 Ac w fs v ds)(hl:0≤left)(hl2:left≤1048576) :
  Calls Tryz.prog 143 #[v,int i64 left] w fun e w' => e= .returned (int i64 (CC left (AO BP ds)))∧Below w.heap.size w w':=by
 obtain⟨A1,c1,rfl,hc1,hm1,hx⟩:=rSl.at_ Ac.fixed (by decide) h1;clear h1;obtain⟨r,hr⟩:∃r,CC left (AO BP ds)=r:=⟨_,rfl⟩;rw[hr];have HR:=hid hr;clear hr;by_cases h:left<ds.length
 ·have hlt:left - (ds.length:Int)<0:=by omega
  have e1:r= -1:=by rw[← HR.out];exact Bb (by unfold AO;omega)
  subst e1;clear hx;go_enter Tryz.func143,Tryz.ntmps143
  go_wp2_with fail
  go_ret
  exact⟨rfl,Below.refl _ _⟩
 ·have hlt:¬left - (ds.length:Int)<0:=by omega
  have HX:=hid hx;clear hx;go_enter Tryz.func143,Tryz.ntmps143
  go_wp2_with fail
  go_loopw [1,4,5] (fun l r i wr =>∃(j t:Nat),j≤ds.length∧Hid (t=CY BP ds j)∧(t:Int)≤left - (ds.length:Int)∧i= int i64 j∧r= int i64 0∧l= int i64 (left - (ds.length:Int) - (t:Int))∧Hid (Below w.heap.size w wr)) (fun _ _ i _ => ds.length - (intOf i).toNat)
  case atStart => exact⟨0,0,by omega,(show 0=_ by simp[CY]),by omega,rfl,rfl,by simp,Below.refl _ _⟩
  case round =>
   obtain⟨j,t,hj,HT,htl,rfl,rfl,rfl,HB⟩:=hrel;by_cases hlt2:j<ds.length
   ·obtain⟨ad,b,o,cs,fk,e1,hat⟩:=HX.out j hlt2;subst e1;have hat2:=hat.below Ac.local_ HB.out;have hpl:=hat.place;have hbl:=hat2.lt;have HRG:=hid (show wr.rangeAt b o cs from fun q v hq => by
     have hq1:q<cs.length:=(List.getElem?_eq_some_iff.1 hq).1;rw[hat2.cell q hq1,← hq];exact(List.getElem?_eq_getElem hq1).symm)
    have HI:=hid (show(Tryz.prog.info? 268).map (·.size)=some cs.length by rw[hat2.len];kernel_rfl);have HC:=hid (szRec_c ds[j] cs fk wr (left - (ds.length:Int) - (t:Int)) hat2.reads (by omega) (by omega));have hst:=Ey BP hlt2;rw[← HT.out]at hst;have HST:=hid hst;have hle:=Fq BP ds (j+1);have HLE:=hid hle;clear hat hat2 hst hle HX;obtain⟨m,hm⟩:∃m,BP ds[j] =m:=⟨_,rfl⟩;rw[hm]at HC HST;clear hm;by_cases h4:left - (ds.length:Int) - (t:Int)<(m:Int)
    ·rw[Bb h4]at HC;have e1:r= -1:=by rw[← HR.out];exact Bb (by unfold AO;have:=HST.out;have:=HLE.out;omega)
     subst e1;go_wp2_with (first
      |(refine wpList_load_mid rfl 268 _ rfl b o rfl cs _ HRG.out Tryz.underlying268 rfl HI.out ?_)
      |(go_at_call 233;refine HC.out.mono ?_;rintro e w1 ⟨rfl,hb1⟩;have B1:=hid (HB.out.trans (hb1.mono HB.out.size));clear hb1))
     go_ret
     exact⟨rfl,B1.out⟩
    ·rw[Bu h4]at HC;have h5:¬left - (ds.length:Int) - (t:Int) - (m:Int)<0:=by omega
     have H4:=hid h4;have HE:=hid (show left - (ds.length:Int) - (t:Int) - (m:Int)=left - (ds.length:Int) - ((t+m:Nat):Int) by omega);clear h4;go_wp2_with (first
      |(refine wpList_load_mid rfl 268 _ rfl b o rfl cs _ HRG.out Tryz.underlying268 rfl HI.out ?_)
      |(go_at_call 233;refine HC.out.mono ?_;rintro e w1 ⟨rfl,hb1⟩;have B1:=hid (HB.out.trans (hb1.mono HB.out.size));clear hb1))
     go_roundw
     case rel => exact⟨j+1,t+m,by omega,HST.out.symm,by have:=H4.out;omega,by go_num,rfl,by rw[HE.out],B1.out⟩
     case measure => simp[intOf];omega
   ·have e1:t=(ds.map BP).sum:=by rw[HT.out];unfold CY;rw[List.take_of_length_le (by omega)]
    have e2:r=left - (ds.length:Int) - (t:Int):=by rw[← HR.out,Bu (by unfold AO;omega)];unfold AO;omega
    subst e2;clear HR e1 HX HT;go_wp2_with fail
    go_ret
    exact⟨rfl,HB.out⟩
theorem szTape_c(d:AQ)(cs:List Value)(f:List Addr)(w:World)(left:Int)(h1:Aw w f cs d)(hl:0≤left)(hl2:left≤1048576) :
  Calls Tryz.prog 81 #[.agg cs.toArray,int i64 left] w fun e w' => e= .returned (int i64 (CC left (Cl d)))∧Below w.heap.size w w':=by
 dsimp only[Aw]at h1;obtain⟨v0,f0,e,-,h⟩:=h1;subst e;have B1:Below w.heap.size w (w.alloc (.cells #[.bool d.wiped,v0] 135)):=(Below.refl _ _).alloc (Nat.le_refl _) _;have HC:=hid (szRecS_c v0 d.recs f0 (w.alloc (.cells #[.bool d.wiped,v0] 135)) left (rSl.below Ac.local_ Ac.fixed h B1) hl hl2);obtain⟨A0,c0,rfl,-⟩:=rSl.head h;have HB:=hid B1;have e0:Cl d=AO BP d.recs:=rfl;rw[e0];clear e0 h B1;obtain⟨m,hm⟩:∃m,AO BP d.recs=m:=⟨_,rfl⟩;rw[hm]at HC⊢;clear hm;by_cases h4:left<(m:Int)
 ·rw[Bb h4]at HC⊢;go_enter Tryz.func81,Tryz.ntmps81
  go_wp2_with (go_at_call 143;refine HC.out.mono ?_;rintro e w1 ⟨rfl,hb⟩;have HB2:=hid (HB.out.trans (hb.mono HB.out.size));clear hb)
  go_ret
  exact⟨rfl,HB2.out⟩
 ·rw[Bu h4]at HC⊢;have h5:¬left - (m:Int)<0:=by omega
  go_enter Tryz.func81,Tryz.ntmps81
  go_wp2_with (go_at_call 143;refine HC.out.mono ?_;rintro e w1 ⟨rfl,hb⟩;have HB2:=hid (HB.out.trans (hb.mono HB.out.size));clear hb)
  go_ret
  exact⟨rfl,HB2.out⟩
theorem Lo(v:Value)(ds:List AQ)(fs:List Addr)(w:World)(left:Int)(h1:rSl 2 Aw w fs v ds)(hl:0≤left)(hl2:left≤1048576) :
  Calls Tryz.prog 33 #[v,int i64 left] w fun e w' => e= .returned (int i64 (CC left (AO Cl ds)))∧Below w.heap.size w w':=by
 obtain⟨A1,c1,rfl,hc1,hm1,hx⟩:=rSl.at_ Aw.fixed (by decide) h1;clear h1;obtain⟨r,hr⟩:∃r,CC left (AO Cl ds)=r:=⟨_,rfl⟩;rw[hr];have HR:=hid hr;clear hr;by_cases h:left<ds.length
 ·have hlt:left - (ds.length:Int)<0:=by omega
  have e1:r= -1:=by rw[← HR.out];exact Bb (by unfold AO;omega)
  subst e1;clear hx;go_enter Tryz.func33,Tryz.ntmps33
  go_wp2_with fail
  go_ret
  exact⟨rfl,Below.refl _ _⟩
 ·have hlt:¬left - (ds.length:Int)<0:=by omega
  have HX:=hid hx;clear hx;go_enter Tryz.func33,Tryz.ntmps33
  go_wp2_with fail
  go_loopw [1,4,5] (fun l r i wr =>∃(j t:Nat),j≤ds.length∧Hid (t=CY Cl ds j)∧(t:Int)≤left - (ds.length:Int)∧i= int i64 j∧r= int i64 0∧l= int i64 (left - (ds.length:Int) - (t:Int))∧Hid (Below w.heap.size w wr)) (fun _ _ i _ => ds.length - (intOf i).toNat)
  case atStart => exact⟨0,0,by omega,(show 0=_ by simp[CY]),by omega,rfl,rfl,by simp,Below.refl _ _⟩
  case round =>
   obtain⟨j,t,hj,HT,htl,rfl,rfl,rfl,HB⟩:=hrel;by_cases hlt2:j<ds.length
   ·obtain⟨ad,b,o,cs,fk,e1,hat⟩:=HX.out j hlt2;subst e1;have hat2:=hat.below Aw.local_ HB.out;have hpl:=hat.place;have hbl:=hat2.lt;have HRG:=hid (show wr.rangeAt b o cs from fun q v hq => by
     have hq1:q<cs.length:=(List.getElem?_eq_some_iff.1 hq).1;rw[hat2.cell q hq1,← hq];exact(List.getElem?_eq_getElem hq1).symm)
    have HI:=hid (show(Tryz.prog.info? 135).map (·.size)=some cs.length by rw[hat2.len];kernel_rfl);have HC:=hid (szTape_c ds[j] cs fk wr (left - (ds.length:Int) - (t:Int)) hat2.reads (by omega) (by omega));have hst:=Ey Cl hlt2;rw[← HT.out]at hst;have HST:=hid hst;have hle:=Fq Cl ds (j+1);have HLE:=hid hle;clear hat hat2 hst hle HX;obtain⟨m,hm⟩:∃m,Cl ds[j] =m:=⟨_,rfl⟩;rw[hm]at HC HST;clear hm;by_cases h4:left - (ds.length:Int) - (t:Int)<(m:Int)
    ·rw[Bb h4]at HC;have e1:r= -1:=by rw[← HR.out];exact Bb (by unfold AO;have:=HST.out;have:=HLE.out;omega)
     subst e1;go_wp2_with (first
      |(refine wpList_load_mid rfl 135 _ rfl b o rfl cs _ HRG.out Tryz.underlying135 rfl HI.out ?_)
      |(go_at_call 81;refine HC.out.mono ?_;rintro e w1 ⟨rfl,hb1⟩;have B1:=hid (HB.out.trans (hb1.mono HB.out.size));clear hb1))
     go_ret
     exact⟨rfl,B1.out⟩
    ·rw[Bu h4]at HC;have h5:¬left - (ds.length:Int) - (t:Int) - (m:Int)<0:=by omega
     have H4:=hid h4;have HE:=hid (show left - (ds.length:Int) - (t:Int) - (m:Int)=left - (ds.length:Int) - ((t+m:Nat):Int) by omega);clear h4;go_wp2_with (first
      |(refine wpList_load_mid rfl 135 _ rfl b o rfl cs _ HRG.out Tryz.underlying135 rfl HI.out ?_)
      |(go_at_call 81;refine HC.out.mono ?_;rintro e w1 ⟨rfl,hb1⟩;have B1:=hid (HB.out.trans (hb1.mono HB.out.size));clear hb1))
     go_roundw
     case rel => exact⟨j+1,t+m,by omega,HST.out.symm,by have:=H4.out;omega,by go_num,rfl,by rw[HE.out],B1.out⟩
     case measure => simp[intOf];omega
   ·have e1:t=(ds.map Cl).sum:=by rw[HT.out];unfold CY;rw[List.take_of_length_le (by omega)]
    have e2:r=left - (ds.length:Int) - (t:Int):=by rw[← HR.out,Bu (by unfold AO;omega)];unfold AO;omega
    subst e2;clear HR e1 HX HT;go_wp2_with fail
    go_ret
    exact⟨rfl,HB.out⟩
theorem Pf(d:Am)(cs:List Value)(f:List Addr)(w:World)(left:Int)(h1:AB w f cs d)(hl:0≤left)(hl2:left≤1048576) :
  Calls Tryz.prog 8 #[.agg cs.toArray,int i64 left] w fun e w' => e= .returned (int i64 (CC left (C3 d)))∧Below w.heap.size w w':=by
 dsimp only[AB]at h1;obtain⟨v0,v1,v2,f0,f1,f2,e,-,-,-,-,-,-,-,-,-,-,-,-,r0,r1,r2⟩:=h1;subst e;obtain⟨W1,hW1⟩:∃W1,w.alloc (.cells #[int i64 d.s.g,int i64 d.s.c,int i64 d.s.data,int i64 d.s.p,int i64 d.s.rows,int i64 d.s.cap,int i64 d.s.b,int i64 d.s.q,int i64 d.s.t,v0,v1,v2,int i64 d.u,int i64 d.stop,.bool d.down] 28)=W1:=⟨_,rfl⟩;have B1:Below w.heap.size w W1:=by rw[← hW1];exact(Below.refl _ _).alloc (Nat.le_refl _) _
 have K1:Blk W1 w.heap.size 28 #[int i64 d.s.g,int i64 d.s.c,int i64 d.s.data,int i64 d.s.p,int i64 d.s.rows,int i64 d.s.cap,int i64 d.s.b,int i64 d.s.q,int i64 d.s.t,v0,v1,v2,int i64 d.u,int i64 d.stop,.bool d.down]:=by rw[← hW1];exact Blk.new w _ _
 have HR0:=hid (rSl.below (Ak.local_ Aj.local_) (Ak.fixed Aj.fixed) r0 B1);have HR1:=hid (rSl.below Ay.local_ Ay.fixed r1 B1);have HR2:=hid (rSl.below Aw.local_ Aw.fixed r2 B1);obtain⟨A0,c0,rfl,-⟩:=rSl.head r0;obtain⟨A1,c1,rfl,-⟩:=rSl.head r1;obtain⟨A2,c2,rfl,-⟩:=rSl.head r2;have k9:W1.cell? ⟨w.heap.size,9,none⟩=some (.slice A0 d.g.length c0):=(K1.cell 9).trans rfl;have k10:W1.cell? ⟨w.heap.size,10,none⟩=some (.slice A1 d.on.length c1):=(K1.cell 10).trans rfl;have k11:W1.cell? ⟨w.heap.size,11,none⟩=some (.slice A2 d.v.length c2):=(K1.cell 11).trans rfl;have HB:=hid B1;have hz1:w.heap.size<W1.heap.size:=K1.lt;have HC0:=hid (Nm _ d.g f0 W1 left HR0.out hl hl2);obtain⟨r,hr⟩:∃r,CC left (C3 d)=r:=⟨_,rfl⟩;rw[hr];have HR:=hid hr;have hF:C3 d=AO BL d.g+d.on.length+AO Cl d.v:=rfl;rw[hF]at HR;obtain⟨m0,hm0⟩:∃m0,AO BL d.g=m0:=⟨_,rfl⟩;obtain⟨m2,hm2⟩:∃m2,AO Cl d.v=m2:=⟨_,rfl⟩;rw[hm0]at HC0 HR;rw[hm2]at HR;have HM2:=hid hm2;clear hr r0 r1 r2 B1 K1 hF hm0 hm2;subst hW1;by_cases q0:left<(m0:Int)
 ·have e1:r= -1:=by rw[← HR.out];exact Bb (by omega)
  subst e1;rw[Bb q0]at HC0;go_enter Tryz.func8,Tryz.ntmps8
  go_wp2_with (go_at_call 31;refine HC0.out.mono ?_;rintro e w2 ⟨rfl,b2⟩;have B2:=hid (HB.out.trans (b2.mono HB.out.size));clear b2)
  go_ret
  exact⟨rfl,B2.out⟩
 have ql0:¬left - (m0:Int)<0:=by omega
 rw[Bu q0]at HC0;by_cases q1:left - (m0:Int)<(d.on.length:Int)
 ·have e1:r= -1:=by rw[← HR.out];exact Bb (by omega)
  subst e1;go_enter Tryz.func8,Tryz.ntmps8
  go_wp2_with (first
   |(go_at_call 31;refine HC0.out.mono ?_;rintro e w2 ⟨rfl,b2⟩;have j10:=(b2.cell (p:=⟨w.heap.size,10,none⟩) hz1).trans k10;have j11:=(b2.cell (p:=⟨w.heap.size,11,none⟩) hz1).trans k11;have hz2:=Nat.lt_of_lt_of_le hz1 b2.size;have HC1:=hid (Ii _ d.on f1 w2 (left - (m0:Int)) (rSl.below Ay.local_ Ay.fixed HR1.out b2) (by omega) (by omega));rw[Bb q1]at HC1;have B2:=hid (HB.out.trans (b2.mono HB.out.size));clear b2)
   |(go_at_call 32;refine HC1.out.mono ?_;rintro e w' ⟨rfl,rfl⟩))
  go_ret
  exact⟨rfl,B2.out⟩
 have ql1:¬left - (m0:Int) - (d.on.length:Int)<0:=by omega
 by_cases q2:left - (m0:Int) - (d.on.length:Int)<(m2:Int)
 ·have e1:r= -1:=by rw[← HR.out];exact Bb (by omega)
  subst e1;go_enter Tryz.func8,Tryz.ntmps8
  go_wp2_with (first
   |(go_at_call 31;refine HC0.out.mono ?_;rintro e w2 ⟨rfl,b2⟩;have j10:=(b2.cell (p:=⟨w.heap.size,10,none⟩) hz1).trans k10;have j11:=(b2.cell (p:=⟨w.heap.size,11,none⟩) hz1).trans k11;have hz2:=Nat.lt_of_lt_of_le hz1 b2.size;have HC1:=hid (Ii _ d.on f1 w2 (left - (m0:Int)) (rSl.below Ay.local_ Ay.fixed HR1.out b2) (by omega) (by omega));rw[Bu q1]at HC1;have HC2:=hid (Lo _ d.v f2 w2 (left - (m0:Int) - (d.on.length:Int)) (rSl.below Aw.local_ Aw.fixed HR2.out b2) (by omega) (by omega));rw[HM2.out,Bb q2]at HC2;have B2:=hid (HB.out.trans (b2.mono HB.out.size));clear b2)
   |(go_at_call 32;refine HC1.out.mono ?_;rintro e w' ⟨rfl,rfl⟩)
   |(go_at_call 33;refine HC2.out.mono ?_;rintro e w3 ⟨rfl,b3⟩;have B3:=hid (B2.out.trans (b3.mono B2.out.size));clear b3))
  go_ret
  exact⟨rfl,B3.out⟩
 have ql2:¬left - (m0:Int) - (d.on.length:Int) - (m2:Int)<0:=by omega
 have e1:r=left - (m0:Int) - (d.on.length:Int) - (m2:Int):=by rw[← HR.out,Bu (by omega)];omega
 subst e1;go_enter Tryz.func8,Tryz.ntmps8
 go_wp2_with (first
  |(go_at_call 31;refine HC0.out.mono ?_;rintro e w2 ⟨rfl,b2⟩;have j10:=(b2.cell (p:=⟨w.heap.size,10,none⟩) hz1).trans k10;have j11:=(b2.cell (p:=⟨w.heap.size,11,none⟩) hz1).trans k11;have hz2:=Nat.lt_of_lt_of_le hz1 b2.size;have HC1:=hid (Ii _ d.on f1 w2 (left - (m0:Int)) (rSl.below Ay.local_ Ay.fixed HR1.out b2) (by omega) (by omega));rw[Bu q1]at HC1;have HC2:=hid (Lo _ d.v f2 w2 (left - (m0:Int) - (d.on.length:Int)) (rSl.below Aw.local_ Aw.fixed HR2.out b2) (by omega) (by omega));rw[HM2.out,Bu q2]at HC2;have B2:=hid (HB.out.trans (b2.mono HB.out.size));clear b2)
  |(go_at_call 32;refine HC1.out.mono ?_;rintro e w' ⟨rfl,rfl⟩)
  |(go_at_call 33;refine HC2.out.mono ?_;rintro e w3 ⟨rfl,b3⟩;have B3:=hid (B2.out.trans (b3.mono B2.out.size));clear b3))
 go_ret
 exact⟨rfl,B3.out⟩
theorem Tryz.infoTotoBlockS:(Tryz.prog.info? 196).map (fun i =>(i.zero,i.size,i.bytes))=some (some (.agg #[int i64 0,.slice none 0 0]),2,32):=by kernel_rfl
theorem Tryz.infoTotoDriveS:(Tryz.prog.info? 194).map (fun i =>(i.zero,i.size,i.bytes))=some (some (.agg #[.bool false,.slice none 0 0]),2,32):=by kernel_rfl
theorem Tryz.infoTotoDriveSS:(Tryz.prog.info? 148).map (fun i =>(i.zero,i.size,i.bytes))=some (some (.slice none 0 0),1,24):=by kernel_rfl
end Go.Proofs.YtfjkoifpdoemdaaGreat
