/-
  Part 3 of the proof; the last part states and proves the statement.
-/
import Derived.Test.YtfjkoifpdoemdaaGreatK01
import Derived.Test.YtfjkoifpdoemdaaGreatK02
set_option maxHeartbeats 8000000
set_option maxRecDepth 100000
set_option linter.unusedVariables false
set_option linter.unusedSimpArgs false
open Go.Value (int)
open Go.IntKind (i64)
namespace Go.Proofs.YtfjkoifpdoemdaaGreat
open Go.RowKit Go.Sort
open Go.Lib (hid)
def Bk(left:Int)(n:Nat):Int:=if left<(n:Int)then -1 else left - (n:Int)
theorem AG {left:Int} {n:Nat}(h:left<(n:Int)):Bk left n= -1:=by unfold Bk;rw[if_pos h]
theorem AR {left:Int} {n:Nat}(h:¬left<(n:Int)):Bk left n=left - (n:Int):=by unfold Bk;rw[if_neg h]
def BD {α:Type}(f:α→Nat)(l:List α)(k:Nat):Nat:=((l.take k).map f).sum
def AA {α:Type}(f:α→Nat)(l:List α):Nat:=l.length+(l.map f).sum
theorem CL {α:Type}(f:α→Nat) {l:List α} {k:Nat}(h:k<l.length):BD f l (k+1)=BD f l k+f l[k]:=by
 unfold BD;rw[List.take_succ_eq_append_getElem h,List.map_append,List.sum_append];simp only[List.map_cons,List.map_nil,List.sum_cons,List.sum_nil,Nat.add_zero]
theorem Dh {α:Type}(f:α→Nat)(l:List α)(k:Nat):BD f l k≤(l.map f).sum:=by
 unfold BD;conv => rhs;rw[← List.take_append_drop k l]
 rw[List.map_append,List.sum_append];omega
theorem Db {α:Type}(f:α→Nat) {l:List α} {k:Nat}(h:k<l.length):f l[k] +1≤AA f l:=by
 have h1:=CL f h;have h2:=Dh f l (k+1);unfold AA;omega
def Cc(b:By):Nat:=b.bytes.length
def Cd(d:AU):Nat:=AA Cc d.blocks
def BR(g:List AU):Nat:=AA Cd g
def BL(r:Ag):Nat:=r.name.size+r.rows.length+r.data.length+r.delta.length
def Cp(t:AS):Nat:=AA BL t.recs
def Dv(d:AC):Nat:=AA BR d.g+d.on.length+AA Cp d.v
theorem FE(v:Value)(xs:List Int)(fs:List Addr)(w:World)(left:Int)(h1:Bg w fs v xs)(hl:0≤left)(hl2:left≤1048576) :
  Calls Tryz.prog 32 #[v,int i64 left] w fun e w' => e= .returned (int i64 (Bk left xs.length))∧w=w':=by
 obtain⟨A1,c1,rfl,hc1,hm1,-⟩:=Bg.open_ h1;clear h1;by_cases h:left<(xs.length:Int)
 ·have hlt:left - (xs.length:Int)<0:=by omega
  rw[AG h];go_enter Tryz.func32,Tryz.ntmps32
  go_wp2
  go_ret
  exact⟨rfl,rfl⟩
 ·have hlt:¬left - (xs.length:Int)<0:=by omega
  rw[AR h];go_enter Tryz.func32,Tryz.ntmps32
  go_wp2
  go_ret
  exact⟨rfl,rfl⟩
theorem EY(v:Value)(xs:List UInt8)(fs:List Addr)(w:World)(left:Int)(h1:AM w fs v xs)(hl:0≤left)(hl2:left≤1048576) :
  Calls Tryz.prog 263 #[v,int i64 left] w fun e w' => e= .returned (int i64 (Bk left xs.length))∧w=w':=MI v xs fs w left h1 (by omega) hl2
theorem MH(d:By)(cs:List Value)(f:List Addr)(w:World)(left:Int)(h1:AD w f cs d)(hl:0≤left)(hl2:left≤1048576) :
  Calls Tryz.prog 281 #[.agg cs.toArray,int i64 left] w fun e w' => e= .returned (int i64 (Bk left (Cc d)))∧Below w.heap.size w w':=by
 dsimp only[AD]at h1;obtain⟨v0,f0,e,-,-,h⟩:=h1;subst e;have B1:Below w.heap.size w (w.alloc (.cells #[int i64 d.stamp,v0] 304)):=(Below.refl _ _).alloc (Nat.le_refl _) _;have HC:=hid (EY v0 d.bytes f0 (w.alloc (.cells #[int i64 d.stamp,v0] 304)) left (rSl.below Av.local_ Av.fixed h B1) hl hl2);obtain⟨A0,c0,rfl,-⟩:=rSl.head h;have HB:=hid B1;have e0:Cc d=d.bytes.length:=rfl;rw[e0];clear e0 h B1;by_cases h4:left<(d.bytes.length:Int)
 ·rw[AG h4]at HC⊢;go_enter Tryz.func281,Tryz.ntmps281
  go_wp2_with (go_at_call 263;refine HC.out.mono ?_;rintro e w1 ⟨rfl,rfl⟩;have HB2:=HB)
  go_ret
  exact⟨rfl,HB2.out⟩
 ·rw[AR h4]at HC⊢;have h5:¬left - (d.bytes.length:Int)<0:=by omega
  go_enter Tryz.func281,Tryz.ntmps281
  go_wp2_with (go_at_call 263;refine HC.out.mono ?_;rintro e w1 ⟨rfl,rfl⟩;have HB2:=HB)
  go_ret
  exact⟨rfl,HB2.out⟩
theorem LS(v:Value)(ds:List By)(fs:List Addr)(w:World)(left:Int)(h1:rSl 2 AD w fs v ds)(hl:0≤left)(hl2:left≤1048576) :
  Calls Tryz.prog 232 #[v,int i64 left] w fun e w' => e= .returned (int i64 (Bk left (AA Cc ds)))∧Below w.heap.size w w':=by
 obtain⟨A1,c1,rfl,hc1,hm1,hx⟩:=rSl.at_ AD.fixed (by decide) h1;clear h1;obtain⟨r,hr⟩:∃r,Bk left (AA Cc ds)=r:=⟨_,rfl⟩;rw[hr];have HR:=hid hr;clear hr;by_cases h:left<ds.length
 ·have hlt:left - (ds.length:Int)<0:=by omega
  have e1:r= -1:=by rw[← HR.out];exact AG (by unfold AA;omega)
  subst e1;clear hx;go_enter Tryz.func232,Tryz.ntmps232
  go_wp2_with fail
  go_ret
  exact⟨rfl,Below.refl _ _⟩
 ·have hlt:¬left - (ds.length:Int)<0:=by omega
  have HX:=hid hx;clear hx;go_enter Tryz.func232,Tryz.ntmps232
  go_wp2_with fail
  go_loopw [1,4,5] (fun l r i wr =>∃(j t:Nat),j≤ds.length∧Hid (t=BD Cc ds j)∧(t:Int)≤left - (ds.length:Int)∧i= int i64 j∧r= int i64 0∧l= int i64 (left - (ds.length:Int) - (t:Int))∧Hid (Below w.heap.size w wr)) (fun _ _ i _ => ds.length - (intOf i).toNat)
  case atStart => exact⟨0,0,by omega,(show 0=_ by simp[BD]),by omega,rfl,rfl,by simp,Below.refl _ _⟩
  case round =>
   obtain⟨j,t,hj,HT,htl,rfl,rfl,rfl,HB⟩:=hrel;by_cases hlt2:j<ds.length
   ·obtain⟨ad,b,o,cs,fk,e1,hat⟩:=HX.out j hlt2;subst e1;have hat2:=hat.below AD.local_ HB.out;have hpl:=hat.place;have hbl:=hat2.lt;have HRG:=hid (show wr.rangeAt b o cs from fun q v hq => by
     have hq1:q<cs.length:=(List.getElem?_eq_some_iff.1 hq).1;rw[hat2.cell q hq1,← hq];exact(List.getElem?_eq_getElem hq1).symm)
    have HI:=hid (show(Tryz.prog.info? 304).map (·.size)=some cs.length by rw[hat2.len];kernel_rfl);have HC:=hid (MH ds[j] cs fk wr (left - (ds.length:Int) - (t:Int)) hat2.reads (by omega) (by omega));have hst:=CL Cc hlt2;rw[← HT.out]at hst;have HST:=hid hst;have hle:=Dh Cc ds (j+1);have HLE:=hid hle;clear hat hat2 hst hle HX;obtain⟨m,hm⟩:∃m,Cc ds[j] =m:=⟨_,rfl⟩;rw[hm]at HC HST;clear hm;by_cases h4:left - (ds.length:Int) - (t:Int)<(m:Int)
    ·rw[AG h4]at HC;have e1:r= -1:=by rw[← HR.out];exact AG (by unfold AA;have:=HST.out;have:=HLE.out;omega)
     subst e1;go_wp2_with (first
      |(refine wpList_load_mid rfl 304 _ rfl b o rfl cs _ HRG.out Tryz.underlying304 rfl HI.out ?_)
      |(go_at_call 281;refine HC.out.mono ?_;rintro e w1 ⟨rfl,hb1⟩;have B1:=hid (HB.out.trans (hb1.mono HB.out.size));clear hb1))
     go_ret
     exact⟨rfl,B1.out⟩
    ·rw[AR h4]at HC;have h5:¬left - (ds.length:Int) - (t:Int) - (m:Int)<0:=by omega
     have H4:=hid h4;have HE:=hid (show left - (ds.length:Int) - (t:Int) - (m:Int)=left - (ds.length:Int) - ((t+m:Nat):Int) by omega);clear h4;go_wp2_with (first
      |(refine wpList_load_mid rfl 304 _ rfl b o rfl cs _ HRG.out Tryz.underlying304 rfl HI.out ?_)
      |(go_at_call 281;refine HC.out.mono ?_;rintro e w1 ⟨rfl,hb1⟩;have B1:=hid (HB.out.trans (hb1.mono HB.out.size));clear hb1))
     go_roundw
     case rel => exact⟨j+1,t+m,by omega,HST.out.symm,by have:=H4.out;omega,by go_num,rfl,by rw[HE.out],B1.out⟩
     case measure => simp[intOf];omega
   ·have e1:t=(ds.map Cc).sum:=by rw[HT.out];unfold BD;rw[List.take_of_length_le (by omega)]
    have e2:r=left - (ds.length:Int) - (t:Int):=by rw[← HR.out,AR (by unfold AA;omega)];unfold AA;omega
    subst e2;clear HR e1 HX HT;go_wp2_with fail
    go_ret
    exact⟨rfl,HB.out⟩
theorem MJ(d:AU)(cs:List Value)(f:List Addr)(w:World)(left:Int)(h1:Ak w f cs d)(hl:0≤left)(hl2:left≤1048576) :
  Calls Tryz.prog 142 #[.agg cs.toArray,int i64 left] w fun e w' => e= .returned (int i64 (Bk left (Cd d)))∧Below w.heap.size w w':=by
 dsimp only[Ak]at h1;obtain⟨v0,f0,e,-,h⟩:=h1;subst e;have B1:Below w.heap.size w (w.alloc (.cells #[.bool d.wiped,v0] 190)):=(Below.refl _ _).alloc (Nat.le_refl _) _;have HC:=hid (LS v0 d.blocks f0 (w.alloc (.cells #[.bool d.wiped,v0] 190)) left (rSl.below AD.local_ AD.fixed h B1) hl hl2);obtain⟨A0,c0,rfl,-⟩:=rSl.head h;have HB:=hid B1;have e0:Cd d=AA Cc d.blocks:=rfl;rw[e0];clear e0 h B1;obtain⟨m,hm⟩:∃m,AA Cc d.blocks=m:=⟨_,rfl⟩;rw[hm]at HC⊢;clear hm;by_cases h4:left<(m:Int)
 ·rw[AG h4]at HC⊢;go_enter Tryz.func142,Tryz.ntmps142
  go_wp2_with (go_at_call 232;refine HC.out.mono ?_;rintro e w1 ⟨rfl,hb⟩;have HB2:=hid (HB.out.trans (hb.mono HB.out.size));clear hb)
  go_ret
  exact⟨rfl,HB2.out⟩
 ·rw[AR h4]at HC⊢;have h5:¬left - (m:Int)<0:=by omega
  go_enter Tryz.func142,Tryz.ntmps142
  go_wp2_with (go_at_call 232;refine HC.out.mono ?_;rintro e w1 ⟨rfl,hb⟩;have HB2:=hid (HB.out.trans (hb.mono HB.out.size));clear hb)
  go_ret
  exact⟨rfl,HB2.out⟩
theorem LU(v:Value)(ds:List AU)(fs:List Addr)(w:World)(left:Int)(h1:rSl 2 Ak w fs v ds)(hl:0≤left)(hl2:left≤1048576) :
  Calls Tryz.prog 80 #[v,int i64 left] w fun e w' => e= .returned (int i64 (Bk left (AA Cd ds)))∧Below w.heap.size w w':=by
 obtain⟨A1,c1,rfl,hc1,hm1,hx⟩:=rSl.at_ Ak.fixed (by decide) h1;clear h1;obtain⟨r,hr⟩:∃r,Bk left (AA Cd ds)=r:=⟨_,rfl⟩;rw[hr];have HR:=hid hr;clear hr;by_cases h:left<ds.length
 ·have hlt:left - (ds.length:Int)<0:=by omega
  have e1:r= -1:=by rw[← HR.out];exact AG (by unfold AA;omega)
  subst e1;clear hx;go_enter Tryz.func80,Tryz.ntmps80
  go_wp2_with fail
  go_ret
  exact⟨rfl,Below.refl _ _⟩
 ·have hlt:¬left - (ds.length:Int)<0:=by omega
  have HX:=hid hx;clear hx;go_enter Tryz.func80,Tryz.ntmps80
  go_wp2_with fail
  go_loopw [1,4,5] (fun l r i wr =>∃(j t:Nat),j≤ds.length∧Hid (t=BD Cd ds j)∧(t:Int)≤left - (ds.length:Int)∧i= int i64 j∧r= int i64 0∧l= int i64 (left - (ds.length:Int) - (t:Int))∧Hid (Below w.heap.size w wr)) (fun _ _ i _ => ds.length - (intOf i).toNat)
  case atStart => exact⟨0,0,by omega,(show 0=_ by simp[BD]),by omega,rfl,rfl,by simp,Below.refl _ _⟩
  case round =>
   obtain⟨j,t,hj,HT,htl,rfl,rfl,rfl,HB⟩:=hrel;by_cases hlt2:j<ds.length
   ·obtain⟨ad,b,o,cs,fk,e1,hat⟩:=HX.out j hlt2;subst e1;have hat2:=hat.below Ak.local_ HB.out;have hpl:=hat.place;have hbl:=hat2.lt;have HRG:=hid (show wr.rangeAt b o cs from fun q v hq => by
     have hq1:q<cs.length:=(List.getElem?_eq_some_iff.1 hq).1;rw[hat2.cell q hq1,← hq];exact(List.getElem?_eq_getElem hq1).symm)
    have HI:=hid (show(Tryz.prog.info? 190).map (·.size)=some cs.length by rw[hat2.len];kernel_rfl);have HC:=hid (MJ ds[j] cs fk wr (left - (ds.length:Int) - (t:Int)) hat2.reads (by omega) (by omega));have hst:=CL Cd hlt2;rw[← HT.out]at hst;have HST:=hid hst;have hle:=Dh Cd ds (j+1);have HLE:=hid hle;clear hat hat2 hst hle HX;obtain⟨m,hm⟩:∃m,Cd ds[j] =m:=⟨_,rfl⟩;rw[hm]at HC HST;clear hm;by_cases h4:left - (ds.length:Int) - (t:Int)<(m:Int)
    ·rw[AG h4]at HC;have e1:r= -1:=by rw[← HR.out];exact AG (by unfold AA;have:=HST.out;have:=HLE.out;omega)
     subst e1;go_wp2_with (first
      |(refine wpList_load_mid rfl 190 _ rfl b o rfl cs _ HRG.out Tryz.underlying190 rfl HI.out ?_)
      |(go_at_call 142;refine HC.out.mono ?_;rintro e w1 ⟨rfl,hb1⟩;have B1:=hid (HB.out.trans (hb1.mono HB.out.size));clear hb1))
     go_ret
     exact⟨rfl,B1.out⟩
    ·rw[AR h4]at HC;have h5:¬left - (ds.length:Int) - (t:Int) - (m:Int)<0:=by omega
     have H4:=hid h4;have HE:=hid (show left - (ds.length:Int) - (t:Int) - (m:Int)=left - (ds.length:Int) - ((t+m:Nat):Int) by omega);clear h4;go_wp2_with (first
      |(refine wpList_load_mid rfl 190 _ rfl b o rfl cs _ HRG.out Tryz.underlying190 rfl HI.out ?_)
      |(go_at_call 142;refine HC.out.mono ?_;rintro e w1 ⟨rfl,hb1⟩;have B1:=hid (HB.out.trans (hb1.mono HB.out.size));clear hb1))
     go_roundw
     case rel => exact⟨j+1,t+m,by omega,HST.out.symm,by have:=H4.out;omega,by go_num,rfl,by rw[HE.out],B1.out⟩
     case measure => simp[intOf];omega
   ·have e1:t=(ds.map Cd).sum:=by rw[HT.out];unfold BD;rw[List.take_of_length_le (by omega)]
    have e2:r=left - (ds.length:Int) - (t:Int):=by rw[← HR.out,AR (by unfold AA;omega)];unfold AA;omega
    subst e2;clear HR e1 HX HT;go_wp2_with fail
    go_ret
    exact⟨rfl,HB.out⟩
theorem Kn(v:Value)(ds:List (List AU))(fs:List Addr)(w:World)(left:Int)(h1:rSl 1 (Ai 2 Ak) w fs v ds)(hl:0≤left)(hl2:left≤1048576) :
  Calls Tryz.prog 31 #[v,int i64 left] w fun e w' => e= .returned (int i64 (Bk left (AA BR ds)))∧Below w.heap.size w w':=by
 obtain⟨A1,c1,rfl,hc1,hm1,hx⟩:=rSl.at_ (Ai.fixed Ak.fixed) (by decide) h1;clear h1;obtain⟨r,hr⟩:∃r,Bk left (AA BR ds)=r:=⟨_,rfl⟩;rw[hr];have HR:=hid hr;clear hr;by_cases h:left<ds.length
 ·have hlt:left - (ds.length:Int)<0:=by omega
  have e1:r= -1:=by rw[← HR.out];exact AG (by unfold AA;omega)
  subst e1;clear hx;go_enter Tryz.func31,Tryz.ntmps31
  go_wp2_with fail
  go_ret
  exact⟨rfl,Below.refl _ _⟩
 ·have hlt:¬left - (ds.length:Int)<0:=by omega
  have HX:=hid hx;clear hx;go_enter Tryz.func31,Tryz.ntmps31
  go_wp2_with fail
  go_loopw [1,4,5] (fun l r i wr =>∃(j t:Nat),j≤ds.length∧Hid (t=BD BR ds j)∧(t:Int)≤left - (ds.length:Int)∧i= int i64 j∧r= int i64 0∧l= int i64 (left - (ds.length:Int) - (t:Int))∧Hid (Below w.heap.size w wr)) (fun _ _ i _ => ds.length - (intOf i).toNat)
  case atStart => exact⟨0,0,by omega,(show 0=_ by simp[BD]),by omega,rfl,rfl,by simp,Below.refl _ _⟩
  case round =>
   obtain⟨j,t,hj,HT,htl,rfl,rfl,rfl,HB⟩:=hrel;by_cases hlt2:j<ds.length
   ·obtain⟨ad,b,o,cs,fk,e1,hat⟩:=HX.out j hlt2;subst e1;have hat2:=hat.below (Ai.local_ Ak.local_) HB.out;have hpl:=hat.place;have hbl:=hat2.lt;obtain⟨ve,hve,hrd⟩:=hat2.reads;subst hve;obtain⟨Ae,ce,rfl,-⟩:=rSl.head hrd;have hpc:=hat2.cell 0 (by simp);simp only[Nat.add_zero,List.getElem_cons_zero]at hpc;rw[Nat.mul_one]at hpl;have HC:=hid (LU _ ds[j] fk wr (left - (ds.length:Int) - (t:Int)) hrd (by omega) (by omega));have hst:=CL BR hlt2;rw[← HT.out]at hst;have HST:=hid hst;have hle:=Dh BR ds (j+1);have HLE:=hid hle;clear hat hat2 hst hle HX hrd;obtain⟨m,hm⟩:∃m,BR ds[j] =m:=⟨_,rfl⟩;have hm2:AA Cd ds[j] =m:=hm;rw[hm2]at HC;rw[hm]at HST;clear hm2;clear hm;by_cases h4:left - (ds.length:Int) - (t:Int)<(m:Int)
    ·rw[AG h4]at HC;have e1:r= -1:=by rw[← HR.out];exact AG (by unfold AA;have:=HST.out;have:=HLE.out;omega)
     subst e1;go_wp2_with (first
      |(go_at_call 80;refine HC.out.mono ?_;rintro e w1 ⟨rfl,hb1⟩;have B1:=hid (HB.out.trans (hb1.mono HB.out.size));clear hb1))
     go_ret
     exact⟨rfl,B1.out⟩
    ·rw[AR h4]at HC;have h5:¬left - (ds.length:Int) - (t:Int) - (m:Int)<0:=by omega
     have H4:=hid h4;have HE:=hid (show left - (ds.length:Int) - (t:Int) - (m:Int)=left - (ds.length:Int) - ((t+m:Nat):Int) by omega);clear h4;go_wp2_with (first
      |(go_at_call 80;refine HC.out.mono ?_;rintro e w1 ⟨rfl,hb1⟩;have B1:=hid (HB.out.trans (hb1.mono HB.out.size));clear hb1))
     go_roundw
     case rel => exact⟨j+1,t+m,by omega,HST.out.symm,by have:=H4.out;omega,by go_num,rfl,by rw[HE.out],B1.out⟩
     case measure => simp[intOf];omega
   ·have e1:t=(ds.map BR).sum:=by rw[HT.out];unfold BD;rw[List.take_of_length_le (by omega)]
    have e2:r=left - (ds.length:Int) - (t:Int):=by rw[← HR.out,AR (by unfold AA;omega)];unfold AA;omega
    subst e2;clear HR e1 HX HT;go_wp2_with fail
    go_ret
    exact⟨rfl,HB.out⟩
theorem szRec_c(d:Ag)(cs:List Value)(f:List Addr)(w:World)(left:Int)(h1:Ac w f cs d)(hl:0≤left)(hl2:left≤1048576) :
  Calls Tryz.prog 233 #[.agg cs.toArray,int i64 left] w fun e w' => e= .returned (int i64 (Bk left (BL d)))∧Below w.heap.size w w':=by
 dsimp only[Ac]at h1;obtain⟨v0,v1,v2,f0,f1,f2,e,-,-,-,hsz,-,-,-,r0,r1,r2⟩:=h1;subst e;have B1:Below w.heap.size w (w.alloc (.cells #[int i64 d.kind,int i64 d.seq,.string d.name,int i64 d.length,int i64 d.group,int i64 d.row,v0,v1,v2] 268)):=(Below.refl _ _).alloc (Nat.le_refl _) _;have HR0:=hid (rSl.below Al.local_ Al.fixed r0 B1);have HR1:=hid (rSl.below Av.local_ Av.fixed r1 B1);have HR2:=hid (rSl.below Av.local_ Av.fixed r2 B1);obtain⟨A0,c0,rfl,-⟩:=rSl.head r0;obtain⟨A1,c1,rfl,-⟩:=rSl.head r1;obtain⟨A2,c2,rfl,-⟩:=rSl.head r2;have HB:=hid B1;obtain⟨r,hr⟩:∃r,Bk left (BL d)=r:=⟨_,rfl⟩;rw[hr];have HR:=hid hr;clear hr r0 r1 r2 B1;by_cases qn:left<(d.name.size:Int)
 ·have e1:r= -1:=by rw[← HR.out];exact AG (by unfold BL;omega)
  subst e1;have ql:left - (d.name.size:Int)<0:=by omega
  go_enter Tryz.func233,Tryz.ntmps233
  go_wp2_with fail
  go_ret
  exact⟨rfl,HB.out⟩
 have ql:¬left - (d.name.size:Int)<0:=by omega
 have HC0:=hid (FE _ d.rows f0 _ (left - (d.name.size:Int)) HR0.out (by omega) (by omega));by_cases q0:left - (d.name.size:Int)<(d.rows.length:Int)
 ·have e1:r= -1:=by rw[← HR.out];exact AG (by unfold BL;omega)
  subst e1;rw[AG q0]at HC0;go_enter Tryz.func233,Tryz.ntmps233
  go_wp2_with (go_at_call 32;refine HC0.out.mono ?_;rintro e w' ⟨rfl,rfl⟩)
  go_ret
  exact⟨rfl,HB.out⟩
 have ql0:¬left - (d.name.size:Int) - (d.rows.length:Int)<0:=by omega
 rw[AR q0]at HC0;have HC1:=hid (EY _ d.data f1 _ (left - (d.name.size:Int) - (d.rows.length:Int)) HR1.out (by omega) (by omega));by_cases q1:left - (d.name.size:Int) - (d.rows.length:Int)<(d.data.length:Int)
 ·have e1:r= -1:=by rw[← HR.out];exact AG (by unfold BL;omega)
  subst e1;rw[AG q1]at HC1;go_enter Tryz.func233,Tryz.ntmps233
  go_wp2_with (first
   |(go_at_call 32;refine HC0.out.mono ?_;rintro e w' ⟨rfl,rfl⟩)
   |(go_at_call 263;refine HC1.out.mono ?_;rintro e w' ⟨rfl,rfl⟩))
  go_ret
  exact⟨rfl,HB.out⟩
 have ql1:¬left - (d.name.size:Int) - (d.rows.length:Int) - (d.data.length:Int)<0:=by omega
 rw[AR q1]at HC1;have HC2:=hid (EY _ d.delta f2 _ (left - (d.name.size:Int) - (d.rows.length:Int) - (d.data.length:Int)) HR2.out (by omega) (by omega));by_cases q2:left - (d.name.size:Int) - (d.rows.length:Int) - (d.data.length:Int)<(d.delta.length:Int)
 ·have e1:r= -1:=by rw[← HR.out];exact AG (by unfold BL;omega)
  subst e1;rw[AG q2]at HC2;go_enter Tryz.func233,Tryz.ntmps233
  go_wp2_with (first
   |(go_at_call 32;refine HC0.out.mono ?_;rintro e w' ⟨rfl,rfl⟩)
   |(go_at_call 263;((with_reducible refine HC1.out.mono ?_);rintro e w' ⟨rfl,rfl⟩))
   |(go_at_call 263;refine HC2.out.mono ?_;rintro e w' ⟨rfl,rfl⟩))
  go_ret
  exact⟨rfl,HB.out⟩
 have ql2:¬left - (d.name.size:Int) - (d.rows.length:Int) - (d.data.length:Int) - (d.delta.length:Int)<0:=by omega
 rw[AR q2]at HC2;have e1:r=left - (d.name.size:Int) - (d.rows.length:Int) - (d.data.length:Int) - (d.delta.length:Int):=by rw[← HR.out,AR (by unfold BL;omega)];unfold BL;omega
 subst e1;go_enter Tryz.func233,Tryz.ntmps233
 go_wp2_with (first
  |(go_at_call 32;refine HC0.out.mono ?_;rintro e w' ⟨rfl,rfl⟩)
  |(go_at_call 263;((with_reducible refine HC1.out.mono ?_);rintro e w' ⟨rfl,rfl⟩))
  |(go_at_call 263;refine HC2.out.mono ?_;rintro e w' ⟨rfl,rfl⟩))
 go_ret
 exact⟨rfl,HB.out⟩
theorem szRecS_c(v:Value)(ds:List Ag)(fs:List Addr)(w:World)(left:Int)(h1:rSl 9 Ac w fs v ds)(hl:0≤left)(hl2:left≤1048576) :
  Calls Tryz.prog 143 #[v,int i64 left] w fun e w' => e= .returned (int i64 (Bk left (AA BL ds)))∧Below w.heap.size w w':=by
 obtain⟨A1,c1,rfl,hc1,hm1,hx⟩:=rSl.at_ Ac.fixed (by decide) h1;clear h1;obtain⟨r,hr⟩:∃r,Bk left (AA BL ds)=r:=⟨_,rfl⟩;rw[hr];have HR:=hid hr;clear hr;by_cases h:left<ds.length
 ·have hlt:left - (ds.length:Int)<0:=by omega
  have e1:r= -1:=by rw[← HR.out];exact AG (by unfold AA;omega)
  subst e1;clear hx;go_enter Tryz.func143,Tryz.ntmps143
  go_wp2_with fail
  go_ret
  exact⟨rfl,Below.refl _ _⟩
 ·have hlt:¬left - (ds.length:Int)<0:=by omega
  have HX:=hid hx;clear hx;go_enter Tryz.func143,Tryz.ntmps143
  go_wp2_with fail
  go_loopw [1,4,5] (fun l r i wr =>∃(j t:Nat),j≤ds.length∧Hid (t=BD BL ds j)∧(t:Int)≤left - (ds.length:Int)∧i= int i64 j∧r= int i64 0∧l= int i64 (left - (ds.length:Int) - (t:Int))∧Hid (Below w.heap.size w wr)) (fun _ _ i _ => ds.length - (intOf i).toNat)
  case atStart => exact⟨0,0,by omega,(show 0=_ by simp[BD]),by omega,rfl,rfl,by simp,Below.refl _ _⟩
  case round =>
   obtain⟨j,t,hj,HT,htl,rfl,rfl,rfl,HB⟩:=hrel;by_cases hlt2:j<ds.length
   ·obtain⟨ad,b,o,cs,fk,e1,hat⟩:=HX.out j hlt2;subst e1;have hat2:=hat.below Ac.local_ HB.out;have hpl:=hat.place;have hbl:=hat2.lt;have HRG:=hid (show wr.rangeAt b o cs from fun q v hq => by
     have hq1:q<cs.length:=(List.getElem?_eq_some_iff.1 hq).1;rw[hat2.cell q hq1,← hq];exact(List.getElem?_eq_getElem hq1).symm)
    have HI:=hid (show(Tryz.prog.info? 268).map (·.size)=some cs.length by rw[hat2.len];kernel_rfl);have HC:=hid (szRec_c ds[j] cs fk wr (left - (ds.length:Int) - (t:Int)) hat2.reads (by omega) (by omega));have hst:=CL BL hlt2;rw[← HT.out]at hst;have HST:=hid hst;have hle:=Dh BL ds (j+1);have HLE:=hid hle;clear hat hat2 hst hle HX;obtain⟨m,hm⟩:∃m,BL ds[j] =m:=⟨_,rfl⟩;rw[hm]at HC HST;clear hm;by_cases h4:left - (ds.length:Int) - (t:Int)<(m:Int)
    ·rw[AG h4]at HC;have e1:r= -1:=by rw[← HR.out];exact AG (by unfold AA;have:=HST.out;have:=HLE.out;omega)
     subst e1;go_wp2_with (first
      |(refine wpList_load_mid rfl 268 _ rfl b o rfl cs _ HRG.out Tryz.underlying268 rfl HI.out ?_)
      |(go_at_call 233;refine HC.out.mono ?_;rintro e w1 ⟨rfl,hb1⟩;have B1:=hid (HB.out.trans (hb1.mono HB.out.size));clear hb1))
     go_ret
     exact⟨rfl,B1.out⟩
    ·rw[AR h4]at HC;have h5:¬left - (ds.length:Int) - (t:Int) - (m:Int)<0:=by omega
     have H4:=hid h4;have HE:=hid (show left - (ds.length:Int) - (t:Int) - (m:Int)=left - (ds.length:Int) - ((t+m:Nat):Int) by omega);clear h4;go_wp2_with (first
      |(refine wpList_load_mid rfl 268 _ rfl b o rfl cs _ HRG.out Tryz.underlying268 rfl HI.out ?_)
      |(go_at_call 233;refine HC.out.mono ?_;rintro e w1 ⟨rfl,hb1⟩;have B1:=hid (HB.out.trans (hb1.mono HB.out.size));clear hb1))
     go_roundw
     case rel => exact⟨j+1,t+m,by omega,HST.out.symm,by have:=H4.out;omega,by go_num,rfl,by rw[HE.out],B1.out⟩
     case measure => simp[intOf];omega
   ·have e1:t=(ds.map BL).sum:=by rw[HT.out];unfold BD;rw[List.take_of_length_le (by omega)]
    have e2:r=left - (ds.length:Int) - (t:Int):=by rw[← HR.out,AR (by unfold AA;omega)];unfold AA;omega
    subst e2;clear HR e1 HX HT;go_wp2_with fail
    go_ret
    exact⟨rfl,HB.out⟩
theorem szTape_c(d:AS)(cs:List Value)(f:List Addr)(w:World)(left:Int)(h1:As w f cs d)(hl:0≤left)(hl2:left≤1048576) :
  Calls Tryz.prog 81 #[.agg cs.toArray,int i64 left] w fun e w' => e= .returned (int i64 (Bk left (Cp d)))∧Below w.heap.size w w':=by
 dsimp only[As]at h1;obtain⟨v0,f0,e,-,h⟩:=h1;subst e;have B1:Below w.heap.size w (w.alloc (.cells #[.bool d.wiped,v0] 135)):=(Below.refl _ _).alloc (Nat.le_refl _) _;have HC:=hid (szRecS_c v0 d.recs f0 (w.alloc (.cells #[.bool d.wiped,v0] 135)) left (rSl.below Ac.local_ Ac.fixed h B1) hl hl2);obtain⟨A0,c0,rfl,-⟩:=rSl.head h;have HB:=hid B1;have e0:Cp d=AA BL d.recs:=rfl;rw[e0];clear e0 h B1;obtain⟨m,hm⟩:∃m,AA BL d.recs=m:=⟨_,rfl⟩;rw[hm]at HC⊢;clear hm;by_cases h4:left<(m:Int)
 ·rw[AG h4]at HC⊢;go_enter Tryz.func81,Tryz.ntmps81
  go_wp2_with (go_at_call 143;refine HC.out.mono ?_;rintro e w1 ⟨rfl,hb⟩;have HB2:=hid (HB.out.trans (hb.mono HB.out.size));clear hb)
  go_ret
  exact⟨rfl,HB2.out⟩
 ·rw[AR h4]at HC⊢;have h5:¬left - (m:Int)<0:=by omega
  go_enter Tryz.func81,Tryz.ntmps81
  go_wp2_with (go_at_call 143;refine HC.out.mono ?_;rintro e w1 ⟨rfl,hb⟩;have HB2:=hid (HB.out.trans (hb.mono HB.out.size));clear hb)
  go_ret
  exact⟨rfl,HB2.out⟩
theorem IQ(v:Value)(ds:List AS)(fs:List Addr)(w:World)(left:Int)(h1:rSl 2 As w fs v ds)(hl:0≤left)(hl2:left≤1048576) :
  Calls Tryz.prog 33 #[v,int i64 left] w fun e w' => e= .returned (int i64 (Bk left (AA Cp ds)))∧Below w.heap.size w w':=by
 obtain⟨A1,c1,rfl,hc1,hm1,hx⟩:=rSl.at_ As.fixed (by decide) h1;clear h1;obtain⟨r,hr⟩:∃r,Bk left (AA Cp ds)=r:=⟨_,rfl⟩;rw[hr];have HR:=hid hr;clear hr;by_cases h:left<ds.length
 ·have hlt:left - (ds.length:Int)<0:=by omega
  have e1:r= -1:=by rw[← HR.out];exact AG (by unfold AA;omega)
  subst e1;clear hx;go_enter Tryz.func33,Tryz.ntmps33
  go_wp2_with fail
  go_ret
  exact⟨rfl,Below.refl _ _⟩
 ·have hlt:¬left - (ds.length:Int)<0:=by omega
  have HX:=hid hx;clear hx;go_enter Tryz.func33,Tryz.ntmps33
  go_wp2_with fail
  go_loopw [1,4,5] (fun l r i wr =>∃(j t:Nat),j≤ds.length∧Hid (t=BD Cp ds j)∧(t:Int)≤left - (ds.length:Int)∧i= int i64 j∧r= int i64 0∧l= int i64 (left - (ds.length:Int) - (t:Int))∧Hid (Below w.heap.size w wr)) (fun _ _ i _ => ds.length - (intOf i).toNat)
  case atStart => exact⟨0,0,by omega,(show 0=_ by simp[BD]),by omega,rfl,rfl,by simp,Below.refl _ _⟩
  case round =>
   obtain⟨j,t,hj,HT,htl,rfl,rfl,rfl,HB⟩:=hrel;by_cases hlt2:j<ds.length
   ·obtain⟨ad,b,o,cs,fk,e1,hat⟩:=HX.out j hlt2;subst e1;have hat2:=hat.below As.local_ HB.out;have hpl:=hat.place;have hbl:=hat2.lt;have HRG:=hid (show wr.rangeAt b o cs from fun q v hq => by
     have hq1:q<cs.length:=(List.getElem?_eq_some_iff.1 hq).1;rw[hat2.cell q hq1,← hq];exact(List.getElem?_eq_getElem hq1).symm)
    have HI:=hid (show(Tryz.prog.info? 135).map (·.size)=some cs.length by rw[hat2.len];kernel_rfl);have HC:=hid (szTape_c ds[j] cs fk wr (left - (ds.length:Int) - (t:Int)) hat2.reads (by omega) (by omega));have hst:=CL Cp hlt2;rw[← HT.out]at hst;have HST:=hid hst;have hle:=Dh Cp ds (j+1);have HLE:=hid hle;clear hat hat2 hst hle HX;obtain⟨m,hm⟩:∃m,Cp ds[j] =m:=⟨_,rfl⟩;rw[hm]at HC HST;clear hm;by_cases h4:left - (ds.length:Int) - (t:Int)<(m:Int)
    ·rw[AG h4]at HC;have e1:r= -1:=by rw[← HR.out];exact AG (by unfold AA;have:=HST.out;have:=HLE.out;omega)
     subst e1;go_wp2_with (first
      |(refine wpList_load_mid rfl 135 _ rfl b o rfl cs _ HRG.out Tryz.underlying135 rfl HI.out ?_)
      |(go_at_call 81;refine HC.out.mono ?_;rintro e w1 ⟨rfl,hb1⟩;have B1:=hid (HB.out.trans (hb1.mono HB.out.size));clear hb1))
     go_ret
     exact⟨rfl,B1.out⟩
    ·rw[AR h4]at HC;have h5:¬left - (ds.length:Int) - (t:Int) - (m:Int)<0:=by omega
     have H4:=hid h4;have HE:=hid (show left - (ds.length:Int) - (t:Int) - (m:Int)=left - (ds.length:Int) - ((t+m:Nat):Int) by omega);clear h4;go_wp2_with (first
      |(refine wpList_load_mid rfl 135 _ rfl b o rfl cs _ HRG.out Tryz.underlying135 rfl HI.out ?_)
      |(go_at_call 81;refine HC.out.mono ?_;rintro e w1 ⟨rfl,hb1⟩;have B1:=hid (HB.out.trans (hb1.mono HB.out.size));clear hb1))
     go_roundw
     case rel => exact⟨j+1,t+m,by omega,HST.out.symm,by have:=H4.out;omega,by go_num,rfl,by rw[HE.out],B1.out⟩
     case measure => simp[intOf];omega
   ·have e1:t=(ds.map Cp).sum:=by rw[HT.out];unfold BD;rw[List.take_of_length_le (by omega)]
    have e2:r=left - (ds.length:Int) - (t:Int):=by rw[← HR.out,AR (by unfold AA;omega)];unfold AA;omega
    subst e2;clear HR e1 HX HT;go_wp2_with fail
    go_ret
    exact⟨rfl,HB.out⟩
theorem MK(d:AC)(cs:List Value)(f:List Addr)(w:World)(left:Int)(h1:AB w f cs d)(hl:0≤left)(hl2:left≤1048576) :
  Calls Tryz.prog 8 #[.agg cs.toArray,int i64 left] w fun e w' => e= .returned (int i64 (Bk left (Dv d)))∧Below w.heap.size w w':=by
 dsimp only[AB]at h1;obtain⟨v0,v1,v2,f0,f1,f2,e,-,-,-,-,-,-,-,-,-,-,-,-,r0,r1,r2⟩:=h1;subst e;obtain⟨W1,hW1⟩:∃W1,w.alloc (.cells #[int i64 d.s.g,int i64 d.s.c,int i64 d.s.data,int i64 d.s.p,int i64 d.s.rows,int i64 d.s.cap,int i64 d.s.b,int i64 d.s.q,int i64 d.s.t,v0,v1,v2,int i64 d.u,int i64 d.stop,.bool d.down] 28)=W1:=⟨_,rfl⟩;have B1:Below w.heap.size w W1:=by rw[← hW1];exact(Below.refl _ _).alloc (Nat.le_refl _) _
 have K1:Blk W1 w.heap.size 28 #[int i64 d.s.g,int i64 d.s.c,int i64 d.s.data,int i64 d.s.p,int i64 d.s.rows,int i64 d.s.cap,int i64 d.s.b,int i64 d.s.q,int i64 d.s.t,v0,v1,v2,int i64 d.u,int i64 d.stop,.bool d.down]:=by rw[← hW1];exact Blk.new w _ _
 have HR0:=hid (rSl.below (Ai.local_ Ak.local_) (Ai.fixed Ak.fixed) r0 B1);have HR1:=hid (rSl.below Al.local_ Al.fixed r1 B1);have HR2:=hid (rSl.below As.local_ As.fixed r2 B1);obtain⟨A0,c0,rfl,-⟩:=rSl.head r0;obtain⟨A1,c1,rfl,-⟩:=rSl.head r1;obtain⟨A2,c2,rfl,-⟩:=rSl.head r2;have k9:W1.cell? ⟨w.heap.size,9,none⟩=some (.slice A0 d.g.length c0):=(K1.cell 9).trans rfl;have k10:W1.cell? ⟨w.heap.size,10,none⟩=some (.slice A1 d.on.length c1):=(K1.cell 10).trans rfl;have k11:W1.cell? ⟨w.heap.size,11,none⟩=some (.slice A2 d.v.length c2):=(K1.cell 11).trans rfl;have HB:=hid B1;have hz1:w.heap.size<W1.heap.size:=K1.lt;have HC0:=hid (Kn _ d.g f0 W1 left HR0.out hl hl2);obtain⟨r,hr⟩:∃r,Bk left (Dv d)=r:=⟨_,rfl⟩;rw[hr];have HR:=hid hr;have hF:Dv d=AA BR d.g+d.on.length+AA Cp d.v:=rfl;rw[hF]at HR;obtain⟨m0,hm0⟩:∃m0,AA BR d.g=m0:=⟨_,rfl⟩;obtain⟨m2,hm2⟩:∃m2,AA Cp d.v=m2:=⟨_,rfl⟩;rw[hm0]at HC0 HR;rw[hm2]at HR;have HM2:=hid hm2;clear hr r0 r1 r2 B1 K1 hF hm0 hm2;subst hW1;by_cases q0:left<(m0:Int)
 ·have e1:r= -1:=by rw[← HR.out];exact AG (by omega)
  subst e1;rw[AG q0]at HC0;go_enter Tryz.func8,Tryz.ntmps8
  go_wp2_with (go_at_call 31;refine HC0.out.mono ?_;rintro e w2 ⟨rfl,b2⟩;have B2:=hid (HB.out.trans (b2.mono HB.out.size));clear b2)
  go_ret
  exact⟨rfl,B2.out⟩
 have ql0:¬left - (m0:Int)<0:=by omega
 rw[AR q0]at HC0;by_cases q1:left - (m0:Int)<(d.on.length:Int)
 ·have e1:r= -1:=by rw[← HR.out];exact AG (by omega)
  subst e1;go_enter Tryz.func8,Tryz.ntmps8
  go_wp2_with (first
   |(go_at_call 31;refine HC0.out.mono ?_;rintro e w2 ⟨rfl,b2⟩;have j10:=(b2.cell (p:=⟨w.heap.size,10,none⟩) hz1).trans k10;have j11:=(b2.cell (p:=⟨w.heap.size,11,none⟩) hz1).trans k11;have hz2:=Nat.lt_of_lt_of_le hz1 b2.size;have HC1:=hid (FE _ d.on f1 w2 (left - (m0:Int)) (rSl.below Al.local_ Al.fixed HR1.out b2) (by omega) (by omega));rw[AG q1]at HC1;have B2:=hid (HB.out.trans (b2.mono HB.out.size));clear b2)
   |(go_at_call 32;refine HC1.out.mono ?_;rintro e w' ⟨rfl,rfl⟩))
  go_ret
  exact⟨rfl,B2.out⟩
 have ql1:¬left - (m0:Int) - (d.on.length:Int)<0:=by omega
 by_cases q2:left - (m0:Int) - (d.on.length:Int)<(m2:Int)
 ·have e1:r= -1:=by rw[← HR.out];exact AG (by omega)
  subst e1;go_enter Tryz.func8,Tryz.ntmps8
  go_wp2_with (first
   |(go_at_call 31;refine HC0.out.mono ?_;rintro e w2 ⟨rfl,b2⟩;have j10:=(b2.cell (p:=⟨w.heap.size,10,none⟩) hz1).trans k10;have j11:=(b2.cell (p:=⟨w.heap.size,11,none⟩) hz1).trans k11;have hz2:=Nat.lt_of_lt_of_le hz1 b2.size;have HC1:=hid (FE _ d.on f1 w2 (left - (m0:Int)) (rSl.below Al.local_ Al.fixed HR1.out b2) (by omega) (by omega));rw[AR q1]at HC1;have HC2:=hid (IQ _ d.v f2 w2 (left - (m0:Int) - (d.on.length:Int)) (rSl.below As.local_ As.fixed HR2.out b2) (by omega) (by omega));rw[HM2.out,AG q2]at HC2;have B2:=hid (HB.out.trans (b2.mono HB.out.size));clear b2)
   |(go_at_call 32;refine HC1.out.mono ?_;rintro e w' ⟨rfl,rfl⟩)
   |(go_at_call 33;refine HC2.out.mono ?_;rintro e w3 ⟨rfl,b3⟩;have B3:=hid (B2.out.trans (b3.mono B2.out.size));clear b3))
  go_ret
  exact⟨rfl,B3.out⟩
 have ql2:¬left - (m0:Int) - (d.on.length:Int) - (m2:Int)<0:=by omega
 have e1:r=left - (m0:Int) - (d.on.length:Int) - (m2:Int):=by rw[← HR.out,AR (by omega)];omega
 subst e1;go_enter Tryz.func8,Tryz.ntmps8
 go_wp2_with (first
  |(go_at_call 31;refine HC0.out.mono ?_;rintro e w2 ⟨rfl,b2⟩;have j10:=(b2.cell (p:=⟨w.heap.size,10,none⟩) hz1).trans k10;have j11:=(b2.cell (p:=⟨w.heap.size,11,none⟩) hz1).trans k11;have hz2:=Nat.lt_of_lt_of_le hz1 b2.size;have HC1:=hid (FE _ d.on f1 w2 (left - (m0:Int)) (rSl.below Al.local_ Al.fixed HR1.out b2) (by omega) (by omega));rw[AR q1]at HC1;have HC2:=hid (IQ _ d.v f2 w2 (left - (m0:Int) - (d.on.length:Int)) (rSl.below As.local_ As.fixed HR2.out b2) (by omega) (by omega));rw[HM2.out,AR q2]at HC2;have B2:=hid (HB.out.trans (b2.mono HB.out.size));clear b2)
  |(go_at_call 32;refine HC1.out.mono ?_;rintro e w' ⟨rfl,rfl⟩)
  |(go_at_call 33;refine HC2.out.mono ?_;rintro e w3 ⟨rfl,b3⟩;have B3:=hid (B2.out.trans (b3.mono B2.out.size));clear b3))
 go_ret
 exact⟨rfl,B3.out⟩
theorem ML(d:By)(cs:List Value)(f:List Addr)(w:World)(h1:AD w f cs d)(hsm:Cc d≤1048576) :
  Calls Tryz.prog 284 #[.agg cs.toArray] w (Ft AD d w):=by
 dsimp only[AD]at h1;obtain⟨v0,f0,e,-,ok,h⟩:=h1;subst e;have H:=hid h;have HOK:=hid ok;obtain⟨A1,c1,rfl,-⟩:=rSl.head h;clear h ok;go_enter Tryz.func284,Tryz.ntmps284
 go_wp2_with fail
 have hB:Below w.heap.size w (((w.alloc (.cells #[int i64 d.stamp,.slice A1 d.bytes.length c1] 304)).alloc (.cells #[int i64 0,.slice none 0 0] 196)).alloc (.cells #[int i64 d.stamp,.slice none 0 0] 196)):=(((Below.refl _ _).alloc (Nat.le_refl _) _).alloc (by simp) _).alloc (by simp;omega) _;refine(EZ _ d.bytes f0 _ (rSl.below Av.local_ Av.fixed H.out hB) hsm).mono ?_;rintro e w1 ⟨A',c',f1,rfl,r1,hf1,b1⟩;have k1:=hid (Blk.below ((Blk.new1 w (.cells #[int i64 d.stamp,.slice A1 d.bytes.length c1] 304) 196 #[int i64 0,.slice none 0 0]).alloc (.cells #[int i64 d.stamp,.slice none 0 0] 196)) b1 (by simp));have k2:=hid (Blk.below (Blk.new2 w (.cells #[int i64 d.stamp,.slice A1 d.bytes.length c1] 304) (.cells #[int i64 0,.slice none 0 0] 196) 196 #[int i64 d.stamp,.slice none 0 0]) b1 (by simp));have B1:=hid (hB.trans (b1.mono hB.size));have hf2:∀a,a∈f1→w.heap.size+3≤a.block:=fun a ha => by have:=hf1 a ha;simp at this;omega
 have HF:=hid hf2;have HR:=hid r1;have z0:=b1.size;simp only[World.size_alloc]at z0;have z1:w.heap.size+1<w1.heap.size:=by omega
 have z2:w.heap.size+1+1<w1.heap.size:=by omega
 clear hf1 hf2 r1 b1 hB z0;have p0:=Blk.cell k1.out 0;have p1:=Blk.cell k1.out 1;have q0:=Blk.cell k2.out 0;have q1:=Blk.cell k2.out 1;have f0:=Blk.frozen k1.out 0;have f1':=Blk.frozen k1.out 1;have g0:=Blk.frozen k2.out 0;have g1:=Blk.frozen k2.out 1;simp at p0 p1 q0 q1;go_wp2_with fail
 have K1:=Blk.set_ (Blk.set_ (Blk.far k1.out (p:=⟨w.heap.size+1+1,1,none⟩) (by simp) (.slice A' d.bytes.length c')) 0 (int i64 d.stamp)) 1 (.slice A' d.bytes.length c');refine bodyPost_ret (results_cell_row rfl _ _ (w.heap.size+1) 196 #[int i64 d.stamp,.slice A' d.bytes.length c'] (0,0) _ rfl K1 Tryz.underlying196 rfl (by kernel_rfl)) rfl ?_;refine⟨[int i64 d.stamp,.slice A' d.bytes.length c'],f1,rfl,⟨_,f1,rfl,rfl,HOK.out,?_⟩,fun a ha => by have:=HF.out a ha;omega,((B1.out.setCell (by simp;omega) _).setCell (by simp) _).setCell (by simp) _⟩;exact((HR.out.keep Av.local_ (AP.set_ _ HF.out (by simp) _)).keep Av.local_ (AP.set_ _ HF.out (by simp) _)).keep Av.local_ (AP.set_ _ HF.out (by simp) _)
theorem Tryz.infoTotoBlockS:(Tryz.prog.info? 196).map (fun i =>(i.zero,i.size,i.bytes))=some (some (.agg #[int i64 0,.slice none 0 0]),2,32):=by kernel_rfl
theorem LY(v:Value)(ds:List By)(fs:List Addr)(w:World)(h1:rSl 2 AD w fs v ds)(hsm:AA Cc ds≤1048576) :
  Calls Tryz.prog 241 #[v] w (E2 2 AD ds w):=by
 obtain⟨A1,c1,rfl,hc1,hm1,hx⟩:=rSl.at_ AD.fixed (by decide) h1;have hdl:ds.length≤1048576:=by unfold AA at hsm;omega
 have HX:=hid hx;clear hx h1;have hmk:=BI Tryz.prog 192 196 (.agg #[int i64 0,.slice none 0 0]) 2 32 Tryz.underlying192 Tryz.infoTotoBlockS ds.length hdl (by omega);go_enter Tryz.func241,Tryz.ntmps241
 go_wp2_with fail
 go_loopw [4] (fun i wr =>∃j:Nat,j≤ds.length∧i= int i64 j∧Hid (BT 2 AD wr w.heap.size 196 ds j)∧Hid (Below w.heap.size w wr)) (fun i _ => ds.length - (intOf i).toNat)
 case atStart => exact⟨0,by omega,rfl,BT.start (Blk.new _ _ _),(Below.refl _ _).alloc (Nat.le_refl _) _⟩
 case round =>
  obtain⟨j,hj,rfl,HP,HB⟩:=hrel;clear hmk;by_cases hlt2:j<ds.length
  ·obtain⟨ad,b,o,cs,fk,e1,hat⟩:=HX.out j hlt2;subst e1;have hat2:=hat.below AD.local_ HB.out;have hpl:=hat.place;have hbl:=hat2.lt;have HRG:=hid (show wr.rangeAt b o cs from fun q v hq => by
    have hq1:q<cs.length:=(List.getElem?_eq_some_iff.1 hq).1;rw[hat2.cell q hq1,← hq];exact(List.getElem?_eq_getElem hq1).symm)
   have HI:=hid (show(Tryz.prog.info? 304).map (·.size)=some cs.length by rw[hat2.len];kernel_rfl);have HC:=hid (ML ds[j] cs fk wr hat2.reads (by have:=Db Cc hlt2;omega));clear hat hat2 HX;go_wp2_with (first
    |(refine wpList_load_mid rfl 304 _ rfl b o rfl cs _ HRG.out Tryz.underlying304 rfl HI.out ?_)
    |(go_at_call 284;go_loud (refine HC.out.mono ?_;rintro e w1 ⟨us,fu,rfl,ru,hfu,b1⟩;have HU:=hid ru;have HFU:=hid hfu;have B1:=hid b1;have hul:us.length=2:=AD.wide _ _ _ _ ru;have P1:=hid (HP.out.below AD.local_ AD.fixed b1);have HON:=hid (all_oneCell_toArray (AD.ones _ _ _ _ ru));have HTH:=hid (show w1.there w.heap.size (j * 2) us.toArray.size by rw[show us.toArray.size=2 from List.size_toArray.trans hul];exact P1.out.there hlt2);have HI2:=hid (show(Tryz.prog.info? 196).map (·.size)=some us.toArray.size by rw[show us.toArray.size=2 from List.size_toArray.trans hul];kernel_rfl);have HUL:=hid hul;have hz1:w.heap.size<w1.heap.size:=P1.out.lt;clear ru hfu b1 hul))
    |(refine wpList_store_mid rfl 196 _ _ rfl w.heap.size (j * 2) us.toArray rfl rfl HTH.out HI2.out HON.out ?_))
   go_roundw
   case rel =>
    have hst:=P1.out.step AD.local_ hlt2 HUL.out HU.out (fun a ha => by have:=HFU.out a ha;have:=HP.out.lt;omega);exact⟨j+1,by omega,by go_num,hst,Below.setCells_ _ _ _ _ (Nat.le_refl _) (HB.out.trans (B1.out.mono HB.out.size))⟩
   case measure => simp[intOf];omega
  ·obtain rfl:j=ds.length:=by omega
   clear HX;go_wp2_with fail
   go_ret
   obtain⟨fs',hr,hf⟩:=HP.out.reads (by omega);exact⟨some ⟨w.heap.size,0,none⟩,ds.length,fs',rfl,hr,hf,HB.out⟩
theorem MN(d:AU)(cs:List Value)(f:List Addr)(w:World)(h1:Ak w f cs d)(hsm:Cd d≤1048576) :
  Calls Tryz.prog 164 #[.agg cs.toArray] w (Ft Ak d w):=by
 dsimp only[Ak]at h1;obtain⟨v0,f0,e,-,h⟩:=h1;subst e;have H:=hid h;obtain⟨A1,c1,rfl,-⟩:=rSl.head h;clear h;go_enter Tryz.func164,Tryz.ntmps164
 go_wp2_with fail
 have hB:Below w.heap.size w (((w.alloc (.cells #[.bool d.wiped,.slice A1 d.blocks.length c1] 190)).alloc (.cells #[.bool false,.slice none 0 0] 194)).alloc (.cells #[.bool d.wiped,.slice none 0 0] 194)):=(((Below.refl _ _).alloc (Nat.le_refl _) _).alloc (by simp) _).alloc (by simp;omega) _;refine(LY _ d.blocks f0 _ (rSl.below AD.local_ AD.fixed H.out hB) hsm).mono ?_;rintro e w1 ⟨A',c',f1,rfl,r1,hf1,b1⟩;have k1:=hid (Blk.below ((Blk.new1 w (.cells #[.bool d.wiped,.slice A1 d.blocks.length c1] 190) 194 #[.bool false,.slice none 0 0]).alloc (.cells #[.bool d.wiped,.slice none 0 0] 194)) b1 (by simp));have k2:=hid (Blk.below (Blk.new2 w (.cells #[.bool d.wiped,.slice A1 d.blocks.length c1] 190) (.cells #[.bool false,.slice none 0 0] 194) 194 #[.bool d.wiped,.slice none 0 0]) b1 (by simp));have B1:=hid (hB.trans (b1.mono hB.size));have hf2:∀a,a∈f1→w.heap.size+3≤a.block:=fun a ha => by have:=hf1 a ha;simp at this;omega
 have HF:=hid hf2;have HR:=hid r1;have z0:=b1.size;simp only[World.size_alloc]at z0;have z1:w.heap.size+1<w1.heap.size:=by omega
 have z2:w.heap.size+1+1<w1.heap.size:=by omega
 clear hf1 hf2 r1 b1 hB z0;have p0:=Blk.cell k1.out 0;have p1:=Blk.cell k1.out 1;have q0:=Blk.cell k2.out 0;have q1:=Blk.cell k2.out 1;have f0:=Blk.frozen k1.out 0;have f1':=Blk.frozen k1.out 1;have g0:=Blk.frozen k2.out 0;have g1:=Blk.frozen k2.out 1;simp at p0 p1 q0 q1;go_wp2_with fail
 have K1:=Blk.set_ (Blk.set_ (Blk.far k1.out (p:=⟨w.heap.size+1+1,1,none⟩) (by simp) (.slice A' d.blocks.length c')) 0 (.bool d.wiped)) 1 (.slice A' d.blocks.length c');refine bodyPost_ret (results_cell_row rfl _ _ (w.heap.size+1) 194 #[.bool d.wiped,.slice A' d.blocks.length c'] (0,0) _ rfl K1 Tryz.underlying194 rfl (by kernel_rfl)) rfl ?_;refine⟨[.bool d.wiped,.slice A' d.blocks.length c'],f1,rfl,⟨_,f1,rfl,rfl,?_⟩,fun a ha => by have:=HF.out a ha;omega,((B1.out.setCell (by simp;omega) _).setCell (by simp) _).setCell (by simp) _⟩;exact((HR.out.keep AD.local_ (AP.set_ _ HF.out (by simp) _)).keep AD.local_ (AP.set_ _ HF.out (by simp) _)).keep AD.local_ (AP.set_ _ HF.out (by simp) _)
theorem Tryz.infoTotoDriveS:(Tryz.prog.info? 194).map (fun i =>(i.zero,i.size,i.bytes))=some (some (.agg #[.bool false,.slice none 0 0]),2,32):=by kernel_rfl
theorem LZ(v:Value)(ds:List AU)(fs:List Addr)(w:World)(h1:rSl 2 Ak w fs v ds)(hsm:AA Cd ds≤1048576) :
  Calls Tryz.prog 94 #[v] w (E2 2 Ak ds w):=by
 obtain⟨A1,c1,rfl,hc1,hm1,hx⟩:=rSl.at_ Ak.fixed (by decide) h1;have hdl:ds.length≤1048576:=by unfold AA at hsm;omega
 have HX:=hid hx;clear hx h1;have hmk:=BI Tryz.prog 148 194 (.agg #[.bool false,.slice none 0 0]) 2 32 Tryz.underlying148 Tryz.infoTotoDriveS ds.length hdl (by omega);go_enter Tryz.func94,Tryz.ntmps94
 go_wp2_with fail
 go_loopw [4] (fun i wr =>∃j:Nat,j≤ds.length∧i= int i64 j∧Hid (BT 2 Ak wr w.heap.size 194 ds j)∧Hid (Below w.heap.size w wr)) (fun i _ => ds.length - (intOf i).toNat)
 case atStart => exact⟨0,by omega,rfl,BT.start (Blk.new _ _ _),(Below.refl _ _).alloc (Nat.le_refl _) _⟩
 case round =>
  obtain⟨j,hj,rfl,HP,HB⟩:=hrel;clear hmk;by_cases hlt2:j<ds.length
  ·obtain⟨ad,b,o,cs,fk,e1,hat⟩:=HX.out j hlt2;subst e1;have hat2:=hat.below Ak.local_ HB.out;have hpl:=hat.place;have hbl:=hat2.lt;have HRG:=hid (show wr.rangeAt b o cs from fun q v hq => by
    have hq1:q<cs.length:=(List.getElem?_eq_some_iff.1 hq).1;rw[hat2.cell q hq1,← hq];exact(List.getElem?_eq_getElem hq1).symm)
   have HI:=hid (show(Tryz.prog.info? 190).map (·.size)=some cs.length by rw[hat2.len];kernel_rfl);have HC:=hid (MN ds[j] cs fk wr hat2.reads (by have:=Db Cd hlt2;omega));clear hat hat2 HX;go_wp2_with (first
    |(refine wpList_load_mid rfl 190 _ rfl b o rfl cs _ HRG.out Tryz.underlying190 rfl HI.out ?_)
    |(go_at_call 164;go_loud (refine HC.out.mono ?_;rintro e w1 ⟨us,fu,rfl,ru,hfu,b1⟩;have HU:=hid ru;have HFU:=hid hfu;have B1:=hid b1;have hul:us.length=2:=Ak.wide _ _ _ _ ru;have P1:=hid (HP.out.below Ak.local_ Ak.fixed b1);have HON:=hid (all_oneCell_toArray (Ak.ones _ _ _ _ ru));have HTH:=hid (show w1.there w.heap.size (j * 2) us.toArray.size by rw[show us.toArray.size=2 from List.size_toArray.trans hul];exact P1.out.there hlt2);have HI2:=hid (show(Tryz.prog.info? 194).map (·.size)=some us.toArray.size by rw[show us.toArray.size=2 from List.size_toArray.trans hul];kernel_rfl);have HUL:=hid hul;have hz1:w.heap.size<w1.heap.size:=P1.out.lt;clear ru hfu b1 hul))
    |(refine wpList_store_mid rfl 194 _ _ rfl w.heap.size (j * 2) us.toArray rfl rfl HTH.out HI2.out HON.out ?_))
   go_roundw
   case rel =>
    have hst:=P1.out.step Ak.local_ hlt2 HUL.out HU.out (fun a ha => by have:=HFU.out a ha;have:=HP.out.lt;omega);exact⟨j+1,by omega,by go_num,hst,Below.setCells_ _ _ _ _ (Nat.le_refl _) (HB.out.trans (B1.out.mono HB.out.size))⟩
   case measure => simp[intOf];omega
  ·obtain rfl:j=ds.length:=by omega
   clear HX;go_wp2_with fail
   go_ret
   obtain⟨fs',hr,hf⟩:=HP.out.reads (by omega);exact⟨some ⟨w.heap.size,0,none⟩,ds.length,fs',rfl,hr,hf,HB.out⟩
theorem Tryz.infoTotoDriveSS:(Tryz.prog.info? 148).map (fun i =>(i.zero,i.size,i.bytes))=some (some (.slice none 0 0),1,24):=by kernel_rfl
theorem Kq(v:Value)(ds:List (List AU))(fs:List Addr)(w:World)(h1:rSl 1 (Ai 2 Ak) w fs v ds)(hsm:AA BR ds≤1048576) :
  Calls Tryz.prog 41 #[v] w (E2 1 (Ai 2 Ak) ds w):=by
 obtain⟨A1,c1,rfl,hc1,hm1,hx⟩:=rSl.at_ (Ai.fixed Ak.fixed) (by decide) h1;have hdl:ds.length≤1048576:=by unfold AA at hsm;omega
 have HX:=hid hx;clear hx h1;have hmk:=BI Tryz.prog 32 148 (.slice none 0 0) 1 24 Tryz.underlying32 Tryz.infoTotoDriveSS ds.length hdl (by omega);go_enter Tryz.func41,Tryz.ntmps41
 go_wp2_with fail
 go_loopw [4] (fun i wr =>∃j:Nat,j≤ds.length∧i= int i64 j∧Hid (BT 1 (Ai 2 Ak) wr w.heap.size 148 ds j)∧Hid (Below w.heap.size w wr)) (fun i _ => ds.length - (intOf i).toNat)
 case atStart => exact⟨0,by omega,rfl,BT.start (z:=#[.slice none 0 0]) (by rw[Nat.mul_one];exact Blk.new _ _ _),(Below.refl _ _).alloc (Nat.le_refl _) _⟩
 case round =>
  obtain⟨j,hj,rfl,HP,HB⟩:=hrel;clear hmk;by_cases hlt2:j<ds.length
  ·obtain⟨ad,b,o,cs,fk,e1,hat⟩:=HX.out j hlt2;subst e1;have hat2:=hat.below (Ai.local_ Ak.local_) HB.out;have hpl:=hat.place;have hbl:=hat2.lt;obtain⟨ve,hve,hrd⟩:=hat2.reads;subst hve;obtain⟨Ae,ce,rfl,-⟩:=rSl.head hrd;have hpc:=hat2.cell 0 (by simp);simp only[Nat.add_zero,List.getElem_cons_zero]at hpc;rw[Nat.mul_one]at hpl;have HC:=hid (LZ _ ds[j] fk wr hrd (by have:=Db BR hlt2;have e:BR ds[j] =AA Cd ds[j]:=rfl;omega));clear hrd;clear hat hat2 HX;go_wp2_with (first
    |(go_at_call 94;go_loud (refine HC.out.mono ?_;rintro e w1 ⟨Au,cu,fu,rfl,ru,hfu,b1⟩;have HU:=hid ru;have HFU:=hid hfu;have B1:=hid b1;have P1:=hid (HP.out.below (Ai.local_ Ak.local_) (Ai.fixed Ak.fixed) b1);have th:=P1.out.there hlt2 0 (by omega);simp only[Nat.mul_one,Nat.add_zero]at th;obtain⟨th1,th2⟩:=th;obtain⟨ux,hux⟩:=Option.isSome_iff_exists.1 th1;have hz1:w.heap.size<w1.heap.size:=P1.out.lt;clear ru hfu b1 th1)))
   go_roundw
   case rel =>
    have hst:=P1.out.step (us:=[.slice Au ds[j].length cu]) (Ai.local_ Ak.local_) hlt2 rfl ⟨_,rfl,HU.out⟩ (fun a ha => by have:=HFU.out a ha;have:=HP.out.lt;omega);rw[Nat.mul_one]at hst;exact⟨j+1,by omega,by go_num,hst,(HB.out.trans (B1.out.mono HB.out.size)).setCell (Nat.le_refl _) _⟩
   case measure => simp[intOf];omega
  ·obtain rfl:j=ds.length:=by omega
   clear HX;go_wp2_with fail
   go_ret
   obtain⟨fs',hr,hf⟩:=HP.out.reads (by omega);exact⟨some ⟨w.heap.size,0,none⟩,ds.length,fs',rfl,hr,hf,HB.out⟩
end Go.Proofs.YtfjkoifpdoemdaaGreat
