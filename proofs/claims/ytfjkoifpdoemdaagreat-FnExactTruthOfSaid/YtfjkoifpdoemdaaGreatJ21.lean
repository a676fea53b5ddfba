/- Part 21 of the proof. -/
import Derived.Test.YtfjkoifpdoemdaaGreatJ11
import Derived.Test.YtfjkoifpdoemdaaGreatJ18
import Derived.Test.YtfjkoifpdoemdaaGreatJ06
set_option maxHeartbeats 8000000
set_option maxRecDepth 100000
set_option linter.unusedVariables false
set_option linter.unusedSimpArgs false
open Go.Proofs.Tryz
open Go.Value (int)
open Go.IntKind (i64)
namespace Go.Proofs.YtfjkoifpdoemdaaGreat
open Go.RowKit Go.Lib Go.Sort
theorem LY(j:Nat)(c:UInt8) {P:Prop}
  (h1:(97:Int)≤(c.toNat:Int)→(c.toNat:Int)≤122→¬(c.toNat:Int)<97→¬(122:Int)<(c.toNat:Int)→¬(c.toNat:Int)<48→(57:Int)<(c.toNat:Int)→CO j c=true→P)
  (h2:(97:Int)≤(c.toNat:Int)→¬(c.toNat:Int)≤122→¬(c.toNat:Int)<97→(122:Int)<(c.toNat:Int)→¬(c.toNat:Int)<48→(57:Int)<(c.toNat:Int)→((j:Int) == 0)=true→¬(0:Int)<(j:Int)→CO j c=false→P)
  (h3:(97:Int)≤(c.toNat:Int)→¬(c.toNat:Int)≤122→¬(c.toNat:Int)<97→(122:Int)<(c.toNat:Int)→¬(c.toNat:Int)<48→(57:Int)<(c.toNat:Int)→((j:Int) == 0)=false→(0:Int)<(j:Int)→CO j c=false→P)
  (h4:¬(97:Int)≤(c.toNat:Int)→(c.toNat:Int)≤122→(c.toNat:Int)<97→¬(122:Int)<(c.toNat:Int)→¬(c.toNat:Int)<48→(57:Int)<(c.toNat:Int)→((j:Int) == 0)=true→¬(0:Int)<(j:Int)→CO j c=false→P)
  (h5:¬(97:Int)≤(c.toNat:Int)→(c.toNat:Int)≤122→(c.toNat:Int)<97→¬(122:Int)<(c.toNat:Int)→¬(c.toNat:Int)<48→(57:Int)<(c.toNat:Int)→((j:Int) == 0)=false→(0:Int)<(j:Int)→CO j c=false→P)
  (h6:¬(97:Int)≤(c.toNat:Int)→(c.toNat:Int)≤122→(c.toNat:Int)<97→¬(122:Int)<(c.toNat:Int)→¬(c.toNat:Int)<48→¬(57:Int)<(c.toNat:Int)→((j:Int) == 0)=true→¬(0:Int)<(j:Int)→CO j c=false→P)
  (h7:¬(97:Int)≤(c.toNat:Int)→(c.toNat:Int)≤122→(c.toNat:Int)<97→¬(122:Int)<(c.toNat:Int)→¬(c.toNat:Int)<48→¬(57:Int)<(c.toNat:Int)→((j:Int) == 0)=false→(0:Int)<(j:Int)→CO j c=true→P)
  (h8:¬(97:Int)≤(c.toNat:Int)→(c.toNat:Int)≤122→(c.toNat:Int)<97→¬(122:Int)<(c.toNat:Int)→(c.toNat:Int)<48→¬(57:Int)<(c.toNat:Int)→((j:Int) == 0)=true→¬(0:Int)<(j:Int)→CO j c=false→P)
  (h9:¬(97:Int)≤(c.toNat:Int)→(c.toNat:Int)≤122→(c.toNat:Int)<97→¬(122:Int)<(c.toNat:Int)→(c.toNat:Int)<48→¬(57:Int)<(c.toNat:Int)→((j:Int) == 0)=false→(0:Int)<(j:Int)→CO j c=false→P):P:=by
 have hs:CO j c=decide ((97≤c.toNat∧c.toNat≤122)∨(0<j∧48≤c.toNat∧c.toNat≤57)):=by
  unfold CO letB digB;rw[Bool.eq_iff_iff];simp
 rw[hs]at h1 h2 h3 h4 h5 h6 h7 h8 h9;simp only[bN,decide_eq_false_iff_not]at h1 h2 h3 h4 h5 h6 h7 h8 h9;have zt:j=0→((j:Int) == 0)=true:=fun h => by rw[h];rfl
 have zf:¬j=0→((j:Int) == 0)=false:=fun h => by rw[beq_eq_false_iff_ne];omega
 by_cases a:97≤c.toNat
 ·by_cases b:c.toNat≤122
  ·exact h1 (by omega) (by omega) (by omega) (by omega) (by omega) (by omega) (by omega)
  ·by_cases z:j=0
   ·exact h2 (by omega) (by omega) (by omega) (by omega) (by omega) (by omega) (zt z) (by omega) (by omega)
   ·exact h3 (by omega) (by omega) (by omega) (by omega) (by omega) (by omega) (zf z) (by omega) (by omega)
 ·by_cases b:57<c.toNat
  ·by_cases z:j=0
   ·exact h4 (by omega) (by omega) (by omega) (by omega) (by omega) (by omega) (zt z) (by omega) (by omega)
   ·exact h5 (by omega) (by omega) (by omega) (by omega) (by omega) (by omega) (zf z) (by omega) (by omega)
  ·by_cases d:48≤c.toNat
   ·by_cases z:j=0
    ·exact h6 (by omega) (by omega) (by omega) (by omega) (by omega) (by omega) (zt z) (by omega) (by omega)
    ·exact h7 (by omega) (by omega) (by omega) (by omega) (by omega) (by omega) (zf z) (by omega) (by omega)
   ·by_cases z:j=0
    ·exact h8 (by omega) (by omega) (by omega) (by omega) (by omega) (by omega) (zt z) (by omega) (by omega)
    ·exact h9 (by omega) (by omega) (by omega) (by omega) (by omega) (by omega) (zf z) (by omega) (by omega)
theorem Ks(s:ByteArray)(w:World)(hs:s.size≤9223372036854775807) :
  Calls prog 72 #[.string s] w fun e w' => e= .returned (int i64 (BQ s.data.toList))∧Below w.heap.size w w':=by
 have hsz:s.data.toList.length=s.size:=by simp
 have HSZ:=U hsz;obtain⟨r,hr⟩:∃r,BQ s.data.toList=r:=⟨_,rfl⟩;rw[hr];have HR:=U hr;clear hsz hr;go_enter func72,ntmps72
 go_wp2_with fail
 go_loopw [7,3,4] (fun i _ _ wr =>∃j:Nat,j≤s.size∧i= int i64 j∧Hid (Ex s.data.toList j)∧Hid (Below w.heap.size w wr)) (fun i _ _ _ => s.size - (intOf i).toNat)
 case atStart => exact⟨0,by omega,rfl,JO _,aB _ _⟩
 case round =>
  obtain⟨j,hj,rfl,HS,HB⟩:=hrel;by_cases hlt:j<s.size
  ·have hki:(j:Int)<(s.size:Int):=by omega
   have hk1:j<s.data.toList.length:=by rw[HSZ.o];exact hlt
   have hel:s.data.toList[j] =s[j]'hlt:=by simp[ByteArray.getElem_eq_getElem_data]
   have HBAD:=U (show CO j (s[j]'hlt)=false→r=5 from fun h => HR.o.symm.trans (GJ hk1 (by rw[hel];exact h)));have HOK:=U (show CO j (s[j]'hlt)=true→Ex s.data.toList (j+1)from fun h => JN HS.o hk1 (by rw[hel];exact h));clear hk1 hel;refine LY j (s[j]'hlt) ?_ ?_ ?_ ?_ ?_ ?_ ?_ ?_ ?_;case refine_1 =>
    intro a1 a2 a3 a4 a5 a6 hsg;have HOK2:=U (HOK.o hsg);clear hsg;go_wp2_with fail
    go_roundw
    case rel => exact⟨j+1,by omega,by go_num,HOK2.o,HB.o⟩
    case measure => simp[intOf];omega
   case refine_7 =>
    intro a1 a2 a3 a4 a5 a6 a7 a8 hsg;have HOK2:=U (HOK.o hsg);clear hsg;go_wp2_with fail
    go_roundw
    case rel => exact⟨j+1,by omega,by go_num,HOK2.o,HB.o⟩
    case measure => simp[intOf];omega
   all_goals
    intros
    have e1:=HBAD.o (by assumption);subst e1;clear HBAD HOK;go_wp2_with fail
    go_ret
    exact⟨rfl,HB.o⟩
  ·obtain rfl:j=s.size:=by omega
   have hall:=HS.o;rw[← HSZ.o]at hall;by_cases q:Ap (s.size:Int) 1 8=true
   ·have e1:r=0:=by
     have h18:=BI q;rw[← HR.o];exact JI hall (by rw[HSZ.o];omega) (by rw[HSZ.o];omega)
    subst e1;have HI:=U (Bz (s.size:Int) 1 8);rw[q]at HI;clear q hall;go_wp2_with (go_at_call 100;refine(HI.o _).mono ?_;rintro e w' ⟨rfl,rfl⟩)
    go_ret
    exact⟨rfl,HB.o⟩
   ·have q2:Ap (s.size:Int) 1 8=false:=by simpa using q
    have e1:r=5:=by
     rw[← HR.o];refine GK ?_;rw[HSZ.o];by_cases h1:(1:Int)≤(s.size:Int)
     ·by_cases h2:(s.size:Int)≤8
      ·exact absurd (Fo h1 h2) q
      ·omega
     ·omega
    subst e1;have HI:=U (Bz (s.size:Int) 1 8);rw[q2]at HI;clear q q2 hall;go_wp2_with (go_at_call 100;refine(HI.o _).mono ?_;rintro e w' ⟨rfl,rfl⟩)
    go_ret
    exact⟨rfl,HB.o⟩
theorem KU(s:ByteArray)(w:World)(hs:s.size≤9223372036854775807) :
  Calls prog 69 #[.string s] w fun e w' => e= .returned (int i64 (BQ s.data.toList))∧Below w.heap.size w w':=by
 have hsz:s.data.toList.length=s.size:=by simp
 have HSZ:=U hsz;obtain⟨r,hr⟩:∃r,BQ s.data.toList=r:=⟨_,rfl⟩;rw[hr];have HR:=U hr;clear hsz hr;by_cases q1:1≤s.size
 ·by_cases q2:s.size≤8
  ·have h0:0<s.size:=q1;have hk1:0<s.data.toList.length:=by rw[HSZ.o];exact h0
   have hel:s.data.toList[0] =s[0]'h0:=by simp[ByteArray.getElem_eq_getElem_data]
   have HBAD0:=U (show CO 0 (s[0]'h0)=false→r=5 from fun h => HR.o.symm.trans (GJ hk1 (by rw[hel];exact h)));have b1:¬(s.size:Int)<1:=by omega
   have b2:¬(8:Int)<(s.size:Int):=by omega
   have b3:(0:Int)<(s.size:Int):=by omega
   clear hk1 hel;have hq:((97:Int)≤((s[0]'h0).toNat:Int)∧((s[0]'h0).toNat:Int)≤122)∨(((s[0]'h0).toNat:Int)<97)∨(¬((s[0]'h0).toNat:Int)<97∧(122:Int)<((s[0]'h0).toNat:Int)):=by omega
   rcases hq with⟨a1,a2⟩|a1|⟨a1,a2⟩
   ·have a3:¬((s[0]'h0).toNat:Int)<97:=by omega
    have a4:¬(122:Int)<((s[0]'h0).toNat:Int):=by omega
    clear HBAD0;have HT0:=U (show CO 0 (s[0]'h0)=true from by unfold CO letB;simp;omega);go_enter func69,ntmps69
    go_wp2_with fail
    clear a1 a2 a3 a4 b1 b2 b3;go_loopw [3] (fun i wr =>∃j:Nat,j≤s.size∧i= int i64 j∧Hid (Ex s.data.toList j)∧Hid (Below w.heap.size w wr)) (fun i _ => s.size - (intOf i).toNat)
    case atStart => exact⟨0,by omega,rfl,JO _,aB _ _⟩
    case round =>
     obtain⟨j,hj,rfl,HS,HB⟩:=hrel;by_cases hlt:j<s.size
     ·have hki:(j:Int)<(s.size:Int):=by omega
      have hk1:j<s.data.toList.length:=by rw[HSZ.o];exact hlt
      have hel:s.data.toList[j] =s[j]'hlt:=by simp[ByteArray.getElem_eq_getElem_data]
      have HBAD:=U (show CO j (s[j]'hlt)=false→r=5 from fun h => HR.o.symm.trans (GJ hk1 (by rw[hel];exact h)));have HOK:=U (show CO j (s[j]'hlt)=true→Ex s.data.toList (j+1)from fun h => JN HS.o hk1 (by rw[hel];exact h));clear hk1 hel;refine LY j (s[j]'hlt) ?_ ?_ ?_ ?_ ?_ ?_ ?_ ?_ ?_;case refine_1 =>
       intro a1 a2 a3 a4 a5 a6 hsg;have HOK2:=U (HOK.o hsg);clear hsg;go_wp2_with fail
       go_roundw
       case rel => exact⟨j+1,by omega,by go_num,HOK2.o,HB.o⟩
       case measure => simp[intOf];omega
      case refine_7 =>
       intro a1 a2 a3 a4 a5 a6 a7 a8 hsg;have HOK2:=U (HOK.o hsg);clear hsg;go_wp2_with fail
       go_roundw
       case rel => exact⟨j+1,by omega,by go_num,HOK2.o,HB.o⟩
       case measure => simp[intOf];omega
      case refine_6 =>
       intro a1 a2 a3 a4 a5 a6 a7 a8 hsg;have hj0:j=0:=by have:=beq_iff_eq.1 a7;omega
       subst hj0;exact absurd (HT0.o.symm.trans hsg) (by decide)
      all_goals
       intros
       have e1:=HBAD.o (by assumption);subst e1;clear HBAD HOK;go_wp2_with fail
       go_ret
       exact⟨rfl,HB.o⟩
     ·obtain rfl:j=s.size:=by omega
      have hall:=HS.o;rw[← HSZ.o]at hall;have e1:r=0:=by
       rw[← HR.o];exact JI hall (by rw[HSZ.o];omega) (by rw[HSZ.o];omega)
      subst e1;clear hall;go_wp2_with fail
      go_ret
      exact⟨rfl,HB.o⟩
   all_goals
    have e1:r=5:=HBAD0.o (by
     unfold CO letB;simp;omega)
    subst e1;clear HBAD0;go_enter func69,ntmps69
    go_wp2_with fail
    go_ret
    exact⟨rfl,aB _ _⟩
  ·have b1:¬(s.size:Int)<1:=by omega
   have b2:(8:Int)<(s.size:Int):=by omega
   have e1:r=5:=by rw[← HR.o];exact GK (by rw[HSZ.o];omega)
   subst e1;go_enter func69,ntmps69
   go_wp2_with fail
   go_ret
   exact⟨rfl,aB _ _⟩
 ·have b1:(s.size:Int)<1:=by omega
  have e1:r=5:=by rw[← HR.o];exact GK (by rw[HSZ.o];omega)
  subst e1;go_enter func69,ntmps69
  go_wp2_with fail
  go_ret
  exact⟨rfl,aB _ _⟩
theorem AU {P:Program} {f:FuncId} {args:Array Value} {w:World} {v:Value}(h:∀W,Below w.heap.size w W→Calls P f args W fun e w' => e= .returned v∧Below W.heap.size W w')(d:Nat)(os:Array Obj) :
  Calls P f args (grow (redrawn w d) os) fun e w'' => e= .returned v∧∃p:Regrown,w''=grow (redrawn w p.d) p.os:=Calls.regrown_of (h _ (aH w d os))
theorem BD {P:Program} {f:FuncId} {args:Array Value} {w:World} {v:Value}(h:∀W,Calls P f args W fun e w' => e= .returned v∧W=w')(d:Nat)(os:Array Obj) :
  Calls P f args (grow (redrawn w d) os) fun e w'' => e= .returned v∧∃p:Regrown,w''=grow (redrawn w p.d) p.os:=Calls.regrown_of ((h _).mono (by rintro e w' ⟨rfl,rfl⟩;exact⟨rfl,aB _ _⟩))
theorem JJ {l:List Int} {x:Int} {k:Nat}(h:x∉l.take k)(hk:k<l.length)(hx:¬l[k] =x):x∉l.take (k+1):=by
 rw[aM hk];intro hm;rcases List.mem_append.1 hm with h1|h1
 ·exact h h1
 ·exact hx (List.mem_singleton.1 h1).symm
theorem mem_at {l:List Int} {x:Int} {k:Nat}(hk:k<l.length)(hx:l[k] =x):x∈l:=hx ▸ aN hk
theorem Ek {a b:Int}(h:a=b):(a == b)=true:=by simpa using h
theorem Dp {a b:Int}(h:¬a=b):(a == b)=false:=by simpa using h
theorem NU(v:Value)(ls:List Int)(x:Int)(f:List Addr)(w:World)(h:AO w f v ls) :
  Calls prog 244 #[v,int i64 x] w fun e w' =>∃r:Int,e= .returned (int i64 r)∧decide (0≤r)=decide (x∈ls)∧Below w.heap.size w w':=by
 obtain⟨A,c,rfl,hc,hm,hx⟩:=AO.open_ h;have HX:=U hx;clear h hx;go_enter func244,ntmps244
 go_wp2_with fail
 go_loopw [8,5] (fun i _ wr =>∃k:Nat,k≤ls.length∧i= int i64 k∧Hid (x∉ls.take k)∧Hid (Below w.heap.size w wr)) (fun i _ _ => ls.length - (intOf i).toNat)
 case atStart => exact⟨0,by omega,rfl,(show x∉ls.take 0 by simp),aB _ _⟩
 case round =>
  obtain⟨k,hk,rfl,HS,HB⟩:=hrel;by_cases hlt:k<ls.length
  ·obtain⟨ad,e1,-,b1,p1,-⟩:=HX.o k hlt;subst e1;have p1':=(HB.o.cell (p:=ad.add k) b1).trans p1;have hki:(k:Int)<(ls.length:Int):=by omega
   by_cases q:ls[k] =x
   ·have HM:=U (mem_at hlt q);have q1:(x == ls[k])=true:=Ek q.symm;rw[q]at p1' q1;clear q p1;go_wp2_with fail
    go_ret
    exact⟨k,rfl,by rw[aK HM.o];simp,HB.o⟩
   ·have HS2:=U (JJ HS.o hlt q);have q1:(x == ls[k])=false:=Dp (fun e => q e.symm);clear q p1;go_wp2_with fail
    go_roundw
    case rel => exact⟨k+1,by omega,by go_num,HS2.o,HB.o⟩
    case measure => simp[intOf];omega
  ·obtain rfl:k=ls.length:=by omega
   have HS2:=U HS.o;go_wp2_with fail
   go_ret
   refine⟨-1,rfl,?_,HB.o⟩;have:=HS2.o;rw[aV]at this;rw[aG this];rfl
theorem Hv(v:Value)(ls:List Int)(x:Int)(f:List Addr)(w:World)(h:AO w f v ls) :
  Calls prog 173 #[v,int i64 x] w fun e w' => e= .returned (.bool (decide (x∈ls)))∧Below w.heap.size w w':=by
 have HC:=U (NU v ls x f w h);obtain⟨A,c,rfl,hc,hm,hx⟩:=AO.open_ h;obtain⟨r,hr⟩:∃r,decide (x∈ls)=r:=⟨_,rfl⟩;rw[hr]at HC⊢;clear h hx hr;go_enter func173,ntmps173
 go_wp2_with (go_at_call 244;refine HC.o.mono ?_;rintro e w2 ⟨q,rfl,hq,hb⟩)
 go_ret
 exact⟨by rw[← hq];rfl,hb⟩
theorem l1Has_c(v:Value)(ls:List Int)(x:Int)(f:List Addr)(w:World)(h:AO w f v ls) :
  Calls prog 146 #[v,int i64 x] w fun e w' => e= .returned (.bool (decide (x∈ls)))∧Below w.heap.size w w':=by
 obtain⟨A,c,rfl,hc,hm,hx⟩:=AO.open_ h;have HX:=U hx;obtain⟨r,hr⟩:∃r,decide (x∈ls)=r:=⟨_,rfl⟩;rw[hr];have HR:=U hr;clear h hx hr;go_enter func146,ntmps146
 go_wp2_with fail
 go_loopw [5] (fun i wr =>∃k:Nat,k≤ls.length∧i= int i64 k∧Hid (x∉ls.take k)∧Hid (Below w.heap.size w wr)) (fun i _ => ls.length - (intOf i).toNat)
 case atStart => exact⟨0,by omega,rfl,(show x∉ls.take 0 by simp),aB _ _⟩
 case round =>
  obtain⟨k,hk,rfl,HS,HB⟩:=hrel;by_cases hlt:k<ls.length
  ·obtain⟨ad,e1,-,b1,p1,-⟩:=HX.o k hlt;subst e1;have p1':=(HB.o.cell (p:=ad.add k) b1).trans p1;have hki:(k:Int)<(ls.length:Int):=by omega
   by_cases q:ls[k] =x
   ·have e1:r=true:=by rw[← HR.o];exact aK (mem_at hlt q)
    subst e1;have q1:(ls[k] == x)=true:=Ek q;rw[q]at p1' q1;clear q p1;go_wp2_with fail
    go_ret
    exact⟨rfl,HB.o⟩
   ·have HS2:=U (JJ HS.o hlt q);have q1:(ls[k] == x)=false:=Dp q;clear q p1;go_wp2_with fail
    go_roundw
    case rel => exact⟨k+1,by omega,by go_num,HS2.o,HB.o⟩
    case measure => simp[intOf];omega
  ·obtain rfl:k=ls.length:=by omega
   have e1:r=false:=by
    have:=HS.o;rw[aV]at this;rw[← HR.o];exact aG this
   subst e1;go_wp2_with fail
   go_ret
   exact⟨rfl,HB.o⟩
theorem I8(v:Value)(ls:List Int)(hi:Int)(f:List Addr)(w:World)(h:AO w f v ls) :
  Calls prog 84 #[v,int i64 hi] w fun e w' => e= .returned (.bool (DD ls hi))∧Below w.heap.size w w':=by
 obtain⟨A,c,rfl,hc,hm,hx⟩:=AO.open_ h;have HX:=U hx;have HH:=U h;obtain⟨r,hr⟩:∃r,DD ls hi=r:=⟨_,rfl⟩;rw[hr];have HR:=U hr;obtain⟨n,hn⟩:∃n,ls.length=n:=⟨_,rfl⟩;rw[hn]at HH hc⊢;have HN:=U hn;clear h hx hr hn;go_enter func84,ntmps84
 go_wp2_with fail
 go_loopw [5] (fun i wr =>∃k:Nat,k≤n∧i= int i64 k∧Hid (C4 ls hi k)∧Hid (Below w.heap.size w wr)) (fun i _ => n - (intOf i).toNat)
 case atStart => exact⟨0,by omega,rfl,Ha _ _,aB _ _⟩
 case round =>
  obtain⟨k,hk,rfl,HS,HB⟩:=hrel;by_cases hlt:k<n
  ·have hk1:k<ls.length:=by rw[HN.o];exact hlt
   obtain⟨ad,e1,-,b1,p1,-⟩:=HX.o k hk1;subst e1;have p1':=(HB.o.cell (p:=ad.add k) b1).trans p1;have hki:(k:Int)<(n:Int):=by omega
   have hki2:(k:Int)≤(n:Int):=by omega
   have hki3:(k:Int)≤(c:Int):=by omega
   have hkc:k≤c:=by omega
   obtain⟨x,hx⟩:∃x,ls[k] =x:=⟨_,rfl⟩;rw[hx]at p1';obtain⟨q1,q2,hp,-,-⟩:=rSl.split (j:=k) HH.o (by omega);have HHAS:=U (fun(W:World) (hW:Below wr.heap.size wr W) => l1Has_c _ (ls.take k) x q1 W (rSl.below Az.local_ Az.fixed hp (HB.o.trans (hW.mono HB.o.size))));have HIN:=U (fun(W:World) => BT x 0 hi W);have p1q:=aA p1';cases hin:Ap x 0 hi with
   |true =>
    rw[hin]at HIN;have QIN:=U (BD (w:=wr) HIN.o);cases hme:decide (x∈ls.take k)with
    |false =>
     rw[hme]at HHAS;have QHAS:=U (AU (w:=wr) HHAS.o);have HS2:=U (G7 HS.o hk1 (by rw[hx];exact hin) (by rw[hx];exact of_decide_eq_false hme));clear hx p1 b1 hp hin hme hk1 HIN HHAS;go_wp2_with fail
     (refine aF (by kernel_rfl) (by kernel_rfl) ?_;(repeat(first|go_big_quiet_step (first|exact QIN.o _ _|exact QHAS.o _ _)|quiet_step (first|exact QIN.o _ _|exact QHAS.o _ _)));refine aP ?_)
     rintro _ ⟨⟨dq,osq⟩,rfl⟩;have HB1:=U (HB.o.trans ((aH wr dq osq).mono HB.o.size));go_wp2_with fail
     go_roundw
     case rel => exact⟨k+1,by omega,by go_num,HS2.o,HB1.o⟩
     case measure => simp[intOf];omega
    |true =>
     rw[hme]at HHAS;have QHAS:=U (AU (w:=wr) HHAS.o);have e1:r=false:=by rw[← HR.o];exact Ia hk1 (.inr (by rw[hx];exact bO hme))
     subst e1;clear hx p1 b1 hp hin hme hk1 HIN HHAS;go_wp2_with fail
     (refine aF (by kernel_rfl) (by kernel_rfl) ?_;(repeat(first|go_big_quiet_step (first|exact QIN.o _ _|exact QHAS.o _ _)|quiet_step (first|exact QIN.o _ _|exact QHAS.o _ _)));refine aP ?_)
     rintro _ ⟨⟨dq,osq⟩,rfl⟩;have HB1:=U (HB.o.trans ((aH wr dq osq).mono HB.o.size));go_wp2_with fail
     go_ret
     exact⟨rfl,HB1.o⟩
   |false =>
    rw[hin]at HIN;have QIN:=U (BD (w:=wr) HIN.o);have e1:r=false:=by rw[← HR.o];exact Ia hk1 (.inl (by rw[hx];exact hin))
    subst e1;clear hx p1 b1 hp hin hk1 HIN HHAS;go_wp2_with fail
    (refine aF (by kernel_rfl) (by kernel_rfl) ?_;(repeat(first|go_big_quiet_step (first|exact QIN.o _ _)|quiet_step (first|exact QIN.o _ _)));refine aP ?_)
    rintro _ ⟨⟨dq,osq⟩,rfl⟩;have HB1:=U (HB.o.trans ((aH wr dq osq).mono HB.o.size));go_wp2_with fail
    go_ret
    exact⟨rfl,HB1.o⟩
  ·obtain rfl:k=n:=by omega
   have e1:r=true:=by
    rw[← HR.o];exact Mz (by rw[HN.o];exact HS.o)
   subst e1;go_wp2_with fail
   go_ret
   exact⟨rfl,HB.o⟩
theorem Ho(s:Sh)(h:s.Ok)(w:World) :
  Calls prog 249 #[shV s] w fun e w' => e= .returned (int i64 (s.data * 4))∧Below w.heap.size w w':=by
 obtain⟨a1,a2⟩:=h.data;unfold shV;go_enter func249,ntmps249
 go_wp2_with fail
 go_ret
 exact⟨rfl,(aB _ _).alloc (aC _) _⟩
theorem Iq(s:Sh)(h:s.Ok)(w:World) :
  Calls prog 148 #[shV s] w fun e w' => e= .returned (int i64 (s.data * 4))∧Below w.heap.size w w':=by
 obtain⟨a1,a2⟩:=h.data;unfold shV;go_enter func148,ntmps148
 go_wp2_with fail
 go_ret
 exact⟨rfl,(aB _ _).alloc (aC _) _⟩
def CK(s:Sh)(n:Int):Int:=if n<1 then 6 else if 12 * s.data<n then 2 else 0
theorem IF {s:Sh} {n:Int}:CK s n=0↔DG s n=true:=by
 unfold CK DG;rw[decide_eq_true_iff];split
 ·constructor
  ·intro h;cases h
  ·intro h;omega
 ·split
  ·constructor
   ·intro h;cases h
   ·intro h;omega
  ·constructor
   ·intro _;omega
   ·intro _;rfl
theorem l4Long_c(s:Sh)(h:s.Ok)(n:Int)(w:World) :
  Calls prog 234 #[shV s,int i64 n] w fun e w' => e= .returned (int i64 (CK s n))∧Below w.heap.size w w':=by
 obtain⟨a1,a2⟩:=h.data;have HC:=U (fun W => Iq s h W);have HK:=U (Blk.rangeAll (cs:=[int i64 s.g,int i64 s.c,int i64 s.data,int i64 s.p,int i64 s.rows,int i64 s.cap,int i64 s.b,int i64 s.q,int i64 s.t]) (Blk.new w 31 #[int i64 s.g,int i64 s.c,int i64 s.data,int i64 s.p,int i64 s.rows,int i64 s.cap,int i64 s.b,int i64 s.q,int i64 s.t]));have HB1:=U ((aB w.heap.size w).alloc (aC _) (.cells #[int i64 s.g,int i64 s.c,int i64 s.data,int i64 s.p,int i64 s.rows,int i64 s.cap,int i64 s.b,int i64 s.q,int i64 s.t] 31));unfold shV at HC⊢;unfold CK;by_cases q1:n<1
 ·rw[aL q1];go_enter func234,ntmps234
  go_wp2_with fail
  go_ret
  exact⟨rfl,HB1.o⟩
 ·rw[aI q1];by_cases q2:12 * s.data<n
  ·rw[aL q2];have q3:3 * (s.data * 4)<n:=by omega
   have e1:IntKind.i64.wrap (3 * (s.data * 4))=3 * (s.data * 4):=IntWalk.i64_in _ (by omega);clear q2;go_enter func234,ntmps234
   go_wp2_with (first
    |(refine aD rfl 31 _ rfl w.heap.size 0 rfl _ _ HK.o underlying31 rfl (by kernel_rfl) ?_)
    |(go_at_call 148;refine(HC.o _).mono ?_;rintro e w1 ⟨rfl,hb1⟩;have B1:=U hb1;clear hb1))
   go_ret
   exact⟨rfl,HB1.o.trans (B1.o.mono (by simp))⟩
  ·rw[aI q2];have q3:¬3 * (s.data * 4)<n:=by omega
   have e1:IntKind.i64.wrap (3 * (s.data * 4))=3 * (s.data * 4):=IntWalk.i64_in _ (by omega);clear q2;go_enter func234,ntmps234
   go_wp2_with (first
    |(refine aD rfl 31 _ rfl w.heap.size 0 rfl _ _ HK.o underlying31 rfl (by kernel_rfl) ?_)
    |(go_at_call 148;refine(HC.o _).mono ?_;rintro e w1 ⟨rfl,hb1⟩;have B1:=U hb1;clear hb1))
   go_ret
   exact⟨rfl,HB1.o.trans (B1.o.mono (by simp))⟩
theorem Px {s:Sh}(h:s.Ok) {n:Int}(h1:1≤n):(n+s.data * 4 - 1).tdiv (s.data * 4)=CT s n:=by
 obtain⟨a1,a2⟩:=h.data;rw[Int.tdiv_eq_ediv_of_nonneg (by omega),show n+s.data * 4 - 1=(n - 1)+1 * (s.data * 4) by omega,Int.add_mul_ediv_right _ _ (by omega),Int.mul_comm s.data 4];rfl
theorem Py {s:Sh}(h:s.Ok) {n:Int}(h1:1≤n):(n - 1).tdiv (s.data * 4)+1=CT s n:=by
 obtain⟨a1,a2⟩:=h.data;rw[Int.tdiv_eq_ediv_of_nonneg (by omega),Int.mul_comm s.data 4];rfl
theorem LZ {s:Sh}(h:s.Ok) {n:Int}(h1:1≤n):1≤CT s n∧CT s n≤n:=by
 obtain⟨a1,a2⟩:=h.data;unfold CT;have h2:0≤(n - 1) / (4 * s.data):=Int.ediv_nonneg (by omega) (by omega);have h3:(n - 1) / (4 * s.data)≤n - 1:=Int.ediv_le_self _ (by omega);omega
theorem QK(s:Sh)(h:s.Ok)(n:Int)(h1:1≤n)(h2:n≤1000000000)(w:World) :
  Calls prog 200 #[shV s,int i64 n] w fun e w' => e= .returned (int i64 (CT s n))∧Below w.heap.size w w':=by
 obtain⟨a1,a2⟩:=h.data;obtain⟨g1,g2⟩:=LZ h h1;have hq:=Px h h1;have K:=Blk.new w 31 #[int i64 s.g,int i64 s.c,int i64 s.data,int i64 s.p,int i64 s.rows,int i64 s.cap,int i64 s.b,int i64 s.q,int i64 s.t];have HB1:=U ((aB w.heap.size w).alloc (aC _) (.cells #[int i64 s.g,int i64 s.c,int i64 s.data,int i64 s.p,int i64 s.rows,int i64 s.cap,int i64 s.b,int i64 s.q,int i64 s.t] 31));obtain⟨W1,hW1⟩:∃W1,w.alloc (.cells #[int i64 s.g,int i64 s.c,int i64 s.data,int i64 s.p,int i64 s.rows,int i64 s.cap,int i64 s.b,int i64 s.q,int i64 s.t] 31)=W1:=⟨_,rfl⟩;rw[hW1]at K HB1;have c0:=aA ((K.cell 0).trans rfl);have c1:=aA ((K.cell 1).trans rfl);have c2:=aA ((K.cell 2).trans rfl);have c3:=aA ((K.cell 3).trans rfl);have c4:=aA ((K.cell 4).trans rfl);have c5:=aA ((K.cell 5).trans rfl);have c6:=aA ((K.cell 6).trans rfl);have c7:=aA ((K.cell 7).trans rfl);have c8:=aA ((K.cell 8).trans rfl);have QC:=U (AU (w:=W1) (fun W _ => Iq s h W));unfold shV at QC⊢;have e1:IntKind.i64.wrap (n+s.data * 4)=n+s.data * 4:=IntWalk.i64_in _ (by omega);have e2:IntKind.i64.wrap (n+s.data * 4 - 1)=n+s.data * 4 - 1:=IntWalk.i64_in _ (by omega);have e3:(s.data * 4 == 0)=false:=by rw[beq_eq_false_iff_ne];omega
 have e4:¬s.data * 4=0:=by omega
 have e5:IntKind.i64.wrap ((n+s.data * 4 - 1).tdiv (s.data * 4))=CT s n:=by rw[hq];exact IntWalk.i64_in _ (by omega)
 clear K hq g1 g2;go_enter func200,ntmps200
 go_wp2_with fail
 try rw[hW1]
 clear hW1
 (refine aF (by kernel_rfl) (by kernel_rfl) ?_;(repeat(first|go_big_quiet_step (first|exact QC.o _ _)|quiet_step (first|exact QC.o _ _)));refine aP ?_)
 rintro _ ⟨⟨dq,osq⟩,rfl⟩;have HB2:=U (HB1.o.trans ((aH W1 dq osq).mono HB1.o.size));go_wp2_with fail
 go_ret
 exact⟨rfl,HB2.o⟩
theorem parts_c(s:Sh)(h:s.Ok)(n:Int)(hn:okI n)(w:World) :
  Calls prog 225 #[shV s,int i64 n] w fun e w' => e= .returned (.tuple #[int i64 (if CK s n=0 then CT s n else 0),int i64 (CK s n)])∧Below w.heap.size w w':=by
 obtain⟨a1,a2⟩:=h.data;have hok:okI n:=hn;have hn1:=hok.1;have hn2:=hok.2;have HC:=U (fun W => Ho s h W);have HK:=U (Blk.rangeAll (cs:=[int i64 s.g,int i64 s.c,int i64 s.data,int i64 s.p,int i64 s.rows,int i64 s.cap,int i64 s.b,int i64 s.q,int i64 s.t]) (Blk.new w 31 #[int i64 s.g,int i64 s.c,int i64 s.data,int i64 s.p,int i64 s.rows,int i64 s.cap,int i64 s.b,int i64 s.q,int i64 s.t]));have HB1:=U ((aB w.heap.size w).alloc (aC _) (.cells #[int i64 s.g,int i64 s.c,int i64 s.data,int i64 s.p,int i64 s.rows,int i64 s.cap,int i64 s.b,int i64 s.q,int i64 s.t] 31));unfold shV at HC⊢;by_cases q1:n<1
 ·have e1:CK s n=6:=by unfold CK;rw[aL q1]
  rw[e1,aI (by omega)];clear hok hn;go_enter func225,ntmps225
  go_wp2_with fail
  go_ret2
  exact⟨rfl,HB1.o⟩
 ·obtain⟨g1,g2⟩:=LZ h (show 1≤n by omega);have hq:=Py h (show 1≤n by omega);have hle:=Jg h (show 1≤n by omega);obtain⟨t,ht⟩:∃t,(n - 1).tdiv (s.data * 4)=t:=⟨_,rfl⟩;rw[ht]at hq;obtain⟨N,hN⟩:∃N,CT s n=N:=⟨_,rfl⟩;rw[hN]at hq g1 g2 hle;have e0:IntKind.i64.wrap (n - 1)=n - 1:=IntWalk.i64_in _ (by omega);have e2:IntKind.i64.wrap ((n - 1).tdiv (s.data * 4))=t:=by rw[ht];exact IntWalk.i64_in _ (by omega)
  have e3:(s.data * 4 == 0)=false:=by rw[beq_eq_false_iff_ne];omega
  have e4:¬s.data * 4=0:=by omega
  have e5:IntKind.i64.wrap (t+1)=N:=by rw[hq];exact IntWalk.i64_in _ (by omega)
  by_cases q2:12 * s.data<n
  ·have e1:CK s n=2:=by unfold CK;rw[aI q1,aL q2]
   have q3:3<N:=by by_cases c:N≤3;exact absurd (hle.1 c) (by omega);omega
   rw[e1,aI (by omega)];clear hok hn hle ht hN hq q2 e1;go_enter func225,ntmps225
   go_wp2_with (first
    |(refine aD rfl 31 _ rfl w.heap.size 0 rfl _ _ HK.o underlying31 rfl (by kernel_rfl) ?_)
    |(go_at_call 249;refine(HC.o _).mono ?_;rintro e w1 ⟨rfl,hb1⟩;have B1:=U hb1;clear hb1))
   go_ret2
   exact⟨rfl,HB1.o.trans (B1.o.mono (by simp))⟩
  ·have e1:CK s n=0:=by unfold CK;rw[aI q1,aI q2]
   have q3:¬3<N:=by have:=hle.2 (by omega);omega
   rw[e1,aL rfl,hN];clear hok hn hle ht hN hq q2 e1;go_enter func225,ntmps225
   go_wp2_with (first
    |(refine aD rfl 31 _ rfl w.heap.size 0 rfl _ _ HK.o underlying31 rfl (by kernel_rfl) ?_)
    |(go_at_call 249;refine(HC.o _).mono ?_;rintro e w1 ⟨rfl,hb1⟩;have B1:=U hb1;clear hb1))
   go_ret2
   exact⟨rfl,HB1.o.trans (B1.o.mono (by simp))⟩
structure DK (W:World) (p:Nat) (s:Sh):Prop where
 rng:W.rangeAt p 0 [int i64 s.g,int i64 s.c,int i64 s.data,int i64 s.p,int i64 s.rows,int i64 s.cap,int i64 s.b,int i64 s.q,int i64 s.t]
 c0:W.cell? ⟨p,0,none⟩=some (int i64 s.g)
 c1:W.cell? ⟨p,1,none⟩=some (int i64 s.c)
 c2:W.cell? ⟨p,2,none⟩=some (int i64 s.data)
 c3:W.cell? ⟨p,3,none⟩=some (int i64 s.p)
 c4:W.cell? ⟨p,4,none⟩=some (int i64 s.rows)
 c5:W.cell? ⟨p,5,none⟩=some (int i64 s.cap)
 c6:W.cell? ⟨p,6,none⟩=some (int i64 s.b)
 c7:W.cell? ⟨p,7,none⟩=some (int i64 s.q)
 c8:W.cell? ⟨p,8,none⟩=some (int i64 s.t)
 lt:p<W.heap.size
theorem DK.of {W:World} {p:Nat} {t:TypeId} {s:Sh}(K:Blk W p t #[int i64 s.g,int i64 s.c,int i64 s.data,int i64 s.p,int i64 s.rows,int i64 s.cap,int i64 s.b,int i64 s.q,int i64 s.t]):DK W p s :=
 ⟨Blk.rangeAll K,(K.cell 0).trans rfl,(K.cell 1).trans rfl,(K.cell 2).trans rfl,(K.cell 3).trans rfl,(K.cell 4).trans rfl,(K.cell 5).trans rfl,(K.cell 6).trans rfl,(K.cell 7).trans rfl,(K.cell 8).trans rfl,K.lt⟩
theorem DK.below {W W':World} {p:Nat} {s:Sh}(h:DK W p s)(hb:Below W.heap.size W W'):DK W' p s :=
 ⟨fun j v hj =>(hb.cell (p:=⟨p,0+j,none⟩) h.lt).trans (h.rng j v hj),(hb.cell (p:=⟨p,0,none⟩) h.lt).trans h.c0,(hb.cell (p:=⟨p,1,none⟩) h.lt).trans h.c1,(hb.cell (p:=⟨p,2,none⟩) h.lt).trans h.c2,(hb.cell (p:=⟨p,3,none⟩) h.lt).trans h.c3,(hb.cell (p:=⟨p,4,none⟩) h.lt).trans h.c4,(hb.cell (p:=⟨p,5,none⟩) h.lt).trans h.c5,(hb.cell (p:=⟨p,6,none⟩) h.lt).trans h.c6,(hb.cell (p:=⟨p,7,none⟩) h.lt).trans h.c7,(hb.cell (p:=⟨p,8,none⟩) h.lt).trans h.c8,aE h.lt hb.size⟩
structure Dg (W:World) (p:Nat) (x:Ah) (v0 v1 v2:Value):Prop where
 rng:W.rangeAt p 0 [int i64 x.kind,int i64 x.seq,.string x.name,int i64 x.length,int i64 x.group,int i64 x.row,v0,v1,v2]
 c0:W.cell? ⟨p,0,none⟩=some (int i64 x.kind)
 c1:W.cell? ⟨p,1,none⟩=some (int i64 x.seq)
 c2:W.cell? ⟨p,2,none⟩=some (.string x.name)
 c3:W.cell? ⟨p,3,none⟩=some (int i64 x.length)
 c4:W.cell? ⟨p,4,none⟩=some (int i64 x.group)
 c5:W.cell? ⟨p,5,none⟩=some (int i64 x.row)
 c6:W.cell? ⟨p,6,none⟩=some v0
 c7:W.cell? ⟨p,7,none⟩=some v1
 c8:W.cell? ⟨p,8,none⟩=some v2
 lt:p<W.heap.size
theorem Dg.of {W:World} {p:Nat} {t:TypeId} {x:Ah} {v0 v1 v2:Value}(K:Blk W p t #[int i64 x.kind,int i64 x.seq,.string x.name,int i64 x.length,int i64 x.group,int i64 x.row,v0,v1,v2]):Dg W p x v0 v1 v2 :=
 ⟨Blk.rangeAll K,(K.cell 0).trans rfl,(K.cell 1).trans rfl,(K.cell 2).trans rfl,(K.cell 3).trans rfl,(K.cell 4).trans rfl,(K.cell 5).trans rfl,(K.cell 6).trans rfl,(K.cell 7).trans rfl,(K.cell 8).trans rfl,K.lt⟩
theorem Dg.below {W W':World} {p:Nat} {x:Ah} {v0 v1 v2:Value}(h:Dg W p x v0 v1 v2)(hb:Below W.heap.size W W'):Dg W' p x v0 v1 v2 :=
 ⟨fun j v hj =>(hb.cell (p:=⟨p,0+j,none⟩) h.lt).trans (h.rng j v hj),(hb.cell (p:=⟨p,0,none⟩) h.lt).trans h.c0,(hb.cell (p:=⟨p,1,none⟩) h.lt).trans h.c1,(hb.cell (p:=⟨p,2,none⟩) h.lt).trans h.c2,(hb.cell (p:=⟨p,3,none⟩) h.lt).trans h.c3,(hb.cell (p:=⟨p,4,none⟩) h.lt).trans h.c4,(hb.cell (p:=⟨p,5,none⟩) h.lt).trans h.c5,(hb.cell (p:=⟨p,6,none⟩) h.lt).trans h.c6,(hb.cell (p:=⟨p,7,none⟩) h.lt).trans h.c7,(hb.cell (p:=⟨p,8,none⟩) h.lt).trans h.c8,aE h.lt hb.size⟩
theorem C3(A:Option Addr)(n c:Nat)(w:World):Calls prog 248 #[.slice A n c] w fun e w' => e= .returned (int i64 (n:Int))∧w=w':=by
 go_enter func248,ntmps248
 go_wp2_with fail
 go_ret
 exact⟨rfl,rfl⟩
theorem LP(s:Sh)(r:Ah)(hp:DG s r.length=true)(hl:¬r.length= -1)(P:Prop)
  (hA:r.data.length=0→(r.rows.length:Int)=CT s r.length→Ch s r=DD r.rows (s.rows - 1)→P)
  (hB:r.data.length=0→¬(r.rows.length:Int)=CT s r.length→Ch s r=false→P)
  (hC:¬r.data.length=0→(r.data.length:Int)=r.length→r.rows.length=0→Ch s r=true→P)
  (hD:¬r.data.length=0→(r.data.length:Int)=r.length→¬r.rows.length=0→Ch s r=false→P)
  (hE:¬r.data.length=0→¬(r.data.length:Int)=r.length→Ch s r=false→P):P:=by
 unfold Ch at hA hB hC hD hE;rw[aI hl,hp,Bool.true_and]at hA hB hC hD hE;by_cases z:r.data.length=0
 ·rw[aI (by omega)]at hA hB;by_cases y:(r.rows.length:Int)=CT s r.length
  ·exact hA z y (by rw[aK y];rfl)
  ·exact hB z y (by rw[aG y];rfl)
 ·rw[aL (by omega)]at hC hD hE;by_cases d:(r.data.length:Int)=r.length
  ·by_cases e:r.rows.length=0
   ·exact hC z d e (by rw[aK d,aK e];rfl)
   ·exact hD z d e (by rw[aK d,aG e];rfl)
  ·exact hE z d (by rw[aG d];rfl)
theorem Hu {n:Nat}(h:n=0):((n:Int) == 0)=true:=by rw[h];rfl
theorem ES {n:Nat}(h:¬n=0):((n:Int) == 0)=false:=by rw[beq_eq_false_iff_ne];omega
theorem l5Item_c(s:Sh)(hs:s.Ok)(x:Ah)(cs:List Value)(f:List Addr)(w:World)(h:Ac w f cs x) :
  Calls prog 147 #[shV s,.agg cs.toArray] w fun e w' => e= .returned (.bool (Ch s x))∧Below w.heap.size w w':=by
 dsimp only[Ac]at h;obtain⟨v0,v1,v2,f0,f1,f2,rfl,rfl,o0,o1,o2,o3,o4,o5,h0,h1,h2⟩:=h;obtain⟨A0,c0,rfl,k0,m0⟩:=rSl.head h0;obtain⟨A1,c1,rfl,k1,m1⟩:=rSl.head h1;obtain⟨A2,c2,rfl,k2,m2⟩:=rSl.head h2;have H0:=U h0;have H1:=U h1;have H2:=U h2;obtain⟨nR,hnR⟩:∃nR,x.rows.length=nR:=⟨_,rfl⟩;obtain⟨nD,hnD⟩:∃nD,x.data.length=nD:=⟨_,rfl⟩;obtain⟨nE,hnE⟩:∃nE,x.delta.length=nE:=⟨_,rfl⟩;have HNR:=U hnR;have HND:=U hnD;have HNE:=U hnE;rw[hnR]at H0 k0⊢;rw[hnD]at H1 k1⊢;rw[hnE]at H2 k2⊢;have K1:=(Blk.new w 31 #[int i64 s.g,int i64 s.c,int i64 s.data,int i64 s.p,int i64 s.rows,int i64 s.cap,int i64 s.b,int i64 s.q,int i64 s.t]).alloc (.cells #[int i64 x.kind,int i64 x.seq,.string x.name,int i64 x.length,int i64 x.group,int i64 x.row,.slice A0 nR c0,.slice A1 nD c1,.slice A2 nE c2] 119);have K2:=Blk.new1 w (.cells #[int i64 s.g,int i64 s.c,int i64 s.data,int i64 s.p,int i64 s.rows,int i64 s.cap,int i64 s.b,int i64 s.q,int i64 s.t] 31) 119 #[int i64 x.kind,int i64 x.seq,.string x.name,int i64 x.length,int i64 x.group,int i64 x.row,.slice A0 nR c0,.slice A1 nD c1,.slice A2 nE c2];have hB:Below w.heap.size w ((w.alloc (.cells #[int i64 s.g,int i64 s.c,int i64 s.data,int i64 s.p,int i64 s.rows,int i64 s.cap,int i64 s.b,int i64 s.q,int i64 s.t] 31)).alloc (.cells #[int i64 x.kind,int i64 x.seq,.string x.name,int i64 x.length,int i64 x.group,int i64 x.row,.slice A0 nR c0,.slice A1 nD c1,.slice A2 nE c2] 119)):=((aB _ _).alloc (aC _) _).alloc (by simp) _;have HB:=U hB;have S2:=DK.of K1;have R2:=Dg.of K2;have HS:=U S2;have HRC:=U R2;clear h0 h1 h2 hnR hnD hnE K1 K2 hB;have HIC:=U (LP s x);obtain⟨b,hb⟩:∃b,Ch s x=b:=⟨_,rfl⟩;rw[hb]at HIC⊢;have HBB:=U hb;have hlo:=HS.o.lt;have hlr:=HRC.o.lt;rw[HNR.o,HND.o]at HIC;unfold shV;by_cases q1:x.length= -1
 ·have hq:(x.length == -1)=true:=Ek q1;have hbv:(decide (nD=0) && decide (nR=0))=b:=by
   have:=HBB.o;unfold Ch at this;rw[aL q1,HND.o,HNR.o]at this;exact this
  clear hb;have go:∀b':Bool,b'=b→Calls prog 147 #[.agg #[int i64 s.g,int i64 s.c,int i64 s.data,int i64 s.p,int i64 s.rows,int i64 s.cap,int i64 s.b,int i64 s.q,int i64 s.t],.agg #[int i64 x.kind,int i64 x.seq,.string x.name,int i64 x.length,int i64 x.group,int i64 x.row,.slice A0 nR c0,.slice A1 nD c1,.slice A2 nE c2]] w (fun e w' => e= .returned (.bool b')∧Below w.heap.size w w')→Calls prog 147 #[.agg #[int i64 s.g,int i64 s.c,int i64 s.data,int i64 s.p,int i64 s.rows,int i64 s.cap,int i64 s.b,int i64 s.q,int i64 s.t],.agg #[int i64 x.kind,int i64 x.seq,.string x.name,int i64 x.length,int i64 x.group,int i64 x.row,.slice A0 nR c0,.slice A1 nD c1,.slice A2 nE c2]] w (fun e w' => e= .returned (.bool b)∧Below w.heap.size w w'):=fun b' e h => by rw[← e];exact h
  by_cases q2:nD=0
  ·have hq2:=Hu q2;by_cases q3:nR=0
   ·refine go true (by rw[← hbv,aK q2,aK q3];rfl) ?_;have hq3:=Hu q3;clear go hbv q2 q3 q1;go_enter func147,ntmps147
    go_wp2_with fail
    go_ret
    exact⟨rfl,HB.o⟩
   ·refine go false (by rw[← hbv,aK q2,aG q3];rfl) ?_;have hq3:=ES q3;clear go hbv q2 q3 q1;go_enter func147,ntmps147
    go_wp2_with fail
    go_ret
    exact⟨rfl,HB.o⟩
  ·have hq2:=ES q2;refine go false (by rw[← hbv,aG q2];rfl) ?_;clear go hbv q2 q1;go_enter func147,ntmps147
   go_wp2_with fail
   go_ret
   exact⟨rfl,HB.o⟩
 ·have hq:(x.length == -1)=false:=Dp q1;have HLC:=U (l4Long_c s hs x.length ((w.alloc (.cells #[int i64 s.g,int i64 s.c,int i64 s.data,int i64 s.p,int i64 s.rows,int i64 s.cap,int i64 s.b,int i64 s.q,int i64 s.t] 31)).alloc (.cells #[int i64 x.kind,int i64 x.seq,.string x.name,int i64 x.length,int i64 x.group,int i64 x.row,.slice A0 nR c0,.slice A1 nD c1,.slice A2 nE c2] 119)));have HPL:=U (IF (s:=s) (n:=x.length));obtain⟨lc,hlc⟩:∃lc,CK s x.length=lc:=⟨_,rfl⟩;rw[hlc]at HLC HPL;unfold shV at HLC;have r3:=HRC.o.c3;have r7:=HRC.o.c7;by_cases q2:lc=0
  ·have hp:DG s x.length=true:=HPL.o.1 q2;have hpb:1≤x.length∧x.length≤12 * s.data:=by unfold DG at hp;exact bO hp
   obtain⟨d1,d2⟩:=hs.data;obtain⟨e1,e2⟩:=hs.rows;have HIC2:=HIC.o hp q1;rw[q2]at HLC;have HPC:=U (fun(W:World) => QK s hs x.length hpb.1 (by omega) W);have HAC:=U (fun(W:World) (hW:Below w.heap.size w W) => I8 _ x.rows (s.rows - 1) f0 W (rSl.below Az.local_ Az.fixed H0.o hW));have ew:IntKind.i64.wrap (s.rows - 1)=s.rows - 1:=IntWalk.i64_in _ (by omega);obtain⟨pn,hpn⟩:∃pn,CT s x.length=pn:=⟨_,rfl⟩;rw[hpn]at HPC HIC2;unfold shV at HPC;clear q2 hp hpb d1 d2 e1 e2 hpn hlc hb hs;refine HIC2 _ ?_ ?_ ?_ ?_ ?_
   ·intro z y hbv;have y':((nR:Int) == pn)=true:=Ek y;have z1:¬(0:Int)<(nD:Int):=by omega
    have z2:¬0<nD:=by omega
    rw[← hbv]at HAC;clear HIC2 z y q1 hbv HBB;go_enter func147,ntmps147
    go_wp2_with (first
   |(refine aD rfl 31 _ rfl w.heap.size 0 rfl _ _ HS.o.rng underlying31 rfl (by kernel_rfl) ?_)
   |(go_at_call 234;refine HLC.o.mono ?_;rintro e w3 ⟨rfl,b3⟩;have S3:=HS.o.below b3;have R3:=HRC.o.below b3;have B3:=U (HB.o.trans (b3.mono HB.o.size));have x3:=R3.c3;have x6:=R3.c6;have x7:=R3.c7;have x3r:=aA x3;have x6r:=aA x6;have t0:=aA S3.c0;have t1:=aA S3.c1;have t2:=aA S3.c2;have t3:=aA S3.c3;have t4:=aA S3.c4;have t5:=aA S3.c5;have t6:=aA S3.c6;have t7:=aA S3.c7;have t8:=aA S3.c8;have y4:=S3.c4;have lr3:=R3.lt;have ls3:=S3.lt;have HS3:=U S3;clear b3 S3 R3))
    have QPC:=U (AU (w:=w3) (fun W _ => HPC.o W));have QAC:=U (AU (w:=w3) (fun W hW => HAC.o W (B3.o.trans (hW.mono B3.o.size))));clear HPC HAC
    (refine aF (by kernel_rfl) (by kernel_rfl) ?_;(repeat(first|go_big_quiet_step (first|exact QPC.o _ _|exact QAC.o _ _)|quiet_step (first|exact QPC.o _ _|exact QAC.o _ _)));refine aP ?_)
    rintro _ ⟨⟨dq,osq⟩,rfl⟩;have HB1:=U (B3.o.trans ((aH w3 dq osq).mono B3.o.size));go_wp2_with fail
    go_ret
    exact⟨rfl,HB1.o⟩
   ·intro z y hbv;have y':((nR:Int) == pn)=false:=Dp y;have z1:¬(0:Int)<(nD:Int):=by omega
    have z2:¬0<nD:=by omega
    subst hbv;clear HIC2 z y q1 HBB;go_enter func147,ntmps147
    go_wp2_with (first
   |(refine aD rfl 31 _ rfl w.heap.size 0 rfl _ _ HS.o.rng underlying31 rfl (by kernel_rfl) ?_)
   |(go_at_call 234;refine HLC.o.mono ?_;rintro e w3 ⟨rfl,b3⟩;have S3:=HS.o.below b3;have R3:=HRC.o.below b3;have B3:=U (HB.o.trans (b3.mono HB.o.size));have x3:=R3.c3;have x6:=R3.c6;have x7:=R3.c7;have x3r:=aA x3;have x6r:=aA x6;have t0:=aA S3.c0;have t1:=aA S3.c1;have t2:=aA S3.c2;have t3:=aA S3.c3;have t4:=aA S3.c4;have t5:=aA S3.c5;have t6:=aA S3.c6;have t7:=aA S3.c7;have t8:=aA S3.c8;have y4:=S3.c4;have lr3:=R3.lt;have ls3:=S3.lt;have HS3:=U S3;clear b3 S3 R3))
    have QPC:=U (AU (w:=w3) (fun W _ => HPC.o W));clear HPC HAC
    (refine aF (by kernel_rfl) (by kernel_rfl) ?_;(repeat(first|go_big_quiet_step (first|exact QPC.o _ _)|quiet_step (first|exact QPC.o _ _)));refine aP ?_)
    rintro _ ⟨⟨dq,osq⟩,rfl⟩;have HB1:=U (B3.o.trans ((aH w3 dq osq).mono B3.o.size));go_wp2_with fail
    go_ret
    exact⟨rfl,HB1.o⟩
   ·intro z y g hbv;have y':((nD:Int) == x.length)=true:=Ek y;have g':=Hu g;have z1:(0:Int)<(nD:Int):=by omega
    have z2:0<nD:=by omega
    subst hbv;clear HIC2 z y q1 g HBB;go_enter func147,ntmps147
    go_wp2_with (first
   |(refine aD rfl 31 _ rfl w.heap.size 0 rfl _ _ HS.o.rng underlying31 rfl (by kernel_rfl) ?_)
   |(go_at_call 234;refine HLC.o.mono ?_;rintro e w3 ⟨rfl,b3⟩;have S3:=HS.o.below b3;have R3:=HRC.o.below b3;have B3:=U (HB.o.trans (b3.mono HB.o.size));have x3:=R3.c3;have x6:=R3.c6;have x7:=R3.c7;have x3r:=aA x3;have x6r:=aA x6;have t0:=aA S3.c0;have t1:=aA S3.c1;have t2:=aA S3.c2;have t3:=aA S3.c3;have t4:=aA S3.c4;have t5:=aA S3.c5;have t6:=aA S3.c6;have t7:=aA S3.c7;have t8:=aA S3.c8;have y4:=S3.c4;have lr3:=R3.lt;have ls3:=S3.lt;have HS3:=U S3;clear b3 S3 R3))
    go_ret
    exact⟨rfl,B3.o⟩
   ·intro z y g hbv;have y':((nD:Int) == x.length)=true:=Ek y;have g':=ES g;have z1:(0:Int)<(nD:Int):=by omega
    have z2:0<nD:=by omega
    subst hbv;clear HIC2 z y q1 g HBB;go_enter func147,ntmps147
    go_wp2_with (first
   |(refine aD rfl 31 _ rfl w.heap.size 0 rfl _ _ HS.o.rng underlying31 rfl (by kernel_rfl) ?_)
   |(go_at_call 234;refine HLC.o.mono ?_;rintro e w3 ⟨rfl,b3⟩;have S3:=HS.o.below b3;have R3:=HRC.o.below b3;have B3:=U (HB.o.trans (b3.mono HB.o.size));have x3:=R3.c3;have x6:=R3.c6;have x7:=R3.c7;have x3r:=aA x3;have x6r:=aA x6;have t0:=aA S3.c0;have t1:=aA S3.c1;have t2:=aA S3.c2;have t3:=aA S3.c3;have t4:=aA S3.c4;have t5:=aA S3.c5;have t6:=aA S3.c6;have t7:=aA S3.c7;have t8:=aA S3.c8;have y4:=S3.c4;have lr3:=R3.lt;have ls3:=S3.lt;have HS3:=U S3;clear b3 S3 R3))
    go_ret
    exact⟨rfl,B3.o⟩
   ·intro z y hbv;have y':((nD:Int) == x.length)=false:=Dp y;have z1:(0:Int)<(nD:Int):=by omega
    have z2:0<nD:=by omega
    subst hbv;clear HIC2 z y q1 HBB;go_enter func147,ntmps147
    go_wp2_with (first
   |(refine aD rfl 31 _ rfl w.heap.size 0 rfl _ _ HS.o.rng underlying31 rfl (by kernel_rfl) ?_)
   |(go_at_call 234;refine HLC.o.mono ?_;rintro e w3 ⟨rfl,b3⟩;have S3:=HS.o.below b3;have R3:=HRC.o.below b3;have B3:=U (HB.o.trans (b3.mono HB.o.size));have x3:=R3.c3;have x6:=R3.c6;have x7:=R3.c7;have x3r:=aA x3;have x6r:=aA x6;have t0:=aA S3.c0;have t1:=aA S3.c1;have t2:=aA S3.c2;have t3:=aA S3.c3;have t4:=aA S3.c4;have t5:=aA S3.c5;have t6:=aA S3.c6;have t7:=aA S3.c7;have t8:=aA S3.c8;have y4:=S3.c4;have lr3:=R3.lt;have ls3:=S3.lt;have HS3:=U S3;clear b3 S3 R3))
    go_ret
    exact⟨rfl,B3.o⟩
  ·have e1:b=false:=by
    have hp:DG s x.length=false:=by
     cases h:DG s x.length with
     |false => rfl
     |true => exact absurd (HPL.o.2 h) q2
    rw[← HBB.o];unfold Ch;rw[aI q1,hp];rfl
   subst e1;have hl0:(lc != 0)=true:=by simpa using q2
   clear hlc hb hs;go_enter func147,ntmps147
   go_wp2_with (first
   |(refine aD rfl 31 _ rfl w.heap.size 0 rfl _ _ HS.o.rng underlying31 rfl (by kernel_rfl) ?_)
   |(go_at_call 234;refine HLC.o.mono ?_;rintro e w3 ⟨rfl,b3⟩;have S3:=HS.o.below b3;have R3:=HRC.o.below b3;have B3:=U (HB.o.trans (b3.mono HB.o.size));have x3:=R3.c3;have x6:=R3.c6;have x7:=R3.c7;have x3r:=aA x3;have x6r:=aA x6;have t0:=aA S3.c0;have t1:=aA S3.c1;have t2:=aA S3.c2;have t3:=aA S3.c3;have t4:=aA S3.c4;have t5:=aA S3.c5;have t6:=aA S3.c6;have t7:=aA S3.c7;have t8:=aA S3.c8;have y4:=S3.c4;have lr3:=R3.lt;have ls3:=S3.lt;have HS3:=U S3;clear b3 S3 R3))
   go_ret
   exact⟨rfl,B3.o⟩
def BG(nm:ByteArray)(l g r:Int)(n0 n1 n2:Nat):Bool:=decide (nm=⟨#[]⟩) && (decide (l=0) && (decide (g=0) && (decide (r=0) && (decide (n0=0) && (decide (n1=0) && decide (n2=0))))))
theorem strE_f {a:ByteArray}(h:¬a=⟨#[]⟩):(a.toList == [])=false:=by
 have:=Gx (b:=⟨#[]⟩) h;simpa using this
theorem GY(k q:Int)(nm:ByteArray)(l g r:Int)(A0 A1 A2:Option Addr)(n0 n1 n2 c0 c1 c2:Nat)(w:World) :
  Calls prog 151 #[.agg #[int i64 k,int i64 q,.string nm,int i64 l,int i64 g,int i64 r,.slice A0 n0 c0,.slice A1 n1 c1,.slice A2 n2 c2]] w fun e w' => e= .returned (.bool (BG nm l g r n0 n1 n2))∧Below w.heap.size w w':=by
 have HB:=U (show Below w.heap.size w (w.alloc (.cells #[int i64 k,int i64 q,.string nm,int i64 l,int i64 g,int i64 r,.slice A0 n0 c0,.slice A1 n1 c1,.slice A2 n2 c2] 119))from Af (aB _ _) _);unfold BG;by_cases h0:nm=⟨#[]⟩
 case neg =>
  rw[aG h0];rw[Bool.false_and];have z0:=strE_f h0;have x0:=Gx (b:=⟨#[]⟩) h0;clear h0;go_enter func151,ntmps151
  go_wp2_with fail
  go_ret
  exact⟨rfl,HB.o⟩
 rw[aK h0];rw[Bool.true_and];subst h0;by_cases h1:l=0
 case neg =>
  rw[aG h1];rw[Bool.false_and];have z1:(l == 0)=false:=Dp h1;clear h1;go_enter func151,ntmps151
  go_wp2_with fail
  go_ret
  exact⟨rfl,HB.o⟩
 rw[aK h1];rw[Bool.true_and];subst h1;by_cases h2:g=0
 case neg =>
  rw[aG h2];rw[Bool.false_and];have z2:(g == 0)=false:=Dp h2;clear h2;go_enter func151,ntmps151
  go_wp2_with fail
  go_ret
  exact⟨rfl,HB.o⟩
 rw[aK h2];rw[Bool.true_and];subst h2;by_cases h3:r=0
 case neg =>
  rw[aG h3];rw[Bool.false_and];have z3:(r == 0)=false:=Dp h3;clear h3;go_enter func151,ntmps151
  go_wp2_with fail
  go_ret
  exact⟨rfl,HB.o⟩
 rw[aK h3];rw[Bool.true_and];subst h3;by_cases h4:n0=0
 case neg =>
  rw[aG h4];rw[Bool.false_and];have z4:=ES h4;clear h4;go_enter func151,ntmps151
  go_wp2_with fail
  go_ret
  exact⟨rfl,HB.o⟩
 rw[aK h4];rw[Bool.true_and];subst h4;by_cases h5:n1=0
 case neg =>
  rw[aG h5];rw[Bool.false_and];have z5:=ES h5;clear h5;go_enter func151,ntmps151
  go_wp2_with fail
  go_ret
  exact⟨rfl,HB.o⟩
 rw[aK h5];rw[Bool.true_and];subst h5;by_cases h6:n2=0
 case neg =>
  rw[aG h6];have z6:=ES h6;clear h6;go_enter func151,ntmps151
  go_wp2_with fail
  go_ret
  exact⟨rfl,HB.o⟩
 rw[aK h6];subst h6;go_enter func151,ntmps151
 go_wp2_with fail
 go_ret
 exact⟨rfl,HB.o⟩
