/-
  Part 13 of the proof; the last part states and proves the statement.
-/
import Derived.Test.YtfjkoifpdoemdaaGreatK11
import Derived.Deep.DeepCutAuto
import Derived.Deep.RegionHeld3
import Derived.Deep.RegionLaw
import Derived.Test.YtfjkoifpdoemdaaGreatK06
set_option maxHeartbeats 8000000
set_option maxRecDepth 100000
set_option linter.unusedVariables false
set_option linter.unusedSimpArgs false
open Go.Value (int)
open Go.IntKind (i64)
namespace Go.Proofs.YtfjkoifpdoemdaaGreat
open Go.RowKit Go.Lib Go.Sort
theorem AF {P:Program} {f:FuncId} {args:Array Value} {w:World} {v:Value}(h:∀W,Below w.heap.size w W→Calls P f args W fun e w' => e= .returned v∧Below W.heap.size W w')(d:Nat)(os:Array Obj) :
  Calls P f args (grow (redrawn w d) os) fun e w'' => e= .returned v∧∃p:Regrown,w''=grow (redrawn w p.d) p.os:=Calls.regrown_of (h _ (below_regrown w d os))
theorem Bc {P:Program} {f:FuncId} {args:Array Value} {w:World} {v:Value}(h:∀W,Calls P f args W fun e w' => e= .returned v∧W=w')(d:Nat)(os:Array Obj) :
  Calls P f args (grow (redrawn w d) os) fun e w'' => e= .returned v∧∃p:Regrown,w''=grow (redrawn w p.d) p.os:=Calls.regrown_of ((h _).mono (by rintro e w' ⟨rfl,rfl⟩;exact⟨rfl,Below.refl _ _⟩))
theorem GC {l:List Int} {x:Int} {k:Nat}(h:x∉l.take k)(hk:k<l.length)(hx:¬l[k] =x):x∉l.take (k+1):=by
 rw[List.take_succ_eq_append_getElem hk];intro hm;rcases List.mem_append.1 hm with h1|h1
 ·exact h h1
 ·exact hx (List.mem_singleton.1 h1).symm
theorem mem_at {l:List Int} {x:Int} {k:Nat}(hk:k<l.length)(hx:l[k] =x):x∈l:=hx ▸ List.getElem_mem hk
theorem Dc {a b:Int}(h:a=b):(a == b)=true:=by simpa using h
theorem CB {a b:Int}(h:¬a=b):(a == b)=false:=by simpa using h
theorem J1(v:Value)(ls:List Int)(x:Int)(f:List Addr)(w:World)(h:Bg w f v ls) :
  Calls Tryz.prog 244 #[v,int i64 x] w fun e w' =>∃r:Int,e= .returned (int i64 r)∧decide (0≤r)=decide (x∈ls)∧Below w.heap.size w w':=by
 obtain⟨A,c,rfl,hc,hm,hx⟩:=Bg.open_ h;have HX:=hid hx;clear h hx;go_enter Tryz.func244,Tryz.ntmps244
 go_wp2_with fail
 go_loopw [8,5] (fun i _ wr =>∃k:Nat,k≤ls.length∧i= int i64 k∧Hid (x∉ls.take k)∧Hid (Below w.heap.size w wr)) (fun i _ _ => ls.length - (intOf i).toNat)
 case atStart => exact⟨0,by omega,rfl,(show x∉ls.take 0 by simp),Below.refl _ _⟩
 case round =>
  obtain⟨k,hk,rfl,HS,HB⟩:=hrel;by_cases hlt:k<ls.length
  ·obtain⟨ad,e1,-,b1,p1,-⟩:=HX.out k hlt;subst e1;have p1':=(HB.out.cell (p:=ad.add k) b1).trans p1;have hki:(k:Int)<(ls.length:Int):=by omega
   by_cases q:ls[k] =x
   ·have HM:=hid (mem_at hlt q);have q1:(x == ls[k])=true:=Dc q.symm;rw[q]at p1' q1;clear q p1;go_wp2_with fail
    go_ret
    exact⟨k,rfl,by rw[decide_eq_true HM.out];simp,HB.out⟩
   ·have HS2:=hid (GC HS.out hlt q);have q1:(x == ls[k])=false:=CB (fun e => q e.symm);clear q p1;go_wp2_with fail
    go_roundw
    case rel => exact⟨k+1,by omega,by go_num,HS2.out,HB.out⟩
    case measure => simp[intOf];omega
  ·obtain rfl:k=ls.length:=by omega
   have HS2:=hid HS.out;go_wp2_with fail
   go_ret
   refine⟨-1,rfl,?_,HB.out⟩;have:=HS2.out;rw[List.take_length]at this;rw[decide_eq_false this];rfl
theorem Dx(v:Value)(ls:List Int)(x:Int)(f:List Addr)(w:World)(h:Bg w f v ls) :
  Calls Tryz.prog 173 #[v,int i64 x] w fun e w' => e= .returned (.bool (decide (x∈ls)))∧Below w.heap.size w w':=by
 have HC:=hid (J1 v ls x f w h);obtain⟨A,c,rfl,hc,hm,hx⟩:=Bg.open_ h;obtain⟨r,hr⟩:∃r,decide (x∈ls)=r:=⟨_,rfl⟩;rw[hr]at HC⊢;clear h hx hr;go_enter Tryz.func173,Tryz.ntmps173
 go_wp2_with (go_at_call 244;refine HC.out.mono ?_;rintro e w2 ⟨q,rfl,hq,hb⟩)
 go_ret
 exact⟨by rw[← hq];rfl,hb⟩
theorem KA(v:Value)(ls:List Int)(x:Int)(f:List Addr)(w:World)(h:Bg w f v ls) :
  Calls Tryz.prog 146 #[v,int i64 x] w fun e w' => e= .returned (.bool (decide (x∈ls)))∧Below w.heap.size w w':=by
 obtain⟨A,c,rfl,hc,hm,hx⟩:=Bg.open_ h;have HX:=hid hx;obtain⟨r,hr⟩:∃r,decide (x∈ls)=r:=⟨_,rfl⟩;rw[hr];have HR:=hid hr;clear h hx hr;go_enter Tryz.func146,Tryz.ntmps146
 go_wp2_with fail
 go_loopw [5] (fun i wr =>∃k:Nat,k≤ls.length∧i= int i64 k∧Hid (x∉ls.take k)∧Hid (Below w.heap.size w wr)) (fun i _ => ls.length - (intOf i).toNat)
 case atStart => exact⟨0,by omega,rfl,(show x∉ls.take 0 by simp),Below.refl _ _⟩
 case round =>
  obtain⟨k,hk,rfl,HS,HB⟩:=hrel;by_cases hlt:k<ls.length
  ·obtain⟨ad,e1,-,b1,p1,-⟩:=HX.out k hlt;subst e1;have p1':=(HB.out.cell (p:=ad.add k) b1).trans p1;have hki:(k:Int)<(ls.length:Int):=by omega
   by_cases q:ls[k] =x
   ·have e1:r=true:=by rw[← HR.out];exact decide_eq_true (mem_at hlt q)
    subst e1;have q1:(ls[k] == x)=true:=Dc q;rw[q]at p1' q1;clear q p1;go_wp2_with fail
    go_ret
    exact⟨rfl,HB.out⟩
   ·have HS2:=hid (GC HS.out hlt q);have q1:(ls[k] == x)=false:=CB q;clear q p1;go_wp2_with fail
    go_roundw
    case rel => exact⟨k+1,by omega,by go_num,HS2.out,HB.out⟩
    case measure => simp[intOf];omega
  ·obtain rfl:k=ls.length:=by omega
   have e1:r=false:=by
    have:=HS.out;rw[List.take_length]at this;rw[← HR.out];exact decide_eq_false this
   subst e1;go_wp2_with fail
   go_ret
   exact⟨rfl,HB.out⟩
theorem F7(v:Value)(ls:List Int)(hi:Int)(f:List Addr)(w:World)(h:Bg w f v ls) :
  Calls Tryz.prog 84 #[v,int i64 hi] w fun e w' => e= .returned (.bool (CV ls hi))∧Below w.heap.size w w':=by
 obtain⟨A,c,rfl,hc,hm,hx⟩:=Bg.open_ h;have HX:=hid hx;have HH:=hid h;obtain⟨r,hr⟩:∃r,CV ls hi=r:=⟨_,rfl⟩;rw[hr];have HR:=hid hr;obtain⟨n,hn⟩:∃n,ls.length=n:=⟨_,rfl⟩;rw[hn]at HH hc⊢;have HN:=hid hn;clear h hx hr hn;go_enter Tryz.func84,Tryz.ntmps84
 go_wp2_with fail
 go_loopw [5] (fun i wr =>∃k:Nat,k≤n∧i= int i64 k∧Hid (CA ls hi k)∧Hid (Below w.heap.size w wr)) (fun i _ => n - (intOf i).toNat)
 case atStart => exact⟨0,by omega,rfl,E6 _ _,Below.refl _ _⟩
 case round =>
  obtain⟨k,hk,rfl,HS,HB⟩:=hrel;by_cases hlt:k<n
  ·have hk1:k<ls.length:=by rw[HN.out];exact hlt
   obtain⟨ad,e1,-,b1,p1,-⟩:=HX.out k hk1;subst e1;have p1':=(HB.out.cell (p:=ad.add k) b1).trans p1;have hki:(k:Int)<(n:Int):=by omega
   have hki2:(k:Int)≤(n:Int):=by omega
   have hki3:(k:Int)≤(c:Int):=by omega
   have hkc:k≤c:=by omega
   obtain⟨x,hx⟩:∃x,ls[k] =x:=⟨_,rfl⟩;rw[hx]at p1';obtain⟨q1,q2,hp,-,-⟩:=rSl.split (j:=k) HH.out (by omega);have HHAS:=hid (fun(W:World) (hW:Below wr.heap.size wr W) => KA _ (ls.take k) x q1 W (rSl.below Al.local_ Al.fixed hp (HB.out.trans (hW.mono HB.out.size))));have HIN:=hid (fun(W:World) => Bh x 0 hi W);have p1q:=cell_regrown p1';cases hin:Aj x 0 hi with
   |true =>
    rw[hin]at HIN;have QIN:=hid (Bc (w:=wr) HIN.out);cases hme:decide (x∈ls.take k)with
    |false =>
     rw[hme]at HHAS;have QHAS:=hid (AF (w:=wr) HHAS.out);have HS2:=hid (E4 HS.out hk1 (by rw[hx];exact hin) (by rw[hx];exact of_decide_eq_false hme));clear hx p1 b1 hp hin hme hk1 HIN HHAS;go_wp2_with fail
     (refine wp_region_quiet_below (by kernel_rfl) (by kernel_rfl) ?_;(repeat(first|go_big_quiet_step (first|exact QIN.out _ _|exact QHAS.out _ _)|quiet_step (first|exact QIN.out _ _|exact QHAS.out _ _)));refine wpQuiet_nil ?_)
     rintro _ ⟨⟨dq,osq⟩,rfl⟩;have HB1:=hid (HB.out.trans ((below_regrown wr dq osq).mono HB.out.size));go_wp2_with fail
     go_roundw
     case rel => exact⟨k+1,by omega,by go_num,HS2.out,HB1.out⟩
     case measure => simp[intOf];omega
    |true =>
     rw[hme]at HHAS;have QHAS:=hid (AF (w:=wr) HHAS.out);have e1:r=false:=by rw[← HR.out];exact Fv hk1 (.inr (by rw[hx];exact of_decide_eq_true hme))
     subst e1;clear hx p1 b1 hp hin hme hk1 HIN HHAS;go_wp2_with fail
     (refine wp_region_quiet_below (by kernel_rfl) (by kernel_rfl) ?_;(repeat(first|go_big_quiet_step (first|exact QIN.out _ _|exact QHAS.out _ _)|quiet_step (first|exact QIN.out _ _|exact QHAS.out _ _)));refine wpQuiet_nil ?_)
     rintro _ ⟨⟨dq,osq⟩,rfl⟩;have HB1:=hid (HB.out.trans ((below_regrown wr dq osq).mono HB.out.size));go_wp2_with fail
     go_ret
     exact⟨rfl,HB1.out⟩
   |false =>
    rw[hin]at HIN;have QIN:=hid (Bc (w:=wr) HIN.out);have e1:r=false:=by rw[← HR.out];exact Fv hk1 (.inl (by rw[hx];exact hin))
    subst e1;clear hx p1 b1 hp hin hk1 HIN HHAS;go_wp2_with fail
    (refine wp_region_quiet_below (by kernel_rfl) (by kernel_rfl) ?_;(repeat(first|go_big_quiet_step (first|exact QIN.out _ _)|quiet_step (first|exact QIN.out _ _)));refine wpQuiet_nil ?_)
    rintro _ ⟨⟨dq,osq⟩,rfl⟩;have HB1:=hid (HB.out.trans ((below_regrown wr dq osq).mono HB.out.size));go_wp2_with fail
    go_ret
    exact⟨rfl,HB1.out⟩
  ·obtain rfl:k=n:=by omega
   have e1:r=true:=by
    rw[← HR.out];exact Jf (by rw[HN.out];exact HS.out)
   subst e1;go_wp2_with fail
   go_ret
   exact⟨rfl,HB.out⟩
theorem IF(j:Nat)(c:UInt8) {P:Prop}
  (h1:(97:Int)≤(c.toNat:Int)→(c.toNat:Int)≤122→¬(c.toNat:Int)<97→¬(122:Int)<(c.toNat:Int)→¬(c.toNat:Int)<48→(57:Int)<(c.toNat:Int)→Cs j c=true→P)
  (h2:(97:Int)≤(c.toNat:Int)→¬(c.toNat:Int)≤122→¬(c.toNat:Int)<97→(122:Int)<(c.toNat:Int)→¬(c.toNat:Int)<48→(57:Int)<(c.toNat:Int)→((j:Int) == 0)=true→¬(0:Int)<(j:Int)→Cs j c=false→P)
  (h3:(97:Int)≤(c.toNat:Int)→¬(c.toNat:Int)≤122→¬(c.toNat:Int)<97→(122:Int)<(c.toNat:Int)→¬(c.toNat:Int)<48→(57:Int)<(c.toNat:Int)→((j:Int) == 0)=false→(0:Int)<(j:Int)→Cs j c=false→P)
  (h4:¬(97:Int)≤(c.toNat:Int)→(c.toNat:Int)≤122→(c.toNat:Int)<97→¬(122:Int)<(c.toNat:Int)→¬(c.toNat:Int)<48→(57:Int)<(c.toNat:Int)→((j:Int) == 0)=true→¬(0:Int)<(j:Int)→Cs j c=false→P)
  (h5:¬(97:Int)≤(c.toNat:Int)→(c.toNat:Int)≤122→(c.toNat:Int)<97→¬(122:Int)<(c.toNat:Int)→¬(c.toNat:Int)<48→(57:Int)<(c.toNat:Int)→((j:Int) == 0)=false→(0:Int)<(j:Int)→Cs j c=false→P)
  (h6:¬(97:Int)≤(c.toNat:Int)→(c.toNat:Int)≤122→(c.toNat:Int)<97→¬(122:Int)<(c.toNat:Int)→¬(c.toNat:Int)<48→¬(57:Int)<(c.toNat:Int)→((j:Int) == 0)=true→¬(0:Int)<(j:Int)→Cs j c=false→P)
  (h7:¬(97:Int)≤(c.toNat:Int)→(c.toNat:Int)≤122→(c.toNat:Int)<97→¬(122:Int)<(c.toNat:Int)→¬(c.toNat:Int)<48→¬(57:Int)<(c.toNat:Int)→((j:Int) == 0)=false→(0:Int)<(j:Int)→Cs j c=true→P)
  (h8:¬(97:Int)≤(c.toNat:Int)→(c.toNat:Int)≤122→(c.toNat:Int)<97→¬(122:Int)<(c.toNat:Int)→(c.toNat:Int)<48→¬(57:Int)<(c.toNat:Int)→((j:Int) == 0)=true→¬(0:Int)<(j:Int)→Cs j c=false→P)
  (h9:¬(97:Int)≤(c.toNat:Int)→(c.toNat:Int)≤122→(c.toNat:Int)<97→¬(122:Int)<(c.toNat:Int)→(c.toNat:Int)<48→¬(57:Int)<(c.toNat:Int)→((j:Int) == 0)=false→(0:Int)<(j:Int)→Cs j c=false→P):P:=by
 have hs:Cs j c=decide ((97≤c.toNat∧c.toNat≤122)∨(0<j∧48≤c.toNat∧c.toNat≤57)):=by
  unfold Cs letB digB;rw[Bool.eq_iff_iff];simp
 rw[hs]at h1 h2 h3 h4 h5 h6 h7 h8 h9;simp only[decide_eq_true_eq,decide_eq_false_iff_not]at h1 h2 h3 h4 h5 h6 h7 h8 h9;have zt:j=0→((j:Int) == 0)=true:=fun h => by rw[h];rfl
 have zf:¬j=0→((j:Int) == 0)=false:=fun h => by rw[beq_eq_false_iff_ne];omega
 by_cases a:97≤c.toNat
 ·by_cases b:c.toNat≤122
  ·exact h1 (by omega) (by omega) (by omega) (by omega) (by omega) (by omega) (by omega)
  ·by_cases z:j=0
   ·exact h2 (by omega) (by omega) (by omega) (by omega) (by omega) (by omega) (zt z) (by omega) (by omega)
   ·exact h3 (by omega) (by omega) (by omega) (by omega) (by omega) (by omega) (zf z) (by omega) (by omega)
 ·by_cases b:57<c.toNat
  ·by_cases z:j=0
   ·exact h4 (by omega) (by omega) (by omega) (by omega) (by omega) (by omega) (zt z) (by omega) (by omega)
   ·exact h5 (by omega) (by omega) (by omega) (by omega) (by omega) (by omega) (zf z) (by omega) (by omega)
  ·by_cases d:48≤c.toNat
   ·by_cases z:j=0
    ·exact h6 (by omega) (by omega) (by omega) (by omega) (by omega) (by omega) (zt z) (by omega) (by omega)
    ·exact h7 (by omega) (by omega) (by omega) (by omega) (by omega) (by omega) (zf z) (by omega) (by omega)
   ·by_cases z:j=0
    ·exact h8 (by omega) (by omega) (by omega) (by omega) (by omega) (by omega) (zt z) (by omega) (by omega)
    ·exact h9 (by omega) (by omega) (by omega) (by omega) (by omega) (by omega) (zf z) (by omega) (by omega)
theorem EQ(s:ByteArray)(w:World)(hs:s.size≤9223372036854775807) :
  Calls Tryz.prog 72 #[.string s] w fun e w' => e= .returned (int i64 (Bb s.data.toList))∧Below w.heap.size w w':=by
 have hsz:s.data.toList.length=s.size:=by simp
 have HSZ:=hid hsz;obtain⟨r,hr⟩:∃r,Bb s.data.toList=r:=⟨_,rfl⟩;rw[hr];have HR:=hid hr;clear hsz hr;go_enter Tryz.func72,Tryz.ntmps72
 go_wp2_with fail
 go_loopw [7,3,4] (fun i _ _ wr =>∃j:Nat,j≤s.size∧i= int i64 j∧Hid (Dt s.data.toList j)∧Hid (Below w.heap.size w wr)) (fun i _ _ _ => s.size - (intOf i).toNat)
 case atStart => exact⟨0,by omega,rfl,GG _,Below.refl _ _⟩
 case round =>
  obtain⟨j,hj,rfl,HS,HB⟩:=hrel;by_cases hlt:j<s.size
  ·have hki:(j:Int)<(s.size:Int):=by omega
   have hk1:j<s.data.toList.length:=by rw[HSZ.out];exact hlt
   have hel:s.data.toList[j] =s[j]'hlt:=by simp[ByteArray.getElem_eq_getElem_data]
   have HBAD:=hid (show Cs j (s[j]'hlt)=false→r=5 from fun h => HR.out.symm.trans (EF hk1 (by rw[hel];exact h)));have HOK:=hid (show Cs j (s[j]'hlt)=true→Dt s.data.toList (j+1)from fun h => GF HS.out hk1 (by rw[hel];exact h));clear hk1 hel;refine IF j (s[j]'hlt) ?_ ?_ ?_ ?_ ?_ ?_ ?_ ?_ ?_;case refine_1 =>
    intro a1 a2 a3 a4 a5 a6 hsg;have HOK2:=hid (HOK.out hsg);clear hsg;go_wp2_with fail
    go_roundw
    case rel => exact⟨j+1,by omega,by go_num,HOK2.out,HB.out⟩
    case measure => simp[intOf];omega
   case refine_7 =>
    intro a1 a2 a3 a4 a5 a6 a7 a8 hsg;have HOK2:=hid (HOK.out hsg);clear hsg;go_wp2_with fail
    go_roundw
    case rel => exact⟨j+1,by omega,by go_num,HOK2.out,HB.out⟩
    case measure => simp[intOf];omega
   all_goals
    intros
    have e1:=HBAD.out (by assumption);subst e1;clear HBAD HOK;go_wp2_with fail
    go_ret
    exact⟨rfl,HB.out⟩
  ·obtain rfl:j=s.size:=by omega
   have hall:=HS.out;rw[← HSZ.out]at hall;by_cases q:Aj (s.size:Int) 1 8=true
   ·have e1:r=0:=by
     have h18:=Bn q;rw[← HR.out];exact Gz hall (by rw[HSZ.out];omega) (by rw[HSZ.out];omega)
    subst e1;have HI:=hid (Be (s.size:Int) 1 8);rw[q]at HI;clear q hall;go_wp2_with (go_at_call 100;refine(HI.out _).mono ?_;rintro e w' ⟨rfl,rfl⟩)
    go_ret
    exact⟨rfl,HB.out⟩
   ·have q2:Aj (s.size:Int) 1 8=false:=by simpa using q
    have e1:r=5:=by
     rw[← HR.out];refine EG ?_;rw[HSZ.out];by_cases h1:(1:Int)≤(s.size:Int)
     ·by_cases h2:(s.size:Int)≤8
      ·exact absurd (F6 h1 h2) q
      ·omega
     ·omega
    subst e1;have HI:=hid (Be (s.size:Int) 1 8);rw[q2]at HI;clear q q2 hall;go_wp2_with (go_at_call 100;refine(HI.out _).mono ?_;rintro e w' ⟨rfl,rfl⟩)
    go_ret
    exact⟨rfl,HB.out⟩
theorem EX(s:ByteArray)(w:World)(hs:s.size≤9223372036854775807) :
  Calls Tryz.prog 69 #[.string s] w fun e w' => e= .returned (int i64 (Bb s.data.toList))∧Below w.heap.size w w':=by
 have hsz:s.data.toList.length=s.size:=by simp
 have HSZ:=hid hsz;obtain⟨r,hr⟩:∃r,Bb s.data.toList=r:=⟨_,rfl⟩;rw[hr];have HR:=hid hr;clear hsz hr;by_cases q1:1≤s.size
 ·by_cases q2:s.size≤8
  ·have h0:0<s.size:=q1;have hk1:0<s.data.toList.length:=by rw[HSZ.out];exact h0
   have hel:s.data.toList[0] =s[0]'h0:=by simp[ByteArray.getElem_eq_getElem_data]
   have HBAD0:=hid (show Cs 0 (s[0]'h0)=false→r=5 from fun h => HR.out.symm.trans (EF hk1 (by rw[hel];exact h)));have b1:¬(s.size:Int)<1:=by omega
   have b2:¬(8:Int)<(s.size:Int):=by omega
   have b3:(0:Int)<(s.size:Int):=by omega
   clear hk1 hel;have hq:((97:Int)≤((s[0]'h0).toNat:Int)∧((s[0]'h0).toNat:Int)≤122)∨(((s[0]'h0).toNat:Int)<97)∨(¬((s[0]'h0).toNat:Int)<97∧(122:Int)<((s[0]'h0).toNat:Int)):=by omega
   rcases hq with⟨a1,a2⟩|a1|⟨a1,a2⟩
   ·have a3:¬((s[0]'h0).toNat:Int)<97:=by omega
    have a4:¬(122:Int)<((s[0]'h0).toNat:Int):=by omega
    clear HBAD0;have HT0:=hid (show Cs 0 (s[0]'h0)=true from by unfold Cs letB;simp;omega);go_enter Tryz.func69,Tryz.ntmps69
    go_wp2_with fail
    clear a1 a2 a3 a4 b1 b2 b3;go_loopw [3] (fun i wr =>∃j:Nat,j≤s.size∧i= int i64 j∧Hid (Dt s.data.toList j)∧Hid (Below w.heap.size w wr)) (fun i _ => s.size - (intOf i).toNat)
    case atStart => exact⟨0,by omega,rfl,GG _,Below.refl _ _⟩
    case round =>
     obtain⟨j,hj,rfl,HS,HB⟩:=hrel;by_cases hlt:j<s.size
     ·have hki:(j:Int)<(s.size:Int):=by omega
      have hk1:j<s.data.toList.length:=by rw[HSZ.out];exact hlt
      have hel:s.data.toList[j] =s[j]'hlt:=by simp[ByteArray.getElem_eq_getElem_data]
      have HBAD:=hid (show Cs j (s[j]'hlt)=false→r=5 from fun h => HR.out.symm.trans (EF hk1 (by rw[hel];exact h)));have HOK:=hid (show Cs j (s[j]'hlt)=true→Dt s.data.toList (j+1)from fun h => GF HS.out hk1 (by rw[hel];exact h));clear hk1 hel;refine IF j (s[j]'hlt) ?_ ?_ ?_ ?_ ?_ ?_ ?_ ?_ ?_;case refine_1 =>
       intro a1 a2 a3 a4 a5 a6 hsg;have HOK2:=hid (HOK.out hsg);clear hsg;go_wp2_with fail
       go_roundw
       case rel => exact⟨j+1,by omega,by go_num,HOK2.out,HB.out⟩
       case measure => simp[intOf];omega
      case refine_7 =>
       intro a1 a2 a3 a4 a5 a6 a7 a8 hsg;have HOK2:=hid (HOK.out hsg);clear hsg;go_wp2_with fail
       go_roundw
       case rel => exact⟨j+1,by omega,by go_num,HOK2.out,HB.out⟩
       case measure => simp[intOf];omega
      case refine_6 =>
       intro a1 a2 a3 a4 a5 a6 a7 a8 hsg;have hj0:j=0:=by have:=beq_iff_eq.1 a7;omega
       subst hj0;exact absurd (HT0.out.symm.trans hsg) (by decide)
      all_goals
       intros
       have e1:=HBAD.out (by assumption);subst e1;clear HBAD HOK;go_wp2_with fail
       go_ret
       exact⟨rfl,HB.out⟩
     ·obtain rfl:j=s.size:=by omega
      have hall:=HS.out;rw[← HSZ.out]at hall;have e1:r=0:=by
       rw[← HR.out];exact Gz hall (by rw[HSZ.out];omega) (by rw[HSZ.out];omega)
      subst e1;clear hall;go_wp2_with fail
      go_ret
      exact⟨rfl,HB.out⟩
   all_goals
    have e1:r=5:=HBAD0.out (by
     unfold Cs letB;simp;omega)
    subst e1;clear HBAD0;go_enter Tryz.func69,Tryz.ntmps69
    go_wp2_with fail
    go_ret
    exact⟨rfl,Below.refl _ _⟩
  ·have b1:¬(s.size:Int)<1:=by omega
   have b2:(8:Int)<(s.size:Int):=by omega
   have e1:r=5:=by rw[← HR.out];exact EG (by rw[HSZ.out];omega)
   subst e1;go_enter Tryz.func69,Tryz.ntmps69
   go_wp2_with fail
   go_ret
   exact⟨rfl,Below.refl _ _⟩
 ·have b1:(s.size:Int)<1:=by omega
  have e1:r=5:=by rw[← HR.out];exact EG (by rw[HSZ.out];omega)
  subst e1;go_enter Tryz.func69,Tryz.ntmps69
  go_wp2_with fail
  go_ret
  exact⟨rfl,Below.refl _ _⟩
theorem Fe(s:Sh)(h:s.Ok)(w:World) :
  Calls Tryz.prog 249 #[shV s] w fun e w' => e= .returned (int i64 (s.data * 4))∧Below w.heap.size w w':=by
 obtain⟨a1,a2⟩:=h.data;unfold shV;go_enter Tryz.func249,Tryz.ntmps249
 go_wp2_with fail
 go_ret
 exact⟨rfl,(Below.refl _ _).alloc (Nat.le_refl _) _⟩
theorem FB(s:Sh)(h:s.Ok)(w:World) :
  Calls Tryz.prog 148 #[shV s] w fun e w' => e= .returned (int i64 (s.data * 4))∧Below w.heap.size w w':=by
 obtain⟨a1,a2⟩:=h.data;unfold shV;go_enter Tryz.func148,Tryz.ntmps148
 go_wp2_with fail
 go_ret
 exact⟨rfl,(Below.refl _ _).alloc (Nat.le_refl _) _⟩
def Cn(s:Sh)(n:Int):Int:=if n<1 then 6 else if 12 * s.data<n then 2 else 0
theorem Eo {s:Sh} {n:Int}:Cn s n=0↔CD s n=true:=by
 unfold Cn CD;rw[decide_eq_true_iff];split
 ·constructor
  ·intro h;cases h
  ·intro h;omega
 ·split
  ·constructor
   ·intro h;cases h
   ·intro h;omega
  ·constructor
   ·intro _;omega
   ·intro _;rfl
theorem l4Long_c(s:Sh)(h:s.Ok)(n:Int)(w:World) :
  Calls Tryz.prog 234 #[shV s,int i64 n] w fun e w' => e= .returned (int i64 (Cn s n))∧Below w.heap.size w w':=by
 obtain⟨a1,a2⟩:=h.data;have HC:=hid (fun W => FB s h W);have HK:=hid (Blk.rangeAll (cs:=[int i64 s.g,int i64 s.c,int i64 s.data,int i64 s.p,int i64 s.rows,int i64 s.cap,int i64 s.b,int i64 s.q,int i64 s.t]) (Blk.new w 31 #[int i64 s.g,int i64 s.c,int i64 s.data,int i64 s.p,int i64 s.rows,int i64 s.cap,int i64 s.b,int i64 s.q,int i64 s.t]));have HB1:=hid ((Below.refl w.heap.size w).alloc (Nat.le_refl _) (.cells #[int i64 s.g,int i64 s.c,int i64 s.data,int i64 s.p,int i64 s.rows,int i64 s.cap,int i64 s.b,int i64 s.q,int i64 s.t] 31));unfold shV at HC⊢;unfold Cn;by_cases q1:n<1
 ·rw[if_pos q1];go_enter Tryz.func234,Tryz.ntmps234
  go_wp2_with fail
  go_ret
  exact⟨rfl,HB1.out⟩
 ·rw[if_neg q1];by_cases q2:12 * s.data<n
  ·rw[if_pos q2];have q3:3 * (s.data * 4)<n:=by omega
   have e1:IntKind.i64.wrap (3 * (s.data * 4))=3 * (s.data * 4):=IntWalk.i64_in _ (by omega);clear q2;go_enter Tryz.func234,Tryz.ntmps234
   go_wp2_with (first
    |(refine wpList_load_mid rfl 31 _ rfl w.heap.size 0 rfl _ _ HK.out Tryz.underlying31 rfl (by kernel_rfl) ?_)
    |(go_at_call 148;refine(HC.out _).mono ?_;rintro e w1 ⟨rfl,hb1⟩;have B1:=hid hb1;clear hb1))
   go_ret
   exact⟨rfl,HB1.out.trans (B1.out.mono (by simp))⟩
  ·rw[if_neg q2];have q3:¬3 * (s.data * 4)<n:=by omega
   have e1:IntKind.i64.wrap (3 * (s.data * 4))=3 * (s.data * 4):=IntWalk.i64_in _ (by omega);clear q2;go_enter Tryz.func234,Tryz.ntmps234
   go_wp2_with (first
    |(refine wpList_load_mid rfl 31 _ rfl w.heap.size 0 rfl _ _ HK.out Tryz.underlying31 rfl (by kernel_rfl) ?_)
    |(go_at_call 148;refine(HC.out _).mono ?_;rintro e w1 ⟨rfl,hb1⟩;have B1:=hid hb1;clear hb1))
   go_ret
   exact⟨rfl,HB1.out.trans (B1.out.mono (by simp))⟩
theorem LD {s:Sh}(h:s.Ok) {n:Int}(h1:1≤n):(n+s.data * 4 - 1).tdiv (s.data * 4)=Bp s n:=by
 obtain⟨a1,a2⟩:=h.data;rw[Int.tdiv_eq_ediv_of_nonneg (by omega),show n+s.data * 4 - 1=(n - 1)+1 * (s.data * 4) by omega,Int.add_mul_ediv_right _ _ (by omega),Int.mul_comm s.data 4];rfl
theorem LF {s:Sh}(h:s.Ok) {n:Int}(h1:1≤n):(n - 1).tdiv (s.data * 4)+1=Bp s n:=by
 obtain⟨a1,a2⟩:=h.data;rw[Int.tdiv_eq_ediv_of_nonneg (by omega),Int.mul_comm s.data 4];rfl
theorem IK {s:Sh}(h:s.Ok) {n:Int}(h1:1≤n):1≤Bp s n∧Bp s n≤n:=by
 obtain⟨a1,a2⟩:=h.data;unfold Bp;have h2:0≤(n - 1) / (4 * s.data):=Int.ediv_nonneg (by omega) (by omega);have h3:(n - 1) / (4 * s.data)≤n - 1:=Int.ediv_le_self _ (by omega);omega
theorem IA(s:Sh)(h:s.Ok)(n:Int)(h1:1≤n)(h2:n≤1000000000)(w:World) :
  Calls Tryz.prog 200 #[shV s,int i64 n] w fun e w' => e= .returned (int i64 (Bp s n))∧Below w.heap.size w w':=by
 obtain⟨a1,a2⟩:=h.data;obtain⟨g1,g2⟩:=IK h h1;have hq:=LD h h1;have K:=Blk.new w 31 #[int i64 s.g,int i64 s.c,int i64 s.data,int i64 s.p,int i64 s.rows,int i64 s.cap,int i64 s.b,int i64 s.q,int i64 s.t];have HB1:=hid ((Below.refl w.heap.size w).alloc (Nat.le_refl _) (.cells #[int i64 s.g,int i64 s.c,int i64 s.data,int i64 s.p,int i64 s.rows,int i64 s.cap,int i64 s.b,int i64 s.q,int i64 s.t] 31));obtain⟨W1,hW1⟩:∃W1,w.alloc (.cells #[int i64 s.g,int i64 s.c,int i64 s.data,int i64 s.p,int i64 s.rows,int i64 s.cap,int i64 s.b,int i64 s.q,int i64 s.t] 31)=W1:=⟨_,rfl⟩;rw[hW1]at K HB1;have c0:=cell_regrown ((K.cell 0).trans rfl);have c1:=cell_regrown ((K.cell 1).trans rfl);have c2:=cell_regrown ((K.cell 2).trans rfl);have c3:=cell_regrown ((K.cell 3).trans rfl);have c4:=cell_regrown ((K.cell 4).trans rfl);have c5:=cell_regrown ((K.cell 5).trans rfl);have c6:=cell_regrown ((K.cell 6).trans rfl);have c7:=cell_regrown ((K.cell 7).trans rfl);have c8:=cell_regrown ((K.cell 8).trans rfl);have QC:=hid (AF (w:=W1) (fun W _ => FB s h W));unfold shV at QC⊢;have e1:IntKind.i64.wrap (n+s.data * 4)=n+s.data * 4:=IntWalk.i64_in _ (by omega);have e2:IntKind.i64.wrap (n+s.data * 4 - 1)=n+s.data * 4 - 1:=IntWalk.i64_in _ (by omega);have e3:(s.data * 4 == 0)=false:=by rw[beq_eq_false_iff_ne];omega
 have e4:¬s.data * 4=0:=by omega
 have e5:IntKind.i64.wrap ((n+s.data * 4 - 1).tdiv (s.data * 4))=Bp s n:=by rw[hq];exact IntWalk.i64_in _ (by omega)
 clear K hq g1 g2;go_enter Tryz.func200,Tryz.ntmps200
 go_wp2_with fail
 try rw[hW1]
 clear hW1
 (refine wp_region_quiet_below (by kernel_rfl) (by kernel_rfl) ?_;(repeat(first|go_big_quiet_step (first|exact QC.out _ _)|quiet_step (first|exact QC.out _ _)));refine wpQuiet_nil ?_)
 rintro _ ⟨⟨dq,osq⟩,rfl⟩;have HB2:=hid (HB1.out.trans ((below_regrown W1 dq osq).mono HB1.out.size));go_wp2_with fail
 go_ret
 exact⟨rfl,HB2.out⟩
theorem KG(s:Sh)(h:s.Ok)(n:Int)(hn:okI n)(w:World) :
  Calls Tryz.prog 225 #[shV s,int i64 n] w fun e w' => e= .returned (.tuple #[int i64 (if Cn s n=0 then Bp s n else 0),int i64 (Cn s n)])∧Below w.heap.size w w':=by
 obtain⟨a1,a2⟩:=h.data;have hok:okI n:=hn;have hn1:=hok.1;have hn2:=hok.2;have HC:=hid (fun W => Fe s h W);have HK:=hid (Blk.rangeAll (cs:=[int i64 s.g,int i64 s.c,int i64 s.data,int i64 s.p,int i64 s.rows,int i64 s.cap,int i64 s.b,int i64 s.q,int i64 s.t]) (Blk.new w 31 #[int i64 s.g,int i64 s.c,int i64 s.data,int i64 s.p,int i64 s.rows,int i64 s.cap,int i64 s.b,int i64 s.q,int i64 s.t]));have HB1:=hid ((Below.refl w.heap.size w).alloc (Nat.le_refl _) (.cells #[int i64 s.g,int i64 s.c,int i64 s.data,int i64 s.p,int i64 s.rows,int i64 s.cap,int i64 s.b,int i64 s.q,int i64 s.t] 31));unfold shV at HC⊢;by_cases q1:n<1
 ·have e1:Cn s n=6:=by unfold Cn;rw[if_pos q1]
  rw[e1,if_neg (by omega)];clear hok hn;go_enter Tryz.func225,Tryz.ntmps225
  go_wp2_with fail
  go_ret2
  exact⟨rfl,HB1.out⟩
 ·obtain⟨g1,g2⟩:=IK h (show 1≤n by omega);have hq:=LF h (show 1≤n by omega);have hle:=IJ h (show 1≤n by omega);obtain⟨t,ht⟩:∃t,(n - 1).tdiv (s.data * 4)=t:=⟨_,rfl⟩;rw[ht]at hq;obtain⟨N,hN⟩:∃N,Bp s n=N:=⟨_,rfl⟩;rw[hN]at hq g1 g2 hle;have e0:IntKind.i64.wrap (n - 1)=n - 1:=IntWalk.i64_in _ (by omega);have e2:IntKind.i64.wrap ((n - 1).tdiv (s.data * 4))=t:=by rw[ht];exact IntWalk.i64_in _ (by omega)
  have e3:(s.data * 4 == 0)=false:=by rw[beq_eq_false_iff_ne];omega
  have e4:¬s.data * 4=0:=by omega
  have e5:IntKind.i64.wrap (t+1)=N:=by rw[hq];exact IntWalk.i64_in _ (by omega)
  by_cases q2:12 * s.data<n
  ·have e1:Cn s n=2:=by unfold Cn;rw[if_neg q1,if_pos q2]
   have q3:3<N:=by by_cases c:N≤3;exact absurd (hle.1 c) (by omega);omega
   rw[e1,if_neg (by omega)];clear hok hn hle ht hN hq q2 e1;go_enter Tryz.func225,Tryz.ntmps225
   go_wp2_with (first
    |(refine wpList_load_mid rfl 31 _ rfl w.heap.size 0 rfl _ _ HK.out Tryz.underlying31 rfl (by kernel_rfl) ?_)
    |(go_at_call 249;refine(HC.out _).mono ?_;rintro e w1 ⟨rfl,hb1⟩;have B1:=hid hb1;clear hb1))
   go_ret2
   exact⟨rfl,HB1.out.trans (B1.out.mono (by simp))⟩
  ·have e1:Cn s n=0:=by unfold Cn;rw[if_neg q1,if_neg q2]
   have q3:¬3<N:=by have:=hle.2 (by omega);omega
   rw[e1,if_pos rfl,hN];clear hok hn hle ht hN hq q2 e1;go_enter Tryz.func225,Tryz.ntmps225
   go_wp2_with (first
    |(refine wpList_load_mid rfl 31 _ rfl w.heap.size 0 rfl _ _ HK.out Tryz.underlying31 rfl (by kernel_rfl) ?_)
    |(go_at_call 249;refine(HC.out _).mono ?_;rintro e w1 ⟨rfl,hb1⟩;have B1:=hid hb1;clear hb1))
   go_ret2
   exact⟨rfl,HB1.out.trans (B1.out.mono (by simp))⟩
structure BF (W:World) (p:Nat) (s:Sh):Prop where
 rng:W.rangeAt p 0 [int i64 s.g,int i64 s.c,int i64 s.data,int i64 s.p,int i64 s.rows,int i64 s.cap,int i64 s.b,int i64 s.q,int i64 s.t]
 c0:W.cell? ⟨p,0,none⟩=some (int i64 s.g)
 c1:W.cell? ⟨p,1,none⟩=some (int i64 s.c)
 c2:W.cell? ⟨p,2,none⟩=some (int i64 s.data)
 c3:W.cell? ⟨p,3,none⟩=some (int i64 s.p)
 c4:W.cell? ⟨p,4,none⟩=some (int i64 s.rows)
 c5:W.cell? ⟨p,5,none⟩=some (int i64 s.cap)
 c6:W.cell? ⟨p,6,none⟩=some (int i64 s.b)
 c7:W.cell? ⟨p,7,none⟩=some (int i64 s.q)
 c8:W.cell? ⟨p,8,none⟩=some (int i64 s.t)
 lt:p<W.heap.size
theorem BF.of {W:World} {p:Nat} {t:TypeId} {s:Sh}(K:Blk W p t #[int i64 s.g,int i64 s.c,int i64 s.data,int i64 s.p,int i64 s.rows,int i64 s.cap,int i64 s.b,int i64 s.q,int i64 s.t]):BF W p s :=
 ⟨Blk.rangeAll K,(K.cell 0).trans rfl,(K.cell 1).trans rfl,(K.cell 2).trans rfl,(K.cell 3).trans rfl,(K.cell 4).trans rfl,(K.cell 5).trans rfl,(K.cell 6).trans rfl,(K.cell 7).trans rfl,(K.cell 8).trans rfl,K.lt⟩
theorem BF.below {W W':World} {p:Nat} {s:Sh}(h:BF W p s)(hb:Below W.heap.size W W'):BF W' p s :=
 ⟨fun j v hj =>(hb.cell (p:=⟨p,0+j,none⟩) h.lt).trans (h.rng j v hj),(hb.cell (p:=⟨p,0,none⟩) h.lt).trans h.c0,(hb.cell (p:=⟨p,1,none⟩) h.lt).trans h.c1,(hb.cell (p:=⟨p,2,none⟩) h.lt).trans h.c2,(hb.cell (p:=⟨p,3,none⟩) h.lt).trans h.c3,(hb.cell (p:=⟨p,4,none⟩) h.lt).trans h.c4,(hb.cell (p:=⟨p,5,none⟩) h.lt).trans h.c5,(hb.cell (p:=⟨p,6,none⟩) h.lt).trans h.c6,(hb.cell (p:=⟨p,7,none⟩) h.lt).trans h.c7,(hb.cell (p:=⟨p,8,none⟩) h.lt).trans h.c8,Nat.lt_of_lt_of_le h.lt hb.size⟩
structure CH (W:World) (p:Nat) (x:Ag) (v0 v1 v2:Value):Prop where
 rng:W.rangeAt p 0 [int i64 x.kind,int i64 x.seq,.string x.name,int i64 x.length,int i64 x.group,int i64 x.row,v0,v1,v2]
 c0:W.cell? ⟨p,0,none⟩=some (int i64 x.kind)
 c1:W.cell? ⟨p,1,none⟩=some (int i64 x.seq)
 c2:W.cell? ⟨p,2,none⟩=some (.string x.name)
 c3:W.cell? ⟨p,3,none⟩=some (int i64 x.length)
 c4:W.cell? ⟨p,4,none⟩=some (int i64 x.group)
 c5:W.cell? ⟨p,5,none⟩=some (int i64 x.row)
 c6:W.cell? ⟨p,6,none⟩=some v0
 c7:W.cell? ⟨p,7,none⟩=some v1
 c8:W.cell? ⟨p,8,none⟩=some v2
 lt:p<W.heap.size
theorem CH.of {W:World} {p:Nat} {t:TypeId} {x:Ag} {v0 v1 v2:Value}(K:Blk W p t #[int i64 x.kind,int i64 x.seq,.string x.name,int i64 x.length,int i64 x.group,int i64 x.row,v0,v1,v2]):CH W p x v0 v1 v2 :=
 ⟨Blk.rangeAll K,(K.cell 0).trans rfl,(K.cell 1).trans rfl,(K.cell 2).trans rfl,(K.cell 3).trans rfl,(K.cell 4).trans rfl,(K.cell 5).trans rfl,(K.cell 6).trans rfl,(K.cell 7).trans rfl,(K.cell 8).trans rfl,K.lt⟩
theorem CH.below {W W':World} {p:Nat} {x:Ag} {v0 v1 v2:Value}(h:CH W p x v0 v1 v2)(hb:Below W.heap.size W W'):CH W' p x v0 v1 v2 :=
 ⟨fun j v hj =>(hb.cell (p:=⟨p,0+j,none⟩) h.lt).trans (h.rng j v hj),(hb.cell (p:=⟨p,0,none⟩) h.lt).trans h.c0,(hb.cell (p:=⟨p,1,none⟩) h.lt).trans h.c1,(hb.cell (p:=⟨p,2,none⟩) h.lt).trans h.c2,(hb.cell (p:=⟨p,3,none⟩) h.lt).trans h.c3,(hb.cell (p:=⟨p,4,none⟩) h.lt).trans h.c4,(hb.cell (p:=⟨p,5,none⟩) h.lt).trans h.c5,(hb.cell (p:=⟨p,6,none⟩) h.lt).trans h.c6,(hb.cell (p:=⟨p,7,none⟩) h.lt).trans h.c7,(hb.cell (p:=⟨p,8,none⟩) h.lt).trans h.c8,Nat.lt_of_lt_of_le h.lt hb.size⟩
theorem Cx(A:Option Addr)(n c:Nat)(w:World):Calls Tryz.prog 248 #[.slice A n c] w fun e w' => e= .returned (int i64 (n:Int))∧w=w':=by
 go_enter Tryz.func248,Tryz.ntmps248
 go_wp2_with fail
 go_ret
 exact⟨rfl,rfl⟩
theorem Ix(s:Sh)(r:Ag)(hp:CD s r.length=true)(hl:¬r.length= -1)(P:Prop)
  (hA:r.data.length=0→(r.rows.length:Int)=Bp s r.length→BP s r=CV r.rows (s.rows - 1)→P)
  (hB:r.data.length=0→¬(r.rows.length:Int)=Bp s r.length→BP s r=false→P)
  (hC:¬r.data.length=0→(r.data.length:Int)=r.length→r.rows.length=0→BP s r=true→P)
  (hD:¬r.data.length=0→(r.data.length:Int)=r.length→¬r.rows.length=0→BP s r=false→P)
  (hE:¬r.data.length=0→¬(r.data.length:Int)=r.length→BP s r=false→P):P:=by
 unfold BP at hA hB hC hD hE;rw[if_neg hl,hp,Bool.true_and]at hA hB hC hD hE;by_cases z:r.data.length=0
 ·rw[if_neg (by omega)]at hA hB;by_cases y:(r.rows.length:Int)=Bp s r.length
  ·exact hA z y (by rw[decide_eq_true y];rfl)
  ·exact hB z y (by rw[decide_eq_false y];rfl)
 ·rw[if_pos (by omega)]at hC hD hE;by_cases d:(r.data.length:Int)=r.length
  ·by_cases e:r.rows.length=0
   ·exact hC z d e (by rw[decide_eq_true d,decide_eq_true e];rfl)
   ·exact hD z d e (by rw[decide_eq_true d,decide_eq_false e];rfl)
  ·exact hE z d (by rw[decide_eq_false d];rfl)
theorem Fk {n:Nat}(h:n=0):((n:Int) == 0)=true:=by rw[h];rfl
theorem DE {n:Nat}(h:¬n=0):((n:Int) == 0)=false:=by rw[beq_eq_false_iff_ne];omega
theorem l5Item_c(s:Sh)(hs:s.Ok)(x:Ag)(cs:List Value)(f:List Addr)(w:World)(h:Ac w f cs x) :
  Calls Tryz.prog 147 #[shV s,.agg cs.toArray] w fun e w' => e= .returned (.bool (BP s x))∧Below w.heap.size w w':=by
 dsimp only[Ac]at h;obtain⟨v0,v1,v2,f0,f1,f2,rfl,rfl,o0,o1,o2,o3,o4,o5,h0,h1,h2⟩:=h;obtain⟨A0,c0,rfl,k0,m0⟩:=rSl.head h0;obtain⟨A1,c1,rfl,k1,m1⟩:=rSl.head h1;obtain⟨A2,c2,rfl,k2,m2⟩:=rSl.head h2;have H0:=hid h0;have H1:=hid h1;have H2:=hid h2;obtain⟨nR,hnR⟩:∃nR,x.rows.length=nR:=⟨_,rfl⟩;obtain⟨nD,hnD⟩:∃nD,x.data.length=nD:=⟨_,rfl⟩;obtain⟨nE,hnE⟩:∃nE,x.delta.length=nE:=⟨_,rfl⟩;have HNR:=hid hnR;have HND:=hid hnD;have HNE:=hid hnE;rw[hnR]at H0 k0⊢;rw[hnD]at H1 k1⊢;rw[hnE]at H2 k2⊢;have K1:=(Blk.new w 31 #[int i64 s.g,int i64 s.c,int i64 s.data,int i64 s.p,int i64 s.rows,int i64 s.cap,int i64 s.b,int i64 s.q,int i64 s.t]).alloc (.cells #[int i64 x.kind,int i64 x.seq,.string x.name,int i64 x.length,int i64 x.group,int i64 x.row,.slice A0 nR c0,.slice A1 nD c1,.slice A2 nE c2] 119);have K2:=Blk.new1 w (.cells #[int i64 s.g,int i64 s.c,int i64 s.data,int i64 s.p,int i64 s.rows,int i64 s.cap,int i64 s.b,int i64 s.q,int i64 s.t] 31) 119 #[int i64 x.kind,int i64 x.seq,.string x.name,int i64 x.length,int i64 x.group,int i64 x.row,.slice A0 nR c0,.slice A1 nD c1,.slice A2 nE c2];have hB:Below w.heap.size w ((w.alloc (.cells #[int i64 s.g,int i64 s.c,int i64 s.data,int i64 s.p,int i64 s.rows,int i64 s.cap,int i64 s.b,int i64 s.q,int i64 s.t] 31)).alloc (.cells #[int i64 x.kind,int i64 x.seq,.string x.name,int i64 x.length,int i64 x.group,int i64 x.row,.slice A0 nR c0,.slice A1 nD c1,.slice A2 nE c2] 119)):=((Below.refl _ _).alloc (Nat.le_refl _) _).alloc (by simp) _;have HB:=hid hB;have S2:=BF.of K1;have R2:=CH.of K2;have HS:=hid S2;have HRC:=hid R2;clear h0 h1 h2 hnR hnD hnE K1 K2 hB;have HIC:=hid (Ix s x);obtain⟨b,hb⟩:∃b,BP s x=b:=⟨_,rfl⟩;rw[hb]at HIC⊢;have HBB:=hid hb;have hlo:=HS.out.lt;have hlr:=HRC.out.lt;rw[HNR.out,HND.out]at HIC;unfold shV;by_cases q1:x.length= -1
 ·have hq:(x.length == -1)=true:=Dc q1;have hbv:(decide (nD=0) && decide (nR=0))=b:=by
   have:=HBB.out;unfold BP at this;rw[if_pos q1,HND.out,HNR.out]at this;exact this
  clear hb;have go:∀b':Bool,b'=b→Calls Tryz.prog 147 #[.agg #[int i64 s.g,int i64 s.c,int i64 s.data,int i64 s.p,int i64 s.rows,int i64 s.cap,int i64 s.b,int i64 s.q,int i64 s.t],.agg #[int i64 x.kind,int i64 x.seq,.string x.name,int i64 x.length,int i64 x.group,int i64 x.row,.slice A0 nR c0,.slice A1 nD c1,.slice A2 nE c2]] w (fun e w' => e= .returned (.bool b')∧Below w.heap.size w w')→Calls Tryz.prog 147 #[.agg #[int i64 s.g,int i64 s.c,int i64 s.data,int i64 s.p,int i64 s.rows,int i64 s.cap,int i64 s.b,int i64 s.q,int i64 s.t],.agg #[int i64 x.kind,int i64 x.seq,.string x.name,int i64 x.length,int i64 x.group,int i64 x.row,.slice A0 nR c0,.slice A1 nD c1,.slice A2 nE c2]] w (fun e w' => e= .returned (.bool b)∧Below w.heap.size w w'):=fun b' e h => by rw[← e];exact h
  by_cases q2:nD=0
  ·have hq2:=Fk q2;by_cases q3:nR=0
   ·refine go true (by rw[← hbv,decide_eq_true q2,decide_eq_true q3];rfl) ?_;have hq3:=Fk q3;clear go hbv q2 q3 q1;go_enter Tryz.func147,Tryz.ntmps147
    go_wp2_with fail
    go_ret
    exact⟨rfl,HB.out⟩
   ·refine go false (by rw[← hbv,decide_eq_true q2,decide_eq_false q3];rfl) ?_;have hq3:=DE q3;clear go hbv q2 q3 q1;go_enter Tryz.func147,Tryz.ntmps147
    go_wp2_with fail
    go_ret
    exact⟨rfl,HB.out⟩
  ·have hq2:=DE q2;refine go false (by rw[← hbv,decide_eq_false q2];rfl) ?_;clear go hbv q2 q1;go_enter Tryz.func147,Tryz.ntmps147
   go_wp2_with fail
   go_ret
   exact⟨rfl,HB.out⟩
 ·have hq:(x.length == -1)=false:=CB q1;have HLC:=hid (l4Long_c s hs x.length ((w.alloc (.cells #[int i64 s.g,int i64 s.c,int i64 s.data,int i64 s.p,int i64 s.rows,int i64 s.cap,int i64 s.b,int i64 s.q,int i64 s.t] 31)).alloc (.cells #[int i64 x.kind,int i64 x.seq,.string x.name,int i64 x.length,int i64 x.group,int i64 x.row,.slice A0 nR c0,.slice A1 nD c1,.slice A2 nE c2] 119)));have HPL:=hid (Eo (s:=s) (n:=x.length));obtain⟨lc,hlc⟩:∃lc,Cn s x.length=lc:=⟨_,rfl⟩;rw[hlc]at HLC HPL;unfold shV at HLC;have r3:=HRC.out.c3;have r7:=HRC.out.c7;by_cases q2:lc=0
  ·have hp:CD s x.length=true:=HPL.out.1 q2;have hpb:1≤x.length∧x.length≤12 * s.data:=by unfold CD at hp;exact of_decide_eq_true hp
   obtain⟨d1,d2⟩:=hs.data;obtain⟨e1,e2⟩:=hs.rows;have HIC2:=HIC.out hp q1;rw[q2]at HLC;have HPC:=hid (fun(W:World) => IA s hs x.length hpb.1 (by omega) W);have HAC:=hid (fun(W:World) (hW:Below w.heap.size w W) => F7 _ x.rows (s.rows - 1) f0 W (rSl.below Al.local_ Al.fixed H0.out hW));have ew:IntKind.i64.wrap (s.rows - 1)=s.rows - 1:=IntWalk.i64_in _ (by omega);obtain⟨pn,hpn⟩:∃pn,Bp s x.length=pn:=⟨_,rfl⟩;rw[hpn]at HPC HIC2;unfold shV at HPC;clear q2 hp hpb d1 d2 e1 e2 hpn hlc hb hs;refine HIC2 _ ?_ ?_ ?_ ?_ ?_
   ·intro z y hbv;have y':((nR:Int) == pn)=true:=Dc y;have z1:¬(0:Int)<(nD:Int):=by omega
    have z2:¬0<nD:=by omega
    rw[← hbv]at HAC;clear HIC2 z y q1 hbv HBB;go_enter Tryz.func147,Tryz.ntmps147
    go_wp2_with (first
   |(refine wpList_load_mid rfl 31 _ rfl w.heap.size 0 rfl _ _ HS.out.rng Tryz.underlying31 rfl (by kernel_rfl) ?_)
   |(go_at_call 234;refine HLC.out.mono ?_;rintro e w3 ⟨rfl,b3⟩;have S3:=HS.out.below b3;have R3:=HRC.out.below b3;have B3:=hid (HB.out.trans (b3.mono HB.out.size));have x3:=R3.c3;have x6:=R3.c6;have x7:=R3.c7;have x3r:=cell_regrown x3;have x6r:=cell_regrown x6;have t0:=cell_regrown S3.c0;have t1:=cell_regrown S3.c1;have t2:=cell_regrown S3.c2;have t3:=cell_regrown S3.c3;have t4:=cell_regrown S3.c4;have t5:=cell_regrown S3.c5;have t6:=cell_regrown S3.c6;have t7:=cell_regrown S3.c7;have t8:=cell_regrown S3.c8;have y4:=S3.c4;have lr3:=R3.lt;have ls3:=S3.lt;have HS3:=hid S3;clear b3 S3 R3))
    have QPC:=hid (AF (w:=w3) (fun W _ => HPC.out W));have QAC:=hid (AF (w:=w3) (fun W hW => HAC.out W (B3.out.trans (hW.mono B3.out.size))));clear HPC HAC
    (refine wp_region_quiet_below (by kernel_rfl) (by kernel_rfl) ?_;(repeat(first|go_big_quiet_step (first|exact QPC.out _ _|exact QAC.out _ _)|quiet_step (first|exact QPC.out _ _|exact QAC.out _ _)));refine wpQuiet_nil ?_)
    rintro _ ⟨⟨dq,osq⟩,rfl⟩;have HB1:=hid (B3.out.trans ((below_regrown w3 dq osq).mono B3.out.size));go_wp2_with fail
    go_ret
    exact⟨rfl,HB1.out⟩
   ·intro z y hbv;have y':((nR:Int) == pn)=false:=CB y;have z1:¬(0:Int)<(nD:Int):=by omega
    have z2:¬0<nD:=by omega
    subst hbv;clear HIC2 z y q1 HBB;go_enter Tryz.func147,Tryz.ntmps147
    go_wp2_with (first
   |(refine wpList_load_mid rfl 31 _ rfl w.heap.size 0 rfl _ _ HS.out.rng Tryz.underlying31 rfl (by kernel_rfl) ?_)
   |(go_at_call 234;refine HLC.out.mono ?_;rintro e w3 ⟨rfl,b3⟩;have S3:=HS.out.below b3;have R3:=HRC.out.below b3;have B3:=hid (HB.out.trans (b3.mono HB.out.size));have x3:=R3.c3;have x6:=R3.c6;have x7:=R3.c7;have x3r:=cell_regrown x3;have x6r:=cell_regrown x6;have t0:=cell_regrown S3.c0;have t1:=cell_regrown S3.c1;have t2:=cell_regrown S3.c2;have t3:=cell_regrown S3.c3;have t4:=cell_regrown S3.c4;have t5:=cell_regrown S3.c5;have t6:=cell_regrown S3.c6;have t7:=cell_regrown S3.c7;have t8:=cell_regrown S3.c8;have y4:=S3.c4;have lr3:=R3.lt;have ls3:=S3.lt;have HS3:=hid S3;clear b3 S3 R3))
    have QPC:=hid (AF (w:=w3) (fun W _ => HPC.out W));clear HPC HAC
    (refine wp_region_quiet_below (by kernel_rfl) (by kernel_rfl) ?_;(repeat(first|go_big_quiet_step (first|exact QPC.out _ _)|quiet_step (first|exact QPC.out _ _)));refine wpQuiet_nil ?_)
    rintro _ ⟨⟨dq,osq⟩,rfl⟩;have HB1:=hid (B3.out.trans ((below_regrown w3 dq osq).mono B3.out.size));go_wp2_with fail
    go_ret
    exact⟨rfl,HB1.out⟩
   ·intro z y g hbv;have y':((nD:Int) == x.length)=true:=Dc y;have g':=Fk g;have z1:(0:Int)<(nD:Int):=by omega
    have z2:0<nD:=by omega
    subst hbv;clear HIC2 z y q1 g HBB;go_enter Tryz.func147,Tryz.ntmps147
    go_wp2_with (first
   |(refine wpList_load_mid rfl 31 _ rfl w.heap.size 0 rfl _ _ HS.out.rng Tryz.underlying31 rfl (by kernel_rfl) ?_)
   |(go_at_call 234;refine HLC.out.mono ?_;rintro e w3 ⟨rfl,b3⟩;have S3:=HS.out.below b3;have R3:=HRC.out.below b3;have B3:=hid (HB.out.trans (b3.mono HB.out.size));have x3:=R3.c3;have x6:=R3.c6;have x7:=R3.c7;have x3r:=cell_regrown x3;have x6r:=cell_regrown x6;have t0:=cell_regrown S3.c0;have t1:=cell_regrown S3.c1;have t2:=cell_regrown S3.c2;have t3:=cell_regrown S3.c3;have t4:=cell_regrown S3.c4;have t5:=cell_regrown S3.c5;have t6:=cell_regrown S3.c6;have t7:=cell_regrown S3.c7;have t8:=cell_regrown S3.c8;have y4:=S3.c4;have lr3:=R3.lt;have ls3:=S3.lt;have HS3:=hid S3;clear b3 S3 R3))
    go_ret
    exact⟨rfl,B3.out⟩
   ·intro z y g hbv;have y':((nD:Int) == x.length)=true:=Dc y;have g':=DE g;have z1:(0:Int)<(nD:Int):=by omega
    have z2:0<nD:=by omega
    subst hbv;clear HIC2 z y q1 g HBB;go_enter Tryz.func147,Tryz.ntmps147
    go_wp2_with (first
   |(refine wpList_load_mid rfl 31 _ rfl w.heap.size 0 rfl _ _ HS.out.rng Tryz.underlying31 rfl (by kernel_rfl) ?_)
   |(go_at_call 234;refine HLC.out.mono ?_;rintro e w3 ⟨rfl,b3⟩;have S3:=HS.out.below b3;have R3:=HRC.out.below b3;have B3:=hid (HB.out.trans (b3.mono HB.out.size));have x3:=R3.c3;have x6:=R3.c6;have x7:=R3.c7;have x3r:=cell_regrown x3;have x6r:=cell_regrown x6;have t0:=cell_regrown S3.c0;have t1:=cell_regrown S3.c1;have t2:=cell_regrown S3.c2;have t3:=cell_regrown S3.c3;have t4:=cell_regrown S3.c4;have t5:=cell_regrown S3.c5;have t6:=cell_regrown S3.c6;have t7:=cell_regrown S3.c7;have t8:=cell_regrown S3.c8;have y4:=S3.c4;have lr3:=R3.lt;have ls3:=S3.lt;have HS3:=hid S3;clear b3 S3 R3))
    go_ret
    exact⟨rfl,B3.out⟩
   ·intro z y hbv;have y':((nD:Int) == x.length)=false:=CB y;have z1:(0:Int)<(nD:Int):=by omega
    have z2:0<nD:=by omega
    subst hbv;clear HIC2 z y q1 HBB;go_enter Tryz.func147,Tryz.ntmps147
    go_wp2_with (first
   |(refine wpList_load_mid rfl 31 _ rfl w.heap.size 0 rfl _ _ HS.out.rng Tryz.underlying31 rfl (by kernel_rfl) ?_)
   |(go_at_call 234;refine HLC.out.mono ?_;rintro e w3 ⟨rfl,b3⟩;have S3:=HS.out.below b3;have R3:=HRC.out.below b3;have B3:=hid (HB.out.trans (b3.mono HB.out.size));have x3:=R3.c3;have x6:=R3.c6;have x7:=R3.c7;have x3r:=cell_regrown x3;have x6r:=cell_regrown x6;have t0:=cell_regrown S3.c0;have t1:=cell_regrown S3.c1;have t2:=cell_regrown S3.c2;have t3:=cell_regrown S3.c3;have t4:=cell_regrown S3.c4;have t5:=cell_regrown S3.c5;have t6:=cell_regrown S3.c6;have t7:=cell_regrown S3.c7;have t8:=cell_regrown S3.c8;have y4:=S3.c4;have lr3:=R3.lt;have ls3:=S3.lt;have HS3:=hid S3;clear b3 S3 R3))
    go_ret
    exact⟨rfl,B3.out⟩
  ·have e1:b=false:=by
    have hp:CD s x.length=false:=by
     cases h:CD s x.length with
     |false => rfl
     |true => exact absurd (HPL.out.2 h) q2
    rw[← HBB.out];unfold BP;rw[if_neg q1,hp];rfl
   subst e1;have hl0:(lc != 0)=true:=by simpa using q2
   clear hlc hb hs;go_enter Tryz.func147,Tryz.ntmps147
   go_wp2_with (first
   |(refine wpList_load_mid rfl 31 _ rfl w.heap.size 0 rfl _ _ HS.out.rng Tryz.underlying31 rfl (by kernel_rfl) ?_)
   |(go_at_call 234;refine HLC.out.mono ?_;rintro e w3 ⟨rfl,b3⟩;have S3:=HS.out.below b3;have R3:=HRC.out.below b3;have B3:=hid (HB.out.trans (b3.mono HB.out.size));have x3:=R3.c3;have x6:=R3.c6;have x7:=R3.c7;have x3r:=cell_regrown x3;have x6r:=cell_regrown x6;have t0:=cell_regrown S3.c0;have t1:=cell_regrown S3.c1;have t2:=cell_regrown S3.c2;have t3:=cell_regrown S3.c3;have t4:=cell_regrown S3.c4;have t5:=cell_regrown S3.c5;have t6:=cell_regrown S3.c6;have t7:=cell_regrown S3.c7;have t8:=cell_regrown S3.c8;have y4:=S3.c4;have lr3:=R3.lt;have ls3:=S3.lt;have HS3:=hid S3;clear b3 S3 R3))
   go_ret
   exact⟨rfl,B3.out⟩
theorem DF(A:Option Addr)(n c:Nat)(w:World):Calls Tryz.prog 174 #[.slice A n c] w fun e w' => e= .returned (int i64 (n:Int))∧w=w':=by
 go_enter Tryz.func174,Tryz.ntmps174
 go_wp2_with fail
 go_ret
 exact⟨rfl,rfl⟩
def Bs(nm:ByteArray)(l g r:Int)(n0 n1 n2:Nat):Bool:=decide (nm=⟨#[]⟩) && (decide (l=0) && (decide (g=0) && (decide (r=0) && (decide (n0=0) && (decide (n1=0) && decide (n2=0))))))
theorem strE_f {a:ByteArray}(h:¬a=⟨#[]⟩):(a.toList == [])=false:=by
 have:=DM (b:=⟨#[]⟩) h;simpa using this
theorem EU(k q:Int)(nm:ByteArray)(l g r:Int)(A0 A1 A2:Option Addr)(n0 n1 n2 c0 c1 c2:Nat)(w:World) :
  Calls Tryz.prog 151 #[.agg #[int i64 k,int i64 q,.string nm,int i64 l,int i64 g,int i64 r,.slice A0 n0 c0,.slice A1 n1 c1,.slice A2 n2 c2]] w fun e w' => e= .returned (.bool (Bs nm l g r n0 n1 n2))∧Below w.heap.size w w':=by
 have HB:=hid (show Below w.heap.size w (w.alloc (.cells #[int i64 k,int i64 q,.string nm,int i64 l,int i64 g,int i64 r,.slice A0 n0 c0,.slice A1 n1 c1,.slice A2 n2 c2] 119))from Ah (Below.refl _ _) _);unfold Bs;by_cases h0:nm=⟨#[]⟩
 case neg =>
  rw[decide_eq_false h0];rw[Bool.false_and];have z0:=strE_f h0;have x0:=DM (b:=⟨#[]⟩) h0;clear h0;go_enter Tryz.func151,Tryz.ntmps151
  go_wp2_with fail
  go_ret
  exact⟨rfl,HB.out⟩
 rw[decide_eq_true h0];rw[Bool.true_and];subst h0;by_cases h1:l=0
 case neg =>
  rw[decide_eq_false h1];rw[Bool.false_and];have z1:(l == 0)=false:=CB h1;clear h1;go_enter Tryz.func151,Tryz.ntmps151
  go_wp2_with fail
  go_ret
  exact⟨rfl,HB.out⟩
 rw[decide_eq_true h1];rw[Bool.true_and];subst h1;by_cases h2:g=0
 case neg =>
  rw[decide_eq_false h2];rw[Bool.false_and];have z2:(g == 0)=false:=CB h2;clear h2;go_enter Tryz.func151,Tryz.ntmps151
  go_wp2_with fail
  go_ret
  exact⟨rfl,HB.out⟩
 rw[decide_eq_true h2];rw[Bool.true_and];subst h2;by_cases h3:r=0
 case neg =>
  rw[decide_eq_false h3];rw[Bool.false_and];have z3:(r == 0)=false:=CB h3;clear h3;go_enter Tryz.func151,Tryz.ntmps151
  go_wp2_with fail
  go_ret
  exact⟨rfl,HB.out⟩
 rw[decide_eq_true h3];rw[Bool.true_and];subst h3;by_cases h4:n0=0
 case neg =>
  rw[decide_eq_false h4];rw[Bool.false_and];have z4:=DE h4;clear h4;go_enter Tryz.func151,Tryz.ntmps151
  go_wp2_with fail
  go_ret
  exact⟨rfl,HB.out⟩
 rw[decide_eq_true h4];rw[Bool.true_and];subst h4;by_cases h5:n1=0
 case neg =>
  rw[decide_eq_false h5];rw[Bool.false_and];have z5:=DE h5;clear h5;go_enter Tryz.func151,Tryz.ntmps151
  go_wp2_with fail
  go_ret
  exact⟨rfl,HB.out⟩
 rw[decide_eq_true h5];rw[Bool.true_and];subst h5;by_cases h6:n2=0
 case neg =>
  rw[decide_eq_false h6];have z6:=DE h6;clear h6;go_enter Tryz.func151,Tryz.ntmps151
  go_wp2_with fail
  go_ret
  exact⟨rfl,HB.out⟩
 rw[decide_eq_true h6];subst h6;go_enter Tryz.func151,Tryz.ntmps151
 go_wp2_with fail
 go_ret
 exact⟨rfl,HB.out⟩
end Go.Proofs.YtfjkoifpdoemdaaGreat
