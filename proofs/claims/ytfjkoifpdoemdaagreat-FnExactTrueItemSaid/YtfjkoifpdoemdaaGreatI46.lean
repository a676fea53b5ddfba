/-
  Part 46 of the proof; the last part states and proves the statement.
-/
import Derived.Test.YtfjkoifpdoemdaaGreatI00
import Derived.Test.YtfjkoifpdoemdaaGreatI01
import Derived.Lib.QuietBelow
set_option maxHeartbeats 8000000
set_option maxRecDepth 100000
set_option linter.unusedVariables false
set_option linter.unusedSimpArgs false
open Go.Value (int)
open Go.IntKind (i64)
namespace Go.Proofs.YtfjkoifpdoemdaaGreat
open Go.RowKit
open Go.Lib (hid)
theorem Fn(C:Int)(v1 v2:Value)(xs:List UInt8)(f1 f2:List Addr)(w:World)(h1:Ag w f1 v1 xs)(h2:Ag w f2 v2 xs) :
  Calls Tryz.prog 15 #[.agg #[int i64 C,v1],.agg #[int i64 C,v2]] w fun e w' => e= .returned (.bool true)∧Below w.heap.size w w':=by
 have H1:=hid h1;have H2:=hid h2;obtain⟨A1,c1,rfl,-⟩:=h1.form;obtain⟨A2,c2,rfl,-⟩:=h2.form;clear h1 h2;go_enter Tryz.func15,Tryz.ntmps15
 go_wp2_with fail
 have B1:Below w.heap.size w ((w.alloc (.cells #[int i64 C,.slice A1 xs.length c1] 41)).alloc (.cells #[int i64 C,.slice A2 xs.length c2] 41)):=((Below.refl _ _).alloc (Nat.le_refl _) _).alloc (by simp) _;refine(GC _ _ xs xs f1 f2 _ (H1.out.below B1) (H2.out.below B1)).mono ?_;rintro e w1 ⟨rfl,hb1⟩;have B2:=hid (B1.trans (hb1.mono B1.size));clear hb1 B1;go_wp2_with fail
 go_ret
 exact⟨rfl,B2.out⟩
theorem Jc(C:Int)(v:Value)(xs:List UInt8)(fs:List Addr)(w:World)(k lo:Nat)(h1:Ag w fs v xs)(hm:Az lo w fs)(hk0:k≤1000000000000)(hsm:xs.length≤1000000000000) :
  Calls Tryz.prog 17 #[.agg #[int i64 C,v],int i64 k] w fun e w' => e= .returned (int i64 ((k:Int)+(xs.length:Int)))∧AF fs w w'∧Ag w' fs v (BH k xs.length):=by
 have H1:=hid h1;have HM:=hid hm;obtain⟨A1,c1,rfl,-⟩:=h1.form;clear h1 hm;go_enter Tryz.func17,Tryz.ntmps17
 go_wp2_with fail
 have B1:Below w.heap.size w (w.alloc (.cells #[int i64 C,.slice A1 xs.length c1] 41)):=(Below.refl _ _).alloc (Nat.le_refl _) _;have W1:AF fs w (w.alloc (.cells #[int i64 C,.slice A1 xs.length c1] 41)):=.of_below B1;refine(Jp _ xs fs _ k lo (H1.out.below B1) (HM.out.wrote W1 (rSl.there Ah.fixed H1.out)) hk0 hsm).mono ?_;rintro e w1 ⟨rfl,hw1,hr1⟩;have W2:=hid (W1.trans hw1);have R1:=hid hr1;clear W1 B1 hw1 hr1;go_wp2_with fail
 go_ret
 exact⟨rfl,W2.out,R1.out⟩
theorem FV(C:Int)(v:Value)(xs:List UInt8)(fs:List Addr)(w:World)(k:Nat)(h1:Ag w fs v xs)(hk0:k≤1000000000000)(hsm:xs.length≤1000000000000)(hx:xs=BH k xs.length) :
  Calls Tryz.prog 18 #[.agg #[int i64 C,v],int i64 k] w fun e w' => e= .returned (int i64 ((k:Int)+(xs.length:Int)))∧Below w.heap.size w w':=by
 have H1:=hid h1;have HX:=hid hx;obtain⟨A1,c1,rfl,-⟩:=h1.form;clear h1 hx;go_enter Tryz.func18,Tryz.ntmps18
 go_wp2_with fail
 have B1:Below w.heap.size w (w.alloc (.cells #[int i64 C,.slice A1 xs.length c1] 41)):=(Below.refl _ _).alloc (Nat.le_refl _) _;refine(Ns _ xs fs _ k (H1.out.below B1) hk0 hsm).mono ?_;rintro e w1 ⟨rfl,hb1⟩;have B2:=hid (B1.trans (hb1.mono B1.size));clear hb1 B1;rw[Li HX.out];have hnn:¬(k:Int)+(xs.length:Int)<0:=by omega
 go_wp2_with fail
 go_ret
 exact⟨rfl,B2.out⟩
end Go.Proofs.YtfjkoifpdoemdaaGreat
namespace Go.Proofs.YtfjkoifpdoemdaaGreat
open Go.RowKit Go.Sort
open Go.Lib (hid)
theorem AN.close_ {w:World} {ad:Addr} {c:Nat} {ss:List Int}(h1:ss.length≤c)(h2:c≤9223372036854775807)(h:∀k,(hk:k<ss.length)→w.cell? (ad.add k)=some (int i64 ss[k])∧okI ss[k]) :
  AN w (AU ad ss.length) (.slice (some ad) ss.length c) ss:=by
 refine⟨some ad,c,rfl,h1,by omega,.inr ⟨ad,ss.map fun b => [int i64 b],ss.map fun _ => [],rfl,by simp,by simp,?_,fun i hi =>⟨by simpa using hi,by simpa using hi,by simp,fun j hj => ?_,?_⟩⟩⟩
 ·have:(ss.map fun _ =>([]:List Addr)).flatten = []:=by simp[List.flatten_eq_nil_iff]
  rw[this];simp
 ·simp at hj;subst hj;simpa using(h i hi).1
 ·simpa [Ay,okI]using(h i hi).2
theorem AN.form {w:World} {fs:List Addr} {v:Value} {ss:List Int}(h:AN w fs v ss) :
  ∃A c,v= .slice A ss.length c∧ss.length≤c∧c≤9223372036854775807∧((ss= []∧fs= [])∨∃ad,A=some ad∧fs=AU ad ss.length∧∀k,(hk:k<ss.length)→w.cell? (ad.add k)=some (int i64 ss[k])∧okI ss[k]):=by
 obtain⟨A,c,e,h1,h2,h3⟩:=h;refine⟨A,c,e,h1,by omega,?_⟩;rcases h3 with h3|⟨ad,css,fss,e1,e2,e3,e4,h3⟩
 ·exact .inl h3
 ·have hz:fss.flatten= []:=by
   rw[List.flatten_eq_nil_iff];intro f hf;obtain⟨i,hi,rfl⟩:=List.getElem_of_mem hf;obtain⟨_,_,_,_,q,_⟩:=h3 i (by omega);exact q
  refine .inr ⟨ad,e1,by rw[e4,hz];simp,fun k hk => ?_⟩;obtain⟨q1,q2,q3,q4,q5,q6,q8⟩:=h3 k hk;have q7:=q4 0 (by omega);simp only[q6,List.getElem_cons_zero,Nat.mul_one,Nat.add_zero]at q7;exact⟨q7,q8⟩
theorem AN.store {w:World} {fs:List Addr} {ad:Addr} {c n:Nat} {ss:List Int}(h:AN w fs (.slice (some ad) n c) ss)(hn:fs.Nodup) {j:Nat}(hj:j<ss.length)(b:Int)(hb:okI b) :
  AN (w.setCell (ad.add j) (int i64 b)) fs (.slice (some ad) n c) (ss.set j b):=by
 obtain⟨A,c',e,h1,h2,h3⟩:=AN.form h;injection e with e1 e2 e3
 subst e2 e3;rcases h3 with⟨rfl,_⟩|⟨ad',q1,q4,h3⟩
 ·simp at hj
 ·rw[← e1]at q1;injection q1 with q1
  subst q1;have:=AN.close_ (w:=w.setCell (ad.add j) (int i64 b)) (ad:=ad) (c:=c) (ss:=ss.set j b) (by simpa using h1) h2 (fun k hk => by
   simp only[List.length_set]at hk;by_cases e:j=k
   ·subst e;rw[World.cell?_setCell_same _ _ _ (h3 j hk).1,List.getElem_set_self];exact⟨rfl,hb⟩
   ·rw[World.cell?_setCell_other,List.getElem_set_ne e]
    ·exact h3 k hk
    ·intro e';rw[q4]at hn;exact e (Gx hn hj hk e'))
  rw[List.length_set,← q4]at this;exact this
theorem AN.below {w w':World} {fs:List Addr} {v:Value} {ss:List Int}(h:AN w fs v ss)(hb:Below w.heap.size w w'):AN w' fs v ss:=rSl.below Ay.local_ Ay.fixed h hb
def mkI(k n:Nat):List Int:=(List.range n).map fun i =>((k+i:Nat):Int)
theorem Fc(k n:Nat):(mkI k n).length =n:=by simp[mkI]
theorem get_mkI(k n i:Nat)(h:i<(mkI k n).length):(mkI k n)[i] =((k+i:Nat):Int):=by simp[mkI]
theorem Qt {k j:Nat} {ss:List Int}(h:j<ss.length):(mkI k j ++ ss.drop j).set j ((k+j:Nat):Int)=mkI k (j+1) ++ ss.drop (j+1):=by
 apply List.ext_getElem
 ·simp[Fc];omega
 ·intro i h1 h2;simp only[List.getElem_set,List.getElem_append,Fc,get_mkI,List.getElem_drop];simp only[List.length_set,List.length_append,Fc,List.length_drop]at h1;by_cases e:j=i
  ·subst e;simp
  ·rw[if_neg e];by_cases h:i<j
   ·rw[dif_pos h,dif_pos (by omega)]
   ·rw[dif_neg h,dif_neg (by omega)];congr 1;omega
theorem IR(v:Value)(ss:List Int)(fs:List Addr)(w:World)(k lo:Nat)(h1:AN w fs v ss)(hm:Az lo w fs)(hk0:k≤1000000000000)(hsm:ss.length≤1000000000000) :
  Calls Tryz.prog 58 #[v,int i64 (k:Int)] w fun e w' => e= .returned (int i64 ((k+ss.length:Nat):Int))∧AF fs w w'∧AN w' fs v (mkI k ss.length):=by
 have HM:=hid hm;have H1:=hid h1;obtain⟨A1,c1,rfl,hc1,hm1,hx⟩:=AN.open_ h1;have HX:=hid hx;clear h1 hm hx;obtain⟨R,hR⟩:∃R:Nat,k+ss.length=R:=⟨_,rfl⟩;rw[hR];have HR:=hid hR;clear hR;go_enter Tryz.func58,Tryz.ntmps58
 go_wp2
 go_loopw [1,5] (fun n i wr =>∃j c:Nat,j≤ss.length∧c=k+j∧i= int i64 j∧n= int i64 (c:Int)∧AF fs w wr∧AN wr fs (.slice A1 ss.length c1) (mkI k j ++ ss.drop j)) (fun _ i _ => ss.length - (intOf i).toNat)
 case atStart => exact⟨0,k,by omega,rfl,rfl,rfl,AF.refl _ _,by simpa [mkI]using H1.out⟩
 case round =>
  obtain⟨j,c,hj,hc,rfl,rfl,hwr,hrb⟩:=hrel;by_cases hlt:j<ss.length
  ·obtain⟨a1,e1,i1,b1,g1,_⟩:=HX.out j hlt;subst e1;have hM2:Az lo wr fs:=HM.out.wrote hwr (rSl.there Ay.fixed H1.out);have hcell:∃u,wr.cell? (a1.add j)=some u:=by
    obtain⟨A,c,e,_,_,h⟩:=AN.open_ hrb;obtain⟨ad,e2,_,_,h2,_⟩:=h j (by simp[Fc];omega);injection e with e3 e4 e5
    rw[e2]at e3;injection e3 with e6
    rw[e6];exact⟨_,h2⟩
   obtain⟨old,hold⟩:=hcell;have hfz:=hM2.free _ i1;have hcb:c≤10000000000000:=by omega
   have HRB:=hid hrb;have HW:=hid hwr;have HC:=hid hc;clear hrb hwr hM2 g1 hc;go_wp2_with fail
   go_roundw
   case rel =>
    refine⟨j+1,c+1,by omega,by have:=HC.out;omega,by congr 1,by congr 1,HW.out.setCell i1 _,?_⟩;have H:=AN.store HRB.out HM.out.nodup (j:=j) (by simp[Fc];omega) (c:Int) (by unfold okI;omega);rw[HC.out,Qt hlt,← HC.out]at H;exact H
   case measure => simp[intOf];omega
  ·have hje:j=ss.length:=by omega
   subst hje;rw[HR.out]at hc;subst hc;have HRB:=hid hrb;have HW:=hid hwr;clear hrb hwr;go_wp2_with fail
   go_ret
   refine⟨rfl,HW.out,?_⟩;have H:=HRB.out;rw[List.drop_length,List.append_nil]at H;exact H
structure FS (k:Nat) (w0 u:World) (b o:Nat) (cs:List Value) (gs:List Addr):Prop where
 lt:b<u.heap.size
 len:cs.length=k
 cell:∀q,(hq:q<cs.length)→u.cell? ⟨b,o+q,none⟩=some cs[q]
 free:∀q,q<k→u.frozen? ⟨b,o+q,none⟩=false
 wrote:AF gs w0 u
 mem:∀q,q<k→(⟨b,o+q,none⟩:Addr)∈gs
section
variable {k:Nat} {w0 u u':World} {b o:Nat} {cs:List Value} {gs:List Addr}
theorem FS.set_(h:FS k w0 u b o cs gs)(q:Nat)(hq:q<k)(v:Value):FS k w0 (u.setCell ⟨b,o+q,none⟩ v) b o (cs.set q v) gs:=by
 refine⟨by simpa [World.setCell]using h.lt,by simpa using h.len,fun p hp => ?_,fun p hp => ?_,h.wrote.setCell (h.mem q hq) v,h.mem⟩
 ·simp only[List.length_set]at hp;by_cases e:q=p
  ·subst e;rw[World.cell?_setCell_same _ _ _ (h.cell q hp),List.getElem_set_self]
  ·rw[World.cell?_setCell_other _ _ _ _ (fun e2 => e (by injection e2 with _ e3;omega)),List.getElem_set_ne e];exact h.cell p hp
 ·rw[World.frozen?_setCell];exact h.free p hp
theorem FS.below(h:FS k w0 u b o cs gs)(hb:Below u.heap.size u u'):FS k w0 u' b o cs gs :=
 ⟨Nat.lt_of_lt_of_le h.lt hb.size,h.len,fun q hq =>(hb.cell (p:=⟨b,o+q,none⟩) h.lt).trans (h.cell q hq),fun q hq =>(hb.frozen (p:=⟨b,o+q,none⟩) h.lt).trans (h.free q hq),h.wrote.trans (AF.of_below hb),h.mem⟩
theorem FS.sub(h:FS k w0 u b o cs gs) {f:List Addr}(hw:AF f u u')(hf:∀a,a∈f→a∈gs)(hn:∀q,q<k→(⟨b,o+q,none⟩:Addr)∉f):FS k w0 u' b o cs gs :=
 ⟨Nat.lt_of_lt_of_le h.lt hw.size,h.len,fun q hq =>(hw.cell ⟨b,o+q,none⟩ (hn q (by rw[← h.len];exact hq)) h.lt).trans (h.cell q hq),fun q hq =>(hw.frozen ⟨b,o+q,none⟩ h.lt).trans (h.free q hq),h.wrote.trans (hw.mono hf),h.mem⟩
end
def Bg(d:Br):Nat:=1+d.bytes.length
def Ek(k:Nat)(d:Br):Br:=⟨((k:Nat):Int),(BH (k+1) d.bytes.length)⟩
def AG(d:AL):Nat:=1+AA Bg d.blocks
def CO(k:Nat)(d:AL):AL:=⟨(decide ((k) % 3=0)),(Bh Ek Bg (k+1) d.blocks)⟩
def BI(d:Ai):Nat:=1+1+1+1+1+1+d.rows.length+d.data.length+d.delta.length
def Fj(k:Nat)(d:Ai):Ai:=⟨((k:Nat):Int),((k+1:Nat):Int),(mkT (k+1+1)),((k+1+1+1:Nat):Int),((k+1+1+1+1:Nat):Int),((k+1+1+1+1+1:Nat):Int),(mkI (k+1+1+1+1+1+1) d.rows.length),(BH (k+1+1+1+1+1+1+d.rows.length) d.data.length),(BH (k+1+1+1+1+1+1+d.rows.length+d.data.length) d.delta.length)⟩
def Bt(d:AQ):Nat:=1+AA BI d.recs
def FA(k:Nat)(d:AQ):AQ:=⟨(decide ((k) % 3=0)),(Bh Fj BI (k+1) d.recs)⟩
theorem EX {α:Type}(num:α→Nat)(h:∀d,1≤num d):∀l:List α,l.length≤AA num l
 | [] => by simp
 |d :: r => by have:=EX num h r;have:=h d;simp only[List.length_cons,AA];omega
theorem GT(v:Value)(xs:List UInt8)(fs:List Addr)(w:World)(k:Nat)(lo:Nat)(h1:rSl 1 Ah w fs v xs)(hm:Az lo w fs)(_:0<k)(hk0:k+xs.length≤1000000000) :
  Calls Tryz.prog 60 #[v,int i64 (k:Int)] w fun e w' => e= .returned (int i64 ((k+xs.length:Nat):Int))∧AF fs w w'∧rSl 1 Ah w' fs v (BH k xs.length):=by
 refine(Jp v xs fs w k lo h1 hm (by omega) (by omega)).mono ?_;rintro e w' ⟨rfl,h2,h3⟩;exact⟨by rw[Int.natCast_add],h2,h3⟩
theorem My(v:Value)(ds:List Br)(fs:List Addr)(w:World)(k lo:Nat)(h1:rSl 2 AD w fs v ds)(hm:Az lo w fs)(hk:0<k)(hk0:k+AA Bg ds≤1000000000) :
  Calls Tryz.prog 193 #[v,int i64 (k:Int)] w fun e w' => e= .returned (int i64 ((k+AA Bg ds:Nat):Int))∧AF fs w w'∧rSl 2 AD w' fs v (Bh Ek Bg k ds):=by
 have H1:=hid h1;have HM:=hid hm;obtain⟨A1,c1,rfl,hc1,hm1⟩:=rSl.head h1;clear h1 hm;have hn0:ds.length≤1000000000:=by have:=EX Bg (fun d => by unfold Bg;omega) ds;omega
 obtain⟨R,hR⟩:∃R:Nat,k+AA Bg ds=R:=⟨_,rfl⟩;have HNS:=hid (fun j (h:j<ds.length) => show k+AA Bg (ds.take j)+Bg ds[j]≤1000000000 from by
  have:=Cy Bg h;have:=Dd Bg ds (j+1);omega)
 rw[hR]at hk0⊢;have HR:=hid hR;clear hR;go_enter Tryz.func193,Tryz.ntmps193
 go_wp2
 go_loopw [1,5] (fun n i wr =>∃(j c:Nat),j≤ds.length∧c=k+AA Bg (ds.take j)∧i= int i64 j∧n= int i64 (c:Int)∧rSl 2 AD wr fs (.slice A1 ds.length c1) (Ca Ek Bg k ds j)∧AF fs w wr) (fun _ i _ => ds.length - (intOf i).toNat)
 case atStart => exact⟨0,k,by omega,by simp[AA],rfl,rfl,by rw[D3];exact H1.out,AF.refl _ _⟩
 case round =>
  obtain⟨j,c,hj,hc,rfl,rfl,hrt,hwr⟩:=hrel;by_cases hlt:j<ds.length
  case neg =>
   have hje:j=ds.length:=by omega
   subst hje;rw[En]at hrt;rw[List.take_length,HR.out]at hc;subst hc;have HW:=hid hwr;have HRT:=hid hrt;clear hwr hrt;go_wp2_with fail
   go_ret
   exact⟨rfl,HW.out,HRT.out⟩
  have hsl:=DA Ek Bg k ds j hj;have hM2:Az lo wr fs:=HM.out.wrote hwr (rSl.there AD.fixed H1.out);obtain⟨ad,c0,b,o,cs,fk,ev,hat,hnd,hnot,hupd⟩:=rSl.upd AD.local_ AD.fixed (by decide) hrt hM2.nodup j (by omega);rw[Ed Ek Bg k ds j hlt (by omega)]at hat;injection ev with ev1 ev2 ev3
  subst ev1 ev3;obtain⟨v0,f0,ecs,efk,o0,h0⟩:=hat.reads;subst ecs efk;obtain⟨A0,c2,rfl,hc2,hm2⟩:=rSl.head h0;have pb:=hat.lt;have p0:wr.cell? ⟨b,o,none⟩=some (int i64 ds[j].stamp):=by have:=hat.cell 0 (by simp);simpa using this
  have p1:wr.cell? ⟨b,o+1,none⟩=some (.slice A0 ds[j].bytes.length c2):=by have:=hat.cell 1 (by simp);simpa using this
  have fz0:wr.frozen? ⟨b,o,none⟩=false:=hM2.free _ (hat.mem 0 (by decide));have m0:(⟨b,o,none⟩:Addr)∈fs:=hat.mem 0 (by decide);have hP:=hat.place;have hnum:=HNS.out j hlt;rw[← hc]at hnum;have hcb:c≤1000000000:=by omega
  have hck:0<c:=by omega
  have hnm:Bg ds[j] =1+ds[j].bytes.length:=rfl;rw[hnm]at hnum;clear hnm;have HUPD:=hid hupd;have HC:=hid hc;have HW:=hid hwr;have HM2:=hid hM2;have HAT:=hid hat;have HSL:=hid hsl;have HND:=hid hnd;have HNOT:=hid hnot;have H0:=hid h0;have HNUM:=hid hnum;have P1:=hid p1;clear hupd hc hwr hM2 hat hsl hnd hnot h0 hrt hnum ev2;go_wp2_with fail
  obtain⟨W2,hW2⟩:∃W2,wr.setCell ⟨b,o,none⟩ (int i64 (c:Int))=W2:=⟨_,rfl⟩;have hsz2:W2.heap.size=wr.heap.size:=by rw[← hW2];simp[World.setCell]
  have hoth:∀a:Addr,a≠⟨b,o,none⟩→W2.cell? a=wr.cell? a:=fun a h1 => by rw[← hW2,World.cell?_setCell_other _ _ _ _ (Ne.symm h1)]
  have s0:W2.cell? ⟨b,o,none⟩=some (int i64 (c:Int)):=by rw[← hW2,World.cell?_setCell_same _ _ _ p0]
  have hWr2:AF fs wr W2:=by rw[← hW2];exact(AF.refl _ _).setCell m0 _
  have h02:rSl 1 Ah W2 fk (.slice A0 ds[j].bytes.length c2) ds[j].bytes:=rSl.keep Ah.local_ H0.out fun a ha => hoth a (fun e => HNOT.out 0 (by decide) (by rw[← show a=⟨b,o+0,none⟩from e];exact ha))
  have hmf:Az lo W2 fk:=⟨HND.out,fun a ha => HM2.out.from_ a (HAT.out.sub a ha),fun a ha =>(hWr2.frozen a (HAT.out.there a ha)).trans (HM2.out.free a (HAT.out.sub a ha))⟩;rw[hW2,show((c:Int)+1)=((c+1:Nat):Int)from by omega];have HO:=hid hoth;have S0:=hid s0;have HW2:=hid hWr2;have HS2:=hid hsz2;clear hW2 hoth s0 hWr2 hsz2 p0 p1 fz0;refine(GT _ ds[j].bytes fk W2 (c+1) lo h02 hmf (by omega) (by have:=HNUM.out;omega)).mono ?_;rintro e w3 ⟨rfl,hw3,hr3⟩;have HW3:=hid hw3;have HR3:=hid hr3;clear hw3 hr3 h02 hmf;go_wp2_with fail
  go_roundw
  case rel =>
   have hb2:b<W2.heap.size:=by rw[HS2.out];exact pb
   have t0:=(HW3.out.cell ⟨b,o,none⟩ (HNOT.out 0 (by decide)) hb2).trans S0.out;have t1:=((HW3.out.cell ⟨b,o+1,none⟩ (HNOT.out 1 (by decide)) hb2).trans (HO.out _ (by simp))).trans P1.out;have hnew:=HUPD.out w3 [int i64 (c:Int),.slice A0 ds[j].bytes.length c2] (Ek c ds[j]) rfl (fun a ha h0 hf => by
     have hwa:a.block<wr.heap.size:=Nat.lt_of_lt_of_le (rSl.there AD.fixed H1.out a ha) HW.out.size;rw[HW3.out.cell a hf (Nat.lt_of_lt_of_le hwa HW2.out.size),HO.out a (h0 0 (by decide))])
    (fun q hq => by
     rcases q with _|q
     ·exact t0
     ·obtain rfl:q=0:=by simp at hq;omega
      exact t1)
    ⟨_,fk,rfl,rfl,by unfold okI Ek;simp only;omega,HR3.out⟩
   rw[show c=k+AA Bg (ds.take j)from HC.out,Ee Ek Bg k ds j hlt]at hnew;refine⟨j+1,c+1+ds[j].bytes.length,by omega,?_,by go_num,by congr 1,hnew,(HW.out.trans HW2.out).trans (HW3.out.mono HAT.out.sub)⟩;rw[Cy Bg hlt,HC.out];simp only[Bg];omega
  case measure => simp[intOf];omega
theorem MF(v:Value)(ds:List AL)(fs:List Addr)(w:World)(k lo:Nat)(h1:rSl 2 Aj w fs v ds)(hm:Az lo w fs)(hk:0<k)(hk0:k+AA AG ds≤1000000000) :
  Calls Tryz.prog 111 #[v,int i64 (k:Int)] w fun e w' => e= .returned (int i64 ((k+AA AG ds:Nat):Int))∧AF fs w w'∧rSl 2 Aj w' fs v (Bh CO AG k ds):=by
 have H1:=hid h1;have HM:=hid hm;obtain⟨A1,c1,rfl,hc1,hm1⟩:=rSl.head h1;clear h1 hm;have hn0:ds.length≤1000000000:=by have:=EX AG (fun d => by unfold AG;omega) ds;omega
 obtain⟨R,hR⟩:∃R:Nat,k+AA AG ds=R:=⟨_,rfl⟩;have HNS:=hid (fun j (h:j<ds.length) => show k+AA AG (ds.take j)+AG ds[j]≤1000000000 from by
  have:=Cy AG h;have:=Dd AG ds (j+1);omega)
 rw[hR]at hk0⊢;have HR:=hid hR;clear hR;go_enter Tryz.func111,Tryz.ntmps111
 go_wp2
 go_loopw [1,5] (fun n i wr =>∃(j c:Nat),j≤ds.length∧c=k+AA AG (ds.take j)∧i= int i64 j∧n= int i64 (c:Int)∧rSl 2 Aj wr fs (.slice A1 ds.length c1) (Ca CO AG k ds j)∧AF fs w wr) (fun _ i _ => ds.length - (intOf i).toNat)
 case atStart => exact⟨0,k,by omega,by simp[AA],rfl,rfl,by rw[D3];exact H1.out,AF.refl _ _⟩
 case round =>
  obtain⟨j,c,hj,hc,rfl,rfl,hrt,hwr⟩:=hrel;by_cases hlt:j<ds.length
  case neg =>
   have hje:j=ds.length:=by omega
   subst hje;rw[En]at hrt;rw[List.take_length,HR.out]at hc;subst hc;have HW:=hid hwr;have HRT:=hid hrt;clear hwr hrt;go_wp2_with fail
   go_ret
   exact⟨rfl,HW.out,HRT.out⟩
  have hsl:=DA CO AG k ds j hj;have hM2:Az lo wr fs:=HM.out.wrote hwr (rSl.there Aj.fixed H1.out);obtain⟨ad,c0,b,o,cs,fk,ev,hat,hnd,hnot,hupd⟩:=rSl.upd Aj.local_ Aj.fixed (by decide) hrt hM2.nodup j (by omega);rw[Ed CO AG k ds j hlt (by omega)]at hat;injection ev with ev1 ev2 ev3
  subst ev1 ev3;obtain⟨v0,f0,ecs,efk,h0⟩:=hat.reads;subst ecs efk;obtain⟨A0,c2,rfl,hc2,hm2⟩:=rSl.head h0;have pb:=hat.lt;have p0:wr.cell? ⟨b,o,none⟩=some (.bool ds[j].wiped):=by have:=hat.cell 0 (by simp);simpa using this
  have p1:wr.cell? ⟨b,o+1,none⟩=some (.slice A0 ds[j].blocks.length c2):=by have:=hat.cell 1 (by simp);simpa using this
  have fz0:wr.frozen? ⟨b,o,none⟩=false:=hM2.free _ (hat.mem 0 (by decide));have m0:(⟨b,o,none⟩:Addr)∈fs:=hat.mem 0 (by decide);have hP:=hat.place;have hnum:=HNS.out j hlt;rw[← hc]at hnum;have hcb:c≤1000000000:=by omega
  have hck:0<c:=by omega
  have hnm:AG ds[j] =1+AA Bg ds[j].blocks:=rfl;rw[hnm]at hnum;clear hnm;obtain⟨L,hL⟩:∃L,decide (c % 3=0)=L:=⟨_,rfl⟩;have hm3:((c:Int) % 3 == 0)=L:=(mod3 c).trans hL;have HL:=hid hL;clear hL;have HUPD:=hid hupd;have HC:=hid hc;have HW:=hid hwr;have HM2:=hid hM2;have HAT:=hid hat;have HSL:=hid hsl;have HND:=hid hnd;have HNOT:=hid hnot;have H0:=hid h0;have HNUM:=hid hnum;have P1:=hid p1;clear hupd hc hwr hM2 hat hsl hnd hnot h0 hrt hnum ev2;go_wp2_with fail
  obtain⟨W2,hW2⟩:∃W2,wr.setCell ⟨b,o,none⟩ (.bool L)=W2:=⟨_,rfl⟩;have hsz2:W2.heap.size=wr.heap.size:=by rw[← hW2];simp[World.setCell]
  have hoth:∀a:Addr,a≠⟨b,o,none⟩→W2.cell? a=wr.cell? a:=fun a h1 => by rw[← hW2,World.cell?_setCell_other _ _ _ _ (Ne.symm h1)]
  have s0:W2.cell? ⟨b,o,none⟩=some (.bool L):=by rw[← hW2,World.cell?_setCell_same _ _ _ p0]
  have hWr2:AF fs wr W2:=by rw[← hW2];exact(AF.refl _ _).setCell m0 _
  have h02:rSl 2 AD W2 fk (.slice A0 ds[j].blocks.length c2) ds[j].blocks:=rSl.keep AD.local_ H0.out fun a ha => hoth a (fun e => HNOT.out 0 (by decide) (by rw[← show a=⟨b,o+0,none⟩from e];exact ha))
  have hmf:Az lo W2 fk:=⟨HND.out,fun a ha => HM2.out.from_ a (HAT.out.sub a ha),fun a ha =>(hWr2.frozen a (HAT.out.there a ha)).trans (HM2.out.free a (HAT.out.sub a ha))⟩;rw[hW2,show((c:Int)+1)=((c+1:Nat):Int)from by omega];have HO:=hid hoth;have S0:=hid s0;have HW2:=hid hWr2;have HS2:=hid hsz2;clear hW2 hoth s0 hWr2 hsz2 p0 p1 fz0 hm3;refine(My _ ds[j].blocks fk W2 (c+1) lo h02 hmf (by omega) (by have:=HNUM.out;omega)).mono ?_;rintro e w3 ⟨rfl,hw3,hr3⟩;have HW3:=hid hw3;have HR3:=hid hr3;clear hw3 hr3 h02 hmf;go_wp2_with fail
  go_roundw
  case rel =>
   have hb2:b<W2.heap.size:=by rw[HS2.out];exact pb
   have t0:=(HW3.out.cell ⟨b,o,none⟩ (HNOT.out 0 (by decide)) hb2).trans S0.out;have t1:=((HW3.out.cell ⟨b,o+1,none⟩ (HNOT.out 1 (by decide)) hb2).trans (HO.out _ (by simp))).trans P1.out;have hnew:=HUPD.out w3 [.bool L,.slice A0 ds[j].blocks.length c2] (CO c ds[j]) rfl (fun a ha h0 hf => by
     have hwa:a.block<wr.heap.size:=Nat.lt_of_lt_of_le (rSl.there Aj.fixed H1.out a ha) HW.out.size;rw[HW3.out.cell a hf (Nat.lt_of_lt_of_le hwa HW2.out.size),HO.out a (h0 0 (by decide))])
    (fun q hq => by
     rcases q with _|q
     ·exact t0
     ·obtain rfl:q=0:=by simp at hq;omega
      exact t1)
    ⟨_,fk,by rw[← HL.out];rfl,rfl,HR3.out⟩
   rw[show c=k+AA AG (ds.take j)from HC.out,Ee CO AG k ds j hlt]at hnew;refine⟨j+1,c+1+AA Bg ds[j].blocks,by omega,?_,by go_num,by congr 1,hnew,(HW.out.trans HW2.out).trans (HW3.out.mono HAT.out.sub)⟩;rw[Cy AG hlt,HC.out];simp only[AG];omega
  case measure => simp[intOf];omega
theorem LD(v:Value)(ds:List (List AL))(fs:List Addr)(w:World)(k lo:Nat)(h1:rSl 1 (Ak 2 Aj) w fs v ds)(hm:Az lo w fs)(hk:0<k)(hk0:k+AA (AA AG) ds≤1000000000)(hn0:ds.length≤1000000000) :
  Calls Tryz.prog 57 #[v,int i64 (k:Int)] w fun e w' => e= .returned (int i64 ((k+AA (AA AG) ds:Nat):Int))∧AF fs w w'∧rSl 1 (Ak 2 Aj) w' fs v (Bh (Bh CO AG) (AA AG) k ds):=by
 have H1:=hid h1;have HM:=hid hm;obtain⟨A1,c1,rfl,hc1,hm1⟩:=rSl.head h1;clear h1 hm;obtain⟨R,hR⟩:∃R:Nat,k+AA (AA AG) ds=R:=⟨_,rfl⟩;have HNS:=hid (fun j (h:j<ds.length) => show k+AA (AA AG) (ds.take j)+AA AG ds[j]≤1000000000 from by
  have:=Cy (AA AG) h;have:=Dd (AA AG) ds (j+1);omega)
 rw[hR]at hk0⊢;have HR:=hid hR;clear hR;go_enter Tryz.func57,Tryz.ntmps57
 go_wp2
 go_loopw [1,5] (fun n i wr =>∃(j c:Nat),j≤ds.length∧c=k+AA (AA AG) (ds.take j)∧i= int i64 j∧n= int i64 (c:Int)∧rSl 1 (Ak 2 Aj) wr fs (.slice A1 ds.length c1) (Ca (Bh CO AG) (AA AG) k ds j)∧AF fs w wr) (fun _ i _ => ds.length - (intOf i).toNat)
 case atStart => exact⟨0,k,by omega,by simp[AA],rfl,rfl,by rw[D3];exact H1.out,AF.refl _ _⟩
 case round =>
  obtain⟨j,c,hj,hc,rfl,rfl,hrt,hwr⟩:=hrel;by_cases hlt:j<ds.length
  case neg =>
   have hje:j=ds.length:=by omega
   subst hje;rw[En]at hrt;rw[List.take_length,HR.out]at hc;subst hc;have HW:=hid hwr;have HRT:=hid hrt;clear hwr hrt;go_wp2_with fail
   go_ret
   exact⟨rfl,HW.out,HRT.out⟩
  have hsl:=DA (Bh CO AG) (AA AG) k ds j hj;have hM2:Az lo wr fs:=HM.out.wrote hwr (rSl.there (Ak.fixed Aj.fixed) H1.out);obtain⟨ad,c0,b,o,cs,fk,ev,hat,hnd,hnot,hupd⟩:=rSl.upd (Ak.local_ Aj.local_) (Ak.fixed Aj.fixed) (by decide) hrt hM2.nodup j (by omega);rw[Ed (Bh CO AG) (AA AG) k ds j hlt (by omega)]at hat;injection ev with ev1 ev2 ev3
  subst ev1 ev3;obtain⟨v0,ecs,h0⟩:=hat.reads;subst ecs;obtain⟨A0,c2,rfl,hc2,hm2⟩:=rSl.head h0;have pb:=hat.lt;have p0:wr.cell? ⟨b,o,none⟩=some (.slice A0 ds[j].length c2):=by have:=hat.cell 0 (by simp);simpa using this
  have hP:=hat.place;simp only[Nat.mul_one]at hP;have hnum:=HNS.out j hlt;rw[← hc]at hnum;have hcb:c≤1000000000:=by omega
  have hck:0<c:=by omega
  have hmf:Az lo wr fk:=⟨hnd,fun a ha => hM2.from_ a (hat.sub a ha),fun a ha => hM2.free a (hat.sub a ha)⟩;have HUPD:=hid hupd;have HC:=hid hc;have HW:=hid hwr;have HAT:=hid hat;have HNOT:=hid hnot;have H0:=hid h0;have HNUM:=hid hnum;have P0:=hid p0;have HMF:=hid hmf;clear hupd hc hwr hM2 hat hsl hnd hnot h0 hrt hnum ev2 hmf;go_wp2_with fail
  refine(MF _ ds[j] fk wr c lo H0.out HMF.out (by omega) (by have:=HNUM.out;omega)).mono ?_;rintro e w3 ⟨rfl,hw3,hr3⟩;have HW3:=hid hw3;have HR3:=hid hr3;clear hw3 hr3 p0;go_wp2_with fail
  go_roundw
  case rel =>
   have t0:=(HW3.out.cell ⟨b,o,none⟩ (HNOT.out 0 (by decide)) pb).trans P0.out;have hnew:=HUPD.out w3 [.slice A0 ds[j].length c2] (Bh CO AG c ds[j]) rfl (fun a ha h0 hf => by
     have hwa:a.block<wr.heap.size:=Nat.lt_of_lt_of_le (rSl.there (Ak.fixed Aj.fixed) H1.out a ha) HW.out.size;rw[HW3.out.cell a hf hwa])
    (fun q hq => by
     obtain rfl:q=0:=by simp at hq;omega
     exact t0)
    ⟨_,rfl,HR3.out⟩
   rw[show c=k+AA (AA AG) (ds.take j)from HC.out,Ee (Bh CO AG) (AA AG) k ds j hlt]at hnew;refine⟨j+1,c+AA AG ds[j],by omega,?_,by go_num,by congr 1,hnew,HW.out.trans (HW3.out.mono HAT.out.sub)⟩;rw[Cy (AA AG) hlt,HC.out];omega
  case measure => simp[intOf];omega
end Go.Proofs.YtfjkoifpdoemdaaGreat
