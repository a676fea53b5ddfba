/- Part 48 of the proof. -/
import Derived.Test.YtfjkoifpdoemdaaGreatJ01
import Derived.Lib.QuietBelow
set_option maxHeartbeats 8000000
set_option maxRecDepth 100000
set_option linter.unusedVariables false
set_option linter.unusedSimpArgs false
open Go.Proofs.Tryz
open Go.Value (int)
open Go.IntKind (i64)
namespace Go.Proofs.YtfjkoifpdoemdaaGreat
open Go.RowKit Go.Sort
theorem AO.close_ {w:World} {ad:Addr} {c:Nat} {ss:List Int}(h1:ss.length≤c)(h2:c≤9223372036854775807)(h:∀k,(hk:k<ss.length)→w.cell? (ad.add k)=some (int i64 ss[k])∧okI ss[k]) :
  AO w (AV ad ss.length) (.slice (some ad) ss.length c) ss:=by
 refine⟨some ad,c,rfl,h1,by omega,.inr ⟨ad,ss.map fun b => [int i64 b],ss.map fun _ => [],rfl,by simp,by simp,?_,fun i hi =>⟨by simpa using hi,by simpa using hi,by simp,fun j hj => ?_,?_⟩⟩⟩
 ·have:(ss.map fun _ =>([]:List Addr)).flatten = []:=by simp[List.flatten_eq_nil_iff]
  rw[this];simp
 ·simp at hj;subst hj;simpa using(h i hi).1
 ·simpa [Az,okI]using(h i hi).2
theorem AO.form {w:World} {fs:List Addr} {v:Value} {ss:List Int}(h:AO w fs v ss) :
  ∃A c,v= .slice A ss.length c∧ss.length≤c∧c≤9223372036854775807∧((ss= []∧fs= [])∨∃ad,A=some ad∧fs=AV ad ss.length∧∀k,(hk:k<ss.length)→w.cell? (ad.add k)=some (int i64 ss[k])∧okI ss[k]):=by
 obtain⟨A,c,e,h1,h2,h3⟩:=h;refine⟨A,c,e,h1,by omega,?_⟩;rcases h3 with h3|⟨ad,css,fss,e1,e2,e3,e4,h3⟩
 ·exact .inl h3
 ·have hz:fss.flatten= []:=by
   rw[List.flatten_eq_nil_iff];intro f hf;obtain⟨i,hi,rfl⟩:=aY hf;obtain⟨_,_,_,_,q,_⟩:=h3 i (by omega);exact q
  refine .inr ⟨ad,e1,by rw[e4,hz];simp,fun k hk => ?_⟩;obtain⟨q1,q2,q3,q4,q5,q6,q8⟩:=h3 k hk;have q7:=q4 0 (by omega);simp only[q6,aU,Nat.mul_one,bE]at q7;exact⟨q7,q8⟩
theorem AO.store {w:World} {fs:List Addr} {ad:Addr} {c n:Nat} {ss:List Int}(h:AO w fs (.slice (some ad) n c) ss)(hn:fs.Nodup) {j:Nat}(hj:j<ss.length)(b:Int)(hb:okI b) :
  AO (w.setCell (ad.add j) (int i64 b)) fs (.slice (some ad) n c) (ss.set j b):=by
 obtain⟨A,c',e,h1,h2,h3⟩:=AO.form h;injection e with e1 e2 e3
 subst e2 e3;rcases h3 with⟨rfl,_⟩|⟨ad',q1,q4,h3⟩
 ·simp at hj
 ·rw[← e1]at q1;injection q1 with q1
  subst q1;have:=AO.close_ (w:=w.setCell (ad.add j) (int i64 b)) (ad:=ad) (c:=c) (ss:=ss.set j b) (by simpa using h1) h2 (fun k hk => by
   simp only[List.length_set]at hk;by_cases e:j=k
   ·subst e;rw[World.cell?_setCell_same _ _ _ (h3 j hk).1,List.getElem_set_self];exact⟨rfl,hb⟩
   ·rw[World.cell?_setCell_other,List.getElem_set_ne e]
    ·exact h3 k hk
    ·intro e';rw[q4]at hn;exact e (F1 hn hj hk e'))
  rw[List.length_set,← q4]at this;exact this
theorem AO.below {w w':World} {fs:List Addr} {v:Value} {ss:List Int}(h:AO w fs v ss)(hb:Below w.heap.size w w'):AO w' fs v ss:=rSl.below Az.local_ Az.fixed h hb
def mkI(k n:Nat):List Int:=(List.range n).map fun i =>((k+i:Nat):Int)
theorem Fp(k n:Nat):(mkI k n).length =n:=by simp[mkI]
theorem get_mkI(k n i:Nat)(h:i<(mkI k n).length):(mkI k n)[i] =((k+i:Nat):Int):=by simp[mkI]
theorem Q3 {k j:Nat} {ss:List Int}(h:j<ss.length):(mkI k j ++ ss.drop j).set j ((k+j:Nat):Int)=mkI k (j+1) ++ ss.drop (j+1):=by
 apply bP
 ·simp[Fp];omega
 ·intro i h1 h2;simp only[List.getElem_set,List.getElem_append,Fp,get_mkI,List.getElem_drop];simp only[List.length_set,bC,Fp,bU]at h1;by_cases e:j=i
  ·subst e;simp
  ·rw[aI e];by_cases h:i<j
   ·rw[dif_pos h,dif_pos (by omega)]
   ·rw[dif_neg h,dif_neg (by omega)];congr 1;omega
theorem I9(v:Value)(ss:List Int)(fs:List Addr)(w:World)(k lo:Nat)(h1:AO w fs v ss)(hm:Aw lo w fs)(hk0:k≤1000000000000)(hsm:ss.length≤1000000000000) :
  Calls prog 58 #[v,int i64 (k:Int)] w fun e w' => e= .returned (int i64 ((k+ss.length:Nat):Int))∧AD fs w w'∧AO w' fs v (mkI k ss.length):=by
 have HM:=U hm;have H1:=U h1;obtain⟨A1,c1,rfl,hc1,hm1,hx⟩:=AO.open_ h1;have HX:=U hx;clear h1 hm hx;obtain⟨R,hR⟩:∃R:Nat,k+ss.length=R:=⟨_,rfl⟩;rw[hR];have HR:=U hR;clear hR;go_enter func58,ntmps58
 go_wp2
 go_loopw [1,5] (fun n i wr =>∃j c:Nat,j≤ss.length∧c=k+j∧i= int i64 j∧n= int i64 (c:Int)∧AD fs w wr∧AO wr fs (.slice A1 ss.length c1) (mkI k j ++ ss.drop j)) (fun _ i _ => ss.length - (intOf i).toNat)
 case atStart => exact⟨0,k,by omega,rfl,rfl,rfl,AD.refl _ _,by simpa [mkI]using H1.o⟩
 case round =>
  obtain⟨j,c,hj,hc,rfl,rfl,hwr,hrb⟩:=hrel;by_cases hlt:j<ss.length
  ·obtain⟨a1,e1,i1,b1,g1,_⟩:=HX.o j hlt;subst e1;have hM2:Aw lo wr fs:=HM.o.wrote hwr (rSl.there Az.fixed H1.o);have hcell:∃u,wr.cell? (a1.add j)=some u:=by
    obtain⟨A,c,e,_,_,h⟩:=AO.open_ hrb;obtain⟨ad,e2,_,_,h2,_⟩:=h j (by simp[Fp];omega);injection e with e3 e4 e5
    rw[e2]at e3;injection e3 with e6
    rw[e6];exact⟨_,h2⟩
   obtain⟨old,hold⟩:=hcell;have hfz:=hM2.free _ i1;have hcb:c≤10000000000000:=by omega
   have HRB:=U hrb;have HW:=U hwr;have HC:=U hc;clear hrb hwr hM2 g1 hc;go_wp2_with fail
   go_roundw
   case rel =>
    refine⟨j+1,c+1,by omega,by have:=HC.o;omega,by congr 1,by congr 1,HW.o.setCell i1 _,?_⟩;have H:=AO.store HRB.o HM.o.nodup (j:=j) (by simp[Fp];omega) (c:Int) (by unfold okI;omega);rw[HC.o,Q3 hlt,← HC.o]at H;exact H
   case measure => simp[intOf];omega
  ·have hje:j=ss.length:=by omega
   subst hje;rw[HR.o]at hc;subst hc;have HRB:=U hrb;have HW:=U hwr;clear hrb hwr;go_wp2_with fail
   go_ret
   refine⟨rfl,HW.o,?_⟩;have H:=HRB.o;rw[List.drop_length,List.append_nil]at H;exact H
structure F7 (k:Nat) (w0 u:World) (b o:Nat) (cs:List Value) (gs:List Addr):Prop where
 lt:b<u.heap.size
 len:cs.length=k
 cell:∀q,(hq:q<cs.length)→u.cell? ⟨b,o+q,none⟩=some cs[q]
 free:∀q,q<k→u.frozen? ⟨b,o+q,none⟩=false
 wrote:AD gs w0 u
 mem:∀q,q<k→(⟨b,o+q,none⟩:Addr)∈gs
section
variable {k:Nat} {w0 u u':World} {b o:Nat} {cs:List Value} {gs:List Addr}
theorem F7.set_(h:F7 k w0 u b o cs gs)(q:Nat)(hq:q<k)(v:Value):F7 k w0 (u.setCell ⟨b,o+q,none⟩ v) b o (cs.set q v) gs:=by
 refine⟨by simpa [World.setCell]using h.lt,by simpa using h.len,fun p hp => ?_,fun p hp => ?_,h.wrote.setCell (h.mem q hq) v,h.mem⟩
 ·simp only[List.length_set]at hp;by_cases e:q=p
  ·subst e;rw[World.cell?_setCell_same _ _ _ (h.cell q hp),List.getElem_set_self]
  ·rw[World.cell?_setCell_other _ _ _ _ (fun e2 => e (by injection e2 with _ e3;omega)),List.getElem_set_ne e];exact h.cell p hp
 ·rw[World.frozen?_setCell];exact h.free p hp
theorem F7.below(h:F7 k w0 u b o cs gs)(hb:Below u.heap.size u u'):F7 k w0 u' b o cs gs :=
 ⟨aE h.lt hb.size,h.len,fun q hq =>(hb.cell (p:=⟨b,o+q,none⟩) h.lt).trans (h.cell q hq),fun q hq =>(hb.frozen (p:=⟨b,o+q,none⟩) h.lt).trans (h.free q hq),h.wrote.trans (AD.of_below hb),h.mem⟩
theorem F7.sub(h:F7 k w0 u b o cs gs) {f:List Addr}(hw:AD f u u')(hf:∀a,a∈f→a∈gs)(hn:∀q,q<k→(⟨b,o+q,none⟩:Addr)∉f):F7 k w0 u' b o cs gs :=
 ⟨aE h.lt hw.size,h.len,fun q hq =>(hw.cell ⟨b,o+q,none⟩ (hn q (by rw[← h.len];exact hq)) h.lt).trans (h.cell q hq),fun q hq =>(hw.frozen ⟨b,o+q,none⟩ h.lt).trans (h.free q hq),h.wrote.trans (hw.mono hf),h.mem⟩
end
def Bh(d:Bt):Nat:=1+d.bytes.length
def Et(k:Nat)(d:Bt):Bt:=⟨((k:Nat):Int),(BC (k+1) d.bytes.length)⟩
def AG(d:AL):Nat:=1+AA Bh d.blocks
def CU(k:Nat)(d:AL):AL:=⟨(decide ((k) % 3=0)),(Bj Et Bh (k+1) d.blocks)⟩
def BL(d:Ah):Nat:=1+1+1+1+1+1+d.rows.length+d.data.length+d.delta.length
def Fu(k:Nat)(d:Ah):Ah:=⟨((k:Nat):Int),((k+1:Nat):Int),(mkT (k+1+1)),((k+1+1+1:Nat):Int),((k+1+1+1+1:Nat):Int),((k+1+1+1+1+1:Nat):Int),(mkI (k+1+1+1+1+1+1) d.rows.length),(BC (k+1+1+1+1+1+1+d.rows.length) d.data.length),(BC (k+1+1+1+1+1+1+d.rows.length+d.data.length) d.delta.length)⟩
def Bv(d:AS):Nat:=1+AA BL d.recs
def FL(k:Nat)(d:AS):AS:=⟨(decide ((k) % 3=0)),(Bj Fu BL (k+1) d.recs)⟩
theorem Ft {α:Type}(num:α→Nat)(h:∀d,1≤num d):∀l:List α,l.length≤AA num l
 | [] => by simp
 |d :: r => by have:=Ft num h r;have:=h d;simp only[List.length_cons,AA];omega
theorem Hk(v:Value)(xs:List UInt8)(fs:List Addr)(w:World)(k:Nat)(lo:Nat)(h1:rSl 1 Ai w fs v xs)(hm:Aw lo w fs)(_:0<k)(hk0:k+xs.length≤1000000000) :
  Calls prog 60 #[v,int i64 (k:Int)] w fun e w' => e= .returned (int i64 ((k+xs.length:Nat):Int))∧AD fs w w'∧rSl 1 Ai w' fs v (BC k xs.length):=by
 refine(JG v xs fs w k lo h1 hm (by omega) (by omega)).mono ?_;rintro e w' ⟨rfl,h2,h3⟩;exact⟨by rw[Int.natCast_add],h2,h3⟩
theorem Nd(v:Value)(ds:List Bt)(fs:List Addr)(w:World)(k lo:Nat)(h1:rSl 2 AE w fs v ds)(hm:Aw lo w fs)(hk:0<k)(hk0:k+AA Bh ds≤1000000000) :
  Calls prog 193 #[v,int i64 (k:Int)] w fun e w' => e= .returned (int i64 ((k+AA Bh ds:Nat):Int))∧AD fs w w'∧rSl 2 AE w' fs v (Bj Et Bh k ds):=by
 have H1:=U h1;have HM:=U hm;obtain⟨A1,c1,rfl,hc1,hm1⟩:=rSl.head h1;clear h1 hm;have hn0:ds.length≤1000000000:=by have:=Ft Bh (fun d => by unfold Bh;omega) ds;omega
 obtain⟨R,hR⟩:∃R:Nat,k+AA Bh ds=R:=⟨_,rfl⟩;have HNS:=U (fun j (h:j<ds.length) => show k+AA Bh (ds.take j)+Bh ds[j]≤1000000000 from by
  have:=CE Bh h;have:=Dn Bh ds (j+1);omega)
 rw[hR]at hk0⊢;have HR:=U hR;clear hR;go_enter func193,ntmps193
 go_wp2
 go_loopw [1,5] (fun n i wr =>∃(j c:Nat),j≤ds.length∧c=k+AA Bh (ds.take j)∧i= int i64 j∧n= int i64 (c:Int)∧rSl 2 AE wr fs (.slice A1 ds.length c1) (Cd Et Bh k ds j)∧AD fs w wr) (fun _ i _ => ds.length - (intOf i).toNat)
 case atStart => exact⟨0,k,by omega,by simp[AA],rfl,rfl,by rw[Ec];exact H1.o,AD.refl _ _⟩
 case round =>
  obtain⟨j,c,hj,hc,rfl,rfl,hrt,hwr⟩:=hrel;by_cases hlt:j<ds.length
  case neg =>
   have hje:j=ds.length:=by omega
   subst hje;rw[Ey]at hrt;rw[aV,HR.o]at hc;subst hc;have HW:=U hwr;have HRT:=U hrt;clear hwr hrt;go_wp2_with fail
   go_ret
   exact⟨rfl,HW.o,HRT.o⟩
  have hsl:=DJ Et Bh k ds j hj;have hM2:Aw lo wr fs:=HM.o.wrote hwr (rSl.there AE.fixed H1.o);obtain⟨ad,c0,b,o,cs,fk,ev,hat,hnd,hnot,hupd⟩:=rSl.upd AE.local_ AE.fixed (by decide) hrt hM2.nodup j (by omega);rw[Ez Et Bh k ds j hlt (by omega)]at hat;injection ev with ev1 ev2 ev3
  subst ev1 ev3;obtain⟨v0,f0,ecs,efk,o0,h0⟩:=hat.reads;subst ecs efk;obtain⟨A0,c2,rfl,hc2,hm2⟩:=rSl.head h0;have pb:=hat.lt;have p0:wr.cell? ⟨b,o,none⟩=some (int i64 ds[j].stamp):=by have:=hat.cell 0 (by simp);simpa using this
  have p1:wr.cell? ⟨b,o+1,none⟩=some (.slice A0 ds[j].bytes.length c2):=by have:=hat.cell 1 (by simp);simpa using this
  have fz0:wr.frozen? ⟨b,o,none⟩=false:=hM2.free _ (hat.mem 0 (by decide));have m0:(⟨b,o,none⟩:Addr)∈fs:=hat.mem 0 (by decide);have hP:=hat.place;have hnum:=HNS.o j hlt;rw[← hc]at hnum;have hcb:c≤1000000000:=by omega
  have hck:0<c:=by omega
  have hnm:Bh ds[j] =1+ds[j].bytes.length:=rfl;rw[hnm]at hnum;clear hnm;have HUPD:=U hupd;have HC:=U hc;have HW:=U hwr;have HM2:=U hM2;have HAT:=U hat;have HSL:=U hsl;have HND:=U hnd;have HNOT:=U hnot;have H0:=U h0;have HNUM:=U hnum;have P1:=U p1;clear hupd hc hwr hM2 hat hsl hnd hnot h0 hrt hnum ev2;go_wp2_with fail
  obtain⟨W2,hW2⟩:∃W2,wr.setCell ⟨b,o,none⟩ (int i64 (c:Int))=W2:=⟨_,rfl⟩;have hsz2:W2.heap.size=wr.heap.size:=by rw[← hW2];simp[World.setCell]
  have hoth:∀a:Addr,a≠⟨b,o,none⟩→W2.cell? a=wr.cell? a:=fun a h1 => by rw[← hW2,World.cell?_setCell_other _ _ _ _ (Ne.symm h1)]
  have s0:W2.cell? ⟨b,o,none⟩=some (int i64 (c:Int)):=by rw[← hW2,World.cell?_setCell_same _ _ _ p0]
  have hWr2:AD fs wr W2:=by rw[← hW2];exact(AD.refl _ _).setCell m0 _
  have h02:rSl 1 Ai W2 fk (.slice A0 ds[j].bytes.length c2) ds[j].bytes:=rSl.keep Ai.local_ H0.o fun a ha => hoth a (fun e => HNOT.o 0 (by decide) (by rw[← show a=⟨b,o+0,none⟩from e];exact ha))
  have hmf:Aw lo W2 fk:=⟨HND.o,fun a ha => HM2.o.from_ a (HAT.o.sub a ha),fun a ha =>(hWr2.frozen a (HAT.o.there a ha)).trans (HM2.o.free a (HAT.o.sub a ha))⟩;rw[hW2,show((c:Int)+1)=((c+1:Nat):Int)from by omega];have HO:=U hoth;have S0:=U s0;have HW2:=U hWr2;have HS2:=U hsz2;clear hW2 hoth s0 hWr2 hsz2 p0 p1 fz0;refine(Hk _ ds[j].bytes fk W2 (c+1) lo h02 hmf (by omega) (by have:=HNUM.o;omega)).mono ?_;rintro e w3 ⟨rfl,hw3,hr3⟩;have HW3:=U hw3;have HR3:=U hr3;clear hw3 hr3 h02 hmf;go_wp2_with fail
  go_roundw
  case rel =>
   have hb2:b<W2.heap.size:=by rw[HS2.o];exact pb
   have t0:=(HW3.o.cell ⟨b,o,none⟩ (HNOT.o 0 (by decide)) hb2).trans S0.o;have t1:=((HW3.o.cell ⟨b,o+1,none⟩ (HNOT.o 1 (by decide)) hb2).trans (HO.o _ (by simp))).trans P1.o;have hnew:=HUPD.o w3 [int i64 (c:Int),.slice A0 ds[j].bytes.length c2] (Et c ds[j]) rfl (fun a ha h0 hf => by
     have hwa:a.block<wr.heap.size:=aE (rSl.there AE.fixed H1.o a ha) HW.o.size;rw[HW3.o.cell a hf (aE hwa HW2.o.size),HO.o a (h0 0 (by decide))])
    (fun q hq => by
     rcases q with _|q
     ·exact t0
     ·obtain rfl:q=0:=by simp at hq;omega
      exact t1)
    ⟨_,fk,rfl,rfl,by unfold okI Et;simp only;omega,HR3.o⟩
   rw[show c=k+AA Bh (ds.take j)from HC.o,EA Et Bh k ds j hlt]at hnew;refine⟨j+1,c+1+ds[j].bytes.length,by omega,?_,by go_num,by congr 1,hnew,(HW.o.trans HW2.o).trans (HW3.o.mono HAT.o.sub)⟩;rw[CE Bh hlt,HC.o];simp only[Bh];omega
  case measure => simp[intOf];omega
theorem Nf(v:Value)(ds:List AL)(fs:List Addr)(w:World)(k lo:Nat)(h1:rSl 2 Ak w fs v ds)(hm:Aw lo w fs)(hk:0<k)(hk0:k+AA AG ds≤1000000000) :
  Calls prog 111 #[v,int i64 (k:Int)] w fun e w' => e= .returned (int i64 ((k+AA AG ds:Nat):Int))∧AD fs w w'∧rSl 2 Ak w' fs v (Bj CU AG k ds):=by
 have H1:=U h1;have HM:=U hm;obtain⟨A1,c1,rfl,hc1,hm1⟩:=rSl.head h1;clear h1 hm;have hn0:ds.length≤1000000000:=by have:=Ft AG (fun d => by unfold AG;omega) ds;omega
 obtain⟨R,hR⟩:∃R:Nat,k+AA AG ds=R:=⟨_,rfl⟩;have HNS:=U (fun j (h:j<ds.length) => show k+AA AG (ds.take j)+AG ds[j]≤1000000000 from by
  have:=CE AG h;have:=Dn AG ds (j+1);omega)
 rw[hR]at hk0⊢;have HR:=U hR;clear hR;go_enter func111,ntmps111
 go_wp2
 go_loopw [1,5] (fun n i wr =>∃(j c:Nat),j≤ds.length∧c=k+AA AG (ds.take j)∧i= int i64 j∧n= int i64 (c:Int)∧rSl 2 Ak wr fs (.slice A1 ds.length c1) (Cd CU AG k ds j)∧AD fs w wr) (fun _ i _ => ds.length - (intOf i).toNat)
 case atStart => exact⟨0,k,by omega,by simp[AA],rfl,rfl,by rw[Ec];exact H1.o,AD.refl _ _⟩
 case round =>
  obtain⟨j,c,hj,hc,rfl,rfl,hrt,hwr⟩:=hrel;by_cases hlt:j<ds.length
  case neg =>
   have hje:j=ds.length:=by omega
   subst hje;rw[Ey]at hrt;rw[aV,HR.o]at hc;subst hc;have HW:=U hwr;have HRT:=U hrt;clear hwr hrt;go_wp2_with fail
   go_ret
   exact⟨rfl,HW.o,HRT.o⟩
  have hsl:=DJ CU AG k ds j hj;have hM2:Aw lo wr fs:=HM.o.wrote hwr (rSl.there Ak.fixed H1.o);obtain⟨ad,c0,b,o,cs,fk,ev,hat,hnd,hnot,hupd⟩:=rSl.upd Ak.local_ Ak.fixed (by decide) hrt hM2.nodup j (by omega);rw[Ez CU AG k ds j hlt (by omega)]at hat;injection ev with ev1 ev2 ev3
  subst ev1 ev3;obtain⟨v0,f0,ecs,efk,h0⟩:=hat.reads;subst ecs efk;obtain⟨A0,c2,rfl,hc2,hm2⟩:=rSl.head h0;have pb:=hat.lt;have p0:wr.cell? ⟨b,o,none⟩=some (.bool ds[j].wiped):=by have:=hat.cell 0 (by simp);simpa using this
  have p1:wr.cell? ⟨b,o+1,none⟩=some (.slice A0 ds[j].blocks.length c2):=by have:=hat.cell 1 (by simp);simpa using this
  have fz0:wr.frozen? ⟨b,o,none⟩=false:=hM2.free _ (hat.mem 0 (by decide));have m0:(⟨b,o,none⟩:Addr)∈fs:=hat.mem 0 (by decide);have hP:=hat.place;have hnum:=HNS.o j hlt;rw[← hc]at hnum;have hcb:c≤1000000000:=by omega
  have hck:0<c:=by omega
  have hnm:AG ds[j] =1+AA Bh ds[j].blocks:=rfl;rw[hnm]at hnum;clear hnm;obtain⟨L,hL⟩:∃L,decide (c % 3=0)=L:=⟨_,rfl⟩;have hm3:((c:Int) % 3 == 0)=L:=(mod3 c).trans hL;have HL:=U hL;clear hL;have HUPD:=U hupd;have HC:=U hc;have HW:=U hwr;have HM2:=U hM2;have HAT:=U hat;have HSL:=U hsl;have HND:=U hnd;have HNOT:=U hnot;have H0:=U h0;have HNUM:=U hnum;have P1:=U p1;clear hupd hc hwr hM2 hat hsl hnd hnot h0 hrt hnum ev2;go_wp2_with fail
  obtain⟨W2,hW2⟩:∃W2,wr.setCell ⟨b,o,none⟩ (.bool L)=W2:=⟨_,rfl⟩;have hsz2:W2.heap.size=wr.heap.size:=by rw[← hW2];simp[World.setCell]
  have hoth:∀a:Addr,a≠⟨b,o,none⟩→W2.cell? a=wr.cell? a:=fun a h1 => by rw[← hW2,World.cell?_setCell_other _ _ _ _ (Ne.symm h1)]
  have s0:W2.cell? ⟨b,o,none⟩=some (.bool L):=by rw[← hW2,World.cell?_setCell_same _ _ _ p0]
  have hWr2:AD fs wr W2:=by rw[← hW2];exact(AD.refl _ _).setCell m0 _
  have h02:rSl 2 AE W2 fk (.slice A0 ds[j].blocks.length c2) ds[j].blocks:=rSl.keep AE.local_ H0.o fun a ha => hoth a (fun e => HNOT.o 0 (by decide) (by rw[← show a=⟨b,o+0,none⟩from e];exact ha))
  have hmf:Aw lo W2 fk:=⟨HND.o,fun a ha => HM2.o.from_ a (HAT.o.sub a ha),fun a ha =>(hWr2.frozen a (HAT.o.there a ha)).trans (HM2.o.free a (HAT.o.sub a ha))⟩;rw[hW2,show((c:Int)+1)=((c+1:Nat):Int)from by omega];have HO:=U hoth;have S0:=U s0;have HW2:=U hWr2;have HS2:=U hsz2;clear hW2 hoth s0 hWr2 hsz2 p0 p1 fz0 hm3;refine(Nd _ ds[j].blocks fk W2 (c+1) lo h02 hmf (by omega) (by have:=HNUM.o;omega)).mono ?_;rintro e w3 ⟨rfl,hw3,hr3⟩;have HW3:=U hw3;have HR3:=U hr3;clear hw3 hr3 h02 hmf;go_wp2_with fail
  go_roundw
  case rel =>
   have hb2:b<W2.heap.size:=by rw[HS2.o];exact pb
   have t0:=(HW3.o.cell ⟨b,o,none⟩ (HNOT.o 0 (by decide)) hb2).trans S0.o;have t1:=((HW3.o.cell ⟨b,o+1,none⟩ (HNOT.o 1 (by decide)) hb2).trans (HO.o _ (by simp))).trans P1.o;have hnew:=HUPD.o w3 [.bool L,.slice A0 ds[j].blocks.length c2] (CU c ds[j]) rfl (fun a ha h0 hf => by
     have hwa:a.block<wr.heap.size:=aE (rSl.there Ak.fixed H1.o a ha) HW.o.size;rw[HW3.o.cell a hf (aE hwa HW2.o.size),HO.o a (h0 0 (by decide))])
    (fun q hq => by
     rcases q with _|q
     ·exact t0
     ·obtain rfl:q=0:=by simp at hq;omega
      exact t1)
    ⟨_,fk,by rw[← HL.o];rfl,rfl,HR3.o⟩
   rw[show c=k+AA AG (ds.take j)from HC.o,EA CU AG k ds j hlt]at hnew;refine⟨j+1,c+1+AA Bh ds[j].blocks,by omega,?_,by go_num,by congr 1,hnew,(HW.o.trans HW2.o).trans (HW3.o.mono HAT.o.sub)⟩;rw[CE AG hlt,HC.o];simp only[AG];omega
  case measure => simp[intOf];omega
theorem Mk(v:Value)(ds:List (List AL))(fs:List Addr)(w:World)(k lo:Nat)(h1:rSl 1 (Al 2 Ak) w fs v ds)(hm:Aw lo w fs)(hk:0<k)(hk0:k+AA (AA AG) ds≤1000000000)(hn0:ds.length≤1000000000) :
  Calls prog 57 #[v,int i64 (k:Int)] w fun e w' => e= .returned (int i64 ((k+AA (AA AG) ds:Nat):Int))∧AD fs w w'∧rSl 1 (Al 2 Ak) w' fs v (Bj (Bj CU AG) (AA AG) k ds):=by
 have H1:=U h1;have HM:=U hm;obtain⟨A1,c1,rfl,hc1,hm1⟩:=rSl.head h1;clear h1 hm;obtain⟨R,hR⟩:∃R:Nat,k+AA (AA AG) ds=R:=⟨_,rfl⟩;have HNS:=U (fun j (h:j<ds.length) => show k+AA (AA AG) (ds.take j)+AA AG ds[j]≤1000000000 from by
  have:=CE (AA AG) h;have:=Dn (AA AG) ds (j+1);omega)
 rw[hR]at hk0⊢;have HR:=U hR;clear hR;go_enter func57,ntmps57
 go_wp2
 go_loopw [1,5] (fun n i wr =>∃(j c:Nat),j≤ds.length∧c=k+AA (AA AG) (ds.take j)∧i= int i64 j∧n= int i64 (c:Int)∧rSl 1 (Al 2 Ak) wr fs (.slice A1 ds.length c1) (Cd (Bj CU AG) (AA AG) k ds j)∧AD fs w wr) (fun _ i _ => ds.length - (intOf i).toNat)
 case atStart => exact⟨0,k,by omega,by simp[AA],rfl,rfl,by rw[Ec];exact H1.o,AD.refl _ _⟩
 case round =>
  obtain⟨j,c,hj,hc,rfl,rfl,hrt,hwr⟩:=hrel;by_cases hlt:j<ds.length
  case neg =>
   have hje:j=ds.length:=by omega
   subst hje;rw[Ey]at hrt;rw[aV,HR.o]at hc;subst hc;have HW:=U hwr;have HRT:=U hrt;clear hwr hrt;go_wp2_with fail
   go_ret
   exact⟨rfl,HW.o,HRT.o⟩
  have hsl:=DJ (Bj CU AG) (AA AG) k ds j hj;have hM2:Aw lo wr fs:=HM.o.wrote hwr (rSl.there (Al.fixed Ak.fixed) H1.o);obtain⟨ad,c0,b,o,cs,fk,ev,hat,hnd,hnot,hupd⟩:=rSl.upd (Al.local_ Ak.local_) (Al.fixed Ak.fixed) (by decide) hrt hM2.nodup j (by omega);rw[Ez (Bj CU AG) (AA AG) k ds j hlt (by omega)]at hat;injection ev with ev1 ev2 ev3
  subst ev1 ev3;obtain⟨v0,ecs,h0⟩:=hat.reads;subst ecs;obtain⟨A0,c2,rfl,hc2,hm2⟩:=rSl.head h0;have pb:=hat.lt;have p0:wr.cell? ⟨b,o,none⟩=some (.slice A0 ds[j].length c2):=by have:=hat.cell 0 (by simp);simpa using this
  have hP:=hat.place;simp only[Nat.mul_one]at hP;have hnum:=HNS.o j hlt;rw[← hc]at hnum;have hcb:c≤1000000000:=by omega
  have hck:0<c:=by omega
  have hmf:Aw lo wr fk:=⟨hnd,fun a ha => hM2.from_ a (hat.sub a ha),fun a ha => hM2.free a (hat.sub a ha)⟩;have HUPD:=U hupd;have HC:=U hc;have HW:=U hwr;have HAT:=U hat;have HNOT:=U hnot;have H0:=U h0;have HNUM:=U hnum;have P0:=U p0;have HMF:=U hmf;clear hupd hc hwr hM2 hat hsl hnd hnot h0 hrt hnum ev2 hmf;go_wp2_with fail
  refine(Nf _ ds[j] fk wr c lo H0.o HMF.o (by omega) (by have:=HNUM.o;omega)).mono ?_;rintro e w3 ⟨rfl,hw3,hr3⟩;have HW3:=U hw3;have HR3:=U hr3;clear hw3 hr3 p0;go_wp2_with fail
  go_roundw
  case rel =>
   have t0:=(HW3.o.cell ⟨b,o,none⟩ (HNOT.o 0 (by decide)) pb).trans P0.o;have hnew:=HUPD.o w3 [.slice A0 ds[j].length c2] (Bj CU AG c ds[j]) rfl (fun a ha h0 hf => by
     have hwa:a.block<wr.heap.size:=aE (rSl.there (Al.fixed Ak.fixed) H1.o a ha) HW.o.size;rw[HW3.o.cell a hf hwa])
    (fun q hq => by
     obtain rfl:q=0:=by simp at hq;omega
     exact t0)
    ⟨_,rfl,HR3.o⟩
   rw[show c=k+AA (AA AG) (ds.take j)from HC.o,EA (Bj CU AG) (AA AG) k ds j hlt]at hnew;refine⟨j+1,c+AA AG ds[j],by omega,?_,by go_num,by congr 1,hnew,HW.o.trans (HW3.o.mono HAT.o.sub)⟩;rw[CE (AA AG) hlt,HC.o];omega
  case measure => simp[intOf];omega
