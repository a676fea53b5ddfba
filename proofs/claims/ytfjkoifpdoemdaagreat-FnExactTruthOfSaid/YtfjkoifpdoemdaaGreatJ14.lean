/- Part 14 of the proof. -/
import Derived.Test.YtfjkoifpdoemdaaGreatJ13
import Derived.Deep.DeepCutAuto
set_option maxHeartbeats 8000000
set_option maxRecDepth 100000
set_option linter.unusedVariables false
set_option linter.unusedSimpArgs false
open Go.Proofs.Tryz
open Go.Value (int)
open Go.IntKind (i64)
namespace Go.Proofs.YtfjkoifpdoemdaaGreat
open Go.RowKit Go.Sort
theorem Mat.at_ {w:World} {g n m:Nat} {ms:List (List UInt8)}(h:Mat w g n ms)(hA:Ci ms m) {i c:Nat}(hi:i<n)(hc:c<m):∃ad cc f,w.cell? ⟨g,i,none⟩=some (.slice (some ad) m cc)∧w.cell? (ad.add c)=some (.int .u8 ((at0 (ms.getD i []) c).toNat:Int))∧Ag w f (.slice (some ad) m cc) (ms.getD i [])∧(∀a,a∈f→a.block≠g)∧(ad.add c).block <w.heap.size∧(ad.add c).block≠g:=by
 obtain⟨A,cc,f,h1,h2,h3⟩:=h.row i hi;have hl:=hA.get (i:=i) (by rw[h.len];exact hi);rw[hl]at h1 h2;obtain⟨A2,c2,e,_,_,hx⟩:=Ag.open_ h2;obtain⟨ad,e2,m1,m2,m3⟩:=hx c (by rw[hl];exact hc);injection e with e3 e4 e5
 subst e3 e5;subst e2;refine⟨ad,cc,f,h1,?_,h2,h3,m2,h3 _ m1⟩;rw[m3,at0_get (by rw[hl];exact hc)]
theorem Mat.put {w:World} {g n m:Nat} {ms:List (List UInt8)}(h:Mat w g n ms) {i:Nat}(hi:i<n) {A:Option Addr} {c:Nat} {f:List Addr} {l:List UInt8}(hl:l.length=m)(hr:Ag w f (.slice A m c) l)(hf:∀a,a∈f→a.block≠g):Mat (w.setCell ⟨g,i,none⟩ (.slice A m c)) g n (ms.set i l):=by
 subst hl;exact h.set_ hi hr hf
theorem Ag.farG {w:World} {g i:Nat} {f:List Addr} {v u:Value} {l:List UInt8}(hr:Ag w f v l)(hf:∀a,a∈f→a.block≠g):Ag (w.setCell ⟨g,i,none⟩ u) f v l:=rSl.keep Ai.local_ hr fun a ha => World.cell?_setCell_other _ _ _ _ (fun e => hf a ha (by rw[← e]))
theorem swap_eq {ms:List (List UInt8)} {rank t:Nat} {x y p:List UInt8}:((ms.set rank x).set t y).set rank p=(ms.set t y).set rank p:=by
 apply bP
 ·simp
 ·intro i h1 h2;simp only[List.getElem_set];by_cases e:rank=i
  ·rw[aL e,aL e]
  ·rw[aI e,aI e];by_cases e2:t=i
   ·rw[aL e2];simp[e]
   ·rw[aI e2];simp[e]
theorem Jc {g n i:Nat}(h:i<n):(⟨g,i,none⟩:Addr)∈AV ⟨g,0,none⟩ n:=Bb.2 ⟨i,h,(Cs g i).symm⟩
theorem u8nz {x:UInt8}(h:x≠0):0<x.toNat:=by
 have:x.toNat≠0:=fun e => h (UInt8.toNat_inj.1 (by simpa using e))
 omega
theorem reduce_c(g n cap m cols:Nat)(ms:List (List UInt8))(w:World)(hM:Mat w g n ms)(hA:Ci ms m)(hc:cols≤m)(hn:n≤1000)(hm:m≤1000)(hcap:n≤cap)(hcap2:cap≤9223372036854775807) :
  Calls prog 298 #[.slice (some ⟨g,0,none⟩) n cap,int i64 (cols:Int)] w fun e w' => e= .returned (int i64 (((BH cols 0 0 ms).1:Nat):Int))∧Mat w' g n (BH cols 0 0 ms).2∧Ci (BH cols 0 0 ms).2 m∧AD (AV ⟨g,0,none⟩ n) w w':=by
 obtain⟨R,hR⟩:∃R,BH cols 0 0 ms=R:=⟨_,rfl⟩;rw[hR];have HR:=U hR;clear hR;have HM:=U hM;have HA:=U hA;clear hM hA;go_enter func298,ntmps298
 go_wp2_with fail
 go_loopw [5,6,7,8,9] (fun rk cc _ _ _ wr =>∃(c rank:Nat) (ms':List (List UInt8)),c≤cols∧rank≤n∧rank≤c∧rk= int i64 rank∧cc= int i64 c∧BH (cols - c) c rank ms'=R∧Mat wr g n ms'∧Ci ms' m∧AD (AV ⟨g,0,none⟩ n) w wr) (fun _ cc _ _ _ _ => cols - (intOf cc).toNat)
 case atStart => exact⟨0,0,ms,by omega,by omega,by omega,rfl,rfl,HR.o,HM.o,HA.o,AD.refl _ _⟩
 case round =>
  obtain⟨c,rank,ms',hcc,hrn,hrc,rfl,rfl,hg,hmat,hall,hwr⟩:=hrel;obtain⟨u,hu⟩:∃u,u=wr:=⟨_,rfl⟩;subst hu;have HG:=U hg;have HMT:=U hmat;have HAL:=U hall;have HW:=U hwr;clear hg hmat hall hwr;by_cases hlt:c<cols
  case neg =>
   obtain rfl:c=cols:=by omega
   have h:=HG.o;rw[Nat.sub_self,BH]at h;subst h;go_wp2_with fail
   go_ret
   exact⟨rfl,HMT.o,HAL.o,HW.o⟩
  go_wp2_with fail
  go_loop [8,7] (fun r a =>∃k:Nat,rank≤k∧k≤n∧r= int i64 k∧a= int i64 (-1)∧∀i,rank≤i→i<k→at0 (ms'.getD i []) c=0) (fun r _ => n - (intOf r).toNat)
  case atStart => exact⟨rank,aC _,hrn,rfl,rfl,fun i h1 h2 => by omega⟩
  case round =>
   obtain⟨k,hk1,hk2,rfl,rfl,hz⟩:=hrel;have HZ:=U hz;clear hz;by_cases hkn:k<n
   case neg =>
    obtain rfl:k=n:=by omega
    have hp:piv ms' c rank=none:=J5 fun i h1 h2 => HZ.o i h1 (by rw[HMT.o.len]at h2;exact h2)
    have h:=HG.o;rw[show cols - c=(cols - (c+1))+1 from by omega,BH,hp]at h;have HG2:=U h;clear h hp;go_wp2_with fail
    go_roundw
    case rel => exact⟨c+1,rank,ms',by omega,hrn,by omega,rfl,by go_num,HG2.o,HMT.o,HAL.o,HW.o⟩
    case measure => simp[intOf];omega
   obtain⟨ad,ca,fa,p1,p2,r1,n1,b1,d1⟩:=HMT.o.at_ HAL.o hkn (show c<m by omega);have hcm:c<m:=by omega
   by_cases h0:at0 (ms'.getD k []) c=0
   ·rw[h0]at p2;clear r1 n1 d1;go_wp2_with fail
    go_round
    case rel => exact⟨k+1,by omega,by omega,by go_num,rfl,fun i h1 h2 => by
     by_cases e:i=k
     ·subst e;exact h0
     ·exact HZ.o i h1 (by omega)⟩
    case measure => simp[intOf];omega
   have hp:piv ms' c rank=some k:=Nr hk1 (by rw[HMT.o.len];exact hkn) HZ.o h0;have h:=HG.o;rw[show cols - c=(cols - (c+1))+1 from by omega,BH,hp]at h;have HG2:=U h;clear h hp;have hz1:=u8nz h0;obtain⟨bb,hbb⟩:∃bb:Nat,(at0 (ms'.getD k []) c).toNat =bb:=⟨_,rfl⟩;rw[hbb]at hz1 p2;have hz2:¬(bb:Int)=0:=by omega
   have hz3:((bb:Int) != 0)=true:=by simp;omega
   have HBB:=U hbb;clear hbb;have hrk:rank<n:=by omega
   obtain⟨ad2,ca2,fa2,q1,q2,r2,n2,b2,d2⟩:=HMT.o.at_ HAL.o hrk hcm;have fk:=HMT.o.free k hkn;have fr:=HMT.o.free rank hrk;have gz:=HMT.o.lt;have lk:=HAL.o.get (i:=k) (by rw[HMT.o.len];exact hkn);have lr:=HAL.o.get (i:=rank) (by rw[HMT.o.len];exact hrk);have M1:=HMT.o.put hrk lk r1 n1;have M2:=M1.put hkn lr (r2.farG n2) n2;have A2:=(HAL.o.set_ (i:=rank) lk).set_ (i:=k) lr;have W2:=(HW.o.setCell (Jc hrk) (.slice (some ad) m ca)).setCell (Jc hkn) (.slice (some ad2) m ca2);have ek:((ms'.set rank (ms'.getD k [])).set k (ms'.getD rank [])).getD rank [] =ms'.getD k []:=by
    have hlen:=HMT.o.len;rw[aJ,List.getElem?_set];by_cases e:k=rank
    ·subst e;rw[aL rfl,aL (by simp;omega)];rfl
    ·rw[aI e,List.getElem?_set_self (by omega)];rfl
   have HM2:=U M2;have HA2:=U A2;have HW2:=U W2;have EK:=U ek;clear M1 M2 A2 W2 ek r1 r2 n1 n2 q2 b2 d2 lk lr;go_wp2_with fail
   clear p2 b1 d1 hz1 hz2 hz3;go_cut [] (fun wx => Mat wx g n ((ms'.set rank (ms'.getD k [])).set k (ms'.getD rank []))∧AD (AV ⟨g,0,none⟩ n) w wx)
   case first =>
    by_cases e:rank=k
    ·subst e;have he:=p1.symm.trans q1;injection he with he
     injection he with he1 _ he3
     injection he1 with he1
     subst he1 he3;clear q1;go_region
     all_goals
      go_wp2_with fail
      go_meet
      exact⟨by first|exact HM2.o|exact HM2.o.drew_,by first|exact HW2.o|exact HW2.o.drewN 1⟩
    ·have e':¬k=rank:=fun h => e h.symm
     go_region
     all_goals
      go_wp2_with fail
      go_meet
      exact⟨by first|exact HM2.o|exact HM2.o.drew_,by first|exact HW2.o|exact HW2.o.drewN 1⟩
   case rest =>
    obtain⟨hM2,hW2⟩:=hcut;clear HM2 HW2 p1 q1 fk fr gz;have HM2:=U hM2;have HW2:=U hW2;obtain⟨ad,ca,fa,p1,p2,r1,n1,b1,d1⟩:=hM2.at_ HA2.o hrk hcm;rw[EK.o]at p2 r1;rw[HBB.o]at p2;clear hM2 hW2;have fr:=HM2.o.free rank hrk;have gz:=HM2.o.lt;have hkl:k<ms'.length:=by rw[HMT.o.len];exact hkn
    have hrl:rank<ms'.length:=by rw[HMT.o.len];exact hrk
    have hpl:=Gc (c:=c) HAL.o hkl;obtain⟨X,hX⟩:∃X,JX (at0 (ms'.getD k []) c)=X:=⟨_,rfl⟩;have HD:=U (show∀W,Calls prog 290 #[.int .u8 1,.int .u8 (bb:Int)] W fun e w' => e= .returned (.int .u8 (X.toNat:Int))∧W=w' from fun W => by
     have:=div1_u (at0 (ms'.getD k []) c) W;rw[hX,HBB.o]at this;exact this)
    have HSC:=U (show∀W,Below wc.heap.size wc W→Calls prog 296 #[.slice (some ad) m ca,.int .u8 (X.toNat:Int)] W (By (DH ms' c k) W)from fun W hW => by
     unfold DH;rw[hX];exact Nv _ (ms'.getD k []) X fa W (Ag.below r1 hW) (by rw[HAL.o.get hkl];omega))
    have HPL:=U hpl;clear hX hpl r1 n1;go_wp2_with fail
    go_cut [] (fun wx => Mat wx g n (C9 ms' rank c k)∧AD (AV ⟨g,0,none⟩ n) w wx)
    case first =>
     go_region_law (first
      |(go_simp;go_at_call 290;refine(HD.o _).mono ?_;rintro e w' ⟨rfl,rfl⟩;dsimp only)
      |(go_simp;go_at_call 296;refine(HSC.o _ (by repeat(with_reducible first|exact aB _ _|apply An))).mono ?_;rintro e w3 ⟨A3,c3,f3,rfl,r3,m3,b3⟩;rw[HPL.o]at r3⊢;dsimp only;have B3:=U (show Below wc.heap.size wc w3 from by first|exact b3|exact EN b3);have q3:w3.cell? ⟨g,rank,none⟩=some (.slice (some ad) m ca):=(B3.o.cell (p:=⟨g,rank,none⟩) gz).trans p1;have fr3:w3.frozen? ⟨g,rank,none⟩=false:=(B3.o.frozen (p:=⟨g,rank,none⟩) gz).trans fr;have gz3:g<w3.heap.size:=aE gz B3.o.size;have R3:=U r3;have M3:=U m3;clear r3 m3 b3))
     all_goals
      go_wp2_with fail
      go_meet
      have h1:=(HM2.o.below B3.o).put hrk HPL.o R3.o (fun a ha e => by have:=M3.o.from_ a ha;rw[e]at this;exact absurd gz (Nat.not_lt.2 this));rw[swap_eq]at h1;exact⟨h1,(HW2.o.trans (AD.of_below B3.o)).setCell (Jc hrk) _⟩
    case rest =>
     obtain⟨hM3,hW3⟩:=hcut;obtain⟨u3,hu3⟩:∃u3,u3=wc:=⟨_,rfl⟩;subst hu3;clear HM2 HW2 HD HSC p1 p2 fr gz b1 d1;have HM3:=U hM3;have HW3:=U hW3;have HAS:=U (JR (c:=c) HAL.o hrl hkl);have HSL:=U (Hz ms' rank c k);have HGS:=U (show KV ms' rank c k=Ca (DH ms' c k) rank c (C9 ms' rank c k) n from by unfold KV;rw[HMT.o.len]);have HSR:=U (show(C9 ms' rank c k).getD rank [] =DH ms' c k from by
      unfold C9;rw[aJ,List.getElem?_set_self (by simpa using hrl)];rfl)
     have HML:=U HMT.o.len;clear hM3 hW3 HMT HW hrl hkl;obtain⟨P,hP⟩:∃P,DH ms' c k=P:=⟨_,rfl⟩;obtain⟨S,hS⟩:∃S,C9 ms' rank c k=S:=⟨_,rfl⟩;rw[hP,hS]at HGS;rw[hP]at HPL;rw[hS]at HM3 HAS HSL;rw[hS,hP]at HSR;clear hP hS;go_wp2_with fail
     go_loopw [65,9] (fun i _ wr =>∃j:Nat,j≤n∧i= int i64 j∧Mat wr g n (Ca P rank c S j)∧AD (AV ⟨g,0,none⟩ n) w wr) (fun i _ _ => n - (intOf i).toNat)
     case atStart => exact⟨0,by omega,rfl,by rw[JC];exact HM3.o,HW3.o⟩
     case round =>
      obtain⟨j,hj,rfl,hmj,hwj⟩:=hrel;by_cases hjn:j<n
      case neg =>
       obtain rfl:j=n:=by omega
       have HMJ:=U hmj;have HWJ:=U hwj;clear hmj hwj;go_wp2_with fail
       go_roundw
       case rel => exact⟨c+1,rank+1,_,by omega,by omega,by omega,by go_num,by go_num,HG2.o,by rw[HGS.o];exact HMJ.o,by rw[HGS.o];exact Gj HAS.o HPL.o,HWJ.o⟩
       case measure => simp[intOf];omega
      have hjs:j<S.length:=by rw[HSL.o,HML.o];exact hjn
      have hrs:rank<S.length:=by rw[HSL.o,HML.o];exact hrk
      have e1:=Fl (p:=P) (rank:=rank) (c:=c) (j:=j) hjs;rw[aI (by omega)]at e1;have e2:=Fl (p:=P) (rank:=rank) (c:=c) (j:=j) hrs;rw[aI (fun h => h.2 rfl),HSR.o]at e2;have hea:=Gj (rank:=rank) (c:=c) (j:=j) HAS.o HPL.o;obtain⟨ad,ca,fa,p1,p2,r1,n1,b1,d1⟩:=hmj.at_ hea hjn hcm;obtain⟨ad2,ca2,fa2,q1,q2,r2,n2,b2,d2⟩:=hmj.at_ hea hrk hcm;rw[e1]at p2 r1;rw[e2]at r2;have hlj:=HAS.o.get hjs;have fr:=hmj.free j hjn;have gz:=hmj.lt;have HMJ:=U hmj;have HWJ:=U hwj;clear e1 e2 hea hmj hwj q2 b2 d2;by_cases ejr:j=rank
      ·subst ejr;clear r1 r2 n1 n2;go_wp2_with fail
       go_roundw
       case rel => exact⟨j+1,by omega,by go_num,by rw[Hd];exact HMJ.o,HWJ.o⟩
       case measure => simp[intOf];omega
      have ejr2:¬(j:Int)=(rank:Int):=by omega
      by_cases hz:at0 (S.getD j []) c=0
      ·rw[hz]at p2;clear r1 r2 n1 n2;go_wp2_with fail
       go_roundw
       case rel => exact⟨j+1,by omega,by go_num,by rw[NR hjs hz (by rw[hlj,HPL.o])];exact HMJ.o,HWJ.o⟩
       case measure => simp[intOf];omega
      have hst:=He (p:=P) (rank:=rank) (c:=c) hjs ejr;have hz1:=u8nz hz;obtain⟨y,hy⟩:∃y,at0 (S.getD j []) c=y:=⟨_,rfl⟩;rw[hy]at hz1 p2;have hz2:¬(y.toNat:Int)=0:=by omega
      have hz3:((y.toNat:Int) != 0)=true:=by simp;omega
      have hll:(DY P c (S.getD j [])).length =m:=by rw[FK (by rw[hlj,HPL.o]),hlj]
      have HSM:=U (show∀W,Below wr.heap.size wr W→Calls prog 259 #[.slice (some ad) m ca,.slice (some ad2) m ca2,.int .u8 (y.toNat:Int)] W (By (DY P c (S.getD j [])) W)from fun W hW => by
       unfold DY;rw[hy];exact sum_c _ _ (S.getD j []) P y fa fa2 W (Ag.below r1 hW) (Ag.below r2 hW) (by rw[hlj,HPL.o]) (by rw[HPL.o];omega))
      have HLL:=U hll;have HST:=U hst;clear hy hll hst r1 r2 n1 n2 hz hlj;go_wp2_with fail
      go_region_law (go_simp;go_at_call 259;refine(HSM.o _ (by repeat(with_reducible first|exact aB _ _|apply An))).mono ?_;rintro e w3 ⟨A3,c3,f3,rfl,r3,m3,b3⟩;rw[HLL.o]at r3⊢;dsimp only;have B3:=U (show Below wr.heap.size wr w3 from by first|exact b3|exact EN b3);have q3:w3.cell? ⟨g,j,none⟩=some (.slice (some ad) m ca):=(B3.o.cell (p:=⟨g,j,none⟩) gz).trans p1;have fr3:w3.frozen? ⟨g,j,none⟩=false:=(B3.o.frozen (p:=⟨g,j,none⟩) gz).trans fr;have gz3:g<w3.heap.size:=aE gz B3.o.size;have R3:=U r3;have M3:=U m3;clear r3 m3 b3)
      all_goals
       go_wp2_with fail
       go_roundw
       case rel =>
        have h1:=(HMJ.o.below B3.o).put hjn HLL.o R3.o (fun a ha e => by have:=M3.o.from_ a ha;rw[e]at this;exact absurd gz (Nat.not_lt.2 this));rw[← HST.o]at h1;exact⟨j+1,by omega,by go_num,h1,(HWJ.o.trans (AD.of_below B3.o)).setCell (Jc hjn) _⟩
       case measure => simp[intOf];omega
