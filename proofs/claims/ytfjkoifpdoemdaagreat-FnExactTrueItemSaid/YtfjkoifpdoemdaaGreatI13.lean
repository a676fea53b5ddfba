/-
  Part 13 of the proof.
-/
import Derived.Test.YtfjkoifpdoemdaaGreatI12
import Derived.Deep.DeepCutAuto
set_option maxHeartbeats 8000000
set_option maxRecDepth 100000
set_option linter.unusedVariables false
set_option linter.unusedSimpArgs false
open Go.Value (int)
open Go.IntKind (i64)
namespace Go.Proofs.YtfjkoifpdoemdaaGreat
open Go.RowKit Go.Sort
open Go.Lib (hid)
theorem Mat.at_ {w:World} {g n m:Nat} {ms:List (List UInt8)}(h:Mat w g n ms)(hA:Cf ms m) {i c:Nat}(hi:i<n)(hc:c<m):∃ad cc f,w.cell? ⟨g,i,none⟩=some (.slice (some ad) m cc)∧w.cell? (ad.add c)=some (.int .u8 ((at0 (ms.getD i []) c).toNat:Int))∧Ag w f (.slice (some ad) m cc) (ms.getD i [])∧(∀a,a∈f→a.block≠g)∧(ad.add c).block <w.heap.size∧(ad.add c).block≠g:=by
 obtain⟨A,cc,f,h1,h2,h3⟩:=h.row i hi;have hl:=hA.get (i:=i) (by rw[h.len];exact hi);rw[hl]at h1 h2;obtain⟨A2,c2,e,_,_,hx⟩:=Ag.open_ h2;obtain⟨ad,e2,m1,m2,m3⟩:=hx c (by rw[hl];exact hc);injection e with e3 e4 e5
 subst e3 e5;subst e2;refine⟨ad,cc,f,h1,?_,h2,h3,m2,h3 _ m1⟩;rw[m3,at0_get (by rw[hl];exact hc)]
theorem Mat.put {w:World} {g n m:Nat} {ms:List (List UInt8)}(h:Mat w g n ms) {i:Nat}(hi:i<n) {A:Option Addr} {c:Nat} {f:List Addr} {l:List UInt8}(hl:l.length=m)(hr:Ag w f (.slice A m c) l)(hf:∀a,a∈f→a.block≠g):Mat (w.setCell ⟨g,i,none⟩ (.slice A m c)) g n (ms.set i l):=by
 subst hl;exact h.set_ hi hr hf
theorem Ag.farG {w:World} {g i:Nat} {f:List Addr} {v u:Value} {l:List UInt8}(hr:Ag w f v l)(hf:∀a,a∈f→a.block≠g):Ag (w.setCell ⟨g,i,none⟩ u) f v l:=rSl.keep Ah.local_ hr fun a ha => World.cell?_setCell_other _ _ _ _ (fun e => hf a ha (by rw[← e]))
theorem swap_eq {ms:List (List UInt8)} {rank t:Nat} {x y p:List UInt8}:((ms.set rank x).set t y).set rank p=(ms.set t y).set rank p:=by
 apply List.ext_getElem
 ·simp
 ·intro i h1 h2;simp only[List.getElem_set];by_cases e:rank=i
  ·rw[if_pos e,if_pos e]
  ·rw[if_neg e,if_neg e];by_cases e2:t=i
   ·rw[if_pos e2];simp[e]
   ·rw[if_neg e2];simp[e]
theorem IW {g n i:Nat}(h:i<n):(⟨g,i,none⟩:Addr)∈AU ⟨g,0,none⟩ n:=Be.2 ⟨i,h,(Co g i).symm⟩
theorem u8nz {x:UInt8}(h:x≠0):0<x.toNat:=by
 have:x.toNat≠0:=fun e => h (UInt8.toNat_inj.1 (by simpa using e))
 omega
theorem reduce_c(g n cap m cols:Nat)(ms:List (List UInt8))(w:World)(hM:Mat w g n ms)(hA:Cf ms m)(hc:cols≤m)(hn:n≤1000)(hm:m≤1000)(hcap:n≤cap)(hcap2:cap≤9223372036854775807) :
  Calls Tryz.prog 298 #[.slice (some ⟨g,0,none⟩) n cap,int i64 (cols:Int)] w fun e w' => e= .returned (int i64 (((BE cols 0 0 ms).1:Nat):Int))∧Mat w' g n (BE cols 0 0 ms).2∧Cf (BE cols 0 0 ms).2 m∧AF (AU ⟨g,0,none⟩ n) w w':=by
 obtain⟨R,hR⟩:∃R,BE cols 0 0 ms=R:=⟨_,rfl⟩;rw[hR];have HR:=hid hR;clear hR;have HM:=hid hM;have HA:=hid hA;clear hM hA;go_enter Tryz.func298,Tryz.ntmps298
 go_wp2_with fail
 go_loopw [5,6,7,8,9] (fun rk cc _ _ _ wr =>∃(c rank:Nat) (ms':List (List UInt8)),c≤cols∧rank≤n∧rank≤c∧rk= int i64 rank∧cc= int i64 c∧BE (cols - c) c rank ms'=R∧Mat wr g n ms'∧Cf ms' m∧AF (AU ⟨g,0,none⟩ n) w wr) (fun _ cc _ _ _ _ => cols - (intOf cc).toNat)
 case atStart => exact⟨0,0,ms,by omega,by omega,by omega,rfl,rfl,HR.out,HM.out,HA.out,AF.refl _ _⟩
 case round =>
  obtain⟨c,rank,ms',hcc,hrn,hrc,rfl,rfl,hg,hmat,hall,hwr⟩:=hrel;obtain⟨u,hu⟩:∃u,u=wr:=⟨_,rfl⟩;subst hu;have HG:=hid hg;have HMT:=hid hmat;have HAL:=hid hall;have HW:=hid hwr;clear hg hmat hall hwr;by_cases hlt:c<cols
  case neg =>
   obtain rfl:c=cols:=by omega
   have h:=HG.out;rw[Nat.sub_self,BE]at h;subst h;go_wp2_with fail
   go_ret
   exact⟨rfl,HMT.out,HAL.out,HW.out⟩
  go_wp2_with fail
  go_loop [8,7] (fun r a =>∃k:Nat,rank≤k∧k≤n∧r= int i64 k∧a= int i64 (-1)∧∀i,rank≤i→i<k→at0 (ms'.getD i []) c=0) (fun r _ => n - (intOf r).toNat)
  case atStart => exact⟨rank,Nat.le_refl _,hrn,rfl,rfl,fun i h1 h2 => by omega⟩
  case round =>
   obtain⟨k,hk1,hk2,rfl,rfl,hz⟩:=hrel;have HZ:=hid hz;clear hz;by_cases hkn:k<n
   case neg =>
    obtain rfl:k=n:=by omega
    have hp:piv ms' c rank=none:=JE fun i h1 h2 => HZ.out i h1 (by rw[HMT.out.len]at h2;exact h2)
    have h:=HG.out;rw[show cols - c=(cols - (c+1))+1 from by omega,BE,hp]at h;have HG2:=hid h;clear h hp;go_wp2_with fail
    go_roundw
    case rel => exact⟨c+1,rank,ms',by omega,hrn,by omega,rfl,by go_num,HG2.out,HMT.out,HAL.out,HW.out⟩
    case measure => simp[intOf];omega
   obtain⟨ad,ca,fa,p1,p2,r1,n1,b1,d1⟩:=HMT.out.at_ HAL.out hkn (show c<m by omega);have hcm:c<m:=by omega
   by_cases h0:at0 (ms'.getD k []) c=0
   ·rw[h0]at p2;clear r1 n1 d1;go_wp2_with fail
    go_round
    case rel => exact⟨k+1,by omega,by omega,by go_num,rfl,fun i h1 h2 => by
     by_cases e:i=k
     ·subst e;exact h0
     ·exact HZ.out i h1 (by omega)⟩
    case measure => simp[intOf];omega
   have hp:piv ms' c rank=some k:=ML hk1 (by rw[HMT.out.len];exact hkn) HZ.out h0;have h:=HG.out;rw[show cols - c=(cols - (c+1))+1 from by omega,BE,hp]at h;have HG2:=hid h;clear h hp;have hz1:=u8nz h0;obtain⟨bb,hbb⟩:∃bb:Nat,(at0 (ms'.getD k []) c).toNat =bb:=⟨_,rfl⟩;rw[hbb]at hz1 p2;have hz2:¬(bb:Int)=0:=by omega
   have hz3:((bb:Int) != 0)=true:=by simp;omega
   have HBB:=hid hbb;clear hbb;have hrk:rank<n:=by omega
   obtain⟨ad2,ca2,fa2,q1,q2,r2,n2,b2,d2⟩:=HMT.out.at_ HAL.out hrk hcm;have fk:=HMT.out.free k hkn;have fr:=HMT.out.free rank hrk;have gz:=HMT.out.lt;have lk:=HAL.out.get (i:=k) (by rw[HMT.out.len];exact hkn);have lr:=HAL.out.get (i:=rank) (by rw[HMT.out.len];exact hrk);have M1:=HMT.out.put hrk lk r1 n1;have M2:=M1.put hkn lr (r2.farG n2) n2;have A2:=(HAL.out.set_ (i:=rank) lk).set_ (i:=k) lr;have W2:=(HW.out.setCell (IW hrk) (.slice (some ad) m ca)).setCell (IW hkn) (.slice (some ad2) m ca2);have ek:((ms'.set rank (ms'.getD k [])).set k (ms'.getD rank [])).getD rank [] =ms'.getD k []:=by
    have hlen:=HMT.out.len;rw[List.getD_eq_getElem?_getD,List.getElem?_set];by_cases e:k=rank
    ·subst e;rw[if_pos rfl,if_pos (by simp;omega)];rfl
    ·rw[if_neg e,List.getElem?_set_self (by omega)];rfl
   have HM2:=hid M2;have HA2:=hid A2;have HW2:=hid W2;have EK:=hid ek;clear M1 M2 A2 W2 ek r1 r2 n1 n2 q2 b2 d2 lk lr;go_wp2_with fail
   clear p2 b1 d1 hz1 hz2 hz3;go_cut [] (fun wx => Mat wx g n ((ms'.set rank (ms'.getD k [])).set k (ms'.getD rank []))∧AF (AU ⟨g,0,none⟩ n) w wx)
   case first =>
    by_cases e:rank=k
    ·subst e;have he:=p1.symm.trans q1;injection he with he
     injection he with he1 _ he3
     injection he1 with he1
     subst he1 he3;clear q1;go_region
     all_goals
      go_wp2_with fail
      go_meet
      exact⟨by first|exact HM2.out|exact HM2.out.drew_,by first|exact HW2.out|exact HW2.out.drewN 1⟩
    ·have e':¬k=rank:=fun h => e h.symm
     go_region
     all_goals
      go_wp2_with fail
      go_meet
      exact⟨by first|exact HM2.out|exact HM2.out.drew_,by first|exact HW2.out|exact HW2.out.drewN 1⟩
   case rest =>
    obtain⟨hM2,hW2⟩:=hcut;clear HM2 HW2 p1 q1 fk fr gz;have HM2:=hid hM2;have HW2:=hid hW2;obtain⟨ad,ca,fa,p1,p2,r1,n1,b1,d1⟩:=hM2.at_ HA2.out hrk hcm;rw[EK.out]at p2 r1;rw[HBB.out]at p2;clear hM2 hW2;have fr:=HM2.out.free rank hrk;have gz:=HM2.out.lt;have hkl:k<ms'.length:=by rw[HMT.out.len];exact hkn
    have hrl:rank<ms'.length:=by rw[HMT.out.len];exact hrk
    have hpl:=FQ (c:=c) HAL.out hkl;obtain⟨X,hX⟩:∃X,Jv (at0 (ms'.getD k []) c)=X:=⟨_,rfl⟩;have HD:=hid (show∀W,Calls Tryz.prog 290 #[.int .u8 1,.int .u8 (bb:Int)] W fun e w' => e= .returned (.int .u8 (X.toNat:Int))∧W=w' from fun W => by
     have:=div1_u (at0 (ms'.getD k []) c) W;rw[hX,HBB.out]at this;exact this)
    have HSC:=hid (show∀W,Below wc.heap.size wc W→Calls Tryz.prog 296 #[.slice (some ad) m ca,.int .u8 (X.toNat:Int)] W (Bw (Dy ms' c k) W)from fun W hW => by
     unfold Dy;rw[hX];exact Mi _ (ms'.getD k []) X fa W (Ag.below r1 hW) (by rw[HAL.out.get hkl];omega))
    have HPL:=hid hpl;clear hX hpl r1 n1;go_wp2_with fail
    go_cut [] (fun wx => Mat wx g n (CZ ms' rank c k)∧AF (AU ⟨g,0,none⟩ n) w wx)
    case first =>
     go_region_law (first
      |(go_simp;go_at_call 290;refine(HD.out _).mono ?_;rintro e w' ⟨rfl,rfl⟩;dsimp only)
      |(go_simp;go_at_call 296;refine(HSC.out _ (by repeat(with_reducible first|exact Below.refl _ _|apply Ar))).mono ?_;rintro e w3 ⟨A3,c3,f3,rfl,r3,m3,b3⟩;rw[HPL.out]at r3⊢;dsimp only;have B3:=hid (show Below wc.heap.size wc w3 from by first|exact b3|exact Ew b3);have q3:w3.cell? ⟨g,rank,none⟩=some (.slice (some ad) m ca):=(B3.out.cell (p:=⟨g,rank,none⟩) gz).trans p1;have fr3:w3.frozen? ⟨g,rank,none⟩=false:=(B3.out.frozen (p:=⟨g,rank,none⟩) gz).trans fr;have gz3:g<w3.heap.size:=Nat.lt_of_lt_of_le gz B3.out.size;have R3:=hid r3;have M3:=hid m3;clear r3 m3 b3))
     all_goals
      go_wp2_with fail
      go_meet
      have h1:=(HM2.out.below B3.out).put hrk HPL.out R3.out (fun a ha e => by have:=M3.out.from_ a ha;rw[e]at this;exact absurd gz (Nat.not_lt.2 this));rw[swap_eq]at h1;exact⟨h1,(HW2.out.trans (AF.of_below B3.out)).setCell (IW hrk) _⟩
    case rest =>
     obtain⟨hM3,hW3⟩:=hcut;obtain⟨u3,hu3⟩:∃u3,u3=wc:=⟨_,rfl⟩;subst hu3;clear HM2 HW2 HD HSC p1 p2 fr gz b1 d1;have HM3:=hid hM3;have HW3:=hid hW3;have HAS:=hid (Je (c:=c) HAL.out hrl hkl);have HSL:=hid (Hb ms' rank c k);have HGS:=hid (show JZ ms' rank c k=Cb (Dy ms' c k) rank c (CZ ms' rank c k) n from by unfold JZ;rw[HMT.out.len]);have HSR:=hid (show(CZ ms' rank c k).getD rank [] =Dy ms' c k from by
      unfold CZ;rw[List.getD_eq_getElem?_getD,List.getElem?_set_self (by simpa using hrl)];rfl)
     have HML:=hid HMT.out.len;clear hM3 hW3 HMT HW hrl hkl;obtain⟨P,hP⟩:∃P,Dy ms' c k=P:=⟨_,rfl⟩;obtain⟨S,hS⟩:∃S,CZ ms' rank c k=S:=⟨_,rfl⟩;rw[hP,hS]at HGS;rw[hP]at HPL;rw[hS]at HM3 HAS HSL;rw[hS,hP]at HSR;clear hP hS;go_wp2_with fail
     go_loopw [65,9] (fun i _ wr =>∃j:Nat,j≤n∧i= int i64 j∧Mat wr g n (Cb P rank c S j)∧AF (AU ⟨g,0,none⟩ n) w wr) (fun i _ _ => n - (intOf i).toNat)
     case atStart => exact⟨0,by omega,rfl,by rw[Jr];exact HM3.out,HW3.out⟩
     case round =>
      obtain⟨j,hj,rfl,hmj,hwj⟩:=hrel;by_cases hjn:j<n
      case neg =>
       obtain rfl:j=n:=by omega
       have HMJ:=hid hmj;have HWJ:=hid hwj;clear hmj hwj;go_wp2_with fail
       go_roundw
       case rel => exact⟨c+1,rank+1,_,by omega,by omega,by omega,by go_num,by go_num,HG2.out,by rw[HGS.out];exact HMJ.out,by rw[HGS.out];exact FY HAS.out HPL.out,HWJ.out⟩
       case measure => simp[intOf];omega
      have hjs:j<S.length:=by rw[HSL.out,HML.out];exact hjn
      have hrs:rank<S.length:=by rw[HSL.out,HML.out];exact hrk
      have e1:=Fl (p:=P) (rank:=rank) (c:=c) (j:=j) hjs;rw[if_neg (by omega)]at e1;have e2:=Fl (p:=P) (rank:=rank) (c:=c) (j:=j) hrs;rw[if_neg (fun h => h.2 rfl),HSR.out]at e2;have hea:=FY (rank:=rank) (c:=c) (j:=j) HAS.out HPL.out;obtain⟨ad,ca,fa,p1,p2,r1,n1,b1,d1⟩:=hmj.at_ hea hjn hcm;obtain⟨ad2,ca2,fa2,q1,q2,r2,n2,b2,d2⟩:=hmj.at_ hea hrk hcm;rw[e1]at p2 r1;rw[e2]at r2;have hlj:=HAS.out.get hjs;have fr:=hmj.free j hjn;have gz:=hmj.lt;have HMJ:=hid hmj;have HWJ:=hid hwj;clear e1 e2 hea hmj hwj q2 b2 d2;by_cases ejr:j=rank
      ·subst ejr;clear r1 r2 n1 n2;go_wp2_with fail
       go_roundw
       case rel => exact⟨j+1,by omega,by go_num,by rw[GQ];exact HMJ.out,HWJ.out⟩
       case measure => simp[intOf];omega
      have ejr2:¬(j:Int)=(rank:Int):=by omega
      by_cases hz:at0 (S.getD j []) c=0
      ·rw[hz]at p2;clear r1 r2 n1 n2;go_wp2_with fail
       go_roundw
       case rel => exact⟨j+1,by omega,by go_num,by rw[MV hjs hz (by rw[hlj,HPL.out])];exact HMJ.out,HWJ.out⟩
       case measure => simp[intOf];omega
      have hst:=G1 (p:=P) (rank:=rank) (c:=c) hjs ejr;have hz1:=u8nz hz;obtain⟨y,hy⟩:∃y,at0 (S.getD j []) c=y:=⟨_,rfl⟩;rw[hy]at hz1 p2;have hz2:¬(y.toNat:Int)=0:=by omega
      have hz3:((y.toNat:Int) != 0)=true:=by simp;omega
      have hll:(DV P c (S.getD j [])).length =m:=by rw[Fw (by rw[hlj,HPL.out]),hlj]
      have HSM:=hid (show∀W,Below wr.heap.size wr W→Calls Tryz.prog 259 #[.slice (some ad) m ca,.slice (some ad2) m ca2,.int .u8 (y.toNat:Int)] W (Bw (DV P c (S.getD j [])) W)from fun W hW => by
       unfold DV;rw[hy];exact sum_c _ _ (S.getD j []) P y fa fa2 W (Ag.below r1 hW) (Ag.below r2 hW) (by rw[hlj,HPL.out]) (by rw[HPL.out];omega))
      have HLL:=hid hll;have HST:=hid hst;clear hy hll hst r1 r2 n1 n2 hz hlj;go_wp2_with fail
      go_region_law (go_simp;go_at_call 259;refine(HSM.out _ (by repeat(with_reducible first|exact Below.refl _ _|apply Ar))).mono ?_;rintro e w3 ⟨A3,c3,f3,rfl,r3,m3,b3⟩;rw[HLL.out]at r3⊢;dsimp only;have B3:=hid (show Below wr.heap.size wr w3 from by first|exact b3|exact Ew b3);have q3:w3.cell? ⟨g,j,none⟩=some (.slice (some ad) m ca):=(B3.out.cell (p:=⟨g,j,none⟩) gz).trans p1;have fr3:w3.frozen? ⟨g,j,none⟩=false:=(B3.out.frozen (p:=⟨g,j,none⟩) gz).trans fr;have gz3:g<w3.heap.size:=Nat.lt_of_lt_of_le gz B3.out.size;have R3:=hid r3;have M3:=hid m3;clear r3 m3 b3)
      all_goals
       go_wp2_with fail
       go_roundw
       case rel =>
        have h1:=(HMJ.out.below B3.out).put hjn HLL.out R3.out (fun a ha e => by have:=M3.out.from_ a ha;rw[e]at this;exact absurd gz (Nat.not_lt.2 this));rw[← HST.out]at h1;exact⟨j+1,by omega,by go_num,h1,(HWJ.out.trans (AF.of_below B3.out)).setCell (IW hjn) _⟩
       case measure => simp[intOf];omega
end Go.Proofs.YtfjkoifpdoemdaaGreat
