/-
  Part 15 of the proof.
-/
import Derived.Test.YtfjkoifpdoemdaaGreatI14
set_option maxHeartbeats 8000000
set_option maxRecDepth 100000
set_option linter.unusedVariables false
set_option linter.unusedSimpArgs false
open Go.Value (int)
open Go.IntKind (i64)
namespace Go.Proofs.YtfjkoifpdoemdaaGreat
open Go.RowKit Go.Sort
open Go.Lib (hid)
theorem l1Step_c(g n cap m cols:Nat)(ms:List (List UInt8))(w:World)(hM:Mat w g n ms)(hA:Cf ms m)(hc:cols≤m)(hn:n≤1000)(hm:m≤1000)(hcap:n≤cap)(hcap2:cap≤9223372036854775807) :
  Calls Tryz.prog 283 #[.slice (some ⟨g,0,none⟩) n cap,int i64 (cols:Int)] w fun e w' => e= .returned (int i64 (((BE cols 0 0 ms).1:Nat):Int))∧Mat w' g n (BE cols 0 0 ms).2∧Cf (BE cols 0 0 ms).2 m∧AF (AU ⟨g,0,none⟩ n) w w':=by
 obtain⟨R,hR⟩:∃R,BE cols 0 0 ms=R:=⟨_,rfl⟩;rw[hR];have HR:=hid hR;clear hR;have HM:=hid hM;have HA:=hid hA;clear hM hA;go_enter Tryz.func283,Tryz.ntmps283
 go_wp2_with fail
 go_loopw [5,6,7,8,9] (fun rk cc _ _ _ wr =>∃(c rank:Nat) (ms':List (List UInt8)),c≤cols∧rank≤n∧rank≤c∧rk= int i64 rank∧cc= int i64 c∧BE (cols - c) c rank ms'=R∧Mat wr g n ms'∧Cf ms' m∧AF (AU ⟨g,0,none⟩ n) w wr) (fun _ cc _ _ _ _ => cols - (intOf cc).toNat)
 case atStart => exact⟨0,0,ms,by omega,by omega,by omega,rfl,rfl,HR.out,HM.out,HA.out,AF.refl _ _⟩
 case round =>
  obtain⟨c,rank,ms',hcc,hrn,hrc,rfl,rfl,hg,hmat,hall,hwr⟩:=hrel;obtain⟨u,hu⟩:∃u,u=wr:=⟨_,rfl⟩;subst hu;have HG:=hid hg;have HMT:=hid hmat;have HAL:=hid hall;have HW:=hid hwr;clear hg hmat hall hwr;by_cases hlt:c<cols
  case neg =>
   obtain rfl:c=cols:=by omega
   have h:=HG.out;rw[Nat.sub_self,BE]at h;subst h;go_wp2_with fail
   go_ret
   exact⟨rfl,HMT.out,HAL.out,HW.out⟩
  by_cases hrk:rank<n
  case neg =>
   obtain rfl:rank=n:=by omega
   have h:=HG.out;rw[Jj _ _ _ (by rw[HMT.out.len];exact Nat.le_refl _)]at h;subst h;go_wp2_with fail
   go_ret
   exact⟨rfl,HMT.out,HAL.out,HW.out⟩
  go_wp2_with fail
  go_loop [7] (fun r =>∃k:Nat,rank≤k∧k≤n∧r= int i64 k∧∀i,rank≤i→i<k→at0 (ms'.getD i []) c=0) (fun r => n - (intOf r).toNat)
  case atStart => exact⟨rank,Nat.le_refl _,hrn,rfl,fun i h1 h2 => by omega⟩
  case round =>
   obtain⟨k,hk1,hk2,rfl,hz⟩:=hrel;have HZ:=hid hz;clear hz;by_cases hkn:k<n
   case neg =>
    obtain rfl:k=n:=by omega
    have hp:piv ms' c rank=none:=JE fun i h1 h2 => HZ.out i h1 (by rw[HMT.out.len]at h2;exact h2)
    have h:=HG.out;rw[show cols - c=(cols - (c+1))+1 from by omega,BE,hp]at h;have HG2:=hid h;clear h hp;go_wp2_with fail
    go_roundw
    case rel => exact⟨c+1,rank,ms',by omega,hrn,by omega,rfl,by go_num,HG2.out,HMT.out,HAL.out,HW.out⟩
    case measure => simp[intOf];omega
   obtain⟨ad,ca,fa,p1,p2,r1,n1,b1,d1⟩:=HMT.out.at_ HAL.out hkn (show c<m by omega);have hcm:c<m:=by omega
   by_cases h0:at0 (ms'.getD k []) c=0
   ·rw[h0]at p2;clear r1 n1 d1;go_wp2_with fail
    go_round
    case rel => exact⟨k+1,by omega,by omega,by go_num,fun i h1 h2 => by
     by_cases e:i=k
     ·subst e;exact h0
     ·exact HZ.out i h1 (by omega)⟩
    case measure => simp[intOf];omega
   have hp:piv ms' c rank=some k:=ML hk1 (by rw[HMT.out.len];exact hkn) HZ.out h0;have h:=HG.out;rw[show cols - c=(cols - (c+1))+1 from by omega,BE,hp]at h;have HG2:=hid h;clear h hp;have hz1:=u8nz h0;obtain⟨bb,hbb⟩:∃bb:Nat,(at0 (ms'.getD k []) c).toNat =bb:=⟨_,rfl⟩;rw[hbb]at hz1 p2;have hz2:¬(bb:Int)=0:=by omega
   have HBB:=hid hbb;clear hbb;obtain⟨ad2,ca2,fa2,q1,q2,r2,n2,b2,d2⟩:=HMT.out.at_ HAL.out hrk hcm;have fk:=HMT.out.free k hkn;have fr:=HMT.out.free rank hrk;have gz:=HMT.out.lt;have lr:=HAL.out.get (i:=rank) (by rw[HMT.out.len];exact hrk);have HM2:=hid (HMT.out.put hkn lr r2 n2);have HW2:=hid (HW.out.setCell (IW hkn) (.slice (some ad2) m ca2));have hkl:k<ms'.length:=by rw[HMT.out.len];exact hkn
   have hrl:rank<ms'.length:=by rw[HMT.out.len];exact hrk
   have hpl:=FQ (c:=c) HAL.out hkl;obtain⟨X,hX⟩:∃X,Jv (at0 (ms'.getD k []) c)=X:=⟨_,rfl⟩;have HD:=hid (show∀W,Calls Tryz.prog 238 #[.int .u8 (bb:Int)] W fun e w' => e= .returned (.int .u8 (X.toNat:Int))∧W=w' from fun W => by
    have:=inv_u (at0 (ms'.getD k []) c) W;rw[hX,HBB.out]at this;exact this)
   have HSC:=hid (show Calls Tryz.prog 156 #[.slice (some ad) m ca,.int .u8 (X.toNat:Int)] (u.setCell ⟨g,k,none⟩ (.slice (some ad2) m ca2)) (Bw (Dy ms' c k) (u.setCell ⟨g,k,none⟩ (.slice (some ad2) m ca2)))from by
    unfold Dy;rw[hX];exact GD _ (ms'.getD k []) X fa _ (r1.farG n1) (by rw[HAL.out.get hkl];omega))
   have p2':(u.setCell ⟨g,k,none⟩ (.slice (some ad2) m ca2)).cell? (ad.add c)=some (.int .u8 (bb:Int)):=(World.cell?_setCell_other _ _ _ _ (fun e => d1 (by rw[← e]))).trans p2;have HPL:=hid hpl;clear hX hpl r1 n1 r2 n2 q2 b2 d2 lr;go_wp2_with (first
    |(go_at_call 238;refine(HD.out _).mono ?_;rintro e w' ⟨rfl,rfl⟩)
    |(go_at_call 156;refine HSC.out.mono ?_;rintro e w3 ⟨A3,c3,f3,rfl,r3,m3,b3⟩;rw[HPL.out]at r3⊢;have B3:=hid b3;have gz2:g<(u.setCell ⟨g,k,none⟩ (.slice (some ad2) m ca2)).heap.size:=HM2.out.lt;have fr3:w3.frozen? ⟨g,rank,none⟩=false:=(B3.out.frozen (p:=⟨g,rank,none⟩) gz2).trans (HM2.out.free rank hrk);have gz3:g<w3.heap.size:=Nat.lt_of_lt_of_le gz2 B3.out.size;have q3:∃v,w3.cell? ⟨g,rank,none⟩=some v:=(by obtain⟨A,cc,f,hh,-⟩:=HM2.out.row rank hrk;exact⟨_,(B3.out.cell (p:=⟨g,rank,none⟩) gz2).trans hh⟩);obtain⟨v3,q3⟩:=q3;have R3:=hid r3;have M3:=hid m3;clear r3 m3 b3))
   have hM3:=(HM2.out.below B3.out).put hrk HPL.out R3.out (fun a ha e => by have:=M3.out.from_ a ha;rw[e]at this;exact absurd gz2 (Nat.not_lt.2 this));have hW3:=(HW2.out.trans (AF.of_below B3.out)).setCell (IW hrk) (.slice A3 m c3);have HM3:=hid (show Mat _ g n (CZ ms' rank c k)from hM3);have HW3:=hid hW3;clear HM2 HW2 HD HSC p1 p2 fr gz b1 d1 hM3 hW3;have HAS:=hid (Je (c:=c) HAL.out hrl hkl);have HSL:=hid (Hb ms' rank c k);have HGS:=hid (show JZ ms' rank c k=Cb (Dy ms' c k) rank c (CZ ms' rank c k) n from by unfold JZ;rw[HMT.out.len]);have HSR:=hid (show(CZ ms' rank c k).getD rank [] =Dy ms' c k from by
    unfold CZ;rw[List.getD_eq_getElem?_getD,List.getElem?_set_self (by simpa using hrl)];rfl)
   have HML:=hid HMT.out.len;clear HMT HW hrl hkl;obtain⟨P,hP⟩:∃P,Dy ms' c k=P:=⟨_,rfl⟩;obtain⟨S,hS⟩:∃S,CZ ms' rank c k=S:=⟨_,rfl⟩;rw[hP,hS]at HGS;rw[hP]at HPL;rw[hS]at HM3 HAS HSL;rw[hS,hP]at HSR;clear hP hS;go_wp2_with fail
   go_loopw [9] (fun i wr =>∃j:Nat,j≤n∧i= int i64 j∧Mat wr g n (Cb P rank c S j)∧AF (AU ⟨g,0,none⟩ n) w wr) (fun i _ => n - (intOf i).toNat)
   case atStart => exact⟨0,by omega,rfl,by rw[Jr];exact HM3.out,HW3.out⟩
   case round =>
    obtain⟨j,hj,rfl,hmj,hwj⟩:=hrel;by_cases hjn:j<n
    case neg =>
     obtain rfl:j=n:=by omega
     have HMJ:=hid hmj;have HWJ:=hid hwj;clear hmj hwj;go_wp2_with fail
     go_roundw
     case rel => exact⟨c+1,rank+1,_,by omega,by omega,by omega,by go_num,by go_num,HG2.out,by rw[HGS.out];exact HMJ.out,by rw[HGS.out];exact FY HAS.out HPL.out,HWJ.out⟩
     case measure => simp[intOf];omega
    have hjs:j<S.length:=by rw[HSL.out,HML.out];exact hjn
    have hrs:rank<S.length:=by rw[HSL.out,HML.out];exact hrk
    have e1:=Fl (p:=P) (rank:=rank) (c:=c) (j:=j) hjs;rw[if_neg (by omega)]at e1;have e2:=Fl (p:=P) (rank:=rank) (c:=c) (j:=j) hrs;rw[if_neg (fun h => h.2 rfl),HSR.out]at e2;have hea:=FY (rank:=rank) (c:=c) (j:=j) HAS.out HPL.out;obtain⟨ad,ca,fa,p1,p2,r1,n1,b1,d1⟩:=hmj.at_ hea hjn hcm;obtain⟨ad2,ca2,fa2,q1,q2,r2,n2,b2,d2⟩:=hmj.at_ hea hrk hcm;rw[e1]at p2 r1;rw[e2]at r2;have hlj:=HAS.out.get hjs;have fr:=hmj.free j hjn;have gz:=hmj.lt;have HMJ:=hid hmj;have HWJ:=hid hwj;clear e1 e2 hea hmj hwj q2 b2 d2;by_cases ejr:j=rank
    ·subst ejr;clear r1 r2 n1 n2;go_wp2_with fail
     go_roundw
     case rel => exact⟨j+1,by omega,by go_num,by rw[GQ];exact HMJ.out,HWJ.out⟩
     case measure => simp[intOf];omega
    have ejr2:¬(j:Int)=(rank:Int):=by omega
    have hst:=G1 (p:=P) (rank:=rank) (c:=c) hjs ejr;obtain⟨y,hy⟩:∃y,at0 (S.getD j []) c=y:=⟨_,rfl⟩;rw[hy]at p2;have hll:(DV P c (S.getD j [])).length =m:=by rw[Fw (by rw[hlj,HPL.out]),hlj]
    have hsl:=Cr P y;rw[HPL.out]at hsl;have HSL2:=hid hsl;have HC1:=hid (show∀W,Below wr.heap.size wr W→Calls Tryz.prog 156 #[.slice (some ad2) m ca2,.int .u8 (y.toNat:Int)] W (Bw (Bn P y) W)from fun W hW => GD _ P y fa2 W (Ag.below r2 hW) (by rw[HPL.out];omega));have HC2:=hid (show∀W A5 c5 f5,Below wr.heap.size wr W→Ag W f5 (.slice A5 m c5) (Bn P y)→Calls Tryz.prog 158 #[.slice (some ad) m ca,.slice A5 m c5] W (Bw (DV P c (S.getD j [])) W)from fun W A5 c5 f5 hW h5 => by
     unfold DV;rw[hy,KD];exact Kw _ _ (S.getD j []) (Bn P y) fa f5 W (Ag.below r1 hW) h5 (by rw[hlj,hsl]) (by rw[hsl];omega))
    have HLL:=hid hll;have HST:=hid hst;clear hy hll hst r1 r2 n1 n2 hlj hsl;go_wp2_with fail
    go_region_law (first
     |(go_simp;go_at_call 156;refine(HC1.out _ (by repeat(with_reducible first|exact Below.refl _ _|apply Ar))).mono ?_;rintro e w5 ⟨A5,c5,f5,rfl,h5,m5,b5⟩;rw[HSL2.out]at h5⊢;dsimp only;have HB5:=hid (show Below wr.heap.size wr w5 from by first|exact b5|exact Ew b5);have H5:=hid h5;have q5:w5.cell? ⟨g,j,none⟩=some (.slice (some ad) m ca):=(HB5.out.cell (p:=⟨g,j,none⟩) gz).trans p1;have gz5:g<w5.heap.size:=Nat.lt_of_lt_of_le gz HB5.out.size;clear h5 b5 m5)
     |(go_simp;go_at_call 158;refine(HC2.out _ A5 c5 f5 (by repeat(with_reducible first|exact HB5.out|exact Below.refl _ _|apply Ar)) H5.out).mono ?_;rintro e w3 ⟨A3,c3,f3,rfl,r3,m3,b3⟩;rw[HLL.out]at r3⊢;dsimp only;have B3:=hid (show Below wr.heap.size wr w3 from HB5.out.trans (b3.mono HB5.out.size));have q3:w3.cell? ⟨g,j,none⟩=some (.slice (some ad) m ca):=(B3.out.cell (p:=⟨g,j,none⟩) gz).trans p1;have fr3:w3.frozen? ⟨g,j,none⟩=false:=(B3.out.frozen (p:=⟨g,j,none⟩) gz).trans fr;have gz3:g<w3.heap.size:=Nat.lt_of_lt_of_le gz B3.out.size;have R3:=hid r3;have M3:=hid m3;clear r3 m3 b3))
    all_goals
     go_wp2_with fail
     go_roundw
     case rel =>
      have h1:=(HMJ.out.below B3.out).put hjn HLL.out R3.out (fun a ha e => by have:=M3.out.from_ a ha;have:=HB5.out.size;omega);rw[← HST.out]at h1;exact⟨j+1,by omega,by go_num,h1,(HWJ.out.trans (AF.of_below B3.out)).setCell (IW hjn) _⟩
     case measure => simp[intOf];omega
end Go.Proofs.YtfjkoifpdoemdaaGreat
