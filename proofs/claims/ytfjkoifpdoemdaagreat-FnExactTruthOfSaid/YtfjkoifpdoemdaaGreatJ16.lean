/- Part 16 of the proof. -/
import Derived.Test.YtfjkoifpdoemdaaGreatJ15
set_option maxHeartbeats 8000000
set_option maxRecDepth 100000
set_option linter.unusedVariables false
set_option linter.unusedSimpArgs false
open Go.Proofs.Tryz
open Go.Value (int)
open Go.IntKind (i64)
namespace Go.Proofs.YtfjkoifpdoemdaaGreat
open Go.RowKit Go.Sort
theorem l1Step_c(g n cap m cols:Nat)(ms:List (List UInt8))(w:World)(hM:Mat w g n ms)(hA:Ci ms m)(hc:cols≤m)(hn:n≤1000)(hm:m≤1000)(hcap:n≤cap)(hcap2:cap≤9223372036854775807) :
  Calls prog 283 #[.slice (some ⟨g,0,none⟩) n cap,int i64 (cols:Int)] w fun e w' => e= .returned (int i64 (((BH cols 0 0 ms).1:Nat):Int))∧Mat w' g n (BH cols 0 0 ms).2∧Ci (BH cols 0 0 ms).2 m∧AD (AV ⟨g,0,none⟩ n) w w':=by
 obtain⟨R,hR⟩:∃R,BH cols 0 0 ms=R:=⟨_,rfl⟩;rw[hR];have HR:=U hR;clear hR;have HM:=U hM;have HA:=U hA;clear hM hA;go_enter func283,ntmps283
 go_wp2_with fail
 go_loopw [5,6,7,8,9] (fun rk cc _ _ _ wr =>∃(c rank:Nat) (ms':List (List UInt8)),c≤cols∧rank≤n∧rank≤c∧rk= int i64 rank∧cc= int i64 c∧BH (cols - c) c rank ms'=R∧Mat wr g n ms'∧Ci ms' m∧AD (AV ⟨g,0,none⟩ n) w wr) (fun _ cc _ _ _ _ => cols - (intOf cc).toNat)
 case atStart => exact⟨0,0,ms,by omega,by omega,by omega,rfl,rfl,HR.o,HM.o,HA.o,AD.refl _ _⟩
 case round =>
  obtain⟨c,rank,ms',hcc,hrn,hrc,rfl,rfl,hg,hmat,hall,hwr⟩:=hrel;obtain⟨u,hu⟩:∃u,u=wr:=⟨_,rfl⟩;subst hu;have HG:=U hg;have HMT:=U hmat;have HAL:=U hall;have HW:=U hwr;clear hg hmat hall hwr;by_cases hlt:c<cols
  case neg =>
   obtain rfl:c=cols:=by omega
   have h:=HG.o;rw[Nat.sub_self,BH]at h;subst h;go_wp2_with fail
   go_ret
   exact⟨rfl,HMT.o,HAL.o,HW.o⟩
  by_cases hrk:rank<n
  case neg =>
   obtain rfl:rank=n:=by omega
   have h:=HG.o;rw[JD _ _ _ (by rw[HMT.o.len];exact aC _)]at h;subst h;go_wp2_with fail
   go_ret
   exact⟨rfl,HMT.o,HAL.o,HW.o⟩
  go_wp2_with fail
  go_loop [7] (fun r =>∃k:Nat,rank≤k∧k≤n∧r= int i64 k∧∀i,rank≤i→i<k→at0 (ms'.getD i []) c=0) (fun r => n - (intOf r).toNat)
  case atStart => exact⟨rank,aC _,hrn,rfl,fun i h1 h2 => by omega⟩
  case round =>
   obtain⟨k,hk1,hk2,rfl,hz⟩:=hrel;have HZ:=U hz;clear hz;by_cases hkn:k<n
   case neg =>
    obtain rfl:k=n:=by omega
    have hp:piv ms' c rank=none:=J5 fun i h1 h2 => HZ.o i h1 (by rw[HMT.o.len]at h2;exact h2)
    have h:=HG.o;rw[show cols - c=(cols - (c+1))+1 from by omega,BH,hp]at h;have HG2:=U h;clear h hp;go_wp2_with fail
    go_roundw
    case rel => exact⟨c+1,rank,ms',by omega,hrn,by omega,rfl,by go_num,HG2.o,HMT.o,HAL.o,HW.o⟩
    case measure => simp[intOf];omega
   obtain⟨ad,ca,fa,p1,p2,r1,n1,b1,d1⟩:=HMT.o.at_ HAL.o hkn (show c<m by omega);have hcm:c<m:=by omega
   by_cases h0:at0 (ms'.getD k []) c=0
   ·rw[h0]at p2;clear r1 n1 d1;go_wp2_with fail
    go_round
    case rel => exact⟨k+1,by omega,by omega,by go_num,fun i h1 h2 => by
     by_cases e:i=k
     ·subst e;exact h0
     ·exact HZ.o i h1 (by omega)⟩
    case measure => simp[intOf];omega
   have hp:piv ms' c rank=some k:=Nr hk1 (by rw[HMT.o.len];exact hkn) HZ.o h0;have h:=HG.o;rw[show cols - c=(cols - (c+1))+1 from by omega,BH,hp]at h;have HG2:=U h;clear h hp;have hz1:=u8nz h0;obtain⟨bb,hbb⟩:∃bb:Nat,(at0 (ms'.getD k []) c).toNat =bb:=⟨_,rfl⟩;rw[hbb]at hz1 p2;have hz2:¬(bb:Int)=0:=by omega
   have HBB:=U hbb;clear hbb;obtain⟨ad2,ca2,fa2,q1,q2,r2,n2,b2,d2⟩:=HMT.o.at_ HAL.o hrk hcm;have fk:=HMT.o.free k hkn;have fr:=HMT.o.free rank hrk;have gz:=HMT.o.lt;have lr:=HAL.o.get (i:=rank) (by rw[HMT.o.len];exact hrk);have HM2:=U (HMT.o.put hkn lr r2 n2);have HW2:=U (HW.o.setCell (Jc hkn) (.slice (some ad2) m ca2));have hkl:k<ms'.length:=by rw[HMT.o.len];exact hkn
   have hrl:rank<ms'.length:=by rw[HMT.o.len];exact hrk
   have hpl:=Gc (c:=c) HAL.o hkl;obtain⟨X,hX⟩:∃X,JX (at0 (ms'.getD k []) c)=X:=⟨_,rfl⟩;have HD:=U (show∀W,Calls prog 238 #[.int .u8 (bb:Int)] W fun e w' => e= .returned (.int .u8 (X.toNat:Int))∧W=w' from fun W => by
    have:=inv_u (at0 (ms'.getD k []) c) W;rw[hX,HBB.o]at this;exact this)
   have HSC:=U (show Calls prog 156 #[.slice (some ad) m ca,.int .u8 (X.toNat:Int)] (u.setCell ⟨g,k,none⟩ (.slice (some ad2) m ca2)) (By (DH ms' c k) (u.setCell ⟨g,k,none⟩ (.slice (some ad2) m ca2)))from by
    unfold DH;rw[hX];exact GX _ (ms'.getD k []) X fa _ (r1.farG n1) (by rw[HAL.o.get hkl];omega))
   have p2':(u.setCell ⟨g,k,none⟩ (.slice (some ad2) m ca2)).cell? (ad.add c)=some (.int .u8 (bb:Int)):=(World.cell?_setCell_other _ _ _ _ (fun e => d1 (by rw[← e]))).trans p2;have HPL:=U hpl;clear hX hpl r1 n1 r2 n2 q2 b2 d2 lr;go_wp2_with (first
    |(go_at_call 238;refine(HD.o _).mono ?_;rintro e w' ⟨rfl,rfl⟩)
    |(go_at_call 156;refine HSC.o.mono ?_;rintro e w3 ⟨A3,c3,f3,rfl,r3,m3,b3⟩;rw[HPL.o]at r3⊢;have B3:=U b3;have gz2:g<(u.setCell ⟨g,k,none⟩ (.slice (some ad2) m ca2)).heap.size:=HM2.o.lt;have fr3:w3.frozen? ⟨g,rank,none⟩=false:=(B3.o.frozen (p:=⟨g,rank,none⟩) gz2).trans (HM2.o.free rank hrk);have gz3:g<w3.heap.size:=aE gz2 B3.o.size;have q3:∃v,w3.cell? ⟨g,rank,none⟩=some v:=(by obtain⟨A,cc,f,hh,-⟩:=HM2.o.row rank hrk;exact⟨_,(B3.o.cell (p:=⟨g,rank,none⟩) gz2).trans hh⟩);obtain⟨v3,q3⟩:=q3;have R3:=U r3;have M3:=U m3;clear r3 m3 b3))
   have hM3:=(HM2.o.below B3.o).put hrk HPL.o R3.o (fun a ha e => by have:=M3.o.from_ a ha;rw[e]at this;exact absurd gz2 (Nat.not_lt.2 this));have hW3:=(HW2.o.trans (AD.of_below B3.o)).setCell (Jc hrk) (.slice A3 m c3);have HM3:=U (show Mat _ g n (C9 ms' rank c k)from hM3);have HW3:=U hW3;clear HM2 HW2 HD HSC p1 p2 fr gz b1 d1 hM3 hW3;have HAS:=U (JR (c:=c) HAL.o hrl hkl);have HSL:=U (Hz ms' rank c k);have HGS:=U (show KV ms' rank c k=Ca (DH ms' c k) rank c (C9 ms' rank c k) n from by unfold KV;rw[HMT.o.len]);have HSR:=U (show(C9 ms' rank c k).getD rank [] =DH ms' c k from by
    unfold C9;rw[aJ,List.getElem?_set_self (by simpa using hrl)];rfl)
   have HML:=U HMT.o.len;clear HMT HW hrl hkl;obtain⟨P,hP⟩:∃P,DH ms' c k=P:=⟨_,rfl⟩;obtain⟨S,hS⟩:∃S,C9 ms' rank c k=S:=⟨_,rfl⟩;rw[hP,hS]at HGS;rw[hP]at HPL;rw[hS]at HM3 HAS HSL;rw[hS,hP]at HSR;clear hP hS;go_wp2_with fail
   go_loopw [9] (fun i wr =>∃j:Nat,j≤n∧i= int i64 j∧Mat wr g n (Ca P rank c S j)∧AD (AV ⟨g,0,none⟩ n) w wr) (fun i _ => n - (intOf i).toNat)
   case atStart => exact⟨0,by omega,rfl,by rw[JC];exact HM3.o,HW3.o⟩
   case round =>
    obtain⟨j,hj,rfl,hmj,hwj⟩:=hrel;by_cases hjn:j<n
    case neg =>
     obtain rfl:j=n:=by omega
     have HMJ:=U hmj;have HWJ:=U hwj;clear hmj hwj;go_wp2_with fail
     go_roundw
     case rel => exact⟨c+1,rank+1,_,by omega,by omega,by omega,by go_num,by go_num,HG2.o,by rw[HGS.o];exact HMJ.o,by rw[HGS.o];exact Gj HAS.o HPL.o,HWJ.o⟩
     case measure => simp[intOf];omega
    have hjs:j<S.length:=by rw[HSL.o,HML.o];exact hjn
    have hrs:rank<S.length:=by rw[HSL.o,HML.o];exact hrk
    have e1:=Fl (p:=P) (rank:=rank) (c:=c) (j:=j) hjs;rw[aI (by omega)]at e1;have e2:=Fl (p:=P) (rank:=rank) (c:=c) (j:=j) hrs;rw[aI (fun h => h.2 rfl),HSR.o]at e2;have hea:=Gj (rank:=rank) (c:=c) (j:=j) HAS.o HPL.o;obtain⟨ad,ca,fa,p1,p2,r1,n1,b1,d1⟩:=hmj.at_ hea hjn hcm;obtain⟨ad2,ca2,fa2,q1,q2,r2,n2,b2,d2⟩:=hmj.at_ hea hrk hcm;rw[e1]at p2 r1;rw[e2]at r2;have hlj:=HAS.o.get hjs;have fr:=hmj.free j hjn;have gz:=hmj.lt;have HMJ:=U hmj;have HWJ:=U hwj;clear e1 e2 hea hmj hwj q2 b2 d2;by_cases ejr:j=rank
    ·subst ejr;clear r1 r2 n1 n2;go_wp2_with fail
     go_roundw
     case rel => exact⟨j+1,by omega,by go_num,by rw[Hd];exact HMJ.o,HWJ.o⟩
     case measure => simp[intOf];omega
    have ejr2:¬(j:Int)=(rank:Int):=by omega
    have hst:=He (p:=P) (rank:=rank) (c:=c) hjs ejr;obtain⟨y,hy⟩:∃y,at0 (S.getD j []) c=y:=⟨_,rfl⟩;rw[hy]at p2;have hll:(DY P c (S.getD j [])).length =m:=by rw[FK (by rw[hlj,HPL.o]),hlj]
    have hsl:=Cx P y;rw[HPL.o]at hsl;have HSL2:=U hsl;have HC1:=U (show∀W,Below wr.heap.size wr W→Calls prog 156 #[.slice (some ad2) m ca2,.int .u8 (y.toNat:Int)] W (By (Bo P y) W)from fun W hW => GX _ P y fa2 W (Ag.below r2 hW) (by rw[HPL.o];omega));have HC2:=U (show∀W A5 c5 f5,Below wr.heap.size wr W→Ag W f5 (.slice A5 m c5) (Bo P y)→Calls prog 158 #[.slice (some ad) m ca,.slice A5 m c5] W (By (DY P c (S.getD j [])) W)from fun W A5 c5 f5 hW h5 => by
     unfold DY;rw[hy,Lh];exact Lt _ _ (S.getD j []) (Bo P y) fa f5 W (Ag.below r1 hW) h5 (by rw[hlj,hsl]) (by rw[hsl];omega))
    have HLL:=U hll;have HST:=U hst;clear hy hll hst r1 r2 n1 n2 hlj hsl;go_wp2_with fail
    go_region_law (first
     |(go_simp;go_at_call 156;refine(HC1.o _ (by repeat(with_reducible first|exact aB _ _|apply An))).mono ?_;rintro e w5 ⟨A5,c5,f5,rfl,h5,m5,b5⟩;rw[HSL2.o]at h5⊢;dsimp only;have HB5:=U (show Below wr.heap.size wr w5 from by first|exact b5|exact EN b5);have H5:=U h5;have q5:w5.cell? ⟨g,j,none⟩=some (.slice (some ad) m ca):=(HB5.o.cell (p:=⟨g,j,none⟩) gz).trans p1;have gz5:g<w5.heap.size:=aE gz HB5.o.size;clear h5 b5 m5)
     |(go_simp;go_at_call 158;refine(HC2.o _ A5 c5 f5 (by repeat(with_reducible first|exact HB5.o|exact aB _ _|apply An)) H5.o).mono ?_;rintro e w3 ⟨A3,c3,f3,rfl,r3,m3,b3⟩;rw[HLL.o]at r3⊢;dsimp only;have B3:=U (show Below wr.heap.size wr w3 from HB5.o.trans (b3.mono HB5.o.size));have q3:w3.cell? ⟨g,j,none⟩=some (.slice (some ad) m ca):=(B3.o.cell (p:=⟨g,j,none⟩) gz).trans p1;have fr3:w3.frozen? ⟨g,j,none⟩=false:=(B3.o.frozen (p:=⟨g,j,none⟩) gz).trans fr;have gz3:g<w3.heap.size:=aE gz B3.o.size;have R3:=U r3;have M3:=U m3;clear r3 m3 b3))
    all_goals
     go_wp2_with fail
     go_roundw
     case rel =>
      have h1:=(HMJ.o.below B3.o).put hjn HLL.o R3.o (fun a ha e => by have:=M3.o.from_ a ha;have:=HB5.o.size;omega);rw[← HST.o]at h1;exact⟨j+1,by omega,by go_num,h1,(HWJ.o.trans (AD.of_below B3.o)).setCell (Jc hjn) _⟩
     case measure => simp[intOf];omega
