/-
  Part 7 of the proof; the last part states and proves the statement.
-/
import Derived.Test.YthbljikbnoghcaaGreatM06
import Derived.Deep.DeepCutAuto
set_option maxHeartbeats 8000000
set_option maxRecDepth 100000
set_option linter.unusedVariables false
set_option linter.unusedSimpArgs false
open Go.Value (int)
open Go.IntKind (i64)
namespace Go.Proofs.YthbljikbnoghcaaGreat
open Go.Shelf Go.RowKit Go.Lib Go.Sort
variable {α:Type} [Inhabited α]
def ID(enc:α→List Value)(k:Nat)(w0:World)(blk off cap:Nat)(d0:Array α)(lt:α→α→Bool)(ix:α→Nat)(g:Nat)(cb:Array Value)(N:Nat):Prop :=
 ∀(a m b:Nat) (d:Array α) (w:World),b - a<N→Pre lt ix a m b d→a<m→m<b→d0.size=d.size→SWK enc k w0 blk off d w→
  Calls Tryz.prog 260 #[.slice (some ⟨blk,off,none⟩) d.size cap,int i64 a,int i64 m,int i64 b,.func (.func g) #[] cb] w fun e w' => e= .returned (.tuple #[])∧∃d',SWK enc k w0 blk off d' w'∧Dp lt ix a b d d'
theorem Mf(k:Nat)(zR:∀w,(Go.sizeOf 76).run Tryz.prog w= .ok k w)(enc:α→List Value)(cf:α→α→Int)(ix:α→Nat)(g:Nat)(cb:Array Value)(blk off cap a m b:Nat)(d0 d:Array α)(w0 w:World)
  (eg:∀args w,(callFunc g args).run Tryz.prog w= .ok (.enter g args) w) (hcmp:CmpLays Tryz.prog g cb enc k cf blk off d0.size w0) (hS:SWO (ltOf cf))
  (R:RowK enc k w0 blk off d0) (hs:d0.size=d.size) (S:SWK enc k w0 blk off d w) (hP:Pre (ltOf cf) ix a m b d) (ham:a<m) (hm1:m≠a+1) (hmb:m<b) (hm2:b≠m+1) (hsz:d.size<4611686018427387904)
  (IH:ID enc k w0 blk off cap d0 (ltOf cf) ix g cb (b - a)) :
  Calls Tryz.prog 260 #[.slice (some ⟨blk,off,none⟩) d.size cap,int i64 a,int i64 m,int i64 b,.func (.func g) #[] cb] w fun e w' => e= .returned (.tuple #[])∧∃d',SWK enc k w0 blk off d' w'∧Dp (ltOf cf) ix a b d d':=by
 have hbd:=hP.hb;have HC:Aside _:=hcmp;have S0:Aside (SWK enc k w0 blk off d w):=S;have HP:=hid hP;have HS:=hid hS;have HI:=hid IH;have b1:¬((m:Int) - (a:Int)=1):=by omega
 have b3:decide ((m:Int) - (a:Int)=1)=false:=decide_eq_false b1;have b4:((m:Int) - (a:Int) == 1)=false:=by rw[beq_eq_false_iff_ne];exact b1
 have c1:¬((b:Int) - (m:Int)=1):=by omega
 have c3:decide ((b:Int) - (m:Int)=1)=false:=decide_eq_false c1;have c4:((b:Int) - (m:Int) == 1)=false:=by rw[beq_eq_false_iff_ne];exact c1
 clear hcmp S hP hS IH hm1 hm2;have mixed:Tryz.prog.follows .mixedOrders =true:=by kernel_rfl
 have aR:=Any2.aR;obtain⟨mid,hmid⟩:∃mid:Nat,(a+b) / 2=mid:=⟨_,rfl⟩;have ha2:a<mid:=by omega
 have hb2:mid<b:=by omega
 have h2m:2 * mid≤a+b:=by omega
 have h2n:a+b≤2 * mid+1:=by omega
 have hw1:IntKind.i64.wrap ((a:Int)+(b:Int))=(a:Int)+(b:Int):=by rw[IntKind.wrap_i64];omega
 have hw2:IntKind.u64.wrap ((a:Int)+(b:Int))=(a:Int)+(b:Int):=by rw[IntKind.wrap_u64];omega
 have hw3:((a:Int)+(b:Int)) / 2=(mid:Int):=by omega
 have hw4:IntKind.u64.wrap (mid:Int)=(mid:Int):=by rw[IntKind.wrap_u64];omega
 have hw5:IntKind.i64.wrap (mid:Int)=(mid:Int):=by rw[IntKind.wrap_i64];omega
 clear hmid;go_enter Tryz.func260,Tryz.ntmps260
 go_upto_if 140 with fail
 clear hw1 hw2 hw3 hw4 hw5 b1 b3 b4 c1 c3 c4;go_cut [20,21] (fun s r wx =>∃s0 r0:Nat,s= int i64 s0∧r= int i64 r0∧a≤s0∧s0≤r0∧r0≤m∧r0≤mid∧mid+m≤s0+b∧(s0=a∨mid+m=s0+b)∧(r0=m∨r0=mid)∧Aside (SWK enc k w0 blk off d wx))
 case first =>
  by_cases hmm:mid<m
  ·have hz:(mid:Int)<(m:Int):=by omega
   go_wp2_with fail
   go_meet
   exact⟨mid+m - b,mid,by go_num,rfl,by omega,by omega,by omega,by omega,by omega,by omega,.inr rfl,S0⟩
  ·have hz:¬(mid:Int)<(m:Int):=by omega
   go_wp2_with fail
   go_meet
   exact⟨a,m,rfl,rfl,by omega,by omega,by omega,by omega,by omega,.inl rfl,.inl rfl,S0⟩
 case rest =>
 clear S0;obtain⟨s0,r0,rfl,rfl,has,hsr,hrm,hrd,hsb,hs0,hr0,S1⟩:=hcut;have HS0:=hid hs0;have HR0:=hid hr0;clear hs0 hr0;go_wp2_with fail
 go_loopw [20,21,23] (fun v u _ wr =>∃(i j:Nat),v= int i64 i∧u= int i64 j∧s0≤i∧i≤j∧j≤r0∧Aside (SWK enc k w0 blk off d wr)∧Hid (i=s0∨ltOf cf d[mid+m - i]! d[i - 1]! =false)∧Hid (j=r0∨ltOf cf d[mid+m - 1 - j]! d[j]! =true)) (fun v u _ _ =>(intOf u).toNat - (intOf v).toNat)
 case atStart => exact⟨s0,r0,rfl,rfl,by omega,by omega,by omega,S1,.inl rfl,.inl rfl⟩
 case round =>
  clear S1;obtain⟨i,j,rfl,rfl,hmi,hij,hjb,S1,H1,H2⟩:=hrel;by_cases hlt:i<j
  ·have hltz:(i:Int)<(j:Int):=by omega
   obtain⟨h,hh⟩:∃h:Nat,(i+j) / 2=h:=⟨_,rfl⟩;have hh1:i≤h:=by omega
   have hh2:h<j:=by omega
   have hw1:IntKind.i64.wrap ((i:Int)+(j:Int))=(i:Int)+(j:Int):=by rw[IntKind.wrap_i64];omega
   have hw2:IntKind.u64.wrap ((i:Int)+(j:Int))=(i:Int)+(j:Int):=by rw[IntKind.wrap_u64];omega
   have hw3:((i:Int)+(j:Int)) / 2=(h:Int):=by omega
   have hw4:IntKind.u64.wrap (h:Int)=(h:Int):=by rw[IntKind.wrap_u64];omega
   have hw5:IntKind.i64.wrap (h:Int)=(h:Int):=by rw[IntKind.wrap_i64];omega
   clear hh;obtain⟨q,hq⟩:∃q,q=mid+m - 1 - h:=⟨_,rfl⟩;have hqz:(mid:Int)+(m:Int) - 1 - (h:Int)=(q:Int):=by omega
   have hq1:q<b:=by omega
   have HQ:=hid hq;clear hq;cases hL:ltOf cf d[q]! d[h]! with
   |true =>
    have ea1:((q:Int)).toNat =q:=by omega
    have pa1:(0:Int)≤(q:Int):=by omega
    have ba1:(q:Int)<(d.size:Int):=by omega
    have ra1:IntKind.i64.wrap ((q:Int))=(q:Int):=by rw[IntKind.wrap_i64];omega
    have ec1:((h:Int)).toNat =h:=by omega
    have pc1:(0:Int)≤(h:Int):=by omega
    have bc1:(h:Int)<(d.size:Int):=by omega
    have rc1:IntKind.i64.wrap ((h:Int))=(h:Int):=by rw[IntKind.wrap_i64];omega
    obtain⟨x1,hx1⟩:∃x,x=d[q]!:=⟨_,rfl⟩;obtain⟨y1,hy1⟩:∃x,x=d[h]!:=⟨_,rfl⟩;have l1a:=S1.out.ld R hs.symm Tryz.prog (q) (by omega);have l1b:=S1.out.ld R hs.symm Tryz.prog (h) (by omega);rw[← hx1]at l1a;rw[← hy1]at l1b;have hc1:=S1.out.cmp HC.out hs.symm x1 y1;have hv1:cf x1 y1<0:=by rw[hx1,hy1];exact of_decide_eq_true hL
    have hd1:decide (cf x1 y1<0)=true:=decide_eq_true hv1;clear hx1 hy1;go_wp2_with fail
    go_quiet_grown (first|(go_at_fn g;refine Calls.grown_of (hc1 _ _)))
    have S2:Aside (SWK enc k w0 blk off d (grow (wr.drewN nq) osq)):=S1.out.grown nq osq;clear l1a l1b hc1 S1;generalize grow (wr.drewN nq) osq=w2 at S2⊢;clear nq osq;go_wp2_with fail
    go_roundw
    case rel => exact⟨i,h,rfl,by go_num,hmi,hh1,by omega,S2,H1,.inr (by rw[← HQ.out];exact hL)⟩
    case measure => simp[intOf];omega
   |false =>
    have ea2:((q:Int)).toNat =q:=by omega
    have pa2:(0:Int)≤(q:Int):=by omega
    have ba2:(q:Int)<(d.size:Int):=by omega
    have ra2:IntKind.i64.wrap ((q:Int))=(q:Int):=by rw[IntKind.wrap_i64];omega
    have ec2:((h:Int)).toNat =h:=by omega
    have pc2:(0:Int)≤(h:Int):=by omega
    have bc2:(h:Int)<(d.size:Int):=by omega
    have rc2:IntKind.i64.wrap ((h:Int))=(h:Int):=by rw[IntKind.wrap_i64];omega
    obtain⟨x2,hx2⟩:∃x,x=d[q]!:=⟨_,rfl⟩;obtain⟨y2,hy2⟩:∃x,x=d[h]!:=⟨_,rfl⟩;have l2a:=S1.out.ld R hs.symm Tryz.prog (q) (by omega);have l2b:=S1.out.ld R hs.symm Tryz.prog (h) (by omega);rw[← hx2]at l2a;rw[← hy2]at l2b;have hc2:=S1.out.cmp HC.out hs.symm x2 y2;have hv2:¬cf x2 y2<0:=by rw[hx2,hy2];exact of_decide_eq_false hL
    have hd2:decide (cf x2 y2<0)=false:=decide_eq_false hv2;clear hx2 hy2;go_wp2_with fail
    go_quiet_grown (first|(go_at_fn g;refine Calls.grown_of (hc2 _ _)))
    have S2:Aside (SWK enc k w0 blk off d (grow (wr.drewN nq) osq)):=S1.out.grown nq osq;clear l2a l2b hc2 S1;generalize grow (wr.drewN nq) osq=w2 at S2⊢;clear nq osq;go_wp2_with fail
    go_roundw
    case rel => exact⟨h+1,j,by go_num,rfl,by omega,by omega,hjb,S2,.inr (by rw[show mid+m - (h+1)=mid+m - 1 - h by omega,show h+1 - 1=h by omega,← HQ.out];exact hL),H2⟩
    case measure => simp[intOf];omega
  ·obtain rfl:i=j:=by omega
   clear hlt;obtain⟨e,he⟩:∃e,e=mid+m - i:=⟨_,rfl⟩;have hem:m≤e:=by omega
   have hed:mid≤e:=by omega
   have heb:e≤b:=by omega
   have hie:i+e=mid+m:=by omega
   have hez:(mid:Int)+(m:Int) - (i:Int)=(e:Int):=by omega
   have hwz:IntKind.i64.wrap (e:Int)=(e:Int):=by rw[IntKind.wrap_i64];omega
   have C1:Hid (i=a∨e=b∨ltOf cf d[e]! d[i - 1]! =false):=by
    rcases H1.out with h|h
    ·rcases HS0.out with h2|h2
     ·exact .inl (by omega)
     ·exact .inr (.inl (by omega))
    ·exact .inr (.inr (by rw[he];exact h))
   have C2:Hid (i=m∨e=m∨ltOf cf d[e - 1]! d[i]! =true):=by
    rcases H2.out with h|h
    ·rcases HR0.out with h2|h2
     ·exact .inl (by omega)
     ·exact .inr (.inl (by omega))
    ·exact .inr (.inr (by rw[show e - 1=mid+m - 1 - i by omega];exact h))
   have him:i≤m:=by omega
   have hid2:i≤mid:=by omega
   have hai:a≤i:=by omega
   have HE:=hid hez;have HIE:=hid hie;clear H1 H2 he hie;obtain⟨bb,hbb⟩:∃bb,decide (i<m∧m<e)=bb:=⟨_,rfl⟩;have HBB:=hid hbb;clear hbb;go_upto_region 39 with fail
   clear hez hwz;go_cut [185] (fun c wx => c= .bool bb∧Aside (SWK enc k w0 blk off d wx))
   case first =>
    by_cases h1:i<m
    ·have z1:(i:Int)<(m:Int):=by omega
     by_cases h2:m<e
     ·have z2:(m:Int)<(e:Int):=by omega
      go_wp2_with fail
      go_meet
      exact⟨by rw[← HBB.out];simp[h1,h2],S1⟩
     ·have z2:¬(m:Int)<(e:Int):=by omega
      go_wp2_with fail
      go_meet
      exact⟨by rw[← HBB.out];simp[h2],S1⟩
    ·have z1:¬(i:Int)<(m:Int):=by omega
     go_wp2_with fail
     go_meet
     exact⟨by rw[← HBB.out];simp[h1],S1⟩
   case rest =>
   clear S1;obtain⟨rfl,S1⟩:=hcut;go_upto_if 185 with fail
   go_cut [] (fun wx =>∃d1,Aside (SWK enc k w0 blk off d1 wx)∧Hid (Rot i m e d d1∧PermIn i e d d1))
   case first =>
    cases bb with
    |true =>
     have h1:=of_decide_eq_true HBB.out;have HR:=hid (rotate_c k zR enc g cb blk off cap i m e d0 d w0 _ R hs S1.out h1.1 h1.2 (by omega) hsz);clear S1 h1;go_wp2_with (go_at_call 269;refine HR.out.mono ?_;rintro e w1 ⟨rfl,d1,S2,W1,P1⟩;have S3:Aside _:=S2;have W2:=hid W1;have P2:=hid P1;clear S2 W1 P1)
     go_meet
     exact⟨d1,S3,W2.out,P2.out⟩
    |false =>
     have h1:=of_decide_eq_false HBB.out;have hr:Hid (i=m∨m=e):=(show i=m∨m=e by omega);clear h1;go_wp2_with fail
     go_meet
     exact⟨d,S1,Rot.none d hr.out him hem,permIn_refl _ _ _⟩
   case rest =>
   as_aux_lemma =>
   clear S1 HBB;obtain⟨d1,S1,RP⟩:=hcut;have hs1:d.size=d1.size:=RP.out.1.1.symm;have hs2:d1.size=d.size:=RP.out.1.1;have HCut:=hid (HP.out.cut HS.out him hem hai heb HIE.out C1.out C2.out RP.out.1);have P1:=hid (permIn_mono d d1 i e a b hai heb (by omega) RP.out.2);have HS1:=hid hs1;clear C1 C2 RP hs1 hs2;obtain⟨bb,hbb⟩:∃bb,decide (a<i∧i<mid)=bb:=⟨_,rfl⟩;have HBB:=hid hbb;clear hbb;go_upto_region 41 with fail
   go_cut [199] (fun c wx => c= .bool bb∧Aside (SWK enc k w0 blk off d1 wx))
   case first =>
    by_cases h1:a<i
    ·have z1:(a:Int)<(i:Int):=by omega
     by_cases h2:i<mid
     ·have z2:(i:Int)<(mid:Int):=by omega
      go_wp2_with fail
      go_meet
      exact⟨by rw[← HBB.out];simp[h1,h2],S1⟩
     ·have z2:¬(i:Int)<(mid:Int):=by omega
      go_wp2_with fail
      go_meet
      exact⟨by rw[← HBB.out];simp[h2],S1⟩
    ·have z1:¬(a:Int)<(i:Int):=by omega
     go_wp2_with fail
     go_meet
     exact⟨by rw[← HBB.out];simp[h1],S1⟩
   case rest =>
   clear S1;obtain⟨rfl,S1⟩:=hcut;go_upto_if 199 with fail
   go_cut [] (fun wx =>∃d2,Aside (SWK enc k w0 blk off d2 wx)∧Hid (Dp (ltOf cf) ix a mid d1 d2))
   case first =>
    cases bb with
    |true =>
     have h1:=of_decide_eq_true HBB.out;have HR:=hid (HI.out a i mid d1 _ (by omega) HCut.out.1 h1.1 h1.2 (hs.trans HS1.out) S1.out);rw[← HS1.out]at HR;clear S1 h1;go_wp2_with (go_at_call 260;refine HR.out.mono ?_;rintro e w1 ⟨rfl,d2,S2,P2⟩;have S3:Aside _:=S2;have P3:=hid P2;clear S2 P2)
     go_meet
     exact⟨d2,S3,P3⟩
    |false =>
     have h1:=of_decide_eq_false HBB.out;have hr:Hid (a=i∨i=mid):=(show a=i∨i=mid by omega);clear h1;go_wp2_with fail
     go_meet
     exact⟨d1,S1,HCut.out.1.done hr.out⟩
   case rest =>
   as_aux_lemma =>
   clear S1 HBB;obtain⟨d2,S1,P2⟩:=hcut;have HS2:=hid (HS1.out.trans P2.out.1.1.symm);have HQ:=hid (HCut.out.2.1.beside P2.out.1 (.inl (Nat.le_refl _)));obtain⟨bb,hbb⟩:∃bb,decide (mid<e∧e<b)=bb:=⟨_,rfl⟩;have HBB:=hid hbb;clear hbb;go_upto_region 43 with fail
   go_cut [213] (fun c wx => c= .bool bb∧Aside (SWK enc k w0 blk off d2 wx))
   case first =>
    by_cases h1:mid<e
    ·have z1:(mid:Int)<(e:Int):=by omega
     by_cases h2:e<b
     ·have z2:(e:Int)<(b:Int):=by omega
      go_wp2_with fail
      go_meet
      exact⟨by rw[← HBB.out];simp[h1,h2],S1⟩
     ·have z2:¬(e:Int)<(b:Int):=by omega
      go_wp2_with fail
      go_meet
      exact⟨by rw[← HBB.out];simp[h2],S1⟩
    ·have z1:¬(mid:Int)<(e:Int):=by omega
     go_wp2_with fail
     go_meet
     exact⟨by rw[← HBB.out];simp[h1],S1⟩
   case rest =>
   clear S1;obtain⟨rfl,S1⟩:=hcut;cases bb with
   |true =>
    have h1:=of_decide_eq_true HBB.out;have HR:=hid (HI.out mid e b d2 _ (by omega) HQ.out h1.1 h1.2 (hs.trans HS2.out) S1.out);rw[← HS2.out]at HR;clear S1 h1;go_wp2_with (go_at_call 260;refine HR.out.mono ?_;rintro e w1 ⟨rfl,d3,S2,P3⟩;have S3:Aside _:=S2;have P4:=hid P3;clear S2 P3)
    go_end0
    exact⟨rfl,d3,S3.out,Dp.join P1.out HCut.out.2.2 (by omega) (by omega) hbd P2.out P4.out⟩
   |false =>
    have h1:=of_decide_eq_false HBB.out;have hr:Hid (mid=e∨e=b):=(show mid=e∨e=b by omega);clear h1;go_wp2_with fail
    go_end0
    exact⟨rfl,d2,S1.out,Dp.join P1.out HCut.out.2.2 (by omega) (by omega) hbd P2.out (HQ.out.done hr.out)⟩
theorem G9(k:Nat)(zR:∀w,(Go.sizeOf 76).run Tryz.prog w= .ok k w)(enc:α→List Value)(cf:α→α→Int)(ix:α→Nat)(g:Nat)(cb:Array Value)(blk off cap:Nat)(d0:Array α)(w0:World)
  (eg:∀args w,(callFunc g args).run Tryz.prog w= .ok (.enter g args) w) (hcmp:CmpLays Tryz.prog g cb enc k cf blk off d0.size w0) (hS:SWO (ltOf cf))
  (R:RowK enc k w0 blk off d0) (hsz:d0.size<4611686018427387904):∀N,ID enc k w0 blk off cap d0 (ltOf cf) ix g cb N
 |0 => fun _ _ _ _ _ h => absurd h (Nat.not_lt_zero _)
 |N+1 => fun a m b d w hN hP ham hmb hs S => by
  have IH:=G9 k zR enc cf ix g cb blk off cap d0 w0 eg hcmp hS R hsz N;by_cases hm1:m=a+1
  ·exact Me k zR enc cf ix g cb blk off cap a m b d0 d w0 w eg hcmp hS R hs S hP hm1 hmb (by omega)
  ·by_cases hm2:b=m+1
   ·exact Lt k zR enc cf ix g cb blk off cap a m b d0 d w0 w eg hcmp hS R hs S hP ham hm1 hm2 (by omega)
   ·exact Mf k zR enc cf ix g cb blk off cap a m b d0 d w0 w eg hcmp hS R hs S hP ham hm1 hmb hm2 (by omega) (fun a' m' b' d' w' hlt => IH a' m' b' d' w' (by omega))
end Go.Proofs.YthbljikbnoghcaaGreat
