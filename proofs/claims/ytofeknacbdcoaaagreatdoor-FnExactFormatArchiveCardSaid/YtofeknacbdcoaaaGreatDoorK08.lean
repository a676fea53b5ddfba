/- Part 8 of the proof. -/
import Derived.Test.YtofeknacbdcoaaaGreatDoorK07
import Derived.Deep.DeepCutAuto
import Derived.Test.YtofeknacbdcoaaaGreatDoorK00
import Derived.StillTailTactics
import Derived.Test.YtofeknacbdcoaaaGreatDoorK02
import Derived.Test.YtofeknacbdcoaaaGreatDoorK03
import Derived.Great.BuildSlice
import Derived.Deep.RegionHeld3
set_option maxHeartbeats 8000000
set_option maxRecDepth 100000
set_option linter.unusedVariables false
set_option linter.unusedSimpArgs false
open Go.Proofs.Tryz
open Go.Value (int)
open Go.IntKind (i64)
namespace Go.Proofs.YtofeknacbdcoaaaGreatDoor
open Go.Shelf Go.RowKit Go.Lib Go.Sort
variable {α:Type} [Inhabited α]
def N7(enc:α->List Value)(k:Nat)(f:World)(blk c cap:Nat)(i:Array α)(lt:α->α->Bool)(ix:α->Nat)(g:Nat)(h:Array Value)(N:Nat):Prop :=
 ∀(a m b:Nat) (d:Array α) (w:World),b - a<N->Pre lt ix a m b d->a<m->m<b->i.size=d.size->SWK enc k f blk c d w->
  Calls prog 256 #[.slice (some (blk,c)) d.size cap,int i64 a,int i64 m,int i64 b,.func (.func g) #[] h] w fun e w' => e= .returned (.tuple #[])/\∃d',SWK enc k f blk c d' w'/\Fu lt ix a b d d'
theorem TV(k)(zR:∀w,(Go.sizeOf 105).run prog w= .ok k w)(enc:α->List Value)(cf:α->α->Int)(ix:α->Nat)(g)(cb:Array Value)(blk p cap a m b)(d0 d:Array α)(w0 w)(eg:∀args w,(callFunc g args).run prog w= .ok (.enter g args) w)(ab:CmpLays prog g cb enc k cf blk p d0.size w0)(hS:SWO (ltOf cf))(R:RowK enc k w0 blk p d0)(hs:d0.size=d.size)(S:SWK enc k w0 blk p d w)(hP:Pre (ltOf cf) ix a m b d)(b0:a<m)(bd:m≠a+1)(ca:m<b)(be:b≠m+1)(bh:d.size<4611686018427387904)(IH:N7 enc k w0 blk p cap d0 (ltOf cf) ix g cb (b - a)):
  Calls prog 256 #[.slice (some (blk,p)) d.size cap,int i64 a,int i64 m,int i64 b,.func (.func g) #[] cb] w fun e w' => e= .returned (.tuple #[])/\∃d',SWK enc k w0 blk p d' w'/\Fu (ltOf cf) ix a b d d':=by
 have aj:=hP.hb;have HC:Aside _:=ab;have S0:Aside (SWK enc k w0 blk p d w):=S;obtain⟨HP,HS,HI⟩:=zI hP hS IH;have b1:¬((m:Int) - (a:Int)=1):=by omega
 have b3:decide ((m:Int) - (a:Int)=1)=false:=aG b1;have b4:((m:Int) - (a:Int) == 1)=false:=by rw[beq_eq_false_iff_ne];exact b1
 have c1:¬((b:Int) - (m:Int)=1):=by omega
 have c3:decide ((b:Int) - (m:Int)=1)=false:=aG c1;have c4:((b:Int) - (m:Int) == 1)=false:=by rw[beq_eq_false_iff_ne];exact c1
 clear ab S hP hS IH bd be;have bl:prog.follows .mixedOrders =true:=by kernel_rfl
 have aR:=Any2.aR;obtain⟨f,ar⟩:∃f:Nat,(a+b) / 2=f:=zJ;have bz:a<f:=by omega
 have b2:f<b:=by omega
 have bw:2 * f<=a+b:=by omega
 have bx:a+b<=2 * f+1:=by omega
 have ax:IntKind.i64.wrap ((a:Int)+(b:Int))=(a:Int)+(b:Int):=by rw[IntKind.wrap_i64];omega
 have ay:IntKind.u64.wrap ((a:Int)+(b:Int))=(a:Int)+(b:Int):=by rw[IntKind.wrap_u64];omega
 have az:((a:Int)+(b:Int)) / 2=(f:Int):=by omega
 have a0:IntKind.u64.wrap (f:Int)=(f:Int):=by rw[IntKind.wrap_u64];omega
 have a1:IntKind.i64.wrap (f:Int)=(f:Int):=by rw[IntKind.wrap_i64];omega
 clear ar;go_enter func256,ntmps256
 go_upto_if 140 with fail
 clear ax ay az a0 a1 b1 b3 b4 c1 c3 c4;go_cut [20,21] (fun s r wx =>∃s0 r0:Nat,s=s0/\r=r0/\a<=s0/\s0<=r0/\r0<=m/\r0<=f/\f+m<=s0+b/\(s0=a∨f+m=s0+b)/\(r0=m∨r0=f)/\Aside (SWK enc k w0 blk p d wx))
 ·by_cases cc:f<m
  ·have hz:(f:Int)<(m:Int):=by omega
   go_wp2
   go_meet
   exact⟨f+m - b,f,by go_num,rfl,by omega,by omega,by omega,by omega,by omega,by omega,.inr rfl,S0⟩
  ·have hz:¬(f:Int)<(m:Int):=by omega
   go_wp2
   go_meet
   exact⟨a,m,rfl,rfl,by omega,by omega,by omega,by omega,by omega,.inl rfl,.inl rfl,S0⟩
 clear S0;obtain⟨s0,r0,rfl,rfl,has,cj,ch,cg,ci,av,au,l⟩:=hcut;have a8:=zq av;have a7:=zq au;clear av au;go_wp2
 go_loopw [20,21,23] (fun v u _ wr =>∃(i j:Nat),v=i/\u=j/\s0<=i/\i<=j/\j<=r0/\Aside (SWK enc k w0 blk p d wr)/\Hid (i=s0∨ltOf cf d[f+m - i]! d[i - 1]! =false)/\Hid (j=r0∨ltOf cf d[f+m - 1 - j]! d[j]! =true)) (fun v u _ _ =>(intOf u).toNat - (intOf v).toNat)
 ·exact⟨s0,r0,rfl,rfl,by omega,by omega,by omega,l,.inl rfl,.inl rfl⟩
 ·clear l;obtain⟨i,j,rfl,rfl,bf,b9,ba,l,H1,H2⟩:=hrel;by_cases bc:i<j
  ·have bn:(i:Int)<(j:Int):=by omega
   obtain⟨h,hh⟩:∃h:Nat,(i+j) / 2=h:=zJ;have a9:i<=h:=by omega
   have b8:h<j:=by omega
   have ax:IntKind.i64.wrap ((i:Int)+(j:Int))=(i:Int)+(j:Int):=by rw[IntKind.wrap_i64];omega
   have ay:IntKind.u64.wrap ((i:Int)+(j:Int))=(i:Int)+(j:Int):=by rw[IntKind.wrap_u64];omega
   have az:((i:Int)+(j:Int)) / 2=(h:Int):=by omega
   have a0:IntKind.u64.wrap (h:Int)=(h:Int):=by rw[IntKind.wrap_u64];omega
   have a1:IntKind.i64.wrap (h:Int)=(h:Int):=by rw[IntKind.wrap_i64];omega
   clear hh;obtain⟨q,hq⟩:∃q,q=f+m - 1 - h:=zJ;have ce:(f:Int)+(m:Int) - 1 - (h:Int)=(q:Int):=by omega
   have cd:q<b:=by omega
   have HQ:=zq hq;clear hq;cases hL:ltOf cf d[q]! d[h]! with
   |true =>
    have bs:((q:Int)).toNat =q:=by omega
    have ck:(0:Int)<=(q:Int):=by omega
    have bo:(q:Int)<(d.size:Int):=by omega
    have co:IntKind.i64.wrap ((q:Int))=(q:Int):=by rw[IntKind.wrap_i64];omega
    have bu:((h:Int)).toNat =h:=by omega
    have cm:(0:Int)<=(h:Int):=by omega
    have bq:(h:Int)<(d.size:Int):=by omega
    have cq:IntKind.i64.wrap ((h:Int))=(h:Int):=by rw[IntKind.wrap_i64];omega
    obtain⟨x1,ad⟩:∃x,x=d[q]!:=zJ;obtain⟨y1,af⟩:∃x,x=d[h]!:=zJ;have a2:=l.o.ld R hs.symm prog (q) zZ;have a3:=l.o.ld R hs.symm prog (h) zZ;rw[<-ad]at a2;rw[<-af]at a3;have ak:=l.o.cmp HC.o hs.symm x1 y1;have bi:cf x1 y1<0:=by rw[ad,af];exact bE hL
    have b5:decide (cf x1 y1<0)=true:=aN bi;clear ad af;go_wp2_with fail
    go_quiet_grown (first|(go_at_fn g;refine Calls.grown_of (ak _ _)))
    have S2:Aside (SWK enc k w0 blk p d (grow (wr.drewN nq) osq)):=l.o.grown nq osq;clear a2 a3 ak l;generalize grow (wr.drewN nq) osq=w2 at S2⊢;clear nq osq;go_wp2
    go_roundw
    ·exact⟨i,h,rfl,by go_num,bf,a9,by omega,S2,H1,.inr (by rw[<-HQ.o];exact hL)⟩
    ·simp[intOf];omega
   |false =>
    have bt:((q:Int)).toNat =q:=by omega
    have cl:(0:Int)<=(q:Int):=by omega
    have bp:(q:Int)<(d.size:Int):=by omega
    have cp:IntKind.i64.wrap ((q:Int))=(q:Int):=by rw[IntKind.wrap_i64];omega
    have bv:((h:Int)).toNat =h:=by omega
    have cn:(0:Int)<=(h:Int):=by omega
    have br:(h:Int)<(d.size:Int):=by omega
    have cr:IntKind.i64.wrap ((h:Int))=(h:Int):=by rw[IntKind.wrap_i64];omega
    obtain⟨x2,ae⟩:∃x,x=d[q]!:=zJ;obtain⟨y2,ag⟩:∃x,x=d[h]!:=zJ;have a4:=l.o.ld R hs.symm prog (q) zZ;have a5:=l.o.ld R hs.symm prog (h) zZ;rw[<-ae]at a4;rw[<-ag]at a5;have al:=l.o.cmp HC.o hs.symm x2 y2;have bj:¬cf x2 y2<0:=by rw[ae,ag];exact of_decide_eq_false hL
    have b6:decide (cf x2 y2<0)=false:=aG bj;clear ae ag;go_wp2_with fail
    go_quiet_grown (first|(go_at_fn g;refine Calls.grown_of (al _ _)))
    have S2:Aside (SWK enc k w0 blk p d (grow (wr.drewN nq) osq)):=l.o.grown nq osq;clear a4 a5 al l;generalize grow (wr.drewN nq) osq=w2 at S2⊢;clear nq osq;go_wp2
    go_roundw
    ·exact⟨h+1,j,by go_num,rfl,by omega,by omega,ba,S2,.inr (by rw[show f+m - (h+1)=f+m - 1 - h by omega,show h+1 - 1=h by omega,<-HQ.o];exact hL),H2⟩
    ·simp[intOf];omega
  ·obtain rfl:i=j:=by omega
   clear bc;obtain⟨e,he⟩:∃e,e=f+m - i:=zJ;have an:m<=e:=by omega
   have b7:f<=e:=by omega
   have am:e<=b:=by omega
   have ap:i+e=f+m:=by omega
   have ao:(f:Int)+(m:Int) - (i:Int)=(e:Int):=by omega
   have bk:IntKind.i64.wrap (e:Int)=(e:Int):=by rw[IntKind.wrap_i64];omega
   have C1:Hid (i=a∨e=b∨ltOf cf d[e]! d[i - 1]! =false):=by
    rcases H1.o with h|h
    ·rcases a8.o with h2|h2
     ·exact .inl zZ
     ·exact .inr (.inl zZ)
    ·exact .inr (.inr (by rw[he];exact h))
   have C2:Hid (i=m∨e=m∨ltOf cf d[e - 1]! d[i]! =true):=by
    rcases H2.o with h|h
    ·rcases a7.o with h2|h2
     ·exact .inl zZ
     ·exact .inr (.inl zZ)
    ·exact .inr (.inr (by rw[show e - 1=f+m - 1 - i by omega];exact h))
   have aq:i<=m:=by omega
   have bm:i<=f:=by omega
   have ai:a<=i:=by omega
   have HE:=zq ao;have a6:=zq ap;clear H1 H2 he ap;obtain⟨bb,aa⟩:∃bb,decide (i<m/\m<e)=bb:=zJ;have n:=zq aa;clear aa;go_upto_region 39 with fail
   clear ao bk;go_cut [185] (fun c wx => c= .bool bb/\Aside (SWK enc k w0 blk p d wx))
   ·by_cases y:i<m
    ·have z1:(i:Int)<(m:Int):=by omega
     by_cases h2:m<e
     ·have z2:(m:Int)<(e:Int):=by omega
      go_wp2
      go_meet
      exact⟨by rw[<-n.o];simp[y,h2],l⟩
     ·have z2:¬(m:Int)<(e:Int):=by omega
      go_wp2
      go_meet
      exact⟨by rw[<-n.o];simp[h2],l⟩
    ·have z1:¬(i:Int)<(m:Int):=by omega
     go_wp2
     go_meet
     exact⟨by rw[<-n.o];simp[y],l⟩
   clear l;obtain⟨rfl,l⟩:=hcut;go_upto_if 185 with fail
   go_cut [] (fun wx =>∃d1,Aside (SWK enc k w0 blk p d1 wx)/\Hid (Rot i m e d d1/\PermIn i e d d1))
   ·cases bb with
    |true =>
     have y:=bE n.o;have HR:=zq (rotate_c k zR enc g cb blk p cap i m e d0 d w0 _ R hs l.o y.1 y.2 zZ bh);clear l y;go_wp2_with (go_at_call 274;refine HR.o.M ?_;rintro e w1 ⟨rfl,d1,S2,W1,P1⟩;have S3:Aside _:=S2;have W2:=zq W1;have P2:=zq P1;clear S2 W1 P1)
     go_meet
     exact⟨d1,S3,W2.o,P2.o⟩
    |false =>
     have y:=of_decide_eq_false n.o;have hr:Hid (i=m∨m=e):=(show i=m∨m=e by omega);clear y;go_wp2
     go_meet
     exact⟨d,l,Rot.none d hr.o aq an,permIn_refl _ _ _⟩
   as_aux_lemma =>
   clear l n;obtain⟨d1,l,RP⟩:=hcut;have aw:d.size=d1.size:=RP.o.1.1.symm;have bg:d1.size=d.size:=RP.o.1.1;obtain⟨z,P1,ac⟩:=zI (HP.o.cut HS.o aq an ai am a6.o C1.o C2.o RP.o.1) (permIn_mono d d1 i e a b ai am zZ RP.o.2) aw;clear C1 C2 RP aw bg;obtain⟨bb,aa⟩:∃bb,decide (a<i/\i<f)=bb:=zJ;have n:=zq aa;clear aa;go_upto_region 41 with fail
   go_cut [199] (fun c wx => c= .bool bb/\Aside (SWK enc k w0 blk p d1 wx))
   ·by_cases y:a<i
    ·have z1:(a:Int)<(i:Int):=by omega
     by_cases h2:i<f
     ·have z2:(i:Int)<(f:Int):=by omega
      go_wp2
      go_meet
      exact⟨by rw[<-n.o];simp[y,h2],l⟩
     ·have z2:¬(i:Int)<(f:Int):=by omega
      go_wp2
      go_meet
      exact⟨by rw[<-n.o];simp[h2],l⟩
    ·have z1:¬(a:Int)<(i:Int):=by omega
     go_wp2
     go_meet
     exact⟨by rw[<-n.o];simp[y],l⟩
   clear l;obtain⟨rfl,l⟩:=hcut;go_upto_if 199 with fail
   go_cut [] (fun wx =>∃d2,Aside (SWK enc k w0 blk p d2 wx)/\Hid (Fu (ltOf cf) ix a f d1 d2))
   ·cases bb with
    |true =>
     have y:=bE n.o;have HR:=zq (HI.o a i f d1 _ zZ z.o.1 y.1 y.2 (hs.T ac.o) l.o);rw[<-ac.o]at HR;clear l y;go_wp2_with (go_at_call 256;refine HR.o.M ?_;rintro e w1 ⟨rfl,d2,S2,P2⟩;have S3:Aside _:=S2;have P3:=zq P2;clear S2 P2)
     go_meet
     exact⟨d2,S3,P3⟩
    |false =>
     have y:=of_decide_eq_false n.o;have hr:Hid (a=i∨i=f):=(show a=i∨i=f by omega);clear y;go_wp2
     go_meet
     exact⟨d1,l,z.o.1.done hr.o⟩
   as_aux_lemma =>
   clear l n;obtain⟨d2,l,P2⟩:=hcut;have ah:=zq (ac.o.T P2.o.1.1.symm);have HQ:=zq (z.o.2.1.beside P2.o.1 (.inl (aD _)));obtain⟨bb,aa⟩:∃bb,decide (f<e/\e<b)=bb:=zJ;have n:=zq aa;clear aa;go_upto_region 43 with fail
   go_cut [213] (fun c wx => c= .bool bb/\Aside (SWK enc k w0 blk p d2 wx))
   ·by_cases y:f<e
    ·have z1:(f:Int)<(e:Int):=by omega
     by_cases h2:e<b
     ·have z2:(e:Int)<(b:Int):=by omega
      go_wp2
      go_meet
      exact⟨by rw[<-n.o];simp[y,h2],l⟩
     ·have z2:¬(e:Int)<(b:Int):=by omega
      go_wp2
      go_meet
      exact⟨by rw[<-n.o];simp[h2],l⟩
    ·have z1:¬(f:Int)<(e:Int):=by omega
     go_wp2
     go_meet
     exact⟨by rw[<-n.o];simp[y],l⟩
   clear l;obtain⟨rfl,l⟩:=hcut;cases bb with
   |true =>
    have y:=bE n.o;have HR:=zq (HI.o f e b d2 _ zZ HQ.o y.1 y.2 (hs.T ah.o) l.o);rw[<-ah.o]at HR;clear l y;go_wp2_with (go_at_call 256;refine HR.o.M ?_;rintro e w1 ⟨rfl,d3,S2,P3⟩;have S3:Aside _:=S2;have P4:=zq P3;clear S2 P3)
    go_end0
    exact⟨rfl,d3,S3.o,Fu.join P1.o z.o.2.2 zZ zZ aj P2.o P4.o⟩
   |false =>
    have y:=of_decide_eq_false n.o;have hr:Hid (f=e∨e=b):=(show f=e∨e=b by omega);clear y;go_wp2
    go_end0
    exact⟨rfl,d2,l.o,Fu.join P1.o z.o.2.2 zZ zZ aj P2.o (HQ.o.done hr.o)⟩
theorem Mr(k)(x:∀w,(Go.sizeOf 105).run prog w= .ok k w)(enc:α->List Value)(i:α->α->Int)(ix:α->Nat)(g)(o:Array Value)(blk c cap)(f:Array α)(n)(s:∀args w,(callFunc g args).run prog w= .ok (.enter g args) w)(e:CmpLays prog g o enc k i blk c f.size n)(u:SWO (ltOf i))(R:RowK enc k n blk c f)(aa:f.size<4611686018427387904):∀N,N7 enc k n blk c cap f (ltOf i) ix g o N
 |0 => fun _ _ _ _ _ h => absurd h (Nat.not_lt_zero _)
 |N+1 => fun a m b d w hN y p r z S => by
  have IH:=Mr k x enc i ix g o blk c cap f n s e u R aa N;by_cases l:m=a+1
  ·exact TU k x enc i ix g o blk c cap a m b f d n w s e u R z S y l r zZ
  ·by_cases q:b=m+1
   ·exact Sr k x enc i ix g o blk c cap a m b f d n w s e u R z S y p l q zZ
   ·exact TV k x enc i ix g o blk c cap a m b f d n w s e u R z S y p l r q zZ (fun a' m' b' d' w' ab => IH a' m' b' d' w' zZ)
variable {α:Type} [Inhabited α]
theorem Rl {enc:α->List Value}{k i W blk c g}{o:Array Value}{p:α->α->Int}{d:Array α}{size}(h:CmpLays prog g o enc k p blk c size i)(S:SWK enc k i blk c d W)(r:d.size=size)(e:blk<i.heap.size):CmpLays prog g o enc k p blk c size W:=by
 obtain⟨n,os,rfl⟩:=S;intro m l q f x y;rw[sortWorldK_on enc k i blk c n m d q os l e (f.T r.symm)];exact h _ _ q f x y
theorem PT(k)(zR:∀w,(Go.sizeOf 105).run prog w= .ok k w)(enc:α->List Value)(f:α->α->Int)(g)(o:Array Value)(blk c cap a b:Nat)(p d:Array α)(l w)(eg:∀args w,(callFunc g args).run prog w= .ok (.enter g args) w)(h:CmpLays prog g o enc k f blk c p.size l)(R:RowK enc k l blk c p)(u:p.size=d.size)(S:SWK enc k l blk c d w)(r:a<=b)(hb:b<=d.size)(z:d.size<4611686018427387904):
  Calls prog 219 #[.slice (some (blk,c)) d.size cap,int i64 a,int i64 b,.func (.func g) #[] o] w fun e w' => e= .returned (.tuple #[])/\SWK enc k l blk c (insertionSort (ltOf f) d a b) w':=by
 refine(AnyQ.insertionSortCmpFunc Tryz.laysF20 k Any2.aR zR enc R.hk R.h1 f g o blk c cap a b d w eg (by have:=Rl h S u.symm R.hblk;rwa [u]at this) (S.holds R.hblk R.hH u.symm) (S.lt R.hblk) r hb z).M ?_;rintro e w' ⟨he,n,os,rfl⟩;exact⟨he,S.on R.hblk n _ os (by
  have:∀(q i:Nat) (x:Array α),b - i=q->(insOuter (ltOf f) a b i x).size =x.size:=by
   intro q;induction q with
   |zero => intro i x hq;rw[insOuter,aJ zZ]
   |succ q ih =>
    intro i x hq;rw[insOuter,aM zZ,ih _ _ zZ];have s:∀(j:Nat) (y:Array α),(insInner (ltOf f) a j y).size =y.size:=by
     intro j;induction j with
     |zero => intro y;unfold insInner;rfl
     |succ j ih2 => intro y;unfold insInner;split <;> simp[ih2,swp_size]
    exact s _ _
  exact this _ _ _ rfl)⟩
theorem stable_c(k)(zR:∀w,(Go.sizeOf 105).run prog w= .ok k w)(enc:α->List Value)(z:α->α->Int)(ix:α->Nat)(g)(cb:Array Value)(blk h cap n:Nat)(d:Array α)(w)(eg:∀args w,(callFunc g args).run prog w= .ok (.enter g args) w)(ab:CmpLays prog g cb enc k z blk h d.size w)(hS:SWO (ltOf z))(R:RowK enc k w blk h d)(hn:d.size=n)(ah:∀i,i<n->ix d[i]! =i)(ar:n<1000000000000):
  Calls prog 217 #[.slice (some (blk,h)) n cap,int i64 n,.func (.func g) #[] cb] w fun e w' => e= .returned (.tuple #[])/\∃d',SWK enc k w blk h d' w'/\PermIn 0 n d d'/\SortedIn (ltI (ltOf z) ix) 0 n d':=by
 have HM:Aside (∀N,N7 enc k w blk h cap d (ltOf z) ix g cb N):=Mr k zR enc z ix g cb blk h cap d w eg ab hS R zZ;have HN:=zq hn;have HI:Aside (∀(a b:Nat) (r:Array α) (W:World),r.size=n->SWK enc k w blk h r W->a<=b->b<=n->Calls prog 219 #[.slice (some (blk,h)) n cap,int i64 a,int i64 b,.func (.func g) #[] cb] W fun e w' => e= .returned (.tuple #[])/\SWK enc k w blk h (insertionSort (ltOf z) r a b) w') :=
  fun a b r W h1 h2 h3 h4 => by
   subst h1;exact PT k zR enc z g cb blk h cap a b d r w W eg ab R hn h2 h3 h4 zZ
 have ak:Aside (∀(a m b:Nat) (r:Array α) (W:World),r.size=n->Pre (ltOf z) ix a m b r->a<m->m<b->SWK enc k w blk h r W->Calls prog 256 #[.slice (some (blk,h)) n cap,int i64 a,int i64 m,int i64 b,.func (.func g) #[] cb] W fun e w' => e= .returned (.tuple #[])/\∃d',SWK enc k w blk h d' w'/\Fu (ltOf z) ix a b r d') :=
  fun a m b r W h1 h2 h3 h4 h5 => by
   subst h1;exact HM.o (b - a+1) a m b r W zZ h2 h3 h4 hn h5
 have S0:Aside (SWK enc k w blk h d w):=SWK.start R.hH;have HX:=zq ah;have HS:=zq hS;have y:Hid (Stg (ltOf z) ix 20 0 n d):=⟨hn,fun i hi => by rw[ah i hi],fun p q _ hq => by omega⟩;clear ab hS ah hn HM R;go_enter func217,ntmps217
 go_wp2
 go_loopw [7,8] (fun v u wr =>∃(x c:Nat) (r:Array α),v=x/\u= int i64 ((x:Int)+20)/\Hid (x=20 * c)/\x<=n/\Aside (SWK enc k w blk h r wr)/\Hid (Stg (ltOf z) ix 20 x n r)/\Hid (∀i,x<=i->i<n->ix r[i]! =i)/\Hid (PermIn 0 n d r)) (fun v _ _ => n - (intOf v).toNat)
 ·exact⟨0,0,d,rfl,rfl,rfl,by omega,S0,y,fun i _ hi => HX.o i hi,permIn_refl _ _ _⟩
 ·clear S0 y;obtain⟨x,c,r,rfl,rfl,HC,aj,S1,s,HO,HP⟩:=hrel;by_cases aa:x+20<=n
  ·have hz:(x:Int)+20<=(n:Int):=by omega
   have hr:(x:Int)+20=((x+20:Nat):Int):=by omega
   have f:=zq (HI.o x (x+20) r wr s.o.size S1.o zZ aa);rw[<-hr]at f;clear S1 hr;go_wp2_with (go_at_call 219;refine f.o.M ?_;rintro e w1 ⟨rfl,S2⟩;have S3:Aside _:=S2;clear S2)
   have P:=zq (Hp (ix:=ix) HS.o r x (x+20) zZ (by have:=s.o.size;omega) (fun p q hp ai hq => by rw[HO.o p hp zZ,HO.o q zZ zZ];exact ai));go_roundw
   ·refine⟨x+20,c+1,_,by go_num,by go_num,(show x+20=20 * (c+1) by have:=HC.o;omega),aa,S3,s.o.step HC.o zZ aa P.o,fun i hi am => by rw[P.o.1.2.1 i (.inr hi)];exact HO.o i zZ am,permIn_trans _ _ _ _ _ HP.o (permIn_mono _ _ _ _ _ _ (Nat.zero_le _) aa (by have:=s.o.size;omega) P.o.1)⟩
   ·simp[intOf];omega
  ·have hz:¬(x:Int)+20<=(n:Int):=by omega
   have f:=zq (HI.o x n r wr s.o.size S1.o aj (aD _));clear S1;go_wp2_with (go_at_call 219;refine f.o.M ?_;rintro e w1 ⟨rfl,S2⟩;have S3:Aside _:=S2;clear S2)
   have P:=zq (Hp (ix:=ix) HS.o r x n aj (by have:=s.o.size;omega) (fun p q hp ai hq => by rw[HO.o p hp zZ,HO.o q zZ zZ];exact ai));have af:=zq (s.o.step HC.o zZ (aD _) P.o);have ag:=zq (permIn_trans _ _ _ _ _ HP.o (permIn_mono _ _ _ _ _ _ (Nat.zero_le _) (aD _) (by have:=s.o.size;omega) P.o.1));generalize insertionSort (ltOf z) r x n=d1 at S3 af ag;clear P s HO HP HC f hz aa HX;go_loopw [6,7,8,9] (fun v _ _ _ wr =>∃(l:Nat) (r:Array α),v=l/\20<=l/\l<=2 * n+40/\Aside (SWK enc k w blk h r wr)/\Hid (Stg (ltOf z) ix l n n r)/\Hid (PermIn 0 n d r)) (fun v _ _ _ _ => n - (intOf v).toNat)
   ·exact⟨20,d1,rfl,by omega,by omega,S3,af,ag⟩
   ·clear S3 af ag;obtain⟨l,r,rfl,ap,aq,S1,s,HP⟩:=hrel;by_cases aa:l<n
    ·have hz:(l:Int)<(n:Int):=by omega
     go_wp2_with fail
     have y:Hid (Stg (ltOf z) ix (2 * l) 0 n r):=s.o.two;have ae:Hid (Ix (ltOf z) ix l 0 n r):=s.o.rest;go_loopw [7,8] (fun v u wr =>∃(x c:Nat) (dj:Array α),v=x/\u= int i64 ((x:Int)+2 * (l:Int))/\Hid (x=2 * l * c)/\x<=n/\Aside (SWK enc k w blk h dj wr)/\Hid (Stg (ltOf z) ix (2 * l) x n dj)/\Hid (Ix (ltOf z) ix l x n dj)/\Hid (PermIn 0 n d dj)) (fun v _ _ => n - (intOf v).toNat)
     ·exact⟨0,0,r,rfl,by go_num,rfl,by omega,S1,y,ae,HP⟩
     ·clear S1 y ae s HP;obtain⟨x,c,dj,rfl,rfl,HC,aj,S1,s,HR,HP⟩:=hrel;by_cases ad:x+2 * l<=n
      ·have an:(x:Int)+2 * (l:Int)<=(n:Int):=by omega
       have al:(x:Int)+2 * (l:Int)=((x+2 * l:Nat):Int):=by omega
       have ac:(x:Int)+(l:Int)=((x+l:Nat):Int):=by omega
       have f:=zq (ak.o x (x+l) (x+2 * l) dj wr s.o.size (HR.o.pre s.o.size HC.o zZ zZ ad) zZ zZ S1.o);rw[<-al,<-ac]at f;clear S1 al ac;go_wp2_with (go_at_call 256;refine f.o.M ?_;rintro e w1 ⟨rfl,d2,S2,P2⟩;have S3:Aside _:=S2;have P:=zq P2;clear S2 P2)
       go_roundw
       ·exact⟨x+2 * l,c+1,d2,by go_num,by go_num,(show x+2 * l=2 * l * (c+1) by rw[HC.o,Nat.mul_succ]),ad,S3,s.o.step HC.o zZ ad P.o,HR.o.step zZ P.o.1,permIn_trans _ _ _ _ _ HP.o (permIn_mono _ _ _ _ _ _ (Nat.zero_le _) ad (by have:=s.o.size;omega) P.o.1)⟩
       ·simp[intOf];omega
      ·have an:¬(x:Int)+2 * (l:Int)<=(n:Int):=by omega
       by_cases hm:x+l<n
       ·have ao:(x:Int)+(l:Int)<(n:Int):=by omega
        have ac:(x:Int)+(l:Int)=((x+l:Nat):Int):=by omega
        have f:=zq (ak.o x (x+l) n dj wr s.o.size (HR.o.pre s.o.size HC.o zZ zZ (aD _)) zZ hm S1.o);rw[<-ac]at f;clear S1 ac;go_wp2_with (go_at_call 256;refine f.o.M ?_;rintro e w1 ⟨rfl,d2,S2,P2⟩;have S3:Aside _:=S2;have P:=zq P2;clear S2 P2)
        go_roundw
        ·exact⟨2 * l,d2,by go_num,by omega,by omega,S3,s.o.step HC.o zZ (aD _) P.o,permIn_trans _ _ _ _ _ HP.o (permIn_mono _ _ _ _ _ _ (Nat.zero_le _) (aD _) (by have:=s.o.size;omega) P.o.1)⟩
        ·simp[intOf];omega
       ·have ao:¬(x:Int)+(l:Int)<(n:Int):=by omega
        go_wp2
        go_roundw
        ·exact⟨2 * l,dj,by go_num,by omega,by omega,S1,s.o.wide (HR.o.alone HC.o zZ) HC.o zZ,HP⟩
        ·simp[intOf];omega
    ·have hz:¬(l:Int)<(n:Int):=by omega
     go_wp2
     go_end0
     exact⟨rfl,r,S1.o,HP.o,s.o.all zZ⟩
theorem Pm(k)(x:∀w,(Go.sizeOf 105).run prog w= .ok k w)(enc:α->List Value)(l:α->α->Int)(ix:α->Nat)(g)(p:Array Value)(blk c cap n:Nat)(d:Array α)(w)(r:∀args w,(callFunc g args).run prog w= .ok (.enter g args) w)(f:CmpLays prog g p enc k l blk c d.size w)(s:SWO (ltOf l))(R:RowK enc k w blk c d)(hn:d.size=n)(h:∀i,i<n->ix d[i]! =i)(q:n<1000000000000):
  Calls prog 164 #[.slice (some (blk,c)) n cap,.func (.func g) #[] p] w fun e w' => e= .returned (.tuple #[])/\∃d',SWK enc k w blk c d' w'/\PermIn 0 n d d'/\SortedIn (ltI (ltOf l) ix) 0 n d':=by
 have u:=zq (stable_c k x enc l ix g p blk c cap n d w r f s R hn h q);clear f s R hn h r;go_enter func164,ntmps164
 go_wp2_with (go_at_call 217;refine u.o.M ?_;rintro e y ⟨rfl,H⟩)
 go_end0
 exact⟨rfl,H⟩
def Fw(x y:Int):Int:=if x<y then -1 else if y<x then 1 else 0
def or3(a b c:Int):Int:=if a≠0 then a else if b≠0 then b else c
theorem MH(x)(w:World):Calls prog 218 #[int i64 x] w fun e w' => e= .returned (.bool false)/\w'=w:=by
 go_enter func218,ntmps218
 go_wp2
 go_ret
 exact⟨by simp,rfl⟩
theorem JP(x y)(w:World):Calls prog 167 #[int i64 x,int i64 y] w fun e w' => e= .returned (int i64 (Fw x y))/\w'=w:=by
 obtain⟨r,hr⟩:∃r,Fw x y=r:=zJ;rw[hr];unfold Fw at hr;by_cases c:x<y
 ·rw[aM c]at hr;subst hr;go_enter func167,ntmps167
  go_wp2_with (go_at_call 218;refine(MH _ _).M ?_;rintro e w' ⟨rfl,rfl⟩)
  go_ret
  exact⟨rfl,rfl⟩
 ·by_cases f:y<x
  ·rw[aJ c,aM f]at hr;subst hr;go_enter func167,ntmps167
   go_wp2_with (go_at_call 218;refine(MH _ _).M ?_;rintro e w' ⟨rfl,rfl⟩)
   go_ret
   exact⟨rfl,rfl⟩
  ·rw[aJ c,aJ f]at hr;subst hr;go_enter func167,ntmps167
   go_wp2_with (go_at_call 218;refine(MH _ _).M ?_;rintro e w' ⟨rfl,rfl⟩)
   go_ret
   exact⟨rfl,rfl⟩
theorem or_c(a b c)(g:Nat)(w:World)(ha:w.cell? ⟨g,0,none⟩=some (int i64 a))(hb:w.cell? ⟨g,1,none⟩=some (int i64 b))(hc:w.cell? ⟨g,2,none⟩=some (int i64 c)):
  Calls prog 166 #[.slice (some (zE g)) 3 3] w fun e w' => e= .returned (int i64 (or3 a b c))/\w'=w:=by
 obtain⟨r,hr⟩:∃r,or3 a b c=r:=zJ;rw[hr];have hf:∀k,k<3->∃f,w.cell? ⟨g,k,none⟩=some (int i64 f)/\(f≠0->(1<=k->a=0)->(2<=k->b=0)->r=f)/\(k=0->f=a)/\(k=1->f=b)/\(k=2->f=c):=fun k hk => by
  match k,hk with
  |0,_ => exact⟨a,ha,fun h _ _ => by rw[<-hr];simp[or3,h],fun _ => rfl,fun h => by omega,fun h => by omega⟩
  |1,_ => exact⟨b,hb,fun h l _ => by rw[<-hr];simp[or3,h,l (aD _)],fun h => by omega,fun _ => rfl,fun h => by omega⟩
  |2,_ => exact⟨c,hc,fun h l z => by rw[<-hr];simp[or3,l zZ,z zZ],fun h => by omega,fun h => by omega,fun _ => rfl⟩
 have i:a=0->b=0->c=0->r=0:=fun l z h3 => by rw[<-hr];simp[or3,l,z,h3]
 have HF:=zq hf;have HZ:=zq i;clear hf i ha hb hc hr;go_enter func166,ntmps166
 go_wp2
 go_loopw [8,5,2] (fun v _ u wr =>∃k:Nat,k<=3/\v=k/\u= int i64 0/\wr=w/\Hid (1<=k->a=0)/\Hid (2<=k->b=0)/\Hid (3<=k->c=0)) (fun v _ _ _ => 3 - (intOf v).toNat)
 ·exact⟨0,by omega,rfl,rfl,rfl,(fun h => by omega),(fun h => by omega),(fun h => by omega)⟩
 ·obtain⟨k,hk,rfl,rfl,rfl,n,s,H3⟩:=hrel;by_cases aa:k<3
  ·obtain⟨f,p,q,q0,q1,q2⟩:=HF.o k aa;by_cases i:f=0
   ·subst i;obtain⟨K0,K1,K2⟩:=zI q0 q1 q2;clear q q0 q1 q2;go_wp2
    go_roundw
    ·refine⟨k+1,by omega,by go_num,rfl,trivial,(fun h => ?_),(fun h => ?_),(fun h => ?_)⟩
     ·by_cases y:k=0
      ·exact(K0.o y).symm
      ·exact n.o zZ
     ·by_cases y:k=1
      ·exact(K1.o y).symm
      ·exact s.o zZ
     ·exact(K2.o zZ).symm
    ·simp[intOf];omega
   ·have ab:(f != 0)=true:=by rw[bne_iff_ne];exact i
    have x:=q i n.o s.o;clear q q0 q1 q2;subst x;go_wp2
    go_ret
    exact⟨rfl,rfl⟩
  ·have x:=HZ.o (n.o zZ) (s.o zZ) (H3.o zZ);subst x;go_wp2
   go_ret
   exact⟨rfl,rfl⟩
structure Es where
 kind:Int
 seq:Int
 name:ByteArray
 length:Int
 group:Int
 row:Int
 rows:Option Addr × Nat × Nat
 data:Option Addr × Nat × Nat
 delta:Option Addr × Nat × Nat
 at_:Nat
instance:Inhabited Es:=⟨⟨0,0,⟨#[]⟩,0,0,0,(none,0,0),(none,0,0),(none,0,0),0⟩⟩
def slV(x:Option Addr × Nat × Nat):Value:=.slice x.1 x.2.1 x.2.2
def C7(x:Es):List Value:=[x.kind,x.seq,.string x.name,int i64 x.length,x.group,x.row,slV x.rows,slV x.data,slV x.delta]
theorem DN(x):(C7 x).length =9:=rfl
theorem Je(x):∀v∈C7 x,v.oneCell'=true:=by
 intro v c;simp only[C7,List.mem_cons,List.not_mem_nil,or_false]at c;rcases c with rfl|rfl|rfl|rfl|rfl|rfl|rfl|rfl|rfl <;> rfl
def cfR(x y:Es):Int:=or3 (Fw x.seq y.seq) (Fw x.kind y.kind) (Fw x.group y.group)
theorem MM {x y:Es}:ltOf cfR x y=true↔(x.seq<y.seq∨(x.seq=y.seq/\(x.kind<y.kind∨(x.kind=y.kind/\x.group<y.group)))):=by
 unfold ltOf cfR or3 Fw;rw[decide_eq_true_iff];repeat' split
 all_goals omega
theorem Np {x y:Es}:ltOf cfR x y=false↔¬(x.seq<y.seq∨(x.seq=y.seq/\(x.kind<y.kind∨(x.kind=y.kind/\x.group<y.group)))):=by
 rw[<-MM];simp
theorem ltR_swo:SWO (ltOf cfR) where
 irrefl x:=by rw[Np];omega
 trans x y z h1 h2:=by rw[MM]at *;omega
 ntrans x y z h1 h2:=by rw[Np]at *;omega
theorem grow3(w:World)(a b c:Obj):(((w.alloc a).alloc b).drew).alloc c=grow (w.drewN 1) ((#[a] ++ #[b]) ++ #[c]):=by
 rw[alloc_eq_grow w a,alloc_eq_grow (grow w #[a]) b,grow_grow,drew_grow,alloc_eq_grow _ c,grow_grow];rfl
theorem Rn(x y)(w:World):Calls prog 165 #[.agg (C7 x).toArray,.agg (C7 y).toArray] w fun e w' => e= .returned (int i64 (cfR x y))/\∃q os,w'=grow (w.drewN q) os:=by
 obtain⟨r,hr⟩:∃r,cfR x y=r:=zJ;rw[hr];unfold cfR at hr;have u:=zq hr;clear hr;have p:prog.follows .mixedOrders =true:=by kernel_rfl
 unfold C7;generalize slV x.rows=v1;generalize slV x.data=v2;generalize slV x.delta=v3;generalize slV y.rows=v4;generalize slV y.data=v5;generalize slV y.delta=v6;obtain⟨h,xs,xn,xl,f,xr,_,_,_,_⟩:=x;obtain⟨l,n,yn,yl,i,yr,_,_,_,_⟩:=y;simp only at u⊢;go_enter func165,ntmps165
 go_upto_region 1 with fail
 obtain⟨W,c⟩:∃W,W=(((w.alloc (.cells #[int i64 h,int i64 xs,.string xn,int i64 xl,int i64 f,int i64 xr,v1,v2,v3] 105)).alloc (.cells #[int i64 l,int i64 n,.string yn,int i64 yl,int i64 i,int i64 yr,v4,v5,v6] 105)).drew):=zJ;have p0:W.cell? ⟨w.heap.size,0,none⟩=some (int i64 h):=by rw[c];exact(Blk.cell ((Blk.new w _ _).alloc _) 0).T rfl
 have p1:W.cell? ⟨w.heap.size,1,none⟩=some (int i64 xs):=by rw[c];exact(Blk.cell ((Blk.new w _ _).alloc _) 1).T rfl
 have p4:W.cell? ⟨w.heap.size,4,none⟩=some (int i64 f):=by rw[c];exact(Blk.cell ((Blk.new w _ _).alloc _) 4).T rfl
 have q0:W.cell? ⟨w.heap.size+1,0,none⟩=some (int i64 l):=by rw[c];exact(Blk.cell (Blk.new1 w _ _ _) 0).T rfl
 have q1:W.cell? ⟨w.heap.size+1,1,none⟩=some (int i64 n):=by rw[c];exact(Blk.cell (Blk.new1 w _ _ _) 1).T rfl
 have q4:W.cell? ⟨w.heap.size+1,4,none⟩=some (int i64 i):=by rw[c];exact(Blk.cell (Blk.new1 w _ _ _) 4).T rfl
 refine wp_region_still_tail 15 zY zY ?_;change wpStill _ _ (World.drew _) (fun a' => wpList _ _ _ _ a' (World.drew _)) _ _
 rw[<-c];have HW:=zq c;clear c;simp only[List.take_succ_cons,List.take_zero,List.drop_succ_cons,List.drop_zero];repeat still_step
 still_call (JP _ _ _)
 repeat still_step
 still_call (JP _ _ _)
 repeat still_step
 still_call (JP _ _ _)
 repeat still_step
 try refine wpStill_nil ?_
 have s:=zq (or_c (Fw xs n) (Fw h l) (Fw f i) W (W.alloc (.cells #[int i64 (Fw xs n),int i64 (Fw h l),int i64 (Fw f i)] 3)) ((Blk.cell (Blk.new W _ _) 0).T rfl) ((Blk.cell (Blk.new W _ _) 1).T rfl) ((Blk.cell (Blk.new W _ _) 2).T rfl));rw[u.o]at s;have z:=zq (show∃q os,W.alloc (.cells #[int i64 (Fw xs n),int i64 (Fw h l),int i64 (Fw f i)] 3)=grow (w.drewN q) os from by rw[HW.o];exact⟨1,_,grow3 _ _ _ _⟩);go_wp2_with (go_at_call 166;refine s.o.M ?_;rintro e w' ⟨rfl,rfl⟩)
 go_ret
 exact⟨rfl,z.o⟩
theorem SH(blk c size w):CmpLays prog 165 #[] C7 9 cfR blk c size w:=fun _ _ _ _ x y => Rn x y _
end Go.Proofs.YtofeknacbdcoaaaGreatDoor
namespace Go.Proofs.YtofeknacbdcoaaaGreatDoor
open Go.RowKit Go.Lib Go.Sort
def Bp(a b:Aj):Bool:=decide (a.seq<b.seq∨(a.seq=b.seq/\(a.kind<b.kind∨(a.kind=b.kind/\a.group<b.group))))
theorem Oa {a b:Aj}:Bp a b=true↔(a.seq<b.seq∨(a.seq=b.seq/\(a.kind<b.kind∨(a.kind=b.kind/\a.group<b.group)))):=by unfold Bp;simp
theorem N9 {a b:Aj}:Bp a b=false↔¬(a.seq<b.seq∨(a.seq=b.seq/\(a.kind<b.kind∨(a.kind=b.kind/\a.group<b.group)))):=by unfold Bp;simp
def MD(c:List Aj)(r:Aj):List Aj:=(c.reverse.dropWhile (Bp r)).reverse ++ r ::(c.reverse.takeWhile (Bp r)).reverse
theorem JE {α:Type}{p:α->Bool}:∀(A B:List α),(∀x,x∈A->p x=true)->(∀x,B.head? =some x->p x=false)->(A ++ B).takeWhile p=A/\(A ++ B).dropWhile p=B
 | [],[],_,_ =>⟨rfl,rfl⟩
 | [],b :: B,_,h => by
  have:=h b rfl;simp[this]
 |a :: A,B,h,h2 => by
  have c:=h a zX;have:=JE A B (fun x e => h x (by simp[e])) h2;simp[c,this]
theorem ME {c:List Aj}{r}{k:Nat}(o:k<=c.length)(h1:∀q,(hq:q<c.length)->k<=q->Bp r c[q] =true)(l:k=0∨∃(h:k - 1<c.length),Bp r c[k - 1] =false):MD c r=c.take k ++ r :: c.drop k:=by
 have e:c.reverse=(c.drop k).reverse ++(c.take k).reverse:=by
  rw[<-List.reverse_append,List.take_append_drop]
 have:=JE (p:=Bp r) (c.drop k).reverse (c.take k).reverse (fun x f => by
  rw[List.mem_reverse]at f;obtain⟨i,s,rfl⟩:=aY f;rw[List.getElem_drop];exact h1 _ _ zZ) (fun x f => by
  rw[List.head?_reverse]at f;rcases l with rfl|⟨h,l⟩
  ·simp at f
  ·by_cases n:k=0
   ·subst n;simp at f
   ·rw[List.getLast?_eq_getElem?,aX,Nat.min_eq_left o,List.getElem?_take,aM zZ,aO h]at f;injection f with f
    rw[<-f];exact l)
 unfold MD;rw[e,this.1,this.2,List.reverse_reverse,List.reverse_reverse]
def Jk(c:List Aj)(r:Aj):Bool:=c.any fun x => decide (x=r)
theorem Ov {c}{r:Aj}:Jk c r=true↔r∈c:=by
 unfold Jk;rw[List.any_eq_true];constructor
 ·rintro⟨x,e,h⟩;rwa [<-bE h]
 ·intro h;exact⟨r,h,by simp⟩
def Kp(c:List Aj)(r:Aj):List Aj:=if Jk c r then c else MD c r
def Kq(c:List Aj)(r:Aj):List Aj:=if Jk c r then c else c ++ [r]
def BV(c:List Aj):List Aj:=c.foldl Kp []
def C0(c:List Aj):List Aj:=c.foldl Kq []
theorem IB(l:List Aj)(r:Aj):BV (l ++ [r])=Kp (BV l) r:=by unfold BV;rw[List.foldl_append];rfl
theorem JR(l:List Aj)(r:Aj):C0 (l ++ [r])=Kq (C0 l) r:=by unfold C0;rw[List.foldl_append];rfl
def ltT(x y:Aj × Nat):Bool:=ltI (fun a b => Bp a.1 b.1) Prod.snd x y
theorem swoD:SWO (fun a b:Aj × Nat => Bp a.1 b.1) where
 irrefl x:=by show Bp _ _=false;rw[N9];omega
 trans x y z c e:=by
  have c:Bp _ _=true:=c;have e:Bp _ _=true:=e;show Bp _ _=true
  rw[Oa]at *;omega
 ntrans x y z c e:=by
  have c:Bp _ _=false:=c;have e:Bp _ _=false:=e;show Bp _ _=false
  rw[N9]at *;omega
def Ord(S:List (Aj × Nat)):Prop:=S.Pairwise fun x y => ltT y x=false
theorem Ord.insert {S:List (Aj × Nat)}{r:Aj}{n:Nat}(h:Ord S)(hn:∀x,x∈S->x.2<n):∃o,o.map Prod.fst=MD (S.map Prod.fst) r/\o.Perm (S ++ [(r,n)])/\Ord o:=by
 -- where it goes
 have ad:∃k,k<=S.length/\(∀q,(hq:q<S.length)->k<=q->Bp r S[q].1=true)/\(k=0∨∃(u:k - 1<S.length),Bp r S[k - 1].1=false):=by
  have:∀m,m<=S.length->(∀q,(hq:q<S.length)->m<=q->Bp r S[q].1=true)->∃k,k<=m/\(∀q,(hq:q<S.length)->k<=q->Bp r S[q].1=true)/\(k=0∨∃(u:k - 1<S.length),Bp r S[k - 1].1=false):=by
   intro m;induction m with
   |zero => intro _ h;exact⟨0,aD _,h,.inl rfl⟩
   |succ m ih =>
    intro hm hq;cases hc:Bp r (S[m]' zZ).1 with
    |false => exact⟨m+1,aD _,hq,.inr ⟨by omega,by simpa using hc⟩⟩
    |true =>
     obtain⟨k,k1,k2,k3⟩:=ih zZ (fun q aa ae => by
      by_cases e:q=m
      ·subst e;exact hc
      ·exact hq q aa zZ)
     exact⟨k,by omega,k2,k3⟩
  obtain⟨k,k1,k2,k3⟩:=this S.length (aD _) (fun q hq h => by omega);exact⟨k,k1,k2,k3⟩
 obtain⟨k,hk,h1,l⟩:=ad;refine⟨S.take k ++(r,n) :: S.drop k,?_,?_,?_⟩
 ·rw[ME (k:=k) (by simpa using hk) (fun q hq z => by simpa using h1 q (by simpa using hq) z) (by
   rcases l with l|⟨a,b⟩
   ·exact .inl l
   ·exact .inr ⟨by simpa using a,by simpa using b⟩)]
  simp[List.map_take,List.map_drop]
 ·have:(S.take k ++(r,n) :: S.drop k).Perm ((r,n) ::(S.take k ++ S.drop k)):=List.perm_middle;rw[List.take_append_drop]at this;exact this.T (List.perm_append_comm (l₁:=[(r,n)]) (l₂:=S))
 ·unfold Ord;have p:=h;unfold Ord at p;rw[<-List.take_append_drop k S,List.pairwise_append]at p;obtain⟨p1,p2,p3⟩:=p;have f:∀x,x∈S.take k->ltT (r,n) x=false:=fun x c => by
   have ac:x∈S:=List.mem_of_mem_take c;have e:ltT (r,n) x=Bp r x.1:=Lr (hn x ac);rw[e];rcases l with rfl|⟨a,b⟩
   ·simp at c
   obtain⟨i,s,rfl⟩:=aY c;rw[aX]at s;rw[List.getElem_take];by_cases e2:i=k - 1
   ·subst e2;exact b
   ·have hp:=List.pairwise_iff_getElem.1 h i (k - 1) zZ a zZ;exact swoD.ntrans (r,n) S[k - 1] S[i] b (DK.1 hp).1
  rw[List.pairwise_append];refine⟨p1,?_,?_⟩
  ·rw[List.pairwise_cons];refine⟨fun x c => ?_,p2⟩;obtain⟨i,s,rfl⟩:=aY c;rw[bP]at s;rw[List.getElem_drop];have:=h1 (k+i) zZ zZ;have ab:=OT (lt:=fun a b:Aj × Nat => Bp a.1 b.1) swoD (x:=(r,n)) (y:=S[k+i]) this;exact DK.2 ⟨ab,.inl this⟩
  ·intro x c y hy;rcases List.mem_cons.1 hy with rfl|hy
   ·exact f x c
   ·exact p3 x c y hy
theorem Ic:∀(n:Nat) (c:List Aj),c.length=n->∃S:List (Aj × Nat),S.map Prod.fst=BV c/\S.Perm (C0 c).zipIdx/\Ord S
 |0,c,hn => by
  obtain rfl:=bN hn;exact⟨[],rfl,List.Perm.refl _,List.Pairwise.nil⟩
 |n+1,c,hn => by
  obtain⟨l,r,rfl⟩:∃l r,c=l ++ [r]:=⟨c.dropLast,c.getLast (by intro h;subst h;simp at hn),(List.dropLast_concat_getLast _).symm⟩;obtain⟨S,o,e,f⟩:=Ic n l (by simpa using hn);rw[IB,JR,<-o];have hm:∀x,x∈S.map Prod.fst↔x∈C0 l:=fun x => by
   have:=(e.map Prod.fst).mem_iff (a:=x);rw[this];simp[List.zipIdx_map_fst]
  have p:Jk (S.map Prod.fst) r=Jk (C0 l) r:=by
   rw[Bool.eq_iff_iff,Ov,Ov];exact hm r
  unfold Kp Kq;rw[p];cases hc:Jk (C0 l) r with
  |true => exact⟨S,by simp,by simpa using e,f⟩
  |false =>
   obtain⟨i,s,u,y⟩:=f.insert (r:=r) (n:=(C0 l).length) (fun x q => by
    have:=(e.mem_iff (a:=x)).1 q;have:=List.snd_lt_of_mem_zipIdx this;simpa using this)
   refine⟨i,by simpa using s,?_,y⟩;simp only[Bool.false_eq_true,if_false];rw[List.zipIdx_append];exact u.T (by simpa using e.append_right [(r,(C0 l).length)])
theorem Ol {c}{L:List (Aj × Nat)}(o:L.Perm (C0 c).zipIdx)(u:Ord L):L.map Prod.fst=BV c:=by
 obtain⟨S,p,n,q⟩:=Ic _ c rfl;rw[<-p];congr 1
 refine List.Perm.eq_of_pairwise (le:=fun x y => ltT y x=false) ?_ u q (o.T n.symm);intro a b s hb h4 r;have e:a.2=b.2:=by
  obtain⟨z,f⟩:=DK.1 h4;obtain⟨q3,h⟩:=DK.1 r;rcases f with f|f
  ·rw[q3]at f;cases f
  rcases h with h|h
  ·rw[z]at h;cases h
  omega
 have i:=o.mem_iff.1 s;have l:=n.mem_iff.1 hb;obtain⟨a1,a2⟩:=a;obtain⟨b1,b2⟩:=b;simp only at e;subst e;have r1:=List.mem_zipIdx_iff_getElem?.1 i;have r2:=List.mem_zipIdx_iff_getElem?.1 l;rw[r1]at r2;injection r2 with r2
 simp only at r2;rw[r2]
end Go.Proofs.YtofeknacbdcoaaaGreatDoor
namespace Go.Proofs.YtofeknacbdcoaaaGreatDoor
open Go.Shelf Go.RowKit Go.Lib Go.Sort
instance:Inhabited Aj:=⟨⟨0,0,⟨#[]⟩,0,0,0,[],[],[]⟩⟩
theorem SWK.belowB {α}[Inhabited α]{enc:α->List Value}{k c W blk e}{f:Array α}(h:SWK enc k c blk e f W)(hb:blk<c.heap.size):Below blk c W:=by
 obtain⟨n,os,rfl⟩:=h;have i:(putRowK enc k (Sort.ahead c n) blk e f).heap.size =c.heap.size:=by rw[size_putRowK];rfl
 refine⟨rfl,rfl,rfl,by unfold sortWorldK;rw[size_grow,i];omega,fun j l => ?_⟩;unfold sortWorldK;rw[heap_grow_old _ os (show j<_ by rw[i];omega)];show(mapBlock (Sort.ahead c n) blk _).heap[j]? =_
 unfold mapBlock;simp only[Array.getElem?_modify];rw[aJ zZ];rfl
theorem Af.encoded {w f cs d}(h:Af w f cs d)(i:Nat):∃x:Es,C7 x=cs/\x.at_=i/\x.kind=d.kind/\x.seq=d.seq/\x.group=d.group:=by
 obtain⟨u,y,z,q,r,s,rfl,-,-,-,-,-,-,-,n,o,p⟩:=h;obtain⟨c,c0,rfl,-⟩:=rSl.head n;obtain⟨e,c1,rfl,-⟩:=rSl.head o;obtain⟨l,c2,rfl,-⟩:=rSl.head p;exact⟨⟨d.kind,d.seq,d.name,d.length,d.group,d.row,(c,d.rows.length,c0),(e,d.data.length,c1),(l,d.delta.length,c2),i⟩,rfl,rfl,rfl,rfl,rfl⟩
theorem Sl {w}{base g n c:Nat}{E:TypeId}{o}{fs:List Addr}(ho:Ak 9 E Af w base (.slice (some (zE g)) n c) (C0 o) fs)(hn:n=(C0 o).length)(az:n<1000000000000)(av:base<=g)(hg:g<w.heap.size)(ay:∀a,a∈fs->a.block<base):
  Calls prog 164 #[.slice (some (zE g)) n c,.func (.func 165) #[] #[]] w fun e w' => e= .returned (.tuple #[])/\∃aj,rSl 9 Af w' aj (.slice (some (zE g)) n c) (BV o)/\(∀a,a∈aj->a∈fs∨a.block=g)/\Below base w w':=by
 obtain⟨ds,am⟩:∃ds,C0 o=ds:=zJ;rw[am]at ho hn;have au:=Ak.there Af.X ho;obtain⟨ab,y,h1,h2,rfl,h4,h5,h6⟩:=ho;have hw:∀c,c∈ab->c.length=9:=by
  intro c hc;obtain⟨i,f,rfl⟩:=aY hc;obtain⟨_,_,p3,_⟩:=h5 i zZ;exact p3
 -- the rows as the sort has them
 have ax:∀i:Fin n,∃x:Es,C7 x=ab[i.1]' zZ /\x.at_=i.1/\x.kind=(ds[i.1]' zZ).kind/\x.seq=(ds[i.1]' zZ).seq/\x.group=(ds[i.1]' zZ).group:=fun i => by
  obtain⟨p1,p2,p3,p4⟩:=h5 i.1 zZ;exact Af.encoded p4 i.1
 obtain⟨X,hX⟩:=Classical.axiomOfChoice ax;obtain⟨d,hd⟩:∃d:Array Es,d=Array.ofFn X:=zJ;have r:d.size=n:=by rw[hd];simp
 have ad:∀i,(f:i<n)->d[i]! =X ⟨i,f⟩:=fun i f => by
  rw[getElem!_pos d i zZ];simp[hd]
 -- they lie there
 have ac:∀i j,(f:i<n)->j<9->w.cell? ⟨g,i * 9+j,none⟩=some (C7 d[i]!)[j]!/\w.frozen? ⟨g,i * 9+j,none⟩=false:=fun i j f hj => by
  obtain⟨hl,ht⟩:=h4;rcases ht with⟨e,_⟩|⟨g',cap,ai,e,q1,q2,q3,q4,q5,q6⟩
  ·cases e
  ·injection e with e1 e2 e3
   injection e1 with e1
   injection e1 with e1 _ _
   subst e1;have ae:Blk w g E ai:=q2;refine⟨?_,ae.frozen _⟩;rw[ae.cell];have ag:i * 9+j<ds.length * 9:=by omega
   have e7:=El ab hw i j zZ hj;rw[<-q6,List.getElem?_take,aM ag]at e7;rw[Array.getElem?_toList]at e7;rw[e7,(show ab[i]' zZ =C7 d[i]! by rw[ad i f];exact(hX ⟨i,f⟩).1.symm)];have:j<(C7 d[i]!).length:=by rw[DN];exact hj
   rw[aO this,getElem!_pos _ j this]
 have R:RowK C7 9 w g 0 d:=⟨DN,Je,fun t ht => by
  rw[size_flatK,r]at ht;rw[get_flatK _ _ _ _ (by rw[r];exact ht)];have:=ac (t / 9) (t % 9) zZ (Nat.mod_lt _ zZ);rw[show t / 9 * 9+t % 9=t by omega]at this;simpa using this,hg⟩
 refine(Pm 9 Any2.zR C7 cfR Es.at_ 165 #[] g 0 c n d w (enters_of func165 zY rfl) (SH _ _ _ _) ltR_swo R r (fun i f => by rw[ad i f];exact(hX ⟨i,f⟩).2.1) az).M ?_;rintro e w' ⟨rfl,d',hS,hP,hO⟩;have hB:Below base w w':=(SWK.belowB hS hg).M av;have h:d'.size=n:=hP.1.T r;have hH:=hS.holds hg R.hH (h.T r.symm)
 -- what each of them is
 have aa:∀i,i<n->∃q,∃hq:q<n,d'[i]! =X ⟨q,hq⟩:=fun i f => permIn_all d d' 0 n (fun x =>∃q,∃hq:q<n,x=X ⟨q,hq⟩) zZ hP (fun q _ hq =>⟨q,hq,ad q hq⟩) i (Nat.zero_le _) f
 let φ:Es->Aj × Nat:=fun x =>(ds.getD x.at_ default,x.at_)
 have hφ:∀q,(hq:q<n)->φ (X ⟨q,hq⟩)=(ds[q]' zZ,q):=fun q hq => by
  have:=(hX ⟨q,hq⟩).2.1;show(ds.getD (X ⟨q,hq⟩).at_ default,(X ⟨q,hq⟩).at_)=_
  rw[this];simp[aP,show q<ds.length by omega]
 have aq:∀p q,(hp:p<n)->(hq:q<n)->ltOf cfR (X ⟨p,hp⟩) (X ⟨q,hq⟩)=Bp (ds[p]' zZ) (ds[q]' zZ):=fun p q hp hq => by
  obtain⟨-,-,k1,s1,g1⟩:=hX ⟨p,hp⟩;obtain⟨-,-,k2,s2,g2⟩:=hX ⟨q,hq⟩;rw[Bool.eq_iff_iff,MM,Oa,k1,s1,g1,k2,s2,g2]
 have ah:(d'.toList.map φ).Perm (C0 o).zipIdx:=by
  have e1:(d'.extract 0 n).toList =d'.toList:=by rw[<-h,Array.extract_size]
  have e2:(d.extract 0 n).toList =d.toList:=by rw[<-r,Array.extract_size]
  have:=hP.2.2;rw[e1,e2]at this;refine(this.map φ).T ?_;have:d.toList.map φ=ds.zipIdx:=by
   apply bK
   ·simp[r,hn]
   ·intro i af a0;have z:i<n:=by simp[r]at af;exact af
    rw[bI,List.getElem_zipIdx];have:d.toList[i]'(by simpa using af)=X ⟨i,z⟩:=by
     rw[<-ad i z,getElem!_pos d i zZ];simp
    rw[this,hφ i z];simp
  rw[this,am]
 have ar:Ord (d'.toList.map φ):=by
  unfold Ord;rw[List.pairwise_iff_getElem];intro i j f hj ag;have z:i<n:=by simp[h]at f;omega
  have ap:j<n:=by simp[h]at hj;omega
  have:=hO i j (Nat.zero_le _) ag ap;obtain⟨p,hp,ep⟩:=aa i z;obtain⟨q,hq,eq⟩:=aa j ap;rw[bI,bI];have e1:d'.toList[i]'(by simpa using f)=d'[i]!:=by rw[getElem!_pos d' i zZ];simp
  have e2:d'.toList[j]'(by simpa using hj)=d'[j]!:=by rw[getElem!_pos d' j zZ];simp
  rw[e1,e2,ep,eq,hφ p hp,hφ q hq];rw[ep,eq,DK,aq q p hq hp,aq p q hp hq,(hX ⟨p,hp⟩).2.1,(hX ⟨q,hq⟩).2.1]at this;exact DK.2 this
 have s:=Ol ah ar;have u:(BV o).length =n:=by rw[<-s];simp[h]
 have an:∀i,(f:i<n)->∃q,∃hq:q<n,d'[i]! =X ⟨q,hq⟩/\(BV o)[i]' zZ =ds[q]' zZ :=fun i f => by
  obtain⟨q,hq,e⟩:=aa i f;refine⟨q,hq,e,?_⟩;have:(BV o)[i]? =some (ds[q]' zZ):=by
   rw[<-s,List.map_map,List.getElem?_map,Array.getElem?_toList,Array.getElem?_eq_getElem zZ];rw[getElem!_pos d' i zZ]at e;simp only[Option.map_some,Function.comp,e,hφ q hq]
  rw[aO zZ]at this;injection this
 have aw:n<=c/\c<=9223372036854775807:=by
  obtain⟨hl,ht⟩:=h4;rcases ht with⟨e,_⟩|⟨g',cap,ai,e,q1,q2,q3,q4,q5,q6⟩
  ·cases e
  ·injection e with e1 e2 e3
   simp only[maxLen]at q4;omega
 refine⟨rfl,Bf (zE g) ((BV o).length * 9) ++(d'.toList.map fun x => y.getD x.at_ []).flatten,⟨some (zE g),c,by rw[u],by omega,aw.2,.inr ⟨(zE g),d'.toList.map C7,d'.toList.map fun x => y.getD x.at_ [],rfl,by simp[h,u],by simp[h,u],rfl,fun i f => ?_⟩⟩,fun a ha => ?_,hB⟩;rotate_left
 ·rcases List.mem_append.1 ha with ha|ha
  ·obtain⟨k,_,rfl⟩:=Bt.1 ha;exact .inr (by rw[CO])
  ·obtain⟨l,hl,ak⟩:=List.mem_flatten.1 ha;obtain⟨x,-,rfl⟩:=List.mem_map.1 hl;refine .inl (List.mem_flatten.2 ⟨_,?_,ak⟩);by_cases q:x.at_<y.length
   ·simp[aP,q]
   ·simp[aP,q]at ak
 rw[u]at f;obtain⟨q,hq,e,ec⟩:=an i f;have al:d'.toList[i]'(by simp[h];exact f)=X ⟨q,hq⟩:=by
  rw[<-e,getElem!_pos d' i zZ];simp
 refine⟨by simp[h];exact f,by simp[h];exact f,by simp[DN],fun j hj => ?_,?_⟩
 ·have ao:j<9:=by simpa [DN]using hj
  have:=(HoldsK.cell hH (i:=i) (c:=j) zZ ao).1;rw[CO];simp only[Nat.zero_add]at this;rw[this];simp only[bI,al];rw[e,getElem!_pos _ j (by rw[DN];exact ao)]
 ·rw[ec];simp only[bI,al];obtain⟨p1,p2,p3,p4⟩:=h5 q zZ;rw[(hX ⟨q,hq⟩).1,(hX ⟨q,hq⟩).2.1];have e9:y.getD q [] =y[q]:=by simp[aP,p2]
  rw[e9];exact Af.L _ _ _ _ _ p4 (AV.of_below (fun a ha => ay a (List.mem_flatten.2 ⟨_,aT p2,ha⟩)) hB)
theorem FM {P:Program}{f:Array Oper}{rest}{o:Oper}{a:Act}{w:World}{Q:Exit->Act->World->Prop}(hg:o.guard=none)(t e)(x:Operand)(y:o.op= .buildSlice t 1 #[(0,x)])(c:Array Value)(hx:a.eval x= .agg c)(z)(k bytes:Nat)(hu:P.underlying t=some (.slice e))(hi:(P.info? e).map (fun i =>(i.zero,i.size,i.bytes))=some (some z,k,bytes))(s:0<k)(u:k<=1000)(r:c.size=k)(h:wpList P f Q rest (a.put o.dst (.slice (some (zE w)) 1 1)) (w.alloc (.cells c e))):wpList P f Q (o :: rest) a w:=by
 obtain⟨i,l,n,p,aa⟩:=info_parts hi;subst p;refine wpList_buildSlice hg t e 1 _ y c i z hu l n zZ zZ ?_ h;have:=Great.fill_whole s [.agg c] ((Array.range (1 * i.size)).map (z.cells[· % z.cells.size]!)) (by intro v q;simp at q;subst q;exact r) zX;simpa [hx,Value.cells]using this
theorem AS {B a w}(h:Below B a w){b:Nat}:∀(c:List Value) (o:Nat),B<=b->Below B a (w.setCells b o c):=by
 intro c;induction c generalizing w with
 |nil => intro o _;exact h
 |cons v r ih => intro o hb;exact ih (h.setCell hb v) (o+1) hb
theorem Tryz.infoRec:(prog.info? 105).map (fun i =>(i.zero,i.size,i.bytes))=some (some (.agg yY),9,128):=by kernel_rfl
theorem Qv {P:Addr->Prop}{lo:Nat}(z:∀a,P a->a.block<lo){w W b v ds fs f}{us:List Value}{d}(ho:Ak 9 105 Af w lo v ds fs)(r:lo<=w.heap.size)(o:Below w w W)(q:Blk W b 105 us.toArray)(hr:Af W f us d)(s:∀a,a∈f->P a)(p:∀a,a∈fs->P a)(hn:ds.length+1<=1000000000):
  ∃n w',(Builtin.append_ #[99,99] 99 #[v,.slice (some (zE b)) 1 1]).run prog W= .ok n w'/\∃g c l,n= .slice (some (zE g)) (ds.length+1) c/\Ak 9 105 Af w' lo n (ds ++ [d]) l/\(∀a,a∈l->P a)/\Below lo w w'/\w.heap.size<=w'.heap.size/\lo<=g/\g<w'.heap.size:=by
 have i:=ho.B Af.L Af.X o;have hs:=o.size;obtain⟨n,w',q1,hh,u,q3,x,q5⟩:=Ak.appendOne (P:=prog) 99 99 _ 128 underlying99 Tryz.infoRec rfl zW Af.L Af.X Af.ones lo v ds fs i b us f d (Af.wide _ _ _ _ hr) q hr (fun a h e => by
  have:=(i.lt _ e).1;have:=z a (s a h);omega) hn zZ zZ
 refine⟨n,w',q1,?_⟩;obtain⟨xs,hl,ht⟩:=u.cells;rcases ht with⟨_,e⟩|⟨g,cap,y,rfl,hb,hg,_⟩
 ·simp at e
 ·refine⟨g,cap,_,by simp,u,fun a h => ?_,Below.grown (o.M r) x zZ (fun k q =>(i.lt k q).1),aZ hs x.size,hb,(Array.getElem?_eq_some_iff.1 hg).1⟩;rcases List.mem_append.1 h with h|h
  ·exact p a h
  ·exact s a (q3.subset h)
def AtW(w:World)(p:Nat)(fs:List Addr)(d:As):Prop:=∃cs:List Value,AF w fs cs d/\(∀q,(hq:q<cs.length)->w.cell? ⟨p,q,none⟩=some cs[q])/\p<w.heap.size
theorem AtW.B {w w' p fs d}(h:AtW w p fs d)(hb:Below w w w'):AtW w' p fs d:=by
 obtain⟨cs,e,f,c⟩:=h;exact⟨cs,AC.B AF.L AF.X e hb,fun q hq =>(hb.cell (p:=⟨p,q,none⟩) c).T (f q hq),aH c hb.size⟩
structure LA (w:World) (p:Nat) (fs:List Addr) (d:As) (A0 A1 A2:Option Addr) (c0 c1 c2:Nat) (f0 f1 f2:List Addr):Prop where
 n0:w.cell? ⟨p,0,none⟩=some (int i64 d.s.g)
 n1:w.cell? ⟨p,1,none⟩=some (int i64 d.s.c)
 n2:w.cell? ⟨p,2,none⟩=some (int i64 d.s.data)
 n3:w.cell? ⟨p,3,none⟩=some (int i64 d.s.p)
 n4:w.cell? ⟨p,4,none⟩=some (int i64 d.s.rows)
 n5:w.cell? ⟨p,5,none⟩=some (int i64 d.s.cap)
 n6:w.cell? ⟨p,6,none⟩=some (int i64 d.s.b)
 n7:w.cell? ⟨p,7,none⟩=some (int i64 d.s.q)
 n8:w.cell? ⟨p,8,none⟩=some (int i64 d.s.t)
 gr:w.cell? ⟨p,9,none⟩=some (.slice A0 d.g.length c0)
 on:w.cell? ⟨p,10,none⟩=some (.slice A1 d.on.length c1)
 tp:w.cell? ⟨p,11,none⟩=some (.slice A2 d.v.length c2)
 wr:w.cell? ⟨p,12,none⟩=some (int i64 d.u)
 st:w.cell? ⟨p,13,none⟩=some (int i64 d.stop)
 dn:w.cell? ⟨p,14,none⟩=some (.bool d.down)
 lt:p<w.heap.size
 rgr:rSl 1 (Ai 2 Ar) w f0 (.slice A0 d.g.length c0) d.g
 ron:rSl 1 Aw w f1 (.slice A1 d.on.length c1) d.on
 rtp:rSl 2 AE w f2 (.slice A2 d.v.length c2) d.v
 sub:∀a,a∈f0 ++(f1 ++ f2)->a∈fs
theorem AtW.cells {w p fs d}(h:AtW w p fs d):∃e f i c0 c1 c2 l n o,LA w p fs d e f i c0 c1 c2 l n o:=by
 obtain⟨cs,⟨z,v1,v2,l,n,o,rfl,u,-,-,-,-,-,-,-,-,-,-,-,q,r,s⟩,c,y⟩:=h;obtain⟨e,c0,rfl,-⟩:=rSl.head q;obtain⟨f,c1,rfl,-⟩:=rSl.head r;obtain⟨i,c2,rfl,-⟩:=rSl.head s;exact⟨e,f,i,c0,c1,c2,l,n,o,c 0 zX,c 1 zX,c 2 zX,c 3 zX,c 4 zX,c 5 zX,c 6 zX,c 7 zX,c 8 zX,c 9 zX,c 10 zX,c 11 zX,c 12 zX,c 13 zX,c 14 zX,y,q,r,s,fun a x => by rw[u];exact x⟩
def Dk(d:As):List Aj:=d.v.flatMap Be.recs
def AU(d:As):List Aj:=BV (Dk d)
theorem Hj:∀(n:Nat) (l:List Aj),l.length=n->(C0 l).length<=n
 |0,l,h => by
  obtain rfl:=bN h;exact aD _
 |n+1,l,h => by
  obtain⟨m,r,rfl⟩:∃m r,l=m ++ [r]:=⟨l.dropLast,l.getLast (by intro h;subst h;simp at *),(List.dropLast_concat_getLast _).symm⟩;have:=Hj n m (by simpa using h);rw[JR];unfold Kq;split
  ·omega
  ·simp;omega
theorem Nd(p fs d w)(h:AtW w p fs d)(bp:(Dk d).length<=1000000):
  Calls prog 106 #[.pointer (some (zE p))] w fun e w' =>∃A c a8,e= .returned (.slice A (AU d).length c)/\rSl 9 Af w' a8 (.slice A (AU d).length c) (AU d)/\(∀a,a∈a8->a∈fs∨w.heap.size<=a.block)/\Below w w w':=by
 obtain⟨A0,A1,A2,c0,c1,c2,f0,f1,f2,ab⟩:=h.cells;obtain⟨bs,bu,e,hc,hm,hx⟩:=rSl.at_ AE.X zZ ab.rtp;injection e with e1 _ e3
 subst e1 e3;have HX:=zq hx;have bq:=ab.tp;have hp:=ab.lt;obtain⟨HT,bl,aw⟩:=zI (rSl.there AE.X ab.rtp) (show∀a,a∈f2->a∈fs from fun a ha => ab.sub a (bO _ (bO _ ha))) (show FJ fs w from by obtain⟨_,hr,-⟩:=h;exact AF.X _ _ _ _ hr);clear hx ab h;go_enter func106,ntmps106
 go_wp2_with fail
 obtain⟨g0,ae⟩:∃g0,w.heap.size=g0:=zJ;have HG:=zq ae;have r:Hid (Ak 9 105 Af (w.alloc (.cells #[] 105)) g0 (.slice (some (zE g0)) 0 0) (C0 []) []):=by
  rw[<-ae];exact Ak.start (World.ownsRow_lit (base:=w.heap.size) (e:=105) (size:=9) w #[] 0 (aD _) (Nat.zero_le _) rfl)
 have ac:Hid (Below g0 w (w.alloc (.cells #[] 105))):=(aC g0 w).alloc zZ _;rw[ae];rw[ae]at hp;have af:Hid (g0<(w.alloc (.cells #[] 105)).heap.size):=by show _<_;rw[<-ae];simp
 clear ae;go_loopw [14,3] (fun i v wr =>∃(j g n c:Nat) (fo:List Addr),j<=d.v.length/\i=j/\v= .slice (some (zE g)) n c/\Hid (n=(C0 ((d.v.take j).flatMap Be.recs)).length)/\Hid (Ak 9 105 Af wr g0 (.slice (some (zE g)) n c) (C0 ((d.v.take j).flatMap Be.recs)) fo)/\Hid (∀a,a∈fo->a∈fs)/\Hid (Below g0 w wr)/\Hid (g0<=g/\g<wr.heap.size)) (fun i _ _ => d.v.length - (intOf i).toNat)
 ·exact⟨0,g0,0,0,[],by omega,rfl,rfl,rfl,r.o,(fun a ha => by cases ha),ac.o,aD _,af.o⟩
 ·clear r ac af;obtain⟨j,g,n,c,fo,hj,rfl,rfl,HN,HO,HF,HB,s⟩:=hrel;by_cases ai:j<d.v.length
  ·obtain⟨ad,b,o,cs,fk,rfl,y⟩:=HX.o j ai;have l:=y.B AE.L (show Below w w wr by rw[HG.o];exact HB.o);obtain⟨v0,ft,e,rfl,ag⟩:=y.reads;subst e;obtain⟨A3,c3,e,bw,bx,hy⟩:=rSl.at_ Af.X zZ ag;subst e;have HY:=zq hy;have a4:=zq (show∀a,a∈fk->a∈fs from fun a ha => bl.o a (y.sub a ha));have bb:=y.place;have t0:wr.cell? ⟨b,o,none⟩=some (.bool d.v[j].wiped):=l.cell 0 zX;have t1:wr.cell? ⟨b,o+1,none⟩=some (.slice A3 d.v[j].recs.length c3):=l.cell 1 zX;have bv:=l.lt;have be:=(HB.o.cell (p:=⟨p,11,none⟩) hp).T bq;have HL:=zq (show((d.v.take j).flatMap Be.recs).length +d.v[j].recs.length<=1000000 by
    have:Dk d=(d.v.take (j+1)).flatMap Be.recs ++(d.v.drop (j+1)).flatMap Be.recs:=by
     rw[<-List.flatMap_append,List.take_append_drop];rfl
    have h2:=bp;rw[this,aK ai,List.flatMap_append]at h2;simp at h2;simp;omega)
   clear y l ag hy;go_wp2_with fail
   obtain⟨Dj,ao⟩:∃Dj,(d.v.take j).flatMap Be.recs=Dj:=zJ;obtain⟨u,aq⟩:∃u,d.v[j].recs =u:=zJ;rw[ao]at HN HO HL;rw[aq]at HY HL⊢;have av:=zq ao;have a2:=zq aq;have r:Hid (Ak 9 105 Af (wr.alloc (.cells #[.bool d.v[j].wiped,.slice A3 u.length c3] 148)) g0 (.slice (some (zE g)) n c) (C0 (Dj ++ u.take 0)) fo):=by
    show Ak _ _ _ _ _ _ _ _
    simpa using HO.o.B Af.L Af.X (Ac (aC _ _) _)
   have ac:Hid (Below g0 w (wr.alloc (.cells #[.bool d.v[j].wiped,.slice A3 u.length c3] 148))):=HB.o.T (((aC _ _).alloc (aD _) _).M (by have:=s.o;omega));obtain⟨wt,ar⟩:∃wt,wr.alloc (.cells #[.bool d.v[j].wiped,.slice A3 u.length c3] 148)=wt:=zJ;have af:Hid (g0<=g/\g<wt.heap.size):=(show g0<=g/\g<wt.heap.size by rw[<-ar];have:=s.o;simp;omega);have bd:Hid (n=(C0 (Dj ++ u.take 0)).length):=(show _=_ by simpa using HN.o);have bz:u.length<=1000000:=by have:=HL.o;omega
   rw[ar]at r ac⊢;clear ao aq HO HN t0 t1 be bb ar s HB;go_loopw [21,3,7] (fun i v _ wr =>∃(i' g n c:Nat) (fo:List Addr),i'<=u.length/\i=i'/\v= .slice (some (zE g)) n c/\Hid (n=(C0 (Dj ++ u.take i')).length)/\Hid (Ak 9 105 Af wr g0 (.slice (some (zE g)) n c) (C0 (Dj ++ u.take i')) fo)/\Hid (∀a,a∈fo->a∈fs)/\Hid (Below g0 w wr)/\Hid (g0<=g/\g<wr.heap.size)) (fun i _ _ _ => u.length - (intOf i).toNat)
   ·exact⟨0,g,n,c,fo,by omega,rfl,rfl,bd.o,r.o,HF.o,ac.o,af.o⟩
   ·clear r ac af bd HF;obtain⟨i,g,n,c,fo,hi,rfl,rfl,HN,HO,HF,HB,s⟩:=hrel;by_cases al:i<u.length
    ·obtain⟨bt,b3,o3,f,f3,rfl,y⟩:=HY.o i al;have l:=y.B Af.L (show Below w w wr by rw[HG.o];exact HB.o);have bb:=y.place;have br:=l.lt;have z:f.length=9:=l.len;have HR:=zq (show wr.rangeAt b3 o3 f from fun q v hq => by
      have bc:q<f.length:=(List.getElem?_eq_some_iff.1 hq).1;rw[l.cell q bc,<-hq];exact(aO bc).symm)
     obtain⟨HI,ax,a0,bk,bf⟩:=zG (show(prog.info? 105).map (·.size)=some f.length by rw[z];kernel_rfl) (show(prog.info? 105).map (·.size)=some f.toArray.size by rw[bD,z];kernel_rfl) (all_oneCell_toArray (Af.ones _ _ _ _ l.reads)) l.reads (show∀a,a∈f3->a∈fs from fun a ha => a4.o a (y.sub a ha));obtain⟨Z,hZ⟩:∃Z:Array Value,#[int i64 0,(),.string ⟨#[]⟩,(),(),(),zQ,zQ,zQ] =Z:=zJ;have ap:Z.size=9:=by rw[<-hZ];rfl
     have KZ:=Blk.new wr 105 Z;have a6:=zq (Blk.there KZ f.toArray.size (by rw[bD,z,ap];exact aD _));obtain⟨W2,ah⟩:∃W2,(wr.alloc (.cells Z 105)).setCells wr 0 f.toArray.toList=W2:=zJ;have K2:=zq (show Blk W2 wr 105 f.toArray by rw[<-ah];exact Blk.laid KZ _ (by rw[ap];exact z.symm));have B2:=zq (show Below wr wr W2 by rw[<-ah];exact AS (Ac (aC _ _) _) _ 0 (aD _));obtain⟨a3,a7,an,ak,a1⟩:=zG (show wr.heap.size<W2.heap.size from K2.o.lt) ah (HO.o.B Af.L Af.X B2.o) (AC.B Af.L Af.X bk.o B2.o) (Blk.rangeAll K2.o);obtain⟨fr,ba⟩:=an.o.reads;have HC:=zq (has_c (.slice (some (zE g)) n c) (C0 (Dj ++ u.take i)) f u[i] (fr ++ fo) f3 W2 ba.1 ak.o);clear y l ah KZ ba;have aj:C0 (Dj ++ u.take (i+1))=Kq (C0 (Dj ++ u.take i)) u[i]:=by
      rw[aK al,<-List.append_assoc,JR]
     unfold Kq Jk at aj;obtain⟨bh,a9⟩:∃bh,(C0 (Dj ++ u.take i)).any (fun x => decide (x=u[i]))=bh:=zJ;rw[a9]at HC aj;have a5:=zq aj;have ay:=zq z;clear a9 aj z ap;cases bh with
     |true =>
      go_wp2_with (first
       |(refine aE rfl 105 (.tmp 23) rfl b3 o3 rfl f _ HR.o underlying105 rfl HI.o ?_)
       |(refine aV rfl 105 (.tmp 7) (.tmp 24) rfl wr 0 f.toArray rfl rfl a6.o ax.o a0.o ?_;rw[a7.o])
       |(refine aE rfl 105 (.tmp 7) rfl wr 0 rfl f _ a1.o underlying105 rfl HI.o ?_)
       |(go_at_call 163;refine HC.o.M ?_;rintro e w3 ⟨rfl,aa⟩;have B3:=zq aa;clear aa))
      go_roundw
      ·have hs:=a5.o;simp only[if_true]at hs;exact⟨i+1,g,n,c,fo,by omega,by go_num,rfl,(show _=_ by rw[hs];exact HN.o),(show Ak _ _ _ _ _ _ _ _ by rw[hs];exact an.o.B Af.L Af.X B3.o),HF,HB.o.T ((B2.o.T (B3.o.M B2.o.size)).M (by rw[<-HG.o];exact HB.o.size)),⟨s.o.1,aH s.o.2 (aZ B2.o.size B3.o.size)⟩⟩
      ·simp[intOf];omega
     |false =>
      have bm:=zq (show f.toArray.size=9 by rw[bD];exact ay.o);have bg:=zq (show n+1<=1000000000 by
       have h1:=Hj _ (Dj ++ u.take i) rfl;have h2:=HN.o;have h3:=HL.o;rw[aU,aX]at h1;omega)
      have au:=zq (fun(w3:World) (aa:Below W2 W2 w3) => Qv (P:=fun a => a∈fs) (fun a ha => by have:=aw.o a ha;have:=HG.o;omega) (w:=W2) (W:=w3.alloc (.cells f.toArray 105)) (b:=w3.heap.size) an.o (by have:=a3.o;have:=s.o;omega) (Ac aa _) (Blk.new _ _ _) (AC.B Af.L Af.X ak.o (Ac aa _)) bf.o HF.o (by rw[<-HN.o];exact bg.o));rw[<-HN.o]at au;go_wp2_with (first
       |(refine aE rfl 105 (.tmp 23) rfl b3 o3 rfl f _ HR.o underlying105 rfl HI.o ?_)
       |(refine aV rfl 105 (.tmp 7) (.tmp 24) rfl wr 0 f.toArray rfl rfl a6.o ax.o a0.o ?_;rw[a7.o])
       |(refine aE rfl 105 (.tmp 7) rfl wr 0 rfl f _ a1.o underlying105 rfl HI.o ?_)
       |(go_at_call 163;refine HC.o.M ?_;rintro e w3 ⟨rfl,aa⟩;have B3:=zq aa;have bj:=zq (Blk.rangeAll (K2.o.B aa a3.o));clear aa)
       |(refine aE rfl 105 (.tmp 7) rfl wr 0 rfl f _ bj.o underlying105 rfl HI.o ?_)
       |(refine FM rfl 99 105 (.tmp 30) rfl f.toArray rfl _ 9 128 underlying99 Tryz.infoRec zZ zZ bm.o ?_)
       |(at_builtin;refine An rfl (.tmp 29) (.tmp 31) 99 rfl _ _ zT zT (au.o w3 B3.o) ?_;rintro v8 w8 ⟨g8,c8,bn,rfl,o8,h8,b8,s8,q8,r8⟩;have O8:=zq o8;have H8:=zq h8;have B8:=zq b8;have S8:=zq s8;have Q8:=zq q8;have R8:=zq r8;clear o8 h8 b8 s8 q8 r8))
      go_roundw
      ·have hs:=a5.o;simp only[Bool.false_eq_true,if_false]at hs;exact⟨i+1,g8,n+1,c8,bn,by omega,by go_num,rfl,(show _=_ by rw[hs,aU,<-HN.o];rfl),(show Ak _ _ _ _ _ _ _ _ by rw[hs];exact O8.o),H8.o,HB.o.T ((B2.o.M (by rw[<-HG.o];exact HB.o.size)).T B8.o),⟨Q8.o,R8.o⟩⟩
      ·simp[intOf];omega
    ·obtain rfl:i=u.length:=by omega
     go_wp2
     go_roundw
     ·refine⟨j+1,g,n,c,fo,by omega,by go_num,rfl,(show _=_ from ?_),(show Ak _ _ _ _ _ _ _ _ from ?_),HF,HB,s⟩
      ·rw[HN.o,aK ai,List.flatMap_append,av.o,bA];simp[a2.o]
      ·have:=HO.o;rw[bA]at this;rw[aK ai,List.flatMap_append,av.o];simpa [a2.o]using this
     ·simp[intOf];omega
  ·obtain rfl:j=d.v.length:=by omega
   have am:=zq (show n=(C0 (Dk d)).length by have:=HN.o;rwa [bA]at this);have bi:=zq (show Ak 9 105 Af wr g0 (.slice (some (zE g)) n c) (C0 (Dk d)) fo by have:=HO.o;rwa [bA]at this);have HC:=zq (Sl bi.o am.o (by have:=Hj _ (Dk d) rfl;have:=am.o;omega) s.o.1 s.o.2 (fun a ha => by have:=aw.o a (HF.o a ha);have:=HG.o;omega));have az:=zq (show(AU d).length =n by
    have h1:=Ic _ (Dk d) rfl;obtain⟨S,e1,e2,-⟩:=h1;unfold AU;rw[<-e1,bH,e2.length_eq,List.length_zipIdx];exact am.o.symm)
   clear HN HO;go_wp2_with (go_at_call 164;refine HC.o.M ?_;rintro e w1 ⟨rfl,bo,r1,p1,b1⟩;have R1:=zq r1;have P1:=zq p1;have B1:=zq b1;clear r1 p1 b1)
   go_ret
   refine⟨some (zE g),c,bo,by rw[az.o];rfl,by rw[az.o];exact R1.o,fun a ha => ?_,?_⟩
   ·rcases P1.o a ha with q|q
    ·exact .inl (HF.o a q)
    ·right;have:=s.o.1;have:=HG.o;omega
   rw[HG.o];exact HB.o.T B1.o
theorem SK(p fs d w)(h:AtW w p fs d)(i:(Dk d).length<=1000000):
  Calls prog 106 #[.pointer (some (zE p))] w fun e w' =>∃A c f,e= .returned (.slice A (AU d).length c)/\rSl 9 Af w' f (.slice A (AU d).length c) (AU d)/\Below w w w' :=
 (Nd p fs d w h i).M fun _ _ ⟨A,c,f,l,n,_,h4⟩ =>⟨A,c,f,l,n,h4⟩
end Go.Proofs.YtofeknacbdcoaaaGreatDoor
namespace Go.Proofs.YtofeknacbdcoaaaGreatDoor
open Go.RowKit Go.Lib Go.Sort
theorem Tv(d1 d2 f h f1 f2 w)(h1:Af w f1 f d1)(s:Af w f2 h d2):
  Calls prog 82 #[.agg f,.agg h] w (zN (.bool (Bp d1 d2)) w):=by
 obtain⟨n,p,x2,x3,y,x5,x6,x7,x8⟩:=d1;obtain⟨y0,y1,y2,y3,z,y5,y6,y7,y8⟩:=d2;dsimp only[Af]at h1 s;obtain⟨ad,ae,af,aa,ab,ac,e,-⟩:=h1;subst e;obtain⟨aj,ak,al,ag,ah,ai,e,-⟩:=s;subst e;have r:=zq (show∀u x:Obj,Below w w ((w.alloc u).alloc x)from fun u x =>((aC _ _).alloc (aD _) _).alloc zX _);obtain⟨l,c⟩:∃l,Bp ⟨n,p,x2,x3,y,x5,x6,x7,x8⟩ ⟨y0,y1,y2,y3,z,y5,y6,y7,y8⟩=l:=zJ;rw[c];unfold Bp at c;simp only at c;by_cases q:p=y1
 ·subst q;by_cases q:n=y0
  ·subst q;have i:l=decide (y<z):=by rw[<-c];simp
   subst i;clear c;go_enter func82,ntmps82
   go_wp2
   go_ret
   exact⟨rfl,r.o _ _⟩
  ·have i:l=decide (n<y0):=by rw[<-c];simp[q]
   subst i;have hq:(n != y0)=true:=bne_iff_ne.2 q;clear c q;go_enter func82,ntmps82
   go_wp2
   go_ret
   exact⟨rfl,r.o _ _⟩
 ·have i:l=decide (p<y1):=by rw[<-c];simp[q]
  subst i;have hq:(p != y1)=true:=bne_iff_ne.2 q;clear c q;go_enter func82,ntmps82
  go_wp2
  go_ret
  exact⟨rfl,r.o _ _⟩
theorem Ng(cs:List Value):∀(c done:List Value) (base:Array Value),cs=done ++ c->base.size=cs.length->base.toList.take done.length=done->List.foldl (fun(a:Array Value) (x:Value × Nat) => a.setIfInBounds x.snd x.fst) base (c.zipIdx done.length)=cs.toArray
 | [],done,base,h1,h2,h3 => by
  simp at h1;subst h1;simp only[List.zipIdx_nil,List.foldl_nil];have e:base.toList=cs:=by
   rw[<-h3];exact(bB (by simp[h2])).symm
  rw[<-e]
 |v :: c,done,base,h1,h2,h3 => by
  simp only[List.zipIdx_cons,List.foldl_cons];have:=Ng cs c (done ++ [v]) (base.setIfInBounds done.length v) (by rw[h1];simp) (by simpa using h2) (by
   have f:done.length<base.size:=by rw[h2,h1];simp
   rw[aU,Array.toList_setIfInBounds];simp only[List.length_cons,List.length_nil,Nat.zero_add];rw[List.take_set,aK (by simpa using f),h3];simp)
  rw[aU]at this;exact this
theorem Blk.ofFold {W g t}{cs:List Value}{base:Array Value}(h:Blk W g t (List.foldl (fun(a:Array Value) (x:Value × Nat) => a.setIfInBounds x.snd x.fst) base cs.zipIdx))(hb:base.size=cs.length):Blk W g t cs.toArray:=by
 have:=Ng cs cs [] base rfl hb rfl;rwa [show cs.zipIdx=cs.zipIdx [].length from rfl,this]at h
section
variable {w4 W:World}
theorem Ki {h c3 at_}{D:List Aj}{f b}(q:D.length<=2000000)(i:rSl 9 Af w4 f (.slice h at_ c3) (D.take at_))(l:Below w4 w4 W)(hb:Blk W b 105 #[])(c:w4.heap.size<=b):
  ∃n w',(Builtin.append_ #[99,99] 99 #[.slice (some (zE b)) 0 0,.slice h at_ c3]).run prog W= .ok n w'/\Gf 9 105 Af w4 W (some b) (D.take at_) [] f n w':=by
 have p:=rSl.there Af.X i;have:=Ak.appendRun (P:=prog) 99 99 _ 128 underlying99 Tryz.infoRec rfl zW Af.L Af.X Af.ones w4 (.slice (some (zE b)) 0 0) [] [] (Ak.start ⟨rfl,.inr ⟨b,0,#[],rfl,c,hb,aD _,by unfold maxLen;omega,rfl,rfl⟩⟩) _ (D.take at_) f (rSl.B Af.L Af.X i l) (fun a o e => by
  simp[Value.ownBlock]at e;have:=p a o;omega) zV zZ l.size
 exact this
theorem Kj {v:Value}{D:List Aj}{h1 c b cs r}(o:D.length<=2000000)(hr:Af w4 c cs r)(f:Below w4 w4 W)(h:Ak 9 105 Af W w4 v D h1)(hb:Blk W b 105 cs.toArray):
  ∃i w',(Builtin.append_ #[99,99] 99 #[v,.slice (some (zE b)) 1 1]).run prog W= .ok i w'/\Gf 9 105 Af w4 W v.ownBlock (D ++ [r]) h1 c i w':=by
 have n:=Af.X _ _ _ _ hr;exact Ak.appendOne (P:=prog) 99 99 _ 128 underlying99 Tryz.infoRec rfl zW Af.L Af.X Af.ones w4 v D h1 h b cs c r (Af.wide _ _ _ _ hr) hb (AC.B Af.L Af.X hr f) (fun a l e => by
  have:=(h.lt _ e).1;have:=n a l;omega) zZ zZ f.size
theorem IZ {u v:Value}{D D2:List Aj}{h1 c}(p:D.length+D2.length<=2000000)(f:rSl 9 Af w4 c u D2)(h:Below w4 w4 W)(i:Ak 9 105 Af W w4 v D h1):
  ∃l w',(Builtin.append_ #[99,99] 99 #[v,u]).run prog W= .ok l w'/\Gf 9 105 Af w4 W v.ownBlock (D ++ D2) h1 c l w':=by
 have o:=rSl.there Af.X f;exact Ak.appendRun (P:=prog) 99 99 _ 128 underlying99 Tryz.infoRec rfl zW Af.L Af.X Af.ones w4 v D h1 i u D2 c (rSl.B Af.L Af.X f h) (fun a n e => by
  have:=(i.lt _ e).1;have:=o a n;omega) zZ zZ h.size
end
