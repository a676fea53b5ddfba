/-
  Part 8 of the proof; the last part states and proves the statement.
-/
import Derived.Test.YthbljikbnoghcaaGreatM07
import Derived.StillTailTactics
import Derived.Test.YthbljikbnoghcaaGreatM02
set_option maxHeartbeats 8000000
set_option maxRecDepth 100000
set_option linter.unusedVariables false
set_option linter.unusedSimpArgs false
open Go.Value (int)
open Go.IntKind (i64)
namespace Go.Proofs
open Go.Shelf
def Tryz.laysF20_ren:Go.Shelf.Ren:=⟨fun|20 => 233|n => n,fun|0 => 0|3 => 3|4 => 4|22 => 113|24 => 76|25 => 159|n => n,fun n => n⟩
theorem Tryz.laysF20:Go.Proofs.SlLaysF0.n20 Tryz.prog Tryz.laysF20_ren:={
 mixed:=by kernel_rfl
 f20 := ⟨_, (by kernel_rfl : (Tryz.f233.name == "runtime.NumGoroutine") = false), Tryz.func233.trans (congrArg some (by kernel_rfl))⟩
 t0:=Tryz.underlying0
 a0:=Tryz.isAgg0
 z0:=Tryz.sizeOf0
 v0:=Tryz.zeroValue0
 t3:=Tryz.underlying3
 a3:=Tryz.isAgg3
 z3:=Tryz.sizeOf3
 v3:=Tryz.zeroValue3
 t4:=Tryz.underlying4
 a4:=Tryz.isAgg4
 z4:=Tryz.sizeOf4
 v4:=Tryz.zeroValue4
 t22:=Tryz.underlying113
 a22:=Tryz.isAgg113
 z22:=Tryz.sizeOf113
 v22:=Tryz.zeroValue113
 t25:=Tryz.underlying159
 a25:=Tryz.isAgg159
 z25:=Tryz.sizeOf159
 v25:=Tryz.zeroValue159 }
end Go.Proofs
namespace Go.Proofs.YthbljikbnoghcaaGreat
open Go.Shelf Go.RowKit Go.Lib Go.Sort
variable {α:Type} [Inhabited α]
theorem Ku {enc:α→List Value} {k:Nat} {w0 W:World} {blk off g:Nat} {cb:Array Value} {cf:α→α→Int} {d:Array α} {size:Nat}(h:CmpLays Tryz.prog g cb enc k cf blk off size w0)(S:SWK enc k w0 blk off d W)(hs:d.size=size)(hblk:blk<w0.heap.size):CmpLays Tryz.prog g cb enc k cf blk off size W:=by
 obtain⟨n,os,rfl⟩:=S;intro m os' dk hdk x y;rw[sortWorldK_on enc k w0 blk off n m d dk os os' hblk (hdk.trans hs.symm)];exact h _ _ dk hdk x y
theorem JN(k:Nat)(zR:∀w,(Go.sizeOf 76).run Tryz.prog w= .ok k w)(enc:α→List Value)(cf:α→α→Int)(g:Nat)(cb:Array Value)(blk off cap a b:Nat)(d0 d:Array α)(w0 w:World)
  (eg:∀args w,(callFunc g args).run Tryz.prog w= .ok (.enter g args) w) (hcmp:CmpLays Tryz.prog g cb enc k cf blk off d0.size w0) (R:RowK enc k w0 blk off d0) (hs:d0.size=d.size) (S:SWK enc k w0 blk off d w) (hab:a≤b) (hb:b≤d.size) (hsz:d.size<4611686018427387904) :
  Calls Tryz.prog 233 #[.slice (some ⟨blk,off,none⟩) d.size cap,int i64 a,int i64 b,.func (.func g) #[] cb] w fun e w' => e= .returned (.tuple #[])∧SWK enc k w0 blk off (insertionSort (ltOf cf) d a b) w':=by
 refine(AnyQ.insertionSortCmpFunc Tryz.laysF20 k Any2.aR zR enc R.hk R.h1 cf g cb blk off cap a b d w eg (by have:=Ku hcmp S hs.symm R.hblk;rwa [hs]at this) (S.holds R.hblk R.hH hs.symm) (S.lt R.hblk) hab hb hsz).mono ?_;rintro e w' ⟨he,n,os,rfl⟩;exact⟨he,S.on R.hblk n _ os (by
  have:∀(q i:Nat) (x:Array α),b - i=q→(insOuter (ltOf cf) a b i x).size =x.size:=by
   intro q;induction q with
   |zero => intro i x hq;rw[insOuter,if_neg (by omega)]
   |succ q ih =>
    intro i x hq;rw[insOuter,if_pos (by omega),ih _ _ (by omega)];have hin:∀(j:Nat) (y:Array α),(insInner (ltOf cf) a j y).size =y.size:=by
     intro j;induction j with
     |zero => intro y;unfold insInner;rfl
     |succ j ih2 => intro y;unfold insInner;split <;> simp[ih2,swp_size]
    exact hin _ _
  exact this _ _ _ rfl)⟩
theorem stable_c(k:Nat)(zR:∀w,(Go.sizeOf 76).run Tryz.prog w= .ok k w)(enc:α→List Value)(cf:α→α→Int)(ix:α→Nat)(g:Nat)(cb:Array Value)(blk off cap n:Nat)(d:Array α)(w:World)
  (eg:∀args w,(callFunc g args).run Tryz.prog w= .ok (.enter g args) w) (hcmp:CmpLays Tryz.prog g cb enc k cf blk off d.size w) (hS:SWO (ltOf cf))
  (R:RowK enc k w blk off d) (hn:d.size=n) (hix:∀i,i<n→ix d[i]! =i) (hsz:n<1000000000000) :
  Calls Tryz.prog 232 #[.slice (some ⟨blk,off,none⟩) n cap,int i64 n,.func (.func g) #[] cb] w fun e w' => e= .returned (.tuple #[])∧∃d',SWK enc k w blk off d' w'∧PermIn 0 n d d'∧SortedIn (ltI (ltOf cf) ix) 0 n d':=by
 have HM:Aside (∀N,ID enc k w blk off cap d (ltOf cf) ix g cb N):=G9 k zR enc cf ix g cb blk off cap d w eg hcmp hS R (by omega);have HN:=hid hn;have HI:Aside (∀(a b:Nat) (dk:Array α) (W:World),dk.size=n→SWK enc k w blk off dk W→a≤b→b≤n→Calls Tryz.prog 233 #[.slice (some ⟨blk,off,none⟩) n cap,int i64 a,int i64 b,.func (.func g) #[] cb] W fun e w' => e= .returned (.tuple #[])∧SWK enc k w blk off (insertionSort (ltOf cf) dk a b) w') :=
  fun a b dk W h1 h2 h3 h4 => by
   subst h1;exact JN k zR enc cf g cb blk off cap a b d dk w W eg hcmp R hn h2 h3 h4 (by omega)
 have HM2:Aside (∀(a m b:Nat) (dk:Array α) (W:World),dk.size=n→Pre (ltOf cf) ix a m b dk→a<m→m<b→SWK enc k w blk off dk W→Calls Tryz.prog 260 #[.slice (some ⟨blk,off,none⟩) n cap,int i64 a,int i64 m,int i64 b,.func (.func g) #[] cb] W fun e w' => e= .returned (.tuple #[])∧∃d',SWK enc k w blk off d' w'∧Dp (ltOf cf) ix a b dk d') :=
  fun a m b dk W h1 h2 h3 h4 h5 => by
   subst h1;exact HM.out (b - a+1) a m b dk W (by omega) h2 h3 h4 hn h5
 have S0:Aside (SWK enc k w blk off d w):=SWK.start R.hH;have HX:=hid hix;have HS:=hid hS;have start:Hid (Stg (ltOf cf) ix 20 0 n d):=⟨hn,fun i hi => by rw[hix i hi],fun p q _ hq => by omega⟩;clear hcmp hS hix hn HM R;go_enter Tryz.func232,Tryz.ntmps232
 go_wp2_with fail
 go_loopw [7,8] (fun v u wr =>∃(x c:Nat) (dk:Array α),v= int i64 x∧u= int i64 ((x:Int)+20)∧Hid (x=20 * c)∧x≤n∧Aside (SWK enc k w blk off dk wr)∧Hid (Stg (ltOf cf) ix 20 x n dk)∧Hid (∀i,x≤i→i<n→ix dk[i]! =i)∧Hid (PermIn 0 n d dk)) (fun v _ _ => n - (intOf v).toNat)
 case atStart => exact⟨0,0,d,rfl,rfl,rfl,by omega,S0,start,fun i _ hi => HX.out i hi,permIn_refl _ _ _⟩
 case round =>
  clear S0 start;obtain⟨x,c,dk,rfl,rfl,HC,hxn,S1,HG,HO,HP⟩:=hrel;by_cases hlt:x+20≤n
  ·have hz:(x:Int)+20≤(n:Int):=by omega
   have hr:(x:Int)+20=((x+20:Nat):Int):=by omega
   have HCall:=hid (HI.out x (x+20) dk wr HG.out.size S1.out (by omega) hlt);rw[← hr]at HCall;clear S1 hr;go_wp2_with (go_at_call 233;refine HCall.out.mono ?_;rintro e w1 ⟨rfl,S2⟩;have S3:Aside _:=S2;clear S2)
   have P:=hid (EE (ix:=ix) HS.out dk x (x+20) (by omega) (by have:=HG.out.size;omega) (fun p q hp hpq hq => by rw[HO.out p hp (by omega),HO.out q (by omega) (by omega)];exact hpq));go_roundw
   case rel =>
    refine⟨x+20,c+1,_,by go_num,by go_num,(show x+20=20 * (c+1) by have:=HC.out;omega),hlt,S3,HG.out.step HC.out (by omega) hlt P.out,fun i hi hin => by rw[P.out.1.2.1 i (.inr hi)];exact HO.out i (by omega) hin,permIn_trans _ _ _ _ _ HP.out (permIn_mono _ _ _ _ _ _ (Nat.zero_le _) hlt (by have:=HG.out.size;omega) P.out.1)⟩
   case measure => simp[intOf];omega
  ·have hz:¬(x:Int)+20≤(n:Int):=by omega
   have HCall:=hid (HI.out x n dk wr HG.out.size S1.out hxn (Nat.le_refl _));clear S1;go_wp2_with (go_at_call 233;refine HCall.out.mono ?_;rintro e w1 ⟨rfl,S2⟩;have S3:Aside _:=S2;clear S2)
   have P:=hid (EE (ix:=ix) HS.out dk x n hxn (by have:=HG.out.size;omega) (fun p q hp hpq hq => by rw[HO.out p hp (by omega),HO.out q (by omega) (by omega)];exact hpq));have HG1:=hid (HG.out.step HC.out (by omega) (Nat.le_refl _) P.out);have HP1:=hid (permIn_trans _ _ _ _ _ HP.out (permIn_mono _ _ _ _ _ _ (Nat.zero_le _) (Nat.le_refl _) (by have:=HG.out.size;omega) P.out.1));generalize insertionSort (ltOf cf) dk x n=d1 at S3 HG1 HP1;clear P HG HO HP HC HCall hz hlt HX;go_loopw [6,7,8,9] (fun v _ _ _ wr =>∃(bs:Nat) (dk:Array α),v= int i64 bs∧20≤bs∧bs≤2 * n+40∧Aside (SWK enc k w blk off dk wr)∧Hid (Stg (ltOf cf) ix bs n n dk)∧Hid (PermIn 0 n d dk)) (fun v _ _ _ _ => n - (intOf v).toNat)
   case atStart => exact⟨20,d1,rfl,by omega,by omega,S3,HG1,HP1⟩
   case round =>
    clear S3 HG1 HP1;obtain⟨bs,dk,rfl,hb20,hbs,S1,HG,HP⟩:=hrel;by_cases hlt:bs<n
    ·have hz:(bs:Int)<(n:Int):=by omega
     go_wp2_with fail
     have start:Hid (Stg (ltOf cf) ix (2 * bs) 0 n dk):=HG.out.two;have rest:Hid (ET (ltOf cf) ix bs 0 n dk):=HG.out.rest;go_loopw [7,8] (fun v u wr =>∃(x c:Nat) (dj:Array α),v= int i64 x∧u= int i64 ((x:Int)+2 * (bs:Int))∧Hid (x=2 * bs * c)∧x≤n∧Aside (SWK enc k w blk off dj wr)∧Hid (Stg (ltOf cf) ix (2 * bs) x n dj)∧Hid (ET (ltOf cf) ix bs x n dj)∧Hid (PermIn 0 n d dj)) (fun v _ _ => n - (intOf v).toNat)
     case atStart => exact⟨0,0,dk,rfl,by go_num,rfl,by omega,S1,start,rest,HP⟩
     case round =>
      clear S1 start rest HG HP;obtain⟨x,c,dj,rfl,rfl,HC,hxn,S1,HG,HR,HP⟩:=hrel;by_cases hle:x+2 * bs≤n
      ·have hz2:(x:Int)+2 * (bs:Int)≤(n:Int):=by omega
       have hr1:(x:Int)+2 * (bs:Int)=((x+2 * bs:Nat):Int):=by omega
       have hr2:(x:Int)+(bs:Int)=((x+bs:Nat):Int):=by omega
       have HCall:=hid (HM2.out x (x+bs) (x+2 * bs) dj wr HG.out.size (HR.out.pre HG.out.size HC.out (by omega) (by omega) hle) (by omega) (by omega) S1.out);rw[← hr1,← hr2]at HCall;clear S1 hr1 hr2;go_wp2_with (go_at_call 260;refine HCall.out.mono ?_;rintro e w1 ⟨rfl,d2,S2,P2⟩;have S3:Aside _:=S2;have P:=hid P2;clear S2 P2)
       go_roundw
       case rel =>
        exact⟨x+2 * bs,c+1,d2,by go_num,by go_num,(show x+2 * bs=2 * bs * (c+1) by rw[HC.out,Nat.mul_succ]),hle,S3,HG.out.step HC.out (by omega) hle P.out,HR.out.step (by omega) P.out.1,permIn_trans _ _ _ _ _ HP.out (permIn_mono _ _ _ _ _ _ (Nat.zero_le _) hle (by have:=HG.out.size;omega) P.out.1)⟩
       case measure => simp[intOf];omega
      ·have hz2:¬(x:Int)+2 * (bs:Int)≤(n:Int):=by omega
       by_cases hm:x+bs<n
       ·have hz3:(x:Int)+(bs:Int)<(n:Int):=by omega
        have hr2:(x:Int)+(bs:Int)=((x+bs:Nat):Int):=by omega
        have HCall:=hid (HM2.out x (x+bs) n dj wr HG.out.size (HR.out.pre HG.out.size HC.out (by omega) (by omega) (Nat.le_refl _)) (by omega) hm S1.out);rw[← hr2]at HCall;clear S1 hr2;go_wp2_with (go_at_call 260;refine HCall.out.mono ?_;rintro e w1 ⟨rfl,d2,S2,P2⟩;have S3:Aside _:=S2;have P:=hid P2;clear S2 P2)
        go_roundw
        case rel =>
         exact⟨2 * bs,d2,by go_num,by omega,by omega,S3,HG.out.step HC.out (by omega) (Nat.le_refl _) P.out,permIn_trans _ _ _ _ _ HP.out (permIn_mono _ _ _ _ _ _ (Nat.zero_le _) (Nat.le_refl _) (by have:=HG.out.size;omega) P.out.1)⟩
        case measure => simp[intOf];omega
       ·have hz3:¬(x:Int)+(bs:Int)<(n:Int):=by omega
        go_wp2_with fail
        go_roundw
        case rel =>
         exact⟨2 * bs,dj,by go_num,by omega,by omega,S1,HG.out.wide (HR.out.alone HC.out (by omega)) HC.out (by omega),HP⟩
        case measure => simp[intOf];omega
    ·have hz:¬(bs:Int)<(n:Int):=by omega
     go_wp2_with fail
     go_end0
     exact⟨rfl,dk,S1.out,HP.out,HG.out.all (by omega)⟩
theorem Js(k:Nat)(zR:∀w,(Go.sizeOf 76).run Tryz.prog w= .ok k w)(enc:α→List Value)(cf:α→α→Int)(ix:α→Nat)(g:Nat)(cb:Array Value)(blk off cap n:Nat)(d:Array α)(w:World)
  (eg:∀args w,(callFunc g args).run Tryz.prog w= .ok (.enter g args) w) (hcmp:CmpLays Tryz.prog g cb enc k cf blk off d.size w) (hS:SWO (ltOf cf))
  (R:RowK enc k w blk off d) (hn:d.size=n) (hix:∀i,i<n→ix d[i]! =i) (hsz:n<1000000000000) :
  Calls Tryz.prog 183 #[.slice (some ⟨blk,off,none⟩) n cap,.func (.func g) #[] cb] w fun e w' => e= .returned (.tuple #[])∧∃d',SWK enc k w blk off d' w'∧PermIn 0 n d d'∧SortedIn (ltI (ltOf cf) ix) 0 n d':=by
 have HC:=hid (stable_c k zR enc cf ix g cb blk off cap n d w eg hcmp hS R hn hix hsz);clear hcmp hS R hn hix eg;go_enter Tryz.func183,Tryz.ntmps183
 go_wp2_with (go_at_call 232;refine HC.out.mono ?_;rintro e w1 ⟨rfl,H⟩)
 go_end0
 exact⟨rfl,H⟩
def C3(x y:Int):Int:=if x<y then -1 else if y<x then 1 else 0
def or3(a b c:Int):Int:=if a≠0 then a else if b≠0 then b else c
theorem Hk(x:Int)(w:World):Calls Tryz.prog 213 #[int i64 x] w fun e w' => e= .returned (.bool false)∧w'=w:=by
 go_enter Tryz.func213,Tryz.ntmps213
 go_wp2_with fail
 go_ret
 exact⟨by simp,rfl⟩
theorem EJ(x y:Int)(w:World):Calls Tryz.prog 162 #[int i64 x,int i64 y] w fun e w' => e= .returned (int i64 (C3 x y))∧w'=w:=by
 obtain⟨r,hr⟩:∃r,C3 x y=r:=⟨_,rfl⟩;rw[hr];unfold C3 at hr;by_cases h1:x<y
 ·rw[if_pos h1]at hr;subst hr;go_enter Tryz.func162,Tryz.ntmps162
  go_wp2_with (go_at_call 213;refine(Hk _ _).mono ?_;rintro e w' ⟨rfl,rfl⟩)
  go_ret
  exact⟨rfl,rfl⟩
 ·by_cases h2:y<x
  ·rw[if_neg h1,if_pos h2]at hr;subst hr;go_enter Tryz.func162,Tryz.ntmps162
   go_wp2_with (go_at_call 213;refine(Hk _ _).mono ?_;rintro e w' ⟨rfl,rfl⟩)
   go_ret
   exact⟨rfl,rfl⟩
  ·rw[if_neg h1,if_neg h2]at hr;subst hr;go_enter Tryz.func162,Tryz.ntmps162
   go_wp2_with (go_at_call 213;refine(Hk _ _).mono ?_;rintro e w' ⟨rfl,rfl⟩)
   go_ret
   exact⟨rfl,rfl⟩
theorem or_c(a b c:Int)(g:Nat)(w:World)(ha:w.cell? ⟨g,0,none⟩=some (int i64 a))(hb:w.cell? ⟨g,1,none⟩=some (int i64 b))(hc:w.cell? ⟨g,2,none⟩=some (int i64 c)) :
  Calls Tryz.prog 185 #[.slice (some ⟨g,0,none⟩) 3 3] w fun e w' => e= .returned (int i64 (or3 a b c))∧w'=w:=by
 obtain⟨r,hr⟩:∃r,or3 a b c=r:=⟨_,rfl⟩;rw[hr];have hf:∀k,k<3→∃f,w.cell? ⟨g,k,none⟩=some (int i64 f)∧(f≠0→(1≤k→a=0)→(2≤k→b=0)→r=f)∧(k=0→f=a)∧(k=1→f=b)∧(k=2→f=c):=fun k hk => by
  match k,hk with
  |0,_ => exact⟨a,ha,fun h _ _ => by rw[← hr];simp[or3,h],fun _ => rfl,fun h => by omega,fun h => by omega⟩
  |1,_ => exact⟨b,hb,fun h h1 _ => by rw[← hr];simp[or3,h,h1 (Nat.le_refl _)],fun h => by omega,fun _ => rfl,fun h => by omega⟩
  |2,_ => exact⟨c,hc,fun h h1 h2 => by rw[← hr];simp[or3,h1 (by omega),h2 (by omega)],fun h => by omega,fun h => by omega,fun _ => rfl⟩
 have hz:a=0→b=0→c=0→r=0:=fun h1 h2 h3 => by rw[← hr];simp[or3,h1,h2,h3]
 have HF:=hid hf;have HZ:=hid hz;clear hf hz ha hb hc hr;go_enter Tryz.func185,Tryz.ntmps185
 go_wp2_with fail
 go_loopw [8,5,2] (fun v _ u wr =>∃k:Nat,k≤3∧v= int i64 k∧u= int i64 0∧wr=w∧Hid (1≤k→a=0)∧Hid (2≤k→b=0)∧Hid (3≤k→c=0)) (fun v _ _ _ => 3 - (intOf v).toNat)
 case atStart => exact⟨0,by omega,rfl,rfl,rfl,(fun h => by omega),(fun h => by omega),(fun h => by omega)⟩
 case round =>
  obtain⟨k,hk,rfl,rfl,rfl,H1,H2,H3⟩:=hrel;by_cases hlt:k<3
  ·obtain⟨f,p,q,q0,q1,q2⟩:=HF.out k hlt;by_cases hz:f=0
   ·subst hz;have K0:=hid q0;have K1:=hid q1;have K2:=hid q2;clear q q0 q1 q2;go_wp2_with fail
    go_roundw
    case rel =>
     refine⟨k+1,by omega,by go_num,rfl,trivial,(fun h => ?_),(fun h => ?_),(fun h => ?_)⟩
     ·by_cases h0:k=0
      ·exact(K0.out h0).symm
      ·exact H1.out (by omega)
     ·by_cases h0:k=1
      ·exact(K1.out h0).symm
      ·exact H2.out (by omega)
     ·exact(K2.out (by omega)).symm
    case measure => simp[intOf];omega
   ·have hb1:(f != 0)=true:=by rw[bne_iff_ne];exact hz
    have e1:=q hz H1.out H2.out;clear q q0 q1 q2;subst e1;go_wp2_with fail
    go_ret
    exact⟨rfl,rfl⟩
  ·have e1:=HZ.out (H1.out (by omega)) (H2.out (by omega)) (H3.out (by omega));subst e1;go_wp2_with fail
   go_ret
   exact⟨rfl,rfl⟩
structure BI where
 kind:Int
 seq:Int
 name:ByteArray
 length:Int
 group:Int
 row:Int
 rows:Option Addr × Nat × Nat
 data:Option Addr × Nat × Nat
 delta:Option Addr × Nat × Nat
 at_:Nat
instance:Inhabited BI:=⟨⟨0,0,⟨#[]⟩,0,0,0,(none,0,0),(none,0,0),(none,0,0),0⟩⟩
def slV(x:Option Addr × Nat × Nat):Value:=.slice x.1 x.2.1 x.2.2
def Bn(x:BI):List Value:=[int i64 x.kind,int i64 x.seq,.string x.name,int i64 x.length,int i64 x.group,int i64 x.row,slV x.rows,slV x.data,slV x.delta]
theorem BD(x:BI):(Bn x).length =9:=rfl
theorem D8(x:BI):∀v∈Bn x,v.oneCell'=true:=by
 intro v hv;simp only[Bn,List.mem_cons,List.not_mem_nil,or_false]at hv;rcases hv with rfl|rfl|rfl|rfl|rfl|rfl|rfl|rfl|rfl <;> rfl
def cfR(x y:BI):Int:=or3 (C3 x.seq y.seq) (C3 x.kind y.kind) (C3 x.group y.group)
theorem Hm {x y:BI}:ltOf cfR x y=true↔(x.seq<y.seq∨(x.seq=y.seq∧(x.kind<y.kind∨(x.kind=y.kind∧x.group<y.group)))):=by
 unfold ltOf cfR or3 C3;rw[decide_eq_true_iff];repeat' split
 all_goals omega
theorem Ie {x y:BI}:ltOf cfR x y=false↔¬(x.seq<y.seq∨(x.seq=y.seq∧(x.kind<y.kind∨(x.kind=y.kind∧x.group<y.group)))):=by
 rw[← Hm];simp
theorem ltR_swo:SWO (ltOf cfR) where
 irrefl x:=by rw[Ie];omega
 trans x y z h1 h2:=by rw[Hm]at *;omega
 ntrans x y z h1 h2:=by rw[Ie]at *;omega
theorem grow3(w:World)(a b c:Obj):(((w.alloc a).alloc b).drew).alloc c=grow (w.drewN 1) ((#[a] ++ #[b]) ++ #[c]):=by
 rw[alloc_eq_grow w a,alloc_eq_grow (grow w #[a]) b,grow_grow,drew_grow,alloc_eq_grow _ c,grow_grow];rfl
theorem Kx(x y:BI)(w:World):Calls Tryz.prog 184 #[.agg (Bn x).toArray,.agg (Bn y).toArray] w fun e w' => e= .returned (int i64 (cfR x y))∧∃q os,w'=grow (w.drewN q) os:=by
 obtain⟨r,hr⟩:∃r,cfR x y=r:=⟨_,rfl⟩;rw[hr];unfold cfR at hr;have HR:=hid hr;clear hr;have mixed:Tryz.prog.follows .mixedOrders =true:=by kernel_rfl
 unfold Bn;generalize slV x.rows=v1;generalize slV x.data=v2;generalize slV x.delta=v3;generalize slV y.rows=v4;generalize slV y.data=v5;generalize slV y.delta=v6;obtain⟨xk,xs,xn,xl,xg,xr,_,_,_,_⟩:=x;obtain⟨yk,ys,yn,yl,yg,yr,_,_,_,_⟩:=y;simp only at HR⊢;go_enter Tryz.func184,Tryz.ntmps184
 go_upto_region 1 with fail
 obtain⟨W,hW⟩:∃W,W=(((w.alloc (.cells #[int i64 xk,int i64 xs,.string xn,int i64 xl,int i64 xg,int i64 xr,v1,v2,v3] 76)).alloc (.cells #[int i64 yk,int i64 ys,.string yn,int i64 yl,int i64 yg,int i64 yr,v4,v5,v6] 76)).drew):=⟨_,rfl⟩;have p0:W.cell? ⟨w.heap.size,0,none⟩=some (int i64 xk):=by rw[hW];exact(Blk.cell ((Blk.new w _ _).alloc _) 0).trans rfl
 have p1:W.cell? ⟨w.heap.size,1,none⟩=some (int i64 xs):=by rw[hW];exact(Blk.cell ((Blk.new w _ _).alloc _) 1).trans rfl
 have p4:W.cell? ⟨w.heap.size,4,none⟩=some (int i64 xg):=by rw[hW];exact(Blk.cell ((Blk.new w _ _).alloc _) 4).trans rfl
 have q0:W.cell? ⟨w.heap.size+1,0,none⟩=some (int i64 yk):=by rw[hW];exact(Blk.cell (Blk.new1 w _ _ _) 0).trans rfl
 have q1:W.cell? ⟨w.heap.size+1,1,none⟩=some (int i64 ys):=by rw[hW];exact(Blk.cell (Blk.new1 w _ _ _) 1).trans rfl
 have q4:W.cell? ⟨w.heap.size+1,4,none⟩=some (int i64 yg):=by rw[hW];exact(Blk.cell (Blk.new1 w _ _ _) 4).trans rfl
 refine wp_region_still_tail 15 (by kernel_rfl) (by kernel_rfl) ?_;change wpStill _ _ (World.drew _) (fun a' => wpList _ _ _ _ a' (World.drew _)) _ _
 rw[← hW];have HW:=hid hW;clear hW;simp only[List.take_succ_cons,List.take_zero,List.drop_succ_cons,List.drop_zero];repeat still_step
 still_call (EJ _ _ _)
 repeat still_step
 still_call (EJ _ _ _)
 repeat still_step
 still_call (EJ _ _ _)
 repeat still_step
 try refine wpStill_nil ?_
 have HC:=hid (or_c (C3 xs ys) (C3 xk yk) (C3 xg yg) W.heap.size (W.alloc (.cells #[int i64 (C3 xs ys),int i64 (C3 xk yk),int i64 (C3 xg yg)] 3)) ((Blk.cell (Blk.new W _ _) 0).trans rfl) ((Blk.cell (Blk.new W _ _) 1).trans rfl) ((Blk.cell (Blk.new W _ _) 2).trans rfl));rw[HR.out]at HC;have HE:=hid (show∃q os,W.alloc (.cells #[int i64 (C3 xs ys),int i64 (C3 xk yk),int i64 (C3 xg yg)] 3)=grow (w.drewN q) os from by rw[HW.out];exact⟨1,_,grow3 _ _ _ _⟩);go_wp2_with (go_at_call 185;refine HC.out.mono ?_;rintro e w' ⟨rfl,rfl⟩)
 go_ret
 exact⟨rfl,HE.out⟩
theorem LA(blk off size:Nat)(w:World):CmpLays Tryz.prog 184 #[] Bn 9 cfR blk off size w:=fun _ _ _ _ x y => Kx x y _
end Go.Proofs.YthbljikbnoghcaaGreat
namespace Go.Proofs.YthbljikbnoghcaaGreat
open Go.RowKit Go.Lib Go.Sort
def Bl(a b:Ag):Bool:=decide (a.seq<b.seq∨(a.seq=b.seq∧(a.kind<b.kind∨(a.kind=b.kind∧a.group<b.group))))
theorem IK {a b:Ag}:Bl a b=true↔(a.seq<b.seq∨(a.seq=b.seq∧(a.kind<b.kind∨(a.kind=b.kind∧a.group<b.group)))):=by unfold Bl;simp
theorem IJ {a b:Ag}:Bl a b=false↔¬(a.seq<b.seq∨(a.seq=b.seq∧(a.kind<b.kind∨(a.kind=b.kind∧a.group<b.group)))):=by unfold Bl;simp
def insF(out:List Ag)(r:Ag):List Ag:=(out.reverse.dropWhile (Bl r)).reverse ++ r ::(out.reverse.takeWhile (Bl r)).reverse
theorem FE {α:Type} {p:α→Bool}:∀(A B:List α),(∀x,x∈A→p x=true)→(∀x,B.head? =some x→p x=false)→(A ++ B).takeWhile p=A∧(A ++ B).dropWhile p=B
 | [],[],_,_ =>⟨rfl,rfl⟩
 | [],b :: B,_,h => by
  have:=h b rfl;simp[this]
 |a :: A,B,h,h2 => by
  have ha:=h a (by simp);have:=FE A B (fun x hx => h x (by simp[hx])) h2;simp[ha,this]
theorem insF_at {out:List Ag} {r:Ag} {k:Nat}(hk:k≤out.length)(h1:∀q,(hq:q<out.length)→k≤q→Bl r out[q] =true)(h2:k=0∨∃(hk1:k - 1<out.length),Bl r out[k - 1] =false):insF out r=out.take k ++ r :: out.drop k:=by
 have e:out.reverse=(out.drop k).reverse ++(out.take k).reverse:=by
  rw[← List.reverse_append,List.take_append_drop]
 have:=FE (p:=Bl r) (out.drop k).reverse (out.take k).reverse (fun x hx => by
  rw[List.mem_reverse]at hx;obtain⟨i,hi,rfl⟩:=List.getElem_of_mem hx;rw[List.getElem_drop];exact h1 _ _ (by omega)) (fun x hx => by
  rw[List.head?_reverse]at hx;rcases h2 with rfl|⟨hk1,h2⟩
  ·simp at hx
  ·by_cases h0:k=0
   ·subst h0;simp at hx
   ·rw[List.getLast?_eq_getElem?,List.length_take,Nat.min_eq_left hk,List.getElem?_take,if_pos (by omega),List.getElem?_eq_getElem hk1]at hx;injection hx with hx
    rw[← hx];exact h2)
 unfold insF;rw[e,this.1,this.2,List.reverse_reverse,List.reverse_reverse]
def EX(out:List Ag)(r:Ag):Bool:=out.any fun x => decide (x=r)
theorem I1 {out:List Ag} {r:Ag}:EX out r=true↔r∈out:=by
 unfold EX;rw[List.any_eq_true];constructor
 ·rintro⟨x,hx,h⟩;rwa [← of_decide_eq_true h]
 ·intro h;exact⟨r,h,by simp⟩
def EQ(out:List Ag)(r:Ag):List Ag:=if EX out r then out else insF out r
def F7(out:List Ag)(r:Ag):List Ag:=if EX out r then out else out ++ [r]
def Cy(all:List Ag):List Ag:=all.foldl EQ []
def BS(all:List Ag):List Ag:=all.foldl F7 []
theorem JG(l:List Ag)(r:Ag):Cy (l ++ [r])=EQ (Cy l) r:=by unfold Cy;rw[List.foldl_append];rfl
theorem FP(l:List Ag)(r:Ag):BS (l ++ [r])=F7 (BS l) r:=by unfold BS;rw[List.foldl_append];rfl
def ltT(x y:Ag × Nat):Bool:=ltI (fun a b => Bl a.1 b.1) Prod.snd x y
theorem swoD:SWO (fun a b:Ag × Nat => Bl a.1 b.1) where
 irrefl x:=by show Bl _ _=false;rw[IJ];omega
 trans x y z h1 h2:=by
  have h1:Bl _ _=true:=h1;have h2:Bl _ _=true:=h2;show Bl _ _=true
  rw[IK]at *;omega
 ntrans x y z h1 h2:=by
  have h1:Bl _ _=false:=h1;have h2:Bl _ _=false:=h2;show Bl _ _=false
  rw[IJ]at *;omega
def Ord(S:List (Ag × Nat)):Prop:=S.Pairwise fun x y => ltT y x=false
theorem Ord.insert {S:List (Ag × Nat)} {r:Ag} {n:Nat}(h:Ord S)(hn:∀x,x∈S→x.2<n):∃S',S'.map Prod.fst=insF (S.map Prod.fst) r∧S'.Perm (S ++ [(r,n)])∧Ord S':=by
 -- where it goes
 have key:∃k,k≤S.length∧(∀q,(hq:q<S.length)→k≤q→Bl r S[q].1=true)∧(k=0∨∃(hk1:k - 1<S.length),Bl r S[k - 1].1=false):=by
  have:∀m,m≤S.length→(∀q,(hq:q<S.length)→m≤q→Bl r S[q].1=true)→∃k,k≤m∧(∀q,(hq:q<S.length)→k≤q→Bl r S[q].1=true)∧(k=0∨∃(hk1:k - 1<S.length),Bl r S[k - 1].1=false):=by
   intro m;induction m with
   |zero => intro _ h;exact⟨0,Nat.le_refl _,h,.inl rfl⟩
   |succ m ih =>
    intro hm hq;cases hc:Bl r (S[m]'(by omega)).1 with
    |false => exact⟨m+1,Nat.le_refl _,hq,.inr ⟨by omega,by simpa using hc⟩⟩
    |true =>
     obtain⟨k,k1,k2,k3⟩:=ih (by omega) (fun q hq2 hmq => by
      by_cases e:q=m
      ·subst e;exact hc
      ·exact hq q hq2 (by omega))
     exact⟨k,by omega,k2,k3⟩
  obtain⟨k,k1,k2,k3⟩:=this S.length (Nat.le_refl _) (fun q hq h => by omega);exact⟨k,k1,k2,k3⟩
 obtain⟨k,hk,h1,h2⟩:=key;refine⟨S.take k ++(r,n) :: S.drop k,?_,?_,?_⟩
 ·rw[insF_at (k:=k) (by simpa using hk) (fun q hq hkq => by simpa using h1 q (by simpa using hq) hkq) (by
   rcases h2 with h2|⟨a,b⟩
   ·exact .inl h2
   ·exact .inr ⟨by simpa using a,by simpa using b⟩)]
  simp[List.map_take,List.map_drop]
 ·have:(S.take k ++(r,n) :: S.drop k).Perm ((r,n) ::(S.take k ++ S.drop k)):=List.perm_middle;rw[List.take_append_drop]at this;exact this.trans (List.perm_append_comm (l₁:=[(r,n)]) (l₂:=S))
 ·unfold Ord;have hS:=h;unfold Ord at hS;rw[← List.take_append_drop k S,List.pairwise_append]at hS;obtain⟨p1,p2,p3⟩:=hS;have nolt:∀x,x∈S.take k→ltT (r,n) x=false:=fun x hx => by
   have hxS:x∈S:=List.mem_of_mem_take hx;have e:ltT (r,n) x=Bl r x.1:=GB (hn x hxS);rw[e];rcases h2 with rfl|⟨a,b⟩
   ·simp at hx
   obtain⟨i,hi,rfl⟩:=List.getElem_of_mem hx;rw[List.length_take]at hi;rw[List.getElem_take];by_cases e2:i=k - 1
   ·subst e2;exact b
   ·have hp:=List.pairwise_iff_getElem.1 h i (k - 1) (by omega) a (by omega);exact swoD.ntrans (r,n) S[k - 1] S[i] b (Cp.1 hp).1
  rw[List.pairwise_append];refine⟨p1,?_,?_⟩
  ·rw[List.pairwise_cons];refine⟨fun x hx => ?_,p2⟩;obtain⟨i,hi,rfl⟩:=List.getElem_of_mem hx;rw[List.length_drop]at hi;rw[List.getElem_drop];have:=h1 (k+i) (by omega) (by omega);have hsy:=Ja (lt:=fun a b:Ag × Nat => Bl a.1 b.1) swoD (x:=(r,n)) (y:=S[k+i]) this;exact Cp.2 ⟨hsy,.inl this⟩
  ·intro x hx y hy;rcases List.mem_cons.1 hy with rfl|hy
   ·exact nolt x hx
   ·exact p3 x hx y hy
theorem EK:∀(n:Nat) (all:List Ag),all.length=n→∃S:List (Ag × Nat),S.map Prod.fst=Cy all∧S.Perm (BS all).zipIdx∧Ord S
 |0,all,hn => by
  obtain rfl:=List.eq_nil_of_length_eq_zero hn;exact⟨[],rfl,List.Perm.refl _,List.Pairwise.nil⟩
 |n+1,all,hn => by
  obtain⟨l,r,rfl⟩:∃l r,all=l ++ [r]:=⟨all.dropLast,all.getLast (by intro h;subst h;simp at hn),(List.dropLast_concat_getLast _).symm⟩;obtain⟨S,h1,h2,h3⟩:=EK n l (by simpa using hn);rw[JG,FP,← h1];have hm:∀x,x∈S.map Prod.fst↔x∈BS l:=fun x => by
   have:=(h2.map Prod.fst).mem_iff (a:=x);rw[this];simp[List.zipIdx_map_fst]
  have hh:EX (S.map Prod.fst) r=EX (BS l) r:=by
   rw[Bool.eq_iff_iff,I1,I1];exact hm r
  unfold EQ F7;rw[hh];cases hc:EX (BS l) r with
  |true => exact⟨S,by simp,by simpa using h2,h3⟩
  |false =>
   obtain⟨S',q1,q2,q3⟩:=h3.insert (r:=r) (n:=(BS l).length) (fun x hx => by
    have:=(h2.mem_iff (a:=x)).1 hx;have:=List.snd_lt_of_mem_zipIdx this;simpa using this)
   refine⟨S',by simpa using q1,?_,q3⟩;simp only[Bool.false_eq_true,if_false];rw[List.zipIdx_append];exact q2.trans (by simpa using h2.append_right [(r,(BS l).length)])
theorem IU {all:List Ag} {L:List (Ag × Nat)}(hp:L.Perm (BS all).zipIdx)(ho:Ord L):L.map Prod.fst=Cy all:=by
 obtain⟨S,h1,h2,h3⟩:=EK _ all rfl;rw[← h1];congr 1
 refine List.Perm.eq_of_pairwise (le:=fun x y => ltT y x=false) ?_ ho h3 (hp.trans h2.symm);intro a b ha hb h4 h5;have e:a.2=b.2:=by
  obtain⟨q1,q2⟩:=Cp.1 h4;obtain⟨q3,q4⟩:=Cp.1 h5;rcases q2 with q2|q2
  ·rw[q3]at q2;cases q2
  rcases q4 with q4|q4
  ·rw[q1]at q4;cases q4
  omega
 have ha2:=hp.mem_iff.1 ha;have hb2:=h2.mem_iff.1 hb;obtain⟨a1,a2⟩:=a;obtain⟨b1,b2⟩:=b;simp only at e;subst e;have r1:=List.mem_zipIdx_iff_getElem?.1 ha2;have r2:=List.mem_zipIdx_iff_getElem?.1 hb2;rw[r1]at r2;injection r2 with r2
 simp only at r2;rw[r2]
end Go.Proofs.YthbljikbnoghcaaGreat
namespace Go.Proofs.YthbljikbnoghcaaGreat
open Go.Shelf Go.RowKit Go.Lib Go.Sort
instance:Inhabited Ag:=⟨⟨0,0,⟨#[]⟩,0,0,0,[],[],[]⟩⟩
theorem SWK.belowB {α:Type} [Inhabited α] {enc:α→List Value} {k:Nat} {w0 W:World} {blk off:Nat} {dk:Array α}(h:SWK enc k w0 blk off dk W)(hb:blk<w0.heap.size):Below blk w0 W:=by
 obtain⟨n,os,rfl⟩:=h;have hs:(putRowK enc k (Sort.ahead w0 n) blk off dk).heap.size =w0.heap.size:=by rw[size_putRowK];rfl
 refine⟨rfl,rfl,rfl,by unfold sortWorldK;rw[size_grow,hs];omega,fun j hj => ?_⟩;unfold sortWorldK;rw[heap_grow_old _ os (show j<_ by rw[hs];omega)];show(mapBlock (Sort.ahead w0 n) blk _).heap[j]? =_
 unfold mapBlock;simp only[Array.getElem?_modify];rw[if_neg (by omega)];rfl
theorem Ac.encoded {w:World} {f:List Addr} {cs:List Value} {d:Ag}(h:Ac w f cs d)(i:Nat):∃x:BI,Bn x=cs∧x.at_=i∧x.kind=d.kind∧x.seq=d.seq∧x.group=d.group:=by
 obtain⟨v0,v1,v2,f0,f1,f2,rfl,-,-,-,-,-,-,-,h0,h1,h2⟩:=h;obtain⟨A0,c0,rfl,-⟩:=rSl.head h0;obtain⟨A1,c1,rfl,-⟩:=rSl.head h1;obtain⟨A2,c2,rfl,-⟩:=rSl.head h2;exact⟨⟨d.kind,d.seq,d.name,d.length,d.group,d.row,(A0,d.rows.length,c0),(A1,d.data.length,c1),(A2,d.delta.length,c2),i⟩,rfl,rfl,rfl,rfl,rfl⟩
theorem Ls {w:World} {base g n c:Nat} {E:TypeId} {all:List Ag} {fs:List Addr}(ho:Aj 9 E Ac w base (.slice (some ⟨g,0,none⟩) n c) (BS all) fs)(hn:n=(BS all).length)(hsm:n<1000000000000)(hbg:base≤g)(hg:g<w.heap.size)(hfs:∀a,a∈fs→a.block<base) :
  Calls Tryz.prog 183 #[.slice (some ⟨g,0,none⟩) n c,.func (.func 184) #[] #[]] w fun e w' => e= .returned (.tuple #[])∧∃fs',rSl 9 Ac w' fs' (.slice (some ⟨g,0,none⟩) n c) (Cy all)∧(∀a,a∈fs'→a∈fs∨a.block=g)∧Below base w w':=by
 obtain⟨ds,hds⟩:∃ds,BS all=ds:=⟨_,rfl⟩;rw[hds]at ho hn;have hthere:=Aj.there Ac.fixed ho;obtain⟨css,fss,h1,h2,rfl,h4,h5,h6⟩:=ho;have hw:∀c,c∈css→c.length=9:=by
  intro c hc;obtain⟨i,hi,rfl⟩:=List.getElem_of_mem hc;obtain⟨_,_,p3,_⟩:=h5 i (by omega);exact p3
 -- the rows as the sort has them
 have hex:∀i:Fin n,∃x:BI,Bn x=css[i.1]'(by omega)∧x.at_=i.1∧x.kind=(ds[i.1]'(by omega)).kind∧x.seq=(ds[i.1]'(by omega)).seq∧x.group=(ds[i.1]'(by omega)).group:=fun i => by
  obtain⟨p1,p2,p3,p4⟩:=h5 i.1 (by omega);exact Ac.encoded p4 i.1
 obtain⟨X,hX⟩:=Classical.axiomOfChoice hex;obtain⟨d,hd⟩:∃d:Array BI,d=Array.ofFn X:=⟨_,rfl⟩;have hdz:d.size=n:=by rw[hd];simp
 have hdi:∀i,(hi:i<n)→d[i]! =X ⟨i,hi⟩:=fun i hi => by
  rw[getElem!_pos d i (by omega)];simp[hd]
 -- they lie there
 have hcells:∀i j,(hi:i<n)→j<9→w.cell? ⟨g,i * 9+j,none⟩=some (Bn d[i]!)[j]!∧w.frozen? ⟨g,i * 9+j,none⟩=false:=fun i j hi hj => by
  obtain⟨hl,ht⟩:=h4;rcases ht with⟨e,_⟩|⟨g',cap,cur,e,q1,q2,q3,q4,q5,q6⟩
  ·cases e
  ·injection e with e1 e2 e3
   injection e1 with e1
   injection e1 with e1 _ _
   subst e1;have hblk:Blk w g E cur:=q2;refine⟨?_,hblk.frozen _⟩;rw[hblk.cell];have hij:i * 9+j<ds.length * 9:=by omega
   have e7:=CY css hw i j (by omega) hj;rw[← q6,List.getElem?_take,if_pos hij]at e7;rw[Array.getElem?_toList]at e7;rw[e7,(show css[i]'(by omega)=Bn d[i]! by rw[hdi i hi];exact(hX ⟨i,hi⟩).1.symm)];have:j<(Bn d[i]!).length:=by rw[BD];exact hj
   rw[List.getElem?_eq_getElem this,getElem!_pos _ j this]
 have R:RowK Bn 9 w g 0 d:=⟨BD,D8,fun t ht => by
  rw[size_flatK,hdz]at ht;rw[get_flatK _ _ _ _ (by rw[hdz];exact ht)];have:=hcells (t / 9) (t % 9) (by omega) (Nat.mod_lt _ (by omega));rw[show t / 9 * 9+t % 9=t by omega]at this;simpa using this,hg⟩
 refine(Js 9 Any2.zR Bn cfR BI.at_ 184 #[] g 0 c n d w (enters_of Tryz.func184 (by kernel_rfl) rfl) (LA _ _ _ _) ltR_swo R hdz (fun i hi => by rw[hdi i hi];exact(hX ⟨i,hi⟩).2.1) hsm).mono ?_;rintro e w' ⟨rfl,d',hS,hP,hO⟩;have hB:Below base w w':=(SWK.belowB hS hg).mono hbg;have hz':d'.size=n:=hP.1.trans hdz;have hH:=hS.holds hg R.hH (hz'.trans hdz.symm)
 -- what each of them is
 have hmem:∀i,i<n→∃q,∃hq:q<n,d'[i]! =X ⟨q,hq⟩:=fun i hi => permIn_all d d' 0 n (fun x =>∃q,∃hq:q<n,x=X ⟨q,hq⟩) (by omega) hP (fun q _ hq =>⟨q,hq,hdi q hq⟩) i (Nat.zero_le _) hi
 let φ:BI→Ag × Nat:=fun x =>(ds.getD x.at_ default,x.at_)
 have hφ:∀q,(hq:q<n)→φ (X ⟨q,hq⟩)=(ds[q]'(by omega),q):=fun q hq => by
  have:=(hX ⟨q,hq⟩).2.1;show(ds.getD (X ⟨q,hq⟩).at_ default,(X ⟨q,hq⟩).at_)=_
  rw[this];simp[List.getD_eq_getElem?_getD,show q<ds.length by omega]
 have hlt:∀p q,(hp:p<n)→(hq:q<n)→ltOf cfR (X ⟨p,hp⟩) (X ⟨q,hq⟩)=Bl (ds[p]'(by omega)) (ds[q]'(by omega)):=fun p q hp hq => by
  obtain⟨-,-,k1,s1,g1⟩:=hX ⟨p,hp⟩;obtain⟨-,-,k2,s2,g2⟩:=hX ⟨q,hq⟩;rw[Bool.eq_iff_iff,Hm,IK,k1,s1,g1,k2,s2,g2]
 have hperm:(d'.toList.map φ).Perm (BS all).zipIdx:=by
  have e1:(d'.extract 0 n).toList =d'.toList:=by rw[← hz',Array.extract_size]
  have e2:(d.extract 0 n).toList =d.toList:=by rw[← hdz,Array.extract_size]
  have:=hP.2.2;rw[e1,e2]at this;refine(this.map φ).trans ?_;have:d.toList.map φ=ds.zipIdx:=by
   apply List.ext_getElem
   ·simp[hdz,hn]
   ·intro i hi1 hi2;have hin:i<n:=by simp[hdz]at hi1;exact hi1
    rw[List.getElem_map,List.getElem_zipIdx];have:d.toList[i]'(by simpa using hi1)=X ⟨i,hin⟩:=by
     rw[← hdi i hin,getElem!_pos d i (by omega)];simp
    rw[this,hφ i hin];simp
  rw[this,hds]
 have hord:Ord (d'.toList.map φ):=by
  unfold Ord;rw[List.pairwise_iff_getElem];intro i j hi hj hij;have hin:i<n:=by simp[hz']at hi;omega
  have hjn:j<n:=by simp[hz']at hj;omega
  have:=hO i j (Nat.zero_le _) hij hjn;obtain⟨p,hp,ep⟩:=hmem i hin;obtain⟨q,hq,eq⟩:=hmem j hjn;rw[List.getElem_map,List.getElem_map];have e1:d'.toList[i]'(by simpa using hi)=d'[i]!:=by rw[getElem!_pos d' i (by omega)];simp
  have e2:d'.toList[j]'(by simpa using hj)=d'[j]!:=by rw[getElem!_pos d' j (by omega)];simp
  rw[e1,e2,ep,eq,hφ p hp,hφ q hq];rw[ep,eq,Cp,hlt q p hq hp,hlt p q hp hq,(hX ⟨p,hp⟩).2.1,(hX ⟨q,hq⟩).2.1]at this;exact Cp.2 this
 have hcount:=IU hperm hord;have hlen:(Cy all).length =n:=by rw[← hcount];simp[hz']
 have hget:∀i,(hi:i<n)→∃q,∃hq:q<n,d'[i]! =X ⟨q,hq⟩∧(Cy all)[i]'(by omega)=ds[q]'(by omega):=fun i hi => by
  obtain⟨q,hq,e⟩:=hmem i hi;refine⟨q,hq,e,?_⟩;have:(Cy all)[i]? =some (ds[q]'(by omega)):=by
   rw[← hcount,List.map_map,List.getElem?_map,Array.getElem?_toList,Array.getElem?_eq_getElem (by omega)];rw[getElem!_pos d' i (by omega)]at e;simp only[Option.map_some,Function.comp,e,hφ q hq]
  rw[List.getElem?_eq_getElem (by omega)]at this;injection this
 have hcn:n≤c∧c≤9223372036854775807:=by
  obtain⟨hl,ht⟩:=h4;rcases ht with⟨e,_⟩|⟨g',cap,cur,e,q1,q2,q3,q4,q5,q6⟩
  ·cases e
  ·injection e with e1 e2 e3
   simp only[maxLen]at q4;omega
 refine⟨rfl,Az ⟨g,0,none⟩ ((Cy all).length * 9) ++(d'.toList.map fun x => fss.getD x.at_ []).flatten,⟨some ⟨g,0,none⟩,c,by rw[hlen],by omega,hcn.2,.inr ⟨⟨g,0,none⟩,d'.toList.map Bn,d'.toList.map fun x => fss.getD x.at_ [],rfl,by simp[hz',hlen],by simp[hz',hlen],rfl,fun i hi => ?_⟩⟩,fun a ha => ?_,hB⟩;rotate_left
 ·rcases List.mem_append.1 ha with ha|ha
  ·obtain⟨k,_,rfl⟩:=AY.1 ha;exact .inr (by rw[BG])
  ·obtain⟨l,hl,hal⟩:=List.mem_flatten.1 ha;obtain⟨x,-,rfl⟩:=List.mem_map.1 hl;refine .inl (List.mem_flatten.2 ⟨_,?_,hal⟩);by_cases q:x.at_<fss.length
   ·simp[List.getD_eq_getElem?_getD,q]
   ·simp[List.getD_eq_getElem?_getD,q]at hal
 rw[hlen]at hi;obtain⟨q,hq,e,ec⟩:=hget i hi;have hdl:d'.toList[i]'(by simp[hz'];exact hi)=X ⟨q,hq⟩:=by
  rw[← e,getElem!_pos d' i (by omega)];simp
 refine⟨by simp[hz'];exact hi,by simp[hz'];exact hi,by simp[BD],fun j hj => ?_,?_⟩
 ·have hj9:j<9:=by simpa [BD]using hj
  have:=(HoldsK.cell hH (i:=i) (c:=j) (by omega) hj9).1;rw[BG];simp only[Nat.zero_add]at this;rw[this];simp only[List.getElem_map,hdl];rw[e,getElem!_pos _ j (by rw[BD];exact hj9)]
 ·rw[ec];simp only[List.getElem_map,hdl];obtain⟨p1,p2,p3,p4⟩:=h5 q (by omega);rw[(hX ⟨q,hq⟩).1,(hX ⟨q,hq⟩).2.1];have e9:fss.getD q [] =fss[q]:=by simp[List.getD_eq_getElem?_getD,p2]
  rw[e9];exact Ac.local_ _ _ _ _ _ p4 (AT.of_below (fun a ha => hfs a (List.mem_flatten.2 ⟨_,List.getElem_mem p2,ha⟩)) hB)
end Go.Proofs.YthbljikbnoghcaaGreat
