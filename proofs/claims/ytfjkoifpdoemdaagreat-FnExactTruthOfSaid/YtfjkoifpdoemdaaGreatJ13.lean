/- Part 13 of the proof. -/
import Derived.Test.YtfjkoifpdoemdaaGreatJ12
import Derived.Test.YtfjkoifpdoemdaaGreatJ00
import Derived.Deep.RegionLaw
import Derived.Test.YtfjkoifpdoemdaaGreatJ01
import Derived.Lib.SliceRun
set_option maxHeartbeats 8000000
set_option maxRecDepth 100000
set_option linter.unusedVariables false
set_option linter.unusedSimpArgs false
open Go.Proofs.Tryz
open Go.Value (int)
open Go.IntKind (i64)
namespace Go.Proofs.YtfjkoifpdoemdaaGreat
open Go.RowKit
theorem wrap64 {x:Nat}(h:x<65536):IntKind.i64.wrap (x:Int)=x:=by
 simp[IntKind.wrap,IntKind.bits,IntKind.signed];omega
theorem Ie {x y:Nat}(hx:x<65536)(hy:y<65536):bits .xor .i64 (x:Int) (y:Int)=((x ^^^ y:Nat):Int):=by
 have e:(BitVec.ofInt 64 (x:Int) ^^^ BitVec.ofInt 64 (y:Int)).toNat =x ^^^ y:=by
  rw[BitVec.ofInt_natCast,BitVec.ofInt_natCast,BitVec.toNat_xor,BitVec.toNat_ofNat,BitVec.toNat_ofNat,Nat.mod_eq_of_lt (by omega),Nat.mod_eq_of_lt (by omega)]
 show IntKind.i64.wrap (((BitVec.ofInt 64 (x:Int) ^^^ BitVec.ofInt 64 (y:Int)).toNat:Nat):Int)=_
 rw[e];exact wrap64 (Nat.xor_lt_two_pow (n:=16) hx hy)
theorem Q9(k a b:Nat)(h:k<8):C6 (8 - k) a (b / 2 ^ k)=(if b / 2 ^ k % 2=1 then a else 0) ^^^ C6 (8 - (k+1)) (xt a) (b / 2 ^ (k+1)):=by
 rw[show 8 - k=(8 - (k+1))+1 from by omega,C6,Nat.div_div_eq_div_mul,Nat.pow_succ]
theorem KT(a b:Nat)(ha:a<256)(hb:b<256)(w:World) :
  Calls prog 237 #[.int .u8 (a:Int),.int .u8 (b:Int)] w fun e w' => e= .returned (.int .u8 ((DN a b:Nat):Int))∧w=w':=by
 obtain⟨R,hR⟩:∃R,C6 8 a b=R:=⟨_,rfl⟩;unfold DN;rw[hR];have HR:=U hR;clear hR;go_enter func237,ntmps237
 go_wp2
 go_loop [5,6,7] (fun o x i =>∃p k r:Nat,p<256∧k≤8∧r<256∧x= int i64 p∧i= int i64 k∧o= int i64 r∧r ^^^ C6 (8 - k) p (b / 2 ^ k)=R) (fun _ _ i => 8 - (intOf i).toNat)
 case atStart => exact⟨a,0,0,ha,by omega,by omega,rfl,rfl,rfl,by rw[Nat.zero_xor];simpa using HR.o⟩
 case round =>
  obtain⟨p,k,r,hp,hk,hr,rfl,rfl,rfl,hi⟩:=hrel;have HI:=U hi;clear hi;by_cases h0:k<8
  ·have h1:(k:Int)<8:=by omega
   have hs:=Q9 k p b h0;have hx:=Ie (show r<65536 by omega) (show p<65536 by omega);have hbk:b / 2 ^ k<256:=Nat.lt_of_le_of_lt (Nat.div_le_self _ _) hb;have eb:((b / 2 ^ k:Nat):Int)=(b:Int) / 2 ^ k:=by rw[Int.natCast_ediv,Int.natCast_pow];rfl
   have HS:=U hs;clear hs;by_cases hq2:b / 2 ^ k % 2=1
   all_goals by_cases hp2:p<128
   ·have ha1:bits .and .u8 ((b:Int) / 2 ^ k) 1=1:=by rw[← eb];exact(Da hbk (show 1<256 by omega)).trans (by rw[Nat.and_one_is_mod,hq2];rfl)
    have ha2:¬(255:Int)<2 * (p:Int):=by omega
    clear eb;go_wp2_with fail
    go_round
    case rel => exact⟨xt p,k+1,r ^^^ p,EY hp,by omega,Ed hr hp,by rw[xt,aL hp2];rfl,by go_num,by first|rfl|rw[hx],by have:=HI.o;rw[HS.o,aL hq2,← Nat.xor_assoc]at this;exact this⟩
    case measure => simp[intOf];omega
   ·have ha1:bits .and .u8 ((b:Int) / 2 ^ k) 1=1:=by rw[← eb];exact(Da hbk (show 1<256 by omega)).trans (by rw[Nat.and_one_is_mod,hq2];rfl)
    have ha2:(255:Int)<2 * (p:Int):=by omega
    have hx2:bits .xor .i64 (2 * (p:Int)) 285=((xt p:Nat):Int):=by
     have:=Ie (show 2 * p<65536 by omega) (show 285<65536 by omega);rw[xt,aI hp2];exact this
    clear eb;go_wp2_with fail
    go_round
    case rel => exact⟨xt p,k+1,r ^^^ p,EY hp,by omega,Ed hr hp,by first|rfl|rw[hx2],by go_num,by first|rfl|rw[hx],by have:=HI.o;rw[HS.o,aL hq2,← Nat.xor_assoc]at this;exact this⟩
    case measure => simp[intOf];omega
   ·have ha1:bits .and .u8 ((b:Int) / 2 ^ k) 1=0:=by rw[← eb];exact(Da hbk (show 1<256 by omega)).trans (by rw[Nat.and_one_is_mod,show b / 2 ^ k % 2=0 by omega];rfl)
    have ha2:¬(255:Int)<2 * (p:Int):=by omega
    clear eb;go_wp2_with fail
    go_round
    case rel => exact⟨xt p,k+1,r,EY hp,by omega,hr,by rw[xt,aL hp2];rfl,by go_num,rfl,by have:=HI.o;rw[HS.o,aI hq2,Nat.zero_xor]at this;exact this⟩
    case measure => simp[intOf];omega
   ·have ha1:bits .and .u8 ((b:Int) / 2 ^ k) 1=0:=by rw[← eb];exact(Da hbk (show 1<256 by omega)).trans (by rw[Nat.and_one_is_mod,show b / 2 ^ k % 2=0 by omega];rfl)
    have ha2:(255:Int)<2 * (p:Int):=by omega
    have hx2:bits .xor .i64 (2 * (p:Int)) 285=((xt p:Nat):Int):=by
     have:=Ie (show 2 * p<65536 by omega) (show 285<65536 by omega);rw[xt,aI hp2];exact this
    clear eb;go_wp2_with fail
    go_round
    case rel => exact⟨xt p,k+1,r,EY hp,by omega,hr,by first|rfl|rw[hx2],by go_num,rfl,by have:=HI.o;rw[HS.o,aI hq2,Nat.zero_xor]at this;exact this⟩
    case measure => simp[intOf];omega
  ·obtain rfl:k=8:=by omega
   have h:=HI.o;rw[show 8 - 8=0 from rfl,C6,Nat.xor_zero]at h;subst h;go_wp2
   go_ret
   exact⟨rfl,rfl⟩
def Ds(a:Nat):Nat→Nat × Nat
 |0 =>(1,a)
 |k+1 => let s:=Ds a k;(if 254 / 2 ^ k % 2=1 then DN s.1 s.2 else s.1,DN s.2 s.2)
def D4(a:Nat):Nat:=(Ds a 8).1
theorem LB {a:Nat}(h:a<256):∀k,(Ds a k).1<256∧(Ds a k).2<256
 |0 =>⟨by simp[Ds],h⟩
 |k+1 => by
  obtain⟨h1,h2⟩:=LB h k;refine⟨?_,Jt _ _ h2⟩;simp only[Ds];split
  ·exact Jt _ _ h1
  ·exact h1
theorem Lp {a:Nat}(h:a<256):D4 a<256:=(LB h 8).1
def Ix(a:Nat):Nat→Nat
 |0 => 1
 |k+1 => DN (Ix a k) a
theorem OD {a:Nat}:∀k,Ix a k<256
 |0 => by simp[Ix]
 |k+1 => Jt _ _ (OD k)
def gp:Nat→Nat
 |0 => 1
 |i+1 => xt (gp i)
def logT:List Nat:=[0,0,1,25,2,50,26,198,3,223,51,238,27,104,199,75,4,100,224,14,52,141,239,129,28,193,105,248,200,8,76,113,5,138,101,47,225,36,15,33,53,147,142,218,240,18,130,69,29,181,194,125,106,39,249,185,201,154,9,120,77,228,114,166,6,191,139,98,102,221,48,253,226,152,37,179,16,145,34,136,54,208,148,206,143,150,219,189,241,210,19,92,131,56,70,64,30,66,182,163,195,72,126,110,107,58,40,84,250,133,186,61,202,94,155,159,10,21,121,43,78,212,229,172,115,243,167,87,7,112,192,247,140,128,99,13,103,74,222,237,49,197,254,24,227,165,153,119,38,184,180,124,17,68,146,217,35,32,137,46,55,63,209,91,149,188,207,205,144,135,151,178,220,252,190,97,242,86,211,171,20,42,93,158,132,60,57,83,71,109,65,162,31,45,67,216,183,123,164,118,196,23,73,236,127,12,111,246,108,161,59,82,41,157,85,170,251,96,134,177,187,204,62,90,203,89,95,176,156,169,160,81,11,245,22,235,122,117,44,215,79,174,213,233,230,231,173,232,116,214,244,234,168,80,88,175]
theorem gp_log:∀a,a<256→a≠0→gp (logT.getD a 0)=a:=by decide +kernel
theorem top7:∀a,a<256→(a<128↔a.testBit 7=false):=by decide +kernel
theorem dbl(a b:Nat):2 * (a ^^^ b)=(2 * a) ^^^ (2 * b):=by
 have:=Nat.shiftLeft_xor_distrib (a:=a) (b:=b) (i:=1);simpa [Nat.shiftLeft_eq,Nat.mul_comm]using this
theorem xt_lin {a b:Nat}(ha:a<256)(hb:b<256):xt (a ^^^ b)=xt a ^^^ xt b:=by
 have hab:a ^^^ b<256:=Nat.xor_lt_two_pow (n:=8) ha hb;have h:=top7 (a ^^^ b) hab;rw[Nat.testBit_xor]at h;have h1:=top7 a ha;have h2:=top7 b hb;unfold xt;rw[dbl];cases e1:a.testBit 7 <;> cases e2:b.testBit 7 <;> simp only[e1,e2]at h h1 h2
 all_goals simp at h h1 h2
 ·rw[aL h,aL h1,aL h2]
 ·rw[aI (by omega),aL h1,aI (by omega),Nat.xor_assoc]
 ·rw[aI (by omega),aI (by omega),aL h2,Nat.xor_assoc,Nat.xor_assoc,Nat.xor_comm 285]
 ·rw[aL h,aI (by omega),aI (by omega)];rw[show(2 * a ^^^ 285) ^^^ (2 * b ^^^ 285)=(2 * a ^^^ 2 * b) ^^^ (285 ^^^ 285)from by ac_rfl,Nat.xor_self,Nat.xor_zero]
theorem gp_lt:∀i,gp i<256
 |0 => by simp[gp]
 |i+1 => EY (gp_lt i)
theorem xt_zero:xt 0=0:=rfl
theorem Oz:∀(k a b:Nat),a<256→C6 k (xt a) b=xt (C6 k a b)
 |0,_,_,_ => rfl
 |k+1,a,b,h => by
  rw[C6,C6,Oz k (xt a) (b / 2) (EY h),xt_lin (by split <;> omega) (Ly _ _ _ (EY h))];split
  ·rfl
  ·rw[xt_zero]
theorem Nk {a:Nat}(h:a<256):DN 1 a=a:=by
 have:∀a,a<256→DN 1 a=a:=by decide +kernel
 exact this a h
theorem Oy {b:Nat}(hb:b<256):∀j,DN (gp j) b=(Nat.repeat xt j b)
 |0 => Nk hb
 |j+1 => by
  show C6 8 (xt (gp j)) b=xt (Nat.repeat xt j b)
  rw[Oz 8 _ _ (gp_lt j)];exact congrArg xt (Oy hb j)
theorem rep_gp(i:Nat):∀j,Nat.repeat xt j (gp i)=gp (i+j)
 |0 => rfl
 |j+1 => by
  show xt (Nat.repeat xt j (gp i))=xt (gp (i+j))
  rw[rep_gp i j]
theorem gp_mul(i j:Nat):DN (gp i) (gp j)=gp (i+j):=by
 rw[Oy (gp_lt j),rep_gp,Nat.add_comm]
theorem OC(i:Nat):∀k,Ix (gp i) k=gp (i * k)
 |0 => rfl
 |k+1 => by rw[Ix,OC i k,gp_mul,Nat.mul_succ]
def sqE:Nat→Nat × Nat
 |0 =>(0,1)
 |k+1 => let s:=sqE k;(if 254 / 2 ^ k % 2=1 then s.1+s.2 else s.1,s.2+s.2)
theorem OI(i:Nat):∀k,Ds (gp i) k=(gp (i * (sqE k).1),gp (i * (sqE k).2))
 |0 => by simp[Ds,sqE,gp]
 |k+1 => by
  simp only[Ds,sqE];rw[OI i k];simp only[gp_mul];split <;> simp[Nat.mul_add]
theorem repB_inv {a:Nat}(h:a<256)(h0:a≠0):Ix a 254=D4 a:=by
 have hg:=gp_log a h h0;rw[← hg,OC,D4,OI];have e:(sqE 8).1=254:=by decide +kernel
 rw[e]
theorem Qs:D4 0=0:=by decide +kernel
theorem Pb(a:Nat)(ha:a<256)(w:World) :
  Calls prog 313 #[.int .u8 (a:Int),int i64 254] w fun e w' => e= .returned (.int .u8 ((D4 a:Nat):Int))∧w=w':=by
 obtain⟨R,hR⟩:∃R,D4 a=R:=⟨_,rfl⟩;rw[hR];have HR:=U hR;clear hR;have HL:=U (LB ha);go_enter func313,ntmps313
 go_wp2
 go_loop [0,1,5] (fun x n o =>∃k:Nat,k≤8∧x= .int .u8 ((Ds a k).2:Nat)∧n= int i64 ((254 / 2 ^ k:Nat):Int)∧o= .int .u8 ((Ds a k).1:Nat)) (fun _ n _ =>(intOf n).toNat)
 case atStart => exact⟨0,by omega,rfl,rfl,rfl⟩
 case round =>
  obtain⟨k,hk,rfl,rfl,rfl⟩:=hrel;obtain⟨l1,l2⟩:=HL.o k;by_cases h0:k<8
  ·have hn0:0<254 / 2 ^ k:=by
    have:∀k,k<8→0<254 / 2 ^ k:=by decide
    exact this k h0
   obtain⟨n,hn⟩:∃n,254 / 2 ^ k=n:=⟨_,rfl⟩;have hnb:n<256:=by rw[← hn];exact Nat.lt_of_le_of_lt (Nat.div_le_self _ _) (by omega)
   have hs:Ds a (k+1)=(if n % 2=1 then DN (Ds a k).1 (Ds a k).2 else(Ds a k).1,DN (Ds a k).2 (Ds a k).2):=by rw[← hn];rfl
   have hn2:254 / 2 ^ (k+1)=n / 2:=by rw[← hn,Nat.div_div_eq_div_mul,Nat.pow_succ]
   rw[hn]at hn0⊢;obtain⟨o,ho⟩:∃o,(Ds a k).1=o:=⟨_,rfl⟩;obtain⟨x,hx⟩:∃x,(Ds a k).2=x:=⟨_,rfl⟩;rw[ho,hx]at hs;rw[ho]at l1;rw[hx]at l2;rw[ho,hx];have HS:=U hs;have HN:=U hn2;clear hs hn2 hn ho hx;have hn1:(0:Int)<(n:Int):=by omega
   have ea:bits .and .i64 (n:Int) 1=((n % 2:Nat):Int):=by
    have e:(BitVec.ofInt 64 (n:Int) &&& BitVec.ofInt 64 ((1:Nat):Int)).toNat =n % 2:=by
     rw[BitVec.ofInt_natCast,BitVec.ofInt_natCast,BitVec.toNat_and,BitVec.toNat_ofNat,BitVec.toNat_ofNat,Nat.mod_eq_of_lt (by omega),Nat.mod_eq_of_lt (by omega),Nat.and_one_is_mod]
    show IntKind.i64.wrap (((BitVec.ofInt 64 (n:Int) &&& BitVec.ofInt 64 ((1:Nat):Int)).toNat:Nat):Int)=_
    rw[e];exact wrap64 (by omega)
   by_cases h2:n % 2=1
   ·have ea1:bits .and .i64 (n:Int) 1=1:=by rw[ea,h2];rfl
    clear ea;go_wp2_with (refine(Gm _ _ (by assumption) (by assumption) _).mono ?_;rintro e w' ⟨rfl,rfl⟩)
    go_round
    case rel =>
     have e1:(Ds a (k+1)).2=DN x x:=by rw[HS.o]
     have e2:(Ds a (k+1)).1=DN o x:=by rw[HS.o];exact aL h2
     refine⟨k+1,by omega,?_,?_,?_⟩
     ·rw[e1]
     ·rw[HN.o,Int.natCast_ediv];rfl
     ·rw[e2]
    case measure => simp[intOf];omega
   ·have ea1:bits .and .i64 (n:Int) 1=0:=by rw[ea,show n % 2=0 by omega];rfl
    clear ea;go_wp2_with (refine(Gm _ _ (by assumption) (by assumption) _).mono ?_;rintro e w' ⟨rfl,rfl⟩)
    go_round
    case rel =>
     have e1:(Ds a (k+1)).2=DN x x:=by rw[HS.o]
     have e2:(Ds a (k+1)).1=o:=by rw[HS.o];exact aI h2
     refine⟨k+1,by omega,?_,?_,?_⟩
     ·rw[e1]
     ·rw[HN.o,Int.natCast_ediv];rfl
     ·rw[e2]
    case measure => simp[intOf];omega
  ·obtain rfl:k=8:=by omega
   have h:=HR.o;unfold D4 at h;rw[h];go_wp2
   go_ret
   exact⟨rfl,rfl⟩
theorem L8(a:Nat)(ha:a<256)(w:World) :
  Calls prog 238 #[.int .u8 (a:Int)] w fun e w' => e= .returned (.int .u8 ((D4 a:Nat):Int))∧w=w':=by
 have hp:Calls prog 282 #[.int .u8 (a:Int),int i64 254] w fun e w' => e= .returned (.int .u8 ((D4 a:Nat):Int))∧w=w':=by
  by_cases h0:a=0
  ·subst h0;rw[Qs];go_enter func282,ntmps282
   go_wp2
   go_ret
   exact⟨rfl,rfl⟩
  ·have h1:((a:Int) != 0)=true:=by simp;omega
   have h2:((a:Int) == 0)=false:=by simp;omega
   have hr:=repB_inv ha h0;obtain⟨R,hR⟩:∃R,D4 a=R:=⟨_,rfl⟩;rw[hR]at hr⊢;have HR:=U hr;clear hr hR;go_enter func282,ntmps282
   go_wp2
   go_loop [1,5] (fun n o =>∃k:Nat,k≤254∧n= int i64 ((254 - k:Nat):Int)∧o= .int .u8 ((Ix a k:Nat):Int)) (fun n _ =>(intOf n).toNat)
   case atStart => exact⟨0,by omega,rfl,rfl⟩
   case round =>
    obtain⟨k,hk,rfl,rfl⟩:=hrel;have hl:=OD (a:=a) k;by_cases h3:k<254
    ·obtain⟨n,hn⟩:∃n,254 - k=n:=⟨_,rfl⟩;rw[hn];have hn1:(0:Int)<(n:Int):=by omega
     have hnb:(n:Int)≤254:=by omega
     obtain⟨o,ho⟩:∃o,Ix a k=o:=⟨_,rfl⟩;rw[ho]at hl⊢;have HO:=U ho;have HN:=U hn;clear ho hn;go_wp2_with (refine(KT o a hl ha _).mono ?_;rintro e w' ⟨rfl,rfl⟩)
     go_round
     case rel => exact⟨k+1,by omega,by have:=HN.o;congr 1;omega,by rw[Ix,HO.o]⟩
     case measure => simp[intOf];omega
    ·obtain rfl:k=254:=by omega
     rw[HR.o];go_wp2
     go_ret
     exact⟨rfl,rfl⟩
 go_enter func238,ntmps238
 go_wp2_with (refine hp.mono ?_;rintro e w' ⟨rfl,rfl⟩)
 go_ret
 exact⟨rfl,rfl⟩
def ER(x y:UInt8):UInt8:=UInt8.ofNat (DN x.toNat y.toNat)
theorem GN(x:UInt8):x.toNat<256:=x.toNat_lt
theorem Iu(x y:UInt8):(ER x y).toNat =DN x.toNat y.toNat:=by
 unfold ER;rw[UInt8.toNat_ofNat'];exact Nat.mod_eq_of_lt (Jt _ _ (GN x))
theorem PU(x y:UInt8):(x ^^^ y).toNat =x.toNat ^^^ y.toNat:=UInt8.toNat_xor x y
theorem LF(x y:UInt8):bits .xor .u8 (x.toNat:Int) (y.toNat:Int)=((x ^^^ y).toNat:Int):=by
 rw[EZ (GN x) (GN y),PU]
theorem Qq(x y:UInt8)(w:World) :
  Calls prog 289 #[.int .u8 (x.toNat:Int),.int .u8 (y.toNat:Int)] w fun e w' => e= .returned (.int .u8 ((ER x y).toNat:Int))∧w=w':=by
 rw[Iu];exact Gm _ _ (GN x) (GN y) w
theorem Rn(x y:UInt8)(w:World) :
  Calls prog 237 #[.int .u8 (x.toNat:Int),.int .u8 (y.toNat:Int)] w fun e w' => e= .returned (.int .u8 ((ER x y).toNat:Int))∧w=w':=by
 rw[Iu];exact KT _ _ (GN x) (GN y) w
def DU(out l:List UInt8)(c:UInt8):List UInt8:=List.zipWith (fun o b => o ^^^ ER b c) out l
def D3(a b:List UInt8):List UInt8:=List.zipWith (· ^^^ ·) a b
def Bo(l:List UInt8)(c:UInt8):List UInt8:=l.map fun b => ER b c
theorem Lh(out l:List UInt8)(c:UInt8):DU out l c=D3 out (Bo l c):=by
 unfold DU D3 Bo;rw[List.zipWith_map_right]
theorem Dl(out l:List UInt8)(c:UInt8)(h:out.length=l.length):(DU out l c).length =out.length:=by simp[DU,h]
theorem FS(a b:List UInt8)(h:a.length=b.length):(D3 a b).length =a.length:=by simp[D3,h]
theorem Cx(l:List UInt8)(c:UInt8):(Bo l c).length =l.length:=by simp[Bo]
def By(L:List UInt8)(w:World)(e:Ending)(w':World):Prop :=
 ∃A c fs,e= .returned (.slice A L.length c)∧Ag w' fs (.slice A L.length c) L∧Aw w.heap.size w' fs∧Below w.heap.size w w'
theorem putStep {out l:List UInt8} {c:UInt8} {j:Nat}(hl:out.length=l.length)(h:j<l.length) :
  ((DU out l c).take j ++ out.drop j).set j (out[j]'(by omega) ^^^ ER l[j] c)=(DU out l c).take (j+1) ++ out.drop (j+1):=by
 have hz:=Dl out l c hl;apply bP
 ·simp[hz];omega
 ·intro i h1 h2;simp only[List.getElem_set,List.getElem_append,aQ,hz,List.getElem_take,List.getElem_drop];by_cases e:j=i
  ·subst e;rw[aL rfl,dif_pos (by omega)];simp[DU]
  ·rw[aI e];by_cases h3:i<j
   ·rw[dif_pos (by omega),dif_pos (by omega)]
   ·rw[dif_neg (by omega),dif_neg (by omega)];congr 1;omega
theorem put_c(v1 v2:Value)(out l:List UInt8)(c:UInt8)(f1 f2:List Addr)(w:World)(lo:Nat)(h1:Ag w f1 v1 out)(h2:Ag w f2 v2 l)(hl:out.length=l.length)(hm:Aw lo w f1)(hd:∀a,a∈f2→a∉f1)(hn:l.length≤1000000) :
  Calls prog 253 #[v1,v2,.int .u8 (c.toNat:Int)] w fun e w' => e= .returned (.tuple #[])∧AD f1 w w'∧Ag w' f1 v1 (DU out l c):=by
 have H1:=U h1;have H2:=U h2;have HM:=U hm;have HD:=U hd;obtain⟨A1,c1,rfl,hc1,hm1,hx⟩:=Ag.open_ h1;obtain⟨A2,c2,rfl,hc2,hm2,hy⟩:=Ag.open_ h2;have T1:=U (rSl.there Ai.fixed h1);have T2:=U (rSl.there Ai.fixed h2);have HX:=U hx;have HY:=U hy;have HL:=U hl;clear h1 h2 hm hd hx hy hl;go_enter func253,ntmps253
 go_wp2
 go_loopw [10,6,7] (fun i _ _ wr =>∃j:Nat,j≤l.length∧i= int i64 j∧AD f1 w wr∧Ag wr f1 (.slice A1 out.length c1) ((DU out l c).take j ++ out.drop j)) (fun i _ _ _ => l.length - (intOf i).toNat)
 case atStart => exact⟨0,by omega,rfl,AD.refl _ _,by simpa using H1.o⟩
 case round =>
  obtain⟨j,hj,rfl,hwr,hrb⟩:=hrel;by_cases hlt:j<l.length
  ·obtain⟨a2,e2,m2,b2,g2⟩:=HY.o j hlt;subst e2;have p2:=(hwr.cell _ (HD.o _ m2) b2).trans g2;have hlt1:j<out.length:=by rw[HL.o];exact hlt
   obtain⟨a1,e1,m1,b1,-⟩:=HX.o j hlt1;subst e1;have f1':=(hwr.frozen _ b1).trans (HM.o.free _ m1);have hcell:wr.cell? (a1.add j)=some (.int .u8 ((out[j]).toNat:Int)):=by
    have hz:=Dl out l c HL.o;obtain⟨A,cc,e,_,_,h⟩:=Ag.open_ hrb;obtain⟨ad,e2,_,_,h2⟩:=h j (by simp[hz];omega);injection e with e3 e4 e5
    rw[e2]at e3;injection e3 with e6
    subst e6;rw[h2];have:((DU out l c).take j ++ out.drop j)[j]'(by simp[hz];omega)=out[j]:=by
     rw[List.getElem_append_right (by simp[hz];omega)];simp[hz,Nat.min_eq_left (show j≤out.length by omega)]
    rw[this]
   have hw1:(a1.add j).block <wr.heap.size:=aE b1 hwr.size;have hxr:=LF out[j] (ER l[j] c);have HRB:=U hrb;have HW:=U hwr;clear hrb hwr g2;go_wp2_with fail
   go_region_law (go_simp;go_at_call 289;refine(Qq _ _ _).mono ?_;rintro e w' ⟨rfl,rfl⟩;dsimp only)
   all_goals
    go_wp2_with fail
    go_roundw
    case rel =>
     have H:=Ag.store HRB.o HM.o.nodup (j:=j) (by simp[Dl out l c HL.o];omega) (out[j] ^^^ ER l[j] c);rw[putStep HL.o hlt]at H;refine⟨j+1,by omega,by go_num,?_,?_⟩
     ·first|exact HW.o.setCell m1 _|exact(HW.o.drewN _).setCell m1 _|exact(HW.o.setCell m1 _).drewN _
     ·first|exact H|exact rSl.keep Ai.local_ H (fun _ _ => rfl)
    case measure => simp[intOf];omega
  ·obtain rfl:j=l.length:=by omega
   have HRB:=U hrb;have HW:=U hwr;clear hrb hwr;go_wp2_with fail
   go_end0
   refine⟨rfl,HW.o,?_⟩;have H:=HRB.o;rw[← HL.o,List.drop_length,List.append_nil,bK (by rw[Dl out l c HL.o];exact aC _)]at H;exact H
theorem MH {w:World} {base:Nat} {T:TypeId} {v:Value} {n:Nat} {l:List UInt8}(h:w.ownsRow base T 1 v n (l.map Be)):∃fs,Ag w fs v l∧Aw base w fs:=by
 obtain⟨hl,h2⟩:=h;simp at hl;rcases h2 with⟨rfl,h0⟩|⟨g,cap,cur,rfl,hb,hg,hnc,hcm,hcs,htake⟩
 ·have:l= []:=bT (by omega);subst this;exact⟨[],Ag.empty (by omega),List.nodup_nil,(fun _ h => by cases h),(fun _ h => by cases h)⟩
 ·subst hl;simp only[maxLen]at hcm;refine⟨AV ⟨g,0,none⟩ l.length,Ag.close_ hnc (by omega) (fun k hk => ?_),DO rfl,fun a ha => ?_,fun a ha => ?_⟩
  ·rw[Cs,cell_of_row w g k cur T (0,0) hg];have h3:(cur.toList.take (l.length * 1))[k]? =some (Be l[k]):=by rw[htake];simp[hk]
   rw[List.getElem?_take]at h3;rw[aL (by omega)]at h3;simpa [Be]using h3
  ·obtain⟨k,_,rfl⟩:=Bb.1 ha;rw[MB];exact hb
  ·obtain⟨k,_,rfl⟩:=Bb.1 ha;rw[Cs];exact frozen_of_row w g k cur T hg
def Ke(xs:List UInt8)(w:World)(e:Ending)(w':World):Prop :=
 ∃v fs,e= .returned v∧Ag w' fs v xs∧Aw w.heap.size w' fs∧Below w.heap.size w w'
theorem Ag.cells {w:World} {fs:List Addr} {ad:Addr} {n c:Nat} {xs:List UInt8}(h:Ag w fs (.slice (some ad) n c) xs):∀j u,(xs.map Be)[j]? =some u→w.cell? (ad.add j)=some u:=by
 obtain⟨A1,c1,e,hc1,hm1,hx⟩:=Ag.open_ h;intro j u hj;have hlt:j<xs.length:=by
  have:=(List.getElem?_eq_some_iff.1 hj).1;simpa using this
 obtain⟨a2,e2,_,_,h4⟩:=hx j hlt;injection e with e1
 rw[e2]at e1;injection e1 with e1
 subst e1;rw[h4];simp[hlt]at hj;rw[← hj];rfl
theorem Gy(v:Value)(xs:List UInt8)(fs:List Addr)(w:World)(h1:Ag w fs v xs)(hsm:xs.length≤1048576) :
  Calls prog 138 #[v] w (Ke xs w):=by
 obtain⟨i0,hi,hz0,hz1,hz2⟩:=info_parts Tryz.info5;have q22:∀(w:World) (a:Option Addr) (n c n' c':Nat),(binOp .eql 39 (.slice a n c) (.slice none n' c')).run prog w= .ok (.bool a.isNone) w:=fun w a n c n' c' => Lib.run_eql_slice_nil w _ _ a n c n' c' underlying39
 have H1:=U h1;obtain⟨A1,c1,rfl,hc1,hm1,hx⟩:=h1.form;clear h1;cases A1 with
 |none =>
  have hxs:xs= []:=by
   rcases hx with⟨rfl,_⟩|⟨ad,e,_⟩
   ·rfl
   ·cases e
  subst hxs;clear hx;go_enter func138,ntmps138
  go_wp2_with fail
  go_ret
  exact⟨_,[],rfl,Ag.empty (by omega),⟨List.nodup_nil,(fun _ h => by cases h),(fun _ h => by cases h)⟩,aB _ _⟩
 |some ad =>
  clear hx;have hce:=U (Ag.cells (H1.o.below ((aB w.heap.size w).alloc (aC _) (.cells #[] 5))));go_enter func138,ntmps138
  go_wp2_with (at_builtin;refine wpList_append_own _ rfl _ _ 39 rfl w.heap.size 5 i0 (.int .u8 0) 1 1 underlying39 hi hz0 hz1 hz2 rfl (by decide) _ _ _ rfl (World.ownsRow_lit w #[] 0 (aC _) (Nat.zero_le _) rfl) ad xs.length c1 (xs.map Be) rfl ?qc1 hce.o ?qc3 ?qc4 ?qc5 ?qc6 ?_)
  case qc1 => simp
  case qc3 => intro u hu;obtain⟨x,_,rfl⟩:=List.mem_map.1 hu;rfl
  case qc4 => unfold maxLen;omega
  case qc5 => omega
  case qc6 => simp
  intro v' w1 hown hgrow hnil;have HB:=U (((aB w.heap.size w).alloc (aC _) (.cells #[] 5)).grown hgrow (by simp) (by intro k hk;simp[Value.ownBlock]at hk;omega));have HO:=U hown;clear hown hgrow hnil;go_wp2
  go_ret
  obtain⟨fs',h2,h3⟩:=MH (show w1.ownsRow w.heap.size 5 1 v' xs.length (xs.map Be)from HO.o);exact⟨_,fs',rfl,h2,h3,HB.o⟩
end Go.Proofs.YtfjkoifpdoemdaaGreat
namespace Go.Proofs.YtfjkoifpdoemdaaGreat
open Go.RowKit Go.Sort
theorem Ke.fresh {L:List UInt8} {w:World} {e:Ending} {w':World}(h:Ke L w e w'):By L w e w':=by
 obtain⟨v,fs,rfl,h1,h2,h3⟩:=h;obtain⟨A,c,rfl,-⟩:=h1.form;exact⟨A,c,fs,rfl,h1,h2,h3⟩
theorem sum_c(v1 v2:Value)(a b:List UInt8)(c:UInt8)(f1 f2:List Addr)(w:World)(h1:Ag w f1 v1 a)(h2:Ag w f2 v2 b)(hl:a.length=b.length)(hn:b.length≤1000000) :
  Calls prog 259 #[v1,v2,.int .u8 (c.toNat:Int)] w (By (DU a b c) w):=by
 have H1:=U h1;have H2:=U h2;have HL:=U hl;have T2:=U (rSl.there Ai.fixed h2);obtain⟨A1,c1,rfl,-⟩:=h1.form;obtain⟨A2,c2,rfl,-⟩:=h2.form;clear h1 h2 hl;go_enter func259,ntmps259
 go_wp2_with fail
 refine(Gy _ a f1 w H1.o (by have:=HL.o;omega)).mono ?_;rintro e w1 h;obtain⟨A3,c3,f3,rfl,r3,m3,b3⟩:=h.fresh;have R3:=U r3;have M3:=U m3;have B3:=U b3;have R2:=U (Ag.below H2.o b3);clear h r3 m3 b3;go_wp2_with fail
 refine(put_c _ _ a b c f3 f2 w1 w.heap.size R3.o R2.o HL.o M3.o (fun x hx hy => by have:=T2.o x hx;have:=M3.o.from_ x hy;omega) hn).mono ?_;rintro e w2 ⟨rfl,hw,hr⟩;have R4:=U hr;have HW:=U hw;clear hr hw;go_wp2_with fail
 go_ret
 have hl:=Dl a b c HL.o;refine⟨A3,c3,f3,by rw[hl];rfl,by rw[hl];exact R4.o,M3.o.wrote HW.o (rSl.there Ai.fixed R3.o),B3.o.trans (HW.o.below B3.o.size (fun x hx => M3.o.from_ x hx))⟩
theorem J8 {w:World}(n:Nat)(hn:n≤1000000):Ag (w.alloc (.cells (madeCells #[.int .u8 0] n) 5)) (AV ⟨w.heap.size,0,none⟩ n) (.slice (some ⟨w.heap.size,0,none⟩) n n) (List.replicate n 0):=by
 have h:=Blk.new w 5 (madeCells #[.int .u8 0] n);have e:madeCells #[.int .u8 0] n=((List.replicate n (0:UInt8)).map Be).toArray:=by
  apply Array.toList_inj.1
  rw[toList_madeCells_one];simp[Be]
 rw[e]at h;have:=Ag.of_blk (w:=_) (g:=w.heap.size) (T:=5) (bs:=List.replicate n 0) h (by simp;omega);rw[e];simpa using this
theorem IC {w:World}(n:Nat)(t:TypeId)(cs:Array Value):Aw w.heap.size (w.alloc (.cells cs t)) (AV ⟨w.heap.size,0,none⟩ n):=by
 refine⟨DO rfl,fun a ha => ?_,fun a ha => ?_⟩
 ·rw[CY ha];exact aC _
 ·obtain⟨q,_,rfl⟩:=Bb.1 ha;rw[Cs];exact(Blk.new w t cs).frozen q
theorem LD(l:List UInt8)(c:UInt8):DU (List.replicate l.length 0) l c=Bo l c:=by
 unfold DU Bo;apply bP
 ·simp
 ·intro i h1 h2;simp
theorem Tryz.makeBytes(n:Nat)(hn:n≤1000000)(w0:World):(Instr.makeSlice 39 (int i64 (n:Int)) (int i64 (n:Int))).run prog w0= .ok (.slice (some ⟨w0.heap.size,0,none⟩) n n) (w0.alloc (.cells (madeCells #[.int .u8 0] n) 5)):=by
 have h:=CM prog 39 5 (.int .u8 0) 1 1 underlying39 Tryz.info5 n (by omega) (by omega) w0;rw[Nat.mul_one]at h;exact h
theorem Nv(v:Value)(l:List UInt8)(c:UInt8)(f:List Addr)(w:World)(h:Ag w f v l)(hn:l.length≤1000000) :
  Calls prog 296 #[v,.int .u8 (c.toNat:Int)] w (By (Bo l c) w):=by
 have H:=U h;have T2:=U (rSl.there Ai.fixed h);obtain⟨A1,c1,rfl,-⟩:=h.form;clear h;have hmk:=Tryz.makeBytes l.length hn;go_enter func296,ntmps296
 go_wp2_with fail
 have R3:=U (J8 (w:=w) l.length hn);have M3:=U (IC (w:=w) l.length 5 (madeCells #[.int .u8 0] l.length));have B3:=U (Af (aB w.heap.size w) (.cells (madeCells #[.int .u8 0] l.length) 5));refine(put_c _ _ (List.replicate l.length 0) l c (AV ⟨w.heap.size,0,none⟩ l.length) f _ w.heap.size (by simpa using R3.o) (Ag.below H.o B3.o) (by simp) M3.o (fun x hx hy => by have:=T2.o x hx;have:=M3.o.from_ x hy;omega) hn).mono ?_;rintro e w2 ⟨rfl,hw,hr⟩;rw[LD]at hr;have R4:=U hr;have HW:=U hw;clear hr hw hmk;go_wp2_with fail
 go_ret
 have hl:=Cx l c;refine⟨some ⟨w.heap.size,0,none⟩,l.length,_,by rw[hl];rfl,by rw[hl];simpa using R4.o,M3.o.wrote HW.o (rSl.there Ai.fixed R3.o),B3.o.trans (HW.o.below B3.o.size (fun x hx => M3.o.from_ x hx))⟩
theorem Fj {wr W:World} {base:Nat} {v:Value} {ds:List UInt8}(ho:Aj 1 5 Ai wr base v ds [])(hbase:base≤wr.heap.size)(hn:ds.length+1≤1000000000) {b:Nat} {x:UInt8}(B5:Below wr.heap.size wr W)(hblk:Blk W b 5 #[.int .u8 (x.toNat:Int)]) :
  ∃v' w',(Builtin.append_ #[39,39] 39 #[v,.slice (some ⟨b,0,none⟩) 1 1]).run prog W= .ok v' w'∧∃A c,v'= .slice A (ds.length+1) c∧Aj 1 5 Ai w' base v' (ds ++ [x]) []∧Below base wr w'∧wr.heap.size≤w'.heap.size:=by
 have hm:Aw base wr []:=⟨List.nodup_nil,(fun a ha => by cases ha),(fun a ha => by cases ha)⟩;obtain⟨v',w',q1,A,c,h,q2,q3,-,q5,q6⟩:=Ic (P:=prog) (R:=Ai) 39 39 (.int .u8 0) 1 underlying39 Tryz.info5 rfl (by decide) Ai.local_ Ai.fixed Ev (by omega) ho hm hbase hn (us:=[.int .u8 (x.toNat:Int)]) (f:=[]) (d:=x) (b:=b) (aB _ _) ⟨rfl,rfl⟩ ⟨List.nodup_nil,(fun a ha => by cases ha),(fun a ha => by cases ha)⟩ rfl B5 hblk;have:=q3.flatBytes;rw[this]at q3;exact⟨v',w',q1,A,c,q2,q3,q5,q6⟩
theorem Aj.freshB {w w':World} {v:Value} {L:List UInt8}(h:Aj 1 5 Ai w' w.heap.size v L [])(hb:Below w.heap.size w w'):By L w (.returned v) w':=by
 obtain⟨fs,r1,r2⟩:=h.readsMine ⟨List.nodup_nil,(fun a ha => by cases ha),(fun a ha => by cases ha)⟩;obtain⟨A,c,rfl,-⟩:=rSl.head r1;exact⟨A,c,fs,rfl,r1,r2,hb⟩
theorem Aj.emptyB {w:World}:Aj 1 5 Ai (w.alloc (.cells #[] 5)) w.heap.size (.slice (some ⟨w.heap.size,0,none⟩) 0 0) [] [] :=
 Aj.start ⟨rfl,.inr ⟨w.heap.size,0,#[],rfl,aC _,Blk.new _ _ _,aC _,by unfold maxLen;omega,rfl,rfl⟩⟩
theorem GX(v:Value)(l:List UInt8)(c:UInt8)(f:List Addr)(w:World)(h:Ag w f v l)(hn:l.length≤1000000) :
  Calls prog 156 #[v,.int .u8 (c.toNat:Int)] w (By (Bo l c) w):=by
 obtain⟨A1,c1,rfl,hc1,hm1,hx⟩:=Ag.open_ h;have HX:=U hx;clear h hx;go_enter func156,ntmps156
 go_wp2_with fail
 go_loopw [5,6] (fun o i wr =>∃(j:Nat) (A:Option Addr) (c2:Nat),j≤l.length∧i= int i64 j∧o= .slice A j c2∧Aj 1 5 Ai wr w.heap.size o ((Bo l c).take j) []∧Below w.heap.size w wr) (fun _ i _ => l.length - (intOf i).toNat)
 case atStart => exact⟨0,_,0,by omega,rfl,rfl,Aj.emptyB,Af (aB _ _) _⟩
 case round =>
  obtain⟨j,A,c2,hj,rfl,rfl,ho,hb⟩:=hrel;have hls:=Cx l c;by_cases hlt:j<l.length
  ·obtain⟨a2,e2,m2,b2,g2⟩:=HX.o j hlt;subst e2;have p2:=(hb.cell (p:=a2.add j) b2).trans g2;have hlen:((Bo l c).take j).length =j:=by rw[aQ,hls];omega
   have hst:(Bo l c).take j ++ [ER l[j] c] =(Bo l c).take (j+1):=by
    rw[aM (by omega)];simp[Bo]
   have HA:=U (Fj (W:=wr.alloc (.cells #[.int .u8 ((ER l[j] c).toNat:Int)] 5)) (b:=wr.heap.size) (x:=ER l[j] c) ho hb.size (by omega) (Af (aB _ _) _) (Blk.new _ _ _));rw[hlen,hst]at HA;have HB:=U hb;clear ho hb g2 hls hst hlen;go_wp2_with (first|(refine(Rn _ _ _).mono ?_;rintro e w' ⟨rfl,rfl⟩)|(at_builtin;refine Ar rfl (.tmp 14) (.tmp 21) 39 rfl (.slice A j c2) (.slice (some ⟨wr.heap.size,0,none⟩) 1 1) rfl rfl HA.o ?_;rintro v6 w6 ⟨A6,c6,rfl,o6,B6,e6⟩;have HO6:=U o6;have HB6:=U B6;clear o6 B6))
   go_roundw
   case rel => exact⟨j+1,A6,c6,by omega,by go_num,rfl,HO6.o,HB.o.trans HB6.o⟩
   case measure => simp[intOf];omega
  ·obtain rfl:j=l.length:=by omega
   rw[bK (by omega)]at ho;have HO:=U ho;have HB:=U hb;clear ho hb hls;go_wp2_with fail
   go_ret
   exact HO.o.freshB HB.o
theorem Lt(v1 v2:Value)(a b:List UInt8)(f1 f2:List Addr)(w:World)(h1:Ag w f1 v1 a)(h2:Ag w f2 v2 b)(hl:a.length=b.length)(hn:b.length≤1000000) :
  Calls prog 158 #[v1,v2] w (By (D3 a b) w):=by
 obtain⟨A1,c1,rfl,hc1,hm1,hx⟩:=Ag.open_ h1;obtain⟨A2,c2,rfl,hc2,hm2,hy⟩:=Ag.open_ h2;have HX:=U hx;have HY:=U hy;have HL:=U hl;clear h1 h2 hx hy hl;go_enter func158,ntmps158
 go_wp2_with fail
 go_loopw [5,6] (fun o i wr =>∃(j:Nat) (A:Option Addr) (c2:Nat),j≤a.length∧i= int i64 j∧o= .slice A j c2∧Aj 1 5 Ai wr w.heap.size o ((D3 a b).take j) []∧Below w.heap.size w wr) (fun _ i _ => a.length - (intOf i).toNat)
 case atStart => exact⟨0,_,0,by omega,rfl,rfl,Aj.emptyB,Af (aB _ _) _⟩
 case round =>
  obtain⟨j,A,c3,hj,rfl,rfl,ho,hb⟩:=hrel;have hls:=FS a b HL.o;by_cases hlt:j<a.length
  ·obtain⟨a1,e1,m1,b1,g1⟩:=HX.o j hlt;have hlt2:j<b.length:=by rw[← HL.o];exact hlt
   obtain⟨a2,e2,m2,b2,g2⟩:=HY.o j hlt2;subst e1 e2;have p1:=(hb.cell (p:=a1.add j) b1).trans g1;have p2:=(hb.cell (p:=a2.add j) b2).trans g2;have hlen:((D3 a b).take j).length =j:=by rw[aQ,hls];omega
   have hst:(D3 a b).take j ++ [a[j] ^^^ b[j]] =(D3 a b).take (j+1):=by
    rw[aM (by omega)];simp[D3]
   have HA:=U (show∀W g,Below wr.heap.size wr W→Blk W g 5 #[.int .u8 ((a[j] ^^^ b[j]).toNat:Int)]→_ from fun W g B5 hblk => Fj (W:=W) (b:=g) (x:=a[j] ^^^ b[j]) ho hb.size (by omega) B5 hblk);rw[hlen,hst]at HA;have hxr:=LF a[j] b[j];have HB:=U hb;clear ho hb g1 g2 hls hst hlen;obtain⟨x,hx⟩:∃x,a[j] ^^^ b[j] =x:=⟨_,rfl⟩;rw[hx]at HA hxr;clear hx;go_wp2_with fail
   go_region_law (refine AR rfl (.tmp 14) (.tmp 24) 39 rfl _ _ (by rfl) (by rfl) (HA.o _ _ (by repeat(with_reducible first|exact aB _ _|apply Af|apply An)) (by repeat(with_reducible first|exact Blk.new _ _ _|apply Blk.drew_|apply Blk.alloc))) ?_;rintro v6 w6 ⟨A6,c6,rfl,o6,B6,e6⟩;have HO6:=U o6;have HB6:=U B6;clear o6 B6)
   all_goals
    go_wp2_with fail
    go_roundw
    case rel => exact⟨j+1,A6,c6,by omega,by go_num,rfl,HO6.o,HB.o.trans HB6.o⟩
    case measure => simp[intOf];omega
  ·obtain rfl:j=a.length:=by omega
   rw[bK (by omega)]at ho;have HO:=U ho;have HB:=U hb;clear ho hb hls;go_wp2_with fail
   go_ret
   exact HO.o.freshB HB.o
abbrev As (w:World) (fs:List Addr) (v:Value) (ls:List (List UInt8)):Prop:=rSl 1 (Al 1 Ai) w fs v ls
theorem As.loc:Bi (Al 1 Ai):=Al.local_ Ai.local_
theorem As.fix:Bl (Al 1 Ai):=Al.fixed Ai.fixed
theorem As.open_ {w:World} {fs:List Addr} {v:Value} {ls:List (List UInt8)}(h:As w fs v ls) :
  ∃A c,v= .slice A ls.length c∧ls.length≤c∧c≤9223372036854775807∧∀j,(hj:j<ls.length)→∃ad A2 c2 fk,A=some ad∧(ad.add j).block <w.heap.size∧w.cell? (ad.add j)=some (.slice A2 ls[j].length c2)∧Ag w fk (.slice A2 ls[j].length c2) ls[j]∧CX fk w∧(∀a,a∈fk→a∈fs)∧ad.add j∈fs:=by
 obtain⟨A,c,e,h1,h2,h3⟩:=rSl.at_ As.fix (by decide) h;refine⟨A,c,e,h1,h2,fun j hj => ?_⟩;obtain⟨ad,b,o,cs,fk,e1,hat⟩:=h3 j hj;obtain⟨v0,ecs,hr⟩:=hat.reads;subst ecs;obtain⟨A2,c2,rfl,-⟩:=rSl.head hr;have hp:=hat.place;rw[Nat.mul_one]at hp;have hc:=hat.cell 0 (by simp);have hm:=hat.mem 0 (by decide);rw[bE]at hc hm;refine⟨ad,A2,c2,fk,e1,by rw[hp];exact hat.lt,by rw[hp];exact hc,hr,hat.there,hat.sub,by rw[hp];exact hm⟩
def Eh(n:Nat)(ls:List (List UInt8))(bs:List UInt8)(j:Nat):List UInt8:=((List.zip ls bs).take j).foldl (fun acc p => DU acc p.1 p.2) (List.replicate n 0)
def Er(n:Nat)(ls:List (List UInt8))(bs:List UInt8):List UInt8:=(List.zip ls bs).foldl (fun acc p => DU acc p.1 p.2) (List.replicate n 0)
theorem Pr(n:Nat)(ls:List (List UInt8))(bs:List UInt8):Eh n ls bs 0=List.replicate n 0:=rfl
theorem Gp {n:Nat} {ls:List (List UInt8)} {bs:List UInt8} {j:Nat}(h:j<ls.length)(hb:ls.length≤bs.length):Eh n ls bs (j+1)=DU (Eh n ls bs j) ls[j] (bs[j]'(by omega)):=by
 unfold Eh;rw[aM (by simp;omega),List.foldl_append];simp
theorem GZ {n:Nat} {ls:List (List UInt8)} {bs:List UInt8}(hb:ls.length≤bs.length):Eh n ls bs ls.length=Er n ls bs:=by
 unfold Eh Er;rw[bK (by simp;omega)]
theorem Ep {n:Nat} {ls:List (List UInt8)} {bs:List UInt8}(hl:∀l,l∈ls→l.length=n)(hb:ls.length≤bs.length):∀j,j≤ls.length→(Eh n ls bs j).length =n
 |0,_ => by simp[Eh]
 |j+1,h => by
  have:=Ep hl hb j (by omega);rw[Gp (by omega) hb,Dl _ _ _ (by rw[this,hl _ (aN _)]),this]
theorem ET {n:Nat} {ls:List (List UInt8)} {bs:List UInt8}(hl:∀l,l∈ls→l.length=n)(hb:ls.length≤bs.length):(Er n ls bs).length =n:=by
 rw[← GZ hb];exact Ep hl hb _ (aC _)
theorem Lx(v1 v2:Value)(ls:List (List UInt8))(bs:List UInt8)(n:Nat)(f1 f2:List Addr)(w:World)(h1:As w f1 v1 ls)(h2:Ag w f2 v2 bs)(hne:0<ls.length)(hl:∀l,l∈ls→l.length=n)(hb:ls.length≤bs.length)(hn:n≤1000000) :
  Calls prog 181 #[v1,v2] w (By (Er n ls bs) w):=by
 have H1:=U h1;have T1:=U (rSl.there As.fix h1);obtain⟨A1,c1,rfl,hc1,hm1,hx⟩:=As.open_ h1;obtain⟨A2,c2,rfl,hc2,hm2,hy⟩:=Ag.open_ h2;have HX:=U hx;have HY:=U hy;have HL:=U hl;obtain⟨ad0,A30,c30,fk0,e0,b0,p0,-⟩:=hx 0 hne;rw[hl _ (aN _)]at p0;subst e0;have hpos:(0:Int)<(ls.length:Int):=by omega
 have p0':w.cell? ad0=some (.slice A30 n c30):=by
  have e:ad0.add 0=ad0:=by simp[Addr.add]
  rw[← e];exact p0
 clear h1 h2 hx hy hl;have hmk:=Tryz.makeBytes n hn;go_enter func181,ntmps181
 go_wp2_with fail
 have HZ:=U (J8 (w:=w) n hn);have MZ:=U (IC (w:=w) n 5 (madeCells #[.int .u8 0] n));have BZ:=U (Af (aB w.heap.size w) (.cells (madeCells #[.int .u8 0] n) 5));have TZ:=U (rSl.there Ai.fixed HZ.o);go_loopw [15,6,7] (fun i _ _ wr =>∃j:Nat,j≤ls.length∧i= int i64 j∧AD (AV ⟨w.heap.size,0,none⟩ n) (w.alloc (.cells (madeCells #[.int .u8 0] n) 5)) wr∧Ag wr (AV ⟨w.heap.size,0,none⟩ n) (.slice (some ⟨w.heap.size,0,none⟩) n n) (Eh n ls bs j)) (fun i _ _ _ => ls.length - (intOf i).toNat)
 case atStart => exact⟨0,by omega,rfl,AD.refl _ _,HZ.o⟩
 case round =>
  obtain⟨j,hj,rfl,hwr,hrb⟩:=hrel;have hbw:=BZ.o.trans (hwr.below BZ.o.size (fun x hx => MZ.o.from_ x hx));clear hmk p0 p0';by_cases hlt:j<ls.length
  ·obtain⟨ad,A3,c3,fk,e1,b1,p1,r1,t1,s1,-⟩:=HX.o j hlt;injection e1 with e1
   subst e1;obtain⟨a2,e2,m2,b2,g2⟩:=HY.o j (by omega);subst e2;have hlj:=HL.o _ (aN hlt);rw[hlj]at p1 r1;have p1':=(hbw.cell (p:=_) b1).trans p1;have p2:=(hbw.cell (p:=a2.add j) b2).trans g2;have hml:=Ep HL.o hb j hj;have hst:=Gp (n:=n) hlt hb;have HRB:=U hrb;have HW:=U hwr;have HBW:=U hbw;have R1:=U r1;have T3:=U t1;have HLJ:=U hlj;have HML:=U hml;have HST:=U hst;clear hrb hwr hbw p1 g2 r1 t1 s1 hlj hml hst;go_wp2_with fail
   refine(put_c _ _ (Eh n ls bs j) ls[j] bs[j] (AV ⟨w.heap.size,0,none⟩ n) fk wr w.heap.size HRB.o (Ag.below R1.o HBW.o) (by rw[HML.o,HLJ.o]) (MZ.o.wrote HW.o TZ.o) (fun x hx hy => by have:=T3.o x hx;have:=MZ.o.from_ x hy;omega) (by rw[HLJ.o];exact hn)).mono ?_;rintro e w2 ⟨rfl,hw,hr⟩;rw[← HST.o]at hr;have HR2:=U hr;have HW2:=U hw;clear hr hw;go_wp2_with fail
   go_roundw
   case rel => exact⟨j+1,by omega,by go_num,HW.o.trans HW2.o,HR2.o⟩
   case measure => simp[intOf];omega
  ·obtain rfl:j=ls.length:=by omega
   have HRB:=U hrb;have HBW:=U hbw;have HM:=U (MZ.o.wrote hwr TZ.o);clear hrb hwr hbw;go_wp2_with fail
   go_ret
   have hlm:=ET (n:=n) HL.o hb;have H:=HRB.o;rw[GZ hb]at H;exact⟨_,n,_,by rw[hlm];rfl,by rw[hlm];exact H,HM.o,HBW.o⟩
theorem Lu(v1 v2:Value)(ls:List (List UInt8))(bs:List UInt8)(n:Nat)(f1 f2:List Addr)(w:World)(h1:As w f1 v1 ls)(h2:Ag w f2 v2 bs)(hne:0<ls.length)(hl:∀l,l∈ls→l.length=n)(hb:ls.length≤bs.length)(hn:n≤1000000) :
  Calls prog 161 #[v1,v2] w (By (Er n ls bs) w):=by
 obtain⟨A1,c1,rfl,hc1,hm1,hx⟩:=As.open_ h1;obtain⟨A2,c2,rfl,hc2,hm2,hy⟩:=Ag.open_ h2;have HX:=U hx;have HY:=U hy;have HL:=U hl;obtain⟨ad0,A30,c30,fk0,e0,b0,p0,-⟩:=hx 0 hne;rw[hl _ (aN _)]at p0;subst e0;have hpos:(0:Int)<(ls.length:Int):=by omega
 have p0':w.cell? ad0=some (.slice A30 n c30):=by
  have e:ad0.add 0=ad0:=by simp[Addr.add]
  rw[← e];exact p0
 clear h1 h2 hx hy hl;have hmk:=Tryz.makeBytes n hn;go_enter func161,ntmps161
 go_wp2_with fail
 have HZ:=U (J8 (w:=w) n hn);have MZ:=U (IC (w:=w) n 5 (madeCells #[.int .u8 0] n));have BZ:=U (Af (aB w.heap.size w) (.cells (madeCells #[.int .u8 0] n) 5));go_loopw [5,6] (fun o i wr =>∃(j:Nat) (A:Option Addr) (c3:Nat) (f3:List Addr),j≤ls.length∧i= int i64 j∧o= .slice A n c3∧Ag wr f3 o (Eh n ls bs j)∧Aw w.heap.size wr f3∧Below w.heap.size w wr) (fun _ i _ => ls.length - (intOf i).toNat)
 case atStart => exact⟨0,_,n,_,by omega,rfl,rfl,HZ.o,MZ.o,BZ.o⟩
 case round =>
  obtain⟨j,A,c3,f3,hj,rfl,rfl,hrb,hmi,hbw⟩:=hrel;clear hmk p0 p0';by_cases hlt:j<ls.length
  ·obtain⟨ad,A3,c4,fk,e1,b1,p1,r1,t1,s1,-⟩:=HX.o j hlt;injection e1 with e1
   subst e1;obtain⟨a2,e2,m2,b2,g2⟩:=HY.o j (by omega);subst e2;have hlj:=HL.o _ (aN hlt);rw[hlj]at p1 r1;have p1':=(hbw.cell (p:=_) b1).trans p1;have p2:=(hbw.cell (p:=a2.add j) b2).trans g2;have hml:=Ep HL.o hb j hj;have hst:=Gp (n:=n) hlt hb;rw[Lh]at hst;have hsl:=Cx ls[j] bs[j];rw[hlj]at hsl;have HC1:=U (show∀W,Below wr.heap.size wr W→Calls prog 156 #[.slice A3 n c4,.int .u8 (bs[j].toNat:Int)] W (By (Bo ls[j] bs[j]) W)from fun W hW => GX _ ls[j] bs[j] fk W (Ag.below r1 (hbw.trans (hW.mono hbw.size))) (by rw[hlj];exact hn));have HC2:=U (show∀W A5 c5 f5,Below wr.heap.size wr W→Ag W f5 (.slice A5 n c5) (Bo ls[j] bs[j])→Calls prog 158 #[.slice A n c3,.slice A5 n c5] W (By (Eh n ls bs (j+1)) W)from fun W A5 c5 f5 hW h5 => by
    rw[hst];exact Lt _ _ (Eh n ls bs j) (Bo ls[j] bs[j]) f3 f5 W (Ag.below hrb hW) h5 (by rw[hml,hsl]) (by rw[hsl];exact hn))
   have HML:=U (Ep HL.o hb (j+1) hlt);have HSL:=U hsl;have HBW:=U hbw;have hjb:j<bs.length:=by omega
   clear hrb hbw p1 g2 r1 t1 s1 hlj hml hst hsl hmi;go_wp2_with fail
   go_region_law? (first
    |(go_simp;go_at_call 156;refine(HC1.o _ (by repeat(with_reducible first|exact aB _ _|apply An))).mono ?_;rintro e w5 ⟨A5,c5,f5,rfl,h5,m5,b5⟩;rw[HSL.o]at h5⊢;dsimp only;have HB5:=U (show Below wr.heap.size wr w5 from by first|exact b5|exact EN b5);have H5:=U h5;clear h5 b5 m5)
    |(go_simp;go_at_call 158;refine(HC2.o _ A5 c5 f5 (by repeat(with_reducible first|exact HB5.o|exact aB _ _|apply An)) H5.o).mono ?_;rintro e w6 ⟨A6,c6,f6,rfl,h6,m6,b6⟩;rw[HML.o]at h6⊢;dsimp only;have H6:=U h6;have M6:=U m6;have HB6:=U b6;clear h6 m6 b6))
   all_goals
    go_wp2_with fail
    go_roundw
    case rel => exact⟨j+1,A6,c6,f6,by omega,by go_num,rfl,H6.o,M6.o.mono (by have:=HB5.o.size;have:=HBW.o.size;omega),HBW.o.trans ((HB5.o.trans (HB6.o.mono HB5.o.size)).mono HBW.o.size)⟩
    case measure => simp[intOf];omega
  ·obtain rfl:j=ls.length:=by omega
   rw[GZ hb]at hrb;have HRB:=U hrb;have HBW:=U hbw;have HM:=U hmi;clear hrb hbw hmi;go_wp2_with fail
   go_ret
   have hlm:=ET (n:=n) HL.o hb;exact⟨_,c3,_,by rw[hlm];rfl,by rw[hlm];exact HRB.o,HM.o,HBW.o⟩
def cau(j i:Nat):UInt8:=UInt8.ofNat (D4 ((128+j) ^^^ i))
def JX(x:UInt8):UInt8:=UInt8.ofNat (D4 x.toNat)
theorem Ku(x:UInt8):(JX x).toNat =D4 x.toNat:=by
 unfold JX;rw[UInt8.toNat_ofNat'];exact Nat.mod_eq_of_lt (Lp (GN x))
theorem IR {j i:Nat}(hj:j≤100)(hi:i≤100):(cau j i).toNat =D4 ((128+j) ^^^ i):=by
 unfold cau;rw[UInt8.toNat_ofNat'];exact Nat.mod_eq_of_lt (Lp (Ed (by omega) (by omega)))
theorem ML(a:Nat)(ha:a<256)(w:World) :
  Calls prog 290 #[.int .u8 1,.int .u8 (a:Int)] w fun e w' => e= .returned (.int .u8 ((D4 a:Nat):Int))∧w=w':=by
 have hl:=Lp ha;have hm:Calls prog 289 #[.int .u8 1,.int .u8 ((D4 a:Nat):Int)] w fun e w' => e= .returned (.int .u8 ((D4 a:Nat):Int))∧w=w':=by
  have:=Gm 1 (D4 a) (by omega) hl w;rw[Nk hl]at this;exact this
 obtain⟨r,hr⟩:∃r,D4 a=r:=⟨_,rfl⟩;have hp:=Pb a ha w;rw[hr]at hm hp⊢;clear hr hl;go_enter func290,ntmps290
 go_wp2_with (first|(go_at_call 313;refine hp.mono ?_;rintro e w' ⟨rfl,rfl⟩)|(go_at_call 289;refine hm.mono ?_;rintro e w' ⟨rfl,rfl⟩))
 go_ret
 exact⟨rfl,rfl⟩
theorem div1_u(x:UInt8)(w:World) :
  Calls prog 290 #[.int .u8 1,.int .u8 (x.toNat:Int)] w fun e w' => e= .returned (.int .u8 ((JX x).toNat:Int))∧w=w':=by
 rw[Ku];exact ML _ (GN x) w
theorem inv_u(x:UInt8)(w:World) :
  Calls prog 238 #[.int .u8 (x.toNat:Int)] w fun e w' => e= .returned (.int .u8 ((JX x).toNat:Int))∧w=w':=by
 rw[Ku];exact L8 _ (GN x) w
theorem cauchy_c(j i:Nat)(hj:j≤100)(hi:i≤100)(w:World) :
  Calls prog 317 #[int i64 (j:Int),int i64 (i:Int)] w fun e w' => e= .returned (.int .u8 ((cau j i).toNat:Int))∧w=w':=by
 rw[IR hj hi];have hx:=EZ (show 128+j<256 by omega) (show i<256 by omega);have ej:((128+j:Nat):Int)=128+(j:Int):=by omega
 rw[ej]at hx;have hd:=ML ((128+j) ^^^ i) (Ed (by omega) (by omega)) w;obtain⟨x,hxx⟩:∃x,(128+j) ^^^ i=x:=⟨_,rfl⟩;rw[hxx]at hx hd⊢;clear hxx ej;go_enter func317,ntmps317
 go_wp2_with (go_at_call 290;refine hd.mono ?_;rintro e w' ⟨rfl,rfl⟩)
 go_ret
 exact⟨rfl,rfl⟩
theorem MN(g p:Nat)(hg:g≤90)(hp:p≤90)(w:World) :
  Calls prog 254 #[int i64 (g:Int),int i64 (p:Int)] w fun e w' => e= .returned (.int .u8 ((cau (8+p) g).toNat:Int))∧w=w':=by
 rw[IR (by omega) (by omega)];have hx:=EZ (show 128+(8+p)<256 by omega) (show g<256 by omega);have ej:((128+(8+p):Nat):Int)=136+(p:Int):=by omega
 rw[ej]at hx;have hd:=ML ((128+(8+p)) ^^^ g) (Ed (by omega) (by omega)) w;obtain⟨x,hxx⟩:∃x,(128+(8+p)) ^^^ g=x:=⟨_,rfl⟩;rw[hxx]at hx hd⊢;clear hxx ej;go_enter func254,ntmps254
 go_wp2_with (go_at_call 290;refine hd.mono ?_;rintro e w' ⟨rfl,rfl⟩)
 go_ret
 exact⟨rfl,rfl⟩
theorem Kv(j i:Nat)(hj:j≤100)(hi:i≤100)(w:World) :
  Calls prog 157 #[int i64 (j:Int),int i64 (i:Int)] w fun e w' => e= .returned (.int .u8 ((cau j i).toNat:Int))∧w=w':=by
 rw[IR hj hi];have hx:=EZ (show 128+j<256 by omega) (show i<256 by omega);have ej:((128+j:Nat):Int)=128+(j:Int):=by omega
 rw[ej]at hx;have hd:=L8 ((128+j) ^^^ i) (Ed (by omega) (by omega)) w;obtain⟨x,hxx⟩:∃x,(128+j) ^^^ i=x:=⟨_,rfl⟩;rw[hxx]at hx hd⊢;clear hxx ej;go_enter func157,ntmps157
 go_wp2_with (go_at_call 238;refine hd.mono ?_;rintro e w' ⟨rfl,rfl⟩)
 go_ret
 exact⟨rfl,rfl⟩
def at0(l:List UInt8)(c:Nat):UInt8:=l.getD c 0
theorem at0_get {l:List UInt8} {c:Nat}(h:c<l.length):at0 l c=l[c]:=by simp[at0,h]
def Lz(ms:List (List UInt8))(c:Nat):Nat→Nat→Option Nat
 |0,_ => none
 |k+1,r => if at0 (ms.getD r []) c≠0 then some r else Lz ms c k (r+1)
def piv(ms:List (List UInt8))(c rank:Nat):Option Nat:=Lz ms c (ms.length - rank) rank
def DH(ms:List (List UInt8))(c t:Nat):List UInt8:=Bo (ms.getD t []) (JX (at0 (ms.getD t []) c))
def C9(ms:List (List UInt8))(rank c t:Nat):List (List UInt8):=((ms.set t (ms.getD rank [])).set rank (DH ms c t))
def DY(p:List UInt8)(c:Nat)(row:List UInt8):List UInt8:=DU row p (at0 row c)
def Ca(p:List UInt8)(rank c:Nat)(ms:List (List UInt8))(j:Nat):List (List UInt8):=ms.mapIdx fun i row => if i<j∧i≠rank then DY p c row else row
def KV(ms:List (List UInt8))(rank c t:Nat):List (List UInt8):=Ca (DH ms c t) rank c (C9 ms rank c t) ms.length
def BH:Nat→Nat→Nat→List (List UInt8)→Nat × List (List UInt8)
 |0,_,rank,ms =>(rank,ms)
 |k+1,c,rank,ms => match piv ms c rank with
  |none => BH k (c+1) rank ms
  |some t => BH k (c+1) (rank+1) (KV ms rank c t)
theorem L4 {ms:List (List UInt8)} {c:Nat}:∀k r,(∀i,r≤i→i<r+k→at0 (ms.getD i []) c=0)→Lz ms c k r=none
 |0,_,_ => rfl
 |k+1,r,h => by
  rw[Lz,aI (by rw[h r (aC _) (by omega)];simp)];exact L4 k (r+1) fun i h1 h2 => h i (by omega) (by omega)
theorem L7 {ms:List (List UInt8)} {c t:Nat}:∀k r,r≤t→t<r+k→(∀i,r≤i→i<t→at0 (ms.getD i []) c=0)→at0 (ms.getD t []) c≠0→Lz ms c k r=some t
 |0,r,h1,h2,_,_ => by omega
 |k+1,r,h1,h2,h3,h4 => by
  rw[Lz];by_cases e:r=t
  ·subst e;rw[aL h4]
  ·rw[aI (by rw[h3 r (aC _) (by omega)];simp)];exact L7 k (r+1) (by omega) (by omega) (fun i g1 g2 => h3 i (by omega) g2) h4
theorem J5 {ms:List (List UInt8)} {c rank:Nat}(h:∀i,rank≤i→i<ms.length→at0 (ms.getD i []) c=0):piv ms c rank=none:=L4 _ _ fun i h1 h2 => h i h1 (by omega)
theorem Nr {ms:List (List UInt8)} {c rank t:Nat}(h1:rank≤t)(h2:t<ms.length)(h3:∀i,rank≤i→i<t→at0 (ms.getD i []) c=0)(h4:at0 (ms.getD t []) c≠0):piv ms c rank=some t:=L7 _ _ h1 (by omega) h3 h4
theorem JD {ms:List (List UInt8)}:∀k c rank,ms.length≤rank→BH k c rank ms=(rank,ms)
 |0,_,_,_ => rfl
 |k+1,c,rank,h => by
  rw[BH,J5 (fun i h1 h2 => by omega)];exact JD k (c+1) rank h
def Ci(ms:List (List UInt8))(m:Nat):Prop:=∀l,l∈ms→l.length=m
theorem Ci.get {ms:List (List UInt8)} {m i:Nat}(h:Ci ms m)(hi:i<ms.length):(ms.getD i []).length =m:=by
 rw[aJ,aO hi];exact h _ (aN hi)
theorem Ci.set_ {ms:List (List UInt8)} {m i:Nat} {l:List UInt8}(h:Ci ms m)(hl:l.length=m):Ci (ms.set i l) m:=by
 intro x hx;rcases List.mem_or_eq_of_mem_set hx with h1|rfl
 ·exact h _ h1
 ·exact hl
theorem Gc {ms:List (List UInt8)} {m c t:Nat}(h:Ci ms m)(ht:t<ms.length):(DH ms c t).length =m:=by
 unfold DH;rw[Cx];exact h.get ht
theorem Hz(ms:List (List UInt8))(rank c t:Nat):(C9 ms rank c t).length =ms.length:=by simp[C9]
theorem JR {ms:List (List UInt8)} {m rank c t:Nat}(h:Ci ms m)(hr:rank<ms.length)(ht:t<ms.length):Ci (C9 ms rank c t) m:=(h.set_ (h.get hr)).set_ (Gc h ht)
theorem Fl {p:List UInt8} {rank c:Nat} {ms:List (List UInt8)} {j i:Nat}(hi:i<ms.length):(Ca p rank c ms j).getD i [] =if i<j∧i≠rank then DY p c (ms.getD i [])else ms.getD i []:=by
 simp[Ca,aJ,hi]
theorem JC(p:List UInt8)(rank c:Nat)(ms:List (List UInt8)):Ca p rank c ms 0=ms:=by
 apply bP
 ·simp[Ca]
 ·intro i h1 h2;simp[Ca]
theorem FK {p row:List UInt8} {c:Nat}(h:row.length=p.length):(DY p c row).length =row.length:=Dl _ _ _ h
theorem He {p:List UInt8} {rank c:Nat} {ms:List (List UInt8)} {j:Nat}(hj:j<ms.length)(hne:j≠rank):Ca p rank c ms (j+1)=(Ca p rank c ms j).set j (DY p c (ms.getD j [])):=by
 apply bP
 ·simp[Ca]
 ·intro i h1 h2;simp only[Ca,List.length_mapIdx]at h1;simp only[Ca,List.getElem_mapIdx,List.getElem_set];by_cases e:j=i
  ·subst e;rw[aL rfl,aL ⟨by omega,hne⟩];simp[aJ,hj]
  ·rw[aI e];by_cases h:i<j∧i≠rank
   ·rw[aL ⟨by omega,h.2⟩,aL h]
   ·rw[aI (fun h2 => h ⟨by omega,h2.2⟩),aI h]
theorem Hd {p:List UInt8} {rank c:Nat} {ms:List (List UInt8)}:Ca p rank c ms (rank+1)=Ca p rank c ms rank:=by
 apply bP
 ·simp[Ca]
 ·intro i h1 h2;simp only[Ca,List.getElem_mapIdx];by_cases h:i<rank∧i≠rank
  ·rw[aL ⟨by omega,h.2⟩,aL h]
  ·rw[aI (fun h2 => h ⟨by omega,h2.2⟩),aI h]
theorem Rb(x:UInt8):ER x 0=0:=by
 unfold ER DN;rw[show(0:UInt8).toNat =0 from rfl,FZ];rfl
theorem IP {a p:List UInt8}(h:a.length=p.length):DU a p 0=a:=by
 apply bP
 ·rw[Dl _ _ _ h]
 ·intro i h1 h2;simp[DU,Rb]
theorem NR {p:List UInt8} {rank c:Nat} {ms:List (List UInt8)} {j:Nat}(hj:j<ms.length)(hz:at0 (ms.getD j []) c=0)(hl:(ms.getD j []).length =p.length):Ca p rank c ms (j+1)=Ca p rank c ms j:=by
 by_cases e:j=rank
 ·subst e;exact Hd
 ·rw[He hj e];apply bP
  ·simp
  ·intro i h1 h2;rw[List.getElem_set];by_cases e2:j=i
   ·subst e2;rw[aL rfl,DY,hz,IP hl];have:=Fl (p:=p) (rank:=rank) (c:=c) (j:=j) hj;rw[aI (by omega)]at this;rw[aJ,aO h2]at this;exact this.symm
   ·rw[aI e2]
theorem Gj {p:List UInt8} {rank c m:Nat} {ms:List (List UInt8)} {j:Nat}(h:Ci ms m)(hp:p.length=m):Ci (Ca p rank c ms j) m:=by
 intro x hx;simp only[Ca,List.mem_mapIdx]at hx;obtain⟨i,hi,rfl⟩:=hx;have:=h _ (aN hi);split
 ·rw[FK (by rw[this,hp]),this]
 ·exact this
structure Mat (w:World) (g n:Nat) (ms:List (List UInt8)):Prop where
 len:ms.length=n
 lt:g<w.heap.size
 row:∀i,i<n→∃A c f,w.cell? ⟨g,i,none⟩=some (.slice A (ms.getD i []).length c)∧Ag w f (.slice A (ms.getD i []).length c) (ms.getD i [])∧(∀a,a∈f→a.block≠g)
 free:∀i,i<n→w.frozen? ⟨g,i,none⟩=false
theorem Mat.below {w w':World} {g n:Nat} {ms:List (List UInt8)}(h:Mat w g n ms)(hb:Below w.heap.size w w'):Mat w' g n ms :=
 ⟨h.len,aE h.lt hb.size,fun i hi => by
  obtain⟨A,c,f,h1,h2,h3⟩:=h.row i hi;exact⟨A,c,f,(hb.cell (p:=⟨g,i,none⟩) h.lt).trans h1,Ag.below h2 hb,h3⟩,fun i hi =>(hb.frozen (p:=⟨g,i,none⟩) h.lt).trans (h.free i hi)⟩
theorem Mat.set_ {w:World} {g n:Nat} {ms:List (List UInt8)}(h:Mat w g n ms) {i:Nat}(hi:i<n) {A:Option Addr} {c:Nat} {f:List Addr} {l:List UInt8}(hr:Ag w f (.slice A l.length c) l)(hf:∀a,a∈f→a.block≠g):Mat (w.setCell ⟨g,i,none⟩ (.slice A l.length c)) g n (ms.set i l):=by
 have hl:=h.len;have keep:∀(f:List Addr) v l,Ag w f v l→(∀a,a∈f→a.block≠g)→Ag (w.setCell ⟨g,i,none⟩ (.slice A l.length c)) f v l:=fun f v l h1 h2 => rSl.keep Ai.local_ h1 fun a ha => World.cell?_setCell_other _ _ _ _ (fun e => h2 a ha (by rw[← e]))
 have keep2:∀u (f:List Addr) v l,Ag w f v l→(∀a,a∈f→a.block≠g)→Ag (w.setCell ⟨g,i,none⟩ u) f v l:=fun u f v l h1 h2 => rSl.keep Ai.local_ h1 fun a ha => World.cell?_setCell_other _ _ _ _ (fun e => h2 a ha (by rw[← e]))
 refine⟨by simp[hl],by simpa [World.setCell]using h.lt,fun k hk => ?_,fun k hk => by rw[World.frozen?_setCell];exact h.free k hk⟩;obtain⟨A2,c2,f2,h1,h2,h3⟩:=h.row k hk;by_cases e:i=k
 ·subst e;have e2:(ms.set i l).getD i [] =l:=by simp[aJ,hl,hi]
  rw[e2];exact⟨A,c,f,World.cell?_setCell_same _ _ _ h1,keep2 _ _ _ _ hr hf,hf⟩
 ·have e2:(ms.set i l).getD k [] =ms.getD k []:=by simp[aJ,List.getElem?_set_ne e]
  rw[e2];exact⟨A2,c2,f2,(World.cell?_setCell_other _ _ _ _ (fun e3 => e (by injection e3))).trans h1,keep2 _ _ _ _ h2 h3,h3⟩
theorem Mat.drewN {w:World} {g n:Nat} {ms:List (List UInt8)}(h:Mat w g n ms)(k:Nat):Mat (w.drewN k) g n ms:=⟨h.len,h.lt,h.row,h.free⟩
theorem Mat.drew_ {w:World} {g n:Nat} {ms:List (List UInt8)}(h:Mat w g n ms):Mat w.drew g n ms:=⟨h.len,h.lt,h.row,h.free⟩
