/- Part 10 of the proof. -/
import Derived.Test.YtofeknacbdcoaaaGreatDoorK09
import Derived.Deep.DeepCutAuto
import Derived.Deep.RegionHeld3
import Derived.Deep.RegionLaw
set_option maxHeartbeats 8000000
set_option maxRecDepth 100000
set_option linter.unusedVariables false
set_option linter.unusedSimpArgs false
open Go.Proofs.Tryz
open Go.Value (int)
open Go.IntKind (i64)
namespace Go.Proofs.YtofeknacbdcoaaaGreatDoor
open Go.RowKit Go.Lib Go.Sort
theorem Nt(j)(c:UInt8){P:Prop}(h1:(97:Int)<=(c.toNat:Int)->(c.toNat:Int)<=122->¬(c.toNat:Int)<97->¬(122:Int)<(c.toNat:Int)->¬(c.toNat:Int)<48->(57:Int)<(c.toNat:Int)->C8 j c=true->P)(i:(97:Int)<=(c.toNat:Int)->¬(c.toNat:Int)<=122->¬(c.toNat:Int)<97->(122:Int)<(c.toNat:Int)->¬(c.toNat:Int)<48->(57:Int)<(c.toNat:Int)->((j:Int) == 0)=true->¬(0:Int)<(j:Int)->C8 j c=false->P)(l:(97:Int)<=(c.toNat:Int)->¬(c.toNat:Int)<=122->¬(c.toNat:Int)<97->(122:Int)<(c.toNat:Int)->¬(c.toNat:Int)<48->(57:Int)<(c.toNat:Int)->((j:Int) == 0)=false->(0:Int)<(j:Int)->C8 j c=false->P)(h4:¬(97:Int)<=(c.toNat:Int)->(c.toNat:Int)<=122->(c.toNat:Int)<97->¬(122:Int)<(c.toNat:Int)->¬(c.toNat:Int)<48->(57:Int)<(c.toNat:Int)->((j:Int) == 0)=true->¬(0:Int)<(j:Int)->C8 j c=false->P)(n:¬(97:Int)<=(c.toNat:Int)->(c.toNat:Int)<=122->(c.toNat:Int)<97->¬(122:Int)<(c.toNat:Int)->¬(c.toNat:Int)<48->(57:Int)<(c.toNat:Int)->((j:Int) == 0)=false->(0:Int)<(j:Int)->C8 j c=false->P)(o:¬(97:Int)<=(c.toNat:Int)->(c.toNat:Int)<=122->(c.toNat:Int)<97->¬(122:Int)<(c.toNat:Int)->¬(c.toNat:Int)<48->¬(57:Int)<(c.toNat:Int)->((j:Int) == 0)=true->¬(0:Int)<(j:Int)->C8 j c=false->P)(p:¬(97:Int)<=(c.toNat:Int)->(c.toNat:Int)<=122->(c.toNat:Int)<97->¬(122:Int)<(c.toNat:Int)->¬(c.toNat:Int)<48->¬(57:Int)<(c.toNat:Int)->((j:Int) == 0)=false->(0:Int)<(j:Int)->C8 j c=true->P)(q:¬(97:Int)<=(c.toNat:Int)->(c.toNat:Int)<=122->(c.toNat:Int)<97->¬(122:Int)<(c.toNat:Int)->(c.toNat:Int)<48->¬(57:Int)<(c.toNat:Int)->((j:Int) == 0)=true->¬(0:Int)<(j:Int)->C8 j c=false->P)(r:¬(97:Int)<=(c.toNat:Int)->(c.toNat:Int)<=122->(c.toNat:Int)<97->¬(122:Int)<(c.toNat:Int)->(c.toNat:Int)<48->¬(57:Int)<(c.toNat:Int)->((j:Int) == 0)=false->(0:Int)<(j:Int)->C8 j c=false->P):P:=by
 have s:C8 j c=decide ((97<=c.toNat/\c.toNat<=122)∨(0<j/\48<=c.toNat/\c.toNat<=57)):=by
  unfold C8 letB digB;rw[Bool.eq_iff_iff];simp
 rw[s]at h1 i l h4 n o p q r;simp only[bG,decide_eq_false_iff_not]at h1 i l h4 n o p q r;have f:j=0->((j:Int) == 0)=true:=fun h => by rw[h];rfl
 have e:¬j=0->((j:Int) == 0)=false:=fun h => by rw[beq_eq_false_iff_ne];omega
 by_cases a:97<=c.toNat
 ·by_cases b:c.toNat<=122
  ·exact h1 zZ zZ zZ zZ zZ zZ zZ
  ·by_cases z:j=0
   ·exact i zZ zZ zZ zZ zZ zZ (f z) zZ zZ
   ·exact l zZ zZ zZ zZ zZ zZ (e z) zZ zZ
 ·by_cases b:57<c.toNat
  ·by_cases z:j=0
   ·exact h4 zZ zZ zZ zZ zZ zZ (f z) zZ zZ
   ·exact n zZ zZ zZ zZ zZ zZ (e z) zZ zZ
  ·by_cases d:48<=c.toNat
   ·by_cases z:j=0
    ·exact o zZ zZ zZ zZ zZ zZ (f z) zZ zZ
    ·exact p zZ zZ zZ zZ zZ zZ (e z) zZ zZ
   ·by_cases z:j=0
    ·exact q zZ zZ zZ zZ zZ zZ (f z) zZ zZ
    ·exact r zZ zZ zZ zZ zZ zZ (e z) zZ zZ
theorem Ih(s:ByteArray)(w:World)(hs:s.size<=9223372036854775807):
  Calls prog 208 #[.string s] w (zN (int i64 (Bu s.data.toList)) w):=by
 have aa:s.data.toList.length=s.size:=by simp
 have l:=zq aa;obtain⟨r,hr⟩:∃r,Bu s.data.toList=r:=zJ;rw[hr];have HR:=zq hr;clear aa hr;go_enter func208,ntmps208
 go_wp2
 go_loopw [7,3,4] (fun i _ _ wr =>∃j:Nat,j<=s.size/\i=j/\Hid (Fe s.data.toList j)/\Hid (Below w w wr)) (fun i _ _ _ => s.size - (intOf i).toNat)
 ·exact⟨0,by omega,rfl,KV _,aC _ _⟩
 ·obtain⟨j,hj,rfl,HS,HB⟩:=hrel;by_cases n:j<s.size
  ·have ac:(j:Int)<(s.size:Int):=by omega
   have z:j<s.data.toList.length:=by rw[l.o];exact n
   have y:s.data.toList[j] =s[j]'n:=by simp[ByteArray.getElem_eq_getElem_data]
   have u:=zq (show C8 j (s[j]'n)=false->r=5 from fun h => HR.o.symm.T (Hs z (by rw[y];exact h)));have x:=zq (show C8 j (s[j]'n)=true->Fe s.data.toList (j+1)from fun h => KU HS.o z (by rw[y];exact h));clear z y;refine Nt j (s[j]'n) ?_ ?_ ?_ ?_ ?_ ?_ ?_ ?_ ?_;case refine_1 =>
    intro a1 a2 a3 a4 a5 a6 p;have f:=zq (x.o p);clear p;go_wp2
    go_roundw
    ·exact⟨j+1,by omega,by go_num,f.o,HB.o⟩
    ·simp[intOf];omega
   case refine_7 =>
    intro a1 a2 a3 a4 a5 a6 a7 a8 p;have f:=zq (x.o p);clear p;go_wp2
    go_roundw
    ·exact⟨j+1,by omega,by go_num,f.o,HB.o⟩
    ·simp[intOf];omega
   all_goals
    intros
    have e1:=u.o (by assumption);subst e1;clear u x;go_wp2
    go_ret
    exact⟨rfl,HB.o⟩
  ·obtain rfl:j=s.size:=by omega
   have c:=HS.o;rw[<-l.o]at c;by_cases q:Ap (s.size:Int) 1 8=true
   ·have e1:r=0:=by
     have ab:=BF q;rw[<-HR.o];exact KM c (by rw[l.o];omega) (by rw[l.o];omega)
    subst e1;have HI:=zq (By (s.size:Int) 1 8);rw[q]at HI;clear q c;go_wp2_with (go_at_call 95;refine(HI.o _).M ?_;rintro e w' ⟨rfl,rfl⟩)
    go_ret
    exact⟨rfl,HB.o⟩
   ·have q2:Ap (s.size:Int) 1 8=false:=by simpa using q
    have e1:r=5:=by
     rw[<-HR.o];refine Ht ?_;rw[l.o];by_cases h1:(1:Int)<=(s.size:Int)
     ·by_cases h2:(s.size:Int)<=8
      ·exact absurd (FD h1 h2) q
      ·omega
     ·omega
    subst e1;have HI:=zq (By (s.size:Int) 1 8);rw[q2]at HI;clear q q2 c;go_wp2_with (go_at_call 95;refine(HI.o _).M ?_;rintro e w' ⟨rfl,rfl⟩)
    go_ret
    exact⟨rfl,HB.o⟩
theorem Ir(s:ByteArray)(w:World)(hs:s.size<=9223372036854775807):
  Calls prog 124 #[.string s] w (zN (int i64 (Bu s.data.toList)) w):=by
 have ac:s.data.toList.length=s.size:=by simp
 have f:=zq ac;obtain⟨r,hr⟩:∃r,Bu s.data.toList=r:=zJ;rw[hr];have HR:=zq hr;clear ac hr;by_cases q1:1<=s.size
 ·by_cases q2:s.size<=8
  ·have u:0<s.size:=q1;have p:0<s.data.toList.length:=by rw[f.o];exact u
   have n:s.data.toList[0] =s[0]'u:=by simp[ByteArray.getElem_eq_getElem_data]
   have c:=zq (show C8 0 (s[0]'u)=false->r=5 from fun h => HR.o.symm.T (Hs p (by rw[n];exact h)));have b1:¬(s.size:Int)<1:=by omega
   have b2:¬(8:Int)<(s.size:Int):=by omega
   have b3:(0:Int)<(s.size:Int):=by omega
   clear p n;have hq:((97:Int)<=((s[0]'u).toNat:Int)/\((s[0]'u).toNat:Int)<=122)∨(((s[0]'u).toNat:Int)<97)∨(¬((s[0]'u).toNat:Int)<97/\(122:Int)<((s[0]'u).toNat:Int)):=by omega
   rcases hq with⟨a1,a2⟩|a1|⟨a1,a2⟩
   ·have a3:¬((s[0]'u).toNat:Int)<97:=by omega
    have a4:¬(122:Int)<((s[0]'u).toNat:Int):=by omega
    clear c;have ad:=zq (show C8 0 (s[0]'u)=true from by unfold C8 letB;simp;omega);go_enter func124,ntmps124
    go_wp2_with fail
    clear a1 a2 a3 a4 b1 b2 b3;go_loopw [3] (fun i wr =>∃j:Nat,j<=s.size/\i=j/\Hid (Fe s.data.toList j)/\Hid (Below w w wr)) (fun i _ => s.size - (intOf i).toNat)
    ·exact⟨0,by omega,rfl,KV _,aC _ _⟩
    ·obtain⟨j,hj,rfl,HS,HB⟩:=hrel;by_cases y:j<s.size
     ·have af:(j:Int)<(s.size:Int):=by omega
      have p:j<s.data.toList.length:=by rw[f.o];exact y
      have n:s.data.toList[j] =s[j]'y:=by simp[ByteArray.getElem_eq_getElem_data]
      have aa:=zq (show C8 j (s[j]'y)=false->r=5 from fun h => HR.o.symm.T (Hs p (by rw[n];exact h)));have ab:=zq (show C8 j (s[j]'y)=true->Fe s.data.toList (j+1)from fun h => KU HS.o p (by rw[n];exact h));clear p n;refine Nt j (s[j]'y) ?_ ?_ ?_ ?_ ?_ ?_ ?_ ?_ ?_;case refine_1 =>
       intro a1 a2 a3 a4 a5 a6 l;have q:=zq (ab.o l);clear l;go_wp2
       go_roundw
       ·exact⟨j+1,by omega,by go_num,q.o,HB.o⟩
       ·simp[intOf];omega
      case refine_7 =>
       intro a1 a2 a3 a4 a5 a6 a7 a8 l;have q:=zq (ab.o l);clear l;go_wp2
       go_roundw
       ·exact⟨j+1,by omega,by go_num,q.o,HB.o⟩
       ·simp[intOf];omega
      case refine_6 =>
       intro a1 a2 a3 a4 a5 a6 a7 a8 l;have ae:j=0:=by have:=beq_iff_eq.1 a7;omega
       subst ae;exact absurd (ad.o.symm.T l) zW
      all_goals
       intros
       have z:=aa.o (by assumption);subst z;clear aa ab;go_wp2
       go_ret
       exact⟨rfl,HB.o⟩
     ·obtain rfl:j=s.size:=by omega
      have x:=HS.o;rw[<-f.o]at x;have z:r=0:=by
       rw[<-HR.o];exact KM x (by rw[f.o];omega) (by rw[f.o];omega)
      subst z;clear x;go_wp2
      go_ret
      exact⟨rfl,HB.o⟩
   all_goals
    have z:r=5:=c.o (by
     unfold C8 letB;simp;omega)
    subst z;clear c;go_enter func124,ntmps124
    go_wp2
    go_ret
    exact⟨rfl,aC _ _⟩
  ·have b1:¬(s.size:Int)<1:=by omega
   have b2:(8:Int)<(s.size:Int):=by omega
   have z:r=5:=by rw[<-HR.o];exact Ht (by rw[f.o];omega)
   subst z;go_enter func124,ntmps124
   go_wp2
   go_ret
   exact⟨rfl,aC _ _⟩
 ·have b1:(s.size:Int)<1:=by omega
  have z:r=5:=by rw[<-HR.o];exact Ht (by rw[f.o];omega)
  subst z;go_enter func124,ntmps124
  go_wp2
  go_ret
  exact⟨rfl,aC _ _⟩
theorem IK(s:Sh)(h:s.Ok)(w:World):
  Calls prog 205 #[shV s] w (zN (int i64 (s.data * 4)) w):=by
 obtain⟨c,f⟩:=h.data;unfold shV;go_enter func205,ntmps205
 go_wp2
 go_ret
 exact⟨rfl,(aC _ _).alloc (aD _) _⟩
theorem Jn(s:Sh)(h:s.Ok)(w:World):
  Calls prog 126 #[shV s] w (zN (int i64 (s.data * 4)) w):=by
 obtain⟨c,f⟩:=h.data;unfold shV;go_enter func126,ntmps126
 go_wp2
 go_ret
 exact⟨rfl,(aC _ _).alloc (aD _) _⟩
def C3(s:Sh)(n:Int):Int:=if n<1 then 6 else if 12 * s.data<n then 2 else 0
theorem JC {s}{n:Int}:C3 s n=0↔Ef s n=true:=by
 unfold C3 Ef;rw[decide_eq_true_iff];split
 ·constructor
  ·intro h;cases h
  ·intro h;omega
 ·split
  ·constructor
   ·intro h;cases h
   ·intro h;omega
  ·constructor
   ·intro _;omega
   ·intro _;rfl
theorem l4Long_c(s:Sh)(h:s.Ok)(n)(w:World):
  Calls prog 179 #[shV s,int i64 n] w (zN (int i64 (C3 s n)) w):=by
 obtain⟨a1,a2⟩:=h.data;obtain⟨u,x,i⟩:=zI (fun W => Jn s h W) (Blk.rangeAll (cs:=[s.g,s.c,s.data,s.p,s.rows,s.cap,s.b,s.q,s.t]) (Blk.new w 38 s)) ((aC w w).alloc (aD _) (.cells s 38));unfold shV at u⊢;unfold C3;by_cases y:n<1
 ·rw[aM y];go_enter func179,ntmps179
  go_wp2
  go_ret
  exact⟨rfl,i.o⟩
 ·rw[aJ y];by_cases l:12 * s.data<n
  ·rw[aM l];have q3:3 * (s.data * 4)<n:=by omega
   have z:IntKind.i64.wrap (3 * (s.data * 4))=3 * (s.data * 4):=IntWalk.i64_in _ zZ;clear l;go_enter func179,ntmps179
   go_wp2_with (first
    |(refine aE rfl 38 _ rfl w 0 rfl _ _ x.o underlying38 rfl zY ?_)
    |(go_at_call 126;refine(u.o _).M ?_;rintro e w1 ⟨rfl,f⟩;have r:=zq f;clear f))
   go_ret
   exact⟨rfl,i.o.T (r.o.M zX)⟩
  ·rw[aJ l];have q3:¬3 * (s.data * 4)<n:=by omega
   have z:IntKind.i64.wrap (3 * (s.data * 4))=3 * (s.data * 4):=IntWalk.i64_in _ zZ;clear l;go_enter func179,ntmps179
   go_wp2_with (first
    |(refine aE rfl 38 _ rfl w 0 rfl _ _ x.o underlying38 rfl zY ?_)
    |(go_at_call 126;refine(u.o _).M ?_;rintro e w1 ⟨rfl,f⟩;have r:=zq f;clear f))
   go_ret
   exact⟨rfl,i.o.T (r.o.M zX)⟩
theorem Se {s:Sh}(h:s.Ok){n:Int}(h1:1<=n):(n+s.data * 4 - 1).tdiv (s.data * 4)=Dd s n:=by
 obtain⟨c,e⟩:=h.data;rw[Int.tdiv_eq_ediv_of_nonneg zZ,show n+s.data * 4 - 1=(n - 1)+1 * (s.data * 4) by omega,Int.add_mul_ediv_right _ _ zZ,Int.mul_comm s.data 4];rfl
theorem Sf {s:Sh}(h:s.Ok){n:Int}(h1:1<=n):(n - 1).tdiv (s.data * 4)+1=Dd s n:=by
 obtain⟨c,e⟩:=h.data;rw[Int.tdiv_eq_ediv_of_nonneg zZ,Int.mul_comm s.data 4];rfl
theorem Nw {s:Sh}(h:s.Ok){n:Int}(h1:1<=n):1<=Dd s n/\Dd s n<=n:=by
 obtain⟨c,e⟩:=h.data;unfold Dd;have f:0<=(n - 1) / (4 * s.data):=Int.ediv_nonneg zZ zZ;have i:(n - 1) / (4 * s.data)<=n - 1:=Int.ediv_le_self _ zZ;omega
theorem Tu(s:Sh)(h:s.Ok)(n:Int)(h1:1<=n)(h2:n<=1000000000)(w:World):
  Calls prog 180 #[shV s,int i64 n] w (zN (int i64 (Dd s n)) w):=by
 obtain⟨x,y⟩:=h.data;obtain⟨g1,g2⟩:=Nw h h1;have hq:=Se h h1;have K:=Blk.new w 38 s;have f:=zq ((aC w w).alloc (aD _) (.cells s 38));obtain⟨l,i⟩:∃l,w.alloc (.cells s 38)=l:=zJ;rw[i]at K f;have c0:=aB ((K.cell 0).T rfl);have c1:=aB ((K.cell 1).T rfl);have c2:=aB ((K.cell 2).T rfl);have c3:=aB ((K.cell 3).T rfl);have c4:=aB ((K.cell 4).T rfl);have c5:=aB ((K.cell 5).T rfl);have c6:=aB ((K.cell 6).T rfl);have c7:=aB ((K.cell 7).T rfl);have c8:=aB ((K.cell 8).T rfl);have u:=zq (AR (w:=l) (fun W _ => Jn s h W));unfold shV at u⊢;have z:IntKind.i64.wrap (n+s.data * 4)=n+s.data * 4:=IntWalk.i64_in _ zZ;have e2:IntKind.i64.wrap (n+s.data * 4 - 1)=n+s.data * 4 - 1:=IntWalk.i64_in _ zZ;have e3:(s.data * 4 == 0)=false:=by rw[beq_eq_false_iff_ne];omega
 have e4:¬s.data * 4=0:=by omega
 have e5:IntKind.i64.wrap ((n+s.data * 4 - 1).tdiv (s.data * 4))=Dd s n:=by rw[hq];exact IntWalk.i64_in _ zZ
 clear K hq g1 g2;go_enter func180,ntmps180
 go_wp2_with fail
 try rw[i]
 clear i
 (refine aF zY zY ?_;(repeat go_big_quiet_step (first|exact u.o _ _));refine aQ ?_)
 rintro _ ⟨⟨dq,osq⟩,rfl⟩;have r:=zq (f.o.T ((aI l dq osq).M f.o.size));go_wp2
 go_ret
 exact⟨rfl,r.o⟩
theorem parts_c(s:Sh)(h:s.Ok)(n)(hn:okI n)(w:World):
  Calls prog 247 #[shV s,int i64 n] w fun e w' => e= .returned (.tuple #[int i64 (if C3 s n=0 then Dd s n else 0),int i64 (C3 s n)])/\Below w w w':=by
 obtain⟨a1,a2⟩:=h.data;have l:okI n:=hn;have aa:=l.1;have ab:=l.2;obtain⟨HC,HK,r⟩:=zI (fun W => IK s h W) (Blk.rangeAll (cs:=[s.g,s.c,s.data,s.p,s.rows,s.cap,s.b,s.q,s.t]) (Blk.new w 38 s)) ((aC w w).alloc (aD _) (.cells s 38));unfold shV at HC⊢;by_cases q1:n<1
 ·have u:C3 s n=6:=by unfold C3;rw[aM q1]
  rw[u,aJ zZ];clear l hn;go_enter func247,ntmps247
  go_wp2
  go_ret2
  exact⟨rfl,r.o⟩
 ·obtain⟨g1,g2⟩:=Nw h (show 1<=n by omega);have hq:=Sf h (show 1<=n by omega);have i:=J8 h (show 1<=n by omega);obtain⟨t,y⟩:∃t,(n - 1).tdiv (s.data * 4)=t:=zJ;rw[y]at hq;obtain⟨N,x⟩:∃N,Dd s n=N:=zJ;rw[x]at hq g1 g2 i;have e0:IntKind.i64.wrap (n - 1)=n - 1:=IntWalk.i64_in _ zZ;have e2:IntKind.i64.wrap ((n - 1).tdiv (s.data * 4))=t:=by rw[y];exact IntWalk.i64_in _ zZ
  have e3:(s.data * 4 == 0)=false:=by rw[beq_eq_false_iff_ne];omega
  have e4:¬s.data * 4=0:=by omega
  have e5:IntKind.i64.wrap (t+1)=N:=by rw[hq];exact IntWalk.i64_in _ zZ
  by_cases z:12 * s.data<n
  ·have u:C3 s n=2:=by unfold C3;rw[aJ q1,aM z]
   have q3:3<N:=by by_cases c:N<=3;exact absurd (i.1 c) zZ;omega
   rw[u,aJ zZ];clear l hn i y x hq z u;go_enter func247,ntmps247
   go_wp2_with (first
    |(refine aE rfl 38 _ rfl w 0 rfl _ _ HK.o underlying38 rfl zY ?_)
    |(go_at_call 205;refine(HC.o _).M ?_;rintro e w1 ⟨rfl,f⟩;have B1:=zq f;clear f))
   go_ret2
   exact⟨rfl,r.o.T (B1.o.M zX)⟩
  ·have u:C3 s n=0:=by unfold C3;rw[aJ q1,aJ z]
   have q3:¬3<N:=by have:=i.2 zZ;omega
   rw[u,aM rfl,x];clear l hn i y x hq z u;go_enter func247,ntmps247
   go_wp2_with (first
    |(refine aE rfl 38 _ rfl w 0 rfl _ _ HK.o underlying38 rfl zY ?_)
    |(go_at_call 205;refine(HC.o _).M ?_;rintro e w1 ⟨rfl,f⟩;have B1:=zq f;clear f))
   go_ret2
   exact⟨rfl,r.o.T (B1.o.M zX)⟩
structure Cn (W:World) (p:Nat) (s:Sh):Prop where
 rng:W.rangeAt p 0 s
 c0:W.cell? ⟨p,0,none⟩=some (int i64 s.g)
 c1:W.cell? ⟨p,1,none⟩=some (int i64 s.c)
 c2:W.cell? ⟨p,2,none⟩=some (int i64 s.data)
 c3:W.cell? ⟨p,3,none⟩=some (int i64 s.p)
 c4:W.cell? ⟨p,4,none⟩=some (int i64 s.rows)
 c5:W.cell? ⟨p,5,none⟩=some (int i64 s.cap)
 c6:W.cell? ⟨p,6,none⟩=some (int i64 s.b)
 c7:W.cell? ⟨p,7,none⟩=some (int i64 s.q)
 c8:W.cell? ⟨p,8,none⟩=some (int i64 s.t)
 lt:p<W.heap.size
theorem Cn.of {W p t}{s:Sh}(K:Blk W p t s):Cn W p s :=
 ⟨Blk.rangeAll K,(K.cell 0).T rfl,(K.cell 1).T rfl,(K.cell 2).T rfl,(K.cell 3).T rfl,(K.cell 4).T rfl,(K.cell 5).T rfl,(K.cell 6).T rfl,(K.cell 7).T rfl,(K.cell 8).T rfl,K.lt⟩
theorem Cn.B {W c p s}(h:Cn W p s)(hb:Below W W c):Cn c p s :=
 ⟨fun j v e =>(hb.cell (p:=⟨p,0+j,none⟩) h.lt).T (h.rng j v e),(hb.cell (p:=⟨p,0,none⟩) h.lt).T h.c0,(hb.cell (p:=⟨p,1,none⟩) h.lt).T h.c1,(hb.cell (p:=⟨p,2,none⟩) h.lt).T h.c2,(hb.cell (p:=⟨p,3,none⟩) h.lt).T h.c3,(hb.cell (p:=⟨p,4,none⟩) h.lt).T h.c4,(hb.cell (p:=⟨p,5,none⟩) h.lt).T h.c5,(hb.cell (p:=⟨p,6,none⟩) h.lt).T h.c6,(hb.cell (p:=⟨p,7,none⟩) h.lt).T h.c7,(hb.cell (p:=⟨p,8,none⟩) h.lt).T h.c8,aH h.lt hb.size⟩
structure DC (W:World) (p:Nat) (x:Aj) (v0 v1 v2:Value):Prop where
 rng:W.rangeAt p 0 (zK x v0 v1 v2)
 c0:W.cell? ⟨p,0,none⟩=some (int i64 x.kind)
 c1:W.cell? ⟨p,1,none⟩=some (int i64 x.seq)
 c2:W.cell? ⟨p,2,none⟩=some (.string x.name)
 c3:W.cell? ⟨p,3,none⟩=some (int i64 x.length)
 c4:W.cell? ⟨p,4,none⟩=some (int i64 x.group)
 c5:W.cell? ⟨p,5,none⟩=some (int i64 x.row)
 c6:W.cell? ⟨p,6,none⟩=some v0
 c7:W.cell? ⟨p,7,none⟩=some v1
 c8:W.cell? ⟨p,8,none⟩=some v2
 lt:p<W.heap.size
theorem DC.of {W p t x c e v2}(K:Blk W p t (zK x c e v2)):DC W p x c e v2 :=
 ⟨Blk.rangeAll K,(K.cell 0).T rfl,(K.cell 1).T rfl,(K.cell 2).T rfl,(K.cell 3).T rfl,(K.cell 4).T rfl,(K.cell 5).T rfl,(K.cell 6).T rfl,(K.cell 7).T rfl,(K.cell 8).T rfl,K.lt⟩
theorem DC.B {W c p x e f v2}(h:DC W p x e f v2)(hb:Below W W c):DC c p x e f v2 :=
 ⟨fun j v i =>(hb.cell (p:=⟨p,0+j,none⟩) h.lt).T (h.rng j v i),(hb.cell (p:=⟨p,0,none⟩) h.lt).T h.c0,(hb.cell (p:=⟨p,1,none⟩) h.lt).T h.c1,(hb.cell (p:=⟨p,2,none⟩) h.lt).T h.c2,(hb.cell (p:=⟨p,3,none⟩) h.lt).T h.c3,(hb.cell (p:=⟨p,4,none⟩) h.lt).T h.c4,(hb.cell (p:=⟨p,5,none⟩) h.lt).T h.c5,(hb.cell (p:=⟨p,6,none⟩) h.lt).T h.c6,(hb.cell (p:=⟨p,7,none⟩) h.lt).T h.c7,(hb.cell (p:=⟨p,8,none⟩) h.lt).T h.c8,aH h.lt hb.size⟩
theorem Dl(A n c)(w:World):Calls prog 204 #[.slice A n c] w (zM (int i64 (n:Int)) w):=by
 go_enter func204,ntmps204
 go_wp2
 go_ret
 exact⟨rfl,rfl⟩
theorem Nl(s)(r:Aj)(o:Ef s r.length=true)(n:¬r.length= -1)(P:Prop)(c:r.data.length=0->(r.rows.length:Int)=Dd s r.length->Cv s r=DA r.rows (s.rows - 1)->P)(f:r.data.length=0->¬(r.rows.length:Int)=Dd s r.length->Cv s r=false->P)(h:¬r.data.length=0->(r.data.length:Int)=r.length->r.rows.length=0->Cv s r=true->P)(i:¬r.data.length=0->(r.data.length:Int)=r.length->¬r.rows.length=0->Cv s r=false->P)(l:¬r.data.length=0->¬(r.data.length:Int)=r.length->Cv s r=false->P):P:=by
 unfold Cv at c f h i l;rw[aJ n,o,Bool.true_and]at c f h i l;by_cases z:r.data.length=0
 ·rw[aJ zZ]at c f;by_cases y:(r.rows.length:Int)=Dd s r.length
  ·exact c z y (by rw[aN y];rfl)
  ·exact f z y (by rw[aG y];rfl)
 ·rw[aM zZ]at h i l;by_cases d:(r.data.length:Int)=r.length
  ·by_cases e:r.rows.length=0
   ·exact h z d e (by rw[aN d,aN e];rfl)
   ·exact i z d e (by rw[aN d,aG e];rfl)
  ·exact l z d (by rw[aG d];rfl)
theorem IU {n:Nat}(h:n=0):((n:Int) == 0)=true:=by rw[h];rfl
theorem FB {n:Nat}(h:¬n=0):((n:Int) == 0)=false:=by rw[beq_eq_false_iff_ne];omega
theorem l5Item_c(s:Sh)(hs:s.Ok)(x cs f w)(h:Af w f cs x):
  Calls prog 125 #[shV s,.agg cs] w (zN (.bool (Cv s x)) w):=by
 dsimp only[Af]at h;obtain⟨v0,v1,v2,f0,f1,f2,rfl,rfl,o0,o1,o2,o3,o4,o5,h0,h1,h2⟩:=h;obtain⟨A0,c0,rfl,k0,m0⟩:=rSl.head h0;obtain⟨A1,c1,rfl,k1,m1⟩:=rSl.head h1;obtain⟨A2,c2,rfl,k2,m2⟩:=rSl.head h2;obtain⟨H0,H1,H2⟩:=zI h0 h1 h2;obtain⟨nR,au⟩:∃nR,x.rows.length=nR:=zJ;obtain⟨nD,aq⟩:∃nD,x.data.length=nD:=zJ;obtain⟨nE,ar⟩:∃nE,x.delta.length=nE:=zJ;obtain⟨aw,av,a2⟩:=zI au aq ar;rw[au]at H0 k0⊢;rw[aq]at H1 k1⊢;rw[ar]at H2 k2⊢;have K1:=(Blk.new w 38 s).alloc (.cells (yZ x A0 nR c0 A1 nD c1 A2 nE c2) 105);have K2:=Blk.new1 w (.cells s 38) 105 (yZ x A0 nR c0 A1 nD c1 A2 nE c2);have hB:Below w w ((w.alloc (.cells s 38)).alloc (.cells (yZ x A0 nR c0 A1 nD c1 A2 nE c2) 105)):=((aC _ _).alloc (aD _) _).alloc zX _;have HB:=zq hB;have S2:=Cn.of K1;have R2:=DC.of K2;have HS:=zq S2;have ac:=zq R2;clear h0 h1 h2 au aq ar K1 K2 hB;have am:=zq (Nl s x);obtain⟨b,hb⟩:∃b,Cv s x=b:=zJ;rw[hb]at am⊢;have ad:=zq hb;have a4:=HS.o.lt;have a5:=ac.o.lt;rw[aw.o,av.o]at am;unfold shV;by_cases q1:x.length= -1
 ·have hq:(x.length == -1)=true:=ED q1;have r:(decide (nD=0) && decide (nR=0))=b:=by
   have:=ad.o;unfold Cv at this;rw[aM q1,av.o,aw.o]at this;exact this
  clear hb;have go:∀b':Bool,b'=b->Calls prog 125 #[.agg s,.agg (yZ x A0 nR c0 A1 nD c1 A2 nE c2)] w (zN (.bool b') w)->Calls prog 125 #[.agg s,.agg (yZ x A0 nR c0 A1 nD c1 A2 nE c2)] w (zN (.bool b) w):=fun b' e h => by rw[<-e];exact h
  by_cases q2:nD=0
  ·have a0:=IU q2;by_cases q3:nR=0
   ·refine go true (by rw[<-r,aN q2,aN q3];rfl) ?_;have a1:=IU q3;clear go r q2 q3 q1;go_enter func125,ntmps125
    go_wp2
    go_ret
    exact⟨rfl,HB.o⟩
   ·refine go false (by rw[<-r,aN q2,aG q3];rfl) ?_;have a1:=FB q3;clear go r q2 q3 q1;go_enter func125,ntmps125
    go_wp2
    go_ret
    exact⟨rfl,HB.o⟩
  ·have a0:=FB q2;refine go false (by rw[<-r,aG q2];rfl) ?_;clear go r q2 q1;go_enter func125,ntmps125
   go_wp2
   go_ret
   exact⟨rfl,HB.o⟩
 ·have hq:(x.length == -1)=false:=Dp q1;have ab:=zq (l4Long_c s hs x.length ((w.alloc (.cells s 38)).alloc (.cells (yZ x A0 nR c0 A1 nD c1 A2 nE c2) 105)));have an:=zq (JC (s:=s) (n:=x.length));obtain⟨lc,ap⟩:∃lc,C3 s x.length=lc:=zJ;rw[ap]at ab an;unfold shV at ab;have r3:=ac.o.c3;have r7:=ac.o.c7;by_cases q2:lc=0
  ·have hp:Ef s x.length=true:=an.o.1 q2;have ax:1<=x.length/\x.length<=12 * s.data:=by unfold Ef at hp;exact bE hp
   obtain⟨d1,d2⟩:=hs.data;obtain⟨e1,e2⟩:=hs.rows;have aa:=am.o hp q1;rw[q2]at ab;have ae:=zq (fun(W:World) => Tu s hs x.length ax.1 zZ W);have ak:=zq (fun(W:World) (hW:Below w w W) => J3 _ x.rows (s.rows - 1) f0 W (rSl.B Aw.L Aw.X H0.o hW));have ew:IntKind.i64.wrap (s.rows - 1)=s.rows - 1:=IntWalk.i64_in _ zZ;obtain⟨pn,ay⟩:∃pn,Dd s x.length=pn:=zJ;rw[ay]at ae aa;unfold shV at ae;clear q2 hp ax d1 d2 e1 e2 ay ap hb hs;refine aa _ ?_ ?_ ?_ ?_ ?_
   ·intro z y r;have y':((nR:Int) == pn)=true:=ED y;have z1:¬(0:Int)<(nD:Int):=by omega
    have z2:¬0<nD:=by omega
    rw[<-r]at ak;clear aa z y q1 r ad;go_enter func125,ntmps125
    go_wp2_with (first
   |(refine aE rfl 38 _ rfl w 0 rfl _ _ HS.o.rng underlying38 rfl zY ?_)
   |(go_at_call 179;refine ab.o.M ?_;rintro e w3 ⟨rfl,u⟩;have i:=HS.o.B u;have l:=ac.o.B u;have B3:=zq (HB.o.T (u.M HB.o.size));have x3:=l.c3;have x6:=l.c6;have x7:=l.c7;have ai:=aB x3;have aj:=aB x6;have t0:=aB i.c0;have t1:=aB i.c1;have t2:=aB i.c2;have t3:=aB i.c3;have t4:=aB i.c4;have t5:=aB i.c5;have t6:=aB i.c6;have t7:=aB i.c7;have t8:=aB i.c8;have y4:=i.c4;have ag:=l.lt;have ah:=i.lt;have af:=zq i;clear u i l))
    have ao:=zq (AR (w:=w3) (fun W _ => ae.o W));have az:=zq (AR (w:=w3) (fun W hW => ak.o W (B3.o.T (hW.M B3.o.size))));clear ae ak
    (refine aF zY zY ?_;(repeat go_big_quiet_step (first|exact ao.o _ _|exact az.o _ _));refine aQ ?_)
    rintro _ ⟨⟨dq,osq⟩,rfl⟩;have al:=zq (B3.o.T ((aI w3 dq osq).M B3.o.size));go_wp2
    go_ret
    exact⟨rfl,al.o⟩
   ·intro z y r;have y':((nR:Int) == pn)=false:=Dp y;have z1:¬(0:Int)<(nD:Int):=by omega
    have z2:¬0<nD:=by omega
    subst r;clear aa z y q1 ad;go_enter func125,ntmps125
    go_wp2_with (first
   |(refine aE rfl 38 _ rfl w 0 rfl _ _ HS.o.rng underlying38 rfl zY ?_)
   |(go_at_call 179;refine ab.o.M ?_;rintro e w3 ⟨rfl,u⟩;have i:=HS.o.B u;have l:=ac.o.B u;have B3:=zq (HB.o.T (u.M HB.o.size));have x3:=l.c3;have x6:=l.c6;have x7:=l.c7;have ai:=aB x3;have aj:=aB x6;have t0:=aB i.c0;have t1:=aB i.c1;have t2:=aB i.c2;have t3:=aB i.c3;have t4:=aB i.c4;have t5:=aB i.c5;have t6:=aB i.c6;have t7:=aB i.c7;have t8:=aB i.c8;have y4:=i.c4;have ag:=l.lt;have ah:=i.lt;have af:=zq i;clear u i l))
    have ao:=zq (AR (w:=w3) (fun W _ => ae.o W));clear ae ak
    (refine aF zY zY ?_;(repeat go_big_quiet_step (first|exact ao.o _ _));refine aQ ?_)
    rintro _ ⟨⟨dq,osq⟩,rfl⟩;have al:=zq (B3.o.T ((aI w3 dq osq).M B3.o.size));go_wp2
    go_ret
    exact⟨rfl,al.o⟩
   ·intro z y g r;have y':((nD:Int) == x.length)=true:=ED y;have g':=IU g;have z1:(0:Int)<(nD:Int):=by omega
    have z2:0<nD:=by omega
    subst r;clear aa z y q1 g ad;go_enter func125,ntmps125
    go_wp2_with (first
   |(refine aE rfl 38 _ rfl w 0 rfl _ _ HS.o.rng underlying38 rfl zY ?_)
   |(go_at_call 179;refine ab.o.M ?_;rintro e w3 ⟨rfl,u⟩;have i:=HS.o.B u;have l:=ac.o.B u;have B3:=zq (HB.o.T (u.M HB.o.size));have x3:=l.c3;have x6:=l.c6;have x7:=l.c7;have ai:=aB x3;have aj:=aB x6;have t0:=aB i.c0;have t1:=aB i.c1;have t2:=aB i.c2;have t3:=aB i.c3;have t4:=aB i.c4;have t5:=aB i.c5;have t6:=aB i.c6;have t7:=aB i.c7;have t8:=aB i.c8;have y4:=i.c4;have ag:=l.lt;have ah:=i.lt;have af:=zq i;clear u i l))
    go_ret
    exact⟨rfl,B3.o⟩
   ·intro z y g r;have y':((nD:Int) == x.length)=true:=ED y;have g':=FB g;have z1:(0:Int)<(nD:Int):=by omega
    have z2:0<nD:=by omega
    subst r;clear aa z y q1 g ad;go_enter func125,ntmps125
    go_wp2_with (first
   |(refine aE rfl 38 _ rfl w 0 rfl _ _ HS.o.rng underlying38 rfl zY ?_)
   |(go_at_call 179;refine ab.o.M ?_;rintro e w3 ⟨rfl,u⟩;have i:=HS.o.B u;have l:=ac.o.B u;have B3:=zq (HB.o.T (u.M HB.o.size));have x3:=l.c3;have x6:=l.c6;have x7:=l.c7;have ai:=aB x3;have aj:=aB x6;have t0:=aB i.c0;have t1:=aB i.c1;have t2:=aB i.c2;have t3:=aB i.c3;have t4:=aB i.c4;have t5:=aB i.c5;have t6:=aB i.c6;have t7:=aB i.c7;have t8:=aB i.c8;have y4:=i.c4;have ag:=l.lt;have ah:=i.lt;have af:=zq i;clear u i l))
    go_ret
    exact⟨rfl,B3.o⟩
   ·intro z y r;have y':((nD:Int) == x.length)=false:=Dp y;have z1:(0:Int)<(nD:Int):=by omega
    have z2:0<nD:=by omega
    subst r;clear aa z y q1 ad;go_enter func125,ntmps125
    go_wp2_with (first
   |(refine aE rfl 38 _ rfl w 0 rfl _ _ HS.o.rng underlying38 rfl zY ?_)
   |(go_at_call 179;refine ab.o.M ?_;rintro e w3 ⟨rfl,u⟩;have i:=HS.o.B u;have l:=ac.o.B u;have B3:=zq (HB.o.T (u.M HB.o.size));have x3:=l.c3;have x6:=l.c6;have x7:=l.c7;have ai:=aB x3;have aj:=aB x6;have t0:=aB i.c0;have t1:=aB i.c1;have t2:=aB i.c2;have t3:=aB i.c3;have t4:=aB i.c4;have t5:=aB i.c5;have t6:=aB i.c6;have t7:=aB i.c7;have t8:=aB i.c8;have y4:=i.c4;have ag:=l.lt;have ah:=i.lt;have af:=zq i;clear u i l))
    go_ret
    exact⟨rfl,B3.o⟩
  ·have e1:b=false:=by
    have hp:Ef s x.length=false:=by
     cases h:Ef s x.length with
     |false => rfl
     |true => exact absurd (an.o.2 h) q2
    rw[<-ad.o];unfold Cv;rw[aJ q1,hp];rfl
   subst e1;have a3:(lc != 0)=true:=by simpa using q2
   clear ap hb hs;go_enter func125,ntmps125
   go_wp2_with (first
   |(refine aE rfl 38 _ rfl w 0 rfl _ _ HS.o.rng underlying38 rfl zY ?_)
   |(go_at_call 179;refine ab.o.M ?_;rintro e w3 ⟨rfl,u⟩;have i:=HS.o.B u;have l:=ac.o.B u;have B3:=zq (HB.o.T (u.M HB.o.size));have x3:=l.c3;have x6:=l.c6;have x7:=l.c7;have ai:=aB x3;have aj:=aB x6;have t0:=aB i.c0;have t1:=aB i.c1;have t2:=aB i.c2;have t3:=aB i.c3;have t4:=aB i.c4;have t5:=aB i.c5;have t6:=aB i.c6;have t7:=aB i.c7;have t8:=aB i.c8;have y4:=i.c4;have ag:=l.lt;have ah:=i.lt;have af:=zq i;clear u i l))
   go_ret
   exact⟨rfl,B3.o⟩
theorem FI(A n c)(w:World):Calls prog 149 #[.slice A n c] w (zM (int i64 (n:Int)) w):=by
 go_enter func149,ntmps149
 go_wp2
 go_ret
 exact⟨rfl,rfl⟩
def tkV(t:AA):Value:=.agg #[t.id,t.kind,.string t.name,t.group]
structure JJ (W:World) (p:Nat) (t:AA):Prop where
 rng:W.rangeAt p 0 [t.id,t.kind,.string t.name,t.group]
 c0:W.cell? ⟨p,0,none⟩=some (int i64 t.id)
 c1:W.cell? ⟨p,1,none⟩=some (int i64 t.kind)
 c2:W.cell? ⟨p,2,none⟩=some (.string t.name)
 c3:W.cell? ⟨p,3,none⟩=some (int i64 t.group)
 lt:p<W.heap.size
theorem JJ.of {W p T}{t:AA}(K:Blk W p T #[t.id,t.kind,.string t.name,t.group]):JJ W p t :=
 ⟨Blk.rangeAll K,(K.cell 0).T rfl,(K.cell 1).T rfl,(K.cell 2).T rfl,(K.cell 3).T rfl,K.lt⟩
theorem JJ.B {W c p t}(h:JJ W p t)(hb:Below W W c):JJ c p t :=
 ⟨fun j v e =>(hb.cell (p:=⟨p,0+j,none⟩) h.lt).T (h.rng j v e),(hb.cell (p:=⟨p,0,none⟩) h.lt).T h.c0,(hb.cell (p:=⟨p,1,none⟩) h.lt).T h.c1,(hb.cell (p:=⟨p,2,none⟩) h.lt).T h.c2,(hb.cell (p:=⟨p,3,none⟩) h.lt).T h.c3,aH h.lt hb.size⟩
theorem Ex {a b:Int}(h:¬a=b):(a != b)=true:=by simpa using h
theorem I0 {a b:Int}(h:a=b):(a != b)=false:=by simpa using h
theorem KP {nm:ByteArray}(h:¬nm=⟨#[]⟩):nm.toList.isEmpty=false:=by
 have:=Fr (b:=⟨#[]⟩) h;cases e:nm.toList with
 |nil => rw[e]at this;simp at this
 |cons a l => rfl
theorem KL {nm:ByteArray}(h:CJ nm.data.toList=true):nm.size<=8:=by
 unfold CJ at h;simp only[Bool.and_eq_true,bG]at h;have c:=h.2.2;simp at c;exact c
theorem Kt(s:Sh)(ad:shB s=true)(t:AA)(hn:t.name.size<=9223372036854775807)(w:World):
  Calls prog 156 #[shV s,tkV t] w (zN (int i64 (Dn s t)) w):=by
 have hs:=De ad;have hB:Below w w ((w.alloc (.cells s 38)).alloc (.cells #[t.id,t.kind,.string t.name,t.group] 112)):=((aC _ _).alloc (aD _) _).alloc zX _;obtain⟨u,y,HT⟩:=zI hB (Cn.of ((Blk.new w 38 s).alloc (.cells #[t.id,t.kind,.string t.name,t.group] 112))) (JJ.of (Blk.new1 w (.cells s 38) 112 #[t.id,t.kind,.string t.name,t.group]));have ah:=y.o.lt;have ai:=HT.o.lt;have v0:=HT.o.c0;have v1:=HT.o.c1;have v2:=HT.o.c2;have v3:=HT.o.c3;obtain⟨r,hr⟩:∃r,Dn s t=r:=zJ;rw[hr];unfold Dn at hr;obtain⟨f,x,HG,HH⟩:=zH (fun(W:World) => By t.id 1 1000000000 W) (fun(W:World) => Ih t.name W hn) (fun(W:World) => Ik s hs t.group W) (fun(h:t.name.size<=1000000) (W:World) => home_c s hs t.name h W);unfold shV at HG HH⊢;unfold tkV;clear hn hB hs;cases hi:Ap t.id 1 1000000000 with
 |false =>
  rw[hi]at f hr;have z:r=3:=by rw[<-hr];rfl
  subst z;clear hr hi;go_enter func156,ntmps156
  go_wp2_with (go_at_call 95;refine(f.o _).M ?_;rintro e w' ⟨rfl,rfl⟩)
  go_ret
  exact⟨rfl,u.o⟩
 |true =>
  rw[hi,aM rfl]at hr;rw[hi]at f;clear hi;by_cases q1:t.kind=1
  ·rw[aM q1]at hr;have k1:(t.kind != 1)=false:=by rw[q1];rfl
   have k2:(t.kind == 2)=false:=by rw[q1];rfl
   clear q1;by_cases q2:CJ t.name.data.toList=true
   ·have ac:t.name.size<=1000000:=by have:=KL q2;omega
    have aa:=zq (HH.o ac);have en:Bu t.name.data.toList=0:=by unfold Bu;rw[aM q2]
    rw[en]at x;rw[aM q2]at hr;obtain⟨ho,ab⟩:∃ho,EF s.g t.name=ho:=zJ;rw[ab]at aa hr;clear q2 ac en ab HH HG;have HR:=zq hr;clear hr;go_enter func156,ntmps156
    go_wp2_with (first
     |(go_at_call 95;refine(f.o _).M ?_;rintro e w' ⟨rfl,rfl⟩)
     |(go_at_call 208;refine(x.o _).M ?_;rintro e w3 ⟨rfl,i⟩;have S3:=zq (y.o.B i);have l:=zq (HT.o.B i);have n:=zq (u.o.T (i.M u.o.size));have z1:=S3.o.lt;have z2:=l.o.lt;clear i))
    clear v0 v1 v2 v3 f x;have u0:=aB S3.o.c0;have u1:=aB S3.o.c1;have u2:=aB S3.o.c2;have u3:=aB S3.o.c3;have u4:=aB S3.o.c4;have u5:=aB S3.o.c5;have u6:=aB S3.o.c6;have u7:=aB S3.o.c7;have u8:=aB S3.o.c8;have v0:=aB l.o.c0;have v1:=aB l.o.c1;have v2:=aB l.o.c2;have v3:=aB l.o.c3;have QH:=zq (AR (w:=w3) (fun W _ => aa.o W));by_cases q3:t.group=ho
    ·have g1:(t.group != ho)=false:=I0 q3;have z:r=0:=by rw[<-HR.o,aM q3]
     subst z;clear q3
     (refine aF zY zY ?_;(repeat go_big_quiet_step (first|(go_at_call 112;exact QH.o _ _)));refine aQ ?_)
     rintro _ ⟨⟨dq,osq⟩,rfl⟩;have B4:=zq (n.o.T ((aI _ dq osq).M n.o.size));go_wp2
     go_ret
     exact⟨rfl,B4.o⟩
    ·have g1:(t.group != ho)=true:=Ex q3;have z:r=1:=by rw[<-HR.o,aJ q3]
     subst z;clear q3
     (refine aF zY zY ?_;(repeat go_big_quiet_step (first|(go_at_call 112;exact QH.o _ _)));refine aQ ?_)
     rintro _ ⟨⟨dq,osq⟩,rfl⟩;have B4:=zq (n.o.T ((aI _ dq osq).M n.o.size));go_wp2
     go_ret
     exact⟨rfl,B4.o⟩
   ·have en:Bu t.name.data.toList=5:=by unfold Bu;rw[aJ q2]
    rw[en]at x;rw[aJ q2]at hr;subst hr;clear q2 en HH HG;go_enter func156,ntmps156
    go_wp2_with (first
     |(go_at_call 95;refine(f.o _).M ?_;rintro e w' ⟨rfl,rfl⟩)
     |(go_at_call 208;refine(x.o _).M ?_;rintro e w3 ⟨rfl,i⟩;have n:=zq (u.o.T (i.M u.o.size));clear i))
    go_ret
    exact⟨rfl,n.o⟩
  ·rw[aJ q1]at hr;have k1:(t.kind != 1)=true:=Ex q1;clear q1;by_cases q4:t.kind=2
   ·rw[aM q4]at hr;have k2:(t.kind != 2)=false:=by rw[q4];rfl
    have k3:(t.kind == 2)=true:=by rw[q4];rfl
    clear q4;have u0:=y.o.c0;have u1:=y.o.c1;have u2:=y.o.c2;have u3:=y.o.c3;have u4:=y.o.c4;have u5:=y.o.c5;have u6:=y.o.c6;have u7:=y.o.c7;have u8:=y.o.c8;cases hg:Ap t.group 0 (s.g+s.c - 1)with
    |false =>
     rw[hg]at HG hr;have z:r=3:=by rw[<-hr];rfl
     subst z;clear hr hg;go_enter func156,ntmps156
     go_wp2_with (first
      |(go_at_call 95;refine(f.o _).M ?_;rintro e w' ⟨rfl,rfl⟩)
      |(go_at_call 147;refine(HG.o _).M ?_;rintro e w3 ⟨rfl,i⟩;have n:=zq (u.o.T (i.M u.o.size));clear i))
     go_ret
     exact⟨rfl,n.o⟩
    |true =>
     rw[hg,aM rfl]at hr;rw[hg]at HG;clear hg;by_cases q5:t.name=⟨#[]⟩
     ·have z:r=0:=by rw[<-hr,aM q5]
      subst z;have x1:=Hg (b:=⟨#[]⟩) q5;have ae:t.name.toList.isEmpty=true:=by rw[q5];simp
      clear hr q5;go_enter func156,ntmps156
      go_wp2_with (first
       |(go_at_call 95;refine(f.o _).M ?_;rintro e w' ⟨rfl,rfl⟩)
       |(go_at_call 147;refine(HG.o _).M ?_;rintro e w3 ⟨rfl,i⟩;have l:=zq (HT.o.B i);have n:=zq (u.o.T (i.M u.o.size));have z2:=l.o.lt;have af:=l.o.c1;have ag:=l.o.c2;clear i))
      go_ret
      exact⟨rfl,n.o⟩
     ·have z:r=1:=by rw[<-hr,aJ q5]
      subst z;have x1:=Fr (b:=⟨#[]⟩) q5;have ae:t.name.toList.isEmpty=false:=KP q5;clear hr q5;go_enter func156,ntmps156
      go_wp2_with (first
       |(go_at_call 95;refine(f.o _).M ?_;rintro e w' ⟨rfl,rfl⟩)
       |(go_at_call 147;refine(HG.o _).M ?_;rintro e w3 ⟨rfl,i⟩;have l:=zq (HT.o.B i);have n:=zq (u.o.T (i.M u.o.size));have z2:=l.o.lt;have af:=l.o.c1;have ag:=l.o.c2;clear i))
      go_ret
      exact⟨rfl,n.o⟩
   ·rw[aJ q4]at hr;have k2:(t.kind != 2)=true:=Ex q4;subst hr;clear q4;go_enter func156,ntmps156
    go_wp2_with (go_at_call 95;refine(f.o _).M ?_;rintro e w' ⟨rfl,rfl⟩)
    go_ret
    exact⟨rfl,u.o⟩
theorem Ku(s:Sh)(ad:shB s=true)(t:AA)(hn:t.name.size<=9223372036854775807)(w:World):
  Calls prog 130 #[shV s,tkV t] w (zN (int i64 (Dn s t)) w):=by
 have hs:=De ad;have hB:Below w w ((w.alloc (.cells s 38)).alloc (.cells #[t.id,t.kind,.string t.name,t.group] 112)):=((aC _ _).alloc (aD _) _).alloc zX _;obtain⟨HB,HS,HT⟩:=zI hB (Cn.of ((Blk.new w 38 s).alloc (.cells #[t.id,t.kind,.string t.name,t.group] 112))) (JJ.of (Blk.new1 w (.cells s 38) 112 #[t.id,t.kind,.string t.name,t.group]));have am:=HS.o.lt;have an:=HT.o.lt;have v0:=HT.o.c0;have v1:=HT.o.c1;have v2:=HT.o.c2;have v3:=HT.o.c3;obtain⟨r,hr⟩:∃r,Dn s t=r:=zJ;rw[hr];unfold Dn at hr;have u:=zq (fun(W:World) => Cd s W);rw[CL ad]at u;obtain⟨n,aa,HA,af,HH,z⟩:=zF (fun(W:World) => BD t.id 1 1000000000 W) (fun(W:World) => Ir t.name W hn) (fun(W:World) => EN s hs W) (fun(W:World) => BD t.group 0 (s.g+s.c - 1) W) (fun(h:t.name.size<=1000000) (W:World) => OQ s hs t.name h W) HS.o.rng;unfold shV at u HA HH⊢;unfold tkV;have ac:=hs;obtain⟨a1,a2⟩:=ac.g;obtain⟨b1,b2⟩:=ac.c;have ah:-9223372036854775808<=s.g+s.c - 1/\s.g+s.c - 1<=9223372036854775807:=by omega
 obtain⟨al,ab⟩:∃al,s.g+s.c=al:=zJ;rw[ab]at HA af hr ah;have ao:IntKind.i64.wrap (al - 1)=al - 1:=IntWalk.i64_in _ zZ;clear hn hB hs ac ad a1 a2 b1 b2 ah ab;cases hi:Ap t.id 1 1000000000 with
 |false =>
  rw[hi]at n hr;have e1:r=3:=by rw[<-hr];rfl
  subst e1;clear hr hi;go_enter func130,ntmps130
  go_wp2_with (first|(refine aE rfl 38 _ rfl w 0 rfl _ _ z.o underlying38 rfl zY ?_)|(go_at_call 74;refine(u.o _).M ?_;rintro e w3 ⟨rfl,i⟩;have l:=zq (HS.o.B i);have f:=zq (HT.o.B i);have x:=zq (HB.o.T (i.M HB.o.size));have z1:=l.o.lt;have z2:=f.o.lt;have y0:=f.o.c0;have y1:=f.o.c1;have y2:=f.o.c2;have y3:=f.o.c3;clear i)|(go_at_call 78;refine(n.o _).M ?_;rintro e w' ⟨rfl,rfl⟩))
  go_ret
  exact⟨rfl,x.o⟩
 |true =>
  rw[hi,aM rfl]at hr;rw[hi]at n;clear hi;by_cases q1:t.kind=1
  ·rw[aM q1]at hr;have k1:(t.kind == 1)=true:=by rw[q1];rfl
   clear q1;by_cases q2:CJ t.name.data.toList=true
   ·have aj:t.name.size<=1000000:=by have:=KL q2;omega
    have ae:=zq (HH.o aj);have en:Bu t.name.data.toList=0:=by unfold Bu;rw[aM q2]
    rw[en]at aa;rw[aM q2]at hr;obtain⟨ho,ai⟩:∃ho,EF s.g t.name=ho:=zJ;rw[ai]at ae hr;clear q2 aj en ai HH;have HR:=zq hr;clear hr;go_enter func130,ntmps130
    go_wp2_with (first|(refine aE rfl 38 _ rfl w 0 rfl _ _ z.o underlying38 rfl zY ?_)|(go_at_call 74;refine(u.o _).M ?_;rintro e w3 ⟨rfl,i⟩;have l:=zq (HS.o.B i);have f:=zq (HT.o.B i);have x:=zq (HB.o.T (i.M HB.o.size));have z1:=l.o.lt;have z2:=f.o.lt;have y0:=f.o.c0;have y1:=f.o.c1;have y2:=f.o.c2;have y3:=f.o.c3;clear i)|(go_at_call 78;refine(n.o _).M ?_;rintro e w' ⟨rfl,rfl⟩)|(go_at_call 124;refine(aa.o _).M ?_;rintro e w4 ⟨rfl,b4⟩;have y:=zq (l.o.B b4);have T4:=zq (f.o.B b4);have B4:=zq (x.o.T (b4.M x.o.size));have z3:=y.o.lt;have z4:=T4.o.lt;clear b4))
    clear v0 v1 v2 v3 y0 y1 y2 y3;have u0:=aB y.o.c0;have u1:=aB y.o.c1;have u2:=aB y.o.c2;have u3:=aB y.o.c3;have u4:=aB y.o.c4;have u5:=aB y.o.c5;have u6:=aB y.o.c6;have u7:=aB y.o.c7;have u8:=aB y.o.c8;have v0:=aB T4.o.c0;have v1:=aB T4.o.c1;have v2:=aB T4.o.c2;have v3:=aB T4.o.c3;have QH:=zq (AR (w:=w4) (fun W _ => ae.o W));by_cases q3:t.group=ho
    ·have g1:(t.group != ho)=false:=I0 q3;have e1:r=0:=by rw[<-HR.o,aM q3]
     subst e1;clear q3
     (refine aF zY zY ?_;(repeat go_big_quiet_step (first|(go_at_call 85;exact QH.o _ _)));refine aQ ?_)
     rintro _ ⟨⟨dq,osq⟩,rfl⟩;have BQ:=zq (B4.o.T ((aI _ dq osq).M B4.o.size));go_wp2
     go_ret
     exact⟨rfl,BQ.o⟩
    ·have g1:(t.group != ho)=true:=Ex q3;have e1:r=1:=by rw[<-HR.o,aJ q3]
     subst e1;clear q3
     (refine aF zY zY ?_;(repeat go_big_quiet_step (first|(go_at_call 85;exact QH.o _ _)));refine aQ ?_)
     rintro _ ⟨⟨dq,osq⟩,rfl⟩;have BQ:=zq (B4.o.T ((aI _ dq osq).M B4.o.size));go_wp2
     go_ret
     exact⟨rfl,BQ.o⟩
   ·have en:Bu t.name.data.toList=5:=by unfold Bu;rw[aJ q2]
    rw[en]at aa;rw[aJ q2]at hr;subst hr;clear q2 en HH;go_enter func130,ntmps130
    go_wp2_with (first|(refine aE rfl 38 _ rfl w 0 rfl _ _ z.o underlying38 rfl zY ?_)|(go_at_call 74;refine(u.o _).M ?_;rintro e w3 ⟨rfl,i⟩;have l:=zq (HS.o.B i);have f:=zq (HT.o.B i);have x:=zq (HB.o.T (i.M HB.o.size));have z1:=l.o.lt;have z2:=f.o.lt;have y0:=f.o.c0;have y1:=f.o.c1;have y2:=f.o.c2;have y3:=f.o.c3;clear i)|(go_at_call 78;refine(n.o _).M ?_;rintro e w' ⟨rfl,rfl⟩)|(go_at_call 124;refine(aa.o _).M ?_;rintro e w4 ⟨rfl,b4⟩;have y:=zq (l.o.B b4);have T4:=zq (f.o.B b4);have B4:=zq (x.o.T (b4.M x.o.size));have z3:=y.o.lt;have z4:=T4.o.lt;clear b4))
    go_ret
    exact⟨rfl,B4.o⟩
  ·rw[aJ q1]at hr;have k1:(t.kind == 1)=false:=by simpa using q1
   clear q1;by_cases q4:t.kind=2
   ·rw[aM q4]at hr;have k3:(t.kind == 2)=true:=by rw[q4];rfl
    clear q4;have HR:=zq hr;clear hr;go_enter func130,ntmps130
    go_wp2_with (first|(refine aE rfl 38 _ rfl w 0 rfl _ _ z.o underlying38 rfl zY ?_)|(go_at_call 74;refine(u.o _).M ?_;rintro e w3 ⟨rfl,i⟩;have l:=zq (HS.o.B i);have f:=zq (HT.o.B i);have x:=zq (HB.o.T (i.M HB.o.size));have z1:=l.o.lt;have z2:=f.o.lt;have y0:=f.o.c0;have y1:=f.o.c1;have y2:=f.o.c2;have y3:=f.o.c3;clear i)|(go_at_call 78;refine(n.o _).M ?_;rintro e w' ⟨rfl,rfl⟩))
    clear v0 v1 v2 v3;have u0:=aB l.o.c0;have u1:=aB l.o.c1;have u2:=aB l.o.c2;have u3:=aB l.o.c3;have u4:=aB l.o.c4;have u5:=aB l.o.c5;have u6:=aB l.o.c6;have u7:=aB l.o.c7;have u8:=aB l.o.c8;have v0:=aB f.o.c0;have v1:=aB f.o.c1;have v2:=aB f.o.c2;have v3:=aB f.o.c3;have QA:=zq (AR (w:=w3) (fun W _ => HA.o W));have QI:=zq (Bv (w:=w3) (fun W => af.o W));have T5:=f;cases hg:Ap t.group 0 (al - 1)with
    |false =>
     rw[hg]at QI;have e1:r=3:=by rw[<-HR.o,hg];rfl
     subst e1;clear hg
     (refine aF zY zY ?_;(repeat go_big_quiet_step (first|(go_at_call 15;exact QA.o _ _)|(go_at_call 78;exact QI.o _ _)));refine aQ ?_)
     rintro _ ⟨⟨dq,osq⟩,rfl⟩;have BQ:=zq (x.o.T ((aI _ dq osq).M x.o.size));go_wp2
     go_ret
     exact⟨rfl,BQ.o⟩
    |true =>
     rw[hg]at QI;have ag:=zq (show(if t.name=⟨#[]⟩then(0:Int)else 1)=r from by rw[<-HR.o,hg];rfl);clear hg
     (refine aF zY zY ?_;(repeat go_big_quiet_step (first|(go_at_call 15;exact QA.o _ _)|(go_at_call 78;exact QI.o _ _)));refine aQ ?_)
     rintro _ ⟨⟨dq,osq⟩,rfl⟩;have BQ:=zq (x.o.T ((aI _ dq osq).M x.o.size));have TQ:=zq (T5.o.B (aI _ dq osq));have x2:=TQ.o.c2;have z5:=TQ.o.lt;by_cases q5:t.name=⟨#[]⟩
     ·have e1:r=0:=by rw[<-ag.o,aM q5]
      subst e1;have x1:=Hg (b:=⟨#[]⟩) q5;have ak:t.name.toList.isEmpty=true:=by rw[q5];simp
      clear q5;go_wp2
      go_ret
      exact⟨rfl,BQ.o⟩
     ·have e1:r=1:=by rw[<-ag.o,aJ q5]
      subst e1;have x1:=Fr (b:=⟨#[]⟩) q5;have ak:t.name.toList.isEmpty=false:=KP q5;clear q5;go_wp2
      go_ret
      exact⟨rfl,BQ.o⟩
   ·rw[aJ q4]at hr;have k2:(t.kind == 2)=false:=by simpa using q4
    subst hr;clear q4;go_enter func130,ntmps130
    go_wp2_with (first|(refine aE rfl 38 _ rfl w 0 rfl _ _ z.o underlying38 rfl zY ?_)|(go_at_call 74;refine(u.o _).M ?_;rintro e w3 ⟨rfl,i⟩;have l:=zq (HS.o.B i);have f:=zq (HT.o.B i);have x:=zq (HB.o.T (i.M HB.o.size));have z1:=l.o.lt;have z2:=f.o.lt;have y0:=f.o.c0;have y1:=f.o.c1;have y2:=f.o.c2;have y3:=f.o.c3;clear i)|(go_at_call 78;refine(n.o _).M ?_;rintro e w' ⟨rfl,rfl⟩))
    go_ret
    exact⟨rfl,x.o⟩
