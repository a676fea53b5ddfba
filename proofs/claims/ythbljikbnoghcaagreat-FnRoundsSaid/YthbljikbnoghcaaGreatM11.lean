/-
  Part 11 of the proof; the last part states and proves the statement.
-/
import Derived.Test.YthbljikbnoghcaaGreatM10
import Derived.Deep.DeepCutAuto
import Derived.Deep.RegionHeld3
import Derived.Deep.RegionLaw
set_option maxHeartbeats 8000000
set_option maxRecDepth 100000
set_option linter.unusedVariables false
set_option linter.unusedSimpArgs false
open Go.Value (int)
open Go.IntKind (i64)
namespace Go.Proofs.YthbljikbnoghcaaGreat
open Go.RowKit Go.Lib Go.Sort
theorem LX(j:Nat)(c:UInt8) {P:Prop}
  (h1:(97:Int)≤(c.toNat:Int)→(c.toNat:Int)≤122→¬(c.toNat:Int)<97→¬(122:Int)<(c.toNat:Int)→¬(c.toNat:Int)<48→(57:Int)<(c.toNat:Int)→CF j c=true→P)
  (h2:(97:Int)≤(c.toNat:Int)→¬(c.toNat:Int)≤122→¬(c.toNat:Int)<97→(122:Int)<(c.toNat:Int)→¬(c.toNat:Int)<48→(57:Int)<(c.toNat:Int)→((j:Int) == 0)=true→¬(0:Int)<(j:Int)→CF j c=false→P)
  (h3:(97:Int)≤(c.toNat:Int)→¬(c.toNat:Int)≤122→¬(c.toNat:Int)<97→(122:Int)<(c.toNat:Int)→¬(c.toNat:Int)<48→(57:Int)<(c.toNat:Int)→((j:Int) == 0)=false→(0:Int)<(j:Int)→CF j c=false→P)
  (h4:¬(97:Int)≤(c.toNat:Int)→(c.toNat:Int)≤122→(c.toNat:Int)<97→¬(122:Int)<(c.toNat:Int)→¬(c.toNat:Int)<48→(57:Int)<(c.toNat:Int)→((j:Int) == 0)=true→¬(0:Int)<(j:Int)→CF j c=false→P)
  (h5:¬(97:Int)≤(c.toNat:Int)→(c.toNat:Int)≤122→(c.toNat:Int)<97→¬(122:Int)<(c.toNat:Int)→¬(c.toNat:Int)<48→(57:Int)<(c.toNat:Int)→((j:Int) == 0)=false→(0:Int)<(j:Int)→CF j c=false→P)
  (h6:¬(97:Int)≤(c.toNat:Int)→(c.toNat:Int)≤122→(c.toNat:Int)<97→¬(122:Int)<(c.toNat:Int)→¬(c.toNat:Int)<48→¬(57:Int)<(c.toNat:Int)→((j:Int) == 0)=true→¬(0:Int)<(j:Int)→CF j c=false→P)
  (h7:¬(97:Int)≤(c.toNat:Int)→(c.toNat:Int)≤122→(c.toNat:Int)<97→¬(122:Int)<(c.toNat:Int)→¬(c.toNat:Int)<48→¬(57:Int)<(c.toNat:Int)→((j:Int) == 0)=false→(0:Int)<(j:Int)→CF j c=true→P)
  (h8:¬(97:Int)≤(c.toNat:Int)→(c.toNat:Int)≤122→(c.toNat:Int)<97→¬(122:Int)<(c.toNat:Int)→(c.toNat:Int)<48→¬(57:Int)<(c.toNat:Int)→((j:Int) == 0)=true→¬(0:Int)<(j:Int)→CF j c=false→P)
  (h9:¬(97:Int)≤(c.toNat:Int)→(c.toNat:Int)≤122→(c.toNat:Int)<97→¬(122:Int)<(c.toNat:Int)→(c.toNat:Int)<48→¬(57:Int)<(c.toNat:Int)→((j:Int) == 0)=false→(0:Int)<(j:Int)→CF j c=false→P):P:=by
 have hs:CF j c=decide ((97≤c.toNat∧c.toNat≤122)∨(0<j∧48≤c.toNat∧c.toNat≤57)):=by
  unfold CF letB digB;rw[Bool.eq_iff_iff];simp
 rw[hs]at h1 h2 h3 h4 h5 h6 h7 h8 h9;simp only[decide_eq_true_eq,decide_eq_false_iff_not]at h1 h2 h3 h4 h5 h6 h7 h8 h9;have zt:j=0→((j:Int) == 0)=true:=fun h => by rw[h];rfl
 have zf:¬j=0→((j:Int) == 0)=false:=fun h => by rw[beq_eq_false_iff_ne];omega
 by_cases a:97≤c.toNat
 ·by_cases b:c.toNat≤122
  ·exact h1 (by omega) (by omega) (by omega) (by omega) (by omega) (by omega) (by omega)
  ·by_cases z:j=0
   ·exact h2 (by omega) (by omega) (by omega) (by omega) (by omega) (by omega) (zt z) (by omega) (by omega)
   ·exact h3 (by omega) (by omega) (by omega) (by omega) (by omega) (by omega) (zf z) (by omega) (by omega)
 ·by_cases b:57<c.toNat
  ·by_cases z:j=0
   ·exact h4 (by omega) (by omega) (by omega) (by omega) (by omega) (by omega) (zt z) (by omega) (by omega)
   ·exact h5 (by omega) (by omega) (by omega) (by omega) (by omega) (by omega) (zf z) (by omega) (by omega)
  ·by_cases d:48≤c.toNat
   ·by_cases z:j=0
    ·exact h6 (by omega) (by omega) (by omega) (by omega) (by omega) (by omega) (zt z) (by omega) (by omega)
    ·exact h7 (by omega) (by omega) (by omega) (by omega) (by omega) (by omega) (zf z) (by omega) (by omega)
   ·by_cases z:j=0
    ·exact h8 (by omega) (by omega) (by omega) (by omega) (by omega) (by omega) (zt z) (by omega) (by omega)
    ·exact h9 (by omega) (by omega) (by omega) (by omega) (by omega) (by omega) (zf z) (by omega) (by omega)
theorem C7(s:ByteArray)(w:World)(hs:s.size≤9223372036854775807) :
  Calls Tryz.prog 29 #[.string s] w fun e w' => e= .returned (int i64 (Bm s.data.toList))∧Below w.heap.size w w':=by
 have hsz:s.data.toList.length=s.size:=by simp
 have HSZ:=hid hsz;obtain⟨r,hr⟩:∃r,Bm s.data.toList=r:=⟨_,rfl⟩;rw[hr];have HR:=hid hr;clear hsz hr;go_enter Tryz.func29,Tryz.ntmps29
 go_wp2_with fail
 go_loopw [7,3,4] (fun i _ _ wr =>∃j:Nat,j≤s.size∧i= int i64 j∧Hid (DY s.data.toList j)∧Hid (Below w.heap.size w wr)) (fun i _ _ _ => s.size - (intOf i).toNat)
 case atStart => exact⟨0,by omega,rfl,J0 _,Below.refl _ _⟩
 case round =>
  obtain⟨j,hj,rfl,HS,HB⟩:=hrel;by_cases hlt:j<s.size
  ·have hki:(j:Int)<(s.size:Int):=by omega
   have hk1:j<s.data.toList.length:=by rw[HSZ.out];exact hlt
   have hel:s.data.toList[j] =s[j]'hlt:=by simp[ByteArray.getElem_eq_getElem_data]
   have HBAD:=hid (show CF j (s[j]'hlt)=false→r=5 from fun h => HR.out.symm.trans (Jb hk1 (by rw[hel];exact h)));have HOK:=hid (show CF j (s[j]'hlt)=true→DY s.data.toList (j+1)from fun h => JZ HS.out hk1 (by rw[hel];exact h));clear hk1 hel;refine LX j (s[j]'hlt) ?_ ?_ ?_ ?_ ?_ ?_ ?_ ?_ ?_;case refine_1 =>
    intro a1 a2 a3 a4 a5 a6 hsg;have HOK2:=hid (HOK.out hsg);clear hsg;go_wp2_with fail
    go_roundw
    case rel => exact⟨j+1,by omega,by go_num,HOK2.out,HB.out⟩
    case measure => simp[intOf];omega
   case refine_7 =>
    intro a1 a2 a3 a4 a5 a6 a7 a8 hsg;have HOK2:=hid (HOK.out hsg);clear hsg;go_wp2_with fail
    go_roundw
    case rel => exact⟨j+1,by omega,by go_num,HOK2.out,HB.out⟩
    case measure => simp[intOf];omega
   all_goals
    intros
    have e1:=HBAD.out (by assumption);subst e1;clear HBAD HOK;go_wp2_with fail
    go_ret
    exact⟨rfl,HB.out⟩
  ·obtain rfl:j=s.size:=by omega
   have hall:=HS.out;rw[← HSZ.out]at hall;by_cases q:Al (s.size:Int) 1 8=true
   ·have e1:r=0:=by
     have h18:=BE q;rw[← HR.out];exact JS hall (by rw[HSZ.out];omega) (by rw[HSZ.out];omega)
    subst e1;have HI:=hid (AX (s.size:Int) 1 8);rw[q]at HI;clear q hall;go_wp2_with (go_at_call 61;refine(HI.out _).mono ?_;rintro e w' ⟨rfl,rfl⟩)
    go_ret
    exact⟨rfl,HB.out⟩
   ·have q2:Al (s.size:Int) 1 8=false:=by simpa using q
    have e1:r=5:=by
     rw[← HR.out];refine Jc ?_;rw[HSZ.out];by_cases h1:(1:Int)≤(s.size:Int)
     ·by_cases h2:(s.size:Int)≤8
      ·exact absurd (FV h1 h2) q
      ·omega
     ·omega
    subst e1;have HI:=hid (AX (s.size:Int) 1 8);rw[q2]at HI;clear q q2 hall;go_wp2_with (go_at_call 61;refine(HI.out _).mono ?_;rintro e w' ⟨rfl,rfl⟩)
    go_ret
    exact⟨rfl,HB.out⟩
theorem E0(s:Sh)(h:s.Ok)(w:World) :
  Calls Tryz.prog 127 #[shV s] w fun e w' => e= .returned (int i64 (s.data * 4))∧Below w.heap.size w w':=by
 obtain⟨a1,a2⟩:=h.data;unfold shV;go_enter Tryz.func127,Tryz.ntmps127
 go_wp2_with fail
 go_ret
 exact⟨rfl,(Below.refl _ _).alloc (Nat.le_refl _) _⟩
def BY(s:Sh)(n:Int):Int:=if n<1 then 6 else if 12 * s.data<n then 2 else 0
theorem FD {s:Sh} {n:Int}:BY s n=0↔CV s n=true:=by
 unfold BY CV;rw[decide_eq_true_iff];split
 ·constructor
  ·intro h;cases h
  ·intro h;omega
 ·split
  ·constructor
   ·intro h;cases h
   ·intro h;omega
  ·constructor
   ·intro _;omega
   ·intro _;rfl
theorem Lm {s:Sh}(h:s.Ok) {n:Int}(h1:1≤n):(n - 1).tdiv (s.data * 4)+1=Bz s n:=by
 obtain⟨a1,a2⟩:=h.data;rw[Int.tdiv_eq_ediv_of_nonneg (by omega),Int.mul_comm s.data 4];rfl
theorem L1 {s:Sh}(h:s.Ok) {n:Int}(h1:1≤n):1≤Bz s n∧Bz s n≤n:=by
 obtain⟨a1,a2⟩:=h.data;unfold Bz;have h2:0≤(n - 1) / (4 * s.data):=Int.ediv_nonneg (by omega) (by omega);have h3:(n - 1) / (4 * s.data)≤n - 1:=Int.ediv_le_self _ (by omega);omega
theorem Ht(s:Sh)(h:s.Ok)(n:Int)(hn:okI n)(w:World) :
  Calls Tryz.prog 69 #[shV s,int i64 n] w fun e w' => e= .returned (.tuple #[int i64 (if BY s n=0 then Bz s n else 0),int i64 (BY s n)])∧Below w.heap.size w w':=by
 obtain⟨a1,a2⟩:=h.data;have hok:okI n:=hn;have hn1:=hok.1;have hn2:=hok.2;have HC:=hid (fun W => E0 s h W);have HK:=hid (Blk.rangeAll (cs:=[int i64 s.g,int i64 s.c,int i64 s.data,int i64 s.p,int i64 s.rows,int i64 s.cap,int i64 s.b,int i64 s.q,int i64 s.t]) (Blk.new w 25 #[int i64 s.g,int i64 s.c,int i64 s.data,int i64 s.p,int i64 s.rows,int i64 s.cap,int i64 s.b,int i64 s.q,int i64 s.t]));have HB1:=hid ((Below.refl w.heap.size w).alloc (Nat.le_refl _) (.cells #[int i64 s.g,int i64 s.c,int i64 s.data,int i64 s.p,int i64 s.rows,int i64 s.cap,int i64 s.b,int i64 s.q,int i64 s.t] 25));unfold shV at HC⊢;by_cases q1:n<1
 ·have e1:BY s n=6:=by unfold BY;rw[if_pos q1]
  rw[e1,if_neg (by omega)];clear hok hn;go_enter Tryz.func69,Tryz.ntmps69
  go_wp2_with fail
  go_ret2
  exact⟨rfl,HB1.out⟩
 ·obtain⟨g1,g2⟩:=L1 h (show 1≤n by omega);have hq:=Lm h (show 1≤n by omega);have hle:=L0 h (show 1≤n by omega);obtain⟨t,ht⟩:∃t,(n - 1).tdiv (s.data * 4)=t:=⟨_,rfl⟩;rw[ht]at hq;obtain⟨N,hN⟩:∃N,Bz s n=N:=⟨_,rfl⟩;rw[hN]at hq g1 g2 hle;have e0:IntKind.i64.wrap (n - 1)=n - 1:=IntWalk.i64_in _ (by omega);have e2:IntKind.i64.wrap ((n - 1).tdiv (s.data * 4))=t:=by rw[ht];exact IntWalk.i64_in _ (by omega)
  have e3:(s.data * 4 == 0)=false:=by rw[beq_eq_false_iff_ne];omega
  have e4:¬s.data * 4=0:=by omega
  have e5:IntKind.i64.wrap (t+1)=N:=by rw[hq];exact IntWalk.i64_in _ (by omega)
  by_cases q2:12 * s.data<n
  ·have e1:BY s n=2:=by unfold BY;rw[if_neg q1,if_pos q2]
   have q3:3<N:=by by_cases c:N≤3;exact absurd (hle.1 c) (by omega);omega
   rw[e1,if_neg (by omega)];clear hok hn hle ht hN hq q2 e1;go_enter Tryz.func69,Tryz.ntmps69
   go_wp2_with (first
    |(refine wpList_load_mid rfl 25 _ rfl w.heap.size 0 rfl _ _ HK.out Tryz.underlying25 rfl (by kernel_rfl) ?_)
    |(go_at_call 127;refine(HC.out _).mono ?_;rintro e w1 ⟨rfl,hb1⟩;have B1:=hid hb1;clear hb1))
   go_ret2
   exact⟨rfl,HB1.out.trans (B1.out.mono (by simp))⟩
  ·have e1:BY s n=0:=by unfold BY;rw[if_neg q1,if_neg q2]
   have q3:¬3<N:=by have:=hle.2 (by omega);omega
   rw[e1,if_pos rfl,hN];clear hok hn hle ht hN hq q2 e1;go_enter Tryz.func69,Tryz.ntmps69
   go_wp2_with (first
    |(refine wpList_load_mid rfl 25 _ rfl w.heap.size 0 rfl _ _ HK.out Tryz.underlying25 rfl (by kernel_rfl) ?_)
    |(go_at_call 127;refine(HC.out _).mono ?_;rintro e w1 ⟨rfl,hb1⟩;have B1:=hid hb1;clear hb1))
   go_ret2
   exact⟨rfl,HB1.out.trans (B1.out.mono (by simp))⟩
structure Ck (W:World) (p:Nat) (s:Sh):Prop where
 rng:W.rangeAt p 0 [int i64 s.g,int i64 s.c,int i64 s.data,int i64 s.p,int i64 s.rows,int i64 s.cap,int i64 s.b,int i64 s.q,int i64 s.t]
 c0:W.cell? ⟨p,0,none⟩=some (int i64 s.g)
 c1:W.cell? ⟨p,1,none⟩=some (int i64 s.c)
 c2:W.cell? ⟨p,2,none⟩=some (int i64 s.data)
 c3:W.cell? ⟨p,3,none⟩=some (int i64 s.p)
 c4:W.cell? ⟨p,4,none⟩=some (int i64 s.rows)
 c5:W.cell? ⟨p,5,none⟩=some (int i64 s.cap)
 c6:W.cell? ⟨p,6,none⟩=some (int i64 s.b)
 c7:W.cell? ⟨p,7,none⟩=some (int i64 s.q)
 c8:W.cell? ⟨p,8,none⟩=some (int i64 s.t)
 lt:p<W.heap.size
theorem Ck.of {W:World} {p:Nat} {t:TypeId} {s:Sh}(K:Blk W p t #[int i64 s.g,int i64 s.c,int i64 s.data,int i64 s.p,int i64 s.rows,int i64 s.cap,int i64 s.b,int i64 s.q,int i64 s.t]):Ck W p s :=
 ⟨Blk.rangeAll K,(K.cell 0).trans rfl,(K.cell 1).trans rfl,(K.cell 2).trans rfl,(K.cell 3).trans rfl,(K.cell 4).trans rfl,(K.cell 5).trans rfl,(K.cell 6).trans rfl,(K.cell 7).trans rfl,(K.cell 8).trans rfl,K.lt⟩
theorem Ck.below {W W':World} {p:Nat} {s:Sh}(h:Ck W p s)(hb:Below W.heap.size W W'):Ck W' p s :=
 ⟨fun j v hj =>(hb.cell (p:=⟨p,0+j,none⟩) h.lt).trans (h.rng j v hj),(hb.cell (p:=⟨p,0,none⟩) h.lt).trans h.c0,(hb.cell (p:=⟨p,1,none⟩) h.lt).trans h.c1,(hb.cell (p:=⟨p,2,none⟩) h.lt).trans h.c2,(hb.cell (p:=⟨p,3,none⟩) h.lt).trans h.c3,(hb.cell (p:=⟨p,4,none⟩) h.lt).trans h.c4,(hb.cell (p:=⟨p,5,none⟩) h.lt).trans h.c5,(hb.cell (p:=⟨p,6,none⟩) h.lt).trans h.c6,(hb.cell (p:=⟨p,7,none⟩) h.lt).trans h.c7,(hb.cell (p:=⟨p,8,none⟩) h.lt).trans h.c8,Nat.lt_of_lt_of_le h.lt hb.size⟩
structure Dz (W:World) (p:Nat) (x:Ag) (v0 v1 v2:Value):Prop where
 rng:W.rangeAt p 0 [int i64 x.kind,int i64 x.seq,.string x.name,int i64 x.length,int i64 x.group,int i64 x.row,v0,v1,v2]
 c0:W.cell? ⟨p,0,none⟩=some (int i64 x.kind)
 c1:W.cell? ⟨p,1,none⟩=some (int i64 x.seq)
 c2:W.cell? ⟨p,2,none⟩=some (.string x.name)
 c3:W.cell? ⟨p,3,none⟩=some (int i64 x.length)
 c4:W.cell? ⟨p,4,none⟩=some (int i64 x.group)
 c5:W.cell? ⟨p,5,none⟩=some (int i64 x.row)
 c6:W.cell? ⟨p,6,none⟩=some v0
 c7:W.cell? ⟨p,7,none⟩=some v1
 c8:W.cell? ⟨p,8,none⟩=some v2
 lt:p<W.heap.size
theorem Dz.of {W:World} {p:Nat} {t:TypeId} {x:Ag} {v0 v1 v2:Value}(K:Blk W p t #[int i64 x.kind,int i64 x.seq,.string x.name,int i64 x.length,int i64 x.group,int i64 x.row,v0,v1,v2]):Dz W p x v0 v1 v2 :=
 ⟨Blk.rangeAll K,(K.cell 0).trans rfl,(K.cell 1).trans rfl,(K.cell 2).trans rfl,(K.cell 3).trans rfl,(K.cell 4).trans rfl,(K.cell 5).trans rfl,(K.cell 6).trans rfl,(K.cell 7).trans rfl,(K.cell 8).trans rfl,K.lt⟩
theorem Dz.below {W W':World} {p:Nat} {x:Ag} {v0 v1 v2:Value}(h:Dz W p x v0 v1 v2)(hb:Below W.heap.size W W'):Dz W' p x v0 v1 v2 :=
 ⟨fun j v hj =>(hb.cell (p:=⟨p,0+j,none⟩) h.lt).trans (h.rng j v hj),(hb.cell (p:=⟨p,0,none⟩) h.lt).trans h.c0,(hb.cell (p:=⟨p,1,none⟩) h.lt).trans h.c1,(hb.cell (p:=⟨p,2,none⟩) h.lt).trans h.c2,(hb.cell (p:=⟨p,3,none⟩) h.lt).trans h.c3,(hb.cell (p:=⟨p,4,none⟩) h.lt).trans h.c4,(hb.cell (p:=⟨p,5,none⟩) h.lt).trans h.c5,(hb.cell (p:=⟨p,6,none⟩) h.lt).trans h.c6,(hb.cell (p:=⟨p,7,none⟩) h.lt).trans h.c7,(hb.cell (p:=⟨p,8,none⟩) h.lt).trans h.c8,Nat.lt_of_lt_of_le h.lt hb.size⟩
theorem Bw(A:Option Addr)(n c:Nat)(w:World):Calls Tryz.prog 70 #[.slice A n c] w fun e w' => e= .returned (int i64 (n:Int))∧w=w':=by
 go_enter Tryz.func70,Tryz.ntmps70
 go_wp2_with fail
 go_ret
 exact⟨rfl,rfl⟩
theorem LJ(s:Sh)(r:Ag)(hp:CV s r.length=true)(hl:¬r.length= -1)(P:Prop)
  (hA:r.data.length=0→(r.rows.length:Int)=Bz s r.length→CO s r=Cl r.rows (s.rows - 1)→P)
  (hB:r.data.length=0→¬(r.rows.length:Int)=Bz s r.length→CO s r=false→P)
  (hC:¬r.data.length=0→(r.data.length:Int)=r.length→r.rows.length=0→CO s r=true→P)
  (hD:¬r.data.length=0→(r.data.length:Int)=r.length→¬r.rows.length=0→CO s r=false→P)
  (hE:¬r.data.length=0→¬(r.data.length:Int)=r.length→CO s r=false→P):P:=by
 unfold CO at hA hB hC hD hE;rw[if_neg hl,hp,Bool.true_and]at hA hB hC hD hE;by_cases z:r.data.length=0
 ·rw[if_neg (by omega)]at hA hB;by_cases y:(r.rows.length:Int)=Bz s r.length
  ·exact hA z y (by rw[decide_eq_true y];rfl)
  ·exact hB z y (by rw[decide_eq_false y];rfl)
 ·rw[if_pos (by omega)]at hC hD hE;by_cases d:(r.data.length:Int)=r.length
  ·by_cases e:r.rows.length=0
   ·exact hC z d e (by rw[decide_eq_true d,decide_eq_true e];rfl)
   ·exact hD z d e (by rw[decide_eq_true d,decide_eq_false e];rfl)
  ·exact hE z d (by rw[decide_eq_false d];rfl)
theorem IP {n:Nat}(h:n=0):((n:Int) == 0)=true:=by rw[h];rfl
theorem GJ {n:Nat}(h:¬n=0):((n:Int) == 0)=false:=by rw[beq_eq_false_iff_ne];omega
theorem Dx(A:Option Addr)(n c:Nat)(w:World):Calls Tryz.prog 85 #[.slice A n c] w fun e w' => e= .returned (int i64 (n:Int))∧w=w':=by
 go_enter Tryz.func85,Tryz.ntmps85
 go_wp2_with fail
 go_ret
 exact⟨rfl,rfl⟩
end Go.Proofs.YthbljikbnoghcaaGreat
