/-
  Part 10 of the proof; the last part states and proves the statement.
-/
import Derived.Test.YthbljikbnoghcaaGreatM09
import Derived.Test.YthbljikbnoghcaaGreatM00
import Derived.Test.YthbljikbnoghcaaGreatM02
set_option maxHeartbeats 8000000
set_option maxRecDepth 100000
set_option linter.unusedVariables false
set_option linter.unusedSimpArgs false
open Go.Value (int)
open Go.IntKind (i64)
namespace Go.Proofs.YthbljikbnoghcaaGreat
open Go.RowKit Go.Lib Go.Sort
def F4(seq group:Int)(r:Ag):Bool:=decide (r.kind=3∧r.seq=seq∧r.group=group)
def GR(recs:List Ag)(seq group:Int):Bool:=recs.any (F4 seq group)
theorem LI(d:Ag)(cs:List Value)(f:List Addr)(seq group:Int)(p1 p2:Nat)(w:World)(h:Ac w f cs d)(hs:w.cell? ⟨p1,0,none⟩=some (int i64 seq))(hg:w.cell? ⟨p2,0,none⟩=some (int i64 group))(hp1:p1<w.heap.size)(hp2:p2<w.heap.size) :
  Calls Tryz.prog 191 #[.agg cs.toArray,.pointer (some ⟨p1,0,none⟩),.pointer (some ⟨p2,0,none⟩)] w fun e w' => e= .returned (.bool (F4 seq group d))∧Below w.heap.size w w':=by
 obtain⟨x0,x1,x2,x3,x4,x5,x6,x7,x8⟩:=d;dsimp only[Ac]at h;obtain⟨v0,v1,v2,f0,f1,f2,e,-⟩:=h;subst e;have BB:=hid (show∀o:Obj,Below w.heap.size w (w.alloc o)from fun o =>(Below.refl _ _).alloc (Nat.le_refl _) _);obtain⟨rb,hrb⟩:∃rb,F4 seq group ⟨x0,x1,x2,x3,x4,x5,x6,x7,x8⟩=rb:=⟨_,rfl⟩;rw[hrb];unfold F4 at hrb;simp only at hrb;by_cases q:x0=3
 ·subst q;by_cases q:x1=seq
  ·subst q;have e1:rb=(x4 == group):=by
    rw[← hrb,Bool.eq_iff_iff];simp
   subst e1;clear hrb;go_enter Tryz.func191,Tryz.ntmps191
   go_wp2_with fail
   go_ret
   exact⟨rfl,BB.out _⟩
  ·have e1:rb=false:=by rw[← hrb];simp[q]
   subst e1;have hq:(x1 == seq)=false:=by simpa using q
   clear hrb q;go_enter Tryz.func191,Tryz.ntmps191
   go_wp2_with fail
   go_ret
   exact⟨rfl,BB.out _⟩
 ·have e1:rb=false:=by rw[← hrb];simp[q]
  subst e1;have hq:(x0 == 3)=false:=by simpa using q
  clear hrb q;go_enter Tryz.func191,Tryz.ntmps191
  go_wp2_with fail
  go_ret
  exact⟨rfl,BB.out _⟩
theorem isDone_c(v:Value)(ds:List Ag)(f:List Addr)(seq group:Int)(w:World)(h:rSl 9 Ac w f v ds) :
  Calls Tryz.prog 145 #[v,int i64 seq,int i64 group] w fun e w' => e= .returned (.bool (GR ds seq group))∧Below w.heap.size w w':=by
 have hB:Below w.heap.size w ((w.alloc (.cells #[int i64 seq] 2)).alloc (.cells #[int i64 group] 2)):=((Below.refl _ _).alloc (Nat.le_refl _) _).alloc (by simp) _;have K1:=(Blk.new w 2 #[int i64 seq]).alloc (.cells #[int i64 group] 2);have K2:=Blk.new1 w (.cells #[int i64 seq] 2) 2 #[int i64 group];have HC:=hid (FA 9 (by omega) Tryz.sizeOf76 Tryz.isAgg76 (F4 seq group) 191 #[.pointer (some ⟨w.heap.size,0,none⟩),.pointer (some ⟨w.heap.size+1,0,none⟩)] v ds f _ (enters_of Tryz.func191 (by kernel_rfl) rfl) (rSl.below Ac.local_ Ac.fixed h hB)
  (fun W cs fk j hj hW hR => LI ds[j] cs fk seq group w.heap.size (w.heap.size+1) W hR (((K1.below hW K1.lt).cell 0).trans rfl) (((K2.below hW K2.lt).cell 0).trans rfl) (K1.below hW K1.lt).lt (K2.below hW K2.lt).lt))
 have HB:=hid hB;obtain⟨A,c,rfl,-⟩:=rSl.head h;clear h hB K1 K2;unfold GR;obtain⟨r,hr⟩:∃r,ds.any (F4 seq group)=r:=⟨_,rfl⟩;rw[hr]at HC⊢;clear hr;go_enter Tryz.func145,Tryz.ntmps145
 go_wp2_with (go_at_call 110;refine HC.out.mono ?_;rintro e w1 ⟨rfl,hb1⟩)
 go_ret
 exact⟨rfl,HB.out.trans (hb1.mono HB.out.size)⟩
end Go.Proofs.YthbljikbnoghcaaGreat
namespace Go.Proofs.YthbljikbnoghcaaGreat
open Go.RowKit
open Go.Lib (hid)
def Al(n lo hi:Int):Bool:=decide (lo≤n∧n≤hi)
theorem FV {n lo hi:Int}(h1:lo≤n)(h2:n≤hi):Al n lo hi=true:=by simp[Al,h1,h2]
theorem Hj {n lo hi:Int}(h1:n<lo):Al n lo hi=false:=by simp[Al];omega
theorem F5 {n lo hi:Int}(h1:hi<n):Al n lo hi=false:=by simp[Al];omega
theorem BE {n lo hi:Int}(h:Al n lo hi=true):lo≤n∧n≤hi:=by simpa [Al]using h
theorem AX(n lo hi:Int)(w:World) :
  Calls Tryz.prog 61 #[int i64 n,int i64 lo,int i64 hi] w fun e w' => e= .returned (.bool (Al n lo hi))∧w=w':=by
 by_cases h1:lo≤n
 ·by_cases h2:n≤hi
  ·rw[FV h1 h2];go_enter Tryz.func61,Tryz.ntmps61
   go_wp2
   go_ret
   exact⟨rfl,rfl⟩
  ·rw[F5 (by omega)];go_enter Tryz.func61,Tryz.ntmps61
   go_wp2
   go_ret
   exact⟨rfl,rfl⟩
 ·rw[Hj (by omega)];go_enter Tryz.func61,Tryz.ntmps61
  go_wp2
  go_ret
  exact⟨rfl,rfl⟩
theorem I5(n lo hi:Int)(w:World) :
  Calls Tryz.prog 21 #[int i64 n,int i64 lo,int i64 hi] w fun e w' => e= .returned (.bool (Al n lo hi))∧w=w':=by
 by_cases h1:lo≤n
 ·by_cases h2:n≤hi
  ·rw[FV h1 h2];go_enter Tryz.func21,Tryz.ntmps21
   go_wp2
   go_ret
   exact⟨rfl,rfl⟩
  ·rw[F5 (by omega)];go_enter Tryz.func21,Tryz.ntmps21
   go_wp2
   go_ret
   exact⟨rfl,rfl⟩
 ·rw[Hj (by omega)];go_enter Tryz.func21,Tryz.ntmps21
  go_wp2
  go_ret
  exact⟨rfl,rfl⟩
structure Sh where
 g:Int
 c:Int
 data:Int
 p:Int
 rows:Int
 cap:Int
 b:Int
 q:Int
 t:Int
def Sh.cells(s:Sh):List Value:=[int i64 s.g,int i64 s.c,int i64 s.data,int i64 s.p,int i64 s.rows,int i64 s.cap,int i64 s.b,int i64 s.q,int i64 s.t]
def shV(s:Sh):Value:=.agg #[int i64 s.g,int i64 s.c,int i64 s.data,int i64 s.p,int i64 s.rows,int i64 s.cap,int i64 s.b,int i64 s.q,int i64 s.t]
def shB(s:Sh):Bool:=Al s.g 1 4 && (Al s.c 0 2 && (Al s.data 1 3 && (Al s.p 0 2 && (Al s.rows 1 6 && (Al s.cap 1 6 && (Al s.b 1 4 && (Al s.q 1 6 && Al s.t 0 400)))))))
def Ff(s:Sh):Int:=if shB s=true then 0 else 3
structure Sh.Ok (s:Sh):Prop where
 g:1≤s.g∧s.g≤4
 c:0≤s.c∧s.c≤2
 data:1≤s.data∧s.data≤3
 p:0≤s.p∧s.p≤2
 rows:1≤s.rows∧s.rows≤6
 cap:1≤s.cap∧s.cap≤6
 b:1≤s.b∧s.b≤4
 q:1≤s.q∧s.q≤6
 t:0≤s.t∧s.t≤400
theorem CJ {s:Sh}(h:shB s=true):s.Ok:=by
 simp only[shB,Bool.and_eq_true]at h;obtain⟨h1,h2,h3,h4,h5,h6,h7,h8,h9⟩:=h;exact⟨BE h1,BE h2,BE h3,BE h4,BE h5,BE h6,BE h7,BE h8,BE h9⟩
theorem DX {s:Sh}(h:shB s=true):Ff s=0:=by unfold Ff;rw[if_pos h]
theorem Ej {s:Sh}(h:shB s=false):Ff s=3:=by unfold Ff;rw[if_neg (by rw[h];simp)]
theorem cases9 {G:Prop}(B:Bool)(b1 b2 b3 b4 b5 b6 b7 b8 b9:Bool)(hB:B=(b1 && (b2 && (b3 && (b4 && (b5 && (b6 && (b7 && (b8 && (b9))))))))))(f1:b1=false→B=false→G)(f2:b1=true→b2=false→B=false→G)(f3:b1=true→b2=true→b3=false→B=false→G)(f4:b1=true→b2=true→b3=true→b4=false→B=false→G)(f5:b1=true→b2=true→b3=true→b4=true→b5=false→B=false→G)(f6:b1=true→b2=true→b3=true→b4=true→b5=true→b6=false→B=false→G)(f7:b1=true→b2=true→b3=true→b4=true→b5=true→b6=true→b7=false→B=false→G)(f8:b1=true→b2=true→b3=true→b4=true→b5=true→b6=true→b7=true→b8=false→B=false→G)(f9:b1=true→b2=true→b3=true→b4=true→b5=true→b6=true→b7=true→b8=true→b9=false→B=false→G)(f10:b1=true→b2=true→b3=true→b4=true→b5=true→b6=true→b7=true→b8=true→b9=true→B=true→G):G:=by
 subst hB;cases b1
 ·exact f1 rfl (by simp)
 cases b2
 ·exact f2 rfl rfl (by simp)
 cases b3
 ·exact f3 rfl rfl rfl (by simp)
 cases b4
 ·exact f4 rfl rfl rfl rfl (by simp)
 cases b5
 ·exact f5 rfl rfl rfl rfl rfl (by simp)
 cases b6
 ·exact f6 rfl rfl rfl rfl rfl rfl (by simp)
 cases b7
 ·exact f7 rfl rfl rfl rfl rfl rfl rfl (by simp)
 cases b8
 ·exact f8 rfl rfl rfl rfl rfl rfl rfl rfl (by simp)
 cases b9
 ·exact f9 rfl rfl rfl rfl rfl rfl rfl rfl rfl (by simp)
 exact f10 rfl rfl rfl rfl rfl rfl rfl rfl rfl rfl
theorem CN(s:Sh)(w:World) :
  Calls Tryz.prog 39 #[shV s] w fun e w' => e= .returned (int i64 (Ff s))∧Below w.heap.size w w':=by
 unfold shV;refine cases9 (shB s) (Al s.g 1 4) (Al s.c 0 2) (Al s.data 1 3) (Al s.p 0 2) (Al s.rows 1 6) (Al s.cap 1 6) (Al s.b 1 4) (Al s.q 1 6) (Al s.t 0 400) rfl ?_ ?_ ?_ ?_ ?_ ?_ ?_ ?_ ?_ ?_;all_goals
  intros
  first
   |rw[Ej ‹shB s=false›]
   |rw[DX ‹shB s=true›]
  go_enter Tryz.func39,Tryz.ntmps39
  go_wp2_with (go_at_call 61;refine(AX _ _ _ _).mono ?_;rintro e w' ⟨rfl,rfl⟩)
  go_ret
  exact⟨rfl,(Below.refl _ _).alloc (Nat.le_refl _) _⟩
theorem cases2 {G:Prop}(B:Bool)(b1 b2:Bool)(hB:B=(b1 && (b2)))(f1:b1=false→B=false→G)(f2:b1=true→b2=false→B=false→G)(f3:b1=true→b2=true→B=true→G):G:=by
 subst hB;cases b1
 ·exact f1 rfl (by simp)
 cases b2
 ·exact f2 rfl rfl (by simp)
 exact f3 rfl rfl rfl
theorem cases7 {G:Prop}(B:Bool)(b1 b2 b3 b4 b5 b6 b7:Bool)(hB:B=(b1 && (b2 && (b3 && (b4 && (b5 && (b6 && (b7))))))))(f1:b1=false→B=false→G)(f2:b1=true→b2=false→B=false→G)(f3:b1=true→b2=true→b3=false→B=false→G)(f4:b1=true→b2=true→b3=true→b4=false→B=false→G)(f5:b1=true→b2=true→b3=true→b4=true→b5=false→B=false→G)(f6:b1=true→b2=true→b3=true→b4=true→b5=true→b6=false→B=false→G)(f7:b1=true→b2=true→b3=true→b4=true→b5=true→b6=true→b7=false→B=false→G)(f8:b1=true→b2=true→b3=true→b4=true→b5=true→b6=true→b7=true→B=true→G):G:=by
 subst hB;cases b1
 ·exact f1 rfl (by simp)
 cases b2
 ·exact f2 rfl rfl (by simp)
 cases b3
 ·exact f3 rfl rfl rfl (by simp)
 cases b4
 ·exact f4 rfl rfl rfl rfl (by simp)
 cases b5
 ·exact f5 rfl rfl rfl rfl rfl (by simp)
 cases b6
 ·exact f6 rfl rfl rfl rfl rfl rfl (by simp)
 cases b7
 ·exact f7 rfl rfl rfl rfl rfl rfl rfl (by simp)
 exact f8 rfl rfl rfl rfl rfl rfl rfl rfl
def l3B(g c:Int):Bool:=Al g 1 4 && (Al c 0 2)
def l2B(d s:Int):Bool:=Al d 1 3 && (Al s 0 2)
theorem LN(g c:Int)(w:World) :
  Calls Tryz.prog 19 #[int i64 g,int i64 c] w fun e w' => e= .returned (.bool (l3B g c))∧w=w':=by
 refine cases2 (l3B g c) (Al g 1 4) (Al c 0 2) rfl ?_ ?_ ?_;all_goals
  intros
  first
   |rw[‹l3B g c=false›]
   |rw[‹l3B g c=true›]
  go_enter Tryz.func19,Tryz.ntmps19
  go_wp2_with (go_at_call 21;refine(I5 _ _ _ _).mono ?_;rintro e w' ⟨rfl,rfl⟩)
  go_ret
  exact⟨rfl,rfl⟩
theorem LM(g c:Int)(w:World) :
  Calls Tryz.prog 20 #[int i64 g,int i64 c] w fun e w' => e= .returned (.bool (l2B g c))∧w=w':=by
 refine cases2 (l2B g c) (Al g 1 3) (Al c 0 2) rfl ?_ ?_ ?_;all_goals
  intros
  first
   |rw[‹l2B g c=false›]
   |rw[‹l2B g c=true›]
  go_enter Tryz.func20,Tryz.ntmps20
  go_wp2_with (go_at_call 21;refine(I5 _ _ _ _).mono ?_;rintro e w' ⟨rfl,rfl⟩)
  go_ret
  exact⟨rfl,rfl⟩
theorem shB_eq(s:Sh):shB s=(l3B s.g s.c && (l2B s.data s.p && (Al s.rows 1 6 && (Al s.cap 1 6 && (Al s.b 1 4 && (Al s.q 1 6 && (Al s.t 0 400))))))):=by
 unfold shB l3B l2B;simp only[Bool.and_assoc]
theorem GF(s:Sh)(w:World) :
  Calls Tryz.prog 7 #[shV s] w fun e w' => e= .returned (int i64 (Ff s))∧Below w.heap.size w w':=by
 unfold shV;refine cases7 (shB s) (l3B s.g s.c) (l2B s.data s.p) (Al s.rows 1 6) (Al s.cap 1 6) (Al s.b 1 4) (Al s.q 1 6) (Al s.t 0 400) (shB_eq s) ?_ ?_ ?_ ?_ ?_ ?_ ?_ ?_;all_goals
  intros
  first
   |rw[Ej ‹shB s=false›]
   |rw[DX ‹shB s=true›]
  go_enter Tryz.func7,Tryz.ntmps7
  go_wp2_with (first|(go_at_call 21;refine(I5 _ _ _ _).mono ?_;rintro e w' ⟨rfl,rfl⟩)|(go_at_call 19;refine(LN _ _ _).mono ?_;rintro e w' ⟨rfl,rfl⟩)|(go_at_call 20;refine(LM _ _ _).mono ?_;rintro e w' ⟨rfl,rfl⟩))
  go_ret
  exact⟨rfl,(Below.refl _ _).alloc (Nat.le_refl _) _⟩
theorem Cz(s:Sh)(h:s.Ok)(w:World) :
  Calls Tryz.prog 40 #[shV s] w fun e w' => e= .returned (int i64 (s.g+s.c))∧Below w.heap.size w w':=by
 obtain⟨a1,a2⟩:=h.g;obtain⟨b1,b2⟩:=h.c;unfold shV;go_enter Tryz.func40,Tryz.ntmps40
 go_wp2
 go_ret
 exact⟨rfl,(Below.refl _ _).alloc (Nat.le_refl _) _⟩
end Go.Proofs.YthbljikbnoghcaaGreat
namespace Go.Proofs.YthbljikbnoghcaaGreat
open Go.RowKit Go.Lib Go.Sort
def BO.sh(s:BO):Sh:=⟨s.g,s.c,s.data,s.p,s.rows,s.cap,s.b,s.q,s.t⟩
theorem Fs(s:Sh)(h:s.Ok)(g:Int)(w:World) :
  Calls Tryz.prog 51 #[shV s,int i64 g] w fun e w' => e= .returned (.bool (Al g 0 (s.g - 1)))∧Below w.heap.size w w':=by
 obtain⟨a1,a2⟩:=h.g;unfold shV;go_enter Tryz.func51,Tryz.ntmps51
 go_wp2_with (go_at_call 61;refine(AX _ _ _ _).mono ?_;rintro e w' ⟨rfl,rfl⟩)
 go_ret
 exact⟨rfl,(Below.refl _ _).alloc (Nat.le_refl _) _⟩
theorem Hl(s:Sh)(h:s.Ok)(g:Int)(w:World) :
  Calls Tryz.prog 180 #[shV s,int i64 g] w fun e w' => e= .returned (.bool (Al g 0 (s.rows - 1)))∧Below w.heap.size w w':=by
 obtain⟨a1,a2⟩:=h.rows;unfold shV;go_enter Tryz.func180,Tryz.ntmps180
 go_wp2_with (go_at_call 61;refine(AX _ _ _ _).mono ?_;rintro e w' ⟨rfl,rfl⟩)
 go_ret
 exact⟨rfl,(Below.refl _ _).alloc (Nat.le_refl _) _⟩
theorem EO(s:Sh)(h:s.Ok)(g:Int)(w:World) :
  Calls Tryz.prog 119 #[shV s,int i64 g] w fun e w' => e= .returned (.bool (Al g 0 (s.g+s.c - 1)))∧Below w.heap.size w w':=by
 obtain⟨a1,a2⟩:=h.g;obtain⟨b1,b2⟩:=h.c;have HK:=hid (Blk.rangeAll (cs:=[int i64 s.g,int i64 s.c,int i64 s.data,int i64 s.p,int i64 s.rows,int i64 s.cap,int i64 s.b,int i64 s.q,int i64 s.t]) (Blk.new w 25 _));have HC:=hid (fun W => Cz s h W);unfold shV at HC⊢;go_enter Tryz.func119,Tryz.ntmps119
 go_wp2_with (first
  |(refine wpList_load_mid rfl 25 (.tmp 2) rfl w.heap.size 0 rfl _ _ HK.out Tryz.underlying25 rfl (by kernel_rfl) ?_)
  |(go_at_call 40;refine(HC.out _).mono ?_;rintro e w1 ⟨rfl,hb1⟩;have B1:=hid hb1;clear hb1)
  |(go_at_call 61;refine(AX _ _ _ _).mono ?_;rintro e w' ⟨rfl,rfl⟩))
 go_ret
 exact⟨rfl,((Below.refl _ _).alloc (Nat.le_refl _) _).trans (B1.out.mono (by simp))⟩
def letB(c:UInt8):Bool:=decide (97≤c.toNat) && decide (c.toNat≤122)
def digB(c:UInt8):Bool:=decide (48≤c.toNat) && decide (c.toNat≤57)
def CF(i:Nat)(c:UInt8):Bool:=letB c||(decide (0<i) && digB c)
def DY(l:List UInt8)(k:Nat):Prop:=∀i,(h:i<l.length)→i<k→CF i l[i] =true
instance (l:List UInt8) (k:Nat):Decidable (DY l k):=by unfold DY;infer_instance
def BU(l:List UInt8):Bool:=decide (DY l l.length) && (decide (1≤l.length) && decide (l.length≤8))
def Bm(l:List UInt8):Int:=if BU l=true then 0 else 5
theorem J0(l:List UInt8):DY l 0:=fun _ _ h => by omega
theorem JZ {l:List UInt8} {k:Nat}(h:DY l k)(hk:k<l.length)(hs:CF k l[k] =true):DY l (k+1):=fun i hi hik => by
 by_cases e:i=k
 ·subst e;exact hs
 ·exact h i hi (by omega)
theorem Jb {l:List UInt8} {k:Nat}(hk:k<l.length)(hs:CF k l[k] =false):Bm l=5:=by
 unfold Bm BU;rw[if_neg];intro h;simp only[Bool.and_eq_true,decide_eq_true_eq]at h;have:=h.1 k hk hk;rw[hs]at this;cases this
theorem Jc {l:List UInt8}(h:l.length<1∨8<l.length):Bm l=5:=by
 unfold Bm BU;rw[if_neg];intro h2;simp only[Bool.and_eq_true,decide_eq_true_eq]at h2;omega
theorem JS {l:List UInt8}(h:DY l l.length)(h1:1≤l.length)(h2:l.length≤8):Bm l=0:=by
 unfold Bm BU;rw[if_pos];simp only[Bool.and_eq_true,decide_eq_true_eq];exact⟨h,h1,h2⟩
def Cb(l:List Int)(hi:Int)(k:Nat):Prop:=∀i,(h:i<l.length)→i<k→Al l[i] 0 hi=true∧l[i]∉l.take i
instance (l:List Int) (hi:Int) (k:Nat):Decidable (Cb l hi k):=by unfold Cb;infer_instance
def Cl(l:List Int)(hi:Int):Bool:=decide (Cb l hi l.length)
theorem Gf(l:List Int)(hi:Int):Cb l hi 0:=fun _ _ h => by omega
theorem Ge {l:List Int} {hi:Int} {k:Nat}(h:Cb l hi k)(hk:k<l.length)(h1:Al l[k] 0 hi=true)(h2:l[k]∉l.take k):Cb l hi (k+1):=fun i hi hik => by
 by_cases e:i=k
 ·subst e;exact⟨h1,h2⟩
 ·exact h i hi (by omega)
theorem Fm {l:List Int} {hi:Int} {k:Nat}(hk:k<l.length)(h:Al l[k] 0 hi=false∨l[k]∈l.take k):∀m,k<m→¬Cb l hi m:=fun m hm ha => by
 obtain⟨h1,h2⟩:=ha k hk hm;rcases h with h|h
 ·rw[h]at h1;cases h1
 ·exact h2 h
theorem apartB_t {l:List Int} {hi:Int}(h:Cb l hi l.length):Cl l hi=true:=by unfold Cl;simpa using h
theorem IL {l:List Int} {hi:Int} {k:Nat}(hk:k<l.length)(h:Al l[k] 0 hi=false∨l[k]∈l.take k):Cl l hi=false:=by
 unfold Cl;simpa using Fm hk h _ hk
def Ey(l:List Int)(hi:Int)(k:Nat):Prop:=∀i,(h:i<l.length)→i<k→Al l[i] 0 hi=true∧(0<i→l[i - 1] <l[i])
instance (l:List Int) (hi:Int) (k:Nat):Decidable (Ey l hi k):=by unfold Ey;infer_instance
def C8(l:List Int)(hi:Int):Bool:=decide (Ey l hi l.length)
theorem Lo(l:List Int)(hi:Int):Ey l hi 0:=fun _ _ h => by omega
theorem Ln {l:List Int} {hi:Int} {k:Nat}(h:Ey l hi k)(hk:k<l.length)(h1:Al l[k] 0 hi=true)(h2:0<k→l[k - 1] <l[k]):Ey l hi (k+1):=fun i hi hik => by
 by_cases e:i=k
 ·subst e;exact⟨h1,h2⟩
 ·exact h i hi (by omega)
theorem riseB_t {l:List Int} {hi:Int}(h:Ey l hi l.length):C8 l hi=true:=by unfold C8;simpa using h
theorem riseB_f {l:List Int} {hi:Int} {k:Nat}(hk:k<l.length)(h:Al l[k] 0 hi=false∨(0<k∧l[k]≤l[k - 1])):C8 l hi=false:=by
 unfold C8;simp only[decide_eq_false_iff_not];intro ha;obtain⟨h1,h2⟩:=ha k hk hk;rcases h with h|⟨h,h3⟩
 ·rw[h]at h1;cases h1
 ·have:=h2 h;omega
def CV(s:Sh)(n:Int):Bool:=decide (1≤n∧n≤12 * s.data)
def Bz(s:Sh)(n:Int):Int:=(n - 1) / (4 * s.data)+1
theorem L0 {s:Sh}(h:s.Ok) {n:Int}(h1:1≤n):Bz s n≤3↔n≤12 * s.data:=by
 have:=h.data;have h4:0<4 * s.data:=by omega
 unfold Bz;constructor
 ·intro h2;have h3:(n - 1) / (4 * s.data)<3:=by omega
  rw[Int.ediv_lt_iff_lt_mul h4]at h3;omega
 ·intro h2;have h3:(n - 1) / (4 * s.data)<3:=by
   rw[Int.ediv_lt_iff_lt_mul h4];omega
  omega
def CO(s:Sh)(r:Ag):Bool :=
 if r.length= -1 then decide (r.data.length=0) && decide (r.rows.length=0)else
  CV s r.length && (if 0<r.data.length then decide ((r.data.length:Int)=r.length) && decide (r.rows.length=0)else decide ((r.rows.length:Int)=Bz s r.length) && Cl r.rows (s.rows - 1))
def Ew(s:Sh)(r:Ag):Bool:=Al r.group 0 (s.g - 1) && (Al r.row 0 (s.rows - 1) && (decide ((r.data.length:Int)=4 * s.data) && decide ((r.delta.length:Int)=4 * s.data)))
def doneB(s:Sh)(r:Ag):Bool:=Al r.group 0 (s.g+s.c - 1)
def Dy(r:Ag)(k:Int):Bool:=decide (r.delta.getD k.toNat 0≠0)
def Df(s:Sh)(r:Ag):Bool:=Al r.group 0 (s.g+s.c - 1) && (Al r.row 0 (s.rows - 1) && (C8 r.rows (s.g+s.c - 1) && (decide ((r.data.length:Int)=4 * s.data) && (decide ((r.delta.length:Int)=s.g+s.c) && (!Dy r r.group && r.rows.all (Dy r))))))
def G3(r:Ag):Bool :=
 if r.kind=1 then decide (r.group=0∧r.row=0∧r.delta= [])else if r.kind=2 then decide (r.name=⟨#[]⟩∧r.length=0∧r.rows= [])
 else if r.kind=3 then decide (r.name=⟨#[]⟩∧r.length=0∧r.row=0∧r.rows= []∧r.data= []∧r.delta= [])else decide (r.name=⟨#[]⟩∧r.length=0)
def Bt(s:Sh)(r:Ag):Int :=
 if r.kind=1 then(if BU r.name.data.toList=true then(if CO s r=true then 0 else 3)else 5)else if r.kind=2 then(if Ew s r=true then 0 else 3)
 else if r.kind=3 then(if doneB s r=true then 0 else 3)else(if Df s r=true then 0 else 3)
def AE(s:Sh)(r:Ag):Int :=
 if Al r.kind 1 4=true then(if Al r.seq 1 1000000000=true then(if Bt s r=0 then(if G3 r=true then 0 else 1)else Bt s r)else 3)else 5
def Eg(b:CG):Bool:=Al b.stamp 0 1000000000 && decide (b.bytes.length=4)
def Db(s:Sh)(d:Bo):Bool:=decide ((d.blocks.length:Int)=s.rows) && d.blocks.all Eg
def CT(s:Sh)(g:List Bo):Bool:=decide ((g.length:Int)=s.data+s.p) && g.all (Db s)
def BR(s:Sh)(gs:List (List Bo)):Bool:=decide ((gs.length:Int)=s.g+s.c) && gs.all (CT s)
def onB(s:Sh)(on:List Int)(down:Bool):Bool:=Cl on (s.g+s.c - 1) && (decide ((on.length:Int)≤s.cap) && (decide (on.length=0)||!down))
def AS(s:Sh):List Ag→Int
 | [] => 0
 |r :: l => if AE s r=0 then AS s l else AE s r
theorem Em(s:Sh):∀(a b:List Ag),AS s a=0→AS s (a ++ b)=AS s b
 | [],b,_ => rfl
 |r :: l,b,h => by
  unfold AS at h;split at h
  ·rename_i h0
   rw[List.cons_append];show(if AE s r=0 then AS s (l ++ b)else AE s r)=AS s b
   rw[if_pos h0];exact Em s l b h
  ·rename_i h0;exact absurd h h0
def Bf(s:Sh)(ts:List AU):Int :=
 if ts.any (fun t => decide (200<t.recs.length))=true then 2 else if AS s (ts.flatMap AU.recs)=0 then(if ts.any (fun t => t.wiped && decide (0<t.recs.length))=true then 1 else 0)else AS s (ts.flatMap AU.recs)
def AI(d:Au):Int :=
 if shB d.s.sh=true then
  (if(BR d.s.sh d.g && (onB d.s.sh d.on d.down && decide (d.v.length=2)))=true then
   (if Bf d.s.sh d.v=0 then(if(Al d.u 0 1000000000 && Al d.stop (-1) 1000000000)=true then 0 else 3)else Bf d.s.sh d.v)
  else 1)
 else 3
def Er(l:List UInt8):Nat:=(l.map (·.toNat)).sum
def BT(groups:Int)(nm:ByteArray):Int:=((Er nm.data.toList:Nat):Int) % groups
theorem Md {l:List UInt8} {j:Nat}(h:j<l.length):Er (l.take (j+1))=Er (l.take j)+l[j].toNat:=by
 unfold Er;rw[List.take_succ_eq_append_getElem h,List.map_append,List.sum_append];simp
theorem Ki:∀l:List UInt8,Er l≤255 * l.length
 | [] => by simp[Er]
 |c :: l => by
  have h1:=Ki l;have h2:=c.toNat_lt;unfold Er at h1⊢;simp only[List.map_cons,List.sum_cons,List.length_cons];omega
theorem homeF_in {groups:Int}(h:0<groups)(nm:ByteArray):0≤BT groups nm∧BT groups nm<groups:=by
 unfold BT;exact⟨Int.emod_nonneg _ (by omega),Int.emod_lt_of_pos _ h⟩
theorem GW(s:Sh)(hok:s.Ok)(nm:ByteArray)(hn:nm.size≤1000000)(w:World) :
  Calls Tryz.prog 32 #[shV s,.string nm] w fun e w' => e= .returned (int i64 (BT s.g nm))∧Below w.heap.size w w':=by
 obtain⟨hg1,hg2⟩:=hok.g;have hb:=hid (show Below w.heap.size w (w.alloc (.cells #[int i64 s.g,int i64 s.c,int i64 s.data,int i64 s.p,int i64 s.rows,int i64 s.cap,int i64 s.b,int i64 s.q,int i64 s.t] 25))from(Below.refl _ _).alloc (Nat.le_refl _) _);have hsz:nm.data.toList.length=nm.size:=by simp
 have HSZ:=hid hsz;have hgz:¬s.g=0:=by omega
 have hgb:(s.g == 0)=false:=by simpa using hgz
 unfold shV;go_enter Tryz.func32,Tryz.ntmps32
 go_wp2_with fail
 go_loop [5,6,9] (fun a _ i =>∃j:Nat,j≤nm.size∧i= int i64 j∧a= int i64 ((Er (nm.data.toList.take j):Nat):Int)) (fun _ _ i => nm.size - (intOf i).toNat)
 case atStart => exact⟨0,by omega,rfl,rfl⟩
 case round =>
  obtain⟨j,hj,rfl,rfl⟩:=hrel;by_cases hlt:j<nm.size
  ·have hki:(j:Int)<(nm.size:Int):=by omega
   have hk1:j<nm.data.toList.length:=by rw[HSZ.out];exact hlt
   have hel:nm.data.toList[j] =nm[j]'hlt:=by simp[ByteArray.getElem_eq_getElem_data]
   have hst:=Md hk1;rw[hel]at hst;have hle:=Ki (nm.data.toList.take j);rw[List.length_take]at hle;have hle2:Er (nm.data.toList.take j)≤255000000:=by omega
   have hc:=(nm[j]'hlt).toNat_lt;obtain⟨sj,hsj⟩:∃sj,Er (nm.data.toList.take j)=sj:=⟨_,rfl⟩;rw[hsj]at hst hle2⊢;have HST:=hid hst;clear hst hle hsj hk1 hel;go_wp2_with fail
   go_round
   case rel => exact⟨j+1,by omega,by go_num,by rw[HST.out];go_num⟩
   case measure => simp[intOf];omega
  ·obtain rfl:j=nm.size:=by omega
   have HE:=hid (show Er (nm.data.toList.take nm.size)=Er nm.data.toList by rw[← HSZ.out,List.take_length]);go_wp2_with fail
   go_ret
   exact⟨by first|rfl|(rw[HE.out];rfl),hb.out⟩
def ER(s:Sh)(t:An):Int :=
 if Al t.id 1 1000000000=true then
  (if t.kind=1 then(if BU t.name.data.toList=true then(if t.group=BT s.g t.name then 0 else 1)else 5)
   else if t.kind=2 then(if Al t.group 0 (s.g+s.c - 1)=true then(if t.name=⟨#[]⟩then 0 else 1)else 3)else 5)
 else 3
def AV:Nat→List (List An)→List (An × Int)
 |_,[] => []
 |g,q :: r => q.map (fun t =>(t,(g:Int))) ++ AV (g+1) r
def AM(d:AH):List (An × Int):=AV 0 d.queues ++ d.aside.map fun t =>(t,-1)
def AN(d:AH):List An:=d.queues.flatten ++ d.aside
theorem G6:∀(g:Nat) (l:List (List An)),(AV g l).map Prod.fst=l.flatten
 |_,[] => rfl
 |g,q :: r => by
  unfold AV;rw[List.map_append,G6,List.map_map,List.flatten_cons];congr 1
  exact List.map_id' _
theorem Dw(d:AH):(AM d).map Prod.fst=AN d:=by
 unfold AM AN;rw[List.map_append,G6,List.map_map];congr 1
 exact List.map_id' _
theorem Ep:∀(g:Nat) (a b:List (List An)),AV g (a ++ b)=AV g a ++ AV (g+a.length) b
 |g,[],b => by simp[AV]
 |g,q :: r,b => by
  rw[List.cons_append,AV,AV,Ep,List.append_assoc,List.length_cons];congr 2
  rw[show g+1+r.length=g+(r.length+1) by omega]
def CR(s:Sh)(next:Int)(ids:List Int)(x:An × Int):Int :=
 if ER s x.1=0 then(if next≤x.1.id then 3 else if 0≤x.2∧x.1.group≠x.2 then 1 else if x.1.id∈ids then 7 else 0)else ER s x.1
def DK(s:Sh)(next:Int):List (An × Int)→List Int→Int
 | [],_ => 0
 |x :: r,ids => if CR s next ids x=0 then DK s next r (ids ++ [x.1.id])else CR s next ids x
theorem E6 {s:Sh} {next:Int}:∀(a b:List (An × Int)) (ids:List Int),DK s next a ids=0→DK s next (a ++ b) ids=DK s next b (ids ++ a.map fun x => x.1.id)
 | [],b,ids,_ => by simp
 |x :: a,b,ids,h => by
  unfold DK at h;by_cases h1:CR s next ids x=0
  ·rw[if_pos h1]at h;rw[List.cons_append,DK,if_pos h1,E6 a b _ h,List.map_cons,List.append_assoc,List.singleton_append]
  ·rw[if_neg h1]at h;exact absurd h h1
theorem Ij {s:Sh} {next:Int} {a:List (An × Int)} {x:An × Int} {ids:List Int}(h:DK s next a ids=0)(hx:CR s next (ids ++ a.map fun x => x.1.id) x=0):DK s next (a ++ [x]) ids=0:=by
 rw[E6 _ _ _ h,DK,if_pos hx];rfl
theorem Jn {s:Sh} {next:Int} {a b:List (An × Int)} {x:An × Int} {ids:List Int}(h:DK s next a ids=0)(hx:CR s next (ids ++ a.map fun x => x.1.id) x≠0):DK s next (a ++ x :: b) ids=CR s next (ids ++ a.map fun x => x.1.id) x:=by
 rw[E6 _ _ _ h,DK,if_neg hx]
def DE(hi turn:Int)(ids:List Int)(a:AO):Int :=
 if(Al a.id 1 hi && (Al a.code 0 12 && Al a.turn 0 turn))=true then(if 36<a.bytes.length then 2 else if a.id∈ids then 7 else 0)else 3
def Ds(hi turn:Int):List AO→List Int→Int
 | [],_ => 0
 |x :: r,ids => if DE hi turn ids x=0 then Ds hi turn r (ids ++ [x.id])else DE hi turn ids x
theorem E4 {hi turn:Int}:∀(a b:List AO) (ids:List Int),Ds hi turn a ids=0→Ds hi turn (a ++ b) ids=Ds hi turn b (ids ++ a.map AO.id)
 | [],b,ids,_ => by simp
 |x :: a,b,ids,h => by
  unfold Ds at h;by_cases h1:DE hi turn ids x=0
  ·rw[if_pos h1]at h;rw[List.cons_append,Ds,if_pos h1,E4 a b _ h,List.map_cons,List.append_assoc,List.singleton_append]
  ·rw[if_neg h1]at h;exact absurd h h1
theorem Mb {hi turn:Int} {a:List AO} {x:AO} {ids:List Int}(h:Ds hi turn a ids=0)(hx:DE hi turn (ids ++ a.map AO.id) x=0):Ds hi turn (a ++ [x]) ids=0:=by
 rw[E4 _ _ _ h,Ds,if_pos hx];rfl
theorem seqA_bad {hi turn:Int} {a b:List AO} {x:AO} {ids:List Int}(h:Ds hi turn a ids=0)(hx:DE hi turn (ids ++ a.map AO.id) x≠0):Ds hi turn (a ++ x :: b) ids=DE hi turn (ids ++ a.map AO.id) x:=by
 rw[E4 _ _ _ h,Ds,if_neg hx]
def DJ(d:AH):List Int:=(AN d).map An.id
def tkC(s:Sh)(d:AH):Int:=DK s d.next (AM d) []
def anH(hi:Int)(d:AH):Int:=Ds hi d.turn d.answers (DJ d)
def Ch(s:Sh)(q:List An):Bool:=decide (s.q<(q.length:Int))
def Cg(hi:Int)(s:Sh)(d:AH):Int :=
 if(d.queues.length:Int)=s.g+s.c then
  (if(d.queues.any (Ch s)||(decide (20<d.aside.length)||decide (200<d.answers.length)))=true then 2
   else if tkC s d=0 then(if anH hi d=0 then(if(Al d.turn 0 1000000000 && Al d.next 1 1000000000)=true then 0 else 3)else anH hi d)else tkC s d)
 else 1
theorem FC {α:Type} {k:Nat}:∀ {l:List (List α)},(∀q,q∈l→q.length≤k)→l.flatten.length≤l.length * k
 | [],_ => by simp
 |q :: r,h => by
  have h1:=FC (l:=r) fun x hx => h x (List.mem_cons_of_mem _ hx)
  have h2:=h q (List.mem_cons_self ..);rw[List.flatten_cons,List.length_append,List.length_cons,Nat.add_mul,Nat.one_mul];omega
theorem GH {s:Sh}(hs:s.Ok) {d:AH}(hl:(d.queues.length:Int)=s.g+s.c)(hq:d.queues.any (Ch s)=false)(ha:d.aside.length≤20):(AN d).length≤60:=by
 have h1:=hs.g;have h2:=hs.c;have h3:=hs.q;have h4:=FC (k:=6) (l:=d.queues) fun q hqm => by
  have:=List.any_eq_false.1 hq q hqm;unfold Ch at this;simp at this;omega
 unfold AN;rw[List.length_append];omega
theorem Bi {P:Program} {f:FuncId} {args:Array Value} {w:World} {v:Value}(h:∀W,Below w.heap.size w W→Calls P f args W fun e w' => e= .returned v∧Below W.heap.size W w')(d:Nat)(os:Array Obj) :
  Calls P f args (grow (redrawn w d) os) fun e w'' => e= .returned v∧∃p:Regrown,w''=grow (redrawn w p.d) p.os:=Calls.regrown_of (h _ (below_regrown w d os))
theorem BF {P:Program} {f:FuncId} {args:Array Value} {w:World} {v:Value}(h:∀W,Calls P f args W fun e w' => e= .returned v∧W=w')(d:Nat)(os:Array Obj) :
  Calls P f args (grow (redrawn w d) os) fun e w'' => e= .returned v∧∃p:Regrown,w''=grow (redrawn w p.d) p.os:=Calls.regrown_of ((h _).mono (by rintro e w' ⟨rfl,rfl⟩;exact⟨rfl,Below.refl _ _⟩))
theorem JU {l:List Int} {x:Int} {k:Nat}(h:x∉l.take k)(hk:k<l.length)(hx:¬l[k] =x):x∉l.take (k+1):=by
 rw[List.take_succ_eq_append_getElem hk];intro hm;rcases List.mem_append.1 hm with h1|h1
 ·exact h h1
 ·exact hx (List.mem_singleton.1 h1).symm
theorem mem_at {l:List Int} {x:Int} {k:Nat}(hk:k<l.length)(hx:l[k] =x):x∈l:=hx ▸ List.getElem_mem hk
theorem FJ {a b:Int}(h:a=b):(a == b)=true:=by simpa using h
theorem Ef {a b:Int}(h:¬a=b):(a == b)=false:=by simpa using h
theorem JK(v:Value)(ls:List Int)(x:Int)(f:List Addr)(w:World)(h:Cn w f v ls) :
  Calls Tryz.prog 154 #[v,int i64 x] w fun e w' =>∃r:Int,e= .returned (int i64 r)∧decide (0≤r)=decide (x∈ls)∧Below w.heap.size w w':=by
 obtain⟨A,c,rfl,hc,hm,hx⟩:=Cn.open_ h;have HX:=hid hx;clear h hx;go_enter Tryz.func154,Tryz.ntmps154
 go_wp2_with fail
 go_loopw [8,5] (fun i _ wr =>∃k:Nat,k≤ls.length∧i= int i64 k∧Hid (x∉ls.take k)∧Hid (Below w.heap.size w wr)) (fun i _ _ => ls.length - (intOf i).toNat)
 case atStart => exact⟨0,by omega,rfl,(show x∉ls.take 0 by simp),Below.refl _ _⟩
 case round =>
  obtain⟨k,hk,rfl,HS,HB⟩:=hrel;by_cases hlt:k<ls.length
  ·obtain⟨ad,e1,-,b1,p1,-⟩:=HX.out k hlt;subst e1;have p1':=(HB.out.cell (p:=ad.add k) b1).trans p1;have hki:(k:Int)<(ls.length:Int):=by omega
   by_cases q:ls[k] =x
   ·have HM:=hid (mem_at hlt q);have q1:(x == ls[k])=true:=FJ q.symm;rw[q]at p1' q1;clear q p1;go_wp2_with fail
    go_ret
    exact⟨k,rfl,by rw[decide_eq_true HM.out];simp,HB.out⟩
   ·have HS2:=hid (JU HS.out hlt q);have q1:(x == ls[k])=false:=Ef (fun e => q e.symm);clear q p1;go_wp2_with fail
    go_roundw
    case rel => exact⟨k+1,by omega,by go_num,HS2.out,HB.out⟩
    case measure => simp[intOf];omega
  ·obtain rfl:k=ls.length:=by omega
   have HS2:=hid HS.out;go_wp2_with fail
   go_ret
   refine⟨-1,rfl,?_,HB.out⟩;have:=HS2.out;rw[List.take_length]at this;rw[decide_eq_false this];rfl
theorem CI(v:Value)(ls:List Int)(x:Int)(f:List Addr)(w:World)(h:Cn w f v ls) :
  Calls Tryz.prog 96 #[v,int i64 x] w fun e w' => e= .returned (.bool (decide (x∈ls)))∧Below w.heap.size w w':=by
 have HC:=hid (JK v ls x f w h);obtain⟨A,c,rfl,hc,hm,hx⟩:=Cn.open_ h;obtain⟨r,hr⟩:∃r,decide (x∈ls)=r:=⟨_,rfl⟩;rw[hr]at HC⊢;clear h hx hr;go_enter Tryz.func96,Tryz.ntmps96
 go_wp2_with (go_at_call 154;refine HC.out.mono ?_;rintro e w2 ⟨q,rfl,hq,hb⟩)
 go_ret
 exact⟨by rw[← hq];rfl,hb⟩
end Go.Proofs.YthbljikbnoghcaaGreat
