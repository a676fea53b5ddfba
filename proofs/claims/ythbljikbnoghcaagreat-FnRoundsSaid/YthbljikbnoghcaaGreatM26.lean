/-
  Part 26 of the proof; the last part states and proves the statement.
-/
import Derived.Test.YthbljikbnoghcaaGreatM11
import Derived.Test.YthbljikbnoghcaaGreatM25
import Derived.Test.YthbljikbnoghcaaGreatM10
import Derived.Test.YthbljikbnoghcaaGreatM05
import Derived.Test.YthbljikbnoghcaaGreatM24
import Derived.Sort.AtCall
set_option maxHeartbeats 8000000
set_option maxRecDepth 100000
set_option linter.unusedVariables false
set_option linter.unusedSimpArgs false
open Go.Value (int)
open Go.IntKind (i64)
namespace Go.Proofs.YthbljikbnoghcaaGreat
open Go.RowKit Go.Lib Go.Sort
theorem Lp(s:Sh)(x:Ag)(P:Prop)
  (h1:Al x.group 0 (s.g+s.c - 1)=false→Df s x=false→P)
  (h2:Al x.group 0 (s.g+s.c - 1)=true→Al x.row 0 (s.rows - 1)=false→Df s x=false→P)
  (h3:Al x.group 0 (s.g+s.c - 1)=true→Al x.row 0 (s.rows - 1)=true→C8 x.rows (s.g+s.c - 1)=false→Df s x=false→P)
  (h4:Al x.group 0 (s.g+s.c - 1)=true→Al x.row 0 (s.rows - 1)=true→C8 x.rows (s.g+s.c - 1)=true→¬(x.data.length:Int)=s.data * 4→Df s x=false→P)
  (h5:Al x.group 0 (s.g+s.c - 1)=true→Al x.row 0 (s.rows - 1)=true→C8 x.rows (s.g+s.c - 1)=true→(x.data.length:Int)=s.data * 4→¬(x.delta.length:Int)=s.g+s.c→Df s x=false→P)
  (h6:Al x.group 0 (s.g+s.c - 1)=true→Al x.row 0 (s.rows - 1)=true→C8 x.rows (s.g+s.c - 1)=true→(x.data.length:Int)=s.data * 4→(x.delta.length:Int)=s.g+s.c→Df s x=(!Dy x x.group && x.rows.all (Dy x))→P):P:=by
 unfold Df at h1 h2 h3 h4 h5 h6;rw[Int.mul_comm 4 s.data]at h1 h2 h3 h4 h5 h6;by_cases g:Al x.group 0 (s.g+s.c - 1)=true
 ·by_cases r:Al x.row 0 (s.rows - 1)=true
  ·by_cases i:C8 x.rows (s.g+s.c - 1)=true
   ·by_cases d:(x.data.length:Int)=s.data * 4
    ·by_cases e:(x.delta.length:Int)=s.g+s.c
     ·exact h6 g r i d e (by rw[g,r,i,decide_eq_true d,decide_eq_true e];rfl)
     ·exact h5 g r i d e (by rw[g,r,i,decide_eq_true d,decide_eq_false e];rfl)
    ·exact h4 g r i d (by rw[g,r,i,decide_eq_false d];rfl)
   ·have i':C8 x.rows (s.g+s.c - 1)=false:=by simpa using i
    exact h3 g r i' (by rw[g,r,i'];rfl)
  ·have r':Al x.row 0 (s.rows - 1)=false:=by simpa using r
   exact h2 g r' (by rw[g,r'];rfl)
 ·have g':Al x.group 0 (s.g+s.c - 1)=false:=by simpa using g
  exact h1 g' (by rw[g'];rfl)
theorem Jw {w:World} {f:List Addr} {A:Option Addr} {n c:Nat} {x:Ag}(h:Ap w f (.slice A n c) x.delta) {k:Int}(h0:0≤k)(h1:k<(n:Int)) :
  ∃(ad:Addr) (bb:UInt8),A=some ad∧(ad.add k.toNat).block <w.heap.size∧w.cell? (ad.add k.toNat)=some (.int .u8 (bb.toNat:Int))∧Dy x k=decide (bb≠0):=by
 obtain⟨A',c',e,-,-,hx⟩:=Ap.open_ h;injection e with e1 e2 e3
 subst e1 e3;obtain⟨ad,ea,-,q2,q3⟩:=hx k.toNat (by omega);refine⟨ad,_,ea,q2,q3,?_⟩;unfold Dy;rw[List.getD_eq_getElem?_getD,List.getElem?_eq_getElem (by omega),Option.getD_some]
theorem Kd {b:UInt8}(h:b=0):((b.toNat:Int) == 0)=true:=by rw[h];rfl
theorem Kc {b:UInt8}(h:¬b=0):((b.toNat:Int) == 0)=false:=by
 rw[beq_eq_false_iff_ne];intro e;have e2:b.toNat=0:=by omega
 exact h (UInt8.toNat_inj.1 (by rw[e2];rfl))
theorem byteN_t {b:UInt8}(h:¬b=0):((b.toNat:Int) != 0)=true:=by unfold bne;rw[Kc h];rfl
theorem byteN_f {b:UInt8}(h:b=0):((b.toNat:Int) != 0)=false:=by unfold bne;rw[Kd h];rfl
theorem It(x:Ag)(A2:Option Addr)(nE c2:Nat)(f:List Addr)(p:Nat)(k:Int)(W:World)(h0:0≤k)(h1:k<(nE:Int))(h:Ap W f (.slice A2 nE c2) x.delta)(hc:W.cell? ⟨p,8,none⟩=some (.slice A2 nE c2))(lp:p<W.heap.size) :
  Calls Tryz.prog 229 #[int i64 k,.pointer (some ⟨p,0,none⟩)] W fun e w' => e= .returned (.bool (!Dy x k))∧Below W.heap.size W w':=by
 obtain⟨ad,bb,ea,lb,pb,hw⟩:=Jw h h0 h1;subst ea;rw[hw];obtain⟨kn,rfl⟩:=Int.eq_ofNat_of_zero_le h0;rw[Int.toNat_natCast]at pb lb;clear h hw;by_cases q:bb=0
 ·rw[show(!decide (bb≠0))=true by rw[q];rfl];have q1:=Kd q;clear q;go_enter Tryz.func229,Tryz.ntmps229
  go_wp2_with fail
  go_ret
  exact⟨rfl,Below.refl _ _⟩
 ·rw[show(!decide (bb≠0))=false by rw[decide_eq_true q];rfl];have q1:=Kc q;clear q;go_enter Tryz.func229,Tryz.ntmps229
  go_wp2_with fail
  go_ret
  exact⟨rfl,Below.refl _ _⟩
theorem Jo(s:Sh)(hs:s.Ok)(x:Ag)(cs:List Value)(f:List Addr)(w:World)(h:Ac w f cs x) :
  Calls Tryz.prog 179 #[shV s,.agg cs.toArray] w fun e w' => e= .returned (int i64 (if Df s x=true then 0 else 3))∧Below w.heap.size w w':=by
 dsimp only[Ac]at h;obtain⟨v0,v1,v2,f0,f1,f2,rfl,rfl,o0,o1,o2,o3,o4,o5,h0,h1,h2⟩:=h;obtain⟨A0,c0,rfl,k0,m0⟩:=rSl.head h0;obtain⟨A1,c1,rfl,k1,m1⟩:=rSl.head h1;obtain⟨A2,c2,rfl,k2,m2⟩:=rSl.head h2;have H0:=hid h0;have H1:=hid h1;have H2:=hid h2;obtain⟨nR,hnR⟩:∃nR,x.rows.length=nR:=⟨_,rfl⟩;obtain⟨nD,hnD⟩:∃nD,x.data.length=nD:=⟨_,rfl⟩;obtain⟨nE,hnE⟩:∃nE,x.delta.length=nE:=⟨_,rfl⟩;have HNR:=hid hnR;have HND:=hid hnD;have HNE:=hid hnE;rw[hnR]at H0 k0⊢;rw[hnD]at H1 k1⊢;rw[hnE]at H2 k2⊢;have K1:=(Blk.new w 25 #[int i64 s.g,int i64 s.c,int i64 s.data,int i64 s.p,int i64 s.rows,int i64 s.cap,int i64 s.b,int i64 s.q,int i64 s.t]).alloc (.cells #[int i64 x.kind,int i64 x.seq,.string x.name,int i64 x.length,int i64 x.group,int i64 x.row,.slice A0 nR c0,.slice A1 nD c1,.slice A2 nE c2] 76);have K2:=Blk.new1 w (.cells #[int i64 s.g,int i64 s.c,int i64 s.data,int i64 s.p,int i64 s.rows,int i64 s.cap,int i64 s.b,int i64 s.q,int i64 s.t] 25) 76 #[int i64 x.kind,int i64 x.seq,.string x.name,int i64 x.length,int i64 x.group,int i64 x.row,.slice A0 nR c0,.slice A1 nD c1,.slice A2 nE c2];have hB:Below w.heap.size w ((w.alloc (.cells #[int i64 s.g,int i64 s.c,int i64 s.data,int i64 s.p,int i64 s.rows,int i64 s.cap,int i64 s.b,int i64 s.q,int i64 s.t] 25)).alloc (.cells #[int i64 x.kind,int i64 x.seq,.string x.name,int i64 x.length,int i64 x.group,int i64 x.row,.slice A0 nR c0,.slice A1 nD c1,.slice A2 nE c2] 76)):=((Below.refl _ _).alloc (Nat.le_refl _) _).alloc (by simp) _;have HB:=hid hB;have S2:=Ck.of K1;have R2:=Dz.of K2;have HS:=hid S2;have HRC:=hid R2;clear h0 h1 h2 hnR hnD hnE K1 K2 hB;obtain⟨d1,d2⟩:=hs.data;obtain⟨d3,d4⟩:=hs.g;obtain⟨d5,d6⟩:=hs.c;have HIC:=hid (Lp s x);obtain⟨b,hb⟩:∃b,Df s x=b:=⟨_,rfl⟩;rw[hb]at HIC⊢;rw[HND.out,HNE.out]at HIC;obtain⟨al,hal⟩:∃al,s.g+s.c=al:=⟨_,rfl⟩;obtain⟨wd,hwd⟩:∃wd,s.data * 4=wd:=⟨_,rfl⟩;rw[hal,hwd]at HIC;have hal6:1≤al∧al≤6:=by omega
 have HAL:=hid hal6;have QG:=hid (Bi (w:=((w.alloc (.cells #[int i64 s.g,int i64 s.c,int i64 s.data,int i64 s.p,int i64 s.rows,int i64 s.cap,int i64 s.b,int i64 s.q,int i64 s.t] 25)).alloc (.cells #[int i64 x.kind,int i64 x.seq,.string x.name,int i64 x.length,int i64 x.group,int i64 x.row,.slice A0 nR c0,.slice A1 nD c1,.slice A2 nE c2] 76))) (fun W _ => EO s hs x.group W));have QR:=hid (Bi (w:=((w.alloc (.cells #[int i64 s.g,int i64 s.c,int i64 s.data,int i64 s.p,int i64 s.rows,int i64 s.cap,int i64 s.b,int i64 s.q,int i64 s.t] 25)).alloc (.cells #[int i64 x.kind,int i64 x.seq,.string x.name,int i64 x.length,int i64 x.group,int i64 x.row,.slice A0 nR c0,.slice A1 nD c1,.slice A2 nE c2] 76))) (fun W _ => Hl s hs x.row W));have QA:=hid (Bi (w:=((w.alloc (.cells #[int i64 s.g,int i64 s.c,int i64 s.data,int i64 s.p,int i64 s.rows,int i64 s.cap,int i64 s.b,int i64 s.q,int i64 s.t] 25)).alloc (.cells #[int i64 x.kind,int i64 x.seq,.string x.name,int i64 x.length,int i64 x.group,int i64 x.row,.slice A0 nR c0,.slice A1 nD c1,.slice A2 nE c2] 76))) (fun W _ => Cz s hs W));have QI:=hid (Bi (w:=((w.alloc (.cells #[int i64 s.g,int i64 s.c,int i64 s.data,int i64 s.p,int i64 s.rows,int i64 s.cap,int i64 s.b,int i64 s.q,int i64 s.t] 25)).alloc (.cells #[int i64 x.kind,int i64 x.seq,.string x.name,int i64 x.length,int i64 x.group,int i64 x.row,.slice A0 nR c0,.slice A1 nD c1,.slice A2 nE c2] 76))) (fun W hW => L9 (.slice A0 nR c0) x.rows al (al - 1) f0 W (rSl.below As.local_ As.fixed H0.out (HB.out.trans (hW.mono HB.out.size))) rfl ⟨by omega,by omega⟩));have QL:=hid (Bi (w:=((w.alloc (.cells #[int i64 s.g,int i64 s.c,int i64 s.data,int i64 s.p,int i64 s.rows,int i64 s.cap,int i64 s.b,int i64 s.q,int i64 s.t] 25)).alloc (.cells #[int i64 x.kind,int i64 x.seq,.string x.name,int i64 x.length,int i64 x.group,int i64 x.row,.slice A0 nR c0,.slice A1 nD c1,.slice A2 nE c2] 76))) (fun W _ => E0 s hs W));have QS1:=hid (BF (w:=((w.alloc (.cells #[int i64 s.g,int i64 s.c,int i64 s.data,int i64 s.p,int i64 s.rows,int i64 s.cap,int i64 s.b,int i64 s.q,int i64 s.t] 25)).alloc (.cells #[int i64 x.kind,int i64 x.seq,.string x.name,int i64 x.length,int i64 x.group,int i64 x.row,.slice A0 nR c0,.slice A1 nD c1,.slice A2 nE c2] 76))) (fun W => Bw A1 nD c1 W));have QS2:=hid (BF (w:=((w.alloc (.cells #[int i64 s.g,int i64 s.c,int i64 s.data,int i64 s.p,int i64 s.rows,int i64 s.cap,int i64 s.b,int i64 s.q,int i64 s.t] 25)).alloc (.cells #[int i64 x.kind,int i64 x.seq,.string x.name,int i64 x.length,int i64 x.group,int i64 x.row,.slice A0 nR c0,.slice A1 nD c1,.slice A2 nE c2] 76))) (fun W => Bw A2 nE c2 W));unfold shV at QG QR QA QL⊢;rw[hal]at QG QA;rw[hwd]at QL;have t4:=cell_regrown HRC.out.c4;have t5:=cell_regrown HRC.out.c5;have t6:=cell_regrown HRC.out.c6;have t7:=cell_regrown HRC.out.c7;have t8:=cell_regrown HRC.out.c8;have u0:=cell_regrown HS.out.c0;have u1:=cell_regrown HS.out.c1;have u2:=cell_regrown HS.out.c2;have u3:=cell_regrown HS.out.c3;have u4:=cell_regrown HS.out.c4;have u5:=cell_regrown HS.out.c5;have u6:=cell_regrown HS.out.c6;have u7:=cell_regrown HS.out.c7;have u8:=cell_regrown HS.out.c8;have lr:=HRC.out.lt;have ls:=HS.out.lt;clear hb hal hwd d1 d2 d3 d4 d5 d6 hal6 hs;refine HIC.out _ ?_ ?_ ?_ ?_ ?_ ?_
 ·intro g hbv;subst hbv;rw[g]at QG;clear HIC g;go_enter Tryz.func179,Tryz.ntmps179
  go_wp2_with fail
  (refine wp_region_quiet_below (by kernel_rfl) (by kernel_rfl) ?_;(repeat(first|go_big_quiet_step (first|exact QG.out _ _|exact QR.out _ _|exact QA.out _ _|exact QI.out _ _|exact QL.out _ _|exact QS1.out _ _|exact QS2.out _ _)|quiet_step (first|exact QG.out _ _|exact QR.out _ _|exact QA.out _ _|exact QI.out _ _|exact QL.out _ _|exact QS1.out _ _|exact QS2.out _ _)));refine wpQuiet_nil ?_)
  rintro _ ⟨⟨dq,osq⟩,rfl⟩;have b5:=below_regrown ((w.alloc (.cells #[int i64 s.g,int i64 s.c,int i64 s.data,int i64 s.p,int i64 s.rows,int i64 s.cap,int i64 s.b,int i64 s.q,int i64 s.t] 25)).alloc (.cells #[int i64 x.kind,int i64 x.seq,.string x.name,int i64 x.length,int i64 x.group,int i64 x.row,.slice A0 nR c0,.slice A1 nD c1,.slice A2 nE c2] 76)) dq osq;generalize grow (redrawn ((w.alloc (.cells #[int i64 s.g,int i64 s.c,int i64 s.data,int i64 s.p,int i64 s.rows,int i64 s.cap,int i64 s.b,int i64 s.q,int i64 s.t] 25)).alloc (.cells #[int i64 x.kind,int i64 x.seq,.string x.name,int i64 x.length,int i64 x.group,int i64 x.row,.slice A0 nR c0,.slice A1 nD c1,.slice A2 nE c2] 76)) dq) osq=w5 at b5;have S5:=HS.out.below b5;have R5:=HRC.out.below b5;have B5:=hid (HB.out.trans (b5.mono HB.out.size));have x54:=R5.c4;have x56:=R5.c6;have x58:=R5.c8;have lr5:=R5.lt;have ls5:=S5.lt;have HR5:=hid R5;clear b5 S5 R5;clear t4 t5 t6 t7 t8 u0 u1 u2 u3 u4 u5 u6 u7 u8 QG QR QA QI QL QS1 QS2;go_wp2_with fail
  go_ret
  exact⟨rfl,B5.out⟩
 ·intro g r hbv;subst hbv;rw[g]at QG;rw[r]at QR;clear HIC g r;go_enter Tryz.func179,Tryz.ntmps179
  go_wp2_with fail
  (refine wp_region_quiet_below (by kernel_rfl) (by kernel_rfl) ?_;(repeat(first|go_big_quiet_step (first|exact QG.out _ _|exact QR.out _ _|exact QA.out _ _|exact QI.out _ _|exact QL.out _ _|exact QS1.out _ _|exact QS2.out _ _)|quiet_step (first|exact QG.out _ _|exact QR.out _ _|exact QA.out _ _|exact QI.out _ _|exact QL.out _ _|exact QS1.out _ _|exact QS2.out _ _)));refine wpQuiet_nil ?_)
  rintro _ ⟨⟨dq,osq⟩,rfl⟩;have b5:=below_regrown ((w.alloc (.cells #[int i64 s.g,int i64 s.c,int i64 s.data,int i64 s.p,int i64 s.rows,int i64 s.cap,int i64 s.b,int i64 s.q,int i64 s.t] 25)).alloc (.cells #[int i64 x.kind,int i64 x.seq,.string x.name,int i64 x.length,int i64 x.group,int i64 x.row,.slice A0 nR c0,.slice A1 nD c1,.slice A2 nE c2] 76)) dq osq;generalize grow (redrawn ((w.alloc (.cells #[int i64 s.g,int i64 s.c,int i64 s.data,int i64 s.p,int i64 s.rows,int i64 s.cap,int i64 s.b,int i64 s.q,int i64 s.t] 25)).alloc (.cells #[int i64 x.kind,int i64 x.seq,.string x.name,int i64 x.length,int i64 x.group,int i64 x.row,.slice A0 nR c0,.slice A1 nD c1,.slice A2 nE c2] 76)) dq) osq=w5 at b5;have S5:=HS.out.below b5;have R5:=HRC.out.below b5;have B5:=hid (HB.out.trans (b5.mono HB.out.size));have x54:=R5.c4;have x56:=R5.c6;have x58:=R5.c8;have lr5:=R5.lt;have ls5:=S5.lt;have HR5:=hid R5;clear b5 S5 R5;clear t4 t5 t6 t7 t8 u0 u1 u2 u3 u4 u5 u6 u7 u8 QG QR QA QI QL QS1 QS2;go_wp2_with fail
  go_ret
  exact⟨rfl,B5.out⟩
 ·intro g r i hbv;subst hbv;rw[g]at QG;rw[r]at QR;rw[i]at QI;clear HIC g r i;go_enter Tryz.func179,Tryz.ntmps179
  go_wp2_with fail
  (refine wp_region_quiet_below (by kernel_rfl) (by kernel_rfl) ?_;(repeat(first|go_big_quiet_step (first|exact QG.out _ _|exact QR.out _ _|exact QA.out _ _|exact QI.out _ _|exact QL.out _ _|exact QS1.out _ _|exact QS2.out _ _)|quiet_step (first|exact QG.out _ _|exact QR.out _ _|exact QA.out _ _|exact QI.out _ _|exact QL.out _ _|exact QS1.out _ _|exact QS2.out _ _)));refine wpQuiet_nil ?_)
  rintro _ ⟨⟨dq,osq⟩,rfl⟩;have b5:=below_regrown ((w.alloc (.cells #[int i64 s.g,int i64 s.c,int i64 s.data,int i64 s.p,int i64 s.rows,int i64 s.cap,int i64 s.b,int i64 s.q,int i64 s.t] 25)).alloc (.cells #[int i64 x.kind,int i64 x.seq,.string x.name,int i64 x.length,int i64 x.group,int i64 x.row,.slice A0 nR c0,.slice A1 nD c1,.slice A2 nE c2] 76)) dq osq;generalize grow (redrawn ((w.alloc (.cells #[int i64 s.g,int i64 s.c,int i64 s.data,int i64 s.p,int i64 s.rows,int i64 s.cap,int i64 s.b,int i64 s.q,int i64 s.t] 25)).alloc (.cells #[int i64 x.kind,int i64 x.seq,.string x.name,int i64 x.length,int i64 x.group,int i64 x.row,.slice A0 nR c0,.slice A1 nD c1,.slice A2 nE c2] 76)) dq) osq=w5 at b5;have S5:=HS.out.below b5;have R5:=HRC.out.below b5;have B5:=hid (HB.out.trans (b5.mono HB.out.size));have x54:=R5.c4;have x56:=R5.c6;have x58:=R5.c8;have lr5:=R5.lt;have ls5:=S5.lt;have HR5:=hid R5;clear b5 S5 R5;clear t4 t5 t6 t7 t8 u0 u1 u2 u3 u4 u5 u6 u7 u8 QG QR QA QI QL QS1 QS2;go_wp2_with fail
  go_ret
  exact⟨rfl,B5.out⟩
 ·intro g r i d hbv;subst hbv;rw[g]at QG;rw[r]at QR;rw[i]at QI;have d':((nD:Int) == wd)=false:=Ef d;clear HIC g r i d;go_enter Tryz.func179,Tryz.ntmps179
  go_wp2_with fail
  (refine wp_region_quiet_below (by kernel_rfl) (by kernel_rfl) ?_;(repeat(first|go_big_quiet_step (first|exact QG.out _ _|exact QR.out _ _|exact QA.out _ _|exact QI.out _ _|exact QL.out _ _|exact QS1.out _ _|exact QS2.out _ _)|quiet_step (first|exact QG.out _ _|exact QR.out _ _|exact QA.out _ _|exact QI.out _ _|exact QL.out _ _|exact QS1.out _ _|exact QS2.out _ _)));refine wpQuiet_nil ?_)
  rintro _ ⟨⟨dq,osq⟩,rfl⟩;have b5:=below_regrown ((w.alloc (.cells #[int i64 s.g,int i64 s.c,int i64 s.data,int i64 s.p,int i64 s.rows,int i64 s.cap,int i64 s.b,int i64 s.q,int i64 s.t] 25)).alloc (.cells #[int i64 x.kind,int i64 x.seq,.string x.name,int i64 x.length,int i64 x.group,int i64 x.row,.slice A0 nR c0,.slice A1 nD c1,.slice A2 nE c2] 76)) dq osq;generalize grow (redrawn ((w.alloc (.cells #[int i64 s.g,int i64 s.c,int i64 s.data,int i64 s.p,int i64 s.rows,int i64 s.cap,int i64 s.b,int i64 s.q,int i64 s.t] 25)).alloc (.cells #[int i64 x.kind,int i64 x.seq,.string x.name,int i64 x.length,int i64 x.group,int i64 x.row,.slice A0 nR c0,.slice A1 nD c1,.slice A2 nE c2] 76)) dq) osq=w5 at b5;have S5:=HS.out.below b5;have R5:=HRC.out.below b5;have B5:=hid (HB.out.trans (b5.mono HB.out.size));have x54:=R5.c4;have x56:=R5.c6;have x58:=R5.c8;have lr5:=R5.lt;have ls5:=S5.lt;have HR5:=hid R5;clear b5 S5 R5;clear t4 t5 t6 t7 t8 u0 u1 u2 u3 u4 u5 u6 u7 u8 QG QR QA QI QL QS1 QS2;go_wp2_with fail
  go_ret
  exact⟨rfl,B5.out⟩
 ·intro g r i d e hbv;subst hbv;rw[g]at QG;rw[r]at QR;rw[i]at QI;have d':((nD:Int) == wd)=true:=FJ d;have e':((nE:Int) == al)=false:=Ef e;clear HIC g r i d e;go_enter Tryz.func179,Tryz.ntmps179
  go_wp2_with fail
  (refine wp_region_quiet_below (by kernel_rfl) (by kernel_rfl) ?_;(repeat(first|go_big_quiet_step (first|exact QG.out _ _|exact QR.out _ _|exact QA.out _ _|exact QI.out _ _|exact QL.out _ _|exact QS1.out _ _|exact QS2.out _ _)|quiet_step (first|exact QG.out _ _|exact QR.out _ _|exact QA.out _ _|exact QI.out _ _|exact QL.out _ _|exact QS1.out _ _|exact QS2.out _ _)));refine wpQuiet_nil ?_)
  rintro _ ⟨⟨dq,osq⟩,rfl⟩;have b5:=below_regrown ((w.alloc (.cells #[int i64 s.g,int i64 s.c,int i64 s.data,int i64 s.p,int i64 s.rows,int i64 s.cap,int i64 s.b,int i64 s.q,int i64 s.t] 25)).alloc (.cells #[int i64 x.kind,int i64 x.seq,.string x.name,int i64 x.length,int i64 x.group,int i64 x.row,.slice A0 nR c0,.slice A1 nD c1,.slice A2 nE c2] 76)) dq osq;generalize grow (redrawn ((w.alloc (.cells #[int i64 s.g,int i64 s.c,int i64 s.data,int i64 s.p,int i64 s.rows,int i64 s.cap,int i64 s.b,int i64 s.q,int i64 s.t] 25)).alloc (.cells #[int i64 x.kind,int i64 x.seq,.string x.name,int i64 x.length,int i64 x.group,int i64 x.row,.slice A0 nR c0,.slice A1 nD c1,.slice A2 nE c2] 76)) dq) osq=w5 at b5;have S5:=HS.out.below b5;have R5:=HRC.out.below b5;have B5:=hid (HB.out.trans (b5.mono HB.out.size));have x54:=R5.c4;have x56:=R5.c6;have x58:=R5.c8;have lr5:=R5.lt;have ls5:=S5.lt;have HR5:=hid R5;clear b5 S5 R5;clear t4 t5 t6 t7 t8 u0 u1 u2 u3 u4 u5 u6 u7 u8 QG QR QA QI QL QS1 QS2;go_wp2_with fail
  go_ret
  exact⟨rfl,B5.out⟩
 ·intro g r i d e hbv;have hin:=BE g;have hal:=HAL.out;have hri:=i;rw[g]at QG;rw[r]at QR;rw[i]at QI;have d':((nD:Int) == wd)=true:=FJ d;have e':((nE:Int) == al)=true:=FJ e;obtain⟨ad,bb,ea,lb,pb,hw⟩:=Jw H2.out hin.1 (show x.group<(nE:Int) by omega);subst ea;have HPB:=hid pb;have HLB:=hid lb;obtain⟨gn,hgn⟩:=Int.eq_ofNat_of_zero_le hin.1;have hgn0:(0:Int)≤(gn:Int):=by omega
  have hgn1:(gn:Int)<(nE:Int):=by omega
  rw[hgn,Int.toNat_natCast]at HPB HLB;have HRISE:=hid (show∀k,k∈x.rows→0≤k∧k<(nE:Int)from fun k hk => by
   obtain⟨j,hj,rfl⟩:=List.getElem_of_mem hk;have h1:Ey x.rows (al - 1) x.rows.length:=by unfold C8 at hri;exact of_decide_eq_true hri
   have:=BE (h1 j hj hj).1;omega)
  have HGN:=hid hgn;have HHW:=hid hw;have HBV:=hid hbv;clear HIC g r i d e hbv hin hal hri pb lb hw hgn;go_enter Tryz.func179,Tryz.ntmps179
  go_wp2_with fail
  (refine wp_region_quiet_below (by kernel_rfl) (by kernel_rfl) ?_;(repeat(first|go_big_quiet_step (first|exact QG.out _ _|exact QR.out _ _|exact QA.out _ _|exact QI.out _ _|exact QL.out _ _|exact QS1.out _ _|exact QS2.out _ _)|quiet_step (first|exact QG.out _ _|exact QR.out _ _|exact QA.out _ _|exact QI.out _ _|exact QL.out _ _|exact QS1.out _ _|exact QS2.out _ _)));refine wpQuiet_nil ?_)
  rintro _ ⟨⟨dq,osq⟩,rfl⟩;have b5:=below_regrown ((w.alloc (.cells #[int i64 s.g,int i64 s.c,int i64 s.data,int i64 s.p,int i64 s.rows,int i64 s.cap,int i64 s.b,int i64 s.q,int i64 s.t] 25)).alloc (.cells #[int i64 x.kind,int i64 x.seq,.string x.name,int i64 x.length,int i64 x.group,int i64 x.row,.slice A0 nR c0,.slice A1 nD c1,.slice (some ad) nE c2] 76)) dq osq;generalize grow (redrawn ((w.alloc (.cells #[int i64 s.g,int i64 s.c,int i64 s.data,int i64 s.p,int i64 s.rows,int i64 s.cap,int i64 s.b,int i64 s.q,int i64 s.t] 25)).alloc (.cells #[int i64 x.kind,int i64 x.seq,.string x.name,int i64 x.length,int i64 x.group,int i64 x.row,.slice A0 nR c0,.slice A1 nD c1,.slice (some ad) nE c2] 76)) dq) osq=w5 at b5;have S5:=HS.out.below b5;have R5:=HRC.out.below b5;have B5:=hid (HB.out.trans (b5.mono HB.out.size));have x54:=R5.c4;have x56:=R5.c6;have x58:=R5.c8;have lr5:=R5.lt;have ls5:=S5.lt;have HR5:=hid R5;clear b5 S5 R5;clear t4 t5 t6 t7 t8 u0 u1 u2 u3 u4 u5 u6 u7 u8 QG QR QA QI QL QS1 QS2;rw[HGN.out]at x54;have pb5:=(B5.out.cell (p:=ad.add gn) HLB.out).trans HPB.out;have lb5:=Nat.lt_of_lt_of_le HLB.out B5.out.size;by_cases q:bb=0
  ·have q1:=byteN_f q;have hbq:b=x.rows.all (Dy x):=by rw[HBV.out,HHW.out,q];rfl
   have HBQ:=hid hbq;have HCF:=hid (Il (fun k => !Dy x k) 229 #[.pointer (some ⟨w.heap.size+1,0,none⟩)] _ x.rows f0 w5 (enters_of Tryz.func229 (by kernel_rfl) rfl) (rSl.below As.local_ As.fixed H0.out B5.out)
    (fun W u fk j hj hW hR => by
     obtain⟨-,hu,-⟩:=hR;injection hu with hu
     subst hu;obtain⟨k0,k1⟩:=HRISE.out _ (List.getElem_mem hj);exact It x _ nE c2 f2 (w.heap.size+1) _ W k0 k1 (Ap.below H2.out (B5.out.trans (hW.mono B5.out.size))) (HR5.out.below hW).c8 (HR5.out.below hW).lt))
   obtain⟨av,hav⟩:∃av,x.rows.any (fun k => !Dy x k)=av:=⟨_,rfl⟩;rw[hav]at HCF;have hbn:b= !av:=by
    rw[hbq,← hav,← List.not_all_eq_any_not];simp
   clear q hbq hav;cases av with
   |true =>
    obtain rfl:b=false:=hbn;go_wp2_with (go_at_call 228;refine HCF.out.mono ?_;rintro e w6 ⟨rfl,b6⟩;have B6:=hid b6;clear b6)
    go_ret
    exact⟨rfl,B5.out.trans (B6.out.mono B5.out.size)⟩
   |false =>
    obtain rfl:b=true:=hbn;go_wp2_with (go_at_call 228;refine HCF.out.mono ?_;rintro e w6 ⟨rfl,b6⟩;have B6:=hid b6;clear b6)
    go_ret
    exact⟨rfl,B5.out.trans (B6.out.mono B5.out.size)⟩
  ·have q1:=byteN_t q;obtain rfl:b=false:=by rw[HBV.out,HHW.out,decide_eq_true q];rfl
   clear q;go_wp2_with fail
   go_ret
   exact⟨rfl,B5.out⟩
end Go.Proofs.YthbljikbnoghcaaGreat
