/- Part 22 of the proof. -/
import Derived.Test.YtfjkoifpdoemdaaGreatJ21
import Derived.Test.YtfjkoifpdoemdaaGreatJ11
import Derived.Test.YtfjkoifpdoemdaaGreatJ06
set_option maxHeartbeats 8000000
set_option maxRecDepth 100000
set_option linter.unusedVariables false
set_option linter.unusedSimpArgs false
open Go.Proofs.Tryz
open Go.Value (int)
open Go.IntKind (i64)
namespace Go.Proofs.YtfjkoifpdoemdaaGreat
open Go.RowKit Go.Lib Go.Sort
theorem Rl(v:Value)(ls:List Int)(all hi:Int)(f:List Addr)(w:World)(h:AO w f v ls)(he:all - 1=hi)(hok:okI hi) :
  Calls prog 285 #[v,int i64 all] w fun e w' => e= .returned (.bool (CC ls hi))∧Below w.heap.size w w':=by
 obtain⟨A,c,rfl,hc,hm,hx⟩:=AO.open_ h;have HX:=U hx;obtain⟨r,hr⟩:∃r,CC ls hi=r:=⟨_,rfl⟩;rw[hr];have HR:=U hr;obtain⟨n,hn⟩:∃n,ls.length=n:=⟨_,rfl⟩;rw[hn]at hc⊢;have HN:=U hn;have HW:=U (show IntKind.i64.wrap (all - 1)=hi from by rw[he];exact IntWalk.i64_in _ (by have:=hok.1;have:=hok.2;omega));clear h hx hr hn he hok;go_enter func285,ntmps285
 go_wp2_with fail
 go_loopw [9,5,6] (fun i _ _ wr =>∃k:Nat,k≤n∧i= int i64 k∧Hid (Fv ls hi k)∧Hid (Below w.heap.size w wr)) (fun i _ _ _ => n - (intOf i).toNat)
 case atStart => exact⟨0,by omega,rfl,KM _ _,aB _ _⟩
 case round =>
  obtain⟨k,hk,rfl,HS,HB⟩:=hrel;have hw:=HW.o;by_cases hlt:k<n
  ·have hk1:k<ls.length:=by rw[HN.o];exact hlt
   obtain⟨ad,e1,-,b1,p1,-⟩:=HX.o k hk1;subst e1;have p1':=((HB.o.cell (p:=ad.add k) b1).trans p1);have hki:(k:Int)<(n:Int):=by omega
   obtain⟨x,hx⟩:∃x,ls[k] =x:=⟨_,rfl⟩;rw[hx]at p1';have HST:=U (KL HS.o hk1);have HBAD:=U (fun(h:Ap ls[k] 0 hi=false∨(0<k∧ls[k]≤ls[k - 1])) => HR.o.symm.trans (OE hk1 h));rw[hx]at HST HBAD;have HIN:=U (fun(W:World) => Bz x 0 hi W);clear p1;cases hin:Ap x 0 hi with
   |false =>
    rw[hin]at HIN;have e1:r=false:=HBAD.o (.inl hin);subst e1;clear hx HST HBAD hk1 b1 hin;go_wp2_with (go_at_call 100;(try rw[HW.o]);refine(HIN.o _).mono ?_;rintro e w' ⟨rfl,rfl⟩)
    go_ret
    exact⟨rfl,HB.o⟩
   |true =>
    rw[hin]at HIN;by_cases a3:k=0
    ·have HS2:=U (HST.o hin (fun h => by omega));have a4:¬(0:Int)<(k:Int):=by omega
     have a6:¬0<k:=by omega
     clear hx HST HBAD hk1 b1 hin a3;go_wp2_with (go_at_call 100;(try rw[HW.o]);refine(HIN.o _).mono ?_;rintro e w' ⟨rfl,rfl⟩)
     go_roundw
     case rel => exact⟨k+1,by omega,by go_num,HS2.o,HB.o⟩
     case measure => simp[intOf];omega
    ·have a4:(0:Int)<(k:Int):=by omega
     have a6:0<k:=by omega
     have hk2:k - 1<ls.length:=by omega
     obtain⟨ad',e1,-,b2,p2,-⟩:=HX.o (k - 1) hk2;injection e1 with e1
     subst e1;have p2':=((HB.o.cell (p:=ad.add (k - 1)) b2).trans p2);obtain⟨y,hy⟩:∃y,ls[k - 1] =y:=⟨_,rfl⟩;rw[hy]at p2' HST HBAD;have e1:IntKind.i64.wrap ((k:Int) - 1)=((k - 1:Nat):Int):=by rw[IntWalk.i64_in _ (by omega)];omega
     have e2:((k:Int) - 1)=((k - 1:Nat):Int):=by omega
     have e3:((k - 1:Nat):Int)<(n:Int):=by omega
     obtain⟨k1,hk1e⟩:∃k1,k - 1=k1:=⟨_,rfl⟩;rw[hk1e]at p2' e1 e2 e3;by_cases a5:x≤y
     ·have e1:r=false:=HBAD.o (.inr ⟨by omega,a5⟩);subst e1;clear hx HST HBAD hk1 b1 hin a3 hy hk2 p2 b2 hk1e;go_wp2_with (go_at_call 100;(try rw[HW.o]);refine(HIN.o _).mono ?_;rintro e w' ⟨rfl,rfl⟩)
      go_ret
      exact⟨rfl,HB.o⟩
     ·have HS2:=U (HST.o hin (fun h => by omega));clear hx HST HBAD hk1 b1 hin a3 hy hk2 p2 b2 hk1e;go_wp2_with (go_at_call 100;(try rw[HW.o]);refine(HIN.o _).mono ?_;rintro e w' ⟨rfl,rfl⟩)
      go_roundw
      case rel => exact⟨k+1,by omega,by go_num,HS2.o,HB.o⟩
      case measure => simp[intOf];omega
  ·obtain rfl:k=n:=by omega
   have e1:r=true:=by
    rw[← HR.o];exact OF (by rw[HN.o];exact HS.o)
   subst e1;go_wp2_with fail
   go_ret
   exact⟨rfl,HB.o⟩
theorem PE(s:Sh)(x:Ah)(P:Prop)
  (h1:Ap x.group 0 (s.g+s.c - 1)=false→Cc s x=false→P)
  (h2:Ap x.group 0 (s.g+s.c - 1)=true→Ap x.row 0 (s.rows - 1)=false→Cc s x=false→P)
  (h3:Ap x.group 0 (s.g+s.c - 1)=true→Ap x.row 0 (s.rows - 1)=true→CC x.rows (s.g+s.c - 1)=false→Cc s x=false→P)
  (h4:Ap x.group 0 (s.g+s.c - 1)=true→Ap x.row 0 (s.rows - 1)=true→CC x.rows (s.g+s.c - 1)=true→¬(x.data.length:Int)=s.data * 4→Cc s x=false→P)
  (h5:Ap x.group 0 (s.g+s.c - 1)=true→Ap x.row 0 (s.rows - 1)=true→CC x.rows (s.g+s.c - 1)=true→(x.data.length:Int)=s.data * 4→¬(x.delta.length:Int)=s.g+s.c→Cc s x=false→P)
  (h6:Ap x.group 0 (s.g+s.c - 1)=true→Ap x.row 0 (s.rows - 1)=true→CC x.rows (s.g+s.c - 1)=true→(x.data.length:Int)=s.data * 4→(x.delta.length:Int)=s.g+s.c→Cc s x=(!Ck x x.group && x.rows.all (Ck x))→P):P:=by
 unfold Cc at h1 h2 h3 h4 h5 h6;rw[Int.mul_comm 4 s.data]at h1 h2 h3 h4 h5 h6;by_cases g:Ap x.group 0 (s.g+s.c - 1)=true
 ·by_cases r:Ap x.row 0 (s.rows - 1)=true
  ·by_cases i:CC x.rows (s.g+s.c - 1)=true
   ·by_cases d:(x.data.length:Int)=s.data * 4
    ·by_cases e:(x.delta.length:Int)=s.g+s.c
     ·exact h6 g r i d e (by rw[g,r,i,aK d,aK e];rfl)
     ·exact h5 g r i d e (by rw[g,r,i,aK d,aG e];rfl)
    ·exact h4 g r i d (by rw[g,r,i,aG d];rfl)
   ·have i':CC x.rows (s.g+s.c - 1)=false:=by simpa using i
    exact h3 g r i' (by rw[g,r,i'];rfl)
  ·have r':Ap x.row 0 (s.rows - 1)=false:=by simpa using r
   exact h2 g r' (by rw[g,r'];rfl)
 ·have g':Ap x.group 0 (s.g+s.c - 1)=false:=by simpa using g
  exact h1 g' (by rw[g'];rfl)
theorem IB {w:World} {f:List Addr} {A:Option Addr} {n c:Nat} {x:Ah}(h:Ag w f (.slice A n c) x.delta) {k:Int}(h0:0≤k)(h1:k<(n:Int)) :
  ∃(ad:Addr) (bb:UInt8),A=some ad∧(ad.add k.toNat).block <w.heap.size∧w.cell? (ad.add k.toNat)=some (.int .u8 (bb.toNat:Int))∧Ck x k=decide (bb≠0):=by
 obtain⟨A',c',e,-,-,hx⟩:=Ag.open_ h;injection e with e1 e2 e3
 subst e1 e3;obtain⟨ad,ea,-,q2,q3⟩:=hx k.toNat (by omega);refine⟨ad,_,ea,q2,q3,?_⟩;unfold Ck;rw[aJ,aO (by omega),Option.getD_some]
theorem Lk {b:UInt8}(h:b=0):((b.toNat:Int) == 0)=true:=by rw[h];rfl
theorem Lj {b:UInt8}(h:¬b=0):((b.toNat:Int) == 0)=false:=by
 rw[beq_eq_false_iff_ne];intro e;have e2:b.toNat=0:=by omega
 exact h (UInt8.toNat_inj.1 (by rw[e2];rfl))
theorem Ov {b:UInt8}(h:¬b=0):((b.toNat:Int) != 0)=true:=by unfold bne;rw[Lj h];rfl
theorem Ou {b:UInt8}(h:b=0):((b.toNat:Int) != 0)=false:=by unfold bne;rw[Lk h];rfl
theorem Mm(x:Ah)(A2:Option Addr)(nE c2:Nat)(f:List Addr)(p:Nat)(k:Int)(W:World)(h0:0≤k)(h1:k<(nE:Int))(h:Ag W f (.slice A2 nE c2) x.delta)(hc:W.cell? ⟨p,8,none⟩=some (.slice A2 nE c2))(lp:p<W.heap.size) :
  Calls prog 287 #[int i64 k,.pointer (some ⟨p,0,none⟩)] W fun e w' => e= .returned (.bool (!Ck x k))∧Below W.heap.size W w':=by
 obtain⟨ad,bb,ea,lb,pb,hw⟩:=IB h h0 h1;subst ea;rw[hw];obtain⟨kn,rfl⟩:=Int.eq_ofNat_of_zero_le h0;rw[Int.toNat_natCast]at pb lb;clear h hw;by_cases q:bb=0
 ·rw[show(!decide (bb≠0))=true by rw[q];rfl];have q1:=Lk q;clear q;go_enter func287,ntmps287
  go_wp2_with fail
  go_ret
  exact⟨rfl,aB _ _⟩
 ·rw[show(!decide (bb≠0))=false by rw[aK q];rfl];have q1:=Lj q;clear q;go_enter func287,ntmps287
  go_wp2_with fail
  go_ret
  exact⟨rfl,aB _ _⟩
theorem Nw(s:Sh)(hs:s.Ok)(x:Ah)(cs:List Value)(f:List Addr)(w:World)(h:Ac w f cs x) :
  Calls prog 247 #[shV s,.agg cs.toArray] w fun e w' => e= .returned (int i64 (if Cc s x=true then 0 else 3))∧Below w.heap.size w w':=by
 dsimp only[Ac]at h;obtain⟨v0,v1,v2,f0,f1,f2,rfl,rfl,o0,o1,o2,o3,o4,o5,h0,h1,h2⟩:=h;obtain⟨A0,c0,rfl,k0,m0⟩:=rSl.head h0;obtain⟨A1,c1,rfl,k1,m1⟩:=rSl.head h1;obtain⟨A2,c2,rfl,k2,m2⟩:=rSl.head h2;have H0:=U h0;have H1:=U h1;have H2:=U h2;obtain⟨nR,hnR⟩:∃nR,x.rows.length=nR:=⟨_,rfl⟩;obtain⟨nD,hnD⟩:∃nD,x.data.length=nD:=⟨_,rfl⟩;obtain⟨nE,hnE⟩:∃nE,x.delta.length=nE:=⟨_,rfl⟩;have HNR:=U hnR;have HND:=U hnD;have HNE:=U hnE;rw[hnR]at H0 k0⊢;rw[hnD]at H1 k1⊢;rw[hnE]at H2 k2⊢;have K1:=(Blk.new w 31 #[int i64 s.g,int i64 s.c,int i64 s.data,int i64 s.p,int i64 s.rows,int i64 s.cap,int i64 s.b,int i64 s.q,int i64 s.t]).alloc (.cells #[int i64 x.kind,int i64 x.seq,.string x.name,int i64 x.length,int i64 x.group,int i64 x.row,.slice A0 nR c0,.slice A1 nD c1,.slice A2 nE c2] 119);have K2:=Blk.new1 w (.cells #[int i64 s.g,int i64 s.c,int i64 s.data,int i64 s.p,int i64 s.rows,int i64 s.cap,int i64 s.b,int i64 s.q,int i64 s.t] 31) 119 #[int i64 x.kind,int i64 x.seq,.string x.name,int i64 x.length,int i64 x.group,int i64 x.row,.slice A0 nR c0,.slice A1 nD c1,.slice A2 nE c2];have hB:Below w.heap.size w ((w.alloc (.cells #[int i64 s.g,int i64 s.c,int i64 s.data,int i64 s.p,int i64 s.rows,int i64 s.cap,int i64 s.b,int i64 s.q,int i64 s.t] 31)).alloc (.cells #[int i64 x.kind,int i64 x.seq,.string x.name,int i64 x.length,int i64 x.group,int i64 x.row,.slice A0 nR c0,.slice A1 nD c1,.slice A2 nE c2] 119)):=((aB _ _).alloc (aC _) _).alloc (by simp) _;have HB:=U hB;have S2:=DK.of K1;have R2:=Dg.of K2;have HS:=U S2;have HRC:=U R2;clear h0 h1 h2 hnR hnD hnE K1 K2 hB;obtain⟨d1,d2⟩:=hs.data;obtain⟨d3,d4⟩:=hs.g;obtain⟨d5,d6⟩:=hs.c;have HIC:=U (PE s x);obtain⟨b,hb⟩:∃b,Cc s x=b:=⟨_,rfl⟩;rw[hb]at HIC⊢;rw[HND.o,HNE.o]at HIC;obtain⟨al,hal⟩:∃al,s.g+s.c=al:=⟨_,rfl⟩;obtain⟨wd,hwd⟩:∃wd,s.data * 4=wd:=⟨_,rfl⟩;rw[hal,hwd]at HIC;have hal6:1≤al∧al≤6:=by omega
 have HAL:=U hal6;have QG:=U (AU (w:=((w.alloc (.cells #[int i64 s.g,int i64 s.c,int i64 s.data,int i64 s.p,int i64 s.rows,int i64 s.cap,int i64 s.b,int i64 s.q,int i64 s.t] 31)).alloc (.cells #[int i64 x.kind,int i64 x.seq,.string x.name,int i64 x.length,int i64 x.group,int i64 x.row,.slice A0 nR c0,.slice A1 nD c1,.slice A2 nE c2] 119))) (fun W _ => I6 s hs x.group W));have QR:=U (AU (w:=((w.alloc (.cells #[int i64 s.g,int i64 s.c,int i64 s.data,int i64 s.p,int i64 s.rows,int i64 s.cap,int i64 s.b,int i64 s.q,int i64 s.t] 31)).alloc (.cells #[int i64 x.kind,int i64 x.seq,.string x.name,int i64 x.length,int i64 x.group,int i64 x.row,.slice A0 nR c0,.slice A1 nD c1,.slice A2 nE c2] 119))) (fun W _ => Lr s hs x.row W));have QA:=U (AU (w:=((w.alloc (.cells #[int i64 s.g,int i64 s.c,int i64 s.data,int i64 s.p,int i64 s.rows,int i64 s.cap,int i64 s.b,int i64 s.q,int i64 s.t] 31)).alloc (.cells #[int i64 x.kind,int i64 x.seq,.string x.name,int i64 x.length,int i64 x.group,int i64 x.row,.slice A0 nR c0,.slice A1 nD c1,.slice A2 nE c2] 119))) (fun W _ => Gr s hs W));have QI:=U (AU (w:=((w.alloc (.cells #[int i64 s.g,int i64 s.c,int i64 s.data,int i64 s.p,int i64 s.rows,int i64 s.cap,int i64 s.b,int i64 s.q,int i64 s.t] 31)).alloc (.cells #[int i64 x.kind,int i64 x.seq,.string x.name,int i64 x.length,int i64 x.group,int i64 x.row,.slice A0 nR c0,.slice A1 nD c1,.slice A2 nE c2] 119))) (fun W hW => Rl (.slice A0 nR c0) x.rows al (al - 1) f0 W (rSl.below Az.local_ Az.fixed H0.o (HB.o.trans (hW.mono HB.o.size))) rfl ⟨by omega,by omega⟩));have QL:=U (AU (w:=((w.alloc (.cells #[int i64 s.g,int i64 s.c,int i64 s.data,int i64 s.p,int i64 s.rows,int i64 s.cap,int i64 s.b,int i64 s.q,int i64 s.t] 31)).alloc (.cells #[int i64 x.kind,int i64 x.seq,.string x.name,int i64 x.length,int i64 x.group,int i64 x.row,.slice A0 nR c0,.slice A1 nD c1,.slice A2 nE c2] 119))) (fun W _ => Ho s hs W));have QS1:=U (BD (w:=((w.alloc (.cells #[int i64 s.g,int i64 s.c,int i64 s.data,int i64 s.p,int i64 s.rows,int i64 s.cap,int i64 s.b,int i64 s.q,int i64 s.t] 31)).alloc (.cells #[int i64 x.kind,int i64 x.seq,.string x.name,int i64 x.length,int i64 x.group,int i64 x.row,.slice A0 nR c0,.slice A1 nD c1,.slice A2 nE c2] 119))) (fun W => C3 A1 nD c1 W));have QS2:=U (BD (w:=((w.alloc (.cells #[int i64 s.g,int i64 s.c,int i64 s.data,int i64 s.p,int i64 s.rows,int i64 s.cap,int i64 s.b,int i64 s.q,int i64 s.t] 31)).alloc (.cells #[int i64 x.kind,int i64 x.seq,.string x.name,int i64 x.length,int i64 x.group,int i64 x.row,.slice A0 nR c0,.slice A1 nD c1,.slice A2 nE c2] 119))) (fun W => C3 A2 nE c2 W));unfold shV at QG QR QA QL⊢;rw[hal]at QG QA;rw[hwd]at QL;have t4:=aA HRC.o.c4;have t5:=aA HRC.o.c5;have t6:=aA HRC.o.c6;have t7:=aA HRC.o.c7;have t8:=aA HRC.o.c8;have u0:=aA HS.o.c0;have u1:=aA HS.o.c1;have u2:=aA HS.o.c2;have u3:=aA HS.o.c3;have u4:=aA HS.o.c4;have u5:=aA HS.o.c5;have u6:=aA HS.o.c6;have u7:=aA HS.o.c7;have u8:=aA HS.o.c8;have lr:=HRC.o.lt;have ls:=HS.o.lt;clear hb hal hwd d1 d2 d3 d4 d5 d6 hal6 hs;refine HIC.o _ ?_ ?_ ?_ ?_ ?_ ?_
 ·intro g hbv;subst hbv;rw[g]at QG;clear HIC g;go_enter func247,ntmps247
  go_wp2_with fail
  (refine aF (by kernel_rfl) (by kernel_rfl) ?_;(repeat(first|go_big_quiet_step (first|exact QG.o _ _|exact QR.o _ _|exact QA.o _ _|exact QI.o _ _|exact QL.o _ _|exact QS1.o _ _|exact QS2.o _ _)|quiet_step (first|exact QG.o _ _|exact QR.o _ _|exact QA.o _ _|exact QI.o _ _|exact QL.o _ _|exact QS1.o _ _|exact QS2.o _ _)));refine aP ?_)
  rintro _ ⟨⟨dq,osq⟩,rfl⟩;have b5:=aH ((w.alloc (.cells #[int i64 s.g,int i64 s.c,int i64 s.data,int i64 s.p,int i64 s.rows,int i64 s.cap,int i64 s.b,int i64 s.q,int i64 s.t] 31)).alloc (.cells #[int i64 x.kind,int i64 x.seq,.string x.name,int i64 x.length,int i64 x.group,int i64 x.row,.slice A0 nR c0,.slice A1 nD c1,.slice A2 nE c2] 119)) dq osq;generalize grow (redrawn ((w.alloc (.cells #[int i64 s.g,int i64 s.c,int i64 s.data,int i64 s.p,int i64 s.rows,int i64 s.cap,int i64 s.b,int i64 s.q,int i64 s.t] 31)).alloc (.cells #[int i64 x.kind,int i64 x.seq,.string x.name,int i64 x.length,int i64 x.group,int i64 x.row,.slice A0 nR c0,.slice A1 nD c1,.slice A2 nE c2] 119)) dq) osq=w5 at b5;have S5:=HS.o.below b5;have R5:=HRC.o.below b5;have B5:=U (HB.o.trans (b5.mono HB.o.size));have x54:=R5.c4;have x56:=R5.c6;have x58:=R5.c8;have lr5:=R5.lt;have ls5:=S5.lt;have HR5:=U R5;clear b5 S5 R5;clear t4 t5 t6 t7 t8 u0 u1 u2 u3 u4 u5 u6 u7 u8 QG QR QA QI QL QS1 QS2;go_wp2_with fail
  go_ret
  exact⟨rfl,B5.o⟩
 ·intro g r hbv;subst hbv;rw[g]at QG;rw[r]at QR;clear HIC g r;go_enter func247,ntmps247
  go_wp2_with fail
  (refine aF (by kernel_rfl) (by kernel_rfl) ?_;(repeat(first|go_big_quiet_step (first|exact QG.o _ _|exact QR.o _ _|exact QA.o _ _|exact QI.o _ _|exact QL.o _ _|exact QS1.o _ _|exact QS2.o _ _)|quiet_step (first|exact QG.o _ _|exact QR.o _ _|exact QA.o _ _|exact QI.o _ _|exact QL.o _ _|exact QS1.o _ _|exact QS2.o _ _)));refine aP ?_)
  rintro _ ⟨⟨dq,osq⟩,rfl⟩;have b5:=aH ((w.alloc (.cells #[int i64 s.g,int i64 s.c,int i64 s.data,int i64 s.p,int i64 s.rows,int i64 s.cap,int i64 s.b,int i64 s.q,int i64 s.t] 31)).alloc (.cells #[int i64 x.kind,int i64 x.seq,.string x.name,int i64 x.length,int i64 x.group,int i64 x.row,.slice A0 nR c0,.slice A1 nD c1,.slice A2 nE c2] 119)) dq osq;generalize grow (redrawn ((w.alloc (.cells #[int i64 s.g,int i64 s.c,int i64 s.data,int i64 s.p,int i64 s.rows,int i64 s.cap,int i64 s.b,int i64 s.q,int i64 s.t] 31)).alloc (.cells #[int i64 x.kind,int i64 x.seq,.string x.name,int i64 x.length,int i64 x.group,int i64 x.row,.slice A0 nR c0,.slice A1 nD c1,.slice A2 nE c2] 119)) dq) osq=w5 at b5;have S5:=HS.o.below b5;have R5:=HRC.o.below b5;have B5:=U (HB.o.trans (b5.mono HB.o.size));have x54:=R5.c4;have x56:=R5.c6;have x58:=R5.c8;have lr5:=R5.lt;have ls5:=S5.lt;have HR5:=U R5;clear b5 S5 R5;clear t4 t5 t6 t7 t8 u0 u1 u2 u3 u4 u5 u6 u7 u8 QG QR QA QI QL QS1 QS2;go_wp2_with fail
  go_ret
  exact⟨rfl,B5.o⟩
 ·intro g r i hbv;subst hbv;rw[g]at QG;rw[r]at QR;rw[i]at QI;clear HIC g r i;go_enter func247,ntmps247
  go_wp2_with fail
  (refine aF (by kernel_rfl) (by kernel_rfl) ?_;(repeat(first|go_big_quiet_step (first|exact QG.o _ _|exact QR.o _ _|exact QA.o _ _|exact QI.o _ _|exact QL.o _ _|exact QS1.o _ _|exact QS2.o _ _)|quiet_step (first|exact QG.o _ _|exact QR.o _ _|exact QA.o _ _|exact QI.o _ _|exact QL.o _ _|exact QS1.o _ _|exact QS2.o _ _)));refine aP ?_)
  rintro _ ⟨⟨dq,osq⟩,rfl⟩;have b5:=aH ((w.alloc (.cells #[int i64 s.g,int i64 s.c,int i64 s.data,int i64 s.p,int i64 s.rows,int i64 s.cap,int i64 s.b,int i64 s.q,int i64 s.t] 31)).alloc (.cells #[int i64 x.kind,int i64 x.seq,.string x.name,int i64 x.length,int i64 x.group,int i64 x.row,.slice A0 nR c0,.slice A1 nD c1,.slice A2 nE c2] 119)) dq osq;generalize grow (redrawn ((w.alloc (.cells #[int i64 s.g,int i64 s.c,int i64 s.data,int i64 s.p,int i64 s.rows,int i64 s.cap,int i64 s.b,int i64 s.q,int i64 s.t] 31)).alloc (.cells #[int i64 x.kind,int i64 x.seq,.string x.name,int i64 x.length,int i64 x.group,int i64 x.row,.slice A0 nR c0,.slice A1 nD c1,.slice A2 nE c2] 119)) dq) osq=w5 at b5;have S5:=HS.o.below b5;have R5:=HRC.o.below b5;have B5:=U (HB.o.trans (b5.mono HB.o.size));have x54:=R5.c4;have x56:=R5.c6;have x58:=R5.c8;have lr5:=R5.lt;have ls5:=S5.lt;have HR5:=U R5;clear b5 S5 R5;clear t4 t5 t6 t7 t8 u0 u1 u2 u3 u4 u5 u6 u7 u8 QG QR QA QI QL QS1 QS2;go_wp2_with fail
  go_ret
  exact⟨rfl,B5.o⟩
 ·intro g r i d hbv;subst hbv;rw[g]at QG;rw[r]at QR;rw[i]at QI;have d':((nD:Int) == wd)=false:=Dp d;clear HIC g r i d;go_enter func247,ntmps247
  go_wp2_with fail
  (refine aF (by kernel_rfl) (by kernel_rfl) ?_;(repeat(first|go_big_quiet_step (first|exact QG.o _ _|exact QR.o _ _|exact QA.o _ _|exact QI.o _ _|exact QL.o _ _|exact QS1.o _ _|exact QS2.o _ _)|quiet_step (first|exact QG.o _ _|exact QR.o _ _|exact QA.o _ _|exact QI.o _ _|exact QL.o _ _|exact QS1.o _ _|exact QS2.o _ _)));refine aP ?_)
  rintro _ ⟨⟨dq,osq⟩,rfl⟩;have b5:=aH ((w.alloc (.cells #[int i64 s.g,int i64 s.c,int i64 s.data,int i64 s.p,int i64 s.rows,int i64 s.cap,int i64 s.b,int i64 s.q,int i64 s.t] 31)).alloc (.cells #[int i64 x.kind,int i64 x.seq,.string x.name,int i64 x.length,int i64 x.group,int i64 x.row,.slice A0 nR c0,.slice A1 nD c1,.slice A2 nE c2] 119)) dq osq;generalize grow (redrawn ((w.alloc (.cells #[int i64 s.g,int i64 s.c,int i64 s.data,int i64 s.p,int i64 s.rows,int i64 s.cap,int i64 s.b,int i64 s.q,int i64 s.t] 31)).alloc (.cells #[int i64 x.kind,int i64 x.seq,.string x.name,int i64 x.length,int i64 x.group,int i64 x.row,.slice A0 nR c0,.slice A1 nD c1,.slice A2 nE c2] 119)) dq) osq=w5 at b5;have S5:=HS.o.below b5;have R5:=HRC.o.below b5;have B5:=U (HB.o.trans (b5.mono HB.o.size));have x54:=R5.c4;have x56:=R5.c6;have x58:=R5.c8;have lr5:=R5.lt;have ls5:=S5.lt;have HR5:=U R5;clear b5 S5 R5;clear t4 t5 t6 t7 t8 u0 u1 u2 u3 u4 u5 u6 u7 u8 QG QR QA QI QL QS1 QS2;go_wp2_with fail
  go_ret
  exact⟨rfl,B5.o⟩
 ·intro g r i d e hbv;subst hbv;rw[g]at QG;rw[r]at QR;rw[i]at QI;have d':((nD:Int) == wd)=true:=Ek d;have e':((nE:Int) == al)=false:=Dp e;clear HIC g r i d e;go_enter func247,ntmps247
  go_wp2_with fail
  (refine aF (by kernel_rfl) (by kernel_rfl) ?_;(repeat(first|go_big_quiet_step (first|exact QG.o _ _|exact QR.o _ _|exact QA.o _ _|exact QI.o _ _|exact QL.o _ _|exact QS1.o _ _|exact QS2.o _ _)|quiet_step (first|exact QG.o _ _|exact QR.o _ _|exact QA.o _ _|exact QI.o _ _|exact QL.o _ _|exact QS1.o _ _|exact QS2.o _ _)));refine aP ?_)
  rintro _ ⟨⟨dq,osq⟩,rfl⟩;have b5:=aH ((w.alloc (.cells #[int i64 s.g,int i64 s.c,int i64 s.data,int i64 s.p,int i64 s.rows,int i64 s.cap,int i64 s.b,int i64 s.q,int i64 s.t] 31)).alloc (.cells #[int i64 x.kind,int i64 x.seq,.string x.name,int i64 x.length,int i64 x.group,int i64 x.row,.slice A0 nR c0,.slice A1 nD c1,.slice A2 nE c2] 119)) dq osq;generalize grow (redrawn ((w.alloc (.cells #[int i64 s.g,int i64 s.c,int i64 s.data,int i64 s.p,int i64 s.rows,int i64 s.cap,int i64 s.b,int i64 s.q,int i64 s.t] 31)).alloc (.cells #[int i64 x.kind,int i64 x.seq,.string x.name,int i64 x.length,int i64 x.group,int i64 x.row,.slice A0 nR c0,.slice A1 nD c1,.slice A2 nE c2] 119)) dq) osq=w5 at b5;have S5:=HS.o.below b5;have R5:=HRC.o.below b5;have B5:=U (HB.o.trans (b5.mono HB.o.size));have x54:=R5.c4;have x56:=R5.c6;have x58:=R5.c8;have lr5:=R5.lt;have ls5:=S5.lt;have HR5:=U R5;clear b5 S5 R5;clear t4 t5 t6 t7 t8 u0 u1 u2 u3 u4 u5 u6 u7 u8 QG QR QA QI QL QS1 QS2;go_wp2_with fail
  go_ret
  exact⟨rfl,B5.o⟩
 ·intro g r i d e hbv;have hin:=BI g;have hal:=HAL.o;have hri:=i;rw[g]at QG;rw[r]at QR;rw[i]at QI;have d':((nD:Int) == wd)=true:=Ek d;have e':((nE:Int) == al)=true:=Ek e;obtain⟨ad,bb,ea,lb,pb,hw⟩:=IB H2.o hin.1 (show x.group<(nE:Int) by omega);subst ea;have HPB:=U pb;have HLB:=U lb;obtain⟨gn,hgn⟩:=Int.eq_ofNat_of_zero_le hin.1;have hgn0:(0:Int)≤(gn:Int):=by omega
  have hgn1:(gn:Int)<(nE:Int):=by omega
  rw[hgn,Int.toNat_natCast]at HPB HLB;have HRISE:=U (show∀k,k∈x.rows→0≤k∧k<(nE:Int)from fun k hk => by
   obtain⟨j,hj,rfl⟩:=aY hk;have h1:Fv x.rows (al - 1) x.rows.length:=by unfold CC at hri;exact bO hri
   have:=BI (h1 j hj hj).1;omega)
  have HGN:=U hgn;have HHW:=U hw;have HBV:=U hbv;clear HIC g r i d e hbv hin hal hri pb lb hw hgn;go_enter func247,ntmps247
  go_wp2_with fail
  (refine aF (by kernel_rfl) (by kernel_rfl) ?_;(repeat(first|go_big_quiet_step (first|exact QG.o _ _|exact QR.o _ _|exact QA.o _ _|exact QI.o _ _|exact QL.o _ _|exact QS1.o _ _|exact QS2.o _ _)|quiet_step (first|exact QG.o _ _|exact QR.o _ _|exact QA.o _ _|exact QI.o _ _|exact QL.o _ _|exact QS1.o _ _|exact QS2.o _ _)));refine aP ?_)
  rintro _ ⟨⟨dq,osq⟩,rfl⟩;have b5:=aH ((w.alloc (.cells #[int i64 s.g,int i64 s.c,int i64 s.data,int i64 s.p,int i64 s.rows,int i64 s.cap,int i64 s.b,int i64 s.q,int i64 s.t] 31)).alloc (.cells #[int i64 x.kind,int i64 x.seq,.string x.name,int i64 x.length,int i64 x.group,int i64 x.row,.slice A0 nR c0,.slice A1 nD c1,.slice (some ad) nE c2] 119)) dq osq;generalize grow (redrawn ((w.alloc (.cells #[int i64 s.g,int i64 s.c,int i64 s.data,int i64 s.p,int i64 s.rows,int i64 s.cap,int i64 s.b,int i64 s.q,int i64 s.t] 31)).alloc (.cells #[int i64 x.kind,int i64 x.seq,.string x.name,int i64 x.length,int i64 x.group,int i64 x.row,.slice A0 nR c0,.slice A1 nD c1,.slice (some ad) nE c2] 119)) dq) osq=w5 at b5;have S5:=HS.o.below b5;have R5:=HRC.o.below b5;have B5:=U (HB.o.trans (b5.mono HB.o.size));have x54:=R5.c4;have x56:=R5.c6;have x58:=R5.c8;have lr5:=R5.lt;have ls5:=S5.lt;have HR5:=U R5;clear b5 S5 R5;clear t4 t5 t6 t7 t8 u0 u1 u2 u3 u4 u5 u6 u7 u8 QG QR QA QI QL QS1 QS2;rw[HGN.o]at x54;have pb5:=(B5.o.cell (p:=ad.add gn) HLB.o).trans HPB.o;have lb5:=aE HLB.o B5.o.size;by_cases q:bb=0
  ·have q1:=Ou q;have hbq:b=x.rows.all (Ck x):=by rw[HBV.o,HHW.o,q];rfl
   have HBQ:=U hbq;have HCF:=U (Mh (fun k => !Ck x k) 287 #[.pointer (some ⟨w.heap.size+1,0,none⟩)] _ x.rows f0 w5 (enters_of func287 (by kernel_rfl) rfl) (rSl.below Az.local_ Az.fixed H0.o B5.o)
    (fun W u fk j hj hW hR => by
     obtain⟨-,hu,-⟩:=hR;injection hu with hu
     subst hu;obtain⟨k0,k1⟩:=HRISE.o _ (aN hj);exact Mm x _ nE c2 f2 (w.heap.size+1) _ W k0 k1 (Ag.below H2.o (B5.o.trans (hW.mono B5.o.size))) (HR5.o.below hW).c8 (HR5.o.below hW).lt))
   obtain⟨av,hav⟩:∃av,x.rows.any (fun k => !Ck x k)=av:=⟨_,rfl⟩;rw[hav]at HCF;have hbn:b= !av:=by
    rw[hbq,← hav,← List.not_all_eq_any_not];simp
   clear q hbq hav;cases av with
   |true =>
    obtain rfl:b=false:=hbn;go_wp2_with (go_at_call 286;refine HCF.o.mono ?_;rintro e w6 ⟨rfl,b6⟩;have B6:=U b6;clear b6)
    go_ret
    exact⟨rfl,B5.o.trans (B6.o.mono B5.o.size)⟩
   |false =>
    obtain rfl:b=true:=hbn;go_wp2_with (go_at_call 286;refine HCF.o.mono ?_;rintro e w6 ⟨rfl,b6⟩;have B6:=U b6;clear b6)
    go_ret
    exact⟨rfl,B5.o.trans (B6.o.mono B5.o.size)⟩
  ·have q1:=Ov q;obtain rfl:b=false:=by rw[HBV.o,HHW.o,aK q];rfl
   clear q;go_wp2_with fail
   go_ret
   exact⟨rfl,B5.o⟩
theorem My {l:List Int} {q:Int→Bool} {k:Nat}(h:(l.take k).all q=true)(hk:k<l.length)(hq:q l[k] =true):(l.take (k+1)).all q=true:=by
 rw[aM hk,List.all_append,h];simp[hq]
theorem all_bad {l:List Int} {q:Int→Bool} {k:Nat}(hk:k<l.length)(hq:q l[k] =false):l.all q=false:=by
 rw[← Bool.not_eq_true,List.all_eq_true];intro h;rw[h _ (aN hk)]at hq;cases hq
theorem N3(s:Sh)(hs:s.Ok)(x:Ah)(cs:List Value)(f:List Addr)(w:World)(h:Ac w f cs x)(hg:Ap x.group 0 (s.g+s.c - 1)=true)(hi:CC x.rows (s.g+s.c - 1)=true) :
  Calls prog 150 #[shV s,.agg cs.toArray] w fun e w' => e= .returned (.bool (decide ((x.delta.length:Int)=s.g+s.c) && (!Ck x x.group && x.rows.all (Ck x))))∧Below w.heap.size w w':=by
 dsimp only[Ac]at h;obtain⟨v0,v1,v2,f0,f1,f2,rfl,rfl,o0,o1,o2,o3,o4,o5,h0,h1,h2⟩:=h;obtain⟨A0,c0,rfl,k0,m0⟩:=rSl.head h0;obtain⟨A1,c1,rfl,k1,m1⟩:=rSl.head h1;obtain⟨A2,c2,rfl,k2,m2⟩:=rSl.head h2;have H0:=U h0;have H1:=U h1;have H2:=U h2;obtain⟨nR,hnR⟩:∃nR,x.rows.length=nR:=⟨_,rfl⟩;obtain⟨nD,hnD⟩:∃nD,x.data.length=nD:=⟨_,rfl⟩;obtain⟨nE,hnE⟩:∃nE,x.delta.length=nE:=⟨_,rfl⟩;have HNR:=U hnR;have HND:=U hnD;have HNE:=U hnE;rw[hnR]at H0 k0⊢;rw[hnD]at H1 k1⊢;rw[hnE]at H2 k2⊢;have K1:=(Blk.new w 31 #[int i64 s.g,int i64 s.c,int i64 s.data,int i64 s.p,int i64 s.rows,int i64 s.cap,int i64 s.b,int i64 s.q,int i64 s.t]).alloc (.cells #[int i64 x.kind,int i64 x.seq,.string x.name,int i64 x.length,int i64 x.group,int i64 x.row,.slice A0 nR c0,.slice A1 nD c1,.slice A2 nE c2] 119);have K2:=Blk.new1 w (.cells #[int i64 s.g,int i64 s.c,int i64 s.data,int i64 s.p,int i64 s.rows,int i64 s.cap,int i64 s.b,int i64 s.q,int i64 s.t] 31) 119 #[int i64 x.kind,int i64 x.seq,.string x.name,int i64 x.length,int i64 x.group,int i64 x.row,.slice A0 nR c0,.slice A1 nD c1,.slice A2 nE c2];have hB:Below w.heap.size w ((w.alloc (.cells #[int i64 s.g,int i64 s.c,int i64 s.data,int i64 s.p,int i64 s.rows,int i64 s.cap,int i64 s.b,int i64 s.q,int i64 s.t] 31)).alloc (.cells #[int i64 x.kind,int i64 x.seq,.string x.name,int i64 x.length,int i64 x.group,int i64 x.row,.slice A0 nR c0,.slice A1 nD c1,.slice A2 nE c2] 119)):=((aB _ _).alloc (aC _) _).alloc (by simp) _;have HB:=U hB;have S2:=DK.of K1;have R2:=Dg.of K2;have HS:=U S2;have HRC:=U R2;clear h0 h1 h2 hnR hnD hnE K1 K2 hB;obtain⟨d3,d4⟩:=hs.g;obtain⟨d5,d6⟩:=hs.c;obtain⟨al,hal⟩:∃al,s.g+s.c=al:=⟨_,rfl⟩;rw[hal]at hg hi⊢;have HAL:=U (show 1≤al∧al≤6 by omega);have QA:=U (AU (w:=((w.alloc (.cells #[int i64 s.g,int i64 s.c,int i64 s.data,int i64 s.p,int i64 s.rows,int i64 s.cap,int i64 s.b,int i64 s.q,int i64 s.t] 31)).alloc (.cells #[int i64 x.kind,int i64 x.seq,.string x.name,int i64 x.length,int i64 x.group,int i64 x.row,.slice A0 nR c0,.slice A1 nD c1,.slice A2 nE c2] 119))) (fun W _ => FJ s hs W));unfold shV at QA⊢;rw[hal]at QA;have t4:=aA HRC.o.c4;have t8:=aA HRC.o.c8;have u0:=aA HS.o.c0;have u1:=aA HS.o.c1;have u2:=aA HS.o.c2;have u3:=aA HS.o.c3;have u4:=aA HS.o.c4;have u5:=aA HS.o.c5;have u6:=aA HS.o.c6;have u7:=aA HS.o.c7;have u8:=aA HS.o.c8;have lr:=HRC.o.lt;have ls:=HS.o.lt;have HG:=U hg;have HI:=U hi;clear hal d3 d4 d5 d6 hs hg hi;by_cases e:(nE:Int)=al
 case neg =>
  have e':((nE:Int) != al)=true:=by simpa using e
  rw[aG e];clear e;go_enter func150,ntmps150
  go_wp2_with fail
  (refine aF (by kernel_rfl) (by kernel_rfl) ?_;(repeat(first|go_big_quiet_step (first|exact QA.o _ _)|quiet_step (first|exact QA.o _ _)));refine aP ?_)
  rintro _ ⟨⟨dq,osq⟩,rfl⟩;have b5:=aH ((w.alloc (.cells #[int i64 s.g,int i64 s.c,int i64 s.data,int i64 s.p,int i64 s.rows,int i64 s.cap,int i64 s.b,int i64 s.q,int i64 s.t] 31)).alloc (.cells #[int i64 x.kind,int i64 x.seq,.string x.name,int i64 x.length,int i64 x.group,int i64 x.row,.slice A0 nR c0,.slice A1 nD c1,.slice A2 nE c2] 119)) dq osq;generalize grow (redrawn ((w.alloc (.cells #[int i64 s.g,int i64 s.c,int i64 s.data,int i64 s.p,int i64 s.rows,int i64 s.cap,int i64 s.b,int i64 s.q,int i64 s.t] 31)).alloc (.cells #[int i64 x.kind,int i64 x.seq,.string x.name,int i64 x.length,int i64 x.group,int i64 x.row,.slice A0 nR c0,.slice A1 nD c1,.slice A2 nE c2] 119)) dq) osq=w5 at b5;have S5:=HS.o.below b5;have R5:=HRC.o.below b5;have B5:=U (HB.o.trans (b5.mono HB.o.size));have x54:=R5.c4;have x56:=R5.c6;have x58:=R5.c8;have lr5:=R5.lt;have ls5:=S5.lt;have HR5:=U R5;clear b5 S5 R5;clear t4 t8 u0 u1 u2 u3 u4 u5 u6 u7 u8 QA;go_wp2_with fail
  go_ret
  exact⟨rfl,B5.o⟩
 have e':((nE:Int) != al)=false:=by rw[bne_eq_false_iff_eq];exact e
 rw[aK e,Bool.true_and];have hin:=BI HG.o;have hal:=HAL.o;obtain⟨ad,bb,ea,lb,pb,hw⟩:=IB H2.o hin.1 (show x.group<(nE:Int) by omega);subst ea;obtain⟨gn,hgn⟩:=Int.eq_ofNat_of_zero_le hin.1;have hgn0:(0:Int)≤x.group:=hin.1;have hgn1:x.group<(nE:Int):=by omega
 have pbr:=aA ((HB.o.cell (p:=ad.add x.group.toNat) lb).trans pb);have HPB:=U pb;have HLB:=U lb;have HRISE:=U (show∀k,k∈x.rows→0≤k∧k<(nE:Int)from fun k hk => by
  obtain⟨j,hj,rfl⟩:=aY hk;have h1:Fv x.rows (al - 1) x.rows.length:=by have:=HI.o;unfold CC at this;exact bO this
  have:=BI (h1 j hj hj).1;omega)
 rw[hw];clear e pb lb hw hgn hin hal;by_cases q:bb=0
 case neg =>
  have q1:=Ov q;rw[show(!decide (bb≠0))=false by rw[aK q];rfl];clear q;go_enter func150,ntmps150
  go_wp2_with fail
  (refine aF (by kernel_rfl) (by kernel_rfl) ?_;(repeat(first|go_big_quiet_step (first|exact QA.o _ _)|quiet_step (first|exact QA.o _ _)));refine aP ?_)
  rintro _ ⟨⟨dq,osq⟩,rfl⟩;have b5:=aH ((w.alloc (.cells #[int i64 s.g,int i64 s.c,int i64 s.data,int i64 s.p,int i64 s.rows,int i64 s.cap,int i64 s.b,int i64 s.q,int i64 s.t] 31)).alloc (.cells #[int i64 x.kind,int i64 x.seq,.string x.name,int i64 x.length,int i64 x.group,int i64 x.row,.slice A0 nR c0,.slice A1 nD c1,.slice (some ad) nE c2] 119)) dq osq;generalize grow (redrawn ((w.alloc (.cells #[int i64 s.g,int i64 s.c,int i64 s.data,int i64 s.p,int i64 s.rows,int i64 s.cap,int i64 s.b,int i64 s.q,int i64 s.t] 31)).alloc (.cells #[int i64 x.kind,int i64 x.seq,.string x.name,int i64 x.length,int i64 x.group,int i64 x.row,.slice A0 nR c0,.slice A1 nD c1,.slice (some ad) nE c2] 119)) dq) osq=w5 at b5;have S5:=HS.o.below b5;have R5:=HRC.o.below b5;have B5:=U (HB.o.trans (b5.mono HB.o.size));have x54:=R5.c4;have x56:=R5.c6;have x58:=R5.c8;have lr5:=R5.lt;have ls5:=S5.lt;have HR5:=U R5;clear b5 S5 R5;clear t4 t8 u0 u1 u2 u3 u4 u5 u6 u7 u8 QA pbr;go_wp2_with fail
  go_ret
  exact⟨rfl,B5.o⟩
 have q1:=Ou q;rw[show(!decide (bb≠0))=true by rw[q];rfl,Bool.true_and];obtain⟨r,hr⟩:∃r,x.rows.all (Ck x)=r:=⟨_,rfl⟩;rw[hr];have HRR:=U hr;clear q hr;go_enter func150,ntmps150
 go_wp2_with fail
 (refine aF (by kernel_rfl) (by kernel_rfl) ?_;(repeat(first|go_big_quiet_step (first|exact QA.o _ _)|quiet_step (first|exact QA.o _ _)));refine aP ?_)
 rintro _ ⟨⟨dq,osq⟩,rfl⟩;have b5:=aH ((w.alloc (.cells #[int i64 s.g,int i64 s.c,int i64 s.data,int i64 s.p,int i64 s.rows,int i64 s.cap,int i64 s.b,int i64 s.q,int i64 s.t] 31)).alloc (.cells #[int i64 x.kind,int i64 x.seq,.string x.name,int i64 x.length,int i64 x.group,int i64 x.row,.slice A0 nR c0,.slice A1 nD c1,.slice (some ad) nE c2] 119)) dq osq;generalize grow (redrawn ((w.alloc (.cells #[int i64 s.g,int i64 s.c,int i64 s.data,int i64 s.p,int i64 s.rows,int i64 s.cap,int i64 s.b,int i64 s.q,int i64 s.t] 31)).alloc (.cells #[int i64 x.kind,int i64 x.seq,.string x.name,int i64 x.length,int i64 x.group,int i64 x.row,.slice A0 nR c0,.slice A1 nD c1,.slice (some ad) nE c2] 119)) dq) osq=w5 at b5;have S5:=HS.o.below b5;have R5:=HRC.o.below b5;have B5:=U (HB.o.trans (b5.mono HB.o.size));have x54:=R5.c4;have x56:=R5.c6;have x58:=R5.c8;have lr5:=R5.lt;have ls5:=S5.lt;have HR5:=U R5;clear b5 S5 R5;clear t4 t8 u0 u1 u2 u3 u4 u5 u6 u7 u8 QA pbr hgn0 hgn1;go_wp2_with fail
 obtain⟨Aq,cq,eq,-,-,hx⟩:=AO.open_ H0.o;rw[HNR.o]at eq;injection eq with eq1 _ eq3
 subst eq1 eq3;have HX:=U hx;clear hx;go_loopw [5] (fun i wr =>∃k:Nat,k≤nR∧i= int i64 k∧Hid ((x.rows.take k).all (Ck x)=true)∧Hid (Below w5.heap.size w5 wr)) (fun i _ => nR - (intOf i).toNat)
 case atStart => exact⟨0,by omega,rfl,(show _=_ by simp),aB _ _⟩
 case round =>
  obtain⟨k,hk,rfl,HT,HBW⟩:=hrel;have HBA:=U (B5.o.trans (HBW.o.mono B5.o.size));have RW:=HR5.o.below HBW.o;have z6:=RW.c6;have z6r:=aA z6;have z8r:=aA RW.c8;have lrw:=RW.lt;clear RW;by_cases hlt:k<nR
  ·have hk1:k<x.rows.length:=by rw[HNR.o];exact hlt
   obtain⟨ad3,e1,-,b1,p1,-⟩:=HX.o k hk1;subst e1;have p1':=aA ((HBA.o.cell (p:=ad3.add k) b1).trans p1);have hki:(k:Int)<(nR:Int):=by omega
   obtain⟨k0,k1⟩:=HRISE.o _ (aN hk1);obtain⟨ad4,b4,ea,l4,p4,hw4⟩:=IB H2.o k0 k1;injection ea with ea
   subst ea;have p4':=aA ((HBA.o.cell (p:=ad.add (x.rows[k]'hk1).toNat) l4).trans p4);obtain⟨xk,hxk⟩:∃xk,x.rows[k] =xk:=⟨_,rfl⟩;rw[hxk]at p1' p4' k0 k1;by_cases q4:b4=0
   ·have q5:=Lk q4;have e1:r=false:=HRR.o.symm.trans (all_bad hk1 (by rw[hw4,q4];rfl));subst e1;clear p1 b1 hxk hk1 p4 l4 hw4 q4;go_wp2_with fail
    (refine aF (by kernel_rfl) (by kernel_rfl) ?_;(repeat(first|go_big_quiet_step (fail)|quiet_step (fail)));refine aP ?_)
    rintro _ ⟨⟨dq,osq⟩,rfl⟩;have HB6:=U (HBA.o.trans ((aH wr dq osq).mono HBA.o.size));go_wp2_with fail
    go_ret
    exact⟨rfl,HB6.o⟩
   ·have q5:=Lj q4;have HT2:=U (My HT.o hk1 (by rw[hw4];exact aK q4));clear p1 b1 hxk hk1 p4 l4 hw4 q4;go_wp2_with fail
    (refine aF (by kernel_rfl) (by kernel_rfl) ?_;(repeat(first|go_big_quiet_step (fail)|quiet_step (fail)));refine aP ?_)
    rintro _ ⟨⟨dq,osq⟩,rfl⟩;have HB6:=U (HBW.o.trans ((aH wr dq osq).mono HBW.o.size));go_wp2_with fail
    go_roundw
    case rel => exact⟨k+1,by omega,by go_num,HT2.o,HB6.o⟩
    case measure => simp[intOf];omega
  ·obtain rfl:k=nR:=by omega
   have e1:r=true:=by
    have:=HT.o;rw[bK (by rw[HNR.o];exact aC _)]at this;exact HRR.o.symm.trans this
   subst e1;go_wp2_with fail
   go_ret
   exact⟨rfl,HBA.o⟩
