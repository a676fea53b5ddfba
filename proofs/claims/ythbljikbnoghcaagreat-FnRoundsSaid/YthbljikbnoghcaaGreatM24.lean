/-
  Part 24 of the proof; the last part states and proves the statement.
-/
import Derived.Test.YthbljikbnoghcaaGreatM23
import Derived.Test.YthbljikbnoghcaaGreatM05
import Derived.Test.YthbljikbnoghcaaGreatM11
import Derived.Test.YthbljikbnoghcaaGreatM10
set_option maxHeartbeats 8000000
set_option maxRecDepth 100000
set_option linter.unusedVariables false
set_option linter.unusedSimpArgs false
open Go.Value (int)
open Go.IntKind (i64)
namespace Go.Proofs.YthbljikbnoghcaaGreat
open Go.RowKit Go.Lib Go.Sort
theorem I3(p:List An→Bool)(g:Nat)(cb:Array Value)(v:Value)(ds:List (List An))(f:List Addr)(w:World)(eg:∀args w,(callFunc g args).run Tryz.prog w= .ok (.enter g args) w)(h:rSl 1 (Am 4 Ah) w f v ds)
  (hp:∀(W:World) (u:Value) (fk:List Addr) (j:Nat) (hj:j<ds.length),Below w.heap.size w W→(Am 4 Ah) W fk [u] ds[j]→Calls Tryz.prog g (#[u] ++ cb) W fun e w' => e= .returned (.bool (p ds[j]))∧Below W.heap.size W w') :
  Calls Tryz.prog 124 #[v,.func (.func g) #[] cb] w fun e w' => e= .returned (int i64 (Cr p ds))∧Below w.heap.size w w':=by
 obtain⟨A,c,rfl,hc,hm,hx⟩:=rSl.at_ (Am.fixed Ah.fixed) (Nat.succ_pos 0) h;have HX:=hid hx;have HP:=hid hp;clear hx hp h;obtain⟨rr,hrr⟩:∃rr,Cr p ds=rr:=⟨_,rfl⟩;rw[hrr];have RR:=hid hrr;clear hrr;go_enter Tryz.func124,Tryz.ntmps124
 go_wp2
 go_loopw [8,5] (fun i _ wr =>∃j:Nat,j≤ds.length∧i= int i64 j∧Hid (∀q,(hq:q<ds.length)→q<j→p ds[q] =false)∧Hid (Below w.heap.size w wr)) (fun i _ _ => ds.length - (intOf i).toNat)
 case atStart => exact⟨0,by omega,rfl,(fun q hq h => by omega),Below.refl _ _⟩
 case round =>
  obtain⟨j,hj,rfl,HF,HB⟩:=hrel;by_cases hlt:j<ds.length
  ·obtain⟨ad,b,o,cs,fk,rfl,hat⟩:=HX.out j hlt;have hat2:=hat.below (Am.local_ Ah.local_) HB.out;obtain⟨u,rfl⟩:∃u,cs= [u]:=by
    have:=hat.len;match cs,this with
    | [u],_ => exact⟨u,rfl⟩
   have hl:wr.cell? ⟨b,o,none⟩=some u:=by
    have:=hat2.cell 0 (by simp);simpa using this
   have hpl:=hat.place;rw[Nat.mul_one]at hpl;have hb0:=hat2.lt;have HC:=hid (HP.out wr u fk j hlt HB.out hat2.reads);clear hat hat2;obtain⟨pj,hpj⟩:∃pj,p ds[j] =pj:=⟨_,rfl⟩;rw[hpj]at HC;have HPJ:=hid hpj;clear hpj;cases pj with
   |true =>
    have e1:rr=j:=by rw[← RR.out];exact Dd hlt HPJ.out HF.out
    subst e1;go_wp2_with (go_at_fn g;refine HC.out.mono ?_;rintro e w1 ⟨rfl,hb1⟩)
    go_ret
    exact⟨rfl,HB.out.trans (hb1.mono HB.out.size)⟩
   |false =>
    go_wp2_with (go_at_fn g;refine HC.out.mono ?_;rintro e w1 ⟨rfl,hb1⟩)
    have HB1:=hid (HB.out.trans (hb1.mono HB.out.size));go_roundw
    case rel =>
     refine⟨j+1,by omega,by go_num,(show Hid _ from fun q hq hqj => ?_),HB1⟩;by_cases e:q=j
     ·subst e;exact HPJ.out
     ·exact HF.out q hq (by omega)
    case measure => simp[intOf];omega
  ·have e1:rr= -1:=by rw[← RR.out];exact CL (fun q hq => HF.out q hq (by omega))
   subst e1;go_wp2_with fail
   go_ret
   exact⟨rfl,HB.out⟩
theorem GO(p:List An→Bool)(g:Nat)(cb:Array Value)(v:Value)(ds:List (List An))(f:List Addr)(w:World)(eg:∀args w,(callFunc g args).run Tryz.prog w= .ok (.enter g args) w)(h:rSl 1 (Am 4 Ah) w f v ds)
  (hp:∀(W:World) (u:Value) (fk:List Addr) (j:Nat) (hj:j<ds.length),Below w.heap.size w W→(Am 4 Ah) W fk [u] ds[j]→Calls Tryz.prog g (#[u] ++ cb) W fun e w' => e= .returned (.bool (p ds[j]))∧Below W.heap.size W w') :
  Calls Tryz.prog 63 #[v,.func (.func g) #[] cb] w fun e w' => e= .returned (.bool (ds.any p))∧Below w.heap.size w w':=by
 have HC:=hid (I3 p g cb v ds f w eg h hp);rw[← ED];obtain⟨A,c,rfl,hc,hm⟩:=rSl.head h;clear hp h;generalize Cr p ds=rr at HC;go_enter Tryz.func63,Tryz.ntmps63
 go_wp2_with (go_at_call 124;refine HC.out.mono ?_;rintro e w1 ⟨rfl,hb1⟩)
 go_ret
 exact⟨rfl,hb1⟩
theorem sizeQ_c(A:Option Addr)(n c:Nat)(w:World):Calls Tryz.prog 62 #[.slice A n c] w fun e w' => e= .returned (int i64 (n:Int))∧w=w':=by
 go_enter Tryz.func62,Tryz.ntmps62
 go_wp2_with fail
 go_ret
 exact⟨rfl,rfl⟩
theorem Hw(A:Option Addr)(n c:Nat)(w:World):Calls Tryz.prog 65 #[.slice A n c] w fun e w' => e= .returned (int i64 (n:Int))∧w=w':=by
 go_enter Tryz.func65,Tryz.ntmps65
 go_wp2_with fail
 go_ret
 exact⟨rfl,rfl⟩
theorem long1_c(s:Sh)(p:Nat)(q:List An)(A:Option Addr)(c:Nat)(w:World)(h:Ck w p s) :
  Calls Tryz.prog 64 #[.slice A q.length c,.pointer (some ⟨p,0,none⟩)] w fun e w' => e= .returned (.bool (Ch s q))∧Below w.heap.size w w':=by
 have u7:=cell_regrown h.c7;have hz:=h.lt;have hl:Ch s q=decide (s.q<(q.length:Int)):=rfl;obtain⟨n,hn⟩:∃n,q.length=n:=⟨_,rfl⟩;rw[hn]at hl⊢;obtain⟨r,hr⟩:∃r,Ch s q=r:=⟨_,rfl⟩;rw[hr]at hl⊢;have QS:=hid (BF (w:=w) (fun W => Hw A n c W));clear h hn hr;by_cases q1:s.q<(n:Int)
 ·have e1:r=true:=by rw[hl];exact decide_eq_true q1
  subst e1;clear hl;go_enter Tryz.func64,Tryz.ntmps64
  go_wp2_with fail
  (refine wp_region_quiet_below (by kernel_rfl) (by kernel_rfl) ?_;(repeat(first|go_big_quiet_step (first|exact QS.out _ _)|quiet_step (first|exact QS.out _ _)));refine wpQuiet_nil ?_)
  rintro _ ⟨⟨dq,osq⟩,rfl⟩;go_wp2_with fail
  go_ret
  exact⟨by simp[q1],below_regrown w dq osq⟩
 ·have e1:r=false:=by rw[hl];exact decide_eq_false q1
  subst e1;clear hl;go_enter Tryz.func64,Tryz.ntmps64
  go_wp2_with fail
  (refine wp_region_quiet_below (by kernel_rfl) (by kernel_rfl) ?_;(repeat(first|go_big_quiet_step (first|exact QS.out _ _)|quiet_step (first|exact QS.out _ _)));refine wpQuiet_nil ?_)
  rintro _ ⟨⟨dq,osq⟩,rfl⟩;go_wp2_with fail
  go_ret
  exact⟨by simp[q1],below_regrown w dq osq⟩
theorem GY(s:Sh)(hsb:shB s=true)(d:AH)(cs:List Value)(f:List Addr)(w:World)(h:Ba w f cs d) :
  Calls Tryz.prog 27 #[shV s,.agg cs.toArray] w fun e w' => e= .returned (int i64 (Cg (d.next - 1) s d))∧Below w.heap.size w w':=by
 have hs:=CJ hsb;have hrd:=h;dsimp only[Ba]at h;obtain⟨v0,v1,v2,f0,f1,f2,rfl,-,o0,o1,r0,r1,r2⟩:=h;obtain⟨A0,c0,rfl,m0,m0'⟩:=rSl.head r0;obtain⟨A1,c1,rfl,m1,m1'⟩:=rSl.head r1;obtain⟨A2,c2,rfl,m2,m2'⟩:=rSl.head r2;have hB:Below w.heap.size w ((w.alloc (.cells #[int i64 s.g,int i64 s.c,int i64 s.data,int i64 s.p,int i64 s.rows,int i64 s.cap,int i64 s.b,int i64 s.q,int i64 s.t] 25)).alloc (.cells #[.slice A0 d.queues.length c0,.slice A1 d.aside.length c1,.slice A2 d.answers.length c2,int i64 d.turn,int i64 d.next] 36)):=((Below.refl _ _).alloc (Nat.le_refl _) _).alloc (by simp) _;have HB:=hid hB;have S2:=hid (Ck.of ((Blk.new w 25 #[int i64 s.g,int i64 s.c,int i64 s.data,int i64 s.p,int i64 s.rows,int i64 s.cap,int i64 s.b,int i64 s.q,int i64 s.t]).alloc (.cells #[.slice A0 d.queues.length c0,.slice A1 d.aside.length c1,.slice A2 d.answers.length c2,int i64 d.turn,int i64 d.next] 36)));have D2:=hid (Do.of (d:=d) (Blk.new1 w (.cells #[int i64 s.g,int i64 s.c,int i64 s.data,int i64 s.p,int i64 s.rows,int i64 s.cap,int i64 s.b,int i64 s.q,int i64 s.t] 25) 36 #[.slice A0 d.queues.length c0,.slice A1 d.aside.length c1,.slice A2 d.answers.length c2,int i64 d.turn,int i64 d.next]) (rSl.below (Am.local_ Ah.local_) (Am.fixed Ah.fixed) r0 hB) (rSl.below Ah.local_ Ah.fixed r1 hB) (rSl.below AA.local_ AA.fixed r2 hB));have K2:=hid (Blk.new1 w (.cells #[int i64 s.g,int i64 s.c,int i64 s.data,int i64 s.p,int i64 s.rows,int i64 s.cap,int i64 s.b,int i64 s.q,int i64 s.t] 25) 36 #[.slice A0 d.queues.length c0,.slice A1 d.aside.length c1,.slice A2 d.answers.length c2,int i64 d.turn,int i64 d.next]);have hzs:=S2.out.lt;have hzd:=D2.out.lt;have HRD:=hid hrd;have HA:=hid (fun(W:World) => Cz s hs W);have HTK:=hid (fun(hsm:(AN d).length≤1000000) (W:World) (hW:Below w.heap.size w W) => Hz s hsb d hsm _ _ W (Aw.below Ba.local_ Ba.fixed hrd hW));have HAN:=hid (fun(hsm:(AN d).length≤1000000) (hsa:d.answers.length≤1000000) (W:World) (hW:Below w.heap.size w W) => Hf d hsm hsa _ _ W (Aw.below Ba.local_ Ba.fixed hrd hW));have HCF:=hid (fun(W:World) (hS:Ck W w.heap.size s) (hD:rSl 1 (Am 4 Ah) W f0 (.slice A0 d.queues.length c0) d.queues) =>
  GO (Ch s) 64 #[.pointer (some ⟨w.heap.size,0,none⟩)] _ d.queues f0 W (enters_of Tryz.func64 (by kernel_rfl) rfl) hD (fun W' u fk j hj hW hR => by
   obtain⟨v,hv,hr⟩:=hR;injection hv with hv _
   subst hv;obtain⟨Ae,ce,rfl,-⟩:=rSl.head hr;exact long1_c s w.heap.size d.queues[j] Ae ce W' (hS.below hW)))
 have HSMALL:=hid (fun(hl:(d.queues.length:Int)=s.g+s.c) (hq:d.queues.any (Ch s)=false) (ha:d.aside.length≤20) => Nat.le_trans (GH hs hl hq ha) (show 60≤1000000 by decide));obtain⟨hi,hhi⟩:∃hi,d.next - 1=hi:=⟨_,rfl⟩;rw[hhi]at HAN⊢;obtain⟨r,hr⟩:∃r,Cg hi s d=r:=⟨_,rfl⟩;rw[hr];have HLEN:=hid (fun h0 => hr.symm.trans (H9 (hi:=hi) (s:=s) (d:=d) h0));have HMANY:=hid (fun h0 h1 => hr.symm.trans (GQ (hi:=hi) (s:=s) (d:=d) h0 h1));have HREST:=hid (fun h0 h1 => hr.symm.trans (Ky (hi:=hi) (s:=s) (d:=d) h0 h1));obtain⟨al,hal⟩:∃al,s.g+s.c=al:=⟨_,rfl⟩;rw[hal]at HA HLEN HMANY HREST HSMALL;obtain⟨nQ,hnQ⟩:∃nQ,d.queues.length=nQ:=⟨_,rfl⟩;obtain⟨nS,hnS⟩:∃nS,d.aside.length=nS:=⟨_,rfl⟩;obtain⟨nA,hnA⟩:∃nA,d.answers.length=nA:=⟨_,rfl⟩;have HNQ:=hid hnQ;have HNS:=hid hnS;have HNA:=hid hnA;rw[hnQ]at HLEN HMANY HREST HSMALL HCF m0 HTK HAN;rw[hnS]at HMANY HREST HSMALL HTK HAN;rw[hnA]at HMANY HREST HTK HAN;obtain⟨lb,hlb⟩:∃lb,d.queues.any (Ch s)=lb:=⟨_,rfl⟩;rw[hlb]at HCF HMANY HREST HSMALL;unfold shV at HA HTK⊢;have HI3:=hid (fun(W:World) => AX d.turn 0 1000000000 W);have HI4:=hid (fun(W:World) => AX d.next 1 1000000000 W);clear hB hr hal hhi hnQ hnS hnA hs hsb r0 r1 r2 o0 o1 m1 m2 m1' m2' hlb hrd;go_enter Tryz.func27,Tryz.ntmps27
 go_wp2_with fail
 have u0:=cell_regrown S2.out.c0;have u1:=cell_regrown S2.out.c1;have u2:=cell_regrown S2.out.c2;have u3:=cell_regrown S2.out.c3;have u4:=cell_regrown S2.out.c4;have u5:=cell_regrown S2.out.c5;have u6:=cell_regrown S2.out.c6;have u7:=cell_regrown S2.out.c7;have u8:=cell_regrown S2.out.c8;have k0:=cell_regrown (show((w.alloc (.cells #[int i64 s.g,int i64 s.c,int i64 s.data,int i64 s.p,int i64 s.rows,int i64 s.cap,int i64 s.b,int i64 s.q,int i64 s.t] 25)).alloc (.cells #[.slice A0 d.queues.length c0,.slice A1 d.aside.length c1,.slice A2 d.answers.length c2,int i64 d.turn,int i64 d.next] 36)).cell? ⟨w.heap.size+1,0,none⟩=some (.slice A0 nQ c0)from D2.out.k0.trans (by rw[HNQ.out]));have QS:=hid (BF (w:=((w.alloc (.cells #[int i64 s.g,int i64 s.c,int i64 s.data,int i64 s.p,int i64 s.rows,int i64 s.cap,int i64 s.b,int i64 s.q,int i64 s.t] 25)).alloc (.cells #[.slice A0 d.queues.length c0,.slice A1 d.aside.length c1,.slice A2 d.answers.length c2,int i64 d.turn,int i64 d.next] 36))) (fun W => sizeQ_c A0 nQ c0 W));have QA:=hid (Bi (w:=((w.alloc (.cells #[int i64 s.g,int i64 s.c,int i64 s.data,int i64 s.p,int i64 s.rows,int i64 s.cap,int i64 s.b,int i64 s.q,int i64 s.t] 25)).alloc (.cells #[.slice A0 d.queues.length c0,.slice A1 d.aside.length c1,.slice A2 d.answers.length c2,int i64 d.turn,int i64 d.next] 36))) (fun W _ => HA.out W));by_cases q1:(nQ:Int)=al
 case neg =>
  obtain rfl:r=1:=HLEN.out q1;have hb:=Eo q1;clear q1
  (refine wp_region_quiet_below (by kernel_rfl) (by kernel_rfl) ?_;(repeat(first|go_big_quiet_step (first|(go_at_call 62;exact QS.out _ _)|(go_at_call 40;exact QA.out _ _))|quiet_step (first|(go_at_call 62;exact QS.out _ _)|(go_at_call 40;exact QA.out _ _))));refine wpQuiet_nil ?_)
  rintro _ ⟨⟨dq,osq⟩,rfl⟩;have BQ:=hid (HB.out.trans ((below_regrown ((w.alloc (.cells #[int i64 s.g,int i64 s.c,int i64 s.data,int i64 s.p,int i64 s.rows,int i64 s.cap,int i64 s.b,int i64 s.q,int i64 s.t] 25)).alloc (.cells #[.slice A0 d.queues.length c0,.slice A1 d.aside.length c1,.slice A2 d.answers.length c2,int i64 d.turn,int i64 d.next] 36)) dq osq).mono HB.out.size));go_wp2_with fail
  go_ret
  exact⟨rfl,BQ.out⟩
 have Q1:=hid q1;have hb:=Jd q1;clear q1
 (refine wp_region_quiet_below (by kernel_rfl) (by kernel_rfl) ?_;(repeat(first|go_big_quiet_step (first|(go_at_call 62;exact QS.out _ _)|(go_at_call 40;exact QA.out _ _))|quiet_step (first|(go_at_call 62;exact QS.out _ _)|(go_at_call 40;exact QA.out _ _))));refine wpQuiet_nil ?_)
 rintro _ ⟨⟨dq,osq⟩,rfl⟩;have b5:=below_regrown ((w.alloc (.cells #[int i64 s.g,int i64 s.c,int i64 s.data,int i64 s.p,int i64 s.rows,int i64 s.cap,int i64 s.b,int i64 s.q,int i64 s.t] 25)).alloc (.cells #[.slice A0 d.queues.length c0,.slice A1 d.aside.length c1,.slice A2 d.answers.length c2,int i64 d.turn,int i64 d.next] 36)) dq osq;generalize grow (redrawn ((w.alloc (.cells #[int i64 s.g,int i64 s.c,int i64 s.data,int i64 s.p,int i64 s.rows,int i64 s.cap,int i64 s.b,int i64 s.q,int i64 s.t] 25)).alloc (.cells #[.slice A0 d.queues.length c0,.slice A1 d.aside.length c1,.slice A2 d.answers.length c2,int i64 d.turn,int i64 d.next] 36)) dq) osq=w5 at b5;have S5:=hid (S2.out.below b5);have D5:=hid (D2.out.below b5);have K5:=hid (K2.out.below b5 K2.out.lt);have B5:=hid (HB.out.trans (b5.mono HB.out.size));have HR0:=hid (show rSl 1 (Am 4 Ah) w5 f0 (.slice A0 nQ c0) d.queues from by have:=D5.out.r0;rwa [HNQ.out]at this);have p0:w5.cell? ⟨w.heap.size+1,0,none⟩=some (.slice A0 nQ c0):=by have:=D5.out.k0;rwa [HNQ.out]at this
 have z5:=S5.out.lt;have y5:=D5.out.lt;clear b5 u0 u1 u2 u3 u4 u5 u6 u7 u8 k0 QA QS hb;have HRNG:=hid (show∀W,Ck W w.heap.size s→W.rangeAt w.heap.size 0 [int i64 s.g,int i64 s.c,int i64 s.data,int i64 s.p,int i64 s.rows,int i64 s.cap,int i64 s.b,int i64 s.q,int i64 s.t]from fun W h => h.rng);cases lb with
 |true =>
  obtain rfl:r=2:=HMANY.out Q1.out rfl;go_wp2_with (first
   |(go_at_call 63;refine(HCF.out _ S5.out HR0.out).mono ?_;rintro e w6 ⟨rfl,b6⟩;have S6:=hid (S5.out.below b6);have D6:=hid (D5.out.below b6);have K6:=hid (K5.out.below b6 K5.out.lt);have B6:=hid (B5.out.trans (b6.mono B5.out.size));have z6:=S6.out.lt;have y6:=D6.out.lt;have p1:w6.cell? ⟨w.heap.size+1,1,none⟩=some (.slice A1 nS c1):=(by have:=D6.out.k1;rwa [HNS.out]at this);have p2:w6.cell? ⟨w.heap.size+1,2,none⟩=some (.slice A2 nA c2):=(by have:=D6.out.k2;rwa [HNA.out]at this);have HRS6:=hid S6.out.rng;have HRK6:=hid (show w6.rangeAt (w.heap.size+1) 0 [.slice A0 nQ c0,.slice A1 nS c1,.slice A2 nA c2,int i64 d.turn,int i64 d.next]from by have:=Blk.rangeAll K6.out;rwa [HNQ.out,HNS.out,HNA.out]at this);clear b6))
  go_ret
  exact⟨rfl,B6.out⟩
 |false =>
  by_cases q3:20<nS
  ·obtain rfl:r=2:=HMANY.out Q1.out (by rw[decide_eq_true q3];rfl);have q3i:(20:Int)<(nS:Int):=by omega
   go_wp2_with (first
    |(go_at_call 63;refine(HCF.out _ S5.out HR0.out).mono ?_;rintro e w6 ⟨rfl,b6⟩;have S6:=hid (S5.out.below b6);have D6:=hid (D5.out.below b6);have K6:=hid (K5.out.below b6 K5.out.lt);have B6:=hid (B5.out.trans (b6.mono B5.out.size));have z6:=S6.out.lt;have y6:=D6.out.lt;have p1:w6.cell? ⟨w.heap.size+1,1,none⟩=some (.slice A1 nS c1):=(by have:=D6.out.k1;rwa [HNS.out]at this);have p2:w6.cell? ⟨w.heap.size+1,2,none⟩=some (.slice A2 nA c2):=(by have:=D6.out.k2;rwa [HNA.out]at this);have HRS6:=hid S6.out.rng;have HRK6:=hid (show w6.rangeAt (w.heap.size+1) 0 [.slice A0 nQ c0,.slice A1 nS c1,.slice A2 nA c2,int i64 d.turn,int i64 d.next]from by have:=Blk.rangeAll K6.out;rwa [HNQ.out,HNS.out,HNA.out]at this);clear b6))
   go_ret
   exact⟨rfl,B6.out⟩
  have q3i:¬(20:Int)<(nS:Int):=by omega
  by_cases q4:200<nA
  ·obtain rfl:r=2:=HMANY.out Q1.out (by rw[decide_eq_true q4,Bool.or_true,Bool.or_true]);have q4i:(200:Int)<(nA:Int):=by omega
   go_wp2_with (first
    |(go_at_call 63;refine(HCF.out _ S5.out HR0.out).mono ?_;rintro e w6 ⟨rfl,b6⟩;have S6:=hid (S5.out.below b6);have D6:=hid (D5.out.below b6);have K6:=hid (K5.out.below b6 K5.out.lt);have B6:=hid (B5.out.trans (b6.mono B5.out.size));have z6:=S6.out.lt;have y6:=D6.out.lt;have p1:w6.cell? ⟨w.heap.size+1,1,none⟩=some (.slice A1 nS c1):=(by have:=D6.out.k1;rwa [HNS.out]at this);have p2:w6.cell? ⟨w.heap.size+1,2,none⟩=some (.slice A2 nA c2):=(by have:=D6.out.k2;rwa [HNA.out]at this);have HRS6:=hid S6.out.rng;have HRK6:=hid (show w6.rangeAt (w.heap.size+1) 0 [.slice A0 nQ c0,.slice A1 nS c1,.slice A2 nA c2,int i64 d.turn,int i64 d.next]from by have:=Blk.rangeAll K6.out;rwa [HNQ.out,HNS.out,HNA.out]at this);clear b6))
   go_ret
   exact⟨rfl,B6.out⟩
  have q4i:¬(200:Int)<(nA:Int):=by omega
  have HRT:=hid (HREST.out Q1.out (by rw[decide_eq_false q3,decide_eq_false q4];rfl));have hsm:=HSMALL.out Q1.out rfl (by omega);have hsa:nA≤1000000:=by omega
  have HT6:=hid (HTK.out hsm);have HA6:=hid (HAN.out hsm hsa);clear q3 q4 HREST HMANY HLEN hsm hsa HTK HAN;obtain⟨tc,htc⟩:∃tc,tkC s d=tc:=⟨_,rfl⟩;rw[htc]at HT6 HRT;clear htc;obtain⟨ac,hac⟩:∃ac,anH hi d=ac:=⟨_,rfl⟩;rw[hac]at HA6 HRT;clear hac;by_cases q5:tc=0
  case neg =>
   have e1:r=tc:=by have:=HRT.out;rwa [if_neg q5]at this
   have q5b:=Eo q5;subst e1;clear q5;go_wp2_with (first
    |(go_at_call 63;refine(HCF.out _ S5.out HR0.out).mono ?_;rintro e w6 ⟨rfl,b6⟩;have S6:=hid (S5.out.below b6);have D6:=hid (D5.out.below b6);have K6:=hid (K5.out.below b6 K5.out.lt);have B6:=hid (B5.out.trans (b6.mono B5.out.size));have z6:=S6.out.lt;have y6:=D6.out.lt;have p1:w6.cell? ⟨w.heap.size+1,1,none⟩=some (.slice A1 nS c1):=(by have:=D6.out.k1;rwa [HNS.out]at this);have p2:w6.cell? ⟨w.heap.size+1,2,none⟩=some (.slice A2 nA c2):=(by have:=D6.out.k2;rwa [HNA.out]at this);have HRS6:=hid S6.out.rng;have HRK6:=hid (show w6.rangeAt (w.heap.size+1) 0 [.slice A0 nQ c0,.slice A1 nS c1,.slice A2 nA c2,int i64 d.turn,int i64 d.next]from by have:=Blk.rangeAll K6.out;rwa [HNQ.out,HNS.out,HNA.out]at this);clear b6)
    |(refine wpList_load_mid rfl 25 _ rfl w.heap.size 0 rfl _ _ HRS6.out Tryz.underlying25 rfl (by kernel_rfl) ?_)
    |(refine wpList_load_mid rfl 36 _ rfl (w.heap.size+1) 0 rfl _ _ HRK6.out Tryz.underlying36 rfl (by kernel_rfl) ?_)
    |(go_at_call 66;refine(HT6.out _ B6.out).mono ?_;rintro e w7 ⟨rfl,b7⟩;have K7:=hid (K6.out.below b7 K6.out.lt);have B7:=hid (B6.out.trans (b7.mono B6.out.size));have y7:=K7.out.lt;have HRK7:=hid (show w7.rangeAt (w.heap.size+1) 0 [.slice A0 nQ c0,.slice A1 nS c1,.slice A2 nA c2,int i64 d.turn,int i64 d.next]from by have:=Blk.rangeAll K7.out;rwa [HNQ.out,HNS.out,HNA.out]at this);clear b7))
   go_ret
   exact⟨rfl,B7.out⟩
  subst q5;rw[if_pos rfl]at HRT;by_cases q6:ac=0
  case neg =>
   have e1:r=ac:=by have:=HRT.out;rwa [if_neg q6]at this
   have q6b:=Eo q6;subst e1;clear q6;go_wp2_with (first
    |(go_at_call 63;refine(HCF.out _ S5.out HR0.out).mono ?_;rintro e w6 ⟨rfl,b6⟩;have S6:=hid (S5.out.below b6);have D6:=hid (D5.out.below b6);have K6:=hid (K5.out.below b6 K5.out.lt);have B6:=hid (B5.out.trans (b6.mono B5.out.size));have z6:=S6.out.lt;have y6:=D6.out.lt;have p1:w6.cell? ⟨w.heap.size+1,1,none⟩=some (.slice A1 nS c1):=(by have:=D6.out.k1;rwa [HNS.out]at this);have p2:w6.cell? ⟨w.heap.size+1,2,none⟩=some (.slice A2 nA c2):=(by have:=D6.out.k2;rwa [HNA.out]at this);have HRS6:=hid S6.out.rng;have HRK6:=hid (show w6.rangeAt (w.heap.size+1) 0 [.slice A0 nQ c0,.slice A1 nS c1,.slice A2 nA c2,int i64 d.turn,int i64 d.next]from by have:=Blk.rangeAll K6.out;rwa [HNQ.out,HNS.out,HNA.out]at this);clear b6)
    |(refine wpList_load_mid rfl 25 _ rfl w.heap.size 0 rfl _ _ HRS6.out Tryz.underlying25 rfl (by kernel_rfl) ?_)
    |(refine wpList_load_mid rfl 36 _ rfl (w.heap.size+1) 0 rfl _ _ HRK6.out Tryz.underlying36 rfl (by kernel_rfl) ?_)
    |(go_at_call 66;refine(HT6.out _ B6.out).mono ?_;rintro e w7 ⟨rfl,b7⟩;have K7:=hid (K6.out.below b7 K6.out.lt);have B7:=hid (B6.out.trans (b7.mono B6.out.size));have y7:=K7.out.lt;have HRK7:=hid (show w7.rangeAt (w.heap.size+1) 0 [.slice A0 nQ c0,.slice A1 nS c1,.slice A2 nA c2,int i64 d.turn,int i64 d.next]from by have:=Blk.rangeAll K7.out;rwa [HNQ.out,HNS.out,HNA.out]at this);clear b7)
    |(refine wpList_load_mid rfl 36 _ rfl (w.heap.size+1) 0 rfl _ _ HRK7.out Tryz.underlying36 rfl (by kernel_rfl) ?_)
    |(go_at_call 67;refine(HA6.out _ B7.out).mono ?_;rintro e w8 ⟨rfl,b8⟩;have K8:=hid (K7.out.below b8 K7.out.lt);have B8:=hid (B7.out.trans (b8.mono B7.out.size));have y8:=K8.out.lt;have x3:w8.cell? ⟨w.heap.size+1,3,none⟩=some (int i64 d.turn):=(K8.out.cell 3).trans rfl;have x4:w8.cell? ⟨w.heap.size+1,4,none⟩=some (int i64 d.next):=(K8.out.cell 4).trans rfl;clear b8))
   go_ret
   exact⟨rfl,B8.out⟩
  subst q6;rw[if_pos rfl]at HRT;obtain⟨j3,hj3⟩:∃j3,Al d.turn 0 1000000000=j3:=⟨_,rfl⟩;obtain⟨j4,hj4⟩:∃j4,Al d.next 1 1000000000=j4:=⟨_,rfl⟩;rw[hj3]at HI3 HRT;rw[hj4]at HI4 HRT;clear hj3 hj4;cases j3 with
  |false =>
   obtain rfl:r=3:=HRT.out;go_wp2_with (first
    |(go_at_call 63;refine(HCF.out _ S5.out HR0.out).mono ?_;rintro e w6 ⟨rfl,b6⟩;have S6:=hid (S5.out.below b6);have D6:=hid (D5.out.below b6);have K6:=hid (K5.out.below b6 K5.out.lt);have B6:=hid (B5.out.trans (b6.mono B5.out.size));have z6:=S6.out.lt;have y6:=D6.out.lt;have p1:w6.cell? ⟨w.heap.size+1,1,none⟩=some (.slice A1 nS c1):=(by have:=D6.out.k1;rwa [HNS.out]at this);have p2:w6.cell? ⟨w.heap.size+1,2,none⟩=some (.slice A2 nA c2):=(by have:=D6.out.k2;rwa [HNA.out]at this);have HRS6:=hid S6.out.rng;have HRK6:=hid (show w6.rangeAt (w.heap.size+1) 0 [.slice A0 nQ c0,.slice A1 nS c1,.slice A2 nA c2,int i64 d.turn,int i64 d.next]from by have:=Blk.rangeAll K6.out;rwa [HNQ.out,HNS.out,HNA.out]at this);clear b6)
    |(refine wpList_load_mid rfl 25 _ rfl w.heap.size 0 rfl _ _ HRS6.out Tryz.underlying25 rfl (by kernel_rfl) ?_)
    |(refine wpList_load_mid rfl 36 _ rfl (w.heap.size+1) 0 rfl _ _ HRK6.out Tryz.underlying36 rfl (by kernel_rfl) ?_)
    |(go_at_call 66;refine(HT6.out _ B6.out).mono ?_;rintro e w7 ⟨rfl,b7⟩;have K7:=hid (K6.out.below b7 K6.out.lt);have B7:=hid (B6.out.trans (b7.mono B6.out.size));have y7:=K7.out.lt;have HRK7:=hid (show w7.rangeAt (w.heap.size+1) 0 [.slice A0 nQ c0,.slice A1 nS c1,.slice A2 nA c2,int i64 d.turn,int i64 d.next]from by have:=Blk.rangeAll K7.out;rwa [HNQ.out,HNS.out,HNA.out]at this);clear b7)
    |(refine wpList_load_mid rfl 36 _ rfl (w.heap.size+1) 0 rfl _ _ HRK7.out Tryz.underlying36 rfl (by kernel_rfl) ?_)
    |(go_at_call 67;refine(HA6.out _ B7.out).mono ?_;rintro e w8 ⟨rfl,b8⟩;have K8:=hid (K7.out.below b8 K7.out.lt);have B8:=hid (B7.out.trans (b8.mono B7.out.size));have y8:=K8.out.lt;have x3:w8.cell? ⟨w.heap.size+1,3,none⟩=some (int i64 d.turn):=(K8.out.cell 3).trans rfl;have x4:w8.cell? ⟨w.heap.size+1,4,none⟩=some (int i64 d.next):=(K8.out.cell 4).trans rfl;clear b8)
    |(go_at_call_has 61 d.turn;refine(HI3.out _).mono ?_;rintro e w' ⟨rfl,rfl⟩)
    |(go_at_call_has 61 d.next;refine(HI4.out _).mono ?_;rintro e w' ⟨rfl,rfl⟩))
   go_ret
   exact⟨rfl,B8.out⟩
  |true =>
   cases j4 with
   |false =>
    obtain rfl:r=3:=HRT.out;go_wp2_with (first
     |(go_at_call 63;refine(HCF.out _ S5.out HR0.out).mono ?_;rintro e w6 ⟨rfl,b6⟩;have S6:=hid (S5.out.below b6);have D6:=hid (D5.out.below b6);have K6:=hid (K5.out.below b6 K5.out.lt);have B6:=hid (B5.out.trans (b6.mono B5.out.size));have z6:=S6.out.lt;have y6:=D6.out.lt;have p1:w6.cell? ⟨w.heap.size+1,1,none⟩=some (.slice A1 nS c1):=(by have:=D6.out.k1;rwa [HNS.out]at this);have p2:w6.cell? ⟨w.heap.size+1,2,none⟩=some (.slice A2 nA c2):=(by have:=D6.out.k2;rwa [HNA.out]at this);have HRS6:=hid S6.out.rng;have HRK6:=hid (show w6.rangeAt (w.heap.size+1) 0 [.slice A0 nQ c0,.slice A1 nS c1,.slice A2 nA c2,int i64 d.turn,int i64 d.next]from by have:=Blk.rangeAll K6.out;rwa [HNQ.out,HNS.out,HNA.out]at this);clear b6)
     |(refine wpList_load_mid rfl 25 _ rfl w.heap.size 0 rfl _ _ HRS6.out Tryz.underlying25 rfl (by kernel_rfl) ?_)
     |(refine wpList_load_mid rfl 36 _ rfl (w.heap.size+1) 0 rfl _ _ HRK6.out Tryz.underlying36 rfl (by kernel_rfl) ?_)
     |(go_at_call 66;refine(HT6.out _ B6.out).mono ?_;rintro e w7 ⟨rfl,b7⟩;have K7:=hid (K6.out.below b7 K6.out.lt);have B7:=hid (B6.out.trans (b7.mono B6.out.size));have y7:=K7.out.lt;have HRK7:=hid (show w7.rangeAt (w.heap.size+1) 0 [.slice A0 nQ c0,.slice A1 nS c1,.slice A2 nA c2,int i64 d.turn,int i64 d.next]from by have:=Blk.rangeAll K7.out;rwa [HNQ.out,HNS.out,HNA.out]at this);clear b7)
     |(refine wpList_load_mid rfl 36 _ rfl (w.heap.size+1) 0 rfl _ _ HRK7.out Tryz.underlying36 rfl (by kernel_rfl) ?_)
     |(go_at_call 67;refine(HA6.out _ B7.out).mono ?_;rintro e w8 ⟨rfl,b8⟩;have K8:=hid (K7.out.below b8 K7.out.lt);have B8:=hid (B7.out.trans (b8.mono B7.out.size));have y8:=K8.out.lt;have x3:w8.cell? ⟨w.heap.size+1,3,none⟩=some (int i64 d.turn):=(K8.out.cell 3).trans rfl;have x4:w8.cell? ⟨w.heap.size+1,4,none⟩=some (int i64 d.next):=(K8.out.cell 4).trans rfl;clear b8)
     |(go_at_call_has 61 d.turn;refine(HI3.out _).mono ?_;rintro e w' ⟨rfl,rfl⟩)
     |(go_at_call_has 61 d.next;refine(HI4.out _).mono ?_;rintro e w' ⟨rfl,rfl⟩))
    go_ret
    exact⟨rfl,B8.out⟩
   |true =>
    obtain rfl:r=0:=HRT.out;go_wp2_with (first
     |(go_at_call 63;refine(HCF.out _ S5.out HR0.out).mono ?_;rintro e w6 ⟨rfl,b6⟩;have S6:=hid (S5.out.below b6);have D6:=hid (D5.out.below b6);have K6:=hid (K5.out.below b6 K5.out.lt);have B6:=hid (B5.out.trans (b6.mono B5.out.size));have z6:=S6.out.lt;have y6:=D6.out.lt;have p1:w6.cell? ⟨w.heap.size+1,1,none⟩=some (.slice A1 nS c1):=(by have:=D6.out.k1;rwa [HNS.out]at this);have p2:w6.cell? ⟨w.heap.size+1,2,none⟩=some (.slice A2 nA c2):=(by have:=D6.out.k2;rwa [HNA.out]at this);have HRS6:=hid S6.out.rng;have HRK6:=hid (show w6.rangeAt (w.heap.size+1) 0 [.slice A0 nQ c0,.slice A1 nS c1,.slice A2 nA c2,int i64 d.turn,int i64 d.next]from by have:=Blk.rangeAll K6.out;rwa [HNQ.out,HNS.out,HNA.out]at this);clear b6)
     |(refine wpList_load_mid rfl 25 _ rfl w.heap.size 0 rfl _ _ HRS6.out Tryz.underlying25 rfl (by kernel_rfl) ?_)
     |(refine wpList_load_mid rfl 36 _ rfl (w.heap.size+1) 0 rfl _ _ HRK6.out Tryz.underlying36 rfl (by kernel_rfl) ?_)
     |(go_at_call 66;refine(HT6.out _ B6.out).mono ?_;rintro e w7 ⟨rfl,b7⟩;have K7:=hid (K6.out.below b7 K6.out.lt);have B7:=hid (B6.out.trans (b7.mono B6.out.size));have y7:=K7.out.lt;have HRK7:=hid (show w7.rangeAt (w.heap.size+1) 0 [.slice A0 nQ c0,.slice A1 nS c1,.slice A2 nA c2,int i64 d.turn,int i64 d.next]from by have:=Blk.rangeAll K7.out;rwa [HNQ.out,HNS.out,HNA.out]at this);clear b7)
     |(refine wpList_load_mid rfl 36 _ rfl (w.heap.size+1) 0 rfl _ _ HRK7.out Tryz.underlying36 rfl (by kernel_rfl) ?_)
     |(go_at_call 67;refine(HA6.out _ B7.out).mono ?_;rintro e w8 ⟨rfl,b8⟩;have K8:=hid (K7.out.below b8 K7.out.lt);have B8:=hid (B7.out.trans (b8.mono B7.out.size));have y8:=K8.out.lt;have x3:w8.cell? ⟨w.heap.size+1,3,none⟩=some (int i64 d.turn):=(K8.out.cell 3).trans rfl;have x4:w8.cell? ⟨w.heap.size+1,4,none⟩=some (int i64 d.next):=(K8.out.cell 4).trans rfl;clear b8)
     |(go_at_call_has 61 d.turn;refine(HI3.out _).mono ?_;rintro e w' ⟨rfl,rfl⟩)
     |(go_at_call_has 61 d.next;refine(HI4.out _).mono ?_;rintro e w' ⟨rfl,rfl⟩))
    go_ret
    exact⟨rfl,B8.out⟩
theorem kind4 {x:Ag}(h:Al x.kind 1 4=true):x.kind=1∨x.kind=2∨x.kind=3∨x.kind=4:=by
 have:=BE h;omega
theorem DU {s:Sh} {x:Ag}(hk:Al x.kind 1 4=true)(hq:Al x.seq 1 1000000000=true):AE s x=if Bt s x=0 then(if G3 x=true then 0 else 1)else Bt s x:=by
 unfold AE;rw[if_pos hk,if_pos hq]
def Ct(r:Ag):Ag :=
 if r.kind=1 then⟨r.kind,r.seq,r.name,r.length,0,0,r.rows,r.data,[]⟩else if r.kind=2 then⟨r.kind,r.seq,⟨#[]⟩,0,r.group,r.row,[],r.data,r.delta⟩
 else if r.kind=3 then⟨r.kind,r.seq,⟨#[]⟩,0,r.group,0,[],[],[]⟩else⟨r.kind,r.seq,⟨#[]⟩,0,r.group,r.row,r.rows,r.data,r.delta⟩
theorem Ex(r:Ag):G3 r=decide (r=Ct r):=by
 obtain⟨k,q,nm,l,g,ro,rs,da,de⟩:=r;unfold G3 Ct;by_cases h1:k=1
 ·subst h1;rw[Bool.eq_iff_iff];simp
 ·by_cases h2:k=2
  ·subst h2;rw[Bool.eq_iff_iff];simp
  ·by_cases h3:k=3
   ·subst h3;rw[Bool.eq_iff_iff];simp
   ·rw[Bool.eq_iff_iff];simp[h1,h2,h3]
theorem allBad {α:Type} {p:α→Bool} {l:List α} {k:Nat}(hk:k<l.length)(h:p l[k] =false):l.all p=false :=
 List.all_eq_false.2 ⟨l[k],List.getElem_mem hk,by rw[h];exact Bool.false_ne_true⟩
theorem allUpto {α:Type} {p:α→Bool} {l:List α}(h:∀q,(hq:q<l.length)→p l[q] =true):l.all p=true :=
 List.all_eq_true.2 fun x hx => by
  obtain⟨q,hq,rfl⟩:=List.getElem_of_mem hx;exact h q hq
def Cx {α:Type}(p:α→Bool)(l:List α)(k:Nat):Prop:=∀q,(hq:q<l.length)→q<k→p l[q] =true
theorem Cx.zero {α:Type}(p:α→Bool)(l:List α):Cx p l 0:=fun _ _ h => by omega
theorem Cx.step {α:Type} {p:α→Bool} {l:List α} {k:Nat}(h:Cx p l k)(hk:k<l.length)(hp:p l[k] =true):Cx p l (k+1):=fun q hq hqk => by
 by_cases e:q=k
 ·subst e;exact hp
 ·exact h q hq (by omega)
theorem Cx.all {α:Type} {p:α→Bool} {l:List α}(h:Cx p l l.length):l.all p=true:=allUpto fun q hq => h q hq hq
theorem Kr {s:Sh} {gs:List (List Bo)}(h:(gs.length:Int)≠s.g+s.c):BR s gs=false:=by
 unfold BR;rw[decide_eq_false h];rfl
theorem Kq {s:Sh} {gs:List (List Bo)} {k:Nat}(hk:k<gs.length)(h:CT s gs[k] =false):BR s gs=false:=by
 unfold BR;rw[allBad hk h,Bool.and_false]
theorem Lz {s:Sh} {gs:List (List Bo)}(h:(gs.length:Int)=s.g+s.c)(h2:Cx (CT s) gs gs.length):BR s gs=true:=by
 unfold BR;rw[decide_eq_true h,h2.all];rfl
theorem KM {s:Sh} {g:List Bo}(h:(g.length:Int)≠s.data+s.p):CT s g=false:=by
 unfold CT;rw[decide_eq_false h];rfl
theorem KK {s:Sh} {g:List Bo} {k:Nat}(hk:k<g.length)(h:Db s g[k] =false):CT s g=false:=by
 unfold CT;rw[allBad hk h,Bool.and_false]
theorem LG {s:Sh} {g:List Bo}(h:(g.length:Int)=s.data+s.p)(h2:Cx (Db s) g g.length):CT s g=true:=by
 unfold CT;rw[decide_eq_true h,h2.all];rfl
theorem KE {s:Sh} {d:Bo}(h:(d.blocks.length:Int)≠s.rows):Db s d=false:=by
 unfold Db;rw[decide_eq_false h];rfl
theorem Kz {s:Sh} {d:Bo}(h:(d.blocks.length:Int)=s.rows):Db s d= !(d.blocks.any fun b => !Eg b):=by
 unfold Db;rw[decide_eq_true h,Bool.true_and,Bool.eq_iff_iff];simp
theorem GU {s:Sh}:∀ {l:List Ag} {k:Nat} (hk:k<l.length),Cx (fun r => decide (AE s r=0)) l k→AE s l[k]≠0→AS s l=AE s l[k]
 |r :: l,0,hk,h,hb => by
  have hb':¬AE s r=0:=hb;show(if AE s r=0 then AS s l else AE s r)=AE s r
  rw[if_neg hb']
 |r :: l,k+1,hk,h,hb => by
  have h0:AE s r=0:=by have:=h 0 (by simp) (by omega);simpa using this
  have hk':k<l.length:=by simpa using hk
  show(if AE s r=0 then AS s l else AE s r)=AE s l[k]
  rw[if_pos h0];exact GU (by simpa using hk) (fun q hq hqk => h (q+1) (by simpa using hq) (by omega)) hb
theorem Ia {s:Sh}:∀ {l:List Ag},Cx (fun r => decide (AE s r=0)) l l.length→AS s l=0
 | [],_ => rfl
 |r :: l,h => by
  have h0:AE s r=0:=by have:=h 0 (by simp) (by simp);simpa using this
  show(if AE s r=0 then AS s l else AE s r)=0
  rw[if_pos h0];exact Ia fun q hq hqk => h (q+1) (by simpa using hq) (by simpa using hqk)
def Ci(s:Sh)(ts:List AU)(k:Nat):Prop:=AS s ((ts.take k).flatMap AU.recs)=0
theorem Ci.zero(s:Sh)(ts:List AU):Ci s ts 0:=rfl
theorem Ci.step {s:Sh} {ts:List AU} {k:Nat}(h:Ci s ts k)(hk:k<ts.length)(h2:AS s ts[k].recs =0):Ci s ts (k+1):=by
 unfold Ci;rw[List.take_succ_eq_append_getElem hk,List.flatMap_append,Em s _ _ h];simpa using h2
theorem FR {s:Sh}:∀(a b:List Ag),AS s a≠0→AS s (a ++ b)=AS s a
 | [],b,h => absurd rfl h
 |r :: l,b,h => by
  show(if AE s r=0 then AS s (l ++ b)else AE s r)=(if AE s r=0 then AS s l else AE s r)
  by_cases h0:AE s r=0
  ·rw[if_pos h0,if_pos h0];refine FR l b fun e => h ?_
   show(if AE s r=0 then AS s l else AE s r)=0
   rw[if_pos h0,e]
  ·rw[if_neg h0,if_neg h0]
theorem Ci.bad {s:Sh} {ts:List AU} {k:Nat}(h:Ci s ts k)(hk:k<ts.length)(h2:AS s ts[k].recs≠0):AS s (ts.flatMap AU.recs)=AS s ts[k].recs:=by
 conv => lhs;rw[← List.take_append_drop k ts]
 rw[List.flatMap_append,Em s _ _ h,List.drop_eq_getElem_cons hk,List.flatMap_cons,FR _ _ h2]
theorem Ci.all {s:Sh} {ts:List AU}(h:Ci s ts ts.length):AS s (ts.flatMap AU.recs)=0:=by
 unfold Ci at h;rwa [List.take_length]at h
theorem Hy {s:Sh} {ts:List AU}(h:ts.any (fun t => decide (200<t.recs.length))=true):Bf s ts=2:=by unfold Bf;rw[if_pos h]
theorem Iv {s:Sh} {ts:List AU}(h:ts.any (fun t => decide (200<t.recs.length))=false)(h2:AS s (ts.flatMap AU.recs)≠0):Bf s ts=AS s (ts.flatMap AU.recs):=by
 unfold Bf;rw[if_neg (by rw[h];exact Bool.false_ne_true),if_neg h2]
theorem Iu {s:Sh} {ts:List AU}(h:ts.any (fun t => decide (200<t.recs.length))=false)(h2:AS s (ts.flatMap AU.recs)=0):Bf s ts=if ts.any (fun t => t.wiped && decide (0<t.recs.length))=true then 1 else 0:=by
 unfold Bf;rw[if_neg (by rw[h];exact Bool.false_ne_true),if_pos h2]
theorem Hc {d:Au}(h:shB d.s.sh=false):AI d=3:=by unfold AI;rw[if_neg (by rw[h];exact Bool.false_ne_true)]
theorem H6 {d:Au}(h:shB d.s.sh=true)(h2:(BR d.s.sh d.g && (onB d.s.sh d.on d.down && decide (d.v.length=2)))=false):AI d=1:=by
 unfold AI;rw[if_pos h,if_neg (by rw[h2];exact Bool.false_ne_true)]
theorem Hd {d:Au}(h:shB d.s.sh=true)(h2:(BR d.s.sh d.g && (onB d.s.sh d.on d.down && decide (d.v.length=2)))=true)(h3:Bf d.s.sh d.v≠0):AI d=Bf d.s.sh d.v:=by
 unfold AI;rw[if_pos h,if_pos h2,if_neg h3]
theorem Ix {d:Au}(h:shB d.s.sh=true)(h2:(BR d.s.sh d.g && (onB d.s.sh d.on d.down && decide (d.v.length=2)))=true)(h3:Bf d.s.sh d.v=0):AI d=if(Al d.u 0 1000000000 && Al d.stop (-1) 1000000000)=true then 0 else 3:=by
 unfold AI;rw[if_pos h,if_pos h2,if_pos h3]
end Go.Proofs.YthbljikbnoghcaaGreat
