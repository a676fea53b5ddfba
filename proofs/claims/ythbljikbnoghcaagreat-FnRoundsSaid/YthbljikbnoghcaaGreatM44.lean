/-
  Part 44 of the proof; the last part states and proves the statement.
-/
import Derived.Test.YthbljikbnoghcaaGreatM43
import Derived.Test.YthbljikbnoghcaaGreatM11
import Derived.Test.YthbljikbnoghcaaGreatM33
import Derived.Test.YthbljikbnoghcaaGreatM14
set_option maxHeartbeats 8000000
set_option maxRecDepth 100000
set_option linter.unusedVariables false
set_option linter.unusedSimpArgs false
open Go.Value (int)
open Go.IntKind (i64)
namespace Go.Proofs.YthbljikbnoghcaaGreat
open Go.RowKit Go.Lib Go.Sort
def BK(nm:ByteArray)(y:UInt8):Ag:=⟨1,1,nm,1,0,0,[],[y],[]⟩
theorem longOne(s:Sh)(h:s.Ok):BY s 1=0:=by
 unfold BY;rw[if_neg (by decide),if_neg (by have:=h.data;omega)]
theorem L4(p ab ob cb b o n:Nat)(nm:ByteArray)(y:UInt8)(fy:List Addr)(fs:List Addr)(d:Au)(w:World)(hA:AtW w p fs d)(h0:Bj d= [])(h2:d.v.length=2)(hok:d.s.sh.Ok)(hT:Fj w p b o n)(hn:n≤999999999)(hnm:nm.size≤1000000)(hy:Ap w fy (.slice (some ⟨ab,ob,none⟩) 1 cb) [y]) :
  Calls Tryz.prog 30 #[.pointer (some ⟨p,0,none⟩),.string nm,.slice (some ⟨ab,ob,none⟩) 1 cb] w fun e w' =>(d.s.t<1∧e= .returned (int i64 11)∧Below w.heap.size w w')∨(1≤d.s.t∧e= .returned (int i64 0)∧∃v1 v2 A c h A' c' h',Bx ⟨b,o,none⟩ ⟨b,o+1,none⟩ (BK nm y) w v1 A c h∧Bx ⟨b,o+2,none⟩ ⟨b,o+2+1,none⟩ (BK nm y) (v1.setCell ⟨p,12,none⟩ (int i64 ((n:Int)+1))) v2 A' c' h'∧w'=v2.setCell ⟨p,12,none⟩ (int i64 (((n+1:Nat):Int)+1))):=by
 obtain⟨_,_,_,_,_,_,_,_,_,HC⟩:=hA.cells;have HSS:=hid (show∀W:World,Below w.heap.size w W→W.rangeAt p 0 [int i64 d.s.g,int i64 d.s.c,int i64 d.s.data,int i64 d.s.p,int i64 d.s.rows,int i64 d.s.cap,int i64 d.s.b,int i64 d.s.q,int i64 d.s.t]from fun W hW => by
  obtain⟨_,_,_,_,_,_,_,_,_,HC⟩:=(hA.below hW).cells;exact HC.s)
 have HPA:=hid (fun(W:World) => Ht d.s.sh hok 1 (by unfold okI;simp) W);unfold shV at HPA;rw[show d.s.sh.g=d.s.g from rfl,show d.s.sh.c=d.s.c from rfl,show d.s.sh.data=d.s.data from rfl,show d.s.sh.p=d.s.p from rfl,show d.s.sh.rows=d.s.rows from rfl,show d.s.sh.cap=d.s.cap from rfl,show d.s.sh.b=d.s.b from rfl,show d.s.sh.q=d.s.q from rfl,show d.s.sh.t=d.s.t from rfl]at HPA;have HS8:=hid (show∀W:World,Below w.heap.size w W→W.cell? ⟨p,8,none⟩=some (int i64 d.s.t)from fun W hW => by
  have:=HSS.out W hW 8 (int i64 d.s.t) rfl;simpa using this)
 have HWT:=hid (fun(W:World) (hW:Below w.heap.size w W) => Mi p fs d W (hA.below hW) h0);have HLC:=hid (longOne d.s.sh hok);go_enter Tryz.func30,Tryz.ntmps30
 go_wp2_with fail
 refine wp_region_noPanic ?_;refine wp_region_held_drew (S:=(fun W:World => W.rangeAt p 0 [int i64 d.s.g,int i64 d.s.c,int i64 d.s.data,int i64 d.s.p,int i64 d.s.rows,int i64 d.s.cap,int i64 d.s.b,int i64 d.s.q,int i64 d.s.t])) (by kernel_rfl) (HSS.out _ (Ai (Below.refl _ _))) (fun hHeld => ?_);refine wpAnyH_take (i:=0) (oi:=_) (v:=(.pointer (some ⟨p,0,none⟩))) rfl (by kernel_rfl) (by kernel_rfl) (by kernel_rfl) (fun _ _ _ h => h) (Or.inl ⟨by rfl,by intro w' hSw;clear hSw hHeld;go_simp⟩) (by assumption) ?_;refine wpAnyH_take (i:=1) (oi:=_) (v:=(.pointer (some ⟨p,0,none⟩))) rfl (by kernel_rfl) (by kernel_rfl) (by kernel_rfl) (fun _ _ _ h => h) (Or.inl ⟨by rfl,by intro w' hSw;clear hSw hHeld;go_simp⟩) (by assumption) ?_;refine wpAnyH_take (i:=2) (oi:=_) (v:=(.pointer (some ⟨p,0,none⟩))) rfl (by kernel_rfl) (by kernel_rfl) (by kernel_rfl) (fun _ _ _ h => h) (Or.inl ⟨by rfl,by intro w' hSw;clear hSw hHeld;go_simp⟩) (by assumption) ?_;refine wpAnyH_take (i:=3) (oi:=_) (v:=_) rfl (by kernel_rfl) (by kernel_rfl) (by kernel_rfl) (fun _ _ _ h => h) (yieldsIf_load_mid (by rfl) 25 (.tmp 12) rfl p 0 rfl [int i64 d.s.g,int i64 d.s.c,int i64 d.s.data,int i64 d.s.p,int i64 d.s.rows,int i64 d.s.cap,int i64 d.s.b,int i64 d.s.q,int i64 d.s.t] _ (fun _ h => h) Tryz.underlying25 rfl (by kernel_rfl)) (by assumption) ?_;refine wpAnyH_take (i:=4) (oi:=_) (v:=(.slice (some ⟨ab,ob,none⟩) 1 cb)) rfl (by kernel_rfl) (by kernel_rfl) (by kernel_rfl) (fun _ _ _ h => h) (Or.inl ⟨by rfl,by intro w' hSw;clear hSw hHeld;go_simp⟩) (by assumption) ?_;refine wpAnyH_ready (rs:=[5]) (by kernel_rfl) (by simp) ?_;refine AllReadyH.cons rfl (fun K hK => ?_) AllReadyH.nil;clear hHeld;go_simp
 go_at_call 70
 refine(Bw _ _ _ _).mono ?_;rintro e w3 ⟨rfl,rfl⟩;dsimp only;refine hK.out _ _ (HSS.out _ (Ai (Below.refl _ _))) (fun _ => ?_);clear hK;refine wpAnyH_ready (rs:=[6]) (by kernel_rfl) (by simp) ?_;refine AllReadyH.cons rfl (fun K hK => ?_) AllReadyH.nil;go_simp
 go_at_call 69
 refine(HPA.out _).mono ?_;rintro e w4 ⟨rfl,b4⟩;dsimp only;rw[HLC.out,if_pos rfl];have B4:=hid (Cj b4);refine hK.out _ _ (HSS.out _ B4.out) (fun _ => ?_);clear hK b4;refine wpAnyH_take (i:=7) (oi:=_) (v:=.tuple #[int i64 (Bz d.s.sh 1),int i64 0]) rfl (by kernel_rfl) (by kernel_rfl) (by kernel_rfl) (fun _ _ _ h => h) (Or.inl ⟨by rfl,by intro w' hSw;clear hSw;go_simp⟩) (by assumption) ?_;refine wpAnyH_take (i:=8) (oi:=_) (v:=int i64 (Bz d.s.sh 1)) rfl (by kernel_rfl) (by kernel_rfl) (by kernel_rfl) (fun _ _ _ h => h) (Or.inl ⟨by rfl,by intro w' hSw;clear hSw;go_simp⟩) (by assumption) ?_;refine wpAnyH_take (i:=9) (oi:=_) (v:=int i64 0) rfl (by kernel_rfl) (by kernel_rfl) (by kernel_rfl) (fun _ _ _ h => h) (Or.inl ⟨by rfl,by intro w' hSw;clear hSw;go_simp⟩) (by assumption) ?_;refine wpAnyH_take (i:=10) (oi:=_) (v:=int i64 (Bz d.s.sh 1)) rfl (by kernel_rfl) (by kernel_rfl) (by kernel_rfl) (fun _ _ _ h => h) (Or.inl ⟨by rfl,by intro w' hSw;clear hSw;go_simp⟩) (by assumption) ?_;refine wpAnyH_take (i:=11) (oi:=_) (v:=int i64 0) rfl (by kernel_rfl) (by kernel_rfl) (by kernel_rfl) (fun _ _ _ h => h) (Or.inl ⟨by rfl,by intro w' hSw;clear hSw;go_simp⟩) (by assumption) ?_;refine wpAnyH_done (by kernel_rfl) ?_ _;refine NoPanic.normal ?_;go_wp2_with fail
 refine wp_region_noPanic ?_;refine wp_region_held_drew (S:=(fun W:World => W.cell? ⟨p,8,none⟩=some (int i64 d.s.t))) (by kernel_rfl) (HS8.out _ (Ai B4.out)) (fun hHeld => ?_);refine wpAnyH_take (i:=0) (oi:=_) (v:=(.pointer (some ⟨p,0,none⟩))) rfl (by kernel_rfl) (by kernel_rfl) (by kernel_rfl) (fun _ _ _ h => h) (Or.inl ⟨by rfl,by intro w' hSw;clear hSw hHeld;go_simp⟩) (by assumption) ?_;refine wpAnyH_take (i:=2) (oi:=_) (v:=(.slice (some ⟨ab,ob,none⟩) 1 cb)) rfl (by kernel_rfl) (by kernel_rfl) (by kernel_rfl) (fun _ _ _ h => h) (Or.inl ⟨by rfl,by intro w' hSw;clear hSw hHeld;go_simp⟩) (by assumption) ?_;refine wpAnyH_take (i:=5) (oi:=_) (v:=(.pointer (some ⟨p,0,none⟩))) rfl (by kernel_rfl) (by kernel_rfl) (by kernel_rfl) (fun _ _ _ h => h) (Or.inl ⟨by rfl,by intro w' hSw;clear hSw hHeld;go_simp⟩) (by assumption) ?_;refine wpAnyH_take (i:=6) (oi:=_) (v:=(.pointer (some ⟨p,0,none⟩))) rfl (by kernel_rfl) (by kernel_rfl) (by kernel_rfl) (fun _ _ _ h => h) (Or.inl ⟨by rfl,by intro w' hSw;clear hSw hHeld;go_simp⟩) (by assumption) ?_;refine wpAnyH_take (i:=7) (oi:=_) (v:=(.pointer (some ⟨p,0,none⟩))) rfl (by kernel_rfl) (by kernel_rfl) (by kernel_rfl) (fun _ _ _ h => h) (Or.inl ⟨by rfl,by intro w' hSw;clear hSw hHeld;go_simp⟩) (by assumption) ?_;refine wpAnyH_take (i:=8) (oi:=_) (v:=(.pointer (some ⟨p,8,none⟩))) rfl (by kernel_rfl) (by kernel_rfl) (by kernel_rfl) (fun _ _ _ h => h) (Or.inl ⟨by rfl,by intro w' hSw;clear hSw hHeld;go_simp⟩) (by assumption) ?_;refine wpAnyH_take (i:=9) (oi:=_) (v:=int i64 d.s.t) rfl (by kernel_rfl) (by kernel_rfl) (by kernel_rfl) (fun _ _ _ h => h) (Or.inl ⟨by rfl,by intro w' hSw;clear hHeld;go_simp⟩) (by assumption) ?_;refine wpAnyH_ready (rs:=[1]) (by kernel_rfl) (by simp) ?_;refine AllReadyH.cons rfl (fun K hK => ?_) AllReadyH.nil;clear hHeld;go_simp
 go_at_call 71
 refine(HWT.out _ (Ai B4.out)).mono ?_;rintro e w5 ⟨rfl,b5⟩;dsimp only;have B5:=hid ((Ai B4.out).trans (b5.mono (Ai B4.out).size));refine hK.out _ _ (HS8.out _ B5.out) (fun _ => ?_);clear hK b5;refine wpAnyH_ready (rs:=[3]) (by kernel_rfl) (by simp) ?_;refine AllReadyH.cons rfl (fun K hK => ?_) AllReadyH.nil;go_simp
 go_at_call 70
 refine(Bw _ _ _ _).mono ?_;rintro e w6 ⟨rfl,rfl⟩;dsimp only;refine hK.out _ _ (HS8.out _ B5.out) (fun _ => ?_);clear hK;refine wpAnyH_take (i:=4) (oi:=_) (v:=int i64 1) rfl (by kernel_rfl) (by kernel_rfl) (by kernel_rfl) (fun _ _ _ h => h) (Or.inl ⟨by rfl,by intro w' hSw;clear hSw;go_simp;rfl⟩) (by assumption) ?_;refine wpAnyH_take (i:=10) (oi:=_) (v:=.bool (decide (d.s.t<1))) rfl (by kernel_rfl) (by kernel_rfl) (by kernel_rfl) (fun _ _ _ h => h) (Or.inl ⟨by rfl,by intro w' hSw;clear hSw;go_simp⟩) (by assumption) ?_;refine wpAnyH_done (by kernel_rfl) ?_ _;refine NoPanic.normal ?_;by_cases hst:d.s.t<1
 ·rw[decide_eq_true hst];go_wp2_with fail
  go_ret
  exact .inl ⟨hst,rfl,B5.out⟩
 ·rw[decide_eq_false hst];have HCB:=hid (fun(W:World) (hW:Below w.heap.size w W) => Cc _ [y] fy W (Ap.below hy hW) (by simp));have HLN:=hid (fun(W:World) (hW:Below w.heap.size w W) (cs:List Value) (f:List Addr) (hr:Ac W f cs ⟨1,0,nm,1,0,0,[],[y],[]⟩) (hf:∀a,a∈f→a.block≠b∧a.block≠p) => LQ p b o n fs d ⟨1,0,nm,1,0,0,[],[y],[]⟩ cs f W (hA.below hW) h0 h2 (hT.below hW) hr ⟨by simp,by simp,by simp⟩ hn hf);have hbp:=hid (And.intro hT.lb hT.lp);go_wp2_with (first
   |(go_at_call 70;refine(Bw _ _ _ _).mono ?_;rintro e w6 ⟨rfl,rfl⟩)
   |(go_at_call 73;refine(HCB.out _ B5.out).mono ?_;rintro e w7 ⟨v7,f7,rfl,r7,m7,b7⟩;have hd7:=rSl.head r7;obtain⟨A7,c7,rfl,-⟩:=hd7;have R7:=hid r7;have M7:=hid m7;have B7:=hid (B5.out.trans (b7.mono B5.out.size));clear r7 m7 b7)
   |(go_at_call 72;go_loud (refine(HLN.out _ B7.out [int i64 1,int i64 0,.string nm,int i64 1,int i64 0,int i64 0,.slice none 0 0,.slice A7 1 c7,.slice none 0 0] f7 ⟨_,_,_,[],f7,[],rfl,by simp,by unfold okI;simp,by unfold okI;simp,(show nm.size≤9223372036854775807 from by omega),by unfold okI;simp,by unfold okI;simp,by unfold okI;simp,⟨none,0,rfl,Nat.le_refl _,by omega,.inl ⟨rfl,rfl⟩⟩,R7.out,⟨none,0,rfl,Nat.le_refl _,by omega,.inl ⟨rfl,rfl⟩⟩⟩ (fun a ha => by have h1:=M7.out.from_ a ha;have h2:=B5.out.size;have h3:=hbp.out;omega)).mono ?_;rintro e w8 ⟨rfl,v1,v2,A,c,h,A',c',h',hl1,hl2,rfl⟩;have HL1:=hid (hl1.from_ B7.out);have HL2:=hid hl2;clear hl1 hl2)))
  go_ret
  exact .inr ⟨by omega,rfl,v1,v2,A,c,h,A',c',h',HL1.out,HL2.out,rfl⟩
theorem rSl.nilMem {α:Type} {k:Nat} {R:Aw α} {w:World} {fs:List Addr} {v:Value}(h:rSl k R w fs v []):fs= []:=by
 obtain⟨A,c,-,-,-,h3⟩:=h;rcases h3 with⟨-,h3⟩|⟨ad,css,fss,-,-,e3,e4,-⟩
 ·exact h3
 ·have:fss= []:=List.eq_nil_of_length_eq_zero (by simpa using e3);subst this;rw[e4];simp[Az]
theorem DH(b o k:Nat):(⟨b,o,none⟩:Addr).add k=⟨b,o+k,none⟩:=by unfold Addr.add;split <;> simp_all
theorem J6 {w:World} {f2:List Addr} {v2:Value} {ts:List AU}(h:rSl 2 Bu w f2 v2 ts)(h2:ts.length=2)(h0:∀j,(hj:j<ts.length)→ts[j].recs = []) :
  ∃(b o c2:Nat) (A0 A1:Option Addr) (b0 b1:Bool),v2= .slice (some ⟨b,o,none⟩) 2 c2∧2≤c2∧c2≤9223372036854775807∧f2= [⟨b,o,none⟩,⟨b,o+1,none⟩,⟨b,o+2,none⟩,⟨b,o+2+1,none⟩]∧w.cell? ⟨b,o,none⟩=some (.bool b0)∧w.cell? ⟨b,o+1,none⟩=some (.slice A0 0 0)∧w.cell? ⟨b,o+2,none⟩=some (.bool b1)∧w.cell? ⟨b,o+2+1,none⟩=some (.slice A1 0 0):=by
 obtain⟨A,c,rfl,hc,hm,h3⟩:=h;rcases h3 with⟨h3,-⟩|⟨ad,css,fss,rfl,l1,l2,ef,h3⟩
 ·rw[h3]at h2;simp at h2
 ·have hi0:0<ts.length:=by omega
  have hi1:1<ts.length:=by omega
  obtain⟨m0,m1,m2,m3,⟨v0,g0,m4,m5,m6⟩,m7⟩:=h3 0 hi0;obtain⟨n0,n1,n2,n3,⟨v1,g1,n4,n5,n6⟩,n7⟩:=h3 1 hi1;obtain⟨A0,m7⟩:=m7 (h0 0 hi0);obtain⟨A1,n7⟩:=n7 (h0 1 hi1);rw[h0 0 hi0]at m6;rw[h0 1 hi1]at n6;have z0:=m6.nilMem;have z1:=n6.nilMem;subst z0 z1;have y0:=m3 0 (by rw[m4];simp);have y1:=m3 1 (by rw[m4];simp);have y2:=n3 0 (by rw[n4];simp);have y3:=n3 1 (by rw[n4];simp);simp only[m4]at y0 y1 m7;simp only[n4]at y2 y3 n7;simp at y0 y1 y2 y3 m7 n7;subst m7 n7;obtain⟨b,o,rfl⟩:=Hu y0;have hfl:fss.flatten= []:=List.flatten_eq_nil_iff.2 fun l hl => by
   obtain⟨i,hi,rfl⟩:=List.getElem_of_mem hl;match i,hi with
   |0,_ => exact m5
   |1,_ => exact n5
   |k+2,hi => omega
  rw[DH]at y0 y1 y2 y3;rw[hfl,h2]at ef;refine⟨b,o,c,A0,A1,_,_,by rw[h2],by omega,hm,?_,y0,y1,y2,y3⟩;rw[ef];simp[Az,List.range_succ,DH]
theorem AJ.twoT {W:World} {p lo:Nat} {f0 f1 f2 f3 f4 f5:List Addr} {d:Ao} {v0 v1 v2 u0 u1 u2:Value}(h:AJ W p lo f0 f1 f2 f3 f4 f5 d v0 v1 v2 u0 u1 u2)(hz:rSl 2 Bu W f2 v2 d.world.v)(h0:Bj d.world= [])(h2:d.world.v.length=2)(hs:d.world.stop= -1)(n:Nat)(hw:d.world.u=(n:Int)) :
  ∃(b o c2:Nat),v2= .slice (some ⟨b,o,none⟩) 2 c2∧2≤c2∧c2≤9223372036854775807∧f2= [⟨b,o,none⟩,⟨b,o+1,none⟩,⟨b,o+2,none⟩,⟨b,o+2+1,none⟩]∧Fj W p b o n:=by
 obtain⟨b,o,c2,A0,A1,b0,b1,e1,e2,e3,e4,q0,q1,q2,q3⟩:=J6 hz h2 (fun j hj => GE h0 j hj);subst e1 e4;have hm:∀a,a∈[(⟨b,o,none⟩:Addr),⟨b,o+1,none⟩,⟨b,o+2,none⟩,⟨b,o+2+1,none⟩]→W.frozen? a=false:=fun a ha => h.m.free a (List.mem_append_right _ (List.mem_append_right _ (List.mem_append_left _ ha)))
 have hb:b<W.heap.size:=h.there ⟨b,o,none⟩ (List.mem_append_right _ (List.mem_append_right _ (List.mem_append_left _ (by simp))));have hn:b≠p:=h.ne ⟨b,o,none⟩ (List.mem_append_right _ (List.mem_append_right _ (List.mem_append_left _ (by simp))));refine⟨b,o,c2,rfl,e2,e3,rfl,⟨c2,A0,A1,b0,b1,(h.k.cell 11).trans rfl,q0,q1,q2,q3⟩,(h.k.cell 12).trans (by rw[← hw];rfl),(h.k.cell 13).trans (by rw[← hs];rfl),h.k.frozen 12,hm _ (by simp),hm _ (by simp),hm _ (by simp),hm _ (by simp),h.k.lt,hb,hn⟩
def Bq(d:Ao)(r:Ag):Ao:=⟨{ d.world with v:=[⟨false,[r]⟩,⟨false,[r]⟩],u:=d.world.u+1+1 },d.desk⟩
theorem tapes_of {W:World} {b o c2:Nat} {r:Ag} {A A':Option Addr} {c c':Nat} {h h':List Addr}(hc:2≤c2)(hm:c2≤9223372036854775807)(q0:W.cell? ⟨b,o,none⟩=some (.bool false))(q1:W.cell? ⟨b,o+1,none⟩=some (.slice A 1 c))(q2:W.cell? ⟨b,o+2,none⟩=some (.bool false))(q3:W.cell? ⟨b,o+2+1,none⟩=some (.slice A' 1 c'))(r1:rSl 9 Ac W h (.slice A 1 c) [r])(r2:rSl 9 Ac W h' (.slice A' 1 c') [r]) :
  rSl 2 AK W ([⟨b,o,none⟩,⟨b,o+1,none⟩,⟨b,o+2,none⟩,⟨b,o+2+1,none⟩] ++(h ++ h')) (.slice (some ⟨b,o,none⟩) 2 c2) [⟨false,[r]⟩,⟨false,[r]⟩]:=by
 refine⟨some ⟨b,o,none⟩,c2,rfl,hc,hm,.inr ⟨⟨b,o,none⟩,[[.bool false,.slice A 1 c],[.bool false,.slice A' 1 c']],[h,h'],rfl,rfl,rfl,?_,fun i hi => ?_⟩⟩
 ·simp[Az,List.range_succ,DH]
 ·match i,hi with
  |0,_ => exact⟨by simp,by simp,rfl,fun j hj =>(by
    match j,hj with
    |0,_ => rw[DH];exact q0
    |1,_ => rw[DH];exact q1
    |k+2,hj => exact absurd hj (by simp)),⟨_,_,rfl,rfl,r1⟩⟩
  |1,_ => exact⟨by simp,by simp,rfl,fun j hj =>(by
    match j,hj with
    |0,_ => rw[DH];exact q2
    |1,_ => rw[DH];exact q3
    |k+2,hj => exact absurd hj (by simp)),⟨_,_,rfl,rfl,r2⟩⟩
  |k+2,hi => exact absurd hi (by simp)
theorem AJ.laid {w v1w v2w:World} {p lo b o c2 n:Nat} {f0 f1 f3 f4 f5:List Addr} {d:Ao} {v0 v1 u0 u1 u2:Value} {r:Ag} {A A':Option Addr} {c c':Nat} {g g':List Addr}
  (h:AJ w p lo f0 f1 [⟨b,o,none⟩,⟨b,o+1,none⟩,⟨b,o+2,none⟩,⟨b,o+2+1,none⟩] f3 f4 f5 d v0 v1 (.slice (some ⟨b,o,none⟩) 2 c2) u0 u1 u2) (ht:d.world.v.length=2) (hlo:lo≤w.heap.size) (hc:2≤c2) (hm:c2≤9223372036854775807) (hT:Fj w p b o n) (hw:d.world.u=(n:Int)) (hn:n≤999999999)
  (l1:Bx ⟨b,o,none⟩ ⟨b,o+1,none⟩ r w v1w A c g) (l2:Bx ⟨b,o+2,none⟩ ⟨b,o+2+1,none⟩ r (v1w.setCell ⟨p,12,none⟩ (int i64 ((n:Int)+1))) v2w A' c' g') :
  AJ (v2w.setCell ⟨p,12,none⟩ (int i64 (((n+1:Nat):Int)+1))) p lo f0 f1 ([⟨b,o,none⟩,⟨b,o+1,none⟩,⟨b,o+2,none⟩,⟨b,o+2+1,none⟩] ++(g ++ g')) f3 f4 f5 (Bq d r) v0 v1 (.slice (some ⟨b,o,none⟩) 2 c2) u0 u1 u2:=by
 obtain⟨w1,hw1⟩:∃w1,v1w.setCell ⟨p,12,none⟩ (int i64 ((n:Int)+1))=w1:=⟨_,rfl⟩;rw[hw1]at l2;obtain⟨G,hG⟩:∃G:List Addr,[⟨b,o,none⟩,⟨b,o+1,none⟩,⟨b,o+2,none⟩,⟨b,o+2+1,none⟩,⟨p,12,none⟩] =G:=⟨_,rfl⟩;have g12:(⟨p,12,none⟩:Addr)∈G:=by rw[← hG];simp
 have W1:AC G w w1:=by
  rw[← hw1];exact(l1.wr.mono (gs:=G) (by rw[← hG];intro a ha;simp at ha⊢;rcases ha with rfl|rfl <;> simp)).setCell g12 _
 have W1b:AC G v1w w1:=by rw[← hw1];exact(AC.refl G v1w).setCell g12 _
 have W2:AC G w1 (v2w.setCell ⟨p,12,none⟩ (int i64 (((n+1:Nat):Int)+1))):=(l2.wr.mono (gs:=G) (by rw[← hG];intro a ha;simp at ha⊢;rcases ha with rfl|rfl <;> simp)).setCell g12 _;have W2b:AC G v2w (v2w.setCell ⟨p,12,none⟩ (int i64 (((n+1:Nat):Int)+1))):=(AC.refl G v2w).setCell g12 _;have WW:=W1.trans W2;have hGb:∀a,a∈G→a.block<w.heap.size:=by
  rw[← hG];intro a ha;have:=hT.lb;have:=hT.lp;simp at ha;rcases ha with rfl|rfl|rfl|rfl|rfl <;> assumption
 have t1:=rSl.there Ac.fixed l1.r;have t2:=rSl.there Ac.fixed l2.r;have hs1:w.heap.size≤v1w.heap.size:=l1.wr.size;have hs2:v1w.heap.size≤w1.heap.size:=W1b.size;have d1:∀a,a∈g→w.heap.size≤a.block:=l1.m.from_;have d2:∀a,a∈g'→w1.heap.size≤a.block:=l2.m.from_;have W1c:=W1b.trans W2;have r1:=rSl.keep Ac.local_ l1.r (W1c.same t1 (fun a ha hm => by have:=d1 a ha;have:=hGb a hm;omega));have r2:=rSl.keep Ac.local_ l2.r (W2b.same t2 (fun a ha hm => by have:=d2 a ha;have:=hGb a hm;omega));have o12:∀(X:World) (u:Value) (q:Nat),(X.setCell ⟨p,12,none⟩ u).cell? ⟨b,q,none⟩=X.cell? ⟨b,q,none⟩:=fun X u q => World.cell?_setCell_other _ _ _ _ (fun e => hT.ne (by injection e with e;exact e.symm))
 have hb1:b<w1.heap.size:=by have:=hT.lb;omega
 have tp:=tapes_of hc hm (by rw[o12];exact(l2.wr.cell ⟨b,o,none⟩ (by simp) hb1).trans (by rw[← hw1,o12];exact l1.c0)) (by rw[o12];exact(l2.wr.cell ⟨b,o+1,none⟩ (by simp) hb1).trans (by rw[← hw1,o12];exact l1.c1)) (by rw[o12];exact l2.c0) (by rw[o12];exact l2.c1) r1 r2;have k1:Blk v1w p 38 _:=(l1.wr.block p hT.lp (by intro a ha;simp at ha;rcases ha with rfl|rfl <;> exact hT.ne)).trans h.k;have k2:=k1.set_ 12 (int i64 ((n:Int)+1));rw[hw1]at k2;have k3:Blk v2w p 38 _:=(l2.wr.block p (by have:=hT.lp;omega) (by intro a ha;simp at ha;rcases ha with rfl|rfl <;> exact hT.ne)).trans k2;have k4:=k3.set_ 12 (int i64 (((n+1:Nat):Int)+1));have hG2:∀a,a∈G→a∈[(⟨b,o,none⟩:Addr),⟨b,o+1,none⟩,⟨b,o+2,none⟩,⟨b,o+2+1,none⟩]∨a.block=p:=by
  rw[← hG];intro a ha;simp at ha⊢;rcases ha with rfl|rfl|rfl|rfl|rfl <;> simp
 have hth:=h.there;have so:∀f:List Addr,(∀a,a∈f→a∈f0 ++(f1 ++([(⟨b,o,none⟩:Addr),⟨b,o+1,none⟩,⟨b,o+2,none⟩,⟨b,o+2+1,none⟩] ++(f3 ++(f4 ++ f5))))∧a∉[(⟨b,o,none⟩:Addr),⟨b,o+1,none⟩,⟨b,o+2,none⟩,⟨b,o+2+1,none⟩])→AT f w (v2w.setCell ⟨p,12,none⟩ (int i64 (((n+1:Nat):Int)+1))):=fun f hf => WW.same (fun a ha => hth a (hf a ha).1) (fun a ha hm => by
  rcases hG2 a hm with q|q
  ·exact(hf a ha).2 q
  ·exact h.ne a (hf a ha).1 q)
 have mo:=h.m.keep (fun a ha => WW.frozen a (hth a ha));have mg:Ak lo (v2w.setCell ⟨p,12,none⟩ (int i64 (((n+1:Nat):Int)+1))) (g ++ g'):=Ak.cat2 ((l1.m.keep (fun a ha => W1c.frozen a (t1 a ha))).mono hlo) ((l2.m.keep (fun a ha => W2b.frozen a (t2 a ha))).mono (by omega)) (fun a ha hb => by have:=t1 a ha;have:=d2 a hb;omega);have hgl:∀a,a∈g ++ g'→w.heap.size≤a.block:=fun a ha => by
  rcases List.mem_append.1 ha with ha|ha
  ·exact d1 a ha
  ·have:=d2 a ha;omega
 have hw2:d.world.u+1+1=((n+1:Nat):Int)+1:=by rw[hw];simp
 refine⟨?_,?_,h.o1,h.o2,rSl.keep (Am.local_ Av.local_) h.r0 (so f0 fun a ha =>⟨List.mem_append_left _ ha,fun q => h.m.apart a ha (List.mem_append_right _ (List.mem_append_left _ q))⟩),rSl.keep As.local_ h.r1 (so f1 fun a ha =>⟨List.mem_append_right _ (List.mem_append_left _ ha),fun q => h.m.right.apart a ha (List.mem_append_left _ q)⟩),tp,rSl.keep (Am.local_ Ah.local_) h.r3 (so f3 fun a ha =>⟨List.mem_append_right _ (List.mem_append_right _ (List.mem_append_right _ (List.mem_append_left _ ha))),fun q => h.m.right.right.apart a q (List.mem_append_left _ ha)⟩),rSl.keep Ah.local_ h.r4 (so f4 fun a ha =>⟨List.mem_append_right _ (List.mem_append_right _ (List.mem_append_right _ (List.mem_append_right _ (List.mem_append_left _ ha)))),fun q => h.m.right.right.apart a q (List.mem_append_right _ (List.mem_append_left _ ha))⟩),rSl.keep AA.local_ h.r5 (so f5 fun a ha =>⟨List.mem_append_right _ (List.mem_append_right _ (List.mem_append_right _ (List.mem_append_right _ (List.mem_append_right _ ha)))),fun q => h.m.right.right.apart a q (List.mem_append_right _ (List.mem_append_right _ ha))⟩),?_,h.lp,?_⟩
 ·show Blk _ _ _ (Bg ⟨{ d.world with v:=[⟨false,[r]⟩,⟨false,[r]⟩],u:=d.world.u+1+1 },d.desk⟩ v0 v1 (.slice (some ⟨b,o,none⟩) 2 c2) u0 u1 u2).toArray
  rw[hw2];exact k4
 ·obtain⟨j0,j1,j2,j3,j4,j5,j6,j7,j8,-,j10⟩:=h.ok;exact⟨j0,j1,j2,j3,j4,j5,j6,j7,j8,by show okI (d.world.u+1+1);unfold okI;omega,j10⟩
 ·refine Ak.cat2 mo.left (Ak.cat2 mo.right.left (Ak.cat2 (Ak.cat2 mo.right.right.left mg fun a ha hb => ?_) mo.right.right.right fun a ha hb => ?_) fun a ha hb => ?_) fun a ha hb => ?_
  ·have h1:=hth a (List.mem_append_right _ (List.mem_append_right _ (List.mem_append_left _ ha)));have h2:=hgl a hb;omega
  ·rcases List.mem_append.1 ha with ha|ha
   ·exact mo.right.right.apart a ha hb
   ·have h1:=hth a (List.mem_append_right _ (List.mem_append_right _ (List.mem_append_right _ hb)));have h2:=hgl a ha;omega
  ·rcases List.mem_append.1 hb with hb|hb
   ·rcases List.mem_append.1 hb with hb|hb
    ·exact mo.right.apart a ha (List.mem_append_left _ hb)
    ·have h1:=hth a (List.mem_append_right _ (List.mem_append_left _ ha));have h2:=hgl a hb;omega
   ·exact mo.right.apart a ha (List.mem_append_right _ hb)
  ·rcases List.mem_append.1 hb with hb|hb
   ·exact mo.apart a ha (List.mem_append_left _ hb)
   ·rcases List.mem_append.1 hb with hb|hb
    ·rcases List.mem_append.1 hb with hb|hb
     ·exact mo.apart a ha (List.mem_append_right _ (List.mem_append_left _ hb))
     ·have h1:=hth a (List.mem_append_left _ ha);have h2:=hgl a hb;omega
    ·exact mo.apart a ha (List.mem_append_right _ (List.mem_append_right _ hb))
 ·intro a ha;have key:a∈g ++ g'∨a∈f0 ++(f1 ++([(⟨b,o,none⟩:Addr),⟨b,o+1,none⟩,⟨b,o+2,none⟩,⟨b,o+2+1,none⟩] ++(f3 ++(f4 ++ f5)))):=by
   simp only[List.mem_append]at ha⊢;rcases ha with q|q|(q|q)|q <;> simp[q]
  rcases key with q|q
  ·intro e;have h1:=hgl a q;have h2:=hT.lp;omega
  ·exact h.ne a q
theorem told11(cs:List Value)(sq:Int)(w:World) :
  Calls Tryz.prog 25 #[.agg cs.toArray,int i64 sq,int i64 11] w fun e w' => e= .returned (.agg #[int i64 11,int i64 0,int i64 0,int i64 0,int i64 0,int i64 0,int i64 0,int i64 0,int i64 0,int i64 0,int i64 0,.slice none 0 0,.slice none 0 0,.slice none 0 0,int i64 0,int i64 0,.bool false,.slice none 0 0,.slice none 0 0,.slice none 0 0,int i64 0,int i64 0])∧Below w.heap.size w w':=by
 obtain⟨W2,hW2⟩:∃W2,(w.alloc (.cells cs.toArray 38)).alloc (.cells #[int i64 0,int i64 0,int i64 0,int i64 0,int i64 0,int i64 0,int i64 0,int i64 0,int i64 0,int i64 0,int i64 0,.slice none 0 0,.slice none 0 0,.slice none 0 0,int i64 0,int i64 0,.bool false,.slice none 0 0,.slice none 0 0,.slice none 0 0,int i64 0,int i64 0] 40)=W2:=⟨_,rfl⟩;have KB:=hid (show Blk W2 (w.heap.size+1) 40 #[int i64 0,int i64 0,int i64 0,int i64 0,int i64 0,int i64 0,int i64 0,int i64 0,int i64 0,int i64 0,int i64 0,.slice none 0 0,.slice none 0 0,.slice none 0 0,int i64 0,int i64 0,.bool false,.slice none 0 0,.slice none 0 0,.slice none 0 0,int i64 0,int i64 0] by rw[← hW2];exact Blk.new1 w _ _ _);have HB2:=hid (show Below w.heap.size w W2 by rw[← hW2];exact Aa (Aa (Below.refl _ _) _) _);have HTH:=hid (Blk.there KB.out 22 (by simp));have zB:=KB.out.lt;go_enter Tryz.func25,Tryz.ntmps25
 go_wp2_with ((try rw[hW2]);refine wpList_store_mid rfl 40 (.tmp 6) (.tmp 20) rfl (w.heap.size+1) 0 #[int i64 11,int i64 0,int i64 0,int i64 0,int i64 0,int i64 0,int i64 0,int i64 0,int i64 0,int i64 0,int i64 0,.slice none 0 0,.slice none 0 0,.slice none 0 0,int i64 0,int i64 0,.bool false,.slice none 0 0,.slice none 0 0,.slice none 0 0,int i64 0,int i64 0] rfl rfl HTH.out (by kernel_rfl) (by simp[Value.oneCell']) ?_)
 have K7:=KB.out.laid [int i64 11,int i64 0,int i64 0,int i64 0,int i64 0,int i64 0,int i64 0,int i64 0,int i64 0,int i64 0,int i64 0,.slice none 0 0,.slice none 0 0,.slice none 0 0,int i64 0,int i64 0,.bool false,.slice none 0 0,.slice none 0 0,.slice none 0 0,int i64 0,int i64 0] rfl;refine bodyPost_ret (results_cell_row rfl _ _ (w.heap.size+1) 40 #[int i64 11,int i64 0,int i64 0,int i64 0,int i64 0,int i64 0,int i64 0,int i64 0,int i64 0,int i64 0,int i64 0,.slice none 0 0,.slice none 0 0,.slice none 0 0,int i64 0,int i64 0,.bool false,.slice none 0 0,.slice none 0 0,.slice none 0 0,int i64 0,int i64 0] (0,0) _ rfl K7 Tryz.underlying40 rfl (by kernel_rfl)) rfl ?_;exact⟨rfl,Below.setCells_ _ _ _ _ (by omega) HB2.out⟩
theorem L6 {s:Sh}(h:s.Ok) {nm:ByteArray} {y:UInt8}(hn:BU nm.data.toList=true):AE s (BK nm y)=0:=by
 have hd:=h.data;have hi:CO s (BK nm y)=true:=by
  unfold CO;rw[if_neg (show¬(BK nm y).length = -1 by show¬(1:Int)= -1;decide)];show(CV s 1 && (if 0<1 then decide (((1:Nat):Int)=1) && decide (0=0)else _))=true
  have hp:CV s 1=true:=by unfold CV;simp;omega
  rw[hp];rfl
 rw[DU rfl rfl];have hp:Bt s (BK nm y)=0:=by
  unfold Bt;rw[if_pos (show(BK nm y).kind =1 from rfl),if_pos (show BU (BK nm y).name.data.toList =true from hn),if_pos hi]
 rw[hp,if_pos rfl,if_pos];unfold G3;rw[if_pos (show(BK nm y).kind =1 from rfl)];rfl
theorem Lg {d:Ao} {r:Ag}(h:AI d.world=0)(hr:AE d.world.s.sh r=0)(hw:0≤d.world.u)(hw2:d.world.u≤999999998):AI (Bq d r).world =0:=by
 have ht:Bf d.world.s.sh [⟨false,[r]⟩,⟨false,[r]⟩] =0:=by
  unfold Bf;have hf:AS d.world.s.sh (([⟨false,[r]⟩,⟨false,[r]⟩]:List AU).flatMap AU.recs)=0:=by
   show AS d.world.s.sh [r,r] =0
   unfold AS;rw[if_pos hr];unfold AS;rw[if_pos hr];rfl
  rw[if_neg (by simp),if_pos hf,if_neg (by simp)]
 unfold AI at h⊢;split at h
 ·rename_i h1
  rw[if_pos (show shB (Bq d r).world.s.sh =true from h1)];split at h
  ·rename_i h2
   have h3:(BR d.world.s.sh d.world.g && (onB d.world.s.sh d.world.on d.world.down && decide (2=2)))=true:=by
    simp only[Bool.and_eq_true]at h2⊢;exact⟨h2.1,h2.2.1,rfl⟩
   rw[if_pos (show(BR (Bq d r).world.s.sh (Bq d r).world.g && (onB (Bq d r).world.s.sh (Bq d r).world.on (Bq d r).world.down && decide ((Bq d r).world.v.length =2)))=true from h3),if_pos (show Bf (Bq d r).world.s.sh (Bq d r).world.v =0 from ht)];split at h
   ·split at h
    ·rename_i h5
     simp only[Bool.and_eq_true]at h5;rw[if_pos];show(Al (d.world.u+1+1) 0 1000000000 && Al d.world.stop (-1) 1000000000)=true
     rw[h5.2,Bool.and_true];unfold Al;simp;omega
    ·cases h
   ·rename_i h4;exact absurd h h4
  ·cases h
 ·cases h
theorem LP {d:Ao} {r:Ag}(hd:d.world.down=false)(h:C6 (d.desk.next - 1) d=0)(hr:AE d.world.s.sh r=0)(hw:0≤d.world.u)(hw2:d.world.u≤999999998):C6 ((Bq d r).desk.next - 1) (Bq d r)=0:=by
 obtain⟨h1,h2⟩:=(CX hd).1 h;exact(CX (d:=Bq d r) hd).2 ⟨Lg h1 hr hw hw2,h2⟩
theorem laid_sm {d:Ao} {r:Ag}(h:D3 d.world)(hr:DM r):D3 (Bq d r).world :=
 ⟨h.gs,h.ds,h.bs,h.on,(by show 2≤1000000;omega),fun t ht => by
  have e:t=⟨false,[r]⟩:=by
   have ht:t∈[(⟨false,[r]⟩:AU),⟨false,[r]⟩]:=ht;simpa using ht
  subst e;exact⟨by simp,fun x hx => by rw[List.mem_singleton.1 hx];exact hr⟩⟩
theorem recL_sm(nm:ByteArray)(y:UInt8):DM (BK nm y):=⟨by show 0≤1000000;omega,by show 1≤1000000;omega,by show 0≤1000000;omega⟩
def CQ(d:Ao)(y:UInt8):Ao:=⟨d.world,{ d.desk with answers:=[⟨d.desk.next,0,d.desk.turn,[y]⟩],next:=d.desk.next+1 }⟩
theorem L5 {d:Ao} {G:Nat} {y:UInt8}(hE:Cv d.desk G)(hd:d.world.down=false)(h:C6 (d.desk.next - 1) d=0)(hn:1≤d.desk.next)(hn2:d.desk.next≤999999999):C6 ((CQ d y).desk.next - 1) (CQ d y)=0:=by
 obtain⟨h1,h2⟩:=(CX hd).1 h;refine(CX (d:=CQ d y) hd).2 ⟨h1,?_⟩;obtain⟨q1,q2,q3,q4,q5,q6⟩:=EV h2;have hT:AN d.desk= []:=by
  unfold AN;rw[hE.qs,hE.asd];simp
 have hS:AM d.desk= []:=by
  have:=Dw d.desk;rw[hT]at this;exact List.map_eq_nil_iff.1 this
 refine Gu (d:=(CQ d y).desk) q1 ?_ ?_ ?_ q5 ?_
 ·simp only[Bool.or_eq_false_iff]at q2⊢;exact⟨q2.1,q2.2.1,by show decide (200<1)=false;rfl⟩
 ·unfold tkC;rw[show AM (CQ d y).desk =AM d.desk from rfl,hS];rfl
 ·unfold anH;rw[show DJ (CQ d y).desk =(AN d.desk).map An.id from rfl,hT];show Ds (d.desk.next+1 - 1) d.desk.turn [⟨d.desk.next,0,d.desk.turn,[y]⟩] [] =0
  have e:DE (d.desk.next+1 - 1) d.desk.turn [] ⟨d.desk.next,0,d.desk.turn,[y]⟩=0:=by
   unfold DE;have t0:=BE q5;rw[if_pos,if_neg (by simp),if_neg (by simp)];simp[Al];omega
  unfold Ds;rw[if_pos e];rfl
 ·show Al (d.desk.next+1) 1 1000000000=true
  simp[Al];omega
abbrev Ca (c:Int):Array Value:=#[int i64 c,int i64 0,int i64 0,int i64 0,int i64 0,int i64 0,int i64 0,int i64 0,int i64 0,int i64 0,int i64 0,.slice none 0 0,.slice none 0 0,.slice none 0 0,int i64 0,int i64 0,.bool false,.slice none 0 0,.slice none 0 0,.slice none 0 0,int i64 0,int i64 0]
theorem AJ.boxedZ {w4:World} {f4:List Addr} {cs4:List Value} {d:Ao} {lo G:Nat}(r4:Af w4 f4 cs4 d)(z4:ArcZ w4 f4 cs4 d)(hE:Cv d.desk G)(m4:Ak lo w4 f4)(hl:lo≤w4.heap.size) :
  ∃f0 f1 f2 f3 v0 v1 v2 u0 A,AJ ((w4.alloc (.cells BP 38)).setCells w4.heap.size 0 cs4) w4.heap.size lo f0 f1 f2 f3 [] [] d v0 v1 v2 u0 (.slice A 0 0) (.slice none 0 0)∧rSl 2 Bu ((w4.alloc (.cells BP 38)).setCells w4.heap.size 0 cs4) f2 v2 d.world.v∧rSl 1 BX ((w4.alloc (.cells BP 38)).setCells w4.heap.size 0 cs4) f3 u0 d.desk.queues:=by
 have t4:=Af.fixed _ _ _ _ r4;have hl20:cs4.length=20:=Af.wide _ _ _ _ r4;have k:=(Blk.new w4 38 BP).laid cs4 (by rw[hl20];rfl);have bA:Below w4.heap.size w4 ((w4.alloc (.cells BP 38)).setCells w4.heap.size 0 cs4):=Below.setCells_ _ _ _ _ (Nat.le_refl _) (Aa (Below.refl _ _) _);have m5:=Ak.setS cs4 w4.heap.size 0 _ (m4.below (Aa (Below.refl _ _) (.cells BP 38)) t4);obtain⟨c1,c2,q1,q2,-,-,hw,hd⟩:=r4.parts;obtain⟨_,_,_,_,_,_,-,-,ok,-,-,-⟩:=hw.parts;obtain⟨_,_,_,_,_,_,-,-,o1,o2,-,-,-⟩:=hd;obtain⟨v0,v1,v2,u0,A,f0,f1,f2,f3,rfl,rfl,s0,s1,s2,s3⟩:=z4;have e:f0 ++(f1 ++(f2 ++ f3))=f0 ++(f1 ++(f2 ++(f3 ++([] ++ [])))):=by simp
 rw[e]at m5 t4;have ha:rSl 4 Ah ((w4.alloc (.cells BP 38)).setCells w4.heap.size 0 (Bk d.world v0 v1 v2 ++ BH d.desk u0 (.slice A 0 0) (.slice none 0 0))) [] (.slice A 0 0) d.desk.aside:=by rw[hE.asd];exact⟨A,0,rfl,Nat.le_refl _,by omega,.inl ⟨rfl,rfl⟩⟩
 have hb:rSl 4 AA ((w4.alloc (.cells BP 38)).setCells w4.heap.size 0 (Bk d.world v0 v1 v2 ++ BH d.desk u0 (.slice A 0 0) (.slice none 0 0))) [] (.slice none 0 0) d.desk.answers:=by rw[hE.an];exact⟨none,0,rfl,Nat.le_refl _,by omega,.inl ⟨rfl,rfl⟩⟩
 have p2:=rSl.below Bu.local_ Bu.fixed s2 bA;have p3:=rSl.below BX.local_ BX.fixed s3 bA;exact⟨f0,f1,f2,f3,v0,v1,v2,u0,A,⟨k,ok,o1,o2,rSl.below (Am.local_ Av.local_) (Am.fixed Av.fixed) s0 bA,rSl.below As.local_ As.fixed s1 bA,p2.imp (fun _ _ _ _ h => h.1),p3.imp (fun _ _ _ _ h => h.1),ha,hb,m5,hl,fun a ha => by have:=t4 a ha;omega⟩,p2,p3⟩
theorem Lf {w v1 v2:World} {p b o lo:Nat} {r:Ag} {A A':Option Addr} {c c':Nat} {g g':List Addr} {u u':Value}(l1:Bx ⟨b,o,none⟩ ⟨b,o+1,none⟩ r w v1 A c g)(l2:Bx ⟨b,o+2,none⟩ ⟨b,o+2+1,none⟩ r (v1.setCell ⟨p,12,none⟩ u) v2 A' c' g')(hb:lo≤b)(hp:lo≤p)(hlo:lo≤w.heap.size):Below lo w (v2.setCell ⟨p,12,none⟩ u'):=by
 have h1:Below lo w v1:=l1.wr.below hlo (by intro a ha;simp at ha;rcases ha with rfl|rfl <;> exact hb);have h2:Below lo w (v1.setCell ⟨p,12,none⟩ u):=h1.setCell hp _;have h3:Below lo (v1.setCell ⟨p,12,none⟩ u) v2:=l2.wr.below (Nat.le_trans hlo h2.size) (by intro a ha;simp at ha;rcases ha with rfl|rfl <;> exact hb);exact(h2.trans h3).setCell hp _
def PutR(d:Ao)(nm:ByteArray)(y:UInt8)(w:World)(e:Ending)(w':World):Prop :=
 (d.world.s.t<1∧e= .returned (.agg (Ca 11))∧Below w.heap.size w w')∨(1≤d.world.s.t∧∃cs' f',e= .returned (.agg (int i64 0 :: int i64 0 :: cs').toArray)∧Af w' f' cs' (Bq d (BK nm y))∧Ak w.heap.size w' f'∧Below w.heap.size w w')
theorem J5(d:Ao)(G n:Nat)(hR:DA d G)(hw:d.world.u=(n:Int))(hn:n≤999999998)(hst:d.world.stop= -1)(nm:ByteArray)(hnm:BU nm.data.toList=true)(y:UInt8)(ab ob cb:Nat)(fy:List Addr)(cs:List Value)(f:List Addr)(w:World)(h:Af w f cs d)(hy:Ap w fy (.slice (some ⟨ab,ob,none⟩) 1 cb) [y]) :
  Calls Tryz.prog 11 #[.agg cs.toArray,.string nm,.slice (some ⟨ab,ob,none⟩) 1 cb] w (PutR d nm y w):=by
 have hl20:cs.length=20:=Af.wide _ _ _ _ h;obtain⟨W2,hW2⟩:∃W2,(w.alloc (.cells cs.toArray 38)).alloc (.cells (Ca 0) 40)=W2:=⟨_,rfl⟩;have KA:=hid (show Blk W2 w.heap.size 38 cs.toArray by rw[← hW2];exact(Blk.new w _ _).alloc _);have KB:=hid (show Blk W2 (w.heap.size+1) 40 (Ca 0) by rw[← hW2];exact Blk.new1 w _ _ _);have b2:Below w.heap.size w W2:=by rw[← hW2];exact Aa (Aa (Below.refl _ _) _) _
 have HB2:=hid b2;have HS2:=hid (show W2.heap.size=w.heap.size+2 by rw[← hW2];simp);have HRR:=hid (fun(W:World) (hW:Below W2.heap.size W2 W) => Aw.below Af.local_ Af.fixed (Aw.below Af.local_ Af.fixed h b2) hW);have HRG:=hid (fun(W:World) (hW:Below W2.heap.size W2 W) => Blk.range (KA.out.below hW KA.out.lt) 0 cs (show List.take cs.length cs=cs from List.take_length));have hIA:=hid (show(Tryz.prog.info? 38).map (·.size)=some cs.length by rw[hl20];kernel_rfl);have hns:nm.size≤8:=Ec hnm;have HNF:=hid (fun(W:World) => C7 nm W (by omega));rw[show Bm nm.data.toList=0 by unfold Bm;rw[if_pos hnm]]at HNF;have HR:=hid hR;have HY:=hid (fun(W:World) (hW:Below w.heap.size w W) => Ap.below hy hW);have HW:=hid hw;have HST:=hid hst;have HN8:=hid hns;clear h b2 hR hy hw hst hnm hl20 hns;go_enter Tryz.func11,Tryz.ntmps11
 go_wp2_with (first
  |((try rw[hW2]);refine wpList_load_mid rfl 38 (.tmp 3) rfl w.heap.size 0 rfl cs _ (HRG.out _ (Below.refl _ _)) Tryz.underlying38 rfl hIA.out ?_)
  |(go_at_call 22;refine(I8 d cs f _ (HRR.out _ (Below.refl _ _)) HR.out.code HR.out.dn).mono ?_;rintro e w3 ⟨rfl,b3⟩;have B3:=hid b3;clear b3)
  |(go_at_call 29;refine(HNF.out _).mono ?_;rintro e w4 ⟨rfl,b4⟩;have B4:=hid (B3.out.trans (b4.mono B3.out.size));clear b4)
  |(refine wpList_load_mid rfl 38 (.tmp 3) rfl w.heap.size 0 rfl cs _ (HRG.out _ B4.out) Tryz.underlying38 rfl hIA.out ?_)
  |(go_at_call 23;refine(D7 d G HR.out.ed HR.out.sm cs f _ (HRR.out _ B4.out)).mono ?_;rintro e w5 ⟨cs5,f5,rfl,r5,z5,m5,b5⟩;have HL5:=hid (show cs5.length=20 from Af.wide _ _ _ _ r5);have HO5:=hid r5.flat;have R5:=hid r5;have Z5:=hid z5;have M5:=hid m5;have B5:=hid b5;have HI5:=hid (show(Tryz.prog.info? 38).map (·.size)=some cs5.toArray.size by rw[List.size_toArray,Af.wide _ _ _ _ r5];kernel_rfl);clear r5 z5 m5 b5)
  |(refine wpList_store_mid rfl 38 (.tmp 8) (.tmp 20) rfl w5.heap.size 0 cs5.toArray rfl rfl (Blk.there (Blk.new w5 _ BP) cs5.toArray.size (by rw[List.size_toArray,HL5.out];exact Nat.le_refl _)) HI5.out HO5.out ?_))
 obtain⟨f0,f1,f2,f3,v0,v1,v2,u0,A,hA,hz2,-⟩:=AJ.boxedZ R5.out Z5.out HR.out.ed M5.out B5.out.size;obtain⟨W6,hW6⟩:∃W6,(w5.alloc (.cells BP 38)).setCells w5.heap.size 0 cs5=W6:=⟨_,rfl⟩;have b6:Below w5.heap.size w5 W6:=by rw[← hW6];exact Below.setCells_ _ _ _ _ (Nat.le_refl _) (Aa (Below.refl _ _) _)
 rw[hW6]at hA hz2⊢;have b46:Below w4.heap.size w4 W6:=B5.out.trans (b6.mono B5.out.size);have b26:Below W2.heap.size W2 W6:=B4.out.trans (b46.mono B4.out.size);have hd4:=B4.out.size;have hd5:=B5.out.size;have hs2:=HS2.out;obtain⟨b,o,c2,rfl,hc2,hm2,rfl,hT⟩:=hA.twoT hz2 HR.out.iw.rc HR.out.iw.tp HST.out n HW.out;have hlb:w4.heap.size≤b:=hA.m.from_ ⟨b,o,none⟩ (List.mem_append_right _ (List.mem_append_right _ (List.mem_append_left _ (by simp))));refine(L4 w5.heap.size ab ob cb b o n nm y fy _ d.world W6 hA.atW HR.out.iw.rc HR.out.iw.tp HR.out.iw.ok hT (by omega) (by have:=HN8.out;omega) (HY.out W6 (HB2.out.trans (b26.mono HB2.out.size)))).mono ?_;have HD:=hid (And.intro hd4 (And.intro hd5 hs2));have HA:=hid hA;have HB26:=hid b26;clear hd4 hd5 hs2 hW6 b6 b46 b26 hA hz2 R5 M5 B5 HI5 HO5 HL5 Z5 hW2;rintro e w7 (⟨hs,rfl,b7⟩|⟨hs,rfl,v1w,v2w,A1,c1,g1,A2,c3,g2,l1,l2,rfl⟩)
 ·have HA7:=hid (HA.out.below b7);have HRG7:=hid (Blk.range HA7.out.k 0 (Bg d v0 v1 (.slice (some ⟨b,o,none⟩) 2 c2) u0 (.slice A 0 0) (.slice none 0 0)) rfl);have B7:=hid (HB26.out.trans (b7.mono HB26.out.size));have HST7:=hid hs;clear b7 hs;go_wp2_with (first
   |(refine wpList_load_mid rfl 38 (.tmp 8) rfl w5.heap.size 0 rfl (Bg d v0 v1 (.slice (some ⟨b,o,none⟩) 2 c2) u0 (.slice A 0 0) (.slice none 0 0)) _ HRG7.out Tryz.underlying38 rfl (by kernel_rfl) ?_)
   |(go_at_call 25;refine(told11 _ 0 w7).mono ?_;rintro e w8 ⟨rfl,b8⟩;have KB8:=hid ((KB.out.below B7.out KB.out.lt).below b8 (KB.out.below B7.out KB.out.lt).lt);have HTH:=hid (Blk.there KB8.out 22 (by simp));have B8:=hid b8;clear b8)
   |(refine wpList_store_mid rfl 40 (.tmp 6) (.tmp 27) rfl (w.heap.size+1) 0 (Ca 11) rfl rfl HTH.out (by kernel_rfl) (by simp[Value.oneCell']) ?_))
  have K9:=KB8.out.laid (Ca 11).toList rfl;refine bodyPost_ret (results_cell_row rfl _ _ (w.heap.size+1) 40 (Ca 11) (0,0) _ rfl K9 Tryz.underlying40 rfl (by kernel_rfl)) rfl ?_;exact .inl ⟨HST7.out,rfl,Below.setCells_ _ _ _ _ (by omega) (HB2.out.trans ((B7.out.trans (B8.out.mono B7.out.size)).mono HB2.out.size))⟩
 ·have hA8:=HA.out.laid HR.out.iw.tp (Nat.le_trans (by have:=HD.out;omega) (Nat.le_of_lt HA.out.k.lt)) hc2 hm2 hT HW.out (by omega) l1 l2;have b8:=Lf (u':=int i64 (((n+1:Nat):Int)+1)) l1 l2 hlb HA.out.lp (Nat.le_trans (by have:=HD.out;omega) (Nat.le_of_lt HA.out.k.lt));obtain⟨W8,hW8⟩:∃W8,v2w.setCell ⟨w5.heap.size,12,none⟩ (int i64 (((n+1:Nat):Int)+1))=W8:=⟨_,rfl⟩;rw[hW8]at hA8 b8⊢;have HA8:=hid hA8;have HRG8:=hid (Blk.range hA8.k 0 (Bg (Bq d (BK nm y)) v0 v1 (.slice (some ⟨b,o,none⟩) 2 c2) u0 (.slice A 0 0) (.slice none 0 0)) rfl);have HB8:=hid (HB26.out.trans (b8.mono (by have:=HD.out;omega)));have HST8:=hid hs;have KB8:=hid (KB.out.below HB8.out KB.out.lt);have HO8:=hid (show((int i64 0 :: int i64 0 :: Bg (Bq d (BK nm y)) v0 v1 (.slice (some ⟨b,o,none⟩) 2 c2) u0 (.slice A 0 0) (.slice none 0 0):List Value)).toArray.all Value.oneCell'=true by
   have:=hA8.readsR.flat;simpa [Value.oneCell']using this)
  clear hs l1 l2 hT hlb hc2 hm2 hA8 b8 hW8;go_wp2_with (first
   |(refine wpList_load_mid rfl 38 (.tmp 8) rfl w5.heap.size 0 rfl (Bg (Bq d (BK nm y)) v0 v1 (.slice (some ⟨b,o,none⟩) 2 c2) u0 (.slice A 0 0) (.slice none 0 0)) _ HRG8.out Tryz.underlying38 rfl (by kernel_rfl) ?_)
   |(go_at_call 25;refine(told_c (Bq d (BK nm y)) _ _ 0 W8 HA8.out.readsR).mono ?_;rintro e w9 ⟨rfl,b9⟩;have KB9:=hid (KB8.out.below b9 KB8.out.lt);have HTH:=hid (Blk.there KB9.out 22 (by simp));have B9:=hid b9;clear b9)
   |(refine wpList_store_mid rfl 40 (.tmp 6) (.tmp 27) rfl (w.heap.size+1) 0 ((int i64 0 :: int i64 0 :: Bg (Bq d (BK nm y)) v0 v1 (.slice (some ⟨b,o,none⟩) 2 c2) u0 (.slice A 0 0) (.slice none 0 0):List Value)).toArray rfl rfl HTH.out (by kernel_rfl) HO8.out ?_))
  have K9:=KB9.out.laid (int i64 0 :: int i64 0 :: Bg (Bq d (BK nm y)) v0 v1 (.slice (some ⟨b,o,none⟩) 2 c2) u0 (.slice A 0 0) (.slice none 0 0)) rfl;refine bodyPost_ret (results_cell_row rfl _ _ (w.heap.size+1) 40 ((int i64 0 :: int i64 0 :: Bg (Bq d (BK nm y)) v0 v1 (.slice (some ⟨b,o,none⟩) 2 c2) u0 (.slice A 0 0) (.slice none 0 0):List Value)).toArray (0,0) _ rfl K9 Tryz.underlying40 rfl (by kernel_rfl)) rfl ?_;have hd:=HD.out;have hb2:=HB2.out.size;have t8:=HA8.out.there;have m9:=HA8.out.m.below B9.out t8;refine .inr ⟨HST8.out,Bg (Bq d (BK nm y)) v0 v1 (.slice (some ⟨b,o,none⟩) 2 c2) u0 (.slice A 0 0) (.slice none 0 0),_,rfl,?_,(Ak.setS _ _ _ _ m9).mono (by omega),?_⟩
  ·exact Af.local_ _ _ _ _ _ (Aw.below Af.local_ Af.fixed HA8.out.readsR B9.out) (CE _ _ 0 _ fun a ha e => by have:=m9.from_ a ha;omega)
  ·exact Below.setCells_ _ _ _ _ (by omega) (HB2.out.trans ((HB8.out.trans (B9.out.mono HB8.out.size)).mono HB2.out.size))
def By(t:An):List Value:=[int i64 t.id,int i64 t.kind,.string t.name,int i64 t.group]
theorem L8(b3:Nat)(t:An)(w:World)(h3:w.cell? ⟨b3,0,none⟩=some (int i64 t.id))(l3:b3<w.heap.size) :
  Calls Tryz.prog 132 (#[.agg (By t).toArray] ++ #[.pointer (some ⟨b3,0,none⟩)]) w fun e w' => e= .returned (.bool true)∧Below w.heap.size w w':=by
 unfold By;go_enter Tryz.func132,Tryz.ntmps132
 go_wp2_with fail
 go_ret
 exact⟨by simp,Aa (Below.refl _ _) _⟩
theorem Lb(A:Option Addr)(c:Nat)(fv:Value)(w:World):Calls Tryz.prog 188 #[.slice A 0 c,fv] w fun e w' => e= .returned (int i64 (-1))∧w=w':=by
 go_enter Tryz.func188,Tryz.ntmps188
 go_wp2_with fail
 go_loop [8] (fun i => i= int i64 0) (fun _ => 0)
 case atStart => exact rfl
 case round =>
  subst hrel;go_wp2_with fail
  go_ret
  exact⟨rfl,rfl⟩
theorem Gi(A:Option Addr)(c:Nat)(fv:Value)(w:World):Calls Tryz.prog 133 #[.slice A 0 c,fv] w fun e w' => e= .returned (.slice A 0 c)∧w=w':=by
 go_enter Tryz.func133,Tryz.ntmps133
 go_wp2_with (go_at_call 188;refine(Lb A c fv _).mono ?_;rintro e w1 ⟨rfl,rfl⟩)
 go_ret
 exact⟨rfl,rfl⟩
theorem Lc(bt c b3:Nat)(t:An)(w:World)(hr:w.rangeAt bt 0 (By t))(h3:w.cell? ⟨b3,0,none⟩=some (int i64 t.id))(l3:b3<w.heap.size):Calls Tryz.prog 188 #[.slice (some ⟨bt,0,none⟩) 1 c,.func (.func 132) #[] #[.pointer (some ⟨b3,0,none⟩)]] w fun e w' => e= .returned (int i64 0)∧Below w.heap.size w w':=by
 have HR:=hid hr;have HC:=hid (L8 b3 t w h3 l3);clear hr h3;go_enter Tryz.func188,Tryz.ntmps188
 go_wp2_with fail
 go_loop [8,5] (fun i _ => i= int i64 0) (fun _ _ => 0)
 case atStart => exact rfl
 case round =>
  subst hrel;go_wp2_with (first
   |(refine wpList_load_mid rfl 103 (.tmp 14) rfl bt 0 rfl (By t) _ HR.out Tryz.underlying103 rfl (by kernel_rfl) ?_)
   |(go_at_call 132;refine HC.out.mono ?_;rintro e w3 ⟨rfl,b3⟩;have B3:=hid b3;clear b3))
  go_ret
  exact⟨rfl,B3.out⟩
theorem Jm(w:World)(ty:TypeId)(g n c:Nat)(hn:0<n)(ht:w.there g 0 (n * 4)):∃vs:List Value,vs.length=n * 4∧(Builtin.clear_ #[33] ty #[.slice (some ⟨g,0,none⟩) n c]).run Tryz.prog w= .ok (.tuple #[]) (w.setCells g 0 vs):=by
 refine⟨(Builtin.zeroCells #[int i64 0,int i64 0,.string ⟨#[]⟩,int i64 0] n).toList,by simp[Builtin.zeroCells],?_⟩;have hlen:(Builtin.zeroCells #[int i64 0,int i64 0,.string ⟨#[]⟩,int i64 0] n).toList.length =n * 4:=by simp[Builtin.zeroCells]
 have hst:=run_storeCells_cells (P:=Tryz.prog) g 0 _ 0 w (fun j hj => by rw[hlen]at hj;have:=(ht j hj).1;simpa using this) (fun j hj => by rw[hlen]at hj;have:=(ht j hj).2;simpa using this) (by
  intro v hv;simp only[Builtin.zeroCells,Array.toList_map,List.mem_map]at hv;obtain⟨i,-,rfl⟩:=hv;have:i % 4<4:=Nat.mod_lt _ (by omega);generalize hq:i % 4=q at this;match q,this with
  |0,_ => rfl
  |1,_ => rfl
  |2,_ => rfl
  |3,_ => rfl)
 obtain⟨m,rfl⟩:∃m,n=m+1:=⟨n - 1,by omega⟩;generalize hz:(Builtin.zeroCells #[int i64 0,int i64 0,.string ⟨#[]⟩,int i64 0] (m+1)).toList =Z at hst hlen⊢;simp only[Nat.add_zero]at hst;have hv:=Tryz.zeroValue103;simp[Builtin.clear_,run_underlying Tryz.underlying33,hv,Value.cells,hz,hst]
theorem JH(bt c b3:Nat)(t:An)(w:World)(hr:w.rangeAt bt 0 (By t))(ht:w.there bt 0 4)(hlt:bt<w.heap.size)(hc:1≤c)(hcm:c≤9223372036854775807)(h3:w.cell? ⟨b3,0,none⟩=some (int i64 t.id))(l3:b3<w.heap.size):Calls Tryz.prog 133 #[.slice (some ⟨bt,0,none⟩) 1 c,.func (.func 132) #[] #[.pointer (some ⟨b3,0,none⟩)]] w fun e w' => e= .returned (.slice (some ⟨bt,0,none⟩) 0 c)∧∃w1 vs,Below w.heap.size w w1∧vs.length=4∧w'=w1.setCells bt 0 vs:=by
 have HI:=hid (Lc bt c b3 t w hr h3 l3);have HT:=hid (show∀W,Below w.heap.size w W→W.there bt 0 (1 * 4)from fun W hW q hq => by
  obtain⟨e1,e2⟩:=ht q (by omega);exact⟨by rw[hW.cell (p:=⟨bt,0+q,none⟩) hlt];exact e1,by rw[hW.frozen (p:=⟨bt,0+q,none⟩) hlt];exact e2⟩)
 clear hr ht h3;have hc0:¬c=0:=by omega
 go_enter Tryz.func133,Tryz.ntmps133
 go_wp2_with (go_at_call 188;refine HI.out.mono ?_;rintro e w1 ⟨rfl,b1⟩;have B1:=hid b1;clear b1)
 go_loop [6,5,7] (fun j i _ => j= int i64 1∧i= int i64 0) (fun _ _ _ => 0)
 case atStart => exact⟨rfl,rfl⟩
 case round =>
  obtain⟨rfl,rfl⟩:=hrel;obtain⟨vs,hvl,hcl⟩:=Jm w1 0 bt 1 c (by omega) (HT.out w1 B1.out);have HVL:=hid hvl;clear hvl;go_wp2_with fail
  go_ret
  first|exact⟨rfl,w1,vs,B1.out,HVL.out,rfl⟩|exact⟨rfl,w1,B1.out,vs,HVL.out,rfl⟩
theorem Gv {α:Type}:∀(G g:Nat) (q:List α),g<G→((List.replicate G ([]:List α)).set g q).flatten =q
 |0,g,q,h => absurd h (Nat.not_lt_zero g)
 |G+1,0,q,_ => by
  rw[List.replicate_succ,List.set_cons_zero,List.flatten_cons];simp
 |G+1,g+1,q,h => by
  rw[List.replicate_succ,List.set_cons_succ,List.flatten_cons,Gv G g q (by omega)];rfl
def Dr(G g:Nat)(q:List An):List (List An):=(List.replicate G []).set g q
theorem Ji(G g:Nat)(q:List An):(Dr G g q).length =G:=by unfold Dr;rw[List.length_set,List.length_replicate]
theorem oneQ_nil(G g:Nat):Dr G g [] =List.replicate G []:=by
 unfold Dr;refine List.ext_getElem (by simp) fun i h1 h2 => ?_
 rw[List.getElem_set];split <;> simp
structure AQ (W:World) (bq oq G:Nat) (g:Nat) (v:Value):Prop where
 at_:W.cell? ⟨bq,oq+g,none⟩=some v
 el:∀i,i<G→i≠g→∃A c,W.cell? ⟨bq,oq+i,none⟩=some (.slice A 0 c)∧c≤9223372036854775807
theorem F1 {W:World} {bq oq G g c0:Nat} {v:Value} {h:List Addr} {q:List An}(hs:AQ W bq oq G g v)(hg:g<G)(hc:G≤c0)(hm:c0≤9223372036854775807)(hr:rSl 4 Ah W h v q):rSl 1 (Am 4 Ah) W (Az ⟨bq,oq,none⟩ G ++ h) (.slice (some ⟨bq,oq,none⟩) G c0) (Dr G g q):=by
 have hl:=Ji G g q;have hx:∀i,i<G→∃u,W.cell? ⟨bq,oq+i,none⟩=some u:=fun i hi => by
  by_cases e:i=g
  ·subst e;exact⟨v,hs.at_⟩
  ·obtain⟨A,c,h1,-⟩:=hs.el i hi e;exact⟨_,h1⟩
 refine⟨some ⟨bq,oq,none⟩,c0,by rw[hl],by rw[hl];exact hc,hm,.inr ⟨⟨bq,oq,none⟩,(List.range G).map fun i => [(W.cell? ⟨bq,oq+i,none⟩).getD undef],(List.replicate G []).set g h,rfl,by simp[hl],by simp[hl],?_,fun i hi => ?_⟩⟩
 ·rw[hl,Nat.mul_one,Gv G g h hg]
 ·rw[hl]at hi;refine⟨by simpa using hi,by simpa using hi,by simp,fun j hj => ?_,?_⟩
  ·have hj0:j=0:=by simpa using hj
   subst hj0;obtain⟨u,hu⟩:=hx i hi;rw[DH];simp[hu]
  ·have e2:(Dr G g q)[i]'(by rw[hl];exact hi)=if g=i then q else []:=by
    unfold Dr;rw[List.getElem_set];split <;> simp
   rw[List.getElem_map,List.getElem_range,List.getElem_set,e2];by_cases e:g=i
   ·subst e;rw[if_pos rfl,if_pos rfl,hs.at_];exact⟨v,rfl,hr⟩
   ·rw[if_neg e,if_neg e,List.getElem_replicate];obtain⟨A,c,h1,h2⟩:=hs.el i hi (fun x => e x.symm);rw[h1];exact⟨_,rfl,A,c,rfl,Nat.zero_le _,h2,.inl ⟨rfl,rfl⟩⟩
theorem Lr {W:World} {f:List Addr} {u:Value} {G:Nat}(h:rSl 1 BX W f u (List.replicate G []))(hG:0<G) :
  ∃bq oq c0,u= .slice (some ⟨bq,oq,none⟩) G c0∧G≤c0∧c0≤9223372036854775807∧f=Az ⟨bq,oq,none⟩ G∧∀i,i<G→∃A,W.cell? ⟨bq,oq+i,none⟩=some (.slice A 0 0):=by
 obtain⟨A,c,e,hc,hm,h3⟩:=h;rw[List.length_replicate]at e hc;rcases h3 with⟨h3,-⟩|⟨ad,css,fss,rfl,l1,l2,ef,h3⟩
 ·have:=congrArg List.length h3;simp at this;omega
 ·have hi:∀i,i<G→∃A,W.cell? (ad.add i)=some (.slice A 0 0):=fun i hi => by
   obtain⟨h1,h2,h4,h5,h6,h7⟩:=h3 i (by simpa using hi);obtain⟨A,h7⟩:=h7 (by simp);have:=h5 0 (by rw[h4];omega);rw[Nat.mul_one,Nat.add_zero]at this;simp only[h7]at this;exact⟨A,this⟩
  have hfl:fss.flatten= []:=List.flatten_eq_nil_iff.2 fun l hl => by
   obtain⟨i,hi2,rfl⟩:=List.getElem_of_mem hl;obtain⟨h1,h2,h4,h5,h6,h7⟩:=h3 i (by omega);obtain⟨u,e1,e2⟩:=h6;rw[List.getElem_replicate]at e2;exact e2.nilMem
  obtain⟨A0,h0⟩:=hi 0 hG;rw[show ad.add 0=ad by simp[Addr.add]]at h0;obtain⟨bq,oq,rfl⟩:=Hu h0;refine⟨bq,oq,c,e,hc,hm,?_,fun i hi2 => ?_⟩
  ·rw[ef,hfl,List.length_replicate,Nat.mul_one,List.append_nil]
  ·obtain⟨A,h⟩:=hi i hi2;rw[DH]at h;exact⟨A,h⟩
theorem Ce {bq oq G i:Nat}(h:i<G):(⟨bq,oq+i,none⟩:Addr)∈Az ⟨bq,oq,none⟩ G:=by
 rw[AY];exact⟨i,h,(DH bq oq i).symm⟩
theorem BN {bq oq G:Nat} {a:Addr}(h:a∈Az ⟨bq,oq,none⟩ G):a.block=bq:=by
 obtain⟨i,-,e⟩:=AY.1 h;rw[e,DH]
theorem AJ.desk_ {W W':World} {p lo:Nat} {f0 f1 f2 f3 f4 f5 g3 g4 g5:List Addr} {d:Ao} {v0 v1 v2 u0 u1 u2 x0 x1 x2:Value} {k:AH}(h:AJ W p lo f0 f1 f2 f3 f4 f5 d v0 v1 v2 u0 u1 u2)
  (hk:Blk W' p 38 (Bg ⟨d.world,k⟩ v0 v1 v2 x0 x1 x2).toArray) (o1:okI k.turn) (o2:okI k.next) (hs:AT (f0 ++(f1 ++ f2)) W W') (hf:∀a,a∈f0 ++(f1 ++ f2)→W'.frozen? a=W.frozen? a)
  (r3:rSl 1 (Am 4 Ah) W' g3 x0 k.queues) (r4:rSl 4 Ah W' g4 x1 k.aside) (r5:rSl 4 AA W' g5 x2 k.answers) (hm:Ak lo W' (g3 ++(g4 ++ g5))) (ha:∀a,a∈f0 ++(f1 ++ f2)→a∉g3 ++(g4 ++ g5)) (hp:∀a,a∈g3 ++(g4 ++ g5)→a.block≠p) :
  AJ W' p lo f0 f1 f2 g3 g4 g5 ⟨d.world,k⟩ v0 v1 v2 x0 x1 x2:=by
 have hm0:Ak lo W ((f0 ++(f1 ++ f2)) ++(f3 ++(f4 ++ f5))):=by
  have:=h.m;simp only[List.append_assoc]at this⊢;exact this
 have hm1:=Ak.cat2 (hm0.left.keep hf) hm ha;simp only[List.append_assoc]at hm1;refine⟨hk,h.ok,o1,o2,rSl.keep (Am.local_ Av.local_) h.r0 hs.left,rSl.keep As.local_ h.r1 hs.right.left,rSl.keep AK.local_ h.r2 hs.right.right,r3,r4,r5,hm1,h.lp,fun a hq => ?_⟩;have key:a∈f0 ++(f1 ++ f2)∨a∈g3 ++(g4 ++ g5):=by
  simp only[List.mem_append]at hq⊢;rcases hq with q|q|q|q <;> simp[q]
 rcases key with q|q
 ·refine h.ne a ?_;simp only[List.mem_append]at q⊢;rcases q with q|q|q <;> simp[q]
 ·exact hp a q
end Go.Proofs.YthbljikbnoghcaaGreat
