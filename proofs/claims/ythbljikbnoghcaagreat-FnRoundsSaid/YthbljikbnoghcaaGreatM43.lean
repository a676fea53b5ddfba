/-
  Part 43 of the proof; the last part states and proves the statement.
-/
import Derived.Test.YthbljikbnoghcaaGreatM21
import Derived.Test.YthbljikbnoghcaaGreatM42
import Derived.Test.YthbljikbnoghcaaGreatM39
import Derived.Test.YthbljikbnoghcaaGreatM35
set_option maxHeartbeats 8000000
set_option maxRecDepth 100000
set_option linter.unusedVariables false
set_option linter.unusedSimpArgs false
open Go.Value (int)
open Go.IntKind (i64)
namespace Go.Proofs.YthbljikbnoghcaaGreat
open Go.RowKit Go.Sort
open Go.Lib (hid)
theorem Bc.of {w:World} {fs:List Addr} {cs:List Value} {d:Dg}(h:Af w fs cs d.archive)(h1:okI d.code)(h2:okI d.id):Bc w fs (int i64 d.code :: int i64 d.id :: cs) d:=by
 obtain⟨v0,v1,v2,v3,v4,v5,f0,f1,f2,f3,f4,f5,e,ef,o0,o1,o2,o3,o4,o5,o6,o7,o8,o9,o10,o11,o12,g0,g1,g2,g3,g4,g5⟩:=h;subst e ef;exact⟨v0,v1,v2,v3,v4,v5,f0,f1,f2,f3,f4,f5,rfl,rfl,h1,h2,o0,o1,o2,o3,o4,o5,o6,o7,o8,o9,o10,o11,o12,g0,g1,g2,g3,g4,g5⟩
def arD(s:Sh):Dg:=if shB s=true then⟨0,0,⟨BZ s (s.g+s.c).toNat (s.data+s.p).toNat s.rows.toNat,Dq (s.g+s.c).toNat⟩⟩else⟨3,0,Ga⟩
theorem Jq {s:Sh}(h:shB s=true):Eb s (s.g+s.c).toNat (s.data+s.p).toNat s.rows.toNat:=by
 have hok:=CJ h;have:=hok.g;have:=hok.c;have:=hok.data;have:=hok.p;have:=hok.rows;exact⟨hok,by omega,by omega,by omega⟩
theorem Gx(s:Sh)(w:World) :
  Calls Tryz.prog 6 #[shV s] w fun e w' =>∃cs fs,e= .returned (.agg cs.toArray)∧Bc w' fs cs (arD s)∧Ak w.heap.size w' fs∧Below w.heap.size w w':=by
 cases h:shB s
 ·refine(FF s h w).mono ?_;rintro e w' ⟨rfl,hb⟩;refine⟨[int i64 3,int i64 0,int i64 0,int i64 0,int i64 0,int i64 0,int i64 0,int i64 0,int i64 0,int i64 0,int i64 0,.slice none 0 0,.slice none 0 0,.slice none 0 0,int i64 0,int i64 0,.bool false,.slice none 0 0,.slice none 0 0,.slice none 0 0,int i64 0,int i64 0],[],rfl,?_,⟨List.nodup_nil,(fun a ha => by cases ha),(fun a ha => by cases ha)⟩,hb⟩;have e:arD s=⟨3,0,Ga⟩:=by unfold arD;rw[if_neg (by rw[h];simp)]
  rw[e];exact Bc.of (d:=⟨3,0,Ga⟩) (Af.zero w') (by unfold okI;simp) (by unfold okI;simp)
 ·refine(Gw s _ _ _ (Jq h) h w).mono ?_;rintro e w' ⟨A0,c0,A2,c2,A3,c3,fs,rfl,hr,hm,hb⟩;refine⟨_,fs,rfl,?_,hm,hb⟩;have e:arD s=⟨0,0,⟨BZ s (s.g+s.c).toNat (s.data+s.p).toNat s.rows.toNat,Dq (s.g+s.c).toNat⟩⟩:=by unfold arD;rw[if_pos h]
  rw[e];exact Bc.of (d:=⟨0,0,_⟩) hr (by unfold okI;simp) (by unfold okI;simp)
end Go.Proofs.YthbljikbnoghcaaGreat
namespace Go.Proofs.YthbljikbnoghcaaGreat
open Go.RowKit Go.Lib Go.Sort
theorem told0(i0 i1 i2 i3 i4 i5 i6 i7 i8 i9 i10 i11 i12:Int)(A0 A1 A2 B0 B1 B2:Option Addr)(n0 c0 n1 c1 n2 c2 m0 e0 m1 e1 m2 e2:Nat)(dn:Bool)(sq:Int)(w:World) :
  Calls Tryz.prog 25 #[.agg #[int i64 i0,int i64 i1,int i64 i2,int i64 i3,int i64 i4,int i64 i5,int i64 i6,int i64 i7,int i64 i8,.slice A0 n0 c0,.slice A1 n1 c1,.slice A2 n2 c2,int i64 i9,int i64 i10,.bool dn,.slice B0 m0 e0,.slice B1 m1 e1,.slice B2 m2 e2,int i64 i11,int i64 i12],int i64 sq,int i64 0] w fun e w' => e= .returned (.agg #[int i64 0,int i64 sq,int i64 i0,int i64 i1,int i64 i2,int i64 i3,int i64 i4,int i64 i5,int i64 i6,int i64 i7,int i64 i8,.slice A0 n0 c0,.slice A1 n1 c1,.slice A2 n2 c2,int i64 i9,int i64 i10,.bool dn,.slice B0 m0 e0,.slice B1 m1 e1,.slice B2 m2 e2,int i64 i11,int i64 i12])∧Below w.heap.size w w':=by
 obtain⟨W2,hW2⟩:∃W2,(w.alloc (.cells #[int i64 i0,int i64 i1,int i64 i2,int i64 i3,int i64 i4,int i64 i5,int i64 i6,int i64 i7,int i64 i8,.slice A0 n0 c0,.slice A1 n1 c1,.slice A2 n2 c2,int i64 i9,int i64 i10,.bool dn,.slice B0 m0 e0,.slice B1 m1 e1,.slice B2 m2 e2,int i64 i11,int i64 i12] 38)).alloc (.cells #[int i64 0,int i64 0,int i64 0,int i64 0,int i64 0,int i64 0,int i64 0,int i64 0,int i64 0,int i64 0,int i64 0,.slice none 0 0,.slice none 0 0,.slice none 0 0,int i64 0,int i64 0,.bool false,.slice none 0 0,.slice none 0 0,.slice none 0 0,int i64 0,int i64 0] 40)=W2:=⟨_,rfl⟩;have KA:=hid (show Blk W2 w.heap.size 38 #[int i64 i0,int i64 i1,int i64 i2,int i64 i3,int i64 i4,int i64 i5,int i64 i6,int i64 i7,int i64 i8,.slice A0 n0 c0,.slice A1 n1 c1,.slice A2 n2 c2,int i64 i9,int i64 i10,.bool dn,.slice B0 m0 e0,.slice B1 m1 e1,.slice B2 m2 e2,int i64 i11,int i64 i12] by rw[← hW2];exact(Blk.new w _ _).alloc _);have KB:=hid (show Blk W2 (w.heap.size+1) 40 #[int i64 0,int i64 0,int i64 0,int i64 0,int i64 0,int i64 0,int i64 0,int i64 0,int i64 0,int i64 0,int i64 0,.slice none 0 0,.slice none 0 0,.slice none 0 0,int i64 0,int i64 0,.bool false,.slice none 0 0,.slice none 0 0,.slice none 0 0,int i64 0,int i64 0] by rw[← hW2];exact Blk.new1 w _ _ _);have HB2:=hid (show Below w.heap.size w W2 by rw[← hW2];exact Aa (Aa (Below.refl _ _) _) _);have HRG:=hid (Blk.range KA.out 0 [int i64 i0,int i64 i1,int i64 i2,int i64 i3,int i64 i4,int i64 i5,int i64 i6,int i64 i7,int i64 i8,.slice A0 n0 c0,.slice A1 n1 c1,.slice A2 n2 c2,int i64 i9,int i64 i10,.bool dn,.slice B0 m0 e0,.slice B1 m1 e1,.slice B2 m2 e2,int i64 i11,int i64 i12] rfl);have HTH:=hid (Blk.there KB.out 22 (by simp));have zA:=KA.out.lt;have zB:=KB.out.lt;go_enter Tryz.func25,Tryz.ntmps25
 go_wp2_with (first
  |((try rw[hW2]);refine wpList_load_mid rfl 38 (.tmp 3) rfl w.heap.size 0 rfl _ _ HRG.out Tryz.underlying38 rfl (by kernel_rfl) ?_)
  |(refine wpList_store_mid rfl 40 (.tmp 6) (.tmp 12) rfl (w.heap.size+1) 0 #[int i64 0,int i64 sq,int i64 i0,int i64 i1,int i64 i2,int i64 i3,int i64 i4,int i64 i5,int i64 i6,int i64 i7,int i64 i8,.slice A0 n0 c0,.slice A1 n1 c1,.slice A2 n2 c2,int i64 i9,int i64 i10,.bool dn,.slice B0 m0 e0,.slice B1 m1 e1,.slice B2 m2 e2,int i64 i11,int i64 i12] rfl rfl HTH.out (by kernel_rfl) (by simp[Value.oneCell']) ?_))
 have K7:=KB.out.laid [int i64 0,int i64 sq,int i64 i0,int i64 i1,int i64 i2,int i64 i3,int i64 i4,int i64 i5,int i64 i6,int i64 i7,int i64 i8,.slice A0 n0 c0,.slice A1 n1 c1,.slice A2 n2 c2,int i64 i9,int i64 i10,.bool dn,.slice B0 m0 e0,.slice B1 m1 e1,.slice B2 m2 e2,int i64 i11,int i64 i12] rfl;refine bodyPost_ret (results_cell_row rfl _ _ (w.heap.size+1) 40 #[int i64 0,int i64 sq,int i64 i0,int i64 i1,int i64 i2,int i64 i3,int i64 i4,int i64 i5,int i64 i6,int i64 i7,int i64 i8,.slice A0 n0 c0,.slice A1 n1 c1,.slice A2 n2 c2,int i64 i9,int i64 i10,.bool dn,.slice B0 m0 e0,.slice B1 m1 e1,.slice B2 m2 e2,int i64 i11,int i64 i12] (0,0) _ rfl K7 Tryz.underlying40 rfl (by kernel_rfl)) rfl ?_;exact⟨rfl,Below.setCells_ _ _ _ _ (by omega) HB2.out⟩
theorem told_c(d:Ao)(cs:List Value)(f:List Addr)(sq:Int)(w:World)(h:Af w f cs d) :
  Calls Tryz.prog 25 #[.agg cs.toArray,int i64 sq,int i64 0] w fun e w' => e= .returned (.agg (int i64 0 :: int i64 sq :: cs).toArray)∧Below w.heap.size w w':=by
 obtain⟨v0,v1,v2,v3,v4,v5,f0,f1,f2,f3,f4,f5,e,ef,o0,o1,o2,o3,o4,o5,o6,o7,o8,o9,o10,o11,o12,g0,g1,g2,g3,g4,g5⟩:=h;obtain⟨A0,k0,rfl,-⟩:=rSl.head g0;obtain⟨A1,k1,rfl,-⟩:=rSl.head g1;obtain⟨A2,k2,rfl,-⟩:=rSl.head g2;obtain⟨A3,k3,rfl,-⟩:=rSl.head g3;obtain⟨A4,k4,rfl,-⟩:=rSl.head g4;obtain⟨A5,k5,rfl,-⟩:=rSl.head g5;subst e;exact told0 _ _ _ _ _ _ _ _ _ _ _ _ _ _ _ _ _ _ _ _ _ _ _ _ _ _ _ _ _ _ _ _ sq w
theorem I8(d:Ao)(cs:List Value)(f:List Addr)(w:World)(h:Af w f cs d)(hc:C6 (d.desk.next - 1) d=0)(hd:d.world.down=false) :
  Calls Tryz.prog 22 #[.agg cs.toArray] w fun e w' => e= .returned (int i64 0)∧Below w.heap.size w w':=by
 obtain⟨c1,c2,g1,g2,rfl,-,hw,hk⟩:=h.parts;have hl15:=AD.wide _ _ _ _ hw;have hl5:=Ba.wide _ _ _ _ hk;have hB:Below w.heap.size w (w.alloc (.cells (c1 ++ c2).toArray 38)):=(Below.refl _ _).alloc (Nat.le_refl _) _;have K1:Blk (w.alloc (.cells (c1 ++ c2).toArray 38)) w.heap.size 38 (c1 ++ c2).toArray:=Blk.new w _ _;have HB:=hid hB;have HK:=hid K1;have HRG:=hid (Blk.range K1 0 (c1 ++ c2) (show List.take (c1 ++ c2).length (c1 ++ c2)=c1 ++ c2 from List.take_length));have HAF:=hid (fun(W:World) (hW:Below w.heap.size w W) => De d (c1 ++ c2) f W (Aw.below Af.local_ Af.fixed h hW));have hIA:=hid (show(Tryz.prog.info? 38).map (·.size)=some (c1 ++ c2).length by rw[List.length_append,hl15,hl5];kernel_rfl);have HC:=hid hc;have HCD:=hid (show(c1 ++ c2).toArray[14]? =some (.bool false) by
  obtain⟨v0,v1,v2,q0,q1,q2,rfl,-,-,-⟩:=hw.parts;rw[← hd];rfl)
 clear h hw hk hc hd hl15 hl5;go_enter Tryz.func22,Tryz.ntmps22
 go_wp2_with (first
  |(refine wpList_load_mid rfl 38 (.tmp 1) rfl w.heap.size 0 rfl (c1 ++ c2) _ HRG.out Tryz.underlying38 rfl hIA.out ?_)
  |(go_at_call 10;refine(HAF.out _ HB.out).mono ?_;rintro e w1 ⟨rfl,b1⟩;have K2:=HK.out.below b1 HK.out.lt;have c14:w1.cell? ⟨w.heap.size,14,none⟩=some (.bool false):=(K2.cell 14).trans HCD.out;have l14:=K2.lt;have B1:=hid (HB.out.trans (b1.mono HB.out.size));clear b1 K2;rw[HC.out]))
 go_ret
 exact⟨rfl,B1.out⟩
theorem Km {l:List Int} {hi:Int}:Cb l hi l.length↔(l.Pairwise (· ≠ ·)∧∀x,x∈l→Al x 0 hi=true):=by
 constructor
 ·intro h;refine⟨List.pairwise_iff_getElem.2 fun i j hi hj hij e => ?_,fun x hx => ?_⟩
  ·have h1:i<(l.take j).length:=by rw[List.length_take];omega
   refine(h j hj hj).2 ?_;have h2:(l.take j)[i] =l[j]:=by rw[List.getElem_take];exact e
   rw[← h2];exact List.getElem_mem h1
  ·obtain⟨i,hi,rfl⟩:=List.getElem_of_mem hx;exact(h i hi hi).1
 ·rintro⟨h1,h2⟩ i hi -;refine⟨h2 _ (List.getElem_mem hi),fun hm => ?_⟩;obtain⟨j,hj,e⟩:=List.getElem_of_mem hm;rw[List.getElem_take]at e;rw[List.length_take]at hj;exact List.pairwise_iff_getElem.1 h1 j i (by omega) hi (by omega) e
theorem Fl {l:List Int} {hi:Int}:Cl l hi=true↔(l.Pairwise (· ≠ ·)∧∀x,x∈l→Al x 0 hi=true):=by
 unfold Cl;rw[decide_eq_true_iff];exact Km
theorem Lh(cap:Int)(on:List Int)(g:Int):g∈Cd cap on g:=by
 unfold Cd;split
 ·assumption
 ·exact List.mem_append_right _ (List.mem_singleton.2 rfl)
theorem Li {cap:Int} {on:List Int} {g x:Int}(h:x∈Cd cap on g):x=g∨x∈on:=by
 unfold Cd at h;split at h
 ·exact .inr h
 ·rcases List.mem_append.1 h with h|h
  ·split at h
   ·exact .inr (List.mem_of_mem_drop h)
   ·exact .inr h
  ·exact .inl (List.mem_singleton.1 h)
theorem GZ {cap:Int} {on:List Int} {g:Int}(hc:1≤cap)(h:(on.length:Int)≤cap):((Cd cap on g).length:Int)≤cap:=by
 unfold Cd;split
 ·exact h
 ·split
  ·rw[List.length_append,List.length_drop,List.length_singleton];omega
  ·rw[List.length_append,List.length_singleton];omega
theorem I7 {cap hi:Int} {on:List Int} {g:Int}(h:Cl on hi=true)(hg:Al g 0 hi=true):Cl (Cd cap on g) hi=true:=by
 obtain⟨h1,h2⟩:=Fl.1 h;refine Fl.2 ⟨?_,fun x hx => ?_⟩
 ·unfold Cd;split
  ·exact h1
  ·rename_i hn
   refine List.pairwise_append.2 ⟨?_,List.pairwise_singleton _ _,fun a ha b hb e => ?_⟩
   ·split
    ·exact h1.sublist (List.drop_sublist 1 on)
    ·exact h1
   ·rw[List.mem_singleton.1 hb]at e;subst e;refine hn ?_;split at ha
    ·exact List.mem_of_mem_drop ha
    ·exact ha
 ·rcases Li hx with rfl|hx
  ·exact hg
  ·exact h2 x hx
theorem CX {hi:Int} {d:Ao}(hd:d.world.down=false):C6 hi d=0↔(AI d.world=0∧Cg hi d.world.s.sh d.desk=0):=by
 unfold C6;constructor
 ·intro h;split at h
  ·rename_i h1
   split at h
   ·rename_i h2
    exact⟨h1,h2⟩
   ·rename_i h2
    exact absurd h h2
  ·rename_i h1
   exact absurd h h1
 ·rintro⟨h1,h2⟩;rw[if_pos h1,if_pos h2,if_neg (by rw[hd];simp)]
theorem Iy {d:Au}(h:AI d=0):onB d.s.sh d.on d.down=true:=by
 unfold AI at h;split at h
 ·split at h
  ·rename_i hb
   simp only[Bool.and_eq_true]at hb;exact hb.2.1
  ·cases h
 ·cases h
theorem Jy {d:Au} {on':List Int}(h:AI d=0)(h2:onB d.s.sh on' d.down=true):AI { d with on:=on' } =0:=by
 unfold AI at h⊢;split at h
 ·rename_i hs
  rw[if_pos hs];split at h
  ·rename_i hb
   rw[if_pos (show(BR d.s.sh d.g && (onB d.s.sh on' d.down && decide (d.v.length=2)))=true by
    simp only[Bool.and_eq_true]at hb⊢;exact⟨hb.1,h2,hb.2.2⟩)]
   exact h
  ·cases h
 ·cases h
theorem EV {hi:Int} {s:Sh} {d:AH}(h:Cg hi s d=0):(d.queues.length:Int)=s.g+s.c∧(d.queues.any (Ch s)||(decide (20<d.aside.length)||decide (200<d.answers.length)))=false∧tkC s d=0∧anH hi d=0∧Al d.turn 0 1000000000=true∧Al d.next 1 1000000000=true:=by
 unfold Cg at h;split at h
 ·rename_i h1
  split at h
  ·cases h
  ·rename_i h2
   split at h
   ·rename_i h3
    split at h
    ·rename_i h4
     split at h
     ·rename_i h5
      simp only[Bool.and_eq_true]at h5;exact⟨h1,by simpa using h2,h3,h4,h5.1,h5.2⟩
     ·cases h
    ·rename_i h4
     exact absurd h h4
   ·rename_i h3
    exact absurd h h3
 ·cases h
theorem Gu {hi:Int} {s:Sh} {d:AH}(h1:(d.queues.length:Int)=s.g+s.c)(h2:(d.queues.any (Ch s)||(decide (20<d.aside.length)||decide (200<d.answers.length)))=false)(h3:tkC s d=0)(h4:anH hi d=0)(h5:Al d.turn 0 1000000000=true)(h6:Al d.next 1 1000000000=true):Cg hi s d=0:=by
 unfold Cg;rw[if_pos h1,if_neg (by rw[h2];simp),if_pos h3,if_pos h4,if_pos (by rw[h5,h6];rfl)]
structure DA (d:Ao) (G:Nat):Prop where
 iw:Cf d.world
 ed:Cv d.desk G
 hG:(G:Int)=d.world.s.g+d.world.s.c
 sm:D3 d.world
 dn:d.world.down=false
 code:C6 (d.desk.next - 1) d=0
theorem DA.turn_ {d:Ao} {G:Nat}(h:DA d G):0≤d.desk.turn∧d.desk.turn≤1000000000:=by
 have:=(EV ((CX h.dn).1 h.code).2).2.2.2.2.1;simpa [Al]using this
theorem DA.on_ {d:Ao} {G:Nat}(h:DA d G):Cl d.world.on ((G:Int) - 1)=true∧(d.world.on.length:Int)≤d.world.s.cap:=by
 have:=Iy ((CX h.dn).1 h.code).1;unfold onB at this;simp only[Bool.and_eq_true,decide_eq_true_iff,BO.sh]at this;rw[h.hG];exact⟨this.1,of_decide_eq_true this.2.1⟩
theorem DA.turned {d:Ao} {G g:Nat}(h:DA d G)(hg:g<G)(ht:d.desk.turn<1000000000):DA (AP d (g:Int)) G:=by
 have⟨t0,t1⟩:=h.turn_;have⟨a1,a2⟩:=h.on_;have hc:=h.iw.ok.cap;simp only[BO.sh]at hc;have⟨w0,k0⟩:=(CX h.dn).1 h.code;refine⟨h.iw.on_ _,h.ed.turn_ _,h.hG,⟨h.sm.gs,h.sm.ds,h.sm.bs,?_,h.sm.ts,h.sm.rs⟩,h.dn,(CX (d:=AP d (g:Int)) h.dn).2 ⟨?_,?_⟩⟩
 ·have:=GZ (g:=(g:Int)) hc.1 a2;show(Cd d.world.s.cap d.world.on (g:Int)).length≤1000000
  omega
 ·refine Jy w0 ?_;unfold onB;simp only[Bool.and_eq_true,decide_eq_true_iff];refine⟨?_,GZ hc.1 a2,?_⟩
  ·refine I7 ?_ ?_
   ·show Cl d.world.on (d.world.s.g+d.world.s.c - 1)=true
    rw[← h.hG];exact a1
   ·show Al (g:Int) 0 (d.world.s.g+d.world.s.c - 1)=true
    rw[← h.hG];simp[Al];omega
  ·rw[h.dn];simp
 ·obtain⟨q1,q2,q3,q4,q5,q6⟩:=EV k0;refine Gu (d:=(AP d (g:Int)).desk) q1 q2 q3 ?_ ?_ q6
  ·unfold anH;rw[show(AP d (g:Int)).desk.answers = []from h.ed.an];rfl
  ·show Al (d.desk.turn+1) 0 1000000000=true
   simp[Al];omega
theorem AJ.of {W:World} {p lo:Nat} {f:List Addr} {cs:List Value} {d:Ao}(hr:Af W f cs d)(hm:Ak lo W f)(hk:Blk W p 38 cs.toArray)(hl:lo≤p)(hn:∀a,a∈f→a.block≠p) :
  ∃f0 f1 f2 f3 f4 f5 v0 v1 v2 u0 u1 u2,f=f0 ++(f1 ++(f2 ++(f3 ++(f4 ++ f5))))∧cs=Bg d v0 v1 v2 u0 u1 u2∧AJ W p lo f0 f1 f2 f3 f4 f5 d v0 v1 v2 u0 u1 u2:=by
 obtain⟨c1,c2,g1,g2,rfl,rfl,hw,hd⟩:=hr.parts;obtain⟨v0,v1,v2,f0,f1,f2,rfl,rfl,ok,r0,r1,r2⟩:=hw.parts;obtain⟨u0,u1,u2,f3,f4,f5,rfl,rfl,o1,o2,r3,r4,r5⟩:=hd;have e:(f0 ++(f1 ++ f2)) ++(f3 ++(f4 ++ f5))=f0 ++(f1 ++(f2 ++(f3 ++(f4 ++ f5)))):=by simp only[List.append_assoc]
 rw[e]at hm hn⊢;exact⟨f0,f1,f2,f3,f4,f5,v0,v1,v2,u0,u1,u2,rfl,rfl,hk,ok,o1,o2,r0,r1,r2,r3,r4,r5,hm,hl,hn⟩
theorem AJ.readsR {W:World} {p lo:Nat} {f0 f1 f2 f3 f4 f5:List Addr} {d:Ao} {v0 v1 v2 u0 u1 u2:Value}(h:AJ W p lo f0 f1 f2 f3 f4 f5 d v0 v1 v2 u0 u1 u2):Af W (f0 ++(f1 ++(f2 ++(f3 ++(f4 ++ f5))))) (Bg d v0 v1 v2 u0 u1 u2) d:=by
 have:=h.reads;simp only[List.append_assoc]at this;exact this
theorem Af.flat {w:World} {f:List Addr} {cs:List Value} {d:Ao}(h:Af w f cs d):cs.toArray.all Value.oneCell'=true:=by
 obtain⟨v0,v1,v2,v3,v4,v5,f0,f1,f2,f3,f4,f5,e,ef,o0,o1,o2,o3,o4,o5,o6,o7,o8,o9,o10,o11,o12,g0,g1,g2,g3,g4,g5⟩:=h;obtain⟨A0,k0,rfl,-⟩:=rSl.head g0;obtain⟨A1,k1,rfl,-⟩:=rSl.head g1;obtain⟨A2,k2,rfl,-⟩:=rSl.head g2;obtain⟨A3,k3,rfl,-⟩:=rSl.head g3;obtain⟨A4,k4,rfl,-⟩:=rSl.head g4;obtain⟨A5,k5,rfl,-⟩:=rSl.head g5;subst e;simp[Value.oneCell']
theorem AJ.boxed {w4:World} {f4:List Addr} {cs4:List Value} {d:Ao} {lo:Nat}(r4:Af w4 f4 cs4 d)(m4:Ak lo w4 f4)(hl:lo≤w4.heap.size) :
  ∃f0 f1 f2 f3 f4' f5 v0 v1 v2 u0 u1 u2,AJ ((w4.alloc (.cells BP 38)).setCells w4.heap.size 0 cs4) w4.heap.size lo f0 f1 f2 f3 f4' f5 d v0 v1 v2 u0 u1 u2:=by
 have t4:=Af.fixed _ _ _ _ r4;have hl20:cs4.length=20:=Af.wide _ _ _ _ r4;have k:=(Blk.new w4 38 BP).laid cs4 (by rw[hl20];rfl);have r5:=Af.local_ _ _ _ _ _ (Aw.below Af.local_ Af.fixed r4 (Aa (Below.refl _ _) (.cells BP 38))) (CE cs4 w4.heap.size 0 (w4.alloc (.cells BP 38)) (fun a ha => by have:=t4 a ha;omega));have m5:=Ak.setS cs4 w4.heap.size 0 _ (m4.below (Aa (Below.refl _ _) (.cells BP 38)) t4);obtain⟨f0,f1,f2,f3,f4',f5,v0,v1,v2,u0,u1,u2,-,-,h⟩:=AJ.of r5 m5 k hl (fun a ha => by have:=t4 a ha;omega);exact⟨f0,f1,f2,f3,f4',f5,v0,v1,v2,u0,u1,u2,h⟩
theorem Iw(d:Ao)(G g:Nat)(hR:DA d G)(hg:d.desk.turn % (G:Int)=(g:Int))(ht:d.desk.turn<1000000000)(cs:List Value)(f:List Addr)(w:World)(h:Af w f cs d) :
  Calls Tryz.prog 8 #[.agg cs.toArray] w fun e w' =>∃cs' f',e= .returned (.agg (int i64 0 :: int i64 0 :: cs').toArray)∧Af w' f' cs' (AP d (g:Int))∧Ak w.heap.size w' f'∧Below w.heap.size w w':=by
 have hl20:cs.length=20:=Af.wide _ _ _ _ h;obtain⟨W2,hW2⟩:∃W2,(w.alloc (.cells cs.toArray 38)).alloc (.cells #[int i64 0,int i64 0,int i64 0,int i64 0,int i64 0,int i64 0,int i64 0,int i64 0,int i64 0,int i64 0,int i64 0,.slice none 0 0,.slice none 0 0,.slice none 0 0,int i64 0,int i64 0,.bool false,.slice none 0 0,.slice none 0 0,.slice none 0 0,int i64 0,int i64 0] 40)=W2:=⟨_,rfl⟩;have KA:=hid (show Blk W2 w.heap.size 38 cs.toArray by rw[← hW2];exact(Blk.new w _ _).alloc _);have KB:=hid (show Blk W2 (w.heap.size+1) 40 #[int i64 0,int i64 0,int i64 0,int i64 0,int i64 0,int i64 0,int i64 0,int i64 0,int i64 0,int i64 0,int i64 0,.slice none 0 0,.slice none 0 0,.slice none 0 0,int i64 0,int i64 0,.bool false,.slice none 0 0,.slice none 0 0,.slice none 0 0,int i64 0,int i64 0] by rw[← hW2];exact Blk.new1 w _ _ _);have b2:Below w.heap.size w W2:=by rw[← hW2];exact Aa (Aa (Below.refl _ _) _) _
 have HB2:=hid b2;have HS2:=hid (show W2.heap.size=w.heap.size+2 by rw[← hW2];simp);have HRR:=hid (fun(W:World) (hW:Below W2.heap.size W2 W) => Aw.below Af.local_ Af.fixed (Aw.below Af.local_ Af.fixed h b2) hW);have HRG:=hid (fun(W:World) (hW:Below W2.heap.size W2 W) => Blk.range (KA.out.below hW KA.out.lt) 0 cs (show List.take cs.length cs=cs from List.take_length));have hIA:=hid (show(Tryz.prog.info? 38).map (·.size)=some cs.length by rw[hl20];kernel_rfl);obtain⟨t,htt⟩:∃t:Nat,d.desk.turn=(t:Int):=⟨d.desk.turn.toNat,by have:=hR.turn_;omega⟩;have h18:=hid (show cs.toArray[18]? =some (int i64 (t:Int)) by
  obtain⟨c1,c2,g1,g2,rfl,-,hw,hk⟩:=h.parts;obtain⟨v0,v1,v2,q0,q1,q2,rfl,-,-,-⟩:=hw.parts;obtain⟨u0,u1,u2,f3,f4,f5,rfl,-⟩:=hk;rw[← htt];rfl)
 have ht9:((t:Int) == 1000000000)=false:=by
  rw[beq_eq_false_iff_ne];omega
 have HR:=hid hR;have HG:=hid hg;have HT:=hid htt;clear h b2 hR hg ht htt;go_enter Tryz.func8,Tryz.ntmps8
 go_wp2_with (first
  |((try rw[hW2]);refine wpList_load_mid rfl 38 (.tmp 1) rfl w.heap.size 0 rfl cs _ (HRG.out _ (Below.refl _ _)) Tryz.underlying38 rfl hIA.out ?_)
  |(go_at_call 22;refine(I8 d cs f _ (HRR.out _ (Below.refl _ _)) HR.out.code HR.out.dn).mono ?_;rintro e w3 ⟨rfl,b3⟩;have c18:w3.cell? ⟨w.heap.size,18,none⟩=some (int i64 (t:Int)):=((KA.out.below b3 KA.out.lt).cell 18).trans h18.out;have z18:=(KA.out.below b3 KA.out.lt).lt;have B3:=hid b3;clear b3)
  |(refine wpList_load_mid rfl 38 (.tmp 1) rfl w.heap.size 0 rfl cs _ (HRG.out _ B3.out) Tryz.underlying38 rfl hIA.out ?_)
  |(go_at_call 23;refine(Hh d G HR.out.ed HR.out.sm cs f _ (HRR.out _ B3.out)).mono ?_;rintro e w4 ⟨cs4,f4,rfl,r4,m4,b4⟩;have HL4:=hid (show cs4.length=20 from Af.wide _ _ _ _ r4);have HO4:=hid r4.flat;have R4:=hid r4;have M4:=hid m4;have B4:=hid b4;have HI4:=hid (show(Tryz.prog.info? 38).map (·.size)=some cs4.toArray.size by rw[List.size_toArray,Af.wide _ _ _ _ r4];kernel_rfl);clear r4 m4 b4)
  |(refine wpList_store_mid rfl 38 (.tmp 4) (.tmp 19) rfl w4.heap.size 0 cs4.toArray rfl rfl (Blk.there (Blk.new w4 _ BP) cs4.toArray.size (by rw[List.size_toArray,HL4.out];exact Nat.le_refl _)) HI4.out HO4.out ?_))
 obtain⟨f0,f1,f2,f3,f4',f5,v0,v1,v2,u0,u1,u2,hA⟩:=AJ.boxed R4.out M4.out B4.out.size;obtain⟨W5,hW5⟩:∃W5,(w4.alloc (.cells BP 38)).setCells w4.heap.size 0 cs4=W5:=⟨_,rfl⟩;have b5:Below w4.heap.size w4 W5:=by rw[← hW5];exact Below.setCells_ _ _ _ _ (Nat.le_refl _) (Aa (Below.refl _ _) _)
 rw[hW5]at hA⊢;have b35:Below w3.heap.size w3 W5:=B4.out.trans (b5.mono B4.out.size);refine(turn_c w4.heap.size w3.heap.size f0 f1 f2 f3 f4' f5 d v0 v1 v2 u0 u1 u2 G g W5 hA b35.size HR.out.iw HR.out.ed HR.out.hG HR.out.turn_.1 HR.out.turn_.2 HG.out HR.out.on_.2).mono ?_;rintro e w6 ⟨rfl,f1',v1',hA6,b6⟩;have B36:=hid (b35.trans b6);have HA6:=hid hA6;have hl6:(Bg (AP d (g:Int)) v0 v1' v2 u0 u1 u2).length =20:=rfl;have HRG6:=hid (Blk.range hA6.k 0 (Bg (AP d (g:Int)) v0 v1' v2 u0 u1 u2) (show List.take 20 (Bg (AP d (g:Int)) v0 v1' v2 u0 u1 u2)=_ from rfl));have b26:Below W2.heap.size W2 w6:=B3.out.trans (B36.out.mono B3.out.size);have KB6:=hid (KB.out.below b26 KB.out.lt);have HO6:=hid (show((int i64 0 :: int i64 0 :: Bg (AP d (g:Int)) v0 v1' v2 u0 u1 u2:List Value)).toArray.all Value.oneCell'=true by
  have:=hA6.readsR.flat;simpa [Value.oneCell']using this)
 have HB26:=hid b26;clear hW5 b5 b35 hA hA6 b6 b26 R4 M4 B4 HI4 HO4 HL4 hW2;go_wp2_with (first
  |(refine wpList_load_mid rfl 38 (.tmp 4) rfl w4.heap.size 0 rfl (Bg (AP d (g:Int)) v0 v1' v2 u0 u1 u2) _ HRG6.out Tryz.underlying38 rfl (by kernel_rfl) ?_)
  |(go_at_call 25;refine(told_c (AP d (g:Int)) _ _ 0 w6 HA6.out.readsR).mono ?_;rintro e w7 ⟨rfl,b7⟩;have KB7:=hid (KB6.out.below b7 KB6.out.lt);have HTH:=hid (Blk.there KB7.out 22 (by simp));have B7:=hid b7;clear b7)
  |(refine wpList_store_mid rfl 40 (.tmp 2) (.tmp 23) rfl (w.heap.size+1) 0 ((int i64 0 :: int i64 0 :: Bg (AP d (g:Int)) v0 v1' v2 u0 u1 u2:List Value)).toArray rfl rfl HTH.out (by kernel_rfl) HO6.out ?_))
 have K8:=KB7.out.laid (int i64 0 :: int i64 0 :: Bg (AP d (g:Int)) v0 v1' v2 u0 u1 u2) rfl;refine bodyPost_ret (results_cell_row rfl _ _ (w.heap.size+1) 40 ((int i64 0 :: int i64 0 :: Bg (AP d (g:Int)) v0 v1' v2 u0 u1 u2:List Value)).toArray (0,0) _ rfl K8 Tryz.underlying40 rfl (by kernel_rfl)) rfl ?_;have hs:=HS2.out;have hs3:=B3.out.size;have t6:=HA6.out.there;have m7:=HA6.out.m.below B7.out t6;refine⟨Bg (AP d (g:Int)) v0 v1' v2 u0 u1 u2,f0 ++(f1' ++(f2 ++(f3 ++(f4' ++ f5)))),rfl,?_,(Ak.setS _ _ _ _ m7).mono (by omega),?_⟩
 ·exact Af.local_ _ _ _ _ _ (Aw.below Af.local_ Af.fixed HA6.out.readsR B7.out) (CE _ _ 0 _ fun a ha e => by have:=m7.from_ a ha;omega)
 ·exact Below.setCells_ _ _ _ _ (by omega) (HB2.out.trans ((HB26.out.trans (B7.out.mono HB26.out.size)).mono HB2.out.size))
theorem Lq(A:Option Addr)(n c:Nat)(w:World):Calls Tryz.prog 164 #[.slice A n c] w fun e w' => e= .returned (int i64 (n:Int))∧w=w':=by
 go_enter Tryz.func164,Tryz.ntmps164
 go_wp2_with fail
 go_ret
 exact⟨rfl,rfl⟩
theorem downIf_t(w:World):Calls Tryz.prog 150 #[.bool true] w fun e w' => e= .returned (int i64 0)∧w=w':=by
 go_enter Tryz.func150,Tryz.ntmps150
 go_wp2_with fail
 go_ret
 exact⟨rfl,rfl⟩
theorem lwHas_c(v:Value)(xs:List Int)(f:List Addr)(g:Int)(w:World)(h:rSl 1 As w f v xs)(hn:xs.length≤1000000) :
  Calls Tryz.prog 9 #[v,int i64 g] w fun e w' => e= .returned (.bool (decide (g∈xs)))∧w=w':=by
 obtain⟨A,c,rfl,hc,hm,hx⟩:=rSl.at_ As.fixed (by decide) h;obtain⟨n,hN⟩:∃n,xs.length=n:=⟨_,rfl⟩;have hnb:n≤1000000:=by omega
 have HX:=hid hx;have HN:=hid hN;rw[hN];clear h hn hx hc hm hN;go_enter Tryz.func9,Tryz.ntmps9
 go_wp2_with fail
 go_loop [5] (fun i =>∃j:Nat,j≤n∧i= int i64 j∧Hid (∀k,(hk:k<xs.length)→k<j→xs[k]≠g)) (fun i => n - (intOf i).toNat)
 case atStart => exact⟨0,by omega,rfl,fun k hk h => absurd h (Nat.not_lt_zero _)⟩
 case round =>
  obtain⟨j,hj,rfl,HP⟩:=hrel;by_cases hlt:j<n
  ·have hN:=HN.out;obtain⟨ad,b,o,cs,fk,rfl,hat⟩:=HX.out j (by omega);have pl:=hat.place;have cz:=hat.cell 0 (by rw[hat.len];omega);obtain⟨-,rc1,ok⟩:=hat.reads;subst rc1;simp only[Nat.mul_one,Nat.add_zero,List.getElem_cons_zero]at pl cz;obtain⟨x,hx⟩:∃x,xs[j]'(by omega)=x:=⟨_,rfl⟩;rw[hx]at cz;have HXE:=hid hx;have cr:w.cell? (ad.add j)=some (int i64 x):=by rw[pl];exact cz
   clear hat ok hx cz pl;by_cases hq:x=g
   ·subst hq;have hqq:(x == x)=true:=by simp
    go_wp2_with fail
    go_ret
    refine⟨?_,rfl⟩;have:x∈xs:=by rw[← HXE.out];exact List.getElem_mem _
    simp[this]
   ·have hqq:(x == g)=false:=by simpa using hq
    go_wp2_with fail
    go_round
    case rel =>
     refine⟨j+1,by omega,by go_num,fun k hk hkj => ?_⟩;by_cases e:k=j
     ·subst e;rw[HXE.out];exact hq
     ·exact HP.out k hk (by omega)
    case measure => simp[intOf];omega
  ·obtain rfl:j=n:=by omega
   go_wp2_with fail
   go_ret
   refine⟨?_,rfl⟩;have:¬g∈xs:=fun hm => by
    obtain⟨k,hk,e⟩:=List.getElem_of_mem hm;exact HP.out k hk (by have:=HN.out;omega) e
   simp[this]
theorem LZ(p:Nat)(fs:List Addr)(d:Au)(w:World)(h:AtW w p fs d)(h0:Bj d= []) :
  Calls Tryz.prog 102 #[.pointer (some ⟨p,0,none⟩)] w fun e w' => e= .returned (.tuple #[int i64 1,int i64 0])∧Below w.heap.size w w':=by
 have HCT:=hid (CK p fs d w h (by rw[h0];simp));rw[Dl h0]at HCT;clear h h0;go_enter Tryz.func102,Tryz.ntmps102
 go_wp2_with (go_at_call 128;refine HCT.out.mono ?_;rintro e w3 ⟨A5,c5,f5,rfl,r5,-,b5⟩;have B5:=hid b5;clear r5 b5;rw[show([]:List Ag).length =0 from rfl])
 go_ret2
 exact⟨rfl,B5.out⟩
theorem Mi(p:Nat)(fs:List Addr)(d:Au)(w:World)(h:AtW w p fs d)(h0:Bj d= []) :
  Calls Tryz.prog 71 #[.pointer (some ⟨p,0,none⟩)] w fun e w' => e= .returned (int i64 0)∧Below w.heap.size w w':=by
 have HCT:=hid (Jg p fs d w h (by rw[h0];simp) (by rw[Dl h0];intro r hr;cases hr));rw[Dl h0]at HCT;clear h h0;go_enter Tryz.func71,Tryz.ntmps71
 go_wp2_with (go_at_call 75;refine HCT.out.mono ?_;rintro e w3 ⟨L,g5,c5,B,rfl,hL,-,-,-,-,b5⟩;have B5:=hid b5;rw[I9 hL];clear hL b5;rw[show([]:List Ag).length =0 from rfl])
 go_loop [9,3] (fun i v => i= int i64 0∧v= int i64 0) (fun _ _ => 0)
 case atStart => exact⟨rfl,rfl⟩
 case round =>
  obtain⟨rfl,rfl⟩:=hrel;go_wp2_with fail
  go_ret
  exact⟨rfl,B5.out⟩
theorem room_n(p:Nat)(fs:List Addr)(d:Au)(w:World)(h:AtW w p fs d)(h0:Bj d= [])(h2:d.v.length=2) :
  Calls Tryz.prog 103 #[.pointer (some ⟨p,0,none⟩)] w fun e w' => e= .returned (int i64 200)∧Below w.heap.size w w':=by
 obtain⟨b,o,c,A0,A1,c0,c1,q1,q2,q3,l1,l2⟩:=h.tapes0 h0 h2;have HSZ:=hid (fun(A:Option Addr) (c:Nat) (W:World) => Lq A 0 c W);clear h h0 h2;go_enter Tryz.func103,Tryz.ntmps103
 go_wp2_with fail
 go_quiet ((go_at_call 164;exact Calls.quiet_of_same ((HSZ.out _ _ _).mono fun _ _ ⟨a,b⟩ =>⟨a,b.symm⟩)))
 go_wp2_with fail
 go_ret
 exact⟨rfl,by repeat(with_reducible first|exact Below.refl _ _|apply Aa|apply Ai|apply Be)⟩
theorem JB(p b o c2 n:Nat)(A:Option Addr)(bw:Bool)(x:Ag)(cs:List Value)(f:List Addr)(w:World)(hr:Ac w f cs x)(hsm:DM x)(h11:w.cell? ⟨p,11,none⟩=some (.slice (some ⟨b,o,none⟩) 2 c2))(h12:w.cell? ⟨p,12,none⟩=some (int i64 (n:Int)))(h13:w.cell? ⟨p,13,none⟩=some (int i64 (-1)))(e12:w.frozen? ⟨p,12,none⟩=false)(h0:w.cell? ⟨b,o,none⟩=some (.bool bw))(h1:w.cell? ⟨b,o+1,none⟩=some (.slice A 0 0))(e0:w.frozen? ⟨b,o,none⟩=false)(e1:w.frozen? ⟨b,o+1,none⟩=false)(lp:p<w.heap.size)(lb:b<w.heap.size)(hn:n≤1000000000)(hpb:b≠p) :
  Calls Tryz.prog 87 #[.pointer (some ⟨p,0,none⟩),int i64 0,.agg cs.toArray] w fun e w' => e= .returned (.bool true)∧∃w1 A' c' h,Bx ⟨b,o,none⟩ ⟨b,o+1,none⟩ x w w1 A' c' h∧w'=w1.setCell ⟨p,12,none⟩ (int i64 ((n:Int)+1)):=by
 obtain⟨W3,hW3⟩:∃W3,((w.alloc (.cells #[.pointer (some ⟨p,0,none⟩)] 93)).alloc (.cells #[int i64 0] 2)).alloc (.cells cs.toArray 76)=W3:=⟨_,rfl⟩;have K0:Blk W3 w.heap.size 93 #[.pointer (some ⟨p,0,none⟩)]:=by rw[← hW3];exact((Blk.new w _ _).alloc _).alloc _
 have K1:Blk W3 (w.heap.size+1) 2 #[int i64 0]:=by rw[← hW3];exact(Blk.new1 w _ _ _).alloc _
 have K2:Blk W3 (w.heap.size+1+1) 76 cs.toArray:=by rw[← hW3];exact Blk.new2 w _ _ _ _
 have b3:Below w.heap.size w W3:=by rw[← hW3];exact Aa (Aa (Aa (Below.refl _ _) _) _) _
 have B3:=hid b3;have lp3:p<W3.heap.size:=Nat.lt_of_lt_of_le lp b3.size;have HRAW:=hid (raw_c p w.heap.size (w.heap.size+1) (w.heap.size+1+1) n ⟨b,o,none⟩ ⟨b,o+1,none⟩ x W3 ((b3.cell (p:=⟨p,12,none⟩) lp).trans h12) ((b3.cell (p:=⟨p,13,none⟩) lp).trans h13) ((b3.frozen (p:=⟨p,12,none⟩) lp).trans e12) lp3 hn hpb hpb (fun W hW => by
  have hb:Below w.heap.size w W:=b3.trans (hW.mono b3.size);have k0:=K0.below hW K0.lt;have k1:=K1.below hW K1.lt;refine(IM w.heap.size (w.heap.size+1) (w.heap.size+1+1) p b o c2 A bw x cs f W ((k0.cell 0).trans rfl) ((k1.cell 0).trans rfl) (K2.below hW K2.lt) (Aw.below Ac.local_ Ac.fixed hr hb) hsm ((hb.cell (p:=⟨p,11,none⟩) lp).trans h11) ((hb.cell (p:=⟨b,o,none⟩) lb).trans h0) ((hb.cell (p:=⟨b,o+1,none⟩) lb).trans h1) ((hb.frozen (p:=⟨b,o,none⟩) lb).trans e0) ((hb.frozen (p:=⟨b,o+1,none⟩) lb).trans e1) k0.lt k1.lt (Nat.lt_of_lt_of_le lp hb.size) (Nat.lt_of_lt_of_le lb hb.size) (by omega)).mono ?_;rintro e w' ⟨rfl,A',c',h,q1,q2,q3,q4,q5⟩;exact⟨rfl,A',c',h,q1,q2,q3,q4,q5⟩))
 have KC0:W3.cell? ⟨w.heap.size,0,none⟩=some (.pointer (some ⟨p,0,none⟩)):=(K0.cell 0).trans rfl;have z0:=K0.lt;clear hr hsm h11 h12 h13 e12 h0 h1 e0 e1 K0 K1 K2 b3;have hmf:=hmf;go_enter Tryz.func87,Tryz.ntmps87
 go_wp2_with (go_at_call 140;(try rw[hW3]);refine HRAW.out.mono ?_;rintro e w5 ⟨rfl,w1,A',c',h,hl,rfl⟩;have HL:=hid hl;clear hl)
 go_ret
 exact⟨rfl,w1,A',c',h,⟨HL.out.r,HL.out.m.mono B3.out.size,(AC.of_below B3.out).trans HL.out.wr,HL.out.c0,HL.out.c1⟩,rfl⟩
theorem JC(p b o c2 n:Nat)(A:Option Addr)(bw:Bool)(x:Ag)(cs:List Value)(f:List Addr)(w:World)(hr:Ac w f cs x)(hsm:DM x)(h11:w.cell? ⟨p,11,none⟩=some (.slice (some ⟨b,o,none⟩) 2 c2))(h12:w.cell? ⟨p,12,none⟩=some (int i64 (n:Int)))(h13:w.cell? ⟨p,13,none⟩=some (int i64 (-1)))(e12:w.frozen? ⟨p,12,none⟩=false)(h0:w.cell? ⟨b,o+2,none⟩=some (.bool bw))(h1:w.cell? ⟨b,o+2+1,none⟩=some (.slice A 0 0))(e0:w.frozen? ⟨b,o+2,none⟩=false)(e1:w.frozen? ⟨b,o+2+1,none⟩=false)(lp:p<w.heap.size)(lb:b<w.heap.size)(hn:n≤1000000000)(hpb:b≠p) :
  Calls Tryz.prog 87 #[.pointer (some ⟨p,0,none⟩),int i64 1,.agg cs.toArray] w fun e w' => e= .returned (.bool true)∧∃w1 A' c' h,Bx ⟨b,o+2,none⟩ ⟨b,o+2+1,none⟩ x w w1 A' c' h∧w'=w1.setCell ⟨p,12,none⟩ (int i64 ((n:Int)+1)):=by
 obtain⟨W3,hW3⟩:∃W3,((w.alloc (.cells #[.pointer (some ⟨p,0,none⟩)] 93)).alloc (.cells #[int i64 1] 2)).alloc (.cells cs.toArray 76)=W3:=⟨_,rfl⟩;have K0:Blk W3 w.heap.size 93 #[.pointer (some ⟨p,0,none⟩)]:=by rw[← hW3];exact((Blk.new w _ _).alloc _).alloc _
 have K1:Blk W3 (w.heap.size+1) 2 #[int i64 1]:=by rw[← hW3];exact(Blk.new1 w _ _ _).alloc _
 have K2:Blk W3 (w.heap.size+1+1) 76 cs.toArray:=by rw[← hW3];exact Blk.new2 w _ _ _ _
 have b3:Below w.heap.size w W3:=by rw[← hW3];exact Aa (Aa (Aa (Below.refl _ _) _) _) _
 have B3:=hid b3;have lp3:p<W3.heap.size:=Nat.lt_of_lt_of_le lp b3.size;have HRAW:=hid (raw_c p w.heap.size (w.heap.size+1) (w.heap.size+1+1) n ⟨b,o+2,none⟩ ⟨b,o+2+1,none⟩ x W3 ((b3.cell (p:=⟨p,12,none⟩) lp).trans h12) ((b3.cell (p:=⟨p,13,none⟩) lp).trans h13) ((b3.frozen (p:=⟨p,12,none⟩) lp).trans e12) lp3 hn hpb hpb (fun W hW => by
  have hb:Below w.heap.size w W:=b3.trans (hW.mono b3.size);have k0:=K0.below hW K0.lt;have k1:=K1.below hW K1.lt;refine(IN w.heap.size (w.heap.size+1) (w.heap.size+1+1) p b o c2 A bw x cs f W ((k0.cell 0).trans rfl) ((k1.cell 0).trans rfl) (K2.below hW K2.lt) (Aw.below Ac.local_ Ac.fixed hr hb) hsm ((hb.cell (p:=⟨p,11,none⟩) lp).trans h11) ((hb.cell (p:=⟨b,o+2,none⟩) lb).trans h0) ((hb.cell (p:=⟨b,o+2+1,none⟩) lb).trans h1) ((hb.frozen (p:=⟨b,o+2,none⟩) lb).trans e0) ((hb.frozen (p:=⟨b,o+2+1,none⟩) lb).trans e1) k0.lt k1.lt (Nat.lt_of_lt_of_le lp hb.size) (Nat.lt_of_lt_of_le lb hb.size) (by omega)).mono ?_;rintro e w' ⟨rfl,A',c',h,q1,q2,q3,q4,q5⟩;exact⟨rfl,A',c',h,q1,q2,q3,q4,q5⟩))
 have KC0:W3.cell? ⟨w.heap.size,0,none⟩=some (.pointer (some ⟨p,0,none⟩)):=(K0.cell 0).trans rfl;have z0:=K0.lt;clear hr hsm h11 h12 h13 e12 h0 h1 e0 e1 K0 K1 K2 b3;have hmf:=hmf;go_enter Tryz.func87,Tryz.ntmps87
 go_wp2_with (go_at_call 140;(try rw[hW3]);refine HRAW.out.mono ?_;rintro e w5 ⟨rfl,w1,A',c',h,hl,rfl⟩;have HL:=hid hl;clear hl)
 go_ret
 exact⟨rfl,w1,A',c',h,⟨HL.out.r,HL.out.m.mono B3.out.size,(AC.of_below B3.out).trans HL.out.wr,HL.out.c0,HL.out.c1⟩,rfl⟩
structure Fj (w:World) (p b o n:Nat):Prop where
 ex:∃(c2:Nat) (A0 A1:Option Addr) (b0 b1:Bool),w.cell? ⟨p,11,none⟩=some (.slice (some ⟨b,o,none⟩) 2 c2)∧w.cell? ⟨b,o,none⟩=some (.bool b0)∧w.cell? ⟨b,o+1,none⟩=some (.slice A0 0 0)∧w.cell? ⟨b,o+2,none⟩=some (.bool b1)∧w.cell? ⟨b,o+2+1,none⟩=some (.slice A1 0 0)
 n12:w.cell? ⟨p,12,none⟩=some (int i64 (n:Int))
 s13:w.cell? ⟨p,13,none⟩=some (int i64 (-1))
 e12:w.frozen? ⟨p,12,none⟩=false
 f0:w.frozen? ⟨b,o,none⟩=false
 f1:w.frozen? ⟨b,o+1,none⟩=false
 f2:w.frozen? ⟨b,o+2,none⟩=false
 f3:w.frozen? ⟨b,o+2+1,none⟩=false
 lp:p<w.heap.size
 lb:b<w.heap.size
 ne:b≠p
theorem Fj.below {w W:World} {p b o n:Nat}(h:Fj w p b o n)(hb:Below w.heap.size w W):Fj W p b o n:=by
 obtain⟨c2,A0,A1,b0,b1,q1,q2,q3,q4,q5⟩:=h.ex;have lp:=h.lp;have lb:=h.lb;exact⟨⟨c2,A0,A1,b0,b1,(hb.cell (p:=⟨p,11,none⟩) lp).trans q1,(hb.cell (p:=⟨b,o,none⟩) lb).trans q2,(hb.cell (p:=⟨b,o+1,none⟩) lb).trans q3,(hb.cell (p:=⟨b,o+2,none⟩) lb).trans q4,(hb.cell (p:=⟨b,o+2+1,none⟩) lb).trans q5⟩,(hb.cell (p:=⟨p,12,none⟩) lp).trans h.n12,(hb.cell (p:=⟨p,13,none⟩) lp).trans h.s13,(hb.frozen (p:=⟨p,12,none⟩) lp).trans h.e12,(hb.frozen (p:=⟨b,o,none⟩) lb).trans h.f0,(hb.frozen (p:=⟨b,o+1,none⟩) lb).trans h.f1,(hb.frozen (p:=⟨b,o+2,none⟩) lb).trans h.f2,(hb.frozen (p:=⟨b,o+2+1,none⟩) lb).trans h.f3,Nat.lt_of_lt_of_le lp hb.size,Nat.lt_of_lt_of_le lb hb.size,h.ne⟩
structure OneT (w:World) (p b o n:Nat):Prop where
 ex:∃(c2:Nat) (A1:Option Addr) (b1:Bool),w.cell? ⟨p,11,none⟩=some (.slice (some ⟨b,o,none⟩) 2 c2)∧w.cell? ⟨b,o+2,none⟩=some (.bool b1)∧w.cell? ⟨b,o+2+1,none⟩=some (.slice A1 0 0)
 n12:w.cell? ⟨p,12,none⟩=some (int i64 (n:Int))
 s13:w.cell? ⟨p,13,none⟩=some (int i64 (-1))
 e12:w.frozen? ⟨p,12,none⟩=false
 f2:w.frozen? ⟨b,o+2,none⟩=false
 f3:w.frozen? ⟨b,o+2+1,none⟩=false
 lp:p<w.heap.size
 lb:b<w.heap.size
theorem Bx.next {w w1:World} {p b o n:Nat} {x:Ag} {A:Option Addr} {c:Nat} {h:List Addr}(hT:Fj w p b o n)(hl:Bx ⟨b,o,none⟩ ⟨b,o+1,none⟩ x w w1 A c h):OneT (w1.setCell ⟨p,12,none⟩ (int i64 ((n:Int)+1))) p b o (n+1):=by
 obtain⟨c2,A0,A1,b0,b1,q1,q2,q3,q4,q5⟩:=hT.ex;have hne:=hT.ne;have wc:∀a:Addr,a≠⟨b,o,none⟩→a≠⟨b,o+1,none⟩→a.block<w.heap.size→w1.cell? a=w.cell? a:=fun a h1 h2 h3 => hl.wr.cell a (by simp[h1,h2]) h3
 have n12:w1.cell? ⟨p,12,none⟩=some (int i64 (n:Int)):=(wc _ (fun e => hne (by injection e with e;exact e.symm)) (fun e => hne (by injection e with e;exact e.symm)) hT.lp).trans hT.n12;refine⟨⟨c2,A1,b1,?_,?_,?_⟩,?_,?_,?_,?_,?_,?_,?_⟩
 ·rw[World.cell?_setCell_other _ _ _ _ (by simp)];exact(wc _ (fun e => hne (by injection e with e;exact e.symm)) (fun e => hne (by injection e with e;exact e.symm)) hT.lp).trans q1
 ·rw[World.cell?_setCell_other _ _ _ _ (fun e => hne (by injection e with e;exact e.symm))];exact(wc _ (by simp) (by simp) hT.lb).trans q4
 ·rw[World.cell?_setCell_other _ _ _ _ (fun e => hne (by injection e with e;exact e.symm))];exact(wc _ (by simp) (by simp) hT.lb).trans q5
 ·rw[World.cell?_setCell_same _ _ _ n12];simp
 ·rw[World.cell?_setCell_other _ _ _ _ (by simp)];exact(wc _ (fun e => hne (by injection e with e;exact e.symm)) (fun e => hne (by injection e with e;exact e.symm)) hT.lp).trans hT.s13
 ·rw[World.frozen?_setCell];exact(hl.wr.frozen ⟨p,12,none⟩ hT.lp).trans hT.e12
 ·rw[World.frozen?_setCell];exact(hl.wr.frozen ⟨b,o+2,none⟩ hT.lb).trans hT.f2
 ·rw[World.frozen?_setCell];exact(hl.wr.frozen ⟨b,o+2+1,none⟩ hT.lb).trans hT.f3
 ·have:=hl.wr.size;have:=hT.lp;simp[World.setCell];omega
 ·have:=hl.wr.size;have:=hT.lb;simp[World.setCell];omega
theorem Bx.from_ {P0 P1:Addr} {x:Ag} {w w2 w1:World} {A:Option Addr} {c:Nat} {h:List Addr}(hl:Bx P0 P1 x w2 w1 A c h)(hb:Below w.heap.size w w2):Bx P0 P1 x w w1 A c h :=
 ⟨hl.r,hl.m.mono hb.size,(AC.of_below hb).trans hl.wr,hl.c0,hl.c1⟩
theorem layRec_c(p b o n:Nat)(fs:List Addr)(d:Au)(x:Ag)(cs:List Value)(f:List Addr)(w:World)(hA:AtW w p fs d)(h0:Bj d= [])(h2:d.v.length=2)(hT:Fj w p b o n)(hr:Ac w f cs x)(hsm:DM x)(hn:n≤999999999)(hfb:∀a,a∈f→a.block≠b∧a.block≠p) :
  Calls Tryz.prog 91 #[.pointer (some ⟨p,0,none⟩),.agg cs.toArray] w fun e w' => e= .returned (int i64 0)∧∃v1 v2 A c h A' c' h',Bx ⟨b,o,none⟩ ⟨b,o+1,none⟩ x w v1 A c h∧Bx ⟨b,o+2,none⟩ ⟨b,o+2+1,none⟩ x (v1.setCell ⟨p,12,none⟩ (int i64 ((n:Int)+1))) v2 A' c' h'∧w'=v2.setCell ⟨p,12,none⟩ (int i64 (((n+1:Nat):Int)+1)):=by
 have hl9:cs.length=9:=Ac.wide _ _ _ _ hr;obtain⟨Q0,Q1,Q2,q0,q1,q2,rfl⟩:∃(Q0 Q1 Q2:Option Addr) (q0 q1 q2:Nat),cs= [int i64 x.kind,int i64 x.seq,.string x.name,int i64 x.length,int i64 x.group,int i64 x.row,.slice Q0 x.rows.length q0,.slice Q1 x.data.length q1,.slice Q2 x.delta.length q2]:=by
  obtain⟨u0,u1,u2,g0,g1,g2,ec,-,-,-,-,-,-,-,s0,s1,s2⟩:=hr;obtain⟨Q0,q0,rfl,-⟩:=rSl.head s0;obtain⟨Q1,q1,rfl,-⟩:=rSl.head s1;obtain⟨Q2,q2,rfl,-⟩:=rSl.head s2;exact⟨Q0,Q1,Q2,q0,q1,q2,ec⟩
 have b1:Below w.heap.size w (w.alloc (.cells #[int i64 x.kind,int i64 x.seq,.string x.name,int i64 x.length,int i64 x.group,int i64 x.row,.slice Q0 x.rows.length q0,.slice Q1 x.data.length q1,.slice Q2 x.delta.length q2] 76)):=Aa (Below.refl _ _) _;have K1:Blk (w.alloc (.cells #[int i64 x.kind,int i64 x.seq,.string x.name,int i64 x.length,int i64 x.group,int i64 x.row,.slice Q0 x.rows.length q0,.slice Q1 x.data.length q1,.slice Q2 x.delta.length q2] 76)) w.heap.size 76 #[int i64 x.kind,int i64 x.seq,.string x.name,int i64 x.length,int i64 x.group,int i64 x.row,.slice Q0 x.rows.length q0,.slice Q1 x.data.length q1,.slice Q2 x.delta.length q2]:=Blk.new _ _ _;have HRM:=hid (room_n p fs d (w.alloc (.cells #[int i64 x.kind,int i64 x.seq,.string x.name,int i64 x.length,int i64 x.group,int i64 x.row,.slice Q0 x.rows.length q0,.slice Q1 x.data.length q1,.slice Q2 x.delta.length q2] 76)) (hA.below b1) h0 h2);have HT:=hid hT;have HR:=hid hr;have HS:=hid hsm;have HFB:=hid hfb;have HB1:=hid b1;have HK1:=hid K1;clear hA h0 h2 hT hr hsm hfb b1 K1;go_enter Tryz.func91,Tryz.ntmps91
 go_wp2_with (first
  |(go_at_call 103;refine HRM.out.mono ?_;rintro e w2 ⟨rfl,b2⟩;have B2:=hid (HB1.out.trans (b2.mono HB1.out.size));have HK2:=hid (HK1.out.below b2 HK1.out.lt);have HRG2:=hid (Blk.rangeAll (HK1.out.below b2 HK1.out.lt));clear b2)
  |(refine wpList_load_mid rfl 76 (.tmp 3) rfl w.heap.size 0 rfl _ _ HRG2.out Tryz.underlying76 rfl (by kernel_rfl) ?_)
  |(go_at_call 87;go_loud (have HT2:=HT.out.below B2.out;obtain⟨c2,A0,A1,t0,t1,j1,j2,j3,j4,j5⟩:=HT2.ex;refine(JB p b o c2 n A0 t0 x [int i64 x.kind,int i64 x.seq,.string x.name,int i64 x.length,int i64 x.group,int i64 x.row,.slice Q0 x.rows.length q0,.slice Q1 x.data.length q1,.slice Q2 x.delta.length q2] f w2 (Aw.below Ac.local_ Ac.fixed HR.out B2.out) HS.out j1 HT2.n12 HT2.s13 HT2.e12 j2 j3 HT2.f0 HT2.f1 HT2.lp HT2.lb (by omega) HT2.ne).mono ?_;rintro e w3 ⟨rfl,v1,A,c,h,hl,rfl⟩;clear j1 j2 j3 j4 j5 HT2;have HL1:=hid (hl.from_ B2.out);have HN1:=hid ((hl.from_ B2.out).next HT.out);have HWR:=hid (AC.setCell (AC.mono (gs:=[⟨b,o,none⟩,⟨b,o+1,none⟩,⟨p,12,none⟩]) hl.wr (by intro a ha;simp at ha⊢;rcases ha with rfl|rfl <;> simp)) (p:=⟨p,12,none⟩) (by simp) (int i64 ((n:Int)+1)));have k3:Blk (v1.setCell ⟨p,12,none⟩ (int i64 ((n:Int)+1))) w.heap.size 76 #[int i64 x.kind,int i64 x.seq,.string x.name,int i64 x.length,int i64 x.group,int i64 x.row,.slice Q0 x.rows.length q0,.slice Q1 x.data.length q1,.slice Q2 x.delta.length q2]:=(HWR.out.block w.heap.size HK2.out.lt (by intro a ha;have h1:=HT.out.lp;have h2:=HT.out.lb;simp at ha;rcases ha with rfl|rfl|rfl <;> simp <;> omega)).trans HK2.out;have z3:=k3.lt;have y0:(v1.setCell ⟨p,12,none⟩ (int i64 ((n:Int)+1))).cell? ⟨w.heap.size,0,none⟩=some (int i64 x.kind):=(k3.cell 0).trans rfl;have y1:(v1.setCell ⟨p,12,none⟩ (int i64 ((n:Int)+1))).cell? ⟨w.heap.size,1,none⟩=some (int i64 x.seq):=(k3.cell 1).trans rfl;have y2:(v1.setCell ⟨p,12,none⟩ (int i64 ((n:Int)+1))).cell? ⟨w.heap.size,2,none⟩=some (.string x.name):=(k3.cell 2).trans rfl;have y3:(v1.setCell ⟨p,12,none⟩ (int i64 ((n:Int)+1))).cell? ⟨w.heap.size,3,none⟩=some (int i64 x.length):=(k3.cell 3).trans rfl;have y4:(v1.setCell ⟨p,12,none⟩ (int i64 ((n:Int)+1))).cell? ⟨w.heap.size,4,none⟩=some (int i64 x.group):=(k3.cell 4).trans rfl;have y5:(v1.setCell ⟨p,12,none⟩ (int i64 ((n:Int)+1))).cell? ⟨w.heap.size,5,none⟩=some (int i64 x.row):=(k3.cell 5).trans rfl;have y6:(v1.setCell ⟨p,12,none⟩ (int i64 ((n:Int)+1))).cell? ⟨w.heap.size,6,none⟩=some (.slice Q0 x.rows.length q0):=(k3.cell 6).trans rfl;have y7:(v1.setCell ⟨p,12,none⟩ (int i64 ((n:Int)+1))).cell? ⟨w.heap.size,7,none⟩=some (.slice Q1 x.data.length q1):=(k3.cell 7).trans rfl;have y8:(v1.setCell ⟨p,12,none⟩ (int i64 ((n:Int)+1))).cell? ⟨w.heap.size,8,none⟩=some (.slice Q2 x.delta.length q2):=(k3.cell 8).trans rfl;have HR3:=hid (show Ac (v1.setCell ⟨p,12,none⟩ (int i64 ((n:Int)+1))) f [int i64 x.kind,int i64 x.seq,.string x.name,int i64 x.length,int i64 x.group,int i64 x.row,.slice Q0 x.rows.length q0,.slice Q1 x.data.length q1,.slice Q2 x.delta.length q2] x from(by have r2:=Aw.below Ac.local_ Ac.fixed HR.out B2.out;exact Ac.local_ _ _ _ _ _ r2 (HWR.out.same (Ac.fixed _ _ _ _ r2) (fun a ha hm => by have h1:=HFB.out a ha;simp at hm;rcases hm with rfl|rfl|rfl;exact h1.1 rfl;exact h1.1 rfl;exact h1.2 rfl))));clear hl k3))
  |(go_at_call 87;go_loud (obtain⟨c2,A1,t1,j1,j4,j5⟩:=HN1.out.ex;refine(JC p b o c2 (n+1) A1 t1 x [int i64 x.kind,int i64 x.seq,.string x.name,int i64 x.length,int i64 x.group,int i64 x.row,.slice Q0 x.rows.length q0,.slice Q1 x.data.length q1,.slice Q2 x.delta.length q2] f _ HR3.out HS.out j1 HN1.out.n12 HN1.out.s13 HN1.out.e12 j4 j5 HN1.out.f2 HN1.out.f3 HN1.out.lp HN1.out.lb (by omega) HT.out.ne).mono ?_;rintro e w4 ⟨rfl,v2,A2,c2',h2,hl2,rfl⟩;have HL2:=hid hl2;clear hl2 j1 j4 j5))
  |(go_at_call 150;refine(downIf_t _).mono ?_;rintro e w5 ⟨rfl,rfl⟩))
 go_ret
 exact⟨rfl,v1,v2,A,c,h,A2,c2',h2,HL1.out,HL2.out,rfl⟩
theorem LQ(p b o n:Nat)(fs:List Addr)(d:Au)(x:Ag)(cs:List Value)(f:List Addr)(w:World)(hA:AtW w p fs d)(h0:Bj d= [])(h2:d.v.length=2)(hT:Fj w p b o n)(hr:Ac w f cs x)(hsm:DM x)(hn:n≤999999999)(hfb:∀a,a∈f→a.block≠b∧a.block≠p) :
  Calls Tryz.prog 72 #[.pointer (some ⟨p,0,none⟩),.agg cs.toArray] w fun e w' => e= .returned (int i64 0)∧∃v1 v2 A c h A' c' h',Bx ⟨b,o,none⟩ ⟨b,o+1,none⟩ { x with seq:=1 } w v1 A c h∧Bx ⟨b,o+2,none⟩ ⟨b,o+2+1,none⟩ { x with seq:=1 } (v1.setCell ⟨p,12,none⟩ (int i64 ((n:Int)+1))) v2 A' c' h'∧w'=v2.setCell ⟨p,12,none⟩ (int i64 (((n+1:Nat):Int)+1)):=by
 have hr1:∃(Q0 Q1 Q2:Option Addr) (q0 q1 q2:Nat),cs= [int i64 x.kind,int i64 x.seq,.string x.name,int i64 x.length,int i64 x.group,int i64 x.row,.slice Q0 x.rows.length q0,.slice Q1 x.data.length q1,.slice Q2 x.delta.length q2]∧Ac w f [int i64 x.kind,int i64 1,.string x.name,int i64 x.length,int i64 x.group,int i64 x.row,.slice Q0 x.rows.length q0,.slice Q1 x.data.length q1,.slice Q2 x.delta.length q2] { x with seq:=1 }:=by
  obtain⟨u0,u1,u2,g0,g1,g2,ec,ef,k0,k1,k2,k3,k4,k5,s0,s1,s2⟩:=hr;obtain⟨Q0,q0,rfl,-⟩:=rSl.head s0;obtain⟨Q1,q1,rfl,-⟩:=rSl.head s1;obtain⟨Q2,q2,rfl,-⟩:=rSl.head s2;exact⟨Q0,Q1,Q2,q0,q1,q2,ec,⟨_,_,_,g0,g1,g2,rfl,ef,k0,by unfold okI;simp,k2,k3,k4,k5,s0,s1,s2⟩⟩
 obtain⟨Q0,Q1,Q2,q0,q1,q2,rfl,hr'⟩:=hr1;have b1:Below w.heap.size w (w.alloc (.cells #[int i64 x.kind,int i64 x.seq,.string x.name,int i64 x.length,int i64 x.group,int i64 x.row,.slice Q0 x.rows.length q0,.slice Q1 x.data.length q1,.slice Q2 x.delta.length q2] 76)):=Aa (Below.refl _ _) _;have K1:Blk (w.alloc (.cells #[int i64 x.kind,int i64 x.seq,.string x.name,int i64 x.length,int i64 x.group,int i64 x.row,.slice Q0 x.rows.length q0,.slice Q1 x.data.length q1,.slice Q2 x.delta.length q2] 76)) w.heap.size 76 #[int i64 x.kind,int i64 x.seq,.string x.name,int i64 x.length,int i64 x.group,int i64 x.row,.slice Q0 x.rows.length q0,.slice Q1 x.data.length q1,.slice Q2 x.delta.length q2]:=Blk.new _ _ _;have HNS:=hid (LZ p fs d (w.alloc (.cells #[int i64 x.kind,int i64 x.seq,.string x.name,int i64 x.length,int i64 x.group,int i64 x.row,.slice Q0 x.rows.length q0,.slice Q1 x.data.length q1,.slice Q2 x.delta.length q2] 76)) (hA.below b1) h0);have HLR:=hid (fun(W:World) (hW:Below w.heap.size w W) => layRec_c p b o n fs d { x with seq:=1 } [int i64 x.kind,int i64 1,.string x.name,int i64 x.length,int i64 x.group,int i64 x.row,.slice Q0 x.rows.length q0,.slice Q1 x.data.length q1,.slice Q2 x.delta.length q2] f W (hA.below hW) h0 h2 (hT.below hW) (Aw.below Ac.local_ Ac.fixed hr' hW) hsm hn hfb);have HB1:=hid b1;have HK1:=hid K1;clear hA h0 h2 hT hr hr' hsm hfb b1 K1;go_enter Tryz.func72,Tryz.ntmps72
 go_wp2_with fail
 refine HNS.out.mono ?_;rintro e w2 ⟨rfl,b2⟩;have k2:=HK1.out.below b2 HK1.out.lt;have B2:=hid (HB1.out.trans (b2.mono HB1.out.size));have y1:w2.cell? ⟨w.heap.size,1,none⟩=some (int i64 x.seq):=(k2.cell 1).trans rfl;have e1:=k2.frozen 1;have z1:=k2.lt;have HRG:=hid (Blk.range (k2.set_ 1 (int i64 1)) 0 [int i64 x.kind,int i64 1,.string x.name,int i64 x.length,int i64 x.group,int i64 x.row,.slice Q0 x.rows.length q0,.slice Q1 x.data.length q1,.slice Q2 x.delta.length q2] rfl);have HB3:=hid (show Below w.heap.size w (w2.setCell ⟨w.heap.size,1,none⟩ (int i64 1))from B2.out.setCell (Nat.le_refl _) _);clear b2 k2;go_wp2_with (first
  |(refine wpList_load_mid rfl 76 (.tmp 3) rfl w.heap.size 0 rfl _ _ HRG.out Tryz.underlying76 rfl (by kernel_rfl) ?_)
  |(go_at_call 91;refine(HLR.out _ HB3.out).mono ?_;rintro e w4 ⟨rfl,v1,v2,A,c,h,A',c',h',hl1,hl2,rfl⟩;have HL1:=hid (hl1.from_ HB3.out);have HL2:=hid hl2;clear hl1 hl2))
 go_ret
 exact⟨rfl,v1,v2,A,c,h,A',c',h',HL1.out,HL2.out,rfl⟩
end Go.Proofs.YthbljikbnoghcaaGreat
