/-
  FnExactTrueRow: the statement, proved: for every argument the law answers true and leaves what was there as it was.
-/
import Derived.Test.YtfjkoifpdoemdaaGreatT01
import Derived.Test.YtfjkoifpdoemdaaGreatT41
import Derived.ProofKit
import Derived.OpenShut
import Derived.ShutString
import Derived.ChangeOld
import Derived.Below
set_option maxHeartbeats 8000000
set_option maxRecDepth 100000
set_option linter.unusedVariables false
set_option linter.unusedSimpArgs false
namespace Go.Proofs.YtfjkoifpdoemdaaGreat
open Go.RowKit Go.ChangeShapes Go.WideShapes
open Go.Lib (hid)
theorem cut2(cs:List Value)(a0 a1:Value)(hl:cs.length=2)(h0:(cs.drop 0).take 1= [a0])(h1:(cs.drop 1).take 1= [a1]):cs= [a0,a1]:=by
 match cs,hl with
 | [c0,c1],_ => simp_all
theorem cut9(cs:List Value)(a0 a1 a2 a3 a4 a5 a6 a7 a8:Value)(hl:cs.length=9)(h0:(cs.drop 0).take 1= [a0])(h1:(cs.drop 1).take 1= [a1])(h2:(cs.drop 2).take 1= [a2])(h3:(cs.drop 3).take 1= [a3])(h4:(cs.drop 4).take 1= [a4])(h5:(cs.drop 5).take 1= [a5])(h6:(cs.drop 6).take 1= [a6])(h7:(cs.drop 7).take 1= [a7])(h8:(cs.drop 8).take 1= [a8]):cs= [a0,a1,a2,a3,a4,a5,a6,a7,a8]:=by
 match cs,hl with
 | [c0,c1,c2,c3,c4,c5,c6,c7,c8],_ => simp_all
theorem cutW(cs:List Value)(a0 a1 a2 a3 a4 a5 a6 a7 a8 a9 a10 a11 a12 a13 a14:Value)(hl:cs.length=15)(h0:(cs.drop 0).take 9= [a0,a1,a2,a3,a4,a5,a6,a7,a8])(h9:(cs.drop 9).take 1= [a9])(h10:(cs.drop 10).take 1= [a10])(h11:(cs.drop 11).take 1= [a11])(h12:(cs.drop 12).take 1= [a12])(h13:(cs.drop 13).take 1= [a13])(h14:(cs.drop 14).take 1= [a14]):cs= [a0,a1,a2,a3,a4,a5,a6,a7,a8,a9,a10,a11,a12,a13,a14]:=by
 match cs,hl with
 | [c0,c1,c2,c3,c4,c5,c6,c7,c8,c9,c10,c11,c12,c13,c14],_ => simp_all
theorem Lg:Cw 23 DQ:=by
 intro H enc W base spare held fuel cs x h;have hl:cs.length=9:=(Dn Tryz.underlying23 h).trans (by kernel_rfl);obtain⟨_,d0,_,e0,l0⟩:=AT Tryz.underlying23 h 0 _ rfl (Bt Tryz.underlying2);obtain⟨_,d1,_,e1,l1⟩:=AT Tryz.underlying23 h 1 _ rfl (Bt Tryz.underlying2);obtain⟨_,d2,_,e2,l2⟩:=AT Tryz.underlying23 h 2 _ rfl (Bt Tryz.underlying2);obtain⟨_,d3,_,e3,l3⟩:=AT Tryz.underlying23 h 3 _ rfl (Bt Tryz.underlying2);obtain⟨_,d4,_,e4,l4⟩:=AT Tryz.underlying23 h 4 _ rfl (Bt Tryz.underlying2);obtain⟨_,d5,_,e5,l5⟩:=AT Tryz.underlying23 h 5 _ rfl (Bt Tryz.underlying2);obtain⟨_,d6,_,e6,l6⟩:=AT Tryz.underlying23 h 6 _ rfl (Bt Tryz.underlying2);obtain⟨_,d7,_,e7,l7⟩:=AT Tryz.underlying23 h 7 _ rfl (Bt Tryz.underlying2);obtain⟨_,d8,_,e8,l8⟩:=AT Tryz.underlying23 h 8 _ rfl (Bt Tryz.underlying2);exact⟨[],⟨d0,d1,d2,d3,d4,d5,d6,d7,d8⟩,cut9 cs _ _ _ _ _ _ _ _ _ hl e0 e1 e2 e3 e4 e5 e6 e7 e8,rfl,l0,l1,l2,l3,l4,l5,l6,l7,l8⟩
theorem JJ:Cw 25 (Aj 1 Ar):=Dy Tryz.underlying25 (by kernel_rfl) (Bt Tryz.underlying2)
theorem MH:Cw 304 AB:=by
 intro H enc W base spare held fuel cs x h;have hl:cs.length=2:=(Dn Tryz.underlying304 h).trans (by kernel_rfl);obtain⟨_,d0,_,e0,l0⟩:=AT Tryz.underlying304 h 0 _ rfl (Bt Tryz.underlying2);obtain⟨f1,d1,v,e1,hb⟩:=AT Tryz.underlying304 h 1 _ rfl GJ;exact⟨f1,⟨d0,d1⟩,v,f1,cut2 cs _ _ hl e0 e1,rfl,l0,hb⟩
theorem Lq:Cw 188 (Aj 2 AB):=Dy Tryz.underlying188 (by kernel_rfl) MH
theorem Mj:Cw 190 Ai:=by
 intro H enc W base spare held fuel cs x h;have hl:cs.length=2:=(Dn Tryz.underlying190 h).trans (by kernel_rfl);obtain⟨_,d0,_,e0⟩:=AT Tryz.underlying190 h 0 _ rfl (Hi Tryz.underlying4);obtain⟨f1,d1,v,e1,hb⟩:=AT Tryz.underlying190 h 1 _ rfl Lq;exact⟨f1,⟨d0,d1⟩,v,f1,cut2 cs _ _ hl e0 e1,rfl,hb⟩
theorem Lc:Cw 131 (Aj 2 Ai):=Dy Tryz.underlying131 (by kernel_rfl) Mj
theorem KR:Cw 24 (Aj 1 (Aj 2 Ai)):=Dy Tryz.underlying24 (by kernel_rfl) Lc
theorem OU:Cw 268 Aa:=by
 intro H enc W base spare held fuel cs x h;have hl:cs.length=9:=(Dn Tryz.underlying268 h).trans (by kernel_rfl);obtain⟨_,d0,_,e0,l0⟩:=AT Tryz.underlying268 h 0 _ rfl (Bt Tryz.underlying2);obtain⟨_,d1,_,e1,l1⟩:=AT Tryz.underlying268 h 1 _ rfl (Bt Tryz.underlying2);obtain⟨_,d2,_,e2,l2⟩:=AT Tryz.underlying268 h 2 _ rfl (Pc Tryz.underlying9);obtain⟨_,d3,_,e3,l3⟩:=AT Tryz.underlying268 h 3 _ rfl (Bt Tryz.underlying2);obtain⟨_,d4,_,e4,l4⟩:=AT Tryz.underlying268 h 4 _ rfl (Bt Tryz.underlying2);obtain⟨_,d5,_,e5,l5⟩:=AT Tryz.underlying268 h 5 _ rfl (Bt Tryz.underlying2);obtain⟨f6,d6,v6,e6,h6⟩:=AT Tryz.underlying268 h 6 _ rfl JJ;obtain⟨f7,d7,v7,e7,h7⟩:=AT Tryz.underlying268 h 7 _ rfl GJ;obtain⟨f8,d8,v8,e8,h8⟩:=AT Tryz.underlying268 h 8 _ rfl GJ;exact⟨f6 ++(f7 ++ f8),⟨d0,d1,d2,d3,d4,d5,d6,d7,d8⟩,v6,v7,v8,f6,f7,f8,cut9 cs _ _ _ _ _ _ _ _ _ hl e0 e1 e2 e3 e4 e5 e6 e7 e8,rfl,l0,l1,l2,l3,l4,l5,h6,h7,h8⟩
theorem N5:Cw 133 (Aj 9 Aa):=Dy Tryz.underlying133 (by kernel_rfl) OU
theorem Nw:Cw 135 Ap:=by
 intro H enc W base spare held fuel cs x h;have hl:cs.length=2:=(Dn Tryz.underlying135 h).trans (by kernel_rfl);obtain⟨_,d0,_,e0⟩:=AT Tryz.underlying135 h 0 _ rfl (Hi Tryz.underlying4);obtain⟨f1,d1,v,e1,hb⟩:=AT Tryz.underlying135 h 1 _ rfl N5;exact⟨f1,⟨d0,d1⟩,v,f1,cut2 cs _ _ hl e0 e1,rfl,hb⟩
theorem MG:Cw 26 (Aj 2 Ap):=Dy Tryz.underlying26 (by kernel_rfl) Nw
theorem MO:Cw 28 Az:=by
 intro H enc W base spare held fuel cs x h;have hl:cs.length=15:=(Dn Tryz.underlying28 h).trans (by kernel_rfl);obtain⟨_,d0,e0,_,l0,l1,l2,l3,l4,l5,l6,l7,l8⟩:=AT Tryz.underlying28 h 0 _ rfl Lg;obtain⟨f1,d1,v1,e1,h1⟩:=AT Tryz.underlying28 h 1 _ rfl KR;obtain⟨f2,d2,v2,e2,h2⟩:=AT Tryz.underlying28 h 2 _ rfl JJ;obtain⟨f3,d3,v3,e3,h3⟩:=AT Tryz.underlying28 h 3 _ rfl MG;obtain⟨_,d4,_,e4,l9⟩:=AT Tryz.underlying28 h 4 _ rfl (Bt Tryz.underlying2);obtain⟨_,d5,_,e5,l10⟩:=AT Tryz.underlying28 h 5 _ rfl (Bt Tryz.underlying2);obtain⟨_,d6,_,e6⟩:=AT Tryz.underlying28 h 6 _ rfl (Hi Tryz.underlying4);exact⟨f1 ++(f2 ++ f3),⟨d0,d1,d2,d3,d4,d5,d6⟩,v1,v2,v3,f1,f2,f3,cutW cs _ _ _ _ _ _ _ _ _ _ _ _ _ _ _ hl e0 e1 e2 e3 e4 e5 e6,rfl,l0,l1,l2,l3,l4,l5,l6,l7,l8,l9,l10,h1,h2,h3⟩
theorem lawTr_w {v:Value} {fs:List Addr} {d:Am} {g row:Int} {W:World}(h:∃cs:Array Value,v= .agg cs∧Az W fs cs.toList d)(_:(Lit.int .i64 g).wf =true)(_:(Lit.int .i64 row).wf =true) :
  Calls Tryz.prog 4 #[v,.int .i64 g,.int .i64 row] W fun e w' => e= .returned (.bool true)∧Below W.heap.size W w':=by
 obtain⟨⟨cs⟩,rfl,h⟩:=h;exact LQ d g row cs fs W h
end Go.Proofs.YtfjkoifpdoemdaaGreat
namespace Go.Proofs.YtfjkoifpdoemdaaGreat.fnExactTrueRow
open Go.ChangeShapes Go.WideShapes Go.ChangeAt Go.RowKit
open Go.ChangeMaps (open_string shut_string)
set_option linter.unusedVariables false
theorem lifted(os:Os)(started:os.Started)(H:Type)(enc:TypeId × Value→H) :
  ReturnsInHanded {} Tryz.checked os 4 .any (Rows.fnExactTrueRowSpec.pre6 enc Tryz.prog Tryz.f4 Rows.fnExactTrueRowRow.domain false) (Rows.fnExactTrueRowSpec.post enc Tryz.prog Tryz.f4 false true false false):=by
 refine returnsInHanded_of_change (C:=Tryz.checked) Tryz.own started (by kernel_rfl) Tryz.func4
  (ChangeSpec.witness6 (enc:=enc) (C:=Tryz.checked) false ⟨#[],#[.agg #[.int .i64 0,.int .i64 0,.int .i64 0,.int .i64 0,.int .i64 0,.int .i64 0,.int .i64 0,.int .i64 0,.int .i64 0,.slice none 0 0,.slice none 0 0,.slice none 0 0,.int .i64 0,.int .i64 0,.bool false],.int .i64 0,.int .i64 0],[]⟩ 8 (by kernel_rfl) (by kernel_rfl) (by kernel_rfl) (by kernel_rfl)) ?_
 intro W base args ds gs before hval0 hW hcnd _;have hval:∀(j:Nat) t v,Tryz.f4.params[j]? =some t→args[j]? =some v→Value.okWide Tryz.prog W .any base t v:=hval0;have hW':=hW;obtain⟨p,q,hA0,hV,rfl,hfz,hnd⟩:=hW;have hA:DataW.TrodAll enc Tryz.prog W 0 (fun _ => true) true Tryz.f4.params.toList args.toList ds p:=hA0;rw[Tryz.params4]at hA hval;obtain⟨v0,vs0,d0,ds0,p0,q0,hargs,rfl,rfl,h0,r0⟩:=trodAll_cons hA;obtain⟨v1,vs1,d1,ds1,p1,q1,rfl,rfl,rfl,h1,r1⟩:=trodAll_cons r0;obtain⟨v2,vs2,d2,ds2,p2,q2,rfl,rfl,rfl,h2,r2⟩:=trodAll_cons r1;obtain⟨rfl,rfl,rfl⟩:=trodAll_nil r2;obtain rfl:args= #[v0,v1,v2]:=by cases args;simp_all
 obtain⟨rfl,rfl⟩:=trodVars_none hV;have k0:=h0;have lt0:∀x∈p0,x.block<W.heap.size:=by obtain⟨m,hm⟩:=k0;exact DataW.trod_lt m _ _ _ hm
 have k1:=h1;have lt1:∀x∈p1,x.block<W.heap.size:=by obtain⟨m,hm⟩:=k1;exact DataW.trod_lt m _ _ _ hm
 have k2:=h2;have lt2:∀x∈p2,x.block<W.heap.size:=by obtain⟨m,hm⟩:=k2;exact DataW.trod_lt m _ _ _ hm
 obtain⟨fs0,x0,w0⟩:=NQ Tryz.underlying28 MO (hval 0 28 v0 rfl rfl) h0;obtain⟨x1,rfl,rfl,rfl,w1⟩:=open_int Tryz.underlying2 (hval 1 2 v1 rfl rfl) h1;obtain⟨x2,rfl,rfl,rfl,w2⟩:=open_int Tryz.underlying2 (hval 2 2 v2 rfl rfl) h2;clear hA0 hval0;refine(lawTr_w (W:=W) w0 w1 w2).mono fun e W' ⟨he,bel⟩ => ?_
 subst he;exact⟨_,rfl,_,_,_,[],_,[],hW',trodAll_mk1 (shut_bool Tryz.underlying4 _),(trodAll_cons_mk (Below.trod Tryz.laidOut (by kernel_rfl) (of_decide_eq_true (by kernel_rfl)) k0 bel lt0) (trodAll_cons_mk (Below.trod Tryz.laidOut (by kernel_rfl) (of_decide_eq_true (by kernel_rfl)) k1 bel lt1) (trodAll_cons_mk (Below.trod Tryz.laidOut (by kernel_rfl) (of_decide_eq_true (by kernel_rfl)) k2 bel lt2) trodAll_mk0))),rfl,bel.frame _,fun h => by cases h⟩
theorem proved:Rows.FnExactTrueRowSaid :=
 OpenClaim.holds_of_wide 4 Tryz.f4 rfl rfl rfl rfl rfl rfl rfl ⟨rfl,rfl,rfl,rfl,rfl⟩ rfl rfl rfl rfl rfl (by as_aux_lemma => kernel_rfl) Tryz.func4 (by as_aux_lemma => kernel_rfl)
  (of_decide_eq_true (by as_aux_lemma => kernel_rfl)) (by unfold Func.isWrapper;first|(rw[if_pos (by as_aux_lemma => decide +kernel)];as_aux_lemma => kernel_rfl)|(rw[if_neg (by as_aux_lemma => decide +kernel)];exact⟨rfl,rfl⟩))
  (fun os started H enc _ => lifted os started H enc)
#print axioms proved
end Go.Proofs.YtfjkoifpdoemdaaGreat.fnExactTrueRow
