/-
  FnExactTruthOf: the statement, proved: for every argument the law answers true and leaves what was there as it was.
-/
import Derived.Test.YtfjkoifpdoemdaaGreatJ01
import Derived.Test.YtfjkoifpdoemdaaGreatJ50
import Derived.ProofKit
import Derived.OpenShut
import Derived.ShutString
import Derived.ChangeOld
import Derived.Below
set_option maxHeartbeats 8000000
set_option maxRecDepth 100000
set_option linter.unusedVariables false
set_option linter.unusedSimpArgs false
open Go.Proofs.Tryz
namespace Go.Proofs.YtfjkoifpdoemdaaGreat
open Go.RowKit Go.ChangeShapes Go.WideShapes
theorem cut2(cs:List Value)(a0 a1:Value)(hl:cs.length=2)(h0:(cs.drop 0).take 1= [a0])(h1:(cs.drop 1).take 1= [a1]):cs= [a0,a1]:=by
 match cs,hl with
 | [c0,c1],_ => simp_all
theorem cut9(cs:List Value)(a0 a1 a2 a3 a4 a5 a6 a7 a8:Value)(hl:cs.length=9)(h0:(cs.drop 0).take 1= [a0])(h1:(cs.drop 1).take 1= [a1])(h2:(cs.drop 2).take 1= [a2])(h3:(cs.drop 3).take 1= [a3])(h4:(cs.drop 4).take 1= [a4])(h5:(cs.drop 5).take 1= [a5])(h6:(cs.drop 6).take 1= [a6])(h7:(cs.drop 7).take 1= [a7])(h8:(cs.drop 8).take 1= [a8]):cs= [a0,a1,a2,a3,a4,a5,a6,a7,a8]:=by
 match cs,hl with
 | [c0,c1,c2,c3,c4,c5,c6,c7,c8],_ => simp_all
theorem cutW(cs:List Value)(a0 a1 a2 a3 a4 a5 a6 a7 a8 a9 a10 a11 a12 a13 a14:Value)(hl:cs.length=15)(h0:(cs.drop 0).take 9= [a0,a1,a2,a3,a4,a5,a6,a7,a8])(h9:(cs.drop 9).take 1= [a9])(h10:(cs.drop 10).take 1= [a10])(h11:(cs.drop 11).take 1= [a11])(h12:(cs.drop 12).take 1= [a12])(h13:(cs.drop 13).take 1= [a13])(h14:(cs.drop 14).take 1= [a14]):cs= [a0,a1,a2,a3,a4,a5,a6,a7,a8,a9,a10,a11,a12,a13,a14]:=by
 match cs,hl with
 | [c0,c1,c2,c3,c4,c5,c6,c7,c8,c9,c10,c11,c12,c13,c14],_ => simp_all
theorem No:CF 23 D9:=by
 intro H enc W base spare held fuel cs x h;have hl:cs.length=9:=(DC underlying23 h).trans (by kernel_rfl);obtain⟨_,d0,_,e0,l0⟩:=AW underlying23 h 0 _ rfl (Bw underlying2);obtain⟨_,d1,_,e1,l1⟩:=AW underlying23 h 1 _ rfl (Bw underlying2);obtain⟨_,d2,_,e2,l2⟩:=AW underlying23 h 2 _ rfl (Bw underlying2);obtain⟨_,d3,_,e3,l3⟩:=AW underlying23 h 3 _ rfl (Bw underlying2);obtain⟨_,d4,_,e4,l4⟩:=AW underlying23 h 4 _ rfl (Bw underlying2);obtain⟨_,d5,_,e5,l5⟩:=AW underlying23 h 5 _ rfl (Bw underlying2);obtain⟨_,d6,_,e6,l6⟩:=AW underlying23 h 6 _ rfl (Bw underlying2);obtain⟨_,d7,_,e7,l7⟩:=AW underlying23 h 7 _ rfl (Bw underlying2);obtain⟨_,d8,_,e8,l8⟩:=AW underlying23 h 8 _ rfl (Bw underlying2);exact⟨[],⟨d0,d1,d2,d3,d4,d5,d6,d7,d8⟩,cut9 cs _ _ _ _ _ _ _ _ _ hl e0 e1 e2 e3 e4 e5 e6 e7 e8,rfl,l0,l1,l2,l3,l4,l5,l6,l7,l8⟩
theorem KH:CF 25 (Al 1 Az):=DP underlying25 (by kernel_rfl) (Bw underlying2)
theorem Oc:CF 304 AE:=by
 intro H enc W base spare held fuel cs x h;have hl:cs.length=2:=(DC underlying304 h).trans (by kernel_rfl);obtain⟨_,d0,_,e0,l0⟩:=AW underlying304 h 0 _ rfl (Bw underlying2);obtain⟨f1,d1,v,e1,hb⟩:=AW underlying304 h 1 _ rfl Hl;exact⟨f1,⟨d0,d1⟩,v,f1,cut2 cs _ _ hl e0 e1,rfl,l0,hb⟩
theorem Nm:CF 188 (Al 2 AE):=DP underlying188 (by kernel_rfl) Oc
theorem Od:CF 190 Ak:=by
 intro H enc W base spare held fuel cs x h;have hl:cs.length=2:=(DC underlying190 h).trans (by kernel_rfl);obtain⟨_,d0,_,e0⟩:=AW underlying190 h 0 _ rfl (Iv underlying4);obtain⟨f1,d1,v,e1,hb⟩:=AW underlying190 h 1 _ rfl Nm;exact⟨f1,⟨d0,d1⟩,v,f1,cut2 cs _ _ hl e0 e1,rfl,hb⟩
theorem Nn:CF 131 (Al 2 Ak):=DP underlying131 (by kernel_rfl) Od
theorem Ml:CF 24 (Al 1 (Al 2 Ak)):=DP underlying24 (by kernel_rfl) Nn
theorem Re:CF 268 Ac:=by
 intro H enc W base spare held fuel cs x h;have hl:cs.length=9:=(DC underlying268 h).trans (by kernel_rfl);obtain⟨_,d0,_,e0,l0⟩:=AW underlying268 h 0 _ rfl (Bw underlying2);obtain⟨_,d1,_,e1,l1⟩:=AW underlying268 h 1 _ rfl (Bw underlying2);obtain⟨_,d2,_,e2,l2⟩:=AW underlying268 h 2 _ rfl (Rf underlying9);obtain⟨_,d3,_,e3,l3⟩:=AW underlying268 h 3 _ rfl (Bw underlying2);obtain⟨_,d4,_,e4,l4⟩:=AW underlying268 h 4 _ rfl (Bw underlying2);obtain⟨_,d5,_,e5,l5⟩:=AW underlying268 h 5 _ rfl (Bw underlying2);obtain⟨f6,d6,v6,e6,h6⟩:=AW underlying268 h 6 _ rfl KH;obtain⟨f7,d7,v7,e7,h7⟩:=AW underlying268 h 7 _ rfl Hl;obtain⟨f8,d8,v8,e8,h8⟩:=AW underlying268 h 8 _ rfl Hl;exact⟨f6 ++(f7 ++ f8),⟨d0,d1,d2,d3,d4,d5,d6,d7,d8⟩,v6,v7,v8,f6,f7,f8,cut9 cs _ _ _ _ _ _ _ _ _ hl e0 e1 e2 e3 e4 e5 e6 e7 e8,rfl,l0,l1,l2,l3,l4,l5,h6,h7,h8⟩
theorem Pv:CF 133 (Al 9 Ac):=DP underlying133 (by kernel_rfl) Re
theorem Pw:CF 135 Ay:=by
 intro H enc W base spare held fuel cs x h;have hl:cs.length=2:=(DC underlying135 h).trans (by kernel_rfl);obtain⟨_,d0,_,e0⟩:=AW underlying135 h 0 _ rfl (Iv underlying4);obtain⟨f1,d1,v,e1,hb⟩:=AW underlying135 h 1 _ rfl Pv;exact⟨f1,⟨d0,d1⟩,v,f1,cut2 cs _ _ hl e0 e1,rfl,hb⟩
theorem Oe:CF 26 (Al 2 Ay):=DP underlying26 (by kernel_rfl) Pw
theorem Of:CF 28 AC:=by
 intro H enc W base spare held fuel cs x h;have hl:cs.length=15:=(DC underlying28 h).trans (by kernel_rfl);obtain⟨_,d0,e0,_,l0,l1,l2,l3,l4,l5,l6,l7,l8⟩:=AW underlying28 h 0 _ rfl No;obtain⟨f1,d1,v1,e1,h1⟩:=AW underlying28 h 1 _ rfl Ml;obtain⟨f2,d2,v2,e2,h2⟩:=AW underlying28 h 2 _ rfl KH;obtain⟨f3,d3,v3,e3,h3⟩:=AW underlying28 h 3 _ rfl Oe;obtain⟨_,d4,_,e4,l9⟩:=AW underlying28 h 4 _ rfl (Bw underlying2);obtain⟨_,d5,_,e5,l10⟩:=AW underlying28 h 5 _ rfl (Bw underlying2);obtain⟨_,d6,_,e6⟩:=AW underlying28 h 6 _ rfl (Iv underlying4);exact⟨f1 ++(f2 ++ f3),⟨d0,d1,d2,d3,d4,d5,d6⟩,v1,v2,v3,f1,f2,f3,cutW cs _ _ _ _ _ _ _ _ _ _ _ _ _ _ _ hl e0 e1 e2 e3 e4 e5 e6,rfl,l0,l1,l2,l3,l4,l5,l6,l7,l8,l9,l10,h1,h2,h3⟩
theorem lawTu_w {v:Value} {fs:List Addr} {d:Am} {W:World}(h:∃cs:Array Value,v= .agg cs∧AC W fs cs.toList d) :
  Calls prog 7 #[v] W fun e w' => e= .returned (.bool true)∧Below W.heap.size W w':=by
 obtain⟨⟨cs⟩,rfl,h⟩:=h;exact Nb d cs fs W h
end Go.Proofs.YtfjkoifpdoemdaaGreat
namespace Go.Proofs.YtfjkoifpdoemdaaGreat.fnExactTruthOf
open Go.ChangeShapes Go.WideShapes Go.ChangeAt Go.RowKit
open Go.ChangeMaps (open_string shut_string)
set_option linter.unusedVariables false
theorem lifted(os:Os)(started:os.Started)(H:Type)(enc:TypeId × Value→H) :
  ReturnsInHanded {} Tryz.checked os 7 .any (Rows.fnExactTruthOfSpec.pre6 enc prog Tryz.f7 Rows.fnExactTruthOfRow.domain false) (Rows.fnExactTruthOfSpec.post enc prog Tryz.f7 false true false false):=by
 refine returnsInHanded_of_change (C:=Tryz.checked) Tryz.own started (by kernel_rfl) func7
  (ChangeSpec.witness6 (enc:=enc) (C:=Tryz.checked) false ⟨#[],#[.agg #[.int .i64 0,.int .i64 0,.int .i64 0,.int .i64 0,.int .i64 0,.int .i64 0,.int .i64 0,.int .i64 0,.int .i64 0,.slice none 0 0,.slice none 0 0,.slice none 0 0,.int .i64 0,.int .i64 0,.bool false]],[]⟩ 8 (by kernel_rfl) (by kernel_rfl) (by kernel_rfl) (by kernel_rfl)) ?_
 intro W base args ds gs before hval0 hW hcnd _;have hval:∀(j:Nat) t v,Tryz.f7.params[j]? =some t→args[j]? =some v→Value.okWide prog W .any base t v:=hval0;have hW':=hW;obtain⟨p,q,hA0,hV,rfl,hfz,hnd⟩:=hW;have hA:DataW.TrodAll enc prog W 0 (fun _ => true) true Tryz.f7.params.toList args.toList ds p:=hA0;rw[Tryz.params7]at hA hval;obtain⟨v0,vs0,d0,ds0,p0,q0,hargs,rfl,rfl,h0,r0⟩:=trodAll_cons hA;obtain⟨rfl,rfl,rfl⟩:=trodAll_nil r0;obtain rfl:args= #[v0]:=by cases args;simp_all
 obtain⟨rfl,rfl⟩:=trodVars_none hV;have k0:=h0;have lt0:∀x∈p0,x.block<W.heap.size:=by obtain⟨m,hm⟩:=k0;exact DataW.trod_lt m _ _ _ hm
 obtain⟨fs0,x0,w0⟩:=OL underlying28 Of (hval 0 28 v0 rfl rfl) h0;clear hA0 hval0;refine(lawTu_w (W:=W) w0).mono fun e W' ⟨he,bel⟩ => ?_
 subst he;exact⟨_,rfl,_,_,_,[],_,[],hW',trodAll_mk1 (shut_bool underlying4 _),(trodAll_cons_mk (Below.trod Tryz.laidOut (by kernel_rfl) (bO (by kernel_rfl)) k0 bel lt0) trodAll_mk0),rfl,bel.frame _,fun h => by cases h⟩
theorem proved:Rows.FnExactTruthOfSaid :=
 OpenClaim.holds_of_wide 7 Tryz.f7 rfl rfl rfl rfl rfl rfl rfl ⟨rfl,rfl,rfl,rfl,rfl⟩ rfl rfl rfl rfl rfl (by as_aux_lemma => kernel_rfl) func7 (by as_aux_lemma => kernel_rfl)
  (bO (by as_aux_lemma => kernel_rfl)) (by unfold Func.isWrapper;first|(rw[aL (by as_aux_lemma => decide +kernel)];as_aux_lemma => kernel_rfl)|(rw[aI (by as_aux_lemma => decide +kernel)];exact⟨rfl,rfl⟩))
  (fun os started H enc _ => lifted os started H enc)
#print axioms proved
end Go.Proofs.YtfjkoifpdoemdaaGreat.fnExactTruthOf
