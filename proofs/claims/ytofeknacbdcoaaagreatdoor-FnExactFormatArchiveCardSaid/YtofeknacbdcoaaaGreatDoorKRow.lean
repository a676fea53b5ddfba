/-
  FnExactFormatArchive: the statement, proved: for every argument the law answers true and leaves what was there as it was.
-/
import Derived.Test.YtofeknacbdcoaaaGreatDoorK30
import Derived.Test.YtofeknacbdcoaaaGreatDoorTie
import Derived.Test.YtofeknacbdcoaaaGreatDoorCards
import Derived.ProofKit
import Derived.OpenShut
import Derived.ShutString
import Derived.ChangeOld
import Derived.Below
import Derived.LaidMore
import Derived.Lay
import Derived.SevenTiedAt
import Derived.Stop.Joined
import Derived.HandedShaped
import Derived.Lib.LaidTab
set_option maxHeartbeats 8000000
set_option maxRecDepth 100000
set_option linter.unusedVariables false
set_option linter.unusedSimpArgs false
open Go.Proofs.Tryz
open Go.Value (int)
open Go.IntKind (i64)
namespace Go.Proofs.YtofeknacbdcoaaaGreatDoor.fnExactFormatArchive
open Go.ChangeShapes Go.WideShapes Go.ChangeAt Go.RowKit
open Go.ChangeMaps (open_string shut_string)
set_option linter.unusedVariables false
theorem own:ownKnob prog.godebug=none:=by kernel_rfl
theorem laidOut:laidOutB prog=true:=by kernel_rfl
theorem wrap {H:Type}{enc:TypeId × Value->H}{a:Assume}{C:Checked}{os:Os}{f:FuncId}{u}{s:ChangeSpec}{o:List PathCond}{apart p h n}{X:World->Array Value->Prop}(own:ownKnob C.prog.godebug=none)(q:os.Started)(x:C.prog.inits.idxOf? f=none)(ad:C.prog.funcs[f]? =some u)(r:∃(w:World) (tape:Tape) (i:Input),w.os=os/\(w.forCall tape i).Shaped C.prog/\i.vars= []/\Input.okWide C.prog (w.forCall tape i) .any w f i/\
   ((s.pre enc C.prog u o apart (w.forCall tape i).memory i.args/\X (w.forCall tape i).memory i.args)/\sizedMet enc C.prog u (OpenSpec.ofChange s) apart (w.forCall tape i).memory i.args)/\a.holds C.prog (lone (Frame.enter C.prog f i.args .normal) [] (w.forCall tape i)))(l:∀(W:World) (base:Nat) (args:Array Value) (ds gs:List (DataW H)) (c:List MemPlace),
   (∀(j:Nat) t v,u.params[j]? =some t->args[j]? =some v->Value.okWide C.prog W .any base t v)->
   DataW.Whole enc C.prog u.params.toList s.vars apart W args.toList ds gs c->
   X W.memory args->
   Calls C.prog f args W fun e W' =>∃v,e= .returned v/\s.post enc C.prog u apart p h n W args v W'):
  ReturnsInHanded a C os f .any (fun w args =>(s.pre enc C.prog u o apart w args/\X w args)/\sizedMet enc C.prog u (OpenSpec.ofChange s) apart w args) (s.post enc C.prog u apart p h n):=by
 refine returnsInHanded_of_calls own q x r ?_;intro w tape i _ ag _ ae z ab;obtain⟨_,_,_,ac,y,_,_,_,_,aa⟩:=ae;have e:ac=u:=Option.some.inj (y.symm.T ad);subst e;obtain⟨⟨⟨ds,gs,c,hw,hc⟩,hx⟩,hz⟩:=z;have af:=DataW.Whole.of_heap (w':=w.forCall tape i) zT hw;refine(l (w.forCall tape i) w i.args ds gs c aa af hx).M fun e W' ⟨v,he,hp⟩ => ?_
 subst he;exact ChangeSpec.post_blind hp
theorem OS {P:Program}{x:String × DataW Unit}{r:List (String × DataW Unit)}{w:World}(h:laidMet P (x :: r) w):laidMet P r w:=by
 obtain⟨i,⟨g,t,cs,e,p,q,-,-,-,-,hq,rfl⟩,hn,f⟩:=h;exact⟨q,hq,(List.nodup_append.1 hn).2.1,fun b c hb => f b c (bO _ hb)⟩
theorem tab_of {W:World}(h:laidMetH prog Rows.fnExactFormatArchiveRow.laid W.memory):Tab W:=by
 rw[MakeChecks.laidMetH_plain _ _ _ zY]at h;have c:=OS (OS h)
 exact Lib.tabIs_of_head (P := prog) (W := W.memory) (name := "internal/strconv.uint64pow10") (k := .u64) (zs := Lib.pow10Tab) (rest := []) (g := 0) (t := 262) (e := 219) (n := 20) zY zY underlying262 underlying219 zY zY c
theorem lifted(os:Os)(f:os.Started)(H:Type)(enc:TypeId × Value->H):
  ReturnsInHanded {} Tryz.checked os 3 .any (fun w args =>(Rows.fnExactFormatArchiveSpec.pre enc prog Tryz.f3 Rows.fnExactFormatArchiveRow.domain false w args/\laidMetH prog Rows.fnExactFormatArchiveRow.laid w)/\sizedMet enc prog Tryz.f3 (OpenSpec.ofChange Rows.fnExactFormatArchiveSpec) false w args)
   (Rows.fnExactFormatArchiveSpec.post enc prog Tryz.f3 false true false false):=by
 refine wrap (C:=Tryz.checked) (X:=fun w _ => laidMetH prog Rows.fnExactFormatArchiveRow.laid w) own f zY func3
  (ChangeSpec.witness_shaped (enc:=enc) (C:=Tryz.checked) (os:=os) (X:=fun w _ => laidMetH prog Rows.fnExactFormatArchiveRow.laid w) false (World.laidAll prog os Rows.fnExactFormatArchiveRow.laid) #[.agg yU] 8 (World.laidAll_os _ _ _)
   (World.shaped_of_ZipB zY zY) zY zY zY
   (by rw[MakeChecks.laidMetH_plain _ _ _ zY];exact laidMet_laidAll _ zY zY)) ?_
 intro W base args ds gs n c z hx;have i:∀(j:Nat) t v,Tryz.f3.params[j]? =some t->args[j]? =some v->Value.okWide prog W .any base t v:=c;have o:=z;obtain⟨p,q,l,hV,rfl,ac,ad⟩:=z;have y:DataW.TrodAll enc prog W 0 (fun _ => true) true Tryz.f3.params.toList args.toList ds p:=l;rw[Tryz.params3]at y i;obtain⟨v0,ae,d0,aa,p0,q0,r,rfl,rfl,u,r0⟩:=trodAll_cons y;obtain⟨rfl,rfl,rfl⟩:=trodAll_nil r0;obtain rfl:args= #[v0]:=by cases args;simp_all
 obtain⟨rfl,rfl⟩:=trodVars_none hV;have k0:=u;have s:∀x∈p0,x.block<W.heap.size:=by obtain⟨m,hm⟩:=k0;exact DataW.trod_lt m _ _ _ hm
 obtain⟨ab,x0,w0⟩:=Re underlying35 NP (i 0 35 v0 rfl rfl) u;clear l c;have hT:Tab W:=tab_of hx;refine(lawFm_w (W:=W) w0 hT).M fun e W' ⟨he,bel⟩ => ?_
 subst he;exact⟨_,rfl,_,_,_,[],_,[],o,trodAll_mk1 (shut_bool underlying4 _),(trodAll_cons_mk (Below.trod laidOut zY (bE zY) k0 bel s) trodAll_mk0),rfl,bel.frame _,fun h => by cases h⟩
theorem holds:Rows.FnExactFormatArchiveSaid :=
 OpenClaim.holds_of_wide 3 Tryz.f3 rfl rfl rfl rfl rfl rfl rfl ⟨rfl,rfl,rfl,rfl,rfl⟩ rfl rfl rfl rfl rfl (by as_aux_lemma => kernel_rfl) func3 closed
  (bE (by as_aux_lemma => kernel_rfl)) (by unfold Func.isWrapper;first|(rw[aM (by as_aux_lemma => decide +kernel)];as_aux_lemma => kernel_rfl)|(rw[aJ (by as_aux_lemma => decide +kernel)];exact⟨rfl,rfl⟩))
  (fun os c H e _ => lifted os c H e)
theorem proved:Rows.FnExactFormatArchiveCardSaid :=
 Claim7.holds_tied_plain_at .later [] [.data,.data,.data] true (true,"cacc2b2b40f6a353b15e26fc5ba630ab50d00ebb264231f349e2058f6c87a419") false holds (fun _ h => by cases h) zY (fun _ h => by cases h) fnExactFormatArchive_row_tie rfl ⟨rfl,rfl⟩ zY rfl
  (fun f l n e => by
   obtain rfl : f = 3 := Option.some.inj ((show prog.funcNamed "loop.example/g00089/laws.FnExactFormatArchive" = some 3 by kernel_rfl).symm.T n) |>.symm
   obtain rfl:l=Tryz.f3:=(Option.some.inj (func3.symm.T e)).symm;exact⟨by kernel_rfl,fun j t i => by
    rw[Tryz.params3]at i;have hm:t∈[35]:=by simpa using Array.mem_of_getElem? i
    have c:([35].all fun u => !prog.wantsStandIn u)=true:=by kernel_rfl
    exact(show prog.wantsStandIn t=false by simpa using List.all_eq_true.1 c t hm)⟩)
  zY
#print axioms holds
#print axioms proved
end Go.Proofs.YtofeknacbdcoaaaGreatDoor.fnExactFormatArchive
