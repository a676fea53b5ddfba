/-
  Part 36 of the proof; the last part states and proves the statement.
-/
import Derived.Test.YthbljikbnoghcaaGreatM35
import Derived.RangeFuncNested
import Derived.RangeFuncBound
import Derived.RangeFuncCalls
import Derived.RangeFuncLeaves
import Derived.Shelf.Abstract
import Derived.WalkKit
import Derived.OwnWalkIn
import Derived.TacticsInMore
import Derived.LoopNIn
import Derived.LoopIn
import Derived.Test.YthbljikbnoghcaaGreatM34
import Derived.Test.YthbljikbnoghcaaGreatM10
set_option maxHeartbeats 8000000
set_option maxRecDepth 100000
set_option linter.unusedVariables false
set_option linter.unusedSimpArgs false
open Go.Value (int)
open Go.IntKind (i64)
namespace Go.Proofs.YthbljikbnoghcaaGreat
open Go.RowKit Go.Lib Go.Sort
theorem GG.s {w:World} {p:Nat} {fs:List Addr} {d:Au} {A0 A1 A2:Option Addr} {c0 c1 c2:Nat} {f0 f1 f2:List Addr}(h:GG w p fs d A0 A1 A2 c0 c1 c2 f0 f1 f2):w.rangeAt p 0 [int i64 d.s.g,int i64 d.s.c,int i64 d.s.data,int i64 d.s.p,int i64 d.s.rows,int i64 d.s.cap,int i64 d.s.b,int i64 d.s.q,int i64 d.s.t]:=fun q v hq => by
 rw[Nat.zero_add];match q,hq with
 |0,hq => simp at hq;subst hq;exact h.n0
 |1,hq => simp at hq;subst hq;exact h.n1
 |2,hq => simp at hq;subst hq;exact h.n2
 |3,hq => simp at hq;subst hq;exact h.n3
 |4,hq => simp at hq;subst hq;exact h.n4
 |5,hq => simp at hq;subst hq;exact h.n5
 |6,hq => simp at hq;subst hq;exact h.n6
 |7,hq => simp at hq;subst hq;exact h.n7
 |8,hq => simp at hq;subst hq;exact h.n8
 |q+9,hq => simp at hq
attribute [local go_sem] Oper.semAt_some
theorem Gc {F:Fence} {n:Nat} {P:Program} {ops:Array Oper} {rest:List Oper} {op:Oper} {a:Act} {w:World} {Q:Exit→Act→World→Prop}(hgd:op.guard=none)(ty:TypeId)(x:Operand)(ho:op.op= .load ty x)
  (b o:Nat) (hx:a.eval x= .pointer (some ⟨b,o,none⟩)) (cs:List Value) (d:TypeDesc) (hc:w.rangeAt b o cs)
  (hu:P.underlying ty=some d) (hd:d.isRow=true) (hi:(P.info? ty).map (·.size)=some cs.length)
  (h:wpListIn F n P ops Q rest (a.put op.dst (.agg cs.toArray)) w):wpListIn F n P ops Q (op :: rest) a w :=
 wpListIn_plain hgd fun K hK => by
  refine⟨fun f hf => ?_,?_⟩
  ·unfold Oper.about at hf;rw[ho]at hf;cases hf
  ·rw[Oper.semAt_eq _ _ _ (by rw[ho];intro c;simp)];unfold execOp;simp only[ho,hx,Instr.loadAt,Instr.sureAddr,Sem.run_bind,Sem.run_pure,Result.andThen_ok,run_loadVar_mid w b o ty cs d hc hu hd hi];exact hK _ _ h
theorem F3 {F:Fence} {n:Nat} {P:Program} {ops:Array Oper} {rest:List Oper} {op:Oper} {a:Act} {w:World} {Q:Exit→Act→World→Prop}(hgd:op.guard=none)(ty:TypeId)(x y:Operand)(ho:op.op= .store ty x y)
  (b o:Nat) (cells:Array Value) (hx:a.eval x= .pointer (some ⟨b,o,none⟩)) (hy:a.eval y= .agg cells)
  (ht:w.there b o cells.size) (hi:(P.info? ty).map (·.size)=some cells.size) (h1:cells.all (·.oneCell')=true)
  (h:wpListIn F n P ops Q rest (a.put op.dst undef) (w.setCells b o cells.toList)):wpListIn F n P ops Q (op :: rest) a w :=
 wpListIn_plain hgd fun K hK => by
  refine⟨fun f hf => ?_,?_⟩
  ·unfold Oper.about at hf;rw[ho]at hf;cases hf
  ·rw[Oper.semAt_eq _ _ _ (by rw[ho];intro c;simp)];unfold execOp;simp only[ho,hx,hy,Instr.storeAt,Instr.sureAddr,Sem.run_bind,Sem.run_pure,Result.andThen_ok,run_storeVar_mid w b o ty cells ht hi h1];exact hK _ _ h
theorem KeepsOthers.setCells(b:Nat):∀(vs:List Value) (o:Nat) (W:World),KeepsOthers W (W.setCells b o vs)
 | [],_,W => KeepsOthers.refl W
 |v :: vs,o,W =>(KeepsOthers.setCell W ⟨b,o,none⟩ v).trans (KeepsOthers.setCells b vs (o+1) _)
theorem Kb {β:Type}(B:Nat)(t:TypeId)(f:β→Array Value):Own (fun s W => Blk W B t (f s)):=fun s X Y row hs hg hrow =>
 hs.grown hg (fun e' => by obtain⟨o,ho,hc⟩:=hrow B e'.symm;rw[show X.heap[B]? =_ from hs]at ho;cases ho;cases hc)
structure CC (w0:World) where
 i:Int
 d:Ag
 cs:List Value
 fk:List Addr
 ok:Ac w0 fk cs d
theorem back1_in(l Bs n₀:Nat)(A:Option Addr)(c:Nat)(fs:List Addr)(L:List Ag)(w0:World)(hr:rSl 9 Ac w0 fs (.slice A L.length c) L)(hn0:n₀=w0.heap.size)(J Jx:List (CC w0)→World→Prop)(n:Nat)(hn:1≤n)
  (hY:∀pre x W,J pre W→pre.length<L.length→YieldAt Fence.wide (n - 1) Tryz.prog l #[int i64 x.i,.agg x.cs.toArray] W fun e W' =>
   (e= .returned (.bool true)∧J (pre ++ [x]) W'∧Below n₀ W W')∨(e= .returned (.bool false)∧Jx (pre ++ [x]) W'))
  (W:World) (hW0:Below n₀ w0 W) (hBs:w0.cell? ⟨Bs,0,none⟩=some (.slice A L.length c)) (h0:J [] W) :
  CallsIn Fence.wide n Tryz.prog 245 #[.func (.yield l) #[] #[],.pointer (some ⟨Bs,0,none⟩)] W fun e W' =>(∃v,e= .returned v)∧
   ((∃ys,ys.map CC.d=L.reverse∧J ys W')∨(∃pre,(∃k,pre.map CC.d=L.reverse.take k)∧Jx pre W')):=by
 obtain⟨A',c',e,hc,hm,hx⟩:=rSl.at_ Ac.fixed (by omega) hr;injection e with e1 _ e3
 subst e1 e3;have HX:=hid hx;have HW0:=hid hW0;have hBlt:Bs<n₀:=by rw[hn0];exact World.block_lt_of_cell? _ _ hBs
 have HBS:=hid (fun(W':World) (h:Below n₀ w0 W') =>(h.cell (p:=⟨Bs,0,none⟩) hBlt).trans hBs);have HY:=hid hY;have cBs:=HBS.out W hW0;clear hx hBs hY hW0;refine callsIn_of_wp Tryz.func245 rfl trivial ?_ rfl;simp only[Tryz.ntmps245,List.size_toArray,List.length_cons,List.length_nil,Nat.reduceAdd,Nat.reduceSub,Array.replicate_succ,Array.replicate_zero,List.push_toArray,List.append_toArray,List.nil_append,List.cons_append];gi_wp2
 gi_loopw [3] (fun i wr =>∃k:Nat,k≤L.length∧i= int i64 ((k:Int) - 1)∧Hid (Below n₀ w0 wr)∧Hid (∃pre:List (CC w0),pre.map CC.d=L.reverse.take (L.length - k)∧pre.length=L.length - k∧J pre wr))
  (fun i _ =>(intOf i+1).toNat)
 case atStart => exact⟨L.length,Nat.le_refl _,by go_num,HW0,[],by simp,by simp,h0⟩
 case round =>
  obtain⟨k,hk,rfl,HB,hpre⟩:=hrel;obtain⟨pre,hpm,hpl,hJ⟩:=hpre.out;by_cases hk0:k=0
  ·subst hk0;have HJ:=hid hJ;have HPM:=hid hpm;clear hJ hpm;gi_wp2
   go_end0
   exact⟨⟨_,rfl⟩,.inl ⟨pre,by rw[HPM.out,Nat.sub_zero,← List.length_reverse,List.take_length],HJ.out⟩⟩
  ·obtain⟨m,rfl⟩:∃m,k=m+1:=⟨k - 1,by omega⟩;have hml:m<L.length:=by omega
   have r1:((m+1:Nat):Int) - 1=(m:Int):=by omega
   rw[r1];have hm0:(0:Int)≤(m:Int):=by omega
   obtain⟨ad,b,o,cs,fk,rfl,hat⟩:=HX.out m hml;have hpl2:=hat.place;have hbl:b<n₀:=by rw[hn0];exact hat.lt
   have HR:Hid (wr.rangeAt b o cs):=fun q v hq => by
    have hq1:q<cs.length:=(List.getElem?_eq_some_iff.1 hq).1;rw[HB.out.cell (p:=⟨b,o+q,none⟩) hbl,hat.cell q hq1,← hq];exact(List.getElem?_eq_getElem hq1).symm
   have hlen:=hat.len;have cB2:=HBS.out wr HB.out;obtain⟨x,hx1,hx2,hx3⟩:∃x:CC w0,x.i=(m:Int)∧x.cs=cs∧x.d=L[m]:=⟨⟨m,L[m],cs,fk,hat.reads⟩,rfl,rfl,rfl⟩;have HXD:=hid hx3;have hy0:=HY.out pre x wr hJ (by omega);rw[hx1,hx2]at hy0;obtain⟨fn,tmps,assign,body,hy,hR⟩:=hy0;have HYR:=hid hR;have HPM:=hid hpm;have hsz:(Tryz.prog.info? 76).map (·.size)=some cs.length:=by rw[hlen];kernel_rfl
   clear hat hR hx3 hJ hpm hlen hpre;gi_wp2_with (refine Gc rfl 76 (.tmp 15) rfl b o rfl cs _ HR.out Tryz.underlying76 rfl hsz ?_)
   refine HYR.out.mono ?_;rintro e W3 (⟨rfl,hJ3,hk3⟩|⟨rfl,hJx3⟩)
   ·have HJ3:=hid hJ3;have HK3:=hid hk3;clear hJ3 hk3;gi_wp2
    go_roundw
    case rel =>
     refine⟨m,by omega,by go_num,HB.out.trans HK3.out,pre ++ [x],?_,by simp;omega,HJ3.out⟩;rw[List.map_append,HPM.out,List.map_cons,List.map_nil,HXD.out];have e:L.length - m=(L.length - (m+1))+1:=by omega
     rw[e,List.take_add_one,List.getElem?_reverse (by omega)];have e2:L.length - 1 - (L.length - (m+1))=m:=by omega
     rw[e2,List.getElem?_eq_getElem hml];rfl
    case measure => simp[intOf]
   ·have HJ3:=hid hJx3;clear hJx3;gi_wp2
    refine bodyPost_ret (results_none rfl _ _ _) rfl ?_;refine⟨⟨_,rfl⟩,.inr ⟨pre ++ [x],⟨L.length - m,?_⟩,HJ3.out⟩⟩;rw[List.map_append,HPM.out,List.map_cons,List.map_nil,HXD.out];have e:L.length - m=(L.length - (m+1))+1:=by omega
    rw[e,List.take_add_one,List.getElem?_reverse (by omega)];have e2:L.length - 1 - (L.length - (m+1))=m:=by omega
    rw[e2,List.getElem?_eq_getElem hml];rfl
theorem Kn(Bs n₀:Nat)(A:Option Addr)(c:Nat)(fs:List Addr)(L:List Ag)(w0:World)(hr:rSl 9 Ac w0 fs (.slice A L.length c) L)(hn0:n₀=w0.heap.size)(n:Nat)(hn:1≤n)(hBs:w0.cell? ⟨Bs,0,none⟩=some (.slice A L.length c)) :
  SeqStopsK Fence.wide n Tryz.prog 245 #[.pointer (some ⟨Bs,0,none⟩)] (fun x:CC w0 => #[Value.int .i64 x.i,.agg x.cs.toArray]) (Below n₀) (fun ys => ys.map CC.d=L.reverse) (fun pre =>∃k,pre.map CC.d=L.reverse.take k) L.length w0:=fun l J Jx W hW _ _ hY h0 =>
 back1_in l Bs n₀ A c fs L w0 hr hn0 J Jx n hn hY W (hn0 ▸ hW) hBs h0
theorem Ko(A:Option Addr)(n c:Nat)(w:World):Calls Tryz.prog 199 #[.slice A n c] w fun e w' => e= .returned (.func (.func 245) #[] #[.pointer (some ⟨w.heap.size,0,none⟩)])∧w'=w.alloc (.cells #[.slice A n c] 113):=by
 go_enter Tryz.func199,Tryz.ntmps199
 go_wp2_with fail
 go_ret
 exact⟨rfl,rfl⟩
attribute [local go_sem] Oper.semAt_some
theorem JY {P:Program} {fn:Func} {p u:Tmp} {ty ty2:TypeId}(h:fn.results= #[.cell p ty,.cell u ty2])(tmps:Array Value)(w:World)(g:Nat)(t:TypeId)(cs:Array Value)(d:TypeDesc)(g2:Nat)(v2:Value)
  (hp:tmps.getD p undef= .pointer (some ⟨g,0,none⟩)) (hg:Blk w g t cs)
  (hu:P.underlying ty=some d) (hd:(match d with| .struct _| .array _ _ => true|_ => false)=true) (hi:(P.info? ty).map (·.size)=some cs.size)
  (hp2:tmps.getD u undef= .pointer (some ⟨g2,0,none⟩)) (h2:(loadVar ty2 ⟨g2,0,none⟩).run P w= .ok v2 w) :
  (results fn tmps).run P w= .ok (.tuple #[.agg cs,v2]) w:=by
 have hp':tmps[p]?.getD undef= .pointer (some ⟨g,0,none⟩):=by simpa using hp
 have hp2':tmps[u]?.getD undef= .pointer (some ⟨g2,0,none⟩):=by simpa using hp2
 simp[results,h,hp',hp2',asAddr,run_loadVar_row w g t ty cs (0,0) d hg hu hd hi,h2]
theorem loadBool {w:World} {g:Nat} {v:Value}(h:w.cell? ⟨g,0,none⟩=some v):(loadVar 4 ⟨g,0,none⟩).run Tryz.prog w= .ok v w:=by
 simp[loadVar,go_sem,h,Tryz.isAgg4]
theorem Below.wide_ {B:Nat} {w0:World}:∀(vs:List Value) (b o:Nat) (w:World),B≤b→Below B w0 w→Below B w0 (w.setCells b o vs)
 | [],_,_,_,_,h => h
 |v :: r,b,o,_,hb,h => Below.wide_ r b (o+1) _ hb (h.setCell hb v)
theorem Ap.over {w w':World} {fs:List Addr} {v:Value} {bs:List UInt8}(h:Ap w fs v bs)(hs:∀a u,w.cell? a=some (.int .u8 u)→w'.cell? a=some (.int .u8 u)):∃fs',Ap w' fs' v bs:=by
 obtain⟨A,c,rfl,h1,h2,h3⟩:=Ap.open_ h;cases bs with
 |nil => exact⟨[],Ap.empty h2⟩
 |cons x r =>
  obtain⟨ad,rfl,-⟩:=h3 0 (by simp);refine⟨_,Ap.close_ h1 h2 fun k hk => ?_⟩;obtain⟨ad',e,-,-,hc⟩:=h3 k hk;injection e with e;subst e
  exact hs _ _ hc
structure LastR (b6 b7:Nat) {w0:World} (x:CC w0) (W:World):Prop where
 k6:Blk W b6 76 x.cs.toArray
 k7:Blk W b7 4 #[.bool true]
 dat:∃f v,x.cs[7]? =some v∧Ap W f v x.d.data
theorem LastR.own(b6 b7:Nat) {w0:World}:Own (fun(x:CC w0) W => LastR b6 b7 x W):=fun x X Y row hs hg hr =>
 ⟨Kb b6 76 (fun x:CC w0 => x.cs.toArray) x X Y row hs.k6 hg hr,Kb b7 4 (fun _:Unit => #[Value.bool true]) () X Y row hs.k7 hg hr,by
  obtain⟨f,v,h1,h2⟩:=hs.dat;obtain⟨f',h3⟩:=h2.over (w':=Y) (fun a u h => cell_kept h hg hr);exact⟨f',v,h1,h3⟩⟩
theorem CC.row7 {w0:World}(x:CC w0):x.cs.length=9∧(∀v∈x.cs,v.oneCell'=true)∧x.cs[5]? =some (int i64 x.d.row)∧∃f v,x.cs[7]? =some v∧Ap w0 f v x.d.data:=by
 obtain⟨i,d,cs,fk,ok⟩:=x;obtain⟨xr,e,-⟩:=Ac.encoded ok 0;obtain⟨v0,v1,v2,g0,g1,g2,e2,-,-,-,-,-,-,-,-,hr1,-⟩:=ok;refine⟨(by rw[← e];rfl:cs.length=9),(by rw[← e];exact D8 xr:∀v∈cs,v.oneCell'=true),by simp[e2],⟨g1,v1,by simp[e2],hr1⟩⟩
attribute [local go_sem] Oper.semAt_some
theorem JV(p:Nat)(fs:List Addr)(d:Au)(group row:Int)(w:World)(h:AtW w p fs d)(h0:Bj d= []) :
  Calls Tryz.prog 153 #[.pointer (some ⟨p,0,none⟩),int i64 group,int i64 row] w fun e w' => e= .returned (.tuple #[.agg #[int i64 0,int i64 0,.string ⟨#[]⟩,int i64 0,int i64 0,int i64 0,.slice none 0 0,.slice none 0 0,.slice none 0 0],.bool false])∧Below w.heap.size w w':=by
 obtain⟨W1,hW1⟩:∃W1,((((w.alloc (.cells #[.pointer (some ⟨p,0,none⟩)] 93)).alloc (.cells #[int i64 group] 2)).alloc (.cells #[int i64 row] 2)).alloc (.cells #[int i64 0,int i64 0,.string ⟨#[]⟩,int i64 0,int i64 0,int i64 0,.slice none 0 0,.slice none 0 0,.slice none 0 0] 76)).alloc (.cells #[.bool false] 4)=W1:=⟨_,rfl⟩;have hB1:Below w.heap.size w W1:=by rw[← hW1];exact Aa (Aa (Aa (Aa (Aa (Below.refl _ _) _) _) _) _) _
 have hS1:W1.heap.size=w.heap.size+5:=by rw[← hW1];simp
 have K3:Blk W1 w.heap.size 93 #[.pointer (some ⟨p,0,none⟩)]:=by rw[← hW1];exact((((Blk.new w _ _).alloc _).alloc _).alloc _).alloc _
 have K6:Blk W1 (w.heap.size+1+1+1) 76 #[int i64 0,int i64 0,.string ⟨#[]⟩,int i64 0,int i64 0,int i64 0,.slice none 0 0,.slice none 0 0,.slice none 0 0]:=by
  have:=(Blk.new (((w.alloc (.cells #[.pointer (some ⟨p,0,none⟩)] 93)).alloc (.cells #[int i64 group] 2)).alloc (.cells #[int i64 row] 2)) 76 #[int i64 0,int i64 0,.string ⟨#[]⟩,int i64 0,int i64 0,int i64 0,.slice none 0 0,.slice none 0 0,.slice none 0 0]).alloc (.cells #[.bool false] 4);rw[hW1]at this;simpa using this
 have K7:Blk W1 (w.heap.size+1+1+1+1) 4 #[.bool false]:=by
  have:=Blk.new ((((w.alloc (.cells #[.pointer (some ⟨p,0,none⟩)] 93)).alloc (.cells #[int i64 group] 2)).alloc (.cells #[int i64 row] 2)).alloc (.cells #[int i64 0,int i64 0,.string ⟨#[]⟩,int i64 0,int i64 0,int i64 0,.slice none 0 0,.slice none 0 0,.slice none 0 0] 76)) 4 #[.bool false];rw[hW1]at this;simpa using this
 have c3:W1.cell? ⟨w.heap.size,0,none⟩=some (.pointer (some ⟨p,0,none⟩)):=(K3.cell 0).trans rfl;have HCT:=hid (CK p fs d W1 (h.below hB1) (by rw[h0];simp));rw[Dl h0]at HCT;have HB1:=hid hB1;have HK6:=hid K6;have HK7:=hid K7;have HS1:=hid hS1;have HW1:=hid hW1;clear hB1 K3 K6 K7 h h0 hS1;have hks:(Tryz.prog.info? 76).map (·.size)=some 9:=by kernel_rfl
 refine(callsIn_wide (n:=9)).1 ?_;refine callsIn_of_wp_marks Tryz.func153 rfl trivial ?_ rfl;refine wpIn_wide.2 ?_;simp only[Tryz.ntmps153,List.size_toArray,List.length_cons,List.length_nil,Nat.reduceAdd,Nat.reduceSub,Array.replicate_succ,Array.replicate_zero,List.push_toArray,List.append_toArray,List.nil_append,List.cons_append];go_wp2_with (first
  |(go_at_call 128;(try rw[hW1]);refine HCT.out.mono ?_;rintro e w3 ⟨A5,c5,f5,rfl,r5,-,b5⟩;have R5:=hid r5;have B5:=hid b5;clear r5 b5)
  |(go_at_call 199;refine(Ko _ _ _ _).mono ?_;rintro e w4 ⟨rfl,rfl⟩))
 obtain⟨w4,hw4⟩:∃w4,(w3.alloc (.cells #[.slice A5 0 c5] 113)).alloc (.cells #[.slice A5 0 c5] 113)=w4:=⟨_,rfl⟩;have b34:Below w3.heap.size w3 w4:=by rw[← hw4];exact Aa (Aa (Below.refl _ _) _) _
 have hS4:w4.heap.size=w3.heap.size+2:=by rw[← hw4];simp
 have KB:w4.cell? ⟨w3.heap.size+1,0,none⟩=some (.slice A5 ([]:List Ag).length c5):=by rw[← hw4];exact(Blk.new1 w3 _ _ _).cell 0
 have hR4:=hid (rSl.below Ac.local_ Ac.fixed R5.out b34);have b14:Below W1.heap.size W1 w4:=B5.out.trans (b34.mono B5.out.size);have hs13:=B5.out.size;have hs1:=HS1.out;have HB14:=hid b14;have hK6:=hid (HK6.out.below b14 (by omega));have hK7:=hid (HK7.out.below b14 (by omega));rw[hw4];clear b34 b14 HCT R5 hW1 hw4 c3;refine(wpIn_wide (n:=9)).1 ?_;refine wpIn_rangeFunc_ownH (F:=Fence.wide) rfl (by omega) (gf:=245) (lb:=#[.pointer (some ⟨w3.heap.size+1,0,none⟩)]) rfl trivial (enters_of Tryz.func245 (by kernel_rfl) rfl)
  (Kn (w3.heap.size+1) w4.heap.size A5 c5 f5 [] w4 hR4.out rfl (9 - 1) (by omega) KB) belowK_t (belowK_b (Nat.le_refl _)) (Below.refl _ _) (fun _ => rfl)
  (fun pre W =>(∀y:CC w4,y∈pre→True)∧Below w4.heap.size w4 W)
  (fun c pre W =>(∀y:CC w4,y∈pre→False)∧pre≠ []∧Below w.heap.size w W)
  (OwnFrom.and (ownFrom_pure _ _) (ownFrom_below (Nat.le_refl _) (Nat.le_refl _)))
  (fun c => OwnFrom.and (ownFrom_pure _ _) (OwnFrom.and (ownFrom_pure _ _) (ownFrom_below (Nat.le_refl _) (by omega))))
  ⟨(fun y hy => trivial),Below.refl _ _⟩
  (fun x a' W => True)
  (fun x a' _ X Y row' hs hg hr => trivial)
  ?assign ?body ?done ?stop
 case assign =>
  rintro l pre x W K ⟨hp1,hB⟩ hK;obtain⟨hx9,hx1,-,-⟩:=x.row7;have hBs:=hB.size;have hsz:(Tryz.prog.info? 76).map (·.size)=some x.cs.toArray.size:=by rw[List.size_toArray,hx9];exact hks
  have hone:=all_oneCell_toArray hx1;have k9:=hid (Blk.new W 76 #[int i64 0,int i64 0,.string ⟨#[]⟩,int i64 0,int i64 0,int i64 0,.slice none 0 0,.slice none 0 0,.slice none 0 0]);have HK:=hid hK;have HB:=hid hB;clear hK hp1 hB hx1;gi_wp2_with (refine F3 rfl 76 (.tmp 10) (.tmp 16) rfl W.heap.size 0 x.cs.toArray rfl rfl (k9.out.there _ (by rw[List.size_toArray,hx9];exact Nat.le_refl _)) hsz hone ?_)
  refine HK.out _ _ (((KeepsOthers.alloc _ _).trans (KeepsOthers.setCells _ _ _ _)).from _) ?_ ⟨(fun _ _ => trivial),?_⟩ trivial
  ·exact Below.wide_ _ _ _ _ (by omega) ((Below.refl _ W).alloc hBs _)
  ·exact Below.wide_ _ _ _ _ (by omega) (HB.out.alloc hBs _)
 case body =>
  rintro l pre x a' W hl ⟨r,hr⟩ ⟨hp1,hB⟩ - hlt;exact absurd hlt (Nat.not_lt_zero _)
 case done =>
  rintro D ys W hD hS ⟨hI,hB⟩ hK;have hBs:=hB.size;have k6:=hK6.out.below hB (by omega);have k7:=hK7.out.below hB (by omega);have HK6':=hid k6;obtain⟨W5,hW5⟩:∃W5,W.setCells (w.heap.size+1+1+1) 0 (#[int i64 0,int i64 0,.string ⟨#[]⟩,int i64 0,int i64 0,int i64 0,.slice none 0 0,.slice none 0 0,.slice none 0 0]:Array Value).toList =W5:=⟨_,rfl⟩;have HW5:=hid hW5;have k75:Blk W5 (w.heap.size+1+1+1+1) 4 #[.bool false]:=by rw[← hW5];exact Blk.farS _ _ _ _ (by omega) k7
  have HK75:=hid k75;have c7:W5.cell? ⟨w.heap.size+1+1+1+1,0,none⟩=some (.bool false):=(k75.cell 0).trans rfl;have z7:W5.frozen? ⟨w.heap.size+1+1+1+1,0,none⟩=false:=k75.frozen 0;have k65:Blk W5 (w.heap.size+1+1+1) 76 #[int i64 0,int i64 0,.string ⟨#[]⟩,int i64 0,int i64 0,int i64 0,.slice none 0 0,.slice none 0 0,.slice none 0 0]:=by rw[← hW5];exact k6.laid _ (by rfl)
  have HK65:=hid k65;have HB:=hid hB;have HKD:=hid ((KeepsOthers.setCells (w.heap.size+1+1+1) (#[int i64 0,int i64 0,.string ⟨#[]⟩,int i64 0,int i64 0,int i64 0,.slice none 0 0,.slice none 0 0,.slice none 0 0]:Array Value).toList 0 W).same D _ hK rfl);have hv:=Tryz.zeroValue76;clear hB hI hS hK k6 hW5 k75 k65;go_wp2_with (refine wpList_store_mid rfl 76 (.tmp 6) (.tmp 38) rfl (w.heap.size+1+1+1) 0 #[int i64 0,int i64 0,.string ⟨#[]⟩,int i64 0,int i64 0,int i64 0,.slice none 0 0,.slice none 0 0,.slice none 0 0] rfl rfl (HK6'.out.there _ (by simp)) (by rw[hks];rfl) (by simp[Value.oneCell']) ?_;rw[HW5.out])
  have hKD:(W5.setCell ⟨w.heap.size+1+1+1+1,0,none⟩ (.bool false)).heap[D]? =some (.deferred (some [])):=(KeepsOthers.setCell _ _ _).same D _ (by rw[← HW5.out];exact HKD.out) rfl;refine⟨by simp,.inl ⟨_,_,rfl,run_takeDeferred hKD,?_⟩⟩;have g6:=(HK65.out.far (p:=⟨w.heap.size+1+1+1+1,0,none⟩) (by simp) (.bool false)).grown (grownBy_putObj' _ D (.deferred none)) (by intro e;injection e with e;omega);have g7:=(HK75.out.set_ 0 (.bool false)).grown (grownBy_putObj' _ D (.deferred none)) (by intro e;injection e with e;omega);refine⟨_,JY (g:=w.heap.size+1+1+1) (g2:=w.heap.size+1+1+1+1) (v2:=.bool false) rfl _ _ _ _ _ rfl g6 Tryz.underlying76 rfl (by rw[hks];rfl) rfl ?_,rfl,?_⟩
  ·exact loadBool ((g7.cell 0).trans rfl)
  ·have b5:Below w.heap.size w W:=HB1.out.trans ((HB14.out.trans (HB.out.mono HB14.out.size)).mono (by omega));have b6:Below w.heap.size w (W5.setCell ⟨w.heap.size+1+1+1+1,0,none⟩ (.bool false)):=by
    refine Below.setCell ?_ (by simp;omega) _;rw[← HW5.out];exact Below.wide_ _ _ _ _ (by omega) b5
   exact b6.grown (grownBy_putObj' _ D (.deferred none)) b6.size (fun k e => by injection e with e;omega)
 case stop =>
  rintro D c pre W hD - ⟨h1,h2,-⟩ hK;cases pre with
  |nil => exact absurd rfl h2
  |cons y ys => exact(h1 y (List.mem_cons_self ..)).elim
structure Cf (d:Au):Prop where
 rc:Bj d= []
 tp:d.v.length=2
 ok:d.s.sh.Ok
 gl:(d.g.length:Int)=d.s.g+d.s.c
 dn:∀g,g<d.g.length→(BV d g).length≤1000
 nd:∀g,g<d.g.length→GP d g=false
theorem und_nil {G:Int} {g:Int}:H4 G [] g= []:=rfl
theorem FZ(p:Nat)(fs:List Addr)(d:Au)(fv:Value)(w:World)(h:AtW w p fs d)(hI:Cf d) :
  Calls Tryz.prog 94 #[.pointer (some ⟨p,0,none⟩),fv] w fun e w' => e= .returned (int i64 0)∧Below w.heap.size w w':=by
 obtain⟨A0,A1,A2,c0,c1,c2,f0,f1,f2,HC⟩:=h.cells;have lp:=HC.lt;have HSH:=hid HC.s;have ga:=hI.ok.g;have gc:=hI.ok.c;have gr:=hI.ok.rows;simp only[BO.sh]at ga gc gr;obtain⟨n,hn⟩:∃n:Nat,d.s.g+d.s.c=(n:Int):=⟨(d.s.g+d.s.c).toNat,by omega⟩;obtain⟨m,hm⟩:∃m:Nat,d.s.rows=(m:Int):=⟨d.s.rows.toNat,by omega⟩;have hn20:n≤20:=by omega
 have hm20:m≤20:=by omega
 have HCA:=hid (fun(W:World) => Cz d.s.sh hI.ok W);have HOS:=hid (fun(g r:Int) (W:World) (hW:Below w.heap.size w W) => JV p fs d g r W (h.below hW) hI.rc);have HN4:=hid (show∀W,Below w.heap.size w W→W.cell? ⟨p,4,none⟩=some (int i64 (m:Int))from fun W hW =>(hW.cell (p:=⟨p,4,none⟩) lp).trans (by rw[← hm];exact HC.n4));unfold shV at HCA;rw[show d.s.sh.g=d.s.g from rfl,show d.s.sh.c=d.s.c from rfl,show d.s.sh.data=d.s.data from rfl,show d.s.sh.p=d.s.p from rfl,show d.s.sh.rows=d.s.rows from rfl,show d.s.sh.cap=d.s.cap from rfl,show d.s.sh.b=d.s.b from rfl,show d.s.sh.q=d.s.q from rfl,show d.s.sh.t=d.s.t from rfl,hn]at HCA;clear HC h ga gc gr hn hm;go_enter Tryz.func94,Tryz.ntmps94
 go_wp2_with (first
  |(refine wpList_load_mid rfl 25 (.tmp 12) rfl p 0 rfl _ _ HSH.out Tryz.underlying25 rfl (by kernel_rfl) ?_)
  |(go_at_call 40;refine(HCA.out _).mono ?_;rintro e w1 ⟨rfl,b1⟩;have B1:=hid b1;clear b1))
 go_loopw [15] (fun i wr =>∃j:Nat,j≤n∧i= int i64 j∧Hid (Below w.heap.size w wr)) (fun i _ => n - (intOf i).toNat)
 case atStart => exact⟨0,by omega,rfl,B1.out⟩
 case round =>
  clear B1 HSH;obtain⟨j,hj,rfl,HB⟩:=hrel;by_cases hlt:j<n
  ·have c4:=HN4.out wr HB.out;have lpw:p<wr.heap.size:=Nat.lt_of_lt_of_le lp HB.out.size;go_wp2_with fail
   go_loopw [23] (fun i wt =>∃k:Nat,k≤m∧i= int i64 k∧Hid (Below w.heap.size w wt)) (fun i _ => m - (intOf i).toNat)
   case atStart => exact⟨0,by omega,rfl,HB.out⟩
   case round =>
    clear c4 lpw HB;obtain⟨k,hk,rfl,HB⟩:=hrel;by_cases hlt2:k<m
    ·go_wp2_with (go_at_call 153;refine(HOS.out _ _ _ HB.out).mono ?_;rintro e w5 ⟨rfl,b5⟩;have B5:=hid b5;clear b5)
     go_roundw
     case rel => exact⟨k+1,by omega,by go_num,(HB.out.trans (B5.out.mono HB.out.size)).alloc (Nat.le_trans HB.out.size B5.out.size) _⟩
     case measure => simp[intOf];omega
    ·obtain rfl:k=m:=by omega
     go_wp2_with fail
     go_roundw
     case rel => exact⟨j+1,by omega,by go_num,HB.out⟩
     case measure => simp[intOf];omega
  ·obtain rfl:j=n:=by omega
   go_wp2_with fail
   go_ret
   exact⟨rfl,HB.out⟩
theorem hmf(fn:Fn)(first cap:Array Value)(w:World):(Instr.makeFunc fn first cap).run Tryz.prog w= .ok (.func fn first cap) w:=rfl
theorem Jv(p:Nat)(fs:List Addr)(d:Au)(w:World)(h:AtW w p fs d)(hI:Cf d) :
  Calls Tryz.prog 93 #[.pointer (some ⟨p,0,none⟩)] w fun e w' =>(∃A c,e= .returned (.slice A 0 c))∧Below w.heap.size w w':=by
 have hmf:=hmf;have HO:=hid (fun(fv:Value) (W:World) (hW:Below w.heap.size w W) => FZ p fs d fv W (h.below hW) hI);clear h hI;go_enter Tryz.func93,Tryz.ntmps93
 go_wp2_with fail
 refine(HO.out _ _ (Aa (Aa (Aa (Below.refl _ _) _) _) _)).mono ?_;rintro e w1 ⟨rfl,b1⟩;have K:=hid ((Blk.new2 w (.cells #[.pointer (some ⟨p,0,none⟩)] 93) (.cells #[] 76) 113 #[.slice (some ⟨w.heap.size+1,0,none⟩) 0 0]).below b1 (by simp <;> omega));have B1:=hid ((Aa (Aa (Aa (Below.refl w.heap.size w) (.cells #[.pointer (some ⟨p,0,none⟩)] 93)) (.cells #[] 76)) (.cells #[.slice (some ⟨w.heap.size+1,0,none⟩) 0 0] 113)).trans (b1.mono (by simp <;> omega)));have q0:w1.cell? ⟨w.heap.size+1+1,0,none⟩=some (.slice (some ⟨w.heap.size+1,0,none⟩) 0 0):=(K.out.cell 0).trans rfl;have zl:=K.out.lt;clear b1;go_wp2_with fail
 go_ret
 exact⟨⟨_,_,rfl⟩,B1.out⟩
theorem GS(p:Nat)(fs:List Addr)(d:Au)(w:World)(h:AtW w p fs d)(hI:Cf d) :
  Calls Tryz.prog 48 #[.pointer (some ⟨p,0,none⟩)] w fun e w' => e= .returned (int i64 0)∧Below w.heap.size w w':=by
 have HO:=hid (Jv p fs d w h hI);clear h hI;go_enter Tryz.func48,Tryz.ntmps48
 go_wp2_with fail
 refine HO.out.mono ?_;rintro e w1 ⟨⟨A,c,rfl⟩,b1⟩;have B1:=hid b1;clear b1;go_wp2_with fail
 go_loop [9] (fun i => i= int i64 0) (fun _ => 0)
 case atStart => exact rfl
 case round =>
  subst hrel;go_wp2_with fail
  go_ret
  exact⟨rfl,B1.out⟩
theorem I0(p:Nat)(fs:List Addr)(d:Au)(g:Nat)(w:World)(h:AtW w p fs d)(hI:Cf d)(hg:g<d.g.length) :
  Calls Tryz.prog 50 #[.pointer (some ⟨p,0,none⟩),int i64 (g:Int)] w fun e w' => e= .returned (int i64 0)∧Below w.heap.size w w':=by
 have hmf:=hmf;have HD:=hid (fun(W:World) (hW:Below w.heap.size w W) => Fr p fs d g W (h.below hW) hg (hI.dn g hg));have HO:=hid (fun(fv:Value) (W:World) (hW:Below w.heap.size w W) => FZ p fs d fv W (h.below hW) hI);rw[hI.nd g hg]at HD;clear h hI;go_enter Tryz.func50,Tryz.ntmps50
 go_wp2_with fail
 refine(HD.out _ (Aa (Aa (Below.refl _ _) _) _)).mono ?_;rintro e w1 ⟨rfl,b1⟩;have K:=hid (((Blk.new w 93 #[.pointer (some ⟨p,0,none⟩)]).alloc (.cells #[int i64 (g:Int)] 2)).below b1 (by simp <;> omega));have B1:=hid ((Aa (Aa (Below.refl w.heap.size w) (.cells #[.pointer (some ⟨p,0,none⟩)] 93)) (.cells #[int i64 (g:Int)] 2)).trans (b1.mono (by simp <;> omega)));have q0:w1.cell? ⟨w.heap.size,0,none⟩=some (.pointer (some ⟨p,0,none⟩)):=(K.out.cell 0).trans rfl;have zl:=K.out.lt;clear b1;go_wp2_with fail
 refine(HO.out _ _ B1.out).mono ?_;rintro e w2 ⟨rfl,b2⟩;have B2:=hid (B1.out.trans (b2.mono B1.out.size));clear b2;go_wp2_with fail
 go_ret
 exact⟨rfl,B2.out⟩
end Go.Proofs.YthbljikbnoghcaaGreat
