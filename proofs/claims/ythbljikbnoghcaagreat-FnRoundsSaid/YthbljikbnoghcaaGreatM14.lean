/-
  Part 14 of the proof; the last part states and proves the statement.
-/
import Derived.Test.YthbljikbnoghcaaGreatM02
import Derived.Test.YthbljikbnoghcaaGreatM13
import Derived.Deep.RegionHeld3
import Derived.RangeFuncNested
import Derived.RangeFuncBound
import Derived.RangeFuncCalls
import Derived.RangeFuncLeaves
set_option maxHeartbeats 8000000
set_option maxRecDepth 100000
set_option linter.unusedVariables false
set_option linter.unusedSimpArgs false
open Go.Value (int)
open Go.IntKind (i64)
namespace Go.Proofs.YthbljikbnoghcaaGreat
open Go.RowKit Go.Lib Go.Sort
theorem Ee(A:Option Addr)(n c:Nat)(w:World):Calls Tryz.prog 85 #[.slice A n c] w fun e w' => e= .returned (int i64 (n:Int))∧w=w':=by
 go_enter Tryz.func85,Tryz.ntmps85
 go_wp2_with fail
 go_ret
 exact⟨rfl,rfl⟩
theorem He {W:World} {base:Nat} {v u:Value} {ds D2:List Int} {gs:List Addr}(ho:Aj 1 2 As W base v ds [])(hR:rSl 1 As W gs u D2)(hf:∀a,a∈gs→v.ownBlock≠some a.block)(hn:ds.length+D2.length≤1000000000)(hbase:base≤W.heap.size) :
  ∃v' w',(Builtin.append_ #[28,28] 28 #[v,u]).run Tryz.prog W= .ok v' w'∧∃A c,v'= .slice A (ds.length+D2.length) c∧Aj 1 2 As w' base v' (ds ++ D2) []∧Below base W w'∧W.heap.size≤w'.heap.size∧(∀k,k<W.heap.size→v.ownBlock≠some k→w'.heap[k]? =W.heap[k]?)∧(∀k,v'.ownBlock=some k→v.ownBlock=some k∨W.heap.size≤k):=by
 obtain⟨v',w',q1,h,q2,q3,q4,q5⟩:=Aj.appendRun (P:=Tryz.prog) 28 28 (int i64 0) 8 Tryz.underlying28 Tryz.infoNum rfl (by decide) As.local_ As.fixed (fun _ _ _ _ h => Jk _ _ _ _ h) base v ds [] ho u D2 gs hR hf hn (by omega) hbase;have h6:=q2.nums;rw[h6]at q2;obtain⟨A,c,e,-⟩:=q2.length;refine⟨v',w',q1,A,c,by rw[e,List.length_append],q2,Below.grown (Below.refl _ _) q4 hbase (fun k hk =>(ho.lt k hk).1),q4.size,fun k hk hne => q4.block k hk (fun e => hne e.symm),fun k hk => ?_⟩;rcases q5 with q|q
 ·exact .inl (q.symm.trans hk)
 ·rw[q]at hk;injection hk with hk
  exact .inr (hk ▸ Nat.le_refl _)
theorem JE(v:Value)(ds:List Int)(f:List Addr)(w:World)(h:rSl 1 As w f v ds)(hn:ds.length≤1000000) :
  Calls Tryz.prog 80 #[v] w fun e w' =>∃A n c,e= .returned (.slice A n c)∧Below w.heap.size w w':=by
 have ht:=rSl.there As.fixed h;have b1:Below w.heap.size w (w.alloc (.cells #[] 2)):=(Below.refl _ _).alloc (Nat.le_refl _) _;have HB:=hid b1;have hf:∀a,a∈f→(Value.slice (some ⟨w.heap.size,0,none⟩) 0 0).ownBlock≠some a.block:=fun a ha e => by
  have:=ht a ha;have e2:w.heap.size=a.block:=by injection e
  omega
 have HAP:=hid (He (W:=w.alloc (.cells #[] 2)) (base:=w.heap.size) (v:=.slice (some ⟨w.heap.size,0,none⟩) 0 0) (ds:=[]) (Aj.start ⟨rfl,.inr ⟨w.heap.size,0,#[],rfl,Nat.le_refl _,Blk.new w _ _,Nat.le_refl _,by unfold maxLen;omega,rfl,rfl⟩⟩) (rSl.below As.local_ As.fixed h b1) hf (by simp;omega) b1.size);obtain⟨A,c,rfl,hc,hm⟩:=rSl.head h;clear ht h b1;have q22:∀(w:World) (a:Option Addr) (n c n' c':Nat),(binOp .eql 28 (.slice a n c) (.slice none n' c')).run Tryz.prog w= .ok (.bool a.isNone) w:=fun w a n c n' c' => Lib.run_eql_slice_nil w _ _ a n c n' c' Tryz.underlying28
 cases A with
 |none =>
  go_enter Tryz.func80,Tryz.ntmps80
  go_wp2_with fail
  go_ret
  exact⟨_,_,_,rfl,Below.refl _ _⟩
 |some ad =>
  go_enter Tryz.func80,Tryz.ntmps80
  go_wp2_with (at_builtin;refine AB rfl (.tmp 5) (.tmp 6) 28 rfl _ _ (by rfl) (by rfl) HAP.out ?_;rintro v6 w6 ⟨A6,c6,rfl,o6,b6,-⟩;have B6:=hid b6;clear o6 b6)
  go_ret
  exact⟨_,_,_,rfl,HB.out.trans B6.out⟩
theorem Bb {P:Program} {fn:Func} {p:Tmp} {ty:TypeId}(h:fn.results= #[.cell p ty])(tmps:Array Value)(w:World)(g:Nat)(t:TypeId)(cs:Array Value)(d:TypeDesc)
  (hp:tmps.getD p undef= .pointer (some ⟨g,0,none⟩)) (hg:Blk w g t cs)
  (hu:P.underlying ty=some d) (hd:(match d with| .struct _| .array _ _ => true|_ => false)=true) (hi:(P.info? ty).map (·.size)=some cs.size) :
  (results fn tmps).run P w= .ok (.agg cs) w:=by
 have hp':tmps[p]?.getD undef= .pointer (some ⟨g,0,none⟩):=by simpa using hp
 simp[results,h,hp',asAddr,run_loadVar_row w g t ty cs (0,0) d hg hu hd hi]
theorem Ks(x:Ag)(cs:List Value)(f:List Addr)(w:World)(h:Ac w f cs x)(h0:x.rows.length≤1000000)(h1:x.data.length≤1000000)(h2:x.delta.length≤1000000) :
  Calls Tryz.prog 136 #[.agg cs.toArray] w fun e w' =>∃cs':List Value,e= .returned (.agg cs'.toArray)∧cs'.length=9∧(∀u,u∈cs'→u.oneCell'=true)∧Below w.heap.size w w':=by
 obtain⟨v0,v1,v2,f0,f1,f2,rfl,-,-,-,-,-,-,-,r0,r1,r2⟩:=h;obtain⟨A0,c0,rfl,m0,m0'⟩:=rSl.head r0;obtain⟨A1,c1,rfl,m1,m1'⟩:=rSl.head r1;obtain⟨A2,c2,rfl,m2,m2'⟩:=rSl.head r2;obtain⟨Z,hZ⟩:∃Z:Array Value,#[int i64 0,int i64 0,.string ⟨#[]⟩,int i64 0,int i64 0,int i64 0,.slice none 0 0,.slice none 0 0,.slice none 0 0] =Z:=⟨_,rfl⟩;obtain⟨W1,hW1⟩:∃W1,(w.alloc (.cells #[int i64 x.kind,int i64 x.seq,.string x.name,int i64 x.length,int i64 x.group,int i64 x.row,.slice A0 x.rows.length c0,.slice A1 x.data.length c1,.slice A2 x.delta.length c2] 76)).alloc (.cells Z 76)=W1:=⟨_,rfl⟩;have hb1:Below w.heap.size w W1:=by rw[← hW1];exact Aa (Aa (Below.refl _ _) _) _
 have K1:Blk W1 w.heap.size 76 #[int i64 x.kind,int i64 x.seq,.string x.name,int i64 x.length,int i64 x.group,int i64 x.row,.slice A0 x.rows.length c0,.slice A1 x.data.length c1,.slice A2 x.delta.length c2]:=by rw[← hW1];exact(Blk.new w _ _).alloc _
 have K2:Blk W1 (w.heap.size+1) 76 Z:=by rw[← hW1];exact Blk.new1 w _ _ _
 have HKS:=hid (show∀W,Below W1.heap.size W1 W→(W.cell? ⟨w.heap.size,6,none⟩=some (.slice A0 x.rows.length c0)∧W.cell? ⟨w.heap.size,7,none⟩=some (.slice A1 x.data.length c1)∧W.cell? ⟨w.heap.size,8,none⟩=some (.slice A2 x.delta.length c2)∧W.frozen? ⟨w.heap.size,6,none⟩=false∧W.frozen? ⟨w.heap.size,7,none⟩=false∧W.frozen? ⟨w.heap.size,8,none⟩=false∧w.heap.size<W.heap.size)from fun W hW => by
  have K:=K1.below hW K1.lt;exact⟨(K.cell 6).trans rfl,(K.cell 7).trans rfl,(K.cell 8).trans rfl,K.frozen 6,K.frozen 7,K.frozen 8,K.lt⟩)
 have HC0:=hid (fun(W:World) (hW:Below W1.heap.size W1 W) => JE _ _ _ W (rSl.below As.local_ As.fixed (rSl.below As.local_ As.fixed r0 hb1) hW) h0);have HC1:=hid (fun(W:World) (hW:Below W1.heap.size W1 W) => Cc _ _ _ W (rSl.below AG.local_ AG.fixed (rSl.below AG.local_ AG.fixed r1 hb1) hW) (by omega));have HC2:=hid (fun(W:World) (hW:Below W1.heap.size W1 W) => Cc _ _ _ W (rSl.below AG.local_ AG.fixed (rSl.below AG.local_ AG.fixed r2 hb1) hW) (by omega));have HB1:=hid hb1;have HK1:=hid K1;have HK2:=hid K2;clear K1 K2 r0 r1 r2 hb1 h0 h1 h2;go_enter Tryz.func136,Tryz.ntmps136
 go_wp2_with fail
 try rw[hZ]
 try rw[hW1]
 clear hW1;have q0:=HKS.out W1 (Below.refl _ _);go_region_law (first
   |(go_simp;go_at_call 80;refine(HC0.out _ (by repeat(with_reducible first|assumption|exact Below.refl _ _|apply Aa|apply Ai))).mono ?_;rintro e w3 ⟨A3,n3,c3,rfl,b3⟩;have B3:=Below.viaQ (a:=W1) (by repeat(with_reducible first|assumption|exact Below.refl _ _|apply Aa|apply Ai)) b3;have k3:=HKS.out _ B3;dsimp only)
   |(go_simp;go_at_call 73;refine(HC1.out _ (by repeat(with_reducible first|assumption|exact Below.refl _ _|apply Aa|apply Ai))).mono ?_;rintro e w4 ⟨v4,f4,rfl,r4,m4,b4⟩;obtain⟨A4,c4,rfl,-⟩:=Ap.open_ r4;have B4:=Below.viaQ (a:=W1) (by repeat(with_reducible first|assumption|exact Below.refl _ _|apply Aa|apply Ai)) b4;have k4:=HKS.out _ B4;dsimp only)
   |(go_simp;go_at_call 73;refine(HC2.out _ (by repeat(with_reducible first|assumption|exact Below.refl _ _|apply Aa|apply Ai))).mono ?_;rintro e w5 ⟨v5,f5,rfl,r5,m5,b5⟩;obtain⟨A5,c5,rfl,-⟩:=Ap.open_ r5;have B5:=Below.viaQ (a:=W1) (by repeat(with_reducible first|assumption|exact Below.refl _ _|apply Aa|apply Ai)) b5;have k5:=HKS.out _ B5;dsimp only))
 all_goals
  have K5:Blk (((w5.setCell ⟨w.heap.size,6,none⟩ (.slice A3 n3 c3)).setCell ⟨w.heap.size,7,none⟩ (.slice A4 x.data.length c4)).setCell ⟨w.heap.size,8,none⟩ (.slice A5 x.delta.length c5)) w.heap.size 76 [int i64 x.kind,int i64 x.seq,.string x.name,int i64 x.length,int i64 x.group,int i64 x.row,.slice A3 n3 c3,.slice A4 x.data.length c4,.slice A5 x.delta.length c5].toArray:=(((HK1.out.below B5 HK1.out.lt).set_ 6 _).set_ 7 _).set_ 8 _;have K6:Blk (((w5.setCell ⟨w.heap.size,6,none⟩ (.slice A3 n3 c3)).setCell ⟨w.heap.size,7,none⟩ (.slice A4 x.data.length c4)).setCell ⟨w.heap.size,8,none⟩ (.slice A5 x.delta.length c5)) (w.heap.size+1) 76 Z:=(((HK2.out.below B5 HK2.out.lt).far (by simp) _).far (by simp) _).far (by simp) _;have b6:Below w.heap.size w (((w5.setCell ⟨w.heap.size,6,none⟩ (.slice A3 n3 c3)).setCell ⟨w.heap.size,7,none⟩ (.slice A4 x.data.length c4)).setCell ⟨w.heap.size,8,none⟩ (.slice A5 x.delta.length c5)):=(((HB1.out.trans (B5.mono HB1.out.size)).setCell (Nat.le_refl _) _).setCell (Nat.le_refl _) _).setCell (Nat.le_refl _) _;obtain⟨W6,hW6⟩:∃W6,(((w5.setCell ⟨w.heap.size,6,none⟩ (.slice A3 n3 c3)).setCell ⟨w.heap.size,7,none⟩ (.slice A4 x.data.length c4)).setCell ⟨w.heap.size,8,none⟩ (.slice A5 x.delta.length c5))=W6:=⟨_,rfl⟩;simp only[hW6]at K5 K6 b6⊢;obtain⟨W7,hW7⟩:∃W7,W6.setCells (w.heap.size+1) 0 [int i64 x.kind,int i64 x.seq,.string x.name,int i64 x.length,int i64 x.group,int i64 x.row,.slice A3 n3 c3,.slice A4 x.data.length c4,.slice A5 x.delta.length c5] =W7:=⟨_,rfl⟩;have HR6:=hid (Blk.rangeAll K5);have HTH:=hid (Blk.there K6 9 (by rw[← hZ];exact Nat.le_refl _));have HW7:=hid hW7;have HK7:=hid (show Blk W7 (w.heap.size+1) 76 [int i64 x.kind,int i64 x.seq,.string x.name,int i64 x.length,int i64 x.group,int i64 x.row,.slice A3 n3 c3,.slice A4 x.data.length c4,.slice A5 x.delta.length c5].toArray by rw[← hW7];exact K6.laid _ (by rw[← hZ];rfl));have HB7:=hid (show Below w.heap.size w W7 by rw[← hW7];exact AF b6 _ 0 (by omega));clear hW6 hW7 K5 K6 b6 k3 k4 k5 q0 B3 B4 B5 m4 m5 r4 r5 b3 b4 b5;go_wp2_with (first
   |(refine wpList_load_mid rfl 76 (.tmp 1) rfl w.heap.size 0 rfl _ _ HR6.out Tryz.underlying76 rfl (by kernel_rfl) ?_)
   |(refine wpList_store_mid rfl 76 (.tmp 2) (.tmp 15) rfl (w.heap.size+1) 0 [int i64 x.kind,int i64 x.seq,.string x.name,int i64 x.length,int i64 x.group,int i64 x.row,.slice A3 n3 c3,.slice A4 x.data.length c4,.slice A5 x.delta.length c5].toArray rfl rfl HTH.out (by kernel_rfl) (by simp[Value.oneCell']) ?_;rw[show W6.setCells (w.heap.size+1) 0 ([int i64 x.kind,int i64 x.seq,.string x.name,int i64 x.length,int i64 x.group,int i64 x.row,.slice A3 n3 c3,.slice A4 x.data.length c4,.slice A5 x.delta.length c5].toArray).toList =W7 from HW7.out]))
  refine⟨rfl,_,Bb (g:=w.heap.size+1) rfl _ _ _ _ _ rfl HK7.out Tryz.underlying76 rfl (by kernel_rfl),⟨_,rfl,rfl,by simp[Value.oneCell'],HB7.out⟩⟩
end Go.Proofs.YthbljikbnoghcaaGreat
