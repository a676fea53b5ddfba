/-
  Part 15 of the proof; the last part states and proves the statement.
-/
import Derived.Test.YthbljikbnoghcaaGreatM14
set_option maxHeartbeats 8000000
set_option maxRecDepth 100000
set_option linter.unusedVariables false
set_option linter.unusedSimpArgs false
open Go.Value (int)
open Go.IntKind (i64)
namespace Go.Proofs.YthbljikbnoghcaaGreat
open Go.RowKit Go.Lib Go.Sort
theorem Ak.viaR {a W w2:World} {f:List Addr}(h:Below a.heap.size a W)(m:Ak W.heap.size w2 f):Ak a.heap.size w2 f:=m.mono h.size
theorem Ak.cat {lo mid:Nat} {w:World} {f g:List Addr}(h1:Ak lo w f)(h2:Ak mid w g)(hf:∀a,a∈f→a.block<mid)(hl:lo≤mid):Ak lo w (f ++ g):=by
 refine⟨?_,fun a ha => ?_,fun a ha => ?_⟩
 ·unfold List.Nodup;refine List.pairwise_append.2 ⟨h1.nodup,h2.nodup,fun a ha b hb e => ?_⟩;subst e;have:=hf a ha;have:=h2.from_ a hb;omega
 ·rcases List.mem_append.1 ha with ha|ha
  ·exact h1.from_ a ha
  ·exact Nat.le_trans hl (h2.from_ a ha)
 ·rcases List.mem_append.1 ha with ha|ha
  ·exact h1.free a ha
  ·exact h2.free a ha
theorem Gh(v:Value)(ds:List Int)(f:List Addr)(w:World)(h:rSl 1 As w f v ds)(hn:ds.length≤1000000) :
  Calls Tryz.prog 80 #[v] w fun e w' =>∃A c gs,e= .returned (.slice A ds.length c)∧rSl 1 As w' gs (.slice A ds.length c) ds∧Ak w.heap.size w' gs∧Below w.heap.size w w':=by
 have ht:=rSl.there As.fixed h;have b1:Below w.heap.size w (w.alloc (.cells #[] 2)):=(Below.refl _ _).alloc (Nat.le_refl _) _;have HB:=hid b1;have hf:∀a,a∈f→(Value.slice (some ⟨w.heap.size,0,none⟩) 0 0).ownBlock≠some a.block:=fun a ha e => by
  have:=ht a ha;have e2:w.heap.size=a.block:=by injection e
  omega
 have HAP:=hid (He (W:=w.alloc (.cells #[] 2)) (base:=w.heap.size) (v:=.slice (some ⟨w.heap.size,0,none⟩) 0 0) (ds:=[]) (Aj.start ⟨rfl,.inr ⟨w.heap.size,0,#[],rfl,Nat.le_refl _,Blk.new w _ _,Nat.le_refl _,by unfold maxLen;omega,rfl,rfl⟩⟩) (rSl.below As.local_ As.fixed h b1) hf (by simp;omega) b1.size);have hnone:∀n c,v= .slice none n c→ds= []:=fun n c e => by
  obtain⟨A,c1,e1,-,-,h2⟩:=h;rcases h2 with⟨h2,-⟩|⟨ad,-,-,e2,-⟩
  ·exact h2
  ·rw[e1,e2]at e;injection e with e;cases e
 obtain⟨A,c,rfl,hc,hm⟩:=rSl.head h;clear ht h b1;have q22:∀(w:World) (a:Option Addr) (n c n' c':Nat),(binOp .eql 28 (.slice a n c) (.slice none n' c')).run Tryz.prog w= .ok (.bool a.isNone) w:=fun w a n c n' c' => Lib.run_eql_slice_nil w _ _ a n c n' c' Tryz.underlying28
 cases A with
 |none =>
  obtain rfl:=hnone _ _ rfl;clear hnone HAP;go_enter Tryz.func80,Tryz.ntmps80
  go_wp2_with fail
  go_ret
  exact⟨none,0,[],rfl,⟨none,0,rfl,Nat.le_refl _,by omega,.inl ⟨rfl,rfl⟩⟩,⟨List.nodup_nil,(fun a ha => by cases ha),(fun a ha => by cases ha)⟩,Below.refl _ _⟩
 |some ad =>
  clear hnone;obtain⟨n,hn0⟩:∃n,ds.length=n:=⟨_,rfl⟩;have HN:=hid hn0;rw[hn0];rw[hn0]at HAP;clear hn0 hc hn;go_enter Tryz.func80,Tryz.ntmps80
  go_wp2_with (at_builtin;refine AB rfl (.tmp 5) (.tmp 6) 28 rfl _ _ (by rfl) (by rfl) HAP.out ?_;rintro v6 w6 ⟨A6,c6,rfl,o6,b6,-⟩;have B6:=hid b6;have O6:=hid o6;clear o6 b6)
  go_ret
  obtain⟨gs,g1,g2⟩:=Aj.readsMine O6.out ⟨List.nodup_nil,(fun a ha => by cases ha),(fun a ha => by cases ha)⟩;refine⟨A6,c6,gs,by simp,?_,g2,HB.out.trans B6.out⟩;simpa using g1
theorem recThree {W1 w3 w4 w5:World} {x:Ag} {A3 A4 A5:Option Addr} {c3 c4 c5:Nat} {f3 f4 f5:List Addr}(ok:okI x.kind∧okI x.seq∧x.name.size≤9223372036854775807∧okI x.length∧okI x.group∧okI x.row)
  (h3:rSl 1 As w3 f3 (.slice A3 x.rows.length c3) x.rows∧Ak W1.heap.size w3 f3) (h4:Ap w4 f4 (.slice A4 x.data.length c4) x.data∧Ak w3.heap.size w4 f4) (h5:Ap w5 f5 (.slice A5 x.delta.length c5) x.delta∧Ak w4.heap.size w5 f5) (b4:Below w3.heap.size w3 w4) (b5:Below w4.heap.size w4 w5) (hs:W1.heap.size≤w3.heap.size) :
  Ac w5 (f3 ++(f4 ++ f5)) [int i64 x.kind,int i64 x.seq,.string x.name,int i64 x.length,int i64 x.group,int i64 x.row,.slice A3 x.rows.length c3,.slice A4 x.data.length c4,.slice A5 x.delta.length c5] x∧Ak W1.heap.size w5 (f3 ++(f4 ++ f5)):=by
 obtain⟨o0,o1,o2,o3,o4,o5⟩:=ok;have t3:=rSl.there As.fixed h3.1;have t4:=rSl.there AG.fixed h4.1;have r3:=rSl.below As.local_ As.fixed (rSl.below As.local_ As.fixed h3.1 b4) b5;have r4:=rSl.below AG.local_ AG.fixed h4.1 b5;have m3:=(h3.2.below b4 t3).below b5 (fun a ha => Nat.lt_of_lt_of_le (t3 a ha) b4.size);have m4:=h4.2.below b5 t4;refine⟨⟨_,_,_,f3,f4,f5,rfl,rfl,o0,o1,o2,o3,o4,o5,r3,r4,h5.1⟩,?_⟩;refine Ak.cat (mid:=w3.heap.size) m3 (Ak.cat (mid:=w4.heap.size) m4 h5.2 t4 b4.size) t3 hs
theorem GK(x:Ag)(cs:List Value)(f:List Addr)(w:World)(h:Ac w f cs x)(h0:x.rows.length≤1000000)(h1:x.data.length≤1000000)(h2:x.delta.length≤1000000) :
  Calls Tryz.prog 136 #[.agg cs.toArray] w fun e w' =>∃(cs':List Value) (f':List Addr),e= .returned (.agg cs'.toArray)∧Ac w' f' cs' x∧Ak w.heap.size w' f'∧Below w.heap.size w w':=by
 obtain⟨v0,v1,v2,f0,f1,f2,rfl,-,o0,o1,o2,o3,o4,o5,r0,r1,r2⟩:=h;have HOK:=hid (show okI x.kind∧okI x.seq∧x.name.size≤9223372036854775807∧okI x.length∧okI x.group∧okI x.row from⟨o0,o1,o2,o3,o4,o5⟩);clear o0 o1 o2 o3 o4 o5;obtain⟨A0,c0,rfl,m0,m0'⟩:=rSl.head r0;obtain⟨A1,c1,rfl,m1,m1'⟩:=rSl.head r1;obtain⟨A2,c2,rfl,m2,m2'⟩:=rSl.head r2;obtain⟨Z,hZ⟩:∃Z:Array Value,#[int i64 0,int i64 0,.string ⟨#[]⟩,int i64 0,int i64 0,int i64 0,.slice none 0 0,.slice none 0 0,.slice none 0 0] =Z:=⟨_,rfl⟩;obtain⟨W1,hW1⟩:∃W1,(w.alloc (.cells #[int i64 x.kind,int i64 x.seq,.string x.name,int i64 x.length,int i64 x.group,int i64 x.row,.slice A0 x.rows.length c0,.slice A1 x.data.length c1,.slice A2 x.delta.length c2] 76)).alloc (.cells Z 76)=W1:=⟨_,rfl⟩;have hb1:Below w.heap.size w W1:=by rw[← hW1];exact Aa (Aa (Below.refl _ _) _) _
 have K1:Blk W1 w.heap.size 76 #[int i64 x.kind,int i64 x.seq,.string x.name,int i64 x.length,int i64 x.group,int i64 x.row,.slice A0 x.rows.length c0,.slice A1 x.data.length c1,.slice A2 x.delta.length c2]:=by rw[← hW1];exact(Blk.new w _ _).alloc _
 have K2:Blk W1 (w.heap.size+1) 76 Z:=by rw[← hW1];exact Blk.new1 w _ _ _
 have HKS:=hid (show∀W,Below W1.heap.size W1 W→(W.cell? ⟨w.heap.size,6,none⟩=some (.slice A0 x.rows.length c0)∧W.cell? ⟨w.heap.size,7,none⟩=some (.slice A1 x.data.length c1)∧W.cell? ⟨w.heap.size,8,none⟩=some (.slice A2 x.delta.length c2)∧W.frozen? ⟨w.heap.size,6,none⟩=false∧W.frozen? ⟨w.heap.size,7,none⟩=false∧W.frozen? ⟨w.heap.size,8,none⟩=false∧w.heap.size<W.heap.size)from fun W hW => by
  have K:=K1.below hW K1.lt;exact⟨(K.cell 6).trans rfl,(K.cell 7).trans rfl,(K.cell 8).trans rfl,K.frozen 6,K.frozen 7,K.frozen 8,K.lt⟩)
 have HC0:=hid (fun(W:World) (hW:Below W1.heap.size W1 W) => Gh _ _ _ W (rSl.below As.local_ As.fixed (rSl.below As.local_ As.fixed r0 hb1) hW) h0);have HC1:=hid (fun(W:World) (hW:Below W1.heap.size W1 W) => Cc _ _ _ W (rSl.below AG.local_ AG.fixed (rSl.below AG.local_ AG.fixed r1 hb1) hW) (by omega));have HC2:=hid (fun(W:World) (hW:Below W1.heap.size W1 W) => Cc _ _ _ W (rSl.below AG.local_ AG.fixed (rSl.below AG.local_ AG.fixed r2 hb1) hW) (by omega));have HB1:=hid hb1;have HK1:=hid K1;have HK2:=hid K2;clear K1 K2 r0 r1 r2 hb1 h0 h1 h2;go_enter Tryz.func136,Tryz.ntmps136
 go_wp2_with fail
 try rw[hZ]
 try rw[hW1]
 clear hW1;have q0:=HKS.out W1 (Below.refl _ _);go_region_law (first
   |(go_simp;go_at_call 80;refine(HC0.out _ (by repeat(with_reducible first|assumption|exact Below.refl _ _|apply Aa|apply Ai))).mono ?_;rintro e w3 ⟨A3,c3,f3,rfl,r3,m3,b3⟩;have M3:=hid (And.intro r3 (Ak.viaR (a:=W1) (by repeat(with_reducible first|assumption|exact Below.refl _ _|apply Aa|apply Ai)) m3));have B3:=Below.viaQ (a:=W1) (by repeat(with_reducible first|assumption|exact Below.refl _ _|apply Aa|apply Ai)) b3;have k3:=HKS.out _ B3;dsimp only)
   |(go_simp;go_at_call 73;refine(HC1.out _ (by repeat(with_reducible first|assumption|exact Below.refl _ _|apply Aa|apply Ai))).mono ?_;rintro e w4 ⟨v4,f4,rfl,r4,m4,b4⟩;obtain⟨A4,c4,rfl,-⟩:=Ap.open_ r4;have C4:=hid (Below.viaQ (a:=w3) (by repeat(with_reducible first|assumption|exact Below.refl _ _|apply Aa|apply Ai)) b4);have M4:=hid (And.intro r4 (Ak.viaR (a:=w3) (by repeat(with_reducible first|assumption|exact Below.refl _ _|apply Aa|apply Ai)) m4));have B4:=Below.viaQ (a:=W1) (by repeat(with_reducible first|assumption|exact Below.refl _ _|apply Aa|apply Ai)) b4;have k4:=HKS.out _ B4;dsimp only)
   |(go_simp;go_at_call 73;refine(HC2.out _ (by repeat(with_reducible first|assumption|exact Below.refl _ _|apply Aa|apply Ai))).mono ?_;rintro e w5 ⟨v5,f5,rfl,r5,m5,b5⟩;obtain⟨A5,c5,rfl,-⟩:=Ap.open_ r5;have C5:=hid (Below.viaQ (a:=w4) (by repeat(with_reducible first|assumption|exact Below.refl _ _|apply Aa|apply Ai)) b5);have M5:=hid (And.intro r5 (Ak.viaR (a:=w4) (by repeat(with_reducible first|assumption|exact Below.refl _ _|apply Aa|apply Ai)) m5));have B5:=Below.viaQ (a:=W1) (by repeat(with_reducible first|assumption|exact Below.refl _ _|apply Aa|apply Ai)) b5;have k5:=HKS.out _ B5;dsimp only))
 all_goals
  have HT:=hid (recThree HOK.out M3.out M4.out M5.out C4.out C5.out B3.size);have hz1:w.heap.size+1<W1.heap.size:=HK2.out.lt;have hlo:∀a,a∈f3 ++(f4 ++ f5)→W1.heap.size≤a.block:=fun a ha => HT.out.2.from_ a ha
  have K5:Blk (((w5.setCell ⟨w.heap.size,6,none⟩ (.slice A3 x.rows.length c3)).setCell ⟨w.heap.size,7,none⟩ (.slice A4 x.data.length c4)).setCell ⟨w.heap.size,8,none⟩ (.slice A5 x.delta.length c5)) w.heap.size 76 [int i64 x.kind,int i64 x.seq,.string x.name,int i64 x.length,int i64 x.group,int i64 x.row,.slice A3 x.rows.length c3,.slice A4 x.data.length c4,.slice A5 x.delta.length c5].toArray:=(((HK1.out.below B5 HK1.out.lt).set_ 6 _).set_ 7 _).set_ 8 _;have K6:Blk (((w5.setCell ⟨w.heap.size,6,none⟩ (.slice A3 x.rows.length c3)).setCell ⟨w.heap.size,7,none⟩ (.slice A4 x.data.length c4)).setCell ⟨w.heap.size,8,none⟩ (.slice A5 x.delta.length c5)) (w.heap.size+1) 76 Z:=(((HK2.out.below B5 HK2.out.lt).far (by simp) _).far (by simp) _).far (by simp) _;have b6:Below w.heap.size w (((w5.setCell ⟨w.heap.size,6,none⟩ (.slice A3 x.rows.length c3)).setCell ⟨w.heap.size,7,none⟩ (.slice A4 x.data.length c4)).setCell ⟨w.heap.size,8,none⟩ (.slice A5 x.delta.length c5)):=(((HB1.out.trans (B5.mono HB1.out.size)).setCell (Nat.le_refl _) _).setCell (Nat.le_refl _) _).setCell (Nat.le_refl _) _;obtain⟨W6,hW6⟩:∃W6,(((w5.setCell ⟨w.heap.size,6,none⟩ (.slice A3 x.rows.length c3)).setCell ⟨w.heap.size,7,none⟩ (.slice A4 x.data.length c4)).setCell ⟨w.heap.size,8,none⟩ (.slice A5 x.delta.length c5))=W6:=⟨_,rfl⟩;have t6:Ac W6 (f3 ++(f4 ++ f5)) [int i64 x.kind,int i64 x.seq,.string x.name,int i64 x.length,int i64 x.group,int i64 x.row,.slice A3 x.rows.length c3,.slice A4 x.data.length c4,.slice A5 x.delta.length c5] x∧Ak W1.heap.size W6 (f3 ++(f4 ++ f5)):=by
   rw[← hW6];refine⟨Ac.local_ _ _ _ _ _ HT.out.1 fun a ha => ?_,((HT.out.2.set_ _ _).set_ _ _).set_ _ _⟩;have:=hlo a ha;rw[World.cell?_setCell_other _ _ _ _ (fun e => by rw[← e]at this;simp at this;omega),World.cell?_setCell_other _ _ _ _ (fun e => by rw[← e]at this;simp at this;omega),World.cell?_setCell_other _ _ _ _ (fun e => by rw[← e]at this;simp at this;omega)]
  simp only[hW6]at K5 K6 b6⊢;obtain⟨W7,hW7⟩:∃W7,W6.setCells (w.heap.size+1) 0 [int i64 x.kind,int i64 x.seq,.string x.name,int i64 x.length,int i64 x.group,int i64 x.row,.slice A3 x.rows.length c3,.slice A4 x.data.length c4,.slice A5 x.delta.length c5] =W7:=⟨_,rfl⟩;have T7:=hid (show Ac W7 (f3 ++(f4 ++ f5)) [int i64 x.kind,int i64 x.seq,.string x.name,int i64 x.length,int i64 x.group,int i64 x.row,.slice A3 x.rows.length c3,.slice A4 x.data.length c4,.slice A5 x.delta.length c5] x∧Ak w.heap.size W7 (f3 ++(f4 ++ f5)) by
   rw[← hW7];exact⟨Ac.local_ _ _ _ _ _ t6.1 (CE _ _ 0 _ fun a ha e => by have:=hlo a ha;omega),(Ak.setS _ _ _ _ t6.2).mono (by omega)⟩)
  have HR6:=hid (Blk.rangeAll K5);have HTH:=hid (Blk.there K6 9 (by rw[← hZ];exact Nat.le_refl _));have HW7:=hid hW7;have HK7:=hid (show Blk W7 (w.heap.size+1) 76 [int i64 x.kind,int i64 x.seq,.string x.name,int i64 x.length,int i64 x.group,int i64 x.row,.slice A3 x.rows.length c3,.slice A4 x.data.length c4,.slice A5 x.delta.length c5].toArray by rw[← hW7];exact K6.laid _ (by rw[← hZ];rfl));have HB7:=hid (show Below w.heap.size w W7 by rw[← hW7];exact AF b6 _ 0 (by omega));clear hW6 hW7 K5 K6 b6 k3 k4 k5 q0 B3 B4 B5 m3 m4 m5 r3 r4 r5 b3 b4 b5 t6 hlo hz1;go_wp2_with (first
   |(refine wpList_load_mid rfl 76 (.tmp 1) rfl w.heap.size 0 rfl _ _ HR6.out Tryz.underlying76 rfl (by kernel_rfl) ?_)
   |(refine wpList_store_mid rfl 76 (.tmp 2) (.tmp 15) rfl (w.heap.size+1) 0 [int i64 x.kind,int i64 x.seq,.string x.name,int i64 x.length,int i64 x.group,int i64 x.row,.slice A3 x.rows.length c3,.slice A4 x.data.length c4,.slice A5 x.delta.length c5].toArray rfl rfl HTH.out (by kernel_rfl) (by simp[Value.oneCell']) ?_;rw[show W6.setCells (w.heap.size+1) 0 ([int i64 x.kind,int i64 x.seq,.string x.name,int i64 x.length,int i64 x.group,int i64 x.row,.slice A3 x.rows.length c3,.slice A4 x.data.length c4,.slice A5 x.delta.length c5].toArray).toList =W7 from HW7.out]))
  refine⟨rfl,_,Bb (g:=w.heap.size+1) rfl _ _ _ _ _ rfl HK7.out Tryz.underlying76 rfl (by kernel_rfl),⟨_,_,rfl,T7.out.1,T7.out.2,HB7.out⟩⟩
end Go.Proofs.YthbljikbnoghcaaGreat
