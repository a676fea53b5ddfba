/-
  Part 41 of the proof; the last part states and proves the statement.
-/
import Derived.Test.YthbljikbnoghcaaGreatM40
import Derived.Test.YthbljikbnoghcaaGreatM13
set_option maxHeartbeats 8000000
set_option maxRecDepth 100000
set_option linter.unusedVariables false
set_option linter.unusedSimpArgs false
open Go.Value (int)
open Go.IntKind (i64)
namespace Go.Proofs.YthbljikbnoghcaaGreat
open Go.RowKit Go.Lib Go.Sort
def Cd(cap:Int)(on:List Int)(g:Int):List Int:=if g∈on then on else(if(on.length:Int)=cap then on.drop 1 else on) ++ [g]
theorem EU(v:Value)(ds:List Int)(f:List Addr)(w:World)(h:rSl 1 As w f v ds)(hn:ds.length≤1000000) :
  Calls Tryz.prog 80 #[v] w fun e w' =>∃v',e= .returned v'∧Aj 1 2 As w' w.heap.size v' ds []∧Below w.heap.size w w':=by
 have ht:=rSl.there As.fixed h;have b1:Below w.heap.size w (w.alloc (.cells #[] 2)):=(Below.refl _ _).alloc (Nat.le_refl _) _;have HB:=hid b1;have hf:∀a,a∈f→(Value.slice (some ⟨w.heap.size,0,none⟩) 0 0).ownBlock≠some a.block:=fun a ha e => by
  have:=ht a ha;have e2:w.heap.size=a.block:=by injection e
  omega
 have HAP:=hid (He (W:=w.alloc (.cells #[] 2)) (base:=w.heap.size) (v:=.slice (some ⟨w.heap.size,0,none⟩) 0 0) (ds:=[]) (Aj.start ⟨rfl,.inr ⟨w.heap.size,0,#[],rfl,Nat.le_refl _,Blk.new w _ _,Nat.le_refl _,by unfold maxLen;omega,rfl,rfl⟩⟩) (rSl.below As.local_ As.fixed h b1) hf (by simp;omega) b1.size);have hnone:∀n c,v= .slice none n c→ds= []:=fun n c e => by
  obtain⟨A,c1,e1,-,-,h2⟩:=h;rcases h2 with⟨h2,-⟩|⟨ad,-,-,e2,-⟩
  ·exact h2
  ·rw[e1,e2]at e;injection e with e;cases e
 obtain⟨A,c,rfl,hc,hm⟩:=rSl.head h;clear ht h b1;have q22:∀(w:World) (a:Option Addr) (n c n' c':Nat),(binOp .eql 28 (.slice a n c) (.slice none n' c')).run Tryz.prog w= .ok (.bool a.isNone) w:=fun w a n c n' c' => Lib.run_eql_slice_nil w _ _ a n c n' c' Tryz.underlying28
 cases A with
 |none =>
  obtain rfl:=hnone _ _ rfl;clear hnone HAP;go_enter Tryz.func80,Tryz.ntmps80
  go_wp2_with fail
  go_ret
  exact⟨_,rfl,Aj.start ⟨rfl,.inl ⟨rfl,rfl⟩⟩,Below.refl _ _⟩
 |some ad =>
  clear hnone;obtain⟨n,hn0⟩:∃n,ds.length=n:=⟨_,rfl⟩;have HN:=hid hn0;rw[hn0];rw[hn0]at HAP;clear hn0 hc hn;go_enter Tryz.func80,Tryz.ntmps80
  go_wp2_with (at_builtin;refine AB rfl (.tmp 5) (.tmp 6) 28 rfl _ _ (by rfl) (by rfl) HAP.out ?_;rintro v6 w6 ⟨A6,c6,rfl,o6,b6,-⟩;have B6:=hid b6;have O6:=hid o6;clear o6 b6)
  go_ret
  exact⟨_,rfl,by simpa using O6.out,HB.out.trans B6.out⟩
theorem isOn_c(p:Nat)(fs:List Addr)(d:Au)(g:Int)(w:World)(h:AtW w p fs d) :
  Calls Tryz.prog 84 #[.pointer (some ⟨p,0,none⟩),int i64 g] w fun e w' => e= .returned (.bool (decide (g∈d.on)))∧Below w.heap.size w w':=by
 obtain⟨A0,A1,A2,c0,c1,c2,f0,f1,f2,HC⟩:=h.cells;have n10:=HC.on;have lp:=HC.lt;have HK:=hid (CI (.slice A1 d.on.length c1) d.on g f1 w HC.ron);clear HC h;go_enter Tryz.func84,Tryz.ntmps84
 go_wp2_with fail
 refine HK.out.mono ?_;rintro e w1 ⟨rfl,b1⟩;have B1:=hid b1;clear b1;go_wp2_with fail
 go_ret
 exact⟨rfl,B1.out⟩
theorem AJ.tailOn {W:World} {p lo:Nat} {f0 f1 f2 f3 f4 f5:List Addr} {d:Ao} {A1:Option Addr} {n c1:Nat} {v0 v2 u0 u1 u2:Value}(h:AJ W p lo f0 f1 f2 f3 f4 f5 d v0 (.slice A1 n c1) v2 u0 u1 u2)(hn:1≤d.world.on.length) :
  ∃f1',AJ (W.setCell ⟨p,10,none⟩ (.slice (if c1=1 then A1 else A1.map (fun x => x.add (1 * 1))) (n - 1) (c1 - 1))) p lo f0 f1' f2 f3 f4 f5 ⟨{ d.world with on:=d.world.on.drop 1 },d.desk⟩ v0 (.slice (if c1=1 then A1 else A1.map (fun x => x.add (1 * 1))) (n - 1) (c1 - 1)) v2 u0 u1 u2:=by
 obtain⟨g1,g2,-,r2,hp⟩:=h.r1.split hn;have hsub:∀a,a∈g2→a∈f1:=fun a ha => hp.mem_iff.1 (List.mem_append_right _ ha)
 have hm1:=h.m.right.left;refine⟨g2,h.setOn _ g2 _ r2 ⟨?_,fun a ha => hm1.from_ a (hsub a ha),fun a ha => hm1.free a (hsub a ha)⟩ (fun a ha => h.ne a (List.mem_append_right _ (List.mem_append_left _ (hsub a ha)))) (fun a ha hb => h.m.apart a ha (List.mem_append_left _ (hsub a hb))) (fun a ha hb => h.m.right.apart a (hsub a hb) ha)⟩;exact(List.nodup_append.1 (hp.nodup_iff.2 hm1.nodup)).2.1
theorem Eh(W:World)(p o:Nat)(u:Value):W.grownBy (W.setCell ⟨p,o,none⟩ u) (some p):=⟨rfl,rfl,rfl,by simp[World.setCell],fun q hq hne => Below.heap_setCell W _ _ q (fun e => hne (by rw[e]))⟩
theorem lightB {w1 w2 w6:World} {n:Nat} {o:Obj}(b2:Below w1.heap.size w1 w2)(b6:Below (w1.drewN n).heap.size (w2.alloc o) w6):Below w1.heap.size w1 w6 :=
 (b2.alloc b2.size o).trans b6
theorem light_c(p lo:Nat)(f0 f1 f2 f3 f4 f5:List Addr)(d:Ao)(v0 v1 v2 u0 u1 u2:Value)(g:Int)(w:World)(h:AJ w p lo f0 f1 f2 f3 f4 f5 d v0 v1 v2 u0 u1 u2)(hlo:lo≤w.heap.size)(hcap:1≤d.world.s.cap)(hlen:(d.world.on.length:Int)≤d.world.s.cap)(hc6:d.world.s.cap≤1000)(hg:okI g) :
  Calls Tryz.prog 45 #[.pointer (some ⟨p,0,none⟩),int i64 g] w fun e w' => e= .returned (.tuple #[])∧∃f1' v1',AJ w' p lo f0 f1' f2 f3 f4 f5 ⟨{ d.world with on:=Cd d.world.s.cap d.world.on g },d.desk⟩ v0 v1' v2 u0 u1 u2∧Below lo w w'∧w.grownBy w' (some p):=by
 have HO:=hid (isOn_c p _ d.world g w h.atW);by_cases hin:g∈d.world.on
 ·rw[decide_eq_true hin]at HO;have HL:=hid (show Cd d.world.s.cap d.world.on g=d.world.on by unfold Cd;rw[if_pos hin]);have H:=hid h;clear h hin;go_enter Tryz.func45,Tryz.ntmps45
  go_wp2_with fail
  refine HO.out.mono ?_;rintro e w1 ⟨rfl,b1⟩;have B1:=hid b1;clear b1;go_wp2_with fail
  refine bodyPost_ret (results_none rfl _ _ _) rfl ?_;refine⟨rfl,f1,v1,?_,B1.out.mono hlo,Bv B1.out⟩;rw[HL.out];exact H.out.below B1.out
 rw[decide_eq_false hin]at HO;obtain⟨A1,c1,rfl,hc1,hm1⟩:=rSl.head h.r1;obtain⟨n,hn⟩:∃n,d.world.on.length=n:=⟨_,rfl⟩;obtain⟨cp,hcp⟩:∃cp,d.world.s.cap=cp:=⟨_,rfl⟩;have hnb:n≤1000000:=by omega
 by_cases hfull:(n:Int)=cp
 ·have HL:=hid (show Cd d.world.s.cap d.world.on g=d.world.on.drop 1 ++ [g] by unfold Cd;rw[if_neg hin,if_pos (by rw[hn,hcp];exact hfull)]);have hn1:1≤n:=by omega
  have hqn:((n:Int) ==(n:Int))=true:=by simp
  obtain rfl:(n:Int)=cp:=hfull;have H:=hid h;have HN:=hid hn;have HCP:=hid hcp;have HQS:=hid (fun(W:World) => Ee A1 n c1 W);rw[hn]at H hc1;clear h hin hn hcp hcap hlen hc6;have hc1':1≤c1:=by omega
  obtain⟨ad,rfl⟩:∃ad,A1=some ad:=by
   obtain⟨A,c,e1,-,-,h2⟩:=H.out.r1;injection e1 with e1 e2 e3
   rcases h2 with⟨h2,-⟩|⟨ad,-,-,e4,-⟩
   ·have:=HN.out;rw[h2]at this;simp at this;omega
   ·exact⟨ad,e1.trans e4⟩
  by_cases h1:c1=1
  ·subst h1;obtain rfl:n=1:=by omega
   go_enter Tryz.func45,Tryz.ntmps45
   go_wp2_with fail
   refine HO.out.mono ?_;rintro e w1 ⟨rfl,b1⟩;have H1:=H.out.below b1;have B1:=hid b1;have c10:w1.cell? ⟨p,10,none⟩=some (.slice (some ad) 1 1):=(H1.k.cell 10).trans rfl;have c5:w1.cell? ⟨p,5,none⟩=some (int i64 ((1:Nat):Int)):=(H1.k.cell 5).trans (by rw[← HCP.out];rfl);have e10:=H1.k.frozen 10;have lp:=H1.k.lt;have HH1:=hid H1;have hlo1:lo≤w1.heap.size:=Nat.le_trans hlo b1.size;clear b1 H1;go_wp2_with fail
   go_quiet ((go_at_call 85;exact Calls.quiet_of_same ((HQS.out _).mono fun _ _ ⟨a,b⟩ =>⟨a,b.symm⟩)))
   obtain⟨f1t,HT⟩:=(HH1.out.below (Be (Below.refl _ _) nq)).tailOn (by rw[HN.out];exact hn1);rw[if_pos rfl]at HT;rw[show(Value.slice (some ad) (1 - 1) (1 - 1))=Value.slice (some ad) 0 0 from rfl]at HT;have HTT:=hid HT;have HCL:=hid (fun(W:World) (hW:Below ((w1.drewN nq).setCell ⟨p,10,none⟩ (.slice (some ad) 0 0)).heap.size ((w1.drewN nq).setCell ⟨p,10,none⟩ (.slice (some ad) 0 0)) W) => EU (.slice (some ad) 0 0) (d.world.on.drop 1) f1t W (HT.below hW).r1 (by have:=HN.out;rw[List.length_drop];omega));have u10:((w1.drewN nq).setCell ⟨p,10,none⟩ (.slice (some ad) 0 0)).cell? ⟨p,10,none⟩=some (.slice (some ad) 0 0):=(HT.k.cell 10).trans rfl;have us:((w1.drewN nq).setCell ⟨p,10,none⟩ (.slice (some ad) 0 0)).heap.size =w1.heap.size:=by simp[World.setCell,World.drewN]
   clear HT;go_wp2_with fail
   refine(HCL.out _ (Below.refl _ _)).mono ?_;rintro e w2 ⟨v2',rfl,o2,b2⟩;have hb2:=b2.size;have B2:=hid b2;have O2:=hid o2;have HAP:=hid (Ez (x:=g) (W:=w2.alloc (.cells #[int i64 g] 2)) (b:=w2.heap.size) (Aj.alloc_ (o:=.cells #[int i64 g] 2) As.local_ As.fixed o2) hg (by have:=HN.out;rw[List.length_drop];omega) (Nat.le_trans hb2 (by simp)) (Blk.new _ _ _));have US:=hid us;clear o2 b2 us u10 c10 e10;go_wp2_with (at_builtin;refine AB rfl (.tmp 31) (.tmp 33) 28 rfl _ _ (by rfl) (by rfl) HAP.out ?_;rintro v6 w6 ⟨A6,c6,rfl,o6,b6,s6,-⟩;have BB:=hid ((B2.out.alloc B2.out.size (.cells #[int i64 g] 2)).trans b6);have q6:w6.cell? ⟨p,10,none⟩=some (.slice (some ad) 0 0):=((HTT.out.below BB.out).k.cell 10).trans rfl;have e6:=(HTT.out.below BB.out).k.frozen 10;have z6:=(HTT.out.below BB.out).k.lt;have O6:=hid o6;clear o6 b6 s6)
   go_end0
   obtain⟨gs,r7,m7⟩:=Aj.readsMine O6.out (Ak.nil _ _);have us:=US.out;rw[List.length_drop]at r7;refine⟨rfl,gs,.slice A6 (d.world.on.length - 1+1) c6,?_,?_,?_⟩
   ·rw[HL.out];have hth:=HTT.out.there;exact(HTT.out.below BB.out).setOn _ gs _ r7 (m7.mono (by rw[us];exact hlo1)) (fun a ha e => by have:=m7.from_ a ha;omega) (fun a ha hb => by have:=hth a (List.mem_append_left _ ha);have:=m7.from_ a hb;omega) (fun a ha hb => by have:=hth a (List.mem_append_right _ (List.mem_append_right _ ha));have:=m7.from_ a hb;omega)
   ·have b3:Below lo w ((w1.drewN nq).setCell ⟨p,10,none⟩ (.slice (some ad) 0 0)):=(Be (B1.out.mono hlo) nq).setCell HH1.out.lp _;exact(b3.trans (BB.out.mono (by rw[us];exact hlo1))).setCell HH1.out.lp _
   ·exact Co (Co (Co (Bv (Be B1.out nq)) (Eh _ _ _ _)) (Bv BB.out)) (Eh _ _ _ _)
  ·have h1b:(c1=1)=False:=by simp[h1]
   go_enter Tryz.func45,Tryz.ntmps45
   go_wp2_with fail
   refine HO.out.mono ?_;rintro e w1 ⟨rfl,b1⟩;have H1:=H.out.below b1;have B1:=hid b1;have c10:w1.cell? ⟨p,10,none⟩=some (.slice (some ad) n c1):=(H1.k.cell 10).trans rfl;have c5:w1.cell? ⟨p,5,none⟩=some (int i64 (n:Int)):=(H1.k.cell 5).trans (by rw[← HCP.out];rfl);have e10:=H1.k.frozen 10;have lp:=H1.k.lt;have HH1:=hid H1;have hlo1:lo≤w1.heap.size:=Nat.le_trans hlo b1.size;clear b1 H1;go_wp2_with fail
   go_quiet ((go_at_call 85;exact Calls.quiet_of_same ((HQS.out _).mono fun _ _ ⟨a,b⟩ =>⟨a,b.symm⟩)))
   obtain⟨f1t,HT⟩:=(HH1.out.below (Be (Below.refl _ _) nq)).tailOn (by rw[HN.out];exact hn1);rw[if_neg h1]at HT;rw[show(some ad).map (fun x => x.add (1 * 1))=some (ad.add 1)from rfl]at HT;have HTT:=hid HT;have HCL:=hid (fun(W:World) (hW:Below ((w1.drewN nq).setCell ⟨p,10,none⟩ (.slice (some (ad.add 1)) (n - 1) (c1 - 1))).heap.size ((w1.drewN nq).setCell ⟨p,10,none⟩ (.slice (some (ad.add 1)) (n - 1) (c1 - 1))) W) => EU (.slice (some (ad.add 1)) (n - 1) (c1 - 1)) (d.world.on.drop 1) f1t W (HT.below hW).r1 (by have:=HN.out;rw[List.length_drop];omega));have u10:((w1.drewN nq).setCell ⟨p,10,none⟩ (.slice (some (ad.add 1)) (n - 1) (c1 - 1))).cell? ⟨p,10,none⟩=some (.slice (some (ad.add 1)) (n - 1) (c1 - 1)):=(HT.k.cell 10).trans rfl;have us:((w1.drewN nq).setCell ⟨p,10,none⟩ (.slice (some (ad.add 1)) (n - 1) (c1 - 1))).heap.size =w1.heap.size:=by simp[World.setCell,World.drewN]
   clear HT;go_wp2_with fail
   refine(HCL.out _ (Below.refl _ _)).mono ?_;rintro e w2 ⟨v2',rfl,o2,b2⟩;have hb2:=b2.size;have B2:=hid b2;have O2:=hid o2;have HAP:=hid (Ez (x:=g) (W:=w2.alloc (.cells #[int i64 g] 2)) (b:=w2.heap.size) (Aj.alloc_ (o:=.cells #[int i64 g] 2) As.local_ As.fixed o2) hg (by have:=HN.out;rw[List.length_drop];omega) (Nat.le_trans hb2 (by simp)) (Blk.new _ _ _));have US:=hid us;clear o2 b2 us u10 c10 e10;go_wp2_with (at_builtin;refine AB rfl (.tmp 31) (.tmp 33) 28 rfl _ _ (by rfl) (by rfl) HAP.out ?_;rintro v6 w6 ⟨A6,c6,rfl,o6,b6,s6,-⟩;have BB:=hid ((B2.out.alloc B2.out.size (.cells #[int i64 g] 2)).trans b6);have q6:w6.cell? ⟨p,10,none⟩=some (.slice (some (ad.add 1)) (n - 1) (c1 - 1)):=((HTT.out.below BB.out).k.cell 10).trans rfl;have e6:=(HTT.out.below BB.out).k.frozen 10;have z6:=(HTT.out.below BB.out).k.lt;have O6:=hid o6;clear o6 b6 s6)
   go_end0
   obtain⟨gs,r7,m7⟩:=Aj.readsMine O6.out (Ak.nil _ _);have us:=US.out;rw[List.length_drop]at r7;refine⟨rfl,gs,.slice A6 (d.world.on.length - 1+1) c6,?_,?_,?_⟩
   ·rw[HL.out];have hth:=HTT.out.there;exact(HTT.out.below BB.out).setOn _ gs _ r7 (m7.mono (by rw[us];exact hlo1)) (fun a ha e => by have:=m7.from_ a ha;omega) (fun a ha hb => by have:=hth a (List.mem_append_left _ ha);have:=m7.from_ a hb;omega) (fun a ha hb => by have:=hth a (List.mem_append_right _ (List.mem_append_right _ ha));have:=m7.from_ a hb;omega)
   ·have b3:Below lo w ((w1.drewN nq).setCell ⟨p,10,none⟩ (.slice (some (ad.add 1)) (n - 1) (c1 - 1))):=(Be (B1.out.mono hlo) nq).setCell HH1.out.lp _;exact(b3.trans (BB.out.mono (by rw[us];exact hlo1))).setCell HH1.out.lp _
   ·exact Co (Co (Co (Bv (Be B1.out nq)) (Eh _ _ _ _)) (Bv BB.out)) (Eh _ _ _ _)
 ·have HL:=hid (show Cd d.world.s.cap d.world.on g=d.world.on ++ [g] by unfold Cd;rw[if_neg hin,if_neg (by rw[hn,hcp];exact hfull)]);have hq:((n:Int) == cp)=false:=by simpa using hfull
  have H:=hid h;have HN:=hid hn;have HCP:=hid hcp;have HQS:=hid (fun(W:World) => Ee A1 n c1 W);rw[hn]at H hc1;clear h hin hfull hn hcp hcap hlen hc6;go_enter Tryz.func45,Tryz.ntmps45
  go_wp2_with fail
  refine HO.out.mono ?_;rintro e w1 ⟨rfl,b1⟩;have H1:=H.out.below b1;have B1:=hid b1;have c10:w1.cell? ⟨p,10,none⟩=some (.slice A1 n c1):=(H1.k.cell 10).trans rfl;have c5:w1.cell? ⟨p,5,none⟩=some (int i64 cp):=(H1.k.cell 5).trans (by rw[← HCP.out];rfl);have lp:=H1.k.lt;have HH1:=hid H1;have HCL:=hid (fun(W:World) (hW:Below w1.heap.size w1 W) => EU (.slice A1 n c1) d.world.on f1 W (H1.below hW).r1 (by rw[HN.out];exact hnb));have hlo1:lo≤w1.heap.size:=Nat.le_trans hlo b1.size;clear b1 H1;go_wp2_with fail
  go_quiet ((go_at_call 85;exact Calls.quiet_of_same ((HQS.out _).mono fun _ _ ⟨a,b⟩ =>⟨a,b.symm⟩)))
  go_wp2_with fail
  refine(HCL.out _ (Be (Below.refl _ _) _)).mono ?_;rintro e w2 ⟨v2',rfl,o2,b2⟩;have hb2:=b2.size;have B2:=hid (show Below w1.heap.size w1 w2 from(Be (Below.refl _ _) nq).trans b2);have O2:=hid o2;have HAP:=hid (Ez (x:=g) (W:=w2.alloc (.cells #[int i64 g] 2)) (b:=w2.heap.size) (Aj.alloc_ (o:=.cells #[int i64 g] 2) As.local_ As.fixed o2) hg (by rw[HN.out];omega) (Nat.le_trans hb2 (by simp)) (Blk.new _ _ _));clear o2 b2;go_wp2_with (at_builtin;refine AB rfl (.tmp 31) (.tmp 33) 28 rfl _ _ (by rfl) (by rfl) HAP.out ?_;rintro v6 w6 ⟨A6,c6,rfl,o6,b6,s6,-⟩;have BB:=hid (lightB B2.out b6);have q6:w6.cell? ⟨p,10,none⟩=some (.slice A1 n c1):=((HH1.out.below BB.out).k.cell 10).trans rfl;have e6:=(HH1.out.below BB.out).k.frozen 10;have z6:=(HH1.out.below BB.out).k.lt;have O6:=hid o6;clear o6 b6 s6)
  go_end0
  obtain⟨gs,r7,m7⟩:=Aj.readsMine O6.out (Ak.nil _ _);refine⟨rfl,gs,.slice A6 (d.world.on.length+1) c6,?_,?_,?_⟩
  ·rw[HL.out];have hth:=HH1.out.there;exact(HH1.out.below BB.out).setOn _ gs _ (by simpa using r7) (m7.mono hlo1) (fun a ha e => by have:=m7.from_ a ha;simp at this;omega) (fun a ha hb => by have:=hth a (List.mem_append_left _ ha);have:=m7.from_ a hb;simp at this;omega) (fun a ha hb => by have:=hth a (List.mem_append_right _ (List.mem_append_right _ ha));have:=m7.from_ a hb;simp at this;omega)
  ·exact((B1.out.mono hlo).trans (BB.out.mono hlo1)).setCell HH1.out.lp _
  ·exact Co (Co (Bv B1.out) (Bv BB.out)) (Eh _ _ _ _)
theorem Cf.on_ {d:Au}(h:Cf d)(on:List Int):Cf { d with on:=on }:=⟨h.rc,h.tp,h.ok,h.gl,h.dn,h.nd⟩
theorem Cv.turn_ {d:AH} {G:Nat}(h:Cv d G)(t:Int):Cv { d with turn:=t } G:=⟨h.qs,h.asd,h.an,h.gb⟩
theorem Kj(p b3 b4:Nat)(fs:List Addr)(d:Au)(g:Nat)(w:World)(h:AtW w p fs d)(hI:Cf d)(hg:g<d.g.length)(h3:w.cell? ⟨b3,0,none⟩=some (.pointer (some ⟨p,0,none⟩)))(h4:w.cell? ⟨b4,0,none⟩=some (int i64 (g:Int)))(l3:b3<w.heap.size)(l4:b4<w.heap.size) :
  Calls Tryz.prog 49 #[.pointer (some ⟨b3,0,none⟩),.pointer (some ⟨b4,0,none⟩)] w fun e w' => e= .returned (int i64 0)∧Below w.heap.size w w':=by
 have HO:=hid (I0 p fs d g w h hI hg);clear h hI;go_enter Tryz.func49,Tryz.ntmps49
 go_wp2_with fail
 refine HO.out.mono ?_;rintro e w1 ⟨rfl,b1⟩;have B1:=hid b1;clear b1;go_wp2_with fail
 go_ret
 exact⟨rfl,B1.out⟩
theorem Kk(p b3 b4:Nat)(fs:List Addr)(d:Au)(g:Nat)(w:World)(h:AtW w p fs d)(hI:Cf d)(hg:g<d.g.length)(h3:w.cell? ⟨b3,0,none⟩=some (.pointer (some ⟨p,0,none⟩)))(h4:w.cell? ⟨b4,0,none⟩=some (int i64 (g:Int)))(l3:b3<w.heap.size)(l4:b4<w.heap.size) :
  Calls Tryz.prog 52 #[.pointer (some ⟨b3,0,none⟩),.pointer (some ⟨b4,0,none⟩)] w fun e w' => e= .returned (int i64 4)∧Below w.heap.size w w':=by
 have HO:=hid (IY p fs d g w h hI hg);clear h hI;go_enter Tryz.func52,Tryz.ntmps52
 go_wp2_with fail
 refine HO.out.mono ?_;rintro e w1 ⟨rfl,b1⟩;have B1:=hid b1;clear b1;go_wp2_with fail
 go_ret
 exact⟨rfl,B1.out⟩
theorem Kl(p b3 b4:Nat)(fs:List Addr)(d:Ao)(G g:Nat)(w:World)(h:AtW w p fs d.world)(hD:∃A0 A1 A2 k0 k1 k2 g0 g1 g2,Do w p 15 d.desk A0 A1 A2 k0 k1 k2 g0 g1 g2)(hI:Cf d.world)(hE:Cv d.desk G)(hg:g<G)(h3:w.cell? ⟨b3,0,none⟩=some (.pointer (some ⟨p,0,none⟩)))(h4:w.cell? ⟨b4,0,none⟩=some (int i64 (g:Int)))(l3:b3<w.heap.size)(l4:b4<w.heap.size) :
  Calls Tryz.prog 54 #[.pointer (some ⟨b3,0,none⟩),.pointer (some ⟨b4,0,none⟩)] w fun e w' => e= .returned (int i64 0)∧Below w.heap.size w w':=by
 have HO:=hid (serve_n p fs d G g w h hD hI hE hg);clear h hI hD hE;go_enter Tryz.func54,Tryz.ntmps54
 go_wp2_with fail
 refine HO.out.mono ?_;rintro e w1 ⟨rfl,b1⟩;have B1:=hid b1;clear b1;go_wp2_with fail
 go_ret
 exact⟨rfl,B1.out⟩
def Cu:Aw Value:=fun _ fs cs d => cs= [d]∧fs= []∧d.oneCell'=true
theorem Cu.local_:AZ Cu:=fun _ _ _ _ _ h _ => h
theorem Cu.fixed:Bh Cu:=fun _ _ _ _ h a ha => by rw[h.2.1]at ha;cases ha
theorem Cu.ones:∀w f cs d,Cu w f cs d→∀u,u∈cs→u.oneCell'=true:=fun _ _ cs d h u hu => by
 rw[h.1]at hu;simp at hu;rw[hu];exact h.2.2
theorem Tryz.infoFn:(Tryz.prog.info? 66).map (fun i =>(i.zero,i.size,i.bytes))=some (some .nilFunc,1,8):=by kernel_rfl
theorem Aj.two {E:TypeId}(w:World)(x y:Value)(hx:x.oneCell'=true)(hy:y.oneCell'=true):Aj 1 E Cu (w.alloc (.cells #[x,y] E)) w.heap.size (.slice (some ⟨w.heap.size,0,none⟩) 2 2) [x,y] []:=by
 refine⟨[[x],[y]],[[],[]],rfl,rfl,rfl,World.ownsRow_lit (base:=w.heap.size) (e:=E) (size:=1) w #[x,y] 2 (Nat.le_refl _) (by unfold maxLen;omega) rfl,fun i hi => ?_,fun a ha => by cases ha⟩;match i,hi with
 |0,_ => exact⟨by simp,by simp,rfl,rfl,rfl,hx⟩
 |1,_ => exact⟨by simp,by simp,rfl,rfl,rfl,hy⟩
end Go.Proofs.YthbljikbnoghcaaGreat
