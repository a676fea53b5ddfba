/-
  Part 42 of the proof; the last part states and proves the statement.
-/
import Derived.Test.YthbljikbnoghcaaGreatM41
set_option maxHeartbeats 8000000
set_option maxRecDepth 100000
set_option linter.unusedVariables false
set_option linter.unusedSimpArgs false
open Go.Value (int)
open Go.IntKind (i64)
namespace Go.Proofs.YthbljikbnoghcaaGreat
open Go.RowKit Go.Lib Go.Sort
def AP(d:Ao)(g:Int):Ao:=⟨{ d.world with on:=Cd d.world.s.cap d.world.on g },{ d.desk with turn:=d.desk.turn+1 }⟩
structure DN (w:World) (gG p lo:Nat) (f0 f1 f2 f3 f4 f5:List Addr) (g:Nat) (d:Ao) (v0 v1 v2 u0 u1 u2:Value) (W:World):Prop where
 arc:AJ W p lo f0 f1 f2 f3 f4 f5 d v0 v1 v2 u0 u1 u2
 ka:Blk W w.heap.size 92 #[.pointer (some ⟨p,0,none⟩)]
 kb:Blk W (w.heap.size+1) 93 #[.pointer (some ⟨p,0,none⟩)]
 kg:Blk W gG 2 #[int i64 (g:Int)]
 be:Below lo w W
theorem DN.below {w:World} {gG p lo:Nat} {f0 f1 f2 f3 f4 f5:List Addr} {g:Nat} {d:Ao} {v0 v1 v2 u0 u1 u2:Value} {W W':World}(h:DN w gG p lo f0 f1 f2 f3 f4 f5 g d v0 v1 v2 u0 u1 u2 W)(hb:Below W.heap.size W W')(hl:lo≤W.heap.size):DN w gG p lo f0 f1 f2 f3 f4 f5 g d v0 v1 v2 u0 u1 u2 W' :=
 ⟨h.arc.below hb,h.ka.below hb h.ka.lt,h.kb.below hb h.kb.lt,h.kg.below hb h.kg.lt,h.be.trans (hb.mono hl)⟩
theorem DN.cells {w:World} {gG p lo:Nat} {f0 f1 f2 f3 f4 f5:List Addr} {g:Nat} {d:Ao} {v0 v1 v2 u0 u1 u2:Value} {W:World}(h:DN w gG p lo f0 f1 f2 f3 f4 f5 g d v0 v1 v2 u0 u1 u2 W):W.cell? ⟨w.heap.size,0,none⟩=some (.pointer (some ⟨p,0,none⟩))∧W.cell? ⟨w.heap.size+1,0,none⟩=some (.pointer (some ⟨p,0,none⟩))∧W.cell? ⟨gG,0,none⟩=some (int i64 (g:Int))∧w.heap.size<W.heap.size∧w.heap.size+1<W.heap.size∧gG<W.heap.size∧p<W.heap.size :=
 ⟨(h.ka.cell 0).trans rfl,(h.kb.cell 0).trans rfl,(h.kg.cell 0).trans rfl,h.ka.lt,h.kb.lt,h.kg.lt,h.arc.k.lt⟩
theorem addFn {W:World} {base b:Nat} {v:Value} {ds:List Value} {x:Value}(ho:Aj 1 66 Cu W base v ds [])(hx:x.oneCell'=true)(hn:ds.length+1≤1000000000)(hbase:base≤W.heap.size)(hblk:Blk W b 66 #[x]) :
  ∃v' w',(Builtin.append_ #[96,96] 96 #[v,.slice (some ⟨b,0,none⟩) 1 1]).run Tryz.prog W= .ok v' w'∧∃A n c,v'= .slice A n c∧Hid (n=ds.length+1)∧Aj 1 66 Cu w' base v' (ds ++ [x]) []∧Below base W w'∧W.heap.size≤w'.heap.size:=by
 obtain⟨v',w',q1,h,q2,q3,q4,q5⟩:=Aj.appendOne (P:=Tryz.prog) 96 96 .nilFunc 8 Tryz.underlying96 Tryz.infoFn rfl (by decide) Cu.local_ Cu.fixed Cu.ones base v ds [] ho b [x] [] x rfl hblk ⟨rfl,rfl,hx⟩ (fun a ha => by cases ha) hn (by omega) hbase;have h6:h= []:=List.sublist_nil.1 q3;rw[h6]at q2;obtain⟨A,c,e,-⟩:=q2.length;exact⟨v',w',q1,A,_,c,e,by simp[Hid],q2,Below.grown (Below.refl _ _) q4 hbase (fun k hk =>(ho.lt k hk).1),q4.size⟩
def IF(p bB bA gG:Nat)(x:Value):Prop :=
 x= .func (.func 48) #[.pointer (some ⟨p,0,none⟩)] #[]∨x= .func (.func 49) #[] #[.pointer (some ⟨bB,0,none⟩),.pointer (some ⟨gG,0,none⟩)]∨x= .func (.func 52) #[] #[.pointer (some ⟨bB,0,none⟩),.pointer (some ⟨gG,0,none⟩)]∨x= .func (.func 54) #[] #[.pointer (some ⟨bA,0,none⟩),.pointer (some ⟨gG,0,none⟩)]
theorem turn_c(p lo:Nat)(f0 f1 f2 f3 f4 f5:List Addr)(d:Ao)(v0 v1 v2 u0 u1 u2:Value)(G g:Nat)(w:World)(h:AJ w p lo f0 f1 f2 f3 f4 f5 d v0 v1 v2 u0 u1 u2)(hlo:lo≤w.heap.size)(hI:Cf d.world)(hE:Cv d.desk G)(hG:(G:Int)=d.world.s.g+d.world.s.c)(ht0:0≤d.desk.turn)(ht1:d.desk.turn≤1000000000)(hg:d.desk.turn % (G:Int)=(g:Int))(hlen:(d.world.on.length:Int)≤d.world.s.cap) :
  Calls Tryz.prog 24 #[.pointer (some ⟨p,0,none⟩)] w fun e w' => e= .returned (int i64 0)∧∃f1' v1',AJ w' p lo f0 f1' f2 f3 f4 f5 (AP d (g:Int)) v0 v1' v2 u0 u1 u2∧Below lo w w':=by
 have ga:=hI.ok.g;have gc:=hI.ok.c;have gcap:=hI.ok.cap;simp only[BO.sh]at ga gc gcap;have hG1:1≤G:=by omega
 have hG20:G≤20:=by omega
 have hgG:g<G:=by
  have:=Int.emod_lt_of_pos d.desk.turn (show(0:Int)<(G:Int) by omega);omega
 have hgl:g<d.world.g.length:=by have:=hI.gl;omega
 obtain⟨t,ht⟩:∃t:Nat,d.desk.turn=(t:Int):=⟨d.desk.turn.toNat,by omega⟩;have htb:t≤1000000000:=by omega
 have HCA:=hid (fun(W:World) => Cz d.world.s.sh hI.ok W);unfold shV at HCA;rw[show d.world.s.sh.g=d.world.s.g from rfl,show d.world.s.sh.c=d.world.s.c from rfl,show d.world.s.sh.data=d.world.s.data from rfl,show d.world.s.sh.p=d.world.s.p from rfl,show d.world.s.sh.rows=d.world.s.rows from rfl,show d.world.s.sh.cap=d.world.s.cap from rfl,show d.world.s.sh.b=d.world.s.b from rfl,show d.world.s.sh.q=d.world.s.q from rfl,show d.world.s.sh.t=d.world.s.t from rfl,← hG]at HCA;obtain⟨W2,hW2⟩:∃W2,(w.alloc (.cells #[.pointer (some ⟨p,0,none⟩)] 92)).alloc (.cells #[.pointer (some ⟨p,0,none⟩)] 93)=W2:=⟨_,rfl⟩;have KA:=hid (show Blk W2 w.heap.size 92 #[.pointer (some ⟨p,0,none⟩)] by rw[← hW2];exact(Blk.new w _ _).alloc _);have KB:=hid (show Blk W2 (w.heap.size+1) 93 #[.pointer (some ⟨p,0,none⟩)] by rw[← hW2];exact Blk.new1 w _ _ _);have b2:Below w.heap.size w W2:=by rw[← hW2];exact Aa (Aa (Below.refl _ _) _) _
 have H2:=hid (h.below b2);have HB2:=hid b2;have hp:=h.k.lt;have HSS:=hid (show∀W:World,Below W2.heap.size W2 W→(W.cell? ⟨w.heap.size,0,none⟩=some (.pointer (some ⟨p,0,none⟩))∧W.cell? ⟨w.heap.size+1,0,none⟩=some (.pointer (some ⟨p,0,none⟩))∧W.cell? ⟨p,18,none⟩=some (int i64 (t:Int))∧W.rangeAt p 0 [int i64 d.world.s.g,int i64 d.world.s.c,int i64 d.world.s.data,int i64 d.world.s.p,int i64 d.world.s.rows,int i64 d.world.s.cap,int i64 d.world.s.b,int i64 d.world.s.q,int i64 d.world.s.t]∧p<W.heap.size∧w.heap.size+1<W.heap.size)from fun W hW => by
  have H:=H2.out.below hW;obtain⟨_,_,_,_,_,_,_,_,_,HC⟩:=H.atW.cells;exact⟨((KA.out.below hW KA.out.lt).cell 0).trans rfl,((KB.out.below hW KB.out.lt).cell 0).trans rfl,(H.k.cell 18).trans (by rw[← ht];rfl),HC.s,H.k.lt,(KB.out.below hW KB.out.lt).lt⟩)
 have HI:=hid hI;have HE:=hid hE;have HG:=hid hG;have HT:=hid ht;have HGG:=hid hg;have HREM:=hid (show((t:Nat):Int).tmod (G:Int)=(g:Int) by rw[Int.tmod_eq_emod_of_nonneg (by omega),← ht];exact hg);have HG0:=hid (show¬G=0 by omega);clear h hI hE hG ht b2 hg ht0 ht1 ga gc;go_enter Tryz.func24,Tryz.ntmps24
 go_wp2_with fail
 try rw[hW2]
 clear hW2;go_cut [4] (fun v wx =>∃gG,v= .pointer (some ⟨gG,0,none⟩)∧Hid (W2.heap.size≤gG)∧Hid (Blk wx gG 2 #[int i64 (g:Int)])∧Hid (Below W2.heap.size W2 wx))
 case first =>
  refine wp_region_noPanic ?_;refine wp_region_held_drew (S:=(fun W:World => W.cell? ⟨w.heap.size,0,none⟩=some (.pointer (some ⟨p,0,none⟩))∧W.cell? ⟨w.heap.size+1,0,none⟩=some (.pointer (some ⟨p,0,none⟩))∧W.cell? ⟨p,18,none⟩=some (int i64 (t:Int))∧W.rangeAt p 0 [int i64 d.world.s.g,int i64 d.world.s.c,int i64 d.world.s.data,int i64 d.world.s.p,int i64 d.world.s.rows,int i64 d.world.s.cap,int i64 d.world.s.b,int i64 d.world.s.q,int i64 d.world.s.t]∧p<W.heap.size∧w.heap.size+1<W.heap.size)) (by kernel_rfl) (HSS.out _ (Ai (Below.refl _ _))) (fun hHeld => ?_);refine wpAnyH_take (i:=0) (oi:=_) (v:=.pointer (some ⟨p,0,none⟩)) rfl (by kernel_rfl) (by kernel_rfl) (by kernel_rfl) (fun _ _ _ h => h) (Or.inl ⟨by rfl,by intro w' hSw;obtain⟨s0,s1,s2,-,s4,s5⟩:=hSw;clear hHeld;go_simp⟩) (by assumption) ?_;refine wpAnyH_take (i:=1) (oi:=_) (v:=.pointer (some ⟨p,0,none⟩)) rfl (by kernel_rfl) (by kernel_rfl) (by kernel_rfl) (fun _ _ _ h => h) (Or.inl ⟨by rfl,by intro w' hSw;obtain⟨s0,s1,s2,-,s4,s5⟩:=hSw;clear hHeld;go_simp⟩) (by assumption) ?_;refine wpAnyH_take (i:=2) (oi:=_) (v:=.pointer (some ⟨p,15,none⟩)) rfl (by kernel_rfl) (by kernel_rfl) (by kernel_rfl) (fun _ _ _ h => h) (Or.inl ⟨by rfl,by intro w' hSw;obtain⟨s0,s1,s2,-,s4,s5⟩:=hSw;clear hHeld;go_simp⟩) (by assumption) ?_;refine wpAnyH_take (i:=3) (oi:=_) (v:=.pointer (some ⟨p,18,none⟩)) rfl (by kernel_rfl) (by kernel_rfl) (by kernel_rfl) (fun _ _ _ h => h) (Or.inl ⟨by rfl,by intro w' hSw;obtain⟨s0,s1,s2,-,s4,s5⟩:=hSw;clear hHeld;go_simp⟩) (by assumption) ?_;refine wpAnyH_take (i:=4) (oi:=_) (v:=int i64 (t:Int)) rfl (by kernel_rfl) (by kernel_rfl) (by kernel_rfl) (fun _ _ _ h => h) (Or.inl ⟨by rfl,by intro w' hSw;obtain⟨s0,s1,s2,-,s4,s5⟩:=hSw;clear hHeld;go_simp⟩) (by assumption) ?_;refine wpAnyH_take (i:=5) (oi:=_) (v:=.pointer (some ⟨p,0,none⟩)) rfl (by kernel_rfl) (by kernel_rfl) (by kernel_rfl) (fun _ _ _ h => h) (Or.inl ⟨by rfl,by intro w' hSw;obtain⟨s0,s1,s2,-,s4,s5⟩:=hSw;clear hHeld;go_simp⟩) (by assumption) ?_;refine wpAnyH_take (i:=6) (oi:=_) (v:=.pointer (some ⟨p,0,none⟩)) rfl (by kernel_rfl) (by kernel_rfl) (by kernel_rfl) (fun _ _ _ h => h) (Or.inl ⟨by rfl,by intro w' hSw;obtain⟨s0,s1,s2,-,s4,s5⟩:=hSw;clear hHeld;go_simp⟩) (by assumption) ?_;refine wpAnyH_take (i:=7) (oi:=_) (v:=.pointer (some ⟨p,0,none⟩)) rfl (by kernel_rfl) (by kernel_rfl) (by kernel_rfl) (fun _ _ _ h => h) (Or.inl ⟨by rfl,by intro w' hSw;obtain⟨s0,s1,s2,-,s4,s5⟩:=hSw;clear hHeld;go_simp⟩) (by assumption) ?_;refine wpAnyH_take (i:=8) (oi:=_) (v:=_) rfl (by kernel_rfl) (by kernel_rfl) (by kernel_rfl) (fun _ _ _ h => h) (yieldsIf_load_mid (by rfl) 25 (.tmp 18) rfl p 0 rfl [int i64 d.world.s.g,int i64 d.world.s.c,int i64 d.world.s.data,int i64 d.world.s.p,int i64 d.world.s.rows,int i64 d.world.s.cap,int i64 d.world.s.b,int i64 d.world.s.q,int i64 d.world.s.t] _ (fun _ h => h.2.2.2.1) Tryz.underlying25 rfl (by kernel_rfl)) (by assumption) ?_;refine wpAnyH_ready (rs:=[9,11]) (by kernel_rfl) (by simp) ?_;refine AllReadyH.cons rfl (fun K hK => ?_) (AllReadyH.cons rfl (fun K hK => ?_) AllReadyH.nil)
  ·clear hHeld;go_simp
   go_at_call 40
   refine(HCA.out _).mono ?_;rintro e w3 ⟨rfl,b3⟩;dsimp only;have B3:=Cj b3;refine hK.out _ _ (HSS.out w3 B3) (fun _ => ?_);clear hK;refine wpAnyH_take (i:=10) (oi:=_) (v:=int i64 (g:Int)) rfl (by kernel_rfl) (by kernel_rfl) (by kernel_rfl) (fun _ _ _ h => h) (Or.inl ⟨by rfl,by intro w' hSw;clear hSw;go_simp;rw[if_neg HG0.out,HREM.out]⟩) (by assumption) ?_;refine wpAnyH_ready (rs:=[11]) (by kernel_rfl) (by simp) ?_;refine AllReadyH.cons rfl (fun K hK => ?_) AllReadyH.nil;go_simp
   refine hK.out _ _ (HSS.out _ (Aa B3 _)) (fun _ => ?_);clear hK;refine wpAnyH_ready (rs:=[12]) (by kernel_rfl) (by simp) ?_;refine AllReadyH.cons rfl (fun K hK => ?_) AllReadyH.nil;go_simp
   refine hK.out _ _ (HSS.out _ (Aa B3 _)) (fun _ => ?_);clear hK;refine wpAnyH_done (by kernel_rfl) ?_ _;refine NoPanic.normal ?_;go_wp2_with fail
   go_meet
   exact⟨_,rfl,B3.size,Blk.new _ _ _,Aa B3 _⟩
  ·clear hHeld;go_simp
   refine hK.out _ _ (HSS.out _ (Ai (Aa (Below.refl _ _) _))) (fun _ => ?_);clear hK;refine wpAnyH_ready (rs:=[9]) (by kernel_rfl) (by simp) ?_;refine AllReadyH.cons rfl (fun K hK => ?_) AllReadyH.nil;go_simp
   go_at_call 40
   refine(HCA.out _).mono ?_;rintro e w3 ⟨rfl,b3⟩;dsimp only;have B3:=Below.viaQ (a:=W2) (Ai (Aa (Below.refl _ _) _)) b3;have kz:=Blk.ofAlloc (Cj b3);have y0:w3.cell? ⟨W2.heap.size,0,none⟩=some (int i64 0):=(kz.cell 0).trans rfl;have x0:=kz.frozen 0;have zz:=kz.lt;refine hK.out _ _ (HSS.out w3 B3) (fun _ => ?_);clear hK;refine wpAnyH_take (i:=10) (oi:=_) (v:=int i64 (g:Int)) rfl (by kernel_rfl) (by kernel_rfl) (by kernel_rfl) (fun _ _ _ h => h) (Or.inl ⟨by rfl,by intro w' hSw;clear hSw;go_simp;rw[if_neg HG0.out,HREM.out]⟩) (by assumption) ?_;refine wpAnyH_ready (rs:=[12]) (by kernel_rfl) (by simp) ?_;refine AllReadyH.cons rfl (fun K hK => ?_) AllReadyH.nil;go_simp
   refine hK.out _ _ (HSS.out _ (CA B3 _ _)) (fun _ => ?_);clear hK;refine wpAnyH_done (by kernel_rfl) ?_ _;refine NoPanic.normal ?_;go_wp2_with fail
   go_meet
   exact⟨W2.heap.size,rfl,Nat.le_refl _,kz.set_ 0 _,CA B3 _ _⟩
 case rest =>
  obtain⟨gG,rfl,HGG',KG,B3⟩:=hcut;have H3:=H2.out.below B3.out;have KA3:=KA.out.below B3.out KA.out.lt;have KB3:=KB.out.below B3.out KB.out.lt;have a0:wc.cell? ⟨w.heap.size,0,none⟩=some (.pointer (some ⟨p,0,none⟩)):=(KA3.cell 0).trans rfl;have b0:wc.cell? ⟨w.heap.size+1,0,none⟩=some (.pointer (some ⟨p,0,none⟩)):=(KB3.cell 0).trans rfl;have g0:wc.cell? ⟨gG,0,none⟩=some (int i64 (g:Int)):=(KG.out.cell 0).trans rfl;have t18:wc.cell? ⟨p,18,none⟩=some (int i64 (t:Int)):=(H3.k.cell 18).trans (by rw[← HT.out];rfl);have e18:=H3.k.frozen 18;have z1:=KA3.lt;have z2:=KB3.lt;have z3:=KG.out.lt;have z4:=H3.k.lt;have hgp:W2.heap.size≤gG:=HGG'.out;have hpw:p<w.heap.size:=hp;have HGN:=hid (show some gG≠some p by intro e;injection e with e;have:=HB2.out.size;omega);have zA:=KA.out.lt;have zB:=KB.out.lt
  -- the state: the archive and the three cells
  have HS4:=hid (show DN w gG p lo f0 f1 f2 f3 f4 f5 g ⟨d.world,{ d.desk with turn:=d.desk.turn+1 }⟩ v0 v1 v2 u0 u1 u2 (wc.setCell ⟨p,18,none⟩ (int i64 ((t:Int)+1)))from
   ⟨by have:=H3.setTurn ((t:Int)+1) (by unfold okI;omega);rw[← HT.out]at this⊢;exact this,KA3.far (by simp <;> omega) _,KB3.far (by simp <;> omega) _,KG.out.far (by simp <;> omega) _,((HB2.out.mono hlo).trans (B3.out.mono (Nat.le_trans hlo HB2.out.size))).setCell H3.lp _⟩)
  clear H3 KA3 KB3;go_wp2_with fail
  obtain⟨W4,hW4⟩:∃W4,wc.setCell ⟨p,18,none⟩ (int i64 ((t:Int)+1))=W4:=⟨_,rfl⟩;rw[hW4]at HS4⊢;have hl4:lo≤W4.heap.size:=by rw[← hW4];simp only[World.setCell,Array.size_modify,Array.size_setIfInBounds];omega
  clear hW4 a0 b0 g0 t18 e18 z1 z2 z3 z4 hgp zA zB KG B3 HGG' HSS H2;refine(light_c p lo f0 f1 f2 f3 f4 f5 _ v0 v1 v2 u0 u1 u2 (g:Int) W4 HS4.out.arc hl4 gcap.1 hlen (show d.world.s.cap≤1000 by omega) (by unfold okI;omega)).mono ?_;rintro e w5 ⟨rfl,f1',v1',H5,b5,gr5⟩;have HS5:=hid (show DN w gG p lo f0 f1' f2 f3 f4 f5 g (AP d (g:Int)) v0 v1' v2 u0 u1 u2 w5 from⟨H5,HS4.out.ka.grown gr5 (by intro e;injection e with e;omega),HS4.out.kb.grown gr5 (by intro e;injection e with e;omega),HS4.out.kg.grown gr5 HGN.out,HS4.out.be.trans b5⟩);have hl5:lo≤w5.heap.size:=Nat.le_trans hl4 b5.size;have HI':=hid (show Cf (AP d (g:Int)).world from HI.out.on_ _);have HE':=hid (show Cv (AP d (g:Int)).desk G from HE.out.turn_ _);obtain⟨a0,b0,g0,z1,z2,z3,z4⟩:=HS5.out.cells;clear H5 b5 gr5 HS4;go_wp2_with fail
  refine(Ir p _ _ w5 HS5.out.arc.atW HI'.out.rc HI'.out.tp).mono ?_;rintro e w6 ⟨rfl,b6⟩;have HS6:=hid (HS5.out.below b6 hl5);have hl6:lo≤w6.heap.size:=Nat.le_trans hl5 b6.size;clear a0 b0 g0 z1 z2 z3 z4 HS5 b6;obtain⟨a0,b0,g0,z1,z2,z3,z4⟩:=HS6.out.cells;go_wp2_with fail
  refine(L7 p _ _ g w6 HS6.out.arc.atW HI'.out hgl).mono ?_;rintro e w7 ⟨rfl,b7⟩;have HS7:=hid (HS6.out.below b7 hl6);have hl7:lo≤w7.heap.size:=Nat.le_trans hl6 b7.size;clear a0 b0 g0 z1 z2 z3 z4 HS6 b7;obtain⟨a0,b0,g0,z1,z2,z3,z4⟩:=HS7.out.cells;have HSS8:=hid (show∀W,Below w7.heap.size w7 W→(W.cell? ⟨w.heap.size+1,0,none⟩=some (.pointer (some ⟨p,0,none⟩))∧W.cell? ⟨gG,0,none⟩=some (int i64 (g:Int))∧W.rangeAt p 0 [int i64 d.world.s.g,int i64 d.world.s.c,int i64 d.world.s.data,int i64 d.world.s.p,int i64 d.world.s.rows,int i64 d.world.s.cap,int i64 d.world.s.b,int i64 d.world.s.q,int i64 d.world.s.t]∧p<W.heap.size∧w.heap.size+1<W.heap.size∧gG<W.heap.size)from fun W hW => by
   have H:=HS7.out.below hW hl7;obtain⟨a0,b0,g0,z1,z2,z3,z4⟩:=H.cells;obtain⟨_,_,_,_,_,_,_,_,_,HC⟩:=H.arc.atW.cells;exact⟨b0,g0,HC.s,z4,z2,z3⟩)
  have HID:=hid (fun(W:World) => Fs d.world.s.sh HI.out.ok (g:Int) W);unfold shV at HID;rw[show d.world.s.sh.g=d.world.s.g from rfl,show d.world.s.sh.c=d.world.s.c from rfl,show d.world.s.sh.data=d.world.s.data from rfl,show d.world.s.sh.p=d.world.s.p from rfl,show d.world.s.sh.rows=d.world.s.rows from rfl,show d.world.s.sh.cap=d.world.s.cap from rfl,show d.world.s.sh.b=d.world.s.b from rfl,show d.world.s.sh.q=d.world.s.q from rfl,show d.world.s.sh.t=d.world.s.t from rfl]at HID;obtain⟨bi,hbi⟩:∃bi,Al (g:Int) 0 (d.world.s.g - 1)=bi:=⟨_,rfl⟩;rw[hbi]at HID;clear hbi HCA;have hmf:=hmf;go_wp2_with fail
  clear hmf a0 b0 g0 z1 z2 z3 z4;refine wp_region_noPanic ?_;refine wp_region_held_drew (S:=(fun W:World => W.cell? ⟨w.heap.size+1,0,none⟩=some (.pointer (some ⟨p,0,none⟩))∧W.cell? ⟨gG,0,none⟩=some (int i64 (g:Int))∧W.rangeAt p 0 [int i64 d.world.s.g,int i64 d.world.s.c,int i64 d.world.s.data,int i64 d.world.s.p,int i64 d.world.s.rows,int i64 d.world.s.cap,int i64 d.world.s.b,int i64 d.world.s.q,int i64 d.world.s.t]∧p<W.heap.size∧w.heap.size+1<W.heap.size∧gG<W.heap.size)) (by kernel_rfl) (HSS8.out _ (Ai (Aa (Below.refl _ _) _))) (fun hHeld => ?_);refine wpAnyH_take (i:=0) (oi:=_) (v:=.pointer (some ⟨p,0,none⟩)) rfl (by kernel_rfl) (by kernel_rfl) (by kernel_rfl) (fun _ _ _ h => h) (Or.inl ⟨by rfl,by intro w' hSw;obtain⟨s0,s1,-,s4,s5,s6⟩:=hSw;clear hHeld;go_simp⟩) (by assumption) ?_;refine wpAnyH_take (i:=1) (oi:=_) (v:=.pointer (some ⟨p,0,none⟩)) rfl (by kernel_rfl) (by kernel_rfl) (by kernel_rfl) (fun _ _ _ h => h) (Or.inl ⟨by rfl,by intro w' hSw;obtain⟨s0,s1,-,s4,s5,s6⟩:=hSw;clear hHeld;go_simp⟩) (by assumption) ?_;refine wpAnyH_take (i:=2) (oi:=_) (v:=.pointer (some ⟨p,0,none⟩)) rfl (by kernel_rfl) (by kernel_rfl) (by kernel_rfl) (fun _ _ _ h => h) (Or.inl ⟨by rfl,by intro w' hSw;obtain⟨s0,s1,-,s4,s5,s6⟩:=hSw;clear hHeld;go_simp⟩) (by assumption) ?_;refine wpAnyH_take (i:=3) (oi:=_) (v:=_) rfl (by kernel_rfl) (by kernel_rfl) (by kernel_rfl) (fun _ _ _ h => h) (yieldsIf_load_mid (by rfl) 25 (.tmp 50) rfl p 0 rfl [int i64 d.world.s.g,int i64 d.world.s.c,int i64 d.world.s.data,int i64 d.world.s.p,int i64 d.world.s.rows,int i64 d.world.s.cap,int i64 d.world.s.b,int i64 d.world.s.q,int i64 d.world.s.t] _ (fun _ h => h.2.2.1) Tryz.underlying25 rfl (by kernel_rfl)) (by assumption) ?_;refine wpAnyH_take (i:=4) (oi:=_) (v:=int i64 (g:Int)) rfl (by kernel_rfl) (by kernel_rfl) (by kernel_rfl) (fun _ _ _ h => h) (Or.inl ⟨by rfl,by intro w' hSw;obtain⟨s0,s1,-,s4,s5,s6⟩:=hSw;clear hHeld;go_simp⟩) (by assumption) ?_;refine wpAnyH_ready (rs:=[5]) (by kernel_rfl) (by simp) ?_;refine AllReadyH.cons rfl (fun K hK => ?_) AllReadyH.nil;clear hHeld;go_simp
  go_at_call 51
  refine(HID.out _).mono ?_;rintro e w9 ⟨rfl,b9⟩;dsimp only;have B9:=hid (show Below (w7.alloc (.cells #[.func (.func 48) #[.pointer (some ⟨p,0,none⟩)] #[],.func (.func 49) #[] #[.pointer (some ⟨w.heap.size+1,0,none⟩),.pointer (some ⟨gG,0,none⟩)]] 66)).heap.size (w7.alloc (.cells #[.func (.func 48) #[.pointer (some ⟨p,0,none⟩)] #[],.func (.func 49) #[] #[.pointer (some ⟨w.heap.size+1,0,none⟩),.pointer (some ⟨gG,0,none⟩)]] 66)) w9 from Cj b9);have B79:Below w7.heap.size w7 w9:=(Aa (Below.refl _ _) _).trans (B9.out.mono (by simp));refine hK.out _ _ (HSS8.out w9 B79) (fun _ => ?_);clear hK;refine wpAnyH_done (by kernel_rfl) ?_ _;refine NoPanic.normal ?_;have HOW9:=hid ((Aj.two w7 (.func (.func 48) #[.pointer (some ⟨p,0,none⟩)] #[]) (.func (.func 49) #[] #[.pointer (some ⟨w.heap.size+1,0,none⟩),.pointer (some ⟨gG,0,none⟩)]) rfl rfl).below Cu.local_ Cu.fixed B9.out);have HB79:=hid B79;clear b9 B79 B9;have HDS:=hid (show∀x,x∈[(.func (.func 48) #[.pointer (some ⟨p,0,none⟩)] #[]:Value),.func (.func 49) #[] #[.pointer (some ⟨w.heap.size+1,0,none⟩),.pointer (some ⟨gG,0,none⟩)]]→IF p (w.heap.size+1) w.heap.size gG x from fun x hx => by
   rcases List.mem_cons.1 hx with rfl|hx
   ·exact .inl rfl
   ·rcases List.mem_cons.1 hx with rfl|hx
    ·exact .inr (.inl rfl)
    ·cases hx)
  obtain⟨ds,hds⟩:∃ds,[(.func (.func 48) #[.pointer (some ⟨p,0,none⟩)] #[]:Value),.func (.func 49) #[] #[.pointer (some ⟨w.heap.size+1,0,none⟩),.pointer (some ⟨gG,0,none⟩)]] =ds:=⟨_,rfl⟩;have HLD:=hid (show ds.length=2 by rw[← hds];rfl);rw[hds]at HOW9 HDS;clear hds;cases bi with
  |true =>
   have hmf:=hmf;go_wp2_with (first
    |(at_builtin;refine AB rfl (.tmp 54) (.tmp 56) 96 rfl _ _ (by rfl) (by rfl) (addFn (b:=w9.heap.size) (Aj.alloc_ (o:=.cells #[.func (.func 52) #[] #[.pointer (some ⟨w.heap.size+1,0,none⟩),.pointer (some ⟨gG,0,none⟩)]] 66) Cu.local_ Cu.fixed HOW9.out) rfl (by rw[HLD.out];omega) (Nat.le_trans HB79.out.size (by simp)) (Blk.new _ _ _)) ?_;rintro v10 w10 ⟨A10,n10,c10,rfl,HN10,o10,b10,s10⟩;have O10:=hid o10;have B10:=hid ((Aa HB79.out _).trans b10);clear o10 b10 s10)
    |(at_builtin;refine AB rfl (.tmp 58) (.tmp 60) 96 rfl _ _ (by rfl) (by rfl) (addFn (b:=w10.heap.size) (Aj.alloc_ (o:=.cells #[.func (.func 54) #[] #[.pointer (some ⟨w.heap.size,0,none⟩),.pointer (some ⟨gG,0,none⟩)]] 66) Cu.local_ Cu.fixed O10.out) rfl (by simp[HLD.out]) (Nat.le_trans B10.out.size (by simp)) (Blk.new _ _ _)) ?_;rintro v11 w11 ⟨A11,n11,c11,rfl,HN11,o11,b11,s11⟩;have O11:=hid o11;have B11:=hid ((Aa B10.out _).trans b11);clear o11 b11 s11))
   obtain⟨L,hL⟩:∃L,L=ds ++ [(.func (.func 52) #[] #[.pointer (some ⟨w.heap.size+1,0,none⟩),.pointer (some ⟨gG,0,none⟩)]:Value)] ++ [.func (.func 54) #[] #[.pointer (some ⟨w.heap.size,0,none⟩),.pointer (some ⟨gG,0,none⟩)]]:=⟨_,rfl⟩;have HLN:=hid (show L.length=n11∧n11≤10 by have h1:=HN11.out;have h3:=HN10.out;have h2:=HLD.out;rw[hL];simp at h1⊢;omega);have HFN:=hid (show∀x,x∈L→IF p (w.heap.size+1) w.heap.size gG x from fun x hx => by
    rw[hL]at hx;rcases List.mem_append.1 hx with hx|hx
    ·rcases List.mem_append.1 hx with hx|hx
     ·exact HDS.out _ hx
     ·rw[List.mem_singleton.1 hx];exact .inr (.inr (.inl rfl))
    ·rw[List.mem_singleton.1 hx];exact .inr (.inr (.inr rfl)))
   rw[← hL]at O11;clear hL HN11 HLD HDS HOW9 HB79 HN10 O10 B10;obtain⟨gs,rr,-⟩:=O11.out.reads;obtain⟨A',c',e',-,-,hx⟩:=rSl.at_ Cu.fixed (by decide) rr;injection e' with e1 e2 e3
   subst e1;clear e2 e3 rr O11;have HX:=hid hx;clear hx;have HSC:=hid (show∀W,Below w7.heap.size w7 W→DN w gG p lo f0 f1' f2 f3 f4 f5 g (AP d (g:Int)) v0 v1' v2 u0 u1 u2 W from fun W hW => HS7.out.below hW hl7);go_loopw [64] (fun i wr =>∃j:Nat,j≤n11∧i= int i64 j∧Hid (Below w7.heap.size w7 wr)∧Hid (Below w11.heap.size w11 wr)) (fun i _ => n11 - (intOf i).toNat)
   case atStart => exact⟨0,by omega,rfl,B11.out,Below.refl _ _⟩
   case round =>
    obtain⟨j,hj,rfl,HBr,HBs⟩:=hrel;have HBR:=hid (Nat.le_trans hl7 HBr.out.size);have HLN':=HLN.out;obtain⟨a0,b0,g0,z1,z2,z3,z4⟩:=(HSC.out _ HBr.out).cells;by_cases hlt:j<n11
    ·obtain⟨ad,b,o,cs,fk,rfl,hat⟩:=HX.out j (by omega);have pl:=hat.place;have cz:=hat.cell 0 (by rw[hat.len];omega);have rv:=hat.reads;have lb:=hat.lt;obtain⟨rc1,-,-⟩:=rv;subst rc1;simp only[Nat.mul_one,Nat.add_zero,List.getElem_cons_zero]at pl cz;have hfx:=HFN.out _ (List.getElem_mem (l:=L) (n:=j) (by omega));obtain⟨x,hxx⟩:∃x,L[j]'(by omega)=x:=⟨_,rfl⟩;rw[hxx]at hfx cz;have cr:wr.cell? (ad.add j)=some x:=by rw[pl];exact(HBs.out.cell (p:=⟨b,o,none⟩) lb).trans cz
     clear hat hxx cz;have HJ:=hid (show j+1≤n11 by omega);clear pl lb HFN;rcases hfx with rfl|rfl|rfl|rfl
     ·go_wp2_with fail
      refine(GS p _ _ wr (HSC.out _ HBr.out).arc.atW HI'.out).mono ?_;rintro e w5 ⟨rfl,b5⟩;have B5:=hid b5;clear b5;go_wp2_with fail
      go_roundw
      case rel => exact⟨j+1,HJ.out,by go_num,HBr.out.trans (B5.out.mono HBr.out.size),HBs.out.trans (B5.out.mono HBs.out.size)⟩
      case measure => simp[intOf];omega
     ·go_wp2_with fail
      refine(Kj p _ gG _ _ g wr (HSC.out _ HBr.out).arc.atW HI'.out hgl b0 g0 z2 z3).mono ?_;rintro e w5 ⟨rfl,b5⟩;have B5:=hid b5;clear b5;go_wp2_with fail
      go_roundw
      case rel => exact⟨j+1,HJ.out,by go_num,HBr.out.trans (B5.out.mono HBr.out.size),HBs.out.trans (B5.out.mono HBs.out.size)⟩
      case measure => simp[intOf];omega
     ·go_wp2_with fail
      refine(Kk p _ gG _ _ g wr (HSC.out _ HBr.out).arc.atW HI'.out hgl b0 g0 z2 z3).mono ?_;rintro e w5 ⟨rfl,b5⟩;have B5:=hid b5;clear b5;go_wp2_with fail
      go_roundw
      case rel => exact⟨j+1,HJ.out,by go_num,HBr.out.trans (B5.out.mono HBr.out.size),HBs.out.trans (B5.out.mono HBs.out.size)⟩
      case measure => simp[intOf];omega
     ·go_wp2_with fail
      refine(Kl p _ gG _ (AP d (g:Int)) G g wr (HSC.out _ HBr.out).arc.atW (HSC.out _ HBr.out).arc.dk HI'.out HE'.out hgG a0 g0 z1 z3).mono ?_;rintro e w5 ⟨rfl,b5⟩;have B5:=hid b5;clear b5;go_wp2_with fail
      go_roundw
      case rel => exact⟨j+1,HJ.out,by go_num,HBr.out.trans (B5.out.mono HBr.out.size),HBs.out.trans (B5.out.mono HBs.out.size)⟩
      case measure => simp[intOf];omega
    ·obtain rfl:j=n11:=by omega
     go_wp2_with fail
     refine(FN p _ _ wr (HSC.out _ HBr.out).arc.atW HI'.out).mono ?_;rintro e w5 ⟨rfl,b5⟩;have B5:=hid b5;clear b5;go_wp2_with fail
     go_ret
     have HH:=HSC.out _ (HBr.out.trans (B5.out.mono HBr.out.size));exact⟨rfl,f1',v1',HH.arc,HH.be⟩
  |false =>
   have hmf:=hmf;go_wp2_with (first
    |(at_builtin;refine AB rfl (.tmp 58) (.tmp 60) 96 rfl _ _ (by rfl) (by rfl) (addFn (b:=w9.heap.size) (Aj.alloc_ (o:=.cells #[.func (.func 54) #[] #[.pointer (some ⟨w.heap.size,0,none⟩),.pointer (some ⟨gG,0,none⟩)]] 66) Cu.local_ Cu.fixed HOW9.out) rfl (by rw[HLD.out];omega) (Nat.le_trans HB79.out.size (by simp)) (Blk.new _ _ _)) ?_;rintro v11 w11 ⟨A11,n11,c11,rfl,HN11,o11,b11,s11⟩;have O11:=hid o11;have B11:=hid ((Aa HB79.out _).trans b11);clear o11 b11 s11))
   obtain⟨L,hL⟩:∃L,L=ds ++ [(.func (.func 54) #[] #[.pointer (some ⟨w.heap.size,0,none⟩),.pointer (some ⟨gG,0,none⟩)]:Value)]:=⟨_,rfl⟩;have HLN:=hid (show L.length=n11∧n11≤10 by have h1:=HN11.out;have h2:=HLD.out;rw[hL];simp at h1⊢;omega);have HFN:=hid (show∀x,x∈L→IF p (w.heap.size+1) w.heap.size gG x from fun x hx => by
    rw[hL]at hx;rcases List.mem_append.1 hx with hx|hx
    ·exact HDS.out _ hx
    ·rw[List.mem_singleton.1 hx];exact .inr (.inr (.inr rfl)))
   rw[← hL]at O11;clear hL HN11 HLD HDS HOW9 HB79;obtain⟨gs,rr,-⟩:=O11.out.reads;obtain⟨A',c',e',-,-,hx⟩:=rSl.at_ Cu.fixed (by decide) rr;injection e' with e1 e2 e3
   subst e1;clear e2 e3 rr O11;have HX:=hid hx;clear hx;have HSC:=hid (show∀W,Below w7.heap.size w7 W→DN w gG p lo f0 f1' f2 f3 f4 f5 g (AP d (g:Int)) v0 v1' v2 u0 u1 u2 W from fun W hW => HS7.out.below hW hl7);go_loopw [64] (fun i wr =>∃j:Nat,j≤n11∧i= int i64 j∧Hid (Below w7.heap.size w7 wr)∧Hid (Below w11.heap.size w11 wr)) (fun i _ => n11 - (intOf i).toNat)
   case atStart => exact⟨0,by omega,rfl,B11.out,Below.refl _ _⟩
   case round =>
    obtain⟨j,hj,rfl,HBr,HBs⟩:=hrel;have HBR:=hid (Nat.le_trans hl7 HBr.out.size);have HLN':=HLN.out;obtain⟨a0,b0,g0,z1,z2,z3,z4⟩:=(HSC.out _ HBr.out).cells;by_cases hlt:j<n11
    ·obtain⟨ad,b,o,cs,fk,rfl,hat⟩:=HX.out j (by omega);have pl:=hat.place;have cz:=hat.cell 0 (by rw[hat.len];omega);have rv:=hat.reads;have lb:=hat.lt;obtain⟨rc1,-,-⟩:=rv;subst rc1;simp only[Nat.mul_one,Nat.add_zero,List.getElem_cons_zero]at pl cz;have hfx:=HFN.out _ (List.getElem_mem (l:=L) (n:=j) (by omega));obtain⟨x,hxx⟩:∃x,L[j]'(by omega)=x:=⟨_,rfl⟩;rw[hxx]at hfx cz;have cr:wr.cell? (ad.add j)=some x:=by rw[pl];exact(HBs.out.cell (p:=⟨b,o,none⟩) lb).trans cz
     clear hat hxx cz;have HJ:=hid (show j+1≤n11 by omega);clear pl lb HFN;rcases hfx with rfl|rfl|rfl|rfl
     ·go_wp2_with fail
      refine(GS p _ _ wr (HSC.out _ HBr.out).arc.atW HI'.out).mono ?_;rintro e w5 ⟨rfl,b5⟩;have B5:=hid b5;clear b5;go_wp2_with fail
      go_roundw
      case rel => exact⟨j+1,HJ.out,by go_num,HBr.out.trans (B5.out.mono HBr.out.size),HBs.out.trans (B5.out.mono HBs.out.size)⟩
      case measure => simp[intOf];omega
     ·go_wp2_with fail
      refine(Kj p _ gG _ _ g wr (HSC.out _ HBr.out).arc.atW HI'.out hgl b0 g0 z2 z3).mono ?_;rintro e w5 ⟨rfl,b5⟩;have B5:=hid b5;clear b5;go_wp2_with fail
      go_roundw
      case rel => exact⟨j+1,HJ.out,by go_num,HBr.out.trans (B5.out.mono HBr.out.size),HBs.out.trans (B5.out.mono HBs.out.size)⟩
      case measure => simp[intOf];omega
     ·go_wp2_with fail
      refine(Kk p _ gG _ _ g wr (HSC.out _ HBr.out).arc.atW HI'.out hgl b0 g0 z2 z3).mono ?_;rintro e w5 ⟨rfl,b5⟩;have B5:=hid b5;clear b5;go_wp2_with fail
      go_roundw
      case rel => exact⟨j+1,HJ.out,by go_num,HBr.out.trans (B5.out.mono HBr.out.size),HBs.out.trans (B5.out.mono HBs.out.size)⟩
      case measure => simp[intOf];omega
     ·go_wp2_with fail
      refine(Kl p _ gG _ (AP d (g:Int)) G g wr (HSC.out _ HBr.out).arc.atW (HSC.out _ HBr.out).arc.dk HI'.out HE'.out hgG a0 g0 z1 z3).mono ?_;rintro e w5 ⟨rfl,b5⟩;have B5:=hid b5;clear b5;go_wp2_with fail
      go_roundw
      case rel => exact⟨j+1,HJ.out,by go_num,HBr.out.trans (B5.out.mono HBr.out.size),HBs.out.trans (B5.out.mono HBs.out.size)⟩
      case measure => simp[intOf];omega
    ·obtain rfl:j=n11:=by omega
     go_wp2_with fail
     refine(FN p _ _ wr (HSC.out _ HBr.out).arc.atW HI'.out).mono ?_;rintro e w5 ⟨rfl,b5⟩;have B5:=hid b5;clear b5;go_wp2_with fail
     go_ret
     have HH:=HSC.out _ (HBr.out.trans (B5.out.mono HBr.out.size));exact⟨rfl,f1',v1',HH.arc,HH.be⟩
end Go.Proofs.YthbljikbnoghcaaGreat
