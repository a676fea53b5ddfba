/-
  Part 17 of the proof; the last part states and proves the statement.
-/
import Derived.Test.YthbljikbnoghcaaGreatM16
import Derived.Deep.RegionLaw
set_option maxHeartbeats 8000000
set_option maxRecDepth 100000
set_option linter.unusedVariables false
set_option linter.unusedSimpArgs false
open Go.Value (int)
open Go.IntKind (i64)
namespace Go.Proofs.YthbljikbnoghcaaGreat
open Go.RowKit Go.Lib Go.Sort
def Bk(d:Au)(v0 v1 v2:Value):List Value:=[int i64 d.s.g,int i64 d.s.c,int i64 d.s.data,int i64 d.s.p,int i64 d.s.rows,int i64 d.s.cap,int i64 d.s.b,int i64 d.s.q,int i64 d.s.t,v0,v1,v2,int i64 d.u,int i64 d.stop,.bool d.down]
abbrev DF:Array Value:=#[int i64 0,int i64 0,int i64 0,int i64 0,int i64 0,int i64 0,int i64 0,int i64 0,int i64 0,.slice none 0 0,.slice none 0 0,.slice none 0 0,int i64 0,int i64 0,.bool false]
theorem Bk.len(d:Au)(v0 v1 v2:Value):(Bk d v0 v1 v2).length =15:=rfl
structure D3 (d:Au):Prop where
 gs:d.g.length≤1000000
 ds:∀g,g∈d.g→g.length≤1000000
 bs:∀g,g∈d.g→∀x,x∈g→x.blocks.length≤1000000∧∀b,b∈x.blocks→b.bytes.length≤1000000
 on:d.on.length≤1000000
 ts:d.v.length≤1000000
 rs:∀t,t∈d.v→t.recs.length≤1000000∧∀r,r∈t.recs→DM r
def okW(d:Au):Prop:=okI d.s.g∧okI d.s.c∧okI d.s.data∧okI d.s.p∧okI d.s.rows∧okI d.s.cap∧okI d.s.b∧okI d.s.q∧okI d.s.t∧okI d.u∧okI d.stop
theorem AD.parts {w:World} {f:List Addr} {cs:List Value} {d:Au}(h:AD w f cs d):∃v0 v1 v2 f0 f1 f2,cs=Bk d v0 v1 v2∧f=f0 ++(f1 ++ f2)∧okW d∧rSl 1 (Am 2 Av) w f0 v0 d.g∧rSl 1 As w f1 v1 d.on∧rSl 2 AK w f2 v2 d.v:=by
 obtain⟨v0,v1,v2,f0,f1,f2,e,ef,o0,o1,o2,o3,o4,o5,o6,o7,o8,o9,o10,h0,h1,h2⟩:=h;exact⟨v0,v1,v2,f0,f1,f2,e,ef,⟨o0,o1,o2,o3,o4,o5,o6,o7,o8,o9,o10⟩,h0,h1,h2⟩
theorem AD.of {w:World} {f0 f1 f2:List Addr} {v0 v1 v2:Value} {d:Au}(o:okW d)(h0:rSl 1 (Am 2 Av) w f0 v0 d.g)(h1:rSl 1 As w f1 v1 d.on)(h2:rSl 2 AK w f2 v2 d.v):AD w (f0 ++(f1 ++ f2)) (Bk d v0 v1 v2) d:=by
 obtain⟨o0,o1,o2,o3,o4,o5,o6,o7,o8,o9,o10⟩:=o;exact⟨v0,v1,v2,f0,f1,f2,rfl,rfl,o0,o1,o2,o3,o4,o5,o6,o7,o8,o9,o10,h0,h1,h2⟩
theorem wOnes {d:Au} {A0 A1 A2:Option Addr} {n0 n1 n2 c0 c1 c2:Nat}:(Bk d (.slice A0 n0 c0) (.slice A1 n1 c1) (.slice A2 n2 c2)).toArray.all Value.oneCell'=true:=by simp[Bk,Value.oneCell']
theorem Ak.cat2 {lo:Nat} {w:World} {f g:List Addr}(h1:Ak lo w f)(h2:Ak lo w g)(hd:∀a,a∈f→a∉g):Ak lo w (f ++ g):=by
 refine⟨?_,fun a ha => ?_,fun a ha => ?_⟩
 ·unfold List.Nodup;exact List.pairwise_append.2 ⟨h1.nodup,h2.nodup,fun a ha b hb e => hd a ha (e ▸ hb)⟩
 ·rcases List.mem_append.1 ha with ha|ha
  ·exact h1.from_ a ha
  ·exact h2.from_ a ha
 ·rcases List.mem_append.1 ha with ha|ha
  ·exact h1.free a ha
  ·exact h2.free a ha
structure Cq (G0:Prop) (d:Au) (C:List Value) (w:World) (lo base:Nat) (v1:Value) (g4:List Addr) (v0:Value) (fg:List Addr) (v2:Value) (wr:World):Prop where
 ka:Blk wr w.heap.size 31 C.toArray
 kb:Blk wr (w.heap.size+1) 31 DF
 kc:Blk wr (w.heap.size+1+1) 31 (Bk d v0 v1 v2).toArray
 on:rSl 1 As wr g4 v1 d.on
 om:Ak lo wr g4
 ot:∀a,a∈g4→a.block<base
 gr:G0→rSl 1 (Am 2 Av) wr fg v0 d.g∧Ak lo wr fg∧(∀a,a∈fg→a.block<base)∧(∀a,a∈g4→a∉fg)
 lo_:w.heap.size+3≤lo
 le:lo≤base
 hb:base≤wr.heap.size
 be:Below w.heap.size w wr
theorem Cq.below {G0:Prop} {d:Au} {C:List Value} {w:World} {lo base:Nat} {v1:Value} {g4:List Addr} {v0:Value} {fg:List Addr} {v2:Value} {wr w':World}(h:Cq G0 d C w lo base v1 g4 v0 fg v2 wr)(hb:Below base wr w'):Cq G0 d C w lo base v1 g4 v0 fg v2 w':=by
 have h1:=h.lo_;have h2:=h.le;have h3:=h.hb;have hk:∀g,g<base→g<base:=fun _ h => h
 refine⟨h.ka.below hb (by omega),h.kb.below hb (by omega),h.kc.below hb (by omega),rSl.keep As.local_ h.on (AT.of_below h.ot hb),h.om.keep (fun a ha => hb.frozen (h.ot a ha)),h.ot,fun q => ?_,h.lo_,h.le,Nat.le_trans h3 hb.size,h.be.trans (hb.mono (by omega))⟩;obtain⟨q1,q2,q3,q4⟩:=h.gr q;exact⟨rSl.keep (Am.local_ Av.local_) q1 (AT.of_below q3 hb),q2.keep (fun a ha => hb.frozen (q3 a ha)),q3,q4⟩
theorem Cq.set9 {d:Au} {C:List Value} {w:World} {lo base:Nat} {v1:Value} {g4:List Addr} {v0:Value} {fg:List Addr} {v2:Value} {wr:World}(h:Cq False d C w lo base v1 g4 v0 fg v2 wr)(u:Value):Cq False d C w lo base v1 g4 u fg v2 (wr.setCell ⟨w.heap.size+1+1,9,none⟩ u):=by
 have h1:=h.lo_;refine⟨h.ka.far (by simp <;> omega) _,h.kb.far (by simp <;> omega) _,h.kc.set_ 9 u,rSl.keep As.local_ h.on (AT.set_ _ h.om.from_ (by show _<lo;simp;omega) _),h.om.set_ _ _,h.ot,fun q => q.elim,h.lo_,h.le,by have:=h.hb;simpa [World.setCell]using this,h.be.setCell (by simp;omega) _⟩
theorem Cq.set11 {G0:Prop} {d:Au} {C:List Value} {w:World} {lo base:Nat} {v1:Value} {g4:List Addr} {v0:Value} {fg:List Addr} {v2:Value} {wr:World}(h:Cq G0 d C w lo base v1 g4 v0 fg v2 wr)(u:Value):Cq G0 d C w lo base v1 g4 v0 fg u (wr.setCell ⟨w.heap.size+1+1,11,none⟩ u):=by
 have h1:=h.lo_;refine⟨h.ka.far (by simp <;> omega) _,h.kb.far (by simp <;> omega) _,h.kc.set_ 11 u,rSl.keep As.local_ h.on (AT.set_ _ h.om.from_ (by show _<lo;simp;omega) _),h.om.set_ _ _,h.ot,fun q => ?_,h.lo_,h.le,by have:=h.hb;simpa [World.setCell]using this,h.be.setCell (by simp;omega) _⟩;obtain⟨q1,q2,q3,q4⟩:=h.gr q;exact⟨rSl.keep (Am.local_ Av.local_) q1 (AT.set_ _ q2.from_ (by show _<lo;simp;omega) _),q2.set_ _ _,q3,q4⟩
def Bu:Aw AU:=fun w fs cs d => AK w fs cs d∧(d.recs= []→∃A,cs[1]? =some (.slice A 0 0))
theorem Bu.local_:AZ Bu:=fun _ _ _ _ _ h hs =>⟨AK.local_ _ _ _ _ _ h.1 hs,h.2⟩
theorem Bu.fixed:Bh Bu:=fun _ _ _ _ h => AK.fixed _ _ _ _ h.1
theorem Bu.ones:∀(w:World) (f:List Addr) (cs:List Value) (d:AU),Bu w f cs d→∀u,u∈cs→u.oneCell'=true:=fun w f cs d h => AK.ones w f cs d h.1
theorem rSl.imp {α:Type} {k:Nat} {R R':Aw α}(hi:∀w f cs d,R w f cs d→R' w f cs d) {w:World} {fs:List Addr} {v:Value} {ds:List α}(h:rSl k R w fs v ds):rSl k R' w fs v ds:=by
 obtain⟨A,c,e,h1,h2,h3⟩:=h;refine⟨A,c,e,h1,h2,?_⟩;rcases h3 with h3|⟨ad,css,fss,e1,e2,e3,e4,h3⟩
 ·exact .inl h3
 ·refine .inr ⟨ad,css,fss,e1,e2,e3,e4,fun i hi2 => ?_⟩;obtain⟨q1,q2,q3,q4,q5⟩:=h3 i hi2;exact⟨q1,q2,q3,q4,hi _ _ _ _ q5⟩
def WorldZ(w:World)(f:List Addr)(cs:List Value)(d:Au):Prop:=∃v0 v1 v2 f0 f1 f2,cs=Bk d v0 v1 v2∧f=f0 ++(f1 ++ f2)∧rSl 1 (Am 2 Av) w f0 v0 d.g∧rSl 1 As w f1 v1 d.on∧rSl 2 Bu w f2 v2 d.v
theorem IT(d:Au)(cs:List Value)(f:List Addr)(w:World)(h:AD w f cs d)(hs:D3 d) :
  Calls Tryz.prog 43 #[.agg cs.toArray] w fun e w' =>∃cs' f',e= .returned (.agg cs'.toArray)∧AD w' f' cs' d∧WorldZ w' f' cs' d∧Ak w.heap.size w' f'∧Below w.heap.size w w':=by
 obtain⟨v0,v1,v2,f0,f1,f2,rfl,-,hok,r0,r1,r2⟩:=h.parts;clear h;obtain⟨A0,c0,rfl,hc0,hm0,hx0⟩:=rSl.at_ (Am.fixed Av.fixed) (by omega) r0;obtain⟨A1,c1,rfl,hc1,hm1⟩:=rSl.head r1;obtain⟨A2,c2,rfl,hc2,hm2,hx2⟩:=rSl.at_ AK.fixed (by omega) r2;obtain⟨G,hG⟩:∃G,d.g.length=G:=⟨_,rfl⟩;obtain⟨T,hT⟩:∃T,d.v.length=T:=⟨_,rfl⟩;obtain⟨nO,hO⟩:∃nO,d.on.length=nO:=⟨_,rfl⟩;have hGb:G≤1000000:=by have:=hs.gs;omega
 have hTb:T≤1000000:=by have:=hs.ts;omega
 obtain⟨C,hC⟩:∃C,Bk d (.slice A0 d.g.length c0) (.slice A1 d.on.length c1) (.slice A2 d.v.length c2)=C:=⟨_,rfl⟩;have hCl:C.length=15:=by rw[← hC];rfl
 have hC9:C.toArray[9]? =some (.slice A0 G c0):=by rw[← hC,← hG];rfl
 have hC10:C.toArray[10]? =some (.slice A1 nO c1):=by rw[← hC,← hO];rfl
 have hC11:C.toArray[11]? =some (.slice A2 T c2):=by rw[← hC,← hT];rfl
 have HC1:C.toArray.all Value.oneCell'=true:=by rw[← hC];exact wOnes
 rw[hC]
 -- the three blocks
 obtain⟨W2,hW2⟩:∃W2,(((w.alloc (.cells C.toArray 31)).alloc (.cells DF 31)).alloc (.cells DF 31))=W2:=⟨_,rfl⟩;have KA:Blk W2 w.heap.size 31 C.toArray:=by rw[← hW2];exact((Blk.new w _ _).alloc _).alloc _
 have KB:Blk W2 (w.heap.size+1) 31 DF:=by rw[← hW2];exact(Blk.new1 w _ _ _).alloc _
 have KC:Blk W2 (w.heap.size+1+1) 31 DF:=by rw[← hW2];exact Blk.new2 w _ _ _ _
 have b2:Below w.heap.size w W2:=by rw[← hW2];exact Aa (Aa (Aa (Below.refl _ _) _) _) _
 obtain⟨W3,hW3⟩:∃W3,W2.setCells (w.heap.size+1+1) 0 C=W3:=⟨_,rfl⟩;have KA3:Blk W3 w.heap.size 31 C.toArray:=by rw[← hW3];exact Blk.farS _ _ 0 _ (by omega) KA
 have KB3:Blk W3 (w.heap.size+1) 31 DF:=by rw[← hW3];exact Blk.farS _ _ 0 _ (by omega) KB
 have KC3:Blk W3 (w.heap.size+1+1) 31 C.toArray:=by rw[← hW3];exact KC.laid _ (by rw[hCl];rfl)
 have b3:Below w.heap.size w W3:=by rw[← hW3];exact AF b2 _ 0 (by omega)
 have HRA:=hid (World.rangeAt_alloc (Blk.rangeAll (Blk.new w 31 C.toArray)) (.cells DF 31));have HTH:=hid (show(((w.alloc (.cells C.toArray 31)).alloc (.cells DF 31)).alloc (.cells DF 31)).there (w.heap.size+1+1) 0 C.toArray.size by rw[hW2];exact Blk.there KC _ (by rw[List.size_toArray,hCl];exact Nat.le_refl 15));have HI:=hid (show(Tryz.prog.info? 31).map (·.size)=some C.length by rw[hCl];kernel_rfl);have HI2:=hid (show(Tryz.prog.info? 31).map (·.size)=some C.toArray.size by rw[List.size_toArray,hCl];kernel_rfl);have HW3:=hid (show(((w.alloc (.cells C.toArray 31)).alloc (.cells DF 31)).alloc (.cells DF 31)).setCells (w.heap.size+1+1) 0 C.toArray.toList=W3 by rw[hW2,← hW3]);have HON:=hid HC1;have r1':=rSl.below As.local_ As.fixed r1 b3;have HCL:=hid (Gh (.slice A1 d.on.length c1) d.on f1 W3 r1' hs.on);rw[hO]at HCL;have HK:=hid (And.intro KA3 (And.intro KB3 KC3));have HB3:=hid b3;have a10:W3.cell? ⟨w.heap.size,10,none⟩=some (.slice A1 nO c1):=(KA3.cell 10).trans hC10;have z0:w.heap.size<W3.heap.size:=KA3.lt;have z2:w.heap.size+1+1<W3.heap.size:=KC3.lt;have HX0:=hid hx0;have HX2:=hid hx2;have HS:=hid hs;have HOK:=hid hok;have HC:=hid hC;have HG:=hid hG;have HT:=hid hT;have HO:=hid hO;have hwz:(#[int i64 0,int i64 0,int i64 0,int i64 0,int i64 0,int i64 0,int i64 0,int i64 0,int i64 0,.slice none 0 0,.slice none 0 0,.slice none 0 0,int i64 0,int i64 0,.bool false]:Array Value)=DF:=rfl;have HWZ:=hid hwz;have HC9:=hid hC9;have HC11:=hid hC11;have HC10:=hid hC10;clear hwz hC9 hC10 hC11 HC1 hW2 hW3 KA KB KC b2 KA3 KB3 KC3 b3 hx0 hx2 hs hok hC hG hT hO hCl r0 r1 r2 r1' hc0 hm0 hc1 hm1 hc2 hm2;go_enter Tryz.func43,Tryz.ntmps43
 go_wp2_with (first
  |(refine wpList_load_mid rfl 31 (.tmp 1) rfl w.heap.size 0 rfl C _ HRA.out Tryz.underlying31 rfl HI.out ?_)
  |(refine wpList_store_mid rfl 31 (.tmp 3) (.tmp 11) rfl (w.heap.size+1+1) 0 C.toArray rfl rfl HTH.out HI2.out HON.out ?_;rw[HWZ.out,HW3.out])
  |(go_at_call 80;refine HCL.out.mono ?_;rintro e w4 ⟨A4,c4,g4,rfl,r4,m4,b4⟩;have R4:=hid r4;have M4:=hid m4;have B4:=hid b4;have kA:=HK.out.1.below b4 HK.out.1.lt;have kB:=HK.out.2.1.below b4 HK.out.2.1.lt;have kC:=HK.out.2.2.below b4 HK.out.2.2.lt;have a9:w4.cell? ⟨w.heap.size,9,none⟩=some (.slice A0 G c0):=(kA.cell 9).trans HC9.out;have y2:=kC.lt;have y0:=kA.lt;have q9:w4.cell? ⟨w.heap.size+1+1,9,none⟩=some (.slice A0 G c0):=(kC.cell 9).trans HC9.out;have q10:w4.cell? ⟨w.heap.size+1+1,10,none⟩=some (.slice A1 nO c1):=(kC.cell 10).trans HC10.out;have q11:w4.cell? ⟨w.heap.size+1+1,11,none⟩=some (.slice A2 T c2):=(kC.cell 11).trans HC11.out;have e9:=kC.frozen 9;have e10:=kC.frozen 10;have e11:=kC.frozen 11;have KA4:=hid kA;have KB4:=hid kB;have KC4:=hid kC;clear r4 m4 b4 kA kB kC))
 obtain⟨W5,hW5⟩:∃W5,((w4.setCell ⟨w.heap.size+1+1,9,none⟩ (.slice none 0 0)).setCell ⟨w.heap.size+1+1,10,none⟩ (.slice A4 nO c4)).setCell ⟨w.heap.size+1+1,11,none⟩ (.slice none 0 0)=W5:=⟨_,rfl⟩;have g4lo:∀a,a∈g4→W3.heap.size≤a.block:=M4.out.from_;have HCA5:=hid (show Cq False d C w W3.heap.size W5.heap.size (.slice A4 nO c4) g4 (.slice none 0 0) [] (.slice none 0 0) W5 by
  have hs5:W5.heap.size=w4.heap.size:=by rw[← hW5];simp[World.setCell]
  have t4:=rSl.there As.fixed R4.out;refine⟨?_,?_,?_,?_,?_,(fun a ha => by rw[hs5];exact t4 a ha),fun q => q.elim,by omega,by rw[hs5];exact B4.out.size,Nat.le_refl _,?_⟩
  ·rw[← hW5];exact((KA4.out.far (by simp <;> omega) _).far (by simp <;> omega) _).far (by simp <;> omega) _
  ·rw[← hW5];exact((KB4.out.far (by simp <;> omega) _).far (by simp <;> omega) _).far (by simp <;> omega) _
  ·rw[← hW5];have:=((KC4.out.set_ 9 (.slice none 0 0)).set_ 10 (.slice A4 nO c4)).set_ 11 (.slice none 0 0);rw[← HC.out]at this;exact this
  ·rw[← hW5];refine rSl.keep As.local_ R4.out fun a ha => ?_
   have:=g4lo a ha;rw[World.cell?_setCell_other _ _ _ _ (fun e => by rw[← e]at this;simp at this;omega),World.cell?_setCell_other _ _ _ _ (fun e => by rw[← e]at this;simp at this;omega),World.cell?_setCell_other _ _ _ _ (fun e => by rw[← e]at this;simp at this;omega)]
  ·rw[← hW5];exact((M4.out.set_ _ _).set_ _ _).set_ _ _
  ·rw[← hW5];exact(((HB3.out.trans (B4.out.mono HB3.out.size)).setCell (by simp;omega) _).setCell (by simp;omega) _).setCell (by simp;omega) _)
 have HO4:=hid (show(nO=d.on.length)from HO.out.symm);rw[hW5];obtain⟨lo,hlo⟩:∃lo,W3.heap.size=lo:=⟨_,rfl⟩;obtain⟨base,hbase⟩:∃base,W5.heap.size=base:=⟨_,rfl⟩;rw[hlo,hbase]at HCA5;have HBASE:=hid hbase;clear hW5 g4lo hlo hbase HCL HK HB3 HRA HTH HW3 R4 M4 B4 KA4 KB4 KC4 a9 q9 q10 q11 e9 e10 e11 a10 z0 z2 y0 y2;go_loopw [21,6] (fun i _ wr =>∃(g:Nat) (A:Option Addr) (c:Nat) (fo:List Addr),g≤G∧i= int i64 g∧Hid (Cq False d C w lo base (.slice A4 nO c4) g4 (.slice A g c) [] (.slice none 0 0) wr)∧Hid (Aj 1 85 (Am 2 Av) wr base (.slice A g c) (d.g.take g) fo)∧Hid (Ak base wr fo)) (fun i _ _ => G - (intOf i).toNat)
 case atStart => exact⟨0,none,0,[],by omega,rfl,HCA5.out,Aj.start ⟨rfl,.inl ⟨rfl,rfl⟩⟩,Ak.nil _ _⟩
 case round =>
  clear HCA5;obtain⟨g,A,c,fo,hg,rfl,HCA,HOW,HM⟩:=hrel;obtain⟨u,hu⟩:∃u,u=wr:=⟨_,rfl⟩;subst hu;by_cases hlt:g<G
  case neg =>
   obtain rfl:g=G:=by omega
   obtain⟨gs,r1,m1⟩:=Aj.readsMine (by have:=HOW.out;rwa [List.take_of_length_le (by rw[HG.out];exact Nat.le_refl _)]at this) HM.out;have hub:base≤u.heap.size:=HCA.out.hb;have HC2:=hid (show Cq True d C w lo u.heap.size (.slice A4 nO c4) g4 (.slice A g c) gs (.slice none 0 0) u from⟨HCA.out.ka,HCA.out.kb,HCA.out.kc,HCA.out.on,HCA.out.om,fun a ha => Nat.lt_of_lt_of_le (HCA.out.ot a ha) hub,fun _ =>⟨r1,m1.mono HCA.out.le,rSl.there (Am.fixed Av.fixed) r1,fun a ha hb => by have:=HCA.out.ot a ha;have:=m1.from_ a hb;omega⟩,HCA.out.lo_,Nat.le_trans HCA.out.le hub,Nat.le_refl _,HCA.out.be⟩);have a11:u.cell? ⟨w.heap.size,11,none⟩=some (.slice A2 T c2):=(HCA.out.ka.cell 11).trans HC11.out;have zA:=HCA.out.ka.lt;obtain⟨base2,hb2⟩:∃base2,u.heap.size=base2:=⟨_,rfl⟩;have HB2:=hid hb2;rw[hb2]at HC2;clear r1 m1 HCA HOW HM hb2 hub;go_wp2_with fail
   go_loopw [48] (fun i wt =>∃(j:Nat) (B:Option Addr) (c':Nat) (ft:List Addr),j≤T∧i= int i64 j∧Hid (Cq True d C w lo base2 (.slice A4 nO c4) g4 (.slice A g c) gs (.slice B j c') wt)∧Hid (Aj 2 122 Bu wt base2 (.slice B j c') (d.v.take j) ft)∧Hid (Ak base2 wt ft)) (fun i _ => T - (intOf i).toNat)
   case atStart => exact⟨0,none,0,[],by omega,rfl,HC2.out,Aj.start ⟨rfl,.inl ⟨rfl,rfl⟩⟩,Ak.nil _ _⟩
   case round =>
    clear HC2 a11 zA;obtain⟨j,B,c',ft,hj,rfl,HCB,HOT,HMT⟩:=hrel;by_cases hltT:j<T
    case neg =>
     obtain rfl:j=T:=by omega
     obtain⟨gt,r2,m2⟩:=Aj.readsMine (by have:=HOT.out;rwa [List.take_of_length_le (by rw[HT.out];exact Nat.le_refl _)]at this) HMT.out;obtain⟨q1,q2,q3,q4⟩:=HCB.out.gr trivial;have hlo3:=HCB.out.lo_;have hle:=HCB.out.le;obtain⟨E,hE⟩:∃E,Bk d (.slice A g c) (.slice A4 nO c4) (.slice B j c')=E:=⟨_,rfl⟩;have kC:=HCB.out.kc;rw[hE]at kC;have hEl:E.length=15:=by rw[← hE];rfl
     obtain⟨W7,hW7⟩:∃W7,wr.setCells (w.heap.size+1) 0 E=W7:=⟨_,rfl⟩;have HRC:=hid (Blk.rangeAll kC);have HTH7:=hid (Blk.there HCB.out.kb E.toArray.size (by rw[List.size_toArray,hEl];exact Nat.le_refl 15));have HIE:=hid (show(Tryz.prog.info? 31).map (·.size)=some E.length by rw[hEl];kernel_rfl);have HIE2:=hid (show(Tryz.prog.info? 31).map (·.size)=some E.toArray.size by rw[List.size_toArray,hEl];kernel_rfl);have HOE:=hid (show E.toArray.all Value.oneCell'=true by rw[← hE];exact wOnes);have HW7:=hid (show wr.setCells (w.heap.size+1) 0 E.toArray.toList=W7 from hW7);have K7:=hid (show Blk W7 (w.heap.size+1) 31 E.toArray by rw[← hW7];exact HCB.out.kb.laid _ (by rw[hEl];rfl));have m12:Ak lo wr (gs ++(g4 ++ gt)):=by
      refine Ak.cat2 q2 (Ak.cat2 HCB.out.om (m2.mono hle) (fun a ha hb => ?_)) (fun a ha hb => ?_)
      ·have:=HCB.out.ot a ha;have:=m2.from_ a hb;omega
      ·rcases List.mem_append.1 hb with hb|hb
       ·exact q4 a hb ha
       ·have:=q3 a ha;have:=m2.from_ a hb;omega
     have HR7:=hid (show AD W7 (gs ++(g4 ++ gt)) E d∧WorldZ W7 (gs ++(g4 ++ gt)) E d∧Ak w.heap.size W7 (gs ++(g4 ++ gt))∧Below w.heap.size w W7 by
      rw[← hW7];have hsm:=CE E (w.heap.size+1) 0 wr (fs:=gs ++(g4 ++ gt)) fun a ha e => by have:=m12.from_ a ha;omega
      refine⟨AD.local_ _ _ _ _ _ (by rw[← hE];exact AD.of HOK.out q1 HCB.out.on (r2.imp fun _ _ _ _ h => h.1)) hsm,⟨_,_,_,gs,g4,gt,hE.symm,rfl,rSl.keep (Am.local_ Av.local_) q1 hsm.left,rSl.keep As.local_ HCB.out.on hsm.right.left,rSl.keep Bu.local_ r2 hsm.right.right⟩,(Ak.setS _ _ _ _ m12).mono (by omega),Below.setCells_ _ _ _ _ (by omega) HCB.out.be⟩)
     have zC:=HCB.out.kc.lt;clear hE kC hEl hW7 m12 q1 q2 q3 q4 r2 m2 hlo3 hle;go_wp2_with (first
      |(refine wpList_load_mid rfl 31 (.tmp 3) rfl (w.heap.size+1+1) 0 rfl E _ HRC.out Tryz.underlying31 rfl HIE.out ?_)
      |(refine wpList_store_mid rfl 31 (.tmp 2) (.tmp 64) rfl (w.heap.size+1) 0 E.toArray rfl rfl HTH7.out HIE2.out HOE.out ?_;rw[HW7.out]))
     refine bodyPost_ret (Bb (g:=w.heap.size+1) rfl _ _ _ _ _ rfl K7.out Tryz.underlying31 rfl HIE2.out) rfl ?_;first|exact⟨E,_,rfl,HR7.out.1,HR7.out.2.1,HR7.out.2.2.1,HR7.out.2.2.2⟩|exact⟨E,rfl,_,HR7.out.1,HR7.out.2.1,HR7.out.2.2.1,HR7.out.2.2.2⟩
    have hjl:j<d.v.length:=by rw[HT.out];exact hltT
    obtain⟨ad,b3,o3,cs3,f3,rfl,hat0⟩:=HX2.out j hjl;have hat:=hat0.below AK.local_ HCB.out.be;obtain⟨x,hxe⟩:∃x,d.v[j] =x:=⟨_,rfl⟩;have hxm:x∈d.v:=by rw[← hxe];exact List.getElem_mem hjl
    have hrd:=hat.reads;rw[hxe]at hrd;obtain⟨v3,f4,e3,-,rb3⟩:=hrd;obtain⟨A3,c3,rfl,hc3,hm3⟩:=rSl.head rb3;have hpl:=hat.place;have hbl:=hat.lt;have l3:cs3.length=2:=hat.len;have t0:wr.cell? ⟨b3,o3,none⟩=some (.bool x.wiped):=by have:=hat.cell 0 (by omega);simp only[e3]at this;exact this
    have t1:wr.cell? ⟨b3,o3+1,none⟩=some (.slice A3 x.recs.length c3):=by have:=hat.cell 1 (by omega);simp only[e3]at this;exact this
    have hrs:=HS.out.rs x hxm;have HRS:=hid hrs;have HST:=hid (show d.v.take (j+1)=d.v.take j ++ [x] by rw[List.take_succ_eq_append_getElem hjl,hxe]);have HTL:=hid (show(d.v.take j).length =j by rw[List.length_take];omega);have HB3':=hid rb3;have z0:=HCB.out.ka.lt;clear hat hat0 e3 rb3 hxe hxm l3 hjl hrs hc3 hm3;go_wp2_with fail
    obtain⟨wt,hwt⟩:∃wt,wr.alloc (.cells #[.bool x.wiped,.slice A3 x.recs.length c3] 122)=wt:=⟨_,rfl⟩;have KX:Blk wt wr.heap.size 122 #[.bool x.wiped,.slice A3 x.recs.length c3]:=by rw[← hwt];exact Blk.new _ _ _
    have bwt:Below wr.heap.size wr wt:=by rw[← hwt];exact Aa (Below.refl _ _) _
    rw[hwt];have HBT:=hid bwt;have hb2:base2≤wr.heap.size:=HCB.out.hb;have HCT:=hid (HCB.out.below (bwt.mono hb2));have zx:=KX.lt;have x0:wt.cell? ⟨wr.heap.size,0,none⟩=some (.bool x.wiped):=(KX.cell 0).trans rfl;have x1:wt.cell? ⟨wr.heap.size,1,none⟩=some (.slice A3 x.recs.length c3):=(KX.cell 1).trans rfl;have p1:wt.cell? ⟨w.heap.size+1+1,11,none⟩=some (.slice B j c'):=(HCT.out.kc.cell 11).trans rfl;have zt:=HCT.out.kc.lt;have HKS:=hid (show∀W,Below wt.heap.size wt W→W.cell? ⟨w.heap.size+1+1,11,none⟩=some (.slice B j c')∧W.cell? ⟨wr.heap.size,0,none⟩=some (.bool x.wiped)∧W.cell? ⟨wr.heap.size,1,none⟩=some (.slice A3 x.recs.length c3)∧w.heap.size+1+1<W.heap.size∧wr.heap.size<W.heap.size from fun W hW => by
     have k1:=HCT.out.kc.below hW HCT.out.kc.lt;have k2:=KX.below hW KX.lt;exact⟨(k1.cell 11).trans rfl,(k2.cell 0).trans rfl,(k2.cell 1).trans rfl,k1.lt,k2.lt⟩)
    have HCL:=hid (fun(W:World) (hW:Below wt.heap.size wt W) => GX (.slice A3 x.recs.length c3) x.recs f4 W (rSl.below Ac.local_ Ac.fixed (rSl.below Ac.local_ Ac.fixed HB3'.out bwt) hW) HRS.out.1 HRS.out.2);have HA:=hid (show∀(w2 W:World) (A5:Option Addr) (c5 b:Nat) (f:List Addr),Below wt.heap.size wt w2→(x.recs= []→c5=0)→rSl 9 Ac w2 f (.slice A5 x.recs.length c5) x.recs→Ak wt.heap.size w2 f→Below w2.heap.size w2 W→Blk W b 122 #[.bool x.wiped,.slice A5 x.recs.length c5]→∃v' w',(Builtin.append_ #[29,29] 29 #[.slice B j c',.slice (some ⟨b,0,none⟩) 1 1]).run Tryz.prog W= .ok v' w'∧∃A' c' h,v'= .slice A' (j+1) c'∧Aj 2 122 Bu w' base2 v' (d.v.take (j+1)) (ft ++ h)∧Ak base2 w' (ft ++ h)∧Below base2 wr w'∧wr.heap.size≤w'.heap.size from fun w2 W A5 c5 b f B2 hz hr hf B5 hb => by
     have:=Cm (P:=Tryz.prog) (R:=Bu) 29 29 (.agg #[.bool false,.slice none 0 0]) 32 Tryz.underlying29 Tryz.infoTape rfl (by decide) Bu.local_ Bu.fixed Bu.ones (by omega) (us:=[.bool x.wiped,.slice A5 x.recs.length c5]) (d:=x) HOT.out HMT.out hb2 (by rw[HTL.out];omega) (HBT.out.trans (B2.mono HBT.out.size)) ⟨⟨_,f,rfl,rfl,hr⟩,fun e =>⟨A5,by rw[hz e,e];rfl⟩⟩ (hf.mono HBT.out.size) rfl B5 hb;rw[HTL.out,← HST.out]at this;exact this)
    clear hwt KX bwt t0 t1 hpl hbl;go_region_law (first
     |(refine AR rfl (.tmp 53) (.tmp 60) 29 rfl _ _ (by rfl) (by rfl) (HA.out w2 _ A5 c5 _ f5 B2 z5 r5 m5 (by repeat(with_reducible first|exact Below.refl _ _|apply Aa|apply Ai)) (by repeat(with_reducible first|exact Blk.new _ _ _|exact Blk.new1 _ _ _ _|apply Blk.drew_|apply Blk.alloc))) ?_;rintro v8 w8 ⟨A8,c8,h8,rfl,o8,m8,B8,e8⟩;have k8:=HCB.out.below B8;have p8:w8.cell? ⟨w.heap.size+1+1,11,none⟩=some (.slice B j c'):=(k8.kc.cell 11).trans rfl;have f8:=k8.kc.frozen 11;have z8:=k8.kc.lt)
     |(go_simp;go_at_call 82;refine(HCL.out _ (by repeat(with_reducible first|assumption|exact Below.refl _ _|apply Aa|apply Ai))).mono ?_;rintro e w2 ⟨A5,c5,f5,rfl,z5,r5,m5',hb2'⟩;dsimp only;have B2:=Below.viaQ (a:=wt) (by repeat(with_reducible first|assumption|exact Below.refl _ _|apply Aa|apply Ai)) hb2';have m5:=Ak.viaR (a:=wt) (by repeat(with_reducible first|assumption|exact Below.refl _ _|apply Aa|apply Ai)) m5';have q2:=HKS.out w2 B2))
    all_goals
     go_wp2_with fail
     go_roundw
     case rel => exact⟨j+1,A8,c8,ft ++ h8,by omega,by go_num,k8.set11 _,Aj.far_ Bu.local_ o8 m8 (by have:=k8.lo_;have:=k8.le;simp;omega) _,Ak.set_ m8 _ _⟩
     case measure => simp[intOf];omega
  have KC:=HCA.out.kc;have p9:u.cell? ⟨w.heap.size+1+1,9,none⟩=some (.slice A g c):=(KC.cell 9).trans rfl;have e9:=KC.frozen 9;have zC:=KC.lt;have hgl:g<d.g.length:=by rw[HG.out];exact hlt
  obtain⟨ad,b3,o3,cs3,f3,rfl,hat0⟩:=HX0.out g hgl;have hat:=hat0.below (Am.local_ Av.local_) HCA.out.be;obtain⟨x,hxe⟩:∃x,d.g[g] =x:=⟨_,rfl⟩;have hxm:x∈d.g:=by rw[← hxe];exact List.getElem_mem hgl
  have hrd:=hat.reads;rw[hxe]at hrd;obtain⟨v3,e3,rd3⟩:=hrd;obtain⟨A3,c3,rfl,hc3,hm3,hx3⟩:=rSl.at_ Av.fixed (by omega) rd3;have l3:cs3.length=1:=hat.len;have t0:u.cell? ⟨b3,o3,none⟩=some (.slice A3 x.length c3):=by have:=hat.cell 0 (by omega);simp only[e3]at this;exact this
  have hpl:ad.add g=⟨b3,o3,none⟩:=by have:=hat.place;rwa [Nat.mul_one]at this
  have hbl:=hat.lt;have HX3:=hid hx3;obtain⟨D,hD⟩:∃D,x.length=D:=⟨_,rfl⟩;have HD:=hid hD;have hDb:D≤1000000:=by have:=HS.out.ds x hxm;omega
  have HBS:=hid (HS.out.bs x hxm);have HST:=hid (show d.g.take (g+1)=d.g.take g ++ [x] by rw[List.take_succ_eq_append_getElem hgl,hxe]);have HTL:=hid (show(d.g.take g).length =g by rw[List.length_take];omega);rw[hD]at t0;have kE:=hid (Blk.new u 89 #[]);have B3:=hid (Aa (Below.refl u.heap.size u) (.cells #[] 89));clear hat hat0 e3 rd3 hx3 hxe hxm l3 hgl KC hD hc3 hm3;go_wp2_with fail
  go_loopw [28,6] (fun i dv w4 =>∃(k:Nat) (A2:Option Addr) (c2:Nat) (f2:List Addr),k≤D∧i= int i64 k∧dv= .slice A2 k c2∧Hid (Aj 2 89 Av w4 u.heap.size (.slice A2 k c2) (x.take k) f2)∧Hid (Ak u.heap.size w4 f2)∧Hid (Below u.heap.size u w4)) (fun i _ _ => D - (intOf i).toNat)
  case atStart => exact⟨0,some ⟨u.heap.size,0,none⟩,0,[],by omega,rfl,rfl,Aj.start ⟨rfl,.inr ⟨u.heap.size,0,#[],rfl,Nat.le_refl _,kE.out,Nat.le_refl _,by unfold maxLen;omega,rfl,rfl⟩⟩,Ak.nil _ _,B3.out⟩
  case round =>
   clear t0 hpl hbl kE B3;obtain⟨k,A2,c2,f2,hk,rfl,rfl,HO4',HM4,HB4⟩:=hrel;have hub:base≤u.heap.size:=HCA.out.hb;by_cases hlt2:k<D
   case neg =>
    obtain rfl:k=D:=by omega
    obtain⟨gs,r1,m1⟩:=Aj.readsMine (by have:=HO4'.out;rwa [List.take_of_length_le (by rw[HD.out];exact Nat.le_refl _)]at this) HM4.out;have kC4:=(HCA.out.below (HB4.out.mono hub)).kc;have p9':wr.cell? ⟨w.heap.size+1+1,9,none⟩=some (.slice A g c):=(kC4.cell 9).trans rfl;have zC4:=kC4.lt;have HAP:=Cm (P:=Tryz.prog) (R:=Am 2 Av) 27 27 (.slice none 0 0) 24 Tryz.underlying27 Tryz.infoDrives rfl (by decide) (Am.local_ Av.local_) (Am.fixed Av.fixed) Am.ones (by omega) HOW.out HM.out hub (by rw[HTL.out];omega) (us:=[.slice A2 k c2]) (f:=gs) (d:=x) (W:=wr.alloc (.cells #[.slice A2 k c2] 85)) (b:=wr.heap.size) HB4.out ⟨_,rfl,r1⟩ m1 rfl (Aa (Below.refl _ _) _) (Blk.new _ _ _);rw[HTL.out,← HST.out]at HAP;have HA:=hid HAP;clear HAP kC4 r1 m1 p9 e9;go_wp2_with (at_builtin;refine AB rfl (.tmp 39) (.tmp 41) 27 rfl (.slice A g c) (.slice (some ⟨wr.heap.size,0,none⟩) 1 1) rfl rfl HA.out ?_;rintro v6 w6 ⟨A6,c6,h,rfl,o6,m6,B6,z6⟩;have k6:=HCA.out.below B6;have p6:w6.cell? ⟨w.heap.size+1+1,9,none⟩=some (.slice A g c):=(k6.kc.cell 9).trans rfl;have f6:=k6.kc.frozen 9;have zz6:=k6.kc.lt;have HO6:=hid o6;have HM6:=hid m6;have HB6:=hid B6;have HK6:=hid k6;clear o6 m6 B6 k6 z6)
    go_roundw
    case rel => exact⟨g+1,A6,c6,fo ++ h,by omega,by go_num,HK6.out.set9 _,Aj.far_ (Am.local_ Av.local_) HO6.out HM6.out (by have:=HK6.out.lo_;have:=HK6.out.le;simp;omega) _,Ak.set_ HM6.out _ _⟩
    case measure => simp[intOf];omega
   have hkl:k<x.length:=by rw[HD.out];exact hlt2
   obtain⟨ad2,b5,o5,cs5,f5,rfl,hat0⟩:=HX3.out k hkl;have hat:=hat0.below Av.local_ HB4.out;obtain⟨y,hye⟩:∃y,x[k] =y:=⟨_,rfl⟩;have hym:y∈x:=by rw[← hye];exact List.getElem_mem hkl
   have hrd:=hat.reads;rw[hye]at hrd;obtain⟨v5,f5',e5,-,rb5⟩:=hrd;obtain⟨A5,c5,rfl,hc5,hm5⟩:=rSl.head rb5;have l5:cs5.length=2:=hat.len;have t0:wr.cell? ⟨b5,o5,none⟩=some (.bool y.wiped):=by have:=hat.cell 0 (by omega);simp only[e5]at this;exact this
   have t1:wr.cell? ⟨b5,o5+1,none⟩=some (.slice A5 y.blocks.length c5):=by have:=hat.cell 1 (by omega);simp only[e5]at this;exact this
   have hpl:=hat.place;have hbl:=hat.lt;have hsb:=HBS.out y hym;have HCD:=hid (fun(W:World) (hW:Below wr.heap.size wr W) => IR y.wiped y.blocks (.slice A5 y.blocks.length c5) f5' W (rSl.below AL.local_ AL.fixed rb5 hW) hsb.1 hsb.2);have HST2:=hid (show x.take (k+1)=x.take k ++ [y] by rw[List.take_succ_eq_append_getElem hkl,hye]);have HTL2:=hid (show(x.take k).length =k by rw[List.length_take];omega);have HA:=hid (show∀(w2 W:World) (A7:Option Addr) (c7 b:Nat) (f:List Addr),Below wr.heap.size wr w2→rSl 2 AL w2 f (.slice A7 y.blocks.length c7) y.blocks→Ak wr.heap.size w2 f→Below w2.heap.size w2 W→Blk W b 89 #[.bool y.wiped,.slice A7 y.blocks.length c7]→∃v' w',(Builtin.append_ #[85,85] 85 #[.slice A2 k c2,.slice (some ⟨b,0,none⟩) 1 1]).run Tryz.prog W= .ok v' w'∧∃A' c' h,v'= .slice A' (k+1) c'∧Aj 2 89 Av w' u.heap.size v' (x.take (k+1)) (f2 ++ h)∧Ak u.heap.size w' (f2 ++ h)∧Below u.heap.size wr w'∧wr.heap.size≤w'.heap.size from fun w2 W A7 c7 b f B2 hr hf B5 hb => by
    have:=Cm (P:=Tryz.prog) (R:=Av) 85 85 (.agg #[.bool false,.slice none 0 0]) 32 Tryz.underlying85 Tryz.infoDrive rfl (by decide) Av.local_ Av.fixed Av.ones (by omega) HO4'.out HM4.out HB4.out.size (by rw[HTL2.out];omega) (us:=[.bool y.wiped,.slice A7 y.blocks.length c7]) (f:=f) (d:=y) B2 ⟨_,_,rfl,rfl,hr⟩ hf rfl B5 hb;rw[HTL2.out,← HST2.out]at this;exact this)
   clear hat hat0 e5 rb5 hye hym l5 hkl hsb hc5 hm5 p9 e9;go_wp2_with (first
    |(go_at_call 81;refine(HCD.out _ (Aa (Below.refl _ _) _)).mono ?_;rintro e w5 ⟨A7,c7,f7,rfl,r7,m7,b7⟩;have B7:=hid (show Below wr.heap.size wr w5 from(Aa (Below.refl _ _) _).trans (b7.mono (by simp)));have R7:=hid r7;have M7:=hid (m7.mono (by simp):Ak wr.heap.size w5 f7);clear r7 m7 b7)
    |(at_builtin;refine AB rfl (.tmp 32) (.tmp 35) 85 rfl (.slice A2 k c2) (.slice (some ⟨w5.heap.size,0,none⟩) 1 1) rfl rfl (HA.out w5 _ A7 c7 _ f7 B7.out R7.out M7.out (Aa (Below.refl _ _) _) (Blk.new _ _ _)) ?_;rintro v6 w6 ⟨A6,c6,h,rfl,o6,m6,B6,e6⟩;have HO6:=hid o6;have HM6:=hid m6;have HB6:=hid B6;clear o6 m6 B6 e6))
   go_roundw
   case rel => exact⟨k+1,A6,c6,f2 ++ h,by omega,by go_num,rfl,HO6.out,HM6.out,HB4.out.trans HB6.out⟩
   case measure => simp[intOf];omega
end Go.Proofs.YthbljikbnoghcaaGreat
