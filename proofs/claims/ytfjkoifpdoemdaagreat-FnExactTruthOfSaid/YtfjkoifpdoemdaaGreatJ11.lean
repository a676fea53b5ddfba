/- Part 11 of the proof. -/
import Derived.Test.YtfjkoifpdoemdaaGreatJ10
import Derived.Lib.SliceRun
import Derived.Test.YtfjkoifpdoemdaaGreatJ09
set_option maxHeartbeats 8000000
set_option maxRecDepth 100000
set_option linter.unusedVariables false
set_option linter.unusedSimpArgs false
open Go.Proofs.Tryz
open Go.Value (int)
open Go.IntKind (i64)
namespace Go.Proofs.YtfjkoifpdoemdaaGreat
open Go.RowKit Go.Lib Go.Sort
def AX.sh(s:AX):Sh:=⟨s.g,s.c,s.data,s.p,s.rows,s.cap,s.b,s.q,s.t⟩
theorem GH(s:Sh)(h:s.Ok)(g:Int)(w:World) :
  Calls prog 187 #[shV s,int i64 g] w fun e w' => e= .returned (.bool (Ap g 0 (s.g - 1)))∧Below w.heap.size w w':=by
 obtain⟨a1,a2⟩:=h.g;unfold shV;go_enter func187,ntmps187
 go_wp2_with (go_at_call 100;refine(Bz _ _ _ _).mono ?_;rintro e w' ⟨rfl,rfl⟩)
 go_ret
 exact⟨rfl,(aB _ _).alloc (aC _) _⟩
theorem Lr(s:Sh)(h:s.Ok)(g:Int)(w:World) :
  Calls prog 45 #[shV s,int i64 g] w fun e w' => e= .returned (.bool (Ap g 0 (s.rows - 1)))∧Below w.heap.size w w':=by
 obtain⟨a1,a2⟩:=h.rows;unfold shV;go_enter func45,ntmps45
 go_wp2_with (go_at_call 100;refine(Bz _ _ _ _).mono ?_;rintro e w' ⟨rfl,rfl⟩)
 go_ret
 exact⟨rfl,(aB _ _).alloc (aC _) _⟩
theorem I6(s:Sh)(h:s.Ok)(g:Int)(w:World) :
  Calls prog 54 #[shV s,int i64 g] w fun e w' => e= .returned (.bool (Ap g 0 (s.g+s.c - 1)))∧Below w.heap.size w w':=by
 obtain⟨a1,a2⟩:=h.g;obtain⟨b1,b2⟩:=h.c;have HK:=U (Blk.rangeAll (cs:=[int i64 s.g,int i64 s.c,int i64 s.data,int i64 s.p,int i64 s.rows,int i64 s.cap,int i64 s.b,int i64 s.q,int i64 s.t]) (Blk.new w 31 _));have HC:=U (fun W => Gr s h W);unfold shV at HC⊢;go_enter func54,ntmps54
 go_wp2_with (first
  |(refine aD rfl 31 (.tmp 2) rfl w.heap.size 0 rfl _ _ HK.o underlying31 rfl (by kernel_rfl) ?_)
  |(go_at_call 101;refine(HC.o _).mono ?_;rintro e w1 ⟨rfl,hb1⟩;have B1:=U hb1;clear hb1)
  |(go_at_call 100;refine(Bz _ _ _ _).mono ?_;rintro e w' ⟨rfl,rfl⟩))
 go_ret
 exact⟨rfl,((aB _ _).alloc (aC _) _).trans (B1.o.mono (by simp))⟩
theorem row_c(s:Sh)(w:World) :
  Calls prog 189 #[shV s] w fun e w' => e= .returned (.agg #[int i64 s.data,int i64 s.p])∧Below w.heap.size w w':=by
 unfold shV;have K:=U (Blk.new1 w (.cells #[int i64 s.g,int i64 s.c,int i64 s.data,int i64 s.p,int i64 s.rows,int i64 s.cap,int i64 s.b,int i64 s.q,int i64 s.t] 31) 226 #[int i64 s.data,int i64 s.p]);go_enter func189,ntmps189
 go_wp2_with fail
 refine bodyPost_ret (results_cell_row rfl _ _ (w.heap.size+1) 226 #[int i64 s.data,int i64 s.p] (0,0) _ rfl K.o underlying226 rfl (by kernel_rfl)) rfl ?_;exact⟨rfl,((aB _ _).alloc (aC _) _).alloc (by simp) _⟩
theorem P6(s:Sh)(w:World) :
  Calls prog 47 #[shV s] w fun e w' => e= .returned (.agg #[int i64 s.g,int i64 s.c])∧Below w.heap.size w w':=by
 unfold shV;have K:=U (Blk.new1 w (.cells #[int i64 s.g,int i64 s.c,int i64 s.data,int i64 s.p,int i64 s.rows,int i64 s.cap,int i64 s.b,int i64 s.q,int i64 s.t] 31) 96 #[int i64 s.g,int i64 s.c]);go_enter func47,ntmps47
 go_wp2_with fail
 refine bodyPost_ret (results_cell_row rfl _ _ (w.heap.size+1) 96 #[int i64 s.g,int i64 s.c] (0,0) _ rfl K.o underlying96 rfl (by kernel_rfl)) rfl ?_;exact⟨rfl,((aB _ _).alloc (aC _) _).alloc (by simp) _⟩
def Co(groups:Int)(all:List Ah)(group:Int)(x:Ah):Bool:=decide (x.kind=2) && ((decide (groups≤group)||decide (x.group=group)) && !Gi all x.seq group)
theorem RK(ks:Nat)(hks:ks=9)(zS:∀w,(Go.sizeOf 31).run prog w= .ok ks w)(aS:∀w,(isAgg 31).run prog w= .ok true w)(x:Ah)(cs:List Value)(f:List Addr)(p b1 b2 b3 n c:Nat)(A:Option Addr)(fs fa:List Addr)(d:Am)(all:List Ah)(group:Int)(w:World)
  (hx:Ac w f cs x) (hw:AtW w p fs d) (hok:d.s.sh.Ok) (hg0:0≤group) (h1:w.cell? ⟨b1,0,none⟩=some (.pointer (some ⟨p,0,none⟩))) (h2:w.cell? ⟨b2,0,none⟩=some (int i64 group)) (h3:w.cell? ⟨b3,0,none⟩=some (.slice A n c)) (ha:rSl 9 Ac w fa (.slice A n c) all) :
  Calls prog 294 #[.agg cs.toArray,.pointer (some ⟨b1,0,none⟩),.pointer (some ⟨b2,0,none⟩),.pointer (some ⟨b3,0,none⟩)] w fun e w' => e= .returned (.bool (!Co d.s.g all group x))∧Below w.heap.size w w':=by
 obtain⟨A0,A1,A2,c0,c1,c2,f0,f1,f2,HCs⟩:=hw.cells;obtain⟨x0,x1,x2,x3,x4,x5,x6,x7,x8⟩:=x;dsimp only[Ac]at hx;obtain⟨v0,v1,v2,g0,g1,g2,e,-⟩:=hx;subst e;obtain⟨WA,hWA⟩:∃WA,w.alloc (.cells #[int i64 x0,int i64 x1,.string x2,int i64 x3,int i64 x4,int i64 x5,v0,v1,v2] 119)=WA:=⟨_,rfl⟩;have hB:Below w.heap.size w WA:=by rw[← hWA];exact(aB _ _).alloc (aC _) _
 have K:Blk WA w.heap.size 119 #[int i64 x0,int i64 x1,.string x2,int i64 x3,int i64 x4,int i64 x5,v0,v1,v2]:=by rw[← hWA];exact Blk.new w _ _
 have q0:=aA (w:=WA) (a:=⟨w.heap.size,0,none⟩) ((K.cell 0).trans rfl);have q1:=aA (w:=WA) (a:=⟨w.heap.size,1,none⟩) ((K.cell 1).trans rfl);have q4:=aA (w:=WA) (a:=⟨w.heap.size,4,none⟩) ((K.cell 4).trans rfl);have r1:=aA (w:=WA) ((hB.cell (p:=⟨b1,0,none⟩) (World.block_lt_of_cell? _ _ h1)).trans h1);have r2:=aA (w:=WA) ((hB.cell (p:=⟨b2,0,none⟩) (World.block_lt_of_cell? _ _ h2)).trans h2);have r3:=aA (w:=WA) ((hB.cell (p:=⟨b3,0,none⟩) (World.block_lt_of_cell? _ _ h3)).trans h3);have hW2:=hw.below hB;obtain⟨css,hrw,hcc,hpl⟩:=hW2;have lS:∀dd os,Sem.run prog (loadCellsFrom ⟨p,0,none⟩ 0 ks #[]) (grow (redrawn WA dd) os)= .ok #[int i64 d.s.g,int i64 d.s.c,int i64 d.s.data,int i64 d.s.p,int i64 d.s.rows,int i64 d.s.cap,int i64 d.s.b,int i64 d.s.q,int i64 d.s.t] (grow (redrawn WA dd) os):=fun dd os =>
  run_loadCellsFrom_list _ _ _ [int i64 d.s.g,int i64 d.s.c,int i64 d.s.data,int i64 d.s.p,int i64 d.s.rows,int i64 d.s.cap,int i64 d.s.b,int i64 d.s.q,int i64 d.s.t] ks (by rw[hks];rfl) (fun q v hq => by
   rw[Addr.add_lit];refine aA (w:=WA) ?_ dd os;have hB2:=fun q => hB.cell (p:=⟨p,q,none⟩) HCs.lt
   match q,hq with
   |0,hq => simp at hq;subst hq;exact(hB2 0).trans HCs.n0
   |1,hq => simp at hq;subst hq;exact(hB2 1).trans HCs.n1
   |2,hq => simp at hq;subst hq;exact(hB2 2).trans HCs.n2
   |3,hq => simp at hq;subst hq;exact(hB2 3).trans HCs.n3
   |4,hq => simp at hq;subst hq;exact(hB2 4).trans HCs.n4
   |5,hq => simp at hq;subst hq;exact(hB2 5).trans HCs.n5
   |6,hq => simp at hq;subst hq;exact(hB2 6).trans HCs.n6
   |7,hq => simp at hq;subst hq;exact(hB2 7).trans HCs.n7
   |8,hq => simp at hq;subst hq;exact(hB2 8).trans HCs.n8
   |q+9,hq => simp at hq)
 have hcD:∀dd os,Calls prog 187 #[.agg #[int i64 d.s.g,int i64 d.s.c,int i64 d.s.data,int i64 d.s.p,int i64 d.s.rows,int i64 d.s.cap,int i64 d.s.b,int i64 d.s.q,int i64 d.s.t],int i64 group] (grow (redrawn WA dd) os) fun e w'' => e= .returned (.bool (Ap group 0 (d.s.g - 1)))∧∃p:Regrown,w''=grow (redrawn WA p.d) p.os :=
  fun dd os => Calls.regrown_of (GH d.s.sh hok group _)
 have hcE:∀dd os,Calls prog 276 #[.slice A n c,int i64 x1,int i64 group] (grow (redrawn WA dd) os) fun e w'' => e= .returned (.bool (Gi all x1 group))∧∃p:Regrown,w''=grow (redrawn WA p.d) p.os :=
  fun dd os => Calls.regrown_of (isDone_c _ all fa x1 group _ (rSl.below Ac.local_ Ac.fixed (rSl.below Ac.local_ Ac.fixed ha hB) (aH WA dd os)))
 obtain⟨rb,hrb⟩:∃rb,(!Co d.s.g all group ⟨x0,x1,x2,x3,x4,x5,x6,x7,x8⟩)=rb:=⟨_,rfl⟩;rw[hrb];unfold Co at hrb;simp only at hrb;obtain⟨bd,hbd⟩:∃bd,Gi all x1 group=bd:=⟨_,rfl⟩;rw[hbd]at hrb hcE;have hks0:¬ks=0:=by omega
 have hks1:0<ks:=by omega
 have HB:=U hB;have HE:=U hcE;have HD:=U hcD;have HRB:=U hrb;have hnp:p<w.heap.size:=HCs.lt;clear hbd hrw hcc hpl HCs hw ha h1 h2 h3 hB K hcD hcE hrb hks;by_cases qk:x0=2
 ·by_cases qg:group<d.s.g
  ·have hin:Ap group 0 (d.s.g - 1)=true:=Fo hg0 (by omega);rw[hin]at HD;by_cases qe:x4=group
   ·have e1:rb=bd:=by rw[← HRB.o];simp[qk,qe]
    subst e1;have hk:(x0 != 2)=false:=by simpa using qk
    have he:(x4 != group)=false:=by simpa using qe
    clear qk qg qe hin HRB;go_enter func294,ntmps294
    go_wp2_with fail
    refine aF (by kernel_rfl) (by kernel_rfl) ?_;repeat(first|go_big_quiet_step (first|exact HE.o _ _|exact HD.o _ _)|quiet_step (first|exact HE.o _ _|exact HD.o _ _))
    refine aP ?_;intro _ hw';obtain⟨⟨dq,osq⟩,hw''⟩:=hw';subst hw'';go_wp2_with fail
    go_ret
    exact⟨rfl,HB.o.trans ((aH WA dq osq).mono HB.o.size)⟩
   ·have hnle:¬d.s.g≤group:=by omega
    have e1:rb=true:=by rw[← HRB.o];simp[qk,qe,hnle]
    subst e1;have hk:(x0 != 2)=false:=by simpa using qk
    have he:(x4 != group)=true:=by simpa using qe
    clear qk qg qe hin HRB hnle;go_enter func294,ntmps294
    go_wp2_with fail
    refine aF (by kernel_rfl) (by kernel_rfl) ?_;repeat(first|go_big_quiet_step (first|exact HE.o _ _|exact HD.o _ _)|quiet_step (first|exact HE.o _ _|exact HD.o _ _))
    refine aP ?_;intro _ hw';obtain⟨⟨dq,osq⟩,hw''⟩:=hw';subst hw'';go_wp2_with fail
    go_ret
    exact⟨rfl,HB.o.trans ((aH WA dq osq).mono HB.o.size)⟩
  ·have hin:Ap group 0 (d.s.g - 1)=false:=Gu (by omega);rw[hin]at HD;have hle:d.s.g≤group:=by omega
   have e1:rb=bd:=by rw[← HRB.o];simp[qk,hle]
   subst e1;have hk:(x0 != 2)=false:=by simpa using qk
   clear qk qg hin HRB hle;go_enter func294,ntmps294
   go_wp2_with fail
   refine aF (by kernel_rfl) (by kernel_rfl) ?_;repeat(first|go_big_quiet_step (first|exact HE.o _ _|exact HD.o _ _)|quiet_step (first|exact HE.o _ _|exact HD.o _ _))
   refine aP ?_;intro _ hw';obtain⟨⟨dq,osq⟩,hw''⟩:=hw';subst hw'';go_wp2_with fail
   go_ret
   exact⟨rfl,HB.o.trans ((aH WA dq osq).mono HB.o.size)⟩
 ·have e1:rb=true:=by rw[← HRB.o];simp[qk]
  subst e1;have hk:(x0 != 2)=true:=by simpa using qk
  clear qk HRB;go_enter func294,ntmps294
  go_wp2_with fail
  refine aF (by kernel_rfl) (by kernel_rfl) ?_;repeat(first|go_big_quiet_step (first|exact HE.o _ _|exact HD.o _ _)|quiet_step (first|exact HE.o _ _|exact HD.o _ _))
  refine aP ?_;intro _ hw';obtain⟨⟨dq,osq⟩,hw''⟩:=hw';subst hw'';go_wp2_with fail
  go_ret
  exact⟨rfl,HB.o.trans ((aH WA dq osq).mono HB.o.size)⟩
theorem NO(v:Value)(ds:List Ah)(f:List Addr)(w:World)(h:rSl 9 Ac w f v ds)(hn:ds.length≤1000000) :
  Calls prog 293 #[v] w fun e w' =>∃v' fs,e= .returned v'∧Aj 9 119 Ac w' w.heap.size v' ds fs∧(∀a,a∈fs→a.block<w.heap.size)∧Below w.heap.size w w':=by
 have ht:=rSl.there Ac.fixed h;have HB:=U (show Below w.heap.size w (w.alloc (.cells #[] 119))from(aB _ _).alloc (aC _) _);have HA:=Hx (w4:=w) (W:=w.alloc (.cells #[] 119)) (v:=.slice (some ⟨w.heap.size,0,none⟩) 0 0) (D:=[]) (D2:=ds) (h1:=[]) (by simp;omega) h HB.o (Aj.start ⟨rfl,.inr ⟨w.heap.size,0,#[],rfl,aC _,Blk.new w _ _,aC _,by unfold maxLen;omega,rfl,rfl⟩⟩);have HAP:=U HA;obtain⟨A,c,rfl,hc,hm⟩:=rSl.head h;have HT:=U ht;have H:=U h;clear HA ht h;have q22:∀(w:World) (a:Option Addr) (n c n' c':Nat),(binOp .eql 80 (.slice a n c) (.slice none n' c')).run prog w= .ok (.bool a.isNone) w:=fun w a n c n' c' => Lib.run_eql_slice_nil w _ _ a n c n' c' underlying80
 cases A with
 |none =>
  have hz:Hid (ds= []):=by
   show ds= []
   obtain⟨A',c',e,-,-,hs⟩:=H.o;rcases hs with⟨h,-⟩|⟨ad,css,fss,e2,-⟩
   ·exact h
   ·injection e with e1
    rw[e2]at e1;cases e1
  go_enter func293,ntmps293
  go_wp2_with fail
  go_ret
  refine⟨_,[],rfl,?_,(fun a ha => by cases ha),aB _ _⟩;rw[hz.o];exact Aj.start ⟨rfl,.inl ⟨rfl,rfl⟩⟩
 |some ad =>
  go_enter func293,ntmps293
  go_wp2_with (at_builtin;refine Ar rfl (.tmp 5) (.tmp 6) 80 rfl _ _ (by rfl) (by rfl) HAP.o ?_;rintro v6 w6 ⟨hs,o6,s6,r6,-⟩;have O6:=U o6;have S6:=U s6;have R6:=U r6;clear o6 s6 r6)
  go_ret
  refine⟨_,[] ++ hs,rfl,by simpa using O6.o,(fun a ha => HT.o a (S6.o.subset (by simpa using ha))),?_⟩;exact HB.o.grown R6.o (by simp) (fun k hk => by simp[Value.ownBlock]at hk;omega)
structure Dx (w:World) (base g n:Nat) (got:Nat→Option Ah):Prop where
 there:w.there g 0 (n * 9)
 lo:base≤g
 lt:g<w.heap.size
 el:∀i,i<n→∀d,got i=some d→∃cs fk,Ac w fk cs d∧w.rangeAt g (i * 9) cs∧∀a,a∈fk→a.block<base
theorem Dx.below {w w':World} {base g n:Nat} {got:Nat→Option Ah}(h:Dx w base g n got)(hb:Below w.heap.size w w'):Dx w' base g n got :=
 ⟨fun j hj =>⟨by rw[hb.cell (p:=⟨g,0+j,none⟩) h.lt];exact(h.there j hj).1,by rw[hb.frozen (p:=⟨g,0+j,none⟩) h.lt];exact(h.there j hj).2⟩,h.lo,aE h.lt hb.size,fun i hi d hd => by
  obtain⟨cs,fk,h1,h2,h3⟩:=h.el i hi d hd;exact⟨cs,fk,AB.below Ac.local_ Ac.fixed h1 hb,fun q v hq =>(hb.cell (p:=⟨g,i * 9+q,none⟩) h.lt).trans (h2 q v hq),h3⟩⟩
theorem Dx.got_ {w:World} {base g n:Nat} {got got':Nat→Option Ah}(h:Dx w base g n got)(hg:∀i,i<n→∀d,got' i=some d→got i=some d):Dx w base g n got' :=
 ⟨h.there,h.lo,h.lt,fun i hi d hd => h.el i hi d (hg i hi d hd)⟩
theorem Mg {w:World} {g n:Nat}(h:w.there g 0 n)(b o:Nat)(vs:List Value):(w.setCells b o vs).there g 0 n:=fun j hj => by
 refine⟨?_,by rw[World.frozen?_setCells];exact(h j hj).2⟩;have:∀(vs:List Value) (o:Nat) (w:World),(w.cell? ⟨g,0+j,none⟩).isSome =true→((w.setCells b o vs).cell? ⟨g,0+j,none⟩).isSome =true:=by
  intro vs;induction vs with
  |nil => intro o w h;exact h
  |cons v r ih =>
   intro o w h;refine ih (o+1) _ ?_;by_cases e:(⟨b,o,none⟩:Addr)=⟨g,0+j,none⟩
   ·rw[e,World.cell?_setCell_same' _ _ _ (by simpa using h)];rfl
   ·rw[World.cell?_setCell_other _ _ _ _ e];exact h
 exact this vs o w (h j hj).1
theorem Dx.store {w:World} {base g n:Nat} {got:Nat→Option Ah}(h:Dx w base g n got) {i:Nat}(hi:i<n) {cs:List Value} {fk:List Addr} {d:Ah}(hr:Ac w fk cs d)(hf:∀a,a∈fk→a.block<base):Dx (w.setCells g (i * 9) cs) base g n (fun q => if q=i then some d else got q):=by
 have hlo:=h.lo;have hlen:=Ac.wide _ _ _ _ hr;have same:∀a:Addr,a.block<base→(w.setCells g (i * 9) cs).cell? a=w.cell? a:=fun a ha => World.cell?_setCells_out g cs (i * 9) w a (fun e => by omega)
 refine⟨Mg h.there _ _ _,hlo,by rw[size_setCells];exact h.lt,fun q hq e he => ?_⟩;by_cases hqi:q=i
 ·subst hqi;simp only[if_true]at he;injection he with he
  subst he;refine⟨cs,fk,Ac.local_ _ _ _ _ _ hr (fun a ha => same a (hf a ha)),World.rangeAt_setCells_same _ _ _ _ (fun j hj => ?_),hf⟩;have:=h.there (q * 9+j) (by omega);rw[Nat.zero_add]at this;exact this
 ·simp only[hqi,if_false]at he;obtain⟨cs2,fk2,h1,h2,h3⟩:=h.el q hq e he;have hl2:=Ac.wide _ _ _ _ h1;exact⟨cs2,fk2,Ac.local_ _ _ _ _ _ h1 (fun a ha => same a (h3 a ha)),World.rangeAt_setCells_apart h2 _ _ _ (by
   right
   rw[hlen,hl2];rcases Nat.lt_or_ge q i with hlt|hge
   ·left;omega
   ·right;omega),h3⟩
theorem Dx.cleared {w:World} {base g n:Nat} {got:Nat→Option Ah}(h:Dx w base g n got)(i:Nat)(vs:List Value):Dx (w.setCells g (i * 9) vs) base g n (fun q => if q<i then got q else none):=by
 have hlo:=h.lo;have same:∀a:Addr,a.block<base→(w.setCells g (i * 9) vs).cell? a=w.cell? a:=fun a ha => World.cell?_setCells_out g vs (i * 9) w a (fun e => by omega)
 refine⟨Mg h.there _ _ _,hlo,by rw[size_setCells];exact h.lt,fun q hq e he => ?_⟩;by_cases hqi:q<i
 ·simp only[hqi,if_true]at he;obtain⟨cs2,fk2,h1,h2,h3⟩:=h.el q hq e he;have hl2:=Ac.wide _ _ _ _ h1;exact⟨cs2,fk2,Ac.local_ _ _ _ _ _ h1 (fun a ha => same a (h3 a ha)),World.rangeAt_setCells_apart h2 _ _ _ (by right;left;rw[hl2];omega),h3⟩
 ·simp only[hqi,if_false]at he;cases he
theorem Dx.of_own {w:World} {base g n c:Nat} {E:TypeId} {ds:List Ah} {fs:List Addr}(h:Aj 9 E Ac w base (.slice (some ⟨g,0,none⟩) n c) ds fs)(hfs:∀a,a∈fs→a.block<base):Dx w base g n (fun i => ds[i]?)∧n=ds.length∧n≤c∧c≤9223372036854775807:=by
 obtain⟨A',c',e,hc,hm⟩:=h.length;injection e with e1 e2 e3
 subst e2 e3;obtain⟨css,fss,h1,h2,rfl,⟨hl,ht⟩,h5,h6⟩:=h;rcases ht with⟨e,_⟩|⟨g',cap,cur,e,q1,q2,q3,q4,q5,q6⟩
 ·cases e
 ·injection e with e1 e2 e3
  injection e1 with e1
  injection e1 with e1 _ _
  subst e1 e3;have hblk:Blk w g E cur:=q2;have hw:∀c,c∈css→c.length=9:=by
   intro c hc;obtain⟨i,hi,rfl⟩:=aY hc;obtain⟨_,_,p3,_⟩:=h5 i (by omega);exact p3
  refine⟨⟨hblk.there (ds.length * 9) (by rw[q5];exact Nat.mul_le_mul_right _ q3),q1,hblk.lt,fun i hi d hd => ?_⟩,rfl,hc,hm⟩;obtain⟨p1,p2,p3,p4⟩:=h5 i hi;rw[aO hi]at hd;injection hd with hd
  subst hd;refine⟨css[i],fss[i],p4,fun q v hq => ?_,fun a ha => hfs a (List.mem_flatten.2 ⟨_,aN p2,ha⟩)⟩;have hq1:q<css[i].length:=(List.getElem?_eq_some_iff.1 hq).1;rw[hblk.cell];have e7:=DM css hw i q p1 (by omega);rw[← q6,List.getElem?_take,aL (by omega),Array.getElem?_toList]at e7;rw[e7,hq]
theorem Dx.reads {w:World} {base g n:Nat} {got:Nat→Option Ah}(h:Dx w base g n got) {L:List Ah} {c:Nat}(hL:L.length≤n)(hc:L.length≤c)(hc2:c≤9223372036854775807)(hg:∀i,(hi:i<L.length)→got i=some L[i]):∃fs,rSl 9 Ac w fs (.slice (some ⟨g,0,none⟩) L.length c) L:=by
 have hex:∀i:Fin L.length,∃q:List Value × List Addr,Ac w q.2 q.1 (L[i.1]'i.2)∧w.rangeAt g (i.1 * 9) q.1:=fun i => by
  obtain⟨cs,fk,h1,h2,-⟩:=h.el i.1 (by omega) _ (hg i.1 i.2);exact⟨(cs,fk),h1,h2⟩
 obtain⟨Q,hQ⟩:=Classical.axiomOfChoice hex;refine⟨_,some ⟨g,0,none⟩,c,rfl,hc,hc2,.inr ⟨⟨g,0,none⟩,List.ofFn fun i =>(Q i).1,List.ofFn fun i =>(Q i).2,rfl,by simp,by simp,rfl,fun i hi => ?_⟩⟩;obtain⟨h1,h2⟩:=hQ ⟨i,hi⟩;refine⟨by simpa using hi,by simpa using hi,by simpa using Ac.wide _ _ _ _ h1,fun j hj => ?_,by simpa using h1⟩;simp only[List.getElem_ofFn]at hj⊢;rw[Cs];exact h2 j _ (aO hj)
theorem F9 {α:Type} {keep:α→Bool} {ds:List α} {j:Nat}(hj:j<ds.length)(h:keep ds[j] =true):(ds.take (j+1)).filter keep=(ds.take j).filter keep ++ [ds[j]]:=by
 rw[aM hj,List.filter_append];simp[h]
theorem DA {α:Type} {keep:α→Bool} {ds:List α} {j:Nat}(hj:j<ds.length)(h:keep ds[j] =false):(ds.take (j+1)).filter keep=(ds.take j).filter keep:=by
 rw[aM hj,List.filter_append];simp[h]
theorem LA(w:World)(ty:TypeId)(g o n c:Nat)(hn:0<n)(ht:w.there g o (n * 9)):∃vs:List Value,(Builtin.clear_ #[80] ty #[.slice (some ⟨g,o,none⟩) n c]).run prog w= .ok (.tuple #[]) (w.setCells g o vs):=by
 refine⟨(Builtin.zeroCells #[int i64 0,int i64 0,.string ⟨#[]⟩,int i64 0,int i64 0,int i64 0,.slice none 0 0,.slice none 0 0,.slice none 0 0] n).toList,?_⟩;have hlen:(Builtin.zeroCells #[int i64 0,int i64 0,.string ⟨#[]⟩,int i64 0,int i64 0,int i64 0,.slice none 0 0,.slice none 0 0,.slice none 0 0] n).toList.length =n * 9:=by simp[Builtin.zeroCells]
 have hst:=run_storeCells_cells (P:=prog) g o _ 0 w (fun j hj => by rw[hlen]at hj;have:=(ht j hj).1;simpa using this) (fun j hj => by rw[hlen]at hj;have:=(ht j hj).2;simpa using this) (by
  intro v hv;simp only[Builtin.zeroCells,Array.toList_map,List.mem_map]at hv;obtain⟨i,-,rfl⟩:=hv;have:i % 9<9:=Nat.mod_lt _ (by omega);generalize hq:i % 9=q at this;match q,this with
  |0,_ => rfl
  |1,_ => rfl
  |2,_ => rfl
  |3,_ => rfl
  |4,_ => rfl
  |5,_ => rfl
  |6,_ => rfl
  |7,_ => rfl
  |8,_ => rfl)
 obtain⟨m,rfl⟩:∃m,n=m+1:=⟨n - 1,by omega⟩;generalize hz:(Builtin.zeroCells #[int i64 0,int i64 0,.string ⟨#[]⟩,int i64 0,int i64 0,int i64 0,.slice none 0 0,.slice none 0 0,.slice none 0 0] (m+1)).toList =Z at hst hlen⊢;simp only[bE]at hst;have hv:=zeroValue119;simp[Builtin.clear_,run_underlying underlying80,hv,Value.cells,hz,hst]
theorem MK(p:Ah→Bool)(gf:Nat)(cb:Array Value)(base:Nat)(v:Value)(ds:List Ah)(fs:List Addr)(w:World)(eg:∀args w,(callFunc gf args).run prog w= .ok (.enter gf args) w)(ho:Aj 9 119 Ac w base v ds fs)(hfs:∀a,a∈fs→a.block<base)(hbase:base≤w.heap.size)(hsm:ds.length≤1000000)
  (hp:∀(W:World) (cs:List Value) (fk:List Addr) (d:Ah),Below base w W→Ac W fk cs d→d∈ds→Calls prog gf (#[.agg cs.toArray] ++ cb) W fun e w' => e= .returned (.bool (p d))∧Below W.heap.size W w') :
  Calls prog 220 #[v,.func (.func gf) #[] cb] w fun e w' =>∃A c fs',e= .returned (.slice A (ds.filter fun x => !p x).length c)∧rSl 9 Ac w' fs' (.slice A (ds.filter fun x => !p x).length c) (ds.filter fun x => !p x)∧Below base w w':=by
 obtain⟨fr,hrd,-⟩:=ho.reads;have HI:=U (Kt 9 (by omega) sizeOf119 isAgg119 p gf cb v ds (fr ++ fs) w eg hrd (fun W cs fk j hj hW hR => hp W cs fk ds[j] (hW.mono hbase) hR (aN hj)));have HRD:=U hrd;have HP:=U hp;clear hp hrd;by_cases hany:ds.any p=true
 case neg =>
  have hnone:∀q,(hq:q<ds.length)→p ds[q] =false:=fun q hq => by
   cases h:p ds[q]with
   |false => rfl
   |true => exact absurd (List.any_eq_true.2 ⟨_,aN hq,h⟩) hany
  have U:ds.filter (fun x => !p x)=ds:=List.filter_eq_self.2 (fun x hx => by
   obtain⟨q,hq,rfl⟩:=aY hx;rw[hnone q hq];rfl)
  rw[U];rw[FY hnone]at HI;obtain⟨A,c,rfl,-⟩:=rSl.head HRD.o;clear hnone U hany ho;go_enter func220,ntmps220
  go_wp2_with (go_at_call 136;refine HI.o.mono ?_;rintro e w1 ⟨rfl,hb1⟩)
  go_ret
  exact⟨A,c,fr ++ fs,rfl,rSl.below Ac.local_ Ac.fixed HRD.o hb1,hb1.mono hbase⟩
 case pos =>
 -- the first that is struck
 have hk0:∃k0,∃hk:k0<ds.length,p ds[k0] =true∧∀q,(hq:q<ds.length)→q<k0→p ds[q] =false:=by
  cases hf:ds.findIdx? p with
  |none =>
   rw[List.findIdx?_eq_none_iff]at hf;obtain⟨x,hx,hpx⟩:=List.any_eq_true.1 hany;rw[hf x hx]at hpx;cases hpx
  |some k0 =>
   obtain⟨h1,h2,h3⟩:=List.findIdx?_eq_some_iff_getElem.1 hf;exact⟨k0,h1,h2,fun q hq hqk => by have:=h3 q hqk;simpa using this⟩
 obtain⟨k0,hk0,hpk,hall⟩:=hk0;rw[GF hk0 hpk hall]at HI
 -- the row
 obtain⟨g,n,c,rfl⟩:∃g n c,v= .slice (some ⟨g,0,none⟩) n c:=by
  obtain⟨A,c,e,-⟩:=ho.length;obtain⟨xs,hl,ht⟩:=ho.cells;rcases ht with⟨rfl,e0⟩|⟨g,cap,cur,rfl,_⟩
  ·omega
  ·exact⟨g,_,_,rfl⟩
 obtain⟨hrow,hn,hnc,hcm⟩:=Dx.of_own ho hfs;have HROW:=U hrow;have HN:=U hn;have hk0n:k0<n:=by omega
 have hn1:n≤1000000:=by omega
 have HF0:=U (show(ds.take (k0+1)).filter (fun x => !p x)=ds.take k0 by
  rw[DA hk0 (by rw[hpk];rfl)];exact List.filter_eq_self.2 (fun x hx => by
   obtain⟨q,hq,rfl⟩:=aY hx;rw[aQ]at hq;rw[List.getElem_take,hall q (by omega) (by omega)];rfl))
 have hne1:((k0:Int) == -1)=false:=beq_eq_false_iff_ne.2 (by omega);have hne2:¬((k0:Int)= -1):=by omega
 clear hpk hall hany ho hrow hn hfs HRD;go_enter func220,ntmps220
 go_wp2_with (go_at_call 136;refine HI.o.mono ?_;rintro e w1 ⟨rfl,hb1⟩;have B1:=U hb1;clear hb1)
 have start:Hid (Dx w1 base g n (fun q => if q<k0 then((ds.take (k0+1)).filter fun x => !p x)[q]? else if k0+1≤q then ds[q]? else none)):=by
  show Dx _ _ _ _ _
  refine(HROW.o.below B1.o).got_ (fun i hi d hd => ?_);by_cases h1:i<k0
  ·rw[aL h1,HF0.o,List.getElem?_take,aL h1]at hd;exact hd
  ·rw[aI h1]at hd;split at hd
   ·exact hd
   ·cases hd
 have st2:Hid (k0=((ds.take (k0+1)).filter fun x => !p x).length):=(show _=_ by rw[HF0.o,aQ];omega);clear HROW HF0;go_loopw [5,6,7] (fun u v _ wr =>∃(i j:Nat),u= int i64 i∧v= int i64 j∧i<j∧j≤n∧Hid (i=((ds.take j).filter fun x => !p x).length)∧Hid (Dx wr base g n (fun q => if q<i then((ds.take j).filter fun x => !p x)[q]? else if j≤q then ds[q]? else none))∧Hid (Below base w wr)) (fun _ v _ _ => n - (intOf v).toNat)
 case atStart => exact⟨k0,k0+1,rfl,by go_num,by omega,by omega,st2.o,start.o,B1.o.mono hbase⟩
 case round =>
  clear start st2;obtain⟨i,j,rfl,rfl,hij,hjn,HL,HR,HB⟩:=hrel;by_cases hlt:j<n
  ·have hjd:j<ds.length:=by have:=HN.o;omega
   have hltz:(j:Int)<(n:Int):=by omega
   obtain⟨cs,fk,hr,hrange,hfk⟩:=HR.o.el j hlt ds[j] (by
    rw[aI (by omega),aL (aC _)];exact aO hjd)
   have hlen:=Ac.wide _ _ _ _ hr;have hgl:=HR.o.lt;have hglo:=HR.o.lo;have HRA:=U hrange;have HI1:=U (show(prog.info? 119).map (·.size)=some cs.length by rw[hlen];kernel_rfl);have HI2:=U (show(prog.info? 119).map (·.size)=some cs.toArray.size by rw[aZ,hlen];kernel_rfl);have HON:=U (all_oneCell_toArray (Ac.ones _ _ _ _ hr));obtain⟨Z,hZ⟩:∃Z:Array Value,#[int i64 0,int i64 0,.string ⟨#[]⟩,int i64 0,int i64 0,int i64 0,.slice none 0 0,.slice none 0 0,.slice none 0 0] =Z:=⟨_,rfl⟩;have hZs:Z.size=9:=by rw[← hZ];rfl
   have KZ:=Blk.new wr 119 Z;have HTH:=U (Blk.there KZ cs.toArray.size (by rw[aZ,hlen,hZs];exact aC _));obtain⟨W2,hW2⟩:∃W2,(wr.alloc (.cells Z 119)).setCells wr.heap.size 0 cs.toArray.toList=W2:=⟨_,rfl⟩;have K2:=U (show Blk W2 wr.heap.size 119 cs.toArray by rw[← hW2];exact Blk.laid KZ _ (by rw[hZs];exact hlen.symm));have B2:=U (show Below wr.heap.size wr W2 by rw[← hW2];exact Ba (Af (aB _ _) _) _ 0 (aC _));have HW2:=U hW2;have HR2:=U (Blk.rangeAll K2.o);have hbw:base≤wr.heap.size:=by omega
   have HB2:=U (HB.o.trans (B2.o.mono hbw));have HRD:=U (AB.below Ac.local_ Ac.fixed hr B2.o);have HC:=U (HP.o W2 cs fk ds[j] HB2.o HRD.o (aN hjd));have HFK:=U hfk;have HLEN:=U hlen;clear hr hrange hfk hW2 KZ hlen hZs;obtain⟨pj,hpj⟩:∃pj,p ds[j] =pj:=⟨_,rfl⟩;rw[hpj]at HC;have HPJ:=U hpj;clear hpj;have row2:=fun(W3:World) (hb3:Below W2.heap.size W2 W3) =>(HR.o.below B2.o).below hb3
   have HROW:=U row2;clear row2;cases pj with
   |true =>
    go_wp2_with (first
     |(refine aD rfl 119 (.tmp 24) rfl g (j * 9) rfl cs _ HRA.o underlying119 rfl HI1.o ?_)
     |(refine aW rfl 119 (.tmp 7) (.tmp 25) rfl wr.heap.size 0 cs.toArray rfl rfl HTH.o HI2.o HON.o ?_;rw[HW2.o])
     |(refine aD rfl 119 (.tmp 7) rfl wr.heap.size 0 rfl cs _ HR2.o underlying119 rfl HI1.o ?_)
     |(go_at_fn gf;refine HC.o.mono ?_;rintro e w3 ⟨rfl,hb3⟩;have B3:=U hb3;clear hb3))
    go_roundw
    case rel =>
     have hF:=DA (keep:=fun x => !p x) hjd (by rw[HPJ.o];rfl);refine⟨i,j+1,rfl,by go_num,by omega,by omega,(show _=_ by rw[hF];exact HL.o),(show Dx _ _ _ _ _ from ?_),HB2.o.trans (B3.o.mono (bL hbw B2.o.size))⟩;rw[hF];refine(HROW.o _ B3.o).got_ (fun q hq d hd => ?_);by_cases h1:q<i
     ·rw[aL h1]at hd⊢;exact hd
     ·rw[aI h1]at hd⊢;split at hd
      ·rw[aL (by omega)];exact hd
      ·cases hd
    case measure => simp[intOf];omega
   |false =>
    go_wp2_with (first
     |(refine aD rfl 119 (.tmp 24) rfl g (j * 9) rfl cs _ HRA.o underlying119 rfl HI1.o ?_)
     |(refine aW rfl 119 (.tmp 7) (.tmp 25) rfl wr.heap.size 0 cs.toArray rfl rfl HTH.o HI2.o HON.o ?_;rw[HW2.o])
     |(refine aD rfl 119 (.tmp 7) rfl wr.heap.size 0 rfl cs _ HR2.o underlying119 rfl HI1.o ?_)
     |(go_at_fn gf;refine HC.o.mono ?_;rintro e w3 ⟨rfl,hb3⟩;have B3:=U hb3;have HR3:=U (Blk.rangeAll (K2.o.below hb3 K2.o.lt));have HT3:=U (show w3.there g (i * 9) cs.toArray.size from fun q hq => by
       have hq9:q<9:=by rw[aZ,HLEN.o]at hq;exact hq
       have:=(HROW.o _ hb3).there (i * 9+q) (by omega);rw[Nat.zero_add]at this;exact this);clear hb3)
     |(refine aD rfl 119 (.tmp 7) rfl wr.heap.size 0 rfl cs _ HR3.o underlying119 rfl HI1.o ?_)
     |(refine aW rfl 119 (.tmp 33) (.tmp 32) rfl g (i * 9) cs.toArray rfl rfl HT3.o HI2.o HON.o ?_))
    go_roundw
    case rel =>
     have hF:=F9 (keep:=fun x => !p x) hjd (by rw[HPJ.o];rfl);have hB3:=HB2.o.trans (B3.o.mono (bL hbw B2.o.size));refine⟨i+1,j+1,by go_num,by go_num,by omega,by omega,(show _=_ by rw[hF,bC,← HL.o];rfl),(show Dx _ _ _ _ _ from ?_),(show Below _ _ _ from Ba hB3 _ _ hglo)⟩;rw[hF];refine((HROW.o _ B3.o).store (i:=i) (by omega) (AB.below Ac.local_ Ac.fixed HRD.o B3.o) HFK.o).got_ (fun q hq d hd => ?_);by_cases h1:q=i
     ·subst h1;rw[aL rfl];rw[aL (by omega),List.getElem?_append_right (by rw[← HL.o];exact aC _),← HL.o]at hd;simpa using hd
     ·rw[aI h1];by_cases h2:q<i
      ·rw[aL h2];rw[aL (by omega),List.getElem?_append_left (by rw[← HL.o];exact h2)]at hd;exact hd
      ·rw[aI h2];rw[aI (by omega)]at hd;split at hd
       ·rw[aL (by omega)];exact hd
       ·cases hd
    case measure => simp[intOf];omega
  ·obtain rfl:j=n:=by omega
   have hltz:¬(j:Int)<(j:Int):=by omega
   obtain⟨vs,hcl⟩:=LA wr 0 g (i * 9) (j - i) (c - i) (by omega) (fun q hq => by
    have:=HR.o.there (i * 9+q) (by omega);rw[Nat.zero_add]at this;exact this)
   have hic:¬c=i:=by omega
   have hici:(i:Int)≤(j:Int):=by omega
   have hi0:(0:Int)≤(i:Int):=by omega
   have hicc:(i:Int)≤(c:Int):=by omega
   have hHC:=U (HR.o.cleared i vs);have hglo:=HR.o.lo;have HB5:=U (show Below base w (wr.setCells g (i * 9) vs)from Ba HB.o _ _ hglo);have HLT:=U (show(ds.take j).filter (fun x => !p x)=ds.filter (fun x => !p x) by rw[bK (by have:=HN.o;omega)]);clear HR HB;go_wp2_with fail
   go_ret
   rw[← HLT.o];have hi:=HL.o;obtain⟨fs1,hr1⟩:=hHC.o.reads (L:=(ds.take j).filter fun x => !p x) (c:=c) (by rw[← hi];omega) (by rw[← hi];omega) hcm (fun q hq => by
    rw[aL (by rw[hi];exact hq),aL (by rw[hi];exact hq)];exact aO hq)
   rw[← hi]at hr1⊢;exact⟨some ⟨g,0,none⟩,c,rfl,⟨fs1,hr1⟩,HB5.o⟩
def Cm(groups:Int)(all:List Ah)(group:Int):List Ah:=all.filter (Co groups all group)
theorem RJ(x:Ah)(cs:List Value)(f:List Addr)(p b1 b2 b3 n c:Nat)(A:Option Addr)(fs fa:List Addr)(d:Am)(all:List Ah)(group:Int)(w:World)
  (hx:Ac w f cs x) (hw:AtW w p fs d) (hok:d.s.sh.Ok) (hg0:0≤group) (h1:w.cell? ⟨b1,0,none⟩=some (.pointer (some ⟨p,0,none⟩))) (h2:w.cell? ⟨b2,0,none⟩=some (int i64 group)) (h3:w.cell? ⟨b3,0,none⟩=some (.slice A n c)) (ha:rSl 9 Ac w fa (.slice A n c) all) :
  Calls prog 294 #[.agg cs.toArray,.pointer (some ⟨b1,0,none⟩),.pointer (some ⟨b2,0,none⟩),.pointer (some ⟨b3,0,none⟩)] w fun e w' => e= .returned (.bool (!Co d.s.g all group x))∧Below w.heap.size w w' :=
 RK 9 rfl sizeOf31 isAgg31 x cs f p b1 b2 b3 n c A fs fa d all group w hx hw hok hg0 h1 h2 h3 ha
theorem FD(d:Am):(AN d).length≤(CZ d).length:=by
 unfold AN;rw[Kh];exact GA _ _ rfl
theorem NJ(p:Nat)(fs:List Addr)(d:Am)(group:Int)(w:World)(h:AtW w p fs d)(hok:d.s.sh.Ok)(hg0:0≤group)(hsm:(CZ d).length≤1000000) :
  Calls prog 258 #[.pointer (some ⟨p,0,none⟩),int i64 group] w fun e w' =>∃A c fs',e= .returned (.slice A (Cm d.s.g (AN d) group).length c)∧rSl 9 Ac w' fs' (.slice A (Cm d.s.g (AN d) group).length c) (Cm d.s.g (AN d) group)∧Below w.heap.size w w':=by
 obtain⟨W1,hW1⟩:∃W1,(w.alloc (.cells #[.pointer (some ⟨p,0,none⟩)] 82)).alloc (.cells #[int i64 group] 2)=W1:=⟨_,rfl⟩;have hB1:Below w.heap.size w W1:=by rw[← hW1];exact((aB _ _).alloc (aC _) _).alloc (by simp) _
 have K1:Blk W1 w.heap.size 82 #[.pointer (some ⟨p,0,none⟩)]:=by rw[← hW1];exact(Blk.new w _ _).alloc _
 have K2:Blk W1 (w.heap.size+1) 2 #[int i64 group]:=by rw[← hW1];exact Blk.new1 w _ _ _
 have HA1:=U (h.below hB1);have HC:=U (Qa p fs d W1 HA1.o hsm);have HB1:=U hB1;have HK1:=U K1;have HK2:=U K2;have hl:=FD d;have p1:W1.cell? ⟨w.heap.size,0,none⟩=some (.pointer (some ⟨p,0,none⟩)):=(K1.cell 0).trans rfl;clear h hB1 K1 K2;obtain⟨all,hall⟩:∃all,AN d=all:=⟨_,rfl⟩;rw[hall]at HC hl⊢;have HALL:=U hall;clear hall;go_enter func258,ntmps258
 go_wp2_with (go_at_call 126;refine HC.o.mono ?_;rintro e w2 ⟨A,c,fa,rfl,ra,b2⟩;have RA:=U ra;have B2:=U b2;have W3:=U (show Below w2.heap.size w2 (w2.alloc (.cells #[.slice A all.length c] 80))from(aB _ _).alloc (aC _) _);have HCL:=U (NO _ all fa (w2.alloc (.cells #[.slice A all.length c] 80)) (rSl.below Ac.local_ Ac.fixed RA.o W3.o) (by omega));clear ra b2)
 refine HCL.o.mono ?_;rintro e w4 ⟨v',fcl,rfl,own,hfcl,b4⟩;obtain⟨w3,hw3⟩:∃w3,w2.alloc (.cells #[.slice A all.length c] 80)=w3:=⟨_,rfl⟩;rw[hw3]at own hfcl b4 W3;have K3:Blk w3 w2.heap.size 80 #[.slice A all.length c]:=by rw[← hw3];exact Blk.new w2 _ _
 have hb13:Below W1.heap.size W1 w3:=B2.o.trans (W3.o.mono B2.o.size);have k1:Blk w3 w.heap.size 82 #[.pointer (some ⟨p,0,none⟩)]:=HK1.o.below hb13 HK1.o.lt;have k2:Blk w3 (w.heap.size+1) 2 #[int i64 group]:=HK2.o.below hb13 HK2.o.lt;have ha3:AtW w3 p fs d:=HA1.o.below hb13;have ra3:=rSl.below Ac.local_ Ac.fixed RA.o W3.o;have HDEL:=U (MK (fun x => !Co d.s.g all group x) 294 #[.pointer (some ⟨w.heap.size,0,none⟩),.pointer (some ⟨w.heap.size+1,0,none⟩),.pointer (some ⟨w2.heap.size,0,none⟩)] w3.heap.size v' all fcl w4 (enters_of func294 (by kernel_rfl) rfl) own hfcl b4.size (by omega)
  (fun W cs fk x hW hR _ => by
   have hbW:Below w3.heap.size w3 W:=b4.trans hW;exact RJ x cs fk p w.heap.size (w.heap.size+1) w2.heap.size all.length c A fs fa d all group W hR (ha3.below hbW) hok hg0 (((k1.below hbW k1.lt).cell 0).trans rfl) (((k2.below hbW k2.lt).cell 0).trans rfl) (((K3.below hbW K3.lt).cell 0).trans rfl) (rSl.below Ac.local_ Ac.fixed ra3 hbW)))
 rw[show(all.filter fun x => !(!Co d.s.g all group x))=Cm d.s.g all group by unfold Cm;congr 1;funext x;simp]at HDEL;have HBB:=U (show Below w.heap.size w w4 from HB1.o.trans ((hb13.trans (b4.mono hb13.size)).mono HB1.o.size));have HBZ:=U (show w.heap.size≤w3.heap.size from bL HB1.o.size hb13.size);clear own hfcl b4 K3 hb13 k1 k2 ha3 ra3 hW1 hw3 HCL;go_wp2_with (go_at_call 220;refine HDEL.o.mono ?_;rintro e w5 ⟨A5,c5,f5,rfl,r5,b5⟩)
 go_ret
 exact⟨A5,c5,f5,rfl,r5,HBB.o.trans (b5.mono HBZ.o)⟩
def letB(c:UInt8):Bool:=decide (97≤c.toNat) && decide (c.toNat≤122)
def digB(c:UInt8):Bool:=decide (48≤c.toNat) && decide (c.toNat≤57)
def CO(i:Nat)(c:UInt8):Bool:=letB c||(decide (0<i) && digB c)
def Ex(l:List UInt8)(k:Nat):Prop:=∀i,(h:i<l.length)→i<k→CO i l[i] =true
instance (l:List UInt8) (k:Nat):Decidable (Ex l k):=by unfold Ex;infer_instance
def C7(l:List UInt8):Bool:=decide (Ex l l.length) && (decide (1≤l.length) && decide (l.length≤8))
def BQ(l:List UInt8):Int:=if C7 l=true then 0 else 5
theorem JO(l:List UInt8):Ex l 0:=fun _ _ h => by omega
theorem JN {l:List UInt8} {k:Nat}(h:Ex l k)(hk:k<l.length)(hs:CO k l[k] =true):Ex l (k+1):=fun i hi hik => by
 by_cases e:i=k
 ·subst e;exact hs
 ·exact h i hi (by omega)
theorem GJ {l:List UInt8} {k:Nat}(hk:k<l.length)(hs:CO k l[k] =false):BQ l=5:=by
 unfold BQ C7;rw[aI];intro h;simp only[Bool.and_eq_true,bN]at h;have:=h.1 k hk hk;rw[hs]at this;cases this
theorem GK {l:List UInt8}(h:l.length<1∨8<l.length):BQ l=5:=by
 unfold BQ C7;rw[aI];intro h2;simp only[Bool.and_eq_true,bN]at h2;omega
theorem JI {l:List UInt8}(h:Ex l l.length)(h1:1≤l.length)(h2:l.length≤8):BQ l=0:=by
 unfold BQ C7;rw[aL];simp only[Bool.and_eq_true,bN];exact⟨h,h1,h2⟩
def C4(l:List Int)(hi:Int)(k:Nat):Prop:=∀i,(h:i<l.length)→i<k→Ap l[i] 0 hi=true∧l[i]∉l.take i
instance (l:List Int) (hi:Int) (k:Nat):Decidable (C4 l hi k):=by unfold C4;infer_instance
def DD(l:List Int)(hi:Int):Bool:=decide (C4 l hi l.length)
theorem Ha(l:List Int)(hi:Int):C4 l hi 0:=fun _ _ h => by omega
theorem G7 {l:List Int} {hi:Int} {k:Nat}(h:C4 l hi k)(hk:k<l.length)(h1:Ap l[k] 0 hi=true)(h2:l[k]∉l.take k):C4 l hi (k+1):=fun i hi hik => by
 by_cases e:i=k
 ·subst e;exact⟨h1,h2⟩
 ·exact h i hi (by omega)
theorem Ib {l:List Int} {hi:Int} {k:Nat}(hk:k<l.length)(h:Ap l[k] 0 hi=false∨l[k]∈l.take k):∀m,k<m→¬C4 l hi m:=fun m hm ha => by
 obtain⟨h1,h2⟩:=ha k hk hm;rcases h with h|h
 ·rw[h]at h1;cases h1
 ·exact h2 h
theorem Mz {l:List Int} {hi:Int}(h:C4 l hi l.length):DD l hi=true:=by unfold DD;simpa using h
theorem Ia {l:List Int} {hi:Int} {k:Nat}(hk:k<l.length)(h:Ap l[k] 0 hi=false∨l[k]∈l.take k):DD l hi=false:=by
 unfold DD;simpa using Ib hk h _ hk
def Fv(l:List Int)(hi:Int)(k:Nat):Prop:=∀i,(h:i<l.length)→i<k→Ap l[i] 0 hi=true∧(0<i→l[i - 1] <l[i])
instance (l:List Int) (hi:Int) (k:Nat):Decidable (Fv l hi k):=by unfold Fv;infer_instance
def CC(l:List Int)(hi:Int):Bool:=decide (Fv l hi l.length)
theorem KM(l:List Int)(hi:Int):Fv l hi 0:=fun _ _ h => by omega
theorem KL {l:List Int} {hi:Int} {k:Nat}(h:Fv l hi k)(hk:k<l.length)(h1:Ap l[k] 0 hi=true)(h2:0<k→l[k - 1] <l[k]):Fv l hi (k+1):=fun i hi hik => by
 by_cases e:i=k
 ·subst e;exact⟨h1,h2⟩
 ·exact h i hi (by omega)
theorem OF {l:List Int} {hi:Int}(h:Fv l hi l.length):CC l hi=true:=by unfold CC;simpa using h
theorem OE {l:List Int} {hi:Int} {k:Nat}(hk:k<l.length)(h:Ap l[k] 0 hi=false∨(0<k∧l[k]≤l[k - 1])):CC l hi=false:=by
 unfold CC;simp only[decide_eq_false_iff_not];intro ha;obtain⟨h1,h2⟩:=ha k hk hk;rcases h with h|⟨h,h3⟩
 ·rw[h]at h1;cases h1
 ·have:=h2 h;omega
def DG(s:Sh)(n:Int):Bool:=decide (1≤n∧n≤12 * s.data)
def CT(s:Sh)(n:Int):Int:=(n - 1) / (4 * s.data)+1
theorem Jg {s:Sh}(h:s.Ok) {n:Int}(h1:1≤n):CT s n≤3↔n≤12 * s.data:=by
 have:=h.data;have h4:0<4 * s.data:=by omega
 unfold CT;constructor
 ·intro h2;have h3:(n - 1) / (4 * s.data)<3:=by omega
  rw[Int.ediv_lt_iff_lt_mul h4]at h3;omega
 ·intro h2;have h3:(n - 1) / (4 * s.data)<3:=by
   rw[Int.ediv_lt_iff_lt_mul h4];omega
  omega
def Ch(s:Sh)(r:Ah):Bool :=
 if r.length= -1 then decide (r.data.length=0) && decide (r.rows.length=0)else
  DG s r.length && (if 0<r.data.length then decide ((r.data.length:Int)=r.length) && decide (r.rows.length=0)else decide ((r.rows.length:Int)=CT s r.length) && DD r.rows (s.rows - 1))
def DF(s:Sh)(r:Ah):Bool:=Ap r.group 0 (s.g - 1) && (Ap r.row 0 (s.rows - 1) && (decide ((r.data.length:Int)=4 * s.data) && decide ((r.delta.length:Int)=4 * s.data)))
def doneB(s:Sh)(r:Ah):Bool:=Ap r.group 0 (s.g+s.c - 1)
def Ck(r:Ah)(k:Int):Bool:=decide (r.delta.getD k.toNat 0≠0)
def Cc(s:Sh)(r:Ah):Bool:=Ap r.group 0 (s.g+s.c - 1) && (Ap r.row 0 (s.rows - 1) && (CC r.rows (s.g+s.c - 1) && (decide ((r.data.length:Int)=4 * s.data) && (decide ((r.delta.length:Int)=s.g+s.c) && (!Ck r r.group && r.rows.all (Ck r))))))
def EJ(r:Ah):Bool :=
 if r.kind=1 then decide (r.group=0∧r.row=0∧r.delta= [])else if r.kind=2 then decide (r.name=⟨#[]⟩∧r.length=0∧r.rows= [])
 else if r.kind=3 then decide (r.name=⟨#[]⟩∧r.length=0∧r.row=0∧r.rows= []∧r.data= []∧r.delta= [])else decide (r.name=⟨#[]⟩∧r.length=0)
def AZ(s:Sh)(r:Ah):Int :=
 if r.kind=1 then(if C7 r.name.data.toList=true then(if Ch s r=true then 0 else 3)else 5)else if r.kind=2 then(if DF s r=true then 0 else 3)
 else if r.kind=3 then(if doneB s r=true then 0 else 3)else(if Cc s r=true then 0 else 3)
def AF(s:Sh)(r:Ah):Int :=
 if Ap r.kind 1 4=true then(if Ap r.seq 1 1000000000=true then(if AZ s r=0 then(if EJ r=true then 0 else 1)else AZ s r)else 3)else 5
def CH(b:Bt):Bool:=Ap b.stamp 0 1000000000 && decide (b.bytes.length=4)
def C5(s:Sh)(d:AL):Bool:=decide ((d.blocks.length:Int)=s.rows) && d.blocks.all CH
def Dr(s:Sh)(g:List AL):Bool:=decide ((g.length:Int)=s.data+s.p) && g.all (C5 s)
def BJ(s:Sh)(gs:List (List AL)):Bool:=decide ((gs.length:Int)=s.g+s.c) && gs.all (Dr s)
def onB(s:Sh)(on:List Int)(down:Bool):Bool:=DD on (s.g+s.c - 1) && (decide ((on.length:Int)≤s.cap) && (decide (on.length=0)||!down))
def AY(s:Sh):List Ah→Int
 | [] => 0
 |r :: l => if AF s r=0 then AY s l else AF s r
theorem Ga(s:Sh):∀(a b:List Ah),AY s a=0→AY s (a ++ b)=AY s b
 | [],b,_ => rfl
 |r :: l,b,h => by
  unfold AY at h;split at h
  ·rename_i h0
   rw[List.cons_append];show(if AF s r=0 then AY s (l ++ b)else AF s r)=AY s b
   rw[aL h0];exact Ga s l b h
  ·rename_i h0;exact absurd h h0
def Bn(s:Sh)(ts:List AS):Int :=
 if ts.any (fun t => decide (200<t.recs.length))=true then 2 else if AY s (ts.flatMap AS.recs)=0 then(if ts.any (fun t => t.wiped && decide (0<t.recs.length))=true then 1 else 0)else AY s (ts.flatMap AS.recs)
def AK(d:Am):Int :=
 if shB d.s.sh=true then
  (if(BJ d.s.sh d.g && (onB d.s.sh d.on d.down && decide (d.v.length=2)))=true then
   (if Bn d.s.sh d.v=0 then(if(Ap d.u 0 1000000000 && Ap d.stop (-1) 1000000000)=true then 0 else 3)else Bn d.s.sh d.v)
  else 1)
 else 3
