/- Part 6 of the proof. -/
import Derived.Test.YtfjkoifpdoemdaaGreatJ03
import Derived.Test.YtfjkoifpdoemdaaGreatJ05
import Derived.Test.YtfjkoifpdoemdaaGreatJ02
import Derived.Shelf.SlicesQ.Load
set_option maxHeartbeats 8000000
set_option maxRecDepth 100000
set_option linter.unusedVariables false
set_option linter.unusedSimpArgs false
open Go.Proofs.Tryz
open Go.Value (int)
open Go.IntKind (i64)
namespace Go.Proofs.YtfjkoifpdoemdaaGreat
open Go.RowKit Go.Sort
theorem MY(v1 v2:Value)(xs ys:List UInt8)(f1 f2:List Addr)(w:World)(h1:Ag w f1 v1 xs)(h2:Ag w f2 v2 ys) :
  Calls prog 93 #[v1,v2] w fun e w' => e= .returned (.bool (decide (xs=ys)))∧Below w.heap.size w w':=by
 obtain⟨A1,c1,rfl,hc1,hm1,hx⟩:=Ag.open_ h1;obtain⟨A2,c2,rfl,hc2,hm2,hy⟩:=Ag.open_ h2;clear h1 h2;by_cases hl:xs.length=ys.length
 ·have hb:=Db hl;have HL:=U hl;clear hl;go_enter func93,ntmps93
  go_wp2
  go_loopw [4,5] (fun r i wr =>∃k:Nat,k≤xs.length∧i= int i64 k∧r= .bool false∧xs.take k=ys.take k∧Below w.heap.size w wr) (fun _ i _ => xs.length - (intOf i).toNat)
  case atStart => exact⟨0,by omega,rfl,rfl,by simp,aB _ _⟩
  case round =>
   obtain⟨k,hk,rfl,rfl,ht,hbl⟩:=hrel;have HT:=U ht;clear ht;by_cases hlt:k<xs.length
   ·have hlt2:k<ys.length:=by rw[← HL.o];exact hlt
    obtain⟨a1,e1,_,b1,g1⟩:=hx k hlt;obtain⟨a2,e2,_,b2,g2⟩:=hy k hlt2;subst e1 e2;have g1':=(hbl.cell (p:=a1.add k) b1).trans g1;have g2':=(hbl.cell (p:=a2.add k) b2).trans g2;clear g1 g2 hx hy;by_cases he:xs[k] =ys[k]
    ·have hn:=ME he;have HE:=U he;clear he;go_wp2
     go_quiet (fail)
     go_wp2
     go_roundw
     case rel => exact⟨k+1,by omega,by go_num,rfl,H7 HT.o hlt hlt2 HE.o,AM hbl _⟩
     case measure => simp[intOf];omega
    ·have hn:=MF he;go_wp2
     go_quiet (fail)
     go_wp2
     go_ret
     exact⟨Cq (by simp;intro e;subst e;exact he rfl),AM hbl _⟩
   ·have hk':k=xs.length:=by omega
    have H:=HT.o;rw[hk',aV,HL.o,aV]at H;have H1:=U H;clear H hk';go_wp2
    go_ret
    exact⟨Cq (by simp[H1.o]),hbl⟩
 ·have hb:=Dc hl;go_enter func93,ntmps93
  go_wp2
  go_ret
  exact⟨Cq (by simp;intro e;subst e;exact hl rfl),aB _ _⟩
theorem Ag.bytesIn {w:World} {fs:List Addr} {A:Option Addr} {n c:Nat} {xs:List UInt8}(h:Ag w fs (.slice A n c) xs):Lib.BytesIn w A n (xs.map fun x =>(x.toNat:Int))∧xs.length=n:=by
 obtain⟨A1,c1,e,hc1,hm1,hx⟩:=Ag.open_ h;injection e with e1 e2 e3
 subst e1 e2 e3;refine⟨?_,rfl⟩;intro hn;obtain⟨ad,e1,_,_,_⟩:=hx 0 hn;subst e1;refine Lib.BytesIn.of_cells (fun i hi => ?_) hn;obtain⟨ad2,e2,_,_,h4⟩:=hx i hi;injection e2 with e2
 subst e2;rw[h4];simp[List.getD,aO hi]
theorem JB(l:List UInt8):Lib.bytesOf (l.map fun x =>(x.toNat:Int))=l:=by
 unfold Lib.bytesOf;rw[List.map_map];conv => rhs;rw[← List.map_id l]
 apply List.map_congr_left
 intro x _;simp
theorem IQ(v1 v2:Value)(xs ys:List UInt8)(f1 f2:List Addr)(w:World)(h1:Ag w f1 v1 xs)(h2:Ag w f2 v2 ys) :
  Calls prog 105 #[v1,v2] w fun e w' => e= .returned (.bool (decide (xs=ys)))∧Below w.heap.size w w':=by
 obtain⟨A1,c1,rfl,-⟩:=h1.form;obtain⟨A2,c2,rfl,-⟩:=h2.form;refine(Tryz.bytesEqual A1 A2 _ c1 _ c2 (xs.map fun x =>(x.toNat:Int)) (ys.map fun x =>(x.toNat:Int)) w (by simp) (by simp) (Ag.bytesIn h1).1 (Ag.bytesIn h2).1).mono ?_;rintro e w' ⟨rfl,rfl⟩;rw[JB,JB];refine⟨Cq ?_,aB _ _⟩;by_cases h:xs=ys <;> simp[h]
theorem l6Nums_c(v1 v2:Value)(xs ys:List Int)(f1 f2:List Addr)(w:World)(h1:AO w f1 v1 xs)(h2:AO w f2 v2 ys) :
  Calls prog 235 #[v1,v2] w fun e w' => e= .returned (.bool (decide (xs=ys)))∧Below w.heap.size w w':=by
 obtain⟨A1,c1,rfl,hc1,hm1,hx⟩:=AO.open_ h1;obtain⟨A2,c2,rfl,hc2,hm2,hy⟩:=AO.open_ h2;clear h1 h2;by_cases hl:xs.length=ys.length
 ·have hb:=Db hl;have HL:=U hl;clear hl;go_enter func235,ntmps235
  go_wp2
  go_loopw [4,5] (fun r i wr =>∃k:Nat,k≤xs.length∧i= int i64 k∧r= .bool false∧xs.take k=ys.take k∧Below w.heap.size w wr) (fun _ i _ => xs.length - (intOf i).toNat)
  case atStart => exact⟨0,by omega,rfl,rfl,by simp,aB _ _⟩
  case round =>
   obtain⟨k,hk,rfl,rfl,ht,hbl⟩:=hrel;have HT:=U ht;clear ht;by_cases hlt:k<xs.length
   ·have hlt2:k<ys.length:=by rw[← HL.o];exact hlt
    obtain⟨a1,e1,_,b1,g1,_⟩:=hx k hlt;obtain⟨a2,e2,_,b2,g2,_⟩:=hy k hlt2;subst e1 e2;have g1':=(hbl.cell (p:=a1.add k) b1).trans g1;have g2':=(hbl.cell (p:=a2.add k) b2).trans g2;clear g1 g2 hx hy;by_cases he:xs[k] =ys[k]
    ·have hn:(xs[k] != ys[k])=false:=by simpa using he
     have HE:=U he;clear he;go_wp2
     go_quiet (fail)
     go_wp2
     go_roundw
     case rel => exact⟨k+1,by omega,by go_num,rfl,H7 HT.o hlt hlt2 HE.o,AM hbl _⟩
     case measure => simp[intOf];omega
    ·have hn:(xs[k] != ys[k])=true:=by simpa using he
     go_wp2
     go_quiet (fail)
     go_wp2
     go_ret
     exact⟨Cq (by simp;intro e;subst e;exact he rfl),AM hbl _⟩
   ·have hk':k=xs.length:=by omega
    have H:=HT.o;rw[hk',aV,HL.o,aV]at H;have H1:=U H;clear H hk';go_wp2
    go_ret
    exact⟨Cq (by simp[H1.o]),hbl⟩
 ·have hb:=Dc hl;go_enter func235,ntmps235
  go_wp2
  go_ret
  exact⟨Cq (by simp;intro e;subst e;exact hl rfl),aB _ _⟩
theorem Ny(v1 v2:Value)(xs ys:List Int)(f1 f2:List Addr)(w:World)(h1:AO w f1 v1 xs)(h2:AO w f2 v2 ys) :
  Calls prog 288 #[v1,v2] w fun e w' => e= .returned (.bool (decide (xs=ys)))∧Below w.heap.size w w':=by
 obtain⟨A1,c1,rfl,hc1,hm1,hx⟩:=AO.open_ h1;obtain⟨A2,c2,rfl,hc2,hm2,hy⟩:=AO.open_ h2;clear h1 h2;by_cases hl:xs.length=ys.length
 ·have hb:=Db hl;have HL:=U hl;clear hl;go_enter func288,ntmps288
  go_wp2
  go_loopw [13,5,4] (fun i _ r wr =>∃k:Nat,k≤xs.length∧i= int i64 k∧r= .bool false∧xs.take k=ys.take k∧Below w.heap.size w wr) (fun i _ _ _ => xs.length - (intOf i).toNat)
  case atStart => exact⟨0,by omega,rfl,rfl,by simp,aB _ _⟩
  case round =>
   obtain⟨k,hk,rfl,rfl,ht,hbl⟩:=hrel;have HT:=U ht;clear ht;by_cases hlt:k<xs.length
   ·have hlt2:k<ys.length:=by rw[← HL.o];exact hlt
    obtain⟨a1,e1,_,b1,g1,_⟩:=hx k hlt;obtain⟨a2,e2,_,b2,g2,_⟩:=hy k hlt2;subst e1 e2;have g1':=(hbl.cell (p:=a1.add k) b1).trans g1;have g2':=(hbl.cell (p:=a2.add k) b2).trans g2;clear g1 g2 hx hy;by_cases he:xs[k] =ys[k]
    ·have hn:(xs[k] != ys[k])=false:=by simpa using he
     have HE:=U he;clear he;go_wp2
     go_quiet (fail)
     go_wp2
     go_roundw
     case rel => exact⟨k+1,by omega,by go_num,rfl,H7 HT.o hlt hlt2 HE.o,AM hbl _⟩
     case measure => simp[intOf];omega
    ·have hn:(xs[k] != ys[k])=true:=by simpa using he
     go_wp2
     go_quiet (fail)
     go_wp2
     go_ret
     exact⟨Cq (by simp;intro e;subst e;exact he rfl),AM hbl _⟩
   ·have hk':k=xs.length:=by omega
    have H:=HT.o;rw[hk',aV,HL.o,aV]at H;have H1:=U H;clear H hk';go_wp2
    go_ret
    exact⟨Cq (by simp[H1.o]),hbl⟩
 ·have hb:=Dc hl;go_enter func288,ntmps288
  go_wp2
  go_ret
  exact⟨Cq (by simp;intro e;subst e;exact hl rfl),aB _ _⟩
theorem Fx(d1 d2:Ah)(cs1 cs2:List Value)(f1 f2:List Addr)(w:World)(h1:Ac w f1 cs1 d1)(h2:Ac w f2 cs2 d2) :
  Calls prog 250 #[.agg cs1.toArray,.agg cs2.toArray] w fun e w' => e= .returned (.bool (decide (d1=d2)))∧Below w.heap.size w w':=by
 obtain⟨x0,x1,x2,x3,x4,x5,x6,x7,x8⟩:=d1;obtain⟨y0,y1,y2,y3,y4,y5,y6,y7,y8⟩:=d2;dsimp only[Ac]at h1 h2;obtain⟨av0,av1,av2,af0,af1,af2,e,-,ao0,ao1,ao2,ao3,ao4,ao5,ah0,ah1,ah2⟩:=h1;subst e;obtain⟨bv0,bv1,bv2,bf0,bf1,bf2,e,-,bo0,bo1,bo2,bo3,bo4,bo5,bh0,bh1,bh2⟩:=h2;subst e;have aH0:=U ah0;obtain⟨aA0,ac0,rfl,-⟩:=rSl.head ah0;clear ah0;have aH1:=U ah1;obtain⟨aA1,ac1,rfl,-⟩:=rSl.head ah1;clear ah1;have aH2:=U ah2;obtain⟨aA2,ac2,rfl,-⟩:=rSl.head ah2;clear ah2;have bH0:=U bh0;obtain⟨bA0,bc0,rfl,-⟩:=rSl.head bh0;clear bh0;have bH1:=U bh1;obtain⟨bA1,bc1,rfl,-⟩:=rSl.head bh1;clear bh1;have bH2:=U bh2;obtain⟨bA2,bc2,rfl,-⟩:=rSl.head bh2;clear bh2;obtain⟨rb,hrb⟩:∃rb,decide ((⟨x0,x1,x2,x3,x4,x5,x6,x7,x8⟩:Ah)=⟨y0,y1,y2,y3,y4,y5,y6,y7,y8⟩)=rb:=⟨_,rfl⟩;rw[hrb];have RB:=U hrb;clear hrb;have BB:=U (show∀o1 o2:Obj,Below w.heap.size w ((w.alloc o1).alloc o2)from fun o1 o2 =>((aB _ _).alloc (aC _) _).alloc (by simp) _);by_cases q:x0=y0
 case neg =>
  have e1:rb=false:=by rw[← RB.o];exact aG (fun e => q (congrArg Ah.kind e))
  subst e1;have hq:(x0 == y0)=false:=by simpa using q
  clear q;go_enter func250,ntmps250
  go_wp2_with fail
  go_ret
  exact⟨rfl,(BB.o _ _)⟩
 subst q;by_cases q:x1=y1
 case neg =>
  have e1:rb=false:=by rw[← RB.o];exact aG (fun e => q (congrArg Ah.seq e))
  subst e1;have hq:(x1 == y1)=false:=by simpa using q
  clear q;go_enter func250,ntmps250
  go_wp2_with fail
  go_ret
  exact⟨rfl,(BB.o _ _)⟩
 subst q;by_cases q:x2=y2
 case neg =>
  have e1:rb=false:=by rw[← RB.o];exact aG (fun e => q (congrArg Ah.name e))
  subst e1;have hq:=Gx q;clear q;go_enter func250,ntmps250
  go_wp2_with fail
  go_ret
  exact⟨rfl,(BB.o _ _)⟩
 subst q;by_cases q:x3=y3
 case neg =>
  have e1:rb=false:=by rw[← RB.o];exact aG (fun e => q (congrArg Ah.length e))
  subst e1;have hq:(x3 == y3)=false:=by simpa using q
  clear q;go_enter func250,ntmps250
  go_wp2_with fail
  go_ret
  exact⟨rfl,(BB.o _ _)⟩
 subst q;by_cases q:x4=y4
 case neg =>
  have e1:rb=false:=by rw[← RB.o];exact aG (fun e => q (congrArg Ah.group e))
  subst e1;have hq:(x4 == y4)=false:=by simpa using q
  clear q;go_enter func250,ntmps250
  go_wp2_with fail
  go_ret
  exact⟨rfl,(BB.o _ _)⟩
 subst q;by_cases q:x5=y5
 case neg =>
  have e1:rb=false:=by rw[← RB.o];exact aG (fun e => q (congrArg Ah.row e))
  subst e1;have hq:(x5 == y5)=false:=by simpa using q
  clear q;go_enter func250,ntmps250
  go_wp2_with fail
  go_ret
  exact⟨rfl,(BB.o _ _)⟩
 subst q;have hs:=Jz (rfl:x2=x2);go_enter func250,ntmps250
 go_wp2_with fail
 refine(Ny _ _ x6 y6 af0 bf0 _ (rSl.below Az.local_ Az.fixed aH0.o (BB.o _ _)) (rSl.below Az.local_ Az.fixed bH0.o (BB.o _ _))).mono ?_;rintro e w1 ⟨rfl,hb1⟩;have B1:=U ((BB.o _ _).trans (hb1.mono (by simp;omega)));have C1:=U hb1;clear hb1;by_cases q6:x6=y6
 case neg =>
  have e1:rb=false:=by rw[← RB.o];exact aG (fun e => q6 (congrArg Ah.rows e))
  subst e1;rw[aG q6];go_wp2_with fail
  go_ret
  exact⟨rfl,B1.o⟩
 rw[aK q6];obtain⟨Wa,hWa⟩:∃Wa:World,Wa=(w.alloc (.cells #[int i64 x0,int i64 x1,.string x2,int i64 x3,int i64 x4,int i64 x5,.slice aA0 x6.length ac0,.slice aA1 x7.length ac1,.slice aA2 x8.length ac2] 119)).alloc (.cells #[int i64 x0,int i64 x1,.string x2,int i64 x3,int i64 x4,int i64 x5,.slice bA0 y6.length bc0,.slice bA1 y7.length bc1,.slice bA2 y8.length bc2] 119):=⟨_,rfl⟩;have K1:=U (((Blk.new w 119 #[int i64 x0,int i64 x1,.string x2,int i64 x3,int i64 x4,int i64 x5,.slice aA0 x6.length ac0,.slice aA1 x7.length ac1,.slice aA2 x8.length ac2]).alloc (.cells #[int i64 x0,int i64 x1,.string x2,int i64 x3,int i64 x4,int i64 x5,.slice bA0 y6.length bc0,.slice bA1 y7.length bc1,.slice bA2 y8.length bc2] 119)).below C1.o (by simp;omega));have K2:=U ((Blk.new1 w (.cells #[int i64 x0,int i64 x1,.string x2,int i64 x3,int i64 x4,int i64 x5,.slice aA0 x6.length ac0,.slice aA1 x7.length ac1,.slice aA2 x8.length ac2] 119) 119 #[int i64 x0,int i64 x1,.string x2,int i64 x3,int i64 x4,int i64 x5,.slice bA0 y6.length bc0,.slice bA1 y7.length bc1,.slice bA2 y8.length bc2]).below C1.o (by simp));clear hWa C1 BB Wa;have p7:w1.cell? ⟨w.heap.size,7,none⟩=some (.slice aA1 x7.length ac1):=(K1.o.cell 7).trans rfl;have p8:w1.cell? ⟨w.heap.size,8,none⟩=some (.slice aA2 x8.length ac2):=(K1.o.cell 8).trans rfl;have q7:w1.cell? ⟨w.heap.size+1,7,none⟩=some (.slice bA1 y7.length bc1):=(K2.o.cell 7).trans rfl;have q8:w1.cell? ⟨w.heap.size+1,8,none⟩=some (.slice bA2 y8.length bc2):=(K2.o.cell 8).trans rfl;have z1:=K1.o.lt;have z2:=K2.o.lt;have Q6:=U q6;clear q6;go_wp2_with fail
 refine(IQ _ _ x7 y7 af1 bf1 _ (rSl.below Ai.local_ Ai.fixed aH1.o B1.o) (rSl.below Ai.local_ Ai.fixed bH1.o B1.o)).mono ?_;rintro e w2 ⟨rfl,hb2⟩;have B2:=U (B1.o.trans (hb2.mono B1.o.size));have p8':=(hb2.cell (p:=⟨w.heap.size,8,none⟩) z1).trans p8;have q8':=(hb2.cell (p:=⟨w.heap.size+1,8,none⟩) z2).trans q8;clear hb2 p7 p8 q7 q8;by_cases q7:x7=y7
 case neg =>
  have e1:rb=false:=by rw[← RB.o];exact aG (fun e => q7 (congrArg Ah.data e))
  subst e1;rw[aG q7];clear q7;go_wp2_with fail
  go_ret
  exact⟨rfl,B2.o⟩
 rw[aK q7];have Q7:=U q7;clear q7;go_wp2_with fail
 refine(IQ _ _ x8 y8 af2 bf2 _ (rSl.below Ai.local_ Ai.fixed aH2.o B2.o) (rSl.below Ai.local_ Ai.fixed bH2.o B2.o)).mono ?_;rintro e w3 ⟨rfl,hb3⟩;have B3:=U (B2.o.trans (hb3.mono B2.o.size));clear hb3;obtain⟨rc,hrc⟩:∃rc,decide (x8=y8)=rc:=⟨_,rfl⟩;have e1:rc=rb:=by
  rw[← RB.o,← hrc];have h6:=Q6.o;have h7:=Q7.o;subst h6 h7;simp
 rw[hrc,e1];clear hrc e1;go_wp2_with fail
 go_ret
 exact⟨rfl,B3.o⟩
theorem PC(d1 d2:Ah)(cs1 cs2:List Value)(f1 f2:List Addr)(w:World)(h1:Ac w f1 cs1 d1)(h2:Ac w f2 cs2 d2) :
  Calls prog 152 #[.agg cs1.toArray,.agg cs2.toArray] w fun e w' => e= .returned (.bool (decide (d1=d2)))∧Below w.heap.size w w':=by
 obtain⟨x0,x1,x2,x3,x4,x5,x6,x7,x8⟩:=d1;obtain⟨y0,y1,y2,y3,y4,y5,y6,y7,y8⟩:=d2;dsimp only[Ac]at h1 h2;obtain⟨av0,av1,av2,af0,af1,af2,e,-,ao0,ao1,ao2,ao3,ao4,ao5,ah0,ah1,ah2⟩:=h1;subst e;obtain⟨bv0,bv1,bv2,bf0,bf1,bf2,e,-,bo0,bo1,bo2,bo3,bo4,bo5,bh0,bh1,bh2⟩:=h2;subst e;have aH0:=U ah0;obtain⟨aA0,ac0,rfl,-⟩:=rSl.head ah0;clear ah0;have aH1:=U ah1;obtain⟨aA1,ac1,rfl,-⟩:=rSl.head ah1;clear ah1;have aH2:=U ah2;obtain⟨aA2,ac2,rfl,-⟩:=rSl.head ah2;clear ah2;have bH0:=U bh0;obtain⟨bA0,bc0,rfl,-⟩:=rSl.head bh0;clear bh0;have bH1:=U bh1;obtain⟨bA1,bc1,rfl,-⟩:=rSl.head bh1;clear bh1;have bH2:=U bh2;obtain⟨bA2,bc2,rfl,-⟩:=rSl.head bh2;clear bh2;obtain⟨rb,hrb⟩:∃rb,decide ((⟨x0,x1,x2,x3,x4,x5,x6,x7,x8⟩:Ah)=⟨y0,y1,y2,y3,y4,y5,y6,y7,y8⟩)=rb:=⟨_,rfl⟩;rw[hrb];have RB:=U hrb;clear hrb;have BB:=U (show∀o1 o2:Obj,Below w.heap.size w ((w.alloc o1).alloc o2)from fun o1 o2 =>((aB _ _).alloc (aC _) _).alloc (by simp) _);by_cases q:x0=y0
 case neg =>
  have e1:rb=false:=by rw[← RB.o];exact aG (fun e => q (congrArg Ah.kind e))
  subst e1;have hq:(x0 == y0)=false:=by simpa using q
  clear q;go_enter func152,ntmps152
  go_wp2_with fail
  go_ret
  exact⟨rfl,(BB.o _ _)⟩
 subst q;by_cases q:x1=y1
 case neg =>
  have e1:rb=false:=by rw[← RB.o];exact aG (fun e => q (congrArg Ah.seq e))
  subst e1;have hq:(x1 == y1)=false:=by simpa using q
  clear q;go_enter func152,ntmps152
  go_wp2_with fail
  go_ret
  exact⟨rfl,(BB.o _ _)⟩
 subst q;by_cases q:x2=y2
 case neg =>
  have e1:rb=false:=by rw[← RB.o];exact aG (fun e => q (congrArg Ah.name e))
  subst e1;have hq:=Gx q;clear q;go_enter func152,ntmps152
  go_wp2_with fail
  go_ret
  exact⟨rfl,(BB.o _ _)⟩
 subst q;by_cases q:x3=y3
 case neg =>
  have e1:rb=false:=by rw[← RB.o];exact aG (fun e => q (congrArg Ah.length e))
  subst e1;have hq:(x3 == y3)=false:=by simpa using q
  clear q;go_enter func152,ntmps152
  go_wp2_with fail
  go_ret
  exact⟨rfl,(BB.o _ _)⟩
 subst q;by_cases q:x4=y4
 case neg =>
  have e1:rb=false:=by rw[← RB.o];exact aG (fun e => q (congrArg Ah.group e))
  subst e1;have hq:(x4 == y4)=false:=by simpa using q
  clear q;go_enter func152,ntmps152
  go_wp2_with fail
  go_ret
  exact⟨rfl,(BB.o _ _)⟩
 subst q;by_cases q:x5=y5
 case neg =>
  have e1:rb=false:=by rw[← RB.o];exact aG (fun e => q (congrArg Ah.row e))
  subst e1;have hq:(x5 == y5)=false:=by simpa using q
  clear q;go_enter func152,ntmps152
  go_wp2_with fail
  go_ret
  exact⟨rfl,(BB.o _ _)⟩
 subst q;have hs:=Jz (rfl:x2=x2);go_enter func152,ntmps152
 go_wp2_with fail
 refine(l6Nums_c _ _ x6 y6 af0 bf0 _ (rSl.below Az.local_ Az.fixed aH0.o (BB.o _ _)) (rSl.below Az.local_ Az.fixed bH0.o (BB.o _ _))).mono ?_;rintro e w1 ⟨rfl,hb1⟩;have B1:=U ((BB.o _ _).trans (hb1.mono (by simp;omega)));have C1:=U hb1;clear hb1;by_cases q6:x6=y6
 case neg =>
  have e1:rb=false:=by rw[← RB.o];exact aG (fun e => q6 (congrArg Ah.rows e))
  subst e1;rw[aG q6];go_wp2_with fail
  go_ret
  exact⟨rfl,B1.o⟩
 rw[aK q6];obtain⟨Wa,hWa⟩:∃Wa:World,Wa=(w.alloc (.cells #[int i64 x0,int i64 x1,.string x2,int i64 x3,int i64 x4,int i64 x5,.slice aA0 x6.length ac0,.slice aA1 x7.length ac1,.slice aA2 x8.length ac2] 119)).alloc (.cells #[int i64 x0,int i64 x1,.string x2,int i64 x3,int i64 x4,int i64 x5,.slice bA0 y6.length bc0,.slice bA1 y7.length bc1,.slice bA2 y8.length bc2] 119):=⟨_,rfl⟩;have K1:=U (((Blk.new w 119 #[int i64 x0,int i64 x1,.string x2,int i64 x3,int i64 x4,int i64 x5,.slice aA0 x6.length ac0,.slice aA1 x7.length ac1,.slice aA2 x8.length ac2]).alloc (.cells #[int i64 x0,int i64 x1,.string x2,int i64 x3,int i64 x4,int i64 x5,.slice bA0 y6.length bc0,.slice bA1 y7.length bc1,.slice bA2 y8.length bc2] 119)).below C1.o (by simp;omega));have K2:=U ((Blk.new1 w (.cells #[int i64 x0,int i64 x1,.string x2,int i64 x3,int i64 x4,int i64 x5,.slice aA0 x6.length ac0,.slice aA1 x7.length ac1,.slice aA2 x8.length ac2] 119) 119 #[int i64 x0,int i64 x1,.string x2,int i64 x3,int i64 x4,int i64 x5,.slice bA0 y6.length bc0,.slice bA1 y7.length bc1,.slice bA2 y8.length bc2]).below C1.o (by simp));clear hWa C1 BB Wa;have p7:w1.cell? ⟨w.heap.size,7,none⟩=some (.slice aA1 x7.length ac1):=(K1.o.cell 7).trans rfl;have p8:w1.cell? ⟨w.heap.size,8,none⟩=some (.slice aA2 x8.length ac2):=(K1.o.cell 8).trans rfl;have q7:w1.cell? ⟨w.heap.size+1,7,none⟩=some (.slice bA1 y7.length bc1):=(K2.o.cell 7).trans rfl;have q8:w1.cell? ⟨w.heap.size+1,8,none⟩=some (.slice bA2 y8.length bc2):=(K2.o.cell 8).trans rfl;have z1:=K1.o.lt;have z2:=K2.o.lt;have Q6:=U q6;clear q6;go_wp2_with fail
 refine(MY _ _ x7 y7 af1 bf1 _ (rSl.below Ai.local_ Ai.fixed aH1.o B1.o) (rSl.below Ai.local_ Ai.fixed bH1.o B1.o)).mono ?_;rintro e w2 ⟨rfl,hb2⟩;have B2:=U (B1.o.trans (hb2.mono B1.o.size));have p8':=(hb2.cell (p:=⟨w.heap.size,8,none⟩) z1).trans p8;have q8':=(hb2.cell (p:=⟨w.heap.size+1,8,none⟩) z2).trans q8;clear hb2 p7 p8 q7 q8;by_cases q7:x7=y7
 case neg =>
  have e1:rb=false:=by rw[← RB.o];exact aG (fun e => q7 (congrArg Ah.data e))
  subst e1;rw[aG q7];clear q7;go_wp2_with fail
  go_ret
  exact⟨rfl,B2.o⟩
 rw[aK q7];have Q7:=U q7;clear q7;go_wp2_with fail
 refine(MY _ _ x8 y8 af2 bf2 _ (rSl.below Ai.local_ Ai.fixed aH2.o B2.o) (rSl.below Ai.local_ Ai.fixed bH2.o B2.o)).mono ?_;rintro e w3 ⟨rfl,hb3⟩;have B3:=U (B2.o.trans (hb3.mono B2.o.size));clear hb3;obtain⟨rc,hrc⟩:∃rc,decide (x8=y8)=rc:=⟨_,rfl⟩;have e1:rc=rb:=by
  rw[← RB.o,← hrc];have h6:=Q6.o;have h7:=Q7.o;subst h6 h7;simp
 rw[hrc,e1];clear hrc e1;go_wp2_with fail
 go_ret
 exact⟨rfl,B3.o⟩
def Ee {α:Type}(p:α→Bool)(ds:List α):Int:=match ds.findIdx? p with|some i =>(i:Int)|none => -1
theorem GF {α:Type} {p:α→Bool} {ds:List α} {k:Nat}(hk:k<ds.length)(h:p ds[k] =true)(hb:∀q,(hq:q<ds.length)→q<k→p ds[q] =false):Ee p ds=k:=by
 have:ds.findIdx? p=some k:=List.findIdx?_eq_some_iff_getElem.2 ⟨hk,h,fun j hj => by rw[hb j (by omega) hj];simp⟩;unfold Ee;rw[this]
theorem FY {α:Type} {p:α→Bool} {ds:List α}(hb:∀q,(hq:q<ds.length)→p ds[q] =false):Ee p ds= -1:=by
 have:ds.findIdx? p=none:=List.findIdx?_eq_none_iff.2 fun x hx => by
  obtain⟨i,hi,rfl⟩:=aY hx;exact hb i hi
 unfold Ee;rw[this]
theorem Ip {α:Type}(p:α→Bool)(ds:List α):decide (0≤Ee p ds)=ds.any p:=by
 unfold Ee;cases h:ds.findIdx? p with
 |some i =>
  obtain⟨hi,h1,_⟩:=List.findIdx?_eq_some_iff_getElem.1 h;have:ds.any p=true:=List.any_eq_true.2 ⟨_,aN hi,h1⟩;rw[this];simp
 |none =>
  have:ds.any p=false:=List.any_eq_false.2 fun x hx => by simp[List.findIdx?_eq_none_iff.1 h x hx]
  rw[this];simp
theorem Kt(k:Nat)(hk:0<k)(zR:∀w,(Go.sizeOf 119).run prog w= .ok k w)(aR:∀w,(isAgg 119).run prog w= .ok true w)(p:Ah→Bool)(g:Nat)(cb:Array Value)(v:Value)(ds:List (Ah))(f:List Addr)(w:World)(eg:∀args w,(callFunc g args).run prog w= .ok (.enter g args) w)(h:rSl k Ac w f v ds)
  (hp:∀(W:World) (cs:List Value) (fk:List Addr) (j:Nat) (hj:j<ds.length),Below w.heap.size w W→Ac W fk cs ds[j]→Calls prog g (#[.agg cs.toArray] ++ cb) W fun e w' => e= .returned (.bool (p ds[j]))∧Below W.heap.size W w') :
  Calls prog 136 #[v,.func (.func g) #[] cb] w fun e w' => e= .returned (int i64 (Ee p ds))∧Below w.heap.size w w':=by
 obtain⟨A,c,rfl,hc,hm,hx⟩:=rSl.at_ Ac.fixed hk h;have HX:=U hx;have HP:=U hp;clear hx hp h;obtain⟨rr,hrr⟩:∃rr,Ee p ds=rr:=⟨_,rfl⟩;rw[hrr];have RR:=U hrr;clear hrr;go_enter func136,ntmps136
 go_wp2
 go_loopw [8,5] (fun i _ wr =>∃j:Nat,j≤ds.length∧i= int i64 j∧Hid (∀q,(hq:q<ds.length)→q<j→p ds[q] =false)∧Hid (Below w.heap.size w wr)) (fun i _ _ => ds.length - (intOf i).toNat)
 case atStart => exact⟨0,by omega,rfl,(fun q hq h => by omega),aB _ _⟩
 case round =>
  obtain⟨j,hj,rfl,HF,HB⟩:=hrel;by_cases hlt:j<ds.length
  ·obtain⟨ad,b,o,cs,fk,rfl,hat⟩:=HX.o j hlt;have hat2:=hat.below Ac.local_ HB.o;have hl:Sem.run prog (loadCellsFrom ⟨b,o,none⟩ 0 k #[]) wr= .ok cs.toArray wr:=run_loadCellsFrom_list _ _ _ cs k hat.len (fun q v hq => by
    have hq1:q<cs.length:=(List.getElem?_eq_some_iff.1 hq).1;rw[Addr.add_lit,hat2.cell q hq1,← hq];exact(aO hq1).symm)
   have hpl:=hat.place;have hb0:=hat2.lt;have HC:=U (HP.o wr cs fk j hlt HB.o hat2.reads);clear hat hat2;obtain⟨pj,hpj⟩:∃pj,p ds[j] =pj:=⟨_,rfl⟩;rw[hpj]at HC;have HPJ:=U hpj;clear hpj;cases pj with
   |true =>
    have e1:rr=j:=by rw[← RR.o];exact GF hlt HPJ.o HF.o
    subst e1;go_wp2_with (go_at_fn g;refine HC.o.mono ?_;rintro e w1 ⟨rfl,hb1⟩)
    go_ret
    exact⟨rfl,HB.o.trans (hb1.mono HB.o.size)⟩
   |false =>
    go_wp2_with (go_at_fn g;refine HC.o.mono ?_;rintro e w1 ⟨rfl,hb1⟩)
    have HB1:=U (HB.o.trans (hb1.mono HB.o.size));go_roundw
    case rel =>
     refine⟨j+1,by omega,by go_num,(show Hid _ from fun q hq hqj => ?_),HB1⟩;by_cases e:q=j
     ·subst e;exact HPJ.o
     ·exact HF.o q hq (by omega)
    case measure => simp[intOf];omega
  ·have e1:rr= -1:=by rw[← RR.o];exact FY (fun q hq => HF.o q hq (by omega))
   subst e1;go_wp2_with fail
   go_ret
   exact⟨rfl,HB.o⟩
theorem IE(k:Nat)(hk:0<k)(zR:∀w,(Go.sizeOf 119).run prog w= .ok k w)(aR:∀w,(isAgg 119).run prog w= .ok true w)(p:Ah→Bool)(g:Nat)(cb:Array Value)(v:Value)(ds:List (Ah))(f:List Addr)(w:World)(eg:∀args w,(callFunc g args).run prog w= .ok (.enter g args) w)(h:rSl k Ac w f v ds)
  (hp:∀(W:World) (cs:List Value) (fk:List Addr) (j:Nat) (hj:j<ds.length),Below w.heap.size w W→Ac W fk cs ds[j]→Calls prog g (#[.agg cs.toArray] ++ cb) W fun e w' => e= .returned (.bool (p ds[j]))∧Below W.heap.size W w') :
  Calls prog 215 #[v,.func (.func g) #[] cb] w fun e w' => e= .returned (.bool (ds.any p))∧Below w.heap.size w w':=by
 have HC:=U (Kt k hk zR aR p g cb v ds f w eg h hp);rw[← Ip];obtain⟨A,c,rfl,hc,hm⟩:=rSl.head h;clear hp h;generalize Ee p ds=rr at HC;go_enter func215,ntmps215
 go_wp2_with (go_at_call 136;refine HC.o.mono ?_;rintro e w1 ⟨rfl,hb1⟩)
 go_ret
 exact⟨rfl,hb1⟩
theorem MS(k:Nat)(hk:0<k)(zR:∀w,(Go.sizeOf 196).run prog w= .ok k w)(aR:∀w,(isAgg 196).run prog w= .ok true w)(p:Bt→Bool)(g:Nat)(cb:Array Value)(v:Value)(ds:List (Bt))(f:List Addr)(w:World)(eg:∀args w,(callFunc g args).run prog w= .ok (.enter g args) w)(h:rSl k AE w f v ds)
  (hp:∀(W:World) (cs:List Value) (fk:List Addr) (j:Nat) (hj:j<ds.length),Below w.heap.size w W→AE W fk cs ds[j]→Calls prog g (#[.agg cs.toArray] ++ cb) W fun e w' => e= .returned (.bool (p ds[j]))∧Below W.heap.size W w') :
  Calls prog 243 #[v,.func (.func g) #[] cb] w fun e w' => e= .returned (int i64 (Ee p ds))∧Below w.heap.size w w':=by
 obtain⟨A,c,rfl,hc,hm,hx⟩:=rSl.at_ AE.fixed hk h;have HX:=U hx;have HP:=U hp;clear hx hp h;obtain⟨rr,hrr⟩:∃rr,Ee p ds=rr:=⟨_,rfl⟩;rw[hrr];have RR:=U hrr;clear hrr;go_enter func243,ntmps243
 go_wp2
 go_loopw [8,5] (fun i _ wr =>∃j:Nat,j≤ds.length∧i= int i64 j∧Hid (∀q,(hq:q<ds.length)→q<j→p ds[q] =false)∧Hid (Below w.heap.size w wr)) (fun i _ _ => ds.length - (intOf i).toNat)
 case atStart => exact⟨0,by omega,rfl,(fun q hq h => by omega),aB _ _⟩
 case round =>
  obtain⟨j,hj,rfl,HF,HB⟩:=hrel;by_cases hlt:j<ds.length
  ·obtain⟨ad,b,o,cs,fk,rfl,hat⟩:=HX.o j hlt;have hat2:=hat.below AE.local_ HB.o;have hl:Sem.run prog (loadCellsFrom ⟨b,o,none⟩ 0 k #[]) wr= .ok cs.toArray wr:=run_loadCellsFrom_list _ _ _ cs k hat.len (fun q v hq => by
    have hq1:q<cs.length:=(List.getElem?_eq_some_iff.1 hq).1;rw[Addr.add_lit,hat2.cell q hq1,← hq];exact(aO hq1).symm)
   have hpl:=hat.place;have hb0:=hat2.lt;have HC:=U (HP.o wr cs fk j hlt HB.o hat2.reads);clear hat hat2;obtain⟨pj,hpj⟩:∃pj,p ds[j] =pj:=⟨_,rfl⟩;rw[hpj]at HC;have HPJ:=U hpj;clear hpj;cases pj with
   |true =>
    have e1:rr=j:=by rw[← RR.o];exact GF hlt HPJ.o HF.o
    subst e1;go_wp2_with (go_at_fn g;refine HC.o.mono ?_;rintro e w1 ⟨rfl,hb1⟩)
    go_ret
    exact⟨rfl,HB.o.trans (hb1.mono HB.o.size)⟩
   |false =>
    go_wp2_with (go_at_fn g;refine HC.o.mono ?_;rintro e w1 ⟨rfl,hb1⟩)
    have HB1:=U (HB.o.trans (hb1.mono HB.o.size));go_roundw
    case rel =>
     refine⟨j+1,by omega,by go_num,(show Hid _ from fun q hq hqj => ?_),HB1⟩;by_cases e:q=j
     ·subst e;exact HPJ.o
     ·exact HF.o q hq (by omega)
    case measure => simp[intOf];omega
  ·have e1:rr= -1:=by rw[← RR.o];exact FY (fun q hq => HF.o q hq (by omega))
   subst e1;go_wp2_with fail
   go_ret
   exact⟨rfl,HB.o⟩
theorem Kg(k:Nat)(hk:0<k)(zR:∀w,(Go.sizeOf 196).run prog w= .ok k w)(aR:∀w,(isAgg 196).run prog w= .ok true w)(p:Bt→Bool)(g:Nat)(cb:Array Value)(v:Value)(ds:List (Bt))(f:List Addr)(w:World)(eg:∀args w,(callFunc g args).run prog w= .ok (.enter g args) w)(h:rSl k AE w f v ds)
  (hp:∀(W:World) (cs:List Value) (fk:List Addr) (j:Nat) (hj:j<ds.length),Below w.heap.size w W→AE W fk cs ds[j]→Calls prog g (#[.agg cs.toArray] ++ cb) W fun e w' => e= .returned (.bool (p ds[j]))∧Below W.heap.size W w') :
  Calls prog 170 #[v,.func (.func g) #[] cb] w fun e w' => e= .returned (.bool (ds.any p))∧Below w.heap.size w w':=by
 have HC:=U (MS k hk zR aR p g cb v ds f w eg h hp);rw[← Ip];obtain⟨A,c,rfl,hc,hm⟩:=rSl.head h;clear hp h;generalize Ee p ds=rr at HC;go_enter func170,ntmps170
 go_wp2_with (go_at_call 243;refine HC.o.mono ?_;rintro e w1 ⟨rfl,hb1⟩)
 go_ret
 exact⟨rfl,hb1⟩
theorem NV(k:Nat)(hk:0<k)(zR:∀w,(Go.sizeOf 139).run prog w= .ok k w)(aR:∀w,(isAgg 139).run prog w= .ok true w)(p:AS→Bool)(g:Nat)(cb:Array Value)(v:Value)(ds:List (AS))(f:List Addr)(w:World)(eg:∀args w,(callFunc g args).run prog w= .ok (.enter g args) w)(h:rSl k Ay w f v ds)
  (hp:∀(W:World) (cs:List Value) (fk:List Addr) (j:Nat) (hj:j<ds.length),Below w.heap.size w W→Ay W fk cs ds[j]→Calls prog g (#[.agg cs.toArray] ++ cb) W fun e w' => e= .returned (.bool (p ds[j]))∧Below W.heap.size W w') :
  Calls prog 245 #[v,.func (.func g) #[] cb] w fun e w' => e= .returned (int i64 (Ee p ds))∧Below w.heap.size w w':=by
 obtain⟨A,c,rfl,hc,hm,hx⟩:=rSl.at_ Ay.fixed hk h;have HX:=U hx;have HP:=U hp;clear hx hp h;obtain⟨rr,hrr⟩:∃rr,Ee p ds=rr:=⟨_,rfl⟩;rw[hrr];have RR:=U hrr;clear hrr;go_enter func245,ntmps245
 go_wp2
 go_loopw [8,5] (fun i _ wr =>∃j:Nat,j≤ds.length∧i= int i64 j∧Hid (∀q,(hq:q<ds.length)→q<j→p ds[q] =false)∧Hid (Below w.heap.size w wr)) (fun i _ _ => ds.length - (intOf i).toNat)
 case atStart => exact⟨0,by omega,rfl,(fun q hq h => by omega),aB _ _⟩
 case round =>
  obtain⟨j,hj,rfl,HF,HB⟩:=hrel;by_cases hlt:j<ds.length
  ·obtain⟨ad,b,o,cs,fk,rfl,hat⟩:=HX.o j hlt;have hat2:=hat.below Ay.local_ HB.o;have hl:Sem.run prog (loadCellsFrom ⟨b,o,none⟩ 0 k #[]) wr= .ok cs.toArray wr:=run_loadCellsFrom_list _ _ _ cs k hat.len (fun q v hq => by
    have hq1:q<cs.length:=(List.getElem?_eq_some_iff.1 hq).1;rw[Addr.add_lit,hat2.cell q hq1,← hq];exact(aO hq1).symm)
   have hpl:=hat.place;have hb0:=hat2.lt;have HC:=U (HP.o wr cs fk j hlt HB.o hat2.reads);clear hat hat2;obtain⟨pj,hpj⟩:∃pj,p ds[j] =pj:=⟨_,rfl⟩;rw[hpj]at HC;have HPJ:=U hpj;clear hpj;cases pj with
   |true =>
    have e1:rr=j:=by rw[← RR.o];exact GF hlt HPJ.o HF.o
    subst e1;go_wp2_with (go_at_fn g;refine HC.o.mono ?_;rintro e w1 ⟨rfl,hb1⟩)
    go_ret
    exact⟨rfl,HB.o.trans (hb1.mono HB.o.size)⟩
   |false =>
    go_wp2_with (go_at_fn g;refine HC.o.mono ?_;rintro e w1 ⟨rfl,hb1⟩)
    have HB1:=U (HB.o.trans (hb1.mono HB.o.size));go_roundw
    case rel =>
     refine⟨j+1,by omega,by go_num,(show Hid _ from fun q hq hqj => ?_),HB1⟩;by_cases e:q=j
     ·subst e;exact HPJ.o
     ·exact HF.o q hq (by omega)
    case measure => simp[intOf];omega
  ·have e1:rr= -1:=by rw[← RR.o];exact FY (fun q hq => HF.o q hq (by omega))
   subst e1;go_wp2_with fail
   go_ret
   exact⟨rfl,HB.o⟩
theorem Hw(k:Nat)(hk:0<k)(zR:∀w,(Go.sizeOf 139).run prog w= .ok k w)(aR:∀w,(isAgg 139).run prog w= .ok true w)(p:AS→Bool)(g:Nat)(cb:Array Value)(v:Value)(ds:List (AS))(f:List Addr)(w:World)(eg:∀args w,(callFunc g args).run prog w= .ok (.enter g args) w)(h:rSl k Ay w f v ds)
  (hp:∀(W:World) (cs:List Value) (fk:List Addr) (j:Nat) (hj:j<ds.length),Below w.heap.size w W→Ay W fk cs ds[j]→Calls prog g (#[.agg cs.toArray] ++ cb) W fun e w' => e= .returned (.bool (p ds[j]))∧Below W.heap.size W w') :
  Calls prog 175 #[v,.func (.func g) #[] cb] w fun e w' => e= .returned (.bool (ds.any p))∧Below w.heap.size w w':=by
 have HC:=U (NV k hk zR aR p g cb v ds f w eg h hp);rw[← Ip];obtain⟨A,c,rfl,hc,hm⟩:=rSl.head h;clear hp h;generalize Ee p ds=rr at HC;go_enter func175,ntmps175
 go_wp2_with (go_at_call 245;refine HC.o.mono ?_;rintro e w1 ⟨rfl,hb1⟩)
 go_ret
 exact⟨rfl,hb1⟩
theorem Pg(p:Int→Bool)(g:Nat)(cb:Array Value)(v:Value)(ds:List (Int))(f:List Addr)(w:World)(eg:∀args w,(callFunc g args).run prog w= .ok (.enter g args) w)(h:rSl 1 Az w f v ds)
  (hp:∀(W:World) (u:Value) (fk:List Addr) (j:Nat) (hj:j<ds.length),Below w.heap.size w W→Az W fk [u] ds[j]→Calls prog g (#[u] ++ cb) W fun e w' => e= .returned (.bool (p ds[j]))∧Below W.heap.size W w') :
  Calls prog 312 #[v,.func (.func g) #[] cb] w fun e w' => e= .returned (int i64 (Ee p ds))∧Below w.heap.size w w':=by
 obtain⟨A,c,rfl,hc,hm,hx⟩:=rSl.at_ Az.fixed (Nat.succ_pos 0) h;have HX:=U hx;have HP:=U hp;clear hx hp h;obtain⟨rr,hrr⟩:∃rr,Ee p ds=rr:=⟨_,rfl⟩;rw[hrr];have RR:=U hrr;clear hrr;go_enter func312,ntmps312
 go_wp2
 go_loopw [8,5] (fun i _ wr =>∃j:Nat,j≤ds.length∧i= int i64 j∧Hid (∀q,(hq:q<ds.length)→q<j→p ds[q] =false)∧Hid (Below w.heap.size w wr)) (fun i _ _ => ds.length - (intOf i).toNat)
 case atStart => exact⟨0,by omega,rfl,(fun q hq h => by omega),aB _ _⟩
 case round =>
  obtain⟨j,hj,rfl,HF,HB⟩:=hrel;by_cases hlt:j<ds.length
  ·obtain⟨ad,b,o,cs,fk,rfl,hat⟩:=HX.o j hlt;have hat2:=hat.below Az.local_ HB.o;obtain⟨u,rfl⟩:∃u,cs= [u]:=by
    have:=hat.len;match cs,this with
    | [u],_ => exact⟨u,rfl⟩
   have hl:wr.cell? ⟨b,o,none⟩=some u:=by
    have:=hat2.cell 0 (by simp);simpa using this
   have hpl:=hat.place;rw[Nat.mul_one]at hpl;have hb0:=hat2.lt;have HC:=U (HP.o wr u fk j hlt HB.o hat2.reads);clear hat hat2;obtain⟨pj,hpj⟩:∃pj,p ds[j] =pj:=⟨_,rfl⟩;rw[hpj]at HC;have HPJ:=U hpj;clear hpj;cases pj with
   |true =>
    have e1:rr=j:=by rw[← RR.o];exact GF hlt HPJ.o HF.o
    subst e1;go_wp2_with (go_at_fn g;refine HC.o.mono ?_;rintro e w1 ⟨rfl,hb1⟩)
    go_ret
    exact⟨rfl,HB.o.trans (hb1.mono HB.o.size)⟩
   |false =>
    go_wp2_with (go_at_fn g;refine HC.o.mono ?_;rintro e w1 ⟨rfl,hb1⟩)
    have HB1:=U (HB.o.trans (hb1.mono HB.o.size));go_roundw
    case rel =>
     refine⟨j+1,by omega,by go_num,(show Hid _ from fun q hq hqj => ?_),HB1⟩;by_cases e:q=j
     ·subst e;exact HPJ.o
     ·exact HF.o q hq (by omega)
    case measure => simp[intOf];omega
  ·have e1:rr= -1:=by rw[← RR.o];exact FY (fun q hq => HF.o q hq (by omega))
   subst e1;go_wp2_with fail
   go_ret
   exact⟨rfl,HB.o⟩
theorem Mh(p:Int→Bool)(g:Nat)(cb:Array Value)(v:Value)(ds:List (Int))(f:List Addr)(w:World)(eg:∀args w,(callFunc g args).run prog w= .ok (.enter g args) w)(h:rSl 1 Az w f v ds)
  (hp:∀(W:World) (u:Value) (fk:List Addr) (j:Nat) (hj:j<ds.length),Below w.heap.size w W→Az W fk [u] ds[j]→Calls prog g (#[u] ++ cb) W fun e w' => e= .returned (.bool (p ds[j]))∧Below W.heap.size W w') :
  Calls prog 286 #[v,.func (.func g) #[] cb] w fun e w' => e= .returned (.bool (ds.any p))∧Below w.heap.size w w':=by
 have HC:=U (Pg p g cb v ds f w eg h hp);rw[← Ip];obtain⟨A,c,rfl,hc,hm⟩:=rSl.head h;clear hp h;generalize Ee p ds=rr at HC;go_enter func286,ntmps286
 go_wp2_with (go_at_call 312;refine HC.o.mono ?_;rintro e w1 ⟨rfl,hb1⟩)
 go_ret
 exact⟨rfl,hb1⟩
theorem EL {W:World} {g:Nat} {t:TypeId} {cs:List Value} {k:Nat}(h:Blk W g t cs.toArray)(hk:cs.length=k):Sem.run prog (loadCellsFrom ⟨g,0,none⟩ 0 k #[]) W= .ok cs.toArray W :=
 run_loadCellsFrom_list _ _ _ cs k hk (fun q v hq => by
  rw[Addr.add_lit,h.cell];simpa using hq)
theorem run_at {α:Type} {k:Nat} {R:AB α} {w:World} {fs:List Addr} {ad:Addr} {j b o:Nat} {cs:List Value} {fk:List Addr} {d:α}(h:At k R w fs ad j b o cs fk d):Sem.run prog (loadCellsFrom ⟨b,o,none⟩ 0 k #[]) w= .ok cs.toArray w :=
 run_loadCellsFrom_list _ _ _ cs k h.len (fun q v hq => by
  have hq1:q<cs.length:=(List.getElem?_eq_some_iff.1 hq).1;rw[Addr.add_lit,h.cell q hq1,← hq];exact(aO hq1).symm)
theorem has1_c(k:Nat)(zR:∀w,(Go.sizeOf 119).run prog w= .ok k w)(aR:∀w,(isAgg 119).run prog w= .ok true w)(cs1 cs2:List Value)(d1 d2:Ah)(f1 f2:List Addr)(pb:Nat)(T:TypeId)(w:World)
  (hk1:cs1.length=k) (hk2:cs2.length=k) (h1:Ac w f1 cs1 d1) (h2:Ac w f2 cs2 d2) (hp:Blk w pb T cs2.toArray) :
  Calls prog 273 #[.agg cs1.toArray,.pointer (some ⟨pb,0,none⟩)] w fun e w' => e= .returned (.bool (decide (d1=d2)))∧Below w.heap.size w w':=by
 have hB:Below w.heap.size w (w.alloc (.cells cs1.toArray 119)):=(aB _ _).alloc (aC _) _;have l1:Sem.run prog (loadCellsFrom ⟨w.heap.size,0,none⟩ 0 k #[]) (w.alloc (.cells cs1.toArray 119))= .ok cs1.toArray _:=EL (Blk.new w _ _) hk1;have l2:Sem.run prog (loadCellsFrom ⟨pb,0,none⟩ 0 k #[]) (w.alloc (.cells cs1.toArray 119))= .ok cs2.toArray _:=EL (hp.alloc _) hk2;have HC:=U (Fx d1 d2 cs1 cs2 f1 f2 (w.alloc (.cells cs1.toArray 119)) (AB.below Ac.local_ Ac.fixed h1 hB) (AB.below Ac.local_ Ac.fixed h2 hB));have HB:=U hB;clear h1 h2 hp hB hk1 hk2;obtain⟨r,hr⟩:∃r,decide (d1=d2)=r:=⟨_,rfl⟩;rw[hr]at HC⊢;clear hr;go_enter func273,ntmps273
 go_wp2_with (go_at_call 250;refine HC.o.mono ?_;rintro e w1 ⟨rfl,hb1⟩)
 go_ret
 exact⟨rfl,HB.o.trans (hb1.mono HB.o.size)⟩
theorem has_c(v:Value)(ds:List Ah)(cs2:List Value)(d2:Ah)(f f2:List Addr)(w:World)(h:rSl 9 Ac w f v ds)(h2:Ac w f2 cs2 d2) :
  Calls prog 210 #[v,.agg cs2.toArray] w fun e w' => e= .returned (.bool (ds.any fun x => decide (x=d2)))∧Below w.heap.size w w':=by
 have hB:Below w.heap.size w (w.alloc (.cells cs2.toArray 119)):=(aB _ _).alloc (aC _) _;have hK:=Blk.new w 119 cs2.toArray;have HC:=U (IE 9 (by omega) sizeOf119 isAgg119 (fun x => decide (x=d2)) 273 #[.pointer (some ⟨w.heap.size,0,none⟩)] v ds f (w.alloc (.cells cs2.toArray 119)) (enters_of func273 (by kernel_rfl) rfl) (rSl.below Ac.local_ Ac.fixed h hB)
  (fun W cs fk j hj hW hR => has1_c 9 sizeOf119 isAgg119 cs cs2 ds[j] d2 fk f2 w.heap.size 119 W (Ac.wide _ _ _ _ hR) (Ac.wide _ _ _ _ h2) hR (AB.below Ac.local_ Ac.fixed (AB.below Ac.local_ Ac.fixed h2 hB) hW) (hK.below hW (by simp))))
 have HB:=U hB;obtain⟨A,c,rfl,-⟩:=rSl.head h;clear h h2 hB hK;obtain⟨r,hr⟩:∃r,(ds.any fun x => decide (x=d2))=r:=⟨_,rfl⟩;rw[hr]at HC⊢;clear hr;go_enter func210,ntmps210
 go_wp2_with (go_at_call 215;refine HC.o.mono ?_;rintro e w1 ⟨rfl,hb1⟩)
 go_ret
 exact⟨rfl,HB.o.trans (hb1.mono HB.o.size)⟩
theorem QT(k:Nat)(hk:0<k)(zR:∀w,(Go.sizeOf 119).run prog w= .ok k w)(aR:∀w,(isAgg 119).run prog w= .ok true w)(v:Value)(ds:List Ah)(cs2:List Value)(d2:Ah)(f f2:List Addr)(w:World)(h:rSl k Ac w f v ds)(hk2:cs2.length=k)(h2:Ac w f2 cs2 d2) :
  Calls prog 86 #[v,.agg cs2.toArray] w fun e w' => e= .returned (.bool (ds.any fun x => decide (x=d2)))∧Below w.heap.size w w':=by
 have hB:Below w.heap.size w (w.alloc (.cells cs2.toArray 119)):=(aB _ _).alloc (aC _) _;have HK:=U (Blk.new w 119 cs2.toArray);obtain⟨A,c,rfl,hc,hm,hx⟩:=rSl.at_ Ac.fixed hk h;have HX:=U hx;have H2:=U h2;have HB0:=U hB;have HK2:=U hk2;clear hx h2 h hB hk2;obtain⟨rr,hrr⟩:∃rr,(ds.any fun x => decide (x=d2))=rr:=⟨_,rfl⟩;rw[hrr];have RR:=U hrr;clear hrr;go_enter func86,ntmps86
 go_wp2_with fail
 go_loopw [5,4] (fun i u wr =>∃j:Nat,j≤ds.length∧i= int i64 j∧u= .bool false∧Hid (∀q,(hq:q<ds.length)→q<j→decide (ds[q] =d2)=false)∧Hid (Below w.heap.size w wr)∧Hid (Blk wr w.heap.size 119 cs2.toArray)) (fun i _ _ => ds.length - (intOf i).toNat)
 case atStart => exact⟨0,by omega,rfl,rfl,(fun q hq h => by omega),HB0.o,HK.o⟩
 case round =>
  obtain⟨j,hj,rfl,rfl,HF,HB,HK1⟩:=hrel;by_cases hlt:j<ds.length
  ·obtain⟨ad,b,o,cs,fk,rfl,hat⟩:=HX.o j hlt;have hat2:=hat.below Ac.local_ HB.o;have hpl:=hat.place;have hb0:=hat2.lt;have hb1:=HK1.o.lt;have l1:∀d os,Sem.run prog (loadCellsFrom ⟨b,o,none⟩ 0 k #[]) (grow (redrawn wr d) os)= .ok cs.toArray (grow (redrawn wr d) os):=fun d os => run_at (hat2.below Ac.local_ (aH wr d os))
   have l2:∀d os,Sem.run prog (loadCellsFrom ⟨w.heap.size,0,none⟩ 0 k #[]) (grow (redrawn wr d) os)= .ok cs2.toArray (grow (redrawn wr d) os):=fun d os => EL (HK1.o.below (aH wr d os) HK1.o.lt) HK2.o
   have hc:∀d os,Calls prog 152 #[.agg cs.toArray,.agg cs2.toArray] (grow (redrawn wr d) os) fun e w'' => e= .returned (.bool (decide (ds[j] =d2)))∧∃p:Regrown,w''=grow (redrawn wr p.d) p.os :=
    fun d os => Calls.regrown_of (PC ds[j] d2 cs cs2 fk f2 _ (AB.below Ac.local_ Ac.fixed hat2.reads (aH wr d os)) (AB.below Ac.local_ Ac.fixed (AB.below Ac.local_ Ac.fixed H2.o HB.o) (aH wr d os)))
   clear hat hat2;obtain⟨pj,hpj⟩:∃pj,decide (ds[j] =d2)=pj:=⟨_,rfl⟩;rw[hpj]at hc;have HC:=U hc;have HPJ:=U hpj;clear hpj hc;have hjz:(j:Int)<(ds.length:Int):=by omega
   go_wp2_with fail
   refine aF (by kernel_rfl) (by kernel_rfl) ?_;repeat(first|go_big_quiet_step (exact HC.o _ _)|quiet_step (exact HC.o _ _))
   refine aP ?_;intro _ hw';obtain⟨⟨dq,osq⟩,hw''⟩:=hw';subst hw'';have HB1:=U (HB.o.trans ((aH wr dq osq).mono HB.o.size));cases pj with
   |true =>
    have e1:rr=true:=by rw[← RR.o];exact List.any_eq_true.2 ⟨_,aN hlt,HPJ.o⟩
    subst e1;go_wp2_with fail
    go_ret
    exact⟨rfl,HB1.o⟩
   |false =>
    go_wp2_with fail
    go_roundw
    case rel =>
     refine⟨j+1,by omega,by go_num,rfl,(show Hid _ from fun q hq hqj => ?_),HB1,HK1.o.below (aH wr dq osq) HK1.o.lt⟩;by_cases e:q=j
     ·subst e;exact HPJ.o
     ·exact HF.o q hq (by omega)
    case measure => simp[intOf];omega
  ·have e1:rr=false:=by
    rw[← RR.o];refine List.any_eq_false.2 fun x hx => ?_
    obtain⟨q,hq,rfl⟩:=aY hx;simpa using HF.o q hq (by omega)
   subst e1;go_wp2_with fail
   go_ret
   exact⟨rfl,HB.o⟩
theorem QQ(v:Value)(ds:List Ah)(cs2:List Value)(d2:Ah)(f f2:List Addr)(w:World)(h:rSl 9 Ac w f v ds)(h2:Ac w f2 cs2 d2) :
  Calls prog 86 #[v,.agg cs2.toArray] w fun e w' => e= .returned (.bool (ds.any fun x => decide (x=d2)))∧Below w.heap.size w w' :=
 QT 9 (by omega) sizeOf119 isAgg119 v ds cs2 d2 f f2 w h (Ac.wide _ _ _ _ h2) h2
