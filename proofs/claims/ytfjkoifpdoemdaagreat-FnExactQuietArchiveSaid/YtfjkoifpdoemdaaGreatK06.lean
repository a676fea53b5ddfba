/-
  Part 6 of the proof; the last part states and proves the statement.
-/
import Derived.Test.YtfjkoifpdoemdaaGreatK04
import Derived.Test.YtfjkoifpdoemdaaGreatK02
import Derived.Shelf.SlicesQ.Load
set_option maxHeartbeats 8000000
set_option maxRecDepth 100000
set_option linter.unusedVariables false
set_option linter.unusedSimpArgs false
open Go.Value (int)
open Go.IntKind (i64)
namespace Go.Proofs.YtfjkoifpdoemdaaGreat
open Go.RowKit Go.Sort
open Go.Lib (hid)
theorem Fr {a b:ByteArray}(h:a=b):(a.toList == b.toList)=true:=by subst h;simp
theorem DM {a b:ByteArray}(h:a≠b):(a.toList == b.toList)=false:=by
 have:=GZ h;simpa using this
theorem Ju(v1 v2:Value)(xs ys:List UInt8)(f1 f2:List Addr)(w:World)(h1:AM w f1 v1 xs)(h2:AM w f2 v2 ys) :
  Calls Tryz.prog 93 #[v1,v2] w fun e w' => e= .returned (.bool (decide (xs=ys)))∧Below w.heap.size w w':=by
 obtain⟨A1,c1,rfl,hc1,hm1,hx⟩:=AM.open_ h1;obtain⟨A2,c2,rfl,hc2,hm2,hy⟩:=AM.open_ h2;clear h1 h2;by_cases hl:xs.length=ys.length
 ·have hb:=Ck hl;have HL:=hid hl;clear hl;go_enter Tryz.func93,Tryz.ntmps93
  go_wp2
  go_loopw [4,5] (fun r i wr =>∃k:Nat,k≤xs.length∧i= int i64 k∧r= .bool false∧xs.take k=ys.take k∧Below w.heap.size w wr) (fun _ i _ => xs.length - (intOf i).toNat)
  case atStart => exact⟨0,by omega,rfl,rfl,by simp,Below.refl _ _⟩
  case round =>
   obtain⟨k,hk,rfl,rfl,ht,hbl⟩:=hrel;have HT:=hid ht;clear ht;by_cases hlt:k<xs.length
   ·have hlt2:k<ys.length:=by rw[← HL.out];exact hlt
    obtain⟨a1,e1,_,b1,g1⟩:=hx k hlt;obtain⟨a2,e2,_,b2,g2⟩:=hy k hlt2;subst e1 e2;have g1':=(hbl.cell (p:=a1.add k) b1).trans g1;have g2':=(hbl.cell (p:=a2.add k) b2).trans g2;clear g1 g2 hx hy;by_cases he:xs[k] =ys[k]
    ·have hn:=bneU8f he;have HE:=hid he;clear he;go_wp2
     go_quiet (fail)
     go_wp2
     go_roundw
     case rel => exact⟨k+1,by omega,by go_num,rfl,Ge HT.out hlt hlt2 HE.out,BK hbl _⟩
     case measure => simp[intOf];omega
    ·have hn:=bneU8t he;go_wp2
     go_quiet (fail)
     go_wp2
     go_ret
     exact⟨Co (by simp;intro e;subst e;exact he rfl),BK hbl _⟩
   ·have hk':k=xs.length:=by omega
    have H:=HT.out;rw[hk',List.take_length,HL.out,List.take_length]at H;have H1:=hid H;clear H hk';go_wp2
    go_ret
    exact⟨Co (by simp[H1.out]),hbl⟩
 ·have hb:=Cl hl;go_enter Tryz.func93,Tryz.ntmps93
  go_wp2
  go_ret
  exact⟨Co (by simp;intro e;subst e;exact hl rfl),Below.refl _ _⟩
theorem AM.bytesIn {w:World} {fs:List Addr} {A:Option Addr} {n c:Nat} {xs:List UInt8}(h:AM w fs (.slice A n c) xs):Lib.BytesIn w A n (xs.map fun x =>(x.toNat:Int))∧xs.length=n:=by
 obtain⟨A1,c1,e,hc1,hm1,hx⟩:=AM.open_ h;injection e with e1 e2 e3
 subst e1 e2 e3;refine⟨?_,rfl⟩;intro hn;obtain⟨ad,e1,_,_,_⟩:=hx 0 hn;subst e1;refine Lib.BytesIn.of_cells (fun i hi => ?_) hn;obtain⟨ad2,e2,_,_,h4⟩:=hx i hi;injection e2 with e2
 subst e2;rw[h4];simp[List.getD,List.getElem?_eq_getElem hi]
theorem Gt(l:List UInt8):Lib.bytesOf (l.map fun x =>(x.toNat:Int))=l:=by
 unfold Lib.bytesOf;rw[List.map_map];conv => rhs;rw[← List.map_id l]
 apply List.map_congr_left
 intro x _;simp
theorem FS(v1 v2:Value)(xs ys:List UInt8)(f1 f2:List Addr)(w:World)(h1:AM w f1 v1 xs)(h2:AM w f2 v2 ys) :
  Calls Tryz.prog 105 #[v1,v2] w fun e w' => e= .returned (.bool (decide (xs=ys)))∧Below w.heap.size w w':=by
 obtain⟨A1,c1,rfl,-⟩:=h1.form;obtain⟨A2,c2,rfl,-⟩:=h2.form;refine(Tryz.bytesEqual A1 A2 _ c1 _ c2 (xs.map fun x =>(x.toNat:Int)) (ys.map fun x =>(x.toNat:Int)) w (by simp) (by simp) (AM.bytesIn h1).1 (AM.bytesIn h2).1).mono ?_;rintro e w' ⟨rfl,rfl⟩;rw[Gt,Gt];refine⟨Co ?_,Below.refl _ _⟩;by_cases h:xs=ys <;> simp[h]
theorem l6Nums_c(v1 v2:Value)(xs ys:List Int)(f1 f2:List Addr)(w:World)(h1:Bg w f1 v1 xs)(h2:Bg w f2 v2 ys) :
  Calls Tryz.prog 235 #[v1,v2] w fun e w' => e= .returned (.bool (decide (xs=ys)))∧Below w.heap.size w w':=by
 obtain⟨A1,c1,rfl,hc1,hm1,hx⟩:=Bg.open_ h1;obtain⟨A2,c2,rfl,hc2,hm2,hy⟩:=Bg.open_ h2;clear h1 h2;by_cases hl:xs.length=ys.length
 ·have hb:=Ck hl;have HL:=hid hl;clear hl;go_enter Tryz.func235,Tryz.ntmps235
  go_wp2
  go_loopw [4,5] (fun r i wr =>∃k:Nat,k≤xs.length∧i= int i64 k∧r= .bool false∧xs.take k=ys.take k∧Below w.heap.size w wr) (fun _ i _ => xs.length - (intOf i).toNat)
  case atStart => exact⟨0,by omega,rfl,rfl,by simp,Below.refl _ _⟩
  case round =>
   obtain⟨k,hk,rfl,rfl,ht,hbl⟩:=hrel;have HT:=hid ht;clear ht;by_cases hlt:k<xs.length
   ·have hlt2:k<ys.length:=by rw[← HL.out];exact hlt
    obtain⟨a1,e1,_,b1,g1,_⟩:=hx k hlt;obtain⟨a2,e2,_,b2,g2,_⟩:=hy k hlt2;subst e1 e2;have g1':=(hbl.cell (p:=a1.add k) b1).trans g1;have g2':=(hbl.cell (p:=a2.add k) b2).trans g2;clear g1 g2 hx hy;by_cases he:xs[k] =ys[k]
    ·have hn:(xs[k] != ys[k])=false:=by simpa using he
     have HE:=hid he;clear he;go_wp2
     go_quiet (fail)
     go_wp2
     go_roundw
     case rel => exact⟨k+1,by omega,by go_num,rfl,Ge HT.out hlt hlt2 HE.out,BK hbl _⟩
     case measure => simp[intOf];omega
    ·have hn:(xs[k] != ys[k])=true:=by simpa using he
     go_wp2
     go_quiet (fail)
     go_wp2
     go_ret
     exact⟨Co (by simp;intro e;subst e;exact he rfl),BK hbl _⟩
   ·have hk':k=xs.length:=by omega
    have H:=HT.out;rw[hk',List.take_length,HL.out,List.take_length]at H;have H1:=hid H;clear H hk';go_wp2
    go_ret
    exact⟨Co (by simp[H1.out]),hbl⟩
 ·have hb:=Cl hl;go_enter Tryz.func235,Tryz.ntmps235
  go_wp2
  go_ret
  exact⟨Co (by simp;intro e;subst e;exact hl rfl),Below.refl _ _⟩
theorem JJ(v1 v2:Value)(xs ys:List Int)(f1 f2:List Addr)(w:World)(h1:Bg w f1 v1 xs)(h2:Bg w f2 v2 ys) :
  Calls Tryz.prog 288 #[v1,v2] w fun e w' => e= .returned (.bool (decide (xs=ys)))∧Below w.heap.size w w':=by
 obtain⟨A1,c1,rfl,hc1,hm1,hx⟩:=Bg.open_ h1;obtain⟨A2,c2,rfl,hc2,hm2,hy⟩:=Bg.open_ h2;clear h1 h2;by_cases hl:xs.length=ys.length
 ·have hb:=Ck hl;have HL:=hid hl;clear hl;go_enter Tryz.func288,Tryz.ntmps288
  go_wp2
  go_loopw [13,5,4] (fun i _ r wr =>∃k:Nat,k≤xs.length∧i= int i64 k∧r= .bool false∧xs.take k=ys.take k∧Below w.heap.size w wr) (fun i _ _ _ => xs.length - (intOf i).toNat)
  case atStart => exact⟨0,by omega,rfl,rfl,by simp,Below.refl _ _⟩
  case round =>
   obtain⟨k,hk,rfl,rfl,ht,hbl⟩:=hrel;have HT:=hid ht;clear ht;by_cases hlt:k<xs.length
   ·have hlt2:k<ys.length:=by rw[← HL.out];exact hlt
    obtain⟨a1,e1,_,b1,g1,_⟩:=hx k hlt;obtain⟨a2,e2,_,b2,g2,_⟩:=hy k hlt2;subst e1 e2;have g1':=(hbl.cell (p:=a1.add k) b1).trans g1;have g2':=(hbl.cell (p:=a2.add k) b2).trans g2;clear g1 g2 hx hy;by_cases he:xs[k] =ys[k]
    ·have hn:(xs[k] != ys[k])=false:=by simpa using he
     have HE:=hid he;clear he;go_wp2
     go_quiet (fail)
     go_wp2
     go_roundw
     case rel => exact⟨k+1,by omega,by go_num,rfl,Ge HT.out hlt hlt2 HE.out,BK hbl _⟩
     case measure => simp[intOf];omega
    ·have hn:(xs[k] != ys[k])=true:=by simpa using he
     go_wp2
     go_quiet (fail)
     go_wp2
     go_ret
     exact⟨Co (by simp;intro e;subst e;exact he rfl),BK hbl _⟩
   ·have hk':k=xs.length:=by omega
    have H:=HT.out;rw[hk',List.take_length,HL.out,List.take_length]at H;have H1:=hid H;clear H hk';go_wp2
    go_ret
    exact⟨Co (by simp[H1.out]),hbl⟩
 ·have hb:=Cl hl;go_enter Tryz.func288,Tryz.ntmps288
  go_wp2
  go_ret
  exact⟨Co (by simp;intro e;subst e;exact hl rfl),Below.refl _ _⟩
theorem DT(d1 d2:Ag)(cs1 cs2:List Value)(f1 f2:List Addr)(w:World)(h1:Ac w f1 cs1 d1)(h2:Ac w f2 cs2 d2) :
  Calls Tryz.prog 250 #[.agg cs1.toArray,.agg cs2.toArray] w fun e w' => e= .returned (.bool (decide (d1=d2)))∧Below w.heap.size w w':=by
 obtain⟨x0,x1,x2,x3,x4,x5,x6,x7,x8⟩:=d1;obtain⟨y0,y1,y2,y3,y4,y5,y6,y7,y8⟩:=d2;dsimp only[Ac]at h1 h2;obtain⟨av0,av1,av2,af0,af1,af2,e,-,ao0,ao1,ao2,ao3,ao4,ao5,ah0,ah1,ah2⟩:=h1;subst e;obtain⟨bv0,bv1,bv2,bf0,bf1,bf2,e,-,bo0,bo1,bo2,bo3,bo4,bo5,bh0,bh1,bh2⟩:=h2;subst e;have aH0:=hid ah0;obtain⟨aA0,ac0,rfl,-⟩:=rSl.head ah0;clear ah0;have aH1:=hid ah1;obtain⟨aA1,ac1,rfl,-⟩:=rSl.head ah1;clear ah1;have aH2:=hid ah2;obtain⟨aA2,ac2,rfl,-⟩:=rSl.head ah2;clear ah2;have bH0:=hid bh0;obtain⟨bA0,bc0,rfl,-⟩:=rSl.head bh0;clear bh0;have bH1:=hid bh1;obtain⟨bA1,bc1,rfl,-⟩:=rSl.head bh1;clear bh1;have bH2:=hid bh2;obtain⟨bA2,bc2,rfl,-⟩:=rSl.head bh2;clear bh2;obtain⟨rb,hrb⟩:∃rb,decide ((⟨x0,x1,x2,x3,x4,x5,x6,x7,x8⟩:Ag)=⟨y0,y1,y2,y3,y4,y5,y6,y7,y8⟩)=rb:=⟨_,rfl⟩;rw[hrb];have RB:=hid hrb;clear hrb;have BB:=hid (show∀o1 o2:Obj,Below w.heap.size w ((w.alloc o1).alloc o2)from fun o1 o2 =>((Below.refl _ _).alloc (Nat.le_refl _) _).alloc (by simp) _);by_cases q:x0=y0
 case neg =>
  have e1:rb=false:=by rw[← RB.out];exact decide_eq_false (fun e => q (congrArg Ag.kind e))
  subst e1;have hq:(x0 == y0)=false:=by simpa using q
  clear q;go_enter Tryz.func250,Tryz.ntmps250
  go_wp2_with fail
  go_ret
  exact⟨rfl,(BB.out _ _)⟩
 subst q;by_cases q:x1=y1
 case neg =>
  have e1:rb=false:=by rw[← RB.out];exact decide_eq_false (fun e => q (congrArg Ag.seq e))
  subst e1;have hq:(x1 == y1)=false:=by simpa using q
  clear q;go_enter Tryz.func250,Tryz.ntmps250
  go_wp2_with fail
  go_ret
  exact⟨rfl,(BB.out _ _)⟩
 subst q;by_cases q:x2=y2
 case neg =>
  have e1:rb=false:=by rw[← RB.out];exact decide_eq_false (fun e => q (congrArg Ag.name e))
  subst e1;have hq:=DM q;clear q;go_enter Tryz.func250,Tryz.ntmps250
  go_wp2_with fail
  go_ret
  exact⟨rfl,(BB.out _ _)⟩
 subst q;by_cases q:x3=y3
 case neg =>
  have e1:rb=false:=by rw[← RB.out];exact decide_eq_false (fun e => q (congrArg Ag.length e))
  subst e1;have hq:(x3 == y3)=false:=by simpa using q
  clear q;go_enter Tryz.func250,Tryz.ntmps250
  go_wp2_with fail
  go_ret
  exact⟨rfl,(BB.out _ _)⟩
 subst q;by_cases q:x4=y4
 case neg =>
  have e1:rb=false:=by rw[← RB.out];exact decide_eq_false (fun e => q (congrArg Ag.group e))
  subst e1;have hq:(x4 == y4)=false:=by simpa using q
  clear q;go_enter Tryz.func250,Tryz.ntmps250
  go_wp2_with fail
  go_ret
  exact⟨rfl,(BB.out _ _)⟩
 subst q;by_cases q:x5=y5
 case neg =>
  have e1:rb=false:=by rw[← RB.out];exact decide_eq_false (fun e => q (congrArg Ag.row e))
  subst e1;have hq:(x5 == y5)=false:=by simpa using q
  clear q;go_enter Tryz.func250,Tryz.ntmps250
  go_wp2_with fail
  go_ret
  exact⟨rfl,(BB.out _ _)⟩
 subst q;have hs:=Fr (rfl:x2=x2);go_enter Tryz.func250,Tryz.ntmps250
 go_wp2_with fail
 refine(JJ _ _ x6 y6 af0 bf0 _ (rSl.below Al.local_ Al.fixed aH0.out (BB.out _ _)) (rSl.below Al.local_ Al.fixed bH0.out (BB.out _ _))).mono ?_;rintro e w1 ⟨rfl,hb1⟩;have B1:=hid ((BB.out _ _).trans (hb1.mono (by simp;omega)));have C1:=hid hb1;clear hb1;by_cases q6:x6=y6
 case neg =>
  have e1:rb=false:=by rw[← RB.out];exact decide_eq_false (fun e => q6 (congrArg Ag.rows e))
  subst e1;rw[decide_eq_false q6];go_wp2_with fail
  go_ret
  exact⟨rfl,B1.out⟩
 rw[decide_eq_true q6];obtain⟨Wa,hWa⟩:∃Wa:World,Wa=(w.alloc (.cells #[int i64 x0,int i64 x1,.string x2,int i64 x3,int i64 x4,int i64 x5,.slice aA0 x6.length ac0,.slice aA1 x7.length ac1,.slice aA2 x8.length ac2] 119)).alloc (.cells #[int i64 x0,int i64 x1,.string x2,int i64 x3,int i64 x4,int i64 x5,.slice bA0 y6.length bc0,.slice bA1 y7.length bc1,.slice bA2 y8.length bc2] 119):=⟨_,rfl⟩;have K1:=hid (((Blk.new w 119 #[int i64 x0,int i64 x1,.string x2,int i64 x3,int i64 x4,int i64 x5,.slice aA0 x6.length ac0,.slice aA1 x7.length ac1,.slice aA2 x8.length ac2]).alloc (.cells #[int i64 x0,int i64 x1,.string x2,int i64 x3,int i64 x4,int i64 x5,.slice bA0 y6.length bc0,.slice bA1 y7.length bc1,.slice bA2 y8.length bc2] 119)).below C1.out (by simp;omega));have K2:=hid ((Blk.new1 w (.cells #[int i64 x0,int i64 x1,.string x2,int i64 x3,int i64 x4,int i64 x5,.slice aA0 x6.length ac0,.slice aA1 x7.length ac1,.slice aA2 x8.length ac2] 119) 119 #[int i64 x0,int i64 x1,.string x2,int i64 x3,int i64 x4,int i64 x5,.slice bA0 y6.length bc0,.slice bA1 y7.length bc1,.slice bA2 y8.length bc2]).below C1.out (by simp));clear hWa C1 BB Wa;have p7:w1.cell? ⟨w.heap.size,7,none⟩=some (.slice aA1 x7.length ac1):=(K1.out.cell 7).trans rfl;have p8:w1.cell? ⟨w.heap.size,8,none⟩=some (.slice aA2 x8.length ac2):=(K1.out.cell 8).trans rfl;have q7:w1.cell? ⟨w.heap.size+1,7,none⟩=some (.slice bA1 y7.length bc1):=(K2.out.cell 7).trans rfl;have q8:w1.cell? ⟨w.heap.size+1,8,none⟩=some (.slice bA2 y8.length bc2):=(K2.out.cell 8).trans rfl;have z1:=K1.out.lt;have z2:=K2.out.lt;have Q6:=hid q6;clear q6;go_wp2_with fail
 refine(FS _ _ x7 y7 af1 bf1 _ (rSl.below Av.local_ Av.fixed aH1.out B1.out) (rSl.below Av.local_ Av.fixed bH1.out B1.out)).mono ?_;rintro e w2 ⟨rfl,hb2⟩;have B2:=hid (B1.out.trans (hb2.mono B1.out.size));have p8':=(hb2.cell (p:=⟨w.heap.size,8,none⟩) z1).trans p8;have q8':=(hb2.cell (p:=⟨w.heap.size+1,8,none⟩) z2).trans q8;clear hb2 p7 p8 q7 q8;by_cases q7:x7=y7
 case neg =>
  have e1:rb=false:=by rw[← RB.out];exact decide_eq_false (fun e => q7 (congrArg Ag.data e))
  subst e1;rw[decide_eq_false q7];clear q7;go_wp2_with fail
  go_ret
  exact⟨rfl,B2.out⟩
 rw[decide_eq_true q7];have Q7:=hid q7;clear q7;go_wp2_with fail
 refine(FS _ _ x8 y8 af2 bf2 _ (rSl.below Av.local_ Av.fixed aH2.out B2.out) (rSl.below Av.local_ Av.fixed bH2.out B2.out)).mono ?_;rintro e w3 ⟨rfl,hb3⟩;have B3:=hid (B2.out.trans (hb3.mono B2.out.size));clear hb3;obtain⟨rc,hrc⟩:∃rc,decide (x8=y8)=rc:=⟨_,rfl⟩;have e1:rc=rb:=by
  rw[← RB.out,← hrc];have h6:=Q6.out;have h7:=Q7.out;subst h6 h7;simp
 rw[hrc,e1];clear hrc e1;go_wp2_with fail
 go_ret
 exact⟨rfl,B3.out⟩
theorem LH(d1 d2:Ag)(cs1 cs2:List Value)(f1 f2:List Addr)(w:World)(h1:Ac w f1 cs1 d1)(h2:Ac w f2 cs2 d2) :
  Calls Tryz.prog 152 #[.agg cs1.toArray,.agg cs2.toArray] w fun e w' => e= .returned (.bool (decide (d1=d2)))∧Below w.heap.size w w':=by
 obtain⟨x0,x1,x2,x3,x4,x5,x6,x7,x8⟩:=d1;obtain⟨y0,y1,y2,y3,y4,y5,y6,y7,y8⟩:=d2;dsimp only[Ac]at h1 h2;obtain⟨av0,av1,av2,af0,af1,af2,e,-,ao0,ao1,ao2,ao3,ao4,ao5,ah0,ah1,ah2⟩:=h1;subst e;obtain⟨bv0,bv1,bv2,bf0,bf1,bf2,e,-,bo0,bo1,bo2,bo3,bo4,bo5,bh0,bh1,bh2⟩:=h2;subst e;have aH0:=hid ah0;obtain⟨aA0,ac0,rfl,-⟩:=rSl.head ah0;clear ah0;have aH1:=hid ah1;obtain⟨aA1,ac1,rfl,-⟩:=rSl.head ah1;clear ah1;have aH2:=hid ah2;obtain⟨aA2,ac2,rfl,-⟩:=rSl.head ah2;clear ah2;have bH0:=hid bh0;obtain⟨bA0,bc0,rfl,-⟩:=rSl.head bh0;clear bh0;have bH1:=hid bh1;obtain⟨bA1,bc1,rfl,-⟩:=rSl.head bh1;clear bh1;have bH2:=hid bh2;obtain⟨bA2,bc2,rfl,-⟩:=rSl.head bh2;clear bh2;obtain⟨rb,hrb⟩:∃rb,decide ((⟨x0,x1,x2,x3,x4,x5,x6,x7,x8⟩:Ag)=⟨y0,y1,y2,y3,y4,y5,y6,y7,y8⟩)=rb:=⟨_,rfl⟩;rw[hrb];have RB:=hid hrb;clear hrb;have BB:=hid (show∀o1 o2:Obj,Below w.heap.size w ((w.alloc o1).alloc o2)from fun o1 o2 =>((Below.refl _ _).alloc (Nat.le_refl _) _).alloc (by simp) _);by_cases q:x0=y0
 case neg =>
  have e1:rb=false:=by rw[← RB.out];exact decide_eq_false (fun e => q (congrArg Ag.kind e))
  subst e1;have hq:(x0 == y0)=false:=by simpa using q
  clear q;go_enter Tryz.func152,Tryz.ntmps152
  go_wp2_with fail
  go_ret
  exact⟨rfl,(BB.out _ _)⟩
 subst q;by_cases q:x1=y1
 case neg =>
  have e1:rb=false:=by rw[← RB.out];exact decide_eq_false (fun e => q (congrArg Ag.seq e))
  subst e1;have hq:(x1 == y1)=false:=by simpa using q
  clear q;go_enter Tryz.func152,Tryz.ntmps152
  go_wp2_with fail
  go_ret
  exact⟨rfl,(BB.out _ _)⟩
 subst q;by_cases q:x2=y2
 case neg =>
  have e1:rb=false:=by rw[← RB.out];exact decide_eq_false (fun e => q (congrArg Ag.name e))
  subst e1;have hq:=DM q;clear q;go_enter Tryz.func152,Tryz.ntmps152
  go_wp2_with fail
  go_ret
  exact⟨rfl,(BB.out _ _)⟩
 subst q;by_cases q:x3=y3
 case neg =>
  have e1:rb=false:=by rw[← RB.out];exact decide_eq_false (fun e => q (congrArg Ag.length e))
  subst e1;have hq:(x3 == y3)=false:=by simpa using q
  clear q;go_enter Tryz.func152,Tryz.ntmps152
  go_wp2_with fail
  go_ret
  exact⟨rfl,(BB.out _ _)⟩
 subst q;by_cases q:x4=y4
 case neg =>
  have e1:rb=false:=by rw[← RB.out];exact decide_eq_false (fun e => q (congrArg Ag.group e))
  subst e1;have hq:(x4 == y4)=false:=by simpa using q
  clear q;go_enter Tryz.func152,Tryz.ntmps152
  go_wp2_with fail
  go_ret
  exact⟨rfl,(BB.out _ _)⟩
 subst q;by_cases q:x5=y5
 case neg =>
  have e1:rb=false:=by rw[← RB.out];exact decide_eq_false (fun e => q (congrArg Ag.row e))
  subst e1;have hq:(x5 == y5)=false:=by simpa using q
  clear q;go_enter Tryz.func152,Tryz.ntmps152
  go_wp2_with fail
  go_ret
  exact⟨rfl,(BB.out _ _)⟩
 subst q;have hs:=Fr (rfl:x2=x2);go_enter Tryz.func152,Tryz.ntmps152
 go_wp2_with fail
 refine(l6Nums_c _ _ x6 y6 af0 bf0 _ (rSl.below Al.local_ Al.fixed aH0.out (BB.out _ _)) (rSl.below Al.local_ Al.fixed bH0.out (BB.out _ _))).mono ?_;rintro e w1 ⟨rfl,hb1⟩;have B1:=hid ((BB.out _ _).trans (hb1.mono (by simp;omega)));have C1:=hid hb1;clear hb1;by_cases q6:x6=y6
 case neg =>
  have e1:rb=false:=by rw[← RB.out];exact decide_eq_false (fun e => q6 (congrArg Ag.rows e))
  subst e1;rw[decide_eq_false q6];go_wp2_with fail
  go_ret
  exact⟨rfl,B1.out⟩
 rw[decide_eq_true q6];obtain⟨Wa,hWa⟩:∃Wa:World,Wa=(w.alloc (.cells #[int i64 x0,int i64 x1,.string x2,int i64 x3,int i64 x4,int i64 x5,.slice aA0 x6.length ac0,.slice aA1 x7.length ac1,.slice aA2 x8.length ac2] 119)).alloc (.cells #[int i64 x0,int i64 x1,.string x2,int i64 x3,int i64 x4,int i64 x5,.slice bA0 y6.length bc0,.slice bA1 y7.length bc1,.slice bA2 y8.length bc2] 119):=⟨_,rfl⟩;have K1:=hid (((Blk.new w 119 #[int i64 x0,int i64 x1,.string x2,int i64 x3,int i64 x4,int i64 x5,.slice aA0 x6.length ac0,.slice aA1 x7.length ac1,.slice aA2 x8.length ac2]).alloc (.cells #[int i64 x0,int i64 x1,.string x2,int i64 x3,int i64 x4,int i64 x5,.slice bA0 y6.length bc0,.slice bA1 y7.length bc1,.slice bA2 y8.length bc2] 119)).below C1.out (by simp;omega));have K2:=hid ((Blk.new1 w (.cells #[int i64 x0,int i64 x1,.string x2,int i64 x3,int i64 x4,int i64 x5,.slice aA0 x6.length ac0,.slice aA1 x7.length ac1,.slice aA2 x8.length ac2] 119) 119 #[int i64 x0,int i64 x1,.string x2,int i64 x3,int i64 x4,int i64 x5,.slice bA0 y6.length bc0,.slice bA1 y7.length bc1,.slice bA2 y8.length bc2]).below C1.out (by simp));clear hWa C1 BB Wa;have p7:w1.cell? ⟨w.heap.size,7,none⟩=some (.slice aA1 x7.length ac1):=(K1.out.cell 7).trans rfl;have p8:w1.cell? ⟨w.heap.size,8,none⟩=some (.slice aA2 x8.length ac2):=(K1.out.cell 8).trans rfl;have q7:w1.cell? ⟨w.heap.size+1,7,none⟩=some (.slice bA1 y7.length bc1):=(K2.out.cell 7).trans rfl;have q8:w1.cell? ⟨w.heap.size+1,8,none⟩=some (.slice bA2 y8.length bc2):=(K2.out.cell 8).trans rfl;have z1:=K1.out.lt;have z2:=K2.out.lt;have Q6:=hid q6;clear q6;go_wp2_with fail
 refine(Ju _ _ x7 y7 af1 bf1 _ (rSl.below Av.local_ Av.fixed aH1.out B1.out) (rSl.below Av.local_ Av.fixed bH1.out B1.out)).mono ?_;rintro e w2 ⟨rfl,hb2⟩;have B2:=hid (B1.out.trans (hb2.mono B1.out.size));have p8':=(hb2.cell (p:=⟨w.heap.size,8,none⟩) z1).trans p8;have q8':=(hb2.cell (p:=⟨w.heap.size+1,8,none⟩) z2).trans q8;clear hb2 p7 p8 q7 q8;by_cases q7:x7=y7
 case neg =>
  have e1:rb=false:=by rw[← RB.out];exact decide_eq_false (fun e => q7 (congrArg Ag.data e))
  subst e1;rw[decide_eq_false q7];clear q7;go_wp2_with fail
  go_ret
  exact⟨rfl,B2.out⟩
 rw[decide_eq_true q7];have Q7:=hid q7;clear q7;go_wp2_with fail
 refine(Ju _ _ x8 y8 af2 bf2 _ (rSl.below Av.local_ Av.fixed aH2.out B2.out) (rSl.below Av.local_ Av.fixed bH2.out B2.out)).mono ?_;rintro e w3 ⟨rfl,hb3⟩;have B3:=hid (B2.out.trans (hb3.mono B2.out.size));clear hb3;obtain⟨rc,hrc⟩:∃rc,decide (x8=y8)=rc:=⟨_,rfl⟩;have e1:rc=rb:=by
  rw[← RB.out,← hrc];have h6:=Q6.out;have h7:=Q7.out;subst h6 h7;simp
 rw[hrc,e1];clear hrc e1;go_wp2_with fail
 go_ret
 exact⟨rfl,B3.out⟩
def C0 {α:Type}(p:α→Bool)(ds:List α):Int:=match ds.findIdx? p with|some i =>(i:Int)|none => -1
theorem DZ {α:Type} {p:α→Bool} {ds:List α} {k:Nat}(hk:k<ds.length)(h:p ds[k] =true)(hb:∀q,(hq:q<ds.length)→q<k→p ds[q] =false):C0 p ds=k:=by
 have:ds.findIdx? p=some k:=List.findIdx?_eq_some_iff_getElem.2 ⟨hk,h,fun j hj => by rw[hb j (by omega) hj];simp⟩;unfold C0;rw[this]
theorem DK {α:Type} {p:α→Bool} {ds:List α}(hb:∀q,(hq:q<ds.length)→p ds[q] =false):C0 p ds= -1:=by
 have:ds.findIdx? p=none:=List.findIdx?_eq_none_iff.2 fun x hx => by
  obtain⟨i,hi,rfl⟩:=List.getElem_of_mem hx;exact hb i hi
 unfold C0;rw[this]
theorem ED {α:Type}(p:α→Bool)(ds:List α):decide (0≤C0 p ds)=ds.any p:=by
 unfold C0;cases h:ds.findIdx? p with
 |some i =>
  obtain⟨hi,h1,_⟩:=List.findIdx?_eq_some_iff_getElem.1 h;have:ds.any p=true:=List.any_eq_true.2 ⟨_,List.getElem_mem hi,h1⟩;rw[this];simp
 |none =>
  have:ds.any p=false:=List.any_eq_false.2 fun x hx => by simp[List.findIdx?_eq_none_iff.1 h x hx]
  rw[this];simp
theorem Hi(k:Nat)(hk:0<k)(zR:∀w,(Go.sizeOf 119).run Tryz.prog w= .ok k w)(aR:∀w,(isAgg 119).run Tryz.prog w= .ok true w)(p:Ag→Bool)(g:Nat)(cb:Array Value)(v:Value)(ds:List (Ag))(f:List Addr)(w:World)(eg:∀args w,(callFunc g args).run Tryz.prog w= .ok (.enter g args) w)(h:rSl k Ac w f v ds)
  (hp:∀(W:World) (cs:List Value) (fk:List Addr) (j:Nat) (hj:j<ds.length),Below w.heap.size w W→Ac W fk cs ds[j]→Calls Tryz.prog g (#[.agg cs.toArray] ++ cb) W fun e w' => e= .returned (.bool (p ds[j]))∧Below W.heap.size W w') :
  Calls Tryz.prog 136 #[v,.func (.func g) #[] cb] w fun e w' => e= .returned (int i64 (C0 p ds))∧Below w.heap.size w w':=by
 obtain⟨A,c,rfl,hc,hm,hx⟩:=rSl.at_ Ac.fixed hk h;have HX:=hid hx;have HP:=hid hp;clear hx hp h;obtain⟨rr,hrr⟩:∃rr,C0 p ds=rr:=⟨_,rfl⟩;rw[hrr];have RR:=hid hrr;clear hrr;go_enter Tryz.func136,Tryz.ntmps136
 go_wp2
 go_loopw [8,5] (fun i _ wr =>∃j:Nat,j≤ds.length∧i= int i64 j∧Hid (∀q,(hq:q<ds.length)→q<j→p ds[q] =false)∧Hid (Below w.heap.size w wr)) (fun i _ _ => ds.length - (intOf i).toNat)
 case atStart => exact⟨0,by omega,rfl,(fun q hq h => by omega),Below.refl _ _⟩
 case round =>
  obtain⟨j,hj,rfl,HF,HB⟩:=hrel;by_cases hlt:j<ds.length
  ·obtain⟨ad,b,o,cs,fk,rfl,hat⟩:=HX.out j hlt;have hat2:=hat.below Ac.local_ HB.out;have hl:Sem.run Tryz.prog (loadCellsFrom ⟨b,o,none⟩ 0 k #[]) wr= .ok cs.toArray wr:=run_loadCellsFrom_list _ _ _ cs k hat.len (fun q v hq => by
    have hq1:q<cs.length:=(List.getElem?_eq_some_iff.1 hq).1;rw[Addr.add_lit,hat2.cell q hq1,← hq];exact(List.getElem?_eq_getElem hq1).symm)
   have hpl:=hat.place;have hb0:=hat2.lt;have HC:=hid (HP.out wr cs fk j hlt HB.out hat2.reads);clear hat hat2;obtain⟨pj,hpj⟩:∃pj,p ds[j] =pj:=⟨_,rfl⟩;rw[hpj]at HC;have HPJ:=hid hpj;clear hpj;cases pj with
   |true =>
    have e1:rr=j:=by rw[← RR.out];exact DZ hlt HPJ.out HF.out
    subst e1;go_wp2_with (go_at_fn g;refine HC.out.mono ?_;rintro e w1 ⟨rfl,hb1⟩)
    go_ret
    exact⟨rfl,HB.out.trans (hb1.mono HB.out.size)⟩
   |false =>
    go_wp2_with (go_at_fn g;refine HC.out.mono ?_;rintro e w1 ⟨rfl,hb1⟩)
    have HB1:=hid (HB.out.trans (hb1.mono HB.out.size));go_roundw
    case rel =>
     refine⟨j+1,by omega,by go_num,(show Hid _ from fun q hq hqj => ?_),HB1⟩;by_cases e:q=j
     ·subst e;exact HPJ.out
     ·exact HF.out q hq (by omega)
    case measure => simp[intOf];omega
  ·have e1:rr= -1:=by rw[← RR.out];exact DK (fun q hq => HF.out q hq (by omega))
   subst e1;go_wp2_with fail
   go_ret
   exact⟨rfl,HB.out⟩
theorem El(k:Nat)(hk:0<k)(zR:∀w,(Go.sizeOf 119).run Tryz.prog w= .ok k w)(aR:∀w,(isAgg 119).run Tryz.prog w= .ok true w)(p:Ag→Bool)(g:Nat)(cb:Array Value)(v:Value)(ds:List (Ag))(f:List Addr)(w:World)(eg:∀args w,(callFunc g args).run Tryz.prog w= .ok (.enter g args) w)(h:rSl k Ac w f v ds)
  (hp:∀(W:World) (cs:List Value) (fk:List Addr) (j:Nat) (hj:j<ds.length),Below w.heap.size w W→Ac W fk cs ds[j]→Calls Tryz.prog g (#[.agg cs.toArray] ++ cb) W fun e w' => e= .returned (.bool (p ds[j]))∧Below W.heap.size W w') :
  Calls Tryz.prog 215 #[v,.func (.func g) #[] cb] w fun e w' => e= .returned (.bool (ds.any p))∧Below w.heap.size w w':=by
 have HC:=hid (Hi k hk zR aR p g cb v ds f w eg h hp);rw[← ED];obtain⟨A,c,rfl,hc,hm⟩:=rSl.head h;clear hp h;generalize C0 p ds=rr at HC;go_enter Tryz.func215,Tryz.ntmps215
 go_wp2_with (go_at_call 136;refine HC.out.mono ?_;rintro e w1 ⟨rfl,hb1⟩)
 go_ret
 exact⟨rfl,hb1⟩
theorem Jp(k:Nat)(hk:0<k)(zR:∀w,(Go.sizeOf 196).run Tryz.prog w= .ok k w)(aR:∀w,(isAgg 196).run Tryz.prog w= .ok true w)(p:By→Bool)(g:Nat)(cb:Array Value)(v:Value)(ds:List (By))(f:List Addr)(w:World)(eg:∀args w,(callFunc g args).run Tryz.prog w= .ok (.enter g args) w)(h:rSl k AD w f v ds)
  (hp:∀(W:World) (cs:List Value) (fk:List Addr) (j:Nat) (hj:j<ds.length),Below w.heap.size w W→AD W fk cs ds[j]→Calls Tryz.prog g (#[.agg cs.toArray] ++ cb) W fun e w' => e= .returned (.bool (p ds[j]))∧Below W.heap.size W w') :
  Calls Tryz.prog 243 #[v,.func (.func g) #[] cb] w fun e w' => e= .returned (int i64 (C0 p ds))∧Below w.heap.size w w':=by
 obtain⟨A,c,rfl,hc,hm,hx⟩:=rSl.at_ AD.fixed hk h;have HX:=hid hx;have HP:=hid hp;clear hx hp h;obtain⟨rr,hrr⟩:∃rr,C0 p ds=rr:=⟨_,rfl⟩;rw[hrr];have RR:=hid hrr;clear hrr;go_enter Tryz.func243,Tryz.ntmps243
 go_wp2
 go_loopw [8,5] (fun i _ wr =>∃j:Nat,j≤ds.length∧i= int i64 j∧Hid (∀q,(hq:q<ds.length)→q<j→p ds[q] =false)∧Hid (Below w.heap.size w wr)) (fun i _ _ => ds.length - (intOf i).toNat)
 case atStart => exact⟨0,by omega,rfl,(fun q hq h => by omega),Below.refl _ _⟩
 case round =>
  obtain⟨j,hj,rfl,HF,HB⟩:=hrel;by_cases hlt:j<ds.length
  ·obtain⟨ad,b,o,cs,fk,rfl,hat⟩:=HX.out j hlt;have hat2:=hat.below AD.local_ HB.out;have hl:Sem.run Tryz.prog (loadCellsFrom ⟨b,o,none⟩ 0 k #[]) wr= .ok cs.toArray wr:=run_loadCellsFrom_list _ _ _ cs k hat.len (fun q v hq => by
    have hq1:q<cs.length:=(List.getElem?_eq_some_iff.1 hq).1;rw[Addr.add_lit,hat2.cell q hq1,← hq];exact(List.getElem?_eq_getElem hq1).symm)
   have hpl:=hat.place;have hb0:=hat2.lt;have HC:=hid (HP.out wr cs fk j hlt HB.out hat2.reads);clear hat hat2;obtain⟨pj,hpj⟩:∃pj,p ds[j] =pj:=⟨_,rfl⟩;rw[hpj]at HC;have HPJ:=hid hpj;clear hpj;cases pj with
   |true =>
    have e1:rr=j:=by rw[← RR.out];exact DZ hlt HPJ.out HF.out
    subst e1;go_wp2_with (go_at_fn g;refine HC.out.mono ?_;rintro e w1 ⟨rfl,hb1⟩)
    go_ret
    exact⟨rfl,HB.out.trans (hb1.mono HB.out.size)⟩
   |false =>
    go_wp2_with (go_at_fn g;refine HC.out.mono ?_;rintro e w1 ⟨rfl,hb1⟩)
    have HB1:=hid (HB.out.trans (hb1.mono HB.out.size));go_roundw
    case rel =>
     refine⟨j+1,by omega,by go_num,(show Hid _ from fun q hq hqj => ?_),HB1⟩;by_cases e:q=j
     ·subst e;exact HPJ.out
     ·exact HF.out q hq (by omega)
    case measure => simp[intOf];omega
  ·have e1:rr= -1:=by rw[← RR.out];exact DK (fun q hq => HF.out q hq (by omega))
   subst e1;go_wp2_with fail
   go_ret
   exact⟨rfl,HB.out⟩
theorem G5(k:Nat)(hk:0<k)(zR:∀w,(Go.sizeOf 196).run Tryz.prog w= .ok k w)(aR:∀w,(isAgg 196).run Tryz.prog w= .ok true w)(p:By→Bool)(g:Nat)(cb:Array Value)(v:Value)(ds:List (By))(f:List Addr)(w:World)(eg:∀args w,(callFunc g args).run Tryz.prog w= .ok (.enter g args) w)(h:rSl k AD w f v ds)
  (hp:∀(W:World) (cs:List Value) (fk:List Addr) (j:Nat) (hj:j<ds.length),Below w.heap.size w W→AD W fk cs ds[j]→Calls Tryz.prog g (#[.agg cs.toArray] ++ cb) W fun e w' => e= .returned (.bool (p ds[j]))∧Below W.heap.size W w') :
  Calls Tryz.prog 170 #[v,.func (.func g) #[] cb] w fun e w' => e= .returned (.bool (ds.any p))∧Below w.heap.size w w':=by
 have HC:=hid (Jp k hk zR aR p g cb v ds f w eg h hp);rw[← ED];obtain⟨A,c,rfl,hc,hm⟩:=rSl.head h;clear hp h;generalize C0 p ds=rr at HC;go_enter Tryz.func170,Tryz.ntmps170
 go_wp2_with (go_at_call 243;refine HC.out.mono ?_;rintro e w1 ⟨rfl,hb1⟩)
 go_ret
 exact⟨rfl,hb1⟩
theorem J2(k:Nat)(hk:0<k)(zR:∀w,(Go.sizeOf 139).run Tryz.prog w= .ok k w)(aR:∀w,(isAgg 139).run Tryz.prog w= .ok true w)(p:AS→Bool)(g:Nat)(cb:Array Value)(v:Value)(ds:List (AS))(f:List Addr)(w:World)(eg:∀args w,(callFunc g args).run Tryz.prog w= .ok (.enter g args) w)(h:rSl k As w f v ds)
  (hp:∀(W:World) (cs:List Value) (fk:List Addr) (j:Nat) (hj:j<ds.length),Below w.heap.size w W→As W fk cs ds[j]→Calls Tryz.prog g (#[.agg cs.toArray] ++ cb) W fun e w' => e= .returned (.bool (p ds[j]))∧Below W.heap.size W w') :
  Calls Tryz.prog 245 #[v,.func (.func g) #[] cb] w fun e w' => e= .returned (int i64 (C0 p ds))∧Below w.heap.size w w':=by
 obtain⟨A,c,rfl,hc,hm,hx⟩:=rSl.at_ As.fixed hk h;have HX:=hid hx;have HP:=hid hp;clear hx hp h;obtain⟨rr,hrr⟩:∃rr,C0 p ds=rr:=⟨_,rfl⟩;rw[hrr];have RR:=hid hrr;clear hrr;go_enter Tryz.func245,Tryz.ntmps245
 go_wp2
 go_loopw [8,5] (fun i _ wr =>∃j:Nat,j≤ds.length∧i= int i64 j∧Hid (∀q,(hq:q<ds.length)→q<j→p ds[q] =false)∧Hid (Below w.heap.size w wr)) (fun i _ _ => ds.length - (intOf i).toNat)
 case atStart => exact⟨0,by omega,rfl,(fun q hq h => by omega),Below.refl _ _⟩
 case round =>
  obtain⟨j,hj,rfl,HF,HB⟩:=hrel;by_cases hlt:j<ds.length
  ·obtain⟨ad,b,o,cs,fk,rfl,hat⟩:=HX.out j hlt;have hat2:=hat.below As.local_ HB.out;have hl:Sem.run Tryz.prog (loadCellsFrom ⟨b,o,none⟩ 0 k #[]) wr= .ok cs.toArray wr:=run_loadCellsFrom_list _ _ _ cs k hat.len (fun q v hq => by
    have hq1:q<cs.length:=(List.getElem?_eq_some_iff.1 hq).1;rw[Addr.add_lit,hat2.cell q hq1,← hq];exact(List.getElem?_eq_getElem hq1).symm)
   have hpl:=hat.place;have hb0:=hat2.lt;have HC:=hid (HP.out wr cs fk j hlt HB.out hat2.reads);clear hat hat2;obtain⟨pj,hpj⟩:∃pj,p ds[j] =pj:=⟨_,rfl⟩;rw[hpj]at HC;have HPJ:=hid hpj;clear hpj;cases pj with
   |true =>
    have e1:rr=j:=by rw[← RR.out];exact DZ hlt HPJ.out HF.out
    subst e1;go_wp2_with (go_at_fn g;refine HC.out.mono ?_;rintro e w1 ⟨rfl,hb1⟩)
    go_ret
    exact⟨rfl,HB.out.trans (hb1.mono HB.out.size)⟩
   |false =>
    go_wp2_with (go_at_fn g;refine HC.out.mono ?_;rintro e w1 ⟨rfl,hb1⟩)
    have HB1:=hid (HB.out.trans (hb1.mono HB.out.size));go_roundw
    case rel =>
     refine⟨j+1,by omega,by go_num,(show Hid _ from fun q hq hqj => ?_),HB1⟩;by_cases e:q=j
     ·subst e;exact HPJ.out
     ·exact HF.out q hq (by omega)
    case measure => simp[intOf];omega
  ·have e1:rr= -1:=by rw[← RR.out];exact DK (fun q hq => HF.out q hq (by omega))
   subst e1;go_wp2_with fail
   go_ret
   exact⟨rfl,HB.out⟩
theorem Fl(k:Nat)(hk:0<k)(zR:∀w,(Go.sizeOf 139).run Tryz.prog w= .ok k w)(aR:∀w,(isAgg 139).run Tryz.prog w= .ok true w)(p:AS→Bool)(g:Nat)(cb:Array Value)(v:Value)(ds:List (AS))(f:List Addr)(w:World)(eg:∀args w,(callFunc g args).run Tryz.prog w= .ok (.enter g args) w)(h:rSl k As w f v ds)
  (hp:∀(W:World) (cs:List Value) (fk:List Addr) (j:Nat) (hj:j<ds.length),Below w.heap.size w W→As W fk cs ds[j]→Calls Tryz.prog g (#[.agg cs.toArray] ++ cb) W fun e w' => e= .returned (.bool (p ds[j]))∧Below W.heap.size W w') :
  Calls Tryz.prog 175 #[v,.func (.func g) #[] cb] w fun e w' => e= .returned (.bool (ds.any p))∧Below w.heap.size w w':=by
 have HC:=hid (J2 k hk zR aR p g cb v ds f w eg h hp);rw[← ED];obtain⟨A,c,rfl,hc,hm⟩:=rSl.head h;clear hp h;generalize C0 p ds=rr at HC;go_enter Tryz.func175,Tryz.ntmps175
 go_wp2_with (go_at_call 245;refine HC.out.mono ?_;rintro e w1 ⟨rfl,hb1⟩)
 go_ret
 exact⟨rfl,hb1⟩
theorem Lq(p:Int→Bool)(g:Nat)(cb:Array Value)(v:Value)(ds:List (Int))(f:List Addr)(w:World)(eg:∀args w,(callFunc g args).run Tryz.prog w= .ok (.enter g args) w)(h:rSl 1 Al w f v ds)
  (hp:∀(W:World) (u:Value) (fk:List Addr) (j:Nat) (hj:j<ds.length),Below w.heap.size w W→Al W fk [u] ds[j]→Calls Tryz.prog g (#[u] ++ cb) W fun e w' => e= .returned (.bool (p ds[j]))∧Below W.heap.size W w') :
  Calls Tryz.prog 312 #[v,.func (.func g) #[] cb] w fun e w' => e= .returned (int i64 (C0 p ds))∧Below w.heap.size w w':=by
 obtain⟨A,c,rfl,hc,hm,hx⟩:=rSl.at_ Al.fixed (Nat.succ_pos 0) h;have HX:=hid hx;have HP:=hid hp;clear hx hp h;obtain⟨rr,hrr⟩:∃rr,C0 p ds=rr:=⟨_,rfl⟩;rw[hrr];have RR:=hid hrr;clear hrr;go_enter Tryz.func312,Tryz.ntmps312
 go_wp2
 go_loopw [8,5] (fun i _ wr =>∃j:Nat,j≤ds.length∧i= int i64 j∧Hid (∀q,(hq:q<ds.length)→q<j→p ds[q] =false)∧Hid (Below w.heap.size w wr)) (fun i _ _ => ds.length - (intOf i).toNat)
 case atStart => exact⟨0,by omega,rfl,(fun q hq h => by omega),Below.refl _ _⟩
 case round =>
  obtain⟨j,hj,rfl,HF,HB⟩:=hrel;by_cases hlt:j<ds.length
  ·obtain⟨ad,b,o,cs,fk,rfl,hat⟩:=HX.out j hlt;have hat2:=hat.below Al.local_ HB.out;obtain⟨u,rfl⟩:∃u,cs= [u]:=by
    have:=hat.len;match cs,this with
    | [u],_ => exact⟨u,rfl⟩
   have hl:wr.cell? ⟨b,o,none⟩=some u:=by
    have:=hat2.cell 0 (by simp);simpa using this
   have hpl:=hat.place;rw[Nat.mul_one]at hpl;have hb0:=hat2.lt;have HC:=hid (HP.out wr u fk j hlt HB.out hat2.reads);clear hat hat2;obtain⟨pj,hpj⟩:∃pj,p ds[j] =pj:=⟨_,rfl⟩;rw[hpj]at HC;have HPJ:=hid hpj;clear hpj;cases pj with
   |true =>
    have e1:rr=j:=by rw[← RR.out];exact DZ hlt HPJ.out HF.out
    subst e1;go_wp2_with (go_at_fn g;refine HC.out.mono ?_;rintro e w1 ⟨rfl,hb1⟩)
    go_ret
    exact⟨rfl,HB.out.trans (hb1.mono HB.out.size)⟩
   |false =>
    go_wp2_with (go_at_fn g;refine HC.out.mono ?_;rintro e w1 ⟨rfl,hb1⟩)
    have HB1:=hid (HB.out.trans (hb1.mono HB.out.size));go_roundw
    case rel =>
     refine⟨j+1,by omega,by go_num,(show Hid _ from fun q hq hqj => ?_),HB1⟩;by_cases e:q=j
     ·subst e;exact HPJ.out
     ·exact HF.out q hq (by omega)
    case measure => simp[intOf];omega
  ·have e1:rr= -1:=by rw[← RR.out];exact DK (fun q hq => HF.out q hq (by omega))
   subst e1;go_wp2_with fail
   go_ret
   exact⟨rfl,HB.out⟩
theorem IT(p:Int→Bool)(g:Nat)(cb:Array Value)(v:Value)(ds:List (Int))(f:List Addr)(w:World)(eg:∀args w,(callFunc g args).run Tryz.prog w= .ok (.enter g args) w)(h:rSl 1 Al w f v ds)
  (hp:∀(W:World) (u:Value) (fk:List Addr) (j:Nat) (hj:j<ds.length),Below w.heap.size w W→Al W fk [u] ds[j]→Calls Tryz.prog g (#[u] ++ cb) W fun e w' => e= .returned (.bool (p ds[j]))∧Below W.heap.size W w') :
  Calls Tryz.prog 286 #[v,.func (.func g) #[] cb] w fun e w' => e= .returned (.bool (ds.any p))∧Below w.heap.size w w':=by
 have HC:=hid (Lq p g cb v ds f w eg h hp);rw[← ED];obtain⟨A,c,rfl,hc,hm⟩:=rSl.head h;clear hp h;generalize C0 p ds=rr at HC;go_enter Tryz.func286,Tryz.ntmps286
 go_wp2_with (go_at_call 312;refine HC.out.mono ?_;rintro e w1 ⟨rfl,hb1⟩)
 go_ret
 exact⟨rfl,hb1⟩
theorem DL {W:World} {g:Nat} {t:TypeId} {cs:List Value} {k:Nat}(h:Blk W g t cs.toArray)(hk:cs.length=k):Sem.run Tryz.prog (loadCellsFrom ⟨g,0,none⟩ 0 k #[]) W= .ok cs.toArray W :=
 run_loadCellsFrom_list _ _ _ cs k hk (fun q v hq => by
  rw[Addr.add_lit,h.cell];simpa using hq)
theorem run_at {α:Type} {k:Nat} {R:Ap α} {w:World} {fs:List Addr} {ad:Addr} {j b o:Nat} {cs:List Value} {fk:List Addr} {d:α}(h:At k R w fs ad j b o cs fk d):Sem.run Tryz.prog (loadCellsFrom ⟨b,o,none⟩ 0 k #[]) w= .ok cs.toArray w :=
 run_loadCellsFrom_list _ _ _ cs k h.len (fun q v hq => by
  have hq1:q<cs.length:=(List.getElem?_eq_some_iff.1 hq).1;rw[Addr.add_lit,h.cell q hq1,← hq];exact(List.getElem?_eq_getElem hq1).symm)
theorem has1_c(k:Nat)(zR:∀w,(Go.sizeOf 119).run Tryz.prog w= .ok k w)(aR:∀w,(isAgg 119).run Tryz.prog w= .ok true w)(cs1 cs2:List Value)(d1 d2:Ag)(f1 f2:List Addr)(pb:Nat)(T:TypeId)(w:World)
  (hk1:cs1.length=k) (hk2:cs2.length=k) (h1:Ac w f1 cs1 d1) (h2:Ac w f2 cs2 d2) (hp:Blk w pb T cs2.toArray) :
  Calls Tryz.prog 273 #[.agg cs1.toArray,.pointer (some ⟨pb,0,none⟩)] w fun e w' => e= .returned (.bool (decide (d1=d2)))∧Below w.heap.size w w':=by
 have hB:Below w.heap.size w (w.alloc (.cells cs1.toArray 119)):=(Below.refl _ _).alloc (Nat.le_refl _) _;have l1:Sem.run Tryz.prog (loadCellsFrom ⟨w.heap.size,0,none⟩ 0 k #[]) (w.alloc (.cells cs1.toArray 119))= .ok cs1.toArray _:=DL (Blk.new w _ _) hk1;have l2:Sem.run Tryz.prog (loadCellsFrom ⟨pb,0,none⟩ 0 k #[]) (w.alloc (.cells cs1.toArray 119))= .ok cs2.toArray _:=DL (hp.alloc _) hk2;have HC:=hid (DT d1 d2 cs1 cs2 f1 f2 (w.alloc (.cells cs1.toArray 119)) (Ap.below Ac.local_ Ac.fixed h1 hB) (Ap.below Ac.local_ Ac.fixed h2 hB));have HB:=hid hB;clear h1 h2 hp hB hk1 hk2;obtain⟨r,hr⟩:∃r,decide (d1=d2)=r:=⟨_,rfl⟩;rw[hr]at HC⊢;clear hr;go_enter Tryz.func273,Tryz.ntmps273
 go_wp2_with (go_at_call 250;refine HC.out.mono ?_;rintro e w1 ⟨rfl,hb1⟩)
 go_ret
 exact⟨rfl,HB.out.trans (hb1.mono HB.out.size)⟩
theorem has_c(v:Value)(ds:List Ag)(cs2:List Value)(d2:Ag)(f f2:List Addr)(w:World)(h:rSl 9 Ac w f v ds)(h2:Ac w f2 cs2 d2) :
  Calls Tryz.prog 210 #[v,.agg cs2.toArray] w fun e w' => e= .returned (.bool (ds.any fun x => decide (x=d2)))∧Below w.heap.size w w':=by
 have hB:Below w.heap.size w (w.alloc (.cells cs2.toArray 119)):=(Below.refl _ _).alloc (Nat.le_refl _) _;have hK:=Blk.new w 119 cs2.toArray;have HC:=hid (El 9 (by omega) Tryz.sizeOf119 Tryz.isAgg119 (fun x => decide (x=d2)) 273 #[.pointer (some ⟨w.heap.size,0,none⟩)] v ds f (w.alloc (.cells cs2.toArray 119)) (enters_of Tryz.func273 (by kernel_rfl) rfl) (rSl.below Ac.local_ Ac.fixed h hB)
  (fun W cs fk j hj hW hR => has1_c 9 Tryz.sizeOf119 Tryz.isAgg119 cs cs2 ds[j] d2 fk f2 w.heap.size 119 W (Ac.wide _ _ _ _ hR) (Ac.wide _ _ _ _ h2) hR (Ap.below Ac.local_ Ac.fixed (Ap.below Ac.local_ Ac.fixed h2 hB) hW) (hK.below hW (by simp))))
 have HB:=hid hB;obtain⟨A,c,rfl,-⟩:=rSl.head h;clear h h2 hB hK;obtain⟨r,hr⟩:∃r,(ds.any fun x => decide (x=d2))=r:=⟨_,rfl⟩;rw[hr]at HC⊢;clear hr;go_enter Tryz.func210,Tryz.ntmps210
 go_wp2_with (go_at_call 215;refine HC.out.mono ?_;rintro e w1 ⟨rfl,hb1⟩)
 go_ret
 exact⟨rfl,HB.out.trans (hb1.mono HB.out.size)⟩
theorem Mr(k:Nat)(hk:0<k)(zR:∀w,(Go.sizeOf 119).run Tryz.prog w= .ok k w)(aR:∀w,(isAgg 119).run Tryz.prog w= .ok true w)(v:Value)(ds:List Ag)(cs2:List Value)(d2:Ag)(f f2:List Addr)(w:World)(h:rSl k Ac w f v ds)(hk2:cs2.length=k)(h2:Ac w f2 cs2 d2) :
  Calls Tryz.prog 86 #[v,.agg cs2.toArray] w fun e w' => e= .returned (.bool (ds.any fun x => decide (x=d2)))∧Below w.heap.size w w':=by
 have hB:Below w.heap.size w (w.alloc (.cells cs2.toArray 119)):=(Below.refl _ _).alloc (Nat.le_refl _) _;have HK:=hid (Blk.new w 119 cs2.toArray);obtain⟨A,c,rfl,hc,hm,hx⟩:=rSl.at_ Ac.fixed hk h;have HX:=hid hx;have H2:=hid h2;have HB0:=hid hB;have HK2:=hid hk2;clear hx h2 h hB hk2;obtain⟨rr,hrr⟩:∃rr,(ds.any fun x => decide (x=d2))=rr:=⟨_,rfl⟩;rw[hrr];have RR:=hid hrr;clear hrr;go_enter Tryz.func86,Tryz.ntmps86
 go_wp2_with fail
 go_loopw [5,4] (fun i u wr =>∃j:Nat,j≤ds.length∧i= int i64 j∧u= .bool false∧Hid (∀q,(hq:q<ds.length)→q<j→decide (ds[q] =d2)=false)∧Hid (Below w.heap.size w wr)∧Hid (Blk wr w.heap.size 119 cs2.toArray)) (fun i _ _ => ds.length - (intOf i).toNat)
 case atStart => exact⟨0,by omega,rfl,rfl,(fun q hq h => by omega),HB0.out,HK.out⟩
 case round =>
  obtain⟨j,hj,rfl,rfl,HF,HB,HK1⟩:=hrel;by_cases hlt:j<ds.length
  ·obtain⟨ad,b,o,cs,fk,rfl,hat⟩:=HX.out j hlt;have hat2:=hat.below Ac.local_ HB.out;have hpl:=hat.place;have hb0:=hat2.lt;have hb1:=HK1.out.lt;have l1:∀d os,Sem.run Tryz.prog (loadCellsFrom ⟨b,o,none⟩ 0 k #[]) (grow (redrawn wr d) os)= .ok cs.toArray (grow (redrawn wr d) os):=fun d os => run_at (hat2.below Ac.local_ (below_regrown wr d os))
   have l2:∀d os,Sem.run Tryz.prog (loadCellsFrom ⟨w.heap.size,0,none⟩ 0 k #[]) (grow (redrawn wr d) os)= .ok cs2.toArray (grow (redrawn wr d) os):=fun d os => DL (HK1.out.below (below_regrown wr d os) HK1.out.lt) HK2.out
   have hc:∀d os,Calls Tryz.prog 152 #[.agg cs.toArray,.agg cs2.toArray] (grow (redrawn wr d) os) fun e w'' => e= .returned (.bool (decide (ds[j] =d2)))∧∃p:Regrown,w''=grow (redrawn wr p.d) p.os :=
    fun d os => Calls.regrown_of (LH ds[j] d2 cs cs2 fk f2 _ (Ap.below Ac.local_ Ac.fixed hat2.reads (below_regrown wr d os)) (Ap.below Ac.local_ Ac.fixed (Ap.below Ac.local_ Ac.fixed H2.out HB.out) (below_regrown wr d os)))
   clear hat hat2;obtain⟨pj,hpj⟩:∃pj,decide (ds[j] =d2)=pj:=⟨_,rfl⟩;rw[hpj]at hc;have HC:=hid hc;have HPJ:=hid hpj;clear hpj hc;have hjz:(j:Int)<(ds.length:Int):=by omega
   go_wp2_with fail
   refine wp_region_quiet_below (by kernel_rfl) (by kernel_rfl) ?_;repeat(first|go_big_quiet_step (exact HC.out _ _)|quiet_step (exact HC.out _ _))
   refine wpQuiet_nil ?_;intro _ hw';obtain⟨⟨dq,osq⟩,hw''⟩:=hw';subst hw'';have HB1:=hid (HB.out.trans ((below_regrown wr dq osq).mono HB.out.size));cases pj with
   |true =>
    have e1:rr=true:=by rw[← RR.out];exact List.any_eq_true.2 ⟨_,List.getElem_mem hlt,HPJ.out⟩
    subst e1;go_wp2_with fail
    go_ret
    exact⟨rfl,HB1.out⟩
   |false =>
    go_wp2_with fail
    go_roundw
    case rel =>
     refine⟨j+1,by omega,by go_num,rfl,(show Hid _ from fun q hq hqj => ?_),HB1,HK1.out.below (below_regrown wr dq osq) HK1.out.lt⟩;by_cases e:q=j
     ·subst e;exact HPJ.out
     ·exact HF.out q hq (by omega)
    case measure => simp[intOf];omega
  ·have e1:rr=false:=by
    rw[← RR.out];refine List.any_eq_false.2 fun x hx => ?_
    obtain⟨q,hq,rfl⟩:=List.getElem_of_mem hx;simpa using HF.out q hq (by omega)
   subst e1;go_wp2_with fail
   go_ret
   exact⟨rfl,HB.out⟩
theorem Mq(v:Value)(ds:List Ag)(cs2:List Value)(d2:Ag)(f f2:List Addr)(w:World)(h:rSl 9 Ac w f v ds)(h2:Ac w f2 cs2 d2) :
  Calls Tryz.prog 86 #[v,.agg cs2.toArray] w fun e w' => e= .returned (.bool (ds.any fun x => decide (x=d2)))∧Below w.heap.size w w' :=
 Mr 9 (by omega) Tryz.sizeOf119 Tryz.isAgg119 v ds cs2 d2 f f2 w h (Ac.wide _ _ _ _ h2) h2
end Go.Proofs.YtfjkoifpdoemdaaGreat
