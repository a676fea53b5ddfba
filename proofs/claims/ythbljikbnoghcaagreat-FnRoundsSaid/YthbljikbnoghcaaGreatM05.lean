/-
  Part 5 of the proof; the last part states and proves the statement.
-/
import Derived.Test.YthbljikbnoghcaaGreatM02
import Derived.Test.YthbljikbnoghcaaGreatM04
import Derived.Shelf.SlicesQ.Load
set_option maxHeartbeats 8000000
set_option maxRecDepth 100000
set_option linter.unusedVariables false
set_option linter.unusedSimpArgs false
open Go.Value (int)
open Go.IntKind (i64)
namespace Go.Proofs.YthbljikbnoghcaaGreat
open Go.RowKit Go.Sort
open Go.Lib (hid)
theorem Hx {a b:ByteArray}(h:a=b):(a.toList == b.toList)=true:=by subst h;simp
theorem F9 {a b:ByteArray}(h:a≠b):(a.toList == b.toList)=false:=by
 have:=strNeq_t h;simpa using this
theorem Ap.bytesIn {w:World} {fs:List Addr} {A:Option Addr} {n c:Nat} {xs:List UInt8}(h:Ap w fs (.slice A n c) xs):Lib.BytesIn w A n (xs.map fun x =>(x.toNat:Int))∧xs.length=n:=by
 obtain⟨A1,c1,e,hc1,hm1,hx⟩:=Ap.open_ h;injection e with e1 e2 e3
 subst e1 e2 e3;refine⟨?_,rfl⟩;intro hn;obtain⟨ad,e1,_,_,_⟩:=hx 0 hn;subst e1;refine Lib.BytesIn.of_cells (fun i hi => ?_) hn;obtain⟨ad2,e2,_,_,h4⟩:=hx i hi;injection e2 with e2
 subst e2;rw[h4];simp[List.getD,List.getElem?_eq_getElem hi]
theorem Gg(l:List UInt8):Lib.bytesOf (l.map fun x =>(x.toNat:Int))=l:=by
 unfold Lib.bytesOf;rw[List.map_map];conv => rhs;rw[← List.map_id l]
 apply List.map_congr_left
 intro x _;simp
theorem FM(v1 v2:Value)(xs ys:List UInt8)(f1 f2:List Addr)(w:World)(h1:Ap w f1 v1 xs)(h2:Ap w f2 v2 ys) :
  Calls Tryz.prog 231 #[v1,v2] w fun e w' => e= .returned (.bool (decide (xs=ys)))∧Below w.heap.size w w':=by
 obtain⟨A1,c1,rfl,-⟩:=h1.form;obtain⟨A2,c2,rfl,-⟩:=h2.form;refine(Tryz.bytesEqual A1 A2 _ c1 _ c2 (xs.map fun x =>(x.toNat:Int)) (ys.map fun x =>(x.toNat:Int)) w (by simp) (by simp) (Ap.bytesIn h1).1 (Ap.bytesIn h2).1).mono ?_;rintro e w' ⟨rfl,rfl⟩;rw[Gg,Gg];refine⟨Dn ?_,Below.refl _ _⟩;by_cases h:xs=ys <;> simp[h]
theorem Jr(v1 v2:Value)(xs ys:List Int)(f1 f2:List Addr)(w:World)(h1:Cn w f1 v1 xs)(h2:Cn w f2 v2 ys) :
  Calls Tryz.prog 230 #[v1,v2] w fun e w' => e= .returned (.bool (decide (xs=ys)))∧Below w.heap.size w w':=by
 obtain⟨A1,c1,rfl,hc1,hm1,hx⟩:=Cn.open_ h1;obtain⟨A2,c2,rfl,hc2,hm2,hy⟩:=Cn.open_ h2;clear h1 h2;by_cases hl:xs.length=ys.length
 ·have hb:=Gs hl;have HL:=hid hl;clear hl;go_enter Tryz.func230,Tryz.ntmps230
  go_wp2
  go_loopw [13,5,4] (fun i _ r wr =>∃k:Nat,k≤xs.length∧i= int i64 k∧r= .bool false∧xs.take k=ys.take k∧Below w.heap.size w wr) (fun i _ _ _ => xs.length - (intOf i).toNat)
  case atStart => exact⟨0,by omega,rfl,rfl,by simp,Below.refl _ _⟩
  case round =>
   obtain⟨k,hk,rfl,rfl,ht,hbl⟩:=hrel;have HT:=hid ht;clear ht;by_cases hlt:k<xs.length
   ·have hlt2:k<ys.length:=by rw[← HL.out];exact hlt
    obtain⟨a1,e1,_,b1,g1,_⟩:=hx k hlt;obtain⟨a2,e2,_,b2,g2,_⟩:=hy k hlt2;subst e1 e2;have g1':=(hbl.cell (p:=a1.add k) b1).trans g1;have g2':=(hbl.cell (p:=a2.add k) b2).trans g2;clear g1 g2 hx hy;by_cases he:xs[k] =ys[k]
    ·have hn:(xs[k] != ys[k])=false:=by simpa using he
     have HE:=hid he;clear he;go_wp2
     go_quiet (fail)
     go_wp2
     go_roundw
     case rel => exact⟨k+1,by omega,by go_num,rfl,takeEq HT.out hlt hlt2 HE.out,Be hbl _⟩
     case measure => simp[intOf];omega
    ·have hn:(xs[k] != ys[k])=true:=by simpa using he
     go_wp2
     go_quiet (fail)
     go_wp2
     go_ret
     exact⟨Dn (by simp;intro e;subst e;exact he rfl),Be hbl _⟩
   ·have hk':k=xs.length:=by omega
    have H:=HT.out;rw[hk',List.take_length,HL.out,List.take_length]at H;have H1:=hid H;clear H hk';go_wp2
    go_ret
    exact⟨Dn (by simp[H1.out]),hbl⟩
 ·have hb:=Gt hl;go_enter Tryz.func230,Tryz.ntmps230
  go_wp2
  go_ret
  exact⟨Dn (by simp;intro e;subst e;exact hl rfl),Below.refl _ _⟩
theorem DW(d1 d2:Ag)(cs1 cs2:List Value)(f1 f2:List Addr)(w:World)(h1:Ac w f1 cs1 d1)(h2:Ac w f2 cs2 d2) :
  Calls Tryz.prog 181 #[.agg cs1.toArray,.agg cs2.toArray] w fun e w' => e= .returned (.bool (decide (d1=d2)))∧Below w.heap.size w w':=by
 obtain⟨x0,x1,x2,x3,x4,x5,x6,x7,x8⟩:=d1;obtain⟨y0,y1,y2,y3,y4,y5,y6,y7,y8⟩:=d2;dsimp only[Ac]at h1 h2;obtain⟨av0,av1,av2,af0,af1,af2,e,-,ao0,ao1,ao2,ao3,ao4,ao5,ah0,ah1,ah2⟩:=h1;subst e;obtain⟨bv0,bv1,bv2,bf0,bf1,bf2,e,-,bo0,bo1,bo2,bo3,bo4,bo5,bh0,bh1,bh2⟩:=h2;subst e;have aH0:=hid ah0;obtain⟨aA0,ac0,rfl,-⟩:=rSl.head ah0;clear ah0;have aH1:=hid ah1;obtain⟨aA1,ac1,rfl,-⟩:=rSl.head ah1;clear ah1;have aH2:=hid ah2;obtain⟨aA2,ac2,rfl,-⟩:=rSl.head ah2;clear ah2;have bH0:=hid bh0;obtain⟨bA0,bc0,rfl,-⟩:=rSl.head bh0;clear bh0;have bH1:=hid bh1;obtain⟨bA1,bc1,rfl,-⟩:=rSl.head bh1;clear bh1;have bH2:=hid bh2;obtain⟨bA2,bc2,rfl,-⟩:=rSl.head bh2;clear bh2;obtain⟨rb,hrb⟩:∃rb,decide ((⟨x0,x1,x2,x3,x4,x5,x6,x7,x8⟩:Ag)=⟨y0,y1,y2,y3,y4,y5,y6,y7,y8⟩)=rb:=⟨_,rfl⟩;rw[hrb];have RB:=hid hrb;clear hrb;have BB:=hid (show∀o1 o2:Obj,Below w.heap.size w ((w.alloc o1).alloc o2)from fun o1 o2 =>((Below.refl _ _).alloc (Nat.le_refl _) _).alloc (by simp) _);by_cases q:x0=y0
 case neg =>
  have e1:rb=false:=by rw[← RB.out];exact decide_eq_false (fun e => q (congrArg Ag.kind e))
  subst e1;have hq:(x0 == y0)=false:=by simpa using q
  clear q;go_enter Tryz.func181,Tryz.ntmps181
  go_wp2_with fail
  go_ret
  exact⟨rfl,(BB.out _ _)⟩
 subst q;by_cases q:x1=y1
 case neg =>
  have e1:rb=false:=by rw[← RB.out];exact decide_eq_false (fun e => q (congrArg Ag.seq e))
  subst e1;have hq:(x1 == y1)=false:=by simpa using q
  clear q;go_enter Tryz.func181,Tryz.ntmps181
  go_wp2_with fail
  go_ret
  exact⟨rfl,(BB.out _ _)⟩
 subst q;by_cases q:x2=y2
 case neg =>
  have e1:rb=false:=by rw[← RB.out];exact decide_eq_false (fun e => q (congrArg Ag.name e))
  subst e1;have hq:=F9 q;clear q;go_enter Tryz.func181,Tryz.ntmps181
  go_wp2_with fail
  go_ret
  exact⟨rfl,(BB.out _ _)⟩
 subst q;by_cases q:x3=y3
 case neg =>
  have e1:rb=false:=by rw[← RB.out];exact decide_eq_false (fun e => q (congrArg Ag.length e))
  subst e1;have hq:(x3 == y3)=false:=by simpa using q
  clear q;go_enter Tryz.func181,Tryz.ntmps181
  go_wp2_with fail
  go_ret
  exact⟨rfl,(BB.out _ _)⟩
 subst q;by_cases q:x4=y4
 case neg =>
  have e1:rb=false:=by rw[← RB.out];exact decide_eq_false (fun e => q (congrArg Ag.group e))
  subst e1;have hq:(x4 == y4)=false:=by simpa using q
  clear q;go_enter Tryz.func181,Tryz.ntmps181
  go_wp2_with fail
  go_ret
  exact⟨rfl,(BB.out _ _)⟩
 subst q;by_cases q:x5=y5
 case neg =>
  have e1:rb=false:=by rw[← RB.out];exact decide_eq_false (fun e => q (congrArg Ag.row e))
  subst e1;have hq:(x5 == y5)=false:=by simpa using q
  clear q;go_enter Tryz.func181,Tryz.ntmps181
  go_wp2_with fail
  go_ret
  exact⟨rfl,(BB.out _ _)⟩
 subst q;have hs:=Hx (rfl:x2=x2);go_enter Tryz.func181,Tryz.ntmps181
 go_wp2_with fail
 refine(Jr _ _ x6 y6 af0 bf0 _ (rSl.below As.local_ As.fixed aH0.out (BB.out _ _)) (rSl.below As.local_ As.fixed bH0.out (BB.out _ _))).mono ?_;rintro e w1 ⟨rfl,hb1⟩;have B1:=hid ((BB.out _ _).trans (hb1.mono (by simp;omega)));have C1:=hid hb1;clear hb1;by_cases q6:x6=y6
 case neg =>
  have e1:rb=false:=by rw[← RB.out];exact decide_eq_false (fun e => q6 (congrArg Ag.rows e))
  subst e1;rw[decide_eq_false q6];go_wp2_with fail
  go_ret
  exact⟨rfl,B1.out⟩
 rw[decide_eq_true q6];obtain⟨Wa,hWa⟩:∃Wa:World,Wa=(w.alloc (.cells #[int i64 x0,int i64 x1,.string x2,int i64 x3,int i64 x4,int i64 x5,.slice aA0 x6.length ac0,.slice aA1 x7.length ac1,.slice aA2 x8.length ac2] 76)).alloc (.cells #[int i64 x0,int i64 x1,.string x2,int i64 x3,int i64 x4,int i64 x5,.slice bA0 y6.length bc0,.slice bA1 y7.length bc1,.slice bA2 y8.length bc2] 76):=⟨_,rfl⟩;have K1:=hid (((Blk.new w 76 #[int i64 x0,int i64 x1,.string x2,int i64 x3,int i64 x4,int i64 x5,.slice aA0 x6.length ac0,.slice aA1 x7.length ac1,.slice aA2 x8.length ac2]).alloc (.cells #[int i64 x0,int i64 x1,.string x2,int i64 x3,int i64 x4,int i64 x5,.slice bA0 y6.length bc0,.slice bA1 y7.length bc1,.slice bA2 y8.length bc2] 76)).below C1.out (by simp;omega));have K2:=hid ((Blk.new1 w (.cells #[int i64 x0,int i64 x1,.string x2,int i64 x3,int i64 x4,int i64 x5,.slice aA0 x6.length ac0,.slice aA1 x7.length ac1,.slice aA2 x8.length ac2] 76) 76 #[int i64 x0,int i64 x1,.string x2,int i64 x3,int i64 x4,int i64 x5,.slice bA0 y6.length bc0,.slice bA1 y7.length bc1,.slice bA2 y8.length bc2]).below C1.out (by simp));clear hWa C1 BB Wa;have p7:w1.cell? ⟨w.heap.size,7,none⟩=some (.slice aA1 x7.length ac1):=(K1.out.cell 7).trans rfl;have p8:w1.cell? ⟨w.heap.size,8,none⟩=some (.slice aA2 x8.length ac2):=(K1.out.cell 8).trans rfl;have q7:w1.cell? ⟨w.heap.size+1,7,none⟩=some (.slice bA1 y7.length bc1):=(K2.out.cell 7).trans rfl;have q8:w1.cell? ⟨w.heap.size+1,8,none⟩=some (.slice bA2 y8.length bc2):=(K2.out.cell 8).trans rfl;have z1:=K1.out.lt;have z2:=K2.out.lt;have Q6:=hid q6;clear q6;go_wp2_with fail
 refine(FM _ _ x7 y7 af1 bf1 _ (rSl.below AG.local_ AG.fixed aH1.out B1.out) (rSl.below AG.local_ AG.fixed bH1.out B1.out)).mono ?_;rintro e w2 ⟨rfl,hb2⟩;have B2:=hid (B1.out.trans (hb2.mono B1.out.size));have p8':=(hb2.cell (p:=⟨w.heap.size,8,none⟩) z1).trans p8;have q8':=(hb2.cell (p:=⟨w.heap.size+1,8,none⟩) z2).trans q8;clear hb2 p7 p8 q7 q8;by_cases q7:x7=y7
 case neg =>
  have e1:rb=false:=by rw[← RB.out];exact decide_eq_false (fun e => q7 (congrArg Ag.data e))
  subst e1;rw[decide_eq_false q7];clear q7;go_wp2_with fail
  go_ret
  exact⟨rfl,B2.out⟩
 rw[decide_eq_true q7];have Q7:=hid q7;clear q7;go_wp2_with fail
 refine(FM _ _ x8 y8 af2 bf2 _ (rSl.below AG.local_ AG.fixed aH2.out B2.out) (rSl.below AG.local_ AG.fixed bH2.out B2.out)).mono ?_;rintro e w3 ⟨rfl,hb3⟩;have B3:=hid (B2.out.trans (hb3.mono B2.out.size));clear hb3;obtain⟨rc,hrc⟩:∃rc,decide (x8=y8)=rc:=⟨_,rfl⟩;have e1:rc=rb:=by
  rw[← RB.out,← hrc];have h6:=Q6.out;have h7:=Q7.out;subst h6 h7;simp
 rw[hrc,e1];clear hrc e1;go_wp2_with fail
 go_ret
 exact⟨rfl,B3.out⟩
def Cr {α:Type}(p:α→Bool)(ds:List α):Int:=match ds.findIdx? p with|some i =>(i:Int)|none => -1
theorem Dd {α:Type} {p:α→Bool} {ds:List α} {k:Nat}(hk:k<ds.length)(h:p ds[k] =true)(hb:∀q,(hq:q<ds.length)→q<k→p ds[q] =false):Cr p ds=k:=by
 have:ds.findIdx? p=some k:=List.findIdx?_eq_some_iff_getElem.2 ⟨hk,h,fun j hj => by rw[hb j (by omega) hj];simp⟩;unfold Cr;rw[this]
theorem CL {α:Type} {p:α→Bool} {ds:List α}(hb:∀q,(hq:q<ds.length)→p ds[q] =false):Cr p ds= -1:=by
 have:ds.findIdx? p=none:=List.findIdx?_eq_none_iff.2 fun x hx => by
  obtain⟨i,hi,rfl⟩:=List.getElem_of_mem hx;exact hb i hi
 unfold Cr;rw[this]
theorem ED {α:Type}(p:α→Bool)(ds:List α):decide (0≤Cr p ds)=ds.any p:=by
 unfold Cr;cases h:ds.findIdx? p with
 |some i =>
  obtain⟨hi,h1,_⟩:=List.findIdx?_eq_some_iff_getElem.1 h;have:ds.any p=true:=List.any_eq_true.2 ⟨_,List.getElem_mem hi,h1⟩;rw[this];simp
 |none =>
  have:ds.any p=false:=List.any_eq_false.2 fun x hx => by simp[List.findIdx?_eq_none_iff.1 h x hx]
  rw[this];simp
theorem Eu(k:Nat)(hk:0<k)(zR:∀w,(Go.sizeOf 76).run Tryz.prog w= .ok k w)(aR:∀w,(isAgg 76).run Tryz.prog w= .ok true w)(p:Ag→Bool)(g:Nat)(cb:Array Value)(v:Value)(ds:List (Ag))(f:List Addr)(w:World)(eg:∀args w,(callFunc g args).run Tryz.prog w= .ok (.enter g args) w)(h:rSl k Ac w f v ds)
  (hp:∀(W:World) (cs:List Value) (fk:List Addr) (j:Nat) (hj:j<ds.length),Below w.heap.size w W→Ac W fk cs ds[j]→Calls Tryz.prog g (#[.agg cs.toArray] ++ cb) W fun e w' => e= .returned (.bool (p ds[j]))∧Below W.heap.size W w') :
  Calls Tryz.prog 76 #[v,.func (.func g) #[] cb] w fun e w' => e= .returned (int i64 (Cr p ds))∧Below w.heap.size w w':=by
 obtain⟨A,c,rfl,hc,hm,hx⟩:=rSl.at_ Ac.fixed hk h;have HX:=hid hx;have HP:=hid hp;clear hx hp h;obtain⟨rr,hrr⟩:∃rr,Cr p ds=rr:=⟨_,rfl⟩;rw[hrr];have RR:=hid hrr;clear hrr;go_enter Tryz.func76,Tryz.ntmps76
 go_wp2
 go_loopw [8,5] (fun i _ wr =>∃j:Nat,j≤ds.length∧i= int i64 j∧Hid (∀q,(hq:q<ds.length)→q<j→p ds[q] =false)∧Hid (Below w.heap.size w wr)) (fun i _ _ => ds.length - (intOf i).toNat)
 case atStart => exact⟨0,by omega,rfl,(fun q hq h => by omega),Below.refl _ _⟩
 case round =>
  obtain⟨j,hj,rfl,HF,HB⟩:=hrel;by_cases hlt:j<ds.length
  ·obtain⟨ad,b,o,cs,fk,rfl,hat⟩:=HX.out j hlt;have hat2:=hat.below Ac.local_ HB.out;have hl:Sem.run Tryz.prog (loadCellsFrom ⟨b,o,none⟩ 0 k #[]) wr= .ok cs.toArray wr:=run_loadCellsFrom_list _ _ _ cs k hat.len (fun q v hq => by
    have hq1:q<cs.length:=(List.getElem?_eq_some_iff.1 hq).1;rw[Addr.add_lit,hat2.cell q hq1,← hq];exact(List.getElem?_eq_getElem hq1).symm)
   have hpl:=hat.place;have hb0:=hat2.lt;have HC:=hid (HP.out wr cs fk j hlt HB.out hat2.reads);clear hat hat2;obtain⟨pj,hpj⟩:∃pj,p ds[j] =pj:=⟨_,rfl⟩;rw[hpj]at HC;have HPJ:=hid hpj;clear hpj;cases pj with
   |true =>
    have e1:rr=j:=by rw[← RR.out];exact Dd hlt HPJ.out HF.out
    subst e1;go_wp2_with (go_at_fn g;refine HC.out.mono ?_;rintro e w1 ⟨rfl,hb1⟩)
    go_ret
    exact⟨rfl,HB.out.trans (hb1.mono HB.out.size)⟩
   |false =>
    go_wp2_with (go_at_fn g;refine HC.out.mono ?_;rintro e w1 ⟨rfl,hb1⟩)
    have HB1:=hid (HB.out.trans (hb1.mono HB.out.size));go_roundw
    case rel =>
     refine⟨j+1,by omega,by go_num,(show Hid _ from fun q hq hqj => ?_),HB1⟩;by_cases e:q=j
     ·subst e;exact HPJ.out
     ·exact HF.out q hq (by omega)
    case measure => simp[intOf];omega
  ·have e1:rr= -1:=by rw[← RR.out];exact CL (fun q hq => HF.out q hq (by omega))
   subst e1;go_wp2_with fail
   go_ret
   exact⟨rfl,HB.out⟩
theorem FA(k:Nat)(hk:0<k)(zR:∀w,(Go.sizeOf 76).run Tryz.prog w= .ok k w)(aR:∀w,(isAgg 76).run Tryz.prog w= .ok true w)(p:Ag→Bool)(g:Nat)(cb:Array Value)(v:Value)(ds:List (Ag))(f:List Addr)(w:World)(eg:∀args w,(callFunc g args).run Tryz.prog w= .ok (.enter g args) w)(h:rSl k Ac w f v ds)
  (hp:∀(W:World) (cs:List Value) (fk:List Addr) (j:Nat) (hj:j<ds.length),Below w.heap.size w W→Ac W fk cs ds[j]→Calls Tryz.prog g (#[.agg cs.toArray] ++ cb) W fun e w' => e= .returned (.bool (p ds[j]))∧Below W.heap.size W w') :
  Calls Tryz.prog 110 #[v,.func (.func g) #[] cb] w fun e w' => e= .returned (.bool (ds.any p))∧Below w.heap.size w w':=by
 have HC:=hid (Eu k hk zR aR p g cb v ds f w eg h hp);rw[← ED];obtain⟨A,c,rfl,hc,hm⟩:=rSl.head h;clear hp h;generalize Cr p ds=rr at HC;go_enter Tryz.func110,Tryz.ntmps110
 go_wp2_with (go_at_call 76;refine HC.out.mono ?_;rintro e w1 ⟨rfl,hb1⟩)
 go_ret
 exact⟨rfl,hb1⟩
theorem I2(k:Nat)(hk:0<k)(zR:∀w,(Go.sizeOf 118).run Tryz.prog w= .ok k w)(aR:∀w,(isAgg 118).run Tryz.prog w= .ok true w)(p:CG→Bool)(g:Nat)(cb:Array Value)(v:Value)(ds:List (CG))(f:List Addr)(w:World)(eg:∀args w,(callFunc g args).run Tryz.prog w= .ok (.enter g args) w)(h:rSl k AL w f v ds)
  (hp:∀(W:World) (cs:List Value) (fk:List Addr) (j:Nat) (hj:j<ds.length),Below w.heap.size w W→AL W fk cs ds[j]→Calls Tryz.prog g (#[.agg cs.toArray] ++ cb) W fun e w' => e= .returned (.bool (p ds[j]))∧Below W.heap.size W w') :
  Calls Tryz.prog 176 #[v,.func (.func g) #[] cb] w fun e w' => e= .returned (int i64 (Cr p ds))∧Below w.heap.size w w':=by
 obtain⟨A,c,rfl,hc,hm,hx⟩:=rSl.at_ AL.fixed hk h;have HX:=hid hx;have HP:=hid hp;clear hx hp h;obtain⟨rr,hrr⟩:∃rr,Cr p ds=rr:=⟨_,rfl⟩;rw[hrr];have RR:=hid hrr;clear hrr;go_enter Tryz.func176,Tryz.ntmps176
 go_wp2
 go_loopw [8,5] (fun i _ wr =>∃j:Nat,j≤ds.length∧i= int i64 j∧Hid (∀q,(hq:q<ds.length)→q<j→p ds[q] =false)∧Hid (Below w.heap.size w wr)) (fun i _ _ => ds.length - (intOf i).toNat)
 case atStart => exact⟨0,by omega,rfl,(fun q hq h => by omega),Below.refl _ _⟩
 case round =>
  obtain⟨j,hj,rfl,HF,HB⟩:=hrel;by_cases hlt:j<ds.length
  ·obtain⟨ad,b,o,cs,fk,rfl,hat⟩:=HX.out j hlt;have hat2:=hat.below AL.local_ HB.out;have hl:Sem.run Tryz.prog (loadCellsFrom ⟨b,o,none⟩ 0 k #[]) wr= .ok cs.toArray wr:=run_loadCellsFrom_list _ _ _ cs k hat.len (fun q v hq => by
    have hq1:q<cs.length:=(List.getElem?_eq_some_iff.1 hq).1;rw[Addr.add_lit,hat2.cell q hq1,← hq];exact(List.getElem?_eq_getElem hq1).symm)
   have hpl:=hat.place;have hb0:=hat2.lt;have HC:=hid (HP.out wr cs fk j hlt HB.out hat2.reads);clear hat hat2;obtain⟨pj,hpj⟩:∃pj,p ds[j] =pj:=⟨_,rfl⟩;rw[hpj]at HC;have HPJ:=hid hpj;clear hpj;cases pj with
   |true =>
    have e1:rr=j:=by rw[← RR.out];exact Dd hlt HPJ.out HF.out
    subst e1;go_wp2_with (go_at_fn g;refine HC.out.mono ?_;rintro e w1 ⟨rfl,hb1⟩)
    go_ret
    exact⟨rfl,HB.out.trans (hb1.mono HB.out.size)⟩
   |false =>
    go_wp2_with (go_at_fn g;refine HC.out.mono ?_;rintro e w1 ⟨rfl,hb1⟩)
    have HB1:=hid (HB.out.trans (hb1.mono HB.out.size));go_roundw
    case rel =>
     refine⟨j+1,by omega,by go_num,(show Hid _ from fun q hq hqj => ?_),HB1⟩;by_cases e:q=j
     ·subst e;exact HPJ.out
     ·exact HF.out q hq (by omega)
    case measure => simp[intOf];omega
  ·have e1:rr= -1:=by rw[← RR.out];exact CL (fun q hq => HF.out q hq (by omega))
   subst e1;go_wp2_with fail
   go_ret
   exact⟨rfl,HB.out⟩
theorem GN(k:Nat)(hk:0<k)(zR:∀w,(Go.sizeOf 118).run Tryz.prog w= .ok k w)(aR:∀w,(isAgg 118).run Tryz.prog w= .ok true w)(p:CG→Bool)(g:Nat)(cb:Array Value)(v:Value)(ds:List (CG))(f:List Addr)(w:World)(eg:∀args w,(callFunc g args).run Tryz.prog w= .ok (.enter g args) w)(h:rSl k AL w f v ds)
  (hp:∀(W:World) (cs:List Value) (fk:List Addr) (j:Nat) (hj:j<ds.length),Below w.heap.size w W→AL W fk cs ds[j]→Calls Tryz.prog g (#[.agg cs.toArray] ++ cb) W fun e w' => e= .returned (.bool (p ds[j]))∧Below W.heap.size W w') :
  Calls Tryz.prog 116 #[v,.func (.func g) #[] cb] w fun e w' => e= .returned (.bool (ds.any p))∧Below w.heap.size w w':=by
 have HC:=hid (I2 k hk zR aR p g cb v ds f w eg h hp);rw[← ED];obtain⟨A,c,rfl,hc,hm⟩:=rSl.head h;clear hp h;generalize Cr p ds=rr at HC;go_enter Tryz.func116,Tryz.ntmps116
 go_wp2_with (go_at_call 176;refine HC.out.mono ?_;rintro e w1 ⟨rfl,hb1⟩)
 go_ret
 exact⟨rfl,hb1⟩
theorem JM(k:Nat)(hk:0<k)(zR:∀w,(Go.sizeOf 122).run Tryz.prog w= .ok k w)(aR:∀w,(isAgg 122).run Tryz.prog w= .ok true w)(p:AU→Bool)(g:Nat)(cb:Array Value)(v:Value)(ds:List (AU))(f:List Addr)(w:World)(eg:∀args w,(callFunc g args).run Tryz.prog w= .ok (.enter g args) w)(h:rSl k AK w f v ds)
  (hp:∀(W:World) (cs:List Value) (fk:List Addr) (j:Nat) (hj:j<ds.length),Below w.heap.size w W→AK W fk cs ds[j]→Calls Tryz.prog g (#[.agg cs.toArray] ++ cb) W fun e w' => e= .returned (.bool (p ds[j]))∧Below W.heap.size W w') :
  Calls Tryz.prog 177 #[v,.func (.func g) #[] cb] w fun e w' => e= .returned (int i64 (Cr p ds))∧Below w.heap.size w w':=by
 obtain⟨A,c,rfl,hc,hm,hx⟩:=rSl.at_ AK.fixed hk h;have HX:=hid hx;have HP:=hid hp;clear hx hp h;obtain⟨rr,hrr⟩:∃rr,Cr p ds=rr:=⟨_,rfl⟩;rw[hrr];have RR:=hid hrr;clear hrr;go_enter Tryz.func177,Tryz.ntmps177
 go_wp2
 go_loopw [8,5] (fun i _ wr =>∃j:Nat,j≤ds.length∧i= int i64 j∧Hid (∀q,(hq:q<ds.length)→q<j→p ds[q] =false)∧Hid (Below w.heap.size w wr)) (fun i _ _ => ds.length - (intOf i).toNat)
 case atStart => exact⟨0,by omega,rfl,(fun q hq h => by omega),Below.refl _ _⟩
 case round =>
  obtain⟨j,hj,rfl,HF,HB⟩:=hrel;by_cases hlt:j<ds.length
  ·obtain⟨ad,b,o,cs,fk,rfl,hat⟩:=HX.out j hlt;have hat2:=hat.below AK.local_ HB.out;have hl:Sem.run Tryz.prog (loadCellsFrom ⟨b,o,none⟩ 0 k #[]) wr= .ok cs.toArray wr:=run_loadCellsFrom_list _ _ _ cs k hat.len (fun q v hq => by
    have hq1:q<cs.length:=(List.getElem?_eq_some_iff.1 hq).1;rw[Addr.add_lit,hat2.cell q hq1,← hq];exact(List.getElem?_eq_getElem hq1).symm)
   have hpl:=hat.place;have hb0:=hat2.lt;have HC:=hid (HP.out wr cs fk j hlt HB.out hat2.reads);clear hat hat2;obtain⟨pj,hpj⟩:∃pj,p ds[j] =pj:=⟨_,rfl⟩;rw[hpj]at HC;have HPJ:=hid hpj;clear hpj;cases pj with
   |true =>
    have e1:rr=j:=by rw[← RR.out];exact Dd hlt HPJ.out HF.out
    subst e1;go_wp2_with (go_at_fn g;refine HC.out.mono ?_;rintro e w1 ⟨rfl,hb1⟩)
    go_ret
    exact⟨rfl,HB.out.trans (hb1.mono HB.out.size)⟩
   |false =>
    go_wp2_with (go_at_fn g;refine HC.out.mono ?_;rintro e w1 ⟨rfl,hb1⟩)
    have HB1:=hid (HB.out.trans (hb1.mono HB.out.size));go_roundw
    case rel =>
     refine⟨j+1,by omega,by go_num,(show Hid _ from fun q hq hqj => ?_),HB1⟩;by_cases e:q=j
     ·subst e;exact HPJ.out
     ·exact HF.out q hq (by omega)
    case measure => simp[intOf];omega
  ·have e1:rr= -1:=by rw[← RR.out];exact CL (fun q hq => HF.out q hq (by omega))
   subst e1;go_wp2_with fail
   go_ret
   exact⟨rfl,HB.out⟩
theorem Fa(k:Nat)(hk:0<k)(zR:∀w,(Go.sizeOf 122).run Tryz.prog w= .ok k w)(aR:∀w,(isAgg 122).run Tryz.prog w= .ok true w)(p:AU→Bool)(g:Nat)(cb:Array Value)(v:Value)(ds:List (AU))(f:List Addr)(w:World)(eg:∀args w,(callFunc g args).run Tryz.prog w= .ok (.enter g args) w)(h:rSl k AK w f v ds)
  (hp:∀(W:World) (cs:List Value) (fk:List Addr) (j:Nat) (hj:j<ds.length),Below w.heap.size w W→AK W fk cs ds[j]→Calls Tryz.prog g (#[.agg cs.toArray] ++ cb) W fun e w' => e= .returned (.bool (p ds[j]))∧Below W.heap.size W w') :
  Calls Tryz.prog 120 #[v,.func (.func g) #[] cb] w fun e w' => e= .returned (.bool (ds.any p))∧Below w.heap.size w w':=by
 have HC:=hid (JM k hk zR aR p g cb v ds f w eg h hp);rw[← ED];obtain⟨A,c,rfl,hc,hm⟩:=rSl.head h;clear hp h;generalize Cr p ds=rr at HC;go_enter Tryz.func120,Tryz.ntmps120
 go_wp2_with (go_at_call 177;refine HC.out.mono ?_;rintro e w1 ⟨rfl,hb1⟩)
 go_ret
 exact⟨rfl,hb1⟩
theorem La(p:Int→Bool)(g:Nat)(cb:Array Value)(v:Value)(ds:List (Int))(f:List Addr)(w:World)(eg:∀args w,(callFunc g args).run Tryz.prog w= .ok (.enter g args) w)(h:rSl 1 As w f v ds)
  (hp:∀(W:World) (u:Value) (fk:List Addr) (j:Nat) (hj:j<ds.length),Below w.heap.size w W→As W fk [u] ds[j]→Calls Tryz.prog g (#[u] ++ cb) W fun e w' => e= .returned (.bool (p ds[j]))∧Below W.heap.size W w') :
  Calls Tryz.prog 259 #[v,.func (.func g) #[] cb] w fun e w' => e= .returned (int i64 (Cr p ds))∧Below w.heap.size w w':=by
 obtain⟨A,c,rfl,hc,hm,hx⟩:=rSl.at_ As.fixed (Nat.succ_pos 0) h;have HX:=hid hx;have HP:=hid hp;clear hx hp h;obtain⟨rr,hrr⟩:∃rr,Cr p ds=rr:=⟨_,rfl⟩;rw[hrr];have RR:=hid hrr;clear hrr;go_enter Tryz.func259,Tryz.ntmps259
 go_wp2
 go_loopw [8,5] (fun i _ wr =>∃j:Nat,j≤ds.length∧i= int i64 j∧Hid (∀q,(hq:q<ds.length)→q<j→p ds[q] =false)∧Hid (Below w.heap.size w wr)) (fun i _ _ => ds.length - (intOf i).toNat)
 case atStart => exact⟨0,by omega,rfl,(fun q hq h => by omega),Below.refl _ _⟩
 case round =>
  obtain⟨j,hj,rfl,HF,HB⟩:=hrel;by_cases hlt:j<ds.length
  ·obtain⟨ad,b,o,cs,fk,rfl,hat⟩:=HX.out j hlt;have hat2:=hat.below As.local_ HB.out;obtain⟨u,rfl⟩:∃u,cs= [u]:=by
    have:=hat.len;match cs,this with
    | [u],_ => exact⟨u,rfl⟩
   have hl:wr.cell? ⟨b,o,none⟩=some u:=by
    have:=hat2.cell 0 (by simp);simpa using this
   have hpl:=hat.place;rw[Nat.mul_one]at hpl;have hb0:=hat2.lt;have HC:=hid (HP.out wr u fk j hlt HB.out hat2.reads);clear hat hat2;obtain⟨pj,hpj⟩:∃pj,p ds[j] =pj:=⟨_,rfl⟩;rw[hpj]at HC;have HPJ:=hid hpj;clear hpj;cases pj with
   |true =>
    have e1:rr=j:=by rw[← RR.out];exact Dd hlt HPJ.out HF.out
    subst e1;go_wp2_with (go_at_fn g;refine HC.out.mono ?_;rintro e w1 ⟨rfl,hb1⟩)
    go_ret
    exact⟨rfl,HB.out.trans (hb1.mono HB.out.size)⟩
   |false =>
    go_wp2_with (go_at_fn g;refine HC.out.mono ?_;rintro e w1 ⟨rfl,hb1⟩)
    have HB1:=hid (HB.out.trans (hb1.mono HB.out.size));go_roundw
    case rel =>
     refine⟨j+1,by omega,by go_num,(show Hid _ from fun q hq hqj => ?_),HB1⟩;by_cases e:q=j
     ·subst e;exact HPJ.out
     ·exact HF.out q hq (by omega)
    case measure => simp[intOf];omega
  ·have e1:rr= -1:=by rw[← RR.out];exact CL (fun q hq => HF.out q hq (by omega))
   subst e1;go_wp2_with fail
   go_ret
   exact⟨rfl,HB.out⟩
theorem Il(p:Int→Bool)(g:Nat)(cb:Array Value)(v:Value)(ds:List (Int))(f:List Addr)(w:World)(eg:∀args w,(callFunc g args).run Tryz.prog w= .ok (.enter g args) w)(h:rSl 1 As w f v ds)
  (hp:∀(W:World) (u:Value) (fk:List Addr) (j:Nat) (hj:j<ds.length),Below w.heap.size w W→As W fk [u] ds[j]→Calls Tryz.prog g (#[u] ++ cb) W fun e w' => e= .returned (.bool (p ds[j]))∧Below W.heap.size W w') :
  Calls Tryz.prog 228 #[v,.func (.func g) #[] cb] w fun e w' => e= .returned (.bool (ds.any p))∧Below w.heap.size w w':=by
 have HC:=hid (La p g cb v ds f w eg h hp);rw[← ED];obtain⟨A,c,rfl,hc,hm⟩:=rSl.head h;clear hp h;generalize Cr p ds=rr at HC;go_enter Tryz.func228,Tryz.ntmps228
 go_wp2_with (go_at_call 259;refine HC.out.mono ?_;rintro e w1 ⟨rfl,hb1⟩)
 go_ret
 exact⟨rfl,hb1⟩
theorem Kh {W:World} {g:Nat} {t:TypeId} {cs:List Value} {k:Nat}(h:Blk W g t cs.toArray)(hk:cs.length=k):Sem.run Tryz.prog (loadCellsFrom ⟨g,0,none⟩ 0 k #[]) W= .ok cs.toArray W :=
 run_loadCellsFrom_list _ _ _ cs k hk (fun q v hq => by
  rw[Addr.add_lit,h.cell];simpa using hq)
theorem has1_c(k:Nat)(zR:∀w,(Go.sizeOf 76).run Tryz.prog w= .ok k w)(aR:∀w,(isAgg 76).run Tryz.prog w= .ok true w)(cs1 cs2:List Value)(d1 d2:Ag)(f1 f2:List Addr)(pb:Nat)(T:TypeId)(w:World)
  (hk1:cs1.length=k) (hk2:cs2.length=k) (h1:Ac w f1 cs1 d1) (h2:Ac w f2 cs2 d2) (hp:Blk w pb T cs2.toArray) :
  Calls Tryz.prog 189 #[.agg cs1.toArray,.pointer (some ⟨pb,0,none⟩)] w fun e w' => e= .returned (.bool (decide (d1=d2)))∧Below w.heap.size w w':=by
 have hB:Below w.heap.size w (w.alloc (.cells cs1.toArray 76)):=(Below.refl _ _).alloc (Nat.le_refl _) _;have l1:Sem.run Tryz.prog (loadCellsFrom ⟨w.heap.size,0,none⟩ 0 k #[]) (w.alloc (.cells cs1.toArray 76))= .ok cs1.toArray _:=Kh (Blk.new w _ _) hk1;have l2:Sem.run Tryz.prog (loadCellsFrom ⟨pb,0,none⟩ 0 k #[]) (w.alloc (.cells cs1.toArray 76))= .ok cs2.toArray _:=Kh (hp.alloc _) hk2;have HC:=hid (DW d1 d2 cs1 cs2 f1 f2 (w.alloc (.cells cs1.toArray 76)) (Aw.below Ac.local_ Ac.fixed h1 hB) (Aw.below Ac.local_ Ac.fixed h2 hB));have HB:=hid hB;clear h1 h2 hp hB hk1 hk2;obtain⟨r,hr⟩:∃r,decide (d1=d2)=r:=⟨_,rfl⟩;rw[hr]at HC⊢;clear hr;go_enter Tryz.func189,Tryz.ntmps189
 go_wp2_with (go_at_call 181;refine HC.out.mono ?_;rintro e w1 ⟨rfl,hb1⟩)
 go_ret
 exact⟨rfl,HB.out.trans (hb1.mono HB.out.size)⟩
theorem has_c(v:Value)(ds:List Ag)(cs2:List Value)(d2:Ag)(f f2:List Addr)(w:World)(h:rSl 9 Ac w f v ds)(h2:Ac w f2 cs2 d2) :
  Calls Tryz.prog 139 #[v,.agg cs2.toArray] w fun e w' => e= .returned (.bool (ds.any fun x => decide (x=d2)))∧Below w.heap.size w w':=by
 have hB:Below w.heap.size w (w.alloc (.cells cs2.toArray 76)):=(Below.refl _ _).alloc (Nat.le_refl _) _;have hK:=Blk.new w 76 cs2.toArray;have HC:=hid (FA 9 (by omega) Tryz.sizeOf76 Tryz.isAgg76 (fun x => decide (x=d2)) 189 #[.pointer (some ⟨w.heap.size,0,none⟩)] v ds f (w.alloc (.cells cs2.toArray 76)) (enters_of Tryz.func189 (by kernel_rfl) rfl) (rSl.below Ac.local_ Ac.fixed h hB)
  (fun W cs fk j hj hW hR => has1_c 9 Tryz.sizeOf76 Tryz.isAgg76 cs cs2 ds[j] d2 fk f2 w.heap.size 76 W (Ac.wide _ _ _ _ hR) (Ac.wide _ _ _ _ h2) hR (Aw.below Ac.local_ Ac.fixed (Aw.below Ac.local_ Ac.fixed h2 hB) hW) (hK.below hW (by simp))))
 have HB:=hid hB;obtain⟨A,c,rfl,-⟩:=rSl.head h;clear h h2 hB hK;obtain⟨r,hr⟩:∃r,(ds.any fun x => decide (x=d2))=r:=⟨_,rfl⟩;rw[hr]at HC⊢;clear hr;go_enter Tryz.func139,Tryz.ntmps139
 go_wp2_with (go_at_call 110;refine HC.out.mono ?_;rintro e w1 ⟨rfl,hb1⟩)
 go_ret
 exact⟨rfl,HB.out.trans (hb1.mono HB.out.size)⟩
end Go.Proofs.YthbljikbnoghcaaGreat
