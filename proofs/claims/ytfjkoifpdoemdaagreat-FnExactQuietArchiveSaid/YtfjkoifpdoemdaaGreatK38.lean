/-
  Part 38 of the proof; the last part states and proves the statement.
-/
import Derived.Test.YtfjkoifpdoemdaaGreatK10
import Derived.Test.YtfjkoifpdoemdaaGreatK13
import Derived.Test.YtfjkoifpdoemdaaGreatK33
set_option maxHeartbeats 8000000
set_option maxRecDepth 100000
set_option linter.unusedVariables false
set_option linter.unusedSimpArgs false
open Go.Value (int)
open Go.IntKind (i64)
namespace Go.Proofs.YtfjkoifpdoemdaaGreat
open Go.RowKit Go.Lib Go.Sort
def C7(r q:Ag):Bool:=(decide (q.kind=3) && decide (q.seq=r.seq))||(decide (q.kind=4) && (decide (q.group=r.group) && (decide (q.row=r.row) && decide (r.seq<q.seq))))
def GX(s:Sh)(all:List Ag)(r:Ag):Bool:=(List.range s.c.toNat).all (fun j => CU all r.seq (s.g+(j:Int))) && CU all r.seq r.group
def Da(s:Sh)(all:List Ag)(r:Ag):Bool:=if r.kind=2 then GX s all r else all.any (C7 r)
theorem spent3_c(q:Ag)(cs:List Value)(f:List Addr)(b1:Nat)(r:Ag)(w:World)(h:Ac w f cs q)(h1:w.cell? ⟨b1,1,none⟩=some (int i64 r.seq))(h4:w.cell? ⟨b1,4,none⟩=some (int i64 r.group))(h5:w.cell? ⟨b1,5,none⟩=some (int i64 r.row)) :
  Calls Tryz.prog 219 #[.agg cs.toArray,.pointer (some ⟨b1,0,none⟩)] w fun e w' => e= .returned (.bool (C7 r q))∧Below w.heap.size w w':=by
 obtain⟨x0,x1,x2,x3,x4,x5,x6,x7,x8⟩:=q;obtain⟨r0,r1,r2,r3,r4,r5,r6,r7,r8⟩:=r;dsimp only[Ac]at h;obtain⟨v0,v1,v2,g0,g1,g2,e,-⟩:=h;subst e;simp only at h1 h4 h5;have hlt:=World.block_lt_of_cell? _ _ h1;simp only at hlt;have BB:=hid (fun(o:Obj) => show Below w.heap.size w (w.alloc o)from(Below.refl _ _).alloc (Nat.le_refl _) _);obtain⟨rb,hrb⟩:∃rb,C7 ⟨r0,r1,r2,r3,r4,r5,r6,r7,r8⟩ ⟨x0,x1,x2,x3,x4,x5,x6,x7,x8⟩=rb:=⟨_,rfl⟩;rw[hrb];unfold C7 at hrb;simp only at hrb;by_cases q3:x0=3
 ·by_cases qs:x1=r1
  ·have e1:rb=true:=by rw[← hrb];simp[q3,qs]
   subst e1;have hq:(x0 == 3)=true:=by simpa using q3
   have hs:(x1 == r1)=true:=by simpa using qs
   clear hrb q3 qs;go_enter Tryz.func219,Tryz.ntmps219
   go_wp2_with fail
   go_ret
   exact⟨rfl,BB.out _⟩
  ·have e1:rb=false:=by rw[← hrb];simp[q3,qs]
   subst e1;have hq:(x0 == 3)=true:=by simpa using q3
   have hs:(x1 == r1)=false:=by simpa using qs
   have hk:(x0 == 4)=false:=by rw[q3];rfl
   clear hrb q3 qs;go_enter Tryz.func219,Tryz.ntmps219
   go_wp2_with fail
   go_ret
   exact⟨rfl,BB.out _⟩
 ·have hq:(x0 == 3)=false:=by simpa using q3
  by_cases q4:x0=4
  ·have hk:(x0 == 4)=true:=by simpa using q4
   by_cases qg:x4=r4
   ·have hg:(x4 == r4)=true:=by simpa using qg
    by_cases qr:x5=r5
    ·have hr:(x5 == r5)=true:=by simpa using qr
     by_cases ql:r1<x1
     ·have e1:rb=true:=by rw[← hrb];simp[q4,qg,qr,ql]
      subst e1;have hl:decide (r1<x1)=true:=decide_eq_true ql;clear hrb q3 q4 qg qr;go_enter Tryz.func219,Tryz.ntmps219
      go_wp2_with fail
      go_ret
      exact⟨rfl,BB.out _⟩
     ·have e1:rb=false:=by rw[← hrb];simp[q4,qg,qr,ql]
      subst e1;have hl:decide (r1<x1)=false:=decide_eq_false ql;clear hrb q3 q4 qg qr;go_enter Tryz.func219,Tryz.ntmps219
      go_wp2_with fail
      go_ret
      exact⟨rfl,BB.out _⟩
    ·have e1:rb=false:=by rw[← hrb];simp[q3,qr]
     subst e1;have hr:(x5 == r5)=false:=by simpa using qr
     clear hrb q3 q4 qg qr;go_enter Tryz.func219,Tryz.ntmps219
     go_wp2_with fail
     go_ret
     exact⟨rfl,BB.out _⟩
   ·have e1:rb=false:=by rw[← hrb];simp[q3,qg]
    subst e1;have hg:(x4 == r4)=false:=by simpa using qg
    clear hrb q3 q4 qg;go_enter Tryz.func219,Tryz.ntmps219
    go_wp2_with fail
    go_ret
    exact⟨rfl,BB.out _⟩
  ·have e1:rb=false:=by rw[← hrb];simp[q3,q4]
   subst e1;have hk:(x0 == 4)=false:=by simpa using q4
   clear hrb q3 q4;go_enter Tryz.func219,Tryz.ntmps219
   go_wp2_with fail
   go_ret
   exact⟨rfl,BB.out _⟩
theorem GO(ks:Nat)(hks:ks=9)(zS:∀w,(Go.sizeOf 31).run Tryz.prog w= .ok ks w)(aS:∀w,(isAgg 31).run Tryz.prog w= .ok true w)(p:Nat)(fs:List Addr)(d:AC)(v:Value)(all:List Ag)(fa:List Addr)(r:Ag)(cs:List Value)(f:List Addr)(w:World)(h:AtW w p fs d)(hok:d.s.sh.Ok)(ha:rSl 9 Ac w fa v all)(hr:Ac w f cs r) :
  Calls Tryz.prog 217 #[.pointer (some ⟨p,0,none⟩),v,.agg cs.toArray] w fun e w' => e= .returned (.bool (GX d.s.sh all r))∧Below w.heap.size w w':=by
 obtain⟨A0,A1,A2,c0,c1,c2,f0,f1,f2,HC⟩:=h.cells;obtain⟨ng,hng⟩:∃ng:Nat,d.s.g=(ng:Int):=⟨d.s.g.toNat,by have:=hok.g.1;simp only[Ba.sh]at this;omega⟩;obtain⟨nc,hnc⟩:∃nc:Nat,d.s.c=(nc:Int):=⟨d.s.c.toNat,by have:=hok.c.1;simp only[Ba.sh]at this;omega⟩;have hg4:ng≤4:=by have:=hok.g.2;simp only[Ba.sh]at this;omega
 have hc2:nc≤2:=by have:=hok.c.2;simp only[Ba.sh]at this;omega
 obtain⟨r0,r1,r2,r3,r4,r5,r6,r7,r8⟩:=r;dsimp only[Ac]at hr;obtain⟨u0,u1,u2,q0,q1,q2,e,-⟩:=hr;subst e;obtain⟨A,c,rfl,-⟩:=rSl.head ha;obtain⟨g0,hg0⟩:∃g0,w.heap.size=g0:=⟨_,rfl⟩;obtain⟨W1,hW1⟩:∃W1,w.alloc (.cells #[int i64 r0,int i64 r1,.string r2,int i64 r3,int i64 r4,int i64 r5,u0,u1,u2] 119)=W1:=⟨_,rfl⟩;have hB1:Below g0 w W1:=by rw[← hW1,← hg0];exact Ah (Below.refl _ _) _
 have K1:Blk W1 g0 119 #[int i64 r0,int i64 r1,.string r2,int i64 r3,int i64 r4,int i64 r5,u0,u1,u2]:=by rw[← hW1,← hg0];exact Blk.new w _ _
 have n0:W1.cell? ⟨p,0,none⟩=some (int i64 (ng:Int)):=(hB1.cell (p:=⟨p,0,none⟩) (by rw[← hg0];exact HC.lt)).trans (by rw[← hng];exact HC.n0);have hp:p<g0:=by rw[← hg0];exact HC.lt
 have HRUN:=hid (show∀W,Below g0 w W→Sem.run Tryz.prog (loadCellsFrom ⟨p,0,none⟩ 0 ks #[]) W= .ok #[int i64 d.s.g,int i64 d.s.c,int i64 d.s.data,int i64 d.s.p,int i64 d.s.rows,int i64 d.s.cap,int i64 d.s.b,int i64 d.s.q,int i64 d.s.t] W from fun W hW => by
  obtain⟨A0',A1',A2',c0',c1',c2',f0',f1',f2',HC⟩:=(h.below (by rw[hg0];exact hW)).cells;exact HC.shapeRunQ ks hks)
 have HDN:=hid (fun(W:World) (hW:Below g0 w W) (k:Int) => isDone_c _ all fa r1 k W (rSl.below Ac.local_ Ac.fixed ha (by rw[hg0];exact hW)));have haa:=fun W => DV d.s.sh hok W
 unfold shV at haa;simp only[Ba.sh]at haa;rw[hng,hnc,show(ng:Int)+(nc:Int)=((ng+nc:Nat):Int) by omega]at haa;rw[hng,hnc]at HRUN;have HAA:=hid haa;have HB1:=hid hB1;have HK1:=hid K1;have HG:=hid hg0;have hks0:¬ks=0:=by omega
 have hks1:0<ks:=by omega
 have hset:GX d.s.sh all ⟨r0,r1,r2,r3,r4,r5,r6,r7,r8⟩=((List.range nc).all (fun j => CU all r1 ((ng:Int)+(j:Int))) && CU all r1 r4):=by
  unfold GX;simp only[Ba.sh,hng,hnc,Int.toNat_natCast]
 rw[hset];clear h ha HC haa hB1 K1 hks hok hset;go_enter Tryz.func217,Tryz.ntmps217
 go_wp2_with fail
 try rw[hW1]
 clear hg0 hW1;go_loopw [7] (fun ix wx =>∃j:Nat,j≤nc∧ix= int i64 ((ng+j:Nat):Int)∧Hid ((List.range j).all (fun j => CU all r1 ((ng:Int)+(j:Int)))=true)∧Hid (Below W1.heap.size W1 wx)) (fun ix _ =>(ng+nc) - (intOf ix).toNat)
 case atStart => exact⟨0,by omega,rfl,rfl,Below.refl _ _⟩
 case round =>
  obtain⟨j,hj,rfl,HAL,HB⟩:=hrel;have HBW:=hid (show Below g0 w wr from HB1.out.trans (HB.out.mono (by rw[← HG.out];exact HB1.out.size)));have k1:=HK1.out.below HB.out HK1.out.lt;have y1:wr.cell? ⟨g0,1,none⟩=some (int i64 r1):=(k1.cell 1).trans rfl;have y4:wr.cell? ⟨g0,4,none⟩=some (int i64 r4):=(k1.cell 4).trans rfl;have hz:=k1.lt;have y1r:=cell_regrown y1;have hpw:p<wr.heap.size:=by omega
  have lS:∀dd os,Sem.run Tryz.prog (loadCellsFrom ⟨p,0,none⟩ 0 ks #[]) (grow (redrawn wr dd) os)= .ok #[int i64 (ng:Int),int i64 (nc:Int),int i64 d.s.data,int i64 d.s.p,int i64 d.s.rows,int i64 d.s.cap,int i64 d.s.b,int i64 d.s.q,int i64 d.s.t] (grow (redrawn wr dd) os):=fun dd os => HRUN.out _ (HBW.out.trans ((below_regrown wr dd os).mono (by omega)))
  have l0:=HRUN.out wr HBW.out;by_cases hlt:j<nc
  ·have hji:((ng+j:Nat):Int)<((ng+nc:Nat):Int):=by omega
   have hjd:decide (((ng+j:Nat):Int)<((ng+nc:Nat):Int))=true:=decide_eq_true hji;obtain⟨bd,hbd⟩:∃bd,CU all r1 ((ng:Int)+(j:Int))=bd:=⟨_,rfl⟩;have HD:=hid (fun(W:World) (hW:Below wr.heap.size wr W) => show Calls Tryz.prog 276 #[.slice A all.length c,int i64 r1,int i64 ((ng+j:Nat):Int)] W fun e w' => e= .returned (.bool bd)∧Below W.heap.size W w' from by
    have:=HDN.out W (HBW.out.trans (hW.mono (by omega))) ((ng:Int)+(j:Int));rw[hbd]at this;rw[show((ng+j:Nat):Int)=(ng:Int)+(j:Int) by omega];exact this)
   have HBD:=hid hbd;clear hbd;cases bd with
   |true =>
    go_wp2_with (first
     |(go_at_call 101;refine(HAA.out _).mono ?_;rintro e w2 ⟨rfl,b2⟩;have y1':=(b2.cell (p:=⟨g0,1,none⟩) hz).trans y1;have HB2:=hid b2;have HD2:=hid (HD.out w2 b2);clear b2)
     |(go_at_call 276;refine HD2.out.mono ?_;rintro e w3 ⟨rfl,b3⟩;have HB3:=hid (HB2.out.trans (b3.mono HB2.out.size));clear b3))
    go_roundw
    case rel => exact⟨j+1,by omega,by go_num,(show List.all _ _=true by rw[List.range_succ,List.all_append,HAL.out];simp only[List.all_cons,List.all_nil,HBD.out];rfl),HB.out.trans (HB3.out.mono HB.out.size)⟩
    case measure => simp[intOf];omega
   |false =>
    have HNO:=hid (show(List.range nc).all (fun j => CU all r1 ((ng:Int)+(j:Int)))=false by
     rw[List.all_eq_false];exact⟨j,List.mem_range.2 hlt,by simp only[HBD.out];exact Bool.false_ne_true⟩)
    go_wp2_with (first
     |(go_at_call 101;refine(HAA.out _).mono ?_;rintro e w2 ⟨rfl,b2⟩;have y1':=(b2.cell (p:=⟨g0,1,none⟩) hz).trans y1;have HB2:=hid b2;have HD2:=hid (HD.out w2 b2);clear b2)
     |(go_at_call 276;refine HD2.out.mono ?_;rintro e w3 ⟨rfl,b3⟩;have HB3:=hid (HB2.out.trans (b3.mono HB2.out.size));clear b3))
    go_ret
    exact⟨by rw[HNO.out];rfl,by rw[HG.out];exact HBW.out.trans (HB3.out.mono (by omega))⟩
  ·obtain rfl:j=nc:=by omega
   have hjd:¬((ng+j:Nat):Int)<((ng+j:Nat):Int):=by omega
   have HD:=hid (fun(W:World) (hW:Below wr.heap.size wr W) => HDN.out W (HBW.out.trans (hW.mono (by omega))) r4);go_wp2_with (first
    |(go_at_call 101;refine(HAA.out _).mono ?_;rintro e w2 ⟨rfl,b2⟩;have y1':=(b2.cell (p:=⟨g0,1,none⟩) hz).trans y1;have y4':=(b2.cell (p:=⟨g0,4,none⟩) hz).trans y4;have HB2:=hid b2;have HD2:=hid (HD.out w2 b2);clear b2)
    |(go_at_call 276;refine HD2.out.mono ?_;rintro e w3 ⟨rfl,b3⟩;have HB3:=hid (HB2.out.trans (b3.mono HB2.out.size));clear b3))
   go_ret
   exact⟨by rw[HAL.out];rfl,by rw[HG.out];exact HBW.out.trans (HB3.out.mono (by omega))⟩
theorem spent_c(p:Nat)(fs:List Addr)(d:AC)(v:Value)(all:List Ag)(fa:List Addr)(i:Nat)(hi:i<all.length)(w:World)(h:AtW w p fs d)(hok:d.s.sh.Ok)(ha:rSl 9 Ac w fa v all)(hk:all[i].kind =2∨all[i].kind =4) :
  Calls Tryz.prog 127 #[.pointer (some ⟨p,0,none⟩),v,int i64 (i:Int)] w fun e w' => e= .returned (.bool (Da d.s.sh all all[i]))∧Below w.heap.size w w':=by
 obtain⟨A,c,rfl,hc,hm,hx⟩:=rSl.at_ Ac.fixed (by omega) ha;obtain⟨ad,b3,o3,cs3,f3,rfl,hat⟩:=hx i hi;have hpl3:=hat.place;have hbl3:b3<w.heap.size:=hat.lt;have hlen:cs3.length=9:=hat.len;have HRG:=hid (show w.rangeAt b3 o3 cs3 from fun q v hq => by
  have hq1:q<cs3.length:=(List.getElem?_eq_some_iff.1 hq).1;rw[hat.cell q hq1,← hq];exact(List.getElem?_eq_getElem hq1).symm)
 have HI:=hid (show(Tryz.prog.info? 119).map (·.size)=some cs3.length by rw[hlen];kernel_rfl);have HI2:=hid (show(Tryz.prog.info? 119).map (·.size)=some cs3.toArray.size by rw[List.size_toArray,hlen];kernel_rfl);have HON:=hid (all_oneCell_toArray (Ac.ones _ _ _ _ hat.reads));obtain⟨Z2,hZ2⟩:∃Z2:Array Value,#[int i64 0,int i64 0,.string ⟨#[]⟩,int i64 0,int i64 0,int i64 0,.slice none 0 0,.slice none 0 0,.slice none 0 0] =Z2:=⟨_,rfl⟩;have hZs:Z2.size=9:=by rw[← hZ2];rfl
 have KZ:=Blk.new w 119 Z2;have HTH:=hid (Blk.there KZ cs3.toArray.size (by rw[List.size_toArray,hlen,hZs];exact Nat.le_refl _));obtain⟨g0,hg0⟩:∃g0,w.heap.size=g0:=⟨_,rfl⟩;rw[hg0]at HTH;obtain⟨W2,hW2⟩:∃W2,(w.alloc (.cells Z2 119)).setCells g0 0 cs3.toArray.toList=W2:=⟨_,rfl⟩;rw[hg0]at KZ;have k2:Blk W2 g0 119 cs3.toArray:=by rw[← hW2];exact Blk.laid KZ _ (by rw[hZs];exact hlen.symm)
 have b22:Below w.heap.size w W2:=by rw[← hW2,← hg0];exact Aw (Ah (Below.refl _ _) _) _ 0 (Nat.le_refl _)
 have HW2:=hid hW2;have hgb:=k2.lt;obtain⟨x,hxe⟩:∃x,all[i] =x:=⟨_,rfl⟩;have hrx:=hat.reads;rw[hxe]at hrx hk⊢;have ha2:=rSl.below Ac.local_ Ac.fixed ha b22;have hDE:=GO 9 rfl Tryz.sizeOf31 Tryz.isAgg31 p fs d _ all fa x cs3 f3 W2 (h.below b22) hok ha2 (Ap.below Ac.local_ Ac.fixed hrx b22);have HDE:=hid hDE;have hr2:=hrx;dsimp only[Ac]at hr2;obtain⟨u0,u1,u2,q0,q1,q2,e,-⟩:=hr2;have y0:W2.cell? ⟨g0,0,none⟩=some (int i64 x.kind):=by rw[k2.cell,e];rfl
 have HCF:=hid (El 9 (by omega) Tryz.sizeOf119 Tryz.isAgg119 (C7 x) 219 #[.pointer (some ⟨g0,0,none⟩)] _ all fa W2 (enters_of Tryz.func219 (by kernel_rfl) rfl) ha2
  (fun W cs fk j hj hW hR => spent3_c all[j] cs fk g0 x W hR (((k2.below hW hgb).cell 1).trans (by rw[e];rfl)) (((k2.below hW hgb).cell 4).trans (by rw[e];rfl)) (((k2.below hW hgb).cell 5).trans (by rw[e];rfl))))
 have HRG2:=hid (Blk.rangeAll k2);have HB2:=hid b22;have HG:=hid hg0;have hii:(i:Int)<(all.length:Int):=by omega
 obtain⟨rb,hrb⟩:∃rb,Da d.s.sh all x=rb:=⟨_,rfl⟩;rw[hrb];unfold Da at hrb;clear h ha hat hx hW2 KZ hZs k2 b22 hrx ha2 hDE e hlen hok hxe;by_cases q2:x.kind=2
 ·rw[if_pos q2]at hrb;rw[hrb]at HDE;rw[q2]at y0;clear hk hrb q2 HCF;go_enter Tryz.func127,Tryz.ntmps127
  go_wp2_with (first
   |(refine wpList_load_mid rfl 119 (.tmp 10) rfl b3 o3 rfl cs3 _ HRG.out Tryz.underlying119 rfl HI.out ?_)
   |(refine wpList_store_mid rfl 119 (.tmp 7) (.tmp 11) rfl g0 0 cs3.toArray rfl rfl HTH.out HI2.out HON.out ?_;rw[HW2.out])
   |(refine wpList_load_mid rfl 119 (.tmp 7) rfl g0 0 rfl cs3 _ HRG2.out Tryz.underlying119 rfl HI.out ?_)
   |(go_at_call 217;refine HDE.out.mono ?_;rintro e w3 ⟨rfl,b3⟩;have HB3:=hid b3;clear b3))
  go_ret
  exact⟨rfl,HB2.out.trans (HB3.out.mono HB2.out.size)⟩
 ·rw[if_neg q2]at hrb;have q4:x.kind=4:=hk.resolve_left q2;rw[hrb]at HCF;rw[q4]at y0;clear hk hrb q2 HDE q4;go_enter Tryz.func127,Tryz.ntmps127
  go_wp2_with (first
   |(refine wpList_load_mid rfl 119 (.tmp 10) rfl b3 o3 rfl cs3 _ HRG.out Tryz.underlying119 rfl HI.out ?_)
   |(refine wpList_store_mid rfl 119 (.tmp 7) (.tmp 11) rfl g0 0 cs3.toArray rfl rfl HTH.out HI2.out HON.out ?_;rw[HW2.out])
   |(go_at_call 215;refine HCF.out.mono ?_;rintro e w3 ⟨rfl,b3⟩;have HB3:=hid b3;clear b3))
  go_ret
  exact⟨rfl,HB2.out.trans (HB3.out.mono HB2.out.size)⟩
theorem Ka(s:Sh)(hok:s.Ok)(v:Value)(all:List Ag)(fa:List Addr)(r:Ag)(cs:List Value)(f:List Addr)(w:World)(ha:rSl 9 Ac w fa v all)(hr:Ac w f cs r) :
  Calls Tryz.prog 198 #[shV s,v,.agg cs.toArray] w fun e w' => e= .returned (.bool (GX s all r))∧Below w.heap.size w w':=by
 obtain⟨nc,hnc⟩:∃nc:Nat,s.c=(nc:Int):=⟨s.c.toNat,by have:=hok.c.1;omega⟩;obtain⟨ng,hng⟩:∃ng:Nat,s.g=(ng:Int):=⟨s.g.toNat,by have:=hok.g.1;omega⟩;have hg4:ng≤4:=by have:=hok.g.2;omega
 have hc2:nc≤2:=by have:=hok.c.2;omega
 dsimp only[Ac]at hr;obtain⟨u0,u1,u2,q0,q1,q2,e,-⟩:=hr;subst e;obtain⟨A,c,rfl,-⟩:=rSl.head ha;obtain⟨g0,hg0⟩:∃g0,w.heap.size=g0:=⟨_,rfl⟩;obtain⟨W1,hW1⟩:∃W1,(w.alloc (.cells #[int i64 s.g,int i64 s.c,int i64 s.data,int i64 s.p,int i64 s.rows,int i64 s.cap,int i64 s.b,int i64 s.q,int i64 s.t] 31)).alloc (.cells #[int i64 r.kind,int i64 r.seq,.string r.name,int i64 r.length,int i64 r.group,int i64 r.row,u0,u1,u2] 119)=W1:=⟨_,rfl⟩;have hB1:Below g0 w W1:=by rw[← hW1,← hg0];exact Ah (Ah (Below.refl _ _) _) _
 have K0:Blk W1 g0 31 #[int i64 s.g,int i64 s.c,int i64 s.data,int i64 s.p,int i64 s.rows,int i64 s.cap,int i64 s.b,int i64 s.q,int i64 s.t]:=by rw[← hW1,← hg0];exact(Blk.new w _ _).alloc _
 have K1:Blk W1 (g0+1) 119 #[int i64 r.kind,int i64 r.seq,.string r.name,int i64 r.length,int i64 r.group,int i64 r.row,u0,u1,u2]:=by rw[← hW1,← hg0];exact Blk.new1 w _ _ _
 have HDN:=hid (fun(W:World) (hW:Below g0 w W) (k:Int) => l6Done_c _ all fa r.seq k W (rSl.below Ac.local_ Ac.fixed ha (by rw[hg0];exact hW)));have haa:=fun W => Dz s hok W
 unfold shV at haa⊢;rw[hng,hnc,show(ng:Int)+(nc:Int)=((ng+nc:Nat):Int) by omega]at haa;have y1:W1.cell? ⟨g0+1,1,none⟩=some (int i64 r.seq):=(K1.cell 1).trans rfl;have y4:W1.cell? ⟨g0+1,4,none⟩=some (int i64 r.group):=(K1.cell 4).trans rfl;rw[hng,hnc]at K0 hW1⊢;have z0:W1.cell? ⟨g0,0,none⟩=some (int i64 (ng:Int)):=(K0.cell 0).trans rfl;have HAA:=hid haa;have HB1:=hid hB1;have HK0:=hid K0;have HK1:=hid K1;have HG:=hid hg0;have hset:GX s all r=(CU all r.seq r.group && (List.range nc).all (fun j => CU all r.seq ((ng:Int)+(j:Int)))):=by
  unfold GX;rw[hng,hnc,Int.toNat_natCast,Bool.and_comm]
 rw[hset];obtain⟨bg,hbg⟩:∃bg,CU all r.seq r.group=bg:=⟨_,rfl⟩;have hd0:=HDN.out W1 hB1 r.group;rw[hbg]at hd0;have HD0:=hid hd0;rw[hbg];clear ha haa hB1 K0 K1 hok hset hbg hd0;go_enter Tryz.func198,Tryz.ntmps198
 go_wp2_with (go_at_call 236;refine HD0.out.mono ?_;rintro e w2 ⟨rfl,rfl⟩)
 clear hg0 hW1;go_loopw [8,7] (fun ix ov wx =>∃j:Nat,j≤nc∧ix= int i64 ((ng+j:Nat):Int)∧ov= .bool (bg && (List.range j).all (fun j => CU all r.seq ((ng:Int)+(j:Int))))∧Hid (Below W1.heap.size W1 wx)) (fun ix _ _ =>(ng+nc) - (intOf ix).toNat)
 case atStart => exact⟨0,by omega,rfl,by simp,Below.refl _ _⟩
 case round =>
  obtain⟨j,hj,rfl,rfl,HB⟩:=hrel;have HBW:=hid (show Below g0 w wr from HB1.out.trans (HB.out.mono (by rw[← HG.out];exact HB1.out.size)));have k1:=HK1.out.below HB.out HK1.out.lt;have k0:=HK0.out.below HB.out HK0.out.lt;have y1w:wr.cell? ⟨g0+1,1,none⟩=some (int i64 r.seq):=(k1.cell 1).trans rfl;have hz:=k1.lt;have HRS:=hid (Blk.rangeAll k0);obtain⟨bo,hbo⟩:∃bo,(bg && (List.range j).all (fun j => CU all r.seq ((ng:Int)+(j:Int))))=bo:=⟨_,rfl⟩;have HBO:=hid hbo;rw[hbo];clear k0 k1 hbo;by_cases hlt:j<nc
  ·have hji:((ng+j:Nat):Int)<((ng+nc:Nat):Int):=by omega
   have hjd:decide (((ng+j:Nat):Int)<((ng+nc:Nat):Int))=true:=decide_eq_true hji;obtain⟨bd,hbd⟩:∃bd,CU all r.seq ((ng:Int)+(j:Int))=bd:=⟨_,rfl⟩;have HD:=hid (fun(W:World) (hW:Below wr.heap.size wr W) => show Calls Tryz.prog 236 #[.slice A all.length c,int i64 r.seq,int i64 ((ng+j:Nat):Int)] W fun e w' => e= .returned (.bool bd)∧W=w' from by
    have:=HDN.out W (HBW.out.trans (hW.mono (by omega))) ((ng:Int)+(j:Int));rw[hbd]at this;rw[show((ng+j:Nat):Int)=(ng:Int)+(j:Int) by omega];exact this)
   have HST:=hid (show(bg && (List.range (j+1)).all (fun j => CU all r.seq ((ng:Int)+(j:Int))))=(bo && bd) by
    rw[List.range_succ,List.all_append,← Bool.and_assoc,HBO.out];simp only[List.all_cons,List.all_nil,hbd,Bool.and_true])
   clear hbd;cases bo with
   |true =>
    go_wp2_with (first
     |(refine wpList_load_mid rfl 31 (.tmp 3) rfl g0 0 rfl _ _ HRS.out Tryz.underlying31 rfl (by kernel_rfl) ?_)
     |(go_at_call 37;refine(HAA.out _).mono ?_;rintro e w2 ⟨rfl,b2⟩;have y1':=(b2.cell (p:=⟨g0+1,1,none⟩) hz).trans y1w;have HB2:=hid b2;have HD2:=hid (HD.out w2 b2);clear b2)
     |(go_at_call 236;refine HD2.out.mono ?_;rintro e w3 ⟨rfl,rfl⟩))
    go_roundw
    case rel => exact⟨j+1,by omega,by go_num,by rw[HST.out];rfl,HB.out.trans (HB2.out.mono HB.out.size)⟩
    case measure => simp[intOf];omega
   |false =>
    go_wp2_with (first
     |(refine wpList_load_mid rfl 31 (.tmp 3) rfl g0 0 rfl _ _ HRS.out Tryz.underlying31 rfl (by kernel_rfl) ?_)
     |(go_at_call 37;refine(HAA.out _).mono ?_;rintro e w2 ⟨rfl,b2⟩;have y1':=(b2.cell (p:=⟨g0+1,1,none⟩) hz).trans y1w;have HB2:=hid b2;clear b2))
    go_roundw
    case rel => exact⟨j+1,by omega,by go_num,by rw[HST.out];rfl,HB.out.trans (HB2.out.mono HB.out.size)⟩
    case measure => simp[intOf];omega
  ·obtain rfl:j=nc:=by omega
   have hjd:¬((ng+j:Nat):Int)<((ng+j:Nat):Int):=by omega
   go_wp2_with (first
    |(refine wpList_load_mid rfl 31 (.tmp 3) rfl g0 0 rfl _ _ HRS.out Tryz.underlying31 rfl (by kernel_rfl) ?_)
    |(go_at_call 37;refine(HAA.out _).mono ?_;rintro e w2 ⟨rfl,b2⟩;have HB2:=hid b2;clear b2))
   go_ret
   exact⟨by rw[HBO.out];rfl,by rw[HG.out];exact HBW.out.trans (HB2.out.mono (by omega))⟩
end Go.Proofs.YtfjkoifpdoemdaaGreat
