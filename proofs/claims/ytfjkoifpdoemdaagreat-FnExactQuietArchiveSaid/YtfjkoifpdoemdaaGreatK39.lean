/-
  Part 39 of the proof; the last part states and proves the statement.
-/
import Derived.Test.YtfjkoifpdoemdaaGreatK10
import Derived.Test.YtfjkoifpdoemdaaGreatK38
set_option maxHeartbeats 8000000
set_option maxRecDepth 100000
set_option linter.unusedVariables false
set_option linter.unusedSimpArgs false
open Go.Value (int)
open Go.IntKind (i64)
namespace Go.Proofs.YtfjkoifpdoemdaaGreat
open Go.RowKit Go.Lib Go.Sort
theorem H9 {α:Type} {p:α→Bool} {L:List α} {i:Nat}(h:i<L.length)(h0:(L.take i).any p=false):(L.take (i+1)).any p=p L[i]:=by
 rw[List.take_succ_eq_append_getElem h,List.any_append,h0];simp
theorem J9(s:Sh)(hok:s.Ok)(v:Value)(all:List Ag)(fa:List Addr)(i:Nat)(hi:i<all.length)(w:World)(hsm:all.length≤1000000)(ha:rSl 9 Ac w fa v all)(hk:all[i].kind =2∨all[i].kind =4) :
  Calls Tryz.prog 118 #[shV s,v,int i64 (i:Int)] w fun e w' => e= .returned (.bool (Da s all all[i]))∧Below w.heap.size w w':=by
 have ha0:=ha;obtain⟨A,c,rfl,hc,hm,hx⟩:=rSl.at_ Ac.fixed (by omega) ha;have HX:=hid hx;obtain⟨ad,b3,o3,cs3,f3,rfl,hat⟩:=hx i hi;have hpl3:=hat.place;have hbl3:b3<w.heap.size:=hat.lt;have hlen:cs3.length=9:=hat.len;have HI:=hid (show(Tryz.prog.info? 119).map (·.size)=some cs3.length by rw[hlen];kernel_rfl);have HI2:=hid (show(Tryz.prog.info? 119).map (·.size)=some cs3.toArray.size by rw[List.size_toArray,hlen];kernel_rfl);have HON:=hid (all_oneCell_toArray (Ac.ones _ _ _ _ hat.reads));obtain⟨Z2,hZ2⟩:∃Z2:Array Value,#[int i64 0,int i64 0,.string ⟨#[]⟩,int i64 0,int i64 0,int i64 0,.slice none 0 0,.slice none 0 0,.slice none 0 0] =Z2:=⟨_,rfl⟩;have hZs:Z2.size=9:=by rw[← hZ2];rfl
 obtain⟨g0,hg0⟩:∃g0,w.heap.size=g0:=⟨_,rfl⟩;obtain⟨W0,hW0⟩:∃W0,w.alloc (.cells #[int i64 s.g,int i64 s.c,int i64 s.data,int i64 s.p,int i64 s.rows,int i64 s.cap,int i64 s.b,int i64 s.q,int i64 s.t] 31)=W0:=⟨_,rfl⟩;have z0:W0.heap.size=g0+1:=by rw[← hW0,← hg0];simp
 have b0:Below w.heap.size w W0:=by rw[← hW0];exact Ah (Below.refl _ _) _
 have K0:Blk W0 g0 31 #[int i64 s.g,int i64 s.c,int i64 s.data,int i64 s.p,int i64 s.rows,int i64 s.cap,int i64 s.b,int i64 s.q,int i64 s.t]:=by rw[← hW0,← hg0];exact Blk.new w _ _
 have hat0:=hat.below Ac.local_ b0;have HRG:=hid (show W0.rangeAt b3 o3 cs3 from fun q v hq => by
  have hq1:q<cs3.length:=(List.getElem?_eq_some_iff.1 hq).1;rw[hat0.cell q hq1,← hq];exact(List.getElem?_eq_getElem hq1).symm)
 have KZ:=Blk.new W0 119 Z2;rw[z0]at KZ;have HTH:=hid (Blk.there KZ cs3.toArray.size (by rw[List.size_toArray,hlen,hZs];exact Nat.le_refl _));obtain⟨W2,hW2⟩:∃W2,(W0.alloc (.cells Z2 119)).setCells (g0+1) 0 cs3.toArray.toList=W2:=⟨_,rfl⟩;have k2:Blk W2 (g0+1) 119 cs3.toArray:=by rw[← hW2];exact Blk.laid KZ _ (by rw[hZs];exact hlen.symm)
 have b02:Below W0.heap.size W0 W2:=by rw[← hW2];exact Aw (Ah (Below.refl _ _) _) _ 0 (by omega)
 have b22:Below w.heap.size w W2:=b0.trans (b02.mono b0.size);have K02:=K0.below b02 K0.lt;have HW2:=hid hW2;have hgb:=k2.lt;obtain⟨x,hxe⟩:∃x,all[i] =x:=⟨_,rfl⟩;have hrx:=hat.reads;rw[hxe]at hrx hk⊢;have ha2:=rSl.below Ac.local_ Ac.fixed ha0 b22;have hDE:=Ka s hok _ all fa x cs3 f3 W2 ha2 (Ap.below Ac.local_ Ac.fixed hrx b22);unfold shV at hDE⊢;have HDE:=hid hDE;have hr2:=hrx;dsimp only[Ac]at hr2;obtain⟨u0,u1,u2,q0,q1,q2,e,-⟩:=hr2;have y0:W2.cell? ⟨g0+1,0,none⟩=some (int i64 x.kind):=by rw[k2.cell,e];rfl
 have HY:=hid (show W2.cell? ⟨g0+1,1,none⟩=some (int i64 x.seq)∧W2.cell? ⟨g0+1,4,none⟩=some (int i64 x.group)∧W2.cell? ⟨g0+1,5,none⟩=some (int i64 x.row)from⟨by rw[k2.cell,e];rfl,by rw[k2.cell,e];rfl,by rw[k2.cell,e];rfl⟩);have HRG2:=hid (Blk.rangeAll k2);have HRS:=hid (Blk.rangeAll K02);have HB2:=hid b22;have HG:=hid hg0;have hii:(i:Int)<(all.length:Int):=by omega
 obtain⟨rb,hrb⟩:∃rb,Da s all x=rb:=⟨_,rfl⟩;rw[hrb];unfold Da at hrb;clear ha ha0 hat hat0 hx hW2 KZ hZs k2 b22 b02 b0 K0 K02 hrx ha2 hDE e hlen hok hxe;by_cases q2:x.kind=2
 ·rw[if_pos q2]at hrb;rw[hrb]at HDE;rw[q2]at y0;clear hk hrb q2 HX;go_enter Tryz.func118,Tryz.ntmps118
  go_wp2_with (first
   |(refine wpList_load_mid rfl 119 (.tmp 12) rfl b3 o3 rfl cs3 _ HRG.out Tryz.underlying119 rfl HI.out ?_)
   |(refine wpList_store_mid rfl 119 (.tmp 7) (.tmp 13) rfl (g0+1) 0 cs3.toArray rfl rfl HTH.out HI2.out HON.out ?_;rw[HW2.out])
   |(refine wpList_load_mid rfl 119 (.tmp 7) rfl (g0+1) 0 rfl cs3 _ HRG2.out Tryz.underlying119 rfl HI.out ?_)
   |(refine wpList_load_mid rfl 31 (.tmp 3) rfl g0 0 rfl _ _ HRS.out Tryz.underlying31 rfl (by kernel_rfl) ?_)
   |(go_at_call 198;refine HDE.out.mono ?_;rintro e w3 ⟨rfl,b3⟩;have HB3:=hid b3;clear b3))
  go_ret
  exact⟨rfl,HB2.out.trans (HB3.out.mono HB2.out.size)⟩
 ·rw[if_neg q2]at hrb;have q4:x.kind=4:=hk.resolve_left q2;rw[q4]at y0;have HRB:=hid hrb;clear hk hrb q2 HDE q4;go_enter Tryz.func118,Tryz.ntmps118
  go_wp2_with (first
   |(refine wpList_load_mid rfl 119 (.tmp 12) rfl b3 o3 rfl cs3 _ HRG.out Tryz.underlying119 rfl HI.out ?_)
   |(refine wpList_store_mid rfl 119 (.tmp 7) (.tmp 13) rfl (g0+1) 0 cs3.toArray rfl rfl HTH.out HI2.out HON.out ?_;rw[HW2.out]))
  have HLP:=hid (show∀j,(hj:j<all.length)→∃ad' b o cs fk,some ad=some ad'∧At 9 Ac W2 fa ad' j b o cs fk all[j]from fun j hj => by
   obtain⟨ad',b,o,cs,fk,e1,e2⟩:=HX.out j hj;exact⟨ad',b,o,cs,fk,e1,e2.below Ac.local_ HB2.out⟩)
  clear HX HRG HRG2 HRS HTH HI HI2 HON;try clear hZ2
  try clear hW0
  try clear hg0
  try clear z0
  go_loopw [8] (fun ix wx =>∃k:Nat,k≤all.length∧ix= int i64 k∧Hid ((all.take k).any (C7 x)=false)∧Hid (Below W2.heap.size W2 wx)) (fun ix _ => all.length - (intOf ix).toNat)
  case atStart => exact⟨0,by omega,rfl,rfl,Below.refl _ _⟩
  case round =>
   obtain⟨k,hk,rfl,HAN,HB⟩:=hrel;have hbz:=HB.out.size;by_cases hlt:k<all.length
   ·obtain⟨ad',bk,ok,csk,fk,hae,hatk0⟩:=HLP.out k hlt;injection hae with hae
    subst hae;have hatk:=hatk0.below Ac.local_ HB.out;have hplk:=hatk.place;have hblk:bk<wr.heap.size:=hatk.lt;have hlenk:csk.length=9:=hatk.len;have HRGK:=hid (show wr.rangeAt bk ok csk from fun q v hq => by
     have hq1:q<csk.length:=(List.getElem?_eq_some_iff.1 hq).1;rw[hatk.cell q hq1,← hq];exact(List.getElem?_eq_getElem hq1).symm)
    have HIK:=hid (show(Tryz.prog.info? 119).map (·.size)=some csk.length by rw[hlenk];kernel_rfl);have HI2K:=hid (show(Tryz.prog.info? 119).map (·.size)=some csk.toArray.size by rw[List.size_toArray,hlenk];kernel_rfl);have HONK:=hid (all_oneCell_toArray (Ac.ones _ _ _ _ hatk.reads));obtain⟨Z3,hZ3⟩:∃Z3:Array Value,#[int i64 0,int i64 0,.string ⟨#[]⟩,int i64 0,int i64 0,int i64 0,.slice none 0 0,.slice none 0 0,.slice none 0 0] =Z3:=⟨_,rfl⟩;have hZs3:Z3.size=9:=by rw[← hZ3];rfl
    have KZ3:=Blk.new wr 119 Z3;have HTHK:=hid (Blk.there KZ3 csk.toArray.size (by rw[List.size_toArray,hlenk,hZs3];exact Nat.le_refl _));obtain⟨W4,hW4⟩:∃W4,(wr.alloc (.cells Z3 119)).setCells wr.heap.size 0 csk.toArray.toList=W4:=⟨_,rfl⟩;have k4:Blk W4 wr.heap.size 119 csk.toArray:=by rw[← hW4];exact Blk.laid KZ3 _ (by rw[hZs3];exact hlenk.symm)
    have b44:Below wr.heap.size wr W4:=by rw[← hW4];exact Aw (Ah (Below.refl _ _) _) _ 0 (Nat.le_refl _)
    have HW4:=hid hW4;have hgb4:=k4.lt;have hrk:=hatk.reads;obtain⟨y,hye⟩:∃y,all[k] =y:=⟨_,rfl⟩;have HST:=hid (H9 (p:=C7 x) hlt HAN.out);have HMEM:=hid (show y∈all by rw[← hye];exact List.getElem_mem hlt);rw[hye]at hrk HST;dsimp only[Ac]at hrk;obtain⟨t0,t1,t2,p0,p1,p2,e4,-⟩:=hrk;have b24:Below W2.heap.size W2 W4:=HB.out.trans (b44.mono hbz);have x0:W4.cell? ⟨g0+1,0,none⟩=some (int i64 4):=(b24.cell (p:=⟨g0+1,0,none⟩) hgb).trans y0;have x1:W4.cell? ⟨g0+1,1,none⟩=some (int i64 x.seq):=(b24.cell (p:=⟨g0+1,1,none⟩) hgb).trans HY.out.1;have x4:W4.cell? ⟨g0+1,4,none⟩=some (int i64 x.group):=(b24.cell (p:=⟨g0+1,4,none⟩) hgb).trans HY.out.2.1;have x5:W4.cell? ⟨g0+1,5,none⟩=some (int i64 x.row):=(b24.cell (p:=⟨g0+1,5,none⟩) hgb).trans HY.out.2.2;have v0:W4.cell? ⟨wr.heap.size,0,none⟩=some (int i64 y.kind):=by rw[k4.cell,e4];rfl
    have v1:W4.cell? ⟨wr.heap.size,1,none⟩=some (int i64 y.seq):=by rw[k4.cell,e4];rfl
    have v4:W4.cell? ⟨wr.heap.size,4,none⟩=some (int i64 y.group):=by rw[k4.cell,e4];rfl
    have v5:W4.cell? ⟨wr.heap.size,5,none⟩=some (int i64 y.row):=by rw[k4.cell,e4];rfl
    have hki:(k:Int)<(all.length:Int):=by omega
    have HB4:=hid b24;have hg4:g0+1<W4.heap.size:=Nat.lt_of_lt_of_le hgb b24.size;clear hatk hatk0 hW4 KZ3 hlenk hZs3 k4 b44 b24 e4 hye HB;have HYES:=hid (show C7 x y=true→rb=true from fun h => by rw[← HRB.out];exact List.any_eq_true.2 ⟨y,HMEM.out,h⟩);by_cases q3:y.kind=3
    ·have hq:(y.kind == 3)=true:=by simpa using q3
     by_cases qs:y.seq=x.seq
     ·have e1:rb=true:=HYES.out (by unfold C7;simp[q3,qs]);subst e1;have hs:(y.seq == x.seq)=true:=by simpa using qs
      clear q3 qs HYES HRB;go_upto_region 10 with(first
       |(refine wpList_load_mid rfl 119 (.tmp 38) rfl bk ok rfl csk _ HRGK.out Tryz.underlying119 rfl HIK.out ?_)
       |(refine wpList_store_mid rfl 119 (.tmp 9) (.tmp 39) rfl wr.heap.size 0 csk.toArray rfl rfl HTHK.out HI2K.out HONK.out ?_;rw[HW4.out]))
      clear HRGK HIK HI2K HONK HTHK HW4;go_wp2_with fail
      go_ret
      exact⟨rfl,HB2.out.trans (HB4.out.mono HB2.out.size)⟩
     ·have hs:(y.seq == x.seq)=false:=by simpa using qs
      have hk4:(y.kind == 4)=false:=by rw[q3];rfl
      have HNF:C7 x y=false:=by unfold C7;simp[q3,qs]
      rw[HNF]at HST;clear q3 qs HYES HNF;go_upto_region 10 with(first
       |(refine wpList_load_mid rfl 119 (.tmp 38) rfl bk ok rfl csk _ HRGK.out Tryz.underlying119 rfl HIK.out ?_)
       |(refine wpList_store_mid rfl 119 (.tmp 9) (.tmp 39) rfl wr.heap.size 0 csk.toArray rfl rfl HTHK.out HI2K.out HONK.out ?_;rw[HW4.out]))
      clear HRGK HIK HI2K HONK HTHK HW4;go_wp2_with fail
      go_roundw
      case rel => exact⟨k+1,by omega,by go_num,HST.out,HB4.out⟩
      case measure => simp[intOf];omega
    ·have hq:(y.kind == 3)=false:=by simpa using q3
     by_cases q4:y.kind=4
     ·have hk4:(y.kind == 4)=true:=by simpa using q4
      by_cases qg:y.group=x.group
      ·have hg:(y.group == x.group)=true:=by simpa using qg
       by_cases qr:y.row=x.row
       ·have hr:(y.row == x.row)=true:=by simpa using qr
        by_cases ql:x.seq<y.seq
        ·have e1:rb=true:=HYES.out (by unfold C7;simp[q4,qg,qr,ql]);subst e1;have hl:decide (x.seq<y.seq)=true:=decide_eq_true ql;clear q3 q4 qg qr HYES HRB;go_upto_region 10 with(first
          |(refine wpList_load_mid rfl 119 (.tmp 38) rfl bk ok rfl csk _ HRGK.out Tryz.underlying119 rfl HIK.out ?_)
          |(refine wpList_store_mid rfl 119 (.tmp 9) (.tmp 39) rfl wr.heap.size 0 csk.toArray rfl rfl HTHK.out HI2K.out HONK.out ?_;rw[HW4.out]))
         clear HRGK HIK HI2K HONK HTHK HW4;go_wp2_with fail
         go_ret
         exact⟨rfl,HB2.out.trans (HB4.out.mono HB2.out.size)⟩
        ·have hl:decide (x.seq<y.seq)=false:=decide_eq_false ql;have HNF:C7 x y=false:=by unfold C7;simp[q4,ql]
         rw[HNF]at HST;clear q3 q4 qg qr HYES HNF;go_upto_region 10 with(first
          |(refine wpList_load_mid rfl 119 (.tmp 38) rfl bk ok rfl csk _ HRGK.out Tryz.underlying119 rfl HIK.out ?_)
          |(refine wpList_store_mid rfl 119 (.tmp 9) (.tmp 39) rfl wr.heap.size 0 csk.toArray rfl rfl HTHK.out HI2K.out HONK.out ?_;rw[HW4.out]))
         clear HRGK HIK HI2K HONK HTHK HW4;go_wp2_with fail
         go_roundw
         case rel => exact⟨k+1,by omega,by go_num,HST.out,HB4.out⟩
         case measure => simp[intOf];omega
       ·have hr:(y.row == x.row)=false:=by simpa using qr
        have HNF:C7 x y=false:=by unfold C7;simp[q3,qr]
        rw[HNF]at HST;clear q3 q4 qg qr HYES HNF;go_upto_region 10 with(first
         |(refine wpList_load_mid rfl 119 (.tmp 38) rfl bk ok rfl csk _ HRGK.out Tryz.underlying119 rfl HIK.out ?_)
         |(refine wpList_store_mid rfl 119 (.tmp 9) (.tmp 39) rfl wr.heap.size 0 csk.toArray rfl rfl HTHK.out HI2K.out HONK.out ?_;rw[HW4.out]))
        clear HRGK HIK HI2K HONK HTHK HW4;go_wp2_with fail
        go_roundw
        case rel => exact⟨k+1,by omega,by go_num,HST.out,HB4.out⟩
        case measure => simp[intOf];omega
      ·have hg:(y.group == x.group)=false:=by simpa using qg
       have HNF:C7 x y=false:=by unfold C7;simp[q3,qg]
       rw[HNF]at HST;clear q3 q4 qg HYES HNF;go_upto_region 10 with(first
        |(refine wpList_load_mid rfl 119 (.tmp 38) rfl bk ok rfl csk _ HRGK.out Tryz.underlying119 rfl HIK.out ?_)
        |(refine wpList_store_mid rfl 119 (.tmp 9) (.tmp 39) rfl wr.heap.size 0 csk.toArray rfl rfl HTHK.out HI2K.out HONK.out ?_;rw[HW4.out]))
       clear HRGK HIK HI2K HONK HTHK HW4;go_wp2_with fail
       go_roundw
       case rel => exact⟨k+1,by omega,by go_num,HST.out,HB4.out⟩
       case measure => simp[intOf];omega
     ·have hk4:(y.kind == 4)=false:=by simpa using q4
      have HNF:C7 x y=false:=by unfold C7;simp[q3,q4]
      rw[HNF]at HST;clear q3 q4 HYES HNF;go_upto_region 10 with(first
       |(refine wpList_load_mid rfl 119 (.tmp 38) rfl bk ok rfl csk _ HRGK.out Tryz.underlying119 rfl HIK.out ?_)
       |(refine wpList_store_mid rfl 119 (.tmp 9) (.tmp 39) rfl wr.heap.size 0 csk.toArray rfl rfl HTHK.out HI2K.out HONK.out ?_;rw[HW4.out]))
      clear HRGK HIK HI2K HONK HTHK HW4;go_wp2_with fail
      go_roundw
      case rel => exact⟨k+1,by omega,by go_num,HST.out,HB4.out⟩
      case measure => simp[intOf];omega
   ·obtain rfl:k=all.length:=by omega
    have hno:=HAN.out;rw[List.take_length,HRB.out]at hno;subst hno;have x0:wr.cell? ⟨g0+1,0,none⟩=some (int i64 4):=(HB.out.cell (p:=⟨g0+1,0,none⟩) hgb).trans y0;have hg4:g0+1<wr.heap.size:=Nat.lt_of_lt_of_le hgb HB.out.size;go_wp2_with fail
    go_ret
    exact⟨rfl,HB2.out.trans (HB.out.mono HB2.out.size)⟩
end Go.Proofs.YtfjkoifpdoemdaaGreat
