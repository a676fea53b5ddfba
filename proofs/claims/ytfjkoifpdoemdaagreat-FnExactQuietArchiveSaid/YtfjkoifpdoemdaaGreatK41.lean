/-
  Part 41 of the proof; the last part states and proves the statement.
-/
import Derived.Test.YtfjkoifpdoemdaaGreatK40
import Derived.Test.YtfjkoifpdoemdaaGreatK37
import Derived.Test.YtfjkoifpdoemdaaGreatK39
set_option maxHeartbeats 8000000
set_option maxRecDepth 100000
set_option linter.unusedVariables false
set_option linter.unusedSimpArgs false
open Go.Value (int)
open Go.IntKind (i64)
namespace Go.Proofs.YtfjkoifpdoemdaaGreat
open Go.RowKit Go.Lib Go.Sort
theorem Kk(d:AY)(p:Nat)(fs:List Addr)(w:World)(h:AtW w p fs d.world)(hD:∃A0 A1 A2 k0 k1 k2 g0 g1 g2,CG w p 15 d.desk A0 A1 A2 k0 k1 k2 g0 g1 g2)(hsm:(AN d.desk).length≤1000000)(hR:Ez d.world)(hO:DrvOk d.world) :
  Calls Tryz.prog 64 #[.pointer (some ⟨p,0,none⟩)] w fun e w' => e= .returned (.bool (Ds d))∧Below w.heap.size w w':=by
 obtain⟨A0,A1,A2,c0,c1,c2,f0,f1,f2,HC⟩:=h.cells;obtain⟨ng,hng⟩:∃ng:Nat,d.world.s.g=(ng:Int):=⟨d.world.s.g.toNat,by have:=hR.ok.g.1;simp only[Ba.sh]at this;omega⟩;have hng4:ng≤4:=by have:=hR.ok.g.2;simp only[Ba.sh]at this;omega
 have lp:=HC.lt;have n14:=HC.dn;have HN0:=hid (show∀W,Below w.heap.size w W→W.cell? ⟨p,0,none⟩=some (int i64 (ng:Int))from fun W hW =>(hW.cell (p:=⟨p,0,none⟩) lp).trans (by rw[← hng];exact HC.n0));have HRS:=hid (show∀W,Below w.heap.size w W→W.rangeAt p 0 [int i64 d.world.s.g,int i64 d.world.s.c,int i64 d.world.s.data,int i64 d.world.s.p,int i64 d.world.s.rows,int i64 d.world.s.cap,int i64 d.world.s.b,int i64 d.world.s.q,int i64 d.world.s.t]from fun W hW q v hq => by
  have hB2:=fun q => hW.cell (p:=⟨p,q,none⟩) lp
  rw[Nat.zero_add];match q,hq with
  |0,hq => simp at hq;subst hq;exact(hB2 0).trans HC.n0
  |1,hq => simp at hq;subst hq;exact(hB2 1).trans HC.n1
  |2,hq => simp at hq;subst hq;exact(hB2 2).trans HC.n2
  |3,hq => simp at hq;subst hq;exact(hB2 3).trans HC.n3
  |4,hq => simp at hq;subst hq;exact(hB2 4).trans HC.n4
  |5,hq => simp at hq;subst hq;exact(hB2 5).trans HC.n5
  |6,hq => simp at hq;subst hq;exact(hB2 6).trans HC.n6
  |7,hq => simp at hq;subst hq;exact(hB2 7).trans HC.n7
  |8,hq => simp at hq;subst hq;exact(hB2 8).trans HC.n8
  |q+9,hq => simp at hq)
 obtain⟨B0,B1,B2,k0,k1,k2,q0,q1,q2,hDk⟩:=hD;have HTK:=hid (FA p 15 d.desk B0 B1 B2 k0 k1 k2 q0 q1 q2 w hDk hsm);have HA:=hid (show∀W,Below w.heap.size w W→AtW W p fs d.world from fun W hW => h.below hW);have HCT:=hid (fun(W:World) (hW:Below w.heap.size w W) => Gw p fs d.world W (h.below hW) hO.tp hR.sm);have HR:=hid hR;have HO:=hid hO;obtain⟨nT,hnT⟩:∃nT,(AN d.desk).length =nT:=⟨_,rfl⟩;rw[hnT]at HTK;obtain⟨dn,hdn⟩:∃dn,d.world.down=dn:=⟨_,rfl⟩;rw[hdn]at n14;obtain⟨all,hall⟩:∃all,AV d.world=all:=⟨_,rfl⟩;rw[hall]at HCT;have hal:all.length≤1000000:=by rw[← hall];exact Nat.le_trans (Dd d.world) hR.sm
 have HALL:=hid hall;obtain⟨rb,hrb⟩:∃rb,Ds d=rb:=⟨_,rfl⟩;rw[hrb];unfold Ds at hrb;rw[hdn,hnT,hall,hng,Int.toNat_natCast]at hrb;have HRB:=hid hrb;have HNG:=hid hng;clear h HC hDk hR hO hnT hdn hall hrb hng hsm;cases dn with
 |true =>
  have e1:rb=false:=by rw[← HRB.out];rfl
  subst e1;go_enter Tryz.func64,Tryz.ntmps64
  go_wp2_with fail
  go_ret
  exact⟨rfl,Below.refl _ _⟩
 |false =>
  by_cases hz:nT=0
  case neg =>
   have e1:rb=false:=by rw[← HRB.out];simp[hz]
   subst e1;have hz1:(0:Int)<(nT:Int):=by omega
   clear hz;go_enter Tryz.func64,Tryz.ntmps64
   go_wp2_with (go_at_call 117;refine HTK.out.mono ?_;rintro e w1 ⟨At,ct,gt,rfl,-,b1⟩;have B1:=hid b1;clear b1)
   go_ret
   exact⟨rfl,B1.out⟩
  subst hz;have HRB2:=hid (show(all.all (BV d.world.s.sh all) && (List.range ng).all (De d.world))=rb from by rw[← HRB.out];rfl);clear HRB;go_enter Tryz.func64,Tryz.ntmps64
  go_wp2_with (first
   |(go_at_call 117;refine HTK.out.mono ?_;rintro e w1 ⟨At,ct,gt,rfl,-,b1⟩;have HCT1:=hid (HCT.out w1 b1);have B1:=hid b1;clear b1)
   |(go_at_call 36;refine HCT1.out.mono ?_;rintro e w2 ⟨Aa,ca,fa,rfl,ra,b2⟩;have RA:=hid ra;have B2:=hid (show Below w.heap.size w w2 from B1.out.trans (b2.mono B1.out.size));clear b2 ra))
  obtain⟨A',c',ev,hc,hm,hx⟩:=rSl.at_ Ac.fixed (by omega) RA.out;injection ev with ev1 ev2 ev3
  subst ev1 ev3;have HX:=hid hx;clear hx ev2 hm HCT HTK;go_loopw [5] (fun ix wx =>∃i:Nat,i≤all.length∧ix= int i64 i∧Hid ((all.take i).all (BV d.world.s.sh all)=true)∧Hid (Below w2.heap.size w2 wx)) (fun ix _ => all.length - (intOf ix).toNat)
  case atStart => exact⟨0,by omega,rfl,rfl,Below.refl _ _⟩
  case round =>
   obtain⟨i,hi,rfl,HAL,HB⟩:=hrel;have hbz:=HB.out.size;have HBW:=hid (show Below w.heap.size w wr from B2.out.trans (HB.out.mono B2.out.size));by_cases hlt:i<all.length
   ·obtain⟨ad,b3,o3,cs3,f3,rfl,hat0⟩:=HX.out i hlt;have hat:=hat0.below Ac.local_ HB.out;have hpl3:=hat.place;have hbl3:b3<wr.heap.size:=hat.lt;have hlen:cs3.length=9:=hat.len;have hrds:=hat.reads;obtain⟨x,hxe⟩:∃x,all[i] =x:=⟨_,rfl⟩;have HST:=hid (show(all.take (i+1)).all (BV d.world.s.sh all)=BV d.world.s.sh all x by
     rw[List.take_succ_eq_append_getElem hlt,List.all_append,HAL.out,hxe];simp)
    have HNO:=hid (show BV d.world.s.sh all x=false→all.all (BV d.world.s.sh all)=false from fun e => by
     rw[List.all_eq_false];exact⟨x,by rw[← hxe];exact List.getElem_mem hlt,by rw[e];exact Bool.false_ne_true⟩)
    have HSP:=hid (fun(hk:x.kind=2∨x.kind=4) (W:World) (hW:Below wr.heap.size wr W) => show Calls Tryz.prog 118 #[.agg #[int i64 d.world.s.g,int i64 d.world.s.c,int i64 d.world.s.data,int i64 d.world.s.p,int i64 d.world.s.rows,int i64 d.world.s.cap,int i64 d.world.s.b,int i64 d.world.s.q,int i64 d.world.s.t],.slice (some ad) all.length ca,int i64 (i:Int)] W (fun e w' => e= .returned (.bool (Da d.world.s.sh all x))∧Below W.heap.size W w')from by
     have hb:Below w2.heap.size w2 W:=HB.out.trans (hW.mono hbz);have:=J9 d.world.s.sh HR.out.ok _ all fa i hlt W hal (rSl.below Ac.local_ Ac.fixed RA.out hb) (by rw[hxe];exact hk);rw[hxe]at this;exact this)
    rw[hxe]at hrds;dsimp only[Ac]at hrds;obtain⟨v0,v1,v2,q0,q1,q2,e,-⟩:=hrds;have hki:(i:Int)<(all.length:Int):=by omega
    have hp:p<wr.heap.size:=Nat.lt_of_lt_of_le lp HBW.out.size;have y0:wr.cell? ⟨b3,o3,none⟩=some (int i64 x.kind):=(hat.cell 0 (by rw[hlen];omega)).trans (by simp only[e];rfl);have HB4:=hid (Below.refl wr.heap.size wr);have s0:wr.cell? ⟨p,0,none⟩=some (int i64 d.world.s.g):=HRS.out wr HBW.out 0 _ rfl;have s1:wr.cell? ⟨p,1,none⟩=some (int i64 d.world.s.c):=HRS.out wr HBW.out 1 _ rfl;have s2:wr.cell? ⟨p,2,none⟩=some (int i64 d.world.s.data):=HRS.out wr HBW.out 2 _ rfl;have s3:wr.cell? ⟨p,3,none⟩=some (int i64 d.world.s.p):=HRS.out wr HBW.out 3 _ rfl;have s4:wr.cell? ⟨p,4,none⟩=some (int i64 d.world.s.rows):=HRS.out wr HBW.out 4 _ rfl;have s5:wr.cell? ⟨p,5,none⟩=some (int i64 d.world.s.cap):=HRS.out wr HBW.out 5 _ rfl;have s6:wr.cell? ⟨p,6,none⟩=some (int i64 d.world.s.b):=HRS.out wr HBW.out 6 _ rfl;have s7:wr.cell? ⟨p,7,none⟩=some (int i64 d.world.s.q):=HRS.out wr HBW.out 7 _ rfl;have s8:wr.cell? ⟨p,8,none⟩=some (int i64 d.world.s.t):=HRS.out wr HBW.out 8 _ rfl;clear hat hat0 hlen e hxe;by_cases hk:x.kind=2∨x.kind=4
    ·have HS:=hid (HSP.out hk wr HB4.out);have hcond:((x.kind == 2)||(x.kind == 4))=true:=by rcases hk with q|q <;> simp[q]
     have hrest:BV d.world.s.sh all x=Da d.world.s.sh all x:=by
      unfold BV;rcases hk with q|q <;> simp[q]
     rw[hrest]at HST HNO;obtain⟨bs,hbs⟩:∃bs,Da d.world.s.sh all x=bs:=⟨_,rfl⟩;rw[hbs]at HS HST HNO;clear hrest hbs HSP;by_cases q2:x.kind=2
     ·rw[q2]at y0;clear hk hcond q2;cases bs with
      |true =>
       go_wp2_with (first
        |(go_at_call 118;refine HS.out.mono ?_;rintro e w5 ⟨rfl,b5⟩;have HB5:=hid b5;clear b5))
       go_roundw
       case rel => exact⟨i+1,by omega,by go_num,HST.out,HB.out.trans ((HB4.out.trans (HB5.out.mono HB4.out.size)).mono hbz)⟩
       case measure => simp[intOf];omega
      |false =>
       have e1:rb=false:=by rw[← HRB2.out,HNO.out rfl];rfl
       subst e1;go_wp2_with (first
        |(go_at_call 118;refine HS.out.mono ?_;rintro e w5 ⟨rfl,b5⟩;have HB5:=hid b5;clear b5))
       go_ret
       exact⟨rfl,HBW.out.trans ((HB4.out.trans (HB5.out.mono HB4.out.size)).mono HBW.out.size)⟩
     ·have q4:x.kind=4:=hk.resolve_left q2;rw[q4]at y0;clear hk hcond q2 q4;cases bs with
      |true =>
       go_wp2_with (first
        |(go_at_call 118;refine HS.out.mono ?_;rintro e w5 ⟨rfl,b5⟩;have HB5:=hid b5;clear b5))
       go_roundw
       case rel => exact⟨i+1,by omega,by go_num,HST.out,HB.out.trans ((HB4.out.trans (HB5.out.mono HB4.out.size)).mono hbz)⟩
       case measure => simp[intOf];omega
      |false =>
       have e1:rb=false:=by rw[← HRB2.out,HNO.out rfl];rfl
       subst e1;go_wp2_with (first
        |(go_at_call 118;refine HS.out.mono ?_;rintro e w5 ⟨rfl,b5⟩;have HB5:=hid b5;clear b5))
       go_ret
       exact⟨rfl,HBW.out.trans ((HB4.out.trans (HB5.out.mono HB4.out.size)).mono HBW.out.size)⟩
    ·have hk2:(x.kind == 2)=false:=by simpa using fun q => hk (.inl q)
     have hk4:(x.kind == 4)=false:=by simpa using fun q => hk (.inr q)
     have hrest:BV d.world.s.sh all x=true:=by
      unfold BV;have h2:¬x.kind=2:=fun q => hk (.inl q)
      have h4:¬x.kind=4:=fun q => hk (.inr q)
      simp[h2,h4]
     rw[hrest]at HST;clear hk hrest HSP HNO;go_wp2_with fail
     go_roundw
     case rel => exact⟨i+1,by omega,by go_num,HST.out,HB.out.trans (HB4.out.mono hbz)⟩
     case measure => simp[intOf];omega
   ·obtain rfl:i=all.length:=by omega
    have hrb2:=HRB2.out;have hal2:=HAL.out;rw[List.take_length]at hal2;rw[hal2,Bool.true_and]at hrb2;have HRB3:=hid hrb2;have HNX:=hid (fun(W:World) (hW:Below wr.heap.size wr W) (j:Nat) => show Calls Tryz.prog 119 #[.pointer (some ⟨p,0,none⟩),int i64 (j:Int)] W (fun e w' =>∃(cs':List Value) (vs:Value),e= .returned (.tuple #[.agg cs'.toArray,vs,.bool (Gm d.world (j:Int))])∧cs'.length=9∧(∀u,u∈cs'→u.oneCell'=true)∧Below W.heap.size W w')from(l9Next_c p fs d.world (j:Int) W (HA.out W (HBW.out.trans (hW.mono HBW.out.size))) HO.out.tp HR.out HO.out.rl).mono (by rintro e w' ⟨L,cs',vs,h1,rfl,h2,h3,h4⟩;exact⟨cs',vs,by rw[Jx h1],h2,h3,h4⟩));have HDE:=hid (fun(W:World) (hW:Below wr.heap.size wr W) (j:Nat) (hj:j<ng) => l7Dead_c p fs d.world j W (HA.out W (HBW.out.trans (hW.mono HBW.out.size))) (by have:=HO.out.gl;rw[HNG.out]at this;omega) (HO.out.bl j (by have:=HO.out.gl;rw[HNG.out]at this;omega)) (HO.out.dn j (by have:=HO.out.gl;rw[HNG.out]at this;omega)));have x0:=HN0.out wr HBW.out;have hp:p<wr.heap.size:=Nat.lt_of_lt_of_le lp HBW.out.size;obtain⟨wv,rfl⟩:∃wv:World,wv=wr:=⟨_,rfl⟩;clear hrb2 hal2 HAL HX HB;go_wp2_with fail
    go_loopw [6] (fun ix wx =>∃j:Nat,j≤ng∧ix= int i64 j∧Hid ((List.range j).all (De d.world)=true)∧Hid (Below wv.heap.size wv wx)) (fun ix _ => ng - (intOf ix).toNat)
    case atStart => exact⟨0,by omega,rfl,rfl,Below.refl _ _⟩
    case round =>
     obtain⟨j,hj,rfl,HAL,HB⟩:=hrel;have HBW2:=hid (show Below w.heap.size w wr from HBW.out.trans (HB.out.mono HBW.out.size));have hbz2:=HB.out.size;have x0r:=HN0.out wr HBW2.out;have hpr:p<wr.heap.size:=Nat.lt_of_lt_of_le lp HBW2.out.size;by_cases hlt:j<ng
     ·have hji:(j:Int)<(ng:Int):=by omega
      have HN1:=hid (HNX.out wr HB.out j);have HST:=hid (show(List.range (j+1)).all (De d.world)=De d.world j by
       rw[List.range_succ,List.all_append,HAL.out];simp)
      have HNO:=hid (show De d.world j=false→(List.range ng).all (De d.world)=false from fun e => by
       rw[List.all_eq_false];exact⟨j,List.mem_range.2 hlt,by rw[e];exact Bool.false_ne_true⟩)
      have HDJ:=hid (fun(W:World) (hW:Below wr.heap.size wr W) => HDE.out W (HB.out.trans (hW.mono hbz2)) j hlt);unfold De at HST HNO;obtain⟨nb,hnb⟩:∃nb,Gm d.world (j:Int)=nb:=⟨_,rfl⟩;obtain⟨dd,hdd⟩:∃dd,Ew d.world j=dd:=⟨_,rfl⟩;simp only[hnb,hdd]at HST HNO HN1 HDJ;obtain⟨Z2,hZ2⟩:∃Z2:Array Value,#[int i64 0,int i64 0,.string ⟨#[]⟩,int i64 0,int i64 0,int i64 0,.slice none 0 0,.slice none 0 0,.slice none 0 0] =Z2:=⟨_,rfl⟩;have HZ2:=hid hZ2;have hp2:p<wr.heap.size:=Nat.lt_of_lt_of_le lp HBW2.out.size;clear hnb hdd;cases nb with
      |false =>
       go_wp2_with (first
        |(go_at_call 119;refine HN1.out.mono ?_;rintro e w3 ⟨cs',vs,rfl,hl',ho',b3⟩;obtain⟨W4,hW4⟩:∃W4,(w3.alloc (.cells Z2 119)).setCells w3.heap.size 0 cs'.toArray.toList=W4:=⟨_,rfl⟩;have HW4:=hid hW4;have HTH:=hid (Blk.there (Blk.new w3 119 Z2) cs'.toArray.size (by rw[List.size_toArray,hl',← HZ2.out];exact Nat.le_refl _));have HI2:=hid (show(Tryz.prog.info? 119).map (·.size)=some cs'.toArray.size by rw[List.size_toArray,hl'];kernel_rfl);have HON:=hid (all_oneCell_toArray ho');have HB6:=hid (show Below wr.heap.size wr W4 by rw[← hW4];exact b3.trans ((Aw (Ah (Below.refl _ _) _) _ 0 (Nat.le_refl _):Below w3.heap.size w3 _).mono b3.size));have HD4:=hid (HDJ.out W4 HB6.out);have x0w:W4.cell? ⟨p,0,none⟩=some (int i64 (ng:Int)):=HN0.out W4 (HBW2.out.trans (HB6.out.mono HBW2.out.size));have hp4:p<W4.heap.size:=Nat.lt_of_lt_of_le hp2 HB6.out.size;clear hW4 b3 hl' ho')
        |(refine wpList_store_mid rfl 119 (.tmp 7) (.tmp 70) rfl w3.heap.size 0 cs'.toArray rfl rfl HTH.out HI2.out HON.out ?_;rw[HW4.out]))
       go_roundw
       case rel => exact⟨j+1,by omega,by go_num,HST.out,HB.out.trans (HB6.out.mono hbz2)⟩
       case measure => simp[intOf];omega
      |true =>
       cases dd with
       |true =>
        go_wp2_with (first
         |(go_at_call 119;refine HN1.out.mono ?_;rintro e w3 ⟨cs',vs,rfl,hl',ho',b3⟩;obtain⟨W4,hW4⟩:∃W4,(w3.alloc (.cells Z2 119)).setCells w3.heap.size 0 cs'.toArray.toList=W4:=⟨_,rfl⟩;have HW4:=hid hW4;have HTH:=hid (Blk.there (Blk.new w3 119 Z2) cs'.toArray.size (by rw[List.size_toArray,hl',← HZ2.out];exact Nat.le_refl _));have HI2:=hid (show(Tryz.prog.info? 119).map (·.size)=some cs'.toArray.size by rw[List.size_toArray,hl'];kernel_rfl);have HON:=hid (all_oneCell_toArray ho');have HB6:=hid (show Below wr.heap.size wr W4 by rw[← hW4];exact b3.trans ((Aw (Ah (Below.refl _ _) _) _ 0 (Nat.le_refl _):Below w3.heap.size w3 _).mono b3.size));have HD4:=hid (HDJ.out W4 HB6.out);have x0w:W4.cell? ⟨p,0,none⟩=some (int i64 (ng:Int)):=HN0.out W4 (HBW2.out.trans (HB6.out.mono HBW2.out.size));have hp4:p<W4.heap.size:=Nat.lt_of_lt_of_le hp2 HB6.out.size;clear hW4 b3 hl' ho')
         |(refine wpList_store_mid rfl 119 (.tmp 7) (.tmp 70) rfl w3.heap.size 0 cs'.toArray rfl rfl HTH.out HI2.out HON.out ?_;rw[HW4.out])
         |(go_at_call 120;refine HD4.out.mono ?_;rintro e w7 ⟨rfl,rfl⟩;have HB7:=HB6))
        go_roundw
        case rel => exact⟨j+1,by omega,by go_num,HST.out,HB.out.trans (HB7.out.mono hbz2)⟩
        case measure => simp[intOf];omega
       |false =>
        have e1:rb=false:=by rw[← HRB3.out];exact HNO.out rfl
        subst e1;go_wp2_with (first
         |(go_at_call 119;refine HN1.out.mono ?_;rintro e w3 ⟨cs',vs,rfl,hl',ho',b3⟩;obtain⟨W4,hW4⟩:∃W4,(w3.alloc (.cells Z2 119)).setCells w3.heap.size 0 cs'.toArray.toList=W4:=⟨_,rfl⟩;have HW4:=hid hW4;have HTH:=hid (Blk.there (Blk.new w3 119 Z2) cs'.toArray.size (by rw[List.size_toArray,hl',← HZ2.out];exact Nat.le_refl _));have HI2:=hid (show(Tryz.prog.info? 119).map (·.size)=some cs'.toArray.size by rw[List.size_toArray,hl'];kernel_rfl);have HON:=hid (all_oneCell_toArray ho');have HB6:=hid (show Below wr.heap.size wr W4 by rw[← hW4];exact b3.trans ((Aw (Ah (Below.refl _ _) _) _ 0 (Nat.le_refl _):Below w3.heap.size w3 _).mono b3.size));have HD4:=hid (HDJ.out W4 HB6.out);have x0w:W4.cell? ⟨p,0,none⟩=some (int i64 (ng:Int)):=HN0.out W4 (HBW2.out.trans (HB6.out.mono HBW2.out.size));have hp4:p<W4.heap.size:=Nat.lt_of_lt_of_le hp2 HB6.out.size;clear hW4 b3 hl' ho')
         |(refine wpList_store_mid rfl 119 (.tmp 7) (.tmp 70) rfl w3.heap.size 0 cs'.toArray rfl rfl HTH.out HI2.out HON.out ?_;rw[HW4.out])
         |(go_at_call 120;refine HD4.out.mono ?_;rintro e w7 ⟨rfl,rfl⟩;have HB7:=HB6))
        go_ret
        exact⟨rfl,HBW2.out.trans (HB7.out.mono HBW2.out.size)⟩
     ·obtain rfl:j=ng:=by omega
      have e1:rb=true:=by rw[← HRB3.out];exact HAL.out
      subst e1;have x0w:=HN0.out wr HBW2.out;have hp2:p<wr.heap.size:=Nat.lt_of_lt_of_le lp HBW2.out.size;go_wp2_with fail
      go_ret
      exact⟨rfl,HBW2.out⟩
end Go.Proofs.YtfjkoifpdoemdaaGreat
