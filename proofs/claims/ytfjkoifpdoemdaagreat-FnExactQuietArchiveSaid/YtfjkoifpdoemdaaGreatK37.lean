/-
  Part 37 of the proof; the last part states and proves the statement.
-/
import Derived.Test.YtfjkoifpdoemdaaGreatK10
import Derived.Test.YtfjkoifpdoemdaaGreatK35
import Derived.Test.YtfjkoifpdoemdaaGreatK36
import Derived.Deep.RegionHeld3
set_option maxHeartbeats 8000000
set_option maxRecDepth 100000
set_option linter.unusedVariables false
set_option linter.unusedSimpArgs false
open Go.Value (int)
open Go.IntKind (i64)
namespace Go.Proofs.YtfjkoifpdoemdaaGreat
open Go.RowKit Go.Lib Go.Sort
theorem Ho {P:Program} {fn:Func} {p u1 u2:Tmp} {ty:TypeId}(h:fn.results= #[.cell p ty,.tmp u1,.tmp u2])(tmps:Array Value)(w:World)(g:Nat)(t:TypeId)(cs:Array Value)(d:TypeDesc)(v1 v2:Value)
  (hp:tmps.getD p undef= .pointer (some ⟨g,0,none⟩)) (hg:Blk w g t cs)
  (hu:P.underlying ty=some d) (hd:(match d with| .struct _| .array _ _ => true|_ => false)=true) (hi:(P.info? ty).map (·.size)=some cs.size)
  (hp1:tmps.getD u1 undef=v1) (hp2:tmps.getD u2 undef=v2) :
  (results fn tmps).run P w= .ok (.tuple #[.agg cs,v1,v2]) w:=by
 have hp':tmps[p]?.getD undef= .pointer (some ⟨g,0,none⟩):=by simpa using hp
 have hp1':tmps[u1]?.getD undef=v1:=by simpa using hp1
 have hp2':tmps[u2]?.getD undef=v2:=by simpa using hp2
 simp[results,h,hp',hp1',hp2',asAddr,run_loadVar_row w g t ty cs (0,0) d hg hu hd hi]
theorem IS {α:Type} {p:α→Bool} {L:List α} {i:Nat}(h:i<L.length)(h0:(L.take i).any p=false):(L.take (i+1)).any p=p L[i]:=by
 rw[List.take_succ_eq_append_getElem h,List.any_append,h0];simp
theorem l9Next_k(ks:Nat)(hks:ks=9)(zS:∀w,(Go.sizeOf 31).run Tryz.prog w= .ok ks w)(aS:∀w,(isAgg 31).run Tryz.prog w= .ok true w)(kr:Nat)(hkr:kr=9)(zR:∀w,(Go.sizeOf 119).run Tryz.prog w= .ok kr w)(aR:∀w,(isAgg 119).run Tryz.prog w= .ok true w)
  (p:Nat) (fs:List Addr) (d:AC) (g:Int) (w:World) (h:AtW w p fs d) (h2:d.v.length=2) (hR:Ez d) (hrl:∀r,r∈AV d→r.kind=1→r.rows.length≤100) :
  Calls Tryz.prog 119 #[.pointer (some ⟨p,0,none⟩),int i64 g] w fun e w' =>∃(L:List Ag) (cs':List Value) (vs:Value),BS (AV d) L∧e= .returned (.tuple #[.agg cs'.toArray,vs,.bool (C4 d g L)])∧cs'.length=9∧(∀u,u∈cs'→u.oneCell'=true)∧Below w.heap.size w w':=by
 obtain⟨Z,hZ⟩:∃Z:Array Value,#[int i64 0,int i64 0,.string ⟨#[]⟩,int i64 0,int i64 0,int i64 0,.slice none 0 0,.slice none 0 0,.slice none 0 0] =Z:=⟨_,rfl⟩;obtain⟨g0,hg0⟩:∃g0,w.heap.size=g0:=⟨_,rfl⟩;obtain⟨W1,hW1⟩:∃W1,w.alloc (.cells Z 119)=W1:=⟨_,rfl⟩;have hB1:Below g0 w W1:=by rw[← hW1,← hg0];exact Ah (Below.refl _ _) _
 have K4:Blk W1 g0 119 Z:=by rw[← hW1,← hg0];exact Blk.new w _ _
 have HA:=hid (show∀W,Below g0 w W→AtW W p fs d from fun W hW => h.below (by rw[hg0];exact hW));have HCT:=hid (Gw p fs d W1 (HA.out W1 hB1) h2 hR.sm);have hal:(AV d).length≤1000000:=Nat.le_trans (Dd d) hR.sm;have hle:∀r,r∈AV d→r.kind=1→r.length= -1∨0≤r.length:=fun r hr hk => by
  by_cases q:r.length= -1
  ·exact .inl q
  ·have:=hR.pt r hr hk q;unfold CD at this;simp only[decide_eq_true_eq]at this;omega
 have HLV:=hid (fun(W:World) (v:Value) (fa:List Addr) (ha:rSl 9 Ac W fa v (AV d)) => Jv 9 rfl Tryz.sizeOf119 Tryz.isAgg119 v (AV d) fa W ha hal hle);have hfr:=fun(W:World) (v:Value) (fa:List Addr) (ha:rSl 9 Ac W fa v (AV d)) => l6Free_c d.s.sh hR.ok g v (AV d) fa W ha hal hle hR.nm hrl
 unfold shV at hfr;simp only[Ba.sh]at hfr;have HFR:=hid hfr;have HR:=hid hR;have HB1:=hid hB1;have HK4:=hid K4;have HG:=hid hg0;have HZ:=hid hZ;have HKS9:=hid hks;have HKR9:=hid hkr;have hks0:¬ks=0:=by omega
 have hks1:0<ks:=by omega
 have hkr0:¬kr=0:=by omega
 have hkr1:0<kr:=by omega
 have HRUN:=hid (show∀W,Below g0 w W→Sem.run Tryz.prog (loadCellsFrom ⟨p,0,none⟩ 0 ks #[]) W= .ok #[int i64 d.s.g,int i64 d.s.c,int i64 d.s.data,int i64 d.s.p,int i64 d.s.rows,int i64 d.s.cap,int i64 d.s.b,int i64 d.s.q,int i64 d.s.t] W from fun W hW => by
  obtain⟨A0',A1',A2',c0',c1',c2',f0',f1',f2',HC⟩:=(HA.out W hW).cells;exact HC.shapeRunQ ks hks)
 have hp:p<g0:=by
  obtain⟨_,_,_,_,_,_,_,_,_,HC⟩:=h.cells;have:=HC.lt;rw[hg0]at this;exact this
 clear h h2 hR hrl hle hal hfr hB1 K4 hks hkr;go_enter Tryz.func119,Tryz.ntmps119
 go_wp2_with (first
  |(go_at_call 36;refine HCT.out.mono ?_;rintro e w2 ⟨Aa,ca,fa,rfl,ra,b2⟩;have RA:=hid ra;have B2:=hid (show Below g0 w w2 from HB1.out.trans (b2.mono (by rw[← HG.out];exact HB1.out.size)));have B2':=hid b2;have HL2:=hid (HLV.out w2 _ _ ra);clear ra b2)
  |(go_at_call 75;refine HL2.out.mono ?_;rintro e w3 ⟨L,A,c,fl,rfl,hlv,rl,b3⟩;have HLL:=hid hlv;have RL:=hid rl;have B3':=hid (show Below W1.heap.size W1 w3 from B2'.out.trans (b3.mono B2'.out.size));have RA3:=rSl.below Ac.local_ Ac.fixed RA.out b3;have B3:=hid (show Below g0 w w3 from HB1.out.trans (B3'.out.mono (by rw[← HG.out];exact HB1.out.size)));have HF3:=hid (HFR.out w3 _ _ RA3);have l3:=HRUN.out w3 B3.out;have hp3:p<w3.heap.size:=Nat.lt_of_lt_of_le hp (by rw[← HG.out];exact B3.out.size);clear hlv rl b3 RA3)
  |(go_at_call 199;refine HF3.out.mono ?_;rintro e w5 ⟨L2,A5,n5,c5,hl2,rfl,hn5,hnc,hcm,b5⟩;have HN5:=hid hn5;have HL2u:=hid hl2;have B5':=hid b5;clear hl2 hn5 b5))
 obtain rfl:=HL2u.out.uniq HLL.out;have HNX:=hid (show C4 d g L2=L2.any (CF d.s.sh g n5)from by unfold C4;rw[← HN5.out]);have hl3:w3.heap.size≤w5.heap.size:=B5'.out.size;have HB5:=hid (show Below g0 w w5 from B3.out.trans (B5'.out.mono (by rw[← HG.out];exact B3.out.size)));have HK5:=hid (show Blk w5 g0 119 Z from(HK4.out.below B3'.out HK4.out.lt).below B5'.out (Nat.lt_of_lt_of_le HK4.out.lt B3'.out.size));have RL5:=hid (rSl.below Ac.local_ Ac.fixed RL.out B5'.out);obtain⟨A',c',ev,hc,hm,hx⟩:=rSl.at_ Ac.fixed (by omega) RL5.out;injection ev with ev1 ev2 ev3
 subst ev1 ev3;have HX:=hid hx;have HLX:=hid (show∀x,x∈L2→x.name.size≤1000000∧x.kind=1∧(1≤x.length∧x.length≤1000)from fun x hx => by
  obtain⟨h1,h2,h3⟩:=DI ((HLL.out.mem x).1 hx);have h4:=HR.out.pt x h1 h2 h3;have h5:=HR.out.ok.data;unfold CD at h4;simp only[decide_eq_true_eq]at h4;exact⟨HR.out.nm x h1,h2,by omega,by omega⟩)
 have hLl:L2.length≤1000000:=Nat.le_trans HLL.out.len (Nat.le_trans (Dd d) HR.out.sm);have hok:=HR.out.ok;have hho:=fun nm hn W => GT d.s.sh hok nm hn W
 have hpp:=fun n h1 h2 W => IA d.s.sh hok n h1 h2 W
 unfold shV at hho hpp;have HHO:=hid (show∀(nm:ByteArray) (hn:nm.size≤1000000) (W:World),Calls Tryz.prog 133 #[.agg #[int i64 d.s.g,int i64 d.s.c,int i64 d.s.data,int i64 d.s.p,int i64 d.s.rows,int i64 d.s.cap,int i64 d.s.b,int i64 d.s.q,int i64 d.s.t],.string nm] W fun e w' => e= .returned (int i64 (Cr d.s.g nm))∧Below W.heap.size W w' from hho);have HPP:=hid (show∀(n:Int) (h1:1≤n) (h2:n≤1000000000) (W:World),Calls Tryz.prog 200 #[.agg #[int i64 d.s.g,int i64 d.s.c,int i64 d.s.data,int i64 d.s.p,int i64 d.s.rows,int i64 d.s.cap,int i64 d.s.b,int i64 d.s.q,int i64 d.s.t],int i64 n] W fun e w' => e= .returned (int i64 (Bp d.s.sh n))∧Below W.heap.size W w' from hpp);clear hx hok hho hpp l3 hp3 ev2 hm hZ HFR HLV HCT HF3 HL2 HA;try clear hg0 hW1
 go_loopw [11,10] (fun ix av wx =>∃(i:Nat) (a:Int),i≤L2.length∧ix= int i64 i∧av= int i64 a∧Hid ((a= -1∧(L2.take i).any (CF d.s.sh g n5)=false)∨∃k:Nat,a=(k:Int)∧∃hk:k<L2.length,CF d.s.sh g n5 L2[k] =true)∧Hid (Below w5.heap.size w5 wx)) (fun ix _ _ => L2.length - (intOf ix).toNat)
 case atStart => exact⟨0,-1,by omega,rfl,rfl,.inl ⟨rfl,rfl⟩,Below.refl _ _⟩
 case round =>
  obtain⟨i,a,hi,rfl,rfl,HRK,HB⟩:=hrel;have hbz:=HB.out.size;have HBW:=hid (show Below g0 w wr from HB5.out.trans (HB.out.mono (by rw[← HG.out];exact HB5.out.size)));by_cases hlt:i<L2.length
  ·obtain⟨ad,b3,o3,cs3,f3,rfl,hat0⟩:=HX.out i hlt;have hat:=hat0.below Ac.local_ HB.out;have hpl3:=hat.place;have hpl4:ad.add (i * kr)=⟨b3,o3,none⟩:=by rw[HKR9.out];exact hat.place
   have hbl3:b3<wr.heap.size:=hat.lt;have hlen:cs3.length=9:=hat.len;have HRG:=hid (show wr.rangeAt b3 o3 cs3 from fun q v hq => by
    have hq1:q<cs3.length:=(List.getElem?_eq_some_iff.1 hq).1;rw[hat.cell q hq1,← hq];exact(List.getElem?_eq_getElem hq1).symm)
   have HI:=hid (show(Tryz.prog.info? 119).map (·.size)=some cs3.length by rw[hlen];kernel_rfl);have HI2:=hid (show(Tryz.prog.info? 119).map (·.size)=some cs3.toArray.size by rw[List.size_toArray,hlen];kernel_rfl);have HON:=hid (all_oneCell_toArray (Ac.ones _ _ _ _ hat.reads));obtain⟨Z2,hZ2⟩:∃Z2:Array Value,#[int i64 0,int i64 0,.string ⟨#[]⟩,int i64 0,int i64 0,int i64 0,.slice none 0 0,.slice none 0 0,.slice none 0 0] =Z2:=⟨_,rfl⟩;have hZs:Z2.size=9:=by rw[← hZ2];rfl
   have KZ:=Blk.new wr 119 Z2;have HTH:=hid (Blk.there KZ cs3.toArray.size (by rw[List.size_toArray,hlen,hZs];exact Nat.le_refl _));obtain⟨W2,hW2⟩:∃W2,(wr.alloc (.cells Z2 119)).setCells wr.heap.size 0 cs3.toArray.toList=W2:=⟨_,rfl⟩;have k2:Blk W2 wr.heap.size 119 cs3.toArray:=by rw[← hW2];exact Blk.laid KZ _ (by rw[hZs];exact hlen.symm)
   have b22:Below wr.heap.size wr W2:=by rw[← hW2];exact Aw (Ah (Below.refl _ _) _) _ 0 (Nat.le_refl _)
   have HW2:=hid hW2;have hgb:=k2.lt;have hrds:=hat.reads;obtain⟨x,hxe⟩:∃x,L2[i] =x:=⟨_,rfl⟩;have hLx:=HLX.out _ (List.getElem_mem hlt);have HSTP:=hid (show CF d.s.sh g n5 x=false→Hid ((a= -1∧(L2.take (i+1)).any (CF d.s.sh g n5)=false)∨∃k:Nat,a=(k:Int)∧∃hk:k<L2.length,CF d.s.sh g n5 L2[k] =true)from fun hf => by
    rcases HRK.out with⟨h1,h2⟩|h1
    ·exact .inl ⟨h1,by rw[IS hlt h2,hxe];exact hf⟩
    ·exact .inr h1)
   have HFIT:=hid (show CF d.s.sh g n5 x=true→Hid (((i:Int)= -1∧(L2.take (i+1)).any (CF d.s.sh g n5)=false)∨∃k:Nat,(i:Int)=(k:Int)∧∃hk:k<L2.length,CF d.s.sh g n5 L2[k] =true)from fun hf => .inr ⟨i,rfl,hlt,by rw[hxe];exact hf⟩);have HOLD:=hid (show∀k:Nat,(∃hk:k<L2.length,CF d.s.sh g n5 L2[k] =true)→Hid (((k:Int)= -1∧(L2.take (i+1)).any (CF d.s.sh g n5)=false)∨∃k':Nat,(k:Int)=(k':Int)∧∃hk:k'<L2.length,CF d.s.sh g n5 L2[k'] =true)from fun k hk => .inr ⟨k,rfl,hk⟩);rw[hxe]at hrds hLx;dsimp only[Ac]at hrds;obtain⟨v0,v1,v2,q0,q1,q2,e,-,-,-,-,-,-,-,-,r1,-⟩:=hrds;obtain⟨Ad,cd,rfl,-⟩:=rSl.head r1;have y1:W2.cell? ⟨wr.heap.size,1,none⟩=some (int i64 x.seq):=by rw[k2.cell,e];rfl
   have y2r:=cell_regrown (show W2.cell? ⟨wr.heap.size,2,none⟩=some (.string x.name) by rw[k2.cell,e];rfl);have y3r:=cell_regrown (show W2.cell? ⟨wr.heap.size,3,none⟩=some (int i64 x.length) by rw[k2.cell,e];rfl);have y7r:=cell_regrown (show W2.cell? ⟨wr.heap.size,7,none⟩=some (.slice Ad x.data.length cd) by rw[k2.cell,e];rfl);have HB2:=hid (show Below w5.heap.size w5 W2 from HB.out.trans (b22.mono hbz));have hki:(i:Int)<(L2.length:Int):=by omega
   have lS:∀dd os,Sem.run Tryz.prog (loadCellsFrom ⟨p,0,none⟩ 0 ks #[]) (grow (redrawn W2 dd) os)= .ok #[int i64 d.s.g,int i64 d.s.c,int i64 d.s.data,int i64 d.s.p,int i64 d.s.rows,int i64 d.s.cap,int i64 d.s.b,int i64 d.s.q,int i64 d.s.t] (grow (redrawn W2 dd) os):=fun dd os => HRUN.out _ (HBW.out.trans ((b22.trans ((below_regrown W2 dd os).mono b22.size)).mono (by rw[← HG.out];exact HBW.out.size)))
   have QH:=hid (AF (w:=W2) (fun W _ => HHO.out x.name hLx.1 W));have QP:=hid (AF (w:=W2) (fun W _ => HPP.out x.length hLx.2.2.1 (by have:=hLx.2.2.2;omega) W));obtain⟨nD,hnD⟩:∃nD,x.data.length=nD:=⟨_,rfl⟩;rw[hnD]at y7r;clear hat hat0 hW2 KZ hlen hZs k2 e b22 hxe r1 HB hLx;by_cases qd:nD=0
   ·subst qd;have HNF:=hid (show CF d.s.sh g n5 x=false by unfold CF Dg;simp[hnD]);clear HRK;go_wp2_with (first
     |(refine wpList_load_mid rfl 119 (.tmp 32) rfl b3 o3 rfl cs3 _ HRG.out Tryz.underlying119 rfl HI.out ?_)
     |(refine wpList_store_mid rfl 119 (.tmp 12) (.tmp 33) rfl wr.heap.size 0 cs3.toArray rfl rfl HTH.out HI2.out HON.out ?_;rw[HW2.out]))
    (refine wp_region_quiet_below (by kernel_rfl) (by kernel_rfl) ?_;(repeat(first|go_big_quiet_step (first|(go_at_call 133;exact QH.out _ _)|(go_at_call 200;exact QP.out _ _))|quiet_step (first|(go_at_call 133;exact QH.out _ _)|(go_at_call 200;exact QP.out _ _))));refine wpQuiet_nil ?_)
    rintro _ ⟨⟨dq,osq⟩,rfl⟩;have b23:Below W2.heap.size W2 (grow (redrawn W2 dq) osq):=below_regrown W2 dq osq;obtain⟨W3,hW3⟩:∃W3,grow (redrawn W2 dq) osq=W3:=⟨_,rfl⟩;simp only[hW3]at b23⊢;have HB3:=hid (show Below w5.heap.size w5 W3 from HB2.out.trans (b23.mono HB2.out.size));clear y1 y2r y3r y7r lS QH QP b23 hW3 HB2;go_wp2_with fail
    go_roundw
    case rel => exact⟨i+1,a,by omega,by go_num,rfl,HSTP.out HNF.out,HB3.out⟩
    case measure => simp[intOf];omega
   ·have hd0:¬(nD:Int)=0:=by omega
    have hd1:((nD:Int) == 0)=false:=by simpa using qd
    by_cases qh:Cr d.s.g x.name=g
    ·have hh:(Cr d.s.g x.name != g)=false:=by simpa using qh
     obtain⟨pn,hpn⟩:∃pn,Bp d.s.sh x.length=pn:=⟨_,rfl⟩;rw[hpn]at QP;by_cases qn:(n5:Int)<pn
     ·have hq1:decide ((n5:Int)<pn)=true:=decide_eq_true qn;have hqq:¬pn≤(n5:Int):=by omega
      have HNF:=hid (show CF d.s.sh g n5 x=false by unfold CF Dg;simp[hpn,hqq]);clear HRK;go_wp2_with (first
       |(refine wpList_load_mid rfl 119 (.tmp 32) rfl b3 o3 rfl cs3 _ HRG.out Tryz.underlying119 rfl HI.out ?_)
       |(refine wpList_store_mid rfl 119 (.tmp 12) (.tmp 33) rfl wr.heap.size 0 cs3.toArray rfl rfl HTH.out HI2.out HON.out ?_;rw[HW2.out]))
      (refine wp_region_quiet_below (by kernel_rfl) (by kernel_rfl) ?_;(repeat(first|go_big_quiet_step (first|(go_at_call 133;exact QH.out _ _)|(go_at_call 200;exact QP.out _ _))|quiet_step (first|(go_at_call 133;exact QH.out _ _)|(go_at_call 200;exact QP.out _ _))));refine wpQuiet_nil ?_)
      rintro _ ⟨⟨dq,osq⟩,rfl⟩;have b23:Below W2.heap.size W2 (grow (redrawn W2 dq) osq):=below_regrown W2 dq osq;obtain⟨W3,hW3⟩:∃W3,grow (redrawn W2 dq) osq=W3:=⟨_,rfl⟩;simp only[hW3]at b23⊢;have HB3:=hid (show Below w5.heap.size w5 W3 from HB2.out.trans (b23.mono HB2.out.size));clear y1 y2r y3r y7r lS QH QP b23 hW3 HB2;go_wp2_with fail
      go_roundw
      case rel => exact⟨i+1,a,by omega,by go_num,rfl,HSTP.out HNF.out,HB3.out⟩
      case measure => simp[intOf];omega
     ·have hq1:decide ((n5:Int)<pn)=false:=decide_eq_false qn;have hqq:pn≤(n5:Int):=by omega
      have HYF:=hid (show CF d.s.sh g n5 x=true by unfold CF Dg;rw[hpn,hnD];simp[qd,qh,hqq,Ba.sh]);clear hqq;go_wp2_with (first
       |(refine wpList_load_mid rfl 119 (.tmp 32) rfl b3 o3 rfl cs3 _ HRG.out Tryz.underlying119 rfl HI.out ?_)
       |(refine wpList_store_mid rfl 119 (.tmp 12) (.tmp 33) rfl wr.heap.size 0 cs3.toArray rfl rfl HTH.out HI2.out HON.out ?_;rw[HW2.out]))
      (refine wp_region_quiet_below (by kernel_rfl) (by kernel_rfl) ?_;(repeat(first|go_big_quiet_step (first|(go_at_call 133;exact QH.out _ _)|(go_at_call 200;exact QP.out _ _))|quiet_step (first|(go_at_call 133;exact QH.out _ _)|(go_at_call 200;exact QP.out _ _))));refine wpQuiet_nil ?_)
      rintro _ ⟨⟨dq,osq⟩,rfl⟩;have b23:Below W2.heap.size W2 (grow (redrawn W2 dq) osq):=below_regrown W2 dq osq;obtain⟨W3,hW3⟩:∃W3,grow (redrawn W2 dq) osq=W3:=⟨_,rfl⟩;simp only[hW3]at b23⊢;have HB3:=hid (show Below w5.heap.size w5 W3 from HB2.out.trans (b23.mono HB2.out.size));have y1':=(b23.cell (p:=⟨wr.heap.size,1,none⟩) hgb).trans y1;have hgb3:wr.heap.size<W3.heap.size:=Nat.lt_of_lt_of_le hgb b23.size;clear y1 y2r y3r y7r lS QH QP b23 hW3 HB2;have y1r:=cell_regrown y1';rcases HRK.out with⟨ha,-⟩|⟨k,ha,hk⟩
      ·subst ha;go_wp2_with fail
       (refine wp_region_quiet_below (by kernel_rfl) (by kernel_rfl) ?_;(repeat(first|go_big_quiet_step (fail)|quiet_step (fail)));refine wpQuiet_nil ?_)
       rintro _ ⟨⟨dq4,osq4⟩,rfl⟩;have b24:Below W3.heap.size W3 (grow (redrawn W3 dq4) osq4):=below_regrown W3 dq4 osq4;obtain⟨W4,hW4⟩:∃W4,grow (redrawn W3 dq4) osq4=W4:=⟨_,rfl⟩;simp only[hW4]at b24⊢;have HB4:=hid (show Below w5.heap.size w5 W4 from HB3.out.trans (b24.mono HB3.out.size));clear y1r y1' b24 hW4;go_wp2_with fail
       go_roundw
       case rel => exact⟨i+1,i,by omega,by go_num,by go_num,HFIT.out HYF.out,HB4.out⟩
       case measure => simp[intOf];omega
      ·subst ha;obtain⟨hkl,-⟩:=id hk;obtain⟨ad',bk,ok,csk,fk,hae,hatk0⟩:=HX.out k hkl;injection hae with hae
       subst hae;have hatk:=hatk0.below Ac.local_ HB3.out;have hplk:=hatk.place;have hplk4:ad.add (k * kr)=⟨bk,ok,none⟩:=by rw[HKR9.out];exact hatk.place
       obtain⟨v0',v1',v2',q0',q1',q2',e',-⟩:=hatk.reads;have hlk:=hatk.len;have z1:W3.cell? ⟨bk,ok+1,none⟩=some (int i64 L2[k].seq):=(hatk.cell 1 (by rw[hlk];omega)).trans (by simp only[e'];rfl);have hbk:=hatk.lt;have z1r:=cell_regrown z1;have hkk:(k:Int)<(L2.length:Int):=by omega
       have hk0:¬(k:Int)<0:=by omega
       have hk1:decide ((k:Int)<0)=false:=decide_eq_false hk0;obtain⟨sq,hsq⟩:∃sq,L2[k].seq =sq:=⟨_,rfl⟩;rw[hsq]at z1r;clear hatk0 hatk e' hlk z1 hsq;by_cases qs:x.seq<sq
       ·have hs1:decide (x.seq<sq)=true:=decide_eq_true qs;go_wp2_with fail
        (refine wp_region_quiet_below (by kernel_rfl) (by kernel_rfl) ?_;(repeat(first|go_big_quiet_step (fail)|quiet_step (fail)));refine wpQuiet_nil ?_)
        rintro _ ⟨⟨dq4,osq4⟩,rfl⟩;have b24:Below W3.heap.size W3 (grow (redrawn W3 dq4) osq4):=below_regrown W3 dq4 osq4;obtain⟨W4,hW4⟩:∃W4,grow (redrawn W3 dq4) osq4=W4:=⟨_,rfl⟩;simp only[hW4]at b24⊢;have HB4:=hid (show Below w5.heap.size w5 W4 from HB3.out.trans (b24.mono HB3.out.size));clear y1r y1' z1r b24 hW4;go_wp2_with fail
        go_roundw
        case rel => exact⟨i+1,i,by omega,by go_num,by go_num,HFIT.out HYF.out,HB4.out⟩
        case measure => simp[intOf];omega
       ·have hs1:decide (x.seq<sq)=false:=decide_eq_false qs;go_wp2_with fail
        (refine wp_region_quiet_below (by kernel_rfl) (by kernel_rfl) ?_;(repeat(first|go_big_quiet_step (fail)|quiet_step (fail)));refine wpQuiet_nil ?_)
        rintro _ ⟨⟨dq4,osq4⟩,rfl⟩;have b24:Below W3.heap.size W3 (grow (redrawn W3 dq4) osq4):=below_regrown W3 dq4 osq4;obtain⟨W4,hW4⟩:∃W4,grow (redrawn W3 dq4) osq4=W4:=⟨_,rfl⟩;simp only[hW4]at b24⊢;have HB4:=hid (show Below w5.heap.size w5 W4 from HB3.out.trans (b24.mono HB3.out.size));clear y1r y1' z1r b24 hW4;go_wp2_with fail
        go_roundw
        case rel => exact⟨i+1,k,by omega,by go_num,rfl,HOLD.out k hk,HB4.out⟩
        case measure => simp[intOf];omega
    ·have hh:(Cr d.s.g x.name != g)=true:=by simpa using qh
     have HNF:=hid (show CF d.s.sh g n5 x=false by unfold CF Dg;simp[qh,Ba.sh]);clear HRK;go_wp2_with (first
      |(refine wpList_load_mid rfl 119 (.tmp 32) rfl b3 o3 rfl cs3 _ HRG.out Tryz.underlying119 rfl HI.out ?_)
      |(refine wpList_store_mid rfl 119 (.tmp 12) (.tmp 33) rfl wr.heap.size 0 cs3.toArray rfl rfl HTH.out HI2.out HON.out ?_;rw[HW2.out]))
     (refine wp_region_quiet_below (by kernel_rfl) (by kernel_rfl) ?_;(repeat(first|go_big_quiet_step (first|(go_at_call 133;exact QH.out _ _)|(go_at_call 200;exact QP.out _ _))|quiet_step (first|(go_at_call 133;exact QH.out _ _)|(go_at_call 200;exact QP.out _ _))));refine wpQuiet_nil ?_)
     rintro _ ⟨⟨dq,osq⟩,rfl⟩;have b23:Below W2.heap.size W2 (grow (redrawn W2 dq) osq):=below_regrown W2 dq osq;obtain⟨W3,hW3⟩:∃W3,grow (redrawn W2 dq) osq=W3:=⟨_,rfl⟩;simp only[hW3]at b23⊢;have HB3:=hid (show Below w5.heap.size w5 W3 from HB2.out.trans (b23.mono HB2.out.size));clear y1 y2r y3r y7r lS QH QP b23 hW3 HB2;go_wp2_with fail
     go_roundw
     case rel => exact⟨i+1,a,by omega,by go_num,rfl,HSTP.out HNF.out,HB3.out⟩
     case measure => simp[intOf];omega
  ·obtain rfl:i=L2.length:=by omega
   rcases HRK.out with⟨ha,hno⟩|⟨k,ha,hkl,hkf⟩
   ·subst ha;rw[List.take_length]at hno;have HNOT:=hid (show C4 d g L2=false by rw[HNX.out];exact hno);obtain⟨W8,hW8⟩:∃W8,wr.setCells g0 0 (#[int i64 0,int i64 0,.string ⟨#[]⟩,int i64 0,int i64 0,int i64 0,.slice none 0 0,.slice none 0 0,.slice none 0 0]:Array Value).toList =W8:=⟨_,rfl⟩;have HW8:=hid hW8;have hK7:=HK5.out.below HB.out HK5.out.lt;have hks9:(Tryz.prog.info? 119).map (·.size)=some 9:=by kernel_rfl
    have HK8:=hid (show Blk W8 g0 119 #[int i64 0,int i64 0,.string ⟨#[]⟩,int i64 0,int i64 0,int i64 0,.slice none 0 0,.slice none 0 0,.slice none 0 0] by rw[← hW8];exact hK7.laid _ (by rw[← HZ.out];rfl));have HTH:=hid (Blk.there hK7 9 (by rw[← HZ.out];exact Nat.le_refl _));have HB8:=hid (show Below g0 w W8 by rw[← hW8];exact Aw HBW.out _ 0 (Nat.le_refl _));have hv:=Tryz.zeroValue119;clear hW8 hK7 hno;go_wp2_with (first
     |(refine wpList_store_mid rfl 119 (.tmp 4) (.tmp 76) rfl g0 0 #[int i64 0,int i64 0,.string ⟨#[]⟩,int i64 0,int i64 0,int i64 0,.slice none 0 0,.slice none 0 0,.slice none 0 0] rfl rfl HTH.out (by rw[hks9];rfl) (by simp[Value.oneCell']) ?_;rw[HW8.out]))
    have f1:Ending.returned (.tuple #[.agg ([int i64 0,int i64 0,.string ⟨#[]⟩,int i64 0,int i64 0,int i64 0,.slice none 0 0,.slice none 0 0,.slice none 0 0]:List Value).toArray,.slice none 0 0,.bool false])=Ending.returned (.tuple #[.agg ([int i64 0,int i64 0,.string ⟨#[]⟩,int i64 0,int i64 0,int i64 0,.slice none 0 0,.slice none 0 0,.slice none 0 0]:List Value).toArray,.slice none 0 0,.bool (C4 d g L2)]):=by rw[HNOT.out]
    have f2:∀u,u∈([int i64 0,int i64 0,.string ⟨#[]⟩,int i64 0,int i64 0,int i64 0,.slice none 0 0,.slice none 0 0,.slice none 0 0]:List Value)→u.oneCell'=true:=by simp[Value.oneCell']
    have f3:Below w.heap.size w W8:=by rw[HG.out];exact HB8.out
    refine⟨rfl,_,Ho (g:=g0) (v1:=.slice none 0 0) (v2:=.bool false) rfl _ _ _ _ _ rfl HK8.out Tryz.underlying119 rfl (by rw[hks9];rfl) rfl rfl,?_⟩;first
     |exact⟨L2,[int i64 0,int i64 0,.string ⟨#[]⟩,int i64 0,int i64 0,int i64 0,.slice none 0 0,.slice none 0 0,.slice none 0 0],.slice none 0 0,HLL.out,f1,rfl,f2,f3⟩
     |exact⟨L2,HLL.out,[int i64 0,int i64 0,.string ⟨#[]⟩,int i64 0,int i64 0,int i64 0,.slice none 0 0,.slice none 0 0,.slice none 0 0],.slice none 0 0,f1,rfl,f2,f3⟩
     |exact⟨L2,HLL.out,[int i64 0,int i64 0,.string ⟨#[]⟩,int i64 0,int i64 0,int i64 0,.slice none 0 0,.slice none 0 0,.slice none 0 0],⟨.slice none 0 0,f1⟩,rfl,f2,f3⟩
   ·subst ha;have HYES:=hid (show C4 d g L2=true by rw[HNX.out,List.any_eq_true];exact⟨_,List.getElem_mem hkl,hkf⟩);obtain⟨ad,bk,ok,csk,fk,rfl,hatk0⟩:=HX.out k hkl;have hbk5:bk<w5.heap.size:=hatk0.lt;have hlen:csk.length=9:=hatk0.len;have hkx:=HLX.out _ (List.getElem_mem hkl);have hplk:=hatk0.place;have hplk4:ad.add (k * kr)=⟨bk,ok,none⟩:=by rw[HKR9.out];exact hatk0.place
    have hone:=Ac.ones _ _ _ _ hatk0.reads;have hrds:=hatk0.reads;obtain⟨x,hxe⟩:∃x,L2[k] =x:=⟨_,rfl⟩;rw[hxe]at hrds hkx hkf;obtain⟨v0',v1',v2',q0',q1',q2',e',-⟩:=hrds;have hc0:w5.cell? ⟨bk,ok,none⟩=some (int i64 1):=(hatk0.cell 0 (by rw[hlen];omega)).trans (by simp only[e',hkx.2.1];rfl);have hne:bk≠g0:=fun e => by
     rw[e,HK5.out.cell,← HZ.out]at hc0;match ok,hc0 with
     |0,h => simp at h
     |1,h => simp at h
     |2,h => simp at h
     |3,h => simp at h
     |4,h => simp at h
     |5,h => simp at h
     |6,h => simp at h
     |7,h => simp at h
     |8,h => simp at h
     |o+9,h => simp at h
    have hagr:∀W,Below g0 w W→(∀q,(⟨bk,q,none⟩:Addr).block <w5.heap.size→W.cell? ⟨bk,q,none⟩=w5.cell? ⟨bk,q,none⟩)→(Sem.run Tryz.prog (loadCellsFrom ⟨bk,ok,none⟩ 0 kr #[]) W= .ok csk.toArray W∧Sem.run Tryz.prog (loadCellsFrom ⟨p,0,none⟩ 0 ks #[]) W= .ok #[int i64 d.s.g,int i64 d.s.c,int i64 d.s.data,int i64 d.s.p,int i64 d.s.rows,int i64 d.s.cap,int i64 d.s.b,int i64 d.s.q,int i64 d.s.t] W∧W.cell? ⟨bk,ok+3,none⟩=some (int i64 x.length)):=fun W h1 h2 => by
     refine⟨run_loadCellsFrom_list _ _ _ csk kr (by rw[HKR9.out];exact hlen) (fun q v hq => ?_),HRUN.out W h1,(h2 _ hbk5).trans ((hatk0.cell 3 (by rw[hlen];omega)).trans (by simp only[e'];rfl))⟩;rw[Addr.add_lit];have hq1:q<csk.length:=(List.getElem?_eq_some_iff.1 hq).1;exact(h2 _ hbk5).trans ((hatk0.cell q hq1).trans (by rw[← hq];exact(List.getElem?_eq_getElem hq1).symm))
    have HS1:=hid (show∀W,Below wr.heap.size wr W→(Sem.run Tryz.prog (loadCellsFrom ⟨bk,ok,none⟩ 0 kr #[]) W= .ok csk.toArray W∧Sem.run Tryz.prog (loadCellsFrom ⟨p,0,none⟩ 0 ks #[]) W= .ok #[int i64 d.s.g,int i64 d.s.c,int i64 d.s.data,int i64 d.s.p,int i64 d.s.rows,int i64 d.s.cap,int i64 d.s.b,int i64 d.s.q,int i64 d.s.t] W∧W.cell? ⟨bk,ok+3,none⟩=some (int i64 x.length))from fun W hW => by
     have hb:Below w5.heap.size w5 W:=HB.out.trans (hW.mono hbz);exact hagr W (HBW.out.trans (hW.mono (by rw[← HG.out];exact HBW.out.size))) (fun q hq => hb.cell hq))
    have HST:=hid (show∀W,Below wr.heap.size wr W→(Sem.run Tryz.prog (storeCells ⟨g0,0,none⟩ csk) W= .ok () (W.setCells g0 0 csk)∧(Sem.run Tryz.prog (loadCellsFrom ⟨bk,ok,none⟩ 0 kr #[]) (W.setCells g0 0 csk)= .ok csk.toArray (W.setCells g0 0 csk)∧Sem.run Tryz.prog (loadCellsFrom ⟨p,0,none⟩ 0 ks #[]) (W.setCells g0 0 csk)= .ok #[int i64 d.s.g,int i64 d.s.c,int i64 d.s.data,int i64 d.s.p,int i64 d.s.rows,int i64 d.s.cap,int i64 d.s.b,int i64 d.s.q,int i64 d.s.t] (W.setCells g0 0 csk)∧(W.setCells g0 0 csk).cell? ⟨bk,ok+3,none⟩=some (int i64 x.length))∧Blk (W.setCells g0 0 csk) g0 119 csk.toArray∧Below g0 w (W.setCells g0 0 csk))from fun W hW => by
     have hb:Below w5.heap.size w5 W:=HB.out.trans (hW.mono hbz);have hK:=HK5.out.below hb HK5.out.lt;have hbw:Below g0 w W:=HBW.out.trans (hW.mono (by rw[← HG.out];exact HBW.out.size));have hbs:Below g0 w (W.setCells g0 0 csk):=Aw hbw _ 0 (Nat.le_refl _);have hth:=Blk.there hK csk.length (by rw[hlen,← HZ.out];exact Nat.le_refl _);refine⟨?_,hagr _ hbs (fun q hq => ?_),hK.laid csk (by rw[hlen,← HZ.out];rfl),hbs⟩
     ·have h1:=run_storeCells_cells (P:=Tryz.prog) g0 0 csk 0 W (fun j hj => by have:=(hth j hj).1;simpa using this) (fun j hj => by have:=(hth j hj).2;simpa using this) hone;exact h1
     ·exact(World.cell?_setCells_out _ _ _ _ _ (fun e _ =>(hne e).elim)).trans (hb.cell hq))
    have hkk:(k:Int)<(L2.length:Int):=by omega
    have hk0:¬(k:Int)<0:=by omega
    have hk1:decide ((k:Int)<0)=false:=decide_eq_false hk0;have hlk:csk.length=kr:=by rw[HKR9.out];exact hlen
    have HQP:=hid (fun W => HPP.out x.length hkx.2.2.1 (by have:=hkx.2.2.2;omega) W);obtain⟨pn,hpn⟩:∃pn,Bp d.s.sh x.length=pn:=⟨_,rfl⟩;have hp1:1≤pn:=by
     rw[← hpn];unfold Bp;have:=hkx.2.2.1;have h5:=HR.out.ok.data;have:0≤(x.length - 1) / (4 * d.s.sh.data):=Int.ediv_nonneg (by omega) (by omega);omega
    have hp2:pn≤(n5:Int):=by
     unfold CF at hkf;rw[Bool.and_eq_true]at hkf;have:=hkf.2;rw[hpn]at this;exact of_decide_eq_true this
    rw[hpn]at HQP;obtain⟨q,hq⟩:∃q:Nat,pn=(q:Int):=⟨pn.toNat,by omega⟩;subst hq;have hqn:q≤n5:=by omega
    have hqc:q≤c5:=by omega
    have hq0:¬(q:Int)<0:=by omega
    have hqi:(q:Int)≤(c5:Int):=by omega
    have HLEN:=hid hlen;have HONE:=hid hone;have hz3:=HS1.out wr (Below.refl _ _);clear hatk0 hone e' hc0 hne hagr hkx hkf hxe hpn hlen;go_wp2_with fail
    go_region_held3 (fun W => Sem.run Tryz.prog (loadCellsFrom ⟨bk,ok,none⟩ 0 kr #[]) W= .ok csk.toArray W∧Sem.run Tryz.prog (loadCellsFrom ⟨p,0,none⟩ 0 ks #[]) W= .ok #[int i64 d.s.g,int i64 d.s.c,int i64 d.s.data,int i64 d.s.p,int i64 d.s.rows,int i64 d.s.cap,int i64 d.s.b,int i64 d.s.q,int i64 d.s.t] W∧W.cell? ⟨bk,ok+3,none⟩=some (int i64 x.length))
     (first|(refine HS1.out _ ?_;(repeat(with_reducible first|assumption|exact Below.refl _ _|apply Ah|apply AL));done)|exact k8)
     (first
      |(go_at_call 200;refine(HQP.out _).mono ?_;rintro e w7 ⟨rfl,b7⟩;have B7:=Below.viaQ (a:=wr) (by repeat(with_reducible first|assumption|exact Below.refl _ _|apply Ah|apply AL)) b7;have st7:=(HST.out w7 B7).1;have k8:=(HST.out w7 B7).2.1))
    have f1:Ending.returned (.tuple #[.agg csk.toArray,.slice A5 q c5,.bool true])=Ending.returned (.tuple #[.agg csk.toArray,.slice A5 q c5,.bool (C4 d g L2)]):=by rw[HYES.out]
    have f3:Below w.heap.size w (w7.setCells g0 0 csk):=by rw[HG.out];exact(HST.out w7 B7).2.2.2
    have hK8:=(HST.out w7 B7).2.2.1;have hI8:(Tryz.prog.info? 119).map (·.size)=some csk.toArray.size:=by rw[List.size_toArray,HLEN.out];kernel_rfl
    go_wp2_with fail
    refine⟨rfl,_,Ho (g:=g0) (v1:=.slice A5 q c5) (v2:=.bool true) rfl _ _ _ _ _ rfl hK8 Tryz.underlying119 rfl hI8 rfl rfl,?_⟩;first
     |exact⟨L2,csk,.slice A5 q c5,HLL.out,f1,HLEN.out,HONE.out,f3⟩
     |exact⟨L2,HLL.out,csk,.slice A5 q c5,f1,HLEN.out,HONE.out,f3⟩
theorem l9Next_c(p:Nat)(fs:List Addr)(d:AC)(g:Int)(w:World)(h:AtW w p fs d)(h2:d.v.length=2)(hR:Ez d)(hrl:∀r,r∈AV d→r.kind=1→r.rows.length≤100) :
  Calls Tryz.prog 119 #[.pointer (some ⟨p,0,none⟩),int i64 g] w fun e w' =>∃(L:List Ag) (cs':List Value) (vs:Value),BS (AV d) L∧e= .returned (.tuple #[.agg cs'.toArray,vs,.bool (C4 d g L)])∧cs'.length=9∧(∀u,u∈cs'→u.oneCell'=true)∧Below w.heap.size w w' :=
 l9Next_k 9 rfl Tryz.sizeOf31 Tryz.isAgg31 9 rfl Tryz.sizeOf119 Tryz.isAgg119 p fs d g w h h2 hR hrl
end Go.Proofs.YtfjkoifpdoemdaaGreat
