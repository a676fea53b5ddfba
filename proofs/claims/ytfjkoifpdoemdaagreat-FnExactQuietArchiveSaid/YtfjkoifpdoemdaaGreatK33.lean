/-
  Part 33 of the proof; the last part states and proves the statement.
-/
import Derived.Test.YtfjkoifpdoemdaaGreatK25
import Derived.Test.YtfjkoifpdoemdaaGreatK10
import Derived.Test.YtfjkoifpdoemdaaGreatK13
import Derived.Test.YtfjkoifpdoemdaaGreatK30
set_option maxHeartbeats 8000000
set_option maxRecDepth 100000
set_option linter.unusedVariables false
set_option linter.unusedSimpArgs false
open Go.Value (int)
open Go.IntKind (i64)
namespace Go.Proofs.YtfjkoifpdoemdaaGreat
open Go.RowKit Go.Lib Go.Sort
theorem Cells.shapeRunQ {w:World} {p:Nat} {fs:List Addr} {d:AC} {A0 A1 A2:Option Addr} {c0 c1 c2:Nat} {f0 f1 f2:List Addr}(h:Cells w p fs d A0 A1 A2 c0 c1 c2 f0 f1 f2)(ks:Nat)(hks:ks=9) :
  Sem.run Tryz.prog (loadCellsFrom ⟨p,0,none⟩ 0 ks #[]) w= .ok #[int i64 d.s.g,int i64 d.s.c,int i64 d.s.data,int i64 d.s.p,int i64 d.s.rows,int i64 d.s.cap,int i64 d.s.b,int i64 d.s.q,int i64 d.s.t] w :=
 run_loadCellsFrom_list _ _ _ [int i64 d.s.g,int i64 d.s.c,int i64 d.s.data,int i64 d.s.p,int i64 d.s.rows,int i64 d.s.cap,int i64 d.s.b,int i64 d.s.q,int i64 d.s.t] ks (by rw[hks];rfl) (fun q v hq => by
  rw[Addr.add_lit];match q,hq with
  |0,hq => simp at hq;subst hq;exact h.n0
  |1,hq => simp at hq;subst hq;exact h.n1
  |2,hq => simp at hq;subst hq;exact h.n2
  |3,hq => simp at hq;subst hq;exact h.n3
  |4,hq => simp at hq;subst hq;exact h.n4
  |5,hq => simp at hq;subst hq;exact h.n5
  |6,hq => simp at hq;subst hq;exact h.n6
  |7,hq => simp at hq;subst hq;exact h.n7
  |8,hq => simp at hq;subst hq;exact h.n8
  |q+9,hq => simp at hq)
theorem DI {all:List Ag} {x:Ag}(h:I6 all x):x∈all∧x.kind=1∧x.length≠ -1:=by
 obtain⟨k,hk,e,h1,h2,-⟩:=h;exact⟨e ▸ List.getElem_mem hk,h1,h2⟩
def BM(nr:Nat)(u:List Int):Array Value:=((List.range nr).map fun(k:Nat) => Value.bool (decide ((k:Int)∈u))).toArray
theorem LW(nr:Nat):madeCells #[.bool false] nr=BM nr []:=by
 apply Array.toList_inj.1
 rw[toList_madeCells_one];unfold BM;refine List.ext_getElem (by simp) fun k h1 h2 => by simp
theorem FF {nr k:Nat}(u:List Int)(h:k<nr):(BM nr u)[k]? =some (.bool (decide ((k:Int)∈u))):=by
 unfold BM;simp[h]
theorem Hw {nr k:Nat}(u:List Int)(h:k<nr):(BM nr u).setIfInBounds k (.bool true)=BM nr (u ++ [(k:Int)]):=by
 apply Array.toList_inj.1
 unfold BM;refine List.ext_getElem (by simp) fun j h1 h2 => ?_
 simp only[Array.toList_setIfInBounds,List.getElem_set,List.getElem_map,List.getElem_range];by_cases e:k=j
 ·subst e;simp
 ·have e2:¬(j:Int)=(k:Int):=by omega
  simp[e,e2]
def Ca(groups g:Int)(L:List Ag):List Int:=(L.filter fun x => decide (Cr groups x.name=g)).flatMap Ag.rows
theorem Hz(groups g:Int) {L:List Ag} {i:Nat}(h:i<L.length):Ca groups g (L.take (i+1))=Ca groups g (L.take i) ++(if Cr groups L[i].name =g then L[i].rows else []):=by
 unfold Ca;rw[List.take_succ_eq_append_getElem h,List.filter_append,List.flatMap_append];by_cases e:Cr groups L[i].name =g
 ·simp[e]
 ·simp[e]
def Ec(g:Int)(x:Ag):Bool:=(decide (x.kind=2) && decide (x.group=g))||decide (x.kind=4)
def Cy(g:Int)(all:List Ag):List Int:=(all.filter (Ec g)).map Ag.row
theorem Hy(g:Int) {all:List Ag} {i:Nat}(h:i<all.length):Cy g (all.take (i+1))=Cy g (all.take i) ++(if Ec g all[i] =true then [all[i].row]else []):=by
 unfold Cy;rw[List.take_succ_eq_append_getElem h,List.filter_append,List.map_append];by_cases e:Ec g all[i] =true
 ·simp[e]
 ·simp[e]
def CW(nr:Nat)(u:List Int):List Int:=((List.range nr).filter fun(k:Nat) => decide ((k:Int)∉u)).map fun(k:Nat) =>(k:Int)
theorem He(k:Nat)(u:List Int):CW (k+1) u=CW k u ++(if(k:Int)∈u then []else [(k:Int)]):=by
 unfold CW;rw[List.range_succ,List.filter_append,List.map_append];by_cases e:(k:Int)∈u
 ·simp[e]
 ·simp[e]
theorem F2(k:Nat)(u:List Int):(CW k u).length≤k:=by
 unfold CW;rw[List.length_map];exact Nat.le_trans (List.length_filter_le _ _) (by simp)
theorem Ic {w:World} {b k:Nat} {v:Value} {a:Addr}(h:a.block≠b):(w.setCell ⟨b,k,none⟩ v).cell? a=w.cell? a:=World.cell?_of_block (Below.heap_setCell w ⟨b,k,none⟩ v a.block h)
theorem Lj(ks:Nat)(hks:ks=9)(zS:∀w,(Go.sizeOf 31).run Tryz.prog w= .ok ks w)(aS:∀w,(isAgg 31).run Tryz.prog w= .ok true w)(p:Nat)(fs:List Addr)(d:AC)(g:Int)(w:World)(h:AtW w p fs d)(hok:d.s.sh.Ok)(hsm:(CJ d).length≤1000000)(hnm:∀r,r∈AV d→r.name.size≤1000000)
  (hr1:∀r,r∈AV d→r.kind=1→∀k,k∈r.rows→0≤k∧k<d.s.rows) (hr2:∀r,r∈AV d→r.kind=2∨r.kind=4→0≤r.row∧r.row<d.s.rows) :
  Calls Tryz.prog 224 #[.pointer (some ⟨p,0,none⟩),int i64 g] w fun e w' =>∃L A c,BS (AV d) L∧e= .returned (.slice A (CW d.s.rows.toNat (Ca d.s.g g L ++ Cy g (AV d))).length c)∧Below w.heap.size w w':=by
 obtain⟨nr,hnr⟩:∃nr:Nat,d.s.rows=(nr:Int):=⟨d.s.rows.toNat,by have:=hok.rows.1;simp only[Ba.sh]at this;omega⟩;have hnr6:nr≤6:=by have:=hok.rows.2;simp only[Ba.sh]at this;omega
 obtain⟨A0,A1,A2,c0,c1,c2,f0,f1,f2,HC⟩:=h.cells;have n4:w.cell? ⟨p,4,none⟩=some (int i64 (nr:Int)):=by rw[← hnr];exact HC.n4
 have hp:=HC.lt;obtain⟨tb,htb⟩:∃tb,w.heap.size=tb:=⟨_,rfl⟩;obtain⟨W1,hW1⟩:∃W1,w.alloc (.cells (madeCells #[.bool false] nr) 4)=W1:=⟨_,rfl⟩;have hmk:=BI Tryz.prog 302 4 (.bool false) 1 1 Tryz.underlying302 (by kernel_rfl) nr (by omega) (by omega) w;rw[Nat.mul_one,show(Value.bool false).cells = #[.bool false]from rfl,hW1,htb]at hmk;have hB1:Below tb w W1:=by rw[← hW1,← htb];exact Ah (Below.refl _ _) _
 have K1:Blk W1 tb 4 (BM nr []):=by rw[← hW1,← htb,← LW];exact Blk.new w _ _
 have z1:W1.heap.size=tb+1:=by rw[← hW1,← htb];simp
 have HA:=hid (show∀W,Below tb w W→AtW W p fs d from fun W hW => h.below (by rw[htb];exact hW));have HN:=hid (newest_c p fs d W1 (HA.out W1 hB1) hsm hnm);have HCT:=hid (fun(W:World) (hW:Below tb w W) => EO p fs d W (HA.out W hW) hsm);have HFS:=hid (show∀a,a∈fs→a.block<tb from by obtain⟨_,hr,-⟩:=h;rw[← htb];exact AB.fixed _ _ _ _ hr);have hho:=fun nm hn W => Jo d.s.sh hok nm hn W
 unfold shV at hho;simp only[Ba.sh]at hho;have HHO:=hid hho;have HKS:=hid (show∀W,Below tb w W→Sem.run Tryz.prog (loadCellsFrom ⟨p,0,none⟩ 0 ks #[]) W= .ok #[int i64 d.s.g,int i64 d.s.c,int i64 d.s.data,int i64 d.s.p,int i64 d.s.rows,int i64 d.s.cap,int i64 d.s.b,int i64 d.s.q,int i64 d.s.t] W from fun W hW => by
  obtain⟨A0',A1',A2',c0',c1',c2',f0',f1',f2',HC⟩:=(HA.out W hW).cells;exact HC.shapeRunQ ks hks)
 have hl:=Dd d;obtain⟨all,hall⟩:∃all,AV d=all:=⟨_,rfl⟩;have HNM:=hid hnm;have HR1:=hid hr1;have HR2:=hid hr2;rw[hall]at HN HCT HNM HR1 HR2 hl⊢;have hN:all.length≤1000000:=by omega
 have HB1:=hid hB1;have HK1:=hid K1;have HZ1:=hid z1;have HTB:=hid htb;have HNR:=hid hnr;have hks0:¬ks=0:=by omega
 have hks1:0<ks:=by omega
 rw[hnr,Int.toNat_natCast];clear h hB1 K1 hnm hr1 hr2 hho hl hall hsm HC hnr hks;go_enter Tryz.func224,Tryz.ntmps224
 go_wp2_with fail
 clear hW1 htb z1 hmk;go_wp2_with (go_at_call 135;refine HN.out.mono ?_;rintro e w2 ⟨L,A,c,fa,rfl,hlv,ra,pa,b2⟩;have HLV:=hid hlv;have RA:=hid ra;have PA:=hid pa;have B2:=hid b2;clear hlv ra pa b2)
 obtain⟨A',c',ev,hc,hm,hx⟩:=rSl.at_ Ac.fixed (by omega) RA.out;injection ev with ev1 ev2 ev3
 subst ev1 ev3;have hx2:∀j,(hj:j<L.length)→∃ad b o cs fk,A=some ad∧At 9 Ac w2 fa ad j b o cs fk L[j]∧b≠tb∧∀a,a∈fk→a.block≠tb:=fun j hj => by
  obtain⟨ad,b,o,cs,fk,e,hat⟩:=hx j hj;have hne:∀a,a∈fa→a.block≠tb:=fun a ha => by
   rcases PA.out a ha with q|q
   ·have:=HFS.out a q;omega
   ·have:=HZ1.out;omega
  exact⟨ad,b,o,cs,fk,e,hat,by have:=hne _ (hat.mem 0 (by omega));exact this,fun a ha => hne a (hat.sub a ha)⟩
 have HX:=hid hx2;have HBW2:=hid (show Below tb w w2 from HB1.out.trans (B2.out.mono (by have:=HZ1.out;omega)));have HK2:=hid (show Blk w2 tb 4 (BM nr (Ca d.s.g g (L.take 0)))from HK1.out.below B2.out HK1.out.lt);have hz2:tb<w2.heap.size:=HK2.out.lt;have HL:=hid (show∀x,x∈L→x.name.size≤1000000∧∀k,k∈x.rows→0≤k∧k<(nr:Int)from fun x hx => by
  obtain⟨h1,h2,-⟩:=DI ((HLV.out.mem x).1 hx);exact⟨HNM.out x h1,by rw[← HNR.out];exact HR1.out x h1 h2⟩)
 clear hx hx2 ev2 HN HK1 HR1 HNM;go_loopw [24] (fun ix wr =>∃i:Nat,i≤L.length∧ix= int i64 i∧Hid (Blk wr tb 4 (BM nr (Ca d.s.g g (L.take i))))∧Hid (∀a:Addr,a.block<w2.heap.size→a.block≠tb→wr.cell? a=w2.cell? a)∧Hid (Below tb w wr)∧w2.heap.size≤wr.heap.size) (fun ix _ => L.length - (intOf ix).toNat)
 case atStart => exact⟨0,by omega,rfl,HK2.out,fun a _ _ => rfl,HBW2.out,Nat.le_refl _⟩
 case round =>
  obtain⟨i,hi,rfl,HK,HSA,HB,hsz⟩:=hrel;by_cases hlt:i<L.length
  ·obtain⟨ad,b3,o3,cs3,f3,rfl,hat,hnb,hnf⟩:=HX.out i hlt;have hpl3:=hat.place;have hbl3:b3<w2.heap.size:=hat.lt;have hlen:cs3.length=9:=hat.len;have HR:=hid (show wr.rangeAt b3 o3 cs3 from fun q v hq => by
    have hq1:q<cs3.length:=(List.getElem?_eq_some_iff.1 hq).1;rw[HSA.out _ hbl3 hnb,hat.cell q hq1,← hq];exact(List.getElem?_eq_getElem hq1).symm)
   have HI:=hid (show(Tryz.prog.info? 119).map (·.size)=some cs3.length by rw[hlen];kernel_rfl);have HI2:=hid (show(Tryz.prog.info? 119).map (·.size)=some cs3.toArray.size by rw[List.size_toArray,hlen];kernel_rfl);have HON:=hid (all_oneCell_toArray (Ac.ones _ _ _ _ hat.reads));obtain⟨Z,hZ⟩:∃Z:Array Value,#[int i64 0,int i64 0,.string ⟨#[]⟩,int i64 0,int i64 0,int i64 0,.slice none 0 0,.slice none 0 0,.slice none 0 0] =Z:=⟨_,rfl⟩;have hZs:Z.size=9:=by rw[← hZ];rfl
   have KZ:=Blk.new wr 119 Z;have HTH:=hid (Blk.there KZ cs3.toArray.size (by rw[List.size_toArray,hlen,hZs];exact Nat.le_refl _));obtain⟨W2,hW2⟩:∃W2,(wr.alloc (.cells Z 119)).setCells wr.heap.size 0 cs3.toArray.toList=W2:=⟨_,rfl⟩;have k2:Blk W2 wr.heap.size 119 cs3.toArray:=by rw[← hW2];exact Blk.laid KZ _ (by rw[hZs];exact hlen.symm)
   have b22:Below wr.heap.size wr W2:=by rw[← hW2];exact Aw (Ah (Below.refl _ _) _) _ 0 (Nat.le_refl _)
   have HW2:=hid hW2;have hgb:=k2.lt;have hrds:=hat.reads;obtain⟨x,hxe⟩:∃x,L[i] =x:=⟨_,rfl⟩;have hLx:=HL.out _ (List.getElem_mem hlt);have HST:=hid (Hz d.s.g g hlt);rw[hxe]at hrds hLx HST;dsimp only[Ac]at hrds;obtain⟨v0,v1,v2,q0,q1,q2,e,hsub,-,-,-,-,-,-,r0,-,-⟩:=hrds;obtain⟨Ar,cr,rfl,hcr,hmr,hxr⟩:=Bg.open_ r0;have y2:W2.cell? ⟨wr.heap.size,2,none⟩=some (.string x.name):=by rw[k2.cell,e];rfl
   have y6:W2.cell? ⟨wr.heap.size,6,none⟩=some (.slice Ar x.rows.length cr):=by rw[k2.cell,e];rfl
   have HSA2:=hid (show∀a:Addr,a.block<w2.heap.size→a.block≠tb→W2.cell? a=w2.cell? a from fun a ha hb =>(b22.cell (p:=a) (by omega)).trans (HSA.out a ha hb));have HB2:=hid (show Below tb w W2 from HB.out.trans (b22.mono (by omega)));have HKW:=hid (HK.out.below b22 HK.out.lt);have HXR:=hid (show∀k,(hk:k<x.rows.length)→∃ad,Ar=some ad∧∀W:World,(∀a:Addr,a.block<w2.heap.size→a.block≠tb→W.cell? a=w2.cell? a)→W.cell? (ad.add k)=some (int i64 x.rows[k])from fun k hk => by
    obtain⟨ad,h1,h2,h3,h4,-⟩:=hxr k hk;exact⟨ad,h1,fun W hW =>(hW _ h3 (hnf _ (by rw[hsub];exact List.mem_append_left _ h2))).trans h4⟩)
   have hki:(i:Int)<(L.length:Int):=by omega
   have lS:∀dd os,Sem.run Tryz.prog (loadCellsFrom ⟨p,0,none⟩ 0 ks #[]) (grow (redrawn W2 dd) os)= .ok #[int i64 d.s.g,int i64 d.s.c,int i64 d.s.data,int i64 d.s.p,int i64 d.s.rows,int i64 d.s.cap,int i64 d.s.b,int i64 d.s.q,int i64 d.s.t] (grow (redrawn W2 dd) os):=fun dd os => HKS.out _ (HB2.out.trans ((below_regrown W2 dd os).mono (by omega)))
   have y2r:=cell_regrown y2;have QH:=hid (AF (w:=W2) (fun W _ => HHO.out x.name hLx.1 W));obtain⟨u,hu⟩:∃u,Ca d.s.g g (L.take i)=u:=⟨_,rfl⟩;rw[hu]at HKW HST;obtain⟨g3,hg3⟩:∃g3,wr.heap.size=g3:=⟨_,rfl⟩;have hsz2:w2.heap.size≤W2.heap.size:=by have:=b22.size;omega
   have HSZ2:=hid hsz2;clear hat hW2 KZ hlen hZs k2 e b22 hxe hu hnf hxr r0 HK HSA HB hg3 hsz2;by_cases qh:Cr d.s.g x.name=g
   ·rw[if_pos qh]at HST;have hh:(Cr d.s.g x.name == g)=true:=by simpa using qh
    clear qh;go_wp2_with (first
     |(refine wpList_load_mid rfl 119 (.tmp 26) rfl b3 o3 rfl cs3 _ HR.out Tryz.underlying119 rfl HI.out ?_)
     |(refine wpList_store_mid rfl 119 (.tmp 7) (.tmp 27) rfl wr.heap.size 0 cs3.toArray rfl rfl HTH.out HI2.out HON.out ?_;rw[HW2.out]))
    (refine wp_region_quiet_below (by kernel_rfl) (by kernel_rfl) ?_;(repeat(first|go_big_quiet_step (first|(go_at_call 139;exact QH.out _ _))|quiet_step (first|(go_at_call 139;exact QH.out _ _))));refine wpQuiet_nil ?_)
    rintro _ ⟨⟨dq,osq⟩,rfl⟩;have b23:Below W2.heap.size W2 (grow (redrawn W2 dq) osq):=below_regrown W2 dq osq;obtain⟨W3,hW3⟩:∃W3,grow (redrawn W2 dq) osq=W3:=⟨_,rfl⟩;simp only[hW3]at b23⊢;have y6':=(b23.cell (p:=⟨wr.heap.size,6,none⟩) hgb).trans y6;have HSA3:=hid (show∀a:Addr,a.block<w2.heap.size→a.block≠tb→W3.cell? a=w2.cell? a from fun a ha hb =>(b23.cell (p:=a) (by have:=HSZ2.out;omega)).trans (HSA2.out a ha hb));have HB3:=hid (show Below tb w W3 from HB2.out.trans (b23.mono (by have:=HSZ2.out;omega)));have HK3:=hid (show Blk W3 tb 4 (BM nr (u ++ x.rows.take 0))from by rw[List.take_zero,List.append_nil];exact HKW.out.below b23 HKW.out.lt);have HSZ3:=hid (show w2.heap.size≤W3.heap.size by have:=HSZ2.out;have:=b23.size;omega);clear y2 y6 y2r lS QH b23 HSA2 HB2 HKW hW3;go_wp2_with fail
    clear y6';go_loopw [40] (fun ix wx =>∃j:Nat,j≤x.rows.length∧ix= int i64 j∧Hid (Blk wx tb 4 (BM nr (u ++ x.rows.take j)))∧Hid (∀a:Addr,a.block<w2.heap.size→a.block≠tb→wx.cell? a=w2.cell? a)∧Hid (Below tb w wx)∧Hid (w2.heap.size≤wx.heap.size)) (fun ix _ => x.rows.length - (intOf ix).toNat)
    case atStart => exact⟨0,by omega,rfl,HK3.out,HSA3.out,HB3.out,HSZ3.out⟩
    case round =>
     clear HK3 HSA3 HB3 HSZ3;obtain⟨j,hj,rfl,HK,HSA,HB,HSZ⟩:=hrel;by_cases hjl:j<x.rows.length
     ·obtain⟨ad4,rfl,h4⟩:=HXR.out j hjl;have q0:=h4 wr HSA.out;have hrw:=hLx.2 _ (List.getElem_mem hjl);obtain⟨m,hm⟩:∃m:Nat,x.rows[j] =(m:Int):=⟨x.rows[j].toNat,by omega⟩;rw[hm]at q0 hrw;have hmr:m<nr:=by omega
      have q1:wr.cell? ⟨tb,m,none⟩=some (.bool (decide ((m:Int)∈u ++ x.rows.take j))):=(HK.out.cell m).trans (FF _ hmr);have q2:=HK.out.frozen m;have q3:=HK.out.lt;have HPUT:=hid (show Blk (wr.setCell ⟨tb,m,none⟩ (.bool true)) tb 4 (BM nr (u ++ x.rows.take (j+1)))from by
       have h5:=HK.out.set_ m (.bool true);rw[Hw _ hmr]at h5;rw[List.take_succ_eq_append_getElem hjl,hm,← List.append_assoc];exact h5)
      obtain⟨bx,hbx⟩:∃bx,decide ((m:Int)∈u ++ x.rows.take j)=bx:=⟨_,rfl⟩;rw[hbx]at q1;have hmi:(m:Int)<(nr:Int):=hrw.2;have hji:(j:Int)<(x.rows.length:Int):=by omega
      clear hbx h4 hm HK;go_wp2_with fail
      go_roundw
      case rel => exact⟨j+1,by omega,by go_num,HPUT.out,fun a ha hb =>(Ic hb).trans (HSA.out a ha hb),HB.out.setCell (Nat.le_refl _) _,(show w2.heap.size≤_ by have:=HSZ.out;simpa [World.setCell]using this)⟩
      case measure => simp[intOf];omega
     ·obtain rfl:j=x.rows.length:=by omega
      go_wp2_with fail
      go_roundw
      case rel => exact⟨i+1,by omega,by go_num,by have:=HK.out;rw[List.take_length]at this;rw[HST.out];exact this,HSA.out,HB.out,HSZ.out⟩
      case measure => simp[intOf];omega
   ·rw[if_neg qh,List.append_nil]at HST;have hh:(Cr d.s.g x.name == g)=false:=by simpa using qh
    clear qh;go_wp2_with (first
     |(refine wpList_load_mid rfl 119 (.tmp 26) rfl b3 o3 rfl cs3 _ HR.out Tryz.underlying119 rfl HI.out ?_)
     |(refine wpList_store_mid rfl 119 (.tmp 7) (.tmp 27) rfl wr.heap.size 0 cs3.toArray rfl rfl HTH.out HI2.out HON.out ?_;rw[HW2.out]))
    (refine wp_region_quiet_below (by kernel_rfl) (by kernel_rfl) ?_;(repeat(first|go_big_quiet_step (first|(go_at_call 139;exact QH.out _ _))|quiet_step (first|(go_at_call 139;exact QH.out _ _))));refine wpQuiet_nil ?_)
    rintro _ ⟨⟨dq,osq⟩,rfl⟩;have b23:Below W2.heap.size W2 (grow (redrawn W2 dq) osq):=below_regrown W2 dq osq;obtain⟨W3,hW3⟩:∃W3,grow (redrawn W2 dq) osq=W3:=⟨_,rfl⟩;simp only[hW3]at b23⊢;have HSA3:=hid (show∀a:Addr,a.block<w2.heap.size→a.block≠tb→W3.cell? a=w2.cell? a from fun a ha hb =>(b23.cell (p:=a) (by have:=HSZ2.out;omega)).trans (HSA2.out a ha hb));have HB3:=hid (show Below tb w W3 from HB2.out.trans (b23.mono (by have:=HSZ2.out;omega)));have HK3:=hid (show Blk W3 tb 4 (BM nr u)from HKW.out.below b23 HKW.out.lt);have HSZ3:=hid (show w2.heap.size≤W3.heap.size by have:=HSZ2.out;have:=b23.size;omega);clear y2 y6 y2r lS QH b23 HSA2 HB2 HKW hW3;go_wp2_with fail
    go_roundw
    case rel => exact⟨i+1,by omega,by go_num,by rw[HST.out];exact HK3.out,HSA3.out,HB3.out,HSZ3.out⟩
    case measure => simp[intOf];omega
  ·obtain rfl:i=L.length:=by omega
   have HKE:=hid (show Blk wr tb 4 (BM nr (Ca d.s.g g L))from by have:=HK.out;rw[List.take_length]at this;exact this);have HC2:=hid (HCT.out wr HB.out);have hsa:=HSA;clear HK HSA HX HL;go_wp2_with (go_at_call 126;refine HC2.out.mono ?_;rintro e w3 ⟨A3,c3,fb,rfl,rb,pb,b3⟩;have RB:=hid rb;have PB:=hid pb;have B3:=hid b3;clear rb pb b3)
   have HBW3:=hid (show Below tb w w3 from HB.out.trans (B3.out.mono (by have:=HKE.out.lt;omega)));have HK3:=hid (show Blk w3 tb 4 (BM nr (Ca d.s.g g L ++ Cy g (all.take 0)))from by
    show Blk w3 tb 4 (BM nr (Ca d.s.g g L ++ []))
    rw[List.append_nil];exact HKE.out.below B3.out HKE.out.lt)
   have hz3:tb<wr.heap.size:=HKE.out.lt;obtain⟨UL,hUL⟩:∃UL,Ca d.s.g g L=UL:=⟨_,rfl⟩;rw[hUL]at HK3;have HUL:=hid hUL;obtain⟨A4,c4,ev,hc,hm,hx⟩:=rSl.at_ Ac.fixed (by omega) RB.out;injection ev with ev1 ev2 ev3
   subst ev1 ev3;have hx2:∀j,(hj:j<all.length)→∃ad b o cs fk,A3=some ad∧At 9 Ac w3 fb ad j b o cs fk all[j]∧b≠tb:=fun j hj => by
    obtain⟨ad,b,o,cs,fk,e,hat⟩:=hx j hj;refine⟨ad,b,o,cs,fk,e,hat,?_⟩;have h0:=hat.mem 0 (by omega);rcases PB.out _ h0 with q|q
    ·have:=HFS.out _ q;simp only at this;omega
    ·simp only at q;omega
   have HX:=hid hx2;clear hx hx2 ev2 HKE hUL hsa HC2 HB hz3 hsz;go_loopw [52] (fun ix wx =>∃i:Nat,i≤all.length∧ix= int i64 i∧Hid (Blk wx tb 4 (BM nr (UL ++ Cy g (all.take i))))∧Hid (∀a:Addr,a.block<w3.heap.size→a.block≠tb→wx.cell? a=w3.cell? a)∧Hid (Below tb w wx)∧w3.heap.size≤wx.heap.size) (fun ix _ => all.length - (intOf ix).toNat)
   case atStart => exact⟨0,by omega,rfl,HK3.out,fun a _ _ => rfl,HBW3.out,Nat.le_refl _⟩
   case round =>
    clear HK3 HBW3;obtain⟨i,hi,rfl,HK,HSA,HB,hsz⟩:=hrel;by_cases hlt:i<all.length
    ·obtain⟨ad,b3,o3,cs3,f3,rfl,hat,hnb⟩:=HX.out i hlt;have hpl3:=hat.place;have hbl3:b3<w3.heap.size:=hat.lt;have hlen:cs3.length=9:=hat.len;have HR:=hid (show wr.rangeAt b3 o3 cs3 from fun q v hq => by
      have hq1:q<cs3.length:=(List.getElem?_eq_some_iff.1 hq).1;rw[HSA.out _ hbl3 hnb,hat.cell q hq1,← hq];exact(List.getElem?_eq_getElem hq1).symm)
     have HI:=hid (show(Tryz.prog.info? 119).map (·.size)=some cs3.length by rw[hlen];kernel_rfl);have HI2:=hid (show(Tryz.prog.info? 119).map (·.size)=some cs3.toArray.size by rw[List.size_toArray,hlen];kernel_rfl);have HON:=hid (all_oneCell_toArray (Ac.ones _ _ _ _ hat.reads));obtain⟨Z,hZ⟩:∃Z:Array Value,#[int i64 0,int i64 0,.string ⟨#[]⟩,int i64 0,int i64 0,int i64 0,.slice none 0 0,.slice none 0 0,.slice none 0 0] =Z:=⟨_,rfl⟩;have hZs:Z.size=9:=by rw[← hZ];rfl
     have KZ:=Blk.new wr 119 Z;have HTH:=hid (Blk.there KZ cs3.toArray.size (by rw[List.size_toArray,hlen,hZs];exact Nat.le_refl _));obtain⟨W2,hW2⟩:∃W2,(wr.alloc (.cells Z 119)).setCells wr.heap.size 0 cs3.toArray.toList=W2:=⟨_,rfl⟩;have k2:Blk W2 wr.heap.size 119 cs3.toArray:=by rw[← hW2];exact Blk.laid KZ _ (by rw[hZs];exact hlen.symm)
     have b22:Below wr.heap.size wr W2:=by rw[← hW2];exact Aw (Ah (Below.refl _ _) _) _ 0 (Nat.le_refl _)
     have HW2:=hid hW2;have hgb:=k2.lt;have hrds:=hat.reads;obtain⟨x,hxe⟩:∃x,all[i] =x:=⟨_,rfl⟩;have HRX:=hid (show x.kind=2∨x.kind=4→0≤x.row∧x.row<(nr:Int)from by rw[← hxe,← HNR.out];exact HR2.out _ (List.getElem_mem hlt));have HST:=hid (Hy g hlt);rw[hxe]at hrds HST;dsimp only[Ac]at hrds;obtain⟨v0,v1,v2,q0,q1,q2,e,-⟩:=hrds;have y0:W2.cell? ⟨wr.heap.size,0,none⟩=some (int i64 x.kind):=by rw[k2.cell,e];rfl
     have y4:W2.cell? ⟨wr.heap.size,4,none⟩=some (int i64 x.group):=by rw[k2.cell,e];rfl
     have HSA2:=hid (show∀a:Addr,a.block<w3.heap.size→a.block≠tb→W2.cell? a=w3.cell? a from fun a ha hb =>(b22.cell (p:=a) (by omega)).trans (HSA.out a ha hb));have hwt:tb<wr.heap.size:=HK.out.lt;have HB2:=hid (show Below tb w W2 from HB.out.trans (b22.mono (by omega)));have HKW:=hid (HK.out.below b22 HK.out.lt);have y5:W2.cell? ⟨wr.heap.size,5,none⟩=some (int i64 x.row):=by rw[k2.cell,e];rfl
     have hki:(i:Int)<(all.length:Int):=by omega
     obtain⟨u,hu⟩:∃u,Cy g (all.take i)=u:=⟨_,rfl⟩;rw[hu]at HKW HST;have hsz2:w3.heap.size≤W2.heap.size:=by have:=b22.size;omega
     have HSZ2:=hid hsz2;have HUSE:x.kind=2∨x.kind=4→Ec g x=true→∃m:Nat,x.row=(m:Int)∧(m:Int)<(nr:Int)∧W2.cell? ⟨tb,m,none⟩=some (.bool (decide ((m:Int)∈UL ++ u)))∧W2.frozen? ⟨tb,m,none⟩=false∧tb<W2.heap.size∧Hid (Blk (W2.setCell ⟨tb,m,none⟩ (.bool true)) tb 4 (BM nr (UL ++ Cy g (all.take (i+1))))):=fun hk hu1 => by
      obtain⟨h0,h1⟩:=HRX.out hk;obtain⟨m,hm⟩:∃m:Nat,x.row=(m:Int):=⟨x.row.toNat,by omega⟩;rw[hm]at h1;have hmr:m<nr:=by omega
      refine⟨m,hm,h1,(HKW.out.cell m).trans (FF _ hmr),HKW.out.frozen m,HKW.out.lt,?_⟩;have h5:=HKW.out.set_ m (.bool true);rw[Hw _ hmr]at h5;rw[HST.out,if_pos hu1,hm,← List.append_assoc];exact h5
     have HSKIP:Ec g x=false→Hid (Blk W2 tb 4 (BM nr (UL ++ Cy g (all.take (i+1))))):=fun hu1 => by
      rw[HST.out,if_neg (by rw[hu1];exact Bool.false_ne_true),List.append_nil];exact HKW.out
     clear hat hW2 KZ hlen hZs k2 e b22 hxe hu HK HSA HB hsz2 hwt;by_cases qk:x.kind=2
     ·have hk2:(x.kind == 2)=true:=by simpa using qk
      have hk4:(x.kind == 4)=false:=by rw[qk];rfl
      by_cases qg:x.group=g
      ·have hgg:(x.group == g)=true:=by simpa using qg
       obtain⟨m,hm,hmi,q1,q2,q3,HPUT⟩:=HUSE (.inl qk) (by unfold Ec;simp[qk,qg]);rw[hm]at y5;obtain⟨bx,hbx⟩:∃bx,decide ((m:Int)∈UL ++ u)=bx:=⟨_,rfl⟩;rw[hbx]at q1;clear qk qg HUSE HSKIP HKW HST HRX hm hbx;go_wp2_with (first
        |(refine wpList_load_mid rfl 119 (.tmp 54) rfl b3 o3 rfl cs3 _ HR.out Tryz.underlying119 rfl HI.out ?_)
        |(refine wpList_store_mid rfl 119 (.tmp 11) (.tmp 55) rfl wr.heap.size 0 cs3.toArray rfl rfl HTH.out HI2.out HON.out ?_;rw[HW2.out]))
       go_roundw
       case rel => exact⟨i+1,by omega,by go_num,HPUT.out,fun a ha hb =>(Ic hb).trans (HSA2.out a ha hb),HB2.out.setCell (Nat.le_refl _) _,(show w3.heap.size≤_ by have:=HSZ2.out;simpa [World.setCell]using this)⟩
       case measure => simp[intOf];omega
      ·have hgg:(x.group == g)=false:=by simpa using qg
       have HS:=HSKIP (by unfold Ec;simp[qk,qg]);clear qk qg HUSE HSKIP HKW HST HRX;go_wp2_with (first
        |(refine wpList_load_mid rfl 119 (.tmp 54) rfl b3 o3 rfl cs3 _ HR.out Tryz.underlying119 rfl HI.out ?_)
        |(refine wpList_store_mid rfl 119 (.tmp 11) (.tmp 55) rfl wr.heap.size 0 cs3.toArray rfl rfl HTH.out HI2.out HON.out ?_;rw[HW2.out]))
       go_roundw
       case rel => exact⟨i+1,by omega,by go_num,HS.out,HSA2.out,HB2.out,HSZ2.out⟩
       case measure => simp[intOf];omega
     ·have hk2:(x.kind == 2)=false:=by simpa using qk
      by_cases q4:x.kind=4
      ·have hk4:(x.kind == 4)=true:=by simpa using q4
       obtain⟨m,hm,hmi,q1,q2,q3,HPUT⟩:=HUSE (.inr q4) (by unfold Ec;simp[q4]);rw[hm]at y5;obtain⟨bx,hbx⟩:∃bx,decide ((m:Int)∈UL ++ u)=bx:=⟨_,rfl⟩;rw[hbx]at q1;clear qk q4 HUSE HSKIP HKW HST HRX hm hbx;go_wp2_with (first
        |(refine wpList_load_mid rfl 119 (.tmp 54) rfl b3 o3 rfl cs3 _ HR.out Tryz.underlying119 rfl HI.out ?_)
        |(refine wpList_store_mid rfl 119 (.tmp 11) (.tmp 55) rfl wr.heap.size 0 cs3.toArray rfl rfl HTH.out HI2.out HON.out ?_;rw[HW2.out]))
       go_roundw
       case rel => exact⟨i+1,by omega,by go_num,HPUT.out,fun a ha hb =>(Ic hb).trans (HSA2.out a ha hb),HB2.out.setCell (Nat.le_refl _) _,(show w3.heap.size≤_ by have:=HSZ2.out;simpa [World.setCell]using this)⟩
       case measure => simp[intOf];omega
      ·have hk4:(x.kind == 4)=false:=by simpa using q4
       have HS:=HSKIP (by unfold Ec;simp[qk,q4]);clear qk q4 HUSE HSKIP HKW HST HRX;go_wp2_with (first
        |(refine wpList_load_mid rfl 119 (.tmp 54) rfl b3 o3 rfl cs3 _ HR.out Tryz.underlying119 rfl HI.out ?_)
        |(refine wpList_store_mid rfl 119 (.tmp 11) (.tmp 55) rfl wr.heap.size 0 cs3.toArray rfl rfl HTH.out HI2.out HON.out ?_;rw[HW2.out]))
       go_roundw
       case rel => exact⟨i+1,by omega,by go_num,HS.out,HSA2.out,HB2.out,HSZ2.out⟩
       case measure => simp[intOf];omega
    ·obtain rfl:i=all.length:=by omega
     have hke:Blk wr tb 4 (BM nr (UL ++ Cy g all)):=by have:=HK.out;rw[List.take_length]at this;exact this
     obtain⟨U,hU⟩:∃U,UL ++ Cy g all=U:=⟨_,rfl⟩;rw[hU]at hke;have HU:=hid hU;obtain⟨g5,hg5⟩:∃g5,wr.heap.size=g5:=⟨_,rfl⟩;have ht5:tb<g5:=by have:=hke.lt;omega
     obtain⟨w5,hw5⟩:∃w5,wr.alloc (.cells #[] 2)=w5:=⟨_,rfl⟩;have b5:Below g5 wr w5:=by rw[← hw5,← hg5];exact Ah (Below.refl _ _) _
     have z5:w5.heap.size=g5+1:=by rw[← hw5,← hg5];simp
     have HO5:=hid (show Ao 1 2 Al w5 g5 (.slice (some ⟨g5,0,none⟩) 0 0) (CW 0 U) []from by
      rw[← hw5,← hg5];exact Ao.start ⟨rfl,.inr ⟨wr.heap.size,0,#[],rfl,Nat.le_refl _,Blk.new wr _ _,Nat.le_refl _,by unfold maxLen;omega,rfl,rfl⟩⟩)
     have HK5:=hid (hke.below b5 ht5);have HB5:=hid (show Below tb w w5 from HB.out.trans (b5.mono (by omega)));have HZ5:=hid z5;have HG5:=hid hg5;clear HK HSA HX HB hU hke hsz z5 b5;go_wp2_with fail
     try rw[hw5]
     try rw[hg5]
     clear hw5 hg5;go_loopw [78,12] (fun ix vv wx =>∃(k n c:Nat) (A:Option Addr),k≤nr∧ix= int i64 k∧vv= .slice A n c∧Hid (n=(CW k U).length)∧Hid (Ao 1 2 Al wx g5 (.slice A n c) (CW k U) [])∧Hid (Blk wx tb 4 (BM nr U))∧Hid (Below tb w wx)∧Hid (g5<wx.heap.size)) (fun ix _ _ => nr - (intOf ix).toNat)
     case atStart => exact⟨0,0,0,some ⟨g5,0,none⟩,by omega,rfl,rfl,rfl,HO5.out,HK5.out,HB5.out,(show g5<_ by have:=HZ5.out;omega)⟩
     case round =>
      clear HO5 HK5 HB5 HZ5;obtain⟨k,n,c,A,hk,rfl,rfl,HNN,HO,HK,HB,HG⟩:=hrel;by_cases hkl:k<nr
      ·have hki:(k:Int)<(nr:Int):=by omega
       have q1:wr.cell? ⟨tb,k,none⟩=some (.bool (decide ((k:Int)∈U))):=(HK.out.cell k).trans (FF _ hkl);have HST:=hid (He k U);by_cases hu:(k:Int)∈U
       ·rw[if_pos hu,List.append_nil]at HST;rw[decide_eq_true hu]at q1;clear hu;go_wp2_with fail
        go_roundw
        case rel => exact⟨k+1,n,c,A,by omega,by go_num,rfl,(show n=_ by rw[HST.out];exact HNN.out),(show Ao _ _ _ _ _ _ _ _ by rw[HST.out];exact HO.out),HK.out,HB.out,HG.out⟩
        case measure => simp[intOf];omega
       ·rw[if_neg hu]at HST;rw[decide_eq_false hu]at q1;have hlen:=F2 k U;have b6:Below wr.heap.size wr (wr.alloc (.cells #[int i64 (k:Int)] 2)):=Ah (Below.refl _ _) _;have HB6:=hid b6;have HAP:=hid (FR (x:=(k:Int)) (HO.out.below Al.local_ Al.fixed b6) (by unfold okI;omega) (by omega) (by have:=HG.out;have:=b6.size;omega) (Blk.new wr 2 #[int i64 (k:Int)]));clear hu b6 hlen;go_wp2_with (at_builtin;refine AQ rfl (.tmp 85) (.tmp 87) 25 rfl _ _ (by rfl) (by rfl) HAP.out ?_;rintro v8 w8 ⟨A8,c8,rfl,o8,b8,s8,k8,j8⟩;have O8:=hid o8;have B8:=hid b8;have S8:=hid s8;have K8:=hid k8;clear o8 b8 s8 k8 j8)
        go_roundw
        case rel =>
         have h6:=HB6.out.size;have hg:=HG.out;exact⟨k+1,_,c8,A8,by omega,by go_num,rfl,(show _=_ by rw[HST.out,List.length_append];rfl),(show Ao _ _ _ _ _ _ _ _ by rw[HST.out];exact O8.out),(HK.out.below (HB6.out.mono (by omega)) (by omega:tb<g5)).below B8.out (by omega),HB.out.trans ((HB6.out.mono (by omega)).trans (B8.out.mono (by omega))),(show g5<_ by have:=S8.out;omega)⟩
        case measure => simp[intOf];omega
      ·obtain rfl:k=nr:=by omega
       go_wp2_with fail
       go_ret
       have hn:=HNN.out;subst hn;exact⟨L,A,c,HLV.out,by rw[HUL.out,HU.out];rfl,by rw[HTB.out];exact HB.out⟩
theorem Li(p:Nat)(fs:List Addr)(d:AC)(g:Int)(w:World)(h:AtW w p fs d)(hok:d.s.sh.Ok)(hsm:(CJ d).length≤1000000)(hnm:∀r,r∈AV d→r.name.size≤1000000)
  (hr1:∀r,r∈AV d→r.kind=1→∀k,k∈r.rows→0≤k∧k<d.s.rows) (hr2:∀r,r∈AV d→r.kind=2∨r.kind=4→0≤r.row∧r.row<d.s.rows) :
  Calls Tryz.prog 224 #[.pointer (some ⟨p,0,none⟩),int i64 g] w fun e w' =>∃L A c,BS (AV d) L∧e= .returned (.slice A (CW d.s.rows.toNat (Ca d.s.g g L ++ Cy g (AV d))).length c)∧Below w.heap.size w w' :=
 Lj 9 rfl Tryz.sizeOf31 Tryz.isAgg31 p fs d g w h hok hsm hnm hr1 hr2
end Go.Proofs.YtfjkoifpdoemdaaGreat
