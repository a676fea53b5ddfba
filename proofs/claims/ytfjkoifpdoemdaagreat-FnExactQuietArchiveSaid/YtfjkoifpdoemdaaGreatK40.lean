/-
  Part 40 of the proof; the last part states and proves the statement.
-/
import Derived.Test.YtfjkoifpdoemdaaGreatK09
import Derived.Test.YtfjkoifpdoemdaaGreatK34
import Derived.Test.YtfjkoifpdoemdaaGreatK31
import Derived.Test.YtfjkoifpdoemdaaGreatK35
import Derived.Test.YtfjkoifpdoemdaaGreatK38
set_option maxHeartbeats 8000000
set_option maxRecDepth 100000
set_option linter.unusedVariables false
set_option linter.unusedSimpArgs false
open Go.Value (int)
open Go.IntKind (i64)
namespace Go.Proofs.YtfjkoifpdoemdaaGreat
open Go.RowKit Go.Lib Go.Sort
def Gg(dr:AU)(row:Nat):By:=dr.blocks.getD row ⟨0,[]⟩
def Bi(d:AC)(g:Nat):List AU:=d.g.getD g []
theorem L4 {dr:AU} {row:Nat}(h:row<dr.blocks.length):Gg dr row=dr.blocks[row]:=by simp[Gg,List.getD_eq_getElem?_getD,h]
theorem JW {d:AC} {g:Nat}(h:g<d.g.length):Bi d g=d.g[g]:=by simp[Bi,List.getD_eq_getElem?_getD,h]
structure I4 (w:World) (p:Nat) (d:AC) (g:Nat) (a0:Addr) (c0 b0 o0:Nat) (A1:Option Addr) (c1:Nat) (f1:List Addr):Prop where
 n9:w.cell? ⟨p,9,none⟩=some (.slice (some a0) d.g.length c0)
 lp:p<w.heap.size
 pl:a0.add g=⟨b0,o0,none⟩
 l0:b0<w.heap.size
 k0:w.cell? ⟨b0,o0,none⟩=some (.slice A1 (Bi d g).length c1)
 rd:rSl 2 Ak w f1 (.slice A1 (Bi d g).length c1) (Bi d g)
theorem AtW.grp {w:World} {p:Nat} {fs:List Addr} {d:AC}(h:AtW w p fs d) {g:Nat}(hg:g<d.g.length):∃a0 c0 b0 o0 A1 c1 f1,I4 w p d g a0 c0 b0 o0 A1 c1 f1:=by
 obtain⟨A0,A1,A2,c0,c1,c2,f0,f1,f2,HC⟩:=h.cells;obtain⟨A',c',e,hc,hm,hx⟩:=rSl.at_ (Ai.fixed Ak.fixed) (by decide) HC.rgr;injection e with e1 _ e3
 subst e1 e3;obtain⟨ad,b,o,cs,fk,rfl,hat⟩:=hx g hg;obtain⟨ve,rfl,hrd⟩:=hat.reads;obtain⟨Ae,ce,rfl,-⟩:=rSl.head hrd;have hpl:=hat.place;rw[Nat.mul_one]at hpl;have hk:=hat.cell 0 (by simp);simp only[Nat.add_zero,List.getElem_cons_zero]at hk;rw[← JW hg]at hk hrd;exact⟨ad,_,b,o,Ae,ce,fk,HC.gr,HC.lt,hpl,hat.lt,hk,hrd⟩
theorem I4.below {w w':World} {p:Nat} {d:AC} {g:Nat} {a0:Addr} {c0 b0 o0:Nat} {A1:Option Addr} {c1:Nat} {f1:List Addr}(h:I4 w p d g a0 c0 b0 o0 A1 c1 f1)(hb:Below w.heap.size w w'):I4 w' p d g a0 c0 b0 o0 A1 c1 f1 :=
 ⟨(hb.cell (p:=⟨p,9,none⟩) h.lp).trans h.n9,Nat.lt_of_lt_of_le h.lp hb.size,h.pl,Nat.lt_of_lt_of_le h.l0 hb.size,(hb.cell (p:=⟨b0,o0,none⟩) h.l0).trans h.k0,rSl.below Ak.local_ Ak.fixed h.rd hb⟩
structure I3 (w:World) (a1:Addr) (k row:Nat) (dr:AU) (b1 o1:Nat) (a2:Addr) (c2 b2 o2:Nat) (A3:Option Addr) (c3:Nat) (f3:List Addr):Prop where
 p1:a1.add (k * 2)=⟨b1,o1,none⟩
 l1:b1<w.heap.size
 y0:w.cell? ⟨b1,o1,none⟩=some (.bool dr.wiped)
 y1:w.cell? ⟨b1,o1+1,none⟩=some (.slice (some a2) dr.blocks.length c2)
 p2:a2.add (row * 2)=⟨b2,o2,none⟩
 l2:b2<w.heap.size
 z0:w.cell? ⟨b2,o2,none⟩=some (int i64 (Gg dr row).stamp)
 z1:w.cell? ⟨b2,o2+1,none⟩=some (.slice A3 (Gg dr row).bytes.length c3)
 rd:AM w f3 (.slice A3 (Gg dr row).bytes.length c3) (Gg dr row).bytes
theorem I3.below {w w':World} {a1:Addr} {k row:Nat} {dr:AU} {b1 o1:Nat} {a2:Addr} {c2 b2 o2:Nat} {A3:Option Addr} {c3:Nat} {f3:List Addr}(h:I3 w a1 k row dr b1 o1 a2 c2 b2 o2 A3 c3 f3)(hb:Below w.heap.size w w'):I3 w' a1 k row dr b1 o1 a2 c2 b2 o2 A3 c3 f3 :=
 ⟨h.p1,Nat.lt_of_lt_of_le h.l1 hb.size,(hb.cell (p:=⟨b1,o1,none⟩) h.l1).trans h.y0,(hb.cell (p:=⟨b1,o1+1,none⟩) h.l1).trans h.y1,h.p2,Nat.lt_of_lt_of_le h.l2 hb.size,(hb.cell (p:=⟨b2,o2,none⟩) h.l2).trans h.z0,(hb.cell (p:=⟨b2,o2+1,none⟩) h.l2).trans h.z1,h.rd.below hb⟩
theorem drvAt {w:World} {f1:List Addr} {A1:Option Addr} {n c1:Nat} {ds:List AU}(h:rSl 2 Ak w f1 (.slice A1 n c1) ds) {k row:Nat}(hk:k<ds.length)(hr:row<ds[k].blocks.length):∃a1 b1 o1 a2 c2 b2 o2 A3 c3 f3,A1=some a1∧I3 w a1 k row ds[k] b1 o1 a2 c2 b2 o2 A3 c3 f3:=by
 obtain⟨A',c',e,hc,hm,hx⟩:=rSl.at_ Ak.fixed (by decide) h;injection e with e1 _ e3
 subst e1 e3;obtain⟨ad,b,o,cs,fk,rfl,hat⟩:=hx k hk;obtain⟨v0,g0,e,-,hb⟩:=hat.reads;subst e;have y0:=hat.cell 0 (by simp);have y1:=hat.cell 1 (by simp);simp only[Nat.add_zero,List.getElem_cons_zero,List.getElem_cons_succ]at y0 y1;obtain⟨A2,c2,rfl,hc2,hm2,hx2⟩:=rSl.at_ AD.fixed (by decide) hb;obtain⟨ad2,b2,o2,cs2,fk2,rfl,hat2⟩:=hx2 row hr;obtain⟨v1,g1,e2,-,-,hb2⟩:=hat2.reads;subst e2;have z0:=hat2.cell 0 (by simp);have z1:=hat2.cell 1 (by simp);simp only[Nat.add_zero,List.getElem_cons_zero,List.getElem_cons_succ]at z0 z1;obtain⟨A3,c3,rfl,-⟩:=rSl.head hb2;rw[← L4 hr]at z0 z1 hb2;exact⟨ad,b,o,ad2,c2,b2,o2,A3,c3,g1,rfl,hat.place,hat.lt,y0,y1,hat2.place,hat2.lt,z0,z1,hb2⟩
def D9(L:List AU)(k:Nat):Nat:=(L.take k).countP AU.wiped
theorem IE {L:List AU} {k:Nat}(h:k<L.length):D9 L (k+1)=D9 L k+if L[k].wiped =true then 1 else 0:=by
 unfold D9;rw[List.take_succ_eq_append_getElem h,List.countP_append];simp[List.countP_cons]
theorem nWip_le(L:List AU)(k:Nat):D9 L k≤k:=by
 unfold D9;have:=List.countP_le_length (p:=AU.wiped) (l:=L.take k);rw[List.length_take]at this;omega
def Ew(d:AC)(g:Nat):Bool:=decide (d.s.p<(D9 (Bi d g) (Bi d g).length:Int))
theorem l7Dead_c(p:Nat)(fs:List Addr)(d:AC)(g:Nat)(w:World)(h:AtW w p fs d)(hg:g<d.g.length)(hr:∀dr,dr∈Bi d g→0<dr.blocks.length)(hn:(Bi d g).length≤1000) :
  Calls Tryz.prog 120 #[.pointer (some ⟨p,0,none⟩),int i64 (g:Int)] w fun e w' => e= .returned (.bool (Ew d g))∧w=w':=by
 obtain⟨a0,c0,b0,o0,A1,c1,f1,HG⟩:=h.grp hg;obtain⟨A0',A1',A2',c0',c1',c2',f0',f1',f2',HC⟩:=h.cells;have n3:=HC.n3;obtain⟨L,hL⟩:∃L,Bi d g=L:=⟨_,rfl⟩;have hd:Ew d g=decide (d.s.p<(D9 (Bi d g) (Bi d g).length:Int)):=rfl;rw[hL]at hd;have HDD:=hid hd;have HRW:=hid hr;have n9:=HG.n9;have pl:=HG.pl;have k0:=HG.k0;have HRD:=HG.rd;rw[hL]at HRW hn k0 HRD;have HRDH:=hid HRD;have hlt0:(g:Int)<(d.g.length:Int):=by omega
 obtain⟨rb,hrb⟩:∃rb,Ew d g=rb:=⟨_,rfl⟩;rw[hrb]at HDD⊢;clear h hr hd HRD HG hL HC hrb;go_enter Tryz.func120,Tryz.ntmps120
 go_wp2_with fail
 go_loop [5,6] (fun n i =>∃(k q:Nat),k≤L.length∧i= int i64 k∧n= int i64 q∧q≤k∧Hid (q=D9 L k)) (fun _ i => L.length - (intOf i).toNat)
 case atStart => exact⟨0,0,by omega,rfl,rfl,by omega,(show 0=_ by simp[D9])⟩
 case round =>
  obtain⟨k,q,hk,rfl,rfl,hq,HQ⟩:=hrel;by_cases hkn:k<L.length
  ·obtain⟨a1,b1,o1,a2,c2,b2,o2,A3,c4,f3,rfl,HD⟩:=drvAt (row:=0) HRDH.out hkn (HRW.out _ (List.getElem_mem hkn));have p1:=HD.p1;have l1:=HD.l1;have y0:=HD.y0;have hst:=IE hkn;obtain⟨wp,hwp⟩:∃wp,L[k].wiped =wp:=⟨_,rfl⟩;rw[hwp]at y0 hst;have HST:=hid hst;clear HD hst hwp;cases wp with
   |true =>
    go_wp2_with fail
    go_round
    case rel => exact⟨k+1,q+1,by omega,by go_num,by go_num,by omega,(show _=_ by rw[HST.out,← HQ.out];rfl)⟩
    case measure => simp[intOf];omega
   |false =>
    go_wp2_with fail
    go_round
    case rel => exact⟨k+1,q,by omega,by go_num,rfl,by omega,(show _=_ by rw[HST.out,← HQ.out];rfl)⟩
    case measure => simp[intOf];omega
  ·obtain rfl:k=L.length:=by omega
   by_cases hc:d.s.p<(q:Int)
   ·have e1:rb=true:=by rw[HDD.out,← HQ.out];exact decide_eq_true hc
    subst e1;go_wp2_with fail
    go_ret
    exact⟨rfl,rfl⟩
   ·have e1:rb=false:=by rw[HDD.out,← HQ.out];exact decide_eq_false hc
    subst e1;have hc2:decide (d.s.p<(q:Int))=false:=decide_eq_false hc;go_wp2_with fail
    go_ret
    exact⟨rfl,rfl⟩
theorem wiped_c(p:Nat)(fs:List Addr)(d:AC)(g:Nat)(w:World)(h:AtW w p fs d)(hg:g<d.g.length)(hn:(Bi d g).length≤1000) :
  Calls Tryz.prog 227 #[.pointer (some ⟨p,0,none⟩),int i64 (g:Int)] w fun e w' =>∃A c,e= .returned (.slice A (D9 (Bi d g) (Bi d g).length) c)∧Below w.heap.size w w':=by
 obtain⟨a0,c0,b0,o0,A1,c1,f1,HG⟩:=h.grp hg;obtain⟨g0,hg0⟩:∃g0,w.heap.size=g0:=⟨_,rfl⟩;obtain⟨W1,hW1⟩:∃W1,w.alloc (.cells #[] 2)=W1:=⟨_,rfl⟩;have hB1:Below g0 w W1:=by rw[← hW1,← hg0];exact Ah (Below.refl _ _) _
 have z1:W1.heap.size=g0+1:=by rw[← hW1,← hg0];simp
 have HO0:=hid (show Ao 1 2 Al W1 g0 (.slice (some ⟨g0,0,none⟩) 0 0) [] []from by
  rw[← hW1,← hg0];exact Ao.start ⟨rfl,.inr ⟨w.heap.size,0,#[],rfl,Nat.le_refl _,Blk.new w _ _,Nat.le_refl _,by unfold maxLen;omega,rfl,rfl⟩⟩)
 have HG1:=HG.below (by rw[hg0];exact hB1:Below w.heap.size w W1);obtain⟨L,hL⟩:∃L,Bi d g=L:=⟨_,rfl⟩;have n9:=HG1.n9;have pl:=HG1.pl;have k0:=HG1.k0;have lp:=HG1.lp;have l0:=HG1.l0;have hrd:=HG.rd;rw[hL]at hn k0 hrd;obtain⟨A',c',ev,hc,hm,hx⟩:=rSl.at_ Ak.fixed (by decide) hrd;injection ev with ev1 ev2 ev3
 subst ev1 ev3;have HX:=hid hx;have hlt0:(g:Int)<(d.g.length:Int):=by omega
 have HB1:=hid hB1;have HZ1:=hid z1;have HGG:=hid hg0;rw[hL];clear h HG HG1 hrd hx ev2 hL hB1 z1 hm;go_enter Tryz.func227,Tryz.ntmps227
 go_wp2_with fail
 try simp only[hW1,hg0]
 clear hW1 hg0;go_loopw [17,5] (fun ix ov wx =>∃(k n c2:Nat) (A2:Option Addr) (ds:List Int),k≤L.length∧ix= int i64 k∧ov= .slice A2 n c2∧Hid (n=ds.length)∧Hid (ds.length=D9 L k)∧Hid (Ao 1 2 Al wx g0 (.slice A2 n c2) ds [])∧Hid (Below g0 w wx)∧Hid (g0<wx.heap.size)) (fun ix _ _ => L.length - (intOf ix).toNat)
 case atStart => exact⟨0,0,0,some ⟨g0,0,none⟩,[],by omega,rfl,rfl,rfl,(show 0=_ by simp[D9]),HO0.out,HB1.out,(show g0<_ by have:=HZ1.out;omega)⟩
 case round =>
  clear HO0;obtain⟨k,n,c2,A2,ds,hk,rfl,rfl,HN,HDS,HO,HB,HGZ⟩:=hrel;by_cases hlt:k<L.length
  ·obtain⟨ad,b3,o3,cs3,f3,rfl,hat0⟩:=HX.out k hlt;have hat:=hat0.below Ak.local_ (show Below w.heap.size w wr by rw[HGG.out];exact HB.out);have hpl3:=hat.place;have hbl3:b3<wr.heap.size:=hat.lt;obtain⟨v0,g1,e,-,hrb⟩:=hat.reads;obtain⟨Ab,cb,rfl,-⟩:=rSl.head hrb;obtain⟨x,hxe⟩:∃x,L[k] =x:=⟨_,rfl⟩;have hst:=IE hlt;rw[hxe]at hst e;subst e;obtain⟨nb,hnb⟩:∃nb,x.blocks.length=nb:=⟨_,rfl⟩;rw[hnb]at hat;have q0:wr.cell? ⟨b3,o3,none⟩=some (.bool x.wiped):=hat.cell 0 (by simp);have q1:wr.cell? ⟨b3,o3+1,none⟩=some (.slice Ab nb cb):=hat.cell 1 (by simp);have hki:(k:Int)<(L.length:Int):=by omega
   have hle:=nWip_le L k;have HST:=hid hst;have hwg:=HGZ.out;obtain⟨wp,hwp⟩:∃wp,x.wiped=wp:=⟨_,rfl⟩;rw[hwp]at q0 HST;have b6:Below wr.heap.size wr (wr.alloc (.cells #[.bool wp,.slice Ab nb cb] 194)):=Ah (Below.refl _ _) _;have HB6:=hid b6;clear hat hat0 hrb hst hxe hwp hnb;cases wp with
   |true =>
    have b7:Below wr.heap.size wr ((wr.alloc (.cells #[.bool true,.slice Ab nb cb] 194)).alloc (.cells #[int i64 (k:Int)] 2)):=Ah b6 _;have HB7:=hid b7;have HAP:=hid (FR (x:=(k:Int)) (HO.out.below Al.local_ Al.fixed b7) (by unfold okI;omega) (by have:=HDS.out;omega) (by have:=b7.size;omega) (Blk.new1 wr (.cells #[.bool true,.slice Ab nb cb] 194) 2 #[int i64 (k:Int)]));clear b6 b7 hwg;go_wp2_with (at_builtin;refine AQ rfl (.tmp 24) (.tmp 26) 25 rfl _ _ (by rfl) (by rfl) HAP.out ?_;rintro v8 w8 ⟨A8,c8,rfl,o8,b8,s8,k8,j8⟩;have O8:=hid o8;have B8:=hid b8;have S8:=hid s8;clear o8 b8 s8 k8 j8)
    go_roundw
    case rel =>
     have h7:=HB7.out.size;have hg:=HGZ.out;have s8:=S8.out;exact⟨k+1,_,c8,A8,ds ++ [(k:Int)],by omega,by go_num,rfl,(show _=_ by rw[List.length_append];rfl),(show _=_ by rw[List.length_append,HST.out,HDS.out];rfl),O8.out,HB.out.trans ((HB7.out.mono (by omega)).trans B8.out),(show g0<_ by omega)⟩
    case measure => simp[intOf];omega
   |false =>
    clear b6;go_wp2_with fail
    go_roundw
    case rel => exact⟨k+1,n,c2,A2,ds,by omega,by go_num,rfl,HN.out,(show _=_ by rw[HST.out,HDS.out];rfl),HO.out.below Al.local_ Al.fixed HB6.out,HB.out.trans (HB6.out.mono (by omega)),(show g0<_ by have:=HB6.out.size;omega)⟩
    case measure => simp[intOf];omega
  ·obtain rfl:k=L.length:=by omega
   go_wp2_with fail
   go_ret
   have hn:=HN.out;rw[HDS.out]at hn;subst hn;exact⟨A2,c2,rfl,by rw[HGG.out];exact HB.out⟩
theorem Ll(p:Nat)(fs:List Addr)(d:AC)(g:Nat)(w:World)(h:AtW w p fs d)(hg:g<d.g.length)(hn:(Bi d g).length≤1000) :
  Calls Tryz.prog 129 #[.pointer (some ⟨p,0,none⟩),int i64 (g:Int)] w fun e w' => e= .returned (.bool (Ew d g))∧Below w.heap.size w w':=by
 obtain⟨A0,A1,A2,c0,c1,c2,f0,f1,f2,HC⟩:=h.cells;have HW:=hid (fun(W:World) (hW:Below w.heap.size w W) => wiped_c p fs d g W (h.below hW) hg hn);have n3:=HC.n3;have lp:=HC.lt;have HN3:=hid (show∀W,Below w.heap.size w W→W.cell? ⟨p,3,none⟩=some (int i64 d.s.p)from fun W hW =>(hW.cell (p:=⟨p,3,none⟩) lp).trans n3);obtain⟨n,hnn⟩:∃n,D9 (Bi d g) (Bi d g).length =n:=⟨_,rfl⟩;have hd:Ew d g=decide (d.s.p<(n:Int)):=by unfold Ew;rw[hnn]
 rw[hd];rw[hnn]at HW;obtain⟨sp,hsp⟩:∃sp,d.s.p=sp:=⟨_,rfl⟩;rw[hsp]at n3 HN3⊢;clear h HC hn hnn hd hsp;go_enter Tryz.func129,Tryz.ntmps129
 go_wp2_with fail
 go_region_held3 (fun W => W.cell? ⟨p,3,none⟩=some (int i64 sp))
  ((refine HN3.out _ ?_;repeat(with_reducible first|assumption|exact Below.refl _ _|apply Ah|apply AL)))
  (first
   |(go_at_call 227;refine(HW.out _ (by repeat(with_reducible first|assumption|exact Below.refl _ _|apply Ah|apply AL))).mono ?_;rintro e w2 ⟨A2,c2,rfl,b2⟩;have B2:=Below.viaQ (a:=w) (by repeat(with_reducible first|assumption|exact Below.refl _ _|apply Ah|apply AL)) b2)
   |(go_at_call 174;refine(GH _ _ _ _).mono ?_;rintro e w3 ⟨rfl,rfl⟩))
 all_goals
  go_wp2_with fail
  go_ret
  exact⟨rfl,B2⟩
noncomputable def Gm (d:AC) (g:Int):Bool:=@decide (∃L,BS (AV d) L∧C4 d g L=true) (Classical.propDecidable _)
theorem Jx {d:AC} {g:Int} {L:List Ag}(h:BS (AV d) L):Gm d g=C4 d g L:=by
 rw[Bool.eq_iff_iff];exact(@decide_eq_true_iff _ (Classical.propDecidable _)).trans ⟨fun⟨M,h1,h2⟩ => by rw[h.uniq h1];exact h2,fun e =>⟨L,h,e⟩⟩
def BV(s:Sh)(all:List Ag)(r:Ag):Bool:=!(decide (r.kind=2)||decide (r.kind=4))||Da s all r
noncomputable def De (d:AC) (g:Nat):Bool:=!Gm d (g:Int)||Ew d g
noncomputable def Ds (d:AY):Bool:=!d.world.down && (decide ((AN d.desk).length =0) && ((AV d.world).all (BV d.world.s.sh (AV d.world)) && (List.range d.world.s.g.toNat).all (De d.world)))
structure DrvOk (d:AC):Prop where
 tp:d.v.length=2
 rl:∀r,r∈AV d→r.kind=1→r.rows.length≤100
 gl:d.s.g≤(d.g.length:Int)
 dn:∀g,g<d.g.length→(Bi d g).length≤1000
 bl:∀g,g<d.g.length→∀dr,dr∈Bi d g→0<dr.blocks.length
theorem J0(d:AY)(p:Nat)(fs:List Addr)(w:World)(h:AtW w p fs d.world)(hD:∃A0 A1 A2 k0 k1 k2 g0 g1 g2,CG w p 15 d.desk A0 A1 A2 k0 k1 k2 g0 g1 g2)(hsm:(AN d.desk).length≤1000000)(hR:Ez d.world)(hO:DrvOk d.world) :
  Calls Tryz.prog 67 #[.pointer (some ⟨p,0,none⟩)] w fun e w' => e= .returned (.bool (Ds d))∧Below w.heap.size w w':=by
 obtain⟨A0,A1,A2,c0,c1,c2,f0,f1,f2,HC⟩:=h.cells;obtain⟨ng,hng⟩:∃ng:Nat,d.world.s.g=(ng:Int):=⟨d.world.s.g.toNat,by have:=hR.ok.g.1;simp only[Ba.sh]at this;omega⟩;have hng4:ng≤4:=by have:=hR.ok.g.2;simp only[Ba.sh]at this;omega
 have lp:=HC.lt;have n14:=HC.dn;have HN0:=hid (show∀W,Below w.heap.size w W→W.cell? ⟨p,0,none⟩=some (int i64 (ng:Int))from fun W hW =>(hW.cell (p:=⟨p,0,none⟩) lp).trans (by rw[← hng];exact HC.n0));have HRS:=hid (show∀W,Below w.heap.size w W→W.rangeAt p 0 [int i64 d.world.s.g,int i64 d.world.s.c,int i64 d.world.s.data,int i64 d.world.s.p,int i64 d.world.s.rows,int i64 d.world.s.cap,int i64 d.world.s.b,int i64 d.world.s.q,int i64 d.world.s.t]from fun W hW q v hq => by
  have hB2:=fun q => hW.cell (p:=⟨p,q,none⟩) lp
  rw[Nat.zero_add];match q,hq with
  |0,hq => simp at hq;subst hq;exact(hB2 0).trans HC.n0
  |1,hq => simp at hq;subst hq;exact(hB2 1).trans HC.n1
  |2,hq => simp at hq;subst hq;exact(hB2 2).trans HC.n2
  |3,hq => simp at hq;subst hq;exact(hB2 3).trans HC.n3
  |4,hq => simp at hq;subst hq;exact(hB2 4).trans HC.n4
  |5,hq => simp at hq;subst hq;exact(hB2 5).trans HC.n5
  |6,hq => simp at hq;subst hq;exact(hB2 6).trans HC.n6
  |7,hq => simp at hq;subst hq;exact(hB2 7).trans HC.n7
  |8,hq => simp at hq;subst hq;exact(hB2 8).trans HC.n8
  |q+9,hq => simp at hq)
 obtain⟨B0,B1,B2,k0,k1,k2,q0,q1,q2,hDk⟩:=hD;have HTK:=hid (Gf p 15 d.desk B0 B1 B2 k0 k1 k2 q0 q1 q2 w hDk hsm);have HA:=hid (show∀W,Below w.heap.size w W→AtW W p fs d.world from fun W hW => h.below hW);have HCT:=hid (fun(W:World) (hW:Below w.heap.size w W) => EO p fs d.world W (h.below hW) hR.sm);have HR:=hid hR;have HO:=hid hO;obtain⟨nT,hnT⟩:∃nT,(AN d.desk).length =nT:=⟨_,rfl⟩;rw[hnT]at HTK;obtain⟨dn,hdn⟩:∃dn,d.world.down=dn:=⟨_,rfl⟩;rw[hdn]at n14;obtain⟨all,hall⟩:∃all,AV d.world=all:=⟨_,rfl⟩;rw[hall]at HCT;have hal:all.length≤1000000:=by rw[← hall];exact Nat.le_trans (Dd d.world) hR.sm
 have HALL:=hid hall;obtain⟨rb,hrb⟩:∃rb,Ds d=rb:=⟨_,rfl⟩;rw[hrb];unfold Ds at hrb;rw[hdn,hnT,hall,hng,Int.toNat_natCast]at hrb;have HRB:=hid hrb;have HNG:=hid hng;clear h HC hDk hR hO hnT hdn hall hrb hng hsm;cases dn with
 |true =>
  have e1:rb=false:=by rw[← HRB.out];rfl
  subst e1;go_enter Tryz.func67,Tryz.ntmps67
  go_wp2_with fail
  go_ret
  exact⟨rfl,Below.refl _ _⟩
 |false =>
  by_cases hz:nT=0
  case neg =>
   have e1:rb=false:=by rw[← HRB.out];simp[hz]
   subst e1;have hz1:(0:Int)<(nT:Int):=by omega
   clear hz;go_enter Tryz.func67,Tryz.ntmps67
   go_wp2_with (go_at_call 125;refine HTK.out.mono ?_;rintro e w1 ⟨At,ct,gt,rfl,-,-,b1⟩;have B1:=hid b1;clear b1)
   go_ret
   exact⟨rfl,B1.out⟩
  subst hz;have HRB2:=hid (show(all.all (BV d.world.s.sh all) && (List.range ng).all (De d.world))=rb from by rw[← HRB.out];rfl);clear HRB;go_enter Tryz.func67,Tryz.ntmps67
  go_wp2_with (first
   |(go_at_call 125;refine HTK.out.mono ?_;rintro e w1 ⟨At,ct,gt,rfl,-,-,b1⟩;have HCT1:=hid (HCT.out w1 b1);have B1:=hid b1;clear b1)
   |(go_at_call 126;refine HCT1.out.mono ?_;rintro e w2 ⟨Aa,ca,fa,rfl,ra,-,b2⟩;have RA:=hid ra;have B2:=hid (show Below w.heap.size w w2 from B1.out.trans (b2.mono B1.out.size));clear b2 ra))
  obtain⟨A',c',ev,hc,hm,hx⟩:=rSl.at_ Ac.fixed (by omega) RA.out;injection ev with ev1 ev2 ev3
  subst ev1 ev3;have HX:=hid hx;clear hx ev2 hm HCT HTK;go_loopw [29] (fun ix wx =>∃i:Nat,i≤all.length∧ix= int i64 i∧Hid ((all.take i).all (BV d.world.s.sh all)=true)∧Hid (Below w2.heap.size w2 wx)) (fun ix _ => all.length - (intOf ix).toNat)
  case atStart => exact⟨0,by omega,rfl,rfl,Below.refl _ _⟩
  case round =>
   obtain⟨i,hi,rfl,HAL,HB⟩:=hrel;have hbz:=HB.out.size;have HBW:=hid (show Below w.heap.size w wr from B2.out.trans (HB.out.mono B2.out.size));by_cases hlt:i<all.length
   ·obtain⟨ad,b3,o3,cs3,f3,rfl,hat0⟩:=HX.out i hlt;have hat:=hat0.below Ac.local_ HB.out;have hpl3:=hat.place;have hbl3:b3<wr.heap.size:=hat.lt;have hlen:cs3.length=9:=hat.len;have hrds:=hat.reads;obtain⟨x,hxe⟩:∃x,all[i] =x:=⟨_,rfl⟩;have HST:=hid (show(all.take (i+1)).all (BV d.world.s.sh all)=BV d.world.s.sh all x by
     rw[List.take_succ_eq_append_getElem hlt,List.all_append,HAL.out,hxe];simp)
    have HNO:=hid (show BV d.world.s.sh all x=false→all.all (BV d.world.s.sh all)=false from fun e => by
     rw[List.all_eq_false];exact⟨x,by rw[← hxe];exact List.getElem_mem hlt,by rw[e];exact Bool.false_ne_true⟩)
    have HSP:=hid (fun(hk:x.kind=2∨x.kind=4) (W:World) (hW:Below wr.heap.size wr W) => show Calls Tryz.prog 127 #[.pointer (some ⟨p,0,none⟩),.slice (some ad) all.length ca,int i64 (i:Int)] W (fun e w' => e= .returned (.bool (Da d.world.s.sh all x))∧Below W.heap.size W w')from by
     have hb:Below w2.heap.size w2 W:=HB.out.trans (hW.mono hbz);have:=spent_c p fs d.world _ all fa i hlt W (HA.out W (B2.out.trans (hb.mono B2.out.size))) HR.out.ok (rSl.below Ac.local_ Ac.fixed RA.out hb) (by rw[hxe];exact hk);rw[hxe]at this;exact this)
    rw[hxe]at hrds;dsimp only[Ac]at hrds;obtain⟨v0,v1,v2,q0,q1,q2,e,-⟩:=hrds;have hki:(i:Int)<(all.length:Int):=by omega
    have hp:p<wr.heap.size:=Nat.lt_of_lt_of_le lp HBW.out.size;have HRG:=hid (show wr.rangeAt b3 o3 cs3 from fun q v hq => by
     have hq1:q<cs3.length:=(List.getElem?_eq_some_iff.1 hq).1;rw[hat.cell q hq1,← hq];exact(List.getElem?_eq_getElem hq1).symm)
    have HI:=hid (show(Tryz.prog.info? 119).map (·.size)=some cs3.length by rw[hlen];kernel_rfl);have HI2:=hid (show(Tryz.prog.info? 119).map (·.size)=some cs3.toArray.size by rw[List.size_toArray,hlen];kernel_rfl);have HON:=hid (all_oneCell_toArray (Ac.ones _ _ _ _ hat.reads));obtain⟨Z2,hZ2⟩:∃Z2:Array Value,#[int i64 0,int i64 0,.string ⟨#[]⟩,int i64 0,int i64 0,int i64 0,.slice none 0 0,.slice none 0 0,.slice none 0 0] =Z2:=⟨_,rfl⟩;have hZs:Z2.size=9:=by rw[← hZ2];rfl
    have KZ:=Blk.new wr 119 Z2;have HTH:=hid (Blk.there KZ cs3.toArray.size (by rw[List.size_toArray,hlen,hZs];exact Nat.le_refl _));obtain⟨W4,hW4⟩:∃W4,(wr.alloc (.cells Z2 119)).setCells wr.heap.size 0 cs3.toArray.toList=W4:=⟨_,rfl⟩;have k4:Blk W4 wr.heap.size 119 cs3.toArray:=by rw[← hW4];exact Blk.laid KZ _ (by rw[hZs];exact hlen.symm)
    have b44:Below wr.heap.size wr W4:=by rw[← hW4];exact Aw (Ah (Below.refl _ _) _) _ 0 (Nat.le_refl _)
    have HW4:=hid hW4;have hgb4:=k4.lt;have HB4:=hid b44;have y0:W4.cell? ⟨wr.heap.size,0,none⟩=some (int i64 x.kind):=by rw[k4.cell,e];rfl
    clear hat hat0 hW4 KZ hlen hZs k4 b44 e hxe;by_cases hk:x.kind=2∨x.kind=4
    ·have HS:=hid (HSP.out hk W4 HB4.out);have hcond:((x.kind == 2)||(x.kind == 4))=true:=by rcases hk with q|q <;> simp[q]
     have hrest:BV d.world.s.sh all x=Da d.world.s.sh all x:=by
      unfold BV;rcases hk with q|q <;> simp[q]
     rw[hrest]at HST HNO;obtain⟨bs,hbs⟩:∃bs,Da d.world.s.sh all x=bs:=⟨_,rfl⟩;rw[hbs]at HS HST HNO;clear hrest hbs HSP;by_cases q2:x.kind=2
     ·rw[q2]at y0;clear hk hcond q2;cases bs with
      |true =>
       go_wp2_with (first
        |(refine wpList_load_mid rfl 119 (.tmp 32) rfl b3 o3 rfl cs3 _ HRG.out Tryz.underlying119 rfl HI.out ?_)
        |(refine wpList_store_mid rfl 119 (.tmp 6) (.tmp 33) rfl wr.heap.size 0 cs3.toArray rfl rfl HTH.out HI2.out HON.out ?_;rw[HW4.out])
        |(go_at_call 127;refine HS.out.mono ?_;rintro e w5 ⟨rfl,b5⟩;have HB5:=hid b5;clear b5))
       go_roundw
       case rel => exact⟨i+1,by omega,by go_num,HST.out,HB.out.trans ((HB4.out.trans (HB5.out.mono HB4.out.size)).mono hbz)⟩
       case measure => simp[intOf];omega
      |false =>
       have e1:rb=false:=by rw[← HRB2.out,HNO.out rfl];rfl
       subst e1;go_wp2_with (first
        |(refine wpList_load_mid rfl 119 (.tmp 32) rfl b3 o3 rfl cs3 _ HRG.out Tryz.underlying119 rfl HI.out ?_)
        |(refine wpList_store_mid rfl 119 (.tmp 6) (.tmp 33) rfl wr.heap.size 0 cs3.toArray rfl rfl HTH.out HI2.out HON.out ?_;rw[HW4.out])
        |(go_at_call 127;refine HS.out.mono ?_;rintro e w5 ⟨rfl,b5⟩;have HB5:=hid b5;clear b5))
       go_ret
       exact⟨rfl,HBW.out.trans ((HB4.out.trans (HB5.out.mono HB4.out.size)).mono HBW.out.size)⟩
     ·have q4:x.kind=4:=hk.resolve_left q2;rw[q4]at y0;clear hk hcond q2 q4;cases bs with
      |true =>
       go_wp2_with (first
        |(refine wpList_load_mid rfl 119 (.tmp 32) rfl b3 o3 rfl cs3 _ HRG.out Tryz.underlying119 rfl HI.out ?_)
        |(refine wpList_store_mid rfl 119 (.tmp 6) (.tmp 33) rfl wr.heap.size 0 cs3.toArray rfl rfl HTH.out HI2.out HON.out ?_;rw[HW4.out])
        |(go_at_call 127;refine HS.out.mono ?_;rintro e w5 ⟨rfl,b5⟩;have HB5:=hid b5;clear b5))
       go_roundw
       case rel => exact⟨i+1,by omega,by go_num,HST.out,HB.out.trans ((HB4.out.trans (HB5.out.mono HB4.out.size)).mono hbz)⟩
       case measure => simp[intOf];omega
      |false =>
       have e1:rb=false:=by rw[← HRB2.out,HNO.out rfl];rfl
       subst e1;go_wp2_with (first
        |(refine wpList_load_mid rfl 119 (.tmp 32) rfl b3 o3 rfl cs3 _ HRG.out Tryz.underlying119 rfl HI.out ?_)
        |(refine wpList_store_mid rfl 119 (.tmp 6) (.tmp 33) rfl wr.heap.size 0 cs3.toArray rfl rfl HTH.out HI2.out HON.out ?_;rw[HW4.out])
        |(go_at_call 127;refine HS.out.mono ?_;rintro e w5 ⟨rfl,b5⟩;have HB5:=hid b5;clear b5))
       go_ret
       exact⟨rfl,HBW.out.trans ((HB4.out.trans (HB5.out.mono HB4.out.size)).mono HBW.out.size)⟩
    ·have hk2:(x.kind == 2)=false:=by simpa using fun q => hk (.inl q)
     have hk4:(x.kind == 4)=false:=by simpa using fun q => hk (.inr q)
     have hrest:BV d.world.s.sh all x=true:=by
      unfold BV;have h2:¬x.kind=2:=fun q => hk (.inl q)
      have h4:¬x.kind=4:=fun q => hk (.inr q)
      simp[h2,h4]
     rw[hrest]at HST;clear hk hrest HSP HNO;go_wp2_with (first
      |(refine wpList_load_mid rfl 119 (.tmp 32) rfl b3 o3 rfl cs3 _ HRG.out Tryz.underlying119 rfl HI.out ?_)
      |(refine wpList_store_mid rfl 119 (.tmp 6) (.tmp 33) rfl wr.heap.size 0 cs3.toArray rfl rfl HTH.out HI2.out HON.out ?_;rw[HW4.out]))
     go_roundw
     case rel => exact⟨i+1,by omega,by go_num,HST.out,HB.out.trans (HB4.out.mono hbz)⟩
     case measure => simp[intOf];omega
   ·obtain rfl:i=all.length:=by omega
    have hrb2:=HRB2.out;have hal2:=HAL.out;rw[List.take_length]at hal2;rw[hal2,Bool.true_and]at hrb2;have HRB3:=hid hrb2;have HNX:=hid (fun(W:World) (hW:Below wr.heap.size wr W) (j:Nat) => show Calls Tryz.prog 128 #[.pointer (some ⟨p,0,none⟩),int i64 (j:Int)] W (fun e w' =>∃cs':List Value,e= .returned (.tuple #[.agg cs'.toArray,.bool (Gm d.world (j:Int))])∧cs'.length=9∧(∀u,u∈cs'→u.oneCell'=true)∧Below W.heap.size W w')from(IW p fs d.world (j:Int) W (HA.out W (HBW.out.trans (hW.mono HBW.out.size))) HR.out).mono (by rintro e w' ⟨L,cs',h1,rfl,h2,h3,h4⟩;exact⟨cs',by rw[Jx h1],h2,h3,h4⟩));have HDE:=hid (fun(W:World) (hW:Below wr.heap.size wr W) (j:Nat) (hj:j<ng) => Ll p fs d.world j W (HA.out W (HBW.out.trans (hW.mono HBW.out.size))) (by have:=HO.out.gl;rw[HNG.out]at this;omega) (HO.out.dn j (by have:=HO.out.gl;rw[HNG.out]at this;omega)));have x0:=HN0.out wr HBW.out;have hp:p<wr.heap.size:=Nat.lt_of_lt_of_le lp HBW.out.size;obtain⟨wv,rfl⟩:∃wv:World,wv=wr:=⟨_,rfl⟩;clear hrb2 hal2 HAL HX HB;go_wp2_with fail
    go_loopw [55] (fun ix wx =>∃j:Nat,j≤ng∧ix= int i64 j∧Hid ((List.range j).all (De d.world)=true)∧Hid (Below wv.heap.size wv wx)) (fun ix _ => ng - (intOf ix).toNat)
    case atStart => exact⟨0,by omega,rfl,rfl,Below.refl _ _⟩
    case round =>
     obtain⟨j,hj,rfl,HAL,HB⟩:=hrel;have HBW2:=hid (show Below w.heap.size w wr from HBW.out.trans (HB.out.mono HBW.out.size));have hbz2:=HB.out.size;by_cases hlt:j<ng
     ·have hji:(j:Int)<(ng:Int):=by omega
      have HN1:=hid (HNX.out wr HB.out j);have HST:=hid (show(List.range (j+1)).all (De d.world)=De d.world j by
       rw[List.range_succ,List.all_append,HAL.out];simp)
      have HNO:=hid (show De d.world j=false→(List.range ng).all (De d.world)=false from fun e => by
       rw[List.all_eq_false];exact⟨j,List.mem_range.2 hlt,by rw[e];exact Bool.false_ne_true⟩)
      have HDJ:=hid (fun(W:World) (hW:Below wr.heap.size wr W) => HDE.out W (HB.out.trans (hW.mono hbz2)) j hlt);unfold De at HST HNO;obtain⟨nb,hnb⟩:∃nb,Gm d.world (j:Int)=nb:=⟨_,rfl⟩;obtain⟨dd,hdd⟩:∃dd,Ew d.world j=dd:=⟨_,rfl⟩;simp only[hnb,hdd]at HST HNO HN1 HDJ;obtain⟨Z2,hZ2⟩:∃Z2:Array Value,#[int i64 0,int i64 0,.string ⟨#[]⟩,int i64 0,int i64 0,int i64 0,.slice none 0 0,.slice none 0 0,.slice none 0 0] =Z2:=⟨_,rfl⟩;have HZ2:=hid hZ2;have hp2:p<wr.heap.size:=Nat.lt_of_lt_of_le lp HBW2.out.size;clear hnb hdd;cases nb with
      |false =>
       go_wp2_with (first
        |(go_at_call 128;refine HN1.out.mono ?_;rintro e w3 ⟨cs',rfl,hl',ho',b3⟩;obtain⟨W4,hW4⟩:∃W4,(w3.alloc (.cells Z2 119)).setCells w3.heap.size 0 cs'.toArray.toList=W4:=⟨_,rfl⟩;have HW4:=hid hW4;have HTH:=hid (Blk.there (Blk.new w3 119 Z2) cs'.toArray.size (by rw[List.size_toArray,hl',← HZ2.out];exact Nat.le_refl _));have HI2:=hid (show(Tryz.prog.info? 119).map (·.size)=some cs'.toArray.size by rw[List.size_toArray,hl'];kernel_rfl);have HON:=hid (all_oneCell_toArray ho');have HB6:=hid (show Below wr.heap.size wr W4 by rw[← hW4];exact b3.trans ((Aw (Ah (Below.refl _ _) _) _ 0 (Nat.le_refl _):Below w3.heap.size w3 _).mono b3.size));have HD4:=hid (HDJ.out W4 HB6.out);clear hW4 b3 hl' ho')
        |(refine wpList_store_mid rfl 119 (.tmp 8) (.tmp 62) rfl w3.heap.size 0 cs'.toArray rfl rfl HTH.out HI2.out HON.out ?_;rw[HW4.out]))
       go_roundw
       case rel => exact⟨j+1,by omega,by go_num,HST.out,HB.out.trans (HB6.out.mono hbz2)⟩
       case measure => simp[intOf];omega
      |true =>
       cases dd with
       |true =>
        go_wp2_with (first
         |(go_at_call 128;refine HN1.out.mono ?_;rintro e w3 ⟨cs',rfl,hl',ho',b3⟩;obtain⟨W4,hW4⟩:∃W4,(w3.alloc (.cells Z2 119)).setCells w3.heap.size 0 cs'.toArray.toList=W4:=⟨_,rfl⟩;have HW4:=hid hW4;have HTH:=hid (Blk.there (Blk.new w3 119 Z2) cs'.toArray.size (by rw[List.size_toArray,hl',← HZ2.out];exact Nat.le_refl _));have HI2:=hid (show(Tryz.prog.info? 119).map (·.size)=some cs'.toArray.size by rw[List.size_toArray,hl'];kernel_rfl);have HON:=hid (all_oneCell_toArray ho');have HB6:=hid (show Below wr.heap.size wr W4 by rw[← hW4];exact b3.trans ((Aw (Ah (Below.refl _ _) _) _ 0 (Nat.le_refl _):Below w3.heap.size w3 _).mono b3.size));have HD4:=hid (HDJ.out W4 HB6.out);clear hW4 b3 hl' ho')
         |(refine wpList_store_mid rfl 119 (.tmp 8) (.tmp 62) rfl w3.heap.size 0 cs'.toArray rfl rfl HTH.out HI2.out HON.out ?_;rw[HW4.out])
         |(go_at_call 129;refine HD4.out.mono ?_;rintro e w7 ⟨rfl,b7⟩;have HB7:=hid (HB6.out.trans (b7.mono HB6.out.size));clear b7))
        go_roundw
        case rel => exact⟨j+1,by omega,by go_num,HST.out,HB.out.trans (HB7.out.mono hbz2)⟩
        case measure => simp[intOf];omega
       |false =>
        have e1:rb=false:=by rw[← HRB3.out];exact HNO.out rfl
        subst e1;go_wp2_with (first
         |(go_at_call 128;refine HN1.out.mono ?_;rintro e w3 ⟨cs',rfl,hl',ho',b3⟩;obtain⟨W4,hW4⟩:∃W4,(w3.alloc (.cells Z2 119)).setCells w3.heap.size 0 cs'.toArray.toList=W4:=⟨_,rfl⟩;have HW4:=hid hW4;have HTH:=hid (Blk.there (Blk.new w3 119 Z2) cs'.toArray.size (by rw[List.size_toArray,hl',← HZ2.out];exact Nat.le_refl _));have HI2:=hid (show(Tryz.prog.info? 119).map (·.size)=some cs'.toArray.size by rw[List.size_toArray,hl'];kernel_rfl);have HON:=hid (all_oneCell_toArray ho');have HB6:=hid (show Below wr.heap.size wr W4 by rw[← hW4];exact b3.trans ((Aw (Ah (Below.refl _ _) _) _ 0 (Nat.le_refl _):Below w3.heap.size w3 _).mono b3.size));have HD4:=hid (HDJ.out W4 HB6.out);clear hW4 b3 hl' ho')
         |(refine wpList_store_mid rfl 119 (.tmp 8) (.tmp 62) rfl w3.heap.size 0 cs'.toArray rfl rfl HTH.out HI2.out HON.out ?_;rw[HW4.out])
         |(go_at_call 129;refine HD4.out.mono ?_;rintro e w7 ⟨rfl,b7⟩;have HB7:=hid (HB6.out.trans (b7.mono HB6.out.size));clear b7))
        go_ret
        exact⟨rfl,HBW2.out.trans (HB7.out.mono HBW2.out.size)⟩
     ·obtain rfl:j=ng:=by omega
      have e1:rb=true:=by rw[← HRB3.out];exact HAL.out
      subst e1;have x0w:=HN0.out wr HBW2.out;have hp2:p<wr.heap.size:=Nat.lt_of_lt_of_le lp HBW2.out.size;go_wp2_with fail
      go_ret
      exact⟨rfl,HBW2.out⟩
end Go.Proofs.YtfjkoifpdoemdaaGreat
