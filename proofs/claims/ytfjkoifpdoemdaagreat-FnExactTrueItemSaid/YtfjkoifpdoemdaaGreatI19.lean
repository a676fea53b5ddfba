/-
  Part 19 of the proof.
-/
import Derived.Test.YtfjkoifpdoemdaaGreatI18
import Derived.Test.YtfjkoifpdoemdaaGreatI11
import Derived.Test.YtfjkoifpdoemdaaGreatI17
set_option maxHeartbeats 8000000
set_option maxRecDepth 100000
set_option linter.unusedVariables false
set_option linter.unusedSimpArgs false
open Go.Value (int)
open Go.IntKind (i64)
namespace Go.Proofs.YtfjkoifpdoemdaaGreat
open Go.RowKit Go.Lib Go.Sort
def Cd(dr:AL)(row:Nat):Br:=dr.blocks.getD row ⟨0,[]⟩
def CP(row:Nat)(dr:AL):List UInt8:=if dr.wiped=true then []else(Cd dr row).bytes
def AJ(d:Am)(g:Nat):List AL:=d.g.getD g []
def Bq(d:Am)(g row:Nat):List (List UInt8):=(AJ d g).map (CP row)
theorem LA {dr:AL} {row:Nat}(h:row<dr.blocks.length):Cd dr row=dr.blocks[row]:=by simp[Cd,List.getD_eq_getElem?_getD,h]
theorem MX {d:Am} {g:Nat}(h:g<d.g.length):AJ d g=d.g[g]:=by simp[AJ,List.getD_eq_getElem?_getD,h]
structure LM (w:World) (p:Nat) (d:Am) (g:Nat) (a0:Addr) (c0 b0 o0:Nat) (A1:Option Addr) (c1:Nat) (f1:List Addr):Prop where
 n9:w.cell? ⟨p,9,none⟩=some (.slice (some a0) d.g.length c0)
 lp:p<w.heap.size
 pl:a0.add g=⟨b0,o0,none⟩
 l0:b0<w.heap.size
 k0:w.cell? ⟨b0,o0,none⟩=some (.slice A1 (AJ d g).length c1)
 rd:rSl 2 Aj w f1 (.slice A1 (AJ d g).length c1) (AJ d g)
theorem AtW.grp {w:World} {p:Nat} {fs:List Addr} {d:Am}(h:AtW w p fs d) {g:Nat}(hg:g<d.g.length):∃a0 c0 b0 o0 A1 c1 f1,LM w p d g a0 c0 b0 o0 A1 c1 f1:=by
 obtain⟨A0,A1,A2,c0,c1,c2,f0,f1,f2,HC⟩:=h.cells;obtain⟨A',c',e,hc,hm,hx⟩:=rSl.at_ (Ak.fixed Aj.fixed) (by decide) HC.rgr;injection e with e1 _ e3
 subst e1 e3;obtain⟨ad,b,o,cs,fk,rfl,hat⟩:=hx g hg;obtain⟨ve,rfl,hrd⟩:=hat.reads;obtain⟨Ae,ce,rfl,-⟩:=rSl.head hrd;have hpl:=hat.place;rw[Nat.mul_one]at hpl;have hk:=hat.cell 0 (by simp);simp only[Nat.add_zero,List.getElem_cons_zero]at hk;rw[← MX hg]at hk hrd;exact⟨ad,_,b,o,Ae,ce,fk,HC.gr,HC.lt,hpl,hat.lt,hk,hrd⟩
theorem LM.below {w w':World} {p:Nat} {d:Am} {g:Nat} {a0:Addr} {c0 b0 o0:Nat} {A1:Option Addr} {c1:Nat} {f1:List Addr}(h:LM w p d g a0 c0 b0 o0 A1 c1 f1)(hb:Below w.heap.size w w'):LM w' p d g a0 c0 b0 o0 A1 c1 f1 :=
 ⟨(hb.cell (p:=⟨p,9,none⟩) h.lp).trans h.n9,Nat.lt_of_lt_of_le h.lp hb.size,h.pl,Nat.lt_of_lt_of_le h.l0 hb.size,(hb.cell (p:=⟨b0,o0,none⟩) h.l0).trans h.k0,rSl.below Aj.local_ Aj.fixed h.rd hb⟩
structure LK (w:World) (a1:Addr) (k row:Nat) (dr:AL) (b1 o1:Nat) (a2:Addr) (c2 b2 o2:Nat) (A3:Option Addr) (c3:Nat) (f3:List Addr):Prop where
 p1:a1.add (k * 2)=⟨b1,o1,none⟩
 l1:b1<w.heap.size
 y0:w.cell? ⟨b1,o1,none⟩=some (.bool dr.wiped)
 y1:w.cell? ⟨b1,o1+1,none⟩=some (.slice (some a2) dr.blocks.length c2)
 p2:a2.add (row * 2)=⟨b2,o2,none⟩
 l2:b2<w.heap.size
 z0:w.cell? ⟨b2,o2,none⟩=some (int i64 (Cd dr row).stamp)
 z1:w.cell? ⟨b2,o2+1,none⟩=some (.slice A3 (Cd dr row).bytes.length c3)
 rd:Ag w f3 (.slice A3 (Cd dr row).bytes.length c3) (Cd dr row).bytes
theorem LK.below {w w':World} {a1:Addr} {k row:Nat} {dr:AL} {b1 o1:Nat} {a2:Addr} {c2 b2 o2:Nat} {A3:Option Addr} {c3:Nat} {f3:List Addr}(h:LK w a1 k row dr b1 o1 a2 c2 b2 o2 A3 c3 f3)(hb:Below w.heap.size w w'):LK w' a1 k row dr b1 o1 a2 c2 b2 o2 A3 c3 f3 :=
 ⟨h.p1,Nat.lt_of_lt_of_le h.l1 hb.size,(hb.cell (p:=⟨b1,o1,none⟩) h.l1).trans h.y0,(hb.cell (p:=⟨b1,o1+1,none⟩) h.l1).trans h.y1,h.p2,Nat.lt_of_lt_of_le h.l2 hb.size,(hb.cell (p:=⟨b2,o2,none⟩) h.l2).trans h.z0,(hb.cell (p:=⟨b2,o2+1,none⟩) h.l2).trans h.z1,h.rd.below hb⟩
theorem J1 {w:World} {f1:List Addr} {A1:Option Addr} {n c1:Nat} {ds:List AL}(h:rSl 2 Aj w f1 (.slice A1 n c1) ds) {k row:Nat}(hk:k<ds.length)(hr:row<ds[k].blocks.length):∃a1 b1 o1 a2 c2 b2 o2 A3 c3 f3,A1=some a1∧LK w a1 k row ds[k] b1 o1 a2 c2 b2 o2 A3 c3 f3:=by
 obtain⟨A',c',e,hc,hm,hx⟩:=rSl.at_ Aj.fixed (by decide) h;injection e with e1 _ e3
 subst e1 e3;obtain⟨ad,b,o,cs,fk,rfl,hat⟩:=hx k hk;obtain⟨v0,g0,e,-,hb⟩:=hat.reads;subst e;have y0:=hat.cell 0 (by simp);have y1:=hat.cell 1 (by simp);simp only[Nat.add_zero,List.getElem_cons_zero,List.getElem_cons_succ]at y0 y1;obtain⟨A2,c2,rfl,hc2,hm2,hx2⟩:=rSl.at_ AD.fixed (by decide) hb;obtain⟨ad2,b2,o2,cs2,fk2,rfl,hat2⟩:=hx2 row hr;obtain⟨v1,g1,e2,-,-,hb2⟩:=hat2.reads;subst e2;have z0:=hat2.cell 0 (by simp);have z1:=hat2.cell 1 (by simp);simp only[Nat.add_zero,List.getElem_cons_zero,List.getElem_cons_succ]at z0 z1;obtain⟨A3,c3,rfl,-⟩:=rSl.head hb2;rw[← LA hr]at z0 z1 hb2;exact⟨ad,b,o,ad2,c2,b2,o2,A3,c3,g1,rfl,hat.place,hat.lt,y0,y1,hat2.place,hat2.lt,z0,z1,hb2⟩
theorem LX(p:Nat)(fs:List Addr)(d:Am)(g row:Nat)(w:World)(h:AtW w p fs d)(hg:g<d.g.length)(hr:∀dr,dr∈AJ d g→row<dr.blocks.length)(hn:(AJ d g).length≤1000) :
  Calls Tryz.prog 186 #[.pointer (some ⟨p,0,none⟩),int i64 (g:Int),int i64 (row:Int)] w fun e w' =>∃A c fo,e= .returned (.slice A (Bq d g row).length c)∧Al 1 39 (Ak 1 Ah) w' w.heap.size (.slice A (Bq d g row).length c) (Bq d g row) fo∧(∀a,a∈fo→a.block<w.heap.size)∧Below w.heap.size w w':=by
 obtain⟨a0,c0,b0,o0,A1,c1,f1,HG⟩:=h.grp hg;have HGH:=hid HG;have HRW:=hid hr;obtain⟨L,hL⟩:∃L,AJ d g=L:=⟨_,rfl⟩;have hbl:Bq d g row=L.map (CP row):=by unfold Bq;rw[hL]
 have n9:=HG.n9;have pl:=HG.pl;have k0:=HG.k0;have lp:=HG.lp;have l0:=HG.l0;have HRD:=HG.rd;rw[hL]at HRW hn k0 HRD;rw[hbl];have HRDH:=hid HRD;have hlt0:(g:Int)<(d.g.length:Int):=by omega
 clear h hr hbl HRD HG hL HGH;go_enter Tryz.func186,Tryz.ntmps186
 have HE:=hid (Al.emptyL (w:=w));have HE2:=hid (Af (Below.refl w.heap.size w) (.cells #[] 39));go_wp2_with fail
 go_loopw [19,7,9] (fun i o _ wr =>∃(k:Nat) (A:Option Addr) (c3:Nat) (fo:List Addr),k≤L.length∧i= int i64 k∧o= .slice A k c3∧Hid (Al 1 39 (Ak 1 Ah) wr w.heap.size o ((L.map (CP row)).take k) fo)∧Hid (∀a,a∈fo→a.block<w.heap.size)∧Hid (Below w.heap.size w wr)) (fun i _ _ _ => L.length - (intOf i).toNat)
 case atStart => exact⟨0,_,0,[],by omega,rfl,rfl,HE.out,(show∀a,_ from fun a ha => by cases ha),HE2.out⟩
 case round =>
  obtain⟨k,A,c3,fo,hk,rfl,rfl,HO,HF,HB⟩:=hrel;clear HE HE2;have HBS:=hid HB.out.size;by_cases hkn:k<L.length
  ·obtain⟨a1,b1,o1,a2,c2,b2,o2,A3,c4,f3,rfl,HD0⟩:=J1 (row:=row) HRDH.out hkn (HRW.out _ (List.getElem_mem hkn));have HD:=HD0.below HB.out;have p1:=HD.p1;have l1:=HD.l1;have y0:=HD.y0;have y1:=HD.y1;have p2:=HD.p2;have l2:=HD.l2;have z1:=HD.z1;have HR3:=hid HD.rd;have hrl:row<L[k].blocks.length:=HRW.out _ (List.getElem_mem hkn);have hst:(L.map (CP row)).take k ++ [CP row L[k]] =(L.map (CP row)).take (k+1):=by
    rw[List.take_succ_eq_append_getElem (by rw[List.length_map];exact hkn)];simp
   have hlen:((L.map (CP row)).take k).length =k:=by rw[List.length_take,List.length_map];omega
   have HF3:=hid (show∀a,a∈f3→a.block<w.heap.size from fun a ha => rSl.there Ah.fixed HD0.rd a ha);have HLEN:=hid hlen;have hrow:CP row L[k] =if L[k].wiped =true then []else(Cd L[k] row).bytes:=rfl
   obtain⟨wp,hwp⟩:∃wp,L[k].wiped =wp:=⟨_,rfl⟩;obtain⟨B,hB⟩:∃B,(Cd L[k] row).bytes =B:=⟨_,rfl⟩;obtain⟨m,hm⟩:∃m,L[k].blocks.length =m:=⟨_,rfl⟩;rw[hwp]at y0 hrow;rw[hB]at z1 HR3 hrow;rw[hm]at y1 hrl;rw[hrow]at hst;have HST:=hid hst;have hrl1:(row:Int)<(m:Int):=by omega
   have gz:=HBS.out;clear HD HD0 hst hlen hrow hwp hB hm;cases wp with
   |true =>
    go_wp2_with (at_builtin;refine As rfl (.tmp 25) (.tmp 26) 83 rfl _ _ (by rfl) (by rfl) (Tryz.addAny (wr:=wr) (ve:=.slice none 0 0) (f:=[]) (L:=[]) HO.out HBS.out (by rw[HLEN.out];omega) (by repeat(with_reducible first|exact Below.refl _ _|apply Af)) (by exact Blk.new1 _ _ _ _) (Ag.empty (by omega)) (fun a ha => by cases ha)) ?_;rintro v6 w6 ⟨A6,c6,h6,rfl,o6,B6,e6,s6⟩;have HO6:=hid o6;have HB6:=hid B6;have HS6:=hid s6;clear o6 B6 s6)
    have hs9:=HST.out;rw[if_pos rfl]at hs9;have h9:=HO6.out;rw[HLEN.out,hs9]at h9;clear hs9;go_roundw
    case rel => exact⟨k+1,A6,c6,_,by omega,by go_num,rfl,h9,(show∀a,_ from fun a ha => by
     rcases List.mem_append.1 ha with ha|ha
     ·exact HF.out a ha
     ·cases HS6.out.subset ha),HB.out.trans HB6.out⟩
    case measure => simp[intOf];omega
   |false =>
    go_wp2_with (at_builtin;refine As rfl (.tmp 28) (.tmp 35) 83 rfl _ _ (by rfl) (by rfl) (Tryz.addAny (wr:=wr) (ve:=.slice A3 B.length c4) (f:=f3) (L:=B) HO.out HBS.out (by rw[HLEN.out];omega) (by repeat(with_reducible first|exact Below.refl _ _|apply Af)) (by exact Blk.new1 _ _ _ _) (HR3.out.below (by repeat(with_reducible first|exact Below.refl _ _|apply Af))) (fun a ha => .inl (HF3.out a ha))) ?_;rintro v6 w6 ⟨A6,c6,h6,rfl,o6,B6,e6,s6⟩;have HO6:=hid o6;have HB6:=hid B6;have HS6:=hid s6;clear o6 B6 s6)
    have hs9:=HST.out;rw[if_neg (by simp)]at hs9;have h9:=HO6.out;rw[HLEN.out,hs9]at h9;clear hs9;go_roundw
    case rel => exact⟨k+1,A6,c6,_,by omega,by go_num,rfl,h9,(show∀a,_ from fun a ha => by
     rcases List.mem_append.1 ha with ha|ha
     ·exact HF.out a ha
     ·exact HF3.out a (HS6.out.subset ha)),HB.out.trans HB6.out⟩
    case measure => simp[intOf];omega
  ·obtain rfl:k=L.length:=by omega
   go_wp2_with fail
   go_ret
   have ho:=HO.out;rw[List.take_of_length_le (by rw[List.length_map];exact Nat.le_refl _)]at ho;exact⟨A,c3,fo,by rw[List.length_map];rfl,by rw[List.length_map];exact ho,HF.out,HB.out⟩
def Gn(L:List AL)(k:Nat):Nat:=(L.take k).countP AL.wiped
theorem LB {L:List AL} {k:Nat}(h:k<L.length):Gn L (k+1)=Gn L k+if L[k].wiped =true then 1 else 0:=by
 unfold Gn;rw[List.take_succ_eq_append_getElem h,List.countP_append];simp[List.countP_cons]
def J5(d:Am)(g:Nat):Bool:=decide (d.s.p<(Gn (AJ d g) (AJ d g).length:Int))
theorem l7Dead_c(p:Nat)(fs:List Addr)(d:Am)(g:Nat)(w:World)(h:AtW w p fs d)(hg:g<d.g.length)(hr:∀dr,dr∈AJ d g→0<dr.blocks.length)(hn:(AJ d g).length≤1000) :
  Calls Tryz.prog 120 #[.pointer (some ⟨p,0,none⟩),int i64 (g:Int)] w fun e w' => e= .returned (.bool (J5 d g))∧w=w':=by
 obtain⟨a0,c0,b0,o0,A1,c1,f1,HG⟩:=h.grp hg;obtain⟨A0',A1',A2',c0',c1',c2',f0',f1',f2',HC⟩:=h.cells;have n3:=HC.n3;obtain⟨L,hL⟩:∃L,AJ d g=L:=⟨_,rfl⟩;have hd:J5 d g=decide (d.s.p<(Gn (AJ d g) (AJ d g).length:Int)):=rfl;rw[hL]at hd;have HDD:=hid hd;have HRW:=hid hr;have n9:=HG.n9;have pl:=HG.pl;have k0:=HG.k0;have HRD:=HG.rd;rw[hL]at HRW hn k0 HRD;have HRDH:=hid HRD;have hlt0:(g:Int)<(d.g.length:Int):=by omega
 obtain⟨rb,hrb⟩:∃rb,J5 d g=rb:=⟨_,rfl⟩;rw[hrb]at HDD⊢;clear h hr hd HRD HG hL HC hrb;go_enter Tryz.func120,Tryz.ntmps120
 go_wp2_with fail
 go_loop [5,6] (fun n i =>∃(k q:Nat),k≤L.length∧i= int i64 k∧n= int i64 q∧q≤k∧Hid (q=Gn L k)) (fun _ i => L.length - (intOf i).toNat)
 case atStart => exact⟨0,0,by omega,rfl,rfl,by omega,(show 0=_ by simp[Gn])⟩
 case round =>
  obtain⟨k,q,hk,rfl,rfl,hq,HQ⟩:=hrel;by_cases hkn:k<L.length
  ·obtain⟨a1,b1,o1,a2,c2,b2,o2,A3,c4,f3,rfl,HD⟩:=J1 (row:=0) HRDH.out hkn (HRW.out _ (List.getElem_mem hkn));have p1:=HD.p1;have l1:=HD.l1;have y0:=HD.y0;have hst:=LB hkn;obtain⟨wp,hwp⟩:∃wp,L[k].wiped =wp:=⟨_,rfl⟩;rw[hwp]at y0 hst;have HST:=hid hst;clear HD hst hwp;cases wp with
   |true =>
    go_wp2_with fail
    go_round
    case rel => exact⟨k+1,q+1,by omega,by go_num,by go_num,by omega,(show _=_ by rw[HST.out,← HQ.out];rfl)⟩
    case measure => simp[intOf];omega
   |false =>
    go_wp2_with fail
    go_round
    case rel => exact⟨k+1,q,by omega,by go_num,rfl,by omega,(show _=_ by rw[HST.out,← HQ.out];rfl)⟩
    case measure => simp[intOf];omega
  ·obtain rfl:k=L.length:=by omega
   by_cases hc:d.s.p<(q:Int)
   ·have e1:rb=true:=by rw[HDD.out,← HQ.out];exact decide_eq_true hc
    subst e1;go_wp2_with fail
    go_ret
    exact⟨rfl,rfl⟩
   ·have e1:rb=false:=by rw[HDD.out,← HQ.out];exact decide_eq_false hc
    subst e1;have hc2:decide (d.s.p<(q:Int))=false:=decide_eq_false hc;go_wp2_with fail
    go_ret
    exact⟨rfl,rfl⟩
theorem PI(p:Nat)(fs:List Addr)(d:Am)(g row nd:Nat)(w:World)(h:AtW w p fs d)(hg:g<d.g.length)(hr:∀dr,dr∈AJ d g→row<dr.blocks.length)(hnd:d.s.data=nd)(hd1:1≤nd)(hd2:nd≤3)(hn:(AJ d g).length≤nd+2)(hO:C5 (Bq d g row) 4) :
  Calls Tryz.prog 155 #[.pointer (some ⟨p,0,none⟩),int i64 (g:Int),int i64 (row:Int)] w (GX (Da nd (Bq d g row)) w):=by
 obtain⟨a0,c0,b0,o0,A1,c1,f1,HG⟩:=h.grp hg;obtain⟨A0',A1',A2',c0',c1',c2',f0',f1',f2',HC⟩:=h.cells;have n2:=HC.n2;rw[hnd]at n2;have HRW:=hid hr;obtain⟨L,hL⟩:∃L,AJ d g=L:=⟨_,rfl⟩;have hbl:Bq d g row=L.map (CP row):=by unfold Bq;rw[hL]
 have n9:=HG.n9;have pl:=HG.pl;have k0:=HG.k0;have lp:=HG.lp;have l0:=HG.l0;have HRD:=HG.rd;rw[hL]at HRW hn k0 HRD;rw[hbl]at hO⊢;have HOO:=hid hO;have HRDH:=hid HRD;have hlt0:(g:Int)<(d.g.length:Int):=by omega
 have HE:=hid (Al.emptyL (w:=w));have HE2:=hid (Af (Below.refl w.heap.size w) (.cells #[] 39));clear h hr hbl HRD HG hL HC hO hnd;go_enter Tryz.func155,Tryz.ntmps155
 go_wp2_with fail
 go_loopw [9,8] (fun i o wr =>∃(k:Nat) (A:Option Addr) (c3:Nat) (fo:List Addr),k≤L.length∧i= int i64 k∧o= .slice A k c3∧Hid (Al 1 39 (Ak 1 Ah) wr w.heap.size o ((L.map (CP row)).take k) fo)∧Hid (Below w.heap.size w wr)) (fun i _ _ => L.length - (intOf i).toNat)
 case atStart => exact⟨0,_,0,[],by omega,rfl,rfl,HE.out,HE2.out⟩
 case round =>
  obtain⟨k,A,c3,fo,hk,rfl,rfl,HO,HB⟩:=hrel;clear HE HE2;have HBS:=hid HB.out.size;have j9:=(HB.out.cell (p:=⟨p,9,none⟩) lp).trans n9;have j2:=(HB.out.cell (p:=⟨p,2,none⟩) lp).trans n2;have j0:=(HB.out.cell (p:=⟨b0,o0,none⟩) l0).trans k0;have lp1:p<wr.heap.size:=Nat.lt_of_lt_of_le lp HBS.out;have l01:b0<wr.heap.size:=Nat.lt_of_lt_of_le l0 HBS.out;by_cases hkn:k<L.length
  ·obtain⟨a1,b1,o1,a2,c2,b2,o2,A3,c4,f3,rfl,HD0⟩:=J1 (row:=row) HRDH.out hkn (HRW.out _ (List.getElem_mem hkn));have HD:=HD0.below HB.out;have p1:=HD.p1;have l1:=HD.l1;have y0:=HD.y0;have y1:=HD.y1;have p2:=HD.p2;have l2:=HD.l2;have z1:=HD.z1;have HR3:=hid HD.rd;have hrl:row<L[k].blocks.length:=HRW.out _ (List.getElem_mem hkn);have hst:(L.map (CP row)).take k ++ [CP row L[k]] =(L.map (CP row)).take (k+1):=by
    rw[List.take_succ_eq_append_getElem (by rw[List.length_map];exact hkn)];simp
   have hlen:((L.map (CP row)).take k).length =k:=by rw[List.length_take,List.length_map];omega
   have HF3:=hid (show∀a,a∈f3→a.block<w.heap.size from fun a ha => rSl.there Ah.fixed HD0.rd a ha);have HLEN:=hid hlen;have hrow:CP row L[k] =if L[k].wiped =true then []else(Cd L[k] row).bytes:=rfl
   obtain⟨wp,hwp⟩:∃wp,L[k].wiped =wp:=⟨_,rfl⟩;obtain⟨B,hB⟩:∃B,(Cd L[k] row).bytes =B:=⟨_,rfl⟩;obtain⟨m,hm⟩:∃m,L[k].blocks.length =m:=⟨_,rfl⟩;rw[hwp]at y0 hrow;rw[hB]at z1 HR3 hrow;rw[hm]at y1 hrl;rw[hrow]at hst;have hrl1:(row:Int)<(m:Int):=by omega
   clear HD HD0 hlen hrow hwp hB hm;cases wp with
   |true =>
    rw[if_pos rfl]at hst;have HST:=hid hst;clear hst;go_wp2_with (at_builtin;refine As rfl (.tmp 34) (.tmp 35) 83 rfl _ _ (by rfl) (by rfl) (Tryz.addAny (wr:=wr) (ve:=.slice none 0 0) (f:=[]) (L:=[]) HO.out HBS.out (by rw[HLEN.out];omega) (by repeat(with_reducible first|exact Below.refl _ _|apply Af)) (by exact Blk.new _ _ _) (Ag.empty (by omega)) (fun a ha => by cases ha)) ?_;rintro v6 w6 ⟨A6,c6,h6,rfl,o6,B6,e6,s6⟩;have HO6:=hid o6;have HB6:=hid B6;have HS6:=hid s6;clear o6 B6 s6)
    have h9:=HO6.out;rw[HLEN.out,HST.out]at h9;go_roundw
    case rel => exact⟨k+1,A6,c6,_,by omega,by go_num,rfl,h9,HB.out.trans HB6.out⟩
    case measure => simp[intOf];omega
   |false =>
    rw[if_neg (by simp)]at hst;have HST:=hid hst;clear hst;go_wp2_with (at_builtin;refine As rfl (.tmp 37) (.tmp 53) 83 rfl _ _ (by rfl) (by rfl) (Tryz.addAny (wr:=wr) (ve:=.slice A3 B.length c4) (f:=f3) (L:=B) HO.out HBS.out (by rw[HLEN.out];omega) (by repeat(with_reducible first|exact Below.refl _ _|apply Af)) (by exact Blk.new _ _ _) (HR3.out.below (by repeat(with_reducible first|exact Below.refl _ _|apply Af))) (fun a ha => .inl (HF3.out a ha))) ?_;rintro v6 w6 ⟨A6,c6,h6,rfl,o6,B6,e6,s6⟩;have HO6:=hid o6;have HB6:=hid B6;have HS6:=hid s6;clear o6 B6 s6)
    have h9:=HO6.out;rw[HLEN.out,HST.out]at h9;go_roundw
    case rel => exact⟨k+1,A6,c6,_,by omega,by go_num,rfl,h9,HB.out.trans HB6.out⟩
    case measure => simp[intOf];omega
  ·obtain rfl:k=L.length:=by omega
   have ho:=HO.out;rw[List.take_of_length_le (by rw[List.length_map];exact Nat.le_refl _)]at ho;obtain⟨gr,hgr,-⟩:=ho.reads;have HC:=hid (Kl nd (.slice A L.length c3) (L.map (CP row)) (gr ++ fo) wr (by have:=hgr;simpa using this) hd1 hd2 (by rw[List.length_map];exact hn) HOO.out);obtain⟨X,hX⟩:∃X,Da nd (L.map (CP row))=X:=⟨_,rfl⟩;rw[hX]at HC;have HX:=hid hX;clear hgr ho hX;go_wp2_with fail
   refine HC.out.mono ?_;rintro e w2 (⟨D,A2,c2,f2,rfl,rfl,r2,m2,b2⟩|⟨rfl,rfl,b2⟩)
   ·have R2:=hid r2;have M2:=hid m2;have B2:=hid b2;clear r2 m2 b2;go_wp2_with fail
    go_ret2
    exact .inl ⟨D,A2,c2,f2,HX.out,rfl,R2.out,M2.out.mono HBS.out,HB.out.trans (B2.out.mono HBS.out)⟩
   ·have B2:=hid b2;clear b2;go_wp2_with fail
    go_ret2
    exact .inr ⟨HX.out,rfl,HB.out.trans (B2.out.mono HBS.out)⟩
def F7(enc:Ai→List (List UInt8))(row:Int)(k:Nat)(st:List UInt8 × Int)(m:Ai):List UInt8 × Int :=
 if m.row=row∧st.2<m.seq then(DZ st.1 ((enc m).getD k []),m.seq)else st
def DM(enc:Ai→List (List UInt8))(row:Int)(k:Nat)(b:List UInt8)(stamp:Int)(M:List Ai):List UInt8 × Int:=M.foldl (F7 enc row k) (b,stamp)
def F4(enc:Ai→List (List UInt8))(row:Nat)(M:List Ai)(k:Nat)(dr:AL):List UInt8 :=
 if dr.wiped=true then []else(DM enc row k (Cd dr row).bytes (Cd dr row).stamp M).1
def FE(enc:Ai→List (List UInt8))(row:Nat)(M:List Ai)(L:List AL):List (List UInt8):=L.mapIdx fun k dr => F4 enc row M k dr
def BV(d:Am)(g:Nat)(m:Ai):List (List UInt8):=Kq d.s.g.toNat d.s.data.toNat d.s.p.toNat g m
def CE(d:Am)(M:List Ai)(g row:Nat):List (List UInt8):=FE (BV d g) row M (AJ d g)
theorem Cn(enc:Ai→List (List UInt8))(row:Nat)(M:List Ai)(L:List AL):(FE enc row M L).length =L.length:=by simp[FE]
theorem FM(enc:Ai→List (List UInt8))(row:Nat)(M:List Ai)(L:List AL) {k:Nat}(h:k<L.length):(FE enc row M L)[k]'(by rw[Cn];exact h)=F4 enc row M k L[k]:=by simp[FE]
theorem JP(enc:Ai→List (List UInt8))(row:Int)(k:Nat)(b:List UInt8)(stamp:Int) {M:List Ai} {j:Nat}(h:j<M.length):DM enc row k b stamp (M.take (j+1))=F7 enc row k (DM enc row k b stamp (M.take j)) M[j]:=by
 unfold DM;rw[List.take_succ_eq_append_getElem h,List.foldl_append];rfl
theorem MJ {enc:Ai→List (List UInt8)} {row:Int} {k:Nat} {st:List UInt8 × Int} {m:Ai}(h:st.1.length=4)(he:((enc m).getD k []).length =4):(F7 enc row k st m).1.length =4:=by
 unfold F7;split
 ·show(DZ _ _).length =4
  rw[FG _ _ (by rw[h,he]),h]
 ·exact h
theorem Dm {enc:Ai→List (List UInt8)} {row:Int} {k:Nat} {b:List UInt8} {stamp:Int}:∀ {M:List Ai},(∀m,m∈M→((enc m).getD k []).length =4)→b.length=4→(DM enc row k b stamp M).1.length =4
 | [],_,h => h
 |m :: M,he,h => by
  have h1:(F7 enc row k (b,stamp) m).1.length =4:=MJ h (he m List.mem_cons_self);unfold DM;rw[List.foldl_cons];exact Dm (b:=(F7 enc row k (b,stamp) m).1) (stamp:=(F7 enc row k (b,stamp) m).2) (fun x hx => he x (List.mem_cons_of_mem _ hx)) h1
def stF {α:Type}(X Y:List α)(k:Nat):List α:=X.take k ++ Y.drop k
theorem stF_zero {α:Type}(X Y:List α):stF X Y 0=Y:=by simp[stF]
theorem stF_all {α:Type} {X Y:List α}(h:Y.length=X.length):stF X Y X.length=X:=by
 unfold stF;rw[List.take_length,← h,List.drop_length,List.append_nil]
theorem LN {X Y:List (List UInt8)}(h:Y.length=X.length) {k:Nat}(hk:k<X.length):(stF X Y k).getD k [] =Y[k]'(by omega):=by
 unfold stF;rw[List.getD_eq_getElem?_getD,List.getElem?_append_right (by rw[List.length_take];omega),List.length_take,Nat.min_eq_left (by omega),Nat.sub_self,List.getElem?_drop];simp[h,hk]
theorem Mj {α:Type} {X Y:List α}(h:Y.length=X.length) {k:Nat}(hk:k<X.length):stF X Y (k+1)=(stF X Y k).set k X[k]:=by
 unfold stF;rw[List.set_append_right _ _ (by rw[List.length_take];omega),List.length_take,Nat.min_eq_left (by omega),Nat.sub_self,List.drop_eq_getElem_cons (show k<Y.length by omega),List.set_cons_zero,List.take_succ_eq_append_getElem hk,List.append_assoc];rfl
theorem stF_same {X Y:List (List UInt8)}(h:Y.length=X.length) {k:Nat}(hk:k<X.length)(e:X[k] =Y[k]'(by omega)):stF X Y (k+1)=stF X Y k:=by
 rw[Mj h hk];apply List.ext_getElem
 ·simp
 ·intro i h1 h2;rw[List.getElem_set];split
  ·rename_i e2;subst e2
   have:=LN h hk;rw[List.getD_eq_getElem?_getD,List.getElem?_eq_getElem h2]at this;simp only[Option.getD_some]at this;rw[this,e]
  ·rfl
theorem Mat.lists {w:World} {g n c:Nat} {ms:List (List UInt8)}(h:Mat w g n ms)(hc:n≤c)(hc2:c≤9223372036854775807):∃fs,Ap w fs (.slice (some ⟨g,0,none⟩) n c) ms:=by
 have hl:=h.len;have hch:∀i:Fin n,∃q:(Option Addr × Nat) × List Addr,w.cell? ⟨g,i.val,none⟩=some (.slice q.1.1 (ms.getD i.val []).length q.1.2)∧Ag w q.2 (.slice q.1.1 (ms.getD i.val []).length q.1.2) (ms.getD i.val []):=fun i => by
  obtain⟨A,c,f,h1,h2,-⟩:=h.row i.val i.isLt;exact⟨((A,c),f),h1,h2⟩
 obtain⟨q,hq⟩:=Classical.axiomOfChoice hch;refine⟨_,some ⟨g,0,none⟩,c,by rw[hl],by omega,hc2,.inr ⟨⟨g,0,none⟩,(List.finRange n).map fun i => [.slice (q i).1.1 (ms.getD i.val []).length (q i).1.2],(List.finRange n).map fun i =>(q i).2,rfl,by simp[hl],by simp[hl],rfl,fun i hi => ?_⟩⟩;have hi':i<n:=by omega
 refine⟨by simpa using hi',by simpa using hi',by simp,fun j hj => ?_,?_⟩
 ·simp only[List.getElem_map,List.getElem_finRange,Fin.cast_mk,List.length_cons,List.length_nil]at hj⊢;have hj0:j=0:=by omega
  subst hj0;have e:(⟨g,0,none⟩:Addr).add (i * 1+0)=⟨g,i,none⟩:=by rw[Nat.mul_one,Nat.add_zero];exact Co g i
  rw[e];simpa using(hq ⟨i,hi'⟩).1
 ·simp only[List.getElem_map,List.getElem_finRange,Fin.cast_mk];have h2:=(hq ⟨i,hi'⟩).2;refine⟨_,rfl,?_⟩;have e:ms.getD i [] =ms[i]:=by simp[List.getD_eq_getElem?_getD,hi]
  simp only[e]at h2⊢;exact h2
theorem intCells {w:World} {fs:List Addr} {v:Value} {xs:List Int}(h:AN w fs v xs):∀a,a∈fs→∃u,w.cell? a=some (int i64 u):=fun a ha => by
 obtain⟨A,c,e,h1,h2,h3⟩:=h;rcases h3 with⟨-,rfl⟩|⟨ad,css,fss,-,e2,e3,rfl,h3⟩
 ·cases ha
 ·rcases List.mem_append.1 ha with ha|ha
  ·obtain⟨q,hq,rfl⟩:=Be.1 ha;obtain⟨q1,q2,q3,q4,hfi,hcs,-⟩:=h3 q (by omega);refine⟨xs[q],?_⟩;have:=q4 0 (by omega);rw[Nat.mul_one,Nat.add_zero]at this;rw[this];simp[hcs]
  ·obtain⟨l,hl,hal⟩:=List.mem_flatten.1 ha;obtain⟨i,hi,rfl⟩:=List.getElem_of_mem hl;obtain⟨q1,q2,q3,q4,hfi,hcs,-⟩:=h3 i (by omega);rw[hfi]at hal;cases hal
theorem KY {w:World} {fs:List Addr} {v:Value} {xs:List UInt8}(h:Ag w fs v xs):∀a,a∈fs→∃u,w.cell? a=some (.int .u8 u):=fun a ha => by
 obtain⟨A,c,e,h1,h2,h3⟩:=h;rcases h3 with⟨-,rfl⟩|⟨ad,css,fss,-,e2,e3,rfl,h3⟩
 ·cases ha
 ·rcases List.mem_append.1 ha with ha|ha
  ·obtain⟨q,hq,rfl⟩:=Be.1 ha;obtain⟨q1,q2,q3,q4,hfi,hcs⟩:=h3 q (by omega);refine⟨(xs[q].toNat:Int),?_⟩;have:=q4 0 (by omega);rw[Nat.mul_one,Nat.add_zero]at this;rw[this];simp[hcs,Bd]
  ·obtain⟨l,hl,hal⟩:=List.mem_flatten.1 ha;obtain⟨i,hi,rfl⟩:=List.getElem_of_mem hl;obtain⟨q1,q2,q3,q4,hfi,hcs⟩:=h3 i (by omega);rw[hfi]at hal;cases hal
theorem OW {w:World} {fs:List Addr} {v:Value} {M:List Ai} {g n:Nat} {ms:List (List UInt8)}(h:rSl 9 Ac w fs v M)(hm:Mat w g n ms):∀i,i<n→(⟨g,i,none⟩:Addr)∉fs:=fun i hi ha => by
 have hsl:∀i,i<n→∃A l c,w.cell? ⟨g,i,none⟩=some (.slice A l c):=fun i hi => by
  obtain⟨A,c,f,h1,-⟩:=hm.row i hi;exact⟨A,_,c,h1⟩
 obtain⟨A,c,e,h1,h2,h3⟩:=h;rcases h3 with⟨-,rfl⟩|⟨ad,css,fss,-,e2,e3,rfl,h3⟩
 ·cases ha
 ·rcases List.mem_append.1 ha with ha|ha
  ·obtain⟨q,hq,e⟩:=Be.1 ha;have hj:q / 9<M.length:=by omega
   obtain⟨q1,q2,q3,q4,hr⟩:=h3 (q / 9) hj;obtain⟨v0,v1,v2,f0,f1,f2,ec,-⟩:=hr;have hcell:∀r,(hr:r<9)→w.cell? (ad.add (q / 9 * 9+r))=some ((css[q / 9])[r]'(by omega)):=fun r hr => q4 r (by omega)
   have c0:=hcell 0 (by omega);rw[Nat.add_zero]at c0;obtain⟨b,o,hP⟩:=I9 c0;have hpl:ad.add q=⟨b,o+q % 9,none⟩:=by
    have:=DH hP (q % 9);rwa [show q / 9 * 9+q % 9=q by omega]at this
   rw[hpl]at e;injection e with e4 e5
   subst e4
   -- a cell of the record that holds a number
   have hnum:∃r,r<9∧o+r≤i∧∀A l c,w.cell? ⟨g,o+r,none⟩≠some (.slice A l c):=by
    have hlt:q % 9<9:=Nat.mod_lt _ (by omega);have cr:∀r,(hr:r<9)→w.cell? ⟨g,o+r,none⟩=some ((css[q / 9])[r]'(by omega)):=fun r hr => by rw[← DH hP r];exact hcell r hr
    by_cases h5:q % 9≤5
    ·refine⟨q % 9,hlt,by omega,fun A l c hh => ?_⟩;have hc:=cr (q % 9) hlt;rw[hc]at hh;obtain⟨z,hz⟩:∃z,q % 9=z:=⟨_,rfl⟩;simp only[ec,hz]at hh;rw[hz]at h5;match z,h5 with
     |0,_ => simp at hh
     |1,_ => simp at hh
     |2,_ => simp at hh
     |3,_ => simp at hh
     |4,_ => simp at hh
     |5,_ => simp at hh
    ·refine⟨5,by omega,by omega,fun A l c hh => ?_⟩;have hc:=cr 5 (by omega);rw[hc]at hh;simp[ec]at hh
   obtain⟨r,hr,hle,hno⟩:=hnum;obtain⟨A',l',c',hh⟩:=hsl (o+r) (by omega);exact hno _ _ _ hh
  ·obtain⟨l,hl,hal⟩:=List.mem_flatten.1 ha;obtain⟨j,hj,rfl⟩:=List.getElem_of_mem hl;obtain⟨q1,q2,q3,q4,hr⟩:=h3 j (by omega);obtain⟨v0,v1,v2,f0,f1,f2,ec,ef,-,-,-,-,-,-,r0,r1,r2⟩:=hr;rw[ef]at hal;obtain⟨A',l',c',hh⟩:=hsl i hi;rcases List.mem_append.1 hal with hal|hal
   ·obtain⟨u,hu⟩:=intCells r0 _ hal;rw[hu]at hh;cases hh
   ·rcases List.mem_append.1 hal with hal|hal
    ·obtain⟨u,hu⟩:=KY r1 _ hal;rw[hu]at hh;cases hh
    ·obtain⟨u,hu⟩:=KY r2 _ hal;rw[hu]at hh;cases hh
structure Ja (d:Am) (g row:Nat) (M:List Ai):Prop where
 ok:d.s.sh.Ok
 hg:g<d.g.length
 g1:d.s.g≤g
 g2:(g:Int)<d.s.g+d.s.c
 hr:∀dr,dr∈AJ d g→row<dr.blocks.length
 h4:∀dr,dr∈AJ d g→(Cd dr row).bytes.length =4
 hn:((AJ d g).length:Int)=d.s.data+d.s.p
 hm:∀m,m∈M→0≤m.group∧m.group<d.s.g∧(m.delta.length:Int)=4 * d.s.data
theorem Ja.enc {d:Am} {g row:Nat} {M:List Ai}(h:Ja d g row M) {k:Nat}(hk:k<(AJ d g).length):∀m,m∈M→((BV d g m).getD k []).length =4∧k<(BV d g m).length:=fun m hm => by
 obtain⟨h1,h2,h3⟩:=h.hm m hm;obtain⟨a1,a2⟩:=h.ok.data;obtain⟨b1,b2⟩:=h.ok.p;have hn:=h.hn;simp only[AW.sh]at a1 a2 b1 b2;have hl:(BV d g m).length =d.s.data.toNat+d.s.p.toNat:=Nf _ _ _ _ _;have hk2:k<(BV d g m).length:=by omega
 refine⟨?_,hk2⟩;rw[List.getD_eq_getElem?_getD,List.getElem?_eq_getElem hk2];exact Pt (by rw[Cr];omega) _ _ (List.getElem_mem hk2)
theorem willBe_k(kr:Nat)(hkr:kr=9)(zR:∀w,(Go.sizeOf 119).run Tryz.prog w= .ok kr w)(aR:∀w,(isAgg 119).run Tryz.prog w= .ok true w)(p:Nat)(fs:List Addr)(d:Am)(g row:Nat)(w:World)(h:AtW w p fs d)(hsm:(CK d).length≤1000000)(hP:Ja d g row (Ch d.s.g (AM d) (g:Int))) :
  Calls Tryz.prog 188 #[.pointer (some ⟨p,0,none⟩),int i64 (g:Int),int i64 (row:Int)] w (Fo (CE d (Ch d.s.g (AM d) (g:Int)) g row) w):=by
 have HKR:=hid hkr;clear hkr;have hg:=hP.hg;have hn:=hP.hn;obtain⟨a1,a2⟩:=hP.ok.data;obtain⟨b1,b2⟩:=hP.ok.p;simp only[AW.sh]at a1 a2 b1 b2;have HH:=hid h;have HP:=hid hP;have HBC:=hid (LX p fs d g row w h hg hP.hr (by omega));have HUC:=hid (fun(W:World) (hW:Below w.heap.size w W) => Mw p fs d (g:Int) W (h.below hW) hP.ok (by omega) hsm);obtain⟨a0,c0,b0,o0,A1,c1,f1,HG⟩:=h.grp hg;have HGH:=hid HG;have lp:=HG.lp;have l0:=HG.l0;obtain⟨M,hM⟩:∃M,Ch d.s.g (AM d) (g:Int)=M:=⟨_,rfl⟩;rw[hM]at HUC HP⊢;have hML:=hid hM;obtain⟨L,hL⟩:∃L,AJ d g=L:=⟨_,rfl⟩;have hWF:CE d M g row=FE (BV d g) row M L:=by unfold CE;rw[hL]
 have hBF:Bq d g row=L.map (CP row):=by unfold Bq;rw[hL]
 rw[hBF]at HBC;rw[hWF];rw[hL]at hn;have hwl:=Cn (BV d g) row M L;have hbl:(L.map (CP row)).length =L.length:=List.length_map _;rw[hbl]at HBC;have hpos:0<L.length:=by omega
 have hsmall:L.length≤5:=by omega
 have HLL:=hid hL;obtain⟨Bk,hBk⟩:∃Bk,L.map (CP row)=Bk:=⟨_,rfl⟩;obtain⟨X,hX⟩:∃X,FE (BV d g) row M L=X:=⟨_,rfl⟩;rw[hBk]at HBC hbl;rw[hX]at hwl⊢;have HBK:=hid hBk;have HX:=hid hX;have HWL:=hid hwl;have HBL:=hid (hbl.trans hwl.symm);clear h hP HG hL hWF hBF hM hwl hbl hBk hX hn;go_enter Tryz.func188,Tryz.ntmps188
 go_wp2_with fail
 refine HBC.out.mono ?_;rintro e w1 ⟨A5,c5,f5,rfl,o5,g5,bb5⟩;obtain⟨gO,cO,e5,hc5,hc6,hmat,hgO⟩:=o5.mat (by rw[HBL.out,HWL.out];exact hpos);injection e5 with e51 e52 e53
 subst e51 e53;rw[HBL.out,HWL.out]at hmat hc5;have HMAT:=hid hmat;have HGO:=hid hgO;have HB1:=hid bb5;have HC5:=hid (show L.length≤c5∧c5≤9223372036854775807 from⟨hc5,hc6⟩);have HU:=hid (HUC.out w1 bb5);clear o5 g5 bb5 hc5 hc6 hmat hgO e52;go_wp2_with (go_at_call 258;refine HU.out.mono ?_;rintro e w2 ⟨A6,c6,f6,rfl,r6,b6⟩;have R6:=hid r6;have B6:=hid b6;clear r6 b6)
 have hsz1:=HB1.out.size;have hgl:=HMAT.out.lt;have hb2:Below w.heap.size w w2:=HB1.out.trans (B6.out.mono hsz1);have hsz2:=B6.out.size;have hm2:=HMAT.out.below B6.out;have HAP:=hid (OW R6.out hm2);have HM2:=hid hm2;have HB2:=hid hb2;have HMEM:=hid (show∀a,a∈AU ⟨gO,0,none⟩ L.length→w.heap.size≤a.block from fun a ha => by rw[CR ha];exact HGO.out);clear HBC HUC HU hb2 hm2;go_loopw [23,9,10,11,13] (fun i _ _ _ _ wr =>∃k:Nat,k≤L.length∧i= int i64 k∧Hid (Mat wr gO L.length (stF X Bk k))∧Hid (AF (AU ⟨gO,0,none⟩ L.length) w2 wr)) (fun i _ _ _ _ _ => L.length - (intOf i).toNat)
 case atStart => exact⟨0,by omega,rfl,(show Mat _ _ _ _ by rw[stF_zero];exact HM2.out),AF.refl _ _⟩
 case round =>
  obtain⟨k,hk,rfl,HMT,HWR⟩:=hrel;have HB3:=hid (HB2.out.trans (HWR.out.below (by have:=HB2.out.size;omega) HMEM.out));have hszr:=HB3.out.size;by_cases hkn:k<L.length
  ·have hkX:k<X.length:=by rw[HWL.out];exact hkn
   obtain⟨A7,c7,f7,x7,r7,g7⟩:=HMT.out.row k hkn;rw[LN HBL.out hkX]at x7 r7;have hbk:Bk[k]'(by rw[HBL.out];exact hkX)=CP row L[k]:=by simp only[← HBK.out,List.getElem_map]
   rw[hbk]at x7 r7;have hxk:X[k] =F4 (BV d g) row M k L[k]:=by
    have:=FM (BV d g) row M L hkn;simp only[HX.out]at this;exact this
   have hmem:L[k]∈AJ d g:=by rw[HLL.out];exact List.getElem_mem hkn
   have h4:=HP.out.h4 _ hmem;have hgl2:=HMT.out.lt;have hrowB:CP row L[k] =if L[k].wiped =true then []else(Cd L[k] row).bytes:=rfl
   have hwillD:F4 (BV d g) row M k L[k] =if L[k].wiped =true then []else(DM (BV d g) row k (Cd L[k] row).bytes (Cd L[k] row).stamp M).1:=rfl
   have HR2:=hid (rSl.keep Ac.local_ R6.out (HWR.out.same (rSl.there Ac.fixed R6.out) (fun a ha hb => by
    obtain⟨i,hi,e⟩:=Be.1 hb;rw[Co]at e;exact HAP.out i hi (e ▸ ha))))
   have hstep:=Mj HBL.out hkX;have HSTEP:=hid hstep;obtain⟨wp,hwp⟩:∃wp,L[k].wiped =wp:=⟨_,rfl⟩;rw[hwp]at hrowB hwillD;cases wp with
   |true =>
    rw[if_pos rfl]at hrowB hwillD;rw[hrowB]at x7 hbk;have HSAME:=hid (stF_same HBL.out hkX (by rw[hxk,hwillD,hbk]));simp only[List.length_nil]at x7;clear r7 hrowB hwillD hbk hxk hwp h4 hstep;go_wp2_with fail
    go_roundw
    case rel => exact⟨k+1,by omega,by go_num,(show Mat _ _ _ _ by rw[HSAME.out];exact HMT.out),HWR.out⟩
    case measure => simp[intOf];omega
   |false =>
    rw[if_neg (by simp)]at hrowB hwillD;rw[hrowB,h4]at x7 r7;have HXK:=hid (hxk.trans hwillD);have hgr:=HGH.out.below HB3.out;have hrd:=hgr.rd;have hkD:k<(AJ d g).length:=by rw[HLL.out];exact hkn
    have hLk:(AJ d g)[k] =L[k]:=by simp only[HLL.out]
    obtain⟨a1',b1',o1',a2',c2',b2',o2',A3',c3',f3',e1',HD⟩:=J1 (row:=row) hrd hkD (HP.out.hr _ (List.getElem_mem hkD));subst e1';have hrl:=HP.out.hr _ (List.getElem_mem hkD);rw[hLk]at HD hrl;have n9:=hgr.n9;have pl:=hgr.pl;have k0:=hgr.k0;rw[HLL.out]at k0;have l0':=hgr.l0;have lp':=hgr.lp;have p1:=HD.p1;have l1:=HD.l1;have y1:=HD.y1;have p2:=HD.p2;have l2:=HD.l2;have z0:=HD.z0;obtain⟨B,hB⟩:∃B,(Cd L[k] row).bytes =B:=⟨_,rfl⟩;obtain⟨sp,hsp⟩:∃sp,(Cd L[k] row).stamp =sp:=⟨_,rfl⟩;obtain⟨mb,hmb⟩:∃mb,L[k].blocks.length =mb:=⟨_,rfl⟩;rw[hB]at r7 h4 HXK;rw[hsp]at z0 HXK;rw[hmb]at y1 hrl;have hrl1:(row:Int)<(mb:Int):=by omega
    have hg1:(g:Int)<(d.g.length:Int):=by omega
    have hk1:(k:Int)<(L.length:Int):=by omega
    have HR7:=hid r7;have HG7:=hid g7;have H4:=hid h4;have hENC:=HP.out.enc hkD;have HENC:=hid hENC;clear hbk hxk hwillD hrowB hwp hgr hrd hLk HD hB hsp hmb r7 g7 h4 hENC hstep;go_wp2_with fail
    obtain⟨u,hu⟩:∃u,u=wr:=⟨_,rfl⟩;subst hu;go_loopw [48,10,11,13] (fun i b s _ wr =>∃(j:Nat) (A:Option Addr) (c:Nat) (f:List Addr) (st:List UInt8 × Int),j≤M.length∧i= int i64 j∧b= .slice A 4 c∧s= int i64 st.2∧Hid (st=DM (BV d g) row k B sp (M.take j))∧Hid (Ag wr f (.slice A 4 c) st.1)∧Hid (∀a,a∈f→a.block≠gO)∧Hid (Below u.heap.size u wr)) (fun i _ _ _ _ => M.length - (intOf i).toNat)
    case atStart => exact⟨0,A7,c7,f7,(B,sp),by omega,rfl,rfl,rfl,rfl,HR7.out,HG7.out,Below.refl _ _⟩
    case round =>
     obtain⟨j,A,c,f,st,hj,rfl,rfl,rfl,HST,HRB,HNG,HBU⟩:=hrel;have hsz4:=HBU.out.size;have gzr:gO<wr.heap.size:=by omega
     have HBW:=hid (HB3.out.trans (HBU.out.mono hszr));by_cases hjM:j<M.length
     ·obtain⟨A',c',e,hc',hm',hx⟩:=rSl.at_ Ac.fixed (by decide) HR2.out;injection e with e1 _ e3
      subst e1 e3;obtain⟨ad,b,o,cs,fk,rfl,hat⟩:=hx j hjM;have hat2:=hat.below Ac.local_ HBU.out;have hpl:ad.add (j * kr)=⟨b,o,none⟩:=by rw[HKR.out];exact hat.place
      have hbl:=hat2.lt;have hlen:cs.length=9:=hat2.len;have HRG:=hid (show wr.rangeAt b o cs from fun q v hq => by
       have hq1:q<cs.length:=(List.getElem?_eq_some_iff.1 hq).1;rw[hat2.cell q hq1,← hq];exact(List.getElem?_eq_getElem hq1).symm)
      have HI:=hid (show(Tryz.prog.info? 119).map (·.size)=some cs.length by rw[hlen];kernel_rfl);have HI2:=hid (show(Tryz.prog.info? 119).map (·.size)=some cs.toArray.size by rw[List.size_toArray,hlen];kernel_rfl);have HON:=hid (all_oneCell_toArray (Ac.ones _ _ _ _ hat2.reads));have HRD:=hid hat2.reads;obtain⟨Z,hZ⟩:∃Z:Array Value,#[int i64 0,int i64 0,.string ⟨#[]⟩,int i64 0,int i64 0,int i64 0,.slice none 0 0,.slice none 0 0,.slice none 0 0] =Z:=⟨_,rfl⟩;have hZs:Z.size=9:=by rw[← hZ];rfl
      have KZ:=Blk.new wr 119 Z;have HTH:=hid (Blk.there KZ cs.toArray.size (by rw[List.size_toArray,hlen,hZs];exact Nat.le_refl _));obtain⟨W2,hW2⟩:∃W2,(wr.alloc (.cells Z 119)).setCells wr.heap.size 0 cs.toArray.toList=W2:=⟨_,rfl⟩;have K2:Blk W2 wr.heap.size 119 cs.toArray:=by rw[← hW2];exact Blk.laid KZ _ (by rw[hZs];exact hlen.symm)
      have b2:Below wr.heap.size wr W2:=by rw[← hW2];exact AZ (Af (Below.refl _ _) _) _ 0 (Nat.le_refl _)
      have HK2:=hid K2;have B2:=hid b2;have HW2:=hid hW2;have hsz5:=b2.size;obtain⟨v0,v1,v2,g0,g1,g2,ecs,-⟩:=hat2.reads;have y1:W2.cell? ⟨wr.heap.size,1,none⟩=some (int i64 M[j].seq):=by rw[K2.cell,ecs];rfl
      have y5:W2.cell? ⟨wr.heap.size,5,none⟩=some (int i64 M[j].row):=by rw[K2.cell,ecs];rfl
      have gb:wr.heap.size<W2.heap.size:=K2.lt;have hmm:=HP.out.hm _ (List.getElem_mem hjM);have hee:=HENC.out _ (List.getElem_mem hjM);have hst1:=JP (BV d g) row k B sp hjM;rw[← HST.out]at hst1;have hstl:st.1.length=4:=by rw[HST.out];exact Dm (fun m hm =>(HENC.out m (List.mem_of_mem_take hm)).1) H4.out
      have HADD:=hid (show∀W,Below W2.heap.size W2 W→Calls Tryz.prog 260 #[.pointer (some ⟨p,0,none⟩),int i64 (g:Int),.agg cs.toArray] W (Fo (BV d g M[j]) W)from fun W hW =>
       added_c p fs d g M[j] cs fk W (((HH.out.below HBW.out).below b2).below hW) HP.out.ok (AC.below Ac.local_ Ac.fixed (AC.below Ac.local_ Ac.fixed hat2.reads b2) hW) HP.out.g1 HP.out.g2 hmm.1 hmm.2.1 hmm.2.2)
      have HKS:=hid (show∀W,Below W2.heap.size W2 W→(Sem.run Tryz.prog (loadCellsFrom ⟨wr.heap.size,0,none⟩ 0 kr #[]) W= .ok cs.toArray W∧W.cell? ⟨wr.heap.size,1,none⟩=some (int i64 M[j].seq))from fun W hW =>⟨Ft (K2.below hW K2.lt) (by rw[HKR.out];exact hlen),(hW.cell (p:=⟨wr.heap.size,1,none⟩) gb).trans y1⟩);obtain⟨mq,hmq⟩:∃mq,M[j].seq =mq:=⟨_,rfl⟩;obtain⟨mr,hmr⟩:∃mr,M[j].row =mr:=⟨_,rfl⟩;obtain⟨E,hE⟩:∃E,BV d g M[j] =E:=⟨_,rfl⟩;rw[hmq]at y1 HKS;rw[hmr]at y5;rw[hE]at HADD hee;unfold F7 at hst1;rw[hmq,hmr,hE]at hst1;obtain⟨s1,s2⟩:=st;simp only at hst1 hstl HRB;have HST1:=hid hst1;have HSTL:=hid hstl;have HE4:=hid hee.1;have hkl:=hee.2;have hD:E.getD k [] =E[k]:=by simp[List.getD_eq_getElem?_getD,hkl]
      obtain⟨D,hDD⟩:∃D,E.getD k [] =D:=⟨_,rfl⟩;rw[hDD]at HE4 HST1 hD;have HD:=hid hD;clear hat hat2 hx hW2 KZ hZs K2 b2 ecs hmm hee hst1 hstl hmq hmr hE hD hDD hlen;by_cases qr:mr=(row:Int)
      ·have hk1':(mr ==(row:Int))=true:=by simpa using qr
       by_cases qs:s2<mq
       ·have hd1:decide (s2<mq)=true:=decide_eq_true qs;have HNEW:=hid (show DM (BV d g) row k B sp (M.take (j+1))=(DZ s1 D,mq) by rw[HST1.out,if_pos ⟨qr,qs⟩]);have HSUM:=hid (fun(W w4:World) (A9:Option Addr) (c9:Nat) (f9:List Addr) (h9:Ag w4 f9 (.slice A9 4 c9) D) (h4W:Below w4.heap.size w4 W) (hW:Below W2.heap.size W2 W) => sum_c (.slice A 4 c) (.slice A9 4 c9) s1 D 1 f f9 W (Ag.below (Ag.below HRB.out B2.out) hW) (h9.below h4W) (by rw[HSTL.out,HE4.out]) (by rw[HE4.out];omega));rw[addS_one,show(((1:UInt8).toNat:Nat):Int)=1 from rfl]at HSUM;have HAL:=hid (show(DZ s1 D).length =4 by rw[FG _ _ (by rw[HSTL.out,HE4.out]),HSTL.out]);have hks0:¬kr=0:=by rw[HKR.out];omega
        have hks1:0<kr:=by rw[HKR.out];omega
        have hki:(k:Int)<(E.length:Int):=by omega
        clear qr qs;go_wp2_with (first
         |(refine wpList_load_mid rfl 119 _ rfl b o rfl cs _ HRG.out Tryz.underlying119 rfl HI.out ?_)
         |(refine wpList_store_mid rfl 119 (.tmp 13) (.tmp 51) rfl wr.heap.size 0 cs.toArray rfl rfl HTH.out HI2.out HON.out ?_;rw[HW2.out]))
        have ld0:=(HKS.out W2 (Below.refl _ _)).1;have ld1:=(HKS.out W2.drew (Ar (Below.refl _ _))).1;go_region_law (first
          |(go_simp;go_at_call 260;refine(HADD.out _ (by repeat(with_reducible first|assumption|exact Below.refl _ _|apply Af|apply Ar))).mono ?_;rintro e w4 ⟨A8,c8,f8,rfl,r8,b8⟩;obtain⟨A8',c8',e8,-,-,hx8⟩:=Ap.open_ r8;injection e8 with e81 _ e83;subst e81 e83;obtain⟨ad8,A9,c9,f9,e9,bl9,p9,r9,-⟩:=hx8 k hkl;subst e9;rw[← HD.out,HE4.out]at p9;rw[← HD.out,HE4.out]at r9;have B8:=Below.via (a:=W2) (by repeat(with_reducible first|assumption|exact Below.refl _ _|apply Af|apply Ar)) b8;have R9:=hid r9;have y14:=(HKS.out w4 B8).2;have gb4:wr.heap.size<w4.heap.size:=Nat.lt_of_lt_of_le gb B8.size;clear hx8 r8 r9 b8;dsimp only)
          |(go_simp;go_at_call 259;refine(HSUM.out _ w4 _ _ _ R9.out (by repeat(with_reducible first|exact Below.refl _ _|apply Af|apply Ar)) (by repeat(with_reducible first|assumption|exact Below.refl _ _|apply Af|apply Ar))).mono ?_;rintro e w5 ⟨A10,c10,f10,rfl,r10,m10,b10⟩;rw[HAL.out]at r10⊢;have B10:=Below.via (a:=W2) (by repeat(with_reducible first|assumption|exact Below.refl _ _|apply Af|apply Ar)) b10;have y15:=(HKS.out w5 B10).2;have gb5:wr.heap.size<w5.heap.size:=Nat.lt_of_lt_of_le gb B10.size;dsimp only))
        all_goals
         have hm10:∀a,a∈f10→a.block≠gO:=fun a ha e => by
          have h1:=m10.from_ a ha;have h2:=B8.size;have h3:w4.heap.size≤a.block:=h1;omega
         have HM10:=hid hm10;have R10:=hid r10;have BB10:=hid (show Below W2.heap.size W2 w5 from B10);clear hm10 m10 r10 b10;go_wp2_with fail
         go_roundw
         case rel => exact⟨j+1,A10,c10,f10,(DZ s1 D,mq),by omega,by go_num,rfl,rfl,HNEW.out.symm,R10.out,HM10.out,HBU.out.trans ((B2.out.trans (BB10.out.mono hsz5)).mono hsz4)⟩
         case measure => simp[intOf];omega
       ·have hd1:decide (s2<mq)=false:=decide_eq_false qs;have HNEW:=hid (show DM (BV d g) row k B sp (M.take (j+1))=(s1,s2) by rw[HST1.out,if_neg (fun h => qs h.2)]);clear qr qs;go_wp2_with (first
         |(refine wpList_load_mid rfl 119 _ rfl b o rfl cs _ HRG.out Tryz.underlying119 rfl HI.out ?_)
         |(refine wpList_store_mid rfl 119 (.tmp 13) (.tmp 51) rfl wr.heap.size 0 cs.toArray rfl rfl HTH.out HI2.out HON.out ?_;rw[HW2.out]))
        go_roundw
        case rel => exact⟨j+1,A,c,f,(s1,s2),by omega,by go_num,rfl,rfl,HNEW.out.symm,Ag.below HRB.out B2.out,HNG.out,HBU.out.trans (B2.out.mono hsz4)⟩
        case measure => simp[intOf];omega
      ·have hk1':(mr ==(row:Int))=false:=by simpa using qr
       have HNEW:=hid (show DM (BV d g) row k B sp (M.take (j+1))=(s1,s2) by rw[HST1.out,if_neg (fun h => qr h.1)]);clear qr;go_wp2_with (first
        |(refine wpList_load_mid rfl 119 _ rfl b o rfl cs _ HRG.out Tryz.underlying119 rfl HI.out ?_)
        |(refine wpList_store_mid rfl 119 (.tmp 13) (.tmp 51) rfl wr.heap.size 0 cs.toArray rfl rfl HTH.out HI2.out HON.out ?_;rw[HW2.out]))
       go_roundw
       case rel => exact⟨j+1,A,c,f,(s1,s2),by omega,by go_num,rfl,rfl,HNEW.out.symm,Ag.below HRB.out B2.out,HNG.out,HBU.out.trans (B2.out.mono hsz4)⟩
       case measure => simp[intOf];omega
     ·obtain rfl:j=M.length:=by omega
      have hst:=HST.out;rw[List.take_length]at hst;have hm4:=HMT.out.below HBU.out;have x8:=(HBU.out.cell (p:=⟨gO,k,none⟩) hgl2).trans x7;have fr8:=hm4.free k hkn;have hl4:st.1.length=4:=by rw[hst];exact Dm (fun m hm =>(HENC.out m hm).1) H4.out
      have HM4:=hid hm4;have HL4:=hid hl4;have hX:X[k] =st.1:=by rw[HXK.out,← hst]
      have HXE:=hid hX;clear hst hm4 hl4 hX;go_wp2_with fail
      go_roundw
      case rel =>
       have hr4:Ag wr f (.slice A st.1.length c) st.1:=by rw[HL4.out];exact HRB.out
       have hset:=HM4.out.set_ hkn hr4 HNG.out;rw[HL4.out,← HXE.out,← HSTEP.out]at hset;exact⟨k+1,by omega,by go_num,hset,(HWR.out.trans (AF.of_below HBU.out)).setCell (IW hkn) _⟩
      case measure => simp[intOf];omega
  ·obtain rfl:k=L.length:=by omega
   have hm:=HMT.out;have hst:stF X Bk L.length=X:=by
    have:=stF_all HBL.out;rwa [HWL.out]at this
   rw[hst]at hm;obtain⟨fl,hl⟩:=hm.lists HC5.out.1 HC5.out.2;have HLS:=hid hl;clear hm hst hl;go_wp2_with fail
   go_ret
   exact⟨some ⟨gO,0,none⟩,c5,fl,by rw[HWL.out];rfl,by rw[HWL.out];exact HLS.out,HB3.out⟩
theorem willBe_c(p:Nat)(fs:List Addr)(d:Am)(g row:Nat)(w:World)(h:AtW w p fs d)(hsm:(CK d).length≤1000000)(hP:Ja d g row (Ch d.s.g (AM d) (g:Int))) :
  Calls Tryz.prog 188 #[.pointer (some ⟨p,0,none⟩),int i64 (g:Int),int i64 (row:Int)] w (Fo (CE d (Ch d.s.g (AM d) (g:Int)) g row) w) :=
 willBe_k 9 rfl Tryz.sizeOf119 Tryz.isAgg119 p fs d g row w h hsm hP
def C6(d:Am)(g row:Nat):Option (List UInt8) :=
 match D8 d.s.g (AM d) (g:Int) (row:Int)with
 |some m => some m.data
 |none => Da d.s.data.toNat (if(g:Int)<d.s.g then Bq d g row else CE d (Ch d.s.g (AM d) (g:Int)) g row)
theorem Ik {d:Am} {g row:Nat} {m:Ai}(h:D8 d.s.g (AM d) (g:Int) (row:Int)=some m):C6 d g row=some m.data:=by unfold C6;rw[h]
theorem F0 {d:Am} {g row:Nat}(h:D8 d.s.g (AM d) (g:Int) (row:Int)=none)(hg:(g:Int)<d.s.g):C6 d g row=Da d.s.data.toNat (Bq d g row):=by unfold C6;rw[h,if_pos hg]
theorem GI {d:Am} {g row:Nat}(h:D8 d.s.g (AM d) (g:Int) (row:Int)=none)(hg:¬(g:Int)<d.s.g):C6 d g row=Da d.s.data.toNat (CE d (Ch d.s.g (AM d) (g:Int)) g row):=by unfold C6;rw[h,if_neg hg]
structure BO (d:Am):Prop where
 ok:d.s.sh.Ok
 gl:(d.g.length:Int)=d.s.g+d.s.c
 dl:∀g,g<d.g.length→((AJ d g).length:Int)=d.s.data+d.s.p
 bl:∀g,g<d.g.length→∀dr,dr∈AJ d g→(dr.blocks.length:Int)=d.s.rows
 b4:∀g,g<d.g.length→∀dr,dr∈AJ d g→∀b,b∈dr.blocks→b.bytes.length=4
 tp:d.v.length=2
 sm:(CK d).length≤1000000
 mv:∀m,m∈CK d→m.kind=2→0≤m.group∧m.group<d.s.g∧(m.data.length:Int)=4 * d.s.data∧(m.delta.length:Int)=4 * d.s.data
theorem insF_mem {out:List Ai} {r x:Ai}:x∈KG out r↔x∈out∨x=r:=by
 have h:=List.takeWhile_append_dropWhile (p:=Bf r) (l:=out.reverse);unfold KG;simp only[List.mem_append,List.mem_reverse,List.mem_cons];constructor
 ·rintro(h1|h1|h1)
  ·exact .inl (List.mem_reverse.1 (h ▸ List.mem_append_right _ h1))
  ·exact .inr h1
  ·exact .inl (List.mem_reverse.1 (h ▸ List.mem_append_left _ h1))
 ·rintro(h1|h1)
  ·have:=List.mem_reverse.2 h1;rw[← h]at this;rcases List.mem_append.1 this with h2|h2
   ·exact .inr (.inr h2)
   ·exact .inl h2
  ·exact .inr (.inl h1)
theorem EC:∀(n:Nat) (l:List Ai),l.length=n→∀x,x∈BF l→x∈l
 |0,l,hl,x,h => by
  obtain rfl:=List.eq_nil_of_length_eq_zero hl;exact h
 |n+1,l,hl,x,h => by
  obtain⟨l',r,rfl⟩:∃l' r,l=l' ++ [r]:=⟨l.dropLast,l.getLast (by intro e;rw[e]at hl;simp at hl),(List.dropLast_concat_getLast _).symm⟩;rw[List.length_append]at hl;rw[G2]at h;unfold I3 at h;split at h
  ·exact List.mem_append_left _ (EC n l' (by simpa using hl) x h)
  ·rcases insF_mem.1 h with h|h
   ·exact List.mem_append_left _ (EC n l' (by simpa using hl) x h)
   ·rw[h];simp
theorem Mk {groups:Int} {all:List Ai} {g:Int} {m:Ai}(h:m∈Ch groups all g):m∈all∧m.kind=2:=by
 unfold Ch at h;obtain⟨h1,h2⟩:=List.mem_filter.1 h;unfold Ck at h2;simp only[Bool.and_eq_true,decide_eq_true_eq]at h2;exact⟨h1,h2.1⟩
theorem Ms {groups:Int} {all:List Ai} {g row:Int} {m:Ai}(h:D8 groups all g row=some m):m∈all∧m.kind=2:=by
 unfold D8 at h;split at h
 ·unfold EP at h;have:=List.mem_of_find?_eq_some h;exact Mk (List.mem_reverse.1 this)
 ·cases h
theorem BO.row {d:Am}(h:BO d) {g row:Nat}(hg:g<d.g.length)(hr:(row:Int)<d.s.rows):(∀dr,dr∈AJ d g→row<dr.blocks.length)∧(∀dr,dr∈AJ d g→(Cd dr row).bytes.length =4):=by
 have h1:∀dr,dr∈AJ d g→row<dr.blocks.length:=fun dr hd => by have:=h.bl g hg dr hd;omega
 exact⟨h1,fun dr hd => by rw[LA (h1 dr hd)];exact h.b4 g hg dr hd _ (List.getElem_mem _)⟩
theorem BO.par {d:Am}(h:BO d) {g row:Nat}(hg:g<d.g.length)(hg1:d.s.g≤g)(hr:(row:Int)<d.s.rows):Ja d g row (Ch d.s.g (AM d) (g:Int)) :=
 ⟨h.ok,hg,hg1,by have:=h.gl;omega,(h.row hg hr).1,(h.row hg hr).2,h.dl g hg,fun m hm => by
  obtain⟨h1,h2⟩:=Mk hm;obtain⟨q1,q2,q3,q4⟩:=h.mv m (EC _ _ rfl m h1) h2;exact⟨q1,q2,q4⟩⟩
theorem BO.blocks4 {d:Am}(h:BO d) {g row:Nat}(hg:g<d.g.length)(hr:(row:Int)<d.s.rows):C5 (Bq d g row) 4:=fun l hl => by
 obtain⟨dr,hd,rfl⟩:=List.mem_map.1 hl;unfold CP;split
 ·exact .inl rfl
 ·exact .inr ((h.row hg hr).2 dr hd)
theorem BO.will4 {d:Am}(h:BO d) {g row:Nat}(hg:g<d.g.length)(hg1:d.s.g≤g)(hr:(row:Int)<d.s.rows):C5 (CE d (Ch d.s.g (AM d) (g:Int)) g row) 4:=fun l hl => by
 obtain⟨k,hk,rfl⟩:=List.getElem_of_mem hl;unfold CE at hk⊢;rw[Cn]at hk;rw[FM _ _ _ _ hk];unfold F4;split
 ·exact .inl rfl
 ·exact .inr (Dm (fun m hm =>((h.par hg hg1 hr).enc hk m hm).1) ((h.row hg hr).2 _ (List.getElem_mem hk)))
end Go.Proofs.YtfjkoifpdoemdaaGreat
