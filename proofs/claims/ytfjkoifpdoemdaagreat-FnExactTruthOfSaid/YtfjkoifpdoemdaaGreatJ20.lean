/- Part 20 of the proof. -/
import Derived.Test.YtfjkoifpdoemdaaGreatJ19
import Derived.Test.YtfjkoifpdoemdaaGreatJ12
import Derived.Test.YtfjkoifpdoemdaaGreatJ18
set_option maxHeartbeats 8000000
set_option maxRecDepth 100000
set_option linter.unusedVariables false
set_option linter.unusedSimpArgs false
open Go.Proofs.Tryz
open Go.Value (int)
open Go.IntKind (i64)
namespace Go.Proofs.YtfjkoifpdoemdaaGreat
open Go.RowKit Go.Lib Go.Sort
def Cg(dr:AL)(row:Nat):Bt:=dr.blocks.getD row ⟨0,[]⟩
def CV(row:Nat)(dr:AL):List UInt8:=if dr.wiped=true then []else(Cg dr row).bytes
def AJ(d:Am)(g:Nat):List AL:=d.g.getD g []
def Bq(d:Am)(g row:Nat):List (List UInt8):=(AJ d g).map (CV row)
theorem LG {dr:AL} {row:Nat}(h:row<dr.blocks.length):Cg dr row=dr.blocks[row]:=by simp[Cg,aJ,h]
theorem NQ {d:Am} {g:Nat}(h:g<d.g.length):AJ d g=d.g[g]:=by simp[AJ,aJ,h]
structure Mp (w:World) (p:Nat) (d:Am) (g:Nat) (a0:Addr) (c0 b0 o0:Nat) (A1:Option Addr) (c1:Nat) (f1:List Addr):Prop where
 n9:w.cell? ⟨p,9,none⟩=some (.slice (some a0) d.g.length c0)
 lp:p<w.heap.size
 pl:a0.add g=⟨b0,o0,none⟩
 l0:b0<w.heap.size
 k0:w.cell? ⟨b0,o0,none⟩=some (.slice A1 (AJ d g).length c1)
 rd:rSl 2 Ak w f1 (.slice A1 (AJ d g).length c1) (AJ d g)
theorem AtW.grp {w:World} {p:Nat} {fs:List Addr} {d:Am}(h:AtW w p fs d) {g:Nat}(hg:g<d.g.length):∃a0 c0 b0 o0 A1 c1 f1,Mp w p d g a0 c0 b0 o0 A1 c1 f1:=by
 obtain⟨A0,A1,A2,c0,c1,c2,f0,f1,f2,HC⟩:=h.cells;obtain⟨A',c',e,hc,hm,hx⟩:=rSl.at_ (Al.fixed Ak.fixed) (by decide) HC.rgr;injection e with e1 _ e3
 subst e1 e3;obtain⟨ad,b,o,cs,fk,rfl,hat⟩:=hx g hg;obtain⟨ve,rfl,hrd⟩:=hat.reads;obtain⟨Ae,ce,rfl,-⟩:=rSl.head hrd;have hpl:=hat.place;rw[Nat.mul_one]at hpl;have hk:=hat.cell 0 (by simp);simp only[bE,aU]at hk;rw[← NQ hg]at hk hrd;exact⟨ad,_,b,o,Ae,ce,fk,HC.gr,HC.lt,hpl,hat.lt,hk,hrd⟩
theorem Mp.below {w w':World} {p:Nat} {d:Am} {g:Nat} {a0:Addr} {c0 b0 o0:Nat} {A1:Option Addr} {c1:Nat} {f1:List Addr}(h:Mp w p d g a0 c0 b0 o0 A1 c1 f1)(hb:Below w.heap.size w w'):Mp w' p d g a0 c0 b0 o0 A1 c1 f1 :=
 ⟨(hb.cell (p:=⟨p,9,none⟩) h.lp).trans h.n9,aE h.lp hb.size,h.pl,aE h.l0 hb.size,(hb.cell (p:=⟨b0,o0,none⟩) h.l0).trans h.k0,rSl.below Ak.local_ Ak.fixed h.rd hb⟩
structure Mo (w:World) (a1:Addr) (k row:Nat) (dr:AL) (b1 o1:Nat) (a2:Addr) (c2 b2 o2:Nat) (A3:Option Addr) (c3:Nat) (f3:List Addr):Prop where
 p1:a1.add (k * 2)=⟨b1,o1,none⟩
 l1:b1<w.heap.size
 y0:w.cell? ⟨b1,o1,none⟩=some (.bool dr.wiped)
 y1:w.cell? ⟨b1,o1+1,none⟩=some (.slice (some a2) dr.blocks.length c2)
 p2:a2.add (row * 2)=⟨b2,o2,none⟩
 l2:b2<w.heap.size
 z0:w.cell? ⟨b2,o2,none⟩=some (int i64 (Cg dr row).stamp)
 z1:w.cell? ⟨b2,o2+1,none⟩=some (.slice A3 (Cg dr row).bytes.length c3)
 rd:Ag w f3 (.slice A3 (Cg dr row).bytes.length c3) (Cg dr row).bytes
theorem Mo.below {w w':World} {a1:Addr} {k row:Nat} {dr:AL} {b1 o1:Nat} {a2:Addr} {c2 b2 o2:Nat} {A3:Option Addr} {c3:Nat} {f3:List Addr}(h:Mo w a1 k row dr b1 o1 a2 c2 b2 o2 A3 c3 f3)(hb:Below w.heap.size w w'):Mo w' a1 k row dr b1 o1 a2 c2 b2 o2 A3 c3 f3 :=
 ⟨h.p1,aE h.l1 hb.size,(hb.cell (p:=⟨b1,o1,none⟩) h.l1).trans h.y0,(hb.cell (p:=⟨b1,o1+1,none⟩) h.l1).trans h.y1,h.p2,aE h.l2 hb.size,(hb.cell (p:=⟨b2,o2,none⟩) h.l2).trans h.z0,(hb.cell (p:=⟨b2,o2+1,none⟩) h.l2).trans h.z1,h.rd.below hb⟩
theorem Kk {w:World} {f1:List Addr} {A1:Option Addr} {n c1:Nat} {ds:List AL}(h:rSl 2 Ak w f1 (.slice A1 n c1) ds) {k row:Nat}(hk:k<ds.length)(hr:row<ds[k].blocks.length):∃a1 b1 o1 a2 c2 b2 o2 A3 c3 f3,A1=some a1∧Mo w a1 k row ds[k] b1 o1 a2 c2 b2 o2 A3 c3 f3:=by
 obtain⟨A',c',e,hc,hm,hx⟩:=rSl.at_ Ak.fixed (by decide) h;injection e with e1 _ e3
 subst e1 e3;obtain⟨ad,b,o,cs,fk,rfl,hat⟩:=hx k hk;obtain⟨v0,g0,e,-,hb⟩:=hat.reads;subst e;have y0:=hat.cell 0 (by simp);have y1:=hat.cell 1 (by simp);simp only[bE,aU,bM]at y0 y1;obtain⟨A2,c2,rfl,hc2,hm2,hx2⟩:=rSl.at_ AE.fixed (by decide) hb;obtain⟨ad2,b2,o2,cs2,fk2,rfl,hat2⟩:=hx2 row hr;obtain⟨v1,g1,e2,-,-,hb2⟩:=hat2.reads;subst e2;have z0:=hat2.cell 0 (by simp);have z1:=hat2.cell 1 (by simp);simp only[bE,aU,bM]at z0 z1;obtain⟨A3,c3,rfl,-⟩:=rSl.head hb2;rw[← LG hr]at z0 z1 hb2;exact⟨ad,b,o,ad2,c2,b2,o2,A3,c3,g1,rfl,hat.place,hat.lt,y0,y1,hat2.place,hat2.lt,z0,z1,hb2⟩
theorem MD(p:Nat)(fs:List Addr)(d:Am)(g row:Nat)(w:World)(h:AtW w p fs d)(hg:g<d.g.length)(hr:∀dr,dr∈AJ d g→row<dr.blocks.length)(hn:(AJ d g).length≤1000) :
  Calls prog 186 #[.pointer (some ⟨p,0,none⟩),int i64 (g:Int),int i64 (row:Int)] w fun e w' =>∃A c fo,e= .returned (.slice A (Bq d g row).length c)∧Aj 1 39 (Al 1 Ai) w' w.heap.size (.slice A (Bq d g row).length c) (Bq d g row) fo∧(∀a,a∈fo→a.block<w.heap.size)∧Below w.heap.size w w':=by
 obtain⟨a0,c0,b0,o0,A1,c1,f1,HG⟩:=h.grp hg;have HGH:=U HG;have HRW:=U hr;obtain⟨L,hL⟩:∃L,AJ d g=L:=⟨_,rfl⟩;have hbl:Bq d g row=L.map (CV row):=by unfold Bq;rw[hL]
 have n9:=HG.n9;have pl:=HG.pl;have k0:=HG.k0;have lp:=HG.lp;have l0:=HG.l0;have HRD:=HG.rd;rw[hL]at HRW hn k0 HRD;rw[hbl];have HRDH:=U HRD;have hlt0:(g:Int)<(d.g.length:Int):=by omega
 clear h hr hbl HRD HG hL HGH;go_enter func186,ntmps186
 have HE:=U (Aj.emptyL (w:=w));have HE2:=U (Af (aB w.heap.size w) (.cells #[] 39));go_wp2_with fail
 go_loopw [19,7,9] (fun i o _ wr =>∃(k:Nat) (A:Option Addr) (c3:Nat) (fo:List Addr),k≤L.length∧i= int i64 k∧o= .slice A k c3∧Hid (Aj 1 39 (Al 1 Ai) wr w.heap.size o ((L.map (CV row)).take k) fo)∧Hid (∀a,a∈fo→a.block<w.heap.size)∧Hid (Below w.heap.size w wr)) (fun i _ _ _ => L.length - (intOf i).toNat)
 case atStart => exact⟨0,_,0,[],by omega,rfl,rfl,HE.o,(show∀a,_ from fun a ha => by cases ha),HE2.o⟩
 case round =>
  obtain⟨k,A,c3,fo,hk,rfl,rfl,HO,HF,HB⟩:=hrel;clear HE HE2;have HBS:=U HB.o.size;by_cases hkn:k<L.length
  ·obtain⟨a1,b1,o1,a2,c2,b2,o2,A3,c4,f3,rfl,HD0⟩:=Kk (row:=row) HRDH.o hkn (HRW.o _ (aN hkn));have HD:=HD0.below HB.o;have p1:=HD.p1;have l1:=HD.l1;have y0:=HD.y0;have y1:=HD.y1;have p2:=HD.p2;have l2:=HD.l2;have z1:=HD.z1;have HR3:=U HD.rd;have hrl:row<L[k].blocks.length:=HRW.o _ (aN hkn);have hst:(L.map (CV row)).take k ++ [CV row L[k]] =(L.map (CV row)).take (k+1):=by
    rw[aM (by rw[bR];exact hkn)];simp
   have hlen:((L.map (CV row)).take k).length =k:=by rw[aQ,bR];omega
   have HF3:=U (show∀a,a∈f3→a.block<w.heap.size from fun a ha => rSl.there Ai.fixed HD0.rd a ha);have HLEN:=U hlen;have hrow:CV row L[k] =if L[k].wiped =true then []else(Cg L[k] row).bytes:=rfl
   obtain⟨wp,hwp⟩:∃wp,L[k].wiped =wp:=⟨_,rfl⟩;obtain⟨B,hB⟩:∃B,(Cg L[k] row).bytes =B:=⟨_,rfl⟩;obtain⟨m,hm⟩:∃m,L[k].blocks.length =m:=⟨_,rfl⟩;rw[hwp]at y0 hrow;rw[hB]at z1 HR3 hrow;rw[hm]at y1 hrl;rw[hrow]at hst;have HST:=U hst;have hrl1:(row:Int)<(m:Int):=by omega
   have gz:=HBS.o;clear HD HD0 hst hlen hrow hwp hB hm;cases wp with
   |true =>
    go_wp2_with (at_builtin;refine Ar rfl (.tmp 25) (.tmp 26) 83 rfl _ _ (by rfl) (by rfl) (Tryz.addAny (wr:=wr) (ve:=.slice none 0 0) (f:=[]) (L:=[]) HO.o HBS.o (by rw[HLEN.o];omega) (by repeat(with_reducible first|exact aB _ _|apply Af)) (by exact Blk.new1 _ _ _ _) (Ag.empty (by omega)) (fun a ha => by cases ha)) ?_;rintro v6 w6 ⟨A6,c6,h6,rfl,o6,B6,e6,s6⟩;have HO6:=U o6;have HB6:=U B6;have HS6:=U s6;clear o6 B6 s6)
    have hs9:=HST.o;rw[aL rfl]at hs9;have h9:=HO6.o;rw[HLEN.o,hs9]at h9;clear hs9;go_roundw
    case rel => exact⟨k+1,A6,c6,_,by omega,by go_num,rfl,h9,(show∀a,_ from fun a ha => by
     rcases List.mem_append.1 ha with ha|ha
     ·exact HF.o a ha
     ·cases HS6.o.subset ha),HB.o.trans HB6.o⟩
    case measure => simp[intOf];omega
   |false =>
    go_wp2_with (at_builtin;refine Ar rfl (.tmp 28) (.tmp 35) 83 rfl _ _ (by rfl) (by rfl) (Tryz.addAny (wr:=wr) (ve:=.slice A3 B.length c4) (f:=f3) (L:=B) HO.o HBS.o (by rw[HLEN.o];omega) (by repeat(with_reducible first|exact aB _ _|apply Af)) (by exact Blk.new1 _ _ _ _) (HR3.o.below (by repeat(with_reducible first|exact aB _ _|apply Af))) (fun a ha => .inl (HF3.o a ha))) ?_;rintro v6 w6 ⟨A6,c6,h6,rfl,o6,B6,e6,s6⟩;have HO6:=U o6;have HB6:=U B6;have HS6:=U s6;clear o6 B6 s6)
    have hs9:=HST.o;rw[aI (by simp)]at hs9;have h9:=HO6.o;rw[HLEN.o,hs9]at h9;clear hs9;go_roundw
    case rel => exact⟨k+1,A6,c6,_,by omega,by go_num,rfl,h9,(show∀a,_ from fun a ha => by
     rcases List.mem_append.1 ha with ha|ha
     ·exact HF.o a ha
     ·exact HF3.o a (HS6.o.subset ha)),HB.o.trans HB6.o⟩
    case measure => simp[intOf];omega
  ·obtain rfl:k=L.length:=by omega
   go_wp2_with fail
   go_ret
   have ho:=HO.o;rw[bK (by rw[bR];exact aC _)]at ho;exact⟨A,c3,fo,by rw[bR];rfl,by rw[bR];exact ho,HF.o,HB.o⟩
def GI(L:List AL)(k:Nat):Nat:=(L.take k).countP AL.wiped
theorem LX {L:List AL} {k:Nat}(h:k<L.length):GI L (k+1)=GI L k+if L[k].wiped =true then 1 else 0:=by
 unfold GI;rw[aM h,List.countP_append];simp[List.countP_cons]
def Ki(d:Am)(g:Nat):Bool:=decide (d.s.p<(GI (AJ d g) (AJ d g).length:Int))
theorem l7Dead_c(p:Nat)(fs:List Addr)(d:Am)(g:Nat)(w:World)(h:AtW w p fs d)(hg:g<d.g.length)(hr:∀dr,dr∈AJ d g→0<dr.blocks.length)(hn:(AJ d g).length≤1000) :
  Calls prog 120 #[.pointer (some ⟨p,0,none⟩),int i64 (g:Int)] w fun e w' => e= .returned (.bool (Ki d g))∧w=w':=by
 obtain⟨a0,c0,b0,o0,A1,c1,f1,HG⟩:=h.grp hg;obtain⟨A0',A1',A2',c0',c1',c2',f0',f1',f2',HC⟩:=h.cells;have n3:=HC.n3;obtain⟨L,hL⟩:∃L,AJ d g=L:=⟨_,rfl⟩;have hd:Ki d g=decide (d.s.p<(GI (AJ d g) (AJ d g).length:Int)):=rfl;rw[hL]at hd;have HDD:=U hd;have HRW:=U hr;have n9:=HG.n9;have pl:=HG.pl;have k0:=HG.k0;have HRD:=HG.rd;rw[hL]at HRW hn k0 HRD;have HRDH:=U HRD;have hlt0:(g:Int)<(d.g.length:Int):=by omega
 obtain⟨rb,hrb⟩:∃rb,Ki d g=rb:=⟨_,rfl⟩;rw[hrb]at HDD⊢;clear h hr hd HRD HG hL HC hrb;go_enter func120,ntmps120
 go_wp2_with fail
 go_loop [5,6] (fun n i =>∃(k q:Nat),k≤L.length∧i= int i64 k∧n= int i64 q∧q≤k∧Hid (q=GI L k)) (fun _ i => L.length - (intOf i).toNat)
 case atStart => exact⟨0,0,by omega,rfl,rfl,by omega,(show 0=_ by simp[GI])⟩
 case round =>
  obtain⟨k,q,hk,rfl,rfl,hq,HQ⟩:=hrel;by_cases hkn:k<L.length
  ·obtain⟨a1,b1,o1,a2,c2,b2,o2,A3,c4,f3,rfl,HD⟩:=Kk (row:=0) HRDH.o hkn (HRW.o _ (aN hkn));have p1:=HD.p1;have l1:=HD.l1;have y0:=HD.y0;have hst:=LX hkn;obtain⟨wp,hwp⟩:∃wp,L[k].wiped =wp:=⟨_,rfl⟩;rw[hwp]at y0 hst;have HST:=U hst;clear HD hst hwp;cases wp with
   |true =>
    go_wp2_with fail
    go_round
    case rel => exact⟨k+1,q+1,by omega,by go_num,by go_num,by omega,(show _=_ by rw[HST.o,← HQ.o];rfl)⟩
    case measure => simp[intOf];omega
   |false =>
    go_wp2_with fail
    go_round
    case rel => exact⟨k+1,q,by omega,by go_num,rfl,by omega,(show _=_ by rw[HST.o,← HQ.o];rfl)⟩
    case measure => simp[intOf];omega
  ·obtain rfl:k=L.length:=by omega
   by_cases hc:d.s.p<(q:Int)
   ·have e1:rb=true:=by rw[HDD.o,← HQ.o];exact aK hc
    subst e1;go_wp2_with fail
    go_ret
    exact⟨rfl,rfl⟩
   ·have e1:rb=false:=by rw[HDD.o,← HQ.o];exact aG hc
    subst e1;have hc2:decide (d.s.p<(q:Int))=false:=aG hc;go_wp2_with fail
    go_ret
    exact⟨rfl,rfl⟩
theorem QU(p:Nat)(fs:List Addr)(d:Am)(g row nd:Nat)(w:World)(h:AtW w p fs d)(hg:g<d.g.length)(hr:∀dr,dr∈AJ d g→row<dr.blocks.length)(hnd:d.s.data=nd)(hd1:1≤nd)(hd2:nd≤3)(hn:(AJ d g).length≤nd+2)(hO:De (Bq d g row) 4) :
  Calls prog 155 #[.pointer (some ⟨p,0,none⟩),int i64 (g:Int),int i64 (row:Int)] w (G4 (Dh nd (Bq d g row)) w):=by
 obtain⟨a0,c0,b0,o0,A1,c1,f1,HG⟩:=h.grp hg;obtain⟨A0',A1',A2',c0',c1',c2',f0',f1',f2',HC⟩:=h.cells;have n2:=HC.n2;rw[hnd]at n2;have HRW:=U hr;obtain⟨L,hL⟩:∃L,AJ d g=L:=⟨_,rfl⟩;have hbl:Bq d g row=L.map (CV row):=by unfold Bq;rw[hL]
 have n9:=HG.n9;have pl:=HG.pl;have k0:=HG.k0;have lp:=HG.lp;have l0:=HG.l0;have HRD:=HG.rd;rw[hL]at HRW hn k0 HRD;rw[hbl]at hO⊢;have HOO:=U hO;have HRDH:=U HRD;have hlt0:(g:Int)<(d.g.length:Int):=by omega
 have HE:=U (Aj.emptyL (w:=w));have HE2:=U (Af (aB w.heap.size w) (.cells #[] 39));clear h hr hbl HRD HG hL HC hO hnd;go_enter func155,ntmps155
 go_wp2_with fail
 go_loopw [9,8] (fun i o wr =>∃(k:Nat) (A:Option Addr) (c3:Nat) (fo:List Addr),k≤L.length∧i= int i64 k∧o= .slice A k c3∧Hid (Aj 1 39 (Al 1 Ai) wr w.heap.size o ((L.map (CV row)).take k) fo)∧Hid (Below w.heap.size w wr)) (fun i _ _ => L.length - (intOf i).toNat)
 case atStart => exact⟨0,_,0,[],by omega,rfl,rfl,HE.o,HE2.o⟩
 case round =>
  obtain⟨k,A,c3,fo,hk,rfl,rfl,HO,HB⟩:=hrel;clear HE HE2;have HBS:=U HB.o.size;have j9:=(HB.o.cell (p:=⟨p,9,none⟩) lp).trans n9;have j2:=(HB.o.cell (p:=⟨p,2,none⟩) lp).trans n2;have j0:=(HB.o.cell (p:=⟨b0,o0,none⟩) l0).trans k0;have lp1:p<wr.heap.size:=aE lp HBS.o;have l01:b0<wr.heap.size:=aE l0 HBS.o;by_cases hkn:k<L.length
  ·obtain⟨a1,b1,o1,a2,c2,b2,o2,A3,c4,f3,rfl,HD0⟩:=Kk (row:=row) HRDH.o hkn (HRW.o _ (aN hkn));have HD:=HD0.below HB.o;have p1:=HD.p1;have l1:=HD.l1;have y0:=HD.y0;have y1:=HD.y1;have p2:=HD.p2;have l2:=HD.l2;have z1:=HD.z1;have HR3:=U HD.rd;have hrl:row<L[k].blocks.length:=HRW.o _ (aN hkn);have hst:(L.map (CV row)).take k ++ [CV row L[k]] =(L.map (CV row)).take (k+1):=by
    rw[aM (by rw[bR];exact hkn)];simp
   have hlen:((L.map (CV row)).take k).length =k:=by rw[aQ,bR];omega
   have HF3:=U (show∀a,a∈f3→a.block<w.heap.size from fun a ha => rSl.there Ai.fixed HD0.rd a ha);have HLEN:=U hlen;have hrow:CV row L[k] =if L[k].wiped =true then []else(Cg L[k] row).bytes:=rfl
   obtain⟨wp,hwp⟩:∃wp,L[k].wiped =wp:=⟨_,rfl⟩;obtain⟨B,hB⟩:∃B,(Cg L[k] row).bytes =B:=⟨_,rfl⟩;obtain⟨m,hm⟩:∃m,L[k].blocks.length =m:=⟨_,rfl⟩;rw[hwp]at y0 hrow;rw[hB]at z1 HR3 hrow;rw[hm]at y1 hrl;rw[hrow]at hst;have hrl1:(row:Int)<(m:Int):=by omega
   clear HD HD0 hlen hrow hwp hB hm;cases wp with
   |true =>
    rw[aL rfl]at hst;have HST:=U hst;clear hst;go_wp2_with (at_builtin;refine Ar rfl (.tmp 34) (.tmp 35) 83 rfl _ _ (by rfl) (by rfl) (Tryz.addAny (wr:=wr) (ve:=.slice none 0 0) (f:=[]) (L:=[]) HO.o HBS.o (by rw[HLEN.o];omega) (by repeat(with_reducible first|exact aB _ _|apply Af)) (by exact Blk.new _ _ _) (Ag.empty (by omega)) (fun a ha => by cases ha)) ?_;rintro v6 w6 ⟨A6,c6,h6,rfl,o6,B6,e6,s6⟩;have HO6:=U o6;have HB6:=U B6;have HS6:=U s6;clear o6 B6 s6)
    have h9:=HO6.o;rw[HLEN.o,HST.o]at h9;go_roundw
    case rel => exact⟨k+1,A6,c6,_,by omega,by go_num,rfl,h9,HB.o.trans HB6.o⟩
    case measure => simp[intOf];omega
   |false =>
    rw[aI (by simp)]at hst;have HST:=U hst;clear hst;go_wp2_with (at_builtin;refine Ar rfl (.tmp 37) (.tmp 53) 83 rfl _ _ (by rfl) (by rfl) (Tryz.addAny (wr:=wr) (ve:=.slice A3 B.length c4) (f:=f3) (L:=B) HO.o HBS.o (by rw[HLEN.o];omega) (by repeat(with_reducible first|exact aB _ _|apply Af)) (by exact Blk.new _ _ _) (HR3.o.below (by repeat(with_reducible first|exact aB _ _|apply Af))) (fun a ha => .inl (HF3.o a ha))) ?_;rintro v6 w6 ⟨A6,c6,h6,rfl,o6,B6,e6,s6⟩;have HO6:=U o6;have HB6:=U B6;have HS6:=U s6;clear o6 B6 s6)
    have h9:=HO6.o;rw[HLEN.o,HST.o]at h9;go_roundw
    case rel => exact⟨k+1,A6,c6,_,by omega,by go_num,rfl,h9,HB.o.trans HB6.o⟩
    case measure => simp[intOf];omega
  ·obtain rfl:k=L.length:=by omega
   have ho:=HO.o;rw[bK (by rw[bR];exact aC _)]at ho;obtain⟨gr,hgr,-⟩:=ho.reads;have HC:=U (Kw nd (.slice A L.length c3) (L.map (CV row)) (gr ++ fo) wr (by have:=hgr;simpa using this) hd1 hd2 (by rw[bR];exact hn) HOO.o);obtain⟨X,hX⟩:∃X,Dh nd (L.map (CV row))=X:=⟨_,rfl⟩;rw[hX]at HC;have HX:=U hX;clear hgr ho hX;go_wp2_with fail
   refine HC.o.mono ?_;rintro e w2 (⟨D,A2,c2,f2,rfl,rfl,r2,m2,b2⟩|⟨rfl,rfl,b2⟩)
   ·have R2:=U r2;have M2:=U m2;have B2:=U b2;clear r2 m2 b2;go_wp2_with fail
    go_ret2
    exact .inl ⟨D,A2,c2,f2,HX.o,rfl,R2.o,M2.o.mono HBS.o,HB.o.trans (B2.o.mono HBS.o)⟩
   ·have B2:=U b2;clear b2;go_wp2_with fail
    go_ret2
    exact .inr ⟨HX.o,rfl,HB.o.trans (B2.o.mono HBS.o)⟩
def Gs(enc:Ah→List (List UInt8))(row:Int)(k:Nat)(st:List UInt8 × Int)(m:Ah):List UInt8 × Int :=
 if m.row=row∧st.2<m.seq then(D3 st.1 ((enc m).getD k []),m.seq)else st
def DS(enc:Ah→List (List UInt8))(row:Int)(k:Nat)(b:List UInt8)(stamp:Int)(M:List Ah):List UInt8 × Int:=M.foldl (Gs enc row k) (b,stamp)
def Gt(enc:Ah→List (List UInt8))(row:Nat)(M:List Ah)(k:Nat)(dr:AL):List UInt8 :=
 if dr.wiped=true then []else(DS enc row k (Cg dr row).bytes (Cg dr row).stamp M).1
def FU(enc:Ah→List (List UInt8))(row:Nat)(M:List Ah)(L:List AL):List (List UInt8):=L.mapIdx fun k dr => Gt enc row M k dr
def Cb(d:Am)(g:Nat)(m:Ah):List (List UInt8):=Lg d.s.g.toNat d.s.data.toNat d.s.p.toNat g m
def CL(d:Am)(M:List Ah)(g row:Nat):List (List UInt8):=FU (Cb d g) row M (AJ d g)
theorem Cu(enc:Ah→List (List UInt8))(row:Nat)(M:List Ah)(L:List AL):(FU enc row M L).length =L.length:=by simp[FU]
theorem F5(enc:Ah→List (List UInt8))(row:Nat)(M:List Ah)(L:List AL) {k:Nat}(h:k<L.length):(FU enc row M L)[k]'(by rw[Cu];exact h)=Gt enc row M k L[k]:=by simp[FU]
theorem Ld(enc:Ah→List (List UInt8))(row:Int)(k:Nat)(b:List UInt8)(stamp:Int) {M:List Ah} {j:Nat}(h:j<M.length):DS enc row k b stamp (M.take (j+1))=Gs enc row k (DS enc row k b stamp (M.take j)) M[j]:=by
 unfold DS;rw[aM h,List.foldl_append];rfl
theorem NE {enc:Ah→List (List UInt8)} {row:Int} {k:Nat} {st:List UInt8 × Int} {m:Ah}(h:st.1.length=4)(he:((enc m).getD k []).length =4):(Gs enc row k st m).1.length =4:=by
 unfold Gs;split
 ·show(D3 _ _).length =4
  rw[FS _ _ (by rw[h,he]),h]
 ·exact h
theorem Du {enc:Ah→List (List UInt8)} {row:Int} {k:Nat} {b:List UInt8} {stamp:Int}:∀ {M:List Ah},(∀m,m∈M→((enc m).getD k []).length =4)→b.length=4→(DS enc row k b stamp M).1.length =4
 | [],_,h => h
 |m :: M,he,h => by
  have h1:(Gs enc row k (b,stamp) m).1.length =4:=NE h (he m List.mem_cons_self);unfold DS;rw[List.foldl_cons];exact Du (b:=(Gs enc row k (b,stamp) m).1) (stamp:=(Gs enc row k (b,stamp) m).2) (fun x hx => he x (List.mem_cons_of_mem _ hx)) h1
def stF {α:Type}(X Y:List α)(k:Nat):List α:=X.take k ++ Y.drop k
theorem stF_zero {α:Type}(X Y:List α):stF X Y 0=Y:=by simp[stF]
theorem stF_all {α:Type} {X Y:List α}(h:Y.length=X.length):stF X Y X.length=X:=by
 unfold stF;rw[aV,← h,List.drop_length,List.append_nil]
theorem NB {X Y:List (List UInt8)}(h:Y.length=X.length) {k:Nat}(hk:k<X.length):(stF X Y k).getD k [] =Y[k]'(by omega):=by
 unfold stF;rw[aJ,List.getElem?_append_right (by rw[aQ];omega),aQ,Nat.min_eq_left (by omega),Nat.sub_self,List.getElem?_drop];simp[h,hk]
theorem NC {α:Type} {X Y:List α}(h:Y.length=X.length) {k:Nat}(hk:k<X.length):stF X Y (k+1)=(stF X Y k).set k X[k]:=by
 unfold stF;rw[List.set_append_right _ _ (by rw[aQ];omega),aQ,Nat.min_eq_left (by omega),Nat.sub_self,List.drop_eq_getElem_cons (show k<Y.length by omega),List.set_cons_zero,aM hk,List.append_assoc];rfl
theorem stF_same {X Y:List (List UInt8)}(h:Y.length=X.length) {k:Nat}(hk:k<X.length)(e:X[k] =Y[k]'(by omega)):stF X Y (k+1)=stF X Y k:=by
 rw[NC h hk];apply bP
 ·simp
 ·intro i h1 h2;rw[List.getElem_set];split
  ·rename_i e2;subst e2
   have:=NB h hk;rw[aJ,aO h2]at this;simp only[Option.getD_some]at this;rw[this,e]
  ·rfl
theorem Mat.lists {w:World} {g n c:Nat} {ms:List (List UInt8)}(h:Mat w g n ms)(hc:n≤c)(hc2:c≤9223372036854775807):∃fs,As w fs (.slice (some ⟨g,0,none⟩) n c) ms:=by
 have hl:=h.len;have hch:∀i:Fin n,∃q:(Option Addr × Nat) × List Addr,w.cell? ⟨g,i.val,none⟩=some (.slice q.1.1 (ms.getD i.val []).length q.1.2)∧Ag w q.2 (.slice q.1.1 (ms.getD i.val []).length q.1.2) (ms.getD i.val []):=fun i => by
  obtain⟨A,c,f,h1,h2,-⟩:=h.row i.val i.isLt;exact⟨((A,c),f),h1,h2⟩
 obtain⟨q,hq⟩:=Classical.axiomOfChoice hch;refine⟨_,some ⟨g,0,none⟩,c,by rw[hl],by omega,hc2,.inr ⟨⟨g,0,none⟩,(List.finRange n).map fun i => [.slice (q i).1.1 (ms.getD i.val []).length (q i).1.2],(List.finRange n).map fun i =>(q i).2,rfl,by simp[hl],by simp[hl],rfl,fun i hi => ?_⟩⟩;have hi':i<n:=by omega
 refine⟨by simpa using hi',by simpa using hi',by simp,fun j hj => ?_,?_⟩
 ·simp only[bQ,List.getElem_finRange,Fin.cast_mk,List.length_cons,List.length_nil]at hj⊢;have hj0:j=0:=by omega
  subst hj0;have e:(⟨g,0,none⟩:Addr).add (i * 1+0)=⟨g,i,none⟩:=by rw[Nat.mul_one,bE];exact Cs g i
  rw[e];simpa using(hq ⟨i,hi'⟩).1
 ·simp only[bQ,List.getElem_finRange,Fin.cast_mk];have h2:=(hq ⟨i,hi'⟩).2;refine⟨_,rfl,?_⟩;have e:ms.getD i [] =ms[i]:=by simp[aJ,hi]
  simp only[e]at h2⊢;exact h2
theorem intCells {w:World} {fs:List Addr} {v:Value} {xs:List Int}(h:AO w fs v xs):∀a,a∈fs→∃u,w.cell? a=some (int i64 u):=fun a ha => by
 obtain⟨A,c,e,h1,h2,h3⟩:=h;rcases h3 with⟨-,rfl⟩|⟨ad,css,fss,-,e2,e3,rfl,h3⟩
 ·cases ha
 ·rcases List.mem_append.1 ha with ha|ha
  ·obtain⟨q,hq,rfl⟩:=Bb.1 ha;obtain⟨q1,q2,q3,q4,hfi,hcs,-⟩:=h3 q (by omega);refine⟨xs[q],?_⟩;have:=q4 0 (by omega);rw[Nat.mul_one,bE]at this;rw[this];simp[hcs]
  ·obtain⟨l,hl,hal⟩:=List.mem_flatten.1 ha;obtain⟨i,hi,rfl⟩:=aY hl;obtain⟨q1,q2,q3,q4,hfi,hcs,-⟩:=h3 i (by omega);rw[hfi]at hal;cases hal
theorem LI {w:World} {fs:List Addr} {v:Value} {xs:List UInt8}(h:Ag w fs v xs):∀a,a∈fs→∃u,w.cell? a=some (.int .u8 u):=fun a ha => by
 obtain⟨A,c,e,h1,h2,h3⟩:=h;rcases h3 with⟨-,rfl⟩|⟨ad,css,fss,-,e2,e3,rfl,h3⟩
 ·cases ha
 ·rcases List.mem_append.1 ha with ha|ha
  ·obtain⟨q,hq,rfl⟩:=Bb.1 ha;obtain⟨q1,q2,q3,q4,hfi,hcs⟩:=h3 q (by omega);refine⟨(xs[q].toNat:Int),?_⟩;have:=q4 0 (by omega);rw[Nat.mul_one,bE]at this;rw[this];simp[hcs,Be]
  ·obtain⟨l,hl,hal⟩:=List.mem_flatten.1 ha;obtain⟨i,hi,rfl⟩:=aY hl;obtain⟨q1,q2,q3,q4,hfi,hcs⟩:=h3 i (by omega);rw[hfi]at hal;cases hal
theorem Pz {w:World} {fs:List Addr} {v:Value} {M:List Ah} {g n:Nat} {ms:List (List UInt8)}(h:rSl 9 Ac w fs v M)(hm:Mat w g n ms):∀i,i<n→(⟨g,i,none⟩:Addr)∉fs:=fun i hi ha => by
 have hsl:∀i,i<n→∃A l c,w.cell? ⟨g,i,none⟩=some (.slice A l c):=fun i hi => by
  obtain⟨A,c,f,h1,-⟩:=hm.row i hi;exact⟨A,_,c,h1⟩
 obtain⟨A,c,e,h1,h2,h3⟩:=h;rcases h3 with⟨-,rfl⟩|⟨ad,css,fss,-,e2,e3,rfl,h3⟩
 ·cases ha
 ·rcases List.mem_append.1 ha with ha|ha
  ·obtain⟨q,hq,e⟩:=Bb.1 ha;have hj:q / 9<M.length:=by omega
   obtain⟨q1,q2,q3,q4,hr⟩:=h3 (q / 9) hj;obtain⟨v0,v1,v2,f0,f1,f2,ec,-⟩:=hr;have hcell:∀r,(hr:r<9)→w.cell? (ad.add (q / 9 * 9+r))=some ((css[q / 9])[r]'(by omega)):=fun r hr => q4 r (by omega)
   have c0:=hcell 0 (by omega);rw[bE]at c0;obtain⟨b,o,hP⟩:=Jv c0;have hpl:ad.add q=⟨b,o+q % 9,none⟩:=by
    have:=DQ hP (q % 9);rwa [show q / 9 * 9+q % 9=q by omega]at this
   rw[hpl]at e;injection e with e4 e5
   subst e4
   -- a cell of the record that holds a number
   have hnum:∃r,r<9∧o+r≤i∧∀A l c,w.cell? ⟨g,o+r,none⟩≠some (.slice A l c):=by
    have hlt:q % 9<9:=Nat.mod_lt _ (by omega);have cr:∀r,(hr:r<9)→w.cell? ⟨g,o+r,none⟩=some ((css[q / 9])[r]'(by omega)):=fun r hr => by rw[← DQ hP r];exact hcell r hr
    by_cases h5:q % 9≤5
    ·refine⟨q % 9,hlt,by omega,fun A l c hh => ?_⟩;have hc:=cr (q % 9) hlt;rw[hc]at hh;obtain⟨z,hz⟩:∃z,q % 9=z:=⟨_,rfl⟩;simp only[ec,hz]at hh;rw[hz]at h5;match z,h5 with
     |0,_ => simp at hh
     |1,_ => simp at hh
     |2,_ => simp at hh
     |3,_ => simp at hh
     |4,_ => simp at hh
     |5,_ => simp at hh
    ·refine⟨5,by omega,by omega,fun A l c hh => ?_⟩;have hc:=cr 5 (by omega);rw[hc]at hh;simp[ec]at hh
   obtain⟨r,hr,hle,hno⟩:=hnum;obtain⟨A',l',c',hh⟩:=hsl (o+r) (by omega);exact hno _ _ _ hh
  ·obtain⟨l,hl,hal⟩:=List.mem_flatten.1 ha;obtain⟨j,hj,rfl⟩:=aY hl;obtain⟨q1,q2,q3,q4,hr⟩:=h3 j (by omega);obtain⟨v0,v1,v2,f0,f1,f2,ec,ef,-,-,-,-,-,-,r0,r1,r2⟩:=hr;rw[ef]at hal;obtain⟨A',l',c',hh⟩:=hsl i hi;rcases List.mem_append.1 hal with hal|hal
   ·obtain⟨u,hu⟩:=intCells r0 _ hal;rw[hu]at hh;cases hh
   ·rcases List.mem_append.1 hal with hal|hal
    ·obtain⟨u,hu⟩:=LI r1 _ hal;rw[hu]at hh;cases hh
    ·obtain⟨u,hu⟩:=LI r2 _ hal;rw[hu]at hh;cases hh
structure Jn (d:Am) (g row:Nat) (M:List Ah):Prop where
 ok:d.s.sh.Ok
 hg:g<d.g.length
 g1:d.s.g≤g
 g2:(g:Int)<d.s.g+d.s.c
 hr:∀dr,dr∈AJ d g→row<dr.blocks.length
 h4:∀dr,dr∈AJ d g→(Cg dr row).bytes.length =4
 hn:((AJ d g).length:Int)=d.s.data+d.s.p
 hm:∀m,m∈M→0≤m.group∧m.group<d.s.g∧(m.delta.length:Int)=4 * d.s.data
theorem Jn.enc {d:Am} {g row:Nat} {M:List Ah}(h:Jn d g row M) {k:Nat}(hk:k<(AJ d g).length):∀m,m∈M→((Cb d g m).getD k []).length =4∧k<(Cb d g m).length:=fun m hm => by
 obtain⟨h1,h2,h3⟩:=h.hm m hm;obtain⟨a1,a2⟩:=h.ok.data;obtain⟨b1,b2⟩:=h.ok.p;have hn:=h.hn;simp only[AX.sh]at a1 a2 b1 b2;have hl:(Cb d g m).length =d.s.data.toNat+d.s.p.toNat:=NK _ _ _ _ _;have hk2:k<(Cb d g m).length:=by omega
 refine⟨?_,hk2⟩;rw[aJ,aO hk2];exact Qe (by rw[Cx];omega) _ _ (aN hk2)
theorem willBe_k(kr:Nat)(hkr:kr=9)(zR:∀w,(Go.sizeOf 119).run prog w= .ok kr w)(aR:∀w,(isAgg 119).run prog w= .ok true w)(p:Nat)(fs:List Addr)(d:Am)(g row:Nat)(w:World)(h:AtW w p fs d)(hsm:(CZ d).length≤1000000)(hP:Jn d g row (Cm d.s.g (AN d) (g:Int))) :
  Calls prog 188 #[.pointer (some ⟨p,0,none⟩),int i64 (g:Int),int i64 (row:Int)] w (FC (CL d (Cm d.s.g (AN d) (g:Int)) g row) w):=by
 have HKR:=U hkr;clear hkr;have hg:=hP.hg;have hn:=hP.hn;obtain⟨a1,a2⟩:=hP.ok.data;obtain⟨b1,b2⟩:=hP.ok.p;simp only[AX.sh]at a1 a2 b1 b2;have HH:=U h;have HP:=U hP;have HBC:=U (MD p fs d g row w h hg hP.hr (by omega));have HUC:=U (fun(W:World) (hW:Below w.heap.size w W) => NJ p fs d (g:Int) W (h.below hW) hP.ok (by omega) hsm);obtain⟨a0,c0,b0,o0,A1,c1,f1,HG⟩:=h.grp hg;have HGH:=U HG;have lp:=HG.lp;have l0:=HG.l0;obtain⟨M,hM⟩:∃M,Cm d.s.g (AN d) (g:Int)=M:=⟨_,rfl⟩;rw[hM]at HUC HP⊢;have hML:=U hM;obtain⟨L,hL⟩:∃L,AJ d g=L:=⟨_,rfl⟩;have hWF:CL d M g row=FU (Cb d g) row M L:=by unfold CL;rw[hL]
 have hBF:Bq d g row=L.map (CV row):=by unfold Bq;rw[hL]
 rw[hBF]at HBC;rw[hWF];rw[hL]at hn;have hwl:=Cu (Cb d g) row M L;have hbl:(L.map (CV row)).length =L.length:=bR _;rw[hbl]at HBC;have hpos:0<L.length:=by omega
 have hsmall:L.length≤5:=by omega
 have HLL:=U hL;obtain⟨Bk,hBk⟩:∃Bk,L.map (CV row)=Bk:=⟨_,rfl⟩;obtain⟨X,hX⟩:∃X,FU (Cb d g) row M L=X:=⟨_,rfl⟩;rw[hBk]at HBC hbl;rw[hX]at hwl⊢;have HBK:=U hBk;have HX:=U hX;have HWL:=U hwl;have HBL:=U (hbl.trans hwl.symm);clear h hP HG hL hWF hBF hM hwl hbl hBk hX hn;go_enter func188,ntmps188
 go_wp2_with fail
 refine HBC.o.mono ?_;rintro e w1 ⟨A5,c5,f5,rfl,o5,g5,bb5⟩;obtain⟨gO,cO,e5,hc5,hc6,hmat,hgO⟩:=o5.mat (by rw[HBL.o,HWL.o];exact hpos);injection e5 with e51 e52 e53
 subst e51 e53;rw[HBL.o,HWL.o]at hmat hc5;have HMAT:=U hmat;have HGO:=U hgO;have HB1:=U bb5;have HC5:=U (show L.length≤c5∧c5≤9223372036854775807 from⟨hc5,hc6⟩);have HU:=U (HUC.o w1 bb5);clear o5 g5 bb5 hc5 hc6 hmat hgO e52;go_wp2_with (go_at_call 258;refine HU.o.mono ?_;rintro e w2 ⟨A6,c6,f6,rfl,r6,b6⟩;have R6:=U r6;have B6:=U b6;clear r6 b6)
 have hsz1:=HB1.o.size;have hgl:=HMAT.o.lt;have hb2:Below w.heap.size w w2:=HB1.o.trans (B6.o.mono hsz1);have hsz2:=B6.o.size;have hm2:=HMAT.o.below B6.o;have HAP:=U (Pz R6.o hm2);have HM2:=U hm2;have HB2:=U hb2;have HMEM:=U (show∀a,a∈AV ⟨gO,0,none⟩ L.length→w.heap.size≤a.block from fun a ha => by rw[CY ha];exact HGO.o);clear HBC HUC HU hb2 hm2;go_loopw [23,9,10,11,13] (fun i _ _ _ _ wr =>∃k:Nat,k≤L.length∧i= int i64 k∧Hid (Mat wr gO L.length (stF X Bk k))∧Hid (AD (AV ⟨gO,0,none⟩ L.length) w2 wr)) (fun i _ _ _ _ _ => L.length - (intOf i).toNat)
 case atStart => exact⟨0,by omega,rfl,(show Mat _ _ _ _ by rw[stF_zero];exact HM2.o),AD.refl _ _⟩
 case round =>
  obtain⟨k,hk,rfl,HMT,HWR⟩:=hrel;have HB3:=U (HB2.o.trans (HWR.o.below (by have:=HB2.o.size;omega) HMEM.o));have hszr:=HB3.o.size;by_cases hkn:k<L.length
  ·have hkX:k<X.length:=by rw[HWL.o];exact hkn
   obtain⟨A7,c7,f7,x7,r7,g7⟩:=HMT.o.row k hkn;rw[NB HBL.o hkX]at x7 r7;have hbk:Bk[k]'(by rw[HBL.o];exact hkX)=CV row L[k]:=by simp only[← HBK.o,bQ]
   rw[hbk]at x7 r7;have hxk:X[k] =Gt (Cb d g) row M k L[k]:=by
    have:=F5 (Cb d g) row M L hkn;simp only[HX.o]at this;exact this
   have hmem:L[k]∈AJ d g:=by rw[HLL.o];exact aN hkn
   have h4:=HP.o.h4 _ hmem;have hgl2:=HMT.o.lt;have hrowB:CV row L[k] =if L[k].wiped =true then []else(Cg L[k] row).bytes:=rfl
   have hwillD:Gt (Cb d g) row M k L[k] =if L[k].wiped =true then []else(DS (Cb d g) row k (Cg L[k] row).bytes (Cg L[k] row).stamp M).1:=rfl
   have HR2:=U (rSl.keep Ac.local_ R6.o (HWR.o.same (rSl.there Ac.fixed R6.o) (fun a ha hb => by
    obtain⟨i,hi,e⟩:=Bb.1 hb;rw[Cs]at e;exact HAP.o i hi (e ▸ ha))))
   have hstep:=NC HBL.o hkX;have HSTEP:=U hstep;obtain⟨wp,hwp⟩:∃wp,L[k].wiped =wp:=⟨_,rfl⟩;rw[hwp]at hrowB hwillD;cases wp with
   |true =>
    rw[aL rfl]at hrowB hwillD;rw[hrowB]at x7 hbk;have HSAME:=U (stF_same HBL.o hkX (by rw[hxk,hwillD,hbk]));simp only[List.length_nil]at x7;clear r7 hrowB hwillD hbk hxk hwp h4 hstep;go_wp2_with fail
    go_roundw
    case rel => exact⟨k+1,by omega,by go_num,(show Mat _ _ _ _ by rw[HSAME.o];exact HMT.o),HWR.o⟩
    case measure => simp[intOf];omega
   |false =>
    rw[aI (by simp)]at hrowB hwillD;rw[hrowB,h4]at x7 r7;have HXK:=U (hxk.trans hwillD);have hgr:=HGH.o.below HB3.o;have hrd:=hgr.rd;have hkD:k<(AJ d g).length:=by rw[HLL.o];exact hkn
    have hLk:(AJ d g)[k] =L[k]:=by simp only[HLL.o]
    obtain⟨a1',b1',o1',a2',c2',b2',o2',A3',c3',f3',e1',HD⟩:=Kk (row:=row) hrd hkD (HP.o.hr _ (aN hkD));subst e1';have hrl:=HP.o.hr _ (aN hkD);rw[hLk]at HD hrl;have n9:=hgr.n9;have pl:=hgr.pl;have k0:=hgr.k0;rw[HLL.o]at k0;have l0':=hgr.l0;have lp':=hgr.lp;have p1:=HD.p1;have l1:=HD.l1;have y1:=HD.y1;have p2:=HD.p2;have l2:=HD.l2;have z0:=HD.z0;obtain⟨B,hB⟩:∃B,(Cg L[k] row).bytes =B:=⟨_,rfl⟩;obtain⟨sp,hsp⟩:∃sp,(Cg L[k] row).stamp =sp:=⟨_,rfl⟩;obtain⟨mb,hmb⟩:∃mb,L[k].blocks.length =mb:=⟨_,rfl⟩;rw[hB]at r7 h4 HXK;rw[hsp]at z0 HXK;rw[hmb]at y1 hrl;have hrl1:(row:Int)<(mb:Int):=by omega
    have hg1:(g:Int)<(d.g.length:Int):=by omega
    have hk1:(k:Int)<(L.length:Int):=by omega
    have HR7:=U r7;have HG7:=U g7;have H4:=U h4;have hENC:=HP.o.enc hkD;have HENC:=U hENC;clear hbk hxk hwillD hrowB hwp hgr hrd hLk HD hB hsp hmb r7 g7 h4 hENC hstep;go_wp2_with fail
    obtain⟨u,hu⟩:∃u,u=wr:=⟨_,rfl⟩;subst hu;go_loopw [48,10,11,13] (fun i b s _ wr =>∃(j:Nat) (A:Option Addr) (c:Nat) (f:List Addr) (st:List UInt8 × Int),j≤M.length∧i= int i64 j∧b= .slice A 4 c∧s= int i64 st.2∧Hid (st=DS (Cb d g) row k B sp (M.take j))∧Hid (Ag wr f (.slice A 4 c) st.1)∧Hid (∀a,a∈f→a.block≠gO)∧Hid (Below u.heap.size u wr)) (fun i _ _ _ _ => M.length - (intOf i).toNat)
    case atStart => exact⟨0,A7,c7,f7,(B,sp),by omega,rfl,rfl,rfl,rfl,HR7.o,HG7.o,aB _ _⟩
    case round =>
     obtain⟨j,A,c,f,st,hj,rfl,rfl,rfl,HST,HRB,HNG,HBU⟩:=hrel;have hsz4:=HBU.o.size;have gzr:gO<wr.heap.size:=by omega
     have HBW:=U (HB3.o.trans (HBU.o.mono hszr));by_cases hjM:j<M.length
     ·obtain⟨A',c',e,hc',hm',hx⟩:=rSl.at_ Ac.fixed (by decide) HR2.o;injection e with e1 _ e3
      subst e1 e3;obtain⟨ad,b,o,cs,fk,rfl,hat⟩:=hx j hjM;have hat2:=hat.below Ac.local_ HBU.o;have hpl:ad.add (j * kr)=⟨b,o,none⟩:=by rw[HKR.o];exact hat.place
      have hbl:=hat2.lt;have hlen:cs.length=9:=hat2.len;have HRG:=U (show wr.rangeAt b o cs from fun q v hq => by
       have hq1:q<cs.length:=(List.getElem?_eq_some_iff.1 hq).1;rw[hat2.cell q hq1,← hq];exact(aO hq1).symm)
      have HI:=U (show(prog.info? 119).map (·.size)=some cs.length by rw[hlen];kernel_rfl);have HI2:=U (show(prog.info? 119).map (·.size)=some cs.toArray.size by rw[aZ,hlen];kernel_rfl);have HON:=U (all_oneCell_toArray (Ac.ones _ _ _ _ hat2.reads));have HRD:=U hat2.reads;obtain⟨Z,hZ⟩:∃Z:Array Value,#[int i64 0,int i64 0,.string ⟨#[]⟩,int i64 0,int i64 0,int i64 0,.slice none 0 0,.slice none 0 0,.slice none 0 0] =Z:=⟨_,rfl⟩;have hZs:Z.size=9:=by rw[← hZ];rfl
      have KZ:=Blk.new wr 119 Z;have HTH:=U (Blk.there KZ cs.toArray.size (by rw[aZ,hlen,hZs];exact aC _));obtain⟨W2,hW2⟩:∃W2,(wr.alloc (.cells Z 119)).setCells wr.heap.size 0 cs.toArray.toList=W2:=⟨_,rfl⟩;have K2:Blk W2 wr.heap.size 119 cs.toArray:=by rw[← hW2];exact Blk.laid KZ _ (by rw[hZs];exact hlen.symm)
      have b2:Below wr.heap.size wr W2:=by rw[← hW2];exact Ba (Af (aB _ _) _) _ 0 (aC _)
      have HK2:=U K2;have B2:=U b2;have HW2:=U hW2;have hsz5:=b2.size;obtain⟨v0,v1,v2,g0,g1,g2,ecs,-⟩:=hat2.reads;have y1:W2.cell? ⟨wr.heap.size,1,none⟩=some (int i64 M[j].seq):=by rw[K2.cell,ecs];rfl
      have y5:W2.cell? ⟨wr.heap.size,5,none⟩=some (int i64 M[j].row):=by rw[K2.cell,ecs];rfl
      have gb:wr.heap.size<W2.heap.size:=K2.lt;have hmm:=HP.o.hm _ (aN hjM);have hee:=HENC.o _ (aN hjM);have hst1:=Ld (Cb d g) row k B sp hjM;rw[← HST.o]at hst1;have hstl:st.1.length=4:=by rw[HST.o];exact Du (fun m hm =>(HENC.o m (List.mem_of_mem_take hm)).1) H4.o
      have HADD:=U (show∀W,Below W2.heap.size W2 W→Calls prog 260 #[.pointer (some ⟨p,0,none⟩),int i64 (g:Int),.agg cs.toArray] W (FC (Cb d g M[j]) W)from fun W hW =>
       added_c p fs d g M[j] cs fk W (((HH.o.below HBW.o).below b2).below hW) HP.o.ok (AB.below Ac.local_ Ac.fixed (AB.below Ac.local_ Ac.fixed hat2.reads b2) hW) HP.o.g1 HP.o.g2 hmm.1 hmm.2.1 hmm.2.2)
      have HKS:=U (show∀W,Below W2.heap.size W2 W→(Sem.run prog (loadCellsFrom ⟨wr.heap.size,0,none⟩ 0 kr #[]) W= .ok cs.toArray W∧W.cell? ⟨wr.heap.size,1,none⟩=some (int i64 M[j].seq))from fun W hW =>⟨EL (K2.below hW K2.lt) (by rw[HKR.o];exact hlen),(hW.cell (p:=⟨wr.heap.size,1,none⟩) gb).trans y1⟩);obtain⟨mq,hmq⟩:∃mq,M[j].seq =mq:=⟨_,rfl⟩;obtain⟨mr,hmr⟩:∃mr,M[j].row =mr:=⟨_,rfl⟩;obtain⟨E,hE⟩:∃E,Cb d g M[j] =E:=⟨_,rfl⟩;rw[hmq]at y1 HKS;rw[hmr]at y5;rw[hE]at HADD hee;unfold Gs at hst1;rw[hmq,hmr,hE]at hst1;obtain⟨s1,s2⟩:=st;simp only at hst1 hstl HRB;have HST1:=U hst1;have HSTL:=U hstl;have HE4:=U hee.1;have hkl:=hee.2;have hD:E.getD k [] =E[k]:=by simp[aJ,hkl]
      obtain⟨D,hDD⟩:∃D,E.getD k [] =D:=⟨_,rfl⟩;rw[hDD]at HE4 HST1 hD;have HD:=U hD;clear hat hat2 hx hW2 KZ hZs K2 b2 ecs hmm hee hst1 hstl hmq hmr hE hD hDD hlen;by_cases qr:mr=(row:Int)
      ·have hk1':(mr ==(row:Int))=true:=by simpa using qr
       by_cases qs:s2<mq
       ·have hd1:decide (s2<mq)=true:=aK qs;have HNEW:=U (show DS (Cb d g) row k B sp (M.take (j+1))=(D3 s1 D,mq) by rw[HST1.o,aL ⟨qr,qs⟩]);have HSUM:=U (fun(W w4:World) (A9:Option Addr) (c9:Nat) (f9:List Addr) (h9:Ag w4 f9 (.slice A9 4 c9) D) (h4W:Below w4.heap.size w4 W) (hW:Below W2.heap.size W2 W) => sum_c (.slice A 4 c) (.slice A9 4 c9) s1 D 1 f f9 W (Ag.below (Ag.below HRB.o B2.o) hW) (h9.below h4W) (by rw[HSTL.o,HE4.o]) (by rw[HE4.o];omega));rw[addS_one,show(((1:UInt8).toNat:Nat):Int)=1 from rfl]at HSUM;have HAL:=U (show(D3 s1 D).length =4 by rw[FS _ _ (by rw[HSTL.o,HE4.o]),HSTL.o]);have hks0:¬kr=0:=by rw[HKR.o];omega
        have hks1:0<kr:=by rw[HKR.o];omega
        have hki:(k:Int)<(E.length:Int):=by omega
        clear qr qs;go_wp2_with (first
         |(refine aD rfl 119 _ rfl b o rfl cs _ HRG.o underlying119 rfl HI.o ?_)
         |(refine aW rfl 119 (.tmp 13) (.tmp 51) rfl wr.heap.size 0 cs.toArray rfl rfl HTH.o HI2.o HON.o ?_;rw[HW2.o]))
        have ld0:=(HKS.o W2 (aB _ _)).1;have ld1:=(HKS.o W2.drew (An (aB _ _))).1;go_region_law (first
          |(go_simp;go_at_call 260;refine(HADD.o _ (by repeat(with_reducible first|assumption|exact aB _ _|apply Af|apply An))).mono ?_;rintro e w4 ⟨A8,c8,f8,rfl,r8,b8⟩;obtain⟨A8',c8',e8,-,-,hx8⟩:=As.open_ r8;injection e8 with e81 _ e83;subst e81 e83;obtain⟨ad8,A9,c9,f9,e9,bl9,p9,r9,-⟩:=hx8 k hkl;subst e9;rw[← HD.o,HE4.o]at p9;rw[← HD.o,HE4.o]at r9;have B8:=Below.via (a:=W2) (by repeat(with_reducible first|assumption|exact aB _ _|apply Af|apply An)) b8;have R9:=U r9;have y14:=(HKS.o w4 B8).2;have gb4:wr.heap.size<w4.heap.size:=aE gb B8.size;clear hx8 r8 r9 b8;dsimp only)
          |(go_simp;go_at_call 259;refine(HSUM.o _ w4 _ _ _ R9.o (by repeat(with_reducible first|exact aB _ _|apply Af|apply An)) (by repeat(with_reducible first|assumption|exact aB _ _|apply Af|apply An))).mono ?_;rintro e w5 ⟨A10,c10,f10,rfl,r10,m10,b10⟩;rw[HAL.o]at r10⊢;have B10:=Below.via (a:=W2) (by repeat(with_reducible first|assumption|exact aB _ _|apply Af|apply An)) b10;have y15:=(HKS.o w5 B10).2;have gb5:wr.heap.size<w5.heap.size:=aE gb B10.size;dsimp only))
        all_goals
         have hm10:∀a,a∈f10→a.block≠gO:=fun a ha e => by
          have h1:=m10.from_ a ha;have h2:=B8.size;have h3:w4.heap.size≤a.block:=h1;omega
         have HM10:=U hm10;have R10:=U r10;have BB10:=U (show Below W2.heap.size W2 w5 from B10);clear hm10 m10 r10 b10;go_wp2_with fail
         go_roundw
         case rel => exact⟨j+1,A10,c10,f10,(D3 s1 D,mq),by omega,by go_num,rfl,rfl,HNEW.o.symm,R10.o,HM10.o,HBU.o.trans ((B2.o.trans (BB10.o.mono hsz5)).mono hsz4)⟩
         case measure => simp[intOf];omega
       ·have hd1:decide (s2<mq)=false:=aG qs;have HNEW:=U (show DS (Cb d g) row k B sp (M.take (j+1))=(s1,s2) by rw[HST1.o,aI (fun h => qs h.2)]);clear qr qs;go_wp2_with (first
         |(refine aD rfl 119 _ rfl b o rfl cs _ HRG.o underlying119 rfl HI.o ?_)
         |(refine aW rfl 119 (.tmp 13) (.tmp 51) rfl wr.heap.size 0 cs.toArray rfl rfl HTH.o HI2.o HON.o ?_;rw[HW2.o]))
        go_roundw
        case rel => exact⟨j+1,A,c,f,(s1,s2),by omega,by go_num,rfl,rfl,HNEW.o.symm,Ag.below HRB.o B2.o,HNG.o,HBU.o.trans (B2.o.mono hsz4)⟩
        case measure => simp[intOf];omega
      ·have hk1':(mr ==(row:Int))=false:=by simpa using qr
       have HNEW:=U (show DS (Cb d g) row k B sp (M.take (j+1))=(s1,s2) by rw[HST1.o,aI (fun h => qr h.1)]);clear qr;go_wp2_with (first
        |(refine aD rfl 119 _ rfl b o rfl cs _ HRG.o underlying119 rfl HI.o ?_)
        |(refine aW rfl 119 (.tmp 13) (.tmp 51) rfl wr.heap.size 0 cs.toArray rfl rfl HTH.o HI2.o HON.o ?_;rw[HW2.o]))
       go_roundw
       case rel => exact⟨j+1,A,c,f,(s1,s2),by omega,by go_num,rfl,rfl,HNEW.o.symm,Ag.below HRB.o B2.o,HNG.o,HBU.o.trans (B2.o.mono hsz4)⟩
       case measure => simp[intOf];omega
     ·obtain rfl:j=M.length:=by omega
      have hst:=HST.o;rw[aV]at hst;have hm4:=HMT.o.below HBU.o;have x8:=(HBU.o.cell (p:=⟨gO,k,none⟩) hgl2).trans x7;have fr8:=hm4.free k hkn;have hl4:st.1.length=4:=by rw[hst];exact Du (fun m hm =>(HENC.o m hm).1) H4.o
      have HM4:=U hm4;have HL4:=U hl4;have hX:X[k] =st.1:=by rw[HXK.o,← hst]
      have HXE:=U hX;clear hst hm4 hl4 hX;go_wp2_with fail
      go_roundw
      case rel =>
       have hr4:Ag wr f (.slice A st.1.length c) st.1:=by rw[HL4.o];exact HRB.o
       have hset:=HM4.o.set_ hkn hr4 HNG.o;rw[HL4.o,← HXE.o,← HSTEP.o]at hset;exact⟨k+1,by omega,by go_num,hset,(HWR.o.trans (AD.of_below HBU.o)).setCell (Jc hkn) _⟩
      case measure => simp[intOf];omega
  ·obtain rfl:k=L.length:=by omega
   have hm:=HMT.o;have hst:stF X Bk L.length=X:=by
    have:=stF_all HBL.o;rwa [HWL.o]at this
   rw[hst]at hm;obtain⟨fl,hl⟩:=hm.lists HC5.o.1 HC5.o.2;have HLS:=U hl;clear hm hst hl;go_wp2_with fail
   go_ret
   exact⟨some ⟨gO,0,none⟩,c5,fl,by rw[HWL.o];rfl,by rw[HWL.o];exact HLS.o,HB3.o⟩
theorem willBe_c(p:Nat)(fs:List Addr)(d:Am)(g row:Nat)(w:World)(h:AtW w p fs d)(hsm:(CZ d).length≤1000000)(hP:Jn d g row (Cm d.s.g (AN d) (g:Int))) :
  Calls prog 188 #[.pointer (some ⟨p,0,none⟩),int i64 (g:Int),int i64 (row:Int)] w (FC (CL d (Cm d.s.g (AN d) (g:Int)) g row) w) :=
 willBe_k 9 rfl sizeOf119 isAgg119 p fs d g row w h hsm hP
def Di(d:Am)(g row:Nat):Option (List UInt8) :=
 match Ef d.s.g (AN d) (g:Int) (row:Int)with
 |some m => some m.data
 |none => Dh d.s.data.toNat (if(g:Int)<d.s.g then Bq d g row else CL d (Cm d.s.g (AN d) (g:Int)) g row)
theorem Io {d:Am} {g row:Nat} {m:Ah}(h:Ef d.s.g (AN d) (g:Int) (row:Int)=some m):Di d g row=some m.data:=by unfold Di;rw[h]
theorem Gk {d:Am} {g row:Nat}(h:Ef d.s.g (AN d) (g:Int) (row:Int)=none)(hg:(g:Int)<d.s.g):Di d g row=Dh d.s.data.toNat (Bq d g row):=by unfold Di;rw[h,aL hg]
theorem GT {d:Am} {g row:Nat}(h:Ef d.s.g (AN d) (g:Int) (row:Int)=none)(hg:¬(g:Int)<d.s.g):Di d g row=Dh d.s.data.toNat (CL d (Cm d.s.g (AN d) (g:Int)) g row):=by unfold Di;rw[h,aI hg]
structure BR (d:Am):Prop where
 ok:d.s.sh.Ok
 gl:(d.g.length:Int)=d.s.g+d.s.c
 dl:∀g,g<d.g.length→((AJ d g).length:Int)=d.s.data+d.s.p
 bl:∀g,g<d.g.length→∀dr,dr∈AJ d g→(dr.blocks.length:Int)=d.s.rows
 b4:∀g,g<d.g.length→∀dr,dr∈AJ d g→∀b,b∈dr.blocks→b.bytes.length=4
 tp:d.v.length=2
 sm:(CZ d).length≤1000000
 mv:∀m,m∈CZ d→m.kind=2→0≤m.group∧m.group<d.s.g∧(m.data.length:Int)=4 * d.s.data∧(m.delta.length:Int)=4 * d.s.data
theorem insF_mem {out:List Ah} {r x:Ah}:x∈Ln out r↔x∈out∨x=r:=by
 have h:=List.takeWhile_append_dropWhile (p:=Bf r) (l:=out.reverse);unfold Ln;simp only[bV,List.mem_reverse,List.mem_cons];constructor
 ·rintro(h1|h1|h1)
  ·exact .inl (List.mem_reverse.1 (h ▸ aT _ h1))
  ·exact .inr h1
  ·exact .inl (List.mem_reverse.1 (h ▸ aX _ h1))
 ·rintro(h1|h1)
  ·have:=List.mem_reverse.2 h1;rw[← h]at this;rcases List.mem_append.1 this with h2|h2
   ·exact .inr (.inr h2)
   ·exact .inl h2
  ·exact .inr (.inl h1)
theorem EC:∀(n:Nat) (l:List Ah),l.length=n→∀x,x∈BF l→x∈l
 |0,l,hl,x,h => by
  obtain rfl:=bT hl;exact h
 |n+1,l,hl,x,h => by
  obtain⟨l',r,rfl⟩:∃l' r,l=l' ++ [r]:=⟨l.dropLast,l.getLast (by intro e;rw[e]at hl;simp at hl),(List.dropLast_concat_getLast _).symm⟩;rw[bC]at hl;rw[Hc]at h;unfold Jw at h;split at h
  ·exact aX _ (EC n l' (by simpa using hl) x h)
  ·rcases insF_mem.1 h with h|h
   ·exact aX _ (EC n l' (by simpa using hl) x h)
   ·rw[h];simp
theorem NI {groups:Int} {all:List Ah} {g:Int} {m:Ah}(h:m∈Cm groups all g):m∈all∧m.kind=2:=by
 unfold Cm at h;obtain⟨h1,h2⟩:=List.mem_filter.1 h;unfold Co at h2;simp only[Bool.and_eq_true,bN]at h2;exact⟨h1,h2.1⟩
theorem Np {groups:Int} {all:List Ah} {g row:Int} {m:Ah}(h:Ef groups all g row=some m):m∈all∧m.kind=2:=by
 unfold Ef at h;split at h
 ·unfold EW at h;have:=List.mem_of_find?_eq_some h;exact NI (List.mem_reverse.1 this)
 ·cases h
theorem BR.row {d:Am}(h:BR d) {g row:Nat}(hg:g<d.g.length)(hr:(row:Int)<d.s.rows):(∀dr,dr∈AJ d g→row<dr.blocks.length)∧(∀dr,dr∈AJ d g→(Cg dr row).bytes.length =4):=by
 have h1:∀dr,dr∈AJ d g→row<dr.blocks.length:=fun dr hd => by have:=h.bl g hg dr hd;omega
 exact⟨h1,fun dr hd => by rw[LG (h1 dr hd)];exact h.b4 g hg dr hd _ (aN _)⟩
theorem BR.par {d:Am}(h:BR d) {g row:Nat}(hg:g<d.g.length)(hg1:d.s.g≤g)(hr:(row:Int)<d.s.rows):Jn d g row (Cm d.s.g (AN d) (g:Int)) :=
 ⟨h.ok,hg,hg1,by have:=h.gl;omega,(h.row hg hr).1,(h.row hg hr).2,h.dl g hg,fun m hm => by
  obtain⟨h1,h2⟩:=NI hm;obtain⟨q1,q2,q3,q4⟩:=h.mv m (EC _ _ rfl m h1) h2;exact⟨q1,q2,q4⟩⟩
theorem BR.blocks4 {d:Am}(h:BR d) {g row:Nat}(hg:g<d.g.length)(hr:(row:Int)<d.s.rows):De (Bq d g row) 4:=fun l hl => by
 obtain⟨dr,hd,rfl⟩:=List.mem_map.1 hl;unfold CV;split
 ·exact .inl rfl
 ·exact .inr ((h.row hg hr).2 dr hd)
theorem BR.will4 {d:Am}(h:BR d) {g row:Nat}(hg:g<d.g.length)(hg1:d.s.g≤g)(hr:(row:Int)<d.s.rows):De (CL d (Cm d.s.g (AN d) (g:Int)) g row) 4:=fun l hl => by
 obtain⟨k,hk,rfl⟩:=aY hl;unfold CL at hk⊢;rw[Cu]at hk;rw[F5 _ _ _ _ hk];unfold Gt;split
 ·exact .inl rfl
 ·exact .inr (Du (fun m hm =>((h.par hg hg1 hr).enc hk m hm).1) ((h.row hg hr).2 _ (aN hk)))
