/- Part 30 of the proof. -/
import Derived.Test.YtfjkoifpdoemdaaGreatJ27
import Derived.Test.YtfjkoifpdoemdaaGreatJ29
set_option maxHeartbeats 8000000
set_option maxRecDepth 100000
set_option linter.unusedVariables false
set_option linter.unusedSimpArgs false
open Go.Proofs.Tryz
open Go.Value (int)
open Go.IntKind (i64)
namespace Go.Proofs.YtfjkoifpdoemdaaGreat
open Go.RowKit Go.Lib Go.Sort
theorem Ag.cut {w:World} {base n c xl:Nat} {A:Option Addr} {L:List UInt8} {gs:List Addr}(r1:Ag w gs (.slice A n c) L)(r2:Aw base w gs)(hx:xl≤L.length):∃fs,Ag w fs (.slice A xl c) (L.take xl)∧Aw base w fs:=by
 obtain⟨g1,g2,s1,-,s3⟩:=rSl.split r1 hx;refine⟨g1,s1,Ag.mine (v:=.slice A xl c) s1 fun a ha => ?_⟩;have hm:a∈gs:=s3.subset (aX _ ha);exact⟨r2.from_ a hm,r2.free a hm⟩
theorem Qz(ks:Nat)(hks:ks=9)(zS:∀w,(Go.sizeOf 31).run prog w= .ok ks w)(aS:∀w,(isAgg 31).run prog w= .ok true w)(p:Nat)(fs:List Addr)(d:Am)(va:Value)(fa:List Addr)(x:Ah)(cs:List Value)(f:List Addr)(w:World)
  (h:AtW w p fs d) (ha:rSl 9 Ac w fa va (AN d)) (hx:Ac w f cs x) (hT:BR d) (hI:FV d x) :
  Calls prog 71 #[.pointer (some ⟨p,0,none⟩),va,.agg cs.toArray] w (G4 (Dk d x) w):=by
 obtain⟨Aa,ca,rfl,-⟩:=rSl.head ha;obtain⟨na,hna⟩:∃na,(AN d).length =na:=⟨_,rfl⟩;rw[hna]at ha⊢;dsimp only[Ac]at hx;obtain⟨v0,v1,v2,f0,f1,f2,e,-,-,-,-,-,-,-,r0,r1,r2⟩:=hx;subst e;obtain⟨A0,c0,rfl,-,-,hx0⟩:=AO.open_ r0;have HX0:=U hx0;clear hx0;obtain⟨A1,c1,rfl,-⟩:=rSl.head r1;obtain⟨A2,c2,rfl,-⟩:=rSl.head r2;obtain⟨nR,hnR⟩:∃nR,x.rows.length=nR:=⟨_,rfl⟩;obtain⟨nD,hnD⟩:∃nD,x.data.length=nD:=⟨_,rfl⟩;rw[hnR]at r0;rw[hnD]at r1;have HNR:=U hnR;have HND:=U hnD;obtain⟨nE,hnE⟩:∃nE,x.delta.length=nE:=⟨_,rfl⟩;rw[hnE]at r2;rw[hnR,hnD,hnE];obtain⟨W1,hW1⟩:∃W1,w.alloc (.cells #[int i64 x.kind,int i64 x.seq,.string x.name,int i64 x.length,int i64 x.group,int i64 x.row,.slice A0 nR c0,.slice A1 nD c1,.slice A2 nE c2] 119)=W1:=⟨_,rfl⟩;have hB1:Below w.heap.size w W1:=by rw[← hW1];exact(aB _ _).alloc (aC _) _
 have K1:Blk W1 w.heap.size 119 #[int i64 x.kind,int i64 x.seq,.string x.name,int i64 x.length,int i64 x.group,int i64 x.row,.slice A0 nR c0,.slice A1 nD c1,.slice A2 nE c2]:=by rw[← hW1];exact Blk.new w _ _
 have z1:W1.heap.size=w.heap.size+1:=by rw[← hW1];simp
 have HB1:=U hB1;have HA1:=U (h.below hB1);have HK1:=U K1;have HT:=U hT;have HI:=U hI;have hnl:=hI.dl;rw[hnD]at hnl;have p2:W1.cell? ⟨w.heap.size,2,none⟩=some (.string x.name):=(K1.cell 2).trans rfl;have p3:W1.cell? ⟨w.heap.size,3,none⟩=some (int i64 x.length):=(K1.cell 3).trans rfl;have p6:W1.cell? ⟨w.heap.size,6,none⟩=some (.slice A0 nR c0):=(K1.cell 6).trans rfl;have p7:W1.cell? ⟨w.heap.size,7,none⟩=some (.slice A1 nD c1):=(K1.cell 7).trans rfl;have lw:w.heap.size<W1.heap.size:=by omega
 have HZ1:=U z1;by_cases q:0<nD
 ·have e1:Dk d x=some x.data:=by unfold Dk;rw[hnD,aL q]
  rw[e1];have HFR:=U (O7 (P:=prog) (w:=W1) 39 39 5 underlying39 Tryz.info5 (v:=.slice A1 nD c1) (bs:=x.data) (rSl.below Ai.local_ Ai.fixed r1 hB1) (by rw[hnD];omega));have qi:(0:Int)<(nD:Int):=by omega
  have p7':(W1.alloc (.cells #[] 5)).cell? ⟨w.heap.size,7,none⟩=some (.slice A1 nD c1):=((aB W1.heap.size W1).alloc (aC _) _|>.cell (p:=⟨w.heap.size,7,none⟩) lw).trans p7;clear r0 r1 r2 hB1 K1 z1 h hT hI e1 hnR hnD hnE ha hna;go_enter func71,ntmps71
  go_wp2_with (at_builtin;refine Ar rfl (.tmp 16) (.tmp 18) 39 rfl _ _ (by rfl) (by rfl) HFR.o ?_;rintro v8 w8 ⟨fs8,r8,m8,b8⟩;obtain⟨A8,c8,rfl,-⟩:=rSl.head r8;have R8:=U r8;have M8:=U m8;have B8:=U b8;clear r8 m8 b8)
  go_ret2
  exact .inl ⟨_,A8,c8,fs8,rfl,rfl,R8.o,M8.o.mono (by have:=HZ1.o;omega),HB1.o.trans (B8.o.mono HB1.o.size)⟩
 ·obtain⟨gh,hgh⟩:∃gh:Nat,EV d.s.g x.name=(gh:Int):=⟨(EV d.s.g x.name).toNat,by have:=GC (nm:=x.name) (show 0<d.s.g from by have:=hT.ok.g.1;simp only[AX.sh]at this;omega);omega⟩;have hin:=GC (nm:=x.name) (show 0<d.s.g from by have:=hT.ok.g.1;simp only[AX.sh]at this;omega);have hgg:gh<d.g.length:=by have h1:=hT.gl;have h2:=hT.ok.c.1;simp only[AX.sh]at h2;omega
  have e1:Dk d x=(irF d gh x.rows nR).map fun L => L.take x.length.toNat:=by unfold Dk;rw[hnD,aI q,hnR,hgh,Int.toNat_natCast]
  rw[e1];have hl:=hI.ln (by omega);rw[hnR]at hl;have hrl:=hI.rl;rw[hnR]at hrl;have hdd:=hT.ok.data;simp only[AX.sh]at hdd;have hd3:d.s.data≤3:=by have:=hdd.2;omega
  have hlx:x.length≤1000:=by
   have h1:((nR:Int) * (4 * d.s.data))≤6 * (4 * 3):=Int.mul_le_mul (by omega) (by omega) (by omega) (by omega);omega
  have HLEN:=U (Gn hT (rows:=x.rows) hgg hI.rw_);have hsm:∀k,k≤nR→k * (4 * d.s.data.toNat)≤100:=fun k hk => by
   have h1:k * (4 * d.s.data.toNat)≤6 * (4 * 3):=Nat.mul_le_mul (by omega) (by omega);omega
  have HSM:=U hsm;have HLN:=U (show x.length.toNat≤nR * (4 * d.s.data.toNat)from by
   have:((nR * (4 * d.s.data.toNat):Nat):Int)=(nR:Int) * (4 * d.s.data):=by
    rw[Int.natCast_mul,Int.natCast_mul,Int.toNat_of_nonneg (by omega)];rfl
   omega)
  have HFT:=U (rSl.there Ac.fixed ha);have HTR:=U (fun(W:World) (hW:Below w.heap.size w W) (m:Nat) (hm:(m:Int)<d.s.rows) => QE p fs d (.slice Aa na ca) fa gh m W (h.below hW) (rSl.below Ac.local_ Ac.fixed ha hW) hT hgg hm);have hho:=fun W => l4Home_c d.s.sh hT.ok x.name hI.nm W
  unfold shV at hho;simp only[AX.sh]at hho;rw[hgh]at hho;have HHO:=U hho;have HKS:=U (show∀W,Below W1.heap.size W1 W→(Sem.run prog (loadCellsFrom ⟨p,0,none⟩ 0 ks #[]) W= .ok #[int i64 d.s.g,int i64 d.s.c,int i64 d.s.data,int i64 d.s.p,int i64 d.s.rows,int i64 d.s.cap,int i64 d.s.b,int i64 d.s.q,int i64 d.s.t] W∧W.cell? ⟨w.heap.size,2,none⟩=some (.string x.name)∧W.cell? ⟨w.heap.size,6,none⟩=some (.slice A0 nR c0))from fun W hW => by
   obtain⟨A0',A1',A2',c0',c1',c2',f0',f1',f2',HC⟩:=(HA1.o.below hW).cells;exact⟨HC.shapeRun ks hks,(hW.cell (p:=⟨w.heap.size,2,none⟩) lw).trans p2,(hW.cell (p:=⟨w.heap.size,6,none⟩) lw).trans p6⟩)
  have HRW:=U hI.rw_;have HE:=U (Aj.emptyL (w:=W1));have hks0:¬ks=0:=by omega
  have hks1:0<ks:=by omega
  have hq:¬(0:Int)<(nD:Int):=by omega
  have hln0:=hl.1;have hpn:p<w.heap.size:=by obtain⟨_,_,_,_,_,_,_,_,_,HC⟩:=h.cells;exact HC.lt
  clear r0 r1 r2 hB1 K1 z1 h hT hI e1 hnR hnD hnE hin hgg hl hsm hho hgh hks ha hna;go_enter func71,ntmps71
  go_wp2_with fail
  try rw[hW1]
  clear hW1;go_wp2_with fail
  go_loopw [9,8,10,11] (fun i o _ _ wr =>∃(k:Nat) (A:Option Addr) (c3:Nat) (Ls:List (List UInt8)) (fo:List Addr),k≤nR∧i= int i64 k∧o= .slice A k c3∧Hid (k=Ls.length)∧Hid (irF d gh x.rows k=some Ls.flatten)∧Hid (Aj 1 39 (Al 1 Ai) wr W1.heap.size o Ls fo)∧Hid (Below W1.heap.size W1 wr)) (fun i _ _ _ _ => nR - (intOf i).toNat)
  case atStart => exact⟨0,_,0,[],[],by omega,rfl,rfl,rfl,rfl,HE.o,(aB _ _).alloc (aC _) _⟩
  case round =>
   obtain⟨k,A,c3,Ls,fo,hk,rfl,rfl,HK,HL,HO,HB⟩:=hrel;clear HE;have hbs:=HB.o.size;have HBW:=U (show Below w.heap.size w wr from HB1.o.trans (HB.o.mono HB1.o.size));have p6':=(HB.o.cell (p:=⟨w.heap.size,6,none⟩) lw).trans p6;by_cases hkn:k<nR
   ·have hkr:k<x.rows.length:=by rw[HNR.o];exact hkn
    have hki:(k:Int)<(nR:Int):=by omega
    obtain⟨ad,eA,-,b1,pc,-⟩:=HX0.o k hkr;subst eA;have hrw:=HRW.o _ (aN hkr);obtain⟨m,hm⟩:∃m:Nat,x.rows[k] =(m:Int):=⟨x.rows[k].toNat,by omega⟩;have pk0:=pc;rw[hm]at pk0 hrw;have HML:=U hrw.2;have HKS2:=U (show∀W,Below wr.heap.size wr W→(Sem.run prog (loadCellsFrom ⟨p,0,none⟩ 0 ks #[]) W= .ok #[int i64 d.s.g,int i64 d.s.c,int i64 d.s.data,int i64 d.s.p,int i64 d.s.rows,int i64 d.s.cap,int i64 d.s.b,int i64 d.s.q,int i64 d.s.t] W∧W.cell? ⟨w.heap.size,2,none⟩=some (.string x.name)∧W.cell? ⟨w.heap.size,6,none⟩=some (.slice (some ad) nR c0)∧W.cell? (ad.add k)=some (int i64 (m:Int)))from fun W hW => by
     obtain⟨h1,h2,h3⟩:=HKS.o W (HB.o.trans (hW.mono hbs));exact⟨h1,h2,h3,((HBW.o.trans (hW.mono HBW.o.size)).cell (p:=ad.add k) b1).trans pk0⟩)
    obtain⟨q0,q2,q6,q7⟩:=HKS2.o wr (aB _ _);have hpw:p<wr.heap.size:=by omega
    have hpp:¬p=w.heap.size:=by omega
    cases hrf:Ew d gh m with
    |some D =>
     have hl2:=MV HL.o hkr (b:=D) (by rw[hm,Int.toNat_natCast];exact hrf);have HL2:=U (show irF d gh x.rows (k+1)=some (Ls ++ [D]).flatten from by rw[hl2];simp);have HT2:=U (fun(W:World) (hW:Below wr.heap.size wr W) =>(HTR.o W (HBW.o.trans (hW.mono HBW.o.size)) m HML.o).mono (R':=fun e w' =>∃A c fs,e= .returned (.tuple #[.slice A D.length c,.bool true])∧Ag w' fs (.slice A D.length c) D∧(∀a,a∈fs→a∈fa∨W.heap.size≤a.block)∧Below W.heap.size W w') (by
      intro e w' hq;rw[hrf]at hq;rcases hq with⟨D',A,c,fs,e1,h2,h3,h4,h5⟩|⟨e1,-⟩
      ·injection e1 with e1;subst e1;exact⟨A,c,fs,h2,h3,h4,h5⟩
      ·cases e1))
     clear hrf pc hrw hm hkr hl2;go_wp2_with fail
     go_region_held3 (fun W => Sem.run prog (loadCellsFrom ⟨p,0,none⟩ 0 ks #[]) W= .ok #[int i64 d.s.g,int i64 d.s.c,int i64 d.s.data,int i64 d.s.p,int i64 d.s.rows,int i64 d.s.cap,int i64 d.s.b,int i64 d.s.q,int i64 d.s.t] W∧W.cell? ⟨w.heap.size,2,none⟩=some (.string x.name)∧W.cell? ⟨w.heap.size,6,none⟩=some (.slice (some ad) nR c0)∧W.cell? (ad.add k)=some (int i64 (m:Int)))
      (exact HKS2.o _ (by repeat(with_reducible first|assumption|exact aB _ _|apply Af|apply An)))
      (first
       |(go_at_call 133;refine(HHO.o _).mono ?_;rintro e w2 ⟨rfl,b2⟩;have B2:=Below.via (a:=wr) (by repeat(with_reducible first|assumption|exact aB _ _|apply Af|apply An)) b2)
       |(go_at_call 38;refine(HT2.o _ (by repeat(with_reducible first|assumption|exact aB _ _|apply Af|apply An))).mono ?_;rintro e w3 ⟨A6,c6,f6,rfl,r6,m6,b6⟩;have B3:=Below.via (a:=wr) (by repeat(with_reducible first|assumption|exact aB _ _|apply Af|apply An)) b6))
     have HAP:=U (Tryz.addAny (wr:=wr) (W:=w3.alloc (.cells #[.slice A6 D.length c6] 39)) (b:=w3.heap.size) (ve:=.slice A6 D.length c6) (f:=f6) (L:=D) HO.o hbs (by rw[← HK.o];omega) (Af B3 _) (Blk.new _ _ _) (r6.below (Af (aB _ _) _)) (fun a ha => by
      rcases m6 a ha with h1|h1
      ·left;have:=HFT.o a h1;omega
      ·right;have h2:=B2.size;first|omega|(simp at h1;omega)))
     rw[← HK.o]at HAP;have HB3:=U B3;clear r6 m6 b6 B3 q0 q2 q6 q7 pk0 p6';go_wp2_with (at_builtin;refine Ar rfl (.tmp 48) (.tmp 50) 83 rfl _ _ (by rfl) (by rfl) HAP.o ?_;rintro v8 w8 ⟨A8,c8,h8,rfl,o8,b8,e8,s8⟩;have O8:=U o8;have B8:=U b8;clear o8 b8 s8)
     go_roundw
     case rel => exact⟨k+1,A8,c8,Ls ++ [D],_,by omega,by go_num,rfl,(show k+1=_ by rw[bC,← HK.o];rfl),HL2.o,O8.o,HB.o.trans B8.o⟩
     case measure => simp[intOf];omega
    |none =>
     have HNO:=U (show irF d gh x.rows nR=none from by
      have h1:=MT (MU (g:=gh) hkr (by rw[hm,Int.toNat_natCast];exact hrf)) (nR - (k+1));rw[show k+1+(nR - (k+1))=nR from by omega]at h1;exact h1)
     have HT2:=U (fun(W:World) (hW:Below wr.heap.size wr W) =>(HTR.o W (HBW.o.trans (hW.mono HBW.o.size)) m HML.o).mono (R':=fun e w' => e= .returned (.tuple #[.slice none 0 0,.bool false])∧Below W.heap.size W w') (by
      intro e w' hq;rw[hrf]at hq;rcases hq with⟨D',A,c,fs,e1,-⟩|⟨e1,h2,h3⟩
      ·cases e1
      ·exact⟨h2,h3⟩))
     clear hrf pc hrw hm hkr;go_wp2_with fail
     go_region_held3 (fun W => Sem.run prog (loadCellsFrom ⟨p,0,none⟩ 0 ks #[]) W= .ok #[int i64 d.s.g,int i64 d.s.c,int i64 d.s.data,int i64 d.s.p,int i64 d.s.rows,int i64 d.s.cap,int i64 d.s.b,int i64 d.s.q,int i64 d.s.t] W∧W.cell? ⟨w.heap.size,2,none⟩=some (.string x.name)∧W.cell? ⟨w.heap.size,6,none⟩=some (.slice (some ad) nR c0)∧W.cell? (ad.add k)=some (int i64 (m:Int)))
      (exact HKS2.o _ (by repeat(with_reducible first|assumption|exact aB _ _|apply Af|apply An)))
      (first
       |(go_at_call 133;refine(HHO.o _).mono ?_;rintro e w2 ⟨rfl,b2⟩;have B2:=Below.via (a:=wr) (by repeat(with_reducible first|assumption|exact aB _ _|apply Af|apply An)) b2)
       |(go_at_call 38;refine(HT2.o _ (by repeat(with_reducible first|assumption|exact aB _ _|apply Af|apply An))).mono ?_;rintro e w3 ⟨rfl,b6⟩;have B3:=Below.via (a:=wr) (by repeat(with_reducible first|assumption|exact aB _ _|apply Af|apply An)) b6))
     have HB3:=U B3;clear b6 B3 q0 q2 q6 q7 pk0 p6';go_wp2_with fail
     go_ret2
     exact .inr ⟨by rw[HNO.o];rfl,rfl,HBW.o.trans (HB3.o.mono HBW.o.size)⟩
   ·obtain rfl:k=nR:=by omega
    have hll:=HLEN.o k (by rw[HNR.o];omega) _ HL.o;have hs2:=HSM.o k (aC _);have hln:=HLN.o;obtain⟨xl,hxl⟩:∃xl:Nat,x.length=(xl:Int):=⟨x.length.toNat,by omega⟩;rw[hxl,Int.toNat_natCast]at hln;rw[hxl]at p3;obtain⟨gs,r8,-⟩:=HO.o.reads;have R8:=U r8;have HXL:=U hxl;have HLL:=U hll;have HJ:=U (fun(W:World) (hW:Below wr.heap.size wr W) => l2Join_c (.slice A k c3) Ls (gs ++ fo) W (rSl.below As.loc As.fix R8.o hW) (by rw[HLL.o];omega));have hxL:xl≤Ls.flatten.length:=by rw[hll];exact hln
    have HXLL:=U hxL;have HP3:=U (show∀W,Below wr.heap.size wr W→W.cell? ⟨w.heap.size,3,none⟩=some (int i64 (xl:Int))from fun W hW =>((HB.o.trans (hW.mono hbs)).cell (p:=⟨w.heap.size,3,none⟩) lw).trans p3);have q3:=HP3.o wr (aB _ _);obtain⟨FF,hFF⟩:∃FF,Ls.flatten=FF:=⟨_,rfl⟩;rw[hFF]at HJ hxL HXLL;have HFF:=U hFF;clear hll hln hxl r8 hln0 p3 hs2 hFF;go_wp2_with fail
    go_region_held3 (fun W => W.cell? ⟨w.heap.size,3,none⟩=some (int i64 (xl:Int)))
     (exact HP3.o _ (by repeat(with_reducible first|assumption|exact aB _ _|apply Af|apply An)))
     (first|(go_at_call 134;refine(HJ.o _ (by repeat(with_reducible first|assumption|exact aB _ _|apply Af|apply An))).mono ?_;rintro e w2 ⟨A8,c8,f8,rfl,r8,m8,b8⟩;have hc8:=(rSl.bounds r8).2;have hx8:xl≤c8:=(by omega);have B2:=Below.via (a:=wr) (by repeat(with_reducible first|assumption|exact aB _ _|apply Af|apply An)) b8))
    have hz1:=HZ1.o;have hsz8:=m8;obtain⟨gs8,r9,m9⟩:=Ag.cut (xl:=xl) r8 m8 HXLL.o;have R9:=U r9;have M9:=U (show Aw w.heap.size w2 gs8 from m9.mono (by first|omega|(simp;omega)));have HB2:=U B2;have hlt2:(FF.take xl).length =xl:=by rw[aQ];omega
    have HLT:=U hlt2;clear r8 m8 b8 r9 m9 B2 hlt2 hsz8;go_wp2_with fail
    go_ret2
    exact .inl ⟨FF.take xl,A8,c8,gs8,by rw[HL.o,HXL.o,HFF.o];rfl,by rw[HLT.o];rfl,by rw[HLT.o];exact R9.o,M9.o,HBW.o.trans (HB2.o.mono HBW.o.size)⟩
theorem Qy(p:Nat)(fs:List Addr)(d:Am)(va:Value)(fa:List Addr)(x:Ah)(cs:List Value)(f:List Addr)(w:World)
  (h:AtW w p fs d) (ha:rSl 9 Ac w fa va (AN d)) (hx:Ac w f cs x) (hT:BR d) (hI:FV d x) :
  Calls prog 71 #[.pointer (some ⟨p,0,none⟩),va,.agg cs.toArray] w (G4 (Dk d x) w) :=
 Qz 9 rfl sizeOf31 isAgg31 p fs d va fa x cs f w h ha hx hT hI
