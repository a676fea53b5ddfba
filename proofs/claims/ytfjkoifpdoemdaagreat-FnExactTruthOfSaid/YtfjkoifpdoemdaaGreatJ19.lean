/- Part 19 of the proof. -/
import Derived.Test.YtfjkoifpdoemdaaGreatJ18
import Derived.Test.YtfjkoifpdoemdaaGreatJ10
import Derived.Sort.QuietIn
import Derived.Maps.AppendAt
import Derived.Test.YtfjkoifpdoemdaaGreatJ12
import Derived.Test.YtfjkoifpdoemdaaGreatJ11
set_option maxHeartbeats 8000000
set_option maxRecDepth 100000
set_option linter.unusedVariables false
set_option linter.unusedSimpArgs false
open Go.Proofs.Tryz
open Go.Value (int)
open Go.IntKind (i64)
namespace Go.Proofs.YtfjkoifpdoemdaaGreat
open Go.RowKit Go.Sort
theorem l3Even_c(v:Value)(ls:List (List UInt8))(m:Nat)(f:List Addr)(w:World)(h:As w f v ls)(hl:∀l,l∈ls→l.length=m) :
  Calls prog 91 #[v] w fun e w' => e= .returned (.bool true)∧Below w.heap.size w w':=by
 obtain⟨A1,c1,rfl,hc1,hm1,hx⟩:=As.open_ h;have HX:=U hx;have HL:=U hl;clear h hx hl;go_enter func91,ntmps91
 go_wp2_with fail
 go_loopw [3] (fun i wr =>∃j:Nat,j≤ls.length∧i= int i64 j∧Below w.heap.size w wr) (fun i _ => ls.length - (intOf i).toNat)
 case atStart => exact⟨0,by omega,rfl,aB _ _⟩
 case round =>
  obtain⟨j,hj,rfl,hb⟩:=hrel;by_cases hlt:j<ls.length
  ·obtain⟨ad,A2,c2,fk,e1,b1,p1,-⟩:=HX.o j hlt;obtain⟨ad0,A3,c3,fk3,e3,b3,p3,-⟩:=HX.o 0 (by omega);subst e1;injection e3 with e3
   subst e3;rw[HL.o _ (aN _)]at p1 p3;have p1':=(hb.cell (p:=ad.add j) b1).trans p1;have p3':=(hb.cell (p:=ad.add 0) b3).trans p3;have e0:ad.add 0=ad:=by simp[Addr.add]
   rw[e0]at p3';have hpos:(0:Int)<(ls.length:Int):=by omega
   have hne:(((m:Int) !=(m:Int)):Bool)=false:=by simp
   clear p1 p3;go_wp2_with fail
   go_quiet (fail)
   go_wp2_with fail
   go_roundw
   case rel => exact⟨j+1,by omega,by go_num,AM hb _⟩
   case measure => simp[intOf];omega
  ·obtain rfl:j=ls.length:=by omega
   go_wp2_with fail
   go_ret
   exact⟨rfl,hb⟩
theorem JT {bl:List (List UInt8)} {n:Nat}:AI n bl bl.length=(Bp bl bl.length).take n:=rfl
theorem Gl(bl:List (List UInt8)):Bp bl 0= []:=by simp[Bp]
theorem MR(bl:List (List UInt8))(j:Nat):(Bp bl j).length≤j:=by
 have:=List.length_filter_le (fun i => decide (0<(bl.getD i []).length)) (List.range j);simpa [Bp]using this
theorem hvAll_eq(bl:List (List UInt8))(j:Nat):AI j bl j=Bp bl j:=by
 unfold AI;exact bK (MR bl j)
theorem msOfAll {m:Nat} {bl:List (List UInt8)} {j:Nat}(h:De bl m):∀l,l∈BK bl (Bp bl j)→l.length=m:=by
 rw[← hvAll_eq];exact Fb h
def OptR(L?:Option (List (List UInt8)))(w:World)(e:Ending)(w':World):Prop :=
 (∃L A c fs,L? =some L∧e= .returned (.agg #[int i64 0,.slice A L.length c])∧As w' fs (.slice A L.length c) L∧Aw w.heap.size w' fs∧Below w.heap.size w w')∨(L? =none∧e= .returned (.agg #[int i64 10,.slice none 0 0])∧Below w.heap.size w w')
theorem Lf(n s:Nat)(v:Value)(bl:List (List UInt8))(f:List Addr)(w:World)(m:Nat)(h:As w f v bl)(h1:1≤n)(h3:n≤4)(hs2:s≤2)(hb:bl.length=n+s)(hO:De bl m)(hm:m≤1000) :
  Calls prog 89 #[int i64 (n:Int),int i64 (s:Int),v] w (OptR (EQ m n s bl) w):=by
 obtain⟨A1,c1,rfl,hc1,hm1,hx⟩:=As.open_ h;have HX:=U hx;have HO:=U hO;clear h hx hO;have hl3:l3B (n:Int) (s:Int)=true:=by unfold l3B;rw[Fo (by omega) (by omega),Fo (by omega) (by omega)];rfl
 have HSH:=U (fun W => LQ (n:Int) (s:Int) W);rw[hl3]at HSH;have hsum:(bl.length:Int)=(n:Int)+(s:Int):=by omega
 clear hl3;go_enter func89,ntmps89
 go_wp2_with (go_at_call 90;refine(HSH.o _).mono ?_;rintro e w' ⟨rfl,rfl⟩)
 have hP:=CG.start (lo:=w.heap.size+1) ((Blk.new1 w (.cells #[int i64 0,.slice none 0 0] 144) 2 #[]).alloc (.cells #[] 39)) (Blk.new2 w (.cells #[int i64 0,.slice none 0 0] 144) (.cells #[] 2) 39 #[]) (aC _) (by omega) (by omega);have hBx:=((Blk.new w 144 #[int i64 0,.slice none 0 0]).alloc (.cells #[] 2)).alloc (.cells #[] 39);have hB0:=Af (Af (Af (aB w.heap.size w) (.cells #[int i64 0,.slice none 0 0] 144)) (.cells #[] 2)) (.cells #[] 39);have HP:=U hP;have HBx:=U hBx;have HB0:=U hB0;obtain⟨g,hg⟩:∃g,w.heap.size=g:=⟨_,rfl⟩;rw[hg]at HP HBx HB0⊢;have HG:=U hg;clear hP hBx hB0 hg;go_loopw [7,8,9] (fun v6 v7 i wr =>∃(j:Nat) (A6:Option Addr) (c6:Nat) (A7:Option Addr) (c7:Nat) (fs:List Addr),j≤bl.length∧i= int i64 j∧v6= .slice A6 (Bp bl j).length c6∧v7= .slice A7 (Bp bl j).length c7∧CG wr (g+1) v6 v7 (Bp bl j) (BK bl (Bp bl j)) fs∧Blk wr g 144 #[int i64 0,.slice none 0 0]∧Below g w wr∧g+1≤wr.heap.size) (fun _ _ i _ => bl.length - (intOf i).toNat)
 case atStart =>
  refine⟨0,_,_,_,_,[],by omega,rfl,by rw[Gl];rfl,by rw[Gl];rfl,?_,HBx.o,HB0.o,by have:=HG.o;simp;omega⟩;rw[Gl];exact HP.o
 case round =>
  obtain⟨j,A6,c6,A7,c7,fs,hj,rfl,rfl,rfl,hp,hx,hbw,hsz⟩:=hrel;have hle:=MR bl j;have HPK:=U hp;have HBW:=U hbw;have HXB:=U hx;clear hp hbw hx;by_cases hlt:j<bl.length
  ·obtain⟨ad,A2,c2,fk,e1,b1,p1,r1,t1,s1,-⟩:=HX.o j hlt;subst e1;rw[HG.o]at b1;have p1':=(HBW.o.cell (p:=ad.add j) b1).trans p1;have hgd:bl.getD j [] =bl[j]:=by simp[aJ,hlt]
   have HR1:=U (show∀W,Below g w W→Ag W fk (.slice A2 bl[j].length c2) bl[j]from fun W hW => rSl.keep Ai.local_ r1 (AQ.of_below (fun a ha => by have:=t1 a ha;rw[HG.o]at this;exact this) hW));have HT1:=U (show∀a,a∈fk→a.block<g+1 from fun a ha => by have:=t1 a ha;rw[HG.o]at this;omega);clear p1 r1 t1 s1;by_cases hz:0<bl[j].length
   ·have hz1:(0:Int)<(bl[j].length:Int):=by omega
    have HST:=U (show Bp bl (j+1)=Bp bl j ++ [j]from by rw[Fn,hgd,aL hz]);have HGD:=U hgd;clear hgd;obtain⟨bj,hbj⟩:∃bj,bl[j] =bj:=⟨_,rfl⟩;rw[hbj]at HGD HR1 p1' hz1 hz;clear hbj;go_wp2_with (first
     |(at_builtin;refine Ar rfl (.tmp 38) (.tmp 40) 25 rfl _ _ (by rfl) (by rfl) (HPK.o.addNum (b:=wr.heap.size) (j:=j) hsz (Af (aB _ _) _) (Blk.new _ _ _) (by omega) (by omega)) ?_;rintro v8 w8 ⟨A8,c8,rfl,p8,b8,s8⟩;have q8:=(b8.cell (p:=ad.add j) (by omega)).trans p1';have P8:=U p8;have B8:=U b8;clear p8 b8)
     |(at_builtin;refine Ar rfl (.tmp 42) (.tmp 47) 83 rfl _ _ (by rfl) (by rfl) (P8.o.addRef (b:=w8.heap.size) (f:=fk) (L:=bj) s8 (Af (aB _ _) _) (Blk.new _ _ _) (HR1.o _ ((HBW.o.trans (B8.o.mono (by omega))).trans (((aB _ _).alloc (aC _) _).mono (by omega)))) HT1.o (by rw[Bc];omega)) ?_;rintro v9 w9 ⟨A9,c9,f9,rfl,p9,b9,s9⟩;have P9:=U p9;have B9:=U b9;clear p9 b9))
    go_roundw
    case rel =>
     have hpp:=P9.o;have em:BK bl (Bp bl j) ++ [bj] =BK bl (Bp bl (j+1)):=by rw[HST.o];simp[BK,← HGD.o]
     rw[em,← HST.o]at hpp;have el:(Bp bl (j+1)).length =(Bp bl j).length +1:=by rw[HST.o];simp
     refine⟨j+1,A8,c8,A9,c9,f9,by omega,by go_num,by rw[el],by rw[el,Bc],?_,(HXB.o.below B8.o (by omega)).below B9.o (by omega),(HBW.o.trans (B8.o.mono (by omega))).trans (B9.o.mono (by omega)),s9⟩;rw[el]at *;exact hpp
    case measure => simp[intOf];omega
   ·have hz1:¬(0:Int)<(bl[j].length:Int):=by omega
    have HST:=U (show Bp bl (j+1)=Bp bl j from by rw[Fn,hgd,aI hz,List.append_nil]);go_wp2_with fail
    go_roundw
    case rel => exact⟨j+1,A6,c6,A7,c7,fs,by omega,by go_num,by rw[HST.o],by rw[HST.o],by rw[HST.o];exact HPK.o,HXB.o,HBW.o,hsz⟩
    case measure => simp[intOf];omega
  ·obtain rfl:j=bl.length:=by omega
   have hcf:EQ m n s bl=if((Bp bl bl.length).take n).length <n then none else some (Eg m n bl ((Bp bl bl.length).take n) (n+s)):=rfl
   have hmemA:∀k,k∈(Bp bl bl.length).take n→k≤50:=fun k hk => by have:=GD (List.mem_of_mem_take hk);omega
   have hpart:∀i,((Bp bl bl.length).take n).length =n→i<n+2→_:=fun i hv hi => FE h1 h3 (show bl.length≤n+2 by omega) HO.o (show(AI n bl bl.length).length =n from hv) hi
   rw[JT]at hpart;have hmsA:=msOfAll (j:=bl.length) HO.o;have hms:=Fb (n:=n) (j:=bl.length) HO.o;rw[JT]at hms;obtain⟨ha,hha⟩:∃ha,Bp bl bl.length=ha:=⟨_,rfl⟩;rw[hha]at HPK hcf hmemA hpart hmsA hms hle⊢;have HCF:=U hcf;have HVL:=U hmemA;have HPART:=U hpart;have HMS:=U hms;clear hha hcf hmemA hpart hms;obtain⟨g6,r6,-⟩:=HPK.o.nums.reads;obtain⟨g7,r7,-⟩:=HPK.o.lists.reads;have R6:=U r6;have R7:=U r7;have HEV:=U (l3Even_c _ (BK bl ha) m (g7 ++ fs) wr r7 hmsA);have h0:ha.length=0∨(0<ha.length∧∃ad0 A0 c0,A7=some ad0∧(ad0.add 0).block <wr.heap.size∧wr.cell? (ad0.add 0)=some (.slice A0 m c0)):=by
    by_cases hz:ha.length=0
    ·exact .inl hz
    ·obtain⟨A,c,e,-,-,hx⟩:=As.open_ r7;obtain⟨ad0,A0,c0,fk,e1,b1,p1,-⟩:=hx 0 (by rw[Bc];omega);injection e with e2
     rw[hmsA _ (aN _)]at p1;exact .inr ⟨by omega,ad0,A0,c0,by rw[e2,e1],b1,p1⟩
   have gz:g<wr.heap.size:=by omega
   have gz2:g≤wr.heap.size:=by omega
   obtain⟨u,hu⟩:∃u,u=wr:=⟨_,rfl⟩;subst hu;clear r6 r7 hmsA;go_upto_region 15 with(go_at_call 91;refine HEV.o.mono ?_;rintro e w2 ⟨rfl,b2⟩;have B2:=U b2;clear b2)
   have X2:=U (HXB.o.below B2.o gz);have px0:w2.cell? ⟨g,0,none⟩=some (int i64 0):=(X2.o.cell 0).trans rfl;have px1:w2.cell? ⟨g,1,none⟩=some (.slice none 0 0):=(X2.o.cell 1).trans rfl;have fx0:=X2.o.frozen 0;have fx1:=X2.o.frozen 1;have gzx:=X2.o.lt;have BX:=U (HBW.o.trans (B2.o.mono gz2));by_cases hn:ha.length<n
   ·have hn1:((ha.length:Nat):Int)<(n:Int):=by omega
    have hd:EQ m n s bl=none:=by rw[HCF.o,aL (by rw[aQ];omega)]
    have HD:=U hd;clear hd;rcases h0 with hz|⟨hz,ad0,A0,c0,rfl,b0,p0⟩
    ·have hz1:¬(0:Int)<(ha.length:Int):=by omega
     go_wp2_with fail
     refine bodyPost_ret (results_cell_row rfl _ _ g 144 #[int i64 10,.slice none 0 0] (0,0) _ rfl (Blk.set_ (Blk.set_ X2.o 0 _) 1 _) underlying144 rfl (by kernel_rfl)) rfl ?_;exact .inr ⟨HD.o,rfl,by rw[HG.o];exact(BX.o.setCell (aC _) _).setCell (aC _) _⟩
    ·have hz1:(0:Int)<(ha.length:Int):=by omega
     have e0:ad0.add 0=ad0:=by simp[Addr.add]
     rw[e0]at p0 b0;have p0':=(B2.o.cell (p:=ad0) b0).trans p0;go_wp2_with fail
     refine bodyPost_ret (results_cell_row rfl _ _ g 144 #[int i64 10,.slice none 0 0] (0,0) _ rfl (Blk.set_ (Blk.set_ X2.o 0 _) 1 _) underlying144 rfl (by kernel_rfl)) rfl ?_;exact .inr ⟨HD.o,rfl,by rw[HG.o];exact(BX.o.setCell (aC _) _).setCell (aC _) _⟩
   have hnn:n≤ha.length:=by omega
   have hn1:¬((ha.length:Nat):Int)<(n:Int):=by omega
   have htl:(ha.take n).length =n:=by rw[aQ];omega
   have hd:EQ m n s bl=some (Eg m n bl (ha.take n) (n+s)):=by rw[HCF.o,aI (by omega)]
   have HD:=U hd;have HPT:=U (fun i hi => HPART.o i htl hi);rcases h0 with hz|⟨hz,ad0,A0,c0,rfl,b0,p0⟩
   ·omega
   have hz1:(0:Int)<(ha.length:Int):=by omega
   have e0:ad0.add 0=ad0:=by simp[Addr.add]
   rw[e0]at p0 b0;have p0':=(B2.o.cell (p:=ad0) b0).trans p0;have hc6:n≤c6:=by
    obtain⟨A,c,e,hc,-⟩:=R6.o;injection e with _ _ e
    rw[Ct]at hc;omega
   have hc7:n≤c7:=by
    obtain⟨A,c,e,hc,-⟩:=As.open_ R7.o;injection e with _ _ e
    rw[Bc]at hc;omega
   have hc6i:(n:Int)≤(c6:Int):=by omega
   have hc7i:(n:Int)≤(c7:Int):=by omega
   have hn0:(0:Int)≤(n:Int):=by omega
   obtain⟨k6,-,q6,-,-⟩:=R6.o.split (j:=n) (by rw[Ct];exact hnn);obtain⟨k7,-,q7,-,-⟩:=R7.o.split (j:=n) (by rw[Bc];exact hnn);have e6:(Fa ha).take n=Fa (ha.take n):=by simp[Fa,List.map_take]
   have e7:(BK bl ha).take n=BK bl (ha.take n):=by simp[BK,List.map_take]
   rw[e6]at q6;rw[e7]at q7;have Q6:=U q6;have Q7:=U q7;clear hd q6 q7 e6 e7 p0 HEV HPART HCF hn;have hlist0:Eg m n bl (ha.take n) 0= []:=rfl;go_wp2_with fail
   obtain⟨q,hq⟩:∃q,w2.heap.size=q:=⟨_,rfl⟩;have K0:=U (Blk.new w2 144 #[int i64 0,.slice none 0 0]);have X3:=U (X2.o.alloc (.cells #[int i64 0,.slice none 0 0] 144));have BS:=U (Af (aB w2.heap.size w2) (.cells #[int i64 0,.slice none 0 0] 144));rw[hq]at K0⊢;have HQ:=U hq;have hqg:g<q:=by omega
   go_loopw [11] (fun i wr =>∃(k:Nat) (A:Option Addr) (c3:Nat) (fo:List Addr),k≤n+s∧i= int i64 k∧Blk wr q 144 #[int i64 0,.slice A k c3]∧Aj 1 39 (Al 1 Ai) wr (q+1) (.slice A k c3) (Eg m n bl (ha.take n) k) fo∧Aw (q+1) wr fo∧Blk wr g 144 #[int i64 0,.slice none 0 0]∧Below q w2 wr∧q+1≤wr.heap.size) (fun i _ => n+s - (intOf i).toNat)
   case atStart => exact⟨0,none,0,[],by omega,rfl,K0.o,by rw[hlist0];exact Aj.start ⟨rfl,.inl ⟨rfl,rfl⟩⟩,F0,X3.o,by rw[← hq];exact BS.o,by simp;omega⟩
   case round =>
    obtain⟨k,A,c3,fo,hk,rfl,hkq,ho,hmo,hx,hb3,hsq⟩:=hrel;have hb2:Below w2.heap.size w2 wr:=by rw[HQ.o];exact hb3
    have hbu:Below u.heap.size u wr:=B2.o.trans (hb2.mono B2.o.size);have pq1:wr.cell? ⟨q,1,none⟩=some (.slice A k c3):=(hkq.cell 1).trans rfl;have gzq:=hkq.lt;have fq1:=hkq.frozen 1;have HK3:=U hkq;have HO3:=U ho;have HMO:=U hmo;have HX3:=U hx;have HB3:=U hb3;have HBU:=U hbu;clear hkq ho hmo hx hb3 hb2 hbu;by_cases hkn:k<n+s
    ·have hkn1:(k:Int)<(n:Int)+(s:Int):=by omega
     obtain⟨L,eL,lL,eM,lM⟩:=HPT.o k (by omega);have HC1:=U (fun(W:World) (hW:Below wr.heap.size wr W) => JE n k 8 (ha.take n) (.slice A6 n c6) k6 W L (rSl.below Az.local_ Az.fixed Q6.o (HBU.o.trans (hW.mono HBU.o.size))) htl (by omega) (by omega) HVL.o (by omega) (by omega) eL lL);have HC2:=U (fun(W:World) (A4:Option Addr) (c4:Nat) (f4:List Addr) (hW:Below wr.heap.size wr W) (h4:Ag W f4 (.slice A4 L.length c4) L) => Lu (.slice (some ad0) n c7) (.slice A4 L.length c4) (BK bl (ha.take n)) L m k7 f4 W (rSl.below As.loc As.fix Q7.o (HBU.o.trans (hW.mono HBU.o.size))) h4 (by rw[Bc];omega) HMS.o (by rw[Bc,lL,htl];exact aC _) (by omega));rw[← eM]at HC2;have hst:=Kf m n bl (ha.take n) k;have hla:=DW m n bl (ha.take n) k;obtain⟨D,hD⟩:∃D,DX m n bl (ha.take n) k=D:=⟨_,rfl⟩;rw[hD]at HC2 hst lM;rw[lL]at HC2;have HAP:=U (fun(w5 W:World) (A5:Option Addr) (c5 b:Nat) (f5:List Addr) (B5:Below wr.heap.size wr w5) (r5:Ag w5 f5 (.slice A5 m c5) D) (m5:Aw wr.heap.size w5 f5) (BW:Below w5.heap.size w5 W) (hk:Blk W b 39 #[.slice A5 m c5]) => Tryz.addFresh HO3.o HMO.o hsq (by rw[hla];omega) B5 r5 m5 BW hk);rw[hla,← hst]at HAP;have HLM:=U lM;have HLL:=U lL;clear eL eM hst hla hD lL lM;go_wp2_with fail
     go_region_law (first
      |(refine AR rfl (.tmp 78) (.tmp 89) 83 rfl _ _ (by rfl) (by rfl) (HAP.o w5 _ A5 c5 _ f5 B5.o R5.o M5.o (by repeat(with_reducible first|exact aB _ _|apply Af|apply An)) (by repeat(with_reducible first|exact Blk.new _ _ _|exact Blk.new1 _ _ _ _|apply Blk.drew_|apply Blk.alloc))) ?_;rintro v8 w8 ⟨A8,c8,h8,rfl,o8,m8,B8,e8⟩;have k8:=HK3.o.below B8 (by omega);have p8:w8.cell? ⟨q,1,none⟩=some (.slice A k c3):=(k8.cell 1).trans rfl;have f8:=k8.frozen 1;have z8:=k8.lt)
      |(go_simp;go_at_call 162;refine(HC1.o _ (by repeat(with_reducible first|exact aB _ _|apply An))).mono ?_;rintro e w4 ⟨A4,c4,f4,rfl,r4,m4,b4⟩;rw[HLL.o]at r4⊢;dsimp only;have B4:=U (show Below wr.heap.size wr w4 by first|exact b4|exact EN b4|exact EN (EN b4));have R4:=U r4;have p4:w4.cell? ⟨q,1,none⟩=some (.slice A k c3):=(B4.o.cell (p:=⟨q,1,none⟩) gzq).trans pq1;have z4:=aE gzq B4.o.size;clear r4 m4 b4)
      |(go_simp;go_at_call 161;refine(HC2.o _ A4 c4 f4 (by repeat(with_reducible first|exact B4.o|exact aB _ _|apply An)) R4.o).mono ?_;rintro e w5 ⟨A5,c5,f5,rfl,r5,m5,b5⟩;rw[HLM.o]at r5⊢;dsimp only;have B5:=U (show Below wr.heap.size wr w5 by first|exact B4.o.trans (b5.mono B4.o.size)|exact B4.o.trans ((EN b5).mono B4.o.size));have R5:=U r5;have M5:=U (m5.mono B4.o.size);have p5:w5.cell? ⟨q,1,none⟩=some (.slice A k c3):=(B5.o.cell (p:=⟨q,1,none⟩) gzq).trans pq1;have z5:=aE gzq B5.o.size;clear r5 m5 b5))
     all_goals
      go_wp2_with fail
      go_roundw
      case rel =>
       exact⟨k+1,A8,c8,fo ++ h8,by omega,by go_num,Blk.set_ k8 1 _,Aj.far_ As.loc o8 m8 (by simp) _,Aw.set_ m8 _ _,Blk.far (HX3.o.below B8 (by omega)) (by simp;omega) _,(HB3.o.trans (B8.mono (by omega))).setCell (by simp) _,by have:=B8.size;simp[World.setCell];omega⟩
      case measure => simp[intOf];omega
    ·obtain rfl:k=n+s:=by omega
     have hkn1:¬(((n+s:Nat):Int)<(n:Int)+(s:Int)):=by omega
     have pq0:wr.cell? ⟨q,0,none⟩=some (int i64 0):=(HK3.o.cell 0).trans rfl;have pg0:wr.cell? ⟨g,0,none⟩=some (int i64 0):=(HX3.o.cell 0).trans rfl;have pg1:wr.cell? ⟨g,1,none⟩=some (.slice none 0 0):=(HX3.o.cell 1).trans rfl;have fg0:=HX3.o.frozen 0;have fg1:=HX3.o.frozen 1;have gz3:=HX3.o.lt;go_wp2_with fail
     have hla:=DW m n bl (ha.take n) (n+s);refine bodyPost_ret (results_cell_row rfl _ _ g 144 #[int i64 0,.slice A (n+s) c3] (0,0) _ rfl (Blk.set_ (Blk.set_ HX3.o 0 _) 1 _) underlying144 rfl (by kernel_rfl)) rfl ?_;obtain⟨gs,r8,m8⟩:=HO3.o.readsMine HMO.o;have hsame:AQ gs wr ((wr.setCell ⟨g,0,none⟩ (int i64 0)).setCell ⟨g,1,none⟩ (.slice A (n+s) c3)):=fun a hag => by
      have:=m8.from_ a hag;rw[World.cell?_setCell_other _ _ _ _ (fun e => by rw[← e]at this;simp at this;omega),World.cell?_setCell_other _ _ _ _ (fun e => by rw[← e]at this;simp at this;omega)]
     refine .inl ⟨_,A,c3,gs,HD.o,by rw[hla],by rw[hla];exact rSl.keep As.loc r8 hsame,((m8.set_ _ _).set_ _ _).mono (by rw[HG.o];omega),?_⟩;rw[HG.o];exact((BX.o.trans (HB3.o.mono (by omega))).setCell (aC _) _).setCell (aC _) _
end Go.Proofs.YtfjkoifpdoemdaaGreat
namespace Go.Proofs.YtfjkoifpdoemdaaGreat
open Go.RowKit Go.Lib Go.Sort
attribute [local go_sem] Oper.semAt_some
structure CP (w0:World) where
 v:Value
 l:List UInt8
 f:List Addr
 ok:Ag w0 f v l
def BY(L:List UInt8)(m:Nat):List (List UInt8):=(List.range m).map fun i =>(L.drop (4 * i)).take 4
theorem Hb(L:List UInt8)(m k:Nat)(hk:k<m):(BY L m).take (k+1)=(BY L m).take k ++ [(L.drop (4 * k)).take 4]:=by
 rw[List.take_add_one];congr 1
 simp[BY,hk]
theorem Cv(L:List UInt8)(m:Nat):(BY L m).length =m:=by simp[BY]
theorem chunk_ok {w0:World} {fs:List Addr} {ad:Addr} {n c k:Nat} {L:List UInt8}(h:Ag w0 fs (.slice (some ad) n c) L)(hk:4 * k+4≤L.length):Ag w0 (AV (ad.add (4 * k)) 4) (.slice (some (ad.add (4 * k))) 4 4) ((L.drop (4 * k)).take 4):=by
 obtain⟨A',c',e,h1,h2,h3⟩:=Ag.open_ h;injection e with e1 e2 e3
 have hl:((L.drop (4 * k)).take 4).length =4:=by simp;omega
 have:=Ag.close_ (w:=w0) (ad:=ad.add (4 * k)) (c:=4) (bs:=(L.drop (4 * k)).take 4) (by omega) (by omega) (fun q hq => by
  obtain⟨ad',e,-,-,hc⟩:=h3 (4 * k+q) (by omega);rw[e]at e1;injection e1 with e1
  subst e1;rw[IN,hc];simp)
 rw[hl]at this;exact this
theorem Qn(w:World)(n:Nat):w.grownBy (w.drewN n) none:=⟨rfl,rfl,rfl,aC _,fun _ _ _ => rfl⟩
theorem PY(l b1 b2 n₀:Nat)(ad:Addr)(m cap:Nat)(L:List UInt8)(f:List Addr)(w0:World)(hr:Ag w0 f (.slice (some ad) (4 * m) cap) L)(hL:L.length=4 * m)(hm1:m≤1000)(hn0:n₀=w0.heap.size)(J Jx:List (CP w0)→World→Prop)(n:Nat)(hn:1≤n)
  (W:World) (hJ:AbidesFrom W.heap.size J) (hY:∀pre x W,J pre W→pre.length<m→YieldAt Fence.wide (n - 1) prog l #[x.v] W fun e W' =>
   (e= .returned (.bool true)∧J (pre ++ [x]) W'∧Below n₀ W W')∨(e= .returned (.bool false)∧Jx (pre ++ [x]) W'))
  (hW0:Below n₀ w0 W) (hb1:w0.cell? ⟨b1,0,none⟩=some (.slice (some ad) (4 * m) cap)) (hb2:w0.cell? ⟨b2,0,none⟩=some (int i64 4)) (h0:J [] W) :
  CallsIn Fence.wide n prog 325 #[.func (.yield l) #[] #[],.pointer (some ⟨b1,0,none⟩),.pointer (some ⟨b2,0,none⟩)] W fun e W' =>(∃v,e= .returned v)∧
   ((∃ys,ys.map CP.l=BY L m∧J ys W')∨(∃pre,(∃k,pre.map CP.l=(BY L m).take k)∧Jx pre W')):=by
 obtain⟨A',c',e,hc,hmx,hx⟩:=Ag.open_ hr;injection e with e1 e2 e3
 subst e1 e3;have hcap:4 * m≤cap:=by omega
 have HX:=U hx;have HW0:=U hW0;have hlt1:b1<n₀:=by rw[hn0];exact World.block_lt_of_cell? _ _ hb1
 have hlt2:b2<n₀:=by rw[hn0];exact World.block_lt_of_cell? _ _ hb2
 have HBS:=U (fun(W':World) (h:Below n₀ w0 W') =>(h.cell (p:=⟨b1,0,none⟩) hlt1).trans hb1);have HBT:=U (fun(W':World) (h:Below n₀ w0 W') =>(h.cell (p:=⟨b2,0,none⟩) hlt2).trans hb2);have HY:=U hY;have HJA:=U hJ;have cBs:=HBS.o W hW0;have cBt:=HBT.o W hW0;have hWs:n₀≤W.heap.size:=by rw[hn0];exact hW0.size
 clear hx hb1 hb2 hY hW0 hJ e2 hc;refine callsIn_of_wp func325 rfl trivial ?_ rfl;simp only[ntmps325,aZ,List.length_cons,List.length_nil,Nat.reduceAdd,Nat.reduceSub,Array.replicate_succ,Array.replicate_zero,List.push_toArray,List.append_toArray,List.nil_append,List.cons_append];gi_wp2
 gi_loopw [4,5] (fun i _ wr =>∃k:Nat,k≤m∧i= int i64 ((4 * k:Nat):Int)∧Hid (Below n₀ w0 wr)∧W.heap.size≤wr.heap.size∧Hid (∃pre:List (CP w0),pre.map CP.l=(BY L m).take k∧pre.length=k∧J pre wr))
  (fun i _ _ =>(4 * m) - (intOf i).toNat)
 case atStart => exact⟨0,Nat.zero_le _,by go_num,HW0,aC _,[],by simp,rfl,h0⟩
 case round =>
  obtain⟨k,hk,rfl,HB,hsz,hpre⟩:=hrel;obtain⟨pre,hpm,hpl,hJ⟩:=hpre.o;have cB1:=HBS.o wr HB.o;have cB2:=HBT.o wr HB.o;by_cases hkm:k<m
  ·have hlt:4 * k<4 * m:=by omega
   have HJ:=U hJ;have HPM:=U hpm;obtain⟨x,hx1,hx2⟩:∃x:CP w0,x.v= .slice (some (ad.add (4 * k))) 4 4∧x.l=(L.drop (4 * k)).take 4:=⟨⟨_,_,_,chunk_ok hr (by omega)⟩,rfl,rfl⟩;clear hJ hpm hpre;gi_wp2
   refine wpIn_wide.2 ?_;go_quiet (fail)
   rw[show min (4:Int) ((4 * m - 4 * k:Nat):Int)=4 by omega];obtain⟨wq,hwq⟩:∃wq,wr.drewN nq=wq:=⟨_,rfl⟩;have hBq:Below n₀ w0 wq:=by rw[← hwq];exact AM HB.o _
   have hJq:J pre wq:=by rw[← hwq];exact HJA.o pre wr _ none HJ.o (Qn wr nq) (fun r e => by cases e)
   have hsq:wr.heap.size=wq.heap.size:=by rw[← hwq];rfl
   rw[hwq];clear hwq HJ;have cB3:=HBS.o wq hBq;have cB4:=HBT.o wq hBq;have HBQ:=U hBq;have hy0:=HY.o pre x wq hJq (by omega);have HX2:=U hx2;rw[hx1]at hy0;obtain⟨fn,tmps,assign,body,hy,hR⟩:=hy0;have HYR:=U hR;clear hR hBq hJq hx2;gi_wp2
   refine HYR.o.mono ?_;rintro e W3 (⟨rfl,hJ3,hk3⟩|⟨rfl,hJx3⟩)
   ·have HJ3:=U hJ3;have HB3:=U (HBQ.o.trans hk3);have hs3:=hk3.size;have cB5:=HBT.o W3 HB3.o;clear hJ3 hk3;gi_wp2
    go_roundw
    case rel =>
     refine⟨k+1,by omega,by go_num,HB3,by omega,pre ++ [x],?_,by simp;omega,HJ3.o⟩;rw[Hb _ _ _ hkm,List.map_append,HPM.o,List.map_cons,List.map_nil,HX2.o]
    case measure => simp[intOf];omega
   ·have HJ3:=U hJx3;clear hJx3;gi_wp2
    refine bodyPost_ret (results_none rfl _ _ _) rfl ?_;refine⟨⟨_,rfl⟩,.inr ⟨pre ++ [x],⟨k+1,?_⟩,HJ3.o⟩⟩;rw[Hb _ _ _ hkm,List.map_append,HPM.o,List.map_cons,List.map_nil,HX2.o]
  ·obtain rfl:k=m:=by omega
   have HJ:=U hJ;have HPM:=U hpm;clear hJ hpm;gi_wp2
   go_end0
   exact⟨⟨_,rfl⟩,.inl ⟨pre,by rw[HPM.o];exact bK (by rw[Cv];exact aC _),HJ.o⟩⟩
theorem NN(b1 b2 n₀:Nat)(ad:Addr)(m cap:Nat)(L:List UInt8)(f:List Addr)(w0:World)(hr:Ag w0 f (.slice (some ad) (4 * m) cap) L)(hL:L.length=4 * m)(hm1:m≤1000)(hn0:n₀=w0.heap.size)(n:Nat)(hn:1≤n)
  (hb1:w0.cell? ⟨b1,0,none⟩=some (.slice (some ad) (4 * m) cap)) (hb2:w0.cell? ⟨b2,0,none⟩=some (int i64 4)) :
  SeqStopsK Fence.wide n prog 325 #[.pointer (some ⟨b1,0,none⟩),.pointer (some ⟨b2,0,none⟩)] (fun x:CP w0 => #[x.v]) (Below n₀) (fun ys => ys.map CP.l=BY L m) (fun pre =>∃k,pre.map CP.l=(BY L m).take k) m w0:=fun l J Jx W hW hJ _ hY h0 =>
 PY l b1 b2 n₀ ad m cap L f w0 hr hL hm1 hn0 J Jx n hn W hJ hY (hn0 ▸ hW) hb1 hb2 h0
theorem chunk_c(A:Option Addr)(n c:Nat)(w:World):Calls prog 315 #[.slice A n c,int i64 4] w fun e w' => e= .returned (.func (.func 325) #[] #[.pointer (some ⟨w.heap.size,0,none⟩),.pointer (some ⟨w.heap.size+1,0,none⟩)])∧w'=(w.alloc (.cells #[.slice A n c] 39)).alloc (.cells #[int i64 4] 3):=by
 go_enter func315,ntmps315
 go_wp2_with fail
 go_ret
 exact⟨rfl,rfl⟩
theorem Nt {w0 W:World} {base e:Nat} {v:Value} {ys:List (CP w0)}(h:W.ownsRow base e 1 v ys.length (ys.map CP.v))(hb:Below w0.heap.size w0 W):∃f,As W f v (ys.map CP.l):=by
 rcases h.2 with⟨rfl,h0⟩|⟨g,cap,cur,rfl,hg0,hg,hn,hm,hc,ht⟩
 ·obtain rfl:=bT h0;exact⟨[],none,0,rfl,aC _,by omega,.inl ⟨rfl,rfl⟩⟩
 ·refine⟨AV ⟨g,0,none⟩ (ys.length * 1) ++(ys.map CP.f).flatten,some ⟨g,0,none⟩,cap,by simp,by simpa using hn,by unfold maxLen at hm;omega,.inr ⟨⟨g,0,none⟩,ys.map fun y => [y.v],ys.map CP.f,rfl,by simp,by simp,by simp,fun i hi => ?_⟩⟩;have hi':i<ys.length:=by simpa using hi
  refine⟨by simpa using hi',by simpa using hi',by simp,fun j hj => ?_,?_⟩
  ·have hj0:j=0:=by simp at hj;omega
   subst hj0;have e:(⟨g,0,none⟩:Addr).add (i * 1+0)=⟨g,i,none⟩:=by rw[Nat.mul_one,bE];exact Cs g i
   have hx:(cur.toList.take (ys.length * 1))[i]? =some ys[i].v:=by rw[ht];simp[hi']
   rw[List.getElem?_take,aL (by omega)]at hx;rw[e,cell_of_row W g i cur _ (0,0) hg];simpa using hx
  ·refine⟨ys[i].v,by simp,?_⟩;simpa using Ag.below ys[i].ok hb
theorem NM(b1 b2:Nat)(ad:Addr)(m cap:Nat)(L:List UInt8)(f:List Addr)(w:World)(hr:Ag w f (.slice (some ad) (4 * m) cap) L)(hL:L.length=4 * m)(hm1:m≤1000)
  (hb1:w.cell? ⟨b1,0,none⟩=some (.slice (some ad) (4 * m) cap)) (hb2:w.cell? ⟨b2,0,none⟩=some (int i64 4)) :
  Calls prog 324 #[.slice none 0 0,.func (.func 325) #[] #[.pointer (some ⟨b1,0,none⟩),.pointer (some ⟨b2,0,none⟩)]] w fun e w' =>∃A c f',e= .returned (.slice A m c)∧As w' f' (.slice A m c) (BY L m)∧Below w.heap.size w w':=by
 obtain⟨i0,hi,hz0,hz1,hz2⟩:=info_parts Tryz.infoBytes;obtain⟨W1,hW1⟩:∃W1,w.alloc (.cells #[.slice none 0 0] 83)=W1:=⟨_,rfl⟩;have hB1:Below w.heap.size w W1:=by rw[← hW1];exact(aB _ _).alloc (aC _) _
 have hS1:W1.heap.size=w.heap.size+1:=by rw[← hW1];simp
 have bS:Boxed W1 w.heap.size 83 (.slice none 0 0):=by rw[← hW1];exact Boxed.new w _ _
 have HR:=U hr;have HB1:=U hB1;have HP1:=U hb1;have HP2:=U hb2;clear hr hb1 hb2 hB1;refine(callsIn_wide (n:=9)).1 ?_;refine callsIn_of_wp_marks func324 rfl trivial ?_ rfl;refine wpIn_wide.2 ?_;simp only[ntmps324,aZ,List.length_cons,List.length_nil,Nat.reduceAdd,Nat.reduceSub,Array.replicate_succ,Array.replicate_zero,List.push_toArray,List.append_toArray,List.nil_append,List.cons_append];go_wp2_with fail
 clear hW1;refine(wpIn_wide (n:=9)).1 ?_;refine wpIn_rangeFunc_ownH (F:=Fence.wide) rfl (by omega) (gf:=325) (lb:=#[.pointer (some ⟨b1,0,none⟩),.pointer (some ⟨b2,0,none⟩)]) rfl trivial (enters_of func325 (by kernel_rfl) rfl)
  (NN b1 b2 w.heap.size ad m cap L f w HR.o hL hm1 rfl (9 - 1) (by omega) HP1.o HP2.o) belowK_t (belowK_b (by omega)) HB1.o (fun _ => rfl)
  (fun pre W =>(∃v,Boxed W w.heap.size 83 v∧W.ownsRow w.heap.size 39 1 v pre.length (pre.map CP.v)∧True)∧Below w.heap.size w W)
  (fun _ _ _ => False)
  (OwnFrom.and (Own.from (holdsRow_own w.heap.size w.heap.size 83 39 1 (fun pre:List (CP w) => pre.length) (fun pre => pre.map CP.v) (fun _ _ => True)) _) (ownFrom_below (aC _) (by omega)))
  (fun _ _ _ _ _ hs _ _ => hs)
  ⟨⟨_,bS,World.ownsRow_nil _ _ _ _,trivial⟩,HB1.o⟩
  (fun x a' W => a'= { tmps:=#[.slice none 0 0,.func (.func 325) #[] #[.pointer (some ⟨b1,0,none⟩),.pointer (some ⟨b2,0,none⟩)],.pointer (some ⟨w.heap.size,0,none⟩),undef,.slice none 0 0,x.v,.func (.func 325) #[] #[.pointer (some ⟨b1,0,none⟩),.pointer (some ⟨b2,0,none⟩)],x.v,undef,undef,undef,undef,undef],defers:=[] })
  (fun _ _ _ _ _ _ hs _ _ => hs)
  ?assign ?body ?done ?stop
 case assign =>
  intro l pre x W K hI hK;have HK:=U hK;have HI:=U hI;clear hK hI;gi_wp2
  exact HK.o _ _ (KeepsFrom.refl _ _) (aB _ _) HI.o rfl
 case body =>
  rintro l pre ⟨xv,xl,xf,xok⟩ a' W hl ⟨r,hr⟩ ⟨⟨v,hv,hrow,-⟩,hB⟩ rfl hlt;have hc:=hv.cell;have hBs:=hB.size;obtain⟨Ax,cx,rfl,-⟩:=rSl.head xok;have HB:=U hB;clear hB;dsimp only;gi_wp2_with (gi_at_builtin;(refine wpListIn_append_own _ rfl _ _ 83 rfl w.heap.size 39 i0 (.slice none 0 0) 1 24 underlying83 hi hz0 hz1 hz2 rfl (by decide) _ _ _ rfl (hrow.alloc _) ⟨W.heap.size,0,none⟩ 1 1 [.slice Ax xl.length cx] rfl rfl (cell_one_new _ _ _) (by simp[Value.oneCell']) (by unfold maxLen;omega) (by omega) (by simp;omega) ?_;intro v' w1 hown' hgrow _;obtain⟨g',cap',rfl⟩:=ownsRow_succ hown';obtain⟨hv1,hv2,hr2,hk2,hb2⟩:=hv.appended (by decide) hrow hBs (aC _) hown' hgrow;have hc1:=hv1.cell;have hf1:=hv1.frozen))
  refine⟨hk2.from _,hb2,⟨_,hv2,?_,trivial⟩,HB.o.trans hb2⟩;simpa using hr2
 case done =>
  rintro D ys W hD hS ⟨⟨v,hv,hrow,-⟩,hB⟩ hK;have hc:=hv.cell;have HB:=U hB;have HKD:=U hK;have HROW:=U hrow;have HV:=U hv;clear hB hK hrow hv;go_wp2_with fail
  refine⟨by simp,.inl ⟨_,_,rfl,run_takeDeferred HKD.o,?_⟩⟩;obtain⟨A,c,e⟩:∃A c,v= .slice A ys.length c:=by
   rcases HROW.o.2 with⟨rfl,h0⟩|⟨g,cap,cur,rfl,-⟩
   ·exact⟨none,0,by rw[h0]⟩
   ·exact⟨_,_,rfl⟩
  have hlen:ys.length=m:=by rw[← bR (f:=CP.l),hS,Cv]
  subst e;have hrow2:=HROW.o.kept (grownBy_putObj' W D (.deferred none)) (by
   rcases HROW.o.2 with⟨e0,_⟩|⟨g,cap,cur,e0,_,hgb,_⟩
   ·exact .inl (by rw[e0];rfl)
   ·refine .inr fun e' => ?_
    rw[e0]at e';have eg:g=D:=by simpa [Value.ownBlock]using e'
    rw[eg,HKD.o]at hgb;cases hgb)
  have hB2:Below w.heap.size w (W.putObj D (.deferred none)):=HB.o.grown (grownBy_putObj' _ D (.deferred none)) HB.o.size (fun k e => by injection e with e;omega);obtain⟨f',hf'⟩:=Nt hrow2 hB2;rw[hS,hlen]at hf';refine⟨_,results_tmp rfl _ _ _,A,c,f',by rw[← hlen];rfl,hf',hB2⟩
 case stop =>
  rintro D c pre W _ _ h _;exact h.elim
theorem mulB_by1:∀a,a<256→DN a 1=a:=by decide +kernel
theorem mulU_one(x:UInt8):ER x 1=x:=by
 apply UInt8.toNat_inj.1
 rw[Iu];exact mulB_by1 _ (GN x)
theorem KS(l:List UInt8):Bo l 1=l:=by
 unfold Bo;rw[show(fun b => ER b 1)=id from funext mulU_one];simp
theorem addS_one(a b:List UInt8):DU a b 1=D3 a b:=by rw[Lh,KS]
theorem Q4 {n k m:Nat} {ls:List (List UInt8)}(hn:ls.length=n)(hk:k<n)(hl:∀l,l∈ls→l.length=m):Er m ls (Cl n k 0)=ls[k]'(by omega):=by
 have hb:ls.length≤(Cl n k 0).length:=by rw[AT];omega
 have hg:∀i,(hi:i<n)→(Cl n k 0)[i]'(by rw[AT];exact hi)=if i=k then 1 else 0:=fun i hi => by
  rw[Im hi];unfold BP;rw[aI (by omega)]
 have step:∀j,j≤n→Eh m ls (Cl n k 0) j=if j≤k then List.replicate m 0 else ls[k]'(by omega):=by
  intro j;induction j with
  |zero => intro _;rw[Pr,aL (by omega)]
  |succ j ih =>
   intro hj;rw[Gp (by omega) hb,ih (by omega),hg j (by omega)];by_cases e:j=k
   ·subst e;rw[aL (aC _),aL rfl,aI (by omega)];have:=hl ls[j] (aN _);rw[← this,LD,KS]
   ·rw[aI e];by_cases h:j≤k
    ·rw[aL h,aL (by omega)];exact IP (by rw[hl _ (aN _),List.length_replicate])
    ·rw[aI h,aI (by omega)];exact IP (by rw[hl _ (aN _),hl _ (aN _)])
 rw[← GZ hb];have:=step ls.length (by omega);rw[this,aI (by omega)]
theorem Gg {L:List UInt8} {m:Nat}(h:L.length=4 * m):∀l,l∈BY L m→l.length=4:=fun l hl => by
 obtain⟨i,hi,rfl⟩:=List.mem_map.1 hl;have:=List.mem_range.1 hi;simp;omega
def FG(n:Nat)(L:List UInt8)(p:Nat):List UInt8:=Er 4 (BY L n) (Cl n p 0)
def Fm(n:Nat)(L:List UInt8)(k:Nat):List (List UInt8):=(List.range k).map (FG n L)
def Ll(n s:Nat)(L:List UInt8):List (List UInt8):=Fm n L (n+s)
theorem Kl(n:Nat)(L:List UInt8)(k:Nat):Fm n L (k+1)=Fm n L k ++ [FG n L k]:=by unfold Fm;rw[List.range_succ,List.map_append];rfl
theorem Em(n:Nat)(L:List UInt8)(k:Nat):(Fm n L k).length =k:=by simp[Fm]
theorem Hf(n s:Nat)(L:List UInt8):(Ll n s L).length =n+s:=Em _ _ _
theorem FH {n:Nat} {L:List UInt8}(h:L.length=4 * n)(p:Nat):(FG n L p).length =4:=ET (Gg h) (by rw[Cv,AT];exact aC _)
theorem Qe {n:Nat} {L:List UInt8}(h:L.length=4 * n)(k:Nat):∀l,l∈Fm n L k→l.length=4:=fun l hl => by
 obtain⟨i,_,rfl⟩:=List.mem_map.1 hl;exact FH h i
theorem OX {n:Nat} {L:List UInt8}(h:L.length=4 * n):Fm n L n=BY L n:=by
 apply bP
 ·rw[Em,Cv]
 ·intro i h1 h2;rw[Em]at h1;simp only[Fm,bQ,List.getElem_range];exact Q4 (Cv _ _) h1 (Gg h)
def FC(L:List (List UInt8))(w:World)(e:Ending)(w':World):Prop :=
 ∃A c fs,e= .returned (.slice A L.length c)∧As w' fs (.slice A L.length c) L∧Below w.heap.size w w'
theorem P5(b1 b2:Nat)(ad:Addr)(m cap:Nat)(L:List UInt8)(f:List Addr)(w:World)(hr:Ag w f (.slice (some ad) (4 * m) cap) L)(hL:L.length=4 * m)(hm1:m≤1000)
  (hb1:w.cell? ⟨b1,0,none⟩=some (.slice (some ad) (4 * m) cap)) (hb2:w.cell? ⟨b2,0,none⟩=some (int i64 4)) :
  Calls prog 314 #[.func (.func 325) #[] #[.pointer (some ⟨b1,0,none⟩),.pointer (some ⟨b2,0,none⟩)]] w fun e w' =>∃A c f',e= .returned (.slice A m c)∧As w' f' (.slice A m c) (BY L m)∧Below w.heap.size w w':=by
 have HC:=U (NM b1 b2 ad m cap L f w hr hL hm1 hb1 hb2);clear hr hb1 hb2;go_enter func314,ntmps314
 go_wp2_with (go_at_call 324;refine HC.o.mono ?_;rintro e w1 ⟨A,c,f',rfl,r,b⟩;have R:=U r;have B:=U b;clear r b)
 go_ret
 exact⟨A,c,f',rfl,R.o,B.o⟩
theorem Og(n s:Nat)(hn:n≤100)(hs:s≤100)(w:World):Calls prog 316 #[.agg #[int i64 (n:Int),int i64 (s:Int)]] w fun e w' => e= .returned (int i64 ((n+s:Nat):Int))∧Below w.heap.size w w':=by
 go_enter func316,ntmps316
 go_wp2_with fail
 go_ret
 exact⟨by go_num,Af (aB _ _) _⟩
theorem encode_c(n s:Nat)(v:Value)(L:List UInt8)(f:List Addr)(w:World)(h:Ag w f v L)(h1:1≤n)(h3:n≤3)(hs:s≤2)(hL:L.length=4 * n) :
  Calls prog 295 #[.agg #[int i64 (n:Int),int i64 (s:Int)],v] w (FC (Ll n s L) w):=by
 obtain⟨A1,c1,rfl,hc1,hm1,hx⟩:=Ag.open_ h;obtain⟨ad,rfl,-⟩:=hx 0 (by omega);rw[hL]at h⊢;clear hx hc1 hm1;have hB1:Below w.heap.size w (w.alloc (.cells #[int i64 (n:Int),int i64 (s:Int)] 226)):=(aB _ _).alloc (aC _) _;have K1:=Blk.new w 226 #[int i64 (n:Int),int i64 (s:Int)];have HR:=U (h.below hB1);have HB1:=U hB1;have HK1:=U K1;clear h hB1 K1;go_enter func295,ntmps295
 go_wp2_with (go_at_call 315;refine(chunk_c _ _ _ _).mono ?_;rintro e w2 ⟨rfl,rfl⟩)
 obtain⟨W3,hW3⟩:∃W3,((w.alloc (.cells #[int i64 (n:Int),int i64 (s:Int)] 226)).alloc (.cells #[.slice (some ad) (4 * n) c1] 39)).alloc (.cells #[int i64 4] 3)=W3:=⟨_,rfl⟩;have b13:Below (w.heap.size+1) (w.alloc (.cells #[int i64 (n:Int),int i64 (s:Int)] 226)) W3:=by rw[← hW3];exact((aB _ _).alloc (by simp) _).alloc (by simp) _
 have q1:W3.cell? ⟨w.heap.size+1,0,none⟩=some (.slice (some ad) (4 * n) c1):=by rw[← hW3];exact(((Blk.new1 w _ _ _).alloc _).cell 0).trans rfl
 have q2:W3.cell? ⟨w.heap.size+1+1,0,none⟩=some (int i64 4):=by rw[← hW3];exact((Blk.new2 w _ _ _ _).cell 0).trans rfl
 have HC:=U (P5 (w.heap.size+1) (w.heap.size+1+1) ad n c1 L f W3 (HR.o.below (b13.mono (by simp))) hL (by omega) q1 q2);have k3:Blk W3 w.heap.size 226 #[int i64 (n:Int),int i64 (s:Int)]:=HK1.o.below b13 (by omega);have B3:Below w.heap.size w W3:=HB1.o.trans (b13.mono (by omega));rw[hW3];clear hW3 q1 q2 b13;refine HC.o.mono ?_;rintro e w4 ⟨A4,c4,f4,rfl,r4,b4⟩;have k4:=k3.below b4 k3.lt;have B4:=U (B3.trans (b4.mono B3.size));have R4:=U r4;have HK4:=U k4;have gz:w.heap.size<w4.heap.size:=k4.lt;have c0':w4.cell? ⟨w.heap.size,0,none⟩=some (int i64 (n:Int)):=(k4.cell 0).trans rfl;have c1':w4.cell? ⟨w.heap.size,1,none⟩=some (int i64 (s:Int)):=(k4.cell 1).trans rfl;clear HC k3 B3 r4 b4 k4;have c0a:(w4.alloc (.cells #[] 39)).cell? ⟨w.heap.size,0,none⟩=some (int i64 (n:Int)):=((Af (aB _ _) _).cell (p:=⟨w.heap.size,0,none⟩) gz).trans c0';have c1a:(w4.alloc (.cells #[] 39)).cell? ⟨w.heap.size,1,none⟩=some (int i64 (s:Int)):=((Af (aB _ _) _).cell (p:=⟨w.heap.size,1,none⟩) gz).trans c1';go_wp2_with (go_at_call 316;refine(Og _ _ (by omega) (by omega) _).mono ?_;rintro e w9 ⟨rfl,b9⟩;have B9:=U b9;clear b9)
 have hE:=(Aj.emptyL (w:=w4)).below As.loc As.fix B9.o;have hE2:=(Af (aB w4.heap.size w4) (.cells #[] 39)).trans (B9.o.mono (by simp));have HE:=U hE;have HE2:=U hE2;clear hE hE2;go_loopw [14,6,7] (fun i o _ wr =>∃(k:Nat) (A:Option Addr) (c3:Nat) (fo:List Addr),k≤n+s∧i= int i64 k∧o= .slice A k c3∧Aj 1 39 (Al 1 Ai) wr w4.heap.size o (Fm n L k) fo∧Aw w4.heap.size wr fo∧Below w4.heap.size w4 wr) (fun i _ _ _ => n+s - (intOf i).toNat)
 case atStart => exact⟨0,_,0,[],by omega,rfl,rfl,HE.o,F0,HE2.o⟩
 case round =>
  obtain⟨k,A,c3,fo,hk,rfl,rfl,ho,hmo,hb3⟩:=hrel;have HO3:=U ho;have HB3:=U hb3;have HMO:=U hmo;have c0'':=(hb3.cell (p:=⟨w.heap.size,0,none⟩) gz).trans c0';have c1'':=(hb3.cell (p:=⟨w.heap.size,1,none⟩) gz).trans c1';clear ho hb3 hmo;by_cases hkn:k<n+s
  ·have HC1:=U (GM n s k (by omega) (by omega) wr);have HC2:=U (fun(W:World) (A4':Option Addr) (c4':Nat) (f4':List Addr) (hW:Below wr.heap.size wr W) (h4:Ag W f4' (.slice A4' n c4') (Cl n k 0)) => Lx (.slice A4 n c4) (.slice A4' n c4') (BY L n) (Cl n k 0) 4 f4 f4' W (rSl.below As.loc As.fix R4.o (HB3.o.trans (hW.mono HB3.o.size))) h4 (by rw[Cv];omega) (Gg hL) (by rw[Cv,AT];exact aC _) (by omega));have hst:=Kl n L k;have hla:=Em n L k;have HGL:=U (AT n k 0);have HST:=U hst;have HLA:=U hla;have HLM:=U (FH hL k);have hdef:Er 4 (BY L n) (Cl n k 0)=FG n L k:=rfl;rw[hdef]at HC2;obtain⟨D,hD⟩:∃D,FG n L k=D:=⟨_,rfl⟩;rw[hD]at HC2 HST HLM;obtain⟨G,hG⟩:∃G,Cl n k 0=G:=⟨_,rfl⟩;rw[hG]at HC1 HC2 HGL;clear hst hla hdef hD hG;go_wp2_with (first
    |(go_at_call 297;refine HC1.o.mono ?_;rintro e w4' ⟨A4',c4',f4',rfl,r4,m4,b4⟩;rw[HGL.o]at r4⊢;have R4':=U r4;have B4':=U b4;clear r4 m4 b4)
    |(go_at_call 181;refine(HC2.o _ _ _ _ B4'.o R4'.o).mono ?_;rintro e w5 ⟨A5,c5,f5,rfl,r5,m5,b5⟩;rw[HLM.o]at r5⊢;have HAP:=U (Tryz.addFresh (b:=w5.heap.size) HO3.o HMO.o HB3.o.size (by rw[HLA.o];omega) (B4'.o.trans (b5.mono B4'.o.size)) r5 (m5.mono B4'.o.size) (Af (aB _ _) _) (Blk.new _ _ _));rw[HLA.o,← HST.o]at HAP;clear r5 m5 b5)
    |(at_builtin;refine Ar rfl (.tmp 17) (.tmp 23) 83 rfl _ _ (by rfl) (by rfl) HAP.o ?_;rintro v6 w6 ⟨A6',c6',h6',rfl,o6,m6,B6,e6⟩;have HO6:=U o6;have HM6:=U m6;have HB6:=U B6;clear o6 B6 m6))
   go_roundw
   case rel => exact⟨k+1,A6',c6',_,by omega,by go_num,rfl,HO6.o,HM6.o,HB3.o.trans HB6.o⟩
   case measure => simp[intOf];omega
  ·obtain rfl:k=n+s:=by omega
   go_wp2_with fail
   go_ret
   obtain⟨gs,r8,m8⟩:=HO3.o.readsMine HMO.o;have hla:=Hf n s L;exact⟨A,c3,gs,by rw[hla];rfl,by rw[hla];exact r8,B4.o.trans (HB3.o.mono B4.o.size)⟩
theorem four_ok {w0:World} {fs:List Addr} {ad:Addr} {n c k:Nat} {L:List UInt8}(h:Ag w0 fs (.slice (some ad) n c) L)(hk:4 * k+4≤L.length):Ag w0 (AV (ad.add (4 * k)) 4) (.slice (some (ad.add (4 * k))) 4 (c - 4 * k)) ((L.drop (4 * k)).take 4):=by
 obtain⟨A',c',e,h1,h2,h3⟩:=Ag.open_ h;injection e with e1 e2 e3
 subst e3;have hl:((L.drop (4 * k)).take 4).length =4:=by simp;omega
 have:=Ag.close_ (w:=w0) (ad:=ad.add (4 * k)) (c:=c - 4 * k) (bs:=(L.drop (4 * k)).take 4) (by omega) (by omega) (fun q hq => by
  obtain⟨ad',e,-,-,hc⟩:=h3 (4 * k+q) (by omega);rw[e]at e1;injection e1 with e1
  subst e1;rw[IN,hc];simp)
 rw[hl]at this;exact this
theorem Tryz.addAny {wr W:World} {base b:Nat} {v ve:Value} {ds:List (List UInt8)} {L:List UInt8} {fs f:List Addr}(ho:Aj 1 39 (Al 1 Ai) wr base v ds fs)(hbase:base≤wr.heap.size)(hn:ds.length+1≤1000000000)(hW:Below wr.heap.size wr W)(hblk:Blk W b 39 #[ve])(he:Ag W f ve L)(hf:∀a,a∈f→a.block<base∨wr.heap.size≤a.block) :
  ∃v' w',(Builtin.append_ #[83,83] 83 #[v,.slice (some ⟨b,0,none⟩) 1 1]).run prog W= .ok v' w'∧∃A c h,v'= .slice A (ds.length+1) c∧Aj 1 39 (Al 1 Ai) w' base v' (ds ++ [L]) (fs ++ h)∧Below base wr w'∧wr.heap.size≤w'.heap.size∧h.Sublist f:=by
 have ho2:=ho.below As.loc As.fix hW;obtain⟨v',w',q1,h,q2,q3,q4,-⟩:=Aj.appendOne (P:=prog) 83 83 (.slice none 0 0) 24 underlying83 Tryz.infoBytes rfl (by decide) As.loc As.fix Al.ones base v ds fs ho2 b [ve] f L rfl hblk ⟨ve,rfl,he⟩ (fun a ha e => by
  have:=ho.lt _ e;have:=hf a ha;omega) hn (by omega) (bL hbase hW.size)
 obtain⟨A,c,e,-⟩:=q2.length;exact⟨v',w',q1,A,c,h,by rw[e];simp,q2,Below.grown (hW.mono hbase) q4 (bL hbase hW.size) (fun k hk =>(ho.lt k hk).1),bL hW.size q4.size,q3⟩
theorem Tryz.addAll {wr:World} {v:Value} {ds:List (List UInt8)} {f:List Addr}(hr:As wr f v ds)(hn:ds.length≤1000000000) :
  ∃v' w',(Builtin.append_ #[83,83] 83 #[.slice (some ⟨wr.heap.size,0,none⟩) 0 0,v]).run prog (wr.alloc (.cells #[] 39))= .ok v' w'∧∃A c h,v'= .slice A ds.length c∧Aj 1 39 (Al 1 Ai) w' wr.heap.size v' ds h∧Below wr.heap.size wr w':=by
 have ht:=rSl.there As.fix hr;obtain⟨v',w',q1,h,q2,q3,q4,-⟩:=Aj.appendRun (P:=prog) 83 83 (.slice none 0 0) 24 underlying83 Tryz.infoBytes rfl (by decide) As.loc As.fix Al.ones wr.heap.size _ [] [] (Aj.emptyL (w:=wr)) v ds f (rSl.below As.loc As.fix hr (Af (aB wr.heap.size wr) (.cells #[] 39))) (fun a ha e => by
  simp[Value.ownBlock]at e;have:=ht a ha;omega) (by simpa using hn) (by omega) (by simp)
 rw[List.nil_append]at q2;obtain⟨A,c,e,-⟩:=q2.length;exact⟨v',w',q1,A,c,_,e,q2,Below.grown (Af (aB wr.heap.size wr) (.cells #[] 39)) q4 (by simp) (fun k hk => by simp[Value.ownBlock]at hk;omega)⟩
theorem Ph(n s:Nat)(v:Value)(L:List UInt8)(f:List Addr)(w:World)(h:Ag w f v L)(h1:1≤n)(h3:n≤3)(hs:s≤2)(hL:L.length=4 * n) :
  Calls prog 159 #[int i64 (n:Int),int i64 (s:Int),v] w (FC (Ll n s L) w):=by
 obtain⟨A1,c1,rfl,hc1,hm1,hx⟩:=Ag.open_ h;obtain⟨ad,rfl,-⟩:=hx 0 (by omega);rw[hL]at h hc1⊢;have HR:=U h;have HL:=U hL;clear hx h hL;go_enter func159,ntmps159
 go_wp2_with fail
 have HE:=U (Aj.emptyL (w:=w));have HE2:=U (Af (aB w.heap.size w) (.cells #[] 39));go_loopw [8,7] (fun i o wr =>∃(k:Nat) (A:Option Addr) (c3:Nat) (fo:List Addr),k≤n∧i= int i64 k∧o= .slice A k c3∧Hid (Aj 1 39 (Al 1 Ai) wr w.heap.size o ((BY L n).take k) fo)∧Hid (Aw w.heap.size wr fo)∧Hid (Below w.heap.size w wr)) (fun i _ _ => n - (intOf i).toNat)
 case atStart => exact⟨0,_,0,[],by omega,rfl,rfl,HE.o,F0,HE2.o⟩
 case round =>
  obtain⟨k,A,c3,fo,hk,rfl,rfl,HO,HM,HB⟩:=hrel;clear HE HE2;have HBS:=U HB.o.size;by_cases hkn:k<n
  ·have hr1:Ag wr (AV (ad.add (4 * k)) 4) (.slice (some (ad.add (k * 4))) ((k+1) * 4 - k * 4) (c1 - k * 4)) ((L.drop (4 * k)).take 4):=by
    have:=four_ok (k:=k) (Ag.below HR.o HB.o) (by rw[HL.o];omega);rwa [show(k+1) * 4 - k * 4=4 by omega,show k * 4=4 * k by omega]
   have hl1:((L.drop (4 * k)).take 4).length =4:=by have:=HL.o;simp;omega
   have hst:=Hb L n k hkn;have hlen:((BY L n).take k).length =k:=by rw[aQ,Cv];omega
   obtain⟨D,hD⟩:∃D,(L.drop (4 * k)).take 4=D:=⟨_,rfl⟩;rw[hD]at hr1 hl1 hst;have HA1:=U (Tryz.freshRow (W:=wr.alloc (.cells #[] 5)) (base:=wr.heap.size) hr1 ((aB _ _).alloc (aC _) _) (Blk.new _ _ _) (aC _) (aC _) (by omega));rw[hl1]at HA1;have HL1:=U hl1;have HST:=U hst;have HLEN:=U hlen;clear hr1 hD hl1 hst hlen;go_wp2_with (first
    |(at_builtin;refine Ar rfl (.tmp 18) (.tmp 25) 39 rfl _ _ (by rfl) (by rfl) HA1.o ?_;rintro v7 w7 ⟨A7,c7,rfl,o7,r7⟩;have B7:=U (Below.grown (show Below wr.heap.size wr _ from(aB _ _).alloc (aC _) (.cells #[] 5)) r7 (by simp) (fun q hq => by injection hq with hq;omega));have HAP:=U (Tryz.addList (b:=w7.heap.size) HO.o HM.o HBS.o (by rw[HLEN.o];omega) B7.o o7 ((aB _ _).alloc (aC _) _) (Blk.new _ _ _));rw[HLEN.o,← HST.o]at HAP;clear o7 r7)
    |(at_builtin;refine Ar rfl (.tmp 17) (.tmp 27) 83 rfl _ _ (by rfl) (by rfl) HAP.o ?_;rintro v8 w8 ⟨A8,c8,h8,rfl,o8,m8,b8,s8⟩;have O8:=U o8;have M8:=U m8;have B8:=U b8;clear o8 m8 b8 s8))
   go_roundw
   case rel => exact⟨k+1,A8,c8,_,by omega,by go_num,rfl,O8.o,M8.o,HB.o.trans B8.o⟩
   case measure => simp[intOf];omega
  ·obtain rfl:k=n:=by omega
   have hlc:=Cv L k;have ht:(BY L k).take k=BY L k:=bK (by omega);rw[ht]at HO;obtain⟨q1,hq1,-⟩:=HO.o.reads;have hrun:=Tryz.addAll hq1 (by omega);rw[hlc]at hrun;have HRUN:=U hrun;have HRD:=U hq1;have HLC:=U hlc;clear hrun hq1 ht hlc;go_wp2_with (at_builtin;refine Ar rfl (.tmp 29) (.tmp 30) 83 rfl _ _ (by rfl) (by rfl) HRUN.o ?_;rintro v8 w8 ⟨A8,c8,h8,rfl,o8,b8⟩;have O8:=U o8;have B8:=U b8;clear o8 b8)
   obtain⟨u,hu⟩:∃u,u=wr:=⟨_,rfl⟩;subst hu;go_loopw [10,9] (fun i o wr2 =>∃(j:Nat) (A:Option Addr) (c3:Nat) (fo:List Addr),j≤s∧i= int i64 j∧o= .slice A (k+j) c3∧Hid (Aj 1 39 (Al 1 Ai) wr2 u.heap.size o (Fm k L (k+j)) fo)∧Hid (Below u.heap.size u wr2)) (fun i _ _ => s - (intOf i).toNat)
   case atStart => exact⟨0,_,c8,h8,by omega,rfl,rfl,(show Aj _ _ _ _ _ _ _ _ by rw[bE,OX HL.o];exact O8.o),B8.o⟩
   case round =>
    obtain⟨j,A9,c9,fo9,hj,rfl,rfl,HO9,HB9⟩:=hrel;clear HRUN O8 B8;have HBS9:=U HB9.o.size;by_cases hjs:j<s
    ·have e1:IntKind.i64.wrap ((k:Int)+(j:Int))=((k+j:Nat):Int):=by rw[IntWalk.i64_in _ (by omega)];omega
     have hc1':=Lv k (k+j) 0 (by omega) (by omega) (by omega) wr;rw[Int.natCast_add]at hc1';have HC1:=U hc1';clear hc1';have HC2:=U (fun(W:World) (A4':Option Addr) (c4':Nat) (f4':List Addr) (hW:Below wr.heap.size wr W) (h4:Ag W f4' (.slice A4' k c4') (Cl k (k+j) 0)) => Lu (.slice A k c3) (.slice A4' k c4') (BY L k) (Cl k (k+j) 0) 4 (q1 ++ fo) f4' W (rSl.below As.loc As.fix HRD.o (HB9.o.trans (hW.mono HBS9.o))) h4 (by rw[HLC.o];omega) (Gg HL.o) (by rw[HLC.o,AT];exact aC _) (by omega));have HGL:=U (AT k (k+j) 0);have HST:=U (Kl k L (k+j));have HLA:=U (Em k L (k+j));have HLM:=U (FH HL.o (k+j));have hdef:Er 4 (BY L k) (Cl k (k+j) 0)=FG k L (k+j):=rfl;rw[hdef]at HC2;obtain⟨D,hD⟩:∃D,FG k L (k+j)=D:=⟨_,rfl⟩;rw[hD]at HC2 HST HLM;obtain⟨G,hG⟩:∃G,Cl k (k+j) 0=G:=⟨_,rfl⟩;rw[hG]at HC1 HC2 HGL;clear hdef hD hG;go_wp2_with (first
      |(go_at_call 163;refine HC1.o.mono ?_;rintro e w4' ⟨A4',c4',f4',rfl,r4,m4,b4⟩;rw[HGL.o]at r4⊢;have R4':=U r4;have B4':=U b4;clear r4 m4 b4)
      |(go_at_call 161;refine(HC2.o _ _ _ _ B4'.o R4'.o).mono ?_;rintro e w5 ⟨A5,c5,f5,rfl,r5,m5,b5⟩;rw[HLM.o]at r5⊢;have HAP:=U (Tryz.addAny (b:=w5.heap.size) (W:=w5.alloc (.cells #[.slice A5 4 c5] 39)) HO9.o HBS9.o (by rw[HLA.o];omega) (Af (B4'.o.trans (b5.mono B4'.o.size)) _) (Blk.new _ _ _) (Ag.below r5 (Af (aB _ _) _)) (fun a ha => .inr (bL B4'.o.size (m5.from_ a ha))));rw[HLA.o,← HST.o]at HAP;clear r5 m5 b5)
      |(at_builtin;refine Ar rfl (.tmp 37) (.tmp 45) 83 rfl _ _ (by rfl) (by rfl) HAP.o ?_;rintro v6 w6 ⟨A6',c6',h6',rfl,o6,B6,e6⟩;have HO6:=U o6;have HB6:=U B6;clear o6 B6))
     go_roundw
     case rel => exact⟨j+1,A6',c6',_,by omega,by go_num,rfl,HO6.o,HB9.o.trans HB6.o⟩
     case measure => simp[intOf];omega
    ·obtain rfl:j=s:=by omega
     go_wp2_with fail
     go_ret
     obtain⟨gs,r8,-⟩:=HO9.o.reads;have hla:=Hf k j L;exact⟨A9,c9,_,by rw[hla];rfl,by rw[hla];exact r8,HB.o.trans (HB9.o.mono HB.o.size)⟩
theorem Below.via {a W w2:World}(h:Below a.heap.size a W)(b:Below W.heap.size W w2):Below a.heap.size a w2:=h.trans (b.mono h.size)
def Lg(ng nd ns g:Nat)(m:Ah):List (List UInt8):=Ll nd ns (Bo m.delta (cau (8+(g - ng)) m.group.toNat))
theorem NK(ng nd ns g:Nat)(m:Ah):(Lg ng nd ns g m).length =nd+ns:=Hf _ _ _
theorem Ka.shapeRun {w:World} {p:Nat} {fs:List Addr} {d:Am} {A0 A1 A2:Option Addr} {c0 c1 c2:Nat} {f0 f1 f2:List Addr}(h:Ka w p fs d A0 A1 A2 c0 c1 c2 f0 f1 f2)(ks:Nat)(hks:ks=9) :
  Sem.run prog (loadCellsFrom ⟨p,0,none⟩ 0 ks #[]) w= .ok #[int i64 d.s.g,int i64 d.s.c,int i64 d.s.data,int i64 d.s.p,int i64 d.s.rows,int i64 d.s.cap,int i64 d.s.b,int i64 d.s.q,int i64 d.s.t] w :=
 run_loadCellsFrom_list _ _ _ [int i64 d.s.g,int i64 d.s.c,int i64 d.s.data,int i64 d.s.p,int i64 d.s.rows,int i64 d.s.cap,int i64 d.s.b,int i64 d.s.q,int i64 d.s.t] ks (by rw[hks];rfl) (fun q v hq => by
  rw[Addr.add_lit];exact h.s q v hq)
theorem added_k(ks:Nat)(hks:ks=9)(zS:∀w,(Go.sizeOf 31).run prog w= .ok ks w)(aS:∀w,(isAgg 31).run prog w= .ok true w)(p:Nat)(fs:List Addr)(d:Am)(g:Nat)(m:Ah)(cs:List Value)(f:List Addr)(w:World)
  (hw:AtW w p fs d) (hok:d.s.sh.Ok) (hm:Ac w f cs m) (hg1:d.s.g≤g) (hg2:(g:Int)<d.s.g+d.s.c) (hm1:0≤m.group) (hm2:m.group<d.s.g) (hd:(m.delta.length:Int)=4 * d.s.data) :
  Calls prog 260 #[.pointer (some ⟨p,0,none⟩),int i64 (g:Int),.agg cs.toArray] w (FC (Lg d.s.g.toNat d.s.data.toNat d.s.p.toNat g m) w):=by
 obtain⟨b1,b2⟩:=hok.g;obtain⟨b3,b4⟩:=hok.c;obtain⟨b5,b6⟩:=hok.data;obtain⟨b7,b8⟩:=hok.p;obtain⟨⟨sg,sc,sd,ss,sr,scap,sb,sq,sst⟩,gs,on,tp,wrt,st,dn⟩:=d;obtain⟨x0,x1,x2,x3,x4,x5,x6,x7,x8⟩:=m;simp only[AX.sh]at b1 b2 b3 b4 b5 b6 b7 b8 hg1 hg2 hm1 hm2 hd;obtain⟨ng,rfl⟩:∃ng:Nat,sg=ng:=⟨sg.toNat,by omega⟩;obtain⟨nd,rfl⟩:∃nd:Nat,sd=nd:=⟨sd.toNat,by omega⟩;obtain⟨ns,rfl⟩:∃ns:Nat,ss=ns:=⟨ss.toNat,by omega⟩;obtain⟨mg,rfl⟩:∃mg:Nat,x4=mg:=⟨x4.toNat,by omega⟩;simp only[Lg,Int.toNat_natCast];have HM:=hm;dsimp only[Ac]at hm;obtain⟨v0,v1,v2,g0,g1,g2,e,-,-,-,-,-,-,-,-,-,hr2⟩:=hm;subst e;obtain⟨Ad,cd,rfl,-⟩:=rSl.head hr2;obtain⟨WA,hWA⟩:∃WA,w.alloc (.cells #[int i64 x0,int i64 x1,.string x2,int i64 x3,int i64 (mg:Int),int i64 x5,v0,v1,.slice Ad x8.length cd] 119)=WA:=⟨_,rfl⟩;have hB:Below w.heap.size w WA:=by rw[← hWA];exact(aB _ _).alloc (aC _) _
 have K:Blk WA w.heap.size 119 #[int i64 x0,int i64 x1,.string x2,int i64 x3,int i64 (mg:Int),int i64 x5,v0,v1,.slice Ad x8.length cd]:=by rw[← hWA];exact Blk.new w _ _
 have hW2:=hw.below hB;have HKS:=U (show∀W,Below WA.heap.size WA W→(Sem.run prog (loadCellsFrom ⟨p,0,none⟩ 0 ks #[]) W= .ok #[int i64 (ng:Int),int i64 sc,int i64 (nd:Int),int i64 (ns:Int),int i64 sr,int i64 scap,int i64 sb,int i64 sq,int i64 sst] W∧W.cell? ⟨p,0,none⟩=some (int i64 (ng:Int))∧W.cell? ⟨w.heap.size,8,none⟩=some (.slice Ad x8.length cd)∧W.cell? ⟨w.heap.size,4,none⟩=some (int i64 (mg:Int)))from fun W hW => by
  obtain⟨A0,A1,A2,c0,c1,c2,f0,f1,f2,HC⟩:=(hW2.below hW).cells;have K2:=K.below hW K.lt;exact⟨HC.shapeRun ks hks,HC.n0,(K2.cell 8).trans rfl,(K2.cell 4).trans rfl⟩)
 have HROW:=U (fun(W:World) => row_c ⟨(ng:Int),sc,(nd:Int),(ns:Int),sr,scap,sb,sq,sst⟩ W);unfold shV at HROW;simp only at HROW;have HDL:=U (fun(W:World) (hW:Below WA.heap.size WA W) => Nv (.slice Ad x8.length cd) x8 (cau (8+(g - ng)) mg) g2 W (rSl.below Ai.local_ Ai.fixed (rSl.below Ai.local_ Ai.fixed hr2 hB) hW) (by omega));obtain⟨C,hC⟩:∃C,cau (8+(g - ng)) mg=C:=⟨_,rfl⟩;have HFC:=U (fun(W:World) => MN mg (g - ng) (by omega) (by omega) W);rw[hC]at HDL HFC⊢;have hscl:=Cx x8 C;have HENC:=U (fun(W w3:World) (A3:Option Addr) (c3:Nat) (f3:List Addr) (h3:Ag w3 f3 (.slice A3 x8.length c3) (Bo x8 C)) (hW:Below w3.heap.size w3 W) => encode_c nd ns (.slice A3 x8.length c3) (Bo x8 C) f3 W (rSl.below Ai.local_ Ai.fixed h3 hW) (by omega) (by omega) (by omega) (by rw[Cx];omega));obtain⟨D,hD⟩:∃D,Bo x8 C=D:=⟨_,rfl⟩;rw[hD]at HDL HENC hscl⊢;obtain⟨E,hE⟩:∃E,Ll nd ns D=E:=⟨_,rfl⟩;rw[hE]at HENC⊢;have HSL:=U hscl;have HB:=U hB;have hks0:¬ks=0:=by omega
 have hks1:0<ks:=by omega
 have e1:IntKind.i64.wrap ((g:Int) - (ng:Int))=((g - ng:Nat):Int):=by rw[IntWalk.i64_in _ (by omega)];omega
 have q0:=(HKS.o WA (aB _ _)).1;have q1:=(HKS.o WA (aB _ _)).2.1;have q2:=(HKS.o WA (aB _ _)).2.2.1;have q3:=(HKS.o WA (aB _ _)).2.2.2;clear hW2 K hw HM hr2 hC hD hE hscl hB hks;go_enter func260,ntmps260
 go_wp2_with fail
 try rw[hWA]
 clear hWA;go_region_held3 (fun W => Sem.run prog (loadCellsFrom ⟨p,0,none⟩ 0 ks #[]) W= .ok #[int i64 (ng:Int),int i64 sc,int i64 (nd:Int),int i64 (ns:Int),int i64 sr,int i64 scap,int i64 sb,int i64 sq,int i64 sst] W∧W.cell? ⟨p,0,none⟩=some (int i64 (ng:Int))∧W.cell? ⟨w.heap.size,8,none⟩=some (.slice Ad x8.length cd)∧W.cell? ⟨w.heap.size,4,none⟩=some (int i64 (mg:Int)))
  (exact HKS.o _ (by repeat(with_reducible first|assumption|exact aB _ _|apply Af|apply An)))
  (first
   |(go_at_call 189;refine(HROW.o _).mono ?_;rintro e w2 ⟨rfl,b2⟩;have B2:=Below.via (a:=WA) (by repeat(with_reducible first|assumption|exact aB _ _|apply Af|apply An)) b2)
   |(go_at_call 254;refine(HFC.o _).mono ?_;rintro e w' ⟨rfl,rfl⟩)
   |(go_at_call 296;refine(HDL.o _ (by repeat(with_reducible first|assumption|exact aB _ _|apply Af|apply An))).mono ?_;rintro e w3 ⟨A3,c3,f3,rfl,r3,m3,b3⟩;rw[HSL.o]at r3⊢;have B3:=Below.via (a:=WA) (by repeat(with_reducible first|assumption|exact aB _ _|apply Af|apply An)) b3)
   |(go_at_call 295;refine(HENC.o _ w3 _ _ _ r3 (by first|exact aB _ _|exact b2|exact EN b2)).mono ?_;rintro e w4 ⟨A4,c4,f4,rfl,r4,b4⟩;have B4:=Below.via (a:=WA) (by repeat(with_reducible first|assumption|exact aB _ _|apply Af|apply An)) b4))
 all_goals
  go_wp2_with fail
  go_ret
  exact⟨A4,c4,f4,rfl,r4,HB.o.trans (B4.mono HB.o.size)⟩
theorem added_c(p:Nat)(fs:List Addr)(d:Am)(g:Nat)(m:Ah)(cs:List Value)(f:List Addr)(w:World)
  (hw:AtW w p fs d) (hok:d.s.sh.Ok) (hm:Ac w f cs m) (hg1:d.s.g≤g) (hg2:(g:Int)<d.s.g+d.s.c) (hm1:0≤m.group) (hm2:m.group<d.s.g) (hd:(m.delta.length:Int)=4 * d.s.data) :
  Calls prog 260 #[.pointer (some ⟨p,0,none⟩),int i64 (g:Int),.agg cs.toArray] w (FC (Lg d.s.g.toNat d.s.data.toNat d.s.p.toNat g m) w) :=
 added_k 9 rfl sizeOf31 isAgg31 p fs d g m cs f w hw hok hm hg1 hg2 hm1 hm2 hd
