/- Part 17 of the proof. -/
import Derived.Test.YtfjkoifpdoemdaaGreatJ16
import Derived.Deep.RegionHeld3
set_option maxHeartbeats 8000000
set_option maxRecDepth 100000
set_option linter.unusedVariables false
set_option linter.unusedSimpArgs false
open Go.Proofs.Tryz
open Go.Value (int)
open Go.IntKind (i64)
namespace Go.Proofs.YtfjkoifpdoemdaaGreat
open Go.RowKit Go.Sort
theorem Tryz.freshRow {wr W:World} {base g0:Nat} {v:Value} {L:List UInt8} {f:List Addr}(hr:Ag wr f v L)(hB:Below wr.heap.size wr W)(hk:Blk W g0 5 #[])(hg:base≤g0)(hwb:wr.heap.size≤g0)(hn:L.length≤1000000000) :
  ∃v' w',(Builtin.append_ #[39,39] 39 #[.slice (some ⟨g0,0,none⟩) 0 0,v]).run prog W= .ok v' w'∧∃A c,v'= .slice A L.length c∧Aj 1 5 Ai w' base v' L []∧W.grownBy w' (some g0):=by
 have ht2:=rSl.there Ai.fixed hr;have hown:Aj 1 5 Ai W base (.slice (some ⟨g0,0,none⟩) 0 0) [] []:=Aj.start ⟨rfl,.inr ⟨g0,0,#[],rfl,hg,hk,aC _,by unfold maxLen;omega,rfl,rfl⟩⟩;have hlt:=hk.lt;obtain⟨v',w',h1,hs,h2,h3,h4,h5⟩:=Aj.appendRun (P:=prog) 39 39 (.int .u8 0) 1 underlying39 Tryz.info5 rfl (by decide) Ai.local_ Ai.fixed Ev base _ [] [] hown v L f (Ag.below hr hB) (fun a ha e => by
  simp[Value.ownBlock]at e;have:=ht2 a ha;omega) (by simpa using hn) (by omega) (by omega)
 have h6:=Aj.flatBytes h2;rw[h6]at h2;rw[List.nil_append]at h2;obtain⟨A,c,e,-⟩:=h2.length;exact⟨v',w',h1,A,c,e,h2,by simpa [Value.ownBlock]using h4⟩
theorem F0 {lo:Nat} {w:World}:Aw lo w []:=⟨List.nodup_nil,(fun a ha => by cases ha),(fun a ha => by cases ha)⟩
theorem Tryz.addByte {W:World} {base b:Nat} {v:Value} {ds:List UInt8} {x:UInt8}(ho:Aj 1 5 Ai W base v ds [])(hn:ds.length+1≤1000000000)(hbase:base≤W.heap.size)(hblk:Blk W b 5 #[.int .u8 (x.toNat:Int)]) :
  ∃v' w',(Builtin.append_ #[39,39] 39 #[v,.slice (some ⟨b,0,none⟩) 1 1]).run prog W= .ok v' w'∧∃A c,v'= .slice A (ds.length+1) c∧Aj 1 5 Ai w' base v' (ds ++ [x]) []∧W.grownBy w' v.ownBlock:=by
 obtain⟨v',w',h1,h,h2,h3,h4,h5⟩:=Aj.appendOne (P:=prog) 39 39 (.int .u8 0) 1 underlying39 Tryz.info5 rfl (by decide) Ai.local_ Ai.fixed Ev base v ds [] ho b [.int .u8 (x.toNat:Int)] [] x rfl hblk ⟨rfl,rfl⟩ (fun a ha => by cases ha) hn (by omega) hbase;have h6:=Aj.flatBytes h2;rw[h6]at h2;obtain⟨A,c,e,-⟩:=h2.length;exact⟨v',w',h1,A,c,by rw[e];simp,h2,h4⟩
theorem Tryz.addList {wr W:World} {base b:Nat} {v ve:Value} {ds:List (List UInt8)} {L:List UInt8} {fs:List Addr}(ho:Aj 1 39 (Al 1 Ai) wr base v ds fs)(hm:Aw base wr fs)(hbase:base≤wr.heap.size)(hn:ds.length+1≤1000000000) {w2:World}(B2:Below wr.heap.size wr w2)(he:Aj 1 5 Ai w2 wr.heap.size ve L [])(B5:Below w2.heap.size w2 W)(hblk:Blk W b 39 #[ve]) :
  ∃v' w',(Builtin.append_ #[83,83] 83 #[v,.slice (some ⟨b,0,none⟩) 1 1]).run prog W= .ok v' w'∧∃A c h,v'= .slice A (ds.length+1) c∧Aj 1 39 (Al 1 Ai) w' base v' (ds ++ [L]) (fs ++ h)∧Aw base w' (fs ++ h)∧Below base wr w'∧wr.heap.size≤w'.heap.size:=by
 obtain⟨gs,h1,h2⟩:=he.readsMine F0;exact Ic (P:=prog) 83 83 (.slice none 0 0) 24 underlying83 Tryz.infoBytes rfl (by decide) As.loc As.fix Al.ones (by omega) ho hm hbase hn (us:=[ve]) (f:=gs) (d:=L) B2 ⟨ve,rfl,h1⟩ h2 rfl B5 hblk
theorem Aj.emptyL {w:World}:Aj 1 39 (Al 1 Ai) (w.alloc (.cells #[] 39)) w.heap.size (.slice (some ⟨w.heap.size,0,none⟩) 0 0) [] [] :=
 Aj.start ⟨rfl,.inr ⟨w.heap.size,0,#[],rfl,aC _,Blk.new _ _ _,aC _,by unfold maxLen;omega,rfl,rfl⟩⟩
theorem Aj.mat {w:World} {base:Nat} {v:Value} {L:List (List UInt8)} {fs:List Addr}(h:Aj 1 39 (Al 1 Ai) w base v L fs)(hL:0<L.length):∃g c,v= .slice (some ⟨g,0,none⟩) L.length c∧L.length≤c∧c≤9223372036854775807∧Mat w g L.length L∧base≤g:=by
 obtain⟨css,fss,h1,h2,rfl,⟨hl,h4⟩,h5,h6⟩:=h;have hw:∀c,c∈css→c.length=1:=by
  intro c hc;obtain⟨i,hi,rfl⟩:=aY hc;obtain⟨_,_,p3,_⟩:=h5 i (by omega);exact p3
 rcases h4 with⟨rfl,h0⟩|⟨g,cap,cur,rfl,hb,hg,hnc,hcm,hcs,htake⟩
 ·omega
 ·simp only[maxLen]at hcm;refine⟨g,cap,rfl,hnc,by omega,⟨rfl,(show Blk w g 39 cur from hg).lt,fun i hi => ?_,fun i hi => frozen_of_row w g i cur 39 hg⟩,hb⟩;obtain⟨p1,p2,p3,v0,e0,hr⟩:=h5 i hi;obtain⟨A,c,rfl,-⟩:=rSl.head hr;have e:L.getD i [] =L[i]:=by simp[aJ,hi]
  rw[e];refine⟨A,c,fss[i],?_,hr,fun a ha e2 => ?_⟩
  ·rw[cell_of_row w g _ cur 39 (0,0) hg];have h3:(cur.toList.take (L.length * 1))[i]? =some (.slice A L[i].length c):=by
    have h4:=DM css hw i 0 p1 (by omega);rw[Nat.mul_one,bE]at h4;rw[htake,h4];simp[e0]
   rw[List.getElem?_take,aL (by omega)]at h3;simpa using h3
  ·exact h6 a (List.mem_flatten.2 ⟨_,aN p2,ha⟩) (by rw[e2];rfl)
theorem QF(v1 v2:Value)(rows:List (List UInt8))(right:List UInt8)(f1 f2:List Addr)(w:World)(n:Nat)(h1:As w f1 v1 rows)(h2:Ag w f2 v2 right)(hl:rows.length=n)(hA:Ci rows n)(hr:n≤right.length)(hn:n≤100)(hpos:0<n) :
  Calls prog 240 #[v1,v2] w fun e w' =>(∃A c fs L,Eb rows right=some L∧L.length=n∧e= .returned (.tuple #[.slice A n c,.bool true])∧Ag w' fs (.slice A n c) L∧Aw w.heap.size w' fs∧Below w.heap.size w w')∨(Eb rows right=none∧e= .returned (.tuple #[.slice none 0 0,.bool false])∧Below w.heap.size w w'):=by
 have H1:=U h1;have H2:=U h2;obtain⟨A1,c1,rfl,hc1,hm1,hx⟩:=As.open_ h1;obtain⟨A2,c2,rfl,hc2,hm2,hy⟩:=Ag.open_ h2;have HX:=U hx;have HY:=U hy;have HA:=U hA;have HL:=U hl;clear h1 h2 hx hy hA;rw[hl]at hc1⊢;have hal:=JA (rows:=rows) (right:=right) (by omega);rw[hl]at hal;have HAL:=U hal;clear hal hl;go_enter func240,ntmps240
 go_wp2_with fail
 obtain⟨g,hg⟩:∃g,w.heap.size=g:=⟨_,rfl⟩;have HZ:=U (Aj.emptyL (w:=w));have B0:=U (Af (aB w.heap.size w) (.cells #[] 39));rw[hg]at HZ B0⊢;have HG:=U hg;clear hg;go_loopw [6,7] (fun o i wr =>∃(j:Nat) (A:Option Addr) (c:Nat) (fs:List Addr),j≤n∧i= int i64 j∧o= .slice A j c∧Aj 1 39 (Al 1 Ai) wr g o ((Do rows right).take j) fs∧Aw g wr fs∧Below g w wr) (fun _ i _ => n - (intOf i).toNat)
 case atStart => exact⟨0,_,_,_,by omega,rfl,rfl,HZ.o,F0,B0.o⟩
 case round =>
  obtain⟨j,A0,c0,fs,hj,rfl,rfl,hm,hmi,hb⟩:=hrel;have hgw:g≤wr.heap.size:=by rw[← HG.o];exact hb.size
  by_cases hlt:j<n
  ·have hjr:j<rows.length:=by rw[HL.o];exact hlt
   have hjr2:j<right.length:=by omega
   obtain⟨ad,A3,c3,fk,e1,b1,p1,r1,t1,-,-⟩:=HX.o j hjr;subst e1;obtain⟨a2,e2,m2,b2,g2⟩:=HY.o j hjr2;subst e2;have hlj:=HA.o _ (aN hjr);rw[hlj]at p1 r1;rw[HG.o]at b1 b2;have p1':=(hb.cell (p:=_) b1).trans p1;have p2':=(hb.cell (p:=a2.add j) b2).trans g2;have b1w:(ad.add j).block <wr.heap.size:=aE b1 hgw;have b2w:(a2.add j).block <wr.heap.size:=aE b2 hgw;have HKS:=U (show∀W,Below g wr W→W.cell? (ad.add j)=some (.slice A3 n c3)∧W.cell? (a2.add j)=some (.int .u8 (right[j].toNat:Int))from fun W hW =>⟨(hW.cell b1).trans p1',(hW.cell b2).trans p2'⟩);have hlen:((Do rows right).take j).length =j:=by rw[aQ,HAL.o];omega
   have hst:(Do rows right).take j ++ [rows[j] ++ [right[j]]] =(Do rows right).take (j+1):=by
    rw[aM (by rw[HAL.o];exact hlt)];simp[Do]
   have hr1:Ag wr fk (.slice A3 n c3) rows[j]:=rSl.keep Ai.local_ r1 (AQ.of_below (fun a ha => by have:=t1 a ha;rw[HG.o]at this;exact this) hb);have HA1:=U (show∀W g0,Below wr.heap.size wr W→Blk W g0 5 #[]→wr.heap.size≤g0→∃v' w',(Builtin.append_ #[39,39] 39 #[.slice (some ⟨g0,0,none⟩) 0 0,.slice A3 n c3]).run prog W= .ok v' w'∧∃A c,v'= .slice A n c∧Aj 1 5 Ai w' wr.heap.size v' rows[j] []∧W.grownBy w' (some g0)from fun W g0 hW hk hg0 => by
    have:=Tryz.freshRow (base:=wr.heap.size) hr1 hW hk hg0 hg0 (by rw[hlj];omega);rw[hlj]at this;exact this)
   have HA2:=U (show∀W (A:Option Addr) c b,Below wr.heap.size wr W→Aj 1 5 Ai W wr.heap.size (.slice A n c) rows[j] []→Blk W b 5 #[.int .u8 (right[j].toNat:Int)]→∃v' w',(Builtin.append_ #[39,39] 39 #[.slice A n c,.slice (some ⟨b,0,none⟩) 1 1]).run prog W= .ok v' w'∧∃A' c',v'= .slice A' (n+1) c'∧Aj 1 5 Ai w' wr.heap.size v' (rows[j] ++ [right[j]]) []∧W.grownBy w' (Value.slice A n c).ownBlock from fun W A c b hW ho hk => by
    have:=Tryz.addByte (x:=right[j]) ho (by rw[hlj];omega) hW.size hk;rw[hlj]at this;exact this)
   have HA3:=U (show∀w2 W ve b,Below wr.heap.size wr w2→Aj 1 5 Ai w2 wr.heap.size ve (rows[j] ++ [right[j]]) []→Below w2.heap.size w2 W→Blk W b 39 #[ve]→∃v' w',(Builtin.append_ #[83,83] 83 #[.slice A0 j c0,.slice (some ⟨b,0,none⟩) 1 1]).run prog W= .ok v' w'∧∃A c h,v'= .slice A (j+1) c∧Aj 1 39 (Al 1 Ai) w' g v' ((Do rows right).take (j+1)) (fs ++ h)∧Aw g w' (fs ++ h)∧Below g wr w' from fun w2 W ve b B2 he B5 hk => by
    obtain⟨v',w',q1,A,c,h,q2,q3,q4,q5,-⟩:=Tryz.addList hm hmi hgw (by rw[hlen];omega) B2 he B5 hk;rw[hlen]at q2;rw[hst]at q3;exact⟨v',w',q1,A,c,h,q2,q3,q4,q5⟩)
   have HB:=U hb;clear hm hmi hb p1 g2 r1 t1 hlj hlen hst hr1 b1 b2;go_wp2_with fail
   go_region_held3 (fun W => W.cell? (ad.add j)=some (.slice A3 n c3)∧W.cell? (a2.add j)=some (.int .u8 (right[j].toNat:Int))) (first|exact HKS.o _ b3|exact HKS.o _ (Below.mono (by repeat(with_reducible first|assumption|exact aB _ _|apply Af|apply An)) hgw))
   (first
    |(refine AR rfl (.tmp 19) (.tmp 23) 39 rfl _ _ (by rfl) (by rfl) (HA1.o _ _ (by repeat(with_reducible first|assumption|exact aB _ _|apply Af|apply An)) (by repeat(with_reducible first|exact Blk.new _ _ _|exact Blk.new1 _ _ _ _|apply Blk.drew_|apply Blk.alloc)) (by simp)) ?_;rintro v7 w7 ⟨A7,c7,rfl,o1,r1⟩;have B7:=Below.grown (show Below wr.heap.size wr _ by repeat(with_reducible first|assumption|exact aB _ _|apply Af|apply An)) r1 (by simp <;> omega) (fun k hk => by injection hk with hk;subst hk;simp))
    |(refine AR rfl (.tmp 24) (.tmp 29) 39 rfl _ _ (by rfl) (by rfl) (HA2.o _ A7 c7 _ (by repeat(with_reducible first|assumption|exact aB _ _|apply Af|apply An)) (by repeat(with_reducible first|exact o1|apply Aj.alloc_ Ai.local_ Ai.fixed|apply Aj.drew_ Ai.local_)) (by first|(with_reducible exact Blk.new _ _ _)|(refine Blk.grown ?_ r1 (by simp);repeat(with_reducible first|exact Blk.new _ _ _|exact Blk.new1 _ _ _ _|apply Blk.drew_|apply Blk.alloc)))) ?_;rintro v8 w8 ⟨A8,c8,rfl,o2,r2⟩;have B8:=Below.grown (show Below wr.heap.size wr _ by repeat(with_reducible first|assumption|exact aB _ _|apply Af|apply An)) r2 (by first|exact B7.size|(simp;have:=B7.size;omega)) (fun k hk =>(o1.lt k hk).1))
    |(refine AR rfl (.tmp 18) (.tmp 31) 83 rfl _ _ (by rfl) (by rfl) (HA3.o w8 _ _ _ B8 o2 (by repeat(with_reducible first|exact aB _ _|apply Af|apply An)) (by repeat(with_reducible first|exact Blk.new _ _ _|exact Blk.new1 _ _ _ _|apply Blk.drew_|apply Blk.alloc))) ?_;rintro v9 w9 ⟨A9,c9,h9,rfl,o3,m3,b3⟩))
   all_goals
    go_wp2_with fail
    go_roundw
    case rel => exact⟨j+1,A9,c9,_,by omega,by go_num,rfl,o3,m3,HB.o.trans b3⟩
    case measure => simp[intOf];omega
  obtain rfl:j=n:=by omega
  rw[bK (by rw[HAL.o];exact aC _)]at hm;obtain⟨g4,c4,e4,hc4,hc5,hM4,hbg⟩:=hm.mat (by rw[HAL.o];exact hpos);rw[HAL.o]at e4 hc4 hM4;injection e4 with e41 e42 e43
  subst e41 e43;have HMJ:=U hM4;have HB:=U hb;clear hm hb hM4 e42 hmi;obtain⟨rk,hrk⟩:∃rk,(BH j 0 0 (Do rows right)).1=rk:=⟨_,rfl⟩;obtain⟨ms2,hms⟩:∃ms2,(BH j 0 0 (Do rows right)).2=ms2:=⟨_,rfl⟩;have hsf:Eb rows right=if rk<j then none else some (ms2.map fun r => at0 r j):=by
   unfold Eb;rw[HL.o,hrk,hms]
  have HSF:=U hsf;have HRD:=U (l1Step_c g4 j c0 (j+1) j (Do rows right) wr HMJ.o (MA HA.o) (by omega) (by omega) (by omega) hc4 hc5);rw[hrk,hms]at HRD;clear hrk hms hsf;go_wp2_with fail
  refine HRD.o.mono ?_;rintro e w2 ⟨rfl,hm2,ha2,hw2⟩;have HM2:=U hm2;have HA2:=U ha2;have HB2:=U (HB.o.trans (hw2.below hgw (fun a ha => by rw[CY ha];exact hbg)));clear hm2 ha2 hw2 HRD;by_cases hrl:rk<j
  ·have h:=HSF.o;rw[aL hrl]at h;have HS:=U h;clear h;go_wp2_with fail
   go_ret2
   exact .inr ⟨HS.o,rfl,by rw[HG.o];exact HB2.o⟩
  have h:=HSF.o;rw[aI hrl]at h;have HS:=U h;clear h;have hgw2:g≤w2.heap.size:=by have:=HB2.o.size;rw[HG.o]at this;exact this
  go_wp2_with fail
  go_loopw [9,10] (fun o i w3 =>∃(k:Nat) (A:Option Addr) (c3:Nat),k≤j∧i= int i64 k∧o= .slice A k c3∧Aj 1 5 Ai w3 w2.heap.size o ((ms2.map fun r => at0 r j).take k) []∧Below w2.heap.size w2 w3) (fun _ i _ => j - (intOf i).toNat)
  case atStart => exact⟨0,_,0,by omega,rfl,rfl,Aj.emptyB,Af (aB _ _) _⟩
  case round =>
   obtain⟨k,A,c3,hk,rfl,rfl,ho,hb3⟩:=hrel;have hml:(ms2.map fun r => at0 r j).length =j:=by rw[bR,HM2.o.len]
   by_cases hkj:k<j
   ·obtain⟨ad,ca,fa,p1,p2,r1,n1,b1,d1⟩:=HM2.o.at_ HA2.o hkj (show j<j+1 by omega);have p1':=(hb3.cell (p:=⟨g4,k,none⟩) HM2.o.lt).trans p1;have p2':=(hb3.cell (p:=ad.add j) b1).trans p2;have hlen:((ms2.map fun r => at0 r j).take k).length =k:=by rw[aQ,hml];omega
    have hst:(ms2.map fun r => at0 r j).take k ++ [at0 (ms2.getD k []) j] =(ms2.map fun r => at0 r j).take (k+1):=by
     rw[aM (by omega)];simp[aJ,HM2.o.len,hkj]
    have HAP:=U (Fj (W:=wr.alloc (.cells #[.int .u8 ((at0 (ms2.getD k []) j).toNat:Int)] 5)) (b:=wr.heap.size) (x:=at0 (ms2.getD k []) j) ho hb3.size (by omega) (Af (aB _ _) _) (Blk.new _ _ _));rw[hlen,hst]at HAP;have HB3:=U hb3;clear ho hb3 p1 p2 r1 n1 hlen hst;go_wp2_with (at_builtin;refine Ar rfl (.tmp 46) (.tmp 54) 39 rfl (.slice A k c3) (.slice (some ⟨wr.heap.size,0,none⟩) 1 1) rfl rfl HAP.o ?_;rintro v6 w6 ⟨A6,c6,rfl,o6,B6,e6⟩;have HO6:=U o6;have HB6:=U B6;clear o6 B6)
    go_roundw
    case rel => exact⟨k+1,A6,c6,by omega,by go_num,rfl,HO6.o,HB3.o.trans HB6.o⟩
    case measure => simp[intOf];omega
   ·obtain rfl:k=j:=by omega
    rw[bK (by omega)]at ho;have HO:=U ho;have HB3:=U hb3;clear ho hb3;go_wp2_with fail
    go_ret2
    obtain⟨gs,r6,m6⟩:=HO.o.readsMine ⟨List.nodup_nil,(fun a ha => by cases ha),(fun a ha => by cases ha)⟩;exact .inl ⟨A,c3,gs,_,HS.o,hml,rfl,r6,m6.mono (by rw[HG.o];exact hgw2),by rw[HG.o];exact HB2.o.trans (HB3.o.mono hgw2)⟩
def BP(n p base i:Nat):UInt8:=if n≤p then cau (base+p - n) i else if i=p then 1 else 0
def Cl(n p base:Nat):List UInt8:=(List.range n).map (BP n p base)
theorem AT(n p base:Nat):(Cl n p base).length =n:=by simp[Cl]
def Cw(n p base j:Nat):List UInt8:=(List.range n).map fun i => if i<j then BP n p base i else 0
theorem GB(n p base j:Nat):(Cw n p base j).length =n:=by simp[Cw]
theorem EG(n p base:Nat):Cw n p base 0=List.replicate n 0:=by
 apply bP
 ·simp[Cw]
 ·intro i h1 h2;simp[Cw]
theorem I1(n p base:Nat):Cw n p base n=Cl n p base:=by
 apply bP
 ·simp[Cw,Cl]
 ·intro i h1 h2;simp only[Cw,bR,List.length_range]at h1;simp[Cw,Cl,h1]
theorem EF {n p base j:Nat}(_:j<n):(Cw n p base j).set j (BP n p base j)=Cw n p base (j+1):=by
 apply bP
 ·simp[Cw]
 ·intro i h1 h2;simp only[List.getElem_set,Cw,bQ,List.getElem_range];by_cases e:j=i
  ·subst e;simp
  ·rw[aI e];by_cases h:i<j
   ·rw[aL h,aL (by omega)]
   ·rw[aI h,aI (by omega)]
theorem Il {n p base j:Nat}(h:BP n p base j=0):Cw n p base (j+1)=Cw n p base j:=by
 apply bP
 ·simp[Cw]
 ·intro i h1 h2;simp only[Cw,bQ,List.getElem_range];by_cases e:i=j
  ·subst e;simp[h]
  ·by_cases h:i<j
   ·rw[aL h,aL (by omega)]
   ·rw[aI h,aI (by omega)]
theorem mapSet {l:List UInt8} {j:Nat} {x:UInt8}:(l.map Be).toArray.setIfInBounds j (.int .u8 (x.toNat:Int))=((l.set j x).map Be).toArray:=by
 apply Array.toList_inj.1
 simp[List.map_set,Be]
theorem FQ(n:Nat):madeCells #[.int .u8 0] n=((List.replicate n (0:UInt8)).map Be).toArray:=by
 apply Array.toList_inj.1
 rw[toList_madeCells_one];simp[Be]
theorem Blk.byteAt {w:World} {g j:Nat} {t:TypeId} {l:List UInt8}(h:Blk w g t (l.map Be).toArray)(hj:j<l.length):w.cell? ⟨g,j,none⟩=some (.int .u8 (l[j].toNat:Int)):=by
 rw[h.cell];simp[Be,hj]
theorem Blk.putByte {w:World} {g j:Nat} {t:TypeId} {l:List UInt8}(h:Blk w g t (l.map Be).toArray)(x:UInt8):Blk (w.setCell ⟨g,j,none⟩ (.int .u8 (x.toNat:Int))) g t ((l.set j x).map Be).toArray:=by
 have:=h.set_ j (.int .u8 (x.toNat:Int));rwa [mapSet]at this
theorem Blk.freshB {w w':World} {g:Nat} {l:List UInt8}(h:Blk w' g 5 (l.map Be).toArray)(hb:Below w.heap.size w w')(hg:w.heap.size≤g)(hl:l.length≤1000000):By l w (.returned (.slice (some ⟨g,0,none⟩) l.length l.length)) w':=by
 refine⟨_,_,AV ⟨g,0,none⟩ l.length,rfl,Ag.of_blk h (by omega),⟨DO rfl,fun a ha => by rw[CY ha];exact hg,fun a ha => ?_⟩,hb⟩;obtain⟨q,_,rfl⟩:=Bb.1 ha;rw[Cs];exact h.frozen q
theorem GM(n s p:Nat)(hn:n≤50)(hp:p≤50)(w:World) :
  Calls prog 297 #[.agg #[int i64 (n:Int),int i64 (s:Int)],int i64 (p:Int)] w (By (Cl n p 0) w):=by
 have hmk:=Tryz.makeBytes n (by omega);go_enter func297,ntmps297
 go_wp2_with fail
 have hK:=Blk.new1 w (.cells #[int i64 (n:Int),int i64 (s:Int)] 226) 5 (madeCells #[.int .u8 0] n);rw[FQ,← EG n p 0]at hK;have hBx:=(Blk.new w 226 #[int i64 (n:Int),int i64 (s:Int)]).alloc (.cells (((Cw n p 0 0).map Be).toArray) 5);have hB0:=Af (Af (aB w.heap.size w) (.cells #[int i64 (n:Int),int i64 (s:Int)] 226)) (.cells (((Cw n p 0 0).map Be).toArray) 5);rw[FQ,← EG n p 0];have HK:=U hK;have HBx:=U hBx;have HB0:=U hB0;clear hK hBx hB0 hmk;go_loopw [12,6,15,29] (fun i _ _ _ wr =>∃j:Nat,j≤n∧i= int i64 j∧Blk wr (w.heap.size+1) 5 ((Cw n p 0 j).map Be).toArray∧Blk wr w.heap.size 226 #[int i64 (n:Int),int i64 (s:Int)]∧Below w.heap.size w wr) (fun i _ _ _ _ => n - (intOf i).toNat)
 case atStart => exact⟨0,by omega,rfl,HK.o,HBx.o,HB0.o⟩
 case round =>
  obtain⟨j,hj,rfl,hk,hx,hb⟩:=hrel;have c0:wr.cell? ⟨w.heap.size,0,none⟩=some (int i64 (n:Int)):=by rw[hx.cell];rfl
  by_cases hlt:j<n
  ·have q1:=hk.byteAt (j:=j) (by rw[GB];exact hlt);have q2:=hk.frozen j;have q3:=hk.lt;have HK2:=U hk;have HX2:=U hx;have HB2:=U hb;clear hk hx hb;by_cases hge:n≤p
   ·have hcc:=fun W => cauchy_c (p - n) j (by omega) (by omega) W
    rw[show((p - n:Nat):Int)=(p:Int) - (n:Int)from by omega]at hcc;have hgb:BP n p 0 j=cau (p - n) j:=by unfold BP;rw[aL hge,Nat.zero_add]
    have hst:=EF (p:=p) (base:=0) hlt;rw[hgb]at hst;obtain⟨x,hx⟩:∃x,cau (p - n) j=x:=⟨_,rfl⟩;rw[hx]at hcc hst;have HCC:=U hcc;have HST:=U hst;clear hcc hst hgb hx;go_wp2_with (go_at_call 317;refine(HCC.o _).mono ?_;rintro e w' ⟨rfl,rfl⟩)
    go_roundw
    case rel => exact⟨j+1,by omega,by go_num,by rw[← HST.o];exact HK2.o.putByte x,HX2.o.far (by simp) _,HB2.o.setCell (by simp) _⟩
    case measure => simp[intOf];omega
   ·by_cases he:p=j
    ·subst he;have hgb:BP n p 0 p=1:=by unfold BP;rw[aI hge,aL rfl]
     have hst:=EF (p:=p) (base:=0) hlt;rw[hgb]at hst;have HST:=U hst;clear hst hgb;go_wp2_with fail
     go_roundw
     case rel => exact⟨p+1,by omega,by go_num,by rw[← HST.o];exact HK2.o.putByte 1,HX2.o.far (by simp) _,HB2.o.setCell (by simp) _⟩
     case measure => simp[intOf];omega
    ·have hgb:BP n p 0 j=0:=by unfold BP;rw[aI hge,aI (fun h => he h.symm)]
     have HST:=U (Il hgb);go_wp2_with fail
     go_roundw
     case rel => exact⟨j+1,by omega,by go_num,by rw[HST.o];exact HK2.o,HX2.o,HB2.o⟩
     case measure => simp[intOf];omega
  ·obtain rfl:j=n:=by omega
   have HK2:=U hk;have HB2:=U hb;clear hk hx hb;go_wp2_with fail
   go_ret
   have h:=HK2.o;rw[I1]at h;have:=h.freshB HB2.o (by omega) (by rw[AT];omega);rw[AT]at this;exact this
theorem GQ(n s p:Nat)(hn:n≤50)(hp:p≤50)(w:World) :
  Calls prog 182 #[.agg #[int i64 (n:Int),int i64 (s:Int)],int i64 (p:Int)] w (By (Cl n p 8) w):=by
 have hmk:=Tryz.makeBytes n (by omega);go_enter func182,ntmps182
 go_wp2_with fail
 have hK:=Blk.new1 w (.cells #[int i64 (n:Int),int i64 (s:Int)] 96) 5 (madeCells #[.int .u8 0] n);rw[FQ,← EG n p 8]at hK;have hBx:=(Blk.new w 96 #[int i64 (n:Int),int i64 (s:Int)]).alloc (.cells (((Cw n p 8 0).map Be).toArray) 5);have hB0:=Af (Af (aB w.heap.size w) (.cells #[int i64 (n:Int),int i64 (s:Int)] 96)) (.cells (((Cw n p 8 0).map Be).toArray) 5);rw[FQ,← EG n p 8];have HK:=U hK;have HBx:=U hBx;have HB0:=U hB0;clear hK hBx hB0 hmk;go_loopw [12,6,15,29] (fun i _ _ _ wr =>∃j:Nat,j≤n∧i= int i64 j∧Blk wr (w.heap.size+1) 5 ((Cw n p 8 j).map Be).toArray∧Blk wr w.heap.size 96 #[int i64 (n:Int),int i64 (s:Int)]∧Below w.heap.size w wr) (fun i _ _ _ _ => n - (intOf i).toNat)
 case atStart => exact⟨0,by omega,rfl,HK.o,HBx.o,HB0.o⟩
 case round =>
  obtain⟨j,hj,rfl,hk,hx,hb⟩:=hrel;have c0:wr.cell? ⟨w.heap.size,0,none⟩=some (int i64 (n:Int)):=by rw[hx.cell];rfl
  by_cases hlt:j<n
  ·have q1:=hk.byteAt (j:=j) (by rw[GB];exact hlt);have q2:=hk.frozen j;have q3:=hk.lt;have HK2:=U hk;have HX2:=U hx;have HB2:=U hb;clear hk hx hb;by_cases hge:n≤p
   ·have hcc:=fun W => MN j (p - n) (by omega) (by omega) W
    rw[show((p - n:Nat):Int)=(p:Int) - (n:Int)from by omega]at hcc;have hgb:BP n p 8 j=cau (8+(p - n)) j:=by unfold BP;rw[aL hge,Nat.add_sub_assoc hge]
    have hst:=EF (p:=p) (base:=8) hlt;rw[hgb]at hst;obtain⟨x,hx⟩:∃x,cau (8+(p - n)) j=x:=⟨_,rfl⟩;rw[hx]at hcc hst;have HCC:=U hcc;have HST:=U hst;clear hcc hst hgb hx;go_wp2_with (go_at_call 254;refine(HCC.o _).mono ?_;rintro e w' ⟨rfl,rfl⟩)
    go_roundw
    case rel => exact⟨j+1,by omega,by go_num,by rw[← HST.o];exact HK2.o.putByte x,HX2.o.far (by simp) _,HB2.o.setCell (by simp) _⟩
    case measure => simp[intOf];omega
   ·by_cases he:p=j
    ·subst he;have hgb:BP n p 8 p=1:=by unfold BP;rw[aI hge,aL rfl]
     have hst:=EF (p:=p) (base:=8) hlt;rw[hgb]at hst;have HST:=U hst;clear hst hgb;go_wp2_with fail
     go_roundw
     case rel => exact⟨p+1,by omega,by go_num,by rw[← HST.o];exact HK2.o.putByte 1,HX2.o.far (by simp) _,HB2.o.setCell (by simp) _⟩
     case measure => simp[intOf];omega
    ·have hgb:BP n p 8 j=0:=by unfold BP;rw[aI hge,aI (fun h => he h.symm)]
     have HST:=U (Il hgb);go_wp2_with fail
     go_roundw
     case rel => exact⟨j+1,by omega,by go_num,by rw[HST.o];exact HK2.o,HX2.o,HB2.o⟩
     case measure => simp[intOf];omega
  ·obtain rfl:j=n:=by omega
   have HK2:=U hk;have HB2:=U hb;clear hk hx hb;go_wp2_with fail
   go_ret
   have h:=HK2.o;rw[I1]at h;have:=h.freshB HB2.o (by omega) (by rw[AT];omega);rw[AT]at this;exact this
theorem Lv(n p base:Nat)(hn:n≤50)(hp:p≤50)(hbs:base≤40)(w:World) :
  Calls prog 163 #[int i64 (n:Int),int i64 (p:Int),int i64 (base:Int)] w (By (Cl n p base) w):=by
 have hmk:=Tryz.makeBytes n (by omega);go_enter func163,ntmps163
 go_wp2_with fail
 have hK:=Blk.new w 5 (madeCells #[.int .u8 0] n);rw[FQ,← EG n p base]at hK;have hB0:=Af (aB w.heap.size w) (.cells (((Cw n p base 0).map Be).toArray) 5);rw[FQ,← EG n p base];have HK:=U hK;have HB0:=U hB0;clear hK hB0 hmk;go_loopw [8] (fun i wr =>∃j:Nat,j≤n∧i= int i64 j∧Blk wr w.heap.size 5 ((Cw n p base j).map Be).toArray∧Below w.heap.size w wr) (fun i _ => n - (intOf i).toNat)
 case atStart => exact⟨0,by omega,rfl,HK.o,HB0.o⟩
 case round =>
  obtain⟨j,hj,rfl,hk,hb⟩:=hrel;by_cases hlt:j<n
  ·have q1:=hk.byteAt (j:=j) (by rw[GB];exact hlt);have q2:=hk.frozen j;have q3:=hk.lt;have HK2:=U hk;have HB2:=U hb;clear hk hb;by_cases hge:n≤p
   ·have hcc:=fun W => Kv (base+p - n) j (by omega) (by omega) W
    rw[show((base+p - n:Nat):Int)=(base:Int)+(p:Int) - (n:Int)from by omega]at hcc;have hgb:BP n p base j=cau (base+p - n) j:=by unfold BP;rw[aL hge]
    have hst:=EF (p:=p) (base:=base) hlt;rw[hgb]at hst;obtain⟨x,hx⟩:∃x,cau (base+p - n) j=x:=⟨_,rfl⟩;rw[hx]at hcc hst;have HCC:=U hcc;have HST:=U hst;clear hcc hst hgb hx;go_wp2_with (go_at_call 157;refine(HCC.o _).mono ?_;rintro e w' ⟨rfl,rfl⟩)
    go_roundw
    case rel => exact⟨j+1,by omega,by go_num,by rw[← HST.o];exact HK2.o.putByte x,HB2.o.setCell (by simp) _⟩
    case measure => simp[intOf];omega
   ·by_cases he:p=j
    ·subst he;have hgb:BP n p base p=1:=by unfold BP;rw[aI hge,aL rfl]
     have hst:=EF (p:=p) (base:=base) hlt;rw[hgb]at hst;have HST:=U hst;clear hst hgb;go_wp2_with fail
     go_roundw
     case rel => exact⟨p+1,by omega,by go_num,by rw[← HST.o];exact HK2.o.putByte 1,HB2.o.setCell (by simp) _⟩
     case measure => simp[intOf];omega
    ·have hgb:BP n p base j=0:=by unfold BP;rw[aI hge,aI (fun h => he h.symm)]
     have HST:=U (Il hgb);have he2:¬(j:Int)=(p:Int):=by omega
     go_wp2_with fail
     go_roundw
     case rel => exact⟨j+1,by omega,by go_num,by rw[HST.o];exact HK2.o,HB2.o⟩
     case measure => simp[intOf];omega
  ·obtain rfl:j=n:=by omega
   have HK2:=U hk;have HB2:=U hb;clear hk hb;go_wp2_with fail
   go_ret
   have h:=HK2.o;rw[I1]at h;have:=h.freshB HB2.o (by omega) (by rw[AT];omega);rw[AT]at this;exact this
def Fw(n:Nat)(hv:List Nat)(base:Nat):List (List UInt8):=(List.range n).map fun i => hv.map fun k => BP n k base i
def FA(n:Nat)(hv:List Nat)(want base:Nat):Option (List UInt8):=Eb (Fw n hv base) (Cl n want base)
def Jh:Nat→Nat→Nat→List (List Nat)
 |0,_,_ => [[]]
 |k+1,a,b =>(List.range b).flatMap fun x => if a≤x then(Jh k (x+1) b).map (x :: ·)else []
def Ei(b:Nat):Nat→List Nat→Prop
 |_,[] => True
 |a,x :: r => a≤x∧x<b∧Ei b (x+1) r
theorem KP {b:Nat}:∀(l:List Nat) (a:Nat),Ei b a l→l∈Jh l.length a b
 | [],_,_ => by simp[Jh]
 |x :: r,a,h => by
  obtain⟨h1,h2,h3⟩:=h;have:=KP r (x+1) h3;simp only[Jh,List.length_cons,List.mem_flatMap,List.mem_range];refine⟨x,h2,?_⟩;rw[aL h1];exact List.mem_map.2 ⟨r,this,rfl⟩
def Ej(n base:Nat):Bool:=(Jh n 0 (n+2)).all fun hv =>(List.range (n+2)).all fun want =>(FA n hv want base).isSome && (FA n hv want base).all fun L => L.length == n
theorem solve_r1:Ej 1 0=true:=by decide +kernel
theorem solve_r2:Ej 2 0=true:=by decide +kernel
theorem solve_r3:Ej 3 0=true:=by decide +kernel
theorem solve_c1:Ej 1 8=true:=by decide +kernel
theorem solve_c2:Ej 2 8=true:=by decide +kernel
theorem solve_c3:Ej 3 8=true:=by decide +kernel
theorem solve_c4:Ej 4 8=true:=by decide +kernel
theorem GO {n base:Nat}(h:Ej n base=true) {hv:List Nat} {want:Nat}(hl:hv.length=n)(hr:Ei (n+2) 0 hv)(hw:want<n+2):∃L,FA n hv want base=some L∧L.length=n:=by
 subst hl;have h1:=List.all_eq_true.1 h hv (KP hv 0 hr);have h2:=List.all_eq_true.1 h1 want (List.mem_range.2 hw);rw[Bool.and_eq_true]at h2;obtain⟨L,hL⟩:=Option.isSome_iff_exists.1 h2.1;have h3:=h2.2;rw[hL]at h3;exact⟨L,hL,by simpa using h3⟩
theorem wts_row {n:Nat}(h1:1≤n)(h3:n≤3) {hv:List Nat} {want:Nat}(hl:hv.length=n)(hr:Ei (n+2) 0 hv)(hw:want<n+2):∃L,FA n hv want 0=some L∧L.length=n:=by
 match n,h1,h3 with
 |1,_,_ => exact GO solve_r1 hl hr hw
 |2,_,_ => exact GO solve_r2 hl hr hw
 |3,_,_ => exact GO solve_r3 hl hr hw
theorem wts_col {n:Nat}(h1:1≤n)(h3:n≤4) {hv:List Nat} {want:Nat}(hl:hv.length=n)(hr:Ei (n+2) 0 hv)(hw:want<n+2):∃L,FA n hv want 8=some L∧L.length=n:=by
 match n,h1,h3 with
 |1,_,_ => exact GO solve_c1 hl hr hw
 |2,_,_ => exact GO solve_c2 hl hr hw
 |3,_,_ => exact GO solve_c3 hl hr hw
 |4,_,_ => exact GO solve_c4 hl hr hw
structure Df (w:World) (lo g:Nat) (ms:List (List UInt8)) (vs:List Value):Prop where
 len:vs.length=ms.length
 blk:Blk w g 39 vs.toArray
 own:∀i,(h:i<vs.length)→Aj 1 5 Ai w lo vs[i] (ms.getD i []) []
 apart:∀i j,(hi:i<vs.length)→(hj:j<vs.length)→i≠j→∀b,vs[i].ownBlock =some b→vs[j].ownBlock≠some b
 lo:g<lo
def IM(w:World)(g:Nat)(vs:List Value)(fs:List Addr):Prop:=∀a,a∈fs→a.block<w.heap.size∧a.block≠g∧∀v,v∈vs→v.ownBlock≠some a.block
theorem Df.below {w w':World} {lo g:Nat} {ms:List (List UInt8)} {vs:List Value}(h:Df w lo g ms vs)(hb:Below w.heap.size w w'):Df w' lo g ms vs :=
 ⟨h.len,h.blk.below hb h.blk.lt,fun i hi =>(h.own i hi).below Ai.local_ Ai.fixed hb,h.apart,h.lo⟩
theorem Df.drew_ {w:World} {lo g:Nat} {ms:List (List UInt8)} {vs:List Value}(h:Df w lo g ms vs):Df w.drew lo g ms vs:=h.below (An (aB _ _))
theorem Df.nil {w:World} {lo g n:Nat}(h:Blk w g 39 (madeCells #[.slice none 0 0] n))(hl:g<lo):Df w lo g (List.replicate n []) (List.replicate n (.slice none 0 0)):=by
 refine⟨by simp,?_,fun i hi => ?_,fun i j hi hj hne b e => ?_,hl⟩
 ·have e:madeCells #[.slice none 0 0] n=(List.replicate n (Value.slice none 0 0)).toArray:=by
   apply Array.toList_inj.1
   rw[toList_madeCells_one]
  rwa [e]at h
 ·simp only[List.getElem_replicate];have:(List.replicate n ([]:List UInt8)).getD i [] = []:=by simp[aJ,List.getElem?_replicate];split <;> rfl
  rw[this];exact Aj.start ⟨rfl,.inl ⟨rfl,rfl⟩⟩
 ·simp only[List.getElem_replicate]at e;cases e
theorem Df.form {w:World} {lo g:Nat} {ms:List (List UInt8)} {vs:List Value}(h:Df w lo g ms vs) {i:Nat}(hi:i<vs.length):∃A c,vs[i] = .slice A (ms.getD i []).length c∧w.cell? ⟨g,i,none⟩=some (.slice A (ms.getD i []).length c):=by
 obtain⟨A,c,e,-⟩:=(h.own i hi).length;refine⟨A,c,e,?_⟩;rw[h.blk.cell,← e];simp[hi]
theorem Tryz.addByte2 {W:World} {base b:Nat} {v:Value} {ds:List UInt8} {x:UInt8}(ho:Aj 1 5 Ai W base v ds [])(hn:ds.length+1≤1000000000)(hbase:base≤W.heap.size)(hblk:Blk W b 5 #[.int .u8 (x.toNat:Int)]) :
  ∃v' w',(Builtin.append_ #[39,39] 39 #[v,.slice (some ⟨b,0,none⟩) 1 1]).run prog W= .ok v' w'∧Aj 1 5 Ai w' base v' (ds ++ [x]) []∧W.grownBy w' v.ownBlock∧(v'.ownBlock=v.ownBlock∨v'.ownBlock=some W.heap.size):=by
 obtain⟨v',w',h1,h,h2,h3,h4,h5⟩:=Aj.appendOne (P:=prog) 39 39 (.int .u8 0) 1 underlying39 Tryz.info5 rfl (by decide) Ai.local_ Ai.fixed Ev base v ds [] ho b [.int .u8 (x.toNat:Int)] [] x rfl hblk ⟨rfl,rfl⟩ (fun a ha => by cases ha) hn (by omega) hbase;have h6:=Aj.flatBytes h2;rw[h6]at h2;exact⟨v',w',h1,h2,h4,h5⟩
structure Laid (w:World) (lo g i:Nat) (ms:List (List UInt8)) (vs:List Value) (row:List UInt8) (v':Value) (w6:World):Prop where
 mat:Df (w6.setCell ⟨g,i,none⟩ v') lo g (ms.set i row) (vs.set i v')
 foot:∀fs,IM w g vs fs→AQ fs w (w6.setCell ⟨g,i,none⟩ v')∧IM (w6.setCell ⟨g,i,none⟩ v') g (vs.set i v') fs
 cell:w6.cell? ⟨g,i,none⟩=w.cell? ⟨g,i,none⟩
 free:w6.frozen? ⟨g,i,none⟩=false
 lt:g<w6.heap.size
 below:Below g w (w6.setCell ⟨g,i,none⟩ v')
theorem Df.step {w W:World} {lo g i b:Nat} {ms:List (List UInt8)} {vs:List Value} {x:UInt8} {A:Option Addr} {n c:Nat}(h:Df w lo g ms vs)(hi:i<vs.length)(hv:vs[i] = .slice A n c)(hlen:(ms.getD i []).length +1≤1000000)(hlo:lo≤w.heap.size)(hW:Below w.heap.size w W)(hk:Blk W b 5 #[.int .u8 (x.toNat:Int)]) :
  ∃v' w6,(Builtin.append_ #[39,39] 39 #[.slice A n c,.slice (some ⟨b,0,none⟩) 1 1]).run prog W= .ok v' w6∧∃A' c',v'= .slice A' ((ms.getD i []).length +1) c'∧Laid w lo g i ms vs (ms.getD i [] ++ [x]) v' w6:=by
 have hW2:=h.below hW;obtain⟨v',w6,h1,h2,h3,h4⟩:=Tryz.addByte2 (x:=x) (hW2.own i hi) (by omega) (bL hlo hW.size) hk;obtain⟨A',c',e,-⟩:=h2.length;have hs:=hW.size;have hl:=h.len;have hgW:g<W.heap.size:=hW2.blk.lt;have far:∀k,(hk:k<vs.length)→k≠i→∀q,vs[k].ownBlock =some q→vs[i].ownBlock≠some q:=fun k hk hne q e1 => h.apart k i hk hi hne q e1
 have own':∀q,vs[i].ownBlock =some q→lo≤q∧q<W.heap.size:=(hW2.own i hi).lt;have hg6:some g≠vs[i].ownBlock:=fun e1 => by have:=own' g e1.symm;have:=h.lo;omega
 have hb6:Blk w6 g 39 vs.toArray:=hW2.blk.grown h3 hg6;have hset:(vs.toArray).setIfInBounds i v'=(vs.set i v').toArray:=by simp
 rw[hv]at h1;refine⟨v',w6,h1,A',c',by rw[e];simp,⟨⟨by simp[hl],?_,fun k hk => ?_,fun j k hj hk hne q e1 => ?_,h.lo⟩,fun fs hf =>⟨fun a ha => ?_,fun a ha => ?_⟩,?_,hb6.frozen i,hb6.lt,?_⟩⟩
 ·have:=hb6.set_ i v';rwa [hset]at this
 ·have hk2:k<vs.length:=by simpa using hk
  by_cases e2:i=k
  ·subst e2;have e3:(ms.set i (ms.getD i [] ++ [x])).getD i [] =ms.getD i [] ++ [x]:=by simp[aJ,← hl,hi]
   simp only[List.getElem_set_self];rw[e3];refine h2.keep Ai.local_ (fun q hq => Below.heap_setCell _ _ _ _ (fun e5 => ?_)) (fun a ha => by cases ha);have:=(h2.lt q hq).1;have:=h.lo;simp only at e5;omega
  ·have e3:(ms.set i (ms.getD i [] ++ [x])).getD k [] =ms.getD k []:=by simp[aJ,List.getElem?_set_ne e2]
   simp only[List.getElem_set_ne e2];rw[e3];refine(hW2.own k hk2).keep Ai.local_ (fun q hq => ?_) (fun a ha => by cases ha);have hq2:=(hW2.own k hk2).lt q hq;rw[Below.heap_setCell _ _ _ _ (fun e5 => by have:=h.lo;simp only at e5;omega)];exact h3.block q hq2.2 (fun e6 => far k hk2 (fun e7 => e2 e7.symm) q hq e6.symm)
 ·have hj2:j<vs.length:=by simpa using hj
  have hk2:k<vs.length:=by simpa using hk
  have new:∀m,(hm:m<vs.length)→m≠i→∀q,vs[m].ownBlock =some q→v'.ownBlock≠some q:=fun m hm hne2 q e5 e6 => by
   rcases h4 with e4|e4
   ·rw[e4]at e6;exact far m hm hne2 q e5 e6
   ·rw[e4]at e6;injection e6 with e6;have:=(hW2.own m hm).lt q e5;omega
  by_cases e2:i=j
  ·subst e2;simp only[List.getElem_set_self]at e1;simp only[List.getElem_set_ne hne];exact fun e3 => new k hk2 (fun h => hne h.symm) q e3 e1
  ·simp only[List.getElem_set_ne e2]at e1;by_cases e3:i=k
   ·subst e3;simp only[List.getElem_set_self];exact new j hj2 hne q e1
   ·simp only[List.getElem_set_ne e3];exact h.apart j k hj2 hk2 hne q e1
 ·obtain⟨f1,f2,f3⟩:=hf a ha;rw[World.cell?_setCell_other _ _ _ _ (fun e5 => f2 (by rw[← e5]))];rw[h3.cell_far a (aE f1 hs) (fun e5 => f3 _ (aN hi) e5.symm)];exact hW.cell f1
 ·obtain⟨f1,f2,f3⟩:=hf a ha;refine⟨by have:=h3.size;simp[World.setCell];omega,f2,fun v hv2 e5 => ?_⟩;rcases List.mem_or_eq_of_mem_set hv2 with h6|rfl
  ·exact f3 v h6 e5
  ·rcases h4 with e4|e4
   ·rw[e4]at e5;exact f3 _ (aN hi) e5
   ·rw[e4]at e5;injection e5 with e5;omega
 ·rw[hb6.cell,h.blk.cell]
 ·exact(Below.grown (hW.mono (Nat.le_of_lt h.blk.lt)) h3 (Nat.le_of_lt hgW) (fun k hk => by have:=(own' k hk).1;have:=h.lo;omega)).setCell (aC _) _
theorem Df.lists {w:World} {lo g:Nat} {ms:List (List UInt8)} {vs:List Value} {n:Nat}(h:Df w lo g ms vs)(hn:ms.length=n)(hm:n≤1000000):∃fs,As w fs (.slice (some ⟨g,0,none⟩) n n) ms:=by
 have hl:=h.len;have hr:∀i,(hi:i<n)→∃gs,Al 1 Ai w gs [vs[i]'(by omega)] ms[i]:=fun i hi => by
  have ho:=h.own i (by omega);obtain⟨gs,h1,-⟩:=ho.reads;rw[List.append_nil]at h1;have e:ms.getD i [] =ms[i]:=by rw[aJ,aO (by omega)];rfl
  rw[e]at h1;exact⟨gs,_,rfl,h1⟩
 let F:Nat→List Addr:=fun i => if hi:i<n then Classical.choose (hr i hi)else []
 have hF:∀i,(hi:i<n)→Al 1 Ai w (F i) [vs[i]'(by omega)] ms[i]:=fun i hi => by
  have:F i=Classical.choose (hr i hi):=dif_pos hi;rw[this];exact Classical.choose_spec (hr i hi)
 have:=rSl.ofRow (w:=w) (g:=g) (n:=n) (k:=1) (R:=Al 1 Ai) (ds:=ms) (vs.map fun v => [v]) ((List.range n).map F) hn (by omega) (by simp;omega) (by simp) (fun i hi => by
  simp only[bQ,List.getElem_range];refine⟨rfl,fun q hq => ?_,hF i hi⟩;have:q=0:=by simpa using hq
  subst this;rw[Nat.mul_one,bE,h.blk.cell];simp[show i<vs.length by omega])
 exact⟨_,this⟩
def BE(n:Nat)(hv:List Nat)(base k i:Nat):List (List UInt8):=(List.range n).map fun r =>((hv.take k).map fun h => BP n h base r) ++(if r<i then [BP n (hv.getD k 0) base r]else [])
theorem Gd(n:Nat)(hv:List Nat)(base k i:Nat):(BE n hv base k i).length =n:=by simp[BE]
theorem Hr(n:Nat)(hv:List Nat)(base:Nat):BE n hv base 0 0=List.replicate n []:=by
 apply bP
 ·simp[BE]
 ·intro i h1 h2;simp[BE]
theorem JM {n:Nat} {hv:List Nat} {base k i r:Nat}(hr:r<n):(BE n hv base k i).getD r [] =((hv.take k).map fun h => BP n h base r) ++(if r<i then [BP n (hv.getD k 0) base r]else []):=by
 simp[BE,aJ,hr]
theorem Hq {n:Nat} {hv:List Nat} {base k i:Nat}(hi:i<n):(BE n hv base k i).set i ((BE n hv base k i).getD i [] ++ [BP n (hv.getD k 0) base i])=BE n hv base k (i+1):=by
 rw[JM hi,aI (by omega),List.append_nil];apply bP
 ·simp[BE]
 ·intro r h1 h2;simp only[List.getElem_set,BE,bQ,List.getElem_range];by_cases e:i=r
  ·subst e;rw[aL rfl,aL (by omega)]
  ·rw[aI e];by_cases h:r<i
   ·rw[aL h,aL (by omega)]
   ·rw[aI h,aI (by omega)]
theorem Hp {n:Nat} {hv:List Nat} {base k:Nat}(hk:k<hv.length):BE n hv base k n=BE n hv base (k+1) 0:=by
 apply bP
 ·simp[BE]
 ·intro r h1 h2;have hr:r<n:=by simpa [BE]using h1
  simp only[BE,bQ,List.getElem_range];rw[aL hr,aI (by omega),aM hk,List.map_append,List.append_nil];simp[aJ,hk]
theorem Iy {n:Nat} {hv:List Nat} {base:Nat}:BE n hv base hv.length 0=Fw n hv base:=by
 apply bP
 ·simp[BE,Fw]
 ·intro r h1 h2;simp only[BE,Fw,bQ,List.getElem_range];rw[aI (by omega),List.append_nil,aV]
theorem Iz {n:Nat} {hv:List Nat} {base k i:Nat}(hi:i<n)(hk:k≤hv.length):((BE n hv base k i).getD i []).length =k:=by
 rw[JM hi,aI (by omega)];simp;omega
theorem DZ(n:Nat)(hv:List Nat)(base:Nat):(Fw n hv base).length =n:=by simp[Fw]
theorem Jj {n:Nat} {hv:List Nat} {base:Nat}(h:hv.length=n):Ci (Fw n hv base) n:=by
 intro l hl;simp only[Fw,List.mem_map]at hl;obtain⟨i,_,rfl⟩:=hl;simpa using h
theorem Im {n p base i:Nat}(h:i<n):(Cl n p base)[i]'(by rw[AT];exact h)=BP n p base i:=by simp[Cl]
def Fa(l:List Nat):List Int:=l.map fun(x:Nat) =>(x:Int)
theorem Ct(l:List Nat):(Fa l).length =l.length:=by simp[Fa]
theorem JW {l:List Nat} {i:Nat}(h:i<l.length):(Fa l)[i]'(by rw[Ct];exact h)=((l[i]:Nat):Int):=by simp[Fa]
theorem Nz {n:Nat} {rows:List (List UInt8)} {right L:List UInt8} {w w':World} {e:Ending}(h:(∃A c fs L,Eb rows right=some L∧L.length=n∧e= .returned (.tuple #[.slice A n c,.bool true])∧Ag w' fs (.slice A n c) L∧Aw w.heap.size w' fs∧Below w.heap.size w w')∨(Eb rows right=none∧e= .returned (.tuple #[.slice none 0 0,.bool false])∧Below w.heap.size w w'))(hS:Eb rows right=some L) :
  ∃A c fs,e= .returned (.tuple #[.slice A n c,.bool true])∧Ag w' fs (.slice A n c) L∧Aw w.heap.size w' fs∧Below w.heap.size w w':=by
 rcases h with⟨A,c,fs,L',h1,-,h2,h3,h4,h5⟩|⟨h1,-⟩
 ·rw[hS]at h1;injection h1 with h1
  subst h1;exact⟨A,c,fs,h2,h3,h4,h5⟩
 ·rw[hS]at h1;cases h1
theorem PV(n s want:Nat)(hv:List Nat)(v:Value)(f:List Addr)(w:World)(L:List UInt8)(h:AO w f v (Fa hv))(hl:hv.length=n)(hn:n≤20)(hk:∀k,k∈hv→k≤50)(hw:want≤50)(hS:FA n hv want 0=some L)(hL:L.length=n) :
  Calls prog 261 #[.agg #[int i64 (n:Int),int i64 (s:Int)],v,int i64 (want:Int)] w (By L w):=by
 obtain⟨A1,c1,rfl,hc1,hm1,hx⟩:=AO.open_ h;have HX:=U hx;have HHV:=U hk;have HS:=U hS;have HLL:=U hL;clear h hx hk hS hL;rw[Ct,hl]at hc1⊢;have HL:=U hl;clear hl;have hmk:=Tryz.makeLists n (by omega);go_enter func261,ntmps261
 go_wp2_with fail
 have hK:=Df.nil (lo:=w.heap.size+2) (Blk.new1 w (.cells #[int i64 (n:Int),int i64 (s:Int)] 226) 39 (madeCells #[.slice none 0 0] n)) (by omega);rw[← Hr n hv 0]at hK;have hBx:=(Blk.new w 226 #[int i64 (n:Int),int i64 (s:Int)]).alloc (.cells (madeCells #[.slice none 0 0] n) 39);have hB0:=Af (Af (aB w.heap.size w) (.cells #[int i64 (n:Int),int i64 (s:Int)] 226)) (.cells (madeCells #[.slice none 0 0] n) 39);have HK:=U hK;have HBx:=U hBx;have HB0:=U hB0;obtain⟨g,hg⟩:∃g,w.heap.size=g:=⟨_,rfl⟩;rw[hg]at HK HBx HB0⊢;have HG:=U hg;clear hK hBx hB0 hmk hg;go_loopw [19,9,10,11] (fun i _ _ _ wr =>∃(k:Nat) (vs:List Value),k≤n∧i= int i64 k∧Df wr (g+2) (g+1) (BE n hv 0 k 0) vs∧Blk wr g 226 #[int i64 (n:Int),int i64 (s:Int)]∧Below g w wr∧g+2≤wr.heap.size) (fun i _ _ _ _ => n - (intOf i).toNat)
 case atStart => exact⟨0,_,by omega,rfl,HK.o,HBx.o,HB0.o,by have:=HG.o;simp;omega⟩
 case round =>
  obtain⟨k,vs,hkn,rfl,hm,hx,hb,hsz⟩:=hrel;obtain⟨u,hu⟩:∃u,u=wr:=⟨_,rfl⟩;subst hu;have c0:u.cell? ⟨g,0,none⟩=some (int i64 (n:Int)):=by rw[hx.cell];rfl
  have c1:u.cell? ⟨g,1,none⟩=some (int i64 (s:Int)):=by rw[hx.cell];rfl
  by_cases hlt:k<n
  ·have hkl:k<hv.length:=by rw[HL.o];exact hlt
   obtain⟨ad,e1,m1,b1,p1,ok1⟩:=HX.o k (by rw[Ct];exact hkl);subst e1;rw[JW hkl]at p1;rw[HG.o]at b1;have p1':=(hb.cell (p:=ad.add k) b1).trans p1;have hkb:=HHV.o _ (aN hkl);have hgd:hv.getD k 0=hv[k]:=by simp[aJ,hkl]
   obtain⟨h1,hh1⟩:∃h1,hv[k] =h1:=⟨_,rfl⟩;rw[hh1]at p1' hkb hgd;have hww:=GM n s h1 (by omega) hkb u;have HM:=U hm;have HXB:=U hx;have HB:=U hb;have HGD:=U hgd;have HWW:=U hww;clear hm hx hb p1 hh1 hgd hww m1;go_wp2_with fail
   refine HWW.o.mono ?_;rintro e w5 ⟨A5,c5,f5,rfl,r5,m5,b5⟩;rw[AT]at r5⊢;obtain⟨A6,c6,e6,hc6,hm6,hy⟩:=Ag.open_ r5;injection e6 with e61 e62 e63
   subst e61 e63;clear e62;have t5:=rSl.there Ai.fixed r5;have ff:IM w5 (g+1) vs f5:=fun a ha => by
    have ha2:=m5.from_ a ha;refine⟨t5 a ha,by omega,fun v hv2 e7 => ?_⟩;obtain⟨q,hq,rfl⟩:=aY hv2;have:=((HM.o.own q hq).lt _ e7).2;omega
   have M5:=U (HM.o.below b5);have X5:=U (HXB.o.below b5 (aE (by omega) hsz));have FF:=U ff;have R5:=U r5;have B5:=U (HB.o.trans (b5.mono (by omega)));have hsz5:g+2≤w5.heap.size:=bL hsz b5.size;clear t5 ff r5 m5 b5 HM HXB HB hy HWW;go_wp2_with fail
   go_loopw [27,10,11] (fun i _ _ w7 =>∃(j:Nat) (vs:List Value),j≤n∧i= int i64 j∧Df w7 (g+2) (g+1) (BE n hv 0 k j) vs∧Blk w7 g 226 #[int i64 (n:Int),int i64 (s:Int)]∧Below g w w7∧g+2≤w7.heap.size∧Ag w7 f5 (.slice A5 n c5) (Cl n h1 0)∧IM w7 (g+1) vs f5) (fun i _ _ _ => n - (intOf i).toNat)
   case atStart => exact⟨0,_,by omega,rfl,M5.o,X5.o,B5.o,hsz5,R5.o,FF.o⟩
   case round =>
    obtain⟨j,vs,hj,rfl,hm,hx,hb,hsz7,hr,hf⟩:=hrel;by_cases hjn:j<n
    ·obtain⟨A7,c7,e7,hc7,hm7,hy⟩:=Ag.open_ hr;injection e7 with e71 e72 e73
     subst e71 e73;clear e72;obtain⟨a2,e2,m2,b2,g2⟩:=hy j (by rw[AT];exact hjn);subst e2;rw[Im hjn]at g2;have hvl:j<vs.length:=by rw[hm.len,Gd];exact hjn
     obtain⟨A8,c8,e8,p8⟩:=hm.form hvl;have hrl:=Iz (n:=n) (hv:=hv) (base:=0) (k:=k) (i:=j) hjn (by rw[HL.o];omega);have hst:=Hq (hv:=hv) (base:=0) (k:=k) hjn;rw[HGD.o]at hst;have HSTP:=U (hm.step (x:=BP n h1 0 j) (W:=wr.alloc (.cells #[.int .u8 ((BP n h1 0 j).toNat:Int)] 5)) hvl e8 (by rw[hrl];omega) hsz7 (Af (aB _ _) _) (Blk.new _ _ _));rw[hrl]at HSTP;rw[hrl]at p8;have HM:=U hm;have HXB:=U hx;have HB:=U hb;have HR:=U hr;have HF:=U hf;have HST:=U hst;clear hm hx hb hr hf hy e8 hrl hst;go_wp2_with (at_builtin;refine Ar rfl (.tmp 37) (.tmp 39) 39 rfl (.slice A8 k c8) (.slice (some ⟨wr.heap.size,0,none⟩) 1 1) rfl rfl HSTP.o ?_;rintro v6 w6 ⟨A9,c9,rfl,ll⟩;have q3:=ll.cell.trans p8;have fr3:=ll.free;have gz3:=ll.lt;have LL:=U ll;clear ll)
     go_roundw
     case rel =>
      obtain⟨s1,s2⟩:=LL.o.foot _ HF.o;have hmm:=LL.o.mat;rw[HST.o]at hmm;exact⟨j+1,_,by omega,by go_num,hmm,HXB.o.below LL.o.below (by omega),HB.o.trans (LL.o.below.mono (by omega)),bL hsz7 LL.o.below.size,rSl.keep Ai.local_ HR.o s1,s2⟩
     case measure => simp[intOf];omega
    ·obtain rfl:j=n:=by omega
     rw[Hp hkl]at hm;have HM:=U hm;have HXB:=U hx;have HB:=U hb;clear hm hx hb hr hf;go_wp2_with fail
     go_roundw
     case rel => exact⟨k+1,_,by omega,by go_num,HM.o,HXB.o,HB.o,hsz7⟩
     case measure => simp[intOf];omega
  ·obtain rfl:k=n:=by omega
   have hm':=hm;rw[← HL.o,Iy,HL.o]at hm';obtain⟨fr,hlists⟩:=hm'.lists (DZ _ _ _) (by omega);have hgw:=GM k s want (by omega) hw u;have hsv:=fun(W:World) (A3:Option Addr) (c3:Nat) (f3:List Addr) (hW:Below u.heap.size u W) (h3:Ag W f3 (.slice A3 k c3) (Cl k want 0)) => OH (.slice (some ⟨g+1,0,none⟩) k k) (.slice A3 k c3) (Fw k hv 0) (Cl k want 0) fr f3 W k (rSl.below As.loc As.fix hlists hW) h3 (DZ _ _ _) (Jj HL.o) (by rw[AT];exact aC _) (by omega)
   have HGW:=U hgw;have HSV:=U hsv;have HB:=U hb;clear hm hm' hx hb hlists hgw hsv;go_wp2_with (first
    |(go_at_call 297;refine HGW.o.mono ?_;rintro e w3 ⟨A3,c3,f3,rfl,r3,m3,b3⟩;rw[AT]at r3⊢;have R3:=U r3;have B3:=U b3;clear r3 m3 b3)
    |(go_at_call 262;refine(HSV.o _ _ _ _ B3.o R3.o).mono ?_;rintro e w4 h4;obtain⟨A4,c4,f4,rfl,r4,m4,b4⟩:=Nz h4 HS.o;clear h4;have R4:=U r4;have M4:=U m4;have B4:=U b4;clear r4 m4 b4))
   go_ret
   exact⟨A4,c4,f4,by rw[HLL.o];rfl,by rw[HLL.o];exact R4.o,M4.o.mono (by rw[HG.o];have:=B3.o.size;omega),by rw[HG.o];exact HB.o.trans ((B3.o.trans (B4.o.mono B3.o.size)).mono (by omega))⟩
theorem JE(n want base:Nat)(hv:List Nat)(v:Value)(f:List Addr)(w:World)(L:List UInt8)(h:AO w f v (Fa hv))(hl:hv.length=n)(hn:n≤20)(hpos:0<n)(hk:∀k,k∈hv→k≤50)(hw:want≤50)(hbs:base≤40)(hS:FA n hv want base=some L)(hL:L.length=n) :
  Calls prog 162 #[int i64 (n:Int),v,int i64 (want:Int),int i64 (base:Int)] w (By L w):=by
 obtain⟨A1,c1,rfl,hc1,hm1,hx⟩:=AO.open_ h;have HX:=U hx;have HHV:=U hk;have HS:=U hS;have HLL:=U hL;clear h hx hk hS hL;rw[Ct,hl]at hc1⊢;have HL:=U hl;clear hl;have hmk:=Tryz.makeLists n (by omega);go_enter func162,ntmps162
 go_wp2_with fail
 have hK:=Df.nil (lo:=w.heap.size+1) (Blk.new w 39 (madeCells #[.slice none 0 0] n)) (by omega);rw[← Hr n hv base]at hK;have hB0:=Af (aB w.heap.size w) (.cells (madeCells #[.slice none 0 0] n) 39);have HK:=U hK;have HB0:=U hB0;obtain⟨g,hg⟩:∃g,w.heap.size=g:=⟨_,rfl⟩;rw[hg]at HK HB0⊢;have HG:=U hg;clear hK hB0 hmk hg;go_loopw [10,11,12] (fun i _ _ wr =>∃(k:Nat) (vs:List Value),k≤n∧i= int i64 k∧Df wr (g+1) g (BE n hv base k 0) vs∧Below g w wr∧g+1≤wr.heap.size) (fun i _ _ _ => n - (intOf i).toNat)
 case atStart => exact⟨0,_,by omega,rfl,HK.o,HB0.o,by have:=HG.o;simp;omega⟩
 case round =>
  obtain⟨k,vs,hkn,rfl,hm,hb,hsz⟩:=hrel;obtain⟨u,hu⟩:∃u,u=wr:=⟨_,rfl⟩;subst hu;by_cases hlt:k<n
  ·have hkl:k<hv.length:=by rw[HL.o];exact hlt
   obtain⟨ad,e1,m1,b1,p1,ok1⟩:=HX.o k (by rw[Ct];exact hkl);subst e1;rw[JW hkl]at p1;rw[HG.o]at b1;have p1':=(hb.cell (p:=ad.add k) b1).trans p1;have hkb:=HHV.o _ (aN hkl);have hgd:hv.getD k 0=hv[k]:=by simp[aJ,hkl]
   obtain⟨h1,hh1⟩:∃h1,hv[k] =h1:=⟨_,rfl⟩;rw[hh1]at p1' hkb hgd;have hww:=Lv n h1 base (by omega) hkb hbs u;have HM:=U hm;have HB:=U hb;have HGD:=U hgd;have HWW:=U hww;clear hm hb p1 hh1 hgd hww m1;go_wp2_with fail
   refine HWW.o.mono ?_;rintro e w5 ⟨A5,c5,f5,rfl,r5,m5,b5⟩;rw[AT]at r5⊢;obtain⟨A6,c6,e6,hc6,hm6,hy⟩:=Ag.open_ r5;injection e6 with e61 e62 e63
   subst e61 e63;clear e62;have t5:=rSl.there Ai.fixed r5;have ff:IM w5 g vs f5:=fun a ha => by
    have ha2:=m5.from_ a ha;refine⟨t5 a ha,by omega,fun v hv2 e7 => ?_⟩;obtain⟨q,hq,rfl⟩:=aY hv2;have:=((HM.o.own q hq).lt _ e7).2;omega
   have M5:=U (HM.o.below b5);have FF:=U ff;have R5:=U r5;have B5:=U (HB.o.trans (b5.mono (by omega)));have hsz5:g+1≤w5.heap.size:=bL hsz b5.size;clear t5 ff r5 m5 b5 HM HB hy HWW;go_wp2_with fail
   go_loopw [12] (fun i w7 =>∃(j:Nat) (vs:List Value),j≤n∧i= int i64 j∧Df w7 (g+1) g (BE n hv base k j) vs∧Below g w w7∧g+1≤w7.heap.size∧Ag w7 f5 (.slice A5 n c5) (Cl n h1 base)∧IM w7 g vs f5) (fun i _ => n - (intOf i).toNat)
   case atStart => exact⟨0,_,by omega,rfl,M5.o,B5.o,hsz5,R5.o,FF.o⟩
   case round =>
    obtain⟨j,vs,hj,rfl,hm,hb,hsz7,hr,hf⟩:=hrel;by_cases hjn:j<n
    ·obtain⟨A7,c7,e7,hc7,hm7,hy⟩:=Ag.open_ hr;injection e7 with e71 e72 e73
     subst e71 e73;clear e72;obtain⟨a2,e2,m2,b2,g2⟩:=hy j (by rw[AT];exact hjn);subst e2;rw[Im hjn]at g2;have hvl:j<vs.length:=by rw[hm.len,Gd];exact hjn
     obtain⟨A8,c8,e8,p8⟩:=hm.form hvl;have hrl:=Iz (n:=n) (hv:=hv) (base:=base) (k:=k) (i:=j) hjn (by rw[HL.o];omega);have hst:=Hq (hv:=hv) (base:=base) (k:=k) hjn;rw[HGD.o]at hst;have gz:=hm.blk.lt;have HSTP:=U (fun(W:World) (b:Nat) (hW:Below wr.heap.size wr W) (hk:Blk W b 5 #[.int .u8 ((BP n h1 base j).toNat:Int)]) => hm.step (x:=BP n h1 base j) hvl e8 (by rw[hrl];omega) hsz7 hW hk);rw[hrl]at HSTP;rw[hrl]at p8;have HM:=U hm;have HB:=U hb;have HR:=U hr;have HF:=U hf;have HST:=U hst;clear hm hb hr hf hy e8 hrl hst;obtain⟨x,hx⟩:∃x,BP n h1 base j=x:=⟨_,rfl⟩;rw[hx]at HSTP HST g2;clear hx;go_wp2_with fail
     go_region_law (refine AR rfl (.tmp 39) (.tmp 44) 39 rfl _ _ (by rfl) (by rfl) (HSTP.o _ _ (by repeat(with_reducible first|exact aB _ _|apply Af|apply An)) (by repeat(with_reducible first|exact Blk.new _ _ _|apply Blk.drew_|apply Blk.alloc))) ?_;rintro v6 w6 ⟨A9,c9,rfl,ll⟩;have q3:=ll.cell.trans p8;have fr3:=ll.free;have gz3:=ll.lt;have LL:=U ll;clear ll)
     all_goals
      go_wp2_with fail
      go_roundw
      case rel =>
       obtain⟨s1,s2⟩:=LL.o.foot _ HF.o;have hmm:=LL.o.mat;rw[HST.o]at hmm;exact⟨j+1,_,by omega,by go_num,by first|exact hmm|exact hmm.drew_,by first|exact HB.o.trans LL.o.below|exact HB.o.trans LL.o.below,by first|exact bL hsz7 LL.o.below.size,by first|exact rSl.keep Ai.local_ HR.o s1,by first|exact s2⟩
      case measure => simp[intOf];omega
    ·obtain rfl:j=n:=by omega
     rw[Hp hkl]at hm;have HM:=U hm;have HB:=U hb;clear hm hb hr hf;go_wp2_with fail
     go_roundw
     case rel => exact⟨k+1,_,by omega,by go_num,HM.o,HB.o,hsz7⟩
     case measure => simp[intOf];omega
  ·obtain rfl:k=n:=by omega
   have hm':=hm;rw[← HL.o,Iy,HL.o]at hm';obtain⟨fr,hlists⟩:=hm'.lists (DZ _ _ _) (by omega);have hgw:=Lv k want base (by omega) hw hbs u;have hsv:=fun(W:World) (A3:Option Addr) (c3:Nat) (f3:List Addr) (hW:Below u.heap.size u W) (h3:Ag W f3 (.slice A3 k c3) (Cl k want base)) => QF (.slice (some ⟨g,0,none⟩) k k) (.slice A3 k c3) (Fw k hv base) (Cl k want base) fr f3 W k (rSl.below As.loc As.fix hlists hW) h3 (DZ _ _ _) (Jj HL.o) (by rw[AT];exact aC _) (by omega) hpos
   have HGW:=U hgw;have HSV:=U hsv;have HB:=U hb;clear hm hm' hb hlists hgw hsv;go_wp2_with (first
    |(go_at_call 163;refine HGW.o.mono ?_;rintro e w3 ⟨A3,c3,f3,rfl,r3,m3,b3⟩;rw[AT]at r3⊢;have R3:=U r3;have B3:=U b3;clear r3 m3 b3)
    |(go_at_call 240;refine(HSV.o _ _ _ _ B3.o R3.o).mono ?_;rintro e w4 h4;obtain⟨A4,c4,f4,rfl,r4,m4,b4⟩:=Nz h4 HS.o;clear h4;have R4:=U r4;have M4:=U m4;have B4:=U b4;clear r4 m4 b4))
   go_ret
   exact⟨A4,c4,f4,by rw[HLL.o];rfl,by rw[HLL.o];exact R4.o,M4.o.mono (by rw[HG.o];have:=B3.o.size;omega),by rw[HG.o];exact HB.o.trans ((B3.o.trans (B4.o.mono B3.o.size)).mono (by omega))⟩
