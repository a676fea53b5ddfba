/-
  Part 29 of the proof; the last part states and proves the statement.
-/
import Derived.Test.YtfjkoifpdoemdaaGreatK27
import Derived.Lib.AppendZerosOnto
import Derived.Deep.RegionLaw
import Derived.Test.YtfjkoifpdoemdaaGreatK28
import Derived.Test.YtfjkoifpdoemdaaGreatK13
set_option maxHeartbeats 8000000
set_option maxRecDepth 100000
set_option linter.unusedVariables false
set_option linter.unusedSimpArgs false
open Go.Value (int)
open Go.IntKind (i64)
namespace Go.Proofs.YtfjkoifpdoemdaaGreat
open Go.RowKit Go.Lib Go.Sort
theorem Below.viaQ {a W w2:World}(h:Below a.heap.size a W)(b:Below W.heap.size W w2):Below a.heap.size a w2:=h.trans (b.mono h.size)
theorem growTk_c(n:Nat)(hn:n≤1000000)(w:World) :
  Calls Tryz.prog 272 #[.slice none 0 0,int i64 (n:Int)] w fun e w' =>∃A c,e= .returned (.slice A 0 c)∧Ao 4 242 Af w' w.heap.size (.slice A 0 c) [] []∧Below w.heap.size w w':=by
 by_cases h0:n=0
 ·subst h0;go_enter Tryz.func272,Tryz.ntmps272
  go_wp2_with fail
  go_ret
  exact⟨none,0,rfl,Ao.start ⟨rfl,.inl ⟨rfl,rfl⟩⟩,Below.refl _ _⟩
 ·have hpos:0<n:=by omega
  have hposi:(0:Int)<(n:Int):=by omega
  obtain⟨ti,hi0,hz0,hz1,hz2⟩:=info_parts Tryz.infoTk;have hrz:∀ty,(Builtin.append_ #[57,3] ty #[.slice none 0 0,int i64 (n:Int)]).run Tryz.prog w=_:=fun ty =>
   Lib.run_append_grow_zeros w 57 3 ty 242 ti _ .i64 .i64 Tryz.underlying57 Tryz.underlying3 hi0 hz0 none 0 0 [] (run_firstCells_none _ _ _ _ _) n hpos (by omega) (by omega) (by omega) (by rw[hz2];omega) (growslice_fits (by omega) (by rw[hz2];omega))
  simp only[Nat.zero_add]at hrz;have hG:=grownCap_ge w n 0 242;have hG2:=grownCap_le_maxLen w n 0 242 (by unfold maxLen;omega);obtain⟨G,hGe⟩:∃G,grownCap w n 0 242=G:=⟨_,rfl⟩;rw[hGe]at hrz hG hG2;have hG63:(G:Int)≤9223372036854775807:=by unfold maxLen at hG2;omega
  obtain⟨cur,hcur⟩:∃cur,((([]:List Value)).toArray ++ Builtin.zeroCells (Value.agg #[int i64 0,int i64 0,.string ⟨#[]⟩,int i64 0]).cells n ++ Builtin.zeroCells (Value.agg #[int i64 0,int i64 0,.string ⟨#[]⟩,int i64 0]).cells (G - n))=cur:=⟨_,rfl⟩;rw[hcur]at hrz;have hcs:cur.size=G * 4:=by
   rw[← hcur];simp[Builtin.zeroCells];show n * 4+(G - n) * 4=G * 4
   omega
  have HCS:=hid hcs;clear hcur hcs hGe hi0 hz0 hz1 hz2;go_enter Tryz.func272,Tryz.ntmps272
  go_wp2_with (at_builtin;refine Lib.wpList_append_run _ rfl _ _ _ _ rfl _ _ rfl rfl _ _ (hrz _) ?_)
  all_goals
   go_ret
   have hb:Below w.heap.size w (w.drew.alloc (.cells cur 242)):=Ah (AL (Below.refl _ _)) _;exact⟨some ⟨w.heap.size,0,none⟩,G,rfl,Ao.start ⟨rfl,.inr ⟨w.heap.size,G,cur,rfl,Nat.le_refl _,Blk.new w.drew _ _,Nat.zero_le _,hG2,HCS.out,by simp⟩⟩,hb⟩
theorem KT(A0:Option Addr)(c0 nQ:Nat)(qs:List (List An))(f0:List Addr)(w:World)(h:rSl 1 (Ai 4 Af) w f0 (.slice A0 nQ c0) qs)(hsm:qs.flatten.length≤1000000) :
  Calls Tryz.prog 209 #[.slice A0 nQ c0] w fun e w' =>∃A c,e= .returned (.slice A qs.flatten.length c)∧Ao 4 242 Af w' w.heap.size (.slice A qs.flatten.length c) qs.flatten []∧Below w.heap.size w w':=by
 have HH:=hid h;have HT0:=hid (show∀a,a∈f0→a.block<w.heap.size from rSl.there (Ai.fixed Af.fixed) h);obtain⟨Ax,cx,ev,hc,hm,hx⟩:=rSl.at_ (Ai.fixed Af.fixed) (by decide) h;injection ev with ev1 ev2 ev3
 subst ev1 ev3;have HNQ:=hid ev2.symm;rw[← ev2]at hc;clear ev2;obtain⟨N,hN⟩:∃N,qs.flatten.length=N:=⟨_,rfl⟩;rw[hN]at hsm⊢;have HN:=hid hN;obtain⟨g0,hg0⟩:∃g0,w.heap.size=g0:=⟨_,rfl⟩;have HG:=hid hg0;have HSPL:=hid (show∀i,i<qs.length→(qs.take (i+1)).flatten.length≤N from fun i hi => by
  have h1:(qs.take (i+1)).flatten.length +(qs.drop (i+1)).flatten.length =qs.flatten.length:=by rw[← List.length_append,← List.flatten_append,List.take_append_drop]
  omega)
 have HX:=hid hx;clear h hx hN hg0;go_enter Tryz.func209,Tryz.ntmps209
 go_wp2_with fail
 go_loopw [11,3,5] (fun ix sv tv wr =>∃(i n:Nat),i≤nQ∧n≤N∧ix= int i64 i∧sv= int i64 (n:Int)∧Hid (n=(qs.take i).flatten.length)∧Hid (Below w.heap.size w wr)) (fun ix _ _ _ => nQ - (intOf ix).toNat)
 case atStart => exact⟨0,0,by omega,by omega,rfl,rfl,rfl,Below.refl _ _⟩
 case round =>
  obtain⟨i,n,hi,hnN,rfl,rfl,HS,HB⟩:=hrel;by_cases hlt:i<nQ
  ·have hk:i<qs.length:=by rw[HNQ.out];exact hlt
   obtain⟨ad,b,oo,cs,fk,rfl,hat0⟩:=HX.out i hk;have hat:=hat0.below (Ai.local_ Af.local_) HB.out;have hpl:=hat.place;have hbl:=hat.lt;obtain⟨ve,hve,hrd⟩:=hat.reads;subst hve;obtain⟨Ae,ce,rfl,hmc,hmm⟩:=rSl.head hrd;have hpc:=hat.cell 0 (by simp);simp only[Nat.add_zero,List.getElem_cons_zero]at hpc;rw[Nat.mul_one]at hpl;have hki:(i:Int)<(nQ:Int):=by omega
   have hst:(qs.take (i+1)).flatten.length =(qs.take i).flatten.length +qs[i].length:=by rw[List.take_succ_eq_append_getElem hk,List.flatten_append];simp
   have hle:=HSPL.out i hk;rw[hst,← HS.out]at hle;rw[← HS.out]at hst;have HST:=hid hst;obtain⟨q,hq⟩:∃q,qs[i].length =q:=⟨_,rfl⟩;rw[hq]at hpc HST hle;have hnn:¬((n:Int)+(q:Int)<0):=by omega
   clear hat hat0 hrd hk hq hst hmc hmm;go_wp2_with fail
   go_roundw
   case rel => exact⟨i+1,n+q,by omega,hle,by go_num,by simp,HST.out.symm,HB.out⟩
   case measure => simp[intOf];omega
  ·obtain rfl:nQ=i:=by omega
   have hnN2:n=N:=by rw[HS.out,List.take_of_length_le (by rw[HNQ.out];exact Nat.le_refl _),HN.out]
   obtain rfl:=hnN2;have HGR:=hid (fun(W:World) => growTk_c n hsm W);go_wp2_with fail
   refine(HGR.out _).mono ?_;rintro e w2 ⟨A2,c2,rfl,o2,b2⟩;have O2:=hid (show Ao 4 242 Af w2 g0 (.slice A2 0 c2) [] []from o2.mono (by rw[← HG.out];exact HB.out.size));have B2:=hid (show Below g0 w w2 by rw[← HG.out];exact HB.out.trans (b2.mono HB.out.size));clear o2 b2 HGR HS;go_wp2_with fail
   go_loopw [27,6,8] (fun ix ov tv wr =>∃(i n' c':Nat) (A':Option Addr),i≤nQ∧ix= int i64 i∧ov= .slice A' n' c'∧Hid (n'=(qs.take i).flatten.length)∧Hid (Ao 4 242 Af wr g0 (.slice A' n' c') (qs.take i).flatten [])∧Hid (Below g0 w wr)∧Hid (g0≤wr.heap.size)) (fun ix _ _ _ => nQ - (intOf ix).toNat)
   case atStart => exact⟨0,0,c2,A2,by omega,rfl,rfl,rfl,O2.out,B2.out,(show g0≤_ from by rw[← HG.out];have:=B2.out.size;omega)⟩
   case round =>
    clear O2 B2;obtain⟨i,n',c',A',hi,rfl,rfl,HN2,HO,HB2,HSZ⟩:=hrel;have HBW:=hid (show Below w.heap.size w wr by rw[HG.out];exact HB2.out);by_cases hlt:i<nQ
    ·have hk:i<qs.length:=by rw[HNQ.out];exact hlt
     obtain⟨ad,b,oo,cs,fk,rfl,hat0⟩:=HX.out i hk;have hat:=hat0.below (Ai.local_ Af.local_) HBW.out;have hpl:=hat.place;have hbl:=hat.lt;obtain⟨ve,hve,hrd⟩:=hat.reads;subst hve;obtain⟨Ae,ce,rfl,hmc,hmm⟩:=rSl.head hrd;have hpc:=hat.cell 0 (by simp);simp only[Nat.add_zero,List.getElem_cons_zero]at hpc;rw[Nat.mul_one]at hpl;have hki:(i:Int)<(nQ:Int):=by omega
     have HST:=hid (show(qs.take (i+1)).flatten =(qs.take i).flatten ++ qs[i] by rw[List.take_succ_eq_append_getElem hk,List.flatten_append];simp);have hle:=HSPL.out i hk;rw[HST.out,List.length_append]at hle;have hf:∀a,a∈fk→a.block<g0:=fun a ha => by rw[← HG.out];exact HT0.out a (hat.sub a ha)
     have HAP:=hid (G0 HO.out HSZ.out hrd hf (by omega));obtain⟨q,hq⟩:∃q,qs[i] =q:=⟨_,rfl⟩;rw[hq]at HAP HST hpc hmc;rw[← HN2.out]at HAP;have HLN:=hid (show n'+q.length=(qs.take (i+1)).flatten.length by rw[HST.out,List.length_append,HN2.out]);clear hat hat0 hrd hf hle hk hq HO hmc hmm;go_wp2_with (at_builtin;refine AQ rfl (.tmp 31) (.tmp 32) 57 rfl _ _ (by rfl) (by rfl) HAP.out ?_;rintro v9 w9 ⟨A9,c9,rfl,o9,b9,s9⟩;have O9:=hid o9;have B9:=hid b9;have S9:=hid s9;clear o9 b9 s9)
     go_roundw
     case rel => exact⟨i+1,n'+q.length,c9,A9,by omega,by go_num,rfl,HLN.out,(show Ao _ _ _ _ _ _ _ _ from by rw[HST.out];exact O9.out),HB2.out.trans B9.out,S9.out⟩
     case measure => simp[intOf];omega
    ·obtain rfl:nQ=i:=by omega
     have e1:(qs.take nQ).flatten =qs.flatten:=by rw[List.take_of_length_le (by rw[HNQ.out];exact Nat.le_refl _)]
     rw[e1]at HO HN2;have e2:n'=n:=by rw[HN2.out,HN.out]
     obtain rfl:=e2;clear e1;go_wp2_with fail
     go_ret
     exact⟨A',c',rfl,by rw[HG.out];exact HO.out,HBW.out⟩
theorem Gf(p o:Nat)(d:AJ)(A0 A1 A2:Option Addr)(c0 c1 c2:Nat)(f0 f1 f2:List Addr)(w:World)(h:CG w p o d A0 A1 A2 c0 c1 c2 f0 f1 f2)(hsm:(AN d).length≤1000000) :
  Calls Tryz.prog 125 #[.pointer (some ⟨p,o,none⟩)] w fun e w' =>∃A c gs,e= .returned (.slice A (AN d).length c)∧rSl 4 Af w' gs (.slice A (AN d).length c) (AN d)∧(∀a,a∈gs→w.heap.size≤a.block)∧Below w.heap.size w w':=by
 have HH:=hid h;have hlen:(AN d).length =d.queues.flatten.length+d.aside.length:=by unfold AN;rw[List.length_append]
 have HT1:=hid (show∀a,a∈f1→a.block<w.heap.size from rSl.there Af.fixed h.r1);have HCC:=hid (fun(W:World) (hW:Below w.heap.size w W) => KT A0 c0 d.queues.length d.queues f0 W (h.below hW).r0 (by omega));have HAP:=hid (show∀(W w2 w3:World) (v:Value),Below w.heap.size w W→Ao 4 242 Af w2 W.heap.size v d.queues.flatten []→Below W.heap.size W w2→Below w2.heap.size w2 w3→
   ∃v' w',(Builtin.append_ #[57,57] 57 #[v,.slice A1 d.aside.length c1]).run Tryz.prog w3= .ok v' w'∧∃A c gs,v'= .slice A (AN d).length c∧rSl 4 Af w' gs (.slice A (AN d).length c) (AN d)∧(∀a,a∈gs→w.heap.size≤a.block)∧Below w.heap.size w w' from fun W w2 w3 v hW ho h2 h3 => by
  have hB3:=hW.trans ((h2.trans (h3.mono h2.size)).mono hW.size);obtain⟨v',w',q1,A,c,rfl,o9,b9,-⟩:=G0 (ds2:=d.aside) (ho.below Af.local_ Af.fixed h3) (Nat.le_trans h2.size h3.size) (h.below hB3).r1 (fun a ha => Nat.lt_of_lt_of_le (HT1.out a ha) hW.size) (by omega);obtain⟨gs,r9,-,-,-,g9,-⟩:=o9.reads;rw[← hlen]at r9 q1;exact⟨_,w',q1,A,c,_,rfl,r9,(fun a ha => Nat.le_trans hW.size (g9 a (by simpa using ha))),hB3.trans (b9.mono hW.size)⟩)
 have HLEN:=hid hlen;obtain⟨nQ,hnQ⟩:∃nQ,d.queues.length=nQ:=⟨_,rfl⟩;obtain⟨nS,hnS⟩:∃nS,d.aside.length=nS:=⟨_,rfl⟩;obtain⟨nF,hnF⟩:∃nF,d.queues.flatten.length=nF:=⟨_,rfl⟩;rw[hnQ,hnF]at HCC;rw[hnS]at HAP;rw[hnF,hnS]at HLEN;obtain⟨N,hN⟩:∃N,(AN d).length =N:=⟨_,rfl⟩;rw[hN]at HAP⊢;have HKS:=hid (fun(W:World) (hW:Below w.heap.size w W) => show W.cell? ⟨p,o,none⟩=some (.slice A0 nQ c0)∧W.cell? ⟨p,o+1,none⟩=some (.slice A1 nS c1)∧p<W.heap.size from by
  have H:=h.below hW;have h0:=H.k0;have h1:=H.k1;rw[hnQ]at h0;rw[hnS]at h1;exact⟨h0,h1,H.lt⟩)
 obtain⟨k0,k1,lp⟩:=HKS.out w (Below.refl _ _);clear h hlen hnQ hnS hnF hsm hN HLEN;go_enter Tryz.func125,Tryz.ntmps125
 go_wp2_with fail
 go_region_law (first
  |(refine Bf rfl (.tmp 7) (.tmp 11) 57 rfl _ _ (by rfl) (by rfl) (HAP.out _ w2 _ _ (by repeat(with_reducible first|assumption|exact Below.refl _ _|apply Ah|apply AL)) o2 b2 (by repeat(with_reducible first|assumption|exact Below.refl _ _|apply Ah|apply AL))) ?_;rintro v9 w9 ⟨A9,c9,g9,rfl,r9,m9,b9⟩)
  |(go_simp;go_at_call 209;refine(HCC.out _ (by repeat(with_reducible first|assumption|exact Below.refl _ _|apply Ah|apply AL))).mono ?_;rintro e w2 ⟨A2',c2',rfl,o2,b2⟩;dsimp only;have B2:=Below.viaQ (a:=w) (by repeat(with_reducible first|assumption|exact Below.refl _ _|apply Ah|apply AL)) b2;obtain⟨k02,k12,lp2⟩:=HKS.out w2 B2))
 all_goals
  have R9:=hid r9;have B9:=hid b9;have M9:=hid m9;clear r9 b9 m9;go_wp2_with fail
  go_ret
  exact⟨A9,c9,g9,rfl,R9.out,M9.out,B9.out⟩
theorem Ao.nums {E:TypeId} {w:World} {base:Nat} {v:Value} {ds:List Int} {fs:List Addr}(h:Ao 1 E Al w base v ds fs):fs= []:=by
 obtain⟨css,fss,h1,h2,rfl,h4,h5,h6⟩:=h;refine List.flatten_eq_nil_iff.2 fun l hl => ?_
 obtain⟨i,hi,rfl⟩:=List.getElem_of_mem hl;obtain⟨_,_,_,p4⟩:=h5 i (by omega);exact p4.1
theorem Tryz.infoNum:(Tryz.prog.info? 2).map (fun i =>(i.zero,i.size,i.bytes))=some (some (int i64 0),1,8):=by kernel_rfl
theorem FR {W:World} {base b:Nat} {v:Value} {ds:List Int} {x:Int}(ho:Ao 1 2 Al W base v ds [])(hx:okI x)(hn:ds.length+1≤1000000000)(hbase:base≤W.heap.size)(hblk:Blk W b 2 #[int i64 x]) :
  ∃v' w',(Builtin.append_ #[25,25] 25 #[v,.slice (some ⟨b,0,none⟩) 1 1]).run Tryz.prog W= .ok v' w'∧∃A c,v'= .slice A (ds.length+1) c∧Ao 1 2 Al w' base v' (ds ++ [x]) []∧Below base W w'∧W.heap.size≤w'.heap.size∧(∀k,k<W.heap.size→v.ownBlock≠some k→w'.heap[k]? =W.heap[k]?)∧(∀k,v'.ownBlock=some k→v.ownBlock=some k∨W.heap.size≤k):=by
 obtain⟨v',w',q1,h,q2,q3,q4,q5⟩:=Ao.appendOne (P:=Tryz.prog) 25 25 (int i64 0) 8 Tryz.underlying25 Tryz.infoNum rfl (by decide) Al.local_ Al.fixed JF base v ds [] ho b [int i64 x] [] x rfl hblk ⟨rfl,rfl,hx⟩ (fun a ha => by cases ha) hn (by omega) hbase;have h6:=q2.nums;rw[h6]at q2;obtain⟨A,c,e,-⟩:=q2.length;refine⟨v',w',q1,A,c,by rw[e];simp,q2,Below.grown (Below.refl _ _) q4 hbase (fun k hk =>(ho.lt k hk).1),q4.size,fun k hk hne => q4.block k hk (fun e => hne e.symm),fun k hk => ?_⟩;rcases q5 with q|q
 ·exact .inl (q.symm.trans hk)
 ·rw[q]at hk;injection hk with hk
  exact .inr (hk ▸ Nat.le_refl _)
structure DY (W:World) (B pi:Nat) (ids:List Int) (A:Option Addr) (n c:Nat):Prop where
 cell:W.cell? ⟨pi,0,none⟩=some (.slice A n c)
 free:W.frozen? ⟨pi,0,none⟩=false
 lt:pi<W.heap.size
 ge:B≤pi
 own:Ao 1 2 Al W B (.slice A n c) ids []
 apart:(Value.slice A n c).ownBlock≠some pi
theorem DY.below {W W':World} {B pi:Nat} {ids:List Int} {A:Option Addr} {n c:Nat}(h:DY W B pi ids A n c)(hb:Below W.heap.size W W'):DY W' B pi ids A n c :=
 ⟨(hb.cell (p:=⟨pi,0,none⟩) h.lt).trans h.cell,(hb.frozen (p:=⟨pi,0,none⟩) h.lt).trans h.free,Nat.lt_of_lt_of_le h.lt hb.size,h.ge,h.own.below Al.local_ Al.fixed hb,h.apart⟩
theorem DY.len {W:World} {B pi:Nat} {ids:List Int} {A:Option Addr} {n c:Nat}(h:DY W B pi ids A n c):n=ids.length∧n≤c∧c≤9223372036854775807:=by
 obtain⟨A',c',e,h1,h2⟩:=h.own.length;injection e with _ e2 e3
 exact⟨e2,by omega,by omega⟩
theorem Kt {w:World} {B pi:Nat} {ids:List Int} {A:Option Addr} {n c:Nat} {x:Int}(h:DY w B pi ids A n c)(hx:okI x)(hn:ids.length+1≤1000000000) :
  ∃v' w',(Builtin.append_ #[25,25] 25 #[.slice A n c,.slice (some ⟨w.heap.size,0,none⟩) 1 1]).run Tryz.prog (w.alloc (.cells #[int i64 x] 2))= .ok v' w'∧∃A' n' c',v'= .slice A' n' c'∧Below B w w'∧w.heap.size≤w'.heap.size∧w'.cell? ⟨pi,0,none⟩=some (.slice A n c)∧w'.frozen? ⟨pi,0,none⟩=false∧pi<w'.heap.size∧DY (w'.setCell ⟨pi,0,none⟩ (.slice A' n' c')) B pi (ids ++ [x]) A' n' c':=by
 have hb:Below w.heap.size w (w.alloc (.cells #[int i64 x] 2)):=Ah (Below.refl _ _) _;have h2:=h.below hb;have hB:B≤w.heap.size:=Nat.le_trans h.ge (Nat.le_of_lt h.lt);obtain⟨v',w',q1,A',c',rfl,o9,b9,s9,k9,j9⟩:=FR h2.own hx hn (Nat.le_trans h2.ge (Nat.le_of_lt h2.lt)) (Blk.new w _ _);have hp:=k9 pi h2.lt h2.apart;have hc:=(World.cell?_of_block (a:=⟨pi,0,none⟩) hp).trans h2.cell;have hf:=(World.frozen?_of_block (a:=⟨pi,0,none⟩) hp).trans h2.free;have hl:pi<w'.heap.size:=Nat.lt_of_lt_of_le h2.lt s9;have hne:(Value.slice A' (ids.length+1) c').ownBlock≠some pi:=fun e => by
  rcases j9 pi e with q|q
  ·exact h2.apart q
  ·have:=h2.lt;omega
 refine⟨_,w',q1,A',_,c',rfl,(hb.mono hB).trans b9,Nat.le_trans hb.size s9,hc,hf,hl,⟨?_,?_,?_,h.ge,?_,hne⟩⟩
 ·exact World.cell?_setCell_same _ _ _ hc
 ·rw[World.frozen?_setCell];exact hf
 ·simpa [World.setCell]using hl
 ·exact o9.keep Al.local_ (fun b hb2 => Below.heap_setCell _ _ _ _ (fun e => hne (by rw[hb2];exact congrArg some e))) (fun a ha => by cases ha)
theorem look_c(s:Sh)(hsb:shB s=true)(t:An)(hidn:okI t.id)(hnm:t.name.size≤9223372036854775807)(q next:Int)(ps pd pi B:Nat)(ids:List Int)(A:Option Addr)(n c:Nat)(w:World)
  (hS:BF w ps s) (hD:w.cell? ⟨pd,4,none⟩=some (int i64 next)) (hN:DY w B pi ids A n c) (hsm:ids.length≤1000000) :
  Calls Tryz.prog 270 #[tkV t,int i64 q,.pointer (some ⟨ps,0,none⟩),.pointer (some ⟨pd,0,none⟩),.pointer (some ⟨pi,0,none⟩)] w fun e w' => e= .returned (int i64 (CK s next ids (t,q)))∧Below B w w'∧w.heap.size≤w'.heap.size∧(CK s next ids (t,q)=0→∃A' n' c',DY w' B pi (ids ++ [t.id]) A' n' c'):=by
 have hlen:=hN.len;have hBw:B≤w.heap.size:=Nat.le_trans hN.ge (Nat.le_of_lt hN.lt);have hB:Below w.heap.size w (w.alloc (.cells #[int i64 t.id,int i64 t.kind,.string t.name,int i64 t.group] 242)):=(Below.refl _ _).alloc (Nat.le_refl _) _;have HB:=hid hB;have HBW:=hid hBw;have T1:=hid (FQ.of (Blk.new w 242 #[int i64 t.id,int i64 t.kind,.string t.name,int i64 t.group]));have S1:=hid (hS.below hB);have hpd:pd<w.heap.size:=World.block_lt_of_cell? _ _ hD;have D1:=hid ((hB.cell (p:=⟨pd,4,none⟩) hpd).trans hD);have HPD:=hid hpd;have N1:=hid (hN.below hB);have HRS:=hid S1.out.rng;have HRT:=hid T1.out.rng;have HTF:=hid (fun(W:World) => Gq s hsb t hnm W);have HCT:=hid (fun(W:World) (hW:DY W B pi ids A n c) => show Calls Tryz.prog 173 #[.slice A n c,int i64 t.id] W fun e w' => e= .returned (.bool (decide (t.id∈ids)))∧Below W.heap.size W w' from by
  obtain⟨gs,hr,-⟩:=hW.own.reads;exact Dx _ ids t.id _ W hr)
 have HID:=hid hidn;have HSM:=hid hsm;have z1:=S1.out.lt;have z2:=T1.out.lt;have z3:pd<(w.alloc (.cells #[int i64 t.id,int i64 t.kind,.string t.name,int i64 t.group] 242)).heap.size:=Nat.lt_of_lt_of_le hpd hB.size;obtain⟨hn1,hn2,hn3⟩:=hlen;have HNL:=hid hn1;obtain⟨r,hr⟩:∃r,CK s next ids (t,q)=r:=⟨_,rfl⟩;rw[hr];unfold CK at hr;dsimp only at hr;have HR:=hid hr;unfold tkV shV at HTF;unfold tkV;clear hB hS hD hN hsb hnm hidn hsm hr hpd hBw hn1;obtain⟨tc,htc⟩:∃tc,CZ s t=tc:=⟨_,rfl⟩;rw[htc]at HTF HR;clear htc;by_cases q0:tc=0
 case neg =>
  have e1:r=tc:=by rw[← HR.out,if_neg q0]
  have HNE:=hid q0;have hb:=C8 q0;subst e1;clear q0;go_enter Tryz.func270,Tryz.ntmps270
  go_wp2_with (first
   |(refine wpList_load_mid rfl 31 _ rfl ps 0 rfl _ _ HRS.out Tryz.underlying31 rfl (by kernel_rfl) ?_)
   |(refine wpList_load_mid rfl 242 _ rfl w.heap.size 0 rfl _ _ HRT.out Tryz.underlying242 rfl (by kernel_rfl) ?_)
   |(go_at_call 271;refine(HTF.out _).mono ?_;rintro e w3 ⟨rfl,b3⟩;have T3:=hid (T1.out.below b3);have B3:=hid (HB.out.trans (b3.mono HB.out.size));have N3:=hid (N1.out.below b3);have x0:=T3.out.c0;have x3:=T3.out.c3;have d4:=(b3.cell (p:=⟨pd,4,none⟩) z3).trans D1.out;have y2:=T3.out.lt;have y3:=Nat.lt_of_lt_of_le z3 b3.size;have n0:=N3.out.cell;have y4:=N3.out.lt;clear b3))
  go_ret
  exact⟨rfl,B3.out.mono HBW.out,B3.out.size,fun h => absurd h HNE.out⟩
 subst q0;rw[if_pos rfl]at HR;by_cases q1:next≤t.id
 ·have e1:r=3:=by rw[← HR.out,if_pos q1]
  subst e1;go_enter Tryz.func270,Tryz.ntmps270
  go_wp2_with (first
   |(refine wpList_load_mid rfl 31 _ rfl ps 0 rfl _ _ HRS.out Tryz.underlying31 rfl (by kernel_rfl) ?_)
   |(refine wpList_load_mid rfl 242 _ rfl w.heap.size 0 rfl _ _ HRT.out Tryz.underlying242 rfl (by kernel_rfl) ?_)
   |(go_at_call 271;refine(HTF.out _).mono ?_;rintro e w3 ⟨rfl,b3⟩;have T3:=hid (T1.out.below b3);have B3:=hid (HB.out.trans (b3.mono HB.out.size));have N3:=hid (N1.out.below b3);have x0:=T3.out.c0;have x3:=T3.out.c3;have d4:=(b3.cell (p:=⟨pd,4,none⟩) z3).trans D1.out;have y2:=T3.out.lt;have y3:=Nat.lt_of_lt_of_le z3 b3.size;have n0:=N3.out.cell;have y4:=N3.out.lt;clear b3))
  go_ret
  exact⟨rfl,B3.out.mono HBW.out,B3.out.size,fun h => absurd h (by decide)⟩
 rw[if_neg q1]at HR;have q1i:t.id<next:=by omega
 clear q1;by_cases q2:0≤q∧t.group≠q
 ·have e1:r=1:=by rw[← HR.out,if_pos q2]
  subst e1;have q2a:=q2.1;have q2b:=C8 q2.2;clear q2;go_enter Tryz.func270,Tryz.ntmps270
  go_wp2_with (first
   |(refine wpList_load_mid rfl 31 _ rfl ps 0 rfl _ _ HRS.out Tryz.underlying31 rfl (by kernel_rfl) ?_)
   |(refine wpList_load_mid rfl 242 _ rfl w.heap.size 0 rfl _ _ HRT.out Tryz.underlying242 rfl (by kernel_rfl) ?_)
   |(go_at_call 271;refine(HTF.out _).mono ?_;rintro e w3 ⟨rfl,b3⟩;have T3:=hid (T1.out.below b3);have B3:=hid (HB.out.trans (b3.mono HB.out.size));have N3:=hid (N1.out.below b3);have x0:=T3.out.c0;have x3:=T3.out.c3;have d4:=(b3.cell (p:=⟨pd,4,none⟩) z3).trans D1.out;have y2:=T3.out.lt;have y3:=Nat.lt_of_lt_of_le z3 b3.size;have n0:=N3.out.cell;have y4:=N3.out.lt;clear b3))
  go_ret
  exact⟨rfl,B3.out.mono HBW.out,B3.out.size,fun h => absurd h (by decide)⟩
 rw[if_neg q2]at HR;by_cases q3:0≤q
 ·have q4:t.group=q:=by
   by_cases h:t.group=q
   ·exact h
   ·exact absurd ⟨q3,h⟩ q2
  have q4b:=Fp q4;clear q2 q4;obtain⟨mb,hmb⟩:∃mb,decide (t.id∈ids)=mb:=⟨_,rfl⟩;rw[hmb]at HCT;cases mb with
  |true =>
   have e1:r=7:=by rw[← HR.out,if_pos (of_decide_eq_true hmb)]
   subst e1;clear hmb;go_enter Tryz.func270,Tryz.ntmps270
   go_wp2_with (first
    |(refine wpList_load_mid rfl 31 _ rfl ps 0 rfl _ _ HRS.out Tryz.underlying31 rfl (by kernel_rfl) ?_)
    |(refine wpList_load_mid rfl 242 _ rfl w.heap.size 0 rfl _ _ HRT.out Tryz.underlying242 rfl (by kernel_rfl) ?_)
    |(go_at_call 271;refine(HTF.out _).mono ?_;rintro e w3 ⟨rfl,b3⟩;have T3:=hid (T1.out.below b3);have B3:=hid (HB.out.trans (b3.mono HB.out.size));have N3:=hid (N1.out.below b3);have x0:=T3.out.c0;have x3:=T3.out.c3;have d4:=(b3.cell (p:=⟨pd,4,none⟩) z3).trans D1.out;have y2:=T3.out.lt;have y3:=Nat.lt_of_lt_of_le z3 b3.size;have n0:=N3.out.cell;have y4:=N3.out.lt;clear b3)
    |(go_at_call 173;refine(HCT.out _ N3.out).mono ?_;rintro e w4 ⟨rfl,b4⟩;have B4:=hid (B3.out.trans (b4.mono B3.out.size));have N4:=hid (N3.out.below b4);have T4:=hid (T3.out.below b4);have u0:=T4.out.c0;have m0:=N4.out.cell;have m1:=N4.out.free;have y5:=N4.out.lt;have y6:=T4.out.lt;clear b4))
   go_ret
   exact⟨rfl,B4.out.mono HBW.out,B4.out.size,fun h => absurd h (by decide)⟩
  |false =>
   have e1:r=0:=by rw[← HR.out,if_neg (of_decide_eq_false hmb)]
   subst e1;clear hmb;go_enter Tryz.func270,Tryz.ntmps270
   go_wp2_with (first
    |(refine wpList_load_mid rfl 31 _ rfl ps 0 rfl _ _ HRS.out Tryz.underlying31 rfl (by kernel_rfl) ?_)
    |(refine wpList_load_mid rfl 242 _ rfl w.heap.size 0 rfl _ _ HRT.out Tryz.underlying242 rfl (by kernel_rfl) ?_)
    |(go_at_call 271;refine(HTF.out _).mono ?_;rintro e w3 ⟨rfl,b3⟩;have T3:=hid (T1.out.below b3);have B3:=hid (HB.out.trans (b3.mono HB.out.size));have N3:=hid (N1.out.below b3);have x0:=T3.out.c0;have x3:=T3.out.c3;have d4:=(b3.cell (p:=⟨pd,4,none⟩) z3).trans D1.out;have y2:=T3.out.lt;have y3:=Nat.lt_of_lt_of_le z3 b3.size;have n0:=N3.out.cell;have y4:=N3.out.lt;clear b3)
    |(go_at_call 173;refine(HCT.out _ N3.out).mono ?_;rintro e w4 ⟨rfl,b4⟩;have B4:=hid (B3.out.trans (b4.mono B3.out.size));have N4:=hid (N3.out.below b4);have T4:=hid (T3.out.below b4);have HAP:=hid (Kt N4.out HID.out (by have:=HSM.out;omega));have u0:=T4.out.c0;have m0:=N4.out.cell;have m1:=N4.out.free;have y5:=N4.out.lt;have y6:=T4.out.lt;clear b4)
    |(at_builtin;refine AQ rfl (.tmp 36) (.tmp 39) 25 rfl _ _ (by rfl) (by rfl) HAP.out ?_;rintro v9 w9 ⟨A9,n9,c9,rfl,b9,s9,p9,fz9,l9,o9⟩;have O9:=hid o9;have B9:=hid b9;have S9:=hid s9;clear o9 b9 s9))
   go_ret
   exact⟨rfl,((B4.out.mono HBW.out).trans B9.out).setCell (show B≤pi from N4.out.ge) _,by simpa [World.setCell]using Nat.le_trans B4.out.size S9.out,fun _ =>⟨A9,n9,c9,O9.out⟩⟩
 ·have q3n:q<0:=by omega
  clear q2 q3;obtain⟨mb,hmb⟩:∃mb,decide (t.id∈ids)=mb:=⟨_,rfl⟩;rw[hmb]at HCT;cases mb with
  |true =>
   have e1:r=7:=by rw[← HR.out,if_pos (of_decide_eq_true hmb)]
   subst e1;clear hmb;go_enter Tryz.func270,Tryz.ntmps270
   go_wp2_with (first
    |(refine wpList_load_mid rfl 31 _ rfl ps 0 rfl _ _ HRS.out Tryz.underlying31 rfl (by kernel_rfl) ?_)
    |(refine wpList_load_mid rfl 242 _ rfl w.heap.size 0 rfl _ _ HRT.out Tryz.underlying242 rfl (by kernel_rfl) ?_)
    |(go_at_call 271;refine(HTF.out _).mono ?_;rintro e w3 ⟨rfl,b3⟩;have T3:=hid (T1.out.below b3);have B3:=hid (HB.out.trans (b3.mono HB.out.size));have N3:=hid (N1.out.below b3);have x0:=T3.out.c0;have x3:=T3.out.c3;have d4:=(b3.cell (p:=⟨pd,4,none⟩) z3).trans D1.out;have y2:=T3.out.lt;have y3:=Nat.lt_of_lt_of_le z3 b3.size;have n0:=N3.out.cell;have y4:=N3.out.lt;clear b3)
    |(go_at_call 173;refine(HCT.out _ N3.out).mono ?_;rintro e w4 ⟨rfl,b4⟩;have B4:=hid (B3.out.trans (b4.mono B3.out.size));have N4:=hid (N3.out.below b4);have T4:=hid (T3.out.below b4);have u0:=T4.out.c0;have m0:=N4.out.cell;have m1:=N4.out.free;have y5:=N4.out.lt;have y6:=T4.out.lt;clear b4))
   go_ret
   exact⟨rfl,B4.out.mono HBW.out,B4.out.size,fun h => absurd h (by decide)⟩
  |false =>
   have e1:r=0:=by rw[← HR.out,if_neg (of_decide_eq_false hmb)]
   subst e1;clear hmb;go_enter Tryz.func270,Tryz.ntmps270
   go_wp2_with (first
    |(refine wpList_load_mid rfl 31 _ rfl ps 0 rfl _ _ HRS.out Tryz.underlying31 rfl (by kernel_rfl) ?_)
    |(refine wpList_load_mid rfl 242 _ rfl w.heap.size 0 rfl _ _ HRT.out Tryz.underlying242 rfl (by kernel_rfl) ?_)
    |(go_at_call 271;refine(HTF.out _).mono ?_;rintro e w3 ⟨rfl,b3⟩;have T3:=hid (T1.out.below b3);have B3:=hid (HB.out.trans (b3.mono HB.out.size));have N3:=hid (N1.out.below b3);have x0:=T3.out.c0;have x3:=T3.out.c3;have d4:=(b3.cell (p:=⟨pd,4,none⟩) z3).trans D1.out;have y2:=T3.out.lt;have y3:=Nat.lt_of_lt_of_le z3 b3.size;have n0:=N3.out.cell;have y4:=N3.out.lt;clear b3)
    |(go_at_call 173;refine(HCT.out _ N3.out).mono ?_;rintro e w4 ⟨rfl,b4⟩;have B4:=hid (B3.out.trans (b4.mono B3.out.size));have N4:=hid (N3.out.below b4);have T4:=hid (T3.out.below b4);have HAP:=hid (Kt N4.out HID.out (by have:=HSM.out;omega));have u0:=T4.out.c0;have m0:=N4.out.cell;have m1:=N4.out.free;have y5:=N4.out.lt;have y6:=T4.out.lt;clear b4)
    |(at_builtin;refine AQ rfl (.tmp 36) (.tmp 39) 25 rfl _ _ (by rfl) (by rfl) HAP.out ?_;rintro v9 w9 ⟨A9,n9,c9,rfl,b9,s9,p9,fz9,l9,o9⟩;have O9:=hid o9;have B9:=hid b9;have S9:=hid s9;clear o9 b9 s9))
   go_ret
   exact⟨rfl,((B4.out.mono HBW.out).trans B9.out).setCell (show B≤pi from N4.out.ge) _,by simpa [World.setCell]using Nat.le_trans B4.out.size S9.out,fun _ =>⟨A9,n9,c9,O9.out⟩⟩
theorem BF.keepB {W W':World} {p B:Nat} {s:Sh}(h:BF W p s)(hp:p<B)(hb:Below B W W'):BF W' p s :=
 ⟨fun j v hj =>(hb.cell (p:=⟨p,0+j,none⟩) hp).trans (h.rng j v hj),(hb.cell (p:=⟨p,0,none⟩) hp).trans h.c0,(hb.cell (p:=⟨p,1,none⟩) hp).trans h.c1,(hb.cell (p:=⟨p,2,none⟩) hp).trans h.c2,(hb.cell (p:=⟨p,3,none⟩) hp).trans h.c3,(hb.cell (p:=⟨p,4,none⟩) hp).trans h.c4,(hb.cell (p:=⟨p,5,none⟩) hp).trans h.c5,(hb.cell (p:=⟨p,6,none⟩) hp).trans h.c6,(hb.cell (p:=⟨p,7,none⟩) hp).trans h.c7,(hb.cell (p:=⟨p,8,none⟩) hp).trans h.c8,Nat.lt_of_lt_of_le h.lt hb.size⟩
theorem MA {d:AJ} {i:Nat}(h:i<d.queues.length):A7 d=Bd 0 (d.queues.take i) ++(d.queues[i].map (fun t =>(t,(i:Int))) ++(Bd (i+1) (d.queues.drop (i+1)) ++ d.aside.map fun t =>(t,-1))):=by
 unfold A7;conv => lhs;rw[← List.take_append_drop i d.queues]
 rw[Ep,List.drop_eq_getElem_cons h,Bd,List.length_take,Nat.min_eq_left (by omega),Nat.zero_add];simp only[List.append_assoc]
structure Dm (s:Sh) (d:AJ) (B pi:Nat) (P:List (An × Int)) (W:World):Prop where
 zero:DJ s d.next P [] =0
 pre:∃R,A7 d=P ++ R
 nums:∃A n c,DY W B pi (P.map fun x => x.1.id) A n c
theorem Dm.small {s:Sh} {d:AJ} {B pi:Nat} {P:List (An × Int)} {W:World}(h:Dm s d B pi P W)(hsm:(AN d).length≤1000000):(P.map fun x => x.1.id).length≤1000000:=by
 obtain⟨R,hR⟩:=h.pre;have h1:=Eg d;rw[hR,List.length_append]at h1;rw[List.length_map];omega
theorem Dm.bad {s:Sh} {d:AJ} {B pi:Nat} {P R:List (An × Int)} {x:An × Int} {W:World}(h:Dm s d B pi P W)(hR:A7 d=P ++ x :: R)(h0:CK s d.next (P.map fun x => x.1.id) x≠0):tkC s d=CK s d.next (P.map fun x => x.1.id) x:=by
 have:=JG (b:=R) (ids:=[]) h.zero (by rw[List.nil_append];exact h0);rw[List.nil_append]at this;unfold tkC;rw[hR];exact this
theorem Dm.step {s:Sh} {d:AJ} {B pi:Nat} {P R:List (An × Int)} {x:An × Int} {W W':World}(h:Dm s d B pi P W)(hR:A7 d=P ++ x :: R)(h0:CK s d.next (P.map fun x => x.1.id) x=0)(hn:∃A n c,DY W' B pi ((P.map fun x => x.1.id) ++ [x.1.id]) A n c):Dm s d B pi (P ++ [x]) W' :=
 ⟨IM h.zero (by rw[List.nil_append];exact h0),⟨R,by rw[hR];simp⟩,by rw[List.map_append];exact hn⟩
theorem Dm.to {s:Sh} {d:AJ} {B pi:Nat} {P P':List (An × Int)} {W:World}(h:Dm s d B pi P W)(e:P=P'):Dm s d B pi P' W:=e ▸ h
theorem Dm.all {s:Sh} {d:AJ} {B pi:Nat} {W:World}(h:Dm s d B pi (A7 d) W):tkC s d=0:=h.zero
theorem Hl(s:Sh)(hsb:shB s=true)(d:AJ)(hsm:(AN d).length≤1000000)(ps pd pi B:Nat)(P R:List (An × Int))(t:An)(q:Int)(hidn:okI t.id)(hnm:t.name.size≤9223372036854775807)(W w:World)
  (h:Dm s d B pi P W) (hR:A7 d=P ++(t,q) :: R) (hw:Below W.heap.size W w) (hS:BF w ps s) (hD:w.cell? ⟨pd,4,none⟩=some (int i64 d.next)) :
  Calls Tryz.prog 270 #[tkV t,int i64 q,.pointer (some ⟨ps,0,none⟩),.pointer (some ⟨pd,0,none⟩),.pointer (some ⟨pi,0,none⟩)] w fun e w' =>∃r,e= .returned (int i64 r)∧Below B w w'∧w.heap.size≤w'.heap.size∧(r≠0→tkC s d=r)∧(r=0→Dm s d B pi (P ++ [(t,q)]) w'):=by
 obtain⟨A,n,c,hN⟩:=h.nums;refine(look_c s hsb t hidn hnm q d.next ps pd pi B _ A n c w hS hD (hN.below hw) (h.small hsm)).mono ?_;rintro e w' ⟨rfl,hb,hsz,hn⟩;exact⟨_,rfl,hb,hsz,fun h0 => h.bad hR h0,fun h0 => h.step hR h0 (hn h0)⟩
theorem It(s:Sh)(hsb:shB s=true)(d:AJ)(hsm:(AN d).length≤1000000)(cs:List Value)(f:List Addr)(w:World)(h:AO w f cs d) :
  Calls Tryz.prog 207 #[shV s,.agg cs.toArray] w fun e w' => e= .returned (int i64 (tkC s d))∧Below w.heap.size w w':=by
 dsimp only[AO]at h;obtain⟨v0,v1,v2,f0,f1,f2,rfl,-,o0,o1,r0,r1,r2⟩:=h;obtain⟨A0,c0,rfl,m0,m0'⟩:=rSl.head r0;obtain⟨A1,c1,rfl,m1,m1'⟩:=rSl.head r1;obtain⟨A2,c2,rfl,m2,m2'⟩:=rSl.head r2;obtain⟨g0,hg0⟩:∃g0,w.heap.size=g0:=⟨_,rfl⟩;obtain⟨u4,hu4⟩:∃u4,((((w.alloc (.cells #[int i64 s.g,int i64 s.c,int i64 s.data,int i64 s.p,int i64 s.rows,int i64 s.cap,int i64 s.b,int i64 s.q,int i64 s.t] 31)).alloc (.cells #[.slice A0 d.queues.length c0,.slice A1 d.aside.length c1,.slice A2 d.answers.length c2,int i64 d.turn,int i64 d.next] 60)).alloc (.cells #[] 2)).alloc (.cells #[.slice none 0 0] 25))=u4:=⟨_,rfl⟩;have hs4:u4.heap.size=g0+4:=by rw[← hu4,← hg0];simp
 have hb4:Below w.heap.size w u4:=by rw[← hu4];exact Ah (Ah (Ah (Ah (Below.refl _ _) _) _) _) _
 have hS4:BF u4 g0 s:=by rw[← hu4,← hg0];exact BF.of ((((Blk.new w 31 #[int i64 s.g,int i64 s.c,int i64 s.data,int i64 s.p,int i64 s.rows,int i64 s.cap,int i64 s.b,int i64 s.q,int i64 s.t]).alloc _).alloc _).alloc _)
 have hK4:Blk u4 (g0+1) 60 #[.slice A0 d.queues.length c0,.slice A1 d.aside.length c1,.slice A2 d.answers.length c2,int i64 d.turn,int i64 d.next]:=by rw[← hu4,← hg0];exact((Blk.new1 w (.cells #[int i64 s.g,int i64 s.c,int i64 s.data,int i64 s.p,int i64 s.rows,int i64 s.cap,int i64 s.b,int i64 s.q,int i64 s.t] 31) 60 #[.slice A0 d.queues.length c0,.slice A1 d.aside.length c1,.slice A2 d.answers.length c2,int i64 d.turn,int i64 d.next]).alloc _).alloc _
 have hE4:Blk u4 (g0+2) 2 #[]:=by rw[← hu4,← hg0];exact(Blk.new2 w (.cells #[int i64 s.g,int i64 s.c,int i64 s.data,int i64 s.p,int i64 s.rows,int i64 s.cap,int i64 s.b,int i64 s.q,int i64 s.t] 31) (.cells #[.slice A0 d.queues.length c0,.slice A1 d.aside.length c1,.slice A2 d.answers.length c2,int i64 d.turn,int i64 d.next] 60) 2 #[]).alloc _
 have hP4:Blk u4 (g0+3) 25 #[.slice none 0 0]:=by
  rw[← hu4,← hg0];have:=Blk.new (((w.alloc (.cells #[int i64 s.g,int i64 s.c,int i64 s.data,int i64 s.p,int i64 s.rows,int i64 s.cap,int i64 s.b,int i64 s.q,int i64 s.t] 31)).alloc (.cells #[.slice A0 d.queues.length c0,.slice A1 d.aside.length c1,.slice A2 d.answers.length c2,int i64 d.turn,int i64 d.next] 60)).alloc (.cells #[] 2)) 25 #[.slice none 0 0];rwa [show(((w.alloc (.cells #[int i64 s.g,int i64 s.c,int i64 s.data,int i64 s.p,int i64 s.rows,int i64 s.cap,int i64 s.b,int i64 s.q,int i64 s.t] 31)).alloc (.cells #[.slice A0 d.queues.length c0,.slice A1 d.aside.length c1,.slice A2 d.answers.length c2,int i64 d.turn,int i64 d.next] 60)).alloc (.cells #[] 2)).heap.size =w.heap.size+3 by simp]at this
 obtain⟨u5,hu5⟩:∃u5,u4.setCell ⟨g0+3,0,none⟩ (.slice (some ⟨g0+2,0,none⟩) 0 0)=u5:=⟨_,rfl⟩;have hb5:Below (g0+2) u4 u5:=by rw[← hu5];exact(Below.refl _ _).setCell (show g0+2≤g0+3 by omega) _
 have hs5:u5.heap.size=g0+4:=by rw[← hu5];simpa [World.setCell]using hs4
 have hN5:DY u5 (g0+2) (g0+3) [] (some ⟨g0+2,0,none⟩) 0 0:=by
  have K5:Blk u5 (g0+3) 25 #[.slice (some ⟨g0+2,0,none⟩) 0 0]:=by rw[← hu5];exact Blk.set_ hP4 0 _
  have E5:Blk u5 (g0+2) 2 #[]:=by rw[← hu5];exact Blk.far hE4 (by simp) _
  refine⟨(K5.cell 0).trans rfl,K5.frozen 0,by omega,by omega,Ao.start ⟨rfl,.inr ⟨g0+2,0,#[],rfl,Nat.le_refl _,E5,Nat.le_refl _,by unfold maxLen;omega,rfl,rfl⟩⟩,fun e => ?_⟩;injection e with e
  exact absurd e (by show¬g0+2=g0+3;omega)
 have hS5:=hS4.keepB (show g0<g0+2 by omega) hb5;have hK5:Blk u5 (g0+1) 60 #[.slice A0 d.queues.length c0,.slice A1 d.aside.length c1,.slice A2 d.answers.length c2,int i64 d.turn,int i64 d.next]:=by rw[← hu5];exact Blk.far hK4 (by simp) _
 have hB5:Below w.heap.size w u5:=hb4.trans (hb5.mono (by omega));have HS:=hid hS5;have HK:=hid hK5;have HB:=hid hB5;have HZ:=hid hs5;have HSEEN:=hid (show Dm s d (g0+2) (g0+3) (Bd 0 (d.queues.take 0)) u5 from⟨rfl,⟨_,rfl⟩,_,_,_,hN5⟩);have HU4:=hid hu4;have HU5:=hid hu5;have HSB:=hid hsb;have HSM:=hid hsm;have HG:=hid hg0;obtain⟨nQ,hnQ⟩:∃nQ,d.queues.length=nQ:=⟨_,rfl⟩;obtain⟨nS,hnS⟩:∃nS,d.aside.length=nS:=⟨_,rfl⟩;have HNQ:=hid hnQ;have HNS:=hid hnS;have R0:=hid r0;have R1:=hid r1;obtain⟨r,hr⟩:∃r,tkC s d=r:=⟨_,rfl⟩;rw[hr];have HR:=hid hr;have k0:u5.cell? ⟨g0+1,0,none⟩=some (.slice A0 nQ c0):=(hK5.cell 0).trans (by rw[← hnQ];rfl);have k1:=hid (show u5.cell? ⟨g0+1,1,none⟩=some (.slice A1 nS c1)from(hK5.cell 1).trans (by rw[← hnS];rfl));have hz1:g0+1<u5.heap.size:=by omega
 have hp4:u4.cell? ⟨g0+3,0,none⟩=some (.slice none 0 0):=(hP4.cell 0).trans rfl;have hf4:=hP4.frozen 0;have hz4:g0+3<u4.heap.size:=by omega
 rw[hnQ]at m0;rw[hnS]at m1;unfold shV;clear hs4 hb4 hS4 hK4 hE4 hP4 hb5 hs5 hN5 hS5 hK5 hB5 hsb hsm hnQ hnS r0 r1 r2 hr m2 m2' o0 o1;go_enter Tryz.func207,Tryz.ntmps207
 go_wp2_with fail
 clear hu4 hu5 hp4 hf4 hz4 k0 hg0;go_loopw [20] (fun ix wr =>∃i:Nat,i≤nQ∧ix= int i64 i∧Hid (Dm s d (g0+2) (g0+3) (Bd 0 (d.queues.take i)) wr)∧Hid (Below (g0+2) u5 wr)∧Hid (u5.heap.size≤wr.heap.size)) (fun ix _ => nQ - (intOf ix).toNat)
 case atStart => exact⟨0,by omega,rfl,HSEEN.out,Below.refl _ _,Nat.le_refl _⟩
 case round =>
  clear HSEEN;obtain⟨i,hi,rfl,HSN,HB2,HSZ⟩:=hrel;have HBW:=hid (show Below w.heap.size w wr from HB.out.trans (HB2.out.mono (by rw[HG.out];omega)));by_cases hlt:i<nQ
  ·have hk:i<d.queues.length:=by rw[HNQ.out];exact hlt
   obtain⟨Ax,cx,ev,hc,hm,hx⟩:=rSl.at_ (Ai.fixed Af.fixed) (by decide) R0.out;injection ev with ev1 ev2 ev3
   subst ev1 ev3;clear ev2;rw[HNQ.out]at hc;obtain⟨ad,b,oo,cs,fk,rfl,hat0⟩:=hx i hk;obtain⟨ve0,hve0,hrd0⟩:=hat0.reads;subst hve0;have hat:=hat0.below (Ai.local_ Af.local_) HBW.out;have hpl:=hat.place;have hbl:=hat.lt;obtain⟨Ae,ce,rfl,hmc,hmm⟩:=rSl.head hrd0;have hpc:=hat.cell 0 (by simp);simp only[Nat.add_zero,List.getElem_cons_zero]at hpc;rw[Nat.mul_one]at hpl;have hki:(i:Int)<(nQ:Int):=by omega
   have HCUT:=hid (MA hk);have HNXT:=hid (show Bd 0 (d.queues.take (i+1))=Bd 0 (d.queues.take i) ++ d.queues[i].map (fun t =>(t,(i:Int)))from by
    rw[List.take_succ_eq_append_getElem hk,Ep,List.length_take,Nat.min_eq_left (by omega),Nat.zero_add];simp[Bd])
   obtain⟨q,hq⟩:∃q,d.queues[i] =q:=⟨_,rfl⟩;rw[hq]at hpc hrd0 hmc HCUT HNXT;obtain⟨nq,hnq⟩:∃nq,q.length=nq:=⟨_,rfl⟩;rw[hnq]at hpc hrd0 hmc;have HNL:=hid hnq;have HQ:=hid hrd0;clear hat hat0 hx hk hq hrd0 hnq;go_wp2_with fail
   have HLT:=hid hlt;clear hpc hpl hbl hki hlt;go_loopw [27] (fun jx wr =>∃j:Nat,j≤nq∧jx= int i64 j∧Hid (Dm s d (g0+2) (g0+3) (Bd 0 (d.queues.take i) ++(q.take j).map (fun t =>(t,(i:Int)))) wr)∧Hid (Below (g0+2) u5 wr)∧Hid (u5.heap.size≤wr.heap.size)) (fun jx _ => nq - (intOf jx).toNat)
   case atStart => exact⟨0,by omega,rfl,HSN.out.to (by simp),HB2.out,HSZ.out⟩
   case round =>
    clear HSN HB2 HSZ HBW;obtain⟨j,hj,rfl,HSN,HB2,HSZ⟩:=hrel;have HBW:=hid (show Below w.heap.size w wr from HB.out.trans (HB2.out.mono (by rw[HG.out];omega)));by_cases hlt:j<nq
    ·have hk:j<q.length:=by rw[HNL.out];exact hlt
     have HREST:=hid (show A7 d=(Bd 0 (d.queues.take i) ++(q.take j).map (fun t =>(t,(i:Int)))) ++(q[j],(i:Int)) ::((q.drop (j+1)).map (fun t =>(t,(i:Int))) ++(Bd (i+1) (d.queues.drop (i+1)) ++ d.aside.map fun t =>(t,-1)))from by
      rw[HCUT.out,List.append_assoc];congr 1
      conv => lhs;rw[← List.take_append_drop j q]
      rw[List.drop_eq_getElem_cons hk];simp only[List.map_append,List.map_cons,List.append_assoc,List.cons_append])
     have HSTP:=hid (show(Bd 0 (d.queues.take i) ++(q.take j).map (fun t =>(t,(i:Int)))) ++ [(q[j],(i:Int))] =Bd 0 (d.queues.take i) ++(q.take (j+1)).map (fun t =>(t,(i:Int)))from by
      rw[List.take_succ_eq_append_getElem hk,List.map_append,List.append_assoc];rfl)
     obtain⟨Ay,cy,ev,hc2,hm2,hx⟩:=rSl.at_ Af.fixed (by decide) (rSl.below Af.local_ Af.fixed HQ.out HBW.out);injection ev with ev1 ev2 ev3
     subst ev1 ev3;clear ev2;rw[HNL.out]at hc2;obtain⟨ad2,b2,o2,cs2,fk2,rfl,hat⟩:=hx j hk;have hpl:=hat.place;have hbl:=hat.lt;obtain⟨hcs,-,oid,-,onm,-⟩:=hat.reads;subst hcs;have HRG:=hid (TkO.of hat).rng;have hki:(j:Int)<(nq:Int):=by omega
     obtain⟨t,ht⟩:∃t,q[j] =t:=⟨_,rfl⟩;rw[ht]at HRG HREST HSTP oid onm;obtain⟨Z,hZ⟩:∃Z:Array Value,#[int i64 0,int i64 0,.string ⟨#[]⟩,int i64 0] =Z:=⟨_,rfl⟩;have hZs:Z.size=4:=by rw[← hZ];rfl
     have KZ:=Blk.new wr 242 Z;have HTH:=hid (Blk.there KZ 4 (by rw[hZs];exact Nat.le_refl _));obtain⟨w3,hW2⟩:∃w3,(wr.alloc (.cells Z 242)).setCells wr.heap.size 0 [int i64 t.id,int i64 t.kind,.string t.name,int i64 t.group] =w3:=⟨_,rfl⟩;have K3:=hid (show Blk w3 wr.heap.size 242 #[int i64 t.id,int i64 t.kind,.string t.name,int i64 t.group] by rw[← hW2];exact Blk.laid KZ [int i64 t.id,int i64 t.kind,.string t.name,int i64 t.group] (by rw[hZs];rfl));have b3:Below wr.heap.size wr w3:=by rw[← hW2];exact Aw (Ah (Below.refl _ _) _) _ 0 (Nat.le_refl _)
     have HW2:=hid hW2;have HR3:=hid (Blk.rangeAll K3.out);have hB3:Below (g0+2) u5 w3:=HB2.out.trans (b3.mono (by have:=HSZ.out;have:=HZ.out;omega));have HB3:=hid hB3;have hz3:=K3.out.lt;have HLK:=hid (Hl s HSB.out d HSM.out g0 (g0+1) (g0+3) (g0+2) _ _ t ((i:Int)) oid onm wr w3 HSN.out HREST.out b3 (HS.out.keepB (by omega) hB3) ((hB3.cell (p:=⟨g0+1,4,none⟩) (by simp)).trans ((HK.out.cell 4).trans rfl)));rw[HSTP.out]at HLK;have HSZ3:=hid (show u5.heap.size≤w3.heap.size from Nat.le_trans HSZ.out b3.size);unfold tkV at HLK;clear hat hx hk ht hW2 KZ hZs b3 hB3 HREST HSTP HSN oid onm;go_wp2_with (first
      |(refine wpList_load_mid rfl 242 _ rfl b2 o2 rfl _ _ HRG.out Tryz.underlying242 rfl (by kernel_rfl) ?_)
      |(refine wpList_store_mid rfl 242 _ _ rfl wr.heap.size 0 #[int i64 t.id,int i64 t.kind,.string t.name,int i64 t.group] rfl rfl HTH.out (by kernel_rfl) (by simp[Value.oneCell']) ?_;rw[show(wr.alloc (.cells Z 242)).setCells wr.heap.size 0 (#[int i64 t.id,int i64 t.kind,.string t.name,int i64 t.group]:Array Value).toList =w3 from HW2.out])
      |(refine wpList_load_mid rfl 242 _ rfl wr.heap.size 0 rfl _ _ HR3.out Tryz.underlying242 rfl (by kernel_rfl) ?_))
     refine HLK.out.mono ?_;rintro e w7 ⟨rr,rfl,b7,s7,bad7,ok7⟩;have B7:=hid (HB3.out.trans b7);have S7:=hid (Nat.le_trans HSZ3.out s7);have BW7:=hid (show Below w.heap.size w w7 from HB.out.trans (B7.out.mono (by rw[HG.out];omega)));by_cases hr0:rr=0
     ·have O7:=hid (ok7 hr0);subst hr0;clear b7 s7 bad7 ok7;go_wp2_with fail
      go_roundw
      case rel => exact⟨j+1,by omega,by go_num,O7.out,B7.out,S7.out⟩
      case measure => simp[intOf];omega
     ·have e0:r=rr:=HR.out.symm.trans (bad7 hr0);subst e0;have hb:=C8 hr0;clear b7 s7 bad7 ok7 hr0;go_wp2_with fail
      go_ret
      exact⟨rfl,BW7.out⟩
    ·obtain rfl:nq=j:=by omega
     have hlt0:=HLT.out;have HSN3:=hid (HSN.out.to (P':=Bd 0 (d.queues.take (i+1))) (by rw[HNXT.out,List.take_of_length_le (l:=q) (by rw[HNL.out];exact Nat.le_refl _)]));go_wp2_with fail
     go_roundw
     case rel => exact⟨i+1,by omega,by go_num,HSN3.out,HB2.out,HSZ.out⟩
     case measure => simp[intOf];omega
  ·obtain rfl:nQ=i:=by omega
   have HSN3:=hid (HSN.out.to (P':=Bd 0 d.queues ++(d.aside.take 0).map (fun t =>(t,(-1:Int)))) (by rw[List.take_of_length_le (l:=d.queues) (by rw[HNQ.out];exact Nat.le_refl _)];simp));have k1w:=(HB2.out.cell (p:=⟨g0+1,1,none⟩) (by simp)).trans k1.out;have hzw:g0+1<wr.heap.size:=Nat.lt_of_lt_of_le hz1 HSZ.out;clear HSN;go_wp2_with fail
   clear k1w;go_loopw [43] (fun jx wr =>∃j:Nat,j≤nS∧jx= int i64 j∧Hid (Dm s d (g0+2) (g0+3) (Bd 0 d.queues ++(d.aside.take j).map (fun t =>(t,(-1:Int)))) wr)∧Hid (Below (g0+2) u5 wr)∧Hid (u5.heap.size≤wr.heap.size)) (fun jx _ => nS - (intOf jx).toNat)
   case atStart => exact⟨0,by omega,rfl,HSN3.out,HB2.out,HSZ.out⟩
   case round =>
    clear HSN3 HB2 HSZ HBW;obtain⟨j,hj,rfl,HSN,HB2,HSZ⟩:=hrel;have HBW:=hid (show Below w.heap.size w wr from HB.out.trans (HB2.out.mono (by rw[HG.out];omega)));by_cases hlt:j<nS
    ·have hk:j<d.aside.length:=by rw[HNS.out];exact hlt
     have HREST:=hid (show A7 d=(Bd 0 d.queues ++(d.aside.take j).map (fun t =>(t,(-1:Int)))) ++(d.aside[j],(-1:Int)) ::(d.aside.drop (j+1)).map (fun t =>(t,(-1:Int)))from by
      unfold A7;rw[List.append_assoc];congr 1
      conv => lhs;rw[← List.take_append_drop j d.aside]
      rw[List.drop_eq_getElem_cons hk];simp only[List.map_append,List.map_cons])
     have HSTP:=hid (show(Bd 0 d.queues ++(d.aside.take j).map (fun t =>(t,(-1:Int)))) ++ [(d.aside[j],(-1:Int))] =Bd 0 d.queues ++(d.aside.take (j+1)).map (fun t =>(t,(-1:Int)))from by
      rw[List.take_succ_eq_append_getElem hk,List.map_append,List.append_assoc];rfl)
     obtain⟨Ay,cy,ev,hc2,hm2,hx⟩:=rSl.at_ Af.fixed (by decide) (rSl.below Af.local_ Af.fixed R1.out HBW.out);injection ev with ev1 ev2 ev3
     subst ev1 ev3;clear ev2;rw[HNS.out]at hc2;obtain⟨ad2,b2,o2,cs2,fk2,rfl,hat⟩:=hx j hk;have hpl:=hat.place;have hbl:=hat.lt;obtain⟨hcs,-,oid,-,onm,-⟩:=hat.reads;subst hcs;have HRG:=hid (TkO.of hat).rng;have hki:(j:Int)<(nS:Int):=by omega
     obtain⟨t,ht⟩:∃t,d.aside[j] =t:=⟨_,rfl⟩;rw[ht]at HRG HREST HSTP oid onm;obtain⟨Z,hZ⟩:∃Z:Array Value,#[int i64 0,int i64 0,.string ⟨#[]⟩,int i64 0] =Z:=⟨_,rfl⟩;have hZs:Z.size=4:=by rw[← hZ];rfl
     have KZ:=Blk.new wr 242 Z;have HTH:=hid (Blk.there KZ 4 (by rw[hZs];exact Nat.le_refl _));obtain⟨w3,hW2⟩:∃w3,(wr.alloc (.cells Z 242)).setCells wr.heap.size 0 [int i64 t.id,int i64 t.kind,.string t.name,int i64 t.group] =w3:=⟨_,rfl⟩;have K3:=hid (show Blk w3 wr.heap.size 242 #[int i64 t.id,int i64 t.kind,.string t.name,int i64 t.group] by rw[← hW2];exact Blk.laid KZ [int i64 t.id,int i64 t.kind,.string t.name,int i64 t.group] (by rw[hZs];rfl));have b3:Below wr.heap.size wr w3:=by rw[← hW2];exact Aw (Ah (Below.refl _ _) _) _ 0 (Nat.le_refl _)
     have HW2:=hid hW2;have HR3:=hid (Blk.rangeAll K3.out);have hB3:Below (g0+2) u5 w3:=HB2.out.trans (b3.mono (by have:=HSZ.out;have:=HZ.out;omega));have HB3:=hid hB3;have hz3:=K3.out.lt;have HLK:=hid (Hl s HSB.out d HSM.out g0 (g0+1) (g0+3) (g0+2) _ _ t ((-1:Int)) oid onm wr w3 HSN.out HREST.out b3 (HS.out.keepB (by omega) hB3) ((hB3.cell (p:=⟨g0+1,4,none⟩) (by simp)).trans ((HK.out.cell 4).trans rfl)));rw[HSTP.out]at HLK;have HSZ3:=hid (show u5.heap.size≤w3.heap.size from Nat.le_trans HSZ.out b3.size);unfold tkV at HLK;clear hat hx hk ht hW2 KZ hZs b3 hB3 HREST HSTP HSN oid onm;go_wp2_with (first
      |(refine wpList_load_mid rfl 242 _ rfl b2 o2 rfl _ _ HRG.out Tryz.underlying242 rfl (by kernel_rfl) ?_)
      |(refine wpList_store_mid rfl 242 _ _ rfl wr.heap.size 0 #[int i64 t.id,int i64 t.kind,.string t.name,int i64 t.group] rfl rfl HTH.out (by kernel_rfl) (by simp[Value.oneCell']) ?_;rw[show(wr.alloc (.cells Z 242)).setCells wr.heap.size 0 (#[int i64 t.id,int i64 t.kind,.string t.name,int i64 t.group]:Array Value).toList =w3 from HW2.out])
      |(refine wpList_load_mid rfl 242 _ rfl wr.heap.size 0 rfl _ _ HR3.out Tryz.underlying242 rfl (by kernel_rfl) ?_))
     refine HLK.out.mono ?_;rintro e w7 ⟨rr,rfl,b7,s7,bad7,ok7⟩;have B7:=hid (HB3.out.trans b7);have S7:=hid (Nat.le_trans HSZ3.out s7);have BW7:=hid (show Below w.heap.size w w7 from HB.out.trans (B7.out.mono (by rw[HG.out];omega)));by_cases hr0:rr=0
     ·have O7:=hid (ok7 hr0);subst hr0;clear b7 s7 bad7 ok7;go_wp2_with fail
      go_roundw
      case rel => exact⟨j+1,by omega,by go_num,O7.out,B7.out,S7.out⟩
      case measure => simp[intOf];omega
     ·have e0:r=rr:=HR.out.symm.trans (bad7 hr0);subst e0;have hb:=C8 hr0;clear b7 s7 bad7 ok7 hr0;go_wp2_with fail
      go_ret
      exact⟨rfl,BW7.out⟩
    ·obtain rfl:nS=j:=by omega
     have e0:r=0:=HR.out.symm.trans (HSN.out.to (P':=A7 d) (by rw[List.take_of_length_le (l:=d.aside) (by rw[HNS.out];exact Nat.le_refl _)];rfl)).all;subst e0;go_wp2_with fail
     go_ret
     exact⟨rfl,HBW.out⟩
end Go.Proofs.YtfjkoifpdoemdaaGreat
