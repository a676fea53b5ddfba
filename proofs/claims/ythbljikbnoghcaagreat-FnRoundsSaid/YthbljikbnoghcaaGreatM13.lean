/-
  Part 13 of the proof; the last part states and proves the statement.
-/
import Derived.Test.YthbljikbnoghcaaGreatM12
import Derived.Lib.AppendZerosOnto
import Derived.Deep.RegionLaw
import Derived.Test.YthbljikbnoghcaaGreatM10
set_option maxHeartbeats 8000000
set_option maxRecDepth 100000
set_option linter.unusedVariables false
set_option linter.unusedSimpArgs false
open Go.Value (int)
open Go.IntKind (i64)
namespace Go.Proofs.YthbljikbnoghcaaGreat
open Go.RowKit Go.Lib Go.Sort
theorem Below.viaQ {a W w2:World}(h:Below a.heap.size a W)(b:Below W.heap.size W w2):Below a.heap.size a w2:=h.trans (b.mono h.size)
theorem growTk_c(n:Nat)(hn:n≤1000000)(w:World) :
  Calls Tryz.prog 126 #[.slice none 0 0,int i64 (n:Int)] w fun e w' =>∃A c,e= .returned (.slice A 0 c)∧Aj 4 103 Ah w' w.heap.size (.slice A 0 c) [] []∧Below w.heap.size w w':=by
 by_cases h0:n=0
 ·subst h0;go_enter Tryz.func126,Tryz.ntmps126
  go_wp2_with fail
  go_ret
  exact⟨none,0,rfl,Aj.start ⟨rfl,.inl ⟨rfl,rfl⟩⟩,Below.refl _ _⟩
 ·have hpos:0<n:=by omega
  have hposi:(0:Int)<(n:Int):=by omega
  obtain⟨ti,hi0,hz0,hz1,hz2⟩:=info_parts Tryz.infoTk;have hrz:∀ty,(Builtin.append_ #[33,3] ty #[.slice none 0 0,int i64 (n:Int)]).run Tryz.prog w=_:=fun ty =>
   Lib.run_append_grow_zeros w 33 3 ty 103 ti _ .i64 .i64 Tryz.underlying33 Tryz.underlying3 hi0 hz0 none 0 0 [] (run_firstCells_none _ _ _ _ _) n hpos (by omega) (by omega) (by omega) (by rw[hz2];omega) (growslice_fits (by omega) (by rw[hz2];omega))
  simp only[Nat.zero_add]at hrz;have hG:=grownCap_ge w n 0 103;have hG2:=grownCap_le_maxLen w n 0 103 (by unfold maxLen;omega);obtain⟨G,hGe⟩:∃G,grownCap w n 0 103=G:=⟨_,rfl⟩;rw[hGe]at hrz hG hG2;have hG63:(G:Int)≤9223372036854775807:=by unfold maxLen at hG2;omega
  obtain⟨cur,hcur⟩:∃cur,((([]:List Value)).toArray ++ Builtin.zeroCells (Value.agg #[int i64 0,int i64 0,.string ⟨#[]⟩,int i64 0]).cells n ++ Builtin.zeroCells (Value.agg #[int i64 0,int i64 0,.string ⟨#[]⟩,int i64 0]).cells (G - n))=cur:=⟨_,rfl⟩;rw[hcur]at hrz;have hcs:cur.size=G * 4:=by
   rw[← hcur];simp[Builtin.zeroCells];show n * 4+(G - n) * 4=G * 4
   omega
  have HCS:=hid hcs;clear hcur hcs hGe hi0 hz0 hz1 hz2;go_enter Tryz.func126,Tryz.ntmps126
  go_wp2_with (at_builtin;refine Lib.wpList_append_run _ rfl _ _ _ _ rfl _ _ rfl rfl _ _ (hrz _) ?_)
  all_goals
   go_ret
   have hb:Below w.heap.size w (w.drew.alloc (.cells cur 103)):=Aa (Ai (Below.refl _ _)) _;exact⟨some ⟨w.heap.size,0,none⟩,G,rfl,Aj.start ⟨rfl,.inr ⟨w.heap.size,G,cur,rfl,Nat.le_refl _,Blk.new w.drew _ _,Nat.zero_le _,hG2,HCS.out,by simp⟩⟩,hb⟩
theorem Kv(A0:Option Addr)(c0 nQ:Nat)(qs:List (List An))(f0:List Addr)(w:World)(h:rSl 1 (Am 4 Ah) w f0 (.slice A0 nQ c0) qs)(hsm:qs.flatten.length≤1000000) :
  Calls Tryz.prog 68 #[.slice A0 nQ c0] w fun e w' =>∃A c,e= .returned (.slice A qs.flatten.length c)∧Aj 4 103 Ah w' w.heap.size (.slice A qs.flatten.length c) qs.flatten []∧Below w.heap.size w w':=by
 have HH:=hid h;have HT0:=hid (show∀a,a∈f0→a.block<w.heap.size from rSl.there (Am.fixed Ah.fixed) h);obtain⟨Ax,cx,ev,hc,hm,hx⟩:=rSl.at_ (Am.fixed Ah.fixed) (by decide) h;injection ev with ev1 ev2 ev3
 subst ev1 ev3;have HNQ:=hid ev2.symm;rw[← ev2]at hc;clear ev2;obtain⟨N,hN⟩:∃N,qs.flatten.length=N:=⟨_,rfl⟩;rw[hN]at hsm⊢;have HN:=hid hN;obtain⟨g0,hg0⟩:∃g0,w.heap.size=g0:=⟨_,rfl⟩;have HG:=hid hg0;have HSPL:=hid (show∀i,i<qs.length→(qs.take (i+1)).flatten.length≤N from fun i hi => by
  have h1:(qs.take (i+1)).flatten.length +(qs.drop (i+1)).flatten.length =qs.flatten.length:=by rw[← List.length_append,← List.flatten_append,List.take_append_drop]
  omega)
 have HX:=hid hx;clear h hx hN hg0;go_enter Tryz.func68,Tryz.ntmps68
 go_wp2_with fail
 go_loopw [11,3,5] (fun ix sv tv wr =>∃(i n:Nat),i≤nQ∧n≤N∧ix= int i64 i∧sv= int i64 (n:Int)∧Hid (n=(qs.take i).flatten.length)∧Hid (Below w.heap.size w wr)) (fun ix _ _ _ => nQ - (intOf ix).toNat)
 case atStart => exact⟨0,0,by omega,by omega,rfl,rfl,rfl,Below.refl _ _⟩
 case round =>
  obtain⟨i,n,hi,hnN,rfl,rfl,HS,HB⟩:=hrel;by_cases hlt:i<nQ
  ·have hk:i<qs.length:=by rw[HNQ.out];exact hlt
   obtain⟨ad,b,oo,cs,fk,rfl,hat0⟩:=HX.out i hk;have hat:=hat0.below (Am.local_ Ah.local_) HB.out;have hpl:=hat.place;have hbl:=hat.lt;obtain⟨ve,hve,hrd⟩:=hat.reads;subst hve;obtain⟨Ae,ce,rfl,hmc,hmm⟩:=rSl.head hrd;have hpc:=hat.cell 0 (by simp);simp only[Nat.add_zero,List.getElem_cons_zero]at hpc;rw[Nat.mul_one]at hpl;have hki:(i:Int)<(nQ:Int):=by omega
   have hst:(qs.take (i+1)).flatten.length =(qs.take i).flatten.length +qs[i].length:=by rw[List.take_succ_eq_append_getElem hk,List.flatten_append];simp
   have hle:=HSPL.out i hk;rw[hst,← HS.out]at hle;rw[← HS.out]at hst;have HST:=hid hst;obtain⟨q,hq⟩:∃q,qs[i].length =q:=⟨_,rfl⟩;rw[hq]at hpc HST hle;have hnn:¬((n:Int)+(q:Int)<0):=by omega
   clear hat hat0 hrd hk hq hst hmc hmm;go_wp2_with fail
   go_roundw
   case rel => exact⟨i+1,n+q,by omega,hle,by go_num,by simp,HST.out.symm,HB.out⟩
   case measure => simp[intOf];omega
  ·obtain rfl:nQ=i:=by omega
   have hnN2:n=N:=by rw[HS.out,List.take_of_length_le (by rw[HNQ.out];exact Nat.le_refl _),HN.out]
   obtain rfl:=hnN2;have HGR:=hid (fun(W:World) => growTk_c n hsm W);go_wp2_with fail
   refine(HGR.out _).mono ?_;rintro e w2 ⟨A2,c2,rfl,o2,b2⟩;have O2:=hid (show Aj 4 103 Ah w2 g0 (.slice A2 0 c2) [] []from o2.mono (by rw[← HG.out];exact HB.out.size));have B2:=hid (show Below g0 w w2 by rw[← HG.out];exact HB.out.trans (b2.mono HB.out.size));clear o2 b2 HGR HS;go_wp2_with fail
   go_loopw [27,6,8] (fun ix ov tv wr =>∃(i n' c':Nat) (A':Option Addr),i≤nQ∧ix= int i64 i∧ov= .slice A' n' c'∧Hid (n'=(qs.take i).flatten.length)∧Hid (Aj 4 103 Ah wr g0 (.slice A' n' c') (qs.take i).flatten [])∧Hid (Below g0 w wr)∧Hid (g0≤wr.heap.size)) (fun ix _ _ _ => nQ - (intOf ix).toNat)
   case atStart => exact⟨0,0,c2,A2,by omega,rfl,rfl,rfl,O2.out,B2.out,(show g0≤_ from by rw[← HG.out];have:=B2.out.size;omega)⟩
   case round =>
    clear O2 B2;obtain⟨i,n',c',A',hi,rfl,rfl,HN2,HO,HB2,HSZ⟩:=hrel;have HBW:=hid (show Below w.heap.size w wr by rw[HG.out];exact HB2.out);by_cases hlt:i<nQ
    ·have hk:i<qs.length:=by rw[HNQ.out];exact hlt
     obtain⟨ad,b,oo,cs,fk,rfl,hat0⟩:=HX.out i hk;have hat:=hat0.below (Am.local_ Ah.local_) HBW.out;have hpl:=hat.place;have hbl:=hat.lt;obtain⟨ve,hve,hrd⟩:=hat.reads;subst hve;obtain⟨Ae,ce,rfl,hmc,hmm⟩:=rSl.head hrd;have hpc:=hat.cell 0 (by simp);simp only[Nat.add_zero,List.getElem_cons_zero]at hpc;rw[Nat.mul_one]at hpl;have hki:(i:Int)<(nQ:Int):=by omega
     have HST:=hid (show(qs.take (i+1)).flatten =(qs.take i).flatten ++ qs[i] by rw[List.take_succ_eq_append_getElem hk,List.flatten_append];simp);have hle:=HSPL.out i hk;rw[HST.out,List.length_append]at hle;have hf:∀a,a∈fk→a.block<g0:=fun a ha => by rw[← HG.out];exact HT0.out a (hat.sub a ha)
     have HAP:=hid (addTks HO.out HSZ.out hrd hf (by omega));obtain⟨q,hq⟩:∃q,qs[i] =q:=⟨_,rfl⟩;rw[hq]at HAP HST hpc hmc;rw[← HN2.out]at HAP;have HLN:=hid (show n'+q.length=(qs.take (i+1)).flatten.length by rw[HST.out,List.length_append,HN2.out]);clear hat hat0 hrd hf hle hk hq HO hmc hmm;go_wp2_with (at_builtin;refine AB rfl (.tmp 31) (.tmp 32) 33 rfl _ _ (by rfl) (by rfl) HAP.out ?_;rintro v9 w9 ⟨A9,c9,rfl,o9,b9,s9⟩;have O9:=hid o9;have B9:=hid b9;have S9:=hid s9;clear o9 b9 s9)
     go_roundw
     case rel => exact⟨i+1,n'+q.length,c9,A9,by omega,by go_num,rfl,HLN.out,(show Aj _ _ _ _ _ _ _ _ from by rw[HST.out];exact O9.out),HB2.out.trans B9.out,S9.out⟩
     case measure => simp[intOf];omega
    ·obtain rfl:nQ=i:=by omega
     have e1:(qs.take nQ).flatten =qs.flatten:=by rw[List.take_of_length_le (by rw[HNQ.out];exact Nat.le_refl _)]
     rw[e1]at HO HN2;have e2:n'=n:=by rw[HN2.out,HN.out]
     obtain rfl:=e2;clear e1;go_wp2_with fail
     go_ret
     exact⟨A',c',rfl,by rw[HG.out];exact HO.out,HBW.out⟩
theorem ES(p o:Nat)(d:AH)(A0 A1 A2:Option Addr)(c0 c1 c2:Nat)(f0 f1 f2:List Addr)(w:World)(h:Do w p o d A0 A1 A2 c0 c1 c2 f0 f1 f2)(hsm:(AN d).length≤1000000) :
  Calls Tryz.prog 28 #[.pointer (some ⟨p,o,none⟩)] w fun e w' =>∃A c gs,e= .returned (.slice A (AN d).length c)∧rSl 4 Ah w' gs (.slice A (AN d).length c) (AN d)∧(∀a,a∈gs→w.heap.size≤a.block)∧Below w.heap.size w w':=by
 have HH:=hid h;have hlen:(AN d).length =d.queues.flatten.length+d.aside.length:=by unfold AN;rw[List.length_append]
 have HT1:=hid (show∀a,a∈f1→a.block<w.heap.size from rSl.there Ah.fixed h.r1);have HCC:=hid (fun(W:World) (hW:Below w.heap.size w W) => Kv A0 c0 d.queues.length d.queues f0 W (h.below hW).r0 (by omega));have HAP:=hid (show∀(W w2 w3:World) (v:Value),Below w.heap.size w W→Aj 4 103 Ah w2 W.heap.size v d.queues.flatten []→Below W.heap.size W w2→Below w2.heap.size w2 w3→
   ∃v' w',(Builtin.append_ #[33,33] 33 #[v,.slice A1 d.aside.length c1]).run Tryz.prog w3= .ok v' w'∧∃A c gs,v'= .slice A (AN d).length c∧rSl 4 Ah w' gs (.slice A (AN d).length c) (AN d)∧(∀a,a∈gs→w.heap.size≤a.block)∧Below w.heap.size w w' from fun W w2 w3 v hW ho h2 h3 => by
  have hB3:=hW.trans ((h2.trans (h3.mono h2.size)).mono hW.size);obtain⟨v',w',q1,A,c,rfl,o9,b9,-⟩:=addTks (ds2:=d.aside) (ho.below Ah.local_ Ah.fixed h3) (Nat.le_trans h2.size h3.size) (h.below hB3).r1 (fun a ha => Nat.lt_of_lt_of_le (HT1.out a ha) hW.size) (by omega);obtain⟨gs,r9,-,-,-,g9,-⟩:=o9.reads;rw[← hlen]at r9 q1;exact⟨_,w',q1,A,c,_,rfl,r9,(fun a ha => Nat.le_trans hW.size (g9 a (by simpa using ha))),hB3.trans (b9.mono hW.size)⟩)
 have HLEN:=hid hlen;obtain⟨nQ,hnQ⟩:∃nQ,d.queues.length=nQ:=⟨_,rfl⟩;obtain⟨nS,hnS⟩:∃nS,d.aside.length=nS:=⟨_,rfl⟩;obtain⟨nF,hnF⟩:∃nF,d.queues.flatten.length=nF:=⟨_,rfl⟩;rw[hnQ,hnF]at HCC;rw[hnS]at HAP;rw[hnF,hnS]at HLEN;obtain⟨N,hN⟩:∃N,(AN d).length =N:=⟨_,rfl⟩;rw[hN]at HAP⊢;have HKS:=hid (fun(W:World) (hW:Below w.heap.size w W) => show W.cell? ⟨p,o,none⟩=some (.slice A0 nQ c0)∧W.cell? ⟨p,o+1,none⟩=some (.slice A1 nS c1)∧p<W.heap.size from by
  have H:=h.below hW;have h0:=H.k0;have h1:=H.k1;rw[hnQ]at h0;rw[hnS]at h1;exact⟨h0,h1,H.lt⟩)
 obtain⟨k0,k1,lp⟩:=HKS.out w (Below.refl _ _);clear h hlen hnQ hnS hnF hsm hN HLEN;go_enter Tryz.func28,Tryz.ntmps28
 go_wp2_with fail
 go_region_law (first
  |(refine AR rfl (.tmp 7) (.tmp 11) 33 rfl _ _ (by rfl) (by rfl) (HAP.out _ w2 _ _ (by repeat(with_reducible first|assumption|exact Below.refl _ _|apply Aa|apply Ai)) o2 b2 (by repeat(with_reducible first|assumption|exact Below.refl _ _|apply Aa|apply Ai))) ?_;rintro v9 w9 ⟨A9,c9,g9,rfl,r9,m9,b9⟩)
  |(go_simp;go_at_call 68;refine(HCC.out _ (by repeat(with_reducible first|assumption|exact Below.refl _ _|apply Aa|apply Ai))).mono ?_;rintro e w2 ⟨A2',c2',rfl,o2,b2⟩;dsimp only;have B2:=Below.viaQ (a:=w) (by repeat(with_reducible first|assumption|exact Below.refl _ _|apply Aa|apply Ai)) b2;obtain⟨k02,k12,lp2⟩:=HKS.out w2 B2))
 all_goals
  have R9:=hid r9;have B9:=hid b9;have M9:=hid m9;clear r9 b9 m9;go_wp2_with fail
  go_ret
  exact⟨A9,c9,g9,rfl,R9.out,M9.out,B9.out⟩
theorem Aj.nums {E:TypeId} {w:World} {base:Nat} {v:Value} {ds:List Int} {fs:List Addr}(h:Aj 1 E As w base v ds fs):fs= []:=by
 obtain⟨css,fss,h1,h2,rfl,h4,h5,h6⟩:=h;refine List.flatten_eq_nil_iff.2 fun l hl => ?_
 obtain⟨i,hi,rfl⟩:=List.getElem_of_mem hl;obtain⟨_,_,_,p4⟩:=h5 i (by omega);exact p4.1
theorem Tryz.infoNum:(Tryz.prog.info? 2).map (fun i =>(i.zero,i.size,i.bytes))=some (some (int i64 0),1,8):=by kernel_rfl
theorem Ez {W:World} {base b:Nat} {v:Value} {ds:List Int} {x:Int}(ho:Aj 1 2 As W base v ds [])(hx:okI x)(hn:ds.length+1≤1000000000)(hbase:base≤W.heap.size)(hblk:Blk W b 2 #[int i64 x]) :
  ∃v' w',(Builtin.append_ #[28,28] 28 #[v,.slice (some ⟨b,0,none⟩) 1 1]).run Tryz.prog W= .ok v' w'∧∃A c,v'= .slice A (ds.length+1) c∧Aj 1 2 As w' base v' (ds ++ [x]) []∧Below base W w'∧W.heap.size≤w'.heap.size∧(∀k,k<W.heap.size→v.ownBlock≠some k→w'.heap[k]? =W.heap[k]?)∧(∀k,v'.ownBlock=some k→v.ownBlock=some k∨W.heap.size≤k):=by
 obtain⟨v',w',q1,h,q2,q3,q4,q5⟩:=Aj.appendOne (P:=Tryz.prog) 28 28 (int i64 0) 8 Tryz.underlying28 Tryz.infoNum rfl (by decide) As.local_ As.fixed Jk base v ds [] ho b [int i64 x] [] x rfl hblk ⟨rfl,rfl,hx⟩ (fun a ha => by cases ha) hn (by omega) hbase;have h6:=q2.nums;rw[h6]at q2;obtain⟨A,c,e,-⟩:=q2.length;refine⟨v',w',q1,A,c,by rw[e];simp,q2,Below.grown (Below.refl _ _) q4 hbase (fun k hk =>(ho.lt k hk).1),q4.size,fun k hk hne => q4.block k hk (fun e => hne e.symm),fun k hk => ?_⟩;rcases q5 with q|q
 ·exact .inl (q.symm.trans hk)
 ·rw[q]at hk;injection hk with hk
  exact .inr (hk ▸ Nat.le_refl _)
structure D0 (W:World) (B pi:Nat) (ids:List Int) (A:Option Addr) (n c:Nat):Prop where
 cell:W.cell? ⟨pi,0,none⟩=some (.slice A n c)
 free:W.frozen? ⟨pi,0,none⟩=false
 lt:pi<W.heap.size
 ge:B≤pi
 own:Aj 1 2 As W B (.slice A n c) ids []
 apart:(Value.slice A n c).ownBlock≠some pi
theorem D0.below {W W':World} {B pi:Nat} {ids:List Int} {A:Option Addr} {n c:Nat}(h:D0 W B pi ids A n c)(hb:Below W.heap.size W W'):D0 W' B pi ids A n c :=
 ⟨(hb.cell (p:=⟨pi,0,none⟩) h.lt).trans h.cell,(hb.frozen (p:=⟨pi,0,none⟩) h.lt).trans h.free,Nat.lt_of_lt_of_le h.lt hb.size,h.ge,h.own.below As.local_ As.fixed hb,h.apart⟩
theorem D0.len {W:World} {B pi:Nat} {ids:List Int} {A:Option Addr} {n c:Nat}(h:D0 W B pi ids A n c):n=ids.length∧n≤c∧c≤9223372036854775807:=by
 obtain⟨A',c',e,h1,h2⟩:=h.own.length;injection e with _ e2 e3
 exact⟨e2,by omega,by omega⟩
theorem J9 {w:World} {B pi:Nat} {ids:List Int} {A:Option Addr} {n c:Nat} {x:Int}(h:D0 w B pi ids A n c)(hx:okI x)(hn:ids.length+1≤1000000000) :
  ∃v' w',(Builtin.append_ #[28,28] 28 #[.slice A n c,.slice (some ⟨w.heap.size,0,none⟩) 1 1]).run Tryz.prog (w.alloc (.cells #[int i64 x] 2))= .ok v' w'∧∃A' n' c',v'= .slice A' n' c'∧Below B w w'∧w.heap.size≤w'.heap.size∧w'.cell? ⟨pi,0,none⟩=some (.slice A n c)∧w'.frozen? ⟨pi,0,none⟩=false∧pi<w'.heap.size∧D0 (w'.setCell ⟨pi,0,none⟩ (.slice A' n' c')) B pi (ids ++ [x]) A' n' c':=by
 have hb:Below w.heap.size w (w.alloc (.cells #[int i64 x] 2)):=Aa (Below.refl _ _) _;have h2:=h.below hb;have hB:B≤w.heap.size:=Nat.le_trans h.ge (Nat.le_of_lt h.lt);obtain⟨v',w',q1,A',c',rfl,o9,b9,s9,k9,j9⟩:=Ez h2.own hx hn (Nat.le_trans h2.ge (Nat.le_of_lt h2.lt)) (Blk.new w _ _);have hp:=k9 pi h2.lt h2.apart;have hc:=(World.cell?_of_block (a:=⟨pi,0,none⟩) hp).trans h2.cell;have hf:=(World.frozen?_of_block (a:=⟨pi,0,none⟩) hp).trans h2.free;have hl:pi<w'.heap.size:=Nat.lt_of_lt_of_le h2.lt s9;have hne:(Value.slice A' (ids.length+1) c').ownBlock≠some pi:=fun e => by
  rcases j9 pi e with q|q
  ·exact h2.apart q
  ·have:=h2.lt;omega
 refine⟨_,w',q1,A',_,c',rfl,(hb.mono hB).trans b9,Nat.le_trans hb.size s9,hc,hf,hl,⟨?_,?_,?_,h.ge,?_,hne⟩⟩
 ·exact World.cell?_setCell_same _ _ _ hc
 ·rw[World.frozen?_setCell];exact hf
 ·simpa [World.setCell]using hl
 ·exact o9.keep As.local_ (fun b hb2 => Below.heap_setCell _ _ _ _ (fun e => hne (by rw[hb2];exact congrArg some e))) (fun a ha => by cases ha)
theorem look_c(s:Sh)(hsb:shB s=true)(t:An)(hidn:okI t.id)(hnm:t.name.size≤9223372036854775807)(q next:Int)(ps pd pi B:Nat)(ids:List Int)(A:Option Addr)(n c:Nat)(w:World)
  (hS:Ck w ps s) (hD:w.cell? ⟨pd,4,none⟩=some (int i64 next)) (hN:D0 w B pi ids A n c) (hsm:ids.length≤1000000) :
  Calls Tryz.prog 125 #[tkV t,int i64 q,.pointer (some ⟨ps,0,none⟩),.pointer (some ⟨pd,0,none⟩),.pointer (some ⟨pi,0,none⟩)] w fun e w' => e= .returned (int i64 (CR s next ids (t,q)))∧Below B w w'∧w.heap.size≤w'.heap.size∧(CR s next ids (t,q)=0→∃A' n' c',D0 w' B pi (ids ++ [t.id]) A' n' c'):=by
 have hlen:=hN.len;have hBw:B≤w.heap.size:=Nat.le_trans hN.ge (Nat.le_of_lt hN.lt);have hB:Below w.heap.size w (w.alloc (.cells #[int i64 t.id,int i64 t.kind,.string t.name,int i64 t.group] 103)):=(Below.refl _ _).alloc (Nat.le_refl _) _;have HB:=hid hB;have HBW:=hid hBw;have T1:=hid (Gr.of (Blk.new w 103 #[int i64 t.id,int i64 t.kind,.string t.name,int i64 t.group]));have S1:=hid (hS.below hB);have hpd:pd<w.heap.size:=World.block_lt_of_cell? _ _ hD;have D1:=hid ((hB.cell (p:=⟨pd,4,none⟩) hpd).trans hD);have HPD:=hid hpd;have N1:=hid (hN.below hB);have HRS:=hid S1.out.rng;have HRT:=hid T1.out.rng;have HTF:=hid (fun(W:World) => Es s hsb t hnm W);have HCT:=hid (fun(W:World) (hW:D0 W B pi ids A n c) => show Calls Tryz.prog 96 #[.slice A n c,int i64 t.id] W fun e w' => e= .returned (.bool (decide (t.id∈ids)))∧Below W.heap.size W w' from by
  obtain⟨gs,hr,-⟩:=hW.own.reads;exact CI _ ids t.id _ W hr)
 have HID:=hid hidn;have HSM:=hid hsm;have z1:=S1.out.lt;have z2:=T1.out.lt;have z3:pd<(w.alloc (.cells #[int i64 t.id,int i64 t.kind,.string t.name,int i64 t.group] 103)).heap.size:=Nat.lt_of_lt_of_le hpd hB.size;obtain⟨hn1,hn2,hn3⟩:=hlen;have HNL:=hid hn1;obtain⟨r,hr⟩:∃r,CR s next ids (t,q)=r:=⟨_,rfl⟩;rw[hr];unfold CR at hr;dsimp only at hr;have HR:=hid hr;unfold tkV shV at HTF;unfold tkV;clear hB hS hD hN hsb hnm hidn hsm hr hpd hBw hn1;obtain⟨tc,htc⟩:∃tc,ER s t=tc:=⟨_,rfl⟩;rw[htc]at HTF HR;clear htc;by_cases q0:tc=0
 case neg =>
  have e1:r=tc:=by rw[← HR.out,if_neg q0]
  have HNE:=hid q0;have hb:=Eo q0;subst e1;clear q0;go_enter Tryz.func125,Tryz.ntmps125
  go_wp2_with (first
   |(refine wpList_load_mid rfl 25 _ rfl ps 0 rfl _ _ HRS.out Tryz.underlying25 rfl (by kernel_rfl) ?_)
   |(refine wpList_load_mid rfl 103 _ rfl w.heap.size 0 rfl _ _ HRT.out Tryz.underlying103 rfl (by kernel_rfl) ?_)
   |(go_at_call 74;refine(HTF.out _).mono ?_;rintro e w3 ⟨rfl,b3⟩;have T3:=hid (T1.out.below b3);have B3:=hid (HB.out.trans (b3.mono HB.out.size));have N3:=hid (N1.out.below b3);have x0:=T3.out.c0;have x3:=T3.out.c3;have d4:=(b3.cell (p:=⟨pd,4,none⟩) z3).trans D1.out;have y2:=T3.out.lt;have y3:=Nat.lt_of_lt_of_le z3 b3.size;have n0:=N3.out.cell;have y4:=N3.out.lt;clear b3))
  go_ret
  exact⟨rfl,B3.out.mono HBW.out,B3.out.size,fun h => absurd h HNE.out⟩
 subst q0;rw[if_pos rfl]at HR;by_cases q1:next≤t.id
 ·have e1:r=3:=by rw[← HR.out,if_pos q1]
  subst e1;go_enter Tryz.func125,Tryz.ntmps125
  go_wp2_with (first
   |(refine wpList_load_mid rfl 25 _ rfl ps 0 rfl _ _ HRS.out Tryz.underlying25 rfl (by kernel_rfl) ?_)
   |(refine wpList_load_mid rfl 103 _ rfl w.heap.size 0 rfl _ _ HRT.out Tryz.underlying103 rfl (by kernel_rfl) ?_)
   |(go_at_call 74;refine(HTF.out _).mono ?_;rintro e w3 ⟨rfl,b3⟩;have T3:=hid (T1.out.below b3);have B3:=hid (HB.out.trans (b3.mono HB.out.size));have N3:=hid (N1.out.below b3);have x0:=T3.out.c0;have x3:=T3.out.c3;have d4:=(b3.cell (p:=⟨pd,4,none⟩) z3).trans D1.out;have y2:=T3.out.lt;have y3:=Nat.lt_of_lt_of_le z3 b3.size;have n0:=N3.out.cell;have y4:=N3.out.lt;clear b3))
  go_ret
  exact⟨rfl,B3.out.mono HBW.out,B3.out.size,fun h => absurd h (by decide)⟩
 rw[if_neg q1]at HR;have q1i:t.id<next:=by omega
 clear q1;by_cases q2:0≤q∧t.group≠q
 ·have e1:r=1:=by rw[← HR.out,if_pos q2]
  subst e1;have q2a:=q2.1;have q2b:=Eo q2.2;clear q2;go_enter Tryz.func125,Tryz.ntmps125
  go_wp2_with (first
   |(refine wpList_load_mid rfl 25 _ rfl ps 0 rfl _ _ HRS.out Tryz.underlying25 rfl (by kernel_rfl) ?_)
   |(refine wpList_load_mid rfl 103 _ rfl w.heap.size 0 rfl _ _ HRT.out Tryz.underlying103 rfl (by kernel_rfl) ?_)
   |(go_at_call 74;refine(HTF.out _).mono ?_;rintro e w3 ⟨rfl,b3⟩;have T3:=hid (T1.out.below b3);have B3:=hid (HB.out.trans (b3.mono HB.out.size));have N3:=hid (N1.out.below b3);have x0:=T3.out.c0;have x3:=T3.out.c3;have d4:=(b3.cell (p:=⟨pd,4,none⟩) z3).trans D1.out;have y2:=T3.out.lt;have y3:=Nat.lt_of_lt_of_le z3 b3.size;have n0:=N3.out.cell;have y4:=N3.out.lt;clear b3))
  go_ret
  exact⟨rfl,B3.out.mono HBW.out,B3.out.size,fun h => absurd h (by decide)⟩
 rw[if_neg q2]at HR;by_cases q3:0≤q
 ·have q4:t.group=q:=by
   by_cases h:t.group=q
   ·exact h
   ·exact absurd ⟨q3,h⟩ q2
  have q4b:=Jd q4;clear q2 q4;obtain⟨mb,hmb⟩:∃mb,decide (t.id∈ids)=mb:=⟨_,rfl⟩;rw[hmb]at HCT;cases mb with
  |true =>
   have e1:r=7:=by rw[← HR.out,if_pos (of_decide_eq_true hmb)]
   subst e1;clear hmb;go_enter Tryz.func125,Tryz.ntmps125
   go_wp2_with (first
    |(refine wpList_load_mid rfl 25 _ rfl ps 0 rfl _ _ HRS.out Tryz.underlying25 rfl (by kernel_rfl) ?_)
    |(refine wpList_load_mid rfl 103 _ rfl w.heap.size 0 rfl _ _ HRT.out Tryz.underlying103 rfl (by kernel_rfl) ?_)
    |(go_at_call 74;refine(HTF.out _).mono ?_;rintro e w3 ⟨rfl,b3⟩;have T3:=hid (T1.out.below b3);have B3:=hid (HB.out.trans (b3.mono HB.out.size));have N3:=hid (N1.out.below b3);have x0:=T3.out.c0;have x3:=T3.out.c3;have d4:=(b3.cell (p:=⟨pd,4,none⟩) z3).trans D1.out;have y2:=T3.out.lt;have y3:=Nat.lt_of_lt_of_le z3 b3.size;have n0:=N3.out.cell;have y4:=N3.out.lt;clear b3)
    |(go_at_call 96;refine(HCT.out _ N3.out).mono ?_;rintro e w4 ⟨rfl,b4⟩;have B4:=hid (B3.out.trans (b4.mono B3.out.size));have N4:=hid (N3.out.below b4);have T4:=hid (T3.out.below b4);have u0:=T4.out.c0;have m0:=N4.out.cell;have m1:=N4.out.free;have y5:=N4.out.lt;have y6:=T4.out.lt;clear b4))
   go_ret
   exact⟨rfl,B4.out.mono HBW.out,B4.out.size,fun h => absurd h (by decide)⟩
  |false =>
   have e1:r=0:=by rw[← HR.out,if_neg (of_decide_eq_false hmb)]
   subst e1;clear hmb;go_enter Tryz.func125,Tryz.ntmps125
   go_wp2_with (first
    |(refine wpList_load_mid rfl 25 _ rfl ps 0 rfl _ _ HRS.out Tryz.underlying25 rfl (by kernel_rfl) ?_)
    |(refine wpList_load_mid rfl 103 _ rfl w.heap.size 0 rfl _ _ HRT.out Tryz.underlying103 rfl (by kernel_rfl) ?_)
    |(go_at_call 74;refine(HTF.out _).mono ?_;rintro e w3 ⟨rfl,b3⟩;have T3:=hid (T1.out.below b3);have B3:=hid (HB.out.trans (b3.mono HB.out.size));have N3:=hid (N1.out.below b3);have x0:=T3.out.c0;have x3:=T3.out.c3;have d4:=(b3.cell (p:=⟨pd,4,none⟩) z3).trans D1.out;have y2:=T3.out.lt;have y3:=Nat.lt_of_lt_of_le z3 b3.size;have n0:=N3.out.cell;have y4:=N3.out.lt;clear b3)
    |(go_at_call 96;refine(HCT.out _ N3.out).mono ?_;rintro e w4 ⟨rfl,b4⟩;have B4:=hid (B3.out.trans (b4.mono B3.out.size));have N4:=hid (N3.out.below b4);have T4:=hid (T3.out.below b4);have HAP:=hid (J9 N4.out HID.out (by have:=HSM.out;omega));have u0:=T4.out.c0;have m0:=N4.out.cell;have m1:=N4.out.free;have y5:=N4.out.lt;have y6:=T4.out.lt;clear b4)
    |(at_builtin;refine AB rfl (.tmp 36) (.tmp 39) 28 rfl _ _ (by rfl) (by rfl) HAP.out ?_;rintro v9 w9 ⟨A9,n9,c9,rfl,b9,s9,p9,fz9,l9,o9⟩;have O9:=hid o9;have B9:=hid b9;have S9:=hid s9;clear o9 b9 s9))
   go_ret
   exact⟨rfl,((B4.out.mono HBW.out).trans B9.out).setCell (show B≤pi from N4.out.ge) _,by simpa [World.setCell]using Nat.le_trans B4.out.size S9.out,fun _ =>⟨A9,n9,c9,O9.out⟩⟩
 ·have q3n:q<0:=by omega
  clear q2 q3;obtain⟨mb,hmb⟩:∃mb,decide (t.id∈ids)=mb:=⟨_,rfl⟩;rw[hmb]at HCT;cases mb with
  |true =>
   have e1:r=7:=by rw[← HR.out,if_pos (of_decide_eq_true hmb)]
   subst e1;clear hmb;go_enter Tryz.func125,Tryz.ntmps125
   go_wp2_with (first
    |(refine wpList_load_mid rfl 25 _ rfl ps 0 rfl _ _ HRS.out Tryz.underlying25 rfl (by kernel_rfl) ?_)
    |(refine wpList_load_mid rfl 103 _ rfl w.heap.size 0 rfl _ _ HRT.out Tryz.underlying103 rfl (by kernel_rfl) ?_)
    |(go_at_call 74;refine(HTF.out _).mono ?_;rintro e w3 ⟨rfl,b3⟩;have T3:=hid (T1.out.below b3);have B3:=hid (HB.out.trans (b3.mono HB.out.size));have N3:=hid (N1.out.below b3);have x0:=T3.out.c0;have x3:=T3.out.c3;have d4:=(b3.cell (p:=⟨pd,4,none⟩) z3).trans D1.out;have y2:=T3.out.lt;have y3:=Nat.lt_of_lt_of_le z3 b3.size;have n0:=N3.out.cell;have y4:=N3.out.lt;clear b3)
    |(go_at_call 96;refine(HCT.out _ N3.out).mono ?_;rintro e w4 ⟨rfl,b4⟩;have B4:=hid (B3.out.trans (b4.mono B3.out.size));have N4:=hid (N3.out.below b4);have T4:=hid (T3.out.below b4);have u0:=T4.out.c0;have m0:=N4.out.cell;have m1:=N4.out.free;have y5:=N4.out.lt;have y6:=T4.out.lt;clear b4))
   go_ret
   exact⟨rfl,B4.out.mono HBW.out,B4.out.size,fun h => absurd h (by decide)⟩
  |false =>
   have e1:r=0:=by rw[← HR.out,if_neg (of_decide_eq_false hmb)]
   subst e1;clear hmb;go_enter Tryz.func125,Tryz.ntmps125
   go_wp2_with (first
    |(refine wpList_load_mid rfl 25 _ rfl ps 0 rfl _ _ HRS.out Tryz.underlying25 rfl (by kernel_rfl) ?_)
    |(refine wpList_load_mid rfl 103 _ rfl w.heap.size 0 rfl _ _ HRT.out Tryz.underlying103 rfl (by kernel_rfl) ?_)
    |(go_at_call 74;refine(HTF.out _).mono ?_;rintro e w3 ⟨rfl,b3⟩;have T3:=hid (T1.out.below b3);have B3:=hid (HB.out.trans (b3.mono HB.out.size));have N3:=hid (N1.out.below b3);have x0:=T3.out.c0;have x3:=T3.out.c3;have d4:=(b3.cell (p:=⟨pd,4,none⟩) z3).trans D1.out;have y2:=T3.out.lt;have y3:=Nat.lt_of_lt_of_le z3 b3.size;have n0:=N3.out.cell;have y4:=N3.out.lt;clear b3)
    |(go_at_call 96;refine(HCT.out _ N3.out).mono ?_;rintro e w4 ⟨rfl,b4⟩;have B4:=hid (B3.out.trans (b4.mono B3.out.size));have N4:=hid (N3.out.below b4);have T4:=hid (T3.out.below b4);have HAP:=hid (J9 N4.out HID.out (by have:=HSM.out;omega));have u0:=T4.out.c0;have m0:=N4.out.cell;have m1:=N4.out.free;have y5:=N4.out.lt;have y6:=T4.out.lt;clear b4)
    |(at_builtin;refine AB rfl (.tmp 36) (.tmp 39) 28 rfl _ _ (by rfl) (by rfl) HAP.out ?_;rintro v9 w9 ⟨A9,n9,c9,rfl,b9,s9,p9,fz9,l9,o9⟩;have O9:=hid o9;have B9:=hid b9;have S9:=hid s9;clear o9 b9 s9))
   go_ret
   exact⟨rfl,((B4.out.mono HBW.out).trans B9.out).setCell (show B≤pi from N4.out.ge) _,by simpa [World.setCell]using Nat.le_trans B4.out.size S9.out,fun _ =>⟨A9,n9,c9,O9.out⟩⟩
end Go.Proofs.YthbljikbnoghcaaGreat
