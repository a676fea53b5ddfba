/-
  Part 30 of the proof; the last part states and proves the statement.
-/
import Derived.Test.YtfjkoifpdoemdaaGreatK28
import Derived.Test.YtfjkoifpdoemdaaGreatK29
import Derived.Test.YtfjkoifpdoemdaaGreatK06
set_option maxHeartbeats 8000000
set_option maxRecDepth 100000
set_option linter.unusedVariables false
set_option linter.unusedSimpArgs false
open Go.Value (int)
open Go.IntKind (i64)
namespace Go.Proofs.YtfjkoifpdoemdaaGreat
open Go.RowKit Go.Lib Go.Sort
structure Cw (W:World) (B M:Nat) (ids:List Int) (A:Option Addr) (n c:Nat):Prop where
 own:Ao 1 2 Al W B (.slice A n c) ids []
 at_:∀k,(Value.slice A n c).ownBlock =some k→k=B∨M≤k
 size:M≤W.heap.size
theorem Cw.len {W:World} {B M:Nat} {ids:List Int} {A:Option Addr} {n c:Nat}(h:Cw W B M ids A n c):n=ids.length∧n≤c∧c≤9223372036854775807:=by
 obtain⟨A',c',e,h1,h2⟩:=h.own.length;injection e with _ e2 e3
 exact⟨e2,by omega,by omega⟩
theorem Cw.below {W W':World} {B M:Nat} {ids:List Int} {A:Option Addr} {n c:Nat}(h:Cw W B M ids A n c)(hb:Below W.heap.size W W'):Cw W' B M ids A n c :=
 ⟨h.own.below Al.local_ Al.fixed hb,h.at_,Nat.le_trans h.size hb.size⟩
theorem H6 {w:World} {B M:Nat} {ids:List Int} {A:Option Addr} {n c:Nat} {x:Int}(h:Cw w B M ids A n c)(hBM:B≤M)(hx:okI x)(hn:ids.length+1≤1000000000) :
  ∃v' w',(Builtin.append_ #[25,25] 25 #[.slice A n c,.slice (some ⟨w.heap.size,0,none⟩) 1 1]).run Tryz.prog (w.alloc (.cells #[int i64 x] 2))= .ok v' w'∧∃A' c',v'= .slice A' (n+1) c'∧Cw w' B M (ids ++ [x]) A' (n+1) c'∧Below B w w'∧w.heap.size≤w'.heap.size∧(∀k,k<M→k≠B→w'.heap[k]? =w.heap[k]?):=by
 have hb:Below w.heap.size w (w.alloc (.cells #[int i64 x] 2)):=Ah (Below.refl _ _) _;have h2:=h.below hb;have hB:B≤w.heap.size:=Nat.le_trans hBM h.size;obtain⟨v',w',q1,A',c',rfl,o9,b9,s9,k9,j9⟩:=FR h2.own hx hn (Nat.le_trans hB hb.size) (Blk.new w _ _);obtain⟨e,-,-⟩:=h.len;rw[← e]at o9 q1 j9;refine⟨_,w',q1,A',c',rfl,⟨o9,fun k hk => ?_,Nat.le_trans h.size (Nat.le_trans hb.size s9)⟩,(hb.mono hB).trans b9,Nat.le_trans hb.size s9,fun k hk hne => ?_⟩
 ·rcases j9 k hk with q|q
  ·exact h.at_ k q
  ·exact .inr (Nat.le_trans h.size (Nat.le_trans hb.size q))
 ·have hk2:k<w.heap.size:=Nat.lt_of_lt_of_le hk h.size;refine(k9 k (Nat.lt_of_lt_of_le hk2 hb.size) fun e => ?_).trans (hb.block k hk2);rcases h.at_ k e with q|q
  ·exact hne q
  ·omega
theorem H7(d:AJ)(hsm:(AN d).length≤1000000)(hsa:d.answers.length≤1000000)(cs:List Value)(f:List Addr)(w:World)(h:AO w f cs d) :
  Calls Tryz.prog 208 #[.agg cs.toArray] w fun e w' => e= .returned (int i64 (anH (d.next - 1) d))∧Below w.heap.size w w':=by
 dsimp only[AO]at h;obtain⟨v0,v1,v2,f0,f1,f2,rfl,-,o0,o1,r0,r1,r2⟩:=h;obtain⟨A0,c0,rfl,m0,m0'⟩:=rSl.head r0;obtain⟨A1,c1,rfl,m1,m1'⟩:=rSl.head r1;obtain⟨A2,c2,rfl,m2,m2'⟩:=rSl.head r2;obtain⟨g0,hg0⟩:∃g0,w.heap.size=g0:=⟨_,rfl⟩;obtain⟨u2,hu2⟩:∃u2,((w.alloc (.cells #[.slice A0 d.queues.length c0,.slice A1 d.aside.length c1,.slice A2 d.answers.length c2,int i64 d.turn,int i64 d.next] 60)).alloc (.cells #[] 2))=u2:=⟨_,rfl⟩;have hs2:u2.heap.size=g0+2:=by rw[← hu2,← hg0];simp
 have hb2:Below w.heap.size w u2:=by rw[← hu2];exact Ah (Ah (Below.refl _ _) _) _
 have hK2:Blk u2 g0 60 #[.slice A0 d.queues.length c0,.slice A1 d.aside.length c1,.slice A2 d.answers.length c2,int i64 d.turn,int i64 d.next]:=by rw[← hu2,← hg0];exact(Blk.new w 60 #[.slice A0 d.queues.length c0,.slice A1 d.aside.length c1,.slice A2 d.answers.length c2,int i64 d.turn,int i64 d.next]).alloc _
 have hE2:Blk u2 (g0+1) 2 #[]:=by rw[← hu2,← hg0];exact Blk.new1 w (.cells #[.slice A0 d.queues.length c0,.slice A1 d.aside.length c1,.slice A2 d.answers.length c2,int i64 d.turn,int i64 d.next] 60) 2 #[]
 have hD2:=CG.of (d:=d) hK2 (rSl.below (Ai.local_ Af.local_) (Ai.fixed Af.fixed) r0 hb2) (rSl.below Af.local_ Af.fixed r1 hb2) (rSl.below Am.local_ Am.fixed r2 hb2);have HTK:=hid (Gf g0 0 d A0 A1 A2 c0 c1 c2 f0 f1 f2 u2 hD2 hsm);have HE:=hid hE2;have HK:=hid hK2;have HB:=hid hb2;have HZ:=hid hs2;have HG:=hid hg0;have HSM:=hid hsm;have HSA:=hid hsa;have R2:=hid r2;obtain⟨n,hn⟩:∃n,(AN d).length =n:=⟨_,rfl⟩;rw[hn]at HTK;have HN:=hid hn;obtain⟨nA,hnA⟩:∃nA,d.answers.length=nA:=⟨_,rfl⟩;have HNA:=hid hnA;obtain⟨r,hr⟩:∃r,anH (d.next - 1) d=r:=⟨_,rfl⟩;rw[hr];have HR:=hid hr;have hz0:g0<u2.heap.size:=by omega
 clear hs2 hb2 hK2 hE2 hD2 hsm hsa hn hnA hr r0 r1 r2 m0 m0' m1 m1' m2 o0 o1;go_enter Tryz.func208,Tryz.ntmps208
 go_wp2_with fail
 refine HTK.out.mono ?_;rintro e w1 ⟨A,c,gs,rfl,ra,mg,b1⟩;have RA:=hid ra;have MG:=hid mg;have B1:=hid b1;have HN0:=hid (show Cw w1 (g0+1) w1.heap.size [] (some ⟨g0+1,0,none⟩) 0 0 from⟨Ao.start ⟨rfl,.inr ⟨g0+1,0,#[],rfl,Nat.le_refl _,HE.out.below b1 HE.out.lt,Nat.le_refl _,by unfold maxLen;omega,rfl,rfl⟩⟩,fun k hk => by injection hk with hk;exact .inl hk.symm,Nat.le_refl _⟩);have HKW:=hid (HK.out.below b1 HK.out.lt);have HBW:=hid (show Below w.heap.size w w1 from HB.out.trans (b1.mono HB.out.size));have HZ1:=hid (show g0+2≤w1.heap.size by have:=b1.size;have:=HZ.out;omega);have HGS:=hid (show∀a,a∈gs→a.block<w1.heap.size∧a.block≠g0+1 from fun a ha =>⟨rSl.there Af.fixed ra a ha,by have:=mg a ha;have:=HZ.out;omega⟩);clear ra mg b1 hu2 hg0;go_wp2_with fail
 go_loopw [11,3] (fun ix vv wr =>∃(i c':Nat) (A':Option Addr),i≤n∧ix= int i64 i∧vv= .slice A' i c'∧Hid (Cw wr (g0+1) w1.heap.size (((AN d).take i).map An.id) A' i c')∧Hid (Below (g0+1) w1 wr)∧Hid (rSl 4 Af wr gs (.slice A n c) (AN d))) (fun ix _ _ => n - (intOf ix).toNat)
 case atStart => exact⟨0,0,some ⟨g0+1,0,none⟩,by omega,rfl,rfl,HN0.out,Below.refl _ _,RA.out⟩
 case round =>
  clear HN0;obtain⟨i,c',A',hi,rfl,rfl,HNV,HB2,HRA⟩:=hrel;by_cases hlt:i<n
  ·have hk:i<(AN d).length:=by rw[HN.out];exact hlt
   obtain⟨Ay,cy,ev,hc2,hm2,hx⟩:=rSl.at_ Af.fixed (by decide) HRA.out;injection ev with ev1 ev2 ev3
   subst ev1 ev3;clear ev2;rw[HN.out]at hc2;obtain⟨ad2,b2,o2,cs2,fk2,rfl,hat⟩:=hx i hk;have hpl:=hat.place;have hbl:=hat.lt;obtain⟨hcs,-,oid,-,onm,-⟩:=hat.reads;subst hcs;have HRG:=hid (TkO.of hat).rng;have hki:(i:Int)<(n:Int):=by omega
   have HST:=hid (show((AN d).take (i+1)).map An.id=((AN d).take i).map An.id ++ [(AN d)[i].id]from by rw[List.take_succ_eq_append_getElem hk,List.map_append];rfl);obtain⟨t,ht⟩:∃t,(AN d)[i] =t:=⟨_,rfl⟩;rw[ht]at HRG HST oid;obtain⟨Z,hZ⟩:∃Z:Array Value,#[int i64 0,int i64 0,.string ⟨#[]⟩,int i64 0] =Z:=⟨_,rfl⟩;have hZs:Z.size=4:=by rw[← hZ];rfl
   have KZ:=Blk.new wr 242 Z;have HTH:=hid (Blk.there KZ 4 (by rw[hZs];exact Nat.le_refl _));obtain⟨w3,hW2⟩:∃w3,(wr.alloc (.cells Z 242)).setCells wr.heap.size 0 [int i64 t.id,int i64 t.kind,.string t.name,int i64 t.group] =w3:=⟨_,rfl⟩;have K3:=hid (show Blk w3 wr.heap.size 242 #[int i64 t.id,int i64 t.kind,.string t.name,int i64 t.group] by rw[← hW2];exact Blk.laid KZ [int i64 t.id,int i64 t.kind,.string t.name,int i64 t.group] (by rw[hZs];rfl));have b3:Below wr.heap.size wr w3:=by rw[← hW2];exact Aw (Ah (Below.refl _ _) _) _ 0 (Nat.le_refl _)
   have HW2:=hid hW2;have hz3:=K3.out.lt;have p3:w3.cell? ⟨wr.heap.size,0,none⟩=some (int i64 t.id):=(K3.out.cell 0).trans rfl;have B3:=hid (show Below (g0+1) wr w3 from b3.mono (by have:=HZ1.out;have:=HNV.out.size;omega));have HAP:=hid (H6 (HNV.out.below b3) (by have:=HZ1.out;omega) oid (by rw[List.length_map,List.length_take];have:=HSM.out;omega));have HRA3:=hid (rSl.below Af.local_ Af.fixed HRA.out b3);clear hat hx hk ht hW2 KZ hZs b3 oid onm HNV HRA;go_wp2_with (first
    |(refine wpList_load_mid rfl 242 _ rfl b2 o2 rfl _ _ HRG.out Tryz.underlying242 rfl (by kernel_rfl) ?_)
    |(refine wpList_store_mid rfl 242 _ _ rfl wr.heap.size 0 #[int i64 t.id,int i64 t.kind,.string t.name,int i64 t.group] rfl rfl HTH.out (by kernel_rfl) (by simp[Value.oneCell']) ?_;rw[show(wr.alloc (.cells Z 242)).setCells wr.heap.size 0 (#[int i64 t.id,int i64 t.kind,.string t.name,int i64 t.group]:Array Value).toList =w3 from HW2.out])
    |(at_builtin;refine AQ rfl (.tmp 15) (.tmp 18) 25 rfl _ _ (by rfl) (by rfl) HAP.out ?_;rintro v9 w9 ⟨A9,c9,rfl,o9,b9,s9,k9⟩;have O9:=hid o9;have B9:=hid b9;have K9:=hid k9;clear o9 b9 s9 k9))
   go_roundw
   case rel => exact⟨i+1,c9,A9,by omega,by go_num,rfl,(show Cw _ _ _ _ _ _ _ from by rw[HST.out];exact O9.out),HB2.out.trans (B3.out.trans B9.out),rSl.keep Af.local_ HRA3.out (fun a ha => World.cell?_of_block (K9.out a.block (HGS.out a ha).1 (HGS.out a ha).2))⟩
   case measure => simp[intOf];omega
  ·obtain rfl:n=i:=by omega
   have HNV2:=hid (show Cw wr (g0+1) w1.heap.size (DC d ++(d.answers.take 0).map AK.id) A' n c' from by
    have:=HNV.out;rw[List.take_of_length_le (l:=AN d) (by rw[HN.out];exact Nat.le_refl _)]at this;rw[List.take_zero,List.map_nil,List.append_nil];exact this)
   have k2:wr.cell? ⟨g0,2,none⟩=some (.slice A2 nA c2):=(HB2.out.cell (p:=⟨g0,2,none⟩) (by simp)).trans ((HKW.out.cell 2).trans (by rw[← HNA.out];rfl));have hz4:g0<wr.heap.size:=by have:=HNV2.out.size;have:=HZ1.out;omega
   clear HNV HRA;go_wp2_with fail
   clear k2;go_loopw [24,3] (fun ix vv wr =>∃(i m c':Nat) (A':Option Addr),i≤nA∧ix= int i64 i∧vv= .slice A' m c'∧Hid (Cw wr (g0+1) w1.heap.size (DC d ++(d.answers.take i).map AK.id) A' m c')∧Hid (Below (g0+1) w1 wr)∧Hid (DB (d.next - 1) d i)) (fun ix _ _ => nA - (intOf ix).toNat)
   case atStart => exact⟨0,n,c',A',by omega,rfl,rfl,HNV2.out,HB2.out,(show DB _ d 0 from rfl)⟩
   case round =>
    clear HNV2 HB2;obtain⟨i,m,c',A',hi,rfl,rfl,HNV,HB2,HT⟩:=hrel;have HBR:=hid (show Below w.heap.size w wr from HBW.out.trans (HB2.out.mono (by rw[HG.out];omega)));by_cases hlt:i<nA
    ·have hk:i<d.answers.length:=by rw[HNA.out];exact hlt
     obtain⟨Ax,cx,ev,hc,hm,hx⟩:=rSl.at_ Am.fixed (by decide) (rSl.below Am.local_ Am.fixed R2.out HBR.out);injection ev with ev1 ev2 ev3
     subst ev1 ev3;clear ev2;rw[HNA.out]at hc;obtain⟨ad,b,oo,cs,fk,rfl,hat⟩:=hx i hk;have hpl:=hat.place;have hbl:=hat.lt;have hlen:cs.length=4:=hat.len;have HRG:=hid (show wr.rangeAt b oo cs from fun q v hq => by
      have hq1:q<cs.length:=(List.getElem?_eq_some_iff.1 hq).1;rw[hat.cell q hq1,← hq];exact(List.getElem?_eq_getElem hq1).symm)
     obtain⟨v0,q0,ecs,-,oid,-,-,hrb⟩:=hat.reads;obtain⟨Ab,cb,rfl,hmb,hmb2⟩:=rSl.head hrb;have hki:(i:Int)<(nA:Int):=by omega
     have HBAD:=hid (fun h0 => HR.out.symm.trans (HT.out.bad hk h0));have HSTEP:=hid (fun h0 => HT.out.step hk h0);have HST:=hid (show DC d ++(d.answers.take (i+1)).map AK.id=(DC d ++(d.answers.take i).map AK.id) ++ [d.answers[i].id]from by rw[List.take_succ_eq_append_getElem hk,List.map_append,List.append_assoc];rfl);obtain⟨x,hxx⟩:∃x,d.answers[i] =x:=⟨_,rfl⟩;rw[hxx]at ecs HBAD HSTEP hmb oid HST;obtain⟨nb,hnb⟩:∃nb,x.bytes.length=nb:=⟨_,rfl⟩;rw[hnb]at ecs hmb;have HNB:=hid hnb;obtain⟨Z,hZ⟩:∃Z:Array Value,#[int i64 0,int i64 0,int i64 0,.slice none 0 0] =Z:=⟨_,rfl⟩;have hZs:Z.size=4:=by rw[← hZ];rfl
     have KZ:=Blk.new wr 244 Z;have HTH:=hid (Blk.there KZ cs.toArray.size (by rw[show cs.toArray.size=4 from List.size_toArray.trans hlen,hZs];exact Nat.le_refl _));obtain⟨w3,hW2⟩:∃w3,(wr.alloc (.cells Z 244)).setCells wr.heap.size 0 cs.toArray.toList=w3:=⟨_,rfl⟩;have K3:=hid (show Blk w3 wr.heap.size 244 cs.toArray by rw[← hW2];exact Blk.laid KZ _ (by rw[hZs];exact hlen.symm));have b3:Below wr.heap.size wr w3:=by rw[← hW2];exact Aw (Ah (Below.refl _ _) _) _ 0 (Nat.le_refl _)
     have HW2:=hid hW2;have HI:=hid (show(Tryz.prog.info? 244).map (·.size)=some cs.length by rw[hlen];kernel_rfl);have HI2:=hid (show(Tryz.prog.info? 244).map (·.size)=some cs.toArray.size by rw[show cs.toArray.size=4 from List.size_toArray.trans hlen];kernel_rfl);have HON:=hid (all_oneCell_toArray (Am.ones _ _ _ _ hat.reads));have X3:=hid (show AnO w3 wr.heap.size 0 x (.slice Ab nb cb)from AnO.ofBlk (by rw[← ecs];exact K3.out));have B3:=hid (show Below (g0+1) w1 w3 from HB2.out.trans (b3.mono (by have:=HZ1.out;have:=HNV.out.size;omega)));have BW3:=hid (HBR.out.trans (b3.mono HBR.out.size));have N3:=hid (HNV.out.below b3);have HCT:=hid (show Calls Tryz.prog 173 #[.slice A' m c',int i64 x.id] w3 (fun e w' => e= .returned (.bool (decide (x.id∈DC d ++(d.answers.take i).map AK.id)))∧Below w3.heap.size w3 w')from by
      obtain⟨gs,hr,-⟩:=N3.out.own.reads;exact Dx _ _ x.id _ w3 hr)
     have hx3:=X3.out.lt;have x0:w3.cell? ⟨wr.heap.size,0,none⟩=some (int i64 x.id):=X3.out.c0;have x1:w3.cell? ⟨wr.heap.size,1,none⟩=some (int i64 x.code):=X3.out.c1;have x2:w3.cell? ⟨wr.heap.size,2,none⟩=some (int i64 x.turn):=X3.out.c2;have x3:w3.cell? ⟨wr.heap.size,3,none⟩=some (.slice Ab nb cb):=X3.out.c3;have d3:w3.cell? ⟨g0,3,none⟩=some (int i64 d.turn):=(B3.out.cell (p:=⟨g0,3,none⟩) (by simp)).trans ((HKW.out.cell 3).trans rfl);have d4:w3.cell? ⟨g0,4,none⟩=some (int i64 d.next):=(B3.out.cell (p:=⟨g0,4,none⟩) (by simp)).trans ((HKW.out.cell 4).trans rfl);have hz3:g0<w3.heap.size:=by have:=N3.out.size;have:=HZ1.out;omega
     have HIC:=hid (fun(W:World) => Be x.code 0 12 W);have HIT:=hid (fun(W:World) => Be x.turn 0 d.turn W);have HRANGE:=hid (show(Aj x.id 1 (d.next - 1) && (Aj x.code 0 12 && Aj x.turn 0 d.turn))=false→r=3 from fun h0 =>(HBAD.out (by rw[DP h0];decide)).trans (DP h0));have HMANY:=hid (show(Aj x.id 1 (d.next - 1) && (Aj x.code 0 12 && Aj x.turn 0 d.turn))=true→36<nb→r=2 from fun h0 h1 => by
      rw[← HNB.out]at h1;exact(HBAD.out (by rw[Ed h0 h1];decide)).trans (Ed h0 h1))
     have HTAKEN:=hid (show(Aj x.id 1 (d.next - 1) && (Aj x.code 0 12 && Aj x.turn 0 d.turn))=true→¬36<nb→x.id∈DC d ++(d.answers.take i).map AK.id→r=7 from fun h0 h1 h2 => by
      rw[← HNB.out]at h1;have e:=(Eu (i:=i) (x:=x) h0 h1).trans (if_pos h2);exact(HBAD.out (by rw[e];decide)).trans e)
     have HGOOD:=hid (show(Aj x.id 1 (d.next - 1) && (Aj x.code 0 12 && Aj x.turn 0 d.turn))=true→¬36<nb→x.id∉DC d ++(d.answers.take i).map AK.id→DB (d.next - 1) d (i+1)from fun h0 h1 h2 => by
      rw[← HNB.out]at h1;exact HSTEP.out ((Eu (i:=i) (x:=x) h0 h1).trans (if_neg h2)))
     have HSML:=hid (show(DC d ++(d.answers.take i).map AK.id).length +1≤1000000000 by
      unfold DC;rw[List.length_append,List.length_map,List.length_map,List.length_take];have:=HSM.out;have:=HSA.out;omega)
     have HOID:=hid oid;clear hat hx hW2 KZ hZs ecs hxx hnb hrb hk b3 oid hmb2 HBAD HSTEP HNV;by_cases j1:x.id<1
     ·obtain rfl:r=3:=HRANGE.out (by rw[Fm j1];rfl);go_wp2_with (first
       |(refine wpList_load_mid rfl 244 _ rfl b oo rfl cs _ HRG.out Tryz.underlying244 rfl HI.out ?_)
       |(refine wpList_store_mid rfl 244 _ _ rfl wr.heap.size 0 cs.toArray rfl rfl HTH.out HI2.out HON.out ?_;rw[HW2.out])
       |(go_at_call_has 100 x.code;refine(HIC.out _).mono ?_;rintro e w' ⟨rfl,rfl⟩)
       |(go_at_call_has 100 x.turn;refine(HIT.out _).mono ?_;rintro e w' ⟨rfl,rfl⟩))
      go_ret
      exact⟨rfl,BW3.out⟩
     by_cases j2:d.next≤x.id
     ·obtain rfl:r=3:=HRANGE.out (by rw[Gh (show d.next - 1<x.id by omega)];rfl);have j2d:decide (d.next≤x.id)=true:=decide_eq_true j2;go_wp2_with (first
       |(refine wpList_load_mid rfl 244 _ rfl b oo rfl cs _ HRG.out Tryz.underlying244 rfl HI.out ?_)
       |(refine wpList_store_mid rfl 244 _ _ rfl wr.heap.size 0 cs.toArray rfl rfl HTH.out HI2.out HON.out ?_;rw[HW2.out])
       |(go_at_call_has 100 x.code;refine(HIC.out _).mono ?_;rintro e w' ⟨rfl,rfl⟩)
       |(go_at_call_has 100 x.turn;refine(HIT.out _).mono ?_;rintro e w' ⟨rfl,rfl⟩))
      go_ret
      exact⟨rfl,BW3.out⟩
     have HJ:=hid (show Aj x.id 1 (d.next - 1)=true from F6 (by omega) (by omega));have j1n:¬x.id<1:=j1;have j2n:x.id<d.next:=by omega
     rw[HJ.out,Bool.true_and]at HRANGE HMANY HTAKEN HGOOD;clear j1 j2;obtain⟨i2,hi2e⟩:∃i2,Aj x.code 0 12=i2:=⟨_,rfl⟩;obtain⟨i3,hi3e⟩:∃i3,Aj x.turn 0 d.turn=i3:=⟨_,rfl⟩;rw[hi2e]at HIC HRANGE HMANY HTAKEN HGOOD;rw[hi3e]at HIT HRANGE HMANY HTAKEN HGOOD;clear hi2e hi3e;cases i2 with
     |false =>
      obtain rfl:r=3:=HRANGE.out rfl;go_wp2_with (first
       |(refine wpList_load_mid rfl 244 _ rfl b oo rfl cs _ HRG.out Tryz.underlying244 rfl HI.out ?_)
       |(refine wpList_store_mid rfl 244 _ _ rfl wr.heap.size 0 cs.toArray rfl rfl HTH.out HI2.out HON.out ?_;rw[HW2.out])
       |(go_at_call_has 100 x.code;refine(HIC.out _).mono ?_;rintro e w' ⟨rfl,rfl⟩)
       |(go_at_call_has 100 x.turn;refine(HIT.out _).mono ?_;rintro e w' ⟨rfl,rfl⟩))
      go_ret
      exact⟨rfl,BW3.out⟩
     |true =>
      cases i3 with
      |false =>
       obtain rfl:r=3:=HRANGE.out rfl;go_wp2_with (first
        |(refine wpList_load_mid rfl 244 _ rfl b oo rfl cs _ HRG.out Tryz.underlying244 rfl HI.out ?_)
        |(refine wpList_store_mid rfl 244 _ _ rfl wr.heap.size 0 cs.toArray rfl rfl HTH.out HI2.out HON.out ?_;rw[HW2.out])
        |(go_at_call_has 100 x.code;refine(HIC.out _).mono ?_;rintro e w' ⟨rfl,rfl⟩)
        |(go_at_call_has 100 x.turn;refine(HIT.out _).mono ?_;rintro e w' ⟨rfl,rfl⟩))
       go_ret
       exact⟨rfl,BW3.out⟩
      |true =>
       by_cases q36:36<nb
       ·obtain rfl:r=2:=HMANY.out rfl q36;have q36i:(36:Int)<(nb:Int):=by omega
        go_wp2_with (first
         |(refine wpList_load_mid rfl 244 _ rfl b oo rfl cs _ HRG.out Tryz.underlying244 rfl HI.out ?_)
         |(refine wpList_store_mid rfl 244 _ _ rfl wr.heap.size 0 cs.toArray rfl rfl HTH.out HI2.out HON.out ?_;rw[HW2.out])
         |(go_at_call_has 100 x.code;refine(HIC.out _).mono ?_;rintro e w' ⟨rfl,rfl⟩)
         |(go_at_call_has 100 x.turn;refine(HIT.out _).mono ?_;rintro e w' ⟨rfl,rfl⟩))
        go_ret
        exact⟨rfl,BW3.out⟩
       have q36i:¬(36:Int)<(nb:Int):=by omega
       obtain⟨mb,hmb3⟩:∃mb,decide (x.id∈DC d ++(d.answers.take i).map AK.id)=mb:=⟨_,rfl⟩;rw[hmb3]at HCT;cases mb with
       |true =>
        obtain rfl:r=7:=HTAKEN.out rfl q36 (of_decide_eq_true hmb3);clear hmb3 q36;go_wp2_with (first
         |(refine wpList_load_mid rfl 244 _ rfl b oo rfl cs _ HRG.out Tryz.underlying244 rfl HI.out ?_)
         |(refine wpList_store_mid rfl 244 _ _ rfl wr.heap.size 0 cs.toArray rfl rfl HTH.out HI2.out HON.out ?_;rw[HW2.out])
         |(go_at_call_has 100 x.code;refine(HIC.out _).mono ?_;rintro e w' ⟨rfl,rfl⟩)
         |(go_at_call_has 100 x.turn;refine(HIT.out _).mono ?_;rintro e w' ⟨rfl,rfl⟩)
         |(go_at_call 173;refine HCT.out.mono ?_;rintro e w4 ⟨rfl,b4⟩;have BC:=hid (BW3.out.trans (b4.mono BW3.out.size));have y0:=(b4.cell (p:=⟨wr.heap.size,0,none⟩) hx3).trans x0;have y1:=Nat.lt_of_lt_of_le hx3 b4.size;clear b4))
        go_ret
        exact⟨rfl,BC.out⟩
       |false =>
        have HT9:=hid (HGOOD.out rfl q36 (of_decide_eq_false hmb3));clear hmb3 q36;go_wp2_with (first
         |(refine wpList_load_mid rfl 244 _ rfl b oo rfl cs _ HRG.out Tryz.underlying244 rfl HI.out ?_)
         |(refine wpList_store_mid rfl 244 _ _ rfl wr.heap.size 0 cs.toArray rfl rfl HTH.out HI2.out HON.out ?_;rw[HW2.out])
         |(go_at_call_has 100 x.code;refine(HIC.out _).mono ?_;rintro e w' ⟨rfl,rfl⟩)
         |(go_at_call_has 100 x.turn;refine(HIT.out _).mono ?_;rintro e w' ⟨rfl,rfl⟩)
         |(go_at_call 173;refine HCT.out.mono ?_;rintro e w4 ⟨rfl,b4⟩;have BC:=hid (BW3.out.trans (b4.mono BW3.out.size));have y0:=(b4.cell (p:=⟨wr.heap.size,0,none⟩) hx3).trans x0;have y1:=Nat.lt_of_lt_of_le hx3 b4.size;have HAP:=hid (H6 (N3.out.below b4) (by have:=HZ1.out;omega) HOID.out HSML.out);have BL4:=hid (show Below (g0+1) w1 w4 from B3.out.trans (b4.mono (by omega)));clear b4)
         |(at_builtin;refine AQ rfl (.tmp 63) (.tmp 66) 25 rfl _ _ (by rfl) (by rfl) HAP.out ?_;rintro v9 w9 ⟨A9,c9,rfl,o9,b9,s9,k9⟩;have O9:=hid o9;have B9:=hid (BL4.out.trans b9);clear o9 b9 s9 k9))
        go_roundw
        case rel => exact⟨i+1,m+1,c9,A9,by omega,by go_num,rfl,(show Cw _ _ _ _ _ _ _ from by rw[HST.out];exact O9.out),B9.out,HT9.out⟩
        case measure => simp[intOf];omega
    ·obtain rfl:nA=i:=by omega
     have e0:r=0:=HR.out.symm.trans (HT.out.all (by rw[HNA.out];exact Nat.le_refl _));subst e0;go_wp2_with fail
     go_ret
     exact⟨rfl,HBR.out⟩
theorem Jq(p:List An→Bool)(g:Nat)(cb:Array Value)(v:Value)(ds:List (List An))(f:List Addr)(w:World)(eg:∀args w,(callFunc g args).run Tryz.prog w= .ok (.enter g args) w)(h:rSl 1 (Ai 4 Af) w f v ds)
  (hp:∀(W:World) (u:Value) (fk:List Addr) (j:Nat) (hj:j<ds.length),Below w.heap.size w W→(Ai 4 Af) W fk [u] ds[j]→Calls Tryz.prog g (#[u] ++ cb) W fun e w' => e= .returned (.bool (p ds[j]))∧Below W.heap.size W w') :
  Calls Tryz.prog 269 #[v,.func (.func g) #[] cb] w fun e w' => e= .returned (int i64 (C0 p ds))∧Below w.heap.size w w':=by
 obtain⟨A,c,rfl,hc,hm,hx⟩:=rSl.at_ (Ai.fixed Af.fixed) (Nat.succ_pos 0) h;have HX:=hid hx;have HP:=hid hp;clear hx hp h;obtain⟨rr,hrr⟩:∃rr,C0 p ds=rr:=⟨_,rfl⟩;rw[hrr];have RR:=hid hrr;clear hrr;go_enter Tryz.func269,Tryz.ntmps269
 go_wp2
 go_loopw [8,5] (fun i _ wr =>∃j:Nat,j≤ds.length∧i= int i64 j∧Hid (∀q,(hq:q<ds.length)→q<j→p ds[q] =false)∧Hid (Below w.heap.size w wr)) (fun i _ _ => ds.length - (intOf i).toNat)
 case atStart => exact⟨0,by omega,rfl,(fun q hq h => by omega),Below.refl _ _⟩
 case round =>
  obtain⟨j,hj,rfl,HF,HB⟩:=hrel;by_cases hlt:j<ds.length
  ·obtain⟨ad,b,o,cs,fk,rfl,hat⟩:=HX.out j hlt;have hat2:=hat.below (Ai.local_ Af.local_) HB.out;obtain⟨u,rfl⟩:∃u,cs= [u]:=by
    have:=hat.len;match cs,this with
    | [u],_ => exact⟨u,rfl⟩
   have hl:wr.cell? ⟨b,o,none⟩=some u:=by
    have:=hat2.cell 0 (by simp);simpa using this
   have hpl:=hat.place;rw[Nat.mul_one]at hpl;have hb0:=hat2.lt;have HC:=hid (HP.out wr u fk j hlt HB.out hat2.reads);clear hat hat2;obtain⟨pj,hpj⟩:∃pj,p ds[j] =pj:=⟨_,rfl⟩;rw[hpj]at HC;have HPJ:=hid hpj;clear hpj;cases pj with
   |true =>
    have e1:rr=j:=by rw[← RR.out];exact DZ hlt HPJ.out HF.out
    subst e1;go_wp2_with (go_at_fn g;refine HC.out.mono ?_;rintro e w1 ⟨rfl,hb1⟩)
    go_ret
    exact⟨rfl,HB.out.trans (hb1.mono HB.out.size)⟩
   |false =>
    go_wp2_with (go_at_fn g;refine HC.out.mono ?_;rintro e w1 ⟨rfl,hb1⟩)
    have HB1:=hid (HB.out.trans (hb1.mono HB.out.size));go_roundw
    case rel =>
     refine⟨j+1,by omega,by go_num,(show Hid _ from fun q hq hqj => ?_),HB1⟩;by_cases e:q=j
     ·subst e;exact HPJ.out
     ·exact HF.out q hq (by omega)
    case measure => simp[intOf];omega
  ·have e1:rr= -1:=by rw[← RR.out];exact DK (fun q hq => HF.out q hq (by omega))
   subst e1;go_wp2_with fail
   go_ret
   exact⟨rfl,HB.out⟩
theorem G6(p:List An→Bool)(g:Nat)(cb:Array Value)(v:Value)(ds:List (List An))(f:List Addr)(w:World)(eg:∀args w,(callFunc g args).run Tryz.prog w= .ok (.enter g args) w)(h:rSl 1 (Ai 4 Af) w f v ds)
  (hp:∀(W:World) (u:Value) (fk:List Addr) (j:Nat) (hj:j<ds.length),Below w.heap.size w W→(Ai 4 Af) W fk [u] ds[j]→Calls Tryz.prog g (#[u] ++ cb) W fun e w' => e= .returned (.bool (p ds[j]))∧Below W.heap.size W w') :
  Calls Tryz.prog 204 #[v,.func (.func g) #[] cb] w fun e w' => e= .returned (.bool (ds.any p))∧Below w.heap.size w w':=by
 have HC:=hid (Jq p g cb v ds f w eg h hp);rw[← ED];obtain⟨A,c,rfl,hc,hm⟩:=rSl.head h;clear hp h;generalize C0 p ds=rr at HC;go_enter Tryz.func204,Tryz.ntmps204
 go_wp2_with (go_at_call 269;refine HC.out.mono ?_;rintro e w1 ⟨rfl,hb1⟩)
 go_ret
 exact⟨rfl,hb1⟩
theorem sizeQ_c(A:Option Addr)(n c:Nat)(w:World):Calls Tryz.prog 203 #[.slice A n c] w fun e w' => e= .returned (int i64 (n:Int))∧w=w':=by
 go_enter Tryz.func203,Tryz.ntmps203
 go_wp2_with fail
 go_ret
 exact⟨rfl,rfl⟩
theorem sizeT_c(A:Option Addr)(n c:Nat)(w:World):Calls Tryz.prog 206 #[.slice A n c] w fun e w' => e= .returned (int i64 (n:Int))∧w=w':=by
 go_enter Tryz.func206,Tryz.ntmps206
 go_wp2_with fail
 go_ret
 exact⟨rfl,rfl⟩
theorem long1_c(s:Sh)(p:Nat)(q:List An)(A:Option Addr)(c:Nat)(w:World)(h:BF w p s) :
  Calls Tryz.prog 205 #[.slice A q.length c,.pointer (some ⟨p,0,none⟩)] w fun e w' => e= .returned (.bool (CI s q))∧Below w.heap.size w w':=by
 have u7:=cell_regrown h.c7;have hz:=h.lt;have hl:CI s q=decide (s.q<(q.length:Int)):=rfl;obtain⟨n,hn⟩:∃n,q.length=n:=⟨_,rfl⟩;rw[hn]at hl⊢;obtain⟨r,hr⟩:∃r,CI s q=r:=⟨_,rfl⟩;rw[hr]at hl⊢;have QS:=hid (Bc (w:=w) (fun W => sizeT_c A n c W));clear h hn hr;by_cases q1:s.q<(n:Int)
 ·have e1:r=true:=by rw[hl];exact decide_eq_true q1
  subst e1;clear hl;go_enter Tryz.func205,Tryz.ntmps205
  go_wp2_with fail
  (refine wp_region_quiet_below (by kernel_rfl) (by kernel_rfl) ?_;(repeat(first|go_big_quiet_step (first|exact QS.out _ _)|quiet_step (first|exact QS.out _ _)));refine wpQuiet_nil ?_)
  rintro _ ⟨⟨dq,osq⟩,rfl⟩;go_wp2_with fail
  go_ret
  exact⟨by simp[q1],below_regrown w dq osq⟩
 ·have e1:r=false:=by rw[hl];exact decide_eq_false q1
  subst e1;clear hl;go_enter Tryz.func205,Tryz.ntmps205
  go_wp2_with fail
  (refine wp_region_quiet_below (by kernel_rfl) (by kernel_rfl) ?_;(repeat(first|go_big_quiet_step (first|exact QS.out _ _)|quiet_step (first|exact QS.out _ _)));refine wpQuiet_nil ?_)
  rintro _ ⟨⟨dq,osq⟩,rfl⟩;go_wp2_with fail
  go_ret
  exact⟨by simp[q1],below_regrown w dq osq⟩
theorem Hh(s:Sh)(hsb:shB s=true)(d:AJ)(cs:List Value)(f:List Addr)(w:World)(h:AO w f cs d) :
  Calls Tryz.prog 124 #[shV s,.agg cs.toArray] w fun e w' => e= .returned (int i64 (BA (d.next - 1) s d))∧Below w.heap.size w w':=by
 have hs:=Cv hsb;have hrd:=h;dsimp only[AO]at h;obtain⟨v0,v1,v2,f0,f1,f2,rfl,-,o0,o1,r0,r1,r2⟩:=h;obtain⟨A0,c0,rfl,m0,m0'⟩:=rSl.head r0;obtain⟨A1,c1,rfl,m1,m1'⟩:=rSl.head r1;obtain⟨A2,c2,rfl,m2,m2'⟩:=rSl.head r2;have hB:Below w.heap.size w ((w.alloc (.cells #[int i64 s.g,int i64 s.c,int i64 s.data,int i64 s.p,int i64 s.rows,int i64 s.cap,int i64 s.b,int i64 s.q,int i64 s.t] 31)).alloc (.cells #[.slice A0 d.queues.length c0,.slice A1 d.aside.length c1,.slice A2 d.answers.length c2,int i64 d.turn,int i64 d.next] 60)):=((Below.refl _ _).alloc (Nat.le_refl _) _).alloc (by simp) _;have HB:=hid hB;have S2:=hid (BF.of ((Blk.new w 31 #[int i64 s.g,int i64 s.c,int i64 s.data,int i64 s.p,int i64 s.rows,int i64 s.cap,int i64 s.b,int i64 s.q,int i64 s.t]).alloc (.cells #[.slice A0 d.queues.length c0,.slice A1 d.aside.length c1,.slice A2 d.answers.length c2,int i64 d.turn,int i64 d.next] 60)));have D2:=hid (CG.of (d:=d) (Blk.new1 w (.cells #[int i64 s.g,int i64 s.c,int i64 s.data,int i64 s.p,int i64 s.rows,int i64 s.cap,int i64 s.b,int i64 s.q,int i64 s.t] 31) 60 #[.slice A0 d.queues.length c0,.slice A1 d.aside.length c1,.slice A2 d.answers.length c2,int i64 d.turn,int i64 d.next]) (rSl.below (Ai.local_ Af.local_) (Ai.fixed Af.fixed) r0 hB) (rSl.below Af.local_ Af.fixed r1 hB) (rSl.below Am.local_ Am.fixed r2 hB));have K2:=hid (Blk.new1 w (.cells #[int i64 s.g,int i64 s.c,int i64 s.data,int i64 s.p,int i64 s.rows,int i64 s.cap,int i64 s.b,int i64 s.q,int i64 s.t] 31) 60 #[.slice A0 d.queues.length c0,.slice A1 d.aside.length c1,.slice A2 d.answers.length c2,int i64 d.turn,int i64 d.next]);have hzs:=S2.out.lt;have hzd:=D2.out.lt;have HRD:=hid hrd;have HA:=hid (fun(W:World) => DV s hs W);have HTK:=hid (fun(hsm:(AN d).length≤1000000) (W:World) (hW:Below w.heap.size w W) => It s hsb d hsm _ _ W (Ap.below AO.local_ AO.fixed hrd hW));have HAN:=hid (fun(hsm:(AN d).length≤1000000) (hsa:d.answers.length≤1000000) (W:World) (hW:Below w.heap.size w W) => H7 d hsm hsa _ _ W (Ap.below AO.local_ AO.fixed hrd hW));have HCF:=hid (fun(W:World) (hS:BF W w.heap.size s) (hD:rSl 1 (Ai 4 Af) W f0 (.slice A0 d.queues.length c0) d.queues) =>
  G6 (CI s) 205 #[.pointer (some ⟨w.heap.size,0,none⟩)] _ d.queues f0 W (enters_of Tryz.func205 (by kernel_rfl) rfl) hD (fun W' u fk j hj hW hR => by
   obtain⟨v,hv,hr⟩:=hR;injection hv with hv _
   subst hv;obtain⟨Ae,ce,rfl,-⟩:=rSl.head hr;exact long1_c s w.heap.size d.queues[j] Ae ce W' (hS.below hW)))
 have HSMALL:=hid (fun(hl:(d.queues.length:Int)=s.g+s.c) (hq:d.queues.any (CI s)=false) (ha:d.aside.length≤20) => Nat.le_trans (Fu hs hl hq ha) (show 60≤1000000 by decide));obtain⟨hi,hhi⟩:∃hi,d.next - 1=hi:=⟨_,rfl⟩;rw[hhi]at HAN⊢;obtain⟨r,hr⟩:∃r,BA hi s d=r:=⟨_,rfl⟩;rw[hr];have HLEN:=hid (fun h0 => hr.symm.trans (FW (hi:=hi) (s:=s) (d:=d) h0));have HMANY:=hid (fun h0 h1 => hr.symm.trans (Fx (hi:=hi) (s:=s) (d:=d) h0 h1));have HREST:=hid (fun h0 h1 => hr.symm.trans (Ha (hi:=hi) (s:=s) (d:=d) h0 h1));obtain⟨al,hal⟩:∃al,s.g+s.c=al:=⟨_,rfl⟩;rw[hal]at HA HLEN HMANY HREST HSMALL;obtain⟨nQ,hnQ⟩:∃nQ,d.queues.length=nQ:=⟨_,rfl⟩;obtain⟨nS,hnS⟩:∃nS,d.aside.length=nS:=⟨_,rfl⟩;obtain⟨nA,hnA⟩:∃nA,d.answers.length=nA:=⟨_,rfl⟩;have HNQ:=hid hnQ;have HNS:=hid hnS;have HNA:=hid hnA;rw[hnQ]at HLEN HMANY HREST HSMALL HCF m0 HTK HAN;rw[hnS]at HMANY HREST HSMALL HTK HAN;rw[hnA]at HMANY HREST HTK HAN;obtain⟨lb,hlb⟩:∃lb,d.queues.any (CI s)=lb:=⟨_,rfl⟩;rw[hlb]at HCF HMANY HREST HSMALL;unfold shV at HA HTK⊢;have HI3:=hid (fun(W:World) => Be d.turn 0 1000000000 W);have HI4:=hid (fun(W:World) => Be d.next 1 1000000000 W);clear hB hr hal hhi hnQ hnS hnA hs hsb r0 r1 r2 o0 o1 m1 m2 m1' m2' hlb hrd;go_enter Tryz.func124,Tryz.ntmps124
 go_wp2_with fail
 have u0:=cell_regrown S2.out.c0;have u1:=cell_regrown S2.out.c1;have u2:=cell_regrown S2.out.c2;have u3:=cell_regrown S2.out.c3;have u4:=cell_regrown S2.out.c4;have u5:=cell_regrown S2.out.c5;have u6:=cell_regrown S2.out.c6;have u7:=cell_regrown S2.out.c7;have u8:=cell_regrown S2.out.c8;have k0:=cell_regrown (show((w.alloc (.cells #[int i64 s.g,int i64 s.c,int i64 s.data,int i64 s.p,int i64 s.rows,int i64 s.cap,int i64 s.b,int i64 s.q,int i64 s.t] 31)).alloc (.cells #[.slice A0 d.queues.length c0,.slice A1 d.aside.length c1,.slice A2 d.answers.length c2,int i64 d.turn,int i64 d.next] 60)).cell? ⟨w.heap.size+1,0,none⟩=some (.slice A0 nQ c0)from D2.out.k0.trans (by rw[HNQ.out]));have QS:=hid (Bc (w:=((w.alloc (.cells #[int i64 s.g,int i64 s.c,int i64 s.data,int i64 s.p,int i64 s.rows,int i64 s.cap,int i64 s.b,int i64 s.q,int i64 s.t] 31)).alloc (.cells #[.slice A0 d.queues.length c0,.slice A1 d.aside.length c1,.slice A2 d.answers.length c2,int i64 d.turn,int i64 d.next] 60))) (fun W => sizeQ_c A0 nQ c0 W));have QA:=hid (AF (w:=((w.alloc (.cells #[int i64 s.g,int i64 s.c,int i64 s.data,int i64 s.p,int i64 s.rows,int i64 s.cap,int i64 s.b,int i64 s.q,int i64 s.t] 31)).alloc (.cells #[.slice A0 d.queues.length c0,.slice A1 d.aside.length c1,.slice A2 d.answers.length c2,int i64 d.turn,int i64 d.next] 60))) (fun W _ => HA.out W));by_cases q1:(nQ:Int)=al
 case neg =>
  obtain rfl:r=1:=HLEN.out q1;have hb:=C8 q1;clear q1
  (refine wp_region_quiet_below (by kernel_rfl) (by kernel_rfl) ?_;(repeat(first|go_big_quiet_step (first|(go_at_call 203;exact QS.out _ _)|(go_at_call 101;exact QA.out _ _))|quiet_step (first|(go_at_call 203;exact QS.out _ _)|(go_at_call 101;exact QA.out _ _))));refine wpQuiet_nil ?_)
  rintro _ ⟨⟨dq,osq⟩,rfl⟩;have BQ:=hid (HB.out.trans ((below_regrown ((w.alloc (.cells #[int i64 s.g,int i64 s.c,int i64 s.data,int i64 s.p,int i64 s.rows,int i64 s.cap,int i64 s.b,int i64 s.q,int i64 s.t] 31)).alloc (.cells #[.slice A0 d.queues.length c0,.slice A1 d.aside.length c1,.slice A2 d.answers.length c2,int i64 d.turn,int i64 d.next] 60)) dq osq).mono HB.out.size));go_wp2_with fail
  go_ret
  exact⟨rfl,BQ.out⟩
 have Q1:=hid q1;have hb:=Fp q1;clear q1
 (refine wp_region_quiet_below (by kernel_rfl) (by kernel_rfl) ?_;(repeat(first|go_big_quiet_step (first|(go_at_call 203;exact QS.out _ _)|(go_at_call 101;exact QA.out _ _))|quiet_step (first|(go_at_call 203;exact QS.out _ _)|(go_at_call 101;exact QA.out _ _))));refine wpQuiet_nil ?_)
 rintro _ ⟨⟨dq,osq⟩,rfl⟩;have b5:=below_regrown ((w.alloc (.cells #[int i64 s.g,int i64 s.c,int i64 s.data,int i64 s.p,int i64 s.rows,int i64 s.cap,int i64 s.b,int i64 s.q,int i64 s.t] 31)).alloc (.cells #[.slice A0 d.queues.length c0,.slice A1 d.aside.length c1,.slice A2 d.answers.length c2,int i64 d.turn,int i64 d.next] 60)) dq osq;generalize grow (redrawn ((w.alloc (.cells #[int i64 s.g,int i64 s.c,int i64 s.data,int i64 s.p,int i64 s.rows,int i64 s.cap,int i64 s.b,int i64 s.q,int i64 s.t] 31)).alloc (.cells #[.slice A0 d.queues.length c0,.slice A1 d.aside.length c1,.slice A2 d.answers.length c2,int i64 d.turn,int i64 d.next] 60)) dq) osq=w5 at b5;have S5:=hid (S2.out.below b5);have D5:=hid (D2.out.below b5);have K5:=hid (K2.out.below b5 K2.out.lt);have B5:=hid (HB.out.trans (b5.mono HB.out.size));have HR0:=hid (show rSl 1 (Ai 4 Af) w5 f0 (.slice A0 nQ c0) d.queues from by have:=D5.out.r0;rwa [HNQ.out]at this);have p0:w5.cell? ⟨w.heap.size+1,0,none⟩=some (.slice A0 nQ c0):=by have:=D5.out.k0;rwa [HNQ.out]at this
 have z5:=S5.out.lt;have y5:=D5.out.lt;clear b5 u0 u1 u2 u3 u4 u5 u6 u7 u8 k0 QA QS hb;have HRNG:=hid (show∀W,BF W w.heap.size s→W.rangeAt w.heap.size 0 [int i64 s.g,int i64 s.c,int i64 s.data,int i64 s.p,int i64 s.rows,int i64 s.cap,int i64 s.b,int i64 s.q,int i64 s.t]from fun W h => h.rng);cases lb with
 |true =>
  obtain rfl:r=2:=HMANY.out Q1.out rfl;go_wp2_with (first
   |(go_at_call 204;refine(HCF.out _ S5.out HR0.out).mono ?_;rintro e w6 ⟨rfl,b6⟩;have S6:=hid (S5.out.below b6);have D6:=hid (D5.out.below b6);have K6:=hid (K5.out.below b6 K5.out.lt);have B6:=hid (B5.out.trans (b6.mono B5.out.size));have z6:=S6.out.lt;have y6:=D6.out.lt;have p1:w6.cell? ⟨w.heap.size+1,1,none⟩=some (.slice A1 nS c1):=(by have:=D6.out.k1;rwa [HNS.out]at this);have p2:w6.cell? ⟨w.heap.size+1,2,none⟩=some (.slice A2 nA c2):=(by have:=D6.out.k2;rwa [HNA.out]at this);have HRS6:=hid S6.out.rng;have HRK6:=hid (show w6.rangeAt (w.heap.size+1) 0 [.slice A0 nQ c0,.slice A1 nS c1,.slice A2 nA c2,int i64 d.turn,int i64 d.next]from by have:=Blk.rangeAll K6.out;rwa [HNQ.out,HNS.out,HNA.out]at this);clear b6))
  go_ret
  exact⟨rfl,B6.out⟩
 |false =>
  by_cases q3:20<nS
  ·obtain rfl:r=2:=HMANY.out Q1.out (by rw[decide_eq_true q3];rfl);have q3i:(20:Int)<(nS:Int):=by omega
   go_wp2_with (first
    |(go_at_call 204;refine(HCF.out _ S5.out HR0.out).mono ?_;rintro e w6 ⟨rfl,b6⟩;have S6:=hid (S5.out.below b6);have D6:=hid (D5.out.below b6);have K6:=hid (K5.out.below b6 K5.out.lt);have B6:=hid (B5.out.trans (b6.mono B5.out.size));have z6:=S6.out.lt;have y6:=D6.out.lt;have p1:w6.cell? ⟨w.heap.size+1,1,none⟩=some (.slice A1 nS c1):=(by have:=D6.out.k1;rwa [HNS.out]at this);have p2:w6.cell? ⟨w.heap.size+1,2,none⟩=some (.slice A2 nA c2):=(by have:=D6.out.k2;rwa [HNA.out]at this);have HRS6:=hid S6.out.rng;have HRK6:=hid (show w6.rangeAt (w.heap.size+1) 0 [.slice A0 nQ c0,.slice A1 nS c1,.slice A2 nA c2,int i64 d.turn,int i64 d.next]from by have:=Blk.rangeAll K6.out;rwa [HNQ.out,HNS.out,HNA.out]at this);clear b6))
   go_ret
   exact⟨rfl,B6.out⟩
  have q3i:¬(20:Int)<(nS:Int):=by omega
  by_cases q4:200<nA
  ·obtain rfl:r=2:=HMANY.out Q1.out (by rw[decide_eq_true q4,Bool.or_true,Bool.or_true]);have q4i:(200:Int)<(nA:Int):=by omega
   go_wp2_with (first
    |(go_at_call 204;refine(HCF.out _ S5.out HR0.out).mono ?_;rintro e w6 ⟨rfl,b6⟩;have S6:=hid (S5.out.below b6);have D6:=hid (D5.out.below b6);have K6:=hid (K5.out.below b6 K5.out.lt);have B6:=hid (B5.out.trans (b6.mono B5.out.size));have z6:=S6.out.lt;have y6:=D6.out.lt;have p1:w6.cell? ⟨w.heap.size+1,1,none⟩=some (.slice A1 nS c1):=(by have:=D6.out.k1;rwa [HNS.out]at this);have p2:w6.cell? ⟨w.heap.size+1,2,none⟩=some (.slice A2 nA c2):=(by have:=D6.out.k2;rwa [HNA.out]at this);have HRS6:=hid S6.out.rng;have HRK6:=hid (show w6.rangeAt (w.heap.size+1) 0 [.slice A0 nQ c0,.slice A1 nS c1,.slice A2 nA c2,int i64 d.turn,int i64 d.next]from by have:=Blk.rangeAll K6.out;rwa [HNQ.out,HNS.out,HNA.out]at this);clear b6))
   go_ret
   exact⟨rfl,B6.out⟩
  have q4i:¬(200:Int)<(nA:Int):=by omega
  have HRT:=hid (HREST.out Q1.out (by rw[decide_eq_false q3,decide_eq_false q4];rfl));have hsm:=HSMALL.out Q1.out rfl (by omega);have hsa:nA≤1000000:=by omega
  have HT6:=hid (HTK.out hsm);have HA6:=hid (HAN.out hsm hsa);clear q3 q4 HREST HMANY HLEN hsm hsa HTK HAN;obtain⟨tc,htc⟩:∃tc,tkC s d=tc:=⟨_,rfl⟩;rw[htc]at HT6 HRT;clear htc;obtain⟨ac,hac⟩:∃ac,anH hi d=ac:=⟨_,rfl⟩;rw[hac]at HA6 HRT;clear hac;by_cases q5:tc=0
  case neg =>
   have e1:r=tc:=by have:=HRT.out;rwa [if_neg q5]at this
   have q5b:=C8 q5;subst e1;clear q5;go_wp2_with (first
    |(go_at_call 204;refine(HCF.out _ S5.out HR0.out).mono ?_;rintro e w6 ⟨rfl,b6⟩;have S6:=hid (S5.out.below b6);have D6:=hid (D5.out.below b6);have K6:=hid (K5.out.below b6 K5.out.lt);have B6:=hid (B5.out.trans (b6.mono B5.out.size));have z6:=S6.out.lt;have y6:=D6.out.lt;have p1:w6.cell? ⟨w.heap.size+1,1,none⟩=some (.slice A1 nS c1):=(by have:=D6.out.k1;rwa [HNS.out]at this);have p2:w6.cell? ⟨w.heap.size+1,2,none⟩=some (.slice A2 nA c2):=(by have:=D6.out.k2;rwa [HNA.out]at this);have HRS6:=hid S6.out.rng;have HRK6:=hid (show w6.rangeAt (w.heap.size+1) 0 [.slice A0 nQ c0,.slice A1 nS c1,.slice A2 nA c2,int i64 d.turn,int i64 d.next]from by have:=Blk.rangeAll K6.out;rwa [HNQ.out,HNS.out,HNA.out]at this);clear b6)
    |(refine wpList_load_mid rfl 31 _ rfl w.heap.size 0 rfl _ _ HRS6.out Tryz.underlying31 rfl (by kernel_rfl) ?_)
    |(refine wpList_load_mid rfl 60 _ rfl (w.heap.size+1) 0 rfl _ _ HRK6.out Tryz.underlying60 rfl (by kernel_rfl) ?_)
    |(go_at_call 207;refine(HT6.out _ B6.out).mono ?_;rintro e w7 ⟨rfl,b7⟩;have K7:=hid (K6.out.below b7 K6.out.lt);have B7:=hid (B6.out.trans (b7.mono B6.out.size));have y7:=K7.out.lt;have HRK7:=hid (show w7.rangeAt (w.heap.size+1) 0 [.slice A0 nQ c0,.slice A1 nS c1,.slice A2 nA c2,int i64 d.turn,int i64 d.next]from by have:=Blk.rangeAll K7.out;rwa [HNQ.out,HNS.out,HNA.out]at this);clear b7))
   go_ret
   exact⟨rfl,B7.out⟩
  subst q5;rw[if_pos rfl]at HRT;by_cases q6:ac=0
  case neg =>
   have e1:r=ac:=by have:=HRT.out;rwa [if_neg q6]at this
   have q6b:=C8 q6;subst e1;clear q6;go_wp2_with (first
    |(go_at_call 204;refine(HCF.out _ S5.out HR0.out).mono ?_;rintro e w6 ⟨rfl,b6⟩;have S6:=hid (S5.out.below b6);have D6:=hid (D5.out.below b6);have K6:=hid (K5.out.below b6 K5.out.lt);have B6:=hid (B5.out.trans (b6.mono B5.out.size));have z6:=S6.out.lt;have y6:=D6.out.lt;have p1:w6.cell? ⟨w.heap.size+1,1,none⟩=some (.slice A1 nS c1):=(by have:=D6.out.k1;rwa [HNS.out]at this);have p2:w6.cell? ⟨w.heap.size+1,2,none⟩=some (.slice A2 nA c2):=(by have:=D6.out.k2;rwa [HNA.out]at this);have HRS6:=hid S6.out.rng;have HRK6:=hid (show w6.rangeAt (w.heap.size+1) 0 [.slice A0 nQ c0,.slice A1 nS c1,.slice A2 nA c2,int i64 d.turn,int i64 d.next]from by have:=Blk.rangeAll K6.out;rwa [HNQ.out,HNS.out,HNA.out]at this);clear b6)
    |(refine wpList_load_mid rfl 31 _ rfl w.heap.size 0 rfl _ _ HRS6.out Tryz.underlying31 rfl (by kernel_rfl) ?_)
    |(refine wpList_load_mid rfl 60 _ rfl (w.heap.size+1) 0 rfl _ _ HRK6.out Tryz.underlying60 rfl (by kernel_rfl) ?_)
    |(go_at_call 207;refine(HT6.out _ B6.out).mono ?_;rintro e w7 ⟨rfl,b7⟩;have K7:=hid (K6.out.below b7 K6.out.lt);have B7:=hid (B6.out.trans (b7.mono B6.out.size));have y7:=K7.out.lt;have HRK7:=hid (show w7.rangeAt (w.heap.size+1) 0 [.slice A0 nQ c0,.slice A1 nS c1,.slice A2 nA c2,int i64 d.turn,int i64 d.next]from by have:=Blk.rangeAll K7.out;rwa [HNQ.out,HNS.out,HNA.out]at this);clear b7)
    |(refine wpList_load_mid rfl 60 _ rfl (w.heap.size+1) 0 rfl _ _ HRK7.out Tryz.underlying60 rfl (by kernel_rfl) ?_)
    |(go_at_call 208;refine(HA6.out _ B7.out).mono ?_;rintro e w8 ⟨rfl,b8⟩;have K8:=hid (K7.out.below b8 K7.out.lt);have B8:=hid (B7.out.trans (b8.mono B7.out.size));have y8:=K8.out.lt;have x3:w8.cell? ⟨w.heap.size+1,3,none⟩=some (int i64 d.turn):=(K8.out.cell 3).trans rfl;have x4:w8.cell? ⟨w.heap.size+1,4,none⟩=some (int i64 d.next):=(K8.out.cell 4).trans rfl;clear b8))
   go_ret
   exact⟨rfl,B8.out⟩
  subst q6;rw[if_pos rfl]at HRT;obtain⟨j3,hj3⟩:∃j3,Aj d.turn 0 1000000000=j3:=⟨_,rfl⟩;obtain⟨j4,hj4⟩:∃j4,Aj d.next 1 1000000000=j4:=⟨_,rfl⟩;rw[hj3]at HI3 HRT;rw[hj4]at HI4 HRT;clear hj3 hj4;cases j3 with
  |false =>
   obtain rfl:r=3:=HRT.out;go_wp2_with (first
    |(go_at_call 204;refine(HCF.out _ S5.out HR0.out).mono ?_;rintro e w6 ⟨rfl,b6⟩;have S6:=hid (S5.out.below b6);have D6:=hid (D5.out.below b6);have K6:=hid (K5.out.below b6 K5.out.lt);have B6:=hid (B5.out.trans (b6.mono B5.out.size));have z6:=S6.out.lt;have y6:=D6.out.lt;have p1:w6.cell? ⟨w.heap.size+1,1,none⟩=some (.slice A1 nS c1):=(by have:=D6.out.k1;rwa [HNS.out]at this);have p2:w6.cell? ⟨w.heap.size+1,2,none⟩=some (.slice A2 nA c2):=(by have:=D6.out.k2;rwa [HNA.out]at this);have HRS6:=hid S6.out.rng;have HRK6:=hid (show w6.rangeAt (w.heap.size+1) 0 [.slice A0 nQ c0,.slice A1 nS c1,.slice A2 nA c2,int i64 d.turn,int i64 d.next]from by have:=Blk.rangeAll K6.out;rwa [HNQ.out,HNS.out,HNA.out]at this);clear b6)
    |(refine wpList_load_mid rfl 31 _ rfl w.heap.size 0 rfl _ _ HRS6.out Tryz.underlying31 rfl (by kernel_rfl) ?_)
    |(refine wpList_load_mid rfl 60 _ rfl (w.heap.size+1) 0 rfl _ _ HRK6.out Tryz.underlying60 rfl (by kernel_rfl) ?_)
    |(go_at_call 207;refine(HT6.out _ B6.out).mono ?_;rintro e w7 ⟨rfl,b7⟩;have K7:=hid (K6.out.below b7 K6.out.lt);have B7:=hid (B6.out.trans (b7.mono B6.out.size));have y7:=K7.out.lt;have HRK7:=hid (show w7.rangeAt (w.heap.size+1) 0 [.slice A0 nQ c0,.slice A1 nS c1,.slice A2 nA c2,int i64 d.turn,int i64 d.next]from by have:=Blk.rangeAll K7.out;rwa [HNQ.out,HNS.out,HNA.out]at this);clear b7)
    |(refine wpList_load_mid rfl 60 _ rfl (w.heap.size+1) 0 rfl _ _ HRK7.out Tryz.underlying60 rfl (by kernel_rfl) ?_)
    |(go_at_call 208;refine(HA6.out _ B7.out).mono ?_;rintro e w8 ⟨rfl,b8⟩;have K8:=hid (K7.out.below b8 K7.out.lt);have B8:=hid (B7.out.trans (b8.mono B7.out.size));have y8:=K8.out.lt;have x3:w8.cell? ⟨w.heap.size+1,3,none⟩=some (int i64 d.turn):=(K8.out.cell 3).trans rfl;have x4:w8.cell? ⟨w.heap.size+1,4,none⟩=some (int i64 d.next):=(K8.out.cell 4).trans rfl;clear b8)
    |(go_at_call_has 100 d.turn;refine(HI3.out _).mono ?_;rintro e w' ⟨rfl,rfl⟩)
    |(go_at_call_has 100 d.next;refine(HI4.out _).mono ?_;rintro e w' ⟨rfl,rfl⟩))
   go_ret
   exact⟨rfl,B8.out⟩
  |true =>
   cases j4 with
   |false =>
    obtain rfl:r=3:=HRT.out;go_wp2_with (first
     |(go_at_call 204;refine(HCF.out _ S5.out HR0.out).mono ?_;rintro e w6 ⟨rfl,b6⟩;have S6:=hid (S5.out.below b6);have D6:=hid (D5.out.below b6);have K6:=hid (K5.out.below b6 K5.out.lt);have B6:=hid (B5.out.trans (b6.mono B5.out.size));have z6:=S6.out.lt;have y6:=D6.out.lt;have p1:w6.cell? ⟨w.heap.size+1,1,none⟩=some (.slice A1 nS c1):=(by have:=D6.out.k1;rwa [HNS.out]at this);have p2:w6.cell? ⟨w.heap.size+1,2,none⟩=some (.slice A2 nA c2):=(by have:=D6.out.k2;rwa [HNA.out]at this);have HRS6:=hid S6.out.rng;have HRK6:=hid (show w6.rangeAt (w.heap.size+1) 0 [.slice A0 nQ c0,.slice A1 nS c1,.slice A2 nA c2,int i64 d.turn,int i64 d.next]from by have:=Blk.rangeAll K6.out;rwa [HNQ.out,HNS.out,HNA.out]at this);clear b6)
     |(refine wpList_load_mid rfl 31 _ rfl w.heap.size 0 rfl _ _ HRS6.out Tryz.underlying31 rfl (by kernel_rfl) ?_)
     |(refine wpList_load_mid rfl 60 _ rfl (w.heap.size+1) 0 rfl _ _ HRK6.out Tryz.underlying60 rfl (by kernel_rfl) ?_)
     |(go_at_call 207;refine(HT6.out _ B6.out).mono ?_;rintro e w7 ⟨rfl,b7⟩;have K7:=hid (K6.out.below b7 K6.out.lt);have B7:=hid (B6.out.trans (b7.mono B6.out.size));have y7:=K7.out.lt;have HRK7:=hid (show w7.rangeAt (w.heap.size+1) 0 [.slice A0 nQ c0,.slice A1 nS c1,.slice A2 nA c2,int i64 d.turn,int i64 d.next]from by have:=Blk.rangeAll K7.out;rwa [HNQ.out,HNS.out,HNA.out]at this);clear b7)
     |(refine wpList_load_mid rfl 60 _ rfl (w.heap.size+1) 0 rfl _ _ HRK7.out Tryz.underlying60 rfl (by kernel_rfl) ?_)
     |(go_at_call 208;refine(HA6.out _ B7.out).mono ?_;rintro e w8 ⟨rfl,b8⟩;have K8:=hid (K7.out.below b8 K7.out.lt);have B8:=hid (B7.out.trans (b8.mono B7.out.size));have y8:=K8.out.lt;have x3:w8.cell? ⟨w.heap.size+1,3,none⟩=some (int i64 d.turn):=(K8.out.cell 3).trans rfl;have x4:w8.cell? ⟨w.heap.size+1,4,none⟩=some (int i64 d.next):=(K8.out.cell 4).trans rfl;clear b8)
     |(go_at_call_has 100 d.turn;refine(HI3.out _).mono ?_;rintro e w' ⟨rfl,rfl⟩)
     |(go_at_call_has 100 d.next;refine(HI4.out _).mono ?_;rintro e w' ⟨rfl,rfl⟩))
    go_ret
    exact⟨rfl,B8.out⟩
   |true =>
    obtain rfl:r=0:=HRT.out;go_wp2_with (first
     |(go_at_call 204;refine(HCF.out _ S5.out HR0.out).mono ?_;rintro e w6 ⟨rfl,b6⟩;have S6:=hid (S5.out.below b6);have D6:=hid (D5.out.below b6);have K6:=hid (K5.out.below b6 K5.out.lt);have B6:=hid (B5.out.trans (b6.mono B5.out.size));have z6:=S6.out.lt;have y6:=D6.out.lt;have p1:w6.cell? ⟨w.heap.size+1,1,none⟩=some (.slice A1 nS c1):=(by have:=D6.out.k1;rwa [HNS.out]at this);have p2:w6.cell? ⟨w.heap.size+1,2,none⟩=some (.slice A2 nA c2):=(by have:=D6.out.k2;rwa [HNA.out]at this);have HRS6:=hid S6.out.rng;have HRK6:=hid (show w6.rangeAt (w.heap.size+1) 0 [.slice A0 nQ c0,.slice A1 nS c1,.slice A2 nA c2,int i64 d.turn,int i64 d.next]from by have:=Blk.rangeAll K6.out;rwa [HNQ.out,HNS.out,HNA.out]at this);clear b6)
     |(refine wpList_load_mid rfl 31 _ rfl w.heap.size 0 rfl _ _ HRS6.out Tryz.underlying31 rfl (by kernel_rfl) ?_)
     |(refine wpList_load_mid rfl 60 _ rfl (w.heap.size+1) 0 rfl _ _ HRK6.out Tryz.underlying60 rfl (by kernel_rfl) ?_)
     |(go_at_call 207;refine(HT6.out _ B6.out).mono ?_;rintro e w7 ⟨rfl,b7⟩;have K7:=hid (K6.out.below b7 K6.out.lt);have B7:=hid (B6.out.trans (b7.mono B6.out.size));have y7:=K7.out.lt;have HRK7:=hid (show w7.rangeAt (w.heap.size+1) 0 [.slice A0 nQ c0,.slice A1 nS c1,.slice A2 nA c2,int i64 d.turn,int i64 d.next]from by have:=Blk.rangeAll K7.out;rwa [HNQ.out,HNS.out,HNA.out]at this);clear b7)
     |(refine wpList_load_mid rfl 60 _ rfl (w.heap.size+1) 0 rfl _ _ HRK7.out Tryz.underlying60 rfl (by kernel_rfl) ?_)
     |(go_at_call 208;refine(HA6.out _ B7.out).mono ?_;rintro e w8 ⟨rfl,b8⟩;have K8:=hid (K7.out.below b8 K7.out.lt);have B8:=hid (B7.out.trans (b8.mono B7.out.size));have y8:=K8.out.lt;have x3:w8.cell? ⟨w.heap.size+1,3,none⟩=some (int i64 d.turn):=(K8.out.cell 3).trans rfl;have x4:w8.cell? ⟨w.heap.size+1,4,none⟩=some (int i64 d.next):=(K8.out.cell 4).trans rfl;clear b8)
     |(go_at_call_has 100 d.turn;refine(HI3.out _).mono ?_;rintro e w' ⟨rfl,rfl⟩)
     |(go_at_call_has 100 d.next;refine(HI4.out _).mono ?_;rintro e w' ⟨rfl,rfl⟩))
    go_ret
    exact⟨rfl,B8.out⟩
end Go.Proofs.YtfjkoifpdoemdaaGreat
