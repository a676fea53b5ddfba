/-
  Part 23 of the proof; the last part states and proves the statement.
-/
import Derived.Test.YthbljikbnoghcaaGreatM22
set_option maxHeartbeats 8000000
set_option maxRecDepth 100000
set_option linter.unusedVariables false
set_option linter.unusedSimpArgs false
open Go.Value (int)
open Go.IntKind (i64)
namespace Go.Proofs.YthbljikbnoghcaaGreat
open Go.RowKit Go.Lib Go.Sort
structure Dk (W:World) (B M:Nat) (ids:List Int) (A:Option Addr) (n c:Nat):Prop where
 own:Aj 1 2 As W B (.slice A n c) ids []
 at_:∀k,(Value.slice A n c).ownBlock =some k→k=B∨M≤k
 size:M≤W.heap.size
theorem Dk.len {W:World} {B M:Nat} {ids:List Int} {A:Option Addr} {n c:Nat}(h:Dk W B M ids A n c):n=ids.length∧n≤c∧c≤9223372036854775807:=by
 obtain⟨A',c',e,h1,h2⟩:=h.own.length;injection e with _ e2 e3
 exact⟨e2,by omega,by omega⟩
theorem Dk.below {W W':World} {B M:Nat} {ids:List Int} {A:Option Addr} {n c:Nat}(h:Dk W B M ids A n c)(hb:Below W.heap.size W W'):Dk W' B M ids A n c :=
 ⟨h.own.below As.local_ As.fixed hb,h.at_,Nat.le_trans h.size hb.size⟩
theorem J8 {w:World} {B M:Nat} {ids:List Int} {A:Option Addr} {n c:Nat} {x:Int}(h:Dk w B M ids A n c)(hBM:B≤M)(hx:okI x)(hn:ids.length+1≤1000000000) :
  ∃v' w',(Builtin.append_ #[28,28] 28 #[.slice A n c,.slice (some ⟨w.heap.size,0,none⟩) 1 1]).run Tryz.prog (w.alloc (.cells #[int i64 x] 2))= .ok v' w'∧∃A' c',v'= .slice A' (n+1) c'∧Dk w' B M (ids ++ [x]) A' (n+1) c'∧Below B w w'∧w.heap.size≤w'.heap.size∧(∀k,k<M→k≠B→w'.heap[k]? =w.heap[k]?):=by
 have hb:Below w.heap.size w (w.alloc (.cells #[int i64 x] 2)):=Aa (Below.refl _ _) _;have h2:=h.below hb;have hB:B≤w.heap.size:=Nat.le_trans hBM h.size;obtain⟨v',w',q1,A',c',rfl,o9,b9,s9,k9,j9⟩:=Ez h2.own hx hn (Nat.le_trans hB hb.size) (Blk.new w _ _);obtain⟨e,-,-⟩:=h.len;rw[← e]at o9 q1 j9;refine⟨_,w',q1,A',c',rfl,⟨o9,fun k hk => ?_,Nat.le_trans h.size (Nat.le_trans hb.size s9)⟩,(hb.mono hB).trans b9,Nat.le_trans hb.size s9,fun k hk hne => ?_⟩
 ·rcases j9 k hk with q|q
  ·exact h.at_ k q
  ·exact .inr (Nat.le_trans h.size (Nat.le_trans hb.size q))
 ·have hk2:k<w.heap.size:=Nat.lt_of_lt_of_le hk h.size;refine(k9 k (Nat.lt_of_lt_of_le hk2 hb.size) fun e => ?_).trans (hb.block k hk2);rcases h.at_ k e with q|q
  ·exact hne q
  ·omega
theorem Hf(d:AH)(hsm:(AN d).length≤1000000)(hsa:d.answers.length≤1000000)(cs:List Value)(f:List Addr)(w:World)(h:Ba w f cs d) :
  Calls Tryz.prog 67 #[.agg cs.toArray] w fun e w' => e= .returned (int i64 (anH (d.next - 1) d))∧Below w.heap.size w w':=by
 dsimp only[Ba]at h;obtain⟨v0,v1,v2,f0,f1,f2,rfl,-,o0,o1,r0,r1,r2⟩:=h;obtain⟨A0,c0,rfl,m0,m0'⟩:=rSl.head r0;obtain⟨A1,c1,rfl,m1,m1'⟩:=rSl.head r1;obtain⟨A2,c2,rfl,m2,m2'⟩:=rSl.head r2;obtain⟨g0,hg0⟩:∃g0,w.heap.size=g0:=⟨_,rfl⟩;obtain⟨u2,hu2⟩:∃u2,((w.alloc (.cells #[.slice A0 d.queues.length c0,.slice A1 d.aside.length c1,.slice A2 d.answers.length c2,int i64 d.turn,int i64 d.next] 36)).alloc (.cells #[] 2))=u2:=⟨_,rfl⟩;have hs2:u2.heap.size=g0+2:=by rw[← hu2,← hg0];simp
 have hb2:Below w.heap.size w u2:=by rw[← hu2];exact Aa (Aa (Below.refl _ _) _) _
 have hK2:Blk u2 g0 36 #[.slice A0 d.queues.length c0,.slice A1 d.aside.length c1,.slice A2 d.answers.length c2,int i64 d.turn,int i64 d.next]:=by rw[← hu2,← hg0];exact(Blk.new w 36 #[.slice A0 d.queues.length c0,.slice A1 d.aside.length c1,.slice A2 d.answers.length c2,int i64 d.turn,int i64 d.next]).alloc _
 have hE2:Blk u2 (g0+1) 2 #[]:=by rw[← hu2,← hg0];exact Blk.new1 w (.cells #[.slice A0 d.queues.length c0,.slice A1 d.aside.length c1,.slice A2 d.answers.length c2,int i64 d.turn,int i64 d.next] 36) 2 #[]
 have hD2:=Do.of (d:=d) hK2 (rSl.below (Am.local_ Ah.local_) (Am.fixed Ah.fixed) r0 hb2) (rSl.below Ah.local_ Ah.fixed r1 hb2) (rSl.below AA.local_ AA.fixed r2 hb2);have HTK:=hid (ES g0 0 d A0 A1 A2 c0 c1 c2 f0 f1 f2 u2 hD2 hsm);have HE:=hid hE2;have HK:=hid hK2;have HB:=hid hb2;have HZ:=hid hs2;have HG:=hid hg0;have HSM:=hid hsm;have HSA:=hid hsa;have R2:=hid r2;obtain⟨n,hn⟩:∃n,(AN d).length =n:=⟨_,rfl⟩;rw[hn]at HTK;have HN:=hid hn;obtain⟨nA,hnA⟩:∃nA,d.answers.length=nA:=⟨_,rfl⟩;have HNA:=hid hnA;obtain⟨r,hr⟩:∃r,anH (d.next - 1) d=r:=⟨_,rfl⟩;rw[hr];have HR:=hid hr;have hz0:g0<u2.heap.size:=by omega
 clear hs2 hb2 hK2 hE2 hD2 hsm hsa hn hnA hr r0 r1 r2 m0 m0' m1 m1' m2 o0 o1;go_enter Tryz.func67,Tryz.ntmps67
 go_wp2_with fail
 refine HTK.out.mono ?_;rintro e w1 ⟨A,c,gs,rfl,ra,mg,b1⟩;have RA:=hid ra;have MG:=hid mg;have B1:=hid b1;have HN0:=hid (show Dk w1 (g0+1) w1.heap.size [] (some ⟨g0+1,0,none⟩) 0 0 from⟨Aj.start ⟨rfl,.inr ⟨g0+1,0,#[],rfl,Nat.le_refl _,HE.out.below b1 HE.out.lt,Nat.le_refl _,by unfold maxLen;omega,rfl,rfl⟩⟩,fun k hk => by injection hk with hk;exact .inl hk.symm,Nat.le_refl _⟩);have HKW:=hid (HK.out.below b1 HK.out.lt);have HBW:=hid (show Below w.heap.size w w1 from HB.out.trans (b1.mono HB.out.size));have HZ1:=hid (show g0+2≤w1.heap.size by have:=b1.size;have:=HZ.out;omega);have HGS:=hid (show∀a,a∈gs→a.block<w1.heap.size∧a.block≠g0+1 from fun a ha =>⟨rSl.there Ah.fixed ra a ha,by have:=mg a ha;have:=HZ.out;omega⟩);clear ra mg b1 hu2 hg0;go_wp2_with fail
 go_loopw [11,3] (fun ix vv wr =>∃(i c':Nat) (A':Option Addr),i≤n∧ix= int i64 i∧vv= .slice A' i c'∧Hid (Dk wr (g0+1) w1.heap.size (((AN d).take i).map An.id) A' i c')∧Hid (Below (g0+1) w1 wr)∧Hid (rSl 4 Ah wr gs (.slice A n c) (AN d))) (fun ix _ _ => n - (intOf ix).toNat)
 case atStart => exact⟨0,0,some ⟨g0+1,0,none⟩,by omega,rfl,rfl,HN0.out,Below.refl _ _,RA.out⟩
 case round =>
  clear HN0;obtain⟨i,c',A',hi,rfl,rfl,HNV,HB2,HRA⟩:=hrel;by_cases hlt:i<n
  ·have hk:i<(AN d).length:=by rw[HN.out];exact hlt
   obtain⟨Ay,cy,ev,hc2,hm2,hx⟩:=rSl.at_ Ah.fixed (by decide) HRA.out;injection ev with ev1 ev2 ev3
   subst ev1 ev3;clear ev2;rw[HN.out]at hc2;obtain⟨ad2,b2,o2,cs2,fk2,rfl,hat⟩:=hx i hk;have hpl:=hat.place;have hbl:=hat.lt;obtain⟨hcs,-,oid,-,onm,-⟩:=hat.reads;subst hcs;have HRG:=hid (TkO.of hat).rng;have hki:(i:Int)<(n:Int):=by omega
   have HST:=hid (show((AN d).take (i+1)).map An.id=((AN d).take i).map An.id ++ [(AN d)[i].id]from by rw[List.take_succ_eq_append_getElem hk,List.map_append];rfl);obtain⟨t,ht⟩:∃t,(AN d)[i] =t:=⟨_,rfl⟩;rw[ht]at HRG HST oid;obtain⟨Z,hZ⟩:∃Z:Array Value,#[int i64 0,int i64 0,.string ⟨#[]⟩,int i64 0] =Z:=⟨_,rfl⟩;have hZs:Z.size=4:=by rw[← hZ];rfl
   have KZ:=Blk.new wr 103 Z;have HTH:=hid (Blk.there KZ 4 (by rw[hZs];exact Nat.le_refl _));obtain⟨w3,hW2⟩:∃w3,(wr.alloc (.cells Z 103)).setCells wr.heap.size 0 [int i64 t.id,int i64 t.kind,.string t.name,int i64 t.group] =w3:=⟨_,rfl⟩;have K3:=hid (show Blk w3 wr.heap.size 103 #[int i64 t.id,int i64 t.kind,.string t.name,int i64 t.group] by rw[← hW2];exact Blk.laid KZ [int i64 t.id,int i64 t.kind,.string t.name,int i64 t.group] (by rw[hZs];rfl));have b3:Below wr.heap.size wr w3:=by rw[← hW2];exact AF (Aa (Below.refl _ _) _) _ 0 (Nat.le_refl _)
   have HW2:=hid hW2;have hz3:=K3.out.lt;have p3:w3.cell? ⟨wr.heap.size,0,none⟩=some (int i64 t.id):=(K3.out.cell 0).trans rfl;have B3:=hid (show Below (g0+1) wr w3 from b3.mono (by have:=HZ1.out;have:=HNV.out.size;omega));have HAP:=hid (J8 (HNV.out.below b3) (by have:=HZ1.out;omega) oid (by rw[List.length_map,List.length_take];have:=HSM.out;omega));have HRA3:=hid (rSl.below Ah.local_ Ah.fixed HRA.out b3);clear hat hx hk ht hW2 KZ hZs b3 oid onm HNV HRA;go_wp2_with (first
    |(refine wpList_load_mid rfl 103 _ rfl b2 o2 rfl _ _ HRG.out Tryz.underlying103 rfl (by kernel_rfl) ?_)
    |(refine wpList_store_mid rfl 103 _ _ rfl wr.heap.size 0 #[int i64 t.id,int i64 t.kind,.string t.name,int i64 t.group] rfl rfl HTH.out (by kernel_rfl) (by simp[Value.oneCell']) ?_;rw[show(wr.alloc (.cells Z 103)).setCells wr.heap.size 0 (#[int i64 t.id,int i64 t.kind,.string t.name,int i64 t.group]:Array Value).toList =w3 from HW2.out])
    |(at_builtin;refine AB rfl (.tmp 15) (.tmp 18) 28 rfl _ _ (by rfl) (by rfl) HAP.out ?_;rintro v9 w9 ⟨A9,c9,rfl,o9,b9,s9,k9⟩;have O9:=hid o9;have B9:=hid b9;have K9:=hid k9;clear o9 b9 s9 k9))
   go_roundw
   case rel => exact⟨i+1,c9,A9,by omega,by go_num,rfl,(show Dk _ _ _ _ _ _ _ from by rw[HST.out];exact O9.out),HB2.out.trans (B3.out.trans B9.out),rSl.keep Ah.local_ HRA3.out (fun a ha => World.cell?_of_block (K9.out a.block (HGS.out a ha).1 (HGS.out a ha).2))⟩
   case measure => simp[intOf];omega
  ·obtain rfl:n=i:=by omega
   have HNV2:=hid (show Dk wr (g0+1) w1.heap.size (DJ d ++(d.answers.take 0).map AO.id) A' n c' from by
    have:=HNV.out;rw[List.take_of_length_le (l:=AN d) (by rw[HN.out];exact Nat.le_refl _)]at this;rw[List.take_zero,List.map_nil,List.append_nil];exact this)
   have k2:wr.cell? ⟨g0,2,none⟩=some (.slice A2 nA c2):=(HB2.out.cell (p:=⟨g0,2,none⟩) (by simp)).trans ((HKW.out.cell 2).trans (by rw[← HNA.out];rfl));have hz4:g0<wr.heap.size:=by have:=HNV2.out.size;have:=HZ1.out;omega
   clear HNV HRA;go_wp2_with fail
   clear k2;go_loopw [24,3] (fun ix vv wr =>∃(i m c':Nat) (A':Option Addr),i≤nA∧ix= int i64 i∧vv= .slice A' m c'∧Hid (Dk wr (g0+1) w1.heap.size (DJ d ++(d.answers.take i).map AO.id) A' m c')∧Hid (Below (g0+1) w1 wr)∧Hid (D4 (d.next - 1) d i)) (fun ix _ _ => nA - (intOf ix).toNat)
   case atStart => exact⟨0,n,c',A',by omega,rfl,rfl,HNV2.out,HB2.out,(show D4 _ d 0 from rfl)⟩
   case round =>
    clear HNV2 HB2;obtain⟨i,m,c',A',hi,rfl,rfl,HNV,HB2,HT⟩:=hrel;have HBR:=hid (show Below w.heap.size w wr from HBW.out.trans (HB2.out.mono (by rw[HG.out];omega)));by_cases hlt:i<nA
    ·have hk:i<d.answers.length:=by rw[HNA.out];exact hlt
     obtain⟨Ax,cx,ev,hc,hm,hx⟩:=rSl.at_ AA.fixed (by decide) (rSl.below AA.local_ AA.fixed R2.out HBR.out);injection ev with ev1 ev2 ev3
     subst ev1 ev3;clear ev2;rw[HNA.out]at hc;obtain⟨ad,b,oo,cs,fk,rfl,hat⟩:=hx i hk;have hpl:=hat.place;have hbl:=hat.lt;have hlen:cs.length=4:=hat.len;have HRG:=hid (show wr.rangeAt b oo cs from fun q v hq => by
      have hq1:q<cs.length:=(List.getElem?_eq_some_iff.1 hq).1;rw[hat.cell q hq1,← hq];exact(List.getElem?_eq_getElem hq1).symm)
     obtain⟨v0,q0,ecs,-,oid,-,-,hrb⟩:=hat.reads;obtain⟨Ab,cb,rfl,hmb,hmb2⟩:=rSl.head hrb;have hki:(i:Int)<(nA:Int):=by omega
     have HBAD:=hid (fun h0 => HR.out.symm.trans (HT.out.bad hk h0));have HSTEP:=hid (fun h0 => HT.out.step hk h0);have HST:=hid (show DJ d ++(d.answers.take (i+1)).map AO.id=(DJ d ++(d.answers.take i).map AO.id) ++ [d.answers[i].id]from by rw[List.take_succ_eq_append_getElem hk,List.map_append,List.append_assoc];rfl);obtain⟨x,hxx⟩:∃x,d.answers[i] =x:=⟨_,rfl⟩;rw[hxx]at ecs HBAD HSTEP hmb oid HST;obtain⟨nb,hnb⟩:∃nb,x.bytes.length=nb:=⟨_,rfl⟩;rw[hnb]at ecs hmb;have HNB:=hid hnb;obtain⟨Z,hZ⟩:∃Z:Array Value,#[int i64 0,int i64 0,int i64 0,.slice none 0 0] =Z:=⟨_,rfl⟩;have hZs:Z.size=4:=by rw[← hZ];rfl
     have KZ:=Blk.new wr 49 Z;have HTH:=hid (Blk.there KZ cs.toArray.size (by rw[show cs.toArray.size=4 from List.size_toArray.trans hlen,hZs];exact Nat.le_refl _));obtain⟨w3,hW2⟩:∃w3,(wr.alloc (.cells Z 49)).setCells wr.heap.size 0 cs.toArray.toList=w3:=⟨_,rfl⟩;have K3:=hid (show Blk w3 wr.heap.size 49 cs.toArray by rw[← hW2];exact Blk.laid KZ _ (by rw[hZs];exact hlen.symm));have b3:Below wr.heap.size wr w3:=by rw[← hW2];exact AF (Aa (Below.refl _ _) _) _ 0 (Nat.le_refl _)
     have HW2:=hid hW2;have HI:=hid (show(Tryz.prog.info? 49).map (·.size)=some cs.length by rw[hlen];kernel_rfl);have HI2:=hid (show(Tryz.prog.info? 49).map (·.size)=some cs.toArray.size by rw[show cs.toArray.size=4 from List.size_toArray.trans hlen];kernel_rfl);have HON:=hid (all_oneCell_toArray (AA.ones _ _ _ _ hat.reads));have X3:=hid (show AnO w3 wr.heap.size 0 x (.slice Ab nb cb)from AnO.ofBlk (by rw[← ecs];exact K3.out));have B3:=hid (show Below (g0+1) w1 w3 from HB2.out.trans (b3.mono (by have:=HZ1.out;have:=HNV.out.size;omega)));have BW3:=hid (HBR.out.trans (b3.mono HBR.out.size));have N3:=hid (HNV.out.below b3);have HCT:=hid (show Calls Tryz.prog 96 #[.slice A' m c',int i64 x.id] w3 (fun e w' => e= .returned (.bool (decide (x.id∈DJ d ++(d.answers.take i).map AO.id)))∧Below w3.heap.size w3 w')from by
      obtain⟨gs,hr,-⟩:=N3.out.own.reads;exact CI _ _ x.id _ w3 hr)
     have hx3:=X3.out.lt;have x0:w3.cell? ⟨wr.heap.size,0,none⟩=some (int i64 x.id):=X3.out.c0;have x1:w3.cell? ⟨wr.heap.size,1,none⟩=some (int i64 x.code):=X3.out.c1;have x2:w3.cell? ⟨wr.heap.size,2,none⟩=some (int i64 x.turn):=X3.out.c2;have x3:w3.cell? ⟨wr.heap.size,3,none⟩=some (.slice Ab nb cb):=X3.out.c3;have d3:w3.cell? ⟨g0,3,none⟩=some (int i64 d.turn):=(B3.out.cell (p:=⟨g0,3,none⟩) (by simp)).trans ((HKW.out.cell 3).trans rfl);have d4:w3.cell? ⟨g0,4,none⟩=some (int i64 d.next):=(B3.out.cell (p:=⟨g0,4,none⟩) (by simp)).trans ((HKW.out.cell 4).trans rfl);have hz3:g0<w3.heap.size:=by have:=N3.out.size;have:=HZ1.out;omega
     have HIC:=hid (fun(W:World) => AX x.code 0 12 W);have HIT:=hid (fun(W:World) => AX x.turn 0 d.turn W);have HRANGE:=hid (show(Al x.id 1 (d.next - 1) && (Al x.code 0 12 && Al x.turn 0 d.turn))=false→r=3 from fun h0 =>(HBAD.out (by rw[FI h0];decide)).trans (FI h0));have HMANY:=hid (show(Al x.id 1 (d.next - 1) && (Al x.code 0 12 && Al x.turn 0 d.turn))=true→36<nb→r=2 from fun h0 h1 => by
      rw[← HNB.out]at h1;exact(HBAD.out (by rw[Gd h0 h1];decide)).trans (Gd h0 h1))
     have HTAKEN:=hid (show(Al x.id 1 (d.next - 1) && (Al x.code 0 12 && Al x.turn 0 d.turn))=true→¬36<nb→x.id∈DJ d ++(d.answers.take i).map AO.id→r=7 from fun h0 h1 h2 => by
      rw[← HNB.out]at h1;have e:=(GI (i:=i) (x:=x) h0 h1).trans (if_pos h2);exact(HBAD.out (by rw[e];decide)).trans e)
     have HGOOD:=hid (show(Al x.id 1 (d.next - 1) && (Al x.code 0 12 && Al x.turn 0 d.turn))=true→¬36<nb→x.id∉DJ d ++(d.answers.take i).map AO.id→D4 (d.next - 1) d (i+1)from fun h0 h1 h2 => by
      rw[← HNB.out]at h1;exact HSTEP.out ((GI (i:=i) (x:=x) h0 h1).trans (if_neg h2)))
     have HSML:=hid (show(DJ d ++(d.answers.take i).map AO.id).length +1≤1000000000 by
      unfold DJ;rw[List.length_append,List.length_map,List.length_map,List.length_take];have:=HSM.out;have:=HSA.out;omega)
     have HOID:=hid oid;clear hat hx hW2 KZ hZs ecs hxx hnb hrb hk b3 oid hmb2 HBAD HSTEP HNV;by_cases j1:x.id<1
     ·obtain rfl:r=3:=HRANGE.out (by rw[Hj j1];rfl);go_wp2_with (first
       |(refine wpList_load_mid rfl 49 _ rfl b oo rfl cs _ HRG.out Tryz.underlying49 rfl HI.out ?_)
       |(refine wpList_store_mid rfl 49 _ _ rfl wr.heap.size 0 cs.toArray rfl rfl HTH.out HI2.out HON.out ?_;rw[HW2.out])
       |(go_at_call_has 61 x.code;refine(HIC.out _).mono ?_;rintro e w' ⟨rfl,rfl⟩)
       |(go_at_call_has 61 x.turn;refine(HIT.out _).mono ?_;rintro e w' ⟨rfl,rfl⟩))
      go_ret
      exact⟨rfl,BW3.out⟩
     by_cases j2:d.next≤x.id
     ·obtain rfl:r=3:=HRANGE.out (by rw[F5 (show d.next - 1<x.id by omega)];rfl);have j2d:decide (d.next≤x.id)=true:=decide_eq_true j2;go_wp2_with (first
       |(refine wpList_load_mid rfl 49 _ rfl b oo rfl cs _ HRG.out Tryz.underlying49 rfl HI.out ?_)
       |(refine wpList_store_mid rfl 49 _ _ rfl wr.heap.size 0 cs.toArray rfl rfl HTH.out HI2.out HON.out ?_;rw[HW2.out])
       |(go_at_call_has 61 x.code;refine(HIC.out _).mono ?_;rintro e w' ⟨rfl,rfl⟩)
       |(go_at_call_has 61 x.turn;refine(HIT.out _).mono ?_;rintro e w' ⟨rfl,rfl⟩))
      go_ret
      exact⟨rfl,BW3.out⟩
     have HJ:=hid (show Al x.id 1 (d.next - 1)=true from FV (by omega) (by omega));have j1n:¬x.id<1:=j1;have j2n:x.id<d.next:=by omega
     rw[HJ.out,Bool.true_and]at HRANGE HMANY HTAKEN HGOOD;clear j1 j2;obtain⟨i2,hi2e⟩:∃i2,Al x.code 0 12=i2:=⟨_,rfl⟩;obtain⟨i3,hi3e⟩:∃i3,Al x.turn 0 d.turn=i3:=⟨_,rfl⟩;rw[hi2e]at HIC HRANGE HMANY HTAKEN HGOOD;rw[hi3e]at HIT HRANGE HMANY HTAKEN HGOOD;clear hi2e hi3e;cases i2 with
     |false =>
      obtain rfl:r=3:=HRANGE.out rfl;go_wp2_with (first
       |(refine wpList_load_mid rfl 49 _ rfl b oo rfl cs _ HRG.out Tryz.underlying49 rfl HI.out ?_)
       |(refine wpList_store_mid rfl 49 _ _ rfl wr.heap.size 0 cs.toArray rfl rfl HTH.out HI2.out HON.out ?_;rw[HW2.out])
       |(go_at_call_has 61 x.code;refine(HIC.out _).mono ?_;rintro e w' ⟨rfl,rfl⟩)
       |(go_at_call_has 61 x.turn;refine(HIT.out _).mono ?_;rintro e w' ⟨rfl,rfl⟩))
      go_ret
      exact⟨rfl,BW3.out⟩
     |true =>
      cases i3 with
      |false =>
       obtain rfl:r=3:=HRANGE.out rfl;go_wp2_with (first
        |(refine wpList_load_mid rfl 49 _ rfl b oo rfl cs _ HRG.out Tryz.underlying49 rfl HI.out ?_)
        |(refine wpList_store_mid rfl 49 _ _ rfl wr.heap.size 0 cs.toArray rfl rfl HTH.out HI2.out HON.out ?_;rw[HW2.out])
        |(go_at_call_has 61 x.code;refine(HIC.out _).mono ?_;rintro e w' ⟨rfl,rfl⟩)
        |(go_at_call_has 61 x.turn;refine(HIT.out _).mono ?_;rintro e w' ⟨rfl,rfl⟩))
       go_ret
       exact⟨rfl,BW3.out⟩
      |true =>
       by_cases q36:36<nb
       ·obtain rfl:r=2:=HMANY.out rfl q36;have q36i:(36:Int)<(nb:Int):=by omega
        go_wp2_with (first
         |(refine wpList_load_mid rfl 49 _ rfl b oo rfl cs _ HRG.out Tryz.underlying49 rfl HI.out ?_)
         |(refine wpList_store_mid rfl 49 _ _ rfl wr.heap.size 0 cs.toArray rfl rfl HTH.out HI2.out HON.out ?_;rw[HW2.out])
         |(go_at_call_has 61 x.code;refine(HIC.out _).mono ?_;rintro e w' ⟨rfl,rfl⟩)
         |(go_at_call_has 61 x.turn;refine(HIT.out _).mono ?_;rintro e w' ⟨rfl,rfl⟩))
        go_ret
        exact⟨rfl,BW3.out⟩
       have q36i:¬(36:Int)<(nb:Int):=by omega
       obtain⟨mb,hmb3⟩:∃mb,decide (x.id∈DJ d ++(d.answers.take i).map AO.id)=mb:=⟨_,rfl⟩;rw[hmb3]at HCT;cases mb with
       |true =>
        obtain rfl:r=7:=HTAKEN.out rfl q36 (of_decide_eq_true hmb3);clear hmb3 q36;go_wp2_with (first
         |(refine wpList_load_mid rfl 49 _ rfl b oo rfl cs _ HRG.out Tryz.underlying49 rfl HI.out ?_)
         |(refine wpList_store_mid rfl 49 _ _ rfl wr.heap.size 0 cs.toArray rfl rfl HTH.out HI2.out HON.out ?_;rw[HW2.out])
         |(go_at_call_has 61 x.code;refine(HIC.out _).mono ?_;rintro e w' ⟨rfl,rfl⟩)
         |(go_at_call_has 61 x.turn;refine(HIT.out _).mono ?_;rintro e w' ⟨rfl,rfl⟩)
         |(go_at_call 96;refine HCT.out.mono ?_;rintro e w4 ⟨rfl,b4⟩;have BC:=hid (BW3.out.trans (b4.mono BW3.out.size));have y0:=(b4.cell (p:=⟨wr.heap.size,0,none⟩) hx3).trans x0;have y1:=Nat.lt_of_lt_of_le hx3 b4.size;clear b4))
        go_ret
        exact⟨rfl,BC.out⟩
       |false =>
        have HT9:=hid (HGOOD.out rfl q36 (of_decide_eq_false hmb3));clear hmb3 q36;go_wp2_with (first
         |(refine wpList_load_mid rfl 49 _ rfl b oo rfl cs _ HRG.out Tryz.underlying49 rfl HI.out ?_)
         |(refine wpList_store_mid rfl 49 _ _ rfl wr.heap.size 0 cs.toArray rfl rfl HTH.out HI2.out HON.out ?_;rw[HW2.out])
         |(go_at_call_has 61 x.code;refine(HIC.out _).mono ?_;rintro e w' ⟨rfl,rfl⟩)
         |(go_at_call_has 61 x.turn;refine(HIT.out _).mono ?_;rintro e w' ⟨rfl,rfl⟩)
         |(go_at_call 96;refine HCT.out.mono ?_;rintro e w4 ⟨rfl,b4⟩;have BC:=hid (BW3.out.trans (b4.mono BW3.out.size));have y0:=(b4.cell (p:=⟨wr.heap.size,0,none⟩) hx3).trans x0;have y1:=Nat.lt_of_lt_of_le hx3 b4.size;have HAP:=hid (J8 (N3.out.below b4) (by have:=HZ1.out;omega) HOID.out HSML.out);have BL4:=hid (show Below (g0+1) w1 w4 from B3.out.trans (b4.mono (by omega)));clear b4)
         |(at_builtin;refine AB rfl (.tmp 63) (.tmp 66) 28 rfl _ _ (by rfl) (by rfl) HAP.out ?_;rintro v9 w9 ⟨A9,c9,rfl,o9,b9,s9,k9⟩;have O9:=hid o9;have B9:=hid (BL4.out.trans b9);clear o9 b9 s9 k9))
        go_roundw
        case rel => exact⟨i+1,m+1,c9,A9,by omega,by go_num,rfl,(show Dk _ _ _ _ _ _ _ from by rw[HST.out];exact O9.out),B9.out,HT9.out⟩
        case measure => simp[intOf];omega
    ·obtain rfl:nA=i:=by omega
     have e0:r=0:=HR.out.symm.trans (HT.out.all (by rw[HNA.out];exact Nat.le_refl _));subst e0;go_wp2_with fail
     go_ret
     exact⟨rfl,HBR.out⟩
end Go.Proofs.YthbljikbnoghcaaGreat
