/-
  Part 10 of the proof; the last part states and proves the statement.
-/
import Derived.Test.YtfjkoifpdoemdaaGreatK09
import Derived.Deep.RegionHeld3
import Derived.Test.YtfjkoifpdoemdaaGreatK00
set_option maxHeartbeats 8000000
set_option maxRecDepth 100000
set_option linter.unusedVariables false
set_option linter.unusedSimpArgs false
open Go.Value (int)
open Go.IntKind (i64)
namespace Go.Proofs.YtfjkoifpdoemdaaGreat
open Go.RowKit Go.Lib Go.Sort
theorem Mp(d1 d2:Ag)(cs1 cs2:List Value)(f1 f2:List Addr)(w:World)(h1:Ac w f1 cs1 d1)(h2:Ac w f2 cs2 d2) :
  Calls Tryz.prog 87 #[.agg cs1.toArray,.agg cs2.toArray] w fun e w' => e= .returned (.bool (AZ d1 d2))∧Below w.heap.size w w':=by
 obtain⟨x0,x1,x2,x3,x4,x5,x6,x7,x8⟩:=d1;obtain⟨y0,y1,y2,y3,y4,y5,y6,y7,y8⟩:=d2;dsimp only[Ac]at h1 h2;obtain⟨av0,av1,av2,af0,af1,af2,e,-⟩:=h1;subst e;obtain⟨bv0,bv1,bv2,bf0,bf1,bf2,e,-⟩:=h2;subst e;have BB:=hid (show∀o1 o2:Obj,Below w.heap.size w ((w.alloc o1).alloc o2)from fun o1 o2 =>((Below.refl _ _).alloc (Nat.le_refl _) _).alloc (by simp) _);obtain⟨rb,hrb⟩:∃rb,AZ ⟨x0,x1,x2,x3,x4,x5,x6,x7,x8⟩ ⟨y0,y1,y2,y3,y4,y5,y6,y7,y8⟩=rb:=⟨_,rfl⟩;rw[hrb];unfold AZ at hrb;simp only at hrb;by_cases q:x1=y1
 ·subst q;by_cases q:x0=y0
  ·subst q;have e1:rb=decide (x4<y4):=by rw[← hrb];simp
   subst e1;clear hrb;go_enter Tryz.func87,Tryz.ntmps87
   go_wp2_with fail
   go_ret
   exact⟨rfl,BB.out _ _⟩
  ·have e1:rb=decide (x0<y0):=by rw[← hrb];simp[q]
   subst e1;have hq:(x0 != y0)=true:=bne_iff_ne.2 q;clear hrb q;go_enter Tryz.func87,Tryz.ntmps87
   go_wp2_with fail
   go_ret
   exact⟨rfl,BB.out _ _⟩
 ·have e1:rb=decide (x1<y1):=by rw[← hrb];simp[q]
  subst e1;have hq:(x1 != y1)=true:=bne_iff_ne.2 q;clear hrb q;go_enter Tryz.func87,Tryz.ntmps87
  go_wp2_with fail
  go_ret
  exact⟨rfl,BB.out _ _⟩
theorem Iv(cs:List Value):∀(rest done:List Value) (base:Array Value),cs=done ++ rest→base.size=cs.length→base.toList.take done.length=done→List.foldl (fun(a:Array Value) (x:Value × Nat) => a.setIfInBounds x.snd x.fst) base (rest.zipIdx done.length)=cs.toArray
 | [],done,base,h1,h2,h3 => by
  simp at h1;subst h1;simp only[List.zipIdx_nil,List.foldl_nil];have e:base.toList=cs:=by
   rw[← h3];exact(List.take_of_length_le (by simp[h2])).symm
  rw[← e]
 |v :: rest,done,base,h1,h2,h3 => by
  simp only[List.zipIdx_cons,List.foldl_cons];have:=Iv cs rest (done ++ [v]) (base.setIfInBounds done.length v) (by rw[h1];simp) (by simpa using h2) (by
   have hl:done.length<base.size:=by rw[h2,h1];simp
   rw[List.length_append,Array.toList_setIfInBounds];simp only[List.length_cons,List.length_nil,Nat.zero_add];rw[List.take_set,List.take_succ_eq_append_getElem (by simpa using hl),h3];simp)
  rw[List.length_append]at this;exact this
theorem Blk.ofFold {W:World} {g:Nat} {t:TypeId} {cs:List Value} {base:Array Value}(h:Blk W g t (List.foldl (fun(a:Array Value) (x:Value × Nat) => a.setIfInBounds x.snd x.fst) base cs.zipIdx))(hb:base.size=cs.length):Blk W g t cs.toArray:=by
 have:=Iv cs cs [] base rfl hb rfl;rwa [show cs.zipIdx=cs.zipIdx [].length from rfl,this]at h
section
variable {w4 W:World}
theorem Gi {A3:Option Addr} {c3 at_:Nat} {D:List Ag} {q1:List Addr} {b:Nat}(hD:D.length≤2000000)(hL:rSl 9 Ac w4 q1 (.slice A3 at_ c3) (D.take at_))(hW:Below w4.heap.size w4 W)(hb:Blk W b 119 #[])(hle:w4.heap.size≤b) :
  ∃v' w',(Builtin.append_ #[80,80] 80 #[.slice (some ⟨b,0,none⟩) 0 0,.slice A3 at_ c3]).run Tryz.prog W= .ok v' w'∧DX 9 119 Ac w4.heap.size W (some b) (D.take at_) [] q1 v' w':=by
 have ht:=rSl.there Ac.fixed hL;have:=Ao.appendRun (P:=Tryz.prog) 80 80 _ 128 Tryz.underlying80 Tryz.infoRec rfl (by decide) Ac.local_ Ac.fixed Ac.ones w4.heap.size (.slice (some ⟨b,0,none⟩) 0 0) [] [] (Ao.start ⟨rfl,.inr ⟨b,0,#[],rfl,hle,hb,Nat.le_refl _,by unfold maxLen;omega,rfl,rfl⟩⟩) _ (D.take at_) q1 (rSl.below Ac.local_ Ac.fixed hL hW) (fun a ha e => by
  simp[Value.ownBlock]at e;have:=ht a ha;omega) (by simp;omega) (by omega) hW.size
 exact this
theorem Gj {v:Value} {D:List Ag} {h1 f4:List Addr} {b:Nat} {cs:List Value} {r:Ag}(hD:D.length≤2000000)(hr:Ac w4 f4 cs r)(hW:Below w4.heap.size w4 W)(ho:Ao 9 119 Ac W w4.heap.size v D h1)(hb:Blk W b 119 cs.toArray) :
  ∃v' w',(Builtin.append_ #[80,80] 80 #[v,.slice (some ⟨b,0,none⟩) 1 1]).run Tryz.prog W= .ok v' w'∧DX 9 119 Ac w4.heap.size W v.ownBlock (D ++ [r]) h1 f4 v' w':=by
 have ht:=Ac.fixed _ _ _ _ hr;exact Ao.appendOne (P:=Tryz.prog) 80 80 _ 128 Tryz.underlying80 Tryz.infoRec rfl (by decide) Ac.local_ Ac.fixed Ac.ones w4.heap.size v D h1 ho b cs f4 r (Ac.wide _ _ _ _ hr) hb (Ap.below Ac.local_ Ac.fixed hr hW) (fun a ha e => by
  have:=(ho.lt _ e).1;have:=ht a ha;omega) (by omega) (by omega) hW.size
theorem Gk {u v:Value} {D D2:List Ag} {h1 q2:List Addr}(hD:D.length+D2.length≤2000000)(hR:rSl 9 Ac w4 q2 u D2)(hW:Below w4.heap.size w4 W)(ho:Ao 9 119 Ac W w4.heap.size v D h1) :
  ∃v' w',(Builtin.append_ #[80,80] 80 #[v,u]).run Tryz.prog W= .ok v' w'∧DX 9 119 Ac w4.heap.size W v.ownBlock (D ++ D2) h1 q2 v' w':=by
 have ht:=rSl.there Ac.fixed hR;exact Ao.appendRun (P:=Tryz.prog) 80 80 _ 128 Tryz.underlying80 Tryz.infoRec rfl (by decide) Ac.local_ Ac.fixed Ac.ones w4.heap.size v D h1 ho u D2 q2 (rSl.below Ac.local_ Ac.fixed hR hW) (fun a ha e => by
  have:=(ho.lt _ e).1;have:=ht a ha;omega) (by omega) (by omega) hW.size
end
theorem G7:∀l:List Ag,(Br l).length =(Cm l).length:=fun l => by
 obtain⟨S,e1,e2,-⟩:=EN _ l rfl;rw[← e1,List.length_map,e2.length_eq,List.length_zipIdx]
theorem rSl.bounds {α:Type} {k:Nat} {R:Ap α} {w:World} {fs:List Addr} {A:Option Addr} {n c:Nat} {ds:List α}(h:rSl k R w fs (.slice A n c) ds):n=ds.length∧n≤c∧c≤9223372036854775807:=by
 obtain⟨A',c',e,h1,h2⟩:=rSl.head h;injection e with e1 e2 e3
 subst e2 e3;exact⟨rfl,h1,h2⟩
theorem J8(k:Nat)(hk9:k=9)(zR:∀w,(Go.sizeOf 119).run Tryz.prog w= .ok k w)(aR:∀w,(isAgg 119).run Tryz.prog w= .ok true w)(p:Nat)(fs:List Addr)(d:AC)(w:World)(h:AtW w p fs d)(h2:d.v.length=2)(hsm:(CJ d).length≤1000000) :
  Calls Tryz.prog 36 #[.pointer (some ⟨p,0,none⟩)] w fun e w' =>∃A c fs',e= .returned (.slice A (AV d).length c)∧rSl 9 Ac w' fs' (.slice A (AV d).length c) (AV d)∧Below w.heap.size w w':=by
 have HK9:=hid hk9;clear hk9;obtain⟨A0,A1,A2,c0,c1,c2,f0,f1,f2,HCs⟩:=h.cells;obtain⟨A2',c2',e,hc,hm,hx⟩:=rSl.at_ As.fixed (by omega) HCs.rtp;injection e with e1 _ e3
 subst e1 e3;have HX:=hid hx;have n11:=HCs.tp;have hp:=HCs.lt;have HT:=hid (rSl.there As.fixed HCs.rtp);have H2:=hid h2;have hlt2:d.v.length≤2:=by omega
 have hge2:2≤d.v.length:=by omega
 clear hx HCs h h2;go_enter Tryz.func36,Tryz.ntmps36
 go_wp2_with fail
 obtain⟨g0,hg0⟩:∃g0,w.heap.size=g0:=⟨_,rfl⟩;have HG:=hid hg0;have start:Hid (∃fo,rSl 9 Ac (w.alloc (.cells #[] 119)) fo (.slice (some ⟨g0,0,none⟩) 0 0) (Br [])):=⟨[],some ⟨g0,0,none⟩,0,rfl,Nat.le_refl _,by omega,.inl ⟨rfl,rfl⟩⟩;have hb0:Hid (Below g0 w (w.alloc (.cells #[] 119))):=(Below.refl g0 w).alloc (by omega) _;rw[hg0];rw[hg0]at hp;clear hg0;go_loopw [4,3] (fun i v wr =>∃(j n c:Nat) (A:Option Addr),j≤d.v.length∧i= int i64 j∧v= .slice A n c∧Hid (n=(Br ((d.v.take j).flatMap AS.recs)).length)∧Hid (∃fo,rSl 9 Ac wr fo (.slice A n c) (Br ((d.v.take j).flatMap AS.recs)))∧Hid (Below g0 w wr)) (fun i _ _ => d.v.length - (intOf i).toNat)
 case atStart => exact⟨0,0,0,some ⟨g0,0,none⟩,by omega,rfl,rfl,rfl,start.out,hb0.out⟩
 case round =>
  clear start hb0;obtain⟨j,n,c,A,hj,rfl,rfl,HN,HO,HB⟩:=hrel;by_cases hlt:j<d.v.length
  ·have hj2:(j:Int)<2:=by omega
   obtain⟨ad,b,o,cs,fk,rfl,hat⟩:=HX.out j hlt;have hat2:=hat.below As.local_ (show Below w.heap.size w wr by rw[HG.out];exact HB.out);obtain⟨v0,ft,e,rfl,hrecs⟩:=hat.reads;subst e;obtain⟨A3,c3,e,hc3,hm3,hy⟩:=rSl.at_ Ac.fixed (by omega) hrecs;subst e;have HY:=hid hy;have hpl:=hat.place;have t1w:w.cell? ⟨b,o+1,none⟩=some (.slice A3 d.v[j].recs.length c3):=hat.cell 1 (by simp);have hblw:b<g0:=by rw[← HG.out];exact hat.lt
   have HL:=hid (show((d.v.take j).flatMap AS.recs).length +d.v[j].recs.length≤1000000 by
    have:CJ d=(d.v.take (j+1)).flatMap AS.recs ++(d.v.drop (j+1)).flatMap AS.recs:=by
     rw[← List.flatMap_append,List.take_append_drop];rfl
    have h2:=hsm;rw[this,List.take_succ_eq_append_getElem hlt,List.flatMap_append]at h2;simp at h2;simp;omega)
   clear hat hat2 hrecs hy;go_wp2_with fail
   obtain⟨Dj,hDj⟩:∃Dj,(d.v.take j).flatMap AS.recs=Dj:=⟨_,rfl⟩;obtain⟨rs,hrs⟩:∃rs,d.v[j].recs =rs:=⟨_,rfl⟩;rw[hDj]at HN HO HL;rw[hrs]at HY HL t1w;have HDJ:=hid hDj;have HRS:=hid hrs;have hrl:rs.length≤1000000:=by have:=HL.out;omega
   clear hDj hrs;go_loopw [5,3,6,7] (fun i v _ _ wr =>∃(i' n c:Nat) (A:Option Addr),i'≤rs.length∧i= int i64 i'∧v= .slice A n c∧Hid (n=(Br (Dj ++ rs.take i')).length)∧Hid (∃fo,rSl 9 Ac wr fo (.slice A n c) (Br (Dj ++ rs.take i')))∧Hid (Below g0 w wr)) (fun i _ _ _ _ => rs.length - (intOf i).toNat)
   case atStart => exact⟨0,n,c,A,by omega,rfl,rfl,(show _=_ by simpa using HN.out),(show∃_,_ by simpa using HO.out),HB.out⟩
   case round =>
    clear HO HN HB;obtain⟨i,n,c,A,hi,rfl,rfl,HN,HO,HB⟩:=hrel;have n11':=(HB.out.cell (p:=⟨p,11,none⟩) hp).trans n11;have t1:=(HB.out.cell (p:=⟨b,o+1,none⟩) hblw).trans t1w;have hbw:=HB.out.size;have hbl1:b<wr.heap.size:=by have:=HG.out;omega
    by_cases hlti:i<rs.length
    ·obtain⟨ad3,b3,o3,cs3,f3,rfl,hat⟩:=HY.out i hlti;have hat2:=hat.below Ac.local_ (show Below w.heap.size w wr by rw[HG.out];exact HB.out);have hpl3:ad3.add (i * k)=⟨b3,o3,none⟩:=by rw[HK9.out];exact hat.place
     have hbl3:=hat2.lt;have hlen:cs3.length=9:=hat2.len;have HR:=hid (show wr.rangeAt b3 o3 cs3 from fun q v hq => by
      have hq1:q<cs3.length:=(List.getElem?_eq_some_iff.1 hq).1;rw[hat2.cell q hq1,← hq];exact(List.getElem?_eq_getElem hq1).symm)
     have HI:=hid (show(Tryz.prog.info? 119).map (·.size)=some cs3.length by rw[hlen];kernel_rfl);have HI2:=hid (show(Tryz.prog.info? 119).map (·.size)=some cs3.toArray.size by rw[List.size_toArray,hlen];kernel_rfl);have HON:=hid (all_oneCell_toArray (Ac.ones _ _ _ _ hat2.reads));have HRD:=hid hat2.reads;obtain⟨Z,hZ⟩:∃Z:Array Value,#[int i64 0,int i64 0,.string ⟨#[]⟩,int i64 0,int i64 0,int i64 0,.slice none 0 0,.slice none 0 0,.slice none 0 0] =Z:=⟨_,rfl⟩;have hZs:Z.size=9:=by rw[← hZ];rfl
     have KZ:=Blk.new wr 119 Z;have HTH:=hid (Blk.there KZ cs3.toArray.size (by rw[List.size_toArray,hlen,hZs];exact Nat.le_refl _));obtain⟨W2,hW2⟩:∃W2,(wr.alloc (.cells Z 119)).setCells wr.heap.size 0 cs3.toArray.toList=W2:=⟨_,rfl⟩;obtain⟨g6,hg6⟩:∃g6,wr.heap.size=g6:=⟨_,rfl⟩;have K2:=hid (show Blk W2 wr.heap.size 119 cs3.toArray by rw[← hW2];exact Blk.laid KZ _ (by rw[hZs];exact hlen.symm));have B2:=hid (show Below wr.heap.size wr W2 by rw[← hW2];exact Aw (Ah (Below.refl _ _) _) _ 0 (Nat.le_refl _));have HW2:=hid hW2;have HG6:=hid hg6;obtain⟨fo,ho⟩:=HO.out;have HO2:=hid (rSl.below Ac.local_ Ac.fixed ho B2.out);have HRD2:=hid (Ap.below Ac.local_ Ac.fixed HRD.out B2.out);have HR2:=hid (Blk.rangeAll K2.out);have HB2:=hid (HB.out.trans (B2.out.mono (by rw[← HG.out];exact HB.out.size)));have HC:=hid (Mq (.slice A n c) (Br (Dj ++ rs.take i)) cs3 rs[i] fo f3 W2 HO2.out HRD2.out);clear hat hat2 hW2 KZ ho hg6;have hst:Br (Dj ++ rs.take (i+1))=Gn (Br (Dj ++ rs.take i)) rs[i]:=by
      rw[List.take_succ_eq_append_getElem hlti,← List.append_assoc,E7]
     unfold Gn Fz at hst;obtain⟨bh,hbh⟩:∃bh,(Br (Dj ++ rs.take i)).any (fun x => decide (x=rs[i]))=bh:=⟨_,rfl⟩;rw[hbh]at HC hst;have HST:=hid hst;have HLEN:=hid hlen;clear hbh hst hlen hZs;cases bh with
     |true =>
      go_wp2_with (first
       |(refine wpList_load_mid rfl 119 (.tmp 35) rfl b3 o3 rfl cs3 _ HR.out Tryz.underlying119 rfl HI.out ?_)
       |(refine wpList_store_mid rfl 119 (.tmp 6) (.tmp 36) rfl wr.heap.size 0 cs3.toArray rfl rfl HTH.out HI2.out HON.out ?_;rw[HW2.out])
       |(refine wpList_load_mid rfl 119 (.tmp 6) rfl wr.heap.size 0 rfl cs3 _ HR2.out Tryz.underlying119 rfl HI.out ?_)
       |(go_at_call 86;refine HC.out.mono ?_;rintro e w3 ⟨rfl,hb3⟩;have B3:=hid hb3;clear hb3))
      go_roundw
      case rel =>
       have hs:=HST.out;simp only[if_true]at hs;exact⟨i+1,n,c,A,by omega,by go_num,rfl,(show _=_ by rw[hs];exact HN.out),(show∃_,_ by rw[hs];exact⟨_,rSl.below Ac.local_ Ac.fixed HO2.out B3.out⟩),HB2.out.trans (B3.out.mono (by rw[← HG.out];exact HB2.out.size))⟩
      case measure => simp[intOf];omega
     |false =>
      have hs:=HST.out;simp only[Bool.false_eq_true,if_false]at hs;have HS:=hid hs;clear hs HST;have hLn:(Br (Dj ++ rs.take i)).length≤1000000:=by
       have h1:=EB _ (Dj ++ rs.take i) rfl;have h3:=HL.out;rw[List.length_append,List.length_take]at h1;rw[G7];omega
      obtain⟨L,hL⟩:∃L,Br (Dj ++ rs.take i)=L:=⟨_,rfl⟩;rw[hL]at HN HO2 HS hLn;obtain⟨r,hr⟩:∃r,rs[i] =r:=⟨_,rfl⟩;rw[hr]at HRD HRD2 HS;clear hL hr HO;have HSR:=hid HS.out;clear HS;go_wp2_with (first
       |(refine wpList_load_mid rfl 119 (.tmp 35) rfl b3 o3 rfl cs3 _ HR.out Tryz.underlying119 rfl HI.out ?_)
       |(refine wpList_store_mid rfl 119 (.tmp 6) (.tmp 36) rfl wr.heap.size 0 cs3.toArray rfl rfl HTH.out HI2.out HON.out ?_;rw[HW2.out])
       |(refine wpList_load_mid rfl 119 (.tmp 6) rfl wr.heap.size 0 rfl cs3 _ HR2.out Tryz.underlying119 rfl HI.out ?_)
       |(go_at_call 86;refine HC.out.mono ?_;rintro e w3 ⟨rfl,hb3⟩;have B3:=hid hb3;clear hb3))
      have hn:n=L.length:=HN.out;have hn1:n≤1000000:=by omega
      have K3:=hid (K2.out.below B3.out K2.out.lt);have HB3:=hid (HB2.out.trans (B3.out.mono (by rw[← HG.out];exact HB2.out.size)));have HO3:=hid (rSl.below Ac.local_ Ac.fixed HO2.out B3.out);have HRD3:=hid (Ap.below Ac.local_ Ac.fixed HRD2.out B3.out);have HNL:=hid hn;clear hn HO2 HRD2 HRD HB2 B3 HR2 K2
      -- THE PLACE
      obtain⟨g6,hg6⟩:∃g6,wr.heap.size=g6:=⟨_,rfl⟩;rw[hg6]at K3⊢;clear hg6;obtain⟨A',c',e,hcA,hmA,hz⟩:=rSl.at_ Ac.fixed (by omega) HO3.out;injection e with e1 e2 e3
      subst e1 e3;clear e2;have HZ:=hid hz;clear hz;go_loopw [7] (fun v wr =>∃a:Nat,a≤n∧v= int i64 a∧Hid (∀q,(hq:q<L.length)→a≤q→AZ r L[q] =true)∧Hid (Below w3.heap.size w3 wr)) (fun v _ =>(intOf v).toNat)
      case atStart => exact⟨n,Nat.le_refl _,rfl,(fun q hq h => by have:=HNL.out;omega),Below.refl _ _⟩
      case round =>
       obtain⟨a,hana,rfl,HA1,HBW⟩:=hrel;have HAL:=hid (show a≤L.length by have:=HNL.out;omega);by_cases ha0:a=0
       ·have hz0:¬(0:Int)<(a:Int):=by omega
        have hd0:decide ((0:Int)<(a:Int))=false:=decide_eq_false hz0;have hn0:¬0<a:=by omega
        have hd1:decide (0<a)=false:=decide_eq_false hn0;have HA2:=hid (show a=0∨∃(hk1:a - 1<L.length),AZ r L[a - 1] =false from .inl ha0);clear ha0;go_wp2_with fail
        go_quiet (fail)
        have HBW:=hid (BK HBW.out nq);clear hz0 hd0 hd1 hn0;obtain⟨w4,hw4⟩:∃w4,wr.drewN nq=w4:=⟨_,rfl⟩;rw[hw4]at HBW⊢;clear hw4;obtain⟨ad0,had0⟩:∃x:Nat,x=0:=⟨_,rfl⟩;clear had0 ad0;have HIN:=hid (Ih HAL.out HA1.out HA2.out);have hlk:cs3.length=k:=by rw[HK9.out];exact HLEN.out
        have hk1:¬16777216<k:=by rw[HK9.out];omega
        have hk2:¬k=0:=by rw[HK9.out];omega
        have HO4:=hid (rSl.below Ac.local_ Ac.fixed HO3.out HBW.out);have K4:=hid (K3.out.below HBW.out K3.out.lt);have HRD4:=hid (Ap.below Ac.local_ Ac.fixed HRD3.out HBW.out);have HB4:=hid (HB3.out.trans (HBW.out.mono (by rw[← HG.out];exact HB3.out.size)));obtain⟨-,hq1,hq2⟩:=rSl.bounds HO4.out;obtain⟨q1,q2,hl,hr,-⟩:=rSl.split HO4.out HAL.out;rw[show(fun x:Addr => x.add (a * 9))=fun x => x.add (a * k) by rw[HK9.out]]at hr;have HLl:=hid hl;have HRr:=hid hr;clear hl hr;have hle:=HAL.out;have han:a≤n:=by have:=HNL.out;omega
        have hP1:(0:Int)≤(a:Int):=by omega
        have hP2:(a:Int)≤(n:Int):=by omega
        have hP3:(a:Int)≤(c:Int):=by omega
        have hP4:a≤c:=by omega
        have HLT:=hid (show(L.take a ++ [r]).length +(L.drop a).length≤2000000 by rw[List.length_append,List.length_take,List.length_drop];simp;omega);have HLT2:=hid (show(L.take a).length≤2000000 by rw[List.length_take];omega);have HKS:=hid (show∀W,Below w4.heap.size w4 W→(Sem.run Tryz.prog (loadCellsFrom ⟨g6,0,none⟩ 0 k #[]) W= .ok cs3.toArray W∧Below w4.heap.size w4 W)from fun W hW =>⟨DL (K4.out.below hW K4.out.lt) hlk,hW⟩);have HD1:=hid (fun(W:World) (b:Nat) (hW:Below w4.heap.size w4 W) (hb:Blk W b 119 #[]) (hle:w4.heap.size≤b) => Gi (by omega) HLl.out hW hb hle);have HD2:=hid (fun(W:World) (v:Value) (h1:List Addr) (b:Nat) (hW:Below w4.heap.size w4 W) (ho:Ao 9 119 Ac W w4.heap.size v (L.take a) h1) (hb:Blk W b 119 cs3.toArray) => Gj HLT2.out HRD4.out hW ho hb);have HD3:=hid (fun(W:World) (v:Value) (h1:List Addr) (hW:Below w4.heap.size w4 W) (ho:Ao 9 119 Ac W w4.heap.size v (L.take a ++ [r]) h1) => Gk HLT.out HRr.out hW ho);clear hle HLl HRr HO4 HRD4;go_wp2_with fail
        go_region_held3 (fun w' => Sem.run Tryz.prog (loadCellsFrom ⟨g6,0,none⟩ 0 k #[]) w'= .ok cs3.toArray w'∧Below w4.heap.size w4 w') (exact HKS.out _ (by repeat(with_reducible first|assumption|exact Below.refl _ _|apply Ah|apply AL)))
         (first
          |(refine Bf rfl (.tmp 55) (.tmp 58) 80 rfl _ _ (by rfl) (by rfl) (HD1.out _ _ (by repeat(with_reducible first|assumption|exact Below.refl _ _|apply Ah|apply AL)) (by repeat(with_reducible first|exact Blk.new _ _ _|exact Blk.new1 _ _ _ _|apply Blk.drew_|apply Blk.alloc)) (by simp)) ?_;rintro v7 w7 ⟨h1,o1,s1,r1,-⟩;have B7:=Below.grown (show Below w4.heap.size w4 _ by repeat(with_reducible first|assumption|exact Below.refl _ _|apply Ah|apply AL)) r1 (by simp <;> omega) (fun k hk => by injection hk with hk;omega))
          |(refine Bf rfl (.tmp 59) (.tmp 61) 80 rfl _ _ (by rfl) (by rfl) (HD2.out _ v7 ([] ++ h1) _ (by repeat(with_reducible first|assumption|exact Below.refl _ _|apply Ah|apply AL)) (by repeat(with_reducible first|exact o1|apply Ao.alloc_ Ac.local_ Ac.fixed|apply Ao.drew_ Ac.local_)) (by apply Blk.ofFold;(first|(with_reducible exact Blk.new _ _ _)|(refine Blk.grown ?_ r1 (by simp);repeat(with_reducible first|exact Blk.new _ _ _|exact Blk.new1 _ _ _ _|apply Blk.drew_|apply Blk.alloc)));(rw[hlk];simp))) ?_;rintro v8 w8 ⟨h2,o2,s2,r2,-⟩;have B8:=Below.grown (show Below w4.heap.size w4 _ by repeat(with_reducible first|assumption|exact Below.refl _ _|apply Ah|apply AL)) r2 (by first|exact B7.size|(simp;have:=B7.size;omega)) (fun k hk =>(o1.lt k hk).1))
          |(refine Bf rfl (.tmp 62) (.tmp 65) 80 rfl _ _ (by rfl) (by rfl) (HD3.out _ v8 ([] ++ h1 ++ h2) B8 o2) ?_;rintro v9 w9 ⟨h3,o3,s3,r3,-⟩;have B9:=Below.grown B8 r3 B8.size (fun k hk =>(o2.lt k hk).1)))
        all_goals
         obtain⟨gr,hgr⟩:=o3.reads;obtain⟨A9,c9,e9,hc9,hm9⟩:=o3.length;have E9:=hid hgr.1;subst e9;clear hgr;go_wp2_with fail
         go_roundw
         case rel =>
          have hnew:Br (Dj ++ rs.take (i+1))=L.take a ++ [r] ++ L.drop a:=by rw[HSR.out,HIN.out];simp
          exact⟨i+1,_,c9,A9,by omega,by go_num,rfl,(show _=_ by rw[hnew]),(show∃_,_ by rw[hnew];exact⟨_,E9.out⟩),HB4.out.trans (B9.mono (by rw[← HG.out];exact HB4.out.size))⟩
         case measure => simp[intOf];omega
       ·have hz0:(0:Int)<(a:Int):=by omega
        have hd0:decide ((0:Int)<(a:Int))=true:=decide_eq_true hz0;have hn0:0<a:=by omega
        have hd1:decide (0<a)=true:=decide_eq_true hn0;have r1:(a:Int) - 1=((a - 1:Nat):Int):=by omega
        have haL:a - 1<L.length:=by have:=HAL.out;omega
        obtain⟨ad5,b5,o5,cs5,f5,rfl,hat⟩:=HZ.out (a - 1) haL;have hat2:=hat.below Ac.local_ HBW.out;have hpl5:ad5.add ((a - 1) * k)=⟨b5,o5,none⟩:=by rw[HK9.out];exact hat.place
        have hb5:=hat2.lt;have l1:∀d os,Sem.run Tryz.prog (loadCellsFrom ⟨b5,o5,none⟩ 0 k #[]) (grow (redrawn wr d) os)= .ok cs5.toArray (grow (redrawn wr d) os):=fun d os => by
         rw[HK9.out];exact run_at (hat2.below Ac.local_ (below_regrown wr d os))
        have l2:∀d os,Sem.run Tryz.prog (loadCellsFrom ⟨g6,0,none⟩ 0 k #[]) (grow (redrawn wr d) os)= .ok cs3.toArray (grow (redrawn wr d) os):=fun d os => by
         have k4:=K3.out.below HBW.out K3.out.lt;exact DL (k4.below (below_regrown wr d os) k4.lt) (by rw[HK9.out];exact HLEN.out)
        have hc:∀d os,Calls Tryz.prog 87 #[.agg cs3.toArray,.agg cs5.toArray] (grow (redrawn wr d) os) fun e w'' => e= .returned (.bool (AZ r L[a - 1]))∧∃p:Regrown,w''=grow (redrawn wr p.d) p.os :=
         fun d os => Calls.regrown_of (Mp r L[a - 1] cs3 cs5 f3 f5 _ (Ap.below Ac.local_ Ac.fixed (Ap.below Ac.local_ Ac.fixed HRD3.out HBW.out) (below_regrown wr d os)) (Ap.below Ac.local_ Ac.fixed hat2.reads (below_regrown wr d os)))
        clear hat hat2;obtain⟨pj,hpj⟩:∃pj,AZ r L[a - 1] =pj:=⟨_,rfl⟩;rw[hpj]at hc;have HCC:=hid hc;have HPJ:=hid hpj;clear hpj hc;have hjz:((a - 1:Nat):Int)<(n:Int):=by omega
        have haz:(0:Int)≤((a - 1:Nat):Int):=by omega
        go_wp2_with fail
        refine wp_region_quiet_below (by kernel_rfl) (by kernel_rfl) ?_;repeat(first|go_big_quiet_step (exact HCC.out _ _)|quiet_step (exact HCC.out _ _))
        refine wpQuiet_nil ?_;intro _ hw';obtain⟨⟨dq,osq⟩,hw''⟩:=hw';subst hw'';have HBW1:=hid (HBW.out.trans ((below_regrown wr dq osq).mono HBW.out.size));clear l1 l2 hjz haz hpl5;cases pj with
        |true =>
         go_wp2_with fail
         go_roundw
         case rel =>
          refine⟨a - 1,by omega,by first|rfl|go_num,(show∀_,_ from fun q hq haq => ?_),HBW1⟩;by_cases e:q=a - 1
          ·subst e;exact HPJ.out
          ·exact HA1.out q hq (by omega)
         case measure => simp[intOf];omega
        |false =>
         have HA2:=hid (show a=0∨∃(hk1:a - 1<L.length),AZ r L[a - 1] =false from .inr ⟨haL,HPJ.out⟩);have HBW:=hid HBW1.out;clear r1 hz0 hb5 hd0 hd1 hn0;obtain⟨w4,hw4⟩:∃w4,grow (redrawn wr dq) osq=w4:=⟨_,rfl⟩;rw[hw4]at HBW HBW1⊢;clear hw4 HBW1;have HIN:=hid (Ih HAL.out HA1.out HA2.out);have hlk:cs3.length=k:=by rw[HK9.out];exact HLEN.out
         have hk1:¬16777216<k:=by rw[HK9.out];omega
         have hk2:¬k=0:=by rw[HK9.out];omega
         have HO4:=hid (rSl.below Ac.local_ Ac.fixed HO3.out HBW.out);have K4:=hid (K3.out.below HBW.out K3.out.lt);have HRD4:=hid (Ap.below Ac.local_ Ac.fixed HRD3.out HBW.out);have HB4:=hid (HB3.out.trans (HBW.out.mono (by rw[← HG.out];exact HB3.out.size)));obtain⟨-,hq1,hq2⟩:=rSl.bounds HO4.out;obtain⟨q1,q2,hl,hr,-⟩:=rSl.split HO4.out HAL.out;rw[show(fun x:Addr => x.add (a * 9))=fun x => x.add (a * k) by rw[HK9.out]]at hr;have HLl:=hid hl;have HRr:=hid hr;clear hl hr;have hle:=HAL.out;have han:a≤n:=by have:=HNL.out;omega
         have hP1:(0:Int)≤(a:Int):=by omega
         have hP2:(a:Int)≤(n:Int):=by omega
         have hP3:(a:Int)≤(c:Int):=by omega
         have hP4:a≤c:=by omega
         have HLT:=hid (show(L.take a ++ [r]).length +(L.drop a).length≤2000000 by rw[List.length_append,List.length_take,List.length_drop];simp;omega);have HLT2:=hid (show(L.take a).length≤2000000 by rw[List.length_take];omega);have HKS:=hid (show∀W,Below w4.heap.size w4 W→(Sem.run Tryz.prog (loadCellsFrom ⟨g6,0,none⟩ 0 k #[]) W= .ok cs3.toArray W∧Below w4.heap.size w4 W)from fun W hW =>⟨DL (K4.out.below hW K4.out.lt) hlk,hW⟩);have HD1:=hid (fun(W:World) (b:Nat) (hW:Below w4.heap.size w4 W) (hb:Blk W b 119 #[]) (hle:w4.heap.size≤b) => Gi (by omega) HLl.out hW hb hle);have HD2:=hid (fun(W:World) (v:Value) (h1:List Addr) (b:Nat) (hW:Below w4.heap.size w4 W) (ho:Ao 9 119 Ac W w4.heap.size v (L.take a) h1) (hb:Blk W b 119 cs3.toArray) => Gj HLT2.out HRD4.out hW ho hb);have HD3:=hid (fun(W:World) (v:Value) (h1:List Addr) (hW:Below w4.heap.size w4 W) (ho:Ao 9 119 Ac W w4.heap.size v (L.take a ++ [r]) h1) => Gk HLT.out HRr.out hW ho);clear hle HLl HRr HO4 HRD4;go_wp2_with fail
         go_region_held3 (fun w' => Sem.run Tryz.prog (loadCellsFrom ⟨g6,0,none⟩ 0 k #[]) w'= .ok cs3.toArray w'∧Below w4.heap.size w4 w') (exact HKS.out _ (by repeat(with_reducible first|assumption|exact Below.refl _ _|apply Ah|apply AL)))
          (first
           |(refine Bf rfl (.tmp 55) (.tmp 58) 80 rfl _ _ (by rfl) (by rfl) (HD1.out _ _ (by repeat(with_reducible first|assumption|exact Below.refl _ _|apply Ah|apply AL)) (by repeat(with_reducible first|exact Blk.new _ _ _|exact Blk.new1 _ _ _ _|apply Blk.drew_|apply Blk.alloc)) (by simp)) ?_;rintro v7 w7 ⟨h1,o1,s1,r1,-⟩;have B7:=Below.grown (show Below w4.heap.size w4 _ by repeat(with_reducible first|assumption|exact Below.refl _ _|apply Ah|apply AL)) r1 (by simp <;> omega) (fun k hk => by injection hk with hk;omega))
           |(refine Bf rfl (.tmp 59) (.tmp 61) 80 rfl _ _ (by rfl) (by rfl) (HD2.out _ v7 ([] ++ h1) _ (by repeat(with_reducible first|assumption|exact Below.refl _ _|apply Ah|apply AL)) (by repeat(with_reducible first|exact o1|apply Ao.alloc_ Ac.local_ Ac.fixed|apply Ao.drew_ Ac.local_)) (by apply Blk.ofFold;(first|(with_reducible exact Blk.new _ _ _)|(refine Blk.grown ?_ r1 (by simp);repeat(with_reducible first|exact Blk.new _ _ _|exact Blk.new1 _ _ _ _|apply Blk.drew_|apply Blk.alloc)));(rw[hlk];simp))) ?_;rintro v8 w8 ⟨h2,o2,s2,r2,-⟩;have B8:=Below.grown (show Below w4.heap.size w4 _ by repeat(with_reducible first|assumption|exact Below.refl _ _|apply Ah|apply AL)) r2 (by first|exact B7.size|(simp;have:=B7.size;omega)) (fun k hk =>(o1.lt k hk).1))
           |(refine Bf rfl (.tmp 62) (.tmp 65) 80 rfl _ _ (by rfl) (by rfl) (HD3.out _ v8 ([] ++ h1 ++ h2) B8 o2) ?_;rintro v9 w9 ⟨h3,o3,s3,r3,-⟩;have B9:=Below.grown B8 r3 B8.size (fun k hk =>(o2.lt k hk).1)))
         all_goals
          obtain⟨gr,hgr⟩:=o3.reads;obtain⟨A9,c9,e9,hc9,hm9⟩:=o3.length;have E9:=hid hgr.1;subst e9;clear hgr;go_wp2_with fail
          go_roundw
          case rel =>
           have hnew:Br (Dj ++ rs.take (i+1))=L.take a ++ [r] ++ L.drop a:=by rw[HSR.out,HIN.out];simp
           exact⟨i+1,_,c9,A9,by omega,by go_num,rfl,(show _=_ by rw[hnew]),(show∃_,_ by rw[hnew];exact⟨_,E9.out⟩),HB4.out.trans (B9.mono (by rw[← HG.out];exact HB4.out.size))⟩
          case measure => simp[intOf];omega
    ·obtain rfl:i=rs.length:=by omega
     go_wp2_with fail
     go_roundw
     case rel =>
      refine⟨j+1,n,c,A,by omega,by go_num,rfl,(show _=_ from ?_),(show∃_,_ from ?_),HB⟩
      ·rw[HN.out,List.take_succ_eq_append_getElem hlt,List.flatMap_append,HDJ.out,List.take_length];simp[HRS.out]
      ·have:=HO.out;rw[List.take_length]at this;rw[List.take_succ_eq_append_getElem hlt,List.flatMap_append,HDJ.out];simpa [HRS.out]using this
     case measure => simp[intOf];omega
  ·obtain rfl:j=d.v.length:=by omega
   have hj2:¬((d.v.length:Nat):Int)<2:=by omega
   go_wp2_with fail
   go_ret
   have h1:=HN.out;have h3:=HO.out;rw[List.take_length]at h1 h3;have h4:n=(AV d).length:=h1;obtain⟨fo,h5⟩:=h3;subst h4;refine⟨A,c,rfl,⟨fo,h5⟩,?_⟩;rw[HG.out];exact HB.out
theorem Gw(p:Nat)(fs:List Addr)(d:AC)(w:World)(h:AtW w p fs d)(h2:d.v.length=2)(hsm:(CJ d).length≤1000000) :
  Calls Tryz.prog 36 #[.pointer (some ⟨p,0,none⟩)] w fun e w' =>∃A c fs',e= .returned (.slice A (AV d).length c)∧rSl 9 Ac w' fs' (.slice A (AV d).length c) (AV d)∧Below w.heap.size w w' :=
 J8 9 rfl Tryz.sizeOf119 Tryz.isAgg119 p fs d w h h2 hsm
def Dy(seq group:Int)(r:Ag):Bool:=decide (r.kind=3∧r.seq=seq∧r.group=group)
def CU(recs:List Ag)(seq group:Int):Bool:=recs.any (Dy seq group)
theorem Mk(d:Ag)(cs:List Value)(f:List Addr)(seq group:Int)(p1 p2:Nat)(w:World)(h:Ac w f cs d)(hs:w.cell? ⟨p1,0,none⟩=some (int i64 seq))(hg:w.cell? ⟨p2,0,none⟩=some (int i64 group))(hp1:p1<w.heap.size)(hp2:p2<w.heap.size) :
  Calls Tryz.prog 301 #[.agg cs.toArray,.pointer (some ⟨p1,0,none⟩),.pointer (some ⟨p2,0,none⟩)] w fun e w' => e= .returned (.bool (Dy seq group d))∧Below w.heap.size w w':=by
 obtain⟨x0,x1,x2,x3,x4,x5,x6,x7,x8⟩:=d;dsimp only[Ac]at h;obtain⟨v0,v1,v2,f0,f1,f2,e,-⟩:=h;subst e;have BB:=hid (show∀o:Obj,Below w.heap.size w (w.alloc o)from fun o =>(Below.refl _ _).alloc (Nat.le_refl _) _);obtain⟨rb,hrb⟩:∃rb,Dy seq group ⟨x0,x1,x2,x3,x4,x5,x6,x7,x8⟩=rb:=⟨_,rfl⟩;rw[hrb];unfold Dy at hrb;simp only at hrb;by_cases q:x0=3
 ·subst q;by_cases q:x1=seq
  ·subst q;have e1:rb=(x4 == group):=by
    rw[← hrb,Bool.eq_iff_iff];simp
   subst e1;clear hrb;go_enter Tryz.func301,Tryz.ntmps301
   go_wp2_with fail
   go_ret
   exact⟨rfl,BB.out _⟩
  ·have e1:rb=false:=by rw[← hrb];simp[q]
   subst e1;have hq:(x1 == seq)=false:=by simpa using q
   clear hrb q;go_enter Tryz.func301,Tryz.ntmps301
   go_wp2_with fail
   go_ret
   exact⟨rfl,BB.out _⟩
 ·have e1:rb=false:=by rw[← hrb];simp[q]
  subst e1;have hq:(x0 == 3)=false:=by simpa using q
  clear hrb q;go_enter Tryz.func301,Tryz.ntmps301
  go_wp2_with fail
  go_ret
  exact⟨rfl,BB.out _⟩
theorem isDone_c(v:Value)(ds:List Ag)(f:List Addr)(seq group:Int)(w:World)(h:rSl 9 Ac w f v ds) :
  Calls Tryz.prog 276 #[v,int i64 seq,int i64 group] w fun e w' => e= .returned (.bool (CU ds seq group))∧Below w.heap.size w w':=by
 have hB:Below w.heap.size w ((w.alloc (.cells #[int i64 seq] 2)).alloc (.cells #[int i64 group] 2)):=((Below.refl _ _).alloc (Nat.le_refl _) _).alloc (by simp) _;have K1:=(Blk.new w 2 #[int i64 seq]).alloc (.cells #[int i64 group] 2);have K2:=Blk.new1 w (.cells #[int i64 seq] 2) 2 #[int i64 group];have HC:=hid (El 9 (by omega) Tryz.sizeOf119 Tryz.isAgg119 (Dy seq group) 301 #[.pointer (some ⟨w.heap.size,0,none⟩),.pointer (some ⟨w.heap.size+1,0,none⟩)] v ds f _ (enters_of Tryz.func301 (by kernel_rfl) rfl) (rSl.below Ac.local_ Ac.fixed h hB)
  (fun W cs fk j hj hW hR => Mk ds[j] cs fk seq group w.heap.size (w.heap.size+1) W hR (((K1.below hW K1.lt).cell 0).trans rfl) (((K2.below hW K2.lt).cell 0).trans rfl) (K1.below hW K1.lt).lt (K2.below hW K2.lt).lt))
 have HB:=hid hB;obtain⟨A,c,rfl,-⟩:=rSl.head h;clear h hB K1 K2;unfold CU;obtain⟨r,hr⟩:∃r,ds.any (Dy seq group)=r:=⟨_,rfl⟩;rw[hr]at HC⊢;clear hr;go_enter Tryz.func276,Tryz.ntmps276
 go_wp2_with (go_at_call 215;refine HC.out.mono ?_;rintro e w1 ⟨rfl,hb1⟩)
 go_ret
 exact⟨rfl,HB.out.trans (hb1.mono HB.out.size)⟩
theorem l6Done_c(v:Value)(ds:List Ag)(f:List Addr)(seq group:Int)(w:World)(h:rSl 9 Ac w f v ds) :
  Calls Tryz.prog 236 #[v,int i64 seq,int i64 group] w fun e w' => e= .returned (.bool (CU ds seq group))∧w=w':=by
 obtain⟨A,c,rfl,hc,hm,hx⟩:=rSl.at_ Ac.fixed (by omega) h;have HX:=hid hx;clear hx h;obtain⟨rr,hrr⟩:∃rr,CU ds seq group=rr:=⟨_,rfl⟩;rw[hrr];have RR:=hid hrr;clear hrr;go_enter Tryz.func236,Tryz.ntmps236
 go_wp2_with fail
 go_loop [7] (fun i =>∃j:Nat,j≤ds.length∧i= int i64 j∧Hid (∀q,(hq:q<ds.length)→q<j→Dy seq group ds[q] =false)) (fun i => ds.length - (intOf i).toNat)
 case atStart => exact⟨0,by omega,rfl,fun q hq h => by omega⟩
 case round =>
  obtain⟨j,hj,rfl,HF⟩:=hrel;by_cases hlt:j<ds.length
  ·obtain⟨ad,b,o,cs,fk,rfl,hat⟩:=HX.out j hlt;have hpl:=hat.place;have hrd:=hat.reads;obtain⟨v0,v1,v2,f0,f1,f2,e,-⟩:=hrd;have hb0:=hat.lt;have c0:w.cell? ⟨b,o,none⟩=some (int i64 ds[j].kind):=by
    have:=hat.cell 0 (by rw[hat.len];omega);simpa [e]using this
   have c1:w.cell? ⟨b,o+1,none⟩=some (int i64 ds[j].seq):=by
    have:=hat.cell 1 (by rw[hat.len];omega);simpa [e]using this
   have c4:w.cell? ⟨b,o+4,none⟩=some (int i64 ds[j].group):=by
    have:=hat.cell 4 (by rw[hat.len];omega);simpa [e]using this
   clear hat e;have hdp:Dy seq group ds[j] =decide (ds[j].kind =3∧ds[j].seq =seq∧ds[j].group =group):=rfl;have HDP:=hid hdp;clear hdp;have step:Dy seq group ds[j] =false→∀q,(hq:q<ds.length)→q<j+1→Dy seq group ds[q] =false:=fun hf q hq hqj => by
    by_cases e:q=j
    ·subst e;exact hf
    ·exact HF.out q hq (by omega)
   have ST:=hid step;clear step;by_cases q:ds[j].kind =3
   ·have hq:(ds[j].kind == 3)=true:=by simpa using q
    by_cases q1:ds[j].seq =seq
    ·have hq1:(ds[j].seq == seq)=true:=by simpa using q1
     by_cases q2:ds[j].group =group
     ·have hq2:(ds[j].group == group)=true:=by simpa using q2
      have e1:rr=true:=by rw[← RR.out];exact List.any_eq_true.2 ⟨_,List.getElem_mem hlt,by rw[HDP.out];simp[q,q1,q2]⟩
      subst e1;clear q q1 q2;go_wp2_with fail
      go_ret
      exact⟨rfl,rfl⟩
     ·have hq2:(ds[j].group == group)=false:=by simpa using q2
      have hf:Dy seq group ds[j] =false:=by rw[HDP.out];simp[q2]
      have HFF:=hid hf;clear q q1 q2 hf;go_wp2_with fail
      go_round
      case rel => exact⟨j+1,by omega,by go_num,ST.out HFF.out⟩
      case measure => simp[intOf];omega
    ·have hq1:(ds[j].seq == seq)=false:=by simpa using q1
     have hf:Dy seq group ds[j] =false:=by rw[HDP.out];simp[q1]
     have HFF:=hid hf;clear q q1 hf;go_wp2_with fail
     go_round
     case rel => exact⟨j+1,by omega,by go_num,ST.out HFF.out⟩
     case measure => simp[intOf];omega
   ·have hq:(ds[j].kind == 3)=false:=by simpa using q
    have hf:Dy seq group ds[j] =false:=by rw[HDP.out];simp[q]
    have HFF:=hid hf;clear q hf;go_wp2_with fail
    go_round
    case rel => exact⟨j+1,by omega,by go_num,ST.out HFF.out⟩
    case measure => simp[intOf];omega
  ·have e1:rr=false:=by
    rw[← RR.out];refine List.any_eq_false.2 fun x hx => ?_
    obtain⟨q,hq,rfl⟩:=List.getElem_of_mem hx;simpa using HF.out q hq (by omega)
   subst e1;go_wp2_with fail
   go_ret
   exact⟨rfl,rfl⟩
end Go.Proofs.YtfjkoifpdoemdaaGreat
namespace Go.Proofs.YtfjkoifpdoemdaaGreat
open Go.RowKit
open Go.Lib (hid)
def Aj(n lo hi:Int):Bool:=decide (lo≤n∧n≤hi)
theorem F6 {n lo hi:Int}(h1:lo≤n)(h2:n≤hi):Aj n lo hi=true:=by simp[Aj,h1,h2]
theorem Fm {n lo hi:Int}(h1:n<lo):Aj n lo hi=false:=by simp[Aj];omega
theorem Gh {n lo hi:Int}(h1:hi<n):Aj n lo hi=false:=by simp[Aj];omega
theorem Bn {n lo hi:Int}(h:Aj n lo hi=true):lo≤n∧n≤hi:=by simpa [Aj]using h
theorem Be(n lo hi:Int)(w:World) :
  Calls Tryz.prog 100 #[int i64 n,int i64 lo,int i64 hi] w fun e w' => e= .returned (.bool (Aj n lo hi))∧w=w':=by
 by_cases h1:lo≤n
 ·by_cases h2:n≤hi
  ·rw[F6 h1 h2];go_enter Tryz.func100,Tryz.ntmps100
   go_wp2
   go_ret
   exact⟨rfl,rfl⟩
  ·rw[Gh (by omega)];go_enter Tryz.func100,Tryz.ntmps100
   go_wp2
   go_ret
   exact⟨rfl,rfl⟩
 ·rw[Fm (by omega)];go_enter Tryz.func100,Tryz.ntmps100
  go_wp2
  go_ret
  exact⟨rfl,rfl⟩
theorem Bh(n lo hi:Int)(w:World) :
  Calls Tryz.prog 35 #[int i64 n,int i64 lo,int i64 hi] w fun e w' => e= .returned (.bool (Aj n lo hi))∧w=w':=by
 by_cases h1:lo≤n
 ·by_cases h2:n≤hi
  ·rw[F6 h1 h2];go_enter Tryz.func35,Tryz.ntmps35
   go_wp2
   go_ret
   exact⟨rfl,rfl⟩
  ·rw[Gh (by omega)];go_enter Tryz.func35,Tryz.ntmps35
   go_wp2
   go_ret
   exact⟨rfl,rfl⟩
 ·rw[Fm (by omega)];go_enter Tryz.func35,Tryz.ntmps35
  go_wp2
  go_ret
  exact⟨rfl,rfl⟩
structure Sh where
 g:Int
 c:Int
 data:Int
 p:Int
 rows:Int
 cap:Int
 b:Int
 q:Int
 t:Int
def Sh.cells(s:Sh):List Value:=[int i64 s.g,int i64 s.c,int i64 s.data,int i64 s.p,int i64 s.rows,int i64 s.cap,int i64 s.b,int i64 s.q,int i64 s.t]
def shV(s:Sh):Value:=.agg #[int i64 s.g,int i64 s.c,int i64 s.data,int i64 s.p,int i64 s.rows,int i64 s.cap,int i64 s.b,int i64 s.q,int i64 s.t]
def shB(s:Sh):Bool:=Aj s.g 1 4 && (Aj s.c 0 2 && (Aj s.data 1 3 && (Aj s.p 0 2 && (Aj s.rows 1 6 && (Aj s.cap 1 6 && (Aj s.b 1 4 && (Aj s.q 1 6 && Aj s.t 0 400)))))))
def Fq(s:Sh):Int:=if shB s=true then 0 else 3
structure Sh.Ok (s:Sh):Prop where
 g:1≤s.g∧s.g≤4
 c:0≤s.c∧s.c≤2
 data:1≤s.data∧s.data≤3
 p:0≤s.p∧s.p≤2
 rows:1≤s.rows∧s.rows≤6
 cap:1≤s.cap∧s.cap≤6
 b:1≤s.b∧s.b≤4
 q:1≤s.q∧s.q≤6
 t:0≤s.t∧s.t≤400
theorem Cv {s:Sh}(h:shB s=true):s.Ok:=by
 simp only[shB,Bool.and_eq_true]at h;obtain⟨h1,h2,h3,h4,h5,h6,h7,h8,h9⟩:=h;exact⟨Bn h1,Bn h2,Bn h3,Bn h4,Bn h5,Bn h6,Bn h7,Bn h8,Bn h9⟩
theorem BZ {s:Sh}(h:shB s=true):Fq s=0:=by unfold Fq;rw[if_pos h]
theorem EW {s:Sh}(h:shB s=false):Fq s=3:=by unfold Fq;rw[if_neg (by rw[h];simp)]
theorem cases9 {G:Prop}(B:Bool)(b1 b2 b3 b4 b5 b6 b7 b8 b9:Bool)(hB:B=(b1 && (b2 && (b3 && (b4 && (b5 && (b6 && (b7 && (b8 && (b9))))))))))(f1:b1=false→B=false→G)(f2:b1=true→b2=false→B=false→G)(f3:b1=true→b2=true→b3=false→B=false→G)(f4:b1=true→b2=true→b3=true→b4=false→B=false→G)(f5:b1=true→b2=true→b3=true→b4=true→b5=false→B=false→G)(f6:b1=true→b2=true→b3=true→b4=true→b5=true→b6=false→B=false→G)(f7:b1=true→b2=true→b3=true→b4=true→b5=true→b6=true→b7=false→B=false→G)(f8:b1=true→b2=true→b3=true→b4=true→b5=true→b6=true→b7=true→b8=false→B=false→G)(f9:b1=true→b2=true→b3=true→b4=true→b5=true→b6=true→b7=true→b8=true→b9=false→B=false→G)(f10:b1=true→b2=true→b3=true→b4=true→b5=true→b6=true→b7=true→b8=true→b9=true→B=true→G):G:=by
 subst hB;cases b1
 ·exact f1 rfl (by simp)
 cases b2
 ·exact f2 rfl rfl (by simp)
 cases b3
 ·exact f3 rfl rfl rfl (by simp)
 cases b4
 ·exact f4 rfl rfl rfl rfl (by simp)
 cases b5
 ·exact f5 rfl rfl rfl rfl rfl (by simp)
 cases b6
 ·exact f6 rfl rfl rfl rfl rfl rfl (by simp)
 cases b7
 ·exact f7 rfl rfl rfl rfl rfl rfl rfl (by simp)
 cases b8
 ·exact f8 rfl rfl rfl rfl rfl rfl rfl rfl (by simp)
 cases b9
 ·exact f9 rfl rfl rfl rfl rfl rfl rfl rfl rfl (by simp)
 exact f10 rfl rfl rfl rfl rfl rfl rfl rfl rfl rfl
theorem GP(s:Sh)(w:World) :
  Calls Tryz.prog 96 #[shV s] w fun e w' => e= .returned (int i64 (Fq s))∧Below w.heap.size w w':=by
 unfold shV;refine cases9 (shB s) (Aj s.g 1 4) (Aj s.c 0 2) (Aj s.data 1 3) (Aj s.p 0 2) (Aj s.rows 1 6) (Aj s.cap 1 6) (Aj s.b 1 4) (Aj s.q 1 6) (Aj s.t 0 400) rfl ?_ ?_ ?_ ?_ ?_ ?_ ?_ ?_ ?_ ?_;all_goals
  intros
  first
   |rw[EW ‹shB s=false›]
   |rw[BZ ‹shB s=true›]
  go_enter Tryz.func96,Tryz.ntmps96
  go_wp2_with (go_at_call 100;refine(Be _ _ _ _).mono ?_;rintro e w' ⟨rfl,rfl⟩)
  go_ret
  exact⟨rfl,(Below.refl _ _).alloc (Nat.le_refl _) _⟩
theorem cases2 {G:Prop}(B:Bool)(b1 b2:Bool)(hB:B=(b1 && (b2)))(f1:b1=false→B=false→G)(f2:b1=true→b2=false→B=false→G)(f3:b1=true→b2=true→B=true→G):G:=by
 subst hB;cases b1
 ·exact f1 rfl (by simp)
 cases b2
 ·exact f2 rfl rfl (by simp)
 exact f3 rfl rfl rfl
theorem cases7 {G:Prop}(B:Bool)(b1 b2 b3 b4 b5 b6 b7:Bool)(hB:B=(b1 && (b2 && (b3 && (b4 && (b5 && (b6 && (b7))))))))(f1:b1=false→B=false→G)(f2:b1=true→b2=false→B=false→G)(f3:b1=true→b2=true→b3=false→B=false→G)(f4:b1=true→b2=true→b3=true→b4=false→B=false→G)(f5:b1=true→b2=true→b3=true→b4=true→b5=false→B=false→G)(f6:b1=true→b2=true→b3=true→b4=true→b5=true→b6=false→B=false→G)(f7:b1=true→b2=true→b3=true→b4=true→b5=true→b6=true→b7=false→B=false→G)(f8:b1=true→b2=true→b3=true→b4=true→b5=true→b6=true→b7=true→B=true→G):G:=by
 subst hB;cases b1
 ·exact f1 rfl (by simp)
 cases b2
 ·exact f2 rfl rfl (by simp)
 cases b3
 ·exact f3 rfl rfl rfl (by simp)
 cases b4
 ·exact f4 rfl rfl rfl rfl (by simp)
 cases b5
 ·exact f5 rfl rfl rfl rfl rfl (by simp)
 cases b6
 ·exact f6 rfl rfl rfl rfl rfl rfl (by simp)
 cases b7
 ·exact f7 rfl rfl rfl rfl rfl rfl rfl (by simp)
 exact f8 rfl rfl rfl rfl rfl rfl rfl rfl
def l3B(g c:Int):Bool:=Aj g 1 4 && (Aj c 0 2)
def l2B(d s:Int):Bool:=Aj d 1 3 && (Aj s 0 2)
theorem Mo(g c:Int)(w:World) :
  Calls Tryz.prog 90 #[int i64 g,int i64 c] w fun e w' => e= .returned (.bool (l3B g c))∧w=w':=by
 refine cases2 (l3B g c) (Aj g 1 4) (Aj c 0 2) rfl ?_ ?_ ?_;all_goals
  intros
  first
   |rw[‹l3B g c=false›]
   |rw[‹l3B g c=true›]
  go_enter Tryz.func90,Tryz.ntmps90
  go_wp2_with (go_at_call 35;refine(Bh _ _ _ _).mono ?_;rintro e w' ⟨rfl,rfl⟩)
  go_ret
  exact⟨rfl,rfl⟩
theorem Mn(g c:Int)(w:World) :
  Calls Tryz.prog 144 #[int i64 g,int i64 c] w fun e w' => e= .returned (.bool (l2B g c))∧w=w':=by
 refine cases2 (l2B g c) (Aj g 1 3) (Aj c 0 2) rfl ?_ ?_ ?_;all_goals
  intros
  first
   |rw[‹l2B g c=false›]
   |rw[‹l2B g c=true›]
  go_enter Tryz.func144,Tryz.ntmps144
  go_wp2_with (go_at_call 35;refine(Bh _ _ _ _).mono ?_;rintro e w' ⟨rfl,rfl⟩)
  go_ret
  exact⟨rfl,rfl⟩
theorem shB_eq(s:Sh):shB s=(l3B s.g s.c && (l2B s.data s.p && (Aj s.rows 1 6 && (Aj s.cap 1 6 && (Aj s.b 1 4 && (Aj s.q 1 6 && (Aj s.t 0 400))))))):=by
 unfold shB l3B l2B;simp only[Bool.and_assoc]
theorem Bu(s:Sh)(w:World) :
  Calls Tryz.prog 82 #[shV s] w fun e w' => e= .returned (int i64 (Fq s))∧Below w.heap.size w w':=by
 unfold shV;refine cases7 (shB s) (l3B s.g s.c) (l2B s.data s.p) (Aj s.rows 1 6) (Aj s.cap 1 6) (Aj s.b 1 4) (Aj s.q 1 6) (Aj s.t 0 400) (shB_eq s) ?_ ?_ ?_ ?_ ?_ ?_ ?_ ?_;all_goals
  intros
  first
   |rw[EW ‹shB s=false›]
   |rw[BZ ‹shB s=true›]
  go_enter Tryz.func82,Tryz.ntmps82
  go_wp2_with (first|(go_at_call 35;refine(Bh _ _ _ _).mono ?_;rintro e w' ⟨rfl,rfl⟩)|(go_at_call 90;refine(Mo _ _ _).mono ?_;rintro e w' ⟨rfl,rfl⟩)|(go_at_call 144;refine(Mn _ _ _).mono ?_;rintro e w' ⟨rfl,rfl⟩))
  go_ret
  exact⟨rfl,(Below.refl _ _).alloc (Nat.le_refl _) _⟩
theorem Dz(s:Sh)(h:s.Ok)(w:World) :
  Calls Tryz.prog 37 #[shV s] w fun e w' => e= .returned (int i64 (s.g+s.c))∧Below w.heap.size w w':=by
 obtain⟨a1,a2⟩:=h.g;obtain⟨b1,b2⟩:=h.c;unfold shV;go_enter Tryz.func37,Tryz.ntmps37
 go_wp2
 go_ret
 exact⟨rfl,(Below.refl _ _).alloc (Nat.le_refl _) _⟩
theorem DV(s:Sh)(h:s.Ok)(w:World) :
  Calls Tryz.prog 101 #[shV s] w fun e w' => e= .returned (int i64 (s.g+s.c))∧Below w.heap.size w w':=by
 obtain⟨a1,a2⟩:=h.g;obtain⟨b1,b2⟩:=h.c;unfold shV;go_enter Tryz.func101,Tryz.ntmps101
 go_wp2
 go_ret
 exact⟨rfl,(Below.refl _ _).alloc (Nat.le_refl _) _⟩
end Go.Proofs.YtfjkoifpdoemdaaGreat
namespace Go.Proofs.YtfjkoifpdoemdaaGreat
open Go.RowKit Go.Lib Go.Sort
def Du(l:List UInt8):Nat:=(l.map (·.toNat)).sum
def Cr(groups:Int)(nm:ByteArray):Int:=((Du nm.data.toList:Nat):Int) % groups
theorem IP {l:List UInt8} {j:Nat}(h:j<l.length):Du (l.take (j+1))=Du (l.take j)+l[j].toNat:=by
 unfold Du;rw[List.take_succ_eq_append_getElem h,List.map_append,List.sum_append];simp
theorem Is:∀l:List UInt8,Du l≤255 * l.length
 | [] => by simp[Du]
 |c :: l => by
  have h1:=Is l;have h2:=c.toNat_lt;unfold Du at h1⊢;simp only[List.map_cons,List.sum_cons,List.length_cons];omega
theorem GT(s:Sh)(hok:s.Ok)(nm:ByteArray)(hn:nm.size≤1000000)(w:World) :
  Calls Tryz.prog 133 #[shV s,.string nm] w fun e w' => e= .returned (int i64 (Cr s.g nm))∧Below w.heap.size w w':=by
 obtain⟨hg1,hg2⟩:=hok.g;have hb:=hid (show Below w.heap.size w (w.alloc (.cells #[int i64 s.g,int i64 s.c,int i64 s.data,int i64 s.p,int i64 s.rows,int i64 s.cap,int i64 s.b,int i64 s.q,int i64 s.t] 31))from(Below.refl _ _).alloc (Nat.le_refl _) _);have hsz:nm.data.toList.length=nm.size:=by simp
 have HSZ:=hid hsz;have hgz:¬s.g=0:=by omega
 have hgb:(s.g == 0)=false:=by simpa using hgz
 unfold shV;go_enter Tryz.func133,Tryz.ntmps133
 go_wp2_with fail
 go_loop [5,6] (fun a i =>∃j:Nat,j≤nm.size∧i= int i64 j∧a= int i64 ((Du (nm.data.toList.take j):Nat):Int)) (fun _ i => nm.size - (intOf i).toNat)
 case atStart => exact⟨0,by omega,rfl,rfl⟩
 case round =>
  obtain⟨j,hj,rfl,rfl⟩:=hrel;by_cases hlt:j<nm.size
  ·have hki:(j:Int)<(nm.size:Int):=by omega
   have hk1:j<nm.data.toList.length:=by rw[HSZ.out];exact hlt
   have hel:nm.data.toList[j] =nm[j]'hlt:=by simp[ByteArray.getElem_eq_getElem_data]
   have hst:=IP hk1;rw[hel]at hst;have hle:=Is (nm.data.toList.take j);rw[List.length_take]at hle;have hle2:Du (nm.data.toList.take j)≤255000000:=by omega
   have hc:=(nm[j]'hlt).toNat_lt;obtain⟨sj,hsj⟩:∃sj,Du (nm.data.toList.take j)=sj:=⟨_,rfl⟩;rw[hsj]at hst hle2⊢;have HST:=hid hst;clear hst hle hsj hk1 hel;go_wp2_with fail
   go_round
   case rel => exact⟨j+1,by omega,by go_num,by rw[HST.out];go_num⟩
   case measure => simp[intOf];omega
  ·obtain rfl:j=nm.size:=by omega
   have HE:=hid (show Du (nm.data.toList.take nm.size)=Du nm.data.toList by rw[← HSZ.out,List.take_length]);go_wp2_with fail
   go_ret
   exact⟨by first|rfl|(rw[HE.out];rfl),hb.out⟩
theorem Jo(s:Sh)(hok:s.Ok)(nm:ByteArray)(hn:nm.size≤1000000)(w:World) :
  Calls Tryz.prog 139 #[shV s,.string nm] w fun e w' => e= .returned (int i64 (Cr s.g nm))∧Below w.heap.size w w':=by
 obtain⟨hg1,hg2⟩:=hok.g;have hb:=hid (show Below w.heap.size w (w.alloc (.cells #[int i64 s.g,int i64 s.c,int i64 s.data,int i64 s.p,int i64 s.rows,int i64 s.cap,int i64 s.b,int i64 s.q,int i64 s.t] 31))from(Below.refl _ _).alloc (Nat.le_refl _) _);have hsz:nm.data.toList.length=nm.size:=by simp
 have HSZ:=hid hsz;have hgz:¬s.g=0:=by omega
 have hgb:(s.g == 0)=false:=by simpa using hgz
 unfold shV;go_enter Tryz.func139,Tryz.ntmps139
 go_wp2_with fail
 go_loop [5,6,9] (fun a _ i =>∃j:Nat,j≤nm.size∧i= int i64 j∧a= int i64 ((Du (nm.data.toList.take j):Nat):Int)) (fun _ _ i => nm.size - (intOf i).toNat)
 case atStart => exact⟨0,by omega,rfl,rfl⟩
 case round =>
  obtain⟨j,hj,rfl,rfl⟩:=hrel;by_cases hlt:j<nm.size
  ·have hki:(j:Int)<(nm.size:Int):=by omega
   have hk1:j<nm.data.toList.length:=by rw[HSZ.out];exact hlt
   have hel:nm.data.toList[j] =nm[j]'hlt:=by simp[ByteArray.getElem_eq_getElem_data]
   have hst:=IP hk1;rw[hel]at hst;have hle:=Is (nm.data.toList.take j);rw[List.length_take]at hle;have hle2:Du (nm.data.toList.take j)≤255000000:=by omega
   have hc:=(nm[j]'hlt).toNat_lt;obtain⟨sj,hsj⟩:∃sj,Du (nm.data.toList.take j)=sj:=⟨_,rfl⟩;rw[hsj]at hst hle2⊢;have HST:=hid hst;clear hst hle hsj hk1 hel;go_wp2_with fail
   go_round
   case rel => exact⟨j+1,by omega,by go_num,by rw[HST.out];go_num⟩
   case measure => simp[intOf];omega
  ·obtain rfl:j=nm.size:=by omega
   have HE:=hid (show Du (nm.data.toList.take nm.size)=Du nm.data.toList by rw[← HSZ.out,List.take_length]);go_wp2_with fail
   go_ret
   exact⟨by first|rfl|(rw[HE.out];rfl),hb.out⟩
end Go.Proofs.YtfjkoifpdoemdaaGreat
