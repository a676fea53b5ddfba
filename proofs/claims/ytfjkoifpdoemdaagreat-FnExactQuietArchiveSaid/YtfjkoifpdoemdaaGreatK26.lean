/-
  Part 26 of the proof; the last part states and proves the statement.
-/
import Derived.Test.YtfjkoifpdoemdaaGreatK25
import Derived.Test.YtfjkoifpdoemdaaGreatK10
set_option maxHeartbeats 8000000
set_option maxRecDepth 100000
set_option linter.unusedVariables false
set_option linter.unusedSimpArgs false
open Go.Value (int)
open Go.IntKind (i64)
namespace Go.Proofs.YtfjkoifpdoemdaaGreat
open Go.RowKit Go.Lib Go.Sort
theorem FH:∀a b:List UInt8,Op.bytesLess a b=decide (Lib.compareBytes a b<0)
 | [],[] => by simp[Op.bytesLess,Lib.compareBytes]
 |_ :: _,[] => by simp[Op.bytesLess,Lib.compareBytes]
 | [],_ :: _ => by simp[Op.bytesLess,Lib.compareBytes]
 |x :: a,y :: b => by
  unfold Op.bytesLess Lib.compareBytes;by_cases h1:x<y
  ·simp[h1]
  ·by_cases h2:y<x
   ·have h3:¬x=y:=fun e => UInt8.lt_irrefl x (e ▸ h2)
    simp[h1,h2,h3]
   ·have h3:=I7 h1 h2;subst h3;simp[h1,FH a b]
def Fc(a b:Ag):Bool:=Op.bytesLess a.name.toList b.name.toList
theorem Jy {a b:Ag}:Fc a b=true↔nlt a b:=by
 unfold Fc nlt;rw[FH,ByteArray.toList_eq,ByteArray.toList_eq];simp
theorem Lx {a b:Ag}:Fc a b=false↔¬nlt a b:=by
 rw[← Jy];simp
structure Cz (all:List Ag) (i:Nat) (out:List Ag):Prop where
 sorted:out.Pairwise nlt
 mem:∀x,x∈out↔∃k,k<i∧∃h:k<all.length,all[k] =x∧x.kind=1∧x.length≠ -1∧Cb all x.name all.length=(k:Int)
theorem Cz.start(all:List Ag):Cz all 0 []:=⟨List.Pairwise.nil,fun x =>⟨fun h =>(by cases h),fun⟨k,h,_⟩ => by omega⟩⟩
theorem Cz.all_ {all out:List Ag}(h:Cz all all.length out):BS all out :=
 ⟨h.sorted,fun x =>(h.mem x).trans ⟨fun⟨k,_,h1,h2⟩ =>⟨k,h1,h2⟩,fun⟨k,h1,h2⟩ =>⟨k,h1,h1,h2⟩⟩⟩
theorem Cz.skip {all out:List Ag} {i:Nat}(h:Cz all i out)(hi:i<all.length)(hn:¬(all[i].kind =1∧all[i].length≠ -1∧Cb all all[i].name all.length=(i:Int))):Cz all (i+1) out:=by
 refine⟨h.sorted,fun x =>(h.mem x).trans ⟨fun⟨k,h1,h2⟩ =>⟨k,by omega,h2⟩,fun⟨k,h1,h2,h3,h4⟩ => ?_⟩⟩;by_cases e:k=i
 ·subst e;subst h3;exact absurd h4 hn
 ·exact⟨k,by omega,h2,h3,h4⟩
theorem EV:∀(L M:List Ag),L.Nodup→(∀x,x∈L→x∈M)→L.length≤M.length
 | [],_,_,_ => Nat.zero_le _
 |x :: L,M,h,hs => by
  obtain⟨h1,h2⟩:=List.nodup_cons.1 h;obtain⟨s,t,rfl⟩:=List.append_of_mem (hs x (List.mem_cons_self ..));have:=EV L (s ++ t) h2 fun y hy => by
   have hne:y≠x:=fun e => h1 (e ▸ hy)
   have:=hs y (List.mem_cons_of_mem _ hy);simp only[List.mem_append,List.mem_cons]at this⊢;rcases this with q|q|q
   ·exact .inl q
   ·exact absurd q hne
   ·exact .inr q
  simp only[List.length_append,List.length_cons]at this⊢;omega
theorem Cz.len {all out:List Ag} {i:Nat}(h:Cz all i out):out.length≤all.length :=
 EV _ _ (h.sorted.imp (fun {a b} hab e => by subst e;exact Ea a hab)) fun x hx => by
  obtain⟨k,_,h2,h3,_⟩:=(h.mem x).1 hx;exact h3 ▸ List.getElem_mem h2
theorem Cz.put {all out:List Ag} {i:Nat}(h:Cz all i out)(hi:i<all.length) {r:Ag}(hr:all[i] =r)(hk:r.kind=1)(hl:r.length≠ -1)(hn:Cb all r.name all.length=(i:Int)) {a:Nat}(ha:a≤out.length)(h1:∀q,(hq:q<out.length)→a≤q→Fc r out[q] =true)(h2:a=0∨∃(hk1:a - 1<out.length),Fc r out[a - 1] =false) :
  Cz all (i+1) (out.take a ++ [r] ++ out.drop a):=by
 have hname:∀x,x∈out→¬x.name=r.name:=fun x hx e => by
  obtain⟨k,q1,q2,q3,q4,q5,q6⟩:=(h.mem x).1 hx;rw[e,hn]at q6;omega
 have hlow:∀x,x∈out.take a→nlt x r:=fun x hx => by
  obtain⟨q,hq,rfl⟩:=List.getElem_of_mem hx;rw[List.length_take]at hq;rw[List.getElem_take];rcases h2 with h2|⟨hk1,h2⟩
  ·omega
  ·have e1:nlt out[a - 1] r:=(nlt_ne (hname _ (List.getElem_mem hk1))).resolve_right (Lx.1 h2);by_cases e:q=a - 1
   ·subst e;exact e1
   ·exact F8 (List.pairwise_iff_getElem.1 h.sorted q (a - 1) (by omega) hk1 (by omega)) e1
 have hhigh:∀x,x∈out.drop a→nlt r x:=fun x hx => by
  obtain⟨q,hq,rfl⟩:=List.getElem_of_mem hx;rw[List.length_drop]at hq;rw[List.getElem_drop];exact Jy.1 (h1 (a+q) (by omega) (by omega))
 refine⟨?_,fun x => ?_⟩
 ·rw[List.append_assoc,List.pairwise_append];refine⟨h.sorted.sublist (List.take_sublist _ _),?_,fun x hx y hy => ?_⟩
  ·rw[List.singleton_append,List.pairwise_cons];exact⟨hhigh,h.sorted.sublist (List.drop_sublist _ _)⟩
  ·rcases List.mem_append.1 hy with hy|hy
   ·rw[List.mem_singleton.1 hy];exact hlow x hx
   ·exact F8 (hlow x hx) (hhigh y hy)
 ·have hm:x∈out.take a ++ [r] ++ out.drop a↔(x∈out∨x=r):=by
   have e:x∈out↔(x∈out.take a∨x∈out.drop a):=by rw[← List.mem_append,List.take_append_drop]
   simp only[List.mem_append,List.mem_singleton,e];constructor
   ·rintro((q|q)|q)
    ·exact .inl (.inl q)
    ·exact .inr q
    ·exact .inl (.inr q)
   ·rintro((q|q)|q)
    ·exact .inl (.inl q)
    ·exact .inr q
    ·exact .inl (.inr q)
  rw[hm,h.mem];constructor
  ·rintro(⟨k,q1,q2⟩|rfl)
   ·exact⟨k,by omega,q2⟩
   ·exact⟨i,by omega,hi,hr,hk,hl,hn⟩
  ·rintro⟨k,q1,q2,q3,q4⟩;by_cases e:k=i
   ·subst e;exact .inr (q3.symm.trans hr)
   ·exact .inl ⟨k,by omega,q2,q3,q4⟩
theorem Jv(k:Nat)(hk9:k=9)(zR:∀w,(Go.sizeOf 119).run Tryz.prog w= .ok k w)(aR:∀w,(isAgg 119).run Tryz.prog w= .ok true w)(v:Value)(all:List Ag)(f:List Addr)(w:World)(h:rSl 9 Ac w f v all)(hsm:all.length≤1000000)(hle:∀r,r∈all→r.kind=1→r.length= -1∨0≤r.length) :
  Calls Tryz.prog 75 #[v] w fun e w' =>∃L A c fs',e= .returned (.slice A L.length c)∧BS all L∧rSl 9 Ac w' fs' (.slice A L.length c) L∧Below w.heap.size w w':=by
 obtain⟨A0,c0,rfl,hc0,hm0,hx⟩:=rSl.at_ Ac.fixed (by omega) h;have HX:=hid hx;have HALL:=hid h;have HK9:=hid hk9;have HLE:=hid hle;obtain⟨g0,hg0⟩:∃g0,w.heap.size=g0:=⟨_,rfl⟩;have HG:=hid hg0;clear hx h hk9 hle;have start:Hid (∃fo,rSl 9 Ac (w.alloc (.cells #[] 119)) fo (.slice (some ⟨g0,0,none⟩) 0 0) []):=⟨[],some ⟨g0,0,none⟩,0,rfl,Nat.le_refl _,by omega,.inl ⟨rfl,rfl⟩⟩;have hb0:Hid (Below g0 w (w.alloc (.cells #[] 119))):=(Below.refl g0 w).alloc (by omega) _;go_enter Tryz.func75,Tryz.ntmps75
 go_wp2_with fail
 try rw[hg0]
 clear hg0;go_loopw [4,3,5,6] (fun ix o _ _ wr =>∃(i n c:Nat) (A:Option Addr) (L:List Ag),i≤all.length∧ix= int i64 i∧o= .slice A n c∧Hid (n=L.length)∧Hid (Cz all i L)∧Hid (∃fo,rSl 9 Ac wr fo (.slice A n c) L)∧Hid (Below g0 w wr)) (fun ix _ _ _ _ => all.length - (intOf ix).toNat)
 case atStart => exact⟨0,0,0,_,[],by omega,rfl,rfl,rfl,Cz.start _,start.out,hb0.out⟩
 case round =>
  clear start hb0;obtain⟨i,n,c,A,L,hi,rfl,rfl,HN,HLV,HO,HB⟩:=hrel;by_cases hlti:i<all.length
  ·obtain⟨ad3,b3,o3,cs3,f3,rfl,hat⟩:=HX.out i hlti;have hat2:=hat.below Ac.local_ (show Below w.heap.size w wr by rw[HG.out];exact HB.out);have hpl3:=hat.place;have hpl4:ad3.add (i * k)=⟨b3,o3,none⟩:=by rw[HK9.out];exact hat.place
   have hbl3:=hat2.lt;have hlen:cs3.length=9:=hat2.len;have HR:=hid (show wr.rangeAt b3 o3 cs3 from fun q v hq => by
    have hq1:q<cs3.length:=(List.getElem?_eq_some_iff.1 hq).1;rw[hat2.cell q hq1,← hq];exact(List.getElem?_eq_getElem hq1).symm)
   have HI:=hid (show(Tryz.prog.info? 119).map (·.size)=some cs3.length by rw[hlen];kernel_rfl);have HI2:=hid (show(Tryz.prog.info? 119).map (·.size)=some cs3.toArray.size by rw[List.size_toArray,hlen];kernel_rfl);have HON:=hid (all_oneCell_toArray (Ac.ones _ _ _ _ hat2.reads));have HRD:=hid hat2.reads;obtain⟨Z,hZ⟩:∃Z:Array Value,#[int i64 0,int i64 0,.string ⟨#[]⟩,int i64 0,int i64 0,int i64 0,.slice none 0 0,.slice none 0 0,.slice none 0 0] =Z:=⟨_,rfl⟩;have hZs:Z.size=9:=by rw[← hZ];rfl
   have KZ:=Blk.new wr 119 Z;have HTH:=hid (Blk.there KZ cs3.toArray.size (by rw[List.size_toArray,hlen,hZs];exact Nat.le_refl _));obtain⟨w3,hW2⟩:∃w3,(wr.alloc (.cells Z 119)).setCells wr.heap.size 0 cs3.toArray.toList=w3:=⟨_,rfl⟩;have K3:=hid (show Blk w3 wr.heap.size 119 cs3.toArray by rw[← hW2];exact Blk.laid KZ _ (by rw[hZs];exact hlen.symm));have B2:=hid (show Below wr.heap.size wr w3 by rw[← hW2];exact Aw (Ah (Below.refl _ _) _) _ 0 (Nat.le_refl _));have HW2:=hid hW2;obtain⟨fo,ho⟩:=HO.out;have HO3:=hid (rSl.below Ac.local_ Ac.fixed ho B2.out);have HRD3:=hid (Ap.below Ac.local_ Ac.fixed HRD.out B2.out);have HB3:=hid (HB.out.trans (B2.out.mono (by rw[← HG.out];exact HB.out.size)));have hgb:=K3.out.lt;obtain⟨v0,v1,v2,q0,q1,q2,e,-⟩:=hat.reads;have y0:w3.cell? ⟨wr.heap.size,0,none⟩=some (int i64 all[i].kind):=by rw[K3.out.cell,e];rfl
   have y2:w3.cell? ⟨wr.heap.size,2,none⟩=some (.string all[i].name):=by rw[K3.out.cell,e];rfl
   have y3:w3.cell? ⟨wr.heap.size,3,none⟩=some (int i64 all[i].length):=by rw[K3.out.cell,e];rfl
   have HNW:=hid (Lr _ all f all[i].name w3 (rSl.below Ac.local_ Ac.fixed HALL.out (by rw[HG.out];exact HB3.out)));have HLEN:=hid hlen;have hLn:L.length≤1000000:=by have:=HLV.out.len;omega
   have hki:(i:Int)<(all.length:Int):=by omega
   have hmem:=hid (HLE.out _ (List.getElem_mem hlti));clear hat hat2 hW2 KZ ho hlen hZs e;obtain⟨r,hr⟩:∃r,all[i] =r:=⟨_,rfl⟩;rw[hr]at y0 y2 y3 HNW HRD HRD3 hmem;have HRE:=hid hr;clear hr;by_cases hkd:r.kind=1
   ·rw[hkd]at y0;have HKD:=hid hkd;clear hkd;by_cases hl0:r.length<0
    ·have HNO:=hid (show¬(all[i].kind =1∧all[i].length≠ -1∧Cb all all[i].name all.length=(i:Int))from by
      rw[HRE.out];rintro⟨a1,a2,-⟩;rcases hmem.out a1 with q|q
      ·exact a2 q
      ·omega)
     go_wp2_with (first
            |(refine wpList_load_mid rfl 119 (.tmp 16) rfl b3 o3 rfl cs3 _ HR.out Tryz.underlying119 rfl HI.out ?_)
            |(refine wpList_store_mid rfl 119 (.tmp 5) (.tmp 17) rfl wr.heap.size 0 cs3.toArray rfl rfl HTH.out HI2.out HON.out ?_;rw[HW2.out])
            |(go_at_call 70;refine HNW.out.mono ?_;rintro e w6 ⟨rfl,rfl⟩))
     go_roundw
     case rel => exact⟨i+1,n,c,A,L,by omega,by go_num,rfl,HN,(show Cz all (i+1) L from HLV.out.skip hlti HNO.out),(show∃_,_ from⟨_,HO3.out⟩),HB3⟩
     case measure => simp[intOf];omega
    ·by_cases hni:Cb all r.name all.length=(i:Int)
     ·rw[hni]at HNW;have HL1:=hid (show r.length≠ -1 by omega);have HNI:=hid hni;clear hni;go_wp2_with (first
       |(refine wpList_load_mid rfl 119 (.tmp 16) rfl b3 o3 rfl cs3 _ HR.out Tryz.underlying119 rfl HI.out ?_)
       |(refine wpList_store_mid rfl 119 (.tmp 5) (.tmp 17) rfl wr.heap.size 0 cs3.toArray rfl rfl HTH.out HI2.out HON.out ?_;rw[HW2.out])
       |(go_at_call 70;refine HNW.out.mono ?_;rintro e w6 ⟨rfl,rfl⟩))
      have hn:n=L.length:=HN.out;have hn1:n≤1000000:=by omega
      have HNL:=hid hn;have Y2:=hid y2;clear hn y0 y2 y3 hl0 hmem HNW HTH HI2 HON HW2 B2 HRD HR hpl3 hpl4 hbl3;obtain⟨g6,hg6⟩:∃g6,wr.heap.size=g6:=⟨_,rfl⟩;rw[hg6]at K3 Y2⊢;try rw[hg6]at hgb
      clear hg6;obtain⟨A',c',e,hcA,hmA,hz⟩:=rSl.at_ Ac.fixed (by omega) HO3.out;injection e with e1 e2 e3
      subst e1 e3;clear e2;have HZ:=hid hz;clear hz;go_loopw [6] (fun v wr =>∃a:Nat,a≤n∧v= int i64 a∧Hid (∀q,(hq:q<L.length)→a≤q→Fc r L[q] =true)∧Hid (Below w3.heap.size w3 wr)) (fun v _ =>(intOf v).toNat)
      case atStart => exact⟨n,Nat.le_refl _,rfl,(fun q hq h => by have:=HNL.out;omega),Below.refl _ _⟩
      case round =>
       obtain⟨a,hana,rfl,HA1,HBW⟩:=hrel;have HAL:=hid (show a≤L.length by have:=HNL.out;omega);by_cases ha0:a=0
       ·have hz0:¬(0:Int)<(a:Int):=by omega
        have hd0:decide ((0:Int)<(a:Int))=false:=decide_eq_false hz0;have hn0:¬0<a:=by omega
        have hd1:decide (0<a)=false:=decide_eq_false hn0;have HA2:=hid (show a=0∨∃(hk1:a - 1<L.length),Fc r L[a - 1] =false from .inl ha0);clear ha0;go_wp2_with fail
        go_quiet (fail)
        have HBW:=hid (BK HBW.out nq);clear hz0 hd0 hd1 hn0;obtain⟨w4,hw4⟩:∃w4,wr.drewN nq=w4:=⟨_,rfl⟩;rw[hw4]at HBW⊢;clear hw4;have HINS:=hid (HLV.out.put hlti HRE.out HKD.out HL1.out HNI.out HAL.out HA1.out HA2.out);have hlk:cs3.length=k:=by rw[HK9.out];exact HLEN.out
        have hk1:¬16777216<k:=by rw[HK9.out];omega
        have hk2:¬k=0:=by rw[HK9.out];omega
        have HO4:=hid (rSl.below Ac.local_ Ac.fixed HO3.out HBW.out);have K4:=hid (K3.out.below HBW.out K3.out.lt);have HRD4:=hid (Ap.below Ac.local_ Ac.fixed HRD3.out HBW.out);have HB4:=hid (HB3.out.trans (HBW.out.mono (by rw[← HG.out];exact HB3.out.size)));obtain⟨-,hq1,hq2⟩:=rSl.bounds HO4.out;obtain⟨q1,q2,hl,hr,-⟩:=rSl.split HO4.out HAL.out;rw[show(fun x:Addr => x.add (a * 9))=fun x => x.add (a * k) by rw[HK9.out]]at hr;have HLl:=hid hl;have HRr:=hid hr;clear hl hr;have hle:=HAL.out;have han:a≤n:=by have:=HNL.out;omega
        have hP1:(0:Int)≤(a:Int):=by omega
        have hP2:(a:Int)≤(n:Int):=by omega
        have hP3:(a:Int)≤(c:Int):=by omega
        have hP4:a≤c:=by omega
        have HLT:=hid (show(L.take a ++ [r]).length +(L.drop a).length≤2000000 by rw[List.length_append,List.length_take,List.length_drop];simp;omega);have HLT2:=hid (show(L.take a).length≤2000000 by rw[List.length_take];omega);have HKS:=hid (show∀W,Below w4.heap.size w4 W→(Sem.run Tryz.prog (loadCellsFrom ⟨g6,0,none⟩ 0 k #[]) W= .ok cs3.toArray W∧Below w4.heap.size w4 W)from fun W hW =>⟨DL (K4.out.below hW K4.out.lt) hlk,hW⟩);have HD1:=hid (fun(W:World) (b:Nat) (hW:Below w4.heap.size w4 W) (hb:Blk W b 119 #[]) (hle:w4.heap.size≤b) => Gi (by omega) HLl.out hW hb hle);have HD2:=hid (fun(W:World) (v:Value) (h1:List Addr) (b:Nat) (hW:Below w4.heap.size w4 W) (ho:Ao 9 119 Ac W w4.heap.size v (L.take a) h1) (hb:Blk W b 119 cs3.toArray) => Gj HLT2.out HRD4.out hW ho hb);have HD3:=hid (fun(W:World) (v:Value) (h1:List Addr) (hW:Below w4.heap.size w4 W) (ho:Ao 9 119 Ac W w4.heap.size v (L.take a ++ [r]) h1) => Gk HLT.out HRr.out hW ho);clear hle HLl HRr HO4 HRD4;go_wp2_with fail
        go_region_held3 (fun w' => Sem.run Tryz.prog (loadCellsFrom ⟨g6,0,none⟩ 0 k #[]) w'= .ok cs3.toArray w'∧Below w4.heap.size w4 w') (exact HKS.out _ (by repeat(with_reducible first|assumption|exact Below.refl _ _|apply Ah|apply AL)))
         (first
          |(refine Bf rfl (.tmp 51) (.tmp 54) 80 rfl _ _ (by rfl) (by rfl) (HD1.out _ _ (by repeat(with_reducible first|assumption|exact Below.refl _ _|apply Ah|apply AL)) (by repeat(with_reducible first|exact Blk.new _ _ _|exact Blk.new1 _ _ _ _|apply Blk.drew_|apply Blk.alloc)) (by simp)) ?_;rintro v7 w7 ⟨h1,o1,s1,r1,-⟩;have B7:=Below.grown (show Below w4.heap.size w4 _ by repeat(with_reducible first|assumption|exact Below.refl _ _|apply Ah|apply AL)) r1 (by simp <;> omega) (fun k hk => by injection hk with hk;omega))
          |(refine Bf rfl (.tmp 55) (.tmp 57) 80 rfl _ _ (by rfl) (by rfl) (HD2.out _ v7 ([] ++ h1) _ (by repeat(with_reducible first|assumption|exact Below.refl _ _|apply Ah|apply AL)) (by repeat(with_reducible first|exact o1|apply Ao.alloc_ Ac.local_ Ac.fixed|apply Ao.drew_ Ac.local_)) (by apply Blk.ofFold;(first|(with_reducible exact Blk.new _ _ _)|(refine Blk.grown ?_ r1 (by simp);repeat(with_reducible first|exact Blk.new _ _ _|exact Blk.new1 _ _ _ _|apply Blk.drew_|apply Blk.alloc)));(rw[hlk];simp))) ?_;rintro v8 w8 ⟨h2,o2,s2,r2,-⟩;have B8:=Below.grown (show Below w4.heap.size w4 _ by repeat(with_reducible first|assumption|exact Below.refl _ _|apply Ah|apply AL)) r2 (by first|exact B7.size|(simp;have:=B7.size;omega)) (fun k hk =>(o1.lt k hk).1))
          |(refine Bf rfl (.tmp 58) (.tmp 61) 80 rfl _ _ (by rfl) (by rfl) (HD3.out _ v8 ([] ++ h1 ++ h2) B8 o2) ?_;rintro v9 w9 ⟨h3,o3,s3,r3,-⟩;have B9:=Below.grown B8 r3 B8.size (fun k hk =>(o2.lt k hk).1)))
        all_goals
         obtain⟨gr,hgr⟩:=o3.reads;obtain⟨A9,c9,e9,hc9,hm9⟩:=o3.length;have E9:=hid hgr.1;subst e9;clear hgr;go_wp2_with fail
         go_roundw
         case rel =>
          exact⟨i+1,_,c9,A9,_,by omega,by go_num,rfl,rfl,HINS.out,⟨_,E9.out⟩,HB4.out.trans (B9.mono (by rw[← HG.out];exact HB4.out.size))⟩
         case measure => simp[intOf];omega
       ·have hz0:(0:Int)<(a:Int):=by omega
        have hd0:decide ((0:Int)<(a:Int))=true:=decide_eq_true hz0;have hn0:0<a:=by omega
        have hd1:decide (0<a)=true:=decide_eq_true hn0;have r1:(a:Int) - 1=((a - 1:Nat):Int):=by omega
        have haL:a - 1<L.length:=by have:=HAL.out;omega
        obtain⟨ad5,b5,o5,cs5,f5,rfl,hat⟩:=HZ.out (a - 1) haL;have hat2:=hat.below Ac.local_ HBW.out;have hpl5:ad5.add ((a - 1) * k)=⟨b5,o5,none⟩:=by rw[HK9.out];exact hat.place
        have hb5:=hat2.lt;obtain⟨u0,u1,u2,t0,t1,t2,ecs,-⟩:=hat2.reads;have p5:wr.cell? ⟨b5,o5+2,none⟩=some (.string L[a - 1].name):=by
         have:=hat2.cell 2 (by rw[hat2.len];omega);simpa [ecs]using this
        have p2:wr.cell? ⟨g6,2,none⟩=some (.string r.name):=(HBW.out.cell (p:=⟨g6,2,none⟩) K3.out.lt).trans Y2.out;have hg6l:g6<wr.heap.size:=Nat.lt_of_lt_of_le K3.out.lt HBW.out.size;clear hat hat2 ecs;obtain⟨pj,hpj⟩:∃pj,Fc r L[a - 1] =pj:=⟨_,rfl⟩;have HPJ:=hid hpj;unfold Fc at hpj;have hjz:((a - 1:Nat):Int)<(n:Int):=by omega
        have haz:(0:Int)≤((a - 1:Nat):Int):=by omega
        go_wp2_with fail
        go_quiet (fail)
        try rw[hpj]
        have HBW1:=hid (BK HBW.out nq);clear hjz haz hpl5 p5 p2 hpj hg6l;cases pj with
        |true =>
         go_wp2_with fail
         go_roundw
         case rel =>
          refine⟨a - 1,by omega,by first|rfl|go_num,(show∀_,_ from fun q hq haq => ?_),HBW1⟩;by_cases e:q=a - 1
          ·subst e;exact HPJ.out
          ·exact HA1.out q hq (by omega)
         case measure => simp[intOf];omega
        |false =>
         have HA2:=hid (show a=0∨∃(hk1:a - 1<L.length),Fc r L[a - 1] =false from .inr ⟨haL,HPJ.out⟩);have HBW:=hid HBW1.out;clear r1 hz0 hb5 hd0 hd1 hn0;obtain⟨w4,hw4⟩:∃w4,wr.drewN nq=w4:=⟨_,rfl⟩;rw[hw4]at HBW HBW1⊢;clear hw4 HBW1;have HINS:=hid (HLV.out.put hlti HRE.out HKD.out HL1.out HNI.out HAL.out HA1.out HA2.out);have hlk:cs3.length=k:=by rw[HK9.out];exact HLEN.out
         have hk1:¬16777216<k:=by rw[HK9.out];omega
         have hk2:¬k=0:=by rw[HK9.out];omega
         have HO4:=hid (rSl.below Ac.local_ Ac.fixed HO3.out HBW.out);have K4:=hid (K3.out.below HBW.out K3.out.lt);have HRD4:=hid (Ap.below Ac.local_ Ac.fixed HRD3.out HBW.out);have HB4:=hid (HB3.out.trans (HBW.out.mono (by rw[← HG.out];exact HB3.out.size)));obtain⟨-,hq1,hq2⟩:=rSl.bounds HO4.out;obtain⟨q1,q2,hl,hr,-⟩:=rSl.split HO4.out HAL.out;rw[show(fun x:Addr => x.add (a * 9))=fun x => x.add (a * k) by rw[HK9.out]]at hr;have HLl:=hid hl;have HRr:=hid hr;clear hl hr;have hle:=HAL.out;have han:a≤n:=by have:=HNL.out;omega
         have hP1:(0:Int)≤(a:Int):=by omega
         have hP2:(a:Int)≤(n:Int):=by omega
         have hP3:(a:Int)≤(c:Int):=by omega
         have hP4:a≤c:=by omega
         have HLT:=hid (show(L.take a ++ [r]).length +(L.drop a).length≤2000000 by rw[List.length_append,List.length_take,List.length_drop];simp;omega);have HLT2:=hid (show(L.take a).length≤2000000 by rw[List.length_take];omega);have HKS:=hid (show∀W,Below w4.heap.size w4 W→(Sem.run Tryz.prog (loadCellsFrom ⟨g6,0,none⟩ 0 k #[]) W= .ok cs3.toArray W∧Below w4.heap.size w4 W)from fun W hW =>⟨DL (K4.out.below hW K4.out.lt) hlk,hW⟩);have HD1:=hid (fun(W:World) (b:Nat) (hW:Below w4.heap.size w4 W) (hb:Blk W b 119 #[]) (hle:w4.heap.size≤b) => Gi (by omega) HLl.out hW hb hle);have HD2:=hid (fun(W:World) (v:Value) (h1:List Addr) (b:Nat) (hW:Below w4.heap.size w4 W) (ho:Ao 9 119 Ac W w4.heap.size v (L.take a) h1) (hb:Blk W b 119 cs3.toArray) => Gj HLT2.out HRD4.out hW ho hb);have HD3:=hid (fun(W:World) (v:Value) (h1:List Addr) (hW:Below w4.heap.size w4 W) (ho:Ao 9 119 Ac W w4.heap.size v (L.take a ++ [r]) h1) => Gk HLT.out HRr.out hW ho);clear hle HLl HRr HO4 HRD4;go_wp2_with fail
         go_region_held3 (fun w' => Sem.run Tryz.prog (loadCellsFrom ⟨g6,0,none⟩ 0 k #[]) w'= .ok cs3.toArray w'∧Below w4.heap.size w4 w') (exact HKS.out _ (by repeat(with_reducible first|assumption|exact Below.refl _ _|apply Ah|apply AL)))
          (first
           |(refine Bf rfl (.tmp 51) (.tmp 54) 80 rfl _ _ (by rfl) (by rfl) (HD1.out _ _ (by repeat(with_reducible first|assumption|exact Below.refl _ _|apply Ah|apply AL)) (by repeat(with_reducible first|exact Blk.new _ _ _|exact Blk.new1 _ _ _ _|apply Blk.drew_|apply Blk.alloc)) (by simp)) ?_;rintro v7 w7 ⟨h1,o1,s1,r1,-⟩;have B7:=Below.grown (show Below w4.heap.size w4 _ by repeat(with_reducible first|assumption|exact Below.refl _ _|apply Ah|apply AL)) r1 (by simp <;> omega) (fun k hk => by injection hk with hk;omega))
           |(refine Bf rfl (.tmp 55) (.tmp 57) 80 rfl _ _ (by rfl) (by rfl) (HD2.out _ v7 ([] ++ h1) _ (by repeat(with_reducible first|assumption|exact Below.refl _ _|apply Ah|apply AL)) (by repeat(with_reducible first|exact o1|apply Ao.alloc_ Ac.local_ Ac.fixed|apply Ao.drew_ Ac.local_)) (by apply Blk.ofFold;(first|(with_reducible exact Blk.new _ _ _)|(refine Blk.grown ?_ r1 (by simp);repeat(with_reducible first|exact Blk.new _ _ _|exact Blk.new1 _ _ _ _|apply Blk.drew_|apply Blk.alloc)));(rw[hlk];simp))) ?_;rintro v8 w8 ⟨h2,o2,s2,r2,-⟩;have B8:=Below.grown (show Below w4.heap.size w4 _ by repeat(with_reducible first|assumption|exact Below.refl _ _|apply Ah|apply AL)) r2 (by first|exact B7.size|(simp;have:=B7.size;omega)) (fun k hk =>(o1.lt k hk).1))
           |(refine Bf rfl (.tmp 58) (.tmp 61) 80 rfl _ _ (by rfl) (by rfl) (HD3.out _ v8 ([] ++ h1 ++ h2) B8 o2) ?_;rintro v9 w9 ⟨h3,o3,s3,r3,-⟩;have B9:=Below.grown B8 r3 B8.size (fun k hk =>(o2.lt k hk).1)))
         all_goals
          obtain⟨gr,hgr⟩:=o3.reads;obtain⟨A9,c9,e9,hc9,hm9⟩:=o3.length;have E9:=hid hgr.1;subst e9;clear hgr;go_wp2_with fail
          go_roundw
          case rel =>
           exact⟨i+1,_,c9,A9,_,by omega,by go_num,rfl,rfl,HINS.out,⟨_,E9.out⟩,HB4.out.trans (B9.mono (by rw[← HG.out];exact HB4.out.size))⟩
          case measure => simp[intOf];omega
     ·obtain⟨nv,hnv⟩:∃nv,Cb all r.name all.length=nv:=⟨_,rfl⟩;rw[hnv]at HNW hni;have HNV:=hid hnv;have HNI:=hid hni;have hnb:(nv !=(i:Int))=true:=bne_iff_ne.2 hni;clear hnv hni;have HNO:=hid (show¬(all[i].kind =1∧all[i].length≠ -1∧Cb all all[i].name all.length=(i:Int))from by
       rw[HRE.out];rintro⟨-,-,a3⟩;rw[HNV.out]at a3;exact HNI.out a3)
      go_wp2_with (first
             |(refine wpList_load_mid rfl 119 (.tmp 16) rfl b3 o3 rfl cs3 _ HR.out Tryz.underlying119 rfl HI.out ?_)
             |(refine wpList_store_mid rfl 119 (.tmp 5) (.tmp 17) rfl wr.heap.size 0 cs3.toArray rfl rfl HTH.out HI2.out HON.out ?_;rw[HW2.out])
             |(go_at_call 70;refine HNW.out.mono ?_;rintro e w6 ⟨rfl,rfl⟩))
      go_roundw
      case rel => exact⟨i+1,n,c,A,L,by omega,by go_num,rfl,HN,(show Cz all (i+1) L from HLV.out.skip hlti HNO.out),(show∃_,_ from⟨_,HO3.out⟩),HB3⟩
      case measure => simp[intOf];omega
   ·have hkb:(r.kind != 1)=true:=bne_iff_ne.2 hkd;have HKD:=hid hkd;clear hkd;have HNO:=hid (show¬(all[i].kind =1∧all[i].length≠ -1∧Cb all all[i].name all.length=(i:Int))from by
     rw[HRE.out];rintro⟨a1,-⟩;exact HKD.out a1)
    go_wp2_with (first
           |(refine wpList_load_mid rfl 119 (.tmp 16) rfl b3 o3 rfl cs3 _ HR.out Tryz.underlying119 rfl HI.out ?_)
           |(refine wpList_store_mid rfl 119 (.tmp 5) (.tmp 17) rfl wr.heap.size 0 cs3.toArray rfl rfl HTH.out HI2.out HON.out ?_;rw[HW2.out])
           |(go_at_call 70;refine HNW.out.mono ?_;rintro e w6 ⟨rfl,rfl⟩))
    go_roundw
    case rel => exact⟨i+1,n,c,A,L,by omega,by go_num,rfl,HN,(show Cz all (i+1) L from HLV.out.skip hlti HNO.out),(show∃_,_ from⟨_,HO3.out⟩),HB3⟩
    case measure => simp[intOf];omega
  ·obtain rfl:i=all.length:=by omega
   go_wp2_with fail
   go_ret
   have h4:n=L.length:=HN.out;obtain⟨fo,h5⟩:=HO.out;subst h4;exact⟨L,A,c,fo,rfl,HLV.out.all_,h5,by rw[HG.out];exact HB.out⟩
end Go.Proofs.YtfjkoifpdoemdaaGreat
