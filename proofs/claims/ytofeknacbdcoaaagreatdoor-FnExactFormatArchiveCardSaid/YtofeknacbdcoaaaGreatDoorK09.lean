/- Part 9 of the proof. -/
import Derived.Test.YtofeknacbdcoaaaGreatDoorK08
import Derived.Test.YtofeknacbdcoaaaGreatDoorK01
import Derived.Test.YtofeknacbdcoaaaGreatDoorK02
set_option maxHeartbeats 8000000
set_option maxRecDepth 100000
set_option linter.unusedVariables false
set_option linter.unusedSimpArgs false
open Go.Proofs.Tryz
open Go.Value (int)
open Go.IntKind (i64)
namespace Go.Proofs.YtofeknacbdcoaaaGreatDoor
open Go.RowKit Go.Lib Go.Sort
theorem LK:∀l:List Aj,(BV l).length =(C0 l).length:=fun l => by
 obtain⟨S,c,e,-⟩:=Ic _ l rfl;rw[<-c,bH,e.length_eq,List.length_zipIdx]
theorem rSl.bounds {α k}{R:AC α}{w fs A n c}{ds:List α}(h:rSl k R w fs (.slice A n c) ds):n=ds.length/\n<=c/\c<=9223372036854775807:=by
 obtain⟨p,q,e,l,o⟩:=rSl.head h;injection e with r f i
 subst f i;exact⟨rfl,l,o⟩
theorem yT{p:Prop}(h:p:=by repeat(with_reducible first|assumption|exact aC _ _|apply Ac|apply Am)):p:=h
theorem yS{p:Prop}(h:p:=by repeat(with_reducible first|exact Blk.new _ _ _|exact Blk.new1 _ _ _ _|apply Blk.drew_|apply Blk.alloc)):p:=h
theorem yR{p:Prop}(h:p:=by repeat(with_reducible first|exact o1|apply Ak.alloc_ Af.L Af.X|apply Ak.drew_ Af.L)):p:=h
theorem PZ(k:Nat)(ce:k=9)(zR:∀w,(Go.sizeOf 105).run prog w= .ok k w)(aR:∀w,(isAgg 105).run prog w= .ok true w)(p fs d w)(h:AtW w p fs d)(h2:d.v.length=2)(c5:(Dk d).length<=1000000):
  Calls prog 43 #[.pointer (some (zE p))] w fun e w' =>∃A c cl,e= .returned (.slice A (AU d).length c)/\rSl 9 Af w' cl (.slice A (AU d).length c) (AU d)/\Below w w w':=by
 have y:=zq ce;clear ce;obtain⟨A0,A1,A2,c0,c1,c2,f0,f1,f2,al⟩:=h.cells;obtain⟨dh,dj,e,hc,hm,hx⟩:=rSl.at_ AE.X zZ al.rtp;injection e with e1 _ e3
 subst e1 e3;have HX:=zq hx;have c7:=al.tp;have hp:=al.lt;have HT:=zq (rSl.there AE.X al.rtp);have H2:=zq h2;have de:d.v.length<=2:=by omega
 have dd:2<=d.v.length:=by omega
 clear hx al h h2;go_enter func43,ntmps43
 go_wp2_with fail
 obtain⟨g0,a6⟩:∃g0,w.heap.size=g0:=zJ;have HG:=zq a6;have a2:Hid (∃fo,rSl 9 Af (w.alloc (.cells #[] 105)) fo (.slice (some (zE g0)) 0 0) (BV [])):=⟨[],some (zE g0),0,rfl,aD _,by omega,.inl ⟨rfl,rfl⟩⟩;have cb:Hid (Below g0 w (w.alloc (.cells #[] 105))):=(aC g0 w).alloc zZ _;rw[a6];rw[a6]at hp;clear a6;go_loopw [4,3] (fun i v wr =>∃(j n c:Nat) (A:Option Addr),j<=d.v.length/\i=j/\v= .slice A n c/\Hid (n=(BV ((d.v.take j).flatMap Be.recs)).length)/\Hid (∃fo,rSl 9 Af wr fo (.slice A n c) (BV ((d.v.take j).flatMap Be.recs)))/\Hid (Below g0 w wr)) (fun i _ _ => d.v.length - (intOf i).toNat)
 ·exact⟨0,0,0,some (zE g0),by omega,rfl,rfl,rfl,a2.o,cb.o⟩
 ·clear a2 cb;obtain⟨j,n,c,A,hj,rfl,rfl,HN,HO,HB⟩:=hrel;by_cases a7:j<d.v.length
  ·have cw:(j:Int)<2:=by omega
   obtain⟨ad,b,o,cs,fk,rfl,u⟩:=HX.o j a7;have l:=u.B AE.L (show Below w w wr by rw[HG.o];exact HB.o);obtain⟨v0,ft,e,rfl,az⟩:=u.reads;subst e;obtain⟨A3,c3,e,dm,dp,hy⟩:=rSl.at_ Af.X zZ az;subst e;have HY:=zq hy;have du:=u.place;have ch:w.cell? ⟨b,o+1,none⟩=some (.slice A3 d.v[j].recs.length c3):=u.cell 1 zX;have cd:b<g0:=by rw[<-HG.o];exact u.lt
   have HL:=zq (show((d.v.take j).flatMap Be.recs).length +d.v[j].recs.length<=1000000 by
    have:Dk d=(d.v.take (j+1)).flatMap Be.recs ++(d.v.drop (j+1)).flatMap Be.recs:=by
     rw[<-List.flatMap_append,List.take_append_drop];rfl
    have h2:=c5;rw[this,aK a7,List.flatMap_append]at h2;simp at h2;simp;omega)
   clear u l az hy;go_wp2_with fail
   obtain⟨Dj,bp⟩:∃Dj,(d.v.take j).flatMap Be.recs=Dj:=zJ;obtain⟨z,bv⟩:∃z,d.v[j].recs =z:=zJ;rw[bp]at HN HO HL;rw[bv]at HY HL ch;have bx:=zq bp;have b2:=zq bv;have dv:z.length<=1000000:=by have:=HL.o;omega
   clear bp bv;go_loopw [5,3,6,7] (fun i v _ _ wr =>∃(i' n c:Nat) (A:Option Addr),i'<=z.length/\i=i'/\v= .slice A n c/\Hid (n=(BV (Dj ++ z.take i')).length)/\Hid (∃fo,rSl 9 Af wr fo (.slice A n c) (BV (Dj ++ z.take i')))/\Hid (Below g0 w wr)) (fun i _ _ _ _ => z.length - (intOf i).toNat)
   ·exact⟨0,n,c,A,by omega,rfl,rfl,(show _=_ by simpa using HN.o),(show∃_,_ by simpa using HO.o),HB.o⟩
   ·clear HO HN HB;obtain⟨i,n,c,A,hi,rfl,rfl,HN,HO,HB⟩:=hrel;have dg:=(HB.o.cell (p:=⟨p,11,none⟩) hp).T c7;have t1:=(HB.o.cell (p:=⟨b,o+1,none⟩) cd).T ch;have dl:=HB.o.size;have db:b<wr.heap.size:=by have:=HG.o;omega
    by_cases ba:i<z.length
    ·obtain⟨cj,b3,o3,f,f3,rfl,u⟩:=HY.o i ba;have l:=u.B Af.L (show Below w w wr by rw[HG.o];exact HB.o);have df:cj.add (i * k)=⟨b3,o3,none⟩:=by rw[y.o];exact u.place
     have dc:=l.lt;have aa:f.length=9:=l.len;have HR:=zq (show wr.rangeAt b3 o3 f from fun q v hq => by
      have a8:q<f.length:=(List.getElem?_eq_some_iff.1 hq).1;rw[l.cell q a8,<-hq];exact(aO a8).symm)
     obtain⟨HI,bz,b0,bm⟩:=zH (show(prog.info? 105).map (·.size)=some f.length by rw[aa];kernel_rfl) (show(prog.info? 105).map (·.size)=some f.toArray.size by rw[bD,aa];kernel_rfl) (all_oneCell_toArray (Af.ones _ _ _ _ l.reads)) l.reads;obtain⟨Z,hZ⟩:∃Z:Array Value,#[int i64 0,(),.string ⟨#[]⟩,(),(),(),zQ,zQ,zQ] =Z:=zJ;have bq:Z.size=9:=by rw[<-hZ];rfl
     have KZ:=Blk.new wr 105 Z;have b6:=zq (Blk.there KZ f.toArray.size (by rw[bD,aa,bq];exact aD _));obtain⟨W2,a5⟩:∃W2,(wr.alloc (.cells Z 105)).setCells wr 0 f.toArray.toList=W2:=zJ;obtain⟨g6,av⟩:∃g6,wr.heap.size=g6:=zJ;obtain⟨K2,B2,b7,di⟩:=zH (show Blk W2 wr 105 f.toArray by rw[<-a5];exact Blk.laid KZ _ (by rw[bq];exact aa.symm)) (show Below wr wr W2 by rw[<-a5];exact AS (Ac (aC _ _) _) _ 0 (aD _)) a5 av;obtain⟨fo,ho⟩:=HO.o;obtain⟨ap,ai,bl,aj⟩:=zH (rSl.B Af.L Af.X ho B2.o) (AC.B Af.L Af.X bm.o B2.o) (Blk.rangeAll K2.o) (HB.o.T (B2.o.M (by rw[<-HG.o];exact HB.o.size)));have HC:=zq (Tw (.slice A n c) (BV (Dj ++ z.take i)) f z[i] fo f3 W2 ap.o ai.o);clear u l a5 KZ ho av;have a9:BV (Dj ++ z.take (i+1))=Kp (BV (Dj ++ z.take i)) z[i]:=by
      rw[aK ba,<-List.append_assoc,IB]
     unfold Kp Jk at a9;obtain⟨bh,cc⟩:∃bh,(BV (Dj ++ z.take i)).any (fun x => decide (x=z[i]))=bh:=zJ;rw[cc]at HC a9;have bn:=zq a9;have am:=zq aa;clear cc a9 aa bq;cases bh with
     |true =>
      go_wp2_with (first
       |(refine aE rfl 105 (.tmp 35) rfl b3 o3 rfl f _ HR.o underlying105 rfl HI.o ?_)
       |(refine aV rfl 105 (.tmp 6) (.tmp 36) rfl wr 0 f.toArray rfl rfl b6.o bz.o b0.o ?_;rw[b7.o])
       |(refine aE rfl 105 (.tmp 6) rfl wr 0 rfl f _ bl.o underlying105 rfl HI.o ?_)
       |(go_at_call 81;refine HC.o.M ?_;rintro e w3 ⟨rfl,au⟩;have B3:=zq au;clear au))
      go_roundw
      ·have hs:=bn.o;simp only[if_true]at hs;exact⟨i+1,n,c,A,by omega,by go_num,rfl,(show _=_ by rw[hs];exact HN.o),(show∃_,_ by rw[hs];exact⟨_,rSl.B Af.L Af.X ap.o B3.o⟩),aj.o.T (B3.o.M (by rw[<-HG.o];exact aj.o.size))⟩
      ·simp[intOf];omega
     |false =>
      have hs:=bn.o;simp only[Bool.false_eq_true,if_false]at hs;have HS:=zq hs;clear hs bn;have cm:(BV (Dj ++ z.take i)).length<=1000000:=by
       have h1:=Hj _ (Dj ++ z.take i) rfl;have h3:=HL.o;rw[aU,aX]at h1;rw[LK];omega
      obtain⟨L,hL⟩:∃L,BV (Dj ++ z.take i)=L:=zJ;rw[hL]at HN ap HS cm;obtain⟨r,hr⟩:∃r,z[i] =r:=zJ;rw[hr]at bm ai HS;clear hL hr HO;have b4:=zq HS.o;clear HS;go_wp2_with (first
       |(refine aE rfl 105 (.tmp 35) rfl b3 o3 rfl f _ HR.o underlying105 rfl HI.o ?_)
       |(refine aV rfl 105 (.tmp 6) (.tmp 36) rfl wr 0 f.toArray rfl rfl b6.o bz.o b0.o ?_;rw[b7.o])
       |(refine aE rfl 105 (.tmp 6) rfl wr 0 rfl f _ bl.o underlying105 rfl HI.o ?_)
       |(go_at_call 81;refine HC.o.M ?_;rintro e w3 ⟨rfl,au⟩;have B3:=zq au;clear au))
      have hn:n=L.length:=HN.o;have dt:n<=1000000:=by omega
      obtain⟨K3,a3,bk,aq,a4⟩:=zG (K2.o.B B3.o K2.o.lt) (aj.o.T (B3.o.M (by rw[<-HG.o];exact aj.o.size))) (rSl.B Af.L Af.X ap.o B3.o) (AC.B Af.L Af.X ai.o B3.o) hn;clear hn ap ai bm aj B3 bl K2
      -- THE PLACE
      obtain⟨g6,av⟩:∃g6,wr.heap.size=g6:=zJ;rw[av]at K3⊢;clear av;obtain⟨A',c',e,dn,dr,hz⟩:=rSl.at_ Af.X zZ bk.o;injection e with e1 e2 e3
      subst e1 e3;clear e2;have HZ:=zq hz;clear hz;go_loopw [7] (fun v wr =>∃a:Nat,a<=n/\v=a/\Hid (∀q,(hq:q<L.length)->a<=q->Bp r L[q] =true)/\Hid (Below w3 w3 wr)) (fun v _ =>(intOf v).toNat)
      ·exact⟨n,aD _,rfl,(fun q hq h => by have:=a4.o;omega),aC _ _⟩
      ·obtain⟨a,da,rfl,bb,s⟩:=hrel;have ae:=zq (show a<=L.length by have:=a4.o;omega);by_cases b8:a=0
       ·have a1:¬(0:Int)<(a:Int):=by omega
        have br:decide ((0:Int)<(a:Int))=false:=aG a1;have ay:¬0<a:=by omega
        have bs:decide (0<a)=false:=aG ay;have bc:=zq (show a=0∨∃(bt:a - 1<L.length),Bp r L[a - 1] =false from .inl b8);clear b8;go_wp2_with fail
        go_quiet (fail)
        have s:=zq (AT s.o nq);clear a1 br bs ay;obtain⟨w4,a0⟩:∃w4,wr.drewN nq=w4:=zJ;rw[a0]at s⊢;clear a0;obtain⟨ci,ca⟩:∃x:Nat,x=0:=zJ;clear ca ci;have bg:=zq (ME ae.o bb.o bc.o);have ax:f.length=k:=by rw[y.o];exact am.o
        have bt:¬16777216<k:=by rw[y.o];omega
        have cy:¬k=0:=by rw[y.o];omega
        obtain⟨af,K4,ab,ak⟩:=zH (rSl.B Af.L Af.X bk.o s.o) (K3.o.B s.o K3.o.lt) (AC.B Af.L Af.X aq.o s.o) (a3.o.T (s.o.M (by rw[<-HG.o];exact a3.o.size)));obtain⟨-,a8,c4⟩:=rSl.bounds af.o;obtain⟨q1,q2,hl,hr,-⟩:=rSl.split af.o ae.o;rw[show(fun x:Addr => x.add (a * 9))=fun x => x.add (a * k) by rw[y.o]]at hr;have ao:=zq hl;have ar:=zq hr;clear hl hr;have ag:=ae.o;have cr:a<=n:=by have:=a4.o;omega
        have cn:(0:Int)<=(a:Int):=by omega
        have co:(a:Int)<=(n:Int):=by omega
        have cp:(a:Int)<=(c:Int):=by omega
        have cq:a<=c:=by omega
        obtain⟨bj,an,bi,bd⟩:=zH (show(L.take a ++ [r]).length +(L.drop a).length<=2000000 by rw[aU,aX,bP];simp;omega) (show(L.take a).length<=2000000 by rw[aX];omega) (show∀W,Below w4 w4 W->(Sem.run prog (loadCellsFrom (zE g6) 0 k #[]) W= .ok f.toArray W/\Below w4 w4 W)from fun W hW =>⟨Fp (K4.o.B hW K4.o.lt) ax,hW⟩) (fun(W:World) (b:Nat) (hW:Below w4 w4 W) (hb:Blk W b 105 #[]) (ag:w4.heap.size<=b) => Ki zZ ao.o hW hb ag);have be:=zq (fun(W:World) (v:Value) (h1:List Addr) (b:Nat) (hW:Below w4 w4 W) (ho:Ak 9 105 Af W w4 v (L.take a) h1) (hb:Blk W b 105 f.toArray) => Kj an.o ab.o hW ho hb);have bf:=zq (fun(W:World) (v:Value) (h1:List Addr) (hW:Below w4 w4 W) (ho:Ak 9 105 Af W w4 v (L.take a ++ [r]) h1) => IZ bj.o ar.o hW ho);clear ag ao ar af ab;go_wp2_with fail
        go_region_held3 (fun w' => Sem.run prog (loadCellsFrom (zE g6) 0 k #[]) w'= .ok f.toArray w'/\Below w4 w4 w') (exact bi.o _ yT)
         (first
          |(refine AZ rfl (.tmp 55) (.tmp 58) 99 rfl _ _ zT zT (bd.o _ _ yT yS zX) ?_;rintro v7 w7 ⟨h1,o1,s1,r1,-⟩;have B7:=Below.grown (show Below w4 w4 _ by repeat(with_reducible first|assumption|exact aC _ _|apply Ac|apply Am)) r1 (by simp <;> omega) (fun k hk => by injection hk with hk;omega))
          |(refine AZ rfl (.tmp 59) (.tmp 61) 99 rfl _ _ zT zT (be.o _ v7 ([] ++ h1) _ yT yR (by apply Blk.ofFold;(first|(with_reducible exact Blk.new _ _ _)|(refine Blk.grown ?_ r1 zX;repeat(with_reducible first|exact Blk.new _ _ _|exact Blk.new1 _ _ _ _|apply Blk.drew_|apply Blk.alloc)));(rw[ax];simp))) ?_;rintro v8 w8 ⟨h2,o2,s2,r2,-⟩;have B8:=Below.grown (show Below w4 w4 _ by repeat(with_reducible first|assumption|exact aC _ _|apply Ac|apply Am)) r2 (by first|exact B7.size|(simp;have:=B7.size;omega)) (fun k hk =>(o1.lt k hk).1))
          |(refine AZ rfl (.tmp 62) (.tmp 65) 99 rfl _ _ zT zT (bf.o _ v8 ([] ++ h1 ++ h2) B8 o2) ?_;rintro v9 w9 ⟨h3,o3,s3,r3,-⟩;have B9:=Below.grown B8 r3 B8.size (fun k hk =>(o2.lt k hk).1)))
        all_goals
         obtain⟨gr,aw⟩:=o3.reads;obtain⟨A9,c9,e9,cv,cz⟩:=o3.length;have E9:=zq aw.1;subst e9;clear aw;go_wp2
         go_roundw
         ·have ac:BV (Dj ++ z.take (i+1))=L.take a ++ [r] ++ L.drop a:=by rw[b4.o,bg.o];simp
          exact⟨i+1,_,c9,A9,by omega,by go_num,rfl,(show _=_ by rw[ac]),(show∃_,_ by rw[ac];exact⟨_,E9.o⟩),ak.o.T (B9.M (by rw[<-HG.o];exact ak.o.size))⟩
         ·simp[intOf];omega
       ·have a1:(0:Int)<(a:Int):=by omega
        have br:decide ((0:Int)<(a:Int))=true:=aN a1;have ay:0<a:=by omega
        have bs:decide (0<a)=true:=aN ay;have r1:(a:Int) - 1=((a - 1:Nat):Int):=by omega
        have b9:a - 1<L.length:=by have:=ae.o;omega
        obtain⟨ck,b5,o5,bo,f5,rfl,u⟩:=HZ.o (a - 1) b9;have l:=u.B Af.L s.o;have cf:ck.add ((a - 1) * k)=⟨b5,o5,none⟩:=by rw[y.o];exact u.place
        have cu:=l.lt;have l1:∀d os,Sem.run prog (loadCellsFrom (b5,o5) 0 k #[]) (grow (redrawn wr d) os)= .ok bo.toArray (grow (redrawn wr d) os):=fun d os => by
         rw[y.o];exact run_at (l.B Af.L (aI wr d os))
        have l2:∀d os,Sem.run prog (loadCellsFrom (zE g6) 0 k #[]) (grow (redrawn wr d) os)= .ok f.toArray (grow (redrawn wr d) os):=fun d os => by
         have k4:=K3.o.B s.o K3.o.lt;exact Fp (k4.B (aI wr d os) k4.lt) (by rw[y.o];exact am.o)
        have hc:∀d os,Calls prog 82 #[.agg f,.agg bo] (grow (redrawn wr d) os) fun e c8 => e= .returned (.bool (Bp r L[a - 1]))/\∃p:Regrown,c8=grow (redrawn wr p.d) p.os :=
         fun d os => Calls.regrown_of (Tv r L[a - 1] f bo f3 f5 _ (AC.B Af.L Af.X (AC.B Af.L Af.X aq.o s.o) (aI wr d os)) (AC.B Af.L Af.X l.reads (aI wr d os)))
        clear u l;obtain⟨pj,bu⟩:∃pj,Bp r L[a - 1] =pj:=zJ;rw[bu]at hc;have bw:=zq hc;have b1:=zq bu;clear bu hc;have cx:((a - 1:Nat):Int)<(n:Int):=by omega
        have ct:(0:Int)<=((a - 1:Nat):Int):=by omega
        go_wp2_with fail
        refine aF zY zY ?_;repeat(first|go_big_quiet_step (exact bw.o _ _)|quiet_step (exact bw.o _ _))
        refine aQ ?_;intro _ c6;obtain⟨⟨dq,osq⟩,cg⟩:=c6;subst cg;have ah:=zq (s.o.T ((aI wr dq osq).M s.o.size));clear l1 l2 cx ct cf;cases pj with
        |true =>
         go_wp2
         go_roundw
         ·refine⟨a - 1,by omega,by first|rfl|go_num,(show∀_,_ from fun q hq dk => ?_),ah⟩;by_cases e:q=a - 1
          ·subst e;exact b1.o
          ·exact bb.o q hq zZ
         ·simp[intOf];omega
        |false =>
         have bc:=zq (show a=0∨∃(bt:a - 1<L.length),Bp r L[a - 1] =false from .inr ⟨b9,b1.o⟩);have s:=zq ah.o;clear r1 a1 cu br bs ay;obtain⟨w4,a0⟩:∃w4,grow (redrawn wr dq) osq=w4:=zJ;rw[a0]at s ah⊢;clear a0 ah;have bg:=zq (ME ae.o bb.o bc.o);have ax:f.length=k:=by rw[y.o];exact am.o
         have bt:¬16777216<k:=by rw[y.o];omega
         have cy:¬k=0:=by rw[y.o];omega
         obtain⟨af,K4,ab,ak⟩:=zH (rSl.B Af.L Af.X bk.o s.o) (K3.o.B s.o K3.o.lt) (AC.B Af.L Af.X aq.o s.o) (a3.o.T (s.o.M (by rw[<-HG.o];exact a3.o.size)));obtain⟨-,a8,c4⟩:=rSl.bounds af.o;obtain⟨q1,q2,hl,hr,-⟩:=rSl.split af.o ae.o;rw[show(fun x:Addr => x.add (a * 9))=fun x => x.add (a * k) by rw[y.o]]at hr;have ao:=zq hl;have ar:=zq hr;clear hl hr;have ag:=ae.o;have cr:a<=n:=by have:=a4.o;omega
         have cn:(0:Int)<=(a:Int):=by omega
         have co:(a:Int)<=(n:Int):=by omega
         have cp:(a:Int)<=(c:Int):=by omega
         have cq:a<=c:=by omega
         obtain⟨bj,an,bi,bd⟩:=zH (show(L.take a ++ [r]).length +(L.drop a).length<=2000000 by rw[aU,aX,bP];simp;omega) (show(L.take a).length<=2000000 by rw[aX];omega) (show∀W,Below w4 w4 W->(Sem.run prog (loadCellsFrom (zE g6) 0 k #[]) W= .ok f.toArray W/\Below w4 w4 W)from fun W hW =>⟨Fp (K4.o.B hW K4.o.lt) ax,hW⟩) (fun(W:World) (b:Nat) (hW:Below w4 w4 W) (hb:Blk W b 105 #[]) (ag:w4.heap.size<=b) => Ki zZ ao.o hW hb ag);have be:=zq (fun(W:World) (v:Value) (h1:List Addr) (b:Nat) (hW:Below w4 w4 W) (ho:Ak 9 105 Af W w4 v (L.take a) h1) (hb:Blk W b 105 f.toArray) => Kj an.o ab.o hW ho hb);have bf:=zq (fun(W:World) (v:Value) (h1:List Addr) (hW:Below w4 w4 W) (ho:Ak 9 105 Af W w4 v (L.take a ++ [r]) h1) => IZ bj.o ar.o hW ho);clear ag ao ar af ab;go_wp2_with fail
         go_region_held3 (fun w' => Sem.run prog (loadCellsFrom (zE g6) 0 k #[]) w'= .ok f.toArray w'/\Below w4 w4 w') (exact bi.o _ yT)
          (first
           |(refine AZ rfl (.tmp 55) (.tmp 58) 99 rfl _ _ zT zT (bd.o _ _ yT yS zX) ?_;rintro v7 w7 ⟨h1,o1,s1,r1,-⟩;have B7:=Below.grown (show Below w4 w4 _ by repeat(with_reducible first|assumption|exact aC _ _|apply Ac|apply Am)) r1 (by simp <;> omega) (fun k hk => by injection hk with hk;omega))
           |(refine AZ rfl (.tmp 59) (.tmp 61) 99 rfl _ _ zT zT (be.o _ v7 ([] ++ h1) _ yT yR (by apply Blk.ofFold;(first|(with_reducible exact Blk.new _ _ _)|(refine Blk.grown ?_ r1 zX;repeat(with_reducible first|exact Blk.new _ _ _|exact Blk.new1 _ _ _ _|apply Blk.drew_|apply Blk.alloc)));(rw[ax];simp))) ?_;rintro v8 w8 ⟨h2,o2,s2,r2,-⟩;have B8:=Below.grown (show Below w4 w4 _ by repeat(with_reducible first|assumption|exact aC _ _|apply Ac|apply Am)) r2 (by first|exact B7.size|(simp;have:=B7.size;omega)) (fun k hk =>(o1.lt k hk).1))
           |(refine AZ rfl (.tmp 62) (.tmp 65) 99 rfl _ _ zT zT (bf.o _ v8 ([] ++ h1 ++ h2) B8 o2) ?_;rintro v9 w9 ⟨h3,o3,s3,r3,-⟩;have B9:=Below.grown B8 r3 B8.size (fun k hk =>(o2.lt k hk).1)))
         all_goals
          obtain⟨gr,aw⟩:=o3.reads;obtain⟨A9,c9,e9,cv,cz⟩:=o3.length;have E9:=zq aw.1;subst e9;clear aw;go_wp2
          go_roundw
          ·have ac:BV (Dj ++ z.take (i+1))=L.take a ++ [r] ++ L.drop a:=by rw[b4.o,bg.o];simp
           exact⟨i+1,_,c9,A9,by omega,by go_num,rfl,(show _=_ by rw[ac]),(show∃_,_ by rw[ac];exact⟨_,E9.o⟩),ak.o.T (B9.M (by rw[<-HG.o];exact ak.o.size))⟩
          ·simp[intOf];omega
    ·obtain rfl:i=z.length:=by omega
     go_wp2
     go_roundw
     ·refine⟨j+1,n,c,A,by omega,by go_num,rfl,(show _=_ from ?_),(show∃_,_ from ?_),HB⟩
      ·rw[HN.o,aK a7,List.flatMap_append,bx.o,bA];simp[b2.o]
      ·have:=HO.o;rw[bA]at this;rw[aK a7,List.flatMap_append,bx.o];simpa [b2.o]using this
     ·simp[intOf];omega
  ·obtain rfl:j=d.v.length:=by omega
   have cw:¬((d.v.length:Nat):Int)<2:=by omega
   go_wp2
   go_ret
   have h1:=HN.o;have h3:=HO.o;rw[bA]at h1 h3;have h4:n=(AU d).length:=h1;obtain⟨fo,h5⟩:=h3;subst h4;refine⟨A,c,rfl,⟨fo,h5⟩,?_⟩;rw[HG.o];exact HB.o
theorem PY(p fs d w)(h:AtW w p fs d)(l:d.v.length=2)(i:(Dk d).length<=1000000):
  Calls prog 43 #[.pointer (some (zE p))] w fun e w' =>∃A c f,e= .returned (.slice A (AU d).length c)/\rSl 9 Af w' f (.slice A (AU d).length c) (AU d)/\Below w w w' :=
 PZ 9 rfl sizeOf105 isAgg105 p fs d w h l i
def Fl(seq group:Int)(r:Aj):Bool:=decide (r.kind=3/\r.seq=seq/\r.group=group)
def G1(recs:List Aj)(seq group:Int):Bool:=recs.any (Fl seq group)
theorem Tg(d cs f seq group)(p1 p2:Nat)(w)(h:Af w f cs d)(hs:w.cell? ⟨p1,0,none⟩=some (int i64 seq))(hg:w.cell? ⟨p2,0,none⟩=some (int i64 group))(u:p1<w.heap.size)(x:p2<w.heap.size):
  Calls prog 288 #[.agg cs,.pointer (some (zE p1)),.pointer (some (zE p2))] w (zN (.bool (Fl seq group d)) w):=by
 obtain⟨p,r,y,z,s,x5,x6,x7,x8⟩:=d;dsimp only[Af]at h;obtain⟨v0,v1,v2,f0,f1,f2,e,-⟩:=h;subst e;have n:=zq (show∀o:Obj,Below w w (w.alloc o)from fun o =>(aC _ _).alloc (aD _) _);obtain⟨l,c⟩:∃l,Fl seq group ⟨p,r,y,z,s,x5,x6,x7,x8⟩=l:=zJ;rw[c];unfold Fl at c;simp only at c;by_cases q:p=3
 ·subst q;by_cases q:r=seq
  ·subst q;have i:l=(s == group):=by
    rw[<-c,Bool.eq_iff_iff];simp
   subst i;clear c;go_enter func288,ntmps288
   go_wp2
   go_ret
   exact⟨rfl,n.o _⟩
  ·have i:l=false:=by rw[<-c];simp[q]
   subst i;have hq:(r == seq)=false:=by simpa using q
   clear c q;go_enter func288,ntmps288
   go_wp2
   go_ret
   exact⟨rfl,n.o _⟩
 ·have i:l=false:=by rw[<-c];simp[q]
  subst i;have hq:(p == 3)=false:=by simpa using q
  clear c q;go_enter func288,ntmps288
  go_wp2
  go_ret
  exact⟨rfl,n.o _⟩
theorem isDone_c(v ds f seq group w)(h:rSl 9 Af w f v ds):
  Calls prog 280 #[v,int i64 seq,int i64 group] w (zN (.bool (G1 ds seq group)) w):=by
 have p:Below w w ((w.alloc (.cells #[int i64 seq] 2)).alloc (.cells #[int i64 group] 2)):=((aC _ _).alloc (aD _) _).alloc zX _;have i:=(Blk.new w 2 #[int i64 seq]).alloc (.cells #[int i64 group] 2);have l:=Blk.new1 w (.cells #[int i64 seq] 2) 2 #[int i64 group];have u:=zq (JA 9 zZ sizeOf105 isAgg105 (Fl seq group) 288 #[.pointer (some (zE w)),.pointer (some (zE (w.heap.size+1)))] v ds f _ (enters_of func288 zY rfl) (rSl.B Af.L Af.X h p)
  (fun W cs fk j y n x => Tg ds[j] cs fk seq group w (w.heap.size+1) W x (((i.B n i.lt).cell 0).T rfl) (((l.B n l.lt).cell 0).T rfl) (i.B n i.lt).lt (l.B n l.lt).lt))
 have s:=zq p;obtain⟨A,c,rfl,-⟩:=rSl.head h;clear h p i l;unfold G1;obtain⟨r,hr⟩:∃r,ds.any (Fl seq group)=r:=zJ;rw[hr]at u⊢;clear hr;go_enter func280,ntmps280
 go_wp2_with (go_at_call 215;refine u.o.M ?_;rintro e z ⟨rfl,q⟩)
 go_ret
 exact⟨rfl,s.o.T (q.M s.o.size)⟩
theorem l6Done_c(v ds f seq group w)(h:rSl 9 Af w f v ds):
  Calls prog 240 #[v,int i64 seq,int i64 group] w (zM (.bool (G1 ds seq group)) w):=by
 obtain⟨A,c,rfl,hc,hm,hx⟩:=rSl.at_ Af.X zZ h;have HX:=zq hx;clear hx h;obtain⟨rr,u⟩:∃rr,G1 ds seq group=rr:=zJ;rw[u];have RR:=zq u;clear u;go_enter func240,ntmps240
 go_wp2
 go_loop [7] (fun i =>∃j:Nat,j<=ds.length/\i=j/\Hid (∀q,(hq:q<ds.length)->q<j->Fl seq group ds[q] =false)) (fun i => ds.length - (intOf i).toNat)
 ·exact⟨0,by omega,rfl,fun q hq h => by omega⟩
 ·obtain⟨j,hj,rfl,HF⟩:=hrel;by_cases ab:j<ds.length
  ·obtain⟨ad,b,o,cs,fk,rfl,l⟩:=HX.o j ab;have ah:=l.place;have af:=l.reads;obtain⟨v0,v1,v2,f0,f1,f2,e,-⟩:=af;have ag:=l.lt;have c0:w.cell? ⟨b,o,none⟩=some (int i64 ds[j].kind):=by
    have:=l.cell 0 (by rw[l.len];omega);simpa [e]using this
   have c1:w.cell? ⟨b,o+1,none⟩=some (int i64 ds[j].seq):=by
    have:=l.cell 1 (by rw[l.len];omega);simpa [e]using this
   have c4:w.cell? ⟨b,o+4,none⟩=some (int i64 ds[j].group):=by
    have:=l.cell 4 (by rw[l.len];omega);simpa [e]using this
   clear l e;have aa:Fl seq group ds[j] =decide (ds[j].kind =3/\ds[j].seq =seq/\ds[j].group =group):=rfl;have r:=zq aa;clear aa;have s:Fl seq group ds[j] =false->∀q,(hq:q<ds.length)->q<j+1->Fl seq group ds[q] =false:=fun p q hq ai => by
    by_cases e:q=j
    ·subst e;exact p
    ·exact HF.o q hq zZ
   have ST:=zq s;clear s;by_cases q:ds[j].kind =3
   ·have hq:(ds[j].kind == 3)=true:=by simpa using q
    by_cases y:ds[j].seq =seq
    ·have ac:(ds[j].seq == seq)=true:=by simpa using y
     by_cases z:ds[j].group =group
     ·have ae:(ds[j].group == group)=true:=by simpa using z
      have e1:rr=true:=by rw[<-RR.o];exact List.any_eq_true.2 ⟨_,aT ab,by rw[r.o];simp[q,y,z]⟩
      subst e1;clear q y z;go_wp2
      go_ret
      exact⟨rfl,rfl⟩
     ·have ae:(ds[j].group == group)=false:=by simpa using z
      have p:Fl seq group ds[j] =false:=by rw[r.o];simp[z]
      have n:=zq p;clear q y z p;go_wp2
      go_round
      ·exact⟨j+1,by omega,by go_num,ST.o n.o⟩
      ·simp[intOf];omega
    ·have ac:(ds[j].seq == seq)=false:=by simpa using y
     have p:Fl seq group ds[j] =false:=by rw[r.o];simp[y]
     have n:=zq p;clear q y p;go_wp2
     go_round
     ·exact⟨j+1,by omega,by go_num,ST.o n.o⟩
     ·simp[intOf];omega
   ·have hq:(ds[j].kind == 3)=false:=by simpa using q
    have p:Fl seq group ds[j] =false:=by rw[r.o];simp[q]
    have n:=zq p;clear q p;go_wp2
    go_round
    ·exact⟨j+1,by omega,by go_num,ST.o n.o⟩
    ·simp[intOf];omega
  ·have e1:rr=false:=by
    rw[<-RR.o];refine List.any_eq_false.2 fun x hx => ?_
    obtain⟨q,hq,rfl⟩:=aY hx;simpa using HF.o q hq zZ
   subst e1;go_wp2
   go_ret
   exact⟨rfl,rfl⟩
end Go.Proofs.YtofeknacbdcoaaaGreatDoor
namespace Go.Proofs.YtofeknacbdcoaaaGreatDoor
open Go.RowKit
def Ap(n lo hi:Int):Bool:=decide (lo<=n/\n<=hi)
theorem FD {n lo hi:Int}(h1:lo<=n)(c:n<=hi):Ap n lo hi=true:=by simp[Ap,h1,c]
theorem IY {n lo hi:Int}(h1:n<lo):Ap n lo hi=false:=by simp[Ap];omega
theorem Gp {n lo hi:Int}(h1:hi<n):Ap n lo hi=false:=by simp[Ap];omega
theorem BF {n lo hi:Int}(h:Ap n lo hi=true):lo<=n/\n<=hi:=by simpa [Ap]using h
theorem By(n lo hi)(w:World):
  Calls prog 95 #[int i64 n,int i64 lo,int i64 hi] w (zM (.bool (Ap n lo hi)) w):=by
 by_cases c:lo<=n
 ·by_cases f:n<=hi
  ·rw[FD c f];go_enter func95,ntmps95
   go_wp2
   go_ret
   exact⟨rfl,rfl⟩
  ·rw[Gp zZ];go_enter func95,ntmps95
   go_wp2
   go_ret
   exact⟨rfl,rfl⟩
 ·rw[IY zZ];go_enter func95,ntmps95
  go_wp2
  go_ret
  exact⟨rfl,rfl⟩
theorem BD(n lo hi)(w:World):
  Calls prog 78 #[int i64 n,int i64 lo,int i64 hi] w (zM (.bool (Ap n lo hi)) w):=by
 by_cases c:lo<=n
 ·by_cases f:n<=hi
  ·rw[FD c f];go_enter func78,ntmps78
   go_wp2
   go_ret
   exact⟨rfl,rfl⟩
  ·rw[Gp zZ];go_enter func78,ntmps78
   go_wp2
   go_ret
   exact⟨rfl,rfl⟩
 ·rw[IY zZ];go_enter func78,ntmps78
  go_wp2
  go_ret
  exact⟨rfl,rfl⟩
structure Sh where
 g:Int
 c:Int
 data:Int
 p:Int
 rows:Int
 cap:Int
 b:Int
 q:Int
 t:Int
instance:Coe Sh (List Value):=⟨fun s=>[.int .i64 s.g,.int .i64 s.c,.int .i64 s.data,.int .i64 s.p,.int .i64 s.rows,.int .i64 s.cap,.int .i64 s.b,.int .i64 s.q,.int .i64 s.t]⟩
def Sh.cells(s:Sh):List Value:=[s.g,s.c,s.data,s.p,s.rows,s.cap,s.b,s.q,s.t]
def shV(s:Sh):Value:=.agg s
def shB(s:Sh):Bool:=Ap s.g 1 4 && (Ap s.c 0 2 && (Ap s.data 1 3 && (Ap s.p 0 2 && (Ap s.rows 1 6 && (Ap s.cap 1 6 && (Ap s.b 1 4 && (Ap s.q 1 6 && Ap s.t 0 400)))))))
def I2(s:Sh):Int:=if shB s=true then 0 else 3
structure Sh.Ok (s:Sh):Prop where
 g:1<=s.g/\s.g<=4
 c:0<=s.c/\s.c<=2
 data:1<=s.data/\s.data<=3
 p:0<=s.p/\s.p<=2
 rows:1<=s.rows/\s.rows<=6
 cap:1<=s.cap/\s.cap<=6
 b:1<=s.b/\s.b<=4
 q:1<=s.q/\s.q<=6
 t:0<=s.t/\s.t<=400
theorem De {s:Sh}(h:shB s=true):s.Ok:=by
 simp only[shB,Bool.and_eq_true]at h;obtain⟨c,e,f,h4,i,l,n,o,p⟩:=h;exact⟨BF c,BF e,BF f,BF h4,BF i,BF l,BF n,BF o,BF p⟩
theorem CL {s:Sh}(h:shB s=true):I2 s=0:=by unfold I2;rw[aM h]
theorem Ip {s:Sh}(h:shB s=false):I2 s=3:=by unfold I2;rw[aJ (by rw[h];simp)]
theorem cases9 {G:Prop}(B:Bool)(c e f b4 h i l n o:Bool)(hB:B=(c && (e && (f && (b4 && (h && (i && (l && (n && (o))))))))))(q:c=false->B=false->G)(r:c=true->e=false->B=false->G)(s:c=true->e=true->f=false->B=false->G)(u:c=true->e=true->f=true->b4=false->B=false->G)(x:c=true->e=true->f=true->b4=true->h=false->B=false->G)(y:c=true->e=true->f=true->b4=true->h=true->i=false->B=false->G)(z:c=true->e=true->f=true->b4=true->h=true->i=true->l=false->B=false->G)(f8:c=true->e=true->f=true->b4=true->h=true->i=true->l=true->n=false->B=false->G)(f9:c=true->e=true->f=true->b4=true->h=true->i=true->l=true->n=true->o=false->B=false->G)(p:c=true->e=true->f=true->b4=true->h=true->i=true->l=true->n=true->o=true->B=true->G):G:=by
 subst hB;cases c
 ·exact q rfl zX
 cases e
 ·exact r rfl rfl zX
 cases f
 ·exact s rfl rfl rfl zX
 cases b4
 ·exact u rfl rfl rfl rfl zX
 cases h
 ·exact x rfl rfl rfl rfl rfl zX
 cases i
 ·exact y rfl rfl rfl rfl rfl rfl zX
 cases l
 ·exact z rfl rfl rfl rfl rfl rfl rfl zX
 cases n
 ·exact f8 rfl rfl rfl rfl rfl rfl rfl rfl zX
 cases o
 ·exact f9 rfl rfl rfl rfl rfl rfl rfl rfl rfl zX
 exact p rfl rfl rfl rfl rfl rfl rfl rfl rfl rfl
theorem Li(s)(w:World):
  Calls prog 91 #[shV s] w (zN (int i64 (I2 s)) w):=by
 unfold shV;refine cases9 (shB s) (Ap s.g 1 4) (Ap s.c 0 2) (Ap s.data 1 3) (Ap s.p 0 2) (Ap s.rows 1 6) (Ap s.cap 1 6) (Ap s.b 1 4) (Ap s.q 1 6) (Ap s.t 0 400) rfl ?_ ?_ ?_ ?_ ?_ ?_ ?_ ?_ ?_ ?_;all_goals
  intros
  first
   |rw[Ip ‹shB s=false›]
   |rw[CL ‹shB s=true›]
  go_enter func91,ntmps91
  go_wp2_with (go_at_call 95;refine(By _ _ _ _).M ?_;rintro e w' ⟨rfl,rfl⟩)
  go_ret
  exact⟨rfl,(aC _ _).alloc (aD _) _⟩
theorem cases2 {G:Prop}(B:Bool)(c e:Bool)(l:B=(c && (e)))(f:c=false->B=false->G)(h:c=true->e=false->B=false->G)(i:c=true->e=true->B=true->G):G:=by
 subst l;cases c
 ·exact f rfl zX
 cases e
 ·exact h rfl rfl zX
 exact i rfl rfl rfl
theorem cases7 {G:Prop}(B:Bool)(c e f b4 h i l:Bool)(y:B=(c && (e && (f && (b4 && (h && (i && (l))))))))(n:c=false->B=false->G)(o:c=true->e=false->B=false->G)(p:c=true->e=true->f=false->B=false->G)(q:c=true->e=true->f=true->b4=false->B=false->G)(r:c=true->e=true->f=true->b4=true->h=false->B=false->G)(s:c=true->e=true->f=true->b4=true->h=true->i=false->B=false->G)(u:c=true->e=true->f=true->b4=true->h=true->i=true->l=false->B=false->G)(x:c=true->e=true->f=true->b4=true->h=true->i=true->l=true->B=true->G):G:=by
 subst y;cases c
 ·exact n rfl zX
 cases e
 ·exact o rfl rfl zX
 cases f
 ·exact p rfl rfl rfl zX
 cases b4
 ·exact q rfl rfl rfl rfl zX
 cases h
 ·exact r rfl rfl rfl rfl rfl zX
 cases i
 ·exact s rfl rfl rfl rfl rfl rfl zX
 cases l
 ·exact u rfl rfl rfl rfl rfl rfl rfl zX
 exact x rfl rfl rfl rfl rfl rfl rfl rfl
def l3B(g c:Int):Bool:=Ap g 1 4 && (Ap c 0 2)
def l2B(d s:Int):Bool:=Ap d 1 3 && (Ap s 0 2)
theorem Nm(g c)(w:World):
  Calls prog 120 #[int i64 g,int i64 c] w (zM (.bool (l3B g c)) w):=by
 refine cases2 (l3B g c) (Ap g 1 4) (Ap c 0 2) rfl ?_ ?_ ?_;all_goals
  intros
  first
   |rw[‹l3B g c=false›]
   |rw[‹l3B g c=true›]
  go_enter func120,ntmps120
  go_wp2_with (go_at_call 78;refine(BD _ _ _ _).M ?_;rintro e w' ⟨rfl,rfl⟩)
  go_ret
  exact⟨rfl,rfl⟩
theorem Tt(g c)(w:World):
  Calls prog 121 #[int i64 g,int i64 c] w (zM (.bool (l2B g c)) w):=by
 refine cases2 (l2B g c) (Ap g 1 3) (Ap c 0 2) rfl ?_ ?_ ?_;all_goals
  intros
  first
   |rw[‹l2B g c=false›]
   |rw[‹l2B g c=true›]
  go_enter func121,ntmps121
  go_wp2_with (go_at_call 78;refine(BD _ _ _ _).M ?_;rintro e w' ⟨rfl,rfl⟩)
  go_ret
  exact⟨rfl,rfl⟩
theorem shB_eq(s:Sh):shB s=(l3B s.g s.c && (l2B s.data s.p && (Ap s.rows 1 6 && (Ap s.cap 1 6 && (Ap s.b 1 4 && (Ap s.q 1 6 && (Ap s.t 0 400))))))):=by
 unfold shB l3B l2B;simp only[Bool.and_assoc]
theorem Cd(s)(w:World):
  Calls prog 74 #[shV s] w (zN (int i64 (I2 s)) w):=by
 unfold shV;refine cases7 (shB s) (l3B s.g s.c) (l2B s.data s.p) (Ap s.rows 1 6) (Ap s.cap 1 6) (Ap s.b 1 4) (Ap s.q 1 6) (Ap s.t 0 400) (shB_eq s) ?_ ?_ ?_ ?_ ?_ ?_ ?_ ?_;all_goals
  intros
  first
   |rw[Ip ‹shB s=false›]
   |rw[CL ‹shB s=true›]
  go_enter func74,ntmps74
  go_wp2_with (first|(go_at_call 78;refine(BD _ _ _ _).M ?_;rintro e w' ⟨rfl,rfl⟩)|(go_at_call 120;refine(Nm _ _ _).M ?_;rintro e w' ⟨rfl,rfl⟩)|(go_at_call 121;refine(Tt _ _ _).M ?_;rintro e w' ⟨rfl,rfl⟩))
  go_ret
  exact⟨rfl,(aC _ _).alloc (aD _) _⟩
theorem EN(s:Sh)(h:s.Ok)(w:World):
  Calls prog 15 #[shV s] w (zN (int i64 (s.g+s.c)) w):=by
 obtain⟨f,i⟩:=h.g;obtain⟨l,n⟩:=h.c;unfold shV;go_enter func15,ntmps15
 go_wp2
 go_ret
 exact⟨rfl,(aC _ _).alloc (aD _) _⟩
theorem Fq(s:Sh)(h:s.Ok)(w:World):
  Calls prog 27 #[shV s] w (zN (int i64 (s.g+s.c)) w):=by
 obtain⟨f,i⟩:=h.g;obtain⟨l,n⟩:=h.c;unfold shV;go_enter func27,ntmps27
 go_wp2
 go_ret
 exact⟨rfl,(aC _ _).alloc (aD _) _⟩
end Go.Proofs.YtofeknacbdcoaaaGreatDoor
namespace Go.Proofs.YtofeknacbdcoaaaGreatDoor
open Go.RowKit Go.Lib Go.Sort
def Bh.sh(s:Bh):Sh:=⟨s.g,s.c,s.data,s.p,s.rows,s.cap,s.b,s.q,s.t⟩
theorem Hq(s:Sh)(h:s.Ok)(g)(w:World):
  Calls prog 202 #[shV s,int i64 g] w (zN (.bool (Ap g 0 (s.g - 1))) w):=by
 obtain⟨c,f⟩:=h.g;unfold shV;go_enter func202,ntmps202
 go_wp2_with (go_at_call 95;refine(By _ _ _ _).M ?_;rintro e w' ⟨rfl,rfl⟩)
 go_ret
 exact⟨rfl,(aC _ _).alloc (aD _) _⟩
theorem MI(s:Sh)(h:s.Ok)(g)(w:World):
  Calls prog 203 #[shV s,int i64 g] w (zN (.bool (Ap g 0 (s.rows - 1))) w):=by
 obtain⟨c,f⟩:=h.rows;unfold shV;go_enter func203,ntmps203
 go_wp2_with (go_at_call 95;refine(By _ _ _ _).M ?_;rintro e w' ⟨rfl,rfl⟩)
 go_ret
 exact⟨rfl,(aC _ _).alloc (aD _) _⟩
theorem Ik(s:Sh)(h:s.Ok)(g)(w:World):
  Calls prog 147 #[shV s,int i64 g] w (zN (.bool (Ap g 0 (s.g+s.c - 1))) w):=by
 obtain⟨r,u⟩:=h.g;obtain⟨x,y⟩:=h.c;have n:=zq (Blk.rangeAll (cs:=[s.g,s.c,s.data,s.p,s.rows,s.cap,s.b,s.q,s.t]) (Blk.new w 38 _));have i:=zq (fun W => Fq s h W);unfold shV at i⊢;go_enter func147,ntmps147
 go_wp2_with (first
  |(refine aE rfl 38 (.tmp 2) rfl w 0 rfl _ _ n.o underlying38 rfl zY ?_)
  |(go_at_call 27;refine(i.o _).M ?_;rintro e z ⟨rfl,f⟩;have l:=zq f;clear f)
  |(go_at_call 95;refine(By _ _ _ _).M ?_;rintro e w' ⟨rfl,rfl⟩))
 go_ret
 exact⟨rfl,((aC _ _).alloc (aD _) _).T (l.o.M zX)⟩
theorem row_c(s)(w:World):
  Calls prog 232 #[shV s] w (zN (.agg #[s.data,s.p]) w):=by
 unfold shV;have K:=zq (Blk.new1 w (.cells s 38) 282 #[s.data,s.p]);go_enter func232,ntmps232
 go_wp2_with fail
 refine bodyPost_ret (results_cell_row rfl _ _ (w.heap.size+1) 282 #[s.data,s.p] (0,0) _ rfl K.o underlying282 rfl zY) rfl ?_;exact⟨rfl,((aC _ _).alloc (aD _) _).alloc zX _⟩
theorem SJ(s)(w:World):
  Calls prog 172 #[shV s] w (zN (.agg #[s.g,s.c]) w):=by
 unfold shV;have K:=zq (Blk.new1 w (.cells s 38) 231 #[s.g,s.c]);go_enter func172,ntmps172
 go_wp2_with fail
 refine bodyPost_ret (results_cell_row rfl _ _ (w.heap.size+1) 231 #[s.g,s.c] (0,0) _ rfl K.o underlying231 rfl zY) rfl ?_;exact⟨rfl,((aC _ _).alloc (aD _) _).alloc zX _⟩
def letB(c:UInt8):Bool:=decide (97<=c.toNat) && decide (c.toNat<=122)
def digB(c:UInt8):Bool:=decide (48<=c.toNat) && decide (c.toNat<=57)
def C8(i:Nat)(c:UInt8):Bool:=letB c||(decide (0<i) && digB c)
def Fe(l:List UInt8)(k:Nat):Prop:=∀i,(h:i<l.length)->i<k->C8 i l[i] =true
instance (l:List UInt8) (k:Nat):Decidable (Fe l k):=by unfold Fe;infer_instance
def CJ(l:List UInt8):Bool:=decide (Fe l l.length) && (decide (1<=l.length) && decide (l.length<=8))
def Bu(l:List UInt8):Int:=if CJ l=true then 0 else 5
theorem KV(l:List UInt8):Fe l 0:=fun _ _ h => by omega
theorem KU {l:List UInt8}{k}(h:Fe l k)(o:k<l.length)(n:C8 k l[k] =true):Fe l (k+1):=fun i c f => by
 by_cases e:i=k
 ·subst e;exact n
 ·exact h i c zZ
theorem Hs {l:List UInt8}{k:Nat}(c:k<l.length)(e:C8 k l[k] =false):Bu l=5:=by
 unfold Bu CJ;rw[aJ];intro h;simp only[Bool.and_eq_true,bG]at h;have:=h.1 k c c;rw[e]at this;cases this
theorem Ht {l:List UInt8}(h:l.length<1∨8<l.length):Bu l=5:=by
 unfold Bu CJ;rw[aJ];intro c;simp only[Bool.and_eq_true,bG]at c;omega
theorem KM {l:List UInt8}(h:Fe l l.length)(h1:1<=l.length)(c:l.length<=8):Bu l=0:=by
 unfold Bu CJ;rw[aM];simp only[Bool.and_eq_true,bG];exact⟨h,h1,c⟩
def Do(l:List Int)(hi:Int)(k:Nat):Prop:=∀i,(h:i<l.length)->i<k->Ap l[i] 0 hi=true/\l[i]∉l.take i
instance (l:List Int) (hi:Int) (k:Nat):Decidable (Do l hi k):=by unfold Do;infer_instance
def DA(l:List Int)(hi:Int):Bool:=decide (Do l hi l.length)
theorem Iz(l hi):Do l hi 0:=fun _ _ h => by omega
theorem Iy {l hi k}(h:Do l hi k)(n:k<l.length)(h1:Ap l[k] 0 hi=true)(c:l[k]∉l.take k):Do l hi (k+1):=fun i hi f => by
 by_cases e:i=k
 ·subst e;exact⟨h1,c⟩
 ·exact h i hi zZ
theorem I8 {l:List Int}{hi:Int}{k:Nat}(i:k<l.length)(h:Ap l[k] 0 hi=false∨l[k]∈l.take k):∀m,k<m->¬Do l hi m:=fun m hm f => by
 obtain⟨c,e⟩:=f k i hm;rcases h with h|h
 ·rw[h]at c;cases c
 ·exact e h
theorem Od {l hi}(h:Do l hi l.length):DA l hi=true:=by unfold DA;simpa using h
theorem I7 {l:List Int}{hi:Int}{k:Nat}(c:k<l.length)(h:Ap l[k] 0 hi=false∨l[k]∈l.take k):DA l hi=false:=by
 unfold DA;simpa using I8 c h _ c
def F9(l:List Int)(hi:Int)(k:Nat):Prop:=∀i,(h:i<l.length)->i<k->Ap l[i] 0 hi=true/\(0<i->l[i - 1] <l[i])
instance (l:List Int) (hi:Int) (k:Nat):Decidable (F9 l hi k):=by unfold F9;infer_instance
def CT(l:List Int)(hi:Int):Bool:=decide (F9 l hi l.length)
theorem Mh(l hi):F9 l hi 0:=fun _ _ h => by omega
theorem Mg {l hi k}(h:F9 l hi k)(n:k<l.length)(h1:Ap l[k] 0 hi=true)(c:0<k->l[k - 1] <l[k]):F9 l hi (k+1):=fun i hi f => by
 by_cases e:i=k
 ·subst e;exact⟨h1,c⟩
 ·exact h i hi zZ
theorem Q9 {l hi}(h:F9 l hi l.length):CT l hi=true:=by unfold CT;simpa using h
theorem Q5 {l:List Int}{hi:Int}{k:Nat}(e:k<l.length)(h:Ap l[k] 0 hi=false∨(0<k/\l[k]<=l[k - 1])):CT l hi=false:=by
 unfold CT;simp only[decide_eq_false_iff_not];intro i;obtain⟨c,f⟩:=i k e e;rcases h with h|⟨h,n⟩
 ·rw[h]at c;cases c
 ·have:=f h;omega
def Ef(s:Sh)(n:Int):Bool:=decide (1<=n/\n<=12 * s.data)
def Dd(s:Sh)(n:Int):Int:=(n - 1) / (4 * s.data)+1
theorem J8 {s:Sh}(h:s.Ok){n:Int}(h1:1<=n):Dd s n<=3↔n<=12 * s.data:=by
 have:=h.data;have h4:0<4 * s.data:=by omega
 unfold Dd;constructor
 ·intro e;have c:(n - 1) / (4 * s.data)<3:=by omega
  rw[Int.ediv_lt_iff_lt_mul h4]at c;omega
 ·intro e;have c:(n - 1) / (4 * s.data)<3:=by
   rw[Int.ediv_lt_iff_lt_mul h4];omega
  omega
def Cv(s:Sh)(r:Aj):Bool :=
 if r.length= -1 then decide (r.data.length=0) && decide (r.rows.length=0)else
  Ef s r.length && (if 0<r.data.length then decide ((r.data.length:Int)=r.length) && decide (r.rows.length=0)else decide ((r.rows.length:Int)=Dd s r.length) && DA r.rows (s.rows - 1))
def Ee(s:Sh)(r:Aj):Bool:=Ap r.group 0 (s.g - 1) && (Ap r.row 0 (s.rows - 1) && (decide ((r.data.length:Int)=4 * s.data) && decide ((r.delta.length:Int)=4 * s.data)))
def doneB(s:Sh)(r:Aj):Bool:=Ap r.group 0 (s.g+s.c - 1)
def Cy(r:Aj)(k:Int):Bool:=decide (r.delta.getD k.toNat 0≠0)
def Cs(s:Sh)(r:Aj):Bool:=Ap r.group 0 (s.g+s.c - 1) && (Ap r.row 0 (s.rows - 1) && (CT r.rows (s.g+s.c - 1) && (decide ((r.data.length:Int)=4 * s.data) && (decide ((r.delta.length:Int)=s.g+s.c) && (!Cy r r.group && r.rows.all (Cy r))))))
def Fo(r:Aj):Bool :=
 if r.kind=1 then decide (r.group=0/\r.row=0/\r.delta= [])else if r.kind=2 then decide (r.name=⟨#[]⟩/\r.length=0/\r.rows= [])
 else if r.kind=3 then decide (r.name=⟨#[]⟩/\r.length=0/\r.row=0/\r.rows= []/\r.data= []/\r.delta= [])else decide (r.name=⟨#[]⟩/\r.length=0)
def Bj(s:Sh)(r:Aj):Int :=
 if r.kind=1 then(if CJ r.name.data.toList=true then(if Cv s r=true then 0 else 3)else 5)else if r.kind=2 then(if Ee s r=true then 0 else 3)
 else if r.kind=3 then(if doneB s r=true then 0 else 3)else(if Cs s r=true then 0 else 3)
def AJ(s:Sh)(r:Aj):Int :=
 if Ap r.kind 1 4=true then(if Ap r.seq 1 1000000000=true then(if Bj s r=0 then(if Fo r=true then 0 else 1)else Bj s r)else 3)else 5
def CX(b:Cj):Bool:=Ap b.stamp 0 1000000000 && decide (b.bytes.length=4)
def Dq(s:Sh)(d:Ba):Bool:=decide ((d.blocks.length:Int)=s.rows) && d.blocks.all CX
def DO(s:Sh)(g:List Ba):Bool:=decide ((g.length:Int)=s.data+s.p) && g.all (Dq s)
def BU(s:Sh)(e:List (List Ba)):Bool:=decide ((e.length:Int)=s.g+s.c) && e.all (DO s)
def onB(s:Sh)(on:List Int)(down:Bool):Bool:=DA on (s.g+s.c - 1) && (decide ((on.length:Int)<=s.cap) && (decide (on.length=0)||!down))
def Bi(s:Sh):List Aj->Int
 | [] => 0
 |r :: l => if AJ s r=0 then Bi s l else AJ s r
theorem GO(s):∀(a b:List Aj),Bi s a=0->Bi s (a ++ b)=Bi s b
 | [],b,_ => rfl
 |r :: l,b,h => by
  unfold Bi at h;split at h
  ·rename_i c
   rw[List.cons_append];show(if AJ s r=0 then Bi s (l ++ b)else AJ s r)=Bi s b
   rw[aM c];exact GO s l b h
  ·rename_i c;exact absurd h c
def BG(s:Sh)(c:List Be):Int :=
 if c.any (fun t => decide (200<t.recs.length))=true then 2 else if Bi s (c.flatMap Be.recs)=0 then(if c.any (fun t => t.wiped && decide (0<t.recs.length))=true then 1 else 0)else Bi s (c.flatMap Be.recs)
def AI(d:As):Int :=
 if shB d.s.sh=true then
  (if(BU d.s.sh d.g && (onB d.s.sh d.on d.down && decide (d.v.length=2)))=true then
   (if BG d.s.sh d.v=0 then(if(Ap d.u 0 1000000000 && Ap d.stop (-1) 1000000000)=true then 0 else 3)else BG d.s.sh d.v)
  else 1)
 else 3
def Ff(l:List UInt8):Nat:=(l.map (·.toNat)).sum
def EF(c:Int)(nm:ByteArray):Int:=((Ff nm.data.toList:Nat):Int) % c
theorem ND {l:List UInt8}{j:Nat}(h:j<l.length):Ff (l.take (j+1))=Ff (l.take j)+l[j].toNat:=by
 unfold Ff;rw[aK h,List.map_append,List.sum_append];simp
theorem MV:∀l:List UInt8,Ff l<=255 * l.length
 | [] => by simp[Ff]
 |c :: l => by
  have e:=MV l;have f:=c.toNat_lt;unfold Ff at e⊢;simp only[List.map_cons,List.sum_cons,List.length_cons];omega
theorem Hl {c:Int}(h:0<c)(nm:ByteArray):0<=EF c nm/\EF c nm<c:=by
 unfold EF;exact⟨Int.emod_nonneg _ zZ,Int.emod_lt_of_pos _ h⟩
theorem OQ(s:Sh)(ab:s.Ok)(nm:ByteArray)(hn:nm.size<=1000000)(w:World):
  Calls prog 85 #[shV s,.string nm] w (zN (int i64 (EF s.g nm)) w):=by
 obtain⟨ad,ae⟩:=ab.g;have hb:=zq (show Below w w (w.alloc (.cells s 38))from(aC _ _).alloc (aD _) _);have ac:nm.data.toList.length=nm.size:=by simp
 have l:=zq ac;have aa:¬s.g=0:=by omega
 have af:(s.g == 0)=false:=by simpa using aa
 unfold shV;go_enter func85,ntmps85
 go_wp2
 go_loop [5,6] (fun a i =>∃j:Nat,j<=nm.size/\i=j/\a= int i64 ((Ff (nm.data.toList.take j):Nat):Int)) (fun _ i => nm.size - (intOf i).toNat)
 ·exact⟨0,by omega,rfl,rfl⟩
 ·obtain⟨j,hj,rfl,rfl⟩:=hrel;by_cases h:j<nm.size
  ·have ag:(j:Int)<(nm.size:Int):=by omega
   have r:j<nm.data.toList.length:=by rw[l.o];exact h
   have n:nm.data.toList[j] =nm[j]'h:=by simp[ByteArray.getElem_eq_getElem_data]
   have f:=ND r;rw[n]at f;have u:=MV (nm.data.toList.take j);rw[aX]at u;have x:Ff (nm.data.toList.take j)<=255000000:=by omega
   have hc:=(nm[j]'h).toNat_lt;obtain⟨sj,y⟩:∃sj,Ff (nm.data.toList.take j)=sj:=zJ;rw[y]at f x⊢;have z:=zq f;clear f u y r n;go_wp2
   go_round
   ·exact⟨j+1,by omega,by go_num,by rw[z.o];go_num⟩
   ·simp[intOf];omega
  ·obtain rfl:j=nm.size:=by omega
   have HE:=zq (show Ff (nm.data.toList.take nm.size)=Ff nm.data.toList by rw[<-l.o,bA]);go_wp2
   go_ret
   exact⟨by first|rfl|(rw[HE.o];rfl),hb.o⟩
theorem home_c(s:Sh)(ab:s.Ok)(nm:ByteArray)(hn:nm.size<=1000000)(w:World):
  Calls prog 112 #[shV s,.string nm] w (zN (int i64 (EF s.g nm)) w):=by
 obtain⟨ad,ae⟩:=ab.g;have hb:=zq (show Below w w (w.alloc (.cells s 38))from(aC _ _).alloc (aD _) _);have ac:nm.data.toList.length=nm.size:=by simp
 have l:=zq ac;have aa:¬s.g=0:=by omega
 have af:(s.g == 0)=false:=by simpa using aa
 unfold shV;go_enter func112,ntmps112
 go_wp2
 go_loop [5,6,9] (fun a _ i =>∃j:Nat,j<=nm.size/\i=j/\a= int i64 ((Ff (nm.data.toList.take j):Nat):Int)) (fun _ _ i => nm.size - (intOf i).toNat)
 ·exact⟨0,by omega,rfl,rfl⟩
 ·obtain⟨j,hj,rfl,rfl⟩:=hrel;by_cases h:j<nm.size
  ·have ag:(j:Int)<(nm.size:Int):=by omega
   have r:j<nm.data.toList.length:=by rw[l.o];exact h
   have n:nm.data.toList[j] =nm[j]'h:=by simp[ByteArray.getElem_eq_getElem_data]
   have f:=ND r;rw[n]at f;have u:=MV (nm.data.toList.take j);rw[aX]at u;have x:Ff (nm.data.toList.take j)<=255000000:=by omega
   have hc:=(nm[j]'h).toNat_lt;obtain⟨sj,y⟩:∃sj,Ff (nm.data.toList.take j)=sj:=zJ;rw[y]at f x⊢;have z:=zq f;clear f u y r n;go_wp2
   go_round
   ·exact⟨j+1,by omega,by go_num,by rw[z.o];go_num⟩
   ·simp[intOf];omega
  ·obtain rfl:j=nm.size:=by omega
   have HE:=zq (show Ff (nm.data.toList.take nm.size)=Ff nm.data.toList by rw[<-l.o,bA]);go_wp2
   go_ret
   exact⟨by first|rfl|(rw[HE.o];rfl),hb.o⟩
def Dn(s:Sh)(t:AA):Int :=
 if Ap t.id 1 1000000000=true then
  (if t.kind=1 then(if CJ t.name.data.toList=true then(if t.group=EF s.g t.name then 0 else 1)else 5)
   else if t.kind=2 then(if Ap t.group 0 (s.g+s.c - 1)=true then(if t.name=⟨#[]⟩then 0 else 1)else 3)else 5)
 else 3
def Bw:Nat->List (List AA)->List (AA × Int)
 |_,[] => []
 |g,q :: r => q.map (fun t =>(t,(g:Int))) ++ Bw (g+1) r
def Bq(d:AP):List (AA × Int):=Bw 0 d.queues ++ d.aside.map fun t =>(t,-1)
def AY(d:AP):List AA:=d.queues.flatten ++ d.aside
theorem Ml:∀(g:Nat) (l:List (List AA)),(Bw g l).map Prod.fst=l.flatten
 |_,[] => rfl
 |g,q :: r => by
  unfold Bw;rw[List.map_append,Ml,List.map_map,List.flatten_cons];congr 1
  exact List.map_id' _
theorem Gx(d):(Bq d).map Prod.fst=AY d:=by
 unfold Bq AY;rw[List.map_append,Ml,List.map_map];congr 1
 exact List.map_id' _
theorem GT:∀(g:Nat) (a b:List (List AA)),Bw g (a ++ b)=Bw g a ++ Bw (g+a.length) b
 |g,[],b => by simp[Bw]
 |g,q :: r,b => by
  rw[List.cons_append,Bw,Bw,GT,List.append_assoc,List.length_cons];congr 2
  rw[show g+1+r.length=g+(r.length+1) by omega]
def Dm(s:Sh)(next:Int)(ids:List Int)(x:AA × Int):Int :=
 if Dn s x.1=0 then(if next<=x.1.id then 3 else if 0<=x.2/\x.1.group≠x.2 then 1 else if x.1.id∈ids then 7 else 0)else Dn s x.1
def Fd(s:Sh)(next:Int):List (AA × Int)->List Int->Int
 | [],_ => 0
 |x :: r,ids => if Dm s next ids x=0 then Fd s next r (ids ++ [x.1.id])else Dm s next ids x
theorem IQ {s next}:∀(a b:List (AA × Int)) (c:List Int),Fd s next a c=0->Fd s next (a ++ b) c=Fd s next b (c ++ a.map fun x => x.1.id)
 | [],b,c,_ => by simp
 |x :: a,b,c,h => by
  unfold Fd at h;by_cases e:Dm s next c x=0
  ·rw[aM e]at h;rw[List.cons_append,Fd,aM e,IQ a b _ h,List.map_cons,List.append_assoc,List.singleton_append]
  ·rw[aJ e]at h;exact absurd h e
theorem NA {s next}{a:List (AA × Int)}{x:AA × Int}{ids:List Int}(h:Fd s next a ids=0)(c:Dm s next (ids ++ a.map fun x => x.1.id) x=0):Fd s next (a ++ [x]) ids=0:=by
 rw[IQ _ _ _ h,Fd,aM c];rfl
theorem Pg {s next}{a b:List (AA × Int)}{x:AA × Int}{ids:List Int}(h:Fd s next a ids=0)(c:Dm s next (ids ++ a.map fun x => x.1.id) x≠0):Fd s next (a ++ x :: b) ids=Dm s next (ids ++ a.map fun x => x.1.id) x:=by
 rw[IQ _ _ _ h,Fd,aJ c]
def Gz(hi turn:Int)(ids:List Int)(a:AQ):Int :=
 if(Ap a.id 1 hi && (Ap a.code 0 12 && Ap a.turn 0 turn))=true then(if 36<a.bytes.length then 2 else if a.id∈ids then 7 else 0)else 3
def Gc(hi turn:Int):List AQ->List Int->Int
 | [],_ => 0
 |x :: r,ids => if Gz hi turn ids x=0 then Gc hi turn r (ids ++ [x.id])else Gz hi turn ids x
theorem IP {hi turn}:∀(a b:List AQ) (c:List Int),Gc hi turn a c=0->Gc hi turn (a ++ b) c=Gc hi turn b (c ++ a.map AQ.id)
 | [],b,c,_ => by simp
 |x :: a,b,c,h => by
  unfold Gc at h;by_cases e:Gz hi turn c x=0
  ·rw[aM e]at h;rw[List.cons_append,Gc,aM e,IP a b _ h,List.map_cons,List.append_assoc,List.singleton_append]
  ·rw[aJ e]at h;exact absurd h e
theorem TR {hi turn a}{x:AQ}{ids:List Int}(h:Gc hi turn a ids=0)(c:Gz hi turn (ids ++ a.map AQ.id) x=0):Gc hi turn (a ++ [x]) ids=0:=by
 rw[IP _ _ _ h,Gc,aM c];rfl
theorem seqA_bad {hi turn}{a b:List AQ}{x:AQ}{ids:List Int}(h:Gc hi turn a ids=0)(c:Gz hi turn (ids ++ a.map AQ.id) x≠0):Gc hi turn (a ++ x :: b) ids=Gz hi turn (ids ++ a.map AQ.id) x:=by
 rw[IP _ _ _ h,Gc,aJ c]
def Fy(d:AP):List Int:=(AY d).map AA.id
def tkC(s:Sh)(d:AP):Int:=Fd s d.next (Bq d) []
def anH(hi:Int)(d:AP):Int:=Gc hi d.turn d.answers (Fy d)
def Di(s:Sh)(q:List AA):Bool:=decide (s.q<(q.length:Int))
def Cb(hi:Int)(s:Sh)(d:AP):Int :=
 if(d.queues.length:Int)=s.g+s.c then
  (if(d.queues.any (Di s)||(decide (20<d.aside.length)||decide (200<d.answers.length)))=true then 2
   else if tkC s d=0 then(if anH hi d=0 then(if(Ap d.turn 0 1000000000 && Ap d.next 1 1000000000)=true then 0 else 3)else anH hi d)else tkC s d)
 else 1
theorem LN {hi s}{d:AP}(h:d.next<1):Cb hi s d≠0:=by
 unfold Cb;split
 ·split
  ·decide
  ·split
   ·split
    ·rw[IY h,Bool.and_false,aJ Bool.false_ne_true];decide
    ·rename_i c;exact c
   ·rename_i c;exact c
 ·decide
theorem LP {s:Sh}{d:AP}(c:okI d.next):Cb (IntKind.i64.wrap (d.next - 1)) s d=0↔Cb (d.next - 1) s d=0:=by
 by_cases h:d.next<1
 ·exact⟨fun e => absurd e (LN h),fun e => absurd e (LN h)⟩
 ·have e:IntKind.i64.wrap (d.next - 1)=d.next - 1:=IntWalk.i64_in _ (by unfold okI at c;omega);rw[e]
theorem JB {α}{k:Nat}:∀ {l:List (List α)},(∀q,q∈l->q.length<=k)->l.flatten.length<=l.length * k
 | [],_ => by simp
 |q :: r,h => by
  have e:=JB (l:=r) fun x c => h x (List.mem_cons_of_mem _ c)
  have f:=h q (List.mem_cons_self ..);rw[List.flatten_cons,aU,List.length_cons,Nat.add_mul,Nat.one_mul];omega
theorem I6 {s:Sh}(f:s.Ok){d:AP}(p:(d.queues.length:Int)=s.g+s.c)(hq:d.queues.any (Di s)=false)(o:d.aside.length<=20):(AY d).length<=60:=by
 have h:=f.g;have i:=f.c;have n:=f.q;have h4:=JB (k:=6) (l:=d.queues) fun q e => by
  have:=List.any_eq_false.1 hq q e;unfold Di at this;simp at this;omega
 unfold AY;rw[aU];omega
theorem AR {P:Program}{f:FuncId}{args:Array Value}{w:World}{v}(h:∀W,Below w w W->Calls P f args W (zN v W))(d)(os:Array Obj):
  Calls P f args (grow (redrawn w d) os) fun e c => e= .returned v/\∃p:Regrown,c=grow (redrawn w p.d) p.os:=Calls.regrown_of (h _ (aI w d os))
theorem Bv {P:Program}{f:FuncId}{args:Array Value}{w v}(h:∀W,Calls P f args W (zM v W))(d)(os:Array Obj):
  Calls P f args (grow (redrawn w d) os) fun e c => e= .returned v/\∃p:Regrown,c=grow (redrawn w p.d) p.os:=Calls.regrown_of ((h _).M (by rintro e w' ⟨rfl,rfl⟩;exact⟨rfl,aC _ _⟩))
theorem KQ {l:List Int}{x:Int}{k}(h:x∉l.take k)(e:k<l.length)(f:¬l[k] =x):x∉l.take (k+1):=by
 rw[aK e];intro hm;rcases List.mem_append.1 hm with c|c
 ·exact h c
 ·exact f (List.mem_singleton.1 c).symm
theorem mem_at {l:List Int}{x:Int}{k:Nat}(c:k<l.length)(e:l[k] =x):x∈l:=e ▸ aT c
theorem ED {a b:Int}(h:a=b):(a == b)=true:=by simpa using h
theorem Dp {a b:Int}(h:¬a=b):(a == b)=false:=by simpa using h
theorem PR(v l x f w)(h:AW w f v l):
  Calls prog 198 #[v,int i64 x] w fun e w' =>∃r:Int,e= .returned r/\decide (0<=r)=decide (x∈l)/\Below w w w':=by
 obtain⟨A,c,rfl,hc,hm,hx⟩:=AW.open_ h;have HX:=zq hx;clear h hx;go_enter func198,ntmps198
 go_wp2
 go_loopw [8,5] (fun i _ wr =>∃k:Nat,k<=l.length/\i=k/\Hid (x∉l.take k)/\Hid (Below w w wr)) (fun i _ _ => l.length - (intOf i).toNat)
 ·exact⟨0,by omega,rfl,(show x∉l.take 0 by simp),aC _ _⟩
 ·obtain⟨k,hk,rfl,z,u⟩:=hrel;by_cases s:k<l.length
  ·obtain⟨ad,e1,-,b1,p1,-⟩:=HX.o k s;subst e1;have y:=(u.o.cell (p:=ad.add k) b1).T p1;have aa:(k:Int)<(l.length:Int):=by omega
   by_cases q:l[k] =x
   ·have HM:=zq (mem_at s q);have q1:(x == l[k])=true:=ED q.symm;rw[q]at y q1;clear q p1;go_wp2
    go_ret
    exact⟨k,rfl,by rw[aN HM.o];simp,u.o⟩
   ·have n:=zq (KQ z.o s q);have q1:(x == l[k])=false:=Dp (fun e => q e.symm);clear q p1;go_wp2
    go_roundw
    ·exact⟨k+1,by omega,by go_num,n.o,u.o⟩
    ·simp[intOf];omega
  ·obtain rfl:k=l.length:=by omega
   have n:=zq z.o;go_wp2
   go_ret
   refine⟨-1,rfl,?_,u.o⟩;have:=n.o;rw[bA]at this;rw[aG this];rfl
theorem Fi(v i x f w)(h:AW w f v i):
  Calls prog 148 #[v,int i64 x] w (zN (.bool (decide (x∈i))) w):=by
 have l:=zq (PR v i x f w h);obtain⟨A,c,rfl,p,hm,n⟩:=AW.open_ h;obtain⟨r,hr⟩:∃r,decide (x∈i)=r:=zJ;rw[hr]at l⊢;clear h n hr;go_enter func148,ntmps148
 go_wp2_with (go_at_call 198;refine l.o.M ?_;rintro e s ⟨q,rfl,hq,hb⟩)
 go_ret
 exact⟨by rw[<-hq];rfl,hb⟩
theorem l1Has_c(v l x f w)(h:AW w f v l):
  Calls prog 123 #[v,int i64 x] w (zN (.bool (decide (x∈l))) w):=by
 obtain⟨A,c,rfl,hc,hm,hx⟩:=AW.open_ h;have HX:=zq hx;obtain⟨r,hr⟩:∃r,decide (x∈l)=r:=zJ;rw[hr];have HR:=zq hr;clear h hx hr;go_enter func123,ntmps123
 go_wp2
 go_loopw [5] (fun i wr =>∃k:Nat,k<=l.length/\i=k/\Hid (x∉l.take k)/\Hid (Below w w wr)) (fun i _ => l.length - (intOf i).toNat)
 ·exact⟨0,by omega,rfl,(show x∉l.take 0 by simp),aC _ _⟩
 ·obtain⟨k,hk,rfl,HS,u⟩:=hrel;by_cases n:k<l.length
  ·obtain⟨ad,s,-,b1,p1,-⟩:=HX.o k n;subst s;have z:=(u.o.cell (p:=ad.add k) b1).T p1;have aa:(k:Int)<(l.length:Int):=by omega
   by_cases q:l[k] =x
   ·have s:r=true:=by rw[<-HR.o];exact aN (mem_at n q)
    subst s;have q1:(l[k] == x)=true:=ED q;rw[q]at z q1;clear q p1;go_wp2
    go_ret
    exact⟨rfl,u.o⟩
   ·have y:=zq (KQ HS.o n q);have q1:(l[k] == x)=false:=Dp q;clear q p1;go_wp2
    go_roundw
    ·exact⟨k+1,by omega,by go_num,y.o,u.o⟩
    ·simp[intOf];omega
  ·obtain rfl:k=l.length:=by omega
   have s:r=false:=by
    have:=HS.o;rw[bA]at this;rw[<-HR.o];exact aG this
   subst s;go_wp2
   go_ret
   exact⟨rfl,u.o⟩
theorem J3(v ls hi f w)(h:AW w f v ls):
  Calls prog 76 #[v,int i64 hi] w (zN (.bool (DA ls hi)) w):=by
 obtain⟨A,c,rfl,hc,hm,z⟩:=AW.open_ h;have HX:=zq z;have HH:=zq h;obtain⟨r,hr⟩:∃r,DA ls hi=r:=zJ;rw[hr];have HR:=zq hr;obtain⟨n,hn⟩:∃n,ls.length=n:=zJ;rw[hn]at HH hc⊢;have HN:=zq hn;clear h z hr hn;go_enter func76,ntmps76
 go_wp2
 go_loopw [5] (fun i wr =>∃k:Nat,k<=n/\i=k/\Hid (Do ls hi k)/\Hid (Below w w wr)) (fun i _ => n - (intOf i).toNat)
 ·exact⟨0,by omega,rfl,Iz _ _,aC _ _⟩
 ·obtain⟨k,hk,rfl,HS,HB⟩:=hrel;by_cases ae:k<n
  ·have s:k<ls.length:=by rw[HN.o];exact ae
   obtain⟨ad,e1,-,b1,p1,-⟩:=HX.o k s;subst e1;have ab:=(HB.o.cell (p:=ad.add k) b1).T p1;have ai:(k:Int)<(n:Int):=by omega
   have af:(k:Int)<=(n:Int):=by omega
   have ag:(k:Int)<=(c:Int):=by omega
   have ah:k<=c:=by omega
   obtain⟨x,z⟩:∃x,ls[k] =x:=zJ;rw[z]at ab;obtain⟨q1,q2,hp,-,-⟩:=rSl.split (j:=k) HH.o zZ;have l:=zq (fun(W:World) (hW:Below wr wr W) => l1Has_c _ (ls.take k) x q1 W (rSl.B Aw.L Aw.X hp (HB.o.T (hW.M HB.o.size))));have q:=zq (fun(W:World) => BD x 0 hi W);have aj:=aB ab;cases hin:Ap x 0 hi with
   |true =>
    rw[hin]at q;have aa:=zq (Bv (w:=wr) q.o);cases hme:decide (x∈ls.take k)with
    |false =>
     rw[hme]at l;have y:=zq (AR (w:=wr) l.o);have ac:=zq (Iy HS.o s (by rw[z];exact hin) (by rw[z];exact of_decide_eq_false hme));clear z p1 b1 hp hin hme s q l;go_wp2_with fail
     (refine aF zY zY ?_;(repeat go_big_quiet_step (first|exact aa.o _ _|exact y.o _ _));refine aQ ?_)
     rintro _ ⟨⟨dq,osq⟩,rfl⟩;have u:=zq (HB.o.T ((aI wr dq osq).M HB.o.size));go_wp2
     go_roundw
     ·exact⟨k+1,by omega,by go_num,ac.o,u.o⟩
     ·simp[intOf];omega
    |true =>
     rw[hme]at l;have y:=zq (AR (w:=wr) l.o);have e1:r=false:=by rw[<-HR.o];exact I7 s (.inr (by rw[z];exact bE hme))
     subst e1;clear z p1 b1 hp hin hme s q l;go_wp2_with fail
     (refine aF zY zY ?_;(repeat go_big_quiet_step (first|exact aa.o _ _|exact y.o _ _));refine aQ ?_)
     rintro _ ⟨⟨dq,osq⟩,rfl⟩;have u:=zq (HB.o.T ((aI wr dq osq).M HB.o.size));go_wp2
     go_ret
     exact⟨rfl,u.o⟩
   |false =>
    rw[hin]at q;have aa:=zq (Bv (w:=wr) q.o);have e1:r=false:=by rw[<-HR.o];exact I7 s (.inl (by rw[z];exact hin))
    subst e1;clear z p1 b1 hp hin s q l;go_wp2_with fail
    (refine aF zY zY ?_;(repeat go_big_quiet_step (first|exact aa.o _ _));refine aQ ?_)
    rintro _ ⟨⟨dq,osq⟩,rfl⟩;have u:=zq (HB.o.T ((aI wr dq osq).M HB.o.size));go_wp2
    go_ret
    exact⟨rfl,u.o⟩
  ·obtain rfl:k=n:=by omega
   have e1:r=true:=by
    rw[<-HR.o];exact Od (by rw[HN.o];exact HS.o)
   subst e1;go_wp2
   go_ret
   exact⟨rfl,HB.o⟩
