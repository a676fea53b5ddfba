/- Part 49 of the proof. -/
import Derived.Test.YtfjkoifpdoemdaaGreatJ48
import Derived.Test.YtfjkoifpdoemdaaGreatJ01
import Derived.Test.YtfjkoifpdoemdaaGreatJ04
set_option maxHeartbeats 8000000
set_option maxRecDepth 100000
set_option linter.unusedVariables false
set_option linter.unusedSimpArgs false
open Go.Proofs.Tryz
open Go.Value (int)
open Go.IntKind (i64)
namespace Go.Proofs.YtfjkoifpdoemdaaGreat
open Go.RowKit Go.Sort
section
variable {fk:List Addr} {wr u u':World} {p:Addr} {v:Value}
theorem FM(h:AQ fk wr u)(hp:p∉fk):AQ fk wr (u.setCell p v):=fun a ha =>(World.cell?_setCell_other _ _ _ _ (fun e => hp (by rw[e];exact ha))).trans (h a ha)
theorem PD(h:AQ fk wr u)(ht:CX fk wr)(hs:wr.heap.size≤u.heap.size)(hb:Below u.heap.size u u'):AQ fk wr u':=fun a ha =>(hb.cell (aE (ht a ha) hs)).trans (h a ha)
theorem KR {f:List Addr}(h:AQ fk wr u)(ht:CX fk wr)(hs:wr.heap.size≤u.heap.size)(hw:AD f u u')(hd:∀a,a∈fk→a∉f):AQ fk wr u':=fun a ha =>(hw.cell a (hd a ha) (aE (ht a ha) hs)).trans (h a ha)
end
theorem okN {n:Nat}(h:n≤2000000000):okI ((n:Nat):Int):=⟨by omega,by omega⟩
theorem Pq(v:Value)(ds:List Ah)(fs:List Addr)(w:World)(k lo:Nat)(h1:rSl 9 Ac w fs v ds)(hm:Aw lo w fs)(hk:0<k)(hk0:k+AA BL ds≤1000000000) :
  Calls prog 112 #[v,int i64 (k:Int)] w fun e w' => e= .returned (int i64 ((k+AA BL ds:Nat):Int))∧AD fs w w'∧rSl 9 Ac w' fs v (Bj Fu BL k ds):=by
 have H1:=U h1;have HM:=U hm;obtain⟨A1,c1,rfl,hc1,hm1⟩:=rSl.head h1;clear h1 hm;have hn0:ds.length≤1000000000:=by have:=Ft BL (fun d => by unfold BL;omega) ds;omega
 obtain⟨R,hR⟩:∃R:Nat,k+AA BL ds=R:=⟨_,rfl⟩;have HNS:=U (fun j (h:j<ds.length) => show k+AA BL (ds.take j)+BL ds[j]≤1000000000 from by
  have:=CE BL h;have:=Dn BL ds (j+1);omega)
 rw[hR]at hk0⊢;have HR:=U hR;clear hR;go_enter func112,ntmps112
 go_wp2
 go_loopw [1,5] (fun n i wr =>∃(j c:Nat),j≤ds.length∧c=k+AA BL (ds.take j)∧i= int i64 j∧n= int i64 (c:Int)∧rSl 9 Ac wr fs (.slice A1 ds.length c1) (Cd Fu BL k ds j)∧AD fs w wr) (fun _ i _ => ds.length - (intOf i).toNat)
 case atStart => exact⟨0,k,by omega,by simp[AA],rfl,rfl,by rw[Ec];exact H1.o,AD.refl _ _⟩
 case round =>
  obtain⟨j,c,hj,hc,rfl,rfl,hrt,hwr⟩:=hrel;by_cases hlt:j<ds.length
  case neg =>
   have hje:j=ds.length:=by omega
   subst hje;rw[Ey]at hrt;rw[aV,HR.o]at hc;subst hc;have HW:=U hwr;have HRT:=U hrt;clear hwr hrt;go_wp2_with fail
   go_ret
   exact⟨rfl,HW.o,HRT.o⟩
  have hsl:=DJ Fu BL k ds j hj;have hM2:Aw lo wr fs:=HM.o.wrote hwr (rSl.there Ac.fixed H1.o);obtain⟨ad,c0,b,o,cs,fk,ev,hat,hnd,hnot,hupd⟩:=rSl.upd Ac.local_ Ac.fixed (by decide) hrt hM2.nodup j (by omega);rw[Ez Fu BL k ds j hlt (by omega)]at hat;injection ev with ev1 ev2 ev3
  subst ev1 ev3;obtain⟨v0,v1,v2,f0,f1,f2,ecs,efk,o0,o1,o2,o3,o4,o5,h0,h1,h2⟩:=hat.reads;subst ecs efk;obtain⟨D0,e0,rfl,-⟩:=rSl.head h0;obtain⟨D1,e1,rfl,-⟩:=rSl.head h1;obtain⟨D2,e2,rfl,-⟩:=rSl.head h2;have pb:=hat.lt;have hP:=hat.place;have hnum:=HNS.o j hlt;rw[← hc]at hnum;have hnm:BL ds[j] =1+1+1+1+1+1+ds[j].rows.length +ds[j].data.length +ds[j].delta.length:=rfl;rw[hnm]at hnum;have hE0:F7 9 wr wr b o [int i64 ds[j].kind,int i64 ds[j].seq,.string ds[j].name,int i64 ds[j].length,int i64 ds[j].group,int i64 ds[j].row,.slice D0 ds[j].rows.length e0,.slice D1 ds[j].data.length e1,.slice D2 ds[j].delta.length e2] ((List.range 9).map (fun q =>(⟨b,o+q,none⟩:Addr)) ++(f0 ++(f1 ++ f2))):=⟨hat.lt,hat.len,hat.cell,fun q hq => hM2.free _ (hat.mem q hq),AD.refl _ _,fun q hq => aX _ (List.mem_map.2 ⟨q,List.mem_range.2 hq,rfl⟩)⟩;have hcb:c≤1000000000:=by omega
  have hck:0<c:=by omega
  have E0:=U hE0;have HAT:=U hat;have HNOT:=U hnot;have HND:=U hnd;have HUPD:=U hupd;have HC:=U hc;have HW:=U hwr;have HM2:=U hM2;have HSL:=U hsl;have HNUM:=U hnum;have H0:=U h0;have H1':=U h1;have H2:=U h2;clear hE0 hat hnd hupd hc hwr hM2 hsl hnum hrt h0 h1 h2 hnm ev2 hnot;have p0:wr.cell? ⟨b,o,none⟩=some (int i64 ds[j].kind):=E0.o.cell 0 (by simp);have p1:wr.cell? ⟨b,o+1,none⟩=some (int i64 ds[j].seq):=E0.o.cell 1 (by simp);have z0:wr.frozen? ⟨b,o,none⟩=false:=E0.o.free 0 (by omega);have z1:wr.frozen? ⟨b,o+1,none⟩=false:=E0.o.free 1 (by omega);have hjl:(j:Int)<(ds.length:Int):=by omega
  go_wp2_with fail
  obtain⟨W2,hW2⟩:∃W2,((wr.setCell ⟨b,o,none⟩ (int i64 ((c:Int)))).setCell ⟨b,o+1,none⟩ (int i64 ((c:Int)+1)))=W2:=⟨_,rfl⟩;rw[hW2,show(((c:Int)+1+1):Int)=((c+1+1:Nat):Int)from by omega];have E2:=U (show F7 9 wr W2 b o [int i64 ((c:Int)),int i64 ((c:Int)+1),.string ds[j].name,int i64 ds[j].length,int i64 ds[j].group,int i64 ds[j].row,.slice D0 ds[j].rows.length e0,.slice D1 ds[j].data.length e1,.slice D2 ds[j].delta.length e2] ((List.range 9).map (fun q =>(⟨b,o+q,none⟩:Addr)) ++(f0 ++(f1 ++ f2)))from by rw[← hW2];exact((E0.o.set_ 0 (by omega) (int i64 ((c:Int)))).set_ 1 (by omega) (int i64 ((c:Int)+1))));have S2:=U (show AQ (f0 ++(f1 ++ f2)) wr W2 from by rw[← hW2];exact(FM (FM (fun _ _ => rfl) (HNOT.o 0 (by omega))) (HNOT.o 1 (by omega))));have L2:=U (show wr.heap.size≤W2.heap.size from E2.o.wrote.size);clear hW2 p0 p1 z0 z1;refine(It (c+1+1) W2 (by omega) (by omega)).mono ?_;rintro e w3 ⟨rfl,b3⟩;have E3:=U (E2.o.below b3);have S3:=U (PD S2.o HAT.o.there L2.o b3);clear b3;have p2:w3.cell? ⟨b,o+2,none⟩=some (.string ds[j].name):=E3.o.cell 2 (by simp);have p3:w3.cell? ⟨b,o+3,none⟩=some (int i64 ds[j].length):=E3.o.cell 3 (by simp);have p4:w3.cell? ⟨b,o+4,none⟩=some (int i64 ds[j].group):=E3.o.cell 4 (by simp);have p5:w3.cell? ⟨b,o+5,none⟩=some (int i64 ds[j].row):=E3.o.cell 5 (by simp);have p6:w3.cell? ⟨b,o+6,none⟩=some (.slice D0 ds[j].rows.length e0):=E3.o.cell 6 (by simp);have p7:w3.cell? ⟨b,o+7,none⟩=some (.slice D1 ds[j].data.length e1):=E3.o.cell 7 (by simp);have p8:w3.cell? ⟨b,o+8,none⟩=some (.slice D2 ds[j].delta.length e2):=E3.o.cell 8 (by simp);have z2:w3.frozen? ⟨b,o+2,none⟩=false:=E3.o.free 2 (by omega);have z3:w3.frozen? ⟨b,o+3,none⟩=false:=E3.o.free 3 (by omega);have z4:w3.frozen? ⟨b,o+4,none⟩=false:=E3.o.free 4 (by omega);have z5:w3.frozen? ⟨b,o+5,none⟩=false:=E3.o.free 5 (by omega);have pb3:b<w3.heap.size:=E3.o.lt;go_wp2_with fail
  obtain⟨W4,hW4⟩:∃W4,((((w3.setCell ⟨b,o+2,none⟩ (.string (mkT (c+1+1)))).setCell ⟨b,o+3,none⟩ (int i64 ((c:Int)+1+1+1))).setCell ⟨b,o+4,none⟩ (int i64 ((c:Int)+1+1+1+1))).setCell ⟨b,o+5,none⟩ (int i64 ((c:Int)+1+1+1+1+1)))=W4:=⟨_,rfl⟩;rw[hW4,show((c:Int)+1+1+1+1+1+1:Int)=((c+1+1+1+1+1+1:Nat):Int)from by omega];have E4:=U (show F7 9 wr W4 b o [int i64 ((c:Int)),int i64 ((c:Int)+1),.string (mkT (c+1+1)),int i64 ((c:Int)+1+1+1),int i64 ((c:Int)+1+1+1+1),int i64 ((c:Int)+1+1+1+1+1),.slice D0 ds[j].rows.length e0,.slice D1 ds[j].data.length e1,.slice D2 ds[j].delta.length e2] ((List.range 9).map (fun q =>(⟨b,o+q,none⟩:Addr)) ++(f0 ++(f1 ++ f2)))from by rw[← hW4];exact((((E3.o.set_ 2 (by omega) (.string (mkT (c+1+1)))).set_ 3 (by omega) (int i64 ((c:Int)+1+1+1))).set_ 4 (by omega) (int i64 ((c:Int)+1+1+1+1))).set_ 5 (by omega) (int i64 ((c:Int)+1+1+1+1+1))));have S4:=U (show AQ (f0 ++(f1 ++ f2)) wr W4 from by rw[← hW4];exact(FM (FM (FM (FM S3.o (HNOT.o 2 (by omega))) (HNOT.o 3 (by omega))) (HNOT.o 4 (by omega))) (HNOT.o 5 (by omega))));clear hW4 p2 p3 p4 p5 p6 p7 p8 z2 z3 z4 z5;have hl4:wr.heap.size≤W4.heap.size:=E4.o.wrote.size;have hnn:=List.nodup_append.1 HND.o;have hnn2:=List.nodup_append.1 hnn.2.1;have hm4:Aw lo W4 (f0 ++(f1 ++ f2)):=⟨HND.o,fun a ha => HM2.o.from_ a (HAT.o.sub a ha),fun a ha =>(E4.o.wrote.frozen a (HAT.o.there a ha)).trans (HM2.o.free a (HAT.o.sub a ha))⟩;have M0:=U (show Aw lo W4 f0 from⟨hnn.1,fun a ha => hm4.from_ a (aX _ ha),fun a ha => hm4.free a (aX _ ha)⟩);have R0:=U (rSl.keep Az.local_ H0.o (fun a ha => S4.o a (aX _ ha)));have HNN:=U hnn;have HNN2:=U hnn2;have HL4:=U hl4;clear hnn hnn2 hm4 hl4;refine(I9 _ ds[j].rows f0 W4 (c+1+1+1+1+1+1) lo R0.o M0.o (by have:=HNUM.o;omega) (by have:=HNUM.o;omega)).mono ?_;rintro e w5 ⟨rfl,hw5,hr5⟩;have E5:=U (E4.o.sub hw5 (fun a ha => aT _ (aX _ ha)) (fun q hq hm => HNOT.o q hq (aX _ hm)));have S5:=U (KR (fk:=f1 ++ f2) (fun a ha => S4.o a (aT _ ha)) (fun a ha => HAT.o.there a (aT _ ha)) HL4.o hw5 (fun a ha hb => HNN.o.2.2 a hb a ha rfl));have Q5:=U hr5;clear hw5 hr5;obtain⟨k1,hk1⟩:∃k1,c+1+1+1+1+1+1+ds[j].rows.length =k1:=⟨_,rfl⟩;rw[hk1];have HK1:=U hk1;have HL5:=U (show wr.heap.size≤w5.heap.size from E5.o.wrote.size);have pb5:b<w5.heap.size:=E5.o.lt;have p7:w5.cell? ⟨b,o+7,none⟩=some (.slice D1 ds[j].data.length e1):=E5.o.cell 7 (by simp);have p8:w5.cell? ⟨b,o+8,none⟩=some (.slice D2 ds[j].delta.length e2):=E5.o.cell 8 (by simp);clear hk1;go_wp2_with fail
  have M1:=U (show Aw lo w5 f1 from⟨HNN2.o.1,fun a ha => HM2.o.from_ a (HAT.o.sub a (aT _ (aX _ ha))),fun a ha =>(E5.o.wrote.frozen a (HAT.o.there a (aT _ (aX _ ha)))).trans (HM2.o.free a (HAT.o.sub a (aT _ (aX _ ha))))⟩);have R1:=U (rSl.keep Ai.local_ H1'.o (fun a ha => S5.o a (aX _ ha)));refine(Hk _ ds[j].data f1 w5 k1 lo R1.o M1.o (by have:=HK1.o;omega) (by have:=HK1.o;have:=HNUM.o;omega)).mono ?_;rintro e w6 ⟨rfl,hw6,hr6⟩;have E6:=U (E5.o.sub hw6 (fun a ha => aT _ (aT _ (aX _ ha))) (fun q hq hm => HNOT.o q hq (aT _ (aX _ hm))));have S6:=U (KR (fk:=f2) (fun a ha => S5.o a (aT _ ha)) (fun a ha => HAT.o.there a (aT _ (aT _ ha))) HL5.o hw6 (fun a ha hb => HNN2.o.2.2 a hb a ha rfl));have Q56:=U (rSl.keep Az.local_ Q5.o (fun a ha => hw6.cell a (fun hb => HNN.o.2.2 a ha a (aX _ hb) rfl) (aE (HAT.o.there a (aX _ ha)) HL5.o)));have Q6:=U hr6;have HL6:=U (show wr.heap.size≤w6.heap.size from E6.o.wrote.size);clear hw6 hr6 p7 p8;obtain⟨k2,hk2⟩:∃k2,k1+ds[j].data.length =k2:=⟨_,rfl⟩;rw[hk2];have HK2:=U hk2;have pb6:b<w6.heap.size:=E6.o.lt;have p8:w6.cell? ⟨b,o+8,none⟩=some (.slice D2 ds[j].delta.length e2):=E6.o.cell 8 (by simp);clear hk2;go_wp2_with fail
  have M2':=U (show Aw lo w6 f2 from⟨HNN2.o.2.1,fun a ha => HM2.o.from_ a (HAT.o.sub a (aT _ (aT _ ha))),fun a ha =>(E6.o.wrote.frozen a (HAT.o.there a (aT _ (aT _ ha)))).trans (HM2.o.free a (HAT.o.sub a (aT _ (aT _ ha))))⟩);have R2:=U (rSl.keep Ai.local_ H2.o (fun a ha => S6.o a ha));refine(Hk _ ds[j].delta f2 w6 k2 lo R2.o M2'.o (by have:=HK1.o;have:=HK2.o;omega) (by have:=HK1.o;have:=HK2.o;have:=HNUM.o;omega)).mono ?_;rintro e w7 ⟨rfl,hw7,hr7⟩;have E7:=U (E6.o.sub hw7 (fun a ha => aT _ (aT _ (aT _ ha))) (fun q hq hm => HNOT.o q hq (aT _ (aT _ hm))));have Q57:=U (rSl.keep Az.local_ Q56.o (fun a ha => hw7.cell a (fun hb => HNN.o.2.2 a ha a (aT _ hb) rfl) (aE (HAT.o.there a (aX _ ha)) HL6.o)));have Q67:=U (rSl.keep Ai.local_ Q6.o (fun a ha => hw7.cell a (fun hb => HNN2.o.2.2 a ha a hb rfl) (aE (HAT.o.there a (aT _ (aX _ ha))) HL6.o)));have Q7:=U hr7;clear hw7 hr7 p8;obtain⟨k3,hk3⟩:∃k3,k2+ds[j].delta.length =k3:=⟨_,rfl⟩;rw[hk3];have HK3:=U hk3;clear hk3;go_wp2_with fail
  go_roundw
  case rel =>
   have e1':=HK1.o;have e2':=HK2.o;have e3':=HK3.o;have q1:=Q67.o;have q2:=Q7.o;rw[← e1']at q1;rw[← e2',← e1']at q2;have hnew:=HUPD.o w7 [int i64 ((c:Int)),int i64 ((c:Int)+1),.string (mkT (c+1+1)),int i64 ((c:Int)+1+1+1),int i64 ((c:Int)+1+1+1+1),int i64 ((c:Int)+1+1+1+1+1),.slice D0 ds[j].rows.length e0,.slice D1 ds[j].data.length e1,.slice D2 ds[j].delta.length e2] (Fu c ds[j]) rfl (fun a ha h0 hf => E7.o.wrote.cell a (fun hm => by
     rcases List.mem_append.1 hm with hm|hm
     ·obtain⟨q,hq,e⟩:=List.mem_map.1 hm;exact h0 q (List.mem_range.1 hq) e.symm
     ·exact hf hm) (aE (rSl.there Ac.fixed H1.o a ha) HW.o.size))
    (fun q hq => E7.o.cell q hq)
    ⟨_,_,_,f0,f1,f2,by first|(simp[Fu];done)|(simp[Fu];exact⟨rfl,rfl,rfl⟩),rfl,okN (by omega),okN (by omega),LU _ (by omega),okN (by omega),okN (by omega),okN (by omega),Q57.o,q1,q2⟩
   rw[show c=k+AA BL (ds.take j)from HC.o,EA Fu BL k ds j hlt]at hnew;refine⟨j+1,k3,by omega,?_,by go_num,rfl,hnew,HW.o.trans (E7.o.wrote.mono (fun a ha => ?_))⟩
   ·rw[CE BL hlt];have h1:=HC.o;have h2:BL ds[j] =1+1+1+1+1+1+ds[j].rows.length +ds[j].data.length +ds[j].delta.length:=rfl;omega
   ·rcases List.mem_append.1 ha with hm|hm
    ·obtain⟨q,hq,rfl⟩:=List.mem_map.1 hm;exact HAT.o.mem q (List.mem_range.1 hq)
    ·exact HAT.o.sub a hm
  case measure => simp[intOf];omega
theorem Ng(v:Value)(xs:List Int)(fs:List Addr)(w:World)(k:Nat)(lo:Nat)(h1:rSl 1 Az w fs v xs)(hm:Aw lo w fs)(_:0<k)(hk0:k+xs.length≤1000000000) :
  Calls prog 58 #[v,int i64 (k:Int)] w fun e w' => e= .returned (int i64 ((k+xs.length:Nat):Int))∧AD fs w w'∧rSl 1 Az w' fs v (mkI k xs.length):=I9 v xs fs w k lo h1 hm (by omega) (by omega)
def Es(d:Am):Nat:=AA (AA AG) d.g+d.on.length+AA Bv d.v
def oneWorld(k:Nat)(d:Am):Am:={ d with g:=(Bj (Bj CU AG) (AA AG) (k) d.g),on:=(mkI (k+AA (AA AG) d.g) d.on.length),v:=(Bj FL Bv (k+AA (AA AG) d.g+d.on.length) d.v) }
theorem N6(v:Value)(ds:List AS)(fs:List Addr)(w:World)(k lo:Nat)(h1:rSl 2 Ay w fs v ds)(hm:Aw lo w fs)(hk:0<k)(hk0:k+AA Bv ds≤1000000000) :
  Calls prog 59 #[v,int i64 (k:Int)] w fun e w' => e= .returned (int i64 ((k+AA Bv ds:Nat):Int))∧AD fs w w'∧rSl 2 Ay w' fs v (Bj FL Bv k ds):=by
 have H1:=U h1;have HM:=U hm;obtain⟨A1,c1,rfl,hc1,hm1⟩:=rSl.head h1;clear h1 hm;have hn0:ds.length≤1000000000:=by have:=Ft Bv (fun d => by unfold Bv;omega) ds;omega
 obtain⟨R,hR⟩:∃R:Nat,k+AA Bv ds=R:=⟨_,rfl⟩;have HNS:=U (fun j (h:j<ds.length) => show k+AA Bv (ds.take j)+Bv ds[j]≤1000000000 from by
  have:=CE Bv h;have:=Dn Bv ds (j+1);omega)
 rw[hR]at hk0⊢;have HR:=U hR;clear hR;go_enter func59,ntmps59
 go_wp2
 go_loopw [1,5] (fun n i wr =>∃(j c:Nat),j≤ds.length∧c=k+AA Bv (ds.take j)∧i= int i64 j∧n= int i64 (c:Int)∧rSl 2 Ay wr fs (.slice A1 ds.length c1) (Cd FL Bv k ds j)∧AD fs w wr) (fun _ i _ => ds.length - (intOf i).toNat)
 case atStart => exact⟨0,k,by omega,by simp[AA],rfl,rfl,by rw[Ec];exact H1.o,AD.refl _ _⟩
 case round =>
  obtain⟨j,c,hj,hc,rfl,rfl,hrt,hwr⟩:=hrel;by_cases hlt:j<ds.length
  case neg =>
   have hje:j=ds.length:=by omega
   subst hje;rw[Ey]at hrt;rw[aV,HR.o]at hc;subst hc;have HW:=U hwr;have HRT:=U hrt;clear hwr hrt;go_wp2_with fail
   go_ret
   exact⟨rfl,HW.o,HRT.o⟩
  have hsl:=DJ FL Bv k ds j hj;have hM2:Aw lo wr fs:=HM.o.wrote hwr (rSl.there Ay.fixed H1.o);obtain⟨ad,c0,b,o,cs,fk,ev,hat,hnd,hnot,hupd⟩:=rSl.upd Ay.local_ Ay.fixed (by decide) hrt hM2.nodup j (by omega);rw[Ez FL Bv k ds j hlt (by omega)]at hat;injection ev with ev1 ev2 ev3
  subst ev1 ev3;obtain⟨v0,f0,ecs,efk,h0⟩:=hat.reads;subst ecs efk;obtain⟨A0,c2,rfl,hc2,hm2⟩:=rSl.head h0;have pb:=hat.lt;have p0:wr.cell? ⟨b,o,none⟩=some (.bool ds[j].wiped):=by have:=hat.cell 0 (by simp);simpa using this
  have p1:wr.cell? ⟨b,o+1,none⟩=some (.slice A0 ds[j].recs.length c2):=by have:=hat.cell 1 (by simp);simpa using this
  have fz0:wr.frozen? ⟨b,o,none⟩=false:=hM2.free _ (hat.mem 0 (by decide));have m0:(⟨b,o,none⟩:Addr)∈fs:=hat.mem 0 (by decide);have hP:=hat.place;have hnum:=HNS.o j hlt;rw[← hc]at hnum;have hcb:c≤1000000000:=by omega
  have hck:0<c:=by omega
  have hnm:Bv ds[j] =1+AA BL ds[j].recs:=rfl;rw[hnm]at hnum;clear hnm;obtain⟨L,hL⟩:∃L,decide (c % 3=0)=L:=⟨_,rfl⟩;have hm3:((c:Int) % 3 == 0)=L:=(mod3 c).trans hL;have HL:=U hL;clear hL;have HUPD:=U hupd;have HC:=U hc;have HW:=U hwr;have HM2:=U hM2;have HAT:=U hat;have HSL:=U hsl;have HND:=U hnd;have HNOT:=U hnot;have H0:=U h0;have HNUM:=U hnum;have P1:=U p1;clear hupd hc hwr hM2 hat hsl hnd hnot h0 hrt hnum ev2;go_wp2_with fail
  obtain⟨W2,hW2⟩:∃W2,wr.setCell ⟨b,o,none⟩ (.bool L)=W2:=⟨_,rfl⟩;have hsz2:W2.heap.size=wr.heap.size:=by rw[← hW2];simp[World.setCell]
  have hoth:∀a:Addr,a≠⟨b,o,none⟩→W2.cell? a=wr.cell? a:=fun a h1 => by rw[← hW2,World.cell?_setCell_other _ _ _ _ (Ne.symm h1)]
  have s0:W2.cell? ⟨b,o,none⟩=some (.bool L):=by rw[← hW2,World.cell?_setCell_same _ _ _ p0]
  have hWr2:AD fs wr W2:=by rw[← hW2];exact(AD.refl _ _).setCell m0 _
  have h02:rSl 9 Ac W2 fk (.slice A0 ds[j].recs.length c2) ds[j].recs:=rSl.keep Ac.local_ H0.o fun a ha => hoth a (fun e => HNOT.o 0 (by decide) (by rw[← show a=⟨b,o+0,none⟩from e];exact ha))
  have hmf:Aw lo W2 fk:=⟨HND.o,fun a ha => HM2.o.from_ a (HAT.o.sub a ha),fun a ha =>(hWr2.frozen a (HAT.o.there a ha)).trans (HM2.o.free a (HAT.o.sub a ha))⟩;rw[hW2,show((c:Int)+1)=((c+1:Nat):Int)from by omega];have HO:=U hoth;have S0:=U s0;have HW2:=U hWr2;have HS2:=U hsz2;clear hW2 hoth s0 hWr2 hsz2 p0 p1 fz0 hm3;refine(Pq _ ds[j].recs fk W2 (c+1) lo h02 hmf (by omega) (by have:=HNUM.o;omega)).mono ?_;rintro e w3 ⟨rfl,hw3,hr3⟩;have HW3:=U hw3;have HR3:=U hr3;clear hw3 hr3 h02 hmf;go_wp2_with fail
  go_roundw
  case rel =>
   have hb2:b<W2.heap.size:=by rw[HS2.o];exact pb
   have t0:=(HW3.o.cell ⟨b,o,none⟩ (HNOT.o 0 (by decide)) hb2).trans S0.o;have t1:=((HW3.o.cell ⟨b,o+1,none⟩ (HNOT.o 1 (by decide)) hb2).trans (HO.o _ (by simp))).trans P1.o;have hnew:=HUPD.o w3 [.bool L,.slice A0 ds[j].recs.length c2] (FL c ds[j]) rfl (fun a ha h0 hf => by
     have hwa:a.block<wr.heap.size:=aE (rSl.there Ay.fixed H1.o a ha) HW.o.size;rw[HW3.o.cell a hf (aE hwa HW2.o.size),HO.o a (h0 0 (by decide))])
    (fun q hq => by
     rcases q with _|q
     ·exact t0
     ·obtain rfl:q=0:=by simp at hq;omega
      exact t1)
    ⟨_,fk,by rw[← HL.o];rfl,rfl,HR3.o⟩
   rw[show c=k+AA Bv (ds.take j)from HC.o,EA FL Bv k ds j hlt]at hnew;refine⟨j+1,c+1+AA BL ds[j].recs,by omega,?_,by go_num,by congr 1,hnew,(HW.o.trans HW2.o).trans (HW3.o.mono HAT.o.sub)⟩;rw[CE Bv hlt,HC.o];simp only[Bv];omega
  case measure => simp[intOf];omega
theorem N7(d:Am)(cs:List Value)(fs:List Addr)(w:World)(k lo:Nat)(h1:AC w fs cs d)(hm:Aw lo w fs)(hk:0<k)(hk0:k+Es d≤1000000000)(hg:d.g.length≤1000000000) :
  Calls prog 16 #[.agg cs.toArray,int i64 (k:Int)] w fun e w' => e= .returned (int i64 ((k+Es d:Nat):Int))∧AD fs w w'∧AC w' fs cs (oneWorld k d):=by
 obtain⟨v0,v1,v2,f0,f1,f2,e,ef,o0,o1,o2,o3,o4,o5,o6,o7,o8,o9,o10,h0,h1,h2⟩:=h1;subst e ef;have T0:=U (rSl.there (Al.fixed Ak.fixed) h0);have T1:=U (rSl.there Az.fixed h1);have T2:=U (rSl.there Ay.fixed h2);have H0:=U h0;obtain⟨A0,c0,rfl,-⟩:=rSl.head h0;clear h0;have H1:=U h1;obtain⟨A1,c1,rfl,-⟩:=rSl.head h1;clear h1;have H2:=U h2;obtain⟨A2,c2,rfl,-⟩:=rSl.head h2;clear h2;have MM:=U hm;have M0:=U hm.left;have M1:=U hm.right.left;have M2:=U hm.right.right;have D01:=U (fun a (ha:a∈f0) (hb:a∈f1) => hm.apart a ha (aX _ hb));have D02:=U (fun a (ha:a∈f0) (hb:a∈f2) => hm.apart a ha (aT _ hb));have D12:=U (fun a (ha:a∈f1) (hb:a∈f2) => hm.right.apart a ha hb);clear hm;obtain⟨n0,hn0⟩:∃n0:Nat,AA (AA AG) d.g=n0:=⟨_,rfl⟩;obtain⟨n1,hn1⟩:∃n1:Nat,d.on.length=n1:=⟨_,rfl⟩;obtain⟨n2,hn2⟩:∃n2:Nat,AA Bv d.v=n2:=⟨_,rfl⟩;have hnw:Es d=n0+n1+n2:=by unfold Es;rw[hn0,hn1,hn2]
 rw[hnw]at hk0⊢;clear hnw;have N0:=U hn0;clear hn0;have N1:=U hn1;clear hn1;have N2:=U hn2;clear hn2;have hbx:=(aB w.heap.size w).alloc (aC _) (.cells #[int i64 d.s.g,int i64 d.s.c,int i64 d.s.data,int i64 d.s.p,int i64 d.s.rows,int i64 d.s.cap,int i64 d.s.b,int i64 d.s.q,int i64 d.s.t,.slice A0 d.g.length c0,.slice A1 d.on.length c1,.slice A2 d.v.length c2,int i64 d.u,int i64 d.stop,.bool d.down] 35);have HBX:=U hbx;clear hbx;have HYP:=U (And.intro hk0 hg);clear hg;go_enter func16,ntmps16
 go_wp2_with fail
 have rr:=rSl.below (Al.local_ Ak.local_) (Al.fixed Ak.fixed) H0.o HBX.o;have mm:=M0.o.below HBX.o T0.o;refine(Mk _ d.g f0 _ (k) lo rr mm (by omega) (by rw[N0.o];have:=HYP.o.1;omega) HYP.o.2).mono ?_;rintro e w0 ⟨rfl,hw,hr⟩;rw[N0.o];have R0:=U hr;clear hr rr mm;have WF0:=U ((AD.of_below (fs:=f0) HBX.o).trans hw);have hK:=Blk.wrote (Blk.new w 35 #[int i64 d.s.g,int i64 d.s.c,int i64 d.s.data,int i64 d.s.p,int i64 d.s.rows,int i64 d.s.cap,int i64 d.s.b,int i64 d.s.q,int i64 d.s.t,.slice A0 d.g.length c0,.slice A1 d.on.length c1,.slice A2 d.v.length c2,int i64 d.u,int i64 d.stop,.bool d.down]) hw (fun a ha e => by have:=T0.o a ha;omega);have pk:=Blk.cell hK 10;simp only[List.getElem?_toArray,List.getElem?_cons_zero,List.getElem?_cons_succ]at pk;have K0:=U hK;clear hK;clear hw;go_wp2_with fail
 clear pk;have rr:=rSl.keep Az.local_ H1.o (WF0.o.same T1.o (fun a ha hb => D01.o a hb ha));have mm:=M1.o.wrote WF0.o T1.o;refine(Ng _ d.on f1 _ (k+n0) lo rr mm (by omega) (by rw[N1.o];have:=HYP.o.1;omega)).mono ?_;rintro e w1 ⟨rfl,hw,hr⟩;rw[N1.o];have R1:=U hr;clear hr rr mm;have WF1:=U ((WF0.o.mono (gs:=f0 ++ f1) (fun a ha => aX _ ha)).trans (hw.mono (fun a ha => aT _ ha)));have hK:=Blk.wrote K0.o hw (fun a ha e => by have:=T1.o a ha;omega);have pk:=Blk.cell hK 11;simp only[List.getElem?_toArray,List.getElem?_cons_zero,List.getElem?_cons_succ]at pk;have K1:=U hK;clear hK;have R0_:=R0.o;clear R0;have R0:=U (rSl.keep (Al.local_ Ak.local_) R0_ (hw.same (fun a ha => aE (T0.o a ha) WF0.o.size) (fun a ha hb => D01.o a ha hb)));clear R0_;clear hw;go_wp2_with fail
 clear pk;have rr:=rSl.keep Ay.local_ H2.o (WF1.o.same T2.o (fun a ha hb =>(List.mem_append.1 hb).elim (fun h => D02.o a h ha) (fun h => D12.o a h ha)));have mm:=M2.o.wrote WF1.o T2.o;refine(N6 _ d.v f2 _ (k+n0+n1) lo rr mm (by omega) (by rw[N2.o];have:=HYP.o.1;omega)).mono ?_;rintro e w2 ⟨rfl,hw,hr⟩;rw[N2.o];have R2:=U hr;clear hr rr mm;have WF2:=U ((WF1.o.mono (gs:=f0 ++(f1 ++ f2)) (fun a ha => by simp only[bV]at ha⊢;rcases ha with h|h <;> simp[h])).trans (hw.mono (fun a ha => by simp[ha])));have R0_:=R0.o;clear R0;have R0:=U (rSl.keep (Al.local_ Ak.local_) R0_ (hw.same (fun a ha => aE (T0.o a ha) WF1.o.size) (fun a ha hb => D02.o a ha hb)));clear R0_;have R1_:=R1.o;clear R1;have R1:=U (rSl.keep Az.local_ R1_ (hw.same (fun a ha => aE (T1.o a ha) WF1.o.size) (fun a ha hb => D12.o a ha hb)));clear R1_;clear hw;go_wp2_with fail
 go_ret
 refine⟨KJ (by omega),WF2.o,_,_,_,f0,f1,f2,rfl,rfl,o0,o1,o2,o3,o4,o5,o6,o7,o8,o9,o10,?_,?_,?_⟩
 ·exact R0.o
 ·have:=R1.o;rw[← N0.o]at this;exact this
 ·have:=R2.o;rw[← N0.o,← N1.o]at this;exact this
theorem Fg {α:Type} {num sz:α→Nat} {m:Nat}(h:∀d,num d≤m * (1+sz d)):∀l:List α,AA num l≤m * AP sz l
 | [] => by simp[AA]
 |d :: l => by
  have h1:=Fg h l;have h2:=h d;have h3:AA num (d :: l)=num d+AA num l:=by simp[AA]
  have h4:AP sz (d :: l)=(1+sz d)+AP sz l:=by
   unfold AP;simp only[List.length_cons,List.map_cons,List.sum_cons];omega
  rw[h3,h4,Nat.mul_add];omega
theorem N8(b:Bt):Bh b≤1 * (1+Ce b):=by unfold Bh Ce;omega
theorem N9(d:AL):AG d≤1 * (1+Cf d):=by
 have h:=Fg N8 d.blocks;unfold AG Cf;omega
theorem Oa(g:List AL):AA AG g≤1 * (1+BO g):=by
 have h:=Fg N9 g;unfold BO;omega
theorem Rd(r:Ah):BL r≤6 * (1+BU r):=by unfold BL BU;omega
theorem Pt(t:AS):Bv t≤6 * (1+Cr t):=by
 have h:=Fg Rd t.recs;unfold Bv Cr;omega
theorem Ob(d:Am):Es d≤6 * Dd d:=by
 have h1:=Fg Oa d.g;have h2:=Fg Pt d.v;unfold Es Dd;omega
