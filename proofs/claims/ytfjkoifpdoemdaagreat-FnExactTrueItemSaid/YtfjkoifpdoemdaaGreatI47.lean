/-
  Part 47 of the proof; the last part states and proves the statement.
-/
import Derived.Test.YtfjkoifpdoemdaaGreatI46
import Derived.Test.YtfjkoifpdoemdaaGreatI01
import Derived.Test.YtfjkoifpdoemdaaGreatI03
set_option maxHeartbeats 8000000
set_option maxRecDepth 100000
set_option linter.unusedVariables false
set_option linter.unusedSimpArgs false
open Go.Value (int)
open Go.IntKind (i64)
namespace Go.Proofs.YtfjkoifpdoemdaaGreat
open Go.RowKit Go.Sort
open Go.Lib (hid)
section
variable {fk:List Addr} {wr u u':World} {p:Addr} {v:Value}
theorem Fp(h:AR fk wr u)(hp:p∉fk):AR fk wr (u.setCell p v):=fun a ha =>(World.cell?_setCell_other _ _ _ _ (fun e => hp (by rw[e];exact ha))).trans (h a ha)
theorem Ov(h:AR fk wr u)(ht:C9 fk wr)(hs:wr.heap.size≤u.heap.size)(hb:Below u.heap.size u u'):AR fk wr u':=fun a ha =>(hb.cell (Nat.lt_of_lt_of_le (ht a ha) hs)).trans (h a ha)
theorem Kg {f:List Addr}(h:AR fk wr u)(ht:C9 fk wr)(hs:wr.heap.size≤u.heap.size)(hw:AF f u u')(hd:∀a,a∈fk→a∉f):AR fk wr u':=fun a ha =>(hw.cell a (hd a ha) (Nat.lt_of_lt_of_le (ht a ha) hs)).trans (h a ha)
end
theorem okN {n:Nat}(h:n≤2000000000):okI ((n:Nat):Int):=⟨by omega,by omega⟩
theorem OQ(v:Value)(ds:List Ai)(fs:List Addr)(w:World)(k lo:Nat)(h1:rSl 9 Ac w fs v ds)(hm:Az lo w fs)(hk:0<k)(hk0:k+AA BI ds≤1000000000) :
  Calls Tryz.prog 112 #[v,int i64 (k:Int)] w fun e w' => e= .returned (int i64 ((k+AA BI ds:Nat):Int))∧AF fs w w'∧rSl 9 Ac w' fs v (Bh Fj BI k ds):=by
 have H1:=hid h1;have HM:=hid hm;obtain⟨A1,c1,rfl,hc1,hm1⟩:=rSl.head h1;clear h1 hm;have hn0:ds.length≤1000000000:=by have:=EX BI (fun d => by unfold BI;omega) ds;omega
 obtain⟨R,hR⟩:∃R:Nat,k+AA BI ds=R:=⟨_,rfl⟩;have HNS:=hid (fun j (h:j<ds.length) => show k+AA BI (ds.take j)+BI ds[j]≤1000000000 from by
  have:=Cy BI h;have:=Dd BI ds (j+1);omega)
 rw[hR]at hk0⊢;have HR:=hid hR;clear hR;go_enter Tryz.func112,Tryz.ntmps112
 go_wp2
 go_loopw [1,5] (fun n i wr =>∃(j c:Nat),j≤ds.length∧c=k+AA BI (ds.take j)∧i= int i64 j∧n= int i64 (c:Int)∧rSl 9 Ac wr fs (.slice A1 ds.length c1) (Ca Fj BI k ds j)∧AF fs w wr) (fun _ i _ => ds.length - (intOf i).toNat)
 case atStart => exact⟨0,k,by omega,by simp[AA],rfl,rfl,by rw[D3];exact H1.out,AF.refl _ _⟩
 case round =>
  obtain⟨j,c,hj,hc,rfl,rfl,hrt,hwr⟩:=hrel;by_cases hlt:j<ds.length
  case neg =>
   have hje:j=ds.length:=by omega
   subst hje;rw[En]at hrt;rw[List.take_length,HR.out]at hc;subst hc;have HW:=hid hwr;have HRT:=hid hrt;clear hwr hrt;go_wp2_with fail
   go_ret
   exact⟨rfl,HW.out,HRT.out⟩
  have hsl:=DA Fj BI k ds j hj;have hM2:Az lo wr fs:=HM.out.wrote hwr (rSl.there Ac.fixed H1.out);obtain⟨ad,c0,b,o,cs,fk,ev,hat,hnd,hnot,hupd⟩:=rSl.upd Ac.local_ Ac.fixed (by decide) hrt hM2.nodup j (by omega);rw[Ed Fj BI k ds j hlt (by omega)]at hat;injection ev with ev1 ev2 ev3
  subst ev1 ev3;obtain⟨v0,v1,v2,f0,f1,f2,ecs,efk,o0,o1,o2,o3,o4,o5,h0,h1,h2⟩:=hat.reads;subst ecs efk;obtain⟨D0,e0,rfl,-⟩:=rSl.head h0;obtain⟨D1,e1,rfl,-⟩:=rSl.head h1;obtain⟨D2,e2,rfl,-⟩:=rSl.head h2;have pb:=hat.lt;have hP:=hat.place;have hnum:=HNS.out j hlt;rw[← hc]at hnum;have hnm:BI ds[j] =1+1+1+1+1+1+ds[j].rows.length +ds[j].data.length +ds[j].delta.length:=rfl;rw[hnm]at hnum;have hE0:FS 9 wr wr b o [int i64 ds[j].kind,int i64 ds[j].seq,.string ds[j].name,int i64 ds[j].length,int i64 ds[j].group,int i64 ds[j].row,.slice D0 ds[j].rows.length e0,.slice D1 ds[j].data.length e1,.slice D2 ds[j].delta.length e2] ((List.range 9).map (fun q =>(⟨b,o+q,none⟩:Addr)) ++(f0 ++(f1 ++ f2))):=⟨hat.lt,hat.len,hat.cell,fun q hq => hM2.free _ (hat.mem q hq),AF.refl _ _,fun q hq => List.mem_append_left _ (List.mem_map.2 ⟨q,List.mem_range.2 hq,rfl⟩)⟩;have hcb:c≤1000000000:=by omega
  have hck:0<c:=by omega
  have E0:=hid hE0;have HAT:=hid hat;have HNOT:=hid hnot;have HND:=hid hnd;have HUPD:=hid hupd;have HC:=hid hc;have HW:=hid hwr;have HM2:=hid hM2;have HSL:=hid hsl;have HNUM:=hid hnum;have H0:=hid h0;have H1':=hid h1;have H2:=hid h2;clear hE0 hat hnd hupd hc hwr hM2 hsl hnum hrt h0 h1 h2 hnm ev2 hnot;have p0:wr.cell? ⟨b,o,none⟩=some (int i64 ds[j].kind):=E0.out.cell 0 (by simp);have p1:wr.cell? ⟨b,o+1,none⟩=some (int i64 ds[j].seq):=E0.out.cell 1 (by simp);have z0:wr.frozen? ⟨b,o,none⟩=false:=E0.out.free 0 (by omega);have z1:wr.frozen? ⟨b,o+1,none⟩=false:=E0.out.free 1 (by omega);have hjl:(j:Int)<(ds.length:Int):=by omega
  go_wp2_with fail
  obtain⟨W2,hW2⟩:∃W2,((wr.setCell ⟨b,o,none⟩ (int i64 ((c:Int)))).setCell ⟨b,o+1,none⟩ (int i64 ((c:Int)+1)))=W2:=⟨_,rfl⟩;rw[hW2,show(((c:Int)+1+1):Int)=((c+1+1:Nat):Int)from by omega];have E2:=hid (show FS 9 wr W2 b o [int i64 ((c:Int)),int i64 ((c:Int)+1),.string ds[j].name,int i64 ds[j].length,int i64 ds[j].group,int i64 ds[j].row,.slice D0 ds[j].rows.length e0,.slice D1 ds[j].data.length e1,.slice D2 ds[j].delta.length e2] ((List.range 9).map (fun q =>(⟨b,o+q,none⟩:Addr)) ++(f0 ++(f1 ++ f2)))from by rw[← hW2];exact((E0.out.set_ 0 (by omega) (int i64 ((c:Int)))).set_ 1 (by omega) (int i64 ((c:Int)+1))));have S2:=hid (show AR (f0 ++(f1 ++ f2)) wr W2 from by rw[← hW2];exact(Fp (Fp (fun _ _ => rfl) (HNOT.out 0 (by omega))) (HNOT.out 1 (by omega))));have L2:=hid (show wr.heap.size≤W2.heap.size from E2.out.wrote.size);clear hW2 p0 p1 z0 z1;refine(Oo (c+1+1) W2 (by omega) (by omega)).mono ?_;rintro e w3 ⟨rfl,b3⟩;have E3:=hid (E2.out.below b3);have S3:=hid (Ov S2.out HAT.out.there L2.out b3);clear b3;have p2:w3.cell? ⟨b,o+2,none⟩=some (.string ds[j].name):=E3.out.cell 2 (by simp);have p3:w3.cell? ⟨b,o+3,none⟩=some (int i64 ds[j].length):=E3.out.cell 3 (by simp);have p4:w3.cell? ⟨b,o+4,none⟩=some (int i64 ds[j].group):=E3.out.cell 4 (by simp);have p5:w3.cell? ⟨b,o+5,none⟩=some (int i64 ds[j].row):=E3.out.cell 5 (by simp);have p6:w3.cell? ⟨b,o+6,none⟩=some (.slice D0 ds[j].rows.length e0):=E3.out.cell 6 (by simp);have p7:w3.cell? ⟨b,o+7,none⟩=some (.slice D1 ds[j].data.length e1):=E3.out.cell 7 (by simp);have p8:w3.cell? ⟨b,o+8,none⟩=some (.slice D2 ds[j].delta.length e2):=E3.out.cell 8 (by simp);have z2:w3.frozen? ⟨b,o+2,none⟩=false:=E3.out.free 2 (by omega);have z3:w3.frozen? ⟨b,o+3,none⟩=false:=E3.out.free 3 (by omega);have z4:w3.frozen? ⟨b,o+4,none⟩=false:=E3.out.free 4 (by omega);have z5:w3.frozen? ⟨b,o+5,none⟩=false:=E3.out.free 5 (by omega);have pb3:b<w3.heap.size:=E3.out.lt;go_wp2_with fail
  obtain⟨W4,hW4⟩:∃W4,((((w3.setCell ⟨b,o+2,none⟩ (.string (mkT (c+1+1)))).setCell ⟨b,o+3,none⟩ (int i64 ((c:Int)+1+1+1))).setCell ⟨b,o+4,none⟩ (int i64 ((c:Int)+1+1+1+1))).setCell ⟨b,o+5,none⟩ (int i64 ((c:Int)+1+1+1+1+1)))=W4:=⟨_,rfl⟩;rw[hW4,show((c:Int)+1+1+1+1+1+1:Int)=((c+1+1+1+1+1+1:Nat):Int)from by omega];have E4:=hid (show FS 9 wr W4 b o [int i64 ((c:Int)),int i64 ((c:Int)+1),.string (mkT (c+1+1)),int i64 ((c:Int)+1+1+1),int i64 ((c:Int)+1+1+1+1),int i64 ((c:Int)+1+1+1+1+1),.slice D0 ds[j].rows.length e0,.slice D1 ds[j].data.length e1,.slice D2 ds[j].delta.length e2] ((List.range 9).map (fun q =>(⟨b,o+q,none⟩:Addr)) ++(f0 ++(f1 ++ f2)))from by rw[← hW4];exact((((E3.out.set_ 2 (by omega) (.string (mkT (c+1+1)))).set_ 3 (by omega) (int i64 ((c:Int)+1+1+1))).set_ 4 (by omega) (int i64 ((c:Int)+1+1+1+1))).set_ 5 (by omega) (int i64 ((c:Int)+1+1+1+1+1))));have S4:=hid (show AR (f0 ++(f1 ++ f2)) wr W4 from by rw[← hW4];exact(Fp (Fp (Fp (Fp S3.out (HNOT.out 2 (by omega))) (HNOT.out 3 (by omega))) (HNOT.out 4 (by omega))) (HNOT.out 5 (by omega))));clear hW4 p2 p3 p4 p5 p6 p7 p8 z2 z3 z4 z5;have hl4:wr.heap.size≤W4.heap.size:=E4.out.wrote.size;have hnn:=List.nodup_append.1 HND.out;have hnn2:=List.nodup_append.1 hnn.2.1;have hm4:Az lo W4 (f0 ++(f1 ++ f2)):=⟨HND.out,fun a ha => HM2.out.from_ a (HAT.out.sub a ha),fun a ha =>(E4.out.wrote.frozen a (HAT.out.there a ha)).trans (HM2.out.free a (HAT.out.sub a ha))⟩;have M0:=hid (show Az lo W4 f0 from⟨hnn.1,fun a ha => hm4.from_ a (List.mem_append_left _ ha),fun a ha => hm4.free a (List.mem_append_left _ ha)⟩);have R0:=hid (rSl.keep Ay.local_ H0.out (fun a ha => S4.out a (List.mem_append_left _ ha)));have HNN:=hid hnn;have HNN2:=hid hnn2;have HL4:=hid hl4;clear hnn hnn2 hm4 hl4;refine(IR _ ds[j].rows f0 W4 (c+1+1+1+1+1+1) lo R0.out M0.out (by have:=HNUM.out;omega) (by have:=HNUM.out;omega)).mono ?_;rintro e w5 ⟨rfl,hw5,hr5⟩;have E5:=hid (E4.out.sub hw5 (fun a ha => List.mem_append_right _ (List.mem_append_left _ ha)) (fun q hq hm => HNOT.out q hq (List.mem_append_left _ hm)));have S5:=hid (Kg (fk:=f1 ++ f2) (fun a ha => S4.out a (List.mem_append_right _ ha)) (fun a ha => HAT.out.there a (List.mem_append_right _ ha)) HL4.out hw5 (fun a ha hb => HNN.out.2.2 a hb a ha rfl));have Q5:=hid hr5;clear hw5 hr5;obtain⟨k1,hk1⟩:∃k1,c+1+1+1+1+1+1+ds[j].rows.length =k1:=⟨_,rfl⟩;rw[hk1];have HK1:=hid hk1;have HL5:=hid (show wr.heap.size≤w5.heap.size from E5.out.wrote.size);have pb5:b<w5.heap.size:=E5.out.lt;have p7:w5.cell? ⟨b,o+7,none⟩=some (.slice D1 ds[j].data.length e1):=E5.out.cell 7 (by simp);have p8:w5.cell? ⟨b,o+8,none⟩=some (.slice D2 ds[j].delta.length e2):=E5.out.cell 8 (by simp);clear hk1;go_wp2_with fail
  have M1:=hid (show Az lo w5 f1 from⟨HNN2.out.1,fun a ha => HM2.out.from_ a (HAT.out.sub a (List.mem_append_right _ (List.mem_append_left _ ha))),fun a ha =>(E5.out.wrote.frozen a (HAT.out.there a (List.mem_append_right _ (List.mem_append_left _ ha)))).trans (HM2.out.free a (HAT.out.sub a (List.mem_append_right _ (List.mem_append_left _ ha))))⟩);have R1:=hid (rSl.keep Ah.local_ H1'.out (fun a ha => S5.out a (List.mem_append_left _ ha)));refine(GT _ ds[j].data f1 w5 k1 lo R1.out M1.out (by have:=HK1.out;omega) (by have:=HK1.out;have:=HNUM.out;omega)).mono ?_;rintro e w6 ⟨rfl,hw6,hr6⟩;have E6:=hid (E5.out.sub hw6 (fun a ha => List.mem_append_right _ (List.mem_append_right _ (List.mem_append_left _ ha))) (fun q hq hm => HNOT.out q hq (List.mem_append_right _ (List.mem_append_left _ hm))));have S6:=hid (Kg (fk:=f2) (fun a ha => S5.out a (List.mem_append_right _ ha)) (fun a ha => HAT.out.there a (List.mem_append_right _ (List.mem_append_right _ ha))) HL5.out hw6 (fun a ha hb => HNN2.out.2.2 a hb a ha rfl));have Q56:=hid (rSl.keep Ay.local_ Q5.out (fun a ha => hw6.cell a (fun hb => HNN.out.2.2 a ha a (List.mem_append_left _ hb) rfl) (Nat.lt_of_lt_of_le (HAT.out.there a (List.mem_append_left _ ha)) HL5.out)));have Q6:=hid hr6;have HL6:=hid (show wr.heap.size≤w6.heap.size from E6.out.wrote.size);clear hw6 hr6 p7 p8;obtain⟨k2,hk2⟩:∃k2,k1+ds[j].data.length =k2:=⟨_,rfl⟩;rw[hk2];have HK2:=hid hk2;have pb6:b<w6.heap.size:=E6.out.lt;have p8:w6.cell? ⟨b,o+8,none⟩=some (.slice D2 ds[j].delta.length e2):=E6.out.cell 8 (by simp);clear hk2;go_wp2_with fail
  have M2':=hid (show Az lo w6 f2 from⟨HNN2.out.2.1,fun a ha => HM2.out.from_ a (HAT.out.sub a (List.mem_append_right _ (List.mem_append_right _ ha))),fun a ha =>(E6.out.wrote.frozen a (HAT.out.there a (List.mem_append_right _ (List.mem_append_right _ ha)))).trans (HM2.out.free a (HAT.out.sub a (List.mem_append_right _ (List.mem_append_right _ ha))))⟩);have R2:=hid (rSl.keep Ah.local_ H2.out (fun a ha => S6.out a ha));refine(GT _ ds[j].delta f2 w6 k2 lo R2.out M2'.out (by have:=HK1.out;have:=HK2.out;omega) (by have:=HK1.out;have:=HK2.out;have:=HNUM.out;omega)).mono ?_;rintro e w7 ⟨rfl,hw7,hr7⟩;have E7:=hid (E6.out.sub hw7 (fun a ha => List.mem_append_right _ (List.mem_append_right _ (List.mem_append_right _ ha))) (fun q hq hm => HNOT.out q hq (List.mem_append_right _ (List.mem_append_right _ hm))));have Q57:=hid (rSl.keep Ay.local_ Q56.out (fun a ha => hw7.cell a (fun hb => HNN.out.2.2 a ha a (List.mem_append_right _ hb) rfl) (Nat.lt_of_lt_of_le (HAT.out.there a (List.mem_append_left _ ha)) HL6.out)));have Q67:=hid (rSl.keep Ah.local_ Q6.out (fun a ha => hw7.cell a (fun hb => HNN2.out.2.2 a ha a hb rfl) (Nat.lt_of_lt_of_le (HAT.out.there a (List.mem_append_right _ (List.mem_append_left _ ha))) HL6.out)));have Q7:=hid hr7;clear hw7 hr7 p8;obtain⟨k3,hk3⟩:∃k3,k2+ds[j].delta.length =k3:=⟨_,rfl⟩;rw[hk3];have HK3:=hid hk3;clear hk3;go_wp2_with fail
  go_roundw
  case rel =>
   have e1':=HK1.out;have e2':=HK2.out;have e3':=HK3.out;have q1:=Q67.out;have q2:=Q7.out;rw[← e1']at q1;rw[← e2',← e1']at q2;have hnew:=HUPD.out w7 [int i64 ((c:Int)),int i64 ((c:Int)+1),.string (mkT (c+1+1)),int i64 ((c:Int)+1+1+1),int i64 ((c:Int)+1+1+1+1),int i64 ((c:Int)+1+1+1+1+1),.slice D0 ds[j].rows.length e0,.slice D1 ds[j].data.length e1,.slice D2 ds[j].delta.length e2] (Fj c ds[j]) rfl (fun a ha h0 hf => E7.out.wrote.cell a (fun hm => by
     rcases List.mem_append.1 hm with hm|hm
     ·obtain⟨q,hq,e⟩:=List.mem_map.1 hm;exact h0 q (List.mem_range.1 hq) e.symm
     ·exact hf hm) (Nat.lt_of_lt_of_le (rSl.there Ac.fixed H1.out a ha) HW.out.size))
    (fun q hq => E7.out.cell q hq)
    ⟨_,_,_,f0,f1,f2,by first|(simp[Fj];done)|(simp[Fj];exact⟨rfl,rfl,rfl⟩),rfl,okN (by omega),okN (by omega),PE _ (by omega),okN (by omega),okN (by omega),okN (by omega),Q57.out,q1,q2⟩
   rw[show c=k+AA BI (ds.take j)from HC.out,Ee Fj BI k ds j hlt]at hnew;refine⟨j+1,k3,by omega,?_,by go_num,rfl,hnew,HW.out.trans (E7.out.wrote.mono (fun a ha => ?_))⟩
   ·rw[Cy BI hlt];have h1:=HC.out;have h2:BI ds[j] =1+1+1+1+1+1+ds[j].rows.length +ds[j].data.length +ds[j].delta.length:=rfl;omega
   ·rcases List.mem_append.1 ha with hm|hm
    ·obtain⟨q,hq,rfl⟩:=List.mem_map.1 hm;exact HAT.out.mem q (List.mem_range.1 hq)
    ·exact HAT.out.sub a hm
  case measure => simp[intOf];omega
theorem Mm(v:Value)(xs:List Int)(fs:List Addr)(w:World)(k:Nat)(lo:Nat)(h1:rSl 1 Ay w fs v xs)(hm:Az lo w fs)(_:0<k)(hk0:k+xs.length≤1000000000) :
  Calls Tryz.prog 58 #[v,int i64 (k:Int)] w fun e w' => e= .returned (int i64 ((k+xs.length:Nat):Int))∧AF fs w w'∧rSl 1 Ay w' fs v (mkI k xs.length):=IR v xs fs w k lo h1 hm (by omega) (by omega)
def Eo(d:Am):Nat:=AA (AA AG) d.g+d.on.length+AA Bt d.v
def oneWorld(k:Nat)(d:Am):Am:={ d with g:=(Bh (Bh CO AG) (AA AG) (k) d.g),on:=(mkI (k+AA (AA AG) d.g) d.on.length),v:=(Bh FA Bt (k+AA (AA AG) d.g+d.on.length) d.v) }
theorem NC(v:Value)(ds:List AQ)(fs:List Addr)(w:World)(k lo:Nat)(h1:rSl 2 Aw w fs v ds)(hm:Az lo w fs)(hk:0<k)(hk0:k+AA Bt ds≤1000000000) :
  Calls Tryz.prog 59 #[v,int i64 (k:Int)] w fun e w' => e= .returned (int i64 ((k+AA Bt ds:Nat):Int))∧AF fs w w'∧rSl 2 Aw w' fs v (Bh FA Bt k ds):=by
 have H1:=hid h1;have HM:=hid hm;obtain⟨A1,c1,rfl,hc1,hm1⟩:=rSl.head h1;clear h1 hm;have hn0:ds.length≤1000000000:=by have:=EX Bt (fun d => by unfold Bt;omega) ds;omega
 obtain⟨R,hR⟩:∃R:Nat,k+AA Bt ds=R:=⟨_,rfl⟩;have HNS:=hid (fun j (h:j<ds.length) => show k+AA Bt (ds.take j)+Bt ds[j]≤1000000000 from by
  have:=Cy Bt h;have:=Dd Bt ds (j+1);omega)
 rw[hR]at hk0⊢;have HR:=hid hR;clear hR;go_enter Tryz.func59,Tryz.ntmps59
 go_wp2
 go_loopw [1,5] (fun n i wr =>∃(j c:Nat),j≤ds.length∧c=k+AA Bt (ds.take j)∧i= int i64 j∧n= int i64 (c:Int)∧rSl 2 Aw wr fs (.slice A1 ds.length c1) (Ca FA Bt k ds j)∧AF fs w wr) (fun _ i _ => ds.length - (intOf i).toNat)
 case atStart => exact⟨0,k,by omega,by simp[AA],rfl,rfl,by rw[D3];exact H1.out,AF.refl _ _⟩
 case round =>
  obtain⟨j,c,hj,hc,rfl,rfl,hrt,hwr⟩:=hrel;by_cases hlt:j<ds.length
  case neg =>
   have hje:j=ds.length:=by omega
   subst hje;rw[En]at hrt;rw[List.take_length,HR.out]at hc;subst hc;have HW:=hid hwr;have HRT:=hid hrt;clear hwr hrt;go_wp2_with fail
   go_ret
   exact⟨rfl,HW.out,HRT.out⟩
  have hsl:=DA FA Bt k ds j hj;have hM2:Az lo wr fs:=HM.out.wrote hwr (rSl.there Aw.fixed H1.out);obtain⟨ad,c0,b,o,cs,fk,ev,hat,hnd,hnot,hupd⟩:=rSl.upd Aw.local_ Aw.fixed (by decide) hrt hM2.nodup j (by omega);rw[Ed FA Bt k ds j hlt (by omega)]at hat;injection ev with ev1 ev2 ev3
  subst ev1 ev3;obtain⟨v0,f0,ecs,efk,h0⟩:=hat.reads;subst ecs efk;obtain⟨A0,c2,rfl,hc2,hm2⟩:=rSl.head h0;have pb:=hat.lt;have p0:wr.cell? ⟨b,o,none⟩=some (.bool ds[j].wiped):=by have:=hat.cell 0 (by simp);simpa using this
  have p1:wr.cell? ⟨b,o+1,none⟩=some (.slice A0 ds[j].recs.length c2):=by have:=hat.cell 1 (by simp);simpa using this
  have fz0:wr.frozen? ⟨b,o,none⟩=false:=hM2.free _ (hat.mem 0 (by decide));have m0:(⟨b,o,none⟩:Addr)∈fs:=hat.mem 0 (by decide);have hP:=hat.place;have hnum:=HNS.out j hlt;rw[← hc]at hnum;have hcb:c≤1000000000:=by omega
  have hck:0<c:=by omega
  have hnm:Bt ds[j] =1+AA BI ds[j].recs:=rfl;rw[hnm]at hnum;clear hnm;obtain⟨L,hL⟩:∃L,decide (c % 3=0)=L:=⟨_,rfl⟩;have hm3:((c:Int) % 3 == 0)=L:=(mod3 c).trans hL;have HL:=hid hL;clear hL;have HUPD:=hid hupd;have HC:=hid hc;have HW:=hid hwr;have HM2:=hid hM2;have HAT:=hid hat;have HSL:=hid hsl;have HND:=hid hnd;have HNOT:=hid hnot;have H0:=hid h0;have HNUM:=hid hnum;have P1:=hid p1;clear hupd hc hwr hM2 hat hsl hnd hnot h0 hrt hnum ev2;go_wp2_with fail
  obtain⟨W2,hW2⟩:∃W2,wr.setCell ⟨b,o,none⟩ (.bool L)=W2:=⟨_,rfl⟩;have hsz2:W2.heap.size=wr.heap.size:=by rw[← hW2];simp[World.setCell]
  have hoth:∀a:Addr,a≠⟨b,o,none⟩→W2.cell? a=wr.cell? a:=fun a h1 => by rw[← hW2,World.cell?_setCell_other _ _ _ _ (Ne.symm h1)]
  have s0:W2.cell? ⟨b,o,none⟩=some (.bool L):=by rw[← hW2,World.cell?_setCell_same _ _ _ p0]
  have hWr2:AF fs wr W2:=by rw[← hW2];exact(AF.refl _ _).setCell m0 _
  have h02:rSl 9 Ac W2 fk (.slice A0 ds[j].recs.length c2) ds[j].recs:=rSl.keep Ac.local_ H0.out fun a ha => hoth a (fun e => HNOT.out 0 (by decide) (by rw[← show a=⟨b,o+0,none⟩from e];exact ha))
  have hmf:Az lo W2 fk:=⟨HND.out,fun a ha => HM2.out.from_ a (HAT.out.sub a ha),fun a ha =>(hWr2.frozen a (HAT.out.there a ha)).trans (HM2.out.free a (HAT.out.sub a ha))⟩;rw[hW2,show((c:Int)+1)=((c+1:Nat):Int)from by omega];have HO:=hid hoth;have S0:=hid s0;have HW2:=hid hWr2;have HS2:=hid hsz2;clear hW2 hoth s0 hWr2 hsz2 p0 p1 fz0 hm3;refine(OQ _ ds[j].recs fk W2 (c+1) lo h02 hmf (by omega) (by have:=HNUM.out;omega)).mono ?_;rintro e w3 ⟨rfl,hw3,hr3⟩;have HW3:=hid hw3;have HR3:=hid hr3;clear hw3 hr3 h02 hmf;go_wp2_with fail
  go_roundw
  case rel =>
   have hb2:b<W2.heap.size:=by rw[HS2.out];exact pb
   have t0:=(HW3.out.cell ⟨b,o,none⟩ (HNOT.out 0 (by decide)) hb2).trans S0.out;have t1:=((HW3.out.cell ⟨b,o+1,none⟩ (HNOT.out 1 (by decide)) hb2).trans (HO.out _ (by simp))).trans P1.out;have hnew:=HUPD.out w3 [.bool L,.slice A0 ds[j].recs.length c2] (FA c ds[j]) rfl (fun a ha h0 hf => by
     have hwa:a.block<wr.heap.size:=Nat.lt_of_lt_of_le (rSl.there Aw.fixed H1.out a ha) HW.out.size;rw[HW3.out.cell a hf (Nat.lt_of_lt_of_le hwa HW2.out.size),HO.out a (h0 0 (by decide))])
    (fun q hq => by
     rcases q with _|q
     ·exact t0
     ·obtain rfl:q=0:=by simp at hq;omega
      exact t1)
    ⟨_,fk,by rw[← HL.out];rfl,rfl,HR3.out⟩
   rw[show c=k+AA Bt (ds.take j)from HC.out,Ee FA Bt k ds j hlt]at hnew;refine⟨j+1,c+1+AA BI ds[j].recs,by omega,?_,by go_num,by congr 1,hnew,(HW.out.trans HW2.out).trans (HW3.out.mono HAT.out.sub)⟩;rw[Cy Bt hlt,HC.out];simp only[Bt];omega
  case measure => simp[intOf];omega
theorem Nr(d:Am)(cs:List Value)(fs:List Addr)(w:World)(k lo:Nat)(h1:AB w fs cs d)(hm:Az lo w fs)(hk:0<k)(hk0:k+Eo d≤1000000000)(hg:d.g.length≤1000000000) :
  Calls Tryz.prog 16 #[.agg cs.toArray,int i64 (k:Int)] w fun e w' => e= .returned (int i64 ((k+Eo d:Nat):Int))∧AF fs w w'∧AB w' fs cs (oneWorld k d):=by
 obtain⟨v0,v1,v2,f0,f1,f2,e,ef,o0,o1,o2,o3,o4,o5,o6,o7,o8,o9,o10,h0,h1,h2⟩:=h1;subst e ef;have T0:=hid (rSl.there (Ak.fixed Aj.fixed) h0);have T1:=hid (rSl.there Ay.fixed h1);have T2:=hid (rSl.there Aw.fixed h2);have H0:=hid h0;obtain⟨A0,c0,rfl,-⟩:=rSl.head h0;clear h0;have H1:=hid h1;obtain⟨A1,c1,rfl,-⟩:=rSl.head h1;clear h1;have H2:=hid h2;obtain⟨A2,c2,rfl,-⟩:=rSl.head h2;clear h2;have MM:=hid hm;have M0:=hid hm.left;have M1:=hid hm.right.left;have M2:=hid hm.right.right;have D01:=hid (fun a (ha:a∈f0) (hb:a∈f1) => hm.apart a ha (List.mem_append_left _ hb));have D02:=hid (fun a (ha:a∈f0) (hb:a∈f2) => hm.apart a ha (List.mem_append_right _ hb));have D12:=hid (fun a (ha:a∈f1) (hb:a∈f2) => hm.right.apart a ha hb);clear hm;obtain⟨n0,hn0⟩:∃n0:Nat,AA (AA AG) d.g=n0:=⟨_,rfl⟩;obtain⟨n1,hn1⟩:∃n1:Nat,d.on.length=n1:=⟨_,rfl⟩;obtain⟨n2,hn2⟩:∃n2:Nat,AA Bt d.v=n2:=⟨_,rfl⟩;have hnw:Eo d=n0+n1+n2:=by unfold Eo;rw[hn0,hn1,hn2]
 rw[hnw]at hk0⊢;clear hnw;have N0:=hid hn0;clear hn0;have N1:=hid hn1;clear hn1;have N2:=hid hn2;clear hn2;have hbx:=(Below.refl w.heap.size w).alloc (Nat.le_refl _) (.cells #[int i64 d.s.g,int i64 d.s.c,int i64 d.s.data,int i64 d.s.p,int i64 d.s.rows,int i64 d.s.cap,int i64 d.s.b,int i64 d.s.q,int i64 d.s.t,.slice A0 d.g.length c0,.slice A1 d.on.length c1,.slice A2 d.v.length c2,int i64 d.u,int i64 d.stop,.bool d.down] 35);have HBX:=hid hbx;clear hbx;have HYP:=hid (And.intro hk0 hg);clear hg;go_enter Tryz.func16,Tryz.ntmps16
 go_wp2_with fail
 have rr:=rSl.below (Ak.local_ Aj.local_) (Ak.fixed Aj.fixed) H0.out HBX.out;have mm:=M0.out.below HBX.out T0.out;refine(LD _ d.g f0 _ (k) lo rr mm (by omega) (by rw[N0.out];have:=HYP.out.1;omega) HYP.out.2).mono ?_;rintro e w0 ⟨rfl,hw,hr⟩;rw[N0.out];have R0:=hid hr;clear hr rr mm;have WF0:=hid ((AF.of_below (fs:=f0) HBX.out).trans hw);have hK:=Blk.wrote (Blk.new w 35 #[int i64 d.s.g,int i64 d.s.c,int i64 d.s.data,int i64 d.s.p,int i64 d.s.rows,int i64 d.s.cap,int i64 d.s.b,int i64 d.s.q,int i64 d.s.t,.slice A0 d.g.length c0,.slice A1 d.on.length c1,.slice A2 d.v.length c2,int i64 d.u,int i64 d.stop,.bool d.down]) hw (fun a ha e => by have:=T0.out a ha;omega);have pk:=Blk.cell hK 10;simp only[List.getElem?_toArray,List.getElem?_cons_zero,List.getElem?_cons_succ]at pk;have K0:=hid hK;clear hK;clear hw;go_wp2_with fail
 clear pk;have rr:=rSl.keep Ay.local_ H1.out (WF0.out.same T1.out (fun a ha hb => D01.out a hb ha));have mm:=M1.out.wrote WF0.out T1.out;refine(Mm _ d.on f1 _ (k+n0) lo rr mm (by omega) (by rw[N1.out];have:=HYP.out.1;omega)).mono ?_;rintro e w1 ⟨rfl,hw,hr⟩;rw[N1.out];have R1:=hid hr;clear hr rr mm;have WF1:=hid ((WF0.out.mono (gs:=f0 ++ f1) (fun a ha => List.mem_append_left _ ha)).trans (hw.mono (fun a ha => List.mem_append_right _ ha)));have hK:=Blk.wrote K0.out hw (fun a ha e => by have:=T1.out a ha;omega);have pk:=Blk.cell hK 11;simp only[List.getElem?_toArray,List.getElem?_cons_zero,List.getElem?_cons_succ]at pk;have K1:=hid hK;clear hK;have R0_:=R0.out;clear R0;have R0:=hid (rSl.keep (Ak.local_ Aj.local_) R0_ (hw.same (fun a ha => Nat.lt_of_lt_of_le (T0.out a ha) WF0.out.size) (fun a ha hb => D01.out a ha hb)));clear R0_;clear hw;go_wp2_with fail
 clear pk;have rr:=rSl.keep Aw.local_ H2.out (WF1.out.same T2.out (fun a ha hb =>(List.mem_append.1 hb).elim (fun h => D02.out a h ha) (fun h => D12.out a h ha)));have mm:=M2.out.wrote WF1.out T2.out;refine(NC _ d.v f2 _ (k+n0+n1) lo rr mm (by omega) (by rw[N2.out];have:=HYP.out.1;omega)).mono ?_;rintro e w2 ⟨rfl,hw,hr⟩;rw[N2.out];have R2:=hid hr;clear hr rr mm;have WF2:=hid ((WF1.out.mono (gs:=f0 ++(f1 ++ f2)) (fun a ha => by simp only[List.mem_append]at ha⊢;rcases ha with h|h <;> simp[h])).trans (hw.mono (fun a ha => by simp[ha])));have R0_:=R0.out;clear R0;have R0:=hid (rSl.keep (Ak.local_ Aj.local_) R0_ (hw.same (fun a ha => Nat.lt_of_lt_of_le (T0.out a ha) WF1.out.size) (fun a ha hb => D02.out a ha hb)));clear R0_;have R1_:=R1.out;clear R1;have R1:=hid (rSl.keep Ay.local_ R1_ (hw.same (fun a ha => Nat.lt_of_lt_of_le (T1.out a ha) WF1.out.size) (fun a ha hb => D12.out a ha hb)));clear R1_;clear hw;go_wp2_with fail
 go_ret
 refine⟨Ka (by omega),WF2.out,_,_,_,f0,f1,f2,rfl,rfl,o0,o1,o2,o3,o4,o5,o6,o7,o8,o9,o10,?_,?_,?_⟩
 ·exact R0.out
 ·have:=R1.out;rw[← N0.out]at this;exact this
 ·have:=R2.out;rw[← N0.out,← N1.out]at this;exact this
theorem EU {α:Type} {num sz:α→Nat} {m:Nat}(h:∀d,num d≤m * (1+sz d)):∀l:List α,AA num l≤m * AO sz l
 | [] => by simp[AA]
 |d :: l => by
  have h1:=EU h l;have h2:=h d;have h3:AA num (d :: l)=num d+AA num l:=by simp[AA]
  have h4:AO sz (d :: l)=(1+sz d)+AO sz l:=by
   unfold AO;simp only[List.length_cons,List.map_cons,List.sum_cons];omega
  rw[h3,h4,Nat.mul_add];omega
theorem Ni(b:Br):Bg b≤1 * (1+BU b):=by unfold Bg BU;omega
theorem Nd(d:AL):AG d≤1 * (1+BR d):=by
 have h:=EU Ni d.blocks;unfold AG BR;omega
theorem MT(g:List AL):AA AG g≤1 * (1+BL g):=by
 have h:=EU Nd g;unfold BL;omega
theorem PF(r:Ai):BI r≤6 * (1+BP r):=by unfold BI BP;omega
theorem OR(t:AQ):Bt t≤6 * (1+Cl t):=by
 have h:=EU PF t.recs;unfold Bt Cl;omega
theorem ND(d:Am):Eo d≤6 * C3 d:=by
 have h1:=EU MT d.g;have h2:=EU OR d.v;unfold Eo C3;omega
end Go.Proofs.YtfjkoifpdoemdaaGreat
