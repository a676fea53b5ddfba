/-
  Part 28 of the proof; the last part states and proves the statement.
-/
import Derived.Test.YtfjkoifpdoemdaaGreatK27
import Derived.Sort.AtCall
set_option maxHeartbeats 8000000
set_option maxRecDepth 100000
set_option linter.unusedVariables false
set_option linter.unusedSimpArgs false
open Go.Value (int)
open Go.IntKind (i64)
namespace Go.Proofs.YtfjkoifpdoemdaaGreat
open Go.RowKit Go.Lib Go.Sort
structure TkO (W:World) (p o:Nat) (t:An):Prop where
 rng:W.rangeAt p o [int i64 t.id,int i64 t.kind,.string t.name,int i64 t.group]
 c0:W.cell? ⟨p,o,none⟩=some (int i64 t.id)
 c1:W.cell? ⟨p,o+1,none⟩=some (int i64 t.kind)
 c2:W.cell? ⟨p,o+2,none⟩=some (.string t.name)
 c3:W.cell? ⟨p,o+3,none⟩=some (int i64 t.group)
 lt:p<W.heap.size
theorem TkO.below {W W':World} {p o:Nat} {t:An}(h:TkO W p o t)(hb:Below W.heap.size W W'):TkO W' p o t :=
 ⟨fun j v hj =>(hb.cell (p:=⟨p,o+j,none⟩) h.lt).trans (h.rng j v hj),(hb.cell (p:=⟨p,o,none⟩) h.lt).trans h.c0,(hb.cell (p:=⟨p,o+1,none⟩) h.lt).trans h.c1,(hb.cell (p:=⟨p,o+2,none⟩) h.lt).trans h.c2,(hb.cell (p:=⟨p,o+3,none⟩) h.lt).trans h.c3,Nat.lt_of_lt_of_le h.lt hb.size⟩
theorem TkO.of {W:World} {fs:List Addr} {ad:Addr} {j b o:Nat} {cs:List Value} {fk:List Addr} {t:An}(h:At 4 Af W fs ad j b o cs fk t):TkO W b o t:=by
 have hl:=h.len;obtain⟨e,-⟩:=h.reads;have hc:=h.cell;subst e;exact⟨fun q v hq => by
  obtain⟨hq1,hq2⟩:=List.getElem?_eq_some_iff.1 hq;rw[hc q hq1,hq2],hc 0 (by simp),hc 1 (by simp),hc 2 (by simp),hc 3 (by simp),h.lt⟩
theorem Eg(d:AJ):(A7 d).length =(AN d).length:=by rw[← Ff,List.length_map]
theorem GE {d:AJ} {i:Nat}(h:i<(A7 d).length)(h2:i<(AN d).length):((A7 d)[i]).1=(AN d)[i]∧((A7 d)[i]).2=Cf 0 d.queues i:=by
 constructor
 ·have h3:i<((A7 d).map Prod.fst).length:=by rw[List.length_map];exact h
  have h4:((A7 d).map Prod.fst)[i] =((A7 d)[i]).1:=List.getElem_map _;rw[← h4];congr 1
  exact Ff d
 ·exact GK 0 d.queues d.aside i h
theorem IL(d:AJ)(i:Nat):((A7 d).take i).map (fun x => x.1.id)=((AN d).take i).map An.id:=by
 rw[← Ff,← List.map_take,List.map_map];rfl
def Er(s:Sh)(d:AJ)(i:Nat):Prop:=DJ s d.next ((A7 d).take i) [] =0
def CR(s:Sh)(d:AJ)(i:Nat)(t:An):Int:=CK s d.next (((AN d).take i).map An.id) (t,Cf 0 d.queues i)
theorem Er.step {s:Sh} {d:AJ} {i:Nat}(h:Er s d i)(hi:i<(AN d).length)(h0:CR s d i (AN d)[i] =0):Er s d (i+1):=by
 have hs:i<(A7 d).length:=by rw[Eg];exact hi
 obtain⟨e1,e2⟩:=GE hs hi;unfold Er at h⊢;rw[List.take_succ_eq_append_getElem hs];refine IM h ?_;rw[IL,List.nil_append,show(A7 d)[i] =((AN d)[i],Cf 0 d.queues i)from Prod.ext e1 e2];exact h0
theorem Er.bad {s:Sh} {d:AJ} {i:Nat}(h:Er s d i)(hi:i<(AN d).length)(h0:CR s d i (AN d)[i]≠0):tkC s d=CR s d i (AN d)[i]:=by
 have hs:i<(A7 d).length:=by rw[Eg];exact hi
 obtain⟨e1,e2⟩:=GE hs hi;unfold Er at h;have e:CR s d i (AN d)[i] =CK s d.next ([] ++((A7 d).take i).map fun x => x.1.id) (A7 d)[i]:=by
  rw[IL,List.nil_append,show(A7 d)[i] =((AN d)[i],Cf 0 d.queues i)from Prod.ext e1 e2];rfl
 rw[e]at h0⊢;have:=JG (b:=(A7 d).drop (i+1)) h h0;rw[← this];unfold tkC;congr 1
 rw[← List.drop_eq_getElem_cons hs,List.take_append_drop]
theorem Er.all {s:Sh} {d:AJ} {i:Nat}(h:Er s d i)(hi:(AN d).length≤i):tkC s d=0:=by
 unfold Er at h;rw[List.take_of_length_le (by rw[Eg];exact hi)]at h;exact h
theorem Hx {s:Sh} {d:AJ} {i:Nat} {t:An}(h:CZ s t≠0):CR s d i t=CZ s t:=by unfold CR CK;rw[if_neg h]
theorem GM {s:Sh} {d:AJ} {i:Nat} {t:An}(h:CZ s t=0)(h1:d.next≤t.id):CR s d i t=3:=by unfold CR CK;rw[if_pos h,if_pos h1]
theorem JP {s:Sh} {d:AJ} {i:Nat} {t:An}(h:CZ s t=0)(h1:¬d.next≤t.id)(h2:0≤Cf 0 d.queues i)(h3:t.group≠Cf 0 d.queues i):CR s d i t=1:=by
 unfold CR CK;rw[if_pos h,if_neg h1,if_pos ⟨h2,h3⟩]
theorem Ey {s:Sh} {d:AJ} {i:Nat} {t:An}(h:CZ s t=0)(h1:¬d.next≤t.id)(h2:¬(0≤Cf 0 d.queues i∧t.group≠Cf 0 d.queues i)):CR s d i t=if t.id∈((AN d).take i).map An.id then 7 else 0:=by
 unfold CR CK;rw[if_pos h,if_neg h1,if_neg h2]
theorem Jt(s:Sh)(hsb:shB s=true)(p o:Nat)(d:AJ)(A0 A1 A2:Option Addr)(c0 c1 c2:Nat)(f0 f1 f2:List Addr)(w:World)(h:CG w p o d A0 A1 A2 c0 c1 c2 f0 f1 f2)(hsm:(AN d).length≤1000000) :
  Calls Tryz.prog 196 #[shV s,.pointer (some ⟨p,o,none⟩)] w fun e w' => e= .returned (int i64 (tkC s d))∧Below w.heap.size w w':=by
 have hB:Below w.heap.size w (w.alloc (.cells #[int i64 s.g,int i64 s.c,int i64 s.data,int i64 s.p,int i64 s.rows,int i64 s.cap,int i64 s.b,int i64 s.q,int i64 s.t] 31)):=(Below.refl _ _).alloc (Nat.le_refl _) _;have HB:=hid hB;have HS:=hid (BF.of (Blk.new w 31 #[int i64 s.g,int i64 s.c,int i64 s.data,int i64 s.p,int i64 s.rows,int i64 s.cap,int i64 s.b,int i64 s.q,int i64 s.t]));have HH:=hid (h.below hB);have HAL:=hid (FA p o d A0 A1 A2 c0 c1 c2 f0 f1 f2 _ (h.below hB) hsm);have HSB:=hid hsb;obtain⟨n,hn⟩:∃n,(AN d).length =n:=⟨_,rfl⟩;rw[hn]at HAL hsm;have HN:=hid hn;obtain⟨r,hr⟩:∃r,tkC s d=r:=⟨_,rfl⟩;rw[hr];have HR:=hid hr;have hz:=HH.out.lt;unfold shV;clear h hB hsb hn hr;go_enter Tryz.func196,Tryz.ntmps196
 go_wp2_with fail
 refine HAL.out.mono ?_;rintro e w1 ⟨A,c,gs,rfl,ra,b1⟩;have RA:=hid ra;obtain⟨Ax,cx,ev,hc,hm,hx⟩:=rSl.at_ Af.fixed (by decide) ra;injection ev with ev1 ev2 ev3
 subst ev1 ev3;clear ev2;rw[HN.out]at hc;have HX:=hid hx;have HS1:=hid (HS.out.below b1);have HH1:=hid (HH.out.below b1);have B1:=hid (HB.out.trans (b1.mono HB.out.size));clear hx ra b1 HAL;go_wp2_with fail
 go_loopw [6] (fun ix wr =>∃i:Nat,i≤n∧ix= int i64 i∧Hid (Er s d i)∧Hid (Below w1.heap.size w1 wr)) (fun ix _ => n - (intOf ix).toNat)
 case atStart => exact⟨0,by omega,rfl,(show Er s d 0 from rfl),Below.refl _ _⟩
 case round =>
  obtain⟨i,hi,rfl,HT,HB2⟩:=hrel;have HBW:=hid (B1.out.trans (HB2.out.mono B1.out.size));by_cases hlt:i<n
  ·have hk:i<(AN d).length:=by rw[HN.out];exact hlt
   obtain⟨ad,b,oo,cs,fk,rfl,hat⟩:=HX.out i hk;have hpl:=hat.place;have hat2:=hat.below Af.local_ HB2.out;have T1:=hid (TkO.of hat2);have hnm:=hat2.reads.2.2.2.2.1;have hbl:=T1.out.lt;have S1:=hid (HS1.out.below HB2.out);have D1:=hid (HH1.out.below HB2.out);have hzs:=S1.out.lt;have hzd:=D1.out.lt;have hki:(i:Int)<(n:Int):=by omega
   have hki2:(i:Int)≤(n:Int):=by omega
   have hki3:(i:Int)≤(c:Int):=by omega
   have hkc:i≤c:=by omega
   have HBAD:=hid (fun h0 => HR.out.symm.trans (HT.out.bad hk h0));have HSTEP:=hid (fun h0 => HT.out.step hk h0);obtain⟨q1,q2,hp1,-,-⟩:=rSl.split (j:=i) RA.out (by rw[HN.out];omega);have HWT:=hid (fun(x:Int) (W:World) (hW:Below w1.heap.size w1 W) => Hj _ ((AN d).take i) x q1 W (rSl.below Af.local_ Af.fixed hp1 hW));obtain⟨t,ht⟩:∃t,(AN d)[i] =t:=⟨_,rfl⟩;rw[ht]at T1 hnm HBAD HSTEP;have HTF:=hid (fun(W:World) => Gr s HSB.out t hnm W);unfold shV tkV at HTF;have HSD:=hid (fun(W:World) (hW:CG W p o d A0 A1 A2 c0 c1 c2 f0 f1 f2) => J6 p o d A0 A1 A2 c0 c1 c2 f0 f1 f2 i (by omega) W hW);have u0:=cell_regrown S1.out.c0;have u1:=cell_regrown S1.out.c1;have u2:=cell_regrown S1.out.c2;have u3:=cell_regrown S1.out.c3;have u4:=cell_regrown S1.out.c4;have u5:=cell_regrown S1.out.c5;have u6:=cell_regrown S1.out.c6;have u7:=cell_regrown S1.out.c7;have u8:=cell_regrown S1.out.c8;have v0:=cell_regrown T1.out.c0;have v1:=cell_regrown T1.out.c1;have v2:=cell_regrown T1.out.c2;have v3:=cell_regrown T1.out.c3;clear hat hat2 hk hp1 ht hnm;have QTF:=hid (AF (w:=wr) (fun W _ => HTF.out W));by_cases q0:CZ s t=0
   case neg =>
    have e1:r=CZ s t:=(HBAD.out (by rw[Hx q0];exact q0)).trans (Hx q0);obtain⟨tc,htc⟩:∃tc,CZ s t=tc:=⟨_,rfl⟩;rw[htc]at QTF e1 q0;subst e1;have hne:(r != 0)=true:=C8 q0;clear q0 htc;go_wp2_with fail
    (refine wp_region_quiet_below (by kernel_rfl) (by kernel_rfl) ?_;(repeat(first|go_big_quiet_step (first|exact QTF.out _ _)|quiet_step (first|exact QTF.out _ _)));refine wpQuiet_nil ?_)
    rintro _ ⟨⟨dq,osq⟩,rfl⟩;have BQ:=hid (HBW.out.trans ((below_regrown wr dq osq).mono HBW.out.size));go_wp2_with fail
    go_ret
    exact⟨rfl,BQ.out⟩
   have Q0:=hid q0;rw[q0]at QTF;clear q0;go_wp2_with fail
   (refine wp_region_quiet_below (by kernel_rfl) (by kernel_rfl) ?_;(repeat(first|go_big_quiet_step (first|exact QTF.out _ _)|quiet_step (first|exact QTF.out _ _)));refine wpQuiet_nil ?_)
   rintro _ ⟨⟨dq,osq⟩,rfl⟩;have b5:=below_regrown wr dq osq;generalize grow (redrawn wr dq) osq=w5 at b5;have T5:=hid (T1.out.below b5);have D5:=hid (D1.out.below b5);have B5:=hid (HB2.out.trans (b5.mono HB2.out.size));have BW5:=hid (HBW.out.trans (b5.mono HBW.out.size));have hbl5:=T5.out.lt;have hzd5:=D5.out.lt;clear b5 QTF;clear u0 u1 u2 u3 u4 u5 u6 u7 u8;clear v0 v1 v2 v3;have v0:=cell_regrown T5.out.c0;have v1:=cell_regrown T5.out.c1;have v2:=cell_regrown T5.out.c2;have v3:=cell_regrown T5.out.c3;have k4:=cell_regrown D5.out.k4;by_cases q1:d.next≤t.id
   case pos =>
    have e1:r=3:=(HBAD.out (by rw[GM Q0.out q1];decide)).trans (GM Q0.out q1);subst e1;have hge:decide (d.next≤t.id)=true:=decide_eq_true q1;go_wp2_with fail
    (refine wp_region_quiet_below (by kernel_rfl) (by kernel_rfl) ?_;(repeat(first|go_big_quiet_step (fail)|quiet_step (fail)));refine wpQuiet_nil ?_)
    rintro _ ⟨⟨dq,osq⟩,rfl⟩;have BQ:=hid (BW5.out.trans ((below_regrown w5 dq osq).mono BW5.out.size));go_wp2_with fail
    go_ret
    exact⟨rfl,BQ.out⟩
   have Q1:=hid q1;have hlt1:t.id<d.next:=by omega
   go_wp2_with fail
   (refine wp_region_quiet_below (by kernel_rfl) (by kernel_rfl) ?_;(repeat(first|go_big_quiet_step (fail)|quiet_step (fail)));refine wpQuiet_nil ?_)
   rintro _ ⟨⟨dq,osq⟩,rfl⟩;have b6:=below_regrown w5 dq osq;generalize grow (redrawn w5 dq) osq=w6 at b6;have T6:=hid (T5.out.below b6);have D6:=hid (D5.out.below b6);have B6:=hid (B5.out.trans (b6.mono B5.out.size));have BW6:=hid (BW5.out.trans (b6.mono BW5.out.size));clear b6 k4 q1;clear v0 v1 v2 v3;obtain⟨st,hst⟩:∃st,Cf 0 d.queues i=st:=⟨_,rfl⟩;rw[hst]at HSD;have HST:=hid hst;clear hst;by_cases q2:0≤st
   ·by_cases q3:t.group=st
    ·have g1:(st != t.group)=false:=Fp q3.symm;have QE:=hid (show¬(0≤st∧t.group≠st)from fun h => h.2 q3);clear q3;go_wp2_with (go_at_call 265;refine(HSD.out _ D6.out).mono ?_;rintro e w7 ⟨rfl,b7⟩;have T7:=hid (T6.out.below b7);have B7:=hid (B6.out.trans (b7.mono B6.out.size));have BW7:=hid (BW6.out.trans (b7.mono BW6.out.size));have x3:=T7.out.c3;have hbl7:=T7.out.lt;clear b7)
     clear x3;have v0:=cell_regrown T7.out.c0;have HWQ:=hid (fun(W:World) (hW:Below w7.heap.size w7 W) => HWT.out t.id W (B7.out.trans (hW.mono B7.out.size)));obtain⟨mb,hmb⟩:∃mb,decide (t.id∈((AN d).take i).map An.id)=mb:=⟨_,rfl⟩;rw[hmb]at HWQ;have HMB:=hid hmb;have QW:=hid (AF (w:=w7) HWQ.out);clear hmb;cases mb with
     |true =>
      have hm7:=of_decide_eq_true HMB.out;have e0:CR s d i t=7:=(Ey Q0.out (by have:=Q1.out;omega) (by rw[HST.out];exact QE.out)).trans (if_pos hm7);have e1:r=7:=(HBAD.out (by rw[e0];decide)).trans e0;subst e1;clear hm7 e0
      (refine wp_region_quiet_below (by kernel_rfl) (by kernel_rfl) ?_;(repeat(first|go_big_quiet_step (first|exact QW.out _ _)|quiet_step (first|exact QW.out _ _)));refine wpQuiet_nil ?_)
      rintro _ ⟨⟨dq,osq⟩,rfl⟩;have BQ:=hid (BW7.out.trans ((below_regrown w7 dq osq).mono BW7.out.size));go_wp2_with fail
      go_ret
      exact⟨rfl,BQ.out⟩
     |false =>
      have hm7:=of_decide_eq_false HMB.out;have HS9:=hid (HSTEP.out ((Ey Q0.out (by have:=Q1.out;omega) (by rw[HST.out];exact QE.out)).trans (if_neg hm7)));clear hm7
      (refine wp_region_quiet_below (by kernel_rfl) (by kernel_rfl) ?_;(repeat(first|go_big_quiet_step (first|exact QW.out _ _)|quiet_step (first|exact QW.out _ _)));refine wpQuiet_nil ?_)
      rintro _ ⟨⟨dq,osq⟩,rfl⟩;have BQ:=hid (B7.out.trans ((below_regrown w7 dq osq).mono B7.out.size));go_wp2_with fail
      go_roundw
      case rel => exact⟨i+1,by omega,by go_num,HS9.out,BQ.out⟩
      case measure => simp[intOf];omega
    ·have g1:(st != t.group)=true:=C8 (fun e => q3 e.symm);have e0:CR s d i t=1:=JP Q0.out (by have:=Q1.out;omega) (by rw[HST.out];exact q2) (by rw[HST.out];exact q3);have e1:r=1:=(HBAD.out (by rw[e0];decide)).trans e0;subst e1;clear q3 e0;go_wp2_with (go_at_call 265;refine(HSD.out _ D6.out).mono ?_;rintro e w7 ⟨rfl,b7⟩;have T7:=hid (T6.out.below b7);have B7:=hid (B6.out.trans (b7.mono B6.out.size));have BW7:=hid (BW6.out.trans (b7.mono BW6.out.size));have x3:=T7.out.c3;have hbl7:=T7.out.lt;clear b7)
     go_ret
     exact⟨rfl,BW7.out⟩
   ·have q2n:st<0:=by omega
    have QE:=hid (show¬(0≤st∧t.group≠st)from fun h => q2 h.1);clear q2;go_wp2_with (go_at_call 265;refine(HSD.out _ D6.out).mono ?_;rintro e w7 ⟨rfl,b7⟩;have T7:=hid (T6.out.below b7);have B7:=hid (B6.out.trans (b7.mono B6.out.size));have BW7:=hid (BW6.out.trans (b7.mono BW6.out.size));have x3:=T7.out.c3;have hbl7:=T7.out.lt;clear b7)
    clear x3;have v0:=cell_regrown T7.out.c0;have HWQ:=hid (fun(W:World) (hW:Below w7.heap.size w7 W) => HWT.out t.id W (B7.out.trans (hW.mono B7.out.size)));obtain⟨mb,hmb⟩:∃mb,decide (t.id∈((AN d).take i).map An.id)=mb:=⟨_,rfl⟩;rw[hmb]at HWQ;have HMB:=hid hmb;have QW:=hid (AF (w:=w7) HWQ.out);clear hmb;cases mb with
    |true =>
     have hm7:=of_decide_eq_true HMB.out;have e0:CR s d i t=7:=(Ey Q0.out (by have:=Q1.out;omega) (by rw[HST.out];exact QE.out)).trans (if_pos hm7);have e1:r=7:=(HBAD.out (by rw[e0];decide)).trans e0;subst e1;clear hm7 e0
     (refine wp_region_quiet_below (by kernel_rfl) (by kernel_rfl) ?_;(repeat(first|go_big_quiet_step (first|exact QW.out _ _)|quiet_step (first|exact QW.out _ _)));refine wpQuiet_nil ?_)
     rintro _ ⟨⟨dq,osq⟩,rfl⟩;have BQ:=hid (BW7.out.trans ((below_regrown w7 dq osq).mono BW7.out.size));go_wp2_with fail
     go_ret
     exact⟨rfl,BQ.out⟩
    |false =>
     have hm7:=of_decide_eq_false HMB.out;have HS9:=hid (HSTEP.out ((Ey Q0.out (by have:=Q1.out;omega) (by rw[HST.out];exact QE.out)).trans (if_neg hm7)));clear hm7
     (refine wp_region_quiet_below (by kernel_rfl) (by kernel_rfl) ?_;(repeat(first|go_big_quiet_step (first|exact QW.out _ _)|quiet_step (first|exact QW.out _ _)));refine wpQuiet_nil ?_)
     rintro _ ⟨⟨dq,osq⟩,rfl⟩;have BQ:=hid (B7.out.trans ((below_regrown w7 dq osq).mono B7.out.size));go_wp2_with fail
     go_roundw
     case rel => exact⟨i+1,by omega,by go_num,HS9.out,BQ.out⟩
     case measure => simp[intOf];omega
  ·obtain rfl:i=n:=by omega
   have e1:r=0:=HR.out.symm.trans (HT.out.all (by rw[HN.out];exact Nat.le_refl _));subst e1;go_wp2_with fail
   go_ret
   exact⟨rfl,HBW.out⟩
structure AnO (W:World) (p o:Nat) (x:AK) (v:Value):Prop where
 c0:W.cell? ⟨p,o,none⟩=some (int i64 x.id)
 c1:W.cell? ⟨p,o+1,none⟩=some (int i64 x.code)
 c2:W.cell? ⟨p,o+2,none⟩=some (int i64 x.turn)
 c3:W.cell? ⟨p,o+3,none⟩=some v
 lt:p<W.heap.size
theorem AnO.below {W W':World} {p o:Nat} {x:AK} {v:Value}(h:AnO W p o x v)(hb:Below W.heap.size W W'):AnO W' p o x v :=
 ⟨(hb.cell (p:=⟨p,o,none⟩) h.lt).trans h.c0,(hb.cell (p:=⟨p,o+1,none⟩) h.lt).trans h.c1,(hb.cell (p:=⟨p,o+2,none⟩) h.lt).trans h.c2,(hb.cell (p:=⟨p,o+3,none⟩) h.lt).trans h.c3,Nat.lt_of_lt_of_le h.lt hb.size⟩
theorem AnO.ofBlk {W:World} {p:Nat} {T:TypeId} {x:AK} {v:Value}(K:Blk W p T #[int i64 x.id,int i64 x.code,int i64 x.turn,v]):AnO W p 0 x v :=
 ⟨(K.cell 0).trans rfl,(K.cell 1).trans rfl,(K.cell 2).trans rfl,(K.cell 3).trans rfl,K.lt⟩
def DB(hi:Int)(d:AJ)(i:Nat):Prop:=DU hi d.turn (d.answers.take i) (DC d)=0
def DD(hi:Int)(d:AJ)(i:Nat)(x:AK):Int:=Eh hi d.turn (DC d ++(d.answers.take i).map AK.id) x
theorem DB.step {hi:Int} {d:AJ} {i:Nat}(h:DB hi d i)(hk:i<d.answers.length)(h0:DD hi d i d.answers[i] =0):DB hi d (i+1):=by
 unfold DB at h⊢;rw[List.take_succ_eq_append_getElem hk];exact MB h h0
theorem DB.bad {hi:Int} {d:AJ} {i:Nat}(h:DB hi d i)(hk:i<d.answers.length)(h0:DD hi d i d.answers[i]≠0):anH hi d=DD hi d i d.answers[i]:=by
 unfold DB at h;have:=seqA_bad (b:=d.answers.drop (i+1)) h h0;unfold DD;rw[← this];unfold anH;congr 1
 rw[← List.drop_eq_getElem_cons hk,List.take_append_drop]
theorem DB.all {hi:Int} {d:AJ} {i:Nat}(h:DB hi d i)(hk:d.answers.length≤i):anH hi d=0:=by
 unfold DB at h;rw[List.take_of_length_le hk]at h;exact h
theorem DP {hi:Int} {d:AJ} {i:Nat} {x:AK}(h:(Aj x.id 1 hi && (Aj x.code 0 12 && Aj x.turn 0 d.turn))=false):DD hi d i x=3:=by unfold DD Eh;rw[if_neg (by rw[h];exact Bool.false_ne_true)]
theorem Ed {hi:Int} {d:AJ} {i:Nat} {x:AK}(h:(Aj x.id 1 hi && (Aj x.code 0 12 && Aj x.turn 0 d.turn))=true)(h1:36<x.bytes.length):DD hi d i x=2:=by unfold DD Eh;rw[if_pos h,if_pos h1]
theorem Eu {hi:Int} {d:AJ} {i:Nat} {x:AK}(h:(Aj x.id 1 hi && (Aj x.code 0 12 && Aj x.turn 0 d.turn))=true)(h1:¬36<x.bytes.length):DD hi d i x=if x.id∈DC d ++(d.answers.take i).map AK.id then 7 else 0:=by unfold DD Eh;rw[if_pos h,if_neg h1]
theorem Js(p o:Nat)(d:AJ)(A0 A1 A2:Option Addr)(c0 c1 c2:Nat)(f0 f1 f2:List Addr)(w:World)(h:CG w p o d A0 A1 A2 c0 c1 c2 f0 f1 f2)(hsm:(AN d).length≤1000000) :
  Calls Tryz.prog 197 #[.pointer (some ⟨p,o,none⟩)] w fun e w' => e= .returned (int i64 (anH (IntKind.i64.wrap (d.next - 1)) d))∧Below w.heap.size w w':=by
 have HH:=hid h;have HAL:=hid (FA p o d A0 A1 A2 c0 c1 c2 f0 f1 f2 _ h hsm);obtain⟨n,hn⟩:∃n,(AN d).length =n:=⟨_,rfl⟩;rw[hn]at HAL;have HN:=hid hn;obtain⟨nA,hnA⟩:∃nA,d.answers.length=nA:=⟨_,rfl⟩;have HNA:=hid hnA;obtain⟨hi,hhi⟩:∃hi,IntKind.i64.wrap (d.next - 1)=hi:=⟨_,rfl⟩;rw[hhi];have HHI:=hid hhi;obtain⟨r,hr⟩:∃r,anH hi d=r:=⟨_,rfl⟩;rw[hr];have HR:=hid hr;have hz:=HH.out.lt;clear h hn hr hnA hhi hsm;go_enter Tryz.func197,Tryz.ntmps197
 go_wp2_with fail
 refine HAL.out.mono ?_;rintro e w1 ⟨A,c,gs,rfl,ra,b1⟩;have RA:=hid ra;have HH1:=hid (HH.out.below b1);have B1:=hid b1;clear ra b1 HAL;go_wp2_with fail
 go_loopw [4] (fun ix wr =>∃i:Nat,i≤nA∧ix= int i64 i∧Hid (DB hi d i)∧Hid (Below w1.heap.size w1 wr)) (fun ix _ => nA - (intOf ix).toNat)
 case atStart => exact⟨0,by omega,rfl,(show DB hi d 0 from rfl),Below.refl _ _⟩
 case round =>
  obtain⟨i,hi1,rfl,HT,HB2⟩:=hrel;have HBW:=hid (B1.out.trans (HB2.out.mono B1.out.size));have D1:=hid (HH1.out.below HB2.out);have p2:=D1.out.k2;rw[HNA.out]at p2;have hzd:=D1.out.lt;by_cases hlt:i<nA
  ·have hk:i<d.answers.length:=by rw[HNA.out];exact hlt
   obtain⟨Ax,cx,ev,hc,hm,hx⟩:=rSl.at_ Am.fixed (by decide) D1.out.r2;injection ev with ev1 ev2 ev3
   subst ev1 ev3;clear ev2;rw[HNA.out]at hc;obtain⟨ad,b,oo,cs,fk,rfl,hat⟩:=hx i hk;have hpl:=hat.place;have hbl:=hat.lt;have hlen:cs.length=4:=hat.len;have HRG:=hid (show wr.rangeAt b oo cs from fun q v hq => by
    have hq1:q<cs.length:=(List.getElem?_eq_some_iff.1 hq).1;rw[hat.cell q hq1,← hq];exact(List.getElem?_eq_getElem hq1).symm)
   obtain⟨v0,g0,ecs,-,o0,o1,o2,hrb⟩:=hat.reads;obtain⟨Ab,cb,rfl,hmb,hmb2⟩:=rSl.head hrb;have hki:(i:Int)<(nA:Int):=by omega
   have hki2:(i:Int)≤(nA:Int):=by omega
   have hki3:(i:Int)≤(c2:Int):=by omega
   have hkc:i≤c2:=by omega
   have HBAD:=hid (fun h0 => HR.out.symm.trans (HT.out.bad hk h0));have HSTEP:=hid (fun h0 => HT.out.step hk h0);obtain⟨q1,q2,hp1,-,-⟩:=rSl.split (j:=i) D1.out.r2 (by rw[HNA.out];omega);have HFD:=hid (fun(x:Int) (W:World) (hW:Below wr.heap.size wr W) => Mm _ (d.answers.take i) x q1 W (rSl.below Am.local_ Am.fixed hp1 hW));have HWT:=hid (fun(x:Int) (W:World) (hW:Below w1.heap.size w1 W) => Hj _ (AN d) x gs W (rSl.below Af.local_ Af.fixed RA.out hW));obtain⟨x,hxx⟩:∃x,d.answers[i] =x:=⟨_,rfl⟩;rw[hxx]at ecs HBAD HSTEP hmb;obtain⟨nb,hnb⟩:∃nb,x.bytes.length=nb:=⟨_,rfl⟩;rw[hnb]at ecs hmb;have HNB:=hid hnb;obtain⟨Z,hZ⟩:∃Z:Array Value,#[int i64 0,int i64 0,int i64 0,.slice none 0 0] =Z:=⟨_,rfl⟩;have hZs:Z.size=4:=by rw[← hZ];rfl
   have KZ:=Blk.new wr 244 Z;have HTH:=hid (Blk.there KZ cs.toArray.size (by rw[show cs.toArray.size=4 from List.size_toArray.trans hlen,hZs];exact Nat.le_refl _));obtain⟨w3,hW2⟩:∃w3,(wr.alloc (.cells Z 244)).setCells wr.heap.size 0 cs.toArray.toList=w3:=⟨_,rfl⟩;have K3:=hid (show Blk w3 wr.heap.size 244 cs.toArray by rw[← hW2];exact Blk.laid KZ _ (by rw[hZs];exact hlen.symm));have B3:=hid (show Below wr.heap.size wr w3 by rw[← hW2];exact Aw (Ah (Below.refl _ _) _) _ 0 (Nat.le_refl _));have HW2:=hid hW2;have HI:=hid (show(Tryz.prog.info? 244).map (·.size)=some cs.length by rw[hlen];kernel_rfl);have HI2:=hid (show(Tryz.prog.info? 244).map (·.size)=some cs.toArray.size by rw[show cs.toArray.size=4 from List.size_toArray.trans hlen];kernel_rfl);have HON:=hid (all_oneCell_toArray (Am.ones _ _ _ _ hat.reads));have X3:=hid (show AnO w3 wr.heap.size 0 x (.slice Ab nb cb)from AnO.ofBlk (by rw[← ecs];exact K3.out));have D3:=hid (D1.out.below B3.out);have BW3:=hid (HBW.out.trans (B3.out.mono HBW.out.size));have BL3:=hid (HB2.out.trans (B3.out.mono HB2.out.size));have hx3:=X3.out.lt;have hzd3:=D3.out.lt;have u0:=cell_regrown X3.out.c0;have u1:=cell_regrown X3.out.c1;have u2:=cell_regrown X3.out.c2;have d3:=cell_regrown D3.out.k3;have d4:=cell_regrown D3.out.k4;have hwr:=HHI.out;have QI:=hid (Bc (w:=w3) (fun W => Bh x.id 1 hi W));have QC:=hid (Bc (w:=w3) (fun W => Bh x.code 0 12 W));have QT:=hid (Bc (w:=w3) (fun W => Bh x.turn 0 d.turn W));obtain⟨i1,hi1e⟩:∃i1,Aj x.id 1 hi=i1:=⟨_,rfl⟩;obtain⟨i2,hi2e⟩:∃i2,Aj x.code 0 12=i2:=⟨_,rfl⟩;obtain⟨i3,hi3e⟩:∃i3,Aj x.turn 0 d.turn=i3:=⟨_,rfl⟩;rw[hi1e]at QI;rw[hi2e]at QC;rw[hi3e]at QT;have HRANGE:=hid (show(i1 && (i2 && i3))=false→r=3 from fun h0 => by
    rw[← hi1e,← hi2e,← hi3e]at h0;exact(HBAD.out (by rw[DP h0];decide)).trans (DP h0))
   have HMANY:=hid (show(i1 && (i2 && i3))=true→36<nb→r=2 from fun h0 h1 => by
    rw[← hi1e,← hi2e,← hi3e]at h0;rw[← HNB.out]at h1;exact(HBAD.out (by rw[Ed h0 h1];decide)).trans (Ed h0 h1))
   have HTAKEN:=hid (show(i1 && (i2 && i3))=true→¬36<nb→x.id∈DC d ++(d.answers.take i).map AK.id→r=7 from fun h0 h1 h2 => by
    rw[← hi1e,← hi2e,← hi3e]at h0;rw[← HNB.out]at h1;have e:=(Eu (i:=i) (x:=x) h0 h1).trans (if_pos h2);exact(HBAD.out (by rw[e];decide)).trans e)
   have HGOOD:=hid (show(i1 && (i2 && i3))=true→¬36<nb→x.id∉DC d ++(d.answers.take i).map AK.id→DB hi d (i+1)from fun h0 h1 h2 => by
    rw[← hi1e,← hi2e,← hi3e]at h0;rw[← HNB.out]at h1;exact HSTEP.out ((Eu (i:=i) (x:=x) h0 h1).trans (if_neg h2)))
   clear hat hx hW2 KZ hZs ecs hi1e hi2e hi3e hp1 hxx hnb hrb hk o0 o1 o2 hmb2 HBAD HSTEP;cases i1 with
   |false =>
    obtain rfl:r=3:=HRANGE.out rfl;go_wp2_with (first
     |(refine wpList_load_mid rfl 244 _ rfl b oo rfl cs _ HRG.out Tryz.underlying244 rfl HI.out ?_)
     |(refine wpList_store_mid rfl 244 _ _ rfl wr.heap.size 0 cs.toArray rfl rfl HTH.out HI2.out HON.out ?_;rw[HW2.out]))
    (refine wp_region_quiet_below (by kernel_rfl) (by kernel_rfl) ?_;(repeat(first|go_big_quiet_step (first|(go_at_call_has 35 x.id;exact QI.out _ _)|(go_at_call_has 35 x.code;exact QC.out _ _)|(go_at_call_has 35 x.turn;exact QT.out _ _))|quiet_step (first|(go_at_call_has 35 x.id;exact QI.out _ _)|(go_at_call_has 35 x.code;exact QC.out _ _)|(go_at_call_has 35 x.turn;exact QT.out _ _))));refine wpQuiet_nil ?_)
    rintro _ ⟨⟨dq,osq⟩,rfl⟩;have BQ:=hid (BW3.out.trans ((below_regrown w3 dq osq).mono BW3.out.size));go_wp2_with fail
    go_ret
    exact⟨rfl,BQ.out⟩
   |true =>
    cases i2 with
    |false =>
     obtain rfl:r=3:=HRANGE.out rfl;go_wp2_with (first
      |(refine wpList_load_mid rfl 244 _ rfl b oo rfl cs _ HRG.out Tryz.underlying244 rfl HI.out ?_)
      |(refine wpList_store_mid rfl 244 _ _ rfl wr.heap.size 0 cs.toArray rfl rfl HTH.out HI2.out HON.out ?_;rw[HW2.out]))
     (refine wp_region_quiet_below (by kernel_rfl) (by kernel_rfl) ?_;(repeat(first|go_big_quiet_step (first|(go_at_call_has 35 x.id;exact QI.out _ _)|(go_at_call_has 35 x.code;exact QC.out _ _)|(go_at_call_has 35 x.turn;exact QT.out _ _))|quiet_step (first|(go_at_call_has 35 x.id;exact QI.out _ _)|(go_at_call_has 35 x.code;exact QC.out _ _)|(go_at_call_has 35 x.turn;exact QT.out _ _))));refine wpQuiet_nil ?_)
     rintro _ ⟨⟨dq,osq⟩,rfl⟩;have BQ:=hid (BW3.out.trans ((below_regrown w3 dq osq).mono BW3.out.size));go_wp2_with fail
     go_ret
     exact⟨rfl,BQ.out⟩
    |true =>
     cases i3 with
     |false =>
      obtain rfl:r=3:=HRANGE.out rfl;go_wp2_with (first
       |(refine wpList_load_mid rfl 244 _ rfl b oo rfl cs _ HRG.out Tryz.underlying244 rfl HI.out ?_)
       |(refine wpList_store_mid rfl 244 _ _ rfl wr.heap.size 0 cs.toArray rfl rfl HTH.out HI2.out HON.out ?_;rw[HW2.out]))
      (refine wp_region_quiet_below (by kernel_rfl) (by kernel_rfl) ?_;(repeat(first|go_big_quiet_step (first|(go_at_call_has 35 x.id;exact QI.out _ _)|(go_at_call_has 35 x.code;exact QC.out _ _)|(go_at_call_has 35 x.turn;exact QT.out _ _))|quiet_step (first|(go_at_call_has 35 x.id;exact QI.out _ _)|(go_at_call_has 35 x.code;exact QC.out _ _)|(go_at_call_has 35 x.turn;exact QT.out _ _))));refine wpQuiet_nil ?_)
      rintro _ ⟨⟨dq,osq⟩,rfl⟩;have BQ:=hid (BW3.out.trans ((below_regrown w3 dq osq).mono BW3.out.size));go_wp2_with fail
      go_ret
      exact⟨rfl,BQ.out⟩
     |true =>
      go_wp2_with (first
       |(refine wpList_load_mid rfl 244 _ rfl b oo rfl cs _ HRG.out Tryz.underlying244 rfl HI.out ?_)
       |(refine wpList_store_mid rfl 244 _ _ rfl wr.heap.size 0 cs.toArray rfl rfl HTH.out HI2.out HON.out ?_;rw[HW2.out]))
      (refine wp_region_quiet_below (by kernel_rfl) (by kernel_rfl) ?_;(repeat(first|go_big_quiet_step (first|(go_at_call_has 35 x.id;exact QI.out _ _)|(go_at_call_has 35 x.code;exact QC.out _ _)|(go_at_call_has 35 x.turn;exact QT.out _ _))|quiet_step (first|(go_at_call_has 35 x.id;exact QI.out _ _)|(go_at_call_has 35 x.code;exact QC.out _ _)|(go_at_call_has 35 x.turn;exact QT.out _ _))));refine wpQuiet_nil ?_)
      rintro _ ⟨⟨dq,osq⟩,rfl⟩;have b5:=below_regrown w3 dq osq;generalize grow (redrawn w3 dq) osq=w5 at b5;have X5:=hid (X3.out.below b5);have D5:=hid (D3.out.below b5);have B35:=hid (B3.out.trans (b5.mono B3.out.size));have BW5:=hid (BW3.out.trans (b5.mono BW3.out.size));have BL5:=hid (BL3.out.trans (b5.mono BL3.out.size));clear b5 u0 u1 u2 d3 d4 hwr QI QC QT HRANGE;have x3:=X5.out.c3;have hx5:=X5.out.lt;have hzd5:=D5.out.lt;by_cases q36:36<nb
      ·obtain rfl:r=2:=HMANY.out rfl q36;have q36i:(36:Int)<(nb:Int):=by omega
       go_wp2_with fail
       go_ret
       exact⟨rfl,BW5.out⟩
      have Q36:=hid q36;have q36i:¬(36:Int)<(nb:Int):=by omega
      clear q36;go_wp2_with fail
      have u0:=cell_regrown X5.out.c0;have u9:=cell_regrown (show w5.cell? ⟨p,o+2,none⟩=some (.slice (some ad) nA c2)from by have:=D5.out.k2;rwa [HNA.out]at this);have HW5:=hid (fun(W:World) (hW:Below w5.heap.size w5 W) => HWT.out x.id W (BL5.out.trans (hW.mono BL5.out.size)));have HF5:=hid (fun(W:World) (hW:Below w5.heap.size w5 W) => HFD.out x.id W (B35.out.trans (hW.mono B35.out.size)));obtain⟨m1,hm1⟩:∃m1,decide (x.id∈(AN d).map An.id)=m1:=⟨_,rfl⟩;rw[hm1]at HW5;have HM1:=hid hm1;clear hm1;have QW:=hid (AF (w:=w5) HW5.out);cases m1 with
      |true =>
       obtain rfl:r=7:=HTAKEN.out rfl (by have:=Q36.out;omega) (List.mem_append_left _ (of_decide_eq_true HM1.out))
       (refine wp_region_quiet_below (by kernel_rfl) (by kernel_rfl) ?_;(repeat(first|go_big_quiet_step (first|(go_at_call 266;exact QW.out _ _))|quiet_step (first|(go_at_call 266;exact QW.out _ _))));refine wpQuiet_nil ?_)
       rintro _ ⟨⟨dq,osq⟩,rfl⟩;have BQ:=hid (BW5.out.trans ((below_regrown w5 dq osq).mono BW5.out.size));go_wp2_with fail
       go_ret
       exact⟨rfl,BQ.out⟩
      |false =>
       have hfi:=Kz x.id 0 (d.answers.take i);obtain⟨fi,hfie⟩:∃fi,En x.id 0 (d.answers.take i)=fi:=⟨_,rfl⟩;rw[hfie]at HF5 hfi;have HFI:=hid hfi;have QF:=hid (AF (w:=w5) HF5.out);clear hfie hfi;by_cases q0:0≤fi
       ·obtain rfl:r=7:=HTAKEN.out rfl (by have:=Q36.out;omega) (List.mem_append_right _ (of_decide_eq_true (HFI.out.symm.trans (decide_eq_true q0))))
        (refine wp_region_quiet_below (by kernel_rfl) (by kernel_rfl) ?_;(repeat(first|go_big_quiet_step (first|(go_at_call 266;exact QW.out _ _)|(go_at_call 267;exact QF.out _ _))|quiet_step (first|(go_at_call 266;exact QW.out _ _)|(go_at_call 267;exact QF.out _ _))));refine wpQuiet_nil ?_)
        rintro _ ⟨⟨dq,osq⟩,rfl⟩;have BQ:=hid (BW5.out.trans ((below_regrown w5 dq osq).mono BW5.out.size));go_wp2_with fail
        go_ret
        exact⟨rfl,BQ.out⟩
       ·have q0n:fi<0:=by omega
        have HG9:=hid (HGOOD.out rfl (by have:=Q36.out;omega) (fun hm =>(List.mem_append.1 hm).elim (fun h1 => absurd h1 (of_decide_eq_false HM1.out)) (fun h2 => absurd h2 (of_decide_eq_false (HFI.out.symm.trans (decide_eq_false q0))))))
        (refine wp_region_quiet_below (by kernel_rfl) (by kernel_rfl) ?_;(repeat(first|go_big_quiet_step (first|(go_at_call 266;exact QW.out _ _)|(go_at_call 267;exact QF.out _ _))|quiet_step (first|(go_at_call 266;exact QW.out _ _)|(go_at_call 267;exact QF.out _ _))));refine wpQuiet_nil ?_)
        rintro _ ⟨⟨dq,osq⟩,rfl⟩;have BQ:=hid (BL5.out.trans ((below_regrown w5 dq osq).mono BL5.out.size));go_wp2_with fail
        go_roundw
        case rel => exact⟨i+1,by omega,by go_num,HG9.out,BQ.out⟩
        case measure => simp[intOf];omega
  ·obtain rfl:i=nA:=by omega
   have e1:r=0:=HR.out.symm.trans (HT.out.all (by rw[HNA.out];exact Nat.le_refl _));subst e1;go_wp2_with fail
   go_ret
   exact⟨rfl,HBW.out⟩
theorem CG.of {W:World} {p:Nat} {T:TypeId} {d:AJ} {A0 A1 A2:Option Addr} {c0 c1 c2:Nat} {f0 f1 f2:List Addr}(K:Blk W p T #[.slice A0 d.queues.length c0,.slice A1 d.aside.length c1,.slice A2 d.answers.length c2,int i64 d.turn,int i64 d.next])
  (r0:rSl 1 (Ai 4 Af) W f0 (.slice A0 d.queues.length c0) d.queues) (r1:rSl 4 Af W f1 (.slice A1 d.aside.length c1) d.aside) (r2:rSl 4 Am W f2 (.slice A2 d.answers.length c2) d.answers):CG W p 0 d A0 A1 A2 c0 c1 c2 f0 f1 f2 :=
 ⟨(K.cell 0).trans rfl,(K.cell 1).trans rfl,(K.cell 2).trans rfl,(K.cell 3).trans rfl,(K.cell 4).trans rfl,K.lt,r0,r1,r2⟩
theorem FW {hi:Int} {s:Sh} {d:AJ}(h:¬(d.queues.length:Int)=s.g+s.c):BA hi s d=1:=by unfold BA;rw[if_neg h]
theorem Fx {hi:Int} {s:Sh} {d:AJ}(h:(d.queues.length:Int)=s.g+s.c)(h1:(d.queues.any (CI s)||(decide (20<d.aside.length)||decide (200<d.answers.length)))=true):BA hi s d=2:=by unfold BA;rw[if_pos h,if_pos h1]
theorem Ha {hi:Int} {s:Sh} {d:AJ}(h:(d.queues.length:Int)=s.g+s.c)(h1:(d.queues.any (CI s)||(decide (20<d.aside.length)||decide (200<d.answers.length)))=false) :
  BA hi s d=if tkC s d=0 then(if anH hi d=0 then(if(Aj d.turn 0 1000000000 && Aj d.next 1 1000000000)=true then 0 else 3)else anH hi d)else tkC s d:=by unfold BA;rw[if_pos h,if_neg (by rw[h1];exact Bool.false_ne_true)]
def EH(s:Sh)(d:AJ)(k:Nat):Prop:=∀q,(hq:q<d.queues.length)→q<k→CI s d.queues[q] =false
theorem EH.step {s:Sh} {d:AJ} {k:Nat}(h:EH s d k)(hk:k<d.queues.length)(h1:CI s d.queues[k] =false):EH s d (k+1):=fun q hq hqk => by
 by_cases e:q=k
 ·subst e;exact h1
 ·exact h q hq (by omega)
theorem EH.all {s:Sh} {d:AJ} {k:Nat}(h:EH s d k)(hk:d.queues.length≤k):d.queues.any (CI s)=false :=
 List.any_eq_false.2 fun x hx => by
  obtain⟨q,hq,rfl⟩:=List.getElem_of_mem hx;rw[h q hq (by omega)];exact Bool.false_ne_true
theorem long_any {s:Sh} {d:AJ} {k:Nat}(hk:k<d.queues.length)(h1:CI s d.queues[k] =true):d.queues.any (CI s)=true:=List.any_eq_true.2 ⟨_,List.getElem_mem hk,h1⟩
theorem Hu(s:Sh)(hsb:shB s=true)(d:AJ)(cs:List Value)(f:List Addr)(w:World)(h:AO w f cs d) :
  Calls Tryz.prog 116 #[shV s,.agg cs.toArray] w fun e w' => e= .returned (int i64 (BA (IntKind.i64.wrap (d.next - 1)) s d))∧Below w.heap.size w w':=by
 have hs:=Cv hsb;dsimp only[AO]at h;obtain⟨v0,v1,v2,f0,f1,f2,rfl,-,o0,o1,r0,r1,r2⟩:=h;obtain⟨A0,c0,rfl,m0,m0'⟩:=rSl.head r0;obtain⟨A1,c1,rfl,m1,m1'⟩:=rSl.head r1;obtain⟨A2,c2,rfl,m2,m2'⟩:=rSl.head r2;have hB:Below w.heap.size w ((w.alloc (.cells #[int i64 s.g,int i64 s.c,int i64 s.data,int i64 s.p,int i64 s.rows,int i64 s.cap,int i64 s.b,int i64 s.q,int i64 s.t] 31)).alloc (.cells #[.slice A0 d.queues.length c0,.slice A1 d.aside.length c1,.slice A2 d.answers.length c2,int i64 d.turn,int i64 d.next] 60)):=((Below.refl _ _).alloc (Nat.le_refl _) _).alloc (by simp) _;have HB:=hid hB;have S2:=hid (BF.of ((Blk.new w 31 #[int i64 s.g,int i64 s.c,int i64 s.data,int i64 s.p,int i64 s.rows,int i64 s.cap,int i64 s.b,int i64 s.q,int i64 s.t]).alloc (.cells #[.slice A0 d.queues.length c0,.slice A1 d.aside.length c1,.slice A2 d.answers.length c2,int i64 d.turn,int i64 d.next] 60)));have D2:=hid (CG.of (d:=d) (Blk.new1 w (.cells #[int i64 s.g,int i64 s.c,int i64 s.data,int i64 s.p,int i64 s.rows,int i64 s.cap,int i64 s.b,int i64 s.q,int i64 s.t] 31) 60 #[.slice A0 d.queues.length c0,.slice A1 d.aside.length c1,.slice A2 d.answers.length c2,int i64 d.turn,int i64 d.next]) (rSl.below (Ai.local_ Af.local_) (Ai.fixed Af.fixed) r0 hB) (rSl.below Af.local_ Af.fixed r1 hB) (rSl.below Am.local_ Am.fixed r2 hB));have HRS:=hid S2.out.rng;have hzs:=S2.out.lt;have hzd:=D2.out.lt;have HSF:=hid (fun(W:World) => Bu s W);rw[BZ hsb]at HSF;have HA:=hid (fun(W:World) => Dz s hs W);have HTK:=hid (fun(W:World) (hW:CG W (w.heap.size+1) 0 d A0 A1 A2 c0 c1 c2 f0 f1 f2) (hsm:(AN d).length≤1000000) => Jt s hsb _ _ d A0 A1 A2 c0 c1 c2 f0 f1 f2 W hW hsm);have HAN:=hid (fun(W:World) (hW:CG W (w.heap.size+1) 0 d A0 A1 A2 c0 c1 c2 f0 f1 f2) (hsm:(AN d).length≤1000000) => Js _ _ d A0 A1 A2 c0 c1 c2 f0 f1 f2 W hW hsm);have HSMALL:=hid (fun(hl:(d.queues.length:Int)=s.g+s.c) (hq:d.queues.any (CI s)=false) (ha:d.aside.length≤20) => Nat.le_trans (Fu hs hl hq ha) (show 60≤1000000 by decide));obtain⟨hi,hhi⟩:∃hi,IntKind.i64.wrap (d.next - 1)=hi:=⟨_,rfl⟩;rw[hhi]at HAN⊢;obtain⟨r,hr⟩:∃r,BA hi s d=r:=⟨_,rfl⟩;rw[hr];have HLEN:=hid (fun h0 => hr.symm.trans (FW (hi:=hi) (s:=s) (d:=d) h0));have HMANY:=hid (fun h0 h1 => hr.symm.trans (Fx (hi:=hi) (s:=s) (d:=d) h0 h1));have HREST:=hid (fun h0 h1 => hr.symm.trans (Ha (hi:=hi) (s:=s) (d:=d) h0 h1));obtain⟨al,hal⟩:∃al,s.g+s.c=al:=⟨_,rfl⟩;rw[hal]at HA HLEN HMANY HREST HSMALL;obtain⟨nQ,hnQ⟩:∃nQ,d.queues.length=nQ:=⟨_,rfl⟩;obtain⟨nS,hnS⟩:∃nS,d.aside.length=nS:=⟨_,rfl⟩;obtain⟨nA,hnA⟩:∃nA,d.answers.length=nA:=⟨_,rfl⟩;have HNQ:=hid hnQ;have HNS:=hid hnS;have HNA:=hid hnA;rw[hnQ]at HLEN HMANY HREST HSMALL m0;rw[hnS]at HMANY HREST HSMALL;rw[hnA]at HMANY HREST;unfold shV at HSF HA HTK⊢;have HI3:=hid (fun(W:World) => Bh d.turn 0 1000000000 W);have HI4:=hid (fun(W:World) => Bh d.next 1 1000000000 W);have HNE:=hid hnQ;clear hB hr hal hhi hnQ hnS hnA hs hsb r0 r1 r2 o0 o1 m1 m2 m1' m2';go_enter Tryz.func116,Tryz.ntmps116
 go_wp2_with (first
  |(refine wpList_load_mid rfl 31 _ rfl w.heap.size 0 rfl _ _ HRS.out Tryz.underlying31 rfl (by kernel_rfl) ?_)
  |(go_at_call 82;refine(HSF.out _).mono ?_;rintro e w3 ⟨rfl,b3⟩;have S3:=hid (S2.out.below b3);have D3:=hid (D2.out.below b3);have B3:=hid (HB.out.trans (b3.mono HB.out.size));have z3:=S3.out.lt;have y3:=D3.out.lt;clear b3))
 have u0:=cell_regrown S3.out.c0;have u1:=cell_regrown S3.out.c1;have u2:=cell_regrown S3.out.c2;have u3:=cell_regrown S3.out.c3;have u4:=cell_regrown S3.out.c4;have u5:=cell_regrown S3.out.c5;have u6:=cell_regrown S3.out.c6;have u7:=cell_regrown S3.out.c7;have u8:=cell_regrown S3.out.c8;have k0:=cell_regrown (show w3.cell? ⟨w.heap.size+1,0,none⟩=some (.slice A0 nQ c0)from by have:=D3.out.k0;rwa [HNQ.out]at this);have QA:=hid (AF (w:=w3) (fun W _ => HA.out W));by_cases q1:(nQ:Int)=al
 case neg =>
  obtain rfl:r=1:=HLEN.out q1;have hb:=C8 q1;clear q1
  (refine wp_region_quiet_below (by kernel_rfl) (by kernel_rfl) ?_;(repeat(first|go_big_quiet_step (first|exact QA.out _ _)|quiet_step (first|exact QA.out _ _)));refine wpQuiet_nil ?_)
  rintro _ ⟨⟨dq,osq⟩,rfl⟩;have BQ:=hid (B3.out.trans ((below_regrown w3 dq osq).mono B3.out.size));go_wp2_with fail
  go_ret
  exact⟨rfl,BQ.out⟩
 have Q1:=hid q1;have hb:=Fp q1;clear q1
 (refine wp_region_quiet_below (by kernel_rfl) (by kernel_rfl) ?_;(repeat(first|go_big_quiet_step (first|exact QA.out _ _)|quiet_step (first|exact QA.out _ _)));refine wpQuiet_nil ?_)
 rintro _ ⟨⟨dq,osq⟩,rfl⟩;have b5:=below_regrown w3 dq osq;generalize grow (redrawn w3 dq) osq=w5 at b5;have S5:=hid (S3.out.below b5);have D5:=hid (D3.out.below b5);have B5:=hid (B3.out.trans (b5.mono B3.out.size));clear b5 u0 u1 u2 u3 u4 u5 u6 u7 u8 k0 QA hb;go_wp2_with fail
 go_loopw [6] (fun ix wr =>∃i:Nat,i≤nQ∧ix= int i64 i∧Hid (EH s d i)∧Hid (Below w5.heap.size w5 wr)) (fun ix _ => nQ - (intOf ix).toNat)
 case atStart => exact⟨0,by omega,rfl,(show EH s d 0 from fun q hq h => by omega),Below.refl _ _⟩
 case round =>
  obtain⟨i,hi1,rfl,HT,HB2⟩:=hrel;have HBW:=hid (B5.out.trans (HB2.out.mono B5.out.size));have D6:=hid (D5.out.below HB2.out);have S6:=hid (S5.out.below HB2.out);have p0:wr.cell? ⟨w.heap.size+1,0,none⟩=some (.slice A0 nQ c0):=by have:=D6.out.k0;rwa [HNQ.out]at this
  have z6:=S6.out.lt;have y6:=D6.out.lt;by_cases hlt:i<nQ
  ·have hk:i<d.queues.length:=by rw[HNQ.out];exact hlt
   obtain⟨Ax,cx,ev,hc,hm,hx⟩:=rSl.at_ (Ai.fixed Af.fixed) (by decide) D6.out.r0;injection ev with ev1 ev2 ev3
   subst ev1 ev3;clear ev2;rw[HNQ.out]at hc;obtain⟨ad,b,oo,cs,fk,rfl,hat⟩:=hx i hk;have hpl:=hat.place;have hbl:=hat.lt;obtain⟨ve,hve,hrd⟩:=hat.reads;subst hve;obtain⟨Ae,ce,rfl,hmc,hmm⟩:=rSl.head hrd;have hpc:=hat.cell 0 (by simp);simp only[Nat.add_zero,List.getElem_cons_zero]at hpc;rw[Nat.mul_one]at hpl;have hki:(i:Int)<(nQ:Int):=by omega
   have HST:=hid (fun h0 => HT.out.step hk h0);have HLG:=hid (fun h0 => long_any (s:=s) hk h0);obtain⟨q,hq⟩:∃q,d.queues[i] =q:=⟨_,rfl⟩;rw[hq]at hpc HST HLG hmc;have hlb:CI s q=decide (s.q<(q.length:Int)):=rfl;obtain⟨n,hn⟩:∃n,q.length=n:=⟨_,rfl⟩;rw[hn]at hpc hlb hmc;have HLB:=hid hlb;clear hat hx hrd hk hq hn hlb;go_wp2_with fail
   have v0:=cell_regrown p0;have v1:=cell_regrown hpc;have v2:=cell_regrown S6.out.c7;by_cases q2:s.q<(n:Int)
   ·obtain rfl:r=2:=HMANY.out Q1.out (by rw[HLG.out (HLB.out.trans (decide_eq_true q2))];rfl)
    (refine wp_region_quiet_below (by kernel_rfl) (by kernel_rfl) ?_;(repeat(first|go_big_quiet_step (fail)|quiet_step (fail)));refine wpQuiet_nil ?_)
    rintro _ ⟨⟨dq,osq⟩,rfl⟩;have BQ:=hid (HBW.out.trans ((below_regrown wr dq osq).mono HBW.out.size));go_wp2_with fail
    go_ret
    exact⟨rfl,BQ.out⟩
   ·have q2n:¬s.q<(n:Int):=q2;have HS2:=hid (HST.out (HLB.out.trans (decide_eq_false q2)));have q2d:decide (s.q<(n:Int))=false:=decide_eq_false q2;clear q2
    (refine wp_region_quiet_below (by kernel_rfl) (by kernel_rfl) ?_;(repeat(first|go_big_quiet_step (fail)|quiet_step (fail)));refine wpQuiet_nil ?_)
    rintro _ ⟨⟨dq,osq⟩,rfl⟩;have BQ:=hid (HB2.out.trans ((below_regrown wr dq osq).mono HB2.out.size));go_wp2_with fail
    go_roundw
    case rel => exact⟨i+1,by omega,by go_num,HS2.out,BQ.out⟩
    case measure => simp[intOf];omega
  ·obtain rfl:i=nQ:=by omega
   have HAL:=hid (HT.out.all (by rw[HNQ.out];exact Nat.le_refl _));have p1:wr.cell? ⟨w.heap.size+1,1,none⟩=some (.slice A1 nS c1):=by have:=D6.out.k1;rwa [HNS.out]at this
   have p2:wr.cell? ⟨w.heap.size+1,2,none⟩=some (.slice A2 nA c2):=by have:=D6.out.k2;rwa [HNA.out]at this
   by_cases q3:20<nS
   ·obtain rfl:r=2:=HMANY.out Q1.out (by rw[decide_eq_true q3,Bool.true_or,Bool.or_true]);have q3i:(20:Int)<(nS:Int):=by omega
    go_wp2_with fail
    go_ret
    exact⟨rfl,HBW.out⟩
   have q3i:¬(20:Int)<(nS:Int):=by omega
   by_cases q4:200<nA
   ·obtain rfl:r=2:=HMANY.out Q1.out (by rw[decide_eq_true q4,Bool.or_true,Bool.or_true]);have q4i:(200:Int)<(nA:Int):=by omega
    go_wp2_with fail
    go_ret
    exact⟨rfl,HBW.out⟩
   have q4i:¬(200:Int)<(nA:Int):=by omega
   have HRT:=hid (HREST.out Q1.out (by rw[HAL.out,decide_eq_false q3,decide_eq_false q4];rfl));have HSM:=hid (HSMALL.out Q1.out HAL.out (by omega));have HT7:=hid (HTK.out wr D6.out HSM.out);have HRS6:=hid S6.out.rng;clear q3 q4 HREST HMANY HLEN;obtain⟨tc,htc⟩:∃tc,tkC s d=tc:=⟨_,rfl⟩;rw[htc]at HT7 HRT;clear htc;obtain⟨ac,hac⟩:∃ac,anH hi d=ac:=⟨_,rfl⟩;rw[hac]at HAN HRT;clear hac;by_cases q5:tc=0
   case neg =>
    have e1:r=tc:=by have:=HRT.out;rwa [if_neg q5]at this
    have q5b:=C8 q5;subst e1;clear q5;go_wp2_with (first
     |(refine wpList_load_mid rfl 31 _ rfl w.heap.size 0 rfl _ _ HRS6.out Tryz.underlying31 rfl (by kernel_rfl) ?_)
     |(go_at_call 196;refine HT7.out.mono ?_;rintro e w7 ⟨rfl,b7⟩;have B7:=hid (HBW.out.trans (b7.mono HBW.out.size));clear b7))
    go_ret
    exact⟨rfl,B7.out⟩
   subst q5;rw[if_pos rfl]at HRT;by_cases q6:ac=0
   case neg =>
    have e1:r=ac:=by have:=HRT.out;rwa [if_neg q6]at this
    have q6b:=C8 q6;subst e1;clear q6;go_wp2_with (first
     |(refine wpList_load_mid rfl 31 _ rfl w.heap.size 0 rfl _ _ HRS6.out Tryz.underlying31 rfl (by kernel_rfl) ?_)
     |(go_at_call 196;refine HT7.out.mono ?_;rintro e w7 ⟨rfl,b7⟩;have B7:=hid (HBW.out.trans (b7.mono HBW.out.size));have HA8:=hid (HAN.out w7 (D6.out.below b7) HSM.out);clear b7)
     |(go_at_call 197;refine HA8.out.mono ?_;rintro e w8 ⟨rfl,b8⟩;have B8:=hid (B7.out.trans (b8.mono B7.out.size));clear b8))
    go_ret
    exact⟨rfl,B8.out⟩
   subst q6;rw[if_pos rfl]at HRT;have HFIN:=hid HRT.out;obtain⟨j3,hj3⟩:∃j3,Aj d.turn 0 1000000000=j3:=⟨_,rfl⟩;obtain⟨j4,hj4⟩:∃j4,Aj d.next 1 1000000000=j4:=⟨_,rfl⟩;rw[hj3]at HI3 HFIN;rw[hj4]at HI4 HFIN;clear hj3 hj4;cases j3 with
   |false =>
    obtain rfl:r=3:=HFIN.out;go_wp2_with (first
     |(refine wpList_load_mid rfl 31 _ rfl w.heap.size 0 rfl _ _ HRS6.out Tryz.underlying31 rfl (by kernel_rfl) ?_)
     |(go_at_call 196;refine HT7.out.mono ?_;rintro e w7 ⟨rfl,b7⟩;have B7:=hid (HBW.out.trans (b7.mono HBW.out.size));have D7:=hid (D6.out.below b7);have HA8:=hid (HAN.out w7 D7.out HSM.out);clear b7)
     |(go_at_call 197;refine HA8.out.mono ?_;rintro e w8 ⟨rfl,b8⟩;have B8:=hid (B7.out.trans (b8.mono B7.out.size));have D8:=hid (D7.out.below b8);have x3:w8.cell? ⟨w.heap.size+1,3,none⟩=some (int i64 d.turn):=D8.out.k3;have x4:w8.cell? ⟨w.heap.size+1,4,none⟩=some (int i64 d.next):=D8.out.k4;have y8:=D8.out.lt;clear b8)
     |(go_at_call_has 35 d.turn;refine(HI3.out _).mono ?_;rintro e w' ⟨rfl,rfl⟩)
     |(go_at_call_has 35 d.next;refine(HI4.out _).mono ?_;rintro e w' ⟨rfl,rfl⟩))
    go_ret
    exact⟨rfl,B8.out⟩
   |true =>
    cases j4 with
    |false =>
     obtain rfl:r=3:=HFIN.out;go_wp2_with (first
      |(refine wpList_load_mid rfl 31 _ rfl w.heap.size 0 rfl _ _ HRS6.out Tryz.underlying31 rfl (by kernel_rfl) ?_)
      |(go_at_call 196;refine HT7.out.mono ?_;rintro e w7 ⟨rfl,b7⟩;have B7:=hid (HBW.out.trans (b7.mono HBW.out.size));have D7:=hid (D6.out.below b7);have HA8:=hid (HAN.out w7 D7.out HSM.out);clear b7)
      |(go_at_call 197;refine HA8.out.mono ?_;rintro e w8 ⟨rfl,b8⟩;have B8:=hid (B7.out.trans (b8.mono B7.out.size));have D8:=hid (D7.out.below b8);have x3:w8.cell? ⟨w.heap.size+1,3,none⟩=some (int i64 d.turn):=D8.out.k3;have x4:w8.cell? ⟨w.heap.size+1,4,none⟩=some (int i64 d.next):=D8.out.k4;have y8:=D8.out.lt;clear b8)
      |(go_at_call_has 35 d.turn;refine(HI3.out _).mono ?_;rintro e w' ⟨rfl,rfl⟩)
      |(go_at_call_has 35 d.next;refine(HI4.out _).mono ?_;rintro e w' ⟨rfl,rfl⟩))
     go_ret
     exact⟨rfl,B8.out⟩
    |true =>
     obtain rfl:r=0:=HFIN.out;go_wp2_with (first
      |(refine wpList_load_mid rfl 31 _ rfl w.heap.size 0 rfl _ _ HRS6.out Tryz.underlying31 rfl (by kernel_rfl) ?_)
      |(go_at_call 196;refine HT7.out.mono ?_;rintro e w7 ⟨rfl,b7⟩;have B7:=hid (HBW.out.trans (b7.mono HBW.out.size));have D7:=hid (D6.out.below b7);have HA8:=hid (HAN.out w7 D7.out HSM.out);clear b7)
      |(go_at_call 197;refine HA8.out.mono ?_;rintro e w8 ⟨rfl,b8⟩;have B8:=hid (B7.out.trans (b8.mono B7.out.size));have D8:=hid (D7.out.below b8);have x3:w8.cell? ⟨w.heap.size+1,3,none⟩=some (int i64 d.turn):=D8.out.k3;have x4:w8.cell? ⟨w.heap.size+1,4,none⟩=some (int i64 d.next):=D8.out.k4;have y8:=D8.out.lt;clear b8)
      |(go_at_call_has 35 d.turn;refine(HI3.out _).mono ?_;rintro e w' ⟨rfl,rfl⟩)
      |(go_at_call_has 35 d.next;refine(HI4.out _).mono ?_;rintro e w' ⟨rfl,rfl⟩))
     go_ret
     exact⟨rfl,B8.out⟩
end Go.Proofs.YtfjkoifpdoemdaaGreat
