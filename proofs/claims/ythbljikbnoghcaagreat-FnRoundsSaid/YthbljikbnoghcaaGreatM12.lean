/-
  Part 12 of the proof; the last part states and proves the statement.
-/
import Derived.Test.YthbljikbnoghcaaGreatM10
import Derived.Test.YthbljikbnoghcaaGreatM11
import Derived.Test.YthbljikbnoghcaaGreatM02
set_option maxHeartbeats 8000000
set_option maxRecDepth 100000
set_option linter.unusedVariables false
set_option linter.unusedSimpArgs false
open Go.Value (int)
open Go.IntKind (i64)
namespace Go.Proofs.YthbljikbnoghcaaGreat
open Go.RowKit Go.Lib Go.Sort
def tkV(t:An):Value:=.agg #[int i64 t.id,int i64 t.kind,.string t.name,int i64 t.group]
structure Gr (W:World) (p:Nat) (t:An):Prop where
 rng:W.rangeAt p 0 [int i64 t.id,int i64 t.kind,.string t.name,int i64 t.group]
 c0:W.cell? ⟨p,0,none⟩=some (int i64 t.id)
 c1:W.cell? ⟨p,1,none⟩=some (int i64 t.kind)
 c2:W.cell? ⟨p,2,none⟩=some (.string t.name)
 c3:W.cell? ⟨p,3,none⟩=some (int i64 t.group)
 lt:p<W.heap.size
theorem Gr.of {W:World} {p:Nat} {T:TypeId} {t:An}(K:Blk W p T #[int i64 t.id,int i64 t.kind,.string t.name,int i64 t.group]):Gr W p t :=
 ⟨Blk.rangeAll K,(K.cell 0).trans rfl,(K.cell 1).trans rfl,(K.cell 2).trans rfl,(K.cell 3).trans rfl,K.lt⟩
theorem Gr.below {W W':World} {p:Nat} {t:An}(h:Gr W p t)(hb:Below W.heap.size W W'):Gr W' p t :=
 ⟨fun j v hj =>(hb.cell (p:=⟨p,0+j,none⟩) h.lt).trans (h.rng j v hj),(hb.cell (p:=⟨p,0,none⟩) h.lt).trans h.c0,(hb.cell (p:=⟨p,1,none⟩) h.lt).trans h.c1,(hb.cell (p:=⟨p,2,none⟩) h.lt).trans h.c2,(hb.cell (p:=⟨p,3,none⟩) h.lt).trans h.c3,Nat.lt_of_lt_of_le h.lt hb.size⟩
theorem Eo {a b:Int}(h:¬a=b):(a != b)=true:=by simpa using h
theorem Jd {a b:Int}(h:a=b):(a != b)=false:=by simpa using h
theorem JT {nm:ByteArray}(h:¬nm=⟨#[]⟩):nm.toList.isEmpty=false:=by
 have:=F9 (b:=⟨#[]⟩) h;cases e:nm.toList with
 |nil => rw[e]at this;simp at this
 |cons a l => rfl
theorem Ec {nm:ByteArray}(h:BU nm.data.toList=true):nm.size≤8:=by
 unfold BU at h;simp only[Bool.and_eq_true,decide_eq_true_eq]at h;have h2:=h.2.2;simp at h2;exact h2
theorem Es(s:Sh)(hsb:shB s=true)(t:An)(hn:t.name.size≤9223372036854775807)(w:World) :
  Calls Tryz.prog 74 #[shV s,tkV t] w fun e w' => e= .returned (int i64 (ER s t))∧Below w.heap.size w w':=by
 have hs:=CJ hsb;have hB:Below w.heap.size w ((w.alloc (.cells #[int i64 s.g,int i64 s.c,int i64 s.data,int i64 s.p,int i64 s.rows,int i64 s.cap,int i64 s.b,int i64 s.q,int i64 s.t] 25)).alloc (.cells #[int i64 t.id,int i64 t.kind,.string t.name,int i64 t.group] 103)):=((Below.refl _ _).alloc (Nat.le_refl _) _).alloc (by simp) _;have HB:=hid hB;have HS:=hid (Ck.of ((Blk.new w 25 #[int i64 s.g,int i64 s.c,int i64 s.data,int i64 s.p,int i64 s.rows,int i64 s.cap,int i64 s.b,int i64 s.q,int i64 s.t]).alloc (.cells #[int i64 t.id,int i64 t.kind,.string t.name,int i64 t.group] 103)));have HT:=hid (Gr.of (Blk.new1 w (.cells #[int i64 s.g,int i64 s.c,int i64 s.data,int i64 s.p,int i64 s.rows,int i64 s.cap,int i64 s.b,int i64 s.q,int i64 s.t] 25) 103 #[int i64 t.id,int i64 t.kind,.string t.name,int i64 t.group]));have hlo:=HS.out.lt;have hlt:=HT.out.lt;have v0:=HT.out.c0;have v1:=HT.out.c1;have v2:=HT.out.c2;have v3:=HT.out.c3;obtain⟨r,hr⟩:∃r,ER s t=r:=⟨_,rfl⟩;rw[hr];unfold ER at hr;have HIN:=hid (fun(W:World) => AX t.id 1 1000000000 W);have HNF:=hid (fun(W:World) => C7 t.name W hn);have HG:=hid (fun(W:World) => EO s hs t.group W);have HH:=hid (fun(h:t.name.size≤1000000) (W:World) => GW s hs t.name h W);unfold shV at HG HH⊢;unfold tkV;clear hn hB hs;cases hi:Al t.id 1 1000000000 with
 |false =>
  rw[hi]at HIN hr;have e1:r=3:=by rw[← hr];rfl
  subst e1;clear hr hi;go_enter Tryz.func74,Tryz.ntmps74
  go_wp2_with (go_at_call 61;refine(HIN.out _).mono ?_;rintro e w' ⟨rfl,rfl⟩)
  go_ret
  exact⟨rfl,HB.out⟩
 |true =>
  rw[hi,if_pos rfl]at hr;rw[hi]at HIN;clear hi;by_cases q1:t.kind=1
  ·rw[if_pos q1]at hr;have k1:(t.kind != 1)=false:=by rw[q1];rfl
   have k2:(t.kind == 2)=false:=by rw[q1];rfl
   clear q1;by_cases q2:BU t.name.data.toList=true
   ·have hsm:t.name.size≤1000000:=by have:=Ec q2;omega
    have HHO:=hid (HH.out hsm);have en:Bm t.name.data.toList=0:=by unfold Bm;rw[if_pos q2]
    rw[en]at HNF;rw[if_pos q2]at hr;obtain⟨ho,hho⟩:∃ho,BT s.g t.name=ho:=⟨_,rfl⟩;rw[hho]at HHO hr;clear q2 hsm en hho HH HG;have HR:=hid hr;clear hr;go_enter Tryz.func74,Tryz.ntmps74
    go_wp2_with (first
     |(go_at_call 61;refine(HIN.out _).mono ?_;rintro e w' ⟨rfl,rfl⟩)
     |(go_at_call 29;refine(HNF.out _).mono ?_;rintro e w3 ⟨rfl,b3⟩;have S3:=hid (HS.out.below b3);have T3:=hid (HT.out.below b3);have B3:=hid (HB.out.trans (b3.mono HB.out.size));have z1:=S3.out.lt;have z2:=T3.out.lt;clear b3))
    clear v0 v1 v2 v3 HIN HNF;have u0:=cell_regrown S3.out.c0;have u1:=cell_regrown S3.out.c1;have u2:=cell_regrown S3.out.c2;have u3:=cell_regrown S3.out.c3;have u4:=cell_regrown S3.out.c4;have u5:=cell_regrown S3.out.c5;have u6:=cell_regrown S3.out.c6;have u7:=cell_regrown S3.out.c7;have u8:=cell_regrown S3.out.c8;have v0:=cell_regrown T3.out.c0;have v1:=cell_regrown T3.out.c1;have v2:=cell_regrown T3.out.c2;have v3:=cell_regrown T3.out.c3;have QH:=hid (Bi (w:=w3) (fun W _ => HHO.out W));by_cases q3:t.group=ho
    ·have g1:(t.group != ho)=false:=Jd q3;have e1:r=0:=by rw[← HR.out,if_pos q3]
     subst e1;clear q3
     (refine wp_region_quiet_below (by kernel_rfl) (by kernel_rfl) ?_;(repeat(first|go_big_quiet_step (first|(go_at_call 32;exact QH.out _ _))|quiet_step (first|(go_at_call 32;exact QH.out _ _))));refine wpQuiet_nil ?_)
     rintro _ ⟨⟨dq,osq⟩,rfl⟩;have B4:=hid (B3.out.trans ((below_regrown _ dq osq).mono B3.out.size));go_wp2_with fail
     go_ret
     exact⟨rfl,B4.out⟩
    ·have g1:(t.group != ho)=true:=Eo q3;have e1:r=1:=by rw[← HR.out,if_neg q3]
     subst e1;clear q3
     (refine wp_region_quiet_below (by kernel_rfl) (by kernel_rfl) ?_;(repeat(first|go_big_quiet_step (first|(go_at_call 32;exact QH.out _ _))|quiet_step (first|(go_at_call 32;exact QH.out _ _))));refine wpQuiet_nil ?_)
     rintro _ ⟨⟨dq,osq⟩,rfl⟩;have B4:=hid (B3.out.trans ((below_regrown _ dq osq).mono B3.out.size));go_wp2_with fail
     go_ret
     exact⟨rfl,B4.out⟩
   ·have en:Bm t.name.data.toList=5:=by unfold Bm;rw[if_neg q2]
    rw[en]at HNF;rw[if_neg q2]at hr;subst hr;clear q2 en HH HG;go_enter Tryz.func74,Tryz.ntmps74
    go_wp2_with (first
     |(go_at_call 61;refine(HIN.out _).mono ?_;rintro e w' ⟨rfl,rfl⟩)
     |(go_at_call 29;refine(HNF.out _).mono ?_;rintro e w3 ⟨rfl,b3⟩;have B3:=hid (HB.out.trans (b3.mono HB.out.size));clear b3))
    go_ret
    exact⟨rfl,B3.out⟩
  ·rw[if_neg q1]at hr;have k1:(t.kind != 1)=true:=Eo q1;clear q1;by_cases q4:t.kind=2
   ·rw[if_pos q4]at hr;have k2:(t.kind != 2)=false:=by rw[q4];rfl
    have k3:(t.kind == 2)=true:=by rw[q4];rfl
    clear q4;have u0:=HS.out.c0;have u1:=HS.out.c1;have u2:=HS.out.c2;have u3:=HS.out.c3;have u4:=HS.out.c4;have u5:=HS.out.c5;have u6:=HS.out.c6;have u7:=HS.out.c7;have u8:=HS.out.c8;cases hg:Al t.group 0 (s.g+s.c - 1)with
    |false =>
     rw[hg]at HG hr;have e1:r=3:=by rw[← hr];rfl
     subst e1;clear hr hg;go_enter Tryz.func74,Tryz.ntmps74
     go_wp2_with (first
      |(go_at_call 61;refine(HIN.out _).mono ?_;rintro e w' ⟨rfl,rfl⟩)
      |(go_at_call 119;refine(HG.out _).mono ?_;rintro e w3 ⟨rfl,b3⟩;have B3:=hid (HB.out.trans (b3.mono HB.out.size));clear b3))
     go_ret
     exact⟨rfl,B3.out⟩
    |true =>
     rw[hg,if_pos rfl]at hr;rw[hg]at HG;clear hg;by_cases q5:t.name=⟨#[]⟩
     ·have e1:r=0:=by rw[← hr,if_pos q5]
      subst e1;have x1:=Hx (b:=⟨#[]⟩) q5;have x2n:t.name.toList.isEmpty=true:=by rw[q5];simp
      clear hr q5;go_enter Tryz.func74,Tryz.ntmps74
      go_wp2_with (first
       |(go_at_call 61;refine(HIN.out _).mono ?_;rintro e w' ⟨rfl,rfl⟩)
       |(go_at_call 119;refine(HG.out _).mono ?_;rintro e w3 ⟨rfl,b3⟩;have T3:=hid (HT.out.below b3);have B3:=hid (HB.out.trans (b3.mono HB.out.size));have z2:=T3.out.lt;have x31:=T3.out.c1;have x32:=T3.out.c2;clear b3))
      go_ret
      exact⟨rfl,B3.out⟩
     ·have e1:r=1:=by rw[← hr,if_neg q5]
      subst e1;have x1:=F9 (b:=⟨#[]⟩) q5;have x2n:t.name.toList.isEmpty=false:=JT q5;clear hr q5;go_enter Tryz.func74,Tryz.ntmps74
      go_wp2_with (first
       |(go_at_call 61;refine(HIN.out _).mono ?_;rintro e w' ⟨rfl,rfl⟩)
       |(go_at_call 119;refine(HG.out _).mono ?_;rintro e w3 ⟨rfl,b3⟩;have T3:=hid (HT.out.below b3);have B3:=hid (HB.out.trans (b3.mono HB.out.size));have z2:=T3.out.lt;have x31:=T3.out.c1;have x32:=T3.out.c2;clear b3))
      go_ret
      exact⟨rfl,B3.out⟩
   ·rw[if_neg q4]at hr;have k2:(t.kind != 2)=true:=Eo q4;subst hr;clear q4;go_enter Tryz.func74,Tryz.ntmps74
    go_wp2_with (go_at_call 61;refine(HIN.out _).mono ?_;rintro e w' ⟨rfl,rfl⟩)
    go_ret
    exact⟨rfl,HB.out⟩
structure Do (W:World) (p o:Nat) (d:AH) (A0 A1 A2:Option Addr) (c0 c1 c2:Nat) (f0 f1 f2:List Addr):Prop where
 k0:W.cell? ⟨p,o,none⟩=some (.slice A0 d.queues.length c0)
 k1:W.cell? ⟨p,o+1,none⟩=some (.slice A1 d.aside.length c1)
 k2:W.cell? ⟨p,o+2,none⟩=some (.slice A2 d.answers.length c2)
 k3:W.cell? ⟨p,o+3,none⟩=some (int i64 d.turn)
 k4:W.cell? ⟨p,o+4,none⟩=some (int i64 d.next)
 lt:p<W.heap.size
 r0:rSl 1 (Am 4 Ah) W f0 (.slice A0 d.queues.length c0) d.queues
 r1:rSl 4 Ah W f1 (.slice A1 d.aside.length c1) d.aside
 r2:rSl 4 AA W f2 (.slice A2 d.answers.length c2) d.answers
theorem Do.below {W W':World} {p o:Nat} {d:AH} {A0 A1 A2:Option Addr} {c0 c1 c2:Nat} {f0 f1 f2:List Addr}(h:Do W p o d A0 A1 A2 c0 c1 c2 f0 f1 f2)(hb:Below W.heap.size W W'):Do W' p o d A0 A1 A2 c0 c1 c2 f0 f1 f2 :=
 ⟨(hb.cell (p:=⟨p,o,none⟩) h.lt).trans h.k0,(hb.cell (p:=⟨p,o+1,none⟩) h.lt).trans h.k1,(hb.cell (p:=⟨p,o+2,none⟩) h.lt).trans h.k2,(hb.cell (p:=⟨p,o+3,none⟩) h.lt).trans h.k3,(hb.cell (p:=⟨p,o+4,none⟩) h.lt).trans h.k4,Nat.lt_of_lt_of_le h.lt hb.size,
  rSl.below (Am.local_ Ah.local_) (Am.fixed Ah.fixed) h.r0 hb,rSl.below Ah.local_ Ah.fixed h.r1 hb,rSl.below AA.local_ AA.fixed h.r2 hb⟩
theorem Aj.tks {E:TypeId} {w:World} {base:Nat} {v:Value} {ds:List An} {fs:List Addr}(h:Aj 4 E Ah w base v ds fs):fs= []:=by
 obtain⟨css,fss,h1,h2,rfl,h4,h5,h6⟩:=h;refine List.flatten_eq_nil_iff.2 fun l hl => ?_
 obtain⟨i,hi,rfl⟩:=List.getElem_of_mem hl;obtain⟨_,_,_,p4⟩:=h5 i (by omega);exact p4.2.1
theorem Tryz.infoTk:(Tryz.prog.info? 103).map (fun i =>(i.zero,i.size,i.bytes))=some (some (.agg #[int i64 0,int i64 0,.string ⟨#[]⟩,int i64 0]),4,40):=by kernel_rfl
theorem addTks {wr:World} {base:Nat} {v:Value} {ds ds2:List An}(ho:Aj 4 103 Ah wr base v ds [])(hbase:base≤wr.heap.size) {u:Value} {gs:List Addr}(hr:rSl 4 Ah wr gs u ds2)(hf:∀a,a∈gs→a.block<base)(hn:ds.length+ds2.length≤1000000000) :
  ∃v' w',(Builtin.append_ #[33,33] 33 #[v,u]).run Tryz.prog wr= .ok v' w'∧∃A c,v'= .slice A (ds.length+ds2.length) c∧Aj 4 103 Ah w' base v' (ds ++ ds2) []∧Below base wr w'∧base≤w'.heap.size:=by
 obtain⟨v',w',q1,h,q2,-,q4,-⟩:=Aj.appendRun (P:=Tryz.prog) 33 33 (.agg #[int i64 0,int i64 0,.string ⟨#[]⟩,int i64 0]) 40 Tryz.underlying33 Tryz.infoTk rfl (by decide) Ah.local_ Ah.fixed Ah.ones base v ds [] ho u ds2 gs hr (fun a ha e => by
  have:=(ho.lt _ e).1;have:=hf a ha;omega) hn (by omega) hbase
 have hnil:=q2.tks;rw[hnil]at q2;obtain⟨A,c,e,-⟩:=q2.length;refine⟨v',w',q1,A,c,by rw[e,List.length_append],q2,Below.grown (Below.refl _ _) q4 hbase (fun k hk =>(ho.lt k hk).1),Nat.le_trans hbase q4.size⟩
def Ek:Nat→List (List An)→Nat→Int
 |_,[],_ => -1
 |g,q :: r,k => if k<q.length then(g:Int)else Ek (g+1) r (k - q.length)
theorem Gp:∀(g:Nat) (l:List (List An)) (m:List An) (k:Nat) (h:k<(AV g l ++ m.map fun t =>(t,(-1:Int))).length),((AV g l ++ m.map fun t =>(t,(-1:Int)))[k]).2=Ek g l k
 |g,[],m,k,h => by simp[AV,Ek]
 |g,q :: r,m,k,h => by
  unfold Ek;by_cases h1:k<q.length
  ·rw[if_pos h1];simp only[AV,List.append_assoc];rw[List.getElem_append_left (by simpa using h1)];simp
  ·rw[if_neg h1];simp only[AV,List.append_assoc]at h⊢;rw[List.getElem_append_right (by simp;omega)];have:=Gp (g+1) r m (k - q.length) (by simp at h⊢;omega);simpa using this
structure TkO (W:World) (p o:Nat) (t:An):Prop where
 rng:W.rangeAt p o [int i64 t.id,int i64 t.kind,.string t.name,int i64 t.group]
 c0:W.cell? ⟨p,o,none⟩=some (int i64 t.id)
 c1:W.cell? ⟨p,o+1,none⟩=some (int i64 t.kind)
 c2:W.cell? ⟨p,o+2,none⟩=some (.string t.name)
 c3:W.cell? ⟨p,o+3,none⟩=some (int i64 t.group)
 lt:p<W.heap.size
theorem TkO.below {W W':World} {p o:Nat} {t:An}(h:TkO W p o t)(hb:Below W.heap.size W W'):TkO W' p o t :=
 ⟨fun j v hj =>(hb.cell (p:=⟨p,o+j,none⟩) h.lt).trans (h.rng j v hj),(hb.cell (p:=⟨p,o,none⟩) h.lt).trans h.c0,(hb.cell (p:=⟨p,o+1,none⟩) h.lt).trans h.c1,(hb.cell (p:=⟨p,o+2,none⟩) h.lt).trans h.c2,(hb.cell (p:=⟨p,o+3,none⟩) h.lt).trans h.c3,Nat.lt_of_lt_of_le h.lt hb.size⟩
theorem TkO.of {W:World} {fs:List Addr} {ad:Addr} {j b o:Nat} {cs:List Value} {fk:List Addr} {t:An}(h:At 4 Ah W fs ad j b o cs fk t):TkO W b o t:=by
 have hl:=h.len;obtain⟨e,-⟩:=h.reads;have hc:=h.cell;subst e;exact⟨fun q v hq => by
  obtain⟨hq1,hq2⟩:=List.getElem?_eq_some_iff.1 hq;rw[hc q hq1,hq2],hc 0 (by simp),hc 1 (by simp),hc 2 (by simp),hc 3 (by simp),h.lt⟩
theorem Ed(d:AH):(AM d).length =(AN d).length:=by rw[← Dw,List.length_map]
theorem Gm {d:AH} {i:Nat}(h:i<(AM d).length)(h2:i<(AN d).length):((AM d)[i]).1=(AN d)[i]∧((AM d)[i]).2=Ek 0 d.queues i:=by
 constructor
 ·have h3:i<((AM d).map Prod.fst).length:=by rw[List.length_map];exact h
  have h4:((AM d).map Prod.fst)[i] =((AM d)[i]).1:=List.getElem_map _;rw[← h4];congr 1
  exact Dw d
 ·exact Gp 0 d.queues d.aside i h
theorem Ii(d:AH)(i:Nat):((AM d).take i).map (fun x => x.1.id)=((AN d).take i).map An.id:=by
 rw[← Dw,← List.map_take,List.map_map];rfl
def E9(s:Sh)(d:AH)(i:Nat):Prop:=DK s d.next ((AM d).take i) [] =0
def Hb(s:Sh)(d:AH)(i:Nat)(t:An):Int:=CR s d.next (((AN d).take i).map An.id) (t,Ek 0 d.queues i)
theorem E9.step {s:Sh} {d:AH} {i:Nat}(h:E9 s d i)(hi:i<(AN d).length)(h0:Hb s d i (AN d)[i] =0):E9 s d (i+1):=by
 have hs:i<(AM d).length:=by rw[Ed];exact hi
 obtain⟨e1,e2⟩:=Gm hs hi;unfold E9 at h⊢;rw[List.take_succ_eq_append_getElem hs];refine Ij h ?_;rw[Ii,List.nil_append,show(AM d)[i] =((AN d)[i],Ek 0 d.queues i)from Prod.ext e1 e2];exact h0
theorem E9.bad {s:Sh} {d:AH} {i:Nat}(h:E9 s d i)(hi:i<(AN d).length)(h0:Hb s d i (AN d)[i]≠0):tkC s d=Hb s d i (AN d)[i]:=by
 have hs:i<(AM d).length:=by rw[Ed];exact hi
 obtain⟨e1,e2⟩:=Gm hs hi;unfold E9 at h;have e:Hb s d i (AN d)[i] =CR s d.next ([] ++((AM d).take i).map fun x => x.1.id) (AM d)[i]:=by
  rw[Ii,List.nil_append,show(AM d)[i] =((AN d)[i],Ek 0 d.queues i)from Prod.ext e1 e2];rfl
 rw[e]at h0⊢;have:=Jn (b:=(AM d).drop (i+1)) h h0;rw[← this];unfold tkC;congr 1
 rw[← List.drop_eq_getElem_cons hs,List.take_append_drop]
theorem E9.all {s:Sh} {d:AH} {i:Nat}(h:E9 s d i)(hi:(AN d).length≤i):tkC s d=0:=by
 unfold E9 at h;rw[List.take_of_length_le (by rw[Ed];exact hi)]at h;exact h
end Go.Proofs.YthbljikbnoghcaaGreat
