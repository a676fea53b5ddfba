/-
  Part 40 of the proof; the last part states and proves the statement.
-/
import Derived.Test.YthbljikbnoghcaaGreatM11
import Derived.Test.YthbljikbnoghcaaGreatM38
import Derived.Test.YthbljikbnoghcaaGreatM39
import Derived.Test.YthbljikbnoghcaaGreatM14
import Derived.Test.YthbljikbnoghcaaGreatM36
import Derived.Test.YthbljikbnoghcaaGreatM21
import Derived.Test.YthbljikbnoghcaaGreatM24
import Derived.Test.YthbljikbnoghcaaGreatM33
import Derived.Test.YthbljikbnoghcaaGreatM10
import Derived.Test.YthbljikbnoghcaaGreatM00
import Derived.Test.YthbljikbnoghcaaGreatM01
import Derived.Deep.RegionHeld3
set_option maxHeartbeats 8000000
set_option maxRecDepth 100000
set_option linter.unusedVariables false
set_option linter.unusedSimpArgs false
open Go.Value (int)
open Go.IntKind (i64)
namespace Go.Proofs.YthbljikbnoghcaaGreat
open Go.RowKit Go.Lib Go.Sort
theorem Gl {P:Program} {fn:Func} {p u:Tmp} {ty:TypeId}(h:fn.results= #[.cell p ty,.tmp u])(tmps:Array Value)(w:World)(g:Nat)(t:TypeId)(cs:Array Value)(d:TypeDesc)(v2:Value)
  (hp:tmps.getD p undef= .pointer (some ⟨g,0,none⟩)) (hg:Blk w g t cs)
  (hu:P.underlying ty=some d) (hd:(match d with| .struct _| .array _ _ => true|_ => false)=true) (hi:(P.info? ty).map (·.size)=some cs.size)
  (hp2:tmps.getD u undef=v2) :
  (results fn tmps).run P w= .ok (.tuple #[.agg cs,v2]) w:=by
 have hp':tmps[p]?.getD undef= .pointer (some ⟨g,0,none⟩):=by simpa using hp
 have hp2':tmps[u]?.getD undef=v2:=by simpa using hp2
 simp[results,h,hp',hp2',asAddr,run_loadVar_row w g t ty cs (0,0) d hg hu hd hi]
def fitB(s:Sh)(g:Int)(nf:Nat)(x:Ag):Bool:=!DS s.g g x && decide (Bz s x.length≤(nf:Int))
def Fu(d:Au)(g:Int)(L:List Ag):Bool:=L.any (fitB d.s.sh g (DD d.s.rows.toNat (Da d.s.g g L ++ C9 g (AW d))).length)
structure IE (d:Au):Prop where
 ok:d.s.sh.Ok
 sm:(Bj d).length≤1000000
 nm:∀r,r∈AW d→r.name.size≤1000000
 r1:∀r,r∈AW d→r.kind=1→∀k,k∈r.rows→0≤k∧k<d.s.rows
 r2:∀r,r∈AW d→r.kind=2∨r.kind=4→0≤r.row∧r.row<d.s.rows
 pt:∀r,r∈AW d→r.kind=1→r.length≠ -1→CV d.s.sh r.length=true
 sz:∀r,r∈AW d→r.kind=1→r.rows.length≤1000000∧r.data.length≤1000000∧r.delta.length≤1000000
theorem Cw.len {all L:List Ag}(h:Cw all L):L.length≤all.length :=
 FY L all (h.sorted.imp (fun {a b} hab e => by subst e;exact EG a hab)) fun x hx =>(EF ((h.mem x).1 hx)).1
theorem next_end {s:Sh} {g:Int} {nf:Nat} {L M:List Ag}(hp:M.Perm (L.filter fun x => !DS s.g g x)):L.any (fitB s g nf)=M.any fun x => decide (Bz s x.length≤(nf:Int)):=by
 rw[Bool.eq_iff_iff,List.any_eq_true,List.any_eq_true];constructor
 ·rintro⟨x,h1,h2⟩;unfold fitB at h2;rw[Bool.and_eq_true]at h2;exact⟨x,hp.mem_iff.2 (List.mem_filter.2 ⟨h1,h2.1⟩),h2.2⟩
 ·rintro⟨x,h1,h2⟩;obtain⟨h3,h4⟩:=List.mem_filter.1 (hp.mem_iff.1 h1);exact⟨x,h3,by unfold fitB;rw[Bool.and_eq_true];exact⟨h4,h2⟩⟩
theorem Ip(ks:Nat)(hks:ks=9)(zS:∀w,(Go.sizeOf 25).run Tryz.prog w= .ok ks w)(aS:∀w,(isAgg 25).run Tryz.prog w= .ok true w)(p:Nat)(fs:List Addr)(d:Au)(g:Int)(w:World)(h:AtW w p fs d)(hR:IE d) :
  Calls Tryz.prog 100 #[.pointer (some ⟨p,0,none⟩),int i64 g] w fun e w' =>∃(L:List Ag) (cs':List Value),Cw (AW d) L∧e= .returned (.tuple #[.agg cs'.toArray,.bool (Fu d g L)])∧cs'.length=9∧(∀u,u∈cs'→u.oneCell'=true)∧Below w.heap.size w w':=by
 obtain⟨Z,hZ⟩:∃Z:Array Value,#[int i64 0,int i64 0,.string ⟨#[]⟩,int i64 0,int i64 0,int i64 0,.slice none 0 0,.slice none 0 0,.slice none 0 0] =Z:=⟨_,rfl⟩;obtain⟨g0,hg0⟩:∃g0,w.heap.size=g0:=⟨_,rfl⟩;obtain⟨W1,hW1⟩:∃W1,((w.alloc (.cells #[.pointer (some ⟨p,0,none⟩)] 93)).alloc (.cells #[int i64 g] 2)).alloc (.cells Z 76)=W1:=⟨_,rfl⟩;have hB1:Below g0 w W1:=by rw[← hW1,← hg0];exact Aa (Aa (Aa (Below.refl _ _) _) _) _
 have K2:Blk W1 g0 93 #[.pointer (some ⟨p,0,none⟩)]:=by rw[← hW1,← hg0];exact((Blk.new w _ _).alloc _).alloc _
 have K3:Blk W1 (g0+1) 2 #[int i64 g]:=by rw[← hW1,← hg0];exact(Blk.new1 w _ _ _).alloc _
 have K4:Blk W1 (g0+1+1) 76 Z:=by rw[← hW1,← hg0];exact Blk.new2 w _ _ _ _
 have HA:=hid (show∀W,Below g0 w W→AtW W p fs d from fun W hW => h.below (by rw[hg0];exact hW));have HN:=hid (Jg p fs d W1 (HA.out W1 hB1) hR.sm hR.nm);have HR:=hid hR;have HB1:=hid hB1;have HK2:=hid K2;have HK3:=hid K3;have HK4:=hid K4;have HG:=hid hg0;have HZ:=hid hZ;have c2:W1.cell? ⟨g0,0,none⟩=some (.pointer (some ⟨p,0,none⟩)):=(K2.cell 0).trans rfl;have hdel:∀(w2:World) (L:List Ag) (gA c B:Nat),Cw (AW d) L→W1.heap.size≤B→Bp w2 B gA L.length (fun i => L[i]?)→L.length≤c→c≤9223372036854775807→Below W1.heap.size W1 w2→
   Calls Tryz.prog 137 #[.slice (some ⟨gA,0,none⟩) L.length c,.func (.func 160) #[] #[.pointer (some ⟨g0,0,none⟩),.pointer (some ⟨g0+1,0,none⟩)]] w2 fun e w' =>∃m,e= .returned (.slice (some ⟨gA,0,none⟩) m c)∧m=(L.filter fun x => !DS d.s.g g x).length∧m≤L.length∧Bp w' B gA m (fun i =>(L.filter fun x => !DS d.s.g g x)[i]?)∧Below B w2 w':=fun w2 L gA c B hlv hB hrw hlc hcm b2 => by
  have hLl:L.length≤1000000:=Nat.le_trans (hlv.len) (Nat.le_trans (DI d) hR.sm);refine IX (DS d.s.g g) _ _ c L w2 (enters_of Tryz.func160 (by kernel_rfl) rfl) hrw rfl hlc hcm hLl (fun W cs fk x hW hx hxL => ?_);have hbW:Below W1.heap.size W1 W:=b2.trans (hW.mono hB);exact Hq x cs fk p g0 (g0+1) fs d g W hx (hR.nm _ (EF ((hlv.mem x).1 hxL)).1) (HA.out W (hB1.trans (hbW.mono (by rw[← hg0];exact hB1.size)))) hR.ok ((hbW.cell (p:=⟨g0,0,none⟩) K2.lt).trans c2) ((hbW.cell (p:=⟨g0+1,0,none⟩) K3.lt).trans ((K3.cell 0).trans rfl))
 have HDEL:=hid hdel;clear hdel;clear hB1 K2 K3 K4 h hR;go_enter Tryz.func100,Tryz.ntmps100
 go_wp2_with (go_at_call 75;refine HN.out.mono ?_;rintro e w2 ⟨L,gA,c,B,rfl,hlv,hB,hrw,hlc,hcm,b2⟩;have HLV:=hid hlv;have HBB:=hid hB;have HRW:=hid hrw;have B2:=hid b2;have HLC:=hid hlc;have HCM:=hid hcm;have HDL:=hid (HDEL.out w2 L gA c B hlv hB hrw hlc hcm b2);clear hlv hB hrw hlc hcm b2)
 refine HDL.out.mono ?_;rintro e w3 ⟨m,rfl,hm,hml,hrw3,b3⟩;obtain⟨F,hF⟩:∃F,(L.filter fun x => !DS d.s.g g x)=F:=⟨_,rfl⟩;rw[hF]at hm hrw3;have HF:=hid hF;have HM:=hid hm;have HML:=hid hml;have hLl:L.length≤1000000:=Nat.le_trans HLV.out.len (Nat.le_trans (DI d) HR.out.sm);have HLL:=hid hLl;have B3:=hid (show Below W1.heap.size W1 w3 from B2.out.trans (b3.mono HBB.out));have HSR:=hid (G7 161 (enters_of Tryz.func161 (by kernel_rfl) rfl) cfS ltS_swo Kt (fun _ _ => False) (fun _ _ _ _ _ _ h => h.elim) c hrw3 hm (by omega));clear hm hml hrw3 b3 hF hLl HDL HRW B2;go_wp2_with (go_at_call 129;refine HSR.out.mono ?_;rintro e w4 ⟨rfl,M,hpm,-,rw4,b4⟩;have HPM:=hid hpm;have RW4:=hid rw4;have B4:=hid (show Below W1.heap.size W1 w4 from B3.out.trans (b4.mono HBB.out));have HBW4:=hid (show Below g0 w w4 from HB1.out.trans (B4.out.mono (by rw[← HG.out];exact HB1.out.size)));have c2':=(B4.out.cell (p:=⟨g0,0,none⟩) HK2.out.lt).trans c2;have c3':=(B4.out.cell (p:=⟨g0+1,0,none⟩) HK3.out.lt).trans ((HK3.out.cell 0).trans rfl);have HFR:=hid (KI p fs d g w4 (HA.out w4 HBW4.out) HR.out.ok HR.out.sm HR.out.nm HR.out.r1 HR.out.r2);clear hpm rw4 b4)
 refine HFR.out.mono ?_;rintro e w5 ⟨L2,A5,c5,hl2,rfl,b5⟩;obtain rfl:=hl2.uniq HLV.out;obtain⟨nf,hnf⟩:∃nf,(DD d.s.rows.toNat (Da d.s.g g L2 ++ C9 g (AW d))).length =nf:=⟨_,rfl⟩;rw[hnf];have HNX:=hid (show Fu d g L2=M.any fun x => decide (Bz d.s.sh x.length≤(nf:Int))from by
  unfold Fu;rw[hnf];exact next_end (by rw[show(L2.filter fun x => !DS d.s.sh.g g x)=F from HF.out];exact HPM.out))
 have B5:=hid (show Below W1.heap.size W1 w5 from B4.out.trans (b5.mono B4.out.size));have hmm:m=M.length:=by rw[HM.out,HPM.out.length_eq]
 have hlc:=HLC.out;have hml:=HML.out;subst hmm;obtain⟨fr,hrd⟩:=(RW4.out.below b5).reads (Nat.le_refl _) (by omega:M.length≤c) HCM.out (fun i hi => List.getElem?_eq_getElem hi);have HMX:=hid (show∀x,x∈M→x∈AW d∧x.kind=1∧x.length≠ -1 from fun x hx => by
  have h1:=HPM.out.mem_iff.1 hx;rw[← HF.out]at h1;exact EF ((HLV.out.mem x).1 (List.mem_filter.1 h1).1))
 have HRD:=hid hrd;have HQS:=hid (fun(W:World) => Ee A5 nf c5 W);clear hl2 b5 hnf hrd HFR HSR RW4 HM HPM HF c2' c3' hlc HDEL HN;go_wp2_with (go_at_call 85;refine(HQS.out _).mono ?_;rintro e w6 ⟨rfl,rfl⟩)
 obtain⟨A',c',ev,hc,hm,hx⟩:=rSl.at_ Ac.fixed (by omega) HRD.out;injection ev with ev1 ev2 ev3
 subst ev1 ev3;have HX:=hid hx;have HK5:=hid (HK4.out.below B5.out HK4.out.lt);have HC2:=hid ((B5.out.cell (p:=⟨g0,0,none⟩) HK2.out.lt).trans c2);have hz2:g0<w5.heap.size:=Nat.lt_of_lt_of_le HK2.out.lt B5.out.size;have HBW5:=hid (show Below g0 w w5 from HB1.out.trans (B5.out.mono (by rw[← HG.out];exact HB1.out.size)));have HKS:=hid (show∀W,Below g0 w W→Sem.run Tryz.prog (loadCellsFrom ⟨p,0,none⟩ 0 ks #[]) W= .ok #[int i64 d.s.g,int i64 d.s.c,int i64 d.s.data,int i64 d.s.p,int i64 d.s.rows,int i64 d.s.cap,int i64 d.s.b,int i64 d.s.q,int i64 d.s.t] W from fun W hW => by
  obtain⟨A0',A1',A2',c0',c1',c2',f0',f1',f2',HC⟩:=(HA.out W hW).cells;exact HC.shapeRunQ ks hks)
 have hp:p<g0:=by
  have:=(HA.out w (Below.refl _ _)).cells;obtain⟨_,_,_,_,_,_,_,_,_,HC⟩:=this;have:=HC.lt;rw[HG.out]at this;exact this
 have hMl:M.length≤1000000:=Nat.le_trans hml HLL.out;have hks0:¬ks=0:=by omega
 have hks1:0<ks:=by omega
 clear hx c2 hm HB1 HK3 hks ev2 B3 B4 HBW4 hW1 hg0 hZ;go_loopw [24] (fun ix wx =>∃i:Nat,i≤M.length∧ix= int i64 i∧Hid (∀x,x∈M.take i→decide (Bz d.s.sh x.length≤(nf:Int))=false)∧Hid (Below w5.heap.size w5 wx)) (fun ix _ => M.length - (intOf ix).toNat)
 case atStart => exact⟨0,by omega,rfl,(show∀x,x∈M.take 0→_ from fun x hx => by cases hx),Below.refl _ _⟩
 case round =>
  obtain⟨i,hi,rfl,HNO,HB⟩:=hrel;have hbz:=HB.out.size;by_cases hlt:i<M.length
  ·obtain⟨ad,b3,o3,cs3,f3,hae,hat0⟩:=HX.out i hlt;injection hae with hae
   subst hae;have hat:=hat0.below Ac.local_ HB.out;have hpl3:=hat.place;rw[BG]at hpl3;injection hpl3 with e1 e2
   subst e1 e2;have hbl3:gA<wr.heap.size:=hat.lt;have hlen:cs3.length=9:=hat.len;have HRG:=hid (show wr.rangeAt gA (i * 9) cs3 from fun q v hq => by
    have hq1:q<cs3.length:=(List.getElem?_eq_some_iff.1 hq).1;rw[hat.cell q hq1,← hq];exact(List.getElem?_eq_getElem hq1).symm)
   have HI:=hid (show(Tryz.prog.info? 76).map (·.size)=some cs3.length by rw[hlen];kernel_rfl);have HI2:=hid (show(Tryz.prog.info? 76).map (·.size)=some cs3.toArray.size by rw[List.size_toArray,hlen];kernel_rfl);have HON:=hid (all_oneCell_toArray (Ac.ones _ _ _ _ hat.reads));obtain⟨Z,hZ⟩:∃Z:Array Value,#[int i64 0,int i64 0,.string ⟨#[]⟩,int i64 0,int i64 0,int i64 0,.slice none 0 0,.slice none 0 0,.slice none 0 0] =Z:=⟨_,rfl⟩;have hZs:Z.size=9:=by rw[← hZ];rfl
   have KZ:=Blk.new wr 76 Z;have HTH:=hid (Blk.there KZ cs3.toArray.size (by rw[List.size_toArray,hlen,hZs];exact Nat.le_refl _));obtain⟨W2,hW2⟩:∃W2,(wr.alloc (.cells Z 76)).setCells wr.heap.size 0 cs3.toArray.toList=W2:=⟨_,rfl⟩;have k2:Blk W2 wr.heap.size 76 cs3.toArray:=by rw[← hW2];exact Blk.laid KZ _ (by rw[hZs];exact hlen.symm)
   have b22:Below wr.heap.size wr W2:=by rw[← hW2];exact AF (Aa (Below.refl _ _) _) _ 0 (Nat.le_refl _)
   have HW2:=hid hW2;have hgb:=k2.lt;have HRX:=hid (show Ac W2 f3 cs3 M[i]from Aw.below Ac.local_ Ac.fixed hat.reads b22);have hrds:=hat.reads;obtain⟨x,hxe⟩:∃x,M[i] =x:=⟨_,rfl⟩;have hxm:=HMX.out _ (List.getElem_mem hlt);rw[hxe]at hrds HRX hxm;have HSZ:=hid (HR.out.sz x hxm.1 hxm.2.1);have hpt:=FD.2 (HR.out.pt x hxm.1 hxm.2.1 hxm.2.2);have HST:=hid (show∀z,z∈M.take (i+1)→z∈M.take i∨z=x from fun z hz => by
    rw[List.take_succ_eq_append_getElem hlt,hxe]at hz;simpa using hz)
   have HXM:=hid (show x∈M by rw[← hxe];exact List.getElem_mem hlt);dsimp only[Ac]at hrds;obtain⟨v0,v1,v2,q0,q1,q2,e,-,-,-,-,okl,-⟩:=hrds;have y3:W2.cell? ⟨wr.heap.size,3,none⟩=some (int i64 x.length):=by rw[k2.cell,e];rfl
   have y3r:=cell_regrown y3;have HB2:=hid (show Below w5.heap.size w5 W2 from HB.out.trans (b22.mono hbz));have c2r:=cell_regrown ((HB2.out.cell (p:=⟨g0,0,none⟩) hz2).trans HC2.out);have hki:(i:Int)<(M.length:Int):=by omega
   have lS:∀dd os,Sem.run Tryz.prog (loadCellsFrom ⟨p,0,none⟩ 0 ks #[]) (grow (redrawn W2 dd) os)= .ok #[int i64 d.s.g,int i64 d.s.c,int i64 d.s.data,int i64 d.s.p,int i64 d.s.rows,int i64 d.s.cap,int i64 d.s.b,int i64 d.s.q,int i64 d.s.t] (grow (redrawn W2 dd) os):=fun dd os => HKS.out _ (HBW5.out.trans ((HB2.out.trans ((below_regrown W2 dd os).mono (by have:=HB2.out.size;omega))).mono (Nat.le_of_lt hz2)))
   obtain⟨pn,hpn⟩:∃pn,Bz d.s.sh x.length=pn:=⟨_,rfl⟩;have hpp:=fun W => Ht d.s.sh HR.out.ok x.length okl W
   simp only[hpt,if_true,hpn]at hpp;unfold shV at hpp;simp only[BO.sh]at hpp;have QP:=hid (Bi (w:=W2) (fun W _ => hpp W));have HPN:=hid hpn;have HKR:=hid k2;clear hat hat0 hW2 KZ hlen hZs k2 e b22 hxe hpp hpn hpt hxm okl HB;by_cases qn:pn≤(nf:Int)
   ·have HYES:=hid (show Fu d g L2=true by
     rw[HNX.out,List.any_eq_true];exact⟨x,HXM.out,by rw[HPN.out];exact decide_eq_true qn⟩)
    go_wp2_with (first
    |(refine wpList_load_mid rfl 76 (.tmp 26) rfl gA (i * 9) rfl cs3 _ HRG.out Tryz.underlying76 rfl HI.out ?_)
    |(refine wpList_store_mid rfl 76 (.tmp 9) (.tmp 27) rfl wr.heap.size 0 cs3.toArray rfl rfl HTH.out HI2.out HON.out ?_;rw[HW2.out]))
    (refine wp_region_quiet_below (by kernel_rfl) (by kernel_rfl) ?_;(repeat(first|go_big_quiet_step (first|(go_at_call 69;exact QP.out _ _))|quiet_step (first|(go_at_call 69;exact QP.out _ _))));refine wpQuiet_nil ?_)
    rintro _ ⟨⟨dq,osq⟩,rfl⟩;have b23:Below W2.heap.size W2 (grow (redrawn W2 dq) osq):=below_regrown W2 dq osq;obtain⟨W3,hW3⟩:∃W3,grow (redrawn W2 dq) osq=W3:=⟨_,rfl⟩;simp only[hW3]at b23⊢;have HR3:=hid (Blk.rangeAll (HKR.out.below b23 hgb));have HB3:=hid (show Below w5.heap.size w5 W3 from HB2.out.trans (b23.mono HB2.out.size));have HCL:=hid (Ks x cs3 f3 W3 (Aw.below Ac.local_ Ac.fixed HRX.out b23) HSZ.out.1 HSZ.out.2.1 HSZ.out.2.2);clear y3 y3r c2r lS QP b23 hW3 HRX HKR HB2;go_wp2_with (first
     |(refine wpList_load_mid rfl 76 (.tmp 9) rfl wr.heap.size 0 rfl cs3 _ HR3.out Tryz.underlying76 rfl HI.out ?_)
     |(go_at_call 136;refine HCL.out.mono ?_;rintro e w7 ⟨cs',rfl,hl',ho',b7⟩;obtain⟨W8,hW8⟩:∃W8,w7.setCells (g0+1+1) 0 cs'.toArray.toList=W8:=⟨_,rfl⟩;have HW8:=hid hW8;have HL':=hid hl';have HO':=hid ho';have HB7:=hid (show Below w5.heap.size w5 w7 from HB3.out.trans (b7.mono HB3.out.size));have HK7:=hid (HK5.out.below HB7.out HK5.out.lt);have HTH7:=hid (Blk.there HK7.out cs'.toArray.size (by rw[List.size_toArray,HL'.out,← HZ.out];exact Nat.le_refl _));have HI7:=hid (show(Tryz.prog.info? 76).map (·.size)=some cs'.toArray.size by rw[List.size_toArray,HL'.out];kernel_rfl);have HON7:=hid (all_oneCell_toArray HO'.out);clear hW8 hl' ho' b7)
     |(refine wpList_store_mid rfl 76 (.tmp 4) (.tmp 42) rfl (g0+1+1) 0 cs'.toArray rfl rfl HTH7.out HI7.out HON7.out ?_;rw[HW8.out]))
    have HK8:=hid (show Blk W8 (g0+1+1) 76 cs'.toArray by rw[← HW8.out];exact HK7.out.laid _ (by rw[← HZ.out];show 9=_;simp[HL'.out]));have HB8:=hid (show Below g0 w W8 by rw[← HW8.out];exact AF (HBW5.out.trans (HB7.out.mono (Nat.le_of_lt hz2))) _ 0 (by omega));refine⟨rfl,_,Gl (g:=g0+1+1) (v2:=.bool true) rfl _ _ _ _ _ rfl HK8.out Tryz.underlying76 rfl HI7.out rfl,⟨L2,cs',HLV.out,by rw[HYES.out],HL'.out,HO'.out,by rw[HG.out];exact HB8.out⟩⟩
   ·have HNO2:=hid (show∀z,z∈M.take (i+1)→decide (Bz d.s.sh z.length≤(nf:Int))=false from fun z hz => by
     rcases HST.out z hz with q|q
     ·exact HNO.out z q
     ·rw[q,HPN.out];exact decide_eq_false qn)
    go_wp2_with (first
    |(refine wpList_load_mid rfl 76 (.tmp 26) rfl gA (i * 9) rfl cs3 _ HRG.out Tryz.underlying76 rfl HI.out ?_)
    |(refine wpList_store_mid rfl 76 (.tmp 9) (.tmp 27) rfl wr.heap.size 0 cs3.toArray rfl rfl HTH.out HI2.out HON.out ?_;rw[HW2.out]))
    (refine wp_region_quiet_below (by kernel_rfl) (by kernel_rfl) ?_;(repeat(first|go_big_quiet_step (first|(go_at_call 69;exact QP.out _ _))|quiet_step (first|(go_at_call 69;exact QP.out _ _))));refine wpQuiet_nil ?_)
    rintro _ ⟨⟨dq,osq⟩,rfl⟩;have b23:Below W2.heap.size W2 (grow (redrawn W2 dq) osq):=below_regrown W2 dq osq;obtain⟨W3,hW3⟩:∃W3,grow (redrawn W2 dq) osq=W3:=⟨_,rfl⟩;simp only[hW3]at b23⊢;have HB3:=hid (show Below w5.heap.size w5 W3 from HB2.out.trans (b23.mono HB2.out.size));clear y3 y3r c2r lS QP b23 hW3 HRX HKR HB2;go_wp2_with fail
    go_roundw
    case rel => exact⟨i+1,by omega,by go_num,HNO2.out,HB3.out⟩
    case measure => simp[intOf];omega
  ·obtain rfl:i=M.length:=by omega
   have HNOT:=hid (show Fu d g L2=false by
    rw[HNX.out,List.any_eq_false];intro x hx;have:=HNO.out x (by rw[List.take_length];exact hx);rw[this];exact Bool.false_ne_true)
   obtain⟨W8,hW8⟩:∃W8,wr.setCells (g0+1+1) 0 (#[int i64 0,int i64 0,.string ⟨#[]⟩,int i64 0,int i64 0,int i64 0,.slice none 0 0,.slice none 0 0,.slice none 0 0]:Array Value).toList =W8:=⟨_,rfl⟩;have HW8:=hid hW8;have hK7:=HK5.out.below HB.out HK5.out.lt;have hks9:(Tryz.prog.info? 76).map (·.size)=some 9:=by kernel_rfl
   have HK8:=hid (show Blk W8 (g0+1+1) 76 #[int i64 0,int i64 0,.string ⟨#[]⟩,int i64 0,int i64 0,int i64 0,.slice none 0 0,.slice none 0 0,.slice none 0 0] by rw[← hW8];exact hK7.laid _ (by rw[← HZ.out];rfl));have HTH:=hid (Blk.there hK7 9 (by rw[← HZ.out];exact Nat.le_refl _));have HB8:=hid (show Below g0 w W8 by rw[← hW8];exact AF (HBW5.out.trans (HB.out.mono (Nat.le_of_lt hz2))) _ 0 (by omega));have hv:=Tryz.zeroValue76;clear hW8 hK7;go_wp2_with (first
    |(refine wpList_store_mid rfl 76 (.tmp 4) (.tmp 44) rfl (g0+1+1) 0 #[int i64 0,int i64 0,.string ⟨#[]⟩,int i64 0,int i64 0,int i64 0,.slice none 0 0,.slice none 0 0,.slice none 0 0] rfl rfl HTH.out (by rw[hks9];rfl) (by simp[Value.oneCell']) ?_;rw[HW8.out]))
   refine⟨rfl,_,Gl (g:=g0+1+1) (v2:=.bool false) rfl _ _ _ _ _ rfl HK8.out Tryz.underlying76 rfl (by rw[hks9];rfl) rfl,⟨L2,HLV.out,[int i64 0,int i64 0,.string ⟨#[]⟩,int i64 0,int i64 0,int i64 0,.slice none 0 0,.slice none 0 0,.slice none 0 0],by rw[HNOT.out],rfl,by simp[Value.oneCell'],by rw[HG.out];exact HB8.out⟩⟩
theorem Io(p:Nat)(fs:List Addr)(d:Au)(g:Int)(w:World)(h:AtW w p fs d)(hR:IE d) :
  Calls Tryz.prog 100 #[.pointer (some ⟨p,0,none⟩),int i64 g] w fun e w' =>∃(L:List Ag) (cs':List Value),Cw (AW d) L∧e= .returned (.tuple #[.agg cs'.toArray,.bool (Fu d g L)])∧cs'.length=9∧(∀u,u∈cs'→u.oneCell'=true)∧Below w.heap.size w w' :=
 Ip 9 rfl Tryz.sizeOf25 Tryz.isAgg25 p fs d g w h hR
theorem Cf.recs {d:Au}(h:Cf d):IE d:=by
 have e:=Dl h.rc;refine⟨h.ok,by rw[h.rc];simp,?_,?_,?_,?_,?_⟩ <;>(rw[e];intro r hr;cases hr)
theorem I9 {L:List Ag}(h:Cw [] L):L= []:=by
 cases L with
 |nil => rfl
 |cons x L => exact absurd (EF ((h.mem x).1 (List.mem_cons_self ..))).1 (by simp)
theorem L7(p:Nat)(fs:List Addr)(d:Au)(g:Nat)(w:World)(h:AtW w p fs d)(hI:Cf d)(hg:g<d.g.length) :
  Calls Tryz.prog 47 #[.pointer (some ⟨p,0,none⟩),int i64 (g:Int)] w fun e w' => e= .returned (int i64 0)∧Below w.heap.size w w':=by
 obtain⟨A0,A1,A2,c0,c1,c2,f0,f1,f2,HC⟩:=h.cells;have lp:=HC.lt;have HSH:=hid HC.s;have HID:=hid (fun(W:World) => Fs d.s.sh hI.ok (g:Int) W);have HD:=hid (fun(W:World) (hW:Below w.heap.size w W) => Fr p fs d g W (h.below hW) hg (hI.dn g hg));have HU:=hid (fun(W:World) (hW:Below w.heap.size w W) => undone_c p fs d (g:Int) W (h.below hW) hI.ok (by omega) (by rw[hI.rc];simp));rw[hI.nd g hg]at HD;rw[Dl hI.rc,und_nil]at HU;unfold shV at HID;rw[show d.s.sh.g=d.s.g from rfl,show d.s.sh.c=d.s.c from rfl,show d.s.sh.data=d.s.data from rfl,show d.s.sh.p=d.s.p from rfl,show d.s.sh.rows=d.s.rows from rfl,show d.s.sh.cap=d.s.cap from rfl,show d.s.sh.b=d.s.b from rfl,show d.s.sh.q=d.s.q from rfl,show d.s.sh.t=d.s.t from rfl]at HID;obtain⟨bi,hbi⟩:∃bi,Al (g:Int) 0 (d.s.g - 1)=bi:=⟨_,rfl⟩;rw[hbi]at HID;clear h hI HC hbi;cases bi with
 |false =>
  clear HD;go_enter Tryz.func47,Tryz.ntmps47
  go_wp2_with (first
   |(refine wpList_load_mid rfl 25 (.tmp 11) rfl p 0 rfl _ _ HSH.out Tryz.underlying25 rfl (by kernel_rfl) ?_)
   |(go_at_call 51;refine(HID.out _).mono ?_;rintro e w1 ⟨rfl,b1⟩;have B1:=hid b1;clear b1)
   |(go_at_call 89;refine(HU.out _ B1.out).mono ?_;rintro e w2 ⟨A5,c5,f5,rfl,r5,b2⟩;have hcm:=rSl.head r5;have B2:=hid (B1.out.trans (b2.mono B1.out.size));clear b2 r5)
   |(go_at_call 82;refine(Dv _ _ (by obtain⟨_,_,e,h1,h2⟩:=hcm;injection e with _ _ e3;rw[e3];exact h2) _).mono ?_;rintro e w3 ⟨A6,c6,rfl,-,b3⟩;have B3:=hid (B2.out.trans (b3.mono B2.out.size));clear b3))
  go_loop [25] (fun i => i= int i64 0) (fun _ => 0)
  case atStart => exact rfl
  case round =>
   subst hrel;go_wp2_with fail
   go_ret
   exact⟨rfl,B3.out⟩
 |true =>
  go_enter Tryz.func47,Tryz.ntmps47
  go_wp2_with (first
   |(refine wpList_load_mid rfl 25 (.tmp 11) rfl p 0 rfl _ _ HSH.out Tryz.underlying25 rfl (by kernel_rfl) ?_)
   |(go_at_call 51;refine(HID.out _).mono ?_;rintro e w1 ⟨rfl,b1⟩;have B1:=hid b1;clear b1)
   |(go_at_call 88;refine(HD.out _ B1.out).mono ?_;rintro e w5 ⟨rfl,b5⟩;have B5:=hid (B1.out.trans (b5.mono B1.out.size));clear b5)
   |(go_at_call 89;refine(HU.out _ B5.out).mono ?_;rintro e w2 ⟨A5,c5,f5,rfl,r5,b2⟩;have hcm:=rSl.head r5;have B2:=hid (B5.out.trans (b2.mono B5.out.size));clear b2 r5)
   |(go_at_call 82;refine(Dv _ _ (by obtain⟨_,_,e,h1,h2⟩:=hcm;injection e with _ _ e3;rw[e3];exact h2) _).mono ?_;rintro e w3 ⟨A6,c6,rfl,-,b3⟩;have B3:=hid (B2.out.trans (b3.mono B2.out.size));clear b3))
  go_loop [25] (fun i => i= int i64 0) (fun _ => 0)
  case atStart => exact rfl
  case round =>
   subst hrel;go_wp2_with fail
   go_ret
   exact⟨rfl,B3.out⟩
theorem IY(p:Nat)(fs:List Addr)(d:Au)(g:Nat)(w:World)(h:AtW w p fs d)(hI:Cf d)(hg:g<d.g.length) :
  Calls Tryz.prog 53 #[.pointer (some ⟨p,0,none⟩),int i64 (g:Int)] w fun e w' => e= .returned (int i64 4)∧Below w.heap.size w w':=by
 have HD:=hid (Fr p fs d g w h hg (hI.dn g hg));rw[hI.nd g hg]at HD;have HN:=hid (fun(W:World) (hW:Below w.heap.size w W) => Io p fs d (g:Int) W (h.below hW) hI.recs);rw[Dl hI.rc]at HN;clear h hI;go_enter Tryz.func53,Tryz.ntmps53
 go_wp2_with fail
 refine HD.out.mono ?_;rintro e w1 ⟨rfl,b1⟩;have B1:=hid b1;clear b1;go_wp2_with fail
 refine(HN.out _ B1.out).mono ?_;rintro e w2 ⟨L,cs,hL,rfl,hl,ho,b2⟩;obtain rfl:=I9 hL;rw[show Fu d (g:Int) [] =false from rfl];have B2:=hid (B1.out.trans (b2.mono B1.out.size));obtain⟨Z2,hZ2⟩:∃Z2:Array Value,#[int i64 0,int i64 0,.string ⟨#[]⟩,int i64 0,int i64 0,int i64 0,.slice none 0 0,.slice none 0 0,.slice none 0 0] =Z2:=⟨_,rfl⟩;have HTH:=hid (Blk.there (Blk.new w2 76 Z2) cs.toArray.size (by rw[List.size_toArray,hl,← hZ2];exact Nat.le_refl _));have HI2:=hid (show(Tryz.prog.info? 76).map (·.size)=some cs.toArray.size by rw[List.size_toArray,hl];kernel_rfl);have HON:=hid (all_oneCell_toArray ho);have HB3:=hid (show Below w.heap.size w ((w2.alloc (.cells Z2 76)).setCells w2.heap.size 0 cs.toArray.toList)from AF (B2.out.alloc B2.out.size _) _ 0 B2.out.size);clear b2 hL hl ho;go_wp2_with (refine wpList_store_mid rfl 76 (.tmp 5) (.tmp 21) rfl w2.heap.size 0 cs.toArray rfl rfl HTH.out HI2.out HON.out ?_)
 go_ret
 exact⟨rfl,HB3.out⟩
theorem J4(p:Nat)(fs:List Addr)(d:Au)(w:World)(h:AtW w p fs d)(hI:Cf d) :
  Calls Tryz.prog 109 #[.pointer (some ⟨p,0,none⟩)] w fun e w' =>(∃A c,e= .returned (.slice A 0 c)∧c≤9223372036854775807)∧Below w.heap.size w w':=by
 have HCT:=hid (CK p fs d w h (by rw[hI.rc];simp));rw[Dl hI.rc]at HCT;have hmk:∀w0:World,(Instr.makeSlice 189 (int i64 0) (int i64 0)).run Tryz.prog w0= .ok (.slice (some ⟨w0.heap.size,0,none⟩) 0 0) (w0.alloc (.cells #[] 4)):=fun w0 => by kernel_rfl
 clear h hI;go_enter Tryz.func109,Tryz.ntmps109
 go_wp2_with fail
 refine HCT.out.mono ?_;rintro e w1 ⟨A,c,f1,rfl,-,-,b1⟩;have B1:=hid b1;clear b1;go_wp2_with fail
 go_loop [20] (fun i => i= int i64 0) (fun _ => 0)
 case atStart => exact rfl
 case round =>
  subst hrel;go_wp2_with fail
  go_loop [33,4] (fun i v => i= int i64 0∧v= .slice (some ⟨w1.heap.size,0,none⟩) 0 0) (fun _ _ => 0)
  case atStart => exact⟨rfl,rfl⟩
  case round =>
   obtain⟨rfl,rfl⟩:=hrel;go_wp2_with fail
   go_ret
   exact⟨⟨_,0,rfl,Nat.zero_le _⟩,Aa (Aa B1.out _) _⟩
theorem FN(p:Nat)(fs:List Addr)(d:Au)(w:World)(h:AtW w p fs d)(hI:Cf d) :
  Calls Tryz.prog 56 #[.pointer (some ⟨p,0,none⟩)] w fun e w' => e= .returned (int i64 0)∧Below w.heap.size w w':=by
 have HO:=hid (J4 p fs d w h hI);clear h hI;go_enter Tryz.func56,Tryz.ntmps56
 go_wp2_with fail
 refine HO.out.mono ?_;rintro e w1 ⟨⟨A,c,rfl,hc⟩,b1⟩;have B1:=hid b1;have HCC:=hid hc;clear b1 hc;go_wp2_with fail
 refine(Dv A c HCC.out _).mono ?_;rintro e w2 ⟨A2,c2,rfl,-,b2⟩;have B2:=hid (B1.out.trans (b2.mono B1.out.size));clear b2;go_wp2_with fail
 go_loop [12] (fun i => i= int i64 0) (fun _ => 0)
 case atStart => exact rfl
 case round =>
  subst hrel;go_wp2_with fail
  go_ret
  exact⟨rfl,B2.out⟩
theorem serve_n(p:Nat)(fs:List Addr)(d:Ao)(G g:Nat)(w:World)(h:AtW w p fs d.world)(hD:∃A0 A1 A2 k0 k1 k2 g0 g1 g2,Do w p 15 d.desk A0 A1 A2 k0 k1 k2 g0 g1 g2)(hI:Cf d.world)(hE:Cv d.desk G)(hg:g<G) :
  Calls Tryz.prog 55 #[.pointer (some ⟨p,0,none⟩),int i64 (g:Int)] w fun e w' => e= .returned (int i64 0)∧Below w.heap.size w w':=by
 obtain⟨A0,A1,A2,k0,k1,k2,q0,q1,q2,HD⟩:=hD;obtain⟨_,_,_,_,_,_,_,_,_,HC⟩:=h.cells;have lp:=HC.lt;have HN6:=hid (show∀W,Below w.heap.size w W→W.cell? ⟨p,6,none⟩=some (int i64 d.world.s.b)from fun W hW =>(hW.cell (p:=⟨p,6,none⟩) lp).trans HC.n6);have hb:=hI.ok.b;simp only[BO.sh]at hb;obtain⟨bt,hbt⟩:∃bt:Nat,d.world.s.b=(bt:Int):=⟨d.world.s.b.toNat,by omega⟩;rw[hbt]at HN6 hb;have hq:=hE.qs;have r0:=HD.r0;have k0':=HD.k0;have k1':=HD.k1;rw[hE.qs]at r0 k0';rw[hE.asd]at k1';simp only[List.length_replicate,List.length_nil]at r0 k0' k1';obtain⟨A0',c0',e0,hc0,hm0,hx⟩:=rSl.at_ (Am.fixed Ah.fixed) (by omega) r0;simp only[List.length_replicate]at e0;injection e0 with e1 _ e3
 subst e1 e3;obtain⟨ad,b3,o3,cs3,f3,rfl,hat⟩:=hx g (by rw[List.length_replicate];exact hg);have hrd:=hat.reads;rw[List.getElem_replicate]at hrd;obtain⟨v3,e3,rd3⟩:=hrd;obtain⟨A4,c4,rfl,-,hm4⟩:=rSl.head rd3;simp only[List.length_nil]at hm4 rd3 e3;have l3:cs3.length=1:=hat.len;have t0:w.cell? ⟨b3,o3,none⟩=some (.slice A4 0 c4):=by have:=hat.cell 0 (by omega);simp only[e3]at this;exact this
 have hpl:ad.add g=⟨b3,o3,none⟩:=by have:=hat.place;rwa [Nat.mul_one]at this
 have hbl:=hat.lt;have HCL:=hid (Fo A4 c4 w);have HAS:=hid (show∀W,Below w.heap.size w W→W.cell? ⟨p,16,none⟩=some (.slice A1 0 k1)from fun W hW =>(hW.cell (p:=⟨p,16,none⟩) lp).trans k1');clear h HD hI hE HC r0 hx hat rd3 e3 l3 hq hbt hm0 hc0;go_enter Tryz.func55,Tryz.ntmps55
 go_wp2_with fail
 refine HCL.out.mono ?_;rintro e w1 ⟨A5,rfl,b1⟩;have B1:=hid b1;have c6:=HN6.out w1 b1;have c16:=HAS.out w1 b1;have lp1:p<w1.heap.size:=Nat.lt_of_lt_of_le lp b1.size;clear b1;go_wp2_with fail
 go_quiet ((go_at_call 65;exact Calls.quiet_of_same ((Hw _ _ _ _).mono fun _ _ ⟨a,b⟩ =>⟨a,b.symm⟩)))
 go_wp2_with fail
 rw[show(min (0:Int) (bt:Int)).toNat =0 from by omega];go_loop [38,5] (fun i v => i= int i64 0∧v= .slice A5 0 0) (fun _ _ => 0)
 case atStart => exact⟨rfl,rfl⟩
 case round =>
  obtain⟨rfl,rfl⟩:=hrel;go_wp2_with fail
  go_loop [53] (fun i => i= int i64 0) (fun _ => 0)
  case atStart => exact rfl
  case round =>
   subst hrel;go_wp2_with fail
   go_ret
   exact⟨rfl,Be B1.out _⟩
def Bg(d:Ao)(v0 v1 v2 u0 u1 u2:Value):List Value:=Bk d.world v0 v1 v2 ++ BH d.desk u0 u1 u2
structure AJ (W:World) (p lo:Nat) (f0 f1 f2 f3 f4 f5:List Addr) (d:Ao) (v0 v1 v2 u0 u1 u2:Value):Prop where
 k:Blk W p 38 (Bg d v0 v1 v2 u0 u1 u2).toArray
 ok:okW d.world
 o1:okI d.desk.turn
 o2:okI d.desk.next
 r0:rSl 1 (Am 2 Av) W f0 v0 d.world.g
 r1:rSl 1 As W f1 v1 d.world.on
 r2:rSl 2 AK W f2 v2 d.world.v
 r3:rSl 1 (Am 4 Ah) W f3 u0 d.desk.queues
 r4:rSl 4 Ah W f4 u1 d.desk.aside
 r5:rSl 4 AA W f5 u2 d.desk.answers
 m:Ak lo W (f0 ++(f1 ++(f2 ++(f3 ++(f4 ++ f5)))))
 lp:lo≤p
 ne:∀a,a∈f0 ++(f1 ++(f2 ++(f3 ++(f4 ++ f5))))→a.block≠p
theorem AJ.atW {W:World} {p lo:Nat} {f0 f1 f2 f3 f4 f5:List Addr} {d:Ao} {v0 v1 v2 u0 u1 u2:Value}(h:AJ W p lo f0 f1 f2 f3 f4 f5 d v0 v1 v2 u0 u1 u2):AtW W p (f0 ++(f1 ++ f2)) d.world:=by
 refine⟨Bk d.world v0 v1 v2,AD.of h.ok h.r0 h.r1 h.r2,fun q hq => ?_,h.k.lt⟩;rw[h.k.cell,List.getElem?_toArray,Bg,List.getElem?_append_left hq];exact List.getElem?_eq_getElem hq
theorem AJ.dk {W:World} {p lo:Nat} {f0 f1 f2 f3 f4 f5:List Addr} {d:Ao} {v0 v1 v2 u0 u1 u2:Value}(h:AJ W p lo f0 f1 f2 f3 f4 f5 d v0 v1 v2 u0 u1 u2):∃A0 A1 A2 k0 k1 k2 g0 g1 g2,Do W p 15 d.desk A0 A1 A2 k0 k1 k2 g0 g1 g2:=by
 exact Do.ofArc (f2:=f3 ++(f4 ++ f5)) (c1:=Bk d.world v0 v1 v2) (c2:=BH d.desk u0 u1 u2) h.k rfl ⟨u0,u1,u2,f3,f4,f5,rfl,rfl,h.o1,h.o2,h.r3,h.r4,h.r5⟩
theorem AJ.reads {W:World} {p lo:Nat} {f0 f1 f2 f3 f4 f5:List Addr} {d:Ao} {v0 v1 v2 u0 u1 u2:Value}(h:AJ W p lo f0 f1 f2 f3 f4 f5 d v0 v1 v2 u0 u1 u2):Af W ((f0 ++(f1 ++ f2)) ++(f3 ++(f4 ++ f5))) (Bg d v0 v1 v2 u0 u1 u2) d :=
 Af.of (AD.of h.ok h.r0 h.r1 h.r2) ⟨u0,u1,u2,f3,f4,f5,rfl,rfl,h.o1,h.o2,h.r3,h.r4,h.r5⟩
theorem AJ.there {W:World} {p lo:Nat} {f0 f1 f2 f3 f4 f5:List Addr} {d:Ao} {v0 v1 v2 u0 u1 u2:Value}(h:AJ W p lo f0 f1 f2 f3 f4 f5 d v0 v1 v2 u0 u1 u2):CM (f0 ++(f1 ++(f2 ++(f3 ++(f4 ++ f5))))) W:=fun a ha => by
 have:=Af.fixed _ _ _ _ h.reads a;simp only[List.append_assoc]at this;exact this ha
theorem AJ.keep {W W':World} {p lo:Nat} {f0 f1 f2 f3 f4 f5:List Addr} {d:Ao} {v0 v1 v2 u0 u1 u2:Value}(h:AJ W p lo f0 f1 f2 f3 f4 f5 d v0 v1 v2 u0 u1 u2)(hk:Blk W' p 38 (Bg d v0 v1 v2 u0 u1 u2).toArray)(hs:AT (f0 ++(f1 ++(f2 ++(f3 ++(f4 ++ f5))))) W W')(hf:∀a,a∈f0 ++(f1 ++(f2 ++(f3 ++(f4 ++ f5))))→W'.frozen? a=W.frozen? a):AJ W' p lo f0 f1 f2 f3 f4 f5 d v0 v1 v2 u0 u1 u2 :=
 ⟨hk,h.ok,h.o1,h.o2,rSl.keep (Am.local_ Av.local_) h.r0 hs.left,rSl.keep As.local_ h.r1 hs.right.left,rSl.keep AK.local_ h.r2 hs.right.right.left,rSl.keep (Am.local_ Ah.local_) h.r3 hs.right.right.right.left,rSl.keep Ah.local_ h.r4 hs.right.right.right.right.left,rSl.keep AA.local_ h.r5 hs.right.right.right.right.right,h.m.keep hf,h.lp,h.ne⟩
theorem AJ.below {W W':World} {p lo:Nat} {f0 f1 f2 f3 f4 f5:List Addr} {d:Ao} {v0 v1 v2 u0 u1 u2:Value}(h:AJ W p lo f0 f1 f2 f3 f4 f5 d v0 v1 v2 u0 u1 u2)(hb:Below W.heap.size W W'):AJ W' p lo f0 f1 f2 f3 f4 f5 d v0 v1 v2 u0 u1 u2 :=
 h.keep (h.k.below hb h.k.lt) (AT.of_below h.there hb) (fun a ha => hb.frozen (h.there a ha))
theorem AJ.setTurn {W:World} {p lo:Nat} {f0 f1 f2 f3 f4 f5:List Addr} {d:Ao} {v0 v1 v2 u0 u1 u2:Value}(h:AJ W p lo f0 f1 f2 f3 f4 f5 d v0 v1 v2 u0 u1 u2)(t:Int)(ht:okI t):AJ (W.setCell ⟨p,18,none⟩ (int i64 t)) p lo f0 f1 f2 f3 f4 f5 ⟨d.world,{ d.desk with turn:=t }⟩ v0 v1 v2 u0 u1 u2:=by
 have hs:AT (f0 ++(f1 ++(f2 ++(f3 ++(f4 ++ f5))))) W (W.setCell ⟨p,18,none⟩ (int i64 t)):=fun a ha => World.cell?_setCell_other _ _ _ _ (fun e => h.ne a ha (by rw[← e]))
 exact⟨h.k.set_ 18 _,h.ok,ht,h.o2,rSl.keep (Am.local_ Av.local_) h.r0 hs.left,rSl.keep As.local_ h.r1 hs.right.left,rSl.keep AK.local_ h.r2 hs.right.right.left,rSl.keep (Am.local_ Ah.local_) h.r3 hs.right.right.right.left,rSl.keep Ah.local_ h.r4 hs.right.right.right.right.left,rSl.keep AA.local_ h.r5 hs.right.right.right.right.right,h.m.set_ _ _,h.lp,h.ne⟩
theorem AJ.setOn {W:World} {p lo:Nat} {f0 f1 f2 f3 f4 f5:List Addr} {d:Ao} {v0 v1 v2 u0 u1 u2:Value}(h:AJ W p lo f0 f1 f2 f3 f4 f5 d v0 v1 v2 u0 u1 u2)(on:List Int)(f1':List Addr)(v:Value)(hr:rSl 1 As W f1' v on)(hm:Ak lo W f1')(hn:∀a,a∈f1'→a.block≠p)(h0:∀a,a∈f0→a∉f1')(h2:∀a,a∈f2 ++(f3 ++(f4 ++ f5))→a∉f1'):AJ (W.setCell ⟨p,10,none⟩ v) p lo f0 f1' f2 f3 f4 f5 ⟨{ d.world with on:=on },d.desk⟩ v0 v v2 u0 u1 u2:=by
 have hs:AT (f0 ++(f1 ++(f2 ++(f3 ++(f4 ++ f5))))) W (W.setCell ⟨p,10,none⟩ v):=fun a ha => World.cell?_setCell_other _ _ _ _ (fun e => h.ne a ha (by rw[← e]))
 have hs1:AT f1' W (W.setCell ⟨p,10,none⟩ v):=fun a ha => World.cell?_setCell_other _ _ _ _ (fun e => hn a ha (by rw[← e]))
 refine⟨h.k.set_ 10 _,h.ok,h.o1,h.o2,rSl.keep (Am.local_ Av.local_) h.r0 hs.left,rSl.keep As.local_ hr hs1,rSl.keep AK.local_ h.r2 hs.right.right.left,rSl.keep (Am.local_ Ah.local_) h.r3 hs.right.right.right.left,rSl.keep Ah.local_ h.r4 hs.right.right.right.right.left,rSl.keep AA.local_ h.r5 hs.right.right.right.right.right,?_,h.lp,?_⟩
 ·refine Ak.set_ (Ak.cat2 h.m.left (Ak.cat2 hm h.m.right.right fun a ha hb => h2 a hb ha) fun a ha hb => ?_) _ _;rcases List.mem_append.1 hb with hb|hb
  ·exact h0 a ha hb
  ·exact h.m.apart a ha (List.mem_append_right _ hb)
 ·intro a ha;rcases List.mem_append.1 ha with ha|ha
  ·exact h.ne a (List.mem_append_left _ ha)
  ·rcases List.mem_append.1 ha with ha|ha
   ·exact hn a ha
   ·exact h.ne a (List.mem_append_right _ (List.mem_append_right _ ha))
end Go.Proofs.YthbljikbnoghcaaGreat
namespace Go.Proofs.YthbljikbnoghcaaGreat
open Go.RowKit
open Go.Lib (hid)
def Src(w:World)(b:Nat)(code:List UInt8)(fs:List Addr)(t:Nat):Prop :=
 ∃(A:Option Addr) (c:Nat) (at_:Nat),Blk w b 84 #[.slice A code.length c,int i64 at_]∧Ap w fs (.slice A code.length c) code∧(∀a,a∈fs→a.block≠b)∧at_≤t
theorem Src.lt {w:World} {b:Nat} {code:List UInt8} {fs:List Addr} {t:Nat}(h:Src w b code fs t):b<w.heap.size:=by
 obtain⟨_,_,_,h,_⟩:=h;exact h.lt
theorem Src.keep {w w':World} {b:Nat} {code:List UInt8} {fs:List Addr} {t:Nat}(h:Src w b code fs t)(hb:Below w.heap.size w w'):Src w' b code fs t:=by
 obtain⟨A,c,n,h1,h2,h3,h4⟩:=h;exact⟨A,c,n,h1.below hb h1.lt,Ap.below h2 hb,h3,h4⟩
theorem Src.mono {w:World} {b:Nat} {code:List UInt8} {fs:List Addr} {t t':Nat}(h:Src w b code fs t)(ht:t≤t'):Src w b code fs t':=by
 obtain⟨A,c,n,h1,h2,h3,h4⟩:=h;exact⟨A,c,n,h1,h2,h3,by omega⟩
structure Bd (b:Nat) (code:List UInt8) (fs:List Addr) (t:Nat) (w w':World):Prop where
 src:Src w' b code fs t
 grown:w.grownBy w' (some b)
theorem Bd.below {b:Nat} {code:List UInt8} {fs:List Addr} {t:Nat} {w w':World}(h:Bd b code fs t w w') {B:Nat}(hB:B≤b)(hw:B≤w.heap.size):Below B w w' :=
 (Below.refl B w).grown h.grown hw (fun k hk => by injection hk with hk;omega)
theorem Co {a b c:World} {row:Option Nat}(h:a.grownBy b row)(k:b.grownBy c row):a.grownBy c row :=
 ⟨k.os.trans h.os,k.tape.trans h.tape,k.output.trans h.output,Nat.le_trans h.size k.size,fun x hx hne =>(k.block x (Nat.lt_of_lt_of_le hx h.size) hne).trans (h.block x hx hne)⟩
theorem Bv {a b:World} {row:Option Nat}(h:Below a.heap.size a b):a.grownBy b row:=⟨h.os,h.tape,h.output,h.size,fun x hx _ => h.block x hx⟩
theorem GV(a:World)(row:Option Nat):a.grownBy a row:=⟨rfl,rfl,rfl,Nat.le_refl _,fun _ _ _ => rfl⟩
theorem Src.cells {w:World} {b:Nat} {code:List UInt8} {fs:List Addr} {t:Nat}(h:Src w b code fs t):∃A c at_,at_≤t∧w.cell? ⟨b,0,none⟩=some (.slice A code.length c)∧w.cell? ⟨b,1,none⟩=some (int i64 (at_:Nat))∧w.frozen? ⟨b,1,none⟩=false∧w.frozen? ⟨b,0,none⟩=false∧
  (∀k,k<code.length→∃(ad:Addr) (x:Nat),A=some ad∧x<256∧ad.block≠b∧w.cell? (ad.add k)=some (.int .u8 (x:Int)))∧
  (∀(n:Nat) (W:World),n≤t+1→W.heap=(w.setCell ⟨b,1,none⟩ (int i64 (n:Nat))).heap→W.os=w.os→W.tape=w.tape→W.output=w.output→Bd b code fs (t+1) w W):=by
 obtain⟨A,c,n,h1,h2,h3,h4⟩:=h;obtain⟨A',c',e,hc1,hm1,hx⟩:=Ap.open_ h2;injection e with e1 e2 e3
 subst e1 e3;refine⟨A,c,n,h4,(h1.cell 0).trans rfl,(h1.cell 1).trans rfl,h1.frozen 1,h1.frozen 0,fun k hk => ?_,fun m W hm hW o1 o2 o3 =>⟨⟨A,c,m,?_,?_,h3,hm⟩,⟨o1,o2,o3,?_,fun q hq hne => ?_⟩⟩⟩
 ·obtain⟨ad,q1,q2,q3,q4⟩:=hx k hk;exact⟨ad,code[k].toNat,q1,UInt8.toNat_lt _,by have:=h3 _ q2;rwa [EA]at this,q4⟩
 ·have:=Blk.set_ h1 1 (int i64 (m:Nat));unfold Blk at this⊢;rw[hW,this];rfl
 ·refine rSl.keep AG.local_ h2 fun a ha => ?_
  have e:W.cell? a=(w.setCell ⟨b,1,none⟩ (int i64 (m:Nat))).cell? a:=by simp[World.cell?,hW]
  rw[e,World.cell?_setCell_other];intro e;exact h3 a ha (by rw[← e])
 ·rw[hW];simp[World.setCell]
 ·rw[hW];exact Below.heap_setCell w _ _ q (fun e => hne (by rw[e]))
theorem I6(b:Nat)(code:List UInt8)(fs:List Addr)(t:Nat)(n:Int)(w:World)(h:Src w b code fs t)(ht:t≤1000000)(hn0:1≤n)(hn:n≤1000000)(hc:code.length≤1048576) :
  Calls Tryz.prog 37 #[.pointer (some ⟨b,0,none⟩),int i64 n] w fun e w' =>∃r:Int,e= .returned (int i64 r)∧0≤r∧r<n∧Bd b code fs (t+1) w w':=by
 obtain⟨A,c,at_,hat,c0,c1,f1,f0,hx,hfin⟩:=h.cells;have HX:=hid hx;have HF:=hid hfin;clear hx hfin h;have hn1:¬n<1:=by omega
 by_cases hk:code.length=0
 ·have HK:=hid hk;have hk0:(((code.length:Nat):Int) == 0)=true:=by simp[hk]
  clear hk;go_enter Tryz.func37,Tryz.ntmps37
  go_wp2_with fail
  go_ret
  refine⟨_,rfl,?_,?_,HF.out (at_+1) _ (by omega) (by simp) rfl rfl rfl⟩
  ·exact Int.emod_nonneg _ (by omega)
  ·exact Int.emod_lt_of_pos _ (by omega)
 ·have hk0:(((code.length:Nat):Int) == 0)=false:=by rw[beq_eq_false_iff_ne];omega
  have hkp:0<code.length:=by omega
  have hkI:(1:Int)≤(code.length:Nat):=by omega
  obtain⟨ad,X,rfl,hXb,hab,hc1⟩:=HX.out (at_ % code.length) (Nat.mod_lt _ hkp);obtain⟨ad2,Y,e2,hYb,hab2,hc2⟩:=HX.out ((at_+1) % code.length) (Nat.mod_lt _ hkp);injection e2 with e2
  subst e2;have m1:=Nat.mod_lt at_ hkp;have m2:=Nat.mod_lt (at_+1) hkp;have d1:at_ / code.length≤1000000:=Nat.le_trans (Nat.div_le_self _ _) (by omega);have e1:((at_:Nat):Int).tmod (code.length:Nat)=((at_ % code.length:Nat):Int):=by rw[Int.tmod_eq_emod_of_nonneg (by omega)];rfl
  have e2:((at_:Nat)+1:Int).tmod (code.length:Nat)=(((at_+1) % code.length:Nat):Int):=by rw[Int.tmod_eq_emod_of_nonneg (by omega)];rfl
  have e3:((at_:Nat):Int).tdiv (code.length:Nat)=((at_ / code.length:Nat):Int):=by rw[Int.tdiv_eq_ediv_of_nonneg (by omega)];rfl
  have E1:=hid e1;have E2:=hid e2;have E3:=hid e3;clear e1 e2 e3;generalize at_ % code.length=p1 at *;generalize(at_+1) % code.length=p2 at *;generalize at_ / code.length=dv at *;have HC1:=hid hc1;have HC2:=hid hc2;clear hk hc1 hc2 hab2 HX;go_enter Tryz.func37,Tryz.ntmps37
  go_wp2_with fail
  have q0:(w.setCell ⟨b,1,none⟩ (int i64 ((at_:Int)+1))).cell? ⟨b,0,none⟩=some (.slice (some ad) code.length c):=by rw[World.cell?_setCell_other _ _ _ _ (by simp)];exact c0
  have q1:(w.setCell ⟨b,1,none⟩ (int i64 ((at_:Int)+1))).cell? (ad.add p1)=some (.int .u8 (X:Nat)):=by rw[World.cell?_setCell_other _ _ _ _ (by intro e;exact hab (by rw[← EA ad p1,← e]))];exact HC1.out
  have q2:(w.setCell ⟨b,1,none⟩ (int i64 ((at_:Int)+1))).cell? (ad.add p2)=some (.int .u8 (Y:Nat)):=by rw[World.cell?_setCell_other _ _ _ _ (by intro e;exact hab (by rw[← EA ad p2,← e]))];exact HC2.out
  obtain⟨wq,hwq⟩:∃wq,w.setCell ⟨b,1,none⟩ (int i64 ((at_:Int)+1))=wq:=⟨_,rfl⟩;rw[hwq]at q0 q1 q2⊢;have HWQ:=hid hwq;clear hwq c0 c1 f0 f1;have w0:IntKind.i64.wrap ((X:Nat):Int)=(X:Nat):=by rw[IntKind.wrap_i64];omega
  have w1:IntKind.i64.wrap ((dv:Nat) * 37:Int)=(dv:Nat) * 37:=by rw[IntKind.wrap_i64];omega
  have w2:IntKind.i64.wrap ((X:Nat)+(dv:Nat) * 37:Int)=(X:Nat)+(dv:Nat) * 37:=by rw[IntKind.wrap_i64];omega
  have i1:(0:Int)≤(p1:Nat):=by omega
  have i2:((p1:Nat):Int)<(code.length:Nat):=by omega
  have e1:=E1.out;have e3:=E3.out;go_quiet (fail)
  obtain⟨V,hV⟩:∃V:Nat,((X:Nat)+(dv:Nat) * 37:Int)=(V:Nat):=⟨X+dv * 37,by omega⟩;have hVb:V≤40000000:=by omega
  rw[hV];clear w0 w1 w2 i1 i2 e1 e3 q1 hV;by_cases hbig:200<n
  ·have w1:IntKind.i64.wrap ((V:Nat) * 251:Int)=(V:Nat) * 251:=by rw[IntKind.wrap_i64];omega
   have w2:IntKind.i64.wrap ((at_:Nat)+1:Int)=(at_:Nat)+1:=by rw[IntKind.wrap_i64];omega
   have w3:IntKind.i64.wrap ((Y:Nat):Int)=(Y:Nat):=by rw[IntKind.wrap_i64];omega
   have w4:IntKind.i64.wrap ((Y:Nat) * 13:Int)=(Y:Nat) * 13:=by rw[IntKind.wrap_i64];omega
   have w5:IntKind.i64.wrap ((V:Nat) * 251+(Y:Nat) * 13:Int)=(V:Nat) * 251+(Y:Nat) * 13:=by rw[IntKind.wrap_i64];omega
   have w6:IntKind.i64.wrap ((V:Nat) * 251+(Y:Nat) * 13+(at_:Nat):Int)=(V:Nat) * 251+(Y:Nat) * 13+(at_:Nat):=by rw[IntKind.wrap_i64];omega
   have i1:(0:Int)≤(p2:Nat):=by omega
   have i2:((p2:Nat):Int)<(code.length:Nat):=by omega
   have e2:=E2.out;go_wp2_with fail
   go_quiet (fail)
   obtain⟨U,hU⟩:∃U:Nat,((V:Nat) * 251+(Y:Nat) * 13+(at_:Nat):Int)=(U:Nat):=⟨V * 251+Y * 13+at_,by omega⟩;rw[hU];clear w1 w2 w3 w4 w5 w6 e2 i1 i2 hU;go_wp2_with fail
   go_ret
   refine⟨_,rfl,Int.emod_nonneg _ (by omega),Int.emod_lt_of_pos _ (by omega),HF.out (at_+1) _ (by omega) ?_ ?_ ?_ ?_⟩;all_goals (rw[← HWQ.out];simp[World.drewN,World.setCell])
  ·go_wp2_with fail
   go_ret
   refine⟨_,rfl,Int.emod_nonneg _ (by omega),Int.emod_lt_of_pos _ (by omega),HF.out (at_+1) _ (by omega) ?_ ?_ ?_ ?_⟩;all_goals (rw[← HWQ.out];simp[World.drewN,World.setCell])
theorem DP {a b c:World} {r row:Option Nat}(h:a.grownBy b r)(k:b.grownBy c row)(hr:∀q,row=some q→a.heap.size≤q∨r=some q):a.grownBy c r :=
 ⟨k.os.trans h.os,k.tape.trans h.tape,k.output.trans h.output,Nat.le_trans h.size k.size,fun x hx hne =>(k.block x (Nat.lt_of_lt_of_le hx h.size) (fun e =>(hr x e.symm).elim (fun h => by omega) (fun h => hne h.symm))).trans (h.block x hx hne)⟩
theorem Src.grown {w w':World} {b:Nat} {code:List UInt8} {fs:List Addr} {t:Nat} {row:Option Nat}(h:Src w b code fs t)(hg:w.grownBy w' row)(hb:row≠some b)(hf:∀a,a∈fs→row≠some a.block):Src w' b code fs t:=by
 obtain⟨A,c,n,h1,h2,h3,h4⟩:=h;exact⟨A,c,n,h1.grown hg (Ne.symm hb),rSl.keep AG.local_ h2 (fun a ha => hg.cell_far a (rSl.there AG.fixed h2 a ha) (Ne.symm (hf a ha))),h3,h4⟩
theorem Src.there {w:World} {b:Nat} {code:List UInt8} {fs:List Addr} {t:Nat}(h:Src w b code fs t):CM fs w:=by
 obtain⟨A,c,n,h1,h2,h3,h4⟩:=h;exact rSl.there AG.fixed h2
theorem Bd.trans {b:Nat} {code:List UInt8} {fs:List Addr} {t t':Nat} {w w' w'':World}(h:Bd b code fs t w w')(k:Bd b code fs t' w' w''):Bd b code fs t' w w'':=⟨k.src,DP h.grown k.grown (fun _ e => .inr e)⟩
theorem Bd.more {b:Nat} {code:List UInt8} {fs:List Addr} {t:Nat} {w w' w'':World}(h:Bd b code fs t w w')(k:Below w'.heap.size w' w''):Bd b code fs t w w'':=⟨h.src.keep k,DP h.grown (Bv (row:=some b) k) (fun _ e => .inr e)⟩
theorem Bd.row {b:Nat} {code:List UInt8} {fs:List Addr} {t:Nat} {w w' w'':World}(h:Bd b code fs t w w') {row:Option Nat}(k:w'.grownBy w'' row)(hr:∀q,row=some q→w.heap.size≤q)(hb:b<w.heap.size)(hf:CM fs w):Bd b code fs t w w'' :=
 ⟨h.src.grown k (fun e => by have:=hr _ e;omega) (fun a ha e => by have:=hr _ e;have:=hf a ha;omega),DP h.grown k (fun q e => .inl (hr q e))⟩
theorem Bd.refl {b:Nat} {code:List UInt8} {fs:List Addr} {t:Nat} {w:World}(h:Src w b code fs t):Bd b code fs t w w:=⟨h,GV _ _⟩
theorem Ld(v:Value)(code:List UInt8)(fs:List Addr)(w:World)(h1:Ap w fs v code) :
  Calls Tryz.prog 16 #[v] w fun e w' => e= .returned (.pointer (some ⟨w.heap.size,0,none⟩))∧Src w' w.heap.size code fs 0∧Below w.heap.size w w':=by
 have H1:=hid h1;obtain⟨A1,c1,rfl,-⟩:=h1.form;clear h1;go_enter Tryz.func16,Tryz.ntmps16
 go_wp2_with fail
 go_ret
 have hb:Below w.heap.size w (w.alloc (.cells #[.slice A1 code.length c1,int i64 0] 84)):=(Below.refl _ _).alloc (Nat.le_refl _) _;exact⟨rfl,⟨A1,c1,0,Blk.new _ _ _,Ap.below H1.out hb,fun a ha e => by have:=rSl.there AG.fixed H1.out a ha;omega,Nat.le_refl _⟩,hb⟩
theorem Br(b:Nat)(code:List UInt8)(fs:List Addr)(t:Nat)(g:Nat)(zs:List Int)(n:Nat)(w:World)(h:Src w b code fs t)(hg:Blk w g 2 (zs.map (Value.int .i64)).toArray)(hgb:g≠b)(hn:zs.length=n)(ht:t≤1000000)(hn0:1≤n)(hn1:n≤1000)(hc:code.length≤1048576) :
  Calls Tryz.prog 38 #[.pointer (some ⟨b,0,none⟩),.slice (some ⟨g,0,none⟩) n n] w fun e w' =>∃r:Int,e= .returned (int i64 r)∧r∈zs∧Bd b code fs (t+1) w w':=by
 have HN:=hid hn;clear hn;go_enter Tryz.func38,Tryz.ntmps38
 go_wp2_with fail
 refine(I6 b code fs t n w h ht (by omega) (by omega) hc).mono ?_;rintro e w1 ⟨r,rfl,hr0,hr1,hd⟩;have HD:=hid hd;obtain⟨q,rfl⟩:=Int.eq_ofNat_of_zero_le hr0;have hq:q<zs.length:=by have:=HN.out;omega
 have hk:=(hg.grown hd.grown (fun e => hgb (by injection e))).cell q;have e1:(zs.map (Value.int .i64)).toArray[q]? =some (int i64 zs[q]):=by simp[hq]
 rw[e1]at hk;have hqn:q<n:=by omega
 clear hd e1;go_wp2_with fail
 go_ret
 exact⟨_,rfl,List.getElem_mem hq,HD.out⟩
end Go.Proofs.YthbljikbnoghcaaGreat
