/-
  Part 17 of the proof.
-/
import Derived.Test.YtfjkoifpdoemdaaGreatI16
set_option maxHeartbeats 8000000
set_option maxRecDepth 100000
set_option linter.unusedVariables false
set_option linter.unusedSimpArgs false
open Go.Value (int)
open Go.IntKind (i64)
namespace Go.Proofs.YtfjkoifpdoemdaaGreat
open Go.RowKit Go.Sort
open Go.Lib (hid)
theorem Tryz.kind_i64:Tryz.prog.underlying 2=some (.int .i64):=by kernel_rfl
theorem wrap0:IntKind.i64.wrap 0=0:=by kernel_rfl
theorem Tryz.append_zeroW(w:World)(A:Option Addr)(n c:Nat)(h:n≤c)(ty:TypeId)(z:Int)(hz:IntKind.i64.wrap z=0):(Builtin.append_ #[39,2] ty #[.slice A n c,int i64 z]).run Tryz.prog w= .ok (.slice A n c) w:=by
 obtain⟨i,hi,hz0,hz1,hz2⟩:=info_parts Tryz.info5;cases A <;> simp[Builtin.append_,run_underlying Tryz.underlying39,run_underlying Tryz.kind_i64,sizeOf,typeInfo,hi,Builtin.lenOf,Builtin.firstCells,h,storeCells,asInt,asIntOf,hz]
theorem Tryz.append_zeroE(w:World)(A:Option Addr)(n c:Nat)(h:n≤c)(ty:TypeId)(z:Int)(hz:IntKind.i64.wrap z=0):∃v' w',(Builtin.append_ #[39,2] ty #[.slice A n c,int i64 z]).run Tryz.prog w= .ok v' w'∧(v'= .slice A n c∧w'=w) :=
 ⟨_,_,Tryz.append_zeroW w A n c h ty z hz,rfl,rfl⟩
theorem Bw.drew_ {L:List UInt8} {w w':World} {e:Ending}(h:Bw L w e w'):Bw L w e w'.drew:=by
 obtain⟨A,c,fs,h1,h2,h3,h4⟩:=h;exact⟨A,c,fs,h1,rSl.keep Ah.local_ h2 (fun _ _ => rfl),h3.keep (fun _ _ => rfl),h4.trans ⟨rfl,rfl,rfl,Nat.le_refl _,fun _ _ => rfl⟩⟩
theorem J0 {P:Program} {w:World} {ops:Array Oper} {o:Oper} {a:Act} {K:Act→World→Prop} {Q:Exit→Act→World→Prop} {E:Prop} {S:Value→World→Prop}(hgd:o.guard=none)(s x:Operand)(t t2:TypeId)
  (ho:o.op= .call { callee:=.builtin .append,args:=#[s,x],argTypes:=#[t,t2] }) (v u:Value) (hs:a.eval s=v) (hx:a.eval x=u) (hr:∃v' w',(Builtin.append_ #[t,t2] o.type #[v,u]).run P w= .ok v' w'∧S v' w')
  (h:∀v' w',S v' w'→K (a.put o.dst v') w'):if Region.wanted o (yielded ops a.tmps)=true then Oper.wp P o a w K Q else E:=by
 have hw:Region.wanted o (yielded ops a.tmps)=true:=by simp[Region.wanted,hgd]
 rw[if_pos hw];obtain⟨v',w',h1,h2⟩:=hr;unfold Oper.wp execOp;simp only[ho,resolve,invoke,builtin,Sem.run_bind,Sem.run_pure,Result.andThen_ok,List.map_toArray,List.map_cons,List.map_nil,hs,hx,h1];exact h v' w' h2
theorem DY(A:Option Addr)(n c:Nat)(w:World):Calls Tryz.prog 174 #[.slice A n c] w fun e w' => e= .returned (int i64 (n:Int))∧w=w':=by
 go_enter Tryz.func174,Tryz.ntmps174
 go_wp2_with fail
 go_ret
 exact⟨rfl,rfl⟩
theorem share_c(n s want:Nat)(hv:List Nat)(v:Value)(f:List Addr)(w:World)(L:List UInt8)(h:AN w f v (ER hv))(hl:hv.length=n)(hn:n≤20)(hk:∀k,k∈hv→k≤50)(hw:want≤50)(hS:Fi n hv want 8=some L)(hL:L.length=n) :
  Calls Tryz.prog 192 #[.agg #[int i64 (n:Int),int i64 (s:Int)],v,int i64 (want:Int)] w (Bw L w):=by
 obtain⟨A1,c1,rfl,hc1,hm1,hx⟩:=AN.open_ h;have HX:=hid hx;have HHV:=hid hk;have HS:=hid hS;have HLL:=hid hL;clear h hx hk hS hL;rw[Cm,hl]at hc1⊢;have HL:=hid hl;clear hl;have hmk:=Tryz.makeLists n (by omega);go_enter Tryz.func192,Tryz.ntmps192
 go_wp2_with fail
 have hK:=C8.nil (lo:=w.heap.size+2) (Blk.new1 w (.cells #[int i64 (n:Int),int i64 (s:Int)] 96) 39 (madeCells #[.slice none 0 0] n)) (by omega);rw[← GP n hv 8]at hK;have hBx:=(Blk.new w 96 #[int i64 (n:Int),int i64 (s:Int)]).alloc (.cells (madeCells #[.slice none 0 0] n) 39);have hB0:=Af (Af (Below.refl w.heap.size w) (.cells #[int i64 (n:Int),int i64 (s:Int)] 96)) (.cells (madeCells #[.slice none 0 0] n) 39);have HK:=hid hK;have HBx:=hid hBx;have HB0:=hid hB0;obtain⟨g,hg⟩:∃g,w.heap.size=g:=⟨_,rfl⟩;rw[hg]at HK HBx HB0⊢;have HG:=hid hg;clear hK hBx hB0 hmk hg;go_loopw [22,9,10,11] (fun i _ _ _ wr =>∃(k:Nat) (vs:List Value),k≤n∧i= int i64 k∧C8 wr (g+2) (g+1) (By n hv 8 k 0) vs∧Blk wr g 96 #[int i64 (n:Int),int i64 (s:Int)]∧Below g w wr∧g+2≤wr.heap.size) (fun i _ _ _ _ => n - (intOf i).toNat)
 case atStart => exact⟨0,_,by omega,rfl,HK.out,HBx.out,HB0.out,by have:=HG.out;simp;omega⟩
 case round =>
  obtain⟨k,vs,hkn,rfl,hm,hx,hb,hsz⟩:=hrel;obtain⟨u,hu⟩:∃u,u=wr:=⟨_,rfl⟩;subst hu;have c0:u.cell? ⟨g,0,none⟩=some (int i64 (n:Int)):=by rw[hx.cell];rfl
  have c1:u.cell? ⟨g,1,none⟩=some (int i64 (s:Int)):=by rw[hx.cell];rfl
  by_cases hlt:k<n
  ·have hkl:k<hv.length:=by rw[HL.out];exact hlt
   obtain⟨ad,e1,m1,b1,p1,ok1⟩:=HX.out k (by rw[Cm];exact hkl);subst e1;rw[Jt hkl]at p1;rw[HG.out]at b1;have p1':=(hb.cell (p:=ad.add k) b1).trans p1;have hkb:=HHV.out _ (List.getElem_mem hkl);have hgd:hv.getD k 0=hv[k]:=by simp[List.getD_eq_getElem?_getD,hkl]
   obtain⟨h1,hh1⟩:∃h1,hv[k] =h1:=⟨_,rfl⟩;rw[hh1]at p1' hkb hgd;have hww:=Gu n s h1 (by omega) hkb u;have HM:=hid hm;have HXB:=hid hx;have HB:=hid hb;have HGD:=hid hgd;have HWW:=hid hww;clear hm hx hb p1 hh1 hgd hww m1;go_wp2_with fail
   refine HWW.out.mono ?_;rintro e w5 ⟨A5,c5,f5,rfl,r5,m5,b5⟩;rw[AS]at r5⊢;obtain⟨A6,c6,e6,hc6,hm6,hy⟩:=Ag.open_ r5;injection e6 with e61 e62 e63
   subst e61 e63;clear e62;have t5:=rSl.there Ah.fixed r5;have ff:IF w5 (g+1) vs f5:=fun a ha => by
    have ha2:=m5.from_ a ha;refine⟨t5 a ha,by omega,fun v hv2 e7 => ?_⟩;obtain⟨q,hq,rfl⟩:=List.getElem_of_mem hv2;have:=((HM.out.own q hq).lt _ e7).2;omega
   have M5:=hid (HM.out.below b5);have X5:=hid (HXB.out.below b5 (Nat.lt_of_lt_of_le (by omega) hsz));have FF:=hid ff;have R5:=hid r5;have B5:=hid (HB.out.trans (b5.mono (by omega)));have hsz5:g+2≤w5.heap.size:=Nat.le_trans hsz b5.size;clear t5 ff r5 m5 b5 HM HXB HB hy HWW;go_wp2_with fail
   go_loopw [30,10,11] (fun i _ _ w7 =>∃(j:Nat) (vs:List Value),j≤n∧i= int i64 j∧C8 w7 (g+2) (g+1) (By n hv 8 k j) vs∧Blk w7 g 96 #[int i64 (n:Int),int i64 (s:Int)]∧Below g w w7∧g+2≤w7.heap.size∧Ag w7 f5 (.slice A5 n c5) (Cg n h1 8)∧IF w7 (g+1) vs f5) (fun i _ _ _ => n - (intOf i).toNat)
   case atStart => exact⟨0,_,by omega,rfl,M5.out,X5.out,B5.out,hsz5,R5.out,FF.out⟩
   case round =>
    obtain⟨j,vs,hj,rfl,hm,hx,hb,hsz7,hr,hf⟩:=hrel;by_cases hjn:j<n
    ·obtain⟨A7,c7,e7,hc7,hm7,hy⟩:=Ag.open_ hr;injection e7 with e71 e72 e73
     subst e71 e73;clear e72;obtain⟨a2,e2,m2,b2,g2⟩:=hy j (by rw[AS];exact hjn);subst e2;rw[Ht hjn]at g2;have hvl:j<vs.length:=by rw[hm.len,FR];exact hjn
     obtain⟨A8,c8,e8,p8⟩:=hm.form hvl;have hrl:=Hs (n:=n) (hv:=hv) (base:=8) (k:=k) (i:=j) hjn (by rw[HL.out];omega);have hst:=G5 (hv:=hv) (base:=8) (k:=k) hjn;rw[HGD.out]at hst;have HSTP:=hid (hm.step (x:=BM n h1 8 j) (W:=wr.alloc (.cells #[.int .u8 ((BM n h1 8 j).toNat:Int)] 5)) hvl e8 (by rw[hrl];omega) hsz7 (Af (Below.refl _ _) _) (Blk.new _ _ _));rw[hrl]at HSTP;rw[hrl]at p8;have HM:=hid hm;have HXB:=hid hx;have HB:=hid hb;have HR:=hid hr;have HF:=hid hf;have HST:=hid hst;clear hm hx hb hr hf hy e8 hrl hst;go_wp2_with (at_builtin;refine As rfl (.tmp 40) (.tmp 42) 39 rfl (.slice A8 k c8) (.slice (some ⟨wr.heap.size,0,none⟩) 1 1) rfl rfl HSTP.out ?_;rintro v6 w6 ⟨A9,c9,rfl,ll⟩;have q3:=ll.cell.trans p8;have fr3:=ll.free;have gz3:=ll.lt;have LL:=hid ll;clear ll)
     go_roundw
     case rel =>
      obtain⟨s1,s2⟩:=LL.out.foot _ HF.out;have hmm:=LL.out.mat;rw[HST.out]at hmm;exact⟨j+1,_,by omega,by go_num,hmm,HXB.out.below LL.out.below (by omega),HB.out.trans (LL.out.below.mono (by omega)),Nat.le_trans hsz7 LL.out.below.size,rSl.keep Ah.local_ HR.out s1,s2⟩
     case measure => simp[intOf];omega
    ·obtain rfl:j=n:=by omega
     rw[GZ hkl]at hm;have HM:=hid hm;have HXB:=hid hx;have HB:=hid hb;clear hm hx hb hr hf;go_wp2_with fail
     go_roundw
     case rel => exact⟨k+1,_,by omega,by go_num,HM.out,HXB.out,HB.out,hsz7⟩
     case measure => simp[intOf];omega
  ·obtain rfl:k=n:=by omega
   have hm':=hm;rw[← HL.out,In,HL.out]at hm';obtain⟨fr,hlists⟩:=hm'.lists (DU _ _ _) (by omega);have hgw:=Gu k s want (by omega) hw u;have hsv:=fun(W:World) (A3:Option Addr) (c3:Nat) (f3:List Addr) (hW:Below u.heap.size u W) (h3:Ag W f3 (.slice A3 k c3) (Cg k want 8)) => NU (.slice (some ⟨g+1,0,none⟩) k k) (.slice A3 k c3) (Fh k hv 8) (Cg k want 8) fr f3 W k (rSl.below Ap.loc Ap.fix hlists hW) h3 (DU _ _ _) (Iw HL.out) (by rw[AS];exact Nat.le_refl _) (by omega)
   have HGW:=hid hgw;have HSV:=hid hsv;have HB:=hid hb;clear hm hm' hx hb hlists hgw hsv;go_wp2_with (first
    |(go_at_call 182;refine HGW.out.mono ?_;rintro e w3 ⟨A3,c3,f3,rfl,r3,m3,b3⟩;rw[AS]at r3⊢;have R3:=hid r3;have B3:=hid b3;clear r3 m3 b3)
    |(go_at_call 262;refine(HSV.out _ _ _ _ B3.out R3.out).mono ?_;rintro e w4 h4;obtain⟨A4,c4,f4,rfl,r4,m4,b4⟩:=MH h4 HS.out;clear h4;have R4:=hid r4;have M4:=hid m4;have B4:=hid b4;clear r4 m4 b4))
   have c0':=(B3.out.cell (p:=⟨g,0,none⟩) (by show g<u.heap.size;omega)).trans c0;have c0'':=(B4.out.cell (p:=⟨g,0,none⟩) (by show g<w3.heap.size;have:=B3.out.size;omega)).trans c0';have hlz:((k:Int) - (k:Int))=0:=by omega
   have hw0:=wrap0;obtain⟨A9,c9,e9,hc9,-⟩:=Ag.open_ R4.out;injection e9 with e91 e92 e93
   subst e91 e93;clear e92 c0 c0';rw[HLL.out]at hc9;have fin:Bw L w (.returned (.slice A4 k c4)) w4:=⟨A4,c4,f4,by rw[HLL.out],by rw[HLL.out];exact R4.out,M4.out.mono (by rw[HG.out];have:=B3.out.size;omega),by rw[HG.out];exact HB.out.trans ((B3.out.trans (B4.out.mono B3.out.size)).mono (by omega))⟩;have FIN:=hid fin;clear fin;go_region_law (first|(refine J0 rfl (.tmp 55) (.tmp 60) 39 2 rfl _ _ (by rfl) (by rfl) (Tryz.append_zeroE _ A4 k c4 hc9 _ _ (by simp[wrap0])) ?_;rintro v' w' ⟨rfl,rfl⟩)|(go_simp;go_at_call 174;refine(DY _ _ _ _).mono ?_;rintro e w' ⟨rfl,rfl⟩;dsimp only))
   all_goals
    go_wp2_with fail
    go_ret
    first|exact FIN.out|exact FIN.out.drew_
def Bp(bl:List (List UInt8))(j:Nat):List Nat:=(List.range j).filter fun i => decide (0<(bl.getD i []).length)
def AI(n:Nat)(bl:List (List UInt8))(j:Nat):List Nat:=(Bp bl j).take n
def BK(bl:List (List UInt8))(hv:List Nat):List (List UInt8):=hv.map fun i => bl.getD i []
theorem Ba(bl:List (List UInt8))(hv:List Nat):(BK bl hv).length =hv.length:=by simp[BK]
theorem Fb(bl:List (List UInt8))(j:Nat):Bp bl (j+1)=Bp bl j ++(if 0<(bl.getD j []).length then [j]else []):=by
 unfold Bp;rw[List.range_succ,List.filter_append];congr 1
 by_cases h:0<(bl.getD j []).length
 ·rw[if_pos h,List.filter_cons_of_pos (by simpa using h)];rfl
 ·rw[if_neg h,List.filter_cons_of_neg (by simpa using h)];rfl
theorem DC(n:Nat)(bl:List (List UInt8)):AI n bl 0= []:=by simp[AI,Bp]
theorem Fs(n:Nat)(bl:List (List UInt8))(j:Nat):(AI n bl j).length≤n:=by simp[AI];omega
theorem IQ {n:Nat} {bl:List (List UInt8)} {j:Nat}(hj:0<(bl.getD j []).length)(hn:(AI n bl j).length <n):AI n bl (j+1)=AI n bl j ++ [j]:=by
 unfold AI at hn⊢;rw[Fb,if_pos hj];simp only[List.length_take]at hn;rw[List.take_of_length_le (by simp;omega),List.take_of_length_le (by omega)]
theorem ET {n:Nat} {bl:List (List UInt8)} {j:Nat}(h:¬0<(bl.getD j []).length∨(AI n bl j).length =n):AI n bl (j+1)=AI n bl j:=by
 unfold AI at h⊢;rw[Fb];rcases h with h|h
 ·rw[if_neg h,List.append_nil]
 ·rw[List.length_take]at h;rw[List.take_append_of_le_length (by omega)]
theorem IB {n:Nat} {bl:List (List UInt8)} {j:Nat}(h:(AI n bl j).length =n):∀d,AI n bl (j+d)=AI n bl j
 |0 => rfl
 |d+1 => by
  rw[← Nat.add_assoc,ET (.inr (by rw[IB h d];exact h)),IB h d]
theorem NP {b:Nat}:∀(l:List Nat) (a:Nat),l.Pairwise (· < ·)→(∀x,x∈l→a≤x∧x<b)→Ej b a l
 | [],_,_,_ => trivial
 |x :: r,a,hp,h => by
  obtain⟨h1,h2⟩:=List.pairwise_cons.1 hp;exact⟨(h x (by simp)).1,(h x (by simp)).2,NP r (x+1) h2 fun y hy =>⟨h1 y hy,(h y (by simp[hy])).2⟩⟩
theorem Gf {bl:List (List UInt8)} {j k:Nat}(h:k∈Bp bl j):k<j:=by
 unfold Bp at h;exact List.mem_range.1 (List.mem_filter.1 h).1
theorem Qq {bl:List (List UInt8)} {j k:Nat}(h:k∈Bp bl j):0<(bl.getD k []).length:=by
 unfold Bp at h;simpa using(List.mem_filter.1 h).2
theorem Gd {n:Nat} {bl:List (List UInt8)} {j k:Nat}(h:k∈AI n bl j):k∈Bp bl j:=List.mem_of_mem_take h
theorem JN {n:Nat} {bl:List (List UInt8)} {j b:Nat}(hb:j≤b):Ej b 0 (AI n bl j):=by
 refine NP _ 0 ?_ fun x hx =>⟨Nat.zero_le _,Nat.lt_of_lt_of_le (Gf (Gd hx)) hb⟩
 unfold AI Bp;exact(List.Pairwise.filter _ List.pairwise_lt_range).take
def C5(bl:List (List UInt8))(m:Nat):Prop:=∀l,l∈bl→l.length=0∨l.length=m
theorem EQ {n m:Nat} {bl:List (List UInt8)} {j:Nat}(h:C5 bl m):∀l,l∈BK bl (AI n bl j)→l.length=m:=by
 intro l hl;obtain⟨k,hk,rfl⟩:=List.mem_map.1 hl;have hp:=Qq (Gd hk);by_cases hkl:k<bl.length
 ·have e:bl.getD k [] =bl[k]:=by simp[List.getD_eq_getElem?_getD,hkl]
  rw[e]at hp⊢;rcases h _ (List.getElem_mem hkl)with h1|h1
  ·omega
  ·exact h1
 ·rw[List.getD_eq_getElem?_getD,List.getElem?_eq_none (by omega)]at hp;simp at hp
theorem Ps:∀(w:World) (f:List Addr) (cs:List Value) (d:Int),Ay w f cs d→∀u,u∈cs→u.oneCell'=true:=by
 rintro w f cs d ⟨rfl,rfl,-⟩ u hu;simp only[List.mem_cons,List.not_mem_nil,or_false]at hu;subst hu;rfl
theorem Tryz.info_i64:(Tryz.prog.info? 2).map (fun i =>(i.zero,i.size,i.bytes))=some (some (int i64 0),1,8):=by kernel_rfl
structure CB (w:World) (lo:Nat) (v6 v7:Value) (hv:List Nat) (ms:List (List UInt8)) (fs:List Addr):Prop where
 nums:Al 1 2 Ay w lo v6 (ER hv) []
 lists:Al 1 39 (Ak 1 Ah) w lo v7 ms fs
 apart:∀b,v6.ownBlock=some b→v7.ownBlock≠some b
 far:∀a,a∈fs→a.block<lo
theorem CB.below {w w':World} {lo:Nat} {v6 v7:Value} {hv:List Nat} {ms:List (List UInt8)} {fs:List Addr}(h:CB w lo v6 v7 hv ms fs)(hb:Below w.heap.size w w'):CB w' lo v6 v7 hv ms fs :=
 ⟨h.nums.below Ay.local_ Ay.fixed hb,h.lists.below Ap.loc Ap.fix hb,h.apart,h.far⟩
theorem CB.addNum {w W:World} {lo b j:Nat} {v6 v7:Value} {hv:List Nat} {ms:List (List UInt8)} {fs:List Addr}(h:CB w lo v6 v7 hv ms fs)(hlo:lo≤w.heap.size)(hW:Below w.heap.size w W)(hk:Blk W b 2 #[int i64 (j:Int)])(hj:j≤1000000)(hn:hv.length+1≤1000000) :
  ∃v' w',(Builtin.append_ #[25,25] 25 #[v6,.slice (some ⟨b,0,none⟩) 1 1]).run Tryz.prog W= .ok v' w'∧∃A c,v'= .slice A (hv.length+1) c∧CB w' lo v' v7 (hv ++ [j]) ms fs∧Below lo w w'∧lo≤w'.heap.size:=by
 have hW2:=h.below hW;have hs:=hW.size;obtain⟨v',w',q1,hh,q2,q3,q4,q5⟩:=Al.appendOne (P:=Tryz.prog) 25 25 (int i64 0) 8 Tryz.underlying25 Tryz.info_i64 rfl (by decide) Ay.local_ Ay.fixed Ps lo v6 (ER hv) [] hW2.nums b [int i64 (j:Int)] [] (j:Int) rfl hk ⟨rfl,rfl,by omega,by omega⟩ (fun a ha => by cases ha) (by rw[Cm];omega) (by omega) (by omega);have e1:=Al.flatInts q2;rw[e1]at q2;have e2:ER hv ++ [(j:Int)] =ER (hv ++ [j]):=by simp[ER]
 rw[e2]at q2;obtain⟨A,c,e,-⟩:=q2.length;refine⟨v',w',q1,A,c,by rw[e,Cm];simp,⟨q2,hW2.lists.keep Ap.loc (fun q hq => q4.block q (hW2.lists.lt q hq).2 (fun e3 => h.apart q e3.symm hq)) (fun a ha => q4.cell_far a (hW2.lists.there Ap.fix a ha) (fun e3 => ?_)),fun q hq hq7 => ?_,h.far⟩,Below.grown (hW.mono hlo) q4 (by omega) (fun k hk =>(hW2.nums.lt k hk).1),Nat.le_trans (by omega) q4.size⟩
 ·have:=(hW2.nums.lt _ e3.symm).1;have:=h.far a ha;omega
 ·rcases q5 with e5|e5
  ·rw[e5]at hq;exact h.apart q hq hq7
  ·rw[e5]at hq;injection hq with hq
   have:=(hW2.lists.lt q hq7).2;omega
theorem CB.addRef {w W:World} {lo b:Nat} {v6 v7 ve:Value} {hv:List Nat} {ms:List (List UInt8)} {fs f:List Addr} {L:List UInt8}(h:CB w lo v6 v7 hv ms fs)(hlo:lo≤w.heap.size)(hW:Below w.heap.size w W)(hk:Blk W b 39 #[ve])(hr:Ag W f ve L)(hf:∀a,a∈f→a.block<lo)(hn:ms.length+1≤1000000) :
  ∃v' w',(Builtin.append_ #[83,83] 83 #[v7,.slice (some ⟨b,0,none⟩) 1 1]).run Tryz.prog W= .ok v' w'∧∃A c fs',v'= .slice A (ms.length+1) c∧CB w' lo v6 v' hv (ms ++ [L]) fs'∧Below lo w w'∧lo≤w'.heap.size:=by
 have hW2:=h.below hW;have hs:=hW.size;obtain⟨v',w',q1,hh,q2,q3,q4,q5⟩:=Al.appendOne (P:=Tryz.prog) 83 83 (.slice none 0 0) 24 Tryz.underlying83 Tryz.infoBytes rfl (by decide) Ap.loc Ap.fix Ak.ones lo v7 ms fs hW2.lists b [ve] f L rfl hk ⟨ve,rfl,hr⟩ (fun a ha e => by
  have:=(hW2.lists.lt _ e).1;have:=hf a ha;omega) (by omega) (by omega) (by omega)
 obtain⟨A,c,e,-⟩:=q2.length;refine⟨v',w',q1,A,c,_,by rw[e];simp,⟨hW2.nums.keep Ay.local_ (fun q hq => q4.block q (hW2.nums.lt q hq).2 (fun e3 => h.apart q hq e3.symm)) (fun a ha => by cases ha),q2,fun q hq hq7 => ?_,fun a ha => ?_⟩,Below.grown (hW.mono hlo) q4 (by omega) (fun k hk =>(hW2.lists.lt k hk).1),Nat.le_trans (by omega) q4.size⟩
 ·rcases q5 with e5|e5
  ·rw[e5]at hq7;exact h.apart q hq hq7
  ·rw[e5]at hq7;injection hq7 with hq7
   have:=(hW2.nums.lt q hq).2;omega
 ·rcases List.mem_append.1 ha with ha|ha
  ·exact h.far a ha
  ·exact hf a (q3.subset ha)
theorem CB.start {w:World} {lo g6 g7:Nat}(h6:Blk w g6 2 #[])(h7:Blk w g7 39 #[])(hl6:lo≤g6)(hl7:lo≤g7)(hne:g6≠g7):CB w lo (.slice (some ⟨g6,0,none⟩) 0 0) (.slice (some ⟨g7,0,none⟩) 0 0) [] [] []:=by
 refine⟨Al.start ⟨rfl,.inr ⟨g6,0,#[],rfl,hl6,h6,Nat.le_refl _,by unfold maxLen;omega,rfl,rfl⟩⟩,Al.start ⟨rfl,.inr ⟨g7,0,#[],rfl,hl7,h7,Nat.le_refl _,by unfold maxLen;omega,rfl,rfl⟩⟩,fun b e e2 => ?_,fun a ha => by cases ha⟩;simp[Value.ownBlock]at e e2;omega
theorem Tryz.appendBytes {wr W:World} {base:Nat} {v u:Value} {ds L:List UInt8} {gs:List Addr}(ho:Al 1 5 Ah wr base v ds [])(hbase:base≤wr.heap.size)(hW:Below wr.heap.size wr W)(hr:Ag W gs u L)(hg:∀a,a∈gs→wr.heap.size≤a.block)(hn:ds.length+L.length≤1000000000) :
  ∃v' w',(Builtin.append_ #[39,39] 39 #[v,u]).run Tryz.prog W= .ok v' w'∧∃A c,v'= .slice A (ds.length+L.length) c∧Al 1 5 Ah w' base v' (ds ++ L) []∧Below base wr w'∧wr.heap.size≤w'.heap.size:=by
 have ho2:=ho.below Ah.local_ Ah.fixed hW;obtain⟨v',w',h1,hs,h2,h3,h4,h5⟩:=Al.appendRun (P:=Tryz.prog) 39 39 (.int .u8 0) 1 Tryz.underlying39 Tryz.info5 rfl (by decide) Ah.local_ Ah.fixed Ec base v ds [] ho2 u L gs hr (fun a ha e => by
  have:=(ho.lt _ e).2;have:=hg a ha;omega) hn (by omega) (Nat.le_trans hbase hW.size)
 have h6:=Al.flatBytes h2;rw[h6]at h2;obtain⟨A,c,e,-⟩:=h2.length;exact⟨v',w',h1,A,c,by rw[e];simp,h2,Below.grown (hW.mono hbase) h4 (Nat.le_trans hbase hW.size) (fun k hk =>(ho.lt k hk).1),Nat.le_trans hW.size h4.size⟩
theorem GJ {A:Option Addr} {n c:Nat} {w:World}:Calls Tryz.prog 174 #[.slice A n c] w fun e w' => e= .returned (int i64 (n:Int))∧w'=w:=(DY A n c w).mono fun _ _ h =>⟨h.1,h.2.symm⟩
def GX(L?:Option (List UInt8))(w:World)(e:Ending)(w':World):Prop :=
 (∃L A c fs,L? =some L∧e= .returned (.tuple #[.slice A L.length c,.bool true])∧Ag w' fs (.slice A L.length c) L∧Az w.heap.size w' fs∧Below w.heap.size w w')∨(L? =none∧e= .returned (.tuple #[.slice none 0 0,.bool false])∧Below w.heap.size w w')
def Dt(n:Nat)(bl:List (List UInt8))(hv:List Nat)(i:Nat):List UInt8:=Eg 4 (BK bl hv) ((Fi n hv i 0).getD [])
def Fm(n:Nat)(bl:List (List UInt8))(hv:List Nat)(i:Nat):List UInt8:=(List.range i).flatMap (Dt n bl hv)
def Da(n:Nat)(bl:List (List UInt8)):Option (List UInt8):=if(AI n bl bl.length).length <n then none else some (Fm n bl (AI n bl bl.length) n)
theorem H7(n:Nat)(bl:List (List UInt8))(hv:List Nat)(i:Nat):Fm n bl hv (i+1)=Fm n bl hv i ++ Dt n bl hv i:=by
 unfold Fm;rw[List.range_succ,List.flatMap_append];simp
theorem Eu {n:Nat} {bl:List (List UInt8)} {i:Nat}(h1:1≤n)(h3:n≤3)(hb:bl.length≤n+2)(hO:C5 bl 4)(hv:(AI n bl bl.length).length =n)(hi:i<n+2):∃L,Fi n (AI n bl bl.length) i 0=some L∧L.length=n∧Dt n bl (AI n bl bl.length) i=Eg 4 (BK bl (AI n bl bl.length)) L∧(Dt n bl (AI n bl bl.length) i).length =4:=by
 obtain⟨L,e,hL⟩:=wts_row h1 h3 hv (JN hb) hi;have e2:Dt n bl (AI n bl bl.length) i=Eg 4 (BK bl (AI n bl bl.length)) L:=by unfold Dt;rw[e];rfl
 exact⟨L,e,hL,e2,by rw[e2];exact EJ (EQ hO) (by rw[Ba,hv,hL];exact Nat.le_refl _)⟩
theorem Ei {n:Nat} {bl:List (List UInt8)}(h1:1≤n)(h3:n≤3)(hb:bl.length≤n+2)(hO:C5 bl 4)(hv:(AI n bl bl.length).length =n):∀i,i≤n→(Fm n bl (AI n bl bl.length) i).length =i * 4
 |0,_ => by simp[Fm]
 |i+1,hi => by
  obtain⟨L,-,-,-,h⟩:=Eu h1 h3 hb hO hv (show i<n+2 by omega);rw[H7,List.length_append,Ei h1 h3 hb hO hv i (by omega),h];omega
theorem Jk(n s:Nat)(v:Value)(bl:List (List UInt8))(f:List Addr)(w:World)(h:Ap w f v bl)(h1:1≤n)(h3:n≤3)(hb:bl.length≤n+2)(hO:C5 bl 4) :
  Calls Tryz.prog 190 #[.agg #[int i64 (n:Int),int i64 (s:Int)],v] w (GX (Da n bl) w):=by
 have TF:=hid (rSl.there Ap.fix h);obtain⟨A1,c1,rfl,hc1,hm1,hx⟩:=Ap.open_ h;have HX:=hid hx;have HO:=hid hO;clear h hx hO;go_enter Tryz.func190,Tryz.ntmps190
 go_wp2_with fail
 have hP:=CB.start (lo:=w.heap.size+1) ((Blk.new1 w (.cells #[int i64 (n:Int),int i64 (s:Int)] 226) 2 #[]).alloc (.cells #[] 39)) (Blk.new2 w (.cells #[int i64 (n:Int),int i64 (s:Int)] 226) (.cells #[] 2) 39 #[]) (Nat.le_refl _) (by omega) (by omega);have hBx:=((Blk.new w 226 #[int i64 (n:Int),int i64 (s:Int)]).alloc (.cells #[] 2)).alloc (.cells #[] 39);have hB0:=Af (Af (Af (Below.refl w.heap.size w) (.cells #[int i64 (n:Int),int i64 (s:Int)] 226)) (.cells #[] 2)) (.cells #[] 39);have HP:=hid hP;have HBx:=hid hBx;have HB0:=hid hB0;obtain⟨g,hg⟩:∃g,w.heap.size=g:=⟨_,rfl⟩;rw[hg]at HP HBx HB0⊢;have HG:=hid hg;clear hP hBx hB0 hg;go_loopw [16,6,7,8,9] (fun i v6 v7 _ _ wr =>∃(j:Nat) (A6:Option Addr) (c6:Nat) (A7:Option Addr) (c7:Nat) (fs:List Addr),j≤bl.length∧i= int i64 j∧v6= .slice A6 (AI n bl j).length c6∧v7= .slice A7 (AI n bl j).length c7∧CB wr (g+1) v6 v7 (AI n bl j) (BK bl (AI n bl j)) fs∧Blk wr g 226 #[int i64 (n:Int),int i64 (s:Int)]∧Below g w wr∧g+1≤wr.heap.size) (fun i _ _ _ _ _ => bl.length - (intOf i).toNat)
 case atStart =>
  refine⟨0,_,_,_,_,[],by omega,rfl,by rw[DC];rfl,by rw[DC];rfl,?_,HBx.out,HB0.out,by have:=HG.out;simp;omega⟩;rw[DC];exact HP.out
 case round =>
  obtain⟨j,A6,c6,A7,c7,fs,hj,rfl,rfl,rfl,hp,hx,hbw,hsz⟩:=hrel;have c0:wr.cell? ⟨g,0,none⟩=some (int i64 (n:Int)):=by rw[hx.cell];rfl
  have c1':wr.cell? ⟨g,1,none⟩=some (int i64 (s:Int)):=by rw[hx.cell];rfl
  have hle:=Fs n bl j;have HPK:=hid hp;have HXB:=hid hx;have HBW:=hid hbw;clear hp hx hbw;by_cases hlt:j<bl.length
  ·obtain⟨ad,A2,c2,fk,e1,b1,p1,r1,t1,s1,-⟩:=HX.out j hlt;subst e1;rw[HG.out]at b1;have p1':=(HBW.out.cell (p:=ad.add j) b1).trans p1;have hgd:bl.getD j [] =bl[j]:=by simp[List.getD_eq_getElem?_getD,hlt]
   have HR1:=hid (show∀W,Below g w W→Ag W fk (.slice A2 bl[j].length c2) bl[j]from fun W hW => rSl.keep Ah.local_ r1 (AR.of_below (fun a ha => by have:=t1 a ha;rw[HG.out]at this;exact this) hW));have HT1:=hid (show∀a,a∈fk→a.block<g+1 from fun a ha => by have:=t1 a ha;rw[HG.out]at this;omega);clear p1 r1 t1 s1;by_cases hz:0<bl[j].length
   ·have hz1:(0:Int)<(bl[j].length:Int):=by omega
    by_cases hn:(AI n bl j).length <n
    ·have hn1:((AI n bl j).length:Int)<(n:Int):=by omega
     have HST:=hid (IQ (by rw[hgd];exact hz) hn);have HGD:=hid hgd;clear hgd;obtain⟨bj,hbj⟩:∃bj,bl[j] =bj:=⟨_,rfl⟩;rw[hbj]at HGD HR1 p1' hz1 hz;clear hbj;go_wp2_with fail
     go_quiet ((go_at_call 174;exact Calls.quiet_of_same GJ))
     ·go_wp2_with (first
       |(at_builtin;refine As rfl (.tmp 31) (.tmp 33) 25 rfl _ _ (by rfl) (by rfl) (HPK.out.addNum (b:=wr.heap.size) (j:=j) hsz (by repeat(with_reducible first|exact Below.refl _ _|apply Af|apply Ar|apply AP)) (by exact Blk.new _ _ _) (by omega) (by omega)) ?_;rintro v8 w8 ⟨A8,c8,rfl,p8,b8,s8⟩;have P8:=hid p8;have B8:=hid b8;clear p8 b8)
       |(at_builtin;refine As rfl (.tmp 35) (.tmp 37) 83 rfl _ _ (by rfl) (by rfl) (P8.out.addRef (b:=w8.heap.size) (f:=fk) (L:=bj) s8 (Af (Below.refl _ _) _) (Blk.new _ _ _) (HR1.out _ ((HBW.out.trans (B8.out.mono (by omega))).trans (((Below.refl _ _).alloc (Nat.le_refl _) _).mono (by omega)))) HT1.out (by rw[Ba];omega)) ?_;rintro v9 w9 ⟨A9,c9,f9,rfl,p9,b9,s9⟩;have P9:=hid p9;have B9:=hid b9;clear p9 b9))
      go_roundw
      case rel =>
       have hpp:=P9.out;have em:BK bl (AI n bl j) ++ [bj] =BK bl (AI n bl (j+1)):=by rw[HST.out];simp[BK,← HGD.out]
       rw[em,← HST.out]at hpp;have el:(AI n bl (j+1)).length =(AI n bl j).length +1:=by rw[HST.out];simp
       refine⟨j+1,A8,c8,A9,c9,f9,by omega,by go_num,by rw[el],by rw[el,Ba],?_,(HXB.out.below B8.out (by omega)).below B9.out (by omega),(HBW.out.trans (B8.out.mono (by omega))).trans (B9.out.mono (by omega)),s9⟩;rw[el]at *;exact hpp
      case measure => simp[intOf];omega
    ·have hn1:¬((AI n bl j).length:Int)<(n:Int):=by omega
     have HST:=hid (ET (n:=n) (bl:=bl) (j:=j) (.inr (by omega)));go_wp2_with fail
     go_quiet ((go_at_call 174;exact Calls.quiet_of_same GJ))
     ·go_wp2_with fail
      go_roundw
      case rel => exact⟨j+1,A6,c6,A7,c7,fs,by omega,by go_num,by rw[HST.out],by rw[HST.out],by rw[HST.out];exact HPK.out.below (AP (Below.refl _ _) _),HXB.out.drewN _,AP HBW.out _,hsz⟩
      case measure => simp[intOf];omega
   ·have hz1:¬(0:Int)<(bl[j].length:Int):=by omega
    have hz2:decide ((0:Int)<(bl[j].length:Int))=false:=by simpa using hz1
    have HST:=hid (ET (n:=n) (bl:=bl) (j:=j) (.inl (by rw[hgd];exact hz)));go_wp2_with fail
    go_quiet (fail)
    ·go_wp2_with fail
     go_roundw
     case rel => exact⟨j+1,A6,c6,A7,c7,fs,by omega,by go_num,by rw[HST.out],by rw[HST.out],by rw[HST.out];exact HPK.out.below (AP (Below.refl _ _) _),HXB.out.drewN _,AP HBW.out _,hsz⟩
     case measure => simp[intOf];omega
  ·obtain rfl:j=bl.length:=by omega
   obtain⟨hv,hhv⟩:∃hv,AI n bl bl.length=hv:=⟨_,rfl⟩;rw[hhv]at HPK hle⊢;by_cases hn:hv.length<n
   ·have hn1:((hv.length:Nat):Int)<(n:Int):=by omega
    have hd:Da n bl=none:=by unfold Da;rw[hhv,if_pos hn]
    go_wp2_with fail
    go_quiet ((go_at_call 174;exact Calls.quiet_of_same GJ))
    go_wp2_with fail
    go_ret2
    exact .inr ⟨hd,rfl,by rw[HG.out];exact AP HBW.out _⟩
   have hvn:hv.length=n:=by omega
   have hn1:¬((hv.length:Nat):Int)<(n:Int):=by omega
   have HD:=hid (show Da n bl=some (Fm n bl hv n)from by unfold Da;rw[hhv,if_neg hn]);have HPART:=hid (show∀i,i<n+2→∃L,Fi n hv i 0=some L∧L.length=n∧Dt n bl hv i=Eg 4 (BK bl hv) L∧(Dt n bl hv i).length =4 from fun i hi => by
    have:=Eu h1 h3 hb HO.out (by rw[hhv];exact hvn) hi;rwa [hhv]at this)
   have HLEN:=hid (show∀i,i≤n→(Fm n bl hv i).length =i * 4 from fun i hi => by
    have:=Ei h1 h3 hb HO.out (by rw[hhv];exact hvn) i hi;rwa [hhv]at this)
   have HMS:=hid (show∀l,l∈BK bl hv→l.length=4 from by rw[← hhv];exact EQ HO.out);have HVL:=hid (show∀k,k∈hv→k≤50 from fun k hk => by rw[← hhv]at hk;have:=Gf (Gd hk);omega);obtain⟨g6,r6,-⟩:=HPK.out.nums.reads;obtain⟨g7,r7,-⟩:=HPK.out.lists.reads;have R6:=hid r6;have R7:=hid r7;have gz:g<wr.heap.size:=by omega
   have gz2:g≤wr.heap.size:=by omega
   clear r6 r7 hhv;subst hvn;go_wp2_with fail
   go_quiet ((go_at_call 174;exact Calls.quiet_of_same GJ))
   have c0q:(wr.drewN nq).cell? ⟨g,0,none⟩=some (int i64 (hv.length:Int)):=c0;have gzq:g<(wr.drewN nq).heap.size:=gz;have c0a:((wr.drewN nq).alloc (.cells #[] 5)).cell? ⟨g,0,none⟩=some (int i64 (hv.length:Int)):=((Af (AP (Below.refl _ _) nq) _).cell (p:=⟨g,0,none⟩) gz).trans c0;go_wp2_with fail
   obtain⟨u,hu⟩:∃u,u=wr:=⟨_,rfl⟩;subst hu;go_loopw [48,10,11] (fun i o _ wr =>∃(k:Nat) (A:Option Addr) (c3:Nat),k≤hv.length∧i= int i64 k∧o= .slice A (k * 4) c3∧Al 1 5 Ah wr u.heap.size o (Fm hv.length bl hv k) []∧Below u.heap.size u wr) (fun i _ _ _ => hv.length - (intOf i).toNat)
   case atStart => exact⟨0,_,0,by omega,rfl,rfl,Al.emptyB,Af (AP (Below.refl _ _) _) _⟩
   case round =>
    obtain⟨k,A,c3,hk,rfl,rfl,ho,hb3⟩:=hrel;have HO3:=hid ho;have HB3:=hid hb3;have c0':=(hb3.cell (p:=⟨g,0,none⟩) gz).trans c0;have c1'':=(hb3.cell (p:=⟨g,1,none⟩) gz).trans c1';clear ho hb3;by_cases hkn:k<hv.length
    ·obtain⟨L,eL,lL,eM,lM⟩:=HPART.out k (by omega);have HC1:=hid (Ql hv.length s k hv _ g6 wr L (rSl.below Ay.local_ Ay.fixed (by simpa using R6.out) HB3.out) rfl (by omega) HVL.out (by omega) eL lL);have HC2:=hid (fun(W:World) (A4:Option Addr) (c4:Nat) (f4:List Addr) (hW:Below wr.heap.size wr W) (h4:Ag W f4 (.slice A4 L.length c4) L) => KC (.slice A7 hv.length c7) (.slice A4 L.length c4) (BK bl hv) L 4 (g7 ++ fs) f4 W (rSl.below Ap.loc Ap.fix R7.out (HB3.out.trans (hW.mono HB3.out.size))) h4 (by rw[Ba];omega) HMS.out (by rw[Ba,lL];exact Nat.le_refl _) (by omega));rw[← eM]at HC2;have hst:=H7 hv.length bl hv k;have hla:=HLEN.out k hk;have HST:=hid hst;have HLA:=hid hla;obtain⟨D,hD⟩:∃D,Dt hv.length bl hv k=D:=⟨_,rfl⟩;rw[hD]at HC2 HST lM;rw[lL]at HC2;have HLM:=hid lM;have HLL:=hid lL;clear eL eM hst hla hD lL lM;go_wp2_with (first
      |(go_at_call 261;refine HC1.out.mono ?_;rintro e w4 ⟨A4,c4,f4,rfl,r4,m4,b4⟩;rw[HLL.out]at r4⊢;have R4:=hid r4;have B4:=hid b4;clear r4 m4 b4)
      |(go_at_call 181;refine(HC2.out _ _ _ _ B4.out R4.out).mono ?_;rintro e w5 ⟨A5,c5,f5,rfl,r5,m5,b5⟩;rw[HLM.out]at r5⊢;have HAP:=hid (Tryz.appendBytes HO3.out HB3.out.size (B4.out.trans (b5.mono B4.out.size)) r5 (fun a ha => by have:=m5.from_ a ha;have:=B4.out.size;omega) (by rw[HLA.out,HLM.out];omega));rw[HLA.out,HLM.out,← HST.out]at HAP;clear r5 m5 b5)
      |(at_builtin;refine As rfl (.tmp 51) (.tmp 57) 39 rfl _ _ (by rfl) (by rfl) HAP.out ?_;rintro v6 w6 ⟨A6',c6',rfl,o6,B6,e6⟩;have HO6:=hid o6;have HB6:=hid B6;clear o6 B6))
     go_roundw
     case rel => exact⟨k+1,A6',c6',by omega,by go_num,by congr 1;omega,HO6.out,HB3.out.trans HB6.out⟩
     case measure => simp[intOf];omega
    ·obtain rfl:k=hv.length:=by omega
     go_wp2_with fail
     go_ret2
     obtain⟨gs,r8,m8⟩:=HO3.out.readsMine FK;have hla:=HLEN.out _ hk;exact .inl ⟨_,A,c3,gs,HD.out,by rw[hla];rfl,by rw[hla];exact r8,m8.mono (by rw[HG.out];exact gz2),by rw[HG.out];exact HBW.out.trans (HB3.out.mono gz2)⟩
def OptL(L?:Option (List (List UInt8)))(w:World)(e:Ending)(w':World):Prop :=
 (∃L A c fs,L? =some L∧e= .returned (.tuple #[.slice A L.length c,.bool true])∧Ap w' fs (.slice A L.length c) L∧Az w.heap.size w' fs∧Below w.heap.size w w')∨(L? =none∧e= .returned (.tuple #[.slice none 0 0,.bool false])∧Below w.heap.size w w')
def DQ(m n:Nat)(bl:List (List UInt8))(hv:List Nat)(p:Nat):List UInt8:=Eg m (BK bl hv) ((Fi n hv p 8).getD [])
def Ea(m n:Nat)(bl:List (List UInt8))(hv:List Nat)(k:Nat):List (List UInt8):=(List.range k).map (DQ m n bl hv)
def EF(m n s:Nat)(bl:List (List UInt8)):Option (List (List UInt8)):=if(AI n bl bl.length).length <n then none else some (Ea m n bl (AI n bl bl.length) (n+s))
theorem JS(m n:Nat)(bl:List (List UInt8))(hv:List Nat)(i:Nat):Ea m n bl hv (i+1)=Ea m n bl hv i ++ [DQ m n bl hv i]:=by
 unfold Ea;rw[List.range_succ,List.map_append];rfl
theorem DT(m n:Nat)(bl:List (List UInt8))(hv:List Nat)(i:Nat):(Ea m n bl hv i).length =i:=by simp[Ea]
theorem Fu {m n:Nat} {bl:List (List UInt8)} {i:Nat}(h1:1≤n)(h3:n≤4)(hb:bl.length≤n+2)(hO:C5 bl m)(hv:(AI n bl bl.length).length =n)(hi:i<n+2):∃L,Fi n (AI n bl bl.length) i 8=some L∧L.length=n∧DQ m n bl (AI n bl bl.length) i=Eg m (BK bl (AI n bl bl.length)) L∧(DQ m n bl (AI n bl bl.length) i).length =m:=by
 obtain⟨L,e,hL⟩:=wts_col h1 h3 hv (JN hb) hi;have e2:DQ m n bl (AI n bl bl.length) i=Eg m (BK bl (AI n bl bl.length)) L:=by unfold DQ;rw[e];rfl
 exact⟨L,e,hL,e2,by rw[e2];exact EJ (EQ hO) (by rw[Ba,hv,hL];exact Nat.le_refl _)⟩
theorem Tryz.addFresh {wr W:World} {base b:Nat} {v ve:Value} {ds:List (List UInt8)} {L:List UInt8} {fs f:List Addr}(ho:Al 1 39 (Ak 1 Ah) wr base v ds fs)(hm:Az base wr fs)(hbase:base≤wr.heap.size)(hn:ds.length+1≤1000000000) {w2:World}(B2:Below wr.heap.size wr w2)(he:Ag w2 f ve L)(hf:Az wr.heap.size w2 f)(B5:Below w2.heap.size w2 W)(hblk:Blk W b 39 #[ve]) :
  ∃v' w',(Builtin.append_ #[83,83] 83 #[v,.slice (some ⟨b,0,none⟩) 1 1]).run Tryz.prog W= .ok v' w'∧∃A c h,v'= .slice A (ds.length+1) c∧Al 1 39 (Ak 1 Ah) w' base v' (ds ++ [L]) (fs ++ h)∧Az base w' (fs ++ h)∧Below base wr w'∧wr.heap.size≤w'.heap.size :=
 Hm (P:=Tryz.prog) 83 83 (.slice none 0 0) 24 Tryz.underlying83 Tryz.infoBytes rfl (by decide) Ap.loc Ap.fix Ak.ones (by omega) ho hm hbase hn (us:=[ve]) (f:=f) (d:=L) B2 ⟨ve,rfl,he⟩ hf rfl B5 hblk
theorem colAll_c(n s:Nat)(hn:n≤100)(hs:s≤100)(w:World):Calls Tryz.prog 191 #[.agg #[int i64 (n:Int),int i64 (s:Int)]] w fun e w' => e= .returned (int i64 ((n+s:Nat):Int))∧Below w.heap.size w w':=by
 go_enter Tryz.func191,Tryz.ntmps191
 go_wp2_with fail
 go_ret
 exact⟨by go_num,Af (Below.refl _ _) _⟩
theorem Ng(n s:Nat)(v:Value)(bl:List (List UInt8))(f:List Addr)(w:World)(m:Nat)(h:Ap w f v bl)(h1:1≤n)(h3:n≤4)(hs2:s≤2)(hb:bl.length≤n+2)(hO:C5 bl m)(hm:m≤1000) :
  Calls Tryz.prog 110 #[.agg #[int i64 (n:Int),int i64 (s:Int)],v] w (OptL (EF m n s bl) w):=by
 have TF:=hid (rSl.there Ap.fix h);obtain⟨A1,c1,rfl,hc1,hm1,hx⟩:=Ap.open_ h;have HX:=hid hx;have HO:=hid hO;clear h hx hO;go_enter Tryz.func110,Tryz.ntmps110
 go_wp2_with fail
 have hP:=CB.start (lo:=w.heap.size+1) ((Blk.new1 w (.cells #[int i64 (n:Int),int i64 (s:Int)] 96) 2 #[]).alloc (.cells #[] 39)) (Blk.new2 w (.cells #[int i64 (n:Int),int i64 (s:Int)] 96) (.cells #[] 2) 39 #[]) (Nat.le_refl _) (by omega) (by omega);have hBx:=((Blk.new w 96 #[int i64 (n:Int),int i64 (s:Int)]).alloc (.cells #[] 2)).alloc (.cells #[] 39);have hB0:=Af (Af (Af (Below.refl w.heap.size w) (.cells #[int i64 (n:Int),int i64 (s:Int)] 96)) (.cells #[] 2)) (.cells #[] 39);have HP:=hid hP;have HBx:=hid hBx;have HB0:=hid hB0;obtain⟨g,hg⟩:∃g,w.heap.size=g:=⟨_,rfl⟩;rw[hg]at HP HBx HB0⊢;have HG:=hid hg;clear hP hBx hB0 hg;go_loopw [16,6,7,8,9] (fun i v6 v7 _ _ wr =>∃(j:Nat) (A6:Option Addr) (c6:Nat) (A7:Option Addr) (c7:Nat) (fs:List Addr),j≤bl.length∧i= int i64 j∧v6= .slice A6 (AI n bl j).length c6∧v7= .slice A7 (AI n bl j).length c7∧CB wr (g+1) v6 v7 (AI n bl j) (BK bl (AI n bl j)) fs∧Blk wr g 96 #[int i64 (n:Int),int i64 (s:Int)]∧Below g w wr∧g+1≤wr.heap.size) (fun i _ _ _ _ _ => bl.length - (intOf i).toNat)
 case atStart =>
  refine⟨0,_,_,_,_,[],by omega,rfl,by rw[DC];rfl,by rw[DC];rfl,?_,HBx.out,HB0.out,by have:=HG.out;simp;omega⟩;rw[DC];exact HP.out
 case round =>
  obtain⟨j,A6,c6,A7,c7,fs,hj,rfl,rfl,rfl,hp,hx,hbw,hsz⟩:=hrel;have c0:wr.cell? ⟨g,0,none⟩=some (int i64 (n:Int)):=by rw[hx.cell];rfl
  have c1':wr.cell? ⟨g,1,none⟩=some (int i64 (s:Int)):=by rw[hx.cell];rfl
  have hle:=Fs n bl j;have HPK:=hid hp;have HXB:=hid hx;have HBW:=hid hbw;clear hp hx hbw;by_cases hlt:j<bl.length
  ·obtain⟨ad,A2,c2,fk,e1,b1,p1,r1,t1,s1,-⟩:=HX.out j hlt;subst e1;rw[HG.out]at b1;have p1':=(HBW.out.cell (p:=ad.add j) b1).trans p1;have hgd:bl.getD j [] =bl[j]:=by simp[List.getD_eq_getElem?_getD,hlt]
   have HR1:=hid (show∀W,Below g w W→Ag W fk (.slice A2 bl[j].length c2) bl[j]from fun W hW => rSl.keep Ah.local_ r1 (AR.of_below (fun a ha => by have:=t1 a ha;rw[HG.out]at this;exact this) hW));have HT1:=hid (show∀a,a∈fk→a.block<g+1 from fun a ha => by have:=t1 a ha;rw[HG.out]at this;omega);clear p1 r1 t1 s1;by_cases hz:0<bl[j].length
   ·have hz1:(0:Int)<(bl[j].length:Int):=by omega
    by_cases hn:(AI n bl j).length <n
    ·have hn1:((AI n bl j).length:Int)<(n:Int):=by omega
     have HST:=hid (IQ (by rw[hgd];exact hz) hn);have HGD:=hid hgd;clear hgd;obtain⟨bj,hbj⟩:∃bj,bl[j] =bj:=⟨_,rfl⟩;rw[hbj]at HGD HR1 p1' hz1 hz;clear hbj;go_wp2_with fail
     go_quiet ((go_at_call 174;exact Calls.quiet_of_same GJ))
     ·go_wp2_with (first
       |(at_builtin;refine As rfl (.tmp 31) (.tmp 33) 25 rfl _ _ (by rfl) (by rfl) (HPK.out.addNum (b:=wr.heap.size) (j:=j) hsz (by repeat(with_reducible first|exact Below.refl _ _|apply Af|apply Ar|apply AP)) (by exact Blk.new _ _ _) (by omega) (by omega)) ?_;rintro v8 w8 ⟨A8,c8,rfl,p8,b8,s8⟩;have P8:=hid p8;have B8:=hid b8;clear p8 b8)
       |(at_builtin;refine As rfl (.tmp 35) (.tmp 37) 83 rfl _ _ (by rfl) (by rfl) (P8.out.addRef (b:=w8.heap.size) (f:=fk) (L:=bj) s8 (Af (Below.refl _ _) _) (Blk.new _ _ _) (HR1.out _ ((HBW.out.trans (B8.out.mono (by omega))).trans (((Below.refl _ _).alloc (Nat.le_refl _) _).mono (by omega)))) HT1.out (by rw[Ba];omega)) ?_;rintro v9 w9 ⟨A9,c9,f9,rfl,p9,b9,s9⟩;have P9:=hid p9;have B9:=hid b9;clear p9 b9))
      go_roundw
      case rel =>
       have hpp:=P9.out;have em:BK bl (AI n bl j) ++ [bj] =BK bl (AI n bl (j+1)):=by rw[HST.out];simp[BK,← HGD.out]
       rw[em,← HST.out]at hpp;have el:(AI n bl (j+1)).length =(AI n bl j).length +1:=by rw[HST.out];simp
       refine⟨j+1,A8,c8,A9,c9,f9,by omega,by go_num,by rw[el],by rw[el,Ba],?_,(HXB.out.below B8.out (by omega)).below B9.out (by omega),(HBW.out.trans (B8.out.mono (by omega))).trans (B9.out.mono (by omega)),s9⟩;rw[el]at *;exact hpp
      case measure => simp[intOf];omega
    ·have hn1:¬((AI n bl j).length:Int)<(n:Int):=by omega
     have HST:=hid (ET (n:=n) (bl:=bl) (j:=j) (.inr (by omega)));go_wp2_with fail
     go_quiet ((go_at_call 174;exact Calls.quiet_of_same GJ))
     ·go_wp2_with fail
      go_roundw
      case rel => exact⟨j+1,A6,c6,A7,c7,fs,by omega,by go_num,by rw[HST.out],by rw[HST.out],by rw[HST.out];exact HPK.out.below (AP (Below.refl _ _) _),HXB.out.drewN _,AP HBW.out _,hsz⟩
      case measure => simp[intOf];omega
   ·have hz1:¬(0:Int)<(bl[j].length:Int):=by omega
    have hz2:decide ((0:Int)<(bl[j].length:Int))=false:=by simpa using hz1
    have HST:=hid (ET (n:=n) (bl:=bl) (j:=j) (.inl (by rw[hgd];exact hz)));go_wp2_with fail
    go_quiet (fail)
    ·go_wp2_with fail
     go_roundw
     case rel => exact⟨j+1,A6,c6,A7,c7,fs,by omega,by go_num,by rw[HST.out],by rw[HST.out],by rw[HST.out];exact HPK.out.below (AP (Below.refl _ _) _),HXB.out.drewN _,AP HBW.out _,hsz⟩
     case measure => simp[intOf];omega
  ·obtain rfl:j=bl.length:=by omega
   obtain⟨hv,hhv⟩:∃hv,AI n bl bl.length=hv:=⟨_,rfl⟩;rw[hhv]at HPK hle⊢;by_cases hn:hv.length<n
   ·have hn1:((hv.length:Nat):Int)<(n:Int):=by omega
    have hd:EF m n s bl=none:=by unfold EF;rw[hhv,if_pos hn]
    go_wp2_with fail
    go_quiet ((go_at_call 174;exact Calls.quiet_of_same GJ))
    go_wp2_with fail
    go_ret2
    exact .inr ⟨hd,rfl,by rw[HG.out];exact AP HBW.out _⟩
   have hvn:hv.length=n:=by omega
   have hn1:¬((hv.length:Nat):Int)<(n:Int):=by omega
   have HD:=hid (show EF m n s bl=some (Ea m n bl hv (n+s))from by unfold EF;rw[hhv,if_neg hn]);have HPART:=hid (show∀i,i<n+2→∃L,Fi n hv i 8=some L∧L.length=n∧DQ m n bl hv i=Eg m (BK bl hv) L∧(DQ m n bl hv i).length =m from fun i hi => by
    have:=Fu h1 h3 hb HO.out (by rw[hhv];exact hvn) hi;rwa [hhv]at this)
   have HMS:=hid (show∀l,l∈BK bl hv→l.length=m from by rw[← hhv];exact EQ HO.out);have HVL:=hid (show∀k,k∈hv→k≤50 from fun k hk => by rw[← hhv]at hk;have:=Gf (Gd hk);omega);obtain⟨g6,r6,-⟩:=HPK.out.nums.reads;obtain⟨g7,r7,-⟩:=HPK.out.lists.reads;have R6:=hid r6;have R7:=hid r7;have gz:g<wr.heap.size:=by omega
   have gz2:g≤wr.heap.size:=by omega
   clear r6 r7 hhv;subst hvn;go_wp2_with fail
   go_quiet ((go_at_call 174;exact Calls.quiet_of_same GJ))
   have c0q:(wr.drewN nq).cell? ⟨g,0,none⟩=some (int i64 (hv.length:Int)):=c0;have gzq:g<(wr.drewN nq).heap.size:=gz;have c0a:((wr.drewN nq).alloc (.cells #[] 39)).cell? ⟨g,0,none⟩=some (int i64 (hv.length:Int)):=((Af (AP (Below.refl _ _) nq) _).cell (p:=⟨g,0,none⟩) gz).trans c0;have c1a:((wr.drewN nq).alloc (.cells #[] 39)).cell? ⟨g,1,none⟩=some (int i64 (s:Int)):=((Af (AP (Below.refl _ _) nq) _).cell (p:=⟨g,1,none⟩) gz).trans c1';go_wp2_with (go_at_call 191;refine(colAll_c _ _ (by omega) (by omega) _).mono ?_;rintro e w9 ⟨rfl,b9⟩;have B9:=hid b9;clear b9)
   obtain⟨u,hu⟩:∃u,u=wr:=⟨_,rfl⟩;subst hu;have hE:=(Al.emptyL (w:=u.drewN nq)).below Ap.loc Ap.fix B9.out;have hE2:=(Af (AP (Below.refl u.heap.size u) nq) (.cells #[] 39)).trans (B9.out.mono (by simp));have HE:=hid hE;have HE2:=hid hE2;clear hE hE2;go_loopw [48,10,11] (fun i o _ wr =>∃(k:Nat) (A:Option Addr) (c3:Nat) (fo:List Addr),k≤hv.length+s∧i= int i64 k∧o= .slice A k c3∧Al 1 39 (Ak 1 Ah) wr u.heap.size o (Ea m hv.length bl hv k) fo∧Az u.heap.size wr fo∧Below u.heap.size u wr) (fun i _ _ _ => hv.length+s - (intOf i).toNat)
   case atStart => exact⟨0,_,0,[],by omega,rfl,rfl,HE.out,FK,HE2.out⟩
   case round =>
    obtain⟨k,A,c3,fo,hk,rfl,rfl,ho,hmo,hb3⟩:=hrel;have HO3:=hid ho;have HB3:=hid hb3;have HMO:=hid hmo;have c0':=(hb3.cell (p:=⟨g,0,none⟩) gz).trans c0;have c1'':=(hb3.cell (p:=⟨g,1,none⟩) gz).trans c1';clear ho hb3 hmo;by_cases hkn:k<hv.length+s
    ·obtain⟨L,eL,lL,eM,lM⟩:=HPART.out k (by omega);have HC1:=hid (share_c hv.length s k hv _ g6 wr L (rSl.below Ay.local_ Ay.fixed (by simpa using R6.out) HB3.out) rfl (by omega) HVL.out (by omega) eL lL);have HC2:=hid (fun(W:World) (A4:Option Addr) (c4:Nat) (f4:List Addr) (hW:Below wr.heap.size wr W) (h4:Ag W f4 (.slice A4 L.length c4) L) => KC (.slice A7 hv.length c7) (.slice A4 L.length c4) (BK bl hv) L m (g7 ++ fs) f4 W (rSl.below Ap.loc Ap.fix R7.out (HB3.out.trans (hW.mono HB3.out.size))) h4 (by rw[Ba];omega) HMS.out (by rw[Ba,lL];exact Nat.le_refl _) (by omega));rw[← eM]at HC2;have hst:=JS m hv.length bl hv k;have hla:=DT m hv.length bl hv k;have HST:=hid hst;have HLA:=hid hla;obtain⟨D,hD⟩:∃D,DQ m hv.length bl hv k=D:=⟨_,rfl⟩;rw[hD]at HC2 HST lM;rw[lL]at HC2;have HLM:=hid lM;have HLL:=hid lL;clear eL eM hst hla hD lL lM;go_wp2_with (first
      |(go_at_call 192;refine HC1.out.mono ?_;rintro e w4 ⟨A4,c4,f4,rfl,r4,m4,b4⟩;rw[HLL.out]at r4⊢;have R4:=hid r4;have B4:=hid b4;clear r4 m4 b4)
      |(go_at_call 181;refine(HC2.out _ _ _ _ B4.out R4.out).mono ?_;rintro e w5 ⟨A5,c5,f5,rfl,r5,m5,b5⟩;rw[HLM.out]at r5⊢;have HAP:=hid (Tryz.addFresh (b:=w5.heap.size) HO3.out HMO.out HB3.out.size (by rw[HLA.out];omega) (B4.out.trans (b5.mono B4.out.size)) r5 (m5.mono B4.out.size) (Af (Below.refl _ _) _) (Blk.new _ _ _));rw[HLA.out,← HST.out]at HAP;clear r5 m5 b5)
      |(at_builtin;refine As rfl (.tmp 51) (.tmp 58) 83 rfl _ _ (by rfl) (by rfl) HAP.out ?_;rintro v6 w6 ⟨A6',c6',h6',rfl,o6,m6,B6,e6⟩;have HO6:=hid o6;have HM6:=hid m6;have HB6:=hid B6;clear o6 B6 m6))
     go_roundw
     case rel => exact⟨k+1,A6',c6',_,by omega,by go_num,rfl,HO6.out,HM6.out,HB3.out.trans HB6.out⟩
     case measure => simp[intOf];omega
    ·obtain rfl:k=hv.length+s:=by omega
     go_wp2_with fail
     go_ret2
     obtain⟨gs,r8,m8⟩:=HO3.out.readsMine HMO.out;have hla:=DT m hv.length bl hv (hv.length+s);exact .inl ⟨_,A,c3,gs,HD.out,by rw[hla];rfl,by rw[hla];exact r8,m8.mono (by rw[HG.out];exact gz2),by rw[HG.out];exact HBW.out.trans (HB3.out.mono gz2)⟩
def JV(n:Nat)(bl:List (List UInt8))(want:Nat):Option (List UInt8):=if(AI n bl bl.length).length <n then none else some (Dt n bl (AI n bl bl.length) want)
theorem Pq {n j:Nat} {bl:List (List UInt8)}(hj:j≤bl.length)(h:¬j<bl.length∨¬(AI n bl j).length <n):AI n bl j=AI n bl bl.length:=by
 by_cases hl:j<bl.length
 ·have h2:(AI n bl j).length =n:=by
   have:=Fs n bl j;rcases h with h|h
   ·exact absurd hl h
   ·omega
  have:=IB h2 (bl.length - j);rw[show j+(bl.length - j)=bl.length by omega]at this;exact this.symm
 ·rw[show j=bl.length by omega]
theorem Px(n want:Nat)(v:Value)(bl:List (List UInt8))(f:List Addr)(w:World)(h:Ap w f v bl)(h1:1≤n)(h3:n≤3)(hw:want<n+2)(hb:bl.length≤n+2)(hO:C5 bl 4) :
  Calls Tryz.prog 239 #[int i64 (n:Int),v,int i64 (want:Int)] w (GX (JV n bl want) w):=by
 obtain⟨A1,c1,rfl,hc1,hm1,hx⟩:=Ap.open_ h;have HX:=hid hx;have HO:=hid hO;clear h hx hO;go_enter Tryz.func239,Tryz.ntmps239
 go_wp2_with fail
 have hP:=CB.start (lo:=w.heap.size) ((Blk.new w 2 #[]).alloc (.cells #[] 39)) (Blk.new1 w (.cells #[] 2) 39 #[]) (Nat.le_refl _) (by omega) (by omega);have hB0:=Af (Af (Below.refl w.heap.size w) (.cells #[] 2)) (.cells #[] 39);have HP:=hid hP;have HB0:=hid hB0;obtain⟨g,hg⟩:∃g,w.heap.size=g:=⟨_,rfl⟩;rw[hg]at HP HB0⊢;have HG:=hid hg;clear hP hB0 hg;go_loopw [8,9,10] (fun v6 v7 i wr =>∃(j:Nat) (A6:Option Addr) (c6:Nat) (A7:Option Addr) (c7:Nat) (fs:List Addr),j≤bl.length∧i= int i64 j∧v6= .slice A6 (AI n bl j).length c6∧v7= .slice A7 (AI n bl j).length c7∧CB wr g v6 v7 (AI n bl j) (BK bl (AI n bl j)) fs∧Below g w wr∧g≤wr.heap.size) (fun _ _ i _ => bl.length - (intOf i).toNat)
 case atStart =>
  refine⟨0,_,_,_,_,[],by omega,rfl,by rw[DC];rfl,by rw[DC];rfl,?_,HB0.out,by have:=HG.out;simp;omega⟩;rw[DC];exact HP.out
 case round =>
  obtain⟨j,A6,c6,A7,c7,fs,hj,rfl,rfl,rfl,hp,hbw,hsz⟩:=hrel;have hle:=Fs n bl j;have HPK:=hid hp;have HBW:=hid hbw;clear hp hbw;by_cases hboth:j<bl.length∧(AI n bl j).length <n
  ·obtain⟨hlt,hn⟩:=hboth;have hn1:((AI n bl j).length:Int)<(n:Int):=by omega
   obtain⟨ad,A2,c2,fk,e1,b1,p1,r1,t1,s1,-⟩:=HX.out j hlt;subst e1;rw[HG.out]at b1;have p1':=(HBW.out.cell (p:=ad.add j) b1).trans p1;have hgd:bl.getD j [] =bl[j]:=by simp[List.getD_eq_getElem?_getD,hlt]
   have HR1:=hid (show∀W,Below g w W→Ag W fk (.slice A2 bl[j].length c2) bl[j]from fun W hW => rSl.keep Ah.local_ r1 (AR.of_below (fun a ha => by have:=t1 a ha;rw[HG.out]at this;exact this) hW));have HT1:=hid (show∀a,a∈fk→a.block<g from fun a ha => by have:=t1 a ha;rw[HG.out]at this;exact this);have b1w:(ad.add j).block <wr.heap.size:=Nat.lt_of_lt_of_le b1 hsz;clear p1 r1 t1 s1;by_cases hz:0<bl[j].length
   ·have hz1:(0:Int)<(bl[j].length:Int):=by omega
    have HST:=hid (IQ (by rw[hgd];exact hz) hn);have HGD:=hid hgd;clear hgd;obtain⟨bj,hbj⟩:∃bj,bl[j] =bj:=⟨_,rfl⟩;rw[hbj]at HGD HR1 p1' hz1 hz;clear hbj;go_wp2_with (first
     |(at_builtin;refine As rfl (.tmp 31) (.tmp 33) 25 rfl _ _ (by rfl) (by rfl) (HPK.out.addNum (b:=wr.heap.size) (j:=j) hsz (Af (Below.refl _ _) _) (Blk.new _ _ _) (by omega) (by omega)) ?_;rintro v8 w8 ⟨A8,c8,rfl,p8,b8,s8⟩;have q8:=(b8.cell (p:=ad.add j) b1).trans p1';have P8:=hid p8;have B8:=hid b8;clear p8 b8)
     |(at_builtin;refine As rfl (.tmp 35) (.tmp 40) 83 rfl _ _ (by rfl) (by rfl) (P8.out.addRef (b:=w8.heap.size) (f:=fk) (L:=bj) s8 (Af (Below.refl _ _) _) (Blk.new _ _ _) (HR1.out _ ((HBW.out.trans B8.out).trans (((Below.refl _ _).alloc (Nat.le_refl _) _).mono (by omega)))) HT1.out (by rw[Ba];omega)) ?_;rintro v9 w9 ⟨A9,c9,f9,rfl,p9,b9,s9⟩;have P9:=hid p9;have B9:=hid b9;clear p9 b9))
    go_roundw
    case rel =>
     have hpp:=P9.out;have em:BK bl (AI n bl j) ++ [bj] =BK bl (AI n bl (j+1)):=by rw[HST.out];simp[BK,← HGD.out]
     rw[em,← HST.out]at hpp;have el:(AI n bl (j+1)).length =(AI n bl j).length +1:=by rw[HST.out];simp
     refine⟨j+1,A8,c8,A9,c9,f9,by omega,by go_num,by rw[el],by rw[el,Ba],?_,(HBW.out.trans B8.out).trans B9.out,s9⟩;rw[el]at *;exact hpp
    case measure => simp[intOf];omega
   ·have hz1:¬(0:Int)<(bl[j].length:Int):=by omega
    have HST:=hid (ET (n:=n) (bl:=bl) (j:=j) (.inl (by rw[hgd];exact hz)));go_wp2_with fail
    go_roundw
    case rel => exact⟨j+1,A6,c6,A7,c7,fs,by omega,by go_num,by rw[HST.out],by rw[HST.out],by rw[HST.out];exact HPK.out,HBW.out,hsz⟩
    case measure => simp[intOf];omega
  ·have hcase:(¬j<bl.length)∨(j<bl.length∧¬(AI n bl j).length <n):=by
    by_cases h:j<bl.length
    ·exact .inr ⟨h,fun h2 => hboth ⟨h,h2⟩⟩
    ·exact .inl h
   have hdone:=Pq (n:=n) hj (by rcases hcase with h|h;exact .inl h;exact .inr h.2);have hmem:∀k,k∈AI n bl bl.length→k≤50:=fun k hk => by have:=Gf (Gd hk);omega
   have hpart:=fun hv => Eu h1 h3 hb HO.out hv hw
   have hms:=EQ (n:=n) (j:=bl.length) HO.out;have hbf:JV n bl want=if(AI n bl bl.length).length <n then none else some (Dt n bl (AI n bl bl.length) want):=rfl
   rw[hdone]at HPK hcase hle⊢;clear hdone hboth;obtain⟨hv,hhv⟩:∃hv,AI n bl bl.length=hv:=⟨_,rfl⟩;rw[hhv]at HPK hcase hle hmem hpart hms hbf⊢;clear hhv;by_cases hn:hv.length<n
   ·have hn1:((hv.length:Nat):Int)<(n:Int):=by omega
    rw[if_pos hn]at hbf;rcases hcase with hc|⟨hc,hc'⟩
    ·go_wp2_with fail
     go_ret2
     exact .inr ⟨hbf,rfl,by rw[HG.out];exact HBW.out⟩
    ·exact absurd hn hc'
   rw[if_neg hn]at hbf;have hvn:hv.length=n:=by omega
   obtain⟨L,eL,lL,eM,lM⟩:=hpart hvn;have HBF:=hid hbf;have HMS:=hid hms;have HVL:=hid hmem;clear hbf hms hmem hpart hle hn;obtain⟨g6,r6,-⟩:=HPK.out.nums.reads;obtain⟨g7,r7,-⟩:=HPK.out.lists.reads;have HC1:=hid (Jn n want 0 hv _ g6 wr L (by simpa using r6) hvn (by omega) (by omega) HVL.out (by omega) (by omega) eL lL);have HC2:=hid (fun(W:World) (A4:Option Addr) (c4:Nat) (f4:List Addr) (hW:Below wr.heap.size wr W) (h4:Ag W f4 (.slice A4 L.length c4) L) => KP (.slice A7 hv.length c7) (.slice A4 L.length c4) (BK bl hv) L 4 (g7 ++ fs) f4 W (rSl.below Ap.loc Ap.fix r7 hW) h4 (by rw[Ba];omega) HMS.out (by rw[Ba,lL,hvn];exact Nat.le_refl _) (by omega));rw[← eM]at HC2;obtain⟨D,hD⟩:∃D,Dt n bl hv want=D:=⟨_,rfl⟩;rw[hD]at HC2 lM HBF;rw[lL]at HC2;have HLM:=hid lM;have HLL:=hid lL;subst hvn;clear eL eM hD lL lM r6 r7;rcases hcase with hc|⟨hc,hc'⟩
   all_goals
    go_wp2_with (first
     |(go_at_call 162;refine HC1.out.mono ?_;rintro e w4 ⟨A4,c4,f4,rfl,r4,m4,b4⟩;rw[HLL.out]at r4⊢;have R4:=hid r4;have B4:=hid b4;clear r4 m4 b4)
     |(go_at_call 161;refine(HC2.out _ _ _ _ B4.out R4.out).mono ?_;rintro e w5 ⟨A5,c5,f5,rfl,r5,m5,b5⟩;have R5:=hid r5;have M5:=hid m5;have B5:=hid b5;clear r5 m5 b5))
    go_ret2
    exact .inl ⟨D,A5,c5,f5,HBF.out,rfl,R5.out,M5.out.mono (by rw[HG.out];have:=B4.out.size;omega),by rw[HG.out];exact HBW.out.trans ((B4.out.trans (B5.out.mono B4.out.size)).mono hsz)⟩
theorem Kl(n:Nat)(v:Value)(bl:List (List UInt8))(f:List Addr)(w:World)(h:Ap w f v bl)(h1:1≤n)(h3:n≤3)(hb:bl.length≤n+2)(hO:C5 bl 4) :
  Calls Tryz.prog 160 #[int i64 (n:Int),v] w (GX (Da n bl) w):=by
 have H:=hid h;have HO:=hid hO;obtain⟨A1,c1,rfl,-⟩:=Ap.open_ h;clear h hO;go_enter Tryz.func160,Tryz.ntmps160
 go_wp2_with fail
 go_loopw [6,7,8,9] (fun o i _ _ wr =>∃(k:Nat) (A:Option Addr) (c3:Nat),k≤n∧(0<k→(AI n bl bl.length).length =n)∧i= int i64 k∧o= .slice A (k * 4) c3∧Al 1 5 Ah wr w.heap.size o (Fm n bl (AI n bl bl.length) k) []∧Below w.heap.size w wr) (fun _ i _ _ _ => n - (intOf i).toNat)
 case atStart => exact⟨0,_,0,by omega,(fun h => by omega),rfl,rfl,Al.emptyB,Af (Below.refl _ _) _⟩
 case round =>
  obtain⟨k,A,c3,hk,hpos,rfl,rfl,ho,hb3⟩:=hrel;have HO3:=hid ho;have HB3:=hid hb3;have HPOS:=hid hpos;clear ho hb3 hpos;by_cases hkn:k<n
  ·have HC:=hid (Px n k _ bl f wr (rSl.below Ap.loc Ap.fix H.out HB3.out) h1 h3 (by omega) hb HO.out);go_wp2_with fail
   refine HC.out.mono ?_;rintro e w4 (⟨L,A4,c4,f4,e4,rfl,r4,m4,b4⟩|⟨e4,rfl,b4⟩)
   ·unfold JV at e4;split at e4
    ·cases e4
    rename_i hn
    injection e4 with e4
    have hvn:(AI n bl bl.length).length =n:=by have:=Fs n bl bl.length;omega
    obtain⟨-,-,-,-,hLp⟩:=Eu h1 h3 hb HO.out hvn (show k<n+2 by omega);rw[e4]at hLp;have hla:=Ei h1 h3 hb HO.out hvn k hk;have hst:=H7 n bl (AI n bl bl.length) k;rw[e4]at hst;have HAP:=hid (Tryz.appendBytes HO3.out HB3.out.size b4 r4 (fun a ha => m4.from_ a ha) (by rw[hla,hLp];omega));rw[hla,hLp,← hst]at HAP;rw[hLp];clear r4 m4 b4 hst hla;go_wp2_with (at_builtin;refine As rfl (.tmp 25) (.tmp 26) 39 rfl _ _ (by rfl) (by rfl) HAP.out ?_;rintro v6 w6 ⟨A6,c6,rfl,o6,B6,e6⟩;have HO6:=hid o6;have HB6:=hid B6;clear o6 B6)
    go_roundw
    case rel => exact⟨k+1,A6,c6,by omega,(fun _ => hvn),by go_num,by congr 1;omega,HO6.out,HB3.out.trans HB6.out⟩
    case measure => simp[intOf];omega
   ·have hdn:Da n bl=none:=by
     unfold JV at e4;unfold Da;split at e4
     ·rename_i hn;rw[if_pos hn]
     ·cases e4
    have B4:=hid b4;have HD:=hid hdn;clear e4 b4 hdn;go_wp2_with fail
    go_ret2
    exact .inr ⟨HD.out,rfl,HB3.out.trans (B4.out.mono HB3.out.size)⟩
  ·obtain rfl:k=n:=by omega
   have hvn:=HPOS.out (by omega);have hla:=Ei h1 h3 hb HO.out hvn k hk;have hd:Da k bl=some (Fm k bl (AI k bl bl.length) k):=by unfold Da;rw[if_neg (by omega)]
   have HD:=hid hd;clear hd;go_wp2_with fail
   go_ret2
   obtain⟨gs,r8,m8⟩:=HO3.out.readsMine FK;exact .inl ⟨_,A,c3,gs,HD.out,by rw[hla];rfl,by rw[hla];exact r8,m8,HB3.out⟩
end Go.Proofs.YtfjkoifpdoemdaaGreat
