/- Part 18 of the proof. -/
import Derived.Test.YtfjkoifpdoemdaaGreatJ17
set_option maxHeartbeats 8000000
set_option maxRecDepth 100000
set_option linter.unusedVariables false
set_option linter.unusedSimpArgs false
open Go.Proofs.Tryz
open Go.Value (int)
open Go.IntKind (i64)
namespace Go.Proofs.YtfjkoifpdoemdaaGreat
open Go.RowKit Go.Sort
theorem Tryz.kind_i64:prog.underlying 2=some (.int .i64):=by kernel_rfl
theorem wrap0:IntKind.i64.wrap 0=0:=by kernel_rfl
theorem Tryz.append_zeroW(w:World)(A:Option Addr)(n c:Nat)(h:n≤c)(ty:TypeId)(z:Int)(hz:IntKind.i64.wrap z=0):(Builtin.append_ #[39,2] ty #[.slice A n c,int i64 z]).run prog w= .ok (.slice A n c) w:=by
 obtain⟨i,hi,hz0,hz1,hz2⟩:=info_parts Tryz.info5;cases A <;> simp[Builtin.append_,run_underlying underlying39,run_underlying Tryz.kind_i64,sizeOf,typeInfo,hi,Builtin.lenOf,Builtin.firstCells,h,storeCells,asInt,asIntOf,hz]
theorem Tryz.append_zeroE(w:World)(A:Option Addr)(n c:Nat)(h:n≤c)(ty:TypeId)(z:Int)(hz:IntKind.i64.wrap z=0):∃v' w',(Builtin.append_ #[39,2] ty #[.slice A n c,int i64 z]).run prog w= .ok v' w'∧(v'= .slice A n c∧w'=w) :=
 ⟨_,_,Tryz.append_zeroW w A n c h ty z hz,rfl,rfl⟩
theorem By.drew_ {L:List UInt8} {w w':World} {e:Ending}(h:By L w e w'):By L w e w'.drew:=by
 obtain⟨A,c,fs,h1,h2,h3,h4⟩:=h;exact⟨A,c,fs,h1,rSl.keep Ai.local_ h2 (fun _ _ => rfl),h3.keep (fun _ _ => rfl),h4.trans ⟨rfl,rfl,rfl,aC _,fun _ _ => rfl⟩⟩
theorem KY {P:Program} {w:World} {ops:Array Oper} {o:Oper} {a:Act} {K:Act→World→Prop} {Q:Exit→Act→World→Prop} {E:Prop} {S:Value→World→Prop}(hgd:o.guard=none)(s x:Operand)(t t2:TypeId)
  (ho:o.op= .call { callee:=.builtin .append,args:=#[s,x],argTypes:=#[t,t2] }) (v u:Value) (hs:a.eval s=v) (hx:a.eval x=u) (hr:∃v' w',(Builtin.append_ #[t,t2] o.type #[v,u]).run P w= .ok v' w'∧S v' w')
  (h:∀v' w',S v' w'→K (a.put o.dst v') w'):if Region.wanted o (yielded ops a.tmps)=true then Oper.wp P o a w K Q else E:=by
 have hw:Region.wanted o (yielded ops a.tmps)=true:=by simp[Region.wanted,hgd]
 rw[aL hw];obtain⟨v',w',h1,h2⟩:=hr;unfold Oper.wp execOp;simp only[ho,resolve,invoke,builtin,Sem.run_bind,Sem.run_pure,Result.andThen_ok,List.map_toArray,List.map_cons,List.map_nil,hs,hx,h1];exact h v' w' h2
theorem D6(A:Option Addr)(n c:Nat)(w:World):Calls prog 174 #[.slice A n c] w fun e w' => e= .returned (int i64 (n:Int))∧w=w':=by
 go_enter func174,ntmps174
 go_wp2_with fail
 go_ret
 exact⟨rfl,rfl⟩
theorem share_c(n s want:Nat)(hv:List Nat)(v:Value)(f:List Addr)(w:World)(L:List UInt8)(h:AO w f v (Fa hv))(hl:hv.length=n)(hn:n≤20)(hk:∀k,k∈hv→k≤50)(hw:want≤50)(hS:FA n hv want 8=some L)(hL:L.length=n) :
  Calls prog 192 #[.agg #[int i64 (n:Int),int i64 (s:Int)],v,int i64 (want:Int)] w (By L w):=by
 obtain⟨A1,c1,rfl,hc1,hm1,hx⟩:=AO.open_ h;have HX:=U hx;have HHV:=U hk;have HS:=U hS;have HLL:=U hL;clear h hx hk hS hL;rw[Ct,hl]at hc1⊢;have HL:=U hl;clear hl;have hmk:=Tryz.makeLists n (by omega);go_enter func192,ntmps192
 go_wp2_with fail
 have hK:=Df.nil (lo:=w.heap.size+2) (Blk.new1 w (.cells #[int i64 (n:Int),int i64 (s:Int)] 96) 39 (madeCells #[.slice none 0 0] n)) (by omega);rw[← Hr n hv 8]at hK;have hBx:=(Blk.new w 96 #[int i64 (n:Int),int i64 (s:Int)]).alloc (.cells (madeCells #[.slice none 0 0] n) 39);have hB0:=Af (Af (aB w.heap.size w) (.cells #[int i64 (n:Int),int i64 (s:Int)] 96)) (.cells (madeCells #[.slice none 0 0] n) 39);have HK:=U hK;have HBx:=U hBx;have HB0:=U hB0;obtain⟨g,hg⟩:∃g,w.heap.size=g:=⟨_,rfl⟩;rw[hg]at HK HBx HB0⊢;have HG:=U hg;clear hK hBx hB0 hmk hg;go_loopw [22,9,10,11] (fun i _ _ _ wr =>∃(k:Nat) (vs:List Value),k≤n∧i= int i64 k∧Df wr (g+2) (g+1) (BE n hv 8 k 0) vs∧Blk wr g 96 #[int i64 (n:Int),int i64 (s:Int)]∧Below g w wr∧g+2≤wr.heap.size) (fun i _ _ _ _ => n - (intOf i).toNat)
 case atStart => exact⟨0,_,by omega,rfl,HK.o,HBx.o,HB0.o,by have:=HG.o;simp;omega⟩
 case round =>
  obtain⟨k,vs,hkn,rfl,hm,hx,hb,hsz⟩:=hrel;obtain⟨u,hu⟩:∃u,u=wr:=⟨_,rfl⟩;subst hu;have c0:u.cell? ⟨g,0,none⟩=some (int i64 (n:Int)):=by rw[hx.cell];rfl
  have c1:u.cell? ⟨g,1,none⟩=some (int i64 (s:Int)):=by rw[hx.cell];rfl
  by_cases hlt:k<n
  ·have hkl:k<hv.length:=by rw[HL.o];exact hlt
   obtain⟨ad,e1,m1,b1,p1,ok1⟩:=HX.o k (by rw[Ct];exact hkl);subst e1;rw[JW hkl]at p1;rw[HG.o]at b1;have p1':=(hb.cell (p:=ad.add k) b1).trans p1;have hkb:=HHV.o _ (aN hkl);have hgd:hv.getD k 0=hv[k]:=by simp[aJ,hkl]
   obtain⟨h1,hh1⟩:∃h1,hv[k] =h1:=⟨_,rfl⟩;rw[hh1]at p1' hkb hgd;have hww:=GQ n s h1 (by omega) hkb u;have HM:=U hm;have HXB:=U hx;have HB:=U hb;have HGD:=U hgd;have HWW:=U hww;clear hm hx hb p1 hh1 hgd hww m1;go_wp2_with fail
   refine HWW.o.mono ?_;rintro e w5 ⟨A5,c5,f5,rfl,r5,m5,b5⟩;rw[AT]at r5⊢;obtain⟨A6,c6,e6,hc6,hm6,hy⟩:=Ag.open_ r5;injection e6 with e61 e62 e63
   subst e61 e63;clear e62;have t5:=rSl.there Ai.fixed r5;have ff:IM w5 (g+1) vs f5:=fun a ha => by
    have ha2:=m5.from_ a ha;refine⟨t5 a ha,by omega,fun v hv2 e7 => ?_⟩;obtain⟨q,hq,rfl⟩:=aY hv2;have:=((HM.o.own q hq).lt _ e7).2;omega
   have M5:=U (HM.o.below b5);have X5:=U (HXB.o.below b5 (aE (by omega) hsz));have FF:=U ff;have R5:=U r5;have B5:=U (HB.o.trans (b5.mono (by omega)));have hsz5:g+2≤w5.heap.size:=bL hsz b5.size;clear t5 ff r5 m5 b5 HM HXB HB hy HWW;go_wp2_with fail
   go_loopw [30,10,11] (fun i _ _ w7 =>∃(j:Nat) (vs:List Value),j≤n∧i= int i64 j∧Df w7 (g+2) (g+1) (BE n hv 8 k j) vs∧Blk w7 g 96 #[int i64 (n:Int),int i64 (s:Int)]∧Below g w w7∧g+2≤w7.heap.size∧Ag w7 f5 (.slice A5 n c5) (Cl n h1 8)∧IM w7 (g+1) vs f5) (fun i _ _ _ => n - (intOf i).toNat)
   case atStart => exact⟨0,_,by omega,rfl,M5.o,X5.o,B5.o,hsz5,R5.o,FF.o⟩
   case round =>
    obtain⟨j,vs,hj,rfl,hm,hx,hb,hsz7,hr,hf⟩:=hrel;by_cases hjn:j<n
    ·obtain⟨A7,c7,e7,hc7,hm7,hy⟩:=Ag.open_ hr;injection e7 with e71 e72 e73
     subst e71 e73;clear e72;obtain⟨a2,e2,m2,b2,g2⟩:=hy j (by rw[AT];exact hjn);subst e2;rw[Im hjn]at g2;have hvl:j<vs.length:=by rw[hm.len,Gd];exact hjn
     obtain⟨A8,c8,e8,p8⟩:=hm.form hvl;have hrl:=Iz (n:=n) (hv:=hv) (base:=8) (k:=k) (i:=j) hjn (by rw[HL.o];omega);have hst:=Hq (hv:=hv) (base:=8) (k:=k) hjn;rw[HGD.o]at hst;have HSTP:=U (hm.step (x:=BP n h1 8 j) (W:=wr.alloc (.cells #[.int .u8 ((BP n h1 8 j).toNat:Int)] 5)) hvl e8 (by rw[hrl];omega) hsz7 (Af (aB _ _) _) (Blk.new _ _ _));rw[hrl]at HSTP;rw[hrl]at p8;have HM:=U hm;have HXB:=U hx;have HB:=U hb;have HR:=U hr;have HF:=U hf;have HST:=U hst;clear hm hx hb hr hf hy e8 hrl hst;go_wp2_with (at_builtin;refine Ar rfl (.tmp 40) (.tmp 42) 39 rfl (.slice A8 k c8) (.slice (some ⟨wr.heap.size,0,none⟩) 1 1) rfl rfl HSTP.o ?_;rintro v6 w6 ⟨A9,c9,rfl,ll⟩;have q3:=ll.cell.trans p8;have fr3:=ll.free;have gz3:=ll.lt;have LL:=U ll;clear ll)
     go_roundw
     case rel =>
      obtain⟨s1,s2⟩:=LL.o.foot _ HF.o;have hmm:=LL.o.mat;rw[HST.o]at hmm;exact⟨j+1,_,by omega,by go_num,hmm,HXB.o.below LL.o.below (by omega),HB.o.trans (LL.o.below.mono (by omega)),bL hsz7 LL.o.below.size,rSl.keep Ai.local_ HR.o s1,s2⟩
     case measure => simp[intOf];omega
    ·obtain rfl:j=n:=by omega
     rw[Hp hkl]at hm;have HM:=U hm;have HXB:=U hx;have HB:=U hb;clear hm hx hb hr hf;go_wp2_with fail
     go_roundw
     case rel => exact⟨k+1,_,by omega,by go_num,HM.o,HXB.o,HB.o,hsz7⟩
     case measure => simp[intOf];omega
  ·obtain rfl:k=n:=by omega
   have hm':=hm;rw[← HL.o,Iy,HL.o]at hm';obtain⟨fr,hlists⟩:=hm'.lists (DZ _ _ _) (by omega);have hgw:=GQ k s want (by omega) hw u;have hsv:=fun(W:World) (A3:Option Addr) (c3:Nat) (f3:List Addr) (hW:Below u.heap.size u W) (h3:Ag W f3 (.slice A3 k c3) (Cl k want 8)) => OH (.slice (some ⟨g+1,0,none⟩) k k) (.slice A3 k c3) (Fw k hv 8) (Cl k want 8) fr f3 W k (rSl.below As.loc As.fix hlists hW) h3 (DZ _ _ _) (Jj HL.o) (by rw[AT];exact aC _) (by omega)
   have HGW:=U hgw;have HSV:=U hsv;have HB:=U hb;clear hm hm' hx hb hlists hgw hsv;go_wp2_with (first
    |(go_at_call 182;refine HGW.o.mono ?_;rintro e w3 ⟨A3,c3,f3,rfl,r3,m3,b3⟩;rw[AT]at r3⊢;have R3:=U r3;have B3:=U b3;clear r3 m3 b3)
    |(go_at_call 262;refine(HSV.o _ _ _ _ B3.o R3.o).mono ?_;rintro e w4 h4;obtain⟨A4,c4,f4,rfl,r4,m4,b4⟩:=Nz h4 HS.o;clear h4;have R4:=U r4;have M4:=U m4;have B4:=U b4;clear r4 m4 b4))
   have c0':=(B3.o.cell (p:=⟨g,0,none⟩) (by show g<u.heap.size;omega)).trans c0;have c0'':=(B4.o.cell (p:=⟨g,0,none⟩) (by show g<w3.heap.size;have:=B3.o.size;omega)).trans c0';have hlz:((k:Int) - (k:Int))=0:=by omega
   have hw0:=wrap0;obtain⟨A9,c9,e9,hc9,-⟩:=Ag.open_ R4.o;injection e9 with e91 e92 e93
   subst e91 e93;clear e92 c0 c0';rw[HLL.o]at hc9;have fin:By L w (.returned (.slice A4 k c4)) w4:=⟨A4,c4,f4,by rw[HLL.o],by rw[HLL.o];exact R4.o,M4.o.mono (by rw[HG.o];have:=B3.o.size;omega),by rw[HG.o];exact HB.o.trans ((B3.o.trans (B4.o.mono B3.o.size)).mono (by omega))⟩;have FIN:=U fin;clear fin;go_region_law (first|(refine KY rfl (.tmp 55) (.tmp 60) 39 2 rfl _ _ (by rfl) (by rfl) (Tryz.append_zeroE _ A4 k c4 hc9 _ _ (by simp[wrap0])) ?_;rintro v' w' ⟨rfl,rfl⟩)|(go_simp;go_at_call 174;refine(D6 _ _ _ _).mono ?_;rintro e w' ⟨rfl,rfl⟩;dsimp only))
   all_goals
    go_wp2_with fail
    go_ret
    first|exact FIN.o|exact FIN.o.drew_
def Bp(bl:List (List UInt8))(j:Nat):List Nat:=(List.range j).filter fun i => decide (0<(bl.getD i []).length)
def AI(n:Nat)(bl:List (List UInt8))(j:Nat):List Nat:=(Bp bl j).take n
def BK(bl:List (List UInt8))(hv:List Nat):List (List UInt8):=hv.map fun i => bl.getD i []
theorem Bc(bl:List (List UInt8))(hv:List Nat):(BK bl hv).length =hv.length:=by simp[BK]
theorem Fn(bl:List (List UInt8))(j:Nat):Bp bl (j+1)=Bp bl j ++(if 0<(bl.getD j []).length then [j]else []):=by
 unfold Bp;rw[List.range_succ,List.filter_append];congr 1
 by_cases h:0<(bl.getD j []).length
 ·rw[aL h,List.filter_cons_of_pos (by simpa using h)];rfl
 ·rw[aI h,List.filter_cons_of_neg (by simpa using h)];rfl
theorem DE(n:Nat)(bl:List (List UInt8)):AI n bl 0= []:=by simp[AI,Bp]
theorem FI(n:Nat)(bl:List (List UInt8))(j:Nat):(AI n bl j).length≤n:=by simp[AI];omega
theorem I4 {n:Nat} {bl:List (List UInt8)} {j:Nat}(hj:0<(bl.getD j []).length)(hn:(AI n bl j).length <n):AI n bl (j+1)=AI n bl j ++ [j]:=by
 unfold AI at hn⊢;rw[Fn,aL hj];simp only[aQ]at hn;rw[bK (by simp;omega),bK (by omega)]
theorem Fd {n:Nat} {bl:List (List UInt8)} {j:Nat}(h:¬0<(bl.getD j []).length∨(AI n bl j).length =n):AI n bl (j+1)=AI n bl j:=by
 unfold AI at h⊢;rw[Fn];rcases h with h|h
 ·rw[aI h,List.append_nil]
 ·rw[aQ]at h;rw[List.take_append_of_le_length (by omega)]
theorem I3 {n:Nat} {bl:List (List UInt8)} {j:Nat}(h:(AI n bl j).length =n):∀d,AI n bl (j+d)=AI n bl j
 |0 => rfl
 |d+1 => by
  rw[← Nat.add_assoc,Fd (.inr (by rw[I3 h d];exact h)),I3 h d]
theorem OG {b:Nat}:∀(l:List Nat) (a:Nat),l.Pairwise (· < ·)→(∀x,x∈l→a≤x∧x<b)→Ei b a l
 | [],_,_,_ => trivial
 |x :: r,a,hp,h => by
  obtain⟨h1,h2⟩:=List.pairwise_cons.1 hp;exact⟨(h x (by simp)).1,(h x (by simp)).2,OG r (x+1) h2 fun y hy =>⟨h1 y hy,(h y (by simp[hy])).2⟩⟩
theorem GD {bl:List (List UInt8)} {j k:Nat}(h:k∈Bp bl j):k<j:=by
 unfold Bp at h;exact List.mem_range.1 (List.mem_filter.1 h).1
theorem Qo {bl:List (List UInt8)} {j k:Nat}(h:k∈Bp bl j):0<(bl.getD k []).length:=by
 unfold Bp at h;simpa using(List.mem_filter.1 h).2
theorem GE {n:Nat} {bl:List (List UInt8)} {j k:Nat}(h:k∈AI n bl j):k∈Bp bl j:=List.mem_of_mem_take h
theorem Kq {n:Nat} {bl:List (List UInt8)} {j b:Nat}(hb:j≤b):Ei b 0 (AI n bl j):=by
 refine OG _ 0 ?_ fun x hx =>⟨Nat.zero_le _,aE (GD (GE hx)) hb⟩
 unfold AI Bp;exact(List.Pairwise.filter _ List.pairwise_lt_range).take
def De(bl:List (List UInt8))(m:Nat):Prop:=∀l,l∈bl→l.length=0∨l.length=m
theorem Fb {n m:Nat} {bl:List (List UInt8)} {j:Nat}(h:De bl m):∀l,l∈BK bl (AI n bl j)→l.length=m:=by
 intro l hl;obtain⟨k,hk,rfl⟩:=List.mem_map.1 hl;have hp:=Qo (GE hk);by_cases hkl:k<bl.length
 ·have e:bl.getD k [] =bl[k]:=by simp[aJ,hkl]
  rw[e]at hp⊢;rcases h _ (aN hkl)with h1|h1
  ·omega
  ·exact h1
 ·rw[aJ,List.getElem?_eq_none (by omega)]at hp;simp at hp
theorem Rg:∀(w:World) (f:List Addr) (cs:List Value) (d:Int),Az w f cs d→∀u,u∈cs→u.oneCell'=true:=by
 rintro w f cs d ⟨rfl,rfl,-⟩ u hu;simp only[List.mem_cons,List.not_mem_nil,or_false]at hu;subst hu;rfl
theorem Tryz.info_i64:(prog.info? 2).map (fun i =>(i.zero,i.size,i.bytes))=some (some (int i64 0),1,8):=by kernel_rfl
structure CG (w:World) (lo:Nat) (v6 v7:Value) (hv:List Nat) (ms:List (List UInt8)) (fs:List Addr):Prop where
 nums:Aj 1 2 Az w lo v6 (Fa hv) []
 lists:Aj 1 39 (Al 1 Ai) w lo v7 ms fs
 apart:∀b,v6.ownBlock=some b→v7.ownBlock≠some b
 far:∀a,a∈fs→a.block<lo
theorem CG.below {w w':World} {lo:Nat} {v6 v7:Value} {hv:List Nat} {ms:List (List UInt8)} {fs:List Addr}(h:CG w lo v6 v7 hv ms fs)(hb:Below w.heap.size w w'):CG w' lo v6 v7 hv ms fs :=
 ⟨h.nums.below Az.local_ Az.fixed hb,h.lists.below As.loc As.fix hb,h.apart,h.far⟩
theorem CG.addNum {w W:World} {lo b j:Nat} {v6 v7:Value} {hv:List Nat} {ms:List (List UInt8)} {fs:List Addr}(h:CG w lo v6 v7 hv ms fs)(hlo:lo≤w.heap.size)(hW:Below w.heap.size w W)(hk:Blk W b 2 #[int i64 (j:Int)])(hj:j≤1000000)(hn:hv.length+1≤1000000) :
  ∃v' w',(Builtin.append_ #[25,25] 25 #[v6,.slice (some ⟨b,0,none⟩) 1 1]).run prog W= .ok v' w'∧∃A c,v'= .slice A (hv.length+1) c∧CG w' lo v' v7 (hv ++ [j]) ms fs∧Below lo w w'∧lo≤w'.heap.size:=by
 have hW2:=h.below hW;have hs:=hW.size;obtain⟨v',w',q1,hh,q2,q3,q4,q5⟩:=Aj.appendOne (P:=prog) 25 25 (int i64 0) 8 underlying25 Tryz.info_i64 rfl (by decide) Az.local_ Az.fixed Rg lo v6 (Fa hv) [] hW2.nums b [int i64 (j:Int)] [] (j:Int) rfl hk ⟨rfl,rfl,by omega,by omega⟩ (fun a ha => by cases ha) (by rw[Ct];omega) (by omega) (by omega);have e1:=Aj.flatInts q2;rw[e1]at q2;have e2:Fa hv ++ [(j:Int)] =Fa (hv ++ [j]):=by simp[Fa]
 rw[e2]at q2;obtain⟨A,c,e,-⟩:=q2.length;refine⟨v',w',q1,A,c,by rw[e,Ct];simp,⟨q2,hW2.lists.keep As.loc (fun q hq => q4.block q (hW2.lists.lt q hq).2 (fun e3 => h.apart q e3.symm hq)) (fun a ha => q4.cell_far a (hW2.lists.there As.fix a ha) (fun e3 => ?_)),fun q hq hq7 => ?_,h.far⟩,Below.grown (hW.mono hlo) q4 (by omega) (fun k hk =>(hW2.nums.lt k hk).1),bL (by omega) q4.size⟩
 ·have:=(hW2.nums.lt _ e3.symm).1;have:=h.far a ha;omega
 ·rcases q5 with e5|e5
  ·rw[e5]at hq;exact h.apart q hq hq7
  ·rw[e5]at hq;injection hq with hq
   have:=(hW2.lists.lt q hq7).2;omega
theorem CG.addRef {w W:World} {lo b:Nat} {v6 v7 ve:Value} {hv:List Nat} {ms:List (List UInt8)} {fs f:List Addr} {L:List UInt8}(h:CG w lo v6 v7 hv ms fs)(hlo:lo≤w.heap.size)(hW:Below w.heap.size w W)(hk:Blk W b 39 #[ve])(hr:Ag W f ve L)(hf:∀a,a∈f→a.block<lo)(hn:ms.length+1≤1000000) :
  ∃v' w',(Builtin.append_ #[83,83] 83 #[v7,.slice (some ⟨b,0,none⟩) 1 1]).run prog W= .ok v' w'∧∃A c fs',v'= .slice A (ms.length+1) c∧CG w' lo v6 v' hv (ms ++ [L]) fs'∧Below lo w w'∧lo≤w'.heap.size:=by
 have hW2:=h.below hW;have hs:=hW.size;obtain⟨v',w',q1,hh,q2,q3,q4,q5⟩:=Aj.appendOne (P:=prog) 83 83 (.slice none 0 0) 24 underlying83 Tryz.infoBytes rfl (by decide) As.loc As.fix Al.ones lo v7 ms fs hW2.lists b [ve] f L rfl hk ⟨ve,rfl,hr⟩ (fun a ha e => by
  have:=(hW2.lists.lt _ e).1;have:=hf a ha;omega) (by omega) (by omega) (by omega)
 obtain⟨A,c,e,-⟩:=q2.length;refine⟨v',w',q1,A,c,_,by rw[e];simp,⟨hW2.nums.keep Az.local_ (fun q hq => q4.block q (hW2.nums.lt q hq).2 (fun e3 => h.apart q hq e3.symm)) (fun a ha => by cases ha),q2,fun q hq hq7 => ?_,fun a ha => ?_⟩,Below.grown (hW.mono hlo) q4 (by omega) (fun k hk =>(hW2.lists.lt k hk).1),bL (by omega) q4.size⟩
 ·rcases q5 with e5|e5
  ·rw[e5]at hq7;exact h.apart q hq hq7
  ·rw[e5]at hq7;injection hq7 with hq7
   have:=(hW2.nums.lt q hq).2;omega
 ·rcases List.mem_append.1 ha with ha|ha
  ·exact h.far a ha
  ·exact hf a (q3.subset ha)
theorem CG.start {w:World} {lo g6 g7:Nat}(h6:Blk w g6 2 #[])(h7:Blk w g7 39 #[])(hl6:lo≤g6)(hl7:lo≤g7)(hne:g6≠g7):CG w lo (.slice (some ⟨g6,0,none⟩) 0 0) (.slice (some ⟨g7,0,none⟩) 0 0) [] [] []:=by
 refine⟨Aj.start ⟨rfl,.inr ⟨g6,0,#[],rfl,hl6,h6,aC _,by unfold maxLen;omega,rfl,rfl⟩⟩,Aj.start ⟨rfl,.inr ⟨g7,0,#[],rfl,hl7,h7,aC _,by unfold maxLen;omega,rfl,rfl⟩⟩,fun b e e2 => ?_,fun a ha => by cases ha⟩;simp[Value.ownBlock]at e e2;omega
theorem Tryz.appendBytes {wr W:World} {base:Nat} {v u:Value} {ds L:List UInt8} {gs:List Addr}(ho:Aj 1 5 Ai wr base v ds [])(hbase:base≤wr.heap.size)(hW:Below wr.heap.size wr W)(hr:Ag W gs u L)(hg:∀a,a∈gs→wr.heap.size≤a.block)(hn:ds.length+L.length≤1000000000) :
  ∃v' w',(Builtin.append_ #[39,39] 39 #[v,u]).run prog W= .ok v' w'∧∃A c,v'= .slice A (ds.length+L.length) c∧Aj 1 5 Ai w' base v' (ds ++ L) []∧Below base wr w'∧wr.heap.size≤w'.heap.size:=by
 have ho2:=ho.below Ai.local_ Ai.fixed hW;obtain⟨v',w',h1,hs,h2,h3,h4,h5⟩:=Aj.appendRun (P:=prog) 39 39 (.int .u8 0) 1 underlying39 Tryz.info5 rfl (by decide) Ai.local_ Ai.fixed Ev base v ds [] ho2 u L gs hr (fun a ha e => by
  have:=(ho.lt _ e).2;have:=hg a ha;omega) hn (by omega) (bL hbase hW.size)
 have h6:=Aj.flatBytes h2;rw[h6]at h2;obtain⟨A,c,e,-⟩:=h2.length;exact⟨v',w',h1,A,c,by rw[e];simp,h2,Below.grown (hW.mono hbase) h4 (bL hbase hW.size) (fun k hk =>(ho.lt k hk).1),bL hW.size h4.size⟩
theorem G2 {A:Option Addr} {n c:Nat} {w:World}:Calls prog 174 #[.slice A n c] w fun e w' => e= .returned (int i64 (n:Int))∧w'=w:=(D6 A n c w).mono fun _ _ h =>⟨h.1,h.2.symm⟩
def G4(L?:Option (List UInt8))(w:World)(e:Ending)(w':World):Prop :=
 (∃L A c fs,L? =some L∧e= .returned (.tuple #[.slice A L.length c,.bool true])∧Ag w' fs (.slice A L.length c) L∧Aw w.heap.size w' fs∧Below w.heap.size w w')∨(L? =none∧e= .returned (.tuple #[.slice none 0 0,.bool false])∧Below w.heap.size w w')
def Dz(n:Nat)(bl:List (List UInt8))(hv:List Nat)(i:Nat):List UInt8:=Er 4 (BK bl hv) ((FA n hv i 0).getD [])
def Fk(n:Nat)(bl:List (List UInt8))(hv:List Nat)(i:Nat):List UInt8:=(List.range i).flatMap (Dz n bl hv)
def Dh(n:Nat)(bl:List (List UInt8)):Option (List UInt8):=if(AI n bl bl.length).length <n then none else some (Fk n bl (AI n bl bl.length) n)
theorem Ig(n:Nat)(bl:List (List UInt8))(hv:List Nat)(i:Nat):Fk n bl hv (i+1)=Fk n bl hv i ++ Dz n bl hv i:=by
 unfold Fk;rw[List.range_succ,List.flatMap_append];simp
theorem ED {n:Nat} {bl:List (List UInt8)} {i:Nat}(h1:1≤n)(h3:n≤3)(hb:bl.length≤n+2)(hO:De bl 4)(hv:(AI n bl bl.length).length =n)(hi:i<n+2):∃L,FA n (AI n bl bl.length) i 0=some L∧L.length=n∧Dz n bl (AI n bl bl.length) i=Er 4 (BK bl (AI n bl bl.length)) L∧(Dz n bl (AI n bl bl.length) i).length =4:=by
 obtain⟨L,e,hL⟩:=wts_row h1 h3 hv (Kq hb) hi;have e2:Dz n bl (AI n bl bl.length) i=Er 4 (BK bl (AI n bl bl.length)) L:=by unfold Dz;rw[e];rfl
 exact⟨L,e,hL,e2,by rw[e2];exact ET (Fb hO) (by rw[Bc,hv,hL];exact aC _)⟩
theorem El {n:Nat} {bl:List (List UInt8)}(h1:1≤n)(h3:n≤3)(hb:bl.length≤n+2)(hO:De bl 4)(hv:(AI n bl bl.length).length =n):∀i,i≤n→(Fk n bl (AI n bl bl.length) i).length =i * 4
 |0,_ => by simp[Fk]
 |i+1,hi => by
  obtain⟨L,-,-,-,h⟩:=ED h1 h3 hb hO hv (show i<n+2 by omega);rw[Ig,bC,El h1 h3 hb hO hv i (by omega),h];omega
theorem JL(n s:Nat)(v:Value)(bl:List (List UInt8))(f:List Addr)(w:World)(h:As w f v bl)(h1:1≤n)(h3:n≤3)(hb:bl.length≤n+2)(hO:De bl 4) :
  Calls prog 190 #[.agg #[int i64 (n:Int),int i64 (s:Int)],v] w (G4 (Dh n bl) w):=by
 have TF:=U (rSl.there As.fix h);obtain⟨A1,c1,rfl,hc1,hm1,hx⟩:=As.open_ h;have HX:=U hx;have HO:=U hO;clear h hx hO;go_enter func190,ntmps190
 go_wp2_with fail
 have hP:=CG.start (lo:=w.heap.size+1) ((Blk.new1 w (.cells #[int i64 (n:Int),int i64 (s:Int)] 226) 2 #[]).alloc (.cells #[] 39)) (Blk.new2 w (.cells #[int i64 (n:Int),int i64 (s:Int)] 226) (.cells #[] 2) 39 #[]) (aC _) (by omega) (by omega);have hBx:=((Blk.new w 226 #[int i64 (n:Int),int i64 (s:Int)]).alloc (.cells #[] 2)).alloc (.cells #[] 39);have hB0:=Af (Af (Af (aB w.heap.size w) (.cells #[int i64 (n:Int),int i64 (s:Int)] 226)) (.cells #[] 2)) (.cells #[] 39);have HP:=U hP;have HBx:=U hBx;have HB0:=U hB0;obtain⟨g,hg⟩:∃g,w.heap.size=g:=⟨_,rfl⟩;rw[hg]at HP HBx HB0⊢;have HG:=U hg;clear hP hBx hB0 hg;go_loopw [16,6,7,8,9] (fun i v6 v7 _ _ wr =>∃(j:Nat) (A6:Option Addr) (c6:Nat) (A7:Option Addr) (c7:Nat) (fs:List Addr),j≤bl.length∧i= int i64 j∧v6= .slice A6 (AI n bl j).length c6∧v7= .slice A7 (AI n bl j).length c7∧CG wr (g+1) v6 v7 (AI n bl j) (BK bl (AI n bl j)) fs∧Blk wr g 226 #[int i64 (n:Int),int i64 (s:Int)]∧Below g w wr∧g+1≤wr.heap.size) (fun i _ _ _ _ _ => bl.length - (intOf i).toNat)
 case atStart =>
  refine⟨0,_,_,_,_,[],by omega,rfl,by rw[DE];rfl,by rw[DE];rfl,?_,HBx.o,HB0.o,by have:=HG.o;simp;omega⟩;rw[DE];exact HP.o
 case round =>
  obtain⟨j,A6,c6,A7,c7,fs,hj,rfl,rfl,rfl,hp,hx,hbw,hsz⟩:=hrel;have c0:wr.cell? ⟨g,0,none⟩=some (int i64 (n:Int)):=by rw[hx.cell];rfl
  have c1':wr.cell? ⟨g,1,none⟩=some (int i64 (s:Int)):=by rw[hx.cell];rfl
  have hle:=FI n bl j;have HPK:=U hp;have HXB:=U hx;have HBW:=U hbw;clear hp hx hbw;by_cases hlt:j<bl.length
  ·obtain⟨ad,A2,c2,fk,e1,b1,p1,r1,t1,s1,-⟩:=HX.o j hlt;subst e1;rw[HG.o]at b1;have p1':=(HBW.o.cell (p:=ad.add j) b1).trans p1;have hgd:bl.getD j [] =bl[j]:=by simp[aJ,hlt]
   have HR1:=U (show∀W,Below g w W→Ag W fk (.slice A2 bl[j].length c2) bl[j]from fun W hW => rSl.keep Ai.local_ r1 (AQ.of_below (fun a ha => by have:=t1 a ha;rw[HG.o]at this;exact this) hW));have HT1:=U (show∀a,a∈fk→a.block<g+1 from fun a ha => by have:=t1 a ha;rw[HG.o]at this;omega);clear p1 r1 t1 s1;by_cases hz:0<bl[j].length
   ·have hz1:(0:Int)<(bl[j].length:Int):=by omega
    by_cases hn:(AI n bl j).length <n
    ·have hn1:((AI n bl j).length:Int)<(n:Int):=by omega
     have HST:=U (I4 (by rw[hgd];exact hz) hn);have HGD:=U hgd;clear hgd;obtain⟨bj,hbj⟩:∃bj,bl[j] =bj:=⟨_,rfl⟩;rw[hbj]at HGD HR1 p1' hz1 hz;clear hbj;go_wp2_with fail
     go_quiet ((go_at_call 174;exact Calls.quiet_of_same G2))
     ·go_wp2_with (first
       |(at_builtin;refine Ar rfl (.tmp 31) (.tmp 33) 25 rfl _ _ (by rfl) (by rfl) (HPK.o.addNum (b:=wr.heap.size) (j:=j) hsz (by repeat(with_reducible first|exact aB _ _|apply Af|apply An|apply AM)) (by exact Blk.new _ _ _) (by omega) (by omega)) ?_;rintro v8 w8 ⟨A8,c8,rfl,p8,b8,s8⟩;have P8:=U p8;have B8:=U b8;clear p8 b8)
       |(at_builtin;refine Ar rfl (.tmp 35) (.tmp 37) 83 rfl _ _ (by rfl) (by rfl) (P8.o.addRef (b:=w8.heap.size) (f:=fk) (L:=bj) s8 (Af (aB _ _) _) (Blk.new _ _ _) (HR1.o _ ((HBW.o.trans (B8.o.mono (by omega))).trans (((aB _ _).alloc (aC _) _).mono (by omega)))) HT1.o (by rw[Bc];omega)) ?_;rintro v9 w9 ⟨A9,c9,f9,rfl,p9,b9,s9⟩;have P9:=U p9;have B9:=U b9;clear p9 b9))
      go_roundw
      case rel =>
       have hpp:=P9.o;have em:BK bl (AI n bl j) ++ [bj] =BK bl (AI n bl (j+1)):=by rw[HST.o];simp[BK,← HGD.o]
       rw[em,← HST.o]at hpp;have el:(AI n bl (j+1)).length =(AI n bl j).length +1:=by rw[HST.o];simp
       refine⟨j+1,A8,c8,A9,c9,f9,by omega,by go_num,by rw[el],by rw[el,Bc],?_,(HXB.o.below B8.o (by omega)).below B9.o (by omega),(HBW.o.trans (B8.o.mono (by omega))).trans (B9.o.mono (by omega)),s9⟩;rw[el]at *;exact hpp
      case measure => simp[intOf];omega
    ·have hn1:¬((AI n bl j).length:Int)<(n:Int):=by omega
     have HST:=U (Fd (n:=n) (bl:=bl) (j:=j) (.inr (by omega)));go_wp2_with fail
     go_quiet ((go_at_call 174;exact Calls.quiet_of_same G2))
     ·go_wp2_with fail
      go_roundw
      case rel => exact⟨j+1,A6,c6,A7,c7,fs,by omega,by go_num,by rw[HST.o],by rw[HST.o],by rw[HST.o];exact HPK.o.below (AM (aB _ _) _),HXB.o.drewN _,AM HBW.o _,hsz⟩
      case measure => simp[intOf];omega
   ·have hz1:¬(0:Int)<(bl[j].length:Int):=by omega
    have hz2:decide ((0:Int)<(bl[j].length:Int))=false:=by simpa using hz1
    have HST:=U (Fd (n:=n) (bl:=bl) (j:=j) (.inl (by rw[hgd];exact hz)));go_wp2_with fail
    go_quiet (fail)
    ·go_wp2_with fail
     go_roundw
     case rel => exact⟨j+1,A6,c6,A7,c7,fs,by omega,by go_num,by rw[HST.o],by rw[HST.o],by rw[HST.o];exact HPK.o.below (AM (aB _ _) _),HXB.o.drewN _,AM HBW.o _,hsz⟩
     case measure => simp[intOf];omega
  ·obtain rfl:j=bl.length:=by omega
   obtain⟨hv,hhv⟩:∃hv,AI n bl bl.length=hv:=⟨_,rfl⟩;rw[hhv]at HPK hle⊢;by_cases hn:hv.length<n
   ·have hn1:((hv.length:Nat):Int)<(n:Int):=by omega
    have hd:Dh n bl=none:=by unfold Dh;rw[hhv,aL hn]
    go_wp2_with fail
    go_quiet ((go_at_call 174;exact Calls.quiet_of_same G2))
    go_wp2_with fail
    go_ret2
    exact .inr ⟨hd,rfl,by rw[HG.o];exact AM HBW.o _⟩
   have hvn:hv.length=n:=by omega
   have hn1:¬((hv.length:Nat):Int)<(n:Int):=by omega
   have HD:=U (show Dh n bl=some (Fk n bl hv n)from by unfold Dh;rw[hhv,aI hn]);have HPART:=U (show∀i,i<n+2→∃L,FA n hv i 0=some L∧L.length=n∧Dz n bl hv i=Er 4 (BK bl hv) L∧(Dz n bl hv i).length =4 from fun i hi => by
    have:=ED h1 h3 hb HO.o (by rw[hhv];exact hvn) hi;rwa [hhv]at this)
   have HLEN:=U (show∀i,i≤n→(Fk n bl hv i).length =i * 4 from fun i hi => by
    have:=El h1 h3 hb HO.o (by rw[hhv];exact hvn) i hi;rwa [hhv]at this)
   have HMS:=U (show∀l,l∈BK bl hv→l.length=4 from by rw[← hhv];exact Fb HO.o);have HVL:=U (show∀k,k∈hv→k≤50 from fun k hk => by rw[← hhv]at hk;have:=GD (GE hk);omega);obtain⟨g6,r6,-⟩:=HPK.o.nums.reads;obtain⟨g7,r7,-⟩:=HPK.o.lists.reads;have R6:=U r6;have R7:=U r7;have gz:g<wr.heap.size:=by omega
   have gz2:g≤wr.heap.size:=by omega
   clear r6 r7 hhv;subst hvn;go_wp2_with fail
   go_quiet ((go_at_call 174;exact Calls.quiet_of_same G2))
   have c0q:(wr.drewN nq).cell? ⟨g,0,none⟩=some (int i64 (hv.length:Int)):=c0;have gzq:g<(wr.drewN nq).heap.size:=gz;have c0a:((wr.drewN nq).alloc (.cells #[] 5)).cell? ⟨g,0,none⟩=some (int i64 (hv.length:Int)):=((Af (AM (aB _ _) nq) _).cell (p:=⟨g,0,none⟩) gz).trans c0;go_wp2_with fail
   obtain⟨u,hu⟩:∃u,u=wr:=⟨_,rfl⟩;subst hu;go_loopw [48,10,11] (fun i o _ wr =>∃(k:Nat) (A:Option Addr) (c3:Nat),k≤hv.length∧i= int i64 k∧o= .slice A (k * 4) c3∧Aj 1 5 Ai wr u.heap.size o (Fk hv.length bl hv k) []∧Below u.heap.size u wr) (fun i _ _ _ => hv.length - (intOf i).toNat)
   case atStart => exact⟨0,_,0,by omega,rfl,rfl,Aj.emptyB,Af (AM (aB _ _) _) _⟩
   case round =>
    obtain⟨k,A,c3,hk,rfl,rfl,ho,hb3⟩:=hrel;have HO3:=U ho;have HB3:=U hb3;have c0':=(hb3.cell (p:=⟨g,0,none⟩) gz).trans c0;have c1'':=(hb3.cell (p:=⟨g,1,none⟩) gz).trans c1';clear ho hb3;by_cases hkn:k<hv.length
    ·obtain⟨L,eL,lL,eM,lM⟩:=HPART.o k (by omega);have HC1:=U (PV hv.length s k hv _ g6 wr L (rSl.below Az.local_ Az.fixed (by simpa using R6.o) HB3.o) rfl (by omega) HVL.o (by omega) eL lL);have HC2:=U (fun(W:World) (A4:Option Addr) (c4:Nat) (f4:List Addr) (hW:Below wr.heap.size wr W) (h4:Ag W f4 (.slice A4 L.length c4) L) => Lx (.slice A7 hv.length c7) (.slice A4 L.length c4) (BK bl hv) L 4 (g7 ++ fs) f4 W (rSl.below As.loc As.fix R7.o (HB3.o.trans (hW.mono HB3.o.size))) h4 (by rw[Bc];omega) HMS.o (by rw[Bc,lL];exact aC _) (by omega));rw[← eM]at HC2;have hst:=Ig hv.length bl hv k;have hla:=HLEN.o k hk;have HST:=U hst;have HLA:=U hla;obtain⟨D,hD⟩:∃D,Dz hv.length bl hv k=D:=⟨_,rfl⟩;rw[hD]at HC2 HST lM;rw[lL]at HC2;have HLM:=U lM;have HLL:=U lL;clear eL eM hst hla hD lL lM;go_wp2_with (first
      |(go_at_call 261;refine HC1.o.mono ?_;rintro e w4 ⟨A4,c4,f4,rfl,r4,m4,b4⟩;rw[HLL.o]at r4⊢;have R4:=U r4;have B4:=U b4;clear r4 m4 b4)
      |(go_at_call 181;refine(HC2.o _ _ _ _ B4.o R4.o).mono ?_;rintro e w5 ⟨A5,c5,f5,rfl,r5,m5,b5⟩;rw[HLM.o]at r5⊢;have HAP:=U (Tryz.appendBytes HO3.o HB3.o.size (B4.o.trans (b5.mono B4.o.size)) r5 (fun a ha => by have:=m5.from_ a ha;have:=B4.o.size;omega) (by rw[HLA.o,HLM.o];omega));rw[HLA.o,HLM.o,← HST.o]at HAP;clear r5 m5 b5)
      |(at_builtin;refine Ar rfl (.tmp 51) (.tmp 57) 39 rfl _ _ (by rfl) (by rfl) HAP.o ?_;rintro v6 w6 ⟨A6',c6',rfl,o6,B6,e6⟩;have HO6:=U o6;have HB6:=U B6;clear o6 B6))
     go_roundw
     case rel => exact⟨k+1,A6',c6',by omega,by go_num,by congr 1;omega,HO6.o,HB3.o.trans HB6.o⟩
     case measure => simp[intOf];omega
    ·obtain rfl:k=hv.length:=by omega
     go_wp2_with fail
     go_ret2
     obtain⟨gs,r8,m8⟩:=HO3.o.readsMine F0;have hla:=HLEN.o _ hk;exact .inl ⟨_,A,c3,gs,HD.o,by rw[hla];rfl,by rw[hla];exact r8,m8.mono (by rw[HG.o];exact gz2),by rw[HG.o];exact HBW.o.trans (HB3.o.mono gz2)⟩
def OptL(L?:Option (List (List UInt8)))(w:World)(e:Ending)(w':World):Prop :=
 (∃L A c fs,L? =some L∧e= .returned (.tuple #[.slice A L.length c,.bool true])∧As w' fs (.slice A L.length c) L∧Aw w.heap.size w' fs∧Below w.heap.size w w')∨(L? =none∧e= .returned (.tuple #[.slice none 0 0,.bool false])∧Below w.heap.size w w')
def DX(m n:Nat)(bl:List (List UInt8))(hv:List Nat)(p:Nat):List UInt8:=Er m (BK bl hv) ((FA n hv p 8).getD [])
def Eg(m n:Nat)(bl:List (List UInt8))(hv:List Nat)(k:Nat):List (List UInt8):=(List.range k).map (DX m n bl hv)
def EQ(m n s:Nat)(bl:List (List UInt8)):Option (List (List UInt8)):=if(AI n bl bl.length).length <n then none else some (Eg m n bl (AI n bl bl.length) (n+s))
theorem Kf(m n:Nat)(bl:List (List UInt8))(hv:List Nat)(i:Nat):Eg m n bl hv (i+1)=Eg m n bl hv i ++ [DX m n bl hv i]:=by
 unfold Eg;rw[List.range_succ,List.map_append];rfl
theorem DW(m n:Nat)(bl:List (List UInt8))(hv:List Nat)(i:Nat):(Eg m n bl hv i).length =i:=by simp[Eg]
theorem FE {m n:Nat} {bl:List (List UInt8)} {i:Nat}(h1:1≤n)(h3:n≤4)(hb:bl.length≤n+2)(hO:De bl m)(hv:(AI n bl bl.length).length =n)(hi:i<n+2):∃L,FA n (AI n bl bl.length) i 8=some L∧L.length=n∧DX m n bl (AI n bl bl.length) i=Er m (BK bl (AI n bl bl.length)) L∧(DX m n bl (AI n bl bl.length) i).length =m:=by
 obtain⟨L,e,hL⟩:=wts_col h1 h3 hv (Kq hb) hi;have e2:DX m n bl (AI n bl bl.length) i=Er m (BK bl (AI n bl bl.length)) L:=by unfold DX;rw[e];rfl
 exact⟨L,e,hL,e2,by rw[e2];exact ET (Fb hO) (by rw[Bc,hv,hL];exact aC _)⟩
theorem Tryz.addFresh {wr W:World} {base b:Nat} {v ve:Value} {ds:List (List UInt8)} {L:List UInt8} {fs f:List Addr}(ho:Aj 1 39 (Al 1 Ai) wr base v ds fs)(hm:Aw base wr fs)(hbase:base≤wr.heap.size)(hn:ds.length+1≤1000000000) {w2:World}(B2:Below wr.heap.size wr w2)(he:Ag w2 f ve L)(hf:Aw wr.heap.size w2 f)(B5:Below w2.heap.size w2 W)(hblk:Blk W b 39 #[ve]) :
  ∃v' w',(Builtin.append_ #[83,83] 83 #[v,.slice (some ⟨b,0,none⟩) 1 1]).run prog W= .ok v' w'∧∃A c h,v'= .slice A (ds.length+1) c∧Aj 1 39 (Al 1 Ai) w' base v' (ds ++ [L]) (fs ++ h)∧Aw base w' (fs ++ h)∧Below base wr w'∧wr.heap.size≤w'.heap.size :=
 Ic (P:=prog) 83 83 (.slice none 0 0) 24 underlying83 Tryz.infoBytes rfl (by decide) As.loc As.fix Al.ones (by omega) ho hm hbase hn (us:=[ve]) (f:=f) (d:=L) B2 ⟨ve,rfl,he⟩ hf rfl B5 hblk
theorem colAll_c(n s:Nat)(hn:n≤100)(hs:s≤100)(w:World):Calls prog 191 #[.agg #[int i64 (n:Int),int i64 (s:Int)]] w fun e w' => e= .returned (int i64 ((n+s:Nat):Int))∧Below w.heap.size w w':=by
 go_enter func191,ntmps191
 go_wp2_with fail
 go_ret
 exact⟨by go_num,Af (aB _ _) _⟩
theorem NP(n s:Nat)(v:Value)(bl:List (List UInt8))(f:List Addr)(w:World)(m:Nat)(h:As w f v bl)(h1:1≤n)(h3:n≤4)(hs2:s≤2)(hb:bl.length≤n+2)(hO:De bl m)(hm:m≤1000) :
  Calls prog 110 #[.agg #[int i64 (n:Int),int i64 (s:Int)],v] w (OptL (EQ m n s bl) w):=by
 have TF:=U (rSl.there As.fix h);obtain⟨A1,c1,rfl,hc1,hm1,hx⟩:=As.open_ h;have HX:=U hx;have HO:=U hO;clear h hx hO;go_enter func110,ntmps110
 go_wp2_with fail
 have hP:=CG.start (lo:=w.heap.size+1) ((Blk.new1 w (.cells #[int i64 (n:Int),int i64 (s:Int)] 96) 2 #[]).alloc (.cells #[] 39)) (Blk.new2 w (.cells #[int i64 (n:Int),int i64 (s:Int)] 96) (.cells #[] 2) 39 #[]) (aC _) (by omega) (by omega);have hBx:=((Blk.new w 96 #[int i64 (n:Int),int i64 (s:Int)]).alloc (.cells #[] 2)).alloc (.cells #[] 39);have hB0:=Af (Af (Af (aB w.heap.size w) (.cells #[int i64 (n:Int),int i64 (s:Int)] 96)) (.cells #[] 2)) (.cells #[] 39);have HP:=U hP;have HBx:=U hBx;have HB0:=U hB0;obtain⟨g,hg⟩:∃g,w.heap.size=g:=⟨_,rfl⟩;rw[hg]at HP HBx HB0⊢;have HG:=U hg;clear hP hBx hB0 hg;go_loopw [16,6,7,8,9] (fun i v6 v7 _ _ wr =>∃(j:Nat) (A6:Option Addr) (c6:Nat) (A7:Option Addr) (c7:Nat) (fs:List Addr),j≤bl.length∧i= int i64 j∧v6= .slice A6 (AI n bl j).length c6∧v7= .slice A7 (AI n bl j).length c7∧CG wr (g+1) v6 v7 (AI n bl j) (BK bl (AI n bl j)) fs∧Blk wr g 96 #[int i64 (n:Int),int i64 (s:Int)]∧Below g w wr∧g+1≤wr.heap.size) (fun i _ _ _ _ _ => bl.length - (intOf i).toNat)
 case atStart =>
  refine⟨0,_,_,_,_,[],by omega,rfl,by rw[DE];rfl,by rw[DE];rfl,?_,HBx.o,HB0.o,by have:=HG.o;simp;omega⟩;rw[DE];exact HP.o
 case round =>
  obtain⟨j,A6,c6,A7,c7,fs,hj,rfl,rfl,rfl,hp,hx,hbw,hsz⟩:=hrel;have c0:wr.cell? ⟨g,0,none⟩=some (int i64 (n:Int)):=by rw[hx.cell];rfl
  have c1':wr.cell? ⟨g,1,none⟩=some (int i64 (s:Int)):=by rw[hx.cell];rfl
  have hle:=FI n bl j;have HPK:=U hp;have HXB:=U hx;have HBW:=U hbw;clear hp hx hbw;by_cases hlt:j<bl.length
  ·obtain⟨ad,A2,c2,fk,e1,b1,p1,r1,t1,s1,-⟩:=HX.o j hlt;subst e1;rw[HG.o]at b1;have p1':=(HBW.o.cell (p:=ad.add j) b1).trans p1;have hgd:bl.getD j [] =bl[j]:=by simp[aJ,hlt]
   have HR1:=U (show∀W,Below g w W→Ag W fk (.slice A2 bl[j].length c2) bl[j]from fun W hW => rSl.keep Ai.local_ r1 (AQ.of_below (fun a ha => by have:=t1 a ha;rw[HG.o]at this;exact this) hW));have HT1:=U (show∀a,a∈fk→a.block<g+1 from fun a ha => by have:=t1 a ha;rw[HG.o]at this;omega);clear p1 r1 t1 s1;by_cases hz:0<bl[j].length
   ·have hz1:(0:Int)<(bl[j].length:Int):=by omega
    by_cases hn:(AI n bl j).length <n
    ·have hn1:((AI n bl j).length:Int)<(n:Int):=by omega
     have HST:=U (I4 (by rw[hgd];exact hz) hn);have HGD:=U hgd;clear hgd;obtain⟨bj,hbj⟩:∃bj,bl[j] =bj:=⟨_,rfl⟩;rw[hbj]at HGD HR1 p1' hz1 hz;clear hbj;go_wp2_with fail
     go_quiet ((go_at_call 174;exact Calls.quiet_of_same G2))
     ·go_wp2_with (first
       |(at_builtin;refine Ar rfl (.tmp 31) (.tmp 33) 25 rfl _ _ (by rfl) (by rfl) (HPK.o.addNum (b:=wr.heap.size) (j:=j) hsz (by repeat(with_reducible first|exact aB _ _|apply Af|apply An|apply AM)) (by exact Blk.new _ _ _) (by omega) (by omega)) ?_;rintro v8 w8 ⟨A8,c8,rfl,p8,b8,s8⟩;have P8:=U p8;have B8:=U b8;clear p8 b8)
       |(at_builtin;refine Ar rfl (.tmp 35) (.tmp 37) 83 rfl _ _ (by rfl) (by rfl) (P8.o.addRef (b:=w8.heap.size) (f:=fk) (L:=bj) s8 (Af (aB _ _) _) (Blk.new _ _ _) (HR1.o _ ((HBW.o.trans (B8.o.mono (by omega))).trans (((aB _ _).alloc (aC _) _).mono (by omega)))) HT1.o (by rw[Bc];omega)) ?_;rintro v9 w9 ⟨A9,c9,f9,rfl,p9,b9,s9⟩;have P9:=U p9;have B9:=U b9;clear p9 b9))
      go_roundw
      case rel =>
       have hpp:=P9.o;have em:BK bl (AI n bl j) ++ [bj] =BK bl (AI n bl (j+1)):=by rw[HST.o];simp[BK,← HGD.o]
       rw[em,← HST.o]at hpp;have el:(AI n bl (j+1)).length =(AI n bl j).length +1:=by rw[HST.o];simp
       refine⟨j+1,A8,c8,A9,c9,f9,by omega,by go_num,by rw[el],by rw[el,Bc],?_,(HXB.o.below B8.o (by omega)).below B9.o (by omega),(HBW.o.trans (B8.o.mono (by omega))).trans (B9.o.mono (by omega)),s9⟩;rw[el]at *;exact hpp
      case measure => simp[intOf];omega
    ·have hn1:¬((AI n bl j).length:Int)<(n:Int):=by omega
     have HST:=U (Fd (n:=n) (bl:=bl) (j:=j) (.inr (by omega)));go_wp2_with fail
     go_quiet ((go_at_call 174;exact Calls.quiet_of_same G2))
     ·go_wp2_with fail
      go_roundw
      case rel => exact⟨j+1,A6,c6,A7,c7,fs,by omega,by go_num,by rw[HST.o],by rw[HST.o],by rw[HST.o];exact HPK.o.below (AM (aB _ _) _),HXB.o.drewN _,AM HBW.o _,hsz⟩
      case measure => simp[intOf];omega
   ·have hz1:¬(0:Int)<(bl[j].length:Int):=by omega
    have hz2:decide ((0:Int)<(bl[j].length:Int))=false:=by simpa using hz1
    have HST:=U (Fd (n:=n) (bl:=bl) (j:=j) (.inl (by rw[hgd];exact hz)));go_wp2_with fail
    go_quiet (fail)
    ·go_wp2_with fail
     go_roundw
     case rel => exact⟨j+1,A6,c6,A7,c7,fs,by omega,by go_num,by rw[HST.o],by rw[HST.o],by rw[HST.o];exact HPK.o.below (AM (aB _ _) _),HXB.o.drewN _,AM HBW.o _,hsz⟩
     case measure => simp[intOf];omega
  ·obtain rfl:j=bl.length:=by omega
   obtain⟨hv,hhv⟩:∃hv,AI n bl bl.length=hv:=⟨_,rfl⟩;rw[hhv]at HPK hle⊢;by_cases hn:hv.length<n
   ·have hn1:((hv.length:Nat):Int)<(n:Int):=by omega
    have hd:EQ m n s bl=none:=by unfold EQ;rw[hhv,aL hn]
    go_wp2_with fail
    go_quiet ((go_at_call 174;exact Calls.quiet_of_same G2))
    go_wp2_with fail
    go_ret2
    exact .inr ⟨hd,rfl,by rw[HG.o];exact AM HBW.o _⟩
   have hvn:hv.length=n:=by omega
   have hn1:¬((hv.length:Nat):Int)<(n:Int):=by omega
   have HD:=U (show EQ m n s bl=some (Eg m n bl hv (n+s))from by unfold EQ;rw[hhv,aI hn]);have HPART:=U (show∀i,i<n+2→∃L,FA n hv i 8=some L∧L.length=n∧DX m n bl hv i=Er m (BK bl hv) L∧(DX m n bl hv i).length =m from fun i hi => by
    have:=FE h1 h3 hb HO.o (by rw[hhv];exact hvn) hi;rwa [hhv]at this)
   have HMS:=U (show∀l,l∈BK bl hv→l.length=m from by rw[← hhv];exact Fb HO.o);have HVL:=U (show∀k,k∈hv→k≤50 from fun k hk => by rw[← hhv]at hk;have:=GD (GE hk);omega);obtain⟨g6,r6,-⟩:=HPK.o.nums.reads;obtain⟨g7,r7,-⟩:=HPK.o.lists.reads;have R6:=U r6;have R7:=U r7;have gz:g<wr.heap.size:=by omega
   have gz2:g≤wr.heap.size:=by omega
   clear r6 r7 hhv;subst hvn;go_wp2_with fail
   go_quiet ((go_at_call 174;exact Calls.quiet_of_same G2))
   have c0q:(wr.drewN nq).cell? ⟨g,0,none⟩=some (int i64 (hv.length:Int)):=c0;have gzq:g<(wr.drewN nq).heap.size:=gz;have c0a:((wr.drewN nq).alloc (.cells #[] 39)).cell? ⟨g,0,none⟩=some (int i64 (hv.length:Int)):=((Af (AM (aB _ _) nq) _).cell (p:=⟨g,0,none⟩) gz).trans c0;have c1a:((wr.drewN nq).alloc (.cells #[] 39)).cell? ⟨g,1,none⟩=some (int i64 (s:Int)):=((Af (AM (aB _ _) nq) _).cell (p:=⟨g,1,none⟩) gz).trans c1';go_wp2_with (go_at_call 191;refine(colAll_c _ _ (by omega) (by omega) _).mono ?_;rintro e w9 ⟨rfl,b9⟩;have B9:=U b9;clear b9)
   obtain⟨u,hu⟩:∃u,u=wr:=⟨_,rfl⟩;subst hu;have hE:=(Aj.emptyL (w:=u.drewN nq)).below As.loc As.fix B9.o;have hE2:=(Af (AM (aB u.heap.size u) nq) (.cells #[] 39)).trans (B9.o.mono (by simp));have HE:=U hE;have HE2:=U hE2;clear hE hE2;go_loopw [48,10,11] (fun i o _ wr =>∃(k:Nat) (A:Option Addr) (c3:Nat) (fo:List Addr),k≤hv.length+s∧i= int i64 k∧o= .slice A k c3∧Aj 1 39 (Al 1 Ai) wr u.heap.size o (Eg m hv.length bl hv k) fo∧Aw u.heap.size wr fo∧Below u.heap.size u wr) (fun i _ _ _ => hv.length+s - (intOf i).toNat)
   case atStart => exact⟨0,_,0,[],by omega,rfl,rfl,HE.o,F0,HE2.o⟩
   case round =>
    obtain⟨k,A,c3,fo,hk,rfl,rfl,ho,hmo,hb3⟩:=hrel;have HO3:=U ho;have HB3:=U hb3;have HMO:=U hmo;have c0':=(hb3.cell (p:=⟨g,0,none⟩) gz).trans c0;have c1'':=(hb3.cell (p:=⟨g,1,none⟩) gz).trans c1';clear ho hb3 hmo;by_cases hkn:k<hv.length+s
    ·obtain⟨L,eL,lL,eM,lM⟩:=HPART.o k (by omega);have HC1:=U (share_c hv.length s k hv _ g6 wr L (rSl.below Az.local_ Az.fixed (by simpa using R6.o) HB3.o) rfl (by omega) HVL.o (by omega) eL lL);have HC2:=U (fun(W:World) (A4:Option Addr) (c4:Nat) (f4:List Addr) (hW:Below wr.heap.size wr W) (h4:Ag W f4 (.slice A4 L.length c4) L) => Lx (.slice A7 hv.length c7) (.slice A4 L.length c4) (BK bl hv) L m (g7 ++ fs) f4 W (rSl.below As.loc As.fix R7.o (HB3.o.trans (hW.mono HB3.o.size))) h4 (by rw[Bc];omega) HMS.o (by rw[Bc,lL];exact aC _) (by omega));rw[← eM]at HC2;have hst:=Kf m hv.length bl hv k;have hla:=DW m hv.length bl hv k;have HST:=U hst;have HLA:=U hla;obtain⟨D,hD⟩:∃D,DX m hv.length bl hv k=D:=⟨_,rfl⟩;rw[hD]at HC2 HST lM;rw[lL]at HC2;have HLM:=U lM;have HLL:=U lL;clear eL eM hst hla hD lL lM;go_wp2_with (first
      |(go_at_call 192;refine HC1.o.mono ?_;rintro e w4 ⟨A4,c4,f4,rfl,r4,m4,b4⟩;rw[HLL.o]at r4⊢;have R4:=U r4;have B4:=U b4;clear r4 m4 b4)
      |(go_at_call 181;refine(HC2.o _ _ _ _ B4.o R4.o).mono ?_;rintro e w5 ⟨A5,c5,f5,rfl,r5,m5,b5⟩;rw[HLM.o]at r5⊢;have HAP:=U (Tryz.addFresh (b:=w5.heap.size) HO3.o HMO.o HB3.o.size (by rw[HLA.o];omega) (B4.o.trans (b5.mono B4.o.size)) r5 (m5.mono B4.o.size) (Af (aB _ _) _) (Blk.new _ _ _));rw[HLA.o,← HST.o]at HAP;clear r5 m5 b5)
      |(at_builtin;refine Ar rfl (.tmp 51) (.tmp 58) 83 rfl _ _ (by rfl) (by rfl) HAP.o ?_;rintro v6 w6 ⟨A6',c6',h6',rfl,o6,m6,B6,e6⟩;have HO6:=U o6;have HM6:=U m6;have HB6:=U B6;clear o6 B6 m6))
     go_roundw
     case rel => exact⟨k+1,A6',c6',_,by omega,by go_num,rfl,HO6.o,HM6.o,HB3.o.trans HB6.o⟩
     case measure => simp[intOf];omega
    ·obtain rfl:k=hv.length+s:=by omega
     go_wp2_with fail
     go_ret2
     obtain⟨gs,r8,m8⟩:=HO3.o.readsMine HMO.o;have hla:=DW m hv.length bl hv (hv.length+s);exact .inl ⟨_,A,c3,gs,HD.o,by rw[hla];rfl,by rw[hla];exact r8,m8.mono (by rw[HG.o];exact gz2),by rw[HG.o];exact HBW.o.trans (HB3.o.mono gz2)⟩
def Kb(n:Nat)(bl:List (List UInt8))(want:Nat):Option (List UInt8):=if(AI n bl bl.length).length <n then none else some (Dz n bl (AI n bl bl.length) want)
theorem Qp {n j:Nat} {bl:List (List UInt8)}(hj:j≤bl.length)(h:¬j<bl.length∨¬(AI n bl j).length <n):AI n bl j=AI n bl bl.length:=by
 by_cases hl:j<bl.length
 ·have h2:(AI n bl j).length =n:=by
   have:=FI n bl j;rcases h with h|h
   ·exact absurd hl h
   ·omega
  have:=I3 h2 (bl.length - j);rw[show j+(bl.length - j)=bl.length by omega]at this;exact this.symm
 ·rw[show j=bl.length by omega]
theorem QH(n want:Nat)(v:Value)(bl:List (List UInt8))(f:List Addr)(w:World)(h:As w f v bl)(h1:1≤n)(h3:n≤3)(hw:want<n+2)(hb:bl.length≤n+2)(hO:De bl 4) :
  Calls prog 239 #[int i64 (n:Int),v,int i64 (want:Int)] w (G4 (Kb n bl want) w):=by
 obtain⟨A1,c1,rfl,hc1,hm1,hx⟩:=As.open_ h;have HX:=U hx;have HO:=U hO;clear h hx hO;go_enter func239,ntmps239
 go_wp2_with fail
 have hP:=CG.start (lo:=w.heap.size) ((Blk.new w 2 #[]).alloc (.cells #[] 39)) (Blk.new1 w (.cells #[] 2) 39 #[]) (aC _) (by omega) (by omega);have hB0:=Af (Af (aB w.heap.size w) (.cells #[] 2)) (.cells #[] 39);have HP:=U hP;have HB0:=U hB0;obtain⟨g,hg⟩:∃g,w.heap.size=g:=⟨_,rfl⟩;rw[hg]at HP HB0⊢;have HG:=U hg;clear hP hB0 hg;go_loopw [8,9,10] (fun v6 v7 i wr =>∃(j:Nat) (A6:Option Addr) (c6:Nat) (A7:Option Addr) (c7:Nat) (fs:List Addr),j≤bl.length∧i= int i64 j∧v6= .slice A6 (AI n bl j).length c6∧v7= .slice A7 (AI n bl j).length c7∧CG wr g v6 v7 (AI n bl j) (BK bl (AI n bl j)) fs∧Below g w wr∧g≤wr.heap.size) (fun _ _ i _ => bl.length - (intOf i).toNat)
 case atStart =>
  refine⟨0,_,_,_,_,[],by omega,rfl,by rw[DE];rfl,by rw[DE];rfl,?_,HB0.o,by have:=HG.o;simp;omega⟩;rw[DE];exact HP.o
 case round =>
  obtain⟨j,A6,c6,A7,c7,fs,hj,rfl,rfl,rfl,hp,hbw,hsz⟩:=hrel;have hle:=FI n bl j;have HPK:=U hp;have HBW:=U hbw;clear hp hbw;by_cases hboth:j<bl.length∧(AI n bl j).length <n
  ·obtain⟨hlt,hn⟩:=hboth;have hn1:((AI n bl j).length:Int)<(n:Int):=by omega
   obtain⟨ad,A2,c2,fk,e1,b1,p1,r1,t1,s1,-⟩:=HX.o j hlt;subst e1;rw[HG.o]at b1;have p1':=(HBW.o.cell (p:=ad.add j) b1).trans p1;have hgd:bl.getD j [] =bl[j]:=by simp[aJ,hlt]
   have HR1:=U (show∀W,Below g w W→Ag W fk (.slice A2 bl[j].length c2) bl[j]from fun W hW => rSl.keep Ai.local_ r1 (AQ.of_below (fun a ha => by have:=t1 a ha;rw[HG.o]at this;exact this) hW));have HT1:=U (show∀a,a∈fk→a.block<g from fun a ha => by have:=t1 a ha;rw[HG.o]at this;exact this);have b1w:(ad.add j).block <wr.heap.size:=aE b1 hsz;clear p1 r1 t1 s1;by_cases hz:0<bl[j].length
   ·have hz1:(0:Int)<(bl[j].length:Int):=by omega
    have HST:=U (I4 (by rw[hgd];exact hz) hn);have HGD:=U hgd;clear hgd;obtain⟨bj,hbj⟩:∃bj,bl[j] =bj:=⟨_,rfl⟩;rw[hbj]at HGD HR1 p1' hz1 hz;clear hbj;go_wp2_with (first
     |(at_builtin;refine Ar rfl (.tmp 31) (.tmp 33) 25 rfl _ _ (by rfl) (by rfl) (HPK.o.addNum (b:=wr.heap.size) (j:=j) hsz (Af (aB _ _) _) (Blk.new _ _ _) (by omega) (by omega)) ?_;rintro v8 w8 ⟨A8,c8,rfl,p8,b8,s8⟩;have q8:=(b8.cell (p:=ad.add j) b1).trans p1';have P8:=U p8;have B8:=U b8;clear p8 b8)
     |(at_builtin;refine Ar rfl (.tmp 35) (.tmp 40) 83 rfl _ _ (by rfl) (by rfl) (P8.o.addRef (b:=w8.heap.size) (f:=fk) (L:=bj) s8 (Af (aB _ _) _) (Blk.new _ _ _) (HR1.o _ ((HBW.o.trans B8.o).trans (((aB _ _).alloc (aC _) _).mono (by omega)))) HT1.o (by rw[Bc];omega)) ?_;rintro v9 w9 ⟨A9,c9,f9,rfl,p9,b9,s9⟩;have P9:=U p9;have B9:=U b9;clear p9 b9))
    go_roundw
    case rel =>
     have hpp:=P9.o;have em:BK bl (AI n bl j) ++ [bj] =BK bl (AI n bl (j+1)):=by rw[HST.o];simp[BK,← HGD.o]
     rw[em,← HST.o]at hpp;have el:(AI n bl (j+1)).length =(AI n bl j).length +1:=by rw[HST.o];simp
     refine⟨j+1,A8,c8,A9,c9,f9,by omega,by go_num,by rw[el],by rw[el,Bc],?_,(HBW.o.trans B8.o).trans B9.o,s9⟩;rw[el]at *;exact hpp
    case measure => simp[intOf];omega
   ·have hz1:¬(0:Int)<(bl[j].length:Int):=by omega
    have HST:=U (Fd (n:=n) (bl:=bl) (j:=j) (.inl (by rw[hgd];exact hz)));go_wp2_with fail
    go_roundw
    case rel => exact⟨j+1,A6,c6,A7,c7,fs,by omega,by go_num,by rw[HST.o],by rw[HST.o],by rw[HST.o];exact HPK.o,HBW.o,hsz⟩
    case measure => simp[intOf];omega
  ·have hcase:(¬j<bl.length)∨(j<bl.length∧¬(AI n bl j).length <n):=by
    by_cases h:j<bl.length
    ·exact .inr ⟨h,fun h2 => hboth ⟨h,h2⟩⟩
    ·exact .inl h
   have hdone:=Qp (n:=n) hj (by rcases hcase with h|h;exact .inl h;exact .inr h.2);have hmem:∀k,k∈AI n bl bl.length→k≤50:=fun k hk => by have:=GD (GE hk);omega
   have hpart:=fun hv => ED h1 h3 hb HO.o hv hw
   have hms:=Fb (n:=n) (j:=bl.length) HO.o;have hbf:Kb n bl want=if(AI n bl bl.length).length <n then none else some (Dz n bl (AI n bl bl.length) want):=rfl
   rw[hdone]at HPK hcase hle⊢;clear hdone hboth;obtain⟨hv,hhv⟩:∃hv,AI n bl bl.length=hv:=⟨_,rfl⟩;rw[hhv]at HPK hcase hle hmem hpart hms hbf⊢;clear hhv;by_cases hn:hv.length<n
   ·have hn1:((hv.length:Nat):Int)<(n:Int):=by omega
    rw[aL hn]at hbf;rcases hcase with hc|⟨hc,hc'⟩
    ·go_wp2_with fail
     go_ret2
     exact .inr ⟨hbf,rfl,by rw[HG.o];exact HBW.o⟩
    ·exact absurd hn hc'
   rw[aI hn]at hbf;have hvn:hv.length=n:=by omega
   obtain⟨L,eL,lL,eM,lM⟩:=hpart hvn;have HBF:=U hbf;have HMS:=U hms;have HVL:=U hmem;clear hbf hms hmem hpart hle hn;obtain⟨g6,r6,-⟩:=HPK.o.nums.reads;obtain⟨g7,r7,-⟩:=HPK.o.lists.reads;have HC1:=U (JE n want 0 hv _ g6 wr L (by simpa using r6) hvn (by omega) (by omega) HVL.o (by omega) (by omega) eL lL);have HC2:=U (fun(W:World) (A4:Option Addr) (c4:Nat) (f4:List Addr) (hW:Below wr.heap.size wr W) (h4:Ag W f4 (.slice A4 L.length c4) L) => Lu (.slice A7 hv.length c7) (.slice A4 L.length c4) (BK bl hv) L 4 (g7 ++ fs) f4 W (rSl.below As.loc As.fix r7 hW) h4 (by rw[Bc];omega) HMS.o (by rw[Bc,lL,hvn];exact aC _) (by omega));rw[← eM]at HC2;obtain⟨D,hD⟩:∃D,Dz n bl hv want=D:=⟨_,rfl⟩;rw[hD]at HC2 lM HBF;rw[lL]at HC2;have HLM:=U lM;have HLL:=U lL;subst hvn;clear eL eM hD lL lM r6 r7;rcases hcase with hc|⟨hc,hc'⟩
   all_goals
    go_wp2_with (first
     |(go_at_call 162;refine HC1.o.mono ?_;rintro e w4 ⟨A4,c4,f4,rfl,r4,m4,b4⟩;rw[HLL.o]at r4⊢;have R4:=U r4;have B4:=U b4;clear r4 m4 b4)
     |(go_at_call 161;refine(HC2.o _ _ _ _ B4.o R4.o).mono ?_;rintro e w5 ⟨A5,c5,f5,rfl,r5,m5,b5⟩;have R5:=U r5;have M5:=U m5;have B5:=U b5;clear r5 m5 b5))
    go_ret2
    exact .inl ⟨D,A5,c5,f5,HBF.o,rfl,R5.o,M5.o.mono (by rw[HG.o];have:=B4.o.size;omega),by rw[HG.o];exact HBW.o.trans ((B4.o.trans (B5.o.mono B4.o.size)).mono hsz)⟩
theorem Kw(n:Nat)(v:Value)(bl:List (List UInt8))(f:List Addr)(w:World)(h:As w f v bl)(h1:1≤n)(h3:n≤3)(hb:bl.length≤n+2)(hO:De bl 4) :
  Calls prog 160 #[int i64 (n:Int),v] w (G4 (Dh n bl) w):=by
 have H:=U h;have HO:=U hO;obtain⟨A1,c1,rfl,-⟩:=As.open_ h;clear h hO;go_enter func160,ntmps160
 go_wp2_with fail
 go_loopw [6,7,8,9] (fun o i _ _ wr =>∃(k:Nat) (A:Option Addr) (c3:Nat),k≤n∧(0<k→(AI n bl bl.length).length =n)∧i= int i64 k∧o= .slice A (k * 4) c3∧Aj 1 5 Ai wr w.heap.size o (Fk n bl (AI n bl bl.length) k) []∧Below w.heap.size w wr) (fun _ i _ _ _ => n - (intOf i).toNat)
 case atStart => exact⟨0,_,0,by omega,(fun h => by omega),rfl,rfl,Aj.emptyB,Af (aB _ _) _⟩
 case round =>
  obtain⟨k,A,c3,hk,hpos,rfl,rfl,ho,hb3⟩:=hrel;have HO3:=U ho;have HB3:=U hb3;have HPOS:=U hpos;clear ho hb3 hpos;by_cases hkn:k<n
  ·have HC:=U (QH n k _ bl f wr (rSl.below As.loc As.fix H.o HB3.o) h1 h3 (by omega) hb HO.o);go_wp2_with fail
   refine HC.o.mono ?_;rintro e w4 (⟨L,A4,c4,f4,e4,rfl,r4,m4,b4⟩|⟨e4,rfl,b4⟩)
   ·unfold Kb at e4;split at e4
    ·cases e4
    rename_i hn
    injection e4 with e4
    have hvn:(AI n bl bl.length).length =n:=by have:=FI n bl bl.length;omega
    obtain⟨-,-,-,-,hLp⟩:=ED h1 h3 hb HO.o hvn (show k<n+2 by omega);rw[e4]at hLp;have hla:=El h1 h3 hb HO.o hvn k hk;have hst:=Ig n bl (AI n bl bl.length) k;rw[e4]at hst;have HAP:=U (Tryz.appendBytes HO3.o HB3.o.size b4 r4 (fun a ha => m4.from_ a ha) (by rw[hla,hLp];omega));rw[hla,hLp,← hst]at HAP;rw[hLp];clear r4 m4 b4 hst hla;go_wp2_with (at_builtin;refine Ar rfl (.tmp 25) (.tmp 26) 39 rfl _ _ (by rfl) (by rfl) HAP.o ?_;rintro v6 w6 ⟨A6,c6,rfl,o6,B6,e6⟩;have HO6:=U o6;have HB6:=U B6;clear o6 B6)
    go_roundw
    case rel => exact⟨k+1,A6,c6,by omega,(fun _ => hvn),by go_num,by congr 1;omega,HO6.o,HB3.o.trans HB6.o⟩
    case measure => simp[intOf];omega
   ·have hdn:Dh n bl=none:=by
     unfold Kb at e4;unfold Dh;split at e4
     ·rename_i hn;rw[aL hn]
     ·cases e4
    have B4:=U b4;have HD:=U hdn;clear e4 b4 hdn;go_wp2_with fail
    go_ret2
    exact .inr ⟨HD.o,rfl,HB3.o.trans (B4.o.mono HB3.o.size)⟩
  ·obtain rfl:k=n:=by omega
   have hvn:=HPOS.o (by omega);have hla:=El h1 h3 hb HO.o hvn k hk;have hd:Dh k bl=some (Fk k bl (AI k bl bl.length) k):=by unfold Dh;rw[aI (by omega)]
   have HD:=U hd;clear hd;go_wp2_with fail
   go_ret2
   obtain⟨gs,r8,m8⟩:=HO3.o.readsMine F0;exact .inl ⟨_,A,c3,gs,HD.o,by rw[hla];rfl,by rw[hla];exact r8,m8,HB3.o⟩
