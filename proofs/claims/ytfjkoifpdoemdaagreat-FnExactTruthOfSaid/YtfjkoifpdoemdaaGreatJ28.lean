/- Part 28 of the proof. -/
import Derived.Test.YtfjkoifpdoemdaaGreatJ27
import Derived.Test.YtfjkoifpdoemdaaGreatJ18
set_option maxHeartbeats 8000000
set_option maxRecDepth 100000
set_option linter.unusedVariables false
set_option linter.unusedSimpArgs false
open Go.Proofs.Tryz
open Go.Value (int)
open Go.IntKind (i64)
namespace Go.Proofs.YtfjkoifpdoemdaaGreat
open Go.RowKit Go.Lib Go.Sort
theorem Qx(p:Nat)(fs:List Addr)(d:Am)(v:Value)(fa:List Addr)(g row:Nat)(w:World)(h:AtW w p fs d)(ha:rSl 9 Ac w fa v (AN d))(hT:BR d)(hg:g<d.g.length)(hr:(row:Int)<d.s.rows) :
  Calls prog 88 #[.pointer (some ⟨p,0,none⟩),v,int i64 (g:Int),int i64 (row:Int)] w (OptS (Di d g row) (fun a => a∈fa) w):=by
 obtain⟨a1,a2⟩:=hT.ok.data;obtain⟨b1,b2⟩:=hT.ok.p;obtain⟨b3,b4⟩:=hT.ok.g;simp only[AX.sh]at a1 a2 b1 b2 b3 b4;have hdl:=hT.dl g hg;have hcl:(AN d).length≤1000000:=by have:=FD d;have:=hT.sm;omega
 have HOW:=U (l13Own_c p fs d v (AN d) fa (g:Int) (row:Int) w h ha hcl);have HH:=U h;have HA:=U ha;have HT:=U hT;have lp:p<w.heap.size:=by obtain⟨A0,A1,A2,c0,c1,c2,f0,f1,f2,HC⟩:=h.cells;exact HC.lt
 obtain⟨X,hX⟩:∃X,Di d g row=X:=⟨_,rfl⟩;rw[hX];have HX:=U hX;obtain⟨nd,hnd⟩:∃nd:Nat,d.s.data=nd:=⟨d.s.data.toNat,by omega⟩;obtain⟨ns,hns⟩:∃ns:Nat,d.s.p=ns:=⟨d.s.p.toNat,by omega⟩;obtain⟨ng,hng⟩:∃ng:Nat,d.s.g=ng:=⟨d.s.g.toNat,by omega⟩;have HND:=U hnd;have HNS:=U hns;have HNG:=U hng;have hnd1:1≤nd:=by omega
 have hnd3:nd≤3:=by omega
 have hns2:ns≤2:=by omega
 have hng4:ng≤4:=by omega
 have hng1:1≤ng:=by omega
 have HDL:=U (show(AJ d g).length =nd+ns by omega);obtain⟨Av,cv,rfl,-⟩:=rSl.head ha;obtain⟨A0,A1,A2,c0,c1,c2,f0,f1,f2,HC⟩:=h.cells;have n0:=HC.n0;have n2:=HC.n2;have n3:=HC.n3;rw[hng]at n0;rw[hnd]at n2;rw[hns]at n3;have HSH:=U HC.s;clear h ha hT hX hnd hns hng a1 a2 b1 b2 b3 b4 hdl HC;go_enter func88,ntmps88
 go_wp2_with fail
 refine HOW.o.mono ?_;rintro e w1 (⟨D,A3,c3,f3,hown,rfl,hr3,hl3,hb1⟩|⟨hown,rfl,hb1⟩)
 ·have HO:∃m,Ef d.s.g (AN d) (g:Int) (row:Int)=some m∧m.data=D:=by
   cases ho:Ef d.s.g (AN d) (g:Int) (row:Int)with
   |none => rw[ho]at hown;cases hown
   |some m => rw[ho]at hown;exact⟨m,rfl,by simpa using hown⟩
  obtain⟨m,ho,hmd⟩:=HO;have e1:X=some D:=by rw[← HX.o,Io ho,hmd]
  have HE:=U e1;have R3:=U hr3;have L3:=U hl3;have B1:=U hb1;clear hown ho hmd e1 hr3 hl3 hb1;go_wp2_with fail
  go_ret2
  exact .inl ⟨D,A3,c3,f3,HE.o,rfl,R3.o,L3.o,B1.o⟩
 ·have ho:Ef d.s.g (AN d) (g:Int) (row:Int)=none:=by
   cases ho:Ef d.s.g (AN d) (g:Int) (row:Int)with
   |none => rfl
   |some m => rw[ho]at hown;cases hown
  have HO:=U ho;have B1:=U hb1;have hrow:=HT.o.row hg hr;have HDC:=U (l7Dead_c p fs d g w1 (HH.o.below hb1) hg (fun dr hd => by have:=hrow.1 dr hd;omega) (by rw[HDL.o];omega));have m0:=(hb1.cell (p:=⟨p,0,none⟩) lp).trans n0;have m2:=(hb1.cell (p:=⟨p,2,none⟩) lp).trans n2;have m3:=(hb1.cell (p:=⟨p,3,none⟩) lp).trans n3;have lp1:p<w1.heap.size:=aE lp hb1.size;have HSH1:=U (show w1.rangeAt p 0 [int i64 d.s.g,int i64 d.s.c,int i64 d.s.data,int i64 d.s.p,int i64 d.s.rows,int i64 d.s.cap,int i64 d.s.b,int i64 d.s.q,int i64 d.s.t]from by
   obtain⟨A0',A1',A2',c0',c1',c2',f0',f1',f2',HC1⟩:=(HH.o.below hb1).cells;exact HC1.s)
  have HUC:=U (Kx d.s.sh (.slice Av (AN d).length cv) (AN d) fa (g:Int) w1 (rSl.below Ac.local_ Ac.fixed HA.o hb1) hcl);unfold shV at HUC;rw[show d.s.sh.g=d.s.g from rfl,show d.s.sh.c=d.s.c from rfl,show d.s.sh.data=d.s.data from rfl,show d.s.sh.p=d.s.p from rfl,show d.s.sh.rows=d.s.rows from rfl,show d.s.sh.cap=d.s.cap from rfl,show d.s.sh.b=d.s.b from rfl,show d.s.sh.q=d.s.q from rfl,show d.s.sh.t=d.s.t from rfl]at HUC;clear hown ho hb1 hrow n0 n2 n3;cases hd:Ki d g with
  |true =>
   have e1:X=none:=by rw[← HX.o];exact HT.o.dead hg hr hd HO.o
   have HE:=U e1;rw[hd]at HDC;clear hd e1;go_wp2_with (go_at_call 120;refine HDC.o.mono ?_;rintro e w' ⟨rfl,rfl⟩)
   go_ret2
   exact .inr ⟨HE.o,rfl,B1.o⟩
  |false =>
   rw[hd]at HDC;obtain⟨M,hM⟩:∃M,Cm d.s.g (AN d) (g:Int)=M:=⟨_,rfl⟩;rw[hM]at HUC;have HM:=U hM;clear hd hM;have HL7:=U (fun(W:World) (hW:Below w.heap.size w W) => QU p fs d g row nd W (HH.o.below hW) hg (HT.o.row hg hr).1 HND.o hnd1 hnd3 (by rw[HDL.o];omega) (HT.o.blocks4 hg hr));by_cases q1:g<ng
   ·have q1i:(g:Int)<(ng:Int):=by omega
    have e1:X=Dh nd (Bq d g row):=by rw[← HX.o,Gk HO.o (by rw[HNG.o];exact q1i),HND.o];rfl
    rw[← e1]at HL7;clear e1;go_wp2_with (first
     |(go_at_call 120;refine HDC.o.mono ?_;rintro e w' ⟨rfl,rfl⟩)
     |(refine aD rfl 31 (.tmp 35) rfl p 0 rfl _ _ HSH1.o underlying31 rfl (by kernel_rfl) ?_)
     |(go_at_call 154;refine HUC.o.mono ?_;rintro e w2 ⟨A5,c5,f5,rfl,r5,l5,b5⟩;have B5:=U (B1.o.trans (b5.mono B1.o.size));have k0:=(b5.cell (p:=⟨p,0,none⟩) lp1).trans m0;have lp2:=aE lp1 b5.size;have HLC:=U (HL7.o w2 B5.o);clear r5 l5 b5))
    refine HLC.o.mono ?_;rintro e w6 (⟨D,A6,c6,f6,e6,rfl,r6,g6,b6⟩|⟨e6,rfl,b6⟩)
    ·have R6:=U r6;have G6:=U (show∀a,a∈f6→w.heap.size≤a.block from fun a ha => bL B5.o.size (g6.from_ a ha));have B6:=U b6;have E6:=U e6;clear r6 b6 e6 g6;go_wp2_with fail
     go_ret2
     exact .inl ⟨D,A6,c6,f6,E6.o,rfl,R6.o,fun a ha => .inr (G6.o a ha),B5.o.trans (B6.o.mono B5.o.size)⟩
    ·have B6:=U b6;have E6:=U e6;clear b6 e6;go_wp2_with fail
     go_ret2
     exact .inr ⟨E6.o,rfl,B5.o.trans (B6.o.mono B5.o.size)⟩
   ·have q1i:¬(g:Int)<(ng:Int):=by omega
    have hXp:X=Dh nd (CL d M g row):=by rw[← HX.o,GT HO.o (by rw[HNG.o];exact q1i),HND.o,HM.o];rfl
    by_cases q2:M.length=0
    ·have hM0:M= []:=bT q2;have e1:X=Dh nd (Bq d g row):=by rw[hXp,hM0];unfold CL Bq;rw[RL]
     rw[← e1]at HL7;have hq2:(M.length:Int)=0:=by omega
     rw[hM0]at HUC;simp only[List.length_nil]at HUC;clear e1 hXp hM0 q2 hq2;go_wp2_with (first
      |(go_at_call 120;refine HDC.o.mono ?_;rintro e w' ⟨rfl,rfl⟩)
      |(refine aD rfl 31 (.tmp 35) rfl p 0 rfl _ _ HSH1.o underlying31 rfl (by kernel_rfl) ?_)
      |(go_at_call 154;refine HUC.o.mono ?_;rintro e w2 ⟨A5,c5,f5,rfl,r5,l5,b5⟩;have B5:=U (B1.o.trans (b5.mono B1.o.size));have k0:=(b5.cell (p:=⟨p,0,none⟩) lp1).trans m0;have lp2:=aE lp1 b5.size;have HLC:=U (HL7.o w2 B5.o);clear r5 l5 b5))
     refine HLC.o.mono ?_;rintro e w6 (⟨D,A6,c6,f6,e6,rfl,r6,g6,b6⟩|⟨e6,rfl,b6⟩)
     ·have R6:=U r6;have G6:=U (show∀a,a∈f6→w.heap.size≤a.block from fun a ha => bL B5.o.size (g6.from_ a ha));have B6:=U b6;have E6:=U e6;clear r6 b6 e6 g6;go_wp2_with fail
      go_ret2
      exact .inl ⟨D,A6,c6,f6,E6.o,rfl,R6.o,fun a ha => .inr (G6.o a ha),B5.o.trans (B6.o.mono B5.o.size)⟩
     ·have B6:=U b6;have E6:=U e6;clear b6 e6;go_wp2_with fail
      go_ret2
      exact .inr ⟨E6.o,rfl,B5.o.trans (B6.o.mono B5.o.size)⟩
    ·have hq2:((M.length:Int) == 0)=false:=by rw[beq_eq_false_iff_ne];omega
     have hq3:¬(M.length:Int)=0:=by omega
     have HXP:=U hXp;have HQ2:=U q2;clear hXp q2;go_wp2_with (first
      |(go_at_call 120;refine HDC.o.mono ?_;rintro e w' ⟨rfl,rfl⟩)
      |(refine aD rfl 31 (.tmp 35) rfl p 0 rfl _ _ HSH1.o underlying31 rfl (by kernel_rfl) ?_)
      |(go_at_call 154;refine HUC.o.mono ?_;rintro e w2 ⟨A5,c5,f5,rfl,r5,l5,b5⟩;have R5:=U r5;have B5:=U (B1.o.trans (b5.mono B1.o.size));have k0:=(b5.cell (p:=⟨p,0,none⟩) lp1).trans m0;have lp2:=aE lp1 b5.size;clear r5 l5 b5))
     obtain⟨a0,c0',b0,o0,A1',c1',f1',HG⟩:=HH.o.grp hg;have HGH:=U HG;have HPAR:=U (show Jn d g row M from by rw[← HM.o];exact HT.o.par hg (by rw[HNG.o];omega) hr);have HW4:=U (show De (CL d M g row) 4 from by rw[← HM.o];exact HT.o.will4 hg (by rw[HNG.o];omega) hr);obtain⟨L,hL⟩:∃L,AJ d g=L:=⟨_,rfl⟩;have HLL:=U hL;have hWF:CL d M g row=FU (Cb d g) row M L:=by unfold CL;rw[hL]
     have hwl:=Cu (Cb d g) row M L;rw[← hWF]at hwl;obtain⟨Y,hY⟩:∃Y,CL d M g row=Y:=⟨_,rfl⟩;have hYL:Y=FU (Cb d g) row M L:=by rw[← hY];exact hWF
     rw[hY]at HXP HW4 hwl;have HYL:=U hYL;have HWL:=U hwl;have HLN:=U (show L.length=nd+ns by rw[← hL];exact HDL.o);have hLn:L.length≤5:=by rw[HLN.o];omega
     have hgl:(g:Int)<(d.g.length:Int):=by omega
     have n9:=(B5.o.cell (p:=⟨p,9,none⟩) lp).trans HG.n9;have pl:=HG.pl;have l0:=aE HG.l0 B5.o.size;have x0:=(B5.o.cell (p:=⟨b0,o0,none⟩) HG.l0).trans HG.k0;rw[hL]at x0;have s5:=B5.o.size;have HE:=U (Aj.emptyL (w:=w2));have HE2:=U (Af (aB w2.heap.size w2) (.cells #[] 39));clear HG hL hWF hY hYL hwl HUC HDC HL7;go_loopw [14,13,15,16,17,18,19] (fun i o _ _ _ _ _ wr =>∃(k:Nat) (A:Option Addr) (c3:Nat) (fo:List Addr),k≤L.length∧i= int i64 k∧o= .slice A k c3∧Hid (Aj 1 39 (Al 1 Ai) wr w2.heap.size o (Y.take k) fo)∧Hid (Below w2.heap.size w2 wr)) (fun i _ _ _ _ _ _ _ => L.length - (intOf i).toNat)
     case atStart => exact⟨0,_,0,[],by omega,rfl,rfl,HE.o,HE2.o⟩
     case round =>
      obtain⟨k,A,c3,fo,hk,rfl,rfl,HOO,HB⟩:=hrel;clear HE HE2;have HBS:=U HB.o.size;have sB:=HB.o.size;have j9:=(HB.o.cell (p:=⟨p,9,none⟩) lp2).trans n9;have j0:=(HB.o.cell (p:=⟨b0,o0,none⟩) l0).trans x0;have lp3:p<wr.heap.size:=aE lp2 sB;have l03:b0<wr.heap.size:=aE l0 sB;have HBW:=U (B5.o.trans (HB.o.mono s5));by_cases hkn:k<L.length
      ·have hkY:k<Y.length:=by rw[HWL.o];exact hkn
       have hkD:k<(AJ d g).length:=by rw[HLL.o];exact hkn
       have hLk:(AJ d g)[k] =L[k]:=by simp only[HLL.o]
       have hgr:=HGH.o.below HBW.o;obtain⟨a1,b1,o1,a2,c2,b2,o2,A3,c4,f3,e1,HD0⟩:=Kk (row:=row) HGH.o.rd hkD (HPAR.o.hr _ (aN hkD));have HD:=HD0.below HBW.o;have HFX:=U (show∀a,a∈f3→a.block<w2.heap.size∨wr.heap.size≤a.block from fun a ha => .inl (aE (rSl.there Ai.fixed HD0.rd a ha) s5));subst e1;have hrl:=HPAR.o.hr _ (aN hkD);have h4:=HPAR.o.h4 _ (aN hkD);rw[hLk]at HD hrl h4;have p1:=HD.p1;have l1:=HD.l1;have y0:=HD.y0;have y1:=HD.y1;have p2:=HD.p2;have l2:=HD.l2;have z0:=HD.z0;have z1:=HD.z1;have hYk:Y[k] =Gt (Cb d g) row M k L[k]:=by
        have:=F5 (Cb d g) row M L hkn;simp only[← HYL.o]at this;exact this
       have hwillD:Gt (Cb d g) row M k L[k] =if L[k].wiped =true then []else(DS (Cb d g) row k (Cg L[k] row).bytes (Cg L[k] row).stamp M).1:=rfl
       have hst:Y.take k ++ [Y[k]] =Y.take (k+1):=(aM hkY).symm;have hlen:(Y.take k).length =k:=by rw[aQ];omega
       have HLEN:=U hlen;have HENC:=U (HPAR.o.enc hkD);obtain⟨wp,hwp⟩:∃wp,L[k].wiped =wp:=⟨_,rfl⟩;obtain⟨B,hB⟩:∃B,(Cg L[k] row).bytes =B:=⟨_,rfl⟩;obtain⟨sp,hsp⟩:∃sp,(Cg L[k] row).stamp =sp:=⟨_,rfl⟩;obtain⟨mb,hmb⟩:∃mb,L[k].blocks.length =mb:=⟨_,rfl⟩;rw[hwp]at y0 hwillD;rw[hmb]at y1 hrl;rw[hsp]at z0 hwillD;have hRB0:=HD.rd;rw[hB]at z1 hwillD h4 hRB0;rw[h4]at z1 hRB0;rw[hYk,hwillD]at hst;have HR3:=U hRB0;have H4:=U h4;have hrl1:(row:Int)<(mb:Int):=by omega
       have hk1:(k:Int)<(L.length:Int):=by omega
       clear hgr HD HD0 hLk hYk hwillD hlen hwp hB hsp hmb h4 hRB0;cases wp with
       |true =>
        rw[aL rfl]at hst;have HST:=U hst;clear hst;have HAP:=U (Tryz.addAny (wr:=wr) (W:=(wr.alloc (.cells #[.bool true,.slice (some a2) mb c2] 194)).alloc (.cells #[.slice none 0 0] 39)) (b:=wr.heap.size+1) (ve:=.slice none 0 0) (f:=[]) (L:=[]) HOO.o HBS.o (by rw[HLEN.o];omega) (Af (Af (aB _ _) _) _) (Blk.new1 _ _ _ _) (Ag.empty (by omega)) (fun a ha => by cases ha));rw[HLEN.o,HST.o]at HAP;go_wp2_with (at_builtin;refine Ar rfl (.tmp 83) (.tmp 84) 83 rfl _ _ (by rfl) (by rfl) HAP.o ?_;rintro v6 w6 ⟨A6,c6,h6,rfl,o6,B6,e6,s6⟩;have HO6:=U o6;have HB6:=U B6;clear o6 B6 s6)
        go_roundw
        case rel => exact⟨k+1,A6,c6,_,by omega,by go_num,rfl,HO6.o,HB.o.trans HB6.o⟩
        case measure => simp[intOf];omega
       |false =>
        rw[aI (by simp)]at hst;have HST:=U hst;clear hst;have HF3:=U (show∀a,a∈f3→a.block<w2.heap.size∨wr.heap.size≤a.block from HFX.o);go_wp2_with fail
        obtain⟨u,hu⟩:∃u,u=wr:=⟨_,rfl⟩;subst hu;have hbox:Below u.heap.size u (u.alloc (.cells #[.bool false,.slice (some a2) mb c2] 194)):=Af (aB _ _) _;have HBOX:=U hbox;clear hbox;go_loopw [18,16,17,19] (fun i b s _ wr =>∃(j:Nat) (A:Option Addr) (c:Nat) (f:List Addr) (st:List UInt8 × Int),j≤M.length∧i= int i64 j∧b= .slice A 4 c∧s= int i64 st.2∧Hid (st=DS (Cb d g) row k B sp (M.take j))∧Hid (Ag wr f (.slice A 4 c) st.1)∧Hid (∀a,a∈f→a.block<w2.heap.size∨u.heap.size≤a.block)∧Hid (Below u.heap.size u wr)) (fun i _ _ _ _ => M.length - (intOf i).toNat)
        case atStart => exact⟨0,A3,c4,f3,(B,sp),by omega,rfl,rfl,rfl,rfl,HR3.o.below HBOX.o,HF3.o,HBOX.o⟩
        case round =>
         obtain⟨j,Ab,cb,fb,⟨s1,s2⟩,hj,rfl,rfl,rfl,HSTT,HRB,HNG2,HBU⟩:=hrel;dsimp only at *;have sU:=HBU.o.size;have HBW2:=U (HBW.o.trans (HBU.o.mono HBW.o.size));by_cases hjM:j<M.length
         ·obtain⟨A5',c5',e,hc5',hm5',hx⟩:=rSl.at_ Ac.fixed (by decide) R5.o;injection e with e1 _ e3
          subst e1 e3;obtain⟨ad,b,o,cs,fk,rfl,hat⟩:=hx j hjM;have hB2r:=HB.o.trans (HBU.o.mono sB);have hat2:=hat.below Ac.local_ hB2r;have hpl:=hat.place;have hbl:=hat2.lt;obtain⟨v0,v1,v2,g0,g1,g2,ecs,-,-,-,-,-,-,-,-,-,hr2⟩:=hat2.reads;obtain⟨Ad,cd,e7,-⟩:=rSl.head hr2;subst e7;have hcl9:=hat2.len;have y1':wr.cell? ⟨b,o+1,none⟩=some (int i64 M[j].seq):=by
           have:=hat2.cell 1 (by rw[hcl9];omega);simpa [ecs]using this
          have y4:wr.cell? ⟨b,o+4,none⟩=some (int i64 M[j].group):=by
           have:=hat2.cell 4 (by rw[hcl9];omega);simpa [ecs]using this
          have y5:wr.cell? ⟨b,o+5,none⟩=some (int i64 M[j].row):=by
           have:=hat2.cell 5 (by rw[hcl9];omega);simpa [ecs]using this
          have y8:wr.cell? ⟨b,o+8,none⟩=some (.slice Ad M[j].delta.length cd):=by
           have:=hat2.cell 8 (by rw[hcl9];omega);simpa [ecs]using this
          have hmm:=HPAR.o.hm _ (aN hjM);have hee:=HENC.o _ (aN hjM);have hst1:=Ld (Cb d g) row k B sp hjM;rw[← HSTT.o]at hst1;unfold Gs at hst1;have hs1l:s1.length=4:=by
           have:=Du (b:=B) (stamp:=sp) (row:=(row:Int)) (fun m hm =>(HENC.o m (List.mem_of_mem_take hm)).1) H4.o (M:=M.take j);rw[← HSTT.o]at this;exact this
          have HS1L:=U hs1l;have HBWR:=U hB2r;obtain⟨mg,hmg⟩:∃mg:Nat,M[j].group =mg:=⟨M[j].group.toNat,by omega⟩;obtain⟨A0',A1',A2',c0'',c1'',c2',f0',f1'',f2',HC1⟩:=(HH.o.below HBW2.o).cells;have q0:=HC1.n0;have q2:=HC1.n2;have q3:=HC1.n3;rw[HNG.o]at q0;rw[HND.o]at q2;rw[HNS.o]at q3;have lp4:=HC1.lt;have hgb:g - ng≤90:=by
           have:=HPAR.o.g2;have h9:=HPAR.o.ok.c;simp only[AX.sh]at h9;rw[HNG.o]at this;omega
          have hdl4:M[j].delta.length =4 * nd:=by have:=hmm.2.2;rw[HND.o]at this;omega
          have hencW:Cb d g M[j] =Ll nd ns (Bo M[j].delta (cau (8+(g - ng)) mg)):=by
           unfold Cb Lg;rw[HND.o,HNS.o,HNG.o,hmg];rfl
          obtain⟨DL,hDL⟩:∃DL,M[j].delta =DL:=⟨_,rfl⟩;obtain⟨C,hC⟩:∃C,cau (8+(g - ng)) mg=C:=⟨_,rfl⟩;rw[hDL,hC]at hencW;rw[hDL]at y8 hr2 hdl4;rw[hmg]at y4;have HCA:=U (fun(W:World) => Kv (8+(g - ng)) mg (by omega) (by have:=hmm.2.1;have:=HNG.o;omega) W);rw[hC]at HCA;have HSC:=U (fun(W:World) (hW:Below wr.heap.size wr W) => GX (.slice Ad DL.length cd) DL C g2 W (Ag.below hr2 hW) (by omega));have hscl:=Cx DL C;have HEN:=U (fun(W w3:World) (A9:Option Addr) (c9:Nat) (f9:List Addr) (h9:Ag w3 f9 (.slice A9 DL.length c9) (Bo DL C)) (hW:Below w3.heap.size w3 W) => Ph nd ns (.slice A9 DL.length c9) (Bo DL C) f9 W (h9.below hW) hnd1 hnd3 hns2 (by rw[hscl];exact hdl4));rw[← hencW]at HEN;obtain⟨D0,hD0⟩:∃D0,Bo DL C=D0:=⟨_,rfl⟩;rw[hD0]at HSC HEN hscl;obtain⟨E,hE⟩:∃E,Cb d g M[j] =E:=⟨_,rfl⟩;rw[hE]at HEN hee hst1;have HE4:=U hee.1;have hkl:=hee.2;have hki:(k:Int)<(E.length:Int):=by omega
          have hDe:E.getD k [] =E[k]:=by simp[aJ,hkl]
          obtain⟨D,hDD⟩:∃D,E.getD k [] =D:=⟨_,rfl⟩;rw[hDD]at HE4 hst1 hDe;have HDE:=U hDe;have HAD:=U (fun(W w4:World) (A9:Option Addr) (c9:Nat) (f9:List Addr) (h9:Ag w4 f9 (.slice A9 4 c9) D) (h4W:Below w4.heap.size w4 W) (hW:Below wr.heap.size wr W) => Lt (.slice Ab 4 cb) (.slice A9 4 c9) s1 D fb f9 W (Ag.below HRB.o hW) (h9.below h4W) (by rw[HS1L.o,HE4.o]) (by rw[HE4.o];omega));have HAL:=U (show(D3 s1 D).length =4 by rw[FS _ _ (by rw[HS1L.o,HE4.o]),HS1L.o]);have HSCL:=U hscl;obtain⟨mq,hmq⟩:∃mq,M[j].seq =mq:=⟨_,rfl⟩;obtain⟨mr,hmr⟩:∃mr,M[j].row =mr:=⟨_,rfl⟩;rw[hmq]at y1' hst1;rw[hmr]at y5 hst1;have HST1:=U hst1;clear hat hat2 hx hB2r hr2 ecs hcl9 hmm hee hst1 hs1l hmg HC1 hdl4 hencW hDL hC hscl hD0 hE hDe hDD hmq hmr;by_cases qr:mr=(row:Int)
          ·have hk1':(mr ==(row:Int))=true:=by simpa using qr
           by_cases qs:s2<mq
           ·have hd1:decide (s2<mq)=true:=aK qs;have HNEW:=U (show DS (Cb d g) row k B sp (M.take (j+1))=(D3 s1 D,mq) by rw[HST1.o,aL ⟨qr,qs⟩]);clear qr qs;have e1:IntKind.i64.wrap (8+(g:Int))=8+(g:Int):=IntWalk.i64_in _ (by omega);have e2:IntKind.i64.wrap (8+(g:Int) - (ng:Int))=((8+(g - ng):Nat):Int):=by rw[IntWalk.i64_in _ (by omega)];omega
            go_wp2_with fail
            go_region_law (first
             |(go_simp;go_at_call 157;refine(HCA.o _).mono ?_;rintro e w' ⟨rfl,rfl⟩;dsimp only)
             |(go_simp;go_at_call 156;refine(HSC.o _ (by repeat(with_reducible first|assumption|exact aB _ _|apply Af|apply An))).mono ?_;rintro e w3 ⟨A9,c9,f9,rfl,r9,m9,b9⟩;rw[HSCL.o]at r9⊢;have B9:=Below.via (a:=wr) (by repeat(with_reducible first|assumption|exact aB _ _|apply Af|apply An)) b9;have R9:=U r9;have k2':=(B9.cell (p:=⟨p,2,none⟩) lp4).trans q2;have k3':=(B9.cell (p:=⟨p,3,none⟩) lp4).trans q3;have lp5:=aE lp4 B9.size;have z1':=(B9.cell (p:=⟨b,o+1,none⟩) hbl).trans y1';clear r9 m9 b9;dsimp only))
            all_goals
             go_wp2_with fail
             go_region_law (first
              |(go_simp;go_at_call 159;refine(HEN.o _ w3 _ _ _ R9.o (by repeat(with_reducible first|exact aB _ _|apply Af|apply An))).mono ?_;rintro e w4 ⟨A10,c10,f10,rfl,r10,b10⟩;obtain⟨A10',c10',e8,-,-,hx8⟩:=As.open_ r10;injection e8 with e81 _ e83;subst e81 e83;obtain⟨ad8,A11,c11,f11,e9,bl9,p9,r11,-⟩:=hx8 k hkl;subst e9;rw[← HDE.o,HE4.o]at p9;rw[← HDE.o,HE4.o]at r11;have B10:=Below.via (a:=wr) (by repeat(with_reducible first|assumption|exact aB _ _|apply Af|apply An)) b10;have R11:=U r11;clear hx8 r10 r11 b10;dsimp only)
              |(go_simp;go_at_call 158;refine(HAD.o _ w4 _ _ _ R11.o (by repeat(with_reducible first|exact aB _ _|apply Af|apply An)) (by repeat(with_reducible first|assumption|exact aB _ _|apply Af|apply An))).mono ?_;rintro e w5 ⟨A12,c12,f12,rfl,r12,m12,b12⟩;rw[HAL.o]at r12⊢;have B12:=Below.via (a:=wr) (by repeat(with_reducible first|assumption|exact aB _ _|apply Af|apply An)) b12;have z2':=(B12.cell (p:=⟨b,o+1,none⟩) hbl).trans y1';have hbl5:=aE hbl B12.size;dsimp only))
             all_goals
              have hm12:∀a,a∈f12→a.block<w2.heap.size∨u.heap.size≤a.block:=fun a ha => by
               have h1:=m12.from_ a ha;have h2:=B10.size;have h3:w4.heap.size≤a.block:=h1;exact .inr (by omega)
              have HM12:=U hm12;have R12:=U r12;have BB12:=U (show Below wr.heap.size wr w5 from B12);clear hm12 m12 r12 b12;go_wp2_with fail
              go_roundw
              case rel => exact⟨j+1,A12,c12,f12,(D3 s1 D,mq),by omega,by go_num,rfl,rfl,HNEW.o.symm,R12.o,HM12.o,HBU.o.trans (BB12.o.mono sU)⟩
              case measure => simp[intOf];omega
           ·have hd1:decide (s2<mq)=false:=aG qs;have HNEW:=U (show DS (Cb d g) row k B sp (M.take (j+1))=(s1,s2) by rw[HST1.o,aI (fun h => qs h.2)]);clear qr qs;go_wp2_with fail
            go_roundw
            case rel => exact⟨j+1,Ab,cb,fb,(s1,s2),by omega,by go_num,rfl,rfl,HNEW.o.symm,HRB.o,HNG2.o,HBU.o⟩
            case measure => simp[intOf];omega
          ·have hk1':(mr ==(row:Int))=false:=by simpa using qr
           have HNEW:=U (show DS (Cb d g) row k B sp (M.take (j+1))=(s1,s2) by rw[HST1.o,aI (fun h => qr h.1)]);clear qr;go_wp2_with fail
           go_roundw
           case rel => exact⟨j+1,Ab,cb,fb,(s1,s2),by omega,by go_num,rfl,rfl,HNEW.o.symm,HRB.o,HNG2.o,HBU.o⟩
           case measure => simp[intOf];omega
         ·obtain rfl:j=M.length:=by omega
          have hst:=HSTT.o;rw[aV]at hst;have hl4:s1.length=4:=by
           have:=Du (b:=B) (stamp:=sp) (row:=(row:Int)) (fun m hm =>(HENC.o m hm).1) H4.o;rw[← hst]at this;exact this
          have hsn:=HST.o;rw[← hst]at hsn;have HAP:=U (Tryz.addAny (wr:=u) (W:=wr.alloc (.cells #[.slice Ab s1.length cb] 39)) (b:=wr.heap.size) (ve:=.slice Ab s1.length cb) (f:=fb) (L:=s1) HOO.o HBS.o (by rw[HLEN.o];omega) (Af HBU.o _) (Blk.new _ _ _) (by have:=HRB.o.below (Af (aB _ _) (.cells #[.slice Ab s1.length cb] 39));rw[hl4]at this⊢;exact this) HNG2.o);rw[HLEN.o,hsn,hl4]at HAP;clear hst hl4 hsn;go_wp2_with (at_builtin;refine Ar rfl (.tmp 162) (.tmp 164) 83 rfl _ _ (by rfl) (by rfl) HAP.o ?_;rintro v6 w6 ⟨A6,c6,h6,rfl,o6,B6,e6,s6⟩;have HO6:=U o6;have HB6:=U B6;clear o6 B6 s6)
          go_roundw
          case rel => exact⟨k+1,A6,c6,_,by omega,by go_num,rfl,HO6.o,HB.o.trans HB6.o⟩
          case measure => simp[intOf];omega
      ·obtain rfl:k=L.length:=by omega
       have ho:=HOO.o;rw[← HWL.o,aV,HWL.o]at ho;obtain⟨gr,hgr,-⟩:=ho.reads;have j2:=(HBW.o.cell (p:=⟨p,2,none⟩) lp).trans (show w.cell? ⟨p,2,none⟩=some (int i64 (nd:Int))from by
        obtain⟨A0',A1',A2',c0',c1',c2',f0',f1',f2',HC1⟩:=HH.o.cells;have:=HC1.n2;rwa [HND.o]at this)
       have HDC:=U (Kw nd (.slice A L.length c3) Y (gr ++ fo) wr hgr hnd1 hnd3 (by rw[HWL.o,HLN.o];omega) HW4.o);rw[← HXP.o]at HDC;clear hgr ho;go_wp2_with fail
       refine HDC.o.mono ?_;rintro e w6 (⟨D,A6,c6,f6,e6,rfl,r6,g6,b6⟩|⟨e6,rfl,b6⟩)
       ·have R6:=U r6;have G6:=U (show∀a,a∈f6→w.heap.size≤a.block from fun a ha => bL HBW.o.size (g6.from_ a ha));have B6:=U b6;have E6:=U e6;clear r6 b6 e6 g6;go_wp2_with fail
        go_ret2
        exact .inl ⟨D,A6,c6,f6,E6.o,rfl,R6.o,fun a ha => .inr (G6.o a ha),HBW.o.trans (B6.o.mono HBW.o.size)⟩
       ·have B6:=U b6;have E6:=U e6;clear b6 e6;go_wp2_with fail
        go_ret2
        exact .inr ⟨E6.o,rfl,HBW.o.trans (B6.o.mono HBW.o.size)⟩
