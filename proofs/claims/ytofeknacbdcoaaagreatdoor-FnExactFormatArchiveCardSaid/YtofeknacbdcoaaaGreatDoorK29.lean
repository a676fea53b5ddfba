/- Part 29 of the proof. -/
import Derived.Test.YtofeknacbdcoaaaGreatDoorK19
import Derived.Test.YtofeknacbdcoaaaGreatDoorK16
import Derived.Test.YtofeknacbdcoaaaGreatDoorK26
import Derived.Test.YtofeknacbdcoaaaGreatDoorK28
import Derived.Test.YtofeknacbdcoaaaGreatDoorK09
set_option maxHeartbeats 8000000
set_option maxRecDepth 100000
set_option linter.unusedVariables false
set_option linter.unusedSimpArgs false
open Go.Proofs.Tryz
open Go.Value (int)
open Go.IntKind (i64)
namespace Go.Proofs.YtofeknacbdcoaaaGreatDoor
open Go.RowKit Go.Lib Go.Sort
theorem yF{p:Prop}(h:p:=by repeat(with_reducible first|assumption|exact aC _ _|apply Ac|apply Am)):p:=h
theorem yE{p:Prop}(h:p:=by repeat(with_reducible first|exact aC _ _|apply Ac|apply Am)):p:=h
theorem Tn(p fs d v fa)(g row:Nat)(w)(h:AtW w p fs d)(ha:rSl 9 Af w fa v (AU d))(hT:Ck d)(hg:g<d.g.length)(hr:(row:Int)<d.s.rows):
  Calls prog 135 #[.pointer (some (zE p)),v,int i64 (g:Int),int i64 (row:Int)] w (OptS (DF d g row) (fun a => a∈fa) w):=by
 obtain⟨a1,a2⟩:=hT.ok.data;obtain⟨b1,b2⟩:=hT.ok.p;obtain⟨b3,b4⟩:=hT.ok.g;simp only[Bh.sh]at a1 a2 b1 b2 b3 b4;have e5:=hT.dl g hg;have d5:(AU d).length<=1000000:=by have:=FP d;have:=hT.sm;omega
 obtain⟨es,HH,HA,HT⟩:=zH (l13Own_c p fs d v (AU d) fa (g:Int) (row:Int) w h ha d5) h ha hT;have lp:p<w.heap.size:=by obtain⟨A0,A1,A2,c0,c1,c2,f0,f1,f2,HC⟩:=h.cells;exact HC.lt
 obtain⟨X,hX⟩:∃X,DF d g row=X:=zJ;rw[hX];have HX:=zq hX;obtain⟨nd,ck⟩:∃nd:Nat,d.s.data=nd:=⟨d.s.data.toNat,by omega⟩;obtain⟨ns,cm⟩:∃ns:Nat,d.s.p=ns:=⟨d.s.p.toNat,by omega⟩;obtain⟨ng,cl⟩:∃ng:Nat,d.s.g=ng:=⟨d.s.g.toNat,by omega⟩;obtain⟨ak,df,ah⟩:=zI ck cm cl;have a8:1<=nd:=by omega
 have a9:nd<=3:=by omega
 have ed:ns<=2:=by omega
 have fp:ng<=4:=by omega
 have fn:1<=ng:=by omega
 have bu:=zq (show(AD d g).length =nd+ns by omega);obtain⟨Av,cv,rfl,-⟩:=rSl.head ha;obtain⟨A0,A1,A2,c0,c1,c2,f0,f1,f2,HC⟩:=h.cells;have n0:=HC.n0;have n2:=HC.n2;have n3:=HC.n3;rw[cl]at n0;rw[ck]at n2;rw[cm]at n3;have fw:=zq HC.s;clear h ha hT hX ck cm cl a1 a2 b1 b2 b3 b4 e5 HC;go_enter func135,ntmps135
 go_wp2_with fail
 refine es.o.M ?_;rintro e w1 (⟨D,A3,c3,f3,l,rfl,ef,d8,y⟩|⟨l,rfl,y⟩)
 ·have HO:∃m,ER d.s.g (AU d) (g:Int) (row:Int)=some m/\m.data=D:=by
   cases ho:ER d.s.g (AU d) (g:Int) (row:Int)with
   |none => rw[ho]at l;cases l
   |some m => rw[ho]at l;exact⟨m,rfl,by simpa using l⟩
  obtain⟨m,ho,ea⟩:=HO;have e1:X=some D:=by rw[<-HX.o,Jm ho,ea]
  obtain⟨HE,R3,L3,B1⟩:=zH e1 ef d8 y;clear l ho ea e1 ef d8 y;go_wp2
  go_ret2
  exact .inl ⟨D,A3,c3,f3,HE.o,rfl,R3.o,L3.o,B1.o⟩
 ·have ho:ER d.s.g (AU d) (g:Int) (row:Int)=none:=by
   cases ho:ER d.s.g (AU d) (g:Int) (row:Int)with
   |none => rfl
   |some m => rw[ho]at l;cases l
  have HO:=zq ho;have B1:=zq y;have bo:=HT.o.row hg hr;have ac:=zq (l7Dead_c p fs d g w1 (HH.o.B y) hg (fun dr hd => by have:=bo.1 dr hd;omega) (by rw[bu.o];omega));have m0:=(y.cell (p:=⟨p,0,none⟩) lp).T n0;have m2:=(y.cell (p:=⟨p,2,none⟩) lp).T n2;have m3:=(y.cell (p:=⟨p,3,none⟩) lp).T n3;have aq:p<w1.heap.size:=aH lp y.size;have ay:=zq (show w1.rangeAt p 0 d.s from by
   obtain⟨cu,bq,cw,dn,dp,dt,du,dv,dx,ae⟩:=(HH.o.B y).cells;exact ae.s)
  have af:=zq (L9 d.s.sh (.slice Av (AU d).length cv) (AU d) fa (g:Int) w1 (rSl.B Af.L Af.X HA.o y) d5);unfold shV at af;rw[show d.s.sh.g=d.s.g from rfl,show d.s.sh.c=d.s.c from rfl,show d.s.sh.data=d.s.data from rfl,show d.s.sh.p=d.s.p from rfl,show d.s.sh.rows=d.s.rows from rfl,show d.s.sh.cap=d.s.cap from rfl,show d.s.sh.b=d.s.b from rfl,show d.s.sh.q=d.s.q from rfl,show d.s.sh.t=d.s.t from rfl]at af;clear l ho y bo n0 n2 n3;cases hd:LM d g with
  |true =>
   have e1:X=none:=by rw[<-HX.o];exact HT.o.dead hg hr hd HO.o
   have HE:=zq e1;rw[hd]at ac;clear hd e1;go_wp2_with (go_at_call 184;refine ac.o.M ?_;rintro e w' ⟨rfl,rfl⟩)
   go_ret2
   exact .inr ⟨HE.o,rfl,B1.o⟩
  |false =>
   rw[hd]at ac;obtain⟨M,hM⟩:∃M,CA d.s.g (AU d) (g:Int)=M:=zJ;rw[hM]at af;have HM:=zq hM;clear hd hM;have av:=zq (fun(W:World) (hW:Below w w W) => Ty p fs d g row nd W (HH.o.B hW) hg (HT.o.row hg hr).1 ak.o a8 a9 (by rw[bu.o];omega) (HT.o.blocks4 hg hr));by_cases q1:g<ng
   ·have cp:(g:Int)<(ng:Int):=by omega
    have e1:X=DE nd (BK d g row):=by rw[<-HX.o,G3 HO.o (by rw[ah.o];exact cp),ak.o];rfl
    rw[<-e1]at av;clear e1;go_wp2_with (first
     |(go_at_call 184;refine ac.o.M ?_;rintro e w' ⟨rfl,rfl⟩)
     |(refine aE rfl 38 (.tmp 35) rfl p 0 rfl _ _ ay.o underlying38 rfl zY ?_)
     |(go_at_call 185;refine af.o.M ?_;rintro e w2 ⟨A5,c5,f5,rfl,r5,l5,b5⟩;have B5:=zq (B1.o.T (b5.M B1.o.size));have k0:=(b5.cell (p:=⟨p,0,none⟩) aq).T m0;have bj:=aH aq b5.size;have bv:=zq (av.o w2 B5.o);clear r5 l5 b5))
    refine bv.o.M ?_;rintro e w6 (⟨D,A6,c6,f6,e6,rfl,r6,g6,b6⟩|⟨e6,rfl,b6⟩)
    ·obtain⟨R6,G6,B6,E6⟩:=zH r6 (show∀a,a∈f6->w.heap.size<=a.block from fun a ha => aZ B5.o.size (g6.from_ a ha)) b6 e6;clear r6 b6 e6 g6;go_wp2
     go_ret2
     exact .inl ⟨D,A6,c6,f6,E6.o,rfl,R6.o,fun a ha => .inr (G6.o a ha),B5.o.T (B6.o.M B5.o.size)⟩
    ·have B6:=zq b6;have E6:=zq e6;clear b6 e6;go_wp2
     go_ret2
     exact .inr ⟨E6.o,rfl,B5.o.T (B6.o.M B5.o.size)⟩
   ·have cp:¬(g:Int)<(ng:Int):=by omega
    have bd:X=DE nd (C4 d M g row):=by rw[<-HX.o,Ig HO.o (by rw[ah.o];exact cp),ak.o,HM.o];rfl
    by_cases q2:M.length=0
    ·have ca:M= []:=bN q2;have e1:X=DE nd (BK d g row):=by rw[bd,ca];unfold C4 BK;rw[Uh]
     rw[<-e1]at av;have ee:(M.length:Int)=0:=by omega
     rw[ca]at af;simp only[List.length_nil]at af;clear e1 bd ca q2 ee;go_wp2_with (first
      |(go_at_call 184;refine ac.o.M ?_;rintro e w' ⟨rfl,rfl⟩)
      |(refine aE rfl 38 (.tmp 35) rfl p 0 rfl _ _ ay.o underlying38 rfl zY ?_)
      |(go_at_call 185;refine af.o.M ?_;rintro e w2 ⟨A5,c5,f5,rfl,r5,l5,b5⟩;have B5:=zq (B1.o.T (b5.M B1.o.size));have k0:=(b5.cell (p:=⟨p,0,none⟩) aq).T m0;have bj:=aH aq b5.size;have bv:=zq (av.o w2 B5.o);clear r5 l5 b5))
     refine bv.o.M ?_;rintro e w6 (⟨D,A6,c6,f6,e6,rfl,r6,g6,b6⟩|⟨e6,rfl,b6⟩)
     ·obtain⟨R6,G6,B6,E6⟩:=zH r6 (show∀a,a∈f6->w.heap.size<=a.block from fun a ha => aZ B5.o.size (g6.from_ a ha)) b6 e6;clear r6 b6 e6 g6;go_wp2
      go_ret2
      exact .inl ⟨D,A6,c6,f6,E6.o,rfl,R6.o,fun a ha => .inr (G6.o a ha),B5.o.T (B6.o.M B5.o.size)⟩
     ·have B6:=zq b6;have E6:=zq e6;clear b6 e6;go_wp2
      go_ret2
      exact .inr ⟨E6.o,rfl,B5.o.T (B6.o.M B5.o.size)⟩
    ·have ee:((M.length:Int) == 0)=false:=by rw[beq_eq_false_iff_ne];omega
     have gh:¬(M.length:Int)=0:=by omega
     have dj:=zq bd;have fv:=zq q2;clear bd q2;go_wp2_with (first
      |(go_at_call 184;refine ac.o.M ?_;rintro e w' ⟨rfl,rfl⟩)
      |(refine aE rfl 38 (.tmp 35) rfl p 0 rfl _ _ ay.o underlying38 rfl zY ?_)
      |(go_at_call 185;refine af.o.M ?_;rintro e w2 ⟨A5,c5,f5,rfl,r5,l5,b5⟩;have R5:=zq r5;have B5:=zq (B1.o.T (b5.M B1.o.size));have k0:=(b5.cell (p:=⟨p,0,none⟩) aq).T m0;have bj:=aH aq b5.size;clear r5 l5 b5))
     obtain⟨a0,dn,b0,o0,bq,dp,dv,HG⟩:=HH.o.grp hg;obtain⟨db,aa,di⟩:=zI HG (show Kg d g row M from by rw[<-HM.o];exact HT.o.par hg (by rw[ah.o];omega) hr) (show Dz (C4 d M g row) 4 from by rw[<-HM.o];exact HT.o.will4 hg (by rw[ah.o];omega) hr);obtain⟨L,hL⟩:∃L,AD d g=L:=zJ;have dc:=zq hL;have cc:C4 d M g row=GB (Cr d g) row M L:=by unfold C4;rw[hL]
     have bi:=CG (Cr d g) row M L;rw[<-cc]at bi;obtain⟨Y,hY⟩:∃Y,C4 d M g row=Y:=zJ;have d3:Y=GB (Cr d g) row M L:=by rw[<-hY];exact cc
     rw[hY]at dj di bi;obtain⟨eu,bc,dd⟩:=zI d3 bi (show L.length=nd+ns by rw[<-hL];exact bu.o);have gb:L.length<=5:=by rw[dd.o];omega
     have gd:(g:Int)<(d.g.length:Int):=by omega
     have n9:=(B5.o.cell (p:=⟨p,9,none⟩) lp).T HG.n9;have pl:=HG.pl;have l0:=aH HG.l0 B5.o.size;have x0:=(B5.o.cell (p:=⟨b0,o0,none⟩) HG.l0).T HG.k0;rw[hL]at x0;have s5:=B5.o.size;have HE:=zq (Ak.emptyL (w:=w2));have da:=zq (Ac (aC w2 w2) (.cells #[] 61));clear HG hL cc hY d3 bi af ac av;go_loopw [14,13,15,16,17,18,19] (fun i o _ _ _ _ _ wr =>∃(k:Nat) (A:Option Addr) (c3:Nat) (fo:List Addr),k<=L.length/\i=k/\o= .slice A k c3/\Hid (Ak 1 61 (Ai 1 Al) wr w2 o (Y.take k) fo)/\Hid (Below w2 w2 wr)) (fun i _ _ _ _ _ _ _ => L.length - (intOf i).toNat)
     ·exact⟨0,_,0,[],by omega,rfl,rfl,HE.o,da.o⟩
     ·obtain⟨k,A,c3,fo,hk,rfl,rfl,bx,HB⟩:=hrel;clear HE da;have cy:=zq HB.o.size;have sB:=HB.o.size;have j9:=(HB.o.cell (p:=⟨p,9,none⟩) bj).T n9;have j0:=(HB.o.cell (p:=⟨b0,o0,none⟩) l0).T x0;have gl:p<wr.heap.size:=aH bj sB;have gk:b0<wr.heap.size:=aH l0 sB;have ab:=zq (B5.o.T (HB.o.M s5));by_cases cg:k<L.length
      ·have fc:k<Y.length:=by rw[bc.o];exact cg
       have a7:k<(AD d g).length:=by rw[dc.o];exact cg
       have d0:(AD d g)[k] =L[k]:=by simp only[dc.o]
       have bf:=db.o.B ab.o;obtain⟨a1,b1,o1,a2,c2,b2,o2,A3,c4,f3,e1,bt⟩:=LR (row:=row) db.o.rd a7 (aa.o.hr _ (aT a7));have HD:=bt.B ab.o;have er:=zq (show∀a,a∈f3->a.block<w2.heap.size∨wr.heap.size<=a.block from fun a ha => .inl (aH (rSl.there Al.X bt.rd a ha) s5));subst e1;have eg:=aa.o.hr _ (aT a7);have h4:=aa.o.h4 _ (aT a7);rw[d0]at HD eg h4;have p1:=HD.p1;have l1:=HD.l1;have y0:=HD.y0;have y1:=HD.y1;have p2:=HD.p2;have l2:=HD.l2;have z0:=HD.z0;have z1:=HD.z1;have d4:Y[k] =He (Cr d g) row M k L[k]:=by
        have:=GJ (Cr d g) row M L cg;simp only[<-eu.o]at this;exact this
       have n:He (Cr d g) row M k L[k] =if L[k].wiped =true then []else(Er (Cr d g) row k (Cu L[k] row).bytes (Cu L[k] row).stamp M).1:=rfl
       have z:Y.take k ++ [Y[k]] =Y.take (k+1):=(aK fc).symm;have bm:(Y.take k).length =k:=by rw[aX];omega
       have am:=zq bm;have au:=zq (aa.o.enc a7);obtain⟨wp,ei⟩:∃wp,L[k].wiped =wp:=zJ;obtain⟨B,hB⟩:∃B,(Cu L[k] row).bytes =B:=zJ;obtain⟨sp,eh⟩:∃sp,(Cu L[k] row).stamp =sp:=zJ;obtain⟨mb,d9⟩:∃mb,L[k].blocks.length =mb:=zJ;rw[ei]at y0 n;rw[d9]at y1 eg;rw[eh]at z0 n;have an:=HD.rd;rw[hB]at z1 n h4 an;rw[h4]at z1 an;rw[d4,n]at z;have et:=zq an;have H4:=zq h4;have fq:(row:Int)<(mb:Int):=by omega
       have ge:(k:Int)<(L.length:Int):=by omega
       clear bf HD bt d0 d4 n bm ei hB eh d9 h4 an;cases wp with
       |true =>
        rw[aM rfl]at z;have bz:=zq z;clear z;have ar:=zq (Tryz.addAny (wr:=wr) (W:=(wr.alloc (.cells #[.bool true,.slice (some a2) mb c2] 110)).alloc (.cells #[zQ] 61)) (b:=wr.heap.size+1) (ve:=.slice none 0 0) (f:=[]) (L:=[]) bx.o cy.o (by rw[am.o];omega) (Ac (Ac (aC _ _) _) _) (Blk.new1 _ _ _ _) (Ah.empty zZ) (fun a ha => by cases ha));rw[am.o,bz.o]at ar;go_wp2_with (at_builtin;refine An rfl (.tmp 83) (.tmp 84) 156 rfl _ _ zT zT ar.o ?_;rintro v6 w6 ⟨A6,c6,h6,rfl,o6,B6,e6,s6⟩;have bw:=zq o6;have bs:=zq B6;clear o6 B6 s6)
        go_roundw
        ·exact⟨k+1,A6,c6,_,by omega,by go_num,rfl,bw.o,HB.o.T bs.o⟩
        ·simp[intOf];omega
       |false =>
        rw[aJ zX]at z;have bz:=zq z;clear z;have eq:=zq (show∀a,a∈f3->a.block<w2.heap.size∨wr.heap.size<=a.block from er.o);go_wp2_with fail
        obtain⟨u,hu⟩:∃u,u=wr:=zJ;subst hu;have bl:Below u u (u.alloc (.cells #[.bool false,.slice (some a2) mb c2] 110)):=Ac (aC _ _) _;have bk:=zq bl;clear bl;go_loopw [18,16,17,19] (fun i b s _ wr =>∃(j:Nat) (A:Option Addr) (c:Nat) (f:List Addr) (st:List UInt8 × Int),j<=M.length/\i=j/\b= .slice A 4 c/\s= int i64 st.2/\Hid (st=Er (Cr d g) row k B sp (M.take j))/\Hid (Ah wr f (.slice A 4 c) st.1)/\Hid (∀a,a∈f->a.block<w2.heap.size∨u.heap.size<=a.block)/\Hid (Below u u wr)) (fun i _ _ _ _ => M.length - (intOf i).toNat)
        ·exact⟨0,A3,c4,f3,(B,sp),by omega,rfl,rfl,rfl,rfl,et.o.B bk.o,eq.o,bk.o⟩
        ·obtain⟨j,Ab,cb,fb,⟨s1,s2⟩,hj,rfl,rfl,rfl,a3,bb,aw,aj⟩:=hrel;dsimp only at *;have sU:=aj.o.size;have cz:=zq (ab.o.T (aj.o.M ab.o.size));by_cases bg:j<M.length
         ·obtain⟨fu,f7,e,fl,fm,hx⟩:=rSl.at_ Af.X zW R5.o;injection e with e1 _ e3
          subst e1 e3;obtain⟨ad,b,o,cs,fk,rfl,ce⟩:=hx j bg;have a5:=HB.o.T (aj.o.M sB);have r:=ce.B Af.L a5;have gg:=ce.place;have cf:=r.lt;obtain⟨v0,v1,v2,g0,g1,g2,a4,-,-,-,-,-,-,-,-,-,bh⟩:=r.reads;obtain⟨Ad,cd,e7,-⟩:=rSl.head bh;subst e7;have ai:=r.len;have ct:wr.cell? ⟨b,o+1,none⟩=some (int i64 M[j].seq):=by
           have:=r.cell 1 (by rw[ai];omega);simpa [a4]using this
          have y4:wr.cell? ⟨b,o+4,none⟩=some (int i64 M[j].group):=by
           have:=r.cell 4 (by rw[ai];omega);simpa [a4]using this
          have y5:wr.cell? ⟨b,o+5,none⟩=some (int i64 M[j].row):=by
           have:=r.cell 5 (by rw[ai];omega);simpa [a4]using this
          have y8:wr.cell? ⟨b,o+8,none⟩=some (.slice Ad M[j].delta.length cd):=by
           have:=r.cell 8 (by rw[ai];omega);simpa [a4]using this
          have cj:=aa.o.hm _ (aT bg);have be:=au.o _ (aT bg);have x:=Mu (Cr d g) row k B sp bg;rw[<-a3.o]at x;unfold Hc at x;have bp:s1.length=4:=by
           have:=DS (b:=B) (stamp:=sp) (row:=(row:Int)) (fun m hm =>(au.o m (List.mem_of_mem_take hm)).1) H4.o (M:=M.take j);rw[<-a3.o]at this;exact this
          have ax:=zq bp;have fe:=zq a5;obtain⟨mg,ci⟩:∃mg:Nat,M[j].group =mg:=⟨M[j].group.toNat,by omega⟩;obtain⟨cu,bq,cw,ff,fg,dt,du,fi,dx,ae⟩:=(HH.o.B cz.o).cells;have q0:=ae.n0;have q2:=ae.n2;have q3:=ae.n3;rw[ah.o]at q0;rw[ak.o]at q2;rw[df.o]at q3;have co:=ae.lt;have gc:g - ng<=90:=by
           have:=aa.o.g2;have h9:=aa.o.ok.c;simp only[Bh.sh]at h9;rw[ah.o]at this;omega
          have a6:M[j].delta.length =4 * nd:=by have:=cj.2.2;rw[ak.o]at this;omega
          have al:Cr d g M[j] =MC nd ns (BH M[j].delta (cau (8+(g - ng)) mg)):=by
           unfold Cr Mw;rw[ak.o,df.o,ah.o,ci];rfl
          obtain⟨DL,b7⟩:∃DL,M[j].delta =DL:=zJ;obtain⟨C,hC⟩:∃C,cau (8+(g - ng)) mg=C:=zJ;rw[b7,hC]at al;rw[b7]at y8 bh a6;rw[ci]at y4;have c7:=zq (fun(W:World) => L7 (8+(g - ng)) mg zZ (by have:=cj.2.1;have:=ah.o;omega) W);rw[hC]at c7;have dg:=zq (fun(W:World) (hW:Below wr wr W) => Im (.slice Ad DL.length cd) DL C g2 W (Ah.B bh hW) zZ);have ao:=CK DL C;have ba:=zq (fun(W w3:World) (A9:Option Addr) (c9:Nat) (f9:List Addr) (h9:Ah w3 f9 (.slice A9 DL.length c9) (BH DL C)) (hW:Below w3 w3 W) => RK nd ns (.slice A9 DL.length c9) (BH DL C) f9 W (h9.B hW) a8 a9 ed (by rw[ao];exact a6));rw[<-al]at ba;obtain⟨D0,dy⟩:∃D0,BH DL C=D0:=zJ;rw[dy]at dg ba ao;obtain⟨E,hE⟩:∃E,Cr d g M[j] =E:=zJ;rw[hE]at ba be x;have ap:=zq be.1;have d7:=be.2;have gf:(k:Int)<(E.length:Int):=by omega
          have b8:E.getD k [] =E[k]:=by simp[aP,d7]
          obtain⟨D,dz⟩:∃D,E.getD k [] =D:=zJ;rw[dz]at ap x b8;obtain⟨c8,eo,ep,dh⟩:=zH b8 (fun(W w4:World) (A9:Option Addr) (c9:Nat) (f9:List Addr) (h9:Ah w4 f9 (.slice A9 4 c9) D) (e0:Below w4 w4 W) (hW:Below wr wr W) => MJ (.slice Ab 4 cb) (.slice A9 4 c9) s1 D fb f9 W (Ah.B bb.o hW) (h9.B e0) (by rw[ax.o,ap.o]) (by rw[ap.o];omega)) (show(EC s1 D).length =4 by rw[Gu _ _ (by rw[ax.o,ap.o]),ax.o]) ao;obtain⟨mq,eb⟩:∃mq,M[j].seq =mq:=zJ;obtain⟨mr,ec⟩:∃mr,M[j].row =mr:=zJ;rw[eb]at ct x;rw[ec]at y5 x;have az:=zq x;clear ce r hx a5 bh a4 ai cj be x bp ci ae a6 al b7 hC ao dy hE b8 dz eb ec;by_cases qr:mr=(row:Int)
          ·have d6:(mr ==(row:Int))=true:=by simpa using qr
           by_cases qs:s2<mq
           ·have e4:decide (s2<mq)=true:=aN qs;have ag:=zq (show Er (Cr d g) row k B sp (M.take (j+1))=(EC s1 D,mq) by rw[az.o,aM ⟨qr,qs⟩]);clear qr qs;have e1:IntKind.i64.wrap (8+(g:Int))=8+(g:Int):=IntWalk.i64_in _ zZ;have e2:IntKind.i64.wrap (8+(g:Int) - (ng:Int))=((8+(g - ng):Nat):Int):=by rw[IntWalk.i64_in _ zZ];omega
            go_wp2_with fail
            go_region_law (first
             |(go_simp;go_at_call 188;refine(c7.o _).M ?_;rintro e w' ⟨rfl,rfl⟩;dsimp only)
             |(go_simp;go_at_call 187;refine(dg.o _ yF).M ?_;rintro e w3 ⟨A9,c9,f9,rfl,r9,m9,b9⟩;rw[dh.o]at r9⊢;have B9:=Below.via (a:=wr) yF b9;have R9:=zq r9;have gi:=(B9.cell (p:=⟨p,2,none⟩) co).T q2;have gj:=(B9.cell (p:=⟨p,3,none⟩) co).T q3;have gm:=aH co B9.size;have gn:=(B9.cell (p:=⟨b,o+1,none⟩) cf).T ct;clear r9 m9 b9;dsimp only))
            all_goals
             go_wp2_with fail
             go_region_law (first
              |(go_simp;go_at_call 190;refine(ba.o _ w3 _ _ _ R9.o yE).M ?_;rintro e w4 ⟨fr,fz,f8,rfl,el,dk⟩;obtain⟨fd,fh,e8,-,-,ej⟩:=Az.open_ el;injection e8 with ey _ ez;subst ey ez;obtain⟨fx,ft,f4,ga,e9,fy,p9,cq,-⟩:=ej k d7;subst e9;rw[<-c8.o,ap.o]at p9;rw[<-c8.o,ap.o]at cq;have en:=Below.via (a:=wr) yF dk;have ev:=zq cq;clear ej el cq dk;dsimp only)
              |(go_simp;go_at_call 189;refine(eo.o _ w4 _ _ _ ev.o yE yF).M ?_;rintro e w5 ⟨em,ex,dw,rfl,cr,ek,dm⟩;rw[ep.o]at cr⊢;have br:=Below.via (a:=wr) yF dm;have go:=(br.cell (p:=⟨b,o+1,none⟩) cf).T ct;have fj:=aH cf br.size;dsimp only))
             all_goals
              have bn:∀a,a∈dw->a.block<w2.heap.size∨u.heap.size<=a.block:=fun a ha => by
               have h1:=ek.from_ a ha;have h2:=en.size;have h3:w4.heap.size<=a.block:=h1;exact .inr zZ
              obtain⟨de,ew,cx⟩:=zI bn cr (show Below wr wr w5 from br);clear bn ek cr dm;go_wp2
              go_roundw
              ·exact⟨j+1,em,ex,dw,(EC s1 D,mq),by omega,by go_num,rfl,rfl,ag.o.symm,ew.o,de.o,aj.o.T (cx.o.M sU)⟩
              ·simp[intOf];omega
           ·have e4:decide (s2<mq)=false:=aG qs;have ag:=zq (show Er (Cr d g) row k B sp (M.take (j+1))=(s1,s2) by rw[az.o,aJ (fun h => qs h.2)]);clear qr qs;go_wp2
            go_roundw
            ·exact⟨j+1,Ab,cb,fb,(s1,s2),by omega,by go_num,rfl,rfl,ag.o.symm,bb.o,aw.o,aj.o⟩
            ·simp[intOf];omega
          ·have d6:(mr ==(row:Int))=false:=by simpa using qr
           have ag:=zq (show Er (Cr d g) row k B sp (M.take (j+1))=(s1,s2) by rw[az.o,aJ (fun h => qr h.1)]);clear qr;go_wp2
           go_roundw
           ·exact⟨j+1,Ab,cb,fb,(s1,s2),by omega,by go_num,rfl,rfl,ag.o.symm,bb.o,aw.o,aj.o⟩
           ·simp[intOf];omega
         ·obtain rfl:j=M.length:=by omega
          have z:=a3.o;rw[bA]at z;have ch:s1.length=4:=by
           have:=DS (b:=B) (stamp:=sp) (row:=(row:Int)) (fun m hm =>(au.o m hm).1) H4.o;rw[<-z]at this;exact this
          have cn:=bz.o;rw[<-z]at cn;have ar:=zq (Tryz.addAny (wr:=u) (W:=wr.alloc (.cells #[.slice Ab s1.length cb] 61)) (b:=wr.heap.size) (ve:=.slice Ab s1.length cb) (f:=fb) (L:=s1) bx.o cy.o (by rw[am.o];omega) (Ac aj.o _) (Blk.new _ _ _) (by have:=bb.o.B (Ac (aC _ _) (.cells #[.slice Ab s1.length cb] 61));rw[ch]at this⊢;exact this) aw.o);rw[am.o,cn,ch]at ar;clear z ch cn;go_wp2_with (at_builtin;refine An rfl (.tmp 162) (.tmp 164) 156 rfl _ _ zT zT ar.o ?_;rintro v6 w6 ⟨A6,c6,h6,rfl,o6,B6,e6,s6⟩;have bw:=zq o6;have bs:=zq B6;clear o6 B6 s6)
          go_roundw
          ·exact⟨k+1,A6,c6,_,by omega,by go_num,rfl,bw.o,HB.o.T bs.o⟩
          ·simp[intOf];omega
      ·obtain rfl:k=L.length:=by omega
       have ho:=bx.o;rw[<-bc.o,bA,bc.o]at ho;obtain⟨gr,bf,-⟩:=ho.reads;have j2:=(ab.o.cell (p:=⟨p,2,none⟩) lp).T (show w.cell? ⟨p,2,none⟩=some (int i64 (nd:Int))from by
        obtain⟨cu,bq,cw,dn,dp,dt,du,dv,dx,ae⟩:=HH.o.cells;have:=ae.n2;rwa [ak.o]at this)
       have ac:=zq (L8 nd (.slice A L.length c3) Y (gr ++ fo) wr bf a8 a9 (by rw[bc.o,dd.o];omega) di.o);rw[<-dj.o]at ac;clear bf ho;go_wp2_with fail
       refine ac.o.M ?_;rintro e w6 (⟨D,A6,c6,f6,e6,rfl,r6,g6,b6⟩|⟨e6,rfl,b6⟩)
       ·obtain⟨R6,G6,B6,E6⟩:=zH r6 (show∀a,a∈f6->w.heap.size<=a.block from fun a ha => aZ ab.o.size (g6.from_ a ha)) b6 e6;clear r6 b6 e6 g6;go_wp2
        go_ret2
        exact .inl ⟨D,A6,c6,f6,E6.o,rfl,R6.o,fun a ha => .inr (G6.o a ha),ab.o.T (B6.o.M ab.o.size)⟩
       ·have B6:=zq b6;have E6:=zq e6;clear b6 e6;go_wp2
        go_ret2
        exact .inr ⟨E6.o,rfl,ab.o.T (B6.o.M ab.o.size)⟩
structure FX (lo:Nat) (w0:World) (b:Nat) (qk:Int) (A:Option Addr) (n c:Nat) (Y:Option (List (List UInt8))) (W:World):Prop where
 k0:W.cell? ⟨b,0,none⟩=some (int i64 qk)
 k1:W.cell? ⟨b,1,none⟩=some (.slice A n c)
 lt:b<W.heap.size
 bel:Below lo w0 W
 q:(∃L fs,Y=some L/\qk=0/\n=L.length/\Az W fs (.slice A n c) L/\AL lo W fs)∨(Y=none/\qk=10)
theorem FX.early {lo:Nat}{r i b t}{z u1:Value}{f:Int}{A}{n c:Nat}{Y:Option (List (List UInt8))}(K:Blk i b t #[z,u1])(hb:lo<=b)(y:Below lo r i)(hq:(∃L fs,Y=some L/\f=0/\n=L.length/\Az i fs (.slice A n c) L/\AL lo i fs/\∀a,a∈fs->a.block≠b)∨(Y=none/\f=10)):
  FX lo r b f A n c Y ((i.setCell (zE b) (int i64 f)).setCell (zO b 1) (.slice A n c)):=by
 have l:=(K.set_ 0 (int i64 f)).set_ 1 (.slice A n c);refine⟨(l.cell 0).T rfl,(l.cell 1).T rfl,l.lt,?_,?_⟩
 ·have o:=AS (b:=b) y [int i64 f,.slice A n c] 0 hb;simpa [World.setCells]using o
 ·rcases hq with⟨L,fs,o,s,u,h4,x,p⟩|h
  ·refine .inl ⟨L,fs,o,s,u,rSl.keep Az.loc h4 (fun a q => ?_),(x.set_ _ _).set_ _ _⟩;rw[World.cell?_setCell_other _ _ _ _ (fun e => p a q (by rw[<-e])),World.cell?_setCell_other _ _ _ _ (fun e => p a q (by rw[<-e]))]
  ·exact .inr h
theorem FX.late {lo l e}{t:TypeId}{f:Int}{A}{n c:Nat}{Y:Option (List (List UInt8))}(s:Below lo l e)(u:lo<=e.heap.size)(hq:(∃L fs,Y=some L/\f=0/\n=L.length/\Az e fs (.slice A n c) L/\AL lo e fs)∨(Y=none/\f=10)):
  FX lo l e f A n c Y (e.alloc (.cells #[int i64 f,.slice A n c] t)):=by
 have i:=Blk.new e t #[int i64 f,.slice A n c];refine⟨(i.cell 0).T rfl,(i.cell 1).T rfl,i.lt,s.alloc u _,?_⟩;rcases hq with⟨L,fs,o,p,q,h4,r⟩|h
 ·exact .inl ⟨L,fs,o,p,q,rSl.B Az.loc Az.fix h4 (Ac (aC _ _) _),r.B (Ac (aC _ _) _) (rSl.there Az.fix h4)⟩
 ·exact .inr h
theorem Ou {P F:World->Prop}{c}(h4:F c)(h:∀W,F W->P W):P c:=h c h4
theorem Tq(p fs d v fa)(g row:Nat)(w)(h:AtW w p fs d)(ha:rSl 9 Af w fa v (AU d))(hT:Ck d)(hg:g<d.g.length)(hr:(row:Int)<d.s.rows):
  Calls prog 84 #[.pointer (some (zE p)),v,int i64 (g:Int),int i64 (row:Int)] w (OptS (Fc d g row) (fun a => a∈fa) w):=by
 obtain⟨a1,a2⟩:=hT.ok.data;obtain⟨b1,b2⟩:=hT.ok.g;obtain⟨b3,b4⟩:=hT.ok.c;simp only[Bh.sh]at a1 a2 b1 b2 b3 b4;have b0:=hT.gl;have HH:=zq h;have HT:=zq hT;have lp:p<w.heap.size:=by obtain⟨A0,A1,A2,c0,c1,c2,f0,f1,f2,HC⟩:=h.cells;exact HC.lt
 obtain⟨Av,cv,rfl,-⟩:=rSl.head ha;have bp:=zq (show∀a,a∈fa->a.block<w.heap.size from fun a bx => rSl.there Af.X ha a bx);have ap:=zq (fun(W:World) (hW:Below w w W) (k:Nat) (hk:k<d.g.length) => Tn p fs d (.slice Av (AU d).length cv) fa k row W (h.B hW) (rSl.B Af.L Af.X ha hW) hT hk hr);obtain⟨nd,bg⟩:∃nd:Nat,d.s.data=nd:=⟨d.s.data.toNat,by omega⟩;obtain⟨l,bh⟩:∃l:Nat,d.s.g=l:=⟨d.s.g.toNat,by omega⟩;obtain⟨r,be⟩:∃r:Nat,d.s.c=r:=⟨d.s.c.toNat,by omega⟩;obtain⟨a4,ar,aq⟩:=zI bg bh be;have cb:nd<=3:=by omega
 have bi:1<=l:=by omega
 have bj:l<=4:=by omega
 have bf:r<=2:=by omega
 have ag:=zq (show d.g.length=l+r by omega);have bz:g<l+r:=by omega
 obtain⟨n,hn⟩:∃n,(AU d).length =n:=zJ;rw[hn]at ap⊢;clear h ha hT bg bh be a1 a2 b1 b2 b3 b4 b0 hn;go_enter func84,ntmps84
 go_wp2_with fail
 refine(ap.o w (aC _ _) g hg).M ?_;rintro e w1 (⟨D,A6,c6,f6,e6,rfl,r6,l6,b6⟩|⟨e6,rfl,b6⟩)
 ·obtain⟨R6,B6,E6,L6⟩:=zH r6 b6 (Kb e6) l6;clear r6 l6 b6 e6;go_wp2
  go_ret2
  exact .inl ⟨D,A6,c6,f6,E6.o,rfl,R6.o,L6.o,B6.o⟩
 ·have B1:=zq b6;have ay:=Lw e6;have au:=zq e6;rw[a4.o,ar.o,aq.o,Int.toNat_natCast,Int.toNat_natCast,Int.toNat_natCast]at ay;have ax:=zq ay;have s1:=b6.size;have b7:p<w1.heap.size:=aH lp s1;have ai:=zq (show∀W,Below w w W->W.rangeAt p 0 [int i64 (l:Int),int i64 (r:Int),d.s.data,d.s.p,d.s.rows,d.s.cap,d.s.b,d.s.q,d.s.t]/\W.cell? ⟨p,0,none⟩=some (int i64 (l:Int))/\W.cell? ⟨p,1,none⟩=some (int i64 (r:Int))from fun W hW => by
   obtain⟨cc,cd,ce,ch,ci,cj,cl,cm,cn,an⟩:=(HH.o.B hW).cells;have x:=an.s;have h2:=an.n0;have h3:=an.n1;rw[ar.o]at x h2;rw[aq.o]at x h3;exact⟨x,h2,h3⟩)
  have HE:=zq (Ak.emptyL (w:=w1));have a8:Below w1 w1 (w1.alloc (.cells #[] 61)):=Ac (aC _ _) _;have az:=zq a8;have ab:=zq (fun(W:World) => show Calls prog 15 #[.agg #[int i64 (l:Int),int i64 (r:Int),d.s.data,d.s.p,d.s.rows,d.s.cap,d.s.b,d.s.q,d.s.t]] W fun e w' => e= .returned (int i64 ((l:Int)+(r:Int)))/\Below W W w' from by
   have ad:=EN d.s.sh HT.o.ok W;unfold shV at ad;rw[show d.s.sh.g=(l:Int)from ar.o,show d.s.sh.c=(r:Int)from aq.o]at ad;exact ad)
  clear e6 b6 ay a8;go_wp2
  go_loopw [13,12,14,15] (fun i o _ _ wr =>∃(k:Nat) (A:Option Addr) (c3:Nat) (fo:List Addr),k<=l+r/\i=k/\o= .slice A k c3/\Hid (Ak 1 61 (Ai 1 Al) wr w1 o ((BP d row).take k) fo)/\Hid (Below w1 w1 wr)) (fun i _ _ _ _ => l+r - (intOf i).toNat)
  ·exact⟨0,_,0,[],by omega,rfl,rfl,HE.o,az.o⟩
  ·obtain⟨k,A,c3,fo,hk,rfl,rfl,HO,HB⟩:=hrel;clear HE az;have sB:=HB.o.size;have a3:=zq sB;have u:=zq (B1.o.T (HB.o.M s1));have a5:=zq (ai.o wr u.o).1;have b8:p<wr.heap.size:=aH b7 sB;by_cases bc:k<l+r
   ·have cq:(k:Int)<((l:Int)+(r:Int)):=by omega
    have bk:=KJ d row (show k<d.g.length by rw[ag.o];exact bc);have ak:((BP d row).take k).length =k:=by rw[aX,Ea,ag.o];omega
    have a6:=zq bk.symm;have aa:=zq ak;clear bk ak;go_wp2_with (first
     |(refine aE rfl 38 _ rfl p 0 rfl _ _ a5.o underlying38 rfl zY ?_)
     |(go_at_call 15;refine(ab.o _).M ?_;rintro e w2 ⟨rfl,b2⟩;have B2:=zq b2;have HC:=zq (ap.o w2 (u.o.T (b2.M u.o.size)) k (by rw[ag.o];exact bc));clear b2))
    refine HC.o.M ?_;rintro e w3 (⟨D,A6,c6,f6,e6,rfl,r6,l6,b6⟩|⟨e6,rfl,b6⟩)
    ·have z:=a6.o;rw[e6,Option.getD_some]at z;have b5:k≠g:=fun e => by subst e;have:=au.o;rw[e6]at this;cases this
     have cp:((k:Int) ==(g:Int))=false:=by rw[beq_eq_false_iff_ne];omega
     have af:Below wr wr w3:=B2.o.T (b6.M B2.o.size);have ba:∀a,a∈f6->a.block<w1.heap.size∨wr.heap.size<=a.block:=fun a ha => by
      rcases l6 a ha with h6|h6
      ·exact .inl (aH (bp.o a h6) s1)
      ·exact .inr (aZ B2.o.size h6)
     have ac:=zq (Tryz.addAny (wr:=wr) (W:=w3.alloc (.cells #[.slice A6 D.length c6] 61)) (b:=w3.heap.size) (ve:=.slice A6 D.length c6) (f:=f6) (L:=D) HO.o a3.o (by rw[aa.o];omega) (Ac af _) (Blk.new _ _ _) (r6.B (Ac (aC _ _) _)) ba);rw[aa.o,z]at ac;clear e6 r6 l6 b6 z b5 af ba;go_wp2_with (at_builtin;refine An rfl (.tmp 52) (.tmp 54) 156 rfl _ _ zT zT ac.o ?_;rintro v8 w8 ⟨A8,c8,h8,rfl,o8,B8,e8,s8⟩;have av:=zq o8;have am:=zq B8;clear o8 B8 s8)
     go_roundw
     ·exact⟨k+1,A8,c8,_,by omega,by go_num,rfl,av.o,HB.o.T am.o⟩
     ·simp[intOf];omega
    ·have z:=a6.o;rw[e6,Option.getD_none]at z;have af:Below wr wr w3:=B2.o.T (b6.M B2.o.size);have ac:=zq (Tryz.addAny (wr:=wr) (W:=w3.alloc (.cells #[zQ] 61)) (b:=w3.heap.size) (ve:=.slice none 0 0) (f:=[]) (L:=[]) HO.o a3.o (by rw[aa.o];omega) (Ac af _) (Blk.new _ _ _) (Ah.empty zZ) (fun a ha => by cases ha));rw[aa.o,z]at ac;clear e6 b6 z af;go_wp2_with (at_builtin;refine An rfl (.tmp 52) (.tmp 54) 156 rfl _ _ zT zT ac.o ?_;rintro v8 w8 ⟨A8,c8,h8,rfl,o8,B8,e8,s8⟩;have av:=zq o8;have am:=zq B8;clear o8 B8 s8)
     go_roundw
     ·exact⟨k+1,A8,c8,_,by omega,by go_num,rfl,av.o,HB.o.T am.o⟩
     ·simp[intOf];omega
   ·obtain rfl:k=l+r:=by omega
    have ho:=HO.o;have bd:(BP d row).length =l+r:=by rw[Ea];exact ag.o
    rw[bB zZ]at ho;obtain⟨gr,bb,-⟩:=ho.reads;have y:=Jo HT.o hr;rw[a4.o,Int.toNat_natCast]at y;have ao:=zq (fun(W:World) (hW:Below wr wr W) => Mv l r (.slice A (l+r) c3) (BP d row) (gr ++ fo) W (4 * nd) (rSl.B Az.loc Az.fix bb hW) bi bj bf bd y zZ);obtain⟨Y,hY⟩:∃Y,Fx (4 * nd) l r (BP d row)=Y:=zJ;rw[hY]at ao ax;have HY:=zq hY;clear ho bd bb y hY;have bo:=zq (show∀W,Below wr wr W->Calls prog 136 #[int i64 (l:Int),int i64 (r:Int),.slice A (l+r:Nat) c3] W (fun e w' =>∃(qk:Int) (A9:Option Addr) (q9 c9:Nat),e= .returned (.agg #[int i64 qk,.slice A9 q9 c9])/\((∃L fs,Y=some L/\qk=0/\q9=L.length/\Az w' fs (.slice A9 q9 c9) L/\AL W w' fs)∨(Y=none/\qk=10))/\Below W W w')from fun W hW =>(ao.o W hW).M fun e w' h => by
     rcases h with⟨L,A9,c9,f9,e9,rfl,r9,m9,b9⟩|⟨e9,rfl,b9⟩
     ·exact⟨0,A9,L.length,c9,rfl,.inl ⟨L,f9,e9,rfl,rfl,r9,m9⟩,b9⟩
     ·exact⟨10,none,0,0,rfl,.inr ⟨e9,rfl⟩,b9⟩)
    clear ao;have ah:=zq (fun(W:World) (hW:Below wr wr W) =>(ai.o W (u.o.T (hW.M u.o.size))).2);have n0:=(ah.o wr (aC _ _)).1;have n1:=(ah.o wr (aC _ _)).2;go_wp2_with (first
     |(refine aE rfl 38 _ rfl p 0 rfl _ _ a5.o underlying38 rfl zY ?_)
     |(go_at_call 15;refine(ab.o _).M ?_;rintro e w2 ⟨rfl,b2⟩;have B2:=zq b2;have cr:=aH b8 b2.size;have k0:=(ah.o w2 b2).1;have k1:=(ah.o w2 b2).2;clear b2))
    have ae:=B2.o;go_region_law (first
     |(go_simp;go_at_call 136;refine(bo.o _ yF).M ?_;rintro e w3 ⟨qk,A9,q9,c9,rfl,hq,b3⟩;have aw:=zq hq;(first|(have KK:=(Blk.new w2.drew 201 #[(),zQ]).B b3 (Blk.new _ _ _).lt;have x0:w3.cell? ⟨w2.heap.size,0,none⟩=some (int i64 0):=(KK.cell 0).T rfl;have x1:w3.cell? ⟨w2.heap.size,1,none⟩=some (.slice none 0 0):=(KK.cell 1).T rfl;have y0:w3.frozen? ⟨w2.heap.size,0,none⟩=false:=KK.frozen 0;have y1:w3.frozen? ⟨w2.heap.size,1,none⟩=false:=KK.frozen 1;have lk:w2.heap.size<w3.heap.size:=KK.lt;have KB:=zq KK;have BB:=zq (show Below (w2.heap.size+1) w3 w3 from aC _ _);clear KK)|skip);have B3:=zq (Below.via (a:=wr) yF b3);clear hq b3;dsimp only))
    all_goals
     first
      |refine Ou (F:=FX wr wr w2 qk A9 q9 c9 Y) (FX.early KB.o ae.size B3.o (by
        rcases aw.o with⟨L,fs,x,h2,h3,h4,h5⟩|h
        ·exact .inl ⟨L,fs,x,h2,h3,h4,h5.M (by have:=ae.size;simp <;> omega),fun a ha e => by have:=h5.from_ a ha;simp at this;omega⟩
        ·exact .inr h)) ?_
      |refine Ou (F:=FX wr wr w3 qk A9 q9 c9 Y) (FX.late B3.o B3.o.size (by
        rcases aw.o with⟨L,fs,x,h2,h3,h4,h5⟩|h
        ·exact .inl ⟨L,fs,x,h2,h3,h4,h5.M (by have:=ae.size;simp <;> omega)⟩
        ·exact .inr h)) ?_
     clear aw B3;intro W4 hF;obtain⟨x0,x1,lb,a9,hq⟩:=hF;have a0:=zq (u.o.T (a9.M u.o.size));clear a9;rcases hq with⟨L,f9,e9,rfl,rfl,r9,m9⟩|⟨e9,rfl⟩
     ·have hL:L.length=l+r:=by
       have x:=HY.o;rw[e9]at x;unfold Fx at x;split at x
       ·cases x
       ·injection x with x
        rw[<-x];exact Eu _ _ _ _ _
      obtain⟨cf,ck,bu,-,-,bl⟩:=Az.open_ r9;injection bu with bv _ bw
      subst bv bw;have aj:g<L.length:=by omega
      obtain⟨cg,bn,bs,a7,bt,ca,ct,bm,al⟩:=bl g aj;have bq:=zq (show∀a,a∈a7->a∈fa∨w.heap.size<=a.block from fun a ha => .inr (aZ u.o.size (m9.from_ a (al.2.1 a ha))));subst bt;have co:(g:Int)<(L.length:Int):=by omega
      have hR:Fc d g row=some (L[g]'aj):=by
       rw[ax.o,e9,Option.map_some];simp[aP,hL,bz]
      have HR:=zq hR;have br:=zq bm;clear bl r9 m9 al hR bm hL e9;go_wp2
      go_ret2
      exact .inl ⟨_,bn,bs,a7,HR.o,rfl,br.o,bq.o,a0.o⟩
     ·have hR:Fc d g row=none:=by rw[ax.o,e9];rfl
      have HR:=zq hR;clear hR e9;go_wp2
      go_ret2
      exact .inr ⟨HR.o,rfl,a0.o⟩
def MyT(x:Int × List Th)(w:World)(e:Ending)(w':World):Prop :=
 ∃v fs,e= .returned (.agg #[int i64 x.1,v])/\F8 w' fs v x.2/\AL w w' fs/\Below w w w'
theorem Tryz.appendAny {wr base v u}{ds L:List UInt8}{l}(n:Ak 1 5 Al wr base v ds [])(f:base<=wr.heap.size)(hr:Ah wr l u L)(hg:∀a,a∈l->a.block<base)(hn:ds.length+L.length<=1000000000):
  ∃h w',(Builtin.append_ #[61,61] 61 #[v,u]).run prog wr= .ok h w'/\∃A c,h= .slice A (ds.length+L.length) c/\Ak 1 5 Al w' base h (ds ++ L) []/\Below base wr w'/\wr.heap.size<=w'.heap.size:=by
 obtain⟨h,w',o,y,i,s,h4,x⟩:=Ak.appendRun (P:=prog) 61 61 (.int .u8 0) 1 underlying61 Tryz.info5 rfl zW Al.L Al.X Fa base v ds [] n u L l hr (fun a q e => by
  have:=(n.lt _ e).1;have:=hg a q;omega) hn zZ f
 have p:=i.flatBytes;rw[p]at i;obtain⟨A,c,e,-⟩:=i.length;exact⟨h,w',o,A,c,by rw[e,aU],i,Below.grown (aC _ _) h4 f (fun k r =>(n.lt k r).1),h4.size⟩
theorem l2Join_c(v)(e:List (List UInt8))(f w)(h:Az w f v e)(hn:e.flatten.length<=1000000):
  Calls prog 86 #[v] w (BO e.flatten w):=by
 obtain⟨A0,c0,rfl,hc,hm,hx⟩:=Az.open_ h;obtain⟨HT,HX,HE⟩:=zI (rSl.there Az.fix h) hx (Ak.emptyB (w:=w));have u:=zq (show∀k,k<=e.length->(e.take k).flatten.length<=1000000 from fun k _ => by
  have h1:e.flatten=(e.take k).flatten ++(e.drop k).flatten:=by rw[<-List.flatten_append,List.take_append_drop]
  rw[h1,aU]at hn;omega)
 clear h hx;go_enter func86,ntmps86
 go_wp2
 go_loopw [4,3] (fun i o wr =>∃(k:Nat) (A:Option Addr) (c:Nat) (D:List UInt8),k<=e.length/\i=k/\o= .slice A D.length c/\Hid (D=(e.take k).flatten)/\Hid (Ak 1 5 Al wr w o D [])/\Hid (Below w w wr)) (fun i _ _ => e.length - (intOf i).toNat)
 ·exact⟨0,_,0,[],by omega,rfl,rfl,rfl,HE.o,(aC _ _).alloc (aD _) _⟩
 ·obtain⟨k,A,c,D,hk,rfl,rfl,HD,HO,n⟩:=hrel;clear HE;by_cases q:k<e.length
  ·obtain⟨ad,A9,c9,f9,rfl,y,p9,r9,-,ab,-⟩:=HX.o k q;have pk:=(n.o.cell (p:=ad.add k) y).T p9;have ac:(k:Int)<(e.length:Int):=by omega
   have l:(e.take (k+1)).flatten =D ++ e[k]:=by rw[HD.o,aK q,List.flatten_append];simp
   have aa:=u.o (k+1) zZ;rw[l,aU]at aa;have x:=zq l;have r:=zq (Tryz.appendAny (wr:=wr) HO.o n.o.size (rSl.B Al.L Al.X r9 n.o) (fun a ha => HT.o a (ab a ha)) zZ);clear l r9 p9;go_wp2_with (at_builtin;refine An rfl (.tmp 12) (.tmp 16) 61 rfl _ _ zT zT r.o ?_;rintro v8 w8 ⟨A8,c8,rfl,o8,b8,s8⟩;have O8:=zq o8;have B8:=zq b8;clear o8 b8 s8)
   go_roundw
   ·exact⟨k+1,A8,c8,D ++ e[k],by omega,by go_num,by rw[aU],x.o.symm,O8.o,n.o.T B8.o⟩
   ·simp[intOf];omega
  ·obtain rfl:k=e.length:=by omega
   have z:=HD.o;rw[bA]at z;have s:=zq z;clear z;go_wp2
   go_ret
   rw[<-s.o];exact Ak.freshB HO.o n.o
theorem Ah.cut {w}{base n c xl:Nat}{A}{L:List UInt8}{e}(r1:Ah w e (.slice A n c) L)(r2:AL base w e)(i:xl<=L.length):∃fs,Ah w fs (.slice A xl c) (L.take xl)/\AL base w fs:=by
 obtain⟨g1,g2,f,-,l⟩:=rSl.split r1 i;refine⟨g1,f,Ah.mine (v:=.slice A xl c) f fun a h => ?_⟩;have hm:a∈e:=l.subset (bM _ h);exact⟨r2.from_ a hm,r2.free a hm⟩
theorem Tp(ks:Nat)(a9:ks=9)(zS:∀w,(Go.sizeOf 38).run prog w= .ok ks w)(aS:∀w,(isAgg 38).run prog w= .ok true w)(p fs d va fa x cs f w)(h:AtW w p fs d)(ha:rSl 9 Af w fa va (AU d))(hx:Af w f cs x)(hT:Ck d)(hI:GC d x):
  Calls prog 45 #[.pointer (some (zE p)),va,.agg cs] w (Iw (Du d x) w):=by
 obtain⟨Aa,ca,rfl,-⟩:=rSl.head ha;obtain⟨na,aw⟩:∃na,(AU d).length =na:=zJ;rw[aw]at ha⊢;dsimp only[Af]at hx;obtain⟨v0,v1,v2,f0,f1,f2,e,-,-,-,-,-,-,-,r0,r1,r2⟩:=hx;subst e;obtain⟨A0,c0,rfl,-,-,be⟩:=AW.open_ r0;have bu:=zq be;clear be;obtain⟨A1,c1,rfl,-⟩:=rSl.head r1;obtain⟨A2,c2,rfl,-⟩:=rSl.head r2;obtain⟨l,z⟩:∃l,x.rows.length=l:=zJ;obtain⟨nD,u⟩:∃nD,x.data.length=nD:=zJ;rw[z]at r0;rw[u]at r1;have a3:=zq z;have ce:=zq u;obtain⟨nE,ah⟩:∃nE,x.delta.length=nE:=zJ;rw[ah]at r2;rw[z,u,ah];obtain⟨r,ae⟩:∃r,w.alloc (.cells (yZ x A0 l c0 A1 nD c1 A2 nE c2) 105)=r:=zJ;have ac:Below w w r:=by rw[<-ae];exact(aC _ _).alloc (aD _) _
 have K1:Blk r w 105 (yZ x A0 l c0 A1 nD c1 A2 nE c2):=by rw[<-ae];exact Blk.new w _ _
 have z1:r.heap.size=w.heap.size+1:=by rw[<-ae];simp
 obtain⟨ag,bh,cd,HT,HI⟩:=zG ac (h.B ac) K1 hT hI;have b0:=hI.dl;rw[u]at b0;have p2:r.cell? ⟨w.heap.size,2,none⟩=some (.string x.name):=(K1.cell 2).T rfl;have p3:r.cell? ⟨w.heap.size,3,none⟩=some (int i64 x.length):=(K1.cell 3).T rfl;have p6:r.cell? ⟨w.heap.size,6,none⟩=some (.slice A0 l c0):=(K1.cell 6).T rfl;have p7:r.cell? ⟨w.heap.size,7,none⟩=some (.slice A1 nD c1):=(K1.cell 7).T rfl;have lw:w.heap.size<r.heap.size:=by omega
 have a6:=zq z1;by_cases q:0<nD
 ·have e1:Du d x=some x.data:=by unfold Du;rw[u,aM q]
  rw[e1];have bk:=zq (RC (P:=prog) (w:=r) 61 61 5 underlying61 Tryz.info5 (v:=.slice A1 nD c1) (bs:=x.data) (rSl.B Al.L Al.X r1 ac) (by rw[u];omega));have qi:(0:Int)<(nD:Int):=by omega
  have cv:(r.alloc (.cells #[] 5)).cell? ⟨w.heap.size,7,none⟩=some (.slice A1 nD c1):=((aC r r).alloc (aD _) _|>.cell (p:=⟨w.heap.size,7,none⟩) lw).T p7;clear r0 r1 r2 ac K1 z1 h hT hI e1 z u ah ha aw;go_enter func45,ntmps45
  go_wp2_with (at_builtin;refine An rfl (.tmp 16) (.tmp 18) 61 rfl _ _ zT zT bk.o ?_;rintro v8 w8 ⟨bw,r8,m8,b8⟩;obtain⟨A8,c8,rfl,-⟩:=rSl.head r8;have R8:=zq r8;have M8:=zq m8;have B8:=zq b8;clear r8 m8 b8)
  go_ret2
  exact .inl ⟨_,A8,c8,bw,rfl,rfl,R8.o,M8.o.M (by have:=a6.o;omega),ag.o.T (B8.o.M ag.o.size)⟩
 ·obtain⟨gh,ar⟩:∃gh:Nat,EF d.s.g x.name=(gh:Int):=⟨(EF d.s.g x.name).toNat,by have:=Hl (nm:=x.name) (show 0<d.s.g from by have:=hT.ok.g.1;simp only[Bh.sh]at this;omega);omega⟩;have bx:=Hl (nm:=x.name) (show 0<d.s.g from by have:=hT.ok.g.1;simp only[Bh.sh]at this;omega);have aq:gh<d.g.length:=by have h1:=hT.gl;have h2:=hT.ok.c.1;simp only[Bh.sh]at h2;omega
  have e1:Du d x=(irF d gh x.rows l).map fun L => L.take x.length.toNat:=by unfold Du;rw[u,aJ q,z,ar,Int.toNat_natCast]
  rw[e1];have hl:=hI.ln zZ;rw[z]at hl;have b3:=hI.rl;rw[z]at b3;have a8:=hT.ok.data;simp only[Bh.sh]at a8;have cm:d.s.data<=3:=by have:=a8.2;omega
  have co:x.length<=1000:=by
   have h1:((l:Int) * (4 * d.s.data))<=6 * (4 * 3):=Int.mul_le_mul zZ zZ zZ zZ;omega
  have a0:=zq (G7 hT (rows:=x.rows) aq hI.rw_);have bc:∀k,k<=l->k * (4 * d.s.data.toNat)<=100:=fun k hk => by
   have h1:k * (4 * d.s.data.toNat)<=6 * (4 * 3):=Nat.mul_le_mul zZ zZ;omega
  have bt:=zq bc;have bp:=zq (show x.length.toNat<=l * (4 * d.s.data.toNat)from by
   have:((l * (4 * d.s.data.toNat):Nat):Int)=(l:Int) * (4 * d.s.data):=by
    rw[Int.natCast_mul,Int.natCast_mul,Int.toNat_of_nonneg zZ];rfl
   omega)
  have bl:=zq (rSl.there Af.X ha);have a5:=zq (fun(W:World) (y:Below w w W) (m:Nat) (hm:(m:Int)<d.s.rows) => Tq p fs d (.slice Aa na ca) fa gh m W (h.B y) (rSl.B Af.L Af.X ha y) hT aq hm);have af:=fun W => OQ d.s.sh hT.ok x.name hI.nm W
  unfold shV at af;simp only[Bh.sh]at af;rw[ar]at af;have az:=zq af;have bm:=zq (show∀W,Below r r W->(Sem.run prog (loadCellsFrom (zE p) 0 ks #[]) W= .ok d.s W/\W.cell? ⟨w.heap.size,2,none⟩=some (.string x.name)/\W.cell? ⟨w.heap.size,6,none⟩=some (.slice A0 l c0))from fun W y => by
   obtain⟨b9,cb,cc,cf,cg,ch,ci,cj,ck,HC⟩:=(bh.o.B y).cells;exact⟨HC.shapeRun ks a9,(y.cell (p:=⟨w.heap.size,2,none⟩) lw).T p2,(y.cell (p:=⟨w.heap.size,6,none⟩) lw).T p6⟩)
  have br:=zq hI.rw_;have HE:=zq (Ak.emptyL (w:=r));have b5:¬ks=0:=by omega
  have b7:0<ks:=by omega
  have hq:¬(0:Int)<(nD:Int):=by omega
  have bb:=hl.1;have cp:p<w.heap.size:=by obtain⟨_,_,_,_,_,_,_,_,_,HC⟩:=h.cells;exact HC.lt
  clear r0 r1 r2 ac K1 z1 h hT hI e1 z u ah bx aq hl bc af ar a9 ha aw;go_enter func45,ntmps45
  go_wp2_with fail
  try rw[ae]
  clear ae;go_wp2
  go_loopw [9,8,10,11] (fun i o _ _ wr =>∃(k:Nat) (A:Option Addr) (c3:Nat) (Ls:List (List UInt8)) (fo:List Addr),k<=l/\i=k/\o= .slice A k c3/\Hid (k=Ls.length)/\Hid (irF d gh x.rows k=some Ls.flatten)/\Hid (Ak 1 61 (Ai 1 Al) wr r o Ls fo)/\Hid (Below r r wr)) (fun i _ _ _ _ => l - (intOf i).toNat)
  ·exact⟨0,_,0,[],[],by omega,rfl,rfl,rfl,rfl,HE.o,(aC _ _).alloc (aD _) _⟩
  ·obtain⟨k,A,c3,Ls,fo,hk,rfl,rfl,HK,HL,HO,HB⟩:=hrel;clear HE;have ap:=HB.o.size;have n:=zq (show Below w w wr from ag.o.T (HB.o.M ag.o.size));have bg:=(HB.o.cell (p:=⟨w.heap.size,6,none⟩) lw).T p6;by_cases bz:k<l
   ·have aa:k<x.rows.length:=by rw[a3.o];exact bz
    have cn:(k:Int)<(l:Int):=by omega
    obtain⟨ad,eA,-,b1,pc,-⟩:=bu.o k aa;subst eA;have ai:=br.o _ (aT aa);obtain⟨m,hm⟩:∃m:Nat,x.rows[k] =(m:Int):=⟨x.rows[k].toNat,by omega⟩;have ak:=pc;rw[hm]at ak ai;have a2:=zq ai.2;have ab:=zq (show∀W,Below wr wr W->(Sem.run prog (loadCellsFrom (zE p) 0 ks #[]) W= .ok d.s W/\W.cell? ⟨w.heap.size,2,none⟩=some (.string x.name)/\W.cell? ⟨w.heap.size,6,none⟩=some (.slice (some ad) l c0)/\W.cell? (ad.add k)=some (int i64 (m:Int)))from fun W y => by
     obtain⟨h1,h2,h3⟩:=bm.o W (HB.o.T (y.M ap));exact⟨h1,h2,h3,((n.o.T (y.M n.o.size)).cell (p:=ad.add k) b1).T ak⟩)
    obtain⟨q0,q2,q6,q7⟩:=ab.o wr (aC _ _);have cr:p<wr.heap.size:=by omega
    have cq:¬p=w.heap.size:=by omega
    cases hrf:Fc d gh m with
    |some D =>
     have ba:=OG HL.o aa (b:=D) (by rw[hm,Int.toNat_natCast];exact hrf);have bn:=zq (show irF d gh x.rows (k+1)=some (Ls ++ [D]).flatten from by rw[ba];simp);have an:=zq (fun(W:World) (y:Below wr wr W) =>(a5.o W (n.o.T (y.M n.o.size)) m a2.o).M (R':=fun e w' =>∃A c fs,e= .returned (.tuple #[.slice A D.length c,.bool true])/\Ah w' fs (.slice A D.length c) D/\(∀a,a∈fs->a∈fa∨W.heap.size<=a.block)/\Below W W w') (by
      intro e w' hq;rw[hrf]at hq;rcases hq with⟨D',A,c,fs,e1,h2,h3,h4,h5⟩|⟨e1,-⟩
      ·injection e1 with e1;subst e1;exact⟨A,c,fs,h2,h3,h4,h5⟩
      ·cases e1))
     clear hrf pc ai hm aa ba;go_wp2_with fail
     go_region_held3 (fun W => Sem.run prog (loadCellsFrom (zE p) 0 ks #[]) W= .ok d.s W/\W.cell? ⟨w.heap.size,2,none⟩=some (.string x.name)/\W.cell? ⟨w.heap.size,6,none⟩=some (.slice (some ad) l c0)/\W.cell? (ad.add k)=some (int i64 (m:Int)))
      (exact ab.o _ yF)
      (first
       |(go_at_call 85;refine(az.o _).M ?_;rintro e w2 ⟨rfl,b2⟩;have B2:=Below.via (a:=wr) yF b2)
       |(go_at_call 84;refine(an.o _ yF).M ?_;rintro e w3 ⟨A6,c6,f6,rfl,r6,m6,b6⟩;have B3:=Below.via (a:=wr) yF b6))
     have ax:=zq (Tryz.addAny (wr:=wr) (W:=w3.alloc (.cells #[.slice A6 D.length c6] 61)) (b:=w3.heap.size) (ve:=.slice A6 D.length c6) (f:=f6) (L:=D) HO.o ap (by rw[<-HK.o];omega) (Ac B3 _) (Blk.new _ _ _) (r6.B (Ac (aC _ _) _)) (fun a ha => by
      rcases m6 a ha with h1|h1
      ·left;have:=bl.o a h1;omega
      ·right;have h2:=B2.size;first|omega|(simp at h1;omega)))
     rw[<-HK.o]at ax;have ay:=zq B3;clear r6 m6 b6 B3 q0 q2 q6 q7 ak bg;go_wp2_with (at_builtin;refine An rfl (.tmp 48) (.tmp 50) 156 rfl _ _ zT zT ax.o ?_;rintro v8 w8 ⟨A8,c8,h8,rfl,o8,b8,e8,s8⟩;have O8:=zq o8;have B8:=zq b8;clear o8 b8 s8)
     go_roundw
     ·exact⟨k+1,A8,c8,Ls ++ [D],_,by omega,by go_num,rfl,(show k+1=_ by rw[aU,<-HK.o];rfl),bn.o,O8.o,HB.o.T B8.o⟩
     ·simp[intOf];omega
    |none =>
     have bq:=zq (show irF d gh x.rows l=none from by
      have h1:=OE (OF (g:=gh) aa (by rw[hm,Int.toNat_natCast];exact hrf)) (l - (k+1));rw[show k+1+(l - (k+1))=l from by omega]at h1;exact h1)
     have an:=zq (fun(W:World) (y:Below wr wr W) =>(a5.o W (n.o.T (y.M n.o.size)) m a2.o).M (R':=fun e w' => e= .returned (.tuple #[zQ,.bool false])/\Below W W w') (by
      intro e w' hq;rw[hrf]at hq;rcases hq with⟨D',A,c,fs,e1,-⟩|⟨e1,h2,h3⟩
      ·cases e1
      ·exact⟨h2,h3⟩))
     clear hrf pc ai hm aa;go_wp2_with fail
     go_region_held3 (fun W => Sem.run prog (loadCellsFrom (zE p) 0 ks #[]) W= .ok d.s W/\W.cell? ⟨w.heap.size,2,none⟩=some (.string x.name)/\W.cell? ⟨w.heap.size,6,none⟩=some (.slice (some ad) l c0)/\W.cell? (ad.add k)=some (int i64 (m:Int)))
      (exact ab.o _ yF)
      (first
       |(go_at_call 85;refine(az.o _).M ?_;rintro e w2 ⟨rfl,b2⟩;have B2:=Below.via (a:=wr) yF b2)
       |(go_at_call 84;refine(an.o _ yF).M ?_;rintro e w3 ⟨rfl,b6⟩;have B3:=Below.via (a:=wr) yF b6))
     have ay:=zq B3;clear b6 B3 q0 q2 q6 q7 ak bg;go_wp2
     go_ret2
     exact .inr ⟨by rw[bq.o];rfl,rfl,n.o.T (ay.o.M n.o.size)⟩
   ·obtain rfl:k=l:=by omega
    have au:=a0.o k (by rw[a3.o];omega) _ HL.o;have b4:=bt.o k (aD _);have av:=bp.o;obtain⟨xl,aj⟩:∃xl:Nat,x.length=(xl:Int):=⟨x.length.toNat,by omega⟩;rw[aj,Int.toNat_natCast]at av;rw[aj]at p3;obtain⟨gs,r8,-⟩:=HO.o.reads;obtain⟨R8,bv,bo⟩:=zI r8 aj au;have HJ:=zq (fun(W:World) (y:Below wr wr W) => l2Join_c (.slice A k c3) Ls (gs ++ fo) W (rSl.B Az.loc Az.fix R8.o y) (by rw[bo.o];omega));have bf:xl<=Ls.flatten.length:=by rw[au];exact av
    have al:=zq bf;have a4:=zq (show∀W,Below wr wr W->W.cell? ⟨w.heap.size,3,none⟩=some (int i64 (xl:Int))from fun W y =>((HB.o.T (y.M ap)).cell (p:=⟨w.heap.size,3,none⟩) lw).T p3);have q3:=a4.o wr (aC _ _);obtain⟨FF,ao⟩:∃FF,Ls.flatten=FF:=zJ;rw[ao]at HJ bf al;have bj:=zq ao;clear au av aj r8 bb p3 b4 ao;go_wp2_with fail
    go_region_held3 (fun W => W.cell? ⟨w.heap.size,3,none⟩=some (int i64 (xl:Int)))
     (exact a4.o _ yF)
     (first|(go_at_call 86;refine(HJ.o _ yF).M ?_;rintro e w2 ⟨A8,c8,f8,rfl,r8,m8,b8⟩;have cl:=(rSl.bounds r8).2;have ct:xl<=c8:= zZ;have B2:=Below.via (a:=wr) yF b8))
    have cu:=a6.o;have bd:=m8;obtain⟨a7,r9,m9⟩:=Ah.cut (xl:=xl) r8 m8 al.o;obtain⟨R9,M9,bi⟩:=zI r9 (show AL w w2 a7 from m9.M (by first|omega|(simp;omega))) B2;have am:(FF.take xl).length =xl:=by rw[aX];omega
    have a1:=zq am;clear r8 m8 b8 r9 m9 B2 am bd;go_wp2
    go_ret2
    exact .inl ⟨FF.take xl,A8,c8,a7,by rw[HL.o,bv.o,bj.o];rfl,by rw[a1.o];rfl,by rw[a1.o];exact R9.o,M9.o,n.o.T (bi.o.M n.o.size)⟩
theorem To(p fs d c e x cs f w)(h:AtW w p fs d)(n:rSl 9 Af w e c (AU d))(o:Af w f cs x)(l:Ck d)(i:GC d x):
  Calls prog 45 #[.pointer (some (zE p)),c,.agg cs] w (Iw (Du d x) w) :=
 Tp 9 rfl sizeOf38 isAgg38 p fs d c e x cs f w h n o l i
