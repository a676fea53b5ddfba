/- Part 3 of the proof. -/
import Derived.Test.YtofeknacbdcoaaaGreatDoorK02
import Derived.Test.YtofeknacbdcoaaaGreatDoorK01
import Derived.Deep.MidRow
set_option maxHeartbeats 8000000
set_option maxRecDepth 100000
set_option linter.unusedVariables false
set_option linter.unusedSimpArgs false
open Go.Proofs.Tryz
open Go.Value (int)
open Go.IntKind (i64)
namespace Go.Proofs.YtofeknacbdcoaaaGreatDoor
open Go.RowKit Go.Sort
theorem Rv(d1 d2 n p f1 f2 w)(h1:Ag w f1 n d1)(z:Ag w f2 p d2):
  Calls prog 115 #[.agg n,.agg p] w (zN (.bool (decide (d1=d2))) w):=by
 obtain⟨s,u,r,x⟩:=d1;obtain⟨y0,y1,y2,y⟩:=d2;dsimp only[Ag]at h1 z;obtain⟨e,-,aa,ab,ac,ad⟩:=h1;subst e;obtain⟨e,-,ae,af,ag,ah⟩:=z;subst e;obtain⟨h,f⟩:∃h,decide ((⟨s,u,r,x⟩:AA)=⟨y0,y1,y2,y⟩)=h:=zJ;rw[f];have l:=zq f;clear f;have i:=zq (show∀o1 o2:Obj,Below w w ((w.alloc o1).alloc o2)from fun o1 o2 =>((aC _ _).alloc (aD _) _).alloc zX _);by_cases q:s=y0
 case neg =>
  have c:h=false:=by rw[<-l.o];exact aG (fun e => q (congrArg AA.id e))
  subst c;have hq:(s != y0)=true:=bne_iff_ne.2 q;clear q;go_enter func115,ntmps115
  go_wp2
  go_ret
  exact⟨rfl,(i.o _ _)⟩
 subst q;by_cases q:u=y1
 case neg =>
  have c:h=false:=by rw[<-l.o];exact aG (fun e => q (congrArg AA.kind e))
  subst c;have hq:(u != y1)=true:=bne_iff_ne.2 q;clear q;go_enter func115,ntmps115
  go_wp2
  go_ret
  exact⟨rfl,(i.o _ _)⟩
 subst q;by_cases q:r=y2
 case neg =>
  have c:h=false:=by rw[<-l.o];exact aG (fun e => q (congrArg AA.name e))
  subst c;have hq:=Ly q;clear q;go_enter func115,ntmps115
  go_wp2
  go_ret
  exact⟨rfl,(i.o _ _)⟩
 subst q;have ai:=Lx (rfl:r=r);by_cases q:x=y
 case neg =>
  have c:h=false:=by rw[<-l.o];exact aG (fun e => q (congrArg AA.group e))
  subst c;have hq:(x != y)=true:=bne_iff_ne.2 q;clear q;go_enter func115,ntmps115
  go_wp2
  go_ret
  exact⟨rfl,(i.o _ _)⟩
 subst q;have c:h=true:=by rw[<-l.o];exact aN rfl
 subst c;go_enter func115,ntmps115
 go_wp2
 go_ret
 exact⟨rfl,(i.o _ _)⟩
theorem KA(v1 v2 xs l f1 f2 w)(h1:rSl 4 Ag w f1 v1 xs)(h2:rSl 4 Ag w f2 v2 l):
  Calls prog 68 #[v1,v2] w (zN (.bool (decide (xs=l))) w):=by
 obtain⟨A1,c1,rfl,au,aw,hx⟩:=rSl.at_ Ag.X zW h1;obtain⟨A2,c2,rfl,av,ax,hy⟩:=rSl.at_ Ag.X zW h2;clear h1 h2;obtain⟨rb,x⟩:∃rb,decide (xs=l)=rb:=zJ;rw[x];have RB:=zq x;clear x;have HX:=zq hx;have HY:=zq hy;clear hx hy;by_cases hl:xs.length=l.length
 ·have hb:=CY hl;have HL:=zq hl;clear hl;go_enter func68,ntmps68
  go_wp2
  go_loopw [4,5] (fun r i wr =>∃k:Nat,k<=xs.length/\i=k/\r= .bool false/\xs.take k=l.take k/\Below w w wr) (fun _ i _ => xs.length - (intOf i).toNat)
  ·exact⟨0,by omega,rfl,rfl,by simp,aC _ _⟩
  ·obtain⟨k,hk,rfl,rfl,ht,h⟩:=hrel;have HT:=zq ht;clear ht;by_cases u:k<xs.length
   ·have n:k<l.length:=by rw[<-HL.o];exact u
    obtain⟨a1,b1,o1,ao,g1,q,c⟩:=HX.o k u;obtain⟨a2,b2,o2,ap,g2,e2,f⟩:=HY.o k n;subst q e2;replace c:=c.B Ag.L h
    replace f:=f.B Ag.L h
    have HB:=zq h;clear h;clear HX HY;obtain⟨e,-,-,-,-,-⟩:=c.reads;subst e;obtain⟨e,-,-,-,-,-⟩:=f.reads;subst e;have aq:=c.place;have ar:=f.place;have ac:=aB (c.cell 0 zX);have ad:=aB (c.cell 1 zX);have ae:=aB (c.cell 2 zX);have af:=aB (c.cell 3 zX);simp only[aW,bF,bC]at ac ad ae af;have ag:=aB (f.cell 0 zX);have ah:=aB (f.cell 1 zX);have ai:=aB (f.cell 2 zX);have aj:=aB (f.cell 3 zX);simp only[aW,bF,bC]at ag ah ai aj;have hc:∀d os,Calls prog 115 #[.agg #[int i64 xs[k].id,int i64 xs[k].kind,.string xs[k].name,int i64 xs[k].group],.agg #[int i64 l[k].id,int i64 l[k].kind,.string l[k].name,int i64 l[k].group]] (grow (redrawn wr d) os) fun e al => e= .returned (.bool (decide (xs[k] =l[k])))/\∃p:Regrown,al=grow (redrawn wr p.d) p.os :=
     fun d os => Calls.regrown_of (Rv xs[k] l[k] _ _ g1 g2 _ (AC.B Ag.L Ag.X c.reads (aI wr d os)) (AC.B Ag.L Ag.X f.reads (aI wr d os)))
    obtain⟨bb,s⟩:∃bb,decide (xs[k] =l[k])=bb:=zJ;rw[s]at hc;have z:=zq s;clear s;have HC:=zq hc;clear hc;have am:=zq c;have an:=zq f;clear c f;go_wp2_with fail
    refine aF zY zY ?_;repeat(first|go_big_quiet_step (exact HC.o _ _)|quiet_step (exact HC.o _ _))
    refine aQ ?_;intro _ ak;obtain⟨⟨dq,osq⟩,ab⟩:=ak;subst ab;have y:=zq (HB.o.T ((aI wr dq osq).M HB.o.size));cases bb with
    |true =>
     have he:=bE z.o;have HE:=zq he;clear he;go_wp2
     go_roundw
     ·exact⟨k+1,by omega,by go_num,rfl,Fs HT.o u n HE.o,y.o⟩
     ·simp[intOf];omega
    |false =>
     have he:=of_decide_eq_false z.o;have q:rb=false:=by rw[<-RB.o];exact aG (fun e => he (by subst e;rfl))
     subst q;clear he;go_wp2
     go_ret
     exact⟨rfl,y.o⟩
   ·have aa:k=xs.length:=by omega
    have H:=HT.o;rw[aa,bA,HL.o,bA]at H;have q:rb=true:=by rw[<-RB.o];exact aN H
    subst q;have HB:=zq h;clear H aa HX HY h;go_wp2
    go_ret
    exact⟨rfl,HB.o⟩
 ·have hb:=CZ hl;have q:rb=false:=by rw[<-RB.o];exact aG (fun e => hl (by rw[e]))
  subst q;clear HX HY;go_enter func68,ntmps68
  go_wp2
  go_ret
  exact⟨rfl,aC _ _⟩
theorem Oo(v1 v2)(xs l:List (List AA))(f1 f2)(w:World)(h1:rSl 1 (Ai 4 Ag) w f1 v1 xs)(h2:rSl 1 (Ai 4 Ag) w f2 v2 l):
  Calls prog 67 #[v1,v2] w (zN (.bool (decide (xs=l))) w):=by
 obtain⟨A1,c1,rfl,aw,ay,hx⟩:=rSl.at_ (Ai.X Ag.X) zW h1;obtain⟨A2,c2,rfl,ax,az,hy⟩:=rSl.at_ (Ai.X Ag.X) zW h2;clear h1 h2;obtain⟨rb,x⟩:∃rb,decide (xs=l)=rb:=zJ;rw[x];have RB:=zq x;clear x;have HX:=zq hx;have HY:=zq hy;clear hx hy;by_cases hl:xs.length=l.length
 ·have hb:=CY hl;have HL:=zq hl;clear hl;go_enter func67,ntmps67
  go_wp2
  go_loopw [4,5] (fun r i wr =>∃k:Nat,k<=xs.length/\i=k/\r= .bool false/\xs.take k=l.take k/\Below w w wr) (fun _ i _ => xs.length - (intOf i).toNat)
  ·exact⟨0,by omega,rfl,rfl,by simp,aC _ _⟩
  ·obtain⟨k,hk,rfl,rfl,ht,h⟩:=hrel;have HT:=zq ht;clear ht;by_cases u:k<xs.length
   ·have n:k<l.length:=by rw[<-HL.o];exact u
    obtain⟨a1,b1,o1,au,g1,q,c⟩:=HX.o k u;obtain⟨a2,b2,o2,av,g2,e2,f⟩:=HY.o k n;subst q e2;replace c:=c.B (Ai.L Ag.L) h
    replace f:=f.B (Ai.L Ag.L) h
    have HB:=zq h;clear h;clear HX HY;obtain⟨aq,e,aa⟩:=c.reads;subst e;obtain⟨ae,af,rfl,-⟩:=rSl.head aa;clear aa;obtain⟨ar,e,ab⟩:=f.reads;subst e;obtain⟨ah,ai,rfl,-⟩:=rSl.head ab;clear ab;have ak:=c.place;have al:=f.place;simp only[Nat.mul_one]at ak al;have ag:=aB (c.cell 0 zX);simp only[aW,bC]at ag;have aj:=aB (f.cell 0 zX);simp only[aW,bC]at aj;have hc:∀d os,Calls prog 68 #[.slice ae xs[k].length af,.slice ah l[k].length ai] (grow (redrawn wr d) os) fun e an => e= .returned (.bool (decide (xs[k] =l[k])))/\∃p:Regrown,an=grow (redrawn wr p.d) p.os :=
     fun d os => Calls.regrown_of (KA _ _ xs[k] l[k] g1 g2 _ (rSl.B Ag.L Ag.X (Ai.one c.reads) (aI wr d os)) (rSl.B Ag.L Ag.X (Ai.one f.reads) (aI wr d os)))
    obtain⟨bb,s⟩:∃bb,decide (xs[k] =l[k])=bb:=zJ;rw[s]at hc;have z:=zq s;clear s;have HC:=zq hc;clear hc;have ao:=zq c;have ap:=zq f;clear c f;go_wp2_with fail
    refine aF zY zY ?_;repeat(first|go_big_quiet_step (exact HC.o _ _)|quiet_step (exact HC.o _ _))
    refine aQ ?_;intro _ am;obtain⟨⟨dq,osq⟩,ad⟩:=am;subst ad;have y:=zq (HB.o.T ((aI wr dq osq).M HB.o.size));cases bb with
    |true =>
     have he:=bE z.o;have HE:=zq he;clear he;go_wp2
     go_roundw
     ·exact⟨k+1,by omega,by go_num,rfl,Fs HT.o u n HE.o,y.o⟩
     ·simp[intOf];omega
    |false =>
     have he:=of_decide_eq_false z.o;have q:rb=false:=by rw[<-RB.o];exact aG (fun e => he (by subst e;rfl))
     subst q;clear he;go_wp2
     go_ret
     exact⟨rfl,y.o⟩
   ·have ac:k=xs.length:=by omega
    have H:=HT.o;rw[ac,bA,HL.o,bA]at H;have q:rb=true:=by rw[<-RB.o];exact aN H
    subst q;have HB:=zq h;clear H ac HX HY h;go_wp2
    go_ret
    exact⟨rfl,HB.o⟩
 ·have hb:=CZ hl;have q:rb=false:=by rw[<-RB.o];exact aG (fun e => hl (by rw[e]))
  subst q;clear HX HY;go_enter func67,ntmps67
  go_wp2
  go_ret
  exact⟨rfl,aC _ _⟩
theorem Rs(d1 d2 ad ae f1 f2 w)(h1:AB w f1 ad d1)(h2:AB w f2 ae d2):
  Calls prog 116 #[.agg ad,.agg ae] w (zN (.bool (decide (d1=d2))) w):=by
 obtain⟨s,u,x,x3⟩:=d1;obtain⟨y0,y1,y2,y3⟩:=d2;dsimp only[AB]at h1 h2;obtain⟨am,ai,e,-,aj,ak,al,i⟩:=h1;subst e;obtain⟨ar,an,e,-,ao,ap,aq,l⟩:=h2;subst e;have ag:=zq i;obtain⟨z,aa,rfl,-⟩:=rSl.head i;clear i;have ah:=zq l;obtain⟨ab,ac,rfl,-⟩:=rSl.head l;clear l;obtain⟨r,p⟩:∃r,decide ((⟨s,u,x,x3⟩:AQ)=⟨y0,y1,y2,y3⟩)=r:=zJ;rw[p];have y:=zq p;clear p;have c:=zq (show∀o1 o2:Obj,Below w w ((w.alloc o1).alloc o2)from fun o1 o2 =>((aC _ _).alloc (aD _) _).alloc zX _);by_cases q:s=y0
 case neg =>
  have f:r=false:=by rw[<-y.o];exact aG (fun e => q (congrArg AQ.id e))
  subst f;have hq:(s != y0)=true:=bne_iff_ne.2 q;clear q;go_enter func116,ntmps116
  go_wp2
  go_ret
  exact⟨rfl,(c.o _ _)⟩
 subst q;by_cases q:u=y1
 case neg =>
  have f:r=false:=by rw[<-y.o];exact aG (fun e => q (congrArg AQ.code e))
  subst f;have hq:(u != y1)=true:=bne_iff_ne.2 q;clear q;go_enter func116,ntmps116
  go_wp2
  go_ret
  exact⟨rfl,(c.o _ _)⟩
 subst q;by_cases q:x=y2
 case neg =>
  have f:r=false:=by rw[<-y.o];exact aG (fun e => q (congrArg AQ.turn e))
  subst f;have hq:(x != y2)=true:=bne_iff_ne.2 q;clear q;go_enter func116,ntmps116
  go_wp2
  go_ret
  exact⟨rfl,(c.o _ _)⟩
 subst q;go_enter func116,ntmps116
 go_wp2_with fail
 refine(Ie _ _ x3 y3 _ _ _ (rSl.B Al.L Al.X ag.o (c.o _ _)) (rSl.B Al.L Al.X ah.o (c.o _ _))).M ?_;rintro e u3 ⟨rfl,hb⟩;have af:=Blk.B ((Blk.new w 163 #[int i64 s,int i64 u,int i64 x,.slice z x3.length aa]).alloc (.cells #[int i64 s,int i64 u,int i64 x,.slice ab y3.length ac] 163)) hb zV;have n:=Blk.B (Blk.new (w.alloc (.cells #[int i64 s,int i64 u,int i64 x,.slice z x3.length aa] 163)) 163 #[int i64 s,int i64 u,int i64 x,.slice ab y3.length ac]) hb zX;rw[World.size_alloc]at n;have K1:=zq af;have K2:=zq n;clear af n;have h:=c.o;clear c;have c:=zq ((h _ _).T (hb.M (h _ _).size));clear hb h;by_cases q:x3=y3
 case neg =>
  have f:r=false:=by rw[<-y.o];exact aG (fun e => q (congrArg AQ.bytes e))
  subst f;rw[aG q];clear q;go_wp2
  go_ret
  exact⟨rfl,c.o⟩
 rw[aN q];subst q;have f:r=true:=by rw[<-y.o];exact aN rfl
 subst f;go_wp2
 go_ret
 exact⟨rfl,c.o⟩
theorem PL(v1 v2 xs l f1 f2 w)(h1:rSl 4 AB w f1 v1 xs)(h2:rSl 4 AB w f2 v2 l):
  Calls prog 69 #[v1,v2] w (zN (.bool (decide (xs=l))) w):=by
 obtain⟨A1,c1,rfl,a6,a8,hx⟩:=rSl.at_ AB.X zW h1;obtain⟨A2,c2,rfl,a7,a9,hy⟩:=rSl.at_ AB.X zW h2;clear h1 h2;obtain⟨rb,x⟩:∃rb,decide (xs=l)=rb:=zJ;rw[x];have RB:=zq x;clear x;have HX:=zq hx;have HY:=zq hy;clear hx hy;by_cases hl:xs.length=l.length
 ·have hb:=CY hl;have HL:=zq hl;clear hl;go_enter func69,ntmps69
  go_wp2
  go_loopw [4,5] (fun r i wr =>∃k:Nat,k<=xs.length/\i=k/\r= .bool false/\xs.take k=l.take k/\Below w w wr) (fun _ i _ => xs.length - (intOf i).toNat)
  ·exact⟨0,by omega,rfl,rfl,by simp,aC _ _⟩
  ·obtain⟨k,hk,rfl,rfl,ht,h⟩:=hrel;have HT:=zq ht;clear ht;by_cases u:k<xs.length
   ·have n:k<l.length:=by rw[<-HL.o];exact u
    obtain⟨a1,b1,o1,a0,g1,q,c⟩:=HX.o k u;obtain⟨a2,b2,o2,a3,g2,e2,f⟩:=HY.o k n;subst q e2;replace c:=c.B AB.L h
    replace f:=f.B AB.L h
    have HB:=zq h;clear h;clear HX HY;obtain⟨ax,aw,e,-,-,-,-,aa⟩:=c.reads;subst e;obtain⟨ae,af,rfl,-⟩:=rSl.head aa;clear aa;obtain⟨az,ay,e,-,-,-,-,ab⟩:=f.reads;subst e;obtain⟨ak,al,rfl,-⟩:=rSl.head ab;clear ab;have a4:=c.place;have a5:=f.place;have ag:=aB (c.cell 0 zX);have ah:=aB (c.cell 1 zX);have ai:=aB (c.cell 2 zX);have aj:=aB (c.cell 3 zX);simp only[aW,bF,bC]at ag ah ai aj;have am:=aB (f.cell 0 zX);have an:=aB (f.cell 1 zX);have ao:=aB (f.cell 2 zX);have ap:=aB (f.cell 3 zX);simp only[aW,bF,bC]at am an ao ap;have hc:∀d os,Calls prog 116 #[.agg #[int i64 xs[k].id,int i64 xs[k].code,int i64 xs[k].turn,.slice ae xs[k].bytes.length af],.agg #[int i64 l[k].id,int i64 l[k].code,int i64 l[k].turn,.slice ak l[k].bytes.length al]] (grow (redrawn wr d) os) fun e ar => e= .returned (.bool (decide (xs[k] =l[k])))/\∃p:Regrown,ar=grow (redrawn wr p.d) p.os :=
     fun d os => Calls.regrown_of (Rs xs[k] l[k] _ _ g1 g2 _ (AC.B AB.L AB.X c.reads (aI wr d os)) (AC.B AB.L AB.X f.reads (aI wr d os)))
    obtain⟨bb,s⟩:∃bb,decide (xs[k] =l[k])=bb:=zJ;rw[s]at hc;have z:=zq s;clear s;have HC:=zq hc;clear hc;have au:=zq c;have av:=zq f;clear c f;go_wp2_with fail
    refine aF zY zY ?_;repeat(first|go_big_quiet_step (exact HC.o _ _)|quiet_step (exact HC.o _ _))
    refine aQ ?_;intro _ aq;obtain⟨⟨dq,osq⟩,ad⟩:=aq;subst ad;have y:=zq (HB.o.T ((aI wr dq osq).M HB.o.size));cases bb with
    |true =>
     have he:=bE z.o;have HE:=zq he;clear he;go_wp2
     go_roundw
     ·exact⟨k+1,by omega,by go_num,rfl,Fs HT.o u n HE.o,y.o⟩
     ·simp[intOf];omega
    |false =>
     have he:=of_decide_eq_false z.o;have q:rb=false:=by rw[<-RB.o];exact aG (fun e => he (by subst e;rfl))
     subst q;clear he;go_wp2
     go_ret
     exact⟨rfl,y.o⟩
   ·have ac:k=xs.length:=by omega
    have H:=HT.o;rw[ac,bA,HL.o,bA]at H;have q:rb=true:=by rw[<-RB.o];exact aN H
    subst q;have HB:=zq h;clear H ac HX HY h;go_wp2
    go_ret
    exact⟨rfl,HB.o⟩
 ·have hb:=CZ hl;have q:rb=false:=by rw[<-RB.o];exact aG (fun e => hl (by rw[e]))
  subst q;clear HX HY;go_enter func69,ntmps69
  go_wp2
  go_ret
  exact⟨rfl,aC _ _⟩
theorem eqDesk_c(d1 d2 ax ay f1 f2 w)(h1:Bb w f1 ax d1)(h2:Bb w f2 ay d2):
  Calls prog 32 #[.agg ax,.agg ay] w (zN (.bool (decide (d1=d2))) w):=by
 obtain⟨x0,x1,x2,x3,x4⟩:=d1;obtain⟨y0,y1,y2,y3,y4⟩:=d2;dsimp only[Bb]at h1 h2;obtain⟨ba,bb,bc,a5,a6,a7,e,-,a8,a9,ac,ad,ae⟩:=h1;subst e;obtain⟨bi,bj,bk,bd,be,bf,e,-,bg,bh,af,ag,ah⟩:=h2;subst e;have az:=zq ac;obtain⟨aj,am,rfl,-⟩:=rSl.head ac;clear ac;have a0:=zq ad;obtain⟨ak,an,rfl,-⟩:=rSl.head ad;clear ad;have a1:=zq ae;obtain⟨al,ao,rfl,-⟩:=rSl.head ae;clear ae;have a2:=zq af;obtain⟨ap,au,rfl,-⟩:=rSl.head af;clear af;have a3:=zq ag;obtain⟨aq,av,rfl,-⟩:=rSl.head ag;clear ag;have a4:=zq ah;obtain⟨ar,aw,rfl,-⟩:=rSl.head ah;clear ah;obtain⟨rb,ai⟩:∃rb,decide ((⟨x0,x1,x2,x3,x4⟩:AP)=⟨y0,y1,y2,y3,y4⟩)=rb:=zJ;rw[ai];have RB:=zq ai;clear ai;have p:=zq (show∀o1 o2:Obj,Below w w ((w.alloc o1).alloc o2)from fun o1 o2 =>((aC _ _).alloc (aD _) _).alloc zX _);go_enter func32,ntmps32
 go_wp2_with fail
 refine(Oo _ _ x0 y0 _ _ _ (rSl.B (Ai.L Ag.L) (Ai.X Ag.X) az.o (p.o _ _)) (rSl.B (Ai.L Ag.L) (Ai.X Ag.X) a2.o (p.o _ _))).M ?_;rintro e u0 ⟨rfl,hb⟩;have f:=Blk.B ((Blk.new w 47 #[.slice aj x0.length am,.slice ak x1.length an,.slice al x2.length ao,int i64 x3,int i64 x4]).alloc (.cells #[.slice ap y0.length au,.slice aq y1.length av,.slice ar y2.length aw,int i64 y3,int i64 y4] 47)) hb zV;have c:=Blk.B (Blk.new (w.alloc (.cells #[.slice aj x0.length am,.slice ak x1.length an,.slice al x2.length ao,int i64 x3,int i64 x4] 47)) 47 #[.slice ap y0.length au,.slice aq y1.length av,.slice ar y2.length aw,int i64 y3,int i64 y4]) hb zX;rw[World.size_alloc]at c;have x:=zq f;have y:=zq c;have z:=Blk.cell f 1;have aa:=Blk.cell c 1;have r:=Blk.cell f 2;have s:=Blk.cell c 2;have h:=Blk.cell f 3;have l:=Blk.cell c 3;have i:=Blk.cell f 4;have n:=Blk.cell c 4;simp only[List.getElem?_toArray,List.getElem?_cons_zero,List.getElem?_cons_succ]at z aa r s h l i n;clear f c;have ab:=p.o;clear p;have p:=zq ((ab _ _).T (hb.M (ab _ _).size));clear hb ab;by_cases q:x0=y0
 case neg =>
  have u:rb=false:=by rw[<-RB.o];exact aG (fun e => q (congrArg AP.queues e))
  subst u;rw[aG q];clear q;go_wp2
  go_ret
  exact⟨rfl,p.o⟩
 rw[aN q];subst q;go_wp2_with fail
 refine(KA _ _ x1 y1 _ _ _ (rSl.B Ag.L Ag.X a0.o p.o) (rSl.B Ag.L Ag.X a3.o p.o)).M ?_;rintro e u1 ⟨rfl,hb⟩;have f:=Blk.B x.o hb x.o.lt;have c:=Blk.B y.o hb y.o.lt;clear x y z aa r s h l i n;have x:=zq f;have y:=zq c;have r:=Blk.cell f 2;have s:=Blk.cell c 2;have h:=Blk.cell f 3;have l:=Blk.cell c 3;have i:=Blk.cell f 4;have n:=Blk.cell c 4;simp only[List.getElem?_toArray,List.getElem?_cons_zero,List.getElem?_cons_succ]at r s h l i n;clear f c;replace p:=zq (p.o.T (hb.M (p.o).size));clear hb
 by_cases q:x1=y1
 case neg =>
  have u:rb=false:=by rw[<-RB.o];exact aG (fun e => q (congrArg AP.aside e))
  subst u;rw[aG q];clear q;go_wp2
  go_ret
  exact⟨rfl,p.o⟩
 rw[aN q];subst q;go_wp2_with fail
 refine(PL _ _ x2 y2 _ _ _ (rSl.B AB.L AB.X a1.o p.o) (rSl.B AB.L AB.X a4.o p.o)).M ?_;rintro e u2 ⟨rfl,hb⟩;have f:=Blk.B x.o hb x.o.lt;have c:=Blk.B y.o hb y.o.lt;clear x y r s h l i n;have x:=zq f;have y:=zq c;have h:=Blk.cell f 3;have l:=Blk.cell c 3;have i:=Blk.cell f 4;have n:=Blk.cell c 4;simp only[List.getElem?_toArray,List.getElem?_cons_zero,List.getElem?_cons_succ]at h l i n;clear f c;replace p:=zq (p.o.T (hb.M (p.o).size));clear hb
 by_cases q:x2=y2
 case neg =>
  have u:rb=false:=by rw[<-RB.o];exact aG (fun e => q (congrArg AP.answers e))
  subst u;rw[aG q];clear q;go_wp2
  go_ret
  exact⟨rfl,p.o⟩
 rw[aN q];subst q;by_cases q:x3=y3
 case neg =>
  have u:rb=false:=by rw[<-RB.o];exact aG (fun e => q (congrArg AP.turn e))
  subst u;have hq:(x3 != y3)=true:=bne_iff_ne.2 q;clear q;go_wp2
  go_ret
  exact⟨rfl,p.o⟩
 subst q;by_cases q:x4=y4
 case neg =>
  have u:rb=false:=by rw[<-RB.o];exact aG (fun e => q (congrArg AP.next e))
  subst u;have hq:(x4 != y4)=true:=bne_iff_ne.2 q;clear q;go_wp2
  go_ret
  exact⟨rfl,p.o⟩
 subst q;have u:rb=true:=by rw[<-RB.o];exact aN rfl
 subst u;go_wp2
 go_ret
 exact⟨rfl,p.o⟩
theorem SW(d1 d2 a1 a2 f1 f2 w)(h1:AF w f1 a1 d1)(h2:AF w f2 a2 d2):
  Calls prog 31 #[.agg a1,.agg a2] w (zN (.bool (decide (d1=d2))) w):=by
 obtain⟨x0,x1,x2,x3,x4,x5,x6⟩:=d1;obtain⟨y0,y1,y2,y3,y4,y5,y6⟩:=d2;dsimp only[AF]at h1 h2;obtain⟨bx,bz,b0,bt,bu,bv,e,-,a6,a7,a8,a9,ba,bb,bc,bd,be,bw,br,ag,ah,ai⟩:=h1;subst e;obtain⟨b5,b6,b7,b1,b2,b3,e,-,bi,bj,bk,bl,bm,bn,bo,bp,bq,b4,bs,aj,ak,al⟩:=h2;subst e;have a3:=zq ag;obtain⟨an,aq,rfl,-⟩:=rSl.head ag;clear ag;have a4:=zq ah;obtain⟨ao,ar,rfl,-⟩:=rSl.head ah;clear ah;have a5:=zq ai;obtain⟨ap,au,rfl,-⟩:=rSl.head ai;clear ai;have bf:=zq aj;obtain⟨av,ay,rfl,-⟩:=rSl.head aj;clear aj;have bg:=zq ak;obtain⟨aw,az,rfl,-⟩:=rSl.head ak;clear ak;have bh:=zq al;obtain⟨ax,a0,rfl,-⟩:=rSl.head al;clear al;obtain⟨rb,am⟩:∃rb,decide ((⟨x0,x1,x2,x3,x4,x5,x6⟩:As)=⟨y0,y1,y2,y3,y4,y5,y6⟩)=rb:=zJ;rw[am];have RB:=zq am;clear am;have BB:=zq (show∀o1 o2:Obj,Below w w ((w.alloc o1).alloc o2)from fun o1 o2 =>((aC _ _).alloc (aD _) _).alloc zX _);go_enter func31,ntmps31
 go_wp2_with fail
 refine(SU x0 y0 _ _ _ _ _ ⟨rfl,rfl,a6,a7,a8,a9,ba,bb,bc,bd,be⟩ ⟨rfl,rfl,bi,bj,bk,bl,bm,bn,bo,bp,bq⟩).M ?_;rintro e u0 ⟨rfl,hb⟩;have h:=Blk.B ((Blk.new w 42 #[x0.g,x0.c,x0.data,x0.p,x0.rows,x0.cap,x0.b,x0.q,x0.t,.slice an x1.length aq,.slice ao x2.length ar,.slice ap x3.length au,int i64 x4,int i64 x5,.bool x6]).alloc (.cells #[y0.g,y0.c,y0.data,y0.p,y0.rows,y0.cap,y0.b,y0.q,y0.t,.slice av y1.length ay,.slice aw y2.length az,.slice ax y3.length a0,int i64 y4,int i64 y5,.bool y6] 42)) hb zV;have f:=Blk.B (Blk.new (w.alloc (.cells #[x0.g,x0.c,x0.data,x0.p,x0.rows,x0.cap,x0.b,x0.q,x0.t,.slice an x1.length aq,.slice ao x2.length ar,.slice ap x3.length au,int i64 x4,int i64 x5,.bool x6] 42)) 42 #[y0.g,y0.c,y0.data,y0.p,y0.rows,y0.cap,y0.b,y0.q,y0.t,.slice av y1.length ay,.slice aw y2.length az,.slice ax y3.length a0,int i64 y4,int i64 y5,.bool y6]) hb zX;rw[World.size_alloc]at f;have K1:=zq h;have K2:=zq f;have ad:=Blk.cell h 9;have ae:=Blk.cell f 9;have ab:=Blk.cell h 10;have ac:=Blk.cell f 10;have z:=Blk.cell h 11;have aa:=Blk.cell f 11;have i:=Blk.cell h 12;have r:=Blk.cell f 12;have l:=Blk.cell h 13;have x:=Blk.cell f 13;have n:=Blk.cell h 14;have y:=Blk.cell f 14;simp only[List.getElem?_toArray,List.getElem?_cons_zero,List.getElem?_cons_succ]at ad ae ab ac z aa i r l x n y;clear h f;have af:=BB.o;clear BB;have BB:=zq ((af _ _).T (hb.M (af _ _).size));clear hb af;by_cases q:x0=y0
 case neg =>
  have e1:rb=false:=by rw[<-RB.o];exact aG (fun e => q (congrArg As.s e))
  subst e1;rw[aG q];clear q;go_wp2
  go_ret
  exact⟨rfl,BB.o⟩
 rw[aN q];subst q;go_wp2_with fail
 refine(PN _ _ x1 y1 _ _ _ (rSl.B (Ai.L Ar.L) (Ai.X Ar.X) a3.o BB.o) (rSl.B (Ai.L Ar.L) (Ai.X Ar.X) bf.o BB.o)).M ?_;rintro e u1 ⟨rfl,hb⟩;have h:=Blk.B K1.o hb K1.o.lt;have f:=Blk.B K2.o hb K2.o.lt;clear K1 K2 ad ae ab ac z aa i r l x n y;have K1:=zq h;have K2:=zq f;have ab:=Blk.cell h 10;have ac:=Blk.cell f 10;have z:=Blk.cell h 11;have aa:=Blk.cell f 11;have i:=Blk.cell h 12;have r:=Blk.cell f 12;have l:=Blk.cell h 13;have x:=Blk.cell f 13;have n:=Blk.cell h 14;have y:=Blk.cell f 14;simp only[List.getElem?_toArray,List.getElem?_cons_zero,List.getElem?_cons_succ]at ab ac z aa i r l x n y;clear h f;replace BB:=zq (BB.o.T (hb.M (BB.o).size));clear hb
 by_cases q:x1=y1
 case neg =>
  have e1:rb=false:=by rw[<-RB.o];exact aG (fun e => q (congrArg As.g e))
  subst e1;rw[aG q];clear q;go_wp2
  go_ret
  exact⟨rfl,BB.o⟩
 rw[aN q];subst q;go_wp2_with fail
 refine(LU _ _ x2 y2 _ _ _ (rSl.B Aw.L Aw.X a4.o BB.o) (rSl.B Aw.L Aw.X bg.o BB.o)).M ?_;rintro e u2 ⟨rfl,hb⟩;have h:=Blk.B K1.o hb K1.o.lt;have f:=Blk.B K2.o hb K2.o.lt;clear K1 K2 ab ac z aa i r l x n y;have K1:=zq h;have K2:=zq f;have z:=Blk.cell h 11;have aa:=Blk.cell f 11;have i:=Blk.cell h 12;have r:=Blk.cell f 12;have l:=Blk.cell h 13;have x:=Blk.cell f 13;have n:=Blk.cell h 14;have y:=Blk.cell f 14;simp only[List.getElem?_toArray,List.getElem?_cons_zero,List.getElem?_cons_succ]at z aa i r l x n y;clear h f;replace BB:=zq (BB.o.T (hb.M (BB.o).size));clear hb
 by_cases q:x2=y2
 case neg =>
  have e1:rb=false:=by rw[<-RB.o];exact aG (fun e => q (congrArg As.on e))
  subst e1;rw[aG q];clear q;go_wp2
  go_ret
  exact⟨rfl,BB.o⟩
 rw[aN q];subst q;go_wp2_with fail
 refine(SV _ _ x3 y3 _ _ _ (rSl.B AE.L AE.X a5.o BB.o) (rSl.B AE.L AE.X bh.o BB.o)).M ?_;rintro e u3 ⟨rfl,hb⟩;have h:=Blk.B K1.o hb K1.o.lt;have f:=Blk.B K2.o hb K2.o.lt;clear K1 K2 z aa i r l x n y;have K1:=zq h;have K2:=zq f;have i:=Blk.cell h 12;have r:=Blk.cell f 12;have l:=Blk.cell h 13;have x:=Blk.cell f 13;have n:=Blk.cell h 14;have y:=Blk.cell f 14;simp only[List.getElem?_toArray,List.getElem?_cons_zero,List.getElem?_cons_succ]at i r l x n y;clear h f;replace BB:=zq (BB.o.T (hb.M (BB.o).size));clear hb
 by_cases q:x3=y3
 case neg =>
  have e1:rb=false:=by rw[<-RB.o];exact aG (fun e => q (congrArg As.v e))
  subst e1;rw[aG q];clear q;go_wp2
  go_ret
  exact⟨rfl,BB.o⟩
 rw[aN q];subst q;by_cases q:x4=y4
 case neg =>
  have e1:rb=false:=by rw[<-RB.o];exact aG (fun e => q (congrArg As.u e))
  subst e1;have hq:(x4 != y4)=true:=bne_iff_ne.2 q;clear q;go_wp2
  go_ret
  exact⟨rfl,BB.o⟩
 subst q;by_cases q:x5=y5
 case neg =>
  have e1:rb=false:=by rw[<-RB.o];exact aG (fun e => q (congrArg As.stop e))
  subst e1;have hq:(x5 != y5)=true:=bne_iff_ne.2 q;clear q;go_wp2
  go_ret
  exact⟨rfl,BB.o⟩
 subst q;by_cases q:x6=y6
 case neg =>
  have e1:rb=false:=by rw[<-RB.o];exact aG (fun e => q (congrArg As.down e))
  subst e1;have hq:(!x6 == y6)=true:=by simpa using q
  clear q;go_wp2
  go_ret
  exact⟨rfl,BB.o⟩
 subst q;have e1:rb=true:=by rw[<-RB.o];exact aN rfl
 subst e1;go_wp2
 go_ret
 exact⟨rfl,BB.o⟩
theorem PM(d1 d2 br bs f1 f2 w)(h1:AG w f1 br d1)(h2:AG w f2 bs d2):
  Calls prog 8 #[.agg br,.agg bs] w (zN (.bool (decide (d1=d2))) w):=by
 obtain⟨f,i⟩:=d1;obtain⟨y0,y1⟩:=d2;dsimp only[AG]at h1 h2;obtain⟨c0,c1,c2,c3,c4,c5,cu,cv,cw,cx,cy,cz,e,-,b3,b4,b5,b6,b7,b8,b9,ca,cb,cc,bl,bm,bn,a7,a8,a9,ba,bb,bc⟩:=h1;subst e;obtain⟨dc,dd,de,df,dg,dh,c6,c7,c8,c9,da,db,e,-,cj,ck,cl,cm,cn,co,cp,cq,cr,ct,bo,bp,bq,bd,be,bf,bg,bh,bi⟩:=h2;subst e;have bw:=zq a7;obtain⟨r,z,rfl,-⟩:=rSl.head a7;clear a7;have bx:=zq a8;obtain⟨x,aa,rfl,-⟩:=rSl.head a8;clear a8;have bz:=zq a9;obtain⟨y,ab,rfl,-⟩:=rSl.head a9;clear a9;have b0:=zq ba;obtain⟨au,ax,rfl,-⟩:=rSl.head ba;clear ba;have b1:=zq bb;obtain⟨av,ay,rfl,-⟩:=rSl.head bb;clear bb;have b2:=zq bc;obtain⟨aw,az,rfl,-⟩:=rSl.head bc;clear bc;have cd:=zq bd;obtain⟨ac,af,rfl,-⟩:=rSl.head bd;clear bd;have ce:=zq be;obtain⟨ad,ag,rfl,-⟩:=rSl.head be;clear be;have cf:=zq bf;obtain⟨ae,ah,rfl,-⟩:=rSl.head bf;clear bf;have cg:=zq bg;obtain⟨a0,a3,rfl,-⟩:=rSl.head bg;clear bg;have ch:=zq bh;obtain⟨a1,a4,rfl,-⟩:=rSl.head bh;clear bh;have ci:=zq bi;obtain⟨a2,a5,rfl,-⟩:=rSl.head bi;clear bi;obtain⟨rb,bk⟩:∃rb,decide ((⟨f,i⟩:AX)=⟨y0,y1⟩)=rb:=zJ;rw[bk];have RB:=zq bk;clear bk;have l:=zq (show∀o1 o2:Obj,Below w w ((w.alloc o1).alloc o2)from fun o1 o2 =>((aC _ _).alloc (aD _) _).alloc zX _);have bt:=Blk.range ((Blk.new w 49 #[f.s.g,f.s.c,f.s.data,f.s.p,f.s.rows,f.s.cap,f.s.b,f.s.q,f.s.t,.slice r f.g.length z,.slice x f.on.length aa,.slice y f.v.length ab,f.u,f.stop,.bool f.down,.slice au i.queues.length ax,.slice av i.aside.length ay,.slice aw i.answers.length az,i.turn,i.next]).alloc (.cells #[y0.s.g,y0.s.c,y0.s.data,y0.s.p,y0.s.rows,y0.s.cap,y0.s.b,y0.s.q,y0.s.t,.slice ac y0.g.length af,.slice ad y0.on.length ag,.slice ae y0.v.length ah,y0.u,y0.stop,.bool y0.down,.slice a0 y1.queues.length a3,.slice a1 y1.aside.length a4,.slice a2 y1.answers.length a5,y1.turn,y1.next] 49)) 0 (zD f r f.g.length z x f.on.length aa y f.v.length ab) rfl;have bj:=Blk.range (Blk.new (w.alloc (.cells #[f.s.g,f.s.c,f.s.data,f.s.p,f.s.rows,f.s.cap,f.s.b,f.s.q,f.s.t,.slice r f.g.length z,.slice x f.on.length aa,.slice y f.v.length ab,f.u,f.stop,.bool f.down,.slice au i.queues.length ax,.slice av i.aside.length ay,.slice aw i.answers.length az,i.turn,i.next] 49)) 49 #[y0.s.g,y0.s.c,y0.s.data,y0.s.p,y0.s.rows,y0.s.cap,y0.s.b,y0.s.q,y0.s.t,.slice ac y0.g.length af,.slice ad y0.on.length ag,.slice ae y0.v.length ah,y0.u,y0.stop,.bool y0.down,.slice a0 y1.queues.length a3,.slice a1 y1.aside.length a4,.slice a2 y1.answers.length a5,y1.turn,y1.next]) 0 (zD y0 ac y0.g.length af ad y0.on.length ag ae y0.v.length ah) rfl;rw[World.size_alloc]at bj;have bu:=zq bt;have bv:=zq bj;clear bt bj;go_enter func8,ntmps8
 go_wp2_with (first|(refine aE rfl 42 (.tmp 5) rfl w 0 rfl _ _ bu.o underlying42 rfl zY ?_)|(refine aE rfl 42 (.tmp 7) rfl (w.heap.size+1) 0 rfl _ _ bv.o underlying42 rfl zY ?_))
 refine(SW f y0 _ _ _ _ _ ⟨_,_,_,_,_,_,rfl,rfl,b3,b4,b5,b6,b7,b8,b9,ca,cb,cc,bl,rSl.B (Ai.L Ar.L) (Ai.X Ar.X) bw.o (l.o _ _),rSl.B Aw.L Aw.X bx.o (l.o _ _),rSl.B AE.L AE.X bz.o (l.o _ _)⟩ ⟨_,_,_,_,_,_,rfl,rfl,cj,ck,cl,cm,cn,co,cp,cq,cr,ct,bo,rSl.B (Ai.L Ar.L) (Ai.X Ar.X) cd.o (l.o _ _),rSl.B Aw.L Aw.X ce.o (l.o _ _),rSl.B AE.L AE.X cf.o (l.o _ _)⟩).M ?_;rintro e u0 ⟨rfl,hb⟩;have n:=Blk.B ((Blk.new w 49 #[f.s.g,f.s.c,f.s.data,f.s.p,f.s.rows,f.s.cap,f.s.b,f.s.q,f.s.t,.slice r f.g.length z,.slice x f.on.length aa,.slice y f.v.length ab,f.u,f.stop,.bool f.down,.slice au i.queues.length ax,.slice av i.aside.length ay,.slice aw i.answers.length az,i.turn,i.next]).alloc (.cells #[y0.s.g,y0.s.c,y0.s.data,y0.s.p,y0.s.rows,y0.s.cap,y0.s.b,y0.s.q,y0.s.t,.slice ac y0.g.length af,.slice ad y0.on.length ag,.slice ae y0.v.length ah,y0.u,y0.stop,.bool y0.down,.slice a0 y1.queues.length a3,.slice a1 y1.aside.length a4,.slice a2 y1.answers.length a5,y1.turn,y1.next] 49)) hb zV;have h:=Blk.B (Blk.new (w.alloc (.cells #[f.s.g,f.s.c,f.s.data,f.s.p,f.s.rows,f.s.cap,f.s.b,f.s.q,f.s.t,.slice r f.g.length z,.slice x f.on.length aa,.slice y f.v.length ab,f.u,f.stop,.bool f.down,.slice au i.queues.length ax,.slice av i.aside.length ay,.slice aw i.answers.length az,i.turn,i.next] 49)) 49 #[y0.s.g,y0.s.c,y0.s.data,y0.s.p,y0.s.rows,y0.s.cap,y0.s.b,y0.s.q,y0.s.t,.slice ac y0.g.length af,.slice ad y0.on.length ag,.slice ae y0.v.length ah,y0.u,y0.stop,.bool y0.down,.slice a0 y1.queues.length a3,.slice a1 y1.aside.length a4,.slice a2 y1.answers.length a5,y1.turn,y1.next]) hb zX;rw[World.size_alloc]at h;have K1:=zq n;have K2:=zq h;have ai:=Blk.cell n 15;have an:=Blk.cell h 15;have aj:=Blk.cell n 16;have ao:=Blk.cell h 16;have ak:=Blk.cell n 17;have ap:=Blk.cell h 17;have al:=Blk.cell n 18;have aq:=Blk.cell h 18;have am:=Blk.cell n 19;have ar:=Blk.cell h 19;simp only[List.getElem?_toArray,List.getElem?_cons_zero,List.getElem?_cons_succ]at ai an aj ao ak ap al aq am ar;clear n h;have a6:=l.o;clear l;have l:=zq ((a6 _ _).T (hb.M (a6 _ _).size));clear hb a6;by_cases q:f=y0
 case neg =>
  have e1:rb=false:=by rw[<-RB.o];exact aG (fun e => q (congrArg AX.world e))
  subst e1;rw[aG q];clear q;go_wp2
  go_ret
  exact⟨rfl,l.o⟩
 rw[aN q];subst q;go_wp2_with fail
 refine(eqDesk_c i y1 _ _ _ _ _ ⟨_,_,_,_,_,_,rfl,rfl,bm,bn,rSl.B (Ai.L Ag.L) (Ai.X Ag.X) b0.o l.o,rSl.B Ag.L Ag.X b1.o l.o,rSl.B AB.L AB.X b2.o l.o⟩ ⟨_,_,_,_,_,_,rfl,rfl,bp,bq,rSl.B (Ai.L Ag.L) (Ai.X Ag.X) cg.o l.o,rSl.B Ag.L Ag.X ch.o l.o,rSl.B AB.L AB.X ci.o l.o⟩).M ?_;rintro e u1 ⟨rfl,hb⟩;have n:=Blk.B K1.o hb K1.o.lt;have h:=Blk.B K2.o hb K2.o.lt;clear K1 K2 ai an aj ao ak ap al aq am ar;have K1:=zq n;have K2:=zq h;clear n h;replace l:=zq (l.o.T (hb.M (l.o).size));clear hb
 by_cases q:i=y1
 case neg =>
  have e1:rb=false:=by rw[<-RB.o];exact aG (fun e => q (congrArg AX.desk e))
  subst e1;rw[aG q];clear q;go_wp2
  go_ret
  exact⟨rfl,l.o⟩
 rw[aN q];subst q;have e1:rb=true:=by rw[<-RB.o];exact aN rfl
 subst e1;go_wp2
 go_ret
 exact⟨rfl,l.o⟩
theorem AL.B {lo w w' f}(h:AL lo w f)(hb:Below w w w')(c:FJ f w):AL lo w' f:=h.wrote (Bn.of_below (fs:=f) hb) c
theorem Blk.drew_ {w g t}{cs:Array Value}(h:Blk w g t cs):Blk w.drew g t cs:=h
theorem Ak.alloc_ {α k E}{R:AC α}(e:BE R)(c:BN R){w base v}{ds:List α}{fs o}(h:Ak k E R w base v ds fs):Ak k E R (w.alloc o) base v ds fs:=h.B e c ((aC _ _).alloc (aD _) _)
theorem Ak.drew_ {α k E}{R:AC α}(c:BE R){w base v}{ds:List α}{fs}(h:Ak k E R w base v ds fs):Ak k E R w.drew base v ds fs:=h.keep c (fun _ _ => rfl) (fun _ _ => rfl)
theorem Ac {w W:World}(h:Below w w W)(o):Below w w (W.alloc o):=h.alloc h.size o
theorem Am {w W:World}(h:Below w w W):Below w w W.drew:=⟨h.os,h.tape,h.output,h.size,h.block⟩
theorem Ft {w W:World}(h:Below w.drew.heap.size w.drew W):Below w w W:=⟨h.os,h.tape,h.output,h.size,h.block⟩
theorem Ak.far_ {α k E}{R:AC α}(c:BE R){w base v}{ds:List α}{fs}(h:Ak k E R w base v ds fs)(hm:AL base w fs){p:Addr}(i:p.block<base)(u):Ak k E R (w.setCell p u) base v ds fs :=
 h.keep c (fun b hb => Below.heap_setCell w p u b (by have:=(h.lt b hb).1;omega)) (fun a f => World.cell?_setCell_other _ _ _ _ (fun e => by have:=hm.from_ a f;rw[<-e]at this;omega))
theorem AL.appended {α k E}{R:AC α}(y:BN R){wr W x base v}{ds:List α}{fs f h:List Addr}(p:Ak k E R wr base v ds fs)(hm:AL base wr fs)(u:Below wr wr W)(n:AL wr W f)(o:FJ f W)(s:h.Sublist f)(r:W.grownBy x v.ownBlock)(l:base<=wr.heap.size):AL base x (fs ++ h):=by
 have q:=p.there y;refine⟨?_,fun a c => ?_,fun a c => ?_⟩
 ·unfold List.Nodup;refine List.pairwise_append.2 ⟨hm.nodup,s.nodup n.nodup,fun a c b hb e => ?_⟩;subst e;have:=q a c;have:=n.from_ a (s.subset hb);omega
 ·rcases List.mem_append.1 c with c|c
  ·exact hm.from_ a c
  ·exact aZ l (n.from_ a (s.subset c))
 ·rcases List.mem_append.1 c with c|c
  ·rw[World.frozen?_of_block (r.block a.block (aH (q a c) u.size) (fun e => p.far a c e.symm)),u.frozen (q a c)];exact hm.free a c
  ·have i:=s.subset c;rw[World.frozen?_of_block (r.block a.block (o a i) (fun e => by have:=(p.lt _ e.symm).2;have:=n.from_ a i;omega))];exact n.free a i
theorem I9 {α}{k:Nat}{E}{R:AC α}{P:Program}(t ty:TypeId)(z)(bytes:Nat)(ht:P.underlying t=some (.slice E))(hi:(P.info? E).map (fun i =>(i.zero,i.size,i.bytes))=some (some z,k,bytes))(ad:z.cells.size=k)(hk:0<k)(hR:BE R)(o:BN R)(hO:∀w f cs d,R w f cs d->∀u,u∈cs->u.oneCell'=true)(hb:bytes<=1000){wr s W base v}{ds:List α}{fs}(x:Ak k E R wr base v ds fs)(hm:AL base wr fs)(l:base<=wr.heap.size)(hn:ds.length+1<=1000000000){us f}{d:α}{b}(B2:Below wr wr s)(hr:R s f us d)(hf:AL wr s f)(ac:us.length=k)(y:Below s s W)(p:Blk W b E us.toArray):
  ∃r w',(Builtin.append_ #[t,t] ty #[v,.slice (some (zE b)) 1 1]).run P W= .ok r w'/\∃A c h,r= .slice A (ds.length+1) c/\Ak k E R w' base r (ds ++ [d]) (fs ++ h)/\AL base w' (fs ++ h)/\Below base wr w'/\wr.heap.size<=w'.heap.size:=by
 have n:Below wr wr W:=B2.T (y.M B2.size);have ab:Ak k E R W base v ds fs:=x.B hR o n;have q:R W f us d:=AC.B hR o hr y;have aa:AL wr W f:=hf.B y (o _ _ _ _ hr);obtain⟨r,w',q1,h,q2,q3,q4,-⟩:=Ak.appendOne (P:=P) t ty z bytes ht hi ad hk hR o hO base v ds fs ab b us f d ac p q (fun a ha e => by
  have:=(x.lt _ e).2;have:=hf.from_ a ha;omega) hn hb (aZ l n.size)
 obtain⟨A,c,e,-⟩:=q2.length;exact⟨r,w',q1,A,c,h,by rw[e];simp,q2,AL.appended o x hm n aa (o _ _ _ _ q) q3 q4 l,Below.grown (n.M l) q4 (aZ l n.size) (fun k hk =>(x.lt k hk).1),aZ n.size q4.size⟩
def E2(cs:Array Value):Nat->List Value->Array Value
 |_,[] => cs
 |o,v :: r => E2 (cs.setIfInBounds o v) (o+1) r
theorem Blk.setCells_ {g t}:∀(c:List Value) (o:Nat) (w:World) (cs:Array Value),Blk w g t cs->Blk (w.setCells g o c) g t (E2 cs o c)
 | [],_,_,_,h => h
 |v :: r,o,_,_,h => Blk.setCells_ r (o+1) _ _ (Blk.set_ h o v)
theorem F6:∀(f:List Value) (o:Nat) (cs:Array Value),o+f.length<=cs.size->∀i,(E2 cs o f)[i]? =if i<o then cs[i]? else if i<o+f.length then f[i - o]? else cs[i]?
 | [],o,cs,_,i => by simp[E2];intro c e;omega
 |v :: r,o,cs,h,i => by
  simp only[List.length_cons]at h;rw[E2,F6 r (o+1) _ zV i];rcases Nat.lt_trichotomy i o with c|c|c
  ·rw[aM zZ,aM c,Array.getElem?_setIfInBounds_ne zZ]
  ·subst c;rw[aM zZ,aJ zZ,aM zX,Array.getElem?_setIfInBounds_self_of_lt zZ];simp
  ·rw[aJ (show¬i<o+1 from by omega),aJ (show¬i<o from by omega),List.length_cons,show o+(r.length+1)=o+1+r.length from by omega,Array.getElem?_setIfInBounds_ne zZ];by_cases e:i<o+1+r.length
   ·rw[aM e,aM e,show i - o=(i - (o+1))+1 from by omega,List.getElem?_cons_succ]
   ·rw[aJ e,aJ e]
theorem RM(c:List Value)(cs:Array Value)(h:cs.size=c.length):E2 cs 0 c=c.toArray:=by
 apply Array.ext_getElem?
 intro i;rw[F6 c 0 cs zZ i,aJ zZ,Nat.zero_add];by_cases e:i<c.length
 ·rw[aM e];simp
 ·rw[aJ e,Array.getElem?_eq_none zZ];simp;omega
theorem Blk.laid {w g t}{cs:Array Value}(h:Blk w g t cs)(c:List Value)(e:cs.size=c.length):Blk (w.setCells g 0 c) g t c.toArray:=by
 have:=Blk.setCells_ c 0 w cs h;rwa [RM c cs e]at this
theorem Blk.farS {g:Nat}{t}{cs:Array Value}:∀(c:List Value) (b o:Nat) (w:World),g≠b->Blk w g t cs->Blk (w.setCells b o c) g t cs
 | [],_,_,_,_,h => h
 |v :: r,b,o,_,hg,h => Blk.farS r b (o+1) _ hg (Blk.far h hg v)
theorem Below.setCells_ {B:Nat}{c}:∀(e:List Value) (b o:Nat) (w:World),B<=b->Below B c w->Below B c (w.setCells b o e)
 | [],_,_,_,_,h => h
 |v :: r,b,o,_,hb,h => Below.setCells_ r b (o+1) _ hb (h.setCell hb v)
theorem Ak.farS {α k E}{R:AC α}(c:BE R){base:Nat}{v}{ds:List α}{fs:List Addr}:∀(e:List Value) (b o:Nat) (w:World),b<base->Ak k E R w base v ds fs->AL base w fs->Ak k E R (w.setCells b o e) base v ds fs
 | [],_,_,_,_,h,_ => h
 |u :: r,b,o,_,hb,h,hm => Ak.farS c r b (o+1) _ hb (Ak.far_ c h hm (p:=⟨b,o,none⟩) hb u) (AL.set_ hm _ u)
theorem Blk.there {w g t}{cs:Array Value}(h:Blk w g t cs)(n:Nat)(hn:n<=cs.size):w.there g 0 n:=fun j c => by
 rw[Nat.zero_add];refine⟨?_,h.frozen j⟩;rw[h.cell,Array.getElem?_eq_getElem zZ];rfl
theorem Ai.ones {α k}{R:AC α}:∀(w:World) (f:List Addr) (cs:List Value) (d:List α),Ai k R w f cs d->∀u,u∈cs->u.oneCell'=true:=by
 rintro w f cs d ⟨v,rfl,h⟩ u e;obtain⟨A,c,rfl,-⟩:=rSl.head h;simp only[List.mem_cons,List.not_mem_nil,or_false]at e;subst e;rfl
theorem Cf(P:Program)(t e:TypeId)(z)(k bytes:Nat)(q:P.underlying t=some (.slice e))(c:(P.info? e).map (fun i =>(i.zero,i.size,i.bytes))=some (some z,k,bytes))(n:Nat)(hn:n<=1048576)(f:bytes<=1000)(w:World):
  (Instr.makeSlice t (int i64 (n:Int)) (int i64 (n:Int))).run P w= .ok (.slice (some (zE w)) n n) (w.alloc (.cells (madeCells z.cells (n * k)) e)):=by
 obtain⟨i,o,r,p,hb⟩:=info_parts c;have h:bytes * n<=1048576000:=by
  calc bytes * n<=1000 * 1048576:=Nat.mul_le_mul f hn
   _=1048576000:=by decide
 have l:(i.bytes:Int) * (n:Int)<=281474976710656:=by
  rw[hb];have:((bytes * n:Nat):Int)<=1048576000:=Int.ofNat_le.2 h;rw[Int.natCast_mul]at this;omega
 have:=run_make w t e i z q o r .i64 .i64 (n:Int) (n:Int) zZ zZ l zZ;rw[p]at this;simpa using this
theorem rSl.ofRow {α}{k:Nat}{R:AC α}{w:World}{g n:Nat}{ds:List α}(f:List (List Value))(l:List (List Addr))(hn:ds.length=n)(hm:n<=9223372036854775807)(h1:f.length=n)(p:l.length=n)(h:∀i,(o:i<n)->(f[i]' zZ).length =k/\(∀q,(hq:q<(f[i]' zZ).length)->w.cell? ⟨g,i * k+q,none⟩=some (f[i]' zZ)[q])/\R w (l[i]' zZ) (f[i]' zZ) (ds[i]' zZ)):
  rSl k R w (Bf (zE g) (n * k) ++ l.flatten) (.slice (some (zE g)) n n) ds:=by
 subst hn;refine⟨some (zE g),ds.length,rfl,aD _,hm,.inr ⟨(zE g),f,l,rfl,h1,p,rfl,fun i o => ?_⟩⟩;obtain⟨a,b,c⟩:=h i o;refine⟨by omega,by omega,a,fun q hq => ?_,c⟩;have e:((zE g):Addr).add (i * k+q)=⟨g,i * k+q,none⟩:=CO g _;rw[e];exact b q hq
theorem Ek {g n:Nat}{a:Addr}(h:a∈Bf (zE g) n):a.block=g:=by
 obtain⟨q,_,rfl⟩:=Bt.1 h;exact Of _ _
theorem Blk.wrote {w w' fs g t}{cs:Array Value}(h:Blk w g t cs)(hw:Bn fs w w')(c:∀a,a∈fs->a.block≠g):Blk w' g t cs:=(hw.block g h.lt c).T h
theorem AL.left {lo w}{f g:List Addr}(h:AL lo w (f ++ g)):AL lo w f:=⟨(List.nodup_append.1 h.nodup).1,fun a c => h.from_ a (bM _ c),fun a c => h.free a (bM _ c)⟩
theorem AL.right {lo w}{f g:List Addr}(h:AL lo w (f ++ g)):AL lo w g:=⟨(List.nodup_append.1 h.nodup).2.1,fun a c => h.from_ a (bO _ c),fun a c => h.free a (bO _ c)⟩
theorem AL.apart {lo w}{f g:List Addr}(h:AL lo w (f ++ g))(a:Addr)(c:a∈f)(hb:a∈g):False:=(List.nodup_append.1 h.nodup).2.2 a c a hb rfl
theorem Ep {fs:List Addr}(c)(b o:Nat)(w)(h:∀a,a∈fs->a.block≠b):AV fs w (w.setCells b o c):=fun a e => World.cell?_setCells_out b c o w a (fun hb _ => absurd hb (h a e))
theorem Blk.rangeAll {w g t}{cs:List Value}(h:Blk w g t cs.toArray):w.rangeAt g 0 cs:=Blk.range h 0 cs zX
section
variable {α:Type} {k:Nat} {R:AC α} {w w':World} {H j:Nat} {T:TypeId} {ds:List α}
def CE(k:Nat)(R:AC α)(w:World)(H:Nat)(T:TypeId)(ds:List α)(j:Nat):Prop :=
 ∃cs:Array Value,Blk w H T cs/\cs.size=ds.length * k/\∀i,(h:i<ds.length)->i<j->∃c fk,c.length=k/\(∀q,q<k->cs[i * k+q]? =c[q]?)/\R w fk c ds[i]/\∀a,a∈fk->H<a.block
theorem CE.start {z:Array Value}(h:Blk w H T (madeCells z (ds.length * k))):CE k R w H T ds 0:=⟨_,h,size_madeCells _ _,fun _ _ h => absurd h (Nat.not_lt_zero _)⟩
theorem CE.lt(h:CE k R w H T ds j):H<w.heap.size:=by
 obtain⟨cs,c,-⟩:=h;exact c.lt
theorem CE.B(o:BE R)(n:BN R)(h:CE k R w H T ds j)(hb:Below w w w'):CE k R w' H T ds j:=by
 obtain⟨cs,c,r,h⟩:=h;refine⟨cs,c.B hb c.lt,r,fun i p q => ?_⟩;obtain⟨s,fk,e,f,l,h4⟩:=h i p q;exact⟨s,fk,e,f,AC.B o n l hb,h4⟩
theorem KI:∀(c:List Value) (o:Nat) (cs:Array Value),(E2 cs o c).size =cs.size
 | [],_,_ => rfl
 |v :: r,o,cs => by
  show(E2 (cs.setIfInBounds o v) (o+1) r).size =_
  rw[KI r];simp
theorem MS {n j k:Nat}(h:j<n):j * k+k<=n * k:=by
 calc j * k+k=(j+1) * k:=by rw[Nat.add_mul];omega
  _<=n * k:=Nat.mul_le_mul_right _ h
theorem CE.there(h:CE k R w H T ds j){i:Nat}(hi:i<ds.length):w.there H (i * k) k:=by
 obtain⟨cs,c,e,-⟩:=h;intro q hq;have:=MS (k:=k) hi;refine⟨?_,c.frozen _⟩;rw[c.cell,Array.getElem?_eq_getElem zZ];rfl
theorem CE.step(n:BE R)(h:CE k R w H T ds j)(hj:j<ds.length){us:List Value}{fk}(hu:us.length=k)(hr:R w fk us ds[j])(o:∀a,a∈fk->H<a.block):CE k R (w.setCells H (j * k) us) H T ds (j+1):=by
 obtain⟨cs,hk,hs,h⟩:=h;have p:=MS (k:=k) hj;refine⟨E2 cs (j * k) us,hk.setCells_ _ _ _,by rw[KI,hs],fun i y z => ?_⟩;by_cases e:i=j
 ·subst e;refine⟨us,fk,hu,fun q hq => ?_,n _ _ _ _ _ hr (Ep _ _ _ _ fun a f => by have:=o a f;omega),o⟩;rw[F6 _ _ _ zZ,aJ zZ,aM zZ,Nat.add_sub_cancel_left]
 ·obtain⟨l,c,r,s,u,h4⟩:=h i y zZ;refine⟨l,c,r,fun q hq => ?_,n _ _ _ _ _ u (Ep _ _ _ _ fun a f => by have:=h4 a f;omega),h4⟩;have x:i * k+q<j * k:=by have:=MS (k:=k) (show i<j by omega);omega
  rw[F6 _ _ _ zZ,aM x];exact s q hq
theorem CE.reads(h:CE k R w H T ds ds.length)(hm:ds.length<=9223372036854775807):∃fs,rSl k R w fs (.slice (some (zE H)) ds.length ds.length) ds/\∀a,a∈fs->H<=a.block:=by
 obtain⟨cs,y,hs,h⟩:=h;have u:∀i:Fin ds.length,∃p:List Value × List Addr,p.1.length=k/\(∀q,q<k->cs[i.val * k+q]? =p.1[q]?)/\R w p.2 p.1 ds[i.val]/\∀a,a∈p.2->H<a.block:=fun i => by
  obtain⟨us,fk,e,n,o,h4⟩:=h i.val i.isLt i.isLt;exact⟨(us,fk),e,n,o,h4⟩
 obtain⟨f,s⟩:=Classical.axiomOfChoice u;refine⟨_,rSl.ofRow ((List.finRange ds.length).map fun i =>(f i).1) ((List.finRange ds.length).map fun i =>(f i).2) rfl hm zX zX (fun i x => ?_),fun a c => ?_⟩
 ·simp only[bI,List.getElem_finRange,Fin.cast_mk];obtain⟨e,n,o,-⟩:=s ⟨i,x⟩;refine⟨e,fun q hq => ?_,o⟩;rw[y.cell,n q zZ,aO hq]
 ·rcases List.mem_append.1 c with c|c
  ·rw[Ek c];exact aD _
  ·obtain⟨l,z,r⟩:=List.mem_flatten.1 c;obtain⟨i,-,rfl⟩:=List.mem_map.1 z;exact Nat.le_of_lt ((s i).2.2.2 a r)
end
def Iv {α:Type}(k:Nat)(R:AC α)(ds:List α)(w:World)(e:Ending)(w':World):Prop :=
 ∃A c fs,e= .returned (.slice A ds.length c)/\rSl k R w' fs (.slice A ds.length c) ds/\(∀a,a∈fs->w.heap.size<=a.block)/\Below w w w'
def I5 {α:Type}(R:AC α)(d:α)(w:World)(e:Ending)(w':World):Prop :=
 ∃cs fs,e= .returned (.agg cs.toArray)/\R w' fs cs d/\(∀a,a∈fs->w.heap.size<=a.block)/\Below w w w'
theorem It(v)(xs:List UInt8)(fs w)(h1:Ah w fs v xs)(c:xs.length<=1048576):
  Calls prog 139 #[v] w (Iv 1 Al xs w) :=
 (T9 v xs fs w h1 c).M fun e w' ⟨h,hb,i,_⟩ => by
  have:=Ah.of_blk i zZ;exact⟨some (zE w),xs.length,_,h,this,fun a f => by rw[Ek f];exact aD _,hb⟩
