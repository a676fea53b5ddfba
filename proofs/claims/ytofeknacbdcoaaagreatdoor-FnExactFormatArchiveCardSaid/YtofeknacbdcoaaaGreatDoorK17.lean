/- Part 17 of the proof. -/
import Derived.Test.YtofeknacbdcoaaaGreatDoorK16
import Derived.Test.YtofeknacbdcoaaaGreatDoorK12
import Derived.Test.YtofeknacbdcoaaaGreatDoorK11
import Derived.Test.YtofeknacbdcoaaaGreatDoorK09
import Derived.Test.YtofeknacbdcoaaaGreatDoorK00
import Derived.Test.YtofeknacbdcoaaaGreatDoorK08
import Derived.Maps.RangeWalk
set_option maxHeartbeats 8000000
set_option maxRecDepth 100000
set_option linter.unusedVariables false
set_option linter.unusedSimpArgs false
open Go.Proofs.Tryz
open Go.Value (int)
open Go.IntKind (i64)
namespace Go.Proofs.YtofeknacbdcoaaaGreatDoor
open Go.RowKit Go.Lib Go.Sort
theorem Below.via {a W c:World}(h:Below a a W)(b:Below W W c):Below a a c:=h.T (b.M h.size)
def Mw(e c f g:Nat)(m:Aj):List (List UInt8):=MC c f (BH m.delta (cau (8+(g - e)) m.group.toNat))
theorem PB(f c e g m):(Mw f c e g m).length =c+e:=IE _ _ _
theorem LA.shapeRun {w p fs d i l n c0 c1 c2 o r u}(h:LA w p fs d i l n c0 c1 c2 o r u)(f:Nat)(e:f=9):
  Sem.run prog (loadCellsFrom (zE p) 0 f #[]) w= .ok d.s w :=
 run_loadCellsFrom_list _ _ _ d.s f (by rw[e];rfl) (fun q v hq => by
  rw[Addr.add_lit];exact h.s q v hq)
theorem yK{p:Prop}(h:p:=by repeat(with_reducible first|assumption|exact aC _ _|apply Ac|apply Am)):p:=h
theorem added_k(ks:Nat)(af:ks=9)(zS:∀w,(Go.sizeOf 38).run prog w= .ok ks w)(aS:∀w,(isAgg 38).run prog w= .ok true w)(p fs d)(g:Nat)(m cs f w)(hw:AtW w p fs d)(z:d.s.sh.Ok)(hm:Af w f cs m)(ah:d.s.g<=g)(ai:(g:Int)<d.s.g+d.s.c)(aj:0<=m.group)(ak:m.group<d.s.g)(hd:(m.delta.length:Int)=4 * d.s.data):
  Calls prog 265 #[.pointer (some (zE p)),int i64 (g:Int),.agg cs] w (Gg (Mw d.s.g.toNat d.s.data.toNat d.s.p.toNat g m) w):=by
 obtain⟨b1,b2⟩:=z.g;obtain⟨b3,b4⟩:=z.c;obtain⟨b5,b6⟩:=z.data;obtain⟨b7,b8⟩:=z.p;obtain⟨⟨sg,sc,sd,ss,sr,x,sb,sq,ac⟩,gs,on,tp,an,st,dn⟩:=d;obtain⟨x0,x1,x2,x3,x4,x5,x6,x7,l⟩:=m;simp only[Bh.sh]at b1 b2 b3 b4 b5 b6 b7 b8 ah ai aj ak hd;obtain⟨i,rfl⟩:∃i:Nat,sg=i:=⟨sg.toNat,by omega⟩;obtain⟨nd,rfl⟩:∃nd:Nat,sd=nd:=⟨sd.toNat,by omega⟩;obtain⟨ns,rfl⟩:∃ns:Nat,ss=ns:=⟨ss.toNat,by omega⟩;obtain⟨mg,rfl⟩:∃mg:Nat,x4=mg:=⟨x4.toNat,by omega⟩;simp only[Mw,Int.toNat_natCast];have HM:=hm;dsimp only[Af]at hm;obtain⟨v0,v1,v2,g0,g1,g2,e,-,-,-,-,-,-,-,-,-,ab⟩:=hm;subst e;obtain⟨Ad,cd,rfl,-⟩:=rSl.head ab;obtain⟨h,y⟩:∃h,w.alloc (.cells #[int i64 x0,int i64 x1,.string x2,int i64 x3,int i64 (mg:Int),int i64 x5,v0,v1,.slice Ad l.length cd] 105)=h:=zJ;have hB:Below w w h:=by rw[<-y];exact(aC _ _).alloc (aD _) _
 have K:Blk h w 105 #[int i64 x0,int i64 x1,.string x2,int i64 x3,int i64 (mg:Int),int i64 x5,v0,v1,.slice Ad l.length cd]:=by rw[<-y];exact Blk.new w _ _
 have ae:=hw.B hB;have q:=zq (show∀W,Below h h W->(Sem.run prog (loadCellsFrom (zE p) 0 ks #[]) W= .ok #[int i64 (i:Int),int i64 sc,int i64 (nd:Int),int i64 (ns:Int),int i64 sr,int i64 x,int i64 sb,int i64 sq,int i64 ac] W/\W.cell? ⟨p,0,none⟩=some (int i64 (i:Int))/\W.cell? ⟨w.heap.size,8,none⟩=some (.slice Ad l.length cd)/\W.cell? ⟨w.heap.size,4,none⟩=some (int i64 (mg:Int)))from fun W hW => by
  obtain⟨A0,A1,A2,c0,c1,c2,f0,f1,f2,HC⟩:=(ae.B hW).cells;have K2:=K.B hW K.lt;exact⟨HC.shapeRun ks af,HC.n0,(K2.cell 8).T rfl,(K2.cell 4).T rfl⟩)
 have r:=zq (fun(W:World) => row_c ⟨(i:Int),sc,(nd:Int),(ns:Int),sr,x,sb,sq,ac⟩ W);unfold shV at r;simp only at r;have aa:=zq (fun(W:World) (hW:Below h h W) => Pe (.slice Ad l.length cd) l (cau (8+(g - i)) mg) g2 W (rSl.B Al.L Al.X (rSl.B Al.L Al.X ab hB) hW) zZ);obtain⟨C,hC⟩:∃C,cau (8+(g - i)) mg=C:=zJ;have ad:=zq (fun(W:World) => Oq mg (g - i) zZ zZ W);rw[hC]at aa ad⊢;have u:=CK l C;have n:=zq (fun(W w3:World) (A3:Option Addr) (c3:Nat) (f3:List Addr) (h3:Ah w3 f3 (.slice A3 l.length c3) (BH l C)) (hW:Below w3 w3 W) => encode_c nd ns (.slice A3 l.length c3) (BH l C) f3 W (rSl.B Al.L Al.X h3 hW) zZ zZ zZ (by rw[CK];omega));obtain⟨D,hD⟩:∃D,BH l C=D:=zJ;rw[hD]at aa n u⊢;obtain⟨E,hE⟩:∃E,MC nd ns D=E:=zJ;rw[hE]at n⊢;have ag:=zq u;have HB:=zq hB;have al:¬ks=0:=by omega
 have am:0<ks:=by omega
 have e1:IntKind.i64.wrap ((g:Int) - (i:Int))=((g - i:Nat):Int):=by rw[IntWalk.i64_in _ zZ];omega
 have q0:=(q.o h (aC _ _)).1;have q1:=(q.o h (aC _ _)).2.1;have q2:=(q.o h (aC _ _)).2.2.1;have q3:=(q.o h (aC _ _)).2.2.2;clear ae K hw HM ab hC hD hE u hB af;go_enter func265,ntmps265
 go_wp2_with fail
 try rw[y]
 clear y;go_region_held3 (fun W => Sem.run prog (loadCellsFrom (zE p) 0 ks #[]) W= .ok #[int i64 (i:Int),int i64 sc,int i64 (nd:Int),int i64 (ns:Int),int i64 sr,int i64 x,int i64 sb,int i64 sq,int i64 ac] W/\W.cell? ⟨p,0,none⟩=some (int i64 (i:Int))/\W.cell? ⟨w.heap.size,8,none⟩=some (.slice Ad l.length cd)/\W.cell? ⟨w.heap.size,4,none⟩=some (int i64 (mg:Int)))
  (exact q.o _ yK)
  (first
   |(go_at_call 232;refine(r.o _).M ?_;rintro e w2 ⟨rfl,b2⟩;have B2:=Below.via (a:=h) yK b2)
   |(go_at_call 283;refine(ad.o _).M ?_;rintro e w' ⟨rfl,rfl⟩)
   |(go_at_call 282;refine(aa.o _ yK).M ?_;rintro e w3 ⟨A3,c3,f3,rfl,r3,m3,b3⟩;rw[ag.o]at r3⊢;have B3:=Below.via (a:=h) yK b3)
   |(go_at_call 281;refine(n.o _ w3 _ _ _ r3 (by first|exact aC _ _|exact b2|exact Ft b2)).M ?_;rintro e w4 ⟨A4,c4,f4,rfl,r4,b4⟩;have B4:=Below.via (a:=h) yK b4))
 all_goals
  go_wp2
  go_ret
  exact⟨A4,c4,f4,rfl,r4,HB.o.T (B4.M HB.o.size)⟩
theorem added_c(p fs d)(g:Nat)(m cs f w)(hw:AtW w p fs d)(n:d.s.sh.Ok)(hm:Af w f cs m)(e:d.s.g<=g)(h:(g:Int)<d.s.g+d.s.c)(i:0<=m.group)(l:m.group<d.s.g)(o:(m.delta.length:Int)=4 * d.s.data):
  Calls prog 265 #[.pointer (some (zE p)),int i64 (g:Int),.agg cs] w (Gg (Mw d.s.g.toNat d.s.data.toNat d.s.p.toNat g m) w) :=
 added_k 9 rfl sizeOf38 isAgg38 p fs d g m cs f w hw n hm e h i l o
def Cu(c:Ba)(row:Nat):Cj:=c.blocks.getD row ⟨0,[]⟩
def Df(row:Nat)(c:Ba):List UInt8:=if c.wiped=true then []else(Cu c row).bytes
def AD(d:As)(g:Nat):List Ba:=d.g.getD g []
def BK(d:As)(g row:Nat):List (List UInt8):=(AD d g).map (Df row)
theorem Na {c:Ba}{row:Nat}(h:row<c.blocks.length):Cu c row=c.blocks[row]:=by simp[Cu,aP,h]
theorem PJ {d:As}{g:Nat}(h:g<d.g.length):AD d g=d.g[g]:=by simp[AD,aP,h]
structure NV (w:World) (p:Nat) (d:As) (g:Nat) (a0:Addr) (c0 b0 o0:Nat) (A1:Option Addr) (c1:Nat) (f1:List Addr):Prop where
 n9:w.cell? ⟨p,9,none⟩=some (.slice (some a0) d.g.length c0)
 lp:p<w.heap.size
 pl:a0.add g=⟨b0,o0,none⟩
 l0:b0<w.heap.size
 k0:w.cell? ⟨b0,o0,none⟩=some (.slice A1 (AD d g).length c1)
 rd:rSl 2 Ar w f1 (.slice A1 (AD d g).length c1) (AD d g)
theorem AtW.grp {w p fs d}(h:AtW w p fs d){g:Nat}(hg:g<d.g.length):∃u c0 y o0 q c1 r,NV w p d g u c0 y o0 q c1 r:=by
 obtain⟨A0,q,A2,c0,c1,c2,f0,r,f2,l⟩:=h.cells;obtain⟨A',c',e,hc,hm,hx⟩:=rSl.at_ (Ai.X Ar.X) zW l.rgr;injection e with e1 _ e3
 subst e1 e3;obtain⟨x,b,o,cs,fk,rfl,c⟩:=hx g hg;obtain⟨ve,rfl,f⟩:=c.reads;obtain⟨s,z,rfl,-⟩:=rSl.head f;have i:=c.place;rw[Nat.mul_one]at i;have n:=c.cell 0 zX;simp only[bC,aW]at n;rw[<-PJ hg]at n f;exact⟨x,_,b,o,s,z,fk,l.gr,l.lt,i,c.lt,n,f⟩
theorem NV.B {w w' p d g i c0 c e f c1 l}(h:NV w p d g i c0 c e f c1 l)(hb:Below w w w'):NV w' p d g i c0 c e f c1 l :=
 ⟨(hb.cell (p:=⟨p,9,none⟩) h.lp).T h.n9,aH h.lp hb.size,h.pl,aH h.l0 hb.size,(hb.cell (p:=⟨c,e,none⟩) h.l0).T h.k0,rSl.B Ar.L Ar.X h.rd hb⟩
structure NU (w:World) (a1:Addr) (k row:Nat) (dr:Ba) (b1 o1:Nat) (a2:Addr) (c2 b2 o2:Nat) (A3:Option Addr) (c3:Nat) (f3:List Addr):Prop where
 p1:a1.add (k * 2)=⟨b1,o1,none⟩
 l1:b1<w.heap.size
 y0:w.cell? ⟨b1,o1,none⟩=some (.bool dr.wiped)
 y1:w.cell? ⟨b1,o1+1,none⟩=some (.slice (some a2) dr.blocks.length c2)
 p2:a2.add (row * 2)=⟨b2,o2,none⟩
 l2:b2<w.heap.size
 z0:w.cell? ⟨b2,o2,none⟩=some (int i64 (Cu dr row).stamp)
 z1:w.cell? ⟨b2,o2+1,none⟩=some (.slice A3 (Cu dr row).bytes.length c3)
 rd:Ah w f3 (.slice A3 (Cu dr row).bytes.length c3) (Cu dr row).bytes
theorem NU.B {w w' n k row q c f o c2 e i l c3 r}(h:NU w n k row q c f o c2 e i l c3 r)(hb:Below w w w'):NU w' n k row q c f o c2 e i l c3 r :=
 ⟨h.p1,aH h.l1 hb.size,(hb.cell (p:=⟨c,f,none⟩) h.l1).T h.y0,(hb.cell (p:=⟨c,f+1,none⟩) h.l1).T h.y1,h.p2,aH h.l2 hb.size,(hb.cell (p:=⟨e,i,none⟩) h.l2).T h.z0,(hb.cell (p:=⟨e,i+1,none⟩) h.l2).T h.z1,h.rd.B hb⟩
theorem LR {w f1 u n c1}{ds:List Ba}(h:rSl 2 Ar w f1 (.slice u n c1) ds){k row:Nat}(hk:k<ds.length)(hr:row<ds[k].blocks.length):∃x b1 o1 y c2 q s l c3 f3,u=some x/\NU w x k row ds[k] b1 o1 y c2 q s l c3 f3:=by
 obtain⟨A',c',e,hc,hm,hx⟩:=rSl.at_ Ar.X zW h;injection e with e1 _ e3
 subst e1 e3;obtain⟨z,b,o,cs,fk,rfl,f⟩:=hx k hk;obtain⟨v0,g0,e,-,hb⟩:=f.reads;subst e;have y0:=f.cell 0 zX;have y1:=f.cell 1 zX;simp only[bC,aW,bF]at y0 y1;obtain⟨A2,c2,rfl,ac,ae,r⟩:=rSl.at_ AK.X zW hb;obtain⟨p,q,s,aa,ab,rfl,c⟩:=r row hr;obtain⟨v1,g1,e2,-,-,i⟩:=c.reads;subst e2;have z0:=c.cell 0 zX;have z1:=c.cell 1 zX;simp only[bC,aW,bF]at z0 z1;obtain⟨l,c3,rfl,-⟩:=rSl.head i;rw[<-Na hr]at z0 z1 i;exact⟨z,b,o,p,c2,q,s,l,c3,g1,rfl,f.place,f.lt,y0,y1,c.place,c.lt,z0,z1,i⟩
theorem yL{p:Prop}(h:p:=by repeat(with_reducible first|exact aC _ _|apply Ac)):p:=h
theorem Oh(p fs d)(g row:Nat)(w)(h:AtW w p fs d)(hg:g<d.g.length)(hr:∀dr,dr∈AD d g->row<dr.blocks.length)(hn:(AD d g).length<=1000):
  Calls prog 230 #[.pointer (some (zE p)),int i64 (g:Int),int i64 (row:Int)] w fun e w' =>∃A c fo,e= .returned (.slice A (BK d g row).length c)/\Ak 1 61 (Ai 1 Al) w' w (.slice A (BK d g row).length c) (BK d g row) fo/\(∀a,a∈fo->a.block<w.heap.size)/\Below w w w':=by
 obtain⟨a0,c0,b0,o0,A1,c1,f1,x⟩:=h.grp hg;have ao:=zq x;have ae:=zq hr;obtain⟨L,hL⟩:∃L,AD d g=L:=zJ;have am:BK d g row=L.map (Df row):=by unfold BK;rw[hL]
 have n9:=x.n9;have pl:=x.pl;have k0:=x.k0;have lp:=x.lp;have l0:=x.l0;have ad:=x.rd;rw[hL]at ae hn k0 ad;rw[am];have ak:=zq ad;have aq:(g:Int)<(d.g.length:Int):=by omega
 clear h hr am ad x hL ao;go_enter func230,ntmps230
 have HE:=zq (Ak.emptyL (w:=w));have ah:=zq (Ac (aC w w) (.cells #[] 61));go_wp2
 go_loopw [19,7,9] (fun i o _ wr =>∃(k:Nat) (A:Option Addr) (c3:Nat) (fo:List Addr),k<=L.length/\i=k/\o= .slice A k c3/\Hid (Ak 1 61 (Ai 1 Al) wr w o ((L.map (Df row)).take k) fo)/\Hid (∀a,a∈fo->a.block<w.heap.size)/\Hid (Below w w wr)) (fun i _ _ _ => L.length - (intOf i).toNat)
 ·exact⟨0,_,0,[],by omega,rfl,rfl,HE.o,(show∀a,_ from fun a l => by cases l),ah.o⟩
 ·obtain⟨k,A,c3,fo,hk,rfl,rfl,HO,HF,HB⟩:=hrel;clear HE ah;have aa:=zq HB.o.size;by_cases u:k<L.length
  ·obtain⟨a1,b1,o1,a2,c2,b2,o2,A3,c4,f3,rfl,ab⟩:=LR (row:=row) ak.o u (ae.o _ (aT u));have s:=ab.B HB.o;have p1:=s.p1;have l1:=s.l1;have y0:=s.y0;have y1:=s.y1;have p2:=s.p2;have l2:=s.l2;have z1:=s.z1;have aj:=zq s.rd;have ap:row<L[k].blocks.length:=ae.o _ (aT u);have ag:(L.map (Df row)).take k ++ [Df row L[k]] =(L.map (Df row)).take (k+1):=by
    rw[aK (by rw[bH];exact u)];simp
   have y:((L.map (Df row)).take k).length =k:=by rw[aX,bH];omega
   have ai:=zq (show∀a,a∈f3->a.block<w.heap.size from fun a l => rSl.there Al.X ab.rd a l);have q:=zq y;have r:Df row L[k] =if L[k].wiped =true then []else(Cu L[k] row).bytes:=rfl
   obtain⟨wp,an⟩:∃wp,L[k].wiped =wp:=zJ;obtain⟨B,hB⟩:∃B,(Cu L[k] row).bytes =B:=zJ;obtain⟨m,hm⟩:∃m,L[k].blocks.length =m:=zJ;rw[an]at y0 r;rw[hB]at z1 aj r;rw[hm]at y1 ap;rw[r]at ag;have al:=zq ag;have ar:(row:Int)<(m:Int):=by omega
   have gz:=aa.o;clear s ab ag y r an hB hm;cases wp with
   |true =>
    go_wp2_with (at_builtin;refine An rfl (.tmp 25) (.tmp 26) 156 rfl _ _ zT zT (Tryz.addAny (wr:=wr) (ve:=.slice none 0 0) (f:=[]) (L:=[]) HO.o aa.o (by rw[q.o];omega) yL (by exact Blk.new1 _ _ _ _) (Ah.empty zZ) (fun a l => by cases l)) ?_;rintro v6 w6 ⟨A6,c6,h6,rfl,o6,B6,e6,s6⟩;have ac:=zq o6;have z:=zq B6;have af:=zq s6;clear o6 B6 s6)
    have n:=al.o;rw[aM rfl]at n;have h9:=ac.o;rw[q.o,n]at h9;clear n;go_roundw
    ·exact⟨k+1,A6,c6,_,by omega,by go_num,rfl,h9,(show∀a,_ from fun a l => by
     rcases List.mem_append.1 l with l|l
     ·exact HF.o a l
     ·cases af.o.subset l),HB.o.T z.o⟩
    ·simp[intOf];omega
   |false =>
    go_wp2_with (at_builtin;refine An rfl (.tmp 28) (.tmp 35) 156 rfl _ _ zT zT (Tryz.addAny (wr:=wr) (ve:=.slice A3 B.length c4) (f:=f3) (L:=B) HO.o aa.o (by rw[q.o];omega) yL (by exact Blk.new1 _ _ _ _) (aj.o.B yL) (fun a l => .inl (ai.o a l))) ?_;rintro v6 w6 ⟨A6,c6,h6,rfl,o6,B6,e6,s6⟩;have ac:=zq o6;have z:=zq B6;have af:=zq s6;clear o6 B6 s6)
    have n:=al.o;rw[aJ zX]at n;have h9:=ac.o;rw[q.o,n]at h9;clear n;go_roundw
    ·exact⟨k+1,A6,c6,_,by omega,by go_num,rfl,h9,(show∀a,_ from fun a l => by
     rcases List.mem_append.1 l with l|l
     ·exact HF.o a l
     ·exact ai.o a (af.o.subset l)),HB.o.T z.o⟩
    ·simp[intOf];omega
  ·obtain rfl:k=L.length:=by omega
   go_wp2
   go_ret
   have ho:=HO.o;rw[bB (by rw[bH];exact aD _)]at ho;exact⟨A,c3,fo,by rw[bH];rfl,by rw[bH];exact ho,HF.o,HB.o⟩
def Hr(L:List Ba)(k:Nat):Nat:=(L.take k).countP Ba.wiped
theorem Ns {L:List Ba}{k:Nat}(h:k<L.length):Hr L (k+1)=Hr L k+if L[k].wiped =true then 1 else 0:=by
 unfold Hr;rw[aK h,List.countP_append];simp[List.countP_cons]
def LM(d:As)(g:Nat):Bool:=decide (d.s.p<(Hr (AD d g) (AD d g).length:Int))
theorem l7Dead_c(p fs d)(g:Nat)(w)(h:AtW w p fs d)(hg:g<d.g.length)(hr:∀dr,dr∈AD d g->0<dr.blocks.length)(hn:(AD d g).length<=1000):
  Calls prog 184 #[.pointer (some (zE p)),int i64 (g:Int)] w (zM (.bool (LM d g)) w):=by
 obtain⟨a0,c0,b0,o0,A1,c1,f1,u⟩:=h.grp hg;obtain⟨ad,ae,af,ag,ah,ai,aj,ak,al,HC⟩:=h.cells;have n3:=HC.n3;obtain⟨L,hL⟩:∃L,AD d g=L:=zJ;have hd:LM d g=decide (d.s.p<(Hr (AD d g) (AD d g).length:Int)):=rfl;rw[hL]at hd;have c:=zq hd;have y:=zq hr;have n9:=u.n9;have pl:=u.pl;have k0:=u.k0;have f:=u.rd;rw[hL]at y hn k0 f;have x:=zq f;have ac:(g:Int)<(d.g.length:Int):=by omega
 obtain⟨rb,aa⟩:∃rb,LM d g=rb:=zJ;rw[aa]at c⊢;clear h hr hd f u hL HC aa;go_enter func184,ntmps184
 go_wp2
 go_loop [5,6] (fun n i =>∃(k q:Nat),k<=L.length/\i=k/\n=q/\q<=k/\Hid (q=Hr L k)) (fun _ i => L.length - (intOf i).toNat)
 ·exact⟨0,0,by omega,rfl,rfl,by omega,(show 0=_ by simp[Hr])⟩
 ·obtain⟨k,q,hk,rfl,rfl,hq,HQ⟩:=hrel;by_cases l:k<L.length
  ·obtain⟨a1,b1,o1,a2,c2,b2,o2,A3,c4,f3,rfl,HD⟩:=LR (row:=0) x.o l (y.o _ (aT l));have p1:=HD.p1;have l1:=HD.l1;have y0:=HD.y0;have r:=Ns l;obtain⟨wp,ab⟩:∃wp,L[k].wiped =wp:=zJ;rw[ab]at y0 r;have z:=zq r;clear HD r ab;cases wp with
   |true =>
    go_wp2
    go_round
    ·exact⟨k+1,q+1,by omega,by go_num,by go_num,by omega,(show _=_ by rw[z.o,<-HQ.o];rfl)⟩
    ·simp[intOf];omega
   |false =>
    go_wp2
    go_round
    ·exact⟨k+1,q,by omega,by go_num,rfl,by omega,(show _=_ by rw[z.o,<-HQ.o];rfl)⟩
    ·simp[intOf];omega
  ·obtain rfl:k=L.length:=by omega
   by_cases hc:d.s.p<(q:Int)
   ·have e1:rb=true:=by rw[c.o,<-HQ.o];exact aN hc
    subst e1;go_wp2
    go_ret
    exact⟨rfl,rfl⟩
   ·have e1:rb=false:=by rw[c.o,<-HQ.o];exact aG hc
    subst e1;have am:decide (d.s.p<(q:Int))=false:=aG hc;go_wp2
    go_ret
    exact⟨rfl,rfl⟩
theorem Ty(p fs d)(g row nd:Nat)(w)(h:AtW w p fs d)(hg:g<d.g.length)(hr:∀dr,dr∈AD d g->row<dr.blocks.length)(ak:d.s.data=nd)(ap:1<=nd)(aq:nd<=3)(hn:(AD d g).length<=nd+2)(hO:Dz (BK d g row) 4):
  Calls prog 186 #[.pointer (some (zE p)),int i64 (g:Int),int i64 (row:Int)] w (Iw (DE nd (BK d g row)) w):=by
 obtain⟨a0,c0,b0,o0,A1,c1,f1,HG⟩:=h.grp hg;obtain⟨aw,ax,ay,az,a3,a4,a5,a6,a7,HC⟩:=h.cells;have n2:=HC.n2;rw[ak]at n2;have ad:=zq hr;obtain⟨L,hL⟩:∃L,AD d g=L:=zJ;have ai:BK d g row=L.map (Df row):=by unfold BK;rw[hL]
 have n9:=HG.n9;have pl:=HG.pl;have k0:=HG.k0;have lp:=HG.lp;have l0:=HG.l0;have ac:=HG.rd;rw[hL]at ad hn k0 ac;rw[ai]at hO⊢;have an:=zq hO;have ah:=zq ac;have au:(g:Int)<(d.g.length:Int):=by omega
 have HE:=zq (Ak.emptyL (w:=w));have af:=zq (Ac (aC w w) (.cells #[] 61));clear h hr ai ac HG hL HC hO ak;go_enter func186,ntmps186
 go_wp2
 go_loopw [9,8] (fun i o wr =>∃(k:Nat) (A:Option Addr) (c3:Nat) (fo:List Addr),k<=L.length/\i=k/\o= .slice A k c3/\Hid (Ak 1 61 (Ai 1 Al) wr w o ((L.map (Df row)).take k) fo)/\Hid (Below w w wr)) (fun i _ _ => L.length - (intOf i).toNat)
 ·exact⟨0,_,0,[],by omega,rfl,rfl,HE.o,af.o⟩
 ·obtain⟨k,A,c3,fo,hk,rfl,rfl,HO,r⟩:=hrel;clear HE af;have c:=zq r.o.size;have j9:=(r.o.cell (p:=⟨p,9,none⟩) lp).T n9;have j2:=(r.o.cell (p:=⟨p,2,none⟩) lp).T n2;have j0:=(r.o.cell (p:=⟨b0,o0,none⟩) l0).T k0;have a9:p<wr.heap.size:=aH lp c.o;have a8:b0<wr.heap.size:=aH l0 c.o;by_cases x:k<L.length
  ·obtain⟨a1,b1,o1,a2,c2,b2,o2,A3,c4,f3,rfl,aa⟩:=LR (row:=row) ah.o x (ad.o _ (aT x));have u:=aa.B r.o;have p1:=u.p1;have l1:=u.l1;have y0:=u.y0;have y1:=u.y1;have p2:=u.p2;have l2:=u.l2;have z1:=u.z1;have ag:=zq u.rd;have ar:row<L[k].blocks.length:=ad.o _ (aT x);have l:(L.map (Df row)).take k ++ [Df row L[k]] =(L.map (Df row)).take (k+1):=by
    rw[aK (by rw[bH];exact x)];simp
   have y:((L.map (Df row)).take k).length =k:=by rw[aX,bH];omega
   have am:=zq (show∀a,a∈f3->a.block<w.heap.size from fun a ha => rSl.there Al.X aa.rd a ha);have n:=zq y;have q:Df row L[k] =if L[k].wiped =true then []else(Cu L[k] row).bytes:=rfl
   obtain⟨wp,al⟩:∃wp,L[k].wiped =wp:=zJ;obtain⟨B,hB⟩:∃B,(Cu L[k] row).bytes =B:=zJ;obtain⟨m,hm⟩:∃m,L[k].blocks.length =m:=zJ;rw[al]at y0 q;rw[hB]at z1 ag q;rw[hm]at y1 ar;rw[q]at l;have av:(row:Int)<(m:Int):=by omega
   clear u aa y q al hB hm;cases wp with
   |true =>
    rw[aM rfl]at l;have ae:=zq l;clear l;go_wp2_with (at_builtin;refine An rfl (.tmp 34) (.tmp 35) 156 rfl _ _ zT zT (Tryz.addAny (wr:=wr) (ve:=.slice none 0 0) (f:=[]) (L:=[]) HO.o c.o (by rw[n.o];omega) yL (by exact Blk.new _ _ _) (Ah.empty zZ) (fun a ha => by cases ha)) ?_;rintro v6 w6 ⟨A6,c6,h6,rfl,o6,B6,e6,s6⟩;have ab:=zq o6;have z:=zq B6;have ao:=zq s6;clear o6 B6 s6)
    have h9:=ab.o;rw[n.o,ae.o]at h9;go_roundw
    ·exact⟨k+1,A6,c6,_,by omega,by go_num,rfl,h9,r.o.T z.o⟩
    ·simp[intOf];omega
   |false =>
    rw[aJ zX]at l;have ae:=zq l;clear l;go_wp2_with (at_builtin;refine An rfl (.tmp 37) (.tmp 53) 156 rfl _ _ zT zT (Tryz.addAny (wr:=wr) (ve:=.slice A3 B.length c4) (f:=f3) (L:=B) HO.o c.o (by rw[n.o];omega) yL (by exact Blk.new _ _ _) (ag.o.B yL) (fun a ha => .inl (am.o a ha))) ?_;rintro v6 w6 ⟨A6,c6,h6,rfl,o6,B6,e6,s6⟩;have ab:=zq o6;have z:=zq B6;have ao:=zq s6;clear o6 B6 s6)
    have h9:=ab.o;rw[n.o,ae.o]at h9;go_roundw
    ·exact⟨k+1,A6,c6,_,by omega,by go_num,rfl,h9,r.o.T z.o⟩
    ·simp[intOf];omega
  ·obtain rfl:k=L.length:=by omega
   have ho:=HO.o;rw[bB (by rw[bH];exact aD _)]at ho;obtain⟨gr,aj,-⟩:=ho.reads;have HC:=zq (L8 nd (.slice A L.length c3) (L.map (Df row)) (gr ++ fo) wr (by have:=aj;simpa using this) ap aq (by rw[bH];exact hn) an.o);obtain⟨X,hX⟩:∃X,DE nd (L.map (Df row))=X:=zJ;rw[hX]at HC;have HX:=zq hX;clear aj ho hX;go_wp2_with fail
   refine HC.o.M ?_;rintro e w2 (⟨D,A2,c2,f2,rfl,rfl,r2,m2,b2⟩|⟨rfl,rfl,b2⟩)
   ·obtain⟨R2,M2,B2⟩:=zI r2 m2 b2;clear r2 m2 b2;go_wp2
    go_ret2
    exact .inl ⟨D,A2,c2,f2,HX.o,rfl,R2.o,M2.o.M c.o,r.o.T (B2.o.M c.o)⟩
   ·have B2:=zq b2;clear b2;go_wp2
    go_ret2
    exact .inr ⟨HX.o,rfl,r.o.T (B2.o.M c.o)⟩
end Go.Proofs.YtofeknacbdcoaaaGreatDoor
namespace Go.Proofs.YtofeknacbdcoaaaGreatDoor
open Go.RowKit Go.Sort
theorem PQ(p fs d)(g:Nat)(w)(h:AtW w p fs d)(hg:g<d.g.length)(hn:(AD d g).length<=1000000):
  Calls prog 28 #[.pointer (some (zE p)),int i64 (g:Int)] w (H9 (DZ (AD d g) (AD d g).length) w):=by
 obtain⟨a0,c0,b0,o0,A1,c1,f1,u⟩:=h.grp hg;obtain⟨f,c⟩:∃f,w.heap.size=f:=zJ;obtain⟨W1,q⟩:∃W1,w.alloc (.cells #[] 2)=W1:=zJ;have aa:Below f w W1:=by rw[<-q,<-c];exact Ac (aC _ _) _
 have z1:W1.heap.size=f+1:=by rw[<-q,<-c];simp
 have ah:=zq (show Ak 1 2 Aw W1 f (.slice (some (zE f)) 0 0) [] []from by
  rw[<-q,<-c];exact Ak.start ⟨rfl,.inr ⟨w.heap.size,0,#[],rfl,aD _,Blk.new w _ _,aD _,by unfold maxLen;omega,rfl,rfl⟩⟩)
 have n:=u.B (by rw[c];exact aa:Below w w W1);obtain⟨L,hL⟩:∃L,AD d g=L:=zJ;have n9:=n.n9;have pl:=n.pl;have k0:=n.k0;have lp:=n.lp;have l0:=n.l0;have ab:=u.rd;obtain⟨a4,a3,a5,aq⟩:=zH (show p<f by rw[<-c];exact u.lp) (show b0<f by rw[<-c];exact u.l0) u.n9 u.k0;rw[hL]at hn k0 ab aq;obtain⟨A',c',ev,hc,hm,hx⟩:=rSl.at_ Ar.X zW ab;injection ev with av aw ax
 subst av ax;have HX:=zq hx;have a1:(g:Int)<(d.g.length:Int):=by omega
 obtain⟨ap,au,y,ag⟩:=zH aa z1 c hn;rw[hL];clear h u n ab hx aw hL aa z1 hm;go_enter func28,ntmps28
 go_wp2_with fail
 try simp only[q,c]
 clear q c;go_loopw [17,5] (fun ix ov wx =>∃(k c2:Nat) (A2:Option Addr) (ds:List Int),k<=L.length/\ix=k/\ov= .slice A2 ds.length c2/\Hid (ds=DZ L k)/\Hid (Ak 1 2 Aw wx f (.slice A2 ds.length c2) ds [])/\Hid (Below f w wx)/\Hid (f<wx.heap.size)) (fun ix _ _ => L.length - (intOf ix).toNat)
 ·exact⟨0,0,some (zE f),[],by omega,rfl,rfl,rfl,ah.o,ap.o,(show f<_ by have:=au.o;omega)⟩
 ·clear ah;obtain⟨k,c2,A2,ds,hk,rfl,rfl,l,HO,HB,af⟩:=hrel;by_cases aj:k<L.length
  ·obtain⟨ad,b3,o3,a6,f3,rfl,r⟩:=HX.o k aj;have i:=r.B Ar.L (show Below w w wr by rw[y.o];exact HB.o);have a2:=i.place;have az:b3<wr.heap.size:=i.lt;obtain⟨v0,g1,e,-,al⟩:=i.reads;obtain⟨Ab,cb,rfl,-⟩:=rSl.head al;obtain⟨x,an⟩:∃x,L[k] =x:=zJ;have ac:=NK aj;have ai:=(Ks L k).1;rw[an]at ac e;subst e;obtain⟨nb,ak⟩:∃nb,x.blocks.length=nb:=zJ;rw[ak]at i;have q0:wr.cell? ⟨b3,o3,none⟩=some (.bool x.wiped):=i.cell 0 zX;have q1:wr.cell? ⟨b3,o3+1,none⟩=some (.slice Ab nb cb):=i.cell 1 zX;have a7:(k:Int)<(L.length:Int):=by omega
   have z:=zq ac;have ar:=zq ai;have ay:=af.o;obtain⟨wp,am⟩:∃wp,x.wiped=wp:=zJ;rw[am]at q0 z;have b6:Below wr wr (wr.alloc (.cells #[.bool wp,.slice Ab nb cb] 110)):=Ac (aC _ _) _;have s:=zq b6;clear i r al ac an am ak ai;cases wp with
   |true =>
    have b7:Below wr wr ((wr.alloc (.cells #[.bool true,.slice Ab nb cb] 110)).alloc (.cells #[int i64 (k:Int)] 2)):=Ac b6 _;have ae:=zq b7;have ao:=zq (IT (x:=(k:Int)) (HO.o.B Aw.L Aw.X b7) (by unfold okI;have:=ag.o;omega) (by have:=l.o;have:=ag.o;have:=ar.o;rw[l.o];omega) (by have:=b7.size;omega) (Blk.new1 wr (.cells #[.bool true,.slice Ab nb cb] 110) 2 #[int i64 (k:Int)]));clear b6 b7 ay;go_wp2_with (at_builtin;refine An rfl (.tmp 24) (.tmp 26) 25 rfl _ _ zT zT ao.o ?_;rintro v8 w8 ⟨A8,c8,rfl,o8,b8,s8,k8,j8⟩;have O8:=zq o8;have B8:=zq b8;have S8:=zq s8;clear o8 b8 s8 k8 j8)
    go_roundw
    ·have h7:=ae.o.size;have hg:=af.o;have s8:=S8.o;have o8:=O8.o;have e:(ds ++ [(k:Int)]).length =ds.length+1:=by simp
     rw[<-e]at o8⊢;exact⟨k+1,c8,A8,ds ++ [(k:Int)],by omega,by go_num,rfl,(show _=_ by rw[z.o,l.o,aM rfl]),o8,HB.o.T ((ae.o.M zZ).T B8.o),(show f<_ by omega)⟩
    ·simp[intOf];omega
   |false =>
    clear b6;go_wp2
    go_roundw
    ·exact⟨k+1,c2,A2,ds,by omega,by go_num,rfl,(show _=_ by rw[z.o,l.o,aJ Bool.false_ne_true]),HO.o.B Aw.L Aw.X s.o,HB.o.T (s.o.M zZ),(show f<_ by have:=s.o.size;omega)⟩
    ·simp[intOf];omega
  ·obtain rfl:k=L.length:=by omega
   go_wp2
   go_ret
   have h1:=HO.o;rw[l.o]at h1;obtain⟨gs,r1,r2⟩:=h1.tell;refine⟨A2,c2,gs,?_,r1,?_,?_⟩
   ·show Ending.returned (.slice A2 ds.length c2)=_
    rw[l.o]
   ·rw[y.o];exact r2
   ·rw[y.o];exact HB.o
theorem Qk(p fs d)(g:Nat)(w)(h:AtW w p fs d)(hg:g<d.g.length)(hn:(AD d g).length<=1000000):
  Calls prog 16 #[.pointer (some (zE p)),int i64 (g:Int)] w (H9 (DZ (AD d g) (AD d g).length) w):=by
 obtain⟨a0,c0,b0,o0,A1,c1,f1,s⟩:=h.grp hg;obtain⟨f,c⟩:∃f,w.heap.size=f:=zJ;obtain⟨W1,n⟩:∃W1,w.alloc (.cells #[] 2)=W1:=zJ;have z:Below f w W1:=by rw[<-n,<-c];exact Ac (aC _ _) _
 have z1:W1.heap.size=f+1:=by rw[<-n,<-c];simp
 have aj:=zq (show Ak 1 2 Aw W1 f (.slice (some (zE f)) 0 0) [] []from by
  rw[<-n,<-c];exact Ak.start ⟨rfl,.inr ⟨w.heap.size,0,#[],rfl,aD _,Blk.new w _ _,aD _,by unfold maxLen;omega,rfl,rfl⟩⟩)
 have ae:=s.B (by rw[c];exact z:Below w w W1);obtain⟨L,hL⟩:∃L,AD d g=L:=zJ;have pl:=ae.pl;have aa:=s.rd;obtain⟨ah,ag,ar,af⟩:=zH (show p<f by rw[<-c];exact s.lp) (show b0<f by rw[<-c];exact s.l0) s.n9 s.k0;rw[hL]at hn aa af;obtain⟨A',c',ev,hc,hm,hx⟩:=rSl.at_ Ar.X zW aa;injection ev with av aw ax
 subst av ax;have HX:=zq hx;have a2:(g:Int)<(d.g.length:Int):=by omega
 obtain⟨ap,au,u,ai⟩:=zH z z1 c hn;rw[hL];clear h s ae aa hx aw hL z z1 hm;go_enter func16,ntmps16
 go_wp2_with fail
 try simp only[n,c]
 clear n c;go_loopw [5,6] (fun ov ix wx =>∃(k c2:Nat) (A2:Option Addr) (ds:List Int),k<=L.length/\ix=k/\ov= .slice A2 ds.length c2/\Hid (ds=DZ L k)/\Hid (Ak 1 2 Aw wx f (.slice A2 ds.length c2) ds [])/\Hid (Below f w wx)/\Hid (f<wx.heap.size)) (fun _ ix _ => L.length - (intOf ix).toNat)
 ·exact⟨0,0,some (zE f),[],by omega,rfl,rfl,rfl,aj.o,ap.o,(show f<_ by have:=au.o;omega)⟩
 ·clear aj;obtain⟨k,c2,A2,ds,hk,rfl,rfl,i,HO,HB,l⟩:=hrel;have n9:=(HB.o.cell (p:=⟨p,9,none⟩) ah.o).T ar.o;have k0:=(HB.o.cell (p:=⟨b0,o0,none⟩) ag.o).T af.o;have lp:p<wr.heap.size:=by have:=ah.o;have:=l.o;omega
  have l0:b0<wr.heap.size:=by have:=ag.o;have:=l.o;omega
  by_cases al:k<L.length
  ·obtain⟨ad,b3,o3,a4,f3,rfl,r⟩:=HX.o k al;have q:=r.B Ar.L (show Below w w wr by rw[u.o];exact HB.o);have a3:=q.place;have a1:b3<wr.heap.size:=q.lt;obtain⟨v0,g1,e,-,ay⟩:=q.reads;obtain⟨x,an⟩:∃x,L[k] =x:=zJ;have ab:=NK al;have ak:=(Ks L k).1;rw[an]at ab e;subst e;have q0:wr.cell? ⟨b3,o3,none⟩=some (.bool x.wiped):=q.cell 0 zX;have a5:(k:Int)<(L.length:Int):=by omega
   have y:=zq ab;have aq:=zq ak;have az:=l.o;obtain⟨wp,am⟩:∃wp,x.wiped=wp:=zJ;rw[am]at q0 y;clear q r ay ab an am ak;cases wp with
   |true =>
    have b7:Below wr wr (wr.alloc (.cells #[int i64 (k:Int)] 2)):=Ac (aC _ _) _;have ac:=zq b7;have ao:=zq (IT (x:=(k:Int)) (HO.o.B Aw.L Aw.X b7) (by unfold okI;have:=ai.o;omega) (by have:=i.o;have:=ai.o;have:=aq.o;rw[i.o];omega) (by have:=b7.size;omega) (Blk.new wr 2 #[int i64 (k:Int)]));clear b7 az;go_wp2_with (at_builtin;refine An rfl (.tmp 31) (.tmp 33) 25 rfl _ _ zT zT ao.o ?_;rintro v8 w8 ⟨A8,c8,rfl,o8,b8,s8,k8,j8⟩;have O8:=zq o8;have B8:=zq b8;have S8:=zq s8;clear o8 b8 s8 k8 j8)
    go_roundw
    ·have h7:=ac.o.size;have hg:=l.o;have s8:=S8.o;have o8:=O8.o;have e:(ds ++ [(k:Int)]).length =ds.length+1:=by simp
     rw[<-e]at o8⊢;exact⟨k+1,c8,A8,ds ++ [(k:Int)],by omega,by go_num,rfl,(show _=_ by rw[y.o,i.o,aM rfl]),o8,HB.o.T ((ac.o.M zZ).T B8.o),(show f<_ by omega)⟩
    ·simp[intOf];omega
   |false =>
    go_wp2
    go_roundw
    ·exact⟨k+1,c2,A2,ds,by omega,by go_num,rfl,(show _=_ by rw[y.o,i.o,aJ Bool.false_ne_true]),HO.o,HB.o,l.o⟩
    ·simp[intOf];omega
  ·obtain rfl:k=L.length:=by omega
   go_wp2
   go_ret
   have h1:=HO.o;rw[i.o]at h1;obtain⟨gs,r1,r2⟩:=h1.tell;refine⟨A2,c2,gs,?_,r1,?_,?_⟩
   ·show Ending.returned (.slice A2 ds.length c2)=_
    rw[i.o]
   ·rw[u.o];exact r2
   ·rw[u.o];exact HB.o
end Go.Proofs.YtofeknacbdcoaaaGreatDoor
namespace Go.Proofs.YtofeknacbdcoaaaGreatDoor
open Go.RowKit Go.Lib Go.Sort
def E0(nm:ByteArray)(r:Aj):Bool:=decide (r.kind=1/\r.name=nm)
def CU(recs:List Aj)(nm:ByteArray):Nat->Int
 |0 => -1
 |n+1 => if(recs[n]?).any (E0 nm)then(n:Int)else CU recs nm n
theorem Lt {recs:List Aj}{nm:ByteArray}{n:Nat}(h:n<recs.length)(hi:E0 nm recs[n] =true):CU recs nm (n+1)=(n:Int):=by
 unfold CU;rw[aO h];simp[hi]
theorem Kl {recs:List Aj}{nm:ByteArray}{n:Nat}(h:n<recs.length)(hi:E0 nm recs[n] =false):CU recs nm (n+1)=CU recs nm n:=by
 rw[CU,aO h];simp[hi]
theorem QY(recs)(nm:ByteArray)(k:Nat):∀n,CU recs nm n=(k:Int)->∃h:k<recs.length,E0 nm recs[k] =true
 |0,h => by simp[CU]at h
 |n+1,h => by
  unfold CU at h;split at h
  ·rename_i hn
   have:n=k:=by omega
   subst this;cases e:recs[n]? with
   |none => rw[e]at hn;simp at hn
   |some r =>
    rw[e]at hn;obtain⟨c,f⟩:=List.getElem?_eq_some_iff.1 e;exact⟨c,by rw[f];simpa using hn⟩
  ·exact QY recs nm k n h
theorem RL(v ds f)(nm:ByteArray)(w)(h:rSl 9 Af w f v ds):
  Calls prog 83 #[v,.string nm] w (zM (int i64 (CU ds nm ds.length)) w):=by
 obtain⟨A,c,rfl,hc,hm,hx⟩:=rSl.at_ Af.X zZ h;have HX:=zq hx;clear hx h;go_enter func83,ntmps83
 go_wp2
 go_loop [5,6] (fun a i =>∃j:Nat,j<=ds.length/\i=j/\a= int i64 (CU ds nm j)) (fun _ i => ds.length - (intOf i).toNat)
 ·exact⟨0,by omega,rfl,rfl⟩
 ·obtain⟨j,hj,rfl,rfl⟩:=hrel;by_cases p:j<ds.length
  ·obtain⟨ad,b,o,cs,fk,rfl,l⟩:=HX.o j p;have ab:=l.place;have x:=l.reads;obtain⟨v0,v1,v2,f0,f1,f2,e,-⟩:=x;have aa:=l.lt;have c0:w.cell? ⟨b,o,none⟩=some (int i64 ds[j].kind):=by
    have:=l.cell 0 (by rw[l.len];omega);simpa [e]using this
   have c2:w.cell? ⟨b,o+2,none⟩=some (.string ds[j].name):=by
    have:=l.cell 2 (by rw[l.len];omega);simpa [e]using this
   clear l e;have u:E0 nm ds[j] =decide (ds[j].kind =1/\ds[j].name =nm):=rfl;obtain⟨HY,y,n⟩:=zI (fun q => Lt (nm:=nm) p q) (fun q => Kl (nm:=nm) p q) u;clear u;by_cases q:ds[j].kind =1
   ·by_cases r:ds[j].name =nm
    ·have z:(ds[j].kind == 1)=true:=by simpa using q
     have h2:=Hg r;have s:=zq (HY.o (by rw[n.o];simp[q,r]));clear q r;go_wp2
     go_round
     ·exact⟨j+1,by omega,by go_num,by rw[s.o]⟩
     ·simp[intOf];omega
    ·have z:(ds[j].kind == 1)=true:=by simpa using q
     have h2:=Fr r;have s:=zq (y.o (by rw[n.o];simp[q,r]));clear q r;go_wp2
     go_round
     ·exact⟨j+1,by omega,by go_num,by rw[s.o]⟩
     ·simp[intOf];omega
   ·have z:(ds[j].kind == 1)=false:=by simpa using q
    have s:=zq (y.o (by rw[n.o];simp[q]));clear q;go_wp2
    go_round
    ·exact⟨j+1,by omega,by go_num,by rw[s.o]⟩
    ·simp[intOf];omega
  ·have e1:j=ds.length:=by omega
   subst e1;go_wp2
   go_ret
   exact⟨rfl,rfl⟩
end Go.Proofs.YtofeknacbdcoaaaGreatDoor
namespace Go.Proofs.YtofeknacbdcoaaaGreatDoor
open Go.Shelf Go.RowKit Go.Lib Go.Sort
theorem Tryz.strCompare(a b:ByteArray)(w:World):Calls prog 109 #[.string a,.string b] w fun e w' => e= .returned (int i64 (Lib.compareBytes a.data.toList b.data.toList))/\w'=w:=Any.strings_Compare Tryz.strCmp a b w
def cfN(x y:Es):Int:=Lib.compareBytes x.name.data.toList y.name.data.toList
theorem N6 {c e:UInt8}(h1:¬c<e)(f:¬e<c):c=e:=by rw[UInt8.lt_iff_toNat_lt]at h1 f;exact UInt8.toNat_inj.1 zZ
theorem JO:∀a:List UInt8,Lib.compareBytes a a=0
 | [] => rfl
 |c :: a => by unfold Lib.compareBytes;rw[aJ (UInt8.lt_irrefl c),aJ (UInt8.lt_irrefl c)];exact JO a
theorem Ia:∀a b:List UInt8,Lib.compareBytes a b=0->a=b
 | [],[],_ => rfl
 | [],_ :: _,h => by simp[Lib.compareBytes]at h
 |_ :: _,[],h => by simp[Lib.compareBytes]at h
 |c :: a,e :: b,h => by
  unfold Lib.compareBytes at h;split at h
  ·cases h
  ·split at h
   ·cases h
   ·rename_i f i
    have:c=e:=N6 f i;rw[this,Ia a b h]
theorem Hi:∀a b:List UInt8,Lib.compareBytes a b= - Lib.compareBytes b a
 | [],[] => rfl
 | [],_ :: _ => rfl
 |_ :: _,[] => rfl
 |c :: a,e :: b => by
  unfold Lib.compareBytes;by_cases f:c<e
  ·have h:¬e<c:=fun q => UInt8.lt_irrefl c (UInt8.lt_trans f q)
   rw[aM f,aJ h,aM f]
  ·by_cases h:e<c
   ·rw[aJ f,aM h,aM h];rfl
   ·rw[aJ f,aJ h,aJ h,aJ f];exact Hi a b
theorem G0:∀a b c:List UInt8,Lib.compareBytes a b<0->Lib.compareBytes b c<0->Lib.compareBytes a c<0
 | [],[],_,h,_ => by simp[Lib.compareBytes]at h
 | [],_ :: _,[],_,h => by simp[Lib.compareBytes]at h
 | [],_ :: _,_ :: _,_,_ => by simp[Lib.compareBytes]
 |_ :: _,[],_,h,_ => by simp[Lib.compareBytes]at h
 |_ :: _,_ :: _,[],_,h => by simp[Lib.compareBytes]at h
 |x :: a,y :: b,z :: c,h1,h2 => by
  unfold Lib.compareBytes at h1 h2⊢;by_cases p:x<y
  ·by_cases q:y<z
   ·rw[aM (UInt8.lt_trans p q)];decide
   ·rw[aJ q]at h2;by_cases e:z<y
    ·rw[aM e]at h2;exact absurd h2 zW
    ·have:y=z:=N6 q e;subst this;rw[aM p];decide
  ·rw[aJ p]at h1;by_cases p2:y<x
   ·rw[aM p2]at h1;exact absurd h1 zW
   ·have:x=y:=N6 p p2;subst this;rw[aJ p2]at h1;by_cases q:x<z
    ·rw[aM q];decide
    ·rw[aJ q]at h2⊢;by_cases e:z<x
     ·rw[aM e]at h2;exact absurd h2 zW
     ·rw[aJ e]at h2⊢;exact G0 a b c h1 h2
theorem Hf {x y:Es}:ltOf cfN x y=true↔Lib.compareBytes x.name.data.toList y.name.data.toList<0:=by
 unfold ltOf cfN;simp
theorem ltN_swo:SWO (ltOf cfN) where
 irrefl x:=by
  have:=JO x.name.data.toList;cases h:ltOf cfN x x with
  |false => rfl
  |true => rw[Hf]at h;omega
 trans x y z h1 h2:=by
  rw[Hf]at *;exact G0 _ _ _ h1 h2
 ntrans x y z h1 h2:=by
  cases h:ltOf cfN x z with
  |false => rfl
  |true =>
   exfalso
   rw[Hf]at h;have n1:¬Lib.compareBytes x.name.data.toList y.name.data.toList<0:=fun q => by rw[Hf.2 q]at h1;cases h1
   have n2:¬Lib.compareBytes y.name.data.toList z.name.data.toList<0:=fun q => by rw[Hf.2 q]at h2;cases h2
   have e:=Hi x.name.data.toList y.name.data.toList;have f:=Hi y.name.data.toList z.name.data.toList;by_cases z1:Lib.compareBytes y.name.data.toList x.name.data.toList=0
   ·rw[Ia _ _ z1]at n2;omega
   ·by_cases c:Lib.compareBytes z.name.data.toList y.name.data.toList=0
    ·rw[Ia _ _ c]at h;omega
    ·have:=G0 z.name.data.toList y.name.data.toList x.name.data.toList zZ zZ;have i:=Hi x.name.data.toList z.name.data.toList;omega
theorem TG(x y)(w:World):Calls prog 108 #[.agg (C7 x).toArray,.agg (C7 y).toArray] w fun e w' => e= .returned (int i64 (cfN x y))/\∃q os,w'=grow (w.drewN q) os:=by
 unfold C7 cfN;generalize slV x.rows=l;generalize slV x.data=n;generalize slV x.delta=p;generalize slV y.rows=r;generalize slV y.data=s;generalize slV y.delta=u;obtain⟨xk,xs,h,xl,z,xr,_,_,_,_⟩:=x;obtain⟨yk,ys,i,yl,yg,yr,_,_,_,_⟩:=y;simp only;have f:=zq (fun(a b:Obj) => show∃q os,(w.alloc a).alloc b=grow (w.drewN q) os from⟨0,#[a] ++ #[b],by rw[alloc_eq_grow w a,alloc_eq_grow (grow w #[a]) b,grow_grow];rfl⟩);have c:=zq (fun W => Tryz.strCompare h i W);go_enter func108,ntmps108
 go_wp2_with (go_at_call 109;refine(c.o _).M ?_;rintro e w' ⟨rfl,rfl⟩)
 go_ret
 exact⟨rfl,f.o _ _⟩
theorem Rk(blk c size w):CmpLays prog 108 #[] C7 9 cfN blk c size w:=fun _ _ _ _ x y => TG x y _
def nlt(a b:Aj):Prop:=Lib.compareBytes a.name.data.toList b.name.data.toList<0
theorem E7(a):¬nlt a a:=by unfold nlt;rw[JO];decide
theorem J6 {a b c}(h1:nlt a b)(e:nlt b c):nlt a c:=G0 _ _ _ h1 e
theorem nlt_eq {a b}(h1:¬nlt a b)(e:¬nlt b a):a.name=b.name:=by
 have:=Hi a.name.data.toList b.name.data.toList;unfold nlt at h1 e;have c:=Ia a.name.data.toList b.name.data.toList zZ;cases ha:a.name with
 |mk x => cases hb:b.name with
  |mk y =>
   rw[ha,hb]at c;simp only at c;exact congrArg ByteArray.mk (Array.toList_inj.1 c)
theorem nlt_ne {a b:Aj}(h:¬a.name=b.name):nlt a b∨nlt b a:=by
 by_cases c:nlt a b
 ·exact .inl c
 ·by_cases e:nlt b a
  ·exact .inr e
  ·exact absurd (nlt_eq c e) h
theorem Af.encodedN {w f cs d}(h:Af w f cs d)(i:Nat):∃x:Es,C7 x=cs/\x.at_=i/\x.name=d.name:=by
 obtain⟨u,y,z,q,r,s,rfl,-,-,-,-,-,-,-,n,o,p⟩:=h;obtain⟨c,c0,rfl,-⟩:=rSl.head n;obtain⟨e,c1,rfl,-⟩:=rSl.head o;obtain⟨l,c2,rfl,-⟩:=rSl.head p;exact⟨⟨d.kind,d.seq,d.name,d.length,d.group,d.row,(c,d.rows.length,c0),(e,d.data.length,c1),(l,d.delta.length,c2),i⟩,rfl,rfl,rfl⟩
theorem Qi {w}{base g n c:Nat}{E:TypeId}{ds:List Aj}{fs}(ho:Ak 9 E Af w base (.slice (some (zE g)) n c) ds fs)(hn:n=ds.length)(a4:n<1000000000000)(av:base<=g)(hg:g<w.heap.size)(ay:∀a,a∈fs->a.block<base):
  Calls prog 107 #[.slice (some (zE g)) n c,.func (.func 108) #[] #[]] w fun e w' => e= .returned (.tuple #[])/\∃L am,L.Perm ds/\L.Pairwise (fun x y =>¬nlt y x)/\rSl 9 Af w' am (.slice (some (zE g)) n c) L/\(∀a,a∈am->a∈fs∨a.block=g)/\Below base w w':=by
 have au:=Ak.there Af.X ho;obtain⟨ac,s,h1,h2,rfl,h4,h5,h6⟩:=ho;have hw:∀c,c∈ac->c.length=9:=by
  intro c hc;obtain⟨i,f,rfl⟩:=aY hc;obtain⟨_,_,p3,_⟩:=h5 i zZ;exact p3
 -- the rows as the sort has them
 have ax:∀i:Fin n,∃x:Es,C7 x=ac[i.1]' zZ /\x.at_=i.1/\x.name=(ds[i.1]' zZ).name:=fun i => by
  obtain⟨p1,p2,p3,p4⟩:=h5 i.1 zZ;exact Af.encodedN p4 i.1
 obtain⟨X,hX⟩:=Classical.axiomOfChoice ax;obtain⟨d,hd⟩:∃d:Array Es,d=Array.ofFn X:=zJ;have o:d.size=n:=by rw[hd];simp
 have ai:∀i,(f:i<n)->d[i]! =X ⟨i,f⟩:=fun i f => by
  rw[getElem!_pos d i zZ];simp[hd]
 -- they lie there
 have ad:∀i j,(f:i<n)->j<9->w.cell? ⟨g,i * 9+j,none⟩=some (C7 d[i]!)[j]!/\w.frozen? ⟨g,i * 9+j,none⟩=false:=fun i j f hj => by
  obtain⟨hl,ht⟩:=h4;rcases ht with⟨e,_⟩|⟨g',cap,al,e,q1,q2,q3,q4,q5,q6⟩
  ·cases e
  ·injection e with e1 e2 e3
   injection e1 with e1
   injection e1 with e1 _ _
   subst e1;have af:Blk w g E al:=q2;refine⟨?_,af.frozen _⟩;rw[af.cell];have ak:i * 9+j<ds.length * 9:=by omega
   have e7:=El ac hw i j zZ hj;rw[<-q6,List.getElem?_take,aM ak]at e7;rw[Array.getElem?_toList]at e7;rw[e7,(show ac[i]' zZ =C7 d[i]! by rw[ai i f];exact(hX ⟨i,f⟩).1.symm)];have:j<(C7 d[i]!).length:=by rw[DN];exact hj
   rw[aO this,getElem!_pos _ j this]
 have R:RowK C7 9 w g 0 d:=⟨DN,Je,fun t ht => by
  rw[size_flatK,o]at ht;rw[get_flatK _ _ _ _ (by rw[o];exact ht)];have:=ad (t / 9) (t % 9) zZ (Nat.mod_lt _ zZ);rw[show t / 9 * 9+t % 9=t by omega]at this;simpa using this,hg⟩
 have u:Calls prog 107 #[.slice (some (zE g)) d.size c,.func (.func 108) #[] #[]] w _:=AnyQ.slices_SortFunc Tryz.sortRecs 9 isAgg105 sizeOf105 C7 DN Je cfN ltN_swo 108 #[] g 0 c d w (enters_of func108 zY rfl) (Rk _ _ _ _) R.hH hg zZ;rw[o]at u;refine u.M ?_;rintro e w' ⟨rfl,d',n',a2,hP,hO,a1⟩;have hS:SWK C7 9 w g 0 d' w':=⟨n',a2,a1⟩;have hB:Below base w w':=(SWK.belowB hS hg).M av;have h:d'.size=n:=hP.1.T o;have hH:=hS.holds hg R.hH (h.T o.symm)
 -- what each of them is
 have aa:∀i,i<n->∃q,∃hq:q<n,d'[i]! =X ⟨q,hq⟩:=fun i f => permIn_all d d' 0 n (fun x =>∃q,∃hq:q<n,x=X ⟨q,hq⟩) zZ hP (fun q _ hq =>⟨q,hq,ai q hq⟩) i (Nat.zero_le _) f
 let φ:Es->Aj:=fun x => ds.getD x.at_ default
 have hφ:∀q,(hq:q<n)->φ (X ⟨q,hq⟩)=ds[q]' zZ :=fun q hq => by
  have:=(hX ⟨q,hq⟩).2.1;show ds.getD (X ⟨q,hq⟩).at_ default=_
  rw[this];simp[aP,show q<ds.length by omega]
 have ab:(d'.toList.map φ).Perm ds:=by
  have e1:(d'.extract 0 n).toList =d'.toList:=by rw[<-h,Array.extract_size]
  have e2:(d.extract 0 n).toList =d.toList:=by rw[<-o,Array.extract_size]
  have:=hP.2.2;rw[e1,e2]at this;refine(this.map φ).T ?_;have:d.toList.map φ=ds:=by
   apply bK
   ·simp[o,hn]
   ·intro i aj a3;have z:i<n:=by simp[o]at aj;exact aj
    rw[bI];have:d.toList[i]'(by simpa using aj)=X ⟨i,z⟩:=by
     rw[<-ai i z,getElem!_pos d i zZ];simp
    rw[this,hφ i z]
  rw[this]
 have ag:(d'.toList.map φ).Pairwise (fun x y =>¬nlt y x):=by
  rw[List.pairwise_iff_getElem];intro i j f hj ak;have z:i<n:=by simp[h]at f;omega
  have ar:j<n:=by simp[h]at hj;omega
  have:=hO i j (Nat.zero_le _) ak ar;obtain⟨p,hp,ep⟩:=aa i z;obtain⟨q,hq,eq⟩:=aa j ar;rw[bI,bI];have e1:d'.toList[i]'(by simpa using f)=d'[i]!:=by rw[getElem!_pos d' i zZ];simp
  have e2:d'.toList[j]'(by simpa using hj)=d'[j]!:=by rw[getElem!_pos d' j zZ];simp
  rw[e1,e2,ep,eq,hφ p hp,hφ q hq];rw[ep,eq]at this;intro az;have hx:ltOf cfN (X ⟨q,hq⟩) (X ⟨p,hp⟩)=true:=Hf.2 (by rw[(hX ⟨q,hq⟩).2.2,(hX ⟨p,hp⟩).2.2];exact az);rw[this]at hx;cases hx
 obtain⟨LL,ah⟩:∃LL,d'.toList.map φ=LL:=zJ;have ae:=ah;rw[ah]at ab ag;have r:LL.length=n:=by rw[<-ah];simp[h]
 have ap:∀i,(f:i<n)->∃q,∃hq:q<n,d'[i]! =X ⟨q,hq⟩/\LL[i]' zZ =ds[q]' zZ :=fun i f => by
  obtain⟨q,hq,e⟩:=aa i f;refine⟨q,hq,e,?_⟩;have a0:q<ds.length:=by omega
  have:LL[i]? =some (ds[q]'a0):=by
   have e8:LL[i]? =(d'.toList.map φ)[i]?:=by rw[ae]
   rw[e8,List.getElem?_map,Array.getElem?_toList,Array.getElem?_eq_getElem zZ];rw[getElem!_pos d' i zZ]at e;simp only[Option.map_some,e,hφ q hq]
  rw[aO zZ]at this;injection this
 have aw:n<=c/\c<=9223372036854775807:=by
  obtain⟨hl,ht⟩:=h4;rcases ht with⟨e,_⟩|⟨g',cap,al,e,q1,q2,q3,q4,q5,q6⟩
  ·cases e
  ·injection e with e1 e2 e3
   simp only[maxLen]at q4;omega
 refine⟨rfl,LL,Bf (zE g) (LL.length * 9) ++(d'.toList.map fun x => s.getD x.at_ []).flatten,ab,ag,⟨some (zE g),c,by rw[r],by omega,aw.2,.inr ⟨(zE g),d'.toList.map C7,d'.toList.map fun x => s.getD x.at_ [],rfl,by simp[h,r],by simp[h,r],rfl,fun i f => ?_⟩⟩,fun a ha => ?_,hB⟩;rotate_left
 ·rcases List.mem_append.1 ha with ha|ha
  ·obtain⟨k,_,rfl⟩:=Bt.1 ha;exact .inr (by rw[CO])
  ·obtain⟨l,hl,an⟩:=List.mem_flatten.1 ha;obtain⟨x,-,rfl⟩:=List.mem_map.1 hl;refine .inl (List.mem_flatten.2 ⟨_,?_,an⟩);by_cases q:x.at_<s.length
   ·simp[aP,q]
   ·simp[aP,q]at an
 rw[r]at f;obtain⟨q,hq,e,ec⟩:=ap i f;have ao:d'.toList[i]'(by simp[h];exact f)=X ⟨q,hq⟩:=by
  rw[<-e,getElem!_pos d' i zZ];simp
 refine⟨by simp[h];exact f,by simp[h];exact f,by simp[DN],fun j hj => ?_,?_⟩
 ·have aq:j<9:=by simpa [DN]using hj
  have:=(HoldsK.cell hH (i:=i) (c:=j) zZ aq).1;rw[CO];simp only[Nat.zero_add]at this;rw[this];simp only[bI,ao];rw[e,getElem!_pos _ j (by rw[DN];exact aq)]
 ·rw[ec];simp only[bI,ao];obtain⟨p1,p2,p3,p4⟩:=h5 q zZ;rw[(hX ⟨q,hq⟩).1,(hX ⟨q,hq⟩).2.1];have e9:s.getD q [] =s[q]:=by simp[aP,p2]
  rw[e9];exact Af.L _ _ _ _ _ p4 (AV.of_below (fun a ha => ay a (List.mem_flatten.2 ⟨_,aT p2,ha⟩)) hB)
end Go.Proofs.YtofeknacbdcoaaaGreatDoor
namespace Go.Proofs.YtofeknacbdcoaaaGreatDoor
open Go.RowKit Go.Lib Go.Sort
def DY(nm:ByteArray):Lit:=.string nm.data.toList
theorem Ln(nm:ByteArray):WideAt.IsKeyLit (DY nm):=by unfold DY WideAt.IsKeyLit;trivial
theorem Lm {a b:ByteArray}(h:DY a=DY b):a=b:=by
 unfold DY at h;injection h with h
 cases a with
 |mk x => cases b with
  |mk y => exact congrArg ByteArray.mk (Array.toList_inj.1 h)
theorem Tj {a b:ByteArray}:(DY a).sameKey (DY b)=decide (a=b):=by
 by_cases h:a=b
 ·subst h;rw[WideAt.sameKey_self (Ln a)];simp
 ·rw[Maps.sameKey_ne (fun e => h (Lm e))];simp[h]
structure FY (ds:List Aj) (css:List (List Value)) (D:DataW Value) (i:Nat):Prop where
 isMap:Maps.IsMap D
 has:∀nm,Maps.has D (DY nm)=decide (0<=CU ds nm i)
 at_:∀nm (k:Nat),CU ds nm i=(k:Int)->∀zd,D.atKey (DY nm) zd= .held (.agg (css.getD k []).toArray)
theorem FY.start(ds)(c:List (List Value)):FY ds c (.map []) 0 :=
 ⟨Maps.isMap_empty,fun nm => by simp[CU,Maps.has_eq],fun nm k h => by simp[CU]at h⟩
theorem FY.skip {ds}{c:List (List Value)}{D:DataW Value}{i}(h:FY ds c D i)(hi:i<ds.length)(f:¬ds[i].kind =1):FY ds c D (i+1):=by
 have hn:∀nm,CU ds nm (i+1)=CU ds nm i:=fun nm => Kl hi (by unfold E0;simp[f])
 exact⟨h.isMap,fun nm => by rw[hn];exact h.has nm,fun nm k e => h.at_ nm k (by rw[<-hn];exact e)⟩
theorem FY.put {ds}{c:List (List Value)}{D:DataW Value}{i}(h:FY ds c D i)(hi:i<ds.length)(f:ds[i].kind =1){cs:List Value}(l:c.getD i [] =cs):FY ds c (D.put (DY ds[i].name) (.held (.agg cs))) (i+1):=by
 refine⟨h.isMap.put _ _,fun nm => ?_,fun nm k e n => ?_⟩
 ·by_cases hn:ds[i].name =nm
  ·subst hn;rw[Maps.has_put_same h.isMap (Ln _),Lt hi (by unfold E0;simp[f])];simp
  ·rw[Maps.has_put_other (fun e => hn (Lm e).symm),Kl hi (by unfold E0;simp[hn])];exact h.has nm
 ·by_cases hn:ds[i].name =nm
  ·subst hn;rw[Lt hi (by unfold E0;simp[f])]at e;obtain rfl:i=k:=by omega
   rw[Maps.atKey_put_same h.isMap (Ln _),l]
  ·rw[Kl hi (by unfold E0;simp[hn])]at e;rw[Maps.atKey_put_other (fun e => hn (Lm e).symm)];exact h.at_ nm k e n
def Mb(ds:List Aj)(x:Aj):Prop:=∃k,∃h:k<ds.length,ds[k] =x/\x.kind=1/\x.length≠ -1/\CU ds x.name ds.length=(k:Int)
structure Eb (ds L:List Aj):Prop where
 sorted:L.Pairwise nlt
 mem:∀x,x∈L↔Mb ds x
theorem KY:∀ {L M:List Aj},L.Pairwise nlt->M.Pairwise nlt->(∀x,x∈L↔x∈M)->L=M
 | [],[],_,_,_ => rfl
 | [],y :: M,_,_,h => by have:=(h y).2 (List.mem_cons_self ..);cases this
 |x :: L,[],_,_,h => by have:=(h x).1 (List.mem_cons_self ..);cases this
 |x :: L,y :: M,h1,h2,h => by
  obtain⟨i,n⟩:=List.pairwise_cons.1 h1;obtain⟨l,o⟩:=List.pairwise_cons.1 h2;have e:x=y:=by
   rcases List.mem_cons.1 ((h x).1 (List.mem_cons_self ..))with e|e
   ·exact e
   ·rcases List.mem_cons.1 ((h y).2 (List.mem_cons_self ..))with f|f
    ·exact f.symm
    ·exact absurd (J6 (i y f) (l x e)) (E7 x)
  subst e;rw[KY n o fun z =>⟨fun c => ?_,fun c => ?_⟩]
  ·rcases List.mem_cons.1 ((h z).1 (List.mem_cons_of_mem _ c))with e|e
   ·subst e;exact absurd (i z c) (E7 z)
   ·exact e
  ·rcases List.mem_cons.1 ((h z).2 (List.mem_cons_of_mem _ c))with e|e
   ·subst e;exact absurd (l z c) (E7 z)
   ·exact e
theorem Eb.uniq {ds L M}(h1:Eb ds L)(c:Eb ds M):L=M:=KY h1.sorted c.sorted fun x =>(h1.mem x).T (c.mem x).symm
structure Gt (ds:List Aj) (left:Lit->Bool) (L:List Aj):Prop where
 apart:L.Pairwise fun x y =>¬x.name=y.name
 mem:∀x,x∈L↔(Mb ds x/\left (DY x.name)=false)
theorem Gt.start {ds}{f:List (List Value)}{D:DataW Value}(h:FY ds f D ds.length):Gt ds (Maps.has D) [] :=
 ⟨List.Pairwise.nil,fun x =>⟨fun c =>(by cases c),fun⟨⟨k,_,_,_,_,e⟩,c⟩ => by rw[h.has,e]at c;simp at c⟩⟩
theorem Gt.step {ds}{left:Lit->Bool}{L}(h:Gt ds left L){nm:ByteArray}{k:Nat}(s:left (DY nm)=true)(hn:CU ds nm ds.length=(k:Int)):
  ∃o:k<ds.length,ds[k].kind =1/\ds[k].name =nm/\(ds[k].length≠ -1->Gt ds (fun z => left z && !z.sameKey (DY nm)) (L ++ [ds[k]]))/\(ds[k].length = -1->Gt ds (fun z => left z && !z.sameKey (DY nm)) L):=by
 obtain⟨o,c⟩:=QY ds nm k _ hn;unfold E0 at c;simp only[bG]at c;have f:∀x,Mb ds x->x.name=nm->x=ds[k]:=fun x ⟨j,u,p,_,_,q⟩ e => by
  rw[e]at q;obtain rfl:k=j:=by omega
  exact p.symm
 have i:∀x:Aj,(left (DY x.name) && !(DY x.name).sameKey (DY nm))=false↔(left (DY x.name)=false∨x.name=nm):=fun x => by
  rw[Tj];cases left (DY x.name) <;> simp
 refine⟨o,c.1,c.2,fun n =>⟨?_,fun x => ?_⟩,fun n =>⟨h.apart,fun x => ?_⟩⟩
 ·rw[List.pairwise_append];refine⟨h.apart,List.pairwise_singleton _ _,fun a r b hb => ?_⟩;rw[List.mem_singleton.1 hb,c.2];intro e;have:=((h.mem a).1 r).2;rw[e,s]at this;cases this
 ·rw[bQ,List.mem_singleton,h.mem,i];constructor
  ·rintro(⟨a,b⟩|rfl)
   ·exact⟨a,.inl b⟩
   ·exact⟨⟨k,o,rfl,c.1,n,by rw[c.2];exact hn⟩,.inr c.2⟩
  ·rintro⟨a,b|b⟩
   ·exact .inl ⟨a,b⟩
   ·exact .inr (f x a b)
 ·rw[h.mem,i];constructor
  ·rintro⟨a,b⟩;exact⟨a,.inl b⟩
  ·rintro⟨a,b|b⟩
   ·exact⟨a,b⟩
   ·have e:=f x a b;obtain⟨_,_,_,_,l,_⟩:=a;rw[e]at l;exact absurd n l
theorem Gt.live {ds}{left:Lit->Bool}{L M:List Aj}(h:Gt ds left L)(i:∀n,left n=false)(f:M.Perm L)(l:M.Pairwise fun x y =>¬nlt y x):Eb ds M:=by
 have c:M.Pairwise fun x y =>¬x.name=y.name:=(f.pairwise_iff (fun {_ _} e => Ne.symm e)).2 h.apart
 refine⟨?_,fun x => by rw[f.mem_iff,h.mem];exact⟨fun a => a.1,fun a =>⟨a,i _⟩⟩⟩;exact(l.and c).imp fun⟨a,b⟩ =>(nlt_ne b).resolve_right a
