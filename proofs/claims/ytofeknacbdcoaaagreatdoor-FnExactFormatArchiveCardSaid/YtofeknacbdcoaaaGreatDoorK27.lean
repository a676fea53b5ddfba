/- Part 27 of the proof. -/
import Derived.Test.YtofeknacbdcoaaaGreatDoorK06
import Derived.Test.YtofeknacbdcoaaaGreatDoorK21
import Derived.Test.YtofeknacbdcoaaaGreatDoorK25
import Derived.Test.YtofeknacbdcoaaaGreatDoorK26
import Derived.Test.YtofeknacbdcoaaaGreatDoorK17
import Derived.Test.YtofeknacbdcoaaaGreatDoorK20
import Derived.Deep.Cut
import Derived.Deep.CutRange
import Derived.Deep.DeepCutAuto
import Derived.Deep.RegionLaw
import Derived.Sort.AtCall
import Derived.Test.YtofeknacbdcoaaaGreatDoorK00
import Derived.Test.YtofeknacbdcoaaaGreatDoorK03
import Derived.Maps.AppendAt
set_option maxHeartbeats 8000000
set_option maxRecDepth 100000
set_option linter.unusedVariables false
set_option linter.unusedSimpArgs false
open Go.Proofs.Tryz
open Go.Value (int)
open Go.IntKind (i64)
namespace Go.Proofs.YtofeknacbdcoaaaGreatDoor
open Go.RowKit Go.Lib Go.Sort
def DD(hi:Int)(d:AX):Int :=
 if AI d.world=0 then(if Cb hi d.world.s.sh d.desk=0 then(if(d.world.down && decide (0<(AY d.desk).length))=true then 1 else 0)else Cb hi d.world.s.sh d.desk)else AI d.world
theorem Kd {d:As}(h:AI d=0):shB d.s.sh=true:=by
 by_cases c:shB d.s.sh=true
 ·exact c
 ·unfold AI at h;rw[aJ c]at h;exact absurd h zW
theorem Ky {hi}{s:Sh}{d:AP}(f:s.Ok)(h:Cb hi s d=0):(AY d).length<=1000000:=by
 by_cases e:(d.queues.length:Int)=s.g+s.c
 ·cases h2:(d.queues.any (Di s)||(decide (20<d.aside.length)||decide (200<d.answers.length)))with
  |true => rw[Jd e h2]at h;exact absurd h zW
  |false =>
   simp only[Bool.or_eq_false_iff,decide_eq_false_iff_not]at h2;exact aZ (I6 f e h2.1 zZ) zW
 ·rw[JS e]at h;exact absurd h zW
theorem Ej.ofArc {W p T d}{c1 c2:List Value}{o}(K:Blk W p T (c1 ++ c2).toArray)(r:c1.length=15)(h:Bb W o c2 d):
  ∃f i l k0 k1 k2 n g1 g2,Ej W p 15 d f i l k0 k1 k2 n g1 g2:=by
 dsimp only[Bb]at h;obtain⟨x,y,z,n,g1,g2,e,-,s,u,r0,r1,r2⟩:=h;obtain⟨f,k0,rfl,-⟩:=rSl.head r0;obtain⟨i,k1,rfl,-⟩:=rSl.head r1;obtain⟨l,k2,rfl,-⟩:=rSl.head r2;have c:∀j v,c2[j]? =some v->W.cell? ⟨p,15+j,none⟩=some v:=fun j v q => by
  rw[K.cell,List.getElem?_toArray,List.getElem?_append_right zZ,r,show 15+j - 15=j by omega];exact q
 subst e;exact⟨f,i,l,k0,k1,k2,n,g1,g2,c 0 _ rfl,c 1 _ rfl,c 2 _ rfl,c 3 _ rfl,c 4 _ rfl,K.lt,r0,r1,r2⟩
theorem GD {W f c1 d}(h:AF W f c1 d):c1.take 9= [int i64 d.s.g,d.s.c,d.s.data,d.s.p,d.s.rows,d.s.cap,d.s.b,d.s.q,d.s.t]/\c1[14]? =some (.bool d.down):=by
 dsimp only[AF]at h;obtain⟨l,n,o,i,g1,g2,e,-⟩:=h;subst e;exact⟨rfl,rfl⟩
theorem GE(d cs f w)(h:AG w f cs d):
  Calls prog 20 #[.agg cs] w (zN (int i64 (DD (d.desk.next - 1) d)) w):=by
 obtain⟨c1,c2,g1,g2,rfl,-,hw,hd⟩:=h.parts;clear h;have af:=AF.wide _ _ _ _ hw;have ar:=Bb.wide _ _ _ _ hd;have hB:Below w w (w.alloc (.cells (c1 ++ c2).toArray 49)):=(aC _ _).alloc (aD _) _;have K1:Blk (w.alloc (.cells (c1 ++ c2).toArray 49)) w 49 (c1 ++ c2).toArray:=Blk.new w _ _;obtain⟨HB,HK,ag,ak,aj,an⟩:=zF hB K1 af (Fb (Blk.rangeAll K1)) (show(prog.info? 42).map (·.size)=some c1.length by rw[af];kernel_rfl) (show(prog.info? 47).map (·.size)=some c2.length by rw[ar];kernel_rfl);have ac:=zq (show∀W,Blk W w 49 (c1 ++ c2).toArray->W.rangeAt w 0 d.world.s from fun W K => by
  have h1:=Fb (Blk.rangeAll K);rw[<-List.take_append_drop 9 c1]at h1;rw[<-(GD hw).1];exact Fb h1)
 have z:=zq (show∀W,Blk W w 49 (c1 ++ c2).toArray->W.cell? ⟨w.heap.size,14,none⟩=some (.bool d.world.down)from fun W K => by
  rw[K.cell,List.getElem?_toArray,List.getElem?_append_left zZ];exact(GD hw).2)
 have ad:=zq (Lj d.world c1 g1 (w.alloc (.cells (c1 ++ c2).toArray 49)) (AC.B AF.L AF.X hw hB));have ah:=zq (fun(h0:AI d.world=0) (W:World) (hW:Below w w W) => LY d.world.s.sh (Kd h0) d.desk c2 g2 W (AC.B Bb.L Bb.X hd hW));have ao:=zq (fun(aw:(AY d.desk).length<=1000000) (W:World) (K:Blk W w 49 (c1 ++ c2).toArray) (hW:Below w w W) => show Calls prog 56 #[.pointer (some (zO w 15))] W (fun e w' =>∃A c gs,e= .returned (.slice A (AY d.desk).length c)/\rSl 4 Ag w' gs (.slice A (AY d.desk).length c) (AY d.desk)/\(∀a,a∈gs->W.heap.size<=a.block)/\Below W W w')from by
  obtain⟨A0,A1,A2,k0,k1,k2,q0,q1,q2,hD⟩:=Ej.ofArc K af (AC.B Bb.L Bb.X hd hW);exact NJ w 15 d.desk A0 A1 A2 k0 k1 k2 q0 q1 q2 W hD aw)
 obtain⟨r,hr⟩:∃r,DD (d.desk.next - 1) d=r:=zJ;rw[hr];have HR:=zq hr;clear hr hB K1 hw hd af ar;have ae:=zq (fun(h0:AI d.world=0) (h1:Cb (d.desk.next - 1) d.world.s.sh d.desk=0) => Ky (De (Kd h0)) h1);unfold shV at ah;by_cases q0:AI d.world=0
 case neg =>
  have e1:r=AI d.world:=by have:=HR.o;unfold DD at this;rw[aJ q0]at this;exact this.symm
  obtain⟨wc,au⟩:∃wc,AI d.world=wc:=zJ;rw[au]at ad e1 q0;have hb:=Ex q0;subst e1;clear q0 au;go_enter func20,ntmps20
  go_wp2_with (first
   |(refine aE rfl 42 _ rfl w 0 rfl c1 _ ak.o underlying42 rfl aj.o ?_)
   |(go_at_call 54;refine ad.o.M ?_;rintro e w3 ⟨rfl,x⟩;have i:=zq (HK.o.B x HK.o.lt);have y:=zq (HB.o.T (x.M HB.o.size));have z3:=i.o.lt;have u:=zq (ac.o w3 i.o);have l:=zq (show w3.rangeAt w 15 c2 from by have:=Ey (Blk.rangeAll i.o);rw[ag.o]at this;exact this);clear x))
  go_ret
  exact⟨rfl,y.o⟩
 obtain⟨aa,al,ab⟩:=zI (ah.o q0) (fun h1 => ae.o q0 h1) (show(if Cb (d.desk.next - 1) d.world.s.sh d.desk=0 then(if(d.world.down && decide (0<(AY d.desk).length))=true then 1 else 0)else Cb (d.desk.next - 1) d.world.s.sh d.desk)=r by have:=HR.o;unfold DD at this;rwa [aM q0]at this);rw[q0]at ad;clear q0 ae ah HR;obtain⟨dc,aq⟩:∃dc,Cb (d.desk.next - 1) d.world.s.sh d.desk=dc:=zJ;have ai:=aa;clear aa;rw[show d.world.s.sh.g=d.world.s.g from rfl,show d.world.s.sh.c=d.world.s.c from rfl,show d.world.s.sh.data=d.world.s.data from rfl,show d.world.s.sh.p=d.world.s.p from rfl,show d.world.s.sh.rows=d.world.s.rows from rfl,show d.world.s.sh.cap=d.world.s.cap from rfl,show d.world.s.sh.b=d.world.s.b from rfl,show d.world.s.sh.q=d.world.s.q from rfl,show d.world.s.sh.t=d.world.s.t from rfl]at ai;have aa:=ai;clear ai;rw[aq]at aa al ab;clear aq;by_cases q1:dc=0
 case neg =>
  have e1:r=dc:=by have:=ab.o;rwa [aJ q1,eq_comm]at this
  have hb:=Ex q1;subst e1;clear q1;go_enter func20,ntmps20
  go_wp2_with (first
   |(refine aE rfl 42 _ rfl w 0 rfl c1 _ ak.o underlying42 rfl aj.o ?_)
   |(go_at_call 54;refine ad.o.M ?_;rintro e w3 ⟨rfl,x⟩;have i:=zq (HK.o.B x HK.o.lt);have y:=zq (HB.o.T (x.M HB.o.size));have z3:=i.o.lt;have u:=zq (ac.o w3 i.o);have l:=zq (show w3.rangeAt w 15 c2 from by have:=Ey (Blk.rangeAll i.o);rw[ag.o]at this;exact this);clear x)
   |(refine aE rfl 38 _ rfl w 0 rfl _ _ u.o underlying38 rfl zY ?_)
   |(refine aE rfl 47 _ rfl w 15 rfl c2 _ l.o underlying47 rfl an.o ?_)
   |(go_at_call 55;refine(aa.o _ y.o).M ?_;rintro e w4 ⟨rfl,b4⟩;have K4:=zq (i.o.B b4 i.o.lt);have B4:=zq (y.o.T (b4.M y.o.size));have z4:=K4.o.lt;have ap:w4.cell? ⟨w.heap.size,14,none⟩=some (.bool d.world.down):=z.o w4 K4.o;clear b4))
  go_ret
  exact⟨rfl,B4.o⟩
 subst q1;rw[aM rfl]at ab;have am:=zq (ao.o (al.o rfl));obtain⟨n,hn⟩:∃n,(AY d.desk).length =n:=zJ;rw[hn]at am ab;obtain⟨dn,av⟩:∃dn,d.world.down=dn:=zJ;rw[av]at z ab;clear ao al;cases dn with
 |false =>
  obtain rfl:r=0:=ab.o.symm;go_enter func20,ntmps20
  go_wp2_with (first
   |(refine aE rfl 42 _ rfl w 0 rfl c1 _ ak.o underlying42 rfl aj.o ?_)
   |(go_at_call 54;refine ad.o.M ?_;rintro e w3 ⟨rfl,x⟩;have i:=zq (HK.o.B x HK.o.lt);have y:=zq (HB.o.T (x.M HB.o.size));have z3:=i.o.lt;have u:=zq (ac.o w3 i.o);have l:=zq (show w3.rangeAt w 15 c2 from by have:=Ey (Blk.rangeAll i.o);rw[ag.o]at this;exact this);clear x)
   |(refine aE rfl 38 _ rfl w 0 rfl _ _ u.o underlying38 rfl zY ?_)
   |(refine aE rfl 47 _ rfl w 15 rfl c2 _ l.o underlying47 rfl an.o ?_)
   |(go_at_call 55;refine(aa.o _ y.o).M ?_;rintro e w4 ⟨rfl,b4⟩;have K4:=zq (i.o.B b4 i.o.lt);have B4:=zq (y.o.T (b4.M y.o.size));have z4:=K4.o.lt;have ap:w4.cell? ⟨w.heap.size,14,none⟩=some (.bool false):=z.o w4 K4.o;clear b4))
  go_ret
  exact⟨rfl,B4.o⟩
 |true =>
  by_cases q2:0<n
  ·obtain rfl:r=1:=ab.o.symm.T (by rw[aN q2];rfl);have ax:(0:Int)<(n:Int):=by omega
   go_enter func20,ntmps20
   go_wp2_with (first
    |(refine aE rfl 42 _ rfl w 0 rfl c1 _ ak.o underlying42 rfl aj.o ?_)
    |(go_at_call 54;refine ad.o.M ?_;rintro e w3 ⟨rfl,x⟩;have i:=zq (HK.o.B x HK.o.lt);have y:=zq (HB.o.T (x.M HB.o.size));have z3:=i.o.lt;have u:=zq (ac.o w3 i.o);have l:=zq (show w3.rangeAt w 15 c2 from by have:=Ey (Blk.rangeAll i.o);rw[ag.o]at this;exact this);clear x)
    |(refine aE rfl 38 _ rfl w 0 rfl _ _ u.o underlying38 rfl zY ?_)
    |(refine aE rfl 47 _ rfl w 15 rfl c2 _ l.o underlying47 rfl an.o ?_)
    |(go_at_call 55;refine(aa.o _ y.o).M ?_;rintro e w4 ⟨rfl,b4⟩;have K4:=zq (i.o.B b4 i.o.lt);have B4:=zq (y.o.T (b4.M y.o.size));have z4:=K4.o.lt;have ap:w4.cell? ⟨w.heap.size,14,none⟩=some (.bool true):=z.o w4 K4.o;clear b4)
    |(go_at_call 56;refine(am.o w4 K4.o B4.o).M ?_;rintro e w5 ⟨A5,c5,g5,rfl,-,-,b5⟩;have B5:=zq (B4.o.T (b5.M B4.o.size));clear  b5))
   go_ret
   exact⟨rfl,B5.o⟩
  ·obtain rfl:r=0:=ab.o.symm.T (by rw[aG q2];rfl);obtain rfl:n=0:=by omega
   clear q2;go_enter func20,ntmps20
   go_wp2_with (first
    |(refine aE rfl 42 _ rfl w 0 rfl c1 _ ak.o underlying42 rfl aj.o ?_)
    |(go_at_call 54;refine ad.o.M ?_;rintro e w3 ⟨rfl,x⟩;have i:=zq (HK.o.B x HK.o.lt);have y:=zq (HB.o.T (x.M HB.o.size));have z3:=i.o.lt;have u:=zq (ac.o w3 i.o);have l:=zq (show w3.rangeAt w 15 c2 from by have:=Ey (Blk.rangeAll i.o);rw[ag.o]at this;exact this);clear x)
    |(refine aE rfl 38 _ rfl w 0 rfl _ _ u.o underlying38 rfl zY ?_)
    |(refine aE rfl 47 _ rfl w 15 rfl c2 _ l.o underlying47 rfl an.o ?_)
    |(go_at_call 55;refine(aa.o _ y.o).M ?_;rintro e w4 ⟨rfl,b4⟩;have K4:=zq (i.o.B b4 i.o.lt);have B4:=zq (y.o.T (b4.M y.o.size));have z4:=K4.o.lt;have ap:w4.cell? ⟨w.heap.size,14,none⟩=some (.bool true):=z.o w4 K4.o;clear b4)
    |(go_at_call 56;refine(am.o w4 K4.o B4.o).M ?_;rintro e w5 ⟨A5,c5,g5,rfl,-,-,b5⟩;have B5:=zq (B4.o.T (b5.M B4.o.size));clear  b5))
   go_ret
   exact⟨rfl,B5.o⟩
theorem GI(d cs f w)(h:AG w f cs d):
  Calls prog 11 #[.agg cs] w (zN (int i64 (DD (IntKind.i64.wrap (d.desk.next - 1)) d)) w):=by
 obtain⟨c1,c2,g1,g2,rfl,-,hw,hd⟩:=h.parts;clear h;have af:=AF.wide _ _ _ _ hw;have ar:=Bb.wide _ _ _ _ hd;have hB:Below w w (w.alloc (.cells (c1 ++ c2).toArray 49)):=(aC _ _).alloc (aD _) _;have K1:Blk (w.alloc (.cells (c1 ++ c2).toArray 49)) w 49 (c1 ++ c2).toArray:=Blk.new w _ _;obtain⟨HB,HK,ag,ak,aj,an⟩:=zF hB K1 af (Fb (Blk.rangeAll K1)) (show(prog.info? 42).map (·.size)=some c1.length by rw[af];kernel_rfl) (show(prog.info? 47).map (·.size)=some c2.length by rw[ar];kernel_rfl);have ac:=zq (show∀W,Blk W w 49 (c1 ++ c2).toArray->W.rangeAt w 0 d.world.s from fun W K => by
  have h1:=Fb (Blk.rangeAll K);rw[<-List.take_append_drop 9 c1]at h1;rw[<-(GD hw).1];exact Fb h1)
 have z:=zq (show∀W,Blk W w 49 (c1 ++ c2).toArray->W.cell? ⟨w.heap.size,14,none⟩=some (.bool d.world.down)from fun W K => by
  rw[K.cell,List.getElem?_toArray,List.getElem?_append_left zZ];exact(GD hw).2)
 have ad:=zq (Hx d.world c1 g1 (w.alloc (.cells (c1 ++ c2).toArray 49)) (AC.B AF.L AF.X hw hB));have ah:=zq (fun(h0:AI d.world=0) (W:World) (hW:Below w w W) => Mn d.world.s.sh (Kd h0) d.desk c2 g2 W (AC.B Bb.L Bb.X hd hW));have ao:=zq (fun(aw:(AY d.desk).length<=1000000) (W:World) (K:Blk W w 49 (c1 ++ c2).toArray) (hW:Below w w W) => show Calls prog 41 #[.pointer (some (zO w 15))] W (fun e w' =>∃A c gs,e= .returned (.slice A (AY d.desk).length c)/\rSl 4 Ag w' gs (.slice A (AY d.desk).length c) (AY d.desk)/\Below W W w')from by
  obtain⟨A0,A1,A2,k0,k1,k2,q0,q1,q2,hD⟩:=Ej.ofArc K af (AC.B Bb.L Bb.X hd hW);exact Lo w 15 d.desk A0 A1 A2 k0 k1 k2 q0 q1 q2 W hD aw)
 obtain⟨r,hr⟩:∃r,DD (IntKind.i64.wrap (d.desk.next - 1)) d=r:=zJ;rw[hr];have HR:=zq hr;clear hr hB K1 hw hd af ar;have ae:=zq (fun(h0:AI d.world=0) (h1:Cb (IntKind.i64.wrap (d.desk.next - 1)) d.world.s.sh d.desk=0) => Ky (De (Kd h0)) h1);unfold shV at ah;by_cases q0:AI d.world=0
 case neg =>
  have e1:r=AI d.world:=by have:=HR.o;unfold DD at this;rw[aJ q0]at this;exact this.symm
  obtain⟨wc,au⟩:∃wc,AI d.world=wc:=zJ;rw[au]at ad e1 q0;have hb:=Ex q0;subst e1;clear q0 au;go_enter func11,ntmps11
  go_wp2_with (first
   |(refine aE rfl 42 _ rfl w 0 rfl c1 _ ak.o underlying42 rfl aj.o ?_)
   |(go_at_call 39;refine ad.o.M ?_;rintro e w3 ⟨rfl,x⟩;have i:=zq (HK.o.B x HK.o.lt);have y:=zq (HB.o.T (x.M HB.o.size));have z3:=i.o.lt;have u:=zq (ac.o w3 i.o);have l:=zq (show w3.rangeAt w 15 c2 from by have:=Ey (Blk.rangeAll i.o);rw[ag.o]at this;exact this);clear x))
  go_ret
  exact⟨rfl,y.o⟩
 obtain⟨aa,al,ab⟩:=zI (ah.o q0) (fun h1 => ae.o q0 h1) (show(if Cb (IntKind.i64.wrap (d.desk.next - 1)) d.world.s.sh d.desk=0 then(if(d.world.down && decide (0<(AY d.desk).length))=true then 1 else 0)else Cb (IntKind.i64.wrap (d.desk.next - 1)) d.world.s.sh d.desk)=r by have:=HR.o;unfold DD at this;rwa [aM q0]at this);rw[q0]at ad;clear q0 ae ah HR;obtain⟨dc,aq⟩:∃dc,Cb (IntKind.i64.wrap (d.desk.next - 1)) d.world.s.sh d.desk=dc:=zJ;have ai:=aa;clear aa;rw[show d.world.s.sh.g=d.world.s.g from rfl,show d.world.s.sh.c=d.world.s.c from rfl,show d.world.s.sh.data=d.world.s.data from rfl,show d.world.s.sh.p=d.world.s.p from rfl,show d.world.s.sh.rows=d.world.s.rows from rfl,show d.world.s.sh.cap=d.world.s.cap from rfl,show d.world.s.sh.b=d.world.s.b from rfl,show d.world.s.sh.q=d.world.s.q from rfl,show d.world.s.sh.t=d.world.s.t from rfl]at ai;have aa:=ai;clear ai;rw[aq]at aa al ab;clear aq;by_cases q1:dc=0
 case neg =>
  have e1:r=dc:=by have:=ab.o;rwa [aJ q1,eq_comm]at this
  have hb:=Ex q1;subst e1;clear q1;go_enter func11,ntmps11
  go_wp2_with (first
   |(refine aE rfl 42 _ rfl w 0 rfl c1 _ ak.o underlying42 rfl aj.o ?_)
   |(go_at_call 39;refine ad.o.M ?_;rintro e w3 ⟨rfl,x⟩;have i:=zq (HK.o.B x HK.o.lt);have y:=zq (HB.o.T (x.M HB.o.size));have z3:=i.o.lt;have u:=zq (ac.o w3 i.o);have l:=zq (show w3.rangeAt w 15 c2 from by have:=Ey (Blk.rangeAll i.o);rw[ag.o]at this;exact this);clear x)
   |(refine aE rfl 38 _ rfl w 0 rfl _ _ u.o underlying38 rfl zY ?_)
   |(refine aE rfl 47 _ rfl w 15 rfl c2 _ l.o underlying47 rfl an.o ?_)
   |(go_at_call 40;refine(aa.o _ y.o).M ?_;rintro e w4 ⟨rfl,b4⟩;have K4:=zq (i.o.B b4 i.o.lt);have B4:=zq (y.o.T (b4.M y.o.size));have z4:=K4.o.lt;have ap:w4.cell? ⟨w.heap.size,14,none⟩=some (.bool d.world.down):=z.o w4 K4.o;clear b4))
  go_ret
  exact⟨rfl,B4.o⟩
 subst q1;rw[aM rfl]at ab;have am:=zq (ao.o (al.o rfl));obtain⟨n,hn⟩:∃n,(AY d.desk).length =n:=zJ;rw[hn]at am ab;obtain⟨dn,av⟩:∃dn,d.world.down=dn:=zJ;rw[av]at z ab;clear ao al;cases dn with
 |false =>
  obtain rfl:r=0:=ab.o.symm;go_enter func11,ntmps11
  go_wp2_with (first
   |(refine aE rfl 42 _ rfl w 0 rfl c1 _ ak.o underlying42 rfl aj.o ?_)
   |(go_at_call 39;refine ad.o.M ?_;rintro e w3 ⟨rfl,x⟩;have i:=zq (HK.o.B x HK.o.lt);have y:=zq (HB.o.T (x.M HB.o.size));have z3:=i.o.lt;have u:=zq (ac.o w3 i.o);have l:=zq (show w3.rangeAt w 15 c2 from by have:=Ey (Blk.rangeAll i.o);rw[ag.o]at this;exact this);clear x)
   |(refine aE rfl 38 _ rfl w 0 rfl _ _ u.o underlying38 rfl zY ?_)
   |(refine aE rfl 47 _ rfl w 15 rfl c2 _ l.o underlying47 rfl an.o ?_)
   |(go_at_call 40;refine(aa.o _ y.o).M ?_;rintro e w4 ⟨rfl,b4⟩;have K4:=zq (i.o.B b4 i.o.lt);have B4:=zq (y.o.T (b4.M y.o.size));have z4:=K4.o.lt;have ap:w4.cell? ⟨w.heap.size,14,none⟩=some (.bool false):=z.o w4 K4.o;clear b4))
  go_ret
  exact⟨rfl,B4.o⟩
 |true =>
  by_cases q2:0<n
  ·obtain rfl:r=1:=ab.o.symm.T (by rw[aN q2];rfl);have ax:(0:Int)<(n:Int):=by omega
   go_enter func11,ntmps11
   go_wp2_with (first
    |(refine aE rfl 42 _ rfl w 0 rfl c1 _ ak.o underlying42 rfl aj.o ?_)
    |(go_at_call 39;refine ad.o.M ?_;rintro e w3 ⟨rfl,x⟩;have i:=zq (HK.o.B x HK.o.lt);have y:=zq (HB.o.T (x.M HB.o.size));have z3:=i.o.lt;have u:=zq (ac.o w3 i.o);have l:=zq (show w3.rangeAt w 15 c2 from by have:=Ey (Blk.rangeAll i.o);rw[ag.o]at this;exact this);clear x)
    |(refine aE rfl 38 _ rfl w 0 rfl _ _ u.o underlying38 rfl zY ?_)
    |(refine aE rfl 47 _ rfl w 15 rfl c2 _ l.o underlying47 rfl an.o ?_)
    |(go_at_call 40;refine(aa.o _ y.o).M ?_;rintro e w4 ⟨rfl,b4⟩;have K4:=zq (i.o.B b4 i.o.lt);have B4:=zq (y.o.T (b4.M y.o.size));have z4:=K4.o.lt;have ap:w4.cell? ⟨w.heap.size,14,none⟩=some (.bool true):=z.o w4 K4.o;clear b4)
    |(go_at_call 41;refine(am.o w4 K4.o B4.o).M ?_;rintro e w5 ⟨A5,c5,g5,rfl,-,b5⟩;have B5:=zq (B4.o.T (b5.M B4.o.size));clear  b5))
   go_ret
   exact⟨rfl,B5.o⟩
  ·obtain rfl:r=0:=ab.o.symm.T (by rw[aG q2];rfl);obtain rfl:n=0:=by omega
   clear q2;go_enter func11,ntmps11
   go_wp2_with (first
    |(refine aE rfl 42 _ rfl w 0 rfl c1 _ ak.o underlying42 rfl aj.o ?_)
    |(go_at_call 39;refine ad.o.M ?_;rintro e w3 ⟨rfl,x⟩;have i:=zq (HK.o.B x HK.o.lt);have y:=zq (HB.o.T (x.M HB.o.size));have z3:=i.o.lt;have u:=zq (ac.o w3 i.o);have l:=zq (show w3.rangeAt w 15 c2 from by have:=Ey (Blk.rangeAll i.o);rw[ag.o]at this;exact this);clear x)
    |(refine aE rfl 38 _ rfl w 0 rfl _ _ u.o underlying38 rfl zY ?_)
    |(refine aE rfl 47 _ rfl w 15 rfl c2 _ l.o underlying47 rfl an.o ?_)
    |(go_at_call 40;refine(aa.o _ y.o).M ?_;rintro e w4 ⟨rfl,b4⟩;have K4:=zq (i.o.B b4 i.o.lt);have B4:=zq (y.o.T (b4.M y.o.size));have z4:=K4.o.lt;have ap:w4.cell? ⟨w.heap.size,14,none⟩=some (.bool true):=z.o w4 K4.o;clear b4)
    |(go_at_call 41;refine(am.o w4 K4.o B4.o).M ?_;rintro e w5 ⟨A5,c5,g5,rfl,-,b5⟩;have B5:=zq (B4.o.T (b5.M B4.o.size));clear  b5))
   go_ret
   exact⟨rfl,B5.o⟩
end Go.Proofs.YtofeknacbdcoaaaGreatDoor
namespace Go.Proofs.YtofeknacbdcoaaaGreatDoor
open Go.RowKit Go.Sort
theorem Ja {hi}{d:AX}(h:DD hi d=0):AI d.world=0/\Cb hi d.world.s.sh d.desk=0:=by
 unfold DD at h;by_cases q:AI d.world=0
 ·rw[aM q]at h;by_cases c:Cb hi d.world.s.sh d.desk=0
  ·exact⟨q,c⟩
  ·rw[aJ c]at h;exact absurd h c
 ·rw[aJ q]at h;exact absurd h q
theorem Rd {d:AX}(f:okI d.desk.next):DD (IntKind.i64.wrap (d.desk.next - 1)) d=0↔DD (d.desk.next - 1) d=0:=by
 unfold DD;by_cases q:AI d.world=0
 ·rw[aM q,aM q];by_cases c:Cb (d.desk.next - 1) d.world.s.sh d.desk=0
  ·rw[aM c,aM ((LP f).2 c)]
  ·have h:¬Cb (IntKind.i64.wrap (d.desk.next - 1)) d.world.s.sh d.desk=0:=fun e => c ((LP f).1 e)
   rw[aJ c,aJ h];exact⟨fun e => absurd e h,fun e => absurd e c⟩
 ·rw[aJ q,aJ q]
theorem AG.next {w f cs d}(h:AG w f cs d):okI d.desk.next/\cs.length=20:=by
 obtain⟨c1,c2,n,o,rfl,-,hw,c⟩:=h.parts;have q:=AF.wide _ _ _ _ hw;have r:=Bb.wide _ _ _ _ c;obtain⟨u,x,y,p,g1,g2,e,l,s,i,r0,r1,r2⟩:=c;exact⟨i,by rw[aU];omega⟩
abbrev shL (s:Bh):List Value:=[s.g,s.c,s.data,s.p,s.rows,s.cap,s.b,s.q,s.t]
structure Box (W:World) (p:Nat) (d:AX) (c1:List Value) (A1 A3 A4:Option Addr) (k1 k3 k4:Nat) (f1 g0 g1:List Addr):Prop where
 lt:p<W.heap.size
 w15:c1.length=15
 wr:W.rangeAt p 0 c1
 sh:W.rangeAt p 0 (shL d.world.s)
 aw:AtW W p f1 d.world
 rwo:AF W f1 c1 d.world
 on:W.cell? ⟨p,10,none⟩=some (.slice A1 d.world.on.length k1)
 dn:W.cell? ⟨p,14,none⟩=some (.bool d.world.down)
 qu:W.cell? ⟨p,15,none⟩=some (.slice A3 d.desk.queues.length k3)
 asd:W.cell? ⟨p,16,none⟩=some (.slice A4 d.desk.aside.length k4)
 tn:W.cell? ⟨p,18,none⟩=some (int i64 d.desk.turn)
 ron:∃f,AW W f (.slice A1 d.world.on.length k1) d.world.on
 rqu:rSl 1 (Ai 4 Ag) W g0 (.slice A3 d.desk.queues.length k3) d.desk.queues
 ras:rSl 4 Ag W g1 (.slice A4 d.desk.aside.length k4) d.desk.aside
theorem Box.of {w f cs d}(h:AG w f cs d){W p T}(hb:Below w w W)(K:Blk W p T cs.toArray):∃c1 l n o k1 k3 k4 i u g1,Box W p d c1 l n o k1 k3 k4 i u g1:=by
 obtain⟨c1,c2,i,f2,rfl,-,hw,hd⟩:=(AC.B AG.L AG.X h hb).parts;have y:=AF.wide _ _ _ _ hw;have x:AtW W p i d.world:=⟨c1,hw,fun q hq => by rw[K.cell,List.getElem?_toArray,List.getElem?_append_left hq];exact aO hq,K.lt⟩;obtain⟨A0,l,A2,c0,k1,k2,h0,z,h2,r⟩:=x.cells;obtain⟨n,o,A5,k3,k4,k5,u,g1,g2,c⟩:=Ej.ofArc K y hd;refine⟨c1,l,n,o,k1,k3,k4,i,u,g1,K.lt,y,Fb (Blk.rangeAll K),?_,x,hw,r.on,r.dn,c.k0,c.k1,c.k3,⟨z,r.ron⟩,c.r0,c.r1⟩;have e:shL d.world.s ++ c1.drop 9=c1:=by have:=List.take_append_drop 9 c1;rw[(GD hw).1]at this;exact this
 exact Fb (Fb (Blk.rangeAll (show Blk W p T ((shL d.world.s ++ c1.drop 9) ++ c2).toArray by rw[e];exact K)))
theorem Mf {w w':World}{p o l}(h:w.rangeAt p o l)(hb:Below w w w')(c:p<w.heap.size):w'.rangeAt p o l:=fun q v hq =>(hb.cell (p:=⟨p,o+q,none⟩) c).T (h q v hq)
theorem Box.B {W V p d c1 i l n k1 k3 k4 o q g1}(h:Box W p d c1 i l n k1 k3 k4 o q g1)(hb:Below W W V):Box V p d c1 i l n k1 k3 k4 o q g1:=by
 have c:∀j v,W.cell? ⟨p,j,none⟩=some v->V.cell? ⟨p,j,none⟩=some v:=fun j v e =>(hb.cell (p:=⟨p,j,none⟩) h.lt).T e
 obtain⟨f,r⟩:=h.ron;exact⟨aH h.lt hb.size,h.w15,Mf h.wr hb h.lt,Mf h.sh hb h.lt,h.aw.B hb,AC.B AF.L AF.X h.rwo hb,c _ _ h.on,c _ _ h.dn,c _ _ h.qu,c _ _ h.asd,c _ _ h.tn,⟨f,rSl.B Aw.L Aw.X r hb⟩,rSl.B (Ai.L Ag.L) (Ai.X Ag.X) h.rqu hb,rSl.B Ag.L Ag.X h.ras hb⟩
theorem fieldTh(w:World)(v:Value):(Instr.field 59 (.agg #[(),v]) 1).run prog w= .ok v w:=by kernel_rfl
theorem AW.close_ {w:World}{ad:Addr}{c:Nat}{xs:List Int}(h1:xs.length<=c)(l:c<=9223372036854775807)(h:∀k,(hk:k<xs.length)->w.cell? (ad.add k)=some (int i64 xs[k])/\okI xs[k]):
  AW w (Bf ad xs.length) (.slice (some ad) xs.length c) xs:=by
 refine⟨some ad,c,rfl,h1,by omega,.inr ⟨ad,xs.map fun b => [int i64 b],xs.map fun _ => [],rfl,by simp,by simp,?_,fun i e =>⟨by simpa using e,by simpa using e,by simp,fun j f => ?_,?_⟩⟩⟩
 ·have:(xs.map fun _ =>([]:List Addr)).flatten = []:=by simp[List.flatten_eq_nil_iff]
  rw[this];simp
 ·simp at f;subst f;simpa using(h i e).1
 ·have:=(h i e).2;unfold okI at this;simpa [Aw,okI]using this
theorem litI {w:World}{g:Nat}{xs:List Int}(f:xs.length<=1000)(h:∀k,(c:k<xs.length)->w.cell? ⟨g,k,none⟩=some (int i64 xs[k]))(e:Dc xs):AW w (Bf (zE g) xs.length) (.slice (some (zE g)) xs.length xs.length) xs :=
 AW.close_ (aD _) zZ fun k c =>⟨by rw[Addr.add_lit,Nat.zero_add];exact h k c,by have:=e _ (aT c);unfold okI;omega⟩
theorem Po(d X cs f w)(h:AG w f cs d)(ac:Int)(eu:ac=0)(hF:H7 d X)(dc:∀V,AG V f cs d->Calls prog 11 #[.agg cs] V (zN ac V))(df:∀V c1 f1,AF V f1 c1 d.world->Calls prog 13 #[.agg c1] V fun e w' =>∃v fs,e= .returned (.agg #[(),v])/\F8 w' fs v X/\Below V V w')(d3:d.world.s.sh.Ok)(hG:d.world.s.g+d.world.s.c=d.world.g.length)(hQ:d.desk.queues.length=d.world.g.length):
  Calls prog 5 #[.agg cs] w (zN (.string ⟨(GP d X).toArray⟩) w):=by
 have dx:=h.next.2;obtain⟨W0,ct⟩:∃W0,w.alloc (.cells cs.toArray 49)=W0:=zJ;have hB:Below w w W0:=by rw[<-ct];exact Ac (aC _ _) _
 have K1:Blk W0 w 49 cs.toArray:=by rw[<-ct];exact Blk.new w _ _
 have ca:=zq (dc W0 (AC.B AG.L AG.X h hB));obtain⟨c1,A1,A3,A4,k1,k3,k4,f1,g0,g1,ap⟩:=Box.of h hB K1;obtain⟨r,ek,HI,eg⟩:=zH (fun(V:World) (hV:Below W0 W0 V) => ap.B hV) (Blk.rangeAll K1) (show(prog.info? 49).map (·.size)=some cs.length by rw[dx];kernel_rfl) (show(prog.info? 42).map (·.size)=some c1.length by rw[ap.w15];kernel_rfl);obtain⟨br,cd,cb⟩:=zI hB (fun(V:World) (hV:Below W0 W0 V) => df V c1 f1 (ap.B hV).rwo) (fun(V:World) => EN d.world.s.sh d3 V);have fm:=ap.lt
 -- the head
 obtain⟨dn,cv⟩:∃dn,d.world.down=dn:=zJ;have bs:=zq (show∀(V:World) (g:Nat),V.cell? ⟨g,0,none⟩=some (int i64 d.desk.turn)->V.cell? ⟨g,1,none⟩=some (int i64 (if dn=true then 1 else 0))->Calls prog 12 #[.string ⟨#[116,117,114,110]⟩,.slice (some (zE g)) 2 2] V fun e w' => e= .returned (.string ⟨(Bg EU [d.desk.turn,if dn=true then 1 else 0]).toArray⟩)/\Below V V w' from fun V g h0 h1 => by
  have hn:Dc [d.desk.turn,if dn=true then 1 else 0]:=fun x hx => by
   rcases List.mem_cons.1 hx with rfl|hx
   ·exact hF.turn
   ·obtain rfl:=List.mem_singleton.1 hx;split <;> omega
  exact E1 EU _ _ _ V (litI (xs:=[d.desk.turn,if dn=true then 1 else 0]) zX (fun k hk => by
   match k,hk with
   |0,_ => exact h0
   |1,_ => exact h1) hn) hn zX (by simp[EU]))
 have cl:=zq (show∀(V:World),Below W0 W0 V->Calls prog 12 #[.string ⟨#[111,110]⟩,.slice A1 d.world.on.length k1] V fun e w' => e= .returned (.string ⟨(Bg sOn d.world.on).toArray⟩)/\Below V V w' from fun V hV => by
  obtain⟨fo,ho⟩:=(ap.B hV).ron;exact E1 sOn _ _ fo V ho hF.on (by have:=hF.onl;omega) (by simp[sOn]))
 obtain⟨dv,bk⟩:∃dv:Int,(if dn=true then 1 else 0)=dv:=zJ;rw[bk]at bs;have ed:=zq bk;have ec:=zq cv;have d5:=DJ EU [d.desk.turn,dv] (fun x hx => by
  rcases List.mem_cons.1 hx with rfl|hx
  ·exact hF.turn
  ·obtain rfl:=List.mem_singleton.1 hx;rw[<-bk];split <;> omega)
 have d6:=DJ sOn d.world.on hF.on;have fi:=hF.onl;obtain⟨TN,bz⟩:∃S:ByteArray,⟨(Bg EU [d.desk.turn,dv]).toArray⟩=S:=zJ;obtain⟨ON,bw⟩:∃S:ByteArray,⟨(Bg sOn d.world.on).toArray⟩=S:=zJ;have b4:=Dg bz d5;have ao:=Dg bw d6;have cn:TN ++⟨#[10]⟩ ++ ON ++⟨#[10]⟩=⟨(Ec d).toArray⟩:=by
  rw[<-bz,<-bw,show(⟨#[10]⟩:ByteArray)=⟨[10].toArray⟩from rfl,Bz,Bz,Bz];unfold Ec;rw[cv,bk]
 have dr:=Jl hF;obtain⟨H0,hH⟩:∃S:ByteArray,⟨(Ec d).toArray⟩=S:=zJ;have ba:=Dg hH dr;rw[hH]at cn;have de:=zq cn;rw[bz]at bs;rw[bw]at cl;have e7:EU.length=4/\sOn.length=2:=⟨rfl,rfl⟩;have n1:¬9223372036854775807<TN.size+1:=by simp at b4;omega
 have n2:¬9223372036854775807<TN.size+1+ON.size:=by simp at b4;omega
 have n3:¬9223372036854775807<TN.size+1+ON.size+1:=by simp at b4;omega
 have HH:=zq hH;have aj:=zq hF;subst eu;clear h ap hB K1 cn bz bw b4 ao d5 d6 e7 hH dr cv bk dc df d3 hF;go_enter func5,ntmps5
 go_upto_if 16 with(first
  |(refine aE rfl 49 _ rfl w 0 rfl cs _ ek.o underlying49 rfl HI.o ?_)
  |(go_at_call 11;(try rw[ct]);refine ca.o.M ?_;rintro e w3 ⟨rfl,b3⟩;have dh:=zq (r.o w3 b3);have dm:=dh.o.dn;rw[ec.o]at dm;have fl:=dh.o.lt;have B3:=zq b3;clear b3))
 go_cut [3] (fun v wx => v= int i64 dv/\wx=w3)
 ·cases dn
  all_goals
   go_wp2
   go_meet
   exact⟨by rw[<-ed.o];rfl,rfl⟩
 ·obtain⟨rfl,rfl⟩:=hcut;have eq:=(r.o wc B3.o).tn;have eo:=(r.o wc B3.o).on;clear dm;go_upto_region 6 with fail
  go_cut [4] (fun v wx => v= .string H0/\Hid (Below W0 W0 wx))
  ·have HS:=zq (show∀W,Below W0 W0 W->(W.cell? ⟨w.heap.size,18,none⟩=some (int i64 d.desk.turn)/\W.cell? ⟨w.heap.size,10,none⟩=some (.slice A1 d.world.on.length k1)/\w.heap.size<W.heap.size)from fun W hW =>⟨(r.o W hW).tn,(r.o W hW).on,(r.o W hW).lt⟩);clear eq eo;go_region_held3 (fun W => W.cell? ⟨w.heap.size,18,none⟩=some (int i64 d.desk.turn)/\W.cell? ⟨w.heap.size,10,none⟩=some (.slice A1 d.world.on.length k1)/\w.heap.size<W.heap.size)
    ((refine HS.o _ ?_;repeat(with_reducible first|exact B3.o|exact B5.o|exact B6.o|apply Ac|apply Am)))
    (first
     |(go_at_call_has 12 A1;refine(cl.o _ (by repeat(with_reducible first|exact B3.o|exact B5.o|exact B6.o|apply Ac|apply Am))).M ?_;rintro e w6 ⟨rfl,b6⟩;have B6:=zq (Below.T (show Below W0 W0 _ by repeat(with_reducible first|exact B3.o|exact B5.o|exact B6.o|apply Ac|apply Am)) (b6.M (by have:=B3.o.size;(try have:=B5.o.size);simp;omega)));(try have k0:w6.cell? ⟨wc.heap.size,0,none⟩=some (int i64 d.desk.turn):=(b6.cell (p:=⟨wc.heap.size,0,none⟩) zX).T ((Blk.new wc 2 #[d.desk.turn,int i64 dv]).cell 0));(try have k1:w6.cell? ⟨wc.heap.size,1,none⟩=some (int i64 dv):=(b6.cell (p:=⟨wc.heap.size,1,none⟩) zX).T ((Blk.new wc 2 #[d.desk.turn,int i64 dv]).cell 1));clear b6)
     |(go_at_call 12;refine(bs.o _ _ (by first|exact(Blk.new _ 2 #[d.desk.turn,int i64 dv]).cell 0|assumption) (by first|exact(Blk.new _ 2 #[d.desk.turn,int i64 dv]).cell 1|assumption)).M ?_;rintro e w5 ⟨rfl,b5⟩;have B5:=zq (Below.T (show Below W0 W0 _ by repeat(with_reducible first|exact B3.o|exact B5.o|exact B6.o|apply Ac|apply Am)) (b5.M (by have:=B3.o.size;(try have:=B6.o.size);simp;omega)));clear b5))
   all_goals
    go_wp2
    go_meet
    exact⟨by rw[de.o],by first|exact B5.o|exact B6.o⟩
  ·obtain⟨rfl,B4⟩:=hcut;have di:=zq (r.o wc B4.o);have cc:=zq (cd.o wc B4.o);go_upto_region 8 with(first
    |(refine aE rfl 42 _ rfl w 0 rfl c1 _ di.o.wr underlying42 rfl eg.o ?_)
    |(go_at_call 13;refine cc.o.M ?_;rintro e w5 ⟨v5,f5,rfl,r5,b5⟩;have B5:=zq (B4.o.T (b5.M B4.o.size));have R5:=zq r5;have ex:=fieldTh w5 v5;clear r5 b5))
   obtain⟨A5,c5,rfl,ew,ey,d7⟩:=rSl.at_ rTh.X zW R5.o;have dj:=zq d7;have cm:=zq (show∀j,j<=X.length->(Ec d ++(X.take j).flatMap Eo).length<=30000000000000 from fun j hj => by
    have h1:=Jl aj.o;have h2:=Jh (f:=Eo) (b:=4000000) (X.take j) (fun x hx => Kn (aj.o.xs x (List.mem_of_mem_take hx)));have h3:=aj.o.xl;rw[aX,Nat.min_eq_left hj]at h2;have h4:j * 4000000<=5000000 * 4000000:=Nat.mul_le_mul_right _ zZ;rw[aU];omega)
   have e8:=aj.o.xl;clear ex d7 R5 cc cd bs cl ca di;go_wp2
   go_loopw [4,6] (fun ov ix wr =>∃(j:Nat) (S:ByteArray),j<=X.length/\ix=j/\ov= .string S/\Hid ((⟨(Ec d ++(X.take j).flatMap Eo).toArray⟩:ByteArray)=S)/\Hid (Below w5 w5 wr)) (fun _ ix _ => X.length - (intOf ix).toNat)
   ·exact⟨0,H0,by omega,rfl,rfl,(show _=_ by rw[List.take_zero,List.flatMap_nil,List.append_nil];exact HH.o),aC _ _⟩
   ·obtain⟨j,S,hj,rfl,rfl,HS,HB⟩:=hrel;by_cases au:j<X.length
    ·obtain⟨ad,b3,o3,er,f3,rfl,bj⟩:=dj.o j au;have aa:=bj.B rTh.L HB.o;have d4:=aa.place;have a2:=aa.lt;obtain⟨v0,e,dz,b2⟩:=aa.reads;subst e;have q0:=aa.cell 0 zX;have q1:=aa.cell 1 zX;have q2:=aa.cell 2 zX;simp only[aW,bF,bC]at q0 q1 q2;have a3:=Dg HS.o (cm.o j hj);have c2:=aj.o.xs _ (aT au);have z:=GW (f:=Eo) au;obtain⟨t,ht⟩:∃t,X[j] =t:=zJ;rw[ht]at b2 q0 q1 z c2;have ci:=zq (fun(V:World) (hV:Below wr wr V) => Qj v0 t.bytes f3 V (b2.B hV) zZ);obtain⟨D,hD⟩:∃D:ByteArray,⟨(EI t).toArray⟩=D:=zJ;have fh:D.size<=2000004:=Dg hD (by
      unfold EI;split
      ·simp only[NZ,List.length_cons,List.length_nil];omega
      ·rw[FC];omega)
     have af:=zq (show(⟨(Ec d ++(X.take (j+1)).flatMap Eo).toArray⟩:ByteArray)=S ++⟨#[111,98,106,101,99,116,32]⟩ ++ t.name ++⟨#[32]⟩ ++ D ++⟨#[10]⟩from by
      have e1:(⟨#[111,98,106,101,99,116,32]⟩:ByteArray)=⟨Ko.toArray⟩:=rfl;have e2:(⟨#[32]⟩:ByteArray)=⟨[32].toArray⟩:=rfl;have e3:(⟨#[10]⟩:ByteArray)=⟨[10].toArray⟩:=rfl;have e4:t.name=⟨t.name.data.toList.toArray⟩:=by rw[Array.toArray_toList]
      rw[<-HS.o,<-hD,e1,e2,e3,e4,Bz,Bz,Bz,Bz,Bz,z];unfold Eo;simp only[List.append_assoc,Array.toArray_toList])
     have n1:¬9223372036854775807<S.size+7:=by omega
     have n2:¬9223372036854775807<S.size+7+t.name.size:=by omega
     have n3:¬9223372036854775807<S.size+7+t.name.size+1:=by omega
     have n4:¬9223372036854775807<S.size+7+t.name.size+1+D.size:=by omega
     have n5:¬9223372036854775807<S.size+7+t.name.size+1+D.size+1:=by omega
     obtain⟨nm,bl⟩:∃nm,t.name=nm:=zJ;rw[bl]at af n2 n3 n4 n5 q0;cases hlo:t.lost with
     |true =>
      rw[hlo]at q1;have bu:D=⟨#[108,111,115,116]⟩:=by
       rw[<-hD];unfold EI;rw[aM hlo];rfl
      subst bu;clear aa bj b2 z c2 hD dz bl hlo ci ht a3;go_wp2
      go_roundw
      ·exact⟨j+1,_,by omega,by go_num,rfl,af.o,HB.o⟩
      ·simp[intOf];omega
     |false =>
      rw[hlo]at q1;have bu:Gl t.bytes=D:=by
       rw[<-hD];unfold EI;rw[aJ (by rw[hlo];exact Bool.false_ne_true)];rfl
      rw[bu]at ci;clear aa bj b2 z c2 hD dz bl hlo bu ht a3;go_wp2_with (go_at_call 14;refine(ci.o _ (aC _ _)).M ?_;rintro e w6 ⟨rfl,b6⟩;have r0:=(b6.cell (p:=⟨b3,o3,none⟩) a2).T q0;have r1:=aH a2 b6.size;have B6:=zq (HB.o.T (b6.M HB.o.size));clear b6)
      go_roundw
      ·exact⟨j+1,_,by omega,by go_num,rfl,af.o,B6.o⟩
      ·simp[intOf];omega
    ·obtain rfl:j=X.length:=by omega
     have a3:=cm.o _ hj;have hS:=HS.o;rw[bA]at a3 hS;obtain⟨w6,rfl⟩:∃w6,w6=wr:=⟨wr,rfl⟩;have B6:=zq (B5.o.T (HB.o.M B5.o.size));obtain⟨P1,co⟩:∃P1,Ec d ++ X.flatMap Eo=P1:=zJ;rw[co]at hS a3;obtain⟨eh,be,em⟩:=zI co hS a3;obtain⟨nG,b0⟩:∃nG,d.world.g.length=nG:=zJ;have cj:=zq b0;have cw:=aj.o.gl;rw[b0]at cw;have a0:=zq (show∀V,Calls prog 15 #[.agg (shL d.world.s).toArray] V fun e w' => e= .returned nG/\Below V V w' from fun V => by
      have:=cb.o V;rw[<-b0,<-hG];exact this)
     have dg:=zq (fun(g:Nat) => Km (wd:=Dt) (g:=g) (L:=DZ (AD d.world g) (AD d.world g).length) (by simp[Dt]));have ej:=zq (fun(g:Nat) => Km (wd:=Ds) (g:=g) (L:=BJ ((d.desk.queues[g]?).getD [])) (by simp[Ds]));clear cm dj HS HB hS a3 co b0 cb B5 B4 hj au HH de ba n1 n2 n3 ew ey e8 hG;go_wp2
     go_loopw [4,8] (fun ov ix wr =>∃(g:Nat) (S:ByteArray),g<=nG/\ix=g/\ov= .string S/\Hid ((⟨(P1 ++(List.range g).flatMap (DT d)).toArray⟩:ByteArray)=S/\(P1 ++(List.range g).flatMap (DT d)).length<=30000000000000+g * 15000000)/\Hid (Below w6 w6 wr)) (fun _ ix _ => nG - (intOf ix).toNat)
     ·exact⟨0,S,by omega,rfl,rfl,(show _/\_ by rw[List.range_zero,List.flatMap_nil,List.append_nil];exact⟨be.o,by have:=em.o;omega⟩),aC _ _⟩
     ·clear be;obtain⟨g,S2,hg,rfl,rfl,af,HB⟩:=hrel;have BR:=zq (B6.o.T (HB.o.M B6.o.size));have ai:=zq (r.o wr BR.o);have c0:=ai.o.lt;by_cases au:g<nG
      ·have fj:(g:Int)<(nG:Int):=by omega
       have bf:=zq (fun(V:World) (hV:Below W0 W0 V) => Qk w f1 d.world g V (r.o V hV).aw (by rw[cj.o];exact au) (aj.o.dl g));obtain⟨am,ag⟩:=aj.o.wip (g:=g);have z:=Eh (f:=DT d) (j:=g);have u:=dg.o g zZ ag am;have l:DT d g=EQ Dt g (DZ (AD d.world g) (AD d.world g).length):=rfl;obtain⟨L,hL⟩:∃L,DZ (AD d.world g) (AD d.world g).length =L:=zJ;rw[hL]at bf am ag u l;by_cases aq:L= []
       ·subst aq;have ah:=zq (show((⟨(P1 ++(List.range (g+1)).flatMap (DT d)).toArray⟩:ByteArray)=S2/\(P1 ++(List.range (g+1)).flatMap (DT d)).length<=30000000000000+(g+1) * 15000000)from by
         have e:DT d g= []:=by rw[l];unfold EQ;rw[aM rfl]
         rw[z,e,List.append_nil];exact⟨af.o.1,aZ af.o.2 (Nat.add_le_add_left (Nat.mul_le_mul_right _ (Nat.le_succ g)) _)⟩)
        clear am ag z u l hL;go_wp2_with (first
         |(refine aE rfl 38 _ rfl w 0 rfl (shL d.world.s) _ ai.o.sh underlying38 rfl zY ?_)
         |(go_at_call 15;refine(a0.o _).M ?_;rintro e y ⟨rfl,b7⟩;have B7:=zq (BR.o.T (b7.M BR.o.size));have an:=zq (HB.o.T (b7.M HB.o.size));(try have bg:=zq (bf.o y B7.o));clear b7)
         |(go_at_call 16;refine bg.o.M ?_;rintro e w8 ⟨A8,c8,f8,rfl,r8,m8,b8⟩;have R8:=zq r8;have B8:=zq (B7.o.T (b8.M B7.o.size));have bq:=zq (an.o.T (b8.M an.o.size));clear r8 m8 b8))
        go_roundw
        ·exact⟨g+1,S2,by omega,by go_num,rfl,ah.o,bq.o⟩
        ·simp[intOf];omega
       ·obtain⟨nL,b1⟩:∃nL,L.length=nL:=zJ;have d0:0<nL:=by rw[<-b1];exact List.length_pos_iff.2 aq
        have a4:DT d g=Bg (Bg Dt [(g:Int)]) L ++ [10]:=by rw[l];unfold EQ;rw[aJ aq]
        unfold EQ at u;rw[aJ aq]at u;have ar:Dc [(g:Int)]:=fun x hx => by obtain rfl:=List.mem_singleton.1 hx;omega
        have bi:=DJ Dt [(g:Int)] ar;obtain⟨T1,a1⟩:∃S:ByteArray,⟨(Bg Dt [(g:Int)]).toArray⟩=S:=zJ;obtain⟨T2,ae⟩:∃S:ByteArray,⟨(Bg (Bg Dt [(g:Int)]) L).toArray⟩=S:=zJ;have cg:=zq (show∀(V:World) (gg:Nat),V.cell? ⟨gg,0,none⟩=some (int i64 g)->Calls prog 12 #[.string ⟨#[119,105,112,101,100]⟩,.slice (some (zE gg)) 1 1] V fun e w' => e= .returned (.string T1)/\Below V V w' from fun V gg h0 => by
         rw[<-a1];exact E1 Dt _ _ _ V (litI (xs:=[(g:Int)]) zX (fun k hk => by
          match k,hk with
          |0,_ => exact h0) ar) ar zX (by simp[Dt]))
        have bb:=zq (show∀(V:World) (v:Value) (fv:List Addr),AW V fv v L->Calls prog 12 #[.string T1,v] V fun e w' => e= .returned (.string T2)/\Below V V w' from fun V v fv hv => by
         rw[<-a1,<-ae];exact E1 _ L v fv V hv ag zZ (by have:Dt.length=5:=rfl;simp only[List.length_singleton]at bi;omega))
        have ao:=Dg ae (n:=15000000) (by rw[aU]at u;simp at u;omega);have bo:=Dg af.o.1 af.o.2;have ah:=zq (show((⟨(P1 ++(List.range (g+1)).flatMap (DT d)).toArray⟩:ByteArray)=S2 ++ T2 ++⟨#[10]⟩/\(P1 ++(List.range (g+1)).flatMap (DT d)).length<=30000000000000+(g+1) * 15000000)from by
         refine⟨?_,?_⟩
         ·rw[<-af.o.1,<-ae,show(⟨#[10]⟩:ByteArray)=⟨[10].toArray⟩from rfl,Bz,Bz,z,a4];simp only[List.append_assoc]
         ·have:=af.o.2;rw[z,a4,<-List.append_assoc,aU];omega)
        have ay:g * 15000000<=1000000 * 15000000:=Nat.mul_le_mul_right _ zZ;have n1:¬9223372036854775807<S2.size+T2.size:=by omega
        have n2:¬9223372036854775807<S2.size+T2.size+1:=by omega
        have fd:=zq b1;unfold H9 at bf;rw[b1]at bf;clear am ag z u l a4 hL ar bi a1 ae ao bo aq ay b1;go_wp2_with (first
         |(refine aE rfl 38 _ rfl w 0 rfl (shL d.world.s) _ ai.o.sh underlying38 rfl zY ?_)
         |(go_at_call 15;refine(a0.o _).M ?_;rintro e y ⟨rfl,b7⟩;have B7:=zq (BR.o.T (b7.M BR.o.size));have an:=zq (HB.o.T (b7.M HB.o.size));(try have bg:=zq (bf.o y B7.o));clear b7)
         |(go_at_call 16;refine bg.o.M ?_;rintro e w8 ⟨A8,c8,f8,rfl,r8,m8,b8⟩;have R8:=zq r8;have B8:=zq (B7.o.T (b8.M B7.o.size));have bq:=zq (an.o.T (b8.M an.o.size));clear r8 m8 b8)
         |(go_at_call_has 12 T1;refine(bb.o _ _ _ (rSl.B Aw.L Aw.X R8.o c7.o)).M ?_;rintro e fa ⟨rfl,bh⟩;have c9:=zq (da.o.T (bh.M da.o.size));clear bh)
         |(go_at_call 12;refine(cg.o _ _ ((Blk.new _ 2 #[int i64 (g:Int)]).cell 0)).M ?_;rintro e w9 ⟨rfl,b9⟩;have c7:=zq (show Below w8 w8 w9 from(Ac (aC _ _) _).T (b9.M zX));have da:=zq (bq.o.T (c7.o.M bq.o.size));clear b9))
        go_roundw
        ·exact⟨g+1,_,by omega,by go_num,rfl,ah.o,c9.o⟩
        ·simp[intOf];omega
      ·obtain rfl:g=nG:=by omega
       have cr:=af.o.1;have ao:=af.o.2;obtain⟨d9,rfl⟩:∃d9,d9=wr:=⟨wr,rfl⟩;have ce:=zq BR.o;obtain⟨P2,cp⟩:∃P2,P1 ++(List.range g).flatMap (DT d)=P2:=zJ;rw[cp]at cr ao;have ay:g * 15000000<=1000000 * 15000000:=Nat.mul_le_mul_right _ cw;obtain⟨en,ei,be,ck⟩:=zH (show P2.length<=46000000000000 by omega) cp cr hQ;rw[cj.o]at ck;clear cr ao cp ay af HB hg au BR B6 dg hQ;go_wp2_with (first
        |(refine aE rfl 38 _ rfl w 0 rfl (shL d.world.s) _ ai.o.sh underlying38 rfl zY ?_)
        |(go_at_call 15;refine(a0.o _).M ?_;rintro e ea ⟨rfl,a5⟩;have c6:=zq (ce.o.T (a5.M ce.o.size));clear a5))
       clear ai c0 ce;go_loopw [4,10] (fun ov ix wr =>∃(k:Nat) (S:ByteArray),k<=g/\ix=k/\ov= .string S/\Hid ((⟨(P2 ++(List.range k).flatMap (DP d)).toArray⟩:ByteArray)=S/\(P2 ++(List.range k).flatMap (DP d)).length<=46000000000000+k * 15000000)/\Hid (Below ea ea wr)) (fun _ ix _ => g - (intOf ix).toNat)
       ·exact⟨0,S2,by omega,rfl,rfl,(show _/\_ by rw[List.range_zero,List.flatMap_nil,List.append_nil];exact⟨be.o,by have:=en.o;omega⟩),aC _ _⟩
       ·clear be;obtain⟨k,S3,hk,rfl,rfl,ah,HB⟩:=hrel;have BR:=zq (c6.o.T (HB.o.M c6.o.size));have ai:=zq (r.o wr BR.o);have c0:=ai.o.lt;by_cases au:k<g
        ·have fk:(k:Int)<(g:Int):=by omega
         have cy:k<d.desk.queues.length:=by rw[ck.o];exact au
         obtain⟨fc,ff,ev,dw,dy,c4⟩:=rSl.at_ (Ai.X Ag.X) zW ai.o.rqu;injection ev with es dp et
         subst es et;obtain⟨ad,b3,o3,er,fq,rfl,aa⟩:=c4 k cy;have d4:=aa.place;rw[Nat.mul_one]at d4;have a2:=aa.lt;obtain⟨vq,e,bn⟩:=aa.reads;subst e;have q0:=aa.cell 0 zX;simp only[aW,bC]at q0;obtain⟨am,ag⟩:=aj.o.que (g:=k);have z:=Eh (f:=DP d) (j:=k);have u:=ej.o k zZ ag (by simpa [BJ]using am);have l:DP d k=EQ Ds k (BJ ((d.desk.queues[k]?).getD [])):=rfl;have cx:(d.desk.queues[k]?).getD [] =d.desk.queues[k]:=by rw[aO cy];rfl
         rw[cx]at am ag u l;obtain⟨q,hq⟩:∃q,d.desk.queues[k] =q:=zJ;rw[hq]at am ag u l bn;obtain⟨Aq,cq,rfl,dt,du⟩:=rSl.head bn;have e5:(k:Int)<(d.desk.queues.length:Int):=by omega
         obtain⟨nq,a9⟩:∃nq,q.length=nq:=zJ;have ak:=zq (fun(V:World) (hV:Below wr wr V) => OO _ q fq V (rSl.B Ag.L Ag.X bn hV) am);rw[a9]at q0 ak;by_cases bm:q= []
         ·have e0:nq=0:=by rw[<-a9,bm];rfl
          subst e0;have bd:=zq (show((⟨(P2 ++(List.range (k+1)).flatMap (DP d)).toArray⟩:ByteArray)=S3/\(P2 ++(List.range (k+1)).flatMap (DP d)).length<=46000000000000+(k+1) * 15000000)from by
           have e:DP d k= []:=by rw[l,bm];unfold EQ;rw[aM zT]
           rw[z,e,List.append_nil];exact⟨ah.o.1,aZ ah.o.2 (Nat.add_le_add_left (Nat.mul_le_mul_right _ (Nat.le_succ k)) _)⟩)
          clear am ag z u l hq bn c4 aa cx bm a9 dp ak dt du dw dy cy;go_wp2_with (first
           |(refine aE rfl 38 _ rfl w 0 rfl (shL d.world.s) _ ai.o.sh underlying38 rfl zY ?_)
           |(go_at_call 15;refine(a0.o _).M ?_;rintro e y ⟨rfl,b7⟩;have B7:=zq (BR.o.T (b7.M BR.o.size));have an:=zq (HB.o.T (b7.M HB.o.size));have bp:=(r.o y B7.o).lt;have bt:=(r.o y B7.o).qu;have c3:=(b7.cell (p:=⟨b3,o3,none⟩) a2).T q0;have l3:=aH a2 b7.size;have cf:=zq b7;clear b7))
          go_roundw
          ·exact⟨k+1,S3,by omega,by go_num,rfl,bd.o,an.o⟩
          ·simp[intOf];omega
         ·have d0:0<nq:=by rw[<-a9];exact List.length_pos_iff.2 bm
          obtain⟨L,hL⟩:∃L,BJ q=L:=zJ;have bv:L.length=nq:=by rw[<-hL,<-a9];simp[BJ]
          have aq:¬L= []:=fun e => by rw[e]at bv;simp at bv;omega
          rw[hL]at ag u l ak;have a4:DP d k=Bg (Bg Ds [(k:Int)]) L ++ [10]:=by rw[l];unfold EQ;rw[aJ aq]
          unfold EQ at u;rw[aJ aq]at u;have ar:Dc [(k:Int)]:=fun x hx => by obtain rfl:=List.mem_singleton.1 hx;omega
          have bi:=DJ Ds [(k:Int)] ar;obtain⟨T1,a1⟩:∃S:ByteArray,⟨(Bg Ds [(k:Int)]).toArray⟩=S:=zJ;obtain⟨T2,ae⟩:∃S:ByteArray,⟨(Bg (Bg Ds [(k:Int)]) L).toArray⟩=S:=zJ;have cg:=zq (show∀(V:World) (gg:Nat),V.cell? ⟨gg,0,none⟩=some (int i64 k)->Calls prog 12 #[.string ⟨#[113,117,101,117,101]⟩,.slice (some (zE gg)) 1 1] V fun e w' => e= .returned (.string T1)/\Below V V w' from fun V gg h0 => by
           rw[<-a1];exact E1 Ds _ _ _ V (litI (xs:=[(k:Int)]) zX (fun i hi => by
            match i,hi with
            |0,_ => exact h0) ar) ar zX (by simp[Ds]))
          have bb:=zq (show∀(V:World) (v:Value) (fv:List Addr),AW V fv v L->Calls prog 12 #[.string T1,v] V fun e w' => e= .returned (.string T2)/\Below V V w' from fun V v fv hv => by
           rw[<-a1,<-ae];exact E1 _ L v fv V hv ag zZ (by have:Ds.length=5:=rfl;simp only[List.length_singleton]at bi;omega))
          have ao:=Dg ae (n:=15000000) (by rw[aU]at u;simp at u;omega);have bo:=Dg ah.o.1 ah.o.2;have bd:=zq (show((⟨(P2 ++(List.range (k+1)).flatMap (DP d)).toArray⟩:ByteArray)=S3 ++ T2 ++⟨#[10]⟩/\(P2 ++(List.range (k+1)).flatMap (DP d)).length<=46000000000000+(k+1) * 15000000)from by
           refine⟨?_,?_⟩
           ·rw[<-ah.o.1,<-ae,show(⟨#[10]⟩:ByteArray)=⟨[10].toArray⟩from rfl,Bz,Bz,z,a4];simp only[List.append_assoc]
           ·have:=ah.o.2;rw[z,a4,<-List.append_assoc,aU];omega)
          have ay:k * 15000000<=1000000 * 15000000:=Nat.mul_le_mul_right _ zZ;have n1:¬9223372036854775807<S3.size+T2.size:=by omega
          have n2:¬9223372036854775807<S3.size+T2.size+1:=by omega
          unfold H9 at ak;rw[bv]at ak;clear am ag z u l a4 hL ar bi a1 ae ao bo aq ay a9 hq bn c4 aa cx bm dp dt du dw dy bv;go_upto_region 25 with(first
           |(refine aE rfl 38 _ rfl w 0 rfl (shL d.world.s) _ ai.o.sh underlying38 rfl zY ?_)
           |(go_at_call 15;refine(a0.o _).M ?_;rintro e y ⟨rfl,b7⟩;have B7:=zq (BR.o.T (b7.M BR.o.size));have an:=zq (HB.o.T (b7.M HB.o.size));have bp:=(r.o y B7.o).lt;have bt:=(r.o y B7.o).qu;have c3:=(b7.cell (p:=⟨b3,o3,none⟩) a2).T q0;have l3:=aH a2 b7.size;have cf:=zq b7;clear b7))
          obtain⟨nQ,ez⟩:∃nQ,d.desk.queues.length=nQ:=zJ;rw[ez]at bt e5;have el:=zq (show∀W,Below y y W->(W.cell? ⟨w.heap.size,15,none⟩=some (.slice (some ad) nQ k3)/\W.cell? ⟨b3,o3,none⟩=some (.slice Aq nq cq)/\w.heap.size<W.heap.size/\b3<W.heap.size)from fun W hW =>⟨(hW.cell (p:=⟨w.heap.size,15,none⟩) bp).T bt,(hW.cell (p:=⟨b3,o3,none⟩) l3).T c3,aH bp hW.size,aH l3 hW.size⟩);have ef:=zq (fun(V:World) (hV:Below y y V) => ak.o V (cf.o.T (hV.M cf.o.size)));clear bt c3 ak q0;go_region_held3 (fun W => W.cell? ⟨w.heap.size,15,none⟩=some (.slice (some ad) nQ k3)/\W.cell? ⟨b3,o3,none⟩=some (.slice Aq nq cq)/\w.heap.size<W.heap.size/\b3<W.heap.size)
           ((refine el.o _ ?_;repeat(with_reducible first|exact aC _ _|exact av.o|exact ax.o|exact ab.o|apply Ac|apply Am)))
           (first
            |(go_at_call_has 12 T1;refine(bb.o _ _ _ (by first|exact rSl.B Aw.L Aw.X dk.o eb.o|exact dk.o)).M ?_;rintro e fa ⟨rfl,bh⟩;have ab:=zq ((show Below y y _ by repeat(with_reducible first|exact aC _ _|exact av.o|exact ax.o|exact ab.o|apply Ac|apply Am)).T (bh.M (show Below y y _ by repeat(with_reducible first|exact aC _ _|exact av.o|exact ax.o|exact ab.o|apply Ac|apply Am)).size));clear bh)
            |(go_at_call 17;refine(ef.o _ (by repeat(with_reducible first|exact aC _ _|exact av.o|exact ax.o|exact ab.o|apply Ac|apply Am))).M ?_;rintro e az ⟨fb,fe,fg,rfl,d8,e9,a5⟩;have dk:=zq d8;(try have k0:az.cell? ⟨y.heap.size,0,none⟩=some (int i64 k):=(a5.cell (p:=⟨y.heap.size,0,none⟩) zX).T ((Blk.new y 2 #[int i64 (k:Int)]).cell 0));have av:=zq ((show Below y y _ by repeat(with_reducible first|exact aC _ _|exact av.o|exact ax.o|exact ab.o|apply Ac|apply Am)).T (a5.M (show Below y y _ by repeat(with_reducible first|exact aC _ _|exact av.o|exact ax.o|exact ab.o|apply Ac|apply Am)).size));clear d8 e9 a5)
            |(go_at_call 12;refine(cg.o _ _ (by first|exact(Blk.new _ 2 #[int i64 (k:Int)]).cell 0|assumption)).M ?_;rintro e w9 ⟨rfl,b9⟩;(try have eb:=zq ((show Below az az _ by repeat(with_reducible first|exact aC _ _|apply Ac|apply Am)).T (b9.M (show Below az az _ by repeat(with_reducible first|exact aC _ _|apply Ac|apply Am)).size)));have ax:=zq ((show Below y y _ by repeat(with_reducible first|exact aC _ _|exact av.o|exact ax.o|exact ab.o|apply Ac|apply Am)).T (b9.M (show Below y y _ by repeat(with_reducible first|exact aC _ _|exact av.o|exact ax.o|exact ab.o|apply Ac|apply Am)).size));clear b9))
          all_goals
           go_wp2
           go_roundw
           ·exact⟨k+1,_,by omega,by go_num,rfl,bd.o,an.o.T (ab.o.M an.o.size)⟩
           ·simp[intOf];omega
        ·obtain rfl:k=g:=by omega
         have a7:=ah.o.1;have ba:=ah.o.2;obtain⟨P3,bx⟩:∃P3,P2 ++(List.range k).flatMap (DP d)=P3:=zJ;rw[bx]at a7 ba;have ay:k * 15000000<=1000000 * 15000000:=Nat.mul_le_mul_right _ cw;have hf:GP d X=P3 ++ asdW d:=by
          unfold GP;rw[eh.o,cj.o,ei.o,ck.o,bx]
         have cu:=aj.o.al;have has:=aj.o.aside;have bc:=zq (fun(V:World) (hV:Below W0 W0 V) => OO _ d.desk.aside g1 V (r.o V hV).ras cu);have l:asdW d=if d.desk.aside= []then []else Bg FH (BJ d.desk.aside) ++ [10]:=rfl
         obtain⟨nA,a8⟩:∃nA,d.desk.aside.length=nA:=zJ;have ch:=zq (fun(V:World) (hV:Below W0 W0 V) =>(r.o V hV).asd);rw[a8]at ch bc;by_cases a6:d.desk.aside= []
         ·have e0:nA=0:=by rw[<-a8,a6];rfl
          subst e0;have ee:=zq (show(⟨(GP d X).toArray⟩:ByteArray)=S3 from by rw[hf,l,aM a6,List.append_nil,a7]);clear hf cu has l a8 ay a7 ba bx a6;go_wp2_with (first
           |(refine aE rfl 38 _ rfl w 0 rfl (shL d.world.s) _ ai.o.sh underlying38 rfl zY ?_)
           |(go_at_call 15;refine(a0.o _).M ?_;rintro e y ⟨rfl,b7⟩;have B7:=zq (BR.o.T (b7.M BR.o.size));have bp:=(r.o y B7.o).lt;have ep:=ch.o y B7.o;clear b7))
          go_ret
          exact⟨I1 ee.o.symm,br.o.T (B7.o.M br.o.size)⟩
         ·have d0:0<nA:=by rw[<-a8];exact List.length_pos_iff.2 a6
          have hl:=DJ FH (BJ d.desk.aside) has;have cz:(BJ d.desk.aside).length =nA:=by rw[<-a8];simp[BJ]
          obtain⟨L,hL⟩:∃L,BJ d.desk.aside=L:=zJ;rw[aJ a6]at l;rw[hL]at hl cz has bc l;obtain⟨T2,ae⟩:∃S:ByteArray,⟨(Bg FH L).toArray⟩=S:=zJ;have bb:=zq (show∀(V:World) (v:Value) (fv:List Addr),AW V fv v L->Calls prog 12 #[.string ⟨#[97,115,105,100,101]⟩,v] V fun e w' => e= .returned (.string T2)/\Below V V w' from fun V v fv hv => by
           rw[<-ae];exact E1 FH L v fv V hv has zZ (by simp[FH]))
          have ao:=Dg ae hl;have e6:FH.length=5:=rfl;have bo:=Dg a7 ba;have bd:=zq (show(⟨(GP d X).toArray⟩:ByteArray)=S3 ++ T2 ++⟨#[10]⟩from by
           rw[hf,l,<-a7,<-ae,show(⟨#[10]⟩:ByteArray)=⟨[10].toArray⟩from rfl,Bz,Bz];simp only[List.append_assoc])
          have n1:¬9223372036854775807<S3.size+T2.size:=by omega
          have n2:¬9223372036854775807<S3.size+T2.size+1:=by omega
          unfold H9 at bc;rw[cz]at bc;clear hf cu has l a8 ay a7 ba bx a6 hL hl cz ae ao e6 bo;go_wp2_with (first
           |(refine aE rfl 38 _ rfl w 0 rfl (shL d.world.s) _ ai.o.sh underlying38 rfl zY ?_)
           |(go_at_call 15;refine(a0.o _).M ?_;rintro e y ⟨rfl,b7⟩;have B7:=zq (BR.o.T (b7.M BR.o.size));have bp:=(r.o y B7.o).lt;have ep:=ch.o y B7.o;have dd:=zq (bc.o y B7.o);clear b7)
           |(go_at_call 17;refine dd.o.M ?_;rintro e w8 ⟨A8,c8,f8,rfl,r8,m8,b8⟩;have db:=zq (bb.o w8 _ _ r8);have B8:=zq (B7.o.T (b8.M B7.o.size));clear r8 m8 b8)
           |(go_at_call 12;refine db.o.M ?_;rintro e w9 ⟨rfl,b9⟩;have B9:=zq (B8.o.T (b9.M B8.o.size));clear b9))
          go_ret
          exact⟨I1 bd.o.symm,br.o.T (B9.o.M br.o.size)⟩
theorem strAt {P:Program}{w:World}(base)(t u r e:TypeId)(i:TypeInfo)(x:P.underlying t=some (.slice e))(y:P.underlying u=some .string)(hi:P.info? e=some i)(hz:i.zero=some (.int .u8 0))(c:i.size=1)(l:i.bytes=1)(v:Value)(n xs)(f:w.ownsRow base e 1 v n xs)(s:ByteArray)(hs:n+s.size<=140737488355328)(h:base<=w.heap.size):
  ∃p w',(Builtin.append_ #[t,u] r #[v,.string s]).run P w= .ok p w'/\w'.ownsRow base e 1 p (n+s.size) (xs ++ Lib.strCells s)/\w.grownBy w' v.ownBlock/\(p.ownBlock=v.ownBlock∨p.ownBlock=some w):=by
 obtain⟨p,w',hr,h2,h3,h4⟩:=Lib.run_append_own_string (P:=P) w base t u r e i x y hi hz c l v n xs f s (by unfold maxLen;omega) hs h;refine⟨p,w',hr,h2,h3,?_⟩;rcases f.2 with⟨rfl,rfl⟩|⟨g,cap,z,rfl,aa,hg,ad,ab,ac,-⟩
 ·by_cases hm:s.size=0
  ·rw[h4.2 ⟨rfl,hm⟩];exact .inl rfl
  ·have q:=run_append_nil_string (P:=P) w t u r e i (.int .u8 0) x y hi hz s zZ zZ (by rw[l];omega);rw[q]at hr;injection hr with hr _
   rw[<-hr];exact .inr rfl
 ·by_cases o:n+s.size<=cap
  ·have q:=Lib.run_append_room_string (P:=P) w t u r e i x y hi c g n cap z hg s o zZ;rw[q]at hr;injection hr with hr _
   rw[<-hr];exact .inl rfl
  ·have q:=Lib.run_append_grow_string (P:=P) w t u r e i (.int .u8 0) x y hi hz (zE g) n cap xs (by rw[c];simpa using f.1) (f.cells (g:=g) rfl) s zZ zZ (by rw[l];exact growslice_fits zZ zZ);rw[q]at hr;injection hr with hr _
   rw[<-hr];exact .inr rfl
theorem Kv {P:Program}{w:World}{e:Array Oper}{rest}{o:Oper}{a:Act}{Q:Exit->Act->World->Prop}{S:Value->World->Prop}(f:o.guard=none)(s x:Operand)(t u:TypeId)(p:o.op= .call { callee:=.builtin .append,args:=#[s,x],argTypes:=#[t,u] })(v z:Value)(q:a.eval s=v)(r:a.eval x=z)(hr:∃c w',(Builtin.append_ #[t,u] o.type #[v,z]).run P w= .ok c w'/\S c w')(h:∀c w',S c w'->wpList P e Q rest (a.put o.dst c) w'):wpList P e Q (o :: rest) a w:=by
 obtain⟨c,w',i,l⟩:=hr;refine wpList_plain f fun K n => ?_
 unfold Oper.wp execOp;simp only[p,resolve,invoke,builtin,Sem.run_bind,Sem.run_pure,Result.andThen_ok,List.map_toArray,List.map_cons,List.map_nil,q,r,i];exact n _ _ (h c w' l)
theorem Tryz.ccFresh(b:Nat)(w:World)(h:w.cell? ⟨b,0,none⟩=some (.pointer none))(f:w.shape? b=some (73,2))(c:w.frozen? ⟨b,0,none⟩=false):
  Calls prog 57 #[.pointer (some (zE b))] w fun e w' => e= .returned (.tuple #[])/\w'=w.setCell (zE b) (.pointer (some (zE b))) :=
 Any.Builder_copyCheck_fresh { Tryz.jL with } Tryz.bX.toX72 b w h f c
theorem Tryz.ccUsed(b:Nat)(w:World)(c:w.cell? ⟨b,0,none⟩=some (.pointer (some (zE b)))):
  Calls prog 57 #[.pointer (some (zE b))] w fun e w' => e= .returned (.tuple #[])/\w'=w :=
 Any.Builder_copyCheck_used { Tryz.jL with } Tryz.bX.toX72 b w c
def Else(b:Nat)(w w':World):Prop:=w'.heap.size=w.heap.size/\∀k,k≠b->w'.heap[k]? =w.heap[k]?
theorem PH(B b:Nat)(bs w)(h:Lib.IsBuilder 73 5 B b bs w):
  Calls prog 57 #[.pointer (some (zE b))] w fun e w' => e= .returned (.tuple #[])/\Lib.BuilderAt 73 5 B b (.pointer (some (zE b))) bs w'/\Below B w w'/\Else b w w'/\w'.cell? ⟨b,1,none⟩=w.cell? (zO b 1):=by
 rcases h with h|h
 ·refine(Tryz.ccFresh b w h.cell0 (by obtain⟨_,v,hb,_⟩:=h;simp[World.shape?,hb]) h.frozen0).M ?_;rintro e w' ⟨rfl,rfl⟩;refine⟨rfl,h.used _,(aC B w).setCell (p:=⟨b,0,none⟩) h.1 _,⟨by simp[World.setCell],fun k c => ?_⟩,World.cell?_setCell_other _ _ _ _ (fun e => by injection e with _ e;omega)⟩;simp only[World.setCell,Array.getElem?_modify,aJ (fun e => c (Eq.symm e):¬b=k)]
 ·refine(Tryz.ccUsed b w h.cell0).M ?_;rintro e w' ⟨rfl,rfl⟩;exact⟨rfl,h,aC B _,⟨rfl,fun _ _ => rfl⟩,rfl⟩
structure Bld (B b M0 M1:Nat) (bs:List Value) (w:World):Prop where
 at_:Lib.IsBuilder 73 5 B b bs w
 buf:∃v,w.cell? ⟨b,1,none⟩=some v/\∀k,v.ownBlock=some k->k<M0∨M1<=k
 lt:b<M0
 le:M1<=w.heap.size
 base:B<=b
theorem Bld.size {B b c e bs w}(h:Bld B b c e bs w):b<w.heap.size:=by
 rcases h.at_ with h|h <;> exact h.lt
theorem Bld.B {B b l n bs w w'}(h:Bld B b l n bs w)(hb:Below w w w'):Bld B b l n bs w':=by
 obtain⟨v,x,y⟩:=h.buf;have o:=h.size;have f:=hb.block b o;have c:∀p,Lib.BuilderAt 73 5 B b p bs w->Lib.BuilderAt 73 5 B b p bs w':=by
  rintro p ⟨r,u,s,e,i⟩;exact⟨r,u,f.T s,e.kept (row:=none) ⟨hb.os,hb.tape,hb.output,hb.size,fun k f _ => hb.block k f⟩ (by cases u.ownBlock <;> simp),i⟩
 exact⟨h.at_.elim (fun q => .inl (c _ q)) (fun q => .inr (c _ q)),⟨v,(hb.cell (p:=⟨b,1,none⟩) o).T x,y⟩,h.lt,aZ h.le hb.size,h.base⟩
theorem Bld.zone {B b l n bs w w'}(h:Bld B b l n bs w)(hb:Below w w w'):Bld B b w w' bs w':=by
 have o:=h.B hb;refine⟨o.at_,?_,h.size,aD _,h.base⟩;obtain⟨v,i,-⟩:=h.buf;refine⟨v,(hb.cell (p:=⟨b,1,none⟩) h.size).T i,fun k q => .inl ?_⟩;have f:∀p,Lib.BuilderAt 73 5 B b p bs w->k<w.heap.size:=by
  rintro p ⟨x,u,s,c,r⟩;have e:u=v:=by
   have:=Lib.cell_of_heap s 1;rw[i]at this;simpa using this.symm
  rw[e]at c;exact(c.lt k q).2
 exact h.at_.elim (f _) (f _)
theorem NT(B b M0 M1 bs)(s:ByteArray)(w)(h:Bld B b M0 M1 bs w)(y:bs.length+s.size<=140737488355328):
  Calls prog 22 #[.pointer (some (zE b)),.string s] w fun e w' => e= .returned (.tuple #[int i64 s.size,.nilIface])/\Bld B b M0 M1 (bs ++ Lib.strCells s) w'/\Below B w w'/\∀k,M0<=k->k<M1->w'.heap[k]? =w.heap[k]?:=by
 obtain⟨i0,hi,aj,ak,al⟩:=info_parts Tryz.info5;have aq:=h.size;have HC:=zq (PH B b bs w h.at_);obtain⟨v,hv,hz⟩:=h.buf;have HV:=zq hv;have HL:=zq y;have ah:=h.lt;have ap:=h.le;have an:=h.base;clear h y hv;go_enter func22,ntmps22
 go_wp2_with (go_at_call 57;refine HC.o.M ?_)
 rintro e w1 ⟨rfl,h1,aa,⟨ar,ab⟩,z⟩;obtain⟨hB,u,r,f,ac⟩:=h1;have c0:w1.cell? ⟨b,0,none⟩=some (.pointer (some (zE b))):=by rw[Lib.cell_of_heap r];rfl
 have c1:w1.cell? ⟨b,1,none⟩=some u:=by rw[Lib.cell_of_heap r];rfl
 obtain rfl:u=v:=by
  rw[c1,HV.o]at z;simpa using z
 obtain⟨ad,HK,HO,af,HE,ae⟩:=zF (strAt (P:=prog) B 61 9 61 5 i0 underlying61 underlying9 hi aj ak al u bs.length bs f s HL.o zZ) r f ac ab aa;clear r f ac ab aa z;have HM:=zq (show∀(l:Value) (c:World),(c.ownsRow B 5 1 l (bs.length+s.size) (bs ++ Lib.strCells s)/\w1.grownBy c u.ownBlock/\(l.ownBlock=u.ownBlock∨l.ownBlock=some w1))->∃ao n' cap,l= .slice ao n' cap/\c.cell? ⟨b,0,none⟩=some (.pointer (some (zE b)))/\c.cell? ⟨b,1,none⟩=some u/\c.frozen? ⟨b,1,none⟩=false/\Bld B b M0 M1 (bs ++ Lib.strCells s) (c.setCell (zO b 1) l)/\Below B w (c.setCell (zO b 1) l)/\∀k,M0<=k->k<M1->(c.setCell (zO b 1) l).heap[k]? =w.heap[k]? from by
  rintro l c ⟨i,x,ag⟩;have ai:b<w1.heap.size:=by omega
  have n:c.heap[b]? =some (.cells #[.pointer (some (zE b)),u] 73 (0,0)):=(x.block b ai (fun e => af.o e.symm)).T HK.o;have d1:c.cell? ⟨b,1,none⟩=some u:=by rw[Lib.cell_of_heap n];rfl
  obtain⟨ao,n',cap,e⟩:∃ao n' cap,l= .slice ao n' cap:=by
   rcases i.2 with⟨hv,_⟩|⟨g,cap,am,hv,_⟩
   ·exact⟨_,_,_,hv⟩
   ·exact⟨_,_,_,hv⟩
  refine⟨ao,n',cap,e,by rw[Lib.cell_of_heap n];rfl,d1,Lib.frozen_of_heap n 1,⟨.inr (Lib.BuilderAt.put (T:=73) (e:=5) hB n (by rw[aU,Lib.strCells_length];exact i) Tryz.bX.neB5),⟨l,World.cell?_setCell_same _ _ _ d1,fun k hk => ?_⟩,ah,?_,hB⟩,(ae.o.grown x zZ (fun k hk =>(HO.o.lt k hk).1)).setCell (p:=⟨b,1,none⟩) hB _,fun k h0 h1 => ?_⟩
  ·rcases ag with q|q
   ·exact hz k (q.symm.T hk)
   ·rw[q]at hk;injection hk with hk
    omega
  ·have:=x.size;simp[World.setCell];omega
  ·have h2:¬b=k:=by omega
   simp only[World.setCell,Array.getElem?_modify,aJ h2];rw[x.block k zZ (fun e => by rcases hz k e.symm with q|q <;> omega),HE.o k (fun e => h2 e.symm)])
 go_wp2_with (at_builtin;refine Kv rfl (.tmp 12) (.tmp 13) 61 9 rfl _ _ zT zT ad.o ?_;rintro l c hS;obtain⟨ao,n',cap,rfl,d0,d1,f1,hF⟩:=HM.o _ _ hS;have HF:=zq hF;clear hS hF)
 go_ret2
 exact⟨rfl,HF.o⟩
