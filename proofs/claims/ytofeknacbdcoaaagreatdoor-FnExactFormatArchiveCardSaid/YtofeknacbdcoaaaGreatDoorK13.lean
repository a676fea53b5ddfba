/- Part 13 of the proof. -/
import Derived.Test.YtofeknacbdcoaaaGreatDoorK12
import Derived.Test.YtofeknacbdcoaaaGreatDoorK01
import Derived.Deep.RegionLaw
import Derived.Test.YtofeknacbdcoaaaGreatDoorK03
import Derived.Lib.SliceRun
set_option maxHeartbeats 8000000
set_option maxRecDepth 100000
set_option linter.unusedVariables false
set_option linter.unusedSimpArgs false
open Go.Proofs.Tryz
open Go.Value (int)
open Go.IntKind (i64)
namespace Go.Proofs.YtofeknacbdcoaaaGreatDoor
open Go.RowKit Go.Lib Go.Sort
attribute [local go_sem] Oper.semAt_some
theorem IJ {P:Program}{n:Func}{p u f e}(h:n.results= #[.cell p f,.cell u e])(tmps:Array Value)(w g t)(cs:Array Value)(d:TypeDesc)(g2 v2)(r:tmps.getD p undef= .pointer (some (zE g)))(hg:Blk w g t cs)(s:P.underlying f=some d)(q:(match d with| .struct _| .array _ _ => true|_ => false)=true)(hi:(P.info? f).map (·.size)=some cs.size)(l:tmps.getD u undef= .pointer (some (zE g2)))(o:(loadVar e (zE g2)).run P w= .ok v2 w):
  (results n tmps).run P w= .ok (.tuple #[.agg cs,v2]) w:=by
 have i:tmps[p]?.getD undef= .pointer (some (zE g)):=by simpa using r
 have c:tmps[u]?.getD undef= .pointer (some (zE g2)):=by simpa using l
 simp[results,h,i,c,asAddr,run_loadVar_row w g t f cs (0,0) d hg s q hi,o]
theorem Lq {w:World}{g:Nat}{v}(h:w.cell? ⟨g,0,none⟩=some v):(loadVar 4 (zE g)).run prog w= .ok v w:=by
 simp[loadVar,go_sem,h,isAgg4]
theorem Below.wide_ {B:Nat}{c}:∀(e:List Value) (b o:Nat) (w:World),B<=b->Below B c w->Below B c (w.setCells b o e)
 | [],_,_,_,_,h => h
 |v :: r,b,o,_,hb,h => Below.wide_ r b (o+1) _ hb (h.setCell hb v)
theorem Ah.over {w w':World}{fs v}{bs:List UInt8}(h:Ah w fs v bs)(s:∀a u,w.cell? a=some (.int .u8 u)->w'.cell? a=some (.int .u8 u)):∃f,Ah w' f v bs:=by
 obtain⟨A,c,rfl,o,i,l⟩:=Ah.open_ h;cases bs with
 |nil => exact⟨[],Ah.empty i⟩
 |cons x r =>
  obtain⟨y,rfl,-⟩:=l 0 zX;refine⟨_,Ah.close_ o i fun k q => ?_⟩;obtain⟨n,e,-,-,p⟩:=l k q;injection e with e;subst e
  exact s _ _ p
theorem not_u8 {W g t}{cs:Array Value}(K:Blk W g t cs)(hn:∀v,v∈cs->∀u,v≠ .int .u8 u){a:Addr}{u}(h:W.cell? a=some (.int .u8 u)):a.block≠g:=fun e => by
 have c:W.heap[g]? =some (.cells cs t (0,0)):=K;unfold World.cell? at h;rw[e,c]at h;simp only at h;split at h
 ·cases h
 ·exact hn _ (Array.mem_of_getElem? h) _ rfl
structure NW (b6 b7:Nat) {w0:World} (x:Dh w0) (W:World):Prop where
 k6:Blk W b6 105 x.cs.toArray
 k7:Blk W b7 4 #[.bool true]
 dat:∃f v,x.cs[7]? =some v/\Ah W f v x.d.data
theorem NW.own(e i){l}:Own (fun(x:Dh l) W => NW e i x W):=fun x X Y row c hg hr =>
 ⟨Mz e 105 (fun x:Dh l => x.cs.toArray) x X Y row c.k6 hg hr,Mz i 4 (fun _:Unit => #[Value.bool true]) () X Y row c.k7 hg hr,by
  obtain⟨f,v,o,p⟩:=c.dat;obtain⟨n,q⟩:=p.over (w':=Y) (fun a u h => cell_kept h hg hr);exact⟨n,v,o,q⟩⟩
def RecA(o:Option Aj)(w:World)(e:Ending)(w':World):Prop :=
 (∃d cs f v,o=some d/\e= .returned (.tuple #[.agg cs,.bool true])/\cs.size=9/\cs.all (·.oneCell')=true/\cs[7]? =some v/\Ah w' f v d.data/\Below w w w')∨(o=none/\∃cs,e= .returned (.tuple #[.agg cs,.bool false])/\cs.size=9/\cs.all (·.oneCell')=true/\Below w w w')
theorem Dh.row7 {l}(x:Dh l):x.cs.length=9/\(∀v∈x.cs,v.oneCell'=true)/\x.cs[5]? =some (int i64 x.d.row)/\∃f v,x.cs[7]? =some v/\Ah l f v x.d.data:=by
 obtain⟨i,d,cs,fk,ok⟩:=x;obtain⟨o,e,-⟩:=Af.encoded ok 0;obtain⟨q,n,r,p,g1,g2,h,-,-,-,-,-,-,-,-,c,-⟩:=ok;refine⟨(by rw[<-e];rfl:cs.length=9),(by rw[<-e];exact Je o:∀v∈cs,v.oneCell'=true),by simp[h],⟨g1,n,by simp[h],c⟩⟩
theorem lastF_of {e}{L:List Aj}{c:List (Dh e)}{x:Dh e}{row:Int}{k}(f:(c ++ [x]).map Dh.d=L.reverse.take k)(hi:∀y,y∈c->y.d.row≠row)(h:x.d.row=row):FL L row=some x.d:=by
 unfold FL;rw[<-List.take_append_drop k L.reverse,<-f,List.map_append,List.append_assoc,List.find?_append];have:(c.map Dh.d).find? (fun x => decide (x.row=row))=none:=by
  rw[List.find?_eq_none];intro z l;obtain⟨y,i,rfl⟩:=List.mem_map.1 l;simpa using hi y i
 rw[this];simp[h]
theorem lastF_no {i}{L:List Aj}{c:List (Dh i)}{row:Int}(e:c.map Dh.d=L.reverse)(hi:∀y,y∈c->y.d.row≠row):FL L row=none:=by
 unfold FL;rw[<-e,List.find?_eq_none];intro z h;obtain⟨y,f,rfl⟩:=List.mem_map.1 h;simpa using hi y f
theorem RS(p fs d)(group row:Int)(w)(h:AtW w p fs d)(bf:d.s.sh.Ok)(be:0<=group)(bh:(Dk d).length<=1000000):
  Calls prog 229 #[.pointer (some (zE p)),int i64 group,int i64 row] w (RecA (ER d.s.g (AU d) group row) w):=by
 obtain⟨W1,ad⟩:∃W1,((w.alloc (.cells #[int i64 row] 2)).alloc (.cells yY 105)).alloc (.cells #[.bool false] 4)=W1:=zJ;have a4:Below w w W1:=by rw[<-ad];exact(((aC _ _).alloc (aD _) _).alloc zX _).alloc zV _
 have K5:Blk W1 w 2 #[int i64 row]:=by rw[<-ad];exact((Blk.new w _ _).alloc _).alloc _
 have K6:Blk W1 (w.heap.size+1) 105 yY:=by rw[<-ad];exact(Blk.new1 w _ _ _).alloc _
 have K7:Blk W1 (w.heap.size+1+1) 4 #[.bool false]:=by rw[<-ad];exact Blk.new2 w _ _ _ _
 have bw:W1.heap.size=w.heap.size+3:=by rw[<-ad];simp
 have a0:=zq (h.B a4);obtain⟨A0,A1,A2,c0,c1,c2,f0,f1,f2,a1⟩:=a0.o.cells;have al:=zq a1.s;have hp:=a1.lt;have HD:=zq (Hq d.s.sh bf group W1);unfold shV at HD;rw[show d.s.sh.g=d.s.g from rfl,show d.s.sh.c=d.s.c from rfl,show d.s.sh.data=d.s.data from rfl,show d.s.sh.p=d.s.p from rfl,show d.s.sh.rows=d.s.rows from rfl,show d.s.sh.cap=d.s.cap from rfl,show d.s.sh.b=d.s.b from rfl,show d.s.sh.q=d.s.q from rfl,show d.s.sh.t=d.s.t from rfl]at HD;obtain⟨av,bl,a7,a8,HU⟩:=zG a4 K5 K6 K7 (fun(w2:World) (hb:Below W1 W1 w2) => Pz p fs d group w2 (a0.o.B hb) bf be bh);have ap:ER d.s.g (AU d) group row=if group<d.s.g then FL (CA d.s.g (AU d) group) row else none:=rfl
 obtain⟨rr,bg⟩:∃rr,ER d.s.g (AU d) group row=rr:=zJ;rw[bg]at ap⊢;have ae:=zq ap;obtain⟨L,hL⟩:∃L,CA d.s.g (AU d) group=L:=zJ;rw[hL]at HU ae;clear hL ap bg a1 h a4 K5 K6 K7 a0 bh;have ag:(prog.info? 105).map (·.size)=some 9:=by kernel_rfl
 refine(callsIn_wide (n:=9)).1 ?_;refine callsIn_of_wp_marks func229 rfl trivial ?_ rfl;refine wpIn_wide.2 ?_;simp only[ntmps229,bD,List.length_cons,List.length_nil,Nat.reduceAdd,Nat.reduceSub,Array.replicate_succ,Array.replicate_zero,List.push_toArray,List.append_toArray,List.nil_append,List.cons_append];by_cases qg:group<d.s.g
 ·have an:Ap group 0 (d.s.g - 1)=true:=FD be zZ;rw[an]at HD;rw[aM qg]at ae;clear an qg;go_wp2_with (first
   |(refine aE rfl 38 (.tmp 12) rfl p 0 rfl _ _ (by first|exact al.o|(rw[ad];exact al.o)) underlying38 rfl zY ?_)
   |(go_at_call 202;(try rw[ad]);refine HD.o.M ?_;rintro e w2 ⟨rfl,b2⟩;have B2:=zq b2;have ba:=zq (HU.o w2 b2);clear b2)
   |(go_at_call 263;refine ba.o.M ?_;rintro e w3 ⟨A5,c5,f5,rfl,r5,b5⟩;have R5:=zq r5;have B5:=zq b5;clear r5 b5)
   |(go_at_call 262;refine(Rg _ _ _ _).M ?_;rintro e w4 ⟨rfl,rfl⟩))
  obtain⟨w4,ay⟩:∃w4,w3.alloc (.cells #[.slice A5 L.length c5] 99)=w4:=zJ;have a3:Below w3 w3 w4:=by rw[<-ay];exact(aC _ _).alloc (aD _) _
  have bq:w4.heap.size=w3.heap.size+1:=by rw[<-ay];simp
  have KB:w4.cell? ⟨w3.heap.size,0,none⟩=some (.slice A5 L.length c5):=by rw[<-ay];exact(Blk.new w3 _ _).cell 0
  have bp:=zq (rSl.B Af.L Af.X R5.o a3);have am:Below W1 W1 w4:=B2.o.trans (((B5.o).trans (a3.M B5.o.size)).M B2.o.size);have bt:=B2.o.size;have bu:=B5.o.size;obtain⟨ai,bn,bb,bd⟩:=zH am (bl.o.B am zZ) (a7.o.B am zZ) (a8.o.B am zZ);rw[ay];clear a3 am HU ba al HD R5 ad;refine(wpIn_wide (n:=9)).1 ?_;refine wpIn_rangeFunc_ownH (F:=Fence.wide) rfl zZ (gf:=276) (lb:=#[.pointer (some (zE w3))]) rfl trivial (enters_of func276 zY rfl)
   (Rf w3 w4 A5 c5 f5 L w4 bp.o rfl (9 - 1) zZ KB) belowK_t (belowK_b (aD _)) (aC _ _) (fun _ => rfl)
   (fun pre W =>(∀y,y∈pre->y.d.row≠row)/\Below w4 w4 W)
   (fun c pre W =>(c= .ret/\∃ar x,pre=ar ++ [x]/\(∀y,y∈ar->y.d.row≠row)/\x.d.row=row/\NW (w.heap.size+1) (w.heap.size+1+1) x W)/\Below w w W)
   (OwnFrom.and (ownFrom_pure _ _) (ownFrom_below (aD _) (aD _)))
   (fun c => OwnFrom.and (Own.from (fun s X Y au hs hg hr => by obtain⟨e,ar,x,e1,e2,e3,hL⟩:=hs;exact⟨e,ar,x,e1,e2,e3,NW.own _ _ x X Y au hL hg hr⟩) _) (ownFrom_below (aD _) zZ))
   ⟨(fun y hy => by cases hy),aC _ _⟩
   (fun x a' W =>∃Bx,w4.heap.size<=Bx/\Blk W Bx 105 x.cs.toArray/\a'= { tmps:=#[.pointer (some (zE p)),int i64 group,int i64 row,undef,undef,.pointer (some (zE w)),.pointer (some (zE (w.heap.size+1))),.pointer (some (zE (w.heap.size+1+1))),undef,.pointer (some (zE Bx)),.pointer (some (zE p)),.pointer (some (zE p)),.pointer (some (zE p)),.agg d.s,int i64 group,.bool true,.bool false,undef,.pointer (some (zE p)),int i64 group,.slice A5 L.length c5,.func (.func 276) #[] #[.pointer (some (zE w3))],int i64 x.i,.agg x.cs.toArray,undef,undef,undef,undef,undef,undef],defers:=[] })
   (fun x a' _ X Y au hs hg hr => by obtain⟨Bx,e1,e2,e3⟩:=hs;exact⟨Bx,e1,Mz Bx 105 (fun x:Dh w4 => x.cs.toArray) x X Y au e2 hg (fun r e =>(hr r e).2),e3⟩)
   ?assign ?body ?done ?stop
  case assign =>
   rintro l pre x W K ⟨aq,hB⟩ hK;obtain⟨ac,ah,-,-⟩:=x.row7;have aj:=hB.size;have a5:(prog.info? 105).map (·.size)=some x.cs.toArray.size:=by rw[bD,ac];exact ag
   have ao:=all_oneCell_toArray ah;obtain⟨k9,HK,ax,HB⟩:=zH (Blk.new W 105 yY) hK aq hB;clear hK aq hB ah;gi_wp2_with (refine GK rfl 105 (.tmp 9) (.tmp 23) rfl W 0 x.cs.toArray rfl rfl (k9.o.there _ (by rw[bD,ac];exact aD _)) a5 ao ?_)
   refine HK.o _ _ (((KeepsOthers.alloc _ _).trans (KeepsOthers.setCells _ _ _ _)).from _) ?_ ⟨ax.o,?_⟩ ⟨W.heap.size,aj,?_,rfl⟩
   ·exact Below.wide_ _ _ _ _ zZ ((aC _ W).alloc aj _)
   ·exact Below.wide_ _ _ _ _ zZ (HB.o.alloc aj _)
   ·exact k9.o.laid x.cs (by rw[ac];rfl)
  case body =>
   rintro l pre x a' W hl ⟨r,hr⟩ ⟨aq,hB⟩ ⟨Bx,bv,kX,rfl⟩ bz;obtain⟨ac,ah,bj,fd,vd,bs,az⟩:=x.row7;have aj:=hB.size;have a5:(prog.info? 105).map (·.size)=some x.cs.toArray.size:=by rw[bD,ac];exact ag
   have bi:(prog.info? 105).map (·.size)=some x.cs.length:=by rw[ac];exact ag
   have ao:=all_oneCell_toArray ah;have q5:W.cell? ⟨Bx,5,none⟩=some (int i64 x.d.row):=by rw[kX.cell 5];simpa using bj
   have k5:=bn.o.B hB zZ;have k6:=bb.o.B hB zZ;have k7:=bd.o.B hB zZ;have c5:W.cell? ⟨w.heap.size,0,none⟩=some (int i64 row):=(k5.cell 0).trans rfl;obtain⟨ax,HB,bm,z,a6⟩:=zG aq hB kX k6 (Ah.B az hB);obtain⟨W5,f⟩:∃W5,W.setCells (w.heap.size+1) 0 x.cs.toArray.toList=W5:=zJ;have ab:=zq f;have af:Blk W5 (w.heap.size+1+1) 4 #[.bool false]:=by rw[<-f];exact Blk.farS _ _ _ _ zZ k7
   have aa:=zq af;have c7:W5.cell? ⟨w.heap.size+1+1,0,none⟩=some (.bool false):=(af.cell 0).trans rfl;have z7:W5.frozen? ⟨w.heap.size+1+1,0,none⟩=false:=af.frozen 0;clear aq hB ah bj kX k5 k6 az f af hr;by_cases qr:x.d.row=row
   ·have hq:(x.d.row == row)=true:=by simpa using qr
    have a2:=zq qr;clear qr;gi_wp2_with (first
     |(refine GX rfl 105 (.tmp 9) rfl Bx 0 rfl x.cs _ (bm.o.rangeAll) underlying105 rfl bi ?_)
     |(refine GK rfl 105 (.tmp 6) (.tmp 28) rfl (w.heap.size+1) 0 x.cs.toArray rfl rfl (z.o.there _ (by rw[bD,ac];exact aD _)) a5 ao ?_;rw[ab.o]))
    have br:KeepsOthers W (W5.setCell (zE (w.heap.size+1+1)) (.bool true)):=by
     rw[<-ab.o];exact(KeepsOthers.setCells _ _ _ _).trans (KeepsOthers.setCell _ _ _)
    have bc:Blk W5 (w.heap.size+1) 105 x.cs.toArray:=by
     rw[<-ab.o];exact z.o.laid x.cs (by rw[ac];rfl)
    refine⟨br.from _,⟨rfl,pre,x,rfl,ax.o,a2.o,bc.far zX _,aa.o.set_ 0 _,?_⟩,?_⟩
    ·obtain⟨f',h'⟩:=a6.o.over (w':=W5.setCell (zE (w.heap.size+1+1)) (.bool true)) (fun a u ha => by
      have e6:=not_u8 z.o zX ha;have e7:=not_u8 k7 zX ha;rw[World.cell?_setCell_other _ _ _ _ (fun e => e7 (by rw[<-e])),<-ab.o,World.cell?_setCells_out _ _ _ _ _ (fun e _ => absurd e e6)];exact ha)
     exact⟨f',vd,bs,h'⟩
    ·have:Below w w W:=av.o.trans ((ai.o.trans (HB.o.M ai.o.size)).M zZ);refine Below.setCell ?_ zV _;rw[<-ab.o];exact Below.wide_ _ _ _ _ zZ this
   ·have hq:(x.d.row == row)=false:=by simpa using qr
    have a2:=zq qr;clear qr bq;gi_wp2_with fail
    refine⟨KeepsFrom.refl _ _,aC _ _,(fun y hy => ?_),HB.o⟩;rcases List.mem_append.1 hy with hy|hy
    ·exact ax.o y hy
    ·simp at hy;subst hy;exact a2.o
  case done =>
   rintro D ys W hD hS ⟨hI,hB⟩ hK;have aj:=hB.size;have e1:rr=none:=by rw[ae.o];exact lastF_no hS hI
   subst e1;have k6:=bb.o.B hB zZ;have k7:=bd.o.B hB zZ;have z:=zq k6;obtain⟨W5,f⟩:∃W5,W.setCells (w.heap.size+1) 0 (yY:Array Value).toList =W5:=zJ;have ab:=zq f;have af:Blk W5 (w.heap.size+1+1) 4 #[.bool false]:=by rw[<-f];exact Blk.farS _ _ _ _ zZ k7
   have aa:=zq af;have c7:W5.cell? ⟨w.heap.size+1+1,0,none⟩=some (.bool false):=(af.cell 0).trans rfl;have z7:W5.frozen? ⟨w.heap.size+1+1,0,none⟩=false:=af.frozen 0;have bk:Blk W5 (w.heap.size+1) 105 yY:=by rw[<-f];exact k6.laid _ zT
   obtain⟨ak,HB,aw⟩:=zI bk hB ((KeepsOthers.setCells (w.heap.size+1) (yY:Array Value).toList 0 W).same D _ hK rfl);have hv:=zeroValue105;clear hB hI hS hK k6 f af bk;go_wp2_with (refine aV rfl 105 (.tmp 6) (.tmp 29) rfl (w.heap.size+1) 0 yY rfl rfl (z.o.there _ zX) (by rw[ag];rfl) zU ?_;rw[ab.o])
   have bo:(W5.setCell (zE (w.heap.size+1+1)) (.bool false)).heap[D]? =some (.deferred (some [])):=(KeepsOthers.setCell _ _ _).same D _ (by rw[<-ab.o];exact aw.o) rfl;refine⟨by simp,.inl ⟨_,_,rfl,run_takeDeferred bo,?_⟩⟩;have g6:=(ak.o.far (p:=⟨w.heap.size+1+1,0,none⟩) zX (.bool false)).grown (grownBy_putObj' _ D (.deferred none)) (by intro e;injection e with e;omega);have g7:=(aa.o.set_ 0 (.bool false)).grown (grownBy_putObj' _ D (.deferred none)) (by intro e;injection e with e;omega);refine⟨_,IJ (g:=w.heap.size+1) (g2:=w.heap.size+1+1) (v2:=.bool false) rfl _ _ _ _ _ rfl g6 underlying105 rfl (by rw[ag];rfl) rfl ?_,.inr ⟨rfl,_,rfl,rfl,by simp[Value.oneCell'],?_⟩⟩
   ·exact Lq ((g7.cell 0).trans rfl)
   ·have b5:Below w w W:=av.o.trans ((ai.o.trans (HB.o.M ai.o.size)).M zZ);have b6:Below w w (W5.setCell (zE (w.heap.size+1+1)) (.bool false)):=by
     refine Below.setCell ?_ zV _;rw[<-ab.o];exact Below.wide_ _ _ _ _ zZ b5
    exact b6.grown (grownBy_putObj' _ D (.deferred none)) b6.size (fun k e => by injection e with e;omega)
  case stop =>
   rintro D c pre W hD ⟨k,hk⟩ ⟨⟨rfl,ar,x,rfl,hi,hx,hL⟩,hB⟩ hK;have e1:rr=some x.d:=by rw[ae.o];exact lastF_of hk hi hx
   subst e1;obtain⟨HL,HB,aw⟩:=zI hL hB hK;clear hL hB hi hK;have aj:=HB.o.size;have bx:=av.o.size;gi_wp2
   refine⟨by simp,.inl ⟨_,_,rfl,run_takeDeferred aw.o,?_⟩⟩;have g6:=HL.o.k6.grown (grownBy_putObj' W D (.deferred none)) (by intro e;injection e with e;omega);have g7:=HL.o.k7.grown (grownBy_putObj' W D (.deferred none)) (by intro e;injection e with e;omega);obtain⟨ac,ah,-⟩:=x.row7;obtain⟨f7,v7,e7,r7⟩:=HL.o.dat;obtain⟨f8,r8⟩:=r7.over (w':=W.putObj D (.deferred none)) (fun a u h => cell_kept h (grownBy_putObj' W D (.deferred none)) (fun r e => by cases e;exact⟨_,aw.o,rfl⟩));refine⟨_,IJ (g:=w.heap.size+1) (g2:=w.heap.size+1+1) (v2:=.bool true) rfl _ _ _ _ _ rfl g6 underlying105 rfl (by rw[bD,ac];exact ag) rfl (Lq ((g7.cell 0).trans rfl)),.inl ⟨x.d,_,f8,v7,rfl,rfl,by rw[bD,ac],all_oneCell_toArray ah,by simpa using e7,r8,?_⟩⟩;exact HB.o.grown (grownBy_putObj' _ D (.deferred none)) HB.o.size (fun k e => by injection e with e;omega)
 ·have an:Ap group 0 (d.s.g - 1)=false:=Gp zZ;rw[an]at HD;rw[aJ qg]at ae;have e1:rr=none:=ae.o;subst e1;have hv:=zeroValue105;clear an qg HU;go_wp2_with (first
   |(refine aE rfl 38 (.tmp 12) rfl p 0 rfl _ _ (by first|exact al.o|(rw[ad];exact al.o)) underlying38 rfl zY ?_)
   |(go_at_call 202;(try rw[ad]);refine HD.o.M ?_;rintro e w2 ⟨rfl,b2⟩;have B2:=zq b2;have b0:=b2.size;have z:=zq (a7.o.B b2 zZ);have a9:=zq (a8.o.B b2 zZ);clear b2)
   |(refine aV rfl 105 (.tmp 6) (.tmp 17) rfl (w.heap.size+1) 0 yY rfl rfl (z.o.there _ zX) (by rw[ag];rfl) zU ?_;obtain⟨W5,f⟩:∃W5,w2.setCells (w.heap.size+1) 0 (yY:Array Value).toList =W5:=zJ;have ab:=zq f;have aa:=zq (show Blk W5 (w.heap.size+1+1) 4 #[.bool false] by rw[<-f];exact Blk.farS _ _ _ _ zZ a9.o);have ak:=zq (show Blk W5 (w.heap.size+1) 105 yY by rw[<-f];exact z.o.laid _ zT);rw[f];clear f;have c7:W5.cell? ⟨w.heap.size+1+1,0,none⟩=some (.bool false):=(aa.o.cell 0).trans rfl;have z7:W5.frozen? ⟨w.heap.size+1+1,0,none⟩=false:=aa.o.frozen 0))
  have g6:=ak.o.far (p:=⟨w.heap.size+1+1,0,none⟩) zX (.bool false);have g7:=aa.o.set_ 0 (.bool false);refine⟨_,IJ (g:=w.heap.size+1) (g2:=w.heap.size+1+1) (v2:=.bool false) rfl _ _ _ _ _ rfl g6 underlying105 rfl (by rw[ag];rfl) rfl (Lq ((g7.cell 0).trans rfl)),.inr ⟨rfl,_,rfl,rfl,by simp[Value.oneCell'],?_⟩⟩;refine Below.setCell ?_ zV _;rw[<-ab.o];exact Below.wide_ _ _ _ _ zZ (av.o.trans (B2.o.M zZ))
end Go.Proofs.YtofeknacbdcoaaaGreatDoor
namespace Go.Proofs.YtofeknacbdcoaaaGreatDoor
open Go.RowKit
def xt(a:Nat):Nat:=if a<128 then 2 * a else(2 * a) ^^^ 285
def Dr:Nat->Nat->Nat->Nat
 |0,_,_ => 0
 |k+1,a,b =>(if b % 2=1 then a else 0) ^^^ Dr k (xt a) (b / 2)
def En(a b:Nat):Nat:=Dr 8 a b
theorem EO {a b:Nat}(c:a<256)(hb:b<256):a ^^^ b<256:=Nat.xor_lt_two_pow (n:=8) c hb
theorem FN {a:Nat}(h:a<256):xt a<256:=by
 unfold xt;split
 ·omega
 ·have:∀a,a<256->128<=a->(2 * a) ^^^ 285<256:=by decide +kernel
  exact this a h zZ
theorem MO:∀(k a b:Nat),a<256->Dr k a b<256
 |0,_,_,_ => by simp[Dr]
 |k+1,a,b,h => by
  rw[Dr];refine EO ?_ (MO k _ _ (FN h));split <;> omega
theorem Kk(a b:Nat)(h:a<256):En a b<256:=MO 8 a b h
theorem GG:∀(k a:Nat),Dr k a 0=0
 |0,_ => rfl
 |k+1,a => by rw[Dr];simp[GG k]
theorem Nr:∀(k a b:Nat),b<2 ^ k->Dr (k+1) a b=Dr k a b
 |0,a,b,h => by
  obtain rfl:b=0:=by simpa using h
  rw[GG,GG]
 |k+1,a,b,h => by
  rw[Dr,Nr k (xt a) (b / 2) (by rw[Nat.pow_succ]at h;omega),Dr]
theorem TD(a b:Nat)(h:b<256):Dr 8 a b=(if b % 2=1 then a else 0) ^^^ Dr 8 (xt a) (b / 2):=by
 rw[Nr 7 (xt a) (b / 2) zZ];rfl
theorem wrap8 {x:Nat}(h:x<256):IntKind.u8.wrap (x:Int)=x:=by
 simp[IntKind.wrap,IntKind.bits,IntKind.signed];omega
theorem FO {x y:Nat}(c:x<256)(f:y<256):bits .xor .u8 (x:Int) (y:Int)=((x ^^^ y:Nat):Int):=by
 have e:(BitVec.ofInt 8 (x:Int) ^^^ BitVec.ofInt 8 (y:Int)).toNat =x ^^^ y:=by
  rw[BitVec.ofInt_natCast,BitVec.ofInt_natCast,BitVec.toNat_xor,BitVec.toNat_ofNat,BitVec.toNat_ofNat,Nat.mod_eq_of_lt c,Nat.mod_eq_of_lt f]
 show IntKind.u8.wrap (((BitVec.ofInt 8 (x:Int) ^^^ BitVec.ofInt 8 (y:Int)).toNat:Nat):Int)=_
 rw[e];exact wrap8 (EO c f)
theorem Dw {x y:Nat}(c:x<256)(f:y<256):bits .and .u8 (x:Int) (y:Int)=((x &&& y:Nat):Int):=by
 have e:(BitVec.ofInt 8 (x:Int) &&& BitVec.ofInt 8 (y:Int)).toNat =x &&& y:=by
  rw[BitVec.ofInt_natCast,BitVec.ofInt_natCast,BitVec.toNat_and,BitVec.toNat_ofNat,BitVec.toNat_ofNat,Nat.mod_eq_of_lt c,Nat.mod_eq_of_lt f]
 show IntKind.u8.wrap (((BitVec.ofInt 8 (x:Int) &&& BitVec.ofInt 8 (y:Int)).toNat:Nat):Int)=_
 rw[e];exact wrap8 (Nat.lt_of_le_of_lt Nat.and_le_left c)
theorem Kh {x:Nat}(c:x<256):x &&& 128=if x<128 then 0 else 128:=by
 have:∀x,x<256->x &&& 128=if x<128 then 0 else 128:=by decide +kernel
 exact this x c
theorem xt_hi {x:Nat}(c:x<256)(h:¬x<128):(x * 2 % 256) ^^^ 29=xt x:=by
 have:∀x,x<256->¬x<128->(x * 2 % 256) ^^^ 29=xt x:=by decide +kernel
 exact this x c h
theorem G5(a b:Nat)(ha:a<256)(hb:b<256)(w:World):
  Calls prog 285 #[.int .u8 (a:Int),.int .u8 (b:Int)] w (zM (.int .u8 ((En a b:Nat):Int)) w):=by
 obtain⟨R,hR⟩:∃R,Dr 8 a b=R:=zJ;unfold En;rw[hR];have HR:=zq hR;clear hR;go_enter func285,ntmps285
 go_wp2
 go_loop [0,1,5] (fun x y o =>∃p q r:Nat,p<256/\q<256/\r<256/\x= .int .u8 p/\y= .int .u8 q/\o= .int .u8 r/\r ^^^ Dr 8 p q=R) (fun _ y _ =>(intOf y).toNat)
 ·exact⟨a,b,0,ha,hb,by omega,rfl,rfl,rfl,by rw[Nat.zero_xor];exact HR.o⟩
 ·obtain⟨p,q,r,c,hq,hr,rfl,rfl,rfl,hi⟩:=hrel;have u:=zq hi;clear hi;by_cases h0:0<q
  ·have h1:(0:Int)<(q:Int):=by omega
   have hs:=TD p q hq;have hx:=FO hr c;have e1:((q / 2:Nat):Int)=(q:Int) / 2:=by omega
   have z:=zq hs;clear hs;by_cases i:q % 2=1
   all_goals by_cases f:p<128
   ·have l:bits .and .u8 (q:Int) 1=1:=(Dw hq (show 1<256 by omega)).T (by rw[Nat.and_one_is_mod,i];rfl);have n:bits .and .u8 (p:Int) 128=0:=(Dw c (show 128<256 by omega)).T (by rw[Kh c,aM f];rfl);go_wp2
    go_round
    ·exact⟨xt p,q / 2,r ^^^ p,FN c,by omega,EO hr c,by rw[xt,aM f];congr 1;omega,by rw[e1],by first|rfl|rw[hx],by have:=u.o;rw[z.o,aM i,<-Nat.xor_assoc]at this;exact this⟩
    ·simp[intOf];omega
   ·have l:bits .and .u8 (q:Int) 1=1:=(Dw hq (show 1<256 by omega)).T (by rw[Nat.and_one_is_mod,i];rfl);have n:bits .and .u8 (p:Int) 128=128:=(Dw c (show 128<256 by omega)).T (by rw[Kh c,aJ f];rfl);have s:bits .xor .u8 ((p:Int) * 2 % 256) 29=((xt p:Nat):Int):=by
     have:=FO (show p * 2 % 256<256 by omega) (show 29<256 by omega);rw[xt_hi c f]at this;exact this
    go_wp2
    go_round
    ·exact⟨xt p,q / 2,r ^^^ p,FN c,by omega,EO hr c,by first|rfl|rw[s],by rw[e1],by first|rfl|rw[hx],by have:=u.o;rw[z.o,aM i,<-Nat.xor_assoc]at this;exact this⟩
    ·simp[intOf];omega
   ·have l:bits .and .u8 (q:Int) 1=0:=(Dw hq (show 1<256 by omega)).T (by rw[Nat.and_one_is_mod,show q % 2=0 by omega];rfl);have n:bits .and .u8 (p:Int) 128=0:=(Dw c (show 128<256 by omega)).T (by rw[Kh c,aM f];rfl);go_wp2
    go_round
    ·exact⟨xt p,q / 2,r,FN c,by omega,hr,by rw[xt,aM f];congr 1;omega,by rw[e1],rfl,by have:=u.o;rw[z.o,aJ i,Nat.zero_xor]at this;exact this⟩
    ·simp[intOf];omega
   ·have l:bits .and .u8 (q:Int) 1=0:=(Dw hq (show 1<256 by omega)).T (by rw[Nat.and_one_is_mod,show q % 2=0 by omega];rfl);have n:bits .and .u8 (p:Int) 128=128:=(Dw c (show 128<256 by omega)).T (by rw[Kh c,aJ f];rfl);have s:bits .xor .u8 ((p:Int) * 2 % 256) 29=((xt p:Nat):Int):=by
     have:=FO (show p * 2 % 256<256 by omega) (show 29<256 by omega);rw[xt_hi c f]at this;exact this
    go_wp2
    go_round
    ·exact⟨xt p,q / 2,r,FN c,by omega,hr,by first|rfl|rw[s],by rw[e1],rfl,by have:=u.o;rw[z.o,aJ i,Nat.zero_xor]at this;exact this⟩
    ·simp[intOf];omega
  ·obtain rfl:q=0:=by omega
   have h:=u.o;rw[GG,Nat.xor_zero]at h;subst h;go_wp2
   go_ret
   exact⟨rfl,rfl⟩
theorem wrap64 {x:Nat}(h:x<65536):IntKind.i64.wrap (x:Int)=x:=by
 simp[IntKind.wrap,IntKind.bits,IntKind.signed];omega
theorem Jb {x y:Nat}(c:x<65536)(f:y<65536):bits .xor .i64 (x:Int) (y:Int)=((x ^^^ y:Nat):Int):=by
 have e:(BitVec.ofInt 64 (x:Int) ^^^ BitVec.ofInt 64 (y:Int)).toNat =x ^^^ y:=by
  rw[BitVec.ofInt_natCast,BitVec.ofInt_natCast,BitVec.toNat_xor,BitVec.toNat_ofNat,BitVec.toNat_ofNat,Nat.mod_eq_of_lt zZ,Nat.mod_eq_of_lt zZ]
 show IntKind.i64.wrap (((BitVec.ofInt 64 (x:Int) ^^^ BitVec.ofInt 64 (y:Int)).toNat:Nat):Int)=_
 rw[e];exact wrap64 (Nat.xor_lt_two_pow (n:=16) c f)
theorem TC(k a b:Nat)(h:k<8):Dr (8 - k) a (b / 2 ^ k)=(if b / 2 ^ k % 2=1 then a else 0) ^^^ Dr (8 - (k+1)) (xt a) (b / 2 ^ (k+1)):=by
 rw[show 8 - k=(8 - (k+1))+1 from by omega,Dr,Nat.div_div_eq_div_mul,Nat.pow_succ]
theorem Mo(a b:Nat)(ha:a<256)(hb:b<256)(w:World):
  Calls prog 241 #[.int .u8 (a:Int),.int .u8 (b:Int)] w (zM (.int .u8 ((En a b:Nat):Int)) w):=by
 obtain⟨R,hR⟩:∃R,Dr 8 a b=R:=zJ;unfold En;rw[hR];have HR:=zq hR;clear hR;go_enter func241,ntmps241
 go_wp2
 go_loop [5,6,7] (fun o x i =>∃p k r:Nat,p<256/\k<=8/\r<256/\x=p/\i=k/\o=r/\r ^^^ Dr (8 - k) p (b / 2 ^ k)=R) (fun _ _ i => 8 - (intOf i).toNat)
 ·exact⟨a,0,0,ha,by omega,by omega,rfl,rfl,rfl,by rw[Nat.zero_xor];simpa using HR.o⟩
 ·obtain⟨p,k,r,y,hk,hr,rfl,rfl,rfl,hi⟩:=hrel;have z:=zq hi;clear hi;by_cases h0:k<8
  ·have h1:(k:Int)<8:=by omega
   have hs:=TC k p b h0;have hx:=Jb (show r<65536 by omega) (show p<65536 by omega);have f:b / 2 ^ k<256:=Nat.lt_of_le_of_lt (Nat.div_le_self _ _) hb;have n:((b / 2 ^ k:Nat):Int)=(b:Int) / 2 ^ k:=by rw[Int.natCast_ediv,Int.natCast_pow];rfl
   have HS:=zq hs;clear hs;by_cases c:b / 2 ^ k % 2=1
   all_goals by_cases l:p<128
   ·have q:bits .and .u8 ((b:Int) / 2 ^ k) 1=1:=by rw[<-n];exact(Dw f (show 1<256 by omega)).T (by rw[Nat.and_one_is_mod,c];rfl)
    have s:¬(255:Int)<2 * (p:Int):=by omega
    clear n;go_wp2
    go_round
    ·exact⟨xt p,k+1,r ^^^ p,FN y,by omega,EO hr y,by rw[xt,aM l];rfl,by go_num,by first|rfl|rw[hx],by have:=z.o;rw[HS.o,aM c,<-Nat.xor_assoc]at this;exact this⟩
    ·simp[intOf];omega
   ·have q:bits .and .u8 ((b:Int) / 2 ^ k) 1=1:=by rw[<-n];exact(Dw f (show 1<256 by omega)).T (by rw[Nat.and_one_is_mod,c];rfl)
    have s:(255:Int)<2 * (p:Int):=by omega
    have u:bits .xor .i64 (2 * (p:Int)) 285=((xt p:Nat):Int):=by
     have:=Jb (show 2 * p<65536 by omega) (show 285<65536 by omega);rw[xt,aJ l];exact this
    clear n;go_wp2
    go_round
    ·exact⟨xt p,k+1,r ^^^ p,FN y,by omega,EO hr y,by first|rfl|rw[u],by go_num,by first|rfl|rw[hx],by have:=z.o;rw[HS.o,aM c,<-Nat.xor_assoc]at this;exact this⟩
    ·simp[intOf];omega
   ·have q:bits .and .u8 ((b:Int) / 2 ^ k) 1=0:=by rw[<-n];exact(Dw f (show 1<256 by omega)).T (by rw[Nat.and_one_is_mod,show b / 2 ^ k % 2=0 by omega];rfl)
    have s:¬(255:Int)<2 * (p:Int):=by omega
    clear n;go_wp2
    go_round
    ·exact⟨xt p,k+1,r,FN y,by omega,hr,by rw[xt,aM l];rfl,by go_num,rfl,by have:=z.o;rw[HS.o,aJ c,Nat.zero_xor]at this;exact this⟩
    ·simp[intOf];omega
   ·have q:bits .and .u8 ((b:Int) / 2 ^ k) 1=0:=by rw[<-n];exact(Dw f (show 1<256 by omega)).T (by rw[Nat.and_one_is_mod,show b / 2 ^ k % 2=0 by omega];rfl)
    have s:(255:Int)<2 * (p:Int):=by omega
    have u:bits .xor .i64 (2 * (p:Int)) 285=((xt p:Nat):Int):=by
     have:=Jb (show 2 * p<65536 by omega) (show 285<65536 by omega);rw[xt,aJ l];exact this
    clear n;go_wp2
    go_round
    ·exact⟨xt p,k+1,r,FN y,by omega,hr,by first|rfl|rw[u],by go_num,rfl,by have:=z.o;rw[HS.o,aJ c,Nat.zero_xor]at this;exact this⟩
    ·simp[intOf];omega
  ·obtain rfl:k=8:=by omega
   have h:=z.o;rw[show 8 - 8=0 from rfl,Dr,Nat.xor_zero]at h;subst h;go_wp2
   go_ret
   exact⟨rfl,rfl⟩
def DQ(a:Nat):Nat->Nat × Nat
 |0 =>(1,a)
 |k+1 => let s:=DQ a k;(if 254 / 2 ^ k % 2=1 then En s.1 s.2 else s.1,En s.2 s.2)
def EG(a:Nat):Nat:=(DQ a 8).1
theorem MU {a:Nat}(h:a<256):∀k,(DQ a k).1<256/\(DQ a k).2<256
 |0 =>⟨by simp[DQ],h⟩
 |k+1 => by
  obtain⟨c,e⟩:=MU h k;refine⟨?_,Kk _ _ e⟩;simp only[DQ];split
  ·exact Kk _ _ c
  ·exact c
theorem MF {a:Nat}(h:a<256):EG a<256:=(MU h 8).1
def Js(a:Nat):Nat->Nat
 |0 => 1
 |k+1 => En (Js a k) a
theorem Q4 {a}:∀k,Js a k<256
 |0 => by simp[Js]
 |k+1 => Kk _ _ (Q4 k)
def gp:Nat->Nat
 |0 => 1
 |i+1 => xt (gp i)
def logT:List Nat:=[0,0,1,25,2,50,26,198,3,223,51,238,27,104,199,75,4,100,224,14,52,141,239,129,28,193,105,248,200,8,76,113,5,138,101,47,225,36,15,33,53,147,142,218,240,18,130,69,29,181,194,125,106,39,249,185,201,154,9,120,77,228,114,166,6,191,139,98,102,221,48,253,226,152,37,179,16,145,34,136,54,208,148,206,143,150,219,189,241,210,19,92,131,56,70,64,30,66,182,163,195,72,126,110,107,58,40,84,250,133,186,61,202,94,155,159,10,21,121,43,78,212,229,172,115,243,167,87,7,112,192,247,140,128,99,13,103,74,222,237,49,197,254,24,227,165,153,119,38,184,180,124,17,68,146,217,35,32,137,46,55,63,209,91,149,188,207,205,144,135,151,178,220,252,190,97,242,86,211,171,20,42,93,158,132,60,57,83,71,109,65,162,31,45,67,216,183,123,164,118,196,23,73,236,127,12,111,246,108,161,59,82,41,157,85,170,251,96,134,177,187,204,62,90,203,89,95,176,156,169,160,81,11,245,22,235,122,117,44,215,79,174,213,233,230,231,173,232,116,214,244,234,168,80,88,175]
theorem gp_log:∀a,a<256->a≠0->gp (logT.getD a 0)=a:=by decide +kernel
theorem top7:∀a,a<256->(a<128↔a.testBit 7=false):=by decide +kernel
theorem dbl(a b:Nat):2 * (a ^^^ b)=(2 * a) ^^^ (2 * b):=by
 have:=Nat.shiftLeft_xor_distrib (a:=a) (b:=b) (i:=1);simpa [Nat.shiftLeft_eq,Nat.mul_comm]using this
theorem xt_lin {a b:Nat}(i:a<256)(hb:b<256):xt (a ^^^ b)=xt a ^^^ xt b:=by
 have f:a ^^^ b<256:=Nat.xor_lt_two_pow (n:=8) i hb;have h:=top7 (a ^^^ b) f;rw[Nat.testBit_xor]at h;have c:=top7 a i;have e:=top7 b hb;unfold xt;rw[dbl];cases e1:a.testBit 7 <;> cases e2:b.testBit 7 <;> simp only[e1,e2]at h c e
 all_goals simp at h c e
 ·rw[aM h,aM c,aM e]
 ·rw[aJ zZ,aM c,aJ zZ,Nat.xor_assoc]
 ·rw[aJ zZ,aJ zZ,aM e,Nat.xor_assoc,Nat.xor_assoc,Nat.xor_comm 285]
 ·rw[aM h,aJ zZ,aJ zZ];rw[show(2 * a ^^^ 285) ^^^ (2 * b ^^^ 285)=(2 * a ^^^ 2 * b) ^^^ (285 ^^^ 285)from by ac_rfl,Nat.xor_self,Nat.xor_zero]
theorem gp_lt:∀i,gp i<256
 |0 => by simp[gp]
 |i+1 => FN (gp_lt i)
theorem xt_zero:xt 0=0:=rfl
theorem QU:∀(k a b:Nat),a<256->Dr k (xt a) b=xt (Dr k a b)
 |0,_,_,_ => rfl
 |k+1,a,b,h => by
  rw[Dr,Dr,QU k (xt a) (b / 2) (FN h),xt_lin (by split <;> omega) (MO _ _ _ (FN h))];split
  ·rfl
  ·rw[xt_zero]
theorem OU {a:Nat}(h:a<256):En 1 a=a:=by
 have:∀a,a<256->En 1 a=a:=by decide +kernel
 exact this a h
theorem QQ {b:Nat}(hb:b<256):∀j,En (gp j) b=(Nat.repeat xt j b)
 |0 => OU hb
 |j+1 => by
  show Dr 8 (xt (gp j)) b=xt (Nat.repeat xt j b)
  rw[QU 8 _ _ (gp_lt j)];exact congrArg xt (QQ hb j)
theorem rep_gp(i):∀j,Nat.repeat xt j (gp i)=gp (i+j)
 |0 => rfl
 |j+1 => by
  show xt (Nat.repeat xt j (gp i))=xt (gp (i+j))
  rw[rep_gp i j]
theorem gp_mul(i j):En (gp i) (gp j)=gp (i+j):=by
 rw[QQ (gp_lt j),rep_gp,Nat.add_comm]
theorem Q3(i):∀k,Js (gp i) k=gp (i * k)
 |0 => rfl
 |k+1 => by rw[Js,Q3 i k,gp_mul,Nat.mul_succ]
def sqE:Nat->Nat × Nat
 |0 =>(0,1)
 |k+1 => let s:=sqE k;(if 254 / 2 ^ k % 2=1 then s.1+s.2 else s.1,s.2+s.2)
theorem Rc(i):∀k,DQ (gp i) k=(gp (i * (sqE k).1),gp (i * (sqE k).2))
 |0 => by simp[DQ,sqE,gp]
 |k+1 => by
  simp only[DQ,sqE];rw[Rc i k];simp only[gp_mul];split <;> simp[Nat.mul_add]
theorem repB_inv {a:Nat}(h:a<256)(c:a≠0):Js a 254=EG a:=by
 have hg:=gp_log a h c;rw[<-hg,Q3,EG,Rc];have e:(sqE 8).1=254:=by decide +kernel
 rw[e]
theorem Tf:EG 0=0:=by decide +kernel
theorem RE(a:Nat)(ha:a<256)(w:World):
  Calls prog 296 #[.int .u8 (a:Int),int i64 254] w (zM (.int .u8 ((EG a:Nat):Int)) w):=by
 obtain⟨R,y⟩:∃R,EG a=R:=zJ;rw[y];have HR:=zq y;clear y;have HL:=zq (MU ha);go_enter func296,ntmps296
 go_wp2
 go_loop [0,1,5] (fun x n o =>∃k:Nat,k<=8/\x= .int .u8 ((DQ a k).2:Nat)/\n= int i64 ((254 / 2 ^ k:Nat):Int)/\o= .int .u8 ((DQ a k).1:Nat)) (fun _ n _ =>(intOf n).toNat)
 ·exact⟨0,by omega,rfl,rfl,rfl⟩
 ·obtain⟨k,hk,rfl,rfl,rfl⟩:=hrel;obtain⟨l1,l2⟩:=HL.o k;by_cases h0:k<8
  ·have z:0<254 / 2 ^ k:=by
    have:∀k,k<8->0<254 / 2 ^ k:=by decide
    exact this k h0
   obtain⟨n,hn⟩:∃n,254 / 2 ^ k=n:=zJ;have ab:n<256:=by rw[<-hn];exact Nat.lt_of_le_of_lt (Nat.div_le_self _ _) zZ
   have hs:DQ a (k+1)=(if n % 2=1 then En (DQ a k).1 (DQ a k).2 else(DQ a k).1,En (DQ a k).2 (DQ a k).2):=by rw[<-hn];rfl
   have c:254 / 2 ^ (k+1)=n / 2:=by rw[<-hn,Nat.div_div_eq_div_mul,Nat.pow_succ]
   rw[hn]at z⊢;obtain⟨o,l⟩:∃o,(DQ a k).1=o:=zJ;obtain⟨x,p⟩:∃x,(DQ a k).2=x:=zJ;rw[l,p]at hs;rw[l]at l1;rw[p]at l2;rw[l,p];have f:=zq hs;have HN:=zq c;clear hs c hn l p;have aa:(0:Int)<(n:Int):=by omega
   have i:bits .and .i64 (n:Int) 1=((n % 2:Nat):Int):=by
    have e:(BitVec.ofInt 64 (n:Int) &&& BitVec.ofInt 64 ((1:Nat):Int)).toNat =n % 2:=by
     rw[BitVec.ofInt_natCast,BitVec.ofInt_natCast,BitVec.toNat_and,BitVec.toNat_ofNat,BitVec.toNat_ofNat,Nat.mod_eq_of_lt zZ,Nat.mod_eq_of_lt zZ,Nat.and_one_is_mod]
    show IntKind.i64.wrap (((BitVec.ofInt 64 (n:Int) &&& BitVec.ofInt 64 ((1:Nat):Int)).toNat:Nat):Int)=_
    rw[e];exact wrap64 zZ
   by_cases u:n % 2=1
   ·have s:bits .and .i64 (n:Int) 1=1:=by rw[i,u];rfl
    clear i;go_wp2_with (refine(G5 _ _ (by assumption) (by assumption) _).M ?_;rintro e w' ⟨rfl,rfl⟩)
    go_round
    ·have q:(DQ a (k+1)).2=En x x:=by rw[f.o]
     have r:(DQ a (k+1)).1=En o x:=by rw[f.o];exact aM u
     refine⟨k+1,by omega,?_,?_,?_⟩
     ·rw[q]
     ·rw[HN.o,Int.natCast_ediv];rfl
     ·rw[r]
    ·simp[intOf];omega
   ·have s:bits .and .i64 (n:Int) 1=0:=by rw[i,show n % 2=0 by omega];rfl
    clear i;go_wp2_with (refine(G5 _ _ (by assumption) (by assumption) _).M ?_;rintro e w' ⟨rfl,rfl⟩)
    go_round
    ·have q:(DQ a (k+1)).2=En x x:=by rw[f.o]
     have r:(DQ a (k+1)).1=o:=by rw[f.o];exact aJ u
     refine⟨k+1,by omega,?_,?_,?_⟩
     ·rw[q]
     ·rw[HN.o,Int.natCast_ediv];rfl
     ·rw[r]
    ·simp[intOf];omega
  ·obtain rfl:k=8:=by omega
   have h:=HR.o;unfold EG at h;rw[h];go_wp2
   go_ret
   exact⟨rfl,rfl⟩
theorem NB(a:Nat)(i:a<256)(w:World):
  Calls prog 242 #[.int .u8 (a:Int)] w (zM (.int .u8 ((EG a:Nat):Int)) w):=by
 have x:Calls prog 271 #[.int .u8 (a:Int),int i64 254] w (zM (.int .u8 ((EG a:Nat):Int)) w):=by
  by_cases f:a=0
  ·subst f;rw[Tf];go_enter func271,ntmps271
   go_wp2
   go_ret
   exact⟨rfl,rfl⟩
  ·have y:((a:Int) != 0)=true:=by simp;omega
   have z:((a:Int) == 0)=false:=by simp;omega
   have hr:=repB_inv i f;obtain⟨R,h⟩:∃R,EG a=R:=zJ;rw[h]at hr⊢;have r:=zq hr;clear hr h;go_enter func271,ntmps271
   go_wp2
   go_loop [1,5] (fun n o =>∃k:Nat,k<=254/\n= int i64 ((254 - k:Nat):Int)/\o= .int .u8 ((Js a k:Nat):Int)) (fun n _ =>(intOf n).toNat)
   ·exact⟨0,by omega,rfl,rfl⟩
   ·obtain⟨k,hk,rfl,rfl⟩:=hrel;have l:=Q4 (a:=a) k;by_cases h3:k<254
    ·obtain⟨n,hn⟩:∃n,254 - k=n:=zJ;rw[hn];have s:(0:Int)<(n:Int):=by omega
     have u:(n:Int)<=254:=by omega
     obtain⟨o,c⟩:∃o,Js a k=o:=zJ;rw[c]at l⊢;have q:=zq c;have p:=zq hn;clear c hn;go_wp2_with (refine(Mo o a l i _).M ?_;rintro e w' ⟨rfl,rfl⟩)
     go_round
     ·exact⟨k+1,by omega,by have:=p.o;congr 1;omega,by rw[Js,q.o]⟩
     ·simp[intOf];omega
    ·obtain rfl:k=254:=by omega
     rw[r.o];go_wp2
     go_ret
     exact⟨rfl,rfl⟩
 go_enter func242,ntmps242
 go_wp2_with (refine x.M ?_;rintro e w' ⟨rfl,rfl⟩)
 go_ret
 exact⟨rfl,rfl⟩
def Fz(x y:UInt8):UInt8:=UInt8.ofNat (En x.toNat y.toNat)
theorem Hy(x:UInt8):x.toNat<256:=x.toNat_lt
theorem Jp(x y:UInt8):(Fz x y).toNat =En x.toNat y.toNat:=by
 unfold Fz;rw[UInt8.toNat_ofNat'];exact Nat.mod_eq_of_lt (Kk _ _ (Hy x))
theorem SC(x y:UInt8):(x ^^^ y).toNat =x.toNat ^^^ y.toNat:=UInt8.toNat_xor x y
theorem MY(x y:UInt8):bits .xor .u8 (x.toNat:Int) (y.toNat:Int)=((x ^^^ y).toNat:Int):=by
 rw[FO (Hy x) (Hy y),SC]
theorem Td(x y:UInt8)(w:World):
  Calls prog 285 #[.int .u8 (x.toNat:Int),.int .u8 (y.toNat:Int)] w (zM (.int .u8 ((Fz x y).toNat:Int)) w):=by
 rw[Jp];exact G5 _ _ (Hy x) (Hy y) w
theorem TT(x y:UInt8)(w:World):
  Calls prog 241 #[.int .u8 (x.toNat:Int),.int .u8 (y.toNat:Int)] w (zM (.int .u8 ((Fz x y).toNat:Int)) w):=by
 rw[Jp];exact Mo _ _ (Hy x) (Hy y) w
def Et(e l:List UInt8)(c:UInt8):List UInt8:=List.zipWith (fun o b => o ^^^ Fz b c) e l
def EC(a b:List UInt8):List UInt8:=List.zipWith (· ^^^ ·) a b
def BH(l:List UInt8)(c:UInt8):List UInt8:=l.map fun b => Fz b c
theorem Mx(e l:List UInt8)(c:UInt8):Et e l c=EC e (BH l c):=by
 unfold Et EC BH;rw[List.zipWith_map_right]
theorem DI(e l:List UInt8)(c:UInt8)(h:e.length=l.length):(Et e l c).length =e.length:=by simp[Et,h]
theorem Gu(a b:List UInt8)(h:a.length=b.length):(EC a b).length =a.length:=by simp[EC,h]
theorem CK(l:List UInt8)(c:UInt8):(BH l c).length =l.length:=by simp[BH]
def BO(L:List UInt8)(w:World)(e:Ending)(w':World):Prop :=
 ∃A c fs,e= .returned (.slice A L.length c)/\Ah w' fs (.slice A L.length c) L/\AL w w' fs/\Below w w w'
theorem putStep {f l:List UInt8}{c:UInt8}{j:Nat}(o:f.length=l.length)(h:j<l.length):
  ((Et f l c).take j ++ f.drop j).set j (f[j]' zZ  ^^^ Fz l[j] c)=(Et f l c).take (j+1) ++ f.drop (j+1):=by
 have n:=DI f l c o;apply bK
 ·simp[n];omega
 ·intro i p q;simp only[List.getElem_set,List.getElem_append,aX,n,List.getElem_take,List.getElem_drop];by_cases e:j=i
  ·subst e;rw[aM rfl,dif_pos zZ];simp[Et]
  ·rw[aJ e];by_cases r:i<j
   ·rw[dif_pos zZ,dif_pos zZ]
   ·rw[dif_neg zZ,dif_neg zZ];congr 1;omega
theorem put_c(v1 v2)(f l:List UInt8)(c:UInt8)(r f2 w lo)(h1:Ah w r v1 f)(x:Ah w f2 v2 l)(hl:f.length=l.length)(hm:AL lo w r)(hd:∀a,a∈f2->a∉r)(hn:l.length<=1000000):
  Calls prog 267 #[v1,v2,.int .u8 (c.toNat:Int)] w fun e w' => e= .returned (.tuple #[])/\Bn r w w'/\Ah w' r v1 (Et f l c):=by
 obtain⟨H1,H2,HM,HD⟩:=zH h1 x hm hd;obtain⟨A1,c1,rfl,ac,af,hx⟩:=Ah.open_ h1;obtain⟨A2,c2,rfl,ae,ag,hy⟩:=Ah.open_ x;obtain⟨T1,T2,HX,HY,u⟩:=zG (rSl.there Al.X h1) (rSl.there Al.X x) hx hy hl;clear h1 x hm hd hx hy hl;go_enter func267,ntmps267
 go_wp2
 go_loopw [10,6,7] (fun i _ _ wr =>∃j:Nat,j<=l.length/\i=j/\Bn r w wr/\Ah wr r (.slice A1 f.length c1) ((Et f l c).take j ++ f.drop j)) (fun i _ _ _ => l.length - (intOf i).toNat)
 ·exact⟨0,by omega,rfl,Bn.refl _ _,by simpa using H1.o⟩
 ·obtain⟨j,hj,rfl,n,p⟩:=hrel;by_cases s:j<l.length
  ·obtain⟨a2,e2,m2,b2,g2⟩:=HY.o j s;subst e2;have p2:=(n.cell _ (HD.o _ m2) b2).T g2;have z:j<f.length:=by rw[u.o];exact s
   obtain⟨a1,e1,m1,b1,-⟩:=HX.o j z;subst e1;have ab:=(n.frozen _ b1).T (HM.o.free _ m1);have aa:wr.cell? (a1.add j)=some (.int .u8 ((f[j]).toNat:Int)):=by
    have hz:=DI f l c u.o;obtain⟨A,cc,e,_,_,h⟩:=Ah.open_ p;obtain⟨ad,e2,_,_,x⟩:=h j (by simp[hz];omega);injection e with e3 e4 e5
    rw[e2]at e3;injection e3 with e6
    subst e6;rw[x];have:((Et f l c).take j ++ f.drop j)[j]'(by simp[hz];omega)=f[j]:=by
     rw[List.getElem_append_right (by simp[hz];omega)];simp[hz,Nat.min_eq_left (show j<=f.length by omega)]
    rw[this]
   have ah:(a1.add j).block <wr.heap.size:=aH b1 n.size;have ai:=MY f[j] (Fz l[j] c);have q:=zq p;have y:=zq n;clear p n g2;go_wp2_with fail
   go_region_law (go_simp;go_at_call 285;refine(Td _ _ _).M ?_;rintro e w' ⟨rfl,rfl⟩;dsimp only)
   all_goals
    go_wp2
    go_roundw
    ·have H:=Ah.store q.o HM.o.nodup (j:=j) (by simp[DI f l c u.o];omega) (f[j] ^^^ Fz l[j] c);rw[putStep u.o s]at H;refine⟨j+1,by omega,by go_num,?_,?_⟩
     ·first|exact y.o.setCell m1 _|exact(y.o.drewN _).setCell m1 _|exact(y.o.setCell m1 _).drewN _
     ·first|exact H|exact rSl.keep Al.L H (fun _ _ => rfl)
    ·simp[intOf];omega
  ·obtain rfl:j=l.length:=by omega
   have q:=zq p;have y:=zq n;clear p n;go_wp2
   go_end0
   refine⟨rfl,y.o,?_⟩;have H:=q.o;rw[<-u.o,List.drop_length,List.append_nil,bB (by rw[DI f l c u.o];exact aD _)]at H;exact H
theorem Oi {w:World}{base T}{v:Value}{n}{l:List UInt8}(h:w.ownsRow base T 1 v n (l.map Bo)):∃fs,Ah w fs v l/\AL base w fs:=by
 obtain⟨q,r⟩:=h;simp at q;rcases r with⟨rfl,x⟩|⟨g,cap,c,rfl,hb,hg,p,o,s,e⟩
 ·have:l= []:=bN zZ;subst this;exact⟨[],Ah.empty zZ,List.nodup_nil,(fun _ h => by cases h),(fun _ h => by cases h)⟩
 ·subst q;simp only[maxLen]at o;refine⟨Bf (zE g) l.length,Ah.close_ p zZ (fun k u => ?_),FG rfl,fun a i => ?_,fun a i => ?_⟩
  ·rw[CO,cell_of_row w g k c T (0,0) hg];have f:(c.toList.take (l.length * 1))[k]? =some (Bo l[k]):=by rw[e];simp[u]
   rw[List.getElem?_take]at f;rw[aM zZ]at f;simpa [Bo]using f
  ·obtain⟨k,_,rfl⟩:=Bt.1 i;rw[Of];exact hb
  ·obtain⟨k,_,rfl⟩:=Bt.1 i;rw[CO];exact frozen_of_row w g k c T hg
def LG(xs:List UInt8)(w:World)(e:Ending)(w':World):Prop :=
 ∃v fs,e= .returned v/\Ah w' fs v xs/\AL w w' fs/\Below w w w'
theorem Ah.cells {w fs ad}{n c:Nat}{xs:List UInt8}(h:Ah w fs (.slice (some ad) n c) xs):∀j u,(xs.map Bo)[j]? =some u->w.cell? (ad.add j)=some u:=by
 obtain⟨s,c1,e,p,q,r⟩:=Ah.open_ h;intro j u l;have f:j<xs.length:=by
  have:=(List.getElem?_eq_some_iff.1 l).1;simpa using this
 obtain⟨x,o,_,_,h4⟩:=r j f;injection e with i
 rw[o]at i;injection i with i
 subst i;rw[h4];simp[f]at l;rw[<-l];rfl
theorem Hh(v)(xs:List UInt8)(fs w)(h1:Ah w fs v xs)(af:xs.length<=1048576):
  Calls prog 110 #[v] w (LG xs w):=by
 obtain⟨i0,hi,z,aa,ab⟩:=info_parts Tryz.info5;have ag:∀(w:World) (a:Option Addr) (n c n' p:Nat),(binOp .eql 61 (.slice a n c) (.slice none n' p)).run prog w= .ok (.bool a.isNone) w:=fun w a n c n' p => Lib.run_eql_slice_nil w _ _ a n c n' p underlying61
 have H1:=zq h1;obtain⟨A1,c1,rfl,ac,ae,s⟩:=h1.form;clear h1;cases A1 with
 |none =>
  have y:xs= []:=by
   rcases s with⟨rfl,_⟩|⟨ad,e,_⟩
   ·rfl
   ·cases e
  subst y;clear s;go_enter func110,ntmps110
  go_wp2
  go_ret
  exact⟨_,[],rfl,Ah.empty zZ,⟨List.nodup_nil,(fun _ h => by cases h),(fun _ h => by cases h)⟩,aC _ _⟩
 |some ad =>
  clear s;have r:=zq (Ah.cells (H1.o.B ((aC w w).alloc (aD _) (.cells #[] 5))));go_enter func110,ntmps110
  go_wp2_with (at_builtin;refine wpList_append_own _ rfl _ _ 61 rfl w 5 i0 (.int .u8 0) 1 1 underlying61 hi z aa ab rfl zW _ _ _ rfl (World.ownsRow_lit w #[] 0 (aD _) (Nat.zero_le _) rfl) ad xs.length c1 (xs.map Bo) rfl ?qc1 r.o ?qc3 ?qc4 ?qc5 ?qc6 ?_)
  case qc1 => simp
  case qc3 => intro u hu;obtain⟨x,_,rfl⟩:=List.mem_map.1 hu;rfl
  case qc4 => unfold maxLen;omega
  case qc5 => omega
  case qc6 => simp
  intro v' w1 i f l;have HB:=zq (((aC w w).alloc (aD _) (.cells #[] 5)).grown f zX (by intro k hk;simp[Value.ownBlock]at hk;omega));have HO:=zq i;clear i f l;go_wp2
  go_ret
  obtain⟨q,h2,h3⟩:=Oi (show w1.ownsRow w 5 1 v' xs.length (xs.map Bo)from HO.o);exact⟨_,q,rfl,h2,h3,HB.o⟩
end Go.Proofs.YtofeknacbdcoaaaGreatDoor
namespace Go.Proofs.YtofeknacbdcoaaaGreatDoor
open Go.RowKit Go.Sort
theorem LG.fresh {L:List UInt8}{w}{e:Ending}{w'}(h:LG L w e w'):BO L w e w':=by
 obtain⟨v,fs,rfl,f,i,l⟩:=h;obtain⟨A,c,rfl,-⟩:=f.form;exact⟨A,c,fs,rfl,f,i,l⟩
theorem sum_c(v1 v2)(a b:List UInt8)(c:UInt8)(y z w)(h1:Ah w y v1 a)(l:Ah w z v2 b)(f:a.length=b.length)(hn:b.length<=1000000):
  Calls prog 264 #[v1,v2,.int .u8 (c.toNat:Int)] w (BO (Et a b c) w):=by
 obtain⟨H1,H2,n,T2⟩:=zH h1 l f (rSl.there Al.X l);obtain⟨A1,c1,rfl,-⟩:=h1.form;obtain⟨A2,c2,rfl,-⟩:=l.form;clear h1 l f;go_enter func264,ntmps264
 go_wp2_with fail
 refine(Hh _ a y w H1.o (by have:=n.o;omega)).M ?_;rintro e w1 h;obtain⟨A3,c3,f3,rfl,r3,m3,p⟩:=h.fresh;obtain⟨u,i,r,R2⟩:=zH r3 m3 p (Ah.B H2.o p);clear h r3 m3 p;go_wp2_with fail
 refine(put_c _ _ a b c f3 z w1 w u.o R2.o n.o i.o (fun x q hy => by have:=T2.o x q;have:=i.o.from_ x hy;omega) hn).M ?_;rintro e w2 ⟨rfl,hw,hr⟩;have R4:=zq hr;have s:=zq hw;clear hr hw;go_wp2
 go_ret
 have f:=DI a b c n.o;refine⟨A3,c3,f3,by rw[f];rfl,by rw[f];exact R4.o,i.o.wrote s.o (rSl.there Al.X u.o),r.o.T (s.o.B r.o.size (fun x q => i.o.from_ x q))⟩
theorem Lz {w:World}(n:Nat)(hn:n<=1000000):Ah (w.alloc (.cells (madeCells #[.int .u8 0] n) 5)) (Bf (zE w) n) (.slice (some (zE w)) n n) (List.replicate n 0):=by
 have h:=Blk.new w 5 (madeCells #[.int .u8 0] n);have e:madeCells #[.int .u8 0] n=((List.replicate n (0:UInt8)).map Bo).toArray:=by
  apply Array.toList_inj.1
  rw[toList_madeCells_one];simp[Bo]
 rw[e]at h;have:=Ah.of_blk (w:=_) (g:=w.heap.size) (T:=5) (bs:=List.replicate n 0) h zV;rw[e];simpa using this
theorem Jy {w:World}(n:Nat)(t)(cs:Array Value):AL w (w.alloc (.cells cs t)) (Bf (zE w) n):=by
 refine⟨FG rfl,fun a c => ?_,fun a c => ?_⟩
 ·rw[Ek c];exact aD _
 ·obtain⟨q,_,rfl⟩:=Bt.1 c;rw[CO];exact(Blk.new w t cs).frozen q
theorem MX(l:List UInt8)(c:UInt8):Et (List.replicate l.length 0) l c=BH l c:=by
 unfold Et BH;apply bK
 ·simp
 ·intro i e f;simp
theorem Tryz.makeBytes(n:Nat)(hn:n<=1000000)(c:World):(Instr.makeSlice 61 (int i64 (n:Int)) (int i64 (n:Int))).run prog c= .ok (.slice (some (zE c)) n n) (c.alloc (.cells (madeCells #[.int .u8 0] n) 5)):=by
 have h:=Cf prog 61 5 (.int .u8 0) 1 1 underlying61 Tryz.info5 n zZ zZ c;rw[Nat.mul_one]at h;exact h
theorem Pe(v)(l:List UInt8)(c:UInt8)(f w)(h:Ah w f v l)(hn:l.length<=1000000):
  Calls prog 282 #[v,.int .u8 (c.toNat:Int)] w (BO (BH l c) w):=by
 have H:=zq h;have z:=zq (rSl.there Al.X h);obtain⟨A1,c1,rfl,-⟩:=h.form;clear h;have p:=Tryz.makeBytes l.length hn;go_enter func282,ntmps282
 go_wp2_with fail
 obtain⟨s,i,n⟩:=zI (Lz (w:=w) l.length hn) (Jy (w:=w) l.length 5 (madeCells #[.int .u8 0] l.length)) (Ac (aC w w) (.cells (madeCells #[.int .u8 0] l.length) 5));refine(put_c _ _ (List.replicate l.length 0) l c (Bf (zE w) l.length) f _ w (by simpa using s.o) (Ah.B H.o n.o) zX i.o (fun x q hy => by have:=z.o x q;have:=i.o.from_ x hy;omega) hn).M ?_;rintro e w2 ⟨rfl,hw,hr⟩;rw[MX]at hr;have y:=zq hr;have r:=zq hw;clear hr hw p;go_wp2
 go_ret
 have u:=CK l c;refine⟨some (zE w),l.length,_,by rw[u];rfl,by rw[u];simpa using y.o,i.o.wrote r.o (rSl.there Al.X s.o),n.o.T (r.o.B n.o.size (fun x q => i.o.from_ x q))⟩
theorem F0 {wr W base v}{ds:List UInt8}(q:Ak 1 5 Al wr base v ds [])(i:base<=wr.heap.size)(hn:ds.length+1<=1000000000){b}{x:UInt8}(p:Below wr wr W)(l:Blk W b 5 #[.int .u8 (x.toNat:Int)]):
  ∃n w',(Builtin.append_ #[61,61] 61 #[v,.slice (some (zE b)) 1 1]).run prog W= .ok n w'/\∃A c,n= .slice A (ds.length+1) c/\Ak 1 5 Al w' base n (ds ++ [x]) []/\Below base wr w'/\wr.heap.size<=w'.heap.size:=by
 have hm:AL base wr []:=⟨List.nodup_nil,(fun a e => by cases e),(fun a e => by cases e)⟩;obtain⟨n,w',r,A,c,h,s,o,-,u,y⟩:=I9 (P:=prog) (R:=Al) 61 61 (.int .u8 0) 1 underlying61 Tryz.info5 rfl zW Al.L Al.X Fa zZ q hm i hn (us:=[.int .u8 (x.toNat:Int)]) (f:=[]) (d:=x) (b:=b) (aC _ _) ⟨rfl,rfl⟩ ⟨List.nodup_nil,(fun a e => by cases e),(fun a e => by cases e)⟩ rfl p l;have:=o.flatBytes;rw[this]at o;exact⟨n,w',r,A,c,s,o,u,y⟩
theorem Ak.freshB {w w':World}{v:Value}{L:List UInt8}(h:Ak 1 5 Al w' w v L [])(hb:Below w w w'):BO L w (.returned v) w':=by
 obtain⟨fs,r1,r2⟩:=h.readsMine ⟨List.nodup_nil,(fun a e => by cases e),(fun a e => by cases e)⟩;obtain⟨A,c,rfl,-⟩:=rSl.head r1;exact⟨A,c,fs,rfl,r1,r2,hb⟩
theorem Ak.emptyB {w:World}:Ak 1 5 Al (w.alloc (.cells #[] 5)) w (.slice (some (zE w)) 0 0) [] [] :=
 Ak.start ⟨rfl,.inr ⟨w.heap.size,0,#[],rfl,aD _,Blk.new _ _ _,aD _,by unfold maxLen;omega,rfl,rfl⟩⟩
theorem Im(v)(l:List UInt8)(c:UInt8)(f w)(h:Ah w f v l)(hn:l.length<=1000000):
  Calls prog 187 #[v,.int .u8 (c.toNat:Int)] w (BO (BH l c) w):=by
 obtain⟨A1,c1,rfl,ab,ac,hx⟩:=Ah.open_ h;have HX:=zq hx;clear h hx;go_enter func187,ntmps187
 go_wp2
 go_loopw [5,6] (fun o i wr =>∃(j:Nat) (A:Option Addr) (c2:Nat),j<=l.length/\i=j/\o= .slice A j c2/\Ak 1 5 Al wr w o ((BH l c).take j) []/\Below w w wr) (fun _ i _ => l.length - (intOf i).toNat)
 ·exact⟨0,_,0,by omega,rfl,rfl,Ak.emptyB,Ac (aC _ _) _⟩
 ·obtain⟨j,A,c2,hj,rfl,rfl,r,hb⟩:=hrel;have q:=CK l c;by_cases aa:j<l.length
  ·obtain⟨a2,e2,m2,b2,g2⟩:=HX.o j aa;subst e2;have p2:=(hb.cell (p:=a2.add j) b2).T g2;have n:((BH l c).take j).length =j:=by rw[aX,q];omega
   have s:(BH l c).take j ++ [Fz l[j] c] =(BH l c).take (j+1):=by
    rw[aK zZ];simp[BH]
   have HA:=zq (F0 (W:=wr.alloc (.cells #[.int .u8 ((Fz l[j] c).toNat:Int)] 5)) (b:=wr.heap.size) (x:=Fz l[j] c) r hb.size zZ (Ac (aC _ _) _) (Blk.new _ _ _));rw[n,s]at HA;have u:=zq hb;clear r hb g2 q s n;go_wp2_with (first|(refine(TT _ _ _).M ?_;rintro e w' ⟨rfl,rfl⟩)|(at_builtin;refine An rfl (.tmp 14) (.tmp 21) 61 rfl (.slice A j c2) (.slice (some (zE wr)) 1 1) rfl rfl HA.o ?_;rintro v6 w6 ⟨A6,c6,rfl,o6,B6,e6⟩;have z:=zq o6;have y:=zq B6;clear o6 B6))
   go_roundw
   ·exact⟨j+1,A6,c6,by omega,by go_num,rfl,z.o,u.o.T y.o⟩
   ·simp[intOf];omega
  ·obtain rfl:j=l.length:=by omega
   rw[bB zZ]at r;have HO:=zq r;have u:=zq hb;clear r hb q;go_wp2
   go_ret
   exact HO.o.freshB u.o
theorem MJ(v1 v2)(a b:List UInt8)(f1 f2 w)(h1:Ah w f1 v1 a)(h2:Ah w f2 v2 b)(hl:a.length=b.length)(hn:b.length<=1000000):
  Calls prog 189 #[v1,v2] w (BO (EC a b) w):=by
 obtain⟨A1,c1,rfl,ab,ad,r⟩:=Ah.open_ h1;obtain⟨A2,c2,rfl,ac,ae,hy⟩:=Ah.open_ h2;obtain⟨HX,HY,HL⟩:=zI r hy hl;clear h1 h2 r hy hl;go_enter func189,ntmps189
 go_wp2
 go_loopw [5,6] (fun o i wr =>∃(j:Nat) (A:Option Addr) (c2:Nat),j<=a.length/\i=j/\o= .slice A j c2/\Ak 1 5 Al wr w o ((EC a b).take j) []/\Below w w wr) (fun _ i _ => a.length - (intOf i).toNat)
 ·exact⟨0,_,0,by omega,rfl,rfl,Ak.emptyB,Ac (aC _ _) _⟩
 ·obtain⟨j,A,c3,hj,rfl,rfl,n,hb⟩:=hrel;have e:=Gu a b HL.o;by_cases h:j<a.length
  ·obtain⟨a1,e1,m1,b1,g1⟩:=HX.o j h;have l:j<b.length:=by rw[<-HL.o];exact h
   obtain⟨a2,e2,m2,b2,g2⟩:=HY.o j l;subst e1 e2;have p1:=(hb.cell (p:=a1.add j) b1).T g1;have p2:=(hb.cell (p:=a2.add j) b2).T g2;have c:((EC a b).take j).length =j:=by rw[aX,e];omega
   have q:(EC a b).take j ++ [a[j] ^^^ b[j]] =(EC a b).take (j+1):=by
    rw[aK zZ];simp[EC]
   have s:=zq (show∀W g,Below wr wr W->Blk W g 5 #[.int .u8 ((a[j] ^^^ b[j]).toNat:Int)]->_ from fun W g B5 f => F0 (W:=W) (b:=g) (x:=a[j] ^^^ b[j]) n hb.size zZ B5 f);rw[c,q]at s;have aa:=MY a[j] b[j];have u:=zq hb;clear n hb g1 g2 e q c;obtain⟨x,r⟩:∃x,a[j] ^^^ b[j] =x:=zJ;rw[r]at s aa;clear r;go_wp2_with fail
   go_region_law (refine AZ rfl (.tmp 14) (.tmp 24) 61 rfl _ _ zT zT (s.o _ _ (by repeat(with_reducible first|exact aC _ _|apply Ac|apply Am)) (by repeat(with_reducible first|exact Blk.new _ _ _|apply Blk.drew_|apply Blk.alloc))) ?_;rintro v6 w6 ⟨A6,c6,rfl,o6,B6,e6⟩;have z:=zq o6;have y:=zq B6;clear o6 B6)
   all_goals
    go_wp2
    go_roundw
    ·exact⟨j+1,A6,c6,by omega,by go_num,rfl,z.o,u.o.T y.o⟩
    ·simp[intOf];omega
  ·obtain rfl:j=a.length:=by omega
   rw[bB zZ]at n;have HO:=zq n;have u:=zq hb;clear n hb e;go_wp2
   go_ret
   exact HO.o.freshB u.o
abbrev Az (w:World) (fs:List Addr) (v:Value) (c:List (List UInt8)):Prop:=rSl 1 (Ai 1 Al) w fs v c
theorem Az.loc:BE (Ai 1 Al):=Ai.L Al.L
theorem Az.fix:BN (Ai 1 Al):=Ai.X Al.X
theorem Az.open_ {w fs v}{i:List (List UInt8)}(h:Az w fs v i):
  ∃A c,v= .slice A i.length c/\i.length<=c/\c<=9223372036854775807/\∀j,(s:j<i.length)->∃l n c2 fk,A=some l/\(l.add j).block <w.heap.size/\w.cell? (l.add j)=some (.slice n i[j].length c2)/\Ah w fk (.slice n i[j].length c2) i[j]/\FJ fk w/\(∀a,a∈fk->a∈fs)/\l.add j∈fs:=by
 obtain⟨A,c,e,x,y,z⟩:=rSl.at_ Az.fix zW h;refine⟨A,c,e,x,y,fun j s => ?_⟩;obtain⟨l,b,o,cs,fk,u,f⟩:=z j s;obtain⟨v0,q,hr⟩:=f.reads;subst q;obtain⟨n,c2,rfl,-⟩:=rSl.head hr;have p:=f.place;rw[Nat.mul_one]at p;have r:=f.cell 0 zX;have hm:=f.mem 0 zW;rw[bC]at r hm;refine⟨l,n,c2,fk,u,by rw[p];exact f.lt,by rw[p];exact r,hr,f.there,f.sub,by rw[p];exact hm⟩
def ET(n:Nat)(e:List (List UInt8))(bs:List UInt8)(j:Nat):List UInt8:=((List.zip e bs).take j).foldl (fun c p => Et c p.1 p.2) (List.replicate n 0)
def E4(n:Nat)(e:List (List UInt8))(bs:List UInt8):List UInt8:=(List.zip e bs).foldl (fun c p => Et c p.1 p.2) (List.replicate n 0)
theorem RX(n)(c:List (List UInt8))(bs:List UInt8):ET n c bs 0=List.replicate n 0:=rfl
theorem Ha {n}{c:List (List UInt8)}{bs:List UInt8}{j:Nat}(h:j<c.length)(hb:c.length<=bs.length):ET n c bs (j+1)=Et (ET n c bs j) c[j] (bs[j]' zZ):=by
 unfold ET;rw[aK zV,List.foldl_append];simp
theorem Io {n}{c:List (List UInt8)}{bs:List UInt8}(hb:c.length<=bs.length):ET n c bs c.length=E4 n c bs:=by
 unfold ET E4;rw[bB zV]
theorem E3 {n:Nat}{c:List (List UInt8)}{bs:List UInt8}(e:∀l,l∈c->l.length=n)(hb:c.length<=bs.length):∀j,j<=c.length->(ET n c bs j).length =n
 |0,_ => by simp[ET]
 |j+1,h => by
  have:=E3 e hb j zZ;rw[Ha zZ hb,DI _ _ _ (by rw[this,e _ (aT _)]),this]
theorem FE {n:Nat}{c:List (List UInt8)}{bs:List UInt8}(e:∀l,l∈c->l.length=n)(hb:c.length<=bs.length):(E4 n c bs).length =n:=by
 rw[<-Io hb];exact E3 e hb _ (aD _)
theorem MN(v1 v2)(f:List (List UInt8))(bs:List UInt8)(n:Nat)(f1 f2 w)(h1:Az w f1 v1 f)(h2:Ah w f2 v2 bs)(am:0<f.length)(hl:∀l,l∈f->l.length=n)(hb:f.length<=bs.length)(hn:n<=1000000):
  Calls prog 235 #[v1,v2] w (BO (E4 n f bs) w):=by
 have H1:=zq h1;have T1:=zq (rSl.there Az.fix h1);obtain⟨A1,c1,rfl,aq,au,hx⟩:=Az.open_ h1;obtain⟨A2,c2,rfl,ar,av,hy⟩:=Ah.open_ h2;obtain⟨HX,HY,HL⟩:=zI hx hy hl;obtain⟨u,af,ak,ap,e0,b0,p0,-⟩:=hx 0 am;rw[hl _ (aT _)]at p0;subst e0;have ao:(0:Int)<(f.length:Int):=by omega
 have an:w.cell? u=some (.slice af n ak):=by
  have e:u.add 0=u:=by simp[Addr.add]
  rw[<-e];exact p0
 clear h1 h2 hx hy hl;have al:=Tryz.makeBytes n hn;go_enter func235,ntmps235
 go_wp2_with fail
 obtain⟨HZ,MZ,BZ⟩:=zI (Lz (w:=w) n hn) (Jy (w:=w) n 5 (madeCells #[.int .u8 0] n)) (Ac (aC w w) (.cells (madeCells #[.int .u8 0] n) 5));have TZ:=zq (rSl.there Al.X HZ.o);go_loopw [15,6,7] (fun i _ _ wr =>∃j:Nat,j<=f.length/\i=j/\Bn (Bf (zE w) n) (w.alloc (.cells (madeCells #[.int .u8 0] n) 5)) wr/\Ah wr (Bf (zE w) n) (.slice (some (zE w)) n n) (ET n f bs j)) (fun i _ _ _ => f.length - (intOf i).toNat)
 ·exact⟨0,by omega,rfl,Bn.refl _ _,HZ.o⟩
 ·obtain⟨j,hj,rfl,h,q⟩:=hrel;have c:=BZ.o.T (h.B BZ.o.size (fun x hx => MZ.o.from_ x hx));clear al p0 an;by_cases z:j<f.length
  ·obtain⟨ad,A3,c3,fk,e1,b1,p1,r1,t1,s1,-⟩:=HX.o j z;injection e1 with e1
   subst e1;obtain⟨a2,e2,m2,b2,g2⟩:=HY.o j zZ;subst e2;have y:=HL.o _ (aT z);rw[y]at p1 r1;have aw:=(c.cell (p:=_) b1).T p1;have p2:=(c.cell (p:=a2.add j) b2).T g2;have ac:=E3 HL.o hb j hj;have ae:=Ha (n:=n) z hb;obtain⟨s,HW,r,R1,T3,aa⟩:=zF q h c r1 t1 y;have ag:=zq ac;have ai:=zq ae;clear q h c p1 g2 r1 t1 s1 y ac ae;go_wp2_with fail
   refine(put_c _ _ (ET n f bs j) f[j] bs[j] (Bf (zE w) n) fk wr w s.o (Ah.B R1.o r.o) (by rw[ag.o,aa.o]) (MZ.o.wrote HW.o TZ.o) (fun x hx hy => by have:=T3.o x hx;have:=MZ.o.from_ x hy;omega) (by rw[aa.o];exact hn)).M ?_;rintro e w2 ⟨rfl,hw,hr⟩;rw[<-ai.o]at hr;have ah:=zq hr;have aj:=zq hw;clear hr hw;go_wp2
   go_roundw
   ·exact⟨j+1,by omega,by go_num,HW.o.T aj.o,ah.o⟩
   ·simp[intOf];omega
  ·obtain rfl:j=f.length:=by omega
   obtain⟨s,r,HM⟩:=zI q c (MZ.o.wrote h TZ.o);clear q h c;go_wp2
   go_ret
   have ab:=FE (n:=n) HL.o hb;have H:=s.o;rw[Io hb]at H;exact⟨_,n,_,by rw[ab];rfl,by rw[ab];exact H,HM.o,r.o⟩
theorem MK(v1 v2)(c:List (List UInt8))(bs:List UInt8)(n:Nat)(f1 f2 w)(h1:Az w f1 v1 c)(h2:Ah w f2 v2 bs)(an:0<c.length)(hl:∀l,l∈c->l.length=n)(hb:c.length<=bs.length)(hn:n<=1000000):
  Calls prog 193 #[v1,v2] w (BO (E4 n c bs) w):=by
 obtain⟨A1,c1,rfl,ar,aw,hx⟩:=Az.open_ h1;obtain⟨A2,c2,rfl,au,ax,hy⟩:=Ah.open_ h2;obtain⟨HX,HY,HL⟩:=zI hx hy hl;obtain⟨y,ae,al,aq,e0,b0,p0,-⟩:=hx 0 an;rw[hl _ (aT _)]at p0;subst e0;have ap:(0:Int)<(c.length:Int):=by omega
 have ao:w.cell? y=some (.slice ae n al):=by
  have e:y.add 0=y:=by simp[Addr.add]
  rw[<-e];exact p0
 clear h1 h2 hx hy hl;have am:=Tryz.makeBytes n hn;go_enter func193,ntmps193
 go_wp2_with fail
 obtain⟨HZ,MZ,BZ⟩:=zI (Lz (w:=w) n hn) (Jy (w:=w) n 5 (madeCells #[.int .u8 0] n)) (Ac (aC w w) (.cells (madeCells #[.int .u8 0] n) 5));go_loopw [5,6] (fun o i wr =>∃(j:Nat) (A:Option Addr) (c3:Nat) (f3:List Addr),j<=c.length/\i=j/\o= .slice A n c3/\Ah wr f3 o (ET n c bs j)/\AL w wr f3/\Below w w wr) (fun _ i _ => c.length - (intOf i).toNat)
 ·exact⟨0,_,n,_,by omega,rfl,rfl,HZ.o,MZ.o,BZ.o⟩
 ·obtain⟨j,A,c3,f3,hj,rfl,rfl,q,z,f⟩:=hrel;clear am p0 ao;by_cases x:j<c.length
  ·obtain⟨ad,A3,c4,fk,e1,b1,p1,r1,t1,s1,-⟩:=HX.o j x;injection e1 with e1
   subst e1;obtain⟨a2,e2,m2,b2,g2⟩:=HY.o j zZ;subst e2;have u:=HL.o _ (aT x);rw[u]at p1 r1;have ay:=(f.cell (p:=_) b1).T p1;have p2:=(f.cell (p:=a2.add j) b2).T g2;have ac:=E3 HL.o hb j hj;have aa:=Ha (n:=n) x hb;rw[Mx]at aa;have r:=CK c[j] bs[j];rw[u]at r;have ag:=zq (show∀W,Below wr wr W->Calls prog 187 #[.slice A3 n c4,.int .u8 (bs[j].toNat:Int)] W (BO (BH c[j] bs[j]) W)from fun W hW => Im _ c[j] bs[j] fk W (Ah.B r1 (f.T (hW.M f.size))) (by rw[u];exact hn));have ah:=zq (show∀W A5 c5 f5,Below wr wr W->Ah W f5 (.slice A5 n c5) (BH c[j] bs[j])->Calls prog 189 #[.slice A n c3,.slice A5 n c5] W (BO (ET n c bs (j+1)) W)from fun W A5 c5 f5 hW h5 => by
    rw[aa];exact MJ _ _ (ET n c bs j) (BH c[j] bs[j]) f3 f5 W (Ah.B q hW) h5 (by rw[ac,r]) (by rw[r];exact hn))
   obtain⟨ai,ak,h⟩:=zI (E3 HL.o hb (j+1) x) r f;have av:j<bs.length:=by omega
   clear q f p1 g2 r1 t1 s1 u ac aa r z;go_wp2_with fail
   go_region_law? (first
    |(go_simp;go_at_call 187;refine(ag.o _ (by repeat(with_reducible first|exact aC _ _|apply Am))).M ?_;rintro e w5 ⟨A5,c5,f5,rfl,h5,m5,b5⟩;rw[ak.o]at h5⊢;dsimp only;have s:=zq (show Below wr wr w5 from by first|exact b5|exact Ft b5);have H5:=zq h5;clear h5 b5 m5)
    |(go_simp;go_at_call 189;refine(ah.o _ A5 c5 f5 (by repeat(with_reducible first|exact s.o|exact aC _ _|apply Am)) H5.o).M ?_;rintro e w6 ⟨A6,c6,f6,rfl,h6,m6,b6⟩;rw[ai.o]at h6⊢;dsimp only;have H6:=zq h6;have M6:=zq m6;have af:=zq b6;clear h6 m6 b6))
   all_goals
    go_wp2
    go_roundw
    ·exact⟨j+1,A6,c6,f6,by omega,by go_num,rfl,H6.o,M6.o.M (by have:=s.o.size;have:=h.o.size;omega),h.o.T ((s.o.T (af.o.M s.o.size)).M h.o.size)⟩
    ·simp[intOf];omega
  ·obtain rfl:j=c.length:=by omega
   rw[Io hb]at q;obtain⟨aj,h,HM⟩:=zI q f z;clear q f z;go_wp2
   go_ret
   have ab:=FE (n:=n) HL.o hb;exact⟨_,c3,_,by rw[ab];rfl,by rw[ab];exact aj.o,HM.o,h.o⟩
def cau(j i:Nat):UInt8:=UInt8.ofNat (EG ((128+j) ^^^ i))
def Ll(x:UInt8):UInt8:=UInt8.ofNat (EG x.toNat)
theorem L0(x:UInt8):(Ll x).toNat =EG x.toNat:=by
 unfold Ll;rw[UInt8.toNat_ofNat'];exact Nat.mod_eq_of_lt (MF (Hy x))
theorem JN {j i:Nat}(c:j<=100)(hi:i<=100):(cau j i).toNat =EG ((128+j) ^^^ i):=by
 unfold cau;rw[UInt8.toNat_ofNat'];exact Nat.mod_eq_of_lt (MF (EO zZ zZ))
theorem On(a:Nat)(f:a<256)(w:World):
  Calls prog 292 #[.int .u8 1,.int .u8 (a:Int)] w (zM (.int .u8 ((EG a:Nat):Int)) w):=by
 have c:=MF f;have hm:Calls prog 285 #[.int .u8 1,.int .u8 ((EG a:Nat):Int)] w (zM (.int .u8 ((EG a:Nat):Int)) w):=by
  have:=G5 1 (EG a) zZ c w;rw[OU c]at this;exact this
 obtain⟨r,hr⟩:∃r,EG a=r:=zJ;have h:=RE a f w;rw[hr]at hm h⊢;clear hr c;go_enter func292,ntmps292
 go_wp2_with (first|(go_at_call 296;refine h.M ?_;rintro e w' ⟨rfl,rfl⟩)|(go_at_call 285;refine hm.M ?_;rintro e w' ⟨rfl,rfl⟩))
 go_ret
 exact⟨rfl,rfl⟩
theorem div1_u(x:UInt8)(w:World):
  Calls prog 292 #[.int .u8 1,.int .u8 (x.toNat:Int)] w (zM (.int .u8 ((Ll x).toNat:Int)) w):=by
 rw[L0];exact On _ (Hy x) w
theorem inv_u(x:UInt8)(w:World):
  Calls prog 242 #[.int .u8 (x.toNat:Int)] w (zM (.int .u8 ((Ll x).toNat:Int)) w):=by
 rw[L0];exact NB _ (Hy x) w
theorem cauchy_c(j i:Nat)(n:j<=100)(hi:i<=100)(w:World):
  Calls prog 293 #[int i64 (j:Int),int i64 (i:Int)] w (zM (.int .u8 ((cau j i).toNat:Int)) w):=by
 rw[JN n hi];have l:=FO (show 128+j<256 by omega) (show i<256 by omega);have f:((128+j:Nat):Int)=128+(j:Int):=by omega
 rw[f]at l;have h:=On ((128+j) ^^^ i) (EO zZ zZ) w;obtain⟨x,c⟩:∃x,(128+j) ^^^ i=x:=zJ;rw[c]at l h⊢;clear c f;go_enter func293,ntmps293
 go_wp2_with (go_at_call 292;refine h.M ?_;rintro e w' ⟨rfl,rfl⟩)
 go_ret
 exact⟨rfl,rfl⟩
theorem Oq(g p:Nat)(hg:g<=90)(l:p<=90)(w:World):
  Calls prog 283 #[int i64 (g:Int),int i64 (p:Int)] w (zM (.int .u8 ((cau (8+p) g).toNat:Int)) w):=by
 rw[JN zZ zZ];have i:=FO (show 128+(8+p)<256 by omega) (show g<256 by omega);have f:((128+(8+p):Nat):Int)=136+(p:Int):=by omega
 rw[f]at i;have h:=On ((128+(8+p)) ^^^ g) (EO zZ zZ) w;obtain⟨x,c⟩:∃x,(128+(8+p)) ^^^ g=x:=zJ;rw[c]at i h⊢;clear c f;go_enter func283,ntmps283
 go_wp2_with (go_at_call 292;refine h.M ?_;rintro e w' ⟨rfl,rfl⟩)
 go_ret
 exact⟨rfl,rfl⟩
theorem L7(j i:Nat)(n:j<=100)(hi:i<=100)(w:World):
  Calls prog 188 #[int i64 (j:Int),int i64 (i:Int)] w (zM (.int .u8 ((cau j i).toNat:Int)) w):=by
 rw[JN n hi];have l:=FO (show 128+j<256 by omega) (show i<256 by omega);have f:((128+j:Nat):Int)=128+(j:Int):=by omega
 rw[f]at l;have h:=NB ((128+j) ^^^ i) (EO zZ zZ) w;obtain⟨x,c⟩:∃x,(128+j) ^^^ i=x:=zJ;rw[c]at l h⊢;clear c f;go_enter func188,ntmps188
 go_wp2_with (go_at_call 242;refine h.M ?_;rintro e w' ⟨rfl,rfl⟩)
 go_ret
 exact⟨rfl,rfl⟩
