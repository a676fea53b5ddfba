/- Part 18 of the proof. -/
import Derived.Test.YtofeknacbdcoaaaGreatDoorK17
import Derived.Test.YtofeknacbdcoaaaGreatDoorK12
import Derived.Maps.OwnOps
import Derived.Test.YtofeknacbdcoaaaGreatDoorK09
set_option maxHeartbeats 8000000
set_option maxRecDepth 100000
set_option linter.unusedVariables false
set_option linter.unusedSimpArgs false
open Go.Proofs.Tryz
open Go.Value (int)
open Go.IntKind (i64)
namespace Go.Proofs.YtofeknacbdcoaaaGreatDoor
open Go.RowKit Go.Lib Go.Sort
abbrev RV:Value->Option (DataW Value × List MemPlace):=fun v => some (.held v,[])
theorem OI:Maps.Keyed prog 9:=Maps.string_keyed underlying9
theorem keyOfN {nm:ByteArray}(h:nm.size<=1000000):keyOf prog 9 (.string nm)=some (DY nm):=WideMaps.keyOf_string_mk underlying9 (by unfold maxLen;omega)
theorem rSl.css {w fs v ds}(h:rSl 9 Af w fs v ds):∃A c l,v= .slice A ds.length c/\ds.length<=c/\c<=9223372036854775807/\∀j,(i:j<ds.length)->∃f b o fk,A=some f/\At 9 Af w fs f j b o (List.getD l j []) fk ds[j]:=by
 obtain⟨A,c,rfl,r,hm,s⟩:=rSl.at_ Af.X zZ h;have:∀j:Fin ds.length,∃cs,∃f b o fk,A=some f/\At 9 Af w fs f j.1 b o cs fk ds[j.1]:=fun j => by
  obtain⟨f,b,o,cs,fk,e,n⟩:=s j.1 j.2;exact⟨cs,f,b,o,fk,e,n⟩
 obtain⟨X,q⟩:=Classical.axiomOfChoice this;refine⟨A,c,List.ofFn X,rfl,r,hm,fun j i => ?_⟩;have p:=q ⟨j,i⟩;have e:(List.ofFn X).getD j [] =X ⟨j,i⟩:=by simp[aP,i]
 rw[e];exact p
theorem J7 {w:World}{P:Program}{k}{R:Value->Option (DataW Value × List MemPlace)}{b n}{D:DataW Value}(h:w.ownsMap P k R b n D){a:Addr}(e:a.block=b):w.cell? a=none:=by
 obtain⟨f,c,hb,-⟩:=h;unfold World.cell?;rw[e,hb]
theorem Tk {s:ByteArray}{c}(h:keyOf prog 9 (.string s)=some c):c=DY s:=by
 have e:=underlying9;simp[keyOf,e,mapKey]at h;exact h.2.symm
theorem Tl {c:Value}{f}(h:keyOf prog 9 c=some f):∃s,c= .string s:=by
 have e:=underlying9;cases c <;> simp[keyOf,e,mapKey]at h
 exact⟨_,rfl⟩
theorem O4 {w:World}{P:Program}{k}{R:Value->Option (DataW Value × List MemPlace)}{b n}{D:DataW Value}(h:w.ownsMap P k R b n D):Maps.size D<=n:=by
 obtain⟨f,c,hb,F,e,rfl⟩:=h;rw[Maps.size_eq,length_sorted];simpa using e
theorem addRecQ {P:Addr->Prop}{lo:Nat}(hP:∀a,P a->a.block<lo){w W}{b g n c:Nat}{ds:List Aj}{fs f}{us:List Value}{d}(ho:Ak 9 105 Af w lo (.slice (some (zE g)) n c) ds fs)(aa:lo<=w.heap.size)(s:Below w w W)(hk:Blk W b 105 us.toArray)(hr:Af W f us d)(u:∀a,a∈f->P a)(r:∀a,a∈fs->P a)(hn:ds.length+1<=1000000000):
  ∃q w',(Builtin.append_ #[99,99] 99 #[.slice (some (zE g)) n c,.slice (some (zE b)) 1 1]).run prog W= .ok q w'/\∃l y i,q= .slice (some (zE l)) (ds.length+1) y/\Ak 9 105 Af w' lo q (ds ++ [d]) i/\(∀a,a∈i->P a)/\W.grownBy w' (some g)/\(l=g∨l=W.heap.size):=by
 have o:=ho.B Af.L Af.X s;have hs:=s.size;obtain⟨q,w',q1,hh,x,q3,q4,p⟩:=Ak.appendOne (P:=prog) 99 99 _ 128 underlying99 Tryz.infoRec rfl zW Af.L Af.X Af.ones lo _ ds fs o b us f d (Af.wide _ _ _ _ hr) hk hr (fun a h e => by
  have:=(o.lt _ e).1;have:=hP a (u a h);omega) hn zZ zZ
 refine⟨q,w',q1,?_⟩;obtain⟨xs,hl,ht⟩:=x.cells;rcases ht with⟨_,e⟩|⟨l,cap,z,rfl,hb,hg,_⟩
 ·simp at e
 ·refine⟨l,cap,_,by simp,x,fun a h => ?_,q4,?_⟩
  ·rcases List.mem_append.1 h with h|h
   ·exact r a h
   ·exact u a (q3.subset h)
  ·rcases p with p|p
   ·left;simpa [Value.ownBlock]using p
   ·right;simpa [Value.ownBlock]using p
theorem IG {B:Nat}{w w':World}{g}(h:w.grownBy w' (some g))(hg:B<=g)(c:B<=w.heap.size):Below B w w':=⟨h.os,h.tape,h.output,h.size,fun k f => h.block k zZ (fun e => by injection e;omega)⟩
theorem newest_c(p fs d w)(h:AtW w p fs d)(da:(Dk d).length<=1000000)(bw:∀r,r∈AU d->r.name.size<=1000000):
  Calls prog 60 #[.pointer (some (zE p))] w fun e w' =>∃L A c cm,e= .returned (.slice A L.length c)/\Eb (AU d) L/\rSl 9 Af w' cm (.slice A L.length c) L/\(∀a,a∈cm->a∈fs∨w.heap.size<=a.block)/\Below w w w':=by
 obtain⟨mb,a0⟩:∃mb,w.heap.size=mb:=zJ;obtain⟨W1,aw⟩:∃W1,w.alloc (.map #[] 0)=W1:=zJ;have bv:Below w w W1:=by rw[<-aw];exact(aC _ _).alloc (aD _) _
 have z1:W1.heap.size=mb+1:=by rw[<-aw,<-a0];simp
 have cp:W1.ownsMap prog 9 RV mb 0 (.map []):=by rw[<-aw,<-a0];exact World.ownsMap_made _ _ _ _
 have HC:=zq (Nd p fs d W1 (h.B bv) da);have hl:=FP d;obtain⟨l,bl⟩:∃l,AU d=l:=zJ;rw[bl]at HC hl bw⊢;have hN:l.length<=1000000:=by omega
 obtain⟨dg,b1,df,cl,ae⟩:=zG bw bv cp z1 a0;have ef:(Instr.makeMap 174 none).run prog w= .ok (.map (some mb)) W1:=by rw[<-aw,<-a0];rfl
 clear h bv cp bw hl bl da;go_enter func60,ntmps60
 go_wp2_with fail
 clear aw a0 z1;go_wp2_with (go_at_call 106;refine HC.o.M ?_;rintro e w2 ⟨A,c,fa,rfl,ra,pa,b2⟩;have RA:=zq ra;have PA:=zq pa;have B2:=zq b2;clear ra pa b2)
 obtain⟨A',c',bu,ev,hc,hm,hx⟩:=rSl.css RA.o;injection ev with dn dp dr
 subst dn dr;have HX:=zq hx;have bo:=zq (rSl.there Af.X RA.o);have cq:w2.ownsMap prog 9 RV mb 0 (.map []):=df.o.kept (row:=none) ⟨B2.o.os,B2.o.tape,B2.o.output,B2.o.size,fun k hk _ => B2.o.block k hk⟩ zX;have b9:=zq cq;have b5:=zq (show Below w w w2 from b1.o.T (B2.o.M b1.o.size));have ek:mb<w2.heap.size:=by have:=cl.o;have:=B2.o.size;omega
 clear hx cq HC dp;go_loopw [13,5] (fun ix _ wr =>∃(i n:Nat) (D:DataW Value),i<=l.length/\n<=i/\ix=i/\Hid (FY l bu D i)/\Hid (wr.ownsMap prog 9 RV mb n D)/\Hid (∀a:Addr,a.block<w2.heap.size->wr.cell? a=w2.cell? a)/\Hid (Below w w wr)/\w2.heap.size<=wr.heap.size) (fun ix _ _ => l.length - (intOf ix).toNat)
 ·exact⟨0,0,.map [],by omega,by omega,rfl,FY.start _ _,b9.o,fun a _ => rfl,b5.o,aD _⟩
 ·obtain⟨i,n,D,hi,hn,rfl,ao,a4,ak,HB,d3⟩:=hrel;by_cases ba:i<l.length
  ·obtain⟨ad,b3,o3,f3,rfl,u⟩:=HX.o i ba;obtain⟨f,aa⟩:∃f,List.getD bu i [] =f:=zJ;rw[aa]at u;have dc:=zq aa;have d7:=u.place;have cw:b3<w2.heap.size:=u.lt;have d5:b3<wr.heap.size:=by omega
   have s:f.length=9:=u.len;have HR:=zq (show wr.rangeAt b3 o3 f from fun q v hq => by
    have bb:q<f.length:=(List.getElem?_eq_some_iff.1 hq).1;rw[ak.o _ cw,u.cell q bb,<-hq];exact(aO bb).symm)
   obtain⟨HI,an,ap⟩:=zI (show(prog.info? 105).map (·.size)=some f.length by rw[s];kernel_rfl) (show(prog.info? 105).map (·.size)=some f.toArray.size by rw[bD,s];kernel_rfl) (all_oneCell_toArray (Af.ones _ _ _ _ u.reads));obtain⟨Z,hZ⟩:∃Z:Array Value,#[int i64 0,(),.string ⟨#[]⟩,(),(),(),zQ,zQ,zQ] =Z:=zJ;have af:Z.size=9:=by rw[<-hZ];rfl
   have KZ:=Blk.new wr 105 Z;have av:=zq (Blk.there KZ f.toArray.size (by rw[bD,s,af];exact aD _));obtain⟨W2,a7⟩:∃W2,(wr.alloc (.cells Z 105)).setCells wr 0 f.toArray.toList=W2:=zJ;have k2:Blk W2 wr 105 f.toArray:=by rw[<-a7];exact Blk.laid KZ _ (by rw[af];exact s.symm)
   have ab:Below wr wr W2:=by rw[<-a7];exact AS (Ac (aC _ _) _) _ 0 (aD _)
   obtain⟨cj,ea,di⟩:=zI a7 ab (Blk.rangeAll k2);have dv:=k2.lt;obtain⟨v0,v1,v2,q0,q1,q2,e,-⟩:=u.reads;have y0:W2.cell? ⟨wr.heap.size,0,none⟩=some (int i64 l[i].kind):=by rw[k2.cell,e];rfl
   have y2:W2.cell? ⟨wr.heap.size,2,none⟩=some (.string l[i].name):=by rw[k2.cell,e];rfl
   obtain⟨be,bi,b6⟩:=zI (show W2.ownsMap prog 9 RV mb n D from a4.o.kept (row:=none) ⟨ab.os,ab.tape,ab.output,ab.size,fun k hk _ => ab.block k hk⟩ zX) (show∀a:Addr,a.block<w2.heap.size->W2.cell? a=w2.cell? a from fun a ha =>(ab.cell (p:=a) zZ).T (ak.o a ha)) (HB.o.T (ab.M HB.o.size));have dx:=dg.o _ (aT ba);have ee:(i:Int)<(l.length:Int):=by omega
   have ei:=ab.size;clear u a7 KZ s af k2 e aa ab;by_cases qk:l[i].kind =1
   ·have hk:(l[i].kind == 1)=true:=by simpa using qk
    have aq:=zq (ao.o.put ba qk dc.o);clear qk;go_wp2_with (first
     |(refine aE rfl 105 (.tmp 15) rfl b3 o3 rfl f _ HR.o underlying105 rfl HI.o ?_)
     |(refine aV rfl 105 (.tmp 5) (.tmp 16) rfl wr 0 f.toArray rfl rfl av.o an.o ap.o ?_;rw[cj.o])
     |(refine aE rfl 105 (.tmp 5) rfl wr 0 rfl f _ di.o underlying105 rfl HI.o ?_)
     |(at_mapUpdate;refine wpList_mapUpdate_own _ rfl _ _ _ 174 rfl 9 105 OI underlying174 RV mb n D rfl be.o (by unfold maxLen;omega) _ _ (DY l[i].name) rfl rfl (keyOfN dx) (.held (.agg f)) [] rfl ?_;intro w4 a1 ai;have cb:=zq a1;have bp:=zq ai;clear a1 ai))
    go_roundw
    ·refine⟨i+1,n+1,_,by omega,by omega,by go_num,aq.o,cb.o,fun a ha => ?_,b6.o.T (IG bp.o (by rw[ae.o];exact aD _) (by rw[ae.o];omega)),by have:=bp.o.size;omega⟩;by_cases e:a.block=mb
     ·rw[J7 cb.o e,J7 b9.o e]
     ·exact(World.cell?_of_block (bp.o.block a.block zZ (fun z => by injection z with z;exact e z))).T (bi.o a ha)
    ·simp[intOf];omega
   ·have hk:(l[i].kind == 1)=false:=by simpa using qk
    have aq:=zq (ao.o.skip ba qk);clear qk;go_wp2_with (first
     |(refine aE rfl 105 (.tmp 15) rfl b3 o3 rfl f _ HR.o underlying105 rfl HI.o ?_)
     |(refine aV rfl 105 (.tmp 5) (.tmp 16) rfl wr 0 f.toArray rfl rfl av.o an.o ap.o ?_;rw[cj.o]))
    go_roundw
    ·exact⟨i+1,n,D,by omega,by omega,by go_num,aq.o,be.o,bi.o,b6.o,by omega⟩
    ·simp[intOf];omega
  ·obtain rfl:i=l.length:=by omega
   obtain⟨bq,a5,ca⟩:=zI (a4.o.alloc (.cells #[] 105)) (Ak.start (R:=Af) (World.ownsRow_lit (base:=wr.heap.size) (e:=105) (size:=9) wr #[] 0 (aD _) (Nat.zero_le _) rfl)) (O4 a4.o);have bc:(wr.alloc (.cells #[] 105)).heap.size =wr.heap.size+1:=by simp
   have am:=zq (show Below wr wr (wr.alloc (.cells #[] 105))from(aC _ _).alloc (aD _) _);obtain⟨W3,cu⟩:∃W3,wr.alloc (.cells #[] 105)=W3:=zJ;rw[cu]at bq a5 am bc;obtain⟨gO,al⟩:∃gO,wr.heap.size=gO:=zJ;rw[al]at a5 am bc d3;go_wp2_with (at_range;refine wpList_range_own _ rfl _ 174 rfl 9 105 OI underlying174 RV mb n D rfl bq.o ?_;intro w5 c5 cx c6;have bg:=zq c5;have aj:=zq cx;have cf:=zq c6;clear c5 cx c6)
   go_frame
   obtain⟨rr,bx⟩:∃rr,W3.heap.size=rr:=zJ;have br:=bg;have HS:=cf;rw[bx]at br HS bc;clear bg cf;have ah:=zq (show Below W3 W3 w5 from⟨aj.o.os,aj.o.tape,aj.o.output,aj.o.size,fun k hk => aj.o.block k hk zX⟩);obtain⟨bf,ci,bj⟩:=zI (a5.o.B Af.L Af.X ah.o) (Gt.start ao.o) (show∀a:Addr,a.block<w2.heap.size->w5.cell? a=w2.cell? a from fun a ha =>(ah.o.cell (p:=a) zZ).T ((am.o.cell (p:=a) zZ).T (ak.o a ha)));have ed:mb<gO:=by omega
   have b4:=zq (show Below w w w5 from HB.o.T (((am.o.M (show w.heap.size<=gO from by have:=ae.o;omega)).T (ah.o.M (by have:=ae.o;omega)))));clear cu al a5 ak HB am bq a4 aj;try rw[bx]
   clear bx;subst bc;go_loopw [6,8] (fun o _ wx =>∃(left:Lit->Bool) (a6 k g c1:Nat) (L:List Aj) (fo:List Addr),o= .slice (some (zE g)) k c1/\Hid (k=L.length)/\g≠gO+1/\gO<=g/\a6+k<=Maps.size D/\Hid (Gt l left L)/\Hid (wx.ranges prog 9 RV mb (gO+1) n D left a6)/\Hid (Ak 9 105 Af wx gO (.slice (some (zE g)) k c1) L fo)/\Hid (∀a,a∈fo->a∈fa)/\Hid (∀a:Addr,a.block<w2.heap.size->wx.cell? a=w2.cell? a)/\Hid (Below w w wx)/\gO+1<wx.heap.size) (fun _ _ wx => wx.rangeLeft mb (gO+1))
   ·exact⟨_,_,0,gO,0,[],[],rfl,rfl,by omega,aD _,by omega,ci.o,br.o,bf.o,(show∀a,a∈([]:List Addr)->a∈fa from fun a ha => by cases ha),bj.o,b4.o,by have:=HS.o;omega⟩
   ·clear ci br bf bj b4 HS ah;obtain⟨left,a6,k,g,c1,L,fo,rfl,HK,a9,al,d6,HV,HR,HO,HF,ak,HB,eg⟩:=hrel;go_wp2_with (at_next;refine wpList_next_ranges _ rfl _ rfl 9 OI RV Value.string id (fun eh kl h => Tl h) (fun v y h =>⟨v,rfl⟩) mb (gO+1) n D left a6 rfl HR.o ?_ ?_)
    ·intro du c2;have dl:=zq (Qi (n:=k) HO.o HK.o (by have:=ca.o;omega) al (HO.o.lt _ rfl).2 (fun a ha => by have:=bo.o a (HF.o a ha);omega));have de:=zq c2;clear du c2;go_wp2_with (go_at_call 107;refine dl.o.M ?_;rintro e w7 ⟨rfl,M,f7,c4,c7,r7,p7,b7⟩;have cd:=zq c4;have dk:=zq c7;have R7:=zq r7;have P7:=zq p7;have B7:=zq b7;clear c4 c7 r7 p7 b7)
     go_ret
     have s:M.length=k:=by rw[HK.o,cd.o.length_eq]
     refine⟨M,some (zE g),c1,f7,by rw[s];rfl,HV.o.live de.o cd.o dk.o,by rw[s];exact R7.o,fun a ha => ?_,HB.o.T (B7.o.M (by have:=ae.o;omega))⟩;rcases P7.o a ha with q|q
     ·rcases PA.o a (HF.o a q)with q2|q2
      ·exact .inl q2
      ·right;have:=cl.o;have:=ae.o;omega
     ·right;have:=ae.o;omega
    ·intro x cv kl y ys w6 bk c0 c3 cr d4 ax bn bm cy bz ec;have d8:=Nat.le_of_eq bz;have d9:=Nat.le_of_eq bz.symm;clear bz;obtain rfl:=Tk c0;have ct:DataW.held cv=y:=cr;subst ct;have eb:=ca.o;have hh:=Maps.has_true_of_atKey ax;rw[ao.o.has]at hh;simp only[bG]at hh;obtain⟨q,hq⟩:∃q:Nat,CU l x l.length=(q:Int):=⟨(CU l x l.length).toNat,by omega⟩;have hv:=ao.o.at_ x q hq (.lit (.bool true));rw[ax]at hv;obtain⟨f,aa⟩:∃f,List.getD bu q [] =f:=zJ;rw[aa]at hv;obtain rfl:cv= .agg f:=by injection hv
     obtain⟨d0,dw,dy,az,ay⟩:=HV.o.step c3 hq;obtain⟨ad,b3,o3,f3,rfl,u⟩:=HX.o q d0;rw[aa]at u;have s:f.length=9:=u.len;obtain⟨HI,an,ap,dm⟩:=zH (show(prog.info? 105).map (·.size)=some f.length by rw[s];kernel_rfl) (show(prog.info? 105).map (·.size)=some f.toArray.size by rw[bD,s];kernel_rfl) (all_oneCell_toArray (Af.ones _ _ _ _ u.reads)) (show f.toArray.size=9 by rw[bD];exact s);obtain⟨Z,hZ⟩:∃Z:Array Value,#[int i64 0,(),.string ⟨#[]⟩,(),(),(),zQ,zQ,zQ] =Z:=zJ;have af:Z.size=9:=by rw[<-hZ];rfl
     have KZ:=Blk.new w6 105 Z;have av:=zq (Blk.there KZ f.toArray.size (by rw[bD,s,af];exact aD _));obtain⟨W7,a8⟩:∃W7,(w6.alloc (.cells Z 105)).setCells w6 0 f.toArray.toList=W7:=zJ;have k7:Blk W7 w6 105 f.toArray:=by rw[<-a8];exact Blk.laid KZ _ (by rw[af];exact s.symm)
     have ac:Below w6 w6 W7:=by rw[<-a8];exact AS (Ac (aC _ _) _) _ 0 (aD _)
     have ck:=zq a8;have dj:=zq (Blk.rangeAll k7);have dv:=k7.lt;have ej:=ac.size;have a3:=zq cy;have co:∀a:Addr,a.block<w2.heap.size->w6.cell? a=w2.cell? a:=fun a ha =>(World.cell?_of_block (a3.o.block a.block zZ (fun z => by injection z with z;omega))).T (ak.o a ha)
     have au:=zq (show∀a:Addr,a.block<w2.heap.size->W7.cell? a=w2.cell? a from fun a ha =>(ac.cell (p:=a) zZ).T (co a ha));have ce:=zq (show Af W7 f3 f l[q]from Af.L _ _ _ _ _ u.reads (fun a ha => au.o a (u.there a ha)));have dz:=(HO.o.lt _ rfl).2;have dh:=zq (show Ak 9 105 Af w6 gO (.slice (some (zE g)) k c1) L fo from Ak.keep Af.L HO.o (fun b hb => by injection hb with hb;subst hb;exact a3.o.block _ dz (fun z => by injection z with z;exact a9 z)) (fun a ha => by have:=bo.o a (HF.o a ha);exact World.cell?_of_block (a3.o.block a.block zZ (fun z => by injection z with z;omega))));obtain⟨cc,ar,a2,dd⟩:=zH (dh.o.B Af.L Af.X ac) (bn.kept (row:=none) ⟨ac.os,ac.tape,ac.output,ac.size,fun k hk _ => ac.block k hk⟩ zX zX) (HB.o.T (((IG a3.o (show w.heap.size<=gO+1 from by have:=ae.o;omega) HB.o.size)).T (ac.M (by have:=HB.o.size;omega)))) (show∀a,a∈f3->a∈fa from u.sub);obtain⟨v0,v1,v2,q0,q1,q2,e,-⟩:=u.reads;have y3:W7.cell? ⟨w6.heap.size,3,none⟩=some (int i64 l[q].length):=by rw[k7.cell,e];rfl
     obtain⟨bd,ag,b0⟩:=zI HR.o.left_eq bm (addRecQ (P:=fun a => a∈fa) (lo:=gO) (fun a ha => by have:=bo.o a ha;omega) (w:=W7) (W:=W7.alloc (.cells f.toArray 105)) (b:=W7.heap.size) cc.o zZ (Ac (aC _ _) _) (Blk.new _ _ _) (AC.B Af.L Af.X ce.o (Ac (aC _ _) _)) dd.o HF.o (by rw[<-HK.o];omega));rw[<-HK.o]at b0;clear u a8 KZ s af k7 e aa ac hv hh ax cr d4 c0 bn co cy bm c3 dy dw hq;by_cases ql:l[q].length = -1
     ·have bb:(l[q].length == -1)=true:=by simpa using ql
      have bs:=zq (ay ql);clear ql ay az;go_wp2_with (first
       |(refine aV rfl 105 (.tmp 8) (.tmp 31) rfl w6 0 f.toArray rfl rfl av.o an.o ap.o ?_;rw[ck.o]))
      go_roundw
      ·exact⟨_,bk,k,g,c1,L,fo,rfl,HK.o,a9,al,by have:=ag.o;omega,bs.o,ar.o,cc.o,HF.o,au.o,a2.o,by omega⟩
      ·rw[ar.o.left_eq,bd.o];exact ag.o
     ·have bb:(l[q].length == -1)=false:=by simpa using ql
      have bs:=zq (az ql);clear ql ay az;go_wp2_with (first
       |(refine aV rfl 105 (.tmp 8) (.tmp 31) rfl w6 0 f.toArray rfl rfl av.o an.o ap.o ?_;rw[ck.o])
       |(refine aE rfl 105 (.tmp 8) rfl w6 0 rfl f _ dj.o underlying105 rfl HI.o ?_)
       |(refine FM rfl 99 105 (.tmp 36) rfl f.toArray rfl _ 9 128 underlying99 Tryz.infoRec zZ zZ dm.o ?_)
       |(at_builtin;refine An rfl (.tmp 35) (.tmp 37) 99 rfl _ _ zT zT b0.o ?_;rintro v8 w8 ⟨g8,c8,dt,rfl,o8,h8,cn,e8⟩;have O8:=zq o8;have H8:=zq h8;have G8:=zq cn;have E8:=zq e8;clear o8 h8 cn e8))
      have h8:(W7.alloc (.cells f.toArray 105)).heap.size =W7.heap.size+1:=by simp
      have bt:Below W7 W7 (W7.alloc (.cells f.toArray 105)):=Ac (aC _ _) _;have c9:=G8.o.size;obtain⟨bh,cg,db⟩:=zI (((ar.o.alloc (.cells f.toArray 105)).kept G8.o (fun z => by injection z with z;omega) (fun z => by injection z with z;exact a9 z.symm))) (show∀a:Addr,a.block<w2.heap.size->w8.cell? a=w2.cell? a from fun a ha =>(World.cell?_of_block (G8.o.block a.block zZ (fun z => by injection z with z;omega))).T ((bt.cell (p:=a) zZ).T (au.o a ha))) (a2.o.T (((bt.M (by have:=a2.o.size;omega)).T (IG G8.o (show w.heap.size<=g from by have:=ae.o;omega) (by have:=a2.o.size;omega)))));have cz:g8≠gO+1/\gO<=g8:=by
       rcases E8.o with e|e
       ·rw[e];exact⟨a9,al⟩
       ·rw[e,h8];omega
      have b8:=zq cz;have ch:=zq (show gO+1<w8.heap.size by omega);clear h8 bt c9 cz;go_roundw
      ·exact⟨_,bk,k+1,g8,c8,L ++ [l[q]],dt,rfl,(show k+1=_ by rw[aU,<-HK.o];rfl),b8.o.1,b8.o.2,by have:=ag.o;omega,bs.o,bh.o,O8.o,H8.o,cg.o,db.o,ch.o⟩
      ·rw[bh.o.left_eq,bd.o];exact ag.o
theorem Jz:∀a b:List UInt8,Op.bytesLess a b=decide (Lib.compareBytes a b<0)
 | [],[] => by simp[Op.bytesLess,Lib.compareBytes]
 |_ :: _,[] => by simp[Op.bytesLess,Lib.compareBytes]
 | [],_ :: _ => by simp[Op.bytesLess,Lib.compareBytes]
 |x :: a,y :: b => by
  unfold Op.bytesLess Lib.compareBytes;by_cases c:x<y
  ·simp[c]
  ·by_cases f:y<x
   ·have h:¬x=y:=fun e => UInt8.lt_irrefl x (e ▸ f)
    simp[c,f,h]
   ·have h:=N6 c f;subst h;simp[c,Jz a b]
def F7(a b:Aj):Bool:=Op.bytesLess a.name.toList b.name.toList
theorem OV {a b:Aj}:F7 a b=true↔nlt a b:=by
 unfold F7 nlt;rw[Jz,ByteArray.toList_eq,ByteArray.toList_eq];simp
theorem RY {a b:Aj}:F7 a b=false↔¬nlt a b:=by
 rw[<-OV];simp
structure Da (all:List Aj) (i:Nat) (out:List Aj):Prop where
 sorted:out.Pairwise nlt
 mem:∀x,x∈out↔∃k,k<i/\∃h:k<all.length,all[k] =x/\x.kind=1/\x.length≠ -1/\CU all x.name all.length=(k:Int)
theorem Da.start(c):Da c 0 []:=⟨List.Pairwise.nil,fun x =>⟨fun h =>(by cases h),fun⟨k,h,_⟩ => by omega⟩⟩
theorem Da.all_ {c e}(h:Da c c.length e):Eb c e :=
 ⟨h.sorted,fun x =>(h.mem x).T ⟨fun⟨k,_,f,i⟩ =>⟨k,f,i⟩,fun⟨k,f,i⟩ =>⟨k,f,f,i⟩⟩⟩
theorem Da.skip {c f i}(h:Da c i f)(hi:i<c.length)(hn:¬(c[i].kind =1/\c[i].length≠ -1/\CU c c[i].name c.length=(i:Int))):Da c (i+1) f:=by
 refine⟨h.sorted,fun x =>(h.mem x).T ⟨fun⟨k,o,l⟩ =>⟨k,by omega,l⟩,fun⟨k,o,l,n,h4⟩ => ?_⟩⟩;by_cases e:k=i
 ·subst e;subst n;exact absurd h4 hn
 ·exact⟨k,by omega,l,n,h4⟩
theorem FU:∀(L M:List Aj),L.Nodup->(∀x,x∈L->x∈M)->L.length<=M.length
 | [],_,_,_ => Nat.zero_le _
 |x :: L,M,h,hs => by
  obtain⟨i,l⟩:=List.nodup_cons.1 h;obtain⟨s,t,rfl⟩:=List.append_of_mem (hs x (List.mem_cons_self ..));have:=FU L (s ++ t) l fun y f => by
   have c:y≠x:=fun e => i (e ▸ f)
   have:=hs y (List.mem_cons_of_mem _ f);simp only[bQ,List.mem_cons]at this⊢;rcases this with q|q|q
   ·exact .inl q
   ·exact absurd q c
   ·exact .inr q
  simp only[aU,List.length_cons]at this⊢;omega
theorem Da.len {c f i}(h:Da c i f):f.length<=c.length :=
 FU _ _ (h.sorted.imp (fun {a b} l e => by subst e;exact E7 a l)) fun x p => by
  obtain⟨k,_,n,o,_⟩:=(h.mem x).1 p;exact o ▸ aT n
theorem Da.put {f c i}(h:Da f i c)(hi:i<f.length){r:Aj}(hr:f[i] =r)(hk:r.kind=1)(hl:r.length≠ -1)(hn:CU f r.name f.length=(i:Int)){a:Nat}(ha:a<=c.length)(h1:∀q,(hq:q<c.length)->a<=q->F7 r c[q] =true)(z:a=0∨∃(p:a - 1<c.length),F7 r c[a - 1] =false):
  Da f (i+1) (c.take a ++ [r] ++ c.drop a):=by
 have s:∀x,x∈c->¬x.name=r.name:=fun x o e => by
  obtain⟨k,q1,q2,q3,q4,q5,q6⟩:=(h.mem x).1 o;rw[e,hn]at q6;omega
 have n:∀x,x∈c.take a->nlt x r:=fun x o => by
  obtain⟨q,hq,rfl⟩:=aY o;rw[aX]at hq;rw[List.getElem_take];rcases z with z|⟨p,z⟩
  ·omega
  ·have e1:nlt c[a - 1] r:=(nlt_ne (s _ (aT p))).resolve_right (RY.1 z);by_cases e:q=a - 1
   ·subst e;exact e1
   ·exact J6 (List.pairwise_iff_getElem.1 h.sorted q (a - 1) zZ p zZ) e1
 have l:∀x,x∈c.drop a->nlt r x:=fun x o => by
  obtain⟨q,hq,rfl⟩:=aY o;rw[bP]at hq;rw[List.getElem_drop];exact OV.1 (h1 (a+q) zZ zZ)
 refine⟨?_,fun x => ?_⟩
 ·rw[List.append_assoc,List.pairwise_append];refine⟨h.sorted.sublist (List.take_sublist _ _),?_,fun x o y u => ?_⟩
  ·rw[List.singleton_append,List.pairwise_cons];exact⟨l,h.sorted.sublist (List.drop_sublist _ _)⟩
  ·rcases List.mem_append.1 u with u|u
   ·rw[List.mem_singleton.1 u];exact n x o
   ·exact J6 (n x o) (l y u)
 ·have hm:x∈c.take a ++ [r] ++ c.drop a↔(x∈c∨x=r):=by
   have e:x∈c↔(x∈c.take a∨x∈c.drop a):=by rw[<-bQ,List.take_append_drop]
   simp only[bQ,List.mem_singleton,e];constructor
   ·rintro((q|q)|q)
    ·exact .inl (.inl q)
    ·exact .inr q
    ·exact .inl (.inr q)
   ·rintro((q|q)|q)
    ·exact .inl (.inl q)
    ·exact .inr q
    ·exact .inl (.inr q)
  rw[hm,h.mem];constructor
  ·rintro(⟨k,q1,q2⟩|rfl)
   ·exact⟨k,by omega,q2⟩
   ·exact⟨i,by omega,hi,hr,hk,hl,hn⟩
  ·rintro⟨k,q1,q2,q3,q4⟩;by_cases e:k=i
   ·subst e;exact .inr (q3.symm.T hr)
   ·exact .inl ⟨k,by omega,q2,q3,q4⟩
theorem yJ{p:Prop}(h:p:=by repeat(with_reducible first|assumption|exact aC _ _|apply Ac|apply Am)):p:=h
theorem yI{p:Prop}(h:p:=by repeat(with_reducible first|exact Blk.new _ _ _|exact Blk.new1 _ _ _ _|apply Blk.drew_|apply Blk.alloc)):p:=h
theorem yH{p:Prop}(h:p:=by repeat(with_reducible first|exact o1|apply Ak.alloc_ Af.L Af.X|apply Ak.drew_ Af.L)):p:=h
theorem l6Live_k(k:Nat)(ca:k=9)(zR:∀w,(Go.sizeOf 105).run prog w= .ok k w)(aR:∀w,(isAgg 105).run prog w= .ok true w)(v l f w)(h:rSl 9 Af w f v l)(dc:l.length<=1000000)(ab:∀r,r∈l->r.kind=1->r.length= -1∨0<=r.length):
  Calls prog 44 #[v] w fun e w' =>∃L A c ci,e= .returned (.slice A L.length c)/\Eb l L/\rSl 9 Af w' ci (.slice A L.length c) L/\Below w w w':=by
 obtain⟨A0,c0,rfl,c3,c7,hx⟩:=rSl.at_ Af.X zZ h;obtain⟨HX,bz,aa,ce⟩:=zH hx h ca ab;obtain⟨g0,bu⟩:∃g0,w.heap.size=g0:=zJ;have HG:=zq bu;clear hx h ca ab;have bb:Hid (∃fo,rSl 9 Af (w.alloc (.cells #[] 105)) fo (.slice (some (zE g0)) 0 0) []):=⟨[],some (zE g0),0,rfl,aD _,by omega,.inl ⟨rfl,rfl⟩⟩;have b7:Hid (Below g0 w (w.alloc (.cells #[] 105))):=(aC g0 w).alloc zZ _;go_enter func44,ntmps44
 go_wp2_with fail
 try rw[bu]
 clear bu;go_loopw [4,3,5,6] (fun ix o _ _ wr =>∃(i n c:Nat) (A:Option Addr) (L:List Aj),i<=l.length/\ix=i/\o= .slice A n c/\Hid (n=L.length)/\Hid (Da l i L)/\Hid (∃fo,rSl 9 Af wr fo (.slice A n c) L)/\Hid (Below g0 w wr)) (fun ix _ _ _ _ => l.length - (intOf ix).toNat)
 ·exact⟨0,0,0,_,[],by omega,rfl,rfl,rfl,Da.start _,bb.o,b7.o⟩
 ·clear bb b7;obtain⟨i,n,c,A,L,hi,rfl,rfl,HN,ai,HO,HB⟩:=hrel;by_cases z:i<l.length
  ·obtain⟨cg,b3,o3,s,f3,rfl,ad⟩:=HX.o i z;have u:=ad.B Af.L (show Below w w wr by rw[HG.o];exact HB.o);have cb:=ad.place;have cc:cg.add (i * k)=⟨b3,o3,none⟩:=by rw[aa.o];exact ad.place
   have b8:=u.lt;have ac:s.length=9:=u.len;have HR:=zq (show wr.rangeAt b3 o3 s from fun q v hq => by
    have bh:q<s.length:=(List.getElem?_eq_some_iff.1 hq).1;rw[u.cell q bh,<-hq];exact(aO bh).symm)
   obtain⟨HI,ap,aw,bq⟩:=zH (show(prog.info? 105).map (·.size)=some s.length by rw[ac];kernel_rfl) (show(prog.info? 105).map (·.size)=some s.toArray.size by rw[bD,ac];kernel_rfl) (all_oneCell_toArray (Af.ones _ _ _ _ u.reads)) u.reads;obtain⟨Z,hZ⟩:∃Z:Array Value,#[int i64 0,(),.string ⟨#[]⟩,(),(),(),zQ,zQ,zQ] =Z:=zJ;have br:Z.size=9:=by rw[<-hZ];rfl
   have KZ:=Blk.new wr 105 Z;have a0:=zq (Blk.there KZ s.toArray.size (by rw[bD,ac,br];exact aD _));obtain⟨w3,bf⟩:∃w3,(wr.alloc (.cells Z 105)).setCells wr 0 s.toArray.toList=w3:=zJ;obtain⟨K3,B2,a4⟩:=zI (show Blk w3 wr 105 s.toArray by rw[<-bf];exact Blk.laid KZ _ (by rw[br];exact ac.symm)) (show Below wr wr w3 by rw[<-bf];exact AS (Ac (aC _ _) _) _ 0 (aD _)) bf;obtain⟨fo,ho⟩:=HO.o;obtain⟨am,ax,ae⟩:=zI (rSl.B Af.L Af.X ho B2.o) (AC.B Af.L Af.X bq.o B2.o) (HB.o.T (B2.o.M (by rw[<-HG.o];exact HB.o.size)));have cr:=K3.o.lt;obtain⟨v0,v1,v2,q0,q1,q2,e,-⟩:=ad.reads;have y0:w3.cell? ⟨wr.heap.size,0,none⟩=some (int i64 l[i].kind):=by rw[K3.o.cell,e];rfl
   have y2:w3.cell? ⟨wr.heap.size,2,none⟩=some (.string l[i].name):=by rw[K3.o.cell,e];rfl
   have y3:w3.cell? ⟨wr.heap.size,3,none⟩=some (int i64 l[i].length):=by rw[K3.o.cell,e];rfl
   have af:=zq (RL _ l f l[i].name w3 (rSl.B Af.L Af.X bz.o (by rw[HG.o];exact ae.o)));have bi:=zq ac;have c1:L.length<=1000000:=by have:=ai.o.len;omega
   have c6:(i:Int)<(l.length:Int):=by omega
   have a7:=zq (ce.o _ (aT z));clear ad u bf KZ ho ac br e;obtain⟨r,hr⟩:∃r,l[i] =r:=zJ;rw[hr]at y0 y2 y3 af bq ax a7;have ay:=zq hr;clear hr;by_cases an:r.kind=1
   ·rw[an]at y0;have bc:=zq an;clear an;by_cases cv:r.length<0
    ·have av:=zq (show¬(l[i].kind =1/\l[i].length≠ -1/\CU l l[i].name l.length=(i:Int))from by
      rw[ay.o];rintro⟨a1,a2,-⟩;rcases a7.o a1 with q|q
      ·exact a2 q
      ·omega)
     go_wp2_with (first
            |(refine aE rfl 105 (.tmp 16) rfl b3 o3 rfl s _ HR.o underlying105 rfl HI.o ?_)
            |(refine aV rfl 105 (.tmp 5) (.tmp 17) rfl wr 0 s.toArray rfl rfl a0.o ap.o aw.o ?_;rw[a4.o])
            |(go_at_call 83;refine af.o.M ?_;rintro e w6 ⟨rfl,rfl⟩))
     go_roundw
     ·exact⟨i+1,n,c,A,L,by omega,by go_num,rfl,HN,(show Da l (i+1) L from ai.o.skip z av.o),(show∃_,_ from⟨_,am.o⟩),ae⟩
     ·simp[intOf];omega
    ·by_cases ak:CU l r.name l.length=(i:Int)
     ·rw[ak]at af;have b0:=zq (show r.length≠ -1 by omega);have bd:=zq ak;clear ak;go_wp2_with (first
       |(refine aE rfl 105 (.tmp 16) rfl b3 o3 rfl s _ HR.o underlying105 rfl HI.o ?_)
       |(refine aV rfl 105 (.tmp 5) (.tmp 17) rfl wr 0 s.toArray rfl rfl a0.o ap.o aw.o ?_;rw[a4.o])
       |(go_at_call 83;refine af.o.M ?_;rintro e w6 ⟨rfl,rfl⟩))
      have hn:n=L.length:=HN.o;have da:n<=1000000:=by omega
      have be:=zq hn;have Y2:=zq y2;clear hn y0 y2 y3 cv a7 af a0 ap aw a4 B2 bq HR cb cc b8;obtain⟨g6,bv⟩:∃g6,wr.heap.size=g6:=zJ;rw[bv]at K3 Y2⊢;try rw[bv]at cr
      clear bv;obtain⟨A',c',e,c4,c8,hz⟩:=rSl.at_ Af.X zZ am.o;injection e with e1 e2 e3
      subst e1 e3;clear e2;have HZ:=zq hz;clear hz;go_loopw [6] (fun v wr =>∃a:Nat,a<=n/\v=a/\Hid (∀q,(hq:q<L.length)->a<=q->F7 r L[q] =true)/\Hid (Below w3 w3 wr)) (fun v _ =>(intOf v).toNat)
      ·exact⟨n,aD _,rfl,(fun q hq h => by have:=be.o;omega),aC _ _⟩
      ·obtain⟨a,cy,rfl,bj,y⟩:=hrel;have ah:=zq (show a<=L.length by have:=be.o;omega);by_cases b4:a=0
       ·have ba:¬(0:Int)<(a:Int):=by omega
        have bs:decide ((0:Int)<(a:Int))=false:=aG ba;have a8:¬0<a:=by omega
        have bt:decide (0<a)=false:=aG a8;have bk:=zq (show a=0∨∃(bw:a - 1<L.length),F7 r L[a - 1] =false from .inl b4);clear b4;go_wp2_with fail
        go_quiet (fail)
        have y:=zq (AT y.o nq);clear ba bs bt a8;obtain⟨w4,a9⟩:∃w4,wr.drewN nq=w4:=zJ;rw[a9]at y⊢;clear a9;have aq:=zq (ai.o.put z ay.o bc.o b0.o bd.o ah.o bj.o bk.o);have a6:s.length=k:=by rw[aa.o];exact bi.o
        have bw:¬16777216<k:=by rw[aa.o];omega
        have cu:¬k=0:=by rw[aa.o];omega
        obtain⟨aj,K4,ag,ao⟩:=zH (rSl.B Af.L Af.X am.o y.o) (K3.o.B y.o K3.o.lt) (AC.B Af.L Af.X ax.o y.o) (ae.o.T (y.o.M (by rw[<-HG.o];exact ae.o.size)));obtain⟨-,bh,cx⟩:=rSl.bounds aj.o;obtain⟨q1,q2,hl,hr,-⟩:=rSl.split aj.o ah.o;rw[show(fun x:Addr => x.add (a * 9))=fun x => x.add (a * k) by rw[aa.o]]at hr;have au:=zq hl;have az:=zq hr;clear hl hr;have ab:=ah.o;have cn:a<=n:=by have:=be.o;omega
        have cj:(0:Int)<=(a:Int):=by omega
        have ck:(a:Int)<=(n:Int):=by omega
        have cl:(a:Int)<=(c:Int):=by omega
        have cm:a<=c:=by omega
        obtain⟨bp,ar,bo,bl⟩:=zH (show(L.take a ++ [r]).length +(L.drop a).length<=2000000 by rw[aU,aX,bP];simp;omega) (show(L.take a).length<=2000000 by rw[aX];omega) (show∀W,Below w4 w4 W->(Sem.run prog (loadCellsFrom (zE g6) 0 k #[]) W= .ok s.toArray W/\Below w4 w4 W)from fun W hW =>⟨Fp (K4.o.B hW K4.o.lt) a6,hW⟩) (fun(W:World) (b:Nat) (hW:Below w4 w4 W) (hb:Blk W b 105 #[]) (ab:w4.heap.size<=b) => Ki zZ au.o hW hb ab);have bm:=zq (fun(W:World) (v:Value) (h1:List Addr) (b:Nat) (hW:Below w4 w4 W) (ho:Ak 9 105 Af W w4 v (L.take a) h1) (hb:Blk W b 105 s.toArray) => Kj ar.o ag.o hW ho hb);have bn:=zq (fun(W:World) (v:Value) (h1:List Addr) (hW:Below w4 w4 W) (ho:Ak 9 105 Af W w4 v (L.take a ++ [r]) h1) => IZ bp.o az.o hW ho);clear ab au az aj ag;go_wp2_with fail
        go_region_held3 (fun w' => Sem.run prog (loadCellsFrom (zE g6) 0 k #[]) w'= .ok s.toArray w'/\Below w4 w4 w') (exact bo.o _ yJ)
         (first
          |(refine AZ rfl (.tmp 51) (.tmp 54) 99 rfl _ _ zT zT (bl.o _ _ yJ yI zX) ?_;rintro v7 w7 ⟨h1,o1,s1,r1,-⟩;have B7:=Below.grown (show Below w4 w4 _ by repeat(with_reducible first|assumption|exact aC _ _|apply Ac|apply Am)) r1 (by simp <;> omega) (fun k hk => by injection hk with hk;omega))
          |(refine AZ rfl (.tmp 55) (.tmp 57) 99 rfl _ _ zT zT (bm.o _ v7 ([] ++ h1) _ yJ yH (by apply Blk.ofFold;(first|(with_reducible exact Blk.new _ _ _)|(refine Blk.grown ?_ r1 zX;repeat(with_reducible first|exact Blk.new _ _ _|exact Blk.new1 _ _ _ _|apply Blk.drew_|apply Blk.alloc)));(rw[a6];simp))) ?_;rintro v8 w8 ⟨h2,o2,s2,r2,-⟩;have B8:=Below.grown (show Below w4 w4 _ by repeat(with_reducible first|assumption|exact aC _ _|apply Ac|apply Am)) r2 (by first|exact B7.size|(simp;have:=B7.size;omega)) (fun k hk =>(o1.lt k hk).1))
          |(refine AZ rfl (.tmp 58) (.tmp 61) 99 rfl _ _ zT zT (bn.o _ v8 ([] ++ h1 ++ h2) B8 o2) ?_;rintro v9 w9 ⟨h3,o3,s3,r3,-⟩;have B9:=Below.grown B8 r3 B8.size (fun k hk =>(o2.lt k hk).1)))
        all_goals
         obtain⟨gr,a5⟩:=o3.reads;obtain⟨A9,c9,e9,cq,cw⟩:=o3.length;have E9:=zq a5.1;subst e9;clear a5;go_wp2
         go_roundw
         ·exact⟨i+1,_,c9,A9,_,by omega,by go_num,rfl,rfl,aq.o,⟨_,E9.o⟩,ao.o.T (B9.M (by rw[<-HG.o];exact ao.o.size))⟩
         ·simp[intOf];omega
       ·have ba:(0:Int)<(a:Int):=by omega
        have bs:decide ((0:Int)<(a:Int))=true:=aN ba;have a8:0<a:=by omega
        have bt:decide (0<a)=true:=aN a8;have r1:(a:Int) - 1=((a - 1:Nat):Int):=by omega
        have b6:a - 1<L.length:=by have:=ah.o;omega
        obtain⟨ch,b5,o5,cz,f5,rfl,ad⟩:=HZ.o (a - 1) b6;have u:=ad.B Af.L y.o;have cd:ch.add ((a - 1) * k)=⟨b5,o5,none⟩:=by rw[aa.o];exact ad.place
        have cp:=u.lt;obtain⟨u0,u1,u2,t0,t1,t2,b2,-⟩:=u.reads;have p5:wr.cell? ⟨b5,o5+2,none⟩=some (.string L[a - 1].name):=by
         have:=u.cell 2 (by rw[u.len];omega);simpa [b2]using this
        have p2:wr.cell? ⟨g6,2,none⟩=some (.string r.name):=(y.o.cell (p:=⟨g6,2,none⟩) K3.o.lt).T Y2.o;have b9:g6<wr.heap.size:=aH K3.o.lt y.o.size;clear ad u b2;obtain⟨pj,bg⟩:∃pj,F7 r L[a - 1] =pj:=zJ;have b1:=zq bg;unfold F7 at bg;have ct:((a - 1:Nat):Int)<(n:Int):=by omega
        have co:(0:Int)<=((a - 1:Nat):Int):=by omega
        go_wp2_with fail
        go_quiet (fail)
        try rw[bg]
        have al:=zq (AT y.o nq);clear ct co cd p5 p2 bg b9;cases pj with
        |true =>
         go_wp2
         go_roundw
         ·refine⟨a - 1,by omega,by first|rfl|go_num,(show∀_,_ from fun q hq c2 => ?_),al⟩;by_cases e:q=a - 1
          ·subst e;exact b1.o
          ·exact bj.o q hq zZ
         ·simp[intOf];omega
        |false =>
         have bk:=zq (show a=0∨∃(bw:a - 1<L.length),F7 r L[a - 1] =false from .inr ⟨b6,b1.o⟩);have y:=zq al.o;clear r1 ba cp bs bt a8;obtain⟨w4,a9⟩:∃w4,wr.drewN nq=w4:=zJ;rw[a9]at y al⊢;clear a9 al;have aq:=zq (ai.o.put z ay.o bc.o b0.o bd.o ah.o bj.o bk.o);have a6:s.length=k:=by rw[aa.o];exact bi.o
         have bw:¬16777216<k:=by rw[aa.o];omega
         have cu:¬k=0:=by rw[aa.o];omega
         obtain⟨aj,K4,ag,ao⟩:=zH (rSl.B Af.L Af.X am.o y.o) (K3.o.B y.o K3.o.lt) (AC.B Af.L Af.X ax.o y.o) (ae.o.T (y.o.M (by rw[<-HG.o];exact ae.o.size)));obtain⟨-,bh,cx⟩:=rSl.bounds aj.o;obtain⟨q1,q2,hl,hr,-⟩:=rSl.split aj.o ah.o;rw[show(fun x:Addr => x.add (a * 9))=fun x => x.add (a * k) by rw[aa.o]]at hr;have au:=zq hl;have az:=zq hr;clear hl hr;have ab:=ah.o;have cn:a<=n:=by have:=be.o;omega
         have cj:(0:Int)<=(a:Int):=by omega
         have ck:(a:Int)<=(n:Int):=by omega
         have cl:(a:Int)<=(c:Int):=by omega
         have cm:a<=c:=by omega
         obtain⟨bp,ar,bo,bl⟩:=zH (show(L.take a ++ [r]).length +(L.drop a).length<=2000000 by rw[aU,aX,bP];simp;omega) (show(L.take a).length<=2000000 by rw[aX];omega) (show∀W,Below w4 w4 W->(Sem.run prog (loadCellsFrom (zE g6) 0 k #[]) W= .ok s.toArray W/\Below w4 w4 W)from fun W hW =>⟨Fp (K4.o.B hW K4.o.lt) a6,hW⟩) (fun(W:World) (b:Nat) (hW:Below w4 w4 W) (hb:Blk W b 105 #[]) (ab:w4.heap.size<=b) => Ki zZ au.o hW hb ab);have bm:=zq (fun(W:World) (v:Value) (h1:List Addr) (b:Nat) (hW:Below w4 w4 W) (ho:Ak 9 105 Af W w4 v (L.take a) h1) (hb:Blk W b 105 s.toArray) => Kj ar.o ag.o hW ho hb);have bn:=zq (fun(W:World) (v:Value) (h1:List Addr) (hW:Below w4 w4 W) (ho:Ak 9 105 Af W w4 v (L.take a ++ [r]) h1) => IZ bp.o az.o hW ho);clear ab au az aj ag;go_wp2_with fail
         go_region_held3 (fun w' => Sem.run prog (loadCellsFrom (zE g6) 0 k #[]) w'= .ok s.toArray w'/\Below w4 w4 w') (exact bo.o _ yJ)
          (first
           |(refine AZ rfl (.tmp 51) (.tmp 54) 99 rfl _ _ zT zT (bl.o _ _ yJ yI zX) ?_;rintro v7 w7 ⟨h1,o1,s1,r1,-⟩;have B7:=Below.grown (show Below w4 w4 _ by repeat(with_reducible first|assumption|exact aC _ _|apply Ac|apply Am)) r1 (by simp <;> omega) (fun k hk => by injection hk with hk;omega))
           |(refine AZ rfl (.tmp 55) (.tmp 57) 99 rfl _ _ zT zT (bm.o _ v7 ([] ++ h1) _ yJ yH (by apply Blk.ofFold;(first|(with_reducible exact Blk.new _ _ _)|(refine Blk.grown ?_ r1 zX;repeat(with_reducible first|exact Blk.new _ _ _|exact Blk.new1 _ _ _ _|apply Blk.drew_|apply Blk.alloc)));(rw[a6];simp))) ?_;rintro v8 w8 ⟨h2,o2,s2,r2,-⟩;have B8:=Below.grown (show Below w4 w4 _ by repeat(with_reducible first|assumption|exact aC _ _|apply Ac|apply Am)) r2 (by first|exact B7.size|(simp;have:=B7.size;omega)) (fun k hk =>(o1.lt k hk).1))
           |(refine AZ rfl (.tmp 58) (.tmp 61) 99 rfl _ _ zT zT (bn.o _ v8 ([] ++ h1 ++ h2) B8 o2) ?_;rintro v9 w9 ⟨h3,o3,s3,r3,-⟩;have B9:=Below.grown B8 r3 B8.size (fun k hk =>(o2.lt k hk).1)))
         all_goals
          obtain⟨gr,a5⟩:=o3.reads;obtain⟨A9,c9,e9,cq,cw⟩:=o3.length;have E9:=zq a5.1;subst e9;clear a5;go_wp2
          go_roundw
          ·exact⟨i+1,_,c9,A9,_,by omega,by go_num,rfl,rfl,aq.o,⟨_,E9.o⟩,ao.o.T (B9.M (by rw[<-HG.o];exact ao.o.size))⟩
          ·simp[intOf];omega
     ·obtain⟨nv,bx⟩:∃nv,CU l r.name l.length=nv:=zJ;rw[bx]at af ak;have cf:=zq bx;have bd:=zq ak;have db:(nv !=(i:Int))=true:=bne_iff_ne.2 ak;clear bx ak;have av:=zq (show¬(l[i].kind =1/\l[i].length≠ -1/\CU l l[i].name l.length=(i:Int))from by
       rw[ay.o];rintro⟨-,-,a3⟩;rw[cf.o]at a3;exact bd.o a3)
      go_wp2_with (first
             |(refine aE rfl 105 (.tmp 16) rfl b3 o3 rfl s _ HR.o underlying105 rfl HI.o ?_)
             |(refine aV rfl 105 (.tmp 5) (.tmp 17) rfl wr 0 s.toArray rfl rfl a0.o ap.o aw.o ?_;rw[a4.o])
             |(go_at_call 83;refine af.o.M ?_;rintro e w6 ⟨rfl,rfl⟩))
      go_roundw
      ·exact⟨i+1,n,c,A,L,by omega,by go_num,rfl,HN,(show Da l (i+1) L from ai.o.skip z av.o),(show∃_,_ from⟨_,am.o⟩),ae⟩
      ·simp[intOf];omega
   ·have c5:(r.kind != 1)=true:=bne_iff_ne.2 an;have bc:=zq an;clear an;have av:=zq (show¬(l[i].kind =1/\l[i].length≠ -1/\CU l l[i].name l.length=(i:Int))from by
     rw[ay.o];rintro⟨a1,-⟩;exact bc.o a1)
    go_wp2_with (first
           |(refine aE rfl 105 (.tmp 16) rfl b3 o3 rfl s _ HR.o underlying105 rfl HI.o ?_)
           |(refine aV rfl 105 (.tmp 5) (.tmp 17) rfl wr 0 s.toArray rfl rfl a0.o ap.o aw.o ?_;rw[a4.o])
           |(go_at_call 83;refine af.o.M ?_;rintro e w6 ⟨rfl,rfl⟩))
    go_roundw
    ·exact⟨i+1,n,c,A,L,by omega,by go_num,rfl,HN,(show Da l (i+1) L from ai.o.skip z av.o),(show∃_,_ from⟨_,am.o⟩),ae⟩
    ·simp[intOf];omega
  ·obtain rfl:i=l.length:=by omega
   go_wp2
   go_ret
   have h4:n=L.length:=HN.o;obtain⟨fo,h5⟩:=HO.o;subst h4;exact⟨L,A,c,fo,rfl,ai.o.all_,h5,by rw[HG.o];exact HB.o⟩
def Hc(enc:Aj->List (List UInt8))(row:Int)(k:Nat)(st:List UInt8 × Int)(m:Aj):List UInt8 × Int :=
 if m.row=row/\st.2<m.seq then(EC st.1 ((enc m).getD k []),m.seq)else st
def Er(enc:Aj->List (List UInt8))(row:Int)(k:Nat)(b:List UInt8)(stamp:Int)(M:List Aj):List UInt8 × Int:=M.foldl (Hc enc row k) (b,stamp)
def He(enc:Aj->List (List UInt8))(row:Nat)(M:List Aj)(k:Nat)(c:Ba):List UInt8 :=
 if c.wiped=true then []else(Er enc row k (Cu c row).bytes (Cu c row).stamp M).1
def GB(enc:Aj->List (List UInt8))(row:Nat)(M:List Aj)(L:List Ba):List (List UInt8):=L.mapIdx fun k c => He enc row M k c
def Cr(d:As)(g:Nat)(m:Aj):List (List UInt8):=Mw d.s.g.toNat d.s.data.toNat d.s.p.toNat g m
def C4(d:As)(M:List Aj)(g row:Nat):List (List UInt8):=GB (Cr d g) row M (AD d g)
theorem CG(enc:Aj->List (List UInt8))(row M L):(GB enc row M L).length =L.length:=by simp[GB]
theorem GJ(enc:Aj->List (List UInt8))(row M)(L:List Ba){k:Nat}(h:k<L.length):(GB enc row M L)[k]'(by rw[CG];exact h)=He enc row M k L[k]:=by simp[GB]
theorem Mu(enc:Aj->List (List UInt8))(row k)(b:List UInt8)(stamp){M:List Aj}{j:Nat}(h:j<M.length):Er enc row k b stamp (M.take (j+1))=Hc enc row k (Er enc row k b stamp (M.take j)) M[j]:=by
 unfold Er;rw[aK h,List.foldl_append];rfl
theorem Pr {enc:Aj->List (List UInt8)}{row k}{st:List UInt8 × Int}{m}(h:st.1.length=4)(c:((enc m).getD k []).length =4):(Hc enc row k st m).1.length =4:=by
 unfold Hc;split
 ·show(EC _ _).length =4
  rw[Gu _ _ (by rw[h,c]),h]
 ·exact h
theorem DS {enc:Aj->List (List UInt8)}{row k}{b:List UInt8}{stamp}:∀ {M:List Aj},(∀m,m∈M->((enc m).getD k []).length =4)->b.length=4->(Er enc row k b stamp M).1.length =4
 | [],_,h => h
 |m :: M,he,h => by
  have c:(Hc enc row k (b,stamp) m).1.length =4:=Pr h (he m List.mem_cons_self);unfold Er;rw[List.foldl_cons];exact DS (b:=(Hc enc row k (b,stamp) m).1) (stamp:=(Hc enc row k (b,stamp) m).2) (fun x e => he x (List.mem_cons_of_mem _ e)) c
def stF {α:Type}(X Y:List α)(k:Nat):List α:=X.take k ++ Y.drop k
theorem stF_zero {α}(X Y:List α):stF X Y 0=Y:=by simp[stF]
theorem stF_all {α}{X Y:List α}(h:Y.length=X.length):stF X Y X.length=X:=by
 unfold stF;rw[bA,<-h,List.drop_length,List.append_nil]
theorem Pp {X Y:List (List UInt8)}(h:Y.length=X.length){k:Nat}(c:k<X.length):(stF X Y k).getD k [] =Y[k]' zZ :=by
 unfold stF;rw[aP,List.getElem?_append_right (by rw[aX];omega),aX,Nat.min_eq_left zZ,Nat.sub_self,List.getElem?_drop];simp[h,c]
theorem Pq {α}{X Y:List α}(h:Y.length=X.length){k:Nat}(c:k<X.length):stF X Y (k+1)=(stF X Y k).set k X[k]:=by
 unfold stF;rw[List.set_append_right _ _ (by rw[aX];omega),aX,Nat.min_eq_left zZ,Nat.sub_self,List.drop_eq_getElem_cons (show k<Y.length by omega),List.set_cons_zero,aK c,List.append_assoc];rfl
theorem stF_same {X Y:List (List UInt8)}(h:Y.length=X.length){k:Nat}(c:k<X.length)(e:X[k] =Y[k]' zZ):stF X Y (k+1)=stF X Y k:=by
 rw[Pq h c];apply bK
 ·simp
 ·intro i n l;rw[List.getElem_set];split
  ·rename_i f;subst f
   have:=Pp h c;rw[aP,aO l]at this;simp only[Option.getD_some]at this;rw[this,e]
  ·rfl
theorem Mat.lists {w}{g n c:Nat}{o:List (List UInt8)}(h:Mat w g n o)(hc:n<=c)(r:c<=9223372036854775807):∃fs,Az w fs (.slice (some (zE g)) n c) o:=by
 have x:=h.len;have s:∀i:Fin n,∃q:(Option Addr × Nat) × List Addr,w.cell? ⟨g,i.val,none⟩=some (.slice q.1.1 (o.getD i.val []).length q.1.2)/\Ah w q.2 (.slice q.1.1 (o.getD i.val []).length q.1.2) (o.getD i.val []):=fun i => by
  obtain⟨A,c,f,y,p,-⟩:=h.row i.val i.isLt;exact⟨((A,c),f),y,p⟩
 obtain⟨q,hq⟩:=Classical.axiomOfChoice s;refine⟨_,some (zE g),c,by rw[x],by omega,r,.inr ⟨(zE g),(List.finRange n).map fun i => [.slice (q i).1.1 (o.getD i.val []).length (q i).1.2],(List.finRange n).map fun i =>(q i).2,rfl,by simp[x],by simp[x],rfl,fun i z => ?_⟩⟩;have l:i<n:=by omega
 refine⟨by simpa using l,by simpa using l,by simp,fun j hj => ?_,?_⟩
 ·simp only[bI,List.getElem_finRange,Fin.cast_mk,List.length_cons,List.length_nil]at hj⊢;have u:j=0:=by omega
  subst u;have e:((zE g):Addr).add (i * 1+0)=⟨g,i,none⟩:=by rw[Nat.mul_one,bC];exact CO g i
  rw[e];simpa using(hq ⟨i,l⟩).1
 ·simp only[bI,List.getElem_finRange,Fin.cast_mk];have p:=(hq ⟨i,l⟩).2;refine⟨_,rfl,?_⟩;have e:o.getD i [] =o[i]:=by simp[aP,z]
  simp only[e]at p⊢;exact p
theorem intCells {w fs v xs}(h:AW w fs v xs):∀a,a∈fs->∃u,w.cell? a=some (int i64 u):=fun a f => by
 obtain⟨A,c,e,h1,h2,r⟩:=h;rcases r with⟨-,rfl⟩|⟨ad,x,y,-,e2,e3,rfl,r⟩
 ·cases f
 ·rcases List.mem_append.1 f with f|f
  ·obtain⟨q,hq,rfl⟩:=Bt.1 f;obtain⟨q1,q2,q3,s,p,o,-⟩:=r q zZ;refine⟨xs[q],?_⟩;have:=s 0 zZ;rw[Nat.mul_one,bC]at this;rw[this];simp[o]
  ·obtain⟨l,z,n⟩:=List.mem_flatten.1 f;obtain⟨i,hi,rfl⟩:=aY z;obtain⟨q1,q2,q3,s,p,o,-⟩:=r i zZ;rw[p]at n;cases n
theorem Nc {w fs v}{xs:List UInt8}(h:Ah w fs v xs):∀a,a∈fs->∃u,w.cell? a=some (.int .u8 u):=fun a f => by
 obtain⟨A,c,e,h1,h2,r⟩:=h;rcases r with⟨-,rfl⟩|⟨ad,x,y,-,e2,e3,rfl,r⟩
 ·cases f
 ·rcases List.mem_append.1 f with f|f
  ·obtain⟨q,hq,rfl⟩:=Bt.1 f;obtain⟨q1,q2,q3,s,p,o⟩:=r q zZ;refine⟨(xs[q].toNat:Int),?_⟩;have:=s 0 zZ;rw[Nat.mul_one,bC]at this;rw[this];simp[o,Bo]
  ·obtain⟨l,z,n⟩:=List.mem_flatten.1 f;obtain⟨i,hi,rfl⟩:=aY z;obtain⟨q1,q2,q3,s,p,o⟩:=r i zZ;rw[p]at n;cases n
theorem Sg {w fs v M g n}{ms:List (List UInt8)}(h:rSl 9 Af w fs v M)(hm:Mat w g n ms):∀i,i<n->((g,i):Addr)∉fs:=fun i hi y => by
 have ae:∀i,i<n->∃A l c,w.cell? ⟨g,i,none⟩=some (.slice A l c):=fun i hi => by
  obtain⟨A,c,f,h1,-⟩:=hm.row i hi;exact⟨A,_,c,h1⟩
 obtain⟨A,c,e,h1,h2,h3⟩:=h;rcases h3 with⟨-,rfl⟩|⟨ad,aa,ah,-,e2,e3,rfl,h3⟩
 ·cases y
 ·rcases List.mem_append.1 y with y|y
  ·obtain⟨q,hq,e⟩:=Bt.1 y;have hj:q / 9<M.length:=by omega
   obtain⟨q1,q2,q3,q4,hr⟩:=h3 (q / 9) hj;obtain⟨v0,v1,v2,f0,f1,f2,ec,-⟩:=hr;have x:∀r,(hr:r<9)->w.cell? (ad.add (q / 9 * 9+r))=some ((aa[q / 9])[r]' zZ):=fun r hr => q4 r zZ
   have c0:=x 0 zZ;rw[bC]at c0;obtain⟨b,o,hP⟩:=MR c0;have ag:ad.add q=⟨b,o+q % 9,none⟩:=by
    have:=Jr hP (q % 9);rwa [show q / 9 * 9+q % 9=q by omega]at this
   rw[ag]at e;injection e with e4 e5
   subst e4
   -- a cell of the record that holds a number
   have ac:∃r,r<9/\o+r<=i/\∀A l c,w.cell? (zO g (o+r))≠some (.slice A l c):=by
    have ab:q % 9<9:=Nat.mod_lt _ zZ;have cr:∀r,(hr:r<9)->w.cell? ⟨g,o+r,none⟩=some ((aa[q / 9])[r]' zZ):=fun r hr => by rw[<-Jr hP r];exact x r hr
    by_cases h5:q % 9<=5
    ·refine⟨q % 9,ab,by omega,fun A l c s => ?_⟩;have hc:=cr (q % 9) ab;rw[hc]at s;obtain⟨z,hz⟩:∃z,q % 9=z:=zJ;simp only[ec,hz]at s;rw[hz]at h5;match z,h5 with
     |0,_ => simp at s
     |1,_ => simp at s
     |2,_ => simp at s
     |3,_ => simp at s
     |4,_ => simp at s
     |5,_ => simp at s
    ·refine⟨5,by omega,by omega,fun A l c s => ?_⟩;have hc:=cr 5 zZ;rw[hc]at s;simp[ec]at s
   obtain⟨r,hr,ai,af⟩:=ac;obtain⟨A',l',c',s⟩:=ae (o+r) zZ;exact af _ _ _ s
  ·obtain⟨l,hl,p⟩:=List.mem_flatten.1 y;obtain⟨j,hj,rfl⟩:=aY hl;obtain⟨q1,q2,q3,q4,hr⟩:=h3 j zZ;obtain⟨v0,v1,v2,f0,f1,f2,ec,ef,-,-,-,-,-,-,r0,r1,r2⟩:=hr;rw[ef]at p;obtain⟨A',l',c',s⟩:=ae i hi;rcases List.mem_append.1 p with p|p
   ·obtain⟨u,hu⟩:=intCells r0 _ p;rw[hu]at s;cases s
   ·rcases List.mem_append.1 p with p|p
    ·obtain⟨u,hu⟩:=Nc r1 _ p;rw[hu]at s;cases s
    ·obtain⟨u,hu⟩:=Nc r2 _ p;rw[hu]at s;cases s
structure Kg (d:As) (g row:Nat) (M:List Aj):Prop where
 ok:d.s.sh.Ok
 hg:g<d.g.length
 g1:d.s.g<=g
 g2:(g:Int)<d.s.g+d.s.c
 hr:∀dr,dr∈AD d g->row<dr.blocks.length
 h4:∀dr,dr∈AD d g->(Cu dr row).bytes.length =4
 hn:((AD d g).length:Int)=d.s.data+d.s.p
 hm:∀m,m∈M->0<=m.group/\m.group<d.s.g/\(m.delta.length:Int)=4 * d.s.data
theorem Kg.enc {d g row M}(h:Kg d g row M){k:Nat}(r:k<(AD d g).length):∀m,m∈M->((Cr d g m).getD k []).length =4/\k<(Cr d g m).length:=fun m hm => by
 obtain⟨n,o,q⟩:=h.hm m hm;obtain⟨e,f⟩:=h.ok.data;obtain⟨i,l⟩:=h.ok.p;have hn:=h.hn;simp only[Bh.sh]at e f i l;have u:(Cr d g m).length =d.s.data.toNat+d.s.p.toNat:=PB _ _ _ _ _;have c:k<(Cr d g m).length:=by omega
 refine⟨?_,c⟩;rw[aP,aO c];exact SP (by rw[CK];omega) _ _ (aT c)
theorem willBe_k(kr:Nat)(cw:kr=9)(zR:∀w,(Go.sizeOf 105).run prog w= .ok kr w)(aR:∀w,(isAgg 105).run prog w= .ok true w)(p fs d g row w)(h:AtW w p fs d)(ec:(Dk d).length<=1000000)(hP:Kg d g row (CA d.s.g (AU d) (g:Int))):
  Calls prog 231 #[.pointer (some (zE p)),int i64 (g:Int),int i64 (row:Int)] w (Gg (C4 d (CA d.s.g (AU d) (g:Int)) g row) w):=by
 have ay:=zq cw;clear cw;have hg:=hP.hg;have hn:=hP.hn;obtain⟨a1,a2⟩:=hP.ok.data;obtain⟨b1,b2⟩:=hP.ok.p;simp only[Bh.sh]at a1 a2 b1 b2;obtain⟨HH,HP,ak,br⟩:=zH h hP (Oh p fs d g row w h hg hP.hr zZ) (fun(W:World) (hW:Below w w W) => Pz p fs d (g:Int) W (h.B hW) hP.ok zZ ec);obtain⟨a0,c0,b0,o0,A1,c1,f1,HG⟩:=h.grp hg;have dp:=zq HG;have lp:=HG.lp;have l0:=HG.l0;obtain⟨M,hM⟩:∃M,CA d.s.g (AU d) (g:Int)=M:=zJ;rw[hM]at br HP⊢;have ez:=zq hM;obtain⟨L,hL⟩:∃L,AD d g=L:=zJ;have co:C4 d M g row=GB (Cr d g) row M L:=by unfold C4;rw[hL]
 have cl:BK d g row=L.map (Df row):=by unfold BK;rw[hL]
 rw[cl]at ak;rw[co];rw[hL]at hn;have ba:=CG (Cr d g) row M L;have ar:(L.map (Df row)).length =L.length:=bH _;rw[ar]at ak;have c2:0<L.length:=by omega
 have dh:L.length<=5:=by omega
 have az:=zq hL;obtain⟨Bk,bw⟩:∃Bk,L.map (Df row)=Bk:=zJ;obtain⟨X,hX⟩:∃X,GB (Cr d g) row M L=X:=zJ;rw[bw]at ak ar;rw[hX]at ba⊢;obtain⟨dl,HX,aj,ac⟩:=zH bw hX ba (ar.T ba.symm);clear h hP HG hL co cl hM ba ar bw hX hn;go_enter func231,ntmps231
 go_wp2_with fail
 refine ak.o.M ?_;rintro e w1 ⟨A5,c5,f5,rfl,o5,g5,bu⟩;obtain⟨gO,cO,e5,b3,cq,au,cr⟩:=o5.mat (by rw[ac.o,aj.o];exact c2);injection e5 with d4 d5 d6
 subst d4 d6;rw[ac.o,aj.o]at au b3;obtain⟨bd,dr,cd,cf,HU⟩:=zG au cr bu (show L.length<=c5/\c5<=9223372036854775807 from⟨b3,cq⟩) (br.o w1 bu);clear o5 g5 bu b3 cq au cr d5;go_wp2_with (go_at_call 263;refine HU.o.M ?_;rintro e w2 ⟨A6,c6,f6,rfl,r6,b6⟩;have R6:=zq r6;have B6:=zq b6;clear r6 b6)
 have dc:=cd.o.size;have e4:=bd.o.lt;have cp:Below w w w2:=cd.o.T (B6.o.M dc);have eg:=B6.o.size;have b4:=bd.o.B B6.o;obtain⟨dk,du,ce,ci⟩:=zH (Sg R6.o b4) b4 cp (show∀a,a∈Bf (zE gO) L.length->w.heap.size<=a.block from fun a ha => by rw[Ek ha];exact dr.o);clear ak br HU cp b4;go_loopw [23,9,10,11,13] (fun i _ _ _ _ wr =>∃k:Nat,k<=L.length/\i=k/\Hid (Mat wr gO L.length (stF X Bk k))/\Hid (Bn (Bf (zE gO) L.length) w2 wr)) (fun i _ _ _ _ _ => L.length - (intOf i).toNat)
 ·exact⟨0,by omega,rfl,(show Mat _ _ _ _ by rw[stF_zero];exact du.o),Bn.refl _ _⟩
 ·obtain⟨k,hk,rfl,an,a3⟩:=hrel;have ax:=zq (ce.o.T (a3.o.B (by have:=ce.o.size;omega) ci.o));have de:=ax.o.size;by_cases ab:k<L.length
  ·have a8:k<X.length:=by rw[aj.o];exact ab
   obtain⟨A7,c7,f7,x7,r7,g7⟩:=an.o.row k ab;rw[Pp ac.o a8]at x7 r7;have aq:Bk[k]'(by rw[ac.o];exact a8)=Df row L[k]:=by simp only[<-dl.o,bI]
   rw[aq]at x7 r7;have bb:X[k] =He (Cr d g) row M k L[k]:=by
    have:=GJ (Cr d g) row M L ab;simp only[HX.o]at this;exact this
   have cz:L[k]∈AD d g:=by rw[az.o];exact aT ab
   have h4:=HP.o.h4 _ cz;have ct:=an.o.lt;have n:Df row L[k] =if L[k].wiped =true then []else(Cu L[k] row).bytes:=rfl
   have l:He (Cr d g) row M k L[k] =if L[k].wiped =true then []else(Er (Cr d g) row k (Cu L[k] row).bytes (Cu L[k] row).stamp M).1:=rfl
   have dw:=zq (rSl.keep Af.L R6.o (a3.o.same (rSl.there Af.X R6.o) (fun a ha hb => by
    obtain⟨i,hi,e⟩:=Bt.1 hb;rw[CO]at e;exact dk.o i hi (e ▸ ha))))
   have ag:=Pq ac.o a8;have bp:=zq ag;obtain⟨wp,ca⟩:∃wp,L[k].wiped =wp:=zJ;rw[ca]at n l;cases wp with
   |true =>
    rw[aM rfl]at n l;rw[n]at x7 aq;have bn:=zq (stF_same ac.o a8 (by rw[bb,l,aq]));simp only[List.length_nil]at x7;clear r7 n l aq bb ca h4 ag;go_wp2
    go_roundw
    ·exact⟨k+1,by omega,by go_num,(show Mat _ _ _ _ by rw[bn.o];exact an.o),a3.o⟩
    ·simp[intOf];omega
   |false =>
    rw[aJ zX]at n l;rw[n,h4]at x7 r7;have bt:=zq (bb.T l);have ae:=dp.o.B ax.o;have c4:=ae.rd;have a7:k<(AD d g).length:=by rw[az.o];exact ab
    have cn:(AD d g)[k] =L[k]:=by simp only[az.o]
    obtain⟨el,eo,fg,em,er,ep,fh,eh,es,eu,d3,HD⟩:=LR (row:=row) c4 a7 (HP.o.hr _ (aT a7));subst d3;have da:=HP.o.hr _ (aT a7);rw[cn]at HD da;have n9:=ae.n9;have pl:=ae.pl;have k0:=ae.k0;rw[az.o]at k0;have fc:=ae.l0;have ff:=ae.lp;have p1:=HD.p1;have l1:=HD.l1;have y1:=HD.y1;have p2:=HD.p2;have l2:=HD.l2;have z0:=HD.z0;obtain⟨B,hB⟩:∃B,(Cu L[k] row).bytes =B:=zJ;obtain⟨sp,db⟩:∃sp,(Cu L[k] row).stamp =sp:=zJ;obtain⟨mb,cy⟩:∃mb,L[k].blocks.length =mb:=zJ;rw[hB]at r7 h4 bt;rw[db]at z0 bt;rw[cy]at y1 da;have ef:(row:Int)<(mb:Int):=by omega
    have e2:(g:Int)<(d.g.length:Int):=by omega
    have e6:(k:Int)<(L.length:Int):=by omega
    obtain⟨dx,dn,H4⟩:=zI r7 g7 h4;have bf:=HP.o.enc a7;have al:=zq bf;clear aq bb l n ca ae c4 cn HD hB db cy r7 g7 h4 bf ag;go_wp2_with fail
    obtain⟨u,hu⟩:∃u,u=wr:=zJ;subst hu;go_loopw [48,10,11,13] (fun i b s _ wr =>∃(j:Nat) (A:Option Addr) (c:Nat) (f:List Addr) (st:List UInt8 × Int),j<=M.length/\i=j/\b= .slice A 4 c/\s= int i64 st.2/\Hid (st=Er (Cr d g) row k B sp (M.take j))/\Hid (Ah wr f (.slice A 4 c) st.1)/\Hid (∀a,a∈f->a.block≠gO)/\Hid (Below u u wr)) (fun i _ _ _ _ => M.length - (intOf i).toNat)
    ·exact⟨0,A7,c7,f7,(B,sp),by omega,rfl,rfl,rfl,rfl,dx.o,dn.o,aC _ _⟩
    ·obtain⟨j,A,c,f,st,hj,rfl,rfl,rfl,bo,ao,bk,z⟩:=hrel;have aw:=z.o.size;have ey:gO<wr.heap.size:=by omega
     have dm:=zq (ax.o.T (z.o.M de));by_cases a6:j<M.length
     ·obtain⟨A',c',e,e0,fa,hx⟩:=rSl.at_ Af.X zW dw.o;injection e with e1 _ e3
      subst e1 e3;obtain⟨ad,b,o,cs,fk,rfl,bz⟩:=hx j a6;have r:=bz.B Af.L z.o;have fb:ad.add (j * kr)=⟨b,o,none⟩:=by rw[ay.o];exact bz.place
      have ar:=r.lt;have x:cs.length=9:=r.len;have bm:=zq (show wr.rangeAt b o cs from fun q v hq => by
       have c3:q<cs.length:=(List.getElem?_eq_some_iff.1 hq).1;rw[r.cell q c3,<-hq];exact(aO c3).symm)
      obtain⟨HI,bj,bl,ek⟩:=zH (show(prog.info? 105).map (·.size)=some cs.length by rw[x];kernel_rfl) (show(prog.info? 105).map (·.size)=some cs.toArray.size by rw[bD,x];kernel_rfl) (all_oneCell_toArray (Af.ones _ _ _ _ r.reads)) r.reads;obtain⟨Z,hZ⟩:∃Z:Array Value,#[int i64 0,(),.string ⟨#[]⟩,(),(),(),zQ,zQ,zQ] =Z:=zJ;have bx:Z.size=9:=by rw[<-hZ];rfl
      have KZ:=Blk.new wr 105 Z;have bq:=zq (Blk.there KZ cs.toArray.size (by rw[bD,x,bx];exact aD _));obtain⟨W2,a4⟩:∃W2,(wr.alloc (.cells Z 105)).setCells wr 0 cs.toArray.toList=W2:=zJ;have K2:Blk W2 wr 105 cs.toArray:=by rw[<-a4];exact Blk.laid KZ _ (by rw[bx];exact x.symm)
      have b2:Below wr wr W2:=by rw[<-a4];exact AS (Ac (aC _ _) _) _ 0 (aD _)
      obtain⟨ej,B2,bs⟩:=zI K2 b2 a4;have dd:=b2.size;obtain⟨v0,v1,v2,g0,g1,g2,bv,-⟩:=r.reads;have y1:W2.cell? ⟨wr.heap.size,1,none⟩=some (int i64 M[j].seq):=by rw[K2.cell,bv];rfl
      have y5:W2.cell? ⟨wr.heap.size,5,none⟩=some (int i64 M[j].row):=by rw[K2.cell,bv];rfl
      have gb:wr.heap.size<W2.heap.size:=K2.lt;have a9:=HP.o.hm _ (aT a6);have a5:=al.o _ (aT a6);have y:=Mu (Cr d g) row k B sp a6;rw[<-bo.o]at y;have av:st.1.length=4:=by rw[bo.o];exact DS (fun m hm =>(al.o m (List.mem_of_mem_take hm)).1) H4.o
      have bc:=zq (show∀W,Below W2 W2 W->Calls prog 265 #[.pointer (some (zE p)),int i64 (g:Int),.agg cs] W (Gg (Cr d g M[j]) W)from fun W hW =>
       added_c p fs d g M[j] cs fk W (((HH.o.B dm.o).B b2).B hW) HP.o.ok (AC.B Af.L Af.X (AC.B Af.L Af.X r.reads b2) hW) HP.o.g1 HP.o.g2 a9.1 a9.2.1 a9.2.2)
      have am:=zq (show∀W,Below W2 W2 W->(Sem.run prog (loadCellsFrom (zE wr) 0 kr #[]) W= .ok cs.toArray W/\W.cell? ⟨wr.heap.size,1,none⟩=some (int i64 M[j].seq))from fun W hW =>⟨Fp (K2.B hW K2.lt) (by rw[ay.o];exact x),(hW.cell (p:=⟨wr.heap.size,1,none⟩) gb).T y1⟩);obtain⟨mq,b7⟩:∃mq,M[j].seq =mq:=zJ;obtain⟨mr,b9⟩:∃mr,M[j].row =mr:=zJ;obtain⟨E,hE⟩:∃E,Cr d g M[j] =E:=zJ;rw[b7]at y1 am;rw[b9]at y5;rw[hE]at bc a5;unfold Hc at y;rw[b7,b9,hE]at y;obtain⟨s1,s2⟩:=st;simp only at y av ao;obtain⟨ah,ap,ai⟩:=zI y av a5.1;have cv:=a5.2;have hD:E.getD k [] =E[k]:=by simp[aP,cv]
      obtain⟨D,cm⟩:∃D,E.getD k [] =D:=zJ;rw[cm]at ai ah hD;have HD:=zq hD;clear bz r hx a4 KZ bx K2 b2 bv a9 a5 y av b7 b9 hE hD cm x;by_cases qr:mr=(row:Int)
      ·have cu:(mr ==(row:Int))=true:=by simpa using qr
       by_cases qs:s2<mq
       ·have ea:decide (s2<mq)=true:=aN qs;have aa:=zq (show Er (Cr d g) row k B sp (M.take (j+1))=(EC s1 D,mq) by rw[ah.o,aM ⟨qr,qs⟩]);have be:=zq (fun(W w4:World) (A9:Option Addr) (c9:Nat) (f9:List Addr) (h9:Ah w4 f9 (.slice A9 4 c9) D) (d9:Below w4 w4 W) (hW:Below W2 W2 W) => sum_c (.slice A 4 c) (.slice A9 4 c9) s1 D 1 f f9 W (Ah.B (Ah.B ao.o B2.o) hW) (h9.B d9) (by rw[ap.o,ai.o]) (by rw[ai.o];omega));rw[addS_one,show(((1:UInt8).toNat:Nat):Int)=1 from rfl]at be;have dj:=zq (show(EC s1 D).length =4 by rw[Gu _ _ (by rw[ap.o,ai.o]),ap.o]);have ed:¬kr=0:=by rw[ay.o];omega
        have ee:0<kr:=by rw[ay.o];omega
        have e7:(k:Int)<(E.length:Int):=by omega
        clear qr qs;go_wp2_with (first
         |(refine aE rfl 105 _ rfl b o rfl cs _ bm.o underlying105 rfl HI.o ?_)
         |(refine aV rfl 105 (.tmp 13) (.tmp 51) rfl wr 0 cs.toArray rfl rfl bq.o bj.o bl.o ?_;rw[bs.o]))
        have fd:=(am.o W2 (aC _ _)).1;have fe:=(am.o W2.drew (Am (aC _ _))).1;go_region_law (first
          |(go_simp;go_at_call 265;refine(bc.o _ yJ).M ?_;rintro e w4 ⟨A8,c8,f8,rfl,r8,b8⟩;obtain⟨ei,et,e8,-,-,df⟩:=Az.open_ r8;injection e8 with d7 _ d8;subst d7 d8;obtain⟨en,A9,c9,f9,e9,eq,p9,r9,-⟩:=df k cv;subst e9;rw[<-HD.o,ai.o]at p9;rw[<-HD.o,ai.o]at r9;have B8:=Below.via (a:=W2) yJ b8;have R9:=zq r9;have fi:=(am.o w4 B8).2;have ew:wr.heap.size<w4.heap.size:=aH gb B8.size;clear df r8 r9 b8;dsimp only)
          |(go_simp;go_at_call 264;refine(be.o _ w4 _ _ _ R9.o (by repeat(with_reducible first|exact aC _ _|apply Ac|apply Am)) yJ).M ?_;rintro e w5 ⟨di,d0,ck,rfl,cb,dg,cj⟩;rw[dj.o]at cb⊢;have bi:=Below.via (a:=W2) yJ cj;have fj:=(am.o w5 bi).2;have ex:wr.heap.size<w5.heap.size:=aH gb bi.size;dsimp only))
        all_goals
         have bg:∀a,a∈ck->a.block≠gO:=fun a ha e => by
          have h1:=dg.from_ a ha;have h2:=B8.size;have h3:w4.heap.size<=a.block:=h1;omega
         obtain⟨ch,dz,cc⟩:=zI bg cb (show Below W2 W2 w5 from bi);clear bg dg cb cj;go_wp2
         go_roundw
         ·exact⟨j+1,di,d0,ck,(EC s1 D,mq),by omega,by go_num,rfl,rfl,aa.o.symm,dz.o,ch.o,z.o.T ((B2.o.T (cc.o.M dd)).M aw)⟩
         ·simp[intOf];omega
       ·have ea:decide (s2<mq)=false:=aG qs;have aa:=zq (show Er (Cr d g) row k B sp (M.take (j+1))=(s1,s2) by rw[ah.o,aJ (fun h => qs h.2)]);clear qr qs;go_wp2_with (first
         |(refine aE rfl 105 _ rfl b o rfl cs _ bm.o underlying105 rfl HI.o ?_)
         |(refine aV rfl 105 (.tmp 13) (.tmp 51) rfl wr 0 cs.toArray rfl rfl bq.o bj.o bl.o ?_;rw[bs.o]))
        go_roundw
        ·exact⟨j+1,A,c,f,(s1,s2),by omega,by go_num,rfl,rfl,aa.o.symm,Ah.B ao.o B2.o,bk.o,z.o.T (B2.o.M aw)⟩
        ·simp[intOf];omega
      ·have cu:(mr ==(row:Int))=false:=by simpa using qr
       have aa:=zq (show Er (Cr d g) row k B sp (M.take (j+1))=(s1,s2) by rw[ah.o,aJ (fun h => qr h.1)]);clear qr;go_wp2_with (first
        |(refine aE rfl 105 _ rfl b o rfl cs _ bm.o underlying105 rfl HI.o ?_)
        |(refine aV rfl 105 (.tmp 13) (.tmp 51) rfl wr 0 cs.toArray rfl rfl bq.o bj.o bl.o ?_;rw[bs.o]))
       go_roundw
       ·exact⟨j+1,A,c,f,(s1,s2),by omega,by go_num,rfl,rfl,aa.o.symm,Ah.B ao.o B2.o,bk.o,z.o.T (B2.o.M aw)⟩
       ·simp[intOf];omega
     ·obtain rfl:j=M.length:=by omega
      have af:=bo.o;rw[bA]at af;have b5:=an.o.B z.o;have x8:=(z.o.cell (p:=⟨gO,k,none⟩) ct).T x7;have ev:=b5.free k ab;have cx:st.1.length=4:=by rw[af];exact DS (fun m hm =>(al.o m hm).1) H4.o
      have dv:=zq b5;have cg:=zq cx;have hX:X[k] =st.1:=by rw[bt.o,<-af]
      have dy:=zq hX;clear af b5 cx hX;go_wp2
      go_roundw
      ·have eb:Ah wr f (.slice A st.1.length c) st.1:=by rw[cg.o];exact ao.o
       have bh:=dv.o.set_ ab eb bk.o;rw[cg.o,<-dy.o,<-bp.o]at bh;exact⟨k+1,by omega,by go_num,bh,(a3.o.T (Bn.of_below z.o)).setCell (J4 ab) _⟩
      ·simp[intOf];omega
  ·obtain rfl:k=L.length:=by omega
   have hm:=an.o;have af:stF X Bk L.length=X:=by
    have:=stF_all ac.o;rwa [aj.o]at this
   rw[af]at hm;obtain⟨fl,hl⟩:=hm.lists cf.o.1 cf.o.2;have dt:=zq hl;clear hm af hl;go_wp2
   go_ret
   exact⟨some (zE gO),c5,fl,by rw[aj.o];rfl,by rw[aj.o];exact dt.o,ax.o⟩
theorem willBe_c(p fs d g row w)(h:AtW w p fs d)(c:(Dk d).length<=1000000)(e:Kg d g row (CA d.s.g (AU d) (g:Int))):
  Calls prog 231 #[.pointer (some (zE p)),int i64 (g:Int),int i64 (row:Int)] w (Gg (C4 d (CA d.s.g (AU d) (g:Int)) g row) w) :=
 willBe_k 9 rfl sizeOf105 isAgg105 p fs d g row w h c e
