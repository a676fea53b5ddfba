/- Part 35 of the proof. -/
import Derived.Test.YtfjkoifpdoemdaaGreatJ33
import Derived.Test.YtfjkoifpdoemdaaGreatJ34
import Derived.Maps.RangeWalk
import Derived.Test.YtfjkoifpdoemdaaGreatJ12
import Derived.Maps.OwnOps
set_option maxHeartbeats 8000000
set_option maxRecDepth 100000
set_option linter.unusedVariables false
set_option linter.unusedSimpArgs false
open Go.Proofs.Tryz
open Go.Value (int)
open Go.IntKind (i64)
namespace Go.Proofs.YtfjkoifpdoemdaaGreat
open Go.RowKit Go.Lib Go.Sort
def Dy(nm:ByteArray):Lit:=.string nm.data.toList
theorem JZ(nm:ByteArray):WideAt.IsKeyLit (Dy nm):=by unfold Dy WideAt.IsKeyLit;trivial
theorem JY {a b:ByteArray}(h:Dy a=Dy b):a=b:=by
 unfold Dy at h;injection h with h
 cases a with
 |mk x => cases b with
  |mk y => exact congrArg ByteArray.mk (Array.toList_inj.1 h)
theorem Qu {a b:ByteArray}:(Dy a).sameKey (Dy b)=decide (a=b):=by
 by_cases h:a=b
 ·subst h;rw[WideAt.sameKey_self (JZ a)];simp
 ·rw[Maps.sameKey_ne (fun e => h (JY e))];simp[h]
structure Fh (ds:List Ah) (css:List (List Value)) (D:DataW Value) (i:Nat):Prop where
 isMap:Maps.IsMap D
 has:∀nm,Maps.has D (Dy nm)=decide (0≤CD ds nm i)
 at_:∀nm (k:Nat),CD ds nm i=(k:Int)→∀zd,D.atKey (Dy nm) zd= .held (.agg (css.getD k []).toArray)
theorem Fh.start(ds:List Ah)(css:List (List Value)):Fh ds css (.map []) 0 :=
 ⟨Maps.isMap_empty,fun nm => by simp[CD,Maps.has_eq],fun nm k h => by simp[CD]at h⟩
theorem Fh.skip {ds:List Ah} {css:List (List Value)} {D:DataW Value} {i:Nat}(h:Fh ds css D i)(hi:i<ds.length)(hk:¬ds[i].kind =1):Fh ds css D (i+1):=by
 have hn:∀nm,CD ds nm (i+1)=CD ds nm i:=fun nm => Ju hi (by unfold En;simp[hk])
 exact⟨h.isMap,fun nm => by rw[hn];exact h.has nm,fun nm k e => h.at_ nm k (by rw[← hn];exact e)⟩
theorem Fh.put {ds:List Ah} {css:List (List Value)} {D:DataW Value} {i:Nat}(h:Fh ds css D i)(hi:i<ds.length)(hk:ds[i].kind =1) {cs:List Value}(hc:css.getD i [] =cs):Fh ds css (D.put (Dy ds[i].name) (.held (.agg cs.toArray))) (i+1):=by
 refine⟨h.isMap.put _ _,fun nm => ?_,fun nm k e zd => ?_⟩
 ·by_cases hn:ds[i].name =nm
  ·subst hn;rw[Maps.has_put_same h.isMap (JZ _),J3 hi (by unfold En;simp[hk])];simp
  ·rw[Maps.has_put_other (fun e => hn (JY e).symm),Ju hi (by unfold En;simp[hn])];exact h.has nm
 ·by_cases hn:ds[i].name =nm
  ·subst hn;rw[J3 hi (by unfold En;simp[hk])]at e;obtain rfl:i=k:=by omega
   rw[Maps.atKey_put_same h.isMap (JZ _),hc]
  ·rw[Ju hi (by unfold En;simp[hn])]at e;rw[Maps.atKey_put_other (fun e => hn (JY e).symm)];exact h.at_ nm k e zd
def Ky(ds:List Ah)(x:Ah):Prop:=∃k,∃h:k<ds.length,ds[k] =x∧x.kind=1∧x.length≠ -1∧CD ds x.name ds.length=(k:Int)
structure D7 (ds L:List Ah):Prop where
 sorted:L.Pairwise nlt
 mem:∀x,x∈L↔Ky ds x
theorem JP:∀ {L M:List Ah},L.Pairwise nlt→M.Pairwise nlt→(∀x,x∈L↔x∈M)→L=M
 | [],[],_,_,_ => rfl
 | [],y :: M,_,_,h => by have:=(h y).2 (List.mem_cons_self ..);cases this
 |x :: L,[],_,_,h => by have:=(h x).1 (List.mem_cons_self ..);cases this
 |x :: L,y :: M,h1,h2,h => by
  obtain⟨a1,a2⟩:=List.pairwise_cons.1 h1;obtain⟨b1,b2⟩:=List.pairwise_cons.1 h2;have e:x=y:=by
   rcases List.mem_cons.1 ((h x).1 (List.mem_cons_self ..))with e|e
   ·exact e
   ·rcases List.mem_cons.1 ((h y).2 (List.mem_cons_self ..))with e2|e2
    ·exact e2.symm
    ·exact absurd (Je (a1 y e2) (b1 x e)) (Fc x)
  subst e;rw[JP a2 b2 fun z =>⟨fun hz => ?_,fun hz => ?_⟩]
  ·rcases List.mem_cons.1 ((h z).1 (List.mem_cons_of_mem _ hz))with e|e
   ·subst e;exact absurd (a1 z hz) (Fc z)
   ·exact e
  ·rcases List.mem_cons.1 ((h z).2 (List.mem_cons_of_mem _ hz))with e|e
   ·subst e;exact absurd (b1 z hz) (Fc z)
   ·exact e
theorem D7.uniq {ds L M:List Ah}(h1:D7 ds L)(h2:D7 ds M):L=M:=JP h1.sorted h2.sorted fun x =>(h1.mem x).trans (h2.mem x).symm
structure FR (ds:List Ah) (left:Lit→Bool) (L:List Ah):Prop where
 apart:L.Pairwise fun x y =>¬x.name=y.name
 mem:∀x,x∈L↔(Ky ds x∧left (Dy x.name)=false)
theorem FR.start {ds:List Ah} {css:List (List Value)} {D:DataW Value}(h:Fh ds css D ds.length):FR ds (Maps.has D) [] :=
 ⟨List.Pairwise.nil,fun x =>⟨fun hx =>(by cases hx),fun⟨⟨k,_,_,_,_,e⟩,hx⟩ => by rw[h.has,e]at hx;simp at hx⟩⟩
theorem FR.step {ds:List Ah} {left:Lit→Bool} {L:List Ah}(h:FR ds left L) {nm:ByteArray} {k:Nat}(hl:left (Dy nm)=true)(hn:CD ds nm ds.length=(k:Int)) :
  ∃hk:k<ds.length,ds[k].kind =1∧ds[k].name =nm∧(ds[k].length≠ -1→FR ds (fun z => left z && !z.sameKey (Dy nm)) (L ++ [ds[k]]))∧(ds[k].length = -1→FR ds (fun z => left z && !z.sameKey (Dy nm)) L):=by
 obtain⟨hk,hi⟩:=OA ds nm k _ hn;unfold En at hi;simp only[bN]at hi;have hone:∀x,Ky ds x→x.name=nm→x=ds[k]:=fun x ⟨j,hj,e1,_,_,e2⟩ e => by
  rw[e]at e2;obtain rfl:k=j:=by omega
  exact e1.symm
 have hlf:∀x:Ah,(left (Dy x.name) && !(Dy x.name).sameKey (Dy nm))=false↔(left (Dy x.name)=false∨x.name=nm):=fun x => by
  rw[Qu];cases left (Dy x.name) <;> simp
 refine⟨hk,hi.1,hi.2,fun hd =>⟨?_,fun x => ?_⟩,fun hd =>⟨h.apart,fun x => ?_⟩⟩
 ·rw[List.pairwise_append];refine⟨h.apart,List.pairwise_singleton _ _,fun a ha b hb => ?_⟩;rw[List.mem_singleton.1 hb,hi.2];intro e;have:=((h.mem a).1 ha).2;rw[e,hl]at this;cases this
 ·rw[bV,List.mem_singleton,h.mem,hlf];constructor
  ·rintro(⟨a,b⟩|rfl)
   ·exact⟨a,.inl b⟩
   ·exact⟨⟨k,hk,rfl,hi.1,hd,by rw[hi.2];exact hn⟩,.inr hi.2⟩
  ·rintro⟨a,b|b⟩
   ·exact .inl ⟨a,b⟩
   ·exact .inr (hone x a b)
 ·rw[h.mem,hlf];constructor
  ·rintro⟨a,b⟩;exact⟨a,.inl b⟩
  ·rintro⟨a,b|b⟩
   ·exact⟨a,b⟩
   ·have e:=hone x a b;obtain⟨_,_,_,_,hne,_⟩:=a;rw[e]at hne;exact absurd hd hne
theorem FR.live {ds:List Ah} {left:Lit→Bool} {L M:List Ah}(h:FR ds left L)(hl:∀kl,left kl=false)(hp:M.Perm L)(hs:M.Pairwise fun x y =>¬nlt y x):D7 ds M:=by
 have hap:M.Pairwise fun x y =>¬x.name=y.name:=(hp.pairwise_iff (fun {_ _} hne => Ne.symm hne)).2 h.apart
 refine⟨?_,fun x => by rw[hp.mem_iff,h.mem];exact⟨fun a => a.1,fun a =>⟨a,hl _⟩⟩⟩;exact(hs.and hap).imp fun⟨a,b⟩ =>(nlt_ne b).resolve_right a
abbrev RV:Value→Option (DataW Value × List MemPlace):=fun v => some (.held v,[])
theorem MX:Maps.Keyed prog 9:=Maps.string_keyed underlying9
theorem keyOfN {nm:ByteArray}(h:nm.size≤1000000):keyOf prog 9 (.string nm)=some (Dy nm):=WideMaps.keyOf_string_mk underlying9 (by unfold maxLen;omega)
theorem rSl.css {w:World} {fs:List Addr} {v:Value} {ds:List Ah}(h:rSl 9 Ac w fs v ds):∃A c css,v= .slice A ds.length c∧ds.length≤c∧c≤9223372036854775807∧∀j,(hj:j<ds.length)→∃ad b o fk,A=some ad∧At 9 Ac w fs ad j b o (List.getD css j []) fk ds[j]:=by
 obtain⟨A,c,rfl,hc,hm,hx⟩:=rSl.at_ Ac.fixed (by omega) h;have:∀j:Fin ds.length,∃cs,∃ad b o fk,A=some ad∧At 9 Ac w fs ad j.1 b o cs fk ds[j.1]:=fun j => by
  obtain⟨ad,b,o,cs,fk,e,hat⟩:=hx j.1 j.2;exact⟨cs,ad,b,o,fk,e,hat⟩
 obtain⟨X,hX⟩:=Classical.axiomOfChoice this;refine⟨A,c,List.ofFn X,rfl,hc,hm,fun j hj => ?_⟩;have h1:=hX ⟨j,hj⟩;have e:(List.ofFn X).getD j [] =X ⟨j,hj⟩:=by simp[aJ,hj]
 rw[e];exact h1
theorem Jf {w:World} {P:Program} {k:TypeId} {R:Value→Option (DataW Value × List MemPlace)} {b n:Nat} {D:DataW Value}(h:w.ownsMap P k R b n D) {a:Addr}(e:a.block=b):w.cell? a=none:=by
 obtain⟨es,clock,hb,-⟩:=h;unfold World.cell?;rw[e,hb]
theorem Qv {s:ByteArray} {kl:Lit}(h:keyOf prog 9 (.string s)=some kl):kl=Dy s:=by
 have hk:=underlying9;simp[keyOf,hk,mapKey]at h;exact h.2.symm
theorem Qw {key:Value} {kl:Lit}(h:keyOf prog 9 key=some kl):∃s,key= .string s:=by
 have hk:=underlying9;cases key <;> simp[keyOf,hk,mapKey]at h
 exact⟨_,rfl⟩
theorem Nq {w:World} {P:Program} {k:TypeId} {R:Value→Option (DataW Value × List MemPlace)} {b n:Nat} {D:DataW Value}(h:w.ownsMap P k R b n D):Maps.size D≤n:=by
 obtain⟨es,clock,hb,F,hs,rfl⟩:=h;rw[Maps.size_eq,length_sorted];simpa using hs
theorem addRecQ {P:Addr→Prop} {lo:Nat}(hP:∀a,P a→a.block<lo) {w W:World} {b g n c:Nat} {ds:List Ah} {fs f:List Addr} {us:List Value} {d:Ah}(ho:Aj 9 119 Ac w lo (.slice (some ⟨g,0,none⟩) n c) ds fs)(hlo:lo≤w.heap.size)(hW:Below w.heap.size w W)(hk:Blk W b 119 us.toArray)(hr:Ac W f us d)(hf:∀a,a∈f→P a)(hfs:∀a,a∈fs→P a)(hn:ds.length+1≤1000000000) :
  ∃v' w',(Builtin.append_ #[80,80] 80 #[.slice (some ⟨g,0,none⟩) n c,.slice (some ⟨b,0,none⟩) 1 1]).run prog W= .ok v' w'∧∃g' c' fs',v'= .slice (some ⟨g',0,none⟩) (ds.length+1) c'∧Aj 9 119 Ac w' lo v' (ds ++ [d]) fs'∧(∀a,a∈fs'→P a)∧W.grownBy w' (some g)∧(g'=g∨g'=W.heap.size):=by
 have ho2:=ho.below Ac.local_ Ac.fixed hW;have hs:=hW.size;obtain⟨v',w',q1,hh,q2,q3,q4,q5⟩:=Aj.appendOne (P:=prog) 80 80 _ 128 underlying80 Tryz.infoRec rfl (by decide) Ac.local_ Ac.fixed Ac.ones lo _ ds fs ho2 b us f d (Ac.wide _ _ _ _ hr) hk hr (fun a ha e => by
  have:=(ho2.lt _ e).1;have:=hP a (hf a ha);omega) hn (by omega) (by omega)
 refine⟨v',w',q1,?_⟩;obtain⟨xs,hl,ht⟩:=q2.cells;rcases ht with⟨_,e⟩|⟨g',cap,cur,rfl,hb,hg,_⟩
 ·simp at e
 ·refine⟨g',cap,_,by simp,q2,fun a ha => ?_,q4,?_⟩
  ·rcases List.mem_append.1 ha with ha|ha
   ·exact hfs a ha
   ·exact hf a (q3.subset ha)
  ·rcases q5 with q5|q5
   ·left;simpa [Value.ownBlock]using q5
   ·right;simpa [Value.ownBlock]using q5
theorem Hi {B:Nat} {w w':World} {g:Nat}(h:w.grownBy w' (some g))(hg:B≤g)(hB:B≤w.heap.size):Below B w w':=⟨h.os,h.tape,h.output,h.size,fun k hk => h.block k (by omega) (fun e => by injection e;omega)⟩
theorem newest_c(p:Nat)(fs:List Addr)(d:Am)(w:World)(h:AtW w p fs d)(hsm:(CZ d).length≤1000000)(hnm:∀r,r∈AN d→r.name.size≤1000000) :
  Calls prog 135 #[.pointer (some ⟨p,0,none⟩)] w fun e w' =>∃L A c fs',e= .returned (.slice A L.length c)∧D7 (AN d) L∧rSl 9 Ac w' fs' (.slice A L.length c) L∧(∀a,a∈fs'→a∈fs∨w.heap.size≤a.block)∧Below w.heap.size w w':=by
 obtain⟨mb,hmb⟩:∃mb,w.heap.size=mb:=⟨_,rfl⟩;obtain⟨W1,hW1⟩:∃W1,w.alloc (.map #[] 0)=W1:=⟨_,rfl⟩;have hB1:Below w.heap.size w W1:=by rw[← hW1];exact(aB _ _).alloc (aC _) _
 have z1:W1.heap.size=mb+1:=by rw[← hW1,← hmb];simp
 have hM1:W1.ownsMap prog 9 RV mb 0 (.map []):=by rw[← hW1,← hmb];exact World.ownsMap_made _ _ _ _
 have HC:=U (LJ p fs d W1 (h.below hB1) hsm);have hl:=FD d;obtain⟨all,hall⟩:∃all,AN d=all:=⟨_,rfl⟩;rw[hall]at HC hl hnm⊢;have hN:all.length≤1000000:=by omega
 have HNM:=U hnm;have HB1:=U hB1;have HM1:=U hM1;have HZ1:=U z1;have HMB:=U hmb;have hmk:(Instr.makeMap 264 none).run prog w= .ok (.map (some mb)) W1:=by rw[← hW1,← hmb];rfl
 clear h hB1 hM1 hnm hl hall hsm;go_enter func135,ntmps135
 go_wp2_with fail
 clear hW1 hmb z1;go_wp2_with (go_at_call 126;refine HC.o.mono ?_;rintro e w2 ⟨A,c,fa,rfl,ra,pa,b2⟩;have RA:=U ra;have PA:=U pa;have B2:=U b2;clear ra pa b2)
 obtain⟨A',c',css,ev,hc,hm,hx⟩:=rSl.css RA.o;injection ev with ev1 ev2 ev3
 subst ev1 ev3;have HX:=U hx;have HFT:=U (rSl.there Ac.fixed RA.o);have hM2:w2.ownsMap prog 9 RV mb 0 (.map []):=HM1.o.kept (row:=none) ⟨B2.o.os,B2.o.tape,B2.o.output,B2.o.size,fun k hk _ => B2.o.block k hk⟩ (by simp);have HM2:=U hM2;have HBW2:=U (show Below w.heap.size w w2 from HB1.o.trans (B2.o.mono HB1.o.size));have zm2:mb<w2.heap.size:=by have:=HZ1.o;have:=B2.o.size;omega
 clear hx hM2 HC ev2;go_loopw [13,5] (fun ix _ wr =>∃(i n:Nat) (D:DataW Value),i≤all.length∧n≤i∧ix= int i64 i∧Hid (Fh all css D i)∧Hid (wr.ownsMap prog 9 RV mb n D)∧Hid (∀a:Addr,a.block<w2.heap.size→wr.cell? a=w2.cell? a)∧Hid (Below w.heap.size w wr)∧w2.heap.size≤wr.heap.size) (fun ix _ _ => all.length - (intOf ix).toNat)
 case atStart => exact⟨0,0,.map [],by omega,by omega,rfl,Fh.start _ _,HM2.o,fun a _ => rfl,HBW2.o,aC _⟩
 case round =>
  obtain⟨i,n,D,hi,hn,rfl,HMA,HOM,HSA,HB,hsz⟩:=hrel;by_cases hlt:i<all.length
  ·obtain⟨ad,b3,o3,f3,rfl,hat⟩:=HX.o i hlt;obtain⟨cs3,hcs3⟩:∃cs3,List.getD css i [] =cs3:=⟨_,rfl⟩;rw[hcs3]at hat;have HCS:=U hcs3;have hpl3:=hat.place;have hbl3:b3<w2.heap.size:=hat.lt;have hbl4:b3<wr.heap.size:=by omega
   have hlen:cs3.length=9:=hat.len;have HR:=U (show wr.rangeAt b3 o3 cs3 from fun q v hq => by
    have hq1:q<cs3.length:=(List.getElem?_eq_some_iff.1 hq).1;rw[HSA.o _ hbl3,hat.cell q hq1,← hq];exact(aO hq1).symm)
   have HI:=U (show(prog.info? 119).map (·.size)=some cs3.length by rw[hlen];kernel_rfl);have HI2:=U (show(prog.info? 119).map (·.size)=some cs3.toArray.size by rw[aZ,hlen];kernel_rfl);have HON:=U (all_oneCell_toArray (Ac.ones _ _ _ _ hat.reads));obtain⟨Z,hZ⟩:∃Z:Array Value,#[int i64 0,int i64 0,.string ⟨#[]⟩,int i64 0,int i64 0,int i64 0,.slice none 0 0,.slice none 0 0,.slice none 0 0] =Z:=⟨_,rfl⟩;have hZs:Z.size=9:=by rw[← hZ];rfl
   have KZ:=Blk.new wr 119 Z;have HTH:=U (Blk.there KZ cs3.toArray.size (by rw[aZ,hlen,hZs];exact aC _));obtain⟨W2,hW2⟩:∃W2,(wr.alloc (.cells Z 119)).setCells wr.heap.size 0 cs3.toArray.toList=W2:=⟨_,rfl⟩;have k2:Blk W2 wr.heap.size 119 cs3.toArray:=by rw[← hW2];exact Blk.laid KZ _ (by rw[hZs];exact hlen.symm)
   have b22:Below wr.heap.size wr W2:=by rw[← hW2];exact Ba (Af (aB _ _) _) _ 0 (aC _)
   have HW2:=U hW2;have BW2:=U b22;have HR2:=U (Blk.rangeAll k2);have hgb:=k2.lt;obtain⟨v0,v1,v2,q0,q1,q2,e,-⟩:=hat.reads;have y0:W2.cell? ⟨wr.heap.size,0,none⟩=some (int i64 all[i].kind):=by rw[k2.cell,e];rfl
   have y2:W2.cell? ⟨wr.heap.size,2,none⟩=some (.string all[i].name):=by rw[k2.cell,e];rfl
   have HOM2:=U (show W2.ownsMap prog 9 RV mb n D from HOM.o.kept (row:=none) ⟨b22.os,b22.tape,b22.output,b22.size,fun k hk _ => b22.block k hk⟩ (by simp));have HSA2:=U (show∀a:Addr,a.block<w2.heap.size→W2.cell? a=w2.cell? a from fun a ha =>(b22.cell (p:=a) (by omega)).trans (HSA.o a ha));have HBX:=U (HB.o.trans (b22.mono HB.o.size));have hnl:=HNM.o _ (aN hlt);have hki:(i:Int)<(all.length:Int):=by omega
   have sz2:=b22.size;clear hat hW2 KZ hlen hZs k2 e hcs3 b22;by_cases qk:all[i].kind =1
   ·have hk:(all[i].kind == 1)=true:=by simpa using qk
    have HPUT:=U (HMA.o.put hlt qk HCS.o);clear qk;go_wp2_with (first
     |(refine aD rfl 119 (.tmp 15) rfl b3 o3 rfl cs3 _ HR.o underlying119 rfl HI.o ?_)
     |(refine aW rfl 119 (.tmp 5) (.tmp 16) rfl wr.heap.size 0 cs3.toArray rfl rfl HTH.o HI2.o HON.o ?_;rw[HW2.o])
     |(refine aD rfl 119 (.tmp 5) rfl wr.heap.size 0 rfl cs3 _ HR2.o underlying119 rfl HI.o ?_)
     |(at_mapUpdate;refine wpList_mapUpdate_own _ rfl _ _ _ 264 rfl 9 119 MX underlying264 RV mb n D rfl HOM2.o (by unfold maxLen;omega) _ _ (Dy all[i].name) rfl rfl (keyOfN hnl) (.held (.agg cs3.toArray)) [] rfl ?_;intro w4 hown4 hgrow4;have HO4:=U hown4;have HG4:=U hgrow4;clear hown4 hgrow4))
    go_roundw
    case rel =>
     refine⟨i+1,n+1,_,by omega,by omega,by go_num,HPUT.o,HO4.o,fun a ha => ?_,HBX.o.trans (Hi HG4.o (by rw[HMB.o];exact aC _) (by rw[HMB.o];omega)),by have:=HG4.o.size;omega⟩;by_cases e:a.block=mb
     ·rw[Jf HO4.o e,Jf HM2.o e]
     ·exact(World.cell?_of_block (HG4.o.block a.block (by omega) (fun e2 => by injection e2 with e2;exact e e2))).trans (HSA2.o a ha)
    case measure => simp[intOf];omega
   ·have hk:(all[i].kind == 1)=false:=by simpa using qk
    have HPUT:=U (HMA.o.skip hlt qk);clear qk;go_wp2_with (first
     |(refine aD rfl 119 (.tmp 15) rfl b3 o3 rfl cs3 _ HR.o underlying119 rfl HI.o ?_)
     |(refine aW rfl 119 (.tmp 5) (.tmp 16) rfl wr.heap.size 0 cs3.toArray rfl rfl HTH.o HI2.o HON.o ?_;rw[HW2.o]))
    go_roundw
    case rel => exact⟨i+1,n,D,by omega,by omega,by go_num,HPUT.o,HOM2.o,HSA2.o,HBX.o,by omega⟩
    case measure => simp[intOf];omega
  ·obtain rfl:i=all.length:=by omega
   have HO3:=U (HOM.o.alloc (.cells #[] 119));have HOW:=U (Aj.start (R:=Ac) (World.ownsRow_lit (base:=wr.heap.size) (e:=119) (size:=9) wr #[] 0 (aC _) (Nat.zero_le _) rfl));have HMZ:=U (Nq HOM.o);have sz3:(wr.alloc (.cells #[] 119)).heap.size =wr.heap.size+1:=by simp
   have HB3:=U (show Below wr.heap.size wr (wr.alloc (.cells #[] 119))from(aB _ _).alloc (aC _) _);obtain⟨W3,hW3⟩:∃W3,wr.alloc (.cells #[] 119)=W3:=⟨_,rfl⟩;rw[hW3]at HO3 HOW HB3 sz3;obtain⟨gO,hgO⟩:∃gO,wr.heap.size=gO:=⟨_,rfl⟩;rw[hgO]at HOW HB3 sz3 hsz;go_wp2_with (at_range;refine wpList_range_own _ rfl _ 264 rfl 9 119 MX underlying264 RV mb n D rfl HO3.o ?_;intro w5 hrg hg5 hs5;have HRG5:=U hrg;have HG5:=U hg5;have HS5:=U hs5;clear hrg hg5 hs5)
   go_frame
   obtain⟨rr,hrr⟩:∃rr,W3.heap.size=rr:=⟨_,rfl⟩;have HRG:=HRG5;have HS:=HS5;rw[hrr]at HRG HS sz3;clear HRG5 HS5;have HW35:=U (show Below W3.heap.size W3 w5 from⟨HG5.o.os,HG5.o.tape,HG5.o.output,HG5.o.size,fun k hk => HG5.o.block k hk (by simp)⟩);have HOW5:=U (HOW.o.below Ac.local_ Ac.fixed HW35.o);have HVS:=U (FR.start HMA.o);have HSA5:=U (show∀a:Addr,a.block<w2.heap.size→w5.cell? a=w2.cell? a from fun a ha =>(HW35.o.cell (p:=a) (by omega)).trans ((HB3.o.cell (p:=a) (by omega)).trans (HSA.o a ha)));have hgm:mb<gO:=by omega
   have HB5:=U (show Below w.heap.size w w5 from HB.o.trans (((HB3.o.mono (show w.heap.size≤gO from by have:=HMB.o;omega)).trans (HW35.o.mono (by have:=HMB.o;omega)))));clear hW3 hgO HOW HSA HB HB3 HO3 HOM HG5;try rw[hrr]
   clear hrr;subst sz3;go_loopw [6,8] (fun o _ wx =>∃(left:Lit→Bool) (cnt k g c1:Nat) (L:List Ah) (fo:List Addr),o= .slice (some ⟨g,0,none⟩) k c1∧Hid (k=L.length)∧g≠gO+1∧gO≤g∧cnt+k≤Maps.size D∧Hid (FR all left L)∧Hid (wx.ranges prog 9 RV mb (gO+1) n D left cnt)∧Hid (Aj 9 119 Ac wx gO (.slice (some ⟨g,0,none⟩) k c1) L fo)∧Hid (∀a,a∈fo→a∈fa)∧Hid (∀a:Addr,a.block<w2.heap.size→wx.cell? a=w2.cell? a)∧Hid (Below w.heap.size w wx)∧gO+1<wx.heap.size) (fun _ _ wx => wx.rangeLeft mb (gO+1))
   case atStart => exact⟨_,_,0,gO,0,[],[],rfl,rfl,by omega,aC _,by omega,HVS.o,HRG.o,HOW5.o,(show∀a,a∈([]:List Addr)→a∈fa from fun a ha => by cases ha),HSA5.o,HB5.o,by have:=HS.o;omega⟩
   case round =>
    clear HVS HRG HOW5 HSA5 HB5 HS HW35;obtain⟨left,cnt,k,g,c1,L,fo,rfl,HK,hgr,hgO,hcnt,HV,HR,HO,HF,HSA,HB,hrx⟩:=hrel;go_wp2_with (at_next;refine wpList_next_ranges _ rfl _ rfl 9 MX RV Value.string id (fun key kl h => Qw h) (fun v y h =>⟨v,rfl⟩) mb (gO+1) n D left cnt rfl HR.o ?_ ?_)
    ·intro hc0 hl0;have HST:=U (Om (n:=k) HO.o HK.o (by have:=HMZ.o;omega) hgO (HO.o.lt _ rfl).2 (fun a ha => by have:=HFT.o a (HF.o a ha);omega));have HLF:=U hl0;clear hc0 hl0;go_wp2_with (go_at_call 222;refine HST.o.mono ?_;rintro e w7 ⟨rfl,M,f7,hp7,hs7,r7,p7,b7⟩;have HP7:=U hp7;have HS7:=U hs7;have R7:=U r7;have P7:=U p7;have B7:=U b7;clear hp7 hs7 r7 p7 b7)
     go_ret
     have hlen:M.length=k:=by rw[HK.o,HP7.o.length_eq]
     refine⟨M,some ⟨g,0,none⟩,c1,f7,by rw[hlen];rfl,HV.o.live HLF.o HP7.o HS7.o,by rw[hlen];exact R7.o,fun a ha => ?_,HB.o.trans (B7.o.mono (by have:=HMB.o;omega))⟩;rcases P7.o a ha with q|q
     ·rcases PA.o a (HF.o a q)with q2|q2
      ·exact .inl q2
      ·right;have:=HZ1.o;have:=HMB.o;omega
     ·right;have:=HMB.o;omega
    ·intro x cv kl y ys w6 cnt1 hkx hlx hRv hys hat6 hrg6 hlt6 hg6 hs6 hen;have hs6a:=Nat.le_of_eq hs6;have hs6b:=Nat.le_of_eq hs6.symm;clear hs6;obtain rfl:=Qv hkx;have hRv2:DataW.held cv=y:=hRv;subst hRv2;have hMZ:=HMZ.o;have hh:=Maps.has_true_of_atKey hat6;rw[HMA.o.has]at hh;simp only[bN]at hh;obtain⟨q,hq⟩:∃q:Nat,CD all x all.length=(q:Int):=⟨(CD all x all.length).toNat,by omega⟩;have hv:=HMA.o.at_ x q hq (.lit (.bool true));rw[hat6]at hv;obtain⟨cs3,hcs3⟩:∃cs3,List.getD css q [] =cs3:=⟨_,rfl⟩;rw[hcs3]at hv;obtain rfl:cv= .agg cs3.toArray:=by injection hv
     obtain⟨hqk,hkd,hnq,hli1,hli0⟩:=HV.o.step hlx hq;obtain⟨ad,b3,o3,f3,rfl,hat⟩:=HX.o q hqk;rw[hcs3]at hat;have hlen:cs3.length=9:=hat.len;have HI:=U (show(prog.info? 119).map (·.size)=some cs3.length by rw[hlen];kernel_rfl);have HI2:=U (show(prog.info? 119).map (·.size)=some cs3.toArray.size by rw[aZ,hlen];kernel_rfl);have HON:=U (all_oneCell_toArray (Ac.ones _ _ _ _ hat.reads));have HSZ:=U (show cs3.toArray.size=9 by rw[aZ];exact hlen);obtain⟨Z,hZ⟩:∃Z:Array Value,#[int i64 0,int i64 0,.string ⟨#[]⟩,int i64 0,int i64 0,int i64 0,.slice none 0 0,.slice none 0 0,.slice none 0 0] =Z:=⟨_,rfl⟩;have hZs:Z.size=9:=by rw[← hZ];rfl
     have KZ:=Blk.new w6 119 Z;have HTH:=U (Blk.there KZ cs3.toArray.size (by rw[aZ,hlen,hZs];exact aC _));obtain⟨W7,hW7⟩:∃W7,(w6.alloc (.cells Z 119)).setCells w6.heap.size 0 cs3.toArray.toList=W7:=⟨_,rfl⟩;have k7:Blk W7 w6.heap.size 119 cs3.toArray:=by rw[← hW7];exact Blk.laid KZ _ (by rw[hZs];exact hlen.symm)
     have b67:Below w6.heap.size w6 W7:=by rw[← hW7];exact Ba (Af (aB _ _) _) _ 0 (aC _)
     have HW7:=U hW7;have HR7:=U (Blk.rangeAll k7);have hgb:=k7.lt;have sz7:=b67.size;have HG6:=U hg6;have h6c:∀a:Addr,a.block<w2.heap.size→w6.cell? a=w2.cell? a:=fun a ha =>(World.cell?_of_block (HG6.o.block a.block (by omega) (fun e2 => by injection e2 with e2;omega))).trans (HSA.o a ha)
     have HSA7:=U (show∀a:Addr,a.block<w2.heap.size→W7.cell? a=w2.cell? a from fun a ha =>(b67.cell (p:=a) (by omega)).trans (h6c a ha));have HRD7:=U (show Ac W7 f3 cs3 all[q]from Ac.local_ _ _ _ _ _ hat.reads (fun a ha => HSA7.o a (hat.there a ha)));have hog:=(HO.o.lt _ rfl).2;have HO6:=U (show Aj 9 119 Ac w6 gO (.slice (some ⟨g,0,none⟩) k c1) L fo from Aj.keep Ac.local_ HO.o (fun b hb => by injection hb with hb;subst hb;exact HG6.o.block _ hog (fun e2 => by injection e2 with e2;exact hgr e2)) (fun a ha => by have:=HFT.o a (HF.o a ha);exact World.cell?_of_block (HG6.o.block a.block (by omega) (fun e2 => by injection e2 with e2;omega))));have HO7:=U (HO6.o.below Ac.local_ Ac.fixed b67);have HRG7:=U (hrg6.kept (row:=none) ⟨b67.os,b67.tape,b67.output,b67.size,fun k hk _ => b67.block k hk⟩ (by simp) (by simp));have HB7:=U (HB.o.trans (((Hi HG6.o (show w.heap.size≤gO+1 from by have:=HMB.o;omega) HB.o.size)).trans (b67.mono (by have:=HB.o.size;omega))));have HF3:=U (show∀a,a∈f3→a∈fa from hat.sub);obtain⟨v0,v1,v2,q0,q1,q2,e,-⟩:=hat.reads;have y3:W7.cell? ⟨w6.heap.size,3,none⟩=some (int i64 all[q].length):=by rw[k7.cell,e];rfl
     have HOLD:=U HR.o.left_eq;have HLT6:=U hlt6;have HAP:=U (addRecQ (P:=fun a => a∈fa) (lo:=gO) (fun a ha => by have:=HFT.o a ha;omega) (w:=W7) (W:=W7.alloc (.cells cs3.toArray 119)) (b:=W7.heap.size) HO7.o (by omega) (Af (aB _ _) _) (Blk.new _ _ _) (AB.below Ac.local_ Ac.fixed HRD7.o (Af (aB _ _) _)) HF3.o HF.o (by rw[← HK.o];omega));rw[← HK.o]at HAP;clear hat hW7 KZ hlen hZs k7 e hcs3 b67 hv hh hat6 hRv hys hkx hrg6 h6c hg6 hlt6 hlx hnq hkd hq;by_cases ql:all[q].length = -1
     ·have hq1:(all[q].length == -1)=true:=by simpa using ql
      have HV7:=U (hli0 ql);clear ql hli0 hli1;go_wp2_with (first
       |(refine aW rfl 119 (.tmp 8) (.tmp 31) rfl w6.heap.size 0 cs3.toArray rfl rfl HTH.o HI2.o HON.o ?_;rw[HW7.o]))
      go_roundw
      case rel => exact⟨_,cnt1,k,g,c1,L,fo,rfl,HK.o,hgr,hgO,by have:=HLT6.o;omega,HV7.o,HRG7.o,HO7.o,HF.o,HSA7.o,HB7.o,by omega⟩
      case measure => rw[HRG7.o.left_eq,HOLD.o];exact HLT6.o
     ·have hq1:(all[q].length == -1)=false:=by simpa using ql
      have HV7:=U (hli1 ql);clear ql hli0 hli1;go_wp2_with (first
       |(refine aW rfl 119 (.tmp 8) (.tmp 31) rfl w6.heap.size 0 cs3.toArray rfl rfl HTH.o HI2.o HON.o ?_;rw[HW7.o])
       |(refine aD rfl 119 (.tmp 8) rfl w6.heap.size 0 rfl cs3 _ HR7.o underlying119 rfl HI.o ?_)
       |(refine EX rfl 80 119 (.tmp 36) rfl cs3.toArray rfl _ 9 128 underlying80 Tryz.infoRec (by omega) (by omega) HSZ.o ?_)
       |(at_builtin;refine Ar rfl (.tmp 35) (.tmp 37) 80 rfl _ _ (by rfl) (by rfl) HAP.o ?_;rintro v8 w8 ⟨g8,c8,fo8,rfl,o8,h8,gr8,e8⟩;have O8:=U o8;have H8:=U h8;have G8:=U gr8;have E8:=U e8;clear o8 h8 gr8 e8))
      have h8:(W7.alloc (.cells cs3.toArray 119)).heap.size =W7.heap.size+1:=by simp
      have b78:Below W7.heap.size W7 (W7.alloc (.cells cs3.toArray 119)):=Af (aB _ _) _;have hsa8:=G8.o.size;have HRG8:=U (((HRG7.o.alloc (.cells cs3.toArray 119)).kept G8.o (fun e2 => by injection e2 with e2;omega) (fun e2 => by injection e2 with e2;exact hgr e2.symm)));have HSA8:=U (show∀a:Addr,a.block<w2.heap.size→w8.cell? a=w2.cell? a from fun a ha =>(World.cell?_of_block (G8.o.block a.block (by omega) (fun e2 => by injection e2 with e2;omega))).trans ((b78.cell (p:=a) (by omega)).trans (HSA7.o a ha)));have HB8:=U (HB7.o.trans (((b78.mono (by have:=HB7.o.size;omega)).trans (Hi G8.o (show w.heap.size≤g from by have:=HMB.o;omega) (by have:=HB7.o.size;omega)))));have hg8:g8≠gO+1∧gO≤g8:=by
       rcases E8.o with e|e
       ·rw[e];exact⟨hgr,hgO⟩
       ·rw[e,h8];omega
      have HG8:=U hg8;have HSZ8:=U (show gO+1<w8.heap.size by omega);clear h8 b78 hsa8 hg8;go_roundw
      case rel => exact⟨_,cnt1,k+1,g8,c8,L ++ [all[q]],fo8,rfl,(show k+1=_ by rw[bC,← HK.o];rfl),HG8.o.1,HG8.o.2,by have:=HLT6.o;omega,HV7.o,HRG8.o,O8.o,H8.o,HSA8.o,HB8.o,HSZ8.o⟩
      case measure => rw[HRG8.o.left_eq,HOLD.o];exact HLT6.o
theorem Fe {all:List Ah} {x:Ah}(h:Ky all x):x∈all:=by
 obtain⟨k,hk,e,-⟩:=h;exact e ▸ aN hk
