/-
  Part 34 of the proof.
-/
import Derived.Test.YtfjkoifpdoemdaaGreatI32
import Derived.Test.YtfjkoifpdoemdaaGreatI33
import Derived.Maps.RangeWalk
import Derived.Test.YtfjkoifpdoemdaaGreatI11
import Derived.Maps.OwnOps
set_option maxHeartbeats 8000000
set_option maxRecDepth 100000
set_option linter.unusedVariables false
set_option linter.unusedSimpArgs false
open Go.Value (int)
open Go.IntKind (i64)
namespace Go.Proofs.YtfjkoifpdoemdaaGreat
open Go.RowKit Go.Lib Go.Sort
def Dr(nm:ByteArray):Lit:=.string nm.data.toList
theorem JM(nm:ByteArray):WideAt.IsKeyLit (Dr nm):=by unfold Dr WideAt.IsKeyLit;trivial
theorem JI {a b:ByteArray}(h:Dr a=Dr b):a=b:=by
 unfold Dr at h;injection h with h
 cases a with
 |mk x => cases b with
  |mk y => exact congrArg ByteArray.mk (Array.toList_inj.1 h)
theorem Pu {a b:ByteArray}:(Dr a).sameKey (Dr b)=decide (a=b):=by
 by_cases h:a=b
 ·subst h;rw[WideAt.sameKey_self (JM a)];simp
 ·rw[Maps.sameKey_ne (fun e => h (JI e))];simp[h]
structure EY (ds:List Ai) (css:List (List Value)) (D:DataW Value) (i:Nat):Prop where
 isMap:Maps.IsMap D
 has:∀nm,Maps.has D (Dr nm)=decide (0≤Ct ds nm i)
 at_:∀nm (k:Nat),Ct ds nm i=(k:Int)→∀zd,D.atKey (Dr nm) zd= .held (.agg (css.getD k []).toArray)
theorem EY.start(ds:List Ai)(css:List (List Value)):EY ds css (.map []) 0 :=
 ⟨Maps.isMap_empty,fun nm => by simp[Ct,Maps.has_eq],fun nm k h => by simp[Ct]at h⟩
theorem EY.skip {ds:List Ai} {css:List (List Value)} {D:DataW Value} {i:Nat}(h:EY ds css D i)(hi:i<ds.length)(hk:¬ds[i].kind =1):EY ds css D (i+1):=by
 have hn:∀nm,Ct ds nm (i+1)=Ct ds nm i:=fun nm => I7 hi (by unfold DB;simp[hk])
 exact⟨h.isMap,fun nm => by rw[hn];exact h.has nm,fun nm k e => h.at_ nm k (by rw[← hn];exact e)⟩
theorem EY.put {ds:List Ai} {css:List (List Value)} {D:DataW Value} {i:Nat}(h:EY ds css D i)(hi:i<ds.length)(hk:ds[i].kind =1) {cs:List Value}(hc:css.getD i [] =cs):EY ds css (D.put (Dr ds[i].name) (.held (.agg cs.toArray))) (i+1):=by
 refine⟨h.isMap.put _ _,fun nm => ?_,fun nm k e zd => ?_⟩
 ·by_cases hn:ds[i].name =nm
  ·subst hn;rw[Maps.has_put_same h.isMap (JM _),JK hi (by unfold DB;simp[hk])];simp
  ·rw[Maps.has_put_other (fun e => hn (JI e).symm),I7 hi (by unfold DB;simp[hn])];exact h.has nm
 ·by_cases hn:ds[i].name =nm
  ·subst hn;rw[JK hi (by unfold DB;simp[hk])]at e;obtain rfl:i=k:=by omega
   rw[Maps.atKey_put_same h.isMap (JM _),hc]
  ·rw[I7 hi (by unfold DB;simp[hn])]at e;rw[Maps.atKey_put_other (fun e => hn (JI e).symm)];exact h.at_ nm k e zd
def JU(ds:List Ai)(x:Ai):Prop:=∃k,∃h:k<ds.length,ds[k] =x∧x.kind=1∧x.length≠ -1∧Ct ds x.name ds.length=(k:Int)
structure IsLive (ds L:List Ai):Prop where
 sorted:L.Pairwise nlt
 mem:∀x,x∈L↔JU ds x
structure FD (ds:List Ai) (left:Lit→Bool) (L:List Ai):Prop where
 apart:L.Pairwise fun x y =>¬x.name=y.name
 mem:∀x,x∈L↔(JU ds x∧left (Dr x.name)=false)
theorem FD.start {ds:List Ai} {css:List (List Value)} {D:DataW Value}(h:EY ds css D ds.length):FD ds (Maps.has D) [] :=
 ⟨List.Pairwise.nil,fun x =>⟨fun hx =>(by cases hx),fun⟨⟨k,_,_,_,_,e⟩,hx⟩ => by rw[h.has,e]at hx;simp at hx⟩⟩
theorem FD.step {ds:List Ai} {left:Lit→Bool} {L:List Ai}(h:FD ds left L) {nm:ByteArray} {k:Nat}(hl:left (Dr nm)=true)(hn:Ct ds nm ds.length=(k:Int)) :
  ∃hk:k<ds.length,ds[k].kind =1∧ds[k].name =nm∧(ds[k].length≠ -1→FD ds (fun z => left z && !z.sameKey (Dr nm)) (L ++ [ds[k]]))∧(ds[k].length = -1→FD ds (fun z => left z && !z.sameKey (Dr nm)) L):=by
 obtain⟨hk,hi⟩:=Hh ds nm k _ hn;unfold DB at hi;simp only[decide_eq_true_eq]at hi;have hone:∀x,JU ds x→x.name=nm→x=ds[k]:=fun x ⟨j,hj,e1,_,_,e2⟩ e => by
  rw[e]at e2;obtain rfl:k=j:=by omega
  exact e1.symm
 have hlf:∀x:Ai,(left (Dr x.name) && !(Dr x.name).sameKey (Dr nm))=false↔(left (Dr x.name)=false∨x.name=nm):=fun x => by
  rw[Pu];cases left (Dr x.name) <;> simp
 refine⟨hk,hi.1,hi.2,fun hd =>⟨?_,fun x => ?_⟩,fun hd =>⟨h.apart,fun x => ?_⟩⟩
 ·rw[List.pairwise_append];refine⟨h.apart,List.pairwise_singleton _ _,fun a ha b hb => ?_⟩;rw[List.mem_singleton.1 hb,hi.2];intro e;have:=((h.mem a).1 ha).2;rw[e,hl]at this;cases this
 ·rw[List.mem_append,List.mem_singleton,h.mem,hlf];constructor
  ·rintro(⟨a,b⟩|rfl)
   ·exact⟨a,.inl b⟩
   ·exact⟨⟨k,hk,rfl,hi.1,hd,by rw[hi.2];exact hn⟩,.inr hi.2⟩
  ·rintro⟨a,b|b⟩
   ·exact .inl ⟨a,b⟩
   ·exact .inr (hone x a b)
 ·rw[h.mem,hlf];constructor
  ·rintro⟨a,b⟩;exact⟨a,.inl b⟩
  ·rintro⟨a,b|b⟩
   ·exact⟨a,b⟩
   ·have e:=hone x a b;obtain⟨_,_,_,_,hne,_⟩:=a;rw[e]at hne;exact absurd hd hne
theorem FD.live {ds:List Ai} {left:Lit→Bool} {L M:List Ai}(h:FD ds left L)(hl:∀kl,left kl=false)(hp:M.Perm L)(hs:M.Pairwise fun x y =>¬nlt y x):IsLive ds M:=by
 have hap:M.Pairwise fun x y =>¬x.name=y.name:=(hp.pairwise_iff (fun {_ _} hne => Ne.symm hne)).2 h.apart
 refine⟨?_,fun x => by rw[hp.mem_iff,h.mem];exact⟨fun a => a.1,fun a =>⟨a,hl _⟩⟩⟩;exact(hs.and hap).imp fun⟨a,b⟩ =>(nlt_ne b).resolve_right a
abbrev RV:Value→Option (DataW Value × List MemPlace):=fun v => some (.held v,[])
theorem Mg:Maps.Keyed Tryz.prog 9:=Maps.string_keyed Tryz.underlying9
theorem keyOfN {nm:ByteArray}(h:nm.size≤1000000):keyOf Tryz.prog 9 (.string nm)=some (Dr nm):=WideMaps.keyOf_string_mk Tryz.underlying9 (by unfold maxLen;omega)
theorem rSl.css {w:World} {fs:List Addr} {v:Value} {ds:List Ai}(h:rSl 9 Ac w fs v ds):∃A c css,v= .slice A ds.length c∧ds.length≤c∧c≤9223372036854775807∧∀j,(hj:j<ds.length)→∃ad b o fk,A=some ad∧At 9 Ac w fs ad j b o (List.getD css j []) fk ds[j]:=by
 obtain⟨A,c,rfl,hc,hm,hx⟩:=rSl.at_ Ac.fixed (by omega) h;have:∀j:Fin ds.length,∃cs,∃ad b o fk,A=some ad∧At 9 Ac w fs ad j.1 b o cs fk ds[j.1]:=fun j => by
  obtain⟨ad,b,o,cs,fk,e,hat⟩:=hx j.1 j.2;exact⟨cs,ad,b,o,fk,e,hat⟩
 obtain⟨X,hX⟩:=Classical.axiomOfChoice this;refine⟨A,c,List.ofFn X,rfl,hc,hm,fun j hj => ?_⟩;have h1:=hX ⟨j,hj⟩;have e:(List.ofFn X).getD j [] =X ⟨j,hj⟩:=by simp[List.getD_eq_getElem?_getD,hj]
 rw[e];exact h1
theorem I2 {w:World} {P:Program} {k:TypeId} {R:Value→Option (DataW Value × List MemPlace)} {b n:Nat} {D:DataW Value}(h:w.ownsMap P k R b n D) {a:Addr}(e:a.block=b):w.cell? a=none:=by
 obtain⟨es,clock,hb,-⟩:=h;unfold World.cell?;rw[e,hb]
theorem Pk {s:ByteArray} {kl:Lit}(h:keyOf Tryz.prog 9 (.string s)=some kl):kl=Dr s:=by
 have hk:=Tryz.underlying9;simp[keyOf,hk,mapKey]at h;exact h.2.symm
theorem Ph {key:Value} {kl:Lit}(h:keyOf Tryz.prog 9 key=some kl):∃s,key= .string s:=by
 have hk:=Tryz.underlying9;cases key <;> simp[keyOf,hk,mapKey]at h
 exact⟨_,rfl⟩
theorem Ml {w:World} {P:Program} {k:TypeId} {R:Value→Option (DataW Value × List MemPlace)} {b n:Nat} {D:DataW Value}(h:w.ownsMap P k R b n D):Maps.size D≤n:=by
 obtain⟨es,clock,hb,F,hs,rfl⟩:=h;rw[Maps.size_eq,length_sorted];simpa using hs
theorem addRecQ {P:Addr→Prop} {lo:Nat}(hP:∀a,P a→a.block<lo) {w W:World} {b g n c:Nat} {ds:List Ai} {fs f:List Addr} {us:List Value} {d:Ai}(ho:Al 9 119 Ac w lo (.slice (some ⟨g,0,none⟩) n c) ds fs)(hlo:lo≤w.heap.size)(hW:Below w.heap.size w W)(hk:Blk W b 119 us.toArray)(hr:Ac W f us d)(hf:∀a,a∈f→P a)(hfs:∀a,a∈fs→P a)(hn:ds.length+1≤1000000000) :
  ∃v' w',(Builtin.append_ #[80,80] 80 #[.slice (some ⟨g,0,none⟩) n c,.slice (some ⟨b,0,none⟩) 1 1]).run Tryz.prog W= .ok v' w'∧∃g' c' fs',v'= .slice (some ⟨g',0,none⟩) (ds.length+1) c'∧Al 9 119 Ac w' lo v' (ds ++ [d]) fs'∧(∀a,a∈fs'→P a)∧W.grownBy w' (some g)∧(g'=g∨g'=W.heap.size):=by
 have ho2:=ho.below Ac.local_ Ac.fixed hW;have hs:=hW.size;obtain⟨v',w',q1,hh,q2,q3,q4,q5⟩:=Al.appendOne (P:=Tryz.prog) 80 80 _ 128 Tryz.underlying80 Tryz.infoRec rfl (by decide) Ac.local_ Ac.fixed Ac.ones lo _ ds fs ho2 b us f d (Ac.wide _ _ _ _ hr) hk hr (fun a ha e => by
  have:=(ho2.lt _ e).1;have:=hP a (hf a ha);omega) hn (by omega) (by omega)
 refine⟨v',w',q1,?_⟩;obtain⟨xs,hl,ht⟩:=q2.cells;rcases ht with⟨_,e⟩|⟨g',cap,cur,rfl,hb,hg,_⟩
 ·simp at e
 ·refine⟨g',cap,_,by simp,q2,fun a ha => ?_,q4,?_⟩
  ·rcases List.mem_append.1 ha with ha|ha
   ·exact hfs a ha
   ·exact hf a (q3.subset ha)
  ·rcases q5 with q5|q5
   ·left;simpa [Value.ownBlock]using q5
   ·right;simpa [Value.ownBlock]using q5
theorem GS {B:Nat} {w w':World} {g:Nat}(h:w.grownBy w' (some g))(hg:B≤g)(hB:B≤w.heap.size):Below B w w':=⟨h.os,h.tape,h.output,h.size,fun k hk => h.block k (by omega) (fun e => by injection e;omega)⟩
theorem newest_c(p:Nat)(fs:List Addr)(d:Am)(w:World)(h:AtW w p fs d)(hsm:(CK d).length≤1000000)(hnm:∀r,r∈AM d→r.name.size≤1000000) :
  Calls Tryz.prog 135 #[.pointer (some ⟨p,0,none⟩)] w fun e w' =>∃L A c fs',e= .returned (.slice A L.length c)∧IsLive (AM d) L∧rSl 9 Ac w' fs' (.slice A L.length c) L∧(∀a,a∈fs'→a∈fs∨w.heap.size≤a.block)∧Below w.heap.size w w':=by
 obtain⟨mb,hmb⟩:∃mb,w.heap.size=mb:=⟨_,rfl⟩;obtain⟨W1,hW1⟩:∃W1,w.alloc (.map #[] 0)=W1:=⟨_,rfl⟩;have hB1:Below w.heap.size w W1:=by rw[← hW1];exact(Below.refl _ _).alloc (Nat.le_refl _) _
 have z1:W1.heap.size=mb+1:=by rw[← hW1,← hmb];simp
 have hM1:W1.ownsMap Tryz.prog 9 RV mb 0 (.map []):=by rw[← hW1,← hmb];exact World.ownsMap_made _ _ _ _
 have HC:=hid (Lv p fs d W1 (h.below hB1) hsm);have hl:=Io d;obtain⟨all,hall⟩:∃all,AM d=all:=⟨_,rfl⟩;rw[hall]at HC hl hnm⊢;have hN:all.length≤1000000:=by omega
 have HNM:=hid hnm;have HB1:=hid hB1;have HM1:=hid hM1;have HZ1:=hid z1;have HMB:=hid hmb;have hmk:(Instr.makeMap 264 none).run Tryz.prog w= .ok (.map (some mb)) W1:=by rw[← hW1,← hmb];rfl
 clear h hB1 hM1 hnm hl hall hsm;go_enter Tryz.func135,Tryz.ntmps135
 go_wp2_with fail
 clear hW1 hmb z1;go_wp2_with (go_at_call 126;refine HC.out.mono ?_;rintro e w2 ⟨A,c,fa,rfl,ra,pa,b2⟩;have RA:=hid ra;have PA:=hid pa;have B2:=hid b2;clear ra pa b2)
 obtain⟨A',c',css,ev,hc,hm,hx⟩:=rSl.css RA.out;injection ev with ev1 ev2 ev3
 subst ev1 ev3;have HX:=hid hx;have HFT:=hid (rSl.there Ac.fixed RA.out);have hM2:w2.ownsMap Tryz.prog 9 RV mb 0 (.map []):=HM1.out.kept (row:=none) ⟨B2.out.os,B2.out.tape,B2.out.output,B2.out.size,fun k hk _ => B2.out.block k hk⟩ (by simp);have HM2:=hid hM2;have HBW2:=hid (show Below w.heap.size w w2 from HB1.out.trans (B2.out.mono HB1.out.size));have zm2:mb<w2.heap.size:=by have:=HZ1.out;have:=B2.out.size;omega
 clear hx hM2 HC ev2;go_loopw [13,5] (fun ix _ wr =>∃(i n:Nat) (D:DataW Value),i≤all.length∧n≤i∧ix= int i64 i∧Hid (EY all css D i)∧Hid (wr.ownsMap Tryz.prog 9 RV mb n D)∧Hid (∀a:Addr,a.block<w2.heap.size→wr.cell? a=w2.cell? a)∧Hid (Below w.heap.size w wr)∧w2.heap.size≤wr.heap.size) (fun ix _ _ => all.length - (intOf ix).toNat)
 case atStart => exact⟨0,0,.map [],by omega,by omega,rfl,EY.start _ _,HM2.out,fun a _ => rfl,HBW2.out,Nat.le_refl _⟩
 case round =>
  obtain⟨i,n,D,hi,hn,rfl,HMA,HOM,HSA,HB,hsz⟩:=hrel;by_cases hlt:i<all.length
  ·obtain⟨ad,b3,o3,f3,rfl,hat⟩:=HX.out i hlt;obtain⟨cs3,hcs3⟩:∃cs3,List.getD css i [] =cs3:=⟨_,rfl⟩;rw[hcs3]at hat;have HCS:=hid hcs3;have hpl3:=hat.place;have hbl3:b3<w2.heap.size:=hat.lt;have hbl4:b3<wr.heap.size:=by omega
   have hlen:cs3.length=9:=hat.len;have HR:=hid (show wr.rangeAt b3 o3 cs3 from fun q v hq => by
    have hq1:q<cs3.length:=(List.getElem?_eq_some_iff.1 hq).1;rw[HSA.out _ hbl3,hat.cell q hq1,← hq];exact(List.getElem?_eq_getElem hq1).symm)
   have HI:=hid (show(Tryz.prog.info? 119).map (·.size)=some cs3.length by rw[hlen];kernel_rfl);have HI2:=hid (show(Tryz.prog.info? 119).map (·.size)=some cs3.toArray.size by rw[List.size_toArray,hlen];kernel_rfl);have HON:=hid (all_oneCell_toArray (Ac.ones _ _ _ _ hat.reads));obtain⟨Z,hZ⟩:∃Z:Array Value,#[int i64 0,int i64 0,.string ⟨#[]⟩,int i64 0,int i64 0,int i64 0,.slice none 0 0,.slice none 0 0,.slice none 0 0] =Z:=⟨_,rfl⟩;have hZs:Z.size=9:=by rw[← hZ];rfl
   have KZ:=Blk.new wr 119 Z;have HTH:=hid (Blk.there KZ cs3.toArray.size (by rw[List.size_toArray,hlen,hZs];exact Nat.le_refl _));obtain⟨W2,hW2⟩:∃W2,(wr.alloc (.cells Z 119)).setCells wr.heap.size 0 cs3.toArray.toList=W2:=⟨_,rfl⟩;have k2:Blk W2 wr.heap.size 119 cs3.toArray:=by rw[← hW2];exact Blk.laid KZ _ (by rw[hZs];exact hlen.symm)
   have b22:Below wr.heap.size wr W2:=by rw[← hW2];exact AZ (Af (Below.refl _ _) _) _ 0 (Nat.le_refl _)
   have HW2:=hid hW2;have BW2:=hid b22;have HR2:=hid (Blk.rangeAll k2);have hgb:=k2.lt;obtain⟨v0,v1,v2,q0,q1,q2,e,-⟩:=hat.reads;have y0:W2.cell? ⟨wr.heap.size,0,none⟩=some (int i64 all[i].kind):=by rw[k2.cell,e];rfl
   have y2:W2.cell? ⟨wr.heap.size,2,none⟩=some (.string all[i].name):=by rw[k2.cell,e];rfl
   have HOM2:=hid (show W2.ownsMap Tryz.prog 9 RV mb n D from HOM.out.kept (row:=none) ⟨b22.os,b22.tape,b22.output,b22.size,fun k hk _ => b22.block k hk⟩ (by simp));have HSA2:=hid (show∀a:Addr,a.block<w2.heap.size→W2.cell? a=w2.cell? a from fun a ha =>(b22.cell (p:=a) (by omega)).trans (HSA.out a ha));have HBX:=hid (HB.out.trans (b22.mono HB.out.size));have hnl:=HNM.out _ (List.getElem_mem hlt);have hki:(i:Int)<(all.length:Int):=by omega
   have sz2:=b22.size;clear hat hW2 KZ hlen hZs k2 e hcs3 b22;by_cases qk:all[i].kind =1
   ·have hk:(all[i].kind == 1)=true:=by simpa using qk
    have HPUT:=hid (HMA.out.put hlt qk HCS.out);clear qk;go_wp2_with (first
     |(refine wpList_load_mid rfl 119 (.tmp 15) rfl b3 o3 rfl cs3 _ HR.out Tryz.underlying119 rfl HI.out ?_)
     |(refine wpList_store_mid rfl 119 (.tmp 5) (.tmp 16) rfl wr.heap.size 0 cs3.toArray rfl rfl HTH.out HI2.out HON.out ?_;rw[HW2.out])
     |(refine wpList_load_mid rfl 119 (.tmp 5) rfl wr.heap.size 0 rfl cs3 _ HR2.out Tryz.underlying119 rfl HI.out ?_)
     |(at_mapUpdate;refine wpList_mapUpdate_own _ rfl _ _ _ 264 rfl 9 119 Mg Tryz.underlying264 RV mb n D rfl HOM2.out (by unfold maxLen;omega) _ _ (Dr all[i].name) rfl rfl (keyOfN hnl) (.held (.agg cs3.toArray)) [] rfl ?_;intro w4 hown4 hgrow4;have HO4:=hid hown4;have HG4:=hid hgrow4;clear hown4 hgrow4))
    go_roundw
    case rel =>
     refine⟨i+1,n+1,_,by omega,by omega,by go_num,HPUT.out,HO4.out,fun a ha => ?_,HBX.out.trans (GS HG4.out (by rw[HMB.out];exact Nat.le_refl _) (by rw[HMB.out];omega)),by have:=HG4.out.size;omega⟩;by_cases e:a.block=mb
     ·rw[I2 HO4.out e,I2 HM2.out e]
     ·exact(World.cell?_of_block (HG4.out.block a.block (by omega) (fun e2 => by injection e2 with e2;exact e e2))).trans (HSA2.out a ha)
    case measure => simp[intOf];omega
   ·have hk:(all[i].kind == 1)=false:=by simpa using qk
    have HPUT:=hid (HMA.out.skip hlt qk);clear qk;go_wp2_with (first
     |(refine wpList_load_mid rfl 119 (.tmp 15) rfl b3 o3 rfl cs3 _ HR.out Tryz.underlying119 rfl HI.out ?_)
     |(refine wpList_store_mid rfl 119 (.tmp 5) (.tmp 16) rfl wr.heap.size 0 cs3.toArray rfl rfl HTH.out HI2.out HON.out ?_;rw[HW2.out]))
    go_roundw
    case rel => exact⟨i+1,n,D,by omega,by omega,by go_num,HPUT.out,HOM2.out,HSA2.out,HBX.out,by omega⟩
    case measure => simp[intOf];omega
  ·obtain rfl:i=all.length:=by omega
   have HO3:=hid (HOM.out.alloc (.cells #[] 119));have HOW:=hid (Al.start (R:=Ac) (World.ownsRow_lit (base:=wr.heap.size) (e:=119) (size:=9) wr #[] 0 (Nat.le_refl _) (Nat.zero_le _) rfl));have HMZ:=hid (Ml HOM.out);have sz3:(wr.alloc (.cells #[] 119)).heap.size =wr.heap.size+1:=by simp
   have HB3:=hid (show Below wr.heap.size wr (wr.alloc (.cells #[] 119))from(Below.refl _ _).alloc (Nat.le_refl _) _);obtain⟨W3,hW3⟩:∃W3,wr.alloc (.cells #[] 119)=W3:=⟨_,rfl⟩;rw[hW3]at HO3 HOW HB3 sz3;obtain⟨gO,hgO⟩:∃gO,wr.heap.size=gO:=⟨_,rfl⟩;rw[hgO]at HOW HB3 sz3 hsz;go_wp2_with (at_range;refine wpList_range_own _ rfl _ 264 rfl 9 119 Mg Tryz.underlying264 RV mb n D rfl HO3.out ?_;intro w5 hrg hg5 hs5;have HRG5:=hid hrg;have HG5:=hid hg5;have HS5:=hid hs5;clear hrg hg5 hs5)
   go_frame
   obtain⟨rr,hrr⟩:∃rr,W3.heap.size=rr:=⟨_,rfl⟩;have HRG:=HRG5;have HS:=HS5;rw[hrr]at HRG HS sz3;clear HRG5 HS5;have HW35:=hid (show Below W3.heap.size W3 w5 from⟨HG5.out.os,HG5.out.tape,HG5.out.output,HG5.out.size,fun k hk => HG5.out.block k hk (by simp)⟩);have HOW5:=hid (HOW.out.below Ac.local_ Ac.fixed HW35.out);have HVS:=hid (FD.start HMA.out);have HSA5:=hid (show∀a:Addr,a.block<w2.heap.size→w5.cell? a=w2.cell? a from fun a ha =>(HW35.out.cell (p:=a) (by omega)).trans ((HB3.out.cell (p:=a) (by omega)).trans (HSA.out a ha)));have hgm:mb<gO:=by omega
   have HB5:=hid (show Below w.heap.size w w5 from HB.out.trans (((HB3.out.mono (show w.heap.size≤gO from by have:=HMB.out;omega)).trans (HW35.out.mono (by have:=HMB.out;omega)))));clear hW3 hgO HOW HSA HB HB3 HO3 HOM HG5;try rw[hrr]
   clear hrr;subst sz3;go_loopw [6,8] (fun o _ wx =>∃(left:Lit→Bool) (cnt k g c1:Nat) (L:List Ai) (fo:List Addr),o= .slice (some ⟨g,0,none⟩) k c1∧Hid (k=L.length)∧g≠gO+1∧gO≤g∧cnt+k≤Maps.size D∧Hid (FD all left L)∧Hid (wx.ranges Tryz.prog 9 RV mb (gO+1) n D left cnt)∧Hid (Al 9 119 Ac wx gO (.slice (some ⟨g,0,none⟩) k c1) L fo)∧Hid (∀a,a∈fo→a∈fa)∧Hid (∀a:Addr,a.block<w2.heap.size→wx.cell? a=w2.cell? a)∧Hid (Below w.heap.size w wx)∧gO+1<wx.heap.size) (fun _ _ wx => wx.rangeLeft mb (gO+1))
   case atStart => exact⟨_,_,0,gO,0,[],[],rfl,rfl,by omega,Nat.le_refl _,by omega,HVS.out,HRG.out,HOW5.out,(show∀a,a∈([]:List Addr)→a∈fa from fun a ha => by cases ha),HSA5.out,HB5.out,by have:=HS.out;omega⟩
   case round =>
    clear HVS HRG HOW5 HSA5 HB5 HS HW35;obtain⟨left,cnt,k,g,c1,L,fo,rfl,HK,hgr,hgO,hcnt,HV,HR,HO,HF,HSA,HB,hrx⟩:=hrel;go_wp2_with (at_next;refine wpList_next_ranges _ rfl _ rfl 9 Mg RV Value.string id (fun key kl h => Ph h) (fun v y h =>⟨v,rfl⟩) mb (gO+1) n D left cnt rfl HR.out ?_ ?_)
    ·intro hc0 hl0;have HST:=hid (No (n:=k) HO.out HK.out (by have:=HMZ.out;omega) hgO (HO.out.lt _ rfl).2 (fun a ha => by have:=HFT.out a (HF.out a ha);omega));have HLF:=hid hl0;clear hc0 hl0;go_wp2_with (go_at_call 222;refine HST.out.mono ?_;rintro e w7 ⟨rfl,M,f7,hp7,hs7,r7,p7,b7⟩;have HP7:=hid hp7;have HS7:=hid hs7;have R7:=hid r7;have P7:=hid p7;have B7:=hid b7;clear hp7 hs7 r7 p7 b7)
     go_ret
     have hlen:M.length=k:=by rw[HK.out,HP7.out.length_eq]
     refine⟨M,some ⟨g,0,none⟩,c1,f7,by rw[hlen];rfl,HV.out.live HLF.out HP7.out HS7.out,by rw[hlen];exact R7.out,fun a ha => ?_,HB.out.trans (B7.out.mono (by have:=HMB.out;omega))⟩;rcases P7.out a ha with q|q
     ·rcases PA.out a (HF.out a q)with q2|q2
      ·exact .inl q2
      ·right;have:=HZ1.out;have:=HMB.out;omega
     ·right;have:=HMB.out;omega
    ·intro x cv kl y ys w6 cnt1 hkx hlx hRv hys hat6 hrg6 hlt6 hg6 hs6 hen;have hs6a:=Nat.le_of_eq hs6;have hs6b:=Nat.le_of_eq hs6.symm;clear hs6;obtain rfl:=Pk hkx;have hRv2:DataW.held cv=y:=hRv;subst hRv2;have hMZ:=HMZ.out;have hh:=Maps.has_true_of_atKey hat6;rw[HMA.out.has]at hh;simp only[decide_eq_true_eq]at hh;obtain⟨q,hq⟩:∃q:Nat,Ct all x all.length=(q:Int):=⟨(Ct all x all.length).toNat,by omega⟩;have hv:=HMA.out.at_ x q hq (.lit (.bool true));rw[hat6]at hv;obtain⟨cs3,hcs3⟩:∃cs3,List.getD css q [] =cs3:=⟨_,rfl⟩;rw[hcs3]at hv;obtain rfl:cv= .agg cs3.toArray:=by injection hv
     obtain⟨hqk,hkd,hnq,hli1,hli0⟩:=HV.out.step hlx hq;obtain⟨ad,b3,o3,f3,rfl,hat⟩:=HX.out q hqk;rw[hcs3]at hat;have hlen:cs3.length=9:=hat.len;have HI:=hid (show(Tryz.prog.info? 119).map (·.size)=some cs3.length by rw[hlen];kernel_rfl);have HI2:=hid (show(Tryz.prog.info? 119).map (·.size)=some cs3.toArray.size by rw[List.size_toArray,hlen];kernel_rfl);have HON:=hid (all_oneCell_toArray (Ac.ones _ _ _ _ hat.reads));have HSZ:=hid (show cs3.toArray.size=9 by rw[List.size_toArray];exact hlen);obtain⟨Z,hZ⟩:∃Z:Array Value,#[int i64 0,int i64 0,.string ⟨#[]⟩,int i64 0,int i64 0,int i64 0,.slice none 0 0,.slice none 0 0,.slice none 0 0] =Z:=⟨_,rfl⟩;have hZs:Z.size=9:=by rw[← hZ];rfl
     have KZ:=Blk.new w6 119 Z;have HTH:=hid (Blk.there KZ cs3.toArray.size (by rw[List.size_toArray,hlen,hZs];exact Nat.le_refl _));obtain⟨W7,hW7⟩:∃W7,(w6.alloc (.cells Z 119)).setCells w6.heap.size 0 cs3.toArray.toList=W7:=⟨_,rfl⟩;have k7:Blk W7 w6.heap.size 119 cs3.toArray:=by rw[← hW7];exact Blk.laid KZ _ (by rw[hZs];exact hlen.symm)
     have b67:Below w6.heap.size w6 W7:=by rw[← hW7];exact AZ (Af (Below.refl _ _) _) _ 0 (Nat.le_refl _)
     have HW7:=hid hW7;have HR7:=hid (Blk.rangeAll k7);have hgb:=k7.lt;have sz7:=b67.size;have HG6:=hid hg6;have h6c:∀a:Addr,a.block<w2.heap.size→w6.cell? a=w2.cell? a:=fun a ha =>(World.cell?_of_block (HG6.out.block a.block (by omega) (fun e2 => by injection e2 with e2;omega))).trans (HSA.out a ha)
     have HSA7:=hid (show∀a:Addr,a.block<w2.heap.size→W7.cell? a=w2.cell? a from fun a ha =>(b67.cell (p:=a) (by omega)).trans (h6c a ha));have HRD7:=hid (show Ac W7 f3 cs3 all[q]from Ac.local_ _ _ _ _ _ hat.reads (fun a ha => HSA7.out a (hat.there a ha)));have hog:=(HO.out.lt _ rfl).2;have HO6:=hid (show Al 9 119 Ac w6 gO (.slice (some ⟨g,0,none⟩) k c1) L fo from Al.keep Ac.local_ HO.out (fun b hb => by injection hb with hb;subst hb;exact HG6.out.block _ hog (fun e2 => by injection e2 with e2;exact hgr e2)) (fun a ha => by have:=HFT.out a (HF.out a ha);exact World.cell?_of_block (HG6.out.block a.block (by omega) (fun e2 => by injection e2 with e2;omega))));have HO7:=hid (HO6.out.below Ac.local_ Ac.fixed b67);have HRG7:=hid (hrg6.kept (row:=none) ⟨b67.os,b67.tape,b67.output,b67.size,fun k hk _ => b67.block k hk⟩ (by simp) (by simp));have HB7:=hid (HB.out.trans (((GS HG6.out (show w.heap.size≤gO+1 from by have:=HMB.out;omega) HB.out.size)).trans (b67.mono (by have:=HB.out.size;omega))));have HF3:=hid (show∀a,a∈f3→a∈fa from hat.sub);obtain⟨v0,v1,v2,q0,q1,q2,e,-⟩:=hat.reads;have y3:W7.cell? ⟨w6.heap.size,3,none⟩=some (int i64 all[q].length):=by rw[k7.cell,e];rfl
     have HOLD:=hid HR.out.left_eq;have HLT6:=hid hlt6;have HAP:=hid (addRecQ (P:=fun a => a∈fa) (lo:=gO) (fun a ha => by have:=HFT.out a ha;omega) (w:=W7) (W:=W7.alloc (.cells cs3.toArray 119)) (b:=W7.heap.size) HO7.out (by omega) (Af (Below.refl _ _) _) (Blk.new _ _ _) (AC.below Ac.local_ Ac.fixed HRD7.out (Af (Below.refl _ _) _)) HF3.out HF.out (by rw[← HK.out];omega));rw[← HK.out]at HAP;clear hat hW7 KZ hlen hZs k7 e hcs3 b67 hv hh hat6 hRv hys hkx hrg6 h6c hg6 hlt6 hlx hnq hkd hq;by_cases ql:all[q].length = -1
     ·have hq1:(all[q].length == -1)=true:=by simpa using ql
      have HV7:=hid (hli0 ql);clear ql hli0 hli1;go_wp2_with (first
       |(refine wpList_store_mid rfl 119 (.tmp 8) (.tmp 31) rfl w6.heap.size 0 cs3.toArray rfl rfl HTH.out HI2.out HON.out ?_;rw[HW7.out]))
      go_roundw
      case rel => exact⟨_,cnt1,k,g,c1,L,fo,rfl,HK.out,hgr,hgO,by have:=HLT6.out;omega,HV7.out,HRG7.out,HO7.out,HF.out,HSA7.out,HB7.out,by omega⟩
      case measure => rw[HRG7.out.left_eq,HOLD.out];exact HLT6.out
     ·have hq1:(all[q].length == -1)=false:=by simpa using ql
      have HV7:=hid (hli1 ql);clear ql hli0 hli1;go_wp2_with (first
       |(refine wpList_store_mid rfl 119 (.tmp 8) (.tmp 31) rfl w6.heap.size 0 cs3.toArray rfl rfl HTH.out HI2.out HON.out ?_;rw[HW7.out])
       |(refine wpList_load_mid rfl 119 (.tmp 8) rfl w6.heap.size 0 rfl cs3 _ HR7.out Tryz.underlying119 rfl HI.out ?_)
       |(refine EN rfl 80 119 (.tmp 36) rfl cs3.toArray rfl _ 9 128 Tryz.underlying80 Tryz.infoRec (by omega) (by omega) HSZ.out ?_)
       |(at_builtin;refine As rfl (.tmp 35) (.tmp 37) 80 rfl _ _ (by rfl) (by rfl) HAP.out ?_;rintro v8 w8 ⟨g8,c8,fo8,rfl,o8,h8,gr8,e8⟩;have O8:=hid o8;have H8:=hid h8;have G8:=hid gr8;have E8:=hid e8;clear o8 h8 gr8 e8))
      have h8:(W7.alloc (.cells cs3.toArray 119)).heap.size =W7.heap.size+1:=by simp
      have b78:Below W7.heap.size W7 (W7.alloc (.cells cs3.toArray 119)):=Af (Below.refl _ _) _;have hsa8:=G8.out.size;have HRG8:=hid (((HRG7.out.alloc (.cells cs3.toArray 119)).kept G8.out (fun e2 => by injection e2 with e2;omega) (fun e2 => by injection e2 with e2;exact hgr e2.symm)));have HSA8:=hid (show∀a:Addr,a.block<w2.heap.size→w8.cell? a=w2.cell? a from fun a ha =>(World.cell?_of_block (G8.out.block a.block (by omega) (fun e2 => by injection e2 with e2;omega))).trans ((b78.cell (p:=a) (by omega)).trans (HSA7.out a ha)));have HB8:=hid (HB7.out.trans (((b78.mono (by have:=HB7.out.size;omega)).trans (GS G8.out (show w.heap.size≤g from by have:=HMB.out;omega) (by have:=HB7.out.size;omega)))));have hg8:g8≠gO+1∧gO≤g8:=by
       rcases E8.out with e|e
       ·rw[e];exact⟨hgr,hgO⟩
       ·rw[e,h8];omega
      have HG8:=hid hg8;have HSZ8:=hid (show gO+1<w8.heap.size by omega);clear h8 b78 hsa8 hg8;go_roundw
      case rel => exact⟨_,cnt1,k+1,g8,c8,L ++ [all[q]],fo8,rfl,(show k+1=_ by rw[List.length_append,← HK.out];rfl),HG8.out.1,HG8.out.2,by have:=HLT6.out;omega,HV7.out,HRG8.out,O8.out,H8.out,HSA8.out,HB8.out,HSZ8.out⟩
      case measure => rw[HRG8.out.left_eq,HOLD.out];exact HLT6.out
def DE(all:List Ai)(nm:ByteArray):Option Ai :=
 if Ct all nm all.length<0 then none else(all[(Ct all nm all.length).toNat]?).bind fun x => if x.length= -1 then none else some x
theorem N7 {all:List Ai} {nm:ByteArray} {x:Ai}(h:JU all x)(hn:x.name=nm):DE all nm=some x:=by
 obtain⟨k,hk,e,-,hl,hi⟩:=h;rw[hn]at hi;unfold DE;rw[hi,if_neg (by omega),Int.toNat_natCast,List.getElem?_eq_getElem hk,e];simp[hl]
theorem OI {all:List Ai} {nm:ByteArray}(h:∀x,JU all x→¬x.name=nm):DE all nm=none:=by
 unfold DE;by_cases q:Ct all nm all.length<0
 ·rw[if_pos q]
 ·rw[if_neg q];obtain⟨k,hk⟩:∃k:Nat,Ct all nm all.length=(k:Int):=⟨(Ct all nm all.length).toNat,by omega⟩;obtain⟨h1,h2⟩:=Hh all nm k _ hk;unfold DB at h2;simp only[decide_eq_true_eq]at h2;rw[hk,Int.toNat_natCast,List.getElem?_eq_getElem h1];by_cases ql:all[k].length = -1
  ·simp[ql]
  ·exact absurd h2.2 (h _ ⟨k,h1,rfl,h2.1,ql,by rw[h2.2];exact hk⟩)
theorem J8 {P:Program} {fn:Func} {p u:Tmp} {ty:TypeId}(h:fn.results= #[.cell p ty,.tmp u])(tmps:Array Value)(w:World)(g:Nat)(t:TypeId)(cs:Array Value)(d:TypeDesc)(v2:Value)
  (hp:tmps.getD p undef= .pointer (some ⟨g,0,none⟩)) (hg:Blk w g t cs)
  (hu:P.underlying ty=some d) (hd:(match d with| .struct _| .array _ _ => true|_ => false)=true) (hi:(P.info? ty).map (·.size)=some cs.size)
  (hp2:tmps.getD u undef=v2) :
  (results fn tmps).run P w= .ok (.tuple #[.agg cs,v2]) w:=by
 have hp':tmps[p]?.getD undef= .pointer (some ⟨g,0,none⟩):=by simpa using hp
 have hp2':tmps[u]?.getD undef=v2:=by simpa using hp2
 simp[results,h,hp',hp2',asAddr,run_loadVar_row w g t ty cs (0,0) d hg hu hd hi]
theorem Op {α:Type}(p:α→Bool)(ds:List α):(∃k,∃hk:k<ds.length,DP p ds=(k:Int)∧p ds[k] =true)∨(DP p ds= -1∧∀x,x∈ds→p x=false):=by
 have h:∀n,n≤ds.length→(∀q,(hq:q<ds.length)→q<n→p ds[q] =false)∨∃k,∃hk:k<ds.length,p ds[k] =true∧∀q,(hq:q<ds.length)→q<k→p ds[q] =false:=by
  intro n;induction n with
  |zero => exact fun _ => .inl fun q _ hq => by omega
  |succ n ih =>
   intro hn;rcases ih (by omega)with h|h
   ·cases hp:p (ds[n]'(by omega))with
    |true => exact .inr ⟨n,by omega,hp,h⟩
    |false =>
     refine .inl fun q hq hqn => ?_
     by_cases e:q=n
     ·subst e;exact hp
     ·exact h q hq (by omega)
   ·exact .inr h
 rcases h ds.length (Nat.le_refl _)with h|⟨k,hk,h1,h2⟩
 ·refine .inr ⟨EV (fun q hq => h q hq hq),fun x hx => ?_⟩;obtain⟨q,hq,rfl⟩:=List.getElem_of_mem hx;exact h q hq hq
 ·exact .inl ⟨k,hk,Fy hk h1 h2,h1⟩
def ItemR(x?:Option Ai)(w:World)(e:Ending)(w':World):Prop :=
 (∃x cs f,x? =some x∧e= .returned (.tuple #[.agg (List.toArray cs),.bool true])∧Ac w' f cs x∧Below w.heap.size w w')∨(x? =none∧e= .returned (.tuple #[.agg #[int i64 0,int i64 0,.string ⟨#[]⟩,int i64 0,int i64 0,int i64 0,.slice none 0 0,.slice none 0 0,.slice none 0 0],.bool false])∧Below w.heap.size w w')
theorem item1_c(x:Ai)(cs:List Value)(f:List Addr)(b:Nat)(nm:ByteArray)(w:World)(h:Ac w f cs x)(hb:w.cell? ⟨b,0,none⟩=some (.string nm)) :
  Calls Tryz.prog 137 #[.agg cs.toArray,.pointer (some ⟨b,0,none⟩)] w fun e w' => e= .returned (.bool (decide (x.name=nm)))∧Below w.heap.size w w':=by
 obtain⟨x0,x1,x2,x3,x4,x5,x6,x7,x8⟩:=x;dsimp only[Ac]at h;obtain⟨v0,v1,v2,f0,f1,f2,e,-⟩:=h;subst e;have lb:b<w.heap.size:=World.block_lt_of_cell? _ _ hb;have BB:=hid (show∀o:Obj,Below w.heap.size w (w.alloc o)from fun o =>(Below.refl _ _).alloc (Nat.le_refl _) _);by_cases q:x2=nm
 ·have hq:=Jb q;rw[decide_eq_true q];clear q;go_enter Tryz.func137,Tryz.ntmps137
  go_wp2_with fail
  go_ret
  exact⟨rfl,BB.out _⟩
 ·have hq:=F9 q;rw[decide_eq_false q];clear q;go_enter Tryz.func137,Tryz.ntmps137
  go_wp2_with fail
  go_ret
  exact⟨rfl,BB.out _⟩
theorem item_c(p:Nat)(fs:List Addr)(d:Am)(nm:ByteArray)(w:World)(h:AtW w p fs d)(hsm:(CK d).length≤1000000)(hnm:∀r,r∈AM d→r.name.size≤1000000) :
  Calls Tryz.prog 73 #[.pointer (some ⟨p,0,none⟩),.string nm] w (ItemR (DE (AM d) nm) w):=by
 obtain⟨W1,hW1⟩:∃W1,(w.alloc (.cells #[.string nm] 9)).alloc (.cells #[int i64 0,int i64 0,.string ⟨#[]⟩,int i64 0,int i64 0,int i64 0,.slice none 0 0,.slice none 0 0,.slice none 0 0] 119)=W1:=⟨_,rfl⟩;have hB1:Below w.heap.size w W1:=by rw[← hW1];exact((Below.refl _ _).alloc (Nat.le_refl _) _).alloc (by simp) _
 have K5:Blk W1 w.heap.size 9 #[.string nm]:=by rw[← hW1];exact(Blk.new w _ _).alloc _
 have K6:Blk W1 (w.heap.size+1) 119 #[int i64 0,int i64 0,.string ⟨#[]⟩,int i64 0,int i64 0,int i64 0,.slice none 0 0,.slice none 0 0,.slice none 0 0]:=by rw[← hW1];exact Blk.new1 w _ _ _
 have HN:=hid (newest_c p fs d W1 (h.below hB1) hsm hnm);have HFS:=hid (show C9 fs w from by obtain⟨_,hr,-⟩:=h;exact AB.fixed _ _ _ _ hr);have HB1:=hid hB1;have HK5:=hid K5;have HK6:=hid K6;obtain⟨all,hall⟩:∃all,AM d=all:=⟨_,rfl⟩;rw[hall]at HN⊢;have hks:(Tryz.prog.info? 119).map (·.size)=some 9:=by kernel_rfl
 have lw1:w.heap.size+1<W1.heap.size:=K6.lt;clear h hB1 K5 K6 hnm hsm hall;refine(callsIn_wide (n:=9)).1 ?_;refine callsIn_of_wp_marks Tryz.func73 rfl trivial ?_ rfl;refine wpIn_wide.2 ?_;simp only[Tryz.ntmps73,List.size_toArray,List.length_cons,List.length_nil,Nat.reduceAdd,Nat.reduceSub,Array.replicate_succ,Array.replicate_zero,List.push_toArray,List.append_toArray,List.nil_append,List.cons_append];go_wp2_with (go_at_call 135;(try rw[hW1]);refine HN.out.mono ?_;rintro e w2 ⟨L,A,c,f2,rfl,hL,r2,p2,b2⟩;have HL:=hid hL;have R2:=hid r2;have P2:=hid p2;have B2:=hid b2;have HIX:=hid (Il 9 (by omega) Tryz.sizeOf119 Tryz.isAgg119 (fun x => decide (x.name=nm)) 137 #[.pointer (some ⟨w.heap.size,0,none⟩)] (.slice A L.length c) L f2 w2 (enters_of Tryz.func137 (by kernel_rfl) rfl) r2 (fun W cs fk j hj hW hR => item1_c L[j] cs fk w.heap.size nm W hR (((HK5.out.below (B2.out.trans (hW.mono B2.out.size)) HK5.out.lt).cell 0).trans rfl)));clear hL r2 p2 b2)
 refine HIX.out.mono ?_;rintro e w3 ⟨rfl,b3⟩;have B3:=hid (B2.out.trans (b3.mono B2.out.size));have hK6:=HK6.out.below B3.out HK6.out.lt;have hsz3:=B3.out.size;rcases Op (fun x => decide (x.name=nm)) L with⟨k,hk,e1,e2⟩|⟨e1,e2⟩
 ·rw[e1];obtain⟨A',c',ev,hc,hm,hx⟩:=rSl.at_ Ac.fixed (by omega) R2.out;injection ev with ev1 _ ev3
  subst ev1 ev3;obtain⟨ad,b,o,cs,fk,rfl,hat⟩:=hx k hk;simp only[decide_eq_true_eq]at e2;have HFD:=hid (N7 ((HL.out.mem _).1 (List.getElem_mem hk)) e2);have hpl:=hat.place;have hat3:=hat.below Ac.local_ b3;have hbl:=hat3.lt;have hlen:cs.length=9:=hat3.len;have HR:=hid (show w3.rangeAt b o cs from fun q v hq => by
   have hq1:q<cs.length:=(List.getElem?_eq_some_iff.1 hq).1;rw[hat3.cell q hq1,← hq];exact(List.getElem?_eq_getElem hq1).symm)
  have HI:=hid (show(Tryz.prog.info? 119).map (·.size)=some cs.length by rw[hlen];kernel_rfl);have HI2:=hid (show(Tryz.prog.info? 119).map (·.size)=some cs.toArray.size by rw[List.size_toArray,hlen];kernel_rfl);have HON:=hid (all_oneCell_toArray (Ac.ones _ _ _ _ hat3.reads));have HTH:=hid (Blk.there hK6 cs.toArray.size (by rw[List.size_toArray,hlen];exact Nat.le_refl _));obtain⟨W5,hW5⟩:∃W5,w3.setCells (w.heap.size+1) 0 cs.toArray.toList=W5:=⟨_,rfl⟩;have HW5:=hid hW5;have HK65:=hid (show Blk W5 (w.heap.size+1) 119 cs.toArray by rw[← hW5];exact hK6.laid cs (by rw[hlen];rfl));have HRD:=hid (show Ac W5 fk cs L[k]from Ac.local_ _ _ _ _ _ hat3.reads (fun a ha => by
   rw[← hW5];refine World.cell?_setCells_out _ _ _ _ _ (fun e _ => ?_);rcases P2.out a (hat.sub a ha)with q|q
   ·have:=HFS.out a q;omega
   ·omega))
  have HB5:=hid (show Below w.heap.size w W5 by rw[← hW5];exact Below.wide_ _ _ _ _ (by omega) (HB1.out.trans (B3.out.mono HB1.out.size)));have hki:(k:Int)<(L.length:Int):=by omega
  have hk0:¬(k:Int)<0:=by omega
  clear hat hat3 hW5 hx b3 hK6 e1 e2 hW1;go_wp2_with (first
   |(refine wpList_load_mid rfl 119 (.tmp 18) rfl b o rfl cs _ HR.out Tryz.underlying119 rfl HI.out ?_)
   |(refine wpList_store_mid rfl 119 (.tmp 4) (.tmp 19) rfl (w.heap.size+1) 0 cs.toArray rfl rfl HTH.out HI2.out HON.out ?_;rw[HW5.out]))
  refine⟨_,J8 (g:=w.heap.size+1) (v2:=.bool true) rfl _ _ _ _ _ rfl HK65.out Tryz.underlying119 rfl HI2.out rfl,.inl ⟨L[k],cs,fk,HFD.out,rfl,HRD.out,HB5.out⟩⟩
 ·rw[e1];have HFD:=hid (OI (all:=all) (nm:=nm) (fun x hx hn => by have:=e2 x ((HL.out.mem x).2 hx);simp[hn]at this));obtain⟨W5,hW5⟩:∃W5,w3.setCells (w.heap.size+1) 0 (#[int i64 0,int i64 0,.string ⟨#[]⟩,int i64 0,int i64 0,int i64 0,.slice none 0 0,.slice none 0 0,.slice none 0 0]:Array Value).toList =W5:=⟨_,rfl⟩;have HW5:=hid hW5;have HK65:=hid (show Blk W5 (w.heap.size+1) 119 #[int i64 0,int i64 0,.string ⟨#[]⟩,int i64 0,int i64 0,int i64 0,.slice none 0 0,.slice none 0 0,.slice none 0 0] by rw[← hW5];exact hK6.laid _ (by rfl));have HTH:=hid (Blk.there hK6 9 (by exact Nat.le_refl _));have HB5:=hid (show Below w.heap.size w W5 by rw[← hW5];exact Below.wide_ _ _ _ _ (by omega) (HB1.out.trans (B3.out.mono HB1.out.size)));have hv:=Tryz.zeroValue119;clear hW5 b3 hK6 e1 e2 hW1;go_wp2_with (first
   |(refine wpList_store_mid rfl 119 (.tmp 4) (.tmp 15) rfl (w.heap.size+1) 0 #[int i64 0,int i64 0,.string ⟨#[]⟩,int i64 0,int i64 0,int i64 0,.slice none 0 0,.slice none 0 0,.slice none 0 0] rfl rfl HTH.out (by rw[hks];rfl) (by simp[Value.oneCell']) ?_;rw[HW5.out]))
  refine⟨_,J8 (g:=w.heap.size+1) (v2:=.bool false) rfl _ _ _ _ _ rfl HK65.out Tryz.underlying119 rfl (by rw[hks];rfl) rfl,.inr ⟨HFD.out,rfl,HB5.out⟩⟩
end Go.Proofs.YtfjkoifpdoemdaaGreat
