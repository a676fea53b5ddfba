/-
  Part 46 of the proof; the last part states and proves the statement.
-/
import Derived.Test.YthbljikbnoghcaaGreatM45
import Derived.Test.YthbljikbnoghcaaGreatM37
import Derived.Test.YthbljikbnoghcaaGreatM36
set_option maxHeartbeats 8000000
set_option maxRecDepth 100000
set_option linter.unusedVariables false
set_option linter.unusedSimpArgs false
open Go.Value (int)
open Go.IntKind (i64)
namespace Go.Proofs.YthbljikbnoghcaaGreat
open Go.RowKit Go.Lib Go.Sort
def Fq(all:List Ag)(nm:ByteArray):Option Ag :=
 if BJ all nm all.length<0 then none else(all[(BJ all nm all.length).toNat]?).bind fun x => if x.length= -1 then none else some x
theorem GT {all:List Ag} {nm:ByteArray} {x:Ag}(h:F6 all x)(hn:x.name=nm):Fq all nm=some x:=by
 obtain⟨k,hk,e,-,hl,hi⟩:=h;rw[hn]at hi;unfold Fq;rw[hi,if_neg (by omega),Int.toNat_natCast,List.getElem?_eq_getElem hk,e];simp[hl]
theorem KF {all:List Ag} {nm:ByteArray}(h:∀x,F6 all x→¬x.name=nm):Fq all nm=none:=by
 unfold Fq;by_cases q:BJ all nm all.length<0
 ·rw[if_pos q]
 ·rw[if_neg q];obtain⟨k,hk⟩:∃k:Nat,BJ all nm all.length=(k:Int):=⟨(BJ all nm all.length).toNat,by omega⟩;obtain⟨h1,h2⟩:=Ho all nm k _ hk;unfold CU at h2;simp only[decide_eq_true_eq]at h2;rw[hk,Int.toNat_natCast,List.getElem?_eq_getElem h1];by_cases ql:all[k].length = -1
  ·simp[ql]
  ·exact absurd h2.2 (h _ ⟨k,h1,rfl,h2.1,ql,by rw[h2.2];exact hk⟩)
theorem G4 {P:Program} {fn:Func} {p u:Tmp} {ty:TypeId}(h:fn.results= #[.cell p ty,.tmp u])(tmps:Array Value)(w:World)(g:Nat)(t:TypeId)(cs:Array Value)(d:TypeDesc)(v2:Value)
  (hp:tmps.getD p undef= .pointer (some ⟨g,0,none⟩)) (hg:Blk w g t cs)
  (hu:P.underlying ty=some d) (hd:(match d with| .struct _| .array _ _ => true|_ => false)=true) (hi:(P.info? ty).map (·.size)=some cs.size)
  (hp2:tmps.getD u undef=v2) :
  (results fn tmps).run P w= .ok (.tuple #[.agg cs,v2]) w:=by
 have hp':tmps[p]?.getD undef= .pointer (some ⟨g,0,none⟩):=by simpa using hp
 have hp2':tmps[u]?.getD undef=v2:=by simpa using hp2
 simp[results,h,hp',hp2',asAddr,run_loadVar_row w g t ty cs (0,0) d hg hu hd hi]
theorem KP {α:Type}(p:α→Bool)(ds:List α):(∃k,∃hk:k<ds.length,Cr p ds=(k:Int)∧p ds[k] =true)∨(Cr p ds= -1∧∀x,x∈ds→p x=false):=by
 have h:∀n,n≤ds.length→(∀q,(hq:q<ds.length)→q<n→p ds[q] =false)∨∃k,∃hk:k<ds.length,p ds[k] =true∧∀q,(hq:q<ds.length)→q<k→p ds[q] =false:=by
  intro n;induction n with
  |zero => exact fun _ => .inl fun q _ hq => by omega
  |succ n ih =>
   intro hn;rcases ih (by omega)with h|h
   ·cases hp:p (ds[n]'(by omega))with
    |true => exact .inr ⟨n,by omega,hp,h⟩
    |false =>
     refine .inl fun q hq hqn => ?_
     by_cases e:q=n
     ·subst e;exact hp
     ·exact h q hq (by omega)
   ·exact .inr h
 rcases h ds.length (Nat.le_refl _)with h|⟨k,hk,h1,h2⟩
 ·refine .inr ⟨CL (fun q hq => h q hq hq),fun x hx => ?_⟩;obtain⟨q,hq,rfl⟩:=List.getElem_of_mem hx;exact h q hq hq
 ·exact .inl ⟨k,hk,Dd hk h1 h2,h1⟩
def ItemR(x?:Option Ag)(fs:List Addr)(w:World)(e:Ending)(w':World):Prop :=
 (∃x cs f,x? =some x∧e= .returned (.tuple #[.agg (List.toArray cs),.bool true])∧Ac w' f cs x∧(∀a,a∈f→a∈fs∨w.heap.size≤a.block)∧Below w.heap.size w w')∨(x? =none∧e= .returned (.tuple #[.agg #[int i64 0,int i64 0,.string ⟨#[]⟩,int i64 0,int i64 0,int i64 0,.slice none 0 0,.slice none 0 0,.slice none 0 0],.bool false])∧Below w.heap.size w w')
theorem item1_c(x:Ag)(cs:List Value)(f:List Addr)(b:Nat)(nm:ByteArray)(w:World)(h:Ac w f cs x)(hb:w.cell? ⟨b,0,none⟩=some (.string nm)) :
  Calls Tryz.prog 77 #[.agg cs.toArray,.pointer (some ⟨b,0,none⟩)] w fun e w' => e= .returned (.bool (decide (x.name=nm)))∧Below w.heap.size w w':=by
 obtain⟨x0,x1,x2,x3,x4,x5,x6,x7,x8⟩:=x;dsimp only[Ac]at h;obtain⟨v0,v1,v2,f0,f1,f2,e,-⟩:=h;subst e;have lb:b<w.heap.size:=World.block_lt_of_cell? _ _ hb;have BB:=hid (show∀o:Obj,Below w.heap.size w (w.alloc o)from fun o =>(Below.refl _ _).alloc (Nat.le_refl _) _);by_cases q:x2=nm
 ·have hq:=Hx q;rw[decide_eq_true q];clear q;go_enter Tryz.func77,Tryz.ntmps77
  go_wp2_with fail
  go_ret
  exact⟨rfl,BB.out _⟩
 ·have hq:=F9 q;rw[decide_eq_false q];clear q;go_enter Tryz.func77,Tryz.ntmps77
  go_wp2_with fail
  go_ret
  exact⟨rfl,BB.out _⟩
theorem item_c(p:Nat)(fs:List Addr)(d:Au)(nm:ByteArray)(w:World)(h:AtW w p fs d)(hsm:(Bj d).length≤1000000)(hnm:∀r,r∈AW d→r.name.size≤1000000) :
  Calls Tryz.prog 33 #[.pointer (some ⟨p,0,none⟩),.string nm] w (ItemR (Fq (AW d) nm) fs w):=by
 obtain⟨W1,hW1⟩:∃W1,(w.alloc (.cells #[.string nm] 9)).alloc (.cells #[int i64 0,int i64 0,.string ⟨#[]⟩,int i64 0,int i64 0,int i64 0,.slice none 0 0,.slice none 0 0,.slice none 0 0] 76)=W1:=⟨_,rfl⟩;have hB1:Below w.heap.size w W1:=by rw[← hW1];exact((Below.refl _ _).alloc (Nat.le_refl _) _).alloc (by simp) _
 have K5:Blk W1 w.heap.size 9 #[.string nm]:=by rw[← hW1];exact(Blk.new w _ _).alloc _
 have K6:Blk W1 (w.heap.size+1) 76 #[int i64 0,int i64 0,.string ⟨#[]⟩,int i64 0,int i64 0,int i64 0,.slice none 0 0,.slice none 0 0,.slice none 0 0]:=by rw[← hW1];exact Blk.new1 w _ _ _
 have HN:=hid (Jf p fs d W1 (h.below hB1) hsm hnm);have HFS:=hid (show CM fs w from by obtain⟨_,hr,-⟩:=h;exact AD.fixed _ _ _ _ hr);have HB1:=hid hB1;have HK5:=hid K5;have HK6:=hid K6;obtain⟨all,hall⟩:∃all,AW d=all:=⟨_,rfl⟩;rw[hall]at HN⊢;have hks:(Tryz.prog.info? 76).map (·.size)=some 9:=by kernel_rfl
 have lw1:w.heap.size+1<W1.heap.size:=K6.lt;clear h hB1 K5 K6 hnm hsm hall;refine(callsIn_wide (n:=9)).1 ?_;refine callsIn_of_wp_marks Tryz.func33 rfl trivial ?_ rfl;refine wpIn_wide.2 ?_;simp only[Tryz.ntmps33,List.size_toArray,List.length_cons,List.length_nil,Nat.reduceAdd,Nat.reduceSub,Array.replicate_succ,Array.replicate_zero,List.push_toArray,List.append_toArray,List.nil_append,List.cons_append];go_wp2_with (go_at_call 75;(try rw[hW1]);refine HN.out.mono ?_;rintro e w2 ⟨L,A,c,f2,rfl,hL,r2,p2,b2⟩;have HL:=hid hL;have R2:=hid r2;have P2:=hid p2;have B2:=hid b2;have HIX:=hid (Eu 9 (by omega) Tryz.sizeOf76 Tryz.isAgg76 (fun x => decide (x.name=nm)) 77 #[.pointer (some ⟨w.heap.size,0,none⟩)] (.slice A L.length c) L f2 w2 (enters_of Tryz.func77 (by kernel_rfl) rfl) r2 (fun W cs fk j hj hW hR => item1_c L[j] cs fk w.heap.size nm W hR (((HK5.out.below (B2.out.trans (hW.mono B2.out.size)) HK5.out.lt).cell 0).trans rfl)));clear hL r2 p2 b2)
 refine HIX.out.mono ?_;rintro e w3 ⟨rfl,b3⟩;have B3:=hid (B2.out.trans (b3.mono B2.out.size));have hK6:=HK6.out.below B3.out HK6.out.lt;have hsz3:=B3.out.size;rcases KP (fun x => decide (x.name=nm)) L with⟨k,hk,e1,e2⟩|⟨e1,e2⟩
 ·rw[e1];obtain⟨A',c',ev,hc,hm,hx⟩:=rSl.at_ Ac.fixed (by omega) R2.out;injection ev with ev1 _ ev3
  subst ev1 ev3;obtain⟨ad,b,o,cs,fk,rfl,hat⟩:=hx k hk;simp only[decide_eq_true_eq]at e2;have HFD:=hid (GT ((HL.out.mem _).1 (List.getElem_mem hk)) e2);have hpl:=hat.place;have hat3:=hat.below Ac.local_ b3;have hbl:=hat3.lt;have hlen:cs.length=9:=hat3.len;have HR:=hid (show w3.rangeAt b o cs from fun q v hq => by
   have hq1:q<cs.length:=(List.getElem?_eq_some_iff.1 hq).1;rw[hat3.cell q hq1,← hq];exact(List.getElem?_eq_getElem hq1).symm)
  have HI:=hid (show(Tryz.prog.info? 76).map (·.size)=some cs.length by rw[hlen];kernel_rfl);have HI2:=hid (show(Tryz.prog.info? 76).map (·.size)=some cs.toArray.size by rw[List.size_toArray,hlen];kernel_rfl);have HON:=hid (all_oneCell_toArray (Ac.ones _ _ _ _ hat3.reads));have HTH:=hid (Blk.there hK6 cs.toArray.size (by rw[List.size_toArray,hlen];exact Nat.le_refl _));obtain⟨W5,hW5⟩:∃W5,w3.setCells (w.heap.size+1) 0 cs.toArray.toList=W5:=⟨_,rfl⟩;have HW5:=hid hW5;have HK65:=hid (show Blk W5 (w.heap.size+1) 76 cs.toArray by rw[← hW5];exact hK6.laid cs (by rw[hlen];rfl));have HRD:=hid (show Ac W5 fk cs L[k]from Ac.local_ _ _ _ _ _ hat3.reads (fun a ha => by
   rw[← hW5];refine World.cell?_setCells_out _ _ _ _ _ (fun e _ => ?_);rcases P2.out a (hat.sub a ha)with q|q
   ·have:=HFS.out a q;omega
   ·omega))
  have HB5:=hid (show Below w.heap.size w W5 by rw[← hW5];exact Below.wide_ _ _ _ _ (by omega) (HB1.out.trans (B3.out.mono HB1.out.size)));have HSB:=hid (show∀a,a∈fk→a∈fs∨w.heap.size≤a.block from fun a ha =>(P2.out a (hat.sub a ha)).imp id (fun h => Nat.le_trans HB1.out.size h));have hki:(k:Int)<(L.length:Int):=by omega
  have hk0:¬(k:Int)<0:=by omega
  clear hat hat3 hW5 hx b3 hK6 e1 e2 hW1;go_wp2_with (first
   |(refine wpList_load_mid rfl 76 (.tmp 18) rfl b o rfl cs _ HR.out Tryz.underlying76 rfl HI.out ?_)
   |(refine wpList_store_mid rfl 76 (.tmp 4) (.tmp 19) rfl (w.heap.size+1) 0 cs.toArray rfl rfl HTH.out HI2.out HON.out ?_;rw[HW5.out]))
  refine⟨_,G4 (g:=w.heap.size+1) (v2:=.bool true) rfl _ _ _ _ _ rfl HK65.out Tryz.underlying76 rfl HI2.out rfl,.inl ⟨L[k],cs,fk,HFD.out,rfl,HRD.out,HSB.out,HB5.out⟩⟩
 ·rw[e1];have HFD:=hid (KF (all:=all) (nm:=nm) (fun x hx hn => by have:=e2 x ((HL.out.mem x).2 hx);simp[hn]at this));obtain⟨W5,hW5⟩:∃W5,w3.setCells (w.heap.size+1) 0 (#[int i64 0,int i64 0,.string ⟨#[]⟩,int i64 0,int i64 0,int i64 0,.slice none 0 0,.slice none 0 0,.slice none 0 0]:Array Value).toList =W5:=⟨_,rfl⟩;have HW5:=hid hW5;have HK65:=hid (show Blk W5 (w.heap.size+1) 76 #[int i64 0,int i64 0,.string ⟨#[]⟩,int i64 0,int i64 0,int i64 0,.slice none 0 0,.slice none 0 0,.slice none 0 0] by rw[← hW5];exact hK6.laid _ (by rfl));have HTH:=hid (Blk.there hK6 9 (by exact Nat.le_refl _));have HB5:=hid (show Below w.heap.size w W5 by rw[← hW5];exact Below.wide_ _ _ _ _ (by omega) (HB1.out.trans (B3.out.mono HB1.out.size)));have hv:=Tryz.zeroValue76;clear hW5 b3 hK6 e1 e2 hW1;go_wp2_with (first
   |(refine wpList_store_mid rfl 76 (.tmp 4) (.tmp 15) rfl (w.heap.size+1) 0 #[int i64 0,int i64 0,.string ⟨#[]⟩,int i64 0,int i64 0,int i64 0,.slice none 0 0,.slice none 0 0,.slice none 0 0] rfl rfl HTH.out (by rw[hks];rfl) (by simp[Value.oneCell']) ?_;rw[HW5.out]))
  refine⟨_,G4 (g:=w.heap.size+1) (v2:=.bool false) rfl _ _ _ _ _ rfl HK65.out Tryz.underlying76 rfl (by rw[hks];rfl) rfl,.inr ⟨HFD.out,rfl,HB5.out⟩⟩
theorem cnt_two {d:Au} {r:Ag} {b0 b1:Bool}(h:d.v= [⟨b0,[r]⟩,⟨b1,[r]⟩]):AW d= [r]:=by
 unfold AW Bj;rw[h];show Cy [r,r] = [r]
 unfold Cy;show EQ (EQ [] r) r= [r]
 have e1:EQ [] r= [r]:=by
  unfold EQ;first|rfl|simp
 rw[e1];unfold EQ;rw[if_pos (show EX [r] r=true by unfold EX;simp)]
theorem find_one {r:Ag}(h1:r.kind=1)(h2:r.length≠ -1):Fq [r] r.name=some r:=by
 refine GT ⟨0,by simp,rfl,h1,h2,?_⟩ rfl;show BJ [r] r.name 1=((0:Nat):Int)
 exact GC (by simp) (by unfold CU;simp[h1])
theorem AJ.deskQ {W:World} {p lo bq oq c0 G:Nat} {f0 f1 f2 f3:List Addr} {d:Ao} {v0 v1 v2:Value} {A:Option Addr}(h:AJ W p lo f0 f1 f2 f3 [] [] d v0 v1 v2 (.slice (some ⟨bq,oq,none⟩) G c0) (.slice A 0 0) (.slice none 0 0))(hf:∀a,a∈Az ⟨bq,oq,none⟩ G→a∈f3)(hG:0<G):Dh W p bq oq c0 G A d.desk.turn d.desk.next:=by
 have hm:∀a,a∈f3→a∈f0 ++(f1 ++(f2 ++(f3 ++([] ++ [])))):=fun a ha => List.mem_append_right _ (List.mem_append_right _ (List.mem_append_right _ (List.mem_append_left _ ha)))
 have h0:=hm _ (hf _ (Ce hG));exact⟨(h.k.cell 15).trans rfl,(h.k.cell 16).trans rfl,(h.k.cell 17).trans rfl,(h.k.cell 18).trans rfl,(h.k.cell 19).trans rfl,fun i => h.k.frozen i,fun i hi => h.m.free _ (hm _ (hf _ (Ce hi))),h.k.lt,h.there _ h0,h.ne _ h0⟩
theorem EY(b o n:Nat):(Az ⟨b,o,none⟩ n).Nodup:=CB rfl
def Fy(k:AH)(G g:Nat)(t:An)(n:Nat):AH:={ k with queues:=Dr G g [t],next:=(n:Int)+1 }
theorem tk_row {W:World} {bt c:Nat} {t:An} {base:Nat}(h:Aj 4 103 Ah W base (.slice (some ⟨bt,0,none⟩) 1 c) [t] []):W.rangeAt bt 0 (By t)∧W.there bt 0 4∧bt<W.heap.size∧base≤bt∧1≤c∧c≤9223372036854775807∧rSl 4 Ah W (Az ⟨bt,0,none⟩ 4) (.slice (some ⟨bt,0,none⟩) 1 c) [t]:=by
 obtain⟨bt',e,hb,hl,hc,hcm,cur,hk,hcs⟩:=h.blk;injection e with e
 injection e with e1
 subst e1;obtain⟨gs,hr,-⟩:=h.reads;obtain⟨A,c',e,-,-,h3⟩:=hr;injection e with ea _ ec
 subst ea ec;rcases h3 with⟨h3,-⟩|⟨ad,css,fss,ea,l1,l2,ef,h3⟩
 ·cases h3
 ·injection ea with ea
  subst ea;obtain⟨m1,m2,m3,m4,m5⟩:=h3 0 (by simp);obtain⟨m5,m6,o0,o1,o2,o3⟩:=m5;have hcell:∀q v,(By t)[q]? =some v→W.cell? ⟨bt,0+q,none⟩=some v:=fun q v hq => by
   have hq1:q<(By t).length:=(List.getElem?_eq_some_iff.1 hq).1;have e4:css[0] =By t:=m5;have:=m4 q (by rw[e4];exact hq1);rw[DH]at this;rw[show 0+q=0+(0 * 4+q) by omega,this,← hq,List.getElem?_eq_getElem hq1];congr 1
   simp only[e4]
  refine⟨hcell,fun q hq => ?_,hl,hb,hc,hcm,some ⟨bt,0,none⟩,c,rfl,hc,hcm,.inr ⟨⟨bt,0,none⟩,[By t],[[]],rfl,rfl,rfl,by simp,fun i hi => ?_⟩⟩
  ·exact⟨by rw[Nat.zero_add,hk.cell,Array.getElem?_eq_getElem (by omega)];rfl,by rw[Nat.zero_add];exact hk.frozen q⟩
  ·match i,hi with
   |0,_ => exact⟨by simp,by simp,rfl,fun j hj =>(by
     rw[DH];have:=hcell j _ (List.getElem?_eq_getElem hj);simpa using this),⟨rfl,rfl,o0,o1,o2,o3⟩⟩
   |k+1,hi => exact absurd hi (by simp)
theorem AJ.queued {w w':World} {p lo bq oq c0 G g n bt c:Nat} {f0 f1 f2:List Addr} {d:Ao} {v0 v1 v2:Value} {A:Option Addr} {t:An}(h:AJ w p lo f0 f1 f2 (Az ⟨bq,oq,none⟩ G) [] [] d v0 v1 v2 (.slice (some ⟨bq,oq,none⟩) G c0) (.slice A 0 0) (.slice none 0 0))(hE:Cv d.desk G)
  (hs:∀i,i<G→∃A,w.cell? ⟨bq,oq+i,none⟩=some (.slice A 0 0)) (hg:g<G) (hGc:G≤c0) (hcm:c0≤9223372036854775807) (hlo:lo≤w.heap.size) (hn:n≤999999999) (hq:FH p bq oq g n bt c t w w') :
  AJ w' p lo f0 f1 f2 (Az ⟨bq,oq,none⟩ G ++ Az ⟨bt,0,none⟩ 4) [] [] ⟨d.world,Fy d.desk G g t n⟩ v0 v1 v2 (.slice (some ⟨bq,oq,none⟩) G c0) (.slice A 0 0) (.slice none 0 0)∧AQ w' bq oq G g (.slice (some ⟨bt,0,none⟩) 1 c)∧w'.rangeAt bt 0 (By t)∧w'.there bt 0 4∧bt<w'.heap.size∧w.heap.size≤bt∧1≤c∧c≤9223372036854775807∧rSl 4 Ah w' (Az ⟨bt,0,none⟩ 4) (.slice (some ⟨bt,0,none⟩) 1 c) [t]∧Below lo w w':=by
 obtain⟨v,ho,hb,rfl⟩:=hq.ex;have dq:=h.deskQ (fun a ha => ha) (by omega);have lq:lo≤bq:=h.m.from_ ⟨bq,oq+g,none⟩ (List.mem_append_right _ (List.mem_append_right _ (List.mem_append_right _ (List.mem_append_left _ (Ce hg)))));have z0:bq<w.heap.size:=dq.lb;have zp:p<w.heap.size:=dq.lp;obtain⟨r1,r2,r3,r4,r5,r6,r7⟩:=tk_row ho;have sl:AQ v bq oq G g (.slice (Classical.choose (hs g hg)) 0 0):=⟨(hb.cell (p:=⟨bq,oq+g,none⟩) z0).trans (Classical.choose_spec (hs g hg)),fun i hi _ => by
  obtain⟨A',h1⟩:=hs i hi;exact⟨A',0,(hb.cell (p:=⟨bq,oq+i,none⟩) z0).trans h1,by omega⟩⟩
 obtain⟨w1,hw1⟩:∃w1,v.setCell ⟨bq,oq+g,none⟩ (.slice (some ⟨bt,0,none⟩) 1 c)=w1:=⟨_,rfl⟩;have wr1:AC [⟨bq,oq+g,none⟩] v w1:=by rw[← hw1];exact(AC.refl _ _).setCell (by simp) _
 have wr2:AC [⟨p,19,none⟩] w1 (w1.setCell ⟨p,19,none⟩ (int i64 ((n:Int)+1))):=(AC.refl _ _).setCell (by simp) _;have sl1:AQ w1 bq oq G g (.slice (some ⟨bt,0,none⟩) 1 c):=by rw[← hw1];exact sl.put _
 have zv:w.heap.size≤v.heap.size:=hb.size;have z1:v.heap.size≤w1.heap.size:=wr1.size;rw[hw1];obtain⟨w2,hw2⟩:∃w2,w1.setCell ⟨p,19,none⟩ (int i64 ((n:Int)+1))=w2:=⟨_,rfl⟩;rw[hw2]at wr2⊢;have z2:w1.heap.size≤w2.heap.size:=wr2.size;have sl2:AQ w2 bq oq G g (.slice (some ⟨bt,0,none⟩) 1 c):=sl1.wrote wr2 (fun a ha e => by rw[List.mem_singleton.1 ha]at e;exact dq.ne e.symm) (by omega);have hbt:∀q,w2.cell? ⟨bt,q,none⟩=v.cell? ⟨bt,q,none⟩:=fun q =>(wr2.cell ⟨bt,q,none⟩ (by simp <;> omega) (by show bt<_;omega)).trans (wr1.cell ⟨bt,q,none⟩ (by simp <;> omega) (by show bt<_;omega))
 have fbt:∀q,w2.frozen? ⟨bt,q,none⟩=v.frozen? ⟨bt,q,none⟩:=fun q =>(wr2.frozen ⟨bt,q,none⟩ (by show bt<_;omega)).trans (wr1.frozen ⟨bt,q,none⟩ (by show bt<_;omega))
 have r1':w2.rangeAt bt 0 (By t):=fun q x hx =>(hbt (0+q)).trans (r1 q x hx)
 have r2':w2.there bt 0 4:=fun q hq =>⟨by rw[hbt];exact(r2 q hq).1,by rw[fbt];exact(r2 q hq).2⟩
 have r7':rSl 4 Ah w2 (Az ⟨bt,0,none⟩ 4) (.slice (some ⟨bt,0,none⟩) 1 c) [t]:=rSl.keep Ah.local_ r7 (fun a ha => by
  obtain⟨q,-,rfl⟩:=AY.1 ha;rw[DH];exact hbt _)
 have ht:=h.there;have hS:AT (f0 ++(f1 ++ f2)) w w2:=fun a ha => by
  have ha2:a∈f0 ++(f1 ++(f2 ++(Az ⟨bq,oq,none⟩ G ++([] ++ [])))):=by
   simp only[List.mem_append]at ha⊢;rcases ha with q|q|q <;> simp[q]
  have hl:=ht a ha2;have hn1:a≠⟨bq,oq+g,none⟩:=fun e => by
   have hm:Ak lo w ((f0 ++(f1 ++ f2)) ++(Az ⟨bq,oq,none⟩ G ++([] ++ []))):=by have:=h.m;simp only[List.append_assoc]at this⊢;exact this
   exact hm.apart a ha (List.mem_append_left _ (e ▸ Ce hg))
  have hn2:a≠⟨p,19,none⟩:=fun e => h.ne a ha2 (by rw[e])
  exact(wr2.cell a (by simpa using hn2) (by omega)).trans ((wr1.cell a (by simpa using hn1) (by omega)).trans (hb.cell hl))
 have hF:∀a,a.block<w.heap.size→w2.frozen? a=w.frozen? a:=fun a hl =>(wr2.frozen a (by omega)).trans ((wr1.frozen a (by omega)).trans (hb.frozen hl))
 have hT3:∀a,a∈Az ⟨bq,oq,none⟩ G→a∈f0 ++(f1 ++(f2 ++(Az ⟨bq,oq,none⟩ G ++([] ++ [])))):=fun a ha => List.mem_append_right _ (List.mem_append_right _ (List.mem_append_right _ (List.mem_append_left _ ha)))
 have hm3:Ak lo w2 (Az ⟨bq,oq,none⟩ G):=⟨EY _ _ _,fun a ha => h.m.from_ a (hT3 a ha),fun a ha =>(hF a (ht a (hT3 a ha))).trans (h.m.free a (hT3 a ha))⟩;have hm4:Ak lo w2 (Az ⟨bt,0,none⟩ 4):=⟨EY _ _ _,fun a ha => by rw[BN ha];omega,fun a ha => by
  obtain⟨q,hq,rfl⟩:=AY.1 ha;rw[DH];exact(r2' q hq).2⟩
 have hk:Blk w2 p 38 (Bg ⟨d.world,Fy d.desk G g t n⟩ v0 v1 v2 (.slice (some ⟨bq,oq,none⟩) G c0) (.slice A 0 0) (.slice none 0 0)).toArray:=by
  have k0:=h.k.below hb h.k.lt;have k1:Blk w1 p 38 _:=(wr1.block p (by omega) (fun a ha e => by rw[List.mem_singleton.1 ha]at e;exact dq.ne e)).trans k0;have k2:=k1.set_ 19 (int i64 ((n:Int)+1));rw[hw2]at k2;exact k2
 refine⟨h.desk_ (k:=Fy d.desk G g t n) hk h.o1 (by show okI ((n:Int)+1);unfold okI;omega) hS (fun a ha => hF a (ht a (by
   simp only[List.mem_append]at ha⊢;rcases ha with q|q|q <;> simp[q]))) (F1 sl2 hg hGc hcm r7') ?_ ?_ ?_ ?_ ?_,sl2,r1',r2',by omega,r4,r5,r6,r7',?_⟩
 ·rw[show(Fy d.desk G g t n).aside = []from hE.asd];exact⟨A,0,rfl,Nat.le_refl _,by omega,.inl ⟨rfl,rfl⟩⟩
 ·rw[show(Fy d.desk G g t n).answers = []from hE.an];exact⟨none,0,rfl,Nat.le_refl _,by omega,.inl ⟨rfl,rfl⟩⟩
 ·have:=Ak.cat2 hm3 hm4 (fun a ha hb => by have h1:=BN ha;have h2:=BN hb;omega);simpa using this
 ·intro a ha hb;have hb:a∈Az ⟨bq,oq,none⟩ G∨a∈Az ⟨bt,0,none⟩ 4:=by simpa using hb
  have ha2:a∈f0 ++(f1 ++(f2 ++(Az ⟨bq,oq,none⟩ G ++([] ++ [])))):=by
   simp only[List.mem_append]at ha⊢;rcases ha with q|q|q <;> simp[q]
  rcases hb with hb|hb
  ·have hm:Ak lo w ((f0 ++(f1 ++ f2)) ++(Az ⟨bq,oq,none⟩ G ++([] ++ []))):=by have:=h.m;simp only[List.append_assoc]at this⊢;exact this
   exact hm.apart a ha (List.mem_append_left _ hb)
  ·have h1:=ht a ha2;have h2:=BN hb;omega
 ·intro a ha;have ha:a∈Az ⟨bq,oq,none⟩ G∨a∈Az ⟨bt,0,none⟩ 4:=by simpa using ha
  rcases ha with ha|ha
  ·rw[BN ha];exact dq.ne
  ·rw[BN ha];omega
 ·have b1:Below lo w w1:=(hb.mono hlo).trans (wr1.below (by omega) (fun a ha => by rw[List.mem_singleton.1 ha];exact lq));exact b1.trans (wr2.below (by omega) (fun a ha => by rw[List.mem_singleton.1 ha];exact h.lp))
theorem AJ.answered {w w':World} {p lo bq oq c0 G g n bt c:Nat} {f0 f1 f2:List Addr} {d:Ao} {v0 v1 v2:Value} {A:Option Addr} {t:An} {y:UInt8}(h:AJ w p lo f0 f1 f2 (Az ⟨bq,oq,none⟩ G ++ Az ⟨bt,0,none⟩ 4) [] [] ⟨d.world,Fy d.desk G g t n⟩ v0 v1 v2 (.slice (some ⟨bq,oq,none⟩) G c0) (.slice A 0 0) (.slice none 0 0))(hE:Cv d.desk G)
  (hg:g<G) (hGc:G≤c0) (hcm:c0≤9223372036854775807) (hc:c≤9223372036854775807) (hlo:lo≤w.heap.size) (hnx:d.desk.next=(n:Int)) (hq:Gq p bq oq G g bt c A (n:Int) d.desk.turn y w w') :
  ∃A8 c8 h8,AJ w' p lo f0 f1 f2 (Az ⟨bq,oq,none⟩ G) [] h8 (CQ d y) v0 v1 v2 (.slice (some ⟨bq,oq,none⟩) G c0) (.slice A 0 0) (.slice A8 1 c8)∧Below lo w w':=by
 obtain⟨x1,x2,A8,c8,h8,wr1,sl1,b12,ra,ma,rfl⟩:=hq;have dq:=h.deskQ (fun a ha => List.mem_append_left _ ha) (by omega);have hT3:∀a,a∈Az ⟨bq,oq,none⟩ G ++ Az ⟨bt,0,none⟩ 4→a∈f0 ++(f1 ++(f2 ++((Az ⟨bq,oq,none⟩ G ++ Az ⟨bt,0,none⟩ 4) ++([] ++ [])))):=fun a ha => List.mem_append_right _ (List.mem_append_right _ (List.mem_append_right _ (List.mem_append_left _ ha)))
 have ht:=h.there;have hlb:=h.ne;have lq:lo≤bq:=h.m.from_ ⟨bq,oq+g,none⟩ (hT3 _ (List.mem_append_left _ (Ce hg)));have lt:lo≤bt:=h.m.from_ ⟨bt,0+0,none⟩ (hT3 _ (List.mem_append_right _ (Ce (by omega))));have nt:bt≠p:=hlb ⟨bt,0+0,none⟩ (hT3 _ (List.mem_append_right _ (Ce (by omega))));have zp:p<w.heap.size:=dq.lp;have z1:w.heap.size≤x1.heap.size:=wr1.size;have wr2:AC [⟨p,16,none⟩] x1 (x1.setCell ⟨p,16,none⟩ (.slice A 0 0)):=(AC.refl _ _).setCell (by simp) _;obtain⟨y1,hy1⟩:∃y1,x1.setCell ⟨p,16,none⟩ (.slice A 0 0)=y1:=⟨_,rfl⟩;rw[hy1]at b12 wr2;have z2:x1.heap.size≤y1.heap.size:=wr2.size;have z3:y1.heap.size≤x2.heap.size:=b12.size;have wr4:AC [⟨p,17,none⟩] x2 (x2.setCell ⟨p,17,none⟩ (.slice A8 1 c8)):=(AC.refl _ _).setCell (by simp) _;obtain⟨y2,hy2⟩:∃y2,x2.setCell ⟨p,17,none⟩ (.slice A8 1 c8)=y2:=⟨_,rfl⟩;rw[hy2]at wr4⊢;have z4:x2.heap.size≤y2.heap.size:=wr4.size;have hpn:∀a,a∈DV bq oq G bt→a.block≠p:=fun a ha e => by
  rcases Dm ha with q|q
  ·exact dq.ne (q ▸ e)
  ·exact nt (q ▸ e)
 have hcell:∀a:Addr,a.block<w.heap.size→a.block≠p→a∉DV bq oq G bt→y2.cell? a=w.cell? a:=fun a hl hp hr =>
  (wr4.cell a (by simp;intro e;exact hp (by rw[e])) (by omega)).trans ((b12.cell (by omega)).trans ((wr2.cell a (by simp;intro e;exact hp (by rw[e])) (by omega)).trans (wr1.cell a hr hl)))
 have hfr:∀a:Addr,a.block<w.heap.size→y2.frozen? a=w.frozen? a:=fun a hl =>(wr4.frozen a (by omega)).trans ((b12.frozen (by omega)).trans ((wr2.frozen a (by omega)).trans (wr1.frozen a hl)))
 have hf012:∀a,a∈f0 ++(f1 ++ f2)→a∈f0 ++(f1 ++(f2 ++((Az ⟨bq,oq,none⟩ G ++ Az ⟨bt,0,none⟩ 4) ++([] ++ [])))):=fun a ha => by
  simp only[List.mem_append]at ha⊢;rcases ha with q|q|q <;> simp[q]
 have hm:Ak lo w ((f0 ++(f1 ++ f2)) ++((Az ⟨bq,oq,none⟩ G ++ Az ⟨bt,0,none⟩ 4) ++([] ++ []))):=by have:=h.m;simp only[List.append_assoc]at this⊢;exact this
 have hS:AT (f0 ++(f1 ++ f2)) w y2:=fun a ha => hcell a (ht a (hf012 a ha)) (hlb a (hf012 a ha)) (fun hr => hm.apart a ha (List.mem_append_left _ hr))
 have hk:Blk y2 p 38 (Bg (CQ d y) v0 v1 v2 (.slice (some ⟨bq,oq,none⟩) G c0) (.slice A 0 0) (.slice A8 1 c8)).toArray:=by
  have k1:Blk x1 p 38 _:=(wr1.block p zp hpn).trans h.k;have k2:=k1.set_ 16 (.slice A 0 0);rw[hy1]at k2;have k3:=(k2.below b12 (by omega)).set_ 17 (.slice A8 1 c8);rw[hy2]at k3;show Blk _ _ _ (Bg ⟨d.world,{ d.desk with answers:=[⟨d.desk.next,0,d.desk.turn,[y]⟩],next:=d.desk.next+1 }⟩ v0 v1 v2 (.slice (some ⟨bq,oq,none⟩) G c0) (.slice A 0 0) (.slice A8 1 c8)).toArray
  rw[hnx];exact k3
 have sl2:AQ y2 bq oq G g (.slice (some ⟨bt,0,none⟩) 0 c):=by
  have s1:=sl1.wrote wr2 (fun a ha e => by rw[List.mem_singleton.1 ha]at e;exact dq.ne e.symm) (by have:=dq.lb;omega);have s2:=s1.below b12 (by have:=dq.lb;omega);exact s2.wrote wr4 (fun a ha e => by rw[List.mem_singleton.1 ha]at e;exact dq.ne e.symm) (by have:=dq.lb;omega)
 have ra2:rSl 4 AA y2 h8 (.slice A8 1 c8) [⟨(n:Int),0,d.desk.turn,[y]⟩]:=rSl.keep AA.local_ ra (wr4.same (rSl.there AA.fixed ra) (fun a ha hq => by
  have:=ma.from_ a ha;rw[List.mem_singleton.1 hq]at this;have:w.heap.size≤p:=this;omega))
 have hm3:Ak lo y2 (Az ⟨bq,oq,none⟩ G):=⟨EY _ _ _,fun a ha => h.m.from_ a (hT3 a (List.mem_append_left _ ha)),fun a ha =>(hfr a (ht a (hT3 a (List.mem_append_left _ ha)))).trans (h.m.free a (hT3 a (List.mem_append_left _ ha)))⟩;have ma2:Ak lo y2 h8:=(ma.mono hlo).keep (fun a ha => by rw[← hy2,World.frozen?_setCell]);have hq2:(CQ d y).desk.queues =Dr G g []:=by rw[oneQ_nil];exact hE.qs
 refine⟨A8,c8,h8,h.desk_ (k:=(CQ d y).desk) hk h.o1 ?_ hS (fun a ha => hfr a (ht a (hf012 a ha))) ?_ ?_ ?_ ?_ ?_ ?_,?_⟩
 ·have:=h.o2;show okI (d.desk.next+1)
  rw[hnx];exact this
 ·rw[hq2];have:=F1 (h:=[]) sl2 hg hGc hcm (Fv hc);rwa [List.append_nil]at this
 ·rw[show(CQ d y).desk.aside = []from hE.asd];exact⟨A,0,rfl,Nat.le_refl _,by omega,.inl ⟨rfl,rfl⟩⟩
 ·show rSl 4 AA y2 h8 (.slice A8 1 c8) [⟨d.desk.next,0,d.desk.turn,[y]⟩]
  rw[hnx];exact ra2
 ·have:=Ak.cat2 hm3 ma2 (fun a ha hb => by have h1:=ht a (hT3 a (List.mem_append_left _ ha));have h2:=ma.from_ a hb;omega);simpa using this
 ·intro a ha hb;have hb:a∈Az ⟨bq,oq,none⟩ G∨a∈h8:=by simpa using hb
  rcases hb with hb|hb
  ·exact hm.apart a ha (List.mem_append_left _ (List.mem_append_left _ hb))
  ·have h1:=ht a (hf012 a ha);have h2:=ma.from_ a hb;omega
 ·intro a ha;have ha:a∈Az ⟨bq,oq,none⟩ G∨a∈h8:=by simpa using ha
  rcases ha with ha|ha
  ·rw[BN ha];exact dq.ne
  ·have h2:=ma.from_ a ha;omega
 ·have b1:Below lo w x1:=wr1.below hlo (fun a ha => by
   rcases Dm ha with q|q <;> rw[q] <;> assumption)
  have b2:Below lo w y1:=b1.trans (wr2.below (by omega) (fun a ha => by rw[List.mem_singleton.1 ha];exact h.lp));have b3:Below lo w x2:=b2.trans (b12.mono (by omega));exact b3.trans (wr4.below (by omega) (fun a ha => by rw[List.mem_singleton.1 ha];exact h.lp))
theorem FH.far {p bq oq g n bt c:Nat} {t:An} {w w':World}(h:FH p bq oq g n bt c t w w')(k:Nat)(hk:k<w.heap.size)(hp:k≠p)(hq:k≠bq):(∀q,w'.cell? ⟨k,q,none⟩=w.cell? ⟨k,q,none⟩):=fun q => by
 obtain⟨v1,-,hb,rfl⟩:=h.ex;rw[World.cell?_setCell_other _ _ _ _ (fun e => hp (by injection e with e;exact e.symm)),World.cell?_setCell_other _ _ _ _ (fun e => hq (by injection e with e;exact e.symm))];exact hb.cell (p:=⟨k,q,none⟩) hk
structure Fi (W:World) (p lo bq oq c0 G g n bt c:Nat) (f0 f1 f2:List Addr) (d:Ao) (v0 v1 v2:Value) (A:Option Addr) (t:An):Prop where
 arc:AJ W p lo f0 f1 f2 (Az ⟨bq,oq,none⟩ G ++ Az ⟨bt,0,none⟩ 4) [] [] ⟨d.world,Fy d.desk G g t n⟩ v0 v1 v2 (.slice (some ⟨bq,oq,none⟩) G c0) (.slice A 0 0) (.slice none 0 0)
 sl:AQ W bq oq G g (.slice (some ⟨bt,0,none⟩) 1 c)
 rg:W.rangeAt bt 0 (By t)
 th:W.there bt 0 4
 lt:bt<W.heap.size
 c1:1≤c
 cm:c≤9223372036854775807
 row:rSl 4 Ah W (Az ⟨bt,0,none⟩ 4) (.slice (some ⟨bt,0,none⟩) 1 c) [t]
 nq:bt≠bq
 lb:bq<W.heap.size
theorem Fi.below {W W':World} {p lo bq oq c0 G g n bt c:Nat} {f0 f1 f2:List Addr} {d:Ao} {v0 v1 v2:Value} {A:Option Addr} {t:An}(h:Fi W p lo bq oq c0 G g n bt c f0 f1 f2 d v0 v1 v2 A t)(hb:Below W.heap.size W W'):Fi W' p lo bq oq c0 G g n bt c f0 f1 f2 d v0 v1 v2 A t :=
 ⟨h.arc.below hb,h.sl.below hb h.lb,fun q v hq =>(hb.cell (p:=⟨bt,0+q,none⟩) h.lt).trans (h.rg q v hq),fun q hq =>⟨by rw[hb.cell (p:=⟨bt,0+q,none⟩) h.lt];exact(h.th q hq).1,by rw[hb.frozen (p:=⟨bt,0+q,none⟩) h.lt];exact(h.th q hq).2⟩,Nat.lt_of_lt_of_le h.lt hb.size,h.c1,h.cm,rSl.below Ah.local_ Ah.fixed h.row hb,h.nq,Nat.lt_of_lt_of_le h.lb hb.size⟩
theorem Fi.ne {W:World} {p lo bq oq c0 G g n bt c:Nat} {f0 f1 f2:List Addr} {d:Ao} {v0 v1 v2:Value} {A:Option Addr} {t:An}(h:Fi W p lo bq oq c0 G g n bt c f0 f1 f2 d v0 v1 v2 A t):bt≠p :=
 h.arc.ne ⟨bt,0+0,none⟩ (List.mem_append_right _ (List.mem_append_right _ (List.mem_append_right _ (List.mem_append_left _ (List.mem_append_right _ (Ce (by omega)))))))
theorem Fi.away {W:World} {p lo bq oq c0 G g n bt c:Nat} {f0 f1 f2:List Addr} {d:Ao} {v0 v1 v2:Value} {A:Option Addr} {t:An}(h:Fi W p lo bq oq c0 G g n bt c f0 f1 f2 d v0 v1 v2 A t)(a:Addr)(ha:a∈f0 ++(f1 ++ f2)∨W.heap.size≤a.block):a∉DV bq oq G bt∧a.block≠p:=by
 rcases ha with ha|ha
 ·have hm:Ak lo W ((f0 ++(f1 ++ f2)) ++((Az ⟨bq,oq,none⟩ G ++ Az ⟨bt,0,none⟩ 4) ++([] ++ []))):=by have:=h.arc.m;simp only[List.append_assoc]at this⊢;exact this
  refine⟨fun hr => hm.apart a ha (List.mem_append_left _ hr),h.arc.ne a ?_⟩;simp only[List.mem_append]at ha⊢;rcases ha with q|q|q <;> simp[q]
 ·have h1:=h.lt;have h2:=h.lb;have h3:=h.arc.k.lt;refine⟨fun hr => ?_,by omega⟩;rcases Dm hr with q|q <;> omega
theorem queue_a {w:World}(p lo bq oq c0 G g n:Nat)(f0 f1 f2:List Addr)(d:Ao)(v0 v1 v2:Value)(A:Option Addr)(h:AJ w p lo f0 f1 f2 (Az ⟨bq,oq,none⟩ G) [] [] d v0 v1 v2 (.slice (some ⟨bq,oq,none⟩) G c0) (.slice A 0 0) (.slice none 0 0))(hE:Cv d.desk G)
  (hs:∀i,i<G→∃A,w.cell? ⟨bq,oq+i,none⟩=some (.slice A 0 0)) (hg:g<G) (hGc:G≤c0) (hcm:c0≤9223372036854775807) (hG:G≤1000) (hlo:lo≤w.heap.size) (hsb:shB d.world.s.sh=true) (nm:ByteArray) (hnm:BU nm.data.toList=true) (hgs:(g:Int)=BT d.world.s.g nm) (hnx:d.desk.next=(n:Int)) (hn1:1≤n) (hn2:n≤999999999) :
  Calls Tryz.prog 31 #[.pointer (some ⟨p,15,none⟩),.agg #[int i64 d.world.s.g,int i64 d.world.s.c,int i64 d.world.s.data,int i64 d.world.s.p,int i64 d.world.s.rows,int i64 d.world.s.cap,int i64 d.world.s.b,int i64 d.world.s.q,int i64 d.world.s.t],int i64 1,.string nm,int i64 (g:Int)] w fun e w' => e= .returned (.tuple #[int i64 (n:Int),int i64 0])∧∃bt c,FH p bq oq g n bt c (tkR n nm g) w w'∧Fi w' p lo bq oq c0 G g n bt c f0 f1 f2 d v0 v1 v2 A (tkR n nm g)∧Below lo w w':=by
 have dq:=h.deskQ (fun a ha => ha) (by omega);obtain⟨A',hq⟩:=hs g hg;have h19:=dq.k19;rw[hnx]at h19;refine(queue_c p bq oq c0 G g n A' d.world.s.sh hsb nm hnm hgs hg w hGc dq.k15 h19 hq (dq.fp 19) (dq.fq g hg) dq.lp dq.lb dq.ne hn1 hn2 (by omega)).mono ?_;rintro e w' ⟨rfl,bt,c,hQ⟩;obtain⟨r1,r2,r3,r4,r5,r6,r7,r8,r9,r10⟩:=h.queued hE hs hg hGc hcm hlo hn2 hQ;have hlb:=dq.lb;exact⟨rfl,bt,c,hQ,⟨r1,r2,r3,r4,r5,r7,r8,r9,by omega,by
  have:=(r1.deskQ (fun a ha => List.mem_append_left _ ha) (by omega)).lb;exact this⟩,r10⟩
theorem home_a(d:Ao)(hok:d.world.s.sh.Ok)(nm:ByteArray)(hn:nm.size≤1000000)(w:World) :
  Calls Tryz.prog 32 #[.agg #[int i64 d.world.s.g,int i64 d.world.s.c,int i64 d.world.s.data,int i64 d.world.s.p,int i64 d.world.s.rows,int i64 d.world.s.cap,int i64 d.world.s.b,int i64 d.world.s.q,int i64 d.world.s.t],.string nm] w fun e w' => e= .returned (int i64 (BT d.world.s.g nm))∧Below w.heap.size w w':=GW d.world.s.sh hok nm hn w
theorem answer_a {w:World}(p lo bq oq c0 G g n bt c:Nat)(f0 f1 f2:List Addr)(d:Ao)(v0 v1 v2:Value)(A:Option Addr)(nm:ByteArray)(h:Fi w p lo bq oq c0 G g n bt c f0 f1 f2 d v0 v1 v2 A (tkR n nm g))(hg:g<G)(hGc:G≤c0)(hcm:c0≤9223372036854775807)(hG:G≤1000)(y:UInt8)(av:Value)(fy:List Addr)(hy:Ap w fy av [y])(hfy:∀a,a∈fy→a∉DV bq oq G bt∧a.block≠p)(hn:n≤999999999) :
  Calls Tryz.prog 34 #[.pointer (some ⟨p,15,none⟩),int i64 (n:Int),int i64 0,av] w fun e w' => e= .returned (.bool true)∧Gq p bq oq G g bt c A (n:Int) d.desk.turn y w w' :=
 answer_c p bq oq c0 G g bt c A (tkR n nm g) d.desk.turn ((n:Int)+1) y av fy w (h.arc.deskQ (fun a ha => List.mem_append_left _ ha) (by omega)) h.sl hg hG hGc hcm h.rg h.th h.lt h.c1 h.cm h.row h.ne h.nq hy hfy (by show okI (n:Int);unfold okI;omega) h.arc.o1
theorem item_hit(p:Nat)(fs:List Addr)(d:Au)(nm:ByteArray)(y:UInt8)(w:World)(h:AtW w p fs d)(hsm:(Bj d).length≤1000000)(hc:AW d= [BK nm y])(hnm:nm.size≤1000000) :
  Calls Tryz.prog 33 #[.pointer (some ⟨p,0,none⟩),.string nm] w fun e w' =>∃Q0 Q1 Q2 q0 q1 q2 fy,e= .returned (.tuple #[.agg #[int i64 1,int i64 1,.string nm,int i64 1,int i64 0,int i64 0,.slice Q0 0 q0,.slice Q1 1 q1,.slice Q2 0 q2],.bool true])∧Ap w' fy (.slice Q1 1 q1) [y]∧(∀a,a∈fy→a∈fs∨w.heap.size≤a.block)∧Below w.heap.size w w':=by
 refine(item_c p fs d nm w h hsm (fun r hr => by rw[hc]at hr;rw[List.mem_singleton.1 hr];exact hnm)).mono ?_;have hf:Fq (AW d) nm=some (BK nm y):=by rw[hc];exact find_one (r:=BK nm y) rfl (by show(1:Int)≠ -1;decide)
 rw[hf];rintro e w' (⟨x,cs,f,ex,rfl,hr,hm,hb⟩|⟨ex,-⟩)
 ·injection ex with ex
  subst ex;obtain⟨u0,u1,u2,g0,g1,g2,rfl,rfl,-,-,-,-,-,-,s0,s1,s2⟩:=hr;obtain⟨Q0,q0,rfl,-⟩:=rSl.head s0;obtain⟨Q1,q1,rfl,-⟩:=rSl.head s1;obtain⟨Q2,q2,rfl,-⟩:=rSl.head s2;exact⟨Q0,Q1,Q2,q0,q1,q2,g1,rfl,s1,fun a ha => hm a (by simp[ha]),hb⟩
 ·cases ex
def ReadR(d:Ao)(n:Nat)(y:UInt8)(w:World)(e:Ending)(w':World):Prop:=∃cs' f',e= .returned (.agg (int i64 0 :: int i64 (n:Int) :: cs').toArray)∧Af w' f' cs' (CQ d y)∧Below w.heap.size w w'
theorem Jt(d:Ao)(G n:Nat)(hE:Cv d.desk G)(hG:(G:Int)=d.world.s.g+d.world.s.c)(hsb:shB d.world.s.sh=true)(hsm:D3 d.world)(hdn:d.world.down=false)(hcode:C6 (d.desk.next - 1) d=0)(hnx:d.desk.next=(n:Int))(hn1:1≤n)(hn2:n≤999999999)(nm:ByteArray)(hnm:BU nm.data.toList=true)(y:UInt8)(hrs:(Bj d.world).length≤1000000)(hc:AW d.world= [BK nm y])(cs:List Value)(f:List Addr)(w:World)(h:Af w f cs d) :
  Calls Tryz.prog 12 #[.agg cs.toArray,.string nm] w (ReadR d n y w):=by
 have hl20:cs.length=20:=Af.wide _ _ _ _ h;have hok:=CJ hsb;have hGg:=hok.g;have hGc:=hok.c;have hns:nm.size≤8:=Ec hnm;have hG1:G≤20:=by simp only[BO.sh]at hGg hGc;omega
 obtain⟨hh1,hh2⟩:=homeF_in (groups:=d.world.s.g) (by simp only[BO.sh]at hGg;omega) nm;obtain⟨g,hgs⟩:∃g:Nat,BT d.world.s.g nm=(g:Int):=⟨(BT d.world.s.g nm).toNat,by omega⟩;have hgG:g<G:=by simp only[BO.sh]at hGg hGc;omega
 obtain⟨W2,hW2⟩:∃W2,(w.alloc (.cells cs.toArray 38)).alloc (.cells (Ca 0) 40)=W2:=⟨_,rfl⟩;have KA:=hid (show Blk W2 w.heap.size 38 cs.toArray by rw[← hW2];exact(Blk.new w _ _).alloc _);have KB:=hid (show Blk W2 (w.heap.size+1) 40 (Ca 0) by rw[← hW2];exact Blk.new1 w _ _ _);have b2:Below w.heap.size w W2:=by rw[← hW2];exact Aa (Aa (Below.refl _ _) _) _
 have HB2:=hid b2;have HS2:=hid (show W2.heap.size=w.heap.size+2 by rw[← hW2];simp);have HRR:=hid (fun(W:World) (hW:Below W2.heap.size W2 W) => Aw.below Af.local_ Af.fixed (Aw.below Af.local_ Af.fixed h b2) hW);have HRG:=hid (fun(W:World) (hW:Below W2.heap.size W2 W) => Blk.range (KA.out.below hW KA.out.lt) 0 cs (show List.take cs.length cs=cs from List.take_length));have hsh9:List.take 9 cs= [int i64 d.world.s.g,int i64 d.world.s.c,int i64 d.world.s.data,int i64 d.world.s.p,int i64 d.world.s.rows,int i64 d.world.s.cap,int i64 d.world.s.b,int i64 d.world.s.q,int i64 d.world.s.t]:=by
  obtain⟨c1,c2,g1,g2,rfl,-,hw,hk⟩:=h.parts;obtain⟨v0,v1,v2,q0,q1,q2,rfl,-,-,-⟩:=hw.parts;rfl
 have HRS:=hid (fun(W:World) (hW:Below W2.heap.size W2 W) => Blk.range (KA.out.below hW KA.out.lt) 0 [int i64 d.world.s.g,int i64 d.world.s.c,int i64 d.world.s.data,int i64 d.world.s.p,int i64 d.world.s.rows,int i64 d.world.s.cap,int i64 d.world.s.b,int i64 d.world.s.q,int i64 d.world.s.t] hsh9);have hIA:=hid (show(Tryz.prog.info? 38).map (·.size)=some cs.length by rw[hl20];kernel_rfl);have HNF:=hid (fun(W:World) => C7 nm W (by omega));rw[show Bm nm.data.toList=0 by unfold Bm;rw[if_pos hnm]]at HNF;have HHM:=hid (fun(W:World) => home_a d hok nm (by omega) W);rw[hgs]at HHM;have HE:=hid (And.intro hE (And.intro hsm (And.intro hdn hcode)));have HX:=hid (And.intro hsb (And.intro hnm (And.intro hgs.symm (And.intro hnx (And.intro hrs hc)))));have HG:=hid (And.intro hgG (And.intro hG1 hns));clear h b2 hE hG hsb hsm hdn hcode hnx hnm hrs hc hl20 hok hGg hGc hns hh1 hh2 hgs hsh9;go_enter Tryz.func12,Tryz.ntmps12
 go_wp2_with (first
  |((try rw[hW2]);refine wpList_load_mid rfl 38 (.tmp 2) rfl w.heap.size 0 rfl cs _ (HRG.out _ (Below.refl _ _)) Tryz.underlying38 rfl hIA.out ?_)
  |(go_at_call 22;refine(I8 d cs f _ (HRR.out _ (Below.refl _ _)) HE.out.2.2.2 HE.out.2.2.1).mono ?_;rintro e w3 ⟨rfl,b3⟩;have B3:=hid b3;clear b3)
  |(go_at_call 29;refine(HNF.out _).mono ?_;rintro e w4 ⟨rfl,b4⟩;have B4:=hid (B3.out.trans (b4.mono B3.out.size));clear b4)
  |(refine wpList_load_mid rfl 38 (.tmp 2) rfl w.heap.size 0 rfl cs _ (HRG.out _ B4.out) Tryz.underlying38 rfl hIA.out ?_)
  |(go_at_call 23;refine(D7 d G HE.out.1 HE.out.2.1 cs f _ (HRR.out _ B4.out)).mono ?_;rintro e w5 ⟨cs5,f5,rfl,r5,z5,m5,b5⟩;have HL5:=hid (show cs5.length=20 from Af.wide _ _ _ _ r5);have HO5:=hid r5.flat;have R5:=hid r5;have Z5:=hid z5;have M5:=hid m5;have B5:=hid b5;have HI5:=hid (show(Tryz.prog.info? 38).map (·.size)=some cs5.toArray.size by rw[List.size_toArray,Af.wide _ _ _ _ r5];kernel_rfl);clear r5 z5 m5 b5)
  |(refine wpList_store_mid rfl 38 (.tmp 6) (.tmp 22) rfl w5.heap.size 0 cs5.toArray rfl rfl (Blk.there (Blk.new w5 _ BP) cs5.toArray.size (by rw[List.size_toArray,HL5.out];exact Nat.le_refl _)) HI5.out HO5.out ?_;obtain⟨W6,hW6⟩:∃W6,(w5.alloc (.cells BP 38)).setCells w5.heap.size 0 cs5=W6:=⟨_,rfl⟩;have b6:Below w5.heap.size w5 W6:=(by rw[← hW6];exact Below.setCells_ _ _ _ _ (Nat.le_refl _) (Aa (Below.refl _ _) _));(try rw[hW6]);have HW6:=hid hW6;have B6:=hid (B4.out.trans ((B5.out.trans (b6.mono B5.out.size)).mono B4.out.size));clear hW6 b6)
  |(refine wpList_load_mid rfl 25 (.tmp 24) rfl w.heap.size 0 rfl _ _ (HRS.out _ B6.out) Tryz.underlying25 rfl (by kernel_rfl) ?_)
  |(refine wpList_store_mid rfl 25 (.tmp 7) (.tmp 25) rfl W6.heap.size 0 #[int i64 d.world.s.g,int i64 d.world.s.c,int i64 d.world.s.data,int i64 d.world.s.p,int i64 d.world.s.rows,int i64 d.world.s.cap,int i64 d.world.s.b,int i64 d.world.s.q,int i64 d.world.s.t] rfl rfl (Blk.there (Blk.new W6 _ #[int i64 0,int i64 0,int i64 0,int i64 0,int i64 0,int i64 0,int i64 0,int i64 0,int i64 0]) 9 (by simp)) (by kernel_rfl) (by simp[Value.oneCell']) ?_;obtain⟨W7,hW7⟩:∃W7,(W6.alloc (.cells #[int i64 0,int i64 0,int i64 0,int i64 0,int i64 0,int i64 0,int i64 0,int i64 0,int i64 0] 25)).setCells W6.heap.size 0 (#[int i64 d.world.s.g,int i64 d.world.s.c,int i64 d.world.s.data,int i64 d.world.s.p,int i64 d.world.s.rows,int i64 d.world.s.cap,int i64 d.world.s.b,int i64 d.world.s.q,int i64 d.world.s.t]:Array Value).toList =W7:=⟨_,rfl⟩;rw[hW7];have HW7:=hid hW7;clear hW7))
 obtain⟨f0,f1,f2,f3,v0,v1,v2,u0,A,hA,-,hz3⟩:=AJ.boxedZ R5.out Z5.out HE.out.1 M5.out B5.out.size;rw[HW6.out]at hA hz3;obtain⟨A0,k0,rfl,-⟩:=rSl.head hA.r0;obtain⟨A1,k1,rfl,-⟩:=rSl.head hA.r1;obtain⟨A2,k2,rfl,-⟩:=rSl.head hA.r2;rw[HE.out.1.qs]at hz3;obtain⟨bq,oq,c0,rfl,hGc,hcm,rfl,hsl⟩:=Lr hz3 (by have:=HG.out.1;omega);have b7:Below W6.heap.size W6 W7:=by rw[← HW7.out];exact Below.setCells_ _ _ _ _ (Nat.le_refl _) (Aa (Below.refl _ _) _)
 have k7:Blk W7 W6.heap.size 25 #[int i64 d.world.s.g,int i64 d.world.s.c,int i64 d.world.s.data,int i64 d.world.s.p,int i64 d.world.s.rows,int i64 d.world.s.cap,int i64 d.world.s.b,int i64 d.world.s.q,int i64 d.world.s.t]:=by rw[← HW7.out];exact Blk.laid (Blk.new W6 _ _) _ rfl
 have HA7:=hid (hA.below b7);have HSL:=hid (show∀W,Below W7.heap.size W7 W→∀i,i<G→∃A,W.cell? ⟨bq,oq+i,none⟩=some (.slice A 0 0)from fun W hW i hi => by
  obtain⟨A',h1⟩:=hsl i hi;have hb:=(hA.deskQ (fun a ha => ha) (by omega)).lb;exact⟨A',(hW.cell (p:=⟨bq,oq+i,none⟩) (Nat.lt_of_lt_of_le hb b7.size)).trans ((b7.cell (p:=⟨bq,oq+i,none⟩) hb).trans h1)⟩)
 have HR7:=hid (show∀W,Below W7.heap.size W7 W→W.rangeAt W6.heap.size 0 [int i64 d.world.s.g,int i64 d.world.s.c,int i64 d.world.s.data,int i64 d.world.s.p,int i64 d.world.s.rows,int i64 d.world.s.cap,int i64 d.world.s.b,int i64 d.world.s.q,int i64 d.world.s.t]from fun W hW => Blk.rangeAll (k7.below hW k7.lt));have HN7:=hid (show W6.heap.size<W7.heap.size∧w5.heap.size<W6.heap.size∧bq<W6.heap.size from⟨k7.lt,hA.k.lt,(hA.deskQ (fun a ha => ha) (by have:=HG.out.1;omega)).lb⟩);have HGC:=hid (And.intro hGc hcm);have HB7:=hid (B6.out.trans (b7.mono B6.out.size));have HLO:=hid (show w4.heap.size≤w5.heap.size∧W2.heap.size≤w4.heap.size∧w5.heap.size≤W7.heap.size from⟨B5.out.size,B4.out.size,by have:=HN7.out;omega⟩);clear hA hz3 hsl b7 k7 hGc hcm R5 Z5 M5 HI5 HO5 HL5 HW6;refine wp_region_noPanic ?_;refine wp_region_held_drew (S:=(fun W:World => W.rangeAt W6.heap.size 0 [int i64 d.world.s.g,int i64 d.world.s.c,int i64 d.world.s.data,int i64 d.world.s.p,int i64 d.world.s.rows,int i64 d.world.s.cap,int i64 d.world.s.b,int i64 d.world.s.q,int i64 d.world.s.t])) (by kernel_rfl) (HR7.out _ (Ai (Below.refl _ _))) (fun hHeld => ?_);refine wpAnyH_take (i:=0) (oi:=_) (v:=(.pointer (some ⟨w5.heap.size,15,none⟩))) rfl (by kernel_rfl) (by kernel_rfl) (by kernel_rfl) (fun _ _ _ h => h) (Or.inl ⟨by rfl,by intro w' hSw;clear hSw hHeld;go_simp⟩) (by assumption) ?_;refine wpAnyH_take (i:=1) (oi:=_) (v:=.agg #[int i64 d.world.s.g,int i64 d.world.s.c,int i64 d.world.s.data,int i64 d.world.s.p,int i64 d.world.s.rows,int i64 d.world.s.cap,int i64 d.world.s.b,int i64 d.world.s.q,int i64 d.world.s.t]) rfl (by kernel_rfl) (by kernel_rfl) (by kernel_rfl) (fun _ _ _ h => h) (yieldsIf_load_mid (by rfl) 25 (.tmp 7) rfl W6.heap.size 0 (by kernel_rfl) [int i64 d.world.s.g,int i64 d.world.s.c,int i64 d.world.s.data,int i64 d.world.s.p,int i64 d.world.s.rows,int i64 d.world.s.cap,int i64 d.world.s.b,int i64 d.world.s.q,int i64 d.world.s.t] _ (fun _ h => h) Tryz.underlying25 rfl (by kernel_rfl)) (by assumption) ?_;refine wpAnyH_take (i:=2) (oi:=_) (v:=(.string nm)) rfl (by kernel_rfl) (by kernel_rfl) (by kernel_rfl) (fun _ _ _ h => h) (Or.inl ⟨by rfl,by intro w' hSw;clear hSw hHeld;go_simp⟩) (by assumption) ?_;refine wpAnyH_take (i:=3) (oi:=_) (v:=.agg #[int i64 d.world.s.g,int i64 d.world.s.c,int i64 d.world.s.data,int i64 d.world.s.p,int i64 d.world.s.rows,int i64 d.world.s.cap,int i64 d.world.s.b,int i64 d.world.s.q,int i64 d.world.s.t]) rfl (by kernel_rfl) (by kernel_rfl) (by kernel_rfl) (fun _ _ _ h => h) (yieldsIf_load_mid (by rfl) 25 (.tmp 7) rfl W6.heap.size 0 (by kernel_rfl) [int i64 d.world.s.g,int i64 d.world.s.c,int i64 d.world.s.data,int i64 d.world.s.p,int i64 d.world.s.rows,int i64 d.world.s.cap,int i64 d.world.s.b,int i64 d.world.s.q,int i64 d.world.s.t] _ (fun _ h => h) Tryz.underlying25 rfl (by kernel_rfl)) (by assumption) ?_;refine wpAnyH_take (i:=4) (oi:=_) (v:=(.string nm)) rfl (by kernel_rfl) (by kernel_rfl) (by kernel_rfl) (fun _ _ _ h => h) (Or.inl ⟨by rfl,by intro w' hSw;clear hSw hHeld;go_simp⟩) (by assumption) ?_;refine wpAnyH_ready (rs:=[5]) (by kernel_rfl) (by simp) ?_;refine AllReadyH.cons rfl (fun K hK => ?_) AllReadyH.nil;clear hHeld;go_simp
 go_at_call 32
 refine(HHM.out _).mono ?_;rintro e w8 ⟨rfl,b8⟩;dsimp only;have B8:=hid (Cj b8);clear b8;refine hK.out _ _ (HR7.out _ B8.out) (fun _ => ?_);clear hK;refine wpAnyH_ready (rs:=[6]) (by kernel_rfl) (by simp) ?_;refine AllReadyH.cons rfl (fun K hK => ?_) AllReadyH.nil;go_simp
 go_at_call 31
 refine(queue_a w5.heap.size w4.heap.size bq oq c0 G g n f0 f1 f2 d _ _ _ A (HA7.out.below B8.out) HE.out.1 (HSL.out _ B8.out) HG.out.1 HGC.out.1 HGC.out.2 (by have:=HG.out.2.1;omega) (by have:=HLO.out;have:=B8.out.size;omega) HX.out.1 nm HX.out.2.1 HX.out.2.2.1 HX.out.2.2.2.1 hn1 hn2).mono ?_;rintro e w9 ⟨rfl,bt,c,hQ,hT,b9⟩;dsimp only;have HT:=hid hT;have B9:=hid b9;have s9:w9.rangeAt W6.heap.size 0 [int i64 d.world.s.g,int i64 d.world.s.c,int i64 d.world.s.data,int i64 d.world.s.p,int i64 d.world.s.rows,int i64 d.world.s.cap,int i64 d.world.s.b,int i64 d.world.s.q,int i64 d.world.s.t]:=fun q v hq =>(hQ.far W6.heap.size (by have:=HN7.out;have:=B8.out.size;omega) (by have:=HN7.out;omega) (by have:=HN7.out;omega) (0+q)).trans (HR7.out _ B8.out q v hq)
 clear hQ hT b9;refine hK.out _ _ s9 (fun _ => ?_);clear hK;refine wpAnyH_take (i:=7) (oi:=_) (v:=(.tuple #[int i64 (n:Int),int i64 0])) rfl (by kernel_rfl) (by kernel_rfl) (by kernel_rfl) (fun _ _ _ h => h) (Or.inl ⟨by rfl,by intro w' hSw;clear hSw;go_simp⟩) (by assumption) ?_;refine wpAnyH_take (i:=8) (oi:=_) (v:=(int i64 (n:Int))) rfl (by kernel_rfl) (by kernel_rfl) (by kernel_rfl) (fun _ _ _ h => h) (Or.inl ⟨by rfl,by intro w' hSw;clear hSw;go_simp⟩) (by assumption) ?_;refine wpAnyH_take (i:=9) (oi:=_) (v:=(int i64 0)) rfl (by kernel_rfl) (by kernel_rfl) (by kernel_rfl) (fun _ _ _ h => h) (Or.inl ⟨by rfl,by intro w' hSw;clear hSw;go_simp⟩) (by assumption) ?_;refine wpAnyH_take (i:=10) (oi:=_) (v:=(int i64 (n:Int))) rfl (by kernel_rfl) (by kernel_rfl) (by kernel_rfl) (fun _ _ _ h => h) (Or.inl ⟨by rfl,by intro w' hSw;clear hSw;go_simp⟩) (by assumption) ?_;refine wpAnyH_take (i:=11) (oi:=_) (v:=(int i64 0)) rfl (by kernel_rfl) (by kernel_rfl) (by kernel_rfl) (fun _ _ _ h => h) (Or.inl ⟨by rfl,by intro w' hSw;clear hSw;go_simp⟩) (by assumption) ?_;refine wpAnyH_done (by kernel_rfl) ?_ _;refine NoPanic.normal ?_;clear s9;have HIT:=hid (item_hit w5.heap.size (f0 ++(f1 ++ f2)) d.world nm y w9 HT.out.arc.atW HX.out.2.2.2.2.1 HX.out.2.2.2.2.2 (by have:=HG.out.2.2;omega));go_wp2_with (first
  |(go_at_call 33;refine HIT.out.mono ?_;rintro e w10 ⟨Q0,Q1,Q2,q0,q1,q2,fy,rfl,ry,my,b10⟩;have HRY:=hid ry;have HMY:=hid my;have B10:=hid b10;clear ry my b10)
  |(refine wpList_store_mid rfl 76 (.tmp 9) (.tmp 44) rfl w10.heap.size 0 #[int i64 1,int i64 1,.string nm,int i64 1,int i64 0,int i64 0,.slice Q0 0 q0,.slice Q1 1 q1,.slice Q2 0 q2] rfl rfl (Blk.there (Blk.new w10 _ #[int i64 0,int i64 0,.string ⟨#[]⟩,int i64 0,int i64 0,int i64 0,.slice none 0 0,.slice none 0 0,.slice none 0 0]) 9 (by simp)) (by kernel_rfl) (by simp[Value.oneCell']) ?_;obtain⟨W11,hW11⟩:∃W11,(w10.alloc (.cells #[int i64 0,int i64 0,.string ⟨#[]⟩,int i64 0,int i64 0,int i64 0,.slice none 0 0,.slice none 0 0,.slice none 0 0] 76)).setCells w10.heap.size 0 (#[int i64 1,int i64 1,.string nm,int i64 1,int i64 0,int i64 0,.slice Q0 0 q0,.slice Q1 1 q1,.slice Q2 0 q2]:Array Value).toList =W11:=⟨_,rfl⟩;rw[hW11];have b11:Below w10.heap.size w10 W11:=(by rw[← hW11];exact Below.setCells_ _ _ _ _ (Nat.le_refl _) (Aa (Below.refl _ _) _));have k11:Blk W11 w10.heap.size 76 #[int i64 1,int i64 1,.string nm,int i64 1,int i64 0,int i64 0,.slice Q0 0 q0,.slice Q1 1 q1,.slice Q2 0 q2]:=(by rw[← hW11];exact Blk.laid (Blk.new w10 _ _) _ rfl);have x7:W11.cell? ⟨w10.heap.size,7,none⟩=some (.slice Q1 1 q1):=(k11.cell 7).trans rfl;have xl:=k11.lt;have B11:=hid (B10.out.trans (b11.mono B10.out.size));have HY11:=hid (Ap.below HRY.out b11);clear hW11 b11 k11)
  |(go_at_call 34;refine(answer_a w5.heap.size w4.heap.size bq oq c0 G g n bt c f0 f1 f2 d _ _ _ A nm (HT.out.below B11.out) HG.out.1 HGC.out.1 HGC.out.2 (by have:=HG.out.2.1;omega) y _ fy HY11.out (fun a ha => HT.out.away a (HMY.out a ha)) hn2).mono ?_;rintro e w12 ⟨rfl,hans⟩;obtain⟨A8,c8,h8,hA12,b12⟩:=((HT.out.below B11.out).arc.answered HE.out.1 HG.out.1 HGC.out.1 HGC.out.2 HT.out.cm (by have:=HLO.out;have:=B8.out.size;have:=B9.out.size;have:=B11.out.size;omega) HX.out.2.2.2.1 hans);have HA12:=hid hA12;have HRG12:=hid (show w12.rangeAt w5.heap.size 0 [int i64 d.world.s.g,int i64 d.world.s.c,int i64 d.world.s.data,int i64 d.world.s.p,int i64 d.world.s.rows,int i64 d.world.s.cap,int i64 d.world.s.b,int i64 d.world.s.q,int i64 d.world.s.t,.slice A0 d.world.g.length k0,.slice A1 d.world.on.length k1,.slice A2 d.world.v.length k2,int i64 d.world.u,int i64 d.world.stop,.bool d.world.down,.slice (some ⟨bq,oq,none⟩) G c0,.slice A 0 0,.slice A8 1 c8,int i64 d.desk.turn,int i64 (d.desk.next+1)]from Blk.range hA12.k 0 [int i64 d.world.s.g,int i64 d.world.s.c,int i64 d.world.s.data,int i64 d.world.s.p,int i64 d.world.s.rows,int i64 d.world.s.cap,int i64 d.world.s.b,int i64 d.world.s.q,int i64 d.world.s.t,.slice A0 d.world.g.length k0,.slice A1 d.world.on.length k1,.slice A2 d.world.v.length k2,int i64 d.world.u,int i64 d.world.stop,.bool d.world.down,.slice (some ⟨bq,oq,none⟩) G c0,.slice A 0 0,.slice A8 1 c8,int i64 d.desk.turn,int i64 (d.desk.next+1)] rfl);have B12:=hid b12;have B212:=hid (show Below W2.heap.size W2 w12 from HB7.out.trans ((B8.out.mono (by have:=HLO.out;omega)).trans ((B9.out.mono (by have:=HLO.out;omega)).trans ((B11.out.mono (by have:=HLO.out;have:=B8.out.size;have:=B9.out.size;omega)).trans (b12.mono (by have:=HLO.out;omega))))));have KB12:=hid (KB.out.below B212.out KB.out.lt);have HTH:=hid (Blk.there KB12.out 22 (by simp));have HO12:=hid (show #[int i64 0,int i64 (n:Int),int i64 d.world.s.g,int i64 d.world.s.c,int i64 d.world.s.data,int i64 d.world.s.p,int i64 d.world.s.rows,int i64 d.world.s.cap,int i64 d.world.s.b,int i64 d.world.s.q,int i64 d.world.s.t,.slice A0 d.world.g.length k0,.slice A1 d.world.on.length k1,.slice A2 d.world.v.length k2,int i64 d.world.u,int i64 d.world.stop,.bool d.world.down,.slice (some ⟨bq,oq,none⟩) G c0,.slice A 0 0,.slice A8 1 c8,int i64 d.desk.turn,int i64 (d.desk.next+1)].all Value.oneCell'=true from(by simp[Value.oneCell']));clear hans hA12 b12 x7 xl)
  |(refine wpList_load_mid rfl 38 (.tmp 6) rfl w5.heap.size 0 rfl _ _ HRG12.out Tryz.underlying38 rfl (by kernel_rfl) ?_)
  |(refine wpList_store_mid rfl 40 (.tmp 4) (.tmp 64) rfl (w.heap.size+1) 0 #[int i64 0,int i64 (n:Int),int i64 d.world.s.g,int i64 d.world.s.c,int i64 d.world.s.data,int i64 d.world.s.p,int i64 d.world.s.rows,int i64 d.world.s.cap,int i64 d.world.s.b,int i64 d.world.s.q,int i64 d.world.s.t,.slice A0 d.world.g.length k0,.slice A1 d.world.on.length k1,.slice A2 d.world.v.length k2,int i64 d.world.u,int i64 d.world.stop,.bool d.world.down,.slice (some ⟨bq,oq,none⟩) G c0,.slice A 0 0,.slice A8 1 c8,int i64 d.desk.turn,int i64 (d.desk.next+1)] rfl rfl HTH.out (by kernel_rfl) HO12.out ?_))
 have K13:=KB12.out.laid ([int i64 0,int i64 (n:Int),int i64 d.world.s.g,int i64 d.world.s.c,int i64 d.world.s.data,int i64 d.world.s.p,int i64 d.world.s.rows,int i64 d.world.s.cap,int i64 d.world.s.b,int i64 d.world.s.q,int i64 d.world.s.t,.slice A0 d.world.g.length k0,.slice A1 d.world.on.length k1,.slice A2 d.world.v.length k2,int i64 d.world.u,int i64 d.world.stop,.bool d.world.down,.slice (some ⟨bq,oq,none⟩) G c0,.slice A 0 0,.slice A8 1 c8,int i64 d.desk.turn,int i64 (d.desk.next+1)]:List Value) rfl;refine bodyPost_ret (results_cell_row rfl _ _ (w.heap.size+1) 40 #[int i64 0,int i64 (n:Int),int i64 d.world.s.g,int i64 d.world.s.c,int i64 d.world.s.data,int i64 d.world.s.p,int i64 d.world.s.rows,int i64 d.world.s.cap,int i64 d.world.s.b,int i64 d.world.s.q,int i64 d.world.s.t,.slice A0 d.world.g.length k0,.slice A1 d.world.on.length k1,.slice A2 d.world.v.length k2,int i64 d.world.u,int i64 d.world.stop,.bool d.world.down,.slice (some ⟨bq,oq,none⟩) G c0,.slice A 0 0,.slice A8 1 c8,int i64 d.desk.turn,int i64 (d.desk.next+1)] (0,0) _ rfl K13 Tryz.underlying40 rfl (by kernel_rfl)) rfl ?_;have hs2:=HS2.out;have hlo:=HLO.out;have t12:=HA12.out.there;have m12:=HA12.out.m;refine⟨[int i64 d.world.s.g,int i64 d.world.s.c,int i64 d.world.s.data,int i64 d.world.s.p,int i64 d.world.s.rows,int i64 d.world.s.cap,int i64 d.world.s.b,int i64 d.world.s.q,int i64 d.world.s.t,.slice A0 d.world.g.length k0,.slice A1 d.world.on.length k1,.slice A2 d.world.v.length k2,int i64 d.world.u,int i64 d.world.stop,.bool d.world.down,.slice (some ⟨bq,oq,none⟩) G c0,.slice A 0 0,.slice A8 1 c8,int i64 d.desk.turn,int i64 (d.desk.next+1)],f0 ++(f1 ++(f2 ++(Az ⟨bq,oq,none⟩ G ++([] ++ h8)))),rfl,?_,?_⟩
 ·exact Af.local_ _ _ _ _ _ HA12.out.readsR (CE _ _ 0 _ fun a ha e => by have:=m12.from_ a ha;omega)
 ·exact Below.setCells_ _ _ _ _ (by omega) (HB2.out.trans (B212.out.mono HB2.out.size))
end Go.Proofs.YthbljikbnoghcaaGreat
