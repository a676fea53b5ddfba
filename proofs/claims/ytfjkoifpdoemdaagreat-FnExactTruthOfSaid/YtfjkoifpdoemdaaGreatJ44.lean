/- Part 44 of the proof. -/
import Derived.Test.YtfjkoifpdoemdaaGreatJ01
import Derived.Test.YtfjkoifpdoemdaaGreatJ05
set_option maxHeartbeats 8000000
set_option maxRecDepth 100000
set_option linter.unusedVariables false
set_option linter.unusedSimpArgs false
open Go.Proofs.Tryz
open Go.Value (int)
open Go.IntKind (i64)
namespace Go.Proofs.YtfjkoifpdoemdaaGreat
open Go.RowKit Go.Sort
section
variable {α:Type} {k:Nat} {R:AB α} {w w':World} {H j:Nat} {T:TypeId} {ds:List α}
def Cn(k:Nat)(R:AB α)(w:World)(H:Nat)(T:TypeId)(ds:List α)(j:Nat):Prop :=
 ∃(cs:Array Value) (f:Nat→List Addr),Blk w H T cs∧cs.size=ds.length * k∧
  (∀i,(h:i<ds.length)→i<j→∃us:List Value,us.length=k∧(∀q,q<k→cs[i * k+q]? =us[q]?)∧R w (f i) us ds[i]∧Aw (H+1) w (f i)∧CX (f i) w)∧
  ∀i1 i2,i1<i2→i2<j→i2<ds.length→∀a,a∈f i1→∀b,b∈f i2→a.block<b.block
theorem Cn.start {z:Array Value}(h:Blk w H T (madeCells z (ds.length * k))):Cn k R w H T ds 0 :=
 ⟨_,fun _ => [],h,size_madeCells _ _,fun _ _ h => absurd h (Nat.not_lt_zero _),fun _ _ _ h => absurd h (Nat.not_lt_zero _)⟩
theorem Cn.lt(h:Cn k R w H T ds j):H<w.heap.size:=by
 obtain⟨cs,f,hk,-⟩:=h;exact hk.lt
theorem Cn.there(h:Cn k R w H T ds j) {i:Nat}(hi:i<ds.length):w.there H (i * k) k:=by
 obtain⟨cs,f,hk,hs,-⟩:=h;intro q hq;have:=Gw (k:=k) hi;refine⟨?_,hk.frozen _⟩;rw[hk.cell,Array.getElem?_eq_getElem (by omega)];rfl
theorem Cn.below(hL:Bi R)(hF:Bl R)(h:Cn k R w H T ds j)(hb:Below w.heap.size w w'):Cn k R w' H T ds j:=by
 obtain⟨cs,f,hk,hs,h,hd⟩:=h;refine⟨cs,f,hk.below hb hk.lt,hs,fun i hi hj => ?_,hd⟩;obtain⟨us,h1,h2,h3,h4,h5⟩:=h i hi hj;exact⟨us,h1,h2,AB.below hL hF h3 hb,h4.wrote (AD.of_below (fs:=[]) hb) h5,fun a ha => aE (h5 a ha) hb.size⟩
theorem Aw.setCells {lo:Nat}:∀(vs:List Value) (b o:Nat) (w:World) {fs:List Addr},Aw lo w fs→Aw lo (w.setCells b o vs) fs
 | [],_,_,_,_,h => h
 |v :: r,b,o,w,fs,h => Aw.setCells r b (o+1) _ (h.set_ _ v)
theorem size_setCells:∀(vs:List Value) (b o:Nat) (w:World),(w.setCells b o vs).heap.size =w.heap.size
 | [],_,_,_ => rfl
 |v :: r,b,o,w =>(size_setCells r b (o+1) _).trans (World.size_setCell _ _ _)
theorem Cn.next(hL:Bi R)(hF:Bl R) {w1:World}(h:Cn k R w H T ds j)(hb:Below w.heap.size w w1)(hj:j<ds.length) {us:List Value} {fk:List Addr}(hu:us.length=k)(hr:R w1 fk us ds[j])(hm:Aw w.heap.size w1 fk)(ht:CX fk w1):Cn k R (w1.setCells H (j * k) us) H T ds (j+1):=by
 have hH:=h.lt;obtain⟨cs,f,hk,hs,h,hd⟩:=h;have hfit:=Gw (k:=k) hj;have hsz:=size_setCells us H (j * k) w1;refine⟨Eo cs (j * k) us,fun i => if i=j then fk else f i,(hk.below hb hk.lt).setCells_ _ _ _,by rw[Hj,hs],fun i hi hij => ?_,fun i1 i2 h12 h2 h2l a ha b hbb => ?_⟩
 ·by_cases e:i=j
  ·subst e;simp only[if_true];refine⟨us,hu,fun q hq => ?_,hL _ _ _ _ _ hr (FT _ _ _ _ fun a ha => by have:=hm.from_ a ha;omega),?_,fun a ha => by rw[hsz];exact ht a ha⟩
   ·rw[EH _ _ _ (by omega),aI (by omega),aL (by omega),Nat.add_sub_cancel_left]
   ·exact(hm.mono (by omega)).setCells _ _ _ _
  ·simp only[aI e];obtain⟨us',h1,h2,h3,h4,h5⟩:=h i hi (by omega);refine⟨us',h1,fun q hq => ?_,hL _ _ _ _ _ (AB.below hL hF h3 hb) (FT _ _ _ _ fun a ha => by have:=h4.from_ a ha;omega),?_,fun a ha => by rw[hsz];exact aE (h5 a ha) hb.size⟩
   ·have h6:i * k+q<j * k:=by have:=Gw (k:=k) (show i<j by omega);omega
    rw[EH _ _ _ (by omega),aL h6];exact h2 q hq
   ·exact(h4.wrote (AD.of_below (fs:=[]) hb) h5).setCells _ _ _ _
 ·have ha':a∈(if i1=j then fk else f i1):=ha;have hbb':b∈(if i2=j then fk else f i2):=hbb;replace ha:=ha'
  replace hbb:=hbb'
  clear ha' hbb';by_cases e2:i2=j
  ·subst e2;rw[aI (by omega)]at ha;rw[aL rfl]at hbb;have hi1:i1<ds.length:=by omega
   obtain⟨_,_,_,_,_,h5⟩:=h i1 hi1 (by omega);exact aE (h5 a ha) (hm.from_ b hbb)
  ·rw[aI (by omega)]at ha;rw[aI e2]at hbb;exact hd i1 i2 h12 (by omega) h2l a ha b hbb
theorem Cn.reads(h:Cn k R w H T ds ds.length)(hm:ds.length≤9223372036854775807):∃fs,rSl k R w fs (.slice (some ⟨H,0,none⟩) ds.length ds.length) ds∧Aw H w fs:=by
 obtain⟨cs,f,hk,hs,h,hd⟩:=h;have hc:∀i:Fin ds.length,∃us:List Value,us.length=k∧(∀q,q<k→cs[i.val * k+q]? =us[q]?)∧R w (f i.val) us ds[i.val]∧Aw (H+1) w (f i.val)∧CX (f i.val) w:=fun i => h i.val i.isLt i.isLt
 obtain⟨g,hg⟩:=Classical.axiomOfChoice hc;have hfs:∀l,l∈(List.finRange ds.length).map (fun i => f i.val)→∃i:Fin ds.length,l=f i.val:=fun l hl => by
  obtain⟨i,-,rfl⟩:=List.mem_map.1 hl;exact⟨i,rfl⟩
 refine⟨_,rSl.ofRow ((List.finRange ds.length).map fun i => g i) ((List.finRange ds.length).map fun i => f i.val) rfl hm (by simp) (by simp) (fun i hi => ?_),?_,fun a ha => ?_,fun a ha => ?_⟩
 ·simp only[bQ,List.getElem_finRange,Fin.cast_mk];obtain⟨h1,h2,h3,-⟩:=hg ⟨i,hi⟩;refine⟨h1,fun q hq => ?_,h3⟩;rw[hk.cell,h2 q (by omega),aO hq]
 ·unfold List.Nodup;refine List.pairwise_append.2 ⟨DO rfl,?_,fun a ha b hb e => ?_⟩
  ·refine List.pairwise_flatten.2 ⟨fun l hl => ?_,?_⟩
   ·obtain⟨i,rfl⟩:=hfs l hl;exact(hg i).2.2.2.1.nodup
   ·rw[List.pairwise_map,List.pairwise_iff_getElem];intro i1 i2 h1 h2 h12 a ha b hb e;simp only[List.getElem_finRange,Fin.cast_mk]at ha hb;subst e;simp only[List.length_finRange]at h1 h2;exact absurd (hd i1 i2 h12 h2 h2 a ha a hb) (Nat.lt_irrefl _)
  ·subst e;obtain⟨l,hl,hal⟩:=List.mem_flatten.1 hb;obtain⟨i,rfl⟩:=hfs l hl;have h1:=(hg i).2.2.2.1.from_ a hal;have h2:=CY ha;omega
 ·rcases List.mem_append.1 ha with ha|ha
  ·rw[CY ha];exact aC _
  ·obtain⟨l,hl,hal⟩:=List.mem_flatten.1 ha;obtain⟨i,rfl⟩:=hfs l hl;exact Nat.le_of_lt ((hg i).2.2.2.1.from_ a hal)
 ·rcases List.mem_append.1 ha with ha|ha
  ·obtain⟨q,hq,rfl⟩:=Bb.1 ha;rw[Addr.add_lit];exact hk.frozen _
  ·obtain⟨l,hl,hal⟩:=List.mem_flatten.1 ha;obtain⟨i,rfl⟩:=hfs l hl;exact(hg i).2.2.2.1.free a hal
end
def MyL {α:Type}(k:Nat)(R:AB α)(ds:List α)(w:World)(e:Ending)(w':World):Prop :=
 ∃A c fs,e= .returned (.slice A ds.length c)∧rSl k R w' fs (.slice A ds.length c) ds∧Aw w.heap.size w' fs∧Below w.heap.size w w'
def MyS {α:Type}(R:AB α)(d:α)(w:World)(e:Ending)(w':World):Prop :=
 ∃cs fs,e= .returned (.agg cs.toArray)∧R w' fs cs d∧Aw w.heap.size w' fs∧Below w.heap.size w w'
theorem Jm(v:Value)(xs:List UInt8)(fs:List Addr)(w:World)(h1:Ag w fs v xs)(hsm:xs.length≤1048576) :
  Calls prog 268 #[v] w (MyL 1 Ai xs w) :=
 (Rz v xs fs w h1 hsm).mono fun e w' ⟨he,hb,hk,_⟩ => by
  have:=Ag.of_blk hk (by omega);refine⟨some ⟨w.heap.size,0,none⟩,xs.length,_,he,this,⟨DO rfl,fun a ha => by rw[CY ha];exact aC _,fun a ha => ?_⟩,hb⟩;obtain⟨q,hq,rfl⟩:=Bb.1 ha;rw[Addr.add_lit];exact hk.frozen _
theorem Ry(d:Bt)(cs:List Value)(f:List Addr)(w:World)(h1:AE w f cs d)(hsm:Ce d≤1048576) :
  Calls prog 284 #[.agg cs.toArray] w (MyS AE d w):=by
 dsimp only[AE]at h1;obtain⟨v0,f0,e,-,ok,h⟩:=h1;subst e;have H:=U h;have HOK:=U ok;obtain⟨A1,c1,rfl,-⟩:=rSl.head h;clear h ok;go_enter func284,ntmps284
 go_wp2_with fail
 have hB:Below w.heap.size w (((w.alloc (.cells #[int i64 d.stamp,.slice A1 d.bytes.length c1] 304)).alloc (.cells #[int i64 0,.slice none 0 0] 196)).alloc (.cells #[int i64 d.stamp,.slice none 0 0] 196)):=(((aB _ _).alloc (aC _) _).alloc (by simp) _).alloc (by simp;omega) _;refine(Jm _ d.bytes f0 _ (rSl.below Ai.local_ Ai.fixed H.o hB) hsm).mono ?_;rintro e w1 ⟨A',c',f1,rfl,r1,hf1,b1⟩;have k1:=U (Blk.below ((Blk.new1 w (.cells #[int i64 d.stamp,.slice A1 d.bytes.length c1] 304) 196 #[int i64 0,.slice none 0 0]).alloc (.cells #[int i64 d.stamp,.slice none 0 0] 196)) b1 (by simp));have k2:=U (Blk.below (Blk.new2 w (.cells #[int i64 d.stamp,.slice A1 d.bytes.length c1] 304) (.cells #[int i64 0,.slice none 0 0] 196) 196 #[int i64 d.stamp,.slice none 0 0]) b1 (by simp));have B1:=U (hB.trans (b1.mono hB.size));have hf2:∀a,a∈f1→w.heap.size+3≤a.block:=fun a ha => by have:=hf1.from_ a ha;simp at this;omega
 have HF:=U hf2;have HR:=U r1;have HM:=U (show Aw w.heap.size w1 f1 from hf1.mono (by simp;omega));have z0:=b1.size;simp only[World.size_alloc]at z0;have z1:w.heap.size+1<w1.heap.size:=by omega
 have z2:w.heap.size+1+1<w1.heap.size:=by omega
 clear hf1 hf2 r1 b1 hB z0;have p0:=Blk.cell k1.o 0;have p1:=Blk.cell k1.o 1;have q0:=Blk.cell k2.o 0;have q1:=Blk.cell k2.o 1;have f0:=Blk.frozen k1.o 0;have f1':=Blk.frozen k1.o 1;have g0:=Blk.frozen k2.o 0;have g1:=Blk.frozen k2.o 1;simp at p0 p1 q0 q1;go_wp2_with fail
 have K1:=Blk.set_ (Blk.set_ (Blk.far k1.o (p:=⟨w.heap.size+1+1,1,none⟩) (by simp) (.slice A' d.bytes.length c')) 0 (int i64 d.stamp)) 1 (.slice A' d.bytes.length c');refine bodyPost_ret (results_cell_row rfl _ _ (w.heap.size+1) 196 #[int i64 d.stamp,.slice A' d.bytes.length c'] (0,0) _ rfl K1 underlying196 rfl (by kernel_rfl)) rfl ?_;refine⟨[int i64 d.stamp,.slice A' d.bytes.length c'],f1,rfl,⟨_,f1,rfl,rfl,HOK.o,?_⟩,((HM.o.set_ _ _).set_ _ _).set_ _ _,((B1.o.setCell (by simp;omega) _).setCell (by simp) _).setCell (by simp) _⟩;exact((HR.o.keep Ai.local_ (AQ.set_ _ HF.o (by simp) _)).keep Ai.local_ (AQ.set_ _ HF.o (by simp) _)).keep Ai.local_ (AQ.set_ _ HF.o (by simp) _)
theorem PQ(v:Value)(ds:List Bt)(fs:List Addr)(w:World)(h1:rSl 2 AE w fs v ds)(hsm:AP Ce ds≤1048576) :
  Calls prog 241 #[v] w (MyL 2 AE ds w):=by
 obtain⟨A1,c1,rfl,hc1,hm1,hx⟩:=rSl.at_ AE.fixed (by decide) h1;have hdl:ds.length≤1048576:=by unfold AP at hsm;omega
 have HX:=U hx;clear hx h1;have hmk:=CM prog 192 196 (.agg #[int i64 0,.slice none 0 0]) 2 32 underlying192 Tryz.infoTotoBlockS ds.length hdl (by omega);go_enter func241,ntmps241
 go_wp2_with fail
 go_loopw [4] (fun i wr =>∃j:Nat,j≤ds.length∧i= int i64 j∧Hid (Cn 2 AE wr w.heap.size 196 ds j)∧Hid (Below w.heap.size w wr)) (fun i _ => ds.length - (intOf i).toNat)
 case atStart => exact⟨0,by omega,rfl,Cn.start (Blk.new _ _ _),(aB _ _).alloc (aC _) _⟩
 case round =>
  obtain⟨j,hj,rfl,HP,HB⟩:=hrel;clear hmk;by_cases hlt2:j<ds.length
  ·obtain⟨ad,b,o,cs,fk,e1,hat⟩:=HX.o j hlt2;subst e1;have hat2:=hat.below AE.local_ HB.o;have hpl:=hat.place;have hbl:=hat2.lt;have HRG:=U (show wr.rangeAt b o cs from fun q v hq => by
    have hq1:q<cs.length:=(List.getElem?_eq_some_iff.1 hq).1;rw[hat2.cell q hq1,← hq];exact(aO hq1).symm)
   have HI:=U (show(prog.info? 304).map (·.size)=some cs.length by rw[hat2.len];kernel_rfl);have HC:=U (Ry ds[j] cs fk wr hat2.reads (by have:=F3 Ce hlt2;omega));clear hat hat2 HX;go_wp2_with (first
    |(refine aD rfl 304 _ rfl b o rfl cs _ HRG.o underlying304 rfl HI.o ?_)
    |(go_at_call 284;go_loud (refine HC.o.mono ?_;rintro e w1 ⟨us,fu,rfl,ru,hfu,b1⟩;have HU:=U ru;have HFU:=U hfu;have B1:=U b1;have hul:us.length=2:=AE.wide _ _ _ _ ru;have P1:=U (HP.o.below AE.local_ AE.fixed b1);have HON:=U (all_oneCell_toArray (AE.ones _ _ _ _ ru));have HTH:=U (show w1.there w.heap.size (j * 2) us.toArray.size by rw[show us.toArray.size=2 from List.size_toArray.trans hul];exact P1.o.there hlt2);have HI2:=U (show(prog.info? 196).map (·.size)=some us.toArray.size by rw[show us.toArray.size=2 from List.size_toArray.trans hul];kernel_rfl);have HUL:=U hul;have hz1:w.heap.size<w1.heap.size:=P1.o.lt;clear ru hfu b1 hul))
    |(refine aW rfl 196 _ _ rfl w.heap.size (j * 2) us.toArray rfl rfl HTH.o HI2.o HON.o ?_))
   go_roundw
   case rel =>
    have hst:=HP.o.next AE.local_ AE.fixed B1.o hlt2 HUL.o HU.o HFU.o (AE.fixed _ _ _ _ HU.o);exact⟨j+1,by omega,by go_num,hst,Below.setCells_ _ _ _ _ (aC _) (HB.o.trans (B1.o.mono HB.o.size))⟩
   case measure => simp[intOf];omega
  ·obtain rfl:j=ds.length:=by omega
   clear HX;go_wp2_with fail
   go_ret
   obtain⟨fs',hr,hf⟩:=HP.o.reads (by omega);exact⟨some ⟨w.heap.size,0,none⟩,ds.length,fs',rfl,hr,hf,HB.o⟩
theorem RC(d:AL)(cs:List Value)(f:List Addr)(w:World)(h1:Ak w f cs d)(hsm:Cf d≤1048576) :
  Calls prog 164 #[.agg cs.toArray] w (MyS Ak d w):=by
 dsimp only[Ak]at h1;obtain⟨v0,f0,e,-,h⟩:=h1;subst e;have H:=U h;obtain⟨A1,c1,rfl,-⟩:=rSl.head h;clear h;go_enter func164,ntmps164
 go_wp2_with fail
 have hB:Below w.heap.size w (((w.alloc (.cells #[.bool d.wiped,.slice A1 d.blocks.length c1] 190)).alloc (.cells #[.bool false,.slice none 0 0] 194)).alloc (.cells #[.bool d.wiped,.slice none 0 0] 194)):=(((aB _ _).alloc (aC _) _).alloc (by simp) _).alloc (by simp;omega) _;refine(PQ _ d.blocks f0 _ (rSl.below AE.local_ AE.fixed H.o hB) hsm).mono ?_;rintro e w1 ⟨A',c',f1,rfl,r1,hf1,b1⟩;have k1:=U (Blk.below ((Blk.new1 w (.cells #[.bool d.wiped,.slice A1 d.blocks.length c1] 190) 194 #[.bool false,.slice none 0 0]).alloc (.cells #[.bool d.wiped,.slice none 0 0] 194)) b1 (by simp));have k2:=U (Blk.below (Blk.new2 w (.cells #[.bool d.wiped,.slice A1 d.blocks.length c1] 190) (.cells #[.bool false,.slice none 0 0] 194) 194 #[.bool d.wiped,.slice none 0 0]) b1 (by simp));have B1:=U (hB.trans (b1.mono hB.size));have hf2:∀a,a∈f1→w.heap.size+3≤a.block:=fun a ha => by have:=hf1.from_ a ha;simp at this;omega
 have HF:=U hf2;have HR:=U r1;have HM:=U (show Aw w.heap.size w1 f1 from hf1.mono (by simp;omega));have z0:=b1.size;simp only[World.size_alloc]at z0;have z1:w.heap.size+1<w1.heap.size:=by omega
 have z2:w.heap.size+1+1<w1.heap.size:=by omega
 clear hf1 hf2 r1 b1 hB z0;have p0:=Blk.cell k1.o 0;have p1:=Blk.cell k1.o 1;have q0:=Blk.cell k2.o 0;have q1:=Blk.cell k2.o 1;have f0:=Blk.frozen k1.o 0;have f1':=Blk.frozen k1.o 1;have g0:=Blk.frozen k2.o 0;have g1:=Blk.frozen k2.o 1;simp at p0 p1 q0 q1;go_wp2_with fail
 have K1:=Blk.set_ (Blk.set_ (Blk.far k1.o (p:=⟨w.heap.size+1+1,1,none⟩) (by simp) (.slice A' d.blocks.length c')) 0 (.bool d.wiped)) 1 (.slice A' d.blocks.length c');refine bodyPost_ret (results_cell_row rfl _ _ (w.heap.size+1) 194 #[.bool d.wiped,.slice A' d.blocks.length c'] (0,0) _ rfl K1 underlying194 rfl (by kernel_rfl)) rfl ?_;refine⟨[.bool d.wiped,.slice A' d.blocks.length c'],f1,rfl,⟨_,f1,rfl,rfl,?_⟩,((HM.o.set_ _ _).set_ _ _).set_ _ _,((B1.o.setCell (by simp;omega) _).setCell (by simp) _).setCell (by simp) _⟩;exact((HR.o.keep AE.local_ (AQ.set_ _ HF.o (by simp) _)).keep AE.local_ (AQ.set_ _ HF.o (by simp) _)).keep AE.local_ (AQ.set_ _ HF.o (by simp) _)
theorem PR(v:Value)(ds:List AL)(fs:List Addr)(w:World)(h1:rSl 2 Ak w fs v ds)(hsm:AP Cf ds≤1048576) :
  Calls prog 94 #[v] w (MyL 2 Ak ds w):=by
 obtain⟨A1,c1,rfl,hc1,hm1,hx⟩:=rSl.at_ Ak.fixed (by decide) h1;have hdl:ds.length≤1048576:=by unfold AP at hsm;omega
 have HX:=U hx;clear hx h1;have hmk:=CM prog 148 194 (.agg #[.bool false,.slice none 0 0]) 2 32 underlying148 Tryz.infoTotoDriveS ds.length hdl (by omega);go_enter func94,ntmps94
 go_wp2_with fail
 go_loopw [4] (fun i wr =>∃j:Nat,j≤ds.length∧i= int i64 j∧Hid (Cn 2 Ak wr w.heap.size 194 ds j)∧Hid (Below w.heap.size w wr)) (fun i _ => ds.length - (intOf i).toNat)
 case atStart => exact⟨0,by omega,rfl,Cn.start (Blk.new _ _ _),(aB _ _).alloc (aC _) _⟩
 case round =>
  obtain⟨j,hj,rfl,HP,HB⟩:=hrel;clear hmk;by_cases hlt2:j<ds.length
  ·obtain⟨ad,b,o,cs,fk,e1,hat⟩:=HX.o j hlt2;subst e1;have hat2:=hat.below Ak.local_ HB.o;have hpl:=hat.place;have hbl:=hat2.lt;have HRG:=U (show wr.rangeAt b o cs from fun q v hq => by
    have hq1:q<cs.length:=(List.getElem?_eq_some_iff.1 hq).1;rw[hat2.cell q hq1,← hq];exact(aO hq1).symm)
   have HI:=U (show(prog.info? 190).map (·.size)=some cs.length by rw[hat2.len];kernel_rfl);have HC:=U (RC ds[j] cs fk wr hat2.reads (by have:=F3 Cf hlt2;omega));clear hat hat2 HX;go_wp2_with (first
    |(refine aD rfl 190 _ rfl b o rfl cs _ HRG.o underlying190 rfl HI.o ?_)
    |(go_at_call 164;go_loud (refine HC.o.mono ?_;rintro e w1 ⟨us,fu,rfl,ru,hfu,b1⟩;have HU:=U ru;have HFU:=U hfu;have B1:=U b1;have hul:us.length=2:=Ak.wide _ _ _ _ ru;have P1:=U (HP.o.below Ak.local_ Ak.fixed b1);have HON:=U (all_oneCell_toArray (Ak.ones _ _ _ _ ru));have HTH:=U (show w1.there w.heap.size (j * 2) us.toArray.size by rw[show us.toArray.size=2 from List.size_toArray.trans hul];exact P1.o.there hlt2);have HI2:=U (show(prog.info? 194).map (·.size)=some us.toArray.size by rw[show us.toArray.size=2 from List.size_toArray.trans hul];kernel_rfl);have HUL:=U hul;have hz1:w.heap.size<w1.heap.size:=P1.o.lt;clear ru hfu b1 hul))
    |(refine aW rfl 194 _ _ rfl w.heap.size (j * 2) us.toArray rfl rfl HTH.o HI2.o HON.o ?_))
   go_roundw
   case rel =>
    have hst:=HP.o.next Ak.local_ Ak.fixed B1.o hlt2 HUL.o HU.o HFU.o (Ak.fixed _ _ _ _ HU.o);exact⟨j+1,by omega,by go_num,hst,Below.setCells_ _ _ _ _ (aC _) (HB.o.trans (B1.o.mono HB.o.size))⟩
   case measure => simp[intOf];omega
  ·obtain rfl:j=ds.length:=by omega
   clear HX;go_wp2_with fail
   go_ret
   obtain⟨fs',hr,hf⟩:=HP.o.reads (by omega);exact⟨some ⟨w.heap.size,0,none⟩,ds.length,fs',rfl,hr,hf,HB.o⟩
theorem Oo(v:Value)(ds:List (List AL))(fs:List Addr)(w:World)(h1:rSl 1 (Al 2 Ak) w fs v ds)(hsm:AP BO ds≤1048576) :
  Calls prog 41 #[v] w (MyL 1 (Al 2 Ak) ds w):=by
 obtain⟨A1,c1,rfl,hc1,hm1,hx⟩:=rSl.at_ (Al.fixed Ak.fixed) (by decide) h1;have hdl:ds.length≤1048576:=by unfold AP at hsm;omega
 have HX:=U hx;clear hx h1;have hmk:=CM prog 32 148 (.slice none 0 0) 1 24 underlying32 Tryz.infoTotoDriveSS ds.length hdl (by omega);go_enter func41,ntmps41
 go_wp2_with fail
 go_loopw [4] (fun i wr =>∃j:Nat,j≤ds.length∧i= int i64 j∧Hid (Cn 1 (Al 2 Ak) wr w.heap.size 148 ds j)∧Hid (Below w.heap.size w wr)) (fun i _ => ds.length - (intOf i).toNat)
 case atStart => exact⟨0,by omega,rfl,Cn.start (z:=#[.slice none 0 0]) (by rw[Nat.mul_one];exact Blk.new _ _ _),(aB _ _).alloc (aC _) _⟩
 case round =>
  obtain⟨j,hj,rfl,HP,HB⟩:=hrel;clear hmk;by_cases hlt2:j<ds.length
  ·obtain⟨ad,b,o,cs,fk,e1,hat⟩:=HX.o j hlt2;subst e1;have hat2:=hat.below (Al.local_ Ak.local_) HB.o;have hpl:=hat.place;have hbl:=hat2.lt;obtain⟨ve,hve,hrd⟩:=hat2.reads;subst hve;obtain⟨Ae,ce,rfl,-⟩:=rSl.head hrd;have hpc:=hat2.cell 0 (by simp);simp only[bE,aU]at hpc;rw[Nat.mul_one]at hpl;have HC:=U (PR _ ds[j] fk wr hrd (by have:=F3 BO hlt2;have e:BO ds[j] =AP Cf ds[j]:=rfl;omega));clear hrd;clear hat hat2 HX;go_wp2_with (first
    |(go_at_call 94;go_loud (refine HC.o.mono ?_;rintro e w1 ⟨Au,cu,fu,rfl,ru,hfu,b1⟩;have HU:=U ru;have HFU:=U hfu;have B1:=U b1;have P1:=U (HP.o.below (Al.local_ Ak.local_) (Al.fixed Ak.fixed) b1);have th:=P1.o.there hlt2 0 (by omega);simp only[Nat.mul_one,bE]at th;obtain⟨th1,th2⟩:=th;obtain⟨ux,hux⟩:=Option.isSome_iff_exists.1 th1;have hz1:w.heap.size<w1.heap.size:=P1.o.lt;clear ru hfu b1 th1)))
   go_roundw
   case rel =>
    have hst:=HP.o.next (us:=[.slice Au ds[j].length cu]) (Al.local_ Ak.local_) (Al.fixed Ak.fixed) B1.o hlt2 rfl ⟨_,rfl,HU.o⟩ HFU.o (rSl.there Ak.fixed HU.o);rw[Nat.mul_one]at hst;exact⟨j+1,by omega,by go_num,hst,(HB.o.trans (B1.o.mono HB.o.size)).setCell (aC _) _⟩
   case measure => simp[intOf];omega
  ·obtain rfl:j=ds.length:=by omega
   clear HX;go_wp2_with fail
   go_ret
   obtain⟨fs',hr,hf⟩:=HP.o.reads (by omega);exact⟨some ⟨w.heap.size,0,none⟩,ds.length,fs',rfl,hr,hf,HB.o⟩
section
variable {lo mid:Nat} {w w':World} {f g:List Addr} {p:Addr} {u:Value}
theorem Aw.over(h:Aw lo w f)(ht:CX f w)(hb:Below (w.setCell p u).heap.size (w.setCell p u) w'):Aw lo w' f∧CX f w':=by
 have ht2:CX f (w.setCell p u):=fun a ha => by rw[World.size_setCell];exact ht a ha
 exact⟨(h.set_ p u).wrote (AD.of_below (fs:=[]) hb) ht2,fun a ha => aE (ht2 a ha) hb.size⟩
theorem Aw.append_(h1:Aw lo w f)(h2:Aw mid w g)(hf:∀a,a∈f→a.block<mid)(hl:lo≤mid):Aw lo w (f ++ g):=by
 refine⟨?_,fun a ha => ?_,fun a ha => ?_⟩
 ·unfold List.Nodup;refine List.pairwise_append.2 ⟨h1.nodup,h2.nodup,fun a ha b hb e => ?_⟩;subst e;have:=hf a ha;have:=h2.from_ a hb;omega
 ·rcases List.mem_append.1 ha with ha|ha
  ·exact h1.from_ a ha
  ·exact bL hl (h2.from_ a ha)
 ·rcases List.mem_append.1 ha with ha|ha
  ·exact h1.free a ha
  ·exact h2.free a ha
end
theorem NH(v:Value)(xs:List Int)(fs:List Addr)(w:World)(h1:AO w fs v xs)(hsm:xs.length≤1048576) :
  Calls prog 42 #[v] w (MyL 1 Az xs w):=by
 obtain⟨A1,c1,rfl,hc1,hm1,hx⟩:=AO.open_ h1;have HX:=U hx;clear hx h1;have hmk:=CM prog 25 2 (int i64 0) 1 8 underlying25 Tryz.infoToInt xs.length hsm (by omega);go_enter func42,ntmps42
 go_wp2_with fail
 go_loopw [4] (fun i wr =>∃j:Nat,j≤xs.length∧i= int i64 j∧Hid (Cn 1 Az wr w.heap.size 2 xs j)∧Hid (Below w.heap.size w wr)) (fun i _ => xs.length - (intOf i).toNat)
 case atStart => exact⟨0,by omega,rfl,Cn.start (z:=#[int i64 0]) (by rw[Nat.mul_one];exact Blk.new _ _ _),(aB _ _).alloc (aC _) _⟩
 case round =>
  obtain⟨j,hj,rfl,HP,HB⟩:=hrel;clear hmk;by_cases hlt2:j<xs.length
  ·obtain⟨ad,e1,-,b1,p1,okx⟩:=HX.o j hlt2;subst e1;have p1':=(HB.o.cell (p:=ad.add j) b1).trans p1;have th:=HP.o.there hlt2 0 (by omega);simp only[Nat.mul_one,bE]at th;obtain⟨th1,th2⟩:=th;obtain⟨ux,hux⟩:=Option.isSome_iff_exists.1 th1;have hz1:w.heap.size<wr.heap.size:=HP.o.lt;have HOK:=U okx;clear HX th1 p1 okx;go_wp2_with fail
   go_roundw
   case rel =>
    have hst:=HP.o.next (us:=[int i64 xs[j]]) (fk:=[]) Az.local_ Az.fixed (aB _ _) hlt2 rfl ⟨rfl,rfl,HOK.o.1,HOK.o.2⟩ ⟨List.Pairwise.nil,(fun a ha => by cases ha),fun a ha => by cases ha⟩ (fun a ha => by cases ha);rw[Nat.mul_one]at hst;exact⟨j+1,by omega,by go_num,hst,HB.o.setCell (aC _) _⟩
   case measure => simp[intOf];omega
  ·obtain rfl:j=xs.length:=by omega
   clear HX;go_wp2_with fail
   go_ret
   obtain⟨fs',hr,hf⟩:=HP.o.reads (by omega);exact⟨some ⟨w.heap.size,0,none⟩,xs.length,fs',rfl,hr,hf,HB.o⟩
theorem toRec_m(d:Ah)(cs:List Value)(f:List Addr)(w:World)(h1:Ac w f cs d)(hsm:BU d≤1048576) :
  Calls prog 242 #[.agg cs.toArray] w (MyS Ac d w):=by
 dsimp only[Ac]at h1;obtain⟨v0,v1,v2,f0,f1,f2,e,-,o0,o1,o2,o3,o4,o5,r0,r1,r2⟩:=h1;subst e;unfold BU at hsm;have HOK:=U (And.intro o0 (And.intro o1 (And.intro o2 (And.intro o3 (And.intro o4 o5)))));have H0:=U r0;have H1:=U r1;have H2:=U r2;obtain⟨A0,c0,rfl,-⟩:=rSl.head r0;obtain⟨A1,c1,rfl,-⟩:=rSl.head r1;obtain⟨A2,c2,rfl,-⟩:=rSl.head r2;have HS0:=U (show d.rows.length≤1048576 by omega);have HS1:=U (show d.data.length≤1048576 by omega);have HS2:=U (show d.delta.length≤1048576 by omega);clear r0 r1 r2 o0 o1 o2 o3 o4 o5 hsm;have hB:Below w.heap.size w (((w.alloc (.cells #[int i64 d.kind,int i64 d.seq,.string d.name,int i64 d.length,int i64 d.group,int i64 d.row,.slice A0 d.rows.length c0,.slice A1 d.data.length c1,.slice A2 d.delta.length c2] 268)).alloc (.cells #[int i64 0,int i64 0,.string ⟨#[]⟩,int i64 0,int i64 0,int i64 0,.slice none 0 0,.slice none 0 0,.slice none 0 0] 119)).alloc (.cells #[int i64 d.kind,int i64 d.seq,.string d.name,int i64 d.length,int i64 d.group,int i64 d.row,.slice none 0 0,.slice none 0 0,.slice none 0 0] 119)):=(((aB _ _).alloc (aC _) _).alloc (by simp) _).alloc (by simp;omega) _;go_enter func242,ntmps242
 go_wp2_with fail
 refine(NH _ d.rows f0 _ (rSl.below Az.local_ Az.fixed H0.o hB) HS0.o).mono ?_;rintro e w1 ⟨D0,e0,g0,rfl,q0,hg0,b1⟩;have k0:=U (Blk.below (((Blk.new w 268 #[int i64 d.kind,int i64 d.seq,.string d.name,int i64 d.length,int i64 d.group,int i64 d.row,.slice A0 d.rows.length c0,.slice A1 d.data.length c1,.slice A2 d.delta.length c2]).alloc (.cells #[int i64 0,int i64 0,.string ⟨#[]⟩,int i64 0,int i64 0,int i64 0,.slice none 0 0,.slice none 0 0,.slice none 0 0] 119)).alloc (.cells #[int i64 d.kind,int i64 d.seq,.string d.name,int i64 d.length,int i64 d.group,int i64 d.row,.slice none 0 0,.slice none 0 0,.slice none 0 0] 119)) b1 (by simp;omega));have k1:=U (Blk.below ((Blk.new1 w (.cells #[int i64 d.kind,int i64 d.seq,.string d.name,int i64 d.length,int i64 d.group,int i64 d.row,.slice A0 d.rows.length c0,.slice A1 d.data.length c1,.slice A2 d.delta.length c2] 268) 119 #[int i64 0,int i64 0,.string ⟨#[]⟩,int i64 0,int i64 0,int i64 0,.slice none 0 0,.slice none 0 0,.slice none 0 0]).alloc (.cells #[int i64 d.kind,int i64 d.seq,.string d.name,int i64 d.length,int i64 d.group,int i64 d.row,.slice none 0 0,.slice none 0 0,.slice none 0 0] 119)) b1 (by simp));have k2:=U (Blk.below (Blk.new2 w (.cells #[int i64 d.kind,int i64 d.seq,.string d.name,int i64 d.length,int i64 d.group,int i64 d.row,.slice A0 d.rows.length c0,.slice A1 d.data.length c1,.slice A2 d.delta.length c2] 268) (.cells #[int i64 0,int i64 0,.string ⟨#[]⟩,int i64 0,int i64 0,int i64 0,.slice none 0 0,.slice none 0 0,.slice none 0 0] 119) 119 #[int i64 d.kind,int i64 d.seq,.string d.name,int i64 d.length,int i64 d.group,int i64 d.row,.slice none 0 0,.slice none 0 0,.slice none 0 0]) b1 (by simp));have B1:=U (hB.trans (b1.mono hB.size));have HG0:=U (show∀a,a∈g0→w.heap.size+3≤a.block from fun a ha => by have:=hg0.from_ a ha;simp at this;omega);have Q0:=U q0;have M0:=U (show Aw w.heap.size w1 g0 from hg0.mono (by simp;omega));have T0:=U (rSl.there Az.fixed q0);have z0:=b1.size;simp only[World.size_alloc]at z0;have z1:w.heap.size+1+1<w1.heap.size:=by omega
 clear hg0 q0 b1 hB z0;have p7:=Blk.cell k0.o 7;have s6:=Blk.cell k2.o 6;have t6:=Blk.frozen k2.o 6;simp at p7 s6;go_wp2_with fail
 have hB2:Below w.heap.size w (w1.setCell ⟨w.heap.size+1+1,6,none⟩ (.slice D0 d.rows.length e0)):=B1.o.setCell (by simp;omega) _;refine(Jm _ d.data f1 _ (rSl.below Ai.local_ Ai.fixed H1.o hB2) HS1.o).mono ?_;rintro e w2 ⟨D1,e1,g1,rfl,q1,hg1,b2⟩;have m0:=U (Blk.below (Blk.far k0.o (p:=⟨w.heap.size+1+1,6,none⟩) (by simp;omega) (.slice D0 d.rows.length e0)) b2 (by simp;omega));have m1:=U (Blk.below (Blk.far k1.o (p:=⟨w.heap.size+1+1,6,none⟩) (by simp) (.slice D0 d.rows.length e0)) b2 (by simp;omega));have m2:=U (show Blk w2 (w.heap.size+1+1) 119 #[int i64 d.kind,int i64 d.seq,.string d.name,int i64 d.length,int i64 d.group,int i64 d.row,.slice D0 d.rows.length e0,.slice none 0 0,.slice none 0 0]from Blk.below (Blk.set_ k2.o 6 (.slice D0 d.rows.length e0)) b2 (by simp;omega));have B2:=U (hB2.trans (b2.mono hB2.size));have Q02:=U (rSl.below Az.local_ Az.fixed (Q0.o.keep Az.local_ (AQ.set_ _ HG0.o (by simp) _)) b2);have HG1:=U (show∀a,a∈g1→w.heap.size+3≤a.block from fun a ha => by have:=hg1.from_ a ha;simp at this;omega);have Q1:=U q1;have M01:=U (M0.o.over T0.o b2);have M1:=U (show Aw w1.heap.size w2 g1 from by have h9:=hg1;rwa [World.size_setCell]at h9);have T1:=U (rSl.there Ai.fixed q1);have L1:=U (show w1.heap.size≤w2.heap.size from by have h9:=b2.size;rwa [World.size_setCell]at h9);have z0:=b2.size;simp only[World.size_setCell]at z0;have z2:w.heap.size+1+1<w2.heap.size:=by omega
 clear hg1 q1 b2 hB2 z0 p7 s6 t6 z1;have p8:=Blk.cell m0.o 8;have s7:=Blk.cell m2.o 7;have t7:=Blk.frozen m2.o 7;simp at p8 s7;go_wp2_with fail
 have hB3:Below w.heap.size w (w2.setCell ⟨w.heap.size+1+1,7,none⟩ (.slice D1 d.data.length e1)):=B2.o.setCell (by simp;omega) _;refine(Jm _ d.delta f2 _ (rSl.below Ai.local_ Ai.fixed H2.o hB3) HS2.o).mono ?_;rintro e w3 ⟨D2,e2,g2,rfl,q2,hg2,b3⟩;have n1:=U (Blk.below (Blk.far m1.o (p:=⟨w.heap.size+1+1,7,none⟩) (by simp) (.slice D1 d.data.length e1)) b3 (by simp;omega));have n2:=U (show Blk w3 (w.heap.size+1+1) 119 #[int i64 d.kind,int i64 d.seq,.string d.name,int i64 d.length,int i64 d.group,int i64 d.row,.slice D0 d.rows.length e0,.slice D1 d.data.length e1,.slice none 0 0]from Blk.below (Blk.set_ m2.o 7 (.slice D1 d.data.length e1)) b3 (by simp;omega));have B3:=U (hB3.trans (b3.mono hB3.size));have Q03:=U (rSl.below Az.local_ Az.fixed (Q02.o.keep Az.local_ (AQ.set_ _ HG0.o (by simp) _)) b3);have Q13:=U (rSl.below Ai.local_ Ai.fixed (Q1.o.keep Ai.local_ (AQ.set_ _ HG1.o (by simp) _)) b3);have HG2:=U (show∀a,a∈g2→w.heap.size+3≤a.block from fun a ha => by have:=hg2.from_ a ha;simp at this;omega);have Q2:=U q2;have M02:=U (M01.o.1.over M01.o.2 b3);have M12:=U (M1.o.over T1.o b3);have M2:=U (show Aw w2.heap.size w3 g2 from by have h9:=hg2;rwa [World.size_setCell]at h9);have z0:=b3.size;simp only[World.size_setCell]at z0;have z3:w.heap.size+1+1<w3.heap.size:=by omega
 have z4:w.heap.size+1<w3.heap.size:=by omega
 clear hg2 q2 b3 hB3 z0 p8 s7 t7 z2 k0 k1 k2 m0 m1 m2;have s8:=Blk.cell n2.o 8;have t8:=Blk.frozen n2.o 8;simp at s8;have K2:=U (show Blk (w3.setCell ⟨w.heap.size+1+1,8,none⟩ (.slice D2 d.delta.length e2)) (w.heap.size+1+1) 119 #[int i64 d.kind,int i64 d.seq,.string d.name,int i64 d.length,int i64 d.group,int i64 d.row,.slice D0 d.rows.length e0,.slice D1 d.data.length e1,.slice D2 d.delta.length e2]from Blk.set_ n2.o 8 (.slice D2 d.delta.length e2));have K1:=U (Blk.far n1.o (p:=⟨w.heap.size+1+1,8,none⟩) (by simp) (.slice D2 d.delta.length e2));have HRG:=U (Blk.range K2.o 0 [int i64 d.kind,int i64 d.seq,.string d.name,int i64 d.length,int i64 d.group,int i64 d.row,.slice D0 d.rows.length e0,.slice D1 d.data.length e1,.slice D2 d.delta.length e2] rfl);have HTH:=U (Blk.there K1.o 9 (by simp));go_wp2_with (first
  |(refine aD rfl 119 _ rfl (w.heap.size+1+1) 0 rfl [int i64 d.kind,int i64 d.seq,.string d.name,int i64 d.length,int i64 d.group,int i64 d.row,.slice D0 d.rows.length e0,.slice D1 d.data.length e1,.slice D2 d.delta.length e2] _ ?_ underlying119 rfl (by kernel_rfl) ?_;(focus (exact HRG.o)))
  |(refine aW rfl 119 _ _ rfl (w.heap.size+1) 0 #[int i64 d.kind,int i64 d.seq,.string d.name,int i64 d.length,int i64 d.group,int i64 d.row,.slice D0 d.rows.length e0,.slice D1 d.data.length e1,.slice D2 d.delta.length e2] rfl rfl ?_ (by kernel_rfl) (by simp[Value.oneCell']) ?_;(focus (exact HTH.o))))
 have KF:=K1.o.laid [int i64 d.kind,int i64 d.seq,.string d.name,int i64 d.length,int i64 d.group,int i64 d.row,.slice D0 d.rows.length e0,.slice D1 d.data.length e1,.slice D2 d.delta.length e2] rfl;refine bodyPost_ret (results_cell_row rfl _ _ (w.heap.size+1) 119 #[int i64 d.kind,int i64 d.seq,.string d.name,int i64 d.length,int i64 d.group,int i64 d.row,.slice D0 d.rows.length e0,.slice D1 d.data.length e1,.slice D2 d.delta.length e2] (0,0) _ rfl KF underlying119 rfl (by kernel_rfl)) rfl ?_;have hs0:∀(g:List Addr),(∀a,a∈g→w.heap.size+3≤a.block)→∀a,a∈g→w.heap.size≤a.block:=fun g hg a ha => by have:=hg a ha;omega
 refine⟨[int i64 d.kind,int i64 d.seq,.string d.name,int i64 d.length,int i64 d.group,int i64 d.row,.slice D0 d.rows.length e0,.slice D1 d.data.length e1,.slice D2 d.delta.length e2],g0 ++(g1 ++ g2),rfl,⟨_,_,_,g0,g1,g2,rfl,rfl,HOK.o.1,HOK.o.2.1,HOK.o.2.2.1,HOK.o.2.2.2.1,HOK.o.2.2.2.2.1,HOK.o.2.2.2.2.2,?_,?_,?_⟩,?_,?_⟩
 ·exact(Q03.o.keep Az.local_ (AQ.set_ _ HG0.o (by simp) _)).keep Az.local_ (FT _ _ _ _ fun a ha => by have:=HG0.o a ha;omega)
 ·exact(Q13.o.keep Ai.local_ (AQ.set_ _ HG1.o (by simp) _)).keep Ai.local_ (FT _ _ _ _ fun a ha => by have:=HG1.o a ha;omega)
 ·exact(Q2.o.keep Ai.local_ (AQ.set_ _ HG2.o (by simp) _)).keep Ai.local_ (FT _ _ _ _ fun a ha => by have:=HG2.o a ha;omega)
 ·refine Aw.setCells _ _ _ _ (Aw.set_ ?_ _ _);exact Aw.append_ M02.o.1 (Aw.append_ M12.o.1 M2.o T1.o L1.o) T0.o B1.o.size
 ·exact Below.setCells_ _ _ _ _ (by omega) (B3.o.setCell (by simp;omega) _)
theorem toRecS_m(v:Value)(ds:List Ah)(fs:List Addr)(w:World)(h1:rSl 9 Ac w fs v ds)(hsm:AP BU ds≤1048576) :
  Calls prog 165 #[v] w (MyL 9 Ac ds w):=by
 obtain⟨A1,c1,rfl,hc1,hm1,hx⟩:=rSl.at_ Ac.fixed (by decide) h1;have hdl:ds.length≤1048576:=by unfold AP at hsm;omega
 have HX:=U hx;clear hx h1;have hmk:=CM prog 80 119 (.agg #[int i64 0,int i64 0,.string ⟨#[]⟩,int i64 0,int i64 0,int i64 0,.slice none 0 0,.slice none 0 0,.slice none 0 0]) 9 128 underlying80 Tryz.infoTotoRecS ds.length hdl (by omega);go_enter func165,ntmps165
 go_wp2_with fail
 go_loopw [4] (fun i wr =>∃j:Nat,j≤ds.length∧i= int i64 j∧Hid (Cn 9 Ac wr w.heap.size 119 ds j)∧Hid (Below w.heap.size w wr)) (fun i _ => ds.length - (intOf i).toNat)
 case atStart => exact⟨0,by omega,rfl,Cn.start (Blk.new _ _ _),(aB _ _).alloc (aC _) _⟩
 case round =>
  obtain⟨j,hj,rfl,HP,HB⟩:=hrel;clear hmk;by_cases hlt2:j<ds.length
  ·obtain⟨ad,b,o,cs,fk,e1,hat⟩:=HX.o j hlt2;subst e1;have hat2:=hat.below Ac.local_ HB.o;have hpl:=hat.place;have hbl:=hat2.lt;have HRG:=U (show wr.rangeAt b o cs from fun q v hq => by
    have hq1:q<cs.length:=(List.getElem?_eq_some_iff.1 hq).1;rw[hat2.cell q hq1,← hq];exact(aO hq1).symm)
   have HI:=U (show(prog.info? 268).map (·.size)=some cs.length by rw[hat2.len];kernel_rfl);have HC:=U (toRec_m ds[j] cs fk wr hat2.reads (by have:=F3 BU hlt2;omega));clear hat hat2 HX;go_wp2_with (first
    |(refine aD rfl 268 _ rfl b o rfl cs _ HRG.o underlying268 rfl HI.o ?_)
    |(go_at_call 242;go_loud (refine HC.o.mono ?_;rintro e w1 ⟨us,fu,rfl,ru,hfu,b1⟩;have HU:=U ru;have HFU:=U hfu;have B1:=U b1;have hul:us.length=9:=Ac.wide _ _ _ _ ru;have P1:=U (HP.o.below Ac.local_ Ac.fixed b1);have HON:=U (all_oneCell_toArray (Ac.ones _ _ _ _ ru));have HTH:=U (show w1.there w.heap.size (j * 9) us.toArray.size by rw[show us.toArray.size=9 from List.size_toArray.trans hul];exact P1.o.there hlt2);have HI2:=U (show(prog.info? 119).map (·.size)=some us.toArray.size by rw[show us.toArray.size=9 from List.size_toArray.trans hul];kernel_rfl);have HUL:=U hul;have hz1:w.heap.size<w1.heap.size:=P1.o.lt;clear ru hfu b1 hul))
    |(refine aW rfl 119 _ _ rfl w.heap.size (j * 9) us.toArray rfl rfl HTH.o HI2.o HON.o ?_))
   go_roundw
   case rel =>
    have hst:=HP.o.next Ac.local_ Ac.fixed B1.o hlt2 HUL.o HU.o HFU.o (Ac.fixed _ _ _ _ HU.o);exact⟨j+1,by omega,by go_num,hst,Below.setCells_ _ _ _ _ (aC _) (HB.o.trans (B1.o.mono HB.o.size))⟩
   case measure => simp[intOf];omega
  ·obtain rfl:j=ds.length:=by omega
   clear HX;go_wp2_with fail
   go_ret
   obtain⟨fs',hr,hf⟩:=HP.o.reads (by omega);exact⟨some ⟨w.heap.size,0,none⟩,ds.length,fs',rfl,hr,hf,HB.o⟩
theorem toTape_m(d:AS)(cs:List Value)(f:List Addr)(w:World)(h1:Ay w f cs d)(hsm:Cr d≤1048576) :
  Calls prog 95 #[.agg cs.toArray] w (MyS Ay d w):=by
 dsimp only[Ay]at h1;obtain⟨v0,f0,e,-,h⟩:=h1;subst e;have H:=U h;obtain⟨A1,c1,rfl,-⟩:=rSl.head h;clear h;go_enter func95,ntmps95
 go_wp2_with fail
 have hB:Below w.heap.size w (((w.alloc (.cells #[.bool d.wiped,.slice A1 d.recs.length c1] 135)).alloc (.cells #[.bool false,.slice none 0 0] 139)).alloc (.cells #[.bool d.wiped,.slice none 0 0] 139)):=(((aB _ _).alloc (aC _) _).alloc (by simp) _).alloc (by simp;omega) _;refine(toRecS_m _ d.recs f0 _ (rSl.below Ac.local_ Ac.fixed H.o hB) hsm).mono ?_;rintro e w1 ⟨A',c',f1,rfl,r1,hf1,b1⟩;have k1:=U (Blk.below ((Blk.new1 w (.cells #[.bool d.wiped,.slice A1 d.recs.length c1] 135) 139 #[.bool false,.slice none 0 0]).alloc (.cells #[.bool d.wiped,.slice none 0 0] 139)) b1 (by simp));have k2:=U (Blk.below (Blk.new2 w (.cells #[.bool d.wiped,.slice A1 d.recs.length c1] 135) (.cells #[.bool false,.slice none 0 0] 139) 139 #[.bool d.wiped,.slice none 0 0]) b1 (by simp));have B1:=U (hB.trans (b1.mono hB.size));have hf2:∀a,a∈f1→w.heap.size+3≤a.block:=fun a ha => by have:=hf1.from_ a ha;simp at this;omega
 have HF:=U hf2;have HR:=U r1;have HM:=U (show Aw w.heap.size w1 f1 from hf1.mono (by simp;omega));have z0:=b1.size;simp only[World.size_alloc]at z0;have z1:w.heap.size+1<w1.heap.size:=by omega
 have z2:w.heap.size+1+1<w1.heap.size:=by omega
 clear hf1 hf2 r1 b1 hB z0;have p0:=Blk.cell k1.o 0;have p1:=Blk.cell k1.o 1;have q0:=Blk.cell k2.o 0;have q1:=Blk.cell k2.o 1;have f0:=Blk.frozen k1.o 0;have f1':=Blk.frozen k1.o 1;have g0:=Blk.frozen k2.o 0;have g1:=Blk.frozen k2.o 1;simp at p0 p1 q0 q1;go_wp2_with fail
 have K1:=Blk.set_ (Blk.set_ (Blk.far k1.o (p:=⟨w.heap.size+1+1,1,none⟩) (by simp) (.slice A' d.recs.length c')) 0 (.bool d.wiped)) 1 (.slice A' d.recs.length c');refine bodyPost_ret (results_cell_row rfl _ _ (w.heap.size+1) 139 #[.bool d.wiped,.slice A' d.recs.length c'] (0,0) _ rfl K1 underlying139 rfl (by kernel_rfl)) rfl ?_;refine⟨[.bool d.wiped,.slice A' d.recs.length c'],f1,rfl,⟨_,f1,rfl,rfl,?_⟩,((HM.o.set_ _ _).set_ _ _).set_ _ _,((B1.o.setCell (by simp;omega) _).setCell (by simp) _).setCell (by simp) _⟩;exact((HR.o.keep Ac.local_ (AQ.set_ _ HF.o (by simp) _)).keep Ac.local_ (AQ.set_ _ HF.o (by simp) _)).keep Ac.local_ (AQ.set_ _ HF.o (by simp) _)
theorem RE(v:Value)(ds:List AS)(fs:List Addr)(w:World)(h1:rSl 2 Ay w fs v ds)(hsm:AP Cr ds≤1048576) :
  Calls prog 43 #[v] w (MyL 2 Ay ds w):=by
 obtain⟨A1,c1,rfl,hc1,hm1,hx⟩:=rSl.at_ Ay.fixed (by decide) h1;have hdl:ds.length≤1048576:=by unfold AP at hsm;omega
 have HX:=U hx;clear hx h1;have hmk:=CM prog 33 139 (.agg #[.bool false,.slice none 0 0]) 2 32 underlying33 Tryz.infoTotoTapeS ds.length hdl (by omega);go_enter func43,ntmps43
 go_wp2_with fail
 go_loopw [4] (fun i wr =>∃j:Nat,j≤ds.length∧i= int i64 j∧Hid (Cn 2 Ay wr w.heap.size 139 ds j)∧Hid (Below w.heap.size w wr)) (fun i _ => ds.length - (intOf i).toNat)
 case atStart => exact⟨0,by omega,rfl,Cn.start (Blk.new _ _ _),(aB _ _).alloc (aC _) _⟩
 case round =>
  obtain⟨j,hj,rfl,HP,HB⟩:=hrel;clear hmk;by_cases hlt2:j<ds.length
  ·obtain⟨ad,b,o,cs,fk,e1,hat⟩:=HX.o j hlt2;subst e1;have hat2:=hat.below Ay.local_ HB.o;have hpl:=hat.place;have hbl:=hat2.lt;have HRG:=U (show wr.rangeAt b o cs from fun q v hq => by
    have hq1:q<cs.length:=(List.getElem?_eq_some_iff.1 hq).1;rw[hat2.cell q hq1,← hq];exact(aO hq1).symm)
   have HI:=U (show(prog.info? 135).map (·.size)=some cs.length by rw[hat2.len];kernel_rfl);have HC:=U (toTape_m ds[j] cs fk wr hat2.reads (by have:=F3 Cr hlt2;omega));clear hat hat2 HX;go_wp2_with (first
    |(refine aD rfl 135 _ rfl b o rfl cs _ HRG.o underlying135 rfl HI.o ?_)
    |(go_at_call 95;go_loud (refine HC.o.mono ?_;rintro e w1 ⟨us,fu,rfl,ru,hfu,b1⟩;have HU:=U ru;have HFU:=U hfu;have B1:=U b1;have hul:us.length=2:=Ay.wide _ _ _ _ ru;have P1:=U (HP.o.below Ay.local_ Ay.fixed b1);have HON:=U (all_oneCell_toArray (Ay.ones _ _ _ _ ru));have HTH:=U (show w1.there w.heap.size (j * 2) us.toArray.size by rw[show us.toArray.size=2 from List.size_toArray.trans hul];exact P1.o.there hlt2);have HI2:=U (show(prog.info? 139).map (·.size)=some us.toArray.size by rw[show us.toArray.size=2 from List.size_toArray.trans hul];kernel_rfl);have HUL:=U hul;have hz1:w.heap.size<w1.heap.size:=P1.o.lt;clear ru hfu b1 hul))
    |(refine aW rfl 139 _ _ rfl w.heap.size (j * 2) us.toArray rfl rfl HTH.o HI2.o HON.o ?_))
   go_roundw
   case rel =>
    have hst:=HP.o.next Ay.local_ Ay.fixed B1.o hlt2 HUL.o HU.o HFU.o (Ay.fixed _ _ _ _ HU.o);exact⟨j+1,by omega,by go_num,hst,Below.setCells_ _ _ _ _ (aC _) (HB.o.trans (B1.o.mono HB.o.size))⟩
   case measure => simp[intOf];omega
  ·obtain rfl:j=ds.length:=by omega
   clear HX;go_wp2_with fail
   go_ret
   obtain⟨fs',hr,hf⟩:=HP.o.reads (by omega);exact⟨some ⟨w.heap.size,0,none⟩,ds.length,fs',rfl,hr,hf,HB.o⟩
end Go.Proofs.YtfjkoifpdoemdaaGreat
namespace Go.Proofs.YtfjkoifpdoemdaaGreat
open Go.RowKit Go.Lib Go.Sort
theorem RF(d:Am)(cs:List Value)(f:List Addr)(w:World)(h1:AC w f cs d)(hsm:Dd d≤1048576) :
  Calls prog 10 #[.agg cs.toArray] w (MyS AC d w):=by
 dsimp only[AC]at h1;obtain⟨v0,v1,v2,f0,f1,f2,e,-,o0,o1,o2,o3,o4,o5,o6,o7,o8,o9,o10,r0,r1,r2⟩:=h1;subst e;unfold Dd at hsm;have HOK:=U (And.intro o0 (And.intro o1 (And.intro o2 (And.intro o3 (And.intro o4 (And.intro o5 (And.intro o6 (And.intro o7 (And.intro o8 (And.intro o9 o10))))))))));have H0:=U r0;have H1:=U r1;have H2:=U r2;obtain⟨A0,c0,rfl,-⟩:=rSl.head r0;obtain⟨A1,c1,rfl,-⟩:=rSl.head r1;obtain⟨A2,c2,rfl,-⟩:=rSl.head r2;have HS0:=U (show AP BO d.g≤1048576 by omega);have HS1:=U (show d.on.length≤1048576 by omega);have HS2:=U (show AP Cr d.v≤1048576 by omega);clear r0 r1 r2 o0 o1 o2 o3 o4 o5 o6 o7 o8 o9 o10 hsm;have hB:Below w.heap.size w (((w.alloc (.cells #[int i64 d.s.g,int i64 d.s.c,int i64 d.s.data,int i64 d.s.p,int i64 d.s.rows,int i64 d.s.cap,int i64 d.s.b,int i64 d.s.q,int i64 d.s.t,.slice A0 d.g.length c0,.slice A1 d.on.length c1,.slice A2 d.v.length c2,int i64 d.u,int i64 d.stop,.bool d.down] 28)).alloc (.cells #[int i64 0,int i64 0,int i64 0,int i64 0,int i64 0,int i64 0,int i64 0,int i64 0,int i64 0,.slice none 0 0,.slice none 0 0,.slice none 0 0,int i64 0,int i64 0,.bool false] 35)).alloc (.cells #[int i64 0,int i64 0,int i64 0,int i64 0,int i64 0,int i64 0,int i64 0,int i64 0,int i64 0,.slice none 0 0,.slice none 0 0,.slice none 0 0,int i64 0,int i64 0,.bool false] 35)):=(((aB _ _).alloc (aC _) _).alloc (by simp) _).alloc (by simp;omega) _;have HRP:=U (Blk.range (((Blk.new w 28 #[int i64 d.s.g,int i64 d.s.c,int i64 d.s.data,int i64 d.s.p,int i64 d.s.rows,int i64 d.s.cap,int i64 d.s.b,int i64 d.s.q,int i64 d.s.t,.slice A0 d.g.length c0,.slice A1 d.on.length c1,.slice A2 d.v.length c2,int i64 d.u,int i64 d.stop,.bool d.down]).alloc (.cells #[int i64 0,int i64 0,int i64 0,int i64 0,int i64 0,int i64 0,int i64 0,int i64 0,int i64 0,.slice none 0 0,.slice none 0 0,.slice none 0 0,int i64 0,int i64 0,.bool false] 35)).alloc (.cells #[int i64 0,int i64 0,int i64 0,int i64 0,int i64 0,int i64 0,int i64 0,int i64 0,int i64 0,.slice none 0 0,.slice none 0 0,.slice none 0 0,int i64 0,int i64 0,.bool false] 35)) 0 [int i64 d.s.g,int i64 d.s.c,int i64 d.s.data,int i64 d.s.p,int i64 d.s.rows,int i64 d.s.cap,int i64 d.s.b,int i64 d.s.q,int i64 d.s.t] rfl);go_enter func10,ntmps10
 go_wp2_with (refine aD rfl 23 _ rfl w.heap.size 0 rfl [int i64 d.s.g,int i64 d.s.c,int i64 d.s.data,int i64 d.s.p,int i64 d.s.rows,int i64 d.s.cap,int i64 d.s.b,int i64 d.s.q,int i64 d.s.t] _ ?_ underlying23 rfl (by kernel_rfl) ?_;(focus (exact HRP.o)))
 refine(RD d.s _).mono ?_;rintro e w1 ⟨rfl,b1⟩;have k0:=U (Blk.below (((Blk.new w 28 #[int i64 d.s.g,int i64 d.s.c,int i64 d.s.data,int i64 d.s.p,int i64 d.s.rows,int i64 d.s.cap,int i64 d.s.b,int i64 d.s.q,int i64 d.s.t,.slice A0 d.g.length c0,.slice A1 d.on.length c1,.slice A2 d.v.length c2,int i64 d.u,int i64 d.stop,.bool d.down]).alloc (.cells #[int i64 0,int i64 0,int i64 0,int i64 0,int i64 0,int i64 0,int i64 0,int i64 0,int i64 0,.slice none 0 0,.slice none 0 0,.slice none 0 0,int i64 0,int i64 0,.bool false] 35)).alloc (.cells #[int i64 0,int i64 0,int i64 0,int i64 0,int i64 0,int i64 0,int i64 0,int i64 0,int i64 0,.slice none 0 0,.slice none 0 0,.slice none 0 0,int i64 0,int i64 0,.bool false] 35)) b1 (by simp;omega));have k1:=U (Blk.below ((Blk.new1 w (.cells #[int i64 d.s.g,int i64 d.s.c,int i64 d.s.data,int i64 d.s.p,int i64 d.s.rows,int i64 d.s.cap,int i64 d.s.b,int i64 d.s.q,int i64 d.s.t,.slice A0 d.g.length c0,.slice A1 d.on.length c1,.slice A2 d.v.length c2,int i64 d.u,int i64 d.stop,.bool d.down] 28) 35 #[int i64 0,int i64 0,int i64 0,int i64 0,int i64 0,int i64 0,int i64 0,int i64 0,int i64 0,.slice none 0 0,.slice none 0 0,.slice none 0 0,int i64 0,int i64 0,.bool false]).alloc (.cells #[int i64 0,int i64 0,int i64 0,int i64 0,int i64 0,int i64 0,int i64 0,int i64 0,int i64 0,.slice none 0 0,.slice none 0 0,.slice none 0 0,int i64 0,int i64 0,.bool false] 35)) b1 (by simp));have k2:=U (Blk.below (Blk.new2 w (.cells #[int i64 d.s.g,int i64 d.s.c,int i64 d.s.data,int i64 d.s.p,int i64 d.s.rows,int i64 d.s.cap,int i64 d.s.b,int i64 d.s.q,int i64 d.s.t,.slice A0 d.g.length c0,.slice A1 d.on.length c1,.slice A2 d.v.length c2,int i64 d.u,int i64 d.stop,.bool d.down] 28) (.cells #[int i64 0,int i64 0,int i64 0,int i64 0,int i64 0,int i64 0,int i64 0,int i64 0,int i64 0,.slice none 0 0,.slice none 0 0,.slice none 0 0,int i64 0,int i64 0,.bool false] 35) 35 #[int i64 0,int i64 0,int i64 0,int i64 0,int i64 0,int i64 0,int i64 0,int i64 0,int i64 0,.slice none 0 0,.slice none 0 0,.slice none 0 0,int i64 0,int i64 0,.bool false]) b1 (by simp));have B1:=U (hB.trans (b1.mono hB.size));have z0:=b1.size;simp only[World.size_alloc]at z0;have z1:w.heap.size+1+1<w1.heap.size:=by omega
 have HTH:=U (Blk.there k2.o 9 (by simp));clear b1 hB z0 HRP;have n0:=U (Blk.farS [int i64 d.s.g,int i64 d.s.c,int i64 d.s.data,int i64 d.s.p,int i64 d.s.rows,int i64 d.s.cap,int i64 d.s.b,int i64 d.s.q,int i64 d.s.t] (w.heap.size+1+1) 0 _ (by omega) k0.o);have n1:=U (Blk.farS [int i64 d.s.g,int i64 d.s.c,int i64 d.s.data,int i64 d.s.p,int i64 d.s.rows,int i64 d.s.cap,int i64 d.s.b,int i64 d.s.q,int i64 d.s.t] (w.heap.size+1+1) 0 _ (by omega) k1.o);have n2:=U (show Blk (w1.setCells (w.heap.size+1+1) 0 [int i64 d.s.g,int i64 d.s.c,int i64 d.s.data,int i64 d.s.p,int i64 d.s.rows,int i64 d.s.cap,int i64 d.s.b,int i64 d.s.q,int i64 d.s.t]) (w.heap.size+1+1) 35 #[int i64 d.s.g,int i64 d.s.c,int i64 d.s.data,int i64 d.s.p,int i64 d.s.rows,int i64 d.s.cap,int i64 d.s.b,int i64 d.s.q,int i64 d.s.t,.slice none 0 0,.slice none 0 0,.slice none 0 0,int i64 0,int i64 0,.bool false]from by have h:=Blk.setCells_ [int i64 d.s.g,int i64 d.s.c,int i64 d.s.data,int i64 d.s.p,int i64 d.s.rows,int i64 d.s.cap,int i64 d.s.b,int i64 d.s.q,int i64 d.s.t] 0 _ _ k2.o;rw[show Eo #[int i64 0,int i64 0,int i64 0,int i64 0,int i64 0,int i64 0,int i64 0,int i64 0,int i64 0,.slice none 0 0,.slice none 0 0,.slice none 0 0,int i64 0,int i64 0,.bool false] 0 [int i64 d.s.g,int i64 d.s.c,int i64 d.s.data,int i64 d.s.p,int i64 d.s.rows,int i64 d.s.cap,int i64 d.s.b,int i64 d.s.q,int i64 d.s.t] = #[int i64 d.s.g,int i64 d.s.c,int i64 d.s.data,int i64 d.s.p,int i64 d.s.rows,int i64 d.s.cap,int i64 d.s.b,int i64 d.s.q,int i64 d.s.t,.slice none 0 0,.slice none 0 0,.slice none 0 0,int i64 0,int i64 0,.bool false]from by kernel_rfl]at h;exact h);have N1:=U (Below.setCells_ [int i64 d.s.g,int i64 d.s.c,int i64 d.s.data,int i64 d.s.p,int i64 d.s.rows,int i64 d.s.cap,int i64 d.s.b,int i64 d.s.q,int i64 d.s.t] (w.heap.size+1+1) 0 _ (by omega) B1.o);have z2:w.heap.size+1+1<(w1.setCells (w.heap.size+1+1) 0 [int i64 d.s.g,int i64 d.s.c,int i64 d.s.data,int i64 d.s.p,int i64 d.s.rows,int i64 d.s.cap,int i64 d.s.b,int i64 d.s.q,int i64 d.s.t]).heap.size:=by have:=n2.o.lt;omega
 clear k0 k1 k2 B1;go_wp2_with (go_loud (refine aW rfl 31 _ _ rfl (w.heap.size+1+1) 0 #[int i64 d.s.g,int i64 d.s.c,int i64 d.s.data,int i64 d.s.p,int i64 d.s.rows,int i64 d.s.cap,int i64 d.s.b,int i64 d.s.q,int i64 d.s.t] rfl rfl ?_ (by kernel_rfl) (by simp[Value.oneCell']) ?_;(focus (exact HTH.o));(generalize w1.setCells (w.heap.size+1+1) 0 [int i64 d.s.g,int i64 d.s.c,int i64 d.s.data,int i64 d.s.p,int i64 d.s.rows,int i64 d.s.cap,int i64 d.s.b,int i64 d.s.q,int i64 d.s.t] =u0 at n0 n1 n2 N1 z2⊢);have p9:u0.cell? ⟨w.heap.size,9,none⟩=some (.slice A0 d.g.length c0):=(Blk.cell n0.o 9).trans rfl))
 clear p9 HTH;refine(Oo _ d.g f0 _ (rSl.below (Al.local_ Ak.local_) (Al.fixed Ak.fixed) H0.o N1.o) HS0.o).mono ?_;rintro e w2 ⟨D0,e0,g0,rfl,q0,hg0,b2⟩;have x0:=U (Blk.below n0.o b2 n0.o.lt);have x1:=U (Blk.below n1.o b2 n1.o.lt);have x2:=U (Blk.below n2.o b2 n2.o.lt);have X1:=U ((N1.o).trans (b2.mono (N1.o).size));have HG0:=U (show∀a,a∈g0→w.heap.size+3≤a.block from fun a ha => by have:=hg0.from_ a ha;omega);have Q0:=U q0;have M0:=U (show Aw w.heap.size w2 g0 from hg0.mono N1.o.size);have T0:=U (rSl.there (Al.fixed Ak.fixed) q0);have L0:=U X1.o.size;have z3:w.heap.size+1+1<w2.heap.size:=x2.o.lt;clear z2 hg0 q0 b2 n0 n1 n2 N1;have z2:=z3;clear z3;have s1:=Blk.cell x2.o 9;have t1:=Blk.frozen x2.o 9;have p1:=Blk.cell x0.o 10;simp at p1 s1;go_wp2_with fail
 have hB2:Below w.heap.size w (w2.setCell ⟨w.heap.size+1+1,9,none⟩ (.slice D0 d.g.length e0)):=X1.o.setCell (show w.heap.size≤w.heap.size+1+1 by omega) _;have y0:=U (Blk.far x0.o (p:=⟨w.heap.size+1+1,9,none⟩) (by simp;omega) (.slice D0 d.g.length e0));have y1:=U (Blk.far x1.o (p:=⟨w.heap.size+1+1,9,none⟩) (by simp) (.slice D0 d.g.length e0));have y2:=U (show Blk (w2.setCell ⟨w.heap.size+1+1,9,none⟩ (.slice D0 d.g.length e0)) (w.heap.size+1+1) 35 #[int i64 d.s.g,int i64 d.s.c,int i64 d.s.data,int i64 d.s.p,int i64 d.s.rows,int i64 d.s.cap,int i64 d.s.b,int i64 d.s.q,int i64 d.s.t,.slice D0 d.g.length e0,.slice none 0 0,.slice none 0 0,int i64 0,int i64 0,.bool false]from Blk.set_ x2.o 9 (.slice D0 d.g.length e0));have R0:=U (show rSl 1 (Al 2 Ak) (w2.setCell ⟨w.heap.size+1+1,9,none⟩ (.slice D0 d.g.length e0)) g0 (.slice D0 d.g.length e0) d.g from(Q0.o.keep (Al.local_ Ak.local_) (AQ.set_ _ HG0.o (by simp) _)));refine(NH _ d.on f1 _ (rSl.below Az.local_ Az.fixed H1.o hB2) HS1.o).mono ?_;rintro e w3 ⟨D1,e1,g1,rfl,q1,hg1,b2⟩;clear s1 t1 p1 x0 x1 x2 X1 Q0;have x0:=U (Blk.below y0.o b2 y0.o.lt);have x1:=U (Blk.below y1.o b2 y1.o.lt);have x2:=U (Blk.below y2.o b2 y2.o.lt);have X1:=U ((hB2).trans (b2.mono (hB2).size));have HG1:=U (show∀a,a∈g1→w.heap.size+3≤a.block from fun a ha => by have:=hg1.from_ a ha;(try simp only[World.size_setCell]at this);omega);have Q1:=U q1;have M01:=U (M0.o.over T0.o b2);have M1:=U (show Aw w2.heap.size w3 g1 from by have h9:=hg1;rwa [World.size_setCell]at h9);have T1:=U (rSl.there Az.fixed q1);have L1:=U (show w2.heap.size≤w3.heap.size from by have h9:=b2.size;rwa [World.size_setCell]at h9);have Q0:=U (rSl.below (Al.local_ Ak.local_) (Al.fixed Ak.fixed) R0.o b2);have z3:w.heap.size+1+1<w3.heap.size:=x2.o.lt;clear z2 hg1 q1 b2 y0 y1 y2 hB2 R0;have z2:=z3;clear z3;have s2:=Blk.cell x2.o 10;have t2:=Blk.frozen x2.o 10;have p2:=Blk.cell x0.o 11;simp at p2 s2;go_wp2_with fail
 have hB2:Below w.heap.size w (w3.setCell ⟨w.heap.size+1+1,10,none⟩ (.slice D1 d.on.length e1)):=X1.o.setCell (show w.heap.size≤w.heap.size+1+1 by omega) _;have y0:=U (Blk.far x0.o (p:=⟨w.heap.size+1+1,10,none⟩) (by simp;omega) (.slice D1 d.on.length e1));have y1:=U (Blk.far x1.o (p:=⟨w.heap.size+1+1,10,none⟩) (by simp) (.slice D1 d.on.length e1));have y2:=U (show Blk (w3.setCell ⟨w.heap.size+1+1,10,none⟩ (.slice D1 d.on.length e1)) (w.heap.size+1+1) 35 #[int i64 d.s.g,int i64 d.s.c,int i64 d.s.data,int i64 d.s.p,int i64 d.s.rows,int i64 d.s.cap,int i64 d.s.b,int i64 d.s.q,int i64 d.s.t,.slice D0 d.g.length e0,.slice D1 d.on.length e1,.slice none 0 0,int i64 0,int i64 0,.bool false]from Blk.set_ x2.o 10 (.slice D1 d.on.length e1));have R0:=U (show rSl 1 (Al 2 Ak) (w3.setCell ⟨w.heap.size+1+1,10,none⟩ (.slice D1 d.on.length e1)) g0 (.slice D0 d.g.length e0) d.g from(Q0.o.keep (Al.local_ Ak.local_) (AQ.set_ _ HG0.o (by simp) _)));have R1:=U (show rSl 1 Az (w3.setCell ⟨w.heap.size+1+1,10,none⟩ (.slice D1 d.on.length e1)) g1 (.slice D1 d.on.length e1) d.on from(Q1.o.keep Az.local_ (AQ.set_ _ HG1.o (by simp) _)));refine(RE _ d.v f2 _ (rSl.below Ay.local_ Ay.fixed H2.o hB2) HS2.o).mono ?_;rintro e w4 ⟨D2,e2,g2,rfl,q2,hg2,b2⟩;clear s2 t2 p2 x0 x1 x2 X1 Q0 Q1;have x0:=U (Blk.below y0.o b2 y0.o.lt);have x1:=U (Blk.below y1.o b2 y1.o.lt);have x2:=U (Blk.below y2.o b2 y2.o.lt);have X1:=U ((hB2).trans (b2.mono (hB2).size));have HG2:=U (show∀a,a∈g2→w.heap.size+3≤a.block from fun a ha => by have:=hg2.from_ a ha;(try simp only[World.size_setCell]at this);omega);have Q2:=U q2;have M02:=U (M01.o.1.over M01.o.2 b2);have M12:=U (M1.o.over T1.o b2);have M2:=U (show Aw w3.heap.size w4 g2 from by have h9:=hg2;rwa [World.size_setCell]at h9);have Q0:=U (rSl.below (Al.local_ Ak.local_) (Al.fixed Ak.fixed) R0.o b2);have Q1:=U (rSl.below Az.local_ Az.fixed R1.o b2);have z3:w.heap.size+1+1<w4.heap.size:=x2.o.lt;clear z2 hg2 q2 b2 y0 y1 y2 hB2 R0 R1;have z2:=z3;clear z3;have s3:=Blk.cell x2.o 11;have t3:=Blk.frozen x2.o 11;have s4:=Blk.cell x2.o 12;have t4:=Blk.frozen x2.o 12;have s5:=Blk.cell x2.o 13;have t5:=Blk.frozen x2.o 13;have s6:=Blk.cell x2.o 14;have t6:=Blk.frozen x2.o 14;have p3:=Blk.cell x0.o 12;have p4:=Blk.cell x0.o 13;have p5:=Blk.cell x0.o 14;simp at s3 s4 s5 s6 p3 p4 p5;have K2:=U (show Blk ((((w4.setCell ⟨w.heap.size+1+1,11,none⟩ (.slice D2 d.v.length e2)).setCell ⟨w.heap.size+1+1,12,none⟩ (int i64 d.u)).setCell ⟨w.heap.size+1+1,13,none⟩ (int i64 d.stop)).setCell ⟨w.heap.size+1+1,14,none⟩ (.bool d.down)) (w.heap.size+1+1) 35 #[int i64 d.s.g,int i64 d.s.c,int i64 d.s.data,int i64 d.s.p,int i64 d.s.rows,int i64 d.s.cap,int i64 d.s.b,int i64 d.s.q,int i64 d.s.t,.slice D0 d.g.length e0,.slice D1 d.on.length e1,.slice D2 d.v.length e2,int i64 d.u,int i64 d.stop,.bool d.down]from Blk.set_ (Blk.set_ (Blk.set_ (Blk.set_ x2.o 11 (.slice D2 d.v.length e2)) 12 (int i64 d.u)) 13 (int i64 d.stop)) 14 (.bool d.down));have K1:=U (show Blk ((((w4.setCell ⟨w.heap.size+1+1,11,none⟩ (.slice D2 d.v.length e2)).setCell ⟨w.heap.size+1+1,12,none⟩ (int i64 d.u)).setCell ⟨w.heap.size+1+1,13,none⟩ (int i64 d.stop)).setCell ⟨w.heap.size+1+1,14,none⟩ (.bool d.down)) (w.heap.size+1) 35 #[int i64 0,int i64 0,int i64 0,int i64 0,int i64 0,int i64 0,int i64 0,int i64 0,int i64 0,.slice none 0 0,.slice none 0 0,.slice none 0 0,int i64 0,int i64 0,.bool false]from Blk.far (Blk.far (Blk.far (Blk.far x1.o (by simp) _) (by simp) _) (by simp) _) (by simp) _);have HRG:=U (Blk.range K2.o 0 [int i64 d.s.g,int i64 d.s.c,int i64 d.s.data,int i64 d.s.p,int i64 d.s.rows,int i64 d.s.cap,int i64 d.s.b,int i64 d.s.q,int i64 d.s.t,.slice D0 d.g.length e0,.slice D1 d.on.length e1,.slice D2 d.v.length e2,int i64 d.u,int i64 d.stop,.bool d.down] rfl);have HTH:=U (Blk.there K1.o 15 (by simp));go_wp2_with (first
  |(refine aD rfl 35 _ rfl (w.heap.size+1+1) 0 rfl [int i64 d.s.g,int i64 d.s.c,int i64 d.s.data,int i64 d.s.p,int i64 d.s.rows,int i64 d.s.cap,int i64 d.s.b,int i64 d.s.q,int i64 d.s.t,.slice D0 d.g.length e0,.slice D1 d.on.length e1,.slice D2 d.v.length e2,int i64 d.u,int i64 d.stop,.bool d.down] _ ?_ underlying35 rfl (by kernel_rfl) ?_;(focus (exact HRG.o)))
  |(refine aW rfl 35 _ _ rfl (w.heap.size+1) 0 #[int i64 d.s.g,int i64 d.s.c,int i64 d.s.data,int i64 d.s.p,int i64 d.s.rows,int i64 d.s.cap,int i64 d.s.b,int i64 d.s.q,int i64 d.s.t,.slice D0 d.g.length e0,.slice D1 d.on.length e1,.slice D2 d.v.length e2,int i64 d.u,int i64 d.stop,.bool d.down] rfl rfl ?_ (by kernel_rfl) (by simp[Value.oneCell']) ?_;(focus (exact HTH.o))))
 have KF:=K1.o.laid [int i64 d.s.g,int i64 d.s.c,int i64 d.s.data,int i64 d.s.p,int i64 d.s.rows,int i64 d.s.cap,int i64 d.s.b,int i64 d.s.q,int i64 d.s.t,.slice D0 d.g.length e0,.slice D1 d.on.length e1,.slice D2 d.v.length e2,int i64 d.u,int i64 d.stop,.bool d.down] rfl;refine bodyPost_ret (results_cell_row rfl _ _ (w.heap.size+1) 35 #[int i64 d.s.g,int i64 d.s.c,int i64 d.s.data,int i64 d.s.p,int i64 d.s.rows,int i64 d.s.cap,int i64 d.s.b,int i64 d.s.q,int i64 d.s.t,.slice D0 d.g.length e0,.slice D1 d.on.length e1,.slice D2 d.v.length e2,int i64 d.u,int i64 d.stop,.bool d.down] (0,0) _ rfl KF underlying35 rfl (by kernel_rfl)) rfl ?_;have hs0:∀(g:List Addr),(∀a,a∈g→w.heap.size+3≤a.block)→∀a,a∈g→w.heap.size≤a.block:=fun g hg a ha => by have:=hg a ha;omega
 refine⟨[int i64 d.s.g,int i64 d.s.c,int i64 d.s.data,int i64 d.s.p,int i64 d.s.rows,int i64 d.s.cap,int i64 d.s.b,int i64 d.s.q,int i64 d.s.t,.slice D0 d.g.length e0,.slice D1 d.on.length e1,.slice D2 d.v.length e2,int i64 d.u,int i64 d.stop,.bool d.down],g0 ++(g1 ++ g2),rfl,⟨_,_,_,g0,g1,g2,rfl,rfl,HOK.o.1,HOK.o.2.1,HOK.o.2.2.1,HOK.o.2.2.2.1,HOK.o.2.2.2.2.1,HOK.o.2.2.2.2.2.1,HOK.o.2.2.2.2.2.2.1,HOK.o.2.2.2.2.2.2.2.1,HOK.o.2.2.2.2.2.2.2.2.1,HOK.o.2.2.2.2.2.2.2.2.2.1,HOK.o.2.2.2.2.2.2.2.2.2.2,?_,?_,?_⟩,?_,?_⟩
 ·exact((((Q0.o.keep (Al.local_ Ak.local_) (AQ.set_ _ HG0.o (by simp) _)).keep (Al.local_ Ak.local_) (AQ.set_ _ HG0.o (by simp) _)).keep (Al.local_ Ak.local_) (AQ.set_ _ HG0.o (by simp) _)).keep (Al.local_ Ak.local_) (AQ.set_ _ HG0.o (by simp) _)).keep (Al.local_ Ak.local_) (FT _ _ _ _ fun a ha => by have:=HG0.o a ha;omega)
 ·exact((((Q1.o.keep Az.local_ (AQ.set_ _ HG1.o (by simp) _)).keep Az.local_ (AQ.set_ _ HG1.o (by simp) _)).keep Az.local_ (AQ.set_ _ HG1.o (by simp) _)).keep Az.local_ (AQ.set_ _ HG1.o (by simp) _)).keep Az.local_ (FT _ _ _ _ fun a ha => by have:=HG1.o a ha;omega)
 ·exact((((Q2.o.keep Ay.local_ (AQ.set_ _ HG2.o (by simp) _)).keep Ay.local_ (AQ.set_ _ HG2.o (by simp) _)).keep Ay.local_ (AQ.set_ _ HG2.o (by simp) _)).keep Ay.local_ (AQ.set_ _ HG2.o (by simp) _)).keep Ay.local_ (FT _ _ _ _ fun a ha => by have:=HG2.o a ha;omega)
 ·refine Aw.setCells _ _ _ _ (Aw.set_ (Aw.set_ (Aw.set_ (Aw.set_ ?_ _ _) _ _) _ _) _ _);exact Aw.append_ M02.o.1 (Aw.append_ M12.o.1 M2.o T1.o L1.o) T0.o L0.o
 ·exact Below.setCells_ _ _ _ _ (by omega) ((((X1.o.setCell (by simp;omega) _).setCell (by simp;omega) _).setCell (by simp;omega) _).setCell (by simp;omega) _)
