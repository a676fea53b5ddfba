/- Part 3 of the proof. -/
import Derived.Test.YtfjkoifpdoemdaaGreatJ00
import Derived.Lib.QuietBelow
set_option maxHeartbeats 8000000
set_option maxRecDepth 100000
set_option linter.unusedVariables false
set_option linter.unusedSimpArgs false
open Go.Proofs.Tryz
open Go.Value (int)
open Go.IntKind (i64)
namespace Go.Proofs.YtfjkoifpdoemdaaGreat
open Go.RowKit
structure Th where
 name:ByteArray
 lost:Bool
 bytes:List UInt8
deriving DecidableEq
def rTh:AB Th:=fun w fs cs d =>∃v,cs= [.string d.name,.bool d.lost,v]∧d.name.size≤9223372036854775807∧Ag w fs v d.bytes
theorem rTh.local_:Bi rTh:=fun _ _ _ _ _ ⟨v,e,hn,h⟩ hs =>⟨v,e,hn,rSl.keep Ai.local_ h hs⟩
theorem rTh.fixed:Bl rTh:=fun _ _ _ _ ⟨_,_,_,h⟩ => rSl.there Ai.fixed h
abbrev BM (w:World) (fs:List Addr) (v:Value) (ds:List Th):Prop:=rSl 3 rTh w fs v ds
theorem BM.below {w w':World} {fs:List Addr} {v:Value} {ds:List Th}(h:BM w fs v ds)(hb:Below w.heap.size w w'):BM w' fs v ds:=rSl.below rTh.local_ rTh.fixed h hb
def IK(w:World)(p:Addr)(d:Th)(A:Option Addr)(c:Nat):Prop :=
 w.cell? p=some (.string d.name)∧w.cell? ⟨p.block,p.off+1,none⟩=some (.bool d.lost)∧w.cell? ⟨p.block,p.off+2,none⟩=some (.slice A d.bytes.length c)
theorem IK.below {B:Nat} {w w':World} {p:Addr} {d:Th} {A:Option Addr} {c:Nat}(h:IK w p d A c)(hb:Below B w w')(hp:p.block<B):IK w' p d A c :=
 ⟨(hb.cell hp).trans h.1,(hb.cell (p:=⟨p.block,p.off+1,none⟩) hp).trans h.2.1,(hb.cell (p:=⟨p.block,p.off+2,none⟩) hp).trans h.2.2⟩
theorem BM.open_ {w:World} {fs:List Addr} {v:Value} {ds:List Th}(h:BM w fs v ds) :
  ∃A c,v= .slice A ds.length c∧ds.length≤c∧c≤9223372036854775807∧∀k,(hk:k<ds.length)→∃ad A2 c2 fk,A=some ad∧(ad.add (k * 3)).block <w.heap.size∧
   IK w (ad.add (k * 3)) ds[k] A2 c2∧ds[k].name.size≤9223372036854775807∧Ag w fk (.slice A2 ds[k].bytes.length c2) ds[k].bytes∧CX fk w∧(∀a,a∈fk→a∈fs)∧(∀q,q<3→ad.add (k * 3+q)∈fs):=by
 obtain⟨A,c,e,h1,h2,h3⟩:=h;refine⟨A,c,e,h1,by omega,fun k hk => ?_⟩;rcases h3 with⟨rfl,_⟩|⟨ad,css,fss,e1,e2,e3,e4,h3⟩
 ·cases hk
 ·obtain⟨q1,q2,q3,q4,v2,q6,q7,q8⟩:=h3 k hk;obtain⟨A2,c2,rfl,-⟩:=q8.form;have p0:=q4 0 (by omega);have p1:=q4 1 (by omega);have p2:=q4 2 (by omega);simp only[q6,aU,bM,bE]at p0 p1 p2;rw[Jp ad (k * 3) 0]at p1;rw[Jp ad (k * 3) 1]at p2;refine⟨ad,A2,c2,fss[k],e1,World.block_lt_of_cell? _ _ p0,⟨p0,p1,p2⟩,q7,q8,rSl.there Ai.fixed q8,fun a ha => ?_,fun q hq => ?_⟩
  ·rw[e4];exact aT _ (List.mem_flatten.2 ⟨_,aN q2,ha⟩)
  ·rw[e4];exact aX _ (Bb.2 ⟨k * 3+q,by omega,rfl⟩)
def Cp:List Th→Nat
 | [] => 0
 |d :: r => d.name.size+d.bytes.length+Cp r
theorem Lb:∀(l:List Th) (d:Th),Cp (l ++ [d])=Cp l+(d.name.size+d.bytes.length)
 | [],d => by simp[Cp]
 |a :: r,d => by simp only[List.cons_append,Cp,Lb r d];omega
theorem PP {l:List Th} {k:Nat}(h:k<l.length):Cp (l.take (k+1))=Cp (l.take k)+(l[k].name.size +l[k].bytes.length):=by
 rw[aM h,Lb]
theorem Lc:∀(l:List Th) (k:Nat),Cp (l.take k)≤Cp l
 | [],k => by simp[Cp]
 |a :: r,0 => by simp[Cp]
 |a :: r,k+1 => by
  have:=Lc r k;simp only[List.take_succ_cons,Cp];omega
theorem Me {l:List Th} {k:Nat}(h:k<l.length):l[k].name.size≤Cp l∧l[k].bytes.length≤Cp l:=by
 have:=PP h;have:=Lc l (k+1);omega
end Go.Proofs.YtfjkoifpdoemdaaGreat
namespace Go.Proofs.YtfjkoifpdoemdaaGreat
open Go.RowKit Go.Sort
theorem OJ {a b:ByteArray}(h:a=b):(!a.toList == b.toList)=false:=by subst h;simp
theorem OK {a b:ByteArray}(h:a≠b):(!a.toList == b.toList)=true:=by
 have:a.toList≠b.toList:=fun e => h (WideShapes.bytes_inj (by rwa [ByteArray.toList_eq,ByteArray.toList_eq]at e))
 simpa using this
theorem Jz {a b:ByteArray}(h:a=b):(a.toList == b.toList)=true:=by subst h;simp
theorem Gx {a b:ByteArray}(h:a≠b):(a.toList == b.toList)=false:=by
 have:=OK h;simpa using this
theorem Qj(d1 d2:Th)(v1 v2:Value)(f1 f2:List Addr)(w:World)(h1:Ag w f1 v1 d1.bytes)(h2:Ag w f2 v2 d2.bytes) :
  Calls prog 140 #[.agg #[.string d1.name,.bool d1.lost,v1],.agg #[.string d2.name,.bool d2.lost,v2]] w fun e w' => e= .returned (.bool (decide (d1=d2)))∧Below w.heap.size w w':=by
 obtain⟨n1,l1,b1⟩:=d1;obtain⟨n2,l2,b2⟩:=d2;simp only at h1 h2⊢;have H1:=U h1;have H2:=U h2;obtain⟨A1,c1,rfl,-⟩:=h1.form;obtain⟨A2,c2,rfl,-⟩:=h2.form;clear h1 h2;have B1:Below w.heap.size w ((w.alloc (.cells #[.string n1,.bool l1,.slice A1 b1.length c1] 126)).alloc (.cells #[.string n2,.bool l2,.slice A2 b2.length c2] 126)):=((aB _ _).alloc (aC _) _).alloc (by simp) _;have BB:=U B1;clear B1;by_cases hn:n1=n2
 ·have hb:=OJ hn;have HN:=U hn;clear hn;by_cases hl:l1=l2
  ·subst hl;have hfin:decide ((⟨n1,l1,b1⟩:Th)=⟨n2,l1,b2⟩)=decide (b1=b2):=by rw[HN.o];simp
   rw[hfin];clear hfin;go_enter func140,ntmps140
   go_wp2_with fail
   refine(GS _ _ b1 b2 f1 f2 _ (H1.o.below BB.o) (H2.o.below BB.o)).mono ?_;rintro e w1 ⟨rfl,hb1⟩;have B2:=U (BB.o.trans (hb1.mono BB.o.size));clear hb1;by_cases hbb:b1=b2
   ·have hd:decide (b1=b2)=true:=aK hbb;rw[hd];have HD:=U hd;clear hd hbb;go_wp2_with fail
    go_ret
    exact⟨Cq HD.o.symm,B2.o⟩
   ·have hd:decide (b1=b2)=false:=aG hbb;rw[hd];have HD:=U hd;clear hd hbb;go_wp2_with fail
    go_ret
    exact⟨Cq HD.o.symm,B2.o⟩
  ·have hfin:decide ((⟨n1,l1,b1⟩:Th)=⟨n2,l2,b2⟩)=false:=by simp[hl]
   rw[hfin];clear hfin;have hx:(!l1 == l2)=true:=by simpa using hl
   clear hl;go_enter func140,ntmps140
   go_wp2_with fail
   go_ret
   exact⟨rfl,BB.o⟩
 ·have hfin:decide ((⟨n1,l1,b1⟩:Th)=⟨n2,l2,b2⟩)=false:=by simp[hn]
  rw[hfin];clear hfin;have hb:=OK hn;clear hn;go_enter func140,ntmps140
  go_wp2_with fail
  go_ret
  exact⟨rfl,BB.o⟩
theorem O0(v1 v2:Value)(xs ys:List Th)(f1 f2:List Addr)(w:World)(h1:BM w f1 v1 xs)(h2:BM w f2 v2 ys) :
  Calls prog 77 #[v1,v2] w fun e w' => e= .returned (.bool (decide (xs=ys)))∧Below w.heap.size w w':=by
 obtain⟨A1,c1,rfl,hc1,hm1,hx⟩:=BM.open_ h1;obtain⟨A2,c2,rfl,hc2,hm2,hy⟩:=BM.open_ h2;clear h1 h2;obtain⟨rb,hrb⟩:∃rb,decide (xs=ys)=rb:=⟨_,rfl⟩;rw[hrb];have RB:=U hrb;clear hrb;have HX:=U hx;have HY:=U hy;clear hx hy;by_cases hl:xs.length=ys.length
 ·have hb:=Db hl;have HL:=U hl;clear hl;go_enter func77,ntmps77
  go_wp2
  go_loopw [4,5] (fun r i wr =>∃k:Nat,k≤xs.length∧i= int i64 k∧r= .bool false∧xs.take k=ys.take k∧Below w.heap.size w wr) (fun _ i _ => xs.length - (intOf i).toNat)
  case atStart => exact⟨0,by omega,rfl,rfl,by simp,aB _ _⟩
  case round =>
   obtain⟨k,hk,rfl,rfl,ht,hbl⟩:=hrel;have HT:=U ht;clear ht;by_cases hlt:k<xs.length
   ·have hlt2:k<ys.length:=by rw[← HL.o];exact hlt
    obtain⟨a1,A3,c3,g1,e1,b1,at1,-,rb1,th1,-,-⟩:=HX.o k hlt;obtain⟨a2,A4,c4,g2,e2,b2,at2,-,rb2,th2,-,-⟩:=HY.o k hlt2;subst e1 e2;obtain⟨p0,p1,p2⟩:=at1.below hbl b1;obtain⟨q0,q1,q2⟩:=at2.below hbl b2;have R1:=U (rSl.keep Ai.local_ rb1 (AQ.of_below th1 hbl));have R2:=U (rSl.keep Ai.local_ rb2 (AQ.of_below th2 hbl));have HB:=U hbl;have hc:∀d os,Calls prog 140 #[.agg #[.string xs[k].name,.bool xs[k].lost,.slice A3 xs[k].bytes.length c3],.agg #[.string ys[k].name,.bool ys[k].lost,.slice A4 ys[k].bytes.length c4]] (grow (redrawn wr d) os) fun e w'' => e= .returned (.bool (decide (xs[k] =ys[k])))∧∃p:Regrown,w''=grow (redrawn wr p.d) p.os :=
     fun d os => Calls.regrown_of (Qj xs[k] ys[k] _ _ g1 g2 _ (rSl.below Ai.local_ Ai.fixed R1.o (aH wr d os)) (rSl.below Ai.local_ Ai.fixed R2.o (aH wr d os)))
    obtain⟨bb,hbb⟩:∃bb,decide (xs[k] =ys[k])=bb:=⟨_,rfl⟩;rw[hbb]at hc;have HBB:=U hbb;clear hbb;have HC:=U hc;clear hc;have p0':=aA p0;have p1':=aA p1;have p2':=aA p2;have q0':=aA q0;have q1':=aA q1;have q2':=aA q2;clear rb1 rb2 th1 th2 at1 at2 HX HY hbl p0 p1 p2 q0 q1 q2;go_wp2_with fail
    refine aF (by kernel_rfl) (by kernel_rfl) ?_;repeat(first|go_big_quiet_step (exact HC.o _ _)|quiet_step (exact HC.o _ _))
    refine aP ?_;intro _ hw';obtain⟨⟨dq,osq⟩,hw''⟩:=hw';subst hw'';have HB1:=U (HB.o.trans ((aH wr dq osq).mono HB.o.size));cases bb with
    |true =>
     have he:=bO HBB.o;have HE:=U he;clear he;go_wp2_with fail
     go_roundw
     case rel => exact⟨k+1,by omega,by go_num,rfl,FO HT.o hlt hlt2 HE.o,HB1.o⟩
     case measure => simp[intOf];omega
    |false =>
     have he:=of_decide_eq_false HBB.o;have e1:rb=false:=by rw[← RB.o];exact aG (fun e => he (by subst e;rfl))
     subst e1;clear he;go_wp2_with fail
     go_ret
     exact⟨rfl,HB1.o⟩
   ·have hk':k=xs.length:=by omega
    have H:=HT.o;rw[hk',aV,HL.o,aV]at H;have e1:rb=true:=by rw[← RB.o];exact aK H
    subst e1;have HB:=U hbl;clear H hk' HX HY hbl;go_wp2
    go_ret
    exact⟨rfl,HB.o⟩
 ·have hb:=Dc hl;have e1:rb=false:=by rw[← RB.o];exact aG (fun e => hl (by rw[e]))
  subst e1;clear HX HY;go_enter func77,ntmps77
  go_wp2
  go_ret
  exact⟨rfl,aB _ _⟩
end Go.Proofs.YtfjkoifpdoemdaaGreat
namespace Go.Proofs.YtfjkoifpdoemdaaGreat
open Go.RowKit
theorem BM.upd {w:World} {fs:List Addr} {v:Value} {ds:List Th}(h:BM w fs v ds)(hn:fs.Nodup)(j:Nat)(hj:j<ds.length) :
  ∃ad c A2 c2 fk,v= .slice (some ad) ds.length c∧(ad.add (j * 3)).block <w.heap.size∧IK w (ad.add (j * 3)) ds[j] A2 c2∧Ag w fk (.slice A2 ds[j].bytes.length c2) ds[j].bytes∧CX fk w∧(∀a,a∈fk→a∈fs)∧fk.Nodup∧
   ad.add (j * 3)∈fs∧(⟨(ad.add (j * 3)).block,(ad.add (j * 3)).off +1,none⟩:Addr)∈fs∧(⟨(ad.add (j * 3)).block,(ad.add (j * 3)).off +2,none⟩:Addr)∈fs∧
   ad.add (j * 3)∉fk∧(⟨(ad.add (j * 3)).block,(ad.add (j * 3)).off +1,none⟩:Addr)∉fk∧(⟨(ad.add (j * 3)).block,(ad.add (j * 3)).off +2,none⟩:Addr)∉fk∧
   (∀(w':World) (d':Th),d'.bytes.length=ds[j].bytes.length→d'.name.size≤9223372036854775807→
    (∀a,a∈fs→a≠ad.add (j * 3)→a≠⟨(ad.add (j * 3)).block,(ad.add (j * 3)).off +1,none⟩→a≠⟨(ad.add (j * 3)).block,(ad.add (j * 3)).off +2,none⟩→a∉fk→w'.cell? a=w.cell? a)→
    IK w' (ad.add (j * 3)) d' A2 c2→Ag w' fk (.slice A2 ds[j].bytes.length c2) d'.bytes→BM w' fs v (ds.set j d')):=by
 obtain⟨A,c,e,h1,h2,h3⟩:=h;rcases h3 with⟨rfl,_⟩|⟨ad,css,fss,e1,e2,e3,e4,h3⟩
 ·cases hj
 obtain⟨q1,q2,q3,q4,v2,q6,q7,q8⟩:=h3 j hj;obtain⟨A2,c2,rfl,-⟩:=q8.form;have p0:=q4 0 (by omega);have p1:=q4 1 (by omega);have p2:=q4 2 (by omega);simp only[q6,aU,bM,bE]at p0 p1 p2;have a1:=Jp ad (j * 3) 0;have a2:=Jp ad (j * 3) 1;simp only[Nat.zero_add,Nat.reduceAdd]at a1 a2;rw[a1]at p1;rw[a2]at p2;subst e4;have hn':=hn;unfold List.Nodup at hn';rw[List.pairwise_append]at hn';obtain⟨hn1,hn2,hn3⟩:=hn';have inrow:∀q,q<ds.length * 3→ad.add q∈AV ad (ds.length * 3):=fun q hq => Bb.2 ⟨q,hq,rfl⟩
 have infl:∀i,(hi:i<fss.length)→∀a,a∈fss[i]→a∈fss.flatten:=fun i hi a ha => List.mem_flatten.2 ⟨_,aN hi,ha⟩
 have rowne:∀q,q<ds.length * 3→∀a,a∈fss.flatten→a≠ad.add q:=fun q hq a ha e => hn3 _ (inrow q hq) _ ha e.symm
 refine⟨ad,c,A2,c2,fss[j],by rw[e,e1],World.block_lt_of_cell? _ _ p0,⟨p0,p1,p2⟩,q8,rSl.there Ai.fixed q8,fun a ha => aT _ (infl j q2 a ha),?_,aX _ (inrow _ (by omega)),?_,?_,?_,?_,?_,?_⟩
 ·have:=List.pairwise_flatten.1 hn2;exact this.1 _ (aN q2)
 ·rw[← a1];exact aX _ (inrow _ (by omega))
 ·rw[← a2];exact aX _ (inrow _ (by omega))
 ·exact fun ha => rowne (j * 3) (by omega) _ (infl j q2 _ ha) rfl
 ·rw[← a1];exact fun ha => rowne (j * 3+1) (by omega) _ (infl j q2 _ ha) rfl
 ·rw[← a2];exact fun ha => rowne (j * 3+2) (by omega) _ (infl j q2 _ ha) rfl
 ·intro w' d' hlen hname hsame hat hrb;rw[← a1,← a2]at hsame;obtain⟨t0,t1,t2⟩:=hat;rw[← a1]at t1;rw[← a2]at t2;refine⟨A,c,by rw[e];simp,by simpa using h1,h2,.inr ⟨ad,css.set j [.string d'.name,.bool d'.lost,.slice A2 ds[j].bytes.length c2],fss,e1,by simpa using e2,by simpa using e3,by simp,fun i hi => ?_⟩⟩;have hi':i<ds.length:=by simpa using hi
  obtain⟨r1,r2,r3,r4,r5⟩:=h3 i hi';by_cases hij:i=j
  ·subst hij;refine⟨by simpa using r1,r2,by simp,fun q hq => ?_,?_⟩
   ·simp only[List.getElem_set_self]at hq⊢;match q,hq with
    |0,_ => exact t0
    |1,_ => exact t1
    |2,_ => rw[hlen]at t2;exact t2
   ·simp only[List.getElem_set_self];exact⟨_,rfl,hname,hrb⟩
  ·refine⟨by simpa using r1,r2,?_,fun q hq => ?_,?_⟩
   ·rw[List.getElem_set_ne (Ne.symm hij)];exact r3
   ·simp only[List.getElem_set_ne (Ne.symm hij)]at hq⊢;have hq3:q<3:=by omega
    have inj:∀q',q'<3→ad.add (i * 3+q)≠ad.add (j * 3+q'):=fun q' hq' e => by
     have:=F1 hn1 (i:=i * 3+q) (j:=j * 3+q') (by omega) (by omega) e;omega
    rw[hsame _ (aX _ (inrow _ (by omega))) (inj 0 (by omega)) (inj 1 (by omega)) (inj 2 (by omega)) (fun ha => rowne _ (by omega) _ (infl j q2 _ ha) rfl)];exact r4 q hq
   ·simp only[List.getElem_set_ne (Ne.symm hij)];refine rTh.local_ _ _ _ _ _ r5 fun a ha => ?_
    have hf:=infl i r2 a ha;exact hsame a (aT _ hf) (rowne (j * 3) (by omega) a hf) (rowne (j * 3+1) (by omega) a hf) (rowne (j * 3+2) (by omega) a hf) (IY hn2 r2 q2 hij ha)
end Go.Proofs.YtfjkoifpdoemdaaGreat
namespace Go.Proofs.YtfjkoifpdoemdaaGreat
open Go.RowKit Go.Sort
def Ff(k:Nat)(d:Th):Th:=⟨mkT k,decide ((k+1) % 3=0),BC (k+2) d.bytes.length⟩
def Bg:List Th→Nat
 | [] => 0
 |d :: r => 2+d.bytes.length+Bg r
def Cj:Nat→List Th→List Th
 |_,[] => []
 |k,d :: r => Ff k d :: Cj (k+2+d.bytes.length) r
theorem KA:∀(l:List Th) (d:Th),Bg (l ++ [d])=Bg l+(2+d.bytes.length)
 | [],d => by simp[Bg]
 |a :: r,d => by simp only[List.cons_append,Bg,KA r d];omega
theorem JH:∀(k:Nat) (l:List Th) (d:Th),Cj k (l ++ [d])=Cj k l ++ [Ff (k+Bg l) d]
 |k,[],d => by simp[Cj,Bg]
 |k,a :: r,d => by
  simp only[List.cons_append,Cj,JH _ r d,Bg];rw[show k+2+a.bytes.length+Bg r=k+(2+a.bytes.length+Bg r)from by omega]
theorem D8:∀(k:Nat) (l:List Th),(Cj k l).length =l.length
 |_,[] => rfl
 |k,a :: r => by simp[Cj,D8 _ r]
theorem KC {l:List Th} {k:Nat}(h:k<l.length):Bg (l.take (k+1))=Bg (l.take k)+(2+l[k].bytes.length):=by
 rw[aM h,KA]
theorem J2:∀(l:List Th),Bg l≤2 * l.length+Cp l
 | [] => by simp[Bg]
 |a :: r => by have:=J2 r;simp only[Bg,List.length_cons,Cp];omega
theorem Gb:∀(l:List Th) (k:Nat),Bg (l.take k)≤Bg l
 | [],k => by simp[Bg]
 |a :: r,0 => by simp[Bg]
 |a :: r,k+1 => by
  have:=Gb r k;simp only[List.take_succ_cons,Bg];omega
def stage(k:Nat)(ds:List Th)(j:Nat):List Th:=Cj k (ds.take j) ++ ds.drop j
theorem ND(k:Nat)(ds:List Th)(j:Nat)(h:j≤ds.length):(stage k ds j).length =ds.length:=by
 unfold stage;rw[bC,D8,aQ,bU];omega
theorem PL(k:Nat)(ds:List Th):stage k ds 0=ds:=by simp[stage,Cj]
theorem Ro(k:Nat)(ds:List Th):stage k ds ds.length=Cj k ds:=by simp[stage]
theorem Rp(k:Nat)(ds:List Th)(j:Nat)(h:j<ds.length)(h2:j<(stage k ds j).length):(stage k ds j)[j] =ds[j]:=by
 have hl:(Cj k (ds.take j)).length =j:=by rw[D8,aQ];omega
 unfold stage at h2⊢;rw[List.getElem_append_right (by omega)];simp[hl]
theorem Rq(k:Nat)(ds:List Th)(j:Nat)(h:j<ds.length):(stage k ds j).set j (Ff (k+Bg (ds.take j)) ds[j])=stage k ds (j+1):=by
 have hl:(Cj k (ds.take j)).length =j:=by rw[D8,aQ];omega
 unfold stage;rw[List.set_append_right _ _ (by omega),hl,Nat.sub_self,List.drop_eq_getElem_cons h,List.set_cons_zero,aM h,JH];simp
theorem mod3T(c:Nat):(((c:Int)+1) % 3 == 0)=decide ((c+1) % 3=0):=by
 by_cases h:(c+1) % 3=0
 ·rw[aK h];simp;omega
 ·rw[aG h];simp;omega
theorem Ni(v:Value)(ds:List Th)(fs:List Addr)(w:World)(k lo:Nat)(h1:BM w fs v ds)(hm:Aw lo w fs)(hk:0<k)(hk0:k≤1000000000)(hsm:ds.length+Cp ds≤10000000000) :
  Calls prog 78 #[v,int i64 (k:Int)] w fun e w' => e= .returned (int i64 ((k+Bg ds:Nat):Int))∧AD fs w w'∧BM w' fs v (Cj k ds):=by
 have H1:=U h1;have HM:=U hm;obtain⟨A1,c1,rfl,hc1,hm1,-⟩:=BM.open_ h1;clear h1 hm;have hmn:Bg ds≤20000000000:=by have:=J2 ds;omega
 obtain⟨R,hR⟩:∃R:Nat,k+Bg ds=R:=⟨_,rfl⟩;rw[hR];have HR:=U hR;clear hR;go_enter func78,ntmps78
 go_wp2
 go_loopw [1,5] (fun n i wr =>∃(j c:Nat),j≤ds.length∧c=k+Bg (ds.take j)∧i= int i64 j∧n= int i64 c∧BM wr fs (.slice A1 ds.length c1) (stage k ds j)∧AD fs w wr) (fun _ i _ => ds.length - (intOf i).toNat)
 case atStart => exact⟨0,k,by omega,by simp[Bg],rfl,rfl,by rw[PL];exact H1.o,AD.refl _ _⟩
 case round =>
  obtain⟨j,c,hj,hc,rfl,rfl,hrt,hwr⟩:=hrel;have hmt:=Gb ds j;by_cases hlt:j<ds.length
  ·have hM2:Aw lo wr fs:=HM.o.wrote hwr (rSl.there rTh.fixed H1.o);have hsl:=ND k ds j hj;obtain⟨ad,c0,A2,c2,fk,ev,pb,hat,hrb,hth,hin,hnd,m0,m1,m2,x0,x1,x2,hupd⟩:=BM.upd hrt hM2.nodup j (by omega);have hsg:=Rp k ds j hlt (by omega);rw[hsg]at hat hrb hupd;injection ev with ev1 ev2 ev3
   subst ev1 ev3;have hbl:ds[j].bytes.length≤10000000000:=by have:=(Me hlt).2;omega
   have hcb:c≤30000000000:=by omega
   obtain⟨b,o,hP⟩:∃b o,ad.add (j * 3)=⟨b,o,none⟩:=⟨(ad.add (j * 3)).block,(ad.add (j * 3)).off,by
    have:=World.cell?_spot hat.1;generalize ad.add (j * 3)=P at this;cases P
    simp only at this;subst this;rfl⟩
   rw[hP]at pb hat hupd m0 m1 m2 x0 x1 x2;dsimp only at pb hupd m1 m2 x1 x2;have hc1t:=LU c (by omega);have HUPD:=U hupd;have HC:=U hc;have HW:=U hwr;have HM2:=U hM2;have HAT:=U hat;have HRB:=U hrb;have HIN:=U hin;have HSL:=U hsl;have HND:=U hnd;have HTH:=U hth;have HX0:=U x0;have HX1:=U x1;have HX2:=U x2;have HM0:=U m0;have HM1:=U m1;have HMm2:=U m2;clear hupd hc hwr hM2 hat hrb hin hsl hnd hth x0 x1 x2 m0 m1 m2 hrt hsg ev2;go_wp2_with fail
   refine(It c wr (by have:=HC.o;omega) (by omega)).mono ?_;rintro e w1 ⟨rfl,hb1⟩;obtain⟨p0,p1,p2⟩:=HAT.o.below hb1 pb;dsimp only at p1 p2;have f0:w1.frozen? ⟨b,o,none⟩=false:=(hb1.frozen (p:=⟨b,o,none⟩) pb).trans (HM2.o.free _ HM0.o);have f1:w1.frozen? ⟨b,o+1,none⟩=false:=(hb1.frozen (p:=⟨b,o+1,none⟩) pb).trans (HM2.o.free _ HM1.o);have f2:w1.frozen? ⟨b,o+2,none⟩=false:=(hb1.frozen (p:=⟨b,o+2,none⟩) pb).trans (HM2.o.free _ HMm2.o);have hp1:b<w1.heap.size:=aE pb hb1.size;have HB1:=U hb1;clear hb1;obtain⟨L,hL⟩:∃L,decide ((c+1) % 3=0)=L:=⟨_,rfl⟩;have hm3:(((c:Int)+1) % 3 == 0)=L:=(mod3T c).trans hL;have HL:=U hL;clear hL;go_wp2_with fail
   obtain⟨W2,hW2⟩:∃W2,(w1.setCell ⟨b,o,none⟩ (.string (mkT c))).setCell ⟨b,o+1,none⟩ (.bool L)=W2:=⟨_,rfl⟩;have hWr2:AD fs wr W2:=by rw[← hW2];exact((AD.of_below HB1.o).setCell HM0.o _).setCell HM1.o _
   have hsz2:W2.heap.size=w1.heap.size:=by rw[← hW2];simp[World.setCell]
   have hoth:∀a:Addr,a≠⟨b,o,none⟩→a≠⟨b,o+1,none⟩→W2.cell? a=w1.cell? a:=fun a h1 h2 => by
    rw[← hW2,World.cell?_setCell_other _ _ _ _ (Ne.symm h2),World.cell?_setCell_other _ _ _ _ (Ne.symm h1)]
   have hrb2:Ag W2 fk (.slice A2 ds[j].bytes.length c2) ds[j].bytes:=rSl.keep Ai.local_ HRB.o fun a ha => by
    rw[hoth a (fun e => HX0.o (by rw[← e];exact ha)) (fun e => HX1.o (by rw[← e];exact ha))];exact HB1.o.cell (HTH.o a ha)
   have hmfk:Aw lo W2 fk:=⟨HND.o,fun a ha => HM2.o.from_ a (HIN.o a ha),fun a ha =>(hWr2.frozen a (HTH.o a ha)).trans (HM2.o.free a (HIN.o a ha))⟩;have s0:W2.cell? ⟨b,o,none⟩=some (.string (mkT c)):=by
    rw[← hW2,World.cell?_setCell_other _ _ _ _ (by simp),World.cell?_setCell_same _ _ _ p0]
   have s1:W2.cell? ⟨b,o+1,none⟩=some (.bool L):=by
    rw[← hW2];exact World.cell?_setCell_same _ _ _ (by rw[World.cell?_setCell_other _ _ _ _ (by simp)];exact p1)
   have s2:W2.cell? ⟨b,o+2,none⟩=some (.slice A2 ds[j].bytes.length c2):=(hoth _ (by simp) (by simp)).trans p2;rw[hW2,show((c:Int)+1+1)=((c+2:Nat):Int)from by omega];have S0:=U s0;have S1:=U s1;have S2:=U s2;have HO:=U hoth;have HW2:=U hWr2;have HS2:=U hsz2;clear hW2 s0 s1 s2 hoth hWr2 p0 p1 p2 f0 f1 f2 hm3 hsz2;refine(JG _ ds[j].bytes fk W2 (c+2) lo hrb2 hmfk (by omega) (by omega)).mono ?_;rintro e w3 ⟨rfl,hw3,hr3⟩;have HW3:=U hw3;have HR3:=U hr3;clear hw3 hr3 hrb2 hmfk;have hst:Cp ds=Cp ds:=rfl;go_wp2_with fail
   go_roundw
   case rel =>
    have hlen:(Ff c ds[j]).bytes.length =ds[j].bytes.length:=by simp[Ff,BN]
    have hfs:∀a,a∈fk→a.block<W2.heap.size:=fun a ha => aE (HTH.o a ha) HW2.o.size
    have hb2:b<W2.heap.size:=by rw[HS2.o];exact hp1
    have t0:=(HW3.o.cell ⟨b,o,none⟩ HX0.o hb2).trans S0.o;have t1:=(HW3.o.cell ⟨b,o+1,none⟩ HX1.o hb2).trans S1.o;have t2:=(HW3.o.cell ⟨b,o+2,none⟩ HX2.o hb2).trans S2.o;have hnew:=HUPD.o w3 (Ff c ds[j]) hlen hc1t (fun a ha h0 h1 h2 h3 => by
      have hwa:a.block<wr.heap.size:=by
       have:=rSl.there rTh.fixed H1.o a ha;exact aE this HW.o.size
      rw[HW3.o.cell a h3 (aE hwa HW2.o.size),HO.o a h0 h1];exact HB1.o.cell hwa)
     ⟨t0,by rw[HL.o.symm]at t1;exact t1,by rw[hlen];exact t2⟩ HR3.o
    rw[show c=k+Bg (ds.take j)from HC.o,Rq k ds j hlt]at hnew;refine⟨j+1,c+2+ds[j].bytes.length,by omega,?_,by go_num,by congr 1,hnew,(HW.o.trans HW2.o).trans (HW3.o.mono HIN.o)⟩;rw[KC hlt,HC.o];omega
   case measure => simp[intOf];omega
  ·have hje:j=ds.length:=by omega
   subst hje;rw[Ro]at hrt;rw[aV,HR.o]at hc;subst hc;have HW:=U hwr;have HRT:=U hrt;clear hwr hrt;go_wp2_with fail
   go_ret
   exact⟨rfl,HW.o,HRT.o⟩
theorem KD:∀(k:Nat) (ds:List Th) (j:Nat) (h:j<ds.length) (h2:j<(Cj k ds).length),(Cj k ds)[j] =Ff (k+Bg (ds.take j)) ds[j]
 |_,[],_,h,_ => by cases h
 |k,d :: r,0,_,_ => by simp[Cj,Bg]
 |k,d :: r,j+1,h,h2 => by
  simp only[Cj,bM,List.take_succ_cons,Bg];rw[KD _ r j (by simpa using h)];rw[show k+2+d.bytes.length+Bg (r.take j)=k+(2+d.bytes.length+Bg (r.take j))from by omega]
theorem MQ(v:Value)(ds:List Th)(fs:List Addr)(w:World)(k:Nat)(h1:BM w fs v (Cj k ds))(hk:0<k)(hk0:k≤1000000000)(hsm:ds.length+Cp ds≤10000000000) :
  Calls prog 79 #[v,int i64 (k:Int)] w fun e w' => e= .returned (int i64 ((k+Bg ds:Nat):Int))∧Below w.heap.size w w':=by
 have hml:=D8 k ds;obtain⟨A1,c1,rfl,hc1,hm1,hx⟩:=BM.open_ h1;have H1:=U h1;clear h1;have HX:=U hx;clear hx;have hmn:Bg ds≤20000000000:=by have:=J2 ds;omega
 obtain⟨R,hR⟩:∃R:Nat,k+Bg ds=R:=⟨_,rfl⟩;rw[hR];have HR:=U hR;clear hR;rw[hml]at hc1⊢;have HML:=U hml;clear hml;go_enter func79,ntmps79
 go_wp2
 go_loopw [1,4,5] (fun n r i wr =>∃(j c:Nat),j≤ds.length∧c=k+Bg (ds.take j)∧i= int i64 j∧n= int i64 c∧r= int i64 0∧Below w.heap.size w wr) (fun _ _ i _ => ds.length - (intOf i).toNat)
 case atStart => exact⟨0,k,by omega,by simp[Bg],rfl,rfl,rfl,aB _ _⟩
 case round =>
  obtain⟨j,c,hj,hc,rfl,rfl,rfl,hb⟩:=hrel;have hmt:=Gb ds j;by_cases hlt:j<ds.length
  ·have hlt2:j<(Cj k ds).length:=by rw[HML.o];exact hlt
   have hget:=KD k ds j hlt hlt2;rw[← hc]at hget;obtain⟨ad,A2,c2,fk,e1,b0,hat,hns,hrb,hth,-,-⟩:=HX.o j hlt2;rw[hget]at hat hrb;simp only[IK,Ff]at hat hrb;have hlen:(BC (c+2) ds[j].bytes.length).length =ds[j].bytes.length:=BN _ _;have hat2:IK w (ad.add (j * 3)) ⟨mkT c,decide ((c+1) % 3=0),BC (c+2) ds[j].bytes.length⟩ A2 c2:=hat;subst e1;obtain⟨p0,p1,p2⟩:=hat2.below hb b0;simp only[hlen]at p2;have hrb2:Ag wr fk (.slice A2 ds[j].bytes.length c2) (BC (c+2) ds[j].bytes.length):=by
    have:=rSl.keep Ai.local_ hrb (AQ.of_below hth hb);rwa [hlen]at this
   have hbl:ds[j].bytes.length≤10000000000:=by have:=(Me hlt).2;omega
   have hcb:c≤30000000000:=by omega
   obtain⟨L,hL⟩:∃L,decide ((c+1) % 3=0)=L:=⟨_,rfl⟩;have hm3:(((c:Int)+1) % 3 == 0)=L:=(mod3T c).trans hL;simp only[hL]at p1;have p0':=aA p0;have hT:=OJ (rfl:mkT c=mkT c);have HCt:=U (fun d os => Calls.regrown_of (It c (grow (redrawn wr d) os) (by omega) (by omega)));have hw1:(ad.add (j * 3)).block <wr.heap.size:=aE b0 hb.size;have HB:=U hb;have HC:=U hc;have HRB:=U hrb2;have HP1:=U p1;have HP2:=U p2;have HLEN:=U hlen;have HM3:=U hm3;clear hat hat2 hrb hth hb hc hrb2 hget HX hL p0 p1 p2 hlen hm3;obtain⟨T,hTT⟩:∃T,mkT c=T:=⟨_,rfl⟩;rw[hTT]at p0' hT HCt;clear hTT;go_wp2_with fail
   refine aF (by kernel_rfl) (by kernel_rfl) ?_;repeat(first|go_big_quiet_step (exact HCt.o _ _)|quiet_step (exact HCt.o _ _))
   refine aP ?_;intro _ hw';obtain⟨⟨dq,osq⟩,hw''⟩:=hw';subst hw'';have hbg:=aH wr dq osq;have HB1:=U (HB.o.trans (hbg.mono HB.o.size));have p1:=(hbg.cell (p:=⟨(ad.add (j * 3)).block,(ad.add (j * 3)).off +1,none⟩) hw1).trans HP1.o;have p2:=(hbg.cell (p:=⟨(ad.add (j * 3)).block,(ad.add (j * 3)).off +2,none⟩) hw1).trans HP2.o;have HRB2:=U (Ag.below HRB.o hbg);have hm3:=HM3.o;have hLL:(!L == L)=false:=by simp
   obtain⟨wq,hwq⟩:∃wq,grow (redrawn wr dq) osq=wq:=⟨_,rfl⟩;rw[hwq]at p1 p2 HB1 HRB2⊢;clear hbg hwq p0';go_wp2_with fail
   rw[show((c:Int)+1+1)=((c+2:Nat):Int)from by omega];refine(NT _ (BC (c+2) ds[j].bytes.length) fk wq (c+2) HRB2.o (by omega) (by rw[HLEN.o];omega)).mono ?_;rintro e w3 ⟨rfl,hb3⟩;rw[LO (by rw[HLEN.o]),HLEN.o];have HB3:=U (HB1.o.trans (hb3.mono HB1.o.size));have hnn:¬((c+2:Nat):Int)+(ds[j].bytes.length:Int)<0:=by omega
   clear hb3 p1 p2;go_wp2_with fail
   go_roundw
   case rel =>
    refine⟨j+1,c+2+ds[j].bytes.length,by omega,?_,by go_num,by congr 1,rfl,HB3.o⟩;rw[KC hlt,HC.o];omega
   case measure => simp[intOf];omega
  ·have hje:j=ds.length:=by omega
   subst hje;rw[aV,HR.o]at hc;subst hc;have HB:=U hb;clear hb HX;go_wp2_with fail
   go_ret
   exact⟨rfl,HB.o⟩
