/- Part 34 of the proof. -/
import Derived.Test.YtfjkoifpdoemdaaGreatJ33
import Derived.Test.YtfjkoifpdoemdaaGreatJ09
set_option maxHeartbeats 8000000
set_option maxRecDepth 100000
set_option linter.unusedVariables false
set_option linter.unusedSimpArgs false
open Go.Proofs.Tryz
open Go.Value (int)
open Go.IntKind (i64)
namespace Go.Proofs.YtfjkoifpdoemdaaGreat
open Go.Shelf Go.RowKit Go.Lib Go.Sort
theorem Tryz.strCompare(a b:ByteArray)(w:World):Calls prog 231 #[.string a,.string b] w fun e w' => e= .returned (int i64 (Lib.compareBytes a.data.toList b.data.toList))∧w'=w:=Any.strings_Compare Tryz.strCmp a b w
def cfN(x y:DT):Int:=Lib.compareBytes x.name.data.toList y.name.data.toList
theorem Ms {c e:UInt8}(h1:¬c<e)(h2:¬e<c):c=e:=by rw[UInt8.lt_iff_toNat_lt]at h1 h2;exact UInt8.toNat_inj.1 (by omega)
theorem IS:∀a:List UInt8,Lib.compareBytes a a=0
 | [] => rfl
 |c :: a => by unfold Lib.compareBytes;rw[aI (UInt8.lt_irrefl c),aI (UInt8.lt_irrefl c)];exact IS a
theorem GP:∀a b:List UInt8,Lib.compareBytes a b=0→a=b
 | [],[],_ => rfl
 | [],_ :: _,h => by simp[Lib.compareBytes]at h
 |_ :: _,[],h => by simp[Lib.compareBytes]at h
 |c :: a,e :: b,h => by
  unfold Lib.compareBytes at h;split at h
  ·cases h
  ·split at h
   ·cases h
   ·rename_i h1 h2
    have:c=e:=Ms h1 h2;rw[this,GP a b h]
theorem Gz:∀a b:List UInt8,Lib.compareBytes a b= - Lib.compareBytes b a
 | [],[] => rfl
 | [],_ :: _ => rfl
 |_ :: _,[] => rfl
 |c :: a,e :: b => by
  unfold Lib.compareBytes;by_cases h1:c<e
  ·have h2:¬e<c:=fun q => UInt8.lt_irrefl c (UInt8.lt_trans h1 q)
   rw[aL h1,aI h2,aL h1]
  ·by_cases h2:e<c
   ·rw[aI h1,aL h2,aL h2];rfl
   ·rw[aI h1,aI h2,aI h2,aI h1];exact Gz a b
theorem Gh:∀a b c:List UInt8,Lib.compareBytes a b<0→Lib.compareBytes b c<0→Lib.compareBytes a c<0
 | [],[],_,h,_ => by simp[Lib.compareBytes]at h
 | [],_ :: _,[],_,h => by simp[Lib.compareBytes]at h
 | [],_ :: _,_ :: _,_,_ => by simp[Lib.compareBytes]
 |_ :: _,[],_,h,_ => by simp[Lib.compareBytes]at h
 |_ :: _,_ :: _,[],_,h => by simp[Lib.compareBytes]at h
 |x :: a,y :: b,z :: c,h1,h2 => by
  unfold Lib.compareBytes at h1 h2⊢;by_cases p:x<y
  ·by_cases q:y<z
   ·rw[aL (UInt8.lt_trans p q)];decide
   ·rw[aI q]at h2;by_cases q2:z<y
    ·rw[aL q2]at h2;exact absurd h2 (by decide)
    ·have:y=z:=Ms q q2;subst this;rw[aL p];decide
  ·rw[aI p]at h1;by_cases p2:y<x
   ·rw[aL p2]at h1;exact absurd h1 (by decide)
   ·have:x=y:=Ms p p2;subst this;rw[aI p2]at h1;by_cases q:x<z
    ·rw[aL q];decide
    ·rw[aI q]at h2⊢;by_cases q2:z<x
     ·rw[aL q2]at h2;exact absurd h2 (by decide)
     ·rw[aI q2]at h2⊢;exact Gh a b c h1 h2
theorem Gv {x y:DT}:ltOf cfN x y=true↔Lib.compareBytes x.name.data.toList y.name.data.toList<0:=by
 unfold ltOf cfN;simp
theorem ltN_swo:SWO (ltOf cfN) where
 irrefl x:=by
  have:=IS x.name.data.toList;cases h:ltOf cfN x x with
  |false => rfl
  |true => rw[Gv]at h;omega
 trans x y z h1 h2:=by
  rw[Gv]at *;exact Gh _ _ _ h1 h2
 ntrans x y z h1 h2:=by
  cases h:ltOf cfN x z with
  |false => rfl
  |true =>
   exfalso
   rw[Gv]at h;have n1:¬Lib.compareBytes x.name.data.toList y.name.data.toList<0:=fun q => by rw[Gv.2 q]at h1;cases h1
   have n2:¬Lib.compareBytes y.name.data.toList z.name.data.toList<0:=fun q => by rw[Gv.2 q]at h2;cases h2
   have e1:=Gz x.name.data.toList y.name.data.toList;have e2:=Gz y.name.data.toList z.name.data.toList;by_cases z1:Lib.compareBytes y.name.data.toList x.name.data.toList=0
   ·rw[GP _ _ z1]at n2;omega
   ·by_cases z2:Lib.compareBytes z.name.data.toList y.name.data.toList=0
    ·rw[GP _ _ z2]at h;omega
    ·have:=Gh z.name.data.toList y.name.data.toList x.name.data.toList (by omega) (by omega);have e3:=Gz x.name.data.toList z.name.data.toList;omega
theorem Rc(x y:DT)(w:World):Calls prog 230 #[.agg (CN x).toArray,.agg (CN y).toArray] w fun e w' => e= .returned (int i64 (cfN x y))∧∃q os,w'=grow (w.drewN q) os:=by
 unfold CN cfN;generalize slV x.rows=v1;generalize slV x.data=v2;generalize slV x.delta=v3;generalize slV y.rows=v4;generalize slV y.data=v5;generalize slV y.delta=v6;obtain⟨xk,xs,xn,xl,xg,xr,_,_,_,_⟩:=x;obtain⟨yk,ys,yn,yl,yg,yr,_,_,_,_⟩:=y;simp only;have HE:=U (fun(a b:Obj) => show∃q os,(w.alloc a).alloc b=grow (w.drewN q) os from⟨0,#[a] ++ #[b],by rw[alloc_eq_grow w a,alloc_eq_grow (grow w #[a]) b,grow_grow];rfl⟩);have HC:=U (fun W => Tryz.strCompare xn yn W);go_enter func230,ntmps230
 go_wp2_with (go_at_call 231;refine(HC.o _).mono ?_;rintro e w' ⟨rfl,rfl⟩)
 go_ret
 exact⟨rfl,HE.o _ _⟩
theorem OR(blk off size:Nat)(w:World):CmpLays prog 230 #[] CN 9 cfN blk off size w:=fun _ _ _ _ x y => Rc x y _
def nlt(a b:Ah):Prop:=Lib.compareBytes a.name.data.toList b.name.data.toList<0
theorem Fc(a:Ah):¬nlt a a:=by unfold nlt;rw[IS];decide
theorem Je {a b c:Ah}(h1:nlt a b)(h2:nlt b c):nlt a c:=Gh _ _ _ h1 h2
theorem nlt_eq {a b:Ah}(h1:¬nlt a b)(h2:¬nlt b a):a.name=b.name:=by
 have:=Gz a.name.data.toList b.name.data.toList;unfold nlt at h1 h2;have h3:=GP a.name.data.toList b.name.data.toList (by omega);cases ha:a.name with
 |mk x => cases hb:b.name with
  |mk y =>
   rw[ha,hb]at h3;simp only at h3;exact congrArg ByteArray.mk (Array.toList_inj.1 h3)
theorem nlt_ne {a b:Ah}(h:¬a.name=b.name):nlt a b∨nlt b a:=by
 by_cases h1:nlt a b
 ·exact .inl h1
 ·by_cases h2:nlt b a
  ·exact .inr h2
  ·exact absurd (nlt_eq h1 h2) h
theorem Ac.encodedN {w:World} {f:List Addr} {cs:List Value} {d:Ah}(h:Ac w f cs d)(i:Nat):∃x:DT,CN x=cs∧x.at_=i∧x.name=d.name:=by
 obtain⟨v0,v1,v2,f0,f1,f2,rfl,-,-,-,-,-,-,-,h0,h1,h2⟩:=h;obtain⟨A0,c0,rfl,-⟩:=rSl.head h0;obtain⟨A1,c1,rfl,-⟩:=rSl.head h1;obtain⟨A2,c2,rfl,-⟩:=rSl.head h2;exact⟨⟨d.kind,d.seq,d.name,d.length,d.group,d.row,(A0,d.rows.length,c0),(A1,d.data.length,c1),(A2,d.delta.length,c2),i⟩,rfl,rfl,rfl⟩
theorem Om {w:World} {base g n c:Nat} {E:TypeId} {ds:List Ah} {fs:List Addr}(ho:Aj 9 E Ac w base (.slice (some ⟨g,0,none⟩) n c) ds fs)(hn:n=ds.length)(hsm:n<1000000000000)(hbg:base≤g)(hg:g<w.heap.size)(hfs:∀a,a∈fs→a.block<base) :
  Calls prog 222 #[.slice (some ⟨g,0,none⟩) n c,.func (.func 230) #[] #[]] w fun e w' => e= .returned (.tuple #[])∧∃L fs',L.Perm ds∧L.Pairwise (fun x y =>¬nlt y x)∧rSl 9 Ac w' fs' (.slice (some ⟨g,0,none⟩) n c) L∧(∀a,a∈fs'→a∈fs∨a.block=g)∧Below base w w':=by
 have hthere:=Aj.there Ac.fixed ho;obtain⟨css,fss,h1,h2,rfl,h4,h5,h6⟩:=ho;have hw:∀c,c∈css→c.length=9:=by
  intro c hc;obtain⟨i,hi,rfl⟩:=aY hc;obtain⟨_,_,p3,_⟩:=h5 i (by omega);exact p3
 -- the rows as the sort has them
 have hex:∀i:Fin n,∃x:DT,CN x=css[i.1]'(by omega)∧x.at_=i.1∧x.name=(ds[i.1]'(by omega)).name:=fun i => by
  obtain⟨p1,p2,p3,p4⟩:=h5 i.1 (by omega);exact Ac.encodedN p4 i.1
 obtain⟨X,hX⟩:=Classical.axiomOfChoice hex;obtain⟨d,hd⟩:∃d:Array DT,d=Array.ofFn X:=⟨_,rfl⟩;have hdz:d.size=n:=by rw[hd];simp
 have hdi:∀i,(hi:i<n)→d[i]! =X ⟨i,hi⟩:=fun i hi => by
  rw[getElem!_pos d i (by omega)];simp[hd]
 -- they lie there
 have hcells:∀i j,(hi:i<n)→j<9→w.cell? ⟨g,i * 9+j,none⟩=some (CN d[i]!)[j]!∧w.frozen? ⟨g,i * 9+j,none⟩=false:=fun i j hi hj => by
  obtain⟨hl,ht⟩:=h4;rcases ht with⟨e,_⟩|⟨g',cap,cur,e,q1,q2,q3,q4,q5,q6⟩
  ·cases e
  ·injection e with e1 e2 e3
   injection e1 with e1
   injection e1 with e1 _ _
   subst e1;have hblk:Blk w g E cur:=q2;refine⟨?_,hblk.frozen _⟩;rw[hblk.cell];have hij:i * 9+j<ds.length * 9:=by omega
   have e7:=DM css hw i j (by omega) hj;rw[← q6,List.getElem?_take,aL hij]at e7;rw[Array.getElem?_toList]at e7;rw[e7,(show css[i]'(by omega)=CN d[i]! by rw[hdi i hi];exact(hX ⟨i,hi⟩).1.symm)];have:j<(CN d[i]!).length:=by rw[Dq];exact hj
   rw[aO this,getElem!_pos _ j this]
 have R:RowK CN 9 w g 0 d:=⟨Dq,Ii,fun t ht => by
  rw[size_flatK,hdz]at ht;rw[get_flatK _ _ _ _ (by rw[hdz];exact ht)];have:=hcells (t / 9) (t % 9) (by omega) (Nat.mod_lt _ (by omega));rw[show t / 9 * 9+t % 9=t by omega]at this;simpa using this,hg⟩
 have hcall:Calls prog 222 #[.slice (some ⟨g,0,none⟩) d.size c,.func (.func 230) #[] #[]] w _:=AnyQ.slices_SortFunc Tryz.sortRecs 9 isAgg119 sizeOf119 CN Dq Ii cfN ltN_swo 230 #[] g 0 c d w (enters_of func230 (by kernel_rfl) rfl) (OR _ _ _ _) R.hH hg (by omega);rw[hdz]at hcall;refine hcall.mono ?_;rintro e w' ⟨rfl,d',n',os',hP,hO,hw'⟩;have hS:SWK CN 9 w g 0 d' w':=⟨n',os',hw'⟩;have hB:Below base w w':=(SWK.belowB hS hg).mono hbg;have hz':d'.size=n:=hP.1.trans hdz;have hH:=hS.holds hg R.hH (hz'.trans hdz.symm)
 -- what each of them is
 have hmem:∀i,i<n→∃q,∃hq:q<n,d'[i]! =X ⟨q,hq⟩:=fun i hi => permIn_all d d' 0 n (fun x =>∃q,∃hq:q<n,x=X ⟨q,hq⟩) (by omega) hP (fun q _ hq =>⟨q,hq,hdi q hq⟩) i (Nat.zero_le _) hi
 let φ:DT→Ah:=fun x => ds.getD x.at_ default
 have hφ:∀q,(hq:q<n)→φ (X ⟨q,hq⟩)=ds[q]'(by omega):=fun q hq => by
  have:=(hX ⟨q,hq⟩).2.1;show ds.getD (X ⟨q,hq⟩).at_ default=_
  rw[this];simp[aJ,show q<ds.length by omega]
 have hperm:(d'.toList.map φ).Perm ds:=by
  have e1:(d'.extract 0 n).toList =d'.toList:=by rw[← hz',Array.extract_size]
  have e2:(d.extract 0 n).toList =d.toList:=by rw[← hdz,Array.extract_size]
  have:=hP.2.2;rw[e1,e2]at this;refine(this.map φ).trans ?_;have:d.toList.map φ=ds:=by
   apply bP
   ·simp[hdz,hn]
   ·intro i hi1 hi2;have hin:i<n:=by simp[hdz]at hi1;exact hi1
    rw[bQ];have:d.toList[i]'(by simpa using hi1)=X ⟨i,hin⟩:=by
     rw[← hdi i hin,getElem!_pos d i (by omega)];simp
    rw[this,hφ i hin]
  rw[this]
 have hord:(d'.toList.map φ).Pairwise (fun x y =>¬nlt y x):=by
  rw[List.pairwise_iff_getElem];intro i j hi hj hij;have hin:i<n:=by simp[hz']at hi;omega
  have hjn:j<n:=by simp[hz']at hj;omega
  have:=hO i j (Nat.zero_le _) hij hjn;obtain⟨p,hp,ep⟩:=hmem i hin;obtain⟨q,hq,eq⟩:=hmem j hjn;rw[bQ,bQ];have e1:d'.toList[i]'(by simpa using hi)=d'[i]!:=by rw[getElem!_pos d' i (by omega)];simp
  have e2:d'.toList[j]'(by simpa using hj)=d'[j]!:=by rw[getElem!_pos d' j (by omega)];simp
  rw[e1,e2,ep,eq,hφ p hp,hφ q hq];rw[ep,eq]at this;intro hlt;have hx:ltOf cfN (X ⟨q,hq⟩) (X ⟨p,hp⟩)=true:=Gv.2 (by rw[(hX ⟨q,hq⟩).2.2,(hX ⟨p,hp⟩).2.2];exact hlt);rw[this]at hx;cases hx
 obtain⟨LL,hLL⟩:∃LL,d'.toList.map φ=LL:=⟨_,rfl⟩;have hcount:=hLL;rw[hLL]at hperm hord;have hlen:LL.length=n:=by rw[← hLL];simp[hz']
 have hget:∀i,(hi:i<n)→∃q,∃hq:q<n,d'[i]! =X ⟨q,hq⟩∧LL[i]'(by omega)=ds[q]'(by omega):=fun i hi => by
  obtain⟨q,hq,e⟩:=hmem i hi;refine⟨q,hq,e,?_⟩;have hq':q<ds.length:=by omega
  have:LL[i]? =some (ds[q]'hq'):=by
   have e8:LL[i]? =(d'.toList.map φ)[i]?:=by rw[hcount]
   rw[e8,List.getElem?_map,Array.getElem?_toList,Array.getElem?_eq_getElem (by omega)];rw[getElem!_pos d' i (by omega)]at e;simp only[Option.map_some,e,hφ q hq]
  rw[aO (by omega)]at this;injection this
 have hcn:n≤c∧c≤9223372036854775807:=by
  obtain⟨hl,ht⟩:=h4;rcases ht with⟨e,_⟩|⟨g',cap,cur,e,q1,q2,q3,q4,q5,q6⟩
  ·cases e
  ·injection e with e1 e2 e3
   simp only[maxLen]at q4;omega
 refine⟨rfl,LL,AV ⟨g,0,none⟩ (LL.length * 9) ++(d'.toList.map fun x => fss.getD x.at_ []).flatten,hperm,hord,⟨some ⟨g,0,none⟩,c,by rw[hlen],by omega,hcn.2,.inr ⟨⟨g,0,none⟩,d'.toList.map CN,d'.toList.map fun x => fss.getD x.at_ [],rfl,by simp[hz',hlen],by simp[hz',hlen],rfl,fun i hi => ?_⟩⟩,fun a ha => ?_,hB⟩;rotate_left
 ·rcases List.mem_append.1 ha with ha|ha
  ·obtain⟨k,_,rfl⟩:=Bb.1 ha;exact .inr (by rw[Cs])
  ·obtain⟨l,hl,hal⟩:=List.mem_flatten.1 ha;obtain⟨x,-,rfl⟩:=List.mem_map.1 hl;refine .inl (List.mem_flatten.2 ⟨_,?_,hal⟩);by_cases q:x.at_<fss.length
   ·simp[aJ,q]
   ·simp[aJ,q]at hal
 rw[hlen]at hi;obtain⟨q,hq,e,ec⟩:=hget i hi;have hdl:d'.toList[i]'(by simp[hz'];exact hi)=X ⟨q,hq⟩:=by
  rw[← e,getElem!_pos d' i (by omega)];simp
 refine⟨by simp[hz'];exact hi,by simp[hz'];exact hi,by simp[Dq],fun j hj => ?_,?_⟩
 ·have hj9:j<9:=by simpa [Dq]using hj
  have:=(HoldsK.cell hH (i:=i) (c:=j) (by omega) hj9).1;rw[Cs];simp only[Nat.zero_add]at this;rw[this];simp only[bQ,hdl];rw[e,getElem!_pos _ j (by rw[Dq];exact hj9)]
 ·rw[ec];simp only[bQ,hdl];obtain⟨p1,p2,p3,p4⟩:=h5 q (by omega);rw[(hX ⟨q,hq⟩).1,(hX ⟨q,hq⟩).2.1];have e9:fss.getD q [] =fss[q]:=by simp[aJ,p2]
  rw[e9];exact Ac.local_ _ _ _ _ _ p4 (AQ.of_below (fun a ha => hfs a (List.mem_flatten.2 ⟨_,aN p2,ha⟩)) hB)
