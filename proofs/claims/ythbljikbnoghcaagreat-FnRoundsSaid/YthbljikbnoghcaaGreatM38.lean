/-
  Part 38 of the proof; the last part states and proves the statement.
-/
import Derived.Test.YthbljikbnoghcaaGreatM37
import Derived.Test.YthbljikbnoghcaaGreatM09
import Derived.Test.YthbljikbnoghcaaGreatM34
set_option maxHeartbeats 8000000
set_option maxRecDepth 100000
set_option linter.unusedVariables false
set_option linter.unusedSimpArgs false
open Go.Value (int)
open Go.IntKind (i64)
namespace Go.Proofs.YthbljikbnoghcaaGreat
open Go.RowKit Go.Lib Go.Sort
theorem Fz:∀a b:List UInt8,Op.bytesLess a b=decide (Lib.compareBytes a b<0)
 | [],[] => by simp[Op.bytesLess,Lib.compareBytes]
 |_ :: _,[] => by simp[Op.bytesLess,Lib.compareBytes]
 | [],_ :: _ => by simp[Op.bytesLess,Lib.compareBytes]
 |x :: a,y :: b => by
  unfold Op.bytesLess Lib.compareBytes;by_cases h1:x<y
  ·simp[h1]
  ·by_cases h2:y<x
   ·have h3:¬x=y:=fun e => UInt8.lt_irrefl x (e ▸ h2)
    simp[h1,h2,h3]
   ·have h3:=IC h1 h2;subst h3;simp[h1,Fz a b]
def nltB(a b:Ag):Bool:=Op.bytesLess a.name.toList b.name.toList
theorem Jh {a b:Ag}:nltB a b=true↔nlt a b:=by
 unfold nltB nlt;rw[Fz,ByteArray.toList_eq,ByteArray.toList_eq];simp
theorem Lk {a b:Ag}:nltB a b=false↔¬nlt a b:=by
 rw[← Jh];simp
structure Dt (all:List Ag) (i:Nat) (out:List Ag):Prop where
 sorted:out.Pairwise nlt
 mem:∀x,x∈out↔∃k,k<i∧∃h:k<all.length,all[k] =x∧x.kind=1∧x.length≠ -1∧BJ all x.name all.length=(k:Int)
theorem Dt.start(all:List Ag):Dt all 0 []:=⟨List.Pairwise.nil,fun x =>⟨fun h =>(by cases h),fun⟨k,h,_⟩ => by omega⟩⟩
theorem Dt.skip {all out:List Ag} {i:Nat}(h:Dt all i out)(hi:i<all.length)(hn:¬(all[i].kind =1∧all[i].length≠ -1∧BJ all all[i].name all.length=(i:Int))):Dt all (i+1) out:=by
 refine⟨h.sorted,fun x =>(h.mem x).trans ⟨fun⟨k,h1,h2⟩ =>⟨k,by omega,h2⟩,fun⟨k,h1,h2,h3,h4⟩ => ?_⟩⟩;by_cases e:k=i
 ·subst e;subst h3;exact absurd h4 hn
 ·exact⟨k,by omega,h2,h3,h4⟩
theorem FY:∀(L M:List Ag),L.Nodup→(∀x,x∈L→x∈M)→L.length≤M.length
 | [],_,_,_ => Nat.zero_le _
 |x :: L,M,h,hs => by
  obtain⟨h1,h2⟩:=List.nodup_cons.1 h;obtain⟨s,t,rfl⟩:=List.append_of_mem (hs x (List.mem_cons_self ..));have:=FY L (s ++ t) h2 fun y hy => by
   have hne:y≠x:=fun e => h1 (e ▸ hy)
   have:=hs y (List.mem_cons_of_mem _ hy);simp only[List.mem_append,List.mem_cons]at this⊢;rcases this with q|q|q
   ·exact .inl q
   ·exact absurd q hne
   ·exact .inr q
  simp only[List.length_append,List.length_cons]at this⊢;omega
theorem Dt.len {all out:List Ag} {i:Nat}(h:Dt all i out):out.length≤all.length :=
 FY _ _ (h.sorted.imp (fun {a b} hab e => by subst e;exact EG a hab)) fun x hx => by
  obtain⟨k,_,h2,h3,_⟩:=(h.mem x).1 hx;exact h3 ▸ List.getElem_mem h2
theorem Dt.put {all out:List Ag} {i:Nat}(h:Dt all i out)(hi:i<all.length) {r:Ag}(hr:all[i] =r)(hk:r.kind=1)(hl:r.length≠ -1)(hn:BJ all r.name all.length=(i:Int)) {a:Nat}(ha:a≤out.length)(h1:∀q,(hq:q<out.length)→a≤q→nltB r out[q] =true)(h2:a=0∨∃(hk1:a - 1<out.length),nltB r out[a - 1] =false) :
  Dt all (i+1) (out.take a ++ [r] ++ out.drop a):=by
 have hname:∀x,x∈out→¬x.name=r.name:=fun x hx e => by
  obtain⟨k,q1,q2,q3,q4,q5,q6⟩:=(h.mem x).1 hx;rw[e,hn]at q6;omega
 have hlow:∀x,x∈out.take a→nlt x r:=fun x hx => by
  obtain⟨q,hq,rfl⟩:=List.getElem_of_mem hx;rw[List.length_take]at hq;rw[List.getElem_take];rcases h2 with h2|⟨hk1,h2⟩
  ·omega
  ·have e1:nlt out[a - 1] r:=(nlt_ne (hname _ (List.getElem_mem hk1))).resolve_right (Lk.1 h2);by_cases e:q=a - 1
   ·subst e;exact e1
   ·exact FW (List.pairwise_iff_getElem.1 h.sorted q (a - 1) (by omega) hk1 (by omega)) e1
 have hhigh:∀x,x∈out.drop a→nlt r x:=fun x hx => by
  obtain⟨q,hq,rfl⟩:=List.getElem_of_mem hx;rw[List.length_drop]at hq;rw[List.getElem_drop];exact Jh.1 (h1 (a+q) (by omega) (by omega))
 refine⟨?_,fun x => ?_⟩
 ·rw[List.append_assoc,List.pairwise_append];refine⟨h.sorted.sublist (List.take_sublist _ _),?_,fun x hx y hy => ?_⟩
  ·rw[List.singleton_append,List.pairwise_cons];exact⟨hhigh,h.sorted.sublist (List.drop_sublist _ _)⟩
  ·rcases List.mem_append.1 hy with hy|hy
   ·rw[List.mem_singleton.1 hy];exact hlow x hx
   ·exact FW (hlow x hx) (hhigh y hy)
 ·have hm:x∈out.take a ++ [r] ++ out.drop a↔(x∈out∨x=r):=by
   have e:x∈out↔(x∈out.take a∨x∈out.drop a):=by rw[← List.mem_append,List.take_append_drop]
   simp only[List.mem_append,List.mem_singleton,e];constructor
   ·rintro((q|q)|q)
    ·exact .inl (.inl q)
    ·exact .inr q
    ·exact .inl (.inr q)
   ·rintro((q|q)|q)
    ·exact .inl (.inl q)
    ·exact .inr q
    ·exact .inl (.inr q)
  rw[hm,h.mem];constructor
  ·rintro(⟨k,q1,q2⟩|rfl)
   ·exact⟨k,by omega,q2⟩
   ·exact⟨i,by omega,hi,hr,hk,hl,hn⟩
  ·rintro⟨k,q1,q2,q3,q4⟩;by_cases e:k=i
   ·subst e;exact .inr (q3.symm.trans hr)
   ·exact .inl ⟨k,by omega,q2,q3,q4⟩
end Go.Proofs.YthbljikbnoghcaaGreat
namespace Go.Proofs.YthbljikbnoghcaaGreat
open Go.Shelf Go.RowKit Go.Lib Go.Sort
theorem Ac.encodedS {w:World} {f:List Addr} {cs:List Value} {d:Ag}(h:Ac w f cs d)(i:Nat):∃x:BI,Bn x=cs∧x.at_=i∧(x.name=d.name∧x.seq=d.seq):=by
 obtain⟨v0,v1,v2,f0,f1,f2,rfl,-,-,-,-,-,-,-,h0,h1,h2⟩:=h;obtain⟨A0,c0,rfl,-⟩:=rSl.head h0;obtain⟨A1,c1,rfl,-⟩:=rSl.head h1;obtain⟨A2,c2,rfl,-⟩:=rSl.head h2;exact⟨⟨d.kind,d.seq,d.name,d.length,d.group,d.row,(A0,d.rows.length,c0),(A1,d.data.length,c1),(A2,d.delta.length,c2),i⟩,rfl,rfl,rfl,rfl⟩
theorem Bp.shrink {w:World} {base g n m:Nat} {got:Nat→Option Ag}(h:Bp w base g n got)(hm:m≤n):Bp w base g m got :=
 ⟨fun j hj => h.there j (by omega),h.lo,h.lt,fun i hi d hd => h.el i (by omega) d hd⟩
theorem G7(fn:Nat)(eg:∀args w,(callFunc fn args).run Tryz.prog w= .ok (.enter fn args) w)(cf:BI→BI→Int)(hswo:SWO (ltOf cf))(hcf:∀blk off size w,CmpLays Tryz.prog fn #[] Bn 9 cf blk off size w)(R:Ag→Ag→Prop)(hR:∀(x y:BI) (dx dy:Ag),(x.name=dx.name∧x.seq=dx.seq)→(y.name=dy.name∧y.seq=dy.seq)→R dx dy→ltOf cf x y=true)
  {w:World} {base g n:Nat} (c:Nat) {ds:List Ag} (ho:Bp w base g n (fun i => ds[i]?)) (hn:n=ds.length) (hsm:n<1000000000000) :
  Calls Tryz.prog 129 #[.slice (some ⟨g,0,none⟩) n c,.func (.func fn) #[] #[]] w fun e w' => e= .returned (.tuple #[])∧∃L:List Ag,L.Perm ds∧L.Pairwise (fun x y =>¬R y x)∧Bp w' base g n (fun i => L[i]?)∧Below base w w':=by
 have hg:=ho.lt;have hbg:=ho.lo;have hrow:∀i:Fin n,∃q:List Value × List Addr,Ac w q.2 q.1 (ds[i.1]'(by omega))∧w.rangeAt g (i.1 * 9) q.1∧∀a,a∈q.2→a.block<base:=fun i => by
  obtain⟨cs,fk,h1,h2,h3⟩:=ho.el i.1 i.2 _ (List.getElem?_eq_getElem (by omega));exact⟨(cs,fk),h1,h2,h3⟩
 obtain⟨Q,hQ⟩:=Classical.axiomOfChoice hrow;have hex:∀i:Fin n,∃x:BI,Bn x=(Q i).1∧x.at_=i.1∧(x.name=(ds[i.1]'(by omega)).name∧x.seq=(ds[i.1]'(by omega)).seq):=fun i => Ac.encodedS (hQ i).1 i.1
 obtain⟨X,hX⟩:=Classical.axiomOfChoice hex;obtain⟨d,hd⟩:∃d:Array BI,d=Array.ofFn X:=⟨_,rfl⟩;have hdz:d.size=n:=by rw[hd];simp
 have hdi:∀i,(hi:i<n)→d[i]! =X ⟨i,hi⟩:=fun i hi => by
  rw[getElem!_pos d i (by omega)];simp[hd]
 have hcells:∀i j,(hi:i<n)→j<9→w.cell? ⟨g,i * 9+j,none⟩=some (Bn d[i]!)[j]!∧w.frozen? ⟨g,i * 9+j,none⟩=false:=fun i j hi hj => by
  have hl:j<(Bn d[i]!).length:=by rw[BD];exact hj
  refine⟨?_,?_⟩
  ·refine(hQ ⟨i,hi⟩).2.1 j _ ?_;rw[getElem!_pos _ j hl,← (hX ⟨i,hi⟩).1,← hdi i hi];exact List.getElem?_eq_getElem hl
  ·have:=(ho.there (i * 9+j) (by omega)).2;rwa [Nat.zero_add]at this
 have RK:RowK Bn 9 w g 0 d:=⟨BD,D8,fun t ht => by
  rw[size_flatK,hdz]at ht;rw[get_flatK _ _ _ _ (by rw[hdz];exact ht)];have:=hcells (t / 9) (t % 9) (by omega) (Nat.mod_lt _ (by omega));rw[show t / 9 * 9+t % 9=t by omega]at this;simpa using this,hg⟩
 have hcall:Calls Tryz.prog 129 #[.slice (some ⟨g,0,none⟩) d.size c,.func (.func fn) #[] #[]] w _:=AnyQ.slices_SortFunc Tryz.sortRecs 9 Tryz.isAgg76 Tryz.sizeOf76 Bn BD D8 cf hswo fn #[] g 0 c d w eg (hcf _ _ _ _) RK.hH hg (by omega);rw[hdz]at hcall;refine hcall.mono ?_;rintro e w' ⟨rfl,d',n',os',hP,hO,hw'⟩;have hS:SWK Bn 9 w g 0 d' w':=⟨n',os',hw'⟩;have hB:Below base w w':=(SWK.belowB hS hg).mono hbg;have hz':d'.size=n:=hP.1.trans hdz;have hH:=hS.holds hg RK.hH (hz'.trans hdz.symm)
 -- what each of them is
 have hmem:∀i,i<n→∃q,∃hq:q<n,d'[i]! =X ⟨q,hq⟩:=fun i hi => permIn_all d d' 0 n (fun x =>∃q,∃hq:q<n,x=X ⟨q,hq⟩) (by omega) hP (fun q _ hq =>⟨q,hq,hdi q hq⟩) i (Nat.zero_le _) hi
 let φ:BI→Ag:=fun x => ds.getD x.at_ default
 have hφ:∀q,(hq:q<n)→φ (X ⟨q,hq⟩)=ds[q]'(by omega):=fun q hq => by
  have:=(hX ⟨q,hq⟩).2.1;show ds.getD (X ⟨q,hq⟩).at_ default=_
  rw[this];simp[List.getD_eq_getElem?_getD,show q<ds.length by omega]
 have hperm:(d'.toList.map φ).Perm ds:=by
  have e1:(d'.extract 0 n).toList =d'.toList:=by rw[← hz',Array.extract_size]
  have e2:(d.extract 0 n).toList =d.toList:=by rw[← hdz,Array.extract_size]
  have:=hP.2.2;rw[e1,e2]at this;refine(this.map φ).trans ?_;have:d.toList.map φ=ds:=by
   apply List.ext_getElem
   ·simp[hdz,hn]
   ·intro i hi1 hi2;have hin:i<n:=by simp[hdz]at hi1;exact hi1
    rw[List.getElem_map];have:d.toList[i]'(by simpa using hi1)=X ⟨i,hin⟩:=by
     rw[← hdi i hin,getElem!_pos d i (by omega)];simp
    rw[this,hφ i hin]
  rw[this]
 have hord:(d'.toList.map φ).Pairwise (fun x y =>¬R y x):=by
  rw[List.pairwise_iff_getElem];intro i j hi hj hij;have hin:i<n:=by simp[hz']at hi;omega
  have hjn:j<n:=by simp[hz']at hj;omega
  have:=hO i j (Nat.zero_le _) hij hjn;obtain⟨p,hp,ep⟩:=hmem i hin;obtain⟨q,hq,eq⟩:=hmem j hjn;rw[List.getElem_map,List.getElem_map];have e1:d'.toList[i]'(by simpa using hi)=d'[i]!:=by rw[getElem!_pos d' i (by omega)];simp
  have e2:d'.toList[j]'(by simpa using hj)=d'[j]!:=by rw[getElem!_pos d' j (by omega)];simp
  rw[e1,e2,ep,eq,hφ p hp,hφ q hq];rw[ep,eq]at this;intro hlt;have hx:ltOf cf (X ⟨q,hq⟩) (X ⟨p,hp⟩)=true:=hR _ _ _ _ (hX ⟨q,hq⟩).2.2 (hX ⟨p,hp⟩).2.2 hlt;rw[this]at hx;cases hx
 obtain⟨LL,hLL⟩:∃LL,d'.toList.map φ=LL:=⟨_,rfl⟩;have hcount:=hLL;rw[hLL]at hperm hord;have hlen:LL.length=n:=by rw[← hLL];simp[hz']
 have hget:∀i,(hi:i<n)→∃q,∃hq:q<n,d'[i]! =X ⟨q,hq⟩∧LL[i]'(by omega)=ds[q]'(by omega):=fun i hi => by
  obtain⟨q,hq,e⟩:=hmem i hi;refine⟨q,hq,e,?_⟩;have hq':q<ds.length:=by omega
  have:LL[i]? =some (ds[q]'hq'):=by
   have e8:LL[i]? =(d'.toList.map φ)[i]?:=by rw[hcount]
   rw[e8,List.getElem?_map,Array.getElem?_toList,Array.getElem?_eq_getElem (by omega)];rw[getElem!_pos d' i (by omega)]at e;simp only[Option.map_some,e,hφ q hq]
  rw[List.getElem?_eq_getElem (by omega)]at this;injection this
 refine⟨rfl,LL,hperm,hord,⟨fun j hj => ?_,hbg,Nat.lt_of_lt_of_le hg hB.size,fun i hi e he => ?_⟩,hB⟩
 ·have h1:=HoldsK.cell hH (i:=j / 9) (c:=j % 9) (by omega) (Nat.mod_lt _ (by omega));simp only[Nat.zero_add]at h1⊢;rw[show j / 9 * 9+j % 9=j by omega]at h1;exact⟨by rw[h1.1];rfl,h1.2⟩
 ·obtain⟨q,hq,e1,ec⟩:=hget i hi;have he2:e=ds[q]'(by omega):=by
   have:LL[i]? =some e:=he;rw[List.getElem?_eq_getElem (by omega),ec]at this;injection this with this
   exact this.symm
  subst he2;obtain⟨h1,h2,h3⟩:=hQ ⟨q,hq⟩;refine⟨(Q ⟨q,hq⟩).1,(Q ⟨q,hq⟩).2,Ac.local_ _ _ _ _ _ h1 (AT.of_below h3 hB),fun j v hj => ?_,h3⟩;have hl9:=Ac.wide _ _ _ _ h1;have hj9:j<9:=by rw[← hl9];exact(List.getElem?_eq_some_iff.1 hj).1
  have h4:=(HoldsK.cell hH (i:=i) (c:=j) (by omega) hj9).1;simp only[Nat.zero_add]at h4;rw[h4,e1];rw[← (hX ⟨q,hq⟩).1]at hj;rw[getElem!_pos _ j (by rw[BD];exact hj9)];rw[List.getElem?_eq_getElem (by rw[BD];exact hj9)]at hj;exact hj
theorem IX(p:Ag→Bool)(gf:Nat)(cb:Array Value) {base g n:Nat}(c:Nat)(ds:List Ag)(w:World)(eg:∀args w,(callFunc gf args).run Tryz.prog w= .ok (.enter gf args) w)(hrow:Bp w base g n (fun i => ds[i]?))(hn:n=ds.length)(hnc:n≤c)(hcm:c≤9223372036854775807)(hsm:ds.length≤1000000)
  (hp:∀(W:World) (cs:List Value) (fk:List Addr) (d:Ag),Below base w W→Ac W fk cs d→d∈ds→Calls Tryz.prog gf (#[.agg cs.toArray] ++ cb) W fun e w' => e= .returned (.bool (p d))∧Below W.heap.size W w') :
  Calls Tryz.prog 137 #[.slice (some ⟨g,0,none⟩) n c,.func (.func gf) #[] cb] w fun e w' =>∃m,e= .returned (.slice (some ⟨g,0,none⟩) m c)∧m=(ds.filter fun x => !p x).length∧m≤n∧Bp w' base g m (fun i =>(ds.filter fun x => !p x)[i]?)∧Below base w w':=by
 have hbase:base≤w.heap.size:=Nat.le_trans hrow.lo (Nat.le_of_lt hrow.lt);have hrd0:∃fr,rSl 9 Ac w fr (.slice (some ⟨g,0,none⟩) n c) ds:=by
  subst hn;exact hrow.reads (Nat.le_refl _) hnc hcm (fun i hi => List.getElem?_eq_getElem hi)
 obtain⟨fr,hrd⟩:=hrd0;have HI:=hid (Eu 9 (by omega) Tryz.sizeOf76 Tryz.isAgg76 p gf cb _ ds fr w eg hrd (fun W cs fk j hj hW hR => hp W cs fk ds[j] (hW.mono hbase) hR (List.getElem_mem hj)));have HP:=hid hp;clear hp hrd;by_cases hany:ds.any p=true
 case neg =>
  have hnone:∀q,(hq:q<ds.length)→p ds[q] =false:=fun q hq => by
   cases h:p ds[q]with
   |false => rfl
   |true => exact absurd (List.any_eq_true.2 ⟨_,List.getElem_mem hq,h⟩) hany
  have hfl:ds.filter (fun x => !p x)=ds:=List.filter_eq_self.2 (fun x hx => by
   obtain⟨q,hq,rfl⟩:=List.getElem_of_mem hx;rw[hnone q hq];rfl)
  rw[hfl];rw[CL hnone]at HI;have HROW:=hid hrow;have HN0:=hid hn;clear hnone hfl hany hrow hn hnc;go_enter Tryz.func137,Tryz.ntmps137
  go_wp2_with (go_at_call 76;refine HI.out.mono ?_;rintro e w1 ⟨rfl,hb1⟩)
  go_ret
  exact⟨n,rfl,HN0.out,Nat.le_refl _,HROW.out.below hb1,hb1.mono hbase⟩
 case pos =>
 -- the first that is struck
 have hk0:∃k0,∃hk:k0<ds.length,p ds[k0] =true∧∀q,(hq:q<ds.length)→q<k0→p ds[q] =false:=by
  cases hf:ds.findIdx? p with
  |none =>
   rw[List.findIdx?_eq_none_iff]at hf;obtain⟨x,hx,hpx⟩:=List.any_eq_true.1 hany;rw[hf x hx]at hpx;cases hpx
  |some k0 =>
   obtain⟨h1,h2,h3⟩:=List.findIdx?_eq_some_iff_getElem.1 hf;exact⟨k0,h1,h2,fun q hq hqk => by have:=h3 q hqk;simpa using this⟩
 obtain⟨k0,hk0,hpk,hall⟩:=hk0;rw[Dd hk0 hpk hall]at HI;have HROW:=hid hrow;have HN:=hid hn;have hk0n:k0<n:=by omega
 have hn1:n≤1000000:=by omega
 have HF0:=hid (show(ds.take (k0+1)).filter (fun x => !p x)=ds.take k0 by
  rw[DC hk0 (by rw[hpk];rfl)];exact List.filter_eq_self.2 (fun x hx => by
   obtain⟨q,hq,rfl⟩:=List.getElem_of_mem hx;rw[List.length_take]at hq;rw[List.getElem_take,hall q (by omega) (by omega)];rfl))
 have hne1:((k0:Int) == -1)=false:=beq_eq_false_iff_ne.2 (by omega);have hne2:¬((k0:Int)= -1):=by omega
 clear hpk hall hany hrow hn;go_enter Tryz.func137,Tryz.ntmps137
 go_wp2_with (go_at_call 76;refine HI.out.mono ?_;rintro e w1 ⟨rfl,hb1⟩;have B1:=hid hb1;clear hb1)
 have start:Hid (Bp w1 base g n (fun q => if q<k0 then((ds.take (k0+1)).filter fun x => !p x)[q]? else if k0+1≤q then ds[q]? else none)):=by
  show Bp _ _ _ _ _
  refine(HROW.out.below B1.out).got_ (fun i hi d hd => ?_);by_cases h1:i<k0
  ·rw[if_pos h1,HF0.out,List.getElem?_take,if_pos h1]at hd;exact hd
  ·rw[if_neg h1]at hd;split at hd
   ·exact hd
   ·cases hd
 have st2:Hid (k0=((ds.take (k0+1)).filter fun x => !p x).length):=(show _=_ by rw[HF0.out,List.length_take];omega);clear HROW HF0;go_loopw [5,6,7] (fun u v _ wr =>∃(i j:Nat),u= int i64 i∧v= int i64 j∧i<j∧j≤n∧Hid (i=((ds.take j).filter fun x => !p x).length)∧Hid (Bp wr base g n (fun q => if q<i then((ds.take j).filter fun x => !p x)[q]? else if j≤q then ds[q]? else none))∧Hid (Below base w wr)) (fun _ v _ _ => n - (intOf v).toNat)
 case atStart => exact⟨k0,k0+1,rfl,by go_num,by omega,by omega,st2.out,start.out,B1.out.mono hbase⟩
 case round =>
  clear start st2;obtain⟨i,j,rfl,rfl,hij,hjn,HL,HR,HB⟩:=hrel;by_cases hlt:j<n
  ·have hjd:j<ds.length:=by have:=HN.out;omega
   have hltz:(j:Int)<(n:Int):=by omega
   obtain⟨cs,fk,hr,hrange,hfk⟩:=HR.out.el j hlt ds[j] (by
    rw[if_neg (by omega),if_pos (Nat.le_refl _)];exact List.getElem?_eq_getElem hjd)
   have hlen:=Ac.wide _ _ _ _ hr;have hgl:=HR.out.lt;have hglo:=HR.out.lo;have HRA:=hid hrange;have HI1:=hid (show(Tryz.prog.info? 76).map (·.size)=some cs.length by rw[hlen];kernel_rfl);have HI2:=hid (show(Tryz.prog.info? 76).map (·.size)=some cs.toArray.size by rw[List.size_toArray,hlen];kernel_rfl);have HON:=hid (all_oneCell_toArray (Ac.ones _ _ _ _ hr));obtain⟨Z,hZ⟩:∃Z:Array Value,#[int i64 0,int i64 0,.string ⟨#[]⟩,int i64 0,int i64 0,int i64 0,.slice none 0 0,.slice none 0 0,.slice none 0 0] =Z:=⟨_,rfl⟩;have hZs:Z.size=9:=by rw[← hZ];rfl
   have KZ:=Blk.new wr 76 Z;have HTH:=hid (Blk.there KZ cs.toArray.size (by rw[List.size_toArray,hlen,hZs];exact Nat.le_refl _));obtain⟨W2,hW2⟩:∃W2,(wr.alloc (.cells Z 76)).setCells wr.heap.size 0 cs.toArray.toList=W2:=⟨_,rfl⟩;have K2:=hid (show Blk W2 wr.heap.size 76 cs.toArray by rw[← hW2];exact Blk.laid KZ _ (by rw[hZs];exact hlen.symm));have B2:=hid (show Below wr.heap.size wr W2 by rw[← hW2];exact AF (Aa (Below.refl _ _) _) _ 0 (Nat.le_refl _));have HW2:=hid hW2;have HR2:=hid (Blk.rangeAll K2.out);have hbw:base≤wr.heap.size:=by omega
   have HB2:=hid (HB.out.trans (B2.out.mono hbw));have HRD:=hid (Aw.below Ac.local_ Ac.fixed hr B2.out);have HC:=hid (HP.out W2 cs fk ds[j] HB2.out HRD.out (List.getElem_mem hjd));have HFK:=hid hfk;have HLEN:=hid hlen;clear hr hrange hfk hW2 KZ hlen hZs;obtain⟨pj,hpj⟩:∃pj,p ds[j] =pj:=⟨_,rfl⟩;rw[hpj]at HC;have HPJ:=hid hpj;clear hpj;have row2:=fun(W3:World) (hb3:Below W2.heap.size W2 W3) =>(HR.out.below B2.out).below hb3
   have HROW:=hid row2;clear row2;cases pj with
   |true =>
    go_wp2_with (first
     |(refine wpList_load_mid rfl 76 (.tmp 24) rfl g (j * 9) rfl cs _ HRA.out Tryz.underlying76 rfl HI1.out ?_)
     |(refine wpList_store_mid rfl 76 (.tmp 7) (.tmp 25) rfl wr.heap.size 0 cs.toArray rfl rfl HTH.out HI2.out HON.out ?_;rw[HW2.out])
     |(refine wpList_load_mid rfl 76 (.tmp 7) rfl wr.heap.size 0 rfl cs _ HR2.out Tryz.underlying76 rfl HI1.out ?_)
     |(go_at_fn gf;refine HC.out.mono ?_;rintro e w3 ⟨rfl,hb3⟩;have B3:=hid hb3;clear hb3))
    go_roundw
    case rel =>
     have hF:=DC (keep:=fun x => !p x) hjd (by rw[HPJ.out];rfl);refine⟨i,j+1,rfl,by go_num,by omega,by omega,(show _=_ by rw[hF];exact HL.out),(show Bp _ _ _ _ _ from ?_),HB2.out.trans (B3.out.mono (Nat.le_trans hbw B2.out.size))⟩;rw[hF];refine(HROW.out _ B3.out).got_ (fun q hq d hd => ?_);by_cases h1:q<i
     ·rw[if_pos h1]at hd⊢;exact hd
     ·rw[if_neg h1]at hd⊢;split at hd
      ·rw[if_pos (by omega)];exact hd
      ·cases hd
    case measure => simp[intOf];omega
   |false =>
    go_wp2_with (first
     |(refine wpList_load_mid rfl 76 (.tmp 24) rfl g (j * 9) rfl cs _ HRA.out Tryz.underlying76 rfl HI1.out ?_)
     |(refine wpList_store_mid rfl 76 (.tmp 7) (.tmp 25) rfl wr.heap.size 0 cs.toArray rfl rfl HTH.out HI2.out HON.out ?_;rw[HW2.out])
     |(refine wpList_load_mid rfl 76 (.tmp 7) rfl wr.heap.size 0 rfl cs _ HR2.out Tryz.underlying76 rfl HI1.out ?_)
     |(go_at_fn gf;refine HC.out.mono ?_;rintro e w3 ⟨rfl,hb3⟩;have B3:=hid hb3;have HR3:=hid (Blk.rangeAll (K2.out.below hb3 K2.out.lt));have HT3:=hid (show w3.there g (i * 9) cs.toArray.size from fun q hq => by
       have hq9:q<9:=by rw[List.size_toArray,HLEN.out]at hq;exact hq
       have:=(HROW.out _ hb3).there (i * 9+q) (by omega);rw[Nat.zero_add]at this;exact this);clear hb3)
     |(refine wpList_load_mid rfl 76 (.tmp 7) rfl wr.heap.size 0 rfl cs _ HR3.out Tryz.underlying76 rfl HI1.out ?_)
     |(refine wpList_store_mid rfl 76 (.tmp 33) (.tmp 32) rfl g (i * 9) cs.toArray rfl rfl HT3.out HI2.out HON.out ?_))
    go_roundw
    case rel =>
     have hF:=FB (keep:=fun x => !p x) hjd (by rw[HPJ.out];rfl);have hB3:=HB2.out.trans (B3.out.mono (Nat.le_trans hbw B2.out.size));refine⟨i+1,j+1,by go_num,by go_num,by omega,by omega,(show _=_ by rw[hF,List.length_append,← HL.out];rfl),(show Bp _ _ _ _ _ from ?_),(show Below _ _ _ from AF hB3 _ _ hglo)⟩;rw[hF];refine((HROW.out _ B3.out).store (i:=i) (by omega) (Aw.below Ac.local_ Ac.fixed HRD.out B3.out) HFK.out).got_ (fun q hq d hd => ?_);by_cases h1:q=i
     ·subst h1;rw[if_pos rfl];rw[if_pos (by omega),List.getElem?_append_right (by rw[← HL.out];exact Nat.le_refl _),← HL.out]at hd;simpa using hd
     ·rw[if_neg h1];by_cases h2:q<i
      ·rw[if_pos h2];rw[if_pos (by omega),List.getElem?_append_left (by rw[← HL.out];exact h2)]at hd;exact hd
      ·rw[if_neg h2];rw[if_neg (by omega)]at hd;split at hd
       ·rw[if_pos (by omega)];exact hd
       ·cases hd
    case measure => simp[intOf];omega
  ·obtain rfl:j=n:=by omega
   have hltz:¬(j:Int)<(j:Int):=by omega
   obtain⟨vs,hcl⟩:=Fe wr 0 g (i * 9) (j - i) (c - i) (by omega) (fun q hq => by
    have:=HR.out.there (i * 9+q) (by omega);rw[Nat.zero_add]at this;exact this)
   have hic:¬c=i:=by omega
   have hici:(i:Int)≤(j:Int):=by omega
   have hi0:(0:Int)≤(i:Int):=by omega
   have hicc:(i:Int)≤(c:Int):=by omega
   have hHC:=hid (HR.out.cleared i vs);have hglo:=HR.out.lo;have HB5:=hid (show Below base w (wr.setCells g (i * 9) vs)from AF HB.out _ _ hglo);have HLT:=hid (show(ds.take j).filter (fun x => !p x)=ds.filter (fun x => !p x) by rw[List.take_of_length_le (by have:=HN.out;omega)]);clear HR HB;go_wp2_with fail
   go_ret
   rw[← HLT.out];have hi:=HL.out;rw[← hi];exact⟨i,rfl,rfl,by omega,(hHC.out.shrink (by omega)).got_ (fun q hq d hd => by rw[if_pos hq,if_pos hq];exact hd),HB5.out⟩
end Go.Proofs.YthbljikbnoghcaaGreat
