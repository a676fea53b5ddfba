/-
  Part 37 of the proof; the last part states and proves the statement.
-/
import Derived.Test.YthbljikbnoghcaaGreatM10
import Derived.Shelf.SlSortCmp.WholeK
import Derived.Test.YthbljikbnoghcaaGreatM00
import Derived.Shelf.Small.Strs
import Derived.Test.YthbljikbnoghcaaGreatM08
import Derived.Maps.RangeWalk
import Derived.Test.YthbljikbnoghcaaGreatM35
import Derived.Maps.OwnOps
set_option maxHeartbeats 8000000
set_option maxRecDepth 100000
set_option linter.unusedVariables false
set_option linter.unusedSimpArgs false
open Go.Value (int)
open Go.IntKind (i64)
namespace Go.Proofs.YthbljikbnoghcaaGreat
open Go.RowKit Go.Lib Go.Sort
def CU(nm:ByteArray)(r:Ag):Bool:=decide (r.kind=1∧r.name=nm)
def BJ(recs:List Ag)(nm:ByteArray):Nat→Int
 |0 => -1
 |n+1 => if(recs[n]?).any (CU nm)then(n:Int)else BJ recs nm n
theorem GC {recs:List Ag} {nm:ByteArray} {n:Nat}(h:n<recs.length)(hi:CU nm recs[n] =true):BJ recs nm (n+1)=(n:Int):=by
 unfold BJ;rw[List.getElem?_eq_getElem h];simp[hi]
theorem Hp {recs:List Ag} {nm:ByteArray} {n:Nat}(h:n<recs.length)(hi:CU nm recs[n] =false):BJ recs nm (n+1)=BJ recs nm n:=by
 rw[BJ,List.getElem?_eq_getElem h];simp[hi]
theorem Ho(recs:List Ag)(nm:ByteArray)(k:Nat):∀n,BJ recs nm n=(k:Int)→∃h:k<recs.length,CU nm recs[k] =true
 |0,h => by simp[BJ]at h
 |n+1,h => by
  unfold BJ at h;split at h
  ·rename_i hn
   have:n=k:=by omega
   subst this;cases e:recs[n]? with
   |none => rw[e]at hn;simp at hn
   |some r =>
    rw[e]at hn;obtain⟨h1,h2⟩:=List.getElem?_eq_some_iff.1 e;exact⟨h1,by rw[h2];simpa using hn⟩
  ·exact Ho recs nm k n h
end Go.Proofs.YthbljikbnoghcaaGreat
namespace Go.Proofs
open Go.Shelf
def Tryz.sortRecs_ren:Go.Shelf.Ren:=⟨fun|6 => 129|15 => 156|14 => 186|28 => 209|29 => 210|20 => 233|21 => 234|22 => 235|23 => 236|24 => 237|25 => 238|26 => 239|27 => 240|46 => 261|47 => 247|48 => 248|49 => 262|50 => 263|57 => 270|n => n,fun|22 => 113|24 => 76|25 => 159|3 => 3|39 => 179|0 => 0|53 => 219|55 => 221|4 => 4|46 => 212|45 => 211|50 => 216|5 => 5|9 => 9|66 => 240|70 => 244|76 => 257|77 => 258|n => n,fun|n => n⟩
theorem Tryz.sortRecs:Go.Proofs.SlLaysF0.n6 Tryz.prog Tryz.sortRecs_ren:={
 mixed:=by kernel_rfl
 f6:=⟨Tryz.f129.name,by decide,Tryz.func129.trans (congrArg some (by kernel_rfl))⟩
 f14:=⟨Tryz.f186.name,by decide,Tryz.func186.trans (congrArg some (by kernel_rfl))⟩
 f15:=Tryz.func156.trans (congrArg some (by kernel_rfl))
 f20:=⟨Tryz.f233.name,by decide,Tryz.func233.trans (congrArg some (by kernel_rfl))⟩
 f21:=⟨Tryz.f234.name,by decide,Tryz.func234.trans (congrArg some (by kernel_rfl))⟩
 f22:=⟨Tryz.f235.name,by decide,Tryz.func235.trans (congrArg some (by kernel_rfl))⟩
 f23:=⟨Tryz.f236.name,by decide,Tryz.func236.trans (congrArg some (by kernel_rfl))⟩
 f24:=⟨Tryz.f237.name,by decide,Tryz.func237.trans (congrArg some (by kernel_rfl))⟩
 f25:=⟨Tryz.f238.name,by decide,Tryz.func238.trans (congrArg some (by kernel_rfl))⟩
 f26:=⟨Tryz.f239.name,by decide,Tryz.func239.trans (congrArg some (by kernel_rfl))⟩
 f27:=⟨Tryz.f240.name,by decide,Tryz.func240.trans (congrArg some (by kernel_rfl))⟩
 f28:=Tryz.func209.trans (congrArg some (by kernel_rfl))
 f29:=Tryz.func210.trans (congrArg some (by kernel_rfl))
 f46:=⟨Tryz.f261.name,by decide,Tryz.func261.trans (congrArg some (by kernel_rfl))⟩
 f47:=Tryz.func247.trans (congrArg some (by kernel_rfl))
 f48:=Tryz.func248.trans (congrArg some (by kernel_rfl))
 f49:=⟨Tryz.f262.name,by decide,Tryz.func262.trans (congrArg some (by kernel_rfl))⟩
 f50:=⟨Tryz.f263.name,by decide,Tryz.func263.trans (congrArg some (by kernel_rfl))⟩
 f57:=⟨Tryz.f270.name,by decide,Tryz.func270.trans (congrArg some (by kernel_rfl))⟩
 t0:=Tryz.underlying0
 a0:=Tryz.isAgg0
 z0:=Tryz.sizeOf0
 v0:=Tryz.zeroValue0
 t3:=Tryz.underlying3
 a3:=Tryz.isAgg3
 z3:=Tryz.sizeOf3
 v3:=Tryz.zeroValue3
 t4:=Tryz.underlying4
 a4:=Tryz.isAgg4
 z4:=Tryz.sizeOf4
 v4:=Tryz.zeroValue4
 t5:=Tryz.underlying5
 a5:=Tryz.isAgg5
 z5:=Tryz.sizeOf5
 v5:=Tryz.zeroValue5
 t9:=Tryz.underlying9
 a9:=Tryz.isAgg9
 z9:=Tryz.sizeOf9
 v9:=Tryz.zeroValue9
 t22:=Tryz.underlying113
 a22:=Tryz.isAgg113
 z22:=Tryz.sizeOf113
 v22:=Tryz.zeroValue113
 t25:=Tryz.underlying159
 a25:=Tryz.isAgg159
 z25:=Tryz.sizeOf159
 v25:=Tryz.zeroValue159
 t39:=Tryz.underlying179
 a39:=Tryz.isAgg179
 z39:=Tryz.sizeOf179
 v39:=Tryz.zeroValue179
 t45:=Tryz.underlying211
 a45:=Tryz.isAgg211
 z45:=Tryz.sizeOf211
 v45:=Tryz.zeroValue211
 t46:=Tryz.underlying212
 a46:=Tryz.isAgg212
 z46:=Tryz.sizeOf212
 v46:=Tryz.zeroValue212
 t50:=Tryz.underlying216
 a50:=Tryz.isAgg216
 z50:=Tryz.sizeOf216
 v50:=Tryz.zeroValue216
 t53:=Tryz.underlying219
 a53:=Tryz.isAgg219
 z53:=Tryz.sizeOf219
 v53:=Tryz.zeroValue219
 t55:=Tryz.underlying221
 a55:=Tryz.isAgg221
 z55:=Tryz.sizeOf221
 v55:=Tryz.zeroValue221
 t66:=Tryz.underlying240
 a66:=Tryz.isAgg240
 z66:=Tryz.sizeOf240
 v66:=Tryz.zeroValue240
 t70:=Tryz.underlying244
 a70:=Tryz.isAgg244
 z70:=Tryz.sizeOf244
 v70:=Tryz.zeroValue244
 t76:=Tryz.underlying257
 a76:=Tryz.isAgg257
 z76:=Tryz.sizeOf257
 v76:=Tryz.zeroValue257
 t77:=Tryz.underlying258
 a77:=Tryz.isAgg258
 z77:=Tryz.sizeOf258
 v77:=Tryz.zeroValue258 }
end Go.Proofs
namespace Go.Proofs
open Go.Shelf
def Tryz.strCmp_ren:Go.Shelf.Ren:=⟨fun|106 => 131|213 => 187|265 => 241|n => n,fun|9 => 9|3 => 3|n => n,fun|n => n⟩
theorem Tryz.strCmp:Go.Proofs.Lays.n106 Tryz.prog Tryz.strCmp_ren:={
 mixed:=by kernel_rfl
 f106:=Tryz.func131.trans (congrArg some (by kernel_rfl))
 f213:=Tryz.func187.trans (congrArg some (by kernel_rfl))
 f265:=Tryz.func241.trans (congrArg some (by kernel_rfl))
 t3:=Tryz.underlying3
 a3:=Tryz.isAgg3
 z3:=Tryz.sizeOf3
 v3:=Tryz.zeroValue3
 t9:=Tryz.underlying9
 a9:=Tryz.isAgg9
 z9:=Tryz.sizeOf9
 v9:=Tryz.zeroValue9 }
end Go.Proofs
namespace Go.Proofs.YthbljikbnoghcaaGreat
open Go.Shelf Go.RowKit Go.Lib Go.Sort
theorem Tryz.strCompare(a b:ByteArray)(w:World):Calls Tryz.prog 131 #[.string a,.string b] w fun e w' => e= .returned (int i64 (Lib.compareBytes a.data.toList b.data.toList))∧w'=w:=Any.strings_Compare Tryz.strCmp a b w
def cfN(x y:BI):Int:=Lib.compareBytes x.name.data.toList y.name.data.toList
theorem IC {c e:UInt8}(h1:¬c<e)(h2:¬e<c):c=e:=by rw[UInt8.lt_iff_toNat_lt]at h1 h2;exact UInt8.toNat_inj.1 (by omega)
theorem FO:∀a:List UInt8,Lib.compareBytes a a=0
 | [] => rfl
 |c :: a => by unfold Lib.compareBytes;rw[if_neg (UInt8.lt_irrefl c),if_neg (UInt8.lt_irrefl c)];exact FO a
theorem EI:∀a b:List UInt8,Lib.compareBytes a b=0→a=b
 | [],[],_ => rfl
 | [],_ :: _,h => by simp[Lib.compareBytes]at h
 |_ :: _,[],h => by simp[Lib.compareBytes]at h
 |c :: a,e :: b,h => by
  unfold Lib.compareBytes at h;split at h
  ·cases h
  ·split at h
   ·cases h
   ·rename_i h1 h2
    have:c=e:=IC h1 h2;rw[this,EI a b h]
theorem EC:∀a b:List UInt8,Lib.compareBytes a b= - Lib.compareBytes b a
 | [],[] => rfl
 | [],_ :: _ => rfl
 |_ :: _,[] => rfl
 |c :: a,e :: b => by
  unfold Lib.compareBytes;by_cases h1:c<e
  ·have h2:¬e<c:=fun q => UInt8.lt_irrefl c (UInt8.lt_trans h1 q)
   rw[if_pos h1,if_neg h2,if_pos h1]
  ·by_cases h2:e<c
   ·rw[if_neg h1,if_pos h2,if_pos h2];rfl
   ·rw[if_neg h1,if_neg h2,if_neg h2,if_neg h1];exact EC a b
theorem Et:∀a b c:List UInt8,Lib.compareBytes a b<0→Lib.compareBytes b c<0→Lib.compareBytes a c<0
 | [],[],_,h,_ => by simp[Lib.compareBytes]at h
 | [],_ :: _,[],_,h => by simp[Lib.compareBytes]at h
 | [],_ :: _,_ :: _,_,_ => by simp[Lib.compareBytes]
 |_ :: _,[],_,h,_ => by simp[Lib.compareBytes]at h
 |_ :: _,_ :: _,[],_,h => by simp[Lib.compareBytes]at h
 |x :: a,y :: b,z :: c,h1,h2 => by
  unfold Lib.compareBytes at h1 h2⊢;by_cases p:x<y
  ·by_cases q:y<z
   ·rw[if_pos (UInt8.lt_trans p q)];decide
   ·rw[if_neg q]at h2;by_cases q2:z<y
    ·rw[if_pos q2]at h2;exact absurd h2 (by decide)
    ·have:y=z:=IC q q2;subst this;rw[if_pos p];decide
  ·rw[if_neg p]at h1;by_cases p2:y<x
   ·rw[if_pos p2]at h1;exact absurd h1 (by decide)
   ·have:x=y:=IC p p2;subst this;rw[if_neg p2]at h1;by_cases q:x<z
    ·rw[if_pos q];decide
    ·rw[if_neg q]at h2⊢;by_cases q2:z<x
     ·rw[if_pos q2]at h2;exact absurd h2 (by decide)
     ·rw[if_neg q2]at h2⊢;exact Et a b c h1 h2
theorem Ea {x y:BI}:ltOf cfN x y=true↔Lib.compareBytes x.name.data.toList y.name.data.toList<0:=by
 unfold ltOf cfN;simp
theorem Kf:SWO (ltOf cfN) where
 irrefl x:=by
  have:=FO x.name.data.toList;cases h:ltOf cfN x x with
  |false => rfl
  |true => rw[Ea]at h;omega
 trans x y z h1 h2:=by
  rw[Ea]at *;exact Et _ _ _ h1 h2
 ntrans x y z h1 h2:=by
  cases h:ltOf cfN x z with
  |false => rfl
  |true =>
   exfalso
   rw[Ea]at h;have n1:¬Lib.compareBytes x.name.data.toList y.name.data.toList<0:=fun q => by rw[Ea.2 q]at h1;cases h1
   have n2:¬Lib.compareBytes y.name.data.toList z.name.data.toList<0:=fun q => by rw[Ea.2 q]at h2;cases h2
   have e1:=EC x.name.data.toList y.name.data.toList;have e2:=EC y.name.data.toList z.name.data.toList;by_cases z1:Lib.compareBytes y.name.data.toList x.name.data.toList=0
   ·rw[EI _ _ z1]at n2;omega
   ·by_cases z2:Lib.compareBytes z.name.data.toList y.name.data.toList=0
    ·rw[EI _ _ z2]at h;omega
    ·have:=Et z.name.data.toList y.name.data.toList x.name.data.toList (by omega) (by omega);have e3:=EC x.name.data.toList z.name.data.toList;omega
theorem LY(x y:BI)(w:World):Calls Tryz.prog 130 #[.agg (Bn x).toArray,.agg (Bn y).toArray] w fun e w' => e= .returned (int i64 (cfN x y))∧∃q os,w'=grow (w.drewN q) os:=by
 unfold Bn cfN;generalize slV x.rows=v1;generalize slV x.data=v2;generalize slV x.delta=v3;generalize slV y.rows=v4;generalize slV y.data=v5;generalize slV y.delta=v6;obtain⟨xk,xs,xn,xl,xg,xr,_,_,_,_⟩:=x;obtain⟨yk,ys,yn,yl,yg,yr,_,_,_,_⟩:=y;simp only;have HE:=hid (fun(a b:Obj) => show∃q os,(w.alloc a).alloc b=grow (w.drewN q) os from⟨0,#[a] ++ #[b],by rw[alloc_eq_grow w a,alloc_eq_grow (grow w #[a]) b,grow_grow];rfl⟩);have HC:=hid (fun W => Tryz.strCompare xn yn W);go_enter Tryz.func130,Tryz.ntmps130
 go_wp2_with (go_at_call 131;refine(HC.out _).mono ?_;rintro e w' ⟨rfl,rfl⟩)
 go_ret
 exact⟨rfl,HE.out _ _⟩
theorem GM(blk off size:Nat)(w:World):CmpLays Tryz.prog 130 #[] Bn 9 cfN blk off size w:=fun _ _ _ _ x y => LY x y _
def nlt(a b:Ag):Prop:=Lib.compareBytes a.name.data.toList b.name.data.toList<0
theorem EG(a:Ag):¬nlt a a:=by unfold nlt;rw[FO];decide
theorem FW {a b c:Ag}(h1:nlt a b)(h2:nlt b c):nlt a c:=Et _ _ _ h1 h2
theorem nlt_eq {a b:Ag}(h1:¬nlt a b)(h2:¬nlt b a):a.name=b.name:=by
 have:=EC a.name.data.toList b.name.data.toList;unfold nlt at h1 h2;have h3:=EI a.name.data.toList b.name.data.toList (by omega);cases ha:a.name with
 |mk x => cases hb:b.name with
  |mk y =>
   rw[ha,hb]at h3;simp only at h3;exact congrArg ByteArray.mk (Array.toList_inj.1 h3)
theorem nlt_ne {a b:Ag}(h:¬a.name=b.name):nlt a b∨nlt b a:=by
 by_cases h1:nlt a b
 ·exact .inl h1
 ·by_cases h2:nlt b a
  ·exact .inr h2
  ·exact absurd (nlt_eq h1 h2) h
theorem Ac.encodedN {w:World} {f:List Addr} {cs:List Value} {d:Ag}(h:Ac w f cs d)(i:Nat):∃x:BI,Bn x=cs∧x.at_=i∧x.name=d.name:=by
 obtain⟨v0,v1,v2,f0,f1,f2,rfl,-,-,-,-,-,-,-,h0,h1,h2⟩:=h;obtain⟨A0,c0,rfl,-⟩:=rSl.head h0;obtain⟨A1,c1,rfl,-⟩:=rSl.head h1;obtain⟨A2,c2,rfl,-⟩:=rSl.head h2;exact⟨⟨d.kind,d.seq,d.name,d.length,d.group,d.row,(A0,d.rows.length,c0),(A1,d.data.length,c1),(A2,d.delta.length,c2),i⟩,rfl,rfl,rfl⟩
theorem J3 {w:World} {base g n c:Nat} {E:TypeId} {ds:List Ag} {fs:List Addr}(ho:Aj 9 E Ac w base (.slice (some ⟨g,0,none⟩) n c) ds fs)(hn:n=ds.length)(hsm:n<1000000000000)(hbg:base≤g)(hg:g<w.heap.size)(hfs:∀a,a∈fs→a.block<base) :
  Calls Tryz.prog 129 #[.slice (some ⟨g,0,none⟩) n c,.func (.func 130) #[] #[]] w fun e w' => e= .returned (.tuple #[])∧∃L fs',L.Perm ds∧L.Pairwise (fun x y =>¬nlt y x)∧rSl 9 Ac w' fs' (.slice (some ⟨g,0,none⟩) n c) L∧(∀a,a∈fs'→a∈fs∨a.block=g)∧Below base w w':=by
 have hthere:=Aj.there Ac.fixed ho;obtain⟨css,fss,h1,h2,rfl,h4,h5,h6⟩:=ho;have hw:∀c,c∈css→c.length=9:=by
  intro c hc;obtain⟨i,hi,rfl⟩:=List.getElem_of_mem hc;obtain⟨_,_,p3,_⟩:=h5 i (by omega);exact p3
 -- the rows as the sort has them
 have hex:∀i:Fin n,∃x:BI,Bn x=css[i.1]'(by omega)∧x.at_=i.1∧x.name=(ds[i.1]'(by omega)).name:=fun i => by
  obtain⟨p1,p2,p3,p4⟩:=h5 i.1 (by omega);exact Ac.encodedN p4 i.1
 obtain⟨X,hX⟩:=Classical.axiomOfChoice hex;obtain⟨d,hd⟩:∃d:Array BI,d=Array.ofFn X:=⟨_,rfl⟩;have hdz:d.size=n:=by rw[hd];simp
 have hdi:∀i,(hi:i<n)→d[i]! =X ⟨i,hi⟩:=fun i hi => by
  rw[getElem!_pos d i (by omega)];simp[hd]
 -- they lie there
 have hcells:∀i j,(hi:i<n)→j<9→w.cell? ⟨g,i * 9+j,none⟩=some (Bn d[i]!)[j]!∧w.frozen? ⟨g,i * 9+j,none⟩=false:=fun i j hi hj => by
  obtain⟨hl,ht⟩:=h4;rcases ht with⟨e,_⟩|⟨g',cap,cur,e,q1,q2,q3,q4,q5,q6⟩
  ·cases e
  ·injection e with e1 e2 e3
   injection e1 with e1
   injection e1 with e1 _ _
   subst e1;have hblk:Blk w g E cur:=q2;refine⟨?_,hblk.frozen _⟩;rw[hblk.cell];have hij:i * 9+j<ds.length * 9:=by omega
   have e7:=CY css hw i j (by omega) hj;rw[← q6,List.getElem?_take,if_pos hij]at e7;rw[Array.getElem?_toList]at e7;rw[e7,(show css[i]'(by omega)=Bn d[i]! by rw[hdi i hi];exact(hX ⟨i,hi⟩).1.symm)];have:j<(Bn d[i]!).length:=by rw[BD];exact hj
   rw[List.getElem?_eq_getElem this,getElem!_pos _ j this]
 have R:RowK Bn 9 w g 0 d:=⟨BD,D8,fun t ht => by
  rw[size_flatK,hdz]at ht;rw[get_flatK _ _ _ _ (by rw[hdz];exact ht)];have:=hcells (t / 9) (t % 9) (by omega) (Nat.mod_lt _ (by omega));rw[show t / 9 * 9+t % 9=t by omega]at this;simpa using this,hg⟩
 have hcall:Calls Tryz.prog 129 #[.slice (some ⟨g,0,none⟩) d.size c,.func (.func 130) #[] #[]] w _:=AnyQ.slices_SortFunc Tryz.sortRecs 9 Tryz.isAgg76 Tryz.sizeOf76 Bn BD D8 cfN Kf 130 #[] g 0 c d w (enters_of Tryz.func130 (by kernel_rfl) rfl) (GM _ _ _ _) R.hH hg (by omega);rw[hdz]at hcall;refine hcall.mono ?_;rintro e w' ⟨rfl,d',n',os',hP,hO,hw'⟩;have hS:SWK Bn 9 w g 0 d' w':=⟨n',os',hw'⟩;have hB:Below base w w':=(SWK.belowB hS hg).mono hbg;have hz':d'.size=n:=hP.1.trans hdz;have hH:=hS.holds hg R.hH (hz'.trans hdz.symm)
 -- what each of them is
 have hmem:∀i,i<n→∃q,∃hq:q<n,d'[i]! =X ⟨q,hq⟩:=fun i hi => permIn_all d d' 0 n (fun x =>∃q,∃hq:q<n,x=X ⟨q,hq⟩) (by omega) hP (fun q _ hq =>⟨q,hq,hdi q hq⟩) i (Nat.zero_le _) hi
 let φ:BI→Ag:=fun x => ds.getD x.at_ default
 have hφ:∀q,(hq:q<n)→φ (X ⟨q,hq⟩)=ds[q]'(by omega):=fun q hq => by
  have:=(hX ⟨q,hq⟩).2.1;show ds.getD (X ⟨q,hq⟩).at_ default=_
  rw[this];simp[List.getD_eq_getElem?_getD,show q<ds.length by omega]
 have hperm:(d'.toList.map φ).Perm ds:=by
  have e1:(d'.extract 0 n).toList =d'.toList:=by rw[← hz',Array.extract_size]
  have e2:(d.extract 0 n).toList =d.toList:=by rw[← hdz,Array.extract_size]
  have:=hP.2.2;rw[e1,e2]at this;refine(this.map φ).trans ?_;have:d.toList.map φ=ds:=by
   apply List.ext_getElem
   ·simp[hdz,hn]
   ·intro i hi1 hi2;have hin:i<n:=by simp[hdz]at hi1;exact hi1
    rw[List.getElem_map];have:d.toList[i]'(by simpa using hi1)=X ⟨i,hin⟩:=by
     rw[← hdi i hin,getElem!_pos d i (by omega)];simp
    rw[this,hφ i hin]
  rw[this]
 have hord:(d'.toList.map φ).Pairwise (fun x y =>¬nlt y x):=by
  rw[List.pairwise_iff_getElem];intro i j hi hj hij;have hin:i<n:=by simp[hz']at hi;omega
  have hjn:j<n:=by simp[hz']at hj;omega
  have:=hO i j (Nat.zero_le _) hij hjn;obtain⟨p,hp,ep⟩:=hmem i hin;obtain⟨q,hq,eq⟩:=hmem j hjn;rw[List.getElem_map,List.getElem_map];have e1:d'.toList[i]'(by simpa using hi)=d'[i]!:=by rw[getElem!_pos d' i (by omega)];simp
  have e2:d'.toList[j]'(by simpa using hj)=d'[j]!:=by rw[getElem!_pos d' j (by omega)];simp
  rw[e1,e2,ep,eq,hφ p hp,hφ q hq];rw[ep,eq]at this;intro hlt;have hx:ltOf cfN (X ⟨q,hq⟩) (X ⟨p,hp⟩)=true:=Ea.2 (by rw[(hX ⟨q,hq⟩).2.2,(hX ⟨p,hp⟩).2.2];exact hlt);rw[this]at hx;cases hx
 obtain⟨LL,hLL⟩:∃LL,d'.toList.map φ=LL:=⟨_,rfl⟩;have hcount:=hLL;rw[hLL]at hperm hord;have hlen:LL.length=n:=by rw[← hLL];simp[hz']
 have hget:∀i,(hi:i<n)→∃q,∃hq:q<n,d'[i]! =X ⟨q,hq⟩∧LL[i]'(by omega)=ds[q]'(by omega):=fun i hi => by
  obtain⟨q,hq,e⟩:=hmem i hi;refine⟨q,hq,e,?_⟩;have hq':q<ds.length:=by omega
  have:LL[i]? =some (ds[q]'hq'):=by
   have e8:LL[i]? =(d'.toList.map φ)[i]?:=by rw[hcount]
   rw[e8,List.getElem?_map,Array.getElem?_toList,Array.getElem?_eq_getElem (by omega)];rw[getElem!_pos d' i (by omega)]at e;simp only[Option.map_some,e,hφ q hq]
  rw[List.getElem?_eq_getElem (by omega)]at this;injection this
 have hcn:n≤c∧c≤9223372036854775807:=by
  obtain⟨hl,ht⟩:=h4;rcases ht with⟨e,_⟩|⟨g',cap,cur,e,q1,q2,q3,q4,q5,q6⟩
  ·cases e
  ·injection e with e1 e2 e3
   simp only[maxLen]at q4;omega
 refine⟨rfl,LL,Az ⟨g,0,none⟩ (LL.length * 9) ++(d'.toList.map fun x => fss.getD x.at_ []).flatten,hperm,hord,⟨some ⟨g,0,none⟩,c,by rw[hlen],by omega,hcn.2,.inr ⟨⟨g,0,none⟩,d'.toList.map Bn,d'.toList.map fun x => fss.getD x.at_ [],rfl,by simp[hz',hlen],by simp[hz',hlen],rfl,fun i hi => ?_⟩⟩,fun a ha => ?_,hB⟩;rotate_left
 ·rcases List.mem_append.1 ha with ha|ha
  ·obtain⟨k,_,rfl⟩:=AY.1 ha;exact .inr (by rw[BG])
  ·obtain⟨l,hl,hal⟩:=List.mem_flatten.1 ha;obtain⟨x,-,rfl⟩:=List.mem_map.1 hl;refine .inl (List.mem_flatten.2 ⟨_,?_,hal⟩);by_cases q:x.at_<fss.length
   ·simp[List.getD_eq_getElem?_getD,q]
   ·simp[List.getD_eq_getElem?_getD,q]at hal
 rw[hlen]at hi;obtain⟨q,hq,e,ec⟩:=hget i hi;have hdl:d'.toList[i]'(by simp[hz'];exact hi)=X ⟨q,hq⟩:=by
  rw[← e,getElem!_pos d' i (by omega)];simp
 refine⟨by simp[hz'];exact hi,by simp[hz'];exact hi,by simp[BD],fun j hj => ?_,?_⟩
 ·have hj9:j<9:=by simpa [BD]using hj
  have:=(HoldsK.cell hH (i:=i) (c:=j) (by omega) hj9).1;rw[BG];simp only[Nat.zero_add]at this;rw[this];simp only[List.getElem_map,hdl];rw[e,getElem!_pos _ j (by rw[BD];exact hj9)]
 ·rw[ec];simp only[List.getElem_map,hdl];obtain⟨p1,p2,p3,p4⟩:=h5 q (by omega);rw[(hX ⟨q,hq⟩).1,(hX ⟨q,hq⟩).2.1];have e9:fss.getD q [] =fss[q]:=by simp[List.getD_eq_getElem?_getD,p2]
  rw[e9];exact Ac.local_ _ _ _ _ _ p4 (AT.of_below (fun a ha => hfs a (List.mem_flatten.2 ⟨_,List.getElem_mem p2,ha⟩)) hB)
end Go.Proofs.YthbljikbnoghcaaGreat
namespace Go.Proofs.YthbljikbnoghcaaGreat
open Go.RowKit Go.Lib Go.Sort
def Cs(nm:ByteArray):Lit:=.string nm.data.toList
theorem GA(nm:ByteArray):WideAt.IsKeyLit (Cs nm):=by unfold Cs WideAt.IsKeyLit;trivial
theorem Gz {a b:ByteArray}(h:Cs a=Cs b):a=b:=by
 unfold Cs at h;injection h with h
 cases a with
 |mk x => cases b with
  |mk y => exact congrArg ByteArray.mk (Array.toList_inj.1 h)
theorem LK {a b:ByteArray}:(Cs a).sameKey (Cs b)=decide (a=b):=by
 by_cases h:a=b
 ·subst h;rw[WideAt.sameKey_self (GA a)];simp
 ·rw[Maps.sameKey_ne (fun e => h (Gz e))];simp[h]
structure Di (ds:List Ag) (css:List (List Value)) (D:DataW Value) (i:Nat):Prop where
 isMap:Maps.IsMap D
 has:∀nm,Maps.has D (Cs nm)=decide (0≤BJ ds nm i)
 at_:∀nm (k:Nat),BJ ds nm i=(k:Int)→∀zd,D.atKey (Cs nm) zd= .held (.agg (css.getD k []).toArray)
theorem Di.start(ds:List Ag)(css:List (List Value)):Di ds css (.map []) 0 :=
 ⟨Maps.isMap_empty,fun nm => by simp[BJ,Maps.has_eq],fun nm k h => by simp[BJ]at h⟩
theorem Di.skip {ds:List Ag} {css:List (List Value)} {D:DataW Value} {i:Nat}(h:Di ds css D i)(hi:i<ds.length)(hk:¬ds[i].kind =1):Di ds css D (i+1):=by
 have hn:∀nm,BJ ds nm (i+1)=BJ ds nm i:=fun nm => Hp hi (by unfold CU;simp[hk])
 exact⟨h.isMap,fun nm => by rw[hn];exact h.has nm,fun nm k e => h.at_ nm k (by rw[← hn];exact e)⟩
theorem Di.put {ds:List Ag} {css:List (List Value)} {D:DataW Value} {i:Nat}(h:Di ds css D i)(hi:i<ds.length)(hk:ds[i].kind =1) {cs:List Value}(hc:css.getD i [] =cs):Di ds css (D.put (Cs ds[i].name) (.held (.agg cs.toArray))) (i+1):=by
 refine⟨h.isMap.put _ _,fun nm => ?_,fun nm k e zd => ?_⟩
 ·by_cases hn:ds[i].name =nm
  ·subst hn;rw[Maps.has_put_same h.isMap (GA _),GC hi (by unfold CU;simp[hk])];simp
  ·rw[Maps.has_put_other (fun e => hn (Gz e).symm),Hp hi (by unfold CU;simp[hn])];exact h.has nm
 ·by_cases hn:ds[i].name =nm
  ·subst hn;rw[GC hi (by unfold CU;simp[hk])]at e;obtain rfl:i=k:=by omega
   rw[Maps.atKey_put_same h.isMap (GA _),hc]
  ·rw[Hp hi (by unfold CU;simp[hn])]at e;rw[Maps.atKey_put_other (fun e => hn (Gz e).symm)];exact h.at_ nm k e zd
def F6(ds:List Ag)(x:Ag):Prop:=∃k,∃h:k<ds.length,ds[k] =x∧x.kind=1∧x.length≠ -1∧BJ ds x.name ds.length=(k:Int)
structure Cw (ds L:List Ag):Prop where
 sorted:L.Pairwise nlt
 mem:∀x,x∈L↔F6 ds x
theorem Gn:∀ {L M:List Ag},L.Pairwise nlt→M.Pairwise nlt→(∀x,x∈L↔x∈M)→L=M
 | [],[],_,_,_ => rfl
 | [],y :: M,_,_,h => by have:=(h y).2 (List.mem_cons_self ..);cases this
 |x :: L,[],_,_,h => by have:=(h x).1 (List.mem_cons_self ..);cases this
 |x :: L,y :: M,h1,h2,h => by
  obtain⟨a1,a2⟩:=List.pairwise_cons.1 h1;obtain⟨b1,b2⟩:=List.pairwise_cons.1 h2;have e:x=y:=by
   rcases List.mem_cons.1 ((h x).1 (List.mem_cons_self ..))with e|e
   ·exact e
   ·rcases List.mem_cons.1 ((h y).2 (List.mem_cons_self ..))with e2|e2
    ·exact e2.symm
    ·exact absurd (FW (a1 y e2) (b1 x e)) (EG x)
  subst e;rw[Gn a2 b2 fun z =>⟨fun hz => ?_,fun hz => ?_⟩]
  ·rcases List.mem_cons.1 ((h z).1 (List.mem_cons_of_mem _ hz))with e|e
   ·subst e;exact absurd (a1 z hz) (EG z)
   ·exact e
  ·rcases List.mem_cons.1 ((h z).2 (List.mem_cons_of_mem _ hz))with e|e
   ·subst e;exact absurd (b1 z hz) (EG z)
   ·exact e
theorem Cw.uniq {ds L M:List Ag}(h1:Cw ds L)(h2:Cw ds M):L=M:=Gn h1.sorted h2.sorted fun x =>(h1.mem x).trans (h2.mem x).symm
structure DB (ds:List Ag) (left:Lit→Bool) (L:List Ag):Prop where
 apart:L.Pairwise fun x y =>¬x.name=y.name
 mem:∀x,x∈L↔(F6 ds x∧left (Cs x.name)=false)
theorem DB.start {ds:List Ag} {css:List (List Value)} {D:DataW Value}(h:Di ds css D ds.length):DB ds (Maps.has D) [] :=
 ⟨List.Pairwise.nil,fun x =>⟨fun hx =>(by cases hx),fun⟨⟨k,_,_,_,_,e⟩,hx⟩ => by rw[h.has,e]at hx;simp at hx⟩⟩
theorem DB.step {ds:List Ag} {left:Lit→Bool} {L:List Ag}(h:DB ds left L) {nm:ByteArray} {k:Nat}(hl:left (Cs nm)=true)(hn:BJ ds nm ds.length=(k:Int)) :
  ∃hk:k<ds.length,ds[k].kind =1∧ds[k].name =nm∧(ds[k].length≠ -1→DB ds (fun z => left z && !z.sameKey (Cs nm)) (L ++ [ds[k]]))∧(ds[k].length = -1→DB ds (fun z => left z && !z.sameKey (Cs nm)) L):=by
 obtain⟨hk,hi⟩:=Ho ds nm k _ hn;unfold CU at hi;simp only[decide_eq_true_eq]at hi;have hone:∀x,F6 ds x→x.name=nm→x=ds[k]:=fun x ⟨j,hj,e1,_,_,e2⟩ e => by
  rw[e]at e2;obtain rfl:k=j:=by omega
  exact e1.symm
 have hlf:∀x:Ag,(left (Cs x.name) && !(Cs x.name).sameKey (Cs nm))=false↔(left (Cs x.name)=false∨x.name=nm):=fun x => by
  rw[LK];cases left (Cs x.name) <;> simp
 refine⟨hk,hi.1,hi.2,fun hd =>⟨?_,fun x => ?_⟩,fun hd =>⟨h.apart,fun x => ?_⟩⟩
 ·rw[List.pairwise_append];refine⟨h.apart,List.pairwise_singleton _ _,fun a ha b hb => ?_⟩;rw[List.mem_singleton.1 hb,hi.2];intro e;have:=((h.mem a).1 ha).2;rw[e,hl]at this;cases this
 ·rw[List.mem_append,List.mem_singleton,h.mem,hlf];constructor
  ·rintro(⟨a,b⟩|rfl)
   ·exact⟨a,.inl b⟩
   ·exact⟨⟨k,hk,rfl,hi.1,hd,by rw[hi.2];exact hn⟩,.inr hi.2⟩
  ·rintro⟨a,b|b⟩
   ·exact .inl ⟨a,b⟩
   ·exact .inr (hone x a b)
 ·rw[h.mem,hlf];constructor
  ·rintro⟨a,b⟩;exact⟨a,.inl b⟩
  ·rintro⟨a,b|b⟩
   ·exact⟨a,b⟩
   ·have e:=hone x a b;obtain⟨_,_,_,_,hne,_⟩:=a;rw[e]at hne;exact absurd hd hne
theorem DB.live {ds:List Ag} {left:Lit→Bool} {L M:List Ag}(h:DB ds left L)(hl:∀kl,left kl=false)(hp:M.Perm L)(hs:M.Pairwise fun x y =>¬nlt y x):Cw ds M:=by
 have hap:M.Pairwise fun x y =>¬x.name=y.name:=(hp.pairwise_iff (fun {_ _} hne => Ne.symm hne)).2 h.apart
 refine⟨?_,fun x => by rw[hp.mem_iff,h.mem];exact⟨fun a => a.1,fun a =>⟨a,hl _⟩⟩⟩;exact(hs.and hap).imp fun⟨a,b⟩ =>(nlt_ne b).resolve_right a
abbrev RV:Value→Option (DataW Value × List MemPlace):=fun v => some (.held v,[])
theorem Fb:Maps.Keyed Tryz.prog 9:=Maps.string_keyed Tryz.underlying9
theorem keyOfN {nm:ByteArray}(h:nm.size≤1000000):keyOf Tryz.prog 9 (.string nm)=some (Cs nm):=WideMaps.keyOf_string_mk Tryz.underlying9 (by unfold maxLen;omega)
theorem rSl.css {w:World} {fs:List Addr} {v:Value} {ds:List Ag}(h:rSl 9 Ac w fs v ds):∃A c css,v= .slice A ds.length c∧ds.length≤c∧c≤9223372036854775807∧∀j,(hj:j<ds.length)→∃ad b o fk,A=some ad∧At 9 Ac w fs ad j b o (List.getD css j []) fk ds[j]:=by
 obtain⟨A,c,rfl,hc,hm,hx⟩:=rSl.at_ Ac.fixed (by omega) h;have:∀j:Fin ds.length,∃cs,∃ad b o fk,A=some ad∧At 9 Ac w fs ad j.1 b o cs fk ds[j.1]:=fun j => by
  obtain⟨ad,b,o,cs,fk,e,hat⟩:=hx j.1 j.2;exact⟨cs,ad,b,o,fk,e,hat⟩
 obtain⟨X,hX⟩:=Classical.axiomOfChoice this;refine⟨A,c,List.ofFn X,rfl,hc,hm,fun j hj => ?_⟩;have h1:=hX ⟨j,hj⟩;have e:(List.ofFn X).getD j [] =X ⟨j,hj⟩:=by simp[List.getD_eq_getElem?_getD,hj]
 rw[e];exact h1
theorem DT {w:World} {P:Program} {k:TypeId} {R:Value→Option (DataW Value × List MemPlace)} {b n:Nat} {D:DataW Value}(h:w.ownsMap P k R b n D) {a:Addr}(e:a.block=b):w.cell? a=none:=by
 obtain⟨es,clock,hb,-⟩:=h;unfold World.cell?;rw[e,hb]
theorem Ib {s:ByteArray} {kl:Lit}(h:keyOf Tryz.prog 9 (.string s)=some kl):kl=Cs s:=by
 have hk:=Tryz.underlying9;simp[keyOf,hk,mapKey]at h;exact h.2.symm
theorem Ic {key:Value} {kl:Lit}(h:keyOf Tryz.prog 9 key=some kl):∃s,key= .string s:=by
 have hk:=Tryz.underlying9;cases key <;> simp[keyOf,hk,mapKey]at h
 exact⟨_,rfl⟩
theorem F0 {w:World} {P:Program} {k:TypeId} {R:Value→Option (DataW Value × List MemPlace)} {b n:Nat} {D:DataW Value}(h:w.ownsMap P k R b n D):Maps.size D≤n:=by
 obtain⟨es,clock,hb,F,hs,rfl⟩:=h;rw[Maps.size_eq,length_sorted];simpa using hs
theorem Ka {P:Addr→Prop} {lo:Nat}(hP:∀a,P a→a.block<lo) {w W:World} {b g n c:Nat} {ds:List Ag} {fs f:List Addr} {us:List Value} {d:Ag}(ho:Aj 9 76 Ac w lo (.slice (some ⟨g,0,none⟩) n c) ds fs)(hlo:lo≤w.heap.size)(hW:Below w.heap.size w W)(hk:Blk W b 76 us.toArray)(hr:Ac W f us d)(hf:∀a,a∈f→P a)(hfs:∀a,a∈fs→P a)(hn:ds.length+1≤1000000000) :
  ∃v' w',(Builtin.append_ #[113,113] 113 #[.slice (some ⟨g,0,none⟩) n c,.slice (some ⟨b,0,none⟩) 1 1]).run Tryz.prog W= .ok v' w'∧∃g' c' fs',v'= .slice (some ⟨g',0,none⟩) (ds.length+1) c'∧Aj 9 76 Ac w' lo v' (ds ++ [d]) fs'∧(∀a,a∈fs'→P a)∧W.grownBy w' (some g)∧(g'=g∨g'=W.heap.size):=by
 have ho2:=ho.below Ac.local_ Ac.fixed hW;have hs:=hW.size;obtain⟨v',w',q1,hh,q2,q3,q4,q5⟩:=Aj.appendOne (P:=Tryz.prog) 113 113 _ 128 Tryz.underlying113 Tryz.infoRec rfl (by decide) Ac.local_ Ac.fixed Ac.ones lo _ ds fs ho2 b us f d (Ac.wide _ _ _ _ hr) hk hr (fun a ha e => by
  have:=(ho2.lt _ e).1;have:=hP a (hf a ha);omega) hn (by omega) (by omega)
 refine⟨v',w',q1,?_⟩;obtain⟨xs,hl,ht⟩:=q2.cells;rcases ht with⟨_,e⟩|⟨g',cap,cur,rfl,hb,hg,_⟩
 ·simp at e
 ·refine⟨g',cap,_,by simp,q2,fun a ha => ?_,q4,?_⟩
  ·rcases List.mem_append.1 ha with ha|ha
   ·exact hfs a ha
   ·exact hf a (q3.subset ha)
  ·rcases q5 with q5|q5
   ·left;simpa [Value.ownBlock]using q5
   ·right;simpa [Value.ownBlock]using q5
theorem CZ {B:Nat} {w w':World} {g:Nat}(h:w.grownBy w' (some g))(hg:B≤g)(hB:B≤w.heap.size):Below B w w':=⟨h.os,h.tape,h.output,h.size,fun k hk => h.block k (by omega) (fun e => by injection e;omega)⟩
theorem Jf(p:Nat)(fs:List Addr)(d:Au)(w:World)(h:AtW w p fs d)(hsm:(Bj d).length≤1000000)(hnm:∀r,r∈AW d→r.name.size≤1000000) :
  Calls Tryz.prog 75 #[.pointer (some ⟨p,0,none⟩)] w fun e w' =>∃L A c fs',e= .returned (.slice A L.length c)∧Cw (AW d) L∧rSl 9 Ac w' fs' (.slice A L.length c) L∧(∀a,a∈fs'→a∈fs∨w.heap.size≤a.block)∧Below w.heap.size w w':=by
 obtain⟨mb,hmb⟩:∃mb,w.heap.size=mb:=⟨_,rfl⟩;obtain⟨W1,hW1⟩:∃W1,w.alloc (.map #[] 0)=W1:=⟨_,rfl⟩;have hB1:Below w.heap.size w W1:=by rw[← hW1];exact(Below.refl _ _).alloc (Nat.le_refl _) _
 have z1:W1.heap.size=mb+1:=by rw[← hW1,← hmb];simp
 have hM1:W1.ownsMap Tryz.prog 9 RV mb 0 (.map []):=by rw[← hW1,← hmb];exact World.ownsMap_made _ _ _ _
 have HC:=hid (CK p fs d W1 (h.below hB1) hsm);have hl:=DI d;obtain⟨all,hall⟩:∃all,AW d=all:=⟨_,rfl⟩;rw[hall]at HC hl hnm⊢;have hN:all.length≤1000000:=by omega
 have HNM:=hid hnm;have HB1:=hid hB1;have HM1:=hid hM1;have HZ1:=hid z1;have HMB:=hid hmb;have hmk:(Instr.makeMap 156 none).run Tryz.prog w= .ok (.map (some mb)) W1:=by rw[← hW1,← hmb];rfl
 clear h hB1 hM1 hnm hl hall hsm;go_enter Tryz.func75,Tryz.ntmps75
 go_wp2_with fail
 clear hW1 hmb z1;go_wp2_with (go_at_call 128;refine HC.out.mono ?_;rintro e w2 ⟨A,c,fa,rfl,ra,pa,b2⟩;have RA:=hid ra;have PA:=hid pa;have B2:=hid b2;clear ra pa b2)
 obtain⟨A',c',css,ev,hc,hm,hx⟩:=rSl.css RA.out;injection ev with ev1 ev2 ev3
 subst ev1 ev3;have HX:=hid hx;have HFT:=hid (rSl.there Ac.fixed RA.out);have hM2:w2.ownsMap Tryz.prog 9 RV mb 0 (.map []):=HM1.out.kept (row:=none) ⟨B2.out.os,B2.out.tape,B2.out.output,B2.out.size,fun k hk _ => B2.out.block k hk⟩ (by simp);have HM2:=hid hM2;have HBW2:=hid (show Below w.heap.size w w2 from HB1.out.trans (B2.out.mono HB1.out.size));have zm2:mb<w2.heap.size:=by have:=HZ1.out;have:=B2.out.size;omega
 clear hx hM2 HC ev2;go_loopw [13,5] (fun ix _ wr =>∃(i n:Nat) (D:DataW Value),i≤all.length∧n≤i∧ix= int i64 i∧Hid (Di all css D i)∧Hid (wr.ownsMap Tryz.prog 9 RV mb n D)∧Hid (∀a:Addr,a.block<w2.heap.size→wr.cell? a=w2.cell? a)∧Hid (Below w.heap.size w wr)∧w2.heap.size≤wr.heap.size) (fun ix _ _ => all.length - (intOf ix).toNat)
 case atStart => exact⟨0,0,.map [],by omega,by omega,rfl,Di.start _ _,HM2.out,fun a _ => rfl,HBW2.out,Nat.le_refl _⟩
 case round =>
  obtain⟨i,n,D,hi,hn,rfl,HMA,HOM,HSA,HB,hsz⟩:=hrel;by_cases hlt:i<all.length
  ·obtain⟨ad,b3,o3,f3,rfl,hat⟩:=HX.out i hlt;obtain⟨cs3,hcs3⟩:∃cs3,List.getD css i [] =cs3:=⟨_,rfl⟩;rw[hcs3]at hat;have HCS:=hid hcs3;have hpl3:=hat.place;have hbl3:b3<w2.heap.size:=hat.lt;have hbl4:b3<wr.heap.size:=by omega
   have hlen:cs3.length=9:=hat.len;have HR:=hid (show wr.rangeAt b3 o3 cs3 from fun q v hq => by
    have hq1:q<cs3.length:=(List.getElem?_eq_some_iff.1 hq).1;rw[HSA.out _ hbl3,hat.cell q hq1,← hq];exact(List.getElem?_eq_getElem hq1).symm)
   have HI:=hid (show(Tryz.prog.info? 76).map (·.size)=some cs3.length by rw[hlen];kernel_rfl);have HI2:=hid (show(Tryz.prog.info? 76).map (·.size)=some cs3.toArray.size by rw[List.size_toArray,hlen];kernel_rfl);have HON:=hid (all_oneCell_toArray (Ac.ones _ _ _ _ hat.reads));obtain⟨Z,hZ⟩:∃Z:Array Value,#[int i64 0,int i64 0,.string ⟨#[]⟩,int i64 0,int i64 0,int i64 0,.slice none 0 0,.slice none 0 0,.slice none 0 0] =Z:=⟨_,rfl⟩;have hZs:Z.size=9:=by rw[← hZ];rfl
   have KZ:=Blk.new wr 76 Z;have HTH:=hid (Blk.there KZ cs3.toArray.size (by rw[List.size_toArray,hlen,hZs];exact Nat.le_refl _));obtain⟨W2,hW2⟩:∃W2,(wr.alloc (.cells Z 76)).setCells wr.heap.size 0 cs3.toArray.toList=W2:=⟨_,rfl⟩;have k2:Blk W2 wr.heap.size 76 cs3.toArray:=by rw[← hW2];exact Blk.laid KZ _ (by rw[hZs];exact hlen.symm)
   have b22:Below wr.heap.size wr W2:=by rw[← hW2];exact AF (Aa (Below.refl _ _) _) _ 0 (Nat.le_refl _)
   have HW2:=hid hW2;have BW2:=hid b22;have HR2:=hid (Blk.rangeAll k2);have hgb:=k2.lt;obtain⟨v0,v1,v2,q0,q1,q2,e,-⟩:=hat.reads;have y0:W2.cell? ⟨wr.heap.size,0,none⟩=some (int i64 all[i].kind):=by rw[k2.cell,e];rfl
   have y2:W2.cell? ⟨wr.heap.size,2,none⟩=some (.string all[i].name):=by rw[k2.cell,e];rfl
   have HOM2:=hid (show W2.ownsMap Tryz.prog 9 RV mb n D from HOM.out.kept (row:=none) ⟨b22.os,b22.tape,b22.output,b22.size,fun k hk _ => b22.block k hk⟩ (by simp));have HSA2:=hid (show∀a:Addr,a.block<w2.heap.size→W2.cell? a=w2.cell? a from fun a ha =>(b22.cell (p:=a) (by omega)).trans (HSA.out a ha));have HBX:=hid (HB.out.trans (b22.mono HB.out.size));have hnl:=HNM.out _ (List.getElem_mem hlt);have hki:(i:Int)<(all.length:Int):=by omega
   have sz2:=b22.size;clear hat hW2 KZ hlen hZs k2 e hcs3 b22;by_cases qk:all[i].kind =1
   ·have hk:(all[i].kind == 1)=true:=by simpa using qk
    have HPUT:=hid (HMA.out.put hlt qk HCS.out);clear qk;go_wp2_with (first
     |(refine wpList_load_mid rfl 76 (.tmp 15) rfl b3 o3 rfl cs3 _ HR.out Tryz.underlying76 rfl HI.out ?_)
     |(refine wpList_store_mid rfl 76 (.tmp 5) (.tmp 16) rfl wr.heap.size 0 cs3.toArray rfl rfl HTH.out HI2.out HON.out ?_;rw[HW2.out])
     |(refine wpList_load_mid rfl 76 (.tmp 5) rfl wr.heap.size 0 rfl cs3 _ HR2.out Tryz.underlying76 rfl HI.out ?_)
     |(at_mapUpdate;refine wpList_mapUpdate_own _ rfl _ _ _ 156 rfl 9 76 Fb Tryz.underlying156 RV mb n D rfl HOM2.out (by unfold maxLen;omega) _ _ (Cs all[i].name) rfl rfl (keyOfN hnl) (.held (.agg cs3.toArray)) [] rfl ?_;intro w4 hown4 hgrow4;have HO4:=hid hown4;have HG4:=hid hgrow4;clear hown4 hgrow4))
    go_roundw
    case rel =>
     refine⟨i+1,n+1,_,by omega,by omega,by go_num,HPUT.out,HO4.out,fun a ha => ?_,HBX.out.trans (CZ HG4.out (by rw[HMB.out];exact Nat.le_refl _) (by rw[HMB.out];omega)),by have:=HG4.out.size;omega⟩;by_cases e:a.block=mb
     ·rw[DT HO4.out e,DT HM2.out e]
     ·exact(World.cell?_of_block (HG4.out.block a.block (by omega) (fun e2 => by injection e2 with e2;exact e e2))).trans (HSA2.out a ha)
    case measure => simp[intOf];omega
   ·have hk:(all[i].kind == 1)=false:=by simpa using qk
    have HPUT:=hid (HMA.out.skip hlt qk);clear qk;go_wp2_with (first
     |(refine wpList_load_mid rfl 76 (.tmp 15) rfl b3 o3 rfl cs3 _ HR.out Tryz.underlying76 rfl HI.out ?_)
     |(refine wpList_store_mid rfl 76 (.tmp 5) (.tmp 16) rfl wr.heap.size 0 cs3.toArray rfl rfl HTH.out HI2.out HON.out ?_;rw[HW2.out]))
    go_roundw
    case rel => exact⟨i+1,n,D,by omega,by omega,by go_num,HPUT.out,HOM2.out,HSA2.out,HBX.out,by omega⟩
    case measure => simp[intOf];omega
  ·obtain rfl:i=all.length:=by omega
   have HO3:=hid (HOM.out.alloc (.cells #[] 76));have HOW:=hid (Aj.start (R:=Ac) (World.ownsRow_lit (base:=wr.heap.size) (e:=76) (size:=9) wr #[] 0 (Nat.le_refl _) (Nat.zero_le _) rfl));have HMZ:=hid (F0 HOM.out);have sz3:(wr.alloc (.cells #[] 76)).heap.size =wr.heap.size+1:=by simp
   have HB3:=hid (show Below wr.heap.size wr (wr.alloc (.cells #[] 76))from(Below.refl _ _).alloc (Nat.le_refl _) _);obtain⟨W3,hW3⟩:∃W3,wr.alloc (.cells #[] 76)=W3:=⟨_,rfl⟩;rw[hW3]at HO3 HOW HB3 sz3;obtain⟨gO,hgO⟩:∃gO,wr.heap.size=gO:=⟨_,rfl⟩;rw[hgO]at HOW HB3 sz3 hsz;go_wp2_with (at_range;refine wpList_range_own _ rfl _ 156 rfl 9 76 Fb Tryz.underlying156 RV mb n D rfl HO3.out ?_;intro w5 hrg hg5 hs5;have HRG5:=hid hrg;have HG5:=hid hg5;have HS5:=hid hs5;clear hrg hg5 hs5)
   go_frame
   obtain⟨rr,hrr⟩:∃rr,W3.heap.size=rr:=⟨_,rfl⟩;have HRG:=HRG5;have HS:=HS5;rw[hrr]at HRG HS sz3;clear HRG5 HS5;have HW35:=hid (show Below W3.heap.size W3 w5 from⟨HG5.out.os,HG5.out.tape,HG5.out.output,HG5.out.size,fun k hk => HG5.out.block k hk (by simp)⟩);have HOW5:=hid (HOW.out.below Ac.local_ Ac.fixed HW35.out);have HVS:=hid (DB.start HMA.out);have HSA5:=hid (show∀a:Addr,a.block<w2.heap.size→w5.cell? a=w2.cell? a from fun a ha =>(HW35.out.cell (p:=a) (by omega)).trans ((HB3.out.cell (p:=a) (by omega)).trans (HSA.out a ha)));have hgm:mb<gO:=by omega
   have HB5:=hid (show Below w.heap.size w w5 from HB.out.trans (((HB3.out.mono (show w.heap.size≤gO from by have:=HMB.out;omega)).trans (HW35.out.mono (by have:=HMB.out;omega)))));clear hW3 hgO HOW HSA HB HB3 HO3 HOM HG5;try rw[hrr]
   clear hrr;subst sz3;go_loopw [6,8] (fun o _ wx =>∃(left:Lit→Bool) (cnt k g c1:Nat) (L:List Ag) (fo:List Addr),o= .slice (some ⟨g,0,none⟩) k c1∧Hid (k=L.length)∧g≠gO+1∧gO≤g∧cnt+k≤Maps.size D∧Hid (DB all left L)∧Hid (wx.ranges Tryz.prog 9 RV mb (gO+1) n D left cnt)∧Hid (Aj 9 76 Ac wx gO (.slice (some ⟨g,0,none⟩) k c1) L fo)∧Hid (∀a,a∈fo→a∈fa)∧Hid (∀a:Addr,a.block<w2.heap.size→wx.cell? a=w2.cell? a)∧Hid (Below w.heap.size w wx)∧gO+1<wx.heap.size) (fun _ _ wx => wx.rangeLeft mb (gO+1))
   case atStart => exact⟨_,_,0,gO,0,[],[],rfl,rfl,by omega,Nat.le_refl _,by omega,HVS.out,HRG.out,HOW5.out,(show∀a,a∈([]:List Addr)→a∈fa from fun a ha => by cases ha),HSA5.out,HB5.out,by have:=HS.out;omega⟩
   case round =>
    clear HVS HRG HOW5 HSA5 HB5 HS HW35;obtain⟨left,cnt,k,g,c1,L,fo,rfl,HK,hgr,hgO,hcnt,HV,HR,HO,HF,HSA,HB,hrx⟩:=hrel;go_wp2_with (at_next;refine wpList_next_ranges _ rfl _ rfl 9 Fb RV Value.string id (fun key kl h => Ic h) (fun v y h =>⟨v,rfl⟩) mb (gO+1) n D left cnt rfl HR.out ?_ ?_)
    ·intro hc0 hl0;have HST:=hid (J3 (n:=k) HO.out HK.out (by have:=HMZ.out;omega) hgO (HO.out.lt _ rfl).2 (fun a ha => by have:=HFT.out a (HF.out a ha);omega));have HLF:=hid hl0;clear hc0 hl0;go_wp2_with (go_at_call 129;refine HST.out.mono ?_;rintro e w7 ⟨rfl,M,f7,hp7,hs7,r7,p7,b7⟩;have HP7:=hid hp7;have HS7:=hid hs7;have R7:=hid r7;have P7:=hid p7;have B7:=hid b7;clear hp7 hs7 r7 p7 b7)
     go_ret
     have hlen:M.length=k:=by rw[HK.out,HP7.out.length_eq]
     refine⟨M,some ⟨g,0,none⟩,c1,f7,by rw[hlen];rfl,HV.out.live HLF.out HP7.out HS7.out,by rw[hlen];exact R7.out,fun a ha => ?_,HB.out.trans (B7.out.mono (by have:=HMB.out;omega))⟩;rcases P7.out a ha with q|q
     ·rcases PA.out a (HF.out a q)with q2|q2
      ·exact .inl q2
      ·right;have:=HZ1.out;have:=HMB.out;omega
     ·right;have:=HMB.out;omega
    ·intro x cv kl y ys w6 cnt1 hkx hlx hRv hys hat6 hrg6 hlt6 hg6 hs6 hen;have hs6a:=Nat.le_of_eq hs6;have hs6b:=Nat.le_of_eq hs6.symm;clear hs6;obtain rfl:=Ib hkx;have hRv2:DataW.held cv=y:=hRv;subst hRv2;have hMZ:=HMZ.out;have hh:=Maps.has_true_of_atKey hat6;rw[HMA.out.has]at hh;simp only[decide_eq_true_eq]at hh;obtain⟨q,hq⟩:∃q:Nat,BJ all x all.length=(q:Int):=⟨(BJ all x all.length).toNat,by omega⟩;have hv:=HMA.out.at_ x q hq (.lit (.bool true));rw[hat6]at hv;obtain⟨cs3,hcs3⟩:∃cs3,List.getD css q [] =cs3:=⟨_,rfl⟩;rw[hcs3]at hv;obtain rfl:cv= .agg cs3.toArray:=by injection hv
     obtain⟨hqk,hkd,hnq,hli1,hli0⟩:=HV.out.step hlx hq;obtain⟨ad,b3,o3,f3,rfl,hat⟩:=HX.out q hqk;rw[hcs3]at hat;have hlen:cs3.length=9:=hat.len;have HI:=hid (show(Tryz.prog.info? 76).map (·.size)=some cs3.length by rw[hlen];kernel_rfl);have HI2:=hid (show(Tryz.prog.info? 76).map (·.size)=some cs3.toArray.size by rw[List.size_toArray,hlen];kernel_rfl);have HON:=hid (all_oneCell_toArray (Ac.ones _ _ _ _ hat.reads));have HSZ:=hid (show cs3.toArray.size=9 by rw[List.size_toArray];exact hlen);obtain⟨Z,hZ⟩:∃Z:Array Value,#[int i64 0,int i64 0,.string ⟨#[]⟩,int i64 0,int i64 0,int i64 0,.slice none 0 0,.slice none 0 0,.slice none 0 0] =Z:=⟨_,rfl⟩;have hZs:Z.size=9:=by rw[← hZ];rfl
     have KZ:=Blk.new w6 76 Z;have HTH:=hid (Blk.there KZ cs3.toArray.size (by rw[List.size_toArray,hlen,hZs];exact Nat.le_refl _));obtain⟨W7,hW7⟩:∃W7,(w6.alloc (.cells Z 76)).setCells w6.heap.size 0 cs3.toArray.toList=W7:=⟨_,rfl⟩;have k7:Blk W7 w6.heap.size 76 cs3.toArray:=by rw[← hW7];exact Blk.laid KZ _ (by rw[hZs];exact hlen.symm)
     have b67:Below w6.heap.size w6 W7:=by rw[← hW7];exact AF (Aa (Below.refl _ _) _) _ 0 (Nat.le_refl _)
     have HW7:=hid hW7;have HR7:=hid (Blk.rangeAll k7);have hgb:=k7.lt;have sz7:=b67.size;have HG6:=hid hg6;have h6c:∀a:Addr,a.block<w2.heap.size→w6.cell? a=w2.cell? a:=fun a ha =>(World.cell?_of_block (HG6.out.block a.block (by omega) (fun e2 => by injection e2 with e2;omega))).trans (HSA.out a ha)
     have HSA7:=hid (show∀a:Addr,a.block<w2.heap.size→W7.cell? a=w2.cell? a from fun a ha =>(b67.cell (p:=a) (by omega)).trans (h6c a ha));have HRD7:=hid (show Ac W7 f3 cs3 all[q]from Ac.local_ _ _ _ _ _ hat.reads (fun a ha => HSA7.out a (hat.there a ha)));have hog:=(HO.out.lt _ rfl).2;have HO6:=hid (show Aj 9 76 Ac w6 gO (.slice (some ⟨g,0,none⟩) k c1) L fo from Aj.keep Ac.local_ HO.out (fun b hb => by injection hb with hb;subst hb;exact HG6.out.block _ hog (fun e2 => by injection e2 with e2;exact hgr e2)) (fun a ha => by have:=HFT.out a (HF.out a ha);exact World.cell?_of_block (HG6.out.block a.block (by omega) (fun e2 => by injection e2 with e2;omega))));have HO7:=hid (HO6.out.below Ac.local_ Ac.fixed b67);have HRG7:=hid (hrg6.kept (row:=none) ⟨b67.os,b67.tape,b67.output,b67.size,fun k hk _ => b67.block k hk⟩ (by simp) (by simp));have HB7:=hid (HB.out.trans (((CZ HG6.out (show w.heap.size≤gO+1 from by have:=HMB.out;omega) HB.out.size)).trans (b67.mono (by have:=HB.out.size;omega))));have HF3:=hid (show∀a,a∈f3→a∈fa from hat.sub);obtain⟨v0,v1,v2,q0,q1,q2,e,-⟩:=hat.reads;have y3:W7.cell? ⟨w6.heap.size,3,none⟩=some (int i64 all[q].length):=by rw[k7.cell,e];rfl
     have HOLD:=hid HR.out.left_eq;have HLT6:=hid hlt6;have HAP:=hid (Ka (P:=fun a => a∈fa) (lo:=gO) (fun a ha => by have:=HFT.out a ha;omega) (w:=W7) (W:=W7.alloc (.cells cs3.toArray 76)) (b:=W7.heap.size) HO7.out (by omega) (Aa (Below.refl _ _) _) (Blk.new _ _ _) (Aw.below Ac.local_ Ac.fixed HRD7.out (Aa (Below.refl _ _) _)) HF3.out HF.out (by rw[← HK.out];omega));rw[← HK.out]at HAP;clear hat hW7 KZ hlen hZs k7 e hcs3 b67 hv hh hat6 hRv hys hkx hrg6 h6c hg6 hlt6 hlx hnq hkd hq;by_cases ql:all[q].length = -1
     ·have hq1:(all[q].length == -1)=true:=by simpa using ql
      have HV7:=hid (hli0 ql);clear ql hli0 hli1;go_wp2_with (first
       |(refine wpList_store_mid rfl 76 (.tmp 8) (.tmp 31) rfl w6.heap.size 0 cs3.toArray rfl rfl HTH.out HI2.out HON.out ?_;rw[HW7.out]))
      go_roundw
      case rel => exact⟨_,cnt1,k,g,c1,L,fo,rfl,HK.out,hgr,hgO,by have:=HLT6.out;omega,HV7.out,HRG7.out,HO7.out,HF.out,HSA7.out,HB7.out,by omega⟩
      case measure => rw[HRG7.out.left_eq,HOLD.out];exact HLT6.out
     ·have hq1:(all[q].length == -1)=false:=by simpa using ql
      have HV7:=hid (hli1 ql);clear ql hli0 hli1;go_wp2_with (first
       |(refine wpList_store_mid rfl 76 (.tmp 8) (.tmp 31) rfl w6.heap.size 0 cs3.toArray rfl rfl HTH.out HI2.out HON.out ?_;rw[HW7.out])
       |(refine wpList_load_mid rfl 76 (.tmp 8) rfl w6.heap.size 0 rfl cs3 _ HR7.out Tryz.underlying76 rfl HI.out ?_)
       |(refine DG rfl 113 76 (.tmp 36) rfl cs3.toArray rfl _ 9 128 Tryz.underlying113 Tryz.infoRec (by omega) (by omega) HSZ.out ?_)
       |(at_builtin;refine AB rfl (.tmp 35) (.tmp 37) 113 rfl _ _ (by rfl) (by rfl) HAP.out ?_;rintro v8 w8 ⟨g8,c8,fo8,rfl,o8,h8,gr8,e8⟩;have O8:=hid o8;have H8:=hid h8;have G8:=hid gr8;have E8:=hid e8;clear o8 h8 gr8 e8))
      have h8:(W7.alloc (.cells cs3.toArray 76)).heap.size =W7.heap.size+1:=by simp
      have b78:Below W7.heap.size W7 (W7.alloc (.cells cs3.toArray 76)):=Aa (Below.refl _ _) _;have hsa8:=G8.out.size;have HRG8:=hid (((HRG7.out.alloc (.cells cs3.toArray 76)).kept G8.out (fun e2 => by injection e2 with e2;omega) (fun e2 => by injection e2 with e2;exact hgr e2.symm)));have HSA8:=hid (show∀a:Addr,a.block<w2.heap.size→w8.cell? a=w2.cell? a from fun a ha =>(World.cell?_of_block (G8.out.block a.block (by omega) (fun e2 => by injection e2 with e2;omega))).trans ((b78.cell (p:=a) (by omega)).trans (HSA7.out a ha)));have HB8:=hid (HB7.out.trans (((b78.mono (by have:=HB7.out.size;omega)).trans (CZ G8.out (show w.heap.size≤g from by have:=HMB.out;omega) (by have:=HB7.out.size;omega)))));have hg8:g8≠gO+1∧gO≤g8:=by
       rcases E8.out with e|e
       ·rw[e];exact⟨hgr,hgO⟩
       ·rw[e,h8];omega
      have HG8:=hid hg8;have HSZ8:=hid (show gO+1<w8.heap.size by omega);clear h8 b78 hsa8 hg8;go_roundw
      case rel => exact⟨_,cnt1,k+1,g8,c8,L ++ [all[q]],fo8,rfl,(show k+1=_ by rw[List.length_append,← HK.out];rfl),HG8.out.1,HG8.out.2,by have:=HLT6.out;omega,HV7.out,HRG8.out,O8.out,H8.out,HSA8.out,HB8.out,HSZ8.out⟩
      case measure => rw[HRG8.out.left_eq,HOLD.out];exact HLT6.out
end Go.Proofs.YthbljikbnoghcaaGreat
