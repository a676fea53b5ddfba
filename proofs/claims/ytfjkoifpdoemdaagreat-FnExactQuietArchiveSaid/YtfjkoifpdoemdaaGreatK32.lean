/-
  Part 32 of the proof; the last part states and proves the statement.
-/
import Derived.Test.YtfjkoifpdoemdaaGreatK25
import Derived.Test.YtfjkoifpdoemdaaGreatK11
set_option maxHeartbeats 8000000
set_option maxRecDepth 100000
set_option linter.unusedVariables false
set_option linter.unusedSimpArgs false
open Go.Value (int)
open Go.IntKind (i64)
namespace Go.Proofs.YtfjkoifpdoemdaaGreat
open Go.Shelf Go.RowKit Go.Lib Go.Sort
theorem Ac.encodedS {w:World} {f:List Addr} {cs:List Value} {d:Ag}(h:Ac w f cs d)(i:Nat):∃x:Ci,Bq x=cs∧x.at_=i∧(x.name=d.name∧x.seq=d.seq):=by
 obtain⟨v0,v1,v2,f0,f1,f2,rfl,-,-,-,-,-,-,-,h0,h1,h2⟩:=h;obtain⟨A0,c0,rfl,-⟩:=rSl.head h0;obtain⟨A1,c1,rfl,-⟩:=rSl.head h1;obtain⟨A2,c2,rfl,-⟩:=rSl.head h2;exact⟨⟨d.kind,d.seq,d.name,d.length,d.group,d.row,(A0,d.rows.length,c0),(A1,d.data.length,c1),(A2,d.delta.length,c2),i⟩,rfl,rfl,rfl,rfl⟩
theorem BU.shrink {w:World} {base g n m:Nat} {got:Nat→Option Ag}(h:BU w base g n got)(hm:m≤n):BU w base g m got :=
 ⟨fun j hj => h.there j (by omega),h.lo,h.lt,fun i hi d hd => h.el i (by omega) d hd⟩
theorem Ht(fn:Nat)(eg:∀args w,(callFunc fn args).run Tryz.prog w= .ok (.enter fn args) w)(cf:Ci→Ci→Int)(hswo:SWO (ltOf cf))(hcf:∀blk off size w,CmpLays Tryz.prog fn #[] Bq 9 cf blk off size w)(R:Ag→Ag→Prop)(hR:∀(x y:Ci) (dx dy:Ag),(x.name=dx.name∧x.seq=dx.seq)→(y.name=dy.name∧y.seq=dy.seq)→R dx dy→ltOf cf x y=true)
  {w:World} {base g n:Nat} (c:Nat) {ds:List Ag} (ho:BU w base g n (fun i => ds[i]?)) (hn:n=ds.length) (hsm:n<1000000000000) :
  Calls Tryz.prog 222 #[.slice (some ⟨g,0,none⟩) n c,.func (.func fn) #[] #[]] w fun e w' => e= .returned (.tuple #[])∧∃L:List Ag,L.Perm ds∧L.Pairwise (fun x y =>¬R y x)∧BU w' base g n (fun i => L[i]?)∧Below base w w':=by
 have hg:=ho.lt;have hbg:=ho.lo;have hrow:∀i:Fin n,∃q:List Value × List Addr,Ac w q.2 q.1 (ds[i.1]'(by omega))∧w.rangeAt g (i.1 * 9) q.1∧∀a,a∈q.2→a.block<base:=fun i => by
  obtain⟨cs,fk,h1,h2,h3⟩:=ho.el i.1 i.2 _ (List.getElem?_eq_getElem (by omega));exact⟨(cs,fk),h1,h2,h3⟩
 obtain⟨Q,hQ⟩:=Classical.axiomOfChoice hrow;have hex:∀i:Fin n,∃x:Ci,Bq x=(Q i).1∧x.at_=i.1∧(x.name=(ds[i.1]'(by omega)).name∧x.seq=(ds[i.1]'(by omega)).seq):=fun i => Ac.encodedS (hQ i).1 i.1
 obtain⟨X,hX⟩:=Classical.axiomOfChoice hex;obtain⟨d,hd⟩:∃d:Array Ci,d=Array.ofFn X:=⟨_,rfl⟩;have hdz:d.size=n:=by rw[hd];simp
 have hdi:∀i,(hi:i<n)→d[i]! =X ⟨i,hi⟩:=fun i hi => by
  rw[getElem!_pos d i (by omega)];simp[hd]
 have hcells:∀i j,(hi:i<n)→j<9→w.cell? ⟨g,i * 9+j,none⟩=some (Bq d[i]!)[j]!∧w.frozen? ⟨g,i * 9+j,none⟩=false:=fun i j hi hj => by
  have hl:j<(Bq d[i]!).length:=by rw[BO];exact hj
  refine⟨?_,?_⟩
  ·refine(hQ ⟨i,hi⟩).2.1 j _ ?_;rw[getElem!_pos _ j hl,← (hX ⟨i,hi⟩).1,← hdi i hi];exact List.getElem?_eq_getElem hl
  ·have:=(ho.there (i * 9+j) (by omega)).2;rwa [Nat.zero_add]at this
 have RK:RowK Bq 9 w g 0 d:=⟨BO,EC,fun t ht => by
  rw[size_flatK,hdz]at ht;rw[get_flatK _ _ _ _ (by rw[hdz];exact ht)];have:=hcells (t / 9) (t % 9) (by omega) (Nat.mod_lt _ (by omega));rw[show t / 9 * 9+t % 9=t by omega]at this;simpa using this,hg⟩
 have hcall:Calls Tryz.prog 222 #[.slice (some ⟨g,0,none⟩) d.size c,.func (.func fn) #[] #[]] w _:=AnyQ.slices_SortFunc Tryz.sortRecs 9 Tryz.isAgg119 Tryz.sizeOf119 Bq BO EC cf hswo fn #[] g 0 c d w eg (hcf _ _ _ _) RK.hH hg (by omega);rw[hdz]at hcall;refine hcall.mono ?_;rintro e w' ⟨rfl,d',n',os',hP,hO,hw'⟩;have hS:SWK Bq 9 w g 0 d' w':=⟨n',os',hw'⟩;have hB:Below base w w':=(SWK.belowB hS hg).mono hbg;have hz':d'.size=n:=hP.1.trans hdz;have hH:=hS.holds hg RK.hH (hz'.trans hdz.symm)
 -- what each of them is
 have hmem:∀i,i<n→∃q,∃hq:q<n,d'[i]! =X ⟨q,hq⟩:=fun i hi => permIn_all d d' 0 n (fun x =>∃q,∃hq:q<n,x=X ⟨q,hq⟩) (by omega) hP (fun q _ hq =>⟨q,hq,hdi q hq⟩) i (Nat.zero_le _) hi
 let φ:Ci→Ag:=fun x => ds.getD x.at_ default
 have hφ:∀q,(hq:q<n)→φ (X ⟨q,hq⟩)=ds[q]'(by omega):=fun q hq => by
  have:=(hX ⟨q,hq⟩).2.1;show ds.getD (X ⟨q,hq⟩).at_ default=_
  rw[this];simp[List.getD_eq_getElem?_getD,show q<ds.length by omega]
 have hperm:(d'.toList.map φ).Perm ds:=by
  have e1:(d'.extract 0 n).toList =d'.toList:=by rw[← hz',Array.extract_size]
  have e2:(d.extract 0 n).toList =d.toList:=by rw[← hdz,Array.extract_size]
  have:=hP.2.2;rw[e1,e2]at this;refine(this.map φ).trans ?_;have:d.toList.map φ=ds:=by
   apply List.ext_getElem
   ·simp[hdz,hn]
   ·intro i hi1 hi2;have hin:i<n:=by simp[hdz]at hi1;exact hi1
    rw[List.getElem_map];have:d.toList[i]'(by simpa using hi1)=X ⟨i,hin⟩:=by
     rw[← hdi i hin,getElem!_pos d i (by omega)];simp
    rw[this,hφ i hin]
  rw[this]
 have hord:(d'.toList.map φ).Pairwise (fun x y =>¬R y x):=by
  rw[List.pairwise_iff_getElem];intro i j hi hj hij;have hin:i<n:=by simp[hz']at hi;omega
  have hjn:j<n:=by simp[hz']at hj;omega
  have:=hO i j (Nat.zero_le _) hij hjn;obtain⟨p,hp,ep⟩:=hmem i hin;obtain⟨q,hq,eq⟩:=hmem j hjn;rw[List.getElem_map,List.getElem_map];have e1:d'.toList[i]'(by simpa using hi)=d'[i]!:=by rw[getElem!_pos d' i (by omega)];simp
  have e2:d'.toList[j]'(by simpa using hj)=d'[j]!:=by rw[getElem!_pos d' j (by omega)];simp
  rw[e1,e2,ep,eq,hφ p hp,hφ q hq];rw[ep,eq]at this;intro hlt;have hx:ltOf cf (X ⟨q,hq⟩) (X ⟨p,hp⟩)=true:=hR _ _ _ _ (hX ⟨q,hq⟩).2.2 (hX ⟨p,hp⟩).2.2 hlt;rw[this]at hx;cases hx
 obtain⟨LL,hLL⟩:∃LL,d'.toList.map φ=LL:=⟨_,rfl⟩;have hcount:=hLL;rw[hLL]at hperm hord;have hlen:LL.length=n:=by rw[← hLL];simp[hz']
 have hget:∀i,(hi:i<n)→∃q,∃hq:q<n,d'[i]! =X ⟨q,hq⟩∧LL[i]'(by omega)=ds[q]'(by omega):=fun i hi => by
  obtain⟨q,hq,e⟩:=hmem i hi;refine⟨q,hq,e,?_⟩;have hq':q<ds.length:=by omega
  have:LL[i]? =some (ds[q]'hq'):=by
   have e8:LL[i]? =(d'.toList.map φ)[i]?:=by rw[hcount]
   rw[e8,List.getElem?_map,Array.getElem?_toList,Array.getElem?_eq_getElem (by omega)];rw[getElem!_pos d' i (by omega)]at e;simp only[Option.map_some,e,hφ q hq]
  rw[List.getElem?_eq_getElem (by omega)]at this;injection this
 refine⟨rfl,LL,hperm,hord,⟨fun j hj => ?_,hbg,Nat.lt_of_lt_of_le hg hB.size,fun i hi e he => ?_⟩,hB⟩
 ·have h1:=HoldsK.cell hH (i:=j / 9) (c:=j % 9) (by omega) (Nat.mod_lt _ (by omega));simp only[Nat.zero_add]at h1⊢;rw[show j / 9 * 9+j % 9=j by omega]at h1;exact⟨by rw[h1.1];rfl,h1.2⟩
 ·obtain⟨q,hq,e1,ec⟩:=hget i hi;have he2:e=ds[q]'(by omega):=by
   have:LL[i]? =some e:=he;rw[List.getElem?_eq_getElem (by omega),ec]at this;injection this with this
   exact this.symm
  subst he2;obtain⟨h1,h2,h3⟩:=hQ ⟨q,hq⟩;refine⟨(Q ⟨q,hq⟩).1,(Q ⟨q,hq⟩).2,Ac.local_ _ _ _ _ _ h1 (AP.of_below h3 hB),fun j v hj => ?_,h3⟩;have hl9:=Ac.wide _ _ _ _ h1;have hj9:j<9:=by rw[← hl9];exact(List.getElem?_eq_some_iff.1 hj).1
  have h4:=(HoldsK.cell hH (i:=i) (c:=j) (by omega) hj9).1;simp only[Nat.zero_add]at h4;rw[h4,e1];rw[← (hX ⟨q,hq⟩).1]at hj;rw[getElem!_pos _ j (by rw[BO];exact hj9)];rw[List.getElem?_eq_getElem (by rw[BO];exact hj9)]at hj;exact hj
theorem Jk(p:Ag→Bool)(gf:Nat)(cb:Array Value) {base g n:Nat}(c:Nat)(ds:List Ag)(w:World)(eg:∀args w,(callFunc gf args).run Tryz.prog w= .ok (.enter gf args) w)(hrow:BU w base g n (fun i => ds[i]?))(hn:n=ds.length)(hnc:n≤c)(hcm:c≤9223372036854775807)(hsm:ds.length≤1000000)
  (hp:∀(W:World) (cs:List Value) (fk:List Addr) (d:Ag),Below base w W→Ac W fk cs d→d∈ds→Calls Tryz.prog gf (#[.agg cs.toArray] ++ cb) W fun e w' => e= .returned (.bool (p d))∧Below W.heap.size W w') :
  Calls Tryz.prog 220 #[.slice (some ⟨g,0,none⟩) n c,.func (.func gf) #[] cb] w fun e w' =>∃m,e= .returned (.slice (some ⟨g,0,none⟩) m c)∧m=(ds.filter fun x => !p x).length∧m≤n∧BU w' base g m (fun i =>(ds.filter fun x => !p x)[i]?)∧Below base w w':=by
 have hbase:base≤w.heap.size:=Nat.le_trans hrow.lo (Nat.le_of_lt hrow.lt);have hrd0:∃fr,rSl 9 Ac w fr (.slice (some ⟨g,0,none⟩) n c) ds:=by
  subst hn;exact hrow.reads (Nat.le_refl _) hnc hcm (fun i hi => List.getElem?_eq_getElem hi)
 obtain⟨fr,hrd⟩:=hrd0;have HI:=hid (Hi 9 (by omega) Tryz.sizeOf119 Tryz.isAgg119 p gf cb _ ds fr w eg hrd (fun W cs fk j hj hW hR => hp W cs fk ds[j] (hW.mono hbase) hR (List.getElem_mem hj)));have HP:=hid hp;clear hp hrd;by_cases hany:ds.any p=true
 case neg =>
  have hnone:∀q,(hq:q<ds.length)→p ds[q] =false:=fun q hq => by
   cases h:p ds[q]with
   |false => rfl
   |true => exact absurd (List.any_eq_true.2 ⟨_,List.getElem_mem hq,h⟩) hany
  have hfl:ds.filter (fun x => !p x)=ds:=List.filter_eq_self.2 (fun x hx => by
   obtain⟨q,hq,rfl⟩:=List.getElem_of_mem hx;rw[hnone q hq];rfl)
  rw[hfl];rw[DK hnone]at HI;have HROW:=hid hrow;have HN0:=hid hn;clear hnone hfl hany hrow hn hnc;go_enter Tryz.func220,Tryz.ntmps220
  go_wp2_with (go_at_call 136;refine HI.out.mono ?_;rintro e w1 ⟨rfl,hb1⟩)
  go_ret
  exact⟨n,rfl,HN0.out,Nat.le_refl _,HROW.out.below hb1,hb1.mono hbase⟩
 case pos =>
 -- the first that is struck
 have hk0:∃k0,∃hk:k0<ds.length,p ds[k0] =true∧∀q,(hq:q<ds.length)→q<k0→p ds[q] =false:=by
  cases hf:ds.findIdx? p with
  |none =>
   rw[List.findIdx?_eq_none_iff]at hf;obtain⟨x,hx,hpx⟩:=List.any_eq_true.1 hany;rw[hf x hx]at hpx;cases hpx
  |some k0 =>
   obtain⟨h1,h2,h3⟩:=List.findIdx?_eq_some_iff_getElem.1 hf;exact⟨k0,h1,h2,fun q hq hqk => by have:=h3 q hqk;simpa using this⟩
 obtain⟨k0,hk0,hpk,hall⟩:=hk0;rw[DZ hk0 hpk hall]at HI;have HROW:=hid hrow;have HN:=hid hn;have hk0n:k0<n:=by omega
 have hn1:n≤1000000:=by omega
 have HF0:=hid (show(ds.take (k0+1)).filter (fun x => !p x)=ds.take k0 by
  rw[FI hk0 (by rw[hpk];rfl)];exact List.filter_eq_self.2 (fun x hx => by
   obtain⟨q,hq,rfl⟩:=List.getElem_of_mem hx;rw[List.length_take]at hq;rw[List.getElem_take,hall q (by omega) (by omega)];rfl))
 have hne1:((k0:Int) == -1)=false:=beq_eq_false_iff_ne.2 (by omega);have hne2:¬((k0:Int)= -1):=by omega
 clear hpk hall hany hrow hn;go_enter Tryz.func220,Tryz.ntmps220
 go_wp2_with (go_at_call 136;refine HI.out.mono ?_;rintro e w1 ⟨rfl,hb1⟩;have B1:=hid hb1;clear hb1)
 have start:Hid (BU w1 base g n (fun q => if q<k0 then((ds.take (k0+1)).filter fun x => !p x)[q]? else if k0+1≤q then ds[q]? else none)):=by
  show BU _ _ _ _ _
  refine(HROW.out.below B1.out).got_ (fun i hi d hd => ?_);by_cases h1:i<k0
  ·rw[if_pos h1,HF0.out,List.getElem?_take,if_pos h1]at hd;exact hd
  ·rw[if_neg h1]at hd;split at hd
   ·exact hd
   ·cases hd
 have st2:Hid (k0=((ds.take (k0+1)).filter fun x => !p x).length):=(show _=_ by rw[HF0.out,List.length_take];omega);clear HROW HF0;go_loopw [5,6,7] (fun u v _ wr =>∃(i j:Nat),u= int i64 i∧v= int i64 j∧i<j∧j≤n∧Hid (i=((ds.take j).filter fun x => !p x).length)∧Hid (BU wr base g n (fun q => if q<i then((ds.take j).filter fun x => !p x)[q]? else if j≤q then ds[q]? else none))∧Hid (Below base w wr)) (fun _ v _ _ => n - (intOf v).toNat)
 case atStart => exact⟨k0,k0+1,rfl,by go_num,by omega,by omega,st2.out,start.out,B1.out.mono hbase⟩
 case round =>
  clear start st2;obtain⟨i,j,rfl,rfl,hij,hjn,HL,HR,HB⟩:=hrel;by_cases hlt:j<n
  ·have hjd:j<ds.length:=by have:=HN.out;omega
   have hltz:(j:Int)<(n:Int):=by omega
   obtain⟨cs,fk,hr,hrange,hfk⟩:=HR.out.el j hlt ds[j] (by
    rw[if_neg (by omega),if_pos (Nat.le_refl _)];exact List.getElem?_eq_getElem hjd)
   have hlen:=Ac.wide _ _ _ _ hr;have hgl:=HR.out.lt;have hglo:=HR.out.lo;have HRA:=hid hrange;have HI1:=hid (show(Tryz.prog.info? 119).map (·.size)=some cs.length by rw[hlen];kernel_rfl);have HI2:=hid (show(Tryz.prog.info? 119).map (·.size)=some cs.toArray.size by rw[List.size_toArray,hlen];kernel_rfl);have HON:=hid (all_oneCell_toArray (Ac.ones _ _ _ _ hr));obtain⟨Z,hZ⟩:∃Z:Array Value,#[int i64 0,int i64 0,.string ⟨#[]⟩,int i64 0,int i64 0,int i64 0,.slice none 0 0,.slice none 0 0,.slice none 0 0] =Z:=⟨_,rfl⟩;have hZs:Z.size=9:=by rw[← hZ];rfl
   have KZ:=Blk.new wr 119 Z;have HTH:=hid (Blk.there KZ cs.toArray.size (by rw[List.size_toArray,hlen,hZs];exact Nat.le_refl _));obtain⟨W2,hW2⟩:∃W2,(wr.alloc (.cells Z 119)).setCells wr.heap.size 0 cs.toArray.toList=W2:=⟨_,rfl⟩;have K2:=hid (show Blk W2 wr.heap.size 119 cs.toArray by rw[← hW2];exact Blk.laid KZ _ (by rw[hZs];exact hlen.symm));have B2:=hid (show Below wr.heap.size wr W2 by rw[← hW2];exact Aw (Ah (Below.refl _ _) _) _ 0 (Nat.le_refl _));have HW2:=hid hW2;have HR2:=hid (Blk.rangeAll K2.out);have hbw:base≤wr.heap.size:=by omega
   have HB2:=hid (HB.out.trans (B2.out.mono hbw));have HRD:=hid (Ap.below Ac.local_ Ac.fixed hr B2.out);have HC:=hid (HP.out W2 cs fk ds[j] HB2.out HRD.out (List.getElem_mem hjd));have HFK:=hid hfk;have HLEN:=hid hlen;clear hr hrange hfk hW2 KZ hlen hZs;obtain⟨pj,hpj⟩:∃pj,p ds[j] =pj:=⟨_,rfl⟩;rw[hpj]at HC;have HPJ:=hid hpj;clear hpj;have row2:=fun(W3:World) (hb3:Below W2.heap.size W2 W3) =>(HR.out.below B2.out).below hb3
   have HROW:=hid row2;clear row2;cases pj with
   |true =>
    go_wp2_with (first
     |(refine wpList_load_mid rfl 119 (.tmp 24) rfl g (j * 9) rfl cs _ HRA.out Tryz.underlying119 rfl HI1.out ?_)
     |(refine wpList_store_mid rfl 119 (.tmp 7) (.tmp 25) rfl wr.heap.size 0 cs.toArray rfl rfl HTH.out HI2.out HON.out ?_;rw[HW2.out])
     |(refine wpList_load_mid rfl 119 (.tmp 7) rfl wr.heap.size 0 rfl cs _ HR2.out Tryz.underlying119 rfl HI1.out ?_)
     |(go_at_fn gf;refine HC.out.mono ?_;rintro e w3 ⟨rfl,hb3⟩;have B3:=hid hb3;clear hb3))
    go_roundw
    case rel =>
     have hF:=FI (keep:=fun x => !p x) hjd (by rw[HPJ.out];rfl);refine⟨i,j+1,rfl,by go_num,by omega,by omega,(show _=_ by rw[hF];exact HL.out),(show BU _ _ _ _ _ from ?_),HB2.out.trans (B3.out.mono (Nat.le_trans hbw B2.out.size))⟩;rw[hF];refine(HROW.out _ B3.out).got_ (fun q hq d hd => ?_);by_cases h1:q<i
     ·rw[if_pos h1]at hd⊢;exact hd
     ·rw[if_neg h1]at hd⊢;split at hd
      ·rw[if_pos (by omega)];exact hd
      ·cases hd
    case measure => simp[intOf];omega
   |false =>
    go_wp2_with (first
     |(refine wpList_load_mid rfl 119 (.tmp 24) rfl g (j * 9) rfl cs _ HRA.out Tryz.underlying119 rfl HI1.out ?_)
     |(refine wpList_store_mid rfl 119 (.tmp 7) (.tmp 25) rfl wr.heap.size 0 cs.toArray rfl rfl HTH.out HI2.out HON.out ?_;rw[HW2.out])
     |(refine wpList_load_mid rfl 119 (.tmp 7) rfl wr.heap.size 0 rfl cs _ HR2.out Tryz.underlying119 rfl HI1.out ?_)
     |(go_at_fn gf;refine HC.out.mono ?_;rintro e w3 ⟨rfl,hb3⟩;have B3:=hid hb3;have HR3:=hid (Blk.rangeAll (K2.out.below hb3 K2.out.lt));have HT3:=hid (show w3.there g (i * 9) cs.toArray.size from fun q hq => by
       have hq9:q<9:=by rw[List.size_toArray,HLEN.out]at hq;exact hq
       have:=(HROW.out _ hb3).there (i * 9+q) (by omega);rw[Nat.zero_add]at this;exact this);clear hb3)
     |(refine wpList_load_mid rfl 119 (.tmp 7) rfl wr.heap.size 0 rfl cs _ HR3.out Tryz.underlying119 rfl HI1.out ?_)
     |(refine wpList_store_mid rfl 119 (.tmp 33) (.tmp 32) rfl g (i * 9) cs.toArray rfl rfl HT3.out HI2.out HON.out ?_))
    go_roundw
    case rel =>
     have hF:=IU (keep:=fun x => !p x) hjd (by rw[HPJ.out];rfl);have hB3:=HB2.out.trans (B3.out.mono (Nat.le_trans hbw B2.out.size));refine⟨i+1,j+1,by go_num,by go_num,by omega,by omega,(show _=_ by rw[hF,List.length_append,← HL.out];rfl),(show BU _ _ _ _ _ from ?_),(show Below _ _ _ from Aw hB3 _ _ hglo)⟩;rw[hF];refine((HROW.out _ B3.out).store (i:=i) (by omega) (Ap.below Ac.local_ Ac.fixed HRD.out B3.out) HFK.out).got_ (fun q hq d hd => ?_);by_cases h1:q=i
     ·subst h1;rw[if_pos rfl];rw[if_pos (by omega),List.getElem?_append_right (by rw[← HL.out];exact Nat.le_refl _),← HL.out]at hd;simpa using hd
     ·rw[if_neg h1];by_cases h2:q<i
      ·rw[if_pos h2];rw[if_pos (by omega),List.getElem?_append_left (by rw[← HL.out];exact h2)]at hd;exact hd
      ·rw[if_neg h2];rw[if_neg (by omega)]at hd;split at hd
       ·rw[if_pos (by omega)];exact hd
       ·cases hd
    case measure => simp[intOf];omega
  ·obtain rfl:j=n:=by omega
   have hltz:¬(j:Int)<(j:Int):=by omega
   obtain⟨vs,hcl⟩:=Ir wr 0 g (i * 9) (j - i) (c - i) (by omega) (fun q hq => by
    have:=HR.out.there (i * 9+q) (by omega);rw[Nat.zero_add]at this;exact this)
   have hic:¬c=i:=by omega
   have hici:(i:Int)≤(j:Int):=by omega
   have hi0:(0:Int)≤(i:Int):=by omega
   have hicc:(i:Int)≤(c:Int):=by omega
   have hHC:=hid (HR.out.cleared i vs);have hglo:=HR.out.lo;have HB5:=hid (show Below base w (wr.setCells g (i * 9) vs)from Aw HB.out _ _ hglo);have HLT:=hid (show(ds.take j).filter (fun x => !p x)=ds.filter (fun x => !p x) by rw[List.take_of_length_le (by have:=HN.out;omega)]);clear HR HB;go_wp2_with fail
   go_ret
   rw[← HLT.out];have hi:=HL.out;rw[← hi];exact⟨i,rfl,rfl,by omega,(hHC.out.shrink (by omega)).got_ (fun q hq d hd => by rw[if_pos hq,if_pos hq];exact hd),HB5.out⟩
end Go.Proofs.YtfjkoifpdoemdaaGreat
namespace Go.Proofs.YtfjkoifpdoemdaaGreat
open Go.RowKit Go.Lib Go.Sort
theorem newest_p(p:Nat)(fs:List Addr)(d:AC)(w:World)(h:AtW w p fs d)(hsm:(CJ d).length≤1000000)(hnm:∀r,r∈AV d→r.name.size≤1000000) :
  Calls Tryz.prog 135 #[.pointer (some ⟨p,0,none⟩)] w fun e w' =>∃L g c B,e= .returned (.slice (some ⟨g,0,none⟩) L.length c)∧BS (AV d) L∧w.heap.size≤B∧BU w' B g L.length (fun i => L[i]?)∧L.length≤c∧c≤9223372036854775807∧Below w.heap.size w w':=by
 obtain⟨mb,hmb⟩:∃mb,w.heap.size=mb:=⟨_,rfl⟩;obtain⟨W1,hW1⟩:∃W1,w.alloc (.map #[] 0)=W1:=⟨_,rfl⟩;have hB1:Below w.heap.size w W1:=by rw[← hW1];exact(Below.refl _ _).alloc (Nat.le_refl _) _
 have z1:W1.heap.size=mb+1:=by rw[← hW1,← hmb];simp
 have hM1:W1.ownsMap Tryz.prog 9 RV mb 0 (.map []):=by rw[← hW1,← hmb];exact World.ownsMap_made _ _ _ _
 have HC:=hid (EO p fs d W1 (h.below hB1) hsm);have hl:=Dd d;obtain⟨all,hall⟩:∃all,AV d=all:=⟨_,rfl⟩;rw[hall]at HC hl hnm⊢;have hN:all.length≤1000000:=by omega
 have HNM:=hid hnm;have HB1:=hid hB1;have HM1:=hid hM1;have HZ1:=hid z1;have HMB:=hid hmb;have hmk:(Instr.makeMap 264 none).run Tryz.prog w= .ok (.map (some mb)) W1:=by rw[← hW1,← hmb];rfl
 clear h hB1 hM1 hnm hl hall hsm;go_enter Tryz.func135,Tryz.ntmps135
 go_wp2_with fail
 clear hW1 hmb z1;go_wp2_with (go_at_call 126;refine HC.out.mono ?_;rintro e w2 ⟨A,c,fa,rfl,ra,pa,b2⟩;have RA:=hid ra;have PA:=hid pa;have B2:=hid b2;clear ra pa b2)
 obtain⟨A',c',css,ev,hc,hm,hx⟩:=rSl.css RA.out;injection ev with ev1 ev2 ev3
 subst ev1 ev3;have HX:=hid hx;have HFT:=hid (rSl.there Ac.fixed RA.out);have hM2:w2.ownsMap Tryz.prog 9 RV mb 0 (.map []):=HM1.out.kept (row:=none) ⟨B2.out.os,B2.out.tape,B2.out.output,B2.out.size,fun k hk _ => B2.out.block k hk⟩ (by simp);have HM2:=hid hM2;have HBW2:=hid (show Below w.heap.size w w2 from HB1.out.trans (B2.out.mono HB1.out.size));have zm2:mb<w2.heap.size:=by have:=HZ1.out;have:=B2.out.size;omega
 clear hx hM2 HC ev2;go_loopw [13,5] (fun ix _ wr =>∃(i n:Nat) (D:DataW Value),i≤all.length∧n≤i∧ix= int i64 i∧Hid (Dw all css D i)∧Hid (wr.ownsMap Tryz.prog 9 RV mb n D)∧Hid (∀a:Addr,a.block<w2.heap.size→wr.cell? a=w2.cell? a)∧Hid (Below w.heap.size w wr)∧w2.heap.size≤wr.heap.size) (fun ix _ _ => all.length - (intOf ix).toNat)
 case atStart => exact⟨0,0,.map [],by omega,by omega,rfl,Dw.start _ _,HM2.out,fun a _ => rfl,HBW2.out,Nat.le_refl _⟩
 case round =>
  obtain⟨i,n,D,hi,hn,rfl,HMA,HOM,HSA,HB,hsz⟩:=hrel;by_cases hlt:i<all.length
  ·obtain⟨ad,b3,o3,f3,rfl,hat⟩:=HX.out i hlt;obtain⟨cs3,hcs3⟩:∃cs3,List.getD css i [] =cs3:=⟨_,rfl⟩;rw[hcs3]at hat;have HCS:=hid hcs3;have hpl3:=hat.place;have hbl3:b3<w2.heap.size:=hat.lt;have hbl4:b3<wr.heap.size:=by omega
   have hlen:cs3.length=9:=hat.len;have HR:=hid (show wr.rangeAt b3 o3 cs3 from fun q v hq => by
    have hq1:q<cs3.length:=(List.getElem?_eq_some_iff.1 hq).1;rw[HSA.out _ hbl3,hat.cell q hq1,← hq];exact(List.getElem?_eq_getElem hq1).symm)
   have HI:=hid (show(Tryz.prog.info? 119).map (·.size)=some cs3.length by rw[hlen];kernel_rfl);have HI2:=hid (show(Tryz.prog.info? 119).map (·.size)=some cs3.toArray.size by rw[List.size_toArray,hlen];kernel_rfl);have HON:=hid (all_oneCell_toArray (Ac.ones _ _ _ _ hat.reads));obtain⟨Z,hZ⟩:∃Z:Array Value,#[int i64 0,int i64 0,.string ⟨#[]⟩,int i64 0,int i64 0,int i64 0,.slice none 0 0,.slice none 0 0,.slice none 0 0] =Z:=⟨_,rfl⟩;have hZs:Z.size=9:=by rw[← hZ];rfl
   have KZ:=Blk.new wr 119 Z;have HTH:=hid (Blk.there KZ cs3.toArray.size (by rw[List.size_toArray,hlen,hZs];exact Nat.le_refl _));obtain⟨W2,hW2⟩:∃W2,(wr.alloc (.cells Z 119)).setCells wr.heap.size 0 cs3.toArray.toList=W2:=⟨_,rfl⟩;have k2:Blk W2 wr.heap.size 119 cs3.toArray:=by rw[← hW2];exact Blk.laid KZ _ (by rw[hZs];exact hlen.symm)
   have b22:Below wr.heap.size wr W2:=by rw[← hW2];exact Aw (Ah (Below.refl _ _) _) _ 0 (Nat.le_refl _)
   have HW2:=hid hW2;have BW2:=hid b22;have HR2:=hid (Blk.rangeAll k2);have hgb:=k2.lt;obtain⟨v0,v1,v2,q0,q1,q2,e,-⟩:=hat.reads;have y0:W2.cell? ⟨wr.heap.size,0,none⟩=some (int i64 all[i].kind):=by rw[k2.cell,e];rfl
   have y2:W2.cell? ⟨wr.heap.size,2,none⟩=some (.string all[i].name):=by rw[k2.cell,e];rfl
   have HOM2:=hid (show W2.ownsMap Tryz.prog 9 RV mb n D from HOM.out.kept (row:=none) ⟨b22.os,b22.tape,b22.output,b22.size,fun k hk _ => b22.block k hk⟩ (by simp));have HSA2:=hid (show∀a:Addr,a.block<w2.heap.size→W2.cell? a=w2.cell? a from fun a ha =>(b22.cell (p:=a) (by omega)).trans (HSA.out a ha));have HBX:=hid (HB.out.trans (b22.mono HB.out.size));have hnl:=HNM.out _ (List.getElem_mem hlt);have hki:(i:Int)<(all.length:Int):=by omega
   have sz2:=b22.size;clear hat hW2 KZ hlen hZs k2 e hcs3 b22;by_cases qk:all[i].kind =1
   ·have hk:(all[i].kind == 1)=true:=by simpa using qk
    have HPUT:=hid (HMA.out.put hlt qk HCS.out);clear qk;go_wp2_with (first
     |(refine wpList_load_mid rfl 119 (.tmp 15) rfl b3 o3 rfl cs3 _ HR.out Tryz.underlying119 rfl HI.out ?_)
     |(refine wpList_store_mid rfl 119 (.tmp 5) (.tmp 16) rfl wr.heap.size 0 cs3.toArray rfl rfl HTH.out HI2.out HON.out ?_;rw[HW2.out])
     |(refine wpList_load_mid rfl 119 (.tmp 5) rfl wr.heap.size 0 rfl cs3 _ HR2.out Tryz.underlying119 rfl HI.out ?_)
     |(at_mapUpdate;refine wpList_mapUpdate_own _ rfl _ _ _ 264 rfl 9 119 Fn Tryz.underlying264 RV mb n D rfl HOM2.out (by unfold maxLen;omega) _ _ (CQ all[i].name) rfl rfl (keyOfN hnl) (.held (.agg cs3.toArray)) [] rfl ?_;intro w4 hown4 hgrow4;have HO4:=hid hown4;have HG4:=hid hgrow4;clear hown4 hgrow4))
    go_roundw
    case rel =>
     refine⟨i+1,n+1,_,by omega,by omega,by go_num,HPUT.out,HO4.out,fun a ha => ?_,HBX.out.trans (Dl HG4.out (by rw[HMB.out];exact Nat.le_refl _) (by rw[HMB.out];omega)),by have:=HG4.out.size;omega⟩;by_cases e:a.block=mb
     ·rw[DR HO4.out e,DR HM2.out e]
     ·exact(World.cell?_of_block (HG4.out.block a.block (by omega) (fun e2 => by injection e2 with e2;exact e e2))).trans (HSA2.out a ha)
    case measure => simp[intOf];omega
   ·have hk:(all[i].kind == 1)=false:=by simpa using qk
    have HPUT:=hid (HMA.out.skip hlt qk);clear qk;go_wp2_with (first
     |(refine wpList_load_mid rfl 119 (.tmp 15) rfl b3 o3 rfl cs3 _ HR.out Tryz.underlying119 rfl HI.out ?_)
     |(refine wpList_store_mid rfl 119 (.tmp 5) (.tmp 16) rfl wr.heap.size 0 cs3.toArray rfl rfl HTH.out HI2.out HON.out ?_;rw[HW2.out]))
    go_roundw
    case rel => exact⟨i+1,n,D,by omega,by omega,by go_num,HPUT.out,HOM2.out,HSA2.out,HBX.out,by omega⟩
    case measure => simp[intOf];omega
  ·obtain rfl:i=all.length:=by omega
   have HO3:=hid (HOM.out.alloc (.cells #[] 119));have HOW:=hid (Ao.start (R:=Ac) (World.ownsRow_lit (base:=wr.heap.size) (e:=119) (size:=9) wr #[] 0 (Nat.le_refl _) (Nat.zero_le _) rfl));have HMZ:=hid (F9 HOM.out);have sz3:(wr.alloc (.cells #[] 119)).heap.size =wr.heap.size+1:=by simp
   have HB3:=hid (show Below wr.heap.size wr (wr.alloc (.cells #[] 119))from(Below.refl _ _).alloc (Nat.le_refl _) _);obtain⟨W3,hW3⟩:∃W3,wr.alloc (.cells #[] 119)=W3:=⟨_,rfl⟩;rw[hW3]at HO3 HOW HB3 sz3;obtain⟨gO,hgO⟩:∃gO,wr.heap.size=gO:=⟨_,rfl⟩;rw[hgO]at HOW HB3 sz3 hsz;go_wp2_with (at_range;refine wpList_range_own _ rfl _ 264 rfl 9 119 Fn Tryz.underlying264 RV mb n D rfl HO3.out ?_;intro w5 hrg hg5 hs5;have HRG5:=hid hrg;have HG5:=hid hg5;have HS5:=hid hs5;clear hrg hg5 hs5)
   go_frame
   obtain⟨rr,hrr⟩:∃rr,W3.heap.size=rr:=⟨_,rfl⟩;have HRG:=HRG5;have HS:=HS5;rw[hrr]at HRG HS sz3;clear HRG5 HS5;have HW35:=hid (show Below W3.heap.size W3 w5 from⟨HG5.out.os,HG5.out.tape,HG5.out.output,HG5.out.size,fun k hk => HG5.out.block k hk (by simp)⟩);have HOW5:=hid (HOW.out.below Ac.local_ Ac.fixed HW35.out);have HVS:=hid (DG.start HMA.out);have HSA5:=hid (show∀a:Addr,a.block<w2.heap.size→w5.cell? a=w2.cell? a from fun a ha =>(HW35.out.cell (p:=a) (by omega)).trans ((HB3.out.cell (p:=a) (by omega)).trans (HSA.out a ha)));have hgm:mb<gO:=by omega
   have HB5:=hid (show Below w.heap.size w w5 from HB.out.trans (((HB3.out.mono (show w.heap.size≤gO from by have:=HMB.out;omega)).trans (HW35.out.mono (by have:=HMB.out;omega)))));clear hW3 hgO HOW HSA HB HB3 HO3 HOM HG5;try rw[hrr]
   clear hrr;subst sz3;go_loopw [6,8] (fun o _ wx =>∃(left:Lit→Bool) (cnt k g c1:Nat) (L:List Ag) (fo:List Addr),o= .slice (some ⟨g,0,none⟩) k c1∧Hid (k=L.length)∧g≠gO+1∧gO≤g∧cnt+k≤Maps.size D∧Hid (DG all left L)∧Hid (wx.ranges Tryz.prog 9 RV mb (gO+1) n D left cnt)∧Hid (Ao 9 119 Ac wx gO (.slice (some ⟨g,0,none⟩) k c1) L fo)∧Hid (∀a,a∈fo→a∈fa)∧Hid (∀a:Addr,a.block<w2.heap.size→wx.cell? a=w2.cell? a)∧Hid (Below w.heap.size w wx)∧gO+1<wx.heap.size) (fun _ _ wx => wx.rangeLeft mb (gO+1))
   case atStart => exact⟨_,_,0,gO,0,[],[],rfl,rfl,by omega,Nat.le_refl _,by omega,HVS.out,HRG.out,HOW5.out,(show∀a,a∈([]:List Addr)→a∈fa from fun a ha => by cases ha),HSA5.out,HB5.out,by have:=HS.out;omega⟩
   case round =>
    clear HVS HRG HOW5 HSA5 HB5 HS HW35;obtain⟨left,cnt,k,g,c1,L,fo,rfl,HK,hgr,hgO,hcnt,HV,HR,HO,HF,HSA,HB,hrx⟩:=hrel;go_wp2_with (at_next;refine wpList_next_ranges _ rfl _ rfl 9 Fn RV Value.string id (fun key kl h => Iz h) (fun v y h =>⟨v,rfl⟩) mb (gO+1) n D left cnt rfl HR.out ?_ ?_)
    ·intro hc0 hl0;obtain⟨hrw,hrn,hrc,hrm⟩:=BU.of_own HO.out (fun a ha => by have:=HFT.out a (HF.out a ha);omega);have HRC:=hid (And.intro hrc hrm);have HST:=hid (Ht 230 (enters_of Tryz.func230 (by kernel_rfl) rfl) cfN KC G4 nlt (fun x y dx dy hx hy h => D4.2 (by rw[hx.1,hy.1];exact h)) c1 hrw hrn (by have:=HMZ.out;omega));clear hrw hrn hrc hrm;have HLF:=hid hl0;clear hc0 hl0;go_wp2_with (go_at_call 222;refine HST.out.mono ?_;rintro e w7 ⟨rfl,M,hp7,hs7,r7,b7⟩;have HP7:=hid hp7;have HS7:=hid hs7;have R7:=hid r7;have B7:=hid b7;clear hp7 hs7 r7 b7)
     go_ret
     have hlen:M.length=k:=by rw[HK.out,HP7.out.length_eq]
     refine⟨M,g,c1,gO,by rw[hlen];rfl,HV.out.live HLF.out HP7.out HS7.out,by have:=HMB.out;omega,by rw[hlen];exact R7.out,by rw[hlen];exact HRC.out.1,HRC.out.2,HB.out.trans (B7.out.mono (by have:=HMB.out;omega))⟩
    ·intro x cv kl y ys w6 cnt1 hkx hlx hRv hys hat6 hrg6 hlt6 hg6 hs6 hen;have hs6a:=Nat.le_of_eq hs6;have hs6b:=Nat.le_of_eq hs6.symm;clear hs6;obtain rfl:=Iy hkx;have hRv2:DataW.held cv=y:=hRv;subst hRv2;have hMZ:=HMZ.out;have hh:=Maps.has_true_of_atKey hat6;rw[HMA.out.has]at hh;simp only[decide_eq_true_eq]at hh;obtain⟨q,hq⟩:∃q:Nat,Cb all x all.length=(q:Int):=⟨(Cb all x all.length).toNat,by omega⟩;have hv:=HMA.out.at_ x q hq (.lit (.bool true));rw[hat6]at hv;obtain⟨cs3,hcs3⟩:∃cs3,List.getD css q [] =cs3:=⟨_,rfl⟩;rw[hcs3]at hv;obtain rfl:cv= .agg cs3.toArray:=by injection hv
     obtain⟨hqk,hkd,hnq,hli1,hli0⟩:=HV.out.step hlx hq;obtain⟨ad,b3,o3,f3,rfl,hat⟩:=HX.out q hqk;rw[hcs3]at hat;have hlen:cs3.length=9:=hat.len;have HI:=hid (show(Tryz.prog.info? 119).map (·.size)=some cs3.length by rw[hlen];kernel_rfl);have HI2:=hid (show(Tryz.prog.info? 119).map (·.size)=some cs3.toArray.size by rw[List.size_toArray,hlen];kernel_rfl);have HON:=hid (all_oneCell_toArray (Ac.ones _ _ _ _ hat.reads));have HSZ:=hid (show cs3.toArray.size=9 by rw[List.size_toArray];exact hlen);obtain⟨Z,hZ⟩:∃Z:Array Value,#[int i64 0,int i64 0,.string ⟨#[]⟩,int i64 0,int i64 0,int i64 0,.slice none 0 0,.slice none 0 0,.slice none 0 0] =Z:=⟨_,rfl⟩;have hZs:Z.size=9:=by rw[← hZ];rfl
     have KZ:=Blk.new w6 119 Z;have HTH:=hid (Blk.there KZ cs3.toArray.size (by rw[List.size_toArray,hlen,hZs];exact Nat.le_refl _));obtain⟨W7,hW7⟩:∃W7,(w6.alloc (.cells Z 119)).setCells w6.heap.size 0 cs3.toArray.toList=W7:=⟨_,rfl⟩;have k7:Blk W7 w6.heap.size 119 cs3.toArray:=by rw[← hW7];exact Blk.laid KZ _ (by rw[hZs];exact hlen.symm)
     have b67:Below w6.heap.size w6 W7:=by rw[← hW7];exact Aw (Ah (Below.refl _ _) _) _ 0 (Nat.le_refl _)
     have HW7:=hid hW7;have HR7:=hid (Blk.rangeAll k7);have hgb:=k7.lt;have sz7:=b67.size;have HG6:=hid hg6;have h6c:∀a:Addr,a.block<w2.heap.size→w6.cell? a=w2.cell? a:=fun a ha =>(World.cell?_of_block (HG6.out.block a.block (by omega) (fun e2 => by injection e2 with e2;omega))).trans (HSA.out a ha)
     have HSA7:=hid (show∀a:Addr,a.block<w2.heap.size→W7.cell? a=w2.cell? a from fun a ha =>(b67.cell (p:=a) (by omega)).trans (h6c a ha));have HRD7:=hid (show Ac W7 f3 cs3 all[q]from Ac.local_ _ _ _ _ _ hat.reads (fun a ha => HSA7.out a (hat.there a ha)));have hog:=(HO.out.lt _ rfl).2;have HO6:=hid (show Ao 9 119 Ac w6 gO (.slice (some ⟨g,0,none⟩) k c1) L fo from Ao.keep Ac.local_ HO.out (fun b hb => by injection hb with hb;subst hb;exact HG6.out.block _ hog (fun e2 => by injection e2 with e2;exact hgr e2)) (fun a ha => by have:=HFT.out a (HF.out a ha);exact World.cell?_of_block (HG6.out.block a.block (by omega) (fun e2 => by injection e2 with e2;omega))));have HO7:=hid (HO6.out.below Ac.local_ Ac.fixed b67);have HRG7:=hid (hrg6.kept (row:=none) ⟨b67.os,b67.tape,b67.output,b67.size,fun k hk _ => b67.block k hk⟩ (by simp) (by simp));have HB7:=hid (HB.out.trans (((Dl HG6.out (show w.heap.size≤gO+1 from by have:=HMB.out;omega) HB.out.size)).trans (b67.mono (by have:=HB.out.size;omega))));have HF3:=hid (show∀a,a∈f3→a∈fa from hat.sub);obtain⟨v0,v1,v2,q0,q1,q2,e,-⟩:=hat.reads;have y3:W7.cell? ⟨w6.heap.size,3,none⟩=some (int i64 all[q].length):=by rw[k7.cell,e];rfl
     have HOLD:=hid HR.out.left_eq;have HLT6:=hid hlt6;have HAP:=hid (Ku (P:=fun a => a∈fa) (lo:=gO) (fun a ha => by have:=HFT.out a ha;omega) (w:=W7) (W:=W7.alloc (.cells cs3.toArray 119)) (b:=W7.heap.size) HO7.out (by omega) (Ah (Below.refl _ _) _) (Blk.new _ _ _) (Ap.below Ac.local_ Ac.fixed HRD7.out (Ah (Below.refl _ _) _)) HF3.out HF.out (by rw[← HK.out];omega));rw[← HK.out]at HAP;clear hat hW7 KZ hlen hZs k7 e hcs3 b67 hv hh hat6 hRv hys hkx hrg6 h6c hg6 hlt6 hlx hnq hkd hq;by_cases ql:all[q].length = -1
     ·have hq1:(all[q].length == -1)=true:=by simpa using ql
      have HV7:=hid (hli0 ql);clear ql hli0 hli1;go_wp2_with (first
       |(refine wpList_store_mid rfl 119 (.tmp 8) (.tmp 31) rfl w6.heap.size 0 cs3.toArray rfl rfl HTH.out HI2.out HON.out ?_;rw[HW7.out]))
      go_roundw
      case rel => exact⟨_,cnt1,k,g,c1,L,fo,rfl,HK.out,hgr,hgO,by have:=HLT6.out;omega,HV7.out,HRG7.out,HO7.out,HF.out,HSA7.out,HB7.out,by omega⟩
      case measure => rw[HRG7.out.left_eq,HOLD.out];exact HLT6.out
     ·have hq1:(all[q].length == -1)=false:=by simpa using ql
      have HV7:=hid (hli1 ql);clear ql hli0 hli1;go_wp2_with (first
       |(refine wpList_store_mid rfl 119 (.tmp 8) (.tmp 31) rfl w6.heap.size 0 cs3.toArray rfl rfl HTH.out HI2.out HON.out ?_;rw[HW7.out])
       |(refine wpList_load_mid rfl 119 (.tmp 8) rfl w6.heap.size 0 rfl cs3 _ HR7.out Tryz.underlying119 rfl HI.out ?_)
       |(refine Et rfl 80 119 (.tmp 36) rfl cs3.toArray rfl _ 9 128 Tryz.underlying80 Tryz.infoRec (by omega) (by omega) HSZ.out ?_)
       |(at_builtin;refine AQ rfl (.tmp 35) (.tmp 37) 80 rfl _ _ (by rfl) (by rfl) HAP.out ?_;rintro v8 w8 ⟨g8,c8,fo8,rfl,o8,h8,gr8,e8⟩;have O8:=hid o8;have H8:=hid h8;have G8:=hid gr8;have E8:=hid e8;clear o8 h8 gr8 e8))
      have h8:(W7.alloc (.cells cs3.toArray 119)).heap.size =W7.heap.size+1:=by simp
      have b78:Below W7.heap.size W7 (W7.alloc (.cells cs3.toArray 119)):=Ah (Below.refl _ _) _;have hsa8:=G8.out.size;have HRG8:=hid (((HRG7.out.alloc (.cells cs3.toArray 119)).kept G8.out (fun e2 => by injection e2 with e2;omega) (fun e2 => by injection e2 with e2;exact hgr e2.symm)));have HSA8:=hid (show∀a:Addr,a.block<w2.heap.size→w8.cell? a=w2.cell? a from fun a ha =>(World.cell?_of_block (G8.out.block a.block (by omega) (fun e2 => by injection e2 with e2;omega))).trans ((b78.cell (p:=a) (by omega)).trans (HSA7.out a ha)));have HB8:=hid (HB7.out.trans (((b78.mono (by have:=HB7.out.size;omega)).trans (Dl G8.out (show w.heap.size≤g from by have:=HMB.out;omega) (by have:=HB7.out.size;omega)))));have hg8:g8≠gO+1∧gO≤g8:=by
       rcases E8.out with e|e
       ·rw[e];exact⟨hgr,hgO⟩
       ·rw[e,h8];omega
      have HG8:=hid hg8;have HSZ8:=hid (show gO+1<w8.heap.size by omega);clear h8 b78 hsa8 hg8;go_roundw
      case rel => exact⟨_,cnt1,k+1,g8,c8,L ++ [all[q]],fo8,rfl,(show k+1=_ by rw[List.length_append,← HK.out];rfl),HG8.out.1,HG8.out.2,by have:=HLT6.out;omega,HV7.out,HRG8.out,O8.out,H8.out,HSA8.out,HB8.out,HSZ8.out⟩
      case measure => rw[HRG8.out.left_eq,HOLD.out];exact HLT6.out
end Go.Proofs.YtfjkoifpdoemdaaGreat
