/-
  Part 34 of the proof; the last part states and proves the statement.
-/
import Derived.Test.YthbljikbnoghcaaGreatM33
import Derived.Test.YthbljikbnoghcaaGreatM09
import Derived.Test.YthbljikbnoghcaaGreatM14
import Derived.Test.YthbljikbnoghcaaGreatM16
set_option maxHeartbeats 8000000
set_option maxRecDepth 100000
set_option linter.unusedVariables false
set_option linter.unusedSimpArgs false
open Go.Value (int)
open Go.IntKind (i64)
namespace Go.Proofs.YthbljikbnoghcaaGreat
open Go.RowKit Go.Lib Go.Sort
theorem FB {α:Type} {keep:α→Bool} {ds:List α} {j:Nat}(hj:j<ds.length)(h:keep ds[j] =true):(ds.take (j+1)).filter keep=(ds.take j).filter keep ++ [ds[j]]:=by
 rw[List.take_succ_eq_append_getElem hj,List.filter_append];simp[h]
theorem DC {α:Type} {keep:α→Bool} {ds:List α} {j:Nat}(hj:j<ds.length)(h:keep ds[j] =false):(ds.take (j+1)).filter keep=(ds.take j).filter keep:=by
 rw[List.take_succ_eq_append_getElem hj,List.filter_append];simp[h]
theorem Fe(w:World)(ty:TypeId)(g o n c:Nat)(hn:0<n)(ht:w.there g o (n * 9)):∃vs:List Value,(Builtin.clear_ #[113] ty #[.slice (some ⟨g,o,none⟩) n c]).run Tryz.prog w= .ok (.tuple #[]) (w.setCells g o vs):=by
 refine⟨(Builtin.zeroCells #[int i64 0,int i64 0,.string ⟨#[]⟩,int i64 0,int i64 0,int i64 0,.slice none 0 0,.slice none 0 0,.slice none 0 0] n).toList,?_⟩;have hlen:(Builtin.zeroCells #[int i64 0,int i64 0,.string ⟨#[]⟩,int i64 0,int i64 0,int i64 0,.slice none 0 0,.slice none 0 0,.slice none 0 0] n).toList.length =n * 9:=by simp[Builtin.zeroCells]
 have hst:=run_storeCells_cells (P:=Tryz.prog) g o _ 0 w (fun j hj => by rw[hlen]at hj;have:=(ht j hj).1;simpa using this) (fun j hj => by rw[hlen]at hj;have:=(ht j hj).2;simpa using this) (by
  intro v hv;simp only[Builtin.zeroCells,Array.toList_map,List.mem_map]at hv;obtain⟨i,-,rfl⟩:=hv;have:i % 9<9:=Nat.mod_lt _ (by omega);generalize hq:i % 9=q at this;match q,this with
  |0,_ => rfl
  |1,_ => rfl
  |2,_ => rfl
  |3,_ => rfl
  |4,_ => rfl
  |5,_ => rfl
  |6,_ => rfl
  |7,_ => rfl
  |8,_ => rfl)
 obtain⟨m,rfl⟩:∃m,n=m+1:=⟨n - 1,by omega⟩;generalize hz:(Builtin.zeroCells #[int i64 0,int i64 0,.string ⟨#[]⟩,int i64 0,int i64 0,int i64 0,.slice none 0 0,.slice none 0 0,.slice none 0 0] (m+1)).toList =Z at hst hlen⊢;simp only[Nat.add_zero]at hst;have hv:=Tryz.zeroValue76;simp[Builtin.clear_,run_underlying Tryz.underlying113,hv,Value.cells,hz,hst]
theorem IW(p:Ag→Bool)(gf:Nat)(cb:Array Value)(base:Nat)(v:Value)(ds:List Ag)(fs:List Addr)(w:World)(eg:∀args w,(callFunc gf args).run Tryz.prog w= .ok (.enter gf args) w)(ho:Aj 9 76 Ac w base v ds fs)(hfs:∀a,a∈fs→a.block<base)(hbase:base≤w.heap.size)(hsm:ds.length≤1000000)
  (hp:∀(W:World) (cs:List Value) (fk:List Addr) (d:Ag),Below base w W→Ac W fk cs d→d∈ds→Calls Tryz.prog gf (#[.agg cs.toArray] ++ cb) W fun e w' => e= .returned (.bool (p d))∧Below W.heap.size W w') :
  Calls Tryz.prog 137 #[v,.func (.func gf) #[] cb] w fun e w' =>∃A c fs',e= .returned (.slice A (ds.filter fun x => !p x).length c)∧rSl 9 Ac w' fs' (.slice A (ds.filter fun x => !p x).length c) (ds.filter fun x => !p x)∧Below base w w':=by
 obtain⟨fr,hrd,-⟩:=ho.reads;have HI:=Lib.hid (Eu 9 (by omega) Tryz.sizeOf76 Tryz.isAgg76 p gf cb v ds (fr ++ fs) w eg hrd (fun W cs fk j hj hW hR => hp W cs fk ds[j] (hW.mono hbase) hR (List.getElem_mem hj)));have HRD:=Lib.hid hrd;have HP:=Lib.hid hp;clear hp hrd;by_cases hany:ds.any p=true
 case neg =>
  have hnone:∀q,(hq:q<ds.length)→p ds[q] =false:=fun q hq => by
   cases h:p ds[q]with
   |false => rfl
   |true => exact absurd (List.any_eq_true.2 ⟨_,List.getElem_mem hq,h⟩) hany
  have hid:ds.filter (fun x => !p x)=ds:=List.filter_eq_self.2 (fun x hx => by
   obtain⟨q,hq,rfl⟩:=List.getElem_of_mem hx;rw[hnone q hq];rfl)
  rw[hid];rw[CL hnone]at HI;obtain⟨A,c,rfl,-⟩:=rSl.head HRD.out;clear hnone hid hany ho;go_enter Tryz.func137,Tryz.ntmps137
  go_wp2_with (go_at_call 76;refine HI.out.mono ?_;rintro e w1 ⟨rfl,hb1⟩)
  go_ret
  exact⟨A,c,fr ++ fs,rfl,rSl.below Ac.local_ Ac.fixed HRD.out hb1,hb1.mono hbase⟩
 case pos =>
 -- the first that is struck
 have hk0:∃k0,∃hk:k0<ds.length,p ds[k0] =true∧∀q,(hq:q<ds.length)→q<k0→p ds[q] =false:=by
  cases hf:ds.findIdx? p with
  |none =>
   rw[List.findIdx?_eq_none_iff]at hf;obtain⟨x,hx,hpx⟩:=List.any_eq_true.1 hany;rw[hf x hx]at hpx;cases hpx
  |some k0 =>
   obtain⟨h1,h2,h3⟩:=List.findIdx?_eq_some_iff_getElem.1 hf;exact⟨k0,h1,h2,fun q hq hqk => by have:=h3 q hqk;simpa using this⟩
 obtain⟨k0,hk0,hpk,hall⟩:=hk0;rw[Dd hk0 hpk hall]at HI
 -- the row
 obtain⟨g,n,c,rfl⟩:∃g n c,v= .slice (some ⟨g,0,none⟩) n c:=by
  obtain⟨A,c,e,-⟩:=ho.length;obtain⟨xs,hl,ht⟩:=ho.cells;rcases ht with⟨rfl,e0⟩|⟨g,cap,cur,rfl,_⟩
  ·omega
  ·exact⟨g,_,_,rfl⟩
 obtain⟨hrow,hn,hnc,hcm⟩:=Bp.of_own ho hfs;have HROW:=Lib.hid hrow;have HN:=Lib.hid hn;have hk0n:k0<n:=by omega
 have hn1:n≤1000000:=by omega
 have HF0:=Lib.hid (show(ds.take (k0+1)).filter (fun x => !p x)=ds.take k0 by
  rw[DC hk0 (by rw[hpk];rfl)];exact List.filter_eq_self.2 (fun x hx => by
   obtain⟨q,hq,rfl⟩:=List.getElem_of_mem hx;rw[List.length_take]at hq;rw[List.getElem_take,hall q (by omega) (by omega)];rfl))
 have hne1:((k0:Int) == -1)=false:=beq_eq_false_iff_ne.2 (by omega);have hne2:¬((k0:Int)= -1):=by omega
 clear hpk hall hany ho hrow hn hfs HRD;go_enter Tryz.func137,Tryz.ntmps137
 go_wp2_with (go_at_call 76;refine HI.out.mono ?_;rintro e w1 ⟨rfl,hb1⟩;have B1:=Lib.hid hb1;clear hb1)
 have start:Hid (Bp w1 base g n (fun q => if q<k0 then((ds.take (k0+1)).filter fun x => !p x)[q]? else if k0+1≤q then ds[q]? else none)):=by
  show Bp _ _ _ _ _
  refine(HROW.out.below B1.out).got_ (fun i hi d hd => ?_);by_cases h1:i<k0
  ·rw[if_pos h1,HF0.out,List.getElem?_take,if_pos h1]at hd;exact hd
  ·rw[if_neg h1]at hd;split at hd
   ·exact hd
   ·cases hd
 have st2:Hid (k0=((ds.take (k0+1)).filter fun x => !p x).length):=(show _=_ by rw[HF0.out,List.length_take];omega);clear HROW HF0;go_loopw [5,6,7] (fun u v _ wr =>∃(i j:Nat),u= int i64 i∧v= int i64 j∧i<j∧j≤n∧Hid (i=((ds.take j).filter fun x => !p x).length)∧Hid (Bp wr base g n (fun q => if q<i then((ds.take j).filter fun x => !p x)[q]? else if j≤q then ds[q]? else none))∧Hid (Below base w wr)) (fun _ v _ _ => n - (intOf v).toNat)
 case atStart => exact⟨k0,k0+1,rfl,by go_num,by omega,by omega,st2.out,start.out,B1.out.mono hbase⟩
 case round =>
  clear start st2;obtain⟨i,j,rfl,rfl,hij,hjn,HL,HR,HB⟩:=hrel;by_cases hlt:j<n
  ·have hjd:j<ds.length:=by have:=HN.out;omega
   have hltz:(j:Int)<(n:Int):=by omega
   obtain⟨cs,fk,hr,hrange,hfk⟩:=HR.out.el j hlt ds[j] (by
    rw[if_neg (by omega),if_pos (Nat.le_refl _)];exact List.getElem?_eq_getElem hjd)
   have hlen:=Ac.wide _ _ _ _ hr;have hgl:=HR.out.lt;have hglo:=HR.out.lo;have HRA:=Lib.hid hrange;have HI1:=Lib.hid (show(Tryz.prog.info? 76).map (·.size)=some cs.length by rw[hlen];kernel_rfl);have HI2:=Lib.hid (show(Tryz.prog.info? 76).map (·.size)=some cs.toArray.size by rw[List.size_toArray,hlen];kernel_rfl);have HON:=Lib.hid (all_oneCell_toArray (Ac.ones _ _ _ _ hr));obtain⟨Z,hZ⟩:∃Z:Array Value,#[int i64 0,int i64 0,.string ⟨#[]⟩,int i64 0,int i64 0,int i64 0,.slice none 0 0,.slice none 0 0,.slice none 0 0] =Z:=⟨_,rfl⟩;have hZs:Z.size=9:=by rw[← hZ];rfl
   have KZ:=Blk.new wr 76 Z;have HTH:=Lib.hid (Blk.there KZ cs.toArray.size (by rw[List.size_toArray,hlen,hZs];exact Nat.le_refl _));obtain⟨W2,hW2⟩:∃W2,(wr.alloc (.cells Z 76)).setCells wr.heap.size 0 cs.toArray.toList=W2:=⟨_,rfl⟩;have K2:=Lib.hid (show Blk W2 wr.heap.size 76 cs.toArray by rw[← hW2];exact Blk.laid KZ _ (by rw[hZs];exact hlen.symm));have B2:=Lib.hid (show Below wr.heap.size wr W2 by rw[← hW2];exact AF (Aa (Below.refl _ _) _) _ 0 (Nat.le_refl _));have HW2:=Lib.hid hW2;have HR2:=Lib.hid (Blk.rangeAll K2.out);have hbw:base≤wr.heap.size:=by omega
   have HB2:=Lib.hid (HB.out.trans (B2.out.mono hbw));have HRD:=Lib.hid (Aw.below Ac.local_ Ac.fixed hr B2.out);have HC:=Lib.hid (HP.out W2 cs fk ds[j] HB2.out HRD.out (List.getElem_mem hjd));have HFK:=Lib.hid hfk;have HLEN:=Lib.hid hlen;clear hr hrange hfk hW2 KZ hlen hZs;obtain⟨pj,hpj⟩:∃pj,p ds[j] =pj:=⟨_,rfl⟩;rw[hpj]at HC;have HPJ:=Lib.hid hpj;clear hpj;have row2:=fun(W3:World) (hb3:Below W2.heap.size W2 W3) =>(HR.out.below B2.out).below hb3
   have HROW:=Lib.hid row2;clear row2;cases pj with
   |true =>
    go_wp2_with (first
     |(refine wpList_load_mid rfl 76 (.tmp 24) rfl g (j * 9) rfl cs _ HRA.out Tryz.underlying76 rfl HI1.out ?_)
     |(refine wpList_store_mid rfl 76 (.tmp 7) (.tmp 25) rfl wr.heap.size 0 cs.toArray rfl rfl HTH.out HI2.out HON.out ?_;rw[HW2.out])
     |(refine wpList_load_mid rfl 76 (.tmp 7) rfl wr.heap.size 0 rfl cs _ HR2.out Tryz.underlying76 rfl HI1.out ?_)
     |(go_at_fn gf;refine HC.out.mono ?_;rintro e w3 ⟨rfl,hb3⟩;have B3:=Lib.hid hb3;clear hb3))
    go_roundw
    case rel =>
     have hF:=DC (keep:=fun x => !p x) hjd (by rw[HPJ.out];rfl);refine⟨i,j+1,rfl,by go_num,by omega,by omega,(show _=_ by rw[hF];exact HL.out),(show Bp _ _ _ _ _ from ?_),HB2.out.trans (B3.out.mono (Nat.le_trans hbw B2.out.size))⟩;rw[hF];refine(HROW.out _ B3.out).got_ (fun q hq d hd => ?_);by_cases h1:q<i
     ·rw[if_pos h1]at hd⊢;exact hd
     ·rw[if_neg h1]at hd⊢;split at hd
      ·rw[if_pos (by omega)];exact hd
      ·cases hd
    case measure => simp[intOf];omega
   |false =>
    go_wp2_with (first
     |(refine wpList_load_mid rfl 76 (.tmp 24) rfl g (j * 9) rfl cs _ HRA.out Tryz.underlying76 rfl HI1.out ?_)
     |(refine wpList_store_mid rfl 76 (.tmp 7) (.tmp 25) rfl wr.heap.size 0 cs.toArray rfl rfl HTH.out HI2.out HON.out ?_;rw[HW2.out])
     |(refine wpList_load_mid rfl 76 (.tmp 7) rfl wr.heap.size 0 rfl cs _ HR2.out Tryz.underlying76 rfl HI1.out ?_)
     |(go_at_fn gf;refine HC.out.mono ?_;rintro e w3 ⟨rfl,hb3⟩;have B3:=Lib.hid hb3;have HR3:=Lib.hid (Blk.rangeAll (K2.out.below hb3 K2.out.lt));have HT3:=Lib.hid (show w3.there g (i * 9) cs.toArray.size from fun q hq => by
       have hq9:q<9:=by rw[List.size_toArray,HLEN.out]at hq;exact hq
       have:=(HROW.out _ hb3).there (i * 9+q) (by omega);rw[Nat.zero_add]at this;exact this);clear hb3)
     |(refine wpList_load_mid rfl 76 (.tmp 7) rfl wr.heap.size 0 rfl cs _ HR3.out Tryz.underlying76 rfl HI1.out ?_)
     |(refine wpList_store_mid rfl 76 (.tmp 33) (.tmp 32) rfl g (i * 9) cs.toArray rfl rfl HT3.out HI2.out HON.out ?_))
    go_roundw
    case rel =>
     have hF:=FB (keep:=fun x => !p x) hjd (by rw[HPJ.out];rfl);have hB3:=HB2.out.trans (B3.out.mono (Nat.le_trans hbw B2.out.size));refine⟨i+1,j+1,by go_num,by go_num,by omega,by omega,(show _=_ by rw[hF,List.length_append,← HL.out];rfl),(show Bp _ _ _ _ _ from ?_),(show Below _ _ _ from AF hB3 _ _ hglo)⟩;rw[hF];refine((HROW.out _ B3.out).store (i:=i) (by omega) (Aw.below Ac.local_ Ac.fixed HRD.out B3.out) HFK.out).got_ (fun q hq d hd => ?_);by_cases h1:q=i
     ·subst h1;rw[if_pos rfl];rw[if_pos (by omega),List.getElem?_append_right (by rw[← HL.out];exact Nat.le_refl _),← HL.out]at hd;simpa using hd
     ·rw[if_neg h1];by_cases h2:q<i
      ·rw[if_pos h2];rw[if_pos (by omega),List.getElem?_append_left (by rw[← HL.out];exact h2)]at hd;exact hd
      ·rw[if_neg h2];rw[if_neg (by omega)]at hd;split at hd
       ·rw[if_pos (by omega)];exact hd
       ·cases hd
    case measure => simp[intOf];omega
  ·obtain rfl:j=n:=by omega
   have hltz:¬(j:Int)<(j:Int):=by omega
   obtain⟨vs,hcl⟩:=Fe wr 0 g (i * 9) (j - i) (c - i) (by omega) (fun q hq => by
    have:=HR.out.there (i * 9+q) (by omega);rw[Nat.zero_add]at this;exact this)
   have hic:¬c=i:=by omega
   have hici:(i:Int)≤(j:Int):=by omega
   have hi0:(0:Int)≤(i:Int):=by omega
   have hicc:(i:Int)≤(c:Int):=by omega
   have hHC:=Lib.hid (HR.out.cleared i vs);have hglo:=HR.out.lo;have HB5:=Lib.hid (show Below base w (wr.setCells g (i * 9) vs)from AF HB.out _ _ hglo);have HLT:=Lib.hid (show(ds.take j).filter (fun x => !p x)=ds.filter (fun x => !p x) by rw[List.take_of_length_le (by have:=HN.out;omega)]);clear HR HB;go_wp2_with fail
   go_ret
   rw[← HLT.out];have hi:=HL.out;obtain⟨fs1,hr1⟩:=hHC.out.reads (L:=(ds.take j).filter fun x => !p x) (c:=c) (by rw[← hi];omega) (by rw[← hi];omega) hcm (fun q hq => by
    rw[if_pos (by rw[hi];exact hq),if_pos (by rw[hi];exact hq)];exact List.getElem?_eq_getElem hq)
   rw[← hi]at hr1⊢;exact⟨some ⟨g,0,none⟩,c,rfl,⟨fs1,hr1⟩,HB5.out⟩
def H4(groups:Int)(all:List Ag)(group:Int):List Ag:=all.filter (Ft groups all group)
theorem Mg(x:Ag)(cs:List Value)(f:List Addr)(p b1 b2 b3 n c:Nat)(A:Option Addr)(fs fa:List Addr)(d:Au)(all:List Ag)(group:Int)(w:World)
  (hx:Ac w f cs x) (hw:AtW w p fs d) (hok:d.s.sh.Ok) (hg0:0≤group) (h1:w.cell? ⟨b1,0,none⟩=some (.pointer (some ⟨p,0,none⟩))) (h2:w.cell? ⟨b2,0,none⟩=some (int i64 group)) (h3:w.cell? ⟨b3,0,none⟩=some (.slice A n c)) (ha:rSl 9 Ac w fa (.slice A n c) all) :
  Calls Tryz.prog 144 #[.agg cs.toArray,.pointer (some ⟨b1,0,none⟩),.pointer (some ⟨b2,0,none⟩),.pointer (some ⟨b3,0,none⟩)] w fun e w' => e= .returned (.bool (!Ft d.s.g all group x))∧Below w.heap.size w w' :=
 Mh 9 rfl Tryz.sizeOf25 Tryz.isAgg25 x cs f p b1 b2 b3 n c A fs fa d all group w hx hw hok hg0 h1 h2 h3 ha
theorem DI(d:Au):(AW d).length≤(Bj d).length:=by
 unfold AW;rw[Kw];exact Fp _ _ rfl
theorem undone_c(p:Nat)(fs:List Addr)(d:Au)(group:Int)(w:World)(h:AtW w p fs d)(hok:d.s.sh.Ok)(hg0:0≤group)(hsm:(Bj d).length≤1000000) :
  Calls Tryz.prog 89 #[.pointer (some ⟨p,0,none⟩),int i64 group] w fun e w' =>∃A c fs',e= .returned (.slice A (H4 d.s.g (AW d) group).length c)∧rSl 9 Ac w' fs' (.slice A (H4 d.s.g (AW d) group).length c) (H4 d.s.g (AW d) group)∧Below w.heap.size w w':=by
 obtain⟨W1,hW1⟩:∃W1,(w.alloc (.cells #[.pointer (some ⟨p,0,none⟩)] 93)).alloc (.cells #[int i64 group] 2)=W1:=⟨_,rfl⟩;have hB1:Below w.heap.size w W1:=by rw[← hW1];exact((Below.refl _ _).alloc (Nat.le_refl _) _).alloc (by simp) _
 have K1:Blk W1 w.heap.size 93 #[.pointer (some ⟨p,0,none⟩)]:=by rw[← hW1];exact(Blk.new w _ _).alloc _
 have K2:Blk W1 (w.heap.size+1) 2 #[int i64 group]:=by rw[← hW1];exact Blk.new1 w _ _ _
 have HA1:=hid (h.below hB1);have HC:=hid (LC p fs d W1 HA1.out hsm);have HB1:=hid hB1;have HK1:=hid K1;have HK2:=hid K2;have hl:=DI d;have p1:W1.cell? ⟨w.heap.size,0,none⟩=some (.pointer (some ⟨p,0,none⟩)):=(K1.cell 0).trans rfl;clear h hB1 K1 K2;obtain⟨all,hall⟩:∃all,AW d=all:=⟨_,rfl⟩;rw[hall]at HC hl⊢;have HALL:=hid hall;clear hall;go_enter Tryz.func89,Tryz.ntmps89
 go_wp2_with (go_at_call 128;refine HC.out.mono ?_;rintro e w2 ⟨A,c,fa,rfl,ra,b2⟩;have RA:=hid ra;have B2:=hid b2;have W3:=hid (show Below w2.heap.size w2 (w2.alloc (.cells #[.slice A all.length c] 113))from(Below.refl _ _).alloc (Nat.le_refl _) _);have HCL:=hid (JF _ all fa (w2.alloc (.cells #[.slice A all.length c] 113)) (rSl.below Ac.local_ Ac.fixed RA.out W3.out) (by omega));clear ra b2)
 refine HCL.out.mono ?_;rintro e w4 ⟨v',fcl,rfl,own,hfcl,b4⟩;obtain⟨w3,hw3⟩:∃w3,w2.alloc (.cells #[.slice A all.length c] 113)=w3:=⟨_,rfl⟩;rw[hw3]at own hfcl b4 W3;have K3:Blk w3 w2.heap.size 113 #[.slice A all.length c]:=by rw[← hw3];exact Blk.new w2 _ _
 have hb13:Below W1.heap.size W1 w3:=B2.out.trans (W3.out.mono B2.out.size);have k1:Blk w3 w.heap.size 93 #[.pointer (some ⟨p,0,none⟩)]:=HK1.out.below hb13 HK1.out.lt;have k2:Blk w3 (w.heap.size+1) 2 #[int i64 group]:=HK2.out.below hb13 HK2.out.lt;have ha3:AtW w3 p fs d:=HA1.out.below hb13;have ra3:=rSl.below Ac.local_ Ac.fixed RA.out W3.out;have HDEL:=hid (IW (fun x => !Ft d.s.g all group x) 144 #[.pointer (some ⟨w.heap.size,0,none⟩),.pointer (some ⟨w.heap.size+1,0,none⟩),.pointer (some ⟨w2.heap.size,0,none⟩)] w3.heap.size v' all fcl w4 (enters_of Tryz.func144 (by kernel_rfl) rfl) own hfcl b4.size (by omega)
  (fun W cs fk x hW hR _ => by
   have hbW:Below w3.heap.size w3 W:=b4.trans hW;exact Mg x cs fk p w.heap.size (w.heap.size+1) w2.heap.size all.length c A fs fa d all group W hR (ha3.below hbW) hok hg0 (((k1.below hbW k1.lt).cell 0).trans rfl) (((k2.below hbW k2.lt).cell 0).trans rfl) (((K3.below hbW K3.lt).cell 0).trans rfl) (rSl.below Ac.local_ Ac.fixed ra3 hbW)))
 rw[show(all.filter fun x => !(!Ft d.s.g all group x))=H4 d.s.g all group by unfold H4;congr 1;funext x;simp]at HDEL;have HBB:=hid (show Below w.heap.size w w4 from HB1.out.trans ((hb13.trans (b4.mono hb13.size)).mono HB1.out.size));have HBZ:=hid (show w.heap.size≤w3.heap.size from Nat.le_trans HB1.out.size hb13.size);clear own hfcl b4 K3 hb13 k1 k2 ha3 ra3 hW1 hw3 HCL;go_wp2_with (go_at_call 137;refine HDEL.out.mono ?_;rintro e w5 ⟨A5,c5,f5,rfl,r5,b5⟩)
 go_ret
 exact⟨A5,c5,f5,rfl,r5,HBB.out.trans (b5.mono HBZ.out)⟩
def IA(dr:Bo)(row:Nat):CG:=dr.blocks.getD row ⟨0,[]⟩
def BV(d:Au)(g:Nat):List Bo:=d.g.getD g []
theorem Gj {d:Au} {g:Nat}(h:g<d.g.length):BV d g=d.g[g]:=by simp[BV,List.getD_eq_getElem?_getD,h]
structure Iz (w:World) (p:Nat) (d:Au) (g:Nat) (a0:Addr) (c0 b0 o0:Nat) (A1:Option Addr) (c1:Nat) (f1:List Addr):Prop where
 n9:w.cell? ⟨p,9,none⟩=some (.slice (some a0) d.g.length c0)
 lp:p<w.heap.size
 pl:a0.add g=⟨b0,o0,none⟩
 l0:b0<w.heap.size
 k0:w.cell? ⟨b0,o0,none⟩=some (.slice A1 (BV d g).length c1)
 rd:rSl 2 Av w f1 (.slice A1 (BV d g).length c1) (BV d g)
theorem AtW.grp {w:World} {p:Nat} {fs:List Addr} {d:Au}(h:AtW w p fs d) {g:Nat}(hg:g<d.g.length):∃a0 c0 b0 o0 A1 c1 f1,Iz w p d g a0 c0 b0 o0 A1 c1 f1:=by
 obtain⟨A0,A1,A2,c0,c1,c2,f0,f1,f2,HC⟩:=h.cells;obtain⟨A',c',e,hc,hm,hx⟩:=rSl.at_ (Am.fixed Av.fixed) (by decide) HC.rgr;injection e with e1 _ e3
 subst e1 e3;obtain⟨ad,b,o,cs,fk,rfl,hat⟩:=hx g hg;obtain⟨ve,rfl,hrd⟩:=hat.reads;obtain⟨Ae,ce,rfl,-⟩:=rSl.head hrd;have hpl:=hat.place;rw[Nat.mul_one]at hpl;have hk:=hat.cell 0 (by simp);simp only[Nat.add_zero,List.getElem_cons_zero]at hk;rw[← Gj hg]at hk hrd;exact⟨ad,_,b,o,Ae,ce,fk,HC.gr,HC.lt,hpl,hat.lt,hk,hrd⟩
theorem Iz.below {w w':World} {p:Nat} {d:Au} {g:Nat} {a0:Addr} {c0 b0 o0:Nat} {A1:Option Addr} {c1:Nat} {f1:List Addr}(h:Iz w p d g a0 c0 b0 o0 A1 c1 f1)(hb:Below w.heap.size w w'):Iz w' p d g a0 c0 b0 o0 A1 c1 f1 :=
 ⟨(hb.cell (p:=⟨p,9,none⟩) h.lp).trans h.n9,Nat.lt_of_lt_of_le h.lp hb.size,h.pl,Nat.lt_of_lt_of_le h.l0 hb.size,(hb.cell (p:=⟨b0,o0,none⟩) h.l0).trans h.k0,rSl.below Av.local_ Av.fixed h.rd hb⟩
structure DrvAt (w:World) (a1:Addr) (k row:Nat) (dr:Bo) (b1 o1:Nat) (a2:Addr) (c2 b2 o2:Nat) (A3:Option Addr) (c3:Nat) (f3:List Addr):Prop where
 p1:a1.add (k * 2)=⟨b1,o1,none⟩
 l1:b1<w.heap.size
 y0:w.cell? ⟨b1,o1,none⟩=some (.bool dr.wiped)
 y1:w.cell? ⟨b1,o1+1,none⟩=some (.slice (some a2) dr.blocks.length c2)
 p2:a2.add (row * 2)=⟨b2,o2,none⟩
 l2:b2<w.heap.size
 z0:w.cell? ⟨b2,o2,none⟩=some (int i64 (IA dr row).stamp)
 z1:w.cell? ⟨b2,o2+1,none⟩=some (.slice A3 (IA dr row).bytes.length c3)
 rd:Ap w f3 (.slice A3 (IA dr row).bytes.length c3) (IA dr row).bytes
theorem DrvAt.below {w w':World} {a1:Addr} {k row:Nat} {dr:Bo} {b1 o1:Nat} {a2:Addr} {c2 b2 o2:Nat} {A3:Option Addr} {c3:Nat} {f3:List Addr}(h:DrvAt w a1 k row dr b1 o1 a2 c2 b2 o2 A3 c3 f3)(hb:Below w.heap.size w w'):DrvAt w' a1 k row dr b1 o1 a2 c2 b2 o2 A3 c3 f3 :=
 ⟨h.p1,Nat.lt_of_lt_of_le h.l1 hb.size,(hb.cell (p:=⟨b1,o1,none⟩) h.l1).trans h.y0,(hb.cell (p:=⟨b1,o1+1,none⟩) h.l1).trans h.y1,h.p2,Nat.lt_of_lt_of_le h.l2 hb.size,(hb.cell (p:=⟨b2,o2,none⟩) h.l2).trans h.z0,(hb.cell (p:=⟨b2,o2+1,none⟩) h.l2).trans h.z1,h.rd.below hb⟩
def En(L:List Bo)(k:Nat):Nat:=(L.take k).countP Bo.wiped
theorem LW {L:List Bo} {k:Nat}(h:k<L.length):En L (k+1)=En L k+if L[k].wiped =true then 1 else 0:=by
 unfold En;rw[List.take_succ_eq_append_getElem h,List.countP_append];simp[List.countP_cons]
theorem nWip_le(L:List Bo)(k:Nat):En L k≤k:=by
 unfold En;have:=List.countP_le_length (p:=Bo.wiped) (l:=L.take k);rw[List.length_take]at this;omega
def GP(d:Au)(g:Nat):Bool:=decide (d.s.p<(En (BV d g) (BV d g).length:Int))
theorem wiped_c(p:Nat)(fs:List Addr)(d:Au)(g:Nat)(w:World)(h:AtW w p fs d)(hg:g<d.g.length)(hn:(BV d g).length≤1000) :
  Calls Tryz.prog 142 #[.pointer (some ⟨p,0,none⟩),int i64 (g:Int)] w fun e w' =>∃A c,e= .returned (.slice A (En (BV d g) (BV d g).length) c)∧Below w.heap.size w w':=by
 obtain⟨a0,c0,b0,o0,A1,c1,f1,HG⟩:=h.grp hg;obtain⟨g0,hg0⟩:∃g0,w.heap.size=g0:=⟨_,rfl⟩;obtain⟨W1,hW1⟩:∃W1,w.alloc (.cells #[] 2)=W1:=⟨_,rfl⟩;have hB1:Below g0 w W1:=by rw[← hW1,← hg0];exact Aa (Below.refl _ _) _
 have z1:W1.heap.size=g0+1:=by rw[← hW1,← hg0];simp
 have HO0:=hid (show Aj 1 2 As W1 g0 (.slice (some ⟨g0,0,none⟩) 0 0) [] []from by
  rw[← hW1,← hg0];exact Aj.start ⟨rfl,.inr ⟨w.heap.size,0,#[],rfl,Nat.le_refl _,Blk.new w _ _,Nat.le_refl _,by unfold maxLen;omega,rfl,rfl⟩⟩)
 have HG1:=HG.below (by rw[hg0];exact hB1:Below w.heap.size w W1);obtain⟨L,hL⟩:∃L,BV d g=L:=⟨_,rfl⟩;have n9:=HG1.n9;have pl:=HG1.pl;have k0:=HG1.k0;have lp:=HG1.lp;have l0:=HG1.l0;have hrd:=HG.rd;rw[hL]at hn k0 hrd;obtain⟨A',c',ev,hc,hm,hx⟩:=rSl.at_ Av.fixed (by decide) hrd;injection ev with ev1 ev2 ev3
 subst ev1 ev3;have HX:=hid hx;have hlt0:(g:Int)<(d.g.length:Int):=by omega
 have HB1:=hid hB1;have HZ1:=hid z1;have HGG:=hid hg0;rw[hL];clear h HG HG1 hrd hx ev2 hL hB1 z1 hm;go_enter Tryz.func142,Tryz.ntmps142
 go_wp2_with fail
 try simp only[hW1,hg0]
 clear hW1 hg0;go_loopw [17,5] (fun ix ov wx =>∃(k n c2:Nat) (A2:Option Addr) (ds:List Int),k≤L.length∧ix= int i64 k∧ov= .slice A2 n c2∧Hid (n=ds.length)∧Hid (ds.length=En L k)∧Hid (Aj 1 2 As wx g0 (.slice A2 n c2) ds [])∧Hid (Below g0 w wx)∧Hid (g0<wx.heap.size)) (fun ix _ _ => L.length - (intOf ix).toNat)
 case atStart => exact⟨0,0,0,some ⟨g0,0,none⟩,[],by omega,rfl,rfl,rfl,(show 0=_ by simp[En]),HO0.out,HB1.out,(show g0<_ by have:=HZ1.out;omega)⟩
 case round =>
  clear HO0;obtain⟨k,n,c2,A2,ds,hk,rfl,rfl,HN,HDS,HO,HB,HGZ⟩:=hrel;by_cases hlt:k<L.length
  ·obtain⟨ad,b3,o3,cs3,f3,rfl,hat0⟩:=HX.out k hlt;have hat:=hat0.below Av.local_ (show Below w.heap.size w wr by rw[HGG.out];exact HB.out);have hpl3:=hat.place;have hbl3:b3<wr.heap.size:=hat.lt;obtain⟨v0,g1,e,-,hrb⟩:=hat.reads;obtain⟨Ab,cb,rfl,-⟩:=rSl.head hrb;obtain⟨x,hxe⟩:∃x,L[k] =x:=⟨_,rfl⟩;have hst:=LW hlt;rw[hxe]at hst e;subst e;obtain⟨nb,hnb⟩:∃nb,x.blocks.length=nb:=⟨_,rfl⟩;rw[hnb]at hat;have q0:wr.cell? ⟨b3,o3,none⟩=some (.bool x.wiped):=hat.cell 0 (by simp);have q1:wr.cell? ⟨b3,o3+1,none⟩=some (.slice Ab nb cb):=hat.cell 1 (by simp);have hki:(k:Int)<(L.length:Int):=by omega
   have hle:=nWip_le L k;have HST:=hid hst;have hwg:=HGZ.out;obtain⟨wp,hwp⟩:∃wp,x.wiped=wp:=⟨_,rfl⟩;rw[hwp]at q0 HST;have b6:Below wr.heap.size wr (wr.alloc (.cells #[.bool wp,.slice Ab nb cb] 89)):=Aa (Below.refl _ _) _;have HB6:=hid b6;clear hat hat0 hrb hst hxe hwp hnb;cases wp with
   |true =>
    have b7:Below wr.heap.size wr ((wr.alloc (.cells #[.bool true,.slice Ab nb cb] 89)).alloc (.cells #[int i64 (k:Int)] 2)):=Aa b6 _;have HB7:=hid b7;have HAP:=hid (Ez (x:=(k:Int)) (HO.out.below As.local_ As.fixed b7) (by unfold okI;omega) (by have:=HDS.out;omega) (by have:=b7.size;omega) (Blk.new1 wr (.cells #[.bool true,.slice Ab nb cb] 89) 2 #[int i64 (k:Int)]));clear b6 b7 hwg;go_wp2_with (at_builtin;refine AB rfl (.tmp 24) (.tmp 26) 28 rfl _ _ (by rfl) (by rfl) HAP.out ?_;rintro v8 w8 ⟨A8,c8,rfl,o8,b8,s8,k8,j8⟩;have O8:=hid o8;have B8:=hid b8;have S8:=hid s8;clear o8 b8 s8 k8 j8)
    go_roundw
    case rel =>
     have h7:=HB7.out.size;have hg:=HGZ.out;have s8:=S8.out;exact⟨k+1,_,c8,A8,ds ++ [(k:Int)],by omega,by go_num,rfl,(show _=_ by rw[List.length_append];rfl),(show _=_ by rw[List.length_append,HST.out,HDS.out];rfl),O8.out,HB.out.trans ((HB7.out.mono (by omega)).trans B8.out),(show g0<_ by omega)⟩
    case measure => simp[intOf];omega
   |false =>
    clear b6;go_wp2_with fail
    go_roundw
    case rel => exact⟨k+1,n,c2,A2,ds,by omega,by go_num,rfl,HN.out,(show _=_ by rw[HST.out,HDS.out];rfl),HO.out.below As.local_ As.fixed HB6.out,HB.out.trans (HB6.out.mono (by omega)),(show g0<_ by have:=HB6.out.size;omega)⟩
    case measure => simp[intOf];omega
  ·obtain rfl:k=L.length:=by omega
   go_wp2_with fail
   go_ret
   have hn:=HN.out;rw[HDS.out]at hn;subst hn;exact⟨A2,c2,rfl,by rw[HGG.out];exact HB.out⟩
theorem Fr(p:Nat)(fs:List Addr)(d:Au)(g:Nat)(w:World)(h:AtW w p fs d)(hg:g<d.g.length)(hn:(BV d g).length≤1000) :
  Calls Tryz.prog 88 #[.pointer (some ⟨p,0,none⟩),int i64 (g:Int)] w fun e w' => e= .returned (.bool (GP d g))∧Below w.heap.size w w':=by
 obtain⟨A0,A1,A2,c0,c1,c2,f0,f1,f2,HC⟩:=h.cells;have HW:=hid (fun(W:World) (hW:Below w.heap.size w W) => wiped_c p fs d g W (h.below hW) hg hn);have n3:=HC.n3;have lp:=HC.lt;have HN3:=hid (show∀W,Below w.heap.size w W→W.cell? ⟨p,3,none⟩=some (int i64 d.s.p)from fun W hW =>(hW.cell (p:=⟨p,3,none⟩) lp).trans n3);obtain⟨n,hnn⟩:∃n,En (BV d g) (BV d g).length =n:=⟨_,rfl⟩;have hd:GP d g=decide (d.s.p<(n:Int)):=by unfold GP;rw[hnn]
 rw[hd];rw[hnn]at HW;obtain⟨sp,hsp⟩:∃sp,d.s.p=sp:=⟨_,rfl⟩;rw[hsp]at n3 HN3⊢;clear h HC hn hnn hd hsp;go_enter Tryz.func88,Tryz.ntmps88
 go_wp2_with fail
 go_region_held3 (fun W => W.cell? ⟨p,3,none⟩=some (int i64 sp))
  ((refine HN3.out _ ?_;repeat(with_reducible first|assumption|exact Below.refl _ _|apply Aa|apply Ai)))
  (first
   |(go_at_call 142;refine(HW.out _ (by repeat(with_reducible first|assumption|exact Below.refl _ _|apply Aa|apply Ai))).mono ?_;rintro e w2 ⟨A2,c2,rfl,b2⟩;have B2:=Below.viaQ (a:=w) (by repeat(with_reducible first|assumption|exact Below.refl _ _|apply Aa|apply Ai)) b2)
   |(go_at_call 85;refine(Ee _ _ _ _).mono ?_;rintro e w3 ⟨rfl,rfl⟩))
 all_goals
  go_wp2_with fail
  go_ret
  exact⟨rfl,B2⟩
theorem Dl {d:Au}(h:Bj d= []):AW d= []:=List.eq_nil_of_length_eq_zero (by have:=DI d;rw[h]at this;simpa using this)
theorem JL(A:Option Addr)(c:Nat)(fv:Value)(w:World) :
  Calls Tryz.prog 76 #[.slice A 0 c,fv] w fun e w' => e= .returned (int i64 (-1))∧w=w':=by
 go_enter Tryz.func76,Tryz.ntmps76
 go_wp2_with fail
 go_loop [8] (fun i => i= int i64 0) (fun _ => 0)
 case atStart => exact rfl
 case round =>
  subst hrel;go_wp2_with fail
  go_ret
  exact⟨rfl,rfl⟩
theorem IV(A:Option Addr)(c:Nat)(fv:Value)(w:World) :
  Calls Tryz.prog 137 #[.slice A 0 c,fv] w fun e w' => e= .returned (.slice A 0 c)∧w=w':=by
 go_enter Tryz.func137,Tryz.ntmps137
 go_wp2_with (go_at_call 76;refine(JL _ _ _ _).mono ?_;rintro e w3 ⟨rfl,rfl⟩)
 go_ret
 exact⟨rfl,rfl⟩
theorem LS(p:Nat)(fs:List Addr)(d:Au)(t:Int)(w:World)(h:AtW w p fs d)(h0:Bj d= []) :
  Calls Tryz.prog 86 #[.pointer (some ⟨p,0,none⟩),int i64 t] w fun e w' =>∃A c,e= .returned (.slice A 0 c)∧c≤9223372036854775807∧Below w.heap.size w w':=by
 have hmf:∀(fn:Fn) (first cap:Array Value) (w:World),(Instr.makeFunc fn first cap).run Tryz.prog w= .ok (.func fn first cap) w:=fun _ _ _ _ => rfl
 have hc0:=Dl h0;have HCT:=hid (fun(W:World) (hW:Below w.heap.size w W) => CK p fs d W (h.below hW) (by rw[h0];simp));rw[hc0]at HCT;clear hc0 h h0;go_enter Tryz.func86,Tryz.ntmps86
 go_wp2_with (first
  |(go_at_call 128;refine(HCT.out _ (Aa (Aa (Below.refl _ _) _) _)).mono ?_;rintro e w2 ⟨A,c,f2,rfl,r2,-,b2⟩;have hcm:=(rSl.head r2);have B2:=hid b2;clear b2 r2)
  |(go_at_call 137;refine(IV _ _ _ _).mono ?_;rintro e w3 ⟨rfl,rfl⟩))
 go_ret
 obtain⟨A',c',e,h1,h2⟩:=hcm;injection e with _ _ e3
 exact⟨A,c,rfl,by omega,(Aa (Aa (Below.refl _ _) _) _).trans (B2.out.mono (by simp;omega))⟩
theorem Dv(A:Option Addr)(c:Nat)(hc:c≤9223372036854775807)(w:World) :
  Calls Tryz.prog 82 #[.slice A 0 c] w fun e w' =>∃A c,e= .returned (.slice A 0 c)∧c≤9223372036854775807∧Below w.heap.size w w':=by
 refine(EL (.slice A 0 c) [] [] w ⟨A,c,rfl,Nat.zero_le _,hc,.inl ⟨rfl,rfl⟩⟩ (by simp) (fun x hx => by cases hx)).mono ?_;rintro e w' ⟨A',c',gs,rfl,r,m,b⟩;obtain⟨A2,c2,e2,h1,h2⟩:=rSl.head r;injection e2 with _ _ e3
 exact⟨A',c',rfl,by omega,b⟩
theorem GE {d:Au}(h:Bj d= [])(j:Nat)(hj:j<d.v.length):d.v[j].recs = []:=by
 unfold Bj at h;rw[List.flatMap_eq_nil_iff]at h;exact h _ (List.getElem_mem hj)
theorem AtW.tapes0 {w:World} {p:Nat} {fs:List Addr} {d:Au}(h:AtW w p fs d)(h0:Bj d= [])(h2:d.v.length=2) :
  ∃(b o:Nat) (c:Nat) (A0 A1:Option Addr) (c0 c1:Nat),w.cell? ⟨p,11,none⟩=some (.slice (some ⟨b,o,none⟩) 2 c)∧w.cell? ⟨b,o+1,none⟩=some (.slice A0 0 c0)∧w.cell? ⟨b,o+2+1,none⟩=some (.slice A1 0 c1)∧b<w.heap.size∧p<w.heap.size:=by
 obtain⟨B0,B1,B2,k0,k1,k2,f0,f1,f2,HC⟩:=h.cells;obtain⟨A2',c2',e,hc,hm,hx⟩:=rSl.at_ AK.fixed (by omega) HC.rtp;injection e with e1 _ e3
 subst e1 e3;obtain⟨ad,b,o,cs,fk,e0,hat⟩:=hx 0 (by omega);obtain⟨ad',b',o',cs',fk',e0',hat'⟩:=hx 1 (by omega);have hq:=e0.symm.trans e0';injection hq with hq
 subst hq;obtain⟨v,ft,e,-,hr⟩:=hat.reads;obtain⟨v',ft',e',-,hr'⟩:=hat'.reads;rw[GE h0 0 (by omega)]at hr;rw[GE h0 1 (by omega)]at hr';obtain⟨A,c,rfl,-⟩:=rSl.head hr;obtain⟨A',c',rfl,-⟩:=rSl.head hr';have t:=hat.cell 1 (by rw[e];simp);have t':=hat'.cell 1 (by rw[e'];simp);have pl:=hat.place;have pl':=hat'.place;have hb:=hat.lt;simp only[e]at t;simp only[e']at t';rw[Nat.zero_mul,addZero]at pl;subst pl;refine⟨b,o,k2,A,A',c,c',by rw[← h2,← e0];exact HC.tp,t,?_,hb,HC.lt⟩;have e2:(⟨b,o+2,none⟩:Addr)=⟨b',o',none⟩:=pl';injection e2 with e3 e4
 rw[e3,e4];exact t'
theorem Ir(p:Nat)(fs:List Addr)(d:Au)(w:World)(h:AtW w p fs d)(h0:Bj d= [])(h2:d.v.length=2) :
  Calls Tryz.prog 46 #[.pointer (some ⟨p,0,none⟩)] w fun e w' => e= .returned (int i64 0)∧Below w.heap.size w w':=by
 have HM:=hid (fun(t:Int) (W:World) (hW:Below w.heap.size w W) => LS p fs d t W (h.below hW) h0);have HT:=hid (fun(W:World) (hW:Below w.heap.size w W) =>(h.below hW).tapes0 h0 h2);clear h h0 h2;go_enter Tryz.func46,Tryz.ntmps46
 go_wp2_with fail
 refine(HM.out _ _ (Below.refl _ _)).mono ?_;rintro e w1 ⟨A1,c1,rfl,m1,b1⟩;have B1:=hid b1;have M1:=hid m1;clear b1 m1;go_wp2_with fail
 refine(Dv A1 c1 M1.out _).mono ?_;rintro e w2 ⟨A2,c2,rfl,-,b2⟩;have B2:=hid (B1.out.trans (b2.mono B1.out.size));clear b2;go_wp2_with fail
 refine(HM.out _ _ B2.out).mono ?_;rintro e w3 ⟨A3,c3,rfl,m3,b3⟩;have B3:=hid (B2.out.trans (b3.mono B2.out.size));have M3:=hid m3;clear b3 m3;go_wp2_with fail
 refine(Dv A3 c3 M3.out _).mono ?_;rintro e w4 ⟨A4,c4,rfl,-,b4⟩;have B4:=hid (B3.out.trans (b4.mono B3.out.size));clear b4;go_wp2_with fail
 obtain⟨wl,hwl⟩:∃wl,w4.alloc (.cells #[.slice A2 0 c2,.slice A4 0 c4] 113)=wl:=⟨_,rfl⟩;have KL:Blk wl w4.heap.size 113 #[.slice A2 0 c2,.slice A4 0 c4]:=by rw[← hwl];exact Blk.new _ _ _
 have BL:=hid (show Below w.heap.size w wl by rw[← hwl];exact Aa B4.out _);rw[hwl];have y0:wl.cell? ⟨w4.heap.size,0,none⟩=some (.slice A2 0 c2):=(KL.cell 0).trans rfl;have y1:wl.cell? ⟨w4.heap.size,1,none⟩=some (.slice A4 0 c4):=(KL.cell 1).trans rfl;have yl:=KL.lt;obtain⟨bt,ot,ct,T0,T1,k0,k1,t11,ta,tb,hbk,hpl⟩:=HT.out wl BL.out;clear hwl KL HM HT B1 B2 B3 B4 M1 M3;go_loop [19] (fun i =>∃j:Nat,j≤2∧i= int i64 j) (fun i => 2 - (intOf i).toNat)
 case atStart => exact⟨0,by omega,rfl⟩
 case round =>
  obtain⟨j,hj,rfl⟩:=hrel;by_cases h2:j=2
  ·subst h2;go_wp2_with fail
   go_loop [40] (fun i =>∃j:Nat,j≤2∧i= int i64 j) (fun i => 2 - (intOf i).toNat)
   case atStart => exact⟨0,by omega,rfl⟩
   case round =>
    obtain⟨k,hk,rfl⟩:=hrel;by_cases h2:k=2
    ·subst h2;go_wp2_with fail
     go_ret
     exact⟨rfl,BL.out⟩
    ·rcases(by omega:k=0∨k=1)with rfl|rfl
     all_goals
      clear h2;go_wp2_with fail
      go_loop [47] (fun i => i= int i64 0) (fun _ => 0)
      case atStart => exact rfl
      case round =>
       subst hrel;go_wp2_with fail
       go_round
       case rel => first|exact⟨1,by omega,by go_num⟩|exact⟨2,by omega,by go_num⟩
       case measure => simp[intOf]
  ·rcases(by omega:j=0∨j=1)with rfl|rfl
   all_goals
    clear h2;go_wp2_with fail
    go_round
    case rel => first|exact⟨1,by omega,by go_num⟩|exact⟨2,by omega,by go_num⟩
    case measure => simp[intOf]
end Go.Proofs.YthbljikbnoghcaaGreat
