/- Part 29 of the proof. -/
import Derived.Test.YtfjkoifpdoemdaaGreatJ27
import Derived.Test.YtfjkoifpdoemdaaGreatJ28
import Derived.Test.YtfjkoifpdoemdaaGreatJ19
set_option maxHeartbeats 8000000
set_option maxRecDepth 100000
set_option linter.unusedVariables false
set_option linter.unusedSimpArgs false
open Go.Proofs.Tryz
open Go.Value (int)
open Go.IntKind (i64)
namespace Go.Proofs.YtfjkoifpdoemdaaGreat
open Go.RowKit Go.Lib Go.Sort
structure FX (lo:Nat) (w0:World) (b:Nat) (qk:Int) (A:Option Addr) (n c:Nat) (Y:Option (List (List UInt8))) (W:World):Prop where
 k0:W.cell? ⟨b,0,none⟩=some (int i64 qk)
 k1:W.cell? ⟨b,1,none⟩=some (.slice A n c)
 lt:b<W.heap.size
 bel:Below lo w0 W
 q:(∃L fs,Y=some L∧qk=0∧n=L.length∧As W fs (.slice A n c) L∧Aw lo W fs)∨(Y=none∧qk=10)
theorem FX.early {lo:Nat} {w0 w3:World} {b:Nat} {t:TypeId} {u0 u1:Value} {qk:Int} {A:Option Addr} {n c:Nat} {Y:Option (List (List UInt8))}(K:Blk w3 b t #[u0,u1])(hb:lo≤b)(hB:Below lo w0 w3)
  (hq:(∃L fs,Y=some L∧qk=0∧n=L.length∧As w3 fs (.slice A n c) L∧Aw lo w3 fs∧∀a,a∈fs→a.block≠b)∨(Y=none∧qk=10)) :
  FX lo w0 b qk A n c Y ((w3.setCell ⟨b,0,none⟩ (int i64 qk)).setCell ⟨b,1,none⟩ (.slice A n c)):=by
 have K2:=(K.set_ 0 (int i64 qk)).set_ 1 (.slice A n c);refine⟨(K2.cell 0).trans rfl,(K2.cell 1).trans rfl,K2.lt,?_,?_⟩
 ·have h1:=Ba (b:=b) hB [int i64 qk,.slice A n c] 0 hb;simpa [World.setCells]using h1
 ·rcases hq with⟨L,fs,h1,h2,h3,h4,h5,h6⟩|h
  ·refine .inl ⟨L,fs,h1,h2,h3,rSl.keep As.loc h4 (fun a ha => ?_),(h5.set_ _ _).set_ _ _⟩;rw[World.cell?_setCell_other _ _ _ _ (fun e => h6 a ha (by rw[← e])),World.cell?_setCell_other _ _ _ _ (fun e => h6 a ha (by rw[← e]))]
  ·exact .inr h
theorem FX.late {lo:Nat} {w0 w3:World} {t:TypeId} {qk:Int} {A:Option Addr} {n c:Nat} {Y:Option (List (List UInt8))}(hB:Below lo w0 w3)(hl:lo≤w3.heap.size)
  (hq:(∃L fs,Y=some L∧qk=0∧n=L.length∧As w3 fs (.slice A n c) L∧Aw lo w3 fs)∨(Y=none∧qk=10)) :
  FX lo w0 w3.heap.size qk A n c Y (w3.alloc (.cells #[int i64 qk,.slice A n c] t)):=by
 have K2:=Blk.new w3 t #[int i64 qk,.slice A n c];refine⟨(K2.cell 0).trans rfl,(K2.cell 1).trans rfl,K2.lt,hB.alloc hl _,?_⟩;rcases hq with⟨L,fs,h1,h2,h3,h4,h5⟩|h
 ·exact .inl ⟨L,fs,h1,h2,h3,rSl.below As.loc As.fix h4 (Af (aB _ _) _),h5.below (Af (aB _ _) _) (rSl.there As.fix h4)⟩
 ·exact .inr h
theorem MO {P F:World→Prop} {W4:World}(h4:F W4)(h:∀W,F W→P W):P W4:=h W4 h4
theorem QE(p:Nat)(fs:List Addr)(d:Am)(v:Value)(fa:List Addr)(g row:Nat)(w:World)(h:AtW w p fs d)(ha:rSl 9 Ac w fa v (AN d))(hT:BR d)(hg:g<d.g.length)(hr:(row:Int)<d.s.rows) :
  Calls prog 38 #[.pointer (some ⟨p,0,none⟩),v,int i64 (g:Int),int i64 (row:Int)] w (OptS (Ew d g row) (fun a => a∈fa) w):=by
 obtain⟨a1,a2⟩:=hT.ok.data;obtain⟨b1,b2⟩:=hT.ok.g;obtain⟨b3,b4⟩:=hT.ok.c;simp only[AX.sh]at a1 a2 b1 b2 b3 b4;have hgl:=hT.gl;have HH:=U h;have HT:=U hT;have lp:p<w.heap.size:=by obtain⟨A0,A1,A2,c0,c1,c2,f0,f1,f2,HC⟩:=h.cells;exact HC.lt
 obtain⟨Av,cv,rfl,-⟩:=rSl.head ha;have HFA:=U (show∀a,a∈fa→a.block<w.heap.size from fun a ha' => rSl.there Ac.fixed ha a ha');have HHR:=U (fun(W:World) (hW:Below w.heap.size w W) (k:Nat) (hk:k<d.g.length) => Qx p fs d (.slice Av (AN d).length cv) fa k row W (h.below hW) (rSl.below Ac.local_ Ac.fixed ha hW) hT hk hr);obtain⟨nd,hnd⟩:∃nd:Nat,d.s.data=nd:=⟨d.s.data.toNat,by omega⟩;obtain⟨ng,hng⟩:∃ng:Nat,d.s.g=ng:=⟨d.s.g.toNat,by omega⟩;obtain⟨nc,hnc⟩:∃nc:Nat,d.s.c=nc:=⟨d.s.c.toNat,by omega⟩;have HND:=U hnd;have HNG:=U hng;have HNC:=U hnc;have hnd3:nd≤3:=by omega
 have hng1:1≤ng:=by omega
 have hng4:ng≤4:=by omega
 have hnc2:nc≤2:=by omega
 have HGL:=U (show d.g.length=ng+nc by omega);have hg2:g<ng+nc:=by omega
 obtain⟨n,hn⟩:∃n,(AN d).length =n:=⟨_,rfl⟩;rw[hn]at HHR⊢;clear h ha hT hnd hng hnc a1 a2 b1 b2 b3 b4 hgl hn;go_enter func38,ntmps38
 go_wp2_with fail
 refine(HHR.o w (aB _ _) g hg).mono ?_;rintro e w1 (⟨D,A6,c6,f6,e6,rfl,r6,l6,b6⟩|⟨e6,rfl,b6⟩)
 ·have R6:=U r6;have B6:=U b6;have E6:=U (Ji e6);have L6:=U l6;clear r6 l6 b6 e6;go_wp2_with fail
  go_ret2
  exact .inl ⟨D,A6,c6,f6,E6.o,rfl,R6.o,L6.o,B6.o⟩
 ·have B1:=U b6;have hrc:=J6 e6;have HNONE:=U e6;rw[HND.o,HNG.o,HNC.o,Int.toNat_natCast,Int.toNat_natCast,Int.toNat_natCast]at hrc;have HRC:=U hrc;have s1:=b6.size;have lp1:p<w1.heap.size:=aE lp s1;have HSHF:=U (show∀W,Below w.heap.size w W→W.rangeAt p 0 [int i64 (ng:Int),int i64 (nc:Int),int i64 d.s.data,int i64 d.s.p,int i64 d.s.rows,int i64 d.s.cap,int i64 d.s.b,int i64 d.s.q,int i64 d.s.t]∧W.cell? ⟨p,0,none⟩=some (int i64 (ng:Int))∧W.cell? ⟨p,1,none⟩=some (int i64 (nc:Int))from fun W hW => by
   obtain⟨A0',A1',A2',c0',c1',c2',f0',f1',f2',HC1⟩:=(HH.o.below hW).cells;have h1:=HC1.s;have h2:=HC1.n0;have h3:=HC1.n1;rw[HNG.o]at h1 h2;rw[HNC.o]at h1 h3;exact⟨h1,h2,h3⟩)
  have HE:=U (Aj.emptyL (w:=w1));have hb2:Below w1.heap.size w1 (w1.alloc (.cells #[] 39)):=Af (aB _ _) _;have HB2:=U hb2;have HALLF:=U (fun(W:World) => show Calls prog 37 #[.agg #[int i64 (ng:Int),int i64 (nc:Int),int i64 d.s.data,int i64 d.s.p,int i64 d.s.rows,int i64 d.s.cap,int i64 d.s.b,int i64 d.s.q,int i64 d.s.t]] W fun e w' => e= .returned (int i64 ((ng:Int)+(nc:Int)))∧Below W.heap.size W w' from by
   have hall:=FJ d.s.sh HT.o.ok W;unfold shV at hall;rw[show d.s.sh.g=(ng:Int)from HNG.o,show d.s.sh.c=(nc:Int)from HNC.o]at hall;exact hall)
  clear e6 b6 hrc hb2;go_wp2_with fail
  go_loopw [13,12,14,15] (fun i o _ _ wr =>∃(k:Nat) (A:Option Addr) (c3:Nat) (fo:List Addr),k≤ng+nc∧i= int i64 k∧o= .slice A k c3∧Hid (Aj 1 39 (Al 1 Ai) wr w1.heap.size o ((BA d row).take k) fo)∧Hid (Below w1.heap.size w1 wr)) (fun i _ _ _ _ => ng+nc - (intOf i).toNat)
  case atStart => exact⟨0,_,0,[],by omega,rfl,rfl,HE.o,HB2.o⟩
  case round =>
   obtain⟨k,A,c3,fo,hk,rfl,rfl,HO,HB⟩:=hrel;clear HE HB2;have sB:=HB.o.size;have HBS:=U sB;have HBW:=U (B1.o.trans (HB.o.mono s1));have HSH:=U (HSHF.o wr HBW.o).1;have lp2:p<wr.heap.size:=aE lp1 sB;by_cases hkn:k<ng+nc
   ·have hki:(k:Int)<((ng:Int)+(nc:Int)):=by omega
    have hst:=JF d row (show k<d.g.length by rw[HGL.o];exact hkn);have hlen:((BA d row).take k).length =k:=by rw[aQ,DB,HGL.o];omega
    have HST:=U hst.symm;have HLEN:=U hlen;clear hst hlen;go_wp2_with (first
     |(refine aD rfl 31 _ rfl p 0 rfl _ _ HSH.o underlying31 rfl (by kernel_rfl) ?_)
     |(go_at_call 37;refine(HALLF.o _).mono ?_;rintro e w2 ⟨rfl,b2⟩;have B2:=U b2;have HC:=U (HHR.o w2 (HBW.o.trans (b2.mono HBW.o.size)) k (by rw[HGL.o];exact hkn));clear b2))
    refine HC.o.mono ?_;rintro e w3 (⟨D,A6,c6,f6,e6,rfl,r6,l6,b6⟩|⟨e6,rfl,b6⟩)
    ·have hs3:=HST.o;rw[e6,Option.getD_some]at hs3;have hkg:k≠g:=fun e => by subst e;have:=HNONE.o;rw[e6]at this;cases this
     have hkb:((k:Int) ==(g:Int))=false:=by rw[beq_eq_false_iff_ne];omega
     have hb3:Below wr.heap.size wr w3:=B2.o.trans (b6.mono B2.o.size);have hf6:∀a,a∈f6→a.block<w1.heap.size∨wr.heap.size≤a.block:=fun a ha => by
      rcases l6 a ha with h6|h6
      ·exact .inl (aE (HFA.o a h6) s1)
      ·exact .inr (bL B2.o.size h6)
     have HAP:=U (Tryz.addAny (wr:=wr) (W:=w3.alloc (.cells #[.slice A6 D.length c6] 39)) (b:=w3.heap.size) (ve:=.slice A6 D.length c6) (f:=f6) (L:=D) HO.o HBS.o (by rw[HLEN.o];omega) (Af hb3 _) (Blk.new _ _ _) (r6.below (Af (aB _ _) _)) hf6);rw[HLEN.o,hs3]at HAP;clear e6 r6 l6 b6 hs3 hkg hb3 hf6;go_wp2_with (at_builtin;refine Ar rfl (.tmp 52) (.tmp 54) 83 rfl _ _ (by rfl) (by rfl) HAP.o ?_;rintro v8 w8 ⟨A8,c8,h8,rfl,o8,B8,e8,s8⟩;have HO8:=U o8;have HB8:=U B8;clear o8 B8 s8)
     go_roundw
     case rel => exact⟨k+1,A8,c8,_,by omega,by go_num,rfl,HO8.o,HB.o.trans HB8.o⟩
     case measure => simp[intOf];omega
    ·have hs3:=HST.o;rw[e6,Option.getD_none]at hs3;have hb3:Below wr.heap.size wr w3:=B2.o.trans (b6.mono B2.o.size);have HAP:=U (Tryz.addAny (wr:=wr) (W:=w3.alloc (.cells #[.slice none 0 0] 39)) (b:=w3.heap.size) (ve:=.slice none 0 0) (f:=[]) (L:=[]) HO.o HBS.o (by rw[HLEN.o];omega) (Af hb3 _) (Blk.new _ _ _) (Ag.empty (by omega)) (fun a ha => by cases ha));rw[HLEN.o,hs3]at HAP;clear e6 b6 hs3 hb3;go_wp2_with (at_builtin;refine Ar rfl (.tmp 52) (.tmp 54) 83 rfl _ _ (by rfl) (by rfl) HAP.o ?_;rintro v8 w8 ⟨A8,c8,h8,rfl,o8,B8,e8,s8⟩;have HO8:=U o8;have HB8:=U B8;clear o8 B8 s8)
     go_roundw
     case rel => exact⟨k+1,A8,c8,_,by omega,by go_num,rfl,HO8.o,HB.o.trans HB8.o⟩
     case measure => simp[intOf];omega
   ·obtain rfl:k=ng+nc:=by omega
    have ho:=HO.o;have hll:(BA d row).length =ng+nc:=by rw[DB];exact HGL.o
    rw[bK (by omega)]at ho;obtain⟨gr,hgr,-⟩:=ho.reads;have hall4:=Ir HT.o hr;rw[HND.o,Int.toNat_natCast]at hall4;have HDC:=U (fun(W:World) (hW:Below wr.heap.size wr W) => Lf ng nc (.slice A (ng+nc) c3) (BA d row) (gr ++ fo) W (4 * nd) (rSl.below As.loc As.fix hgr hW) hng1 hng4 hnc2 hll hall4 (by omega));obtain⟨Y,hY⟩:∃Y,EQ (4 * nd) ng nc (BA d row)=Y:=⟨_,rfl⟩;rw[hY]at HDC HRC;have HY:=U hY;clear ho hll hgr hall4 hY;have HDQ:=U (show∀W,Below wr.heap.size wr W→Calls prog 89 #[int i64 (ng:Int),int i64 (nc:Int),.slice A (ng+nc:Nat) c3] W (fun e w' =>∃(qk:Int) (A9:Option Addr) (q9 c9:Nat),e= .returned (.agg #[int i64 qk,.slice A9 q9 c9])∧((∃L fs,Y=some L∧qk=0∧q9=L.length∧As w' fs (.slice A9 q9 c9) L∧Aw W.heap.size w' fs)∨(Y=none∧qk=10))∧Below W.heap.size W w')from fun W hW =>(HDC.o W hW).mono fun e w' h => by
     rcases h with⟨L,A9,c9,f9,e9,rfl,r9,m9,b9⟩|⟨e9,rfl,b9⟩
     ·exact⟨0,A9,L.length,c9,rfl,.inl ⟨L,f9,e9,rfl,rfl,r9,m9⟩,b9⟩
     ·exact⟨10,none,0,0,rfl,.inr ⟨e9,rfl⟩,b9⟩)
    clear HDC;have HKS:=U (fun(W:World) (hW:Below wr.heap.size wr W) =>(HSHF.o W (HBW.o.trans (hW.mono HBW.o.size))).2);have n0:=(HKS.o wr (aB _ _)).1;have n1:=(HKS.o wr (aB _ _)).2;go_wp2_with (first
     |(refine aD rfl 31 _ rfl p 0 rfl _ _ HSH.o underlying31 rfl (by kernel_rfl) ?_)
     |(go_at_call 37;refine(HALLF.o _).mono ?_;rintro e w2 ⟨rfl,b2⟩;have B2:=U b2;have lp3:=aE lp2 b2.size;have k0:=(HKS.o w2 b2).1;have k1:=(HKS.o w2 b2).2;clear b2))
    have hb2w:=B2.o;go_region_law (first
     |(go_simp;go_at_call 89;refine(HDQ.o _ (by repeat(with_reducible first|assumption|exact aB _ _|apply Af|apply An))).mono ?_;rintro e w3 ⟨qk,A9,q9,c9,rfl,hq,b3⟩;have HQ3:=U hq;(first|(have KK:=(Blk.new w2.drew 144 #[int i64 0,.slice none 0 0]).below b3 (Blk.new _ _ _).lt;have x0:w3.cell? ⟨w2.heap.size,0,none⟩=some (int i64 0):=(KK.cell 0).trans rfl;have x1:w3.cell? ⟨w2.heap.size,1,none⟩=some (.slice none 0 0):=(KK.cell 1).trans rfl;have y0:w3.frozen? ⟨w2.heap.size,0,none⟩=false:=KK.frozen 0;have y1:w3.frozen? ⟨w2.heap.size,1,none⟩=false:=KK.frozen 1;have lk:w2.heap.size<w3.heap.size:=KK.lt;have KB:=U KK;have BB:=U (show Below (w2.heap.size+1) w3 w3 from aB _ _);clear KK)|skip);have B3:=U (Below.via (a:=wr) (by repeat(with_reducible first|assumption|exact aB _ _|apply Af|apply An)) b3);clear hq b3;dsimp only))
    all_goals
     first
      |refine MO (F:=FX wr.heap.size wr w2.heap.size qk A9 q9 c9 Y) (FX.early KB.o hb2w.size B3.o (by
        rcases HQ3.o with⟨L,fs,h1,h2,h3,h4,h5⟩|h
        ·exact .inl ⟨L,fs,h1,h2,h3,h4,h5.mono (by have:=hb2w.size;simp <;> omega),fun a ha e => by have:=h5.from_ a ha;simp at this;omega⟩
        ·exact .inr h)) ?_
      |refine MO (F:=FX wr.heap.size wr w3.heap.size qk A9 q9 c9 Y) (FX.late B3.o B3.o.size (by
        rcases HQ3.o with⟨L,fs,h1,h2,h3,h4,h5⟩|h
        ·exact .inl ⟨L,fs,h1,h2,h3,h4,h5.mono (by have:=hb2w.size;simp <;> omega)⟩
        ·exact .inr h)) ?_
     clear HQ3 B3;intro W4 hF;obtain⟨x0,x1,lb,hbl,hq⟩:=hF;have HBL:=U (HBW.o.trans (hbl.mono HBW.o.size));clear hbl;rcases hq with⟨L,f9,e9,rfl,rfl,r9,m9⟩|⟨e9,rfl⟩
     ·have hL:L.length=ng+nc:=by
       have h1:=HY.o;rw[e9]at h1;unfold EQ at h1;split at h1
       ·cases h1
       ·injection h1 with h1
        rw[← h1];exact DW _ _ _ _ _
      obtain⟨A9',c9',e9',-,-,hx9⟩:=As.open_ r9;injection e9' with e91 _ e93
      subst e91 e93;have hgl9:g<L.length:=by omega
      obtain⟨ad9,A10,c10,f10,e10,bl10,p10,r10,hs10⟩:=hx9 g hgl9;have M10:=U (show∀a,a∈f10→a∈fa∨w.heap.size≤a.block from fun a ha => .inr (bL HBW.o.size (m9.from_ a (hs10.2.1 a ha))));subst e10;have hgi:(g:Int)<(L.length:Int):=by omega
      have hR:Ew d g row=some (L[g]'hgl9):=by
       rw[HRC.o,e9,Option.map_some];simp[aJ,hL,hg2]
      have HR:=U hR;have R10:=U r10;clear hx9 r9 m9 hs10 hR r10 hL e9;go_wp2_with fail
      go_ret2
      exact .inl ⟨_,A10,c10,f10,HR.o,rfl,R10.o,M10.o,HBL.o⟩
     ·have hR:Ew d g row=none:=by rw[HRC.o,e9];rfl
      have HR:=U hR;clear hR e9;go_wp2_with fail
      go_ret2
      exact .inr ⟨HR.o,rfl,HBL.o⟩
