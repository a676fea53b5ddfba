/-
  Part 28 of the proof.
-/
import Derived.Test.YtfjkoifpdoemdaaGreatI26
import Derived.Test.YtfjkoifpdoemdaaGreatI27
import Derived.Test.YtfjkoifpdoemdaaGreatI18
set_option maxHeartbeats 8000000
set_option maxRecDepth 100000
set_option linter.unusedVariables false
set_option linter.unusedSimpArgs false
open Go.Value (int)
open Go.IntKind (i64)
namespace Go.Proofs.YtfjkoifpdoemdaaGreat
open Go.RowKit Go.Lib Go.Sort
structure FX (lo:Nat) (w0:World) (b:Nat) (qk:Int) (A:Option Addr) (n c:Nat) (Y:Option (List (List UInt8))) (W:World):Prop where
 k0:W.cell? ⟨b,0,none⟩=some (int i64 qk)
 k1:W.cell? ⟨b,1,none⟩=some (.slice A n c)
 lt:b<W.heap.size
 bel:Below lo w0 W
 q:(∃L fs,Y=some L∧qk=0∧n=L.length∧Ap W fs (.slice A n c) L∧Az lo W fs)∨(Y=none∧qk=10)
theorem FX.early {lo:Nat} {w0 w3:World} {b:Nat} {t:TypeId} {u0 u1:Value} {qk:Int} {A:Option Addr} {n c:Nat} {Y:Option (List (List UInt8))}(K:Blk w3 b t #[u0,u1])(hb:lo≤b)(hB:Below lo w0 w3)
  (hq:(∃L fs,Y=some L∧qk=0∧n=L.length∧Ap w3 fs (.slice A n c) L∧Az lo w3 fs∧∀a,a∈fs→a.block≠b)∨(Y=none∧qk=10)) :
  FX lo w0 b qk A n c Y ((w3.setCell ⟨b,0,none⟩ (int i64 qk)).setCell ⟨b,1,none⟩ (.slice A n c)):=by
 have K2:=(K.set_ 0 (int i64 qk)).set_ 1 (.slice A n c);refine⟨(K2.cell 0).trans rfl,(K2.cell 1).trans rfl,K2.lt,?_,?_⟩
 ·have h1:=AZ (b:=b) hB [int i64 qk,.slice A n c] 0 hb;simpa [World.setCells]using h1
 ·rcases hq with⟨L,fs,h1,h2,h3,h4,h5,h6⟩|h
  ·refine .inl ⟨L,fs,h1,h2,h3,rSl.keep Ap.loc h4 (fun a ha => ?_),(h5.set_ _ _).set_ _ _⟩;rw[World.cell?_setCell_other _ _ _ _ (fun e => h6 a ha (by rw[← e])),World.cell?_setCell_other _ _ _ _ (fun e => h6 a ha (by rw[← e]))]
  ·exact .inr h
theorem FX.late {lo:Nat} {w0 w3:World} {t:TypeId} {qk:Int} {A:Option Addr} {n c:Nat} {Y:Option (List (List UInt8))}(hB:Below lo w0 w3)(hl:lo≤w3.heap.size)
  (hq:(∃L fs,Y=some L∧qk=0∧n=L.length∧Ap w3 fs (.slice A n c) L∧Az lo w3 fs)∨(Y=none∧qk=10)) :
  FX lo w0 w3.heap.size qk A n c Y (w3.alloc (.cells #[int i64 qk,.slice A n c] t)):=by
 have K2:=Blk.new w3 t #[int i64 qk,.slice A n c];refine⟨(K2.cell 0).trans rfl,(K2.cell 1).trans rfl,K2.lt,hB.alloc hl _,?_⟩;rcases hq with⟨L,fs,h1,h2,h3,h4,h5⟩|h
 ·exact .inl ⟨L,fs,h1,h2,h3,rSl.below Ap.loc Ap.fix h4 (Af (Below.refl _ _) _),h5.below (Af (Below.refl _ _) _) (rSl.there Ap.fix h4)⟩
 ·exact .inr h
theorem ME {P F:World→Prop} {W4:World}(h4:F W4)(h:∀W,F W→P W):P W4:=h W4 h4
theorem PW(p:Nat)(fs:List Addr)(d:Am)(v:Value)(fa:List Addr)(g row:Nat)(w:World)(h:AtW w p fs d)(ha:rSl 9 Ac w fa v (AM d))(hT:BO d)(hg:g<d.g.length)(hr:(row:Int)<d.s.rows) :
  Calls Tryz.prog 38 #[.pointer (some ⟨p,0,none⟩),v,int i64 (g:Int),int i64 (row:Int)] w (OptS (Eh d g row) (fun a => a∈fa) w):=by
 obtain⟨a1,a2⟩:=hT.ok.data;obtain⟨b1,b2⟩:=hT.ok.g;obtain⟨b3,b4⟩:=hT.ok.c;simp only[AW.sh]at a1 a2 b1 b2 b3 b4;have hgl:=hT.gl;have HH:=hid h;have HT:=hid hT;have lp:p<w.heap.size:=by obtain⟨A0,A1,A2,c0,c1,c2,f0,f1,f2,HC⟩:=h.cells;exact HC.lt
 obtain⟨Av,cv,rfl,-⟩:=rSl.head ha;have HFA:=hid (show∀a,a∈fa→a.block<w.heap.size from fun a ha' => rSl.there Ac.fixed ha a ha');have HHR:=hid (fun(W:World) (hW:Below w.heap.size w W) (k:Nat) (hk:k<d.g.length) => Pb p fs d (.slice Av (AM d).length cv) fa k row W (h.below hW) (rSl.below Ac.local_ Ac.fixed ha hW) hT hk hr);obtain⟨nd,hnd⟩:∃nd:Nat,d.s.data=nd:=⟨d.s.data.toNat,by omega⟩;obtain⟨ng,hng⟩:∃ng:Nat,d.s.g=ng:=⟨d.s.g.toNat,by omega⟩;obtain⟨nc,hnc⟩:∃nc:Nat,d.s.c=nc:=⟨d.s.c.toNat,by omega⟩;have HND:=hid hnd;have HNG:=hid hng;have HNC:=hid hnc;have hnd3:nd≤3:=by omega
 have hng1:1≤ng:=by omega
 have hng4:ng≤4:=by omega
 have hnc2:nc≤2:=by omega
 have HGL:=hid (show d.g.length=ng+nc by omega);have hg2:g<ng+nc:=by omega
 obtain⟨n,hn⟩:∃n,(AM d).length =n:=⟨_,rfl⟩;rw[hn]at HHR⊢;clear h ha hT hnd hng hnc a1 a2 b1 b2 b3 b4 hgl hn;go_enter Tryz.func38,Tryz.ntmps38
 go_wp2_with fail
 refine(HHR.out w (Below.refl _ _) g hg).mono ?_;rintro e w1 (⟨D,A6,c6,f6,e6,rfl,r6,l6,b6⟩|⟨e6,rfl,b6⟩)
 ·have R6:=hid r6;have B6:=hid b6;have E6:=hid (IC e6);have L6:=hid l6;clear r6 l6 b6 e6;go_wp2_with fail
  go_ret2
  exact .inl ⟨D,A6,c6,f6,E6.out,rfl,R6.out,L6.out,B6.out⟩
 ·have B1:=hid b6;have hrc:=JB e6;have HNONE:=hid e6;rw[HND.out,HNG.out,HNC.out,Int.toNat_natCast,Int.toNat_natCast,Int.toNat_natCast]at hrc;have HRC:=hid hrc;have s1:=b6.size;have lp1:p<w1.heap.size:=Nat.lt_of_lt_of_le lp s1;have HSHF:=hid (show∀W,Below w.heap.size w W→W.rangeAt p 0 [int i64 (ng:Int),int i64 (nc:Int),int i64 d.s.data,int i64 d.s.p,int i64 d.s.rows,int i64 d.s.cap,int i64 d.s.b,int i64 d.s.q,int i64 d.s.t]∧W.cell? ⟨p,0,none⟩=some (int i64 (ng:Int))∧W.cell? ⟨p,1,none⟩=some (int i64 (nc:Int))from fun W hW => by
   obtain⟨A0',A1',A2',c0',c1',c2',f0',f1',f2',HC1⟩:=(HH.out.below hW).cells;have h1:=HC1.s;have h2:=HC1.n0;have h3:=HC1.n1;rw[HNG.out]at h1 h2;rw[HNC.out]at h1 h3;exact⟨h1,h2,h3⟩)
  have HE:=hid (Al.emptyL (w:=w1));have hb2:Below w1.heap.size w1 (w1.alloc (.cells #[] 39)):=Af (Below.refl _ _) _;have HB2:=hid hb2;have HALLF:=hid (fun(W:World) => show Calls Tryz.prog 37 #[.agg #[int i64 (ng:Int),int i64 (nc:Int),int i64 d.s.data,int i64 d.s.p,int i64 d.s.rows,int i64 d.s.cap,int i64 d.s.b,int i64 d.s.q,int i64 d.s.t]] W fun e w' => e= .returned (int i64 ((ng:Int)+(nc:Int)))∧Below W.heap.size W w' from by
   have hall:=FB d.s.sh HT.out.ok W;unfold shV at hall;rw[show d.s.sh.g=(ng:Int)from HNG.out,show d.s.sh.c=(nc:Int)from HNC.out]at hall;exact hall)
  clear e6 b6 hrc hb2;go_wp2_with fail
  go_loopw [13,12,14,15] (fun i o _ _ wr =>∃(k:Nat) (A:Option Addr) (c3:Nat) (fo:List Addr),k≤ng+nc∧i= int i64 k∧o= .slice A k c3∧Hid (Al 1 39 (Ak 1 Ah) wr w1.heap.size o ((Bz d row).take k) fo)∧Hid (Below w1.heap.size w1 wr)) (fun i _ _ _ _ => ng+nc - (intOf i).toNat)
  case atStart => exact⟨0,_,0,[],by omega,rfl,rfl,HE.out,HB2.out⟩
  case round =>
   obtain⟨k,A,c3,fo,hk,rfl,rfl,HO,HB⟩:=hrel;clear HE HB2;have sB:=HB.out.size;have HBS:=hid sB;have HBW:=hid (B1.out.trans (HB.out.mono s1));have HSH:=hid (HSHF.out wr HBW.out).1;have lp2:p<wr.heap.size:=Nat.lt_of_lt_of_le lp1 sB;by_cases hkn:k<ng+nc
   ·have hki:(k:Int)<((ng:Int)+(nc:Int)):=by omega
    have hst:=Jq d row (show k<d.g.length by rw[HGL.out];exact hkn);have hlen:((Bz d row).take k).length =k:=by rw[List.length_take,Dv,HGL.out];omega
    have HST:=hid hst.symm;have HLEN:=hid hlen;clear hst hlen;go_wp2_with (first
     |(refine wpList_load_mid rfl 31 _ rfl p 0 rfl _ _ HSH.out Tryz.underlying31 rfl (by kernel_rfl) ?_)
     |(go_at_call 37;refine(HALLF.out _).mono ?_;rintro e w2 ⟨rfl,b2⟩;have B2:=hid b2;have HC:=hid (HHR.out w2 (HBW.out.trans (b2.mono HBW.out.size)) k (by rw[HGL.out];exact hkn));clear b2))
    refine HC.out.mono ?_;rintro e w3 (⟨D,A6,c6,f6,e6,rfl,r6,l6,b6⟩|⟨e6,rfl,b6⟩)
    ·have hs3:=HST.out;rw[e6,Option.getD_some]at hs3;have hkg:k≠g:=fun e => by subst e;have:=HNONE.out;rw[e6]at this;cases this
     have hkb:((k:Int) ==(g:Int))=false:=by rw[beq_eq_false_iff_ne];omega
     have hb3:Below wr.heap.size wr w3:=B2.out.trans (b6.mono B2.out.size);have hf6:∀a,a∈f6→a.block<w1.heap.size∨wr.heap.size≤a.block:=fun a ha => by
      rcases l6 a ha with h6|h6
      ·exact .inl (Nat.lt_of_lt_of_le (HFA.out a h6) s1)
      ·exact .inr (Nat.le_trans B2.out.size h6)
     have HAP:=hid (Tryz.addAny (wr:=wr) (W:=w3.alloc (.cells #[.slice A6 D.length c6] 39)) (b:=w3.heap.size) (ve:=.slice A6 D.length c6) (f:=f6) (L:=D) HO.out HBS.out (by rw[HLEN.out];omega) (Af hb3 _) (Blk.new _ _ _) (r6.below (Af (Below.refl _ _) _)) hf6);rw[HLEN.out,hs3]at HAP;clear e6 r6 l6 b6 hs3 hkg hb3 hf6;go_wp2_with (at_builtin;refine As rfl (.tmp 52) (.tmp 54) 83 rfl _ _ (by rfl) (by rfl) HAP.out ?_;rintro v8 w8 ⟨A8,c8,h8,rfl,o8,B8,e8,s8⟩;have HO8:=hid o8;have HB8:=hid B8;clear o8 B8 s8)
     go_roundw
     case rel => exact⟨k+1,A8,c8,_,by omega,by go_num,rfl,HO8.out,HB.out.trans HB8.out⟩
     case measure => simp[intOf];omega
    ·have hs3:=HST.out;rw[e6,Option.getD_none]at hs3;have hb3:Below wr.heap.size wr w3:=B2.out.trans (b6.mono B2.out.size);have HAP:=hid (Tryz.addAny (wr:=wr) (W:=w3.alloc (.cells #[.slice none 0 0] 39)) (b:=w3.heap.size) (ve:=.slice none 0 0) (f:=[]) (L:=[]) HO.out HBS.out (by rw[HLEN.out];omega) (Af hb3 _) (Blk.new _ _ _) (Ag.empty (by omega)) (fun a ha => by cases ha));rw[HLEN.out,hs3]at HAP;clear e6 b6 hs3 hb3;go_wp2_with (at_builtin;refine As rfl (.tmp 52) (.tmp 54) 83 rfl _ _ (by rfl) (by rfl) HAP.out ?_;rintro v8 w8 ⟨A8,c8,h8,rfl,o8,B8,e8,s8⟩;have HO8:=hid o8;have HB8:=hid B8;clear o8 B8 s8)
     go_roundw
     case rel => exact⟨k+1,A8,c8,_,by omega,by go_num,rfl,HO8.out,HB.out.trans HB8.out⟩
     case measure => simp[intOf];omega
   ·obtain rfl:k=ng+nc:=by omega
    have ho:=HO.out;have hll:(Bz d row).length =ng+nc:=by rw[Dv];exact HGL.out
    rw[List.take_of_length_le (by omega)]at ho;obtain⟨gr,hgr,-⟩:=ho.reads;have hall4:=Hq HT.out hr;rw[HND.out,Int.toNat_natCast]at hall4;have HDC:=hid (fun(W:World) (hW:Below wr.heap.size wr W) => Ks ng nc (.slice A (ng+nc) c3) (Bz d row) (gr ++ fo) W (4 * nd) (rSl.below Ap.loc Ap.fix hgr hW) hng1 hng4 hnc2 hll hall4 (by omega));obtain⟨Y,hY⟩:∃Y,EF (4 * nd) ng nc (Bz d row)=Y:=⟨_,rfl⟩;rw[hY]at HDC HRC;have HY:=hid hY;clear ho hll hgr hall4 hY;have HDQ:=hid (show∀W,Below wr.heap.size wr W→Calls Tryz.prog 89 #[int i64 (ng:Int),int i64 (nc:Int),.slice A (ng+nc:Nat) c3] W (fun e w' =>∃(qk:Int) (A9:Option Addr) (q9 c9:Nat),e= .returned (.agg #[int i64 qk,.slice A9 q9 c9])∧((∃L fs,Y=some L∧qk=0∧q9=L.length∧Ap w' fs (.slice A9 q9 c9) L∧Az W.heap.size w' fs)∨(Y=none∧qk=10))∧Below W.heap.size W w')from fun W hW =>(HDC.out W hW).mono fun e w' h => by
     rcases h with⟨L,A9,c9,f9,e9,rfl,r9,m9,b9⟩|⟨e9,rfl,b9⟩
     ·exact⟨0,A9,L.length,c9,rfl,.inl ⟨L,f9,e9,rfl,rfl,r9,m9⟩,b9⟩
     ·exact⟨10,none,0,0,rfl,.inr ⟨e9,rfl⟩,b9⟩)
    clear HDC;have HKS:=hid (fun(W:World) (hW:Below wr.heap.size wr W) =>(HSHF.out W (HBW.out.trans (hW.mono HBW.out.size))).2);have n0:=(HKS.out wr (Below.refl _ _)).1;have n1:=(HKS.out wr (Below.refl _ _)).2;go_wp2_with (first
     |(refine wpList_load_mid rfl 31 _ rfl p 0 rfl _ _ HSH.out Tryz.underlying31 rfl (by kernel_rfl) ?_)
     |(go_at_call 37;refine(HALLF.out _).mono ?_;rintro e w2 ⟨rfl,b2⟩;have B2:=hid b2;have lp3:=Nat.lt_of_lt_of_le lp2 b2.size;have k0:=(HKS.out w2 b2).1;have k1:=(HKS.out w2 b2).2;clear b2))
    have hb2w:=B2.out;go_region_law (first
     |(go_simp;go_at_call 89;refine(HDQ.out _ (by repeat(with_reducible first|assumption|exact Below.refl _ _|apply Af|apply Ar))).mono ?_;rintro e w3 ⟨qk,A9,q9,c9,rfl,hq,b3⟩;have HQ3:=hid hq;(first|(have KK:=(Blk.new w2.drew 144 #[int i64 0,.slice none 0 0]).below b3 (Blk.new _ _ _).lt;have x0:w3.cell? ⟨w2.heap.size,0,none⟩=some (int i64 0):=(KK.cell 0).trans rfl;have x1:w3.cell? ⟨w2.heap.size,1,none⟩=some (.slice none 0 0):=(KK.cell 1).trans rfl;have y0:w3.frozen? ⟨w2.heap.size,0,none⟩=false:=KK.frozen 0;have y1:w3.frozen? ⟨w2.heap.size,1,none⟩=false:=KK.frozen 1;have lk:w2.heap.size<w3.heap.size:=KK.lt;have KB:=hid KK;have BB:=hid (show Below (w2.heap.size+1) w3 w3 from Below.refl _ _);clear KK)|skip);have B3:=hid (Below.via (a:=wr) (by repeat(with_reducible first|assumption|exact Below.refl _ _|apply Af|apply Ar)) b3);clear hq b3;dsimp only))
    all_goals
     first
      |refine ME (F:=FX wr.heap.size wr w2.heap.size qk A9 q9 c9 Y) (FX.early KB.out hb2w.size B3.out (by
        rcases HQ3.out with⟨L,fs,h1,h2,h3,h4,h5⟩|h
        ·exact .inl ⟨L,fs,h1,h2,h3,h4,h5.mono (by have:=hb2w.size;simp <;> omega),fun a ha e => by have:=h5.from_ a ha;simp at this;omega⟩
        ·exact .inr h)) ?_
      |refine ME (F:=FX wr.heap.size wr w3.heap.size qk A9 q9 c9 Y) (FX.late B3.out B3.out.size (by
        rcases HQ3.out with⟨L,fs,h1,h2,h3,h4,h5⟩|h
        ·exact .inl ⟨L,fs,h1,h2,h3,h4,h5.mono (by have:=hb2w.size;simp <;> omega)⟩
        ·exact .inr h)) ?_
     clear HQ3 B3;intro W4 hF;obtain⟨x0,x1,lb,hbl,hq⟩:=hF;have HBL:=hid (HBW.out.trans (hbl.mono HBW.out.size));clear hbl;rcases hq with⟨L,f9,e9,rfl,rfl,r9,m9⟩|⟨e9,rfl⟩
     ·have hL:L.length=ng+nc:=by
       have h1:=HY.out;rw[e9]at h1;unfold EF at h1;split at h1
       ·cases h1
       ·injection h1 with h1
        rw[← h1];exact DT _ _ _ _ _
      obtain⟨A9',c9',e9',-,-,hx9⟩:=Ap.open_ r9;injection e9' with e91 _ e93
      subst e91 e93;have hgl9:g<L.length:=by omega
      obtain⟨ad9,A10,c10,f10,e10,bl10,p10,r10,hs10⟩:=hx9 g hgl9;have M10:=hid (show∀a,a∈f10→a∈fa∨w.heap.size≤a.block from fun a ha => .inr (Nat.le_trans HBW.out.size (m9.from_ a (hs10.2.1 a ha))));subst e10;have hgi:(g:Int)<(L.length:Int):=by omega
      have hR:Eh d g row=some (L[g]'hgl9):=by
       rw[HRC.out,e9,Option.map_some];simp[List.getD_eq_getElem?_getD,hL,hg2]
      have HR:=hid hR;have R10:=hid r10;clear hx9 r9 m9 hs10 hR r10 hL e9;go_wp2_with fail
      go_ret2
      exact .inl ⟨_,A10,c10,f10,HR.out,rfl,R10.out,M10.out,HBL.out⟩
     ·have hR:Eh d g row=none:=by rw[HRC.out,e9];rfl
      have HR:=hid hR;clear hR e9;go_wp2_with fail
      go_ret2
      exact .inr ⟨HR.out,rfl,HBL.out⟩
end Go.Proofs.YtfjkoifpdoemdaaGreat
