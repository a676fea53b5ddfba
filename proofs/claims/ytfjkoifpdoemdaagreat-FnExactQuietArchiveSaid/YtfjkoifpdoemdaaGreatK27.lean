/-
  Part 27 of the proof; the last part states and proves the statement.
-/
import Derived.Test.YtfjkoifpdoemdaaGreatK12
import Derived.Test.YtfjkoifpdoemdaaGreatK13
import Derived.Test.YtfjkoifpdoemdaaGreatK01
set_option maxHeartbeats 8000000
set_option maxRecDepth 100000
set_option linter.unusedVariables false
set_option linter.unusedSimpArgs false
open Go.Value (int)
open Go.IntKind (i64)
namespace Go.Proofs.YtfjkoifpdoemdaaGreat
open Go.RowKit Go.Lib Go.Sort
def tkV(t:An):Value:=.agg #[int i64 t.id,int i64 t.kind,.string t.name,int i64 t.group]
structure FQ (W:World) (p:Nat) (t:An):Prop where
 rng:W.rangeAt p 0 [int i64 t.id,int i64 t.kind,.string t.name,int i64 t.group]
 c0:W.cell? ⟨p,0,none⟩=some (int i64 t.id)
 c1:W.cell? ⟨p,1,none⟩=some (int i64 t.kind)
 c2:W.cell? ⟨p,2,none⟩=some (.string t.name)
 c3:W.cell? ⟨p,3,none⟩=some (int i64 t.group)
 lt:p<W.heap.size
theorem FQ.of {W:World} {p:Nat} {T:TypeId} {t:An}(K:Blk W p T #[int i64 t.id,int i64 t.kind,.string t.name,int i64 t.group]):FQ W p t :=
 ⟨Blk.rangeAll K,(K.cell 0).trans rfl,(K.cell 1).trans rfl,(K.cell 2).trans rfl,(K.cell 3).trans rfl,K.lt⟩
theorem FQ.below {W W':World} {p:Nat} {t:An}(h:FQ W p t)(hb:Below W.heap.size W W'):FQ W' p t :=
 ⟨fun j v hj =>(hb.cell (p:=⟨p,0+j,none⟩) h.lt).trans (h.rng j v hj),(hb.cell (p:=⟨p,0,none⟩) h.lt).trans h.c0,(hb.cell (p:=⟨p,1,none⟩) h.lt).trans h.c1,(hb.cell (p:=⟨p,2,none⟩) h.lt).trans h.c2,(hb.cell (p:=⟨p,3,none⟩) h.lt).trans h.c3,Nat.lt_of_lt_of_le h.lt hb.size⟩
theorem C8 {a b:Int}(h:¬a=b):(a != b)=true:=by simpa using h
theorem Fp {a b:Int}(h:a=b):(a != b)=false:=by simpa using h
theorem GA {nm:ByteArray}(h:¬nm=⟨#[]⟩):nm.toList.isEmpty=false:=by
 have:=DM (b:=⟨#[]⟩) h;cases e:nm.toList with
 |nil => rw[e]at this;simp at this
 |cons a l => rfl
theorem Gy {nm:ByteArray}(h:BY nm.data.toList=true):nm.size≤8:=by
 unfold BY at h;simp only[Bool.and_eq_true,decide_eq_true_eq]at h;have h2:=h.2.2;simp at h2;exact h2
theorem Gq(s:Sh)(hsb:shB s=true)(t:An)(hn:t.name.size≤9223372036854775807)(w:World) :
  Calls Tryz.prog 271 #[shV s,tkV t] w fun e w' => e= .returned (int i64 (CZ s t))∧Below w.heap.size w w':=by
 have hs:=Cv hsb;have hB:Below w.heap.size w ((w.alloc (.cells #[int i64 s.g,int i64 s.c,int i64 s.data,int i64 s.p,int i64 s.rows,int i64 s.cap,int i64 s.b,int i64 s.q,int i64 s.t] 31)).alloc (.cells #[int i64 t.id,int i64 t.kind,.string t.name,int i64 t.group] 242)):=((Below.refl _ _).alloc (Nat.le_refl _) _).alloc (by simp) _;have HB:=hid hB;have HS:=hid (BF.of ((Blk.new w 31 #[int i64 s.g,int i64 s.c,int i64 s.data,int i64 s.p,int i64 s.rows,int i64 s.cap,int i64 s.b,int i64 s.q,int i64 s.t]).alloc (.cells #[int i64 t.id,int i64 t.kind,.string t.name,int i64 t.group] 242)));have HT:=hid (FQ.of (Blk.new1 w (.cells #[int i64 s.g,int i64 s.c,int i64 s.data,int i64 s.p,int i64 s.rows,int i64 s.cap,int i64 s.b,int i64 s.q,int i64 s.t] 31) 242 #[int i64 t.id,int i64 t.kind,.string t.name,int i64 t.group]));have hlo:=HS.out.lt;have hlt:=HT.out.lt;have v0:=HT.out.c0;have v1:=HT.out.c1;have v2:=HT.out.c2;have v3:=HT.out.c3;obtain⟨r,hr⟩:∃r,CZ s t=r:=⟨_,rfl⟩;rw[hr];unfold CZ at hr;have HIN:=hid (fun(W:World) => Be t.id 1 1000000000 W);have HNF:=hid (fun(W:World) => EQ t.name W hn);have HG:=hid (fun(W:World) => ET s hs t.group W);have HH:=hid (fun(h:t.name.size≤1000000) (W:World) => Jo s hs t.name h W);unfold shV at HG HH⊢;unfold tkV;clear hn hB hs;cases hi:Aj t.id 1 1000000000 with
 |false =>
  rw[hi]at HIN hr;have e1:r=3:=by rw[← hr];rfl
  subst e1;clear hr hi;go_enter Tryz.func271,Tryz.ntmps271
  go_wp2_with (go_at_call 100;refine(HIN.out _).mono ?_;rintro e w' ⟨rfl,rfl⟩)
  go_ret
  exact⟨rfl,HB.out⟩
 |true =>
  rw[hi,if_pos rfl]at hr;rw[hi]at HIN;clear hi;by_cases q1:t.kind=1
  ·rw[if_pos q1]at hr;have k1:(t.kind != 1)=false:=by rw[q1];rfl
   have k2:(t.kind == 2)=false:=by rw[q1];rfl
   clear q1;by_cases q2:BY t.name.data.toList=true
   ·have hsm:t.name.size≤1000000:=by have:=Gy q2;omega
    have HHO:=hid (HH.out hsm);have en:Bb t.name.data.toList=0:=by unfold Bb;rw[if_pos q2]
    rw[en]at HNF;rw[if_pos q2]at hr;obtain⟨ho,hho⟩:∃ho,Cr s.g t.name=ho:=⟨_,rfl⟩;rw[hho]at HHO hr;clear q2 hsm en hho HH HG;have HR:=hid hr;clear hr;go_enter Tryz.func271,Tryz.ntmps271
    go_wp2_with (first
     |(go_at_call 100;refine(HIN.out _).mono ?_;rintro e w' ⟨rfl,rfl⟩)
     |(go_at_call 72;refine(HNF.out _).mono ?_;rintro e w3 ⟨rfl,b3⟩;have S3:=hid (HS.out.below b3);have T3:=hid (HT.out.below b3);have B3:=hid (HB.out.trans (b3.mono HB.out.size));have z1:=S3.out.lt;have z2:=T3.out.lt;clear b3))
    clear v0 v1 v2 v3 HIN HNF;have u0:=cell_regrown S3.out.c0;have u1:=cell_regrown S3.out.c1;have u2:=cell_regrown S3.out.c2;have u3:=cell_regrown S3.out.c3;have u4:=cell_regrown S3.out.c4;have u5:=cell_regrown S3.out.c5;have u6:=cell_regrown S3.out.c6;have u7:=cell_regrown S3.out.c7;have u8:=cell_regrown S3.out.c8;have v0:=cell_regrown T3.out.c0;have v1:=cell_regrown T3.out.c1;have v2:=cell_regrown T3.out.c2;have v3:=cell_regrown T3.out.c3;have QH:=hid (AF (w:=w3) (fun W _ => HHO.out W));by_cases q3:t.group=ho
    ·have g1:(t.group != ho)=false:=Fp q3;have e1:r=0:=by rw[← HR.out,if_pos q3]
     subst e1;clear q3
     (refine wp_region_quiet_below (by kernel_rfl) (by kernel_rfl) ?_;(repeat(first|go_big_quiet_step (first|(go_at_call 139;exact QH.out _ _))|quiet_step (first|(go_at_call 139;exact QH.out _ _))));refine wpQuiet_nil ?_)
     rintro _ ⟨⟨dq,osq⟩,rfl⟩;have B4:=hid (B3.out.trans ((below_regrown _ dq osq).mono B3.out.size));go_wp2_with fail
     go_ret
     exact⟨rfl,B4.out⟩
    ·have g1:(t.group != ho)=true:=C8 q3;have e1:r=1:=by rw[← HR.out,if_neg q3]
     subst e1;clear q3
     (refine wp_region_quiet_below (by kernel_rfl) (by kernel_rfl) ?_;(repeat(first|go_big_quiet_step (first|(go_at_call 139;exact QH.out _ _))|quiet_step (first|(go_at_call 139;exact QH.out _ _))));refine wpQuiet_nil ?_)
     rintro _ ⟨⟨dq,osq⟩,rfl⟩;have B4:=hid (B3.out.trans ((below_regrown _ dq osq).mono B3.out.size));go_wp2_with fail
     go_ret
     exact⟨rfl,B4.out⟩
   ·have en:Bb t.name.data.toList=5:=by unfold Bb;rw[if_neg q2]
    rw[en]at HNF;rw[if_neg q2]at hr;subst hr;clear q2 en HH HG;go_enter Tryz.func271,Tryz.ntmps271
    go_wp2_with (first
     |(go_at_call 100;refine(HIN.out _).mono ?_;rintro e w' ⟨rfl,rfl⟩)
     |(go_at_call 72;refine(HNF.out _).mono ?_;rintro e w3 ⟨rfl,b3⟩;have B3:=hid (HB.out.trans (b3.mono HB.out.size));clear b3))
    go_ret
    exact⟨rfl,B3.out⟩
  ·rw[if_neg q1]at hr;have k1:(t.kind != 1)=true:=C8 q1;clear q1;by_cases q4:t.kind=2
   ·rw[if_pos q4]at hr;have k2:(t.kind != 2)=false:=by rw[q4];rfl
    have k3:(t.kind == 2)=true:=by rw[q4];rfl
    clear q4;have u0:=HS.out.c0;have u1:=HS.out.c1;have u2:=HS.out.c2;have u3:=HS.out.c3;have u4:=HS.out.c4;have u5:=HS.out.c5;have u6:=HS.out.c6;have u7:=HS.out.c7;have u8:=HS.out.c8;cases hg:Aj t.group 0 (s.g+s.c - 1)with
    |false =>
     rw[hg]at HG hr;have e1:r=3:=by rw[← hr];rfl
     subst e1;clear hr hg;go_enter Tryz.func271,Tryz.ntmps271
     go_wp2_with (first
      |(go_at_call 100;refine(HIN.out _).mono ?_;rintro e w' ⟨rfl,rfl⟩)
      |(go_at_call 54;refine(HG.out _).mono ?_;rintro e w3 ⟨rfl,b3⟩;have B3:=hid (HB.out.trans (b3.mono HB.out.size));clear b3))
     go_ret
     exact⟨rfl,B3.out⟩
    |true =>
     rw[hg,if_pos rfl]at hr;rw[hg]at HG;clear hg;by_cases q5:t.name=⟨#[]⟩
     ·have e1:r=0:=by rw[← hr,if_pos q5]
      subst e1;have x1:=Fr (b:=⟨#[]⟩) q5;have x2n:t.name.toList.isEmpty=true:=by rw[q5];simp
      clear hr q5;go_enter Tryz.func271,Tryz.ntmps271
      go_wp2_with (first
       |(go_at_call 100;refine(HIN.out _).mono ?_;rintro e w' ⟨rfl,rfl⟩)
       |(go_at_call 54;refine(HG.out _).mono ?_;rintro e w3 ⟨rfl,b3⟩;have T3:=hid (HT.out.below b3);have B3:=hid (HB.out.trans (b3.mono HB.out.size));have z2:=T3.out.lt;have x31:=T3.out.c1;have x32:=T3.out.c2;clear b3))
      go_ret
      exact⟨rfl,B3.out⟩
     ·have e1:r=1:=by rw[← hr,if_neg q5]
      subst e1;have x1:=DM (b:=⟨#[]⟩) q5;have x2n:t.name.toList.isEmpty=false:=GA q5;clear hr q5;go_enter Tryz.func271,Tryz.ntmps271
      go_wp2_with (first
       |(go_at_call 100;refine(HIN.out _).mono ?_;rintro e w' ⟨rfl,rfl⟩)
       |(go_at_call 54;refine(HG.out _).mono ?_;rintro e w3 ⟨rfl,b3⟩;have T3:=hid (HT.out.below b3);have B3:=hid (HB.out.trans (b3.mono HB.out.size));have z2:=T3.out.lt;have x31:=T3.out.c1;have x32:=T3.out.c2;clear b3))
      go_ret
      exact⟨rfl,B3.out⟩
   ·rw[if_neg q4]at hr;have k2:(t.kind != 2)=true:=C8 q4;subst hr;clear q4;go_enter Tryz.func271,Tryz.ntmps271
    go_wp2_with (go_at_call 100;refine(HIN.out _).mono ?_;rintro e w' ⟨rfl,rfl⟩)
    go_ret
    exact⟨rfl,HB.out⟩
theorem Gr(s:Sh)(hsb:shB s=true)(t:An)(hn:t.name.size≤9223372036854775807)(w:World) :
  Calls Tryz.prog 264 #[shV s,tkV t] w fun e w' => e= .returned (int i64 (CZ s t))∧Below w.heap.size w w':=by
 have hs:=Cv hsb;have hB:Below w.heap.size w ((w.alloc (.cells #[int i64 s.g,int i64 s.c,int i64 s.data,int i64 s.p,int i64 s.rows,int i64 s.cap,int i64 s.b,int i64 s.q,int i64 s.t] 31)).alloc (.cells #[int i64 t.id,int i64 t.kind,.string t.name,int i64 t.group] 242)):=((Below.refl _ _).alloc (Nat.le_refl _) _).alloc (by simp) _;have HB:=hid hB;have HS:=hid (BF.of ((Blk.new w 31 #[int i64 s.g,int i64 s.c,int i64 s.data,int i64 s.p,int i64 s.rows,int i64 s.cap,int i64 s.b,int i64 s.q,int i64 s.t]).alloc (.cells #[int i64 t.id,int i64 t.kind,.string t.name,int i64 t.group] 242)));have HT:=hid (FQ.of (Blk.new1 w (.cells #[int i64 s.g,int i64 s.c,int i64 s.data,int i64 s.p,int i64 s.rows,int i64 s.cap,int i64 s.b,int i64 s.q,int i64 s.t] 31) 242 #[int i64 t.id,int i64 t.kind,.string t.name,int i64 t.group]));have hlo:=HS.out.lt;have hlt:=HT.out.lt;have v0:=HT.out.c0;have v1:=HT.out.c1;have v2:=HT.out.c2;have v3:=HT.out.c3;obtain⟨r,hr⟩:∃r,CZ s t=r:=⟨_,rfl⟩;rw[hr];unfold CZ at hr;have HSF:=hid (fun(W:World) => Bu s W);rw[BZ hsb]at HSF;have HIN:=hid (fun(W:World) => Bh t.id 1 1000000000 W);have HNF:=hid (fun(W:World) => EX t.name W hn);have HA:=hid (fun(W:World) => Dz s hs W);have HIG:=hid (fun(W:World) => Bh t.group 0 (s.g+s.c - 1) W);have HH:=hid (fun(h:t.name.size≤1000000) (W:World) => GT s hs t.name h W);have HRS:=hid HS.out.rng;unfold shV at HSF HA HH⊢;unfold tkV;have hok:=hs;obtain⟨a1,a2⟩:=hok.g;obtain⟨b1,b2⟩:=hok.c;have hal:-9223372036854775808≤s.g+s.c - 1∧s.g+s.c - 1≤9223372036854775807:=by omega
 obtain⟨al,hale⟩:∃al,s.g+s.c=al:=⟨_,rfl⟩;rw[hale]at HA HIG hr hal;have hwr:IntKind.i64.wrap (al - 1)=al - 1:=IntWalk.i64_in _ (by omega);clear hn hB hs hok hsb a1 a2 b1 b2 hal hale;cases hi:Aj t.id 1 1000000000 with
 |false =>
  rw[hi]at HIN hr;have e1:r=3:=by rw[← hr];rfl
  subst e1;clear hr hi;go_enter Tryz.func264,Tryz.ntmps264
  go_wp2_with (first|(refine wpList_load_mid rfl 31 _ rfl w.heap.size 0 rfl _ _ HRS.out Tryz.underlying31 rfl (by kernel_rfl) ?_)|(go_at_call 82;refine(HSF.out _).mono ?_;rintro e w3 ⟨rfl,b3⟩;have S3:=hid (HS.out.below b3);have T3:=hid (HT.out.below b3);have B3:=hid (HB.out.trans (b3.mono HB.out.size));have z1:=S3.out.lt;have z2:=T3.out.lt;have y0:=T3.out.c0;have y1:=T3.out.c1;have y2:=T3.out.c2;have y3:=T3.out.c3;clear b3)|(go_at_call 35;refine(HIN.out _).mono ?_;rintro e w' ⟨rfl,rfl⟩))
  go_ret
  exact⟨rfl,B3.out⟩
 |true =>
  rw[hi,if_pos rfl]at hr;rw[hi]at HIN;clear hi;by_cases q1:t.kind=1
  ·rw[if_pos q1]at hr;have k1:(t.kind == 1)=true:=by rw[q1];rfl
   clear q1;by_cases q2:BY t.name.data.toList=true
   ·have hsm:t.name.size≤1000000:=by have:=Gy q2;omega
    have HHO:=hid (HH.out hsm);have en:Bb t.name.data.toList=0:=by unfold Bb;rw[if_pos q2]
    rw[en]at HNF;rw[if_pos q2]at hr;obtain⟨ho,hho⟩:∃ho,Cr s.g t.name=ho:=⟨_,rfl⟩;rw[hho]at HHO hr;clear q2 hsm en hho HH;have HR:=hid hr;clear hr;go_enter Tryz.func264,Tryz.ntmps264
    go_wp2_with (first|(refine wpList_load_mid rfl 31 _ rfl w.heap.size 0 rfl _ _ HRS.out Tryz.underlying31 rfl (by kernel_rfl) ?_)|(go_at_call 82;refine(HSF.out _).mono ?_;rintro e w3 ⟨rfl,b3⟩;have S3:=hid (HS.out.below b3);have T3:=hid (HT.out.below b3);have B3:=hid (HB.out.trans (b3.mono HB.out.size));have z1:=S3.out.lt;have z2:=T3.out.lt;have y0:=T3.out.c0;have y1:=T3.out.c1;have y2:=T3.out.c2;have y3:=T3.out.c3;clear b3)|(go_at_call 35;refine(HIN.out _).mono ?_;rintro e w' ⟨rfl,rfl⟩)|(go_at_call 69;refine(HNF.out _).mono ?_;rintro e w4 ⟨rfl,b4⟩;have S4:=hid (S3.out.below b4);have T4:=hid (T3.out.below b4);have B4:=hid (B3.out.trans (b4.mono B3.out.size));have z3:=S4.out.lt;have z4:=T4.out.lt;clear b4))
    clear v0 v1 v2 v3 y0 y1 y2 y3;have u0:=cell_regrown S4.out.c0;have u1:=cell_regrown S4.out.c1;have u2:=cell_regrown S4.out.c2;have u3:=cell_regrown S4.out.c3;have u4:=cell_regrown S4.out.c4;have u5:=cell_regrown S4.out.c5;have u6:=cell_regrown S4.out.c6;have u7:=cell_regrown S4.out.c7;have u8:=cell_regrown S4.out.c8;have v0:=cell_regrown T4.out.c0;have v1:=cell_regrown T4.out.c1;have v2:=cell_regrown T4.out.c2;have v3:=cell_regrown T4.out.c3;have QH:=hid (AF (w:=w4) (fun W _ => HHO.out W));by_cases q3:t.group=ho
    ·have g1:(t.group != ho)=false:=Fp q3;have e1:r=0:=by rw[← HR.out,if_pos q3]
     subst e1;clear q3
     (refine wp_region_quiet_below (by kernel_rfl) (by kernel_rfl) ?_;(repeat(first|go_big_quiet_step (first|(go_at_call 133;exact QH.out _ _))|quiet_step (first|(go_at_call 133;exact QH.out _ _))));refine wpQuiet_nil ?_)
     rintro _ ⟨⟨dq,osq⟩,rfl⟩;have BQ:=hid (B4.out.trans ((below_regrown _ dq osq).mono B4.out.size));go_wp2_with fail
     go_ret
     exact⟨rfl,BQ.out⟩
    ·have g1:(t.group != ho)=true:=C8 q3;have e1:r=1:=by rw[← HR.out,if_neg q3]
     subst e1;clear q3
     (refine wp_region_quiet_below (by kernel_rfl) (by kernel_rfl) ?_;(repeat(first|go_big_quiet_step (first|(go_at_call 133;exact QH.out _ _))|quiet_step (first|(go_at_call 133;exact QH.out _ _))));refine wpQuiet_nil ?_)
     rintro _ ⟨⟨dq,osq⟩,rfl⟩;have BQ:=hid (B4.out.trans ((below_regrown _ dq osq).mono B4.out.size));go_wp2_with fail
     go_ret
     exact⟨rfl,BQ.out⟩
   ·have en:Bb t.name.data.toList=5:=by unfold Bb;rw[if_neg q2]
    rw[en]at HNF;rw[if_neg q2]at hr;subst hr;clear q2 en HH;go_enter Tryz.func264,Tryz.ntmps264
    go_wp2_with (first|(refine wpList_load_mid rfl 31 _ rfl w.heap.size 0 rfl _ _ HRS.out Tryz.underlying31 rfl (by kernel_rfl) ?_)|(go_at_call 82;refine(HSF.out _).mono ?_;rintro e w3 ⟨rfl,b3⟩;have S3:=hid (HS.out.below b3);have T3:=hid (HT.out.below b3);have B3:=hid (HB.out.trans (b3.mono HB.out.size));have z1:=S3.out.lt;have z2:=T3.out.lt;have y0:=T3.out.c0;have y1:=T3.out.c1;have y2:=T3.out.c2;have y3:=T3.out.c3;clear b3)|(go_at_call 35;refine(HIN.out _).mono ?_;rintro e w' ⟨rfl,rfl⟩)|(go_at_call 69;refine(HNF.out _).mono ?_;rintro e w4 ⟨rfl,b4⟩;have S4:=hid (S3.out.below b4);have T4:=hid (T3.out.below b4);have B4:=hid (B3.out.trans (b4.mono B3.out.size));have z3:=S4.out.lt;have z4:=T4.out.lt;clear b4))
    go_ret
    exact⟨rfl,B4.out⟩
  ·rw[if_neg q1]at hr;have k1:(t.kind == 1)=false:=by simpa using q1
   clear q1;by_cases q4:t.kind=2
   ·rw[if_pos q4]at hr;have k3:(t.kind == 2)=true:=by rw[q4];rfl
    clear q4;have HR:=hid hr;clear hr;go_enter Tryz.func264,Tryz.ntmps264
    go_wp2_with (first|(refine wpList_load_mid rfl 31 _ rfl w.heap.size 0 rfl _ _ HRS.out Tryz.underlying31 rfl (by kernel_rfl) ?_)|(go_at_call 82;refine(HSF.out _).mono ?_;rintro e w3 ⟨rfl,b3⟩;have S3:=hid (HS.out.below b3);have T3:=hid (HT.out.below b3);have B3:=hid (HB.out.trans (b3.mono HB.out.size));have z1:=S3.out.lt;have z2:=T3.out.lt;have y0:=T3.out.c0;have y1:=T3.out.c1;have y2:=T3.out.c2;have y3:=T3.out.c3;clear b3)|(go_at_call 35;refine(HIN.out _).mono ?_;rintro e w' ⟨rfl,rfl⟩))
    clear v0 v1 v2 v3;have u0:=cell_regrown S3.out.c0;have u1:=cell_regrown S3.out.c1;have u2:=cell_regrown S3.out.c2;have u3:=cell_regrown S3.out.c3;have u4:=cell_regrown S3.out.c4;have u5:=cell_regrown S3.out.c5;have u6:=cell_regrown S3.out.c6;have u7:=cell_regrown S3.out.c7;have u8:=cell_regrown S3.out.c8;have v0:=cell_regrown T3.out.c0;have v1:=cell_regrown T3.out.c1;have v2:=cell_regrown T3.out.c2;have v3:=cell_regrown T3.out.c3;have QA:=hid (AF (w:=w3) (fun W _ => HA.out W));have QI:=hid (Bc (w:=w3) (fun W => HIG.out W));have T5:=T3;cases hg:Aj t.group 0 (al - 1)with
    |false =>
     rw[hg]at QI;have e1:r=3:=by rw[← HR.out,hg];rfl
     subst e1;clear hg
     (refine wp_region_quiet_below (by kernel_rfl) (by kernel_rfl) ?_;(repeat(first|go_big_quiet_step (first|(go_at_call 37;exact QA.out _ _)|(go_at_call 35;exact QI.out _ _))|quiet_step (first|(go_at_call 37;exact QA.out _ _)|(go_at_call 35;exact QI.out _ _))));refine wpQuiet_nil ?_)
     rintro _ ⟨⟨dq,osq⟩,rfl⟩;have BQ:=hid (B3.out.trans ((below_regrown _ dq osq).mono B3.out.size));go_wp2_with fail
     go_ret
     exact⟨rfl,BQ.out⟩
    |true =>
     rw[hg]at QI;have HR2:=hid (show(if t.name=⟨#[]⟩then(0:Int)else 1)=r from by rw[← HR.out,hg];rfl);clear hg
     (refine wp_region_quiet_below (by kernel_rfl) (by kernel_rfl) ?_;(repeat(first|go_big_quiet_step (first|(go_at_call 37;exact QA.out _ _)|(go_at_call 35;exact QI.out _ _))|quiet_step (first|(go_at_call 37;exact QA.out _ _)|(go_at_call 35;exact QI.out _ _))));refine wpQuiet_nil ?_)
     rintro _ ⟨⟨dq,osq⟩,rfl⟩;have BQ:=hid (B3.out.trans ((below_regrown _ dq osq).mono B3.out.size));have TQ:=hid (T5.out.below (below_regrown _ dq osq));have x2:=TQ.out.c2;have z5:=TQ.out.lt;by_cases q5:t.name=⟨#[]⟩
     ·have e1:r=0:=by rw[← HR2.out,if_pos q5]
      subst e1;have x1:=Fr (b:=⟨#[]⟩) q5;have x2n:t.name.toList.isEmpty=true:=by rw[q5];simp
      clear q5;go_wp2_with fail
      go_ret
      exact⟨rfl,BQ.out⟩
     ·have e1:r=1:=by rw[← HR2.out,if_neg q5]
      subst e1;have x1:=DM (b:=⟨#[]⟩) q5;have x2n:t.name.toList.isEmpty=false:=GA q5;clear q5;go_wp2_with fail
      go_ret
      exact⟨rfl,BQ.out⟩
   ·rw[if_neg q4]at hr;have k2:(t.kind == 2)=false:=by simpa using q4
    subst hr;clear q4;go_enter Tryz.func264,Tryz.ntmps264
    go_wp2_with (first|(refine wpList_load_mid rfl 31 _ rfl w.heap.size 0 rfl _ _ HRS.out Tryz.underlying31 rfl (by kernel_rfl) ?_)|(go_at_call 82;refine(HSF.out _).mono ?_;rintro e w3 ⟨rfl,b3⟩;have S3:=hid (HS.out.below b3);have T3:=hid (HT.out.below b3);have B3:=hid (HB.out.trans (b3.mono HB.out.size));have z1:=S3.out.lt;have z2:=T3.out.lt;have y0:=T3.out.c0;have y1:=T3.out.c1;have y2:=T3.out.c2;have y3:=T3.out.c3;clear b3)|(go_at_call 35;refine(HIN.out _).mono ?_;rintro e w' ⟨rfl,rfl⟩))
    go_ret
    exact⟨rfl,B3.out⟩
structure CG (W:World) (p o:Nat) (d:AJ) (A0 A1 A2:Option Addr) (c0 c1 c2:Nat) (f0 f1 f2:List Addr):Prop where
 k0:W.cell? ⟨p,o,none⟩=some (.slice A0 d.queues.length c0)
 k1:W.cell? ⟨p,o+1,none⟩=some (.slice A1 d.aside.length c1)
 k2:W.cell? ⟨p,o+2,none⟩=some (.slice A2 d.answers.length c2)
 k3:W.cell? ⟨p,o+3,none⟩=some (int i64 d.turn)
 k4:W.cell? ⟨p,o+4,none⟩=some (int i64 d.next)
 lt:p<W.heap.size
 r0:rSl 1 (Ai 4 Af) W f0 (.slice A0 d.queues.length c0) d.queues
 r1:rSl 4 Af W f1 (.slice A1 d.aside.length c1) d.aside
 r2:rSl 4 Am W f2 (.slice A2 d.answers.length c2) d.answers
theorem CG.below {W W':World} {p o:Nat} {d:AJ} {A0 A1 A2:Option Addr} {c0 c1 c2:Nat} {f0 f1 f2:List Addr}(h:CG W p o d A0 A1 A2 c0 c1 c2 f0 f1 f2)(hb:Below W.heap.size W W'):CG W' p o d A0 A1 A2 c0 c1 c2 f0 f1 f2 :=
 ⟨(hb.cell (p:=⟨p,o,none⟩) h.lt).trans h.k0,(hb.cell (p:=⟨p,o+1,none⟩) h.lt).trans h.k1,(hb.cell (p:=⟨p,o+2,none⟩) h.lt).trans h.k2,(hb.cell (p:=⟨p,o+3,none⟩) h.lt).trans h.k3,(hb.cell (p:=⟨p,o+4,none⟩) h.lt).trans h.k4,Nat.lt_of_lt_of_le h.lt hb.size,
  rSl.below (Ai.local_ Af.local_) (Ai.fixed Af.fixed) h.r0 hb,rSl.below Af.local_ Af.fixed h.r1 hb,rSl.below Am.local_ Am.fixed h.r2 hb⟩
theorem Ao.tks {E:TypeId} {w:World} {base:Nat} {v:Value} {ds:List An} {fs:List Addr}(h:Ao 4 E Af w base v ds fs):fs= []:=by
 obtain⟨css,fss,h1,h2,rfl,h4,h5,h6⟩:=h;refine List.flatten_eq_nil_iff.2 fun l hl => ?_
 obtain⟨i,hi,rfl⟩:=List.getElem_of_mem hl;obtain⟨_,_,_,p4⟩:=h5 i (by omega);exact p4.2.1
theorem Tryz.infoTk:(Tryz.prog.info? 242).map (fun i =>(i.zero,i.size,i.bytes))=some (some (.agg #[int i64 0,int i64 0,.string ⟨#[]⟩,int i64 0]),4,40):=by kernel_rfl
theorem G0 {wr:World} {base:Nat} {v:Value} {ds ds2:List An}(ho:Ao 4 242 Af wr base v ds [])(hbase:base≤wr.heap.size) {u:Value} {gs:List Addr}(hr:rSl 4 Af wr gs u ds2)(hf:∀a,a∈gs→a.block<base)(hn:ds.length+ds2.length≤1000000000) :
  ∃v' w',(Builtin.append_ #[57,57] 57 #[v,u]).run Tryz.prog wr= .ok v' w'∧∃A c,v'= .slice A (ds.length+ds2.length) c∧Ao 4 242 Af w' base v' (ds ++ ds2) []∧Below base wr w'∧base≤w'.heap.size:=by
 obtain⟨v',w',q1,h,q2,-,q4,-⟩:=Ao.appendRun (P:=Tryz.prog) 57 57 (.agg #[int i64 0,int i64 0,.string ⟨#[]⟩,int i64 0]) 40 Tryz.underlying57 Tryz.infoTk rfl (by decide) Af.local_ Af.fixed Af.ones base v ds [] ho u ds2 gs hr (fun a ha e => by
  have:=(ho.lt _ e).1;have:=hf a ha;omega) hn (by omega) hbase
 have hnil:=q2.tks;rw[hnil]at q2;obtain⟨A,c,e,-⟩:=q2.length;refine⟨v',w',q1,A,c,by rw[e,List.length_append],q2,Below.grown (Below.refl _ _) q4 hbase (fun k hk =>(ho.lt k hk).1),Nat.le_trans hbase q4.size⟩
theorem FA(p o:Nat)(d:AJ)(A0 A1 A2:Option Addr)(c0 c1 c2:Nat)(f0 f1 f2:List Addr)(w:World)(h:CG w p o d A0 A1 A2 c0 c1 c2 f0 f1 f2)(hsm:(AN d).length≤1000000) :
  Calls Tryz.prog 117 #[.pointer (some ⟨p,o,none⟩)] w fun e w' =>∃A c gs,e= .returned (.slice A (AN d).length c)∧rSl 4 Af w' gs (.slice A (AN d).length c) (AN d)∧Below w.heap.size w w':=by
 have HH:=hid h;have HT0:=hid (show∀a,a∈f0→a.block<w.heap.size from rSl.there (Ai.fixed Af.fixed) h.r0);have HT1:=hid (show∀a,a∈f1→a.block<w.heap.size from rSl.there Af.fixed h.r1);have hlen:(AN d).length =d.queues.flatten.length+d.aside.length:=by unfold AN;rw[List.length_append]
 have HLEN:=hid hlen;have HSM:=hid hsm;obtain⟨nQ,hnQ⟩:∃nQ,d.queues.length=nQ:=⟨_,rfl⟩;have HNQ:=hid hnQ;obtain⟨g0,hg0⟩:∃g0,w.heap.size=g0:=⟨_,rfl⟩;have HG:=hid hg0;have hB1:Below w.heap.size w (w.alloc (.cells #[] 242)):=(Below.refl _ _).alloc (Nat.le_refl _) _;have HOS:=hid (show Ao 4 242 Af (w.alloc (.cells #[] 242)) g0 (.slice (some ⟨g0,0,none⟩) 0 0) [] []from Ao.start ⟨rfl,.inr ⟨g0,0,#[],rfl,Nat.le_refl _,by rw[← hg0];exact Blk.new w _ _,Nat.le_refl _,by unfold maxLen;omega,rfl,rfl⟩⟩);have HB1:=hid hB1;have hz:=h.lt;have p0:=h.k0;rw[hnQ]at p0;have HP0:=hid p0;clear h hlen hsm hnQ hB1;go_enter Tryz.func117,Tryz.ntmps117
 go_wp2_with fail
 try rw[hg0]
 try rw[hg0]at hz
 clear hg0 p0;go_loopw [4,3] (fun ix ov wr =>∃(i n c':Nat) (A':Option Addr),i≤nQ∧ix= int i64 i∧ov= .slice A' n c'∧Hid (n=(d.queues.take i).flatten.length)∧Hid (Ao 4 242 Af wr g0 (.slice A' n c') (d.queues.take i).flatten [])∧Hid (Below g0 w wr)∧Hid (g0≤wr.heap.size)) (fun ix _ _ => nQ - (intOf ix).toNat)
 case atStart => exact⟨0,0,0,some ⟨g0,0,none⟩,by omega,rfl,rfl,rfl,HOS.out,(show Below g0 w _ from by rw[← HG.out];exact HB1.out),(show g0≤_ from by rw[← HG.out];exact HB1.out.size)⟩
 case round =>
  clear HOS;obtain⟨i,n,c',A',hi,rfl,rfl,HN,HO,HB,HSZ⟩:=hrel;have HBW:=hid (show Below w.heap.size w wr by rw[HG.out];exact HB.out);have HW:=hid (HH.out.below HBW.out);have p0:=HW.out.k0;rw[HNQ.out]at p0;have p1:=HW.out.k1;have hz1:=HW.out.lt;by_cases hlt:i<nQ
  ·have hk:i<d.queues.length:=by rw[HNQ.out];exact hlt
   obtain⟨Ax,cx,ev,hc,hm,hx⟩:=rSl.at_ (Ai.fixed Af.fixed) (by decide) HW.out.r0;injection ev with ev1 _ ev3
   subst ev1 ev3;rw[HNQ.out]at hc;obtain⟨ad,b,oo,cs,fk,rfl,hat⟩:=hx i hk;have hpl:=hat.place;have hbl:=hat.lt;obtain⟨ve,hve,hrd⟩:=hat.reads;subst hve;obtain⟨Ae,ce,rfl,hmc,hmm⟩:=rSl.head hrd;have hpc:=hat.cell 0 (by simp);simp only[Nat.add_zero,List.getElem_cons_zero]at hpc;rw[Nat.mul_one]at hpl;have hki:(i:Int)<(nQ:Int):=by omega
   have hf:∀a,a∈fk→a.block<g0:=fun a ha => by rw[← HG.out];exact HT0.out a (hat.sub a ha)
   have HST:=hid (show(d.queues.take (i+1)).flatten =(d.queues.take i).flatten ++ d.queues[i] by rw[List.take_succ_eq_append_getElem hk,List.flatten_append];simp);have hsl:(d.queues.take i).flatten.length +d.queues[i].length≤1000000000:=by
    have h1:(d.queues.take (i+1)).flatten.length +(d.queues.drop (i+1)).flatten.length =d.queues.flatten.length:=by rw[← List.length_append,← List.flatten_append,List.take_append_drop]
    rw[HST.out,List.length_append]at h1;have:=HSM.out;have:=HLEN.out;omega
   have HAP:=hid (G0 HO.out HSZ.out hrd hf hsl);obtain⟨q,hq⟩:∃q,d.queues[i] =q:=⟨_,rfl⟩;rw[hq]at HAP HST hpc hmc;rw[← HN.out]at HAP;have HLN:=hid (show n+q.length=(d.queues.take (i+1)).flatten.length by rw[HST.out,List.length_append,HN.out]);clear hat hx hrd hf hsl hk hq HO p1;go_wp2_with (at_builtin;refine AQ rfl (.tmp 15) (.tmp 22) 57 rfl _ _ (by rfl) (by rfl) HAP.out ?_;rintro v9 w9 ⟨A9,c9,rfl,o9,b9,s9⟩;have O9:=hid o9;have B9:=hid b9;have S9:=hid s9;clear o9 b9 s9)
   go_roundw
   case rel => exact⟨i+1,n+q.length,c9,A9,by omega,by go_num,rfl,HLN.out,(show Ao _ _ _ _ _ _ _ _ from by rw[HST.out];exact O9.out),HB.out.trans B9.out,S9.out⟩
   case measure => simp[intOf];omega
  ·obtain rfl:i=nQ:=by omega
   have e1:(d.queues.take i).flatten =d.queues.flatten:=by rw[List.take_of_length_le (by rw[HNQ.out];exact Nat.le_refl _)]
   have HAP:=hid (G0 (ds2:=d.aside) HO.out HSZ.out HW.out.r1 (fun a ha => by rw[← HG.out];exact HT1.out a ha) (by rw[e1];have:=HSM.out;have:=HLEN.out;omega));rw[← HN.out,e1]at HAP;have HNN:=hid (show n+d.aside.length=(AN d).length by rw[HN.out,e1,HLEN.out]);clear e1 HO;go_wp2_with (at_builtin;refine AQ rfl (.tmp 24) (.tmp 28) 57 rfl _ _ (by rfl) (by rfl) HAP.out ?_;rintro v9 w9 ⟨A9,c9,rfl,o9,b9,s9⟩;have O9:=hid o9;have B9:=hid b9;clear o9 b9 s9)
   go_ret
   obtain⟨gs,r9,-⟩:=O9.out.reads;rw[HNN.out]at r9⊢;exact⟨A9,c9,_,rfl,r9,by rw[HG.out];exact HB.out.trans B9.out⟩
theorem Ly {α:Type} {f:α→Int} {l:List α} {x:Int} {k:Nat}(h:x∉(l.take k).map f)(hk:k<l.length)(hx:¬f l[k] =x):x∉(l.take (k+1)).map f:=by
 rw[List.take_succ_eq_append_getElem hk,List.map_append];intro hm;rcases List.mem_append.1 hm with h1|h1
 ·exact h h1
 ·simp at h1;exact hx h1.symm
theorem in_at {α:Type} {f:α→Int} {l:List α} {x:Int} {k:Nat}(hk:k<l.length)(hx:f l[k] =x):x∈l.map f:=hx ▸ List.mem_map_of_mem (List.getElem_mem hk)
theorem Hj(v:Value)(ds:List An)(x:Int)(f:List Addr)(w:World)(h:rSl 4 Af w f v ds) :
  Calls Tryz.prog 266 #[v,int i64 x] w fun e w' => e= .returned (.bool (decide (x∈ds.map An.id)))∧Below w.heap.size w w':=by
 obtain⟨A,c,rfl,hc,hm,hx⟩:=rSl.at_ Af.fixed (by omega) h;have HX:=hid hx;obtain⟨r,hr⟩:∃r,decide (x∈ds.map An.id)=r:=⟨_,rfl⟩;rw[hr];have HR:=hid hr;clear hx h hr;go_enter Tryz.func266,Tryz.ntmps266
 go_wp2_with fail
 go_loopw [5] (fun i wr =>∃j:Nat,j≤ds.length∧i= int i64 j∧Hid (x∉(ds.take j).map An.id)∧Hid (Below w.heap.size w wr)) (fun i _ => ds.length - (intOf i).toNat)
 case atStart => exact⟨0,by omega,rfl,(show x∉(ds.take 0).map An.id by simp),Below.refl _ _⟩
 case round =>
  obtain⟨j,hj,rfl,HS,HB⟩:=hrel;by_cases hlt:j<ds.length
  ·obtain⟨ad,b,o,cs,fk,rfl,hat⟩:=HX.out j hlt;have hat2:=hat.below Af.local_ HB.out;have hpl:=hat.place;have hbl:=hat2.lt;have p1:wr.cell? ⟨b,o,none⟩=some (int i64 ds[j].id):=by
    have:=hat2.cell 0 (by rw[hat2.len];omega);obtain⟨e,-⟩:=hat2.reads;simpa [e]using this
   have hki:(j:Int)<(ds.length:Int):=by omega
   clear hat hat2;by_cases q:ds[j].id =x
   ·have e1:r=true:=by rw[← HR.out];exact decide_eq_true (in_at hlt q)
    subst e1;have q1:(ds[j].id == x)=true:=Dc q;clear q;go_wp2_with fail
    go_ret
    exact⟨rfl,HB.out⟩
   ·have HS2:=hid (Ly HS.out hlt q);have q1:(ds[j].id == x)=false:=CB q;clear q;go_wp2_with fail
    go_roundw
    case rel => exact⟨j+1,by omega,by go_num,HS2.out,HB.out⟩
    case measure => simp[intOf];omega
  ·have e1:r=false:=by
    have:=HS.out;rw[List.take_of_length_le (by omega)]at this;rw[← HR.out];exact decide_eq_false this
   subst e1;go_wp2_with fail
   go_ret
   exact⟨rfl,HB.out⟩
def En(x:Int):Nat→List AK→Int
 |_,[] => -1
 |k,a :: r => if a.id=x then(k:Int)else En x (k+1) r
theorem Kz(x:Int):∀(k:Nat) (l:List AK),decide (0≤En x k l)=decide (x∈l.map AK.id)
 |_,[] => by simp[En]
 |k,a :: r => by
  unfold En;by_cases h:a.id=x
  ·rw[if_pos h,decide_eq_true (show(0:Int)≤(k:Int) by omega),decide_eq_true (by rw[List.map_cons,h];exact List.mem_cons_self ..)]
  ·rw[if_neg h,Kz x (k+1) r,List.map_cons];have h2:¬x=a.id:=fun e => h e.symm
   rw[Bool.eq_iff_iff];simp only[decide_eq_true_eq,List.mem_cons];exact⟨fun q => .inr q,fun q => q.resolve_left h2⟩
theorem Mh {x:Int} {l:List AK} {k:Nat}(hk:k<l.length):En x k (l.drop k)=if l[k].id =x then(k:Int)else En x (k+1) (l.drop (k+1)):=by
 rw[List.drop_eq_getElem_cons hk,En]
theorem Mm(v:Value)(ds:List AK)(x:Int)(f:List Addr)(w:World)(h:rSl 4 Am w f v ds) :
  Calls Tryz.prog 267 #[v,int i64 x] w fun e w' => e= .returned (int i64 (En x 0 ds))∧Below w.heap.size w w':=by
 obtain⟨A,c,rfl,hc,hm,hx⟩:=rSl.at_ Am.fixed (by omega) h;have HX:=hid hx;obtain⟨r,hr⟩:∃r,En x 0 ds=r:=⟨_,rfl⟩;rw[hr];have HR:=hid hr;clear hx h hr;go_enter Tryz.func267,Tryz.ntmps267
 go_wp2_with fail
 go_loopw [5] (fun i wr =>∃j:Nat,j≤ds.length∧i= int i64 j∧Hid (En x j (ds.drop j)=r)∧Hid (Below w.heap.size w wr)) (fun i _ => ds.length - (intOf i).toNat)
 case atStart => exact⟨0,by omega,rfl,HR.out,Below.refl _ _⟩
 case round =>
  obtain⟨j,hj,rfl,HS,HB⟩:=hrel;by_cases hlt:j<ds.length
  ·obtain⟨ad,b,o,cs,fk,rfl,hat⟩:=HX.out j hlt;have hat2:=hat.below Am.local_ HB.out;have hpl:=hat.place;have hbl:=hat2.lt;have p1:wr.cell? ⟨b,o,none⟩=some (int i64 ds[j].id):=by
    have:=hat2.cell 0 (by rw[hat2.len];omega);obtain⟨_,_,e,-⟩:=hat2.reads;simpa [e]using this
   have hki:(j:Int)<(ds.length:Int):=by omega
   have hst:=Mh (x:=x) hlt;rw[HS.out]at hst;have HST:=hid hst;clear hat hat2 hst;by_cases q:ds[j].id =x
   ·have e1:r=(j:Int):=by have:=HST.out;rwa [if_pos q]at this
    subst e1;have q1:(ds[j].id == x)=true:=Dc q;clear q;go_wp2_with fail
    go_ret
    exact⟨rfl,HB.out⟩
   ·have HS2:=hid (show En x (j+1) (ds.drop (j+1))=r from by have:=HST.out;rw[if_neg q]at this;exact this.symm);have q1:(ds[j].id == x)=false:=CB q;clear q;go_wp2_with fail
    go_roundw
    case rel => exact⟨j+1,by omega,by go_num,HS2.out,HB.out⟩
    case measure => simp[intOf];omega
  ·have e1:r= -1:=by
    have:=HS.out;rw[List.drop_of_length_le (by omega)]at this;exact this.symm
   subst e1;go_wp2_with fail
   go_ret
   exact⟨rfl,HB.out⟩
def Cf:Nat→List (List An)→Nat→Int
 |_,[],_ => -1
 |g,q :: r,k => if k<q.length then(g:Int)else Cf (g+1) r (k - q.length)
theorem GK:∀(g:Nat) (l:List (List An)) (m:List An) (k:Nat) (h:k<(Bd g l ++ m.map fun t =>(t,(-1:Int))).length),((Bd g l ++ m.map fun t =>(t,(-1:Int)))[k]).2=Cf g l k
 |g,[],m,k,h => by simp[Bd,Cf]
 |g,q :: r,m,k,h => by
  unfold Cf;by_cases h1:k<q.length
  ·rw[if_pos h1];simp only[Bd,List.append_assoc];rw[List.getElem_append_left (by simpa using h1)];simp
  ·rw[if_neg h1];simp only[Bd,List.append_assoc]at h⊢;rw[List.getElem_append_right (by simp;omega)];have:=GK (g+1) r m (k - q.length) (by simp at h⊢;omega);simpa using this
theorem Kl {l:List (List An)} {g k:Nat}(hg:g<l.length):Cf g (l.drop g) k=if k<l[g].length then(g:Int)else Cf (g+1) (l.drop (g+1)) (k - l[g].length):=by
 rw[List.drop_eq_getElem_cons hg,Cf]
theorem J6(p o:Nat)(d:AJ)(A0 A1 A2:Option Addr)(c0 c1 c2:Nat)(f0 f1 f2:List Addr)(k:Nat)(hk9:k≤1000000000)(w:World)(h:CG w p o d A0 A1 A2 c0 c1 c2 f0 f1 f2) :
  Calls Tryz.prog 265 #[.pointer (some ⟨p,o,none⟩),int i64 (k:Int)] w fun e w' => e= .returned (int i64 (Cf 0 d.queues k))∧Below w.heap.size w w':=by
 have HH:=hid h;obtain⟨nQ,hnQ⟩:∃nQ,d.queues.length=nQ:=⟨_,rfl⟩;have HNQ:=hid hnQ;obtain⟨r,hr⟩:∃r,Cf 0 d.queues k=r:=⟨_,rfl⟩;rw[hr];have HR:=hid hr;have p0:=h.k0;rw[hnQ]at p0;have hz:=h.lt;clear h hnQ hr;go_enter Tryz.func265,Tryz.ntmps265
 go_wp2_with fail
 clear p0;go_loopw [5,1] (fun ix kv wr =>∃(i m:Nat),i≤nQ∧m≤k∧ix= int i64 i∧kv= int i64 (m:Int)∧Hid (Cf i (d.queues.drop i) m=r)∧Hid (Below w.heap.size w wr)) (fun ix _ _ => nQ - (intOf ix).toNat)
 case atStart => exact⟨0,k,by omega,Nat.le_refl _,rfl,rfl,HR.out,Below.refl _ _⟩
 case round =>
  obtain⟨i,m,hi,hmk,rfl,rfl,HS,HB⟩:=hrel;have HW:=hid (HH.out.below HB.out);have p0:=HW.out.k0;rw[HNQ.out]at p0;have hz1:=HW.out.lt;by_cases hlt:i<nQ
  ·have hk:i<d.queues.length:=by rw[HNQ.out];exact hlt
   obtain⟨Ax,cx,ev,hc,hm,hx⟩:=rSl.at_ (Ai.fixed Af.fixed) (by decide) HW.out.r0;injection ev with ev1 _ ev3
   subst ev1 ev3;rw[HNQ.out]at hc;obtain⟨ad,b,oo,cs,fk,rfl,hat⟩:=hx i hk;have hpl:=hat.place;have hbl:=hat.lt;obtain⟨ve,hve,hrd⟩:=hat.reads;subst hve;obtain⟨Ae,ce,rfl,hmc,hmm⟩:=rSl.head hrd;have hpc:=hat.cell 0 (by simp);simp only[Nat.add_zero,List.getElem_cons_zero]at hpc;rw[Nat.mul_one]at hpl;have hki:(i:Int)<(nQ:Int):=by omega
   have hst:=Kl (k:=m) hk;rw[HS.out]at hst;have HST:=hid hst;obtain⟨q,hq⟩:∃q,d.queues[i].length =q:=⟨_,rfl⟩;rw[hq]at HST hpc hmc;clear hat hx hrd hk hq hst;by_cases hlt2:m<q
   ·have hq1:(m:Int)<(q:Int):=by omega
    have e1:r=(i:Int):=by have:=HST.out;rwa [if_pos hlt2]at this
    subst e1;go_wp2_with fail
    go_ret
    exact⟨rfl,HB.out⟩
   ·have hq1:¬(m:Int)<(q:Int):=by omega
    have HS2:=hid (show Cf (i+1) (d.queues.drop (i+1)) (m - q)=r from by have:=HST.out;rw[if_neg hlt2]at this;exact this.symm);have HE:=hid (show(m:Int) - (q:Int)=((m - q:Nat):Int) by omega);go_wp2_with fail
    go_roundw
    case rel => exact⟨i+1,m - q,by omega,by omega,by go_num,by rw[HE.out],HS2.out,HB.out⟩
    case measure => simp[intOf];omega
  ·obtain rfl:i=nQ:=by omega
   have e1:r= -1:=by
    have:=HS.out;rw[List.drop_of_length_le (by rw[HNQ.out];exact Nat.le_refl _)]at this;exact this.symm
   subst e1;go_wp2_with fail
   go_ret
   exact⟨rfl,HB.out⟩
end Go.Proofs.YtfjkoifpdoemdaaGreat
