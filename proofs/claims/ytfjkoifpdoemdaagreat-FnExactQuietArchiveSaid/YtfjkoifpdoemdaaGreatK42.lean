/-
  Part 42 of the proof; the last part states and proves the statement.
-/
import Derived.Test.YtfjkoifpdoemdaaGreatK40
import Derived.Test.YtfjkoifpdoemdaaGreatK41
set_option maxHeartbeats 8000000
set_option maxRecDepth 100000
set_option linter.unusedVariables false
set_option linter.unusedSimpArgs false
namespace Go.Proofs.YtfjkoifpdoemdaaGreat
open Go.RowKit Go.Lib Go.Sort
theorem Mj {out:List Ag} {r x:Ag}:x∈Ig out r↔x∈out∨x=r:=by
 have h:=List.takeWhile_append_dropWhile (p:=AZ r) (l:=out.reverse);unfold Ig;simp only[List.mem_append,List.mem_reverse,List.mem_cons];constructor
 ·rintro(h1|h1|h1)
  ·exact .inl (List.mem_reverse.1 (h ▸ List.mem_append_right _ h1))
  ·exact .inr h1
  ·exact .inl (List.mem_reverse.1 (h ▸ List.mem_append_left _ h1))
 ·rintro(h1|h1)
  ·have:=List.mem_reverse.2 h1;rw[← h]at this;rcases List.mem_append.1 this with h2|h2
   ·exact .inr (.inr h2)
   ·exact .inl h2
  ·exact .inr (.inl h1)
theorem Fa:∀(n:Nat) (l:List Ag),l.length=n→∀x,x∈Br l→x∈l
 |0,l,hl,x,h => by
  obtain rfl:=List.eq_nil_of_length_eq_zero hl;exact h
 |n+1,l,hl,x,h => by
  obtain⟨l',r,rfl⟩:∃l' r,l=l' ++ [r]:=⟨l.dropLast,l.getLast (by intro e;rw[e]at hl;simp at hl),(List.dropLast_concat_getLast _).symm⟩;rw[List.length_append]at hl;rw[E7]at h;unfold Gn at h;split at h
  ·exact List.mem_append_left _ (Fa n l' (by simpa using hl) x h)
  ·rcases Mj.1 h with h|h
   ·exact List.mem_append_left _ (Fa n l' (by simpa using hl) x h)
   ·rw[h];simp
theorem Gv {s:Sh}:∀ {l:List Ag},AX s l=0→∀r,r∈l→Az s r=0
 | [],_,r,hr => by cases hr
 |x :: l,h,r,hr => by
  unfold AX at h;split at h
  ·rename_i h0
   rcases List.mem_cons.1 hr with rfl|hr
   ·exact h0
   ·exact Gv h r hr
  ·rename_i h0;exact absurd h h0
theorem I1 {s:Sh} {r:Ag}(h:Az s r=0)(hk:r.kind=2):CX s r=true:=by
 by_cases hm:CX s r=true
 ·exact hm
 ·have e:AT s r=3:=by unfold AT;rw[if_neg (by omega),if_pos hk,if_neg hm]
  unfold Az at h;rw[if_pos (by rw[hk];rfl),e]at h;split at h <;> simp at h
theorem recs_okQ {d:AC}(h:AI d=0):∀r,r∈CJ d→Az d.s.sh r=0:=by
 unfold AI at h;by_cases hs:shB d.s.sh=true
 ·rw[if_pos hs]at h;by_cases hb:(Bo d.s.sh d.g && (onB d.s.sh d.on d.down && decide (d.v.length=2)))=true
  ·rw[if_pos hb]at h;have hc:Bj d.s.sh d.v=0:=by
    by_cases hc:Bj d.s.sh d.v=0
    ·exact hc
    ·rw[if_neg hc]at h;exact h
   unfold Bj at hc;by_cases hm:d.v.any (fun t => decide (200<t.recs.length))=true
   ·rw[if_pos hm]at hc;exact absurd hc (by decide)
   ·rw[if_neg hm]at hc;have hf:AX d.s.sh (d.v.flatMap AS.recs)=0:=by
     by_cases hf:AX d.s.sh (d.v.flatMap AS.recs)=0
     ·exact hf
     ·rw[if_neg hf]at hc;exact hc
    exact Gv hf
  ·rw[if_neg hb]at h;exact absurd h (by decide)
 ·rw[if_neg hs]at h;exact absurd h (by decide)
theorem Ie {d:AC}(h:AI d=0):∀r,r∈AV d→Az d.s.sh r=0:=fun r hr => recs_okQ h r (Fa _ _ rfl r hr)
theorem FL {s:Sh} {r:Ag}(h:Az s r=0)(hk:r.kind=1):BY r.name.data.toList=true∧BP s r=true:=by
 by_cases hn:BY r.name.data.toList=true
 ·by_cases hm:BP s r=true
  ·exact⟨hn,hm⟩
  ·have e:AT s r=3:=by unfold AT;rw[if_pos hk,if_pos hn,if_neg hm]
   unfold Az at h;rw[if_pos (by rw[hk];rfl),e]at h;split at h <;> simp at h
 ·have e:AT s r=5:=by unfold AT;rw[if_pos hk,if_neg hn]
  unfold Az at h;rw[if_pos (by rw[hk];rfl),e]at h;split at h <;> simp at h
theorem Lw {nm:ByteArray}(h:BY nm.data.toList=true):nm.size≤8:=by
 unfold BY at h;simp only[Bool.and_eq_true,decide_eq_true_eq]at h;have h2:=h.2.2;simp at h2;exact h2
theorem Ms {d:AC}(h:AI d=0):∀r,r∈AV d→r.name.size≤1000000:=fun r hr => by
 have h1:=Ie h r hr;by_cases hk:r.kind=1
 ·have:=Lw (FL h1 hk).1;omega
 ·have hz:r.name=⟨#[]⟩:=by
   unfold Az at h1;split at h1
   ·split at h1
    ·split at h1
     ·split at h1
      ·rename_i hr
       unfold Dp at hr;rw[if_neg hk]at hr;split at hr
       ·simp only[decide_eq_true_eq]at hr;exact hr.1
       ·split at hr
        ·simp only[decide_eq_true_eq]at hr;exact hr.1
        ·simp only[decide_eq_true_eq]at hr;exact hr.1
      ·simp at h1
     ·rename_i h2;exact absurd h1 h2
    ·simp at h1
   ·simp at h1
  rw[hz];exact Nat.zero_le _
theorem Ip {s:Sh} {r:Ag}(h:Az s r=0)(hk:r.kind=4):Bt s r=true:=by
 by_cases hm:Bt s r=true
 ·exact hm
 ·have e:AT s r=3:=by unfold AT;rw[if_neg (by omega),if_neg (by omega),if_neg (by omega),if_neg hm]
  unfold Az at h;rw[if_pos (by rw[hk];rfl),e]at h;split at h <;> simp at h
theorem LG {s:Sh} {r:Ag}(h:Az s r=0)(hk:r.kind=1):r.delta= []:=by
 unfold Az at h;split at h
 ·split at h
  ·split at h
   ·split at h
    ·rename_i hr
     unfold Dp at hr;rw[if_pos hk]at hr;simp only[decide_eq_true_eq]at hr;exact hr.2.2
    ·simp at h
   ·rename_i h2;exact absurd h h2
  ·simp at h
 ·simp at h
theorem E0 {d:AC}(h:AI d=0):d.s.sh.Ok∧Bo d.s.sh d.g=true∧d.v.length=2∧(CJ d).length≤400:=by
 have hs:=Ga h;unfold AI at h;rw[if_pos hs]at h;by_cases hb:(Bo d.s.sh d.g && (onB d.s.sh d.on d.down && decide (d.v.length=2)))=true
 ·rw[if_pos hb]at h;have hc:Bj d.s.sh d.v=0:=by
   by_cases hc:Bj d.s.sh d.v=0
   ·exact hc
   ·rw[if_neg hc]at h;exact h
  simp only[Bool.and_eq_true,decide_eq_true_eq]at hb;obtain⟨h1,-,h2⟩:=hb;refine⟨Cv hs,h1,h2,?_⟩;unfold Bj at hc;by_cases hm:d.v.any (fun t => decide (200<t.recs.length))=true
  ·rw[if_pos hm]at hc;exact absurd hc (by decide)
  ·match hl:d.v,h2 with
   | [a,b],_ =>
    rw[hl]at hm;simp only[List.any_cons,List.any_nil,Bool.or_false,Bool.or_eq_true,decide_eq_true_eq,not_or]at hm;unfold CJ;rw[hl];simp only[List.flatMap_cons,List.flatMap_nil,List.append_nil,List.length_append];omega
 ·rw[if_neg hb]at h;exact absurd h (by decide)
theorem Ky {d:AC}(h:AI d=0) {g:Nat}(hg:g<d.g.length):(Bi d g).length≤5∧∀dr,dr∈Bi d g→0<dr.blocks.length:=by
 obtain⟨hok,hb,-,-⟩:=E0 h;unfold Bo at hb;simp only[Bool.and_eq_true,decide_eq_true_eq,List.all_eq_true]at hb;have h1:CP d.s.sh (Bi d g)=true:=by
  have e:Bi d g=d.g[g]:=by simp[Bi,List.getD_eq_getElem?_getD,hg]
  rw[e];exact hb.2 _ (List.getElem_mem hg)
 unfold CP at h1;simp only[Bool.and_eq_true,decide_eq_true_eq,List.all_eq_true]at h1;have hd:=hok.data;have hsp:=hok.p;have hr:=hok.rows;refine⟨by omega,fun dr hdr => ?_⟩;have h2:=h1.2 dr hdr;unfold CC at h2;simp only[Bool.and_eq_true,decide_eq_true_eq]at h2;omega
theorem Jl {d:AC}(h:AI d=0):Ez d∧DrvOk d:=by
 obtain⟨hok,hb,ht,hsm⟩:=E0 h;have hrows:d.s.sh.rows=d.s.rows:=rfl;have hd3:=hok.data;have hitem:∀r,r∈AV d→r.kind=1→(r.length≠ -1→CD d.s.sh r.length=true)∧(∀k,k∈r.rows→0≤k∧k<d.s.rows)∧r.rows.length≤100∧r.data.length≤1000∧r.delta.length=0:=fun r hr hk => by
  have h0:=Ie h r hr;obtain⟨-,hi⟩:=FL h0 hk;have hde:r.delta.length=0:=by rw[LG h0 hk];rfl
  unfold BP at hi;by_cases hl:r.length= -1
  ·rw[if_pos hl]at hi;simp only[Bool.and_eq_true,decide_eq_true_eq]at hi;refine⟨fun q => absurd hl q,fun k hk2 => ?_,by omega,by omega,hde⟩;rw[List.length_eq_zero_iff.1 hi.2]at hk2;cases hk2
  ·rw[if_neg hl]at hi;simp only[Bool.and_eq_true]at hi;obtain⟨hp,hi⟩:=hi;have hp0:=hp;unfold CD at hp;simp only[decide_eq_true_eq]at hp;have hp3:=(IJ hok hp.1).2 hp.2;by_cases q:0<r.data.length
   ·rw[if_pos q]at hi;simp only[Bool.and_eq_true,decide_eq_true_eq]at hi;refine⟨fun _ => hp0,fun k hk2 => ?_,by omega,by omega,hde⟩;rw[List.length_eq_zero_iff.1 hi.2]at hk2;cases hk2
   ·rw[if_neg q]at hi;simp only[Bool.and_eq_true,decide_eq_true_eq]at hi;obtain⟨hrr,ha⟩:=hi;unfold CV at ha;simp only[decide_eq_true_eq]at ha;refine⟨fun _ => hp0,fun k hm => ?_,by omega,by omega,hde⟩;obtain⟨i,hi2,rfl⟩:=List.getElem_of_mem hm;have:=Bn (ha i hi2 hi2).1;omega
 refine⟨⟨hok,by omega,Ms h,fun r hr hk =>(hitem r hr hk).2.1,fun r hr hk => ?_,fun r hr hk hl =>(hitem r hr hk).1 hl,fun r hr hk => ?_⟩,⟨ht,fun r hr hk =>(hitem r hr hk).2.2.1,?_,fun g hg => ?_,fun g hg =>(Ky h hg).2⟩⟩
 ·have h0:=Ie h r hr;rcases hk with hk|hk
  ·have h1:=I1 h0 hk;unfold CX at h1;simp only[Bool.and_eq_true]at h1;have:=Bn h1.2.1;omega
  ·have h1:=Ip h0 hk;unfold Bt at h1;simp only[Bool.and_eq_true]at h1;have:=Bn h1.2.1;omega
 ·obtain⟨-,-,h1,h2,h3⟩:=hitem r hr hk;exact⟨by omega,by omega,by omega⟩
 ·unfold Bo at hb;simp only[Bool.and_eq_true,decide_eq_true_eq]at hb;have e1:d.s.sh.g=d.s.g:=rfl;have:=hok.c.1;omega
 ·have:=(Ky h hg).1;omega
noncomputable def EI (d:AY):Bool:=decide (C3 (d.desk.next - 1) d=0) && Ds d
theorem G1 {hi:Int} {d:AY}(h:C3 hi d=0):AI d.world=0∧BA hi d.world.s.sh d.desk=0:=by
 unfold C3 at h;by_cases q:AI d.world=0
 ·rw[if_pos q]at h;by_cases q2:BA hi d.world.s.sh d.desk=0
  ·exact⟨q,q2⟩
  ·rw[if_neg q2]at h;exact absurd h q2
 ·rw[if_neg q]at h;exact absurd h q
theorem KK {d:AY}(ho:okI d.desk.next):C3 (IntKind.i64.wrap (d.desk.next - 1)) d=0↔C3 (d.desk.next - 1) d=0:=by
 unfold C3;by_cases q:AI d.world=0
 ·rw[if_pos q,if_pos q];by_cases q2:BA (d.desk.next - 1) d.world.s.sh d.desk=0
  ·rw[if_pos q2,if_pos ((Hb ho).2 q2)]
  ·have q3:¬BA (IntKind.i64.wrap (d.desk.next - 1)) d.world.s.sh d.desk=0:=fun e => q2 ((Hb ho).1 e)
   rw[if_neg q2,if_neg q3];exact⟨fun e => absurd e q3,fun e => absurd e q2⟩
 ·rw[if_neg q,if_neg q]
theorem Kv {W:World} {p:Nat} {T:TypeId} {f1:List Addr} {c1 c2:List Value} {d:AC}(K:Blk W p T (c1 ++ c2).toArray)(h:AB W f1 c1 d):AtW W p f1 d :=
 ⟨c1,h,fun q hq => by rw[K.cell,List.getElem?_toArray,List.getElem?_append_left hq];exact List.getElem?_eq_getElem hq,K.lt⟩
theorem AE.next {w:World} {f:List Addr} {cs:List Value} {d:AY}(h:AE w f cs d):okI d.desk.next∧cs.length=20:=by
 obtain⟨c1,c2,f1,f2,rfl,-,hw,hd⟩:=h.parts;have h1:=AB.wide _ _ _ _ hw;have h2:=AO.wide _ _ _ _ hd;obtain⟨v0,v1,v2,g0,g1,g2,e,ef,o0,o1,r0,r1,r2⟩:=hd;exact⟨o1,by rw[List.length_append];omega⟩
theorem F4(d:AY)(cs:List Value)(f:List Addr)(w:World)(h:AE w f cs d) :
  Calls Tryz.prog 22 #[.agg cs.toArray] w fun e w' => e= .returned (.bool (EI d))∧Below w.heap.size w w':=by
 obtain⟨hok,hlen⟩:=h.next;have hB:Below w.heap.size w (w.alloc (.cells cs.toArray 62)):=Ah (Below.refl _ _) _;have K1:Blk (w.alloc (.cells cs.toArray 62)) w.heap.size 62 cs.toArray:=Blk.new w _ _;have h1:=Ap.below AE.local_ AE.fixed h hB;have HAF:=hid (F3 d cs f _ h1);have HRG:=hid (Blk.rangeAll K1);have HI:=hid (show(Tryz.prog.info? 62).map (·.size)=some cs.length by rw[hlen];kernel_rfl);have HB:=hid hB;have HK:=hid K1;obtain⟨ac,hac⟩:∃ac,C3 (d.desk.next - 1) d=ac:=⟨_,rfl⟩;rw[hac]at HAF;have hq:EI d=(decide (ac=0) && Ds d):=by
  unfold EI;rw[← hac];all_goals rfl
 rw[hq];have HQT:=hid (show ac=0→∀W,Below (w.alloc (.cells cs.toArray 62)).heap.size (w.alloc (.cells cs.toArray 62)) W→Calls Tryz.prog 67 #[.pointer (some ⟨w.heap.size,0,none⟩)] W (fun e w' => e= .returned (.bool (Ds d))∧Below W.heap.size W w')from fun e W hW => by
  rw[← hac]at e;obtain⟨e1,e2⟩:=G1 e;obtain⟨q1,q2⟩:=Jl e1;obtain⟨c1,c2,f1,f2,rfl,-,hw,hd⟩:=h1.parts;have K:=K1.below hW K1.lt;exact J0 d w.heap.size f1 W (Kv K (Ap.below AB.local_ AB.fixed hw hW)) (CG.ofArc K (AB.wide _ _ _ _ hw) (Ap.below AO.local_ AO.fixed hd hW)) (Ee q1.ok e2) q1 q2)
 clear h h1 hok hB K1 hac hq hlen;by_cases q0:ac=0
 ·subst q0;have HQ2:=hid (HQT.out rfl);clear HQT;go_enter Tryz.func22,Tryz.ntmps22
  go_wp2_with (first
   |(refine wpList_load_mid rfl 62 _ rfl w.heap.size 0 rfl cs _ HRG.out Tryz.underlying62 rfl HI.out ?_)
   |(go_at_call 66;refine HAF.out.mono ?_;rintro e w3 ⟨rfl,b3⟩;have HQ3:=hid (HQ2.out w3 b3);have B3:=hid (HB.out.trans (b3.mono HB.out.size));clear b3)
   |(go_at_call 67;refine HQ3.out.mono ?_;rintro e w4 ⟨rfl,b4⟩;have B4:=hid (B3.out.trans (b4.mono B3.out.size));clear b4))
  go_ret
  exact⟨by simp,B4.out⟩
 ·have hb:(ac == 0)=false:=by simpa using q0
  have hd:decide (ac=0)=false:=decide_eq_false q0;rw[hd];clear HQT hd;go_enter Tryz.func22,Tryz.ntmps22
  go_wp2_with (first
   |(refine wpList_load_mid rfl 62 _ rfl w.heap.size 0 rfl cs _ HRG.out Tryz.underlying62 rfl HI.out ?_)
   |(go_at_call 66;refine HAF.out.mono ?_;rintro e w3 ⟨rfl,b3⟩;have B3:=hid (HB.out.trans (b3.mono HB.out.size));clear b3))
  go_ret
  exact⟨rfl,B3.out⟩
theorem Gc(d:AY)(cs:List Value)(f:List Addr)(w:World)(h:AE w f cs d) :
  Calls Tryz.prog 20 #[.agg cs.toArray] w fun e w' => e= .returned (.bool (EI d))∧Below w.heap.size w w':=by
 obtain⟨hok,hlen⟩:=h.next;have hB:Below w.heap.size w (w.alloc (.cells cs.toArray 62)):=Ah (Below.refl _ _) _;have K1:Blk (w.alloc (.cells cs.toArray 62)) w.heap.size 62 cs.toArray:=Blk.new w _ _;have h1:=Ap.below AE.local_ AE.fixed h hB;have HAF:=hid (Gb d cs f _ h1);have HRG:=hid (Blk.rangeAll K1);have HI:=hid (show(Tryz.prog.info? 62).map (·.size)=some cs.length by rw[hlen];kernel_rfl);have HB:=hid hB;have HK:=hid K1;obtain⟨ac,hac⟩:∃ac,C3 (IntKind.i64.wrap (d.desk.next - 1)) d=ac:=⟨_,rfl⟩;rw[hac]at HAF;have hq:EI d=(decide (ac=0) && Ds d):=by
  unfold EI;rw[← hac];rw[decide_eq_decide.2 (KK hok)]
 rw[hq];have HQT:=hid (show ac=0→∀W,Below (w.alloc (.cells cs.toArray 62)).heap.size (w.alloc (.cells cs.toArray 62)) W→Calls Tryz.prog 64 #[.pointer (some ⟨w.heap.size,0,none⟩)] W (fun e w' => e= .returned (.bool (Ds d))∧Below W.heap.size W w')from fun e W hW => by
  rw[← hac]at e;obtain⟨e1,e2⟩:=G1 e;obtain⟨q1,q2⟩:=Jl e1;obtain⟨c1,c2,f1,f2,rfl,-,hw,hd⟩:=h1.parts;have K:=K1.below hW K1.lt;exact Kk d w.heap.size f1 W (Kv K (Ap.below AB.local_ AB.fixed hw hW)) (CG.ofArc K (AB.wide _ _ _ _ hw) (Ap.below AO.local_ AO.fixed hd hW)) (Ee q1.ok e2) q1 q2)
 clear h h1 hok hB K1 hac hq hlen;by_cases q0:ac=0
 ·subst q0;have HQ2:=hid (HQT.out rfl);clear HQT;go_enter Tryz.func20,Tryz.ntmps20
  go_wp2_with (first
   |(refine wpList_load_mid rfl 62 _ rfl w.heap.size 0 rfl cs _ HRG.out Tryz.underlying62 rfl HI.out ?_)
   |(go_at_call 63;refine HAF.out.mono ?_;rintro e w3 ⟨rfl,b3⟩;have HQ3:=hid (HQ2.out w3 b3);have B3:=hid (HB.out.trans (b3.mono HB.out.size));clear b3)
   |(go_at_call 64;refine HQ3.out.mono ?_;rintro e w4 ⟨rfl,b4⟩;have B4:=hid (B3.out.trans (b4.mono B3.out.size));clear b4))
  go_ret
  exact⟨by simp,B4.out⟩
 ·have hb:(ac == 0)=false:=by simpa using q0
  have hd:decide (ac=0)=false:=decide_eq_false q0;rw[hd];clear HQT hd;go_enter Tryz.func20,Tryz.ntmps20
  go_wp2_with (first
   |(refine wpList_load_mid rfl 62 _ rfl w.heap.size 0 rfl cs _ HRG.out Tryz.underlying62 rfl HI.out ?_)
   |(go_at_call 63;refine HAF.out.mono ?_;rintro e w3 ⟨rfl,b3⟩;have B3:=hid (HB.out.trans (b3.mono HB.out.size));clear b3))
  go_ret
  exact⟨rfl,B3.out⟩
end Go.Proofs.YtfjkoifpdoemdaaGreat
