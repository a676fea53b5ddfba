/-
  Part 35 of the proof; the last part states and proves the statement.
-/
import Derived.Test.YtfjkoifpdoemdaaGreatK25
import Derived.Test.YtfjkoifpdoemdaaGreatK10
import Derived.Test.YtfjkoifpdoemdaaGreatK13
import Derived.Test.YtfjkoifpdoemdaaGreatK33
import Derived.Test.YtfjkoifpdoemdaaGreatK32
import Derived.Test.YtfjkoifpdoemdaaGreatK26
import Derived.Test.YtfjkoifpdoemdaaGreatK34
set_option maxHeartbeats 8000000
set_option maxRecDepth 100000
set_option linter.unusedVariables false
set_option linter.unusedSimpArgs false
open Go.Value (int)
open Go.IntKind (i64)
namespace Go.Proofs.YtfjkoifpdoemdaaGreat
open Go.Shelf Go.RowKit Go.Lib Go.Sort
def cfS(x y:Ci):Int:=Do x.seq y.seq
theorem Fo {x y:Ci}:ltOf cfS x y=true↔x.seq<y.seq:=by
 unfold ltOf cfS Do;by_cases h:x.seq<y.seq
 ·simp[h]
 ·by_cases h2:y.seq<x.seq
  ·simp[h,h2]
  ·simp[h,h2]
theorem ltS_swo:SWO (ltOf cfS) where
 irrefl x:=by
  cases h:ltOf cfS x x with
  |false => rfl
  |true => rw[Fo]at h;omega
 trans x y z h1 h2:=by
  rw[Fo]at *;omega
 ntrans x y z h1 h2:=by
  cases h:ltOf cfS x z with
  |false => rfl
  |true =>
   exfalso
   rw[Fo]at h;have n1:¬x.seq<y.seq:=fun q => by rw[Fo.2 q]at h1;cases h1
   have n2:¬y.seq<z.seq:=fun q => by rw[Fo.2 q]at h2;cases h2
   omega
theorem In(x y:Ci)(w:World):Calls Tryz.prog 223 #[.agg (Bq x).toArray,.agg (Bq y).toArray] w fun e w' => e= .returned (int i64 (cfS x y))∧∃q os,w'=grow (w.drewN q) os:=by
 unfold Bq cfS;generalize slV x.rows=v1;generalize slV x.data=v2;generalize slV x.delta=v3;generalize slV y.rows=v4;generalize slV y.data=v5;generalize slV y.delta=v6;obtain⟨xk,xs,xn,xl,xg,xr,_,_,_,_⟩:=x;obtain⟨yk,ys,yn,yl,yg,yr,_,_,_,_⟩:=y;simp only;have HE:=hid (fun(a b:Obj) => show∃q os,(w.alloc a).alloc b=grow (w.drewN q) os from⟨0,#[a] ++ #[b],by rw[alloc_eq_grow w a,alloc_eq_grow (grow w #[a]) b,grow_grow];rfl⟩);have HC:=hid (fun W => EM xs ys W);go_enter Tryz.func223,Tryz.ntmps223
 go_wp2_with (go_at_call 214;refine(HC.out _).mono ?_;rintro e w' ⟨rfl,rfl⟩)
 go_ret
 exact⟨rfl,HE.out _ _⟩
theorem KQ(blk off size:Nat)(w:World):CmpLays Tryz.prog 223 #[] Bq 9 cfS blk off size w:=fun _ _ _ _ x y => In x y _
def Dg(groups g:Int)(x:Ag):Bool:=decide (x.data.length=0)||!decide (Cr groups x.name=g)
theorem Im(ks:Nat)(hks:ks=9)(zS:∀w,(Go.sizeOf 31).run Tryz.prog w= .ok ks w)(aS:∀w,(isAgg 31).run Tryz.prog w= .ok true w)(x:Ag)(cs:List Value)(f:List Addr)(p b1 b2:Nat)(fs:List Addr)(d:AC)(g:Int)(w:World)
  (hx:Ac w f cs x) (hn:x.name.size≤1000000) (hw:AtW w p fs d) (hok:d.s.sh.Ok) (h1:w.cell? ⟨b1,0,none⟩=some (.pointer (some ⟨p,0,none⟩))) (h2:w.cell? ⟨b2,0,none⟩=some (int i64 g)) :
  Calls Tryz.prog 221 #[.agg cs.toArray,.pointer (some ⟨b1,0,none⟩),.pointer (some ⟨b2,0,none⟩)] w fun e w' => e= .returned (.bool (Dg d.s.g g x))∧Below w.heap.size w w':=by
 obtain⟨A0,A1,A2,c0,c1,c2,f0,f1,f2,HCs⟩:=hw.cells;obtain⟨v0,v1,v2,g0,g1,g2,rfl,-,-,-,-,-,-,-,-,r1,-⟩:=hx;obtain⟨Ad,cd,rfl,-⟩:=rSl.head r1;obtain⟨nD,hnD⟩:∃nD,x.data.length=nD:=⟨_,rfl⟩;rw[hnD];obtain⟨WA,hWA⟩:∃WA,w.alloc (.cells #[int i64 x.kind,int i64 x.seq,.string x.name,int i64 x.length,int i64 x.group,int i64 x.row,v0,.slice Ad nD cd,v2] 119)=WA:=⟨_,rfl⟩;have hB:Below w.heap.size w WA:=by rw[← hWA];exact(Below.refl _ _).alloc (Nat.le_refl _) _
 have K:Blk WA w.heap.size 119 #[int i64 x.kind,int i64 x.seq,.string x.name,int i64 x.length,int i64 x.group,int i64 x.row,v0,.slice Ad nD cd,v2]:=by rw[← hWA];exact Blk.new w _ _
 have q2:=cell_regrown (w:=WA) (a:=⟨w.heap.size,2,none⟩) ((K.cell 2).trans rfl);have q7:=cell_regrown (w:=WA) (a:=⟨w.heap.size,7,none⟩) ((K.cell 7).trans rfl);have r1':=cell_regrown (w:=WA) ((hB.cell (p:=⟨b1,0,none⟩) (World.block_lt_of_cell? _ _ h1)).trans h1);have r2':=cell_regrown (w:=WA) ((hB.cell (p:=⟨b2,0,none⟩) (World.block_lt_of_cell? _ _ h2)).trans h2);have hW2:=hw.below hB;have lS:∀dd os,Sem.run Tryz.prog (loadCellsFrom ⟨p,0,none⟩ 0 ks #[]) (grow (redrawn WA dd) os)= .ok #[int i64 d.s.g,int i64 d.s.c,int i64 d.s.data,int i64 d.s.p,int i64 d.s.rows,int i64 d.s.cap,int i64 d.s.b,int i64 d.s.q,int i64 d.s.t] (grow (redrawn WA dd) os):=fun dd os => by
  obtain⟨A0',A1',A2',c0',c1',c2',f0',f1',f2',HC⟩:=(hW2.below (below_regrown WA dd os)).cells;exact HC.shapeRunQ ks hks
 have hho:=fun W => Jo d.s.sh hok x.name hn W
 unfold shV at hho;simp only[Ba.sh]at hho;have QH:=hid (AF (w:=WA) (fun W _ => hho W));obtain⟨rb,hrb⟩:∃rb,Dg d.s.g g x=rb:=⟨_,rfl⟩;rw[hrb];unfold Dg at hrb;rw[hnD]at hrb;have hks0:¬ks=0:=by omega
 have hks1:0<ks:=by omega
 have HB:=hid hB;have HRB:=hid hrb;have hnp:p<w.heap.size:=HCs.lt;clear HCs hw h1 h2 hB K hho hrb hks hnD r1 hW2;by_cases qd:nD=0
 ·have e1:rb=true:=by rw[← HRB.out];simp[qd]
  subst e1;subst qd;clear HRB;go_enter Tryz.func221,Tryz.ntmps221
  go_wp2_with fail
  (refine wp_region_quiet_below (by kernel_rfl) (by kernel_rfl) ?_;(repeat(first|go_big_quiet_step (first|(go_at_call 139;exact QH.out _ _))|quiet_step (first|(go_at_call 139;exact QH.out _ _))));refine wpQuiet_nil ?_)
  rintro _ ⟨⟨dq,osq⟩,rfl⟩;go_wp2_with fail
  go_ret
  exact⟨rfl,HB.out.trans ((below_regrown WA dq osq).mono HB.out.size)⟩
 ·have hd0:¬(nD:Int)=0:=by omega
  have hd1:((nD:Int) == 0)=false:=by simpa using qd
  by_cases qh:Cr d.s.g x.name=g
  ·have e1:rb=false:=by rw[← HRB.out];simp[qd,qh]
   subst e1;have hh:(Cr d.s.g x.name != g)=false:=by simpa using qh
   clear HRB qh;go_enter Tryz.func221,Tryz.ntmps221
   go_wp2_with fail
   (refine wp_region_quiet_below (by kernel_rfl) (by kernel_rfl) ?_;(repeat(first|go_big_quiet_step (first|(go_at_call 139;exact QH.out _ _))|quiet_step (first|(go_at_call 139;exact QH.out _ _))));refine wpQuiet_nil ?_)
   rintro _ ⟨⟨dq,osq⟩,rfl⟩;go_wp2_with fail
   go_ret
   exact⟨rfl,HB.out.trans ((below_regrown WA dq osq).mono HB.out.size)⟩
  ·have e1:rb=true:=by rw[← HRB.out];simp[qd,qh]
   subst e1;have hh:(Cr d.s.g x.name != g)=true:=by simpa using qh
   clear HRB qh;go_enter Tryz.func221,Tryz.ntmps221
   go_wp2_with fail
   (refine wp_region_quiet_below (by kernel_rfl) (by kernel_rfl) ?_;(repeat(first|go_big_quiet_step (first|(go_at_call 139;exact QH.out _ _))|quiet_step (first|(go_at_call 139;exact QH.out _ _))));refine wpQuiet_nil ?_)
   rintro _ ⟨⟨dq,osq⟩,rfl⟩;go_wp2_with fail
   go_ret
   exact⟨rfl,HB.out.trans ((below_regrown WA dq osq).mono HB.out.size)⟩
theorem Il(x:Ag)(cs:List Value)(f:List Addr)(p b1 b2:Nat)(fs:List Addr)(d:AC)(g:Int)(w:World)
  (hx:Ac w f cs x) (hn:x.name.size≤1000000) (hw:AtW w p fs d) (hok:d.s.sh.Ok) (h1:w.cell? ⟨b1,0,none⟩=some (.pointer (some ⟨p,0,none⟩))) (h2:w.cell? ⟨b2,0,none⟩=some (int i64 g)) :
  Calls Tryz.prog 221 #[.agg cs.toArray,.pointer (some ⟨b1,0,none⟩),.pointer (some ⟨b2,0,none⟩)] w fun e w' => e= .returned (.bool (Dg d.s.g g x))∧Below w.heap.size w w' :=
 Im 9 rfl Tryz.sizeOf31 Tryz.isAgg31 x cs f p b1 b2 fs d g w hx hn hw hok h1 h2
end Go.Proofs.YtfjkoifpdoemdaaGreat
namespace Go.Proofs.YtfjkoifpdoemdaaGreat
open Go.RowKit Go.Lib Go.Sort
theorem GD {P:Program} {fn:Func} {p u:Tmp} {ty:TypeId}(h:fn.results= #[.cell p ty,.tmp u])(tmps:Array Value)(w:World)(g:Nat)(t:TypeId)(cs:Array Value)(d:TypeDesc)(v2:Value)
  (hp:tmps.getD p undef= .pointer (some ⟨g,0,none⟩)) (hg:Blk w g t cs)
  (hu:P.underlying ty=some d) (hd:(match d with| .struct _| .array _ _ => true|_ => false)=true) (hi:(P.info? ty).map (·.size)=some cs.size)
  (hp2:tmps.getD u undef=v2) :
  (results fn tmps).run P w= .ok (.tuple #[.agg cs,v2]) w:=by
 have hp':tmps[p]?.getD undef= .pointer (some ⟨g,0,none⟩):=by simpa using hp
 have hp2':tmps[u]?.getD undef=v2:=by simpa using hp2
 simp[results,h,hp',hp2',asAddr,run_loadVar_row w g t ty cs (0,0) d hg hu hd hi]
def CF(s:Sh)(g:Int)(nf:Nat)(x:Ag):Bool:=!Dg s.g g x && decide (Bp s x.length≤(nf:Int))
def C4(d:AC)(g:Int)(L:List Ag):Bool:=L.any (CF d.s.sh g (CW d.s.rows.toNat (Ca d.s.g g L ++ Cy g (AV d))).length)
structure Ez (d:AC):Prop where
 ok:d.s.sh.Ok
 sm:(CJ d).length≤1000000
 nm:∀r,r∈AV d→r.name.size≤1000000
 r1:∀r,r∈AV d→r.kind=1→∀k,k∈r.rows→0≤k∧k<d.s.rows
 r2:∀r,r∈AV d→r.kind=2∨r.kind=4→0≤r.row∧r.row<d.s.rows
 pt:∀r,r∈AV d→r.kind=1→r.length≠ -1→CD d.s.sh r.length=true
 sz:∀r,r∈AV d→r.kind=1→r.rows.length≤1000000∧r.data.length≤1000000∧r.delta.length≤1000000
theorem BS.len {all L:List Ag}(h:BS all L):L.length≤all.length :=
 EV L all (h.sorted.imp (fun {a b} hab e => by subst e;exact Ea a hab)) fun x hx =>(DI ((h.mem x).1 hx)).1
theorem next_end {s:Sh} {g:Int} {nf:Nat} {L M:List Ag}(hp:M.Perm (L.filter fun x => !Dg s.g g x)):L.any (CF s g nf)=M.any fun x => decide (Bp s x.length≤(nf:Int)):=by
 rw[Bool.eq_iff_iff,List.any_eq_true,List.any_eq_true];constructor
 ·rintro⟨x,h1,h2⟩;unfold CF at h2;rw[Bool.and_eq_true]at h2;exact⟨x,hp.mem_iff.2 (List.mem_filter.2 ⟨h1,h2.1⟩),h2.2⟩
 ·rintro⟨x,h1,h2⟩;obtain⟨h3,h4⟩:=List.mem_filter.1 (hp.mem_iff.1 h1);exact⟨x,h3,by unfold CF;rw[Bool.and_eq_true];exact⟨h4,h2⟩⟩
theorem IX(ks:Nat)(hks:ks=9)(zS:∀w,(Go.sizeOf 31).run Tryz.prog w= .ok ks w)(aS:∀w,(isAgg 31).run Tryz.prog w= .ok true w)(p:Nat)(fs:List Addr)(d:AC)(g:Int)(w:World)(h:AtW w p fs d)(hR:Ez d) :
  Calls Tryz.prog 128 #[.pointer (some ⟨p,0,none⟩),int i64 g] w fun e w' =>∃(L:List Ag) (cs':List Value),BS (AV d) L∧e= .returned (.tuple #[.agg cs'.toArray,.bool (C4 d g L)])∧cs'.length=9∧(∀u,u∈cs'→u.oneCell'=true)∧Below w.heap.size w w':=by
 obtain⟨Z,hZ⟩:∃Z:Array Value,#[int i64 0,int i64 0,.string ⟨#[]⟩,int i64 0,int i64 0,int i64 0,.slice none 0 0,.slice none 0 0,.slice none 0 0] =Z:=⟨_,rfl⟩;obtain⟨g0,hg0⟩:∃g0,w.heap.size=g0:=⟨_,rfl⟩;obtain⟨W1,hW1⟩:∃W1,((w.alloc (.cells #[.pointer (some ⟨p,0,none⟩)] 82)).alloc (.cells #[int i64 g] 2)).alloc (.cells Z 119)=W1:=⟨_,rfl⟩;have hB1:Below g0 w W1:=by rw[← hW1,← hg0];exact Ah (Ah (Ah (Below.refl _ _) _) _) _
 have K2:Blk W1 g0 82 #[.pointer (some ⟨p,0,none⟩)]:=by rw[← hW1,← hg0];exact((Blk.new w _ _).alloc _).alloc _
 have K3:Blk W1 (g0+1) 2 #[int i64 g]:=by rw[← hW1,← hg0];exact(Blk.new1 w _ _ _).alloc _
 have K4:Blk W1 (g0+1+1) 119 Z:=by rw[← hW1,← hg0];exact Blk.new2 w _ _ _ _
 have HA:=hid (show∀W,Below g0 w W→AtW W p fs d from fun W hW => h.below (by rw[hg0];exact hW));have HN:=hid (newest_p p fs d W1 (HA.out W1 hB1) hR.sm hR.nm);have HR:=hid hR;have HB1:=hid hB1;have HK2:=hid K2;have HK3:=hid K3;have HK4:=hid K4;have HG:=hid hg0;have HZ:=hid hZ;have c2:W1.cell? ⟨g0,0,none⟩=some (.pointer (some ⟨p,0,none⟩)):=(K2.cell 0).trans rfl;have hdel:∀(w2:World) (L:List Ag) (gA c B:Nat),BS (AV d) L→W1.heap.size≤B→BU w2 B gA L.length (fun i => L[i]?)→L.length≤c→c≤9223372036854775807→Below W1.heap.size W1 w2→
   Calls Tryz.prog 220 #[.slice (some ⟨gA,0,none⟩) L.length c,.func (.func 221) #[] #[.pointer (some ⟨g0,0,none⟩),.pointer (some ⟨g0+1,0,none⟩)]] w2 fun e w' =>∃m,e= .returned (.slice (some ⟨gA,0,none⟩) m c)∧m=(L.filter fun x => !Dg d.s.g g x).length∧m≤L.length∧BU w' B gA m (fun i =>(L.filter fun x => !Dg d.s.g g x)[i]?)∧Below B w2 w':=fun w2 L gA c B hlv hB hrw hlc hcm b2 => by
  have hLl:L.length≤1000000:=Nat.le_trans (hlv.len) (Nat.le_trans (Dd d) hR.sm);refine Jk (Dg d.s.g g) _ _ c L w2 (enters_of Tryz.func221 (by kernel_rfl) rfl) hrw rfl hlc hcm hLl (fun W cs fk x hW hx hxL => ?_);have hbW:Below W1.heap.size W1 W:=b2.trans (hW.mono hB);exact Il x cs fk p g0 (g0+1) fs d g W hx (hR.nm _ (DI ((hlv.mem x).1 hxL)).1) (HA.out W (hB1.trans (hbW.mono (by rw[← hg0];exact hB1.size)))) hR.ok ((hbW.cell (p:=⟨g0,0,none⟩) K2.lt).trans c2) ((hbW.cell (p:=⟨g0+1,0,none⟩) K3.lt).trans ((K3.cell 0).trans rfl))
 have HDEL:=hid hdel;clear hdel;clear hB1 K2 K3 K4 h hR;go_enter Tryz.func128,Tryz.ntmps128
 go_wp2_with (go_at_call 135;refine HN.out.mono ?_;rintro e w2 ⟨L,gA,c,B,rfl,hlv,hB,hrw,hlc,hcm,b2⟩;have HLV:=hid hlv;have HBB:=hid hB;have HRW:=hid hrw;have B2:=hid b2;have HLC:=hid hlc;have HCM:=hid hcm;have HDL:=hid (HDEL.out w2 L gA c B hlv hB hrw hlc hcm b2);clear hlv hB hrw hlc hcm b2)
 refine HDL.out.mono ?_;rintro e w3 ⟨m,rfl,hm,hml,hrw3,b3⟩;obtain⟨F,hF⟩:∃F,(L.filter fun x => !Dg d.s.g g x)=F:=⟨_,rfl⟩;rw[hF]at hm hrw3;have HF:=hid hF;have HM:=hid hm;have HML:=hid hml;have hLl:L.length≤1000000:=Nat.le_trans HLV.out.len (Nat.le_trans (Dd d) HR.out.sm);have HLL:=hid hLl;have B3:=hid (show Below W1.heap.size W1 w3 from B2.out.trans (b3.mono HBB.out));have HSR:=hid (Ht 223 (enters_of Tryz.func223 (by kernel_rfl) rfl) cfS ltS_swo KQ (fun _ _ => False) (fun _ _ _ _ _ _ h => h.elim) c hrw3 hm (by omega));clear hm hml hrw3 b3 hF hLl HDL HRW B2;go_wp2_with (go_at_call 222;refine HSR.out.mono ?_;rintro e w4 ⟨rfl,M,hpm,-,rw4,b4⟩;have HPM:=hid hpm;have RW4:=hid rw4;have B4:=hid (show Below W1.heap.size W1 w4 from B3.out.trans (b4.mono HBB.out));have HBW4:=hid (show Below g0 w w4 from HB1.out.trans (B4.out.mono (by rw[← HG.out];exact HB1.out.size)));have c2':=(B4.out.cell (p:=⟨g0,0,none⟩) HK2.out.lt).trans c2;have c3':=(B4.out.cell (p:=⟨g0+1,0,none⟩) HK3.out.lt).trans ((HK3.out.cell 0).trans rfl);have HFR:=hid (Li p fs d g w4 (HA.out w4 HBW4.out) HR.out.ok HR.out.sm HR.out.nm HR.out.r1 HR.out.r2);clear hpm rw4 b4)
 refine HFR.out.mono ?_;rintro e w5 ⟨L2,A5,c5,hl2,rfl,b5⟩;obtain rfl:=hl2.uniq HLV.out;obtain⟨nf,hnf⟩:∃nf,(CW d.s.rows.toNat (Ca d.s.g g L2 ++ Cy g (AV d))).length =nf:=⟨_,rfl⟩;rw[hnf];have HNX:=hid (show C4 d g L2=M.any fun x => decide (Bp d.s.sh x.length≤(nf:Int))from by
  unfold C4;rw[hnf];exact next_end (by rw[show(L2.filter fun x => !Dg d.s.sh.g g x)=F from HF.out];exact HPM.out))
 have B5:=hid (show Below W1.heap.size W1 w5 from B4.out.trans (b5.mono B4.out.size));have hmm:m=M.length:=by rw[HM.out,HPM.out.length_eq]
 have hlc:=HLC.out;have hml:=HML.out;subst hmm;obtain⟨fr,hrd⟩:=(RW4.out.below b5).reads (Nat.le_refl _) (by omega:M.length≤c) HCM.out (fun i hi => List.getElem?_eq_getElem hi);have HMX:=hid (show∀x,x∈M→x∈AV d∧x.kind=1∧x.length≠ -1 from fun x hx => by
  have h1:=HPM.out.mem_iff.1 hx;rw[← HF.out]at h1;exact DI ((HLV.out.mem x).1 (List.mem_filter.1 h1).1))
 have HRD:=hid hrd;have HQS:=hid (fun(W:World) => GH A5 nf c5 W);clear hl2 b5 hnf hrd HFR HSR RW4 HM HPM HF c2' c3' hlc HDEL HN;go_wp2_with (go_at_call 174;refine(HQS.out _).mono ?_;rintro e w6 ⟨rfl,rfl⟩)
 obtain⟨A',c',ev,hc,hm,hx⟩:=rSl.at_ Ac.fixed (by omega) HRD.out;injection ev with ev1 ev2 ev3
 subst ev1 ev3;have HX:=hid hx;have HK5:=hid (HK4.out.below B5.out HK4.out.lt);have HC2:=hid ((B5.out.cell (p:=⟨g0,0,none⟩) HK2.out.lt).trans c2);have hz2:g0<w5.heap.size:=Nat.lt_of_lt_of_le HK2.out.lt B5.out.size;have HBW5:=hid (show Below g0 w w5 from HB1.out.trans (B5.out.mono (by rw[← HG.out];exact HB1.out.size)));have HKS:=hid (show∀W,Below g0 w W→Sem.run Tryz.prog (loadCellsFrom ⟨p,0,none⟩ 0 ks #[]) W= .ok #[int i64 d.s.g,int i64 d.s.c,int i64 d.s.data,int i64 d.s.p,int i64 d.s.rows,int i64 d.s.cap,int i64 d.s.b,int i64 d.s.q,int i64 d.s.t] W from fun W hW => by
  obtain⟨A0',A1',A2',c0',c1',c2',f0',f1',f2',HC⟩:=(HA.out W hW).cells;exact HC.shapeRunQ ks hks)
 have hp:p<g0:=by
  have:=(HA.out w (Below.refl _ _)).cells;obtain⟨_,_,_,_,_,_,_,_,_,HC⟩:=this;have:=HC.lt;rw[HG.out]at this;exact this
 have hMl:M.length≤1000000:=Nat.le_trans hml HLL.out;have hks0:¬ks=0:=by omega
 have hks1:0<ks:=by omega
 clear hx c2 hm HB1 HK3 hks ev2 B3 B4 HBW4 hW1 hg0 hZ;go_loopw [24] (fun ix wx =>∃i:Nat,i≤M.length∧ix= int i64 i∧Hid (∀x,x∈M.take i→decide (Bp d.s.sh x.length≤(nf:Int))=false)∧Hid (Below w5.heap.size w5 wx)) (fun ix _ => M.length - (intOf ix).toNat)
 case atStart => exact⟨0,by omega,rfl,(show∀x,x∈M.take 0→_ from fun x hx => by cases hx),Below.refl _ _⟩
 case round =>
  obtain⟨i,hi,rfl,HNO,HB⟩:=hrel;have hbz:=HB.out.size;by_cases hlt:i<M.length
  ·obtain⟨ad,b3,o3,cs3,f3,hae,hat0⟩:=HX.out i hlt;injection hae with hae
   subst hae;have hat:=hat0.below Ac.local_ HB.out;have hpl3:=hat.place;rw[CO]at hpl3;injection hpl3 with e1 e2
   subst e1 e2;have hbl3:gA<wr.heap.size:=hat.lt;have hlen:cs3.length=9:=hat.len;have HRG:=hid (show wr.rangeAt gA (i * 9) cs3 from fun q v hq => by
    have hq1:q<cs3.length:=(List.getElem?_eq_some_iff.1 hq).1;rw[hat.cell q hq1,← hq];exact(List.getElem?_eq_getElem hq1).symm)
   have HI:=hid (show(Tryz.prog.info? 119).map (·.size)=some cs3.length by rw[hlen];kernel_rfl);have HI2:=hid (show(Tryz.prog.info? 119).map (·.size)=some cs3.toArray.size by rw[List.size_toArray,hlen];kernel_rfl);have HON:=hid (all_oneCell_toArray (Ac.ones _ _ _ _ hat.reads));obtain⟨Z,hZ⟩:∃Z:Array Value,#[int i64 0,int i64 0,.string ⟨#[]⟩,int i64 0,int i64 0,int i64 0,.slice none 0 0,.slice none 0 0,.slice none 0 0] =Z:=⟨_,rfl⟩;have hZs:Z.size=9:=by rw[← hZ];rfl
   have KZ:=Blk.new wr 119 Z;have HTH:=hid (Blk.there KZ cs3.toArray.size (by rw[List.size_toArray,hlen,hZs];exact Nat.le_refl _));obtain⟨W2,hW2⟩:∃W2,(wr.alloc (.cells Z 119)).setCells wr.heap.size 0 cs3.toArray.toList=W2:=⟨_,rfl⟩;have k2:Blk W2 wr.heap.size 119 cs3.toArray:=by rw[← hW2];exact Blk.laid KZ _ (by rw[hZs];exact hlen.symm)
   have b22:Below wr.heap.size wr W2:=by rw[← hW2];exact Aw (Ah (Below.refl _ _) _) _ 0 (Nat.le_refl _)
   have HW2:=hid hW2;have hgb:=k2.lt;have HRX:=hid (show Ac W2 f3 cs3 M[i]from Ap.below Ac.local_ Ac.fixed hat.reads b22);have hrds:=hat.reads;obtain⟨x,hxe⟩:∃x,M[i] =x:=⟨_,rfl⟩;have hxm:=HMX.out _ (List.getElem_mem hlt);rw[hxe]at hrds HRX hxm;have HSZ:=hid (HR.out.sz x hxm.1 hxm.2.1);have hpt:=Eo.2 (HR.out.pt x hxm.1 hxm.2.1 hxm.2.2);have HST:=hid (show∀z,z∈M.take (i+1)→z∈M.take i∨z=x from fun z hz => by
    rw[List.take_succ_eq_append_getElem hlt,hxe]at hz;simpa using hz)
   have HXM:=hid (show x∈M by rw[← hxe];exact List.getElem_mem hlt);dsimp only[Ac]at hrds;obtain⟨v0,v1,v2,q0,q1,q2,e,-,-,-,-,okl,-⟩:=hrds;have y3:W2.cell? ⟨wr.heap.size,3,none⟩=some (int i64 x.length):=by rw[k2.cell,e];rfl
   have y3r:=cell_regrown y3;have HB2:=hid (show Below w5.heap.size w5 W2 from HB.out.trans (b22.mono hbz));have c2r:=cell_regrown ((HB2.out.cell (p:=⟨g0,0,none⟩) hz2).trans HC2.out);have hki:(i:Int)<(M.length:Int):=by omega
   have lS:∀dd os,Sem.run Tryz.prog (loadCellsFrom ⟨p,0,none⟩ 0 ks #[]) (grow (redrawn W2 dd) os)= .ok #[int i64 d.s.g,int i64 d.s.c,int i64 d.s.data,int i64 d.s.p,int i64 d.s.rows,int i64 d.s.cap,int i64 d.s.b,int i64 d.s.q,int i64 d.s.t] (grow (redrawn W2 dd) os):=fun dd os => HKS.out _ (HBW5.out.trans ((HB2.out.trans ((below_regrown W2 dd os).mono (by have:=HB2.out.size;omega))).mono (Nat.le_of_lt hz2)))
   obtain⟨pn,hpn⟩:∃pn,Bp d.s.sh x.length=pn:=⟨_,rfl⟩;have hpp:=fun W => KG d.s.sh HR.out.ok x.length okl W
   simp only[hpt,if_true,hpn]at hpp;unfold shV at hpp;simp only[Ba.sh]at hpp;have QP:=hid (AF (w:=W2) (fun W _ => hpp W));have HPN:=hid hpn;have HKR:=hid k2;clear hat hat0 hW2 KZ hlen hZs k2 e b22 hxe hpp hpn hpt hxm okl HB;by_cases qn:pn≤(nf:Int)
   ·have HYES:=hid (show C4 d g L2=true by
     rw[HNX.out,List.any_eq_true];exact⟨x,HXM.out,by rw[HPN.out];exact decide_eq_true qn⟩)
    go_wp2_with (first
    |(refine wpList_load_mid rfl 119 (.tmp 26) rfl gA (i * 9) rfl cs3 _ HRG.out Tryz.underlying119 rfl HI.out ?_)
    |(refine wpList_store_mid rfl 119 (.tmp 9) (.tmp 27) rfl wr.heap.size 0 cs3.toArray rfl rfl HTH.out HI2.out HON.out ?_;rw[HW2.out]))
    (refine wp_region_quiet_below (by kernel_rfl) (by kernel_rfl) ?_;(repeat(first|go_big_quiet_step (first|(go_at_call 225;exact QP.out _ _))|quiet_step (first|(go_at_call 225;exact QP.out _ _))));refine wpQuiet_nil ?_)
    rintro _ ⟨⟨dq,osq⟩,rfl⟩;have b23:Below W2.heap.size W2 (grow (redrawn W2 dq) osq):=below_regrown W2 dq osq;obtain⟨W3,hW3⟩:∃W3,grow (redrawn W2 dq) osq=W3:=⟨_,rfl⟩;simp only[hW3]at b23⊢;have HR3:=hid (Blk.rangeAll (HKR.out.below b23 hgb));have HB3:=hid (show Below w5.heap.size w5 W3 from HB2.out.trans (b23.mono HB2.out.size));have HCL:=hid (KP x cs3 f3 W3 (Ap.below Ac.local_ Ac.fixed HRX.out b23) HSZ.out.1 HSZ.out.2.1 HSZ.out.2.2);clear y3 y3r c2r lS QP b23 hW3 HRX HKR HB2;go_wp2_with (first
     |(refine wpList_load_mid rfl 119 (.tmp 9) rfl wr.heap.size 0 rfl cs3 _ HR3.out Tryz.underlying119 rfl HI.out ?_)
     |(go_at_call 226;refine HCL.out.mono ?_;rintro e w7 ⟨cs',rfl,hl',ho',b7⟩;obtain⟨W8,hW8⟩:∃W8,w7.setCells (g0+1+1) 0 cs'.toArray.toList=W8:=⟨_,rfl⟩;have HW8:=hid hW8;have HL':=hid hl';have HO':=hid ho';have HB7:=hid (show Below w5.heap.size w5 w7 from HB3.out.trans (b7.mono HB3.out.size));have HK7:=hid (HK5.out.below HB7.out HK5.out.lt);have HTH7:=hid (Blk.there HK7.out cs'.toArray.size (by rw[List.size_toArray,HL'.out,← HZ.out];exact Nat.le_refl _));have HI7:=hid (show(Tryz.prog.info? 119).map (·.size)=some cs'.toArray.size by rw[List.size_toArray,HL'.out];kernel_rfl);have HON7:=hid (all_oneCell_toArray HO'.out);clear hW8 hl' ho' b7)
     |(refine wpList_store_mid rfl 119 (.tmp 4) (.tmp 42) rfl (g0+1+1) 0 cs'.toArray rfl rfl HTH7.out HI7.out HON7.out ?_;rw[HW8.out]))
    have HK8:=hid (show Blk W8 (g0+1+1) 119 cs'.toArray by rw[← HW8.out];exact HK7.out.laid _ (by rw[← HZ.out];show 9=_;simp[HL'.out]));have HB8:=hid (show Below g0 w W8 by rw[← HW8.out];exact Aw (HBW5.out.trans (HB7.out.mono (Nat.le_of_lt hz2))) _ 0 (by omega));refine⟨rfl,_,GD (g:=g0+1+1) (v2:=.bool true) rfl _ _ _ _ _ rfl HK8.out Tryz.underlying119 rfl HI7.out rfl,⟨L2,cs',HLV.out,by rw[HYES.out],HL'.out,HO'.out,by rw[HG.out];exact HB8.out⟩⟩
   ·have HNO2:=hid (show∀z,z∈M.take (i+1)→decide (Bp d.s.sh z.length≤(nf:Int))=false from fun z hz => by
     rcases HST.out z hz with q|q
     ·exact HNO.out z q
     ·rw[q,HPN.out];exact decide_eq_false qn)
    go_wp2_with (first
    |(refine wpList_load_mid rfl 119 (.tmp 26) rfl gA (i * 9) rfl cs3 _ HRG.out Tryz.underlying119 rfl HI.out ?_)
    |(refine wpList_store_mid rfl 119 (.tmp 9) (.tmp 27) rfl wr.heap.size 0 cs3.toArray rfl rfl HTH.out HI2.out HON.out ?_;rw[HW2.out]))
    (refine wp_region_quiet_below (by kernel_rfl) (by kernel_rfl) ?_;(repeat(first|go_big_quiet_step (first|(go_at_call 225;exact QP.out _ _))|quiet_step (first|(go_at_call 225;exact QP.out _ _))));refine wpQuiet_nil ?_)
    rintro _ ⟨⟨dq,osq⟩,rfl⟩;have b23:Below W2.heap.size W2 (grow (redrawn W2 dq) osq):=below_regrown W2 dq osq;obtain⟨W3,hW3⟩:∃W3,grow (redrawn W2 dq) osq=W3:=⟨_,rfl⟩;simp only[hW3]at b23⊢;have HB3:=hid (show Below w5.heap.size w5 W3 from HB2.out.trans (b23.mono HB2.out.size));clear y3 y3r c2r lS QP b23 hW3 HRX HKR HB2;go_wp2_with fail
    go_roundw
    case rel => exact⟨i+1,by omega,by go_num,HNO2.out,HB3.out⟩
    case measure => simp[intOf];omega
  ·obtain rfl:i=M.length:=by omega
   have HNOT:=hid (show C4 d g L2=false by
    rw[HNX.out,List.any_eq_false];intro x hx;have:=HNO.out x (by rw[List.take_length];exact hx);rw[this];exact Bool.false_ne_true)
   obtain⟨W8,hW8⟩:∃W8,wr.setCells (g0+1+1) 0 (#[int i64 0,int i64 0,.string ⟨#[]⟩,int i64 0,int i64 0,int i64 0,.slice none 0 0,.slice none 0 0,.slice none 0 0]:Array Value).toList =W8:=⟨_,rfl⟩;have HW8:=hid hW8;have hK7:=HK5.out.below HB.out HK5.out.lt;have hks9:(Tryz.prog.info? 119).map (·.size)=some 9:=by kernel_rfl
   have HK8:=hid (show Blk W8 (g0+1+1) 119 #[int i64 0,int i64 0,.string ⟨#[]⟩,int i64 0,int i64 0,int i64 0,.slice none 0 0,.slice none 0 0,.slice none 0 0] by rw[← hW8];exact hK7.laid _ (by rw[← HZ.out];rfl));have HTH:=hid (Blk.there hK7 9 (by rw[← HZ.out];exact Nat.le_refl _));have HB8:=hid (show Below g0 w W8 by rw[← hW8];exact Aw (HBW5.out.trans (HB.out.mono (Nat.le_of_lt hz2))) _ 0 (by omega));have hv:=Tryz.zeroValue119;clear hW8 hK7;go_wp2_with (first
    |(refine wpList_store_mid rfl 119 (.tmp 4) (.tmp 44) rfl (g0+1+1) 0 #[int i64 0,int i64 0,.string ⟨#[]⟩,int i64 0,int i64 0,int i64 0,.slice none 0 0,.slice none 0 0,.slice none 0 0] rfl rfl HTH.out (by rw[hks9];rfl) (by simp[Value.oneCell']) ?_;rw[HW8.out]))
   refine⟨rfl,_,GD (g:=g0+1+1) (v2:=.bool false) rfl _ _ _ _ _ rfl HK8.out Tryz.underlying119 rfl (by rw[hks9];rfl) rfl,⟨L2,HLV.out,[int i64 0,int i64 0,.string ⟨#[]⟩,int i64 0,int i64 0,int i64 0,.slice none 0 0,.slice none 0 0,.slice none 0 0],by rw[HNOT.out],rfl,by simp[Value.oneCell'],by rw[HG.out];exact HB8.out⟩⟩
theorem IW(p:Nat)(fs:List Addr)(d:AC)(g:Int)(w:World)(h:AtW w p fs d)(hR:Ez d) :
  Calls Tryz.prog 128 #[.pointer (some ⟨p,0,none⟩),int i64 g] w fun e w' =>∃(L:List Ag) (cs':List Value),BS (AV d) L∧e= .returned (.tuple #[.agg cs'.toArray,.bool (C4 d g L)])∧cs'.length=9∧(∀u,u∈cs'→u.oneCell'=true)∧Below w.heap.size w w' :=
 IX 9 rfl Tryz.sizeOf31 Tryz.isAgg31 p fs d g w h hR
end Go.Proofs.YtfjkoifpdoemdaaGreat
