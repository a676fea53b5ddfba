/- Part 27 of the proof. -/
import Derived.Test.YtfjkoifpdoemdaaGreatJ20
import Derived.Test.YtfjkoifpdoemdaaGreatJ18
import Derived.Test.YtfjkoifpdoemdaaGreatJ10
set_option maxHeartbeats 8000000
set_option maxRecDepth 100000
set_option linter.unusedVariables false
set_option linter.unusedSimpArgs false
open Go.Proofs.Tryz
open Go.Value (int)
open Go.IntKind (i64)
namespace Go.Proofs.YtfjkoifpdoemdaaGreat
open Go.RowKit Go.Lib Go.Sort
theorem hv_count {bl:List (List UInt8)} {L:List AL}(h:∀k,(hk:k<L.length)→(0<(bl.getD k []).length↔L[k].wiped =false)):∀j,j≤L.length→(Bp bl j).length +GI L j=j:=by
 intro j;induction j with
 |zero => intro _;simp[Gl,GI]
 |succ j ih =>
  intro hj;have h1:=ih (by omega);have h2:=h j (by omega);rw[Fn,LX (by omega),bC];cases hw:L[j].wiped with
  |true =>
   have h3:¬0<(bl.getD j []).length:=fun h4 => by rw[hw]at h2;cases h2.1 h4
   rw[aI h3];simp;omega
  |false =>
   rw[aL (h2.2 hw)];simp;omega
theorem LK {n s:Nat} {bl:List (List UInt8)} {L:List AL}(hl:bl.length=L.length)(hn:L.length=n+s)(h:∀k,(hk:k<L.length)→(0<(bl.getD k []).length↔L[k].wiped =false))(hd:s<GI L L.length):Dh n bl=none:=by
 have h1:=hv_count h L.length (aC _);unfold Dh;rw[aL];rw[JT,aQ,hl];omega
theorem RL(enc:Ah→List (List UInt8))(row:Nat)(L:List AL):FU enc row [] L=L.map (CV row):=by
 apply bP
 ·rw[Cu,bR]
 ·intro k h1 h2;rw[Cu]at h1;rw[F5 _ _ _ _ h1,bQ];rfl
theorem PB {row:Nat} {dr:AL}(h4:(Cg dr row).bytes.length =4):0<(CV row dr).length↔dr.wiped=false:=by
 unfold CV;cases dr.wiped with
 |true => simp
 |false => simp[h4]
theorem BR.dead {d:Am}(h:BR d) {g row:Nat}(hg:g<d.g.length)(hr:(row:Int)<d.s.rows)(hd:Ki d g=true)(ho:Ef d.s.g (AN d) (g:Int) (row:Int)=none):Di d g row=none:=by
 obtain⟨a1,a2⟩:=h.ok.data;obtain⟨b1,b2⟩:=h.ok.p;simp only[AX.sh]at a1 a2 b1 b2;have hdl:=h.dl g hg;have hw:d.s.p<(GI (AJ d g) (AJ d g).length:Int):=bO hd;have h4:=(h.row hg hr).2;by_cases qg:(g:Int)<d.s.g
 ·rw[Gk ho qg];refine LK (s:=d.s.p.toNat) (L:=AJ d g) (by simp[Bq]) (by omega) (fun k hk => ?_) (by omega);have e:(Bq d g row).getD k [] =CV row (AJ d g)[k]:=by unfold Bq;simp[aJ,hk]
  rw[e];exact PB (h4 _ (aN hk))
 ·rw[GT ho qg];refine LK (s:=d.s.p.toNat) (L:=AJ d g) (by unfold CL;rw[Cu]) (by omega) (fun k hk => ?_) (by omega);have hk2:k<(CL d (Cm d.s.g (AN d) (g:Int)) g row).length:=by unfold CL;rw[Cu];exact hk
  have e:(CL d (Cm d.s.g (AN d) (g:Int)) g row).getD k [] =Gt (Cb d g) row (Cm d.s.g (AN d) (g:Int)) k (AJ d g)[k]:=by
   rw[aJ,aO hk2,Option.getD_some];unfold CL;exact F5 _ _ _ _ hk
  rw[e];unfold Gt;have hl:=Du (b:=(Cg (AJ d g)[k] row).bytes) (stamp:=(Cg (AJ d g)[k] row).stamp) (row:=(row:Int)) (fun m hm =>((h.par hg (by omega) hr).enc hk m hm).1) (h4 _ (aN hk));cases(AJ d g)[k].wiped with
  |true => simp
  |false => rw[aI (by simp),hl];simp
def BA(d:Am)(row:Nat):List (List UInt8):=(List.range d.g.length).map fun g =>(Di d g row).getD []
def Ew(d:Am)(g row:Nat):Option (List UInt8) :=
 match Di d g row with
 |some b => some b
 |none =>(EQ (4 * d.s.data.toNat) d.s.g.toNat d.s.c.toNat (BA d row)).map fun L => L.getD g []
theorem Ji {d:Am} {g row:Nat} {b:List UInt8}(h:Di d g row=some b):Ew d g row=some b:=by unfold Ew;rw[h]
theorem J6 {d:Am} {g row:Nat}(h:Di d g row=none):Ew d g row=(EQ (4 * d.s.data.toNat) d.s.g.toNat d.s.c.toNat (BA d row)).map fun L => L.getD g []:=by unfold Ew;rw[h]
theorem DB(d:Am)(row:Nat):(BA d row).length =d.g.length:=by simp[BA]
theorem JF(d:Am)(row:Nat) {k:Nat}(h:k<d.g.length):(BA d row).take (k+1)=(BA d row).take k ++ [(Di d k row).getD []]:=by
 rw[aM (by rw[DB];exact h)];simp[BA]
theorem I2 {d:Am}(h:BR d) {g row:Nat}(hg:g<d.g.length)(hr:(row:Int)<d.s.rows) {b:List UInt8}(hb:Di d g row=some b):b.length=4 * d.s.data.toNat:=by
 obtain⟨a1,a2⟩:=h.ok.data;obtain⟨b1,b2⟩:=h.ok.p;simp only[AX.sh]at a1 a2 b1 b2;have hdl:=h.dl g hg;have hdec:∀bl:List (List UInt8),bl.length=(AJ d g).length→De bl 4→∀b,Dh d.s.data.toNat bl=some b→b.length=4 * d.s.data.toNat:=fun bl hl hO b hd => by
  unfold Dh at hd;split at hd
  ·cases hd
  ·rename_i hn
   injection hd with hd
   subst hd;have hv:=FI d.s.data.toNat bl bl.length;have:=El (n:=d.s.data.toNat) (bl:=bl) (by omega) (by omega) (by omega) hO (by omega) d.s.data.toNat (aC _);omega
 cases ho:Ef d.s.g (AN d) (g:Int) (row:Int)with
 |some m =>
  rw[Io ho]at hb;injection hb with hb
  subst hb;obtain⟨q1,q2⟩:=Np ho;obtain⟨-,-,q3,-⟩:=h.mv m (EC _ _ rfl m q1) q2;omega
 |none =>
  by_cases qg:(g:Int)<d.s.g
  ·rw[Gk ho qg]at hb;exact hdec _ (by simp[Bq]) (h.blocks4 hg hr) _ hb
  ·rw[GT ho qg]at hb;exact hdec _ (by unfold CL;rw[Cu]) (h.will4 hg (by omega) hr) _ hb
theorem Ir {d:Am}(h:BR d) {row:Nat}(hr:(row:Int)<d.s.rows):De (BA d row) (4 * d.s.data.toNat):=fun l hl => by
 obtain⟨g,hg,rfl⟩:=List.mem_map.1 hl;have hg':=List.mem_range.1 hg;cases hb:Di d g row with
 |none => exact .inl rfl
 |some b => exact .inr (I2 h hg' hr hb)
theorem Oh {d:Am}(h:BR d) {g row:Nat}(hg:g<d.g.length)(hr:(row:Int)<d.s.rows) {b:List UInt8}(hb:Ew d g row=some b):b.length=4 * d.s.data.toNat:=by
 obtain⟨a1,a2⟩:=h.ok.g;obtain⟨b1,b2⟩:=h.ok.c;simp only[AX.sh]at a1 a2 b1 b2;have hgl:=h.gl;have hll:=DB d row;cases hh:Di d g row with
 |some b' =>
  rw[Ji hh]at hb;injection hb with hb
  subst hb;exact I2 h hg hr hh
 |none =>
  rw[J6 hh]at hb;unfold EQ at hb;split at hb
  ·cases hb
  ·rename_i hn
   injection hb with hb
   dsimp only at hb;have hv:=FI d.s.g.toNat (BA d row) (BA d row).length;have e:(Eg (4 * d.s.data.toNat) d.s.g.toNat (BA d row) (AI d.s.g.toNat (BA d row) (BA d row).length) (d.s.g.toNat+d.s.c.toNat)).getD g [] =DX (4 * d.s.data.toNat) d.s.g.toNat (BA d row) (AI d.s.g.toNat (BA d row) (BA d row).length) g:=by
    have hgg:g<d.s.g.toNat+d.s.c.toNat:=by omega
    simp[Eg,aJ,hgg]
   rw[e]at hb;obtain⟨-,-,-,-,q⟩:=FE (m:=4 * d.s.data.toNat) (n:=d.s.g.toNat) (bl:=BA d row) (i:=g) (by omega) (by omega) (by omega) (Ir h hr) (by omega) (by omega);rw[← hb];exact q
theorem Ag.mine {w:World} {f:List Addr} {v:Value} {l:List UInt8} {lo:Nat}(h:Ag w f v l)(hf:∀a,a∈f→lo≤a.block∧w.frozen? a=false):Aw lo w f:=by
 refine⟨?_,fun a ha =>(hf a ha).1,fun a ha =>(hf a ha).2⟩;obtain⟨A,c,e,h1,h2,h3⟩:=h;rcases h3 with⟨-,rfl⟩|⟨ad,css,fss,-,e2,e3,rfl,h3⟩
 ·exact List.nodup_nil
 ·have hfl:fss.flatten= []:=by
   rw[List.flatten_eq_nil_iff];intro x hx;obtain⟨i,hi,rfl⟩:=aY hx;obtain⟨q1,q2,q3,q4,hfi,hcs⟩:=h3 i (by omega);exact hfi
  rw[hfl,List.append_nil];cases hl:l.length with
  |zero => rw[Nat.zero_mul];exact List.nodup_nil
  |succ n =>
   obtain⟨q1,q2,q3,q4,hfi,hcs⟩:=h3 0 (by omega);have hc:=q4 0 (by omega);obtain⟨b,o,hP⟩:=Jv hc;have h0:ad.add 0=ad:=addZero ad;have hP':ad=⟨b,o,none⟩:=by rw[← h0];simpa using hP
   exact DO (by rw[hP'])
theorem here_c(p:Nat)(fs:List Addr)(d:Am)(g row:Nat)(w:World)(h:AtW w p fs d)(hT:BR d)(hg:g<d.g.length)(hr:(row:Int)<d.s.rows) :
  Calls prog 109 #[.pointer (some ⟨p,0,none⟩),int i64 (g:Int),int i64 (row:Int)] w (G4 (Di d g row) w):=by
 obtain⟨a1,a2⟩:=hT.ok.data;obtain⟨b1,b2⟩:=hT.ok.p;simp only[AX.sh]at a1 a2 b1 b2;have hdl:=hT.dl g hg;have HLM:=U (Po p fs d (g:Int) (row:Int) w h hT.ok (by omega) hT.sm);have HH:=U h;have HT:=U hT;have hks:(prog.info? 119).map (·.size)=some 9:=by kernel_rfl
 have lp:p<w.heap.size:=by obtain⟨A0,A1,A2,c0,c1,c2,f0,f1,f2,HC⟩:=h.cells;exact HC.lt
 obtain⟨X,hX⟩:∃X,Di d g row=X:=⟨_,rfl⟩;rw[hX];have HX:=U hX;obtain⟨nd,hnd⟩:∃nd:Nat,d.s.data=nd:=⟨d.s.data.toNat,by omega⟩;obtain⟨ns,hns⟩:∃ns:Nat,d.s.p=ns:=⟨d.s.p.toNat,by omega⟩;have HND:=U hnd;have HNS:=U hns;have hnd1:1≤nd:=by omega
 have hnd3:nd≤3:=by omega
 have hns2:ns≤2:=by omega
 have HDL:=U (show(AJ d g).length =nd+ns by omega);clear h hT hX hnd hns a1 a2 b1 b2 hdl;go_enter func109,ntmps109
 go_wp2_with fail
 refine HLM.o.mono ?_;rintro e w1 (⟨m,cs,f1,v1,hown,rfl,hcs,hones,hv7,hr7,hb1⟩|⟨hown,cs,rfl,hcs,hones,hb1⟩);all_goals
  have B1:=U hb1;have HI2:=U (show(prog.info? 119).map (·.size)=some cs.size by rw[hcs];exact hks);have HON:=U hones;obtain⟨Z,hZ⟩:∃Z:Array Value,#[int i64 0,int i64 0,.string ⟨#[]⟩,int i64 0,int i64 0,int i64 0,.slice none 0 0,.slice none 0 0,.slice none 0 0] =Z:=⟨_,rfl⟩;have hZs:Z.size=9:=by rw[← hZ];rfl
  have KZ:=Blk.new w1 119 Z;have HTH:=U (Blk.there KZ cs.size (by rw[hcs,hZs];exact aC _));obtain⟨W2,hW2⟩:∃W2,(w1.alloc (.cells Z 119)).setCells w1.heap.size 0 cs.toList=W2:=⟨_,rfl⟩;have K2:Blk W2 w1.heap.size 119 cs:=by
   have:=Blk.laid KZ cs.toList (by rw[hZs,Array.length_toList,hcs]);rw[Array.toArray_toList]at this;rw[← hW2];exact this
  have b12:Below w1.heap.size w1 W2:=by rw[← hW2];exact Ba (Af (aB _ _) _) _ 0 (aC _)
  have HW2:=U hW2;have B2:=U (hb1.trans (b12.mono hb1.size));have HK2:=U K2
 ·have y7:W2.cell? ⟨w1.heap.size,7,none⟩=some v1:=by rw[K2.cell];exact hv7
  have gb:w1.heap.size<W2.heap.size:=K2.lt;have hmd:m.data.length≤1048576:=by
   obtain⟨q1,q2⟩:=Np hown;obtain⟨-,-,q3,-⟩:=HT.o.mv m (EC _ _ rfl m q1) q2;have:=HND.o;omega
  have e1:X=some m.data:=by rw[← HX.o];exact Io hown
  subst e1;have HCL:=U (Gy v1 m.data f1 W2 (hr7.below b12) hmd);obtain⟨A7,c7,rfl,-⟩:=rSl.head hr7;clear hown hones hv7 hr7 hb1 KZ hW2 K2 b12 hZs;go_wp2_with (first
   |(refine aW rfl 119 (.tmp 8) (.tmp 16) rfl w1.heap.size 0 cs rfl rfl HTH.o HI2.o HON.o ?_;rw[HW2.o])
   |(go_at_call 138;refine HCL.o.mono ?_;rintro e w3 h3;obtain⟨A3,c3,f3,e3,r3,m3,b3⟩:=h3.fresh;subst e3;have R3:=U r3;have M3:=U m3;have B3:=U b3;clear h3 r3 m3 b3))
  go_ret2
  exact .inl ⟨m.data,A3,c3,f3,rfl,rfl,R3.o,M3.o.mono B2.o.size,B2.o.trans (B3.o.mono B2.o.size)⟩
 ·clear hones hb1 KZ hW2 K2 b12 hZs;have HBC:=U (MD p fs d g row W2 (HH.o.below B2.o) hg (HT.o.row hg hr).1 (by rw[HDL.o];omega));have hbl:(Bq d g row).length =nd+ns:=by unfold Bq;rw[bR];exact HDL.o
  have HBL:=U hbl;have hsz2:=B2.o.size;have HOWN:=U hown;clear hbl hown;by_cases qg:(g:Int)<d.s.g
  ·have hin:Ap (g:Int) 0 (d.s.g - 1)=true:=Fo (by omega) (by omega);have e1:X=Dh nd (Bq d g row):=by rw[← HX.o,Gk HOWN.o qg,HND.o];rfl
   have HE1:=U e1;clear qg e1;go_wp2_with (first
    |(refine aW rfl 119 (.tmp 8) (.tmp 16) rfl w1.heap.size 0 cs rfl rfl HTH.o HI2.o HON.o ?_;rw[HW2.o])
    |(go_at_call 186;refine HBC.o.mono ?_;rintro e w3 ⟨A3,c3,f3,rfl,o3,g3,b3⟩;rw[HBL.o]at o3⊢;have O3:=U o3;have B3:=U (B2.o.trans (b3.mono B2.o.size));have hl3:=aE lp B3.o.size;obtain⟨A0',A1',A2',c0',c1',c2',f0',f1',f2',HC3⟩:=(HH.o.below B3.o).cells;have HSH:=U HC3.s;have HD:=U (GH d.s.sh HT.o.ok (g:Int) w3);unfold shV at HD;rw[show d.s.sh.g=d.s.g from rfl,hin]at HD;clear o3 g3 b3 HC3)
    |(refine aD rfl 31 (.tmp 28) rfl p 0 rfl _ _ HSH.o underlying31 rfl (by kernel_rfl) ?_)
    |(go_at_call 187;refine HD.o.mono ?_;rintro e w4 ⟨rfl,b4⟩;have B4:=U (B3.o.trans (b4.mono B3.o.size));have B34:=U b4;have hl4:=aE lp B4.o.size;obtain⟨A0'',A1'',A2'',c0'',c1'',c2'',f0'',f1'',f2'',HC4⟩:=(HH.o.below B4.o).cells;have HSH4:=U HC4.s;have HR:=U (row_c d.s.sh w4);unfold shV at HR;rw[show d.s.sh.data=d.s.data from rfl,show d.s.sh.p=d.s.p from rfl]at HR;clear b4 HC4)
    |(refine aD rfl 31 (.tmp 39) rfl p 0 rfl _ _ HSH4.o underlying31 rfl (by kernel_rfl) ?_)
    |(go_at_call 189;refine HR.o.mono ?_;rintro e w5 ⟨rfl,b5⟩;have B5:=U (B4.o.trans (b5.mono B4.o.size));have B35:=U (B34.o.trans (b5.mono B34.o.size));clear b5))
   obtain⟨gr,hgr,-⟩:=O3.o.reads;have hO4:=HT.o.blocks4 hg hr;have HDC:=U (JL nd ns (.slice A3 (nd+ns) c3) (Bq d g row) (gr ++ f3) w5 (rSl.below As.loc As.fix hgr B35.o) hnd1 hnd3 (by rw[HBL.o];omega) hO4);clear hgr hO4;rw[← HE1.o]at HDC;rw[HND.o,HNS.o];refine HDC.o.mono ?_;rintro e w6 (⟨D,A6,c6,f6,e6,rfl,r6,m6,b6⟩|⟨e6,rfl,b6⟩)
   ·have R6:=U r6;have M6:=U m6;have B6:=U b6;have E6:=U e6;clear r6 m6 b6 e6;go_wp2_with fail
    go_ret2
    exact .inl ⟨D,A6,c6,f6,E6.o,rfl,R6.o,M6.o.mono B5.o.size,B5.o.trans (B6.o.mono B5.o.size)⟩
   ·have B6:=U b6;have E6:=U e6;clear b6 e6;go_wp2_with fail
    go_ret2
    exact .inr ⟨E6.o,rfl,B5.o.trans (B6.o.mono B5.o.size)⟩
  ·have hin:Ap (g:Int) 0 (d.s.g - 1)=false:=Gu (by omega);have e1:X=Dh nd (CL d (Cm d.s.g (AN d) (g:Int)) g row):=by rw[← HX.o,GT HOWN.o qg,HND.o];rfl
   have HE1:=U e1;have hPar:=HT.o.par hg (by omega) hr;have hO4:=HT.o.will4 hg (by omega) hr;have HWC:=U (fun(W:World) (hW:Below w.heap.size w W) => willBe_c p fs d g row W (HH.o.below hW) HT.o.sm hPar);obtain⟨Wf,hWf⟩:∃Wf,CL d (Cm d.s.g (AN d) (g:Int)) g row=Wf:=⟨_,rfl⟩;have hwl:Wf.length=nd+ns:=by rw[← hWf];unfold CL;rw[Cu];exact HDL.o
   rw[hWf]at HWC HE1 hO4;have HWL:=U hwl;have HO4:=U hO4;clear qg e1 hPar hwl hO4 hWf;go_wp2_with (first
    |(refine aW rfl 119 (.tmp 8) (.tmp 16) rfl w1.heap.size 0 cs rfl rfl HTH.o HI2.o HON.o ?_;rw[HW2.o])
    |(go_at_call 186;refine HBC.o.mono ?_;rintro e w3 ⟨A3,c3,f3,rfl,o3,g3,b3⟩;have B3:=U (B2.o.trans (b3.mono B2.o.size));have hl3:=aE lp B3.o.size;obtain⟨A0',A1',A2',c0',c1',c2',f0',f1',f2',HC3⟩:=(HH.o.below B3.o).cells;have HSH:=U HC3.s;have HD:=U (GH d.s.sh HT.o.ok (g:Int) w3);unfold shV at HD;rw[show d.s.sh.g=d.s.g from rfl,hin]at HD;clear o3 g3 b3 HC3)
    |(refine aD rfl 31 (.tmp 28) rfl p 0 rfl _ _ HSH.o underlying31 rfl (by kernel_rfl) ?_)
    |(go_at_call 187;refine HD.o.mono ?_;rintro e w4 ⟨rfl,b4⟩;have B4:=U (B3.o.trans (b4.mono B3.o.size));have HW:=U (HWC.o w4 B4.o);clear b4)
    |(go_at_call 188;refine HW.o.mono ?_;rintro e w7 ⟨A7,c7,f7,rfl,r7,b7⟩;rw[HWL.o]at r7⊢;have R7:=U r7;have B7:=U (B4.o.trans (b7.mono B4.o.size));have hl7:=aE lp B7.o.size;obtain⟨A0'',A1'',A2'',c0'',c1'',c2'',f0'',f1'',f2'',HC4⟩:=(HH.o.below B7.o).cells;have HSH4:=U HC4.s;have HR:=U (row_c d.s.sh w7);unfold shV at HR;rw[show d.s.sh.data=d.s.data from rfl,show d.s.sh.p=d.s.p from rfl]at HR;clear r7 b7 HC4)
    |(refine aD rfl 31 (.tmp 39) rfl p 0 rfl _ _ HSH4.o underlying31 rfl (by kernel_rfl) ?_)
    |(go_at_call 189;refine HR.o.mono ?_;rintro e w5 ⟨rfl,b5⟩;have B5:=U (B7.o.trans (b5.mono B7.o.size));have B35:=U b5;clear b5))
   have HDC:=U (JL nd ns (.slice A7 (nd+ns) c7) Wf f7 w5 (rSl.below As.loc As.fix R7.o B35.o) hnd1 hnd3 (by rw[HWL.o];omega) HO4.o);rw[← HE1.o]at HDC;rw[HND.o,HNS.o];refine HDC.o.mono ?_;rintro e w6 (⟨D,A6,c6,f6,e6,rfl,r6,m6,b6⟩|⟨e6,rfl,b6⟩)
   ·have R6:=U r6;have M6:=U m6;have B6:=U b6;have E6:=U e6;clear r6 m6 b6 e6;go_wp2_with fail
    go_ret2
    exact .inl ⟨D,A6,c6,f6,E6.o,rfl,R6.o,M6.o.mono B5.o.size,B5.o.trans (B6.o.mono B5.o.size)⟩
   ·have B6:=U b6;have E6:=U e6;clear b6 e6;go_wp2_with fail
    go_ret2
    exact .inr ⟨E6.o,rfl,B5.o.trans (B6.o.mono B5.o.size)⟩
theorem RI(p:Nat)(fs:List Addr)(d:Am)(g row:Nat)(w:World)(h:AtW w p fs d)(hT:BR d)(hg:g<d.g.length)(hr:(row:Int)<d.s.rows) :
  Calls prog 55 #[.pointer (some ⟨p,0,none⟩),int i64 (g:Int),int i64 (row:Int)] w (G4 (Ew d g row) w):=by
 obtain⟨a1,a2⟩:=hT.ok.data;obtain⟨b1,b2⟩:=hT.ok.g;obtain⟨b3,b4⟩:=hT.ok.c;simp only[AX.sh]at a1 a2 b1 b2 b3 b4;have hgl:=hT.gl;have HH:=U h;have HT:=U hT;have lp:p<w.heap.size:=by obtain⟨A0,A1,A2,c0,c1,c2,f0,f1,f2,HC⟩:=h.cells;exact HC.lt
 have HHR:=U (fun(W:World) (hW:Below w.heap.size w W) (k:Nat) (hk:k<d.g.length) => here_c p fs d k row W (h.below hW) hT hk hr);obtain⟨nd,hnd⟩:∃nd:Nat,d.s.data=nd:=⟨d.s.data.toNat,by omega⟩;obtain⟨ng,hng⟩:∃ng:Nat,d.s.g=ng:=⟨d.s.g.toNat,by omega⟩;obtain⟨nc,hnc⟩:∃nc:Nat,d.s.c=nc:=⟨d.s.c.toNat,by omega⟩;have HND:=U hnd;have HNG:=U hng;have HNC:=U hnc;have hnd3:nd≤3:=by omega
 have hng1:1≤ng:=by omega
 have hng4:ng≤4:=by omega
 have hnc2:nc≤2:=by omega
 have HGL:=U (show d.g.length=ng+nc by omega);have hg2:g<ng+nc:=by omega
 clear h hT hnd hng hnc a1 a2 b1 b2 b3 b4 hgl;go_enter func55,ntmps55
 go_wp2_with fail
 refine(HHR.o w (aB _ _) g hg).mono ?_;rintro e w1 (⟨D,A6,c6,f6,e6,rfl,r6,m6,b6⟩|⟨e6,rfl,b6⟩)
 ·have R6:=U r6;have B6:=U b6;have M6:=U m6;have E6:=U (Ji e6);clear r6 b6 e6 m6;go_wp2_with fail
  go_ret2
  exact .inl ⟨D,A6,c6,f6,E6.o,rfl,R6.o,M6.o,B6.o⟩
 ·have B1:=U b6;have hrc:=J6 e6;rw[HND.o,HNG.o,HNC.o,Int.toNat_natCast,Int.toNat_natCast,Int.toNat_natCast]at hrc;have HRC:=U hrc;have s1:=b6.size;have lp1:p<w1.heap.size:=aE lp s1;have HSHF:=U (show∀W,Below w.heap.size w W→W.rangeAt p 0 [int i64 d.s.g,int i64 d.s.c,int i64 d.s.data,int i64 d.s.p,int i64 d.s.rows,int i64 d.s.cap,int i64 d.s.b,int i64 d.s.q,int i64 d.s.t]from fun W hW => by
   obtain⟨A0',A1',A2',c0',c1',c2',f0',f1',f2',HC1⟩:=(HH.o.below hW).cells;exact HC1.s)
  have HE:=U (Aj.emptyL (w:=w1));have hb2:Below w1.heap.size w1 (w1.alloc (.cells #[] 39)):=Af (aB _ _) _;have HB2:=U hb2;have HSH:=U (HSHF.o _ (b6.trans (hb2.mono s1)));have hall:=Gr d.s.sh HT.o.ok (w1.alloc (.cells #[] 39));unfold shV at hall;rw[show d.s.sh.g+d.s.sh.c=((ng+nc:Nat):Int)from by show d.s.g+d.s.c=_;rw[HNG.o,HNC.o];rfl]at hall;have HALL:=U hall;clear e6 b6 hrc hb2 hall;go_wp2_with (first
   |(refine aD rfl 31 (.tmp 28) rfl p 0 rfl _ _ HSH.o underlying31 rfl (by kernel_rfl) ?_)
   |(go_at_call 101;refine HALL.o.mono ?_;rintro e w2 ⟨rfl,b2⟩;have B2:=U (HB2.o.trans (b2.mono (by simp)));have HE3:=U (HE.o.below As.loc As.fix b2);clear b2))
  go_loopw [31,10,11,12,13] (fun i o _ _ _ wr =>∃(k:Nat) (A:Option Addr) (c3:Nat) (fo:List Addr),k≤ng+nc∧i= int i64 k∧o= .slice A k c3∧Hid (Aj 1 39 (Al 1 Ai) wr w1.heap.size o ((BA d row).take k) fo)∧Hid (Below w1.heap.size w1 wr)) (fun i _ _ _ _ _ => ng+nc - (intOf i).toNat)
  case atStart => exact⟨0,_,0,[],by omega,rfl,rfl,HE3.o,B2.o⟩
  case round =>
   obtain⟨k,A,c3,fo,hk,rfl,rfl,HO,HB⟩:=hrel;clear HE HE3 B2;have sB:=HB.o.size;have HBS:=U sB;have HBW:=U (B1.o.trans (HB.o.mono s1));by_cases hkn:k<ng+nc
   ·have HC:=U (HHR.o wr HBW.o k (by rw[HGL.o];exact hkn));have hst:=JF d row (show k<d.g.length by rw[HGL.o];exact hkn);have hlen:((BA d row).take k).length =k:=by rw[aQ,DB,HGL.o];omega
    have HST:=U hst.symm;have HLEN:=U hlen;have hki:(k:Int)<((ng:Int)+(nc:Int)):=by omega
    clear hst hlen;go_wp2_with fail
    refine HC.o.mono ?_;rintro e w3 (⟨D,A6,c6,f6,e6,rfl,r6,m6,b6⟩|⟨e6,rfl,b6⟩)
    ·have hs3:=HST.o;rw[e6,Option.getD_some]at hs3;have HAP:=U (Tryz.addAny (wr:=wr) (W:=w3.alloc (.cells #[.slice A6 D.length c6] 39)) (b:=w3.heap.size) (ve:=.slice A6 D.length c6) (f:=f6) (L:=D) HO.o HBS.o (by rw[HLEN.o];omega) (Af b6 _) (Blk.new _ _ _) (r6.below (Af (aB _ _) _)) (fun a ha => .inr (m6.from_ a ha)));rw[HLEN.o,hs3]at HAP;clear e6 r6 m6 b6 hs3;go_wp2_with (at_builtin;refine Ar rfl (.tmp 41) (.tmp 43) 83 rfl _ _ (by rfl) (by rfl) HAP.o ?_;rintro v8 w8 ⟨A8,c8,h8,rfl,o8,B8,e8,s8⟩;have HO8:=U o8;have HB8:=U B8;clear o8 B8 s8)
     go_roundw
     case rel => exact⟨k+1,A8,c8,_,by omega,by go_num,rfl,HO8.o,HB.o.trans HB8.o⟩
     case measure => simp[intOf];omega
    ·have hs3:=HST.o;rw[e6,Option.getD_none]at hs3;have HAP:=U (Tryz.addAny (wr:=wr) (W:=w3.alloc (.cells #[.slice none 0 0] 39)) (b:=w3.heap.size) (ve:=.slice none 0 0) (f:=[]) (L:=[]) HO.o HBS.o (by rw[HLEN.o];omega) (Af b6 _) (Blk.new _ _ _) (Ag.empty (by omega)) (fun a ha => by cases ha));rw[HLEN.o,hs3]at HAP;clear e6 b6 hs3;go_wp2_with (at_builtin;refine Ar rfl (.tmp 41) (.tmp 43) 83 rfl _ _ (by rfl) (by rfl) HAP.o ?_;rintro v8 w8 ⟨A8,c8,h8,rfl,o8,B8,e8,s8⟩;have HO8:=U o8;have HB8:=U B8;clear o8 B8 s8)
     go_roundw
     case rel => exact⟨k+1,A8,c8,_,by omega,by go_num,rfl,HO8.o,HB.o.trans HB8.o⟩
     case measure => simp[intOf];omega
   ·obtain rfl:k=ng+nc:=by omega
    have ho:=HO.o;have hll:(BA d row).length =ng+nc:=by rw[DB];exact HGL.o
    rw[bK (by omega)]at ho;obtain⟨gr,hgr,-⟩:=ho.reads;have hall4:=Ir HT.o hr;rw[HND.o,Int.toNat_natCast]at hall4;have HDC:=U (fun(W:World) (hW:Below wr.heap.size wr W) => NP ng nc (.slice A (ng+nc) c3) (BA d row) (gr ++ fo) W (4 * nd) (rSl.below As.loc As.fix hgr hW) hng1 hng4 hnc2 (by rw[hll];omega) hall4 (by omega));have hcs:=P6 d.s.sh wr;unfold shV at hcs;rw[show d.s.sh.g=(ng:Int)from HNG.o,show d.s.sh.c=(nc:Int)from HNC.o]at hcs;have hsh:=HSHF.o wr HBW.o;rw[HNG.o,HNC.o]at hsh;have HSH2:=U hsh;have HCS:=U hcs;have lp2:p<wr.heap.size:=aE lp1 sB;obtain⟨Y,hY⟩:∃Y,EQ (4 * nd) ng nc (BA d row)=Y:=⟨_,rfl⟩;rw[hY]at HDC HRC;have HY:=U hY;clear ho hll hgr hall4 hcs hsh hY;go_wp2_with (first
     |(refine aD rfl 31 (.tmp 49) rfl p 0 rfl _ _ HSH2.o underlying31 rfl (by kernel_rfl) ?_)
     |(go_at_call 47;refine HCS.o.mono ?_;rintro e w5 ⟨rfl,b5⟩;have HDD:=U (HDC.o w5 b5);have B5:=U (HBW.o.trans (b5.mono HBW.o.size));clear b5))
    refine HDD.o.mono ?_;rintro e w6 (⟨L,A9,c9,f9,e9,rfl,r9,m9,b9⟩|⟨e9,rfl,b9⟩)
    ·have hL:L.length=ng+nc:=by
      have h1:=HY.o;rw[e9]at h1;unfold EQ at h1;split at h1
      ·cases h1
      ·injection h1 with h1
       rw[← h1];exact DW _ _ _ _ _
     obtain⟨A9',c9',e9',-,-,hx9⟩:=As.open_ r9;injection e9' with e91 _ e93
     subst e91 e93;have hgl9:g<L.length:=by omega
     obtain⟨ad9,A10,c10,f10,e10,bl10,p10,r10,t10,s10,-⟩:=hx9 g hgl9;subst e10;have hgi:(g:Int)<(L.length:Int):=by omega
     have hm:=Ag.mine (lo:=w5.heap.size) r10 (fun a ha =>⟨m9.from_ a (s10 a ha),m9.free a (s10 a ha)⟩);have hR:Ew d g row=some (L[g]'hgl9):=by
      rw[HRC.o,e9,Option.map_some];simp[aJ,hL,hg2]
     have HR:=U hR;have HM:=U hm;have R10:=U r10;have B9:=U (B5.o.trans (b9.mono B5.o.size));clear hx9 r9 m9 b9 t10 s10 hm hR r10 hL e9;go_wp2_with fail
     go_ret2
     exact .inl ⟨L[g],A10,c10,f10,HR.o,rfl,R10.o,HM.o.mono B5.o.size,B9.o⟩
    ·have hR:Ew d g row=none:=by rw[HRC.o,e9];rfl
     have HR:=U hR;have B9:=U (B5.o.trans (b9.mono B5.o.size));clear b9 hR e9;go_wp2_with fail
     go_ret2
     exact .inr ⟨HR.o,rfl,B9.o⟩
def irF(d:Am)(g:Nat)(rows:List Int):Nat→Option (List UInt8)
 |0 => some []
 |k+1 =>(irF d g rows k).bind fun L =>((rows[k]?).bind fun r => Ew d g r.toNat).map fun b => L ++ b
theorem MV {d:Am} {g:Nat} {rows:List Int} {k:Nat} {L b:List UInt8}(h:irF d g rows k=some L)(hk:k<rows.length)(hb:Ew d g rows[k].toNat =some b):irF d g rows (k+1)=some (L ++ b):=by
 unfold irF;rw[h,aO hk];simp[hb]
theorem MU {d:Am} {g:Nat} {rows:List Int} {k:Nat}(hk:k<rows.length)(hb:Ew d g rows[k].toNat =none):irF d g rows (k+1)=none:=by
 unfold irF;rw[aO hk];cases irF d g rows k <;> simp[hb]
theorem irF_up {d:Am} {g:Nat} {rows:List Int} {k:Nat}(h:irF d g rows k=none):irF d g rows (k+1)=none:=by
 unfold irF;rw[h];rfl
theorem MT {d:Am} {g:Nat} {rows:List Int} {k:Nat}(h:irF d g rows k=none):∀n,irF d g rows (k+n)=none
 |0 => h
 |n+1 => irF_up (MT h n)
theorem Gn {d:Am}(hT:BR d) {g:Nat} {rows:List Int}(hg:g<d.g.length)(hr:∀r,r∈rows→0≤r∧r<d.s.rows):∀k,k≤rows.length→∀L,irF d g rows k=some L→L.length=k * (4 * d.s.data.toNat)
 |0,_,L,h => by simp[irF]at h;subst h;simp
 |k+1,hk,L,h => by
  have hk2:k<rows.length:=by omega
  unfold irF at h;rw[aO hk2]at h;cases h1:irF d g rows k with
  |none => rw[h1]at h;simp at h
  |some M =>
   rw[h1]at h;cases h2:Ew d g rows[k].toNat with
   |none => simp[h2]at h
   |some b =>
    simp[h2]at h;subst h;have h3:=Gn hT hg hr k (by omega) M h1;have h4:=hr _ (aN hk2);have h5:=Oh hT hg (row:=rows[k].toNat) (by omega) h2;rw[bC,h3,h5,Nat.add_mul,Nat.one_mul]
def Dk(d:Am)(r:Ah):Option (List UInt8) :=
 if 0<r.data.length then some r.data else(irF d (EV d.s.g r.name).toNat r.rows r.rows.length).map fun L => L.take r.length.toNat
structure FV (d:Am) (r:Ah):Prop where
 nm:r.name.size≤1000000
 dl:r.data.length≤1000000
 rl:r.rows.length≤6
 rw_:∀q,q∈r.rows→0≤q∧q<d.s.rows
 ln:r.data.length=0→0≤r.length∧r.length≤r.rows.length * (4 * d.s.data)
theorem Aj.cutB {w:World} {base n c xl C:Nat} {A:Option Addr} {L:List UInt8}(h:Aj 1 5 Ai w base (.slice A n c) L [])(hx:xl≤L.length)(h1:xl≤C)(h2:C≤9223372036854775807):∃fs,Ag w fs (.slice A xl C) (L.take xl)∧Aw base w fs:=by
 obtain⟨gs,r1,r2⟩:=h.readsMine ⟨List.nodup_nil,(fun a ha => by cases ha),(fun a ha => by cases ha)⟩;obtain⟨g1,g2,s1,-,s3⟩:=rSl.split r1 hx;have hl:(L.take xl).length =xl:=by rw[aQ];omega
 refine⟨g1,?_,Ag.mine (v:=.slice A xl c) s1 fun a ha => ?_⟩
 ·obtain⟨A',c',e,q1,q2,q3⟩:=s1;injection e with e1 e2 e3
  subst e1;exact⟨A,C,by rw[hl],by rw[hl];exact h1,h2,q3⟩
 ·have hm:a∈gs:=s3.subset (aX _ ha);exact⟨r2.from_ a hm,r2.free a hm⟩
theorem PT(ks:Nat)(hks:ks=9)(zS:∀w,(Go.sizeOf 31).run prog w= .ok ks w)(aS:∀w,(isAgg 31).run prog w= .ok true w)(p:Nat)(fs:List Addr)(d:Am)(x:Ah)(cs:List Value)(f:List Addr)(w:World)
  (h:AtW w p fs d) (hx:Ac w f cs x) (hT:BR d) (hI:FV d x) :
  Calls prog 74 #[.pointer (some ⟨p,0,none⟩),.agg cs.toArray] w (G4 (Dk d x) w):=by
 have hxx:=hx;dsimp only[Ac]at hx;obtain⟨v0,v1,v2,f0,f1,f2,e,-,-,-,-,-,-,-,r0,r1,r2⟩:=hx;subst e;obtain⟨A0,c0,rfl,-,-,hx0⟩:=AO.open_ r0;have HX0:=U hx0;clear hx0;obtain⟨A1,c1,rfl,-⟩:=rSl.head r1;obtain⟨A2,c2,rfl,-⟩:=rSl.head r2;obtain⟨nR,hnR⟩:∃nR,x.rows.length=nR:=⟨_,rfl⟩;obtain⟨nD,hnD⟩:∃nD,x.data.length=nD:=⟨_,rfl⟩;rw[hnR]at r0;rw[hnD]at r1;have HNR:=U hnR;have HND:=U hnD;obtain⟨nE,hnE⟩:∃nE,x.delta.length=nE:=⟨_,rfl⟩;rw[hnE]at r2;rw[hnR,hnD,hnE];obtain⟨W1,hW1⟩:∃W1,w.alloc (.cells #[int i64 x.kind,int i64 x.seq,.string x.name,int i64 x.length,int i64 x.group,int i64 x.row,.slice A0 nR c0,.slice A1 nD c1,.slice A2 nE c2] 119)=W1:=⟨_,rfl⟩;have hB1:Below w.heap.size w W1:=by rw[← hW1];exact(aB _ _).alloc (aC _) _
 have K1:Blk W1 w.heap.size 119 #[int i64 x.kind,int i64 x.seq,.string x.name,int i64 x.length,int i64 x.group,int i64 x.row,.slice A0 nR c0,.slice A1 nD c1,.slice A2 nE c2]:=by rw[← hW1];exact Blk.new w _ _
 have z1:W1.heap.size=w.heap.size+1:=by rw[← hW1];simp
 have HB1:=U hB1;have HA1:=U (h.below hB1);have HK1:=U K1;have HT:=U hT;have HI:=U hI;have hnl:=hI.dl;rw[hnD]at hnl;have p2:W1.cell? ⟨w.heap.size,2,none⟩=some (.string x.name):=(K1.cell 2).trans rfl;have p3:W1.cell? ⟨w.heap.size,3,none⟩=some (int i64 x.length):=(K1.cell 3).trans rfl;have p6:W1.cell? ⟨w.heap.size,6,none⟩=some (.slice A0 nR c0):=(K1.cell 6).trans rfl;have p7:W1.cell? ⟨w.heap.size,7,none⟩=some (.slice A1 nD c1):=(K1.cell 7).trans rfl;have lw:w.heap.size<W1.heap.size:=by omega
 have HZ1:=U z1;by_cases q:0<nD
 ·have e1:Dk d x=some x.data:=by unfold Dk;rw[hnD,aL q]
  rw[e1];have HCL:=U ((Gy _ x.data f1 W1 (rSl.below Ai.local_ Ai.fixed r1 hB1) (by omega)).mono fun e w' h => Ke.fresh h);have qi:(0:Int)<(nD:Int):=by omega
  clear r0 r1 r2 hB1 K1 z1 h hxx hT hI e1 hnR hnD hnE;go_enter func74,ntmps74
  go_wp2_with fail
  try rw[hW1]
  clear hW1;go_wp2_with (go_at_call 138;refine HCL.o.mono ?_;rintro e w2 ⟨A3,c3,f3,rfl,r3,m3,b3⟩;have R3:=U r3;have M3:=U m3;have B3:=U b3;clear r3 m3 b3)
  go_ret2
  exact .inl ⟨_,A3,c3,f3,rfl,rfl,R3.o,M3.o.mono (by have:=HZ1.o;omega),HB1.o.trans (B3.o.mono HB1.o.size)⟩
 ·obtain⟨gh,hgh⟩:∃gh:Nat,EV d.s.g x.name=(gh:Int):=⟨(EV d.s.g x.name).toNat,by have:=GC (nm:=x.name) (show 0<d.s.g from by have:=hT.ok.g.1;simp only[AX.sh]at this;omega);omega⟩;have hin:=GC (nm:=x.name) (show 0<d.s.g from by have:=hT.ok.g.1;simp only[AX.sh]at this;omega);have hgg:gh<d.g.length:=by have h1:=hT.gl;have h2:=hT.ok.c.1;simp only[AX.sh]at h2;omega
  have e1:Dk d x=(irF d gh x.rows nR).map fun L => L.take x.length.toNat:=by unfold Dk;rw[hnD,aI q,hnR,hgh,Int.toNat_natCast]
  rw[e1];have hl:=hI.ln (by omega);rw[hnR]at hl;have hrl:=hI.rl;rw[hnR]at hrl;have hdd:=hT.ok.data;simp only[AX.sh]at hdd;have hd3:d.s.data≤3:=by have:=hdd.2;omega
  have hlx:x.length≤1000:=by
   have h1:((nR:Int) * (4 * d.s.data))≤6 * (4 * 3):=Int.mul_le_mul (by omega) (by omega) (by omega) (by omega);omega
  have HLEN:=U (Gn hT (rows:=x.rows) hgg hI.rw_);have hsm:∀k,k≤nR→k * (4 * d.s.data.toNat)≤100:=fun k hk => by
   have h1:k * (4 * d.s.data.toNat)≤6 * (4 * 3):=Nat.mul_le_mul (by omega) (by omega);omega
  have HSM:=U hsm;have HLN:=U (show x.length.toNat≤nR * (4 * d.s.data.toNat)from by
   have:((nR * (4 * d.s.data.toNat):Nat):Int)=(nR:Int) * (4 * d.s.data):=by
    rw[Int.natCast_mul,Int.natCast_mul,Int.toNat_of_nonneg (by omega)];rfl
   omega)
  have HTR:=U (fun(W:World) (hW:Below w.heap.size w W) (m:Nat) (hm:(m:Int)<d.s.rows) => RI p fs d gh m W (h.below hW) hT hgg hm);have hho:=fun W => home_c d.s.sh hT.ok x.name hI.nm W
  unfold shV at hho;simp only[AX.sh]at hho;rw[hgh]at hho;have HHO:=U hho;have HKS:=U (show∀W,Below W1.heap.size W1 W→(Sem.run prog (loadCellsFrom ⟨p,0,none⟩ 0 ks #[]) W= .ok #[int i64 d.s.g,int i64 d.s.c,int i64 d.s.data,int i64 d.s.p,int i64 d.s.rows,int i64 d.s.cap,int i64 d.s.b,int i64 d.s.q,int i64 d.s.t] W∧W.cell? ⟨w.heap.size,2,none⟩=some (.string x.name))from fun W hW => by
   obtain⟨A0',A1',A2',c0',c1',c2',f0',f1',f2',HC⟩:=(HA1.o.below hW).cells;exact⟨HC.shapeRun ks hks,(hW.cell (p:=⟨w.heap.size,2,none⟩) lw).trans p2⟩)
  have HRW:=U hI.rw_;have HE:=U (Aj.emptyB (w:=W1));have hks0:¬ks=0:=by omega
  have hks1:0<ks:=by omega
  have hq:¬(0:Int)<(nD:Int):=by omega
  have hln0:=hl.1;clear r0 r1 r2 hB1 K1 z1 h hxx hT hI e1 hnR hnD hnE hin hgg hl hsm hho hgh hks;go_enter func74,ntmps74
  go_wp2_with fail
  try rw[hW1]
  clear hW1;go_wp2_with fail
  go_loopw [22,6,8,9,10] (fun i o _ _ _ wr =>∃(k:Nat) (A:Option Addr) (c3:Nat) (L:List UInt8),k≤nR∧i= int i64 k∧o= .slice A L.length c3∧Hid (irF d gh x.rows k=some L)∧Hid (Aj 1 5 Ai wr W1.heap.size o L [])∧Hid (Below W1.heap.size W1 wr)) (fun i _ _ _ _ _ => nR - (intOf i).toNat)
  case atStart => exact⟨0,_,0,[],by omega,rfl,rfl,rfl,HE.o,(aB _ _).alloc (aC _) _⟩
  case round =>
   obtain⟨k,A,c3,L,hk,rfl,rfl,HL,HO,HB⟩:=hrel;clear HE;have hbs:=HB.o.size;have HBW:=U (show Below w.heap.size w wr from HB1.o.trans (HB.o.mono HB1.o.size));by_cases hkn:k<nR
   ·have hkr:k<x.rows.length:=by rw[HNR.o];exact hkn
    have hki:(k:Int)<(nR:Int):=by omega
    obtain⟨ad,eA,-,b1,pc,-⟩:=HX0.o k hkr;subst eA;have hrw:=HRW.o _ (aN hkr);obtain⟨m,hm⟩:∃m:Nat,x.rows[k] =(m:Int):=⟨x.rows[k].toNat,by omega⟩;have pk:=(HBW.o.cell (p:=ad.add k) b1).trans pc;rw[hm]at pk hrw;have HML:=U hrw.2;have q0:=(HKS.o wr HB.o).1;have q2:=(HKS.o wr HB.o).2;cases hrf:Ew d gh m with
    |some D =>
     have HL2:=U (MV HL.o hkr (b:=D) (by rw[hm,Int.toNat_natCast];exact hrf));have HDL:=U (HLEN.o (k+1) (by omega) _ HL2.o);have hs2:=HSM.o (k+1) (by omega);rw[← HDL.o,bC]at hs2;have HT2:=U (fun(W:World) (hW:Below wr.heap.size wr W) =>(HTR.o W (HBW.o.trans (hW.mono HBW.o.size)) m HML.o).mono (R':=fun e w' =>∃A c fs,e= .returned (.tuple #[.slice A D.length c,.bool true])∧Ag w' fs (.slice A D.length c) D∧Aw W.heap.size w' fs∧Below W.heap.size W w') (by
      intro e w' hq;rw[hrf]at hq;rcases hq with⟨D',A,c,fs,e1,h2,h3,h4,h5⟩|⟨e1,-⟩
      ·injection e1 with e1;subst e1;exact⟨A,c,fs,h2,h3,h4,h5⟩
      ·cases e1))
     clear hrf pc b1 hrw hm hkr;go_wp2_with fail
     go_region_held3 (fun W => Sem.run prog (loadCellsFrom ⟨p,0,none⟩ 0 ks #[]) W= .ok #[int i64 d.s.g,int i64 d.s.c,int i64 d.s.data,int i64 d.s.p,int i64 d.s.rows,int i64 d.s.cap,int i64 d.s.b,int i64 d.s.q,int i64 d.s.t] W∧W.cell? ⟨w.heap.size,2,none⟩=some (.string x.name))
      (exact HKS.o _ (HB.o.trans (Below.mono (by repeat(with_reducible first|assumption|exact aB _ _|apply Af|apply An)) hbs)))
      (first
       |(go_at_call 139;refine(HHO.o _).mono ?_;rintro e w2 ⟨rfl,b2⟩;have B2:=Below.via (a:=wr) (by repeat(with_reducible first|assumption|exact aB _ _|apply Af|apply An)) b2)
       |(go_at_call 55;refine(HT2.o _ (by repeat(with_reducible first|assumption|exact aB _ _|apply Af|apply An))).mono ?_;rintro e w3 ⟨A6,c6,f6,rfl,r6,m6,b6⟩;have B3:=Below.via (a:=wr) (by repeat(with_reducible first|assumption|exact aB _ _|apply Af|apply An)) b6))
     have HAP:=U (Tryz.appendBytes (wr:=wr) (W:=w3) (v:=.slice A L.length c3) HO.o hbs B3 r6 (fun a ha => by have h1:=m6.from_ a ha;have h2:=B2.size;first|omega|(simp at h1;omega)) (by omega));have HB3:=U B3;clear r6 m6 b6 B3 q0 q2;go_wp2_with (at_builtin;refine Ar rfl (.tmp 41) (.tmp 42) 39 rfl _ _ (by rfl) (by rfl) HAP.o ?_;rintro v8 w8 ⟨A8,c8,rfl,o8,b8,s8⟩;have O8:=U o8;have B8:=U b8;clear o8 b8 s8)
     go_roundw
     case rel => exact⟨k+1,A8,c8,L ++ D,by omega,by go_num,by rw[bC],HL2.o,O8.o,HB.o.trans B8.o⟩
     case measure => simp[intOf];omega
    |none =>
     have HNO:=U (show irF d gh x.rows nR=none from by
      have h1:=MT (MU (g:=gh) hkr (by rw[hm,Int.toNat_natCast];exact hrf)) (nR - (k+1));rw[show k+1+(nR - (k+1))=nR from by omega]at h1;exact h1)
     have HT2:=U (fun(W:World) (hW:Below wr.heap.size wr W) =>(HTR.o W (HBW.o.trans (hW.mono HBW.o.size)) m HML.o).mono (R':=fun e w' => e= .returned (.tuple #[.slice none 0 0,.bool false])∧Below W.heap.size W w') (by
      intro e w' hq;rw[hrf]at hq;rcases hq with⟨D',A,c,fs,e1,-⟩|⟨e1,h2,h3⟩
      ·cases e1
      ·exact⟨h2,h3⟩))
     clear hrf pc b1 hrw hm hkr;go_wp2_with fail
     go_region_held3 (fun W => Sem.run prog (loadCellsFrom ⟨p,0,none⟩ 0 ks #[]) W= .ok #[int i64 d.s.g,int i64 d.s.c,int i64 d.s.data,int i64 d.s.p,int i64 d.s.rows,int i64 d.s.cap,int i64 d.s.b,int i64 d.s.q,int i64 d.s.t] W∧W.cell? ⟨w.heap.size,2,none⟩=some (.string x.name))
      (exact HKS.o _ (HB.o.trans (Below.mono (by repeat(with_reducible first|assumption|exact aB _ _|apply Af|apply An)) hbs)))
      (first
       |(go_at_call 139;refine(HHO.o _).mono ?_;rintro e w2 ⟨rfl,b2⟩;have B2:=Below.via (a:=wr) (by repeat(with_reducible first|assumption|exact aB _ _|apply Af|apply An)) b2)
       |(go_at_call 55;refine(HT2.o _ (by repeat(with_reducible first|assumption|exact aB _ _|apply Af|apply An))).mono ?_;rintro e w3 ⟨rfl,b6⟩;have B3:=Below.via (a:=wr) (by repeat(with_reducible first|assumption|exact aB _ _|apply Af|apply An)) b6))
     have HB3:=U B3;clear b6 B3 q0 q2;go_wp2_with fail
     go_ret2
     exact .inr ⟨by rw[HNO.o];rfl,rfl,HBW.o.trans (HB3.o.mono HBW.o.size)⟩
   ·obtain rfl:k=nR:=by omega
    have hll:=HLEN.o k (by rw[HNR.o];omega) _ HL.o;have hln:=HLN.o;obtain⟨A',c',e9,hc1,hc2⟩:=HO.o.length;injection e9 with e91 _ e93
    subst e91 e93;obtain⟨xl,hxl⟩:∃xl:Nat,x.length=(xl:Int):=⟨x.length.toNat,by omega⟩;rw[hxl,Int.toNat_natCast]at hln;have p3':=(HB.o.cell (p:=⟨w.heap.size,3,none⟩) lw).trans p3;rw[hxl]at p3';have hxL:xl≤L.length:=by omega
    obtain⟨gs,r8,m8⟩:=Aj.cutB (C:=xl) HO.o hxL (aC _) (by omega);have R8:=U r8;have M8:=U (m8.mono (show w.heap.size≤W1.heap.size from by omega));have hxc:xl≤c3:=by omega
    have HXL:=U hxl;have hlt2:(L.take xl).length =xl:=by rw[aQ];omega
    have HLT:=U hlt2;clear hll hln hxl r8 m8 hlt2 hln0 p3;go_wp2_with fail
    go_ret2
    exact .inl ⟨L.take xl,A,xl,gs,by rw[HL.o,HXL.o];rfl,by rw[HLT.o];rfl,by rw[HLT.o];exact R8.o,M8.o,HBW.o⟩
theorem PS(p:Nat)(fs:List Addr)(d:Am)(x:Ah)(cs:List Value)(f:List Addr)(w:World)
  (h:AtW w p fs d) (hx:Ac w f cs x) (hT:BR d) (hI:FV d x) :
  Calls prog 74 #[.pointer (some ⟨p,0,none⟩),.agg cs.toArray] w (G4 (Dk d x) w) :=
 PT 9 rfl sizeOf31 isAgg31 p fs d x cs f w h hx hT hI
theorem Tryz.appendAny {wr:World} {base:Nat} {v u:Value} {ds L:List UInt8} {gs:List Addr}(ho:Aj 1 5 Ai wr base v ds [])(hbase:base≤wr.heap.size)(hr:Ag wr gs u L)(hg:∀a,a∈gs→a.block<base)(hn:ds.length+L.length≤1000000000) :
  ∃v' w',(Builtin.append_ #[39,39] 39 #[v,u]).run prog wr= .ok v' w'∧∃A c,v'= .slice A (ds.length+L.length) c∧Aj 1 5 Ai w' base v' (ds ++ L) []∧Below base wr w'∧wr.heap.size≤w'.heap.size:=by
 obtain⟨v',w',h1,hs,h2,h3,h4,h5⟩:=Aj.appendRun (P:=prog) 39 39 (.int .u8 0) 1 underlying39 Tryz.info5 rfl (by decide) Ai.local_ Ai.fixed Ev base v ds [] ho u L gs hr (fun a ha e => by
  have:=(ho.lt _ e).1;have:=hg a ha;omega) hn (by omega) hbase
 have h6:=h2.flatBytes;rw[h6]at h2;obtain⟨A,c,e,-⟩:=h2.length;exact⟨v',w',h1,A,c,by rw[e,bC],h2,Below.grown (aB _ _) h4 hbase (fun k hk =>(ho.lt k hk).1),h4.size⟩
theorem l2Join_c(v:Value)(Ls:List (List UInt8))(f:List Addr)(w:World)(h:As w f v Ls)(hn:Ls.flatten.length≤1000000) :
  Calls prog 134 #[v] w (By Ls.flatten w):=by
 obtain⟨A0,c0,rfl,hc,hm,hx⟩:=As.open_ h;have HT:=U (rSl.there As.fix h);have HX:=U hx;have HE:=U (Aj.emptyB (w:=w));have HFL:=U (show∀k,k≤Ls.length→(Ls.take k).flatten.length≤1000000 from fun k _ => by
  have h1:Ls.flatten=(Ls.take k).flatten ++(Ls.drop k).flatten:=by rw[← List.flatten_append,List.take_append_drop]
  rw[h1,bC]at hn;omega)
 clear h hx;go_enter func134,ntmps134
 go_wp2_with fail
 go_loopw [4,3] (fun i o wr =>∃(k:Nat) (A:Option Addr) (c:Nat) (D:List UInt8),k≤Ls.length∧i= int i64 k∧o= .slice A D.length c∧Hid (D=(Ls.take k).flatten)∧Hid (Aj 1 5 Ai wr w.heap.size o D [])∧Hid (Below w.heap.size w wr)) (fun i _ _ => Ls.length - (intOf i).toNat)
 case atStart => exact⟨0,_,0,[],by omega,rfl,rfl,rfl,HE.o,(aB _ _).alloc (aC _) _⟩
 case round =>
  obtain⟨k,A,c,D,hk,rfl,rfl,HD,HO,HB⟩:=hrel;clear HE;by_cases hlt:k<Ls.length
  ·obtain⟨ad,A9,c9,f9,rfl,bl9,p9,r9,-,hs9,-⟩:=HX.o k hlt;have pk:=(HB.o.cell (p:=ad.add k) bl9).trans p9;have hki:(k:Int)<(Ls.length:Int):=by omega
   have hst:(Ls.take (k+1)).flatten =D ++ Ls[k]:=by rw[HD.o,aM hlt,List.flatten_append];simp
   have hle:=HFL.o (k+1) (by omega);rw[hst,bC]at hle;have HST:=U hst;have HAP:=U (Tryz.appendAny (wr:=wr) HO.o HB.o.size (rSl.below Ai.local_ Ai.fixed r9 HB.o) (fun a ha => HT.o a (hs9 a ha)) (by omega));clear hst r9 p9;go_wp2_with (at_builtin;refine Ar rfl (.tmp 12) (.tmp 16) 39 rfl _ _ (by rfl) (by rfl) HAP.o ?_;rintro v8 w8 ⟨A8,c8,rfl,o8,b8,s8⟩;have O8:=U o8;have B8:=U b8;clear o8 b8 s8)
   go_roundw
   case rel => exact⟨k+1,A8,c8,D ++ Ls[k],by omega,by go_num,by rw[bC],HST.o.symm,O8.o,HB.o.trans B8.o⟩
   case measure => simp[intOf];omega
  ·obtain rfl:k=Ls.length:=by omega
   have hd:=HD.o;rw[aV]at hd;have HD2:=U hd;clear hd;go_wp2_with fail
   go_ret
   rw[← HD2.o];exact Aj.freshB HO.o HB.o
