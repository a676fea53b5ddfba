/- Part 15 of the proof. -/
import Derived.Test.YtfjkoifpdoemdaaGreatJ14
set_option maxHeartbeats 8000000
set_option maxRecDepth 100000
set_option linter.unusedVariables false
set_option linter.unusedSimpArgs false
open Go.Proofs.Tryz
open Go.Value (int)
open Go.IntKind (i64)
namespace Go.Proofs.YtfjkoifpdoemdaaGreat
open Go.RowKit Go.Sort
theorem Qm {α:Type}(f:α→Value)(l:List α):(l.map fun x => [f x]).flatten =l.map f:=by
 induction l with
 |nil => rfl
 |cons a r ih => simp[ih]
theorem Aj.ofBytes {w:World} {base:Nat} {v:Value} {xs:List UInt8}(h:w.ownsRow base 5 1 v xs.length (xs.map Be)):Aj 1 5 Ai w base v xs []:=by
 refine⟨xs.map fun x => [Be x],xs.map fun _ => [],by simp,by simp,?_,by rw[Qm];exact h,fun i hi =>⟨by simpa using hi,by simpa using hi,by simp,?_⟩,fun a ha => by cases ha⟩
 ·have:(xs.map fun _ =>([]:List Addr)).flatten = []:=by simp[List.flatten_eq_nil_iff]
  rw[this]
 ·simp only[bQ];exact⟨rfl,rfl⟩
theorem OQ(v:Value)(xs:List UInt8)(fs:List Addr)(w:World)(h1:Ag w fs v xs)(hsm:xs.length≤1048576) :
  Calls prog 138 #[v] w fun e w' =>∃A c,e= .returned (.slice A xs.length c)∧Aj 1 5 Ai w' w.heap.size (.slice A xs.length c) xs []∧Below w.heap.size w w':=by
 obtain⟨i0,hi,hz0,hz1,hz2⟩:=info_parts Tryz.info5;have q22:∀(w:World) (a:Option Addr) (n c n' c':Nat),(binOp .eql 39 (.slice a n c) (.slice none n' c')).run prog w= .ok (.bool a.isNone) w:=fun w a n c n' c' => Lib.run_eql_slice_nil w _ _ a n c n' c' underlying39
 have H1:=U h1;obtain⟨A1,c1,rfl,hc1,hm1,hx⟩:=h1.form;clear h1;cases A1 with
 |none =>
  have hxs:xs= []:=by
   rcases hx with⟨rfl,_⟩|⟨ad,e,_⟩
   ·rfl
   ·cases e
  subst hxs;clear hx;go_enter func138,ntmps138
  go_wp2_with fail
  go_ret
  exact⟨_,_,rfl,Aj.start ⟨rfl,.inl ⟨rfl,rfl⟩⟩,aB _ _⟩
 |some ad =>
  clear hx;have hce:=U (Ag.cells (H1.o.below ((aB w.heap.size w).alloc (aC _) (.cells #[] 5))));go_enter func138,ntmps138
  go_wp2_with (at_builtin;refine wpList_append_own _ rfl _ _ 39 rfl w.heap.size 5 i0 (.int .u8 0) 1 1 underlying39 hi hz0 hz1 hz2 rfl (by decide) _ _ _ rfl (World.ownsRow_lit w #[] 0 (aC _) (Nat.zero_le _) rfl) ad xs.length c1 (xs.map Be) rfl ?qc1 hce.o ?qc3 ?qc4 ?qc5 ?qc6 ?_)
  case qc1 => simp
  case qc3 => intro u hu;obtain⟨x,_,rfl⟩:=List.mem_map.1 hu;rfl
  case qc4 => unfold maxLen;omega
  case qc5 => omega
  case qc6 => simp
  intro v' w1 hown hgrow hnil;have HB:=U (((aB w.heap.size w).alloc (aC _) (.cells #[] 5)).grown hgrow (by simp) (by intro k hk;simp[Value.ownBlock]at hk;omega));have HO:=U hown;clear hown hgrow hnil;go_wp2
  go_ret
  have ho:=Aj.ofBytes HO.o;obtain⟨A,c,rfl,-⟩:=ho.length;exact⟨A,c,rfl,ho,HB.o⟩
def Do(rows:List (List UInt8))(right:List UInt8):List (List UInt8):=List.zipWith (fun r b => r ++ [b]) rows right
def Eb(rows:List (List UInt8))(right:List UInt8):Option (List UInt8) :=
 if(BH rows.length 0 0 (Do rows right)).1<rows.length then none else some ((BH rows.length 0 0 (Do rows right)).2.map fun r => at0 r rows.length)
theorem JA {rows:List (List UInt8)} {right:List UInt8}(h:rows.length≤right.length):(Do rows right).length =rows.length:=by simp[Do];omega
theorem MA {rows:List (List UInt8)} {right:List UInt8} {n:Nat}(h:Ci rows n):Ci (Do rows right) (n+1):=by
 intro l hl;obtain⟨i,hi,rfl⟩:=aY hl;simp only[Do,List.length_zipWith]at hi;simp only[Do,List.getElem_zipWith,bC,List.length_cons,List.length_nil];rw[h _ (aN _)]
theorem augM_get {rows:List (List UInt8)} {right:List UInt8} {i:Nat}(h:i<rows.length)(h2:i<right.length):(Do rows right).getD i [] =rows[i] ++ [right[i]]:=by
 rw[aJ,aO (by simp[Do];omega)];simp[Do]
def Dw(ms:List (List UInt8))(n j:Nat):List (List UInt8):=ms.take j ++ List.replicate (n - j) []
theorem Na {ms:List (List UInt8)} {n j i:Nat}(hl:ms.length=n)(h:j≤i)(hi:i<n):(Dw ms n j).getD i [] = []:=by
 rw[aJ,Dw,List.getElem?_append_right (by simp;omega),List.getElem?_replicate];split <;> rfl
theorem Pk {ms:List (List UInt8)} {n j:Nat}(hl:ms.length=n)(h:j<n):(Dw ms n j).set j (ms.getD j [])=Dw ms n (j+1):=by
 apply bP
 ·simp[Dw];omega
 ·intro i h1 h2;simp only[List.getElem_set,Dw,List.getElem_append,aQ,List.getElem_take,List.getElem_replicate];by_cases e:j=i
  ·subst e;rw[aL rfl,dif_pos (by omega),aJ,aO (by omega)];rfl
  ·rw[aI e];by_cases h3:i<j
   ·rw[dif_pos (by omega),dif_pos (by omega)]
   ·rw[dif_neg (by omega),dif_neg (by omega)]
theorem QY {ms:List (List UInt8)} {n:Nat}(hl:ms.length=n):Dw ms n n=ms:=by simp[Dw,← hl]
theorem Mat.nil {w:World} {g n:Nat} {t:TypeId}(h:Blk w g t (madeCells #[.slice none 0 0] n)):Mat w g n (Dw [] n 0):=by
 refine⟨by simp[Dw],h.lt,fun i hi =>⟨none,0,[],?_,?_,fun a ha => by cases ha⟩,fun i _ => h.frozen i⟩
 ·rw[h.cell];have:(Dw [] n 0).getD i [] = []:=by simp[Dw,aJ,List.getElem?_replicate];split <;> rfl
  rw[this];simp only[madeCells,Array.getElem?_map,Array.getElem?_range];rw[aL hi];simp[Nat.mod_one]
 ·have:(Dw [] n 0).getD i [] = []:=by simp[Dw,aJ,List.getElem?_replicate];split <;> rfl
  rw[this];exact Ag.empty (by omega)
theorem Pm(ms:List (List UInt8))(n:Nat):Dw ms n 0=Dw [] n 0:=by simp[Dw]
theorem Tryz.infoBytes:(prog.info? 39).map (fun i =>(i.zero,i.size,i.bytes))=some (some (.slice none 0 0),1,24):=by kernel_rfl
theorem Tryz.makeLists(n:Nat)(hn:n≤1000000)(w0:World):(Instr.makeSlice 83 (int i64 (n:Int)) (int i64 (n:Int))).run prog w0= .ok (.slice (some ⟨w0.heap.size,0,none⟩) n n) (w0.alloc (.cells (madeCells #[.slice none 0 0] n) 39)):=by
 have h:=CM prog 83 39 (.slice none 0 0) 1 24 underlying83 Tryz.infoBytes n (by omega) (by omega) w0;rw[Nat.mul_one]at h;exact h
theorem OH(v1 v2:Value)(rows:List (List UInt8))(right:List UInt8)(f1 f2:List Addr)(w:World)(n:Nat)(h1:As w f1 v1 rows)(h2:Ag w f2 v2 right)(hl:rows.length=n)(hA:Ci rows n)(hr:n≤right.length)(hn:n≤100) :
  Calls prog 262 #[v1,v2] w fun e w' =>(∃A c fs L,Eb rows right=some L∧L.length=n∧e= .returned (.tuple #[.slice A n c,.bool true])∧Ag w' fs (.slice A n c) L∧Aw w.heap.size w' fs∧Below w.heap.size w w')∨(Eb rows right=none∧e= .returned (.tuple #[.slice none 0 0,.bool false])∧Below w.heap.size w w'):=by
 have H1:=U h1;have H2:=U h2;obtain⟨A1,c1,rfl,hc1,hm1,hx⟩:=As.open_ h1;obtain⟨A2,c2,rfl,hc2,hm2,hy⟩:=Ag.open_ h2;have HX:=U hx;have HY:=U hy;have HA:=U hA;have HL:=U hl;clear h1 h2 hx hy hA;rw[hl]at hc1⊢;have hal:=JA (rows:=rows) (right:=right) (by omega);rw[hl]at hal;have HAL:=U hal;clear hal hl;have hmk:=Tryz.makeLists n (by omega);go_enter func262,ntmps262
 go_wp2_with fail
 obtain⟨g,hg⟩:∃g,w.heap.size=g:=⟨_,rfl⟩;have HZ:=U (Mat.nil (Blk.new w 39 (madeCells #[.slice none 0 0] n)));have B0:=U (Af (aB w.heap.size w) (.cells (madeCells #[.slice none 0 0] n) 39));rw[hg]at HZ B0⊢;have HG:=U hg;clear hg;go_loopw [17,7,8] (fun i _ _ wr =>∃j:Nat,j≤n∧i= int i64 j∧Mat wr g n (Dw (Do rows right) n j)∧Below g w wr) (fun i _ _ _ => n - (intOf i).toNat)
 case atStart => exact⟨0,by omega,rfl,by rw[Pm];exact HZ.o,B0.o⟩
 case round =>
  obtain⟨j,hj,rfl,hm,hb⟩:=hrel;clear hmk;by_cases hlt:j<n
  ·have hjr:j<rows.length:=by rw[HL.o];exact hlt
   have hjr2:j<right.length:=by omega
   obtain⟨ad,A3,c3,fk,e1,b1,p1,r1,t1,-,-⟩:=HX.o j hjr;subst e1;obtain⟨a2,e2,m2,b2,g2⟩:=HY.o j hjr2;subst e2;have hlj:=HA.o _ (aN hjr);rw[hlj]at p1 r1;rw[HG.o]at b1 b2;have p1':=(hb.cell (p:=_) b1).trans p1;have p2:=(hb.cell (p:=a2.add j) b2).trans g2;have fr:=hm.free j hlt;have gz:=hm.lt;have hgw:g≤wr.heap.size:=Nat.le_of_lt gz;have b2w:(a2.add j).block <wr.heap.size:=aE b2 hgw;have hge:=Na (j:=j) (i:=j) HAL.o (aC _) hlt;obtain⟨Ao,co,fo,po,-,-⟩:=hm.row j hlt;rw[hge]at po;have hag:=augM_get (rows:=rows) (right:=right) hjr hjr2;have hst:=Pk (j:=j) HAL.o hlt;rw[hag]at hst;have hBw:∀(W:World),Below wr.heap.size wr W→Ag W fk (.slice A3 n c3) rows[j]:=fun W hW => Ag.below (rSl.keep Ai.local_ r1 (AQ.of_below (fun a ha => by have:=t1 a ha;rw[HG.o]at this;exact this) hb)) hW
   have HCL:=U (show∀W,Below wr.heap.size wr W→Calls prog 138 #[.slice A3 n c3] W fun e w' =>∃A c,e= .returned (.slice A n c)∧Aj 1 5 Ai w' wr.heap.size (.slice A n c) rows[j] []∧Below wr.heap.size wr w'∧∀b t cs,Blk W b t cs→Blk w' b t cs from fun W hW => by
    have:=OQ (.slice A3 n c3) rows[j] fk W (hBw W hW) (by rw[hlj];omega);rw[hlj]at this;refine this.mono ?_;rintro e w' ⟨A,c,rfl,ho,hb'⟩;exact⟨A,c,rfl,ho.mono hW.size,hW.trans (hb'.mono hW.size),fun b t cs hk => hk.below hb' hk.lt⟩)
   have HAP:=U (show∀(w3 W:World) (A4:Option Addr) (c4 b:Nat) (base:Nat),base≤w3.heap.size→Aj 1 5 Ai w3 base (.slice A4 n c4) rows[j] []→Below w3.heap.size w3 W→Blk W b 5 #[.int .u8 (right[j].toNat:Int)]→∃v' w',(Builtin.append_ #[39,39] 39 #[.slice A4 n c4,.slice (some ⟨b,0,none⟩) 1 1]).run prog W= .ok v' w'∧∃A c,v'= .slice A (n+1) c∧Aj 1 5 Ai w' base v' (rows[j] ++ [right[j]]) []∧Below base w3 w'∧w3.heap.size≤w'.heap.size from fun w3 W A4 c4 b base hbs ho hB hk => by
    have:=Fj (x:=right[j]) ho hbs (by rw[hlj];omega) hB hk;rw[hlj]at this;exact this)
   have HMJ:=U hm;have HB:=U hb;have HLJ:=U hlj;have HST:=U hst;clear hBw hm hb p1 g2 r1 t1 hlj hge hag hst;go_wp2_with fail
   go_region_law (first
    |(refine AR rfl (.tmp 25) (.tmp 30) 39 rfl _ _ (by rfl) (by rfl) (HAP.o w3 _ A4 c4 _ _ B3.o.size O3.o (by repeat(with_reducible first|exact aB _ _|apply Af|apply An)) (by first|(with_reducible exact Blk.new _ _ _)|(refine K3.o _ _ _ ?_;repeat(with_reducible first|exact Blk.new _ _ _|apply Blk.drew_|apply Blk.alloc)))) ?_;rintro v6 w6 ⟨A6,c6,rfl,o6,B6,e6⟩;have O6:=U o6;have B7:=U (B3.o.trans (B6.mono (by exact aC _)));have q3:w6.cell? ⟨g,j,none⟩=some (.slice Ao 0 co):=(B7.o.cell (p:=⟨g,j,none⟩) gz).trans po;have fr3:w6.frozen? ⟨g,j,none⟩=false:=(B7.o.frozen (p:=⟨g,j,none⟩) gz).trans fr;have gz3:g<w6.heap.size:=aE gz B7.o.size;clear o6 B6)
    |(go_simp;go_at_call 138;refine(HCL.o _ (by repeat(with_reducible first|exact aB _ _|apply An|apply Af))).mono ?_;rintro e w3 ⟨A4,c4,rfl,o3,b3,k3⟩;dsimp only;have B3:=U b3;have O3:=U o3;have K3:=U k3;clear k3;have p3:w3.cell? (a2.add j)=some (.int .u8 (right[j].toNat:Int)):=(B3.o.cell (p:=a2.add j) b2w).trans p2;have z3:(a2.add j).block <w3.heap.size:=aE b2w B3.o.size;clear o3 b3))
   all_goals
    go_wp2_with fail
    go_roundw
    case rel =>
     obtain⟨gs,r6,m6⟩:=O6.o.readsMine ⟨List.nodup_nil,(fun a ha => by cases ha),(fun a ha => by cases ha)⟩;have h1:=(HMJ.o.below B7.o).put hlt (m:=n+1) (by rw[bC,HLJ.o];rfl) r6 (fun a ha e => by have:=m6.from_ a ha;rw[e]at this;omega);rw[HST.o]at h1;exact⟨j+1,by omega,by go_num,by first|exact h1|exact h1.drew_,by first|exact(HB.o.trans (B7.o.mono hgw)).setCell (aC _) _⟩
    case measure => simp[intOf];omega
  obtain rfl:j=n:=by omega
  rw[QY HAL.o]at hm;have HMJ:=U hm;have HB:=U hb;clear hm hb;obtain⟨rk,hrk⟩:∃rk,(BH j 0 0 (Do rows right)).1=rk:=⟨_,rfl⟩;obtain⟨ms2,hms⟩:∃ms2,(BH j 0 0 (Do rows right)).2=ms2:=⟨_,rfl⟩;have hsf:Eb rows right=if rk<j then none else some (ms2.map fun r => at0 r j):=by
   unfold Eb;rw[HL.o,hrk,hms]
  have HSF:=U hsf;have HRD:=U (reduce_c g j j (j+1) j (Do rows right) wr HMJ.o (MA HA.o) (by omega) (by omega) (by omega) (aC _) (by omega));rw[hrk,hms]at HRD;clear hrk hms hsf;have hgw:g≤wr.heap.size:=Nat.le_of_lt HMJ.o.lt;go_wp2_with fail
  refine HRD.o.mono ?_;rintro e w2 ⟨rfl,hm2,ha2,hw2⟩;have HM2:=U hm2;have HA2:=U ha2;have HB2:=U (HB.o.trans (hw2.below hgw (fun a ha => by rw[CY ha];exact aC _)));clear hm2 ha2 hw2 HRD;by_cases hrl:rk<j
  ·have h:=HSF.o;rw[aL hrl]at h;have HS:=U h;clear h;go_wp2_with fail
   go_ret2
   exact .inr ⟨HS.o,rfl,by rw[HG.o];exact HB2.o⟩
  have h:=HSF.o;rw[aI hrl]at h;have HS:=U h;clear h;go_wp2_with fail
  go_loopw [44,9,11] (fun i o _ w3 =>∃(k:Nat) (A:Option Addr) (c3:Nat),k≤j∧i= int i64 k∧o= .slice A k c3∧Aj 1 5 Ai w3 w2.heap.size o ((ms2.map fun r => at0 r j).take k) []∧Below w2.heap.size w2 w3) (fun i _ _ _ => j - (intOf i).toNat)
  case atStart => exact⟨0,_,0,by omega,rfl,rfl,Aj.emptyB,Af (aB _ _) _⟩
  case round =>
   obtain⟨k,A,c3,hk,rfl,rfl,ho,hb3⟩:=hrel;have hml:(ms2.map fun r => at0 r j).length =j:=by rw[bR,HM2.o.len]
   by_cases hkj:k<j
   ·obtain⟨ad,ca,fa,p1,p2,r1,n1,b1,d1⟩:=HM2.o.at_ HA2.o hkj (show j<j+1 by omega);have p1':=(hb3.cell (p:=⟨g,k,none⟩) HM2.o.lt).trans p1;have p2':=(hb3.cell (p:=ad.add j) b1).trans p2;have hlen:((ms2.map fun r => at0 r j).take k).length =k:=by rw[aQ,hml];omega
    have hst:(ms2.map fun r => at0 r j).take k ++ [at0 (ms2.getD k []) j] =(ms2.map fun r => at0 r j).take (k+1):=by
     rw[aM (by omega)];simp[aJ,HM2.o.len,hkj]
    have HAP:=U (Fj (W:=wr.alloc (.cells #[.int .u8 ((at0 (ms2.getD k []) j).toNat:Int)] 5)) (b:=wr.heap.size) (x:=at0 (ms2.getD k []) j) ho hb3.size (by omega) (Af (aB _ _) _) (Blk.new _ _ _));rw[hlen,hst]at HAP;have HB3:=U hb3;clear ho hb3 p1 p2 r1 n1 hlen hst;go_wp2_with (at_builtin;refine Ar rfl (.tmp 48) (.tmp 54) 39 rfl (.slice A k c3) (.slice (some ⟨wr.heap.size,0,none⟩) 1 1) rfl rfl HAP.o ?_;rintro v6 w6 ⟨A6,c6,rfl,o6,B6,e6⟩;have HO6:=U o6;have HB6:=U B6;clear o6 B6)
    go_roundw
    case rel => exact⟨k+1,A6,c6,by omega,by go_num,rfl,HO6.o,HB3.o.trans HB6.o⟩
    case measure => simp[intOf];omega
   ·obtain rfl:k=j:=by omega
    rw[bK (by omega)]at ho;have HO:=U ho;have HB3:=U hb3;clear ho hb3;go_wp2_with fail
    go_ret2
    obtain⟨gs,r6,m6⟩:=HO.o.readsMine ⟨List.nodup_nil,(fun a ha => by cases ha),(fun a ha => by cases ha)⟩;have hsz:g≤w2.heap.size:=Nat.le_of_lt HM2.o.lt;exact .inl ⟨A,c3,gs,_,HS.o,hml,rfl,r6,m6.mono (by rw[HG.o];exact hsz),by rw[HG.o];exact HB2.o.trans (HB3.o.mono hsz)⟩
