/-
  Part 29 of the proof; the last part states and proves the statement.
-/
import Derived.Test.YtfjkoifpdoemdaaGreatR18
import Derived.Test.YtfjkoifpdoemdaaGreatQ05
import Derived.Test.YtfjkoifpdoemdaaGreatR26
set_option maxHeartbeats 8000000
set_option maxRecDepth 100000
set_option linter.unusedVariables false
set_option linter.unusedSimpArgs false
namespace Go.Proofs.YtfjkoifpdoemdaaGreat
open Go.RowKit Go.Lib Go.Sort
def parPart (m n:Nat) (ls:List (List UInt8)) (j:Nat):List UInt8:=mixL m ls (genL n (n + j) 8)
def parAt (m n:Nat) (ls:List (List UInt8)) (k:Nat):List (List UInt8):=(List.range k).map (parPart m n ls)
theorem parAt_step (m n:Nat) (ls:List (List UInt8)) (k:Nat):parAt m n ls (k + 1) = parAt m n ls k ++ [parPart m n ls k]:=by unfold parAt;rw [List.range_succ,List.map_append];rfl
theorem parAt_length (m n:Nat) (ls:List (List UInt8)) (k:Nat):(parAt m n ls k).length = k:=by simp [parAt]
theorem parPart_length {m n:Nat} {ls:List (List UInt8)} (hl:ls.length = n) (hm:∀ l,l ∈ ls → l.length = m) (j:Nat):(parPart m n ls j).length = m:=mixL_length hm (by rw [genL_length,hl];exact Nat.le_refl _)
def fitsF (m n s:Nat) (ls:List (List UInt8)):Bool:=decide (parAt m n (ls.take n) s = ls.drop n)
theorem parity_c (m n s:Nat) (v:Value) (ls:List (List UInt8)) (f:List Addr) (w:World) (h:rLists w f v ls) (hl:ls.length = n) (hm:∀ l,l ∈ ls → l.length = m) (h1:1 ≤ n) (h4:n ≤ 4) (hs:s ≤ 2) (hm1:m ≤ 1000) :
  Calls Tryz.prog 104 #[.agg #[.int .i64 (n:Int),.int .i64 (s:Int)],v] w (FreshLs (parAt m n ls s) w):=by
 obtain ⟨Ap,cp,rfl,-⟩:=rSl.head h
 have HR:=hid h
 rw [hl] at HR ⊢
 have HL:=hid hl
 have HM:=hid hm
 have hB1:Below w.heap.size w (w.alloc (.cells #[.int .i64 (n:Int),.int .i64 (s:Int)] 96)):=(Below.refl _ _).alloc (Nat.le_refl _) _
 have HB1:=hid hB1
 obtain ⟨W1,hW1⟩:∃ W1,w.alloc (.cells #[.int .i64 (n:Int),.int .i64 (s:Int)] 96) = W1:=⟨_,rfl⟩
 have K1:Blk W1 w.heap.size 96 #[.int .i64 (n:Int),.int .i64 (s:Int)]:=by rw [← hW1];exact Blk.new w _ _
 rw [hW1] at HB1
 have gz:w.heap.size < W1.heap.size:=K1.lt
 have c0':W1.cell? ⟨w.heap.size,0,none⟩ = some (.int .i64 (n:Int)):=(K1.cell 0).trans rfl
 have c1':W1.cell? ⟨w.heap.size,1,none⟩ = some (.int .i64 (s:Int)):=(K1.cell 1).trans rfl
 have HE:=hid (OwnL.emptyL (w:=W1))
 have HE2:=hid (belowAlloc (Below.refl W1.heap.size W1) (.cells #[] 39))
 clear h hl hm hB1 K1
 go_enter Tryz.func104,Tryz.ntmps104
 go_wp2_with fail
 try rw [hW1]
 clear hW1
 go_loopw [10,5,6] (fun i o _ wr => ∃ (k:Nat) (A:Option Addr) (c3:Nat) (fo:List Addr),k ≤ s ∧ i = .int .i64 k ∧ o = .slice A k c3 ∧ Hid (OwnL 1 39 (rSlice 1 rByte) wr W1.heap.size o (parAt m n ls k) fo) ∧ Hid (Below W1.heap.size W1 wr)) (fun i _ _ _ => s - (intOf i).toNat)
 case atStart => exact ⟨0,_,0,[],by omega,rfl,rfl,HE.out,HE2.out⟩
 case round =>
  obtain ⟨k,A,c3,fo,hk,rfl,rfl,HO,HB⟩:=hrel
  clear HE HE2
  have HBS:=hid HB.out.size
  have c0'':=(HB.out.cell (p:=⟨w.heap.size,0,none⟩) gz).trans c0'
  have c1'':=(HB.out.cell (p:=⟨w.heap.size,1,none⟩) gz).trans c1'
  have HBW:=hid (HB1.out.trans (HB.out.mono HB1.out.size))
  by_cases hkn:k < s
  ·have hw:=columnWeights_c n s (n + k) (by omega) (by omega) wr
   rw [Int.natCast_add] at hw
   have HC1:=hid hw
   have HC2:=hid (fun (W:World) (A4':Option Addr) (c4':Nat) (f4':List Addr) (hW:Below wr.heap.size wr W) (h4:rBytes W f4' (.slice A4' n c4') (genL n (n + k) 8)) => mixed_c (.slice Ap n cp) (.slice A4' n c4') ls (genL n (n + k) 8) m f f4' W (rSl.below rLists.loc rLists.fix HR.out (HBW.out.trans (hW.mono HBW.out.size))) h4 (by rw [HL.out];omega) HM.out (by rw [HL.out,genL_length];exact Nat.le_refl _) (by omega))
   have HGL:=hid (genL_length n (n + k) 8)
   have HST:=hid (parAt_step m n ls k)
   have HLA:=hid (parAt_length m n ls k)
   have HLM:=hid (parPart_length HL.out HM.out k)
   have hdef:mixL m ls (genL n (n + k) 8) = parPart m n ls k:=rfl
   rw [hdef] at HC2
   obtain ⟨D,hD⟩:∃ D,parPart m n ls k = D:=⟨_,rfl⟩
   rw [hD] at HC2 HST HLM
   obtain ⟨G,hG⟩:∃ G,genL n (n + k) 8 = G:=⟨_,rfl⟩
   rw [hG] at HC1 HC2 HGL
   clear hdef hD hG hw
   go_wp2_with (first
    | (go_at_call 182;refine HC1.out.mono ?_;rintro e w4' ⟨A4',c4',f4',rfl,r4,m4,b4⟩;rw [HGL.out] at r4 ⊢;have R4':=hid r4;have B4':=hid b4;clear r4 m4 b4)
    | (go_at_call 181;refine (HC2.out _ _ _ _ B4'.out R4'.out).mono ?_;rintro e w5 ⟨A5,c5,f5,rfl,r5,m5,b5⟩;rw [HLM.out] at r5 ⊢;have HAP:=hid (Tryz.addAny (b:=w5.heap.size) (W:=w5.alloc (.cells #[.slice A5 m c5] 39)) HO.out HBS.out (by rw [HLA.out];omega) (belowAlloc (B4'.out.trans (b5.mono B4'.out.size)) _) (Blk.new _ _ _) (rBytes.below r5 (belowAlloc (Below.refl _ _) _)) (fun a ha => .inr (Nat.le_trans B4'.out.size (m5.from_ a ha))));rw [HLA.out,← HST.out] at HAP;clear r5 m5 b5)
    | (at_builtin;refine wpList_append_of rfl (.tmp 13) (.tmp 22) 83 rfl _ _ (by rfl) (by rfl) HAP.out ?_;rintro v6 w6 ⟨A6',c6',h6',rfl,o6,B6,e6⟩;have HO6:=hid o6;have HB6:=hid B6;clear o6 B6))
   go_roundw
   case rel => exact ⟨k + 1,A6',c6',_,by omega,by go_num,rfl,HO6.out,HB.out.trans HB6.out⟩
   case measure => simp [intOf];omega
  ·obtain rfl:k = s:=by omega
   go_wp2_with fail
   go_ret
   obtain ⟨gs,r8,-⟩:=HO.out.reads
   have hla:=parAt_length m n ls k
   exact ⟨A,c3,_,by rw [hla];rfl,by rw [hla];exact r8,HBW.out⟩
theorem l3Encode_c (m n s:Nat) (v:Value) (ls:List (List UInt8)) (f:List Addr) (w:World) (h:rLists w f v ls) (hl:ls.length = n) (hm:∀ l,l ∈ ls → l.length = m) (h1:1 ≤ n) (h4:n ≤ 4) (hs:s ≤ 2) (hm1:m ≤ 1000) :
  Calls Tryz.prog 92 #[v,.int .i64 (s:Int)] w (FreshLs (parAt m n ls s) w):=by
 obtain ⟨Ap,cp,rfl,-⟩:=rSl.head h
 have HR:=hid h
 rw [hl] at HR ⊢
 have HL:=hid hl
 have HM:=hid hm
 have HE:=hid (OwnL.emptyL (w:=w))
 have HE2:=hid (belowAlloc (Below.refl w.heap.size w) (.cells #[] 39))
 clear h hl hm
 go_enter Tryz.func92,Tryz.ntmps92
 go_wp2_with fail
 go_loopw [7,6] (fun i o wr => ∃ (k:Nat) (A:Option Addr) (c3:Nat) (fo:List Addr),k ≤ s ∧ i = .int .i64 k ∧ o = .slice A k c3 ∧ Hid (OwnL 1 39 (rSlice 1 rByte) wr w.heap.size o (parAt m n ls k) fo) ∧ Hid (Below w.heap.size w wr)) (fun i _ _ => s - (intOf i).toNat)
 case atStart => exact ⟨0,_,0,[],by omega,rfl,rfl,HE.out,HE2.out⟩
 case round =>
  obtain ⟨k,A,c3,fo,hk,rfl,rfl,HO,HB⟩:=hrel
  clear HE HE2
  have HBS:=hid HB.out.size
  by_cases hkn:k < s
  ·have hw:=l2Gen_c n (n + k) 8 (by omega) (by omega) (by omega) wr
   rw [Int.natCast_add] at hw
   have HC1:=hid hw
   have HC2:=hid (fun (W:World) (A4':Option Addr) (c4':Nat) (f4':List Addr) (hW:Below wr.heap.size wr W) (h4:rBytes W f4' (.slice A4' n c4') (genL n (n + k) 8)) => l1Mix_c (.slice Ap n cp) (.slice A4' n c4') ls (genL n (n + k) 8) m f f4' W (rSl.below rLists.loc rLists.fix HR.out (HB.out.trans (hW.mono HB.out.size))) h4 (by rw [HL.out];omega) HM.out (by rw [HL.out,genL_length];exact Nat.le_refl _) (by omega))
   have HGL:=hid (genL_length n (n + k) 8)
   have HST:=hid (parAt_step m n ls k)
   have HLA:=hid (parAt_length m n ls k)
   have HLM:=hid (parPart_length HL.out HM.out k)
   have hdef:mixL m ls (genL n (n + k) 8) = parPart m n ls k:=rfl
   rw [hdef] at HC2
   obtain ⟨D,hD⟩:∃ D,parPart m n ls k = D:=⟨_,rfl⟩
   rw [hD] at HC2 HST HLM
   obtain ⟨G,hG⟩:∃ G,genL n (n + k) 8 = G:=⟨_,rfl⟩
   rw [hG] at HC1 HC2 HGL
   clear hdef hD hG hw
   go_wp2_with (first
    | (go_at_call 163;refine HC1.out.mono ?_;rintro e w4' ⟨A4',c4',f4',rfl,r4,m4,b4⟩;rw [HGL.out] at r4 ⊢;have R4':=hid r4;have B4':=hid b4;clear r4 m4 b4)
    | (go_at_call 161;refine (HC2.out _ _ _ _ B4'.out R4'.out).mono ?_;rintro e w5 ⟨A5,c5,f5,rfl,r5,m5,b5⟩;rw [HLM.out] at r5 ⊢;have HAP:=hid (Tryz.addAny (b:=w5.heap.size) (W:=w5.alloc (.cells #[.slice A5 m c5] 39)) HO.out HBS.out (by rw [HLA.out];omega) (belowAlloc (B4'.out.trans (b5.mono B4'.out.size)) _) (Blk.new _ _ _) (rBytes.below r5 (belowAlloc (Below.refl _ _) _)) (fun a ha => .inr (Nat.le_trans B4'.out.size (m5.from_ a ha))));rw [HLA.out,← HST.out] at HAP;clear r5 m5 b5)
    | (at_builtin;refine wpList_append_of rfl (.tmp 16) (.tmp 24) 83 rfl _ _ (by rfl) (by rfl) HAP.out ?_;rintro v6 w6 ⟨A6',c6',h6',rfl,o6,B6,e6⟩;have HO6:=hid o6;have HB6:=hid B6;clear o6 B6))
   go_roundw
   case rel => exact ⟨k + 1,A6',c6',_,by omega,by go_num,rfl,HO6.out,HB.out.trans HB6.out⟩
   case measure => simp [intOf];omega
  ·obtain rfl:k = s:=by omega
   go_wp2_with fail
   go_ret
   obtain ⟨gs,r8,-⟩:=HO.out.reads
   have hla:=parAt_length m n ls k
   exact ⟨A,c3,_,by rw [hla];rfl,by rw [hla];exact r8,HB.out⟩
theorem Below.via' {a W w2:World} (h:Below a.heap.size a W) (b:Below W.heap.size W w2):Below a.heap.size a w2:=h.trans (b.mono h.size)
theorem alike1_c (u:Value) (l:List UInt8) (ls:List (List UInt8)) (v:Value) (fk f:List Addr) (m b:Nat) (W:World) (hu:rSlice 1 rByte W fk [u] l) (hv:rLists W f v ls) (hl:l.length = m) (hls:∀ l,l ∈ ls → l.length = m) (h0:0 < ls.length) (hb:W.cell? ⟨b,0,none⟩ = some v) (lb:b < W.heap.size) :
  Calls Tryz.prog 180 #[u,.pointer (some ⟨b,0,none⟩)] W fun e w' => e = .returned (.bool false) ∧ Below W.heap.size W w':=by
 obtain ⟨A,c,rfl,-⟩:=rSl.head (rSlice.one hu)
 obtain ⟨A1,c1,rfl,_,_,hx⟩:=rLists.open_ hv
 obtain ⟨ad,A2,c2,fk2,e1,b1,p1,-⟩:=hx 0 h0
 subst e1
 have e0:ad.add 0 = ad:=by simp [Addr.add]
 rw [e0,hls _ (List.getElem_mem _)] at p1
 rw [e0] at b1
 rw [hl]
 have hpos:(0:Int) < (ls.length:Int):=by omega
 have hne:(((m:Int) != (m:Int)):Bool) = false:=by simp
 clear hx hu hv hl hls h0
 go_enter Tryz.func180,Tryz.ntmps180
 go_wp2_with fail
 go_ret
 exact ⟨rfl,Below.refl _ _⟩
theorem alike_c (v:Value) (ls:List (List UInt8)) (m:Nat) (f:List Addr) (w:World) (h:rLists w f v ls) (hl:∀ l,l ∈ ls → l.length = m) :
  Calls Tryz.prog 102 #[v] w fun e w' => e = .returned (.bool true) ∧ Below w.heap.size w w':=by
 obtain ⟨A,c,rfl,-⟩:=rSl.head h
 have hB:Below w.heap.size w (w.alloc (.cells #[.slice A ls.length c] 83)):=belowAlloc (Below.refl _ _) _
 have K:=Blk.new w 83 #[.slice A ls.length c]
 have HC:=hid (containsList_c (fun _ => false) 180 #[.pointer (some ⟨w.heap.size,0,none⟩)] _ ls f _ (enters_of Tryz.func180 (by kernel_rfl) rfl) (rSl.below rLists.loc rLists.fix h hB)
  (fun W u fk j hj hW hR => alike1_c u ls[j] ls _ fk f m w.heap.size W hR (rSl.below rLists.loc rLists.fix h (hB.trans (hW.mono hB.size))) (hl _ (List.getElem_mem _)) hl (by omega) (((K.below hW K.lt).cell 0).trans rfl) (K.below hW K.lt).lt))
 rw [show ls.any (fun _ => false) = false from by simp] at HC
 have HB:=hid hB
 clear h hB K hl
 go_enter Tryz.func102,Tryz.ntmps102
 go_wp2_with (go_at_call 179;refine HC.out.mono ?_;rintro e w1 ⟨rfl,hb1⟩)
 go_ret
 exact ⟨rfl,HB.out.trans (hb1.mono HB.out.size)⟩
theorem equalLists_c (v1 v2:Value) (xs ys:List (List UInt8)) (f1 f2:List Addr) (w:World) (h1:rLists w f1 v1 xs) (h2:rLists w f2 v2 ys) (hl:xs.length = ys.length) :
  Calls Tryz.prog 103 #[v1,v2,.func (.func 105) #[] #[]] w fun e w' => e = .returned (.bool (decide (xs = ys))) ∧ Below w.heap.size w w':=by
 obtain ⟨A1,c1,rfl,hc1,hm1,hx⟩:=rLists.open_ h1
 obtain ⟨A2,c2,rfl,hc2,hm2,hy⟩:=rLists.open_ h2
 have HX:=hid hx;have HY:=hid hy
 obtain ⟨n,hn⟩:∃ n,xs.length = n:=⟨_,rfl⟩
 have hn2:ys.length = n:=by omega
 have HN:=hid hn;have HN2:=hid hn2
 obtain ⟨r,hr⟩:∃ r,decide (xs = ys) = r:=⟨_,rfl⟩
 rw [hr]
 have HR:=hid hr
 rw [hn,hn2]
 rw [hn] at hc1
 rw [hn2] at hc2
 have hne:(((n:Int) != (n:Int)):Bool) = false:=by simp
 clear h1 h2 hx hy hl hn hn2 hr
 go_enter Tryz.func103,Tryz.ntmps103
 go_wp2_with fail
 go_loopw [17,7,8,9] (fun i _ _ _ wr => ∃ k:Nat,k ≤ n ∧ i = .int .i64 k ∧ Hid (xs.take k = ys.take k) ∧ Hid (Below w.heap.size w wr)) (fun i _ _ _ _ => n - (intOf i).toNat)
 case atStart => exact ⟨0,by omega,rfl,(show _ = _ by simp),Below.refl _ _⟩
 case round =>
  obtain ⟨k,hk,rfl,HT,HB⟩:=hrel
  by_cases hlt:k < n
  ·have hk1:k < xs.length:=by rw [HN.out];exact hlt
   have hk2:k < ys.length:=by rw [HN2.out];exact hlt
   obtain ⟨a1,B1,d1,g1,e1,b1,p1,r1,-⟩:=HX.out k hk1
   obtain ⟨a2,B2,d2,g2,e2,b2,p2,r2,-⟩:=HY.out k hk2
   subst e1 e2
   have p1':=(HB.out.cell (p:=a1.add k) b1).trans p1
   have p2':=(HB.out.cell (p:=a2.add k) b2).trans p2
   have b1':=Nat.lt_of_lt_of_le b1 HB.out.size
   have b2':=Nat.lt_of_lt_of_le b2 HB.out.size
   have hki:(k:Int) < (n:Int):=by omega
   obtain ⟨q,hq⟩:∃ q,decide (xs[k] = ys[k]) = q:=⟨_,rfl⟩
   have HC:=hid (bytesEqual_c _ _ xs[k] ys[k] g1 g2 wr (rBytes.below r1 HB.out) (rBytes.below r2 HB.out))
   rw [hq] at HC
   have HQ:=hid hq
   obtain ⟨n1,hn1⟩:∃ n1,(xs[k]'hk1).length = n1:=⟨_,rfl⟩
   obtain ⟨n2,hn2⟩:∃ n2,(ys[k]'hk2).length = n2:=⟨_,rfl⟩
   rw [hn1] at HC p1 p1'
   rw [hn2] at HC p2 p2'
   clear r1 r2 hq hn1 hn2 p1 p2 b1 b2
   cases q with
   | true =>
    have hE:xs[k] = ys[k]:=of_decide_eq_true HQ.out
    have HE:=hid (takeEq HT.out hk1 hk2 hE)
    clear hE hk1 hk2 HQ
    go_wp2_with (go_at_call 105;refine HC.out.mono ?_;rintro e w3 ⟨rfl,hb3⟩;have B3:=hid hb3;clear hb3)
    go_roundw
    case rel => exact ⟨k + 1,by omega,by go_num,HE.out,HB.out.trans (B3.out.mono HB.out.size)⟩
    case measure => simp [intOf];omega
   | false =>
    have hE:¬ xs[k] = ys[k]:=of_decide_eq_false HQ.out
    have e1:r = false:=by
     rw [← HR.out]
     refine decide_eq_false (fun e => hE ?_)
     subst e
     rfl
    subst e1
    clear hE hk1 hk2 HQ
    go_wp2_with (go_at_call 105;refine HC.out.mono ?_;rintro e w3 ⟨rfl,hb3⟩;have B3:=hid hb3;clear hb3)
    go_ret
    exact ⟨rfl,HB.out.trans (B3.out.mono HB.out.size)⟩
  ·obtain rfl:k = n:=by omega
   have e1:r = true:=by
    rw [← HR.out]
    have:=HT.out
    rw [List.take_of_length_le (by rw [HN.out];exact Nat.le_refl _),List.take_of_length_le (by rw [HN2.out];exact Nat.le_refl _)] at this
    exact decide_eq_true this
   subst e1
   go_wp2_with fail
   go_ret
   exact ⟨rfl,HB.out⟩
theorem fits_c (m n s:Nat) (v:Value) (ls:List (List UInt8)) (f:List Addr) (w:World) (h:rLists w f v ls) (hl:ls.length = n + s) (hm:∀ l,l ∈ ls → l.length = m) (h1:1 ≤ n) (h4:n ≤ 4) (hs:s ≤ 2) (hm1:m ≤ 1000) :
  Calls Tryz.prog 48 #[.agg #[.int .i64 (n:Int),.int .i64 (s:Int)],v] w fun e w' => e = .returned (.bool (fitsF m n s ls)) ∧ Below w.heap.size w w':=by
 obtain ⟨A,c,rfl,hc,-⟩:=rSl.head h
 obtain ⟨q1,q2,hp,hd,-⟩:=rSl.split (j:=n) h (by omega)
 simp only [Nat.mul_one] at hd
 have HAL:=hid (fun (W:World) (hW:Below w.heap.size w W) => alike_c _ ls m f W (rSl.below rLists.loc rLists.fix h hW) hm)
 have hlt:(ls.take n).length = n:=by rw [List.length_take];omega
 have HPA:=hid (fun (W:World) (hW:Below w.heap.size w W) => parity_c m n s _ (ls.take n) q1 W (rSl.below rLists.loc rLists.fix hp hW) hlt (fun l hl => hm l (List.mem_of_mem_take hl)) h1 h4 hs hm1)
 obtain ⟨P,hP⟩:∃ P,parAt m n (ls.take n) s = P:=⟨_,rfl⟩
 have hPl:P.length = s:=by rw [← hP];exact parAt_length _ _ _ _
 have hdl:(ls.drop n).length = s:=by rw [List.length_drop];omega
 have HEQ:=hid (fun (W:World) (v1:Value) (f1:List Addr) (hW:Below w.heap.size w W) (h1:rLists W f1 v1 P) => equalLists_c v1 _ P (ls.drop n) f1 q2 W h1 (rSl.below rLists.loc rLists.fix hd hW) (by omega))
 rw [show fitsF m n s ls = decide (P = ls.drop n) from by unfold fitsF;rw [hP]]
 unfold FreshLs at HPA
 rw [hP,hPl] at HPA
 obtain ⟨r,hr⟩:∃ r,decide (P = ls.drop n) = r:=⟨_,rfl⟩
 rw [hr] at HEQ ⊢
 obtain ⟨N,hN⟩:∃ N,n + s = N:=⟨_,rfl⟩
 rw [hN] at hl
 rw [hl] at HAL HEQ hc ⊢
 have hnc:n ≤ c:=by omega
 have z1:(0:Int) ≤ (n:Int):=by omega
 have z2:(n:Int) ≤ (c:Int):=by omega
 have z3:(n:Int) ≤ (N:Int):=by omega
 have z4:n ≤ N:=by omega
 have z5:(N:Int) ≤ (c:Int):=by omega
 have hB:=hid (show Below w.heap.size w (w.alloc (.cells #[.int .i64 (n:Int),.int .i64 (s:Int)] 96)) from belowAlloc (Below.refl _ _) _)
 have hKS:=hid (show ∀ W,Below (w.alloc (.cells #[.int .i64 (n:Int),.int .i64 (s:Int)] 96)).heap.size (w.alloc (.cells #[.int .i64 (n:Int),.int .i64 (s:Int)] 96)) W → W.cell? ⟨w.heap.size,0,none⟩ = some (.int .i64 (n:Int)) ∧ W.cell? ⟨w.heap.size,1,none⟩ = some (.int .i64 (s:Int)) ∧ w.heap.size < W.heap.size ∧ Below w.heap.size w W from fun W hW => by
  have K:=Blk.new w 96 #[.int .i64 (n:Int),.int .i64 (s:Int)]
  have K2:=K.below hW K.lt
  exact ⟨(K2.cell 0).trans rfl,(K2.cell 1).trans rfl,K2.lt,hB.out.trans (hW.mono hB.out.size)⟩)
 obtain ⟨W1,hW1⟩:∃ W1,w.alloc (.cells #[.int .i64 (n:Int),.int .i64 (s:Int)] 96) = W1:=⟨_,rfl⟩
 rw [hW1] at hB hKS
 clear h hp hd hm hl hlt hP hPl hdl hr hN
 go_enter Tryz.func48,Tryz.ntmps48
 go_wp2_with fail
 try rw [hW1]
 clear hW1
 have HKS2:=hKS
 clear hKS
 have k0:=(HKS2.out _ (Below.refl _ _)).1
 have lq:=(HKS2.out _ (Below.refl _ _)).2.2.1
 have hBW:=hB.out
 go_region_law (first
  | (go_simp;go_at_call 102;refine (HAL.out _ (by repeat (with_reducible first | assumption | exact Below.refl _ _ | apply belowAlloc | apply belowDrew))).mono ?_;rintro e w2 ⟨rfl,b2⟩;have B2:=Below.via' (a:=W1) (by repeat (with_reducible first | assumption | exact Below.refl _ _ | apply belowAlloc | apply belowDrew)) b2;clear b2;obtain ⟨k02,k12,lq2,bw2⟩:=HKS2.out w2 B2;dsimp only)
  | (go_simp;go_at_call 104;refine (HPA.out _ (by repeat (with_reducible first | assumption | exact Below.refl _ _ | apply belowAlloc | apply belowDrew))).mono ?_;rintro e w3 ⟨A3,c3,f3,rfl,r3,b3⟩;have B3:=Below.via' (a:=W1) (by repeat (with_reducible first | assumption | exact Below.refl _ _ | apply belowAlloc | apply belowDrew)) b3;have R3:=hid r3;clear b3 r3;obtain ⟨k03,k13,lq3,bw3⟩:=HKS2.out w3 B3;dsimp only)
  | (go_simp;go_at_call 103;refine (HEQ.out _ _ f3 (by repeat (with_reducible first | assumption | exact Below.refl _ _ | apply belowAlloc | apply belowDrew)) (rSl.below rLists.loc rLists.fix R3.out (by repeat (with_reducible first | assumption | exact Below.refl _ _ | apply belowAlloc | apply belowDrew)))).mono ?_;rintro e w4 ⟨rfl,b4⟩;have B4:=Below.via' (a:=W1) (by repeat (with_reducible first | assumption | exact Below.refl _ _ | apply belowAlloc | apply belowDrew)) b4;clear b4;dsimp only))
 all_goals
  have HBW:=hid (show Below w.heap.size w w4 from hBW.trans (B4.mono hBW.size))
  go_wp2_with fail
  all_goals
   go_ret
   exact ⟨rfl,HBW.out⟩
theorem fitsF_t {m n s:Nat} {ls:List (List UInt8)} (hl:ls.length = n + s) (h:(parAt m n (ls.take n) s).take s = (ls.drop n).take s):fitsF m n s ls = true:=by
 unfold fitsF
 have e1:(parAt m n (ls.take n) s).take s = parAt m n (ls.take n) s:=List.take_of_length_le (by rw [parAt_length];exact Nat.le_refl _)
 have e2:(ls.drop n).take s = ls.drop n:=List.take_of_length_le (by rw [List.length_drop];omega)
 rw [e1,e2] at h
 exact decide_eq_true h
theorem fitsF_f {m n s k:Nat} {ls:List (List UInt8)} {P:List (List UInt8)} (hP:parAt m n (ls.take n) s = P) (h1:n + k < ls.length) (h2:k < P.length) (h:¬ ls[n + k] = P[k]):fitsF m n s ls = false:=by
 unfold fitsF
 refine decide_eq_false (fun e => h ?_)
 rw [hP] at e
 subst e
 rw [List.getElem_drop]
theorem ColumnFits_c (m n s:Nat) (v:Value) (ls:List (List UInt8)) (f:List Addr) (w:World) (h:rLists w f v ls) (hl:ls.length = n + s) (hm:∀ l,l ∈ ls → l.length = m) (h1:1 ≤ n) (h4:n ≤ 4) (hs:s ≤ 2) (hm1:m ≤ 1000) :
  Calls Tryz.prog 39 #[v,.int .i64 (s:Int)] w fun e w' => e = .returned (.bool (fitsF m n s ls)) ∧ Below w.heap.size w w':=by
 obtain ⟨A,c,rfl,hc,-⟩:=rSl.head h
 obtain ⟨q1,q2,hp,-,-⟩:=rSl.split (j:=n) h (by omega)
 obtain ⟨A',c',e1,-,-,hx⟩:=rLists.open_ h
 injection e1 with e11 _ e13
 subst e11 e13
 have HX:=hid hx
 have HEV:=hid (fun (W:World) (hW:Below w.heap.size w W) => l3Even_c _ ls m f W (rSl.below rLists.loc rLists.fix h hW) hm)
 have hlt:(ls.take n).length = n:=by rw [List.length_take];omega
 have HPA:=hid (fun (W:World) (hW:Below w.heap.size w W) => l3Encode_c m n s _ (ls.take n) q1 W (rSl.below rLists.loc rLists.fix hp hW) hlt (fun l hl => hm l (List.mem_of_mem_take hl)) h1 h4 hs hm1)
 have HIN:=hid (fun (W:World) => l1In_c (s:Int) 0 2 W)
 rw [insB_t (by omega) (by omega)] at HIN
 have HSH:=hid (fun (W:World) => l3Shape_c (n:Int) (s:Int) W)
 rw [show l3B (n:Int) (s:Int) = true from by unfold l3B;rw [insB_t (by omega) (by omega),insB_t (by omega) (by omega)];rfl] at HSH
 obtain ⟨P,hP⟩:∃ P,parAt m n (ls.take n) s = P:=⟨_,rfl⟩
 have HPE:=hid hP
 have hPl:P.length = s:=by rw [← hP];exact parAt_length _ _ _ _
 have HPL:=hid hPl
 have HLL:=hid hl
 unfold FreshLs at HPA
 rw [hP,hPl] at HPA
 obtain ⟨r,hr⟩:∃ r,fitsF m n s ls = r:=⟨_,rfl⟩
 rw [hr]
 have HR:=hid hr
 rw [hl] at HEV hc ⊢
 have hnc:n ≤ c:=by omega
 have z1:(0:Int) ≤ (n:Int):=by omega
 have z2:(n:Int) ≤ (c:Int):=by omega
 have z3:(n:Int) ≤ (n:Int) + (s:Int):=by omega
 have z5:(n:Int) + (s:Int) ≤ (c:Int):=by omega
 have hs2:s ≤ 2:=hs
 clear h hp hx hm hl hlt hP hPl hr
 go_enter Tryz.func39,Tryz.ntmps39
 go_wp2_with (first
  | (go_at_call 35;refine (HIN.out _).mono ?_;rintro e w' ⟨rfl,rfl⟩)
  | (go_at_call 90;refine (HSH.out _).mono ?_;rintro e w' ⟨rfl,rfl⟩)
  | (go_at_call 91;refine (HEV.out _ (Below.refl _ _)).mono ?_;rintro e w2 ⟨rfl,b2⟩;have B2:=hid b2;clear b2)
  | (go_at_call 92;refine (HPA.out _ B2.out).mono ?_;rintro e w3 ⟨A3,c3,f3,rfl,r3,b3⟩;have R3:=hid r3;have B3:=hid (B2.out.trans (b3.mono B2.out.size));clear r3 b3))
 obtain ⟨A3',c3',e3,-,-,hy⟩:=rLists.open_ R3.out
 rw [HPL.out] at e3
 injection e3 with e31 _ e33
 subst e31 e33
 have HY:=hid hy
 clear hy
 go_loopw [7] (fun i wr => ∃ k:Nat,k ≤ s ∧ i = .int .i64 k ∧ Hid (P.take k = (ls.drop n).take k) ∧ Hid (Below w3.heap.size w3 wr)) (fun i _ => s - (intOf i).toNat)
 case atStart => exact ⟨0,by omega,rfl,(show _ = _ by simp),Below.refl _ _⟩
 case round =>
  obtain ⟨k,hk,rfl,HT,HB⟩:=hrel
  have HBW:=hid (B3.out.trans (HB.out.mono B3.out.size))
  by_cases hlt:k < s
  ·have hk1:n + k < ls.length:=by rw [HLL.out];omega
   have hk2:k < P.length:=by rw [HPL.out];exact hlt
   obtain ⟨a1,B1,d1,g1,e1,b1,p1,r1,-⟩:=HX.out (n + k) hk1
   obtain ⟨a2,B2',d2,g2,e2,b2,p2,r2,-⟩:=HY.out k hk2
   subst e1 e2
   have p1':=(HBW.out.cell (p:=a1.add (n + k)) b1).trans p1
   have p2':=(HB.out.cell (p:=a2.add k) b2).trans p2
   have p1'':wr.cell? (a1.add ((n:Int) + (k:Int)).toNat) = some (.slice B1 (ls[n + k]'hk1).length d1):=by rw [show ((n:Int) + (k:Int)).toNat = n + k by omega];exact p1'
   have hki:(k:Int) < (s:Int):=by omega
   have hki2:(n:Int) + (k:Int) < (n:Int) + (s:Int):=by omega
   have hpo:(0:Int) ≤ (n:Int) + (k:Int):=by omega
   have hwp:IntKind.i64.wrap ((n:Int) + (k:Int)) = ((n + k:Nat):Int):=by rw [IntWalk.i64_in _ (by omega)];rfl
   have hpo2:((n + k:Nat):Int) < (n:Int) + (s:Int):=by omega
   obtain ⟨q,hq⟩:∃ q,decide (ls[n + k] = P[k]) = q:=⟨_,rfl⟩
   have HC:=hid (fun (W:World) (hW:Below wr.heap.size wr W) => l2Same_c _ _ (ls[n + k]'hk1) (P[k]'hk2) g1 g2 W (rBytes.below r1 (HBW.out.trans (hW.mono HBW.out.size))) (rBytes.below r2 (HB.out.trans (hW.mono HB.out.size))))
   rw [hq] at HC
   have HQ:=hid hq
   obtain ⟨n1,hn1⟩:∃ n1,(ls[n + k]'hk1).length = n1:=⟨_,rfl⟩
   obtain ⟨n2,hn2⟩:∃ n2,(P[k]'hk2).length = n2:=⟨_,rfl⟩
   rw [hn1] at HC p1 p1' p1''
   rw [hn2] at HC p2 p2'
   clear r1 r2 hq hn1 hn2 p1 p2 b1 b2
   cases q with
   | true =>
    have hE:ls[n + k] = P[k]:=of_decide_eq_true HQ.out
    have HE:=hid (show P.take (k + 1) = (ls.drop n).take (k + 1) from takeEq HT.out hk2 (by rw [List.length_drop];omega) (by rw [List.getElem_drop];exact hE.symm))
    clear hE hk1 hk2 HQ
    go_wp2_with fail
    go_region_law (first
     | (go_simp;go_at_call 93;refine (HC.out _ (by repeat (with_reducible first | assumption | exact Below.refl _ _ | apply belowAlloc | apply belowDrew))).mono ?_;rintro e w5 ⟨rfl,b5⟩;have B5:=Below.via' (a:=wr) (by repeat (with_reducible first | assumption | exact Below.refl _ _ | apply belowAlloc | apply belowDrew)) b5;clear b5;dsimp only))
    all_goals
     go_wp2_with fail
     go_roundw
     case rel => exact ⟨k + 1,by omega,by go_num,HE.out,HB.out.trans (B5.mono HB.out.size)⟩
     case measure => simp [intOf];omega
   | false =>
    have hE:¬ ls[n + k] = P[k]:=of_decide_eq_false HQ.out
    have e1:r = false:=HR.out.symm.trans (fitsF_f HPE.out hk1 hk2 hE)
    subst e1
    clear hE hk1 hk2 HQ
    go_wp2_with fail
    go_region_law (first
     | (go_simp;go_at_call 93;refine (HC.out _ (by repeat (with_reducible first | assumption | exact Below.refl _ _ | apply belowAlloc | apply belowDrew))).mono ?_;rintro e w5 ⟨rfl,b5⟩;have B5:=Below.via' (a:=wr) (by repeat (with_reducible first | assumption | exact Below.refl _ _ | apply belowAlloc | apply belowDrew)) b5;clear b5;dsimp only))
    all_goals
     go_wp2_with fail
     go_ret
     exact ⟨rfl,HBW.out.trans (B5.mono HBW.out.size)⟩
  ·obtain rfl:k = s:=by omega
   have e1:r = true:=HR.out.symm.trans (fitsF_t HLL.out (by rw [HPE.out];exact HT.out))
   subst e1
   go_wp2_with fail
   go_ret
   exact ⟨rfl,HBW.out⟩
def tlF (d:WorldD) (row:Nat):Nat → Option (List (List UInt8))
 | 0 => some []
 | k + 1 => (tlF d row k).bind fun L => (rowF d k row).map fun D => L ++ [D]
def trueF (d:WorldD) (row:Nat):Option (List (List UInt8)):=tlF d row d.groups.length
theorem tlF_some {d:WorldD} {row k:Nat} {L:List (List UInt8)} {D:List UInt8} (h:tlF d row k = some L) (h2:rowF d k row = some D):tlF d row (k + 1) = some (L ++ [D]):=by simp [tlF,h,h2]
theorem tlF_none {d:WorldD} {row k:Nat} (h:rowF d k row = none):tlF d row (k + 1) = none:=by simp [tlF,h]
theorem tlF_none_le {d:WorldD} {row:Nat}:∀ {k n:Nat},k ≤ n → tlF d row k = none → tlF d row n = none
 | k,0,hk,h => by
  obtain rfl:k = 0:=by omega
  exact h
 | k,n + 1,hk,h => by
  by_cases e:k = n + 1
  ·subst e;exact h
  ·have:=tlF_none_le (n:=n) (by omega) h
   simp [tlF,this]
theorem tlF_length {d:WorldD} {row:Nat}:∀ {k:Nat} {L:List (List UInt8)},tlF d row k = some L → L.length = k
 | 0,L,h => by injection h with h;subst h;rfl
 | k + 1,L,h => by
  unfold tlF at h
  cases h1:tlF d row k with
  | none => rw [h1] at h;cases h
  | some L1 =>
   rw [h1,Option.bind_some] at h
   cases h2:rowF d k row with
   | none => rw [h2] at h;cases h
   | some D =>
    rw [h2,Option.map_some] at h
    injection h with h
    subst h
    rw [List.length_append,tlF_length h1]
    rfl
theorem tlF_all {d:WorldD} (hT:TrueOk d) {row:Nat} (hr:(row:Int) < d.shape.rows):∀ {k:Nat} {L:List (List UInt8)},k ≤ d.groups.length → tlF d row k = some L → ∀ l,l ∈ L → l.length = 4 * d.shape.data.toNat
 | 0,L,hk,h => by injection h with h;subst h;intro l hl;cases hl
 | k + 1,L,hk,h => by
  unfold tlF at h
  cases h1:tlF d row k with
  | none => rw [h1] at h;cases h
  | some L1 =>
   rw [h1,Option.bind_some] at h
   cases h2:rowF d k row with
   | none => rw [h2] at h;cases h
   | some D =>
    rw [h2,Option.map_some] at h
    injection h with h
    subst h
    intro l hl
    rcases List.mem_append.1 hl with hl | hl
    ·exact tlF_all hT hr (by omega) h1 l hl
    ·have:l = D:=by simpa using hl
     subst this
     exact rowF_length hT (by omega) hr h2
theorem trueF_length {d:WorldD} {row:Nat} {L:List (List UInt8)} (h:trueF d row = some L):L.length = d.groups.length:=tlF_length h
theorem trueF_all {d:WorldD} (hT:TrueOk d) {row:Nat} (hr:(row:Int) < d.shape.rows) {L:List (List UInt8)} (h:trueF d row = some L):∀ l,l ∈ L → l.length = 4 * d.shape.data.toNat:=tlF_all hT hr (Nat.le_refl _) h
def colB (d:WorldD) (row:Nat):Bool :=
 match trueF d row with
 | some L => fitsF (4 * d.shape.data.toNat) d.shape.groups.toNat d.shape.column.toNat L
 | none => false
def OptT (L?:Option (List (List UInt8))) (w:World) (e:Ending) (w':World):Prop :=
 (∃ L A c fs,L? = some L ∧ e = .returned (.tuple #[.slice A L.length c,.bool true]) ∧ rLists w' fs (.slice A L.length c) L ∧ Below w.heap.size w w') ∨ (L? = none ∧ e = .returned (.tuple #[.slice none 0 0,.bool false]) ∧ Below w.heap.size w w')
theorem trueLists_c (p:Nat) (fs:List Addr) (d:WorldD) (row:Nat) (w:World) (h:AtW w p fs d) (hT:TrueOk d) (hr:(row:Int) < d.shape.rows) :
  Calls Tryz.prog 46 #[.pointer (some ⟨p,0,none⟩),.int .i64 (row:Int)] w (OptT (trueF d row) w):=by
 obtain ⟨b1,b2⟩:=hT.ok.groups
 obtain ⟨b3,b4⟩:=hT.ok.column
 simp only [ShapeD.sh] at b1 b2 b3 b4
 have hgl:=hT.gl
 have HH:=hid h
 have HT:=hid hT
 have lp:p < w.heap.size:=by obtain ⟨A0,A1,A2,c0,c1,c2,f0,f1,f2,HC⟩:=h.cells;exact HC.lt
 have HTR:=hid (fun (W:World) (hW:Below w.heap.size w W) (k:Nat) (hk:k < d.groups.length) => trueRow_c p fs d k row W (h.below hW) hT hk hr)
 obtain ⟨n,hn⟩:∃ n,d.groups.length = n:=⟨_,rfl⟩
 have HN:=hid hn
 rw [hn] at HTR hgl
 have hn6:n ≤ 6:=by omega
 have HTF:=hid (show trueF d row = tlF d row n from by unfold trueF;rw [hn])
 have hb2:Below w.heap.size w (w.alloc (.cells #[] 39)):=belowAlloc (Below.refl _ _) _
 have HB2:=hid hb2
 have HE:=hid (OwnL.emptyL (w:=w))
 have HSH:=hid (show (w.alloc (.cells #[] 39)).rangeAt p 0 [.int .i64 d.shape.groups,.int .i64 d.shape.column,.int .i64 d.shape.data,.int .i64 d.shape.spare,.int .i64 d.shape.rows,.int .i64 d.shape.cap,.int .i64 d.shape.batch,.int .i64 d.shape.queue,.int .i64 d.shape.stage] from by
  obtain ⟨A0',A1',A2',c0',c1',c2',f0',f1',f2',HC1⟩:=(h.below hb2).cells
  exact HC1.shape)
 have hall:=shapeAll_c d.shape.sh hT.ok (w.alloc (.cells #[] 39))
 unfold shV at hall
 rw [show d.shape.sh.groups + d.shape.sh.column = (n:Int) from by show d.shape.groups + d.shape.column = _;omega] at hall
 have HALL:=hid hall
 clear h hT b1 b2 b3 b4 hgl hn hb2 hall
 go_enter Tryz.func46,Tryz.ntmps46
 go_wp2_with (first
  | (refine wpList_load_mid rfl 31 _ rfl p 0 rfl [.int .i64 d.shape.groups,.int .i64 d.shape.column,.int .i64 d.shape.data,.int .i64 d.shape.spare,.int .i64 d.shape.rows,.int .i64 d.shape.cap,.int .i64 d.shape.batch,.int .i64 d.shape.queue,.int .i64 d.shape.stage] _ HSH.out Tryz.underlying31 rfl (by kernel_rfl) ?_)
  | (go_at_call 101;refine HALL.out.mono ?_;rintro e w2 ⟨rfl,b2⟩;have B2:=hid (HB2.out.trans (b2.mono (by simp)));have HE3:=hid (HE.out.below rLists.loc rLists.fix b2);clear b2))
 go_loopw [16,6,7,8,9] (fun i o _ _ _ wr => ∃ (k:Nat) (A:Option Addr) (c3:Nat) (fo:List Addr) (L:List (List UInt8)),k ≤ n ∧ i = .int .i64 k ∧ o = .slice A k c3 ∧ Hid (tlF d row k = some L) ∧ Hid (OwnL 1 39 (rSlice 1 rByte) wr w.heap.size o L fo) ∧ Hid (Below w.heap.size w wr)) (fun i _ _ _ _ _ => n - (intOf i).toNat)
 case atStart => exact ⟨0,_,0,[],[],by omega,rfl,rfl,rfl,HE3.out,B2.out⟩
 case round =>
  obtain ⟨k,A,c3,fo,L,hk,rfl,rfl,HL,HO,HB⟩:=hrel
  clear HE HE3 B2
  have HBS:=hid HB.out.size
  have HLEN:=hid (tlF_length HL.out)
  by_cases hkn:k < n
  ·have HC:=hid (HTR.out wr HB.out k hkn)
   have hki:(k:Int) < (n:Int):=by omega
   go_wp2_with fail
   refine HC.out.mono ?_
   rintro e w3 (⟨D,A6,c6,f6,e6,rfl,r6,m6,b6⟩ | ⟨e6,rfl,b6⟩)
   ·have HL2:=hid (tlF_some HL.out e6)
    have HAP:=hid (Tryz.addAny (wr:=wr) (W:=w3.alloc (.cells #[.slice A6 D.length c6] 39)) (b:=w3.heap.size) (ve:=.slice A6 D.length c6) (f:=f6) (L:=D) HO.out HBS.out (by rw [HLEN.out];omega) (belowAlloc b6 _) (Blk.new _ _ _) (r6.below (belowAlloc (Below.refl _ _) _)) (fun a ha => .inr (m6.from_ a ha)))
    rw [HLEN.out] at HAP
    clear e6 r6 m6 b6
    go_wp2_with (at_builtin;refine wpList_append_of rfl (.tmp 28) (.tmp 30) 83 rfl _ _ (by rfl) (by rfl) HAP.out ?_;rintro v8 w8 ⟨A8,c8,h8,rfl,o8,B8,e8,s8⟩;have HO8:=hid o8;have HB8:=hid B8;clear o8 B8 s8)
    go_roundw
    case rel => exact ⟨k + 1,A8,c8,_,L ++ [D],by omega,by go_num,rfl,HL2.out,HO8.out,HB.out.trans HB8.out⟩
    case measure => simp [intOf];omega
   ·have HNO:=hid (show trueF d row = none from by rw [HTF.out];exact tlF_none_le (k:=k + 1) (by omega) (tlF_none e6))
    have HB6:=hid (HB.out.trans (b6.mono HB.out.size))
    clear e6 b6
    go_wp2_with fail
    go_ret2
    exact .inr ⟨HNO.out,rfl,HB6.out⟩
  ·obtain rfl:k = n:=by omega
   go_wp2_with fail
   go_ret2
   obtain ⟨gs,r8,-⟩:=HO.out.reads
   have hle:=HLEN.out
   exact .inl ⟨L,A,c3,_,HTF.out.trans HL.out,by rw [hle];rfl,by rw [hle];exact r8,HB.out⟩
end Go.Proofs.YtfjkoifpdoemdaaGreat
