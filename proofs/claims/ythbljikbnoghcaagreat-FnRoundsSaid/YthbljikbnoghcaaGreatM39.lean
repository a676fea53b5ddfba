/-
  Part 39 of the proof; the last part states and proves the statement.
-/
import Derived.Test.YthbljikbnoghcaaGreatM37
import Derived.Test.YthbljikbnoghcaaGreatM38
import Derived.Test.YthbljikbnoghcaaGreatM10
import Derived.Test.YthbljikbnoghcaaGreatM23
set_option maxHeartbeats 8000000
set_option maxRecDepth 100000
set_option linter.unusedVariables false
set_option linter.unusedSimpArgs false
open Go.Value (int)
open Go.IntKind (i64)
namespace Go.Proofs.YthbljikbnoghcaaGreat
open Go.RowKit Go.Lib Go.Sort
theorem Jg(p:Nat)(fs:List Addr)(d:Au)(w:World)(h:AtW w p fs d)(hsm:(Bj d).length≤1000000)(hnm:∀r,r∈AW d→r.name.size≤1000000) :
  Calls Tryz.prog 75 #[.pointer (some ⟨p,0,none⟩)] w fun e w' =>∃L g c B,e= .returned (.slice (some ⟨g,0,none⟩) L.length c)∧Cw (AW d) L∧w.heap.size≤B∧Bp w' B g L.length (fun i => L[i]?)∧L.length≤c∧c≤9223372036854775807∧Below w.heap.size w w':=by
 obtain⟨mb,hmb⟩:∃mb,w.heap.size=mb:=⟨_,rfl⟩;obtain⟨W1,hW1⟩:∃W1,w.alloc (.map #[] 0)=W1:=⟨_,rfl⟩;have hB1:Below w.heap.size w W1:=by rw[← hW1];exact(Below.refl _ _).alloc (Nat.le_refl _) _
 have z1:W1.heap.size=mb+1:=by rw[← hW1,← hmb];simp
 have hM1:W1.ownsMap Tryz.prog 9 RV mb 0 (.map []):=by rw[← hW1,← hmb];exact World.ownsMap_made _ _ _ _
 have HC:=hid (CK p fs d W1 (h.below hB1) hsm);have hl:=DI d;obtain⟨all,hall⟩:∃all,AW d=all:=⟨_,rfl⟩;rw[hall]at HC hl hnm⊢;have hN:all.length≤1000000:=by omega
 have HNM:=hid hnm;have HB1:=hid hB1;have HM1:=hid hM1;have HZ1:=hid z1;have HMB:=hid hmb;have hmk:(Instr.makeMap 156 none).run Tryz.prog w= .ok (.map (some mb)) W1:=by rw[← hW1,← hmb];rfl
 clear h hB1 hM1 hnm hl hall hsm;go_enter Tryz.func75,Tryz.ntmps75
 go_wp2_with fail
 clear hW1 hmb z1;go_wp2_with (go_at_call 128;refine HC.out.mono ?_;rintro e w2 ⟨A,c,fa,rfl,ra,pa,b2⟩;have RA:=hid ra;have PA:=hid pa;have B2:=hid b2;clear ra pa b2)
 obtain⟨A',c',css,ev,hc,hm,hx⟩:=rSl.css RA.out;injection ev with ev1 ev2 ev3
 subst ev1 ev3;have HX:=hid hx;have HFT:=hid (rSl.there Ac.fixed RA.out);have hM2:w2.ownsMap Tryz.prog 9 RV mb 0 (.map []):=HM1.out.kept (row:=none) ⟨B2.out.os,B2.out.tape,B2.out.output,B2.out.size,fun k hk _ => B2.out.block k hk⟩ (by simp);have HM2:=hid hM2;have HBW2:=hid (show Below w.heap.size w w2 from HB1.out.trans (B2.out.mono HB1.out.size));have zm2:mb<w2.heap.size:=by have:=HZ1.out;have:=B2.out.size;omega
 clear hx hM2 HC ev2;go_loopw [13,5] (fun ix _ wr =>∃(i n:Nat) (D:DataW Value),i≤all.length∧n≤i∧ix= int i64 i∧Hid (Di all css D i)∧Hid (wr.ownsMap Tryz.prog 9 RV mb n D)∧Hid (∀a:Addr,a.block<w2.heap.size→wr.cell? a=w2.cell? a)∧Hid (Below w.heap.size w wr)∧w2.heap.size≤wr.heap.size) (fun ix _ _ => all.length - (intOf ix).toNat)
 case atStart => exact⟨0,0,.map [],by omega,by omega,rfl,Di.start _ _,HM2.out,fun a _ => rfl,HBW2.out,Nat.le_refl _⟩
 case round =>
  obtain⟨i,n,D,hi,hn,rfl,HMA,HOM,HSA,HB,hsz⟩:=hrel;by_cases hlt:i<all.length
  ·obtain⟨ad,b3,o3,f3,rfl,hat⟩:=HX.out i hlt;obtain⟨cs3,hcs3⟩:∃cs3,List.getD css i [] =cs3:=⟨_,rfl⟩;rw[hcs3]at hat;have HCS:=hid hcs3;have hpl3:=hat.place;have hbl3:b3<w2.heap.size:=hat.lt;have hbl4:b3<wr.heap.size:=by omega
   have hlen:cs3.length=9:=hat.len;have HR:=hid (show wr.rangeAt b3 o3 cs3 from fun q v hq => by
    have hq1:q<cs3.length:=(List.getElem?_eq_some_iff.1 hq).1;rw[HSA.out _ hbl3,hat.cell q hq1,← hq];exact(List.getElem?_eq_getElem hq1).symm)
   have HI:=hid (show(Tryz.prog.info? 76).map (·.size)=some cs3.length by rw[hlen];kernel_rfl);have HI2:=hid (show(Tryz.prog.info? 76).map (·.size)=some cs3.toArray.size by rw[List.size_toArray,hlen];kernel_rfl);have HON:=hid (all_oneCell_toArray (Ac.ones _ _ _ _ hat.reads));obtain⟨Z,hZ⟩:∃Z:Array Value,#[int i64 0,int i64 0,.string ⟨#[]⟩,int i64 0,int i64 0,int i64 0,.slice none 0 0,.slice none 0 0,.slice none 0 0] =Z:=⟨_,rfl⟩;have hZs:Z.size=9:=by rw[← hZ];rfl
   have KZ:=Blk.new wr 76 Z;have HTH:=hid (Blk.there KZ cs3.toArray.size (by rw[List.size_toArray,hlen,hZs];exact Nat.le_refl _));obtain⟨W2,hW2⟩:∃W2,(wr.alloc (.cells Z 76)).setCells wr.heap.size 0 cs3.toArray.toList=W2:=⟨_,rfl⟩;have k2:Blk W2 wr.heap.size 76 cs3.toArray:=by rw[← hW2];exact Blk.laid KZ _ (by rw[hZs];exact hlen.symm)
   have b22:Below wr.heap.size wr W2:=by rw[← hW2];exact AF (Aa (Below.refl _ _) _) _ 0 (Nat.le_refl _)
   have HW2:=hid hW2;have BW2:=hid b22;have HR2:=hid (Blk.rangeAll k2);have hgb:=k2.lt;obtain⟨v0,v1,v2,q0,q1,q2,e,-⟩:=hat.reads;have y0:W2.cell? ⟨wr.heap.size,0,none⟩=some (int i64 all[i].kind):=by rw[k2.cell,e];rfl
   have y2:W2.cell? ⟨wr.heap.size,2,none⟩=some (.string all[i].name):=by rw[k2.cell,e];rfl
   have HOM2:=hid (show W2.ownsMap Tryz.prog 9 RV mb n D from HOM.out.kept (row:=none) ⟨b22.os,b22.tape,b22.output,b22.size,fun k hk _ => b22.block k hk⟩ (by simp));have HSA2:=hid (show∀a:Addr,a.block<w2.heap.size→W2.cell? a=w2.cell? a from fun a ha =>(b22.cell (p:=a) (by omega)).trans (HSA.out a ha));have HBX:=hid (HB.out.trans (b22.mono HB.out.size));have hnl:=HNM.out _ (List.getElem_mem hlt);have hki:(i:Int)<(all.length:Int):=by omega
   have sz2:=b22.size;clear hat hW2 KZ hlen hZs k2 e hcs3 b22;by_cases qk:all[i].kind =1
   ·have hk:(all[i].kind == 1)=true:=by simpa using qk
    have HPUT:=hid (HMA.out.put hlt qk HCS.out);clear qk;go_wp2_with (first
     |(refine wpList_load_mid rfl 76 (.tmp 15) rfl b3 o3 rfl cs3 _ HR.out Tryz.underlying76 rfl HI.out ?_)
     |(refine wpList_store_mid rfl 76 (.tmp 5) (.tmp 16) rfl wr.heap.size 0 cs3.toArray rfl rfl HTH.out HI2.out HON.out ?_;rw[HW2.out])
     |(refine wpList_load_mid rfl 76 (.tmp 5) rfl wr.heap.size 0 rfl cs3 _ HR2.out Tryz.underlying76 rfl HI.out ?_)
     |(at_mapUpdate;refine wpList_mapUpdate_own _ rfl _ _ _ 156 rfl 9 76 Fb Tryz.underlying156 RV mb n D rfl HOM2.out (by unfold maxLen;omega) _ _ (Cs all[i].name) rfl rfl (keyOfN hnl) (.held (.agg cs3.toArray)) [] rfl ?_;intro w4 hown4 hgrow4;have HO4:=hid hown4;have HG4:=hid hgrow4;clear hown4 hgrow4))
    go_roundw
    case rel =>
     refine⟨i+1,n+1,_,by omega,by omega,by go_num,HPUT.out,HO4.out,fun a ha => ?_,HBX.out.trans (CZ HG4.out (by rw[HMB.out];exact Nat.le_refl _) (by rw[HMB.out];omega)),by have:=HG4.out.size;omega⟩;by_cases e:a.block=mb
     ·rw[DT HO4.out e,DT HM2.out e]
     ·exact(World.cell?_of_block (HG4.out.block a.block (by omega) (fun e2 => by injection e2 with e2;exact e e2))).trans (HSA2.out a ha)
    case measure => simp[intOf];omega
   ·have hk:(all[i].kind == 1)=false:=by simpa using qk
    have HPUT:=hid (HMA.out.skip hlt qk);clear qk;go_wp2_with (first
     |(refine wpList_load_mid rfl 76 (.tmp 15) rfl b3 o3 rfl cs3 _ HR.out Tryz.underlying76 rfl HI.out ?_)
     |(refine wpList_store_mid rfl 76 (.tmp 5) (.tmp 16) rfl wr.heap.size 0 cs3.toArray rfl rfl HTH.out HI2.out HON.out ?_;rw[HW2.out]))
    go_roundw
    case rel => exact⟨i+1,n,D,by omega,by omega,by go_num,HPUT.out,HOM2.out,HSA2.out,HBX.out,by omega⟩
    case measure => simp[intOf];omega
  ·obtain rfl:i=all.length:=by omega
   have HO3:=hid (HOM.out.alloc (.cells #[] 76));have HOW:=hid (Aj.start (R:=Ac) (World.ownsRow_lit (base:=wr.heap.size) (e:=76) (size:=9) wr #[] 0 (Nat.le_refl _) (Nat.zero_le _) rfl));have HMZ:=hid (F0 HOM.out);have sz3:(wr.alloc (.cells #[] 76)).heap.size =wr.heap.size+1:=by simp
   have HB3:=hid (show Below wr.heap.size wr (wr.alloc (.cells #[] 76))from(Below.refl _ _).alloc (Nat.le_refl _) _);obtain⟨W3,hW3⟩:∃W3,wr.alloc (.cells #[] 76)=W3:=⟨_,rfl⟩;rw[hW3]at HO3 HOW HB3 sz3;obtain⟨gO,hgO⟩:∃gO,wr.heap.size=gO:=⟨_,rfl⟩;rw[hgO]at HOW HB3 sz3 hsz;go_wp2_with (at_range;refine wpList_range_own _ rfl _ 156 rfl 9 76 Fb Tryz.underlying156 RV mb n D rfl HO3.out ?_;intro w5 hrg hg5 hs5;have HRG5:=hid hrg;have HG5:=hid hg5;have HS5:=hid hs5;clear hrg hg5 hs5)
   go_frame
   obtain⟨rr,hrr⟩:∃rr,W3.heap.size=rr:=⟨_,rfl⟩;have HRG:=HRG5;have HS:=HS5;rw[hrr]at HRG HS sz3;clear HRG5 HS5;have HW35:=hid (show Below W3.heap.size W3 w5 from⟨HG5.out.os,HG5.out.tape,HG5.out.output,HG5.out.size,fun k hk => HG5.out.block k hk (by simp)⟩);have HOW5:=hid (HOW.out.below Ac.local_ Ac.fixed HW35.out);have HVS:=hid (DB.start HMA.out);have HSA5:=hid (show∀a:Addr,a.block<w2.heap.size→w5.cell? a=w2.cell? a from fun a ha =>(HW35.out.cell (p:=a) (by omega)).trans ((HB3.out.cell (p:=a) (by omega)).trans (HSA.out a ha)));have hgm:mb<gO:=by omega
   have HB5:=hid (show Below w.heap.size w w5 from HB.out.trans (((HB3.out.mono (show w.heap.size≤gO from by have:=HMB.out;omega)).trans (HW35.out.mono (by have:=HMB.out;omega)))));clear hW3 hgO HOW HSA HB HB3 HO3 HOM HG5;try rw[hrr]
   clear hrr;subst sz3;go_loopw [6,8] (fun o _ wx =>∃(left:Lit→Bool) (cnt k g c1:Nat) (L:List Ag) (fo:List Addr),o= .slice (some ⟨g,0,none⟩) k c1∧Hid (k=L.length)∧g≠gO+1∧gO≤g∧cnt+k≤Maps.size D∧Hid (DB all left L)∧Hid (wx.ranges Tryz.prog 9 RV mb (gO+1) n D left cnt)∧Hid (Aj 9 76 Ac wx gO (.slice (some ⟨g,0,none⟩) k c1) L fo)∧Hid (∀a,a∈fo→a∈fa)∧Hid (∀a:Addr,a.block<w2.heap.size→wx.cell? a=w2.cell? a)∧Hid (Below w.heap.size w wx)∧gO+1<wx.heap.size) (fun _ _ wx => wx.rangeLeft mb (gO+1))
   case atStart => exact⟨_,_,0,gO,0,[],[],rfl,rfl,by omega,Nat.le_refl _,by omega,HVS.out,HRG.out,HOW5.out,(show∀a,a∈([]:List Addr)→a∈fa from fun a ha => by cases ha),HSA5.out,HB5.out,by have:=HS.out;omega⟩
   case round =>
    clear HVS HRG HOW5 HSA5 HB5 HS HW35;obtain⟨left,cnt,k,g,c1,L,fo,rfl,HK,hgr,hgO,hcnt,HV,HR,HO,HF,HSA,HB,hrx⟩:=hrel;go_wp2_with (at_next;refine wpList_next_ranges _ rfl _ rfl 9 Fb RV Value.string id (fun key kl h => Ic h) (fun v y h =>⟨v,rfl⟩) mb (gO+1) n D left cnt rfl HR.out ?_ ?_)
    ·intro hc0 hl0;obtain⟨hrw,hrn,hrc,hrm⟩:=Bp.of_own HO.out (fun a ha => by have:=HFT.out a (HF.out a ha);omega);have HRC:=hid (And.intro hrc hrm);have HST:=hid (G7 130 (enters_of Tryz.func130 (by kernel_rfl) rfl) cfN Kf GM nlt (fun x y dx dy hx hy h => Ea.2 (by rw[hx.1,hy.1];exact h)) c1 hrw hrn (by have:=HMZ.out;omega));clear hrw hrn hrc hrm;have HLF:=hid hl0;clear hc0 hl0;go_wp2_with (go_at_call 129;refine HST.out.mono ?_;rintro e w7 ⟨rfl,M,hp7,hs7,r7,b7⟩;have HP7:=hid hp7;have HS7:=hid hs7;have R7:=hid r7;have B7:=hid b7;clear hp7 hs7 r7 b7)
     go_ret
     have hlen:M.length=k:=by rw[HK.out,HP7.out.length_eq]
     refine⟨M,g,c1,gO,by rw[hlen];rfl,HV.out.live HLF.out HP7.out HS7.out,by have:=HMB.out;omega,by rw[hlen];exact R7.out,by rw[hlen];exact HRC.out.1,HRC.out.2,HB.out.trans (B7.out.mono (by have:=HMB.out;omega))⟩
    ·intro x cv kl y ys w6 cnt1 hkx hlx hRv hys hat6 hrg6 hlt6 hg6 hs6 hen;have hs6a:=Nat.le_of_eq hs6;have hs6b:=Nat.le_of_eq hs6.symm;clear hs6;obtain rfl:=Ib hkx;have hRv2:DataW.held cv=y:=hRv;subst hRv2;have hMZ:=HMZ.out;have hh:=Maps.has_true_of_atKey hat6;rw[HMA.out.has]at hh;simp only[decide_eq_true_eq]at hh;obtain⟨q,hq⟩:∃q:Nat,BJ all x all.length=(q:Int):=⟨(BJ all x all.length).toNat,by omega⟩;have hv:=HMA.out.at_ x q hq (.lit (.bool true));rw[hat6]at hv;obtain⟨cs3,hcs3⟩:∃cs3,List.getD css q [] =cs3:=⟨_,rfl⟩;rw[hcs3]at hv;obtain rfl:cv= .agg cs3.toArray:=by injection hv
     obtain⟨hqk,hkd,hnq,hli1,hli0⟩:=HV.out.step hlx hq;obtain⟨ad,b3,o3,f3,rfl,hat⟩:=HX.out q hqk;rw[hcs3]at hat;have hlen:cs3.length=9:=hat.len;have HI:=hid (show(Tryz.prog.info? 76).map (·.size)=some cs3.length by rw[hlen];kernel_rfl);have HI2:=hid (show(Tryz.prog.info? 76).map (·.size)=some cs3.toArray.size by rw[List.size_toArray,hlen];kernel_rfl);have HON:=hid (all_oneCell_toArray (Ac.ones _ _ _ _ hat.reads));have HSZ:=hid (show cs3.toArray.size=9 by rw[List.size_toArray];exact hlen);obtain⟨Z,hZ⟩:∃Z:Array Value,#[int i64 0,int i64 0,.string ⟨#[]⟩,int i64 0,int i64 0,int i64 0,.slice none 0 0,.slice none 0 0,.slice none 0 0] =Z:=⟨_,rfl⟩;have hZs:Z.size=9:=by rw[← hZ];rfl
     have KZ:=Blk.new w6 76 Z;have HTH:=hid (Blk.there KZ cs3.toArray.size (by rw[List.size_toArray,hlen,hZs];exact Nat.le_refl _));obtain⟨W7,hW7⟩:∃W7,(w6.alloc (.cells Z 76)).setCells w6.heap.size 0 cs3.toArray.toList=W7:=⟨_,rfl⟩;have k7:Blk W7 w6.heap.size 76 cs3.toArray:=by rw[← hW7];exact Blk.laid KZ _ (by rw[hZs];exact hlen.symm)
     have b67:Below w6.heap.size w6 W7:=by rw[← hW7];exact AF (Aa (Below.refl _ _) _) _ 0 (Nat.le_refl _)
     have HW7:=hid hW7;have HR7:=hid (Blk.rangeAll k7);have hgb:=k7.lt;have sz7:=b67.size;have HG6:=hid hg6;have h6c:∀a:Addr,a.block<w2.heap.size→w6.cell? a=w2.cell? a:=fun a ha =>(World.cell?_of_block (HG6.out.block a.block (by omega) (fun e2 => by injection e2 with e2;omega))).trans (HSA.out a ha)
     have HSA7:=hid (show∀a:Addr,a.block<w2.heap.size→W7.cell? a=w2.cell? a from fun a ha =>(b67.cell (p:=a) (by omega)).trans (h6c a ha));have HRD7:=hid (show Ac W7 f3 cs3 all[q]from Ac.local_ _ _ _ _ _ hat.reads (fun a ha => HSA7.out a (hat.there a ha)));have hog:=(HO.out.lt _ rfl).2;have HO6:=hid (show Aj 9 76 Ac w6 gO (.slice (some ⟨g,0,none⟩) k c1) L fo from Aj.keep Ac.local_ HO.out (fun b hb => by injection hb with hb;subst hb;exact HG6.out.block _ hog (fun e2 => by injection e2 with e2;exact hgr e2)) (fun a ha => by have:=HFT.out a (HF.out a ha);exact World.cell?_of_block (HG6.out.block a.block (by omega) (fun e2 => by injection e2 with e2;omega))));have HO7:=hid (HO6.out.below Ac.local_ Ac.fixed b67);have HRG7:=hid (hrg6.kept (row:=none) ⟨b67.os,b67.tape,b67.output,b67.size,fun k hk _ => b67.block k hk⟩ (by simp) (by simp));have HB7:=hid (HB.out.trans (((CZ HG6.out (show w.heap.size≤gO+1 from by have:=HMB.out;omega) HB.out.size)).trans (b67.mono (by have:=HB.out.size;omega))));have HF3:=hid (show∀a,a∈f3→a∈fa from hat.sub);obtain⟨v0,v1,v2,q0,q1,q2,e,-⟩:=hat.reads;have y3:W7.cell? ⟨w6.heap.size,3,none⟩=some (int i64 all[q].length):=by rw[k7.cell,e];rfl
     have HOLD:=hid HR.out.left_eq;have HLT6:=hid hlt6;have HAP:=hid (Ka (P:=fun a => a∈fa) (lo:=gO) (fun a ha => by have:=HFT.out a ha;omega) (w:=W7) (W:=W7.alloc (.cells cs3.toArray 76)) (b:=W7.heap.size) HO7.out (by omega) (Aa (Below.refl _ _) _) (Blk.new _ _ _) (Aw.below Ac.local_ Ac.fixed HRD7.out (Aa (Below.refl _ _) _)) HF3.out HF.out (by rw[← HK.out];omega));rw[← HK.out]at HAP;clear hat hW7 KZ hlen hZs k7 e hcs3 b67 hv hh hat6 hRv hys hkx hrg6 h6c hg6 hlt6 hlx hnq hkd hq;by_cases ql:all[q].length = -1
     ·have hq1:(all[q].length == -1)=true:=by simpa using ql
      have HV7:=hid (hli0 ql);clear ql hli0 hli1;go_wp2_with (first
       |(refine wpList_store_mid rfl 76 (.tmp 8) (.tmp 31) rfl w6.heap.size 0 cs3.toArray rfl rfl HTH.out HI2.out HON.out ?_;rw[HW7.out]))
      go_roundw
      case rel => exact⟨_,cnt1,k,g,c1,L,fo,rfl,HK.out,hgr,hgO,by have:=HLT6.out;omega,HV7.out,HRG7.out,HO7.out,HF.out,HSA7.out,HB7.out,by omega⟩
      case measure => rw[HRG7.out.left_eq,HOLD.out];exact HLT6.out
     ·have hq1:(all[q].length == -1)=false:=by simpa using ql
      have HV7:=hid (hli1 ql);clear ql hli0 hli1;go_wp2_with (first
       |(refine wpList_store_mid rfl 76 (.tmp 8) (.tmp 31) rfl w6.heap.size 0 cs3.toArray rfl rfl HTH.out HI2.out HON.out ?_;rw[HW7.out])
       |(refine wpList_load_mid rfl 76 (.tmp 8) rfl w6.heap.size 0 rfl cs3 _ HR7.out Tryz.underlying76 rfl HI.out ?_)
       |(refine DG rfl 113 76 (.tmp 36) rfl cs3.toArray rfl _ 9 128 Tryz.underlying113 Tryz.infoRec (by omega) (by omega) HSZ.out ?_)
       |(at_builtin;refine AB rfl (.tmp 35) (.tmp 37) 113 rfl _ _ (by rfl) (by rfl) HAP.out ?_;rintro v8 w8 ⟨g8,c8,fo8,rfl,o8,h8,gr8,e8⟩;have O8:=hid o8;have H8:=hid h8;have G8:=hid gr8;have E8:=hid e8;clear o8 h8 gr8 e8))
      have h8:(W7.alloc (.cells cs3.toArray 76)).heap.size =W7.heap.size+1:=by simp
      have b78:Below W7.heap.size W7 (W7.alloc (.cells cs3.toArray 76)):=Aa (Below.refl _ _) _;have hsa8:=G8.out.size;have HRG8:=hid (((HRG7.out.alloc (.cells cs3.toArray 76)).kept G8.out (fun e2 => by injection e2 with e2;omega) (fun e2 => by injection e2 with e2;exact hgr e2.symm)));have HSA8:=hid (show∀a:Addr,a.block<w2.heap.size→w8.cell? a=w2.cell? a from fun a ha =>(World.cell?_of_block (G8.out.block a.block (by omega) (fun e2 => by injection e2 with e2;omega))).trans ((b78.cell (p:=a) (by omega)).trans (HSA7.out a ha)));have HB8:=hid (HB7.out.trans (((b78.mono (by have:=HB7.out.size;omega)).trans (CZ G8.out (show w.heap.size≤g from by have:=HMB.out;omega) (by have:=HB7.out.size;omega)))));have hg8:g8≠gO+1∧gO≤g8:=by
       rcases E8.out with e|e
       ·rw[e];exact⟨hgr,hgO⟩
       ·rw[e,h8];omega
      have HG8:=hid hg8;have HSZ8:=hid (show gO+1<w8.heap.size by omega);clear h8 b78 hsa8 hg8;go_roundw
      case rel => exact⟨_,cnt1,k+1,g8,c8,L ++ [all[q]],fo8,rfl,(show k+1=_ by rw[List.length_append,← HK.out];rfl),HG8.out.1,HG8.out.2,by have:=HLT6.out;omega,HV7.out,HRG8.out,O8.out,H8.out,HSA8.out,HB8.out,HSZ8.out⟩
      case measure => rw[HRG8.out.left_eq,HOLD.out];exact HLT6.out
theorem GG.shapeRunQ {w:World} {p:Nat} {fs:List Addr} {d:Au} {A0 A1 A2:Option Addr} {c0 c1 c2:Nat} {f0 f1 f2:List Addr}(h:GG w p fs d A0 A1 A2 c0 c1 c2 f0 f1 f2)(ks:Nat)(hks:ks=9) :
  Sem.run Tryz.prog (loadCellsFrom ⟨p,0,none⟩ 0 ks #[]) w= .ok #[int i64 d.s.g,int i64 d.s.c,int i64 d.s.data,int i64 d.s.p,int i64 d.s.rows,int i64 d.s.cap,int i64 d.s.b,int i64 d.s.q,int i64 d.s.t] w :=
 run_loadCellsFrom_list _ _ _ [int i64 d.s.g,int i64 d.s.c,int i64 d.s.data,int i64 d.s.p,int i64 d.s.rows,int i64 d.s.cap,int i64 d.s.b,int i64 d.s.q,int i64 d.s.t] ks (by rw[hks];rfl) (fun q v hq => by
  rw[Addr.add_lit];match q,hq with
  |0,hq => simp at hq;subst hq;exact h.n0
  |1,hq => simp at hq;subst hq;exact h.n1
  |2,hq => simp at hq;subst hq;exact h.n2
  |3,hq => simp at hq;subst hq;exact h.n3
  |4,hq => simp at hq;subst hq;exact h.n4
  |5,hq => simp at hq;subst hq;exact h.n5
  |6,hq => simp at hq;subst hq;exact h.n6
  |7,hq => simp at hq;subst hq;exact h.n7
  |8,hq => simp at hq;subst hq;exact h.n8
  |q+9,hq => simp at hq)
theorem EF {all:List Ag} {x:Ag}(h:F6 all x):x∈all∧x.kind=1∧x.length≠ -1:=by
 obtain⟨k,hk,e,h1,h2,-⟩:=h;exact⟨e ▸ List.getElem_mem hk,h1,h2⟩
def BA(nr:Nat)(u:List Int):Array Value:=((List.range nr).map fun(k:Nat) => Value.bool (decide ((k:Int)∈u))).toArray
theorem Lu(nr:Nat):madeCells #[.bool false] nr=BA nr []:=by
 apply Array.toList_inj.1
 rw[toList_madeCells_one];unfold BA;refine List.ext_getElem (by simp) fun k h1 h2 => by simp
theorem Fw {nr k:Nat}(u:List Int)(h:k<nr):(BA nr u)[k]? =some (.bool (decide ((k:Int)∈u))):=by
 unfold BA;simp[h]
theorem Ha {nr k:Nat}(u:List Int)(h:k<nr):(BA nr u).setIfInBounds k (.bool true)=BA nr (u ++ [(k:Int)]):=by
 apply Array.toList_inj.1
 unfold BA;refine List.ext_getElem (by simp) fun j h1 h2 => ?_
 simp only[Array.toList_setIfInBounds,List.getElem_set,List.getElem_map,List.getElem_range];by_cases e:k=j
 ·subst e;simp
 ·have e2:¬(j:Int)=(k:Int):=by omega
  simp[e,e2]
def Da(groups g:Int)(L:List Ag):List Int:=(L.filter fun x => decide (BT groups x.name=g)).flatMap Ag.rows
theorem Lw(groups g:Int) {L:List Ag} {i:Nat}(h:i<L.length):Da groups g (L.take (i+1))=Da groups g (L.take i) ++(if BT groups L[i].name =g then L[i].rows else []):=by
 unfold Da;rw[List.take_succ_eq_append_getElem h,List.filter_append,List.flatMap_append];by_cases e:BT groups L[i].name =g
 ·simp[e]
 ·simp[e]
def Fx(g:Int)(x:Ag):Bool:=(decide (x.kind=2) && decide (x.group=g))||decide (x.kind=4)
def C9(g:Int)(all:List Ag):List Int:=(all.filter (Fx g)).map Ag.row
theorem Lv(g:Int) {all:List Ag} {i:Nat}(h:i<all.length):C9 g (all.take (i+1))=C9 g (all.take i) ++(if Fx g all[i] =true then [all[i].row]else []):=by
 unfold C9;rw[List.take_succ_eq_append_getElem h,List.filter_append,List.map_append];by_cases e:Fx g all[i] =true
 ·simp[e]
 ·simp[e]
def DD(nr:Nat)(u:List Int):List Int:=((List.range nr).filter fun(k:Nat) => decide ((k:Int)∉u)).map fun(k:Nat) =>(k:Int)
theorem KH(k:Nat)(u:List Int):DD (k+1) u=DD k u ++(if(k:Int)∈u then []else [(k:Int)]):=by
 unfold DD;rw[List.range_succ,List.filter_append,List.map_append];by_cases e:(k:Int)∈u
 ·simp[e]
 ·simp[e]
theorem IZ(k:Nat)(u:List Int):(DD k u).length≤k:=by
 unfold DD;rw[List.length_map];exact Nat.le_trans (List.length_filter_le _ _) (by simp)
theorem Hg {w:World} {b k:Nat} {v:Value} {a:Addr}(h:a.block≠b):(w.setCell ⟨b,k,none⟩ v).cell? a=w.cell? a:=World.cell?_of_block (Below.heap_setCell w ⟨b,k,none⟩ v a.block h)
theorem KJ(ks:Nat)(hks:ks=9)(zS:∀w,(Go.sizeOf 25).run Tryz.prog w= .ok ks w)(aS:∀w,(isAgg 25).run Tryz.prog w= .ok true w)(p:Nat)(fs:List Addr)(d:Au)(g:Int)(w:World)(h:AtW w p fs d)(hok:d.s.sh.Ok)(hsm:(Bj d).length≤1000000)(hnm:∀r,r∈AW d→r.name.size≤1000000)
  (hr1:∀r,r∈AW d→r.kind=1→∀k,k∈r.rows→0≤k∧k<d.s.rows) (hr2:∀r,r∈AW d→r.kind=2∨r.kind=4→0≤r.row∧r.row<d.s.rows) :
  Calls Tryz.prog 105 #[.pointer (some ⟨p,0,none⟩),int i64 g] w fun e w' =>∃L A c,Cw (AW d) L∧e= .returned (.slice A (DD d.s.rows.toNat (Da d.s.g g L ++ C9 g (AW d))).length c)∧Below w.heap.size w w':=by
 obtain⟨nr,hnr⟩:∃nr:Nat,d.s.rows=(nr:Int):=⟨d.s.rows.toNat,by have:=hok.rows.1;simp only[BO.sh]at this;omega⟩;have hnr6:nr≤6:=by have:=hok.rows.2;simp only[BO.sh]at this;omega
 obtain⟨A0,A1,A2,c0,c1,c2,f0,f1,f2,HC⟩:=h.cells;have n4:w.cell? ⟨p,4,none⟩=some (int i64 (nr:Int)):=by rw[← hnr];exact HC.n4
 have hp:=HC.lt;obtain⟨tb,htb⟩:∃tb,w.heap.size=tb:=⟨_,rfl⟩;obtain⟨W1,hW1⟩:∃W1,w.alloc (.cells (madeCells #[.bool false] nr) 4)=W1:=⟨_,rfl⟩;have hmk:=CW Tryz.prog 189 4 (.bool false) 1 1 Tryz.underlying189 (by kernel_rfl) nr (by omega) (by omega) w;rw[Nat.mul_one,show(Value.bool false).cells = #[.bool false]from rfl,hW1,htb]at hmk;have hB1:Below tb w W1:=by rw[← hW1,← htb];exact Aa (Below.refl _ _) _
 have K1:Blk W1 tb 4 (BA nr []):=by rw[← hW1,← htb,← Lu];exact Blk.new w _ _
 have z1:W1.heap.size=tb+1:=by rw[← hW1,← htb];simp
 have HA:=hid (show∀W,Below tb w W→AtW W p fs d from fun W hW => h.below (by rw[htb];exact hW));have HN:=hid (Jf p fs d W1 (HA.out W1 hB1) hsm hnm);have HCT:=hid (fun(W:World) (hW:Below tb w W) => CK p fs d W (HA.out W hW) hsm);have HFS:=hid (show∀a,a∈fs→a.block<tb from by obtain⟨_,hr,-⟩:=h;rw[← htb];exact AD.fixed _ _ _ _ hr);have hho:=fun nm hn W => GW d.s.sh hok nm hn W
 unfold shV at hho;simp only[BO.sh]at hho;have HHO:=hid hho;have HKS:=hid (show∀W,Below tb w W→Sem.run Tryz.prog (loadCellsFrom ⟨p,0,none⟩ 0 ks #[]) W= .ok #[int i64 d.s.g,int i64 d.s.c,int i64 d.s.data,int i64 d.s.p,int i64 d.s.rows,int i64 d.s.cap,int i64 d.s.b,int i64 d.s.q,int i64 d.s.t] W from fun W hW => by
  obtain⟨A0',A1',A2',c0',c1',c2',f0',f1',f2',HC⟩:=(HA.out W hW).cells;exact HC.shapeRunQ ks hks)
 have hl:=DI d;obtain⟨all,hall⟩:∃all,AW d=all:=⟨_,rfl⟩;have HNM:=hid hnm;have HR1:=hid hr1;have HR2:=hid hr2;rw[hall]at HN HCT HNM HR1 HR2 hl⊢;have hN:all.length≤1000000:=by omega
 have HB1:=hid hB1;have HK1:=hid K1;have HZ1:=hid z1;have HTB:=hid htb;have HNR:=hid hnr;have hks0:¬ks=0:=by omega
 have hks1:0<ks:=by omega
 rw[hnr,Int.toNat_natCast];clear h hB1 K1 hnm hr1 hr2 hho hl hall hsm HC hnr hks;go_enter Tryz.func105,Tryz.ntmps105
 go_wp2_with fail
 clear hW1 htb z1 hmk;go_wp2_with (go_at_call 75;refine HN.out.mono ?_;rintro e w2 ⟨L,A,c,fa,rfl,hlv,ra,pa,b2⟩;have HLV:=hid hlv;have RA:=hid ra;have PA:=hid pa;have B2:=hid b2;clear hlv ra pa b2)
 obtain⟨A',c',ev,hc,hm,hx⟩:=rSl.at_ Ac.fixed (by omega) RA.out;injection ev with ev1 ev2 ev3
 subst ev1 ev3;have hx2:∀j,(hj:j<L.length)→∃ad b o cs fk,A=some ad∧At 9 Ac w2 fa ad j b o cs fk L[j]∧b≠tb∧∀a,a∈fk→a.block≠tb:=fun j hj => by
  obtain⟨ad,b,o,cs,fk,e,hat⟩:=hx j hj;have hne:∀a,a∈fa→a.block≠tb:=fun a ha => by
   rcases PA.out a ha with q|q
   ·have:=HFS.out a q;omega
   ·have:=HZ1.out;omega
  exact⟨ad,b,o,cs,fk,e,hat,by have:=hne _ (hat.mem 0 (by omega));exact this,fun a ha => hne a (hat.sub a ha)⟩
 have HX:=hid hx2;have HBW2:=hid (show Below tb w w2 from HB1.out.trans (B2.out.mono (by have:=HZ1.out;omega)));have HK2:=hid (show Blk w2 tb 4 (BA nr (Da d.s.g g (L.take 0)))from HK1.out.below B2.out HK1.out.lt);have hz2:tb<w2.heap.size:=HK2.out.lt;have HL:=hid (show∀x,x∈L→x.name.size≤1000000∧∀k,k∈x.rows→0≤k∧k<(nr:Int)from fun x hx => by
  obtain⟨h1,h2,-⟩:=EF ((HLV.out.mem x).1 hx);exact⟨HNM.out x h1,by rw[← HNR.out];exact HR1.out x h1 h2⟩)
 clear hx hx2 ev2 HN HK1 HR1 HNM;go_loopw [24] (fun ix wr =>∃i:Nat,i≤L.length∧ix= int i64 i∧Hid (Blk wr tb 4 (BA nr (Da d.s.g g (L.take i))))∧Hid (∀a:Addr,a.block<w2.heap.size→a.block≠tb→wr.cell? a=w2.cell? a)∧Hid (Below tb w wr)∧w2.heap.size≤wr.heap.size) (fun ix _ => L.length - (intOf ix).toNat)
 case atStart => exact⟨0,by omega,rfl,HK2.out,fun a _ _ => rfl,HBW2.out,Nat.le_refl _⟩
 case round =>
  obtain⟨i,hi,rfl,HK,HSA,HB,hsz⟩:=hrel;by_cases hlt:i<L.length
  ·obtain⟨ad,b3,o3,cs3,f3,rfl,hat,hnb,hnf⟩:=HX.out i hlt;have hpl3:=hat.place;have hbl3:b3<w2.heap.size:=hat.lt;have hlen:cs3.length=9:=hat.len;have HR:=hid (show wr.rangeAt b3 o3 cs3 from fun q v hq => by
    have hq1:q<cs3.length:=(List.getElem?_eq_some_iff.1 hq).1;rw[HSA.out _ hbl3 hnb,hat.cell q hq1,← hq];exact(List.getElem?_eq_getElem hq1).symm)
   have HI:=hid (show(Tryz.prog.info? 76).map (·.size)=some cs3.length by rw[hlen];kernel_rfl);have HI2:=hid (show(Tryz.prog.info? 76).map (·.size)=some cs3.toArray.size by rw[List.size_toArray,hlen];kernel_rfl);have HON:=hid (all_oneCell_toArray (Ac.ones _ _ _ _ hat.reads));obtain⟨Z,hZ⟩:∃Z:Array Value,#[int i64 0,int i64 0,.string ⟨#[]⟩,int i64 0,int i64 0,int i64 0,.slice none 0 0,.slice none 0 0,.slice none 0 0] =Z:=⟨_,rfl⟩;have hZs:Z.size=9:=by rw[← hZ];rfl
   have KZ:=Blk.new wr 76 Z;have HTH:=hid (Blk.there KZ cs3.toArray.size (by rw[List.size_toArray,hlen,hZs];exact Nat.le_refl _));obtain⟨W2,hW2⟩:∃W2,(wr.alloc (.cells Z 76)).setCells wr.heap.size 0 cs3.toArray.toList=W2:=⟨_,rfl⟩;have k2:Blk W2 wr.heap.size 76 cs3.toArray:=by rw[← hW2];exact Blk.laid KZ _ (by rw[hZs];exact hlen.symm)
   have b22:Below wr.heap.size wr W2:=by rw[← hW2];exact AF (Aa (Below.refl _ _) _) _ 0 (Nat.le_refl _)
   have HW2:=hid hW2;have hgb:=k2.lt;have hrds:=hat.reads;obtain⟨x,hxe⟩:∃x,L[i] =x:=⟨_,rfl⟩;have hLx:=HL.out _ (List.getElem_mem hlt);have HST:=hid (Lw d.s.g g hlt);rw[hxe]at hrds hLx HST;dsimp only[Ac]at hrds;obtain⟨v0,v1,v2,q0,q1,q2,e,hsub,-,-,-,-,-,-,r0,-,-⟩:=hrds;obtain⟨Ar,cr,rfl,hcr,hmr,hxr⟩:=Cn.open_ r0;have y2:W2.cell? ⟨wr.heap.size,2,none⟩=some (.string x.name):=by rw[k2.cell,e];rfl
   have y6:W2.cell? ⟨wr.heap.size,6,none⟩=some (.slice Ar x.rows.length cr):=by rw[k2.cell,e];rfl
   have HSA2:=hid (show∀a:Addr,a.block<w2.heap.size→a.block≠tb→W2.cell? a=w2.cell? a from fun a ha hb =>(b22.cell (p:=a) (by omega)).trans (HSA.out a ha hb));have HB2:=hid (show Below tb w W2 from HB.out.trans (b22.mono (by omega)));have HKW:=hid (HK.out.below b22 HK.out.lt);have HXR:=hid (show∀k,(hk:k<x.rows.length)→∃ad,Ar=some ad∧∀W:World,(∀a:Addr,a.block<w2.heap.size→a.block≠tb→W.cell? a=w2.cell? a)→W.cell? (ad.add k)=some (int i64 x.rows[k])from fun k hk => by
    obtain⟨ad,h1,h2,h3,h4,-⟩:=hxr k hk;exact⟨ad,h1,fun W hW =>(hW _ h3 (hnf _ (by rw[hsub];exact List.mem_append_left _ h2))).trans h4⟩)
   have hki:(i:Int)<(L.length:Int):=by omega
   have lS:∀dd os,Sem.run Tryz.prog (loadCellsFrom ⟨p,0,none⟩ 0 ks #[]) (grow (redrawn W2 dd) os)= .ok #[int i64 d.s.g,int i64 d.s.c,int i64 d.s.data,int i64 d.s.p,int i64 d.s.rows,int i64 d.s.cap,int i64 d.s.b,int i64 d.s.q,int i64 d.s.t] (grow (redrawn W2 dd) os):=fun dd os => HKS.out _ (HB2.out.trans ((below_regrown W2 dd os).mono (by omega)))
   have y2r:=cell_regrown y2;have QH:=hid (Bi (w:=W2) (fun W _ => HHO.out x.name hLx.1 W));obtain⟨u,hu⟩:∃u,Da d.s.g g (L.take i)=u:=⟨_,rfl⟩;rw[hu]at HKW HST;obtain⟨g3,hg3⟩:∃g3,wr.heap.size=g3:=⟨_,rfl⟩;have hsz2:w2.heap.size≤W2.heap.size:=by have:=b22.size;omega
   have HSZ2:=hid hsz2;clear hat hW2 KZ hlen hZs k2 e b22 hxe hu hnf hxr r0 HK HSA HB hg3 hsz2;by_cases qh:BT d.s.g x.name=g
   ·rw[if_pos qh]at HST;have hh:(BT d.s.g x.name == g)=true:=by simpa using qh
    clear qh;go_wp2_with (first
     |(refine wpList_load_mid rfl 76 (.tmp 26) rfl b3 o3 rfl cs3 _ HR.out Tryz.underlying76 rfl HI.out ?_)
     |(refine wpList_store_mid rfl 76 (.tmp 7) (.tmp 27) rfl wr.heap.size 0 cs3.toArray rfl rfl HTH.out HI2.out HON.out ?_;rw[HW2.out]))
    (refine wp_region_quiet_below (by kernel_rfl) (by kernel_rfl) ?_;(repeat(first|go_big_quiet_step (first|(go_at_call 32;exact QH.out _ _))|quiet_step (first|(go_at_call 32;exact QH.out _ _))));refine wpQuiet_nil ?_)
    rintro _ ⟨⟨dq,osq⟩,rfl⟩;have b23:Below W2.heap.size W2 (grow (redrawn W2 dq) osq):=below_regrown W2 dq osq;obtain⟨W3,hW3⟩:∃W3,grow (redrawn W2 dq) osq=W3:=⟨_,rfl⟩;simp only[hW3]at b23⊢;have y6':=(b23.cell (p:=⟨wr.heap.size,6,none⟩) hgb).trans y6;have HSA3:=hid (show∀a:Addr,a.block<w2.heap.size→a.block≠tb→W3.cell? a=w2.cell? a from fun a ha hb =>(b23.cell (p:=a) (by have:=HSZ2.out;omega)).trans (HSA2.out a ha hb));have HB3:=hid (show Below tb w W3 from HB2.out.trans (b23.mono (by have:=HSZ2.out;omega)));have HK3:=hid (show Blk W3 tb 4 (BA nr (u ++ x.rows.take 0))from by rw[List.take_zero,List.append_nil];exact HKW.out.below b23 HKW.out.lt);have HSZ3:=hid (show w2.heap.size≤W3.heap.size by have:=HSZ2.out;have:=b23.size;omega);clear y2 y6 y2r lS QH b23 HSA2 HB2 HKW hW3;go_wp2_with fail
    clear y6';go_loopw [40] (fun ix wx =>∃j:Nat,j≤x.rows.length∧ix= int i64 j∧Hid (Blk wx tb 4 (BA nr (u ++ x.rows.take j)))∧Hid (∀a:Addr,a.block<w2.heap.size→a.block≠tb→wx.cell? a=w2.cell? a)∧Hid (Below tb w wx)∧Hid (w2.heap.size≤wx.heap.size)) (fun ix _ => x.rows.length - (intOf ix).toNat)
    case atStart => exact⟨0,by omega,rfl,HK3.out,HSA3.out,HB3.out,HSZ3.out⟩
    case round =>
     clear HK3 HSA3 HB3 HSZ3;obtain⟨j,hj,rfl,HK,HSA,HB,HSZ⟩:=hrel;by_cases hjl:j<x.rows.length
     ·obtain⟨ad4,rfl,h4⟩:=HXR.out j hjl;have q0:=h4 wr HSA.out;have hrw:=hLx.2 _ (List.getElem_mem hjl);obtain⟨m,hm⟩:∃m:Nat,x.rows[j] =(m:Int):=⟨x.rows[j].toNat,by omega⟩;rw[hm]at q0 hrw;have hmr:m<nr:=by omega
      have q1:wr.cell? ⟨tb,m,none⟩=some (.bool (decide ((m:Int)∈u ++ x.rows.take j))):=(HK.out.cell m).trans (Fw _ hmr);have q2:=HK.out.frozen m;have q3:=HK.out.lt;have HPUT:=hid (show Blk (wr.setCell ⟨tb,m,none⟩ (.bool true)) tb 4 (BA nr (u ++ x.rows.take (j+1)))from by
       have h5:=HK.out.set_ m (.bool true);rw[Ha _ hmr]at h5;rw[List.take_succ_eq_append_getElem hjl,hm,← List.append_assoc];exact h5)
      obtain⟨bx,hbx⟩:∃bx,decide ((m:Int)∈u ++ x.rows.take j)=bx:=⟨_,rfl⟩;rw[hbx]at q1;have hmi:(m:Int)<(nr:Int):=hrw.2;have hji:(j:Int)<(x.rows.length:Int):=by omega
      clear hbx h4 hm HK;go_wp2_with fail
      go_roundw
      case rel => exact⟨j+1,by omega,by go_num,HPUT.out,fun a ha hb =>(Hg hb).trans (HSA.out a ha hb),HB.out.setCell (Nat.le_refl _) _,(show w2.heap.size≤_ by have:=HSZ.out;simpa [World.setCell]using this)⟩
      case measure => simp[intOf];omega
     ·obtain rfl:j=x.rows.length:=by omega
      go_wp2_with fail
      go_roundw
      case rel => exact⟨i+1,by omega,by go_num,by have:=HK.out;rw[List.take_length]at this;rw[HST.out];exact this,HSA.out,HB.out,HSZ.out⟩
      case measure => simp[intOf];omega
   ·rw[if_neg qh,List.append_nil]at HST;have hh:(BT d.s.g x.name == g)=false:=by simpa using qh
    clear qh;go_wp2_with (first
     |(refine wpList_load_mid rfl 76 (.tmp 26) rfl b3 o3 rfl cs3 _ HR.out Tryz.underlying76 rfl HI.out ?_)
     |(refine wpList_store_mid rfl 76 (.tmp 7) (.tmp 27) rfl wr.heap.size 0 cs3.toArray rfl rfl HTH.out HI2.out HON.out ?_;rw[HW2.out]))
    (refine wp_region_quiet_below (by kernel_rfl) (by kernel_rfl) ?_;(repeat(first|go_big_quiet_step (first|(go_at_call 32;exact QH.out _ _))|quiet_step (first|(go_at_call 32;exact QH.out _ _))));refine wpQuiet_nil ?_)
    rintro _ ⟨⟨dq,osq⟩,rfl⟩;have b23:Below W2.heap.size W2 (grow (redrawn W2 dq) osq):=below_regrown W2 dq osq;obtain⟨W3,hW3⟩:∃W3,grow (redrawn W2 dq) osq=W3:=⟨_,rfl⟩;simp only[hW3]at b23⊢;have HSA3:=hid (show∀a:Addr,a.block<w2.heap.size→a.block≠tb→W3.cell? a=w2.cell? a from fun a ha hb =>(b23.cell (p:=a) (by have:=HSZ2.out;omega)).trans (HSA2.out a ha hb));have HB3:=hid (show Below tb w W3 from HB2.out.trans (b23.mono (by have:=HSZ2.out;omega)));have HK3:=hid (show Blk W3 tb 4 (BA nr u)from HKW.out.below b23 HKW.out.lt);have HSZ3:=hid (show w2.heap.size≤W3.heap.size by have:=HSZ2.out;have:=b23.size;omega);clear y2 y6 y2r lS QH b23 HSA2 HB2 HKW hW3;go_wp2_with fail
    go_roundw
    case rel => exact⟨i+1,by omega,by go_num,by rw[HST.out];exact HK3.out,HSA3.out,HB3.out,HSZ3.out⟩
    case measure => simp[intOf];omega
  ·obtain rfl:i=L.length:=by omega
   have HKE:=hid (show Blk wr tb 4 (BA nr (Da d.s.g g L))from by have:=HK.out;rw[List.take_length]at this;exact this);have HC2:=hid (HCT.out wr HB.out);have hsa:=HSA;clear HK HSA HX HL;go_wp2_with (go_at_call 128;refine HC2.out.mono ?_;rintro e w3 ⟨A3,c3,fb,rfl,rb,pb,b3⟩;have RB:=hid rb;have PB:=hid pb;have B3:=hid b3;clear rb pb b3)
   have HBW3:=hid (show Below tb w w3 from HB.out.trans (B3.out.mono (by have:=HKE.out.lt;omega)));have HK3:=hid (show Blk w3 tb 4 (BA nr (Da d.s.g g L ++ C9 g (all.take 0)))from by
    show Blk w3 tb 4 (BA nr (Da d.s.g g L ++ []))
    rw[List.append_nil];exact HKE.out.below B3.out HKE.out.lt)
   have hz3:tb<wr.heap.size:=HKE.out.lt;obtain⟨UL,hUL⟩:∃UL,Da d.s.g g L=UL:=⟨_,rfl⟩;rw[hUL]at HK3;have HUL:=hid hUL;obtain⟨A4,c4,ev,hc,hm,hx⟩:=rSl.at_ Ac.fixed (by omega) RB.out;injection ev with ev1 ev2 ev3
   subst ev1 ev3;have hx2:∀j,(hj:j<all.length)→∃ad b o cs fk,A3=some ad∧At 9 Ac w3 fb ad j b o cs fk all[j]∧b≠tb:=fun j hj => by
    obtain⟨ad,b,o,cs,fk,e,hat⟩:=hx j hj;refine⟨ad,b,o,cs,fk,e,hat,?_⟩;have h0:=hat.mem 0 (by omega);rcases PB.out _ h0 with q|q
    ·have:=HFS.out _ q;simp only at this;omega
    ·simp only at q;omega
   have HX:=hid hx2;clear hx hx2 ev2 HKE hUL hsa HC2 HB hz3 hsz;go_loopw [52] (fun ix wx =>∃i:Nat,i≤all.length∧ix= int i64 i∧Hid (Blk wx tb 4 (BA nr (UL ++ C9 g (all.take i))))∧Hid (∀a:Addr,a.block<w3.heap.size→a.block≠tb→wx.cell? a=w3.cell? a)∧Hid (Below tb w wx)∧w3.heap.size≤wx.heap.size) (fun ix _ => all.length - (intOf ix).toNat)
   case atStart => exact⟨0,by omega,rfl,HK3.out,fun a _ _ => rfl,HBW3.out,Nat.le_refl _⟩
   case round =>
    clear HK3 HBW3;obtain⟨i,hi,rfl,HK,HSA,HB,hsz⟩:=hrel;by_cases hlt:i<all.length
    ·obtain⟨ad,b3,o3,cs3,f3,rfl,hat,hnb⟩:=HX.out i hlt;have hpl3:=hat.place;have hbl3:b3<w3.heap.size:=hat.lt;have hlen:cs3.length=9:=hat.len;have HR:=hid (show wr.rangeAt b3 o3 cs3 from fun q v hq => by
      have hq1:q<cs3.length:=(List.getElem?_eq_some_iff.1 hq).1;rw[HSA.out _ hbl3 hnb,hat.cell q hq1,← hq];exact(List.getElem?_eq_getElem hq1).symm)
     have HI:=hid (show(Tryz.prog.info? 76).map (·.size)=some cs3.length by rw[hlen];kernel_rfl);have HI2:=hid (show(Tryz.prog.info? 76).map (·.size)=some cs3.toArray.size by rw[List.size_toArray,hlen];kernel_rfl);have HON:=hid (all_oneCell_toArray (Ac.ones _ _ _ _ hat.reads));obtain⟨Z,hZ⟩:∃Z:Array Value,#[int i64 0,int i64 0,.string ⟨#[]⟩,int i64 0,int i64 0,int i64 0,.slice none 0 0,.slice none 0 0,.slice none 0 0] =Z:=⟨_,rfl⟩;have hZs:Z.size=9:=by rw[← hZ];rfl
     have KZ:=Blk.new wr 76 Z;have HTH:=hid (Blk.there KZ cs3.toArray.size (by rw[List.size_toArray,hlen,hZs];exact Nat.le_refl _));obtain⟨W2,hW2⟩:∃W2,(wr.alloc (.cells Z 76)).setCells wr.heap.size 0 cs3.toArray.toList=W2:=⟨_,rfl⟩;have k2:Blk W2 wr.heap.size 76 cs3.toArray:=by rw[← hW2];exact Blk.laid KZ _ (by rw[hZs];exact hlen.symm)
     have b22:Below wr.heap.size wr W2:=by rw[← hW2];exact AF (Aa (Below.refl _ _) _) _ 0 (Nat.le_refl _)
     have HW2:=hid hW2;have hgb:=k2.lt;have hrds:=hat.reads;obtain⟨x,hxe⟩:∃x,all[i] =x:=⟨_,rfl⟩;have HRX:=hid (show x.kind=2∨x.kind=4→0≤x.row∧x.row<(nr:Int)from by rw[← hxe,← HNR.out];exact HR2.out _ (List.getElem_mem hlt));have HST:=hid (Lv g hlt);rw[hxe]at hrds HST;dsimp only[Ac]at hrds;obtain⟨v0,v1,v2,q0,q1,q2,e,-⟩:=hrds;have y0:W2.cell? ⟨wr.heap.size,0,none⟩=some (int i64 x.kind):=by rw[k2.cell,e];rfl
     have y4:W2.cell? ⟨wr.heap.size,4,none⟩=some (int i64 x.group):=by rw[k2.cell,e];rfl
     have HSA2:=hid (show∀a:Addr,a.block<w3.heap.size→a.block≠tb→W2.cell? a=w3.cell? a from fun a ha hb =>(b22.cell (p:=a) (by omega)).trans (HSA.out a ha hb));have hwt:tb<wr.heap.size:=HK.out.lt;have HB2:=hid (show Below tb w W2 from HB.out.trans (b22.mono (by omega)));have HKW:=hid (HK.out.below b22 HK.out.lt);have y5:W2.cell? ⟨wr.heap.size,5,none⟩=some (int i64 x.row):=by rw[k2.cell,e];rfl
     have hki:(i:Int)<(all.length:Int):=by omega
     obtain⟨u,hu⟩:∃u,C9 g (all.take i)=u:=⟨_,rfl⟩;rw[hu]at HKW HST;have hsz2:w3.heap.size≤W2.heap.size:=by have:=b22.size;omega
     have HSZ2:=hid hsz2;have HUSE:x.kind=2∨x.kind=4→Fx g x=true→∃m:Nat,x.row=(m:Int)∧(m:Int)<(nr:Int)∧W2.cell? ⟨tb,m,none⟩=some (.bool (decide ((m:Int)∈UL ++ u)))∧W2.frozen? ⟨tb,m,none⟩=false∧tb<W2.heap.size∧Hid (Blk (W2.setCell ⟨tb,m,none⟩ (.bool true)) tb 4 (BA nr (UL ++ C9 g (all.take (i+1))))):=fun hk hu1 => by
      obtain⟨h0,h1⟩:=HRX.out hk;obtain⟨m,hm⟩:∃m:Nat,x.row=(m:Int):=⟨x.row.toNat,by omega⟩;rw[hm]at h1;have hmr:m<nr:=by omega
      refine⟨m,hm,h1,(HKW.out.cell m).trans (Fw _ hmr),HKW.out.frozen m,HKW.out.lt,?_⟩;have h5:=HKW.out.set_ m (.bool true);rw[Ha _ hmr]at h5;rw[HST.out,if_pos hu1,hm,← List.append_assoc];exact h5
     have HSKIP:Fx g x=false→Hid (Blk W2 tb 4 (BA nr (UL ++ C9 g (all.take (i+1))))):=fun hu1 => by
      rw[HST.out,if_neg (by rw[hu1];exact Bool.false_ne_true),List.append_nil];exact HKW.out
     clear hat hW2 KZ hlen hZs k2 e b22 hxe hu HK HSA HB hsz2 hwt;by_cases qk:x.kind=2
     ·have hk2:(x.kind == 2)=true:=by simpa using qk
      have hk4:(x.kind == 4)=false:=by rw[qk];rfl
      by_cases qg:x.group=g
      ·have hgg:(x.group == g)=true:=by simpa using qg
       obtain⟨m,hm,hmi,q1,q2,q3,HPUT⟩:=HUSE (.inl qk) (by unfold Fx;simp[qk,qg]);rw[hm]at y5;obtain⟨bx,hbx⟩:∃bx,decide ((m:Int)∈UL ++ u)=bx:=⟨_,rfl⟩;rw[hbx]at q1;clear qk qg HUSE HSKIP HKW HST HRX hm hbx;go_wp2_with (first
        |(refine wpList_load_mid rfl 76 (.tmp 54) rfl b3 o3 rfl cs3 _ HR.out Tryz.underlying76 rfl HI.out ?_)
        |(refine wpList_store_mid rfl 76 (.tmp 11) (.tmp 55) rfl wr.heap.size 0 cs3.toArray rfl rfl HTH.out HI2.out HON.out ?_;rw[HW2.out]))
       go_roundw
       case rel => exact⟨i+1,by omega,by go_num,HPUT.out,fun a ha hb =>(Hg hb).trans (HSA2.out a ha hb),HB2.out.setCell (Nat.le_refl _) _,(show w3.heap.size≤_ by have:=HSZ2.out;simpa [World.setCell]using this)⟩
       case measure => simp[intOf];omega
      ·have hgg:(x.group == g)=false:=by simpa using qg
       have HS:=HSKIP (by unfold Fx;simp[qk,qg]);clear qk qg HUSE HSKIP HKW HST HRX;go_wp2_with (first
        |(refine wpList_load_mid rfl 76 (.tmp 54) rfl b3 o3 rfl cs3 _ HR.out Tryz.underlying76 rfl HI.out ?_)
        |(refine wpList_store_mid rfl 76 (.tmp 11) (.tmp 55) rfl wr.heap.size 0 cs3.toArray rfl rfl HTH.out HI2.out HON.out ?_;rw[HW2.out]))
       go_roundw
       case rel => exact⟨i+1,by omega,by go_num,HS.out,HSA2.out,HB2.out,HSZ2.out⟩
       case measure => simp[intOf];omega
     ·have hk2:(x.kind == 2)=false:=by simpa using qk
      by_cases q4:x.kind=4
      ·have hk4:(x.kind == 4)=true:=by simpa using q4
       obtain⟨m,hm,hmi,q1,q2,q3,HPUT⟩:=HUSE (.inr q4) (by unfold Fx;simp[q4]);rw[hm]at y5;obtain⟨bx,hbx⟩:∃bx,decide ((m:Int)∈UL ++ u)=bx:=⟨_,rfl⟩;rw[hbx]at q1;clear qk q4 HUSE HSKIP HKW HST HRX hm hbx;go_wp2_with (first
        |(refine wpList_load_mid rfl 76 (.tmp 54) rfl b3 o3 rfl cs3 _ HR.out Tryz.underlying76 rfl HI.out ?_)
        |(refine wpList_store_mid rfl 76 (.tmp 11) (.tmp 55) rfl wr.heap.size 0 cs3.toArray rfl rfl HTH.out HI2.out HON.out ?_;rw[HW2.out]))
       go_roundw
       case rel => exact⟨i+1,by omega,by go_num,HPUT.out,fun a ha hb =>(Hg hb).trans (HSA2.out a ha hb),HB2.out.setCell (Nat.le_refl _) _,(show w3.heap.size≤_ by have:=HSZ2.out;simpa [World.setCell]using this)⟩
       case measure => simp[intOf];omega
      ·have hk4:(x.kind == 4)=false:=by simpa using q4
       have HS:=HSKIP (by unfold Fx;simp[qk,q4]);clear qk q4 HUSE HSKIP HKW HST HRX;go_wp2_with (first
        |(refine wpList_load_mid rfl 76 (.tmp 54) rfl b3 o3 rfl cs3 _ HR.out Tryz.underlying76 rfl HI.out ?_)
        |(refine wpList_store_mid rfl 76 (.tmp 11) (.tmp 55) rfl wr.heap.size 0 cs3.toArray rfl rfl HTH.out HI2.out HON.out ?_;rw[HW2.out]))
       go_roundw
       case rel => exact⟨i+1,by omega,by go_num,HS.out,HSA2.out,HB2.out,HSZ2.out⟩
       case measure => simp[intOf];omega
    ·obtain rfl:i=all.length:=by omega
     have hke:Blk wr tb 4 (BA nr (UL ++ C9 g all)):=by have:=HK.out;rw[List.take_length]at this;exact this
     obtain⟨U,hU⟩:∃U,UL ++ C9 g all=U:=⟨_,rfl⟩;rw[hU]at hke;have HU:=hid hU;obtain⟨g5,hg5⟩:∃g5,wr.heap.size=g5:=⟨_,rfl⟩;have ht5:tb<g5:=by have:=hke.lt;omega
     obtain⟨w5,hw5⟩:∃w5,wr.alloc (.cells #[] 2)=w5:=⟨_,rfl⟩;have b5:Below g5 wr w5:=by rw[← hw5,← hg5];exact Aa (Below.refl _ _) _
     have z5:w5.heap.size=g5+1:=by rw[← hw5,← hg5];simp
     have HO5:=hid (show Aj 1 2 As w5 g5 (.slice (some ⟨g5,0,none⟩) 0 0) (DD 0 U) []from by
      rw[← hw5,← hg5];exact Aj.start ⟨rfl,.inr ⟨wr.heap.size,0,#[],rfl,Nat.le_refl _,Blk.new wr _ _,Nat.le_refl _,by unfold maxLen;omega,rfl,rfl⟩⟩)
     have HK5:=hid (hke.below b5 ht5);have HB5:=hid (show Below tb w w5 from HB.out.trans (b5.mono (by omega)));have HZ5:=hid z5;have HG5:=hid hg5;clear HK HSA HX HB hU hke hsz z5 b5;go_wp2_with fail
     try rw[hw5]
     try rw[hg5]
     clear hw5 hg5;go_loopw [78,12] (fun ix vv wx =>∃(k n c:Nat) (A:Option Addr),k≤nr∧ix= int i64 k∧vv= .slice A n c∧Hid (n=(DD k U).length)∧Hid (Aj 1 2 As wx g5 (.slice A n c) (DD k U) [])∧Hid (Blk wx tb 4 (BA nr U))∧Hid (Below tb w wx)∧Hid (g5<wx.heap.size)) (fun ix _ _ => nr - (intOf ix).toNat)
     case atStart => exact⟨0,0,0,some ⟨g5,0,none⟩,by omega,rfl,rfl,rfl,HO5.out,HK5.out,HB5.out,(show g5<_ by have:=HZ5.out;omega)⟩
     case round =>
      clear HO5 HK5 HB5 HZ5;obtain⟨k,n,c,A,hk,rfl,rfl,HNN,HO,HK,HB,HG⟩:=hrel;by_cases hkl:k<nr
      ·have hki:(k:Int)<(nr:Int):=by omega
       have q1:wr.cell? ⟨tb,k,none⟩=some (.bool (decide ((k:Int)∈U))):=(HK.out.cell k).trans (Fw _ hkl);have HST:=hid (KH k U);by_cases hu:(k:Int)∈U
       ·rw[if_pos hu,List.append_nil]at HST;rw[decide_eq_true hu]at q1;clear hu;go_wp2_with fail
        go_roundw
        case rel => exact⟨k+1,n,c,A,by omega,by go_num,rfl,(show n=_ by rw[HST.out];exact HNN.out),(show Aj _ _ _ _ _ _ _ _ by rw[HST.out];exact HO.out),HK.out,HB.out,HG.out⟩
        case measure => simp[intOf];omega
       ·rw[if_neg hu]at HST;rw[decide_eq_false hu]at q1;have hlen:=IZ k U;have b6:Below wr.heap.size wr (wr.alloc (.cells #[int i64 (k:Int)] 2)):=Aa (Below.refl _ _) _;have HB6:=hid b6;have HAP:=hid (Ez (x:=(k:Int)) (HO.out.below As.local_ As.fixed b6) (by unfold okI;omega) (by omega) (by have:=HG.out;have:=b6.size;omega) (Blk.new wr 2 #[int i64 (k:Int)]));clear hu b6 hlen;go_wp2_with (at_builtin;refine AB rfl (.tmp 85) (.tmp 87) 28 rfl _ _ (by rfl) (by rfl) HAP.out ?_;rintro v8 w8 ⟨A8,c8,rfl,o8,b8,s8,k8,j8⟩;have O8:=hid o8;have B8:=hid b8;have S8:=hid s8;have K8:=hid k8;clear o8 b8 s8 k8 j8)
        go_roundw
        case rel =>
         have h6:=HB6.out.size;have hg:=HG.out;exact⟨k+1,_,c8,A8,by omega,by go_num,rfl,(show _=_ by rw[HST.out,List.length_append];rfl),(show Aj _ _ _ _ _ _ _ _ by rw[HST.out];exact O8.out),(HK.out.below (HB6.out.mono (by omega)) (by omega:tb<g5)).below B8.out (by omega),HB.out.trans ((HB6.out.mono (by omega)).trans (B8.out.mono (by omega))),(show g5<_ by have:=S8.out;omega)⟩
        case measure => simp[intOf];omega
      ·obtain rfl:k=nr:=by omega
       go_wp2_with fail
       go_ret
       have hn:=HNN.out;subst hn;exact⟨L,A,c,HLV.out,by rw[HUL.out,HU.out];rfl,by rw[HTB.out];exact HB.out⟩
theorem KI(p:Nat)(fs:List Addr)(d:Au)(g:Int)(w:World)(h:AtW w p fs d)(hok:d.s.sh.Ok)(hsm:(Bj d).length≤1000000)(hnm:∀r,r∈AW d→r.name.size≤1000000)
  (hr1:∀r,r∈AW d→r.kind=1→∀k,k∈r.rows→0≤k∧k<d.s.rows) (hr2:∀r,r∈AW d→r.kind=2∨r.kind=4→0≤r.row∧r.row<d.s.rows) :
  Calls Tryz.prog 105 #[.pointer (some ⟨p,0,none⟩),int i64 g] w fun e w' =>∃L A c,Cw (AW d) L∧e= .returned (.slice A (DD d.s.rows.toNat (Da d.s.g g L ++ C9 g (AW d))).length c)∧Below w.heap.size w w' :=
 KJ 9 rfl Tryz.sizeOf25 Tryz.isAgg25 p fs d g w h hok hsm hnm hr1 hr2
end Go.Proofs.YthbljikbnoghcaaGreat
namespace Go.Proofs.YthbljikbnoghcaaGreat
open Go.Shelf Go.RowKit Go.Lib Go.Sort
def cfS(x y:BI):Int:=C3 x.seq y.seq
theorem Fc {x y:BI}:ltOf cfS x y=true↔x.seq<y.seq:=by
 unfold ltOf cfS C3;by_cases h:x.seq<y.seq
 ·simp[h]
 ·by_cases h2:y.seq<x.seq
  ·simp[h,h2]
  ·simp[h,h2]
theorem ltS_swo:SWO (ltOf cfS) where
 irrefl x:=by
  cases h:ltOf cfS x x with
  |false => rfl
  |true => rw[Fc]at h;omega
 trans x y z h1 h2:=by
  rw[Fc]at *;omega
 ntrans x y z h1 h2:=by
  cases h:ltOf cfS x z with
  |false => rfl
  |true =>
   exfalso
   rw[Fc]at h;have n1:¬x.seq<y.seq:=fun q => by rw[Fc.2 q]at h1;cases h1
   have n2:¬y.seq<z.seq:=fun q => by rw[Fc.2 q]at h2;cases h2
   omega
theorem Hs(x y:BI)(w:World):Calls Tryz.prog 161 #[.agg (Bn x).toArray,.agg (Bn y).toArray] w fun e w' => e= .returned (int i64 (cfS x y))∧∃q os,w'=grow (w.drewN q) os:=by
 unfold Bn cfS;generalize slV x.rows=v1;generalize slV x.data=v2;generalize slV x.delta=v3;generalize slV y.rows=v4;generalize slV y.data=v5;generalize slV y.delta=v6;obtain⟨xk,xs,xn,xl,xg,xr,_,_,_,_⟩:=x;obtain⟨yk,ys,yn,yl,yg,yr,_,_,_,_⟩:=y;simp only;have HE:=hid (fun(a b:Obj) => show∃q os,(w.alloc a).alloc b=grow (w.drewN q) os from⟨0,#[a] ++ #[b],by rw[alloc_eq_grow w a,alloc_eq_grow (grow w #[a]) b,grow_grow];rfl⟩);have HC:=hid (fun W => EJ xs ys W);go_enter Tryz.func161,Tryz.ntmps161
 go_wp2_with (go_at_call 162;refine(HC.out _).mono ?_;rintro e w' ⟨rfl,rfl⟩)
 go_ret
 exact⟨rfl,HE.out _ _⟩
theorem Kt(blk off size:Nat)(w:World):CmpLays Tryz.prog 161 #[] Bn 9 cfS blk off size w:=fun _ _ _ _ x y => Hs x y _
def DS(groups g:Int)(x:Ag):Bool:=decide (x.data.length=0)||!decide (BT groups x.name=g)
theorem Hr(ks:Nat)(hks:ks=9)(zS:∀w,(Go.sizeOf 25).run Tryz.prog w= .ok ks w)(aS:∀w,(isAgg 25).run Tryz.prog w= .ok true w)(x:Ag)(cs:List Value)(f:List Addr)(p b1 b2:Nat)(fs:List Addr)(d:Au)(g:Int)(w:World)
  (hx:Ac w f cs x) (hn:x.name.size≤1000000) (hw:AtW w p fs d) (hok:d.s.sh.Ok) (h1:w.cell? ⟨b1,0,none⟩=some (.pointer (some ⟨p,0,none⟩))) (h2:w.cell? ⟨b2,0,none⟩=some (int i64 g)) :
  Calls Tryz.prog 160 #[.agg cs.toArray,.pointer (some ⟨b1,0,none⟩),.pointer (some ⟨b2,0,none⟩)] w fun e w' => e= .returned (.bool (DS d.s.g g x))∧Below w.heap.size w w':=by
 obtain⟨A0,A1,A2,c0,c1,c2,f0,f1,f2,HCs⟩:=hw.cells;obtain⟨v0,v1,v2,g0,g1,g2,rfl,-,-,-,-,-,-,-,-,r1,-⟩:=hx;obtain⟨Ad,cd,rfl,-⟩:=rSl.head r1;obtain⟨nD,hnD⟩:∃nD,x.data.length=nD:=⟨_,rfl⟩;rw[hnD];obtain⟨WA,hWA⟩:∃WA,w.alloc (.cells #[int i64 x.kind,int i64 x.seq,.string x.name,int i64 x.length,int i64 x.group,int i64 x.row,v0,.slice Ad nD cd,v2] 76)=WA:=⟨_,rfl⟩;have hB:Below w.heap.size w WA:=by rw[← hWA];exact(Below.refl _ _).alloc (Nat.le_refl _) _
 have K:Blk WA w.heap.size 76 #[int i64 x.kind,int i64 x.seq,.string x.name,int i64 x.length,int i64 x.group,int i64 x.row,v0,.slice Ad nD cd,v2]:=by rw[← hWA];exact Blk.new w _ _
 have q2:=cell_regrown (w:=WA) (a:=⟨w.heap.size,2,none⟩) ((K.cell 2).trans rfl);have q7:=cell_regrown (w:=WA) (a:=⟨w.heap.size,7,none⟩) ((K.cell 7).trans rfl);have r1':=cell_regrown (w:=WA) ((hB.cell (p:=⟨b1,0,none⟩) (World.block_lt_of_cell? _ _ h1)).trans h1);have r2':=cell_regrown (w:=WA) ((hB.cell (p:=⟨b2,0,none⟩) (World.block_lt_of_cell? _ _ h2)).trans h2);have hW2:=hw.below hB;have lS:∀dd os,Sem.run Tryz.prog (loadCellsFrom ⟨p,0,none⟩ 0 ks #[]) (grow (redrawn WA dd) os)= .ok #[int i64 d.s.g,int i64 d.s.c,int i64 d.s.data,int i64 d.s.p,int i64 d.s.rows,int i64 d.s.cap,int i64 d.s.b,int i64 d.s.q,int i64 d.s.t] (grow (redrawn WA dd) os):=fun dd os => by
  obtain⟨A0',A1',A2',c0',c1',c2',f0',f1',f2',HC⟩:=(hW2.below (below_regrown WA dd os)).cells;exact HC.shapeRunQ ks hks
 have hho:=fun W => GW d.s.sh hok x.name hn W
 unfold shV at hho;simp only[BO.sh]at hho;have QH:=hid (Bi (w:=WA) (fun W _ => hho W));obtain⟨rb,hrb⟩:∃rb,DS d.s.g g x=rb:=⟨_,rfl⟩;rw[hrb];unfold DS at hrb;rw[hnD]at hrb;have hks0:¬ks=0:=by omega
 have hks1:0<ks:=by omega
 have HB:=hid hB;have HRB:=hid hrb;have hnp:p<w.heap.size:=HCs.lt;clear HCs hw h1 h2 hB K hho hrb hks hnD r1 hW2;by_cases qd:nD=0
 ·have e1:rb=true:=by rw[← HRB.out];simp[qd]
  subst e1;subst qd;clear HRB;go_enter Tryz.func160,Tryz.ntmps160
  go_wp2_with fail
  (refine wp_region_quiet_below (by kernel_rfl) (by kernel_rfl) ?_;(repeat(first|go_big_quiet_step (first|(go_at_call 32;exact QH.out _ _))|quiet_step (first|(go_at_call 32;exact QH.out _ _))));refine wpQuiet_nil ?_)
  rintro _ ⟨⟨dq,osq⟩,rfl⟩;go_wp2_with fail
  go_ret
  exact⟨rfl,HB.out.trans ((below_regrown WA dq osq).mono HB.out.size)⟩
 ·have hd0:¬(nD:Int)=0:=by omega
  have hd1:((nD:Int) == 0)=false:=by simpa using qd
  by_cases qh:BT d.s.g x.name=g
  ·have e1:rb=false:=by rw[← HRB.out];simp[qd,qh]
   subst e1;have hh:(BT d.s.g x.name != g)=false:=by simpa using qh
   clear HRB qh;go_enter Tryz.func160,Tryz.ntmps160
   go_wp2_with fail
   (refine wp_region_quiet_below (by kernel_rfl) (by kernel_rfl) ?_;(repeat(first|go_big_quiet_step (first|(go_at_call 32;exact QH.out _ _))|quiet_step (first|(go_at_call 32;exact QH.out _ _))));refine wpQuiet_nil ?_)
   rintro _ ⟨⟨dq,osq⟩,rfl⟩;go_wp2_with fail
   go_ret
   exact⟨rfl,HB.out.trans ((below_regrown WA dq osq).mono HB.out.size)⟩
  ·have e1:rb=true:=by rw[← HRB.out];simp[qd,qh]
   subst e1;have hh:(BT d.s.g x.name != g)=true:=by simpa using qh
   clear HRB qh;go_enter Tryz.func160,Tryz.ntmps160
   go_wp2_with fail
   (refine wp_region_quiet_below (by kernel_rfl) (by kernel_rfl) ?_;(repeat(first|go_big_quiet_step (first|(go_at_call 32;exact QH.out _ _))|quiet_step (first|(go_at_call 32;exact QH.out _ _))));refine wpQuiet_nil ?_)
   rintro _ ⟨⟨dq,osq⟩,rfl⟩;go_wp2_with fail
   go_ret
   exact⟨rfl,HB.out.trans ((below_regrown WA dq osq).mono HB.out.size)⟩
theorem Hq(x:Ag)(cs:List Value)(f:List Addr)(p b1 b2:Nat)(fs:List Addr)(d:Au)(g:Int)(w:World)
  (hx:Ac w f cs x) (hn:x.name.size≤1000000) (hw:AtW w p fs d) (hok:d.s.sh.Ok) (h1:w.cell? ⟨b1,0,none⟩=some (.pointer (some ⟨p,0,none⟩))) (h2:w.cell? ⟨b2,0,none⟩=some (int i64 g)) :
  Calls Tryz.prog 160 #[.agg cs.toArray,.pointer (some ⟨b1,0,none⟩),.pointer (some ⟨b2,0,none⟩)] w fun e w' => e= .returned (.bool (DS d.s.g g x))∧Below w.heap.size w w' :=
 Hr 9 rfl Tryz.sizeOf25 Tryz.isAgg25 x cs f p b1 b2 fs d g w hx hn hw hok h1 h2
end Go.Proofs.YthbljikbnoghcaaGreat
