/- Part 12 of the proof. -/
import Derived.Test.YtfjkoifpdoemdaaGreatJ11
import Derived.RangeFuncNested
import Derived.RangeFuncBound
import Derived.RangeFuncCalls
import Derived.RangeFuncLeaves
import Derived.Shelf.Abstract
import Derived.WalkKit
import Derived.OwnWalkIn
import Derived.TacticsInMore
import Derived.LoopNIn
import Derived.LoopIn
import Derived.Test.YtfjkoifpdoemdaaGreatJ00
set_option maxHeartbeats 8000000
set_option maxRecDepth 100000
set_option linter.unusedVariables false
set_option linter.unusedSimpArgs false
open Go.Proofs.Tryz
open Go.Value (int)
open Go.IntKind (i64)
namespace Go.Proofs.YtfjkoifpdoemdaaGreat
open Go.RowKit Go.Lib Go.Sort
theorem Kx(s:Sh)(v:Value)(all:List Ah)(f:List Addr)(group:Int)(w:World)(h:rSl 9 Ac w f v all)(hsm:all.length≤1000000) :
  Calls prog 154 #[shV s,v,int i64 group] w fun e w' =>∃A c fs',e= .returned (.slice A (Cm s.g all group).length c)∧rSl 9 Ac w' fs' (.slice A (Cm s.g all group).length c) (Cm s.g all group)∧(∀a,a∈fs'→a∈f∨w.heap.size≤a.block)∧Below w.heap.size w w':=by
 obtain⟨A0,c0,rfl,hc,hm,hx⟩:=rSl.at_ Ac.fixed (by omega) h;have HX:=U hx;have HALL:=U h;have HFT:=U (rSl.there Ac.fixed h);obtain⟨g0,hg0⟩:∃g0,w.heap.size=g0:=⟨_,rfl⟩;have HG:=U hg0;clear hx h;unfold shV;go_enter func154,ntmps154
 go_wp2_with fail
 obtain⟨W1,hW1⟩:∃W1,(w.alloc (.cells #[int i64 s.g,int i64 s.c,int i64 s.data,int i64 s.p,int i64 s.rows,int i64 s.cap,int i64 s.b,int i64 s.q,int i64 s.t] 31))=W1:=⟨_,rfl⟩;have hb1:Below w.heap.size w W1:=by rw[← hW1];exact(aB _ _).alloc (aC _) _
 have k1:Blk W1 g0 31 #[int i64 s.g,int i64 s.c,int i64 s.data,int i64 s.p,int i64 s.rows,int i64 s.cap,int i64 s.b,int i64 s.q,int i64 s.t]:=by rw[← hW1,← hg0];exact Blk.new w _ _
 have z1:W1.heap.size=g0+1:=by rw[← hW1,← hg0];simp
 have start:Hid (Aj 9 119 Ac (W1.alloc (.cells #[] 119)) (g0+1) (.slice (some ⟨g0+1,0,none⟩) 0 0) ((all.take 0).filter (Co s.g all group)) []):=by
  have:=Aj.start (R:=Ac) (World.ownsRow_lit (base:=W1.heap.size) (e:=119) (size:=9) W1 #[] 0 (aC _) (Nat.zero_le _) rfl);rw[z1]at this;exact this
 have st2:Hid (Below (g0+1) W1 (W1.alloc (.cells #[] 119))):=(aB _ _).alloc (by omega) _;have HB1:=U hb1;have HK1:=U k1;have HZ1:=U z1;have pg:W1.cell? ⟨g0,0,none⟩=some (int i64 s.g):=(k1.cell 0).trans rfl;have gz:g0<W1.heap.size:=k1.lt;clear hb1 k1;rw[hW1];try rw[hg0]
 try simp only[z1]
 clear hW1 z1 hg0;go_loopw [8,7,9] (fun a b _ wr =>∃(i n c:Nat) (A:Option Addr) (fo:List Addr),i≤all.length∧a= int i64 i∧b= .slice A n c∧Hid (n=((all.take i).filter (Co s.g all group)).length)∧Hid (Aj 9 119 Ac wr (g0+1) (.slice A n c) ((all.take i).filter (Co s.g all group)) fo)∧Hid (∀a,a∈fo→a∈f)∧Hid (Below (g0+1) W1 wr)) (fun a _ _ _ => all.length - (intOf a).toNat)
 case atStart => exact⟨0,0,0,some ⟨g0+1,0,none⟩,[],by omega,rfl,rfl,(show _=_ by simp),start.o,(show∀_,_ from fun a ha => by cases ha),st2.o⟩
 case round =>
  clear start st2;obtain⟨i,n,c,A,fo,hi,rfl,rfl,HN,HO,HF,HB⟩:=hrel;have pg1:=(HB.o.cell (p:=⟨g0,0,none⟩) (show g0<g0+1 by omega)).trans pg;have hbw1:=HB.o.size;have hbw:g0+1≤wr.heap.size:=by have:=HZ1.o;omega
  have gz1:g0<wr.heap.size:=by omega
  have HWB:=U (show Below w.heap.size w wr from HB1.o.trans (HB.o.mono (by rw[HG.o];omega)));by_cases hlti:i<all.length
  ·obtain⟨ad3,b3,o3,cs3,f3,rfl,hat⟩:=HX.o i hlti;have hat2:=hat.below Ac.local_ HWB.o;have hpl3:=hat.place;have hbl3:=hat2.lt;have hlen:cs3.length=9:=hat2.len;have HR:=U (show wr.rangeAt b3 o3 cs3 from fun q v hq => by
    have hq1:q<cs3.length:=(List.getElem?_eq_some_iff.1 hq).1;rw[hat2.cell q hq1,← hq];exact(aO hq1).symm)
   have HI:=U (show(prog.info? 119).map (·.size)=some cs3.length by rw[hlen];kernel_rfl);have HI2:=U (show(prog.info? 119).map (·.size)=some cs3.toArray.size by rw[aZ,hlen];kernel_rfl);have HON:=U (all_oneCell_toArray (Ac.ones _ _ _ _ hat2.reads));have HSZ:=U (show cs3.toArray.size=9 by rw[aZ];exact hlen);have HF3:=U (show∀a,a∈f3→a∈f from hat.sub);obtain⟨Z,hZ⟩:∃Z:Array Value,#[int i64 0,int i64 0,.string ⟨#[]⟩,int i64 0,int i64 0,int i64 0,.slice none 0 0,.slice none 0 0,.slice none 0 0] =Z:=⟨_,rfl⟩;have hZs:Z.size=9:=by rw[← hZ];rfl
   have KZ:=Blk.new wr 119 Z;have HTH:=U (Blk.there KZ cs3.toArray.size (by rw[aZ,hlen,hZs];exact aC _));obtain⟨W2,hW2⟩:∃W2,(wr.alloc (.cells Z 119)).setCells wr.heap.size 0 cs3.toArray.toList=W2:=⟨_,rfl⟩;have k2:Blk W2 wr.heap.size 119 cs3.toArray:=by rw[← hW2];exact Blk.laid KZ _ (by rw[hZs];exact hlen.symm)
   have B2:=U (show Below wr.heap.size wr W2 by rw[← hW2];exact Ba (Af (aB _ _) _) _ 0 (aC _));have HW2:=U hW2;have HO2:=U (HO.o.below Ac.local_ Ac.fixed B2.o);have HRD2:=U (AB.below Ac.local_ Ac.fixed hat2.reads B2.o);have HR2:=U (Blk.rangeAll k2);have hgb:=k2.lt;obtain⟨v0,v1,v2,q0,q1,q2,e,-⟩:=hat.reads;have y0:W2.cell? ⟨wr.heap.size,0,none⟩=some (int i64 all[i].kind):=by rw[k2.cell,e];rfl
   have y1:W2.cell? ⟨wr.heap.size,1,none⟩=some (int i64 all[i].seq):=by rw[k2.cell,e];rfl
   have y4:W2.cell? ⟨wr.heap.size,4,none⟩=some (int i64 all[i].group):=by rw[k2.cell,e];rfl
   have pg2:=(B2.o.cell (p:=⟨g0,0,none⟩) gz1).trans pg1;have HD:=U (l6Done_c _ all f all[i].seq group W2 (rSl.below Ac.local_ Ac.fixed (rSl.below Ac.local_ Ac.fixed HALL.o HWB.o) B2.o));have HNN:=U (show n+1≤1000000000 by
    have h2:=HN.o;have h3:=List.length_filter_le (Co s.g all group) (all.take i);rw[aQ]at h3;omega)
   have HAP:=U (Ot (P:=fun a => a∈f) (fun a ha => by have:=HFT.o a ha;have:=HG.o;omega) (w:=W2) (W:=W2.alloc (.cells cs3.toArray 119)) (b:=W2.heap.size) HO2.o (by omega) (Af (aB _ _) _) (Blk.new _ _ _) (AB.below Ac.local_ Ac.fixed HRD2.o (Af (aB _ _) _)) HF3.o HF.o (by rw[← HN.o];exact HNN.o));rw[← HN.o]at HAP;have hke:Co s.g all group all[i] =(decide (all[i].kind =2) && ((decide (s.g≤group)||decide (all[i].group =group)) && !Gi all all[i].seq group)):=rfl;clear hat hat2 hW2 KZ hlen hZs k2 e;obtain⟨bd,hbd⟩:∃bd,Gi all all[i].seq group=bd:=⟨_,rfl⟩;rw[hbd]at HD hke;have HKE:=U hke;clear hbd hke;by_cases qk:all[i].kind =2
   ·have hk:(all[i].kind == 2)=true:=by simpa using qk
    by_cases qg:s.g≤group
    ·cases bd with
     |true =>
      have KE:=U (show Co s.g all group all[i] =false by rw[HKE.o];simp);clear qk HKE;go_wp2_with (first
       |(refine aD rfl 119 (.tmp 19) rfl b3 o3 rfl cs3 _ HR.o underlying119 rfl HI.o ?_)
       |(refine aW rfl 119 (.tmp 9) (.tmp 20) rfl wr.heap.size 0 cs3.toArray rfl rfl HTH.o HI2.o HON.o ?_;rw[HW2.o])
       |(refine aD rfl 119 (.tmp 9) rfl wr.heap.size 0 rfl cs3 _ HR2.o underlying119 rfl HI.o ?_)
       |(go_at_call 236;refine HD.o.mono ?_;rintro e w' ⟨rfl,rfl⟩))
      go_roundw
      case rel =>
       have hF:=DA (keep:=Co s.g all group) hlti KE.o;exact⟨i+1,n,c,A,fo,by omega,by go_num,rfl,(show _=_ by rw[hF];exact HN.o),(show Aj _ _ _ _ _ _ _ _ by rw[hF];exact HO2.o),HF.o,HB.o.trans (B2.o.mono hbw)⟩
      case measure => simp[intOf];omega
     |false =>
      have KE:=U (show Co s.g all group all[i] =true by rw[HKE.o];simp[qk,qg]);clear qk HKE;go_wp2_with (first
       |(refine aD rfl 119 (.tmp 19) rfl b3 o3 rfl cs3 _ HR.o underlying119 rfl HI.o ?_)
       |(refine aW rfl 119 (.tmp 9) (.tmp 20) rfl wr.heap.size 0 cs3.toArray rfl rfl HTH.o HI2.o HON.o ?_;rw[HW2.o])
       |(refine aD rfl 119 (.tmp 9) rfl wr.heap.size 0 rfl cs3 _ HR2.o underlying119 rfl HI.o ?_)
       |(go_at_call 236;refine HD.o.mono ?_;rintro e w' ⟨rfl,rfl⟩)
       |(refine EX rfl 80 119 (.tmp 45) rfl cs3.toArray rfl _ 9 128 underlying80 Tryz.infoRec (by omega) (by omega) HSZ.o ?_)
       |(at_builtin;refine Ar rfl (.tmp 44) (.tmp 46) 80 rfl _ _ (by rfl) (by rfl) HAP.o ?_;rintro v8 w8 ⟨g8,c8,fo8,rfl,o8,h8,b8,s8,q8,r8⟩;have O8:=U o8;have H8:=U h8;have B8:=U b8;clear o8 h8 b8 s8 q8 r8))
      go_roundw
      case rel =>
       have hF:=F9 (keep:=Co s.g all group) hlti KE.o;exact⟨i+1,n+1,c8,some ⟨g8,0,none⟩,fo8,by omega,by go_num,rfl,(show _=_ by rw[hF,bC,← HN.o];rfl),(show Aj _ _ _ _ _ _ _ _ by rw[hF];exact O8.o),H8.o,(HB.o.trans ((B2.o.mono hbw).trans B8.o))⟩
      case measure => simp[intOf];omega
    ·have qg2:group<s.g:=by omega
     by_cases qe:all[i].group =group
     ·have he:(all[i].group == group)=true:=by simpa using qe
      cases bd with
      |true =>
       have KE:=U (show Co s.g all group all[i] =false by rw[HKE.o];simp);clear qk HKE qe;go_wp2_with (first
        |(refine aD rfl 119 (.tmp 19) rfl b3 o3 rfl cs3 _ HR.o underlying119 rfl HI.o ?_)
        |(refine aW rfl 119 (.tmp 9) (.tmp 20) rfl wr.heap.size 0 cs3.toArray rfl rfl HTH.o HI2.o HON.o ?_;rw[HW2.o])
        |(refine aD rfl 119 (.tmp 9) rfl wr.heap.size 0 rfl cs3 _ HR2.o underlying119 rfl HI.o ?_)
        |(go_at_call 236;refine HD.o.mono ?_;rintro e w' ⟨rfl,rfl⟩))
       go_roundw
       case rel =>
        have hF:=DA (keep:=Co s.g all group) hlti KE.o;exact⟨i+1,n,c,A,fo,by omega,by go_num,rfl,(show _=_ by rw[hF];exact HN.o),(show Aj _ _ _ _ _ _ _ _ by rw[hF];exact HO2.o),HF.o,HB.o.trans (B2.o.mono hbw)⟩
       case measure => simp[intOf];omega
      |false =>
       have KE:=U (show Co s.g all group all[i] =true by rw[HKE.o];simp[qk,qe]);clear qk HKE qe;go_wp2_with (first
        |(refine aD rfl 119 (.tmp 19) rfl b3 o3 rfl cs3 _ HR.o underlying119 rfl HI.o ?_)
        |(refine aW rfl 119 (.tmp 9) (.tmp 20) rfl wr.heap.size 0 cs3.toArray rfl rfl HTH.o HI2.o HON.o ?_;rw[HW2.o])
        |(refine aD rfl 119 (.tmp 9) rfl wr.heap.size 0 rfl cs3 _ HR2.o underlying119 rfl HI.o ?_)
        |(go_at_call 236;refine HD.o.mono ?_;rintro e w' ⟨rfl,rfl⟩)
        |(refine EX rfl 80 119 (.tmp 45) rfl cs3.toArray rfl _ 9 128 underlying80 Tryz.infoRec (by omega) (by omega) HSZ.o ?_)
        |(at_builtin;refine Ar rfl (.tmp 44) (.tmp 46) 80 rfl _ _ (by rfl) (by rfl) HAP.o ?_;rintro v8 w8 ⟨g8,c8,fo8,rfl,o8,h8,b8,s8,q8,r8⟩;have O8:=U o8;have H8:=U h8;have B8:=U b8;clear o8 h8 b8 s8 q8 r8))
       go_roundw
       case rel =>
        have hF:=F9 (keep:=Co s.g all group) hlti KE.o;exact⟨i+1,n+1,c8,some ⟨g8,0,none⟩,fo8,by omega,by go_num,rfl,(show _=_ by rw[hF,bC,← HN.o];rfl),(show Aj _ _ _ _ _ _ _ _ by rw[hF];exact O8.o),H8.o,(HB.o.trans ((B2.o.mono hbw).trans B8.o))⟩
       case measure => simp[intOf];omega
     ·have he:(all[i].group == group)=false:=by simpa using qe
      have KE:=U (show Co s.g all group all[i] =false by rw[HKE.o];simp[qe,qg]);clear qk HKE qe;go_wp2_with (first
       |(refine aD rfl 119 (.tmp 19) rfl b3 o3 rfl cs3 _ HR.o underlying119 rfl HI.o ?_)
       |(refine aW rfl 119 (.tmp 9) (.tmp 20) rfl wr.heap.size 0 cs3.toArray rfl rfl HTH.o HI2.o HON.o ?_;rw[HW2.o])
       |(refine aD rfl 119 (.tmp 9) rfl wr.heap.size 0 rfl cs3 _ HR2.o underlying119 rfl HI.o ?_)
       |(go_at_call 236;refine HD.o.mono ?_;rintro e w' ⟨rfl,rfl⟩))
      go_roundw
      case rel =>
       have hF:=DA (keep:=Co s.g all group) hlti KE.o;exact⟨i+1,n,c,A,fo,by omega,by go_num,rfl,(show _=_ by rw[hF];exact HN.o),(show Aj _ _ _ _ _ _ _ _ by rw[hF];exact HO2.o),HF.o,HB.o.trans (B2.o.mono hbw)⟩
      case measure => simp[intOf];omega
   ·have hk:(all[i].kind == 2)=false:=by simpa using qk
    have KE:=U (show Co s.g all group all[i] =false by rw[HKE.o];simp[qk]);clear qk HKE;go_wp2_with (first
     |(refine aD rfl 119 (.tmp 19) rfl b3 o3 rfl cs3 _ HR.o underlying119 rfl HI.o ?_)
     |(refine aW rfl 119 (.tmp 9) (.tmp 20) rfl wr.heap.size 0 cs3.toArray rfl rfl HTH.o HI2.o HON.o ?_;rw[HW2.o])
     |(refine aD rfl 119 (.tmp 9) rfl wr.heap.size 0 rfl cs3 _ HR2.o underlying119 rfl HI.o ?_)
     |(go_at_call 236;refine HD.o.mono ?_;rintro e w' ⟨rfl,rfl⟩))
    go_roundw
    case rel =>
     have hF:=DA (keep:=Co s.g all group) hlti KE.o;exact⟨i+1,n,c,A,fo,by omega,by go_num,rfl,(show _=_ by rw[hF];exact HN.o),(show Aj _ _ _ _ _ _ _ _ by rw[hF];exact HO2.o),HF.o,HB.o.trans (B2.o.mono hbw)⟩
    case measure => simp[intOf];omega
  ·obtain rfl:i=all.length:=by omega
   go_wp2_with fail
   go_ret
   have h1:=HN.o;have h2:=HO.o;rw[aV]at h1 h2;obtain⟨gr,hgr,-,-,-,hgl,-⟩:=h2.reads;have h3:n=(Cm s.g all group).length:=h1;subst h3;exact⟨A,c,gr ++ fo,rfl,hgr,fun a ha => by
    rcases List.mem_append.1 ha with ha|ha
    ·have:=hgl a ha;have:=HG.o;exact .inr (by omega)
    ·exact .inl (HF.o a ha),HWB.o⟩
def EW(L:List Ah)(row:Int):Option Ah:=L.reverse.find? fun x => decide (x.row=row)
def Ef(groups:Int)(all:List Ah)(group row:Int):Option Ah:=if group<groups then EW (Cm groups all group) row else none
theorem QZ {L:List Ah} {row:Int} {k:Nat}(hk:k<L.length)(h:L[k].row =row)(hb:∀q,(hq:q<L.length)→k<q→L[q].row≠row):EW L row=some L[k]:=by
 unfold EW;have e:L.reverse=(L.drop (k+1)).reverse ++ L[k] ::(L.take k).reverse:=by
  conv => lhs;rw[← List.take_append_drop k L,List.drop_eq_getElem_cons hk]
  simp
 rw[e,List.find?_append];have:(L.drop (k+1)).reverse.find? (fun x => decide (x.row=row))=none:=by
  rw[List.find?_eq_none];intro x hx;rw[List.mem_reverse]at hx;obtain⟨i,hi,rfl⟩:=aY hx;rw[bU]at hi;rw[List.getElem_drop];have:=hb (k+1+i) (by omega) (by omega);simpa using this
 rw[this];simp[h]
theorem Pn {L:List Ah} {row:Int}(hb:∀q,(hq:q<L.length)→L[q].row≠row):EW L row=none:=by
 unfold EW;rw[List.find?_eq_none];intro x hx;rw[List.mem_reverse]at hx;obtain⟨i,hi,rfl⟩:=aY hx;simpa using hb i hi
def OptS(L?:Option (List UInt8))(S:Addr→Prop)(w:World)(e:Ending)(w':World):Prop :=
 (∃L A c fs,L? =some L∧e= .returned (.tuple #[.slice A L.length c,.bool true])∧Ag w' fs (.slice A L.length c) L∧(∀a,a∈fs→S a∨w.heap.size≤a.block)∧Below w.heap.size w w')∨(L? =none∧e= .returned (.tuple #[.slice none 0 0,.bool false])∧Below w.heap.size w w')
theorem Ka.s {w:World} {p:Nat} {fs:List Addr} {d:Am} {A0 A1 A2:Option Addr} {c0 c1 c2:Nat} {f0 f1 f2:List Addr}(h:Ka w p fs d A0 A1 A2 c0 c1 c2 f0 f1 f2):w.rangeAt p 0 [int i64 d.s.g,int i64 d.s.c,int i64 d.s.data,int i64 d.s.p,int i64 d.s.rows,int i64 d.s.cap,int i64 d.s.b,int i64 d.s.q,int i64 d.s.t]:=fun q v hq => by
 rw[Nat.zero_add];match q,hq with
 |0,hq => simp at hq;subst hq;exact h.n0
 |1,hq => simp at hq;subst hq;exact h.n1
 |2,hq => simp at hq;subst hq;exact h.n2
 |3,hq => simp at hq;subst hq;exact h.n3
 |4,hq => simp at hq;subst hq;exact h.n4
 |5,hq => simp at hq;subst hq;exact h.n5
 |6,hq => simp at hq;subst hq;exact h.n6
 |7,hq => simp at hq;subst hq;exact h.n7
 |8,hq => simp at hq;subst hq;exact h.n8
 |q+9,hq => simp at hq
theorem l13Own_c(p:Nat)(fs:List Addr)(d:Am)(v:Value)(all:List Ah)(f:List Addr)(group row:Int)(w:World)(h:AtW w p fs d)(ha:rSl 9 Ac w f v all)(hsm:all.length≤1000000) :
  Calls prog 153 #[.pointer (some ⟨p,0,none⟩),v,int i64 group,int i64 row] w (OptS ((Ef d.s.g all group row).map Ah.data) (fun a => a∈f) w):=by
 obtain⟨A0,A1,A2,c0,c1,c2,f0,f1,f2,HCs⟩:=h.cells;have HSH:=U HCs.s;have n0:=HCs.n0;have hp:=HCs.lt;have HU:=U (Kx d.s.sh v all f group w ha hsm);obtain⟨Av,cv,rfl,-⟩:=rSl.head ha;have hlen:=List.length_filter_le (Co d.s.g all group) all;clear HCs h ha;have hown:Ef d.s.g all group row=if group<d.s.g then EW (Cm d.s.g all group) row else none:=rfl
 obtain⟨rr,hrr⟩:∃rr,Ef d.s.g all group row=rr:=⟨_,rfl⟩;rw[hrr]at hown⊢;have HOWN:=U hown;clear hown hrr;have hUL:(Cm d.s.g all group).length≤1000000:=by unfold Cm;omega
 unfold shV at HU;rw[show d.s.sh.g=d.s.g from rfl,show d.s.sh.c=d.s.c from rfl,show d.s.sh.data=d.s.data from rfl,show d.s.sh.p=d.s.p from rfl,show d.s.sh.rows=d.s.rows from rfl,show d.s.sh.cap=d.s.cap from rfl,show d.s.sh.b=d.s.b from rfl,show d.s.sh.q=d.s.q from rfl,show d.s.sh.t=d.s.t from rfl]at HU;obtain⟨L,hL⟩:∃L,Cm d.s.g all group=L:=⟨_,rfl⟩;rw[hL]at HU HOWN hUL;clear hL hlen;go_enter func153,ntmps153
 go_wp2_with (first
  |(refine aD rfl 31 (.tmp 14) rfl p 0 rfl _ _ HSH.o underlying31 rfl (by kernel_rfl) ?_)
  |(go_at_call 154;refine HU.o.mono ?_;rintro e w1 ⟨A5,c5,f5,rfl,r5,l5,b5⟩;have R5:=U r5;have L5:=U l5;have B5:=U b5;clear r5 l5 b5))
 obtain⟨A5',c5',e,hc5,hm5,hx⟩:=rSl.at_ Ac.fixed (by omega) R5.o;injection e with e1 _ e3
 subst e1 e3;have HX:=U hx;have n0':=(B5.o.cell (p:=⟨p,0,none⟩) hp).trans n0;have hp1:p<w1.heap.size:=aE hp B5.o.size;clear hx n0;by_cases qg:group<d.s.g
 ·rw[aL qg]at HOWN;go_loop [11] (fun i =>∃k:Nat,k≤L.length∧i= int i64 ((k:Int) - 1)∧Hid (∀q,(hq:q<L.length)→k≤q→L[q].row≠row)) (fun i =>(intOf i+1).toNat)
  case atStart => exact⟨L.length,aC _,by go_num,fun q hq h => by omega⟩
  case round =>
   obtain⟨k,hk,rfl,HF⟩:=hrel;by_cases hk0:k=0
   ·subst hk0;have e1:rr=none:=by rw[HOWN.o];exact Pn (fun q hq => HF.o q hq (Nat.zero_le _))
    subst e1;go_wp2_with fail
    go_ret2
    exact .inr ⟨rfl,rfl,B5.o⟩
   ·obtain⟨m,rfl⟩:∃m,k=m+1:=⟨k - 1,by omega⟩;have hml:m<L.length:=by omega
    have r1:((m+1:Nat):Int) - 1=(m:Int):=by omega
    rw[r1];have hm0:(0:Int)≤(m:Int):=by omega
    obtain⟨ad,b,o,cs,fk,rfl,hat⟩:=HX.o m hml;have hpl:=hat.place;have hbl:=hat.lt;have hsub:=hat.sub;obtain⟨v0,v1,v2,g0,g1,g2,e,efk,-,-,-,-,-,-,-,hr1,-⟩:=hat.reads;have HSUB:=U (show∀a,a∈g1→a∈f∨w.heap.size≤a.block from fun a ha => L5.o a (hsub a (by rw[efk];exact aT _ (aX _ ha))));obtain⟨A7,c7,e7,-⟩:=rSl.head hr1;subst e7;have y5:w1.cell? ⟨b,o+5,none⟩=some (int i64 L[m].row):=by
     have:=hat.cell 5 (by rw[hat.len];omega);simpa [e]using this
    have y7:w1.cell? ⟨b,o+7,none⟩=some (.slice A7 L[m].data.length c7):=by
     have:=hat.cell 7 (by rw[hat.len];omega);simpa [e]using this
    have HR7:=U hr1;clear hat e hr1 hsub efk;by_cases qr:L[m].row =row
    ·have hq:(L[m].row == row)=true:=by simpa using qr
     have e1:rr=some L[m]:=by rw[HOWN.o];exact QZ hml qr (fun q hq hmq => HF.o q hq (by omega))
     subst e1;clear qr;go_wp2_with fail
     go_ret2
     exact .inl ⟨_,A7,c7,g1,rfl,rfl,HR7.o,HSUB.o,B5.o⟩
    ·have hq:(L[m].row == row)=false:=by simpa using qr
     have HQR:=U qr;clear qr;go_wp2_with fail
     go_round
     case rel =>
      refine⟨m,by omega,by go_num,(show∀_,_ from fun q hq hmq => ?_)⟩;by_cases e:q=m
      ·subst e;exact HQR.o
      ·exact HF.o q hq (by omega)
     case measure => simp[intOf]
 ·rw[aI qg]at HOWN;have e1:rr=none:=HOWN.o;subst e1;by_cases hl0:L.length=0
  ·rw[hl0];go_loop [11] (fun i => i= int i64 (-1)) (fun i => 0)
   case atStart => go_num
   case round =>
    subst hrel;go_wp2_with fail
    go_ret2
    exact .inr ⟨rfl,rfl,B5.o⟩
  ·have hl1:(0:Int)≤(L.length:Int) - 1:=by omega
   go_loop [11] (fun i => i= int i64 ((L.length:Int) - 1)) (fun i => 0)
   case atStart => go_num
   case round =>
    subst hrel;go_wp2_with fail
    go_ret2
    exact .inr ⟨rfl,rfl,B5.o⟩
attribute [local go_sem] Oper.semAt_some
theorem Gf {F:Fence} {n:Nat} {P:Program} {ops:Array Oper} {rest:List Oper} {op:Oper} {a:Act} {w:World} {Q:Exit→Act→World→Prop}(hgd:op.guard=none)(ty:TypeId)(x:Operand)(ho:op.op= .load ty x)
  (b o:Nat) (hx:a.eval x= .pointer (some ⟨b,o,none⟩)) (cs:List Value) (d:TypeDesc) (hc:w.rangeAt b o cs)
  (hu:P.underlying ty=some d) (hd:d.isRow=true) (hi:(P.info? ty).map (·.size)=some cs.length)
  (h:wpListIn F n P ops Q rest (a.put op.dst (.agg cs.toArray)) w):wpListIn F n P ops Q (op :: rest) a w :=
 wpListIn_plain hgd fun K hK => by
  refine⟨fun f hf => ?_,?_⟩
  ·unfold Oper.about at hf;rw[ho]at hf;cases hf
  ·rw[Oper.semAt_eq _ _ _ (by rw[ho];intro c;simp)];unfold execOp;simp only[ho,hx,Instr.loadAt,Instr.sureAddr,Sem.run_bind,Sem.run_pure,Result.andThen_ok,run_loadVar_mid w b o ty cs d hc hu hd hi];exact hK _ _ h
theorem F6 {F:Fence} {n:Nat} {P:Program} {ops:Array Oper} {rest:List Oper} {op:Oper} {a:Act} {w:World} {Q:Exit→Act→World→Prop}(hgd:op.guard=none)(ty:TypeId)(x y:Operand)(ho:op.op= .store ty x y)
  (b o:Nat) (cells:Array Value) (hx:a.eval x= .pointer (some ⟨b,o,none⟩)) (hy:a.eval y= .agg cells)
  (ht:w.there b o cells.size) (hi:(P.info? ty).map (·.size)=some cells.size) (h1:cells.all (·.oneCell')=true)
  (h:wpListIn F n P ops Q rest (a.put op.dst undef) (w.setCells b o cells.toList)):wpListIn F n P ops Q (op :: rest) a w :=
 wpListIn_plain hgd fun K hK => by
  refine⟨fun f hf => ?_,?_⟩
  ·unfold Oper.about at hf;rw[ho]at hf;cases hf
  ·rw[Oper.semAt_eq _ _ _ (by rw[ho];intro c;simp)];unfold execOp;simp only[ho,hx,hy,Instr.storeAt,Instr.sureAddr,Sem.run_bind,Sem.run_pure,Result.andThen_ok,run_storeVar_mid w b o ty cells ht hi h1];exact hK _ _ h
theorem KeepsOthers.setCells(b:Nat):∀(vs:List Value) (o:Nat) (W:World),KeepsOthers W (W.setCells b o vs)
 | [],_,W => KeepsOthers.refl W
 |v :: vs,o,W =>(KeepsOthers.setCell W ⟨b,o,none⟩ v).trans (KeepsOthers.setCells b vs (o+1) _)
theorem Li {β:Type}(B:Nat)(t:TypeId)(f:β→Array Value):Own (fun s W => Blk W B t (f s)):=fun s X Y row hs hg hrow =>
 hs.grown hg (fun e' => by obtain⟨o,ho,hc⟩:=hrow B e'.symm;rw[show X.heap[B]? =_ from hs]at ho;cases ho;cases hc)
structure CW (w0:World) where
 i:Int
 d:Ah
 cs:List Value
 fk:List Addr
 ok:Ac w0 fk cs d
theorem back1_in(l Bs n₀:Nat)(A:Option Addr)(c:Nat)(fs:List Addr)(L:List Ah)(w0:World)(hr:rSl 9 Ac w0 fs (.slice A L.length c) L)(hn0:n₀=w0.heap.size)(J Jx:List (CW w0)→World→Prop)(n:Nat)(hn:1≤n)
  (hY:∀pre x W,J pre W→pre.length<L.length→YieldAt Fence.wide (n - 1) prog l #[int i64 x.i,.agg x.cs.toArray] W fun e W' =>
   (e= .returned (.bool true)∧J (pre ++ [x]) W'∧Below n₀ W W')∨(e= .returned (.bool false)∧Jx (pre ++ [x]) W'))
  (W:World) (hW0:Below n₀ w0 W) (hBs:w0.cell? ⟨Bs,0,none⟩=some (.slice A L.length c)) (h0:J [] W) :
  CallsIn Fence.wide n prog 292 #[.func (.yield l) #[] #[],.pointer (some ⟨Bs,0,none⟩)] W fun e W' =>(∃v,e= .returned v)∧
   ((∃ys,ys.map CW.d=L.reverse∧J ys W')∨(∃pre,(∃k,pre.map CW.d=L.reverse.take k)∧Jx pre W')):=by
 obtain⟨A',c',e,hc,hm,hx⟩:=rSl.at_ Ac.fixed (by omega) hr;injection e with e1 _ e3
 subst e1 e3;have HX:=U hx;have HW0:=U hW0;have hBlt:Bs<n₀:=by rw[hn0];exact World.block_lt_of_cell? _ _ hBs
 have HBS:=U (fun(W':World) (h:Below n₀ w0 W') =>(h.cell (p:=⟨Bs,0,none⟩) hBlt).trans hBs);have HY:=U hY;have cBs:=HBS.o W hW0;clear hx hBs hY hW0;refine callsIn_of_wp func292 rfl trivial ?_ rfl;simp only[ntmps292,aZ,List.length_cons,List.length_nil,Nat.reduceAdd,Nat.reduceSub,Array.replicate_succ,Array.replicate_zero,List.push_toArray,List.append_toArray,List.nil_append,List.cons_append];gi_wp2
 gi_loopw [3] (fun i wr =>∃k:Nat,k≤L.length∧i= int i64 ((k:Int) - 1)∧Hid (Below n₀ w0 wr)∧Hid (∃pre:List (CW w0),pre.map CW.d=L.reverse.take (L.length - k)∧pre.length=L.length - k∧J pre wr))
  (fun i _ =>(intOf i+1).toNat)
 case atStart => exact⟨L.length,aC _,by go_num,HW0,[],by simp,by simp,h0⟩
 case round =>
  obtain⟨k,hk,rfl,HB,hpre⟩:=hrel;obtain⟨pre,hpm,hpl,hJ⟩:=hpre.o;by_cases hk0:k=0
  ·subst hk0;have HJ:=U hJ;have HPM:=U hpm;clear hJ hpm;gi_wp2
   go_end0
   exact⟨⟨_,rfl⟩,.inl ⟨pre,by rw[HPM.o,Nat.sub_zero,← List.length_reverse,aV],HJ.o⟩⟩
  ·obtain⟨m,rfl⟩:∃m,k=m+1:=⟨k - 1,by omega⟩;have hml:m<L.length:=by omega
   have r1:((m+1:Nat):Int) - 1=(m:Int):=by omega
   rw[r1];have hm0:(0:Int)≤(m:Int):=by omega
   obtain⟨ad,b,o,cs,fk,rfl,hat⟩:=HX.o m hml;have hpl2:=hat.place;have hbl:b<n₀:=by rw[hn0];exact hat.lt
   have HR:Hid (wr.rangeAt b o cs):=fun q v hq => by
    have hq1:q<cs.length:=(List.getElem?_eq_some_iff.1 hq).1;rw[HB.o.cell (p:=⟨b,o+q,none⟩) hbl,hat.cell q hq1,← hq];exact(aO hq1).symm
   have hlen:=hat.len;have cB2:=HBS.o wr HB.o;obtain⟨x,hx1,hx2,hx3⟩:∃x:CW w0,x.i=(m:Int)∧x.cs=cs∧x.d=L[m]:=⟨⟨m,L[m],cs,fk,hat.reads⟩,rfl,rfl,rfl⟩;have HXD:=U hx3;have hy0:=HY.o pre x wr hJ (by omega);rw[hx1,hx2]at hy0;obtain⟨fn,tmps,assign,body,hy,hR⟩:=hy0;have HYR:=U hR;have HPM:=U hpm;have hsz:(prog.info? 119).map (·.size)=some cs.length:=by rw[hlen];kernel_rfl
   clear hat hR hx3 hJ hpm hlen hpre;gi_wp2_with (refine Gf rfl 119 (.tmp 15) rfl b o rfl cs _ HR.o underlying119 rfl hsz ?_)
   refine HYR.o.mono ?_;rintro e W3 (⟨rfl,hJ3,hk3⟩|⟨rfl,hJx3⟩)
   ·have HJ3:=U hJ3;have HK3:=U hk3;clear hJ3 hk3;gi_wp2
    go_roundw
    case rel =>
     refine⟨m,by omega,by go_num,HB.o.trans HK3.o,pre ++ [x],?_,by simp;omega,HJ3.o⟩;rw[List.map_append,HPM.o,List.map_cons,List.map_nil,HXD.o];have e:L.length - m=(L.length - (m+1))+1:=by omega
     rw[e,List.take_add_one,List.getElem?_reverse (by omega)];have e2:L.length - 1 - (L.length - (m+1))=m:=by omega
     rw[e2,aO hml];rfl
    case measure => simp[intOf]
   ·have HJ3:=U hJx3;clear hJx3;gi_wp2
    refine bodyPost_ret (results_none rfl _ _ _) rfl ?_;refine⟨⟨_,rfl⟩,.inr ⟨pre ++ [x],⟨L.length - m,?_⟩,HJ3.o⟩⟩;rw[List.map_append,HPM.o,List.map_cons,List.map_nil,HXD.o];have e:L.length - m=(L.length - (m+1))+1:=by omega
    rw[e,List.take_add_one,List.getElem?_reverse (by omega)];have e2:L.length - 1 - (L.length - (m+1))=m:=by omega
    rw[e2,aO hml];rfl
theorem OM(Bs n₀:Nat)(A:Option Addr)(c:Nat)(fs:List Addr)(L:List Ah)(w0:World)(hr:rSl 9 Ac w0 fs (.slice A L.length c) L)(hn0:n₀=w0.heap.size)(n:Nat)(hn:1≤n)(hBs:w0.cell? ⟨Bs,0,none⟩=some (.slice A L.length c)) :
  SeqStopsK Fence.wide n prog 292 #[.pointer (some ⟨Bs,0,none⟩)] (fun x:CW w0 => #[Value.int .i64 x.i,.agg x.cs.toArray]) (Below n₀) (fun ys => ys.map CW.d=L.reverse) (fun pre =>∃k,pre.map CW.d=L.reverse.take k) L.length w0:=fun l J Jx W hW _ _ hY h0 =>
 back1_in l Bs n₀ A c fs L w0 hr hn0 J Jx n hn hY W (hn0 ▸ hW) hBs h0
theorem ON(A:Option Addr)(n c:Nat)(w:World):Calls prog 257 #[.slice A n c] w fun e w' => e= .returned (.func (.func 292) #[] #[.pointer (some ⟨w.heap.size,0,none⟩)])∧w'=w.alloc (.cells #[.slice A n c] 80):=by
 go_enter func257,ntmps257
 go_wp2_with fail
 go_ret
 exact⟨rfl,rfl⟩
attribute [local go_sem] Oper.semAt_some
theorem Hn {P:Program} {fn:Func} {p u:Tmp} {ty ty2:TypeId}(h:fn.results= #[.cell p ty,.cell u ty2])(tmps:Array Value)(w:World)(g:Nat)(t:TypeId)(cs:Array Value)(d:TypeDesc)(g2:Nat)(v2:Value)
  (hp:tmps.getD p undef= .pointer (some ⟨g,0,none⟩)) (hg:Blk w g t cs)
  (hu:P.underlying ty=some d) (hd:(match d with| .struct _| .array _ _ => true|_ => false)=true) (hi:(P.info? ty).map (·.size)=some cs.size)
  (hp2:tmps.getD u undef= .pointer (some ⟨g2,0,none⟩)) (h2:(loadVar ty2 ⟨g2,0,none⟩).run P w= .ok v2 w) :
  (results fn tmps).run P w= .ok (.tuple #[.agg cs,v2]) w:=by
 have hp':tmps[p]?.getD undef= .pointer (some ⟨g,0,none⟩):=by simpa using hp
 have hp2':tmps[u]?.getD undef= .pointer (some ⟨g2,0,none⟩):=by simpa using hp2
 simp[results,h,hp',hp2',asAddr,run_loadVar_row w g t ty cs (0,0) d hg hu hd hi,h2]
theorem J0 {w:World} {g:Nat} {v:Value}(h:w.cell? ⟨g,0,none⟩=some v):(loadVar 4 ⟨g,0,none⟩).run prog w= .ok v w:=by
 simp[loadVar,go_sem,h,isAgg4]
theorem Below.wide_ {B:Nat} {w0:World}:∀(vs:List Value) (b o:Nat) (w:World),B≤b→Below B w0 w→Below B w0 (w.setCells b o vs)
 | [],_,_,_,_,h => h
 |v :: r,b,o,_,hb,h => Below.wide_ r b (o+1) _ hb (h.setCell hb v)
theorem Ag.over {w w':World} {fs:List Addr} {v:Value} {bs:List UInt8}(h:Ag w fs v bs)(hs:∀a u,w.cell? a=some (.int .u8 u)→w'.cell? a=some (.int .u8 u)):∃fs',Ag w' fs' v bs:=by
 obtain⟨A,c,rfl,h1,h2,h3⟩:=Ag.open_ h;cases bs with
 |nil => exact⟨[],Ag.empty h2⟩
 |cons x r =>
  obtain⟨ad,rfl,-⟩:=h3 0 (by simp);refine⟨_,Ag.close_ h1 h2 fun k hk => ?_⟩;obtain⟨ad',e,-,-,hc⟩:=h3 k hk;injection e with e;subst e
  exact hs _ _ hc
theorem not_u8 {W:World} {g:Nat} {t:TypeId} {cs:Array Value}(K:Blk W g t cs)(hn:∀v,v∈cs→∀u,v≠ .int .u8 u) {a:Addr} {u:Int}(h:W.cell? a=some (.int .u8 u)):a.block≠g:=fun e => by
 have hK:W.heap[g]? =some (.cells cs t (0,0)):=K;unfold World.cell? at h;rw[e,hK]at h;simp only at h;split at h
 ·cases h
 ·exact hn _ (Array.mem_of_getElem? h) _ rfl
structure Mq (b6 b7:Nat) {w0:World} (x:CW w0) (W:World):Prop where
 k6:Blk W b6 119 x.cs.toArray
 k7:Blk W b7 4 #[.bool true]
 dat:∃f v,x.cs[7]? =some v∧Ag W f v x.d.data
theorem Mq.own(b6 b7:Nat) {w0:World}:Own (fun(x:CW w0) W => Mq b6 b7 x W):=fun x X Y row hs hg hr =>
 ⟨Li b6 119 (fun x:CW w0 => x.cs.toArray) x X Y row hs.k6 hg hr,Li b7 4 (fun _:Unit => #[Value.bool true]) () X Y row hs.k7 hg hr,by
  obtain⟨f,v,h1,h2⟩:=hs.dat;obtain⟨f',h3⟩:=h2.over (w':=Y) (fun a u h => cell_kept h hg hr);exact⟨f',v,h1,h3⟩⟩
def RecA(o:Option Ah)(w:World)(e:Ending)(w':World):Prop :=
 (∃d cs f v,o=some d∧e= .returned (.tuple #[.agg cs,.bool true])∧cs.size=9∧cs.all (·.oneCell')=true∧cs[7]? =some v∧Ag w' f v d.data∧Below w.heap.size w w')∨(o=none∧∃cs,e= .returned (.tuple #[.agg cs,.bool false])∧cs.size=9∧cs.all (·.oneCell')=true∧Below w.heap.size w w')
theorem CW.row7 {w0:World}(x:CW w0):x.cs.length=9∧(∀v∈x.cs,v.oneCell'=true)∧x.cs[5]? =some (int i64 x.d.row)∧∃f v,x.cs[7]? =some v∧Ag w0 f v x.d.data:=by
 obtain⟨i,d,cs,fk,ok⟩:=x;obtain⟨xr,e,-⟩:=Ac.encoded ok 0;obtain⟨v0,v1,v2,g0,g1,g2,e2,-,-,-,-,-,-,-,-,hr1,-⟩:=ok;refine⟨(by rw[← e];rfl:cs.length=9),(by rw[← e];exact Ii xr:∀v∈cs,v.oneCell'=true),by simp[e2],⟨g1,v1,by simp[e2],hr1⟩⟩
theorem lastF_of {w0:World} {L:List Ah} {ini:List (CW w0)} {x:CW w0} {row:Int} {k:Nat}(hk:(ini ++ [x]).map CW.d=L.reverse.take k)(hi:∀y,y∈ini→y.d.row≠row)(hx:x.d.row=row):EW L row=some x.d:=by
 unfold EW;rw[← List.take_append_drop k L.reverse,← hk,List.map_append,List.append_assoc,List.find?_append];have:(ini.map CW.d).find? (fun x => decide (x.row=row))=none:=by
  rw[List.find?_eq_none];intro z hz;obtain⟨y,hy,rfl⟩:=List.mem_map.1 hz;simpa using hi y hy
 rw[this];simp[hx]
theorem lastF_no {w0:World} {L:List Ah} {ys:List (CW w0)} {row:Int}(hk:ys.map CW.d=L.reverse)(hi:∀y,y∈ys→y.d.row≠row):EW L row=none:=by
 unfold EW;rw[← hk,List.find?_eq_none];intro z hz;obtain⟨y,hy,rfl⟩:=List.mem_map.1 hz;simpa using hi y hy
theorem Po(p:Nat)(fs:List Addr)(d:Am)(group row:Int)(w:World)(h:AtW w p fs d)(hok:d.s.sh.Ok)(hg0:0≤group)(hsm:(CZ d).length≤1000000) :
  Calls prog 185 #[.pointer (some ⟨p,0,none⟩),int i64 group,int i64 row] w (RecA (Ef d.s.g (AN d) group row) w):=by
 obtain⟨W1,hW1⟩:∃W1,((w.alloc (.cells #[int i64 row] 2)).alloc (.cells #[int i64 0,int i64 0,.string ⟨#[]⟩,int i64 0,int i64 0,int i64 0,.slice none 0 0,.slice none 0 0,.slice none 0 0] 119)).alloc (.cells #[.bool false] 4)=W1:=⟨_,rfl⟩;have hB1:Below w.heap.size w W1:=by rw[← hW1];exact(((aB _ _).alloc (aC _) _).alloc (by simp) _).alloc (by simp;omega) _
 have K5:Blk W1 w.heap.size 2 #[int i64 row]:=by rw[← hW1];exact((Blk.new w _ _).alloc _).alloc _
 have K6:Blk W1 (w.heap.size+1) 119 #[int i64 0,int i64 0,.string ⟨#[]⟩,int i64 0,int i64 0,int i64 0,.slice none 0 0,.slice none 0 0,.slice none 0 0]:=by rw[← hW1];exact(Blk.new1 w _ _ _).alloc _
 have K7:Blk W1 (w.heap.size+1+1) 4 #[.bool false]:=by rw[← hW1];exact Blk.new2 w _ _ _ _
 have hS1:W1.heap.size=w.heap.size+3:=by rw[← hW1];simp
 have HA1:=U (h.below hB1);obtain⟨A0,A1,A2,c0,c1,c2,f0,f1,f2,HCs⟩:=HA1.o.cells;have HSH:=U HCs.s;have hp:=HCs.lt;have HD:=U (GH d.s.sh hok group W1);unfold shV at HD;rw[show d.s.sh.g=d.s.g from rfl,show d.s.sh.c=d.s.c from rfl,show d.s.sh.data=d.s.data from rfl,show d.s.sh.p=d.s.p from rfl,show d.s.sh.rows=d.s.rows from rfl,show d.s.sh.cap=d.s.cap from rfl,show d.s.sh.b=d.s.b from rfl,show d.s.sh.q=d.s.q from rfl,show d.s.sh.t=d.s.t from rfl]at HD;have HB1:=U hB1;have HK5:=U K5;have HK6:=U K6;have HK7:=U K7;have HU:=U (fun(w2:World) (hb:Below W1.heap.size W1 w2) => NJ p fs d group w2 (HA1.o.below hb) hok hg0 hsm);have hown:Ef d.s.g (AN d) group row=if group<d.s.g then EW (Cm d.s.g (AN d) group) row else none:=rfl
 obtain⟨rr,hrr⟩:∃rr,Ef d.s.g (AN d) group row=rr:=⟨_,rfl⟩;rw[hrr]at hown⊢;have HOWN:=U hown;obtain⟨L,hL⟩:∃L,Cm d.s.g (AN d) group=L:=⟨_,rfl⟩;rw[hL]at HU HOWN;clear hL hown hrr HCs h hB1 K5 K6 K7 HA1 hsm;have hks:(prog.info? 119).map (·.size)=some 9:=by kernel_rfl
 refine(callsIn_wide (n:=9)).1 ?_;refine callsIn_of_wp_marks func185 rfl trivial ?_ rfl;refine wpIn_wide.2 ?_;simp only[ntmps185,aZ,List.length_cons,List.length_nil,Nat.reduceAdd,Nat.reduceSub,Array.replicate_succ,Array.replicate_zero,List.push_toArray,List.append_toArray,List.nil_append,List.cons_append];by_cases qg:group<d.s.g
 ·have hin:Ap group 0 (d.s.g - 1)=true:=Fo hg0 (by omega);rw[hin]at HD;rw[aL qg]at HOWN;clear hin qg;go_wp2_with (first
   |(refine aD rfl 31 (.tmp 12) rfl p 0 rfl _ _ (by first|exact HSH.o|(rw[hW1];exact HSH.o)) underlying31 rfl (by kernel_rfl) ?_)
   |(go_at_call 187;(try rw[hW1]);refine HD.o.mono ?_;rintro e w2 ⟨rfl,b2⟩;have B2:=U b2;have HU2:=U (HU.o w2 b2);clear b2)
   |(go_at_call 258;refine HU2.o.mono ?_;rintro e w3 ⟨A5,c5,f5,rfl,r5,b5⟩;have R5:=U r5;have B5:=U b5;clear r5 b5)
   |(go_at_call 257;refine(ON _ _ _ _).mono ?_;rintro e w4 ⟨rfl,rfl⟩))
  obtain⟨w4,hw4⟩:∃w4,w3.alloc (.cells #[.slice A5 L.length c5] 80)=w4:=⟨_,rfl⟩;have b34:Below w3.heap.size w3 w4:=by rw[← hw4];exact(aB _ _).alloc (aC _) _
  have hS4:w4.heap.size=w3.heap.size+1:=by rw[← hw4];simp
  have KB:w4.cell? ⟨w3.heap.size,0,none⟩=some (.slice A5 L.length c5):=by rw[← hw4];exact(Blk.new w3 _ _).cell 0
  have hR4:=U (rSl.below Ac.local_ Ac.fixed R5.o b34);have b14:Below W1.heap.size W1 w4:=B2.o.trans (((B5.o).trans (b34.mono B5.o.size)).mono B2.o.size);have hs12:=B2.o.size;have hs23:=B5.o.size;have HB14:=U b14;have hK5:=U (HK5.o.below b14 (by omega));have hK6:=U (HK6.o.below b14 (by omega));have hK7:=U (HK7.o.below b14 (by omega));rw[hw4];clear b34 b14 HU HU2 HSH HD R5 hW1;refine(wpIn_wide (n:=9)).1 ?_;refine wpIn_rangeFunc_ownH (F:=Fence.wide) rfl (by omega) (gf:=292) (lb:=#[.pointer (some ⟨w3.heap.size,0,none⟩)]) rfl trivial (enters_of func292 (by kernel_rfl) rfl)
   (OM w3.heap.size w4.heap.size A5 c5 f5 L w4 hR4.o rfl (9 - 1) (by omega) KB) belowK_t (belowK_b (aC _)) (aB _ _) (fun _ => rfl)
   (fun pre W =>(∀y,y∈pre→y.d.row≠row)∧Below w4.heap.size w4 W)
   (fun c pre W =>(c= .ret∧∃ini x,pre=ini ++ [x]∧(∀y,y∈ini→y.d.row≠row)∧x.d.row=row∧Mq (w.heap.size+1) (w.heap.size+1+1) x W)∧Below w.heap.size w W)
   (OwnFrom.and (ownFrom_pure _ _) (ownFrom_below (aC _) (aC _)))
   (fun c => OwnFrom.and (Own.from (fun s X Y row' hs hg hr => by obtain⟨e,ini,x,e1,e2,e3,hL⟩:=hs;exact⟨e,ini,x,e1,e2,e3,Mq.own _ _ x X Y row' hL hg hr⟩) _) (ownFrom_below (aC _) (by omega)))
   ⟨(fun y hy => by cases hy),aB _ _⟩
   (fun x a' W =>∃Bx,w4.heap.size≤Bx∧Blk W Bx 119 x.cs.toArray∧a'= { tmps:=#[.pointer (some ⟨p,0,none⟩),int i64 group,int i64 row,undef,undef,.pointer (some ⟨w.heap.size,0,none⟩),.pointer (some ⟨w.heap.size+1,0,none⟩),.pointer (some ⟨w.heap.size+1+1,0,none⟩),undef,.pointer (some ⟨Bx,0,none⟩),.pointer (some ⟨p,0,none⟩),.pointer (some ⟨p,0,none⟩),.pointer (some ⟨p,0,none⟩),.agg #[int i64 d.s.g,int i64 d.s.c,int i64 d.s.data,int i64 d.s.p,int i64 d.s.rows,int i64 d.s.cap,int i64 d.s.b,int i64 d.s.q,int i64 d.s.t],int i64 group,.bool true,.bool false,undef,.pointer (some ⟨p,0,none⟩),int i64 group,.slice A5 L.length c5,.func (.func 292) #[] #[.pointer (some ⟨w3.heap.size,0,none⟩)],int i64 x.i,.agg x.cs.toArray,undef,undef,undef,undef,undef,undef],defers:=[] })
   (fun x a' _ X Y row' hs hg hr => by obtain⟨Bx,e1,e2,e3⟩:=hs;exact⟨Bx,e1,Li Bx 119 (fun x:CW w4 => x.cs.toArray) x X Y row' e2 hg (fun r e =>(hr r e).2),e3⟩)
   ?assign ?body ?done ?stop
  case assign =>
   rintro l pre x W K ⟨hp1,hB⟩ hK;obtain⟨hx9,hx1,-,-⟩:=x.row7;have hBs:=hB.size;have hsz:(prog.info? 119).map (·.size)=some x.cs.toArray.size:=by rw[aZ,hx9];exact hks
   have hone:=all_oneCell_toArray hx1;have k9:=U (Blk.new W 119 #[int i64 0,int i64 0,.string ⟨#[]⟩,int i64 0,int i64 0,int i64 0,.slice none 0 0,.slice none 0 0,.slice none 0 0]);have HK:=U hK;have HP1:=U hp1;have HB:=U hB;clear hK hp1 hB hx1;gi_wp2_with (refine F6 rfl 119 (.tmp 9) (.tmp 23) rfl W.heap.size 0 x.cs.toArray rfl rfl (k9.o.there _ (by rw[aZ,hx9];exact aC _)) hsz hone ?_)
   refine HK.o _ _ (((KeepsOthers.alloc _ _).trans (KeepsOthers.setCells _ _ _ _)).from _) ?_ ⟨HP1.o,?_⟩ ⟨W.heap.size,hBs,?_,rfl⟩
   ·exact Below.wide_ _ _ _ _ (by omega) ((aB _ W).alloc hBs _)
   ·exact Below.wide_ _ _ _ _ (by omega) (HB.o.alloc hBs _)
   ·exact k9.o.laid x.cs (by rw[hx9];rfl)
  case body =>
   rintro l pre x a' W hl ⟨r,hr⟩ ⟨hp1,hB⟩ ⟨Bx,hBx,kX,rfl⟩ hlt;obtain⟨hx9,hx1,hx5,fd,vd,hx7,hdat⟩:=x.row7;have hBs:=hB.size;have hsz:(prog.info? 119).map (·.size)=some x.cs.toArray.size:=by rw[aZ,hx9];exact hks
   have hsz2:(prog.info? 119).map (·.size)=some x.cs.length:=by rw[hx9];exact hks
   have hone:=all_oneCell_toArray hx1;have q5:W.cell? ⟨Bx,5,none⟩=some (int i64 x.d.row):=by rw[kX.cell 5];simpa using hx5
   have k5:=hK5.o.below hB (by omega);have k6:=hK6.o.below hB (by omega);have k7:=hK7.o.below hB (by omega);have c5:W.cell? ⟨w.heap.size,0,none⟩=some (int i64 row):=(k5.cell 0).trans rfl;have HP1:=U hp1;have HB:=U hB;have HKX:=U kX;have HK6':=U k6;have HDAT:=U (Ag.below hdat hB);obtain⟨W5,hW5⟩:∃W5,W.setCells (w.heap.size+1) 0 x.cs.toArray.toList=W5:=⟨_,rfl⟩;have HW5:=U hW5;have k75:Blk W5 (w.heap.size+1+1) 4 #[.bool false]:=by rw[← hW5];exact Blk.farS _ _ _ _ (by omega) k7
   have HK75:=U k75;have c7:W5.cell? ⟨w.heap.size+1+1,0,none⟩=some (.bool false):=(k75.cell 0).trans rfl;have z7:W5.frozen? ⟨w.heap.size+1+1,0,none⟩=false:=k75.frozen 0;clear hp1 hB hx1 hx5 kX k5 k6 hdat hW5 k75 hr;by_cases qr:x.d.row=row
   ·have hq:(x.d.row == row)=true:=by simpa using qr
    have HQR:=U qr;clear qr;gi_wp2_with (first
     |(refine Gf rfl 119 (.tmp 9) rfl Bx 0 rfl x.cs _ (HKX.o.rangeAll) underlying119 rfl hsz2 ?_)
     |(refine F6 rfl 119 (.tmp 6) (.tmp 28) rfl (w.heap.size+1) 0 x.cs.toArray rfl rfl (HK6'.o.there _ (by rw[aZ,hx9];exact aC _)) hsz hone ?_;rw[HW5.o]))
    have hkk:KeepsOthers W (W5.setCell ⟨w.heap.size+1+1,0,none⟩ (.bool true)):=by
     rw[← HW5.o];exact(KeepsOthers.setCells _ _ _ _).trans (KeepsOthers.setCell _ _ _)
    have hK6n:Blk W5 (w.heap.size+1) 119 x.cs.toArray:=by
     rw[← HW5.o];exact HK6'.o.laid x.cs (by rw[hx9];rfl)
    refine⟨hkk.from _,⟨rfl,pre,x,rfl,HP1.o,HQR.o,hK6n.far (by simp) _,HK75.o.set_ 0 _,?_⟩,?_⟩
    ·obtain⟨f',h'⟩:=HDAT.o.over (w':=W5.setCell ⟨w.heap.size+1+1,0,none⟩ (.bool true)) (fun a u ha => by
      have e6:=not_u8 HK6'.o (by simp) ha;have e7:=not_u8 k7 (by simp) ha;rw[World.cell?_setCell_other _ _ _ _ (fun e => e7 (by rw[← e])),← HW5.o,World.cell?_setCells_out _ _ _ _ _ (fun e _ => absurd e e6)];exact ha)
     exact⟨f',vd,hx7,h'⟩
    ·have:Below w.heap.size w W:=HB1.o.trans ((HB14.o.trans (HB.o.mono HB14.o.size)).mono (by omega));refine Below.setCell ?_ (by simp;omega) _;rw[← HW5.o];exact Below.wide_ _ _ _ _ (by omega) this
   ·have hq:(x.d.row == row)=false:=by simpa using qr
    have HQR:=U qr;clear qr hS4;gi_wp2_with fail
    refine⟨KeepsFrom.refl _ _,aB _ _,(fun y hy => ?_),HB.o⟩;rcases List.mem_append.1 hy with hy|hy
    ·exact HP1.o y hy
    ·simp at hy;subst hy;exact HQR.o
  case done =>
   rintro D ys W hD hS ⟨hI,hB⟩ hK;have hBs:=hB.size;have e1:rr=none:=by rw[HOWN.o];exact lastF_no hS hI
   subst e1;have k6:=hK6.o.below hB (by omega);have k7:=hK7.o.below hB (by omega);have HK6':=U k6;obtain⟨W5,hW5⟩:∃W5,W.setCells (w.heap.size+1) 0 (#[int i64 0,int i64 0,.string ⟨#[]⟩,int i64 0,int i64 0,int i64 0,.slice none 0 0,.slice none 0 0,.slice none 0 0]:Array Value).toList =W5:=⟨_,rfl⟩;have HW5:=U hW5;have k75:Blk W5 (w.heap.size+1+1) 4 #[.bool false]:=by rw[← hW5];exact Blk.farS _ _ _ _ (by omega) k7
   have HK75:=U k75;have c7:W5.cell? ⟨w.heap.size+1+1,0,none⟩=some (.bool false):=(k75.cell 0).trans rfl;have z7:W5.frozen? ⟨w.heap.size+1+1,0,none⟩=false:=k75.frozen 0;have k65:Blk W5 (w.heap.size+1) 119 #[int i64 0,int i64 0,.string ⟨#[]⟩,int i64 0,int i64 0,int i64 0,.slice none 0 0,.slice none 0 0,.slice none 0 0]:=by rw[← hW5];exact k6.laid _ (by rfl)
   have HK65:=U k65;have HB:=U hB;have HKD:=U ((KeepsOthers.setCells (w.heap.size+1) (#[int i64 0,int i64 0,.string ⟨#[]⟩,int i64 0,int i64 0,int i64 0,.slice none 0 0,.slice none 0 0,.slice none 0 0]:Array Value).toList 0 W).same D _ hK rfl);have hv:=zeroValue119;clear hB hI hS hK k6 hW5 k75 k65;go_wp2_with (refine aW rfl 119 (.tmp 6) (.tmp 29) rfl (w.heap.size+1) 0 #[int i64 0,int i64 0,.string ⟨#[]⟩,int i64 0,int i64 0,int i64 0,.slice none 0 0,.slice none 0 0,.slice none 0 0] rfl rfl (HK6'.o.there _ (by simp)) (by rw[hks];rfl) (by simp[Value.oneCell']) ?_;rw[HW5.o])
   have hKD:(W5.setCell ⟨w.heap.size+1+1,0,none⟩ (.bool false)).heap[D]? =some (.deferred (some [])):=(KeepsOthers.setCell _ _ _).same D _ (by rw[← HW5.o];exact HKD.o) rfl;refine⟨by simp,.inl ⟨_,_,rfl,run_takeDeferred hKD,?_⟩⟩;have g6:=(HK65.o.far (p:=⟨w.heap.size+1+1,0,none⟩) (by simp) (.bool false)).grown (grownBy_putObj' _ D (.deferred none)) (by intro e;injection e with e;omega);have g7:=(HK75.o.set_ 0 (.bool false)).grown (grownBy_putObj' _ D (.deferred none)) (by intro e;injection e with e;omega);refine⟨_,Hn (g:=w.heap.size+1) (g2:=w.heap.size+1+1) (v2:=.bool false) rfl _ _ _ _ _ rfl g6 underlying119 rfl (by rw[hks];rfl) rfl ?_,.inr ⟨rfl,_,rfl,rfl,by simp[Value.oneCell'],?_⟩⟩
   ·exact J0 ((g7.cell 0).trans rfl)
   ·have b5:Below w.heap.size w W:=HB1.o.trans ((HB14.o.trans (HB.o.mono HB14.o.size)).mono (by omega));have b6:Below w.heap.size w (W5.setCell ⟨w.heap.size+1+1,0,none⟩ (.bool false)):=by
     refine Below.setCell ?_ (by simp;omega) _;rw[← HW5.o];exact Below.wide_ _ _ _ _ (by omega) b5
    exact b6.grown (grownBy_putObj' _ D (.deferred none)) b6.size (fun k e => by injection e with e;omega)
  case stop =>
   rintro D c pre W hD ⟨k,hk⟩ ⟨⟨rfl,ini,x,rfl,hi,hx,hL⟩,hB⟩ hK;have e1:rr=some x.d:=by rw[HOWN.o];exact lastF_of hk hi hx
   subst e1;have HL:=U hL;have HB:=U hB;have HKD:=U hK;clear hL hB hi hK;have hBs:=HB.o.size;have hb5:=HB1.o.size;gi_wp2
   refine⟨by simp,.inl ⟨_,_,rfl,run_takeDeferred HKD.o,?_⟩⟩;have g6:=HL.o.k6.grown (grownBy_putObj' W D (.deferred none)) (by intro e;injection e with e;omega);have g7:=HL.o.k7.grown (grownBy_putObj' W D (.deferred none)) (by intro e;injection e with e;omega);obtain⟨hx9,hx1,-⟩:=x.row7;obtain⟨f7,v7,e7,r7⟩:=HL.o.dat;obtain⟨f8,r8⟩:=r7.over (w':=W.putObj D (.deferred none)) (fun a u h => cell_kept h (grownBy_putObj' W D (.deferred none)) (fun r e => by cases e;exact⟨_,HKD.o,rfl⟩));refine⟨_,Hn (g:=w.heap.size+1) (g2:=w.heap.size+1+1) (v2:=.bool true) rfl _ _ _ _ _ rfl g6 underlying119 rfl (by rw[aZ,hx9];exact hks) rfl (J0 ((g7.cell 0).trans rfl)),.inl ⟨x.d,_,f8,v7,rfl,rfl,by rw[aZ,hx9],all_oneCell_toArray hx1,by simpa using e7,r8,?_⟩⟩;exact HB.o.grown (grownBy_putObj' _ D (.deferred none)) HB.o.size (fun k e => by injection e with e;omega)
 ·have hin:Ap group 0 (d.s.g - 1)=false:=Gu (by omega);rw[hin]at HD;rw[aI qg]at HOWN;have e1:rr=none:=HOWN.o;subst e1;have hv:=zeroValue119;clear hin qg HU;go_wp2_with (first
   |(refine aD rfl 31 (.tmp 12) rfl p 0 rfl _ _ (by first|exact HSH.o|(rw[hW1];exact HSH.o)) underlying31 rfl (by kernel_rfl) ?_)
   |(go_at_call 187;(try rw[hW1]);refine HD.o.mono ?_;rintro e w2 ⟨rfl,b2⟩;have B2:=U b2;have hs2:=b2.size;have HK6':=U (HK6.o.below b2 (by omega));have HK7':=U (HK7.o.below b2 (by omega));clear b2)
   |(refine aW rfl 119 (.tmp 6) (.tmp 17) rfl (w.heap.size+1) 0 #[int i64 0,int i64 0,.string ⟨#[]⟩,int i64 0,int i64 0,int i64 0,.slice none 0 0,.slice none 0 0,.slice none 0 0] rfl rfl (HK6'.o.there _ (by simp)) (by rw[hks];rfl) (by simp[Value.oneCell']) ?_;obtain⟨W5,hW5⟩:∃W5,w2.setCells (w.heap.size+1) 0 (#[int i64 0,int i64 0,.string ⟨#[]⟩,int i64 0,int i64 0,int i64 0,.slice none 0 0,.slice none 0 0,.slice none 0 0]:Array Value).toList =W5:=⟨_,rfl⟩;have HW5:=U hW5;have HK75:=U (show Blk W5 (w.heap.size+1+1) 4 #[.bool false] by rw[← hW5];exact Blk.farS _ _ _ _ (by omega) HK7'.o);have HK65:=U (show Blk W5 (w.heap.size+1) 119 #[int i64 0,int i64 0,.string ⟨#[]⟩,int i64 0,int i64 0,int i64 0,.slice none 0 0,.slice none 0 0,.slice none 0 0] by rw[← hW5];exact HK6'.o.laid _ (by rfl));rw[hW5];clear hW5;have c7:W5.cell? ⟨w.heap.size+1+1,0,none⟩=some (.bool false):=(HK75.o.cell 0).trans rfl;have z7:W5.frozen? ⟨w.heap.size+1+1,0,none⟩=false:=HK75.o.frozen 0))
  have g6:=HK65.o.far (p:=⟨w.heap.size+1+1,0,none⟩) (by simp) (.bool false);have g7:=HK75.o.set_ 0 (.bool false);refine⟨_,Hn (g:=w.heap.size+1) (g2:=w.heap.size+1+1) (v2:=.bool false) rfl _ _ _ _ _ rfl g6 underlying119 rfl (by rw[hks];rfl) rfl (J0 ((g7.cell 0).trans rfl)),.inr ⟨rfl,_,rfl,rfl,by simp[Value.oneCell'],?_⟩⟩;refine Below.setCell ?_ (by simp;omega) _;rw[← HW5.o];exact Below.wide_ _ _ _ _ (by omega) (HB1.o.trans (B2.o.mono (by omega)))
end Go.Proofs.YtfjkoifpdoemdaaGreat
namespace Go.Proofs.YtfjkoifpdoemdaaGreat
open Go.RowKit
def xt(a:Nat):Nat:=if a<128 then 2 * a else(2 * a) ^^^ 285
def C6:Nat→Nat→Nat→Nat
 |0,_,_ => 0
 |k+1,a,b =>(if b % 2=1 then a else 0) ^^^ C6 k (xt a) (b / 2)
def DN(a b:Nat):Nat:=C6 8 a b
theorem Ed {a b:Nat}(ha:a<256)(hb:b<256):a ^^^ b<256:=Nat.xor_lt_two_pow (n:=8) ha hb
theorem EY {a:Nat}(h:a<256):xt a<256:=by
 unfold xt;split
 ·omega
 ·have:∀a,a<256→128≤a→(2 * a) ^^^ 285<256:=by decide +kernel
  exact this a h (by omega)
theorem Ly:∀(k a b:Nat),a<256→C6 k a b<256
 |0,_,_,_ => by simp[C6]
 |k+1,a,b,h => by
  rw[C6];refine Ed ?_ (Ly k _ _ (EY h));split <;> omega
theorem Jt(a b:Nat)(h:a<256):DN a b<256:=Ly 8 a b h
theorem FZ:∀(k a:Nat),C6 k a 0=0
 |0,_ => rfl
 |k+1,a => by rw[C6];simp[FZ k]
theorem LW:∀(k a b:Nat),b<2 ^ k→C6 (k+1) a b=C6 k a b
 |0,a,b,h => by
  obtain rfl:b=0:=by simpa using h
  rw[FZ,FZ]
 |k+1,a,b,h => by
  rw[C6,LW k (xt a) (b / 2) (by rw[Nat.pow_succ]at h;omega),C6]
theorem Ra(a b:Nat)(h:b<256):C6 8 a b=(if b % 2=1 then a else 0) ^^^ C6 8 (xt a) (b / 2):=by
 rw[LW 7 (xt a) (b / 2) (by omega)];rfl
theorem wrap8 {x:Nat}(h:x<256):IntKind.u8.wrap (x:Int)=x:=by
 simp[IntKind.wrap,IntKind.bits,IntKind.signed];omega
theorem EZ {x y:Nat}(hx:x<256)(hy:y<256):bits .xor .u8 (x:Int) (y:Int)=((x ^^^ y:Nat):Int):=by
 have e:(BitVec.ofInt 8 (x:Int) ^^^ BitVec.ofInt 8 (y:Int)).toNat =x ^^^ y:=by
  rw[BitVec.ofInt_natCast,BitVec.ofInt_natCast,BitVec.toNat_xor,BitVec.toNat_ofNat,BitVec.toNat_ofNat,Nat.mod_eq_of_lt hx,Nat.mod_eq_of_lt hy]
 show IntKind.u8.wrap (((BitVec.ofInt 8 (x:Int) ^^^ BitVec.ofInt 8 (y:Int)).toNat:Nat):Int)=_
 rw[e];exact wrap8 (Ed hx hy)
theorem Da {x y:Nat}(hx:x<256)(hy:y<256):bits .and .u8 (x:Int) (y:Int)=((x &&& y:Nat):Int):=by
 have e:(BitVec.ofInt 8 (x:Int) &&& BitVec.ofInt 8 (y:Int)).toNat =x &&& y:=by
  rw[BitVec.ofInt_natCast,BitVec.ofInt_natCast,BitVec.toNat_and,BitVec.toNat_ofNat,BitVec.toNat_ofNat,Nat.mod_eq_of_lt hx,Nat.mod_eq_of_lt hy]
 show IntKind.u8.wrap (((BitVec.ofInt 8 (x:Int) &&& BitVec.ofInt 8 (y:Int)).toNat:Nat):Int)=_
 rw[e];exact wrap8 (Nat.lt_of_le_of_lt Nat.and_le_left hx)
theorem Jq {x:Nat}(hx:x<256):x &&& 128=if x<128 then 0 else 128:=by
 have:∀x,x<256→x &&& 128=if x<128 then 0 else 128:=by decide +kernel
 exact this x hx
theorem xt_hi {x:Nat}(hx:x<256)(h:¬x<128):(x * 2 % 256) ^^^ 29=xt x:=by
 have:∀x,x<256→¬x<128→(x * 2 % 256) ^^^ 29=xt x:=by decide +kernel
 exact this x hx h
theorem Gm(a b:Nat)(ha:a<256)(hb:b<256)(w:World) :
  Calls prog 289 #[.int .u8 (a:Int),.int .u8 (b:Int)] w fun e w' => e= .returned (.int .u8 ((DN a b:Nat):Int))∧w=w':=by
 obtain⟨R,hR⟩:∃R,C6 8 a b=R:=⟨_,rfl⟩;unfold DN;rw[hR];have HR:=U hR;clear hR;go_enter func289,ntmps289
 go_wp2
 go_loop [0,1,5] (fun x y o =>∃p q r:Nat,p<256∧q<256∧r<256∧x= .int .u8 p∧y= .int .u8 q∧o= .int .u8 r∧r ^^^ C6 8 p q=R) (fun _ y _ =>(intOf y).toNat)
 case atStart => exact⟨a,b,0,ha,hb,by omega,rfl,rfl,rfl,by rw[Nat.zero_xor];exact HR.o⟩
 case round =>
  obtain⟨p,q,r,hp,hq,hr,rfl,rfl,rfl,hi⟩:=hrel;have HI:=U hi;clear hi;by_cases h0:0<q
  ·have h1:(0:Int)<(q:Int):=by omega
   have hs:=Ra p q hq;have hx:=EZ hr hp;have e1:((q / 2:Nat):Int)=(q:Int) / 2:=by omega
   have HS:=U hs;clear hs;by_cases hq2:q % 2=1
   all_goals by_cases hp2:p<128
   ·have ha1:bits .and .u8 (q:Int) 1=1:=(Da hq (show 1<256 by omega)).trans (by rw[Nat.and_one_is_mod,hq2];rfl);have ha2:bits .and .u8 (p:Int) 128=0:=(Da hp (show 128<256 by omega)).trans (by rw[Jq hp,aL hp2];rfl);go_wp2_with fail
    go_round
    case rel => exact⟨xt p,q / 2,r ^^^ p,EY hp,by omega,Ed hr hp,by rw[xt,aL hp2];congr 1;omega,by rw[e1],by first|rfl|rw[hx],by have:=HI.o;rw[HS.o,aL hq2,← Nat.xor_assoc]at this;exact this⟩
    case measure => simp[intOf];omega
   ·have ha1:bits .and .u8 (q:Int) 1=1:=(Da hq (show 1<256 by omega)).trans (by rw[Nat.and_one_is_mod,hq2];rfl);have ha2:bits .and .u8 (p:Int) 128=128:=(Da hp (show 128<256 by omega)).trans (by rw[Jq hp,aI hp2];rfl);have hx2:bits .xor .u8 ((p:Int) * 2 % 256) 29=((xt p:Nat):Int):=by
     have:=EZ (show p * 2 % 256<256 by omega) (show 29<256 by omega);rw[xt_hi hp hp2]at this;exact this
    go_wp2_with fail
    go_round
    case rel => exact⟨xt p,q / 2,r ^^^ p,EY hp,by omega,Ed hr hp,by first|rfl|rw[hx2],by rw[e1],by first|rfl|rw[hx],by have:=HI.o;rw[HS.o,aL hq2,← Nat.xor_assoc]at this;exact this⟩
    case measure => simp[intOf];omega
   ·have ha1:bits .and .u8 (q:Int) 1=0:=(Da hq (show 1<256 by omega)).trans (by rw[Nat.and_one_is_mod,show q % 2=0 by omega];rfl);have ha2:bits .and .u8 (p:Int) 128=0:=(Da hp (show 128<256 by omega)).trans (by rw[Jq hp,aL hp2];rfl);go_wp2_with fail
    go_round
    case rel => exact⟨xt p,q / 2,r,EY hp,by omega,hr,by rw[xt,aL hp2];congr 1;omega,by rw[e1],rfl,by have:=HI.o;rw[HS.o,aI hq2,Nat.zero_xor]at this;exact this⟩
    case measure => simp[intOf];omega
   ·have ha1:bits .and .u8 (q:Int) 1=0:=(Da hq (show 1<256 by omega)).trans (by rw[Nat.and_one_is_mod,show q % 2=0 by omega];rfl);have ha2:bits .and .u8 (p:Int) 128=128:=(Da hp (show 128<256 by omega)).trans (by rw[Jq hp,aI hp2];rfl);have hx2:bits .xor .u8 ((p:Int) * 2 % 256) 29=((xt p:Nat):Int):=by
     have:=EZ (show p * 2 % 256<256 by omega) (show 29<256 by omega);rw[xt_hi hp hp2]at this;exact this
    go_wp2_with fail
    go_round
    case rel => exact⟨xt p,q / 2,r,EY hp,by omega,hr,by first|rfl|rw[hx2],by rw[e1],rfl,by have:=HI.o;rw[HS.o,aI hq2,Nat.zero_xor]at this;exact this⟩
    case measure => simp[intOf];omega
  ·obtain rfl:q=0:=by omega
   have h:=HI.o;rw[FZ,Nat.xor_zero]at h;subst h;go_wp2
   go_ret
   exact⟨rfl,rfl⟩
