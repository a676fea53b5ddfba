/-
  Part 9 of the proof; the last part states and proves the statement.
-/
import Derived.Test.YthbljikbnoghcaaGreatM05
import Derived.Test.YthbljikbnoghcaaGreatM08
import Derived.Test.YthbljikbnoghcaaGreatM02
import Derived.Great.BuildSlice
import Derived.Deep.RegionHeld3
set_option maxHeartbeats 8000000
set_option maxRecDepth 100000
set_option linter.unusedVariables false
set_option linter.unusedSimpArgs false
open Go.Value (int)
open Go.IntKind (i64)
namespace Go.Proofs.YthbljikbnoghcaaGreat
open Go.Shelf Go.RowKit Go.Lib Go.Sort
theorem DG {P:Program} {ops:Array Oper} {rest:List Oper} {o:Oper} {a:Act} {w:World} {Q:Exit→Act→World→Prop}(hg:o.guard=none)(t e:TypeId)(x:Operand)(ho:o.op= .buildSlice t 1 #[(0,x)])(cells:Array Value)(hx:a.eval x= .agg cells)(z:Value)(k bytes:Nat)
  (hu:P.underlying t=some (.slice e)) (hi:(P.info? e).map (fun i =>(i.zero,i.size,i.bytes))=some (some z,k,bytes)) (hk:0<k) (hk2:k≤1000) (hc:cells.size=k)
  (h:wpList P ops Q rest (a.put o.dst (.slice (some ⟨w.heap.size,0,none⟩) 1 1)) (w.alloc (.cells cells e))):wpList P ops Q (o :: rest) a w:=by
 obtain⟨i,hi0,hz0,hz1,hz2⟩:=info_parts hi;subst hz1;refine wpList_buildSlice hg t e 1 _ ho cells i z hu hi0 hz0 (by omega) (by omega) ?_ h;have:=Great.fill_whole hk [.agg cells] ((Array.range (1 * i.size)).map (z.cells[· % z.cells.size]!)) (by intro v hv;simp at hv;subst hv;exact hc) (by simp);simpa [hx,Value.cells]using this
theorem AF {B:Nat} {a w:World}(h:Below B a w) {b:Nat}:∀(vs:List Value) (o:Nat),B≤b→Below B a (w.setCells b o vs):=by
 intro vs;induction vs generalizing w with
 |nil => intro o _;exact h
 |cons v r ih => intro o hb;exact ih (h.setCell hb v) (o+1) hb
theorem Tryz.infoRec:(Tryz.prog.info? 76).map (fun i =>(i.zero,i.size,i.bytes))=some (some (.agg #[int i64 0,int i64 0,.string ⟨#[]⟩,int i64 0,int i64 0,int i64 0,.slice none 0 0,.slice none 0 0,.slice none 0 0]),9,128):=by kernel_rfl
theorem addRecP {P:Addr→Prop} {lo:Nat}(hP:∀a,P a→a.block<lo) {w W:World} {b:Nat} {v:Value} {ds:List Ag} {fs f:List Addr} {us:List Value} {d:Ag}(ho:Aj 9 76 Ac w lo v ds fs)(hlo:lo≤w.heap.size)(hW:Below w.heap.size w W)(hk:Blk W b 76 us.toArray)(hr:Ac W f us d)(hf:∀a,a∈f→P a)(hfs:∀a,a∈fs→P a)(hn:ds.length+1≤1000000000) :
  ∃v' w',(Builtin.append_ #[113,113] 113 #[v,.slice (some ⟨b,0,none⟩) 1 1]).run Tryz.prog W= .ok v' w'∧∃g c fs',v'= .slice (some ⟨g,0,none⟩) (ds.length+1) c∧Aj 9 76 Ac w' lo v' (ds ++ [d]) fs'∧(∀a,a∈fs'→P a)∧Below lo w w'∧w.heap.size≤w'.heap.size∧lo≤g∧g<w'.heap.size:=by
 have ho2:=ho.below Ac.local_ Ac.fixed hW;have hs:=hW.size;obtain⟨v',w',q1,hh,q2,q3,q4,q5⟩:=Aj.appendOne (P:=Tryz.prog) 113 113 _ 128 Tryz.underlying113 Tryz.infoRec rfl (by decide) Ac.local_ Ac.fixed Ac.ones lo v ds fs ho2 b us f d (Ac.wide _ _ _ _ hr) hk hr (fun a ha e => by
  have:=(ho2.lt _ e).1;have:=hP a (hf a ha);omega) hn (by omega) (by omega)
 refine⟨v',w',q1,?_⟩;obtain⟨xs,hl,ht⟩:=q2.cells;rcases ht with⟨_,e⟩|⟨g,cap,cur,rfl,hb,hg,_⟩
 ·simp at e
 ·refine⟨g,cap,_,by simp,q2,fun a ha => ?_,Below.grown (hW.mono hlo) q4 (by omega) (fun k hk =>(ho2.lt k hk).1),Nat.le_trans hs q4.size,hb,(Array.getElem?_eq_some_iff.1 hg).1⟩;rcases List.mem_append.1 ha with ha|ha
  ·exact hfs a ha
  ·exact hf a (q3.subset ha)
def AtW(w:World)(p:Nat)(fs:List Addr)(d:Au):Prop:=∃cs:List Value,AD w fs cs d∧(∀q,(hq:q<cs.length)→w.cell? ⟨p,q,none⟩=some cs[q])∧p<w.heap.size
theorem AtW.below {w w':World} {p:Nat} {fs:List Addr} {d:Au}(h:AtW w p fs d)(hb:Below w.heap.size w w'):AtW w' p fs d:=by
 obtain⟨cs,h1,h2,h3⟩:=h;exact⟨cs,Aw.below AD.local_ AD.fixed h1 hb,fun q hq =>(hb.cell (p:=⟨p,q,none⟩) h3).trans (h2 q hq),Nat.lt_of_lt_of_le h3 hb.size⟩
structure GG (w:World) (p:Nat) (fs:List Addr) (d:Au) (A0 A1 A2:Option Addr) (c0 c1 c2:Nat) (f0 f1 f2:List Addr):Prop where
 n0:w.cell? ⟨p,0,none⟩=some (int i64 d.s.g)
 n1:w.cell? ⟨p,1,none⟩=some (int i64 d.s.c)
 n2:w.cell? ⟨p,2,none⟩=some (int i64 d.s.data)
 n3:w.cell? ⟨p,3,none⟩=some (int i64 d.s.p)
 n4:w.cell? ⟨p,4,none⟩=some (int i64 d.s.rows)
 n5:w.cell? ⟨p,5,none⟩=some (int i64 d.s.cap)
 n6:w.cell? ⟨p,6,none⟩=some (int i64 d.s.b)
 n7:w.cell? ⟨p,7,none⟩=some (int i64 d.s.q)
 n8:w.cell? ⟨p,8,none⟩=some (int i64 d.s.t)
 gr:w.cell? ⟨p,9,none⟩=some (.slice A0 d.g.length c0)
 on:w.cell? ⟨p,10,none⟩=some (.slice A1 d.on.length c1)
 tp:w.cell? ⟨p,11,none⟩=some (.slice A2 d.v.length c2)
 wr:w.cell? ⟨p,12,none⟩=some (int i64 d.u)
 st:w.cell? ⟨p,13,none⟩=some (int i64 d.stop)
 dn:w.cell? ⟨p,14,none⟩=some (.bool d.down)
 lt:p<w.heap.size
 rgr:rSl 1 (Am 2 Av) w f0 (.slice A0 d.g.length c0) d.g
 ron:rSl 1 As w f1 (.slice A1 d.on.length c1) d.on
 rtp:rSl 2 AK w f2 (.slice A2 d.v.length c2) d.v
 sub:∀a,a∈f0 ++(f1 ++ f2)→a∈fs
theorem AtW.cells {w:World} {p:Nat} {fs:List Addr} {d:Au}(h:AtW w p fs d):∃A0 A1 A2 c0 c1 c2 f0 f1 f2,GG w p fs d A0 A1 A2 c0 c1 c2 f0 f1 f2:=by
 obtain⟨cs,⟨v0,v1,v2,f0,f1,f2,rfl,ef,-,-,-,-,-,-,-,-,-,-,-,h0,h1,h2⟩,hc,hp⟩:=h;obtain⟨A0,c0,rfl,-⟩:=rSl.head h0;obtain⟨A1,c1,rfl,-⟩:=rSl.head h1;obtain⟨A2,c2,rfl,-⟩:=rSl.head h2;exact⟨A0,A1,A2,c0,c1,c2,f0,f1,f2,hc 0 (by simp),hc 1 (by simp),hc 2 (by simp),hc 3 (by simp),hc 4 (by simp),hc 5 (by simp),hc 6 (by simp),hc 7 (by simp),hc 8 (by simp),hc 9 (by simp),hc 10 (by simp),hc 11 (by simp),hc 12 (by simp),hc 13 (by simp),hc 14 (by simp),hp,h0,h1,h2,fun a ha => by rw[ef];exact ha⟩
def Bj(d:Au):List Ag:=d.v.flatMap AU.recs
def AW(d:Au):List Ag:=Cy (Bj d)
theorem Fp:∀(n:Nat) (l:List Ag),l.length=n→(BS l).length≤n
 |0,l,h => by
  obtain rfl:=List.eq_nil_of_length_eq_zero h;exact Nat.le_refl _
 |n+1,l,h => by
  obtain⟨m,r,rfl⟩:∃m r,l=m ++ [r]:=⟨l.dropLast,l.getLast (by intro h;subst h;simp at *),(List.dropLast_concat_getLast _).symm⟩;have:=Fp n m (by simpa using h);rw[FP];unfold F7;split
  ·omega
  ·simp;omega
theorem CK(p:Nat)(fs:List Addr)(d:Au)(w:World)(h:AtW w p fs d)(hsm:(Bj d).length≤1000000) :
  Calls Tryz.prog 128 #[.pointer (some ⟨p,0,none⟩)] w fun e w' =>∃A c fs',e= .returned (.slice A (AW d).length c)∧rSl 9 Ac w' fs' (.slice A (AW d).length c) (AW d)∧(∀a,a∈fs'→a∈fs∨w.heap.size≤a.block)∧Below w.heap.size w w':=by
 obtain⟨A0,A1,A2,c0,c1,c2,f0,f1,f2,HCs⟩:=h.cells;obtain⟨A2',c2',e,hc,hm,hx⟩:=rSl.at_ AK.fixed (by omega) HCs.rtp;injection e with e1 _ e3
 subst e1 e3;have HX:=hid hx;have n11:=HCs.tp;have hp:=HCs.lt;have HT:=hid (rSl.there AK.fixed HCs.rtp);have HSB:=hid (show∀a,a∈f2→a∈fs from fun a ha => HCs.sub a (List.mem_append_right _ (List.mem_append_right _ ha)));have HFS:=hid (show CM fs w from by obtain⟨_,hr,-⟩:=h;exact AD.fixed _ _ _ _ hr);clear hx HCs h;go_enter Tryz.func128,Tryz.ntmps128
 go_wp2_with fail
 obtain⟨g0,hg0⟩:∃g0,w.heap.size=g0:=⟨_,rfl⟩;have HG:=hid hg0;have start:Hid (Aj 9 76 Ac (w.alloc (.cells #[] 76)) g0 (.slice (some ⟨g0,0,none⟩) 0 0) (BS []) []):=by
  rw[← hg0];exact Aj.start (World.ownsRow_lit (base:=w.heap.size) (e:=76) (size:=9) w #[] 0 (Nat.le_refl _) (Nat.zero_le _) rfl)
 have hb0:Hid (Below g0 w (w.alloc (.cells #[] 76))):=(Below.refl g0 w).alloc (by omega) _;rw[hg0];rw[hg0]at hp;have hgs:Hid (g0<(w.alloc (.cells #[] 76)).heap.size):=by show _<_;rw[← hg0];simp
 clear hg0;go_loopw [14,3] (fun i v wr =>∃(j g n c:Nat) (fo:List Addr),j≤d.v.length∧i= int i64 j∧v= .slice (some ⟨g,0,none⟩) n c∧Hid (n=(BS ((d.v.take j).flatMap AU.recs)).length)∧Hid (Aj 9 76 Ac wr g0 (.slice (some ⟨g,0,none⟩) n c) (BS ((d.v.take j).flatMap AU.recs)) fo)∧Hid (∀a,a∈fo→a∈fs)∧Hid (Below g0 w wr)∧Hid (g0≤g∧g<wr.heap.size)) (fun i _ _ => d.v.length - (intOf i).toNat)
 case atStart => exact⟨0,g0,0,0,[],by omega,rfl,rfl,rfl,start.out,(fun a ha => by cases ha),hb0.out,Nat.le_refl _,hgs.out⟩
 case round =>
  clear start hb0 hgs;obtain⟨j,g,n,c,fo,hj,rfl,rfl,HN,HO,HF,HB,HGG⟩:=hrel;by_cases hlt:j<d.v.length
  ·obtain⟨ad,b,o,cs,fk,rfl,hat⟩:=HX.out j hlt;have hat2:=hat.below AK.local_ (show Below w.heap.size w wr by rw[HG.out];exact HB.out);obtain⟨v0,ft,e,rfl,hrecs⟩:=hat.reads;subst e;obtain⟨A3,c3,e,hc3,hm3,hy⟩:=rSl.at_ Ac.fixed (by omega) hrecs;subst e;have HY:=hid hy;have HSBT:=hid (show∀a,a∈fk→a∈fs from fun a ha => HSB.out a (hat.sub a ha));have hpl:=hat.place;have t0:wr.cell? ⟨b,o,none⟩=some (.bool d.v[j].wiped):=hat2.cell 0 (by simp);have t1:wr.cell? ⟨b,o+1,none⟩=some (.slice A3 d.v[j].recs.length c3):=hat2.cell 1 (by simp);have hbl:=hat2.lt;have n11':=(HB.out.cell (p:=⟨p,11,none⟩) hp).trans n11;have HL:=hid (show((d.v.take j).flatMap AU.recs).length +d.v[j].recs.length≤1000000 by
    have:Bj d=(d.v.take (j+1)).flatMap AU.recs ++(d.v.drop (j+1)).flatMap AU.recs:=by
     rw[← List.flatMap_append,List.take_append_drop];rfl
    have h2:=hsm;rw[this,List.take_succ_eq_append_getElem hlt,List.flatMap_append]at h2;simp at h2;simp;omega)
   clear hat hat2 hrecs hy;go_wp2_with fail
   obtain⟨Dj,hDj⟩:∃Dj,(d.v.take j).flatMap AU.recs=Dj:=⟨_,rfl⟩;obtain⟨rs,hrs⟩:∃rs,d.v[j].recs =rs:=⟨_,rfl⟩;rw[hDj]at HN HO HL;rw[hrs]at HY HL⊢;have HDJ:=hid hDj;have HRS:=hid hrs;have start:Hid (Aj 9 76 Ac (wr.alloc (.cells #[.bool d.v[j].wiped,.slice A3 rs.length c3] 122)) g0 (.slice (some ⟨g,0,none⟩) n c) (BS (Dj ++ rs.take 0)) fo):=by
    show Aj _ _ _ _ _ _ _ _
    simpa using HO.out.below Ac.local_ Ac.fixed (Aa (Below.refl _ _) _)
   have hb0:Hid (Below g0 w (wr.alloc (.cells #[.bool d.v[j].wiped,.slice A3 rs.length c3] 122))):=HB.out.trans (((Below.refl _ _).alloc (Nat.le_refl _) _).mono (by have:=HGG.out;omega));obtain⟨wt,hwt⟩:∃wt,wr.alloc (.cells #[.bool d.v[j].wiped,.slice A3 rs.length c3] 122)=wt:=⟨_,rfl⟩;have hgs:Hid (g0≤g∧g<wt.heap.size):=(show g0≤g∧g<wt.heap.size by rw[← hwt];have:=HGG.out;simp;omega);have hsn:Hid (n=(BS (Dj ++ rs.take 0)).length):=(show _=_ by simpa using HN.out);have hrl:rs.length≤1000000:=by have:=HL.out;omega
   rw[hwt]at start hb0⊢;clear hDj hrs HO HN t0 t1 n11' hpl hwt HGG HB;go_loopw [21,3,7] (fun i v _ wr =>∃(i' g n c:Nat) (fo:List Addr),i'≤rs.length∧i= int i64 i'∧v= .slice (some ⟨g,0,none⟩) n c∧Hid (n=(BS (Dj ++ rs.take i')).length)∧Hid (Aj 9 76 Ac wr g0 (.slice (some ⟨g,0,none⟩) n c) (BS (Dj ++ rs.take i')) fo)∧Hid (∀a,a∈fo→a∈fs)∧Hid (Below g0 w wr)∧Hid (g0≤g∧g<wr.heap.size)) (fun i _ _ _ => rs.length - (intOf i).toNat)
   case atStart => exact⟨0,g,n,c,fo,by omega,rfl,rfl,hsn.out,start.out,HF.out,hb0.out,hgs.out⟩
   case round =>
    clear start hb0 hgs hsn HF;obtain⟨i,g,n,c,fo,hi,rfl,rfl,HN,HO,HF,HB,HGG⟩:=hrel;by_cases hlti:i<rs.length
    ·obtain⟨ad3,b3,o3,cs3,f3,rfl,hat⟩:=HY.out i hlti;have hat2:=hat.below Ac.local_ (show Below w.heap.size w wr by rw[HG.out];exact HB.out);have hpl:=hat.place;have hbl3:=hat2.lt;have hlen:cs3.length=9:=hat2.len;have HR:=hid (show wr.rangeAt b3 o3 cs3 from fun q v hq => by
      have hq1:q<cs3.length:=(List.getElem?_eq_some_iff.1 hq).1;rw[hat2.cell q hq1,← hq];exact(List.getElem?_eq_getElem hq1).symm)
     have HI:=hid (show(Tryz.prog.info? 76).map (·.size)=some cs3.length by rw[hlen];kernel_rfl);have HI2:=hid (show(Tryz.prog.info? 76).map (·.size)=some cs3.toArray.size by rw[List.size_toArray,hlen];kernel_rfl);have HON:=hid (all_oneCell_toArray (Ac.ones _ _ _ _ hat2.reads));have HRD:=hid hat2.reads;have HF3:=hid (show∀a,a∈f3→a∈fs from fun a ha => HSBT.out a (hat.sub a ha));obtain⟨Z,hZ⟩:∃Z:Array Value,#[int i64 0,int i64 0,.string ⟨#[]⟩,int i64 0,int i64 0,int i64 0,.slice none 0 0,.slice none 0 0,.slice none 0 0] =Z:=⟨_,rfl⟩;have hZs:Z.size=9:=by rw[← hZ];rfl
     have KZ:=Blk.new wr 76 Z;have HTH:=hid (Blk.there KZ cs3.toArray.size (by rw[List.size_toArray,hlen,hZs];exact Nat.le_refl _));obtain⟨W2,hW2⟩:∃W2,(wr.alloc (.cells Z 76)).setCells wr.heap.size 0 cs3.toArray.toList=W2:=⟨_,rfl⟩;have K2:=hid (show Blk W2 wr.heap.size 76 cs3.toArray by rw[← hW2];exact Blk.laid KZ _ (by rw[hZs];exact hlen.symm));have B2:=hid (show Below wr.heap.size wr W2 by rw[← hW2];exact AF (Aa (Below.refl _ _) _) _ 0 (Nat.le_refl _));have HS2:=hid (show wr.heap.size<W2.heap.size from K2.out.lt);have HW2:=hid hW2;have HO2:=hid (HO.out.below Ac.local_ Ac.fixed B2.out);have HRD2:=hid (Aw.below Ac.local_ Ac.fixed HRD.out B2.out);have HR2:=hid (Blk.rangeAll K2.out);obtain⟨fr,hfr⟩:=HO2.out.reads;have HC:=hid (has_c (.slice (some ⟨g,0,none⟩) n c) (BS (Dj ++ rs.take i)) cs3 rs[i] (fr ++ fo) f3 W2 hfr.1 HRD2.out);clear hat hat2 hW2 KZ hfr;have hst:BS (Dj ++ rs.take (i+1))=F7 (BS (Dj ++ rs.take i)) rs[i]:=by
      rw[List.take_succ_eq_append_getElem hlti,← List.append_assoc,FP]
     unfold F7 EX at hst;obtain⟨bh,hbh⟩:∃bh,(BS (Dj ++ rs.take i)).any (fun x => decide (x=rs[i]))=bh:=⟨_,rfl⟩;rw[hbh]at HC hst;have HST:=hid hst;have HLEN:=hid hlen;clear hbh hst hlen hZs;cases bh with
     |true =>
      go_wp2_with (first
       |(refine wpList_load_mid rfl 76 (.tmp 23) rfl b3 o3 rfl cs3 _ HR.out Tryz.underlying76 rfl HI.out ?_)
       |(refine wpList_store_mid rfl 76 (.tmp 7) (.tmp 24) rfl wr.heap.size 0 cs3.toArray rfl rfl HTH.out HI2.out HON.out ?_;rw[HW2.out])
       |(refine wpList_load_mid rfl 76 (.tmp 7) rfl wr.heap.size 0 rfl cs3 _ HR2.out Tryz.underlying76 rfl HI.out ?_)
       |(go_at_call 139;refine HC.out.mono ?_;rintro e w3 ⟨rfl,hb3⟩;have B3:=hid hb3;clear hb3))
      go_roundw
      case rel =>
       have hs:=HST.out;simp only[if_true]at hs;exact⟨i+1,g,n,c,fo,by omega,by go_num,rfl,(show _=_ by rw[hs];exact HN.out),(show Aj _ _ _ _ _ _ _ _ by rw[hs];exact HO2.out.below Ac.local_ Ac.fixed B3.out),HF,HB.out.trans ((B2.out.trans (B3.out.mono B2.out.size)).mono (by rw[← HG.out];exact HB.out.size)),⟨HGG.out.1,Nat.lt_of_lt_of_le HGG.out.2 (Nat.le_trans B2.out.size B3.out.size)⟩⟩
      case measure => simp[intOf];omega
     |false =>
      have HSZ:=hid (show cs3.toArray.size=9 by rw[List.size_toArray];exact HLEN.out);have HNN:=hid (show n+1≤1000000000 by
       have h1:=Fp _ (Dj ++ rs.take i) rfl;have h2:=HN.out;have h3:=HL.out;rw[List.length_append,List.length_take]at h1;omega)
      have HAP:=hid (fun(w3:World) (hb3:Below W2.heap.size W2 w3) => addRecP (P:=fun a => a∈fs) (fun a ha => by have:=HFS.out a ha;have:=HG.out;omega) (w:=W2) (W:=w3.alloc (.cells cs3.toArray 76)) (b:=w3.heap.size) HO2.out (by have:=HS2.out;have:=HGG.out;omega) (Aa hb3 _) (Blk.new _ _ _) (Aw.below Ac.local_ Ac.fixed HRD2.out (Aa hb3 _)) HF3.out HF.out (by rw[← HN.out];exact HNN.out));rw[← HN.out]at HAP;go_wp2_with (first
       |(refine wpList_load_mid rfl 76 (.tmp 23) rfl b3 o3 rfl cs3 _ HR.out Tryz.underlying76 rfl HI.out ?_)
       |(refine wpList_store_mid rfl 76 (.tmp 7) (.tmp 24) rfl wr.heap.size 0 cs3.toArray rfl rfl HTH.out HI2.out HON.out ?_;rw[HW2.out])
       |(refine wpList_load_mid rfl 76 (.tmp 7) rfl wr.heap.size 0 rfl cs3 _ HR2.out Tryz.underlying76 rfl HI.out ?_)
       |(go_at_call 139;refine HC.out.mono ?_;rintro e w3 ⟨rfl,hb3⟩;have B3:=hid hb3;have HR3:=hid (Blk.rangeAll (K2.out.below hb3 HS2.out));clear hb3)
       |(refine wpList_load_mid rfl 76 (.tmp 7) rfl wr.heap.size 0 rfl cs3 _ HR3.out Tryz.underlying76 rfl HI.out ?_)
       |(refine DG rfl 113 76 (.tmp 30) rfl cs3.toArray rfl _ 9 128 Tryz.underlying113 Tryz.infoRec (by omega) (by omega) HSZ.out ?_)
       |(at_builtin;refine AB rfl (.tmp 29) (.tmp 31) 113 rfl _ _ (by rfl) (by rfl) (HAP.out w3 B3.out) ?_;rintro v8 w8 ⟨g8,c8,fo8,rfl,o8,h8,b8,s8,q8,r8⟩;have O8:=hid o8;have H8:=hid h8;have B8:=hid b8;have S8:=hid s8;have Q8:=hid q8;have R8:=hid r8;clear o8 h8 b8 s8 q8 r8))
      go_roundw
      case rel =>
       have hs:=HST.out;simp only[Bool.false_eq_true,if_false]at hs;exact⟨i+1,g8,n+1,c8,fo8,by omega,by go_num,rfl,(show _=_ by rw[hs,List.length_append,← HN.out];rfl),(show Aj _ _ _ _ _ _ _ _ by rw[hs];exact O8.out),H8.out,HB.out.trans ((B2.out.mono (by rw[← HG.out];exact HB.out.size)).trans B8.out),⟨Q8.out,R8.out⟩⟩
      case measure => simp[intOf];omega
    ·obtain rfl:i=rs.length:=by omega
     go_wp2_with fail
     go_roundw
     case rel =>
      refine⟨j+1,g,n,c,fo,by omega,by go_num,rfl,(show _=_ from ?_),(show Aj _ _ _ _ _ _ _ _ from ?_),HF,HB,HGG⟩
      ·rw[HN.out,List.take_succ_eq_append_getElem hlt,List.flatMap_append,HDJ.out,List.take_length];simp[HRS.out]
      ·have:=HO.out;rw[List.take_length]at this;rw[List.take_succ_eq_append_getElem hlt,List.flatMap_append,HDJ.out];simpa [HRS.out]using this
     case measure => simp[intOf];omega
  ·obtain rfl:j=d.v.length:=by omega
   have HN1:=hid (show n=(BS (Bj d)).length by have:=HN.out;rwa [List.take_length]at this);have HO1:=hid (show Aj 9 76 Ac wr g0 (.slice (some ⟨g,0,none⟩) n c) (BS (Bj d)) fo by have:=HO.out;rwa [List.take_length]at this);have HC:=hid (Ls HO1.out HN1.out (by have:=Fp _ (Bj d) rfl;have:=HN1.out;omega) HGG.out.1 HGG.out.2 (fun a ha => by have:=HFS.out a (HF.out a ha);have:=HG.out;omega));have HLN:=hid (show(AW d).length =n by
    have h1:=EK _ (Bj d) rfl;obtain⟨S,e1,e2,-⟩:=h1;unfold AW;rw[← e1,List.length_map,e2.length_eq,List.length_zipIdx];exact HN1.out.symm)
   clear HN HO;go_wp2_with (go_at_call 183;refine HC.out.mono ?_;rintro e w1 ⟨rfl,fs1,r1,p1,b1⟩;have R1:=hid r1;have P1:=hid p1;have B1:=hid b1;clear r1 p1 b1)
   go_ret
   refine⟨some ⟨g,0,none⟩,c,fs1,by rw[HLN.out];rfl,by rw[HLN.out];exact R1.out,fun a ha => ?_,?_⟩
   ·rcases P1.out a ha with q|q
    ·exact .inl (HF.out a q)
    ·right;have:=HGG.out.1;have:=HG.out;omega
   rw[HG.out];exact HB.out.trans B1.out
theorem LC(p:Nat)(fs:List Addr)(d:Au)(w:World)(h:AtW w p fs d)(hsm:(Bj d).length≤1000000) :
  Calls Tryz.prog 128 #[.pointer (some ⟨p,0,none⟩)] w fun e w' =>∃A c fs',e= .returned (.slice A (AW d).length c)∧rSl 9 Ac w' fs' (.slice A (AW d).length c) (AW d)∧Below w.heap.size w w' :=
 (CK p fs d w h hsm).mono fun _ _ ⟨A,c,fs',h1,h2,_,h4⟩ =>⟨A,c,fs',h1,h2,h4⟩
end Go.Proofs.YthbljikbnoghcaaGreat
namespace Go.Proofs.YthbljikbnoghcaaGreat
open Go.RowKit Go.Lib Go.Sort
section
variable {w4 W:World}
theorem insRec3 {u v:Value} {D D2:List Ag} {h1 q2:List Addr}(hD:D.length+D2.length≤2000000)(hR:rSl 9 Ac w4 q2 u D2)(hW:Below w4.heap.size w4 W)(ho:Aj 9 76 Ac W w4.heap.size v D h1) :
  ∃v' w',(Builtin.append_ #[113,113] 113 #[v,u]).run Tryz.prog W= .ok v' w'∧Fg 9 76 Ac w4.heap.size W v.ownBlock (D ++ D2) h1 q2 v' w':=by
 have ht:=rSl.there Ac.fixed hR;exact Aj.appendRun (P:=Tryz.prog) 113 113 _ 128 Tryz.underlying113 Tryz.infoRec rfl (by decide) Ac.local_ Ac.fixed Ac.ones w4.heap.size v D h1 ho u D2 q2 (rSl.below Ac.local_ Ac.fixed hR hW) (fun a ha e => by
  have:=(ho.lt _ e).1;have:=ht a ha;omega) (by omega) (by omega) hW.size
end
theorem Kw:∀l:List Ag,(Cy l).length =(BS l).length:=fun l => by
 obtain⟨S,e1,e2,-⟩:=EK _ l rfl;rw[← e1,List.length_map,e2.length_eq,List.length_zipIdx]
end Go.Proofs.YthbljikbnoghcaaGreat
