/- Part 46 of the proof. -/
import Derived.Test.YtfjkoifpdoemdaaGreatJ37
import Derived.Test.YtfjkoifpdoemdaaGreatJ27
import Derived.Test.YtfjkoifpdoemdaaGreatJ36
import Derived.Test.YtfjkoifpdoemdaaGreatJ03
import Derived.Test.YtfjkoifpdoemdaaGreatJ35
import Derived.Test.YtfjkoifpdoemdaaGreatJ45
set_option maxHeartbeats 8000000
set_option maxRecDepth 100000
set_option linter.unusedVariables false
set_option linter.unusedSimpArgs false
open Go.Proofs.Tryz
open Go.Value (int)
open Go.IntKind (i64)
namespace Go.Proofs.YtfjkoifpdoemdaaGreat
open Go.RowKit Go.Lib Go.Sort
def Dt(d:Am)(x:Ah):Th:=⟨x.name,(Dk d x).isNone,(Dk d x).getD []⟩
theorem Md {d:Am} {x:Ah} {M:List UInt8}(h:Dk d x=some M):Dt d x=⟨x.name,false,M⟩:=by unfold Dt;rw[h];rfl
theorem Mc {d:Am} {x:Ah}(h:Dk d x=none):Dt d x=⟨x.name,true,[]⟩:=by unfold Dt;rw[h];rfl
def TrS(d:Am)(X:Int × List Th):Prop:=(AK d=0∧∃L,D7 (AN d) L∧X=(0,L.map (Dt d)))∨(¬AK d=0∧X=(AK d,[]))
theorem TrS.ok {d:Am} {X:Int × List Th}(h:TrS d X)(hw:AK d=0):∃L,D7 (AN d) L∧X=(0,L.map (Dt d)):=by
 rcases h with⟨_,h⟩|⟨h,_⟩
 ·exact h
 ·exact absurd hw h
theorem TrS.bad {d:Am} {X:Int × List Th}(h:TrS d X)(hw:¬AK d=0):X=(AK d,[]):=by
 rcases h with⟨h,_⟩|⟨_,h⟩
 ·exact absurd h hw
 ·exact h
theorem Ns(r:Ah)(out:List Ah):∀a,a≤out.length→(∀q,(hq:q<out.length)→a≤q→Fs r out[q] =true)→∃a,a≤out.length∧(∀q,(hq:q<out.length)→a≤q→Fs r out[q] =true)∧(a=0∨∃(hk1:a - 1<out.length),Fs r out[a - 1] =false)
 |0,h,h1 =>⟨0,h,h1,.inl rfl⟩
 |a+1,h,h1 => by
  cases e:Fs r out[a]with
  |true =>
   refine Ns r out a (by omega) fun q hq haq => ?_
   by_cases e2:q=a
   ·subst e2;exact e
   ·exact h1 q hq (by omega)
  |false => exact⟨a+1,h,h1,.inr ⟨by omega,e⟩⟩
theorem Ow(all:List Ah):∀i,i≤all.length→∃out,CQ all i out
 |0,_ =>⟨[],.start all⟩
 |i+1,h => by
  obtain⟨out,ho⟩:=Ow all i (by omega);by_cases q:all[i].kind =1∧all[i].length≠ -1∧CD all all[i].name all.length=(i:Int)
  ·obtain⟨a,ha,h1,h2⟩:=Ns all[i] out out.length (aC _) (fun q hq h => by omega);exact⟨_,ho.put (by omega) rfl q.1 q.2.1 q.2.2 ha h1 h2⟩
  ·exact⟨out,ho.skip (by omega) q⟩
theorem truth_ex(d:Am):∃X,TrS d X:=by
 by_cases h:AK d=0
 ·obtain⟨L,hL⟩:=Ow (AN d) _ (aC _);exact⟨_,.inl ⟨h,L,hL.all_,rfl⟩⟩
 ·exact⟨_,.inr ⟨h,rfl⟩⟩
theorem I7 {d:Am}(h:AK d=0) {x:Ah}(hx:x∈AN d)(hk:x.kind=1)(hl:x.length≠ -1):x.name.size≤8∧x.data.length≤100:=by
 obtain⟨hn,hi⟩:=GL (MI h x hx) hk;have hsz:=Jd hn;have hT:=F4 h;have hd:=hT.ok.data;unfold Ch at hi;rw[aI hl]at hi;simp only[Bool.and_eq_true]at hi;obtain⟨hp,hi⟩:=hi;unfold DG at hp;simp only[bN]at hp;have hp3:=(Jg hT.ok hp.1).2 hp.2;have e1:d.s.sh.data=d.s.data:=rfl;have e2:d.s.sh.rows=d.s.rows:=rfl;by_cases q:0<x.data.length
 ·rw[aL q]at hi;simp only[Bool.and_eq_true,bN]at hi;exact⟨hsz,by omega⟩
 ·exact⟨hsz,by omega⟩
theorem NY {d:Am}(hT:BR d) {x:Ah}(hI:FV d x)(hs:x.data.length≤100):((Dk d x).getD []).length≤100:=by
 unfold Dk;by_cases q:0<x.data.length
 ·rw[aL q];exact hs
 ·rw[aI q];have hin:=GC (nm:=x.name) (show 0<d.s.g from by have:=hT.ok.g.1;simp only[AX.sh]at this;omega);cases e:irF d (EV d.s.g x.name).toNat x.rows x.rows.length with
  |none => exact Nat.zero_le _
  |some M =>
   have h1:=Gn hT (g:=(EV d.s.g x.name).toNat) (by have h1:=hT.gl;have h2:=hT.ok.c.1;simp only[AX.sh]at h2;omega) hI.rw_ _ (aC _) M e;have h2:=hT.ok.data;simp only[AX.sh]at h2;have h3:x.rows.length * (4 * d.s.data.toNat)≤6 * (4 * 3):=Nat.mul_le_mul hI.rl (by omega);simp only[Option.map_some,Option.getD_some,aQ];omega
theorem Mf(f:Ah→Th):∀L:List Ah,(∀x,x∈L→(f x).name.size +(f x).bytes.length≤108)→Cp (L.map f)≤108 * L.length
 | [],_ => by simp[Cp]
 |x :: L,h => by
  have h1:=Mf f L fun y hy => h y (List.mem_cons_of_mem _ hy)
  have h2:=h x (List.mem_cons_self ..);simp only[List.map_cons,Cp,List.length_cons];omega
theorem TrS.small {d:Am} {X:Int × List Th}(h:TrS d X):X.2.length+Cp X.2≤10000000000:=by
 by_cases hw:AK d=0
 ·obtain⟨L,hL,rfl⟩:=h.ok hw;have hT:=F4 hw;have h1:L.length≤(AN d).length:=F2 _ _ (hL.sorted.imp (fun {a b} hab e => by subst e;exact Fc a hab)) fun x hx => Fe ((hL.mem x).1 hx)
  have h2:=FD d;have h3:=hT.sm;have h4:=Mf (Dt d) L fun x hx => by
   have hp:=(hL.mem x).1 hx;have hc:=Fe hp;obtain⟨k,hk,e,k1,k2,-⟩:=hp;obtain⟨s1,s2⟩:=I7 hw hc k1 k2;have s3:=NY hT (GW hw hc k1 k2).1 s2;show x.name.size+((Dk d x).getD []).length≤108
   omega
  simp only[bR];omega
 ·rw[h.bad hw];exact Nat.zero_le _
theorem Fy {w:World} {fs:List Addr} {v:Value} {ds:List Th}(h:BM w fs v ds):∃A c,v= .slice A ds.length c:=by
 obtain⟨A,c,e,-⟩:=BM.open_ h;exact⟨A,c,e⟩
theorem E1(C:Int)(v1 v2:Value)(xs:List Th)(f1 f2:List Addr)(w:World)(h1:BM w f1 v1 xs)(h2:BM w f2 v2 xs) :
  Calls prog 28 #[.agg #[int i64 C,v1],.agg #[int i64 C,v2]] w fun e w' => e= .returned (.bool true)∧Below w.heap.size w w':=by
 have H1:=U h1;have H2:=U h2;obtain⟨A1,c1,rfl⟩:=Fy h1;obtain⟨A2,c2,rfl⟩:=Fy h2;clear h1 h2;go_enter func28,ntmps28
 go_wp2_with fail
 have B1:Below w.heap.size w ((w.alloc (.cells #[int i64 C,.slice A1 xs.length c1] 70)).alloc (.cells #[int i64 C,.slice A2 xs.length c2] 70)):=((aB _ _).alloc (aC _) _).alloc (by simp) _;refine(O0 _ _ xs xs f1 f2 _ (BM.below H1.o B1) (BM.below H2.o B1)).mono ?_;rintro e w1 ⟨rfl,hb1⟩;rw[aK (rfl:xs=xs)];have B2:=U (B1.trans (hb1.mono B1.size));clear hb1 B1;go_wp2_with fail
 go_ret
 exact⟨rfl,B2.o⟩
theorem Jb(C:Int)(v:Value)(xs:List Th)(fs:List Addr)(w:World)(k lo:Nat)(h1:BM w fs v xs)(hm:Aw lo w fs)(hk:0<k)(hk0:k≤1000000000)(hsm:xs.length+Cp xs≤10000000000) :
  Calls prog 29 #[.agg #[int i64 C,v],int i64 k] w fun e w' => e= .returned (int i64 ((k+Bg xs:Nat):Int))∧AD fs w w'∧BM w' fs v (Cj k xs):=by
 have H1:=U h1;have HM:=U hm;obtain⟨A1,c1,rfl⟩:=Fy h1;clear h1 hm;obtain⟨R,hR⟩:∃R:Nat,k+Bg xs=R:=⟨_,rfl⟩;rw[hR];have HR:=U hR;clear hR;go_enter func29,ntmps29
 go_wp2_with fail
 have B1:Below w.heap.size w (w.alloc (.cells #[int i64 C,.slice A1 xs.length c1] 70)):=(aB _ _).alloc (aC _) _;have W1:AD fs w (w.alloc (.cells #[int i64 C,.slice A1 xs.length c1] 70)):=.of_below B1;refine(Ni _ xs fs _ k lo (BM.below H1.o B1) (HM.o.wrote W1 (rSl.there rTh.fixed H1.o)) hk hk0 hsm).mono ?_;rw[HR.o];rintro e w1 ⟨rfl,hw1,hr1⟩;have W2:=U (W1.trans hw1);have R1:=U hr1;clear W1 B1 hw1 hr1;go_wp2_with fail
 go_ret
 exact⟨rfl,W2.o,R1.o⟩
theorem FW(C:Int)(v:Value)(xs:List Th)(fs:List Addr)(w:World)(k:Nat)(h1:BM w fs v (Cj k xs))(hk:0<k)(hk0:k≤1000000000)(hsm:xs.length+Cp xs≤10000000000) :
  Calls prog 30 #[.agg #[int i64 C,v],int i64 k] w fun e w' => e= .returned (int i64 ((k+Bg xs:Nat):Int))∧Below w.heap.size w w':=by
 have H1:=U h1;obtain⟨A1,c1,rfl⟩:=Fy h1;clear h1;obtain⟨R,hR⟩:∃R:Nat,k+Bg xs=R:=⟨_,rfl⟩;rw[hR];have HR:=U hR;clear hR;obtain⟨ln,hln⟩:∃ln,(Cj k xs).length =ln:=⟨_,rfl⟩;rw[hln]at H1⊢;clear hln;go_enter func30,ntmps30
 go_wp2_with fail
 have B1:Below w.heap.size w (w.alloc (.cells #[int i64 C,.slice A1 ln c1] 70)):=(aB _ _).alloc (aC _) _;refine(MQ _ xs fs _ k (BM.below H1.o B1) hk hk0 hsm).mono ?_;rw[HR.o];rintro e w1 ⟨rfl,hb1⟩;have B2:=U (B1.trans (hb1.mono B1.size));clear hb1 B1;have hnn:¬(R:Int)<0:=by omega
 go_wp2_with fail
 go_ret
 exact⟨rfl,B2.o⟩
theorem Tryz.infoTh:(prog.info? 126).map (fun i =>(i.zero,i.size,i.bytes))=some (some (.agg #[.string ⟨#[]⟩,.bool false,.slice none 0 0]),3,48):=by kernel_rfl
theorem rTh_ones:∀(w:World) (f:List Addr) (cs:List Value) (d:Th),rTh w f cs d→∀u,u∈cs→u.oneCell'=true:=by
 intro w f cs d ⟨v,e,_,h⟩ u hu;obtain⟨A,c,ev,-⟩:=Ag.form h;subst ev;subst e;simp only[List.mem_cons,List.not_mem_nil,or_false]at hu;rcases hu with rfl|rfl|rfl <;> rfl
theorem Mr {wr w2 W:World} {base:Nat} {v:Value} {ds:List Th} {fs:List Addr}(ho:Aj 3 126 rTh wr base v ds fs)(hm:Aw base wr fs)(hbase:base≤wr.heap.size)(hn:ds.length+1≤1000000000)
  {f:List Addr} {d:Th} {b:Nat} {u:Value} (B2:Below wr.heap.size wr w2) (hr:Ag w2 f u d.bytes) (hsz:d.name.size≤9223372036854775807) (hf:Aw wr.heap.size w2 f) (B5:Below w2.heap.size w2 W) (hblk:Blk W b 126 #[.string d.name,.bool d.lost,u]) :
  ∃v' w',(Builtin.append_ #[68,68] 68 #[v,.slice (some ⟨b,0,none⟩) 1 1]).run prog W= .ok v' w'∧∃A c h,v'= .slice A (ds.length+1) c∧Aj 3 126 rTh w' base v' (ds ++ [d]) (fs ++ h)∧Aw base w' (fs ++ h)∧Below base wr w'∧wr.heap.size≤w'.heap.size∧(∀a:Addr,a.block<wr.heap.size→v.ownBlock≠some a.block→w'.cell? a=wr.cell? a)∧(∀k,v'.ownBlock=some k→v.ownBlock=some k∨wr.heap.size≤k):=by
 have BW:Below wr.heap.size wr W:=B2.trans (B5.mono B2.size);have hr1:rTh w2 f [.string d.name,.bool d.lost,u] d:=⟨u,rfl,hsz,hr⟩;have ho2:Aj 3 126 rTh W base v ds fs:=ho.below rTh.local_ rTh.fixed BW;have hr2:rTh W f [.string d.name,.bool d.lost,u] d:=AB.below rTh.local_ rTh.fixed hr1 B5;have hf2:Aw wr.heap.size W f:=hf.below B5 (rTh.fixed _ _ _ _ hr1);obtain⟨v',w',q1,h,q2,q3,q4,q5⟩:=Aj.appendOne (P:=prog) 68 68 (.agg #[.string ⟨#[]⟩,.bool false,.slice none 0 0]) 48 underlying68 Tryz.infoTh rfl (by decide) rTh.local_ rTh.fixed rTh_ones base v ds fs ho2 b [.string d.name,.bool d.lost,u] f d rfl hblk hr2 (fun a ha e => by
  have:=(ho.lt _ e).2;have:=hf.from_ a ha;omega) hn (by omega) (bL hbase BW.size)
 obtain⟨A,c,e,-⟩:=q2.length;refine⟨v',w',q1,A,c,h,by rw[e];simp,q2,Aw.appended rTh.fixed ho hm BW hf2 (rTh.fixed _ _ _ _ hr2) q3 q4 hbase,Below.grown (BW.mono hbase) q4 (bL hbase BW.size) (fun k hk =>(ho.lt k hk).1),bL BW.size q4.size,fun a ha hne => ?_,fun k hk => ?_⟩
 ·exact(World.cell?_of_block (q4.block a.block (aE ha BW.size) (fun e => hne e.symm))).trans (BW.cell ha)
 ·rcases q5 with q|q
  ·exact .inl (q.symm.trans hk)
  ·rw[q]at hk;injection hk with hk
   exact .inr (hk ▸ BW.size)
theorem truth_k(k:Nat)(hk9:k=9)(zR:∀w,(Go.sizeOf 119).run prog w= .ok k w)(aR:∀w,(isAgg 119).run prog w= .ok true w)(p:Nat)(fs:List Addr)(d:Am)(w:World)(h:AtW w p fs d)(hw:AK d=0) :
  Calls prog 76 #[.pointer (some ⟨p,0,none⟩)] w fun e w' =>∃L v gs,D7 (AN d) L∧e= .returned v∧BM w' gs v (L.map (Dt d))∧Aw w.heap.size w' gs∧Below w.heap.size w w':=by
 have HK9:=U hk9;have HAT:=U h;have HW:=U hw;have HT:=U (F4 hw);obtain⟨g0,hg0⟩:∃g0,w.heap.size=g0:=⟨_,rfl⟩;have HG:=U hg0;have hB1:Below w.heap.size w (w.alloc (.cells #[] 126)):=(aB _ _).alloc (aC _) _;have HB1:=U hB1;have KO:=U (Blk.new w 126 #[]);have HNW:=U (newest_c p fs d _ (h.below hB1) HT.o.sm (names_of hw));have HFS:=U (show CX fs w from by obtain⟨_,hr,-⟩:=h;exact AC.fixed _ _ _ _ hr);clear hk9 h hw hB1;go_enter func76,ntmps76
 go_wp2_with fail
 refine HNW.o.mono ?_;rintro e w2 ⟨L,A,c,f2,rfl,hL,r2,p2,b2⟩;have HL:=U hL;have HR2:=U r2;have hz2:g0<w2.heap.size:=by rw[← hg0];exact aE KO.o.lt b2.size
 have HP2:=U (show∀a,a∈f2→a.block≠g0∧a.block<w2.heap.size from fun a ha => by
  refine⟨?_,rSl.there Ac.fixed r2 a ha⟩;rcases p2 a ha with q|q
  ·have:=HFS.o a q;omega
  ·simp at q;omega)
 have HB2:=U (show Below g0 w w2 from by rw[← hg0];exact HB1.o.trans (b2.mono HB1.o.size));have hOS:Aj 3 126 rTh w2 g0 (.slice (some ⟨g0,0,none⟩) 0 0) [] []:=Aj.start ⟨rfl,.inr ⟨g0,0,#[],rfl,aC _,by rw[← hg0];exact KO.o.below b2 KO.o.lt,aC _,by unfold maxLen;omega,rfl,rfl⟩⟩;have HOS:=U hOS;have hLl:L.length≤1000000:=by
  have h1:L.length≤(AN d).length:=F2 _ _ (hL.sorted.imp (fun {a b} hab e => by subst e;exact Fc a hab)) fun x hx => Fe ((hL.mem x).1 hx)
  have h2:=FD d;have h3:=HT.o.sm;omega
 clear hL r2 p2 b2 hOS HNW HB1 KO;try rw[hg0]
 clear hg0;go_wp2_with fail
 go_loopw [12,3] (fun ix o wr =>∃(i n c':Nat) (A':Option Addr),i≤L.length∧ix= int i64 i∧o= .slice A' n c'∧Hid (n=i)∧Hid (∃fo,Aj 3 126 rTh wr g0 (.slice A' n c') ((L.take i).map (Dt d)) fo∧Aw g0 wr fo)∧Hid (rSl 9 Ac wr f2 (.slice A L.length c) L)∧Hid (∀b,(Value.slice A' n c').ownBlock =some b→b=g0∨w2.heap.size≤b)∧Hid (Below g0 w wr)∧Hid (w2.heap.size≤wr.heap.size)) (fun ix _ _ => L.length - (intOf ix).toNat)
 case atStart => exact⟨0,0,0,some ⟨g0,0,none⟩,by omega,rfl,rfl,rfl,⟨[],HOS.o,⟨List.nodup_nil,(fun a ha => by cases ha),(fun a ha => by cases ha)⟩⟩,HR2.o,(fun b hb => by injection hb with hb;exact .inl hb.symm),HB2.o,aC _⟩
 case round =>
  clear HOS HR2 HB2;obtain⟨i,n,c',A',hi,rfl,rfl,HN,HO,HRS,HOB,HB,HSZ⟩:=hrel;by_cases hlti:i<L.length
  ·obtain⟨Ax,cx,ev,hc,hm,hx⟩:=rSl.at_ Ac.fixed (by omega) HRS.o;injection ev with ev1 _ ev3
   subst ev1 ev3;obtain⟨ad3,b3,o3,cs3,f3,rfl,hat⟩:=hx i hlti;have hpl3:ad3.add (i * k)=⟨b3,o3,none⟩:=by rw[HK9.o];exact hat.place
   have hpl4:=hat.place;have hbl3:=hat.lt;have hlen:cs3.length=9:=hat.len;have HR:=U (show wr.rangeAt b3 o3 cs3 from fun q v hq => by
    have hq1:q<cs3.length:=(List.getElem?_eq_some_iff.1 hq).1;rw[hat.cell q hq1,← hq];exact(aO hq1).symm)
   have HI:=U (show(prog.info? 119).map (·.size)=some cs3.length by rw[hlen];kernel_rfl);have HI2:=U (show(prog.info? 119).map (·.size)=some cs3.toArray.size by rw[aZ,hlen];kernel_rfl);have HON:=U (all_oneCell_toArray (Ac.ones _ _ _ _ hat.reads));obtain⟨Z,hZ⟩:∃Z:Array Value,#[int i64 0,int i64 0,.string ⟨#[]⟩,int i64 0,int i64 0,int i64 0,.slice none 0 0,.slice none 0 0,.slice none 0 0] =Z:=⟨_,rfl⟩;have hZs:Z.size=9:=by rw[← hZ];rfl
   have KZ:=Blk.new wr 119 Z;have HTH:=U (Blk.there KZ cs3.toArray.size (by rw[aZ,hlen,hZs];exact aC _));obtain⟨w3,hW2⟩:∃w3,(wr.alloc (.cells Z 119)).setCells wr.heap.size 0 cs3.toArray.toList=w3:=⟨_,rfl⟩;have K3:=U (show Blk w3 wr.heap.size 119 cs3.toArray by rw[← hW2];exact Blk.laid KZ _ (by rw[hZs];exact hlen.symm));have B3:=U (show Below wr.heap.size wr w3 by rw[← hW2];exact Ba (Af (aB _ _) _) _ 0 (aC _));have HW2:=U hW2;have HRR:=U (Blk.rangeAll K3.o);have HB3:=U (show Below w.heap.size w w3 by rw[HG.o];exact HB.o.trans (B3.o.mono (by have:=HSZ.o;omega)));have hgb:=K3.o.lt;obtain⟨v0,v1,v2,q0,q1,q2,e,-⟩:=hat.reads;have y2:w3.cell? ⟨wr.heap.size,2,none⟩=some (.string L[i].name):=by rw[K3.o.cell,e];rfl
   have hp:=(HL.o.mem _).1 (aN hlti);have hcn:=Fe hp;obtain⟨k0,hk0,e0,k1,k2,-⟩:=hp;have hnm:L[i].name.size≤8:=(I7 HW.o hcn k1 k2).1;have HTI:=U (PS p fs d L[i] cs3 f3 w3 (HAT.o.below HB3.o) (AB.below Ac.local_ Ac.fixed hat.reads B3.o) HT.o (GW HW.o hcn k1 k2).1);have hki:(i:Int)<(L.length:Int):=by omega
   have HTK:=U (show(L.take (i+1)).map (Dt d)=(L.take i).map (Dt d) ++ [Dt d L[i]]from by rw[aM hlti,List.map_append];rfl);obtain⟨fo,ho,hmo⟩:=HO.o;have hDL:((L.take i).map (Dt d)).length =i:=by rw[bR,aQ];omega
   obtain⟨D,hD⟩:∃D,(L.take i).map (Dt d)=D:=⟨_,rfl⟩;rw[hD]at HTK ho hDL;obtain⟨x,hx3⟩:∃x,L[i] =x:=⟨_,rfl⟩;rw[hx3]at y2 hnm HTI HTK;have HOO:=U ho;have HMO:=U hmo;have HDL:=U (show D.length+1≤1000000000 by omega);have HDI:=U (show D.length+1=i+1 by omega);have hbs:g0≤wr.heap.size:=by have:=HSZ.o;omega
   have HBS:=U hbs;have HNM:=U (show x.name.size≤9223372036854775807 by omega);have HKEEP:=U (show∀(w':World),(∀a:Addr,a.block<wr.heap.size→(Value.slice A' n c').ownBlock≠some a.block→w'.cell? a=wr.cell? a)→rSl 9 Ac w' f2 (.slice (some ad3) L.length c) L from fun w' hk => rSl.keep Ac.local_ HRS.o fun a ha => hk a (aE (HP2.o a ha).2 HSZ.o) fun e => by
    rcases HOB.o _ e with q|q
    ·exact(HP2.o a ha).1 q
    ·have:=(HP2.o a ha).2;omega)
   clear hat hx hW2 KZ hlen hZs e hcn k1 k2 e0 hk0 ho hmo hDL hD hx3 hnm hbs HO HN;go_wp2_with (first
    |(refine aD rfl 119 (.tmp 14) rfl b3 o3 rfl cs3 _ HR.o underlying119 rfl HI.o ?_)
    |(refine aW rfl 119 (.tmp 5) (.tmp 15) rfl wr.heap.size 0 cs3.toArray rfl rfl HTH.o HI2.o HON.o ?_;rw[HW2.o])
    |(refine aD rfl 119 (.tmp 5) rfl wr.heap.size 0 rfl cs3 _ HRR.o underlying119 rfl HI.o ?_))
   refine HTI.o.mono ?_;rintro e w4 (⟨M,A7,c7,f7,e7,rfl,r7,m7,b7⟩|⟨e7,rfl,b7⟩)
   ·have y2':=(b7.cell (p:=⟨wr.heap.size,2,none⟩) hgb).trans y2;have hgb':wr.heap.size<w4.heap.size:=aE hgb b7.size;have HAP:=U (Mr (d:=⟨x.name,false,M⟩) (u:=.slice A7 M.length c7) (W:=w4.alloc (.cells #[.string x.name,.bool false,.slice A7 M.length c7] 126)) (b:=w4.heap.size) HOO.o HMO.o HBS.o HDL.o (B3.o.trans (b7.mono B3.o.size)) r7 HNM.o (m7.mono B3.o.size) ((aB _ _).alloc (aC _) _) (Blk.new _ _ _));rw[Md e7]at HTK;clear e7 r7 m7 b7 y2 hgb;go_wp2_with (at_builtin;refine Ar rfl (.tmp 22) (.tmp 29) 68 rfl _ _ (by rfl) (by rfl) HAP.o ?_;rintro v9 w9 ⟨A9,c9,h9,rfl,o9,m9,b9,s9,k9,j9⟩;have O9:=U o9;have M9:=U m9;have B9:=U b9;have S9:=U s9;have K9:=U k9;have J9:=U j9;clear o9 m9 b9 s9 k9 j9)
    go_roundw
    case rel =>
     exact⟨i+1,D.length+1,c9,A9,by omega,by go_num,rfl,HDI.o,(show∃_,_ from⟨_,by rw[HTK.o];exact O9.o,M9.o⟩),HKEEP.o _ K9.o,(show∀_,_ from fun b hb => by
      rcases J9.o b hb with q|q
      ·exact HOB.o b q
      ·exact .inr (bL HSZ.o q)),HB.o.trans B9.o,bL HSZ.o S9.o⟩
    case measure => simp[intOf];omega
   ·have y2':=(b7.cell (p:=⟨wr.heap.size,2,none⟩) hgb).trans y2;have hgb':wr.heap.size<w4.heap.size:=aE hgb b7.size;have HAP:=U (Mr (d:=⟨x.name,true,[]⟩) (u:=.slice none 0 0) (f:=[]) (W:=w4.alloc (.cells #[.string x.name,.bool true,.slice none 0 0] 126)) (b:=w4.heap.size) HOO.o HMO.o HBS.o HDL.o (B3.o.trans (b7.mono B3.o.size)) ⟨none,0,rfl,aC _,by omega,.inl ⟨rfl,rfl⟩⟩ HNM.o ⟨List.nodup_nil,(fun a ha => by cases ha),(fun a ha => by cases ha)⟩ ((aB _ _).alloc (aC _) _) (Blk.new _ _ _));rw[Mc e7]at HTK;clear e7 b7 y2 hgb;go_wp2_with (at_builtin;refine Ar rfl (.tmp 22) (.tmp 29) 68 rfl _ _ (by rfl) (by rfl) HAP.o ?_;rintro v9 w9 ⟨A9,c9,h9,rfl,o9,m9,b9,s9,k9,j9⟩;have O9:=U o9;have M9:=U m9;have B9:=U b9;have S9:=U s9;have K9:=U k9;have J9:=U j9;clear o9 m9 b9 s9 k9 j9)
    go_roundw
    case rel =>
     exact⟨i+1,D.length+1,c9,A9,by omega,by go_num,rfl,HDI.o,(show∃_,_ from⟨_,by rw[HTK.o];exact O9.o,M9.o⟩),HKEEP.o _ K9.o,(show∀_,_ from fun b hb => by
      rcases J9.o b hb with q|q
      ·exact HOB.o b q
      ·exact .inr (bL HSZ.o q)),HB.o.trans B9.o,bL HSZ.o S9.o⟩
    case measure => simp[intOf];omega
  ·obtain rfl:i=L.length:=by omega
   go_wp2_with fail
   go_ret
   obtain⟨fo,ho,hmo⟩:=HO.o;rw[aV]at ho;obtain⟨gs,r9,m9⟩:=ho.readsMine hmo;exact⟨L,_,gs,HL.o,rfl,r9,by rw[HG.o];exact m9,by rw[HG.o];exact HB.o⟩
theorem truth_c(p:Nat)(fs:List Addr)(d:Am)(w:World)(h:AtW w p fs d)(hw:AK d=0) :
  Calls prog 76 #[.pointer (some ⟨p,0,none⟩)] w fun e w' =>∃L v gs,D7 (AN d) L∧e= .returned v∧BM w' gs v (L.map (Dt d))∧Aw w.heap.size w' gs∧Below w.heap.size w w' :=
 truth_k 9 rfl sizeOf119 isAgg119 p fs d w h hw
def MyT(x:Int × List Th)(w:World)(e:Ending)(w':World):Prop :=
 ∃v fs,e= .returned (.agg #[int i64 x.1,v])∧BM w' fs v x.2∧Aw w.heap.size w' fs∧Below w.heap.size w w'
theorem Mi(d:Am)(X:Int × List Th)(hX:TrS d X)(cs:List Value)(f:List Addr)(w:World)(h:AC w f cs d) :
  Calls prog 27 #[.agg cs.toArray] w (MyT X w):=by
 have hrw:=h;dsimp only[AC]at h;obtain⟨v0,v1,v2,f0,f1,f2,rfl,-,o0,o1,o2,o3,o4,o5,o6,o7,o8,o9,o10,r0,r1,r2⟩:=h;obtain⟨A0,c0,rfl,m0,m0'⟩:=rSl.head r0;obtain⟨A1,c1,rfl,m1,m1'⟩:=rSl.head r1;obtain⟨A2,c2,rfl,m2,m2'⟩:=rSl.head r2;obtain⟨nG,hnG⟩:∃nG,d.g.length=nG:=⟨_,rfl⟩;obtain⟨nO,hnO⟩:∃nO,d.on.length=nO:=⟨_,rfl⟩;obtain⟨nT,hnT⟩:∃nT,d.v.length=nT:=⟨_,rfl⟩;rw[hnG]at r0 m0⊢;rw[hnO]at r1 m1⊢;rw[hnT]at r2 m2⊢;rw[hnG,hnO,hnT]at hrw;have HRW:=U hrw;have HNG:=U hnG;have HNO:=U hnO;have HNT:=U hnT;have hb1:Below w.heap.size w (w.alloc (.cells #[int i64 d.s.g,int i64 d.s.c,int i64 d.s.data,int i64 d.s.p,int i64 d.s.rows,int i64 d.s.cap,int i64 d.s.b,int i64 d.s.q,int i64 d.s.t,.slice A0 nG c0,.slice A1 nO c1,.slice A2 nT c2,int i64 d.u,int i64 d.stop,.bool d.down] 35)):=(aB _ _).alloc (aC _) _;have hk1:Blk (w.alloc (.cells #[int i64 d.s.g,int i64 d.s.c,int i64 d.s.data,int i64 d.s.p,int i64 d.s.rows,int i64 d.s.cap,int i64 d.s.b,int i64 d.s.q,int i64 d.s.t,.slice A0 nG c0,.slice A1 nO c1,.slice A2 nT c2,int i64 d.u,int i64 d.stop,.bool d.down] 35)) w.heap.size 35 #[int i64 d.s.g,int i64 d.s.c,int i64 d.s.data,int i64 d.s.p,int i64 d.s.rows,int i64 d.s.cap,int i64 d.s.b,int i64 d.s.q,int i64 d.s.t,.slice A0 nG c0,.slice A1 nO c1,.slice A2 nT c2,int i64 d.u,int i64 d.stop,.bool d.down]:=Blk.new _ _ _;have K1:=U hk1;have HB1:=U hb1;have R0:=U (rSl.below (Al.local_ Ak.local_) (Al.fixed Ak.fixed) r0 hb1);have R1:=U (rSl.below Az.local_ Az.fixed r1 hb1);have R2:=U (rSl.below Ay.local_ Ay.fixed r2 hb1);clear hrw r0 r1 r2 hb1 hk1 hnG hnO hnT;have HWF:=U (fun(W:World) (hW:Below w.heap.size w W) => JV d _ _ W (AB.below AC.local_ AC.fixed HRW.o hW));have K2:=U (show Blk ((w.alloc (.cells #[int i64 d.s.g,int i64 d.s.c,int i64 d.s.data,int i64 d.s.p,int i64 d.s.rows,int i64 d.s.cap,int i64 d.s.b,int i64 d.s.q,int i64 d.s.t,.slice A0 nG c0,.slice A1 nO c1,.slice A2 nT c2,int i64 d.u,int i64 d.stop,.bool d.down] 35)).alloc (.cells #[int i64 0,.slice none 0 0] 70)) w.heap.size 35 #[int i64 d.s.g,int i64 d.s.c,int i64 d.s.data,int i64 d.s.p,int i64 d.s.rows,int i64 d.s.cap,int i64 d.s.b,int i64 d.s.q,int i64 d.s.t,.slice A0 nG c0,.slice A1 nO c1,.slice A2 nT c2,int i64 d.u,int i64 d.stop,.bool d.down]from K1.o.alloc _);have R2:=U (Blk.new1 w (.cells #[int i64 d.s.g,int i64 d.s.c,int i64 d.s.data,int i64 d.s.p,int i64 d.s.rows,int i64 d.s.cap,int i64 d.s.b,int i64 d.s.q,int i64 d.s.t,.slice A0 nG c0,.slice A1 nO c1,.slice A2 nT c2,int i64 d.u,int i64 d.stop,.bool d.down] 35) 70 #[int i64 0,.slice none 0 0]);have B2:=U (show Below w.heap.size w ((w.alloc (.cells #[int i64 d.s.g,int i64 d.s.c,int i64 d.s.data,int i64 d.s.p,int i64 d.s.rows,int i64 d.s.cap,int i64 d.s.b,int i64 d.s.q,int i64 d.s.t,.slice A0 nG c0,.slice A1 nO c1,.slice A2 nT c2,int i64 d.u,int i64 d.stop,.bool d.down] 35)).alloc (.cells #[int i64 0,.slice none 0 0] 70))from HB1.o.alloc (by simp) _);have HRG:=U (Blk.range K2.o 0 [int i64 d.s.g,int i64 d.s.c,int i64 d.s.data,int i64 d.s.p,int i64 d.s.rows,int i64 d.s.cap,int i64 d.s.b,int i64 d.s.q,int i64 d.s.t,.slice A0 nG c0,.slice A1 nO c1,.slice A2 nT c2,int i64 d.u,int i64 d.stop,.bool d.down] rfl);have HPOST:=U (fun(c:Int) (v:Value) (fs:List Addr) (W:World) (h1:BM W fs v X.2) (h2:Aw w.heap.size W fs) (h3:Below w.heap.size w W) => show X.1=c→MyT X w (.returned (.agg #[int i64 c,v])) W from fun h4 =>⟨v,fs,by rw[h4],h1,h2,h3⟩);by_cases hwc:AK d=0
 ·obtain⟨L,hL,eX⟩:=hX.ok hwc;obtain⟨T,hT⟩:∃T,L.map (Dt d)=T:=⟨_,rfl⟩;rw[hT]at eX;subst eX;have HL:=U hL;have HTE:=U hT;have HWC:=U hwc;rw[hwc]at HWF;have HTR:=U (fun(W:World) (hA:AtW W w.heap.size f d) => truth_c w.heap.size f d W hA HWC.o);have HAW:=U (fun(W:World) (hW:Below w.heap.size w W) (K:Blk W w.heap.size 35 #[int i64 d.s.g,int i64 d.s.c,int i64 d.s.data,int i64 d.s.p,int i64 d.s.rows,int i64 d.s.cap,int i64 d.s.b,int i64 d.s.q,int i64 d.s.t,.slice A0 nG c0,.slice A1 nO c1,.slice A2 nT c2,int i64 d.u,int i64 d.stop,.bool d.down]) => AtW.of (d:=d) K (AB.below AC.local_ AC.fixed HRW.o hW));clear hwc hT hL hX;go_enter func27,ntmps27
  go_wp2_with (refine aD rfl 35 _ rfl w.heap.size 0 rfl _ _ HRG.o underlying35 rfl (by kernel_rfl) ?_)
  refine(HWF.o _ B2.o).mono ?_;rintro e w3 ⟨rfl,b3⟩;have K3:=U (K2.o.below b3 K2.o.lt);have R3:=U (R2.o.below b3 R2.o.lt);have B3:=U (B2.o.trans (b3.mono B2.o.size));have z3:w.heap.size<w3.heap.size:=K3.o.lt;have y3:w.heap.size+1<w3.heap.size:=R3.o.lt;clear b3;go_wp2_with fail
  refine(HTR.o _ (HAW.o _ B3.o K3.o)).mono ?_;rintro e w4 ⟨L',v7,f7,hL',rfl,r7,m7,b4⟩;obtain rfl:=hL'.uniq HL.o;rw[HTE.o]at r7;obtain⟨A7,c7,rfl⟩:=Fy r7;have Q7:=U r7;have M7:=U (show Aw (w.heap.size+2) w4 f7 from m7.mono (by have:=y3;omega));clear r7 m7 hL';have K4:=U (K3.o.below b4 K3.o.lt);have R4:=U (R3.o.below b4 R3.o.lt);have B4:=U (B3.o.trans (b4.mono B3.o.size));have z4:w.heap.size<w4.heap.size:=K4.o.lt;have y4:w.heap.size+1<w4.heap.size:=R4.o.lt;clear b4;have s0:w4.cell? ⟨w.heap.size+1,0,none⟩=some (int i64 0):=(Blk.cell R4.o 0).trans rfl;have s1:w4.cell? ⟨w.heap.size+1,1,none⟩=some (.slice none 0 0):=(Blk.cell R4.o 1).trans rfl;have t0:=Blk.frozen R4.o 0;have t1:=Blk.frozen R4.o 1;go_wp2_with fail
  have KF:=Blk.set_ (Blk.set_ R4.o 0 (int i64 0)) 1 (.slice A7 T.length c7);refine bodyPost_ret (results_cell_row rfl _ _ (w.heap.size+1) 70 #[int i64 0,.slice A7 T.length c7] (0,0) _ rfl KF underlying70 rfl (by kernel_rfl)) rfl ?_;refine HPOST.o _ _ f7 _ ?_ ?_ ((B4.o.setCell (show w.heap.size≤w.heap.size+1 by omega) _).setCell (show w.heap.size≤w.heap.size+1 by omega) _) rfl
  ·exact rSl.keep rTh.local_ (rSl.keep rTh.local_ Q7.o (AQ.set_ _ (lo:=w.heap.size+2) M7.o.from_ (by simp) _)) (AQ.set_ _ (lo:=w.heap.size+2) M7.o.from_ (by simp) _)
  ·exact((M7.o.mono (by omega)).set_ _ _).set_ _ _
 ·have eX:=hX.bad hwc;obtain⟨wc,hw⟩:∃wc,AK d=wc:=⟨_,rfl⟩;rw[hw]at HWF hwc eX;subst eX;have hne:(wc != 0)=true:=DV hwc;clear hw hwc hX;go_enter func27,ntmps27
  go_wp2_with (refine aD rfl 35 _ rfl w.heap.size 0 rfl _ _ HRG.o underlying35 rfl (by kernel_rfl) ?_)
  refine(HWF.o _ B2.o).mono ?_;rintro e w3 ⟨rfl,b3⟩;have K3:=U (K2.o.below b3 K2.o.lt);have R3:=U (R2.o.below b3 R2.o.lt);have B3:=U (B2.o.trans (b3.mono B2.o.size));have z3:w.heap.size<w3.heap.size:=K3.o.lt;have y3:w.heap.size+1<w3.heap.size:=R3.o.lt;clear b3;have s0:w3.cell? ⟨w.heap.size+1,0,none⟩=some (int i64 0):=(Blk.cell R3.o 0).trans rfl;have s1:w3.cell? ⟨w.heap.size+1,1,none⟩=some (.slice none 0 0):=(Blk.cell R3.o 1).trans rfl;have t0:=Blk.frozen R3.o 0;have t1:=Blk.frozen R3.o 1;go_wp2_with fail
  have KF:=Blk.set_ (Blk.set_ R3.o 0 (int i64 wc)) 1 (.slice none 0 0);refine bodyPost_ret (results_cell_row rfl _ _ (w.heap.size+1) 70 #[int i64 wc,.slice none 0 0] (0,0) _ rfl KF underlying70 rfl (by kernel_rfl)) rfl ?_;refine HPOST.o _ _ [] _ ?_ ?_ ((B3.o.setCell (show w.heap.size≤w.heap.size+1 by omega) _).setCell (show w.heap.size≤w.heap.size+1 by omega) _) rfl
  ·exact⟨none,0,rfl,aC _,by omega,.inl ⟨rfl,rfl⟩⟩
  ·exact⟨List.Pairwise.nil,(fun a ha => by cases ha),fun a ha => by cases ha⟩
