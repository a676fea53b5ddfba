/- Part 30 of the proof. -/
import Derived.Test.YtofeknacbdcoaaaGreatDoorK29
import Derived.Test.YtofeknacbdcoaaaGreatDoorK26
import Derived.Test.YtofeknacbdcoaaaGreatDoorK19
import Derived.Test.YtofeknacbdcoaaaGreatDoorK27
import Derived.Test.YtofeknacbdcoaaaGreatDoorK28
import Derived.Test.YtofeknacbdcoaaaGreatDoorK03
import Derived.Test.YtofeknacbdcoaaaGreatDoorK06
import Derived.Deep.RegionHeld3
import Derived.Test.YtofeknacbdcoaaaGreatDoorK01
import Derived.Test.YtofeknacbdcoaaaGreatDoorK02
import Derived.ProofKit
import Derived.OpenShut
import Derived.ShutString
import Derived.ChangeOld
import Derived.Below
set_option maxHeartbeats 8000000
set_option maxRecDepth 100000
set_option linter.unusedVariables false
set_option linter.unusedSimpArgs false
open Go.Proofs.Tryz
open Go.Value (int)
open Go.IntKind (i64)
namespace Go.Proofs.YtofeknacbdcoaaaGreatDoor
open Go.RowKit Go.Lib Go.Sort
theorem l6Live_c(v i f w)(h:rSl 9 Af w f v i)(o:i.length<=1000000)(n:∀r,r∈i->r.kind=1->r.length= -1∨0<=r.length):
  Calls prog 44 #[v] w fun e w' =>∃L A c l,e= .returned (.slice A L.length c)/\Eb i L/\rSl 9 Af w' l (.slice A L.length c) L/\Below w w w' :=
 l6Live_k 9 rfl sizeOf105 isAgg105 v i f w h o n
theorem yD{p:Prop}(h:p:=by repeat(with_reducible first|exact aC _ _|apply Ac|apply Am)):p:=h
theorem yC{p:Prop}(h:p:=by repeat(with_reducible first|exact Blk.new _ _ _|exact Blk.new1 _ _ _ _|apply Blk.drew_|apply Blk.alloc)):p:=h
theorem NS(d)(X:Int × List Th)(hX:TrS d X)(cs f w)(h:AF w f cs d):
  Calls prog 13 #[.agg cs] w (MyT X w):=by
 have a3:=h;dsimp only[AF]at h;obtain⟨v0,v1,v2,f0,f1,f2,rfl,-,o0,o1,o2,o3,o4,o5,o6,o7,o8,o9,cj,r0,r1,r2⟩:=h;obtain⟨A0,c0,rfl,m0,cg⟩:=rSl.head r0;obtain⟨A1,c1,rfl,m1,ch⟩:=rSl.head r1;obtain⟨A2,c2,rfl,m2,ci⟩:=rSl.head r2;obtain⟨nG,am⟩:∃nG,d.g.length=nG:=zJ;obtain⟨nO,an⟩:∃nO,d.on.length=nO:=zJ;obtain⟨nT,ao⟩:∃nT,d.v.length=nT:=zJ;rw[am]at r0 m0⊢;rw[an]at r1 m1⊢;rw[ao]at r2 m2⊢;rw[am,an,ao]at a3;obtain⟨bj,ca,cb,bu⟩:=zH a3 am an ao;have ai:Below w w (w.alloc (.cells (zD d A0 nG c0 A1 nO c1 A2 nT c2) 42)):=(aC _ _).alloc (aD _) _;have bq:Blk (w.alloc (.cells (zD d A0 nG c0 A1 nO c1 A2 nT c2) 42)) w 42 (zD d A0 nG c0 A1 nO c1 A2 nT c2):=Blk.new _ _ _;obtain⟨K1,bt,R0,R1,R2⟩:=zG bq ai (rSl.B (Ai.L Ar.L) (Ai.X Ar.X) r0 ai) (rSl.B Aw.L Aw.X r1 ai) (rSl.B AE.L AE.X r2 ai);clear a3 r0 r1 r2 ai bq am an ao;obtain⟨al,K2,R2,B2⟩:=zH (fun(W:World) (hW:Below w w W) => Hx d _ _ W (AC.B AF.L AF.X bj.o hW)) (show Blk ((w.alloc (.cells (zD d A0 nG c0 A1 nO c1 A2 nT c2) 42)).alloc (.cells #[(),zQ] 59)) w 42 (zD d A0 nG c0 A1 nO c1 A2 nT c2) from K1.o.alloc _) (Blk.new1 w (.cells (zD d A0 nG c0 A1 nO c1 A2 nT c2) 42) 59 #[(),zQ]) (show Below w w ((w.alloc (.cells (zD d A0 nG c0 A1 nO c1 A2 nT c2) 42)).alloc (.cells #[(),zQ] 59))from bt.o.alloc zX _);have bi:=zq (Blk.range K2.o 0 (zD d A0 nG c0 A1 nO c1 A2 nT c2) rfl);have ah:=zq (fun(c:Int) (v:Value) (fs:List Addr) (W:World) (h1:F8 W fs v X.2) (h2:AL w W fs) (h3:Below w w W) => show X.1=c->MyT X w (.returned (.agg #[int i64 c,v])) W from fun h4 =>⟨v,fs,by rw[h4],h1,h2,h3⟩);by_cases aa:AI d=0
 ·obtain⟨L,hL,eX⟩:=hX.ok aa;obtain⟨T,hT⟩:∃T,L.map (Dy d)=T:=zJ;rw[hT]at eX;subst eX;have a0:=FW aa;obtain⟨HT,HL,bw,av⟩:=zH a0 hL hT aa;rw[aa]at al;have a4:=zq (fun(W:World) (hW:Below w w W) (K:Blk W w 42 (zD d A0 nG c0 A1 nO c1 A2 nT c2)) => AtW.of (d:=d) K (AC.B AF.L AF.X bj.o hW));have a7:=zq (fun(W:World) (hA:AtW W w f d) => PY w f d W hA HT.o.tp HT.o.sm);have bp:=FP d;have b2:=a0.sm;have bc:=zq (fun(W:World) (v:Value) (fa:List Addr) (ha:rSl 9 Af W fa v (AU d)) => l6Live_c v (AU d) fa W ha zZ (fun r hr hk => by
   by_cases q:r.length= -1
   ·exact .inl q
   ·exact .inr (GF av.o hr hk q).2))
  have ap:=zq (fun(W:World) (fa:List Addr) (va:Value) (x:Aj) (cs:List Value) (fx:List Addr) (hA:AtW W w f d) (ha:rSl 9 Af W fa va (AU d)) (hx:Af W fx cs x) (hI:GC d x) => To w f d va fa x cs fx W hA ha hx HT.o hI);have ba:=zq (fun(x:Aj) (hx:Mb (AU d) x) => show GC d x/\x.name.size<=9223372036854775807 from by
   have hc:=EA hx;obtain⟨k,hk,e,k1,k2,-⟩:=hx;have:=(Il av.o hc k1 k2).1;exact⟨(GF av.o hc k1 k2).1,by omega⟩)
  obtain⟨ax,aq⟩:∃ax,AU d=ax:=zJ;rw[aq]at a7 bp bc ap ba HL;have cd:L.length<=1000000:=by
   have h1:L.length<=ax.length:=FU _ _ (HL.o.sorted.imp (fun {a b} b1 e => by subst e;exact E7 a b1)) fun x hx => EA ((HL.o.mem x).1 hx)
   omega
  clear aa hT hL hX a0 aq bp b2;go_enter func13,ntmps13
  go_wp2_with (refine aE rfl 42 _ rfl w 0 rfl _ _ bi.o underlying42 rfl zY ?_)
  refine(al.o _ B2.o).M ?_;rintro e w3 ⟨rfl,y⟩;obtain⟨K3,R3,B3⟩:=zI (K2.o.B y K2.o.lt) (R2.o.B y R2.o.lt) (B2.o.T (y.M B2.o.size));have z3:w.heap.size<w3.heap.size:=K3.o.lt;have y3:w.heap.size+1<w3.heap.size:=R3.o.lt;clear y;go_wp2_with fail
  refine(a7.o _ (a4.o _ B3.o K3.o)).M ?_;rintro e w4 ⟨A4,c4,f4,rfl,r4,b4⟩;obtain⟨aw,K4,R4,B4⟩:=zH r4 (K3.o.B b4 K3.o.lt) (R3.o.B b4 R3.o.lt) (B3.o.T (b4.M B3.o.size));have z4:w.heap.size<w4.heap.size:=K4.o.lt;have y4:w.heap.size+1<w4.heap.size:=R4.o.lt;clear b4;clear r4;go_wp2_with fail
  refine(bc.o _ _ _ aw.o).M ?_;rintro e l ⟨L',A5,c5,f5,rfl,bo,r5,b5⟩;obtain rfl:=bo.uniq HL.o;obtain⟨bx,b0,K5,R5,B5⟩:=zG (rSl.B Af.L Af.X aw.o b5) r5 (K4.o.B b5 K4.o.lt) (R4.o.B b5 R4.o.lt) (B4.o.T (b5.M B4.o.size));have z5:w.heap.size<l.heap.size:=K5.o.lt;have y5:w.heap.size+1<l.heap.size:=R5.o.lt;clear b5;clear r5 bo aw;have bm:Below l l (l.alloc (.cells #[(),zQ] 59)):=(aC _ _).alloc (aD _) _;obtain⟨a5,bk,bg⟩:=zI bm (Blk.new l 59 #[(),zQ]) (show Ak 3 63 rTh (l.alloc (.cells #[(),zQ] 59)) (l.heap.size+1) (.slice none 0 0) [] []from Ak.start ⟨rfl,.inl ⟨rfl,rfl⟩⟩);clear bm;go_wp2
  go_loopw [7] (fun ix wr =>∃(i n c':Nat) (A':Option Addr),i<=L'.length/\ix=i/\Hid (n=i)/\Hid (Blk wr l 59 #[(),.slice A' n c'])/\Hid (∃fo,Ak 3 63 rTh wr (l.heap.size+1) (.slice A' n c') ((L'.take i).map (Dy d)) fo/\AL (l.heap.size+1) wr fo)/\Hid (Below l l wr)) (fun ix _ => L'.length - (intOf ix).toNat)
  ·exact⟨0,0,0,none,by omega,rfl,rfl,bk.o,⟨[],bg.o,⟨List.nodup_nil,(fun a ha => by cases ha),(fun a ha => by cases ha)⟩⟩,a5.o⟩
  ·clear bg bk a5;obtain⟨i,n,c',A',hi,rfl,HN,KG,HO,HB⟩:=hrel;obtain⟨Kr,Rr,Br⟩:=zI (K5.o.B HB.o K5.o.lt) (R5.o.B HB.o R5.o.lt) (B5.o.T (HB.o.M B5.o.size));by_cases aj:i<L'.length
   ·have bz:=zq (rSl.B Af.L Af.X bx.o HB.o);obtain⟨Ax,cx,ev,hc,hm,hx⟩:=rSl.at_ Af.X zZ (rSl.B Af.L Af.X b0.o HB.o);injection ev with ay _ az
    subst ay az;obtain⟨cc,y,o3,ag,f3,rfl,z⟩:=hx i aj;have b9:=z.place;have ae:=z.lt;have ar:ag.length=9:=z.len;have bv:=zq (show wr.rangeAt y o3 ag from fun q v hq => by
     have br:q<ag.length:=(List.getElem?_eq_some_iff.1 hq).1;rw[z.cell q br,<-hq];exact(aO br).symm)
    have HI:=zq (show(prog.info? 105).map (·.size)=some ag.length by rw[ar];kernel_rfl);have bh:=zq z.reads;obtain⟨v0,v1,v2,q0,q1,q2,e,-⟩:=z.reads;have y2:wr.cell? ⟨y,o3+2,none⟩=some (.string L'[i].name):=by
     have:=z.cell 2 (by rw[z.len];omega);simpa [e]using this
    obtain⟨a1,a2⟩:=ba.o _ ((HL.o.mem _).1 (aT aj));have ce:(i:Int)<(L'.length:Int):=by omega
    have af:=zq (show(L'.take (i+1)).map (Dy d)=(L'.take i).map (Dy d) ++ [Dy d L'[i]]from by rw[aK aj,List.map_append];rfl);obtain⟨fo,ho,ak⟩:=HO.o;have bn:((L'.take i).map (Dy d)).length =i:=by rw[bH,aX];omega
    obtain⟨D,hD⟩:∃D,(L'.take i).map (Dy d)=D:=zJ;rw[hD]at af ho bn;obtain⟨x,bs⟩:∃x,L'[i] =x:=zJ;rw[bs]at y2 a2 a1 af bh;obtain⟨bf,bd,a9,a8⟩:=zH ho ak (show D.length+1<=1000000000 by omega) (show D.length+1=i+1 by omega);obtain⟨a6,be,bb⟩:=zI (show l.heap.size+1<=wr.heap.size from KG.o.lt) a2 a1;clear z hx ar e ho ak bn hD bs a2 a1 HO HN;go_wp2_with (refine aE rfl 105 (.tmp 30) rfl y o3 rfl ag _ bv.o underlying105 rfl HI.o ?_)
    refine(ap.o wr f4 _ x ag f3 (a4.o _ Br.o Kr.o) bz.o bh.o bb.o).M ?_;rintro e w7 (⟨M,A7,c7,f7,e7,rfl,r7,m7,b7⟩|⟨e7,rfl,b7⟩)
    ·obtain⟨ad,b8,b6⟩:=zI b7 r7 m7;clear b7 r7 m7;have au:=zq (fun(W:World) (b:Nat) (hW:Below w7 w7 W) (hb:Blk W b 63 #[.string x.name,.bool false,.slice A7 M.length c7]) => NX (wr:=wr) (d:=⟨x.name,false,M⟩) (W:=W) (b:=b) bf.o bd.o a6.o a9.o ad.o b8.o be.o b6.o hW hb);rw[NG e7]at af;have ab:=ad;clear e7 ad;have ac:=zq (KG.o.B ab.o KG.o.lt);have p1:w7.cell? ⟨l.heap.size,1,none⟩=some (.slice A' n c'):=(Blk.cell ac.o 1).T rfl;have f1:=Blk.frozen ac.o 1;have zg:l.heap.size<w7.heap.size:=ac.o.lt;have pn:w7.cell? ⟨y,o3+2,none⟩=some (.string x.name):=(ab.o.cell (p:=⟨y,o3+2,none⟩) ae).T y2;have zn:y<w7.heap.size:=aH ae ab.o.size;go_wp2_with fail
     go_region_law (first
      |(refine AZ rfl (.tmp 36) (.tmp 46) 57 rfl _ _ zT zT (au.o _ _ yD yC) ?_;rintro v9 w9 ⟨A9,c9,h9,rfl,o9,m9,B9,s9,-,-⟩;have k9:=KG.o.B B9 (Nat.lt_succ_self _);have p9:w9.cell? ⟨l.heap.size,1,none⟩=some (.slice A' n c'):=(Blk.cell k9 1).T rfl;have f9:=Blk.frozen k9 1;have z9:l.heap.size<w9.heap.size:=k9.lt))
     all_goals
      go_wp2
      go_roundw
      ·refine⟨i+1,D.length+1,c9,A9,by omega,by go_num,a8.o,(show Blk _ _ _ _ from Blk.set_ k9 1 _),(show∃_,_ from⟨_,by rw[af.o];exact Ak.far_ rTh.L o9 m9 zX _,AL.set_ m9 _ _⟩),(show Below _ _ _ from(HB.o.T (B9.M zZ)).setCell zX _)⟩
      ·simp[intOf];omega
    ·have ad:=zq b7;clear b7;have au:=zq (fun(W:World) (b:Nat) (hW:Below w7 w7 W) (hb:Blk W b 63 #[.string x.name,.bool true,zQ]) => NX (wr:=wr) (d:=⟨x.name,true,[]⟩) (W:=W) (b:=b) bf.o bd.o a6.o a9.o ad.o (f:=[]) (u:=.slice none 0 0) ⟨none,0,rfl,aD _,by omega,.inl ⟨rfl,rfl⟩⟩ be.o ⟨List.nodup_nil,(fun a ha => by cases ha),(fun a ha => by cases ha)⟩ hW hb);rw[NF e7]at af;have ab:=ad;clear e7 ad;have ac:=zq (KG.o.B ab.o KG.o.lt);have p1:w7.cell? ⟨l.heap.size,1,none⟩=some (.slice A' n c'):=(Blk.cell ac.o 1).T rfl;have f1:=Blk.frozen ac.o 1;have zg:l.heap.size<w7.heap.size:=ac.o.lt;have pn:w7.cell? ⟨y,o3+2,none⟩=some (.string x.name):=(ab.o.cell (p:=⟨y,o3+2,none⟩) ae).T y2;have zn:y<w7.heap.size:=aH ae ab.o.size;go_wp2_with fail
     go_region_law (first
      |(refine AZ rfl (.tmp 36) (.tmp 46) 57 rfl _ _ zT zT (au.o _ _ yD yC) ?_;rintro v9 w9 ⟨A9,c9,h9,rfl,o9,m9,B9,s9,-,-⟩;have k9:=KG.o.B B9 (Nat.lt_succ_self _);have p9:w9.cell? ⟨l.heap.size,1,none⟩=some (.slice A' n c'):=(Blk.cell k9 1).T rfl;have f9:=Blk.frozen k9 1;have z9:l.heap.size<w9.heap.size:=k9.lt))
     all_goals
      go_wp2
      go_roundw
      ·refine⟨i+1,D.length+1,c9,A9,by omega,by go_num,a8.o,(show Blk _ _ _ _ from Blk.set_ k9 1 _),(show∃_,_ from⟨_,by rw[af.o];exact Ak.far_ rTh.L o9 m9 zX _,AL.set_ m9 _ _⟩),(show Below _ _ _ from(HB.o.T (B9.M zZ)).setCell zX _)⟩
      ·simp[intOf];omega
   ·obtain rfl:i=L'.length:=by omega
    obtain⟨fo,ho,ak⟩:=HO.o;rw[bA,bw.o]at ho;obtain⟨gs,r9,m9⟩:=ho.readsMine ak;obtain⟨A9,c9,ev⟩:=thForm r9;injection ev with ay bl az
    subst ay az;obtain⟨bu,Q7,M7⟩:=zI bl r9 (show AL (w.heap.size+2) wr gs from m9.M (by have:=y5;omega));have p0:wr.cell? ⟨l.heap.size,0,none⟩=some (int i64 0):=(Blk.cell KG.o 0).T rfl;have p1:wr.cell? ⟨l.heap.size,1,none⟩=some (.slice A' n c'):=(Blk.cell KG.o 1).T rfl;have zg:l.heap.size<wr.heap.size:=KG.o.lt;have zr:=Kr.o.lt;have yr:=Rr.o.lt;clear ho ak r9 m9 bl;have s0:wr.cell? ⟨w.heap.size+1,0,none⟩=some (int i64 0):=(Blk.cell Rr.o 0).T rfl;have s1:wr.cell? ⟨w.heap.size+1,1,none⟩=some (.slice none 0 0):=(Blk.cell Rr.o 1).T rfl;have t0:=Blk.frozen Rr.o 0;have t1:=Blk.frozen Rr.o 1;go_wp2_with fail
    have KF:=Blk.set_ (Blk.set_ Rr.o 0 (int i64 0)) 1 ((.slice A' n c'));refine bodyPost_ret (results_cell_row rfl _ _ (w.heap.size+1) 59 #[(),(.slice A' n c')] (0,0) _ rfl KF underlying59 rfl zY) rfl ?_;refine ah.o _ _ gs _ ?_ ?_ ((Br.o.setCell (show w.heap.size<=w.heap.size+1 by omega) _).setCell (show w.heap.size<=w.heap.size+1 by omega) _) rfl
    ·exact rSl.keep rTh.L (rSl.keep rTh.L Q7.o (AV.set_ _ (lo:=w.heap.size+2) M7.o.from_ zX _)) (AV.set_ _ (lo:=w.heap.size+2) M7.o.from_ zX _)
    ·exact((M7.o.M zZ).set_ _ _).set_ _ _
 ·have eX:=hX.bad aa;obtain⟨wc,hw⟩:∃wc,AI d=wc:=zJ;rw[hw]at al aa eX;subst eX;have cf:(wc != 0)=true:=EE aa;clear hw aa hX;go_enter func13,ntmps13
  go_wp2_with (refine aE rfl 42 _ rfl w 0 rfl _ _ bi.o underlying42 rfl zY ?_)
  refine(al.o _ B2.o).M ?_;rintro e w3 ⟨rfl,y⟩;obtain⟨K3,R3,B3⟩:=zI (K2.o.B y K2.o.lt) (R2.o.B y R2.o.lt) (B2.o.T (y.M B2.o.size));have z3:w.heap.size<w3.heap.size:=K3.o.lt;have y3:w.heap.size+1<w3.heap.size:=R3.o.lt;clear y;have s0:w3.cell? ⟨w.heap.size+1,0,none⟩=some (int i64 0):=(Blk.cell R3.o 0).T rfl;have s1:w3.cell? ⟨w.heap.size+1,1,none⟩=some (.slice none 0 0):=(Blk.cell R3.o 1).T rfl;have t0:=Blk.frozen R3.o 0;have t1:=Blk.frozen R3.o 1;go_wp2_with fail
  have KF:=Blk.set_ (Blk.set_ R3.o 0 (int i64 wc)) 1 (.slice none 0 0);refine bodyPost_ret (results_cell_row rfl _ _ (w.heap.size+1) 59 #[int i64 wc,zQ] (0,0) _ rfl KF underlying59 rfl zY) rfl ?_;refine ah.o _ _ [] _ ?_ ?_ ((B3.o.setCell (show w.heap.size<=w.heap.size+1 by omega) _).setCell (show w.heap.size<=w.heap.size+1 by omega) _) rfl
  ·exact⟨none,0,rfl,aD _,by omega,.inl ⟨rfl,rfl⟩⟩
  ·exact⟨List.Pairwise.nil,(fun a ha => by cases ha),fun a ha => by cases ha⟩
end Go.Proofs.YtofeknacbdcoaaaGreatDoor
namespace Go.Proofs.YtofeknacbdcoaaaGreatDoor
open Go.RowKit Go.Sort
theorem PI {hi s}{d:AP}(h:Cb hi s d=0):(d.queues.length:Int)=s.g+s.c/\(d.queues.any (Di s)||(decide (20<d.aside.length)||decide (200<d.answers.length)))=false/\tkC s d=0/\anH hi d=0/\Ap d.turn 0 1000000000=true/\Ap d.next 1 1000000000=true:=by
 unfold Cb at h;split at h
 ·rename_i i
  split at h
  ·cases h
  ·rename_i l
   split at h
   ·rename_i e
    split at h
    ·rename_i h4
     split at h
     ·rename_i f
      simp only[Bool.and_eq_true]at f;exact⟨i,by simpa using l,e,h4,f.1,f.2⟩
     ·cases h
    ·rename_i h4
     exact absurd h h4
   ·rename_i e
    exact absurd h e
 ·cases h
theorem Pf {s next}:∀(l:List (AA × Int)) (c:List Int),Fd s next l c=0->∀x,x∈l->Dn s x.1=0
 | [],_,_,_,hx => by cases hx
 |x :: r,c,h,y,f => by
  unfold Fd at h;by_cases e:Dm s next c x=0
  ·rw[aM e]at h;rcases List.mem_cons.1 f with rfl|f
   ·unfold Dm at e;by_cases q:Dn s y.1=0
    ·exact q
    ·rw[aJ q]at e;exact e
   ·exact Pf r _ h y f
  ·rw[aJ e]at h;exact absurd h e
theorem tick_id {s}{t:AA}(h:Dn s t=0):0<=t.id/\t.id<=1000000000000:=by
 unfold Dn at h;by_cases q:Ap t.id 1 1000000000=true
 ·have:=BF q;omega
 ·rw[aJ q]at h;cases h
theorem allT_ok {s}{d:AP}(h:tkC s d=0):∀t,t∈AY d->0<=t.id/\t.id<=1000000000000:=fun t c => by
 rw[<-Gx]at c;obtain⟨x,e,rfl⟩:=List.mem_map.1 c;exact tick_id (Pf _ _ h x e)
theorem on_ok {d:As}(h:AI d=0):DA d.on (d.s.sh.g+d.s.sh.c - 1)=true/\(d.on.length:Int)<=d.s.sh.cap:=by
 unfold AI at h;rw[aM (Kd h)]at h;by_cases hb:(BU d.s.sh d.g && (onB d.s.sh d.on d.down && decide (d.v.length=2)))=true
 ·unfold onB at hb;simp only[Bool.and_eq_true,bG]at hb;exact⟨hb.2.1.1,hb.2.1.2.1⟩
 ·rw[aJ hb]at h;cases h
theorem Ot {hi}{d:AX}(h:DD hi d=0){L:List Aj}(u:Eb (AU d.world) L):H7 d (L.map (Dy d.world))/\d.world.s.sh.Ok/\d.world.s.g+d.world.s.c=d.world.g.length/\d.desk.queues.length=d.world.g.length:=by
 obtain⟨hw,hd⟩:=Ja h;have f:=FW hw;obtain⟨q1,q2,q3,-,q5,-⟩:=PI hd;obtain⟨n1,n2⟩:=on_ok hw;have o1:=f.ok.g;have o2:=f.ok.c;have o3:=f.ok.data;have o4:=f.ok.p;have o5:=f.ok.cap;have o6:=f.ok.q;have hG:=f.gl;have r:=allT_ok q3;have hl:L.length<=(AU d.world).length:=FU _ _ (u.sorted.imp (fun {a b} y e => by subst e;exact E7 a y)) fun x l => EA ((u.mem x).1 l)
 have h2:=FP d.world;have h3:=f.sm;simp only[Bool.or_eq_false_iff,decide_eq_false_iff_not]at q2;have e1:d.world.s.sh.g=d.world.s.g:=rfl;have e2:d.world.s.sh.c=d.world.s.c:=rfl;have e3:d.world.s.sh.data=d.world.s.data:=rfl;have e4:d.world.s.sh.p=d.world.s.p:=rfl;refine⟨⟨by have:=BF q5;omega,fun x l => ?_,by omega,by rw[bH];omega,fun t r => ?_,by omega,fun g => ?_,by omega,fun q hq =>⟨?_,fun x l => ?_⟩,by omega,fun x l => ?_⟩,f.ok,hG.symm,by omega⟩
 ·unfold DA at n1;obtain⟨i,o,rfl⟩:=aY l;have:=BF ((bE n1) i o o).1;omega
 ·obtain⟨x,l,rfl⟩:=List.mem_map.1 r;have hp:=(u.mem x).1 l;have z:=EA hp;obtain⟨k,hk,e,k1,k2,-⟩:=hp;obtain⟨s1,s2⟩:=Il hw z k1 k2;have s3:=KD f (GF hw z k1 k2).1 s2;exact⟨show x.name.size<=_ by omega,show((Du d.world x).getD []).length<=_ by omega⟩
 ·by_cases hg:g<d.world.g.length
  ·have:=f.dl g hg;omega
  ·unfold AD;rw[aP,List.getElem?_eq_none zZ];simp
 ·have:=q2.1;rw[List.any_eq_false]at this;have:=this q hq;unfold Di at this;simp only[bG]at this;omega
 ·obtain⟨t,n,rfl⟩:=List.mem_map.1 l;exact r t (bM _ (List.mem_flatten.2 ⟨q,hq,n⟩))
 ·obtain⟨t,n,rfl⟩:=List.mem_map.1 l;exact r t (bO _ n)
def FmtS(d:AX)(T:ByteArray):Prop:=(DD (d.desk.next - 1) d=0/\∃L,Eb (AU d.world) L/\(⟨(GP d (L.map (Dy d.world))).toArray⟩:ByteArray)=T)∨(¬DD (d.desk.next - 1) d=0/\(⟨#[]⟩:ByteArray)=T)
theorem fmtS_ex(d):∃T,FmtS d T:=by
 by_cases h:DD (d.desk.next - 1) d=0
 ·obtain⟨L,c⟩:=QK (AU d.world) _ (aD _);exact⟨_,.inl ⟨h,L,c.all_,rfl⟩⟩
 ·exact⟨_,.inr ⟨h,rfl⟩⟩
theorem OA(d)(T:ByteArray)(hX:FmtS d T)(cs f w)(h:AG w f cs d)(hT:Tab w):
  Calls prog 7 #[.agg cs] w (zN (.string T) w):=by
 rcases hX with⟨l,L,hL,rfl⟩|⟨l,rfl⟩
 ·obtain⟨hF,ab,hG,hQ⟩:=Ot l hL;refine OB d _ cs f w h _ l hF hT (fun V hV => GE d cs f V hV) (fun V p f1 hV => ?_) ab hG hQ;refine(truth_c p f1 d.world V hV (Ja l).1).M ?_;rintro e w' ⟨L2,v,gs,aa,rfl,r,m,b⟩;obtain rfl:=aa.uniq hL;exact⟨v,gs,rfl,r,m,b⟩
 ·have u:=h.next.2;obtain⟨q,i⟩:∃q,w.alloc (.cells cs.toArray 49)=q:=zJ;have z:Below w w q:=by rw[<-i];exact Ac (aC _ _) _
  have K1:Blk q w 49 cs.toArray:=by rw[<-i];exact Blk.new w _ _
  obtain⟨c,x,HI,n⟩:=zH (GE d cs f q (AC.B AG.L AG.X h z)) (Blk.rangeAll K1) (show(prog.info? 49).map (·.size)=some cs.length by rw[u];kernel_rfl) z;obtain⟨y,s⟩:∃y,DD (d.desk.next - 1) d=y:=zJ;rw[s]at c l;have hb:(y == 0)=false:=by simpa using l
  clear h z K1 s;go_enter func7,ntmps7
  go_wp2_with (first
   |(refine aE rfl 49 _ rfl w 0 rfl cs _ x.o underlying49 rfl HI.o ?_)
   |(go_at_call 20;(try rw[i]);refine c.o.M ?_;rintro e w3 ⟨rfl,b3⟩;have B3:=zq (n.o.T (b3.M n.o.size));clear b3))
  go_ret
  exact⟨rfl,B3.o⟩
theorem Pn(d)(T:ByteArray)(hX:FmtS d T)(cs f w)(h:AG w f cs d):
  Calls prog 5 #[.agg cs] w (zN (.string T) w):=by
 have hw:=Rd h.next.1;rcases hX with⟨n,L,hL,rfl⟩|⟨n,rfl⟩
 ·obtain⟨hF,aa,hG,hQ⟩:=Ot n hL;refine Po d _ cs f w h _ (hw.2 n) hF (fun V z => GI d cs f V z) (fun V c1 f1 z => ?_) aa hG hQ;refine(NS d.world (0,L.map (Dy d.world)) (.inl ⟨(Ja n).1,L,hL,rfl⟩) c1 f1 V z).M ?_;rintro e w' ⟨v,fs,rfl,r,m,b⟩;exact⟨v,fs,rfl,r,b⟩
 ·have s:=h.next.2;obtain⟨q,i⟩:∃q,w.alloc (.cells cs.toArray 49)=q:=zJ;have y:Below w w q:=by rw[<-i];exact Ac (aC _ _) _
  have K1:Blk q w 49 cs.toArray:=by rw[<-i];exact Blk.new w _ _
  obtain⟨c,x,HI,p⟩:=zH (GI d cs f q (AC.B AG.L AG.X h y)) (Blk.rangeAll K1) (show(prog.info? 49).map (·.size)=some cs.length by rw[s];kernel_rfl) y;obtain⟨u,l⟩:∃u,DD (IntKind.i64.wrap (d.desk.next - 1)) d=u:=zJ;have ab:¬u=0:=fun e => n (hw.1 (l.T e))
  rw[l]at c;have hb:(u == 0)=false:=by simpa using ab
  clear h y K1 l hw n;go_enter func5,ntmps5
  go_wp2_with (first
   |(refine aE rfl 49 _ rfl w 0 rfl cs _ x.o underlying49 rfl HI.o ?_)
   |(go_at_call 11;(try rw[i]);refine c.o.M ?_;rintro e w3 ⟨rfl,b3⟩;have B3:=zq (p.o.T (b3.M p.o.size));clear b3))
  go_ret
  exact⟨rfl,B3.o⟩
theorem yB{p:Prop}(h:p:=by repeat(with_reducible first|assumption|exact aC _ _|apply Ac|apply Am)):p:=h
theorem P5(p:Nat)(ak:p=20)(zA:∀w,(Go.sizeOf 49).run prog w= .ok p w)(aA:∀w,(isAgg 49).run prog w= .ok true w)(zL:∀w,(Go.sizeOf 35).run prog w= .ok p w)(aL:∀w,(isAgg 35).run prog w= .ok true w)(d cs f w)(h:AG w f cs d)(hT:Tab w):
  Calls prog 3 #[.agg cs] w (zN (.bool true) w):=by
 have n:=h.next.2;have hB:Below w w (w.alloc (.cells cs.toArray 35)):=Ac (aC _ _) _;have K1:Blk (w.alloc (.cells cs.toArray 35)) w 35 cs.toArray:=Blk.new w _ _;have h1:=AC.B AG.L AG.X h hB;obtain⟨au,ah,HI,HB,HK,ag⟩:=zF h (Blk.rangeAll K1) (show(prog.info? 35).map (·.size)=some cs.length by rw[n];kernel_rfl) hB K1 n;have l:=zq (Qn d cs f _ 1048576 h1 zZ zZ);have af:=zq ak;have a4:¬p=0:=by omega
 have a5:0<p:=by omega
 clear h h1 n hB K1 ak;by_cases u:(1048576:Int)<(DH d:Int)
 ·rw[AM u]at l;clear u;go_enter func3,ntmps3
  go_wp2_with (first
   |(refine aE rfl 35 _ rfl w 0 rfl cs _ ah.o underlying35 rfl HI.o ?_)
   |(go_at_call 4;refine l.o.M ?_;rintro e w3 ⟨rfl,b3⟩;have B3:=zq (HB.o.T (b3.M HB.o.size));clear b3))
  go_ret
  exact⟨rfl,B3.o⟩
 ·rw[Bd u]at l;have y:DH d<=1048576:=by omega
  have a3:¬(1048576:Int) - (DH d:Int)<0:=by omega
  obtain⟨tb,ac⟩:=fmtS_ex d;obtain⟨z,aw,an,ad⟩:=zH (fun(W:World) (hW:Below w w W) => Qq d _ _ W (AC.B AG.L AG.X au.o hW) y) (fun(cs:List Value) (f:List Addr) (W:World) (hR:AG W f cs d) => Pn d tb ac cs f W hR) (fun(cs:List Value) (f:List Addr) (W:World) (hW:Below w w W) (hR:AG W f cs d) => OA d tb ac cs f W hR (hT.B hW)) (fun(c1 c2:List Value) (f1 f2:List Addr) (W:World) (h1:AG W f1 c1 d) (h2:AG W f2 c2 d) => PM d d c1 c2 f1 f2 W h1 h2);rw[aN (rfl:d=d)]at ad;obtain⟨lf,al⟩:∃lf,(1048576:Int) - (DH d:Int)=lf:=zJ;rw[al]at l a3;have a8:(!tb.toList == tb.toList)=false:=Lx rfl;clear u y ac al hT;go_enter func3,ntmps3
  go_wp2_with (refine aE rfl 35 _ rfl w 0 rfl cs _ ah.o underlying35 rfl HI.o ?_)
  refine l.o.M ?_;rintro e w3 ⟨rfl,b3⟩;have K3:=zq (HK.o.B b3 HK.o.lt);have B3:=zq (HB.o.T (b3.M HB.o.size));have aq:=zq (Blk.rangeAll K3.o);clear b3;go_wp2_with (refine aE rfl 35 _ rfl w 0 rfl cs _ aq.o underlying35 rfl HI.o ?_)
  refine(z.o _ B3.o).M ?_;rintro e w4 ⟨a6,f4,rfl,r4,a1,b4⟩;obtain⟨R4,K4,B4⟩:=zI r4 (K3.o.B b4 K3.o.lt) (B3.o.T (b4.M B3.o.size));clear r4 a1 b4;go_wp2_with fail
  refine(aw.o _ _ _ R4.o).M ?_;rintro e w5 ⟨rfl,b5⟩;have K5:=zq (K4.o.B b5 K4.o.lt);have B5:=zq (B4.o.T (b5.M B4.o.size));have ar:=zq (Blk.rangeAll K5.o);clear R4 b5;go_wp2_with (refine aE rfl 35 _ rfl w 0 rfl cs _ ar.o underlying35 rfl HI.o ?_)
  refine(z.o _ B5.o).M ?_;rintro e r ⟨i,f6,rfl,r6,a2,b6⟩;have R6:=zq r6;have c:=r6.next.2;obtain⟨K6,B6,am,ae,ap⟩:=zG (K5.o.B b6 K5.o.lt) (B5.o.T (b6.M B5.o.size)) (show(prog.info? 49).map (·.size)=some i.length by rw[c];kernel_rfl) (show(prog.info? 49).map (·.size)=some i.toArray.size by rw[bD,c];kernel_rfl) (all_oneCell_toArray (AG.ones _ _ _ _ r6));obtain⟨Z,hZ⟩:∃Z:Array Value,#[int i64 0,(),(),(),(),(),(),(),(),zQ,zQ,zQ,(),(),.bool false,zQ,zQ,zQ,(),()] =Z:=zJ;have ab:Z.size=20:=by rw[<-hZ];rfl
  have KZ:=Blk.new r 49 Z;have ax:=zq (Blk.there KZ i.toArray.size (by rw[bD,c,ab];exact aD _));obtain⟨w7,x⟩:∃w7,(r.alloc (.cells Z 49)).setCells r 0 i.toArray.toList=w7:=zJ;have kx:Blk w7 r 49 i.toArray:=by rw[<-x];exact Blk.laid KZ _ (by rw[ab];exact c.symm)
  have s:Below r r w7:=by rw[<-x];exact AS (Ac (aC _ _) _) _ 0 (aD _)
  obtain⟨ay,KX,R7,B7⟩:=zH x kx (AC.B AG.L AG.X R6.o s) (B6.o.T (s.M B6.o.size));obtain⟨K7,av,ao⟩:=zI (K6.o.B s K6.o.lt) (Blk.rangeAll kx) c;clear a2 b6 r6 c ab KZ x kx s;go_wp2_with (first
   |(refine aV rfl 49 _ _ rfl r 0 i.toArray rfl rfl ax.o ae.o ap.o ?_;rw[ay.o])
   |(refine aE rfl 49 _ rfl r 0 rfl i _ av.o underlying49 rfl am.o ?_))
  refine(an.o _ _ _ B7.o R7.o).M ?_;rintro e w8 ⟨rfl,b8⟩;obtain⟨aa,R8,K8,B8⟩:=zH (KX.o.B b8 KX.o.lt) (AC.B AG.L AG.X R7.o b8) (K7.o.B b8 K7.o.lt) (B7.o.T (b8.M B7.o.size));have HS:=zq (show∀W,Below w8 w8 W->(Sem.run prog (loadCellsFrom (zE r) 0 p #[]) W= .ok i.toArray W/\Sem.run prog (loadCellsFrom (zE w) 0 p #[]) W= .ok cs.toArray W)from fun W hW => by
   have e1:=aa.o.B hW aa.o.lt;have e2:=K8.o.B hW K8.o.lt;refine⟨run_loadCellsFrom_list _ _ _ i p (by rw[af.o];exact ao.o) (fun q v hq => ?_),run_loadCellsFrom_list _ _ _ cs p (by rw[af.o];exact ag.o) (fun q v hq => ?_)⟩
   ·rw[Addr.add_lit,e1.cell,Nat.zero_add,List.getElem?_toArray];exact hq
   ·rw[Addr.add_lit,e2.cell,Nat.zero_add,List.getElem?_toArray];exact hq)
  have bb:=aa.o.lt;have z8:=K8.o.lt;clear b8 R7 R6 hZ;go_wp2_with fail
  go_region_held3 (fun W => Sem.run prog (loadCellsFrom (zE r) 0 p #[]) W= .ok i.toArray W/\Sem.run prog (loadCellsFrom (zE w) 0 p #[]) W= .ok cs.toArray W)
   ((refine HS.o _ ?_;repeat(with_reducible first|assumption|exact aC _ _|apply Ac|apply Am)))
   (first
    |(go_at_call 6;refine(z.o _ (B8.o.T (Below.M yB B8.o.size))).M ?_;rintro e w9 ⟨a7,f9,rfl,r9,a9,b9⟩;have R9:=zq r9;have aj:=Below.viaQ (a:=w8) yB b9;have az:=zq (AC.B AG.L AG.X R8.o aj))
    |(go_at_call 8;refine(ad.o _ _ _ _ _ az.o R9.o).M ?_;rintro e ba ⟨rfl,a0⟩;have ai:=Below.viaQ (a:=w8) aj a0))
  all_goals
   go_wp2
   go_ret
   exact⟨rfl,B8.o.T (ai.M B8.o.size)⟩
theorem P0(d cs f w)(h:AG w f cs d)(c:Tab w):
  Calls prog 3 #[.agg cs] w (zN (.bool true) w) :=
 P5 20 rfl sizeOf49 isAgg49 sizeOf35 isAgg35 d cs f w h c
end Go.Proofs.YtofeknacbdcoaaaGreatDoor
namespace Go.Proofs.YtofeknacbdcoaaaGreatDoor
open Go.RowKit Go.ChangeShapes Go.WideShapes
theorem cut2(cs:List Value)(c e:Value)(f:cs.length=2)(h:(cs.drop 0).take 1= [c])(h1:(cs.drop 1).take 1= [e]):cs= [c,e]:=by
 match cs,f with
 | [c0,c1],_ => simp_all
theorem cut9(cs:List Value)(c e f h i l n o p:Value)(q:cs.length=9)(r:(cs.drop 0).take 1= [c])(h1:(cs.drop 1).take 1= [e])(s:(cs.drop 2).take 1= [f])(u:(cs.drop 3).take 1= [h])(h4:(cs.drop 4).take 1= [i])(x:(cs.drop 5).take 1= [l])(y:(cs.drop 6).take 1= [n])(z:(cs.drop 7).take 1= [o])(h8:(cs.drop 8).take 1= [p]):cs= [c,e,f,h,i,l,n,o,p]:=by
 match cs,q with
 | [c0,c1,c2,c3,c4,c5,c6,c7,c8],_ => simp_all
theorem cutW(cs:List Value)(l n o p q r s u x y c e f h i:Value)(hl:cs.length=15)(h0:(cs.drop 0).take 9= [l,n,o,p,q,r,s,u,x])(h9:(cs.drop 9).take 1= [y])(z:(cs.drop 10).take 1= [c])(aa:(cs.drop 11).take 1= [e])(ab:(cs.drop 12).take 1= [f])(ac:(cs.drop 13).take 1= [h])(ad:(cs.drop 14).take 1= [i]):cs= [l,n,o,p,q,r,s,u,x,y,c,e,f,h,i]:=by
 match cs,hl with
 | [c0,c1,c2,c3,c4,c5,c6,c7,c8,c9,c10,c11,c12,c13,c14],_ => simp_all
theorem OZ:Cg 23 EL:=by
 intro H aa W base c f e cs x h;have hl:cs.length=9:=(Ct underlying23 h).T zY;obtain⟨_,i,_,s,l0⟩:=AO underlying23 h 0 _ rfl (Bl underlying2);obtain⟨_,d1,_,u,l1⟩:=AO underlying23 h 1 _ rfl (Bl underlying2);obtain⟨_,d2,_,y,l2⟩:=AO underlying23 h 2 _ rfl (Bl underlying2);obtain⟨_,l,_,z,l3⟩:=AO underlying23 h 3 _ rfl (Bl underlying2);obtain⟨_,n,_,e4,l4⟩:=AO underlying23 h 4 _ rfl (Bl underlying2);obtain⟨_,o,_,e5,l5⟩:=AO underlying23 h 5 _ rfl (Bl underlying2);obtain⟨_,p,_,e6,l6⟩:=AO underlying23 h 6 _ rfl (Bl underlying2);obtain⟨_,q,_,e7,l7⟩:=AO underlying23 h 7 _ rfl (Bl underlying2);obtain⟨_,r,_,e8,l8⟩:=AO underlying23 h 8 _ rfl (Bl underlying2);exact⟨[],⟨i,d1,d2,l,n,o,p,q,r⟩,cut9 cs _ _ _ _ _ _ _ _ _ hl s u y z e4 e5 e6 e7 e8,rfl,l0,l1,l2,l3,l4,l5,l6,l7,l8⟩
theorem Md:Cg 25 (Ai 1 Aw):=CV underlying25 zY (Bl underlying2)
theorem P6:Cg 288 AK:=by
 intro H p W base c i f cs x h;have q:cs.length=2:=(Ct underlying288 h).T zY;obtain⟨_,l,_,n,l0⟩:=AO underlying288 h 0 _ rfl (Bl underlying2);obtain⟨e,d1,v,o,hb⟩:=AO underlying288 h 1 _ rfl Gw;exact⟨e,⟨l,d1⟩,v,e,cut2 cs _ _ q n o,rfl,l0,hb⟩
theorem OX:Cg 186 (Ai 2 AK):=CV underlying186 zY P6
theorem Qa:Cg 188 Ar:=by
 intro H p W base c i f cs x h;have q:cs.length=2:=(Ct underlying188 h).T zY;obtain⟨_,l,_,n⟩:=AO underlying188 h 0 _ rfl (Jq underlying4);obtain⟨e,d1,v,o,hb⟩:=AO underlying188 h 1 _ rfl OX;exact⟨e,⟨l,d1⟩,v,e,cut2 cs _ _ q n o,rfl,hb⟩
theorem OY:Cg 135 (Ai 2 Ar):=CV underlying135 zY Qa
theorem NQ:Cg 24 (Ai 1 (Ai 2 Ar)):=CV underlying24 zY OY
theorem TH:Cg 239 Af:=by
 intro H aa W base c n l cs x h;have hl:cs.length=9:=(Ct underlying239 h).T zY;obtain⟨_,o,_,z,l0⟩:=AO underlying239 h 0 _ rfl (Bl underlying2);obtain⟨_,d1,_,e1,l1⟩:=AO underlying239 h 1 _ rfl (Bl underlying2);obtain⟨_,d2,_,e2,l2⟩:=AO underlying239 h 2 _ rfl (Nv underlying9);obtain⟨_,p,_,e3,l3⟩:=AO underlying239 h 3 _ rfl (Bl underlying2);obtain⟨_,q,_,e4,l4⟩:=AO underlying239 h 4 _ rfl (Bl underlying2);obtain⟨_,r,_,e5,l5⟩:=AO underlying239 h 5 _ rfl (Bl underlying2);obtain⟨e,s,v6,e6,h6⟩:=AO underlying239 h 6 _ rfl Md;obtain⟨f,u,v7,e7,h7⟩:=AO underlying239 h 7 _ rfl Gw;obtain⟨i,y,v8,e8,h8⟩:=AO underlying239 h 8 _ rfl Gw;exact⟨e ++(f ++ i),⟨o,d1,d2,p,q,r,s,u,y⟩,v6,v7,v8,e,f,i,cut9 cs _ _ _ _ _ _ _ _ _ hl z e1 e2 e3 e4 e5 e6 e7 e8,rfl,l0,l1,l2,l3,l4,l5,h6,h7,h8⟩
theorem Sc:Cg 137 (Ai 9 Af):=CV underlying137 zY TH
theorem Sd:Cg 139 AE:=by
 intro H p W base c i f cs x h;have q:cs.length=2:=(Ct underlying139 h).T zY;obtain⟨_,l,_,n⟩:=AO underlying139 h 0 _ rfl (Jq underlying4);obtain⟨e,d1,v,o,hb⟩:=AO underlying139 h 1 _ rfl Sc;exact⟨e,⟨l,d1⟩,v,e,cut2 cs _ _ q n o,rfl,hb⟩
theorem Qb:Cg 26 (Ai 2 AE):=CV underlying26 zY Sd
theorem Qc:Cg 28 AF:=by
 intro H aa W base e o n cs x h;have hl:cs.length=15:=(Ct underlying28 h).T zY;obtain⟨_,p,y,_,l0,l1,l2,l3,l4,l5,l6,l7,l8⟩:=AO underlying28 h 0 _ rfl OZ;obtain⟨f,d1,v1,z,h1⟩:=AO underlying28 h 1 _ rfl NQ;obtain⟨i,d2,v2,e2,h2⟩:=AO underlying28 h 2 _ rfl Md;obtain⟨l,q,v3,e3,h3⟩:=AO underlying28 h 3 _ rfl Qb;obtain⟨_,r,_,e4,l9⟩:=AO underlying28 h 4 _ rfl (Bl underlying2);obtain⟨_,s,_,e5,c⟩:=AO underlying28 h 5 _ rfl (Bl underlying2);obtain⟨_,u,_,e6⟩:=AO underlying28 h 6 _ rfl (Jq underlying4);exact⟨f ++(i ++ l),⟨p,d1,d2,q,r,s,u⟩,v1,v2,v3,f,i,l,cutW cs _ _ _ _ _ _ _ _ _ _ _ _ _ _ _ hl y z e2 e3 e4 e5 e6,rfl,l0,l1,l2,l3,l4,l5,l6,l7,l8,l9,c,h1,h2,h3⟩
theorem cut4(cs:List Value)(c e f h:Value)(i:cs.length=4)(l:(cs.drop 0).take 1= [c])(h1:(cs.drop 1).take 1= [e])(n:(cs.drop 2).take 1= [f])(o:(cs.drop 3).take 1= [h]):cs= [c,e,f,h]:=by
 match cs,i with
 | [c0,c1,c2,c3],_ => simp_all
theorem cut5(cs:List Value)(c e f h i:Value)(l:cs.length=5)(n:(cs.drop 0).take 1= [c])(h1:(cs.drop 1).take 1= [e])(o:(cs.drop 2).take 1= [f])(p:(cs.drop 3).take 1= [h])(h4:(cs.drop 4).take 1= [i]):cs= [c,e,f,h,i]:=by
 match cs,l with
 | [c0,c1,c2,c3,c4],_ => simp_all
theorem O0:Cg 141 Ag:=by
 intro H r W base c f e cs x h;have s:cs.length=4:=(Ct underlying141 h).T zY;obtain⟨_,i,_,n,l0⟩:=AO underlying141 h 0 _ rfl (Bl underlying2);obtain⟨_,d1,_,o,l1⟩:=AO underlying141 h 1 _ rfl (Bl underlying2);obtain⟨_,d2,_,p,l2⟩:=AO underlying141 h 2 _ rfl (Nv underlying9);obtain⟨_,l,_,q,u⟩:=AO underlying141 h 3 _ rfl (Bl underlying2);exact⟨[],⟨i,d1,d2,l⟩,cut4 cs _ _ _ _ s n o p q,rfl,l0,l1,l2,u⟩
theorem JD:Cg 30 (Ai 4 Ag):=CV underlying30 zY O0
theorem MP:Cg 29 (Ai 1 (Ai 4 Ag)):=CV underlying29 zY JD
theorem OW:Cg 144 AB:=by
 intro H s W base c i f cs x h;have y:cs.length=4:=(Ct underlying144 h).T zY;obtain⟨_,l,_,o,l0⟩:=AO underlying144 h 0 _ rfl (Bl underlying2);obtain⟨_,d1,_,p,l1⟩:=AO underlying144 h 1 _ rfl (Bl underlying2);obtain⟨_,d2,_,q,l2⟩:=AO underlying144 h 2 _ rfl (Bl underlying2);obtain⟨e,n,z,r,u⟩:=AO underlying144 h 3 _ rfl Gw;exact⟨e,⟨l,d1,d2,n⟩,z,e,cut4 cs _ _ _ _ y o p q r,rfl,l0,l1,l2,u⟩
theorem NO:Cg 31 (Ai 4 AB):=CV underlying31 zY OW
theorem Sb:Cg 33 Bb:=by
 intro H aa W base c n l cs x h;have hl:cs.length=5:=(Ct underlying33 h).T zY;obtain⟨e,o,v0,r,h0⟩:=AO underlying33 h 0 _ rfl MP;obtain⟨f,d1,v1,s,h1⟩:=AO underlying33 h 1 _ rfl JD;obtain⟨i,d2,v2,u,h2⟩:=AO underlying33 h 2 _ rfl NO;obtain⟨_,p,_,y,l3⟩:=AO underlying33 h 3 _ rfl (Bl underlying2);obtain⟨_,q,_,z,l4⟩:=AO underlying33 h 4 _ rfl (Bl underlying2);exact⟨e ++(f ++ i),⟨o,d1,d2,p,q⟩,v0,v1,v2,e,f,i,cut5 cs _ _ _ _ _ hl r s u y z,rfl,l3,l4,h0,h1,h2⟩
theorem NP:Cg 35 AG:=by
 intro H l W base c i f cs x h;have r:cs.length=20:=(Ct underlying35 h).T zY;obtain⟨n,d1,p⟩:=AO underlying35 h 0 _ rfl Qc;obtain⟨o,d2,q⟩:=AO underlying35 h 1 _ rfl Sb;have e:cs=(cs.drop 0).take 15 ++(cs.drop 15).take 5:=by
  match cs,r with
  | [c0,c1,c2,c3,c4,c5,c6,c7,c8,c9,c10,c11,c12,c13,c14,c15,c16,c17,c18,c19],_ => rfl
 refine⟨n ++ o,⟨d1,d2⟩,?_⟩;rw[e];exact AG.of (d:=⟨d1,d2⟩) p q
theorem lawFm_w {v:Value}{fs d W}(h:∃cs:Array Value,v= .agg cs/\AG W fs cs.toList d)(c:Tab W):
  Calls prog 3 #[v] W (zN (.bool true) W):=by
 obtain⟨⟨cs⟩,rfl,h⟩:=h;exact P0 d cs fs W h c
end Go.Proofs.YtofeknacbdcoaaaGreatDoor
namespace Go.Proofs.YtofeknacbdcoaaaGreatDoor.fnExactFormatArchive
open Go.ChangeShapes Go.WideShapes Go.ChangeAt Go.RowKit
set_option linter.unusedVariables false
theorem closed:joinedFacts prog 3 Tryz.f3 Rows.fnExactFormatArchiveSpec Rows.fnExactFormatArchiveRow=true:=by
 unfold joinedFacts;repeat' (with_reducible refine Bool.and_eq_true_iff.2 ⟨?_,?_⟩)
 all_goals (as_aux_lemma => kernel_rfl)
end Go.Proofs.YtofeknacbdcoaaaGreatDoor.fnExactFormatArchive
