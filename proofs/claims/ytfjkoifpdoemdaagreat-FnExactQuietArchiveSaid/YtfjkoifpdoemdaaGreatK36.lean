/-
  Part 36 of the proof; the last part states and proves the statement.
-/
import Derived.Test.YtfjkoifpdoemdaaGreatK26
import Derived.Test.YtfjkoifpdoemdaaGreatK33
import Derived.Test.YtfjkoifpdoemdaaGreatK34
set_option maxHeartbeats 8000000
set_option maxRecDepth 100000
set_option linter.unusedVariables false
set_option linter.unusedSimpArgs false
open Go.Value (int)
open Go.IntKind (i64)
namespace Go.Proofs.YtfjkoifpdoemdaaGreat
open Go.RowKit Go.Lib Go.Sort
def I5 {α:Type}(R:Ap α):Prop:=∀w f cs d,R w f cs d→∀a,a∈f→(w.cell? a).isSome =true
theorem rSl.seen {α:Type} {k:Nat} {R:Ap α}(hR:I5 R) {w:World} {fs:List Addr} {v:Value} {ds:List α}(h:rSl k R w fs v ds):∀a,a∈fs→(w.cell? a).isSome =true:=by
 obtain⟨A,c,e,h1,h2,h3⟩:=h;rcases h3 with⟨_,rfl⟩|⟨ad,css,fss,e1,e2,e3,rfl,h3⟩
 ·intro a ha;cases ha
 ·intro a ha;rcases List.mem_append.1 ha with ha|ha
  ·obtain⟨q,hq,rfl⟩:=BH.1 ha;have hk:0<k:=by
    rcases Nat.eq_zero_or_pos k with e|e
    ·subst e;simp at hq
    ·exact e
   have hi:q / k<ds.length:=by rw[Nat.div_lt_iff_lt_mul hk];exact hq
   obtain⟨q1,q2,q3,q4,q5⟩:=h3 (q / k) hi;have hm:q % k<k:=Nat.mod_lt _ hk;have:=q4 (q % k) (by rw[q3];exact hm);rw[show q / k * k+q % k=q from by rw[Nat.mul_comm];exact Nat.div_add_mod q k]at this;rw[this];rfl
  ·obtain⟨l,hl,hal⟩:=List.mem_flatten.1 ha;obtain⟨i,hi,rfl⟩:=List.getElem_of_mem hl;obtain⟨q1,q2,q3,q4,q5⟩:=h3 i (by omega);exact hR _ _ _ _ q5 a hal
theorem Al.seen:I5 Al:=fun w f cs d h a ha => by rw[h.1]at ha;cases ha
theorem Av.seen:I5 Av:=fun w f cs d h a ha => by rw[h.1]at ha;cases ha
theorem Ac.seen:I5 Ac:=by
 rintro w f cs d ⟨v0,v1,v2,f0,f1,f2,-,rfl,-,-,-,-,-,-,r0,r1,r2⟩ a ha;rcases List.mem_append.1 ha with ha|ha
 ·exact rSl.seen Al.seen r0 a ha
 ·rcases List.mem_append.1 ha with ha|ha
  ·exact rSl.seen Av.seen r1 a ha
  ·exact rSl.seen Av.seen r2 a ha
theorem addNumLV {w:World} {B M:Nat} {ids D2:List Int} {A:Option Addr} {n c:Nat} {u:Value} {gs:List Addr}(h:Cw w B M ids A n c)(hBM:B≤M)(hR:rSl 1 Al w gs u D2)(hf:∀a,a∈gs→a.block<M∧a.block≠B)(hn:ids.length+D2.length≤1000000000) :
  ∃v' w',(Builtin.append_ #[25,25] 25 #[.slice A n c,u]).run Tryz.prog w= .ok v' w'∧∃A' c',v'= .slice A' (n+D2.length) c'∧Cw w' B M (ids ++ D2) A' (n+D2.length) c'∧Below B w w'∧w.heap.size≤w'.heap.size∧(∀k,k<M→k≠B→w'.heap[k]? =w.heap[k]?):=by
 obtain⟨v',w',q1,A',c',rfl,o9,b9,s9,k9,j9⟩:=Ks h.own hR (fun a ha e => by
  have:=hf a ha;rcases h.at_ _ e with q|q
  ·exact this.2 q
  ·omega) hn (Nat.le_trans hBM h.size)
 obtain⟨e,-,-⟩:=h.len;rw[← e]at o9 q1 j9;refine⟨_,w',q1,A',c',rfl,⟨o9,fun k hk => ?_,Nat.le_trans h.size s9⟩,b9,s9,fun k hk hne => ?_⟩
 ·rcases j9 k hk with q|q
  ·exact h.at_ k q
  ·exact .inr (Nat.le_trans h.size q)
 ·refine k9 k (Nat.lt_of_lt_of_le hk h.size) fun e => ?_
  rcases h.at_ k e with q|q
  ·exact hne q
  ·omega
theorem JT {groups g:Int} {L:List Ag}(h:∀x,x∈L→x.rows.length≤100):(Ca groups g L).length≤L.length * 100:=by
 induction L with
 |nil => exact Nat.le_refl _
 |cons x L ih =>
  have h1:=ih fun y hy => h y (List.mem_cons_of_mem _ hy)
  have h2:=h x (List.mem_cons_self ..);unfold Ca at h1⊢;rw[List.filter_cons];split
  ·rw[List.flatMap_cons,List.length_append,List.length_cons];omega
  ·rw[List.length_cons];omega
theorem JS(g:Int)(all:List Ag):(Cy g all).length≤all.length:=by
 unfold Cy;rw[List.length_map];exact List.length_filter_le _ _
theorem H5 {groups g:Int} {L:List Ag}(h:∀x,x∈L→x.rows.length≤100)(hl:L.length≤1000000)(i:Nat):(Ca groups g (L.take i)).length≤100000000:=by
 have h1:=JT (groups:=groups) (g:=g) (L:=L.take i) fun x hx => h x (List.mem_of_mem_take hx)
 have h2:(L.take i).length≤L.length:=by rw[List.length_take];exact Nat.min_le_right _ _
 omega
theorem MC {w:World} {g0:Nat} {x0 x1 x2 x3 x4 x5 x6 x7 x8:Value}(h:Blk w g0 31 #[x0,x1,x2,x3,x4,x5,x6,x7,x8])(ks:Nat)(hks:ks=9) :
  Sem.run Tryz.prog (loadCellsFrom ⟨g0,0,none⟩ 0 ks #[]) w= .ok #[x0,x1,x2,x3,x4,x5,x6,x7,x8] w :=
 run_loadCellsFrom_list _ _ _ [x0,x1,x2,x3,x4,x5,x6,x7,x8] ks (by rw[hks];rfl) (fun q v hq => by
  rw[Addr.add_lit,h.cell,Nat.zero_add];simpa using hq)
theorem l6Free_k(ks:Nat)(hks:ks=9)(zS:∀w,(Go.sizeOf 31).run Tryz.prog w= .ok ks w)(aS:∀w,(isAgg 31).run Tryz.prog w= .ok true w)(s:Sh)(hok:s.Ok)(g:Int)(v:Value)(all:List Ag)(f:List Addr)(w:World)(h:rSl 9 Ac w f v all)(hsm:all.length≤1000000)(hle:∀r,r∈all→r.kind=1→r.length= -1∨0≤r.length)
  (hnm:∀r,r∈all→r.name.size≤1000000) (hrl:∀r,r∈all→r.kind=1→r.rows.length≤100) :
  Calls Tryz.prog 199 #[shV s,v,int i64 g] w fun e w' =>∃L A n c,BS all L∧e= .returned (.slice A n c)∧n=(CW s.rows.toNat (Ca s.g g L ++ Cy g all)).length∧n≤c∧c≤9223372036854775807∧Below w.heap.size w w':=by
 obtain⟨g0,hg0⟩:∃g0,w.heap.size=g0:=⟨_,rfl⟩;obtain⟨W1,hW1⟩:∃W1,(w.alloc (.cells #[int i64 s.g,int i64 s.c,int i64 s.data,int i64 s.p,int i64 s.rows,int i64 s.cap,int i64 s.b,int i64 s.q,int i64 s.t] 31)).alloc (.cells #[] 2)=W1:=⟨_,rfl⟩;have hB1:Below g0 w W1:=by rw[← hW1,← hg0];exact Ah (Ah (Below.refl _ _) _) _
 have K0:Blk W1 g0 31 #[int i64 s.g,int i64 s.c,int i64 s.data,int i64 s.p,int i64 s.rows,int i64 s.cap,int i64 s.b,int i64 s.q,int i64 s.t]:=by rw[← hW1,← hg0];exact(Blk.new w _ _).alloc _
 have K1:Blk W1 (g0+1) 2 #[]:=by rw[← hW1,← hg0];exact Blk.new1 w _ _ _
 have z1:W1.heap.size=g0+2:=by rw[← hW1,← hg0];simp
 have h1:=rSl.below Ac.local_ Ac.fixed h (by rw[hg0];exact hB1:Below w.heap.size w W1);have HL:=hid (Jv 9 rfl Tryz.sizeOf119 Tryz.isAgg119 v all f W1 h1 hsm hle);have HT:=hid (show∀a,a∈f→a.block<g0 from by rw[← hg0];exact rSl.there Ac.fixed h);obtain⟨A0,c0,rfl,hc0,hm0,hx0⟩:=rSl.at_ Ac.fixed (by omega) h1;have HX0:=hid hx0;have hho:=fun nm hn W => GT s hok nm hn W
 unfold shV at hho;have HHO:=hid hho;have HNM:=hid hnm;have HRL:=hid hrl;have HG:=hid hg0;have HB1:=hid hB1;have HK0:=hid K0;have HK1:=hid K1;have HZ1:=hid z1;have HKS9:=hid hks;have hks0:¬ks=0:=by omega
 have hks1:0<ks:=by omega
 obtain⟨nr,hnr⟩:∃nr:Nat,s.rows=(nr:Int):=⟨s.rows.toNat,by have:=hok.rows.1;omega⟩;have hnr6:nr≤6:=by have:=hok.rows.2;omega
 have HNR:=hid hnr;unfold shV;rw[show s.rows.toNat=nr by omega];clear hx0 h h1 hho hnm hrl hB1 K0 K1 hle hnr hks;go_enter Tryz.func199,Tryz.ntmps199
 go_wp2_with (go_at_call 75;refine HL.out.mono ?_;rintro e w2 ⟨L,A,c,fl,rfl,hlv,rl,b2⟩;have HLV:=hid hlv;have RL:=hid rl;have B2:=hid b2;clear hlv rl b2)
 clear hW1 hg0;obtain⟨A',c',ev,hc,hm,hx⟩:=rSl.at_ Ac.fixed (by omega) RL.out;injection ev with ev1 ev2 ev3
 subst ev1 ev3;have hk1w2:Blk w2 (g0+1) 2 #[]:=HK1.out.below B2.out HK1.out.lt;have hne:∀a,a∈fl→a.block≠g0+1:=fun a ha e => by
  have h1:=rSl.seen Ac.seen RL.out a ha;obtain⟨u,hu⟩:=Option.isSome_iff_exists.1 h1;obtain⟨b,o,rfl⟩:=KH hu;simp only at e;subst e;rw[hk1w2.cell]at hu;simp at hu
 have HNE:=hid hne;have HTL:=hid (rSl.there Ac.fixed RL.out);have HX:=hid hx;have HXL:=hid (show∀x,x∈L→x.name.size≤1000000∧x.rows.length≤100 from fun x hx => by
  obtain⟨h1,h2,-⟩:=DI ((HLV.out.mem x).1 hx);exact⟨HNM.out x h1,HRL.out x h1 h2⟩)
 have hLl:L.length≤1000000:=Nat.le_trans (EV L all (HLV.out.sorted.imp (fun {a b} hab e => by subst e;exact Ea a hab)) fun x hx =>(DI ((HLV.out.mem x).1 hx)).1) hsm;have hz2:g0+2≤w2.heap.size:=by have:=B2.out.size;have:=HZ1.out;omega
 have HBW2:=hid (show Below g0 w w2 from HB1.out.trans (B2.out.mono (by have:=HZ1.out;omega)));have HN0:=hid (show Cw w2 (g0+1) w2.heap.size (Ca s.g g (L.take 0)) (some ⟨g0+1,0,none⟩) 0 0 from⟨Ao.start ⟨rfl,.inr ⟨g0+1,0,#[],rfl,Nat.le_refl _,hk1w2,Nat.le_refl _,by unfold maxLen;omega,rfl,rfl⟩⟩,fun k hk => by injection hk with hk;exact .inl hk.symm,Nat.le_refl _⟩);have HK02:=hid (HK0.out.below B2.out HK0.out.lt);clear hx hk1w2 hne ev2 hm HNM HRL HL z1;go_loopw [9,7] (fun ix uv wx =>∃(i n c':Nat) (A':Option Addr),i≤L.length∧ix= int i64 i∧uv= .slice A' n c'∧Hid (Cw wx (g0+1) w2.heap.size (Ca s.g g (L.take i)) A' n c')∧Hid (∀k,k<w2.heap.size→k≠g0+1→wx.heap[k]? =w2.heap[k]?)∧Hid (Below g0 w wx)) (fun ix _ _ => L.length - (intOf ix).toNat)
 case atStart => exact⟨0,0,0,_,by omega,rfl,rfl,HN0.out,fun k _ _ => rfl,HBW2.out⟩
 case round =>
  clear HN0 HBW2;obtain⟨i,n,c',A',hi,rfl,rfl,HN,HSA,HB⟩:=hrel;by_cases hlt:i<L.length
  ·obtain⟨ad,b3,o3,cs3,f3,rfl,hat⟩:=HX.out i hlt;have hpl3:=hat.place;have hbl3:b3<w2.heap.size:=hat.lt;have hnb:b3≠g0+1:=by have:=HNE.out _ (hat.mem 0 (by omega));exact this
   have hcell:∀a:Addr,a.block<w2.heap.size→a.block≠g0+1→wr.cell? a=w2.cell? a:=fun a h1 h2 => World.cell?_of_block (HSA.out _ h1 h2)
   have hlen:cs3.length=9:=hat.len;have hrds:=hat.reads;have hsub:=hat.sub;have hth:=hat.there;obtain⟨x,hxe⟩:∃x,L[i] =x:=⟨_,rfl⟩;have hLx:=HXL.out _ (List.getElem_mem hlt);have HST:=hid (Hz s.g g hlt);rw[hxe]at hrds hLx HST;dsimp only[Ac]at hrds;obtain⟨v0,v1,v2,q0,q1,q2,e,hf3,-,-,-,-,-,-,r0,-,-⟩:=hrds;obtain⟨Ar,cr,rfl,hcr,hmr⟩:=rSl.head r0;have y2:wr.cell? ⟨b3,o3+2,none⟩=some (.string x.name):=(hcell _ hbl3 hnb).trans ((hat.cell 2 (by rw[hlen];omega)).trans (by simp only[e];rfl));have y6:wr.cell? ⟨b3,o3+6,none⟩=some (.slice Ar x.rows.length cr):=(hcell _ hbl3 hnb).trans ((hat.cell 6 (by rw[hlen];omega)).trans (by simp only[e];rfl));have hf0:∀a,a∈q0→a.block<w2.heap.size∧a.block≠g0+1:=fun a ha => by
    have h1:a∈f3:=by rw[hf3];exact List.mem_append_left _ ha
    exact⟨hth a h1,HNE.out a (hsub a h1)⟩
   have r0w:=rSl.keep Al.local_ r0 (fun a ha => hcell a (hf0 a ha).1 (hf0 a ha).2);have HAP:=hid (fun(W:World) (hW:Below wr.heap.size wr W) => addNumLV (HN.out.below hW) (by omega) (rSl.below Al.local_ Al.fixed r0w hW) hf0 (by have:=H5 (groups:=s.g) (g:=g) (fun x hx =>(HXL.out x hx).2) hLl i;omega));have hki:(i:Int)<(L.length:Int):=by omega
   have hwz:b3<wr.heap.size:=Nat.lt_of_lt_of_le hbl3 HN.out.size;have k0:Blk wr g0 31 #[int i64 s.g,int i64 s.c,int i64 s.data,int i64 s.p,int i64 s.rows,int i64 s.cap,int i64 s.b,int i64 s.q,int i64 s.t]:=(HSA.out g0 (by omega) (by omega)).trans HK02.out;have lS:∀dd os,Sem.run Tryz.prog (loadCellsFrom ⟨g0,0,none⟩ 0 ks #[]) (grow (redrawn wr dd) os)= .ok #[int i64 s.g,int i64 s.c,int i64 s.data,int i64 s.p,int i64 s.rows,int i64 s.cap,int i64 s.b,int i64 s.q,int i64 s.t] (grow (redrawn wr dd) os):=fun dd os => MC (k0.below (below_regrown wr dd os) k0.lt) ks HKS9.out
   have y2r:=cell_regrown y2;have hz0:=k0.lt;have QH:=hid (AF (w:=wr) (fun W _ => HHO.out x.name hLx.1 W));clear hat hcell hsub hth hxe r0 r0w hf0 k0 hmr;by_cases qh:Cr s.g x.name=g
   ·rw[if_pos qh]at HST;have hh:(Cr s.g x.name == g)=true:=by simpa using qh
    clear qh;go_wp2_with fail
    (refine wp_region_quiet_below (by kernel_rfl) (by kernel_rfl) ?_;(repeat(first|go_big_quiet_step (first|(go_at_call 133;exact QH.out _ _))|quiet_step (first|(go_at_call 133;exact QH.out _ _))));refine wpQuiet_nil ?_)
    rintro _ ⟨⟨dq,osq⟩,rfl⟩;have b23:Below wr.heap.size wr (grow (redrawn wr dq) osq):=below_regrown wr dq osq;obtain⟨W3,hW3⟩:∃W3,grow (redrawn wr dq) osq=W3:=⟨_,rfl⟩;simp only[hW3]at b23⊢;have y6':=(b23.cell (p:=⟨b3,o3+6,none⟩) hwz).trans y6;have HAP3:=hid (HAP.out W3 b23);have B23:=hid b23;clear y2 y6 y2r lS QH b23 hW3 HAP;go_wp2_with (at_builtin;refine AQ rfl (.tmp 31) (.tmp 36) 25 rfl _ _ (by rfl) (by rfl) HAP3.out ?_;rintro v8 w8 ⟨A8,c8,rfl,o8,b8,s8,k8⟩;have O8:=hid o8;have B8:=hid b8;have K8:=hid k8;clear o8 b8 s8 k8)
    go_roundw
    case rel => exact⟨i+1,_,c8,A8,by omega,by go_num,rfl,by rw[HST.out];exact O8.out,fun k h1 h2 =>(K8.out k h1 h2).trans ((B23.out.block k (Nat.lt_of_lt_of_le h1 HN.out.size)).trans (HSA.out k h1 h2)),HB.out.trans ((B23.out.mono (by omega)).trans (B8.out.mono (by omega)))⟩
    case measure => simp[intOf];omega
   ·rw[if_neg qh,List.append_nil]at HST;have hh:(Cr s.g x.name == g)=false:=by simpa using qh
    clear qh;go_wp2_with fail
    (refine wp_region_quiet_below (by kernel_rfl) (by kernel_rfl) ?_;(repeat(first|go_big_quiet_step (first|(go_at_call 133;exact QH.out _ _))|quiet_step (first|(go_at_call 133;exact QH.out _ _))));refine wpQuiet_nil ?_)
    rintro _ ⟨⟨dq,osq⟩,rfl⟩;have b23:Below wr.heap.size wr (grow (redrawn wr dq) osq):=below_regrown wr dq osq;obtain⟨W3,hW3⟩:∃W3,grow (redrawn wr dq) osq=W3:=⟨_,rfl⟩;simp only[hW3]at b23⊢;have B23:=hid b23;clear y2 y6 y2r lS QH b23 hW3 HAP;go_wp2_with fail
    go_roundw
    case rel => exact⟨i+1,n,c',A',by omega,by go_num,rfl,by rw[HST.out];exact HN.out.below B23.out,fun k h1 h2 =>(B23.out.block k (Nat.lt_of_lt_of_le h1 HN.out.size)).trans (HSA.out k h1 h2),HB.out.trans (B23.out.mono (by omega))⟩
    case measure => simp[intOf];omega
  ·obtain rfl:i=L.length:=by omega
   have HN1:=hid (show Cw wr (g0+1) w2.heap.size (Ca s.g g L ++ Cy g (all.take 0)) A' n c' from by
    have:=HN.out;rw[List.take_length]at this;show Cw wr (g0+1) w2.heap.size (Ca s.g g L ++ []) A' n c'
    rw[List.append_nil];exact this)
   have KS:=hid (show Blk wr g0 31 #[int i64 s.g,int i64 s.c,int i64 s.data,int i64 s.p,int i64 s.rows,int i64 s.cap,int i64 s.b,int i64 s.q,int i64 s.t]from(HSA.out g0 (by omega) (by omega)).trans HK02.out);clear HN HSA HX HK02;go_wp2_with fail
   go_loopw [10,7] (fun ix uv wx =>∃(i n c':Nat) (A':Option Addr),i≤all.length∧ix= int i64 i∧uv= .slice A' n c'∧Hid (Cw wx (g0+1) w2.heap.size (Ca s.g g L ++ Cy g (all.take i)) A' n c')∧Hid (Blk wx g0 31 #[int i64 s.g,int i64 s.c,int i64 s.data,int i64 s.p,int i64 s.rows,int i64 s.cap,int i64 s.b,int i64 s.q,int i64 s.t])∧Hid (Below g0 w wx)) (fun ix _ _ => all.length - (intOf ix).toNat)
   case atStart => exact⟨0,n,c',A',by omega,rfl,rfl,HN1.out,KS.out,HB.out⟩
   case round =>
    clear HN1 KS HB;obtain⟨i,n,c',A',hi,rfl,rfl,HN,HK,HB⟩:=hrel;by_cases hlt:i<all.length
    ·obtain⟨ad,b3,o3,cs3,f3,rfl,hat⟩:=HX0.out i hlt;have hpl3:=hat.place;have hbg:b3<g0:=by have:=HT.out _ (hat.mem 0 (by omega));exact this
     have hcell:∀a:Addr,a.block<g0→wr.cell? a=W1.cell? a:=fun a h1 =>(HB.out.cell h1).trans (HB1.out.cell h1).symm
     have hlen:cs3.length=9:=hat.len;have hrds:=hat.reads;obtain⟨x,hxe⟩:∃x,all[i] =x:=⟨_,rfl⟩;have HST:=hid (Hy g hlt);rw[hxe]at hrds HST;dsimp only[Ac]at hrds;obtain⟨v0,v1,v2,q0,q1,q2,e,-,-,-,-,-,-,okr,-⟩:=hrds;have y0:wr.cell? ⟨b3,o3,none⟩=some (int i64 x.kind):=(hcell _ hbg).trans ((hat.cell 0 (by rw[hlen];omega)).trans (by simp only[e];rfl));have y4:wr.cell? ⟨b3,o3+4,none⟩=some (int i64 x.group):=(hcell _ hbg).trans ((hat.cell 4 (by rw[hlen];omega)).trans (by simp only[e];rfl));have y5:wr.cell? ⟨b3,o3+5,none⟩=some (int i64 x.row):=(hcell _ hbg).trans ((hat.cell 5 (by rw[hlen];omega)).trans (by simp only[e];rfl));have hul:=H5 (groups:=s.g) (g:=g) (fun x hx =>(HXL.out x hx).2) hLl L.length;rw[List.take_length]at hul;have hal:=JS g (all.take i);have htl:(all.take i).length≤all.length:=by rw[List.length_take];exact Nat.min_le_right _ _
     have HAP:=hid (H6 HN.out (by omega) okr (by rw[List.length_append];omega));have HA1:=hid (show Below wr.heap.size wr (wr.alloc (.cells #[int i64 x.row] 2))from Ah (Below.refl _ _) _);have hki:(i:Int)<(all.length:Int):=by omega
     have hwz:b3<wr.heap.size:=by have:=HK.out.lt;omega
     clear hat hcell hxe okr hul hal htl;by_cases qk:x.kind=2
     ·have hk2:(x.kind == 2)=true:=by simpa using qk
      have hk4:(x.kind == 4)=false:=by rw[qk];rfl
      by_cases qg:x.group=g
      ·have hgg:(x.group == g)=true:=by simpa using qg
       rw[if_pos (by unfold Ec;simp[qk,qg])]at HST;clear qk qg;go_wp2_with (at_builtin;refine AQ rfl (.tmp 67) (.tmp 73) 25 rfl _ _ (by rfl) (by rfl) HAP.out ?_;rintro v8 w8 ⟨A8,c8,rfl,o8,b8,s8,k8⟩;have O8:=hid o8;have B8:=hid b8;have K8:=hid k8;clear o8 b8 s8 k8)
       go_roundw
       case rel => exact⟨i+1,_,c8,A8,by omega,by go_num,rfl,by rw[HST.out,← List.append_assoc];exact O8.out,(K8.out g0 (by omega) (by omega)).trans HK.out,HB.out.trans (B8.out.mono (by omega))⟩
       case measure => simp[intOf];omega
      ·have hgg:(x.group == g)=false:=by simpa using qg
       rw[if_neg (by unfold Ec;simp[qk,qg]),List.append_nil]at HST;clear qk qg HAP;go_wp2_with fail
       go_roundw
       case rel => exact⟨i+1,n,c',A',by omega,by go_num,rfl,by rw[HST.out];exact HN.out,HK.out,HB.out⟩
       case measure => simp[intOf];omega
     ·have hk2:(x.kind == 2)=false:=by simpa using qk
      by_cases q4:x.kind=4
      ·have hk4:(x.kind == 4)=true:=by simpa using q4
       rw[if_pos (by unfold Ec;simp[q4])]at HST;clear qk q4;go_wp2_with (at_builtin;refine AQ rfl (.tmp 67) (.tmp 73) 25 rfl _ _ (by rfl) (by rfl) HAP.out ?_;rintro v8 w8 ⟨A8,c8,rfl,o8,b8,s8,k8⟩;have O8:=hid o8;have B8:=hid b8;have K8:=hid k8;clear o8 b8 s8 k8)
       go_roundw
       case rel => exact⟨i+1,_,c8,A8,by omega,by go_num,rfl,by rw[HST.out,← List.append_assoc];exact O8.out,(K8.out g0 (by omega) (by omega)).trans HK.out,HB.out.trans (B8.out.mono (by omega))⟩
       case measure => simp[intOf];omega
      ·have hk4:(x.kind == 4)=false:=by simpa using q4
       rw[if_neg (by unfold Ec;simp[qk,q4]),List.append_nil]at HST;clear qk q4 HAP;go_wp2_with fail
       go_roundw
       case rel => exact⟨i+1,n,c',A',by omega,by go_num,rfl,by rw[HST.out];exact HN.out,HK.out,HB.out⟩
       case measure => simp[intOf];omega
    ·obtain rfl:i=all.length:=by omega
     obtain⟨U,hU⟩:∃U,Ca s.g g L ++ Cy g all=U:=⟨_,rfl⟩;have hnv:Cw wr (g0+1) w2.heap.size U A' n c':=by
      have:=HN.out;rw[List.take_length,hU]at this;exact this
     have HU:=hid hU;obtain⟨gu,hru,-⟩:=hnv.own.reads;rw[List.append_nil]at hru;obtain⟨g5,hg5⟩:∃g5,wr.heap.size=g5:=⟨_,rfl⟩;have ht5:g0<g5:=by have:=HK.out.lt;omega
     obtain⟨w5,hw5⟩:∃w5,wr.alloc (.cells #[] 2)=w5:=⟨_,rfl⟩;have b5:Below g5 wr w5:=by rw[← hw5,← hg5];exact Ah (Below.refl _ _) _
     have z5:w5.heap.size=g5+1:=by rw[← hw5,← hg5];simp
     have HO5:=hid (show Ao 1 2 Al w5 g5 (.slice (some ⟨g5,0,none⟩) 0 0) (CW 0 U) []from by
      rw[← hw5,← hg5];exact Ao.start ⟨rfl,.inr ⟨wr.heap.size,0,#[],rfl,Nat.le_refl _,Blk.new wr _ _,Nat.le_refl _,by unfold maxLen;omega,rfl,rfl⟩⟩)
     have hru5:∀W,Below g5 w5 W→rSl 1 Al W gu (.slice A' n c') U:=fun W hW => by
      have h1:Below g5 wr W:=b5.trans hW;exact rSl.below Al.local_ Al.fixed hru (by rw[hg5];exact h1)
     have HHS:=hid (fun(W:World) (hW:Below g5 w5 W) (k:Int) => KA _ U k gu W (hru5 W hW));have HK5:=hid (HK.out.below b5 ht5);have HB5:=hid (show Below g0 w w5 from HB.out.trans (b5.mono (by omega)));have HZ5:=hid z5;have HG5:=hid hg5;clear HN HK HB hU hnv hru z5 b5 hru5 HX0;go_wp2_with fail
     try rw[hw5]
     try rw[hg5]
     clear hw5 hg5;go_loopw [12,11] (fun ix ov wx =>∃(k n2 c2:Nat) (A2:Option Addr),k≤nr∧ix= int i64 k∧ov= .slice A2 n2 c2∧Hid (n2=(CW k U).length)∧Hid (Ao 1 2 Al wx g5 (.slice A2 n2 c2) (CW k U) [])∧Hid (Below g5 w5 wx)∧Hid (g5<wx.heap.size)) (fun ix _ _ => nr - (intOf ix).toNat)
     case atStart => exact⟨0,0,0,some ⟨g5,0,none⟩,by omega,rfl,rfl,rfl,HO5.out,Below.refl _ _,(show g5<_ by have:=HZ5.out;omega)⟩
     case round =>
      clear HO5 HZ5;obtain⟨k,n2,c2,A2,hk,rfl,rfl,HNN,HO,HB,HG6⟩:=hrel;have k0:=HK5.out.below HB.out ht5;have y4:wr.cell? ⟨g0,4,none⟩=some (int i64 (nr:Int)):=(k0.cell 4).trans (by rw[← HNR.out];rfl);clear k0;by_cases hkl:k<nr
      ·have hki:(k:Int)<(nr:Int):=by omega
       have HST:=hid (He k U);have HH:=hid (HHS.out wr HB.out (k:Int));by_cases hu:(k:Int)∈U
       ·rw[if_pos hu,List.append_nil]at HST;rw[decide_eq_true hu]at HH;clear hu;go_wp2_with (go_at_call 146;refine HH.out.mono ?_;rintro e w6 ⟨rfl,b6⟩;have B6:=hid b6;clear b6)
        go_roundw
        case rel =>
         have hg:=HG6.out;exact⟨k+1,n2,c2,A2,by omega,by go_num,rfl,(show n2=_ by rw[HST.out];exact HNN.out),(show Ao _ _ _ _ _ _ _ _ by rw[HST.out];exact HO.out.below Al.local_ Al.fixed B6.out),HB.out.trans (B6.out.mono (by omega)),(show g5<_ by have:=B6.out.size;omega)⟩
        case measure => simp[intOf];omega
       ·rw[if_neg hu]at HST;rw[decide_eq_false hu]at HH;have hlen:=F2 k U;have HAP:=hid (fun(W:World) (hW:Below wr.heap.size wr W) => FR (x:=(k:Int)) (HO.out.below Al.local_ Al.fixed (hW.trans ((Ah (Below.refl _ _) (.cells #[int i64 (k:Int)] 2)).mono hW.size))) (by unfold okI;omega) (by omega) (by have:=HG6.out;have:=hW.size;simp;omega) (Blk.new W 2 #[int i64 (k:Int)]));clear hu hlen;go_wp2_with (first
         |(go_at_call 146;refine HH.out.mono ?_;rintro e w6 ⟨rfl,b6⟩;have B6:=hid b6;have HAP6:=hid (HAP.out w6 b6);clear b6)
         |(at_builtin;refine AQ rfl (.tmp 86) (.tmp 88) 25 rfl _ _ (by rfl) (by rfl) HAP6.out ?_;rintro v8 w8 ⟨A8,c8,rfl,o8,b8,s8,k8,j8⟩;have O8:=hid o8;have B8:=hid b8;have S8:=hid s8;clear o8 b8 s8 k8 j8))
        go_roundw
        case rel =>
         have h6:=B6.out.size;have hg:=HG6.out;have s8:=S8.out;simp only[World.size_alloc]at s8;exact⟨k+1,_,c8,A8,by omega,by go_num,rfl,(show _=_ by rw[HST.out,List.length_append];rfl),(show Ao _ _ _ _ _ _ _ _ by rw[HST.out];exact O8.out),HB.out.trans ((B6.out.mono (by omega)).trans (((Ah (Below.refl _ _) _:Below _ _ _).mono (by omega)).trans (B8.out.mono (by omega)))),(show g5<_ by omega)⟩
        case measure => simp[intOf];omega
      ·obtain rfl:k=nr:=by omega
       have hlen:=HO.out.length;obtain⟨A9,c9,e9,h91,h92⟩:=hlen;injection e9 with e91 e92 e93
       subst e91 e93;have HCC:=hid (And.intro h91 h92);clear e92 h91 h92;go_wp2_with fail
       go_ret
       have hn:=HNN.out;subst hn;exact⟨L,A2,_,c2,HLV.out,rfl,by rw[HU.out],by have:=HCC.out;omega,by have:=HCC.out;omega,by rw[HG.out];exact HB5.out.trans (HB.out.mono (by omega))⟩
theorem l6Free_c(s:Sh)(hok:s.Ok)(g:Int)(v:Value)(all:List Ag)(f:List Addr)(w:World)(h:rSl 9 Ac w f v all)(hsm:all.length≤1000000)(hle:∀r,r∈all→r.kind=1→r.length= -1∨0≤r.length)
  (hnm:∀r,r∈all→r.name.size≤1000000) (hrl:∀r,r∈all→r.kind=1→r.rows.length≤100) :
  Calls Tryz.prog 199 #[shV s,v,int i64 g] w fun e w' =>∃L A n c,BS all L∧e= .returned (.slice A n c)∧n=(CW s.rows.toNat (Ca s.g g L ++ Cy g all)).length∧n≤c∧c≤9223372036854775807∧Below w.heap.size w w' :=
 l6Free_k 9 rfl Tryz.sizeOf31 Tryz.isAgg31 s hok g v all f w h hsm hle hnm hrl
end Go.Proofs.YtfjkoifpdoemdaaGreat
