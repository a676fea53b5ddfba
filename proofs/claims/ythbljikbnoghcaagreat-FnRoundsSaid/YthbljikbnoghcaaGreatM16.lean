/-
  Part 16 of the proof; the last part states and proves the statement.
-/
import Derived.Test.YthbljikbnoghcaaGreatM15
import Derived.Test.YthbljikbnoghcaaGreatM09
import Derived.Test.YthbljikbnoghcaaGreatM02
import Derived.Test.YthbljikbnoghcaaGreatM10
import Derived.Deep.RegionHeld3
import Derived.Deep.RegionLaw
import Derived.Deep.MidRow
import Derived.Deep.DeepCutAuto
set_option maxHeartbeats 8000000
set_option maxRecDepth 100000
set_option linter.unusedVariables false
set_option linter.unusedSimpArgs false
open Go.Value (int)
open Go.IntKind (i64)
namespace Go.Proofs.YthbljikbnoghcaaGreat
open Go.RowKit Go.Lib Go.Sort
def DM(x:Ag):Prop:=x.rows.length≤1000000∧x.data.length≤1000000∧x.delta.length≤1000000
theorem Ak.nil(lo:Nat)(w:World):Ak lo w []:=⟨List.nodup_nil,(fun a ha => by cases ha),(fun a ha => by cases ha)⟩
theorem EL(v:Value)(ds:List Ag)(f:List Addr)(w:World)(h:rSl 9 Ac w f v ds)(hn:ds.length≤1000000)(hl:∀x,x∈ds→DM x) :
  Calls Tryz.prog 82 #[v] w fun e w' =>∃A c gs,e= .returned (.slice A ds.length c)∧rSl 9 Ac w' gs (.slice A ds.length c) ds∧Ak w.heap.size w' gs∧Below w.heap.size w w':=by
 obtain⟨A0,c0,rfl,hc0,hm0,hx⟩:=rSl.at_ Ac.fixed (by omega) h;have HX:=hid hx;have HL:=hid hl;clear hx hl h;obtain⟨g0,hg0⟩:∃g0,w.heap.size=g0:=⟨_,rfl⟩;have HG:=hid hg0;have start:Hid (Aj 9 76 Ac (w.alloc (.cells #[] 76)) g0 (.slice (some ⟨g0,0,none⟩) 0 0) (ds.take 0) []):=by
  rw[← hg0];exact Aj.start (World.ownsRow_lit (base:=w.heap.size) (e:=76) (size:=9) w #[] 0 (Nat.le_refl _) (Nat.zero_le _) rfl)
 have hb0:Hid (Below g0 w (w.alloc (.cells #[] 76))):=(Below.refl g0 w).alloc (by omega) _;go_enter Tryz.func82,Tryz.ntmps82
 go_wp2_with fail
 try rw[hg0]
 clear hg0;go_loopw [9,3] (fun i v wr =>∃(j:Nat) (A:Option Addr) (c:Nat) (fo:List Addr),j≤ds.length∧i= int i64 j∧v= .slice A j c∧Hid (Aj 9 76 Ac wr g0 (.slice A j c) (ds.take j) fo)∧Hid (Ak g0 wr fo)∧Hid (Below g0 w wr)) (fun i _ _ => ds.length - (intOf i).toNat)
 case atStart => exact⟨0,some ⟨g0,0,none⟩,0,[],by omega,rfl,rfl,start.out,Ak.nil _ _,hb0.out⟩
 case round =>
  clear start hb0;obtain⟨j,A,c,fo,hj,rfl,rfl,HO,HM,HB⟩:=hrel;have hgw:Hid (g0≤wr.heap.size):=by
   have h1:=HB.out.size;have h2:=HG.out;exact(show g0≤wr.heap.size by omega)
  by_cases hlt:j<ds.length
  ·obtain⟨ad,b3,o3,cs3,f3,rfl,hat0⟩:=HX.out j hlt;have hat:=hat0.below Ac.local_ (show Below w.heap.size w wr by rw[HG.out];exact HB.out);have hpl:=hat0.place;have hbl3:b3<wr.heap.size:=hat.lt;have hlen:cs3.length=9:=hat.len;have HRG:=hid (show wr.rangeAt b3 o3 cs3 from fun q v hq => by
    have hq1:q<cs3.length:=(List.getElem?_eq_some_iff.1 hq).1;rw[hat.cell q hq1,← hq];exact(List.getElem?_eq_getElem hq1).symm)
   have HI:=hid (show(Tryz.prog.info? 76).map (·.size)=some cs3.length by rw[hlen];kernel_rfl);have HI2:=hid (show(Tryz.prog.info? 76).map (·.size)=some cs3.toArray.size by rw[List.size_toArray,hlen];kernel_rfl);have HON:=hid (all_oneCell_toArray (Ac.ones _ _ _ _ hat.reads));obtain⟨x,hxe⟩:∃x,ds[j] =x:=⟨_,rfl⟩;have hrds:=hat.reads;rw[hxe]at hrds;have hxm:x∈ds:=by rw[← hxe];exact List.getElem_mem hlt
   have hsx:=HL.out x hxm;have HST:=hid (show ds.take (j+1)=ds.take j ++ [x] by rw[List.take_succ_eq_append_getElem hlt,hxe]);have HTL:=hid (show(ds.take j).length =j by rw[List.length_take];omega);obtain⟨Z2,hZ2⟩:∃Z2:Array Value,#[int i64 0,int i64 0,.string ⟨#[]⟩,int i64 0,int i64 0,int i64 0,.slice none 0 0,.slice none 0 0,.slice none 0 0] =Z2:=⟨_,rfl⟩;have hZs:Z2.size=9:=by rw[← hZ2];rfl
   have KZ:=Blk.new wr 76 Z2;have HTH:=hid (Blk.there KZ cs3.toArray.size (by rw[List.size_toArray,hlen,hZs];exact Nat.le_refl _));obtain⟨W4,hW4⟩:∃W4,(wr.alloc (.cells Z2 76)).setCells wr.heap.size 0 cs3.toArray.toList=W4:=⟨_,rfl⟩;have k4:Blk W4 wr.heap.size 76 cs3.toArray:=by rw[← hW4];exact Blk.laid KZ _ (by rw[hZs];exact hlen.symm)
   have b44:Below wr.heap.size wr W4:=by rw[← hW4];exact AF (Aa (Below.refl _ _) _) _ 0 (Nat.le_refl _)
   have HW4:=hid hW4;have HR4:=hid (Blk.rangeAll k4);have HB4:=hid b44;have HC:=hid (GK x cs3 f3 W4 (Aw.below Ac.local_ Ac.fixed hrds b44) hsx.1 hsx.2.1 hsx.2.2);have HAP:=hid (fun(w5:World) (cs5:List Value) (f5:List Addr) (r5:Ac w5 f5 cs5 x) (m5:Ak W4.heap.size w5 f5) (b5:Below W4.heap.size W4 w5) => Cm (P:=Tryz.prog) 113 113 _ 128 Tryz.underlying113 Tryz.infoRec rfl (by decide) Ac.local_ Ac.fixed Ac.ones (by omega) (wr:=wr) (w2:=w5) (W:=w5.alloc (.cells cs5.toArray 76)) (v:=.slice A j c) (ds:=ds.take j) (fs:=fo) HO.out HM.out hgw.out (by rw[HTL.out];omega) (b44.trans (b5.mono b44.size)) r5 (m5.mono b44.size) (Ac.wide _ _ _ _ r5) (Aa (Below.refl _ _) _) (Blk.new _ _ _));clear hat hat0 hW4 KZ hlen hZs k4 b44 hrds hxe hxm hsx;go_wp2_with (first
    |(refine wpList_load_mid rfl 76 (.tmp 11) rfl b3 o3 rfl cs3 _ HRG.out Tryz.underlying76 rfl HI.out ?_)
    |(refine wpList_store_mid rfl 76 (.tmp 5) (.tmp 12) rfl wr.heap.size 0 cs3.toArray rfl rfl HTH.out HI2.out HON.out ?_;rw[HW4.out])
    |(refine wpList_load_mid rfl 76 (.tmp 5) rfl wr.heap.size 0 rfl cs3 _ HR4.out Tryz.underlying76 rfl HI.out ?_)
    |(go_at_call 136;refine HC.out.mono ?_;rintro e w5 ⟨cs5,f5,rfl,r5,m5,b5⟩;have HS5:=hid (show cs5.toArray.size=9 by rw[List.size_toArray];exact Ac.wide _ _ _ _ r5);have HA5:=hid (HAP.out w5 cs5 f5 r5 m5 b5);clear r5 m5 b5)
    |(refine DG rfl 113 76 (.tmp 15) rfl cs5.toArray rfl _ 9 128 Tryz.underlying113 Tryz.infoRec (by omega) (by omega) HS5.out ?_)
    |(at_builtin;refine AB rfl (.tmp 13) (.tmp 16) 113 rfl _ _ (by rfl) (by rfl) HA5.out ?_;rintro v8 w8 ⟨A8,c8,h8,rfl,o8,m8,b8,s8⟩;rw[HTL.out]at o8⊢;have O8:=hid o8;have M8:=hid m8;have B8:=hid b8;clear o8 m8 b8 s8))
   go_roundw
   case rel =>
    refine⟨j+1,A8,c8,fo ++ h8,by omega,by go_num,by go_num,(show Aj _ _ _ _ _ _ _ _ by rw[HST.out];exact O8.out),M8.out,HB.out.trans B8.out⟩
   case measure => simp[intOf];omega
  ·obtain rfl:j=ds.length:=by omega
   go_wp2_with fail
   go_ret
   have h1:=HO.out;rw[List.take_length]at h1;obtain⟨gs,r1,m1⟩:=Aj.readsMine h1 HM.out;rw[HG.out];exact⟨A,c,gs,rfl,r1,m1,HB.out⟩
theorem IS(A:Option Addr)(c:Nat)(w:World) :
  Calls Tryz.prog 82 #[.slice A 0 c] w fun e w' => e= .returned (.slice (some ⟨w.heap.size,0,none⟩) 0 0)∧Below w.heap.size w w':=by
 have HB:=hid (show Below w.heap.size w (w.alloc (.cells #[] 76))from(Below.refl _ _).alloc (Nat.le_refl _) _);go_enter Tryz.func82,Tryz.ntmps82
 go_wp2_with fail
 go_loop [9,3] (fun i v => i= int i64 0∧v= .slice (some ⟨w.heap.size,0,none⟩) 0 0) (fun _ _ => 0)
 case atStart => exact⟨rfl,rfl⟩
 case round =>
  obtain⟨rfl,rfl⟩:=hrel;go_wp2_with fail
  go_ret
  exact⟨rfl,HB.out⟩
theorem GX(v:Value)(ds:List Ag)(f:List Addr)(w:World)(h:rSl 9 Ac w f v ds)(hn:ds.length≤1000000)(hl:∀x,x∈ds→DM x) :
  Calls Tryz.prog 82 #[v] w fun e w' =>∃A c gs,e= .returned (.slice A ds.length c)∧(ds= []→c=0)∧rSl 9 Ac w' gs (.slice A ds.length c) ds∧Ak w.heap.size w' gs∧Below w.heap.size w w':=by
 cases ds with
 |nil =>
  obtain⟨A,c,rfl,-⟩:=rSl.head h;refine(IS A c w).mono ?_;rintro e w' ⟨rfl,b⟩;exact⟨_,0,[],rfl,fun _ => rfl,⟨_,0,rfl,Nat.le_refl _,by omega,.inl ⟨rfl,rfl⟩⟩,Ak.nil _ _,b⟩
 |cons x l =>
  refine(EL v _ f w h hn hl).mono ?_;rintro e w' ⟨A,c,gs,rfl,r,m,b⟩;exact⟨A,c,gs,rfl,(fun e => by cases e),r,m,b⟩
end Go.Proofs.YthbljikbnoghcaaGreat
namespace Go.Proofs.YthbljikbnoghcaaGreat
open Go.RowKit Go.Sort
open Go.Lib (hid)
section
variable {α:Type} {k:Nat} {R:Aw α} {w w':World} {H j:Nat} {T:TypeId} {ds:List α}
def DL(k:Nat)(R:Aw α)(w:World)(H:Nat)(T:TypeId)(ds:List α)(j:Nat):Prop :=
 ∃cs:Array Value,Blk w H T cs∧cs.size=ds.length * k∧∀i,(h:i<ds.length)→i<j→∃us fk,us.length=k∧(∀q,q<k→cs[i * k+q]? =us[q]?)∧R w fk us ds[i]∧∀a,a∈fk→H<a.block
theorem DL.start {z:Array Value}(h:Blk w H T (madeCells z (ds.length * k))):DL k R w H T ds 0:=⟨_,h,size_madeCells _ _,fun _ _ h => absurd h (Nat.not_lt_zero _)⟩
theorem DL.lt(h:DL k R w H T ds j):H<w.heap.size:=by
 obtain⟨cs,hk,-⟩:=h;exact hk.lt
theorem DL.below(hL:AZ R)(hF:Bh R)(h:DL k R w H T ds j)(hb:Below w.heap.size w w'):DL k R w' H T ds j:=by
 obtain⟨cs,hk,hs,h⟩:=h;refine⟨cs,hk.below hb hk.lt,hs,fun i hi hj => ?_⟩;obtain⟨us,fk,h1,h2,h3,h4⟩:=h i hi hj;exact⟨us,fk,h1,h2,Aw.below hL hF h3 hb,h4⟩
theorem Gk:∀(vs:List Value) (o:Nat) (cs:Array Value),(DQ cs o vs).size =cs.size
 | [],_,_ => rfl
 |v :: r,o,cs => by
  show(DQ (cs.setIfInBounds o v) (o+1) r).size =_
  rw[Gk r];simp
theorem Hv {n j k:Nat}(h:j<n):j * k+k≤n * k:=by
 calc j * k+k=(j+1) * k:=by rw[Nat.add_mul];omega
  _≤n * k:=Nat.mul_le_mul_right _ h
theorem DL.there(h:DL k R w H T ds j) {i:Nat}(hi:i<ds.length):w.there H (i * k) k:=by
 obtain⟨cs,hk,hs,-⟩:=h;intro q hq;have:=Hv (k:=k) hi;refine⟨?_,hk.frozen _⟩;rw[hk.cell,Array.getElem?_eq_getElem (by omega)];rfl
theorem DL.step(hL:AZ R)(h:DL k R w H T ds j)(hj:j<ds.length) {us:List Value} {fk:List Addr}(hu:us.length=k)(hr:R w fk us ds[j])(hf:∀a,a∈fk→H<a.block):DL k R (w.setCells H (j * k) us) H T ds (j+1):=by
 obtain⟨cs,hk,hs,h⟩:=h;have hfit:=Hv (k:=k) hj;refine⟨DQ cs (j * k) us,hk.setCells_ _ _ _,by rw[Gk,hs],fun i hi hij => ?_⟩;by_cases e:i=j
 ·subst e;refine⟨us,fk,hu,fun q hq => ?_,hL _ _ _ _ _ hr (CE _ _ _ _ fun a ha => by have:=hf a ha;omega),hf⟩;rw[Ev _ _ _ (by omega),if_neg (by omega),if_pos (by omega),Nat.add_sub_cancel_left]
 ·obtain⟨us',fk',h1,h2,h3,h4⟩:=h i hi (by omega);refine⟨us',fk',h1,fun q hq => ?_,hL _ _ _ _ _ h3 (CE _ _ _ _ fun a ha => by have:=h4 a ha;omega),h4⟩;have h5:i * k+q<j * k:=by have:=Hv (k:=k) (show i<j by omega);omega
  rw[Ev _ _ _ (by omega),if_pos h5];exact h2 q hq
theorem DL.reads(h:DL k R w H T ds ds.length)(hm:ds.length≤9223372036854775807):∃fs,rSl k R w fs (.slice (some ⟨H,0,none⟩) ds.length ds.length) ds∧∀a,a∈fs→H≤a.block:=by
 obtain⟨cs,hk,hs,h⟩:=h;have hc:∀i:Fin ds.length,∃p:List Value × List Addr,p.1.length=k∧(∀q,q<k→cs[i.val * k+q]? =p.1[q]?)∧R w p.2 p.1 ds[i.val]∧∀a,a∈p.2→H<a.block:=fun i => by
  obtain⟨us,fk,h1,h2,h3,h4⟩:=h i.val i.isLt i.isLt;exact⟨(us,fk),h1,h2,h3,h4⟩
 obtain⟨f,hf⟩:=Classical.axiomOfChoice hc;refine⟨_,rSl.ofRow ((List.finRange ds.length).map fun i =>(f i).1) ((List.finRange ds.length).map fun i =>(f i).2) rfl hm (by simp) (by simp) (fun i hi => ?_),fun a ha => ?_⟩
 ·simp only[List.getElem_map,List.getElem_finRange,Fin.cast_mk];obtain⟨h1,h2,h3,-⟩:=hf ⟨i,hi⟩;refine⟨h1,fun q hq => ?_,h3⟩;rw[hk.cell,h2 q (by omega),List.getElem?_eq_getElem hq]
 ·rcases List.mem_append.1 ha with ha|ha
  ·rw[BM ha];exact Nat.le_refl _
  ·obtain⟨l,hl,hal⟩:=List.mem_flatten.1 ha;obtain⟨i,-,rfl⟩:=List.mem_map.1 hl;exact Nat.le_of_lt ((hf i).2.2.2 a hal)
end
def FK:CG:=⟨0,List.replicate 4 0⟩
def Dc(n:Nat):Bo:=⟨false,List.replicate n FK⟩
def Sh.toD(s:Sh):BO:=⟨s.g,s.c,s.data,s.p,s.rows,s.cap,s.b,s.q,s.t⟩
theorem Tryz.infoBlock:(Tryz.prog.info? 118).map (fun i =>(i.zero,i.size,i.bytes))=some (some (.agg #[int i64 0,.slice none 0 0]),2,32):=by kernel_rfl
theorem Tryz.infoDrive:(Tryz.prog.info? 89).map (fun i =>(i.zero,i.size,i.bytes))=some (some (.agg #[.bool false,.slice none 0 0]),2,32):=by kernel_rfl
theorem Tryz.infoDrives:(Tryz.prog.info? 85).map (fun i =>(i.zero,i.size,i.bytes))=some (some (.slice none 0 0),1,24):=by kernel_rfl
theorem Tryz.infoTape:(Tryz.prog.info? 122).map (fun i =>(i.zero,i.size,i.bytes))=some (some (.agg #[.bool false,.slice none 0 0]),2,32):=by kernel_rfl
theorem Tryz.infoTickets:(Tryz.prog.info? 33).map (fun i =>(i.zero,i.size,i.bytes))=some (some (.slice none 0 0),1,24):=by kernel_rfl
structure CS (w:World) (g n j:Nat) (cs:Array Value):Prop where
 size:cs.size=n * 2
 stamp:∀i,i<n→cs[i * 2]? =some (int i64 0)
 bytes:∀i,i<j→cs[i * 2+1]? =some (.slice (some ⟨g+1+i,0,none⟩) 4 4)
 rows:∀i,i<j→Blk w (g+1+i) 5 #[.int .u8 0,.int .u8 0,.int .u8 0,.int .u8 0]
theorem CS.start(w:World)(g n:Nat):CS w g n 0 (madeCells #[int i64 0,.slice none 0 0] (n * 2)):=by
 refine⟨size_madeCells _ _,fun i hi => ?_,fun i hi => absurd hi (Nat.not_lt_zero _),fun i hi => absurd hi (Nat.not_lt_zero _)⟩;simp only[madeCells,Array.getElem?_map,Array.getElem?_range];rw[if_pos (by omega)];simp
theorem CS.has {w:World} {g n j:Nat} {cs:Array Value}(h:CS w g n j cs)(q:Nat)(hq:q<n * 2):∃u,cs[q]? =some u:=⟨cs[q]'(by rw[h.size];exact hq),Array.getElem?_eq_getElem (by rw[h.size];exact hq)⟩
theorem CS.step {w w2:World} {g n j:Nat} {cs:Array Value}(h:CS w g n j cs)(hj:j<n)(hr:∀i,i<j→Blk w (g+1+i) 5 #[.int .u8 0,.int .u8 0,.int .u8 0,.int .u8 0]→Blk w2 (g+1+i) 5 #[.int .u8 0,.int .u8 0,.int .u8 0,.int .u8 0])(hk:Blk w2 (g+1+j) 5 #[.int .u8 0,.int .u8 0,.int .u8 0,.int .u8 0]) :
  CS w2 g n (j+1) (cs.setIfInBounds (j * 2+1) (.slice (some ⟨g+1+j,0,none⟩) 4 4)):=by
 refine⟨by simp[h.size],fun i hi => ?_,fun i hi => ?_,fun i hi => ?_⟩
 ·rw[Array.getElem?_setIfInBounds_ne (by omega)];exact h.stamp i hi
 ·rcases Nat.lt_or_ge i j with hlt|hge
  ·rw[Array.getElem?_setIfInBounds_ne (by omega)];exact h.bytes i hlt
  ·obtain rfl:i=j:=by omega
   rw[Array.getElem?_setIfInBounds_self_of_lt (by rw[h.size];omega)]
 ·rcases Nat.lt_or_ge i j with hlt|hge
  ·exact hr i hlt (h.rows i hlt)
  ·obtain rfl:i=j:=by omega
   exact hk
theorem Blk.bytes4 {w:World} {g:Nat}(h:Blk w g 5 #[.int .u8 0,.int .u8 0,.int .u8 0,.int .u8 0]):Ap w (Az ⟨g,0,none⟩ 4) (.slice (some ⟨g,0,none⟩) 4 4) (List.replicate 4 0):=by
 have:=Ap.of_blk (w:=w) (g:=g) (T:=5) (bs:=List.replicate 4 0) h (by simp);simpa using this
theorem CS.reads {w:World} {g n lo:Nat} {cs:Array Value}(h:CS w g n n cs)(hk:Blk w g 118 cs)(hn:n≤1000)(hl:lo≤g) :
  ∃fs,rSl 2 AL w fs (.slice (some ⟨g,0,none⟩) n n) (List.replicate n FK)∧Ak lo w fs:=by
 refine⟨_,rSl.ofRow ((List.range n).map fun i => [int i64 0,.slice (some ⟨g+1+i,0,none⟩) 4 4]) ((List.range n).map fun i => Az ⟨g+1+i,0,none⟩ 4) (by simp) (by omega) (by simp) (by simp) (fun i hi =>⟨by simp,fun q hq => ?_,?_⟩),?_⟩
 ·simp only[List.getElem_map,List.getElem_range,List.length_cons,List.length_nil]at hq⊢;rw[hk.cell];rcases q with _|q
  ·exact h.stamp i hi
  ·obtain rfl:q=0:=by omega
   exact h.bytes i hi
 ·simp only[List.getElem_map,List.getElem_range,List.getElem_replicate];exact⟨_,_,rfl,rfl,by unfold okI FK;simp,(h.rows i hi).bytes4⟩
 ·refine⟨?_,fun a ha => ?_,fun a ha => ?_⟩
  ·unfold List.Nodup;refine List.pairwise_append.2 ⟨CB rfl,List.pairwise_flatten.2 ⟨fun l hl => ?_,?_⟩,fun a ha b hb e => ?_⟩
   ·obtain⟨i,_,rfl⟩:=List.mem_map.1 hl;exact CB rfl
   ·refine List.pairwise_map.2 (List.pairwise_lt_range.imp fun {i j} hij a ha b hb e => ?_);subst e;have:=BM ha;have:=BM hb;omega
   ·subst e;obtain⟨l,hl,hm⟩:=List.mem_flatten.1 hb;obtain⟨i,_,rfl⟩:=List.mem_map.1 hl;have:=BM ha;have:=BM hm;omega
  ·rcases List.mem_append.1 ha with ha|ha
   ·rw[BM ha];exact hl
   ·obtain⟨l,hl2,hm⟩:=List.mem_flatten.1 ha;obtain⟨i,_,rfl⟩:=List.mem_map.1 hl2;rw[BM hm];omega
  ·rcases List.mem_append.1 ha with ha|ha
   ·obtain⟨q,_,rfl⟩:=AY.1 ha;rw[BG];exact hk.frozen q
   ·obtain⟨l,hl2,hm⟩:=List.mem_flatten.1 ha;obtain⟨i,hi,rfl⟩:=List.mem_map.1 hl2;obtain⟨q,_,rfl⟩:=AY.1 hm;rw[BG];exact(h.rows i (List.mem_range.1 hi)).frozen q
theorem JJ(n:Nat)(w:World)(hn:n≤6) :
  Calls Tryz.prog 42 #[int i64 (n:Int)] w fun e w' =>∃A c fs,e= .returned (.slice A n c)∧rSl 2 AL w' fs (.slice A n c) (List.replicate n FK)∧Ak w.heap.size w' fs∧Below w.heap.size w w':=by
 have hmk:=CW Tryz.prog 86 118 (.agg #[int i64 0,.slice none 0 0]) 2 32 Tryz.underlying86 Tryz.infoBlock n (by omega) (by omega);go_enter Tryz.func42,Tryz.ntmps42
 go_wp2
 go_loopw [9,4] (fun i _ wr =>∃(j:Nat) (cs:Array Value),j≤n∧i= int i64 j∧Blk wr w.heap.size 118 cs∧CS wr w.heap.size n j cs∧wr.heap.size=w.heap.size+1+j∧Below w.heap.size w wr) (fun i _ _ => n - (intOf i).toNat)
 case atStart => exact⟨0,_,by omega,rfl,Blk.new _ _ _,CS.start _ _ _,by simp,(Below.refl _ _).alloc (Nat.le_refl _) _⟩
 case round =>
  obtain⟨j,cs,hj,rfl,hbk,hdn,hsz,hb⟩:=hrel;clear hmk;by_cases hlt:j<n
  ·have hmk4:∀w0:World,(Instr.makeSlice 22 (int i64 4) (int i64 4)).run Tryz.prog w0= .ok (.slice (some ⟨w0.heap.size,0,none⟩) 4 4) (w0.alloc (.cells #[.int .u8 0,.int .u8 0,.int .u8 0,.int .u8 0] 5)):=fun w0 => by
    have h:=CW Tryz.prog 22 5 (.int .u8 0) 1 1 Tryz.underlying22 Tryz.info5 4 (by omega) (by omega) w0;rw[show madeCells (Value.int .u8 0).cells (4 * 1)= #[.int .u8 0,.int .u8 0,.int .u8 0,.int .u8 0]from by kernel_rfl]at h;exact h
   obtain⟨x1,y1⟩:=hdn.has (j * 2+1) (by omega);have q1:=(Blk.cell hbk (j * 2+1)).trans y1;have t1:=Blk.frozen hbk (j * 2+1);have z1:=hbk.lt;have HB:=hid hb;have HD:=hid hdn;have HK:=hid hbk;have HS:=hid hsz;clear hb hdn hbk hsz y1;go_wp2_with fail
   go_roundw
   case rel =>
    have hnew:=Blk.new (wr.setCell ⟨w.heap.size,j * 2+1,none⟩ (.slice (some ⟨wr.heap.size,0,none⟩) 4 4)) 5 #[.int .u8 0,.int .u8 0,.int .u8 0,.int .u8 0];rw[show(wr.setCell ⟨w.heap.size,j * 2+1,none⟩ (.slice (some ⟨wr.heap.size,0,none⟩) 4 4)).heap.size =w.heap.size+1+j from by simp[World.setCell,HS.out]]at hnew;have hst:=CS.step HD.out hlt (fun i _ h => Blk.alloc (Blk.far h (p:=⟨w.heap.size,j * 2+1,none⟩) (by simp;omega) (.slice (some ⟨wr.heap.size,0,none⟩) 4 4)) (.cells #[.int .u8 0,.int .u8 0,.int .u8 0,.int .u8 0] 5)) hnew;rw[← HS.out]at hst;refine⟨j+1,_,by omega,by go_num,Blk.alloc (Blk.set_ HK.out _ _) _,hst,?_,?_⟩
    ·have:=HS.out;simp[World.setCell];omega
    ·exact((HB.out.setCell (Nat.le_refl _) _).alloc (by have:=HB.out.size;simpa [World.setCell]using this) _)
   case measure => simp[intOf];omega
  ·obtain rfl:j=n:=by omega
   have HB:=hid hb;have HD:=hid hdn;have HK:=hid hbk;clear hb hdn hbk hsz;go_wp2_with fail
   go_ret
   obtain⟨fs,h1,h2⟩:=HD.out.reads HK.out (by omega) (Nat.le_refl _);exact⟨_,_,fs,rfl,h1,h2,HB.out⟩
end Go.Proofs.YthbljikbnoghcaaGreat
namespace Go.Proofs.YthbljikbnoghcaaGreat
open Go.RowKit Go.Lib Go.Sort
theorem IR(wp:Bool)(ds:List CG)(v:Value)(f:List Addr)(w:World)(h:rSl 2 AL w f v ds)(hn:ds.length≤1000000)(hl:∀x,x∈ds→x.bytes.length≤1000000) :
  Calls Tryz.prog 81 #[.agg #[.bool wp,v]] w fun e w' =>∃A c gs,e= .returned (.agg #[.bool wp,.slice A ds.length c])∧rSl 2 AL w' gs (.slice A ds.length c) ds∧Ak w.heap.size w' gs∧Below w.heap.size w w':=by
 obtain⟨A0,c0,rfl,hc0,hm0,hx⟩:=rSl.at_ AL.fixed (by omega) h;have HX:=hid hx;have HL:=hid hl;obtain⟨n,hn0⟩:∃n,ds.length=n:=⟨_,rfl⟩;have HN:=hid hn0;have hnn:n≤1000000:=by omega
 rw[hn0];clear hx hl h hc0 hn hn0;go_enter Tryz.func81,Tryz.ntmps81
 go_wp2_with fail
 go_loopw [12] (fun i wr =>∃(j:Nat) (A:Option Addr) (c:Nat) (fs:List Addr),j≤n∧i= int i64 j∧Blk wr (w.heap.size+1) 89 #[.bool false,.slice none 0 0]∧Blk wr (w.heap.size+1+1) 89 #[.bool wp,.slice A j c]∧Aj 2 118 AL wr (w.heap.size+3) (.slice A j c) (ds.take j) fs∧Ak (w.heap.size+3) wr fs∧Below w.heap.size w wr) (fun i _ => n - (intOf i).toNat)
 case atStart =>
  refine⟨0,none,0,[],by omega,rfl,?_,?_,Aj.start ⟨rfl,.inl ⟨rfl,rfl⟩⟩,Ak.nil _ _,?_⟩
  ·exact Blk.alloc (Blk.new1 _ _ _ _) _
  ·exact Blk.new2 _ _ _ _ _
  ·exact(((Below.refl _ _).alloc (Nat.le_refl _) _).alloc (by simp) _).alloc (by simp;omega) _
 case round =>
  obtain⟨j,A,c,fs,hj,rfl,kR,kD,ho,hm,hb⟩:=hrel;have z1:=kR.lt;have z2:=kD.lt;have z0:w.heap.size<wr.heap.size:=by omega
  by_cases hlt:j<n
  case neg =>
   obtain rfl:j=n:=by omega
   have p0:=kD.cell 0;have p1:=kD.cell 1;have q0:=kR.cell 0;have q1:=kR.cell 1;have t0:=kR.frozen 0;have t1:=kR.frozen 1;simp only[List.getElem?_toArray,List.getElem?_cons_zero,List.getElem?_cons_succ]at p0 p1 q0 q1;have HO:=hid ho;have HM:=hid hm;have HB:=hid hb;have KR:=hid kR;have KD:=hid kD;clear ho hm hb kR kD;go_wp2_with fail
   have K1:=Blk.set_ (Blk.set_ KR.out 0 (.bool wp)) 1 (.slice A j c);refine bodyPost_ret (results_cell_row rfl _ _ (w.heap.size+1) 89 #[.bool wp,.slice A j c] (0,0) _ rfl K1 Tryz.underlying89 rfl (by kernel_rfl)) rfl ?_;have o1:=Aj.far_ AL.local_ HO.out HM.out (p:=⟨w.heap.size+1,0,none⟩) (by simp) (.bool wp);have m1:=Ak.set_ HM.out ⟨w.heap.size+1,0,none⟩ (.bool wp);have o2:=Aj.far_ AL.local_ o1 m1 (p:=⟨w.heap.size+1,1,none⟩) (by simp) (.slice A j c);have m2:=Ak.set_ m1 ⟨w.heap.size+1,1,none⟩ (.slice A j c);obtain⟨gs,r1,r2⟩:=o2.readsMine m2;have e1:ds.take j=ds:=List.take_of_length_le (by rw[HN.out];exact Nat.le_refl _);rw[e1]at r1;exact⟨A,c,gs,rfl,r1,r2.mono (by omega),(HB.out.setCell (by simp) _).setCell (by simp) _⟩
  obtain⟨ad,b3,o3,cs3,f3,rfl,hat0⟩:=HX.out j (by rw[HN.out];exact hlt);have hat:=hat0.below AL.local_ hb;have hjl:j<ds.length:=by rw[HN.out];exact hlt
  obtain⟨x,hxe⟩:∃x,ds[j] =x:=⟨_,rfl⟩;have hxm:x∈ds:=by rw[← hxe];exact List.getElem_mem hjl
  have hrd:=hat.reads;rw[hxe]at hrd;obtain⟨v3,f4,e3,-,okst,rb3⟩:=hrd;obtain⟨A3,c3,rfl,hc3,hm3⟩:=rSl.head rb3;have hpl:=hat.place;have hbl:=hat.lt;have l3:cs3.length=2:=hat.len;have t0:wr.cell? ⟨b3,o3,none⟩=some (int i64 x.stamp):=by have:=hat.cell 0 (by omega);simp only[e3]at this;exact this
  have t1:wr.cell? ⟨b3,o3+1,none⟩=some (.slice A3 x.bytes.length c3):=by have:=hat.cell 1 (by omega);simp only[e3]at this;exact this
  have HLX:=HL.out x hxm;have HST:=hid (show ds.take (j+1)=ds.take j ++ [x] by rw[List.take_succ_eq_append_getElem hjl,hxe]);have HTL:=hid (show(ds.take j).length =j by rw[List.length_take];omega);have HOK:=hid okst;have HB3:=hid rb3;have HO:=hid ho;have HM:=hid hm;have HB:=hid hb;have KR:=hid kR;have KD:=hid kD;clear ho hm hb kR kD hat hat0 e3 okst rb3 hxe hxm l3 hjl;go_wp2_with fail
  obtain⟨wt,hwt⟩:∃wt,wr.alloc (.cells #[int i64 x.stamp,.slice A3 x.bytes.length c3] 118)=wt:=⟨_,rfl⟩;have KX:Blk wt wr.heap.size 118 #[int i64 x.stamp,.slice A3 x.bytes.length c3]:=by rw[← hwt];exact Blk.new _ _ _
  have bwt:Below wr.heap.size wr wt:=by rw[← hwt];exact Aa (Below.refl _ _) _
  rw[hwt];have HKX:=hid KX;have HBT:=hid bwt;have zx:=KX.lt;have x0:wt.cell? ⟨wr.heap.size,0,none⟩=some (int i64 x.stamp):=(KX.cell 0).trans rfl;have x1:wt.cell? ⟨wr.heap.size,1,none⟩=some (.slice A3 x.bytes.length c3):=(KX.cell 1).trans rfl;have KDT:=KD.out.below bwt z2;have p1:wt.cell? ⟨w.heap.size+1+1,1,none⟩=some (.slice A j c):=(KDT.cell 1).trans rfl;have zt:w.heap.size+1+1<wt.heap.size:=KDT.lt;have z3:w.heap.size+3≤wr.heap.size:=by omega
  have HKS:=hid (show∀W,Below wt.heap.size wt W→W.cell? ⟨w.heap.size+1+1,1,none⟩=some (.slice A j c)∧W.cell? ⟨wr.heap.size,0,none⟩=some (int i64 x.stamp)∧W.cell? ⟨wr.heap.size,1,none⟩=some (.slice A3 x.bytes.length c3)∧w.heap.size+1+1<W.heap.size∧wr.heap.size<W.heap.size from fun W hW => by
   have k1:=KDT.below hW KDT.lt;have k2:=KX.below hW KX.lt;exact⟨(k1.cell 1).trans rfl,(k2.cell 0).trans rfl,(k2.cell 1).trans rfl,k1.lt,k2.lt⟩)
  have HCL:=hid (fun(W:World) (hW:Below wt.heap.size wt W) => Cc (.slice A3 x.bytes.length c3) x.bytes f4 W (Ap.below (Ap.below HB3.out bwt) hW) (by omega));have HA:=hid (show∀(w2 W:World) (A4:Option Addr) (c4 b:Nat) (f:List Addr),Below wt.heap.size wt w2→Ap w2 f (.slice A4 x.bytes.length c4) x.bytes→Ak wt.heap.size w2 f→Below w2.heap.size w2 W→Blk W b 118 #[int i64 x.stamp,.slice A4 x.bytes.length c4]→∃v' w',(Builtin.append_ #[86,86] 86 #[.slice A j c,.slice (some ⟨b,0,none⟩) 1 1]).run Tryz.prog W= .ok v' w'∧∃A' c' h,v'= .slice A' (j+1) c'∧Aj 2 118 AL w' (w.heap.size+3) v' (ds.take (j+1)) (fs ++ h)∧Ak (w.heap.size+3) w' (fs ++ h)∧Below (w.heap.size+3) wr w'∧wr.heap.size≤w'.heap.size from fun w2 W A4 c4 b f B2 hr hf B5 hb => by
   have:=Cm (P:=Tryz.prog) 86 86 (.agg #[int i64 0,.slice none 0 0]) 32 Tryz.underlying86 Tryz.infoBlock rfl (by decide) AL.local_ AL.fixed AL.ones (by omega) (us:=[int i64 x.stamp,.slice A4 x.bytes.length c4]) (d:=x) HO.out HM.out z3 (by rw[HTL.out];omega) (HBT.out.trans (B2.mono HBT.out.size)) ⟨_,f,rfl,rfl,HOK.out,hr⟩ (hf.mono HBT.out.size) rfl B5 hb;rw[HTL.out,← HST.out]at this;exact this)
  clear hwt KX bwt KDT t0 t1 hpl hbl hm3 hc3;go_region_law (first
   |(refine AR rfl (.tmp 17) (.tmp 24) 86 rfl _ _ (by rfl) (by rfl) (HA.out w2 _ A4 c4 _ f2 B2 r2 m2 (by repeat(with_reducible first|exact Below.refl _ _|apply Aa|apply Ai)) (by repeat(with_reducible first|exact Blk.new _ _ _|exact Blk.new1 _ _ _ _|apply Blk.drew_|apply Blk.alloc))) ?_;rintro v8 w8 ⟨A8,c8,h,rfl,o8,m8,B8,e8⟩;have k8:=KD.out.below B8 (by omega);have p8:w8.cell? ⟨w.heap.size+1+1,1,none⟩=some (.slice A j c):=(k8.cell 1).trans rfl;have f8:=k8.frozen 1;have z8:=Nat.lt_of_lt_of_le z2 e8)
   |(go_simp;go_at_call 73;refine(HCL.out _ (by repeat(with_reducible first|assumption|exact Below.refl _ _|apply Aa|apply Ai))).mono ?_;rintro e w2 ⟨v4,f2,rfl,r2,m2',hb2⟩;obtain⟨A4,c4,rfl,-⟩:=rSl.head r2;dsimp only;have B2:=Below.viaQ (a:=wt) (by repeat(with_reducible first|assumption|exact Below.refl _ _|apply Aa|apply Ai)) hb2;have m2:=Ak.viaR (a:=wt) (by repeat(with_reducible first|assumption|exact Below.refl _ _|apply Aa|apply Ai)) m2';have q2:=HKS.out w2 B2))
  all_goals
   go_wp2_with fail
   go_roundw
   case rel =>
    refine⟨j+1,A8,c8,fs ++ h,by omega,by go_num,Blk.far (KR.out.below B8 (by omega)) (by simp) _,Blk.set_ k8 1 _,Aj.far_ AL.local_ o8 m8 (by simp) _,Ak.set_ m8 _ _,?_⟩;exact(HB.out.trans (B8.mono (by omega))).setCell (by simp;omega) _
   case measure => simp[intOf];omega
end Go.Proofs.YthbljikbnoghcaaGreat
namespace Go.Proofs.YthbljikbnoghcaaGreat
open Go.RowKit Go.Sort
open Go.Lib (hid)
theorem Is(s:Sh)(h:s.Ok)(w:World) :
  Calls Tryz.prog 41 #[shV s] w fun e w' => e= .returned (int i64 (s.data+s.p))∧Below w.heap.size w w':=by
 obtain⟨a1,a2⟩:=h.data;obtain⟨b1,b2⟩:=h.p;unfold shV;go_enter Tryz.func41,Tryz.ntmps41
 go_wp2
 go_ret
 exact⟨rfl,(Below.refl _ _).alloc (Nat.le_refl _) _⟩
def DZ:AU:=⟨false,[]⟩
def BZ(s:Sh)(G D N:Nat):Au:=⟨s.toD,List.replicate G (List.replicate D (Dc N)),[],[DZ,DZ],0,-1,false⟩
structure Eb (s:Sh) (G D N:Nat):Prop where
 ok:s.Ok
 all:s.g+s.c=(G:Int)
 drives:s.data+s.p=(D:Int)
 rows:s.rows=(N:Int)
theorem Eb.G_le {s:Sh} {G D N:Nat}(h:Eb s G D N):G≤6:=by have:=h.ok.g;have:=h.ok.c;have:=h.all;omega
theorem Eb.D_le {s:Sh} {G D N:Nat}(h:Eb s G D N):D≤5:=by have:=h.ok.data;have:=h.ok.p;have:=h.drives;omega
theorem Eb.N_le {s:Sh} {G D N:Nat}(h:Eb s G D N):N≤6:=by have:=h.ok.rows;have:=h.rows;omega
theorem Tryz.makeTapes(w0:World):(Instr.makeSlice 29 (int i64 2) (int i64 2)).run Tryz.prog w0= .ok (.slice (some ⟨w0.heap.size,0,none⟩) 2 2) (w0.alloc (.cells #[.bool false,.slice none 0 0,.bool false,.slice none 0 0] 122)):=by
 have h:=CW Tryz.prog 29 122 (.agg #[.bool false,.slice none 0 0]) 2 32 Tryz.underlying29 Tryz.infoTape 2 (by omega) (by omega) w0;rw[show madeCells (Value.agg #[.bool false,.slice none 0 0]).cells (2 * 2)= #[.bool false,.slice none 0 0,.bool false,.slice none 0 0]from by kernel_rfl]at h;exact h
theorem Blk.tapes2 {w:World} {g:Nat}(h:Blk w g 122 #[.bool false,.slice none 0 0,.bool false,.slice none 0 0]):rSl 2 AK w (Az ⟨g,0,none⟩ 4) (.slice (some ⟨g,0,none⟩) 2 2) [DZ,DZ]:=by
 have:=rSl.ofRow (w:=w) (g:=g) (k:=2) (R:=AK) (n:=2) (ds:=[DZ,DZ]) [[.bool false,.slice none 0 0],[.bool false,.slice none 0 0]] [[],[]] rfl (by omega) rfl rfl (fun i hi => by
  have hz:rSl 9 Ac w [] (.slice none 0 0) []:=⟨none,0,rfl,Nat.le_refl _,by omega,.inl ⟨rfl,rfl⟩⟩;rcases i with _|i
  ·refine⟨rfl,fun q hq => ?_,⟨_,_,rfl,rfl,hz⟩⟩;rw[h.cell];rcases q with _|q
   ·rfl
   ·obtain rfl:q=0:=by simp at hq;omega
    rfl
  ·obtain rfl:i=0:=by omega
   refine⟨rfl,fun q hq => ?_,⟨_,_,rfl,rfl,hz⟩⟩;rw[h.cell];rcases q with _|q
   ·rfl
   ·obtain rfl:q=0:=by simp at hq;omega
    rfl)
 simpa using this
theorem Hi(s:Sh)(G D N:Nat)(hs:Eb s G D N)(hok:shB s=true)(w:World) :
  Calls Tryz.prog 17 #[shV s] w fun e w' =>∃A0 c0 A2 c2 fs,e= .returned (.agg #[int i64 0,int i64 s.g,int i64 s.c,int i64 s.data,int i64 s.p,int i64 s.rows,int i64 s.cap,int i64 s.b,int i64 s.q,int i64 s.t,.slice A0 G c0,.slice none 0 0,.slice A2 2 c2,int i64 0,int i64 (-1),.bool false])∧
   AD w' fs [int i64 s.g,int i64 s.c,int i64 s.data,int i64 s.p,int i64 s.rows,int i64 s.cap,int i64 s.b,int i64 s.q,int i64 s.t,.slice A0 G c0,.slice none 0 0,.slice A2 2 c2,int i64 0,int i64 (-1),.bool false] (BZ s G D N)∧Ak w.heap.size w' fs∧Below w.heap.size w w':=by
 have hmkt:=Tryz.makeTapes;have HS:=hid hs;clear hs;have hG6:=HS.out.G_le;have hD5:=HS.out.D_le;have hN6:=HS.out.N_le;unfold shV;go_enter Tryz.func17,Tryz.ntmps17
 go_upto_region 4 with(go_at_call 39;refine(CN s _).mono ?_;rintro e w1 ⟨rfl,hb1⟩;rw[DX hok];have KS:=hid (((Blk.new w 25 #[int i64 s.g,int i64 s.c,int i64 s.data,int i64 s.p,int i64 s.rows,int i64 s.cap,int i64 s.b,int i64 s.q,int i64 s.t]).alloc (.cells #[int i64 0,int i64 0,int i64 0,int i64 0,int i64 0,int i64 0,int i64 0,int i64 0,int i64 0,int i64 0,.slice none 0 0,.slice none 0 0,.slice none 0 0,int i64 0,int i64 0,.bool false] 58)).below hb1 (by simp;omega));have KR:=hid (show Blk w1 (w.heap.size+1) 58 #[int i64 0,int i64 0,int i64 0,int i64 0,int i64 0,int i64 0,int i64 0,int i64 0,int i64 0,int i64 0,.slice none 0 0,.slice none 0 0,.slice none 0 0,int i64 0,int i64 0,.bool false]from by have h:=(Blk.new (w.alloc (.cells #[int i64 s.g,int i64 s.c,int i64 s.data,int i64 s.p,int i64 s.rows,int i64 s.cap,int i64 s.b,int i64 s.q,int i64 s.t] 25)) 58 #[int i64 0,int i64 0,int i64 0,int i64 0,int i64 0,int i64 0,int i64 0,int i64 0,int i64 0,int i64 0,.slice none 0 0,.slice none 0 0,.slice none 0 0,int i64 0,int i64 0,.bool false]).below hb1 (by simp);rwa [World.size_alloc]at h);have hb0:=((Below.refl w.heap.size w).alloc (Nat.le_refl _) (.cells #[int i64 s.g,int i64 s.c,int i64 s.data,int i64 s.p,int i64 s.rows,int i64 s.cap,int i64 s.b,int i64 s.q,int i64 s.t] 25)).alloc (by simp) (.cells #[int i64 0,int i64 0,int i64 0,int i64 0,int i64 0,int i64 0,int i64 0,int i64 0,int i64 0,int i64 0,.slice none 0 0,.slice none 0 0,.slice none 0 0,int i64 0,int i64 0,.bool false] 58);have B1:=hid (hb0.trans (hb1.mono (by simp;omega)));clear hb0 hb1)
 have z0:=KS.out.lt;have zR:=KR.out.lt;have p0:=KS.out.cell 0;have p1:=KS.out.cell 1;have p2:=KS.out.cell 2;have p3:=KS.out.cell 3;have p4:=KS.out.cell 4;have p5:=KS.out.cell 5;have p6:=KS.out.cell 6;have p7:=KS.out.cell 7;have p8:=KS.out.cell 8;simp only[List.getElem?_toArray,List.getElem?_cons_zero,List.getElem?_cons_succ]at p0 p1 p2 p3 p4 p5 p6 p7 p8;go_cut [4] (fun p wx =>∃gW gT,p= .pointer (some ⟨gW,0,none⟩)∧w1.heap.size≤gW∧w1.heap.size≤gT∧gW≠gT∧Blk wx gW 31 #[int i64 s.g,int i64 s.c,int i64 s.data,int i64 s.p,int i64 s.rows,int i64 s.cap,int i64 s.b,int i64 s.q,int i64 s.t,.slice none 0 0,.slice none 0 0,.slice (some ⟨gT,0,none⟩) 2 2,int i64 0,int i64 (-1),.bool false]∧Blk wx gT 122 #[.bool false,.slice none 0 0,.bool false,.slice none 0 0]∧Below w1.heap.size w1 wx)
 case first =>
  go_region
  ·go_wp2_with fail
   go_meet
   exact⟨_,_,rfl,by omega,by omega,by omega,Blk.new1 _ _ _ _,Blk.alloc (Blk.new _ _ _) _,Ai (Aa (Aa (Below.refl _ _) _) _)⟩
  ·go_wp2_with fail
   go_meet
   exact⟨_,_,rfl,by omega,by omega,by omega,Blk.alloc (Blk.new _ _ _) _,Blk.new1 _ _ _ _,Ai (Aa (Aa (Below.refl _ _) _) _)⟩
 case rest =>
  obtain⟨gW,gT,rfl,zW,zT,hne,kW,kT,hbx⟩:=hcut;have q0:=kW.lt;have q1:=kT.lt;have k0:=KS.out.below hbx z0;have kR:=KR.out.below hbx zR;replace B1:=hid (B1.out.trans (hbx.mono B1.out.size))
  clear KS KR p0 p1 p2 p3 p4 p5 p6 p7 p8;have KS:=hid k0;have KR:=hid kR;have KW:=hid kW;have KT:=hid kT;have HR:=hid (Blk.range k0 0 [int i64 s.g,int i64 s.c,int i64 s.data,int i64 s.p,int i64 s.rows,int i64 s.cap,int i64 s.b,int i64 s.q,int i64 s.t] rfl);clear k0 kR kW kT hbx;have z0:=KS.out.lt;have zR:=KR.out.lt;go_wp2_with (first|(refine wpList_load_mid rfl 25 (.tmp 1) rfl w.heap.size 0 rfl _ _ HR.out Tryz.underlying25 rfl (by kernel_rfl) ?_)|(go_at_call 40;refine(Cz s HS.out.ok _).mono ?_;rintro e w2 ⟨rfl,hb2⟩;rw[HS.out.all];have k0:=KS.out.below hb2 z0;have kR:=KR.out.below hb2 zR;have kW:=KW.out.below hb2 q0;have kT:=KT.out.below hb2 q1;have b1:=B1.out.trans (hb2.mono B1.out.size);have hle:=hb2.size;clear HR KS KR KW KT B1 hb2;have KS:=hid k0;have KR:=hid kR;have KW:=hid kW;have KT:=hid kT;have B1:=hid b1;clear k0 kR kW kT b1))
  clear hmkt;obtain⟨base,hb0⟩:∃base,w2.heap.size=base:=⟨_,rfl⟩;have HBASE:=hid hb0;clear hb0;go_loopw [17,5] (fun i _ wr =>∃(g:Nat) (A:Option Addr) (c:Nat) (fs:List Addr),g≤G∧i= int i64 g∧Blk wr w.heap.size 25 #[int i64 s.g,int i64 s.c,int i64 s.data,int i64 s.p,int i64 s.rows,int i64 s.cap,int i64 s.b,int i64 s.q,int i64 s.t]∧Blk wr (w.heap.size+1) 58 #[int i64 0,int i64 0,int i64 0,int i64 0,int i64 0,int i64 0,int i64 0,int i64 0,int i64 0,int i64 0,.slice none 0 0,.slice none 0 0,.slice none 0 0,int i64 0,int i64 0,.bool false]∧Blk wr gW 31 #[int i64 s.g,int i64 s.c,int i64 s.data,int i64 s.p,int i64 s.rows,int i64 s.cap,int i64 s.b,int i64 s.q,int i64 s.t,.slice A g c,.slice none 0 0,.slice (some ⟨gT,0,none⟩) 2 2,int i64 0,int i64 (-1),.bool false]∧Blk wr gT 122 #[.bool false,.slice none 0 0,.bool false,.slice none 0 0]∧Aj 1 85 (Am 2 Av) wr base (.slice A g c) (List.replicate g (List.replicate D (Dc N))) fs∧Ak base wr fs∧Below w.heap.size w wr∧base≤wr.heap.size) (fun i _ _ => G - (intOf i).toNat)
  case atStart => exact⟨0,none,0,[],by omega,rfl,KS.out,KR.out,KW.out,KT.out,Aj.start ⟨rfl,.inl ⟨rfl,rfl⟩⟩,⟨List.nodup_nil,(fun a ha => by cases ha),(fun a ha => by cases ha)⟩,B1.out,by have:=HBASE.out;omega⟩
  case round =>
   obtain⟨g,A,c,fs,hg,rfl,kS,kR,kW,kT,ho,hm,hb,hle2⟩:=hrel;obtain⟨u,hu⟩:∃u,u=wr:=⟨_,rfl⟩;subst hu;have y0:w.heap.size<base:=by have:=HBASE.out;omega
   have yR:w.heap.size+1<base:=by have:=HBASE.out;omega
   have yW:gW<base:=by have:=HBASE.out;omega
   have yT:gT<base:=by have:=HBASE.out;omega
   clear HBASE hle;have HO:=hid ho;have HM:=hid hm;have HB:=hid hb;have KS:=hid kS;have KR:=hid kR;have KW:=hid kW;have KT:=hid kT;clear ho hm hb;by_cases hlt:g<G
   case neg =>
    obtain rfl:g=G:=by omega
    have HRW:=hid (Blk.range kW 0 [int i64 s.g,int i64 s.c,int i64 s.data,int i64 s.p,int i64 s.rows,int i64 s.cap,int i64 s.b,int i64 s.q,int i64 s.t,.slice A g c,.slice none 0 0,.slice (some ⟨gT,0,none⟩) 2 2,int i64 0,int i64 (-1),.bool false] rfl);have HTH:=hid (Blk.there kR 16 (by simp));clear kS kR kW kT;go_wp2_with (first|(refine wpList_load_mid rfl 31 (.tmp 4) rfl gW 0 rfl _ _ HRW.out Tryz.underlying31 rfl (by kernel_rfl) ?_)|(refine wpList_store_mid rfl 58 (.tmp 2) (.tmp 40) rfl (w.heap.size+1) 0 #[int i64 0,int i64 s.g,int i64 s.c,int i64 s.data,int i64 s.p,int i64 s.rows,int i64 s.cap,int i64 s.b,int i64 s.q,int i64 s.t,.slice A g c,.slice none 0 0,.slice (some ⟨gT,0,none⟩) 2 2,int i64 0,int i64 (-1),.bool false] rfl rfl HTH.out (by kernel_rfl) (by simp[Value.oneCell']) ?_))
    have K1:=KR.out.laid [int i64 0,int i64 s.g,int i64 s.c,int i64 s.data,int i64 s.p,int i64 s.rows,int i64 s.cap,int i64 s.b,int i64 s.q,int i64 s.t,.slice A g c,.slice none 0 0,.slice (some ⟨gT,0,none⟩) 2 2,int i64 0,int i64 (-1),.bool false] rfl;refine bodyPost_ret (results_cell_row rfl _ _ (w.heap.size+1) 58 #[int i64 0,int i64 s.g,int i64 s.c,int i64 s.data,int i64 s.p,int i64 s.rows,int i64 s.cap,int i64 s.b,int i64 s.q,int i64 s.t,.slice A g c,.slice none 0 0,.slice (some ⟨gT,0,none⟩) 2 2,int i64 0,int i64 (-1),.bool false] (0,0) _ rfl K1 Tryz.underlying58 rfl (by kernel_rfl)) rfl ?_;have o1:=Aj.farS (Am.local_ Av.local_) [int i64 0,int i64 s.g,int i64 s.c,int i64 s.data,int i64 s.p,int i64 s.rows,int i64 s.cap,int i64 s.b,int i64 s.q,int i64 s.t,.slice A g c,.slice none 0 0,.slice (some ⟨gT,0,none⟩) 2 2,int i64 0,int i64 (-1),.bool false] (w.heap.size+1) 0 u yR HO.out HM.out;have m1:=Ak.setS [int i64 0,int i64 s.g,int i64 s.c,int i64 s.data,int i64 s.p,int i64 s.rows,int i64 s.cap,int i64 s.b,int i64 s.q,int i64 s.t,.slice A g c,.slice none 0 0,.slice (some ⟨gT,0,none⟩) 2 2,int i64 0,int i64 (-1),.bool false] (w.heap.size+1) 0 u HM.out;obtain⟨gs,r1,r2⟩:=o1.readsMine m1;have kT1:=Blk.farS [int i64 0,int i64 s.g,int i64 s.c,int i64 s.data,int i64 s.p,int i64 s.rows,int i64 s.cap,int i64 s.b,int i64 s.q,int i64 s.t,.slice A g c,.slice none 0 0,.slice (some ⟨gT,0,none⟩) 2 2,int i64 0,int i64 (-1),.bool false] (w.heap.size+1) 0 u (by omega) KT.out;refine⟨A,c,some ⟨gT,0,none⟩,2,gs ++([] ++ Az ⟨gT,0,none⟩ 4),rfl,⟨_,_,_,gs,[],_,rfl,rfl,(by have:=HS.out.ok.g;unfold okI;simp only[BZ,Sh.toD];omega),(by have:=HS.out.ok.c;unfold okI;simp only[BZ,Sh.toD];omega),(by have:=HS.out.ok.data;unfold okI;simp only[BZ,Sh.toD];omega),(by have:=HS.out.ok.p;unfold okI;simp only[BZ,Sh.toD];omega),(by have:=HS.out.ok.rows;unfold okI;simp only[BZ,Sh.toD];omega),(by have:=HS.out.ok.cap;unfold okI;simp only[BZ,Sh.toD];omega),(by have:=HS.out.ok.b;unfold okI;simp only[BZ,Sh.toD];omega),(by have:=HS.out.ok.q;unfold okI;simp only[BZ,Sh.toD];omega),(by have:=HS.out.ok.t;unfold okI;simp only[BZ,Sh.toD];omega),(by unfold okI;simp only[BZ];omega),(by unfold okI;simp only[BZ];omega),r1,⟨none,0,rfl,Nat.le_refl _,by omega,.inl ⟨rfl,rfl⟩⟩,kT1.tapes2⟩,⟨?_,fun a ha => ?_,fun a ha => ?_⟩,Below.setCells_ _ _ _ _ (by omega) HB.out⟩
    ·rw[List.nil_append];unfold List.Nodup;refine List.pairwise_append.2 ⟨r2.nodup,CB rfl,fun a ha b hb e => ?_⟩;subst e;have:=r2.from_ a ha;have:=BM hb;omega
    ·rw[List.nil_append]at ha;rcases List.mem_append.1 ha with ha|ha
     ·have:=r2.from_ a ha;omega
     ·have:=BM ha;omega
    ·rw[List.nil_append]at ha;rcases List.mem_append.1 ha with ha|ha
     ·exact r2.free a ha
     ·obtain⟨q,_,rfl⟩:=AY.1 ha;rw[BG];exact kT1.frozen q
   have HR:=hid (Blk.range kS 0 [int i64 s.g,int i64 s.c,int i64 s.data,int i64 s.p,int i64 s.rows,int i64 s.cap,int i64 s.b,int i64 s.q,int i64 s.t] rfl);clear kS kR kW kT;go_wp2_with (first|(refine wpList_load_mid rfl 25 (.tmp 1) rfl w.heap.size 0 rfl _ _ (World.rangeAt_alloc HR.out _) Tryz.underlying25 rfl (by kernel_rfl) ?_)|(go_at_call 41;refine(Is s HS.out.ok _).mono ?_;rintro e w3 ⟨rfl,hb3⟩;rw[HS.out.drives];have kE:=hid ((Blk.new u 89 #[]).below hb3 (by simp));have B3:=hid ((Aa (Below.refl u.heap.size u) (.cells #[] 89)).trans (hb3.mono (by simp)));clear HR hb3))
   go_loopw [22,5] (fun i d w4 =>∃(k:Nat) (A2:Option Addr) (c2:Nat) (f2:List Addr),k≤D∧i= int i64 k∧d= .slice A2 k c2∧Aj 2 89 Av w4 u.heap.size (.slice A2 k c2) (List.replicate k (Dc N)) f2∧Ak u.heap.size w4 f2∧Below u.heap.size u w4) (fun i _ _ => D - (intOf i).toNat)
   case atStart => exact⟨0,_,0,[],by omega,rfl,rfl,Aj.start ⟨rfl,.inr ⟨u.heap.size,0,#[],rfl,Nat.le_refl _,kE.out,Nat.le_refl _,by unfold maxLen;omega,rfl,rfl⟩⟩,⟨List.nodup_nil,(fun a ha => by cases ha),(fun a ha => by cases ha)⟩,B3.out⟩
   case round =>
    obtain⟨k,A2,c2,f2,hk,rfl,rfl,ho4,hm4,hb4⟩:=hrel;have x0:w.heap.size<u.heap.size:=by omega
    have xW:gW<u.heap.size:=by omega
    by_cases hlt2:k<D
    case neg =>
     obtain rfl:k=D:=by omega
     obtain⟨gs,r1,r2⟩:=Aj.readsMine ho4 hm4;have kW4:=KW.out.below hb4 xW;have pW:wr.cell? ⟨gW,9,none⟩=some (.slice A g c):=(kW4.cell 9).trans rfl;have HAP:=Cm (P:=Tryz.prog) (R:=Am 2 Av) 27 27 (.slice none 0 0) 24 Tryz.underlying27 Tryz.infoDrives rfl (by decide) (Am.local_ Av.local_) (Am.fixed Av.fixed) Am.ones (by omega) HO.out HM.out hle2 (by simp;omega) (us:=[.slice A2 k c2]) (f:=gs) (d:=List.replicate k (Dc N)) (W:=wr.alloc (.cells #[.slice A2 k c2] 85)) (b:=wr.heap.size) hb4 ⟨_,rfl,r1⟩ r2 rfl (Aa (Below.refl _ _) _) (Blk.new _ _ _);rw[EP,List.length_replicate]at HAP;have HA:=hid HAP;have zW4:=kW4.lt;clear HAP kW4 ho4 hm4 hb4 r1 r2 B3 kE;go_wp2_with (at_builtin;refine AB rfl (.tmp 33) (.tmp 35) 27 rfl (.slice A g c) (.slice (some ⟨wr.heap.size,0,none⟩) 1 1) rfl rfl HA.out ?_;rintro v6 w6 ⟨A6,c6,h,rfl,o6,m6,B6,e6⟩;have k6:=KW.out.below B6 yW;have p6:w6.cell? ⟨gW,9,none⟩=some (.slice A g c):=(k6.cell 9).trans rfl;have f6:=k6.frozen 9;have z6:=k6.lt;have HO6:=hid o6;have HM6:=hid m6;have HB6:=hid B6;have HK6:=hid k6;clear o6 m6 B6 k6)
     go_roundw
     case rel =>
      refine⟨g+1,A6,c6,fs ++ h,by omega,by go_num,Blk.far (KS.out.below HB6.out y0) (by simp;omega) _,Blk.far (KR.out.below HB6.out yR) (by simp;omega) _,Blk.set_ HK6.out 9 _,Blk.far (KT.out.below HB6.out yT) (by simp;omega) _,Aj.far_ (Am.local_ Av.local_) HO6.out HM6.out (by simp;omega) _,Ak.set_ HM6.out _ _,(HB.out.trans (HB6.out.mono (by omega))).setCell (by simp;omega) _,?_⟩;simp[World.setCell];omega
     case measure => simp[intOf];omega
    have p4:wr.cell? ⟨w.heap.size,4,none⟩=some (int i64 (N:Int)):=((KS.out.below hb4 x0).cell 4).trans (by rw[← HS.out.rows];rfl);have z4:w.heap.size<wr.heap.size:=Nat.lt_of_lt_of_le x0 hb4.size;have HO4:=hid ho4;have HM4:=hid hm4;have HB4:=hid hb4;clear ho4 hm4 hb4 B3 kE;have HA:=hid (show∀(w5:World) (A3:Option Addr) (c3:Nat) (f:List Addr),Below wr.heap.size wr w5→rSl 2 AL w5 f (.slice A3 N c3) (List.replicate N FK)→Ak wr.heap.size w5 f→∃v' w',(Builtin.append_ #[85,85] 85 #[.slice A2 k c2,.slice (some ⟨w5.heap.size,0,none⟩) 1 1]).run Tryz.prog (w5.alloc (.cells #[.bool false,.slice A3 N c3] 89))= .ok v' w'∧∃A c h,v'= .slice A (k+1) c∧Aj 2 89 Av w' u.heap.size v' (List.replicate (k+1) (Dc N)) (f2 ++ h)∧Ak u.heap.size w' (f2 ++ h)∧Below u.heap.size wr w'∧wr.heap.size≤w'.heap.size from fun w5 A3 c3 f B2 hr hf => by
     have:=Cm (P:=Tryz.prog) (R:=Av) 85 85 (.agg #[.bool false,.slice none 0 0]) 32 Tryz.underlying85 Tryz.infoDrive rfl (by decide) Av.local_ Av.fixed Av.ones (by omega) HO4.out HM4.out HB4.out.size (by simp;omega) (us:=[.bool false,.slice A3 N c3]) (f:=f) (d:=Dc N) (W:=w5.alloc (.cells #[.bool false,.slice A3 N c3] 89)) (b:=w5.heap.size) B2 ⟨_,_,rfl,rfl,hr⟩ hf rfl (Aa (Below.refl _ _) _) (Blk.new _ _ _);rw[EP,List.length_replicate]at this;exact this)
    go_wp2_with (first|(go_at_call 42;refine(JJ N _ hN6).mono ?_;rintro e w5 ⟨A3,c3,f,rfl,hr3,hm3,hb5⟩)|(at_builtin;refine AB rfl (.tmp 24) (.tmp 29) 85 rfl (.slice A2 k c2) (.slice (some ⟨w5.heap.size,0,none⟩) 1 1) rfl rfl (HA.out w5 A3 c3 f hb5 hr3 hm3) ?_;rintro v6 w6 ⟨A6,c6,h,rfl,o6,m6,B6,e6⟩;have HO6:=hid o6;have HM6:=hid m6;have HB6:=hid B6;clear o6 m6 B6))
    go_roundw
    case rel => exact⟨k+1,A6,c6,f2 ++ h,by omega,by go_num,rfl,HO6.out,HM6.out,HB4.out.trans HB6.out⟩
    case measure => simp[intOf];omega
theorem Gb(s:Sh)(hok:shB s=false)(w:World) :
  Calls Tryz.prog 17 #[shV s] w fun e w' => e= .returned (.agg #[int i64 3,int i64 0,int i64 0,int i64 0,int i64 0,int i64 0,int i64 0,int i64 0,int i64 0,int i64 0,.slice none 0 0,.slice none 0 0,.slice none 0 0,int i64 0,int i64 0,.bool false])∧Below w.heap.size w w':=by
 unfold shV;go_enter Tryz.func17,Tryz.ntmps17
 go_wp2_with (first|(refine wpList_store_mid rfl 58 (.tmp 2) (.tmp 11) rfl (w.heap.size+1) 0 #[int i64 3,int i64 0,int i64 0,int i64 0,int i64 0,int i64 0,int i64 0,int i64 0,int i64 0,int i64 0,.slice none 0 0,.slice none 0 0,.slice none 0 0,int i64 0,int i64 0,.bool false] rfl rfl HTH.out (by kernel_rfl) (by simp[Value.oneCell']) ?_)|(go_at_call 39;refine(CN s _).mono ?_;rintro e w1 ⟨rfl,hb1⟩;rw[Ej hok];have KR:=hid (show Blk w1 (w.heap.size+1) 58 #[int i64 0,int i64 0,int i64 0,int i64 0,int i64 0,int i64 0,int i64 0,int i64 0,int i64 0,int i64 0,.slice none 0 0,.slice none 0 0,.slice none 0 0,int i64 0,int i64 0,.bool false]from by have h:=(Blk.new (w.alloc (.cells #[int i64 s.g,int i64 s.c,int i64 s.data,int i64 s.p,int i64 s.rows,int i64 s.cap,int i64 s.b,int i64 s.q,int i64 s.t] 25)) 58 #[int i64 0,int i64 0,int i64 0,int i64 0,int i64 0,int i64 0,int i64 0,int i64 0,int i64 0,int i64 0,.slice none 0 0,.slice none 0 0,.slice none 0 0,int i64 0,int i64 0,.bool false]).below hb1 (by simp);rwa [World.size_alloc]at h);have hb0:=((Below.refl w.heap.size w).alloc (Nat.le_refl _) (.cells #[int i64 s.g,int i64 s.c,int i64 s.data,int i64 s.p,int i64 s.rows,int i64 s.cap,int i64 s.b,int i64 s.q,int i64 s.t] 25)).alloc (by simp) (.cells #[int i64 0,int i64 0,int i64 0,int i64 0,int i64 0,int i64 0,int i64 0,int i64 0,int i64 0,int i64 0,.slice none 0 0,.slice none 0 0,.slice none 0 0,int i64 0,int i64 0,.bool false] 58);have B1:=hid (hb0.trans (hb1.mono (by simp;omega)));clear hb0 hb1;have HTH:=hid (Blk.there KR.out 16 (by simp))))
 have K1:=KR.out.laid [int i64 3,int i64 0,int i64 0,int i64 0,int i64 0,int i64 0,int i64 0,int i64 0,int i64 0,int i64 0,.slice none 0 0,.slice none 0 0,.slice none 0 0,int i64 0,int i64 0,.bool false] rfl;refine bodyPost_ret (results_cell_row rfl _ _ (w.heap.size+1) 58 #[int i64 3,int i64 0,int i64 0,int i64 0,int i64 0,int i64 0,int i64 0,int i64 0,int i64 0,int i64 0,.slice none 0 0,.slice none 0 0,.slice none 0 0,int i64 0,int i64 0,.bool false] (0,0) _ rfl K1 Tryz.underlying58 rfl (by kernel_rfl)) rfl ?_;exact⟨rfl,Below.setCells_ _ _ _ _ (by omega) B1.out⟩
end Go.Proofs.YthbljikbnoghcaaGreat
