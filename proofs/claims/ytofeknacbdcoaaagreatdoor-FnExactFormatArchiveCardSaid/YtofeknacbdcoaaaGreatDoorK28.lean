/- Part 28 of the proof. -/
import Derived.Test.YtofeknacbdcoaaaGreatDoorK06
import Derived.Test.YtofeknacbdcoaaaGreatDoorK27
import Derived.Test.YtofeknacbdcoaaaGreatDoorK01
import Derived.Lib.AppendIntMem
import Derived.Shelf.Unicode.PredsPay
import Derived.Test.YtofeknacbdcoaaaGreatDoorK17
import Derived.Test.YtofeknacbdcoaaaGreatDoorK20
import Derived.Test.YtofeknacbdcoaaaGreatDoorK19
import Derived.Test.YtofeknacbdcoaaaGreatDoorK18
import Derived.Test.YtofeknacbdcoaaaGreatDoorK16
import Derived.Test.YtofeknacbdcoaaaGreatDoorK07
import Derived.Test.YtofeknacbdcoaaaGreatDoorK25
set_option maxHeartbeats 8000000
set_option maxRecDepth 100000
set_option linter.unusedVariables false
set_option linter.unusedSimpArgs false
open Go.Proofs.Tryz
open Go.Value (int)
open Go.IntKind (i64)
namespace Go.Proofs.YtofeknacbdcoaaaGreatDoor
open Go.RowKit Go.Sort
abbrev Tab (w : World) : Prop := Lib.TabIs prog w "internal/strconv.uint64pow10" .u64 Lib.pow10Tab
theorem Tab.B {w w'}(h:Tab w)(hb:Below w w w'):Tab w':=TabIs_below (g:=0) zY h hb
def DX(x:Int):ByteArray:=⟨(Lib.decDigits x.toNat).toArray⟩
theorem PO(n:Nat)(hn:n<=1000000000000)(w)(c:Tab w):
  Calls prog 59 #[int i64 n,int i64 10] w (zN (.string (DX n)) w):=by
 refine(Any.strconv_FormatInt_10 Tryz.fL (n:Int) zZ zZ w c).M ?_;rintro e w' ⟨rfl,k,os,rfl⟩;refine⟨?_,Lib.below_grow _ w (aD _) k os⟩;have:Lib.itoa (n:Int)=Lib.decDigits n:=by
  unfold Lib.itoa;rw[aJ zZ];rfl
 rw[this];rfl
theorem Ak.strs {E:TypeId}{w base v}{ds:List ByteArray}{fs}(h:Ak 1 E Dx w base v ds fs):fs= []:=by
 obtain⟨c,e,p,q,rfl,h4,f,r⟩:=h;refine List.flatten_eq_nil_iff.2 fun l n => ?_
 obtain⟨i,s,rfl⟩:=aY n;obtain⟨_,_,_,o⟩:=f i zZ;exact o.1
theorem Tryz.infoS:(prog.info? 9).map (fun i =>(i.zero,i.size,i.bytes))=some (some (.string ⟨#[]⟩),1,16):=by kernel_rfl
theorem rStr_one(w f cs)(d:ByteArray)(h:Dx w f cs d):∀u,u∈cs->u.oneCell'=true:=fun u c => by
 rw[h.2.1]at c;simp at c;subst c;rfl
theorem Qw {W base v u}{ds D2:List ByteArray}{n}(o:Ak 1 9 Dx W base v ds [])(r:CC W n u D2)(s:∀a,a∈n->v.ownBlock≠some a.block)(hn:ds.length+D2.length<=1000000000)(f:base<=W.heap.size):
  ∃i w',(Builtin.append_ #[79,79] 79 #[v,u]).run prog W= .ok i w'/\∃A c,i= .slice A (ds.length+D2.length) c/\Ak 1 9 Dx w' base i (ds ++ D2) []/\Below base W w'/\W.heap.size<=w'.heap.size:=by
 obtain⟨i,w',y,h,l,z,p,q5⟩:=Ak.appendRun (P:=prog) 79 79 (.string ⟨#[]⟩) 16 underlying79 Tryz.infoS rfl zW Dx.L Dx.X (fun _ _ _ _ h => rStr_one _ _ _ _ h) base v ds [] o u D2 n r s hn zZ f;have q:=l.strs;rw[q]at l;obtain⟨A,c,e,-⟩:=l.length;exact⟨i,w',y,A,c,by rw[e,aU],l,Below.grown (aC _ _) p f (fun k x =>(o.lt k x).1),p.size⟩
theorem lit1 {w:World}{T:TypeId}{x:ByteArray}(e:x.size<=9223372036854775807):CC (w.alloc (.cells #[.string x] T)) (Bf (zE w) 1) (.slice (some (zE w)) 1 1) [x] :=
 CC.close_ (ss:=[x]) (aD _) zZ fun k c => by
  obtain rfl:k=0:=by simpa using c
  exact⟨(Blk.new w T #[.string x]).cell 0,e⟩
theorem Ak.tellS {w f A n c}{ds:List ByteArray}(h:Ak 1 9 Dx w f (.slice A n c) ds []):∃i,CC w i (.slice A n c) ds/\AL f w i :=
 h.readsMine ⟨List.nodup_nil,(fun a e => by cases e),(fun a e => by cases e)⟩
theorem join_c(ss:List ByteArray)(v f w)(h:CC w f v ss)(hn:ss≠ [])(q:(Lib.join (ss.map (·.data.toList)) [32]).length<=140737488355328)(hs:ss.length<=100000000):
  Calls prog 23 #[v] w (zN (.string ⟨(Lib.join (ss.map (·.data.toList)) [32]).toArray⟩) w):=by
 obtain⟨A,c,rfl,z,hm,i⟩:=CC.form h;rcases i with⟨rfl,-⟩|⟨u,rfl,-,i⟩
 ·exact absurd rfl hn
 ·have p:0<ss.length:=List.length_pos_iff.2 hn;obtain⟨b,o,s⟩:=u;have l:=World.cell?_spot (i 0 p).1;simp only[Addr.add]at l;subst l;have hb:=World.block_lt_of_cell? _ _ (i 0 p).1;simp only[Addr.add]at hb;have r:=zq (show Calls prog 58 #[.slice (some (b,o)) ss.length c,.string ⟨#[32]⟩] w fun e w' => e= .returned (.string ⟨(Lib.join (ss.map (·.data.toList)) [32]).toArray⟩)/\Below w w w' from
   Any.strings_Join { Tryz.jL with } Tryz.bX b o c ss ⟨#[32]⟩ w (fun j x hj => by
    obtain⟨n,rfl⟩:=List.getElem?_eq_some_iff.1 hj;have:=(i j n).1;rwa [Addr.add_lit]at this) hb zZ z q)
  clear i h q;go_enter func23,ntmps23
  go_wp2_with (go_at_call 58;refine r.o.M ?_;rintro e w1 ⟨rfl,y⟩)
  go_ret
  exact⟨rfl,y⟩
theorem Ti(wd:ByteArray)(xs:List Int):Lib.join ((wd :: xs.map DX).map (·.data.toList)) [32] =Bg wd.data.toList xs:=by
 rw[List.map_cons,Lib.join_cons];unfold Lib.joinTail Bg;congr 1
 induction xs with
 |nil => rfl
 |cons x xs ih => simp only[List.map_cons,List.flatten_cons,List.flatMap_cons,ih];rfl
def WordsT(L:List ByteArray)(w:World)(e:Ending)(w':World):Prop:=∃A c f,e= .returned (.slice A L.length c)/\CC w' f (.slice A L.length c) L/\AL w w' f/\Below w w w'
theorem SL {xs:List Int}{k:Nat}(h:k<xs.length):(xs.take (k+1)).map DX=(xs.take k).map DX ++ [DX xs[k]]:=by
 rw[aK h,List.map_append];rfl
theorem digits_c(v xs f w)(h:AW w f v xs)(hx:Dc xs)(hl:xs.length<=2000000)(hT:Tab w):
  Calls prog 24 #[v] w (WordsT (xs.map DX) w):=by
 obtain⟨A,c,rfl,hc,hm,ho⟩:=AW.open_ h;obtain⟨i,l⟩:∃i,w.heap.size=i:=zJ;obtain⟨W1,r⟩:∃W1,w.alloc (.cells #[] 9)=W1:=zJ;have ae:Below i w W1:=by rw[<-r,<-l];exact Ac (aC _ _) _
 have z1:W1.heap.size=i+1:=by rw[<-r,<-l];simp
 have ac:=zq (show Ak 1 9 Dx W1 i (.slice (some (zE i)) 0 0) [] []from by
  rw[<-r,<-l];exact Ak.start ⟨rfl,.inr ⟨w.heap.size,0,#[],rfl,aD _,Blk.new w _ _,aD _,by unfold maxLen;omega,rfl,rfl⟩⟩)
 obtain⟨HX,HN,HT,aj⟩:=zH ho hx hT ae;obtain⟨am,x,HL⟩:=zI z1 l hl;clear h ho hx ae z1 hm hT;go_enter func24,ntmps24
 go_wp2_with fail
 try simp only[r,l]
 clear r l;go_loopw [9,3] (fun ix ov wx =>∃(k c2:Nat) (A2:Option Addr) (ds:List ByteArray),k<=xs.length/\ix=k/\ov= .slice A2 k c2/\Hid (ds=(xs.take k).map DX)/\Hid (Ak 1 9 Dx wx i (.slice A2 k c2) ds [])/\Hid (Below i w wx)/\Hid (i<wx.heap.size)) (fun ix _ _ => xs.length - (intOf ix).toNat)
 ·exact⟨0,0,some (zE i),[],by omega,rfl,rfl,rfl,ac.o,aj.o,(show i<_ by have:=am.o;omega)⟩
 ·clear ac;obtain⟨k,c2,A2,ds,hk,rfl,rfl,s,HO,HB,ab⟩:=hrel;by_cases z:k<xs.length
  ·obtain⟨ad,e1,-,b1,p1,-⟩:=HX.o k z;subst e1;have hb:Below w w wr:=by rw[x.o];exact HB.o
   have an:=(hb.cell (p:=ad.add k) b1).T p1;obtain⟨x0,x1⟩:=HN.o _ (aT z);obtain⟨n,hn⟩:=Int.eq_ofNat_of_zero_le x0;have aa:=SL z;rw[hn]at an aa;have al:=zq aa;have HF:=zq (PO n zZ wr (HT.o.B hb));have y:ds.length=k:=by rw[s.o,bH,aX];omega
   have af:(DX (n:Int)).size<=9223372036854775807:=by
    have:=EY (n:=n) zZ;show(Lib.decDigits n).toArray.size<=_
    simp;omega
   have ap:=ab.o;have ai:=zq (fun(w4:World) (b4:Below wr wr w4) => Qw (W:=w4.alloc (.cells #[.string (DX (n:Int))] 9)) (base:=i) (v:=.slice A2 k c2) (u:=.slice (some (zE w4)) 1 1) (ds:=ds) (D2:=[DX (n:Int)]) (HO.o.B Dx.L Dx.X (b4.T ((Ac (aC _ _) _).M b4.size))) (lit1 af) (fun a ha e => by
    have h1:=(HO.o.lt _ e).2;obtain⟨q,-,rfl⟩:=Bt.1 ha;have:=b4.size;simp[Addr.add]at h1;split at h1 <;> simp at h1 <;> omega) (by rw[y];have:=HL.o;simp;omega) (by have:=b4.size;simp;omega))
   have ao:(k:Int)<(xs.length:Int):=by omega
   have ak:=zq y;clear hb p1 hn aa y af x0 x1;go_wp2_with (first
    |(go_at_call 59;refine HF.o.M ?_;rintro e w4 ⟨rfl,b4⟩;have ah:=zq (ai.o w4 b4);have B4:=zq b4;clear b4)
    |(at_builtin;refine An rfl (.tmp 13) (.tmp 16) 79 rfl _ _ zT zT ah.o ?_;rintro v8 w8 ⟨A8,c8,rfl,o8,b8,s8⟩;have O8:=zq o8;have B8:=zq b8;have S8:=zq s8;clear o8 b8 s8))
   go_roundw
   ·have h7:=B4.o.size;have hg:=ab.o;have s8:=S8.o;have e:ds.length=k:=ak.o;have o8:=O8.o;have b8:=B8.o;rw[e]at o8⊢;refine⟨k+1,c8,A8,ds ++ [DX (n:Int)],by omega,by go_num,rfl,(show _=_ by rw[al.o,s.o]),o8,HB.o.T ((B4.o.M zZ).T (((Ac (aC _ _) _).M zZ).T b8)),(show i<_ by simp at s8;omega)⟩
   ·simp[intOf];omega
  ·obtain rfl:k=xs.length:=by omega
   go_wp2
   go_ret
   have h1:=HO.o;have hz:ds=xs.map DX:=by rw[s.o,bA]
   have ag:(xs.map DX).length =xs.length:=by simp
   rw[hz]at h1;obtain⟨gs,r1,r2⟩:=h1.tellS;refine⟨A2,c2,gs,?_,?_,?_,?_⟩
   ·show Ending.returned (.slice A2 xs.length c2)=_
    rw[ag]
   ·rw[ag];exact r1
   ·rw[x.o];exact r2
   ·rw[x.o];exact HB.o
theorem Ak.oneS(w:World)(x:ByteArray)(h:x.size<=9223372036854775807):Ak 1 9 Dx (w.alloc (.cells #[.string x] 9)) w (.slice (some (zE w)) 1 1) [x] []:=by
 refine⟨[[.string x]],[[]],rfl,rfl,rfl,World.ownsRow_lit (base:=w.heap.size) (e:=9) (size:=1) w #[.string x] 1 (aD _) (by unfold maxLen;omega) rfl,fun i f => ?_,fun a c => by cases c⟩;match i,f with
 |0,_ => exact⟨by simp,by simp,rfl,rfl,rfl,h⟩
theorem Qm(l:List UInt8):Lib.strCells ⟨l.toArray⟩=Lib.byteCells l:=by simp[Lib.strCells,Lib.byteCells]
theorem NL(a b:List UInt8):Lib.byteCells (a ++ b)=Lib.byteCells a ++ Lib.byteCells b:=by simp[Lib.byteCells]
def Said(B b c e:Nat)(bs l:List UInt8)(w w':World):Prop:=Bld B b c e (Lib.byteCells (bs ++ l)) w'/\Below B w w'/\∀k,c<=k->k<e->w'.heap[k]? =w.heap[k]?
theorem say_of {B b c f}{bs l:List UInt8}{w i:World}(h:Bld B b c f (Lib.byteCells bs) w)(hb:Below w w i)(hn:bs.length+l.length<=100000000000000):
  Calls prog 22 #[.pointer (some (zE b)),.string ⟨l.toArray⟩] i fun e w' =>(∃v,e= .returned v)/\Said B b c f bs l w w':=by
 refine(NT B b c f _ _ i (h.B hb) (by rw[GM];simp[ByteArray.size];omega)).M ?_;rintro e w' ⟨rfl,n,o,p⟩;rw[Qm,<-NL]at n;exact⟨⟨_,rfl⟩,n,(hb.M (aZ h.base (Nat.le_of_lt h.size))).T o,fun k k0 k1 =>(p k k0 k1).T (hb.block k (aH k1 h.le))⟩
theorem N5(wd:List UInt8)(xs v f B b M0 M1)(bs:List UInt8)(w)(h:AW w f v xs)(hx:Dc xs)(hl:xs.length<=2000000)(hT:Tab w)(af:wd.length<=100)(hb:Bld B b M0 M1 (Lib.byteCells bs) w)(ah:bs.length<=70000000000000):
  Calls prog 21 #[.string ⟨wd.toArray⟩,v,.pointer (some (zE b))] w fun e w' => e= .returned (.tuple #[])/\Said B b M0 M1 bs (Bg wd xs ++ [10]) w w':=by
 have ae:=DJ wd xs hx;obtain⟨i,u⟩:∃S:ByteArray,⟨wd.toArray⟩=S:=zJ;have ag:i.size<=100:=by subst u;simpa [ByteArray.size]using af
 have e0:i.data.toList=wd:=by subst u;rfl
 obtain⟨p,x⟩:∃p,w.alloc (.cells #[.string i] 9)=p:=zJ;have s:Below w w p:=by rw[<-x];exact Ac (aC _ _) _
 have z1:p.heap.size=w.heap.size+1:=by rw[<-x];simp
 have aa:Ak 1 9 Dx p w (.slice (some (zE w)) 1 1) [i] []:=by rw[<-x];exact Ak.oneS w i zZ
 have HD:=zq (digits_c v xs f p (AC.B (R:=fun w f (_:List Value) d => AW w f v d) (fun _ _ _ _ _ h hs => rSl.keep Aw.L h hs) (fun _ _ _ _ h => rSl.there Aw.X h) (cs:=[]) h s) hx hl (hT.B s));have HN:=zq (show Lib.join ((i :: xs.map DX).map (·.data.toList)) [32] =Bg wd xs by rw[Ti,e0]);have y:=zq (show∀(w2:World) (A:Option Addr) (c:Nat) (gs:List Addr),CC w2 gs (.slice A (xs.map DX).length c) (xs.map DX)->AL p w2 gs->Below p p w2->∃v' w',(Builtin.append_ #[79,79] 79 #[.slice (some (zE w)) 1 1,.slice A (xs.map DX).length c]).run prog w2= .ok v' w'/\
   (Calls prog 23 #[v'] w' fun e w4 => e= .returned (.string ⟨(Bg wd xs).toArray⟩)/\Below w w w4)from by
  intro w2 A c gs r m z;obtain⟨v',w',q,A2,c2,rfl,o,b3,s3⟩:=Qw (aa.B Dx.L Dx.X z) r (fun a ha e => by
   have:=m.from_ a ha;simp[Value.ownBlock]at e;omega) zV (by have:=z.size;omega)
  refine⟨_,w',q,?_⟩;have he:(i :: xs.map DX).length =([i].length +(xs.map DX).length):=by simp;omega
  have o2:Ak 1 9 Dx w' w (.slice A2 (i :: xs.map DX).length c2) (i :: xs.map DX) []:=by rw[he];exact o
  obtain⟨ac,r2,-⟩:=o2.tellS;rw[he]at r2;refine(join_c _ _ ac w' r2 zX (by rw[HN.o];omega) zV).M ?_;rintro e w4 ⟨rfl,b4⟩;rw[HN.o];exact⟨rfl,s.T ((z.M zZ).T (b3.T (b4.M (by have:=z.size;omega))))⟩)
 have HW:=zq (fun(w1:World) (q:Below w w w1) => say_of (l:=Bg wd xs ++ [10]) hb q (by rw[aU];simp;omega));have HS:=zq (show(⟨(Bg wd xs).toArray⟩:ByteArray) ++⟨#[10]⟩=⟨(Bg wd xs ++ [10]).toArray⟩from Bz _ [10]);obtain⟨L,hL⟩:∃L:ByteArray,⟨(Bg wd xs).toArray⟩=L:=zJ;have ad:L.size<=100+14 * 2000000:=by subst hL;simp[ByteArray.size];omega
 have n1:¬9223372036854775807<L.size+1:=by omega
 rw[hL]at HS y;obtain⟨n,hn⟩:∃n,(xs.map DX).length =n:=zJ;unfold WordsT at HD;rw[hn]at HD y;rw[u];clear ae u ag e0 s z1 aa h hx hT hb HN hL ad hn;go_enter func21,ntmps21
 go_wp2_with (first
  |(go_at_call 24;(try rw[x]);refine HD.o.M ?_;rintro e w2 ⟨A,c,gs,rfl,r,m,z⟩;have HA:=zq (y.o w2 A c gs r m z);clear r m z)
  |(at_builtin;refine An rfl (.tmp 6) (.tmp 8) 79 rfl _ _ zT zT HA.o ?_;rintro v3 w3 hJ;have HJ:=zq hJ;clear hJ)
  |(go_at_call 23;refine HJ.o.M ?_;rintro e w4 ⟨rfl,b4⟩;have ab:=zq (HW.o w4 b4);clear b4)
  |(go_at_call 22;rw[HS.o];refine ab.o.M ?_;rintro e w5 ⟨⟨v5,rfl⟩,h5⟩;have H5:=zq h5;clear h5))
 go_end0
 exact⟨rfl,H5.o⟩
theorem Ak.oneI(w:World)(x)(h:okI x):Ak 1 2 Aw (w.alloc (.cells #[int i64 x] 2)) w (.slice (some (zE w)) 1 1) [x] []:=by
 refine⟨[[int i64 x]],[[]],rfl,rfl,rfl,World.ownsRow_lit (base:=w.heap.size) (e:=2) (size:=1) w #[int i64 x] 1 (aD _) (by unfold maxLen;omega) rfl,fun i f => ?_,fun a c => by cases c⟩;match i,f with
 |0,_ => exact⟨by simp,by simp,rfl,rfl,rfl,h⟩
theorem Qx(wd:List UInt8)(x L v f b s u)(bs:List UInt8)(h o:World)(i:Below (h.heap.size+1) (h.alloc (.cells #[int i64 x] 2)) o)(hr:AW o f v L)(hf:∀a,a∈f->a.block≠h.heap.size)(hx:Dc (x :: L))(hl:L.length<=1000000)(hT:Tab h)(z:wd.length<=100)(hb:Bld b b s u (Lib.byteCells bs) h)(y:bs.length<=70000000000000):
  ∃l w',(Builtin.append_ #[25,25] 25 #[.slice (some (zE h)) 1 1,v]).run prog o= .ok l w'/\
   Calls prog 21 #[.string ⟨wd.toArray⟩,l,.pointer (some (zE b))] w' fun e n => e= .returned (.tuple #[])/\Said b b s u bs (Bg wd (x :: L) ++ [10]) h n:=by
 have hz:(h.alloc (.cells #[int i64 x] 2)).heap.size =h.heap.size+1:=by simp
 have aa:=hx x List.mem_cons_self;have ho:Ak 1 2 Aw o h (.slice (some (zE h)) 1 1) [x] []:=(Ak.oneI h x (by unfold okI;omega)).B Aw.L Aw.X (by rw[hz];exact i);have h8:Below h h o:=(Ac (aC _ _) _).T (i.M zZ);obtain⟨l,w',q,⟨A,c,e⟩,⟨gs,r,-⟩,b9⟩:=addNumL ho hr (fun a ha e => by
  simp[Value.ownBlock]at e;exact hf a ha e.symm) zV h8.size
 have p:Below h h w':=h8.T b9;refine⟨l,w',q,(N5 wd (x :: L) l gs b b s u bs w' r hx zV (hT.B p) z (hb.B p) y).M ?_⟩;rintro e n ⟨rfl,s1,s2,s3⟩;exact⟨rfl,s1,(p.M (Nat.le_of_lt hb.size)).T s2,fun k k0 k1 =>(s3 k k0 k1).T (p.block k (aH k1 hb.le))⟩
theorem lit3 {w:World}{g:Nat}{x y z:ByteArray}(c:w.cell? ⟨g,0,none⟩=some (.string x))(h1:w.cell? ⟨g,1,none⟩=some (.string y))(e:w.cell? ⟨g,2,none⟩=some (.string z))(h:x.size<=1000000000/\y.size<=1000000000/\z.size<=1000000000):CC w (Bf (zE g) 3) (.slice (some (zE g)) 3 3) [x,y,z] :=
 CC.close_ (ss:=[x,y,z]) (aD _) zZ fun k f => by
  rw[Addr.add_lit,Nat.zero_add];match k,f with
  |0,_ => exact⟨c,by simp;omega⟩
  |1,_ => exact⟨h1,by simp;omega⟩
  |2,_ => exact⟨e,by simp;omega⟩
theorem join_obj(t:Th):Lib.join (([⟨#[111,98,106,101,99,116]⟩,t.name,⟨(EI t).toArray⟩]:List ByteArray).map (·.data.toList)) [32] ++ [10] =Eo t:=by
 rw[List.map_cons,Lib.join_cons];unfold Lib.joinTail Eo Ko;simp
theorem line_obj(t:Th)(o:t.name.size<=1000000/\t.bytes.length<=1000000)(V:World)(g:Nat)(i:V.cell? ⟨g,0,none⟩=some (.string ⟨#[111,98,106,101,99,116]⟩))(h1:V.cell? ⟨g,1,none⟩=some (.string t.name))(l:V.cell? ⟨g,2,none⟩=some (.string ⟨(EI t).toArray⟩)):
  Calls prog 23 #[.slice (some (zE g)) 3 3] V fun e w' =>∃J:ByteArray,e= .returned (.string J)/\J.size<=4000000/\J ++⟨#[10]⟩=⟨(Eo t).toArray⟩/\Below V V w':=by
 have f:=join_obj t;have n:=Kn o;obtain⟨J,c⟩:∃J,Lib.join (([⟨#[111,98,106,101,99,116]⟩,t.name,⟨(EI t).toArray⟩]:List ByteArray).map (·.data.toList)) [32] =J:=zJ;rw[c]at f;rw[<-f,aU]at n;have p:(EI t).length<=4000000:=by
  unfold EI;split
  ·simp only[NZ,List.length_cons,List.length_nil];omega
  ·rw[FC];omega
 refine(join_c _ _ _ V (lit3 i h1 l ⟨by decide,by omega,Dg rfl zZ⟩) zX (by rw[c];omega) zX).M ?_;rintro e w' ⟨rfl,h⟩;rw[c];exact⟨_,rfl,Dg rfl zZ,by rw[<-f];exact Bz J [10],h⟩
theorem OB(d X cs f w)(h:AG w f cs d)(ac:Int)(e7:ac=0)(hF:H7 d X)(hT:Tab w)(de:∀V,AG V f cs d->Calls prog 20 #[.agg cs] V (zN ac V))(dy:∀V p f1,AtW V p f1 d.world->Calls prog 25 #[.pointer (some (zE p))] V fun e w' =>∃v gs,e= .returned v/\F8 w' gs v X/\AL V w' gs/\Below V V w')(eg:d.world.s.sh.Ok)(hG:d.world.s.g+d.world.s.c=d.world.g.length)(hQ:d.desk.queues.length=d.world.g.length):
  Calls prog 7 #[.agg cs] w (zN (.string ⟨(GP d X).toArray⟩) w):=by
 have eb:=h.next.2;obtain⟨W0,cy⟩:∃W0,w.alloc (.cells cs.toArray 49)=W0:=zJ;have hB:Below w w W0:=by rw[<-cy];exact Ac (aC _ _) _
 have K1:Blk W0 w 49 cs.toArray:=by rw[<-cy];exact Blk.new w _ _
 have br:=zq (de W0 (AC.B AG.L AG.X h hB));obtain⟨c1,A1,A3,A4,k1,k3,k4,f1,g0,g1,ax⟩:=Box.of h hB K1;obtain⟨cg,dr,HI,dg⟩:=zH (fun(V:World) (hV:Below W0 W0 V) => ax.B hV) (Blk.rangeAll K1) (show(prog.info? 49).map (·.size)=some cs.length by rw[eb];kernel_rfl) hB;obtain⟨bz,d0,bs⟩:=zI (fun(V:World) (hV:Below W0 W0 V) => dy V w f1 (ax.B hV).aw) (fun(V:World) (hV:Below W0 W0 V) =>(hT.B hB).B hV) (fun(V:World) => Fq d.world.s.sh eg V);have fx:=ax.lt;obtain⟨dn,c0⟩:∃dn,d.world.down=dn:=zJ;obtain⟨dv,bp⟩:∃dv:Int,(if dn=true then 1 else 0)=dv:=zJ;have eo:=zq bp;have dh:=zq c0;have ed:Dc [d.desk.turn,dv]:=fun x hx => by
  rcases List.mem_cons.1 hx with rfl|hx
  ·exact hF.turn
  ·obtain rfl:=List.mem_singleton.1 hx;rw[<-bp];split <;> omega
 obtain⟨ck,ab,di⟩:=zI ed hF (Jl hF);have ch:=zq (show(Bg EU [d.desk.turn,dv] ++ [10]) ++(Bg sOn d.world.on ++ [10])=Ec d from by
  unfold Ec;rw[c0,bp];simp only[List.append_assoc])
 subst e7;clear h ax hB K1 c0 bp de dy eg hF ed hT;go_enter func7,ntmps7
 go_upto_if 20 with(first
  |(refine aE rfl 49 _ rfl w 0 rfl cs _ dr.o underlying49 rfl HI.o ?_)
  |(go_at_call 20;(try rw[cy]);refine br.o.M ?_;rintro e i ⟨rfl,b3⟩;have cr:=zq (cg.o i b3);have d4:=cr.o.dn;rw[dh.o]at d4;have fg:=cr.o.lt;have B3:=zq b3;clear b3))
 obtain⟨W4,a0⟩:∃W4,i.alloc (.cells #[.pointer none,zQ] 73)=W4:=zJ
 (try rw[a0])
 have b4:Below i i W4:=by rw[<-a0];exact Ac (aC _ _) _
 have z4:W4.heap.size=i.heap.size+1:=by rw[<-a0];simp
 have bt:=zq (show Bld i i (i.heap.size+1) (i.heap.size+1) (Lib.byteCells []) W4 from by
  refine⟨?_,⟨.slice none 0 0,?_,fun k hk => by cases hk⟩,Nat.lt_succ_self _,by omega,aD _⟩
  ·rw[<-a0];exact Lib.fresh_isBuilder _ _ _
  ·rw[<-a0];exact(Blk.new i 73 #[.pointer none,zQ]).cell 1)
 obtain⟨ah,a8,dz,bj,ce⟩:=zG (fun(V:World) (hV:Below i i V) => cg.o V (B3.o.T (hV.M B3.o.size))) (fun(V:World) (hV:Below i i V) => d0.o V (B3.o.T (hV.M B3.o.size))) (fun(V:World) (hV:Below i i V) => bz.o V (B3.o.T (hV.M B3.o.size))) (dg.o.T (B3.o.M dg.o.size)) b4;have b0:=(ah.o W4 b4).dn;rw[dh.o]at b0;have fh:=(ah.o W4 b4).lt;clear cg d0 bz d4 b4 br dr HI cr fg;try clear a0
 go_cut [5] (fun v wx => v= int i64 dv/\wx=W4)
 ·cases dn
  all_goals
   go_wp2
   go_meet
   exact⟨by rw[<-eo.o];rfl,rfl⟩
 ·obtain⟨rfl,rfl⟩:=hcut;clear b0;have e4:=(ah.o wc ce.o).tn;have BA:=zq (show Below i i (wc.alloc (.cells #[d.desk.turn,int i64 dv] 2))from ce.o.T ((Ac (aC _ _) _).M zZ));have dt:=zq (show Calls prog 21 #[.string ⟨#[116,117,114,110]⟩,.slice (some (zE wc)) 2 2,.pointer (some (zE i))] (wc.alloc (.cells #[d.desk.turn,int i64 dv] 2)) fun e w' => e= .returned (.tuple #[])/\Bld i i (i.heap.size+1) (i.heap.size+1) (Lib.byteCells (Bg EU [d.desk.turn,dv] ++ [10])) w'/\Below i i w' from by
   refine(N5 EU [d.desk.turn,dv] _ _ i i (i.heap.size+1) (i.heap.size+1) [] _ (litI (w:=wc.alloc (.cells #[d.desk.turn,int i64 dv] 2)) (g:=wc.heap.size) (xs:=[d.desk.turn,dv]) zX (fun k hk => by
    match k,hk with
    |0,_ => exact(Blk.new wc 2 #[d.desk.turn,int i64 dv]).cell 0
    |1,_ => exact(Blk.new wc 2 #[d.desk.turn,int i64 dv]).cell 1) ck.o) ck.o zX (a8.o _ BA.o) (by simp[EU]) (bt.o.B (Ac (aC _ _) _)) zX).M ?_
   rintro e w' ⟨rfl,s1,s2,-⟩;exact⟨rfl,s1,BA.o.T s2⟩)
  have ea:=di.o;rw[<-ch.o,aU]at ea;have du:=zq (show∀V,Below i i V->Bld i i (i.heap.size+1) (i.heap.size+1) (Lib.byteCells (Bg EU [d.desk.turn,dv] ++ [10])) V->Calls prog 21 #[.string ⟨#[111,110]⟩,.slice A1 d.world.on.length k1,.pointer (some (zE i))] V fun e w' => e= .returned (.tuple #[])/\Bld i i (i.heap.size+1) (i.heap.size+1) (Lib.byteCells (Ec d)) w'/\Below i i w' from fun V hV hB => by
   obtain⟨fo,ho⟩:=(ah.o V hV).ron;refine(N5 sOn d.world.on _ fo _ _ _ _ _ V ho ab.o.on (by have:=ab.o.onl;omega) (a8.o V hV) (by simp[sOn]) hB zZ).M ?_;rintro e w' ⟨rfl,s1,s2,-⟩;rw[ch.o]at s1;exact⟨rfl,s1,hV.T s2⟩)
  clear ea;clear z4;go_wp2_with (first
   |(go_at_call_has 21 d.world.on.length;refine bw.o.M ?_;rintro e w6 ⟨rfl,h6,b6⟩;have bu:=zq h6;have B6:=zq b6;have bx:=zq (dz.o w6 b6);clear h6 b6)
   |(go_at_call 21;refine dt.o.M ?_;rintro e w5 ⟨rfl,s1,s2⟩;have B5:=zq s2;have e2:=(ah.o w5 B5.o).on;have fi:=(ah.o w5 B5.o).lt;have bw:=zq (du.o w5 B5.o s1);clear s1 s2)
   |(go_at_call 25;refine bx.o.M ?_;rintro e w7 ⟨v7,f7,rfl,r7,m7,b7⟩;obtain⟨A7,c7,rfl,e9,fc⟩:=rSl.head r7;have bv:=zq (bu.o.zone b7);have R7:=zq r7;have M7:=zq m7;have B7:=zq (B6.o.T (b7.M B6.o.size));have dk:=zq (rSl.there rTh.X r7);clear r7 m7 b7))
  have co:=zq (show∀j,j<=X.length->(Ec d ++(X.take j).flatMap Eo).length<=30000000000000 from fun j hj => by
   have h1:=Jl ab.o;have h2:=Jh (f:=Eo) (b:=4000000) (X.take j) (fun x hx => Kn (ab.o.xs x (List.mem_of_mem_take hx)));have h3:=ab.o.xl;rw[aX,Nat.min_eq_left hj]at h2;have h4:j * 4000000<=5000000 * 4000000:=Nat.mul_le_mul_right _ zZ;rw[aU];omega)
  have fe:=ab.o.xl;have dm:=zq (fun a ha => M7.o.from_ a ha);clear bx dz dt du bw bt bu ce BA B5 e4 e2 fh fi ck ch M7;go_loopw [36] (fun ix wr =>∃(j:Nat),j<=X.length/\ix=j/\Hid (Bld i i w6 w7 (Lib.byteCells (Ec d ++(X.take j).flatMap Eo)) wr)/\Hid (F8 wr f7 (.slice A7 X.length c7) X)/\Hid (Below i i wr)) (fun ix _ => X.length - (intOf ix).toNat)
  ·exact⟨0,by omega,rfl,(show Bld _ _ _ _ _ _ by rw[List.take_zero,List.flatMap_nil,List.append_nil];exact bv.o),R7.o,B7.o⟩
  ·clear bv R7;obtain⟨j,hj,rfl,n,HR,HB⟩:=hrel;by_cases an:j<X.length
   ·obtain⟨A',c',ev,hc,hm,hx⟩:=rSl.at_ rTh.X zW HR.o;injection ev with cu bk cv
    subst cu cv;obtain⟨ad,b3,o3,e5,f3,rfl,ae⟩:=hx j an;have eh:=ae.place;have e8:=ae.lt;obtain⟨v0,e,fd,bf⟩:=ae.reads;subst e;obtain⟨Ab,cb,rfl,fa⟩:=rSl.head bf;obtain⟨nb,ee⟩:∃nb,X[j].bytes.length =nb:=zJ;rw[ee]at ae bf;have au:=zq (show wr.rangeAt b3 o3 [.string X[j].name,.bool X[j].lost,.slice Ab nb cb]from fun q v hq => by
     have ei:q<3:=(List.getElem?_eq_some_iff.1 hq).1;rw[ae.cell q ei,<-hq];exact(aO ei).symm)
    have fb:(j:Int)<(X.length:Int):=by omega
    have z:=GW (f:=Eo) an;have bq:=ab.o.xs _ (aT an);have aq:=co.o j hj;obtain⟨t,ht⟩:∃t,X[j] =t:=zJ;rw[ht]at bf z bq au;obtain⟨Z,hZ⟩:∃Z:Array Value,#[.string ⟨#[]⟩,.bool false,.slice none 0 0] =Z:=zJ;have cz:Z.size=3:=by rw[<-hZ];rfl
    have KZ:=Blk.new wr 63 Z;have ex:=zq (Blk.there KZ 3 (by rw[cz];exact aD _));obtain⟨w8,bn⟩:∃w8,(wr.alloc (.cells Z 63)).setCells wr 0 [.string t.name,.bool t.lost,.slice Ab nb cb] =w8:=zJ;have K8:=zq (show Blk w8 wr 63 #[.string t.name,.bool t.lost,.slice Ab nb cb] by rw[<-bn];exact Blk.laid KZ [.string t.name,.bool t.lost,.slice Ab nb cb] (by rw[cz];rfl));have b8:Below wr wr w8:=by rw[<-bn];exact AS (Ac (aC _ _) _) _ 0 (aD _)
    have cp:=zq bn;have dc:=K8.o.lt;have p1:w8.cell? ⟨wr.heap.size,1,none⟩=some (.bool t.lost):=(K8.o.cell 1).T rfl;have p2:w8.cell? ⟨wr.heap.size,2,none⟩=some (.slice Ab nb cb):=(K8.o.cell 2).T rfl;obtain⟨dj,cj,ey,B8,cn,ew⟩:=zF (PP (.slice Ab nb cb) t.bytes f3 w8 (bf.B b8) zZ) (fun(V:World) (g:Nat) => line_obj t bq V g) bq b8 z aq;obtain⟨lo,c5⟩:∃lo,t.lost=lo:=zJ;have dw:=zq (show(⟨(EI t).toArray⟩:ByteArray)=if lo=true then⟨#[108,111,115,116]⟩else Gl t.bytes from by
     unfold EI;rw[c5];cases lo <;> rfl)
    rw[c5]at au K8 p1 cp;obtain⟨nm,b2⟩:∃nm,t.name=nm:=zJ;rw[b2]at au K8 cj cp;obtain⟨fr,b1⟩:∃S:ByteArray,Gl t.bytes=S:=zJ;rw[b1]at dj dw;have p0:w8.cell? ⟨wr.heap.size,0,none⟩=some (.string nm):=(K8.o.cell 0).T rfl;have dx:=zq (fun(V:World) (hV:Below wr wr V) => say_of (l:=Eo t) n.o hV (by have:=ew.o;have:=Kn ey.o;omega));clear ae hx z bq aq ht bf fd bn KZ cz b8 c5 b2 b1 bk hc hm ee fa;have av:∀(D:ByteArray) (w9:World),(⟨(EI t).toArray⟩:ByteArray)=D->Below w8 w8 w9->Hid (Calls prog 23 #[.slice (some (zE w9)) 3 3] (w9.alloc (.cells #[.string ⟨#[111,98,106,101,99,116]⟩,.string nm,.string D] 9)) fun e w' =>∃J:ByteArray,e= .returned (.string J)/\¬9223372036854775807<J.size+1/\Hid (Calls prog 22 #[.pointer (some (zE i)),.string (J ++⟨#[10]⟩)] w' fun e w' =>(∃v,e= .returned v)/\Hid (Said i i w6 w7 (Ec d ++(X.take j).flatMap Eo) (Eo t) wr w'))):=fun D w9 hD b9 => by
     have K:=Blk.new w9 9 #[.string ⟨#[111,98,106,101,99,116]⟩,.string nm,.string D];refine(cj.o _ w9 (K.cell 0) (K.cell 1) (by rw[hD];exact K.cell 2)).M ?_;rintro e w' ⟨J,rfl,hJ,e6,bJ⟩;refine⟨J,rfl,by omega,?_⟩;rw[e6];exact dx.o w' (B8.o.T ((b9.M B8.o.size).T ((Ac (aC _ _) _:Below w9 w9 _).T (bJ.M zX)|>.M (aZ B8.o.size b9.size))))
    have ep:=zq av;clear av cj dx;cases lo
    all_goals
     have a7:=dw.o;simp only[if_true,if_false,Bool.false_eq_true]at a7;have eu:=zq a7;clear a7;go_wp2_with (first
      |(refine aE rfl 63 _ rfl b3 o3 rfl _ _ au.o underlying63 rfl zY ?_)
      |(refine aV rfl 63 _ _ rfl wr 0 #[.string nm,.bool _,.slice Ab nb cb] rfl rfl ex.o zY zU ?_;rw[cp.o])
      |(go_at_call 26;refine dj.o.M ?_;rintro e w9 ⟨rfl,b9⟩;have r0:=(b9.cell (p:=⟨wr.heap.size,0,none⟩) dc).T p0;have r1:=(b9.cell (p:=⟨wr.heap.size,1,none⟩) dc).T p1;have rz:=aH dc b9.size;have eq:=ep.o _ w9 eu.o b9;clear b9)
      |(go_at_call 23;refine eq.o.M ?_;rintro e fz ⟨J,rfl,n1,HJ⟩)
      |(go_at_call 22;refine HJ.o.M ?_;rintro e f0 ⟨⟨fy,rfl⟩,em⟩))
     go_roundw
     ·obtain⟨s1,s2,s3⟩:=em.o;refine⟨j+1,by omega,by go_num,(show Bld _ _ _ _ _ _ from by rw[cn.o,<-List.append_assoc];exact s1),rSl.keep rTh.L HR.o (fun a ha => World.cell?_of_block (s3 _ (dm.o a ha) (dk.o a ha))),HB.o.T s2⟩
     ·simp[intOf];omega
   ·obtain rfl:j=X.length:=by omega
    have r:=n.o;have aq:=co.o _ hj;rw[bA]at aq r;obtain⟨ar,rfl⟩:∃ar,ar=wr:=⟨wr,rfl⟩;have bi:=zq HB.o;obtain⟨P1,cw⟩:∃P1,Ec d ++ X.flatMap Eo=P1:=zJ;rw[cw]at r aq;obtain⟨er,ez,a4⟩:=zI cw aq r;obtain⟨nG,bd⟩:∃nG,d.world.g.length=nG:=zJ;have dp:=zq bd;have c2:=ab.o.gl;rw[bd]at c2;have df:=zq (show Calls prog 27 #[.agg (shL d.world.s).toArray] ar fun e w' => e= .returned nG/\Below ar ar w' from by
     have:=bs.o ar;rw[<-bd,<-hG];exact this)
    have cm:=zq hQ;rw[bd]at cm;obtain⟨d3,et,ai⟩:=zI (fun(g:Nat) => Km (wd:=Dt) (g:=g) (L:=DZ (AD d.world g) (AD d.world g).length) (by simp[Dt])) (fun(g:Nat) => Km (wd:=Ds) (g:=g) (L:=BJ ((d.desk.queues[g]?).getD [])) (by simp[Ds])) (ah.o ar bi.o);have fj:=ai.o.lt;clear co n HR HB aq cw bd bs B7 hj an r dm dk e9 fc fe di hG hQ;go_wp2_with (first
     |(refine aE rfl 38 _ rfl w 0 rfl (shL d.world.s) _ ai.o.sh underlying38 rfl zY ?_)
     |(go_at_call 27;refine df.o.M ?_;rintro e f2 ⟨rfl,ct⟩;have el:=zq (bi.o.T (ct.M bi.o.size));have a5:=zq (a4.o.B ct);clear ct))
    clear ai fj a4 df bi B6;go_loopw [57] (fun ix wr =>∃(g:Nat),g<=nG/\ix=g/\Hid (Bld i i w6 w7 (Lib.byteCells (P1 ++(List.range g).flatMap (DT d))) wr/\(P1 ++(List.range g).flatMap (DT d)).length<=30000000000000+g * 15000000)/\Hid (Below i i wr)) (fun ix _ => nG - (intOf ix).toNat)
    ·exact⟨0,by omega,rfl,(show _/\_ by rw[List.range_zero,List.flatMap_nil,List.append_nil];exact⟨a5.o,by have:=ez.o;omega⟩),el.o⟩
    ·clear a5;obtain⟨g,hg,rfl,n,HB⟩:=hrel;by_cases an:g<nG
     ·have fu:(g:Int)<(nG:Int):=by omega
      have ai:=zq (ah.o wr HB.o);obtain⟨af,ag⟩:=ab.o.wip (g:=g);have a9:=zq (PQ w f1 d.world g wr ai.o.aw (by rw[dp.o];exact an) (ab.o.dl g));have z:=Eh (f:=DT d) (j:=g);have am:=d3.o g zZ ag af;have y:DT d g=EQ Dt g (DZ (AD d.world g) (AD d.world g).length):=rfl;have ak:g * 15000000<=1000000 * 15000000:=Nat.mul_le_mul_right _ zZ;obtain⟨L,hL⟩:∃L,DZ (AD d.world g) (AD d.world g).length =L:=zJ;rw[hL]at a9 af ag am y;by_cases ap:L= []
      ·subst ap;have e:DT d g= []:=by rw[y];unfold EQ;rw[aM rfl]
       have HE:=zq (show(P1 ++(List.range (g+1)).flatMap (DT d))=P1 ++(List.range g).flatMap (DT d) by rw[z,e,List.append_nil]);clear af ag z am y hL ak e;go_wp2_with (go_at_call 28;refine a9.o.M ?_;rintro e u ⟨A8,c8,f8,rfl,r8,m8,aa⟩;have a2:=zq aa;clear r8 m8 aa)
       go_roundw
       ·exact⟨g+1,by omega,by go_num,(show _/\_ by rw[HE.o];exact⟨n.o.1.B a2.o,aZ n.o.2 (Nat.add_le_add_left (Nat.mul_le_mul_right _ (Nat.le_succ g)) _)⟩),HB.o.T (a2.o.M HB.o.size)⟩
       ·simp[intOf];omega
      ·obtain⟨nL,c6⟩:∃nL,L.length=nL:=zJ;have ef:0<nL:=by rw[<-c6];exact List.length_pos_iff.2 ap
       have bh:DT d g=Bg Dt ((g:Int) :: L) ++ [10]:=by rw[y,G9];unfold EQ;rw[aJ ap]
       rw[<-y]at am;have bb:Dc ((g:Int) :: L):=fun x hx => by
        rcases List.mem_cons.1 hx with rfl|hx
        ·omega
        ·exact ag x hx
       have cd:=zq (show∀(u:World) (v:Value) (fv:List Addr),AW u fv v L->Below wr wr u->∃v' w',(Builtin.append_ #[25,25] 25 #[.slice (some (zE u)) 1 1,v]).run prog (u.alloc (.cells #[int i64 (g:Int)] 2))= .ok v' w'/\Hid (Calls prog 21 #[.string ⟨#[119,105,112,101,100]⟩,v',.pointer (some (zE i))] w' fun e aj => e= .returned (.tuple #[])/\Hid (Bld i i w6 w7 (Lib.byteCells (P1 ++(List.range (g+1)).flatMap (DT d))) aj/\Below i i aj))from fun u v fv hv aa => by
        have d6:=n.o.1.B aa;obtain⟨v',w',q,hc⟩:=Qx Dt (g:Int) L v fv i _ _ _ u (u.alloc (.cells #[int i64 (g:Int)] 2)) (aC _ _) (rSl.B Aw.L Aw.X hv (Ac (aC _ _) _)) (fun a ha e => by
         have:=rSl.there Aw.X hv a ha;omega) bb af (a8.o _ (HB.o.T (aa.M HB.o.size))) (by simp[Dt]) d6 (by have:=n.o.2;omega)
        refine⟨v',w',q,hc.M ?_⟩;rintro e aj ⟨rfl,s1,s2,-⟩;rw[<-bh,List.append_assoc,<-z]at s1;exact⟨rfl,s1,(HB.o.T (aa.M HB.o.size)).T s2⟩)
       have ci:=zq (show(P1 ++(List.range (g+1)).flatMap (DT d)).length<=30000000000000+(g+1) * 15000000 from by
        have:=n.o.2;rw[z,<-List.append_assoc,aU];omega)
       unfold H9 at a9;rw[c6]at a9;clear af ag z am y bh hL bb ap ak c6;go_wp2_with (first
        |(go_at_call 28;refine a9.o.M ?_;rintro e u ⟨A8,c8,f8,rfl,r8,m8,aa⟩;have a3:=zq (cd.o u _ _ r8 aa);clear r8 m8 aa)
        |(at_builtin;refine An rfl (.tmp 68) (.tmp 69) 25 rfl _ _ zT zT a3.o ?_;rintro fl w15 HJ)
        |(go_at_call 21;refine HJ.o.M ?_;rintro e ek ⟨rfl,ao⟩))
       go_roundw
       ·exact⟨g+1,by omega,by go_num,⟨ao.o.1,ci.o⟩,ao.o.2⟩
       ·simp[intOf];omega
     ·obtain rfl:g=nG:=by omega
      have r:=n.o.1;have ej:=n.o.2;obtain⟨dd,rfl⟩:∃dd,dd=wr:=⟨wr,rfl⟩;have b5:=zq HB.o;obtain⟨P2,cx⟩:∃P2,P1 ++(List.range g).flatMap (DT d)=P2:=zJ;rw[cx]at r ej;have ak:g * 15000000<=1000000 * 15000000:=Nat.mul_le_mul_right _ c2;obtain⟨e1,es,a4,ba⟩:=zH (show P2.length<=46000000000000 by omega) cx r (ah.o dd b5.o);obtain⟨nQ,c9⟩:∃nQ,d.desk.queues.length=nQ:=zJ;have d5:=ba.o.qu;have ff:=ba.o.lt;rw[c9]at d5 cm;have cl:=zq c9;obtain rfl:nQ=g:=cm.o;clear ej cx ak n HB hg an d3 r c9 ba;go_wp2_with fail
      clear d5 ff;go_loopw [77] (fun ix wr =>∃(k:Nat),k<=nQ/\ix=k/\Hid (Bld i i w6 w7 (Lib.byteCells (P2 ++(List.range k).flatMap (DP d))) wr/\(P2 ++(List.range k).flatMap (DP d)).length<=46000000000000+k * 15000000)/\Hid (Below i i wr)) (fun ix _ => nQ - (intOf ix).toNat)
      ·exact⟨0,by omega,rfl,(show _/\_ by rw[List.range_zero,List.flatMap_nil,List.append_nil];exact⟨a4.o,by have:=e1.o;omega⟩),b5.o⟩
      ·clear a4 b5;obtain⟨k,hk,rfl,n,HB⟩:=hrel;by_cases an:k<nQ
       ·have fb:(k:Int)<(nQ:Int):=by omega
        have c4:k<d.desk.queues.length:=by rw[cl.o];exact an
        have ai:=zq (ah.o wr HB.o);have ay:=ai.o.rqu;rw[cl.o]at ay;obtain⟨fn,ft,ev,d9,ec,da⟩:=rSl.at_ (Ai.X Ag.X) zW ay;injection ev with cu bk cv
        subst cu cv;obtain⟨ad,b3,o3,e5,fq,rfl,ae⟩:=da k c4;have eh:=ae.place;rw[Nat.mul_one]at eh;have e8:=ae.lt;obtain⟨vq,e,bg⟩:=ae.reads;subst e;have q0:=ae.cell 0 zX;simp only[aW,bC]at q0;obtain⟨af,ag⟩:=ab.o.que (g:=k);have z:=Eh (f:=DP d) (j:=k);have am:=et.o k zZ ag (by simpa [BJ]using af);have y:DP d k=EQ Ds k (BJ ((d.desk.queues[k]?).getD [])):=rfl;have c3:(d.desk.queues[k]?).getD [] =d.desk.queues[k]:=by rw[aO c4];rfl
        rw[c3]at af ag am y;obtain⟨q,hq⟩:∃q,d.desk.queues[k] =q:=zJ;rw[hq]at af ag am y bg;obtain⟨Aq,cq,rfl,d7,d8⟩:=rSl.head bg;have ak:k * 15000000<=1000000 * 15000000:=Nat.mul_le_mul_right _ zZ;obtain⟨nq,a1⟩:∃nq,q.length=nq:=zJ;rw[a1]at q0;by_cases be:q= []
        ·have e0:nq=0:=by rw[<-a1,be];rfl
         subst e0;have e:DP d k= []:=by rw[y,be];unfold EQ;rw[aM zT]
         have HE:=zq (show(P2 ++(List.range (k+1)).flatMap (DP d))=P2 ++(List.range k).flatMap (DP d) by rw[z,e,List.append_nil]);clear af ag z am y hq bg da ae c3 be a1 bk d7 d8 d9 ec c4 ay ak e;go_wp2
         go_roundw
         ·exact⟨k+1,by omega,by go_num,(show _/\_ by rw[HE.o];exact⟨n.o.1,aZ n.o.2 (Nat.add_le_add_left (Nat.mul_le_mul_right _ (Nat.le_succ k)) _)⟩),HB.o⟩
         ·simp[intOf];omega
        ·have ef:0<nq:=by rw[<-a1];exact List.length_pos_iff.2 be
         have ap:¬BJ q= []:=fun e => by
          have:(BJ q).length =q.length:=by simp[BJ]
          rw[e]at this;simp at this;omega
         have bl:(BJ q).length<=1000000:=by simpa [BJ]using af
         have a6:=zq (Nk _ q fq (wr.alloc (.cells #[int i64 (k:Int)] 2)) (rSl.B Ag.L Ag.X bg (Ac (aC _ _) _)) af);rw[a1]at a6;have bh:DP d k=Bg Ds ((k:Int) :: BJ q) ++ [10]:=by rw[y,G9];unfold EQ;rw[aJ ap]
         rw[<-y]at am;have bb:Dc ((k:Int) :: BJ q):=fun x hx => by
          rcases List.mem_cons.1 hx with rfl|hx
          ·omega
          ·exact ag x hx
         have cd:=zq (show Calls prog 29 #[.slice Aq nq cq] (wr.alloc (.cells #[int i64 (k:Int)] 2)) fun e u =>∃v,e= .returned v/\Hid (∃v' w',(Builtin.append_ #[25,25] 25 #[.slice (some (zE wr)) 1 1,v]).run prog u= .ok v' w'/\Hid (Calls prog 21 #[.string ⟨#[113,117,101,117,101]⟩,v',.pointer (some (zE i))] w' fun e aj => e= .returned (.tuple #[])/\Hid (Bld i i w6 w7 (Lib.byteCells (P2 ++(List.range (k+1)).flatMap (DP d))) aj/\Below i i aj)))from by
          refine a6.o.M ?_;rintro e u ⟨A8,c8,f8,rfl,r8,m8,aa⟩;obtain⟨v',w',q,hc⟩:=Qx Ds (k:Int) (BJ q) _ f8 i _ _ _ wr u (aa.M zX) r8 (fun a ha e => by
           have:=m8.from_ a ha;simp at this;omega) bb bl (a8.o _ HB.o) (by simp[Ds]) n.o.1 (by have:=n.o.2;omega)
          refine⟨_,rfl,v',w',q,hc.M ?_⟩;rintro e aj ⟨rfl,s1,s2,-⟩;rw[<-bh,List.append_assoc,<-z]at s1;exact⟨rfl,s1,HB.o.T s2⟩)
         have ci:=zq (show(P2 ++(List.range (k+1)).flatMap (DP d)).length<=46000000000000+(k+1) * 15000000 from by
          have:=n.o.2;rw[z,<-List.append_assoc,aU];omega)
         clear af ag z am y bh bb ap ak a1 hq bg da ae c3 be bk d7 d8 d9 ec ay a6 bl;go_wp2_with (first
          |(go_at_call 29;refine cd.o.M ?_;rintro e u ⟨fk,rfl,a3⟩)
          |(at_builtin;refine An rfl (.tmp 87) (.tmp 89) 25 rfl _ _ zT zT a3.o ?_;rintro fl w15 HJ)
          |(go_at_call 21;refine HJ.o.M ?_;rintro e ek ⟨rfl,ao⟩))
         go_roundw
         ·exact⟨k+1,by omega,by go_num,⟨ao.o.1,ci.o⟩,ao.o.2⟩
         ·simp[intOf];omega
       ·obtain rfl:k=nQ:=by omega
        have r:=n.o.1;have db:=n.o.2;obtain⟨P3,bm⟩:∃P3,P2 ++(List.range k).flatMap (DP d)=P3:=zJ;rw[bm]at r db;have ak:k * 15000000<=1000000 * 15000000:=Nat.mul_le_mul_right _ c2;have hf:GP d X=P3 ++ asdW d:=by
         unfold GP;rw[er.o,dp.o,es.o,cl.o,bm]
        have fp:=zq hf;have bo:=ab.o.al;have has:=ab.o.aside;have ai:=zq (ah.o wr HB.o);have cc:=zq (Nk _ d.desk.aside g1 wr ai.o.ras bo);have y:asdW d=if d.desk.aside= []then []else Bg FH (BJ d.desk.aside) ++ [10]:=rfl
        have e3:=ai.o.asd;have fw:=ai.o.lt;obtain⟨nA,bc⟩:∃nA,d.desk.aside.length=nA:=zJ;rw[bc]at e3 cc;have cf:=zq r;by_cases az:d.desk.aside= []
        ·have e0:nA=0:=by rw[<-bc,az];rfl
         subst e0;have cn:=zq (show Calls prog 30 #[.pointer (some (zE i))] wr fun e w' => e= .returned (.string ⟨(GP d X).toArray⟩)/\Hid (Below w w w')from by
          have e:GP d X=P3:=by rw[hf,y,aM az,List.append_nil]
          rw[e];refine(Tryz.builderString i i P3 wr cf.o.at_ (Nat.le_of_lt cf.o.size)).M ?_;rintro e w' ⟨rfl,hb⟩;exact⟨rfl,bj.o.T ((HB.o.T hb).M bj.o.size)⟩)
         clear hf bo has y bc ak db bm az r;go_wp2_with (go_at_call 30;refine cn.o.M ?_;rintro e fm ⟨rfl,ca⟩)
         go_ret
         exact⟨rfl,ca.o⟩
        ·have ef:0<nA:=by rw[<-bc];exact List.length_pos_iff.2 az
         have bl:(BJ d.desk.aside).length<=1000000:=by simpa [BJ]using bo
         have en:=zq (show Calls prog 29 #[.slice A4 nA k4] wr fun e u =>∃v,e= .returned v/\Hid (Calls prog 21 #[.string ⟨#[97,115,105,100,101]⟩,v,.pointer (some (zE i))] u fun e aj => e= .returned (.tuple #[])/\Hid (Calls prog 30 #[.pointer (some (zE i))] aj fun e w' => e= .returned (.string ⟨(GP d X).toArray⟩)/\Hid (Below w w w')))from by
          refine cc.o.M ?_;rintro e u ⟨A8,c8,f8,rfl,r8,m8,aa⟩;have a2:=HB.o.T (aa.M HB.o.size);refine⟨_,rfl,(N5 FH (BJ d.desk.aside) _ f8 _ _ _ _ _ u r8 has zZ (a8.o _ a2) (by simp[FH]) (cf.o.B aa) zZ).M ?_⟩;rintro e aj ⟨rfl,s1,s2,-⟩;rw[hf,y,aJ az];refine⟨rfl,(Tryz.builderString i i _ aj s1.at_ (Nat.le_of_lt s1.size)).M ?_⟩;rintro e w' ⟨rfl,hb⟩;exact⟨rfl,bj.o.T (((a2.T s2).T hb).M bj.o.size)⟩)
         clear hf bo has y bc ak db bm az r cc bl;go_wp2_with (first
          |(go_at_call 29;refine en.o.M ?_;rintro e u ⟨fk,rfl,a3⟩)
          |(go_at_call 21;refine a3.o.M ?_;rintro e ek ⟨rfl,ao⟩)
          |(go_at_call 30;refine ao.o.M ?_;rintro e fm ⟨rfl,ca⟩))
         go_ret
         exact⟨rfl,ca.o⟩
end Go.Proofs.YtofeknacbdcoaaaGreatDoor
namespace Go.Proofs.YtofeknacbdcoaaaGreatDoor
open Go.RowKit Go.Lib Go.Sort
theorem Tryz.infoTh:(prog.info? 63).map (fun i =>(i.zero,i.size,i.bytes))=some (some (.agg #[.string ⟨#[]⟩,.bool false,zQ]),3,48):=by kernel_rfl
theorem rTh_ones:∀(w:World) (f:List Addr) (cs:List Value) (d:Th),rTh w f cs d->∀u,u∈cs->u.oneCell'=true:=by
 intro w f cs d ⟨v,e,_,h⟩ u i;obtain⟨A,c,l,-⟩:=Ah.form h;subst l;subst e;simp only[List.mem_cons,List.not_mem_nil,or_false]at i;rcases i with rfl|rfl|rfl <;> rfl
theorem NX {wr p W base v ds fs}(z:Ak 3 63 rTh wr base v ds fs)(hm:AL base wr fs)(i:base<=wr.heap.size)(hn:ds.length+1<=1000000000){f}{d:Th}{b u}(B2:Below wr wr p)(hr:Ah p f u d.bytes)(ad:d.name.size<=9223372036854775807)(hf:AL wr p f)(B5:Below p p W)(r:Blk W b 63 #[.string d.name,.bool d.lost,u]):
  ∃o w',(Builtin.append_ #[57,57] 57 #[v,.slice (some (zE b)) 1 1]).run prog W= .ok o w'/\∃A c h,o= .slice A (ds.length+1) c/\Ak 3 63 rTh w' base o (ds ++ [d]) (fs ++ h)/\AL base w' (fs ++ h)/\Below base wr w'/\wr.heap.size<=w'.heap.size/\(∀a:Addr,a.block<wr.heap.size->v.ownBlock≠some a.block->w'.cell? a=wr.cell? a)/\(∀k,o.ownBlock=some k->v.ownBlock=some k∨wr.heap.size<=k):=by
 have l:Below wr wr W:=B2.T (B5.M B2.size);have s:rTh p f [.string d.name,.bool d.lost,u] d:=⟨u,rfl,ad,hr⟩;have ac:Ak 3 63 rTh W base v ds fs:=z.B rTh.L rTh.X l;have x:rTh W f [.string d.name,.bool d.lost,u] d:=AC.B rTh.L rTh.X s B5;have aa:AL wr W f:=hf.B B5 (rTh.X _ _ _ _ s);obtain⟨o,w',q1,h,q2,q3,q4,q5⟩:=Ak.appendOne (P:=prog) 57 57 (.agg #[.string ⟨#[]⟩,.bool false,zQ]) 48 underlying57 Tryz.infoTh rfl zW rTh.L rTh.X rTh_ones base v ds fs ac b [.string d.name,.bool d.lost,u] f d rfl r x (fun a y e => by
  have:=(z.lt _ e).2;have:=hf.from_ a y;omega) hn zZ (aZ i l.size)
 obtain⟨A,c,e,-⟩:=q2.length;refine⟨o,w',q1,A,c,h,by rw[e];simp,q2,AL.appended rTh.X z hm l aa (rTh.X _ _ _ _ x) q3 q4 i,Below.grown (l.M i) q4 (aZ i l.size) (fun k n =>(z.lt k n).1),aZ l.size q4.size,fun a y ab => ?_,fun k n => ?_⟩
 ·exact(World.cell?_of_block (q4.block a.block (aH y l.size) (fun e => ab e.symm))).T (l.cell y)
 ·rcases q5 with q|q
  ·exact .inl (q.symm.T n)
  ·rw[q]at n;injection n with n
   exact .inr (n ▸ l.size)
theorem truth_k(k:Nat)(a7:k=9)(zR:∀w,(Go.sizeOf 105).run prog w= .ok k w)(aR:∀w,(isAgg 105).run prog w= .ok true w)(p fs d w)(h:AtW w p fs d)(hw:AI d=0):
  Calls prog 25 #[.pointer (some (zE p))] w fun e w' =>∃L v gs,Eb (AU d) L/\e= .returned v/\F8 w' gs v (L.map (Dy d))/\AL w w' gs/\Below w w w':=by
 obtain⟨bf,bb,HW,HT⟩:=zH a7 h hw (FW hw);obtain⟨z,ab⟩:∃z,w.heap.size=z:=zJ;have HG:=zq ab;have al:Below w w (w.alloc (.cells #[] 63)):=(aC _ _).alloc (aD _) _;obtain⟨ai,KO,aw,bd⟩:=zH al (Blk.new w 63 #[]) (newest_c p fs d _ (h.B al) HT.o.sm (names_of hw)) (show FJ fs w from by obtain⟨_,hr,-⟩:=h;exact AF.X _ _ _ _ hr);clear a7 h hw al;go_enter func25,ntmps25
 go_wp2_with fail
 refine aw.o.M ?_;rintro e w2 ⟨L,A,c,f2,rfl,hL,r2,p2,b2⟩;have HL:=zq hL;have az:=zq r2;have bu:z<w2.heap.size:=by rw[<-ab];exact aH KO.o.lt b2.size
 have ak:=zq (show∀a,a∈f2->a.block≠z/\a.block<w2.heap.size from fun a ha => by
  refine⟨?_,rSl.there Af.X r2 a ha⟩;rcases p2 a ha with q|q
  ·have:=bd.o a q;omega
  ·simp at q;omega)
 have ao:=zq (show Below z w w2 from by rw[<-ab];exact ai.o.T (b2.M ai.o.size));have a4:Ak 3 63 rTh w2 z (.slice (some (zE z)) 0 0) [] []:=Ak.start ⟨rfl,.inr ⟨z,0,#[],rfl,aD _,by rw[<-ab];exact KO.o.B b2 KO.o.lt,aD _,by unfold maxLen;omega,rfl,rfl⟩⟩;have ay:=zq a4;have bs:L.length<=1000000:=by
  have h1:L.length<=(AU d).length:=FU _ _ (hL.sorted.imp (fun {a b} bm e => by subst e;exact E7 a bm)) fun x hx => EA ((hL.mem x).1 hx)
  have h2:=FP d;have h3:=HT.o.sm;omega
 clear hL r2 p2 b2 a4 aw ai KO;try rw[ab]
 clear ab;go_wp2
 go_loopw [12,3] (fun ix o wr =>∃(i n c':Nat) (A':Option Addr),i<=L.length/\ix=i/\o= .slice A' n c'/\Hid (n=i)/\Hid (∃fo,Ak 3 63 rTh wr z (.slice A' n c') ((L.take i).map (Dy d)) fo/\AL z wr fo)/\Hid (rSl 9 Af wr f2 (.slice A L.length c) L)/\Hid (∀b,(Value.slice A' n c').ownBlock =some b->b=z∨w2.heap.size<=b)/\Hid (Below z w wr)/\Hid (w2.heap.size<=wr.heap.size)) (fun ix _ _ => L.length - (intOf ix).toNat)
 ·exact⟨0,0,0,some (zE z),by omega,rfl,rfl,rfl,⟨[],ay.o,⟨List.nodup_nil,(fun a ha => by cases ha),(fun a ha => by cases ha)⟩⟩,az.o,(fun b hb => by injection hb with hb;exact .inl hb.symm),ao.o,aD _⟩
 ·clear ay az ao;obtain⟨i,n,c',A',hi,rfl,rfl,HN,HO,a0,aj,HB,y⟩:=hrel;by_cases ae:i<L.length
  ·obtain⟨Ax,cx,ev,hc,hm,hx⟩:=rSl.at_ Af.X zZ a0.o;injection ev with bk _ bl
   subst bk bl;obtain⟨a2,b3,o3,l,f3,rfl,r⟩:=hx i ae;have bq:a2.add (i * k)=⟨b3,o3,none⟩:=by rw[bf.o];exact r.place
   have br:=r.place;have bp:=r.lt;have s:l.length=9:=r.len;have HR:=zq (show wr.rangeAt b3 o3 l from fun q v hq => by
    have a9:q<l.length:=(List.getElem?_eq_some_iff.1 hq).1;rw[r.cell q a9,<-hq];exact(aO a9).symm)
   obtain⟨HI,be,bg⟩:=zI (show(prog.info? 105).map (·.size)=some l.length by rw[s];kernel_rfl) (show(prog.info? 105).map (·.size)=some l.toArray.size by rw[bD,s];kernel_rfl) (all_oneCell_toArray (Af.ones _ _ _ _ r.reads));obtain⟨Z,hZ⟩:∃Z:Array Value,#[int i64 0,(),.string ⟨#[]⟩,(),(),(),zQ,zQ,zQ] =Z:=zJ;have am:Z.size=9:=by rw[<-hZ];rfl
   have KZ:=Blk.new wr 105 Z;have bi:=zq (Blk.there KZ l.toArray.size (by rw[bD,s,am];exact aD _));obtain⟨w3,af⟩:∃w3,(wr.alloc (.cells Z 105)).setCells wr 0 l.toArray.toList=w3:=zJ;obtain⟨K3,B3,bj⟩:=zI (show Blk w3 wr 105 l.toArray by rw[<-af];exact Blk.laid KZ _ (by rw[am];exact s.symm)) (show Below wr wr w3 by rw[<-af];exact AS (Ac (aC _ _) _) _ 0 (aD _)) af;have bh:=zq (Blk.rangeAll K3.o);have bc:=zq (show Below w w w3 by rw[HG.o];exact HB.o.T (B3.o.M (by have:=y.o;omega)));have ac:=K3.o.lt;obtain⟨v0,v1,v2,q0,q1,q2,e,-⟩:=r.reads;have y2:w3.cell? ⟨wr.heap.size,2,none⟩=some (.string L[i].name):=by rw[K3.o.cell,e];rfl
   have hp:=(HL.o.mem _).1 (aT ae);have an:=EA hp;obtain⟨k0,bn,e0,k1,k2,-⟩:=hp;have a8:L[i].name.size<=8:=(Il HW.o an k1 k2).1;have a1:=zq (SA p fs d L[i] l f3 w3 (bb.o.B bc.o) (AC.B Af.L Af.X r.reads B3.o) HT.o (GF HW.o an k1 k2).1);have bt:(i:Int)<(L.length:Int):=by omega
   have aa:=zq (show(L.take (i+1)).map (Dy d)=(L.take i).map (Dy d) ++ [Dy d L[i]]from by rw[aK ae,List.map_append];rfl);obtain⟨fo,ho,ag⟩:=HO.o;have a3:((L.take i).map (Dy d)).length =i:=by rw[bH,aX];omega
   obtain⟨D,hD⟩:∃D,(L.take i).map (Dy d)=D:=zJ;rw[hD]at aa ho a3;obtain⟨x,ba⟩:∃x,L[i] =x:=zJ;rw[ba]at y2 a8 a1 aa;obtain⟨ax,au,ar,aq⟩:=zH ho ag (show D.length+1<=1000000000 by omega) (show D.length+1=i+1 by omega);have a5:z<=wr.heap.size:=by have:=y.o;omega
   have ap:=zq a5;have av:=zq (show x.name.size<=9223372036854775807 by omega);have ad:=zq (show∀(w':World),(∀a:Addr,a.block<wr.heap.size->(Value.slice A' n c').ownBlock≠some a.block->w'.cell? a=wr.cell? a)->rSl 9 Af w' f2 (.slice (some a2) L.length c) L from fun w' hk => rSl.keep Af.L a0.o fun a ha => hk a (aH (ak.o a ha).2 y.o) fun e => by
    rcases aj.o _ e with q|q
    ·exact(ak.o a ha).1 q
    ·have:=(ak.o a ha).2;omega)
   clear r hx af KZ s am e an k1 k2 e0 bn ho ag a3 hD ba a8 a5 HO HN;go_wp2_with (first
    |(refine aE rfl 105 (.tmp 14) rfl b3 o3 rfl l _ HR.o underlying105 rfl HI.o ?_)
    |(refine aV rfl 105 (.tmp 5) (.tmp 15) rfl wr 0 l.toArray rfl rfl bi.o be.o bg.o ?_;rw[bj.o])
    |(refine aE rfl 105 (.tmp 5) rfl wr 0 rfl l _ bh.o underlying105 rfl HI.o ?_))
   refine a1.o.M ?_;rintro e w4 (⟨M,A7,c7,f7,e7,rfl,r7,m7,b7⟩|⟨e7,rfl,b7⟩)
   ·have bo:=(b7.cell (p:=⟨wr.heap.size,2,none⟩) ac).T y2;have a6:wr.heap.size<w4.heap.size:=aH ac b7.size;have ah:=zq (NX (d:=⟨x.name,false,M⟩) (u:=.slice A7 M.length c7) (W:=w4.alloc (.cells #[.string x.name,.bool false,.slice A7 M.length c7] 63)) (b:=w4.heap.size) ax.o au.o ap.o ar.o (B3.o.T (b7.M B3.o.size)) r7 av.o (m7.M B3.o.size) ((aC _ _).alloc (aD _) _) (Blk.new _ _ _));rw[NG e7]at aa;clear e7 r7 m7 b7 y2 ac;go_wp2_with (at_builtin;refine An rfl (.tmp 22) (.tmp 29) 57 rfl _ _ zT zT ah.o ?_;rintro v9 w9 ⟨A9,c9,h9,rfl,o9,m9,b9,s9,k9,j9⟩;have O9:=zq o9;have M9:=zq m9;have B9:=zq b9;have S9:=zq s9;have K9:=zq k9;have J9:=zq j9;clear o9 m9 b9 s9 k9 j9)
    go_roundw
    ·exact⟨i+1,D.length+1,c9,A9,by omega,by go_num,rfl,aq.o,(show∃_,_ from⟨_,by rw[aa.o];exact O9.o,M9.o⟩),ad.o _ K9.o,(show∀_,_ from fun b hb => by
      rcases J9.o b hb with q|q
      ·exact aj.o b q
      ·exact .inr (aZ y.o q)),HB.o.T B9.o,aZ y.o S9.o⟩
    ·simp[intOf];omega
   ·have bo:=(b7.cell (p:=⟨wr.heap.size,2,none⟩) ac).T y2;have a6:wr.heap.size<w4.heap.size:=aH ac b7.size;have ah:=zq (NX (d:=⟨x.name,true,[]⟩) (u:=.slice none 0 0) (f:=[]) (W:=w4.alloc (.cells #[.string x.name,.bool true,zQ] 63)) (b:=w4.heap.size) ax.o au.o ap.o ar.o (B3.o.T (b7.M B3.o.size)) ⟨none,0,rfl,aD _,by omega,.inl ⟨rfl,rfl⟩⟩ av.o ⟨List.nodup_nil,(fun a ha => by cases ha),(fun a ha => by cases ha)⟩ ((aC _ _).alloc (aD _) _) (Blk.new _ _ _));rw[NF e7]at aa;clear e7 b7 y2 ac;go_wp2_with (at_builtin;refine An rfl (.tmp 22) (.tmp 29) 57 rfl _ _ zT zT ah.o ?_;rintro v9 w9 ⟨A9,c9,h9,rfl,o9,m9,b9,s9,k9,j9⟩;have O9:=zq o9;have M9:=zq m9;have B9:=zq b9;have S9:=zq s9;have K9:=zq k9;have J9:=zq j9;clear o9 m9 b9 s9 k9 j9)
    go_roundw
    ·exact⟨i+1,D.length+1,c9,A9,by omega,by go_num,rfl,aq.o,(show∃_,_ from⟨_,by rw[aa.o];exact O9.o,M9.o⟩),ad.o _ K9.o,(show∀_,_ from fun b hb => by
      rcases J9.o b hb with q|q
      ·exact aj.o b q
      ·exact .inr (aZ y.o q)),HB.o.T B9.o,aZ y.o S9.o⟩
    ·simp[intOf];omega
  ·obtain rfl:i=L.length:=by omega
   go_wp2
   go_ret
   obtain⟨fo,ho,ag⟩:=HO.o;rw[bA]at ho;obtain⟨gs,r9,m9⟩:=ho.readsMine ag;exact⟨L,_,gs,HL.o,rfl,r9,by rw[HG.o];exact m9,by rw[HG.o];exact HB.o⟩
theorem truth_c(p fs d w)(h:AtW w p fs d)(hw:AI d=0):
  Calls prog 25 #[.pointer (some (zE p))] w fun e w' =>∃L v c,Eb (AU d) L/\e= .returned v/\F8 w' c v (L.map (Dy d))/\AL w w' c/\Below w w w' :=
 truth_k 9 rfl sizeOf105 isAgg105 p fs d w h hw
theorem AtW.of {w p t}{cs:List Value}{f d}(K:Blk w p t cs.toArray)(h:AF w f cs d):AtW w p f d :=
 ⟨cs,h,fun q hq =>(K.cell q).T (by rw[List.getElem?_toArray];exact aO hq),K.lt⟩
