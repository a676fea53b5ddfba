/- Part 7 of the proof. -/
import Derived.Test.YtofeknacbdcoaaaGreatDoorK03
import Derived.Shelf.SlicesQ.Load
import Derived.Test.YtofeknacbdcoaaaGreatDoorK06
import Derived.Test.YtofeknacbdcoaaaGreatDoorK01
import Derived.Sort.LotA
import Derived.Shelf.SlSortCmp.KitK
import Derived.Sort.WalkB2
import Derived.Sort.WalkB12
import Derived.Deep.LoopGhost
set_option maxHeartbeats 8000000
set_option maxRecDepth 100000
set_option linter.unusedVariables false
set_option linter.unusedSimpArgs false
open Go.Proofs.Tryz
open Go.Value (int)
open Go.IntKind (i64)
namespace Go.Proofs.YtofeknacbdcoaaaGreatDoor
abbrev _root_.Go.Sort.SWO.T:=@Go.Sort.SWO.trans
open Go.RowKit Go.Sort
def Em {α:Type}(p:α->Bool)(ds:List α):Int:=match ds.findIdx? p with|some i =>(i:Int)|none => -1
theorem Gn {α:Type}{p:α->Bool}{ds:List α}{k:Nat}(e:k<ds.length)(h:p ds[k] =true)(hb:∀q,(hq:q<ds.length)->q<k->p ds[q] =false):Em p ds=k:=by
 have:ds.findIdx? p=some k:=List.findIdx?_eq_some_iff_getElem.2 ⟨e,h,fun j c => by rw[hb j zZ c];simp⟩;unfold Em;rw[this]
theorem FT {α:Type}{p:α->Bool}{ds:List α}(hb:∀q,(hq:q<ds.length)->p ds[q] =false):Em p ds= -1:=by
 have:ds.findIdx? p=none:=List.findIdx?_eq_none_iff.2 fun x e => by
  obtain⟨i,c,rfl⟩:=aY e;exact hb i c
 unfold Em;rw[this]
theorem Ho {α:Type}(p:α->Bool)(ds:List α):decide (0<=Em p ds)=ds.any p:=by
 unfold Em;cases h:ds.findIdx? p with
 |some i =>
  obtain⟨e,c,_⟩:=List.findIdx?_eq_some_iff_getElem.1 h;have:ds.any p=true:=List.any_eq_true.2 ⟨_,aT e,c⟩;rw[this];simp
 |none =>
  have:ds.any p=false:=List.any_eq_false.2 fun x f => by simp[List.findIdx?_eq_none_iff.1 h x f]
  rw[this];simp
theorem LZ(k:Nat)(hk:0<k)(zR:∀w,(Go.sizeOf 105).run prog w= .ok k w)(aR:∀w,(isAgg 105).run prog w= .ok true w)(p:Aj->Bool)(g)(cb:Array Value)(v)(ds:List (Aj))(f w)(eg:∀args w,(callFunc g args).run prog w= .ok (.enter g args) w)(h:rSl k Af w f v ds)(hp:∀(W:World) (cs:List Value) (fk:List Addr) (j:Nat) (hj:j<ds.length),Below w w W->Af W fk cs ds[j]->Calls prog g (#[.agg cs] ++ cb) W (zN (.bool (p ds[j])) W)):
  Calls prog 255 #[v,.func (.func g) #[] cb] w (zN (int i64 (Em p ds)) w):=by
 obtain⟨A,c,rfl,hc,hm,hx⟩:=rSl.at_ Af.X hk h;have HX:=zq hx;have HP:=zq hp;clear hx hp h;obtain⟨rr,y⟩:∃rr,Em p ds=rr:=zJ;rw[y];have RR:=zq y;clear y;go_enter func255,ntmps255
 go_wp2
 go_loopw [8,5] (fun i _ wr =>∃j:Nat,j<=ds.length/\i=j/\Hid (∀q,(hq:q<ds.length)->q<j->p ds[q] =false)/\Hid (Below w w wr)) (fun i _ _ => ds.length - (intOf i).toNat)
 ·exact⟨0,by omega,rfl,(fun q hq h => by omega),aC _ _⟩
 ·obtain⟨j,hj,rfl,HF,r⟩:=hrel;by_cases u:j<ds.length
  ·obtain⟨ad,b,o,cs,fk,rfl,n⟩:=HX.o j u;have l:=n.B Af.L r.o;have hl:Sem.run prog (loadCellsFrom (b,o) 0 k #[]) wr= .ok cs.toArray wr:=run_loadCellsFrom_list _ _ _ cs k n.len (fun q v hq => by
    have aa:q<cs.length:=(List.getElem?_eq_some_iff.1 hq).1;rw[Addr.add_lit,l.cell q aa,<-hq];exact(aO aa).symm)
   have ae:=n.place;have ac:=l.lt;have HC:=zq (HP.o wr cs fk j u r.o l.reads);clear n l;obtain⟨pj,x⟩:∃pj,p ds[j] =pj:=zJ;rw[x]at HC;have z:=zq x;clear x;cases pj with
   |true =>
    have e1:rr=j:=by rw[<-RR.o];exact Gn u z.o HF.o
    subst e1;go_wp2_with (go_at_fn g;refine HC.o.M ?_;rintro e w1 ⟨rfl,s⟩)
    go_ret
    exact⟨rfl,r.o.T (s.M r.o.size)⟩
   |false =>
    go_wp2_with (go_at_fn g;refine HC.o.M ?_;rintro e w1 ⟨rfl,s⟩)
    have ab:=zq (r.o.T (s.M r.o.size));go_roundw
    ·refine⟨j+1,by omega,by go_num,(show Hid _ from fun q hq af => ?_),ab⟩;by_cases e:q=j
     ·subst e;exact z.o
     ·exact HF.o q hq zZ
    ·simp[intOf];omega
  ·have e1:rr= -1:=by rw[<-RR.o];exact FT (fun q hq => HF.o q hq zZ)
   subst e1;go_wp2
   go_ret
   exact⟨rfl,r.o⟩
theorem JA(k:Nat)(u:0<k)(x:∀w,(Go.sizeOf 105).run prog w= .ok k w)(r:∀w,(isAgg 105).run prog w= .ok true w)(p:Aj->Bool)(g)(i:Array Value)(v)(ds:List (Aj))(f w)(s:∀args w,(callFunc g args).run prog w= .ok (.enter g args) w)(h:rSl k Af w f v ds)(q:∀(W:World) (cs:List Value) (fk:List Addr) (j:Nat) (z:j<ds.length),Below w w W->Af W fk cs ds[j]->Calls prog g (#[.agg cs] ++ i) W (zN (.bool (p ds[j])) W)):
  Calls prog 215 #[v,.func (.func g) #[] i] w (zN (.bool (ds.any p)) w):=by
 have n:=zq (LZ k u x r p g i v ds f w s h q);rw[<-Ho];obtain⟨A,c,rfl,y,hm⟩:=rSl.head h;clear q h;generalize Em p ds=rr at n;go_enter func215,ntmps215
 go_wp2_with (go_at_call 255;refine n.o.M ?_;rintro e w1 ⟨rfl,l⟩)
 go_ret
 exact⟨rfl,l⟩
theorem OC(k:Nat)(hk:0<k)(zR:∀w,(Go.sizeOf 193).run prog w= .ok k w)(aR:∀w,(isAgg 193).run prog w= .ok true w)(p:Cj->Bool)(g)(cb:Array Value)(v)(ds:List (Cj))(f w)(eg:∀args w,(callFunc g args).run prog w= .ok (.enter g args) w)(h:rSl k AK w f v ds)(hp:∀(W:World) (cs:List Value) (fk:List Addr) (j:Nat) (hj:j<ds.length),Below w w W->AK W fk cs ds[j]->Calls prog g (#[.agg cs] ++ cb) W (zN (.bool (p ds[j])) W)):
  Calls prog 197 #[v,.func (.func g) #[] cb] w (zN (int i64 (Em p ds)) w):=by
 obtain⟨A,c,rfl,hc,hm,hx⟩:=rSl.at_ AK.X hk h;have HX:=zq hx;have HP:=zq hp;clear hx hp h;obtain⟨rr,y⟩:∃rr,Em p ds=rr:=zJ;rw[y];have RR:=zq y;clear y;go_enter func197,ntmps197
 go_wp2
 go_loopw [8,5] (fun i _ wr =>∃j:Nat,j<=ds.length/\i=j/\Hid (∀q,(hq:q<ds.length)->q<j->p ds[q] =false)/\Hid (Below w w wr)) (fun i _ _ => ds.length - (intOf i).toNat)
 ·exact⟨0,by omega,rfl,(fun q hq h => by omega),aC _ _⟩
 ·obtain⟨j,hj,rfl,HF,r⟩:=hrel;by_cases u:j<ds.length
  ·obtain⟨ad,b,o,cs,fk,rfl,n⟩:=HX.o j u;have l:=n.B AK.L r.o;have hl:Sem.run prog (loadCellsFrom (b,o) 0 k #[]) wr= .ok cs.toArray wr:=run_loadCellsFrom_list _ _ _ cs k n.len (fun q v hq => by
    have aa:q<cs.length:=(List.getElem?_eq_some_iff.1 hq).1;rw[Addr.add_lit,l.cell q aa,<-hq];exact(aO aa).symm)
   have ae:=n.place;have ac:=l.lt;have HC:=zq (HP.o wr cs fk j u r.o l.reads);clear n l;obtain⟨pj,x⟩:∃pj,p ds[j] =pj:=zJ;rw[x]at HC;have z:=zq x;clear x;cases pj with
   |true =>
    have e1:rr=j:=by rw[<-RR.o];exact Gn u z.o HF.o
    subst e1;go_wp2_with (go_at_fn g;refine HC.o.M ?_;rintro e w1 ⟨rfl,s⟩)
    go_ret
    exact⟨rfl,r.o.T (s.M r.o.size)⟩
   |false =>
    go_wp2_with (go_at_fn g;refine HC.o.M ?_;rintro e w1 ⟨rfl,s⟩)
    have ab:=zq (r.o.T (s.M r.o.size));go_roundw
    ·refine⟨j+1,by omega,by go_num,(show Hid _ from fun q hq af => ?_),ab⟩;by_cases e:q=j
     ·subst e;exact z.o
     ·exact HF.o q hq zZ
    ·simp[intOf];omega
  ·have e1:rr= -1:=by rw[<-RR.o];exact FT (fun q hq => HF.o q hq zZ)
   subst e1;go_wp2
   go_ret
   exact⟨rfl,r.o⟩
theorem LI(k:Nat)(u:0<k)(x:∀w,(Go.sizeOf 193).run prog w= .ok k w)(r:∀w,(isAgg 193).run prog w= .ok true w)(p:Cj->Bool)(g)(i:Array Value)(v)(ds:List (Cj))(f w)(s:∀args w,(callFunc g args).run prog w= .ok (.enter g args) w)(h:rSl k AK w f v ds)(q:∀(W:World) (cs:List Value) (fk:List Addr) (j:Nat) (z:j<ds.length),Below w w W->AK W fk cs ds[j]->Calls prog g (#[.agg cs] ++ i) W (zN (.bool (p ds[j])) W)):
  Calls prog 144 #[v,.func (.func g) #[] i] w (zN (.bool (ds.any p)) w):=by
 have n:=zq (OC k u x r p g i v ds f w s h q);rw[<-Ho];obtain⟨A,c,rfl,y,hm⟩:=rSl.head h;clear q h;generalize Em p ds=rr at n;go_enter func144,ntmps144
 go_wp2_with (go_at_call 197;refine n.o.M ?_;rintro e w1 ⟨rfl,l⟩)
 go_ret
 exact⟨rfl,l⟩
theorem PS(k:Nat)(hk:0<k)(zR:∀w,(Go.sizeOf 148).run prog w= .ok k w)(aR:∀w,(isAgg 148).run prog w= .ok true w)(p:Be->Bool)(g)(cb:Array Value)(v)(ds:List (Be))(f w)(eg:∀args w,(callFunc g args).run prog w= .ok (.enter g args) w)(h:rSl k AE w f v ds)(hp:∀(W:World) (cs:List Value) (fk:List Addr) (j:Nat) (hj:j<ds.length),Below w w W->AE W fk cs ds[j]->Calls prog g (#[.agg cs] ++ cb) W (zN (.bool (p ds[j])) W)):
  Calls prog 199 #[v,.func (.func g) #[] cb] w (zN (int i64 (Em p ds)) w):=by
 obtain⟨A,c,rfl,hc,hm,hx⟩:=rSl.at_ AE.X hk h;have HX:=zq hx;have HP:=zq hp;clear hx hp h;obtain⟨rr,y⟩:∃rr,Em p ds=rr:=zJ;rw[y];have RR:=zq y;clear y;go_enter func199,ntmps199
 go_wp2
 go_loopw [8,5] (fun i _ wr =>∃j:Nat,j<=ds.length/\i=j/\Hid (∀q,(hq:q<ds.length)->q<j->p ds[q] =false)/\Hid (Below w w wr)) (fun i _ _ => ds.length - (intOf i).toNat)
 ·exact⟨0,by omega,rfl,(fun q hq h => by omega),aC _ _⟩
 ·obtain⟨j,hj,rfl,HF,r⟩:=hrel;by_cases u:j<ds.length
  ·obtain⟨ad,b,o,cs,fk,rfl,n⟩:=HX.o j u;have l:=n.B AE.L r.o;have hl:Sem.run prog (loadCellsFrom (b,o) 0 k #[]) wr= .ok cs.toArray wr:=run_loadCellsFrom_list _ _ _ cs k n.len (fun q v hq => by
    have aa:q<cs.length:=(List.getElem?_eq_some_iff.1 hq).1;rw[Addr.add_lit,l.cell q aa,<-hq];exact(aO aa).symm)
   have ae:=n.place;have ac:=l.lt;have HC:=zq (HP.o wr cs fk j u r.o l.reads);clear n l;obtain⟨pj,x⟩:∃pj,p ds[j] =pj:=zJ;rw[x]at HC;have z:=zq x;clear x;cases pj with
   |true =>
    have e1:rr=j:=by rw[<-RR.o];exact Gn u z.o HF.o
    subst e1;go_wp2_with (go_at_fn g;refine HC.o.M ?_;rintro e w1 ⟨rfl,s⟩)
    go_ret
    exact⟨rfl,r.o.T (s.M r.o.size)⟩
   |false =>
    go_wp2_with (go_at_fn g;refine HC.o.M ?_;rintro e w1 ⟨rfl,s⟩)
    have ab:=zq (r.o.T (s.M r.o.size));go_roundw
    ·refine⟨j+1,by omega,by go_num,(show Hid _ from fun q hq af => ?_),ab⟩;by_cases e:q=j
     ·subst e;exact z.o
     ·exact HF.o q hq zZ
    ·simp[intOf];omega
  ·have e1:rr= -1:=by rw[<-RR.o];exact FT (fun q hq => HF.o q hq zZ)
   subst e1;go_wp2
   go_ret
   exact⟨rfl,r.o⟩
theorem IW(k:Nat)(u:0<k)(x:∀w,(Go.sizeOf 148).run prog w= .ok k w)(r:∀w,(isAgg 148).run prog w= .ok true w)(p:Be->Bool)(g)(i:Array Value)(v)(ds:List (Be))(f w)(s:∀args w,(callFunc g args).run prog w= .ok (.enter g args) w)(h:rSl k AE w f v ds)(q:∀(W:World) (cs:List Value) (fk:List Addr) (j:Nat) (z:j<ds.length),Below w w W->AE W fk cs ds[j]->Calls prog g (#[.agg cs] ++ i) W (zN (.bool (p ds[j])) W)):
  Calls prog 150 #[v,.func (.func g) #[] i] w (zN (.bool (ds.any p)) w):=by
 have n:=zq (PS k u x r p g i v ds f w s h q);rw[<-Ho];obtain⟨A,c,rfl,y,hm⟩:=rSl.head h;clear q h;generalize Em p ds=rr at n;go_enter func150,ntmps150
 go_wp2_with (go_at_call 199;refine n.o.M ?_;rintro e w1 ⟨rfl,l⟩)
 go_ret
 exact⟨rfl,l⟩
theorem RJ(p:Int->Bool)(g)(cb:Array Value)(v)(ds:List (Int))(f w)(eg:∀args w,(callFunc g args).run prog w= .ok (.enter g args) w)(h:rSl 1 Aw w f v ds)(hp:∀(W:World) (u:Value) (fk:List Addr) (j:Nat) (hj:j<ds.length),Below w w W->Aw W fk [u] ds[j]->Calls prog g (#[u] ++ cb) W (zN (.bool (p ds[j])) W)):
  Calls prog 273 #[v,.func (.func g) #[] cb] w (zN (int i64 (Em p ds)) w):=by
 obtain⟨A,c,rfl,hc,hm,hx⟩:=rSl.at_ Aw.X (Nat.succ_pos 0) h;have HX:=zq hx;have HP:=zq hp;clear hx hp h;obtain⟨rr,z⟩:∃rr,Em p ds=rr:=zJ;rw[z];have RR:=zq z;clear z;go_enter func273,ntmps273
 go_wp2
 go_loopw [8,5] (fun i _ wr =>∃j:Nat,j<=ds.length/\i=j/\Hid (∀q,(hq:q<ds.length)->q<j->p ds[q] =false)/\Hid (Below w w wr)) (fun i _ _ => ds.length - (intOf i).toNat)
 ·exact⟨0,by omega,rfl,(fun q hq h => by omega),aC _ _⟩
 ·obtain⟨j,hj,rfl,HF,r⟩:=hrel;by_cases x:j<ds.length
  ·obtain⟨ad,b,o,cs,fk,rfl,n⟩:=HX.o j x;have l:=n.B Aw.L r.o;obtain⟨u,rfl⟩:∃u,cs= [u]:=by
    have:=n.len;match cs,this with
    | [u],_ => exact⟨u,rfl⟩
   have hl:wr.cell? ⟨b,o,none⟩=some u:=by
    have:=l.cell 0 zX;simpa using this
   have ac:=n.place;rw[Nat.mul_one]at ac;have ae:=l.lt;have HC:=zq (HP.o wr u fk j x r.o l.reads);clear n l;obtain⟨pj,y⟩:∃pj,p ds[j] =pj:=zJ;rw[y]at HC;have aa:=zq y;clear y;cases pj with
   |true =>
    have e1:rr=j:=by rw[<-RR.o];exact Gn x aa.o HF.o
    subst e1;go_wp2_with (go_at_fn g;refine HC.o.M ?_;rintro e w1 ⟨rfl,s⟩)
    go_ret
    exact⟨rfl,r.o.T (s.M r.o.size)⟩
   |false =>
    go_wp2_with (go_at_fn g;refine HC.o.M ?_;rintro e w1 ⟨rfl,s⟩)
    have ab:=zq (r.o.T (s.M r.o.size));go_roundw
    ·refine⟨j+1,by omega,by go_num,(show Hid _ from fun q hq af => ?_),ab⟩;by_cases e:q=j
     ·subst e;exact aa.o
     ·exact HF.o q hq zZ
    ·simp[intOf];omega
  ·have e1:rr= -1:=by rw[<-RR.o];exact FT (fun q hq => HF.o q hq zZ)
   subst e1;go_wp2
   go_ret
   exact⟨rfl,r.o⟩
theorem NM(p:Int->Bool)(g)(i:Array Value)(v)(ds:List (Int))(f w)(r:∀args w,(callFunc g args).run prog w= .ok (.enter g args) w)(h:rSl 1 Aw w f v ds)(q:∀(W:World) (u:Value) (fk:List Addr) (j:Nat) (x:j<ds.length),Below w w W->Aw W fk [u] ds[j]->Calls prog g (#[u] ++ i) W (zN (.bool (p ds[j])) W)):
  Calls prog 249 #[v,.func (.func g) #[] i] w (zN (.bool (ds.any p)) w):=by
 have n:=zq (RJ p g i v ds f w r h q);rw[<-Ho];obtain⟨A,c,rfl,s,hm⟩:=rSl.head h;clear q h;generalize Em p ds=y at n;go_enter func249,ntmps249
 go_wp2_with (go_at_call 273;refine n.o.M ?_;rintro e z ⟨rfl,l⟩)
 go_ret
 exact⟨rfl,l⟩
theorem Fp {W g t}{cs:List Value}{k:Nat}(h:Blk W g t cs.toArray)(c:cs.length=k):Sem.run prog (loadCellsFrom (zE g) 0 k #[]) W= .ok cs.toArray W :=
 run_loadCellsFrom_list _ _ _ cs k c (fun q v hq => by
  rw[Addr.add_lit,h.cell];simpa using hq)
theorem run_at {α k}{R:AC α}{w fs ad j b o cs fk}{d:α}(h:At k R w fs ad j b o cs fk d):Sem.run prog (loadCellsFrom (b,o) 0 k #[]) w= .ok cs.toArray w :=
 run_loadCellsFrom_list _ _ _ cs k h.len (fun q v hq => by
  have c:q<cs.length:=(List.getElem?_eq_some_iff.1 hq).1;rw[Addr.add_lit,h.cell q c,<-hq];exact(aO c).symm)
theorem has1_c(k)(zR:∀w,(Go.sizeOf 105).run prog w= .ok k w)(aR:∀w,(isAgg 105).run prog w= .ok true w)(c f:List Value)(d1 d2 u x p T w)(h:c.length=k)(i:f.length=k)(h1:Af w u c d1)(y:Af w x f d2)(z:Blk w p T f.toArray):
  Calls prog 216 #[.agg c,.pointer (some (zE p))] w (zN (.bool (decide (d1=d2))) w):=by
 have l:Below w w (w.alloc (.cells c.toArray 105)):=(aC _ _).alloc (aD _) _;have l1:Sem.run prog (loadCellsFrom (zE w) 0 k #[]) (w.alloc (.cells c.toArray 105))= .ok c.toArray _:=Fp (Blk.new w _ _) h;have l2:Sem.run prog (loadCellsFrom (zE p) 0 k #[]) (w.alloc (.cells c.toArray 105))= .ok f.toArray _:=Fp (z.alloc _) i;have s:=zq (Gb d1 d2 c f u x (w.alloc (.cells c.toArray 105)) (AC.B Af.L Af.X h1 l) (AC.B Af.L Af.X y l));have q:=zq l;clear h1 y z l h i;obtain⟨r,hr⟩:∃r,decide (d1=d2)=r:=zJ;rw[hr]at s⊢;clear hr;go_enter func216,ntmps216
 go_wp2_with (go_at_call 206;refine s.o.M ?_;rintro e w1 ⟨rfl,n⟩)
 go_ret
 exact⟨rfl,q.o.T (n.M q.o.size)⟩
theorem has_c(v ds i d2 f u w)(h:rSl 9 Af w f v ds)(n:Af w u i d2):
  Calls prog 163 #[v,.agg i] w (zN (.bool (ds.any fun x => decide (x=d2))) w):=by
 have l:Below w w (w.alloc (.cells i.toArray 105)):=(aC _ _).alloc (aD _) _;have y:=Blk.new w 105 i.toArray;have s:=zq (JA 9 zZ sizeOf105 isAgg105 (fun x => decide (x=d2)) 216 #[.pointer (some (zE w))] v ds f (w.alloc (.cells i.toArray 105)) (enters_of func216 zY rfl) (rSl.B Af.L Af.X h l)
  (fun W cs fk j hj hW z => has1_c 9 sizeOf105 isAgg105 cs i ds[j] d2 fk u w 105 W (Af.wide _ _ _ _ z) (Af.wide _ _ _ _ n) z (AC.B Af.L Af.X (AC.B Af.L Af.X n l) hW) (y.B hW zX)))
 have q:=zq l;obtain⟨A,c,rfl,-⟩:=rSl.head h;clear h n l y;obtain⟨r,hr⟩:∃r,(ds.any fun x => decide (x=d2))=r:=zJ;rw[hr]at s⊢;clear hr;go_enter func163,ntmps163
 go_wp2_with (go_at_call 215;refine s.o.M ?_;rintro e w1 ⟨rfl,p⟩)
 go_ret
 exact⟨rfl,q.o.T (p.M q.o.size)⟩
theorem Tx(k:Nat)(hk:0<k)(zR:∀w,(Go.sizeOf 105).run prog w= .ok k w)(aR:∀w,(isAgg 105).run prog w= .ok true w)(v ds)(l:List Value)(d2 f f2 w)(h:rSl k Af w f v ds)(ac:l.length=k)(h2:Af w f2 l d2):
  Calls prog 81 #[v,.agg l] w (zN (.bool (ds.any fun x => decide (x=d2))) w):=by
 have hB:Below w w (w.alloc (.cells l.toArray 105)):=(aC _ _).alloc (aD _) _;have HK:=zq (Blk.new w 105 l.toArray);obtain⟨A,c,rfl,hc,hm,hx⟩:=rSl.at_ Af.X hk h;obtain⟨HX,H2,ag,ah⟩:=zH hx h2 hB ac;clear hx h2 h hB ac;obtain⟨rr,z⟩:∃rr,(ds.any fun x => decide (x=d2))=rr:=zJ;rw[z];have RR:=zq z;clear z;go_enter func81,ntmps81
 go_wp2
 go_loopw [5,4] (fun i u wr =>∃j:Nat,j<=ds.length/\i=j/\u= .bool false/\Hid (∀q,(hq:q<ds.length)->q<j->decide (ds[q] =d2)=false)/\Hid (Below w w wr)/\Hid (Blk wr w 105 l.toArray)) (fun i _ _ => ds.length - (intOf i).toNat)
 ·exact⟨0,by omega,rfl,rfl,(fun q hq h => by omega),ag.o,HK.o⟩
 ·obtain⟨j,hj,rfl,rfl,HF,HB,r⟩:=hrel;by_cases ae:j<ds.length
  ·obtain⟨ad,b,o,cs,fk,rfl,s⟩:=HX.o j ae;have n:=s.B Af.L HB.o;have an:=s.place;have ak:=n.lt;have al:=r.o.lt;have l1:∀d os,Sem.run prog (loadCellsFrom (b,o) 0 k #[]) (grow (redrawn wr d) os)= .ok cs.toArray (grow (redrawn wr d) os):=fun d os => run_at (n.B Af.L (aI wr d os))
   have l2:∀d os,Sem.run prog (loadCellsFrom (zE w) 0 k #[]) (grow (redrawn wr d) os)= .ok l.toArray (grow (redrawn wr d) os):=fun d os => Fp (r.o.B (aI wr d os) r.o.lt) ah.o
   have hc:∀d os,Calls prog 134 #[.agg cs,.agg l] (grow (redrawn wr d) os) fun e aj => e= .returned (.bool (decide (ds[j] =d2)))/\∃p:Regrown,aj=grow (redrawn wr p.d) p.os :=
    fun d os => Calls.regrown_of (Sj ds[j] d2 cs l fk f2 _ (AC.B Af.L Af.X n.reads (aI wr d os)) (AC.B Af.L Af.X (AC.B Af.L Af.X H2.o HB.o) (aI wr d os)))
   clear s n;obtain⟨pj,y⟩:∃pj,decide (ds[j] =d2)=pj:=zJ;rw[y]at hc;have HC:=zq hc;have ab:=zq y;clear y hc;have am:(j:Int)<(ds.length:Int):=by omega
   go_wp2_with fail
   refine aF zY zY ?_;repeat(first|go_big_quiet_step (exact HC.o _ _)|quiet_step (exact HC.o _ _))
   refine aQ ?_;intro _ ai;obtain⟨⟨dq,osq⟩,af⟩:=ai;subst af;have aa:=zq (HB.o.T ((aI wr dq osq).M HB.o.size));cases pj with
   |true =>
    have e1:rr=true:=by rw[<-RR.o];exact List.any_eq_true.2 ⟨_,aT ae,ab.o⟩
    subst e1;go_wp2
    go_ret
    exact⟨rfl,aa.o⟩
   |false =>
    go_wp2
    go_roundw
    ·refine⟨j+1,by omega,by go_num,rfl,(show Hid _ from fun q hq ao => ?_),aa,r.o.B (aI wr dq osq) r.o.lt⟩;by_cases e:q=j
     ·subst e;exact ab.o
     ·exact HF.o q hq zZ
    ·simp[intOf];omega
  ·have e1:rr=false:=by
    rw[<-RR.o];refine List.any_eq_false.2 fun x hx => ?_
    obtain⟨q,hq,rfl⟩:=aY hx;simpa using HF.o q hq zZ
   subst e1;go_wp2
   go_ret
   exact⟨rfl,HB.o⟩
theorem Tw(v ds c d2 f i w)(h:rSl 9 Af w f v ds)(l:Af w i c d2):
  Calls prog 81 #[v,.agg c] w (zN (.bool (ds.any fun x => decide (x=d2))) w) :=
 Tx 9 zZ sizeOf105 isAgg105 v ds c d2 f i w h (Af.wide _ _ _ _ l) l
end Go.Proofs.YtofeknacbdcoaaaGreatDoor
namespace Go.Proofs.YtofeknacbdcoaaaGreatDoor
open Go.Sort
variable {α:Type} [Inhabited α]
def ltI(lt:α->α->Bool)(ix:α->Nat)(x y:α):Bool:=lt x y||(!lt y x && decide (ix x<ix y))
section
variable {lt:α->α->Bool} {ix:α->Nat}
omit [Inhabited α]in
theorem DK {x y:α}:ltI lt ix x y=false↔lt x y=false/\(lt y x=true∨ix y<=ix x):=by
 unfold ltI;cases lt x y <;> cases lt y x <;> simp
omit [Inhabited α]in
theorem ltI_true {x y:α}:ltI lt ix x y=true↔lt x y=true∨(lt y x=false/\ix x<ix y):=by
 unfold ltI;cases lt x y <;> cases lt y x <;> simp
omit [Inhabited α]in
theorem OT(c:SWO lt){x y:α}(h:lt x y=true):lt y x=false:=by
 cases h2:lt y x with
 |false => rfl
 |true => have:=c.T _ _ _ h h2;rw[c.irrefl]at this;cases this
omit [Inhabited α]in
theorem Lr {x y:α}(h:ix y<ix x):ltI lt ix x y=lt x y:=by
 unfold ltI;cases lt x y <;> cases lt y x <;> simp <;> omega
omit [Inhabited α]in
theorem QO(f:SWO lt):SWO (ltI lt ix) where
 irrefl x:=by simp[ltI,f.irrefl]
 trans x y z e c:=by
  rw[ltI_true]at *;have n1:∀ {p q r:α},lt p q=true->lt r q=false->lt p r=true:=fun {p q r} a b => by
   cases h:lt p r with
   |true => rfl
   |false => have:=f.ntrans _ _ _ h b;rw[a]at this;cases this
  have n2:∀ {p q r:α},lt p q=true->lt p r=false->lt r q=true:=fun {p q r} a b => by
   cases h:lt r q with
   |true => rfl
   |false => have:=f.ntrans _ _ _ b h;rw[a]at this;cases this
  rcases e with e|⟨e,u⟩
  ·rcases c with c|⟨c,s⟩
   ·exact .inl (f.T _ _ _ e c)
   ·exact .inl (n1 e c)
  ·rcases c with c|⟨c,s⟩
   ·refine .inl ?_;cases h:lt x z with
    |true => rfl
    |false => have:=f.ntrans _ _ _ e h;rw[c]at this;cases this
   ·exact .inr ⟨f.ntrans _ _ _ c e,by omega⟩
 ntrans x y z e c:=by
  rw[DK]at *;obtain⟨i,n⟩:=e;obtain⟨l,o⟩:=c;refine⟨f.ntrans _ _ _ i l,?_⟩;cases h:lt z x with
  |true => exact .inl rfl
  |false =>
   have c1:lt y x=false:=f.ntrans _ _ _ l h;have c2:lt z y=false:=f.ntrans _ _ _ h i;rw[c1]at n;rw[c2]at o;simp at n o;exact .inr zZ
end
def Asc(ix:α->Nat)(a b:Nat)(d:Array α):Prop:=∀p q,a<=p->p<q->q<b->ix d[p]! <ix d[q]!
theorem Ii {lt:α->α->Bool}{ix:α->Nat}(a:Nat):∀(j:Nat) (d:Array α),j<d.size->(∀p,a<=p->p<j->ix d[p]! <ix d[j]!)->insInner (ltI lt ix) a j d=insInner lt a j d
 |0,d,_,_ => by unfold insInner;rfl
 |j+1,d,hj,h => by
  unfold insInner;by_cases c:j+1>a
  ·rw[Lr (h j zZ zZ)];cases hl:lt d[j+1]! d[j]! with
   |false => simp
   |true =>
    simp only[c,decide_true,Bool.and_self,if_true];refine Ii a j _ (by rw[swp_size];omega) (fun p e f => ?_);rw[swp_get d hj zZ,swp_get d hj zZ];simp only[show p≠j by omega,show p≠j+1 by omega,show(j:Nat)≠j+1 by omega,if_false,if_true];exact h p e zZ
  ·simp[show¬j+1>a by omega]
theorem Ij {lt:α->α->Bool}{ix:α->Nat}(y:SWO lt)(a b:Nat):∀(n i:Nat) (d:Array α),b - i=n->a<i->b<=d.size->SortedIn (ltI lt ix) a i d->(∀q,i<=q->q<b->∀p,a<=p->p<q->ix d[p]! <ix d[q]!)->insOuter (ltI lt ix) a b i d=insOuter lt a b i d
 |0,i,d,hn,_,_,_,_ => by
  rw[insOuter,aJ zZ,insOuter,aJ zZ]
 |n+1,i,d,hn,hai,hb,hs,h => by
  have c:i<b:=by omega
  rw[insOuter,aM c,show insOuter lt a b i d=insOuter lt a b (i+1) (insInner lt a i d) by rw[insOuter,aM c],<-Ii (lt:=lt) (ix:=ix) a i d zZ (fun p s e => h i (aD _) c p s e)];have l:=insInner_spec (QO (ix:=ix) y) swp_permIn permIn_refl permIn_trans a (i+1) i (Nat.lt_succ_self _) i d zZ (aD _) zZ ⟨fun p q u f z _ hq => hs p q u f zZ,fun q l h2 => by omega⟩;refine Ij y a b n (i+1) _ zZ zZ (by rw[l.1.1];exact hb) l.2 (fun q hq o p s f => ?_);rw[l.1.2.1 q (.inr hq)];by_cases e:p<i+1
  ·exact permIn_all d _ a (i+1) (fun x => ix x<ix d[q]!) zZ l.1 (fun r hr aa => h q zZ o r hr zZ) p s e
  ·rw[l.1.2.1 p (.inr zZ)];exact h q zZ o p s f
theorem Hp {lt:α->α->Bool}{ix:α->Nat}(n:SWO lt)(d:Array α)(a b:Nat)(c:a<=b)(hb:b<=d.size)(h:Asc ix a b d):PermIn a b d (insertionSort lt d a b)/\SortedIn (ltI lt ix) a b (insertionSort lt d a b):=by
 have:=insertionSort_holds (QO (ix:=ix) n) d a b c hb;have e:insertionSort (ltI lt ix) d a b=insertionSort lt d a b:=by
  unfold insertionSort;by_cases o:a<b
  ·exact Ij n a b _ (a+1) d rfl zZ hb (fun i j s u x => by omega) (fun q hq l p r f => h p q r f l)
  ·rw[insOuter,aJ zZ,insOuter,aJ zZ]
 rwa [e]at this
def SwR(x y n:Nat)(d d':Array α):Prop:=d'.size=d.size/\(∀i,i<n->d'[x+i]! =d[y+i]!)/\(∀i,i<n->d'[y+i]! =d[x+i]!)/\∀i,(i<x∨x+n<=i)->(i<y∨y+n<=i)->d'[i]! =d[i]!
theorem SwR.zero(x y)(d:Array α):SwR x y 0 d d:=⟨rfl,fun _ h => by omega,fun _ h => by omega,fun _ _ _ => rfl⟩
theorem SwR.step {x y n}{d d':Array α}(h:SwR x y n d d')(q:x+n<y)(u:y+n<d.size):SwR x y (n+1) d (swp d' (x+n) (y+n)):=by
 obtain⟨f,l,o,h4⟩:=h;have g:=swp_get d' (show x+n<d'.size by omega) (show y+n<d'.size by omega);refine⟨by rw[swp_size];exact f,fun i p => ?_,fun i p => ?_,fun i s r => ?_⟩
 ·rw[g,aJ zZ];by_cases e:i=n
  ·subst e;rw[aM rfl];exact h4 _ zZ zZ
  ·rw[aJ zZ];exact l i zZ
 ·rw[g];by_cases e:i=n
  ·subst e;rw[aM rfl];exact h4 _ zZ zZ
  ·rw[aJ zZ];by_cases c:y+i=x+n
   ·omega
   ·rw[aJ c];exact o i zZ
 ·rw[g,aJ zZ,aJ zZ];exact h4 i zZ zZ
def Rot(a m b:Nat)(d d':Array α):Prop:=d'.size=d.size/\(∀i,i<b - m->d'[a+i]! =d[m+i]!)/\(∀i,i<m - a->d'[a+(b - m)+i]! =d[a+i]!)/\∀i,i<a∨b<=i->d'[i]! =d[i]!
theorem Rot.none {a m b:Nat}(d:Array α)(h:a=m∨m=b)(c:a<=m)(f:m<=b):Rot a m b d d:=by
 refine⟨rfl,fun i e => ?_,fun i e => ?_,fun _ _ => rfl⟩
 ·rcases h with rfl|rfl
  ·rfl
  ·omega
 ·rcases h with rfl|rfl
  ·omega
  ·simp
theorem Rot.last {m i:Nat}{d d':Array α}(h:SwR (m - i) m i d d')(hi:i<=m):Rot (m - i) m (m+i) d d':=by
 obtain⟨e,f,l,h4⟩:=h;refine⟨e,fun k c => f k zZ,fun k c => ?_,fun k c => h4 k zZ zZ⟩;rw[show m - i+(m+i - m)+k=m+k by omega];exact l k zZ
theorem Rot.left {m i j:Nat}{d d1 d':Array α}(h:SwR (m - i) m j d d1)(p:j<i)(hi:i<=m)(hr:Rot (m - (i - j)) m (m+j) d1 d'):Rot (m - i) m (m+j) d d':=by
 obtain⟨l,n,o,h4⟩:=h;obtain⟨r1,r2,q,f⟩:=hr;refine⟨r1.T l,fun k e => ?_,fun k e => ?_,fun k e => ?_⟩
 ·rw[f _ (.inl zZ)];exact n k zZ
 ·rw[show m - i+(m+j - m)+k=m - (i - j)+k by omega];by_cases c:k<j
  ·rw[r2 k zZ];exact o k c
  ·have:=q (k - j) zZ;rw[show m - (i - j)+(m+j - m)+(k - j)=m - (i - j)+k by omega,show m - (i - j)+(k - j)=m - i+k by omega]at this;rw[this];exact h4 _ zZ zZ
 ·rw[f _ zZ];exact h4 _ zZ zZ
theorem Rot.right {m i j:Nat}{d d1 d':Array α}(h:SwR (m - i) (m+j - i) i d d1)(o:i<j)(hi:i<=m)(hr:Rot (m - i) m (m+(j - i)) d1 d'):Rot (m - i) m (m+j) d d':=by
 obtain⟨f,l,n,h4⟩:=h;obtain⟨r1,r2,q,e⟩:=hr;refine⟨r1.T f,fun k c => ?_,fun k c => ?_,fun k c => ?_⟩
 ·by_cases p:k<j - i
  ·rw[r2 k zZ];exact h4 _ zZ zZ
  ·have:=q (k - (j - i)) zZ;rw[show m - i+(m+(j - i) - m)+(k - (j - i))=m - i+k by omega]at this;rw[this,l _ zZ];congr 1
   omega
 ·rw[e _ zZ];have:=n k zZ;rw[show m+j - i+k=m - i+(m+j - m)+k by omega]at this;exact this
 ·rw[e _ zZ];exact h4 _ zZ zZ
def Up(x y:Nat)(d d':Array α):Prop:=d'.size=d.size/\(∀i,x<=i->i<y->d'[i]! =d[i+1]!)/\d'[y]! =d[x]!/\∀i,i<x∨y<i->d'[i]! =d[i]!
theorem Up.zero(x)(d:Array α):Up x x d d:=⟨rfl,fun _ c e => by omega,rfl,fun _ _ => rfl⟩
theorem Up.step {x y}{d d':Array α}(h:Up x y d d')(p:x<=y)(q:y+1<d.size):Up x (y+1) d (swp d' y (y+1)):=by
 obtain⟨f,l,n,h4⟩:=h;have g:=swp_get d' (show y<d'.size by omega) (show y+1<d'.size by omega);refine⟨by rw[swp_size];exact f,fun i c o => ?_,?_,fun i c => ?_⟩
 ·rw[g,aJ zZ];by_cases e:i=y
  ·subst e;rw[aM rfl];exact h4 _ (.inr zZ)
  ·rw[aJ e];exact l i c zZ
 ·rw[g,aM rfl];exact n
 ·rw[g,aJ zZ,aJ zZ];exact h4 i zZ
def JH(x y:Nat)(d d':Array α):Prop:=d'.size=d.size/\(∀i,x<i->i<=y->d'[i]! =d[i - 1]!)/\d'[x]! =d[y]!/\∀i,i<x∨y<i->d'[i]! =d[i]!
theorem JH.zero(x)(d:Array α):JH x x d d:=⟨rfl,fun _ c e => by omega,rfl,fun _ _ => rfl⟩
theorem JH.step {x y:Nat}{d d':Array α}(h:JH (x+1) y d d')(p:x+1<=y)(q:y<d.size):JH x y d (swp d' (x+1) x):=by
 obtain⟨f,l,n,h4⟩:=h;have g:=swp_get d' (show x+1<d'.size by omega) (show x<d'.size by omega);refine⟨by rw[swp_size];exact f,fun i o c => ?_,?_,fun i o => ?_⟩
 ·rw[g,aJ zZ];by_cases e:i=x+1
  ·subst e;rw[aM rfl,h4 _ (.inl zZ)];congr 1
  ·rw[aJ e];exact l i zZ c
 ·rw[g,aM rfl];exact n
 ·rw[g,aJ zZ,aJ zZ];exact h4 i zZ
section
variable (lt:α->α->Bool) (ix:α->Nat)
structure Pre (a m b:Nat) (d:Array α):Prop where
 am:a<=m
 mb:m<=b
 hb:b<=d.size
 left:SortedIn (ltI lt ix) a m d
 right:SortedIn (ltI lt ix) m b d
 cross:∀p q,a<=p->p<m->m<=q->q<b->ix d[p]! <ix d[q]!
def Fu(a b:Nat)(d d':Array α):Prop:=PermIn a b d d'/\SortedIn (ltI lt ix) a b d'
end
variable {lt:α->α->Bool} {ix:α->Nat} {a m b:Nat} {d d1 d2 d':Array α}
theorem Pre.done(h:Pre lt ix a m b d)(c:a=m∨m=b):Fu lt ix a b d d:=by
 refine⟨permIn_refl _ _ _,?_⟩;rcases c with rfl|rfl
 ·exact h.right
 ·exact h.left
theorem Pre.ll(h:Pre lt ix a m b d){p q:Nat}(f:a<=p)(i:p<=q)(hq:q<m)(e:SWO lt):lt d[q]! d[p]! =false:=by
 rcases Nat.lt_or_ge p q with c|c
 ·exact(DK.1 (h.left p q f c hq)).1
 ·obtain rfl:p=q:=by omega
  exact e.irrefl _
theorem Pre.rr(h:Pre lt ix a m b d){p q:Nat}(f:m<=p)(i:p<=q)(hq:q<b)(e:SWO lt):lt d[q]! d[p]! =false:=by
 rcases Nat.lt_or_ge p q with c|c
 ·exact(DK.1 (h.right p q f c hq)).1
 ·obtain rfl:p=q:=by omega
  exact e.irrefl _
theorem Pre.lr(h:Pre lt ix a m b d){p q:Nat}(f:a<=p)(c:p<m)(hq:m<=q)(e:q<b):ltI lt ix d[q]! d[p]! =lt d[q]! d[p]!:=Lr (h.cross p q f c hq e)
theorem Pre.rl(e:SWO lt)(f:Pre lt ix a m b d){p q:Nat}(c:lt d[q]! d[p]! =true):ltI lt ix d[p]! d[q]! =false:=DK.2 ⟨OT e c,.inl c⟩
theorem Pre.oneLeft(x:SWO lt)(h:Pre lt ix a m b d){i:Nat}(hm:m=a+1)(hi:m<=i)(z:i<=b)(h1:∀q,m<=q->q<i->lt d[q]! d[a]! =true)(s:∀q,i<=q->q<b->lt d[q]! d[a]! =false)(y:Up a (i - 1) d d')(u:PermIn a b d d'):Fu lt ix a b d d':=by
 obtain⟨u1,o,r,l⟩:=y;refine⟨u,fun p q n f c => ?_⟩;rcases Nat.lt_trichotomy p (i - 1)with e|e|e
 ·rw[o p n e];rcases Nat.lt_trichotomy q (i - 1)with hq|hq|hq
  ·rw[o q zZ hq];exact h.right _ _ zZ zZ zZ
  ·subst hq;rw[r];exact h.rl x (h1 _ zZ zZ)
  ·rw[l q (.inr hq)];exact h.right _ _ zZ zZ c
 ·subst e;rw[r,l q (.inr f),h.lr (aD _) zZ zZ c];exact s q zZ c
 ·rw[l p (.inr e),l q (.inr zZ)];exact h.right _ _ zZ f c
theorem Pre.oneRight(x:SWO lt)(h:Pre lt ix a m b d){i:Nat}(hm:b=m+1)(hi:a<=i)(y:i<=m)(h1:∀q,a<=q->q<i->lt d[m]! d[q]! =false)(r:∀q,i<=q->q<m->lt d[m]! d[q]! =true)(s:JH i m d d')(u:PermIn a b d d'):Fu lt ix a b d d':=by
 obtain⟨u1,n,o,l⟩:=s;refine⟨u,fun p q c e z => ?_⟩;rcases Nat.lt_trichotomy q i with hq|hq|hq
 ·rw[l p (.inl zZ),l q (.inl hq)];exact h.left _ _ c e zZ
 ·subst hq;rw[o,l p (.inl e),h.lr c zZ (aD _) zZ];exact h1 p c e
 ·rw[n q hq zZ];rcases Nat.lt_trichotomy p i with f|f|f
  ·rw[l p (.inl f)];exact h.left _ _ c zZ zZ
  ·subst f;rw[o];exact h.rl x (r _ zZ zZ)
  ·rw[n p f zZ];exact h.left _ _ zZ zZ zZ
theorem Pre.cut(n:SWO lt)(h:Pre lt ix a m b d){s e c:Nat}(aj:s<=m)(ae:m<=e)(has:a<=s)(ad:e<=b)(ai:s+e=c+m)(ab:s=a∨e=b∨lt d[e]! d[s - 1]! =false)(ac:s=m∨e=m∨lt d[e - 1]! d[s]! =true)(hR:Rot s m e d d1):
  Pre lt ix a s c d1/\Pre lt ix c e b d1/\∀p q,a<=p->p<c->c<=q->q<b->ltI lt ix d1[q]! d1[p]! =false:=by
 obtain⟨r1,r2,r3,r4⟩:=hR;have g1:∀i,i<s->d1[i]! =d[i]!:=fun i hi => r4 i (.inl hi)
 have g2:∀i,s<=i->i<c->d1[i]! =d[m+(i - s)]!:=fun i hi ah => by
  have:=r2 (i - s) zZ;rwa [show s+(i - s)=i by omega]at this
 have y:∀i,c<=i->i<e->d1[i]! =d[s+(i - c)]!:=fun i hi ag => by
  have:=r3 (i - c) zZ;rwa [show s+(e - m)+(i - c)=i by omega]at this
 have z:∀i,e<=i->d1[i]! =d[i]!:=fun i hi => r4 i (.inr hi)
 refine⟨⟨has,by omega,by rw[r1];have:=h.hb;omega,fun p q f l hq => ?_,fun p q o l hq => ?_,fun p q f o hq aa => ?_⟩,⟨by omega,ad,by rw[r1];exact h.hb,fun p q f l hq => ?_,fun p q o l hq => ?_,fun p q f o hq aa => ?_⟩,fun p q f o hq u => ?_⟩
 ·rw[g1 p zZ,g1 q hq];exact h.left _ _ f l zZ
 ·rw[g2 p o zZ,g2 q zZ hq];exact h.right _ _ zZ zZ zZ
 ·rw[g1 p o,g2 q hq aa];exact h.cross _ _ f zZ zZ zZ
 ·rw[y p f zZ,y q zZ hq];exact h.left _ _ zZ zZ zZ
 ·rw[z p o,z q zZ];exact h.right _ _ zZ l hq
 ·rw[y p f o,z q hq];exact h.cross _ _ zZ zZ zZ zZ
 ·by_cases af:p<s
  ·rw[g1 p af];by_cases x:q<e
   ·rw[y q hq x];exact h.left _ _ f zZ zZ
   ·rw[z q zZ,h.lr f zZ zZ u];rcases ab with r|r|r
    ·omega
    ·omega
    ·exact n.ntrans _ _ _ (h.rr ae zZ u n) (n.ntrans _ _ _ r (h.ll f zZ zZ n))
  ·rw[g2 p zZ o];by_cases x:q<e
   ·rw[y q hq x];refine h.rl n (p:=s+(q - c)) (q:=m+(p - s)) ?_;rcases ac with r|r|r
    ·omega
    ·omega
    ·cases hl:lt d[m+(p - s)]! d[s+(q - c)]! with
     |true => rfl
     |false =>
      have k1:=h.rr (p:=m+(p - s)) (q:=e - 1) zZ zZ zZ n;have k2:=h.ll (p:=s) (q:=s+(q - c)) has zZ zZ n;have:=n.ntrans _ _ _ (n.ntrans _ _ _ k1 hl) k2;rw[r]at this;cases this
   ·rw[z q zZ];exact h.right _ _ zZ zZ u
theorem Pre.beside {x y}(h:Pre lt ix a m b d)(n:PermIn x y d d')(o:y<=a∨b<=x):Pre lt ix a m b d':=by
 obtain⟨p1,p2,-⟩:=n;have g:∀i,a<=i->i<b->d'[i]! =d[i]!:=fun i r s => p2 i zZ
 have:=h.am;have:=h.mb;refine⟨h.am,h.mb,by rw[p1];exact h.hb,fun p q c e hq => ?_,fun p q c e hq => ?_,fun p q c l hq f => ?_⟩
 ·rw[g p c zZ,g q zZ zZ];exact h.left p q c e hq
 ·rw[g p zZ zZ,g q zZ hq];exact h.right p q c e hq
 ·rw[g p c zZ,g q zZ f];exact h.cross p q c l hq f
theorem Fu.join {c:Nat}(u:PermIn a b d d1)(z:∀p q,a<=p->p<c->c<=q->q<b->ltI lt ix d1[q]! d1[p]! =false)(o:a<=c)(r:c<=b)(hb:b<=d.size)(h1:Fu lt ix a c d1 d2)(f:Fu lt ix c b d2 d'):Fu lt ix a b d d':=by
 have z1:d1.size=d.size:=u.1;have z2:d2.size=d1.size:=h1.1.1;refine⟨permIn_trans _ _ _ _ _ u (permIn_trans _ _ _ _ _ (permIn_mono _ _ _ _ _ _ (aD _) r zZ h1.1) (permIn_mono _ _ _ _ _ _ o (aD _) zZ f.1)),fun p q h i l => ?_⟩;by_cases hq:q<c
 ·rw[f.1.2.1 p (.inl zZ),f.1.2.1 q (.inl hq)];exact h1.2 p q h i hq
 ·by_cases hp:c<=p
  ·exact f.2 p q hp i l
  ·rw[f.1.2.1 p (.inl zZ)];have k1:∀y,c<=y->y<b->ltI lt ix d1[y]! d2[p]! =false:=fun y n e =>
    permIn_all d1 d2 a c (fun x => ltI lt ix d1[y]! x=false) zZ h1.1 (fun x hx s => z x y hx s n e) p h zZ
   refine permIn_all d2 d' c b (fun y => ltI lt ix y d2[p]! =false) zZ f.1 (fun y n e => ?_) q zZ l;rw[h1.1.2.1 y (.inr n)];exact k1 y n e
theorem JT {K c i:Nat}(h1:K * c<=i)(e:i<K * c+K):i / K=c :=
 Nat.div_eq_of_lt_le (by rw[Nat.mul_comm];exact h1) (by rw[Nat.mul_comm,Nat.mul_add,Nat.mul_one];exact e)
structure Stg (lt:α->α->Bool) (ix:α->Nat) (K x n:Nat) (d:Array α):Prop where
 size:d.size=n
 home:∀i,i<n->ix d[i]! / K=i / K
 low:∀p q,p<q->q<x->p / K=q / K->ltI lt ix d[q]! d[p]! =false
theorem Stg.step {K c x y n:Nat}(h:Stg lt ix K x n d)(hx:x=K * c)(ac:y<=x+K)(hy:y<=n)(s:Fu lt ix x y d d'):Stg lt ix K y n d':=by
 obtain⟨⟨p1,p2,p3⟩,hs⟩:=s;have ab:=h.size;refine⟨p1.T h.size,fun i u => ?_,fun p q f hq r => ?_⟩
 ·by_cases e:x<=i/\i<y
  ·rw[JT (K:=K) (c:=c) (i:=i) zZ zZ];refine permIn_all d d' x y (fun v => ix v / K=c) zZ ⟨p1,p2,p3⟩ (fun j hj z => ?_) i e.1 e.2;rw[h.home j zZ];exact JT zZ zZ
  ·rw[p2 i zZ];exact h.home i u
 ·by_cases l:q<x
  ·rw[p2 p (.inl zZ),p2 q (.inl l)];exact h.low p q f l r
  ·by_cases o:x<=p
   ·exact hs p q o f hq
   ·exfalso
    rw[JT (K:=K) (c:=c) (i:=q) zZ zZ]at r;have aa:p<c * K:=by rw[Nat.mul_comm];omega
    have:=Nat.div_lt_of_lt_mul (show p<K * c by omega);omega
theorem Stg.wide {K x n}(h:Stg lt ix K x n d)(r:∀p q,x<=p->p<q->q<n->ltI lt ix d[q]! d[p]! =false){c:Nat}(s:x=K * c)(hn:n<=x+K):Stg lt ix K n n d:=by
 refine⟨h.size,h.home,fun p q e hq o => ?_⟩;by_cases l:q<x
 ·exact h.low p q e l o
 ·by_cases f:x<=p
  ·exact r p q f e hq
  ·exfalso
   rw[JT (K:=K) (c:=c) (i:=q) zZ zZ]at o;have:=Nat.div_lt_of_lt_mul (show p<K * c by omega);omega
theorem Stg.two {k n}(h:Stg lt ix k n n d):Stg lt ix (2 * k) 0 n d :=
 ⟨h.size,fun i c => by rw[Nat.mul_comm,<-Nat.div_div_eq_div_mul,<-Nat.div_div_eq_div_mul,h.home i c],fun p q _ hq => by omega⟩
structure Ix (lt:α->α->Bool) (ix:α->Nat) (k x n:Nat) (d:Array α):Prop where
 home:∀i,x<=i->i<n->ix d[i]! / k=i / k
 high:∀p q,x<=p->p<q->q<n->p / k=q / k->ltI lt ix d[q]! d[p]! =false
theorem Stg.rest {k n}(h:Stg lt ix k n n d):Ix lt ix k 0 n d:=⟨fun i _ f => h.home i f,fun p q _ c hq e => h.low p q c hq e⟩
theorem Ix.step {k x y n:Nat}(h:Ix lt ix k x n d)(s:x<=y)(c:PermIn x y d d'):Ix lt ix k y n d' :=
 ⟨fun i o e => by rw[c.2.1 i (.inr o)];exact h.home i zZ e,fun p q r f hq l => by rw[c.2.1 p (.inr r),c.2.1 q (.inr zZ)];exact h.high p q zZ f hq l⟩
theorem Ix.pre {k c x y n:Nat}(h:Ix lt ix k x n d)(hz:d.size=n)(hx:x=2 * k * c)(hm:x+k<=y)(aa:y<=x+2 * k)(hy:y<=n):Pre lt ix x (x+k) y d:=by
 have e1:x=k * (2 * c):=by rw[hx,Nat.mul_comm 2 k,Nat.mul_assoc]
 have e2:x+k=k * (2 * c+1):=by rw[Nat.mul_add,<-e1,Nat.mul_one]
 have d1:∀i,x<=i->i<x+k->i / k=2 * c:=fun i l o => JT zZ zZ
 have d2:∀i,x+k<=i->i<y->i / k=2 * c+1:=fun i l o => JT zZ zZ
 refine⟨by omega,hm,by omega,fun p q e f hq => h.high p q e f zZ (by rw[d1 p e zZ,d1 q zZ hq]),fun p q e f hq => h.high p q zZ f zZ (by rw[d2 p e zZ,d2 q zZ hq]),fun p q e u hq z => ?_⟩;have l:=h.home p e zZ;have o:=h.home q zZ zZ;rw[d1 p e u]at l;rw[d2 q hq z]at o;rcases Nat.lt_or_ge (ix d[p]!) (ix d[q]!)with s|r
 ·exact s
 ·have:=Nat.div_le_div_right (c:=k) r;omega
theorem Ix.alone {k c x n:Nat}(h:Ix lt ix k x n d)(l:x=2 * k * c)(hn:n<=x+k):∀p q,x<=p->p<q->q<n->ltI lt ix d[q]! d[p]! =false:=fun p q f e hq => by
 have o:x=k * (2 * c):=by rw[l,Nat.mul_comm 2 k,Nat.mul_assoc]
 exact h.high p q f e hq (by rw[JT (K:=k) (c:=2 * c) (i:=p) zZ zZ,JT (K:=k) (c:=2 * c) (i:=q) zZ zZ])
theorem Stg.all {k n}(h:Stg lt ix k n n d)(e:n<=k):SortedIn (ltI lt ix) 0 n d:=fun p q _ c hq =>
 h.low p q c hq (by rw[Nat.div_eq_of_lt (show p<k by omega),Nat.div_eq_of_lt (show q<k by omega)])
end Go.Proofs.YtofeknacbdcoaaaGreatDoor
namespace Go.Proofs.YtofeknacbdcoaaaGreatDoor
open Go.Shelf Go.RowKit Go.Lib Go.Sort
variable {α:Type} [Inhabited α]
theorem Any2.aR(w:World):(isAgg 105).run prog w= .ok true w:=isAgg105 w
theorem Any2.zR(w:World):(Go.sizeOf 105).run prog w= .ok 9 w:=sizeOf105 w
theorem IR(k)(zR:∀w,(Go.sizeOf 105).run prog w= .ok k w)(enc:α->List Value)(g)(cb:Array Value)(blk c cap x y n:Nat)(d0 d:Array α)(l w)(R:RowK enc k l blk c d0)(hs:d0.size=d.size)(S:SWK enc k l blk c d w)(ad:x+n<=y)(hy:y+n<=d.size)(ac:d.size<4611686018427387904):
  Calls prog 287 #[.slice (some (blk,c)) d.size cap,int i64 x,int i64 y,int i64 n,.func (.func g) #[] cb] w fun e w' => e= .returned (.tuple #[])/\∃d',SWK enc k l blk c d' w'/\SwR x y n d d'/\∀a b,a<=x->y+n<=b->b<=d.size->PermIn a b d d':=by
 have S0:Aside (SWK enc k l blk c d w):=S;clear S;go_enter func287,ntmps287
 go_wp2
 go_loopw [10] (fun v wr =>∃(i:Nat) (f:Array α),i<=n/\v=i/\f.size=d.size/\Aside (SWK enc k l blk c f wr)/\Hid (SwR x y i d f)/\Hid (∀a b,a<=x->y+n<=b->b<=d.size->PermIn a b d f)) (fun v _ => n - (intOf v).toNat)
 ·exact⟨0,d,by omega,rfl,rfl,S0,SwR.zero _ _ _,fun _ _ _ _ _ => permIn_refl _ _ _⟩
 ·clear S0;obtain⟨i,f,hi,rfl,r,h,HR,z⟩:=hrel;by_cases ab:i<n
  ·have aa:(i:Int)<(n:Int):=by omega
   go_wp2_with fail
   have ea:((x:Int)+(i:Int)).toNat =x+i:=by omega
   have pa:(0:Int)<=(x:Int)+(i:Int):=by omega
   have ba:(x:Int)+(i:Int)<(d.size:Int):=by omega
   have ra:IntKind.i64.wrap ((x:Int)+(i:Int))=(x:Int)+(i:Int):=by rw[IntKind.wrap_i64];omega
   have ec:((y:Int)+(i:Int)).toNat =y+i:=by omega
   have pc:(0:Int)<=(y:Int)+(i:Int):=by omega
   have bc:(y:Int)+(i:Int)<(d.size:Int):=by omega
   have rc:IntKind.i64.wrap ((y:Int)+(i:Int))=(y:Int)+(i:Int):=by rw[IntKind.wrap_i64];omega
   have p:Aside (SWK enc k l blk c (swp f (x+i) (y+i)) ((wr.drew.setCells blk (c+(x+i) * k) (enc f[y+i]!)).setCells blk (c+(y+i) * k) (enc f[x+i]!))):=h.o.swapped R (x+i) (y+i) zZ zZ;have l1:=h.o.ld1 R zZ prog (x+i) zZ;have l2:=h.o.ld1 R zZ prog (y+i) zZ;have s1:=h.o.st1 R zZ prog (x+i) zZ f[y+i]!;have u:=h.o.st2 R zZ prog (x+i) (y+i) zZ zZ f[y+i]! f[x+i]!;have n1:(enc f[x+i]!).length =k:=R.hk _;have n2:(enc f[y+i]!).length =k:=R.hk _;have s:prog.follows .mixedOrders =true:=by kernel_rfl
   have aR:=Any2.aR;generalize enc f[x+i]! =cI at p l1 u n1;generalize enc f[y+i]! =cJ at p l2 s1 u n2;clear h;go_big_region_o
   clear l1 l2 s1 u;generalize(wr.drew.setCells blk (c+(x+i) * k) cJ).setCells blk (c+(y+i) * k) cI=w2 at p⊢;go_wp2
   go_roundw
   ·exact⟨i+1,_,by omega,by go_num,by rw[swp_size];exact r,p,SwR.step HR.o zZ zZ,fun a b ha hb q => permIn_trans _ _ _ _ _ (z.o a b ha hb q) (swp_permIn _ _ _ _ _ zZ zZ zZ zZ zZ)⟩
   ·simp[intOf];omega
  ·obtain rfl:i=n:=by omega
   go_wp2
   go_end0
   exact⟨rfl,f,h.o,HR.o,z.o⟩
theorem rotate_c(k)(zR:∀w,(Go.sizeOf 105).run prog w= .ok k w)(enc:α->List Value)(g)(cb:Array Value)(blk c cap a m b:Nat)(d0 d:Array α)(s w)(R:RowK enc k s blk c d0)(hs:d0.size=d.size)(S:SWK enc k s blk c d w)(af:a<m)(ag:m<b)(hb:b<=d.size)(ah:d.size<4611686018427387904):
  Calls prog 274 #[.slice (some (blk,c)) d.size cap,int i64 a,int i64 m,int i64 b,.func (.func g) #[] cb] w fun e w' => e= .returned (.tuple #[])/\∃d',SWK enc k s blk c d' w'/\Rot a m b d d'/\PermIn a b d d':=by
 have S0:Aside (SWK enc k s blk c d w):=S;clear S;have r1:(m:Int) - (a:Int)=((m - a:Nat):Int):=by omega
 have r2:(b:Int) - (m:Int)=((b - m:Nat):Int):=by omega
 go_enter func274,ntmps274
 go_wp2
 go_loopw [10,11] (fun v u wr =>∃(i j:Nat) (r:Array α),v=i/\u=j/\0<i/\0<j/\a<=m - i/\i<=m/\m+j<=b/\r.size=d.size/\Aside (SWK enc k s blk c r wr)/\Hid (∀d',Rot (m - i) m (m+j) r d'->Rot a m b d d')/\Hid (PermIn a b d r)) (fun v u _ =>(intOf v).toNat +(intOf u).toNat)
 ·exact⟨m - a,b - m,d,by first|rfl|(congr 1;omega),by first|rfl|(congr 1;omega),by omega,by omega,by omega,by omega,by omega,rfl,S0,fun d' h => by rwa [show m - (m - a)=a by omega,show m+(b - m)=b by omega]at h,permIn_refl _ _ _⟩
 ·clear S0 r1 r2;obtain⟨i,j,r,rfl,rfl,hi,hj,ab,z,ad,f,S1,HR,HP⟩:=hrel;have r3:(m:Int) - (i:Int)=((m - i:Nat):Int):=by omega
  by_cases y:i=j
  ·have ac:=CY y;subst y;have l:=zq (IR k zR enc g cb blk c cap (m - i) m i d0 r s wr R zZ S1.o zZ zZ zZ);rw[f]at l;clear S1;go_wp2_with (go_at_call 287;refine l.o.M ?_;rintro e w1 ⟨rfl,d1,p,q,n⟩;have S3:Aside _:=p;have x:=zq q;have P2:=zq n;clear p q n)
   go_end0
   exact⟨rfl,d1,S3.o,HR.o d1 (Rot.last x.o zZ),permIn_trans _ _ _ _ _ HP.o (P2.o a b zZ zZ zZ)⟩
  ·have ac:=CZ y;by_cases ae:j<i
   ·have aa:(j:Int)<(i:Int):=by omega
    have l:=zq (IR k zR enc g cb blk c cap (m - i) m j d0 r s wr R zZ S1.o zZ zZ zZ);rw[f]at l;clear S1;go_wp2_with (go_at_call 287;refine l.o.M ?_;rintro e w1 ⟨rfl,d1,p,q,n⟩;have S3:Aside _:=p;have x:=zq q;have P2:=zq n;clear p q n)
    go_roundw
    ·exact⟨i - j,j,d1,by go_num,rfl,by omega,hj,by omega,by omega,ad,x.o.1.T f,S3,fun d' h => HR.o d' (Rot.left x.o ae z h),permIn_trans _ _ _ _ _ HP.o (P2.o a b zZ zZ zZ)⟩
    ·simp[intOf];omega
   ·have aa:¬(j:Int)<(i:Int):=by omega
    have r4:(m:Int)+(j:Int) - (i:Int)=((m+j - i:Nat):Int):=by omega
    have l:=zq (IR k zR enc g cb blk c cap (m - i) (m+j - i) i d0 r s wr R zZ S1.o zZ zZ zZ);rw[f]at l;clear S1;go_wp2_with (go_at_call 287;refine l.o.M ?_;rintro e w1 ⟨rfl,d1,p,q,n⟩;have S3:Aside _:=p;have x:=zq q;have P2:=zq n;clear p q n)
    go_roundw
    ·exact⟨i,j - i,d1,rfl,by go_num,hi,by omega,ab,z,by omega,x.o.1.T f,S3,fun d' h => HR.o d' (Rot.right x.o zZ z h),permIn_trans _ _ _ _ _ HP.o (P2.o a b zZ zZ zZ)⟩
    ·simp[intOf];omega
variable {α:Type} [Inhabited α]
theorem TU(k)(zR:∀w,(Go.sizeOf 105).run prog w= .ok k w)(enc:α->List Value)(n:α->α->Int)(ix:α->Nat)(g)(cb:Array Value)(blk c cap a m b)(d0 d:Array α)(r w)(eg:∀args w,(callFunc g args).run prog w= .ok (.enter g args) w)(s:CmpLays prog g cb enc k n blk c d0.size r)(hS:SWO (ltOf n))(R:RowK enc k r blk c d0)(hs:d0.size=d.size)(S:SWK enc k r blk c d w)(hP:Pre (ltOf n) ix a m b d)(hm:m=a+1)(bn:m<b)(bp:d.size<4611686018427387904):
  Calls prog 256 #[.slice (some (blk,c)) d.size cap,int i64 a,int i64 m,int i64 b,.func (.func g) #[] cb] w fun e w' => e= .returned (.tuple #[])/\∃d',SWK enc k r blk c d' w'/\Fu (ltOf n) ix a b d d':=by
 have bg:=hP.hb;have HC:Aside _:=s;have S0:Aside (SWK enc k r blk c d w):=S;have HP:=zq hP;have HS:=zq hS;have b1:(m:Int) - (a:Int)=1:=by omega
 have bm:a<m:=by omega
 have bo:m<=a+1:=by omega
 have HM:=zq hm;clear hm;have a1:prog.follows .mixedOrders =true:=by kernel_rfl
 have aR:=Any2.aR;clear s S hP hS;go_enter func256,ntmps256
 go_wp2
 go_loopw [10,11,12] (fun v u _ wr =>∃(i j:Nat),v=i/\u=j/\m<=i/\i<=j/\j<=b/\Aside (SWK enc k r blk c d wr)/\Hid (∀q,m<=q->q<i->ltOf n d[q]! d[a]! =true)/\Hid (∀q,j<=q->q<b->ltOf n d[q]! d[a]! =false)) (fun v u _ _ =>(intOf u).toNat - (intOf v).toNat)
 ·exact⟨m,b,rfl,rfl,by omega,by omega,by omega,S0,fun q h1 h2 => by omega,fun q h1 h2 => by omega⟩
 ·clear S0 b1;obtain⟨i,j,rfl,rfl,ak,bk,ai,f,H1,H2⟩:=hrel;by_cases aj:i<j
  ·have y:(i:Int)<(j:Int):=by omega
   obtain⟨h,hh⟩:∃h:Nat,(i+j) / 2=h:=zJ;have ay:i<=h:=by omega
   have bj:h<j:=by omega
   have bq:IntKind.i64.wrap ((i:Int)+(j:Int))=(i:Int)+(j:Int):=by rw[IntKind.wrap_i64];omega
   have br:IntKind.u64.wrap ((i:Int)+(j:Int))=(i:Int)+(j:Int):=by rw[IntKind.wrap_u64];omega
   have bs:((i:Int)+(j:Int)) / 2=(h:Int):=by omega
   have bt:IntKind.u64.wrap (h:Int)=(h:Int):=by rw[IntKind.wrap_u64];omega
   have bu:IntKind.i64.wrap (h:Int)=(h:Int):=by rw[IntKind.wrap_i64];omega
   cases hL:ltOf n d[h]! d[a]! with
   |true =>
    have ba:((h:Int)).toNat =h:=by omega
    have bv:(0:Int)<=(h:Int):=by omega
    have a4:(h:Int)<(d.size:Int):=by omega
    have b3:IntKind.i64.wrap ((h:Int))=(h:Int):=by rw[IntKind.wrap_i64];omega
    have bd:((a:Int)).toNat =a:=by omega
    have bz:(0:Int)<=(a:Int):=by omega
    have a7:(a:Int)<(d.size:Int):=by omega
    have b6:IntKind.i64.wrap ((a:Int))=(a:Int):=by rw[IntKind.wrap_i64];omega
    obtain⟨x1,ab⟩:∃x,x=d[h]!:=zJ;obtain⟨y1,ad⟩:∃x,x=d[a]!:=zJ;have al:=f.o.ld R hs.symm prog (h) zZ;have am:=f.o.ld R hs.symm prog (a) zZ;rw[<-ab]at al;rw[<-ad]at am;have ag:=f.o.cmp HC.o hs.symm x1 y1;have az:n x1 y1<0:=by rw[ab,ad];exact bE hL
    have bh:decide (n x1 y1<0)=true:=aN az;clear ab ad;go_wp2_with fail
    go_quiet_grown (first|(go_at_fn g;refine Calls.grown_of (ag _ _)))
    have p:Aside (SWK enc k r blk c d (grow (wr.drewN nq) osq)):=f.o.grown nq osq;clear al am ag f;generalize grow (wr.drewN nq) osq=w2 at p⊢;clear nq osq;go_wp2
    go_roundw
    ·exact⟨h+1,j,by go_num,rfl,by omega,by omega,ai,p,(fun q h1 h2 => by
     rcases Nat.lt_or_ge q i with h3|h3
     ·exact H1.o q h1 h3
     ·cases hq:ltOf n d[q]! d[a]! with
      |true => rfl
      |false => have:=HS.o.ntrans _ _ _ (HP.o.rr h1 (show q<=h by omega) zZ HS.o) hq;rw[hL]at this;cases this),H2⟩
    ·simp[intOf];omega
   |false =>
    have bb:((h:Int)).toNat =h:=by omega
    have bw:(0:Int)<=(h:Int):=by omega
    have a5:(h:Int)<(d.size:Int):=by omega
    have b4:IntKind.i64.wrap ((h:Int))=(h:Int):=by rw[IntKind.wrap_i64];omega
    have be:((a:Int)).toNat =a:=by omega
    have b0:(0:Int)<=(a:Int):=by omega
    have a8:(a:Int)<(d.size:Int):=by omega
    have b7:IntKind.i64.wrap ((a:Int))=(a:Int):=by rw[IntKind.wrap_i64];omega
    obtain⟨x2,ac⟩:∃x,x=d[h]!:=zJ;obtain⟨y2,ae⟩:∃x,x=d[a]!:=zJ;have an:=f.o.ld R hs.symm prog (h) zZ;have ao:=f.o.ld R hs.symm prog (a) zZ;rw[<-ac]at an;rw[<-ae]at ao;have ah:=f.o.cmp HC.o hs.symm x2 y2;have a0:¬n x2 y2<0:=by rw[ac,ae];exact of_decide_eq_false hL
    have bi:decide (n x2 y2<0)=false:=aG a0;clear ac ae;go_wp2_with fail
    go_quiet_grown (first|(go_at_fn g;refine Calls.grown_of (ah _ _)))
    have p:Aside (SWK enc k r blk c d (grow (wr.drewN nq) osq)):=f.o.grown nq osq;clear an ao ah f;generalize grow (wr.drewN nq) osq=w2 at p⊢;clear nq osq;go_wp2
    go_roundw
    ·exact⟨i,h,rfl,by go_num,ak,ay,by omega,p,H1,fun q h1 h2 => HS.o.ntrans _ _ _ (HP.o.rr zZ h1 h2 HS.o) hL⟩
    ·simp[intOf];omega
  ·obtain rfl:i=j:=by omega
   clear aj;go_wp2_with fail
   obtain⟨u,hu⟩:∃u,u=wr:=zJ;subst hu;go_loopw [13] (fun v wr =>∃(z:Nat) (l:Array α),v=z/\a<=z/\z<=i - 1/\l.size=d.size/\Aside (SWK enc k r blk c l wr)/\Hid (Up a z d l)/\Hid (PermIn a b d l)) (fun v _ => i - (intOf v).toNat)
   ·exact⟨a,d,rfl,by omega,by omega,rfl,f,Up.zero _ _,permIn_refl _ _ _⟩
   ·clear f;obtain⟨z,l,rfl,aw,bl,ax,f,HU,HQ⟩:=hrel;have r0:(i:Int) - 1=((i - 1:Nat):Int):=by omega
    by_cases aj:z<i - 1
    ·have y:(z:Int)<((i - 1:Nat):Int):=by omega
     have aa:(z:Int)<(i:Int) - 1:=by omega
     have bc:((z:Int)).toNat =z:=by omega
     have bx:(0:Int)<=(z:Int):=by omega
     have a6:(z:Int)<(d.size:Int):=by omega
     have b5:IntKind.i64.wrap ((z:Int))=(z:Int):=by rw[IntKind.wrap_i64];omega
     have bf:((z:Int)+1).toNat =z+1:=by omega
     have b2:(0:Int)<=(z:Int)+1:=by omega
     have a9:(z:Int)+1<(d.size:Int):=by omega
     have b8:IntKind.i64.wrap ((z:Int)+1)=(z:Int)+1:=by rw[IntKind.wrap_i64];omega
     have p:Aside (SWK enc k r blk c (swp l (z) (z+1)) ((wr.drew.setCells blk (c+(z) * k) (enc l[z+1]!)).setCells blk (c+(z+1) * k) (enc l[z]!))):=f.o.swapped R (z) (z+1) zZ zZ;have ap:=f.o.ld1 R zZ prog (z) zZ;have aq:=f.o.ld1 R zZ prog (z+1) zZ;have ar:=f.o.st1 R zZ prog (z) zZ l[z+1]!;have af:=f.o.st2 R zZ prog (z) (z+1) zZ zZ l[z+1]! l[z]!;have a2:(enc l[z]!).length =k:=R.hk _;have a3:(enc l[z+1]!).length =k:=R.hk _;generalize enc l[z]! =au at p ap af a2;generalize enc l[z+1]! =av at p aq ar af a3;clear f;go_wp2_with fail
     go_big_region_o
     clear ap aq ar af;generalize(wr.drew.setCells blk (c+(z) * k) av).setCells blk (c+(z+1) * k) au=w2 at p⊢;go_wp2
     go_roundw
     ·exact⟨z+1,_,by go_num,by omega,by omega,by rw[swp_size];exact ax,p,HU.o.step aw zZ,permIn_trans _ _ _ _ _ HQ.o (swp_permIn _ _ _ _ _ zZ zZ zZ zZ zZ)⟩
     ·simp[intOf];omega
    ·have y:¬(z:Int)<((i - 1:Nat):Int):=by omega
     have aa:¬(z:Int)<(i:Int) - 1:=by omega
     obtain rfl:z=i - 1:=by omega
     go_wp2_with fail
     (try simp only[Exit.inBlock,Exit.then])
     refine bodyPost_ret (results_none rfl _ _ _) rfl ?_;exact⟨rfl,l,f.o,HP.o.oneLeft HS.o HM.o ak ai H1.o H2.o HU.o HQ.o⟩
theorem Sr(k)(zR:∀w,(Go.sizeOf 105).run prog w= .ok k w)(enc:α->List Value)(n:α->α->Int)(ix:α->Nat)(g)(cb:Array Value)(blk c cap a m b)(d0 d:Array α)(s w)(eg:∀args w,(callFunc g args).run prog w= .ok (.enter g args) w)(y:CmpLays prog g cb enc k n blk c d0.size s)(hS:SWO (ltOf n))(R:RowK enc k s blk c d0)(hs:d0.size=d.size)(S:SWK enc k s blk c d w)(hP:Pre (ltOf n) ix a m b d)(bi:a<m)(az:m≠a+1)(hm:b=m+1)(br:d.size<4611686018427387904):
  Calls prog 256 #[.slice (some (blk,c)) d.size cap,int i64 a,int i64 m,int i64 b,.func (.func g) #[] cb] w fun e w' => e= .returned (.tuple #[])/\∃d',SWK enc k s blk c d' w'/\Fu (ltOf n) ix a b d d':=by
 have bj:=hP.hb;have HC:Aside _:=y;have S0:Aside (SWK enc k s blk c d w):=S;have HP:=zq hP;have HS:=zq hS;have b1:¬((m:Int) - (a:Int)=1):=by omega
 have b3:decide ((m:Int) - (a:Int)=1)=false:=aG b1;have b4:((m:Int) - (a:Int) == 1)=false:=by rw[beq_eq_false_iff_ne];exact b1
 have b2:(b:Int) - (m:Int)=1:=by omega
 have bk:m<b:=by omega
 have bl:b<=m+1:=by omega
 have HM:=zq hm;clear hm az;have a2:prog.follows .mixedOrders =true:=by kernel_rfl
 have aR:=Any2.aR;clear y S hP hS;go_enter func256,ntmps256
 go_wp2
 go_loopw [14,15,16] (fun v u _ wr =>∃(i j:Nat),v=i/\u=j/\a<=i/\i<=j/\j<=m/\Aside (SWK enc k s blk c d wr)/\Hid (∀q,a<=q->q<i->ltOf n d[m]! d[q]! =false)/\Hid (∀q,j<=q->q<m->ltOf n d[m]! d[q]! =true)) (fun v u _ _ =>(intOf u).toNat - (intOf v).toNat)
 ·exact⟨a,m,rfl,rfl,by omega,by omega,by omega,S0,fun q h1 h2 => by omega,fun q h1 h2 => by omega⟩
 ·clear S0 b1 b2 b3 b4;obtain⟨i,j,rfl,rfl,ak,bp,ai,f,H1,H2⟩:=hrel;by_cases aj:i<j
  ·have aa:(i:Int)<(j:Int):=by omega
   obtain⟨h,hh⟩:∃h:Nat,(i+j) / 2=h:=zJ;have ax:i<=h:=by omega
   have bo:h<j:=by omega
   have bs:IntKind.i64.wrap ((i:Int)+(j:Int))=(i:Int)+(j:Int):=by rw[IntKind.wrap_i64];omega
   have bt:IntKind.u64.wrap ((i:Int)+(j:Int))=(i:Int)+(j:Int):=by rw[IntKind.wrap_u64];omega
   have bu:((i:Int)+(j:Int)) / 2=(h:Int):=by omega
   have bv:IntKind.u64.wrap (h:Int)=(h:Int):=by rw[IntKind.wrap_u64];omega
   have bw:IntKind.i64.wrap (h:Int)=(h:Int):=by rw[IntKind.wrap_i64];omega
   cases hL:ltOf n d[m]! d[h]! with
   |true =>
    have bb:((m:Int)).toNat =m:=by omega
    have bx:(0:Int)<=(m:Int):=by omega
    have a5:(m:Int)<(d.size:Int):=by omega
    have b8:IntKind.i64.wrap ((m:Int))=(m:Int):=by rw[IntKind.wrap_i64];omega
    have be:((h:Int)).toNat =h:=by omega
    have b5:(0:Int)<=(h:Int):=by omega
    have a8:(h:Int)<(d.size:Int):=by omega
    have cc:IntKind.i64.wrap ((h:Int))=(h:Int):=by rw[IntKind.wrap_i64];omega
    obtain⟨x1,ab⟩:∃x,x=d[m]!:=zJ;obtain⟨y1,ad⟩:∃x,x=d[h]!:=zJ;have al:=f.o.ld R hs.symm prog (m) zZ;have am:=f.o.ld R hs.symm prog (h) zZ;rw[<-ab]at al;rw[<-ad]at am;have ag:=f.o.cmp HC.o hs.symm x1 y1;have a0:n x1 y1<0:=by rw[ab,ad];exact bE hL
    have bm:decide (n x1 y1<0)=true:=aN a0;clear ab ad;go_wp2_with fail
    go_quiet_grown (first|(go_at_fn g;refine Calls.grown_of (ag _ _)))
    have r:Aside (SWK enc k s blk c d (grow (wr.drewN nq) osq)):=f.o.grown nq osq;clear al am ag f;generalize grow (wr.drewN nq) osq=w2 at r⊢;clear nq osq;go_wp2
    go_roundw
    ·exact⟨i,h,rfl,by go_num,ak,ax,by omega,r,H1,fun q h1 h2 => by
     cases hq:ltOf n d[m]! d[q]! with
     |true => rfl
     |false => have:=HS.o.ntrans _ _ _ hq (HP.o.ll (show a<=h by omega) h1 h2 HS.o);rw[hL]at this;cases this⟩
    ·simp[intOf];omega
   |false =>
    have bc:((m:Int)).toNat =m:=by omega
    have bz:(0:Int)<=(m:Int):=by omega
    have a6:(m:Int)<(d.size:Int):=by omega
    have b9:IntKind.i64.wrap ((m:Int))=(m:Int):=by rw[IntKind.wrap_i64];omega
    have bf:((h:Int)).toNat =h:=by omega
    have b6:(0:Int)<=(h:Int):=by omega
    have a9:(h:Int)<(d.size:Int):=by omega
    have cd:IntKind.i64.wrap ((h:Int))=(h:Int):=by rw[IntKind.wrap_i64];omega
    obtain⟨x2,ac⟩:∃x,x=d[m]!:=zJ;obtain⟨y2,ae⟩:∃x,x=d[h]!:=zJ;have an:=f.o.ld R hs.symm prog (m) zZ;have ao:=f.o.ld R hs.symm prog (h) zZ;rw[<-ac]at an;rw[<-ae]at ao;have ah:=f.o.cmp HC.o hs.symm x2 y2;have a1:¬n x2 y2<0:=by rw[ac,ae];exact of_decide_eq_false hL
    have bn:decide (n x2 y2<0)=false:=aG a1;clear ac ae;go_wp2_with fail
    go_quiet_grown (first|(go_at_fn g;refine Calls.grown_of (ah _ _)))
    have r:Aside (SWK enc k s blk c d (grow (wr.drewN nq) osq)):=f.o.grown nq osq;clear an ao ah f;generalize grow (wr.drewN nq) osq=w2 at r⊢;clear nq osq;go_wp2
    go_roundw
    ·exact⟨h+1,j,by go_num,rfl,by omega,by omega,ai,r,fun q h1 h2 => HS.o.ntrans _ _ _ hL (HP.o.ll h1 (show q<=h by omega) zZ HS.o),H2⟩
    ·simp[intOf];omega
  ·obtain rfl:i=j:=by omega
   clear aj;go_wp2_with fail
   obtain⟨u,hu⟩:∃u,u=wr:=zJ;subst hu;go_loopw [17] (fun v wr =>∃(z:Nat) (l:Array α),v=z/\i<=z/\z<=m/\l.size=d.size/\Aside (SWK enc k s blk c l wr)/\Hid (JH z m d l)/\Hid (PermIn a b d l)) (fun v _ =>(intOf v).toNat)
   ·exact⟨m,d,rfl,by omega,by omega,rfl,f,JH.zero _ _,permIn_refl _ _ _⟩
   ·clear f;obtain⟨z,l,rfl,bh,bq,aw,f,HU,HQ⟩:=hrel;by_cases aj:i<z
    ·have aa:(i:Int)<(z:Int):=by omega
     obtain⟨p,rfl⟩:∃p,z=p+1:=⟨z - 1,by omega⟩;have ay:(i:Int)<(p:Int)+1:=by omega
     have bd:(((p:Int)+1)).toNat =p+1:=by omega
     have b0:(0:Int)<=((p:Int)+1):=by omega
     have a7:((p:Int)+1)<(d.size:Int):=by omega
     have ca:IntKind.i64.wrap (((p:Int)+1))=((p:Int)+1):=by rw[IntKind.wrap_i64];omega
     have bg:((p:Int)).toNat =p:=by omega
     have b7:(0:Int)<=(p:Int):=by omega
     have ba:(p:Int)<(d.size:Int):=by omega
     have ce:IntKind.i64.wrap ((p:Int))=(p:Int):=by rw[IntKind.wrap_i64];omega
     have r:Aside (SWK enc k s blk c (swp l (p+1) (p)) ((wr.drew.setCells blk (c+(p+1) * k) (enc l[p]!)).setCells blk (c+(p) * k) (enc l[p+1]!))):=f.o.swapped R (p+1) (p) zZ zZ;have ap:=f.o.ld1 R zZ prog (p+1) zZ;have aq:=f.o.ld1 R zZ prog (p) zZ;have ar:=f.o.st1 R zZ prog (p+1) zZ l[p]!;have af:=f.o.st2 R zZ prog (p+1) (p) zZ zZ l[p]! l[p+1]!;have a3:(enc l[p+1]!).length =k:=R.hk _;have a4:(enc l[p]!).length =k:=R.hk _;generalize enc l[p+1]! =au at r ap af a3;generalize enc l[p]! =av at r aq ar af a4;clear f;go_wp2_with fail
     go_big_region_o
     clear ap aq ar af;generalize(wr.drew.setCells blk (c+(p+1) * k) av).setCells blk (c+(p) * k) au=w2 at r⊢;go_wp2
     go_roundw
     ·exact⟨p,_,by go_num,by omega,by omega,by rw[swp_size];exact aw,r,HU.o.step zZ zZ,permIn_trans _ _ _ _ _ HQ.o (swp_permIn _ _ _ _ _ zZ zZ zZ zZ zZ)⟩
     ·simp[intOf]
    ·have aa:¬(i:Int)<(z:Int):=by omega
     obtain rfl:z=i:=by omega
     go_wp2_with fail
     (try simp only[Exit.inBlock,Exit.then])
     refine bodyPost_ret (results_none rfl _ _ _) rfl ?_;exact⟨rfl,l,f.o,HP.o.oneRight HS.o HM.o ak ai H1.o H2.o HU.o HQ.o⟩
