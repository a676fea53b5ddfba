/- Part 15 of the proof. -/
import Derived.Test.YtofeknacbdcoaaaGreatDoorK14
set_option maxHeartbeats 8000000
set_option maxRecDepth 100000
set_option linter.unusedVariables false
set_option linter.unusedSimpArgs false
open Go.Proofs.Tryz
open Go.Value (int)
open Go.IntKind (i64)
namespace Go.Proofs.YtofeknacbdcoaaaGreatDoor
open Go.RowKit Go.Sort
def Ci(n p base i:Nat):UInt8:=if n<=p then cau (base+p - n) i else if i=p then 1 else 0
def Cz(n p base:Nat):List UInt8:=(List.range n).map (Ci n p base)
theorem Bc(n p base):(Cz n p base).length =n:=by simp[Cz]
def CI(n p base j:Nat):List UInt8:=(List.range n).map fun i => if i<j then Ci n p base i else 0
theorem Hk(n p base j):(CI n p base j).length =n:=by simp[CI]
theorem Fn(n p base):CI n p base 0=List.replicate n 0:=by
 apply bK
 ·simp[CI]
 ·intro i c e;simp[CI]
theorem JY(n p base):CI n p base n=Cz n p base:=by
 apply bK
 ·simp[CI,Cz]
 ·intro i c e;simp only[CI,bH,List.length_range]at c;simp[CI,Cz,c]
theorem Fm {n p base j:Nat}(_:j<n):(CI n p base j).set j (Ci n p base j)=CI n p base (j+1):=by
 apply bK
 ·simp[CI]
 ·intro i c f;simp only[List.getElem_set,CI,bI,List.getElem_range];by_cases e:j=i
  ·subst e;simp
  ·rw[aJ e];by_cases h:i<j
   ·rw[aM h,aM zZ]
   ·rw[aJ h,aJ zZ]
theorem Ji {n p base j:Nat}(h:Ci n p base j=0):CI n p base (j+1)=CI n p base j:=by
 apply bK
 ·simp[CI]
 ·intro i c f;simp only[CI,bI,List.getElem_range];by_cases e:i=j
  ·subst e;simp[h]
  ·by_cases h:i<j
   ·rw[aM h,aM zZ]
   ·rw[aJ h,aJ zZ]
theorem mapSet {l:List UInt8}{j}{x:UInt8}:(l.map Bo).toArray.setIfInBounds j (.int .u8 (x.toNat:Int))=((l.set j x).map Bo).toArray:=by
 apply Array.toList_inj.1
 simp[List.map_set,Bo]
theorem Gs(n:Nat):madeCells #[.int .u8 0] n=((List.replicate n (0:UInt8)).map Bo).toArray:=by
 apply Array.toList_inj.1
 rw[toList_madeCells_one];simp[Bo]
theorem Blk.byteAt {w}{g j:Nat}{t}{l:List UInt8}(h:Blk w g t (l.map Bo).toArray)(c:j<l.length):w.cell? ⟨g,j,none⟩=some (.int .u8 (l[j].toNat:Int)):=by
 rw[h.cell];simp[Bo,c]
theorem Blk.putByte {w}{g j:Nat}{t}{l:List UInt8}(h:Blk w g t (l.map Bo).toArray)(x:UInt8):Blk (w.setCell (g,j) (.int .u8 (x.toNat:Int))) g t ((l.set j x).map Bo).toArray:=by
 have:=h.set_ j (.int .u8 (x.toNat:Int));rwa [mapSet]at this
theorem Blk.freshB {w w':World}{g}{l:List UInt8}(h:Blk w' g 5 (l.map Bo).toArray)(hb:Below w w w')(hg:w.heap.size<=g)(e:l.length<=1000000):BO l w (.returned (.slice (some (zE g)) l.length l.length)) w':=by
 refine⟨_,_,Bf (zE g) l.length,rfl,Ah.of_blk h zZ,⟨FG rfl,fun a c => by rw[Ek c];exact hg,fun a c => ?_⟩,hb⟩;obtain⟨q,_,rfl⟩:=Bt.1 c;rw[CO];exact h.frozen q
theorem Hw(n s p:Nat)(hn:n<=50)(hp:p<=50)(w:World):
  Calls prog 284 #[.agg #[int i64 (n:Int),int i64 (s:Int)],int i64 (p:Int)] w (BO (Cz n p 0) w):=by
 have ag:=Tryz.makeBytes n zZ;go_enter func284,ntmps284
 go_wp2_with fail
 have hK:=Blk.new1 w (.cells #[int i64 (n:Int),int i64 (s:Int)] 282) 5 (madeCells #[.int .u8 0] n);rw[Gs,<-Fn n p 0]at hK;have ac:=(Blk.new w 282 #[int i64 (n:Int),int i64 (s:Int)]).alloc (.cells (((CI n p 0 0).map Bo).toArray) 5);have ab:=Ac (Ac (aC w w) (.cells #[int i64 (n:Int),int i64 (s:Int)] 282)) (.cells (((CI n p 0 0).map Bo).toArray) 5);rw[Gs,<-Fn n p 0];obtain⟨HK,ae,ad⟩:=zI hK ac ab;clear hK ac ab ag;go_loopw [12,6,15,29] (fun i _ _ _ wr =>∃j:Nat,j<=n/\i=j/\Blk wr (w.heap.size+1) 5 ((CI n p 0 j).map Bo).toArray/\Blk wr w 282 #[int i64 (n:Int),int i64 (s:Int)]/\Below w w wr) (fun i _ _ _ _ => n - (intOf i).toNat)
 ·exact⟨0,by omega,rfl,HK.o,ae.o,ad.o⟩
 ·obtain⟨j,hj,rfl,hk,hx,hb⟩:=hrel;have c0:wr.cell? ⟨w.heap.size,0,none⟩=some (int i64 (n:Int)):=by rw[hx.cell];rfl
  by_cases aa:j<n
  ·have q1:=hk.byteAt (j:=j) (by rw[Hk];exact aa);have q2:=hk.frozen j;have q3:=hk.lt;obtain⟨q,y,l⟩:=zI hk hx hb;clear hk hx hb;by_cases z:n<=p
   ·have u:=fun W => cauchy_c (p - n) j zZ zZ W
    rw[show((p - n:Nat):Int)=(p:Int) - (n:Int)from by omega]at u;have f:Ci n p 0 j=cau (p - n) j:=by unfold Ci;rw[aM z,Nat.zero_add]
    have c:=Fm (p:=p) (base:=0) aa;rw[f]at c;obtain⟨x,hx⟩:∃x,cau (p - n) j=x:=zJ;rw[hx]at u c;have af:=zq u;have r:=zq c;clear u c f hx;go_wp2_with (go_at_call 293;refine(af.o _).M ?_;rintro e w' ⟨rfl,rfl⟩)
    go_roundw
    ·exact⟨j+1,by omega,by go_num,by rw[<-r.o];exact q.o.putByte x,y.o.far zX _,l.o.setCell zX _⟩
    ·simp[intOf];omega
   ·by_cases he:p=j
    ·subst he;have f:Ci n p 0 p=1:=by unfold Ci;rw[aJ z,aM rfl]
     have c:=Fm (p:=p) (base:=0) aa;rw[f]at c;have r:=zq c;clear c f;go_wp2
     go_roundw
     ·exact⟨p+1,by omega,by go_num,by rw[<-r.o];exact q.o.putByte 1,y.o.far zX _,l.o.setCell zX _⟩
     ·simp[intOf];omega
    ·have f:Ci n p 0 j=0:=by unfold Ci;rw[aJ z,aJ (fun h => he h.symm)]
     have r:=zq (Ji f);go_wp2
     go_roundw
     ·exact⟨j+1,by omega,by go_num,by rw[r.o];exact q.o,y.o,l.o⟩
     ·simp[intOf];omega
  ·obtain rfl:j=n:=by omega
   have q:=zq hk;have l:=zq hb;clear hk hx hb;go_wp2
   go_ret
   have h:=q.o;rw[JY]at h;have:=h.freshB l.o zZ (by rw[Bc];omega);rw[Bc]at this;exact this
theorem Ib(n s p:Nat)(hn:n<=50)(hp:p<=50)(w:World):
  Calls prog 268 #[.agg #[int i64 (n:Int),int i64 (s:Int)],int i64 (p:Int)] w (BO (Cz n p 8) w):=by
 have ag:=Tryz.makeBytes n zZ;go_enter func268,ntmps268
 go_wp2_with fail
 have hK:=Blk.new1 w (.cells #[int i64 (n:Int),int i64 (s:Int)] 231) 5 (madeCells #[.int .u8 0] n);rw[Gs,<-Fn n p 8]at hK;have ac:=(Blk.new w 231 #[int i64 (n:Int),int i64 (s:Int)]).alloc (.cells (((CI n p 8 0).map Bo).toArray) 5);have ab:=Ac (Ac (aC w w) (.cells #[int i64 (n:Int),int i64 (s:Int)] 231)) (.cells (((CI n p 8 0).map Bo).toArray) 5);rw[Gs,<-Fn n p 8];obtain⟨HK,ae,ad⟩:=zI hK ac ab;clear hK ac ab ag;go_loopw [12,6,15,29] (fun i _ _ _ wr =>∃j:Nat,j<=n/\i=j/\Blk wr (w.heap.size+1) 5 ((CI n p 8 j).map Bo).toArray/\Blk wr w 231 #[int i64 (n:Int),int i64 (s:Int)]/\Below w w wr) (fun i _ _ _ _ => n - (intOf i).toNat)
 ·exact⟨0,by omega,rfl,HK.o,ae.o,ad.o⟩
 ·obtain⟨j,hj,rfl,hk,hx,hb⟩:=hrel;have c0:wr.cell? ⟨w.heap.size,0,none⟩=some (int i64 (n:Int)):=by rw[hx.cell];rfl
  by_cases aa:j<n
  ·have q1:=hk.byteAt (j:=j) (by rw[Hk];exact aa);have q2:=hk.frozen j;have q3:=hk.lt;obtain⟨q,z,l⟩:=zI hk hx hb;clear hk hx hb;by_cases y:n<=p
   ·have u:=fun W => Oq j (p - n) zZ zZ W
    rw[show((p - n:Nat):Int)=(p:Int) - (n:Int)from by omega]at u;have f:Ci n p 8 j=cau (8+(p - n)) j:=by unfold Ci;rw[aM y,Nat.add_sub_assoc y]
    have c:=Fm (p:=p) (base:=8) aa;rw[f]at c;obtain⟨x,hx⟩:∃x,cau (8+(p - n)) j=x:=zJ;rw[hx]at u c;have af:=zq u;have r:=zq c;clear u c f hx;go_wp2_with (go_at_call 283;refine(af.o _).M ?_;rintro e w' ⟨rfl,rfl⟩)
    go_roundw
    ·exact⟨j+1,by omega,by go_num,by rw[<-r.o];exact q.o.putByte x,z.o.far zX _,l.o.setCell zX _⟩
    ·simp[intOf];omega
   ·by_cases he:p=j
    ·subst he;have f:Ci n p 8 p=1:=by unfold Ci;rw[aJ y,aM rfl]
     have c:=Fm (p:=p) (base:=8) aa;rw[f]at c;have r:=zq c;clear c f;go_wp2
     go_roundw
     ·exact⟨p+1,by omega,by go_num,by rw[<-r.o];exact q.o.putByte 1,z.o.far zX _,l.o.setCell zX _⟩
     ·simp[intOf];omega
    ·have f:Ci n p 8 j=0:=by unfold Ci;rw[aJ y,aJ (fun h => he h.symm)]
     have r:=zq (Ji f);go_wp2
     go_roundw
     ·exact⟨j+1,by omega,by go_num,by rw[r.o];exact q.o,z.o,l.o⟩
     ·simp[intOf];omega
  ·obtain rfl:j=n:=by omega
   have q:=zq hk;have l:=zq hb;clear hk hx hb;go_wp2
   go_ret
   have h:=q.o;rw[JY]at h;have:=h.freshB l.o zZ (by rw[Bc];omega);rw[Bc]at this;exact this
theorem ML(n p base:Nat)(hn:n<=50)(hp:p<=50)(ae:base<=40)(w:World):
  Calls prog 243 #[int i64 (n:Int),int i64 (p:Int),int i64 (base:Int)] w (BO (Cz n p base) w):=by
 have ad:=Tryz.makeBytes n zZ;go_enter func243,ntmps243
 go_wp2_with fail
 have hK:=Blk.new w 5 (madeCells #[.int .u8 0] n);rw[Gs,<-Fn n p base]at hK;have aa:=Ac (aC w w) (.cells (((CI n p base 0).map Bo).toArray) 5);rw[Gs,<-Fn n p base];have HK:=zq hK;have ab:=zq aa;clear hK aa ad;go_loopw [8] (fun i wr =>∃j:Nat,j<=n/\i=j/\Blk wr w 5 ((CI n p base j).map Bo).toArray/\Below w w wr) (fun i _ => n - (intOf i).toNat)
 ·exact⟨0,by omega,rfl,HK.o,ab.o⟩
 ·obtain⟨j,hj,rfl,y,hb⟩:=hrel;by_cases z:j<n
  ·have q1:=y.byteAt (j:=j) (by rw[Hk];exact z);have q2:=y.frozen j;have q3:=y.lt;have q:=zq y;have l:=zq hb;clear y hb;by_cases u:n<=p
   ·have s:=fun W => L7 (base+p - n) j zZ zZ W
    rw[show((base+p - n:Nat):Int)=(base:Int)+(p:Int) - (n:Int)from by omega]at s;have f:Ci n p base j=cau (base+p - n) j:=by unfold Ci;rw[aM u]
    have c:=Fm (p:=p) (base:=base) z;rw[f]at c;obtain⟨x,hx⟩:∃x,cau (base+p - n) j=x:=zJ;rw[hx]at s c;have ac:=zq s;have r:=zq c;clear s c f hx;go_wp2_with (go_at_call 188;refine(ac.o _).M ?_;rintro e w' ⟨rfl,rfl⟩)
    go_roundw
    ·exact⟨j+1,by omega,by go_num,by rw[<-r.o];exact q.o.putByte x,l.o.setCell zX _⟩
    ·simp[intOf];omega
   ·by_cases he:p=j
    ·subst he;have f:Ci n p base p=1:=by unfold Ci;rw[aJ u,aM rfl]
     have c:=Fm (p:=p) (base:=base) z;rw[f]at c;have r:=zq c;clear c f;go_wp2
     go_roundw
     ·exact⟨p+1,by omega,by go_num,by rw[<-r.o];exact q.o.putByte 1,l.o.setCell zX _⟩
     ·simp[intOf];omega
    ·have f:Ci n p base j=0:=by unfold Ci;rw[aJ u,aJ (fun h => he h.symm)]
     have r:=zq (Ji f);have af:¬(j:Int)=(p:Int):=by omega
     go_wp2
     go_roundw
     ·exact⟨j+1,by omega,by go_num,by rw[r.o];exact q.o,l.o⟩
     ·simp[intOf];omega
  ·obtain rfl:j=n:=by omega
   have q:=zq y;have l:=zq hb;clear y hb;go_wp2
   go_ret
   have h:=q.o;rw[JY]at h;have:=h.freshB l.o zZ (by rw[Bc];omega);rw[Bc]at this;exact this
def Ga(n:Nat)(hv:List Nat)(base:Nat):List (List UInt8):=(List.range n).map fun i => hv.map fun k => Ci n k base i
def Ge(n:Nat)(hv:List Nat)(c base:Nat):Option (List UInt8):=EM (Ga n hv base) (Cz n c base)
def Ka:Nat->Nat->Nat->List (List Nat)
 |0,_,_ => [[]]
 |k+1,a,b =>(List.range b).flatMap fun x => if a<=x then(Ka k (x+1) b).map (x :: ·)else []
def EV(b:Nat):Nat->List Nat->Prop
 |_,[] => True
 |a,x :: r => a<=x/\x<b/\EV b (x+1) r
theorem Mi {b}:∀(l:List Nat) (a:Nat),EV b a l->l∈Ka l.length a b
 | [],_,_ => by simp[Ka]
 |x :: r,a,h => by
  obtain⟨c,e,f⟩:=h;have:=Mi r (x+1) f;simp only[Ka,List.length_cons,List.mem_flatMap,List.mem_range];refine⟨x,e,?_⟩;rw[aM c];exact List.mem_map.2 ⟨r,this,rfl⟩
def EW(n base:Nat):Bool:=(Ka n 0 (n+2)).all fun e =>(List.range (n+2)).all fun c =>(Ge n e c base).isSome && (Ge n e c base).all fun L => L.length == n
theorem solve_r1:EW 1 0=true:=by decide +kernel
theorem solve_r2:EW 2 0=true:=by decide +kernel
theorem solve_r3:EW 3 0=true:=by decide +kernel
theorem solve_c1:EW 1 8=true:=by decide +kernel
theorem solve_c2:EW 2 8=true:=by decide +kernel
theorem solve_c3:EW 3 8=true:=by decide +kernel
theorem solve_c4:EW 4 8=true:=by decide +kernel
theorem Hz {n base:Nat}(h:EW n base=true){hv:List Nat}{c:Nat}(o:hv.length=n)(hr:EV (n+2) 0 hv)(hw:c<n+2):∃L,Ge n hv c base=some L/\L.length=n:=by
 subst o;have l:=List.all_eq_true.1 h hv (Mi hv 0 hr);have e:=List.all_eq_true.1 l c (List.mem_range.2 hw);rw[Bool.and_eq_true]at e;obtain⟨L,i⟩:=Option.isSome_iff_exists.1 e.1;have f:=e.2;rw[i]at f;exact⟨L,i,by simpa using f⟩
theorem wts_row {n:Nat}(h1:1<=n)(f:n<=3){hv:List Nat}{c:Nat}(e:hv.length=n)(hr:EV (n+2) 0 hv)(hw:c<n+2):∃L,Ge n hv c 0=some L/\L.length=n:=by
 match n,h1,f with
 |1,_,_ => exact Hz solve_r1 e hr hw
 |2,_,_ => exact Hz solve_r2 e hr hw
 |3,_,_ => exact Hz solve_r3 e hr hw
theorem wts_col {n:Nat}(h1:1<=n)(f:n<=4){hv:List Nat}{c:Nat}(e:hv.length=n)(hr:EV (n+2) 0 hv)(hw:c<n+2):∃L,Ge n hv c 8=some L/\L.length=n:=by
 match n,h1,f with
 |1,_,_ => exact Hz solve_c1 e hr hw
 |2,_,_ => exact Hz solve_c2 e hr hw
 |3,_,_ => exact Hz solve_c3 e hr hw
 |4,_,_ => exact Hz solve_c4 e hr hw
structure DB (w:World) (lo g:Nat) (ms:List (List UInt8)) (vs:List Value):Prop where
 len:vs.length=ms.length
 blk:Blk w g 61 vs.toArray
 own:∀i,(h:i<vs.length)->Ak 1 5 Al w lo vs[i] (ms.getD i []) []
 apart:∀i j,(hi:i<vs.length)->(hj:j<vs.length)->i≠j->∀b,vs[i].ownBlock =some b->vs[j].ownBlock≠some b
 lo:g<lo
def JI(w:World)(g:Nat)(c:List Value)(fs:List Addr):Prop:=∀a,a∈fs->a.block<w.heap.size/\a.block≠g/\∀v,v∈c->v.ownBlock≠some a.block
theorem DB.B {w w' lo g}{c:List (List UInt8)}{e}(h:DB w lo g c e)(hb:Below w w w'):DB w' lo g c e :=
 ⟨h.len,h.blk.B hb h.blk.lt,fun i f =>(h.own i f).B Al.L Al.X hb,h.apart,h.lo⟩
theorem DB.drew_ {w lo g}{c:List (List UInt8)}{e}(h:DB w lo g c e):DB w.drew lo g c e:=h.B (Am (aC _ _))
theorem DB.nil {w}{lo g n:Nat}(h:Blk w g 61 (madeCells #[zQ] n))(f:g<lo):DB w lo g (List.replicate n []) (List.replicate n (.slice none 0 0)):=by
 refine⟨by simp,?_,fun i c => ?_,fun i j c o l b e => ?_,f⟩
 ·have e:madeCells #[zQ] n=(List.replicate n (Value.slice none 0 0)).toArray:=by
   apply Array.toList_inj.1
   rw[toList_madeCells_one]
  rwa [e]at h
 ·simp only[List.getElem_replicate];have:(List.replicate n ([]:List UInt8)).getD i [] = []:=by simp[aP,List.getElem?_replicate];split <;> rfl
  rw[this];exact Ak.start ⟨rfl,.inl ⟨rfl,rfl⟩⟩
 ·simp only[List.getElem_replicate]at e;cases e
theorem DB.form {w lo g}{f:List (List UInt8)}{l}(h:DB w lo g f l){i:Nat}(hi:i<l.length):∃A c,l[i] = .slice A (f.getD i []).length c/\w.cell? ⟨g,i,none⟩=some (.slice A (f.getD i []).length c):=by
 obtain⟨A,c,e,-⟩:=(h.own i hi).length;refine⟨A,c,e,?_⟩;rw[h.blk.cell,<-e];simp[hi]
theorem Tryz.addByte2 {W base b v}{ds:List UInt8}{x:UInt8}(q:Ak 1 5 Al W base v ds [])(hn:ds.length+1<=1000000000)(c:base<=W.heap.size)(f:Blk W b 5 #[.int .u8 (x.toNat:Int)]):
  ∃e w',(Builtin.append_ #[61,61] 61 #[v,.slice (some (zE b)) 1 1]).run prog W= .ok e w'/\Ak 1 5 Al w' base e (ds ++ [x]) []/\W.grownBy w' v.ownBlock/\(e.ownBlock=v.ownBlock∨e.ownBlock=some W):=by
 obtain⟨e,w',l,h,i,r,h4,n⟩:=Ak.appendOne (P:=prog) 61 61 (.int .u8 0) 1 underlying61 Tryz.info5 rfl zW Al.L Al.X Fa base v ds [] q b [.int .u8 (x.toNat:Int)] [] x rfl f ⟨rfl,rfl⟩ (fun a p => by cases p) hn zZ c;have o:=Ak.flatBytes i;rw[o]at i;exact⟨e,w',l,i,h4,n⟩
structure Laid (w:World) (lo g i:Nat) (ms:List (List UInt8)) (vs:List Value) (row:List UInt8) (v':Value) (w6:World):Prop where
 mat:DB (w6.setCell (g,i) v') lo g (ms.set i row) (vs.set i v')
 foot:∀fs,JI w g vs fs->AV fs w (w6.setCell (g,i) v')/\JI (w6.setCell (g,i) v') g (vs.set i v') fs
 cell:w6.cell? ⟨g,i,none⟩=w.cell? (g,i)
 free:w6.frozen? ⟨g,i,none⟩=false
 lt:g<w6.heap.size
 B:Below g w (w6.setCell (g,i) v')
theorem DB.step {w W}{lo g i b:Nat}{s:List (List UInt8)}{l}{x:UInt8}{A n c}(h:DB w lo g s l)(hi:i<l.length)(hv:l[i] = .slice A n c)(ak:(s.getD i []).length +1<=1000000)(ah:lo<=w.heap.size)(hW:Below w w W)(u:Blk W b 5 #[.int .u8 (x.toNat:Int)]):
  ∃v' w6,(Builtin.append_ #[61,61] 61 #[.slice A n c,.slice (some (zE b)) 1 1]).run prog W= .ok v' w6/\∃A' c',v'= .slice A' ((s.getD i []).length +1) c'/\Laid w lo g i s l (s.getD i [] ++ [x]) v' w6:=by
 have o:=h.B hW;obtain⟨v',w6,h1,h2,h3,h4⟩:=Tryz.addByte2 (x:=x) (o.own i hi) zZ (aZ ah hW.size) u;obtain⟨A',c',e,-⟩:=h2.length;have hs:=hW.size;have hl:=h.len;have ag:g<W.heap.size:=o.blk.lt;have far:∀k,(u:k<l.length)->k≠i->∀q,l[k].ownBlock =some q->l[i].ownBlock≠some q:=fun k u r q y => h.apart k i u hi r q y
 have aa:∀q,l[i].ownBlock =some q->lo<=q/\q<W.heap.size:=(o.own i hi).lt;have af:some g≠l[i].ownBlock:=fun y => by have:=aa g y.symm;have:=h.lo;omega
 have z:Blk w6 g 61 l.toArray:=o.blk.grown h3 af;have ad:(l.toArray).setIfInBounds i v'=(l.set i v').toArray:=by simp
 rw[hv]at h1;refine⟨v',w6,h1,A',c',by rw[e];simp,⟨⟨by simp[hl],?_,fun k u => ?_,fun j k hj u r q y => ?_,h.lo⟩,fun fs hf =>⟨fun a ha => ?_,fun a ha => ?_⟩,?_,z.frozen i,z.lt,?_⟩⟩
 ·have:=z.set_ i v';rwa [ad]at this
 ·have p:k<l.length:=by simpa using u
  by_cases e2:i=k
  ·subst e2;have e3:(s.set i (s.getD i [] ++ [x])).getD i [] =s.getD i [] ++ [x]:=by simp[aP,<-hl,hi]
   simp only[List.getElem_set_self];rw[e3];refine h2.keep Al.L (fun q hq => Below.heap_setCell _ _ _ _ (fun f => ?_)) (fun a ha => by cases ha);have:=(h2.lt q hq).1;have:=h.lo;simp only at f;omega
  ·have e3:(s.set i (s.getD i [] ++ [x])).getD k [] =s.getD k []:=by simp[aP,List.getElem?_set_ne e2]
   simp only[List.getElem_set_ne e2];rw[e3];refine(o.own k p).keep Al.L (fun q hq => ?_) (fun a ha => by cases ha);have ai:=(o.own k p).lt q hq;rw[Below.heap_setCell _ _ _ _ (fun f => by have:=h.lo;simp only at f;omega)];exact h3.block q ai.2 (fun e6 => far k p (fun e7 => e2 e7.symm) q hq e6.symm)
 ·have ab:j<l.length:=by simpa using hj
  have p:k<l.length:=by simpa using u
  have ae:∀m,(hm:m<l.length)->m≠i->∀q,l[m].ownBlock =some q->v'.ownBlock≠some q:=fun m hm ac q f e6 => by
   rcases h4 with e4|e4
   ·rw[e4]at e6;exact far m hm ac q f e6
   ·rw[e4]at e6;injection e6 with e6;have:=(o.own m hm).lt q f;omega
  by_cases e2:i=j
  ·subst e2;simp only[List.getElem_set_self]at y;simp only[List.getElem_set_ne r];exact fun e3 => ae k p (fun h => r h.symm) q e3 y
  ·simp only[List.getElem_set_ne e2]at y;by_cases e3:i=k
   ·subst e3;simp only[List.getElem_set_self];exact ae j ab r q y
   ·simp only[List.getElem_set_ne e3];exact h.apart j k ab p r q y
 ·obtain⟨f1,f2,f3⟩:=hf a ha;rw[World.cell?_setCell_other _ _ _ _ (fun f => f2 (by rw[<-f]))];rw[h3.cell_far a (aH f1 hs) (fun f => f3 _ (aT hi) f.symm)];exact hW.cell f1
 ·obtain⟨f1,f2,f3⟩:=hf a ha;refine⟨by have:=h3.size;simp[World.setCell];omega,f2,fun v aj f => ?_⟩;rcases List.mem_or_eq_of_mem_set aj with h6|rfl
  ·exact f3 v h6 f
  ·rcases h4 with e4|e4
   ·rw[e4]at f;exact f3 _ (aT hi) f
   ·rw[e4]at f;injection f with f;omega
 ·rw[z.cell,h.blk.cell]
 ·exact(Below.grown (hW.M (Nat.le_of_lt h.blk.lt)) h3 (Nat.le_of_lt ag) (fun k u => by have:=(aa k u).1;have:=h.lo;omega)).setCell (aD _) _
theorem DB.lists {w lo g}{f:List (List UInt8)}{l}{n:Nat}(h:DB w lo g f l)(hn:f.length=n)(hm:n<=1000000):∃fs,Az w fs (.slice (some (zE g)) n n) f:=by
 have u:=h.len;have hr:∀i,(c:i<n)->∃o,Ai 1 Al w o [l[i]' zZ] f[i]:=fun i c => by
  have s:=h.own i zZ;obtain⟨o,p,-⟩:=s.reads;rw[List.append_nil]at p;have e:f.getD i [] =f[i]:=by rw[aP,aO zZ];rfl
  rw[e]at p;exact⟨o,_,rfl,p⟩
 let F:Nat->List Addr:=fun i => if c:i<n then Classical.choose (hr i c)else []
 have r:∀i,(c:i<n)->Ai 1 Al w (F i) [l[i]' zZ] f[i]:=fun i c => by
  have:F i=Classical.choose (hr i c):=dif_pos c;rw[this];exact Classical.choose_spec (hr i c)
 have:=rSl.ofRow (w:=w) (g:=g) (n:=n) (k:=1) (R:=Ai 1 Al) (ds:=f) (l.map fun v => [v]) ((List.range n).map F) hn zZ zV zX (fun i c => by
  simp only[bI,List.getElem_range];refine⟨rfl,fun q hq => ?_,r i c⟩;have:q=0:=by simpa using hq
  subst this;rw[Nat.mul_one,bC,h.blk.cell];simp[show i<l.length by omega])
 exact⟨_,this⟩
def BT(n:Nat)(hv:List Nat)(base k i:Nat):List (List UInt8):=(List.range n).map fun r =>((hv.take k).map fun h => Ci n h base r) ++(if r<i then [Ci n (hv.getD k 0) base r]else [])
theorem GS(n hv base k i):(BT n hv base k i).length =n:=by simp[BT]
theorem IN(n hv base):BT n hv base 0 0=List.replicate n []:=by
 apply bK
 ·simp[BT]
 ·intro i c e;simp[BT]
theorem KS {n:Nat}{hv}{base k i r:Nat}(hr:r<n):(BT n hv base k i).getD r [] =((hv.take k).map fun h => Ci n h base r) ++(if r<i then [Ci n (hv.getD k 0) base r]else []):=by
 simp[BT,aP,hr]
theorem IM {n:Nat}{hv}{base k i:Nat}(hi:i<n):(BT n hv base k i).set i ((BT n hv base k i).getD i [] ++ [Ci n (hv.getD k 0) base i])=BT n hv base k (i+1):=by
 rw[KS hi,aJ zZ,List.append_nil];apply bK
 ·simp[BT]
 ·intro r c f;simp only[List.getElem_set,BT,bI,List.getElem_range];by_cases e:i=r
  ·subst e;rw[aM rfl,aM zZ]
  ·rw[aJ e];by_cases h:r<i
   ·rw[aM h,aM zZ]
   ·rw[aJ h,aJ zZ]
theorem IL {n}{hv:List Nat}{base k:Nat}(c:k<hv.length):BT n hv base k n=BT n hv base (k+1) 0:=by
 apply bK
 ·simp[BT]
 ·intro r e f;have hr:r<n:=by simpa [BT]using e
  simp only[BT,bI,List.getElem_range];rw[aM hr,aJ zZ,aK c,List.map_append,List.append_nil];simp[aP,c]
theorem Jt {n hv base}:BT n hv base hv.length 0=Ga n hv base:=by
 apply bK
 ·simp[BT,Ga]
 ·intro r c e;simp only[BT,Ga,bI,List.getElem_range];rw[aJ zZ,List.append_nil,bA]
theorem Ju {n:Nat}{hv:List Nat}{base k i:Nat}(hi:i<n)(c:k<=hv.length):((BT n hv base k i).getD i []).length =k:=by
 rw[KS hi,aJ zZ];simp;omega
theorem Ez(n hv base):(Ga n hv base).length =n:=by simp[Ga]
theorem Kc {n:Nat}{hv:List Nat}{base}(h:hv.length=n):Cw (Ga n hv base) n:=by
 intro l c;simp only[Ga,List.mem_map]at c;obtain⟨i,_,rfl⟩:=c;simpa using h
theorem Jj {n p base i:Nat}(h:i<n):(Cz n p base)[i]'(by rw[Bc];exact h)=Ci n p base i:=by simp[Cz]
def FQ(l:List Nat):List Int:=l.map fun(x:Nat) =>(x:Int)
theorem CF(l):(FQ l).length =l.length:=by simp[FQ]
theorem Lk {l:List Nat}{i:Nat}(h:i<l.length):(FQ l)[i]'(by rw[CF];exact h)=((l[i]:Nat):Int):=by simp[FQ]
theorem Pk {n:Nat}{rows:List (List UInt8)}{right L:List UInt8}{w w':World}{e:Ending}(h:(∃A c fs L,EM rows right=some L/\L.length=n/\e= .returned (.tuple #[.slice A n c,.bool true])/\Ah w' fs (.slice A n c) L/\AL w w' fs/\Below w w w')∨(EM rows right=none/\e= .returned (.tuple #[zQ,.bool false])/\Below w w w'))(i:EM rows right=some L):
  ∃A c fs,e= .returned (.tuple #[.slice A n c,.bool true])/\Ah w' fs (.slice A n c) L/\AL w w' fs/\Below w w w':=by
 rcases h with⟨A,c,fs,q,f,-,l,o,h4,p⟩|⟨f,-⟩
 ·rw[i]at f;injection f with f
  subst f;exact⟨A,c,fs,l,o,h4,p⟩
 ·rw[i]at f;cases f
theorem SD(n s c:Nat)(hv v f w)(L:List UInt8)(h:AW w f v (FQ hv))(hl:hv.length=n)(hn:n<=20)(hk:∀k,k∈hv->k<=50)(hw:c<=50)(hS:Ge n hv c 0=some L)(hL:L.length=n):
  Calls prog 266 #[.agg #[int i64 (n:Int),int i64 (s:Int)],v,int i64 (c:Int)] w (BO L w):=by
 obtain⟨A1,c1,rfl,bb,bm,y⟩:=AW.open_ h;obtain⟨HX,a1,HS,ak⟩:=zH y hk hS hL;clear h y hk hS hL;rw[CF,hl]at bb⊢;have HL:=zq hl;clear hl;have bd:=Tryz.makeLists n zZ;go_enter func266,ntmps266
 go_wp2_with fail
 have hK:=DB.nil (lo:=w.heap.size+2) (Blk.new1 w (.cells #[int i64 (n:Int),int i64 (s:Int)] 282) 61 (madeCells #[zQ] n)) zZ;rw[<-IN n hv 0]at hK;have an:=(Blk.new w 282 #[int i64 (n:Int),int i64 (s:Int)]).alloc (.cells (madeCells #[zQ] n) 61);have am:=Ac (Ac (aC w w) (.cells #[int i64 (n:Int),int i64 (s:Int)] 282)) (.cells (madeCells #[zQ] n) 61);obtain⟨HK,aj,ai⟩:=zI hK an am;obtain⟨g,hg⟩:∃g,w.heap.size=g:=zJ;rw[hg]at HK aj ai⊢;have HG:=zq hg;clear hK an am bd hg;go_loopw [19,9,10,11] (fun i _ _ _ wr =>∃(k:Nat) (vs:List Value),k<=n/\i=k/\DB wr (g+2) (g+1) (BT n hv 0 k 0) vs/\Blk wr g 282 #[int i64 (n:Int),int i64 (s:Int)]/\Below g w wr/\g+2<=wr.heap.size) (fun i _ _ _ _ => n - (intOf i).toNat)
 ·exact⟨0,_,by omega,rfl,HK.o,aj.o,ai.o,by have:=HG.o;simp;omega⟩
 ·obtain⟨k,vs,bl,rfl,hm,y,hb,av⟩:=hrel;obtain⟨u,hu⟩:∃u,u=wr:=zJ;subst hu;have c0:u.cell? ⟨g,0,none⟩=some (int i64 (n:Int)):=by rw[y.cell];rfl
  have c1:u.cell? ⟨g,1,none⟩=some (int i64 (s:Int)):=by rw[y.cell];rfl
  by_cases bc:k<n
  ·have aa:k<hv.length:=by rw[HL.o];exact bc
   obtain⟨ad,e1,m1,b1,p1,bp⟩:=HX.o k (by rw[CF];exact aa);subst e1;rw[Lk aa]at p1;rw[HG.o]at b1;have bf:=(hb.cell (p:=ad.add k) b1).T p1;have aq:=a1.o _ (aT aa);have af:hv.getD k 0=hv[k]:=by simp[aP,aa]
   obtain⟨h1,ap⟩:∃h1,hv[k] =h1:=zJ;rw[ap]at bf aq af;have ay:=Hw n s h1 zZ aq u;obtain⟨HM,r,HB,az,al⟩:=zG hm y hb af ay;clear hm y hb p1 ap af ay m1;go_wp2_with fail
   refine al.o.M ?_;rintro e w5 ⟨A5,c5,f5,rfl,r5,m5,b5⟩;rw[Bc]at r5⊢;obtain⟨A6,c6,e6,bj,bn,hy⟩:=Ah.open_ r5;injection e6 with a5 a6 a7
   subst a5 a7;clear a6;have t5:=rSl.there Al.X r5;have ff:JI w5 (g+1) vs f5:=fun a ha => by
    have bi:=m5.from_ a ha;refine⟨t5 a ha,by omega,fun v be e7 => ?_⟩;obtain⟨q,hq,rfl⟩:=aY be;have:=((HM.o.own q hq).lt _ e7).2;omega
   obtain⟨M5,X5,FF,R5,B5⟩:=zG (HM.o.B b5) (r.o.B b5 (aH zZ av)) ff r5 (HB.o.T (b5.M zZ));have aw:g+2<=w5.heap.size:=aZ av b5.size;clear t5 ff r5 m5 b5 HM r HB hy al;go_wp2
   go_loopw [27,10,11] (fun i _ _ w7 =>∃(j:Nat) (vs:List Value),j<=n/\i=j/\DB w7 (g+2) (g+1) (BT n hv 0 k j) vs/\Blk w7 g 282 #[int i64 (n:Int),int i64 (s:Int)]/\Below g w w7/\g+2<=w7.heap.size/\Ah w7 f5 (.slice A5 n c5) (Cz n h1 0)/\JI w7 (g+1) vs f5) (fun i _ _ _ => n - (intOf i).toNat)
   ·exact⟨0,_,by omega,rfl,M5.o,X5.o,B5.o,aw,R5.o,FF.o⟩
   ·obtain⟨j,vs,hj,rfl,hm,y,hb,ab,hr,hf⟩:=hrel;by_cases z:j<n
    ·obtain⟨A7,c7,e7,bk,bo,hy⟩:=Ah.open_ hr;injection e7 with a8 a9 ba
     subst a8 ba;clear a9;obtain⟨a2,e2,m2,b2,g2⟩:=hy j (by rw[Bc];exact z);subst e2;rw[Jj z]at g2;have ax:j<vs.length:=by rw[hm.len,GS];exact z
     obtain⟨A8,c8,e8,p8⟩:=hm.form ax;have ac:=Ju (n:=n) (hv:=hv) (base:=0) (k:=k) (i:=j) z (by rw[HL.o];omega);have ah:=IM (hv:=hv) (base:=0) (k:=k) z;rw[az.o]at ah;have ae:=zq (hm.step (x:=Ci n h1 0 j) (W:=wr.alloc (.cells #[.int .u8 ((Ci n h1 0 j).toNat:Int)] 5)) ax e8 (by rw[ac];omega) ab (Ac (aC _ _) _) (Blk.new _ _ _));rw[ac]at ae;rw[ac]at p8;obtain⟨HM,r,HB,HR,HF,a3⟩:=zF hm y hb hr hf ah;clear hm y hb hr hf hy e8 ac ah;go_wp2_with (at_builtin;refine An rfl (.tmp 37) (.tmp 39) 61 rfl (.slice A8 k c8) (.slice (some (zE wr)) 1 1) rfl rfl ae.o ?_;rintro v6 w6 ⟨A9,c9,rfl,ll⟩;have q3:=ll.cell.T p8;have bg:=ll.free;have bh:=ll.lt;have LL:=zq ll;clear ll)
     go_roundw
     ·obtain⟨s1,s2⟩:=LL.o.foot _ HF.o;have ar:=LL.o.mat;rw[a3.o]at ar;exact⟨j+1,_,by omega,by go_num,ar,r.o.B LL.o.B zZ,HB.o.T (LL.o.B.M zZ),aZ ab LL.o.B.size,rSl.keep Al.L HR.o s1,s2⟩
     ·simp[intOf];omega
    ·obtain rfl:j=n:=by omega
     rw[IL aa]at hm;obtain⟨HM,r,HB⟩:=zI hm y hb;clear hm y hb hr hf;go_wp2
     go_roundw
     ·exact⟨k+1,_,by omega,by go_num,HM.o,r.o,HB.o,ab⟩
     ·simp[intOf];omega
  ·obtain rfl:k=n:=by omega
   have ag:=hm;rw[<-HL.o,Jt,HL.o]at ag;obtain⟨fr,l⟩:=ag.lists (Ez _ _ _) zZ;have ao:=Hw k s c zZ hw u;have au:=fun(W:World) (A3:Option Addr) (c3:Nat) (f3:List Addr) (hW:Below u u W) (h3:Ah W f3 (.slice A3 k c3) (Cz k c 0)) => Rb (.slice (some (zE (g+1))) k k) (.slice A3 k c3) (Ga k hv 0) (Cz k c 0) fr f3 W k (rSl.B Az.loc Az.fix l hW) h3 (Ez _ _ _) (Kc HL.o) (by rw[Bc];exact aD _) zZ
   obtain⟨a0,a4,HB⟩:=zI ao au hb;clear hm ag y hb l ao au;go_wp2_with (first
    |(go_at_call 284;refine a0.o.M ?_;rintro e w3 ⟨A3,c3,f3,rfl,r3,m3,b3⟩;rw[Bc]at r3⊢;have R3:=zq r3;have B3:=zq b3;clear r3 m3 b3)
    |(go_at_call 269;refine(a4.o _ _ _ _ B3.o R3.o).M ?_;rintro e w4 h4;obtain⟨A4,c4,f4,rfl,r4,m4,b4⟩:=Pk h4 HS.o;clear h4;have R4:=zq r4;have M4:=zq m4;have B4:=zq b4;clear r4 m4 b4))
   go_ret
   exact⟨A4,c4,f4,by rw[ak.o];rfl,by rw[ak.o];exact R4.o,M4.o.M (by rw[HG.o];have:=B3.o.size;omega),by rw[HG.o];exact HB.o.T ((B3.o.T (B4.o.M B3.o.size)).M zZ)⟩
theorem KH(n c base:Nat)(hv v f w)(L:List UInt8)(h:AW w f v (FQ hv))(hl:hv.length=n)(hn:n<=20)(ap:0<n)(hk:∀k,k∈hv->k<=50)(hw:c<=50)(al:base<=40)(hS:Ge n hv c base=some L)(hL:L.length=n):
  Calls prog 194 #[int i64 (n:Int),v,int i64 (c:Int),int i64 (base:Int)] w (BO L w):=by
 obtain⟨A1,c1,rfl,a7,bj,hx⟩:=AW.open_ h;obtain⟨HX,ay,HS,ah⟩:=zH hx hk hS hL;clear h hx hk hS hL;rw[CF,hl]at a7⊢;have HL:=zq hl;clear hl;have a9:=Tryz.makeLists n zZ;go_enter func194,ntmps194
 go_wp2_with fail
 have hK:=DB.nil (lo:=w.heap.size+1) (Blk.new w 61 (madeCells #[zQ] n)) zZ;rw[<-IN n hv base]at hK;have ak:=Ac (aC w w) (.cells (madeCells #[zQ] n) 61);have HK:=zq hK;have ag:=zq ak;obtain⟨g,hg⟩:∃g,w.heap.size=g:=zJ;rw[hg]at HK ag⊢;have HG:=zq hg;clear hK ak a9 hg;go_loopw [10,11,12] (fun i _ _ wr =>∃(k:Nat) (vs:List Value),k<=n/\i=k/\DB wr (g+1) g (BT n hv base k 0) vs/\Below g w wr/\g+1<=wr.heap.size) (fun i _ _ _ => n - (intOf i).toNat)
 ·exact⟨0,_,by omega,rfl,HK.o,ag.o,by have:=HG.o;simp;omega⟩
 ·obtain⟨k,vs,bi,rfl,hm,hb,ba⟩:=hrel;obtain⟨u,hu⟩:∃u,u=wr:=zJ;subst hu;by_cases a8:k<n
  ·have y:k<hv.length:=by rw[HL.o];exact a8
   obtain⟨ad,e1,m1,b1,p1,bm⟩:=HX.o k (by rw[CF];exact y);subst e1;rw[Lk y]at p1;rw[HG.o]at b1;have bc:=(hb.cell (p:=ad.add k) b1).T p1;have ao:=ay.o _ (aT y);have ab:hv.getD k 0=hv[k]:=by simp[aP,y]
   obtain⟨h1,an⟩:∃h1,hv[k] =h1:=zJ;rw[an]at bc ao ab;have av:=ML n h1 base zZ ao al u;obtain⟨HM,HB,aw,aj⟩:=zH hm hb ab av;clear hm hb p1 an ab av m1;go_wp2_with fail
   refine aj.o.M ?_;rintro e w5 ⟨A5,c5,f5,rfl,r5,m5,b5⟩;rw[Bc]at r5⊢;obtain⟨A6,c6,e6,bg,bk,hy⟩:=Ah.open_ r5;injection e6 with a0 a1 a3
   subst a0 a3;clear a1;have t5:=rSl.there Al.X r5;have ff:JI w5 g vs f5:=fun a ha => by
    have bf:=m5.from_ a ha;refine⟨t5 a ha,by omega,fun v bb e7 => ?_⟩;obtain⟨q,hq,rfl⟩:=aY bb;have:=((HM.o.own q hq).lt _ e7).2;omega
   obtain⟨M5,FF,R5,B5⟩:=zH (HM.o.B b5) ff r5 (HB.o.T (b5.M zZ));have ar:g+1<=w5.heap.size:=aZ ba b5.size;clear t5 ff r5 m5 b5 HM HB hy aj;go_wp2
   go_loopw [12] (fun i w7 =>∃(j:Nat) (vs:List Value),j<=n/\i=j/\DB w7 (g+1) g (BT n hv base k j) vs/\Below g w w7/\g+1<=w7.heap.size/\Ah w7 f5 (.slice A5 n c5) (Cz n h1 base)/\JI w7 g vs f5) (fun i _ => n - (intOf i).toNat)
   ·exact⟨0,_,by omega,rfl,M5.o,B5.o,ar,R5.o,FF.o⟩
   ·obtain⟨j,vs,hj,rfl,hm,hb,z,hr,hf⟩:=hrel;by_cases s:j<n
    ·obtain⟨A7,c7,e7,bh,bl,hy⟩:=Ah.open_ hr;injection e7 with a4 a5 a6
     subst a4 a6;clear a5;obtain⟨a2,e2,m2,b2,g2⟩:=hy j (by rw[Bc];exact s);subst e2;rw[Jj s]at g2;have au:j<vs.length:=by rw[hm.len,GS];exact s
     obtain⟨A8,c8,e8,p8⟩:=hm.form au;have aa:=Ju (n:=n) (hv:=hv) (base:=base) (k:=k) (i:=j) s (by rw[HL.o];omega);have af:=IM (hv:=hv) (base:=base) (k:=k) s;rw[aw.o]at af;have gz:=hm.blk.lt;have r:=zq (fun(W:World) (b:Nat) (hW:Below wr wr W) (hk:Blk W b 5 #[.int .u8 ((Ci n h1 base j).toNat:Int)]) => hm.step (x:=Ci n h1 base j) au e8 (by rw[aa];omega) z hW hk);rw[aa]at r;rw[aa]at p8;obtain⟨HM,HB,HR,HF,ai⟩:=zG hm hb hr hf af;clear hm hb hr hf hy e8 aa af;obtain⟨x,hx⟩:∃x,Ci n h1 base j=x:=zJ;rw[hx]at r ai g2;clear hx;go_wp2_with fail
     go_region_law (refine AZ rfl (.tmp 39) (.tmp 44) 61 rfl _ _ zT zT (r.o _ _ (by repeat(with_reducible first|exact aC _ _|apply Ac|apply Am)) (by repeat(with_reducible first|exact Blk.new _ _ _|apply Blk.drew_|apply Blk.alloc))) ?_;rintro v6 w6 ⟨A9,c9,rfl,ll⟩;have q3:=ll.cell.T p8;have bd:=ll.free;have be:=ll.lt;have LL:=zq ll;clear ll)
     all_goals
      go_wp2
      go_roundw
      ·obtain⟨s1,s2⟩:=LL.o.foot _ HF.o;have ae:=LL.o.mat;rw[ai.o]at ae;exact⟨j+1,_,by omega,by go_num,by first|exact ae|exact ae.drew_,by first|exact HB.o.T LL.o.B|exact HB.o.T LL.o.B,by first|exact aZ z LL.o.B.size,by first|exact rSl.keep Al.L HR.o s1,by first|exact s2⟩
      ·simp[intOf];omega
    ·obtain rfl:j=n:=by omega
     rw[IL y]at hm;have HM:=zq hm;have HB:=zq hb;clear hm hb hr hf;go_wp2
     go_roundw
     ·exact⟨k+1,_,by omega,by go_num,HM.o,HB.o,z⟩
     ·simp[intOf];omega
  ·obtain rfl:k=n:=by omega
   have ac:=hm;rw[<-HL.o,Jt,HL.o]at ac;obtain⟨fr,l⟩:=ac.lists (Ez _ _ _) zZ;have am:=ML k c base zZ hw al u;have aq:=fun(W:World) (A3:Option Addr) (c3:Nat) (f3:List Addr) (hW:Below u u W) (h3:Ah W f3 (.slice A3 k c3) (Cz k c base)) => Tr (.slice (some (zE g)) k k) (.slice A3 k c3) (Ga k hv base) (Cz k c base) fr f3 W k (rSl.B Az.loc Az.fix l hW) h3 (Ez _ _ _) (Kc HL.o) (by rw[Bc];exact aD _) zZ ap
   obtain⟨ax,az,HB⟩:=zI am aq hb;clear hm ac hb l am aq;go_wp2_with (first
    |(go_at_call 243;refine ax.o.M ?_;rintro e w3 ⟨A3,c3,f3,rfl,r3,m3,b3⟩;rw[Bc]at r3⊢;have R3:=zq r3;have B3:=zq b3;clear r3 m3 b3)
    |(go_at_call 245;refine(az.o _ _ _ _ B3.o R3.o).M ?_;rintro e w4 h4;obtain⟨A4,c4,f4,rfl,r4,m4,b4⟩:=Pk h4 HS.o;clear h4;have R4:=zq r4;have M4:=zq m4;have B4:=zq b4;clear r4 m4 b4))
   go_ret
   exact⟨A4,c4,f4,by rw[ah.o];rfl,by rw[ah.o];exact R4.o,M4.o.M (by rw[HG.o];have:=B3.o.size;omega),by rw[HG.o];exact HB.o.T ((B3.o.T (B4.o.M B3.o.size)).M zZ)⟩
theorem Tryz.kind_i64:prog.underlying 2=some (.int .i64):=by kernel_rfl
theorem wrap0:IntKind.i64.wrap 0=0:=by kernel_rfl
theorem Tryz.append_zeroW(w:World)(A)(n c:Nat)(h:n<=c)(q:TypeId)(z:Int)(f:IntKind.i64.wrap z=0):(Builtin.append_ #[61,2] q #[.slice A n c,int i64 z]).run prog w= .ok (.slice A n c) w:=by
 obtain⟨i,e,l,o,p⟩:=info_parts Tryz.info5;cases A <;> simp[Builtin.append_,run_underlying underlying61,run_underlying Tryz.kind_i64,sizeOf,typeInfo,e,Builtin.lenOf,Builtin.firstCells,h,storeCells,asInt,asIntOf,f]
theorem Tryz.append_zeroE(w:World)(A)(n c:Nat)(h:n<=c)(e:TypeId)(z:Int)(i:IntKind.i64.wrap z=0):∃f w',(Builtin.append_ #[61,2] e #[.slice A n c,int i64 z]).run prog w= .ok f w'/\(f= .slice A n c/\w'=w) :=
 ⟨_,_,Tryz.append_zeroW w A n c h e z i,rfl,rfl⟩
theorem BO.drew_ {L:List UInt8}{w w'}{e:Ending}(h:BO L w e w'):BO L w e w'.drew:=by
 obtain⟨A,c,fs,f,i,l,h4⟩:=h;exact⟨A,c,fs,f,rSl.keep Al.L i (fun _ _ => rfl),l.keep (fun _ _ => rfl),h4.T ⟨rfl,rfl,rfl,aD _,fun _ _ => rfl⟩⟩
theorem Mq {P:Program}{w:World}{e:Array Oper}{o:Oper}{a:Act}{K:Act->World->Prop}{Q:Exit->Act->World->Prop}{E:Prop}{S:Value->World->Prop}(f:o.guard=none)(s x:Operand)(t i:TypeId)(p:o.op= .call { callee:=.builtin .append,args:=#[s,x],argTypes:=#[t,i] })(v u:Value)(q:a.eval s=v)(r:a.eval x=u)(hr:∃c w',(Builtin.append_ #[t,i] o.type #[v,u]).run P w= .ok c w'/\S c w')(h:∀c w',S c w'->K (a.put o.dst c) w'):if Region.wanted o (yielded e a.tmps)=true then Oper.wp P o a w K Q else E:=by
 have hw:Region.wanted o (yielded e a.tmps)=true:=by simp[Region.wanted,f]
 rw[aM hw];obtain⟨c,w',l,n⟩:=hr;unfold Oper.wp execOp;simp only[p,resolve,invoke,builtin,Sem.run_bind,Sem.run_pure,Result.andThen_ok,List.map_toArray,List.map_cons,List.map_nil,q,r,l];exact h c w' n
theorem Mm(A n c)(w:World):Calls prog 149 #[.slice A n c] w (zM (int i64 (n:Int)) w):=by
 go_enter func149,ntmps149
 go_wp2
 go_ret
 exact⟨rfl,rfl⟩
theorem share_c(n s c:Nat)(hv v f w)(L:List UInt8)(h:AW w f v (FQ hv))(hl:hv.length=n)(hn:n<=20)(hk:∀k,k∈hv->k<=50)(hw:c<=50)(hS:Ge n hv c 8=some L)(hL:L.length=n):
  Calls prog 236 #[.agg #[int i64 (n:Int),int i64 (s:Int)],v,int i64 (c:Int)] w (BO L w):=by
 obtain⟨A1,c1,rfl,bi,bv,y⟩:=AW.open_ h;obtain⟨HX,a6,HS,af⟩:=zH y hk hS hL;clear h y hk hS hL;rw[CF,hl]at bi⊢;have HL:=zq hl;clear hl;have bk:=Tryz.makeLists n zZ;go_enter func236,ntmps236
 go_wp2_with fail
 have hK:=DB.nil (lo:=w.heap.size+2) (Blk.new1 w (.cells #[int i64 (n:Int),int i64 (s:Int)] 231) 61 (madeCells #[zQ] n)) zZ;rw[<-IN n hv 8]at hK;have aq:=(Blk.new w 231 #[int i64 (n:Int),int i64 (s:Int)]).alloc (.cells (madeCells #[zQ] n) 61);have ap:=Ac (Ac (aC w w) (.cells #[int i64 (n:Int),int i64 (s:Int)] 231)) (.cells (madeCells #[zQ] n) 61);obtain⟨HK,al,ak⟩:=zI hK aq ap;obtain⟨g,hg⟩:∃g,w.heap.size=g:=zJ;rw[hg]at HK al ak⊢;have HG:=zq hg;clear hK aq ap bk hg;go_loopw [22,9,10,11] (fun i _ _ _ wr =>∃(k:Nat) (vs:List Value),k<=n/\i=k/\DB wr (g+2) (g+1) (BT n hv 8 k 0) vs/\Blk wr g 231 #[int i64 (n:Int),int i64 (s:Int)]/\Below g w wr/\g+2<=wr.heap.size) (fun i _ _ _ _ => n - (intOf i).toNat)
 ·exact⟨0,_,by omega,rfl,HK.o,al.o,ak.o,by have:=HG.o;simp;omega⟩
 ·obtain⟨k,vs,bt,rfl,hm,y,hb,az⟩:=hrel;obtain⟨u,hu⟩:∃u,u=wr:=zJ;subst hu;have c0:u.cell? ⟨g,0,none⟩=some (int i64 (n:Int)):=by rw[y.cell];rfl
  have c1:u.cell? ⟨g,1,none⟩=some (int i64 (s:Int)):=by rw[y.cell];rfl
  by_cases bj:k<n
  ·have aa:k<hv.length:=by rw[HL.o];exact bj
   obtain⟨ad,e1,m1,b1,p1,b0⟩:=HX.o k (by rw[CF];exact aa);subst e1;rw[Lk aa]at p1;rw[HG.o]at b1;have bm:=(hb.cell (p:=ad.add k) b1).T p1;have aw:=a6.o _ (aT aa);have ag:hv.getD k 0=hv[k]:=by simp[aP,aa]
   obtain⟨h1,av⟩:∃h1,hv[k] =h1:=zJ;rw[av]at bm aw ag;have a3:=Ib n s h1 zZ aw u;obtain⟨HM,r,HB,a4,am⟩:=zG hm y hb ag a3;clear hm y hb p1 av ag a3 m1;go_wp2_with fail
   refine am.o.M ?_;rintro e w5 ⟨A5,c5,f5,rfl,r5,m5,b5⟩;rw[Bc]at r5⊢;obtain⟨A6,c6,e6,br,bw,hy⟩:=Ah.open_ r5;injection e6 with a9 ba bb
   subst a9 bb;clear ba;have t5:=rSl.there Al.X r5;have ff:JI w5 (g+1) vs f5:=fun a ha => by
    have bq:=m5.from_ a ha;refine⟨t5 a ha,by omega,fun v bl e7 => ?_⟩;obtain⟨q,hq,rfl⟩:=aY bl;have:=((HM.o.own q hq).lt _ e7).2;omega
   obtain⟨M5,X5,FF,R5,B5⟩:=zG (HM.o.B b5) (r.o.B b5 (aH zZ az)) ff r5 (HB.o.T (b5.M zZ));have a0:g+2<=w5.heap.size:=aZ az b5.size;clear t5 ff r5 m5 b5 HM r HB hy am;go_wp2
   go_loopw [30,10,11] (fun i _ _ w7 =>∃(j:Nat) (vs:List Value),j<=n/\i=j/\DB w7 (g+2) (g+1) (BT n hv 8 k j) vs/\Blk w7 g 231 #[int i64 (n:Int),int i64 (s:Int)]/\Below g w w7/\g+2<=w7.heap.size/\Ah w7 f5 (.slice A5 n c5) (Cz n h1 8)/\JI w7 (g+1) vs f5) (fun i _ _ _ => n - (intOf i).toNat)
   ·exact⟨0,_,by omega,rfl,M5.o,X5.o,B5.o,a0,R5.o,FF.o⟩
   ·obtain⟨j,vs,hj,rfl,hm,y,hb,ab,hr,hf⟩:=hrel;by_cases z:j<n
    ·obtain⟨A7,c7,e7,bs,bx,hy⟩:=Ah.open_ hr;injection e7 with bc bd be
     subst bc be;clear bd;obtain⟨a2,e2,m2,b2,g2⟩:=hy j (by rw[Bc];exact z);subst e2;rw[Jj z]at g2;have a1:j<vs.length:=by rw[hm.len,GS];exact z
     obtain⟨A8,c8,e8,p8⟩:=hm.form a1;have ac:=Ju (n:=n) (hv:=hv) (base:=8) (k:=k) (i:=j) z (by rw[HL.o];omega);have ai:=IM (hv:=hv) (base:=8) (k:=k) z;rw[a4.o]at ai;have ae:=zq (hm.step (x:=Ci n h1 8 j) (W:=wr.alloc (.cells #[.int .u8 ((Ci n h1 8 j).toNat:Int)] 5)) a1 e8 (by rw[ac];omega) ab (Ac (aC _ _) _) (Blk.new _ _ _));rw[ac]at ae;rw[ac]at p8;obtain⟨HM,r,HB,HR,HF,a7⟩:=zF hm y hb hr hf ai;clear hm y hb hr hf hy e8 ac ai;go_wp2_with (at_builtin;refine An rfl (.tmp 40) (.tmp 42) 61 rfl (.slice A8 k c8) (.slice (some (zE wr)) 1 1) rfl rfl ae.o ?_;rintro v6 w6 ⟨A9,c9,rfl,ll⟩;have q3:=ll.cell.T p8;have bo:=ll.free;have bp:=ll.lt;have LL:=zq ll;clear ll)
     go_roundw
     ·obtain⟨s1,s2⟩:=LL.o.foot _ HF.o;have ax:=LL.o.mat;rw[a7.o]at ax;exact⟨j+1,_,by omega,by go_num,ax,r.o.B LL.o.B zZ,HB.o.T (LL.o.B.M zZ),aZ ab LL.o.B.size,rSl.keep Al.L HR.o s1,s2⟩
     ·simp[intOf];omega
    ·obtain rfl:j=n:=by omega
     rw[IL aa]at hm;obtain⟨HM,r,HB⟩:=zI hm y hb;clear hm y hb hr hf;go_wp2
     go_roundw
     ·exact⟨k+1,_,by omega,by go_num,HM.o,r.o,HB.o,ab⟩
     ·simp[intOf];omega
  ·obtain rfl:k=n:=by omega
   have ah:=hm;rw[<-HL.o,Jt,HL.o]at ah;obtain⟨fr,l⟩:=ah.lists (Ez _ _ _) zZ;have au:=Ib k s c zZ hw u;have ay:=fun(W:World) (A3:Option Addr) (c3:Nat) (f3:List Addr) (hW:Below u u W) (h3:Ah W f3 (.slice A3 k c3) (Cz k c 8)) => Rb (.slice (some (zE (g+1))) k k) (.slice A3 k c3) (Ga k hv 8) (Cz k c 8) fr f3 W k (rSl.B Az.loc Az.fix l hW) h3 (Ez _ _ _) (Kc HL.o) (by rw[Bc];exact aD _) zZ
   obtain⟨a5,a8,HB⟩:=zI au ay hb;clear hm ah y hb l au ay;go_wp2_with (first
    |(go_at_call 268;refine a5.o.M ?_;rintro e w3 ⟨A3,c3,f3,rfl,r3,m3,b3⟩;rw[Bc]at r3⊢;have R3:=zq r3;have B3:=zq b3;clear r3 m3 b3)
    |(go_at_call 269;refine(a8.o _ _ _ _ B3.o R3.o).M ?_;rintro e w4 h4;obtain⟨A4,c4,f4,rfl,r4,m4,b4⟩:=Pk h4 HS.o;clear h4;have R4:=zq r4;have M4:=zq m4;have B4:=zq b4;clear r4 m4 b4))
   have an:=(B3.o.cell (p:=⟨g,0,none⟩) (by show g<u.heap.size;omega)).T c0;have bn:=(B4.o.cell (p:=⟨g,0,none⟩) (by show g<w3.heap.size;have:=B3.o.size;omega)).T an;have bu:((k:Int) - (k:Int))=0:=by omega
   have bz:=wrap0;obtain⟨A9,c9,e9,ar,-⟩:=Ah.open_ R4.o;injection e9 with bf bg bh
   subst bf bh;clear bg c0 an;rw[af.o]at ar;have ao:BO L w (.returned (.slice A4 k c4)) w4:=⟨A4,c4,f4,by rw[af.o],by rw[af.o];exact R4.o,M4.o.M (by rw[HG.o];have:=B3.o.size;omega),by rw[HG.o];exact HB.o.T ((B3.o.T (B4.o.M B3.o.size)).M zZ)⟩;have aj:=zq ao;clear ao;go_region_law (first|(refine Mq rfl (.tmp 55) (.tmp 60) 61 2 rfl _ _ zT zT (Tryz.append_zeroE _ A4 k c4 ar _ _ (by simp[wrap0])) ?_;rintro v' w' ⟨rfl,rfl⟩)|(go_simp;go_at_call 149;refine(Mm _ _ _ _).M ?_;rintro e w' ⟨rfl,rfl⟩;dsimp only))
   all_goals
    go_wp2
    go_ret
    first|exact aj.o|exact aj.o.drew_
def BI(bl:List (List UInt8))(j:Nat):List Nat:=(List.range j).filter fun i => decide (0<(bl.getD i []).length)
def AN(n:Nat)(bl:List (List UInt8))(j:Nat):List Nat:=(BI bl j).take n
def Ce(bl:List (List UInt8))(hv:List Nat):List (List UInt8):=hv.map fun i => bl.getD i []
theorem Bm(bl:List (List UInt8))(hv):(Ce bl hv).length =hv.length:=by simp[Ce]
theorem F5(bl:List (List UInt8))(j:Nat):BI bl (j+1)=BI bl j ++(if 0<(bl.getD j []).length then [j]else []):=by
 unfold BI;rw[List.range_succ,List.filter_append];congr 1
 by_cases h:0<(bl.getD j []).length
 ·rw[aM h,List.filter_cons_of_pos (by simpa using h)];rfl
 ·rw[aJ h,List.filter_cons_of_neg (by simpa using h)];rfl
theorem Ed(n)(bl:List (List UInt8)):AN n bl 0= []:=by simp[AN,BI]
theorem Gm(n)(bl:List (List UInt8))(j):(AN n bl j).length<=n:=by simp[AN];omega
theorem J1 {n}{bl:List (List UInt8)}{j}(c:0<(bl.getD j []).length)(hn:(AN n bl j).length <n):AN n bl (j+1)=AN n bl j ++ [j]:=by
 unfold AN at hn⊢;rw[F5,aM c];simp only[aX]at hn;rw[bB zV,bB zZ]
theorem FS {n}{bl:List (List UInt8)}{j}(h:¬0<(bl.getD j []).length∨(AN n bl j).length =n):AN n bl (j+1)=AN n bl j:=by
 unfold AN at h⊢;rw[F5];rcases h with h|h
 ·rw[aJ h,List.append_nil]
 ·rw[aX]at h;rw[List.take_append_of_le_length zZ]
theorem J0 {n}{bl:List (List UInt8)}{j}(h:(AN n bl j).length =n):∀d,AN n bl (j+d)=AN n bl j
 |0 => rfl
 |d+1 => by
  rw[<-Nat.add_assoc,FS (.inr (by rw[J0 h d];exact h)),J0 h d]
theorem Ra {b:Nat}:∀(l:List Nat) (a:Nat),l.Pairwise (· < ·)->(∀x,x∈l->a<=x/\x<b)->EV b a l
 | [],_,_,_ => trivial
 |x :: r,a,hp,h => by
  obtain⟨e,f⟩:=List.pairwise_cons.1 hp;exact⟨(h x zX).1,(h x zX).2,Ra r (x+1) f fun y c =>⟨e y c,(h y (by simp[c])).2⟩⟩
theorem Hm {bl:List (List UInt8)}{j k:Nat}(h:k∈BI bl j):k<j:=by
 unfold BI at h;exact List.mem_range.1 (List.mem_filter.1 h).1
theorem Tb {bl:List (List UInt8)}{j k:Nat}(h:k∈BI bl j):0<(bl.getD k []).length:=by
 unfold BI at h;simpa using(List.mem_filter.1 h).2
theorem Hn {n}{bl:List (List UInt8)}{j k:Nat}(h:k∈AN n bl j):k∈BI bl j:=List.mem_of_mem_take h
theorem LX {n}{bl:List (List UInt8)}{j b:Nat}(hb:j<=b):EV b 0 (AN n bl j):=by
 refine Ra _ 0 ?_ fun x c =>⟨Nat.zero_le _,aH (Hm (Hn c)) hb⟩
 unfold AN BI;exact(List.Pairwise.filter _ List.pairwise_lt_range).take
def Dz(bl:List (List UInt8))(m:Nat):Prop:=∀l,l∈bl->l.length=0∨l.length=m
theorem FR {n m}{bl:List (List UInt8)}{j}(h:Dz bl m):∀l,l∈Ce bl (AN n bl j)->l.length=m:=by
 intro l p;obtain⟨k,o,rfl⟩:=List.mem_map.1 p;have f:=Tb (Hn o);by_cases c:k<bl.length
 ·have e:bl.getD k [] =bl[k]:=by simp[aP,c]
  rw[e]at f⊢;rcases h _ (aT c)with i|i
  ·omega
  ·exact i
 ·rw[aP,List.getElem?_eq_none zZ]at f;simp at f
theorem TI:∀(w:World) (f:List Addr) (cs:List Value) (d:Int),Aw w f cs d->∀u,u∈cs->u.oneCell'=true:=by
 rintro w f cs d ⟨rfl,rfl,-⟩ u c;simp only[List.mem_cons,List.not_mem_nil,or_false]at c;subst c;rfl
theorem Tryz.info_i64:(prog.info? 2).map (fun i =>(i.zero,i.size,i.bytes))=some (some (int i64 0),1,8):=by kernel_rfl
structure CW (w:World) (lo:Nat) (v6 v7:Value) (hv:List Nat) (ms:List (List UInt8)) (fs:List Addr):Prop where
 nums:Ak 1 2 Aw w lo v6 (FQ hv) []
 lists:Ak 1 61 (Ai 1 Al) w lo v7 ms fs
 apart:∀b,v6.ownBlock=some b->v7.ownBlock≠some b
 far:∀a,a∈fs->a.block<lo
theorem CW.B {w w' lo e f hv}{c:List (List UInt8)}{fs}(h:CW w lo e f hv c fs)(hb:Below w w w'):CW w' lo e f hv c fs :=
 ⟨h.nums.B Aw.L Aw.X hb,h.lists.B Az.loc Az.fix hb,h.apart,h.far⟩
theorem CW.addNum {w W}{lo b j:Nat}{z v7 hv}{ms:List (List UInt8)}{fs}(h:CW w lo z v7 hv ms fs)(y:lo<=w.heap.size)(u:Below w w W)(x:Blk W b 2 #[int i64 (j:Int)])(hj:j<=1000000)(hn:hv.length+1<=1000000):
  ∃n w',(Builtin.append_ #[25,25] 25 #[z,.slice (some (zE b)) 1 1]).run prog W= .ok n w'/\∃A c,n= .slice A (hv.length+1) c/\CW w' lo n v7 (hv ++ [j]) ms fs/\Below lo w w'/\lo<=w'.heap.size:=by
 have f:=h.B u;have hs:=u.size;obtain⟨n,w',q1,hh,l,q3,p,q5⟩:=Ak.appendOne (P:=prog) 25 25 (int i64 0) 8 underlying25 Tryz.info_i64 rfl zW Aw.L Aw.X TI lo z (FQ hv) [] f.nums b [int i64 (j:Int)] [] (j:Int) rfl x ⟨rfl,rfl,by omega,by omega⟩ (fun a o => by cases o) (by rw[CF];omega) zZ zZ;have e1:=Ak.flatInts l;rw[e1]at l;have e2:FQ hv ++ [(j:Int)] =FQ (hv ++ [j]):=by simp[FQ]
 rw[e2]at l;obtain⟨A,c,e,-⟩:=l.length;refine⟨n,w',q1,A,c,by rw[e,CF];simp,⟨l,f.lists.keep Az.loc (fun q hq => p.block q (f.lists.lt q hq).2 (fun r => h.apart q r.symm hq)) (fun a o => p.cell_far a (f.lists.there Az.fix a o) (fun r => ?_)),fun q hq i => ?_,h.far⟩,Below.grown (u.M y) p zZ (fun k x =>(f.nums.lt k x).1),aZ zZ p.size⟩
 ·have:=(f.nums.lt _ r.symm).1;have:=h.far a o;omega
 ·rcases q5 with s|s
  ·rw[s]at hq;exact h.apart q hq i
  ·rw[s]at hq;injection hq with hq
   have:=(f.lists.lt q i).2;omega
theorem CW.addRef {w W lo b}{v6 v7 ve:Value}{hv}{o:List (List UInt8)}{fs f}{L:List UInt8}(h:CW w lo v6 v7 hv o fs)(y:lo<=w.heap.size)(u:Below w w W)(x:Blk W b 61 #[ve])(hr:Ah W f ve L)(hf:∀a,a∈f->a.block<lo)(hn:o.length+1<=1000000):
  ∃p w',(Builtin.append_ #[156,156] 156 #[v7,.slice (some (zE b)) 1 1]).run prog W= .ok p w'/\∃A c s,p= .slice A (o.length+1) c/\CW w' lo v6 p hv (o ++ [L]) s/\Below lo w w'/\lo<=w'.heap.size:=by
 have i:=h.B u;have hs:=u.size;obtain⟨p,w',q1,hh,q2,q3,z,q5⟩:=Ak.appendOne (P:=prog) 156 156 (.slice none 0 0) 24 underlying156 Tryz.infoBytes rfl zW Az.loc Az.fix Ai.ones lo v7 o fs i.lists b [ve] f L rfl x ⟨ve,rfl,hr⟩ (fun a n e => by
  have:=(i.lists.lt _ e).1;have:=hf a n;omega) zZ zZ zZ
 obtain⟨A,c,e,-⟩:=q2.length;refine⟨p,w',q1,A,c,_,by rw[e];simp,⟨i.nums.keep Aw.L (fun q hq => z.block q (i.nums.lt q hq).2 (fun e3 => h.apart q hq e3.symm)) (fun a n => by cases n),q2,fun q hq l => ?_,fun a n => ?_⟩,Below.grown (u.M y) z zZ (fun k x =>(i.lists.lt k x).1),aZ zZ z.size⟩
 ·rcases q5 with r|r
  ·rw[r]at l;exact h.apart q hq l
  ·rw[r]at l;injection l with l
   have:=(i.nums.lt q hq).2;omega
 ·rcases List.mem_append.1 n with n|n
  ·exact h.far a n
  ·exact hf a (q3.subset n)
theorem CW.start {w}{lo c f:Nat}(n:Blk w c 2 #[])(o:Blk w f 61 #[])(h:lo<=c)(i:lo<=f)(q:c≠f):CW w lo (.slice (some (zE c)) 0 0) (.slice (some (zE f)) 0 0) [] [] []:=by
 refine⟨Ak.start ⟨rfl,.inr ⟨c,0,#[],rfl,h,n,aD _,by unfold maxLen;omega,rfl,rfl⟩⟩,Ak.start ⟨rfl,.inr ⟨f,0,#[],rfl,i,o,aD _,by unfold maxLen;omega,rfl,rfl⟩⟩,fun b e l => ?_,fun a p => by cases p⟩;simp[Value.ownBlock]at e l;omega
theorem Tryz.appendBytes {wr W base v u}{ds L:List UInt8}{n}(o:Ak 1 5 Al wr base v ds [])(f:base<=wr.heap.size)(h:Below wr wr W)(hr:Ah W n u L)(hg:∀a,a∈n->wr.heap.size<=a.block)(hn:ds.length+L.length<=1000000000):
  ∃i w',(Builtin.append_ #[61,61] 61 #[v,u]).run prog W= .ok i w'/\∃A c,i= .slice A (ds.length+L.length) c/\Ak 1 5 Al w' base i (ds ++ L) []/\Below base wr w'/\wr.heap.size<=w'.heap.size:=by
 have p:=o.B Al.L Al.X h;obtain⟨i,w',q,hs,l,y,h4,z⟩:=Ak.appendRun (P:=prog) 61 61 (.int .u8 0) 1 underlying61 Tryz.info5 rfl zW Al.L Al.X Fa base v ds [] p u L n hr (fun a s e => by
  have:=(o.lt _ e).2;have:=hg a s;omega) hn zZ (aZ f h.size)
 have r:=Ak.flatBytes l;rw[r]at l;obtain⟨A,c,e,-⟩:=l.length;exact⟨i,w',q,A,c,by rw[e];simp,l,Below.grown (h.M f) h4 (aZ f h.size) (fun k x =>(o.lt k x).1),aZ h.size h4.size⟩
theorem Iq {A n c}{w:World}:Calls prog 149 #[.slice A n c] w fun e w' => e= .returned (int i64 (n:Int))/\w'=w:=(Mm A n c w).M fun _ _ h =>⟨h.1,h.2.symm⟩
def Iw(L?:Option (List UInt8))(w:World)(e:Ending)(w':World):Prop :=
 (∃L A c fs,L? =some L/\e= .returned (.tuple #[.slice A L.length c,.bool true])/\Ah w' fs (.slice A L.length c) L/\AL w w' fs/\Below w w w')∨(L? =none/\e= .returned (.tuple #[zQ,.bool false])/\Below w w w')
def D4(n:Nat)(bl:List (List UInt8))(hv:List Nat)(i:Nat):List UInt8:=E4 4 (Ce bl hv) ((Ge n hv i 0).getD [])
def F1(n:Nat)(bl:List (List UInt8))(hv:List Nat)(i:Nat):List UInt8:=(List.range i).flatMap (D4 n bl hv)
def DE(n:Nat)(bl:List (List UInt8)):Option (List UInt8):=if(AN n bl bl.length).length <n then none else some (F1 n bl (AN n bl bl.length) n)
theorem Jc(n)(bl:List (List UInt8))(hv)(i:Nat):F1 n bl hv (i+1)=F1 n bl hv i ++ D4 n bl hv i:=by
 unfold F1;rw[List.range_succ,List.flatMap_append];simp
theorem Fk {n:Nat}{bl:List (List UInt8)}{i:Nat}(h1:1<=n)(h:n<=3)(hb:bl.length<=n+2)(l:Dz bl 4)(hv:(AN n bl bl.length).length =n)(hi:i<n+2):∃L,Ge n (AN n bl bl.length) i 0=some L/\L.length=n/\D4 n bl (AN n bl bl.length) i=E4 4 (Ce bl (AN n bl bl.length)) L/\(D4 n bl (AN n bl bl.length) i).length =4:=by
 obtain⟨L,e,f⟩:=wts_row h1 h hv (LX hb) hi;have c:D4 n bl (AN n bl bl.length) i=E4 4 (Ce bl (AN n bl bl.length)) L:=by unfold D4;rw[e];rfl
 exact⟨L,e,f,c,by rw[c];exact FE (FR l) (by rw[Bm,hv,f];exact aD _)⟩
theorem EX {n:Nat}{bl:List (List UInt8)}(h1:1<=n)(c:n<=3)(hb:bl.length<=n+2)(e:Dz bl 4)(hv:(AN n bl bl.length).length =n):∀i,i<=n->(F1 n bl (AN n bl bl.length) i).length =i * 4
 |0,_ => by simp[F1]
 |i+1,hi => by
  obtain⟨L,-,-,-,h⟩:=Fk h1 c hb e hv (show i<n+2 by omega);rw[Jc,aU,EX h1 c hb e hv i zZ,h];omega
theorem KR(n s:Nat)(v)(bl:List (List UInt8))(f w)(h:Az w f v bl)(h1:1<=n)(h3:n<=3)(hb:bl.length<=n+2)(hO:Dz bl 4):
  Calls prog 233 #[.agg #[int i64 (n:Int),int i64 (s:Int)],v] w (Iw (DE n bl) w):=by
 have TF:=zq (rSl.there Az.fix h);obtain⟨A1,c1,rfl,bn,bp,hx⟩:=Az.open_ h;have HX:=zq hx;have HO:=zq hO;clear h hx hO;go_enter func233,ntmps233
 go_wp2_with fail
 have hP:=CW.start (lo:=w.heap.size+1) ((Blk.new1 w (.cells #[int i64 (n:Int),int i64 (s:Int)] 282) 2 #[]).alloc (.cells #[] 61)) (Blk.new2 w (.cells #[int i64 (n:Int),int i64 (s:Int)] 282) (.cells #[] 2) 61 #[]) (aD _) zZ zZ;have ay:=((Blk.new w 282 #[int i64 (n:Int),int i64 (s:Int)]).alloc (.cells #[] 2)).alloc (.cells #[] 61);have ax:=Ac (Ac (Ac (aC w w) (.cells #[int i64 (n:Int),int i64 (s:Int)] 282)) (.cells #[] 2)) (.cells #[] 61);obtain⟨HP,ap,ao⟩:=zI hP ay ax;obtain⟨g,hg⟩:∃g,w.heap.size=g:=zJ;rw[hg]at HP ap ao⊢;have HG:=zq hg;clear hP ay ax hg;go_loopw [16,6,7,8,9] (fun i v6 v7 _ _ wr =>∃(j:Nat) (A6:Option Addr) (c6:Nat) (A7:Option Addr) (c7:Nat) (fs:List Addr),j<=bl.length/\i=j/\v6= .slice A6 (AN n bl j).length c6/\v7= .slice A7 (AN n bl j).length c7/\CW wr (g+1) v6 v7 (AN n bl j) (Ce bl (AN n bl j)) fs/\Blk wr g 282 #[int i64 (n:Int),int i64 (s:Int)]/\Below g w wr/\g+1<=wr.heap.size) (fun i _ _ _ _ _ => bl.length - (intOf i).toNat)
 ·refine⟨0,_,_,_,_,[],by omega,rfl,by rw[Ed];rfl,by rw[Ed];rfl,?_,ap.o,ao.o,by have:=HG.o;simp;omega⟩;rw[Ed];exact HP.o
 ·obtain⟨j,A6,c6,A7,c7,fs,hj,rfl,rfl,rfl,hp,hx,a0,ak⟩:=hrel;have c0:wr.cell? ⟨g,0,none⟩=some (int i64 (n:Int)):=by rw[hx.cell];rfl
  have bc:wr.cell? ⟨g,1,none⟩=some (int i64 (s:Int)):=by rw[hx.cell];rfl
  have be:=Gm n bl j;obtain⟨z,ai,x⟩:=zI hp hx a0;clear hp hx a0;by_cases a1:j<bl.length
  ·obtain⟨ad,A2,c2,fk,e1,b1,p1,r1,t1,s1,-⟩:=HX.o j a1;subst e1;rw[HG.o]at b1;have bf:=(x.o.cell (p:=ad.add j) b1).T p1;have ae:bl.getD j [] =bl[j]:=by simp[aP,a1]
   have av:=zq (show∀W,Below g w W->Ah W fk (.slice A2 bl[j].length c2) bl[j]from fun W hW => rSl.keep Al.L r1 (AV.of_below (fun a ha => by have:=t1 a ha;rw[HG.o]at this;exact this) hW));have ba:=zq (show∀a,a∈fk->a.block<g+1 from fun a ha => by have:=t1 a ha;rw[HG.o]at this;omega);clear p1 r1 t1 s1;by_cases hz:0<bl[j].length
   ·have am:(0:Int)<(bl[j].length:Int):=by omega
    by_cases hn:(AN n bl j).length <n
    ·have aj:((AN n bl j).length:Int)<(n:Int):=by omega
     have q:=zq (J1 (by rw[ae];exact hz) hn);have aq:=zq ae;clear ae;obtain⟨bj,az⟩:∃bj,bl[j] =bj:=zJ;rw[az]at aq av bf am hz;clear az;go_wp2_with fail
     go_quiet ((go_at_call 149;exact Calls.quiet_of_same Iq))
     ·go_wp2_with (first
       |(at_builtin;refine An rfl (.tmp 31) (.tmp 33) 25 rfl _ _ zT zT (z.o.addNum (b:=wr.heap.size) (j:=j) ak (by repeat(with_reducible first|exact aC _ _|apply Ac|apply Am|apply AT)) (by exact Blk.new _ _ _) zZ zZ) ?_;rintro v8 w8 ⟨A8,c8,rfl,p8,b8,s8⟩;have P8:=zq p8;have B8:=zq b8;clear p8 b8)
       |(at_builtin;refine An rfl (.tmp 35) (.tmp 37) 156 rfl _ _ zT zT (P8.o.addRef (b:=w8.heap.size) (f:=fk) (L:=bj) s8 (Ac (aC _ _) _) (Blk.new _ _ _) (av.o _ ((x.o.T (B8.o.M zZ)).T (((aC _ _).alloc (aD _) _).M zZ))) ba.o (by rw[Bm];omega)) ?_;rintro v9 w9 ⟨A9,c9,f9,rfl,p9,b9,s9⟩;have P9:=zq p9;have B9:=zq b9;clear p9 b9))
      go_roundw
      ·have a2:=P9.o;have em:Ce bl (AN n bl j) ++ [bj] =Ce bl (AN n bl (j+1)):=by rw[q.o];simp[Ce,<-aq.o]
       rw[em,<-q.o]at a2;have el:(AN n bl (j+1)).length =(AN n bl j).length +1:=by rw[q.o];simp
       refine⟨j+1,A8,c8,A9,c9,f9,by omega,by go_num,by rw[el],by rw[el,Bm],?_,(ai.o.B B8.o zZ).B B9.o zZ,(x.o.T (B8.o.M zZ)).T (B9.o.M zZ),s9⟩;rw[el]at *;exact a2
      ·simp[intOf];omega
    ·have aj:¬((AN n bl j).length:Int)<(n:Int):=by omega
     have q:=zq (FS (n:=n) (bl:=bl) (j:=j) (.inr zZ));go_wp2_with fail
     go_quiet ((go_at_call 149;exact Calls.quiet_of_same Iq))
     ·go_wp2
      go_roundw
      ·exact⟨j+1,A6,c6,A7,c7,fs,by omega,by go_num,by rw[q.o],by rw[q.o],by rw[q.o];exact z.o.B (AT (aC _ _) _),ai.o.drewN _,AT x.o _,ak⟩
      ·simp[intOf];omega
   ·have am:¬(0:Int)<(bl[j].length:Int):=by omega
    have bq:decide ((0:Int)<(bl[j].length:Int))=false:=by simpa using am
    have q:=zq (FS (n:=n) (bl:=bl) (j:=j) (.inl (by rw[ae];exact hz)));go_wp2_with fail
    go_quiet (fail)
    ·go_wp2
     go_roundw
     ·exact⟨j+1,A6,c6,A7,c7,fs,by omega,by go_num,by rw[q.o],by rw[q.o],by rw[q.o];exact z.o.B (AT (aC _ _) _),ai.o.drewN _,AT x.o _,ak⟩
     ·simp[intOf];omega
  ·obtain rfl:j=bl.length:=by omega
   obtain⟨c,r⟩:∃c,AN n bl bl.length=c:=zJ;rw[r]at z be⊢;by_cases hn:c.length<n
   ·have aj:((c.length:Nat):Int)<(n:Int):=by omega
    have hd:DE n bl=none:=by unfold DE;rw[r,aM hn]
    go_wp2_with fail
    go_quiet ((go_at_call 149;exact Calls.quiet_of_same Iq))
    go_wp2
    go_ret2
    exact .inr ⟨hd,rfl,by rw[HG.o];exact AT x.o _⟩
   have al:c.length=n:=by omega
   have aj:¬((c.length:Nat):Int)<(n:Int):=by omega
   have HD:=zq (show DE n bl=some (F1 n bl c n)from by unfold DE;rw[r,aJ hn]);have ah:=zq (show∀i,i<n+2->∃L,Ge n c i 0=some L/\L.length=n/\D4 n bl c i=E4 4 (Ce bl c) L/\(D4 n bl c i).length =4 from fun i hi => by
    have:=Fk h1 h3 hb HO.o (by rw[r];exact al) hi;rwa [r]at this)
   have af:=zq (show∀i,i<=n->(F1 n bl c i).length =i * 4 from fun i hi => by
    have:=EX h1 h3 hb HO.o (by rw[r];exact al) i hi;rwa [r]at this)
   have a8:=zq (show∀l,l∈Ce bl c->l.length=4 from by rw[<-r];exact FR HO.o);have bb:=zq (show∀k,k∈c->k<=50 from fun k hk => by rw[<-r]at hk;have:=Hm (Hn hk);omega);obtain⟨g6,r6,-⟩:=z.o.nums.reads;obtain⟨g7,r7,-⟩:=z.o.lists.reads;have R6:=zq r6;have R7:=zq r7;have gz:g<wr.heap.size:=by omega
   have aw:g<=wr.heap.size:=by omega
   clear r6 r7 r;subst al;go_wp2_with fail
   go_quiet ((go_at_call 149;exact Calls.quiet_of_same Iq))
   have bk:(wr.drewN nq).cell? ⟨g,0,none⟩=some (int i64 (c.length:Int)):=c0;have bm:g<(wr.drewN nq).heap.size:=gz;have bi:((wr.drewN nq).alloc (.cells #[] 5)).cell? ⟨g,0,none⟩=some (int i64 (c.length:Int)):=((Ac (AT (aC _ _) nq) _).cell (p:=⟨g,0,none⟩) gz).T c0;go_wp2_with fail
   obtain⟨u,hu⟩:∃u,u=wr:=zJ;subst hu;go_loopw [48,10,11] (fun i o _ wr =>∃(k:Nat) (A:Option Addr) (c3:Nat),k<=c.length/\i=k/\o= .slice A (k * 4) c3/\Ak 1 5 Al wr u o (F1 c.length bl c k) []/\Below u u wr) (fun i _ _ _ => c.length - (intOf i).toNat)
   ·exact⟨0,_,0,by omega,rfl,rfl,Ak.emptyB,Ac (AT (aC _ _) _) _⟩
   ·obtain⟨k,A,c3,hk,rfl,rfl,ho,ac⟩:=hrel;have au:=zq ho;have y:=zq ac;have bh:=(ac.cell (p:=⟨g,0,none⟩) gz).T c0;have bg:=(ac.cell (p:=⟨g,1,none⟩) gz).T bc;clear ho ac;by_cases bo:k<c.length
    ·obtain⟨L,eL,lL,eM,lM⟩:=ah.o k zZ;have a6:=zq (SD c.length s k c _ g6 wr L (rSl.B Aw.L Aw.X (by simpa using R6.o) y.o) rfl zZ bb.o zZ eL lL);have ab:=zq (fun(W:World) (A4:Option Addr) (c4:Nat) (f4:List Addr) (hW:Below wr wr W) (h4:Ah W f4 (.slice A4 L.length c4) L) => MN (.slice A7 c.length c7) (.slice A4 L.length c4) (Ce bl c) L 4 (g7 ++ fs) f4 W (rSl.B Az.loc Az.fix R7.o (y.o.T (hW.M y.o.size))) h4 (by rw[Bm];omega) a8.o (by rw[Bm,lL];exact aD _) zZ);rw[<-eM]at ab;have a3:=Jc c.length bl c k;have aa:=af.o k hk;have q:=zq a3;have ar:=zq aa;obtain⟨D,hD⟩:∃D,D4 c.length bl c k=D:=zJ;rw[hD]at ab q lM;rw[lL]at ab;have ag:=zq lM;have a7:=zq lL;clear eL eM a3 aa hD lL lM;go_wp2_with (first
      |(go_at_call 266;refine a6.o.M ?_;rintro e w4 ⟨A4,c4,f4,rfl,r4,m4,b4⟩;rw[a7.o]at r4⊢;have R4:=zq r4;have B4:=zq b4;clear r4 m4 b4)
      |(go_at_call 235;refine(ab.o _ _ _ _ B4.o R4.o).M ?_;rintro e w5 ⟨A5,c5,f5,rfl,r5,m5,b5⟩;rw[ag.o]at r5⊢;have an:=zq (Tryz.appendBytes au.o y.o.size (B4.o.T (b5.M B4.o.size)) r5 (fun a ha => by have:=m5.from_ a ha;have:=B4.o.size;omega) (by rw[ar.o,ag.o];omega));rw[ar.o,ag.o,<-q.o]at an;clear r5 m5 b5)
      |(at_builtin;refine An rfl (.tmp 51) (.tmp 57) 61 rfl _ _ zT zT an.o ?_;rintro v6 w6 ⟨a4,bd,rfl,o6,B6,e6⟩;have a9:=zq o6;have a5:=zq B6;clear o6 B6))
     go_roundw
     ·exact⟨k+1,a4,bd,by omega,by go_num,by congr 1;omega,a9.o,y.o.T a5.o⟩
     ·simp[intOf];omega
    ·obtain rfl:k=c.length:=by omega
     go_wp2
     go_ret2
     obtain⟨gs,r8,m8⟩:=au.o.readsMine GH;have aa:=af.o _ hk;exact .inl ⟨_,A,c3,gs,HD.o,by rw[aa];rfl,by rw[aa];exact r8,m8.M (by rw[HG.o];exact aw),by rw[HG.o];exact x.o.T (y.o.M aw)⟩
