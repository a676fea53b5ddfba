/- Part 14 of the proof. -/
import Derived.Test.YtofeknacbdcoaaaGreatDoorK13
import Derived.Deep.DeepCutAuto
import Derived.Deep.RegionHeld3
set_option maxHeartbeats 8000000
set_option maxRecDepth 100000
set_option linter.unusedVariables false
set_option linter.unusedSimpArgs false
open Go.Proofs.Tryz
open Go.Value (int)
open Go.IntKind (i64)
namespace Go.Proofs.YtofeknacbdcoaaaGreatDoor
open Go.RowKit Go.Sort
def at0(l:List UInt8)(c:Nat):UInt8:=l.getD c 0
theorem at0_get {l:List UInt8}{c:Nat}(h:c<l.length):at0 l c=l[c]:=by simp[at0,h]
def MQ(e:List (List UInt8))(c:Nat):Nat->Nat->Option Nat
 |0,_ => none
 |k+1,r => if at0 (e.getD r []) c≠0 then some r else MQ e c k (r+1)
def piv(e:List (List UInt8))(c rank:Nat):Option Nat:=MQ e c (e.length - rank) rank
def Eg(e:List (List UInt8))(c t:Nat):List UInt8:=BH (e.getD t []) (Ll (at0 (e.getD t []) c))
def Dv(e:List (List UInt8))(rank c t:Nat):List (List UInt8):=((e.set t (e.getD rank [])).set rank (Eg e c t))
def Ew(p:List UInt8)(c:Nat)(row:List UInt8):List UInt8:=Et row p (at0 row c)
def Cq(p:List UInt8)(rank c:Nat)(e:List (List UInt8))(j:Nat):List (List UInt8):=e.mapIdx fun i row => if i<j/\i≠rank then Ew p c row else row
def Mp(e:List (List UInt8))(rank c t:Nat):List (List UInt8):=Cq (Eg e c t) rank c (Dv e rank c t) e.length
def Ca:Nat->Nat->Nat->List (List UInt8)->Nat × List (List UInt8)
 |0,_,rank,ms =>(rank,ms)
 |k+1,c,rank,ms => match piv ms c rank with
  |none => Ca k (c+1) rank ms
  |some t => Ca k (c+1) (rank+1) (Mp ms rank c t)
theorem Nx {e:List (List UInt8)}{c:Nat}:∀k r,(∀i,r<=i->i<r+k->at0 (e.getD i []) c=0)->MQ e c k r=none
 |0,_,_ => rfl
 |k+1,r,h => by
  rw[MQ,aJ (by rw[h r (aD _) zZ];simp)];exact Nx k (r+1) fun i f l => h i zZ zZ
theorem Ny {f:List (List UInt8)}{c t:Nat}:∀k r,r<=t->t<r+k->(∀i,r<=i->i<t->at0 (f.getD i []) c=0)->at0 (f.getD t []) c≠0->MQ f c k r=some t
 |0,r,h1,h2,_,_ => by omega
 |k+1,r,h1,h2,h3,h4 => by
  rw[MQ];by_cases e:r=t
  ·subst e;rw[aM h4]
  ·rw[aJ (by rw[h3 r (aD _) zZ];simp)];exact Ny k (r+1) zZ zZ (fun i g1 g2 => h3 i zZ g2) h4
theorem Lv {e:List (List UInt8)}{c rank:Nat}(h:∀i,rank<=i->i<e.length->at0 (e.getD i []) c=0):piv e c rank=none:=Nx _ _ fun i f l => h i f zZ
theorem O5 {e:List (List UInt8)}{c rank t:Nat}(h1:rank<=t)(h:t<e.length)(f:∀i,rank<=i->i<t->at0 (e.getD i []) c=0)(h4:at0 (e.getD t []) c≠0):piv e c rank=some t:=Ny _ _ h1 zZ f h4
theorem KC {f:List (List UInt8)}:∀k c e,f.length<=e->Ca k c e f=(e,f)
 |0,_,_,_ => rfl
 |k+1,c,e,h => by
  rw[Ca,Lv (fun i l n => by omega)];exact KC k (c+1) e h
def Cw(c:List (List UInt8))(m:Nat):Prop:=∀l,l∈c->l.length=m
theorem Cw.get {c:List (List UInt8)}{m i:Nat}(h:Cw c m)(hi:i<c.length):(c.getD i []).length =m:=by
 rw[aP,aO hi];exact h _ (aT hi)
theorem Cw.set_ {c:List (List UInt8)}{m i}{l:List UInt8}(h:Cw c m)(f:l.length=m):Cw (c.set i l) m:=by
 intro x n;rcases List.mem_or_eq_of_mem_set n with e|rfl
 ·exact h _ e
 ·exact f
theorem GR {e:List (List UInt8)}{m c t:Nat}(h:Cw e m)(f:t<e.length):(Eg e c t).length =m:=by
 unfold Eg;rw[CK];exact h.get f
theorem I3(e:List (List UInt8))(rank c t):(Dv e rank c t).length =e.length:=by simp[Dv]
theorem Lc {e:List (List UInt8)}{m rank c t:Nat}(h:Cw e m)(hr:rank<e.length)(f:t<e.length):Cw (Dv e rank c t) m:=(h.set_ (h.get hr)).set_ (GR h f)
theorem F2 {p:List UInt8}{rank c}{e:List (List UInt8)}{j i:Nat}(hi:i<e.length):(Cq p rank c e j).getD i [] =if i<j/\i≠rank then Ew p c (e.getD i [])else e.getD i []:=by
 simp[Cq,aP,hi]
theorem Kz(p:List UInt8)(rank c)(e:List (List UInt8)):Cq p rank c e 0=e:=by
 apply bK
 ·simp[Cq]
 ·intro i f h;simp[Cq]
theorem Gq {p row:List UInt8}{c}(h:row.length=p.length):(Ew p c row).length =row.length:=DI _ _ _ h
theorem ID {p:List UInt8}{rank c:Nat}{f:List (List UInt8)}{j:Nat}(q:j<f.length)(l:j≠rank):Cq p rank c f (j+1)=(Cq p rank c f j).set j (Ew p c (f.getD j [])):=by
 apply bK
 ·simp[Cq]
 ·intro i o n;simp only[Cq,List.length_mapIdx]at o;simp only[Cq,List.getElem_mapIdx,List.getElem_set];by_cases e:j=i
  ·subst e;rw[aM rfl,aM ⟨by omega,l⟩];simp[aP,q]
  ·rw[aJ e];by_cases h:i<j/\i≠rank
   ·rw[aM ⟨by omega,h.2⟩,aM h]
   ·rw[aJ (fun n => h ⟨by omega,n.2⟩),aJ h]
theorem IC {p:List UInt8}{rank c}{f:List (List UInt8)}:Cq p rank c f (rank+1)=Cq p rank c f rank:=by
 apply bK
 ·simp[Cq]
 ·intro i l e;simp only[Cq,List.getElem_mapIdx];by_cases h:i<rank/\i≠rank
  ·rw[aM ⟨by omega,h.2⟩,aM h]
  ·rw[aJ (fun e => h ⟨by omega,e.2⟩),aJ h]
theorem TE(x:UInt8):Fz x 0=0:=by
 unfold Fz En;rw[show(0:UInt8).toNat =0 from rfl,GG];rfl
theorem JL {a p:List UInt8}(h:a.length=p.length):Et a p 0=a:=by
 apply bK
 ·rw[DI _ _ _ h]
 ·intro i c e;simp[Et,TE]
theorem PK {p:List UInt8}{rank c:Nat}{f:List (List UInt8)}{j:Nat}(l:j<f.length)(q:at0 (f.getD j []) c=0)(o:(f.getD j []).length =p.length):Cq p rank c f (j+1)=Cq p rank c f j:=by
 by_cases e:j=rank
 ·subst e;exact IC
 ·rw[ID l e];apply bK
  ·simp
  ·intro i r n;rw[List.getElem_set];by_cases h:j=i
   ·subst h;rw[aM rfl,Ew,q,JL o];have:=F2 (p:=p) (rank:=rank) (c:=c) (j:=j) l;rw[aJ zZ]at this;rw[aP,aO n]at this;exact this.symm
   ·rw[aJ h]
theorem G2 {p:List UInt8}{rank c m}{f:List (List UInt8)}{j}(h:Cw f m)(n:p.length=m):Cw (Cq p rank c f j) m:=by
 intro x e;simp only[Cq,List.mem_mapIdx]at e;obtain⟨i,l,rfl⟩:=e;have:=h _ (aT l);split
 ·rw[Gq (by rw[this,n]),this]
 ·exact this
structure Mat (w:World) (g n:Nat) (ms:List (List UInt8)):Prop where
 len:ms.length=n
 lt:g<w.heap.size
 row:∀i,i<n->∃A c f,w.cell? ⟨g,i,none⟩=some (.slice A (ms.getD i []).length c)/\Ah w f (.slice A (ms.getD i []).length c) (ms.getD i [])/\(∀a,a∈f->a.block≠g)
 free:∀i,i<n->w.frozen? ⟨g,i,none⟩=false
theorem Mat.B {w w' g n}{l:List (List UInt8)}(h:Mat w g n l)(hb:Below w w w'):Mat w' g n l :=
 ⟨h.len,aH h.lt hb.size,fun i e => by
  obtain⟨A,c,f,o,q,r⟩:=h.row i e;exact⟨A,c,f,(hb.cell (p:=⟨g,i,none⟩) h.lt).T o,Ah.B q hb,r⟩,fun i e =>(hb.frozen (p:=⟨g,i,none⟩) h.lt).T (h.free i e)⟩
theorem Mat.set_ {w g n}{r:List (List UInt8)}(h:Mat w g n r){i:Nat}(hi:i<n){A c f}{l:List UInt8}(hr:Ah w f (.slice A l.length c) l)(hf:∀a,a∈f->a.block≠g):Mat (w.setCell (g,i) (.slice A l.length c)) g n (r.set i l):=by
 have hl:=h.len;have aa:∀(f:List Addr) v l,Ah w f v l->(∀a,a∈f->a.block≠g)->Ah (w.setCell (g,i) (.slice A l.length c)) f v l:=fun f v l p q => rSl.keep Al.L p fun a x => World.cell?_setCell_other _ _ _ _ (fun e => q a x (by rw[<-e]))
 have o:∀u (f:List Addr) v l,Ah w f v l->(∀a,a∈f->a.block≠g)->Ah (w.setCell (g,i) u) f v l:=fun u f v l p q => rSl.keep Al.L p fun a x => World.cell?_setCell_other _ _ _ _ (fun e => q a x (by rw[<-e]))
 refine⟨by simp[hl],by simpa [World.setCell]using h.lt,fun k y => ?_,fun k y => by rw[World.frozen?_setCell];exact h.free k y⟩;obtain⟨A2,c2,f2,p,q,z⟩:=h.row k y;by_cases e:i=k
 ·subst e;have s:(r.set i l).getD i [] =l:=by simp[aP,hl,hi]
  rw[s];exact⟨A,c,f,World.cell?_setCell_same _ _ _ p,o _ _ _ _ hr hf,hf⟩
 ·have s:(r.set i l).getD k [] =r.getD k []:=by simp[aP,List.getElem?_set_ne e]
  rw[s];exact⟨A2,c2,f2,(World.cell?_setCell_other _ _ _ _ (fun e3 => e (by injection e3))).T p,o _ _ _ _ q z,z⟩
theorem Mat.drewN {w g n}{c:List (List UInt8)}(h:Mat w g n c)(k):Mat (w.drewN k) g n c:=⟨h.len,h.lt,h.row,h.free⟩
theorem Mat.drew_ {w g n}{c:List (List UInt8)}(h:Mat w g n c):Mat w.drew g n c:=⟨h.len,h.lt,h.row,h.free⟩
theorem Mat.at_ {w g n m}{p:List (List UInt8)}(h:Mat w g n p)(hA:Cw p m){i c:Nat}(hi:i<n)(x:c<m):∃l o f,w.cell? ⟨g,i,none⟩=some (.slice (some l) m o)/\w.cell? (l.add c)=some (.int .u8 ((at0 (p.getD i []) c).toNat:Int))/\Ah w f (.slice (some l) m o) (p.getD i [])/\(∀a,a∈f->a.block≠g)/\(l.add c).block <w.heap.size/\(l.add c).block≠g:=by
 obtain⟨A,o,f,s,q,u⟩:=h.row i hi;have r:=hA.get (i:=i) (by rw[h.len];exact hi);rw[r]at s q;obtain⟨A2,c2,e,_,_,hx⟩:=Ah.open_ q;obtain⟨l,y,m1,m2,m3⟩:=hx c (by rw[r];exact x);injection e with z e4 e5
 subst z e5;subst y;refine⟨l,o,f,s,?_,q,u,m2,u _ m1⟩;rw[m3,at0_get (by rw[r];exact x)]
theorem Mat.put {w}{g n m:Nat}{e:List (List UInt8)}(h:Mat w g n e){i:Nat}(hi:i<n){A c f}{l:List UInt8}(p:l.length=m)(hr:Ah w f (.slice A m c) l)(o:∀a,a∈f->a.block≠g):Mat (w.setCell (g,i) (.slice A m c)) g n (e.set i l):=by
 subst p;exact h.set_ hi hr o
theorem Ah.farG {w}{g i:Nat}{f}{v u:Value}{l:List UInt8}(hr:Ah w f v l)(h:∀a,a∈f->a.block≠g):Ah (w.setCell (g,i) u) f v l:=rSl.keep Al.L hr fun a c => World.cell?_setCell_other _ _ _ _ (fun e => h a c (by rw[<-e]))
theorem swap_eq {f:List (List UInt8)}{rank t}{x y p:List UInt8}:((f.set rank x).set t y).set rank p=(f.set t y).set rank p:=by
 apply bK
 ·simp
 ·intro i h l;simp only[List.getElem_set];by_cases e:rank=i
  ·rw[aM e,aM e]
  ·rw[aJ e,aJ e];by_cases c:t=i
   ·rw[aM c];simp[e]
   ·rw[aJ c];simp[e]
theorem J4 {g n i:Nat}(h:i<n):((g,i):Addr)∈Bf (zE g) n:=Bt.2 ⟨i,h,(CO g i).symm⟩
theorem u8nz {x:UInt8}(h:x≠0):0<x.toNat:=by
 have:x.toNat≠0:=fun e => h (UInt8.toNat_inj.1 (by simpa using e))
 omega
theorem yP{p:Prop}(h:p:=by repeat(with_reducible first|exact aC _ _|apply Am)):p:=h
theorem reduce_c(g n cap m q:Nat)(ms:List (List UInt8))(w)(hM:Mat w g n ms)(hA:Cw ms m)(hc:q<=m)(hn:n<=1000)(hm:m<=1000)(b0:n<=cap)(bt:cap<=9223372036854775807):
  Calls prog 286 #[.slice (some (zE g)) n cap,int i64 (q:Int)] w fun e w' => e= .returned (int i64 (((Ca q 0 0 ms).1:Nat):Int))/\Mat w' g n (Ca q 0 0 ms).2/\Cw (Ca q 0 0 ms).2 m/\Bn (Bf (zE g) n) w w':=by
 obtain⟨R,hR⟩:∃R,Ca q 0 0 ms=R:=zJ;rw[hR];have HR:=zq hR;clear hR;have HM:=zq hM;have HA:=zq hA;clear hM hA;go_enter func286,ntmps286
 go_wp2
 go_loopw [5,6,7,8,9] (fun rk cc _ _ _ wr =>∃(c f:Nat) (l:List (List UInt8)),c<=q/\f<=n/\f<=c/\rk=f/\cc=c/\Ca (q - c) c f l=R/\Mat wr g n l/\Cw l m/\Bn (Bf (zE g) n) w wr) (fun _ cc _ _ _ _ => q - (intOf cc).toNat)
 ·exact⟨0,0,ms,by omega,by omega,by omega,rfl,rfl,HR.o,HM.o,HA.o,Bn.refl _ _⟩
 ·obtain⟨c,f,l,b5,bi,b8,rfl,rfl,hg,ar,aq,bk⟩:=hrel;obtain⟨u,hu⟩:∃u,u=wr:=zJ;subst hu;obtain⟨HG,s,z,HW⟩:=zH hg ar aq bk;clear hg ar aq bk;by_cases b7:c<q
  case neg =>
   obtain rfl:c=q:=by omega
   have h:=HG.o;rw[Nat.sub_self,Ca]at h;subst h;go_wp2
   go_ret
   exact⟨rfl,s.o,z.o,HW.o⟩
  go_wp2
  go_loop [8,7] (fun r a =>∃k:Nat,f<=k/\k<=n/\r=k/\a= int i64 (-1)/\∀i,f<=i->i<k->at0 (l.getD i []) c=0) (fun r _ => n - (intOf r).toNat)
  ·exact⟨f,aD _,bi,rfl,rfl,fun i h1 h2 => by omega⟩
  ·obtain⟨k,bv,b6,rfl,rfl,hz⟩:=hrel;have HZ:=zq hz;clear hz;by_cases af:k<n
   case neg =>
    obtain rfl:k=n:=by omega
    have hp:piv l c f=none:=Lv fun i h1 h2 => HZ.o i h1 (by rw[s.o.len]at h2;exact h2)
    have h:=HG.o;rw[show q - c=(q - (c+1))+1 from by omega,Ca,hp]at h;have au:=zq h;clear h hp;go_wp2
    go_roundw
    ·exact⟨c+1,f,l,by omega,bi,by omega,rfl,by go_num,au.o,s.o,z.o,HW.o⟩
    ·simp[intOf];omega
   obtain⟨ad,ca,fa,p1,p2,r1,n1,b1,d1⟩:=s.o.at_ z.o af (show c<m by omega);have al:c<m:=by omega
   by_cases h0:at0 (l.getD k []) c=0
   ·rw[h0]at p2;clear r1 n1 d1;go_wp2
    go_round
    ·exact⟨k+1,by omega,by omega,by go_num,rfl,fun i h1 h2 => by
     by_cases e:i=k
     ·subst e;exact h0
     ·exact HZ.o i h1 zZ⟩
    ·simp[intOf];omega
   have hp:piv l c f=some k:=O5 bv (by rw[s.o.len];exact af) HZ.o h0;have h:=HG.o;rw[show q - c=(q - (c+1))+1 from by omega,Ca,hp]at h;have au:=zq h;clear h hp;have ap:=u8nz h0;obtain⟨bb,a0⟩:∃bb:Nat,(at0 (l.getD k []) c).toNat =bb:=zJ;rw[a0]at ap p2;have bl:¬(bb:Int)=0:=by omega
   have bm:((bb:Int) != 0)=true:=by simp;omega
   have a4:=zq a0;clear a0;have x:f<n:=by omega
   obtain⟨ax,ay,bc,q1,q2,r2,n2,b2,d2⟩:=s.o.at_ z.o x al;have fk:=s.o.free k af;have fr:=s.o.free f x;have gz:=s.o.lt;have lk:=z.o.get (i:=k) (by rw[s.o.len];exact af);have lr:=z.o.get (i:=f) (by rw[s.o.len];exact x);have M1:=s.o.put x lk r1 n1;have M2:=M1.put af lr (r2.farG n2) n2;have A2:=(z.o.set_ (i:=f) lk).set_ (i:=k) lr;have W2:=(HW.o.setCell (J4 x) (.slice (some ad) m ca)).setCell (J4 af) (.slice (some ax) m ay);have ek:((l.set f (l.getD k [])).set k (l.getD f [])).getD f [] =l.getD k []:=by
    have b4:=s.o.len;rw[aP,List.getElem?_set];by_cases e:k=f
    ·subst e;rw[aM rfl,aM zV];rfl
    ·rw[aJ e,List.getElem?_set_self zZ];rfl
   obtain⟨aa,bn,ac,EK⟩:=zH M2 A2 W2 ek;clear M1 M2 A2 W2 ek r1 r2 n1 n2 q2 b2 d2 lk lr;go_wp2_with fail
   clear p2 b1 d1 ap bl bm;go_cut [] (fun wx => Mat wx g n ((l.set f (l.getD k [])).set k (l.getD f []))/\Bn (Bf (zE g) n) w wx)
   ·by_cases e:f=k
    ·subst e;have he:=p1.symm.T q1;injection he with he
     injection he with a1 _ bu
     injection a1 with a1
     subst a1 bu;clear q1;go_region
     all_goals
      go_wp2
      go_meet
      exact⟨by first|exact aa.o|exact aa.o.drew_,by first|exact ac.o|exact ac.o.drewN 1⟩
    ·have e':¬k=f:=fun h => e h.symm
     go_region
     all_goals
      go_wp2
      go_meet
      exact⟨by first|exact aa.o|exact aa.o.drew_,by first|exact ac.o|exact ac.o.drewN 1⟩
   ·obtain⟨az,be⟩:=hcut;clear aa ac p1 q1 fk fr gz;have aa:=zq az;have ac:=zq be;obtain⟨ad,ca,fa,p1,p2,r1,n1,b1,d1⟩:=az.at_ bn.o x al;rw[EK.o]at p2 r1;rw[a4.o]at p2;clear az be;have fr:=aa.o.free f x;have gz:=aa.o.lt;have an:k<l.length:=by rw[s.o.len];exact af
    have a3:f<l.length:=by rw[s.o.len];exact x
    have bh:=GR (c:=c) z.o an;obtain⟨X,hX⟩:∃X,Ll (at0 (l.getD k []) c)=X:=zJ;have HD:=zq (show∀W,Calls prog 292 #[.int .u8 1,.int .u8 (bb:Int)] W fun e w' => e= .returned (.int .u8 (X.toNat:Int))/\W=w' from fun W => by
     have:=div1_u (at0 (l.getD k []) c) W;rw[hX,a4.o]at this;exact this)
    have a8:=zq (show∀W,Below wc wc W->Calls prog 282 #[.slice (some ad) m ca,.int .u8 (X.toNat:Int)] W (BO (Eg l c k) W)from fun W hW => by
     unfold Eg;rw[hX];exact Pe _ (l.getD k []) X fa W (Ah.B r1 hW) (by rw[z.o.get an];omega))
    have ab:=zq bh;clear hX bh r1 n1;go_wp2_with fail
    go_cut [] (fun wx => Mat wx g n (Dv l f c k)/\Bn (Bf (zE g) n) w wx)
    ·go_region_law (first
      |(go_simp;go_at_call 292;refine(HD.o _).M ?_;rintro e w' ⟨rfl,rfl⟩;dsimp only)
      |(go_simp;go_at_call 282;refine(a8.o _ yP).M ?_;rintro e w3 ⟨A3,c3,f3,rfl,r3,m3,b3⟩;rw[ab.o]at r3⊢;dsimp only;have B3:=zq (show Below wc wc w3 from by first|exact b3|exact Ft b3);have q3:w3.cell? ⟨g,f,none⟩=some (.slice (some ad) m ca):=(B3.o.cell (p:=⟨g,f,none⟩) gz).T p1;have br:w3.frozen? ⟨g,f,none⟩=false:=(B3.o.frozen (p:=⟨g,f,none⟩) gz).T fr;have bs:g<w3.heap.size:=aH gz B3.o.size;have R3:=zq r3;have M3:=zq m3;clear r3 m3 b3))
     all_goals
      go_wp2
      go_meet
      have h1:=(aa.o.B B3.o).put x ab.o R3.o (fun a ha e => by have:=M3.o.from_ a ha;rw[e]at this;exact absurd gz (Nat.not_lt.2 this));rw[swap_eq]at h1;exact⟨h1,(ac.o.T (Bn.of_below B3.o)).setCell (J4 x) _⟩
    ·obtain⟨bd,bf⟩:=hcut;obtain⟨u3,bx⟩:∃u3,u3=wc:=zJ;subst bx;clear aa ac HD a8 p1 p2 fr gz b1 d1;obtain⟨a6,bq,ak,aw,av⟩:=zG bd bf (Lc (c:=c) z.o a3 an) (I3 l f c k) (show Mp l f c k=Cq (Eg l c k) f c (Dv l f c k) n from by unfold Mp;rw[s.o.len]);have a9:=zq (show(Dv l f c k).getD f [] =Eg l c k from by
      unfold Dv;rw[aP,List.getElem?_set_self (by simpa using a3)];rfl)
     have a7:=zq s.o.len;clear bd bf s HW a3 an;obtain⟨P,hP⟩:∃P,Eg l c k=P:=zJ;obtain⟨S,hS⟩:∃S,Dv l f c k=S:=zJ;rw[hP,hS]at av;rw[hP]at ab;rw[hS]at a6 ak aw;rw[hS,hP]at a9;clear hP hS;go_wp2
     go_loopw [65,9] (fun i _ wr =>∃j:Nat,j<=n/\i=j/\Mat wr g n (Cq P f c S j)/\Bn (Bf (zE g) n) w wr) (fun i _ _ => n - (intOf i).toNat)
     ·exact⟨0,by omega,rfl,by rw[Kz];exact a6.o,bq.o⟩
     ·obtain⟨j,hj,rfl,ae,ao⟩:=hrel;by_cases ai:j<n
      case neg =>
       obtain rfl:j=n:=by omega
       have ag:=zq ae;have ah:=zq ao;clear ae ao;go_wp2
       go_roundw
       ·exact⟨c+1,f+1,_,by omega,by omega,by omega,by go_num,by go_num,au.o,by rw[av.o];exact ag.o,by rw[av.o];exact G2 ak.o ab.o,ah.o⟩
       ·simp[intOf];omega
      have am:j<S.length:=by rw[aw.o,a7.o];exact ai
      have bw:f<S.length:=by rw[aw.o,a7.o];exact x
      have e1:=F2 (p:=P) (rank:=f) (c:=c) (j:=j) am;rw[aJ zZ]at e1;have e2:=F2 (p:=P) (rank:=f) (c:=c) (j:=j) bw;rw[aJ (fun h => h.2 rfl),a9.o]at e2;have a2:=G2 (rank:=f) (c:=c) (j:=j) ak.o ab.o;obtain⟨ad,ca,fa,p1,p2,r1,n1,b1,d1⟩:=ae.at_ a2 ai al;obtain⟨ax,ay,bc,q1,q2,r2,n2,b2,d2⟩:=ae.at_ a2 x al;rw[e1]at p2 r1;rw[e2]at r2;have aj:=ak.o.get am;have fr:=ae.free j ai;have gz:=ae.lt;have ag:=zq ae;have ah:=zq ao;clear e1 e2 a2 ae ao q2 b2 d2;by_cases ba:j=f
      ·subst ba;clear r1 r2 n1 n2;go_wp2
       go_roundw
       ·exact⟨j+1,by omega,by go_num,by rw[IC];exact ag.o,ah.o⟩
       ·simp[intOf];omega
      have bz:¬(j:Int)=(f:Int):=by omega
      by_cases hz:at0 (S.getD j []) c=0
      ·rw[hz]at p2;clear r1 r2 n1 n2;go_wp2
       go_roundw
       ·exact⟨j+1,by omega,by go_num,by rw[PK am hz (by rw[aj,ab.o])];exact ag.o,ah.o⟩
       ·simp[intOf];omega
      have bj:=ID (p:=P) (rank:=f) (c:=c) am ba;have ap:=u8nz hz;obtain⟨y,hy⟩:∃y,at0 (S.getD j []) c=y:=zJ;rw[hy]at ap p2;have bl:¬(y.toNat:Int)=0:=by omega
      have bm:((y.toNat:Int) != 0)=true:=by simp;omega
      have bg:(Ew P c (S.getD j [])).length =m:=by rw[Gq (by rw[aj,ab.o]),aj]
      have bo:=zq (show∀W,Below wr wr W->Calls prog 264 #[.slice (some ad) m ca,.slice (some ax) m ay,.int .u8 (y.toNat:Int)] W (BO (Ew P c (S.getD j [])) W)from fun W hW => by
       unfold Ew;rw[hy];exact sum_c _ _ (S.getD j []) P y fa bc W (Ah.B r1 hW) (Ah.B r2 hW) (by rw[aj,ab.o]) (by rw[ab.o];omega))
      have a5:=zq bg;have bp:=zq bj;clear hy bg bj r1 r2 n1 n2 hz aj;go_wp2_with fail
      go_region_law (go_simp;go_at_call 264;refine(bo.o _ yP).M ?_;rintro e w3 ⟨A3,c3,f3,rfl,r3,m3,b3⟩;rw[a5.o]at r3⊢;dsimp only;have B3:=zq (show Below wr wr w3 from by first|exact b3|exact Ft b3);have q3:w3.cell? ⟨g,j,none⟩=some (.slice (some ad) m ca):=(B3.o.cell (p:=⟨g,j,none⟩) gz).T p1;have br:w3.frozen? ⟨g,j,none⟩=false:=(B3.o.frozen (p:=⟨g,j,none⟩) gz).T fr;have bs:g<w3.heap.size:=aH gz B3.o.size;have R3:=zq r3;have M3:=zq m3;clear r3 m3 b3)
      all_goals
       go_wp2
       go_roundw
       ·have h1:=(ag.o.B B3.o).put ai a5.o R3.o (fun a ha e => by have:=M3.o.from_ a ha;rw[e]at this;exact absurd gz (Nat.not_lt.2 this));rw[<-bp.o]at h1;exact⟨j+1,by omega,by go_num,h1,(ah.o.T (Bn.of_below B3.o)).setCell (J4 ai) _⟩
       ·simp[intOf];omega
theorem SY {α:Type}(f:α->Value)(l:List α):(l.map fun x => [f x]).flatten =l.map f:=by
 induction l with
 |nil => rfl
 |cons a r ih => simp[ih]
theorem Ak.ofBytes {w:World}{base}{v:Value}{xs:List UInt8}(h:w.ownsRow base 5 1 v xs.length (xs.map Bo)):Ak 1 5 Al w base v xs []:=by
 refine⟨xs.map fun x => [Bo x],xs.map fun _ => [],by simp,by simp,?_,by rw[SY];exact h,fun i c =>⟨by simpa using c,by simpa using c,by simp,?_⟩,fun a e => by cases e⟩
 ·have:(xs.map fun _ =>([]:List Addr)).flatten = []:=by simp[List.flatten_eq_nil_iff]
  rw[this]
 ·simp only[bI];exact⟨rfl,rfl⟩
theorem Rj(v)(xs:List UInt8)(fs w)(h1:Ah w fs v xs)(ac:xs.length<=1048576):
  Calls prog 110 #[v] w fun e w' =>∃A c,e= .returned (.slice A xs.length c)/\Ak 1 5 Al w' w (.slice A xs.length c) xs []/\Below w w w':=by
 obtain⟨i0,hi,s,y,z⟩:=info_parts Tryz.info5;have ae:∀(w:World) (a:Option Addr) (n c n' l:Nat),(binOp .eql 61 (.slice a n c) (.slice none n' l)).run prog w= .ok (.bool a.isNone) w:=fun w a n c n' l => Lib.run_eql_slice_nil w _ _ a n c n' l underlying61
 have H1:=zq h1;obtain⟨A1,c1,rfl,aa,ab,q⟩:=h1.form;clear h1;cases A1 with
 |none =>
  have r:xs= []:=by
   rcases q with⟨rfl,_⟩|⟨ad,e,_⟩
   ·rfl
   ·cases e
  subst r;clear q;go_enter func110,ntmps110
  go_wp2
  go_ret
  exact⟨_,_,rfl,Ak.start ⟨rfl,.inl ⟨rfl,rfl⟩⟩,aC _ _⟩
 |some ad =>
  clear q;have p:=zq (Ah.cells (H1.o.B ((aC w w).alloc (aD _) (.cells #[] 5))));go_enter func110,ntmps110
  go_wp2_with (at_builtin;refine wpList_append_own _ rfl _ _ 61 rfl w 5 i0 (.int .u8 0) 1 1 underlying61 hi s y z rfl zW _ _ _ rfl (World.ownsRow_lit w #[] 0 (aD _) (Nat.zero_le _) rfl) ad xs.length c1 (xs.map Bo) rfl ?qc1 p.o ?qc3 ?qc4 ?qc5 ?qc6 ?_)
  case qc1 => simp
  case qc3 => intro u hu;obtain⟨x,_,rfl⟩:=List.mem_map.1 hu;rfl
  case qc4 => unfold maxLen;omega
  case qc5 => omega
  case qc6 => simp
  intro v' w1 h f i;have HB:=zq (((aC w w).alloc (aD _) (.cells #[] 5)).grown f zX (by intro k hk;simp[Value.ownBlock]at hk;omega));have HO:=zq h;clear h f i;go_wp2
  go_ret
  have ho:=Ak.ofBytes HO.o;obtain⟨A,c,rfl,-⟩:=ho.length;exact⟨A,c,rfl,ho,HB.o⟩
def DM(rows:List (List UInt8))(right:List UInt8):List (List UInt8):=List.zipWith (fun r b => r ++ [b]) rows right
def EM(rows:List (List UInt8))(right:List UInt8):Option (List UInt8) :=
 if(Ca rows.length 0 0 (DM rows right)).1<rows.length then none else some ((Ca rows.length 0 0 (DM rows right)).2.map fun r => at0 r rows.length)
theorem Kw {rows:List (List UInt8)}{right:List UInt8}(h:rows.length<=right.length):(DM rows right).length =rows.length:=by simp[DM];omega
theorem Oe {rows:List (List UInt8)}{right:List UInt8}{n}(h:Cw rows n):Cw (DM rows right) (n+1):=by
 intro l e;obtain⟨i,c,rfl⟩:=aY e;simp only[DM,List.length_zipWith]at c;simp only[DM,List.getElem_zipWith,aU,List.length_cons,List.length_nil];rw[h _ (aT _)]
theorem augM_get {rows:List (List UInt8)}{right:List UInt8}{i:Nat}(h:i<rows.length)(c:i<right.length):(DM rows right).getD i [] =rows[i] ++ [right[i]]:=by
 rw[aP,aO (by simp[DM];omega)];simp[DM]
def DV(c:List (List UInt8))(n j:Nat):List (List UInt8):=c.take j ++ List.replicate (n - j) []
theorem OR {c:List (List UInt8)}{n j i:Nat}(e:c.length=n)(h:j<=i)(hi:i<n):(DV c n j).getD i [] = []:=by
 rw[aP,DV,List.getElem?_append_right zV,List.getElem?_replicate];split <;> rfl
theorem RN {c:List (List UInt8)}{n j:Nat}(p:c.length=n)(h:j<n):(DV c n j).set j (c.getD j [])=DV c n (j+1):=by
 apply bK
 ·simp[DV];omega
 ·intro i f l;simp only[List.getElem_set,DV,List.getElem_append,aX,List.getElem_take,List.getElem_replicate];by_cases e:j=i
  ·subst e;rw[aM rfl,dif_pos zZ,aP,aO zZ];rfl
  ·rw[aJ e];by_cases o:i<j
   ·rw[dif_pos zZ,dif_pos zZ]
   ·rw[dif_neg zZ,dif_neg zZ]
theorem Tz {c:List (List UInt8)}{n:Nat}(e:c.length=n):DV c n n=c:=by simp[DV,<-e]
theorem Mat.nil {w}{g n:Nat}{t}(h:Blk w g t (madeCells #[zQ] n)):Mat w g n (DV [] n 0):=by
 refine⟨by simp[DV],h.lt,fun i e =>⟨none,0,[],?_,?_,fun a c => by cases c⟩,fun i _ => h.frozen i⟩
 ·rw[h.cell];have:(DV [] n 0).getD i [] = []:=by simp[DV,aP,List.getElem?_replicate];split <;> rfl
  rw[this];simp only[madeCells,Array.getElem?_map,Array.getElem?_range];rw[aM e];simp[Nat.mod_one]
 ·have:(DV [] n 0).getD i [] = []:=by simp[DV,aP,List.getElem?_replicate];split <;> rfl
  rw[this];exact Ah.empty zZ
theorem RO(c:List (List UInt8))(n):DV c n 0=DV [] n 0:=by simp[DV]
theorem Tryz.infoBytes:(prog.info? 61).map (fun i =>(i.zero,i.size,i.bytes))=some (some (.slice none 0 0),1,24):=by kernel_rfl
theorem Tryz.makeLists(n:Nat)(hn:n<=1000000)(c:World):(Instr.makeSlice 156 (int i64 (n:Int)) (int i64 (n:Int))).run prog c= .ok (.slice (some (zE c)) n n) (c.alloc (.cells (madeCells #[zQ] n) 61)):=by
 have h:=Cf prog 156 61 (.slice none 0 0) 1 24 underlying156 Tryz.infoBytes n zZ zZ c;rw[Nat.mul_one]at h;exact h
theorem yN{p:Prop}(h:p:=by repeat(with_reducible first|exact aC _ _|apply Ac|apply Am)):p:=h
theorem Rb(v1 v2)(rows:List (List UInt8))(right:List UInt8)(f1 f2 w)(n:Nat)(h1:Az w f1 v1 rows)(h2:Ah w f2 v2 right)(hl:rows.length=n)(hA:Cw rows n)(hr:n<=right.length)(hn:n<=100):
  Calls prog 269 #[v1,v2] w fun e w' =>(∃A c fs L,EM rows right=some L/\L.length=n/\e= .returned (.tuple #[.slice A n c,.bool true])/\Ah w' fs (.slice A n c) L/\AL w w' fs/\Below w w w')∨(EM rows right=none/\e= .returned (.tuple #[zQ,.bool false])/\Below w w w'):=by
 have H1:=zq h1;have H2:=zq h2;obtain⟨A1,c1,rfl,bd,bj,hx⟩:=Az.open_ h1;obtain⟨A2,c2,rfl,bi,am,hy⟩:=Ah.open_ h2;obtain⟨HX,HY,HA,HL⟩:=zH hx hy hA hl;clear h1 h2 hx hy hA;rw[hl]at bd⊢;have ak:=Kw (rows:=rows) (right:=right) zZ;rw[hl]at ak;have ah:=zq ak;clear ak hl;have be:=Tryz.makeLists n zZ;go_enter func269,ntmps269
 go_wp2_with fail
 obtain⟨g,hg⟩:∃g,w.heap.size=g:=zJ;have HZ:=zq (Mat.nil (Blk.new w 61 (madeCells #[zQ] n)));have B0:=zq (Ac (aC w w) (.cells (madeCells #[zQ] n) 61));rw[hg]at HZ B0⊢;have HG:=zq hg;clear hg;go_loopw [17,7,8] (fun i _ _ wr =>∃j:Nat,j<=n/\i=j/\Mat wr g n (DV (DM rows right) n j)/\Below g w wr) (fun i _ _ _ => n - (intOf i).toNat)
 ·exact⟨0,by omega,rfl,by rw[RO];exact HZ.o,B0.o⟩
 ·obtain⟨j,hj,rfl,hm,hb⟩:=hrel;clear be;by_cases y:j<n
  ·have al:j<rows.length:=by rw[HL.o];exact y
   have af:j<right.length:=by omega
   obtain⟨ad,A3,c3,fk,e1,b1,p1,r1,t1,-,-⟩:=HX.o j al;subst e1;obtain⟨a2,e2,m2,b2,g2⟩:=HY.o j af;subst e2;have q:=HA.o _ (aT al);rw[q]at p1 r1;rw[HG.o]at b1 b2;have bf:=(hb.cell (p:=_) b1).T p1;have p2:=(hb.cell (p:=a2.add j) b2).T g2;have fr:=hm.free j y;have gz:=hm.lt;have ae:g<=wr.heap.size:=Nat.le_of_lt gz;have ar:(a2.add j).block <wr.heap.size:=aH b2 ae;have ay:=OR (j:=j) (i:=j) ah.o (aD _) y;obtain⟨Ao,co,fo,po,-,-⟩:=hm.row j y;rw[ay]at po;have aw:=augM_get (rows:=rows) (right:=right) al af;have z:=RN (j:=j) ah.o y;rw[aw]at z;have au:∀(W:World),Below wr wr W->Ah W fk (.slice A3 n c3) rows[j]:=fun W hW => Ah.B (rSl.keep Al.L r1 (AV.of_below (fun a u => by have:=t1 a u;rw[HG.o]at this;exact this) hb)) hW
   have a8:=zq (show∀W,Below wr wr W->Calls prog 110 #[.slice A3 n c3] W fun e w' =>∃A c,e= .returned (.slice A n c)/\Ak 1 5 Al w' wr (.slice A n c) rows[j] []/\Below wr wr w'/\∀b t cs,Blk W b t cs->Blk w' b t cs from fun W hW => by
    have:=Rj (.slice A3 n c3) rows[j] fk W (au W hW) (by rw[q];omega);rw[q]at this;refine this.M ?_;rintro e w' ⟨A,c,rfl,ho,ax⟩;exact⟨A,c,rfl,ho.M hW.size,hW.T (ax.M hW.size),fun b t cs hk => hk.B ax hk.lt⟩)
   have ab:=zq (show∀(s W:World) (A4:Option Addr) (c4 b:Nat) (base:Nat),base<=s.heap.size->Ak 1 5 Al s base (.slice A4 n c4) rows[j] []->Below s s W->Blk W b 5 #[.int .u8 (right[j].toNat:Int)]->∃v' w',(Builtin.append_ #[61,61] 61 #[.slice A4 n c4,.slice (some (zE b)) 1 1]).run prog W= .ok v' w'/\∃A c,v'= .slice A (n+1) c/\Ak 1 5 Al w' base v' (rows[j] ++ [right[j]]) []/\Below base s w'/\s.heap.size<=w'.heap.size from fun s W A4 c4 b base bc ho hB hk => by
    have:=F0 (x:=right[j]) ho bc (by rw[q];omega) hB hk;rw[q]at this;exact this)
   obtain⟨ac,HB,a9,bb⟩:=zH hm hb q z;clear au hm hb p1 g2 r1 t1 q ay aw z;go_wp2_with fail
   go_region_law (first
    |(refine AZ rfl (.tmp 25) (.tmp 30) 61 rfl _ _ zT zT (ab.o s _ A4 c4 _ _ B3.o.size O3.o yN (by first|(with_reducible exact Blk.new _ _ _)|(refine K3.o _ _ _ ?_;repeat(with_reducible first|exact Blk.new _ _ _|apply Blk.drew_|apply Blk.alloc)))) ?_;rintro v6 w6 ⟨A6,c6,rfl,o6,B6,e6⟩;have O6:=zq o6;have B7:=zq (B3.o.T (B6.M (by exact aD _)));have q3:w6.cell? ⟨g,j,none⟩=some (.slice Ao 0 co):=(B7.o.cell (p:=⟨g,j,none⟩) gz).T po;have bg:w6.frozen? ⟨g,j,none⟩=false:=(B7.o.frozen (p:=⟨g,j,none⟩) gz).T fr;have bh:g<w6.heap.size:=aH gz B7.o.size;clear o6 B6)
    |(go_simp;go_at_call 110;refine(a8.o _ (by repeat(with_reducible first|exact aC _ _|apply Am|apply Ac))).M ?_;rintro e s ⟨A4,c4,rfl,o3,b3,k3⟩;dsimp only;have B3:=zq b3;have O3:=zq o3;have K3:=zq k3;clear k3;have p3:s.cell? (a2.add j)=some (.int .u8 (right[j].toNat:Int)):=(B3.o.cell (p:=a2.add j) ar).T p2;have z3:(a2.add j).block <s.heap.size:=aH ar B3.o.size;clear o3 b3))
   all_goals
    go_wp2
    go_roundw
    ·obtain⟨gs,r6,m6⟩:=O6.o.readsMine ⟨List.nodup_nil,(fun a u => by cases u),(fun a u => by cases u)⟩;have h1:=(ac.o.B B7.o).put y (m:=n+1) (by rw[aU,a9.o];rfl) r6 (fun a u e => by have:=m6.from_ a u;rw[e]at this;omega);rw[bb.o]at h1;exact⟨j+1,by omega,by go_num,by first|exact h1|exact h1.drew_,by first|exact(HB.o.T (B7.o.M ae)).setCell (aD _) _⟩
    ·simp[intOf];omega
  obtain rfl:j=n:=by omega
  rw[Tz ah.o]at hm;have ac:=zq hm;have HB:=zq hb;clear hm hb;obtain⟨rk,ao⟩:∃rk,(Ca j 0 0 (DM rows right)).1=rk:=zJ;obtain⟨f,an⟩:∃f,(Ca j 0 0 (DM rows right)).2=f:=zJ;have a3:EM rows right=if rk<j then none else some (f.map fun r => at0 r j):=by
   unfold EM;rw[HL.o,ao,an]
  have aq:=zq a3;have aj:=zq (reduce_c g j j (j+1) j (DM rows right) wr ac.o (Oe HA.o) zZ zZ zZ (aD _) zZ);rw[ao,an]at aj;clear ao an a3;have ae:g<=wr.heap.size:=Nat.le_of_lt ac.o.lt;go_wp2_with fail
  refine aj.o.M ?_;rintro e w2 ⟨rfl,am,av,a5⟩;obtain⟨aa,a6,ap⟩:=zI am av (HB.o.T (a5.B ae (fun a u => by rw[Ek u];exact aD _)));clear am av a5 aj;by_cases a1:rk<j
  ·have h:=aq.o;rw[aM a1]at h;have HS:=zq h;clear h;go_wp2
   go_ret2
   exact .inr ⟨HS.o,rfl,by rw[HG.o];exact ap.o⟩
  have h:=aq.o;rw[aJ a1]at h;have HS:=zq h;clear h;go_wp2
  go_loopw [44,9,11] (fun i o _ s =>∃(k:Nat) (A:Option Addr) (c3:Nat),k<=j/\i=k/\o= .slice A k c3/\Ak 1 5 Al s w2 o ((f.map fun r => at0 r j).take k) []/\Below w2 w2 s) (fun i _ _ _ => j - (intOf i).toNat)
  ·exact⟨0,_,0,by omega,rfl,rfl,Ak.emptyB,Ac (aC _ _) _⟩
  ·obtain⟨k,A,c3,hk,rfl,rfl,ho,l⟩:=hrel;have a0:(f.map fun r => at0 r j).length =j:=by rw[bH,aa.o.len]
   by_cases az:k<j
   ·obtain⟨ad,ca,fa,p1,p2,r1,n1,b1,d1⟩:=aa.o.at_ a6.o az (show j<j+1 by omega);have bf:=(l.cell (p:=⟨g,k,none⟩) aa.o.lt).T p1;have bk:=(l.cell (p:=ad.add j) b1).T p2;have ag:((f.map fun r => at0 r j).take k).length =k:=by rw[aX,a0];omega
    have z:(f.map fun r => at0 r j).take k ++ [at0 (f.getD k []) j] =(f.map fun r => at0 r j).take (k+1):=by
     rw[aK zZ];simp[aP,aa.o.len,az]
    have ab:=zq (F0 (W:=wr.alloc (.cells #[.int .u8 ((at0 (f.getD k []) j).toNat:Int)] 5)) (b:=wr.heap.size) (x:=at0 (f.getD k []) j) ho l.size zZ (Ac (aC _ _) _) (Blk.new _ _ _));rw[ag,z]at ab;have ai:=zq l;clear ho l p1 p2 r1 n1 ag z;go_wp2_with (at_builtin;refine An rfl (.tmp 48) (.tmp 54) 61 rfl (.slice A k c3) (.slice (some (zE wr)) 1 1) rfl rfl ab.o ?_;rintro v6 w6 ⟨A6,c6,rfl,o6,B6,e6⟩;have ba:=zq o6;have a7:=zq B6;clear o6 B6)
    go_roundw
    ·exact⟨k+1,A6,c6,by omega,by go_num,rfl,ba.o,ai.o.T a7.o⟩
    ·simp[intOf];omega
   ·obtain rfl:k=j:=by omega
    rw[bB zZ]at ho;have HO:=zq ho;have ai:=zq l;clear ho l;go_wp2
    go_ret2
    obtain⟨gs,r6,m6⟩:=HO.o.readsMine ⟨List.nodup_nil,(fun a u => by cases u),(fun a u => by cases u)⟩;have a4:g<=w2.heap.size:=Nat.le_of_lt aa.o.lt;exact .inl ⟨A,c3,gs,_,HS.o,a0,rfl,r6,m6.M (by rw[HG.o];exact a4),by rw[HG.o];exact ap.o.T (ai.o.M a4)⟩
theorem l1Step_c(g n cap m s:Nat)(ms:List (List UInt8))(w)(hM:Mat w g n ms)(hA:Cw ms m)(hc:s<=m)(hn:n<=1000)(hm:m<=1000)(bx:n<=cap)(bs:cap<=9223372036854775807):
  Calls prog 272 #[.slice (some (zE g)) n cap,int i64 (s:Int)] w fun e w' => e= .returned (int i64 (((Ca s 0 0 ms).1:Nat):Int))/\Mat w' g n (Ca s 0 0 ms).2/\Cw (Ca s 0 0 ms).2 m/\Bn (Bf (zE g) n) w w':=by
 obtain⟨R,hR⟩:∃R,Ca s 0 0 ms=R:=zJ;rw[hR];have HR:=zq hR;clear hR;have HM:=zq hM;have HA:=zq hA;clear hM hA;go_enter func272,ntmps272
 go_wp2
 go_loopw [5,6,7,8,9] (fun rk cc _ _ _ wr =>∃(c l:Nat) (q:List (List UInt8)),c<=s/\l<=n/\l<=c/\rk=l/\cc=c/\Ca (s - c) c l q=R/\Mat wr g n q/\Cw q m/\Bn (Bf (zE g) n) w wr) (fun _ cc _ _ _ _ => s - (intOf cc).toNat)
 ·exact⟨0,0,ms,by omega,by omega,by omega,rfl,rfl,HR.o,HM.o,HA.o,Bn.refl _ _⟩
 ·obtain⟨c,l,q,b0,bi,b7,rfl,rfl,hg,av,au,bk⟩:=hrel;obtain⟨u,hu⟩:∃u,u=wr:=zJ;subst hu;obtain⟨HG,x,aa,HW⟩:=zH hg av au bk;clear hg av au bk;by_cases b6:c<s
  case neg =>
   obtain rfl:c=s:=by omega
   have h:=HG.o;rw[Nat.sub_self,Ca]at h;subst h;go_wp2
   go_ret
   exact⟨rfl,x.o,aa.o,HW.o⟩
  by_cases z:l<n
  case neg =>
   obtain rfl:l=n:=by omega
   have h:=HG.o;rw[KC _ _ _ (by rw[x.o.len];exact aD _)]at h;subst h;go_wp2
   go_ret
   exact⟨rfl,x.o,aa.o,HW.o⟩
  go_wp2
  go_loop [7] (fun r =>∃k:Nat,l<=k/\k<=n/\r=k/\∀i,l<=i->i<k->at0 (q.getD i []) c=0) (fun r => n - (intOf r).toNat)
  ·exact⟨l,aD _,bi,rfl,fun i h1 h2 => by omega⟩
  ·obtain⟨k,bt,b4,rfl,hz⟩:=hrel;have HZ:=zq hz;clear hz;by_cases ah:k<n
   case neg =>
    obtain rfl:k=n:=by omega
    have hp:piv q c l=none:=Lv fun i h1 h2 => HZ.o i h1 (by rw[x.o.len]at h2;exact h2)
    have h:=HG.o;rw[show s - c=(s - (c+1))+1 from by omega,Ca,hp]at h;have aw:=zq h;clear h hp;go_wp2
    go_roundw
    ·exact⟨c+1,l,q,by omega,bi,by omega,rfl,by go_num,aw.o,x.o,aa.o,HW.o⟩
    ·simp[intOf];omega
   obtain⟨ad,ca,fa,p1,p2,r1,n1,b1,d1⟩:=x.o.at_ aa.o ah (show c<m by omega);have a0:c<m:=by omega
   by_cases h0:at0 (q.getD k []) c=0
   ·rw[h0]at p2;clear r1 n1 d1;go_wp2
    go_round
    ·exact⟨k+1,by omega,by omega,by go_num,fun i h1 h2 => by
     by_cases e:i=k
     ·subst e;exact h0
     ·exact HZ.o i h1 zZ⟩
    ·simp[intOf];omega
   have hp:piv q c l=some k:=O5 bt (by rw[x.o.len];exact ah) HZ.o h0;have h:=HG.o;rw[show s - c=(s - (c+1))+1 from by omega,Ca,hp]at h;have aw:=zq h;clear h hp;have bv:=u8nz h0;obtain⟨bb,az⟩:∃bb:Nat,(at0 (q.getD k []) c).toNat =bb:=zJ;rw[az]at bv p2;have b8:¬(bb:Int)=0:=by omega
   have bl:=zq az;clear az;obtain⟨ae,af,bd,q1,q2,r2,n2,b2,d2⟩:=x.o.at_ aa.o z a0;have fk:=x.o.free k ah;have fr:=x.o.free l z;have gz:=x.o.lt;have lr:=aa.o.get (i:=l) (by rw[x.o.len];exact z);have ai:=zq (x.o.put ah lr r2 n2);have ba:=zq (HW.o.setCell (J4 ah) (.slice (some ae) m af));have ap:k<q.length:=by rw[x.o.len];exact ah
   have a3:l<q.length:=by rw[x.o.len];exact z
   have bh:=GR (c:=c) aa.o ap;obtain⟨X,hX⟩:∃X,Ll (at0 (q.getD k []) c)=X:=zJ;have HD:=zq (show∀W,Calls prog 242 #[.int .u8 (bb:Int)] W fun e w' => e= .returned (.int .u8 (X.toNat:Int))/\W=w' from fun W => by
    have:=inv_u (at0 (q.getD k []) c) W;rw[hX,bl.o]at this;exact this)
   have a7:=zq (show Calls prog 187 #[.slice (some ad) m ca,.int .u8 (X.toNat:Int)] (u.setCell (g,k) (.slice (some ae) m af)) (BO (Eg q c k) (u.setCell (g,k) (.slice (some ae) m af)))from by
    unfold Eg;rw[hX];exact Im _ (q.getD k []) X fa _ (r1.farG n1) (by rw[aa.o.get ap];omega))
   have b9:(u.setCell (g,k) (.slice (some ae) m af)).cell? (ad.add c)=some (.int .u8 (bb:Int)):=(World.cell?_setCell_other _ _ _ _ (fun e => d1 (by rw[<-e]))).T p2;have ab:=zq bh;clear hX bh r1 n1 r2 n2 q2 b2 d2 lr;go_wp2_with (first
    |(go_at_call 242;refine(HD.o _).M ?_;rintro e w' ⟨rfl,rfl⟩)
    |(go_at_call 187;refine a7.o.M ?_;rintro e w3 ⟨A3,c3,f3,rfl,r3,m3,b3⟩;rw[ab.o]at r3⊢;have B3:=zq b3;have ao:g<(u.setCell (g,k) (.slice (some ae) m af)).heap.size:=ai.o.lt;have bq:w3.frozen? ⟨g,l,none⟩=false:=(B3.o.frozen (p:=⟨g,l,none⟩) ao).T (ai.o.free l z);have br:g<w3.heap.size:=aH ao B3.o.size;have q3:∃v,w3.cell? ⟨g,l,none⟩=some v:=(by obtain⟨A,cc,f,hh,-⟩:=ai.o.row l z;exact⟨_,(B3.o.cell (p:=⟨g,l,none⟩) ao).T hh⟩);obtain⟨v3,q3⟩:=q3;have R3:=zq r3;have M3:=zq m3;clear r3 m3 b3))
   have be:=(ai.o.B B3.o).put z ab.o R3.o (fun a ha e => by have:=M3.o.from_ a ha;rw[e]at this;exact absurd ao (Nat.not_lt.2 this));have bf:=(ba.o.T (Bn.of_below B3.o)).setCell (J4 z) (.slice A3 m c3);have a5:=zq (show Mat _ g n (Dv q l c k)from be);have bp:=zq bf;clear ai ba HD a7 p1 p2 fr gz b1 d1 be bf;obtain⟨al,ay,ax⟩:=zI (Lc (c:=c) aa.o a3 ap) (I3 q l c k) (show Mp q l c k=Cq (Eg q c k) l c (Dv q l c k) n from by unfold Mp;rw[x.o.len]);have a9:=zq (show(Dv q l c k).getD l [] =Eg q c k from by
    unfold Dv;rw[aP,List.getElem?_set_self (by simpa using a3)];rfl)
   have a6:=zq x.o.len;clear x HW a3 ap;obtain⟨P,hP⟩:∃P,Eg q c k=P:=zJ;obtain⟨S,hS⟩:∃S,Dv q l c k=S:=zJ;rw[hP,hS]at ax;rw[hP]at ab;rw[hS]at a5 al ay;rw[hS,hP]at a9;clear hP hS;go_wp2
   go_loopw [9] (fun i wr =>∃j:Nat,j<=n/\i=j/\Mat wr g n (Cq P l c S j)/\Bn (Bf (zE g) n) w wr) (fun i _ => n - (intOf i).toNat)
   ·exact⟨0,by omega,rfl,by rw[Kz];exact a5.o,bp.o⟩
   ·obtain⟨j,hj,rfl,ac,ar⟩:=hrel;by_cases aj:j<n
    case neg =>
     obtain rfl:j=n:=by omega
     have am:=zq ac;have an:=zq ar;clear ac ar;go_wp2
     go_roundw
     ·exact⟨c+1,l+1,_,by omega,by omega,by omega,by go_num,by go_num,aw.o,by rw[ax.o];exact am.o,by rw[ax.o];exact G2 al.o ab.o,an.o⟩
     ·simp[intOf];omega
    have a2:j<S.length:=by rw[ay.o,a6.o];exact aj
    have bu:l<S.length:=by rw[ay.o,a6.o];exact z
    have e1:=F2 (p:=P) (rank:=l) (c:=c) (j:=j) a2;rw[aJ zZ]at e1;have e2:=F2 (p:=P) (rank:=l) (c:=c) (j:=j) bu;rw[aJ (fun h => h.2 rfl),a9.o]at e2;have a1:=G2 (rank:=l) (c:=c) (j:=j) al.o ab.o;obtain⟨ad,ca,fa,p1,p2,r1,n1,b1,d1⟩:=ac.at_ a1 aj a0;obtain⟨ae,af,bd,q1,q2,r2,n2,b2,d2⟩:=ac.at_ a1 z a0;rw[e1]at p2 r1;rw[e2]at r2;have aq:=al.o.get a2;have fr:=ac.free j aj;have gz:=ac.lt;have am:=zq ac;have an:=zq ar;clear e1 e2 a1 ac ar q2 b2 d2;by_cases bc:j=l
    ·subst bc;clear r1 r2 n1 n2;go_wp2
     go_roundw
     ·exact⟨j+1,by omega,by go_num,by rw[IC];exact am.o,an.o⟩
     ·simp[intOf];omega
    have bw:¬(j:Int)=(l:Int):=by omega
    have bj:=ID (p:=P) (rank:=l) (c:=c) a2 bc;obtain⟨y,hy⟩:∃y,at0 (S.getD j []) c=y:=zJ;rw[hy]at p2;have bg:(Ew P c (S.getD j [])).length =m:=by rw[Gq (by rw[aq,ab.o]),aq]
    have ak:=CK P y;rw[ab.o]at ak;have a8:=zq ak;have bm:=zq (show∀W,Below wr wr W->Calls prog 187 #[.slice (some ae) m af,.int .u8 (y.toNat:Int)] W (BO (BH P y) W)from fun W hW => Im _ P y bd W (Ah.B r2 hW) (by rw[ab.o];omega));have bn:=zq (show∀W A5 c5 f5,Below wr wr W->Ah W f5 (.slice A5 m c5) (BH P y)->Calls prog 189 #[.slice (some ad) m ca,.slice A5 m c5] W (BO (Ew P c (S.getD j [])) W)from fun W A5 c5 f5 hW h5 => by
     unfold Ew;rw[hy,Mx];exact MJ _ _ (S.getD j []) (BH P y) fa f5 W (Ah.B r1 hW) h5 (by rw[aq,ak]) (by rw[ak];omega))
    have a4:=zq bg;have bo:=zq bj;clear hy bg bj r1 r2 n1 n2 aq ak;go_wp2_with fail
    go_region_law (first
     |(go_simp;go_at_call 187;refine(bm.o _ yP).M ?_;rintro e w5 ⟨A5,c5,f5,rfl,h5,m5,b5⟩;rw[a8.o]at h5⊢;dsimp only;have ag:=zq (show Below wr wr w5 from by first|exact b5|exact Ft b5);have H5:=zq h5;have q5:w5.cell? ⟨g,j,none⟩=some (.slice (some ad) m ca):=(ag.o.cell (p:=⟨g,j,none⟩) gz).T p1;have bz:g<w5.heap.size:=aH gz ag.o.size;clear h5 b5 m5)
     |(go_simp;go_at_call 189;refine(bn.o _ A5 c5 f5 (by repeat(with_reducible first|exact ag.o|exact aC _ _|apply Am)) H5.o).M ?_;rintro e w3 ⟨A3,c3,f3,rfl,r3,m3,b3⟩;rw[a4.o]at r3⊢;dsimp only;have B3:=zq (show Below wr wr w3 from ag.o.T (b3.M ag.o.size));have q3:w3.cell? ⟨g,j,none⟩=some (.slice (some ad) m ca):=(B3.o.cell (p:=⟨g,j,none⟩) gz).T p1;have bq:w3.frozen? ⟨g,j,none⟩=false:=(B3.o.frozen (p:=⟨g,j,none⟩) gz).T fr;have br:g<w3.heap.size:=aH gz B3.o.size;have R3:=zq r3;have M3:=zq m3;clear r3 m3 b3))
    all_goals
     go_wp2
     go_roundw
     ·have h1:=(am.o.B B3.o).put aj a4.o R3.o (fun a ha e => by have:=M3.o.from_ a ha;have:=ag.o.size;omega);rw[<-bo.o]at h1;exact⟨j+1,by omega,by go_num,h1,(an.o.T (Bn.of_below B3.o)).setCell (J4 aj) _⟩
     ·simp[intOf];omega
theorem Tryz.freshRow {wr W}{base h:Nat}{v}{L:List UInt8}{f}(hr:Ah wr f v L)(s:Below wr wr W)(p:Blk W h 5 #[])(hg:base<=h)(y:wr.heap.size<=h)(hn:L.length<=1000000000):
  ∃n w',(Builtin.append_ #[61,61] 61 #[.slice (some (zE h)) 0 0,v]).run prog W= .ok n w'/\∃A c,n= .slice A L.length c/\Ak 1 5 Al w' base n L []/\W.grownBy w' (some h):=by
 have o:=rSl.there Al.X hr;have l:Ak 1 5 Al W base (.slice (some (zE h)) 0 0) [] []:=Ak.start ⟨rfl,.inr ⟨h,0,#[],rfl,hg,p,aD _,by unfold maxLen;omega,rfl,rfl⟩⟩;have x:=p.lt;obtain⟨n,w',q,hs,i,z,h4,h5⟩:=Ak.appendRun (P:=prog) 61 61 (.int .u8 0) 1 underlying61 Tryz.info5 rfl zW Al.L Al.X Fa base _ [] [] l v L f (Ah.B hr s) (fun a u e => by
  simp[Value.ownBlock]at e;have:=o a u;omega) (by simpa using hn) zZ zZ
 have r:=Ak.flatBytes i;rw[r]at i;rw[List.nil_append]at i;obtain⟨A,c,e,-⟩:=i.length;exact⟨n,w',q,A,c,e,i,by simpa [Value.ownBlock]using h4⟩
theorem GH {lo w}:AL lo w []:=⟨List.nodup_nil,(fun a c => by cases c),(fun a c => by cases c)⟩
theorem Tryz.addByte {W base b v}{ds:List UInt8}{x:UInt8}(r:Ak 1 5 Al W base v ds [])(hn:ds.length+1<=1000000000)(f:base<=W.heap.size)(i:Blk W b 5 #[.int .u8 (x.toNat:Int)]):
  ∃l w',(Builtin.append_ #[61,61] 61 #[v,.slice (some (zE b)) 1 1]).run prog W= .ok l w'/\∃A c,l= .slice A (ds.length+1) c/\Ak 1 5 Al w' base l (ds ++ [x]) []/\W.grownBy w' v.ownBlock:=by
 obtain⟨l,w',o,h,n,s,h4,u⟩:=Ak.appendOne (P:=prog) 61 61 (.int .u8 0) 1 underlying61 Tryz.info5 rfl zW Al.L Al.X Fa base v ds [] r b [.int .u8 (x.toNat:Int)] [] x rfl i ⟨rfl,rfl⟩ (fun a q => by cases q) hn zZ f;have p:=Ak.flatBytes n;rw[p]at n;obtain⟨A,c,e,-⟩:=n.length;exact⟨l,w',o,A,c,by rw[e];simp,n,h4⟩
theorem Tryz.addList {wr W:World}{base b}{v ve:Value}{ds:List (List UInt8)}{L:List UInt8}{fs}(x:Ak 1 61 (Ai 1 Al) wr base v ds fs)(hm:AL base wr fs)(e:base<=wr.heap.size)(hn:ds.length+1<=1000000000){l}(o:Below wr wr l)(u:Ak 1 5 Al l wr ve L [])(p:Below l l W)(i:Blk W b 61 #[ve]):
  ∃n w',(Builtin.append_ #[156,156] 156 #[v,.slice (some (zE b)) 1 1]).run prog W= .ok n w'/\∃A c h,n= .slice A (ds.length+1) c/\Ak 1 61 (Ai 1 Al) w' base n (ds ++ [L]) (fs ++ h)/\AL base w' (fs ++ h)/\Below base wr w'/\wr.heap.size<=w'.heap.size:=by
 obtain⟨q,r,s⟩:=u.readsMine GH;exact I9 (P:=prog) 156 156 (.slice none 0 0) 24 underlying156 Tryz.infoBytes rfl zW Az.loc Az.fix Ai.ones zZ x hm e hn (us:=[ve]) (f:=q) (d:=L) o ⟨ve,rfl,r⟩ s rfl p i
theorem Ak.emptyL {w:World}:Ak 1 61 (Ai 1 Al) (w.alloc (.cells #[] 61)) w (.slice (some (zE w)) 0 0) [] [] :=
 Ak.start ⟨rfl,.inr ⟨w.heap.size,0,#[],rfl,aD _,Blk.new _ _ _,aD _,by unfold maxLen;omega,rfl,rfl⟩⟩
theorem Ak.mat {w:World}{base v}{L:List (List UInt8)}{fs}(h:Ak 1 61 (Ai 1 Al) w base v L fs)(hL:0<L.length):∃g c,v= .slice (some (zE g)) L.length c/\L.length<=c/\c<=9223372036854775807/\Mat w g L.length L/\base<=g:=by
 obtain⟨n,p,h1,h2,rfl,⟨hl,h4⟩,u,h6⟩:=h;have hw:∀c,c∈n->c.length=1:=by
  intro c hc;obtain⟨i,o,rfl⟩:=aY hc;obtain⟨_,_,x,_⟩:=u i zZ;exact x
 rcases h4 with⟨rfl,h0⟩|⟨g,cap,f,rfl,hb,hg,r,q,aa,l⟩
 ·omega
 ·simp only[maxLen]at q;refine⟨g,cap,rfl,r,by omega,⟨rfl,(show Blk w g 61 f from hg).lt,fun i o => ?_,fun i o => frozen_of_row w g i f 61 hg⟩,hb⟩;obtain⟨p1,p2,x,v0,y,hr⟩:=u i o;obtain⟨A,c,rfl,-⟩:=rSl.head hr;have e:L.getD i [] =L[i]:=by simp[aP,o]
  rw[e];refine⟨A,c,p[i],?_,hr,fun a ha z => ?_⟩
  ·rw[cell_of_row w g _ f 61 (0,0) hg];have s:(f.toList.take (L.length * 1))[i]? =some (.slice A L[i].length c):=by
    have h4:=El n hw i 0 p1 zZ;rw[Nat.mul_one,bC]at h4;rw[l,h4];simp[y]
   rw[List.getElem?_take,aM zZ]at s;simpa using s
  ·exact h6 a (List.mem_flatten.2 ⟨_,aT p2,ha⟩) (by rw[z];rfl)
theorem yO{p:Prop}(h:p:=by repeat(with_reducible first|assumption|exact aC _ _|apply Ac|apply Am)):p:=h
theorem yM{p:Prop}(h:p:=by repeat(with_reducible first|exact Blk.new _ _ _|exact Blk.new1 _ _ _ _|apply Blk.drew_|apply Blk.alloc)):p:=h
theorem Tr(v1 v2)(rows:List (List UInt8))(right:List UInt8)(f1 f2 w)(n:Nat)(h1:Az w f1 v1 rows)(h2:Ah w f2 v2 right)(hl:rows.length=n)(hA:Cw rows n)(hr:n<=right.length)(hn:n<=100)(a3:0<n):
  Calls prog 245 #[v1,v2] w fun e w' =>(∃A c fs L,EM rows right=some L/\L.length=n/\e= .returned (.tuple #[.slice A n c,.bool true])/\Ah w' fs (.slice A n c) L/\AL w w' fs/\Below w w w')∨(EM rows right=none/\e= .returned (.tuple #[zQ,.bool false])/\Below w w w'):=by
 have H1:=zq h1;have H2:=zq h2;obtain⟨A1,c1,rfl,bj,bo,hx⟩:=Az.open_ h1;obtain⟨A2,c2,rfl,bn,al,hy⟩:=Ah.open_ h2;obtain⟨HX,HY,HA,HL⟩:=zH hx hy hA hl;clear h1 h2 hx hy hA;rw[hl]at bj⊢;have ak:=Kw (rows:=rows) (right:=right) zZ;rw[hl]at ak;have z:=zq ak;clear ak hl;go_enter func245,ntmps245
 go_wp2_with fail
 obtain⟨g,hg⟩:∃g,w.heap.size=g:=zJ;have HZ:=zq (Ak.emptyL (w:=w));have B0:=zq (Ac (aC w w) (.cells #[] 61));rw[hg]at HZ B0⊢;have HG:=zq hg;clear hg;go_loopw [6,7] (fun o i wr =>∃(j:Nat) (A:Option Addr) (c:Nat) (fs:List Addr),j<=n/\i=j/\o= .slice A j c/\Ak 1 61 (Ai 1 Al) wr g o ((DM rows right).take j) fs/\AL g wr fs/\Below g w wr) (fun _ i _ => n - (intOf i).toNat)
 ·exact⟨0,_,_,_,by omega,rfl,rfl,HZ.o,GH,B0.o⟩
 ·obtain⟨j,A0,c0,fs,hj,rfl,rfl,hm,am,hb⟩:=hrel;have aa:g<=wr.heap.size:=by rw[<-HG.o];exact hb.size
  by_cases a0:j<n
  ·have ax:j<rows.length:=by rw[HL.o];exact a0
   have ay:j<right.length:=by omega
   obtain⟨ad,A3,c3,fk,e1,b1,p1,r1,t1,-,-⟩:=HX.o j ax;subst e1;obtain⟨a2,e2,m2,b2,g2⟩:=HY.o j ay;subst e2;have s:=HA.o _ (aT ax);rw[s]at p1 r1;rw[HG.o]at b1 b2;have a8:=(hb.cell (p:=_) b1).T p1;have a9:=(hb.cell (p:=a2.add j) b2).T g2;have bl:(ad.add j).block <wr.heap.size:=aH b1 aa;have bm:(a2.add j).block <wr.heap.size:=aH b2 aa;have aq:=zq (show∀W,Below g wr W->W.cell? (ad.add j)=some (.slice A3 n c3)/\W.cell? (a2.add j)=some (.int .u8 (right[j].toNat:Int))from fun W hW =>⟨(hW.cell b1).T a8,(hW.cell b2).T a9⟩);have l:((DM rows right).take j).length =j:=by rw[aX,z.o];omega
   have ab:(DM rows right).take j ++ [rows[j] ++ [right[j]]] =(DM rows right).take (j+1):=by
    rw[aK (by rw[z.o];exact a0)];simp[DM]
   have a4:Ah wr fk (.slice A3 n c3) rows[j]:=rSl.keep Al.L r1 (AV.of_below (fun a ha => by have:=t1 a ha;rw[HG.o]at this;exact this) hb);have ba:=zq (show∀W g0,Below wr wr W->Blk W g0 5 #[]->wr.heap.size<=g0->∃u w',(Builtin.append_ #[61,61] 61 #[.slice (some (zE g0)) 0 0,.slice A3 n c3]).run prog W= .ok u w'/\∃A c,u= .slice A n c/\Ak 1 5 Al w' wr u rows[j] []/\W.grownBy w' (some g0)from fun W g0 hW y aw => by
    have:=Tryz.freshRow (base:=wr.heap.size) a4 hW y aw aw (by rw[s];omega);rw[s]at this;exact this)
   have af:=zq (show∀W (A:Option Addr) c b,Below wr wr W->Ak 1 5 Al W wr (.slice A n c) rows[j] []->Blk W b 5 #[.int .u8 (right[j].toNat:Int)]->∃u w',(Builtin.append_ #[61,61] 61 #[.slice A n c,.slice (some (zE b)) 1 1]).run prog W= .ok u w'/\∃A' c',u= .slice A' (n+1) c'/\Ak 1 5 Al w' wr u (rows[j] ++ [right[j]]) []/\W.grownBy w' (Value.slice A n c).ownBlock from fun W A c b hW ho y => by
    have:=Tryz.addByte (x:=right[j]) ho (by rw[s];omega) hW.size y;rw[s]at this;exact this)
   have bb:=zq (show∀w2 W ve b,Below wr wr w2->Ak 1 5 Al w2 wr ve (rows[j] ++ [right[j]]) []->Below w2 w2 W->Blk W b 61 #[ve]->∃u w',(Builtin.append_ #[156,156] 156 #[.slice A0 j c0,.slice (some (zE b)) 1 1]).run prog W= .ok u w'/\∃A c h,u= .slice A (j+1) c/\Ak 1 61 (Ai 1 Al) w' g u ((DM rows right).take (j+1)) (fs ++ h)/\AL g w' (fs ++ h)/\Below g wr w' from fun w2 W ve b B2 he B5 y => by
    obtain⟨u,w',q1,A,c,h,q2,q3,q4,q5,-⟩:=Tryz.addList hm am aa (by rw[l];omega) B2 he B5 y;rw[l]at q2;rw[ab]at q3;exact⟨u,w',q1,A,c,h,q2,q3,q4,q5⟩)
   have HB:=zq hb;clear hm am hb p1 g2 r1 t1 s l ab a4 b1 b2;go_wp2_with fail
   go_region_held3 (fun W => W.cell? (ad.add j)=some (.slice A3 n c3)/\W.cell? (a2.add j)=some (.int .u8 (right[j].toNat:Int))) (first|exact aq.o _ b3|exact aq.o _ (Below.M yO aa))
   (first
    |(refine AZ rfl (.tmp 19) (.tmp 23) 61 rfl _ _ zT zT (ba.o _ _ yO yM zX) ?_;rintro v7 w7 ⟨A7,c7,rfl,o1,r1⟩;have B7:=Below.grown (show Below wr wr _ by repeat(with_reducible first|assumption|exact aC _ _|apply Ac|apply Am)) r1 (by simp <;> omega) (fun k y => by injection y with y;subst y;simp))
    |(refine AZ rfl (.tmp 24) (.tmp 29) 61 rfl _ _ zT zT (af.o _ A7 c7 _ yO (by repeat(with_reducible first|exact o1|apply Ak.alloc_ Al.L Al.X|apply Ak.drew_ Al.L)) (by first|(with_reducible exact Blk.new _ _ _)|(refine Blk.grown ?_ r1 zX;repeat(with_reducible first|exact Blk.new _ _ _|exact Blk.new1 _ _ _ _|apply Blk.drew_|apply Blk.alloc)))) ?_;rintro v8 w8 ⟨A8,c8,rfl,o2,r2⟩;have B8:=Below.grown (show Below wr wr _ by repeat(with_reducible first|assumption|exact aC _ _|apply Ac|apply Am)) r2 (by first|exact B7.size|(simp;have:=B7.size;omega)) (fun k y =>(o1.lt k y).1))
    |(refine AZ rfl (.tmp 18) (.tmp 31) 156 rfl _ _ zT zT (bb.o w8 _ _ _ B8 o2 yN yM) ?_;rintro v9 w9 ⟨A9,c9,h9,rfl,o3,m3,b3⟩))
   all_goals
    go_wp2
    go_roundw
    ·exact⟨j+1,A9,c9,_,by omega,by go_num,rfl,o3,m3,HB.o.T b3⟩
    ·simp[intOf];omega
  obtain rfl:j=n:=by omega
  rw[bB (by rw[z.o];exact aD _)]at hm;obtain⟨g4,c4,e4,av,bk,aj,bi⟩:=hm.mat (by rw[z.o];exact a3);rw[z.o]at e4 av aj;injection e4 with bf bg bh
  subst bf bh;have bd:=zq aj;have HB:=zq hb;clear hm hb aj bg am;obtain⟨rk,ao⟩:∃rk,(Ca j 0 0 (DM rows right)).1=rk:=zJ;obtain⟨f,an⟩:∃f,(Ca j 0 0 (DM rows right)).2=f:=zJ;have a6:EM rows right=if rk<j then none else some (f.map fun r => at0 r j):=by
   unfold EM;rw[HL.o,ao,an]
  have ar:=zq a6;have ai:=zq (l1Step_c g4 j c0 (j+1) j (DM rows right) wr bd.o (Oe HA.o) zZ zZ zZ av bk);rw[ao,an]at ai;clear ao an a6;go_wp2_with fail
  refine ai.o.M ?_;rintro e w2 ⟨rfl,al,au,a7⟩;obtain⟨ac,af,ag⟩:=zI al au (HB.o.T (a7.B aa (fun a ha => by rw[Ek ha];exact bi)));clear al au a7 ai;by_cases a5:rk<j
  ·have h:=ar.o;rw[aM a5]at h;have HS:=zq h;clear h;go_wp2
   go_ret2
   exact .inr ⟨HS.o,rfl,by rw[HG.o];exact ag.o⟩
  have h:=ar.o;rw[aJ a5]at h;have HS:=zq h;clear h;have ae:g<=w2.heap.size:=by have:=ag.o.size;rw[HG.o]at this;exact this
  go_wp2
  go_loopw [9,10] (fun o i w3 =>∃(k:Nat) (A:Option Addr) (c3:Nat),k<=j/\i=k/\o= .slice A k c3/\Ak 1 5 Al w3 w2 o ((f.map fun r => at0 r j).take k) []/\Below w2 w2 w3) (fun _ i _ => j - (intOf i).toNat)
  ·exact⟨0,_,0,by omega,rfl,rfl,Ak.emptyB,Ac (aC _ _) _⟩
  ·obtain⟨k,A,c3,y,rfl,rfl,ho,q⟩:=hrel;have a1:(f.map fun r => at0 r j).length =j:=by rw[bH,ac.o.len]
   by_cases az:k<j
   ·obtain⟨ad,ca,fa,p1,p2,r1,n1,b1,d1⟩:=ac.o.at_ af.o az (show j<j+1 by omega);have a8:=(q.cell (p:=⟨g4,k,none⟩) ac.o.lt).T p1;have a9:=(q.cell (p:=ad.add j) b1).T p2;have l:((f.map fun r => at0 r j).take k).length =k:=by rw[aX,a1];omega
    have ab:(f.map fun r => at0 r j).take k ++ [at0 (f.getD k []) j] =(f.map fun r => at0 r j).take (k+1):=by
     rw[aK zZ];simp[aP,ac.o.len,az]
    have ap:=zq (F0 (W:=wr.alloc (.cells #[.int .u8 ((at0 (f.getD k []) j).toNat:Int)] 5)) (b:=wr.heap.size) (x:=at0 (f.getD k []) j) ho q.size zZ (Ac (aC _ _) _) (Blk.new _ _ _));rw[l,ab]at ap;have ah:=zq q;clear ho q p1 p2 r1 n1 l ab;go_wp2_with (at_builtin;refine An rfl (.tmp 46) (.tmp 54) 61 rfl (.slice A k c3) (.slice (some (zE wr)) 1 1) rfl rfl ap.o ?_;rintro v6 w6 ⟨A6,c6,rfl,o6,B6,e6⟩;have be:=zq o6;have bc:=zq B6;clear o6 B6)
    go_roundw
    ·exact⟨k+1,A6,c6,by omega,by go_num,rfl,be.o,ah.o.T bc.o⟩
    ·simp[intOf];omega
   ·obtain rfl:k=j:=by omega
    rw[bB zZ]at ho;have HO:=zq ho;have ah:=zq q;clear ho q;go_wp2
    go_ret2
    obtain⟨gs,r6,m6⟩:=HO.o.readsMine ⟨List.nodup_nil,(fun a ha => by cases ha),(fun a ha => by cases ha)⟩;exact .inl ⟨A,c3,gs,_,HS.o,a1,rfl,r6,m6.M (by rw[HG.o];exact ae),by rw[HG.o];exact ag.o.T (ah.o.M ae)⟩
