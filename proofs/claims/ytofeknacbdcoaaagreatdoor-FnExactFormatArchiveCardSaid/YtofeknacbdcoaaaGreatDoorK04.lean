/- Part 4 of the proof. -/
import Derived.Test.YtofeknacbdcoaaaGreatDoorK03
set_option maxHeartbeats 8000000
set_option maxRecDepth 100000
set_option linter.unusedVariables false
set_option linter.unusedSimpArgs false
open Go.Proofs.Tryz
open Go.Value (int)
open Go.IntKind (i64)
namespace Go.Proofs.YtofeknacbdcoaaaGreatDoor
open Go.RowKit Go.Sort
def BL(left:Int)(n:Nat):Int:=if left<(n:Int)then -1 else left - (n:Int)
theorem AM {left:Int}{n:Nat}(h:left<(n:Int)):BL left n= -1:=by unfold BL;rw[aM h]
theorem Bd {left:Int}{n:Nat}(h:¬left<(n:Int)):BL left n=left - (n:Int):=by unfold BL;rw[aJ h]
def Cl {α:Type}(f:α->Nat)(l:List α)(k:Nat):Nat:=((l.take k).map f).sum
def AH {α:Type}(f:α->Nat)(l:List α):Nat:=l.length+(l.map f).sum
theorem DG {α:Type}(f:α->Nat){l:List α}{k:Nat}(h:k<l.length):Cl f l (k+1)=Cl f l k+f l[k]:=by
 unfold Cl;rw[aK h,List.map_append,List.sum_append];simp only[List.map_cons,List.map_nil,List.sum_cons,List.sum_nil,bC]
theorem EJ {α:Type}(f:α->Nat)(l:List α)(k:Nat):Cl f l k<=(l.map f).sum:=by
 unfold Cl;conv => rhs;rw[<-List.take_append_drop k l]
 rw[List.map_append,List.sum_append];omega
theorem EB {α:Type}(f:α->Nat){l:List α}{k:Nat}(h:k<l.length):f l[k] +1<=AH f l:=by
 have c:=DG f h;have e:=EJ f l (k+1);unfold AH;omega
def CM(b:Cj):Nat:=b.bytes.length
def CN(d:Ba):Nat:=AH CM d.blocks
def CD(g:List Ba):Nat:=AH CN g
def Cx(r:Aj):Nat:=r.name.size+r.rows.length+r.data.length+r.delta.length
def C6(t:Be):Nat:=AH Cx t.recs
def Fg(d:As):Nat:=AH CD d.g+d.on.length+AH C6 d.v
theorem Jv(v xs fs w)(left:Int)(h1:AW w fs v xs)(o:0<=left)(i:left<=1048576):
  Calls prog 34 #[v,int i64 left] w (zM (int i64 (BL left xs.length)) w):=by
 obtain⟨n,c1,rfl,f,l,-⟩:=AW.open_ h1;clear h1;by_cases h:left<(xs.length:Int)
 ·have c:left - (xs.length:Int)<0:=by omega
  rw[AM h];go_enter func34,ntmps34
  go_wp2
  go_ret
  exact⟨rfl,rfl⟩
 ·have c:¬left - (xs.length:Int)<0:=by omega
  rw[Bd h];go_enter func34,ntmps34
  go_wp2
  go_ret
  exact⟨rfl,rfl⟩
theorem Is(v)(xs:List UInt8)(fs w)(left:Int)(h1:Ah w fs v xs)(f:0<=left)(c:left<=1048576):
  Calls prog 119 #[v,int i64 left] w (zM (int i64 (BL left xs.length)) w):=TX v xs fs w left h1 zZ c
theorem TW(d cs f w)(left:Int)(h1:AK w f cs d)(u:0<=left)(n:left<=1048576):
  Calls prog 239 #[.agg cs,int i64 left] w (zN (int i64 (BL left (CM d))) w):=by
 dsimp only[AK]at h1;obtain⟨p,s,e,-,-,h⟩:=h1;subst e;have l:Below w w (w.alloc (.cells #[d.stamp,p] 288)):=(aC _ _).alloc (aD _) _;have i:=zq (Is p d.bytes s (w.alloc (.cells #[d.stamp,p] 288)) left (rSl.B Al.L Al.X h l) u n);obtain⟨y,c0,rfl,-⟩:=rSl.head h;have q:=zq l;have r:CM d=d.bytes.length:=rfl;rw[r];clear r h l;by_cases h4:left<(d.bytes.length:Int)
 ·rw[AM h4]at i⊢;go_enter func239,ntmps239
  go_wp2_with (go_at_call 119;refine i.o.M ?_;rintro e x ⟨rfl,rfl⟩;have c:=q)
  go_ret
  exact⟨rfl,c.o⟩
 ·rw[Bd h4]at i⊢;have z:¬left - (d.bytes.length:Int)<0:=by omega
  go_enter func239,ntmps239
  go_wp2_with (go_at_call 119;refine i.o.M ?_;rintro e x ⟨rfl,rfl⟩;have c:=q)
  go_ret
  exact⟨rfl,c.o⟩
theorem St(v ds fs w)(left:Int)(h1:rSl 2 AK w fs v ds)(hl:0<=left)(ai:left<=1048576):
  Calls prog 177 #[v,int i64 left] w (zN (int i64 (BL left (AH CM ds))) w):=by
 obtain⟨A1,c1,rfl,ah,aj,hx⟩:=rSl.at_ AK.X zW h1;clear h1;obtain⟨r,hr⟩:∃r,BL left (AH CM ds)=r:=zJ;rw[hr];have HR:=zq hr;clear hr;by_cases h:left<ds.length
 ·have af:left - (ds.length:Int)<0:=by omega
  have s:r= -1:=by rw[<-HR.o];exact AM (by unfold AH;omega)
  subst s;clear hx;go_enter func177,ntmps177
  go_wp2
  go_ret
  exact⟨rfl,aC _ _⟩
 ·have af:¬left - (ds.length:Int)<0:=by omega
  have HX:=zq hx;clear hx;go_enter func177,ntmps177
  go_wp2
  go_loopw [1,4,5] (fun l r i wr =>∃(j t:Nat),j<=ds.length/\Hid (t=Cl CM ds j)/\(t:Int)<=left - (ds.length:Int)/\i=j/\r= int i64 0/\l= int i64 (left - (ds.length:Int) - (t:Int))/\Hid (Below w w wr)) (fun _ _ i _ => ds.length - (intOf i).toNat)
  ·exact⟨0,0,by omega,(show 0=_ by simp[Cl]),by omega,rfl,rfl,by simp,aC _ _⟩
  ·obtain⟨j,t,hj,HT,al,rfl,rfl,rfl,y⟩:=hrel;by_cases n:j<ds.length
   ·obtain⟨ad,b,o,cs,fk,s,u⟩:=HX.o j n;subst s;have c:=u.B AK.L y.o;have ak:=u.place;have ag:=c.lt;have aa:=zq (show wr.rangeAt b o cs from fun q v hq => by
     have ac:q<cs.length:=(List.getElem?_eq_some_iff.1 hq).1;rw[c.cell q ac,<-hq];exact(aO ac).symm)
    have HI:=zq (show(prog.info? 288).map (·.size)=some cs.length by rw[c.len];kernel_rfl);have z:=zq (TW ds[j] cs fk wr (left - (ds.length:Int) - (t:Int)) c.reads zZ zZ);have x:=DG CM n;rw[<-HT.o]at x;have p:=zq x;have ab:=EJ CM ds (j+1);have ae:=zq ab;clear u c x ab HX;obtain⟨m,hm⟩:∃m,CM ds[j] =m:=zJ;rw[hm]at z p;clear hm;by_cases h4:left - (ds.length:Int) - (t:Int)<(m:Int)
    ·rw[AM h4]at z;have s:r= -1:=by rw[<-HR.o];exact AM (by unfold AH;have:=p.o;have:=ae.o;omega)
     subst s;go_wp2_with (first
      |(refine aE rfl 288 _ rfl b o rfl cs _ aa.o underlying288 rfl HI.o ?_)
      |(go_at_call 239;refine z.o.M ?_;rintro e w1 ⟨rfl,f⟩;have B1:=zq (y.o.T (f.M y.o.size));clear f))
     go_ret
     exact⟨rfl,B1.o⟩
    ·rw[Bd h4]at z;have h5:¬left - (ds.length:Int) - (t:Int) - (m:Int)<0:=by omega
     have H4:=zq h4;have HE:=zq (show left - (ds.length:Int) - (t:Int) - (m:Int)=left - (ds.length:Int) - ((t+m:Nat):Int) by omega);clear h4;go_wp2_with (first
      |(refine aE rfl 288 _ rfl b o rfl cs _ aa.o underlying288 rfl HI.o ?_)
      |(go_at_call 239;refine z.o.M ?_;rintro e w1 ⟨rfl,f⟩;have B1:=zq (y.o.T (f.M y.o.size));clear f))
     go_roundw
     ·exact⟨j+1,t+m,by omega,p.o.symm,by have:=H4.o;omega,by go_num,rfl,by rw[HE.o],B1.o⟩
     ·simp[intOf];omega
   ·have s:t=(ds.map CM).sum:=by rw[HT.o];unfold Cl;rw[bB zZ]
    have e2:r=left - (ds.length:Int) - (t:Int):=by rw[<-HR.o,Bd (by unfold AH;omega)];unfold AH;omega
    subst e2;clear HR s HX HT;go_wp2
    go_ret
    exact⟨rfl,y.o⟩
theorem TY(d cs f w)(left:Int)(h1:Ar w f cs d)(u:0<=left)(p:left<=1048576):
  Calls prog 117 #[.agg cs,int i64 left] w (zN (int i64 (BL left (CN d))) w):=by
 dsimp only[Ar]at h1;obtain⟨q,s,e,-,h⟩:=h1;subst e;have n:Below w w (w.alloc (.cells #[.bool d.wiped,q] 188)):=(aC _ _).alloc (aD _) _;have i:=zq (St q d.blocks s (w.alloc (.cells #[.bool d.wiped,q] 188)) left (rSl.B AK.L AK.X h n) u p);obtain⟨y,c0,rfl,-⟩:=rSl.head h;have l:=zq n;have r:CN d=AH CM d.blocks:=rfl;rw[r];clear r h n;obtain⟨m,hm⟩:∃m,AH CM d.blocks=m:=zJ;rw[hm]at i⊢;clear hm;by_cases h4:left<(m:Int)
 ·rw[AM h4]at i⊢;go_enter func117,ntmps117
  go_wp2_with (go_at_call 177;refine i.o.M ?_;rintro e x ⟨rfl,hb⟩;have c:=zq (l.o.T (hb.M l.o.size));clear hb)
  go_ret
  exact⟨rfl,c.o⟩
 ·rw[Bd h4]at i⊢;have z:¬left - (m:Int)<0:=by omega
  go_enter func117,ntmps117
  go_wp2_with (go_at_call 177;refine i.o.M ?_;rintro e x ⟨rfl,hb⟩;have c:=zq (l.o.T (hb.M l.o.size));clear hb)
  go_ret
  exact⟨rfl,c.o⟩
theorem Su(v ds fs w)(left:Int)(h1:rSl 2 Ar w fs v ds)(hl:0<=left)(ai:left<=1048576):
  Calls prog 70 #[v,int i64 left] w (zN (int i64 (BL left (AH CN ds))) w):=by
 obtain⟨A1,c1,rfl,ah,aj,hx⟩:=rSl.at_ Ar.X zW h1;clear h1;obtain⟨r,hr⟩:∃r,BL left (AH CN ds)=r:=zJ;rw[hr];have HR:=zq hr;clear hr;by_cases h:left<ds.length
 ·have af:left - (ds.length:Int)<0:=by omega
  have s:r= -1:=by rw[<-HR.o];exact AM (by unfold AH;omega)
  subst s;clear hx;go_enter func70,ntmps70
  go_wp2
  go_ret
  exact⟨rfl,aC _ _⟩
 ·have af:¬left - (ds.length:Int)<0:=by omega
  have HX:=zq hx;clear hx;go_enter func70,ntmps70
  go_wp2
  go_loopw [1,4,5] (fun l r i wr =>∃(j t:Nat),j<=ds.length/\Hid (t=Cl CN ds j)/\(t:Int)<=left - (ds.length:Int)/\i=j/\r= int i64 0/\l= int i64 (left - (ds.length:Int) - (t:Int))/\Hid (Below w w wr)) (fun _ _ i _ => ds.length - (intOf i).toNat)
  ·exact⟨0,0,by omega,(show 0=_ by simp[Cl]),by omega,rfl,rfl,by simp,aC _ _⟩
  ·obtain⟨j,t,hj,HT,al,rfl,rfl,rfl,y⟩:=hrel;by_cases n:j<ds.length
   ·obtain⟨ad,b,o,cs,fk,s,u⟩:=HX.o j n;subst s;have c:=u.B Ar.L y.o;have ak:=u.place;have ag:=c.lt;have aa:=zq (show wr.rangeAt b o cs from fun q v hq => by
     have ac:q<cs.length:=(List.getElem?_eq_some_iff.1 hq).1;rw[c.cell q ac,<-hq];exact(aO ac).symm)
    have HI:=zq (show(prog.info? 188).map (·.size)=some cs.length by rw[c.len];kernel_rfl);have z:=zq (TY ds[j] cs fk wr (left - (ds.length:Int) - (t:Int)) c.reads zZ zZ);have x:=DG CN n;rw[<-HT.o]at x;have p:=zq x;have ab:=EJ CN ds (j+1);have ae:=zq ab;clear u c x ab HX;obtain⟨m,hm⟩:∃m,CN ds[j] =m:=zJ;rw[hm]at z p;clear hm;by_cases h4:left - (ds.length:Int) - (t:Int)<(m:Int)
    ·rw[AM h4]at z;have s:r= -1:=by rw[<-HR.o];exact AM (by unfold AH;have:=p.o;have:=ae.o;omega)
     subst s;go_wp2_with (first
      |(refine aE rfl 188 _ rfl b o rfl cs _ aa.o underlying188 rfl HI.o ?_)
      |(go_at_call 117;refine z.o.M ?_;rintro e w1 ⟨rfl,f⟩;have B1:=zq (y.o.T (f.M y.o.size));clear f))
     go_ret
     exact⟨rfl,B1.o⟩
    ·rw[Bd h4]at z;have h5:¬left - (ds.length:Int) - (t:Int) - (m:Int)<0:=by omega
     have H4:=zq h4;have HE:=zq (show left - (ds.length:Int) - (t:Int) - (m:Int)=left - (ds.length:Int) - ((t+m:Nat):Int) by omega);clear h4;go_wp2_with (first
      |(refine aE rfl 188 _ rfl b o rfl cs _ aa.o underlying188 rfl HI.o ?_)
      |(go_at_call 117;refine z.o.M ?_;rintro e w1 ⟨rfl,f⟩;have B1:=zq (y.o.T (f.M y.o.size));clear f))
     go_roundw
     ·exact⟨j+1,t+m,by omega,p.o.symm,by have:=H4.o;omega,by go_num,rfl,by rw[HE.o],B1.o⟩
     ·simp[intOf];omega
   ·have s:t=(ds.map CN).sum:=by rw[HT.o];unfold Cl;rw[bB zZ]
    have e2:r=left - (ds.length:Int) - (t:Int):=by rw[<-HR.o,Bd (by unfold AH;omega)];unfold AH;omega
    subst e2;clear HR s HX HT;go_wp2
    go_ret
    exact⟨rfl,y.o⟩
theorem Qo(v)(ds:List (List Ba))(fs)(w:World)(left:Int)(h1:rSl 1 (Ai 2 Ar) w fs v ds)(hl:0<=left)(ak:left<=1048576):
  Calls prog 33 #[v,int i64 left] w (zN (int i64 (BL left (AH CD ds))) w):=by
 obtain⟨A1,c1,rfl,aj,al,hx⟩:=rSl.at_ (Ai.X Ar.X) zW h1;clear h1;obtain⟨r,hr⟩:∃r,BL left (AH CD ds)=r:=zJ;rw[hr];have HR:=zq hr;clear hr;by_cases h:left<ds.length
 ·have ae:left - (ds.length:Int)<0:=by omega
  have q:r= -1:=by rw[<-HR.o];exact AM (by unfold AH;omega)
  subst q;clear hx;go_enter func33,ntmps33
  go_wp2
  go_ret
  exact⟨rfl,aC _ _⟩
 ·have ae:¬left - (ds.length:Int)<0:=by omega
  have HX:=zq hx;clear hx;go_enter func33,ntmps33
  go_wp2
  go_loopw [1,4,5] (fun l r i wr =>∃(j t:Nat),j<=ds.length/\Hid (t=Cl CD ds j)/\(t:Int)<=left - (ds.length:Int)/\i=j/\r= int i64 0/\l= int i64 (left - (ds.length:Int) - (t:Int))/\Hid (Below w w wr)) (fun _ _ i _ => ds.length - (intOf i).toNat)
  ·exact⟨0,0,by omega,(show 0=_ by simp[Cl]),by omega,rfl,rfl,by simp,aC _ _⟩
  ·obtain⟨j,t,hj,HT,am,rfl,rfl,rfl,y⟩:=hrel;by_cases n:j<ds.length
   ·obtain⟨ad,b,o,cs,fk,q,s⟩:=HX.o j n;subst q;have c:=s.B (Ai.L Ar.L) y.o;have ag:=s.place;have ai:=c.lt;obtain⟨ve,ah,u⟩:=c.reads;subst ah;obtain⟨Ae,ce,rfl,-⟩:=rSl.head u;have af:=c.cell 0 zX;simp only[bC,aW]at af;rw[Nat.mul_one]at ag;have z:=zq (Su _ ds[j] fk wr (left - (ds.length:Int) - (t:Int)) u zZ zZ);have x:=DG CD n;rw[<-HT.o]at x;have p:=zq x;have aa:=EJ CD ds (j+1);have ac:=zq aa;clear s c x aa HX u;obtain⟨m,hm⟩:∃m,CD ds[j] =m:=zJ;have ab:AH CN ds[j] =m:=hm;rw[ab]at z;rw[hm]at p;clear ab;clear hm;by_cases h4:left - (ds.length:Int) - (t:Int)<(m:Int)
    ·rw[AM h4]at z;have q:r= -1:=by rw[<-HR.o];exact AM (by unfold AH;have:=p.o;have:=ac.o;omega)
     subst q;go_wp2_with (first
      |(go_at_call 70;refine z.o.M ?_;rintro e w1 ⟨rfl,f⟩;have B1:=zq (y.o.T (f.M y.o.size));clear f))
     go_ret
     exact⟨rfl,B1.o⟩
    ·rw[Bd h4]at z;have h5:¬left - (ds.length:Int) - (t:Int) - (m:Int)<0:=by omega
     have H4:=zq h4;have HE:=zq (show left - (ds.length:Int) - (t:Int) - (m:Int)=left - (ds.length:Int) - ((t+m:Nat):Int) by omega);clear h4;go_wp2_with (first
      |(go_at_call 70;refine z.o.M ?_;rintro e w1 ⟨rfl,f⟩;have B1:=zq (y.o.T (f.M y.o.size));clear f))
     go_roundw
     ·exact⟨j+1,t+m,by omega,p.o.symm,by have:=H4.o;omega,by go_num,rfl,by rw[HE.o],B1.o⟩
     ·simp[intOf];omega
   ·have q:t=(ds.map CD).sum:=by rw[HT.o];unfold Cl;rw[bB zZ]
    have e2:r=left - (ds.length:Int) - (t:Int):=by rw[<-HR.o,Bd (by unfold AH;omega)];unfold AH;omega
    subst e2;clear HR q HX HT;go_wp2
    go_ret
    exact⟨rfl,y.o⟩
theorem szRec_c(d cs f w)(left:Int)(h1:Af w f cs d)(hl:0<=left)(aa:left<=1048576):
  Calls prog 178 #[.agg cs,int i64 left] w (zN (int i64 (BL left (Cx d))) w):=by
 dsimp only[Af]at h1;obtain⟨v0,v1,v2,f0,f1,f2,e,-,-,-,ab,-,-,-,r0,r1,r2⟩:=h1;subst e;have n:Below w w (w.alloc (.cells (zK d v0 v1 v2) 239)):=(aC _ _).alloc (aD _) _;obtain⟨s,u,x⟩:=zI (rSl.B Aw.L Aw.X r0 n) (rSl.B Al.L Al.X r1 n) (rSl.B Al.L Al.X r2 n);obtain⟨A0,c0,rfl,-⟩:=rSl.head r0;obtain⟨A1,c1,rfl,-⟩:=rSl.head r1;obtain⟨A2,c2,rfl,-⟩:=rSl.head r2;have p:=zq n;obtain⟨r,hr⟩:∃r,BL left (Cx d)=r:=zJ;rw[hr];have q:=zq hr;clear hr r0 r1 r2 n;by_cases qn:left<(d.name.size:Int)
 ·have l:r= -1:=by rw[<-q.o];exact AM (by unfold Cx;omega)
  subst l;have ql:left - (d.name.size:Int)<0:=by omega
  go_enter func178,ntmps178
  go_wp2
  go_ret
  exact⟨rfl,p.o⟩
 have ql:¬left - (d.name.size:Int)<0:=by omega
 have c:=zq (Jv _ d.rows f0 _ (left - (d.name.size:Int)) s.o zZ zZ);by_cases y:left - (d.name.size:Int)<(d.rows.length:Int)
 ·have l:r= -1:=by rw[<-q.o];exact AM (by unfold Cx;omega)
  subst l;rw[AM y]at c;go_enter func178,ntmps178
  go_wp2_with (go_at_call 34;refine c.o.M ?_;rintro e w' ⟨rfl,rfl⟩)
  go_ret
  exact⟨rfl,p.o⟩
 have ac:¬left - (d.name.size:Int) - (d.rows.length:Int)<0:=by omega
 rw[Bd y]at c;have h:=zq (Is _ d.data f1 _ (left - (d.name.size:Int) - (d.rows.length:Int)) u.o zZ zZ);by_cases z:left - (d.name.size:Int) - (d.rows.length:Int)<(d.data.length:Int)
 ·have l:r= -1:=by rw[<-q.o];exact AM (by unfold Cx;omega)
  subst l;rw[AM z]at h;go_enter func178,ntmps178
  go_wp2_with (first
   |(go_at_call 34;refine c.o.M ?_;rintro e w' ⟨rfl,rfl⟩)
   |(go_at_call 119;refine h.o.M ?_;rintro e w' ⟨rfl,rfl⟩))
  go_ret
  exact⟨rfl,p.o⟩
 have ad:¬left - (d.name.size:Int) - (d.rows.length:Int) - (d.data.length:Int)<0:=by omega
 rw[Bd z]at h;have i:=zq (Is _ d.delta f2 _ (left - (d.name.size:Int) - (d.rows.length:Int) - (d.data.length:Int)) x.o zZ zZ);by_cases q2:left - (d.name.size:Int) - (d.rows.length:Int) - (d.data.length:Int)<(d.delta.length:Int)
 ·have l:r= -1:=by rw[<-q.o];exact AM (by unfold Cx;omega)
  subst l;rw[AM q2]at i;go_enter func178,ntmps178
  go_wp2_with (first
   |(go_at_call 34;refine c.o.M ?_;rintro e w' ⟨rfl,rfl⟩)
   |(go_at_call 119;((with_reducible refine h.o.M ?_);rintro e w' ⟨rfl,rfl⟩))
   |(go_at_call 119;refine i.o.M ?_;rintro e w' ⟨rfl,rfl⟩))
  go_ret
  exact⟨rfl,p.o⟩
 have ae:¬left - (d.name.size:Int) - (d.rows.length:Int) - (d.data.length:Int) - (d.delta.length:Int)<0:=by omega
 rw[Bd q2]at i;have l:r=left - (d.name.size:Int) - (d.rows.length:Int) - (d.data.length:Int) - (d.delta.length:Int):=by rw[<-q.o,Bd (by unfold Cx;omega)];unfold Cx;omega
 subst l;go_enter func178,ntmps178
 go_wp2_with (first
  |(go_at_call 34;refine c.o.M ?_;rintro e w' ⟨rfl,rfl⟩)
  |(go_at_call 119;((with_reducible refine h.o.M ?_);rintro e w' ⟨rfl,rfl⟩))
  |(go_at_call 119;refine i.o.M ?_;rintro e w' ⟨rfl,rfl⟩))
 go_ret
 exact⟨rfl,p.o⟩
theorem szRecS_c(v ds fs w)(left:Int)(h1:rSl 9 Af w fs v ds)(hl:0<=left)(ai:left<=1048576):
  Calls prog 118 #[v,int i64 left] w (zN (int i64 (BL left (AH Cx ds))) w):=by
 obtain⟨A1,c1,rfl,ah,aj,hx⟩:=rSl.at_ Af.X zW h1;clear h1;obtain⟨r,hr⟩:∃r,BL left (AH Cx ds)=r:=zJ;rw[hr];have HR:=zq hr;clear hr;by_cases h:left<ds.length
 ·have af:left - (ds.length:Int)<0:=by omega
  have s:r= -1:=by rw[<-HR.o];exact AM (by unfold AH;omega)
  subst s;clear hx;go_enter func118,ntmps118
  go_wp2
  go_ret
  exact⟨rfl,aC _ _⟩
 ·have af:¬left - (ds.length:Int)<0:=by omega
  have HX:=zq hx;clear hx;go_enter func118,ntmps118
  go_wp2
  go_loopw [1,4,5] (fun l r i wr =>∃(j t:Nat),j<=ds.length/\Hid (t=Cl Cx ds j)/\(t:Int)<=left - (ds.length:Int)/\i=j/\r= int i64 0/\l= int i64 (left - (ds.length:Int) - (t:Int))/\Hid (Below w w wr)) (fun _ _ i _ => ds.length - (intOf i).toNat)
  ·exact⟨0,0,by omega,(show 0=_ by simp[Cl]),by omega,rfl,rfl,by simp,aC _ _⟩
  ·obtain⟨j,t,hj,HT,al,rfl,rfl,rfl,y⟩:=hrel;by_cases n:j<ds.length
   ·obtain⟨ad,b,o,cs,fk,s,u⟩:=HX.o j n;subst s;have c:=u.B Af.L y.o;have ak:=u.place;have ag:=c.lt;have aa:=zq (show wr.rangeAt b o cs from fun q v hq => by
     have ac:q<cs.length:=(List.getElem?_eq_some_iff.1 hq).1;rw[c.cell q ac,<-hq];exact(aO ac).symm)
    have HI:=zq (show(prog.info? 239).map (·.size)=some cs.length by rw[c.len];kernel_rfl);have z:=zq (szRec_c ds[j] cs fk wr (left - (ds.length:Int) - (t:Int)) c.reads zZ zZ);have x:=DG Cx n;rw[<-HT.o]at x;have p:=zq x;have ab:=EJ Cx ds (j+1);have ae:=zq ab;clear u c x ab HX;obtain⟨m,hm⟩:∃m,Cx ds[j] =m:=zJ;rw[hm]at z p;clear hm;by_cases h4:left - (ds.length:Int) - (t:Int)<(m:Int)
    ·rw[AM h4]at z;have s:r= -1:=by rw[<-HR.o];exact AM (by unfold AH;have:=p.o;have:=ae.o;omega)
     subst s;go_wp2_with (first
      |(refine aE rfl 239 _ rfl b o rfl cs _ aa.o underlying239 rfl HI.o ?_)
      |(go_at_call 178;refine z.o.M ?_;rintro e w1 ⟨rfl,f⟩;have B1:=zq (y.o.T (f.M y.o.size));clear f))
     go_ret
     exact⟨rfl,B1.o⟩
    ·rw[Bd h4]at z;have h5:¬left - (ds.length:Int) - (t:Int) - (m:Int)<0:=by omega
     have H4:=zq h4;have HE:=zq (show left - (ds.length:Int) - (t:Int) - (m:Int)=left - (ds.length:Int) - ((t+m:Nat):Int) by omega);clear h4;go_wp2_with (first
      |(refine aE rfl 239 _ rfl b o rfl cs _ aa.o underlying239 rfl HI.o ?_)
      |(go_at_call 178;refine z.o.M ?_;rintro e w1 ⟨rfl,f⟩;have B1:=zq (y.o.T (f.M y.o.size));clear f))
     go_roundw
     ·exact⟨j+1,t+m,by omega,p.o.symm,by have:=H4.o;omega,by go_num,rfl,by rw[HE.o],B1.o⟩
     ·simp[intOf];omega
   ·have s:t=(ds.map Cx).sum:=by rw[HT.o];unfold Cl;rw[bB zZ]
    have e2:r=left - (ds.length:Int) - (t:Int):=by rw[<-HR.o,Bd (by unfold AH;omega)];unfold AH;omega
    subst e2;clear HR s HX HT;go_wp2
    go_ret
    exact⟨rfl,y.o⟩
theorem szTape_c(d cs f w)(left:Int)(h1:AE w f cs d)(u:0<=left)(p:left<=1048576):
  Calls prog 71 #[.agg cs,int i64 left] w (zN (int i64 (BL left (C6 d))) w):=by
 dsimp only[AE]at h1;obtain⟨q,s,e,-,h⟩:=h1;subst e;have n:Below w w (w.alloc (.cells #[.bool d.wiped,q] 139)):=(aC _ _).alloc (aD _) _;have i:=zq (szRecS_c q d.recs s (w.alloc (.cells #[.bool d.wiped,q] 139)) left (rSl.B Af.L Af.X h n) u p);obtain⟨y,c0,rfl,-⟩:=rSl.head h;have l:=zq n;have r:C6 d=AH Cx d.recs:=rfl;rw[r];clear r h n;obtain⟨m,hm⟩:∃m,AH Cx d.recs=m:=zJ;rw[hm]at i⊢;clear hm;by_cases h4:left<(m:Int)
 ·rw[AM h4]at i⊢;go_enter func71,ntmps71
  go_wp2_with (go_at_call 118;refine i.o.M ?_;rintro e x ⟨rfl,hb⟩;have c:=zq (l.o.T (hb.M l.o.size));clear hb)
  go_ret
  exact⟨rfl,c.o⟩
 ·rw[Bd h4]at i⊢;have z:¬left - (m:Int)<0:=by omega
  go_enter func71,ntmps71
  go_wp2_with (go_at_call 118;refine i.o.M ?_;rintro e x ⟨rfl,hb⟩;have c:=zq (l.o.T (hb.M l.o.size));clear hb)
  go_ret
  exact⟨rfl,c.o⟩
theorem NE(v ds fs w)(left:Int)(h1:rSl 2 AE w fs v ds)(hl:0<=left)(ai:left<=1048576):
  Calls prog 35 #[v,int i64 left] w (zN (int i64 (BL left (AH C6 ds))) w):=by
 obtain⟨A1,c1,rfl,ah,aj,hx⟩:=rSl.at_ AE.X zW h1;clear h1;obtain⟨r,hr⟩:∃r,BL left (AH C6 ds)=r:=zJ;rw[hr];have HR:=zq hr;clear hr;by_cases h:left<ds.length
 ·have af:left - (ds.length:Int)<0:=by omega
  have s:r= -1:=by rw[<-HR.o];exact AM (by unfold AH;omega)
  subst s;clear hx;go_enter func35,ntmps35
  go_wp2
  go_ret
  exact⟨rfl,aC _ _⟩
 ·have af:¬left - (ds.length:Int)<0:=by omega
  have HX:=zq hx;clear hx;go_enter func35,ntmps35
  go_wp2
  go_loopw [1,4,5] (fun l r i wr =>∃(j t:Nat),j<=ds.length/\Hid (t=Cl C6 ds j)/\(t:Int)<=left - (ds.length:Int)/\i=j/\r= int i64 0/\l= int i64 (left - (ds.length:Int) - (t:Int))/\Hid (Below w w wr)) (fun _ _ i _ => ds.length - (intOf i).toNat)
  ·exact⟨0,0,by omega,(show 0=_ by simp[Cl]),by omega,rfl,rfl,by simp,aC _ _⟩
  ·obtain⟨j,t,hj,HT,al,rfl,rfl,rfl,y⟩:=hrel;by_cases n:j<ds.length
   ·obtain⟨ad,b,o,cs,fk,s,u⟩:=HX.o j n;subst s;have c:=u.B AE.L y.o;have ak:=u.place;have ag:=c.lt;have aa:=zq (show wr.rangeAt b o cs from fun q v hq => by
     have ac:q<cs.length:=(List.getElem?_eq_some_iff.1 hq).1;rw[c.cell q ac,<-hq];exact(aO ac).symm)
    have HI:=zq (show(prog.info? 139).map (·.size)=some cs.length by rw[c.len];kernel_rfl);have z:=zq (szTape_c ds[j] cs fk wr (left - (ds.length:Int) - (t:Int)) c.reads zZ zZ);have x:=DG C6 n;rw[<-HT.o]at x;have p:=zq x;have ab:=EJ C6 ds (j+1);have ae:=zq ab;clear u c x ab HX;obtain⟨m,hm⟩:∃m,C6 ds[j] =m:=zJ;rw[hm]at z p;clear hm;by_cases h4:left - (ds.length:Int) - (t:Int)<(m:Int)
    ·rw[AM h4]at z;have s:r= -1:=by rw[<-HR.o];exact AM (by unfold AH;have:=p.o;have:=ae.o;omega)
     subst s;go_wp2_with (first
      |(refine aE rfl 139 _ rfl b o rfl cs _ aa.o underlying139 rfl HI.o ?_)
      |(go_at_call 71;refine z.o.M ?_;rintro e w1 ⟨rfl,f⟩;have B1:=zq (y.o.T (f.M y.o.size));clear f))
     go_ret
     exact⟨rfl,B1.o⟩
    ·rw[Bd h4]at z;have h5:¬left - (ds.length:Int) - (t:Int) - (m:Int)<0:=by omega
     have H4:=zq h4;have HE:=zq (show left - (ds.length:Int) - (t:Int) - (m:Int)=left - (ds.length:Int) - ((t+m:Nat):Int) by omega);clear h4;go_wp2_with (first
      |(refine aE rfl 139 _ rfl b o rfl cs _ aa.o underlying139 rfl HI.o ?_)
      |(go_at_call 71;refine z.o.M ?_;rintro e w1 ⟨rfl,f⟩;have B1:=zq (y.o.T (f.M y.o.size));clear f))
     go_roundw
     ·exact⟨j+1,t+m,by omega,p.o.symm,by have:=H4.o;omega,by go_num,rfl,by rw[HE.o],B1.o⟩
     ·simp[intOf];omega
   ·have s:t=(ds.map C6).sum:=by rw[HT.o];unfold Cl;rw[bB zZ]
    have e2:r=left - (ds.length:Int) - (t:Int):=by rw[<-HR.o,Bd (by unfold AH;omega)];unfold AH;omega
    subst e2;clear HR s HX HT;go_wp2
    go_ret
    exact⟨rfl,y.o⟩
theorem T0(d cs f w)(left:Int)(h1:AF w f cs d)(hl:0<=left)(am:left<=1048576):
  Calls prog 9 #[.agg cs,int i64 left] w (zN (int i64 (BL left (Fg d))) w):=by
 dsimp only[AF]at h1;obtain⟨v0,v1,v2,f0,f1,f2,e,-,-,-,-,-,-,-,-,-,-,-,-,r0,r1,r2⟩:=h1;subst e;obtain⟨W1,ab⟩:∃W1,w.alloc (.cells (zC d v0 v1 v2) 28)=W1:=zJ;have B1:Below w w W1:=by rw[<-ab];exact(aC _ _).alloc (aD _) _
 have K1:Blk W1 w 28 (zC d v0 v1 v2):=by rw[<-ab];exact Blk.new w _ _
 obtain⟨al,aa,ag⟩:=zI (rSl.B (Ai.L Ar.L) (Ai.X Ar.X) r0 B1) (rSl.B Aw.L Aw.X r1 B1) (rSl.B AE.L AE.X r2 B1);obtain⟨A0,c0,rfl,-⟩:=rSl.head r0;obtain⟨A1,c1,rfl,-⟩:=rSl.head r1;obtain⟨A2,c2,rfl,-⟩:=rSl.head r2;have k9:W1.cell? ⟨w.heap.size,9,none⟩=some (.slice A0 d.g.length c0):=(K1.cell 9).T rfl;have ad:W1.cell? ⟨w.heap.size,10,none⟩=some (.slice A1 d.on.length c1):=(K1.cell 10).T rfl;have ae:W1.cell? ⟨w.heap.size,11,none⟩=some (.slice A2 d.v.length c2):=(K1.cell 11).T rfl;have HB:=zq B1;have i:w.heap.size<W1.heap.size:=K1.lt;have n:=zq (Qo _ d.g f0 W1 left al.o hl am);obtain⟨r,hr⟩:∃r,BL left (Fg d)=r:=zJ;rw[hr];have HR:=zq hr;have hF:Fg d=AH CD d.g+d.on.length+AH C6 d.v:=rfl;rw[hF]at HR;obtain⟨x,ah⟩:∃x,AH CD d.g=x:=zJ;obtain⟨m2,ac⟩:∃m2,AH C6 d.v=m2:=zJ;rw[ah]at n HR;rw[ac]at HR;have af:=zq ac;clear hr r0 r1 r2 B1 K1 hF ah ac;subst ab;by_cases q0:left<(x:Int)
 ·have e1:r= -1:=by rw[<-HR.o];exact AM zZ
  subst e1;rw[AM q0]at n;go_enter func9,ntmps9
  go_wp2_with (go_at_call 33;refine n.o.M ?_;rintro e w2 ⟨rfl,h⟩;have z:=zq (HB.o.T (h.M HB.o.size));clear h)
  go_ret
  exact⟨rfl,z.o⟩
 have an:¬left - (x:Int)<0:=by omega
 rw[Bd q0]at n;by_cases q1:left - (x:Int)<(d.on.length:Int)
 ·have e1:r= -1:=by rw[<-HR.o];exact AM zZ
  subst e1;go_enter func9,ntmps9
  go_wp2_with (first
   |(go_at_call 33;refine n.o.M ?_;rintro e w2 ⟨rfl,h⟩;have aj:=(h.cell (p:=⟨w.heap.size,10,none⟩) i).T ad;have ak:=(h.cell (p:=⟨w.heap.size,11,none⟩) i).T ae;have ai:=aH i h.size;have l:=zq (Jv _ d.on f1 w2 (left - (x:Int)) (rSl.B Aw.L Aw.X aa.o h) zZ zZ);rw[AM q1]at l;have z:=zq (HB.o.T (h.M HB.o.size));clear h)
   |(go_at_call 34;refine l.o.M ?_;rintro e w' ⟨rfl,rfl⟩))
  go_ret
  exact⟨rfl,z.o⟩
 have ao:¬left - (x:Int) - (d.on.length:Int)<0:=by omega
 by_cases q2:left - (x:Int) - (d.on.length:Int)<(m2:Int)
 ·have e1:r= -1:=by rw[<-HR.o];exact AM zZ
  subst e1;go_enter func9,ntmps9
  go_wp2_with (first
   |(go_at_call 33;refine n.o.M ?_;rintro e w2 ⟨rfl,h⟩;have aj:=(h.cell (p:=⟨w.heap.size,10,none⟩) i).T ad;have ak:=(h.cell (p:=⟨w.heap.size,11,none⟩) i).T ae;have ai:=aH i h.size;have l:=zq (Jv _ d.on f1 w2 (left - (x:Int)) (rSl.B Aw.L Aw.X aa.o h) zZ zZ);rw[Bd q1]at l;have y:=zq (NE _ d.v f2 w2 (left - (x:Int) - (d.on.length:Int)) (rSl.B AE.L AE.X ag.o h) zZ zZ);rw[af.o,AM q2]at y;have z:=zq (HB.o.T (h.M HB.o.size));clear h)
   |(go_at_call 34;refine l.o.M ?_;rintro e w' ⟨rfl,rfl⟩)
   |(go_at_call 35;refine y.o.M ?_;rintro e w3 ⟨rfl,b3⟩;have B3:=zq (z.o.T (b3.M z.o.size));clear b3))
  go_ret
  exact⟨rfl,B3.o⟩
 have ap:¬left - (x:Int) - (d.on.length:Int) - (m2:Int)<0:=by omega
 have e1:r=left - (x:Int) - (d.on.length:Int) - (m2:Int):=by rw[<-HR.o,Bd zZ];omega
 subst e1;go_enter func9,ntmps9
 go_wp2_with (first
  |(go_at_call 33;refine n.o.M ?_;rintro e w2 ⟨rfl,h⟩;have aj:=(h.cell (p:=⟨w.heap.size,10,none⟩) i).T ad;have ak:=(h.cell (p:=⟨w.heap.size,11,none⟩) i).T ae;have ai:=aH i h.size;have l:=zq (Jv _ d.on f1 w2 (left - (x:Int)) (rSl.B Aw.L Aw.X aa.o h) zZ zZ);rw[Bd q1]at l;have y:=zq (NE _ d.v f2 w2 (left - (x:Int) - (d.on.length:Int)) (rSl.B AE.L AE.X ag.o h) zZ zZ);rw[af.o,Bd q2]at y;have z:=zq (HB.o.T (h.M HB.o.size));clear h)
  |(go_at_call 34;refine l.o.M ?_;rintro e w' ⟨rfl,rfl⟩)
  |(go_at_call 35;refine y.o.M ?_;rintro e w3 ⟨rfl,b3⟩;have B3:=zq (z.o.T (b3.M z.o.size));clear b3))
 go_ret
 exact⟨rfl,B3.o⟩
theorem T8(d cs f w)(h1:AK w f cs d)(aa:CM d<=1048576):
  Calls prog 246 #[.agg cs] w (I5 AK d w):=by
 dsimp only[AK]at h1;obtain⟨v0,f0,e,-,ok,h⟩:=h1;subst e;have H:=zq h;have x:=zq ok;obtain⟨u,c1,rfl,-⟩:=rSl.head h;clear h ok;go_enter func246,ntmps246
 go_wp2_with fail
 have s:Below w w (((w.alloc (.cells #[d.stamp,.slice u d.bytes.length c1] 288)).alloc (.cells #[(),zQ] 193)).alloc (.cells #[d.stamp,zQ] 193)):=(((aC _ _).alloc (aD _) _).alloc zX _).alloc zV _;refine(It _ d.bytes f0 _ (rSl.B Al.L Al.X H.o s) aa).M ?_;rintro e w1 ⟨n,r,y,rfl,r1,i,c⟩;obtain⟨k1,k2,B1⟩:=zI (Blk.B ((Blk.new1 w (.cells #[d.stamp,.slice u d.bytes.length c1] 288) 193 #[(),zQ]).alloc (.cells #[d.stamp,zQ] 193)) c zX) (Blk.B (Blk.new2 w (.cells #[d.stamp,.slice u d.bytes.length c1] 288) (.cells #[(),zQ] 193) 193 #[d.stamp,zQ]) c zX) (s.T (c.M s.size));have l:∀a,a∈y->w.heap.size+3<=a.block:=fun a z => by have:=i a z;simp at this;omega
 have q:=zq l;have HR:=zq r1;have z0:=c.size;simp only[World.size_alloc]at z0;have z1:w.heap.size+1<w1.heap.size:=by omega
 have z2:w.heap.size+1+1<w1.heap.size:=by omega
 clear i l r1 c s z0;have p0:=Blk.cell k1.o 0;have p1:=Blk.cell k1.o 1;have q0:=Blk.cell k2.o 0;have q1:=Blk.cell k2.o 1;have f0:=Blk.frozen k1.o 0;have ab:=Blk.frozen k1.o 1;have g0:=Blk.frozen k2.o 0;have g1:=Blk.frozen k2.o 1;simp at p0 p1 q0 q1;go_wp2_with fail
 have K1:=Blk.set_ (Blk.set_ (Blk.far k1.o (p:=⟨w.heap.size+1+1,1,none⟩) zX (.slice n d.bytes.length r)) 0 (int i64 d.stamp)) 1 (.slice n d.bytes.length r);refine bodyPost_ret (results_cell_row rfl _ _ (w.heap.size+1) 193 #[d.stamp,.slice n d.bytes.length r] (0,0) _ rfl K1 underlying193 rfl zY) rfl ?_;refine⟨[d.stamp,.slice n d.bytes.length r],y,rfl,⟨_,y,rfl,rfl,x.o,?_⟩,fun a z => by have:=q.o a z;omega,((B1.o.setCell zV _).setCell zX _).setCell zX _⟩;exact((HR.o.keep Al.L (AV.set_ _ q.o zX _)).keep Al.L (AV.set_ _ q.o zX _)).keep Al.L (AV.set_ _ q.o zX _)
theorem Tryz.infoTotoBlockS:(prog.info? 193).map (fun i =>(i.zero,i.size,i.bytes))=some (some (.agg #[(),zQ]),2,32):=by kernel_rfl
theorem Sx(v ds fs w)(h1:rSl 2 AK w fs v ds)(ah:AH CM ds<=1048576):
  Calls prog 195 #[v] w (Iv 2 AK ds w):=by
 obtain⟨A1,c1,rfl,ak,al,hx⟩:=rSl.at_ AK.X zW h1;have af:ds.length<=1048576:=by unfold AH at ah;omega
 have HX:=zq hx;clear hx h1;have ag:=Cf prog 108 193 (.agg #[(),zQ]) 2 32 underlying108 Tryz.infoTotoBlockS ds.length af zZ;go_enter func195,ntmps195
 go_wp2
 go_loopw [4] (fun i wr =>∃j:Nat,j<=ds.length/\i=j/\Hid (CE 2 AK wr w 193 ds j)/\Hid (Below w w wr)) (fun i _ => ds.length - (intOf i).toNat)
 ·exact⟨0,by omega,rfl,CE.start (Blk.new _ _ _),(aC _ _).alloc (aD _) _⟩
 ·obtain⟨j,hj,rfl,HP,s⟩:=hrel;clear ag;by_cases f:j<ds.length
  ·obtain⟨ad,b,o,cs,fk,e1,l⟩:=HX.o j f;subst e1;have c:=l.B AK.L s.o;have am:=l.place;have aj:=c.lt;have aa:=zq (show wr.rangeAt b o cs from fun q v hq => by
    have r:q<cs.length:=(List.getElem?_eq_some_iff.1 hq).1;rw[c.cell q r,<-hq];exact(aO r).symm)
   have HI:=zq (show(prog.info? 288).map (·.size)=some cs.length by rw[c.len];kernel_rfl);have HC:=zq (T8 ds[j] cs fk wr c.reads (by have:=EB CM f;omega));clear l c HX;go_wp2_with (first
    |(refine aE rfl 288 _ rfl b o rfl cs _ aa.o underlying288 rfl HI.o ?_)
    |(go_at_call 246;go_loud (refine HC.o.M ?_;rintro e w1 ⟨n,fu,rfl,u,p,b1⟩;have HU:=zq u;have x:=zq p;have B1:=zq b1;have h:n.length=2:=AK.wide _ _ _ _ u;have P1:=zq (HP.o.B AK.L AK.X b1);have z:=zq (all_oneCell_toArray (AK.ones _ _ _ _ u));have ab:=zq (show w1.there w (j * 2) n.toArray.size by rw[show n.toArray.size=2 from List.size_toArray.T h];exact P1.o.there f);have y:=zq (show(prog.info? 193).map (·.size)=some n.toArray.size by rw[show n.toArray.size=2 from List.size_toArray.T h];kernel_rfl);have ac:=zq h;have an:w.heap.size<w1.heap.size:=P1.o.lt;clear u p b1 h))
    |(refine aV rfl 193 _ _ rfl w (j * 2) n.toArray rfl rfl ab.o y.o z.o ?_))
   go_roundw
   ·have ai:=P1.o.step AK.L f ac.o HU.o (fun a ha => by have:=x.o a ha;have:=HP.o.lt;omega);exact⟨j+1,by omega,by go_num,ai,Below.setCells_ _ _ _ _ (aD _) (s.o.T (B1.o.M s.o.size))⟩
   ·simp[intOf];omega
  ·obtain rfl:j=ds.length:=by omega
   clear HX;go_wp2
   go_ret
   obtain⟨ae,hr,hf⟩:=HP.o.reads zZ;exact⟨some (zE w),ds.length,ae,rfl,hr,hf,s.o⟩
theorem Ua(d cs f w)(h1:Ar w f cs d)(z:CN d<=1048576):
  Calls prog 137 #[.agg cs] w (I5 Ar d w):=by
 dsimp only[Ar]at h1;obtain⟨v0,f0,e,-,h⟩:=h1;subst e;have H:=zq h;obtain⟨u,c1,rfl,-⟩:=rSl.head h;clear h;go_enter func137,ntmps137
 go_wp2_with fail
 have s:Below w w (((w.alloc (.cells #[.bool d.wiped,.slice u d.blocks.length c1] 188)).alloc (.cells #[.bool false,zQ] 110)).alloc (.cells #[.bool d.wiped,zQ] 110)):=(((aC _ _).alloc (aD _) _).alloc zX _).alloc zV _;refine(Sx _ d.blocks f0 _ (rSl.B AK.L AK.X H.o s) z).M ?_;rintro e w1 ⟨n,r,x,rfl,r1,i,c⟩;obtain⟨k1,k2,B1⟩:=zI (Blk.B ((Blk.new1 w (.cells #[.bool d.wiped,.slice u d.blocks.length c1] 188) 110 #[.bool false,zQ]).alloc (.cells #[.bool d.wiped,zQ] 110)) c zX) (Blk.B (Blk.new2 w (.cells #[.bool d.wiped,.slice u d.blocks.length c1] 188) (.cells #[.bool false,zQ] 110) 110 #[.bool d.wiped,zQ]) c zX) (s.T (c.M s.size));have l:∀a,a∈x->w.heap.size+3<=a.block:=fun a y => by have:=i a y;simp at this;omega
 have q:=zq l;have HR:=zq r1;have z0:=c.size;simp only[World.size_alloc]at z0;have z1:w.heap.size+1<w1.heap.size:=by omega
 have z2:w.heap.size+1+1<w1.heap.size:=by omega
 clear i l r1 c s z0;have p0:=Blk.cell k1.o 0;have p1:=Blk.cell k1.o 1;have q0:=Blk.cell k2.o 0;have q1:=Blk.cell k2.o 1;have f0:=Blk.frozen k1.o 0;have aa:=Blk.frozen k1.o 1;have g0:=Blk.frozen k2.o 0;have g1:=Blk.frozen k2.o 1;simp at p0 p1 q0 q1;go_wp2_with fail
 have K1:=Blk.set_ (Blk.set_ (Blk.far k1.o (p:=⟨w.heap.size+1+1,1,none⟩) zX (.slice n d.blocks.length r)) 0 (.bool d.wiped)) 1 (.slice n d.blocks.length r);refine bodyPost_ret (results_cell_row rfl _ _ (w.heap.size+1) 110 #[.bool d.wiped,.slice n d.blocks.length r] (0,0) _ rfl K1 underlying110 rfl zY) rfl ?_;refine⟨[.bool d.wiped,.slice n d.blocks.length r],x,rfl,⟨_,x,rfl,rfl,?_⟩,fun a y => by have:=q.o a y;omega,((B1.o.setCell zV _).setCell zX _).setCell zX _⟩;exact((HR.o.keep AK.L (AV.set_ _ q.o zX _)).keep AK.L (AV.set_ _ q.o zX _)).keep AK.L (AV.set_ _ q.o zX _)
theorem Tryz.infoTotoDriveS:(prog.info? 110).map (fun i =>(i.zero,i.size,i.bytes))=some (some (.agg #[.bool false,zQ]),2,32):=by kernel_rfl
theorem Sy(v ds fs w)(h1:rSl 2 Ar w fs v ds)(ah:AH CN ds<=1048576):
  Calls prog 87 #[v] w (Iv 2 Ar ds w):=by
 obtain⟨A1,c1,rfl,ak,al,hx⟩:=rSl.at_ Ar.X zW h1;have af:ds.length<=1048576:=by unfold AH at ah;omega
 have HX:=zq hx;clear hx h1;have ag:=Cf prog 107 110 (.agg #[.bool false,zQ]) 2 32 underlying107 Tryz.infoTotoDriveS ds.length af zZ;go_enter func87,ntmps87
 go_wp2
 go_loopw [4] (fun i wr =>∃j:Nat,j<=ds.length/\i=j/\Hid (CE 2 Ar wr w 110 ds j)/\Hid (Below w w wr)) (fun i _ => ds.length - (intOf i).toNat)
 ·exact⟨0,by omega,rfl,CE.start (Blk.new _ _ _),(aC _ _).alloc (aD _) _⟩
 ·obtain⟨j,hj,rfl,HP,s⟩:=hrel;clear ag;by_cases f:j<ds.length
  ·obtain⟨ad,b,o,cs,fk,e1,l⟩:=HX.o j f;subst e1;have c:=l.B Ar.L s.o;have am:=l.place;have aj:=c.lt;have aa:=zq (show wr.rangeAt b o cs from fun q v hq => by
    have r:q<cs.length:=(List.getElem?_eq_some_iff.1 hq).1;rw[c.cell q r,<-hq];exact(aO r).symm)
   have HI:=zq (show(prog.info? 188).map (·.size)=some cs.length by rw[c.len];kernel_rfl);have HC:=zq (Ua ds[j] cs fk wr c.reads (by have:=EB CN f;omega));clear l c HX;go_wp2_with (first
    |(refine aE rfl 188 _ rfl b o rfl cs _ aa.o underlying188 rfl HI.o ?_)
    |(go_at_call 137;go_loud (refine HC.o.M ?_;rintro e w1 ⟨n,fu,rfl,u,p,b1⟩;have HU:=zq u;have x:=zq p;have B1:=zq b1;have h:n.length=2:=Ar.wide _ _ _ _ u;have P1:=zq (HP.o.B Ar.L Ar.X b1);have z:=zq (all_oneCell_toArray (Ar.ones _ _ _ _ u));have ab:=zq (show w1.there w (j * 2) n.toArray.size by rw[show n.toArray.size=2 from List.size_toArray.T h];exact P1.o.there f);have y:=zq (show(prog.info? 110).map (·.size)=some n.toArray.size by rw[show n.toArray.size=2 from List.size_toArray.T h];kernel_rfl);have ac:=zq h;have an:w.heap.size<w1.heap.size:=P1.o.lt;clear u p b1 h))
    |(refine aV rfl 110 _ _ rfl w (j * 2) n.toArray rfl rfl ab.o y.o z.o ?_))
   go_roundw
   ·have ai:=P1.o.step Ar.L f ac.o HU.o (fun a ha => by have:=x.o a ha;have:=HP.o.lt;omega);exact⟨j+1,by omega,by go_num,ai,Below.setCells_ _ _ _ _ (aD _) (s.o.T (B1.o.M s.o.size))⟩
   ·simp[intOf];omega
  ·obtain rfl:j=ds.length:=by omega
   clear HX;go_wp2
   go_ret
   obtain⟨ae,hr,hf⟩:=HP.o.reads zZ;exact⟨some (zE w),ds.length,ae,rfl,hr,hf,s.o⟩
theorem Tryz.infoTotoDriveSS:(prog.info? 107).map (fun i =>(i.zero,i.size,i.bytes))=some (some (.slice none 0 0),1,24):=by kernel_rfl
theorem Qr(v)(ds:List (List Ba))(fs)(w:World)(h1:rSl 1 (Ai 2 Ar) w fs v ds)(ag:AH CD ds<=1048576):
  Calls prog 48 #[v] w (Iv 1 (Ai 2 Ar) ds w):=by
 obtain⟨A1,c1,rfl,aj,ak,hx⟩:=rSl.at_ (Ai.X Ar.X) zW h1;have ab:ds.length<=1048576:=by unfold AH at ag;omega
 have x:=zq hx;clear hx h1;have ac:=Cf prog 39 107 (.slice none 0 0) 1 24 underlying39 Tryz.infoTotoDriveSS ds.length ab zZ;go_enter func48,ntmps48
 go_wp2
 go_loopw [4] (fun i wr =>∃j:Nat,j<=ds.length/\i=j/\Hid (CE 1 (Ai 2 Ar) wr w 107 ds j)/\Hid (Below w w wr)) (fun i _ => ds.length - (intOf i).toNat)
 ·exact⟨0,by omega,rfl,CE.start (z:=#[zQ]) (by rw[Nat.mul_one];exact Blk.new _ _ _),(aC _ _).alloc (aD _) _⟩
 ·obtain⟨j,hj,rfl,u,r⟩:=hrel;clear ac;by_cases f:j<ds.length
  ·obtain⟨ad,b,o,cs,fk,e1,h⟩:=x.o j f;subst e1;have c:=h.B (Ai.L Ar.L) r.o;have af:=h.place;have ai:=c.lt;obtain⟨ve,ah,l⟩:=c.reads;subst ah;obtain⟨Ae,ce,rfl,-⟩:=rSl.head l;have ae:=c.cell 0 zX;simp only[bC,aW]at ae;rw[Nat.mul_one]at af;have HC:=zq (Sy _ ds[j] fk wr l (by have:=EB CD f;have e:CD ds[j] =AH CN ds[j]:=rfl;omega));clear l;clear h c x;go_wp2_with (first
    |(go_at_call 87;go_loud (refine HC.o.M ?_;rintro e w1 ⟨Au,cu,fu,rfl,ru,n,b1⟩;have HU:=zq ru;have s:=zq n;have B1:=zq b1;have y:=zq (u.o.B (Ai.L Ar.L) (Ai.X Ar.X) b1);have th:=y.o.there f 0 zZ;simp only[Nat.mul_one,bC]at th;obtain⟨q,an⟩:=th;obtain⟨ux,al⟩:=Option.isSome_iff_exists.1 q;have am:w.heap.size<w1.heap.size:=y.o.lt;clear ru n b1 q)))
   go_roundw
   ·have p:=y.o.step (us:=[.slice Au ds[j].length cu]) (Ai.L Ar.L) f rfl ⟨_,rfl,HU.o⟩ (fun a ha => by have:=s.o a ha;have:=u.o.lt;omega);rw[Nat.mul_one]at p;exact⟨j+1,by omega,by go_num,p,(r.o.T (B1.o.M r.o.size)).setCell (aD _) _⟩
   ·simp[intOf];omega
  ·obtain rfl:j=ds.length:=by omega
   clear x;go_wp2
   go_ret
   obtain⟨aa,hr,hf⟩:=u.o.reads zZ;exact⟨some (zE w),ds.length,aa,rfl,hr,hf,r.o⟩
def BM(t:AA):Nat:=t.name.size
def Cm(q:List AA):Nat:=AH BM q
def Ch(a:AQ):Nat:=a.bytes.length
def FV(d:AP):Nat:=AH Cm d.queues+AH BM d.aside+AH Ch d.answers
def DH(d:AX):Nat:=Fg d.world+FV d.desk
theorem Sv(d cs f w)(left:Int)(h1:Ag w f cs d)(n:0<=left)(l:left<=1048576):
  Calls prog 72 #[.agg cs,int i64 left] w (zN (int i64 (BL left (BM d))) w):=by
 obtain⟨e,-,-,-,hn,-⟩:=h1;subst e;have c:Below w w (w.alloc (.cells #[d.id,d.kind,.string d.name,d.group] 141)):=(aC _ _).alloc (aD _) _;have h:BM d=d.name.size:=rfl;rw[h];clear h;by_cases h4:left<(d.name.size:Int)
 ·have i:left - (d.name.size:Int)<0:=by omega
  rw[AM h4];go_enter func72,ntmps72
  go_wp2
  go_ret
  exact⟨rfl,c⟩
 ·rw[Bd h4];have i:¬left - (d.name.size:Int)<0:=by omega
  go_enter func72,ntmps72
  go_wp2
  go_ret
  exact⟨rfl,c⟩
theorem GA(v ds fs w)(left:Int)(h1:rSl 4 Ag w fs v ds)(hl:0<=left)(ai:left<=1048576):
  Calls prog 37 #[v,int i64 left] w (zN (int i64 (BL left (AH BM ds))) w):=by
 obtain⟨A1,c1,rfl,ah,aj,hx⟩:=rSl.at_ Ag.X zW h1;clear h1;obtain⟨r,hr⟩:∃r,BL left (AH BM ds)=r:=zJ;rw[hr];have HR:=zq hr;clear hr;by_cases h:left<ds.length
 ·have af:left - (ds.length:Int)<0:=by omega
  have s:r= -1:=by rw[<-HR.o];exact AM (by unfold AH;omega)
  subst s;clear hx;go_enter func37,ntmps37
  go_wp2
  go_ret
  exact⟨rfl,aC _ _⟩
 ·have af:¬left - (ds.length:Int)<0:=by omega
  have HX:=zq hx;clear hx;go_enter func37,ntmps37
  go_wp2
  go_loopw [1,4,5] (fun l r i wr =>∃(j t:Nat),j<=ds.length/\Hid (t=Cl BM ds j)/\(t:Int)<=left - (ds.length:Int)/\i=j/\r= int i64 0/\l= int i64 (left - (ds.length:Int) - (t:Int))/\Hid (Below w w wr)) (fun _ _ i _ => ds.length - (intOf i).toNat)
  ·exact⟨0,0,by omega,(show 0=_ by simp[Cl]),by omega,rfl,rfl,by simp,aC _ _⟩
  ·obtain⟨j,t,hj,HT,al,rfl,rfl,rfl,y⟩:=hrel;by_cases n:j<ds.length
   ·obtain⟨ad,b,o,cs,fk,s,u⟩:=HX.o j n;subst s;have c:=u.B Ag.L y.o;have ak:=u.place;have ag:=c.lt;have aa:=zq (show wr.rangeAt b o cs from fun q v hq => by
     have ac:q<cs.length:=(List.getElem?_eq_some_iff.1 hq).1;rw[c.cell q ac,<-hq];exact(aO ac).symm)
    have HI:=zq (show(prog.info? 141).map (·.size)=some cs.length by rw[c.len];kernel_rfl);have z:=zq (Sv ds[j] cs fk wr (left - (ds.length:Int) - (t:Int)) c.reads zZ zZ);have x:=DG BM n;rw[<-HT.o]at x;have p:=zq x;have ab:=EJ BM ds (j+1);have ae:=zq ab;clear u c x ab HX;obtain⟨m,hm⟩:∃m,BM ds[j] =m:=zJ;rw[hm]at z p;clear hm;by_cases h4:left - (ds.length:Int) - (t:Int)<(m:Int)
    ·rw[AM h4]at z;have s:r= -1:=by rw[<-HR.o];exact AM (by unfold AH;have:=p.o;have:=ae.o;omega)
     subst s;go_wp2_with (first
      |(refine aE rfl 141 _ rfl b o rfl cs _ aa.o underlying141 rfl HI.o ?_)
      |(go_at_call 72;refine z.o.M ?_;rintro e w1 ⟨rfl,f⟩;have B1:=zq (y.o.T (f.M y.o.size));clear f))
     go_ret
     exact⟨rfl,B1.o⟩
    ·rw[Bd h4]at z;have h5:¬left - (ds.length:Int) - (t:Int) - (m:Int)<0:=by omega
     have H4:=zq h4;have HE:=zq (show left - (ds.length:Int) - (t:Int) - (m:Int)=left - (ds.length:Int) - ((t+m:Nat):Int) by omega);clear h4;go_wp2_with (first
      |(refine aE rfl 141 _ rfl b o rfl cs _ aa.o underlying141 rfl HI.o ?_)
      |(go_at_call 72;refine z.o.M ?_;rintro e w1 ⟨rfl,f⟩;have B1:=zq (y.o.T (f.M y.o.size));clear f))
     go_roundw
     ·exact⟨j+1,t+m,by omega,p.o.symm,by have:=H4.o;omega,by go_num,rfl,by rw[HE.o],B1.o⟩
     ·simp[intOf];omega
   ·have s:t=(ds.map BM).sum:=by rw[HT.o];unfold Cl;rw[bB zZ]
    have e2:r=left - (ds.length:Int) - (t:Int):=by rw[<-HR.o,Bd (by unfold AH;omega)];unfold AH;omega
    subst e2;clear HR s HX HT;go_wp2
    go_ret
    exact⟨rfl,y.o⟩
theorem Pt(v)(ds:List (List AA))(fs)(w:World)(left:Int)(h1:rSl 1 (Ai 4 Ag) w fs v ds)(hl:0<=left)(ak:left<=1048576):
  Calls prog 36 #[v,int i64 left] w (zN (int i64 (BL left (AH Cm ds))) w):=by
 obtain⟨A1,c1,rfl,aj,al,hx⟩:=rSl.at_ (Ai.X Ag.X) zW h1;clear h1;obtain⟨r,hr⟩:∃r,BL left (AH Cm ds)=r:=zJ;rw[hr];have HR:=zq hr;clear hr;by_cases h:left<ds.length
 ·have ae:left - (ds.length:Int)<0:=by omega
  have q:r= -1:=by rw[<-HR.o];exact AM (by unfold AH;omega)
  subst q;clear hx;go_enter func36,ntmps36
  go_wp2
  go_ret
  exact⟨rfl,aC _ _⟩
 ·have ae:¬left - (ds.length:Int)<0:=by omega
  have HX:=zq hx;clear hx;go_enter func36,ntmps36
  go_wp2
  go_loopw [1,4,5] (fun l r i wr =>∃(j t:Nat),j<=ds.length/\Hid (t=Cl Cm ds j)/\(t:Int)<=left - (ds.length:Int)/\i=j/\r= int i64 0/\l= int i64 (left - (ds.length:Int) - (t:Int))/\Hid (Below w w wr)) (fun _ _ i _ => ds.length - (intOf i).toNat)
  ·exact⟨0,0,by omega,(show 0=_ by simp[Cl]),by omega,rfl,rfl,by simp,aC _ _⟩
  ·obtain⟨j,t,hj,HT,am,rfl,rfl,rfl,y⟩:=hrel;by_cases n:j<ds.length
   ·obtain⟨ad,b,o,cs,fk,q,s⟩:=HX.o j n;subst q;have c:=s.B (Ai.L Ag.L) y.o;have ag:=s.place;have ai:=c.lt;obtain⟨ve,ah,u⟩:=c.reads;subst ah;obtain⟨Ae,ce,rfl,-⟩:=rSl.head u;have af:=c.cell 0 zX;simp only[bC,aW]at af;rw[Nat.mul_one]at ag;have z:=zq (GA _ ds[j] fk wr (left - (ds.length:Int) - (t:Int)) u zZ zZ);have x:=DG Cm n;rw[<-HT.o]at x;have p:=zq x;have aa:=EJ Cm ds (j+1);have ac:=zq aa;clear s c x aa HX u;obtain⟨m,hm⟩:∃m,Cm ds[j] =m:=zJ;have ab:AH BM ds[j] =m:=hm;rw[ab]at z;rw[hm]at p;clear ab;clear hm;by_cases h4:left - (ds.length:Int) - (t:Int)<(m:Int)
    ·rw[AM h4]at z;have q:r= -1:=by rw[<-HR.o];exact AM (by unfold AH;have:=p.o;have:=ac.o;omega)
     subst q;go_wp2_with (first
      |(go_at_call 37;refine z.o.M ?_;rintro e w1 ⟨rfl,f⟩;have B1:=zq (y.o.T (f.M y.o.size));clear f))
     go_ret
     exact⟨rfl,B1.o⟩
    ·rw[Bd h4]at z;have h5:¬left - (ds.length:Int) - (t:Int) - (m:Int)<0:=by omega
     have H4:=zq h4;have HE:=zq (show left - (ds.length:Int) - (t:Int) - (m:Int)=left - (ds.length:Int) - ((t+m:Nat):Int) by omega);clear h4;go_wp2_with (first
      |(go_at_call 37;refine z.o.M ?_;rintro e w1 ⟨rfl,f⟩;have B1:=zq (y.o.T (f.M y.o.size));clear f))
     go_roundw
     ·exact⟨j+1,t+m,by omega,p.o.symm,by have:=H4.o;omega,by go_num,rfl,by rw[HE.o],B1.o⟩
     ·simp[intOf];omega
   ·have q:t=(ds.map Cm).sum:=by rw[HT.o];unfold Cl;rw[bB zZ]
    have e2:r=left - (ds.length:Int) - (t:Int):=by rw[<-HR.o,Bd (by unfold AH;omega)];unfold AH;omega
    subst e2;clear HR q HX HT;go_wp2
    go_ret
    exact⟨rfl,y.o⟩
theorem Ss(d cs f w)(left:Int)(h1:AB w f cs d)(u:0<=left)(n:left<=1048576):
  Calls prog 73 #[.agg cs,int i64 left] w (zN (int i64 (BL left (Ch d))) w):=by
 dsimp only[AB]at h1;obtain⟨p,s,e,-,-,-,-,h⟩:=h1;subst e;have l:Below w w (w.alloc (.cells #[d.id,d.code,d.turn,p] 144)):=(aC _ _).alloc (aD _) _;have i:=zq (Is p d.bytes s (w.alloc (.cells #[d.id,d.code,d.turn,p] 144)) left (rSl.B Al.L Al.X h l) u n);obtain⟨y,c0,rfl,-⟩:=rSl.head h;have q:=zq l;have r:Ch d=d.bytes.length:=rfl;rw[r];clear r h l;by_cases h4:left<(d.bytes.length:Int)
 ·rw[AM h4]at i⊢;go_enter func73,ntmps73
  go_wp2_with (go_at_call 119;refine i.o.M ?_;rintro e x ⟨rfl,rfl⟩;have c:=q)
  go_ret
  exact⟨rfl,c.o⟩
 ·rw[Bd h4]at i⊢;have z:¬left - (d.bytes.length:Int)<0:=by omega
  go_enter func73,ntmps73
  go_wp2_with (go_at_call 119;refine i.o.M ?_;rintro e x ⟨rfl,rfl⟩;have c:=q)
  go_ret
  exact⟨rfl,c.o⟩
theorem Ld(v ds fs w)(left:Int)(h1:rSl 4 AB w fs v ds)(hl:0<=left)(ai:left<=1048576):
  Calls prog 38 #[v,int i64 left] w (zN (int i64 (BL left (AH Ch ds))) w):=by
 obtain⟨A1,c1,rfl,ah,aj,hx⟩:=rSl.at_ AB.X zW h1;clear h1;obtain⟨r,hr⟩:∃r,BL left (AH Ch ds)=r:=zJ;rw[hr];have HR:=zq hr;clear hr;by_cases h:left<ds.length
 ·have af:left - (ds.length:Int)<0:=by omega
  have s:r= -1:=by rw[<-HR.o];exact AM (by unfold AH;omega)
  subst s;clear hx;go_enter func38,ntmps38
  go_wp2
  go_ret
  exact⟨rfl,aC _ _⟩
 ·have af:¬left - (ds.length:Int)<0:=by omega
  have HX:=zq hx;clear hx;go_enter func38,ntmps38
  go_wp2
  go_loopw [1,4,5] (fun l r i wr =>∃(j t:Nat),j<=ds.length/\Hid (t=Cl Ch ds j)/\(t:Int)<=left - (ds.length:Int)/\i=j/\r= int i64 0/\l= int i64 (left - (ds.length:Int) - (t:Int))/\Hid (Below w w wr)) (fun _ _ i _ => ds.length - (intOf i).toNat)
  ·exact⟨0,0,by omega,(show 0=_ by simp[Cl]),by omega,rfl,rfl,by simp,aC _ _⟩
  ·obtain⟨j,t,hj,HT,al,rfl,rfl,rfl,y⟩:=hrel;by_cases n:j<ds.length
   ·obtain⟨ad,b,o,cs,fk,s,u⟩:=HX.o j n;subst s;have c:=u.B AB.L y.o;have ak:=u.place;have ag:=c.lt;have aa:=zq (show wr.rangeAt b o cs from fun q v hq => by
     have ac:q<cs.length:=(List.getElem?_eq_some_iff.1 hq).1;rw[c.cell q ac,<-hq];exact(aO ac).symm)
    have HI:=zq (show(prog.info? 144).map (·.size)=some cs.length by rw[c.len];kernel_rfl);have z:=zq (Ss ds[j] cs fk wr (left - (ds.length:Int) - (t:Int)) c.reads zZ zZ);have x:=DG Ch n;rw[<-HT.o]at x;have p:=zq x;have ab:=EJ Ch ds (j+1);have ae:=zq ab;clear u c x ab HX;obtain⟨m,hm⟩:∃m,Ch ds[j] =m:=zJ;rw[hm]at z p;clear hm;by_cases h4:left - (ds.length:Int) - (t:Int)<(m:Int)
    ·rw[AM h4]at z;have s:r= -1:=by rw[<-HR.o];exact AM (by unfold AH;have:=p.o;have:=ae.o;omega)
     subst s;go_wp2_with (first
      |(refine aE rfl 144 _ rfl b o rfl cs _ aa.o underlying144 rfl HI.o ?_)
      |(go_at_call 73;refine z.o.M ?_;rintro e w1 ⟨rfl,f⟩;have B1:=zq (y.o.T (f.M y.o.size));clear f))
     go_ret
     exact⟨rfl,B1.o⟩
    ·rw[Bd h4]at z;have h5:¬left - (ds.length:Int) - (t:Int) - (m:Int)<0:=by omega
     have H4:=zq h4;have HE:=zq (show left - (ds.length:Int) - (t:Int) - (m:Int)=left - (ds.length:Int) - ((t+m:Nat):Int) by omega);clear h4;go_wp2_with (first
      |(refine aE rfl 144 _ rfl b o rfl cs _ aa.o underlying144 rfl HI.o ?_)
      |(go_at_call 73;refine z.o.M ?_;rintro e w1 ⟨rfl,f⟩;have B1:=zq (y.o.T (f.M y.o.size));clear f))
     go_roundw
     ·exact⟨j+1,t+m,by omega,p.o.symm,by have:=H4.o;omega,by go_num,rfl,by rw[HE.o],B1.o⟩
     ·simp[intOf];omega
   ·have s:t=(ds.map Ch).sum:=by rw[HT.o];unfold Cl;rw[bB zZ]
    have e2:r=left - (ds.length:Int) - (t:Int):=by rw[<-HR.o,Bd (by unfold AH;omega)];unfold AH;omega
    subst e2;clear HR s HX HT;go_wp2
    go_ret
    exact⟨rfl,y.o⟩
theorem Ps(d cs f w)(left:Int)(h1:Bb w f cs d)(hl:0<=left)(ak:left<=1048576):
  Calls prog 10 #[.agg cs,int i64 left] w (zN (int i64 (BL left (FV d))) w):=by
 dsimp only[Bb]at h1;obtain⟨v0,v1,v2,f0,f1,f2,e,-,-,-,r0,r1,r2⟩:=h1;subst e;obtain⟨W1,ac⟩:∃W1,w.alloc (.cells #[v0,v1,v2,d.turn,d.next] 33)=W1:=zJ;have B1:Below w w W1:=by rw[<-ac];exact(aC _ _).alloc (aD _) _
 have K1:Blk W1 w 33 #[v0,v1,v2,d.turn,d.next]:=by rw[<-ac];exact Blk.new w _ _
 obtain⟨aj,ab,ag⟩:=zI (rSl.B (Ai.L Ag.L) (Ai.X Ag.X) r0 B1) (rSl.B Ag.L Ag.X r1 B1) (rSl.B AB.L AB.X r2 B1);obtain⟨A0,c0,rfl,-⟩:=rSl.head r0;obtain⟨A1,c1,rfl,-⟩:=rSl.head r1;obtain⟨A2,c2,rfl,-⟩:=rSl.head r2;have k0:W1.cell? ⟨w.heap.size,0,none⟩=some (.slice A0 d.queues.length c0):=(K1.cell 0).T rfl;have k1:W1.cell? ⟨w.heap.size,1,none⟩=some (.slice A1 d.aside.length c1):=(K1.cell 1).T rfl;have k2:W1.cell? ⟨w.heap.size,2,none⟩=some (.slice A2 d.answers.length c2):=(K1.cell 2).T rfl;have HB:=zq B1;have h:w.heap.size<W1.heap.size:=K1.lt;have s:=zq (Pt _ d.queues f0 W1 left aj.o hl ak);obtain⟨r,hr⟩:∃r,BL left (FV d)=r:=zJ;rw[hr];have HR:=zq hr;have hF:FV d=AH Cm d.queues+AH BM d.aside+AH Ch d.answers:=rfl;rw[hF]at HR;obtain⟨u,ah⟩:∃u,AH Cm d.queues=u:=zJ;obtain⟨m1,ad⟩:∃m1,AH BM d.aside=m1:=zJ;obtain⟨m2,ae⟩:∃m2,AH Ch d.answers=m2:=zJ;rw[ah]at s HR;rw[ad,ae]at HR;have aa:=zq ad;have af:=zq ae;clear hr r0 r1 r2 B1 K1 hF ah ad ae;subst ac;by_cases q0:left<(u:Int)
 ·have e1:r= -1:=by rw[<-HR.o];exact AM zZ
  subst e1;rw[AM q0]at s;go_enter func10,ntmps10
  go_wp2_with (first
   |(go_at_call 36;refine s.o.M ?_;rintro e w2 ⟨rfl,c⟩;have j1:=(c.cell (p:=⟨w.heap.size,1,none⟩) h).T k1;have j2:=(c.cell (p:=⟨w.heap.size,2,none⟩) h).T k2;have i:=aH h c.size;have z:=zq (HB.o.T (c.M HB.o.size));clear c))
  go_ret
  exact⟨rfl,z.o⟩
 have al:¬left - (u:Int)<0:=by omega
 rw[Bd q0]at s;by_cases q1:left - (u:Int)<(m1:Int)
 ·have e1:r= -1:=by rw[<-HR.o];exact AM zZ
  subst e1;go_enter func10,ntmps10
  go_wp2_with (first
   |(go_at_call 36;refine s.o.M ?_;rintro e w2 ⟨rfl,c⟩;have j1:=(c.cell (p:=⟨w.heap.size,1,none⟩) h).T k1;have j2:=(c.cell (p:=⟨w.heap.size,2,none⟩) h).T k2;have i:=aH h c.size;have z:=zq (HB.o.T (c.M HB.o.size));have l:=zq (GA _ d.aside f1 w2 (left - (u:Int)) (rSl.B Ag.L Ag.X ab.o c) zZ zZ);rw[aa.o,AM q1]at l;have x:=zq c;clear c)
   |(go_at_call 37;refine l.o.M ?_;rintro e w3 ⟨rfl,q⟩;have i2:=(q.cell (p:=⟨w.heap.size,2,none⟩) i).T j2;have ai:=aH i q.size;have B3:=zq (z.o.T (q.M z.o.size));clear q))
  go_ret
  exact⟨rfl,B3.o⟩
 have am:¬left - (u:Int) - (m1:Int)<0:=by omega
 by_cases q2:left - (u:Int) - (m1:Int)<(m2:Int)
 ·have e1:r= -1:=by rw[<-HR.o];exact AM zZ
  subst e1;go_enter func10,ntmps10
  go_wp2_with (first
   |(go_at_call 36;refine s.o.M ?_;rintro e w2 ⟨rfl,c⟩;have j1:=(c.cell (p:=⟨w.heap.size,1,none⟩) h).T k1;have j2:=(c.cell (p:=⟨w.heap.size,2,none⟩) h).T k2;have i:=aH h c.size;have z:=zq (HB.o.T (c.M HB.o.size));have l:=zq (GA _ d.aside f1 w2 (left - (u:Int)) (rSl.B Ag.L Ag.X ab.o c) zZ zZ);rw[aa.o,Bd q1]at l;have x:=zq c;clear c)
   |(go_at_call 37;refine l.o.M ?_;rintro e w3 ⟨rfl,q⟩;have i2:=(q.cell (p:=⟨w.heap.size,2,none⟩) i).T j2;have ai:=aH i q.size;have B3:=zq (z.o.T (q.M z.o.size));have y:=zq (Ld _ d.answers f2 w3 (left - (u:Int) - (m1:Int)) (rSl.B AB.L AB.X ag.o (x.o.T (q.M x.o.size))) zZ zZ);rw[af.o,AM q2]at y;clear q)
   |(go_at_call 38;refine y.o.M ?_;rintro e w4 ⟨rfl,b4⟩;have B4:=zq (B3.o.T (b4.M B3.o.size));clear b4))
  go_ret
  exact⟨rfl,B4.o⟩
 have Q2:=zq q2;have an:¬left - (u:Int) - (m1:Int) - (m2:Int)<0:=by omega
 have e1:r=left - (u:Int) - (m1:Int) - (m2:Int):=by rw[<-HR.o,Bd zZ];omega
 subst e1;go_enter func10,ntmps10
 go_wp2_with (first
  |(go_at_call 36;refine s.o.M ?_;rintro e w2 ⟨rfl,c⟩;have j1:=(c.cell (p:=⟨w.heap.size,1,none⟩) h).T k1;have j2:=(c.cell (p:=⟨w.heap.size,2,none⟩) h).T k2;have i:=aH h c.size;have z:=zq (HB.o.T (c.M HB.o.size));have l:=zq (GA _ d.aside f1 w2 (left - (u:Int)) (rSl.B Ag.L Ag.X ab.o c) zZ zZ);rw[aa.o,Bd q1]at l;have x:=zq c;clear c)
  |(go_at_call 37;refine l.o.M ?_;rintro e w3 ⟨rfl,q⟩;have i2:=(q.cell (p:=⟨w.heap.size,2,none⟩) i).T j2;have ai:=aH i q.size;have B3:=zq (z.o.T (q.M z.o.size));have y:=zq (Ld _ d.answers f2 w3 (left - (u:Int) - (m1:Int)) (rSl.B AB.L AB.X ag.o (x.o.T (q.M x.o.size))) zZ zZ);rw[af.o,Bd (left:=left - (u:Int) - (m1:Int)) (n:=m2) (by have:=Q2.o;omega)]at y;clear q)
  |(go_at_call 38;refine y.o.M ?_;rintro e w4 ⟨rfl,b4⟩;have B4:=zq (B3.o.T (b4.M B3.o.size));clear b4))
 go_ret
 exact⟨rfl,B4.o⟩
