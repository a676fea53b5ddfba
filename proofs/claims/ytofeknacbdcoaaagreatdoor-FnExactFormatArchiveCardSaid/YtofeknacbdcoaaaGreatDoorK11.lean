/- Part 11 of the proof. -/
import Derived.Test.YtofeknacbdcoaaaGreatDoorK10
import Derived.Test.YtofeknacbdcoaaaGreatDoorK03
import Derived.Lib.AppendZerosOnto
import Derived.Deep.RegionLaw
import Derived.Test.YtofeknacbdcoaaaGreatDoorK09
import Derived.Test.YtofeknacbdcoaaaGreatDoorK06
import Derived.Test.YtofeknacbdcoaaaGreatDoorK02
set_option maxHeartbeats 8000000
set_option maxRecDepth 100000
set_option linter.unusedVariables false
set_option linter.unusedSimpArgs false
open Go.Proofs.Tryz
open Go.Value (int)
open Go.IntKind (i64)
namespace Go.Proofs.YtofeknacbdcoaaaGreatDoor
open Go.RowKit Go.Lib Go.Sort
structure Ej (W:World) (p o:Nat) (d:AP) (A0 A1 A2:Option Addr) (c0 c1 c2:Nat) (f0 f1 f2:List Addr):Prop where
 k0:W.cell? ⟨p,o,none⟩=some (.slice A0 d.queues.length c0)
 k1:W.cell? ⟨p,o+1,none⟩=some (.slice A1 d.aside.length c1)
 k2:W.cell? ⟨p,o+2,none⟩=some (.slice A2 d.answers.length c2)
 k3:W.cell? ⟨p,o+3,none⟩=some (int i64 d.turn)
 k4:W.cell? ⟨p,o+4,none⟩=some (int i64 d.next)
 lt:p<W.heap.size
 r0:rSl 1 (Ai 4 Ag) W f0 (.slice A0 d.queues.length c0) d.queues
 r1:rSl 4 Ag W f1 (.slice A1 d.aside.length c1) d.aside
 r2:rSl 4 AB W f2 (.slice A2 d.answers.length c2) d.answers
theorem Ej.B {W i p o d c e f c0 c1 c2 l n q}(h:Ej W p o d c e f c0 c1 c2 l n q)(hb:Below W W i):Ej i p o d c e f c0 c1 c2 l n q :=
 ⟨(hb.cell (p:=⟨p,o,none⟩) h.lt).T h.k0,(hb.cell (p:=⟨p,o+1,none⟩) h.lt).T h.k1,(hb.cell (p:=⟨p,o+2,none⟩) h.lt).T h.k2,(hb.cell (p:=⟨p,o+3,none⟩) h.lt).T h.k3,(hb.cell (p:=⟨p,o+4,none⟩) h.lt).T h.k4,aH h.lt hb.size,
  rSl.B (Ai.L Ag.L) (Ai.X Ag.X) h.r0 hb,rSl.B Ag.L Ag.X h.r1 hb,rSl.B AB.L AB.X h.r2 hb⟩
theorem Ak.tks {E:TypeId}{w base v ds fs}(h:Ak 4 E Ag w base v ds fs):fs= []:=by
 obtain⟨c,e,p,q,rfl,h4,f,r⟩:=h;refine List.flatten_eq_nil_iff.2 fun l n => ?_
 obtain⟨i,s,rfl⟩:=aY n;obtain⟨_,_,_,o⟩:=f i zZ;exact o.2.1
theorem Tryz.infoTk:(prog.info? 112).map (fun i =>(i.zero,i.size,i.bytes))=some (some (.agg #[(),(),.string ⟨#[]⟩,()]),4,40):=by kernel_rfl
theorem LB {wr base v ds ds2}(p:Ak 4 112 Ag wr base v ds [])(f:base<=wr.heap.size){u o}(hr:rSl 4 Ag wr o u ds2)(s:∀a,a∈o->a.block<base)(hn:ds.length+ds2.length<=1000000000):
  ∃l w',(Builtin.append_ #[44,44] 44 #[v,u]).run prog wr= .ok l w'/\∃A c,l= .slice A (ds.length+ds2.length) c/\Ak 4 112 Ag w' base l (ds ++ ds2) []/\Below base wr w'/\base<=w'.heap.size:=by
 obtain⟨l,w',y,h,n,-,q,-⟩:=Ak.appendRun (P:=prog) 44 44 (.agg #[(),(),.string ⟨#[]⟩,()]) 40 underlying44 Tryz.infoTk rfl zW Ag.L Ag.X Ag.ones base v ds [] p u ds2 o hr (fun a r e => by
  have:=(p.lt _ e).1;have:=s a r;omega) hn zZ f
 have i:=n.tks;rw[i]at n;obtain⟨A,c,e,-⟩:=n.length;refine⟨l,w',y,A,c,by rw[e,aU],n,Below.grown (aC _ _) q f (fun k x =>(p.lt k x).1),aZ f q.size⟩
theorem Lo(p o d A0 A1 A2 c0 c1 c2 f0 f1 f2 w)(h:Ej w p o d A0 A1 A2 c0 c1 c2 f0 f1 f2)(ak:(AY d).length<=1000000):
  Calls prog 41 #[.pointer (some (p,o))] w fun e w' =>∃A c gs,e= .returned (.slice A (AY d).length c)/\rSl 4 Ag w' gs (.slice A (AY d).length c) (AY d)/\Below w w w':=by
 obtain⟨HH,ao,ap⟩:=zI h (show∀a,a∈f0->a.block<w.heap.size from rSl.there (Ai.X Ag.X) h.r0) (show∀a,a∈f1->a.block<w.heap.size from rSl.there Ag.X h.r1);have z:(AY d).length =d.queues.flatten.length+d.aside.length:=by unfold AY;rw[aU]
 have s:=zq z;have af:=zq ak;obtain⟨nQ,aa⟩:∃nQ,d.queues.length=nQ:=zJ;have x:=zq aa;obtain⟨r,u⟩:∃r,w.heap.size=r:=zJ;have HG:=zq u;have ah:Below w w (w.alloc (.cells #[] 112)):=(aC _ _).alloc (aD _) _;have ae:=zq (show Ak 4 112 Ag (w.alloc (.cells #[] 112)) r (.slice (some (zE r)) 0 0) [] []from Ak.start ⟨rfl,.inr ⟨r,0,#[],rfl,aD _,by rw[<-u];exact Blk.new w _ _,aD _,by unfold maxLen;omega,rfl,rfl⟩⟩);have ac:=zq ah;have hz:=h.lt;have p0:=h.k0;rw[aa]at p0;have ay:=zq p0;clear h z ak aa ah;go_enter func41,ntmps41
 go_wp2_with fail
 try rw[u]
 try rw[u]at hz
 clear u p0;go_loopw [4,3] (fun ix ov wr =>∃(i n c':Nat) (A':Option Addr),i<=nQ/\ix=i/\ov= .slice A' n c'/\Hid (n=(d.queues.take i).flatten.length)/\Hid (Ak 4 112 Ag wr r (.slice A' n c') (d.queues.take i).flatten [])/\Hid (Below r w wr)/\Hid (r<=wr.heap.size)) (fun ix _ _ => nQ - (intOf ix).toNat)
 ·exact⟨0,0,0,some (zE r),by omega,rfl,rfl,rfl,ae.o,(show Below r w _ from by rw[<-HG.o];exact ac.o),(show r<=_ from by rw[<-HG.o];exact ac.o.size)⟩
 ·clear ae;obtain⟨i,n,c',A',hi,rfl,rfl,HN,HO,HB,ag⟩:=hrel;have al:=zq (show Below w w wr by rw[HG.o];exact HB.o);have HW:=zq (HH.o.B al.o);have p0:=HW.o.k0;rw[x.o]at p0;have p1:=HW.o.k1;have a2:=HW.o.lt;by_cases au:i<nQ
  ·have hk:i<d.queues.length:=by rw[x.o];exact au
   obtain⟨Ax,cx,ev,hc,hm,hx⟩:=rSl.at_ (Ai.X Ag.X) zW HW.o.r0;injection ev with aq _ ar
   subst aq ar;rw[x.o]at hc;obtain⟨ad,b,oo,cs,fk,rfl,l⟩:=hx i hk;have aw:=l.place;have az:=l.lt;obtain⟨ve,ax,ab⟩:=l.reads;subst ax;obtain⟨Ae,ce,rfl,av,a1⟩:=rSl.head ab;have ai:=l.cell 0 zX;simp only[bC,aW]at ai;rw[Nat.mul_one]at aw;have a0:(i:Int)<(nQ:Int):=by omega
   have hf:∀a,a∈fk->a.block<r:=fun a ha => by rw[<-HG.o];exact ao.o a (l.sub a ha)
   have y:=zq (show(d.queues.take (i+1)).flatten =(d.queues.take i).flatten ++ d.queues[i] by rw[aK hk,List.flatten_append];simp);have aj:(d.queues.take i).flatten.length +d.queues[i].length<=1000000000:=by
    have h1:(d.queues.take (i+1)).flatten.length +(d.queues.drop (i+1)).flatten.length =d.queues.flatten.length:=by rw[<-aU,<-List.flatten_append,List.take_append_drop]
    rw[y.o,aU]at h1;have:=af.o;have:=s.o;omega
   have f:=zq (LB HO.o ag.o ab hf aj);obtain⟨q,hq⟩:∃q,d.queues[i] =q:=zJ;rw[hq]at f y ai av;rw[<-HN.o]at f;have am:=zq (show n+q.length=(d.queues.take (i+1)).flatten.length by rw[y.o,aU,HN.o]);clear l hx ab hf aj hk hq HO p1;go_wp2_with (at_builtin;refine An rfl (.tmp 15) (.tmp 22) 44 rfl _ _ zT zT f.o ?_;rintro v9 w9 ⟨A9,c9,rfl,o9,b9,s9⟩;have O9:=zq o9;have B9:=zq b9;have S9:=zq s9;clear o9 b9 s9)
   go_roundw
   ·exact⟨i+1,n+q.length,c9,A9,by omega,by go_num,rfl,am.o,(show Ak _ _ _ _ _ _ _ _ from by rw[y.o];exact O9.o),HB.o.T B9.o,S9.o⟩
   ·simp[intOf];omega
  ·obtain rfl:i=nQ:=by omega
   have e1:(d.queues.take i).flatten =d.queues.flatten:=by rw[bB (by rw[x.o];exact aD _)]
   have f:=zq (LB (ds2:=d.aside) HO.o ag.o HW.o.r1 (fun a ha => by rw[<-HG.o];exact ap.o a ha) (by rw[e1];have:=af.o;have:=s.o;omega));rw[<-HN.o,e1]at f;have an:=zq (show n+d.aside.length=(AY d).length by rw[HN.o,e1,s.o]);clear e1 HO;go_wp2_with (at_builtin;refine An rfl (.tmp 24) (.tmp 28) 44 rfl _ _ zT zT f.o ?_;rintro v9 w9 ⟨A9,c9,rfl,o9,b9,s9⟩;have O9:=zq o9;have B9:=zq b9;clear o9 b9 s9)
   go_ret
   obtain⟨gs,r9,-⟩:=O9.o.reads;rw[an.o]at r9⊢;exact⟨A9,c9,_,rfl,r9,by rw[HG.o];exact HB.o.T B9.o⟩
theorem RZ {α:Type}{f:α->Int}{l:List α}{x:Int}{k}(h:x∉(l.take k).map f)(e:k<l.length)(i:¬f l[k] =x):x∉(l.take (k+1)).map f:=by
 rw[aK e,List.map_append];intro hm;rcases List.mem_append.1 hm with c|c
 ·exact h c
 ·simp at c;exact i c.symm
theorem in_at {α:Type}{f:α->Int}{l:List α}{x:Int}{k:Nat}(c:k<l.length)(e:f l[k] =x):x∈l.map f:=e ▸ List.mem_map_of_mem (aT c)
theorem L4(v ds x f w)(h:rSl 4 Ag w f v ds):
  Calls prog 132 #[v,int i64 x] w (zN (.bool (decide (x∈ds.map AA.id))) w):=by
 obtain⟨A,c,rfl,hc,hm,hx⟩:=rSl.at_ Ag.X zZ h;have HX:=zq hx;obtain⟨r,hr⟩:∃r,decide (x∈ds.map AA.id)=r:=zJ;rw[hr];have z:=zq hr;clear hx h hr;go_enter func132,ntmps132
 go_wp2
 go_loopw [5] (fun i wr =>∃j:Nat,j<=ds.length/\i=j/\Hid (x∉(ds.take j).map AA.id)/\Hid (Below w w wr)) (fun i _ => ds.length - (intOf i).toNat)
 ·exact⟨0,by omega,rfl,(show x∉(ds.take 0).map AA.id by simp),aC _ _⟩
 ·obtain⟨j,hj,rfl,HS,s⟩:=hrel;by_cases p:j<ds.length
  ·obtain⟨ad,b,o,cs,fk,rfl,n⟩:=HX.o j p;have l:=n.B Ag.L s.o;have ac:=n.place;have aa:=l.lt;have p1:wr.cell? ⟨b,o,none⟩=some (int i64 ds[j].id):=by
    have:=l.cell 0 (by rw[l.len];omega);obtain⟨e,-⟩:=l.reads;simpa [e]using this
   have ab:(j:Int)<(ds.length:Int):=by omega
   clear n l;by_cases q:ds[j].id =x
   ·have y:r=true:=by rw[<-z.o];exact aN (in_at p q)
    subst y;have q1:(ds[j].id == x)=true:=ED q;clear q;go_wp2
    go_ret
    exact⟨rfl,s.o⟩
   ·have u:=zq (RZ HS.o p q);have q1:(ds[j].id == x)=false:=Dp q;clear q;go_wp2
    go_roundw
    ·exact⟨j+1,by omega,by go_num,u.o,s.o⟩
    ·simp[intOf];omega
  ·have y:r=false:=by
    have:=HS.o;rw[bB zZ]at this;rw[<-z.o];exact aG this
   subst y;go_wp2
   go_ret
   exact⟨rfl,s.o⟩
def GQ(x:Int):Nat->List AQ->Int
 |_,[] => -1
 |k,a :: r => if a.id=x then(k:Int)else GQ x (k+1) r
theorem QJ(x):∀(k:Nat) (l:List AQ),decide (0<=GQ x k l)=decide (x∈l.map AQ.id)
 |_,[] => by simp[GQ]
 |k,a :: r => by
  unfold GQ;by_cases h:a.id=x
  ·rw[aM h,aN (show(0:Int)<=(k:Int) by omega),aN (by rw[List.map_cons,h];exact List.mem_cons_self ..)]
  ·rw[aJ h,QJ x (k+1) r,List.map_cons];have c:¬x=a.id:=fun e => h e.symm
   rw[Bool.eq_iff_iff];simp only[bG,List.mem_cons];exact⟨fun q => .inr q,fun q => q.resolve_left c⟩
theorem SZ {x}{l:List AQ}{k:Nat}(c:k<l.length):GQ x k (l.drop k)=if l[k].id =x then(k:Int)else GQ x (k+1) (l.drop (k+1)):=by
 rw[List.drop_eq_getElem_cons c,GQ]
theorem Tm(v ds x f w)(h:rSl 4 AB w f v ds):
  Calls prog 133 #[v,int i64 x] w (zN (int i64 (GQ x 0 ds)) w):=by
 obtain⟨A,c,rfl,hc,hm,hx⟩:=rSl.at_ AB.X zZ h;have HX:=zq hx;obtain⟨r,hr⟩:∃r,GQ x 0 ds=r:=zJ;rw[hr];have HR:=zq hr;clear hx h hr;go_enter func133,ntmps133
 go_wp2
 go_loopw [5] (fun i wr =>∃j:Nat,j<=ds.length/\i=j/\Hid (GQ x j (ds.drop j)=r)/\Hid (Below w w wr)) (fun i _ => ds.length - (intOf i).toNat)
 ·exact⟨0,by omega,rfl,HR.o,aC _ _⟩
 ·obtain⟨j,hj,rfl,HS,y⟩:=hrel;by_cases u:j<ds.length
  ·obtain⟨ad,b,o,cs,fk,rfl,n⟩:=HX.o j u;have l:=n.B AB.L y.o;have ac:=n.place;have aa:=l.lt;have p1:wr.cell? ⟨b,o,none⟩=some (int i64 ds[j].id):=by
    have:=l.cell 0 (by rw[l.len];omega);obtain⟨_,_,e,-⟩:=l.reads;simpa [e]using this
   have ab:(j:Int)<(ds.length:Int):=by omega
   have p:=SZ (x:=x) u;rw[HS.o]at p;have s:=zq p;clear n l p;by_cases q:ds[j].id =x
   ·have e1:r=(j:Int):=by have:=s.o;rwa [aM q]at this
    subst e1;have q1:(ds[j].id == x)=true:=ED q;clear q;go_wp2
    go_ret
    exact⟨rfl,y.o⟩
   ·have z:=zq (show GQ x (j+1) (ds.drop (j+1))=r from by have:=s.o;rw[aJ q]at this;exact this.symm);have q1:(ds[j].id == x)=false:=Dp q;clear q;go_wp2
    go_roundw
    ·exact⟨j+1,by omega,by go_num,z.o,y.o⟩
    ·simp[intOf];omega
  ·have e1:r= -1:=by
    have:=HS.o;rw[List.drop_of_length_le zZ]at this;exact this.symm
   subst e1;go_wp2
   go_ret
   exact⟨rfl,y.o⟩
def CQ:Nat->List (List AA)->Nat->Int
 |_,[],_ => -1
 |g,q :: r,k => if k<q.length then(g:Int)else CQ (g+1) r (k - q.length)
theorem Lb:∀(g:Nat) (l:List (List AA)) (m:List AA) (k:Nat) (h:k<(Bw g l ++ m.map fun t =>(t,(-1:Int))).length),((Bw g l ++ m.map fun t =>(t,(-1:Int)))[k]).2=CQ g l k
 |g,[],m,k,h => by simp[Bw,CQ]
 |g,q :: r,m,k,h => by
  unfold CQ;by_cases c:k<q.length
  ·rw[aM c];simp only[Bw,List.append_assoc];rw[List.getElem_append_left (by simpa using c)];simp
  ·rw[aJ c];simp only[Bw,List.append_assoc]at h⊢;rw[List.getElem_append_right zV];have:=Lb (g+1) r m (k - q.length) (by simp at h⊢;omega);simpa using this
theorem Ql {l:List (List AA)}{g k:Nat}(hg:g<l.length):CQ g (l.drop g) k=if k<l[g].length then(g:Int)else CQ (g+1) (l.drop (g+1)) (k - l[g].length):=by
 rw[List.drop_eq_getElem_cons hg,CQ]
theorem PW(p o d A0 A1 A2 c0 c1 c2 f0 f1 f2)(k:Nat)(ak:k<=1000000000)(w)(h:Ej w p o d A0 A1 A2 c0 c1 c2 f0 f1 f2):
  Calls prog 131 #[.pointer (some (p,o)),int i64 (k:Int)] w (zN (int i64 (CQ 0 d.queues k)) w):=by
 have HH:=zq h;obtain⟨x,s⟩:∃x,d.queues.length=x:=zJ;have f:=zq s;obtain⟨r,hr⟩:∃r,CQ 0 d.queues k=r:=zJ;rw[hr];have HR:=zq hr;have p0:=h.k0;rw[s]at p0;have hz:=h.lt;clear h s hr;go_enter func131,ntmps131
 go_wp2_with fail
 clear p0;go_loopw [5,1] (fun ix kv wr =>∃(i m:Nat),i<=x/\m<=k/\ix=i/\kv= int i64 (m:Int)/\Hid (CQ i (d.queues.drop i) m=r)/\Hid (Below w w wr)) (fun ix _ _ => x - (intOf ix).toNat)
 ·exact⟨0,k,by omega,aD _,rfl,rfl,HR.o,aC _ _⟩
 ·obtain⟨i,m,hi,am,rfl,rfl,HS,HB⟩:=hrel;have HW:=zq (HH.o.B HB.o);have p0:=HW.o.k0;rw[f.o]at p0;have ao:=HW.o.lt;by_cases ae:i<x
  ·have hk:i<d.queues.length:=by rw[f.o];exact ae
   obtain⟨Ax,cx,ev,hc,hm,hx⟩:=rSl.at_ (Ai.X Ag.X) zW HW.o.r0;injection ev with ab _ ac
   subst ab ac;rw[f.o]at hc;obtain⟨ad,b,oo,cs,fk,rfl,c⟩:=hx i hk;have ag:=c.place;have aj:=c.lt;obtain⟨ve,ai,z⟩:=c.reads;subst ai;obtain⟨Ae,ce,rfl,af,an⟩:=rSl.head z;have y:=c.cell 0 zX;simp only[bC,aW]at y;rw[Nat.mul_one]at ag;have al:(i:Int)<(x:Int):=by omega
   have u:=Ql (k:=m) hk;rw[HS.o]at u;have n:=zq u;obtain⟨q,hq⟩:∃q,d.queues[i].length =q:=zJ;rw[hq]at n y af;clear c hx z hk hq u;by_cases l:m<q
   ·have ah:(m:Int)<(q:Int):=by omega
    have e1:r=(i:Int):=by have:=n.o;rwa [aM l]at this
    subst e1;go_wp2
    go_ret
    exact⟨rfl,HB.o⟩
   ·have ah:¬(m:Int)<(q:Int):=by omega
    have aa:=zq (show CQ (i+1) (d.queues.drop (i+1)) (m - q)=r from by have:=n.o;rw[aJ l]at this;exact this.symm);have HE:=zq (show(m:Int) - (q:Int)=((m - q:Nat):Int) by omega);go_wp2
    go_roundw
    ·exact⟨i+1,m - q,by omega,by omega,by go_num,by rw[HE.o],aa.o,HB.o⟩
    ·simp[intOf];omega
  ·obtain rfl:i=x:=by omega
   have e1:r= -1:=by
    have:=HS.o;rw[List.drop_of_length_le (by rw[f.o];exact aD _)]at this;exact this.symm
   subst e1;go_wp2
   go_ret
   exact⟨rfl,HB.o⟩
structure TkO (W:World) (p o:Nat) (t:AA):Prop where
 rng:W.rangeAt p o [t.id,t.kind,.string t.name,t.group]
 c0:W.cell? ⟨p,o,none⟩=some (int i64 t.id)
 c1:W.cell? ⟨p,o+1,none⟩=some (int i64 t.kind)
 c2:W.cell? ⟨p,o+2,none⟩=some (.string t.name)
 c3:W.cell? ⟨p,o+3,none⟩=some (int i64 t.group)
 lt:p<W.heap.size
theorem TkO.B {W c p o t}(h:TkO W p o t)(hb:Below W W c):TkO c p o t :=
 ⟨fun j v e =>(hb.cell (p:=⟨p,o+j,none⟩) h.lt).T (h.rng j v e),(hb.cell (p:=⟨p,o,none⟩) h.lt).T h.c0,(hb.cell (p:=⟨p,o+1,none⟩) h.lt).T h.c1,(hb.cell (p:=⟨p,o+2,none⟩) h.lt).T h.c2,(hb.cell (p:=⟨p,o+3,none⟩) h.lt).T h.c3,aH h.lt hb.size⟩
theorem TkO.of {W fs ad j b o cs fk t}(h:At 4 Ag W fs ad j b o cs fk t):TkO W b o t:=by
 have l:=h.len;obtain⟨e,-⟩:=h.reads;have c:=h.cell;subst e;exact⟨fun q v hq => by
  obtain⟨f,i⟩:=List.getElem?_eq_some_iff.1 hq;rw[c q f,i],c 0 zX,c 1 zX,c 2 zX,c 3 zX,h.lt⟩
theorem Gy(d):(Bq d).length =(AY d).length:=by rw[<-Gx,bH]
theorem KT {d}{i:Nat}(h:i<(Bq d).length)(c:i<(AY d).length):((Bq d)[i]).1=(AY d)[i]/\((Bq d)[i]).2=CQ 0 d.queues i:=by
 constructor
 ·have e:i<((Bq d).map Prod.fst).length:=by rw[bH];exact h
  have h4:((Bq d).map Prod.fst)[i] =((Bq d)[i]).1:=bI _;rw[<-h4];congr 1
  exact Gx d
 ·exact Lb 0 d.queues d.aside i h
theorem Nz(d i):((Bq d).take i).map (fun x => x.1.id)=((AY d).take i).map AA.id:=by
 rw[<-Gx,<-List.map_take,List.map_map];rfl
def GU(s:Sh)(d:AP)(i:Nat):Prop:=Fd s d.next ((Bq d).take i) [] =0
def DR(s:Sh)(d:AP)(i:Nat)(t:AA):Int:=Dm s d.next (((AY d).take i).map AA.id) (t,CQ 0 d.queues i)
theorem GU.step {s d i}(h:GU s d i)(hi:i<(AY d).length)(l:DR s d i (AY d)[i] =0):GU s d (i+1):=by
 have c:i<(Bq d).length:=by rw[Gy];exact hi
 obtain⟨e,f⟩:=KT c hi;unfold GU at h⊢;rw[aK c];refine NA h ?_;rw[Nz,List.nil_append,show(Bq d)[i] =((AY d)[i],CQ 0 d.queues i)from Prod.ext e f];exact l
theorem GU.bad {s d i}(h:GU s d i)(hi:i<(AY d).length)(c:DR s d i (AY d)[i]≠0):tkC s d=DR s d i (AY d)[i]:=by
 have f:i<(Bq d).length:=by rw[Gy];exact hi
 obtain⟨l,n⟩:=KT f hi;unfold GU at h;have e:DR s d i (AY d)[i] =Dm s d.next ([] ++((Bq d).take i).map fun x => x.1.id) (Bq d)[i]:=by
  rw[Nz,List.nil_append,show(Bq d)[i] =((AY d)[i],CQ 0 d.queues i)from Prod.ext l n];rfl
 rw[e]at c⊢;have:=Pg (b:=(Bq d).drop (i+1)) h c;rw[<-this];unfold tkC;congr 1
 rw[<-List.drop_eq_getElem_cons f,List.take_append_drop]
theorem GU.all {s d i}(h:GU s d i)(hi:(AY d).length<=i):tkC s d=0:=by
 unfold GU at h;rw[bB (by rw[Gy];exact hi)]at h;exact h
theorem Mt {s d i}{t:AA}(h:Dn s t≠0):DR s d i t=Dn s t:=by unfold DR Dm;rw[aJ h]
theorem Le {s}{d:AP}{i}{t:AA}(h:Dn s t=0)(h1:d.next<=t.id):DR s d i t=3:=by unfold DR Dm;rw[aM h,aM h1]
theorem Pv {s}{d:AP}{i}{t:AA}(h:Dn s t=0)(h1:¬d.next<=t.id)(c:0<=CQ 0 d.queues i)(e:t.group≠CQ 0 d.queues i):DR s d i t=1:=by
 unfold DR Dm;rw[aM h,aJ h1,aM ⟨c,e⟩]
theorem Hd {s}{d:AP}{i:Nat}{t:AA}(h:Dn s t=0)(h1:¬d.next<=t.id)(c:¬(0<=CQ 0 d.queues i/\t.group≠CQ 0 d.queues i)):DR s d i t=if t.id∈((AY d).take i).map AA.id then 7 else 0:=by
 unfold DR Dm;rw[aM h,aJ h1,aJ c]
theorem OK(s:Sh)(aw:shB s=true)(p o d A0 A1 A2 c0 c1 c2 f0 f1 f2 w)(h:Ej w p o d A0 A1 A2 c0 c1 c2 f0 f1 f2)(ax:(AY d).length<=1000000):
  Calls prog 79 #[shV s,.pointer (some (p,o))] w (zN (int i64 (tkC s d)) w):=by
 have hB:Below w w (w.alloc (.cells s 38)):=(aC _ _).alloc (aD _) _;obtain⟨HB,HS,HH,am,a1⟩:=zG hB (Cn.of (Blk.new w 38 s)) (h.B hB) (Lo p o d A0 A1 A2 c0 c1 c2 f0 f1 f2 _ (h.B hB) ax) aw;obtain⟨n,hn⟩:∃n,(AY d).length =n:=zJ;rw[hn]at am ax;have HN:=zq hn;obtain⟨r,hr⟩:∃r,tkC s d=r:=zJ;rw[hr];have HR:=zq hr;have hz:=HH.o.lt;unfold shV;clear h hB aw hn hr;go_enter func79,ntmps79
 go_wp2_with fail
 refine am.o.M ?_;rintro e w1 ⟨A,c,gs,rfl,ra,b1⟩;have RA:=zq ra;obtain⟨Ax,cx,ev,hc,hm,hx⟩:=rSl.at_ Ag.X zW ra;injection ev with a2 a3 a4
 subst a2 a4;clear a3;rw[HN.o]at hc;obtain⟨HX,a0,az,B1⟩:=zH hx (HS.o.B b1) (HH.o.B b1) (HB.o.T (b1.M HB.o.size));clear hx ra b1 am;go_wp2
 go_loopw [6] (fun ix wr =>∃i:Nat,i<=n/\ix=i/\Hid (GU s d i)/\Hid (Below w1 w1 wr)) (fun ix _ => n - (intOf ix).toNat)
 ·exact⟨0,by omega,rfl,(show GU s d 0 from rfl),aC _ _⟩
 ·obtain⟨i,hi,rfl,HT,ab⟩:=hrel;have ae:=zq (B1.o.T (ab.o.M B1.o.size));by_cases a5:i<n
  ·have hk:i<(AY d).length:=by rw[HN.o];exact a5
   obtain⟨ad,b,oo,cs,fk,rfl,ao⟩:=HX.o i hk;have bg:=ao.place;have ai:=ao.B Ag.L ab.o;have T1:=zq (TkO.of ai);have ap:=ai.reads.2.2.2.2.1;have bb:=T1.o.lt;have S1:=zq (a0.o.B ab.o);have D1:=zq (az.o.B ab.o);have bi:=S1.o.lt;have bh:=D1.o.lt;have be:(i:Int)<(n:Int):=by omega
   have a7:(i:Int)<=(n:Int):=by omega
   have a8:(i:Int)<=(c:Int):=by omega
   have bd:i<=c:=by omega
   have l:=zq (fun h0 => HR.o.symm.T (HT.o.bad hk h0));have y:=zq (fun h0 => HT.o.step hk h0);obtain⟨q1,q2,av,-,-⟩:=rSl.split (j:=i) RA.o (by rw[HN.o];omega);have au:=zq (fun(x:Int) (W:World) (hW:Below w1 w1 W) => L4 _ ((AY d).take i) x q1 W (rSl.B Ag.L Ag.X av hW));obtain⟨t,ht⟩:∃t,(AY d)[i] =t:=zJ;rw[ht]at T1 ap l y;have ar:=zq (fun(W:World) => Ku s a1.o t ap W);unfold shV tkV at ar;have ak:=zq (fun(W:World) (hW:Ej W p o d A0 A1 A2 c0 c1 c2 f0 f1 f2) => PW p o d A0 A1 A2 c0 c1 c2 f0 f1 f2 i zZ W hW);have u0:=aB S1.o.c0;have u1:=aB S1.o.c1;have u2:=aB S1.o.c2;have u3:=aB S1.o.c3;have u4:=aB S1.o.c4;have u5:=aB S1.o.c5;have u6:=aB S1.o.c6;have u7:=aB S1.o.c7;have u8:=aB S1.o.c8;have v0:=aB T1.o.c0;have v1:=aB T1.o.c1;have v2:=aB T1.o.c2;have v3:=aB T1.o.c3;clear ao ai hk av ht ap;have ah:=zq (AR (w:=wr) (fun W _ => ar.o W));by_cases q0:Dn s t=0
   case neg =>
    have e1:r=Dn s t:=(l.o (by rw[Mt q0];exact q0)).T (Mt q0);obtain⟨tc,ay⟩:∃tc,Dn s t=tc:=zJ;rw[ay]at ah e1 q0;subst e1;have bf:(r != 0)=true:=Ex q0;clear q0 ay;go_wp2_with fail
    (refine aF zY zY ?_;(repeat go_big_quiet_step (first|exact ah.o _ _));refine aQ ?_)
    rintro _ ⟨⟨dq,osq⟩,rfl⟩;have BQ:=zq (ae.o.T ((aI wr dq osq).M ae.o.size));go_wp2
    go_ret
    exact⟨rfl,BQ.o⟩
   have Q0:=zq q0;rw[q0]at ah;clear q0;go_wp2_with fail
   (refine aF zY zY ?_;(repeat go_big_quiet_step (first|exact ah.o _ _));refine aQ ?_)
   rintro _ ⟨⟨dq,osq⟩,rfl⟩;have b5:=aI wr dq osq;generalize grow (redrawn wr dq) osq=w5 at b5;obtain⟨T5,D5,B5,aj⟩:=zH (T1.o.B b5) (D1.o.B b5) (ab.o.T (b5.M ab.o.size)) (ae.o.T (b5.M ae.o.size));have a6:=T5.o.lt;have ba:=D5.o.lt;clear b5 ah;clear u0 u1 u2 u3 u4 u5 u6 u7 u8;clear v0 v1 v2 v3;have v0:=aB T5.o.c0;have v1:=aB T5.o.c1;have v2:=aB T5.o.c2;have v3:=aB T5.o.c3;have k4:=aB D5.o.k4;by_cases q1:d.next<=t.id
   case pos =>
    have e1:r=3:=(l.o (by rw[Le Q0.o q1];decide)).T (Le Q0.o q1);subst e1;have bc:decide (d.next<=t.id)=true:=aN q1;go_wp2_with fail
    (refine aF zY zY ?_;(repeat go_big_quiet_step (fail));refine aQ ?_)
    rintro _ ⟨⟨dq,osq⟩,rfl⟩;have BQ:=zq (aj.o.T ((aI w5 dq osq).M aj.o.size));go_wp2
    go_ret
    exact⟨rfl,BQ.o⟩
   have Q1:=zq q1;have a9:t.id<d.next:=by omega
   go_wp2_with fail
   (refine aF zY zY ?_;(repeat go_big_quiet_step (fail));refine aQ ?_)
   rintro _ ⟨⟨dq,osq⟩,rfl⟩;have b6:=aI w5 dq osq;generalize grow (redrawn w5 dq) osq=w6 at b6;obtain⟨T6,D6,B6,aa⟩:=zH (T5.o.B b6) (D5.o.B b6) (B5.o.T (b6.M B5.o.size)) (aj.o.T (b6.M aj.o.size));clear b6 k4 q1;clear v0 v1 v2 v3;obtain⟨st,aq⟩:∃st,CQ 0 d.queues i=st:=zJ;rw[aq]at ak;have ac:=zq aq;clear aq;by_cases q2:0<=st
   ·by_cases q3:t.group=st
    ·have g1:(st != t.group)=false:=I0 q3.symm;have QE:=zq (show¬(0<=st/\t.group≠st)from fun h => h.2 q3);clear q3;go_wp2_with (go_at_call 131;refine(ak.o _ D6.o).M ?_;rintro e w7 ⟨rfl,b7⟩;have T7:=zq (T6.o.B b7);have B7:=zq (B6.o.T (b7.M B6.o.size));have u:=zq (aa.o.T (b7.M aa.o.size));have x3:=T7.o.c3;have al:=T7.o.lt;clear b7)
     clear x3;have v0:=aB T7.o.c0;have ag:=zq (fun(W:World) (hW:Below w7 w7 W) => au.o t.id W (B7.o.T (hW.M B7.o.size)));obtain⟨mb,z⟩:∃mb,decide (t.id∈((AY d).take i).map AA.id)=mb:=zJ;rw[z]at ag;have af:=zq z;have QW:=zq (AR (w:=w7) ag.o);clear z;cases mb with
     |true =>
      have f:=bE af.o;have e0:DR s d i t=7:=(Hd Q0.o (by have:=Q1.o;omega) (by rw[ac.o];exact QE.o)).T (aM f);have e1:r=7:=(l.o (by rw[e0];decide)).T e0;subst e1;clear f e0
      (refine aF zY zY ?_;(repeat go_big_quiet_step (first|exact QW.o _ _));refine aQ ?_)
      rintro _ ⟨⟨dq,osq⟩,rfl⟩;have BQ:=zq (u.o.T ((aI w7 dq osq).M u.o.size));go_wp2
      go_ret
      exact⟨rfl,BQ.o⟩
     |false =>
      have f:=of_decide_eq_false af.o;have an:=zq (y.o ((Hd Q0.o (by have:=Q1.o;omega) (by rw[ac.o];exact QE.o)).T (aJ f)));clear f
      (refine aF zY zY ?_;(repeat go_big_quiet_step (first|exact QW.o _ _));refine aQ ?_)
      rintro _ ⟨⟨dq,osq⟩,rfl⟩;have BQ:=zq (B7.o.T ((aI w7 dq osq).M B7.o.size));go_wp2
      go_roundw
      ·exact⟨i+1,by omega,by go_num,an.o,BQ.o⟩
      ·simp[intOf];omega
    ·have g1:(st != t.group)=true:=Ex (fun e => q3 e.symm);have e0:DR s d i t=1:=Pv Q0.o (by have:=Q1.o;omega) (by rw[ac.o];exact q2) (by rw[ac.o];exact q3);have e1:r=1:=(l.o (by rw[e0];decide)).T e0;subst e1;clear q3 e0;go_wp2_with (go_at_call 131;refine(ak.o _ D6.o).M ?_;rintro e w7 ⟨rfl,b7⟩;have T7:=zq (T6.o.B b7);have B7:=zq (B6.o.T (b7.M B6.o.size));have u:=zq (aa.o.T (b7.M aa.o.size));have x3:=T7.o.c3;have al:=T7.o.lt;clear b7)
     go_ret
     exact⟨rfl,u.o⟩
   ·have bj:st<0:=by omega
    have QE:=zq (show¬(0<=st/\t.group≠st)from fun h => q2 h.1);clear q2;go_wp2_with (go_at_call 131;refine(ak.o _ D6.o).M ?_;rintro e w7 ⟨rfl,b7⟩;have T7:=zq (T6.o.B b7);have B7:=zq (B6.o.T (b7.M B6.o.size));have u:=zq (aa.o.T (b7.M aa.o.size));have x3:=T7.o.c3;have al:=T7.o.lt;clear b7)
    clear x3;have v0:=aB T7.o.c0;have ag:=zq (fun(W:World) (hW:Below w7 w7 W) => au.o t.id W (B7.o.T (hW.M B7.o.size)));obtain⟨mb,z⟩:∃mb,decide (t.id∈((AY d).take i).map AA.id)=mb:=zJ;rw[z]at ag;have af:=zq z;have QW:=zq (AR (w:=w7) ag.o);clear z;cases mb with
    |true =>
     have f:=bE af.o;have e0:DR s d i t=7:=(Hd Q0.o (by have:=Q1.o;omega) (by rw[ac.o];exact QE.o)).T (aM f);have e1:r=7:=(l.o (by rw[e0];decide)).T e0;subst e1;clear f e0
     (refine aF zY zY ?_;(repeat go_big_quiet_step (first|exact QW.o _ _));refine aQ ?_)
     rintro _ ⟨⟨dq,osq⟩,rfl⟩;have BQ:=zq (u.o.T ((aI w7 dq osq).M u.o.size));go_wp2
     go_ret
     exact⟨rfl,BQ.o⟩
    |false =>
     have f:=of_decide_eq_false af.o;have an:=zq (y.o ((Hd Q0.o (by have:=Q1.o;omega) (by rw[ac.o];exact QE.o)).T (aJ f)));clear f
     (refine aF zY zY ?_;(repeat go_big_quiet_step (first|exact QW.o _ _));refine aQ ?_)
     rintro _ ⟨⟨dq,osq⟩,rfl⟩;have BQ:=zq (B7.o.T ((aI w7 dq osq).M B7.o.size));go_wp2
     go_roundw
     ·exact⟨i+1,by omega,by go_num,an.o,BQ.o⟩
     ·simp[intOf];omega
  ·obtain rfl:i=n:=by omega
   have e1:r=0:=HR.o.symm.T (HT.o.all (by rw[HN.o];exact aD _));subst e1;go_wp2
   go_ret
   exact⟨rfl,ae.o⟩
theorem Below.viaQ {a W c:World}(h:Below a a W)(b:Below W W c):Below a a c:=h.T (b.M h.size)
theorem growTk_c(n:Nat)(hn:n<=1000000)(w:World):
  Calls prog 157 #[zQ,int i64 (n:Int)] w fun e w' =>∃A c,e= .returned (.slice A 0 c)/\Ak 4 112 Ag w' w (.slice A 0 c) [] []/\Below w w w':=by
 by_cases h0:n=0
 ·subst h0;go_enter func157,ntmps157
  go_wp2
  go_ret
  exact⟨none,0,rfl,Ak.start ⟨rfl,.inl ⟨rfl,rfl⟩⟩,aC _ _⟩
 ·have u:0<n:=by omega
  have z:(0:Int)<(n:Int):=by omega
  obtain⟨ti,s,x,aa,p⟩:=info_parts Tryz.infoTk;have i:∀ty,(Builtin.append_ #[44,3] ty #[zQ,int i64 (n:Int)]).run prog w=_:=fun ty =>
   Lib.run_append_grow_zeros w 44 3 ty 112 ti _ .i64 .i64 underlying44 underlying3 s x none 0 0 [] (run_firstCells_none _ _ _ _ _) n u zZ zZ zZ (by rw[p];omega) (growslice_fits zZ (by rw[p];omega))
  simp only[Nat.zero_add]at i;have hG:=grownCap_ge w n 0 112;have l:=grownCap_le_maxLen w n 0 112 (by unfold maxLen;omega);obtain⟨G,q⟩:∃G,grownCap w n 0 112=G:=zJ;rw[q]at i hG l;have ab:(G:Int)<=9223372036854775807:=by unfold maxLen at l;omega
  obtain⟨f,h⟩:∃f,((([]:List Value)).toArray ++ Builtin.zeroCells (Value.agg #[(),(),.string ⟨#[]⟩,()]).cells n ++ Builtin.zeroCells (Value.agg #[(),(),.string ⟨#[]⟩,()]).cells (G - n))=f:=zJ;rw[h]at i;have r:f.size=G * 4:=by
   rw[<-h];simp[Builtin.zeroCells];show n * 4+(G - n) * 4=G * 4
   omega
  have y:=zq r;clear h r q s x aa p;go_enter func157,ntmps157
  go_wp2_with (at_builtin;refine Lib.wpList_append_run _ rfl _ _ _ _ rfl _ _ rfl rfl _ _ (i _) ?_)
  all_goals
   go_ret
   have hb:Below w w (w.drew.alloc (.cells f 112)):=Ac (Am (aC _ _)) _;exact⟨some (zE w),G,rfl,Ak.start ⟨rfl,.inr ⟨w.heap.size,G,f,rfl,aD _,Blk.new w.drew _ _,Nat.zero_le _,l,y.o,by simp⟩⟩,hb⟩
theorem Rm(A0 c0 u)(qs:List (List AA))(f0)(w:World)(h:rSl 1 (Ai 4 Ag) w f0 (.slice A0 u c0) qs)(ap:qs.flatten.length<=1000000):
  Calls prog 102 #[.slice A0 u c0] w fun e w' =>∃A c,e= .returned (.slice A qs.flatten.length c)/\Ak 4 112 Ag w' w (.slice A qs.flatten.length c) qs.flatten []/\Below w w w':=by
 have HH:=zq h;have au:=zq (show∀a,a∈f0->a.block<w.heap.size from rSl.there (Ai.X Ag.X) h);obtain⟨Ax,cx,ev,hc,hm,hx⟩:=rSl.at_ (Ai.X Ag.X) zW h;injection ev with av af aw
 subst av aw;have z:=zq af.symm;rw[<-af]at hc;clear af;obtain⟨N,hN⟩:∃N,qs.flatten.length=N:=zJ;rw[hN]at ap⊢;have HN:=zq hN;obtain⟨g0,an⟩:∃g0,w.heap.size=g0:=zJ;have HG:=zq an;have ac:=zq (show∀i,i<qs.length->(qs.take (i+1)).flatten.length<=N from fun i hi => by
  have h1:(qs.take (i+1)).flatten.length +(qs.drop (i+1)).flatten.length =qs.flatten.length:=by rw[<-aU,<-List.flatten_append,List.take_append_drop]
  omega)
 have HX:=zq hx;clear h hx hN an;go_enter func102,ntmps102
 go_wp2
 go_loopw [11,3,5] (fun ix sv tv wr =>∃(i n:Nat),i<=u/\n<=N/\ix=i/\sv= int i64 (n:Int)/\Hid (n=(qs.take i).flatten.length)/\Hid (Below w w wr)) (fun ix _ _ _ => u - (intOf ix).toNat)
 ·exact⟨0,0,by omega,by omega,rfl,rfl,rfl,aC _ _⟩
 ·obtain⟨i,n,hi,az,rfl,rfl,HS,HB⟩:=hrel;by_cases ag:i<u
  ·have hk:i<qs.length:=by rw[z.o];exact ag
   obtain⟨ad,b,oo,cs,fk,rfl,l⟩:=HX.o i hk;have f:=l.B (Ai.L Ag.L) HB.o;have ai:=f.place;have ax:=f.lt;obtain⟨ve,aj,s⟩:=f.reads;subst aj;obtain⟨Ae,ce,rfl,aa,ah⟩:=rSl.head s;have x:=f.cell 0 zX;simp only[bC,aW]at x;rw[Nat.mul_one]at ai;have ay:(i:Int)<(u:Int):=by omega
   have ab:(qs.take (i+1)).flatten.length =(qs.take i).flatten.length +qs[i].length:=by rw[aK hk,List.flatten_append];simp
   have r:=ac.o i hk;rw[ab,<-HS.o]at r;rw[<-HS.o]at ab;have p:=zq ab;obtain⟨q,hq⟩:∃q,qs[i].length =q:=zJ;rw[hq]at x p r;have a0:¬((n:Int)+(q:Int)<0):=by omega
   clear f l s hk hq ab aa ah;go_wp2
   go_roundw
   ·exact⟨i+1,n+q,by omega,r,by go_num,by simp,p.o.symm,HB.o⟩
   ·simp[intOf];omega
  ·obtain rfl:u=i:=by omega
   have ao:n=N:=by rw[HS.o,bB (by rw[z.o];exact aD _),HN.o]
   obtain rfl:=ao;have am:=zq (fun(W:World) => growTk_c n ap W);go_wp2_with fail
   refine(am.o _).M ?_;rintro e w2 ⟨A2,c2,rfl,o2,b2⟩;have O2:=zq (show Ak 4 112 Ag w2 g0 (.slice A2 0 c2) [] []from o2.M (by rw[<-HG.o];exact HB.o.size));have B2:=zq (show Below g0 w w2 by rw[<-HG.o];exact HB.o.T (b2.M HB.o.size));clear o2 b2 am HS;go_wp2
   go_loopw [27,6,8] (fun ix ov tv wr =>∃(i n' c':Nat) (A':Option Addr),i<=u/\ix=i/\ov= .slice A' n' c'/\Hid (n'=(qs.take i).flatten.length)/\Hid (Ak 4 112 Ag wr g0 (.slice A' n' c') (qs.take i).flatten [])/\Hid (Below g0 w wr)/\Hid (g0<=wr.heap.size)) (fun ix _ _ _ => u - (intOf ix).toNat)
   ·exact⟨0,0,c2,A2,by omega,rfl,rfl,rfl,O2.o,B2.o,(show g0<=_ from by rw[<-HG.o];have:=B2.o.size;omega)⟩
   ·clear O2 B2;obtain⟨i,n',c',A',hi,rfl,rfl,y,HO,ak,ar⟩:=hrel;have al:=zq (show Below w w wr by rw[HG.o];exact ak.o);by_cases ag:i<u
    ·have hk:i<qs.length:=by rw[z.o];exact ag
     obtain⟨ad,b,oo,cs,fk,rfl,l⟩:=HX.o i hk;have f:=l.B (Ai.L Ag.L) al.o;have ai:=f.place;have ax:=f.lt;obtain⟨ve,aj,s⟩:=f.reads;subst aj;obtain⟨Ae,ce,rfl,aa,ah⟩:=rSl.head s;have x:=f.cell 0 zX;simp only[bC,aW]at x;rw[Nat.mul_one]at ai;have ay:(i:Int)<(u:Int):=by omega
     have p:=zq (show(qs.take (i+1)).flatten =(qs.take i).flatten ++ qs[i] by rw[aK hk,List.flatten_append];simp);have r:=ac.o i hk;rw[p.o,aU]at r;have hf:∀a,a∈fk->a.block<g0:=fun a ha => by rw[<-HG.o];exact au.o a (f.sub a ha)
     have ae:=zq (LB HO.o ar.o s hf zZ);obtain⟨q,hq⟩:∃q,qs[i] =q:=zJ;rw[hq]at ae p x aa;rw[<-y.o]at ae;have aq:=zq (show n'+q.length=(qs.take (i+1)).flatten.length by rw[p.o,aU,y.o]);clear f l s hf r hk hq HO aa ah;go_wp2_with (at_builtin;refine An rfl (.tmp 31) (.tmp 32) 44 rfl _ _ zT zT ae.o ?_;rintro v9 w9 ⟨A9,c9,rfl,o9,b9,s9⟩;have O9:=zq o9;have B9:=zq b9;have S9:=zq s9;clear o9 b9 s9)
     go_roundw
     ·exact⟨i+1,n'+q.length,c9,A9,by omega,by go_num,rfl,aq.o,(show Ak _ _ _ _ _ _ _ _ from by rw[p.o];exact O9.o),ak.o.T B9.o,S9.o⟩
     ·simp[intOf];omega
    ·obtain rfl:u=i:=by omega
     have e1:(qs.take u).flatten =qs.flatten:=by rw[bB (by rw[z.o];exact aD _)]
     rw[e1]at HO y;have e2:n'=n:=by rw[y.o,HN.o]
     obtain rfl:=e2;clear e1;go_wp2
     go_ret
     exact⟨A',c',rfl,by rw[HG.o];exact HO.o,al.o⟩
theorem yQ{p:Prop}(h:p:=by repeat(with_reducible first|assumption|exact aC _ _|apply Ac|apply Am)):p:=h
theorem NJ(p o d A0 A1 A2 c0 c1 c2 f0 f1 f2 w)(h:Ej w p o d A0 A1 A2 c0 c1 c2 f0 f1 f2)(ac:(AY d).length<=1000000):
  Calls prog 56 #[.pointer (some (p,o))] w fun e w' =>∃A c x,e= .returned (.slice A (AY d).length c)/\rSl 4 Ag w' x (.slice A (AY d).length c) (AY d)/\(∀a,a∈x->w.heap.size<=a.block)/\Below w w w':=by
 have HH:=zq h;have f:(AY d).length =d.queues.flatten.length+d.aside.length:=by unfold AY;rw[aU]
 have ab:=zq (show∀a,a∈f1->a.block<w.heap.size from rSl.there Ag.X h.r1);have y:=zq (fun(W:World) (i:Below w w W) => Rm A0 c0 d.queues.length d.queues f0 W (h.B i).r0 zZ);have r:=zq (show∀(W q w3:World) (v:Value),Below w w W->Ak 4 112 Ag q W v d.queues.flatten []->Below W W q->Below q q w3->
   ∃v' w',(Builtin.append_ #[44,44] 44 #[v,.slice A1 d.aside.length c1]).run prog w3= .ok v' w'/\∃A c x,v'= .slice A (AY d).length c/\rSl 4 Ag w' x (.slice A (AY d).length c) (AY d)/\(∀a,a∈x->w.heap.size<=a.block)/\Below w w w' from fun W q w3 v i ho h2 h3 => by
  have aa:=i.T ((h2.T (h3.M h2.size)).M i.size);obtain⟨v',w',q1,A,c,rfl,o9,b9,-⟩:=LB (ds2:=d.aside) (ho.B Ag.L Ag.X h3) (aZ h2.size h3.size) (h.B aa).r1 (fun a ha => aH (ab.o a ha) i.size) zZ;obtain⟨x,r9,-,-,-,g9,-⟩:=o9.reads;rw[<-f]at r9 q1;exact⟨_,w',q1,A,c,_,rfl,r9,(fun a ha => aZ i.size (g9 a (by simpa using ha))),aa.T (b9.M i.size)⟩)
 have n:=zq f;obtain⟨nQ,u⟩:∃nQ,d.queues.length=nQ:=zJ;obtain⟨nS,l⟩:∃nS,d.aside.length=nS:=zJ;obtain⟨nF,s⟩:∃nF,d.queues.flatten.length=nF:=zJ;rw[u,s]at y;rw[l]at r;rw[s,l]at n;obtain⟨N,hN⟩:∃N,(AY d).length =N:=zJ;rw[hN]at r⊢;have z:=zq (fun(W:World) (i:Below w w W) => show W.cell? ⟨p,o,none⟩=some (.slice A0 nQ c0)/\W.cell? ⟨p,o+1,none⟩=some (.slice A1 nS c1)/\p<W.heap.size from by
  have H:=h.B i;have h0:=H.k0;have h1:=H.k1;rw[u]at h0;rw[l]at h1;exact⟨h0,h1,H.lt⟩)
 obtain⟨k0,k1,lp⟩:=z.o w (aC _ _);clear h f u l s ac hN n;go_enter func56,ntmps56
 go_wp2_with fail
 go_region_law (first
  |(refine AZ rfl (.tmp 7) (.tmp 11) 44 rfl _ _ zT zT (r.o _ q _ _ yQ o2 b2 yQ) ?_;rintro v9 w9 ⟨A9,c9,g9,rfl,r9,m9,b9⟩)
  |(go_simp;go_at_call 102;refine(y.o _ yQ).M ?_;rintro e q ⟨ad,ae,rfl,o2,b2⟩;dsimp only;have B2:=Below.viaQ (a:=w) yQ b2;obtain⟨af,ag,ah⟩:=z.o q B2))
 all_goals
  obtain⟨R9,B9,M9⟩:=zI r9 b9 m9;clear r9 b9 m9;go_wp2
  go_ret
  exact⟨A9,c9,g9,rfl,R9.o,M9.o,B9.o⟩
theorem Ak.nums {E:TypeId}{w base v ds fs}(h:Ak 1 E Aw w base v ds fs):fs= []:=by
 obtain⟨c,e,p,q,rfl,h4,f,r⟩:=h;refine List.flatten_eq_nil_iff.2 fun l n => ?_
 obtain⟨i,s,rfl⟩:=aY n;obtain⟨_,_,_,o⟩:=f i zZ;exact o.1
theorem Tryz.infoNum:(prog.info? 2).map (fun i =>(i.zero,i.size,i.bytes))=some (some (int i64 0),1,8):=by kernel_rfl
theorem IT {W base b v ds x}(s:Ak 1 2 Aw W base v ds [])(z:okI x)(hn:ds.length+1<=1000000000)(f:base<=W.heap.size)(n:Blk W b 2 #[int i64 x]):
  ∃l w',(Builtin.append_ #[25,25] 25 #[v,.slice (some (zE b)) 1 1]).run prog W= .ok l w'/\∃A c,l= .slice A (ds.length+1) c/\Ak 1 2 Aw w' base l (ds ++ [x]) []/\Below base W w'/\W.heap.size<=w'.heap.size/\(∀k,k<W.heap.size->v.ownBlock≠some k->w'.heap[k]? =W.heap[k]?)/\(∀k,l.ownBlock=some k->v.ownBlock=some k∨W.heap.size<=k):=by
 obtain⟨l,w',q1,h,o,q3,r,q5⟩:=Ak.appendOne (P:=prog) 25 25 (int i64 0) 8 underlying25 Tryz.infoNum rfl zW Aw.L Aw.X Pb base v ds [] s b [int i64 x] [] x rfl n ⟨rfl,rfl,z⟩ (fun a y => by cases y) hn zZ f;have u:=o.nums;rw[u]at o;obtain⟨A,c,e,-⟩:=o.length;refine⟨l,w',q1,A,c,by rw[e];simp,o,Below.grown (aC _ _) r f (fun k i =>(s.lt k i).1),r.size,fun k i p => r.block k i (fun e => p e.symm),fun k i => ?_⟩;rcases q5 with q|q
 ·exact .inl (q.symm.T i)
 ·rw[q]at i;injection i with i
  exact .inr (i ▸ aD _)
structure Gh (W:World) (B pi:Nat) (ids:List Int) (A:Option Addr) (n c:Nat):Prop where
 cell:W.cell? ⟨pi,0,none⟩=some (.slice A n c)
 free:W.frozen? ⟨pi,0,none⟩=false
 lt:pi<W.heap.size
 ge:B<=pi
 own:Ak 1 2 Aw W B (.slice A n c) ids []
 apart:(Value.slice A n c).ownBlock≠some pi
theorem Gh.B {W f B e ids A n c}(h:Gh W B e ids A n c)(hb:Below W W f):Gh f B e ids A n c :=
 ⟨(hb.cell (p:=⟨e,0,none⟩) h.lt).T h.cell,(hb.frozen (p:=⟨e,0,none⟩) h.lt).T h.free,aH h.lt hb.size,h.ge,h.own.B Aw.L Aw.X hb,h.apart⟩
theorem Gh.len {W B i ids A n c}(h:Gh W B i ids A n c):n=ids.length/\n<=c/\c<=9223372036854775807:=by
 obtain⟨l,o,e,q,r⟩:=h.own.length;injection e with _ f p
 exact⟨f,by omega,by omega⟩
theorem Qu {w B f ids A n c x}(h:Gh w B f ids A n c)(hx:okI x)(hn:ids.length+1<=1000000000):
  ∃u w',(Builtin.append_ #[25,25] 25 #[.slice A n c,.slice (some (zE w)) 1 1]).run prog (w.alloc (.cells #[int i64 x] 2))= .ok u w'/\∃l s o,u= .slice l s o/\Below B w w'/\w.heap.size<=w'.heap.size/\w'.cell? ⟨f,0,none⟩=some (.slice A n c)/\w'.frozen? ⟨f,0,none⟩=false/\f<w'.heap.size/\Gh (w'.setCell (zE f) (.slice l s o)) B f (ids ++ [x]) l s o:=by
 have hb:Below w w (w.alloc (.cells #[int i64 x] 2)):=Ac (aC _ _) _;have i:=h.B hb;have hB:B<=w.heap.size:=aZ h.ge (Nat.le_of_lt h.lt);obtain⟨u,w',q1,l,o,rfl,o9,b9,s9,k9,j9⟩:=IT i.own hx hn (aZ i.ge (Nat.le_of_lt i.lt)) (Blk.new w _ _);have hp:=k9 f i.lt i.apart;have y:=(World.cell?_of_block (a:=⟨f,0,none⟩) hp).T i.cell;have z:=(World.frozen?_of_block (a:=⟨f,0,none⟩) hp).T i.free;have hl:f<w'.heap.size:=aH i.lt s9;have p:(Value.slice l (ids.length+1) o).ownBlock≠some f:=fun e => by
  rcases j9 f e with q|q
  ·exact i.apart q
  ·have:=i.lt;omega
 refine⟨_,w',q1,l,_,o,rfl,(hb.M hB).T b9,aZ hb.size s9,y,z,hl,⟨?_,?_,?_,h.ge,?_,p⟩⟩
 ·exact World.cell?_setCell_same _ _ _ y
 ·rw[World.frozen?_setCell];exact z
 ·simpa [World.setCell]using hl
 ·exact o9.keep Aw.L (fun b r => Below.heap_setCell _ _ _ _ (fun e => p (by rw[r];exact congrArg some e))) (fun a ha => by cases ha)
theorem look_c(s:Sh)(an:shB s=true)(t:AA)(af:okI t.id)(am:t.name.size<=9223372036854775807)(q next)(ps pd pi B:Nat)(ids A n c w)(hS:Cn w ps s)(hD:w.cell? ⟨pd,4,none⟩=some (int i64 next))(hN:Gh w B pi ids A n c)(ao:ids.length<=1000000):
  Calls prog 155 #[tkV t,int i64 q,.pointer (some (zE ps)),.pointer (some (zE pd)),.pointer (some (zE pi))] w fun e w' => e= .returned (int i64 (Dm s next ids (t,q)))/\Below B w w'/\w.heap.size<=w'.heap.size/\(Dm s next ids (t,q)=0->∃A' n' c',Gh w' B pi (ids ++ [t.id]) A' n' c'):=by
 have ak:=hN.len;have aj:B<=w.heap.size:=aZ hN.ge (Nat.le_of_lt hN.lt);have hB:Below w w (w.alloc (.cells #[t.id,t.kind,.string t.name,t.group] 112)):=(aC _ _).alloc (aD _) _;obtain⟨HB,aa,T1,S1⟩:=zH hB aj (JJ.of (Blk.new w 112 #[t.id,t.kind,.string t.name,t.group])) (hS.B hB);have ae:pd<w.heap.size:=World.block_lt_of_cell? _ _ hD;obtain⟨D1,av,N1,ab,ac,y⟩:=zF ((hB.cell (p:=⟨pd,4,none⟩) ae).T hD) ae (hN.B hB) S1.o.rng T1.o.rng (fun(W:World) => Kt s an t am W);have ad:=zq (fun(W:World) (hW:Gh W B pi ids A n c) => show Calls prog 148 #[.slice A n c,t.id] W fun e w' => e= .returned (.bool (decide (t.id∈ids)))/\Below W W w' from by
  obtain⟨gs,hr,-⟩:=hW.own.reads;exact Fi _ ids t.id _ W hr)
 have ah:=zq af;have ai:=zq ao;have z1:=S1.o.lt;have z2:=T1.o.lt;have z3:pd<(w.alloc (.cells #[t.id,t.kind,.string t.name,t.group] 112)).heap.size:=aH ae hB.size;obtain⟨al,aw,ax⟩:=ak;have au:=zq al;obtain⟨r,hr⟩:∃r,Dm s next ids (t,q)=r:=zJ;rw[hr];unfold Dm at hr;dsimp only at hr;have HR:=zq hr;unfold tkV shV at y;unfold tkV;clear hB hS hD hN an am af ao hr ae aj al;obtain⟨tc,ap⟩:∃tc,Dn s t=tc:=zJ;rw[ap]at y HR;clear ap;by_cases q0:tc=0
 case neg =>
  have e1:r=tc:=by rw[<-HR.o,aJ q0]
  have aq:=zq q0;have hb:=Ex q0;subst e1;clear q0;go_enter func155,ntmps155
  go_wp2_with (first
   |(refine aE rfl 38 _ rfl ps 0 rfl _ _ ab.o underlying38 rfl zY ?_)
   |(refine aE rfl 112 _ rfl w 0 rfl _ _ ac.o underlying112 rfl zY ?_)
   |(go_at_call 156;refine(y.o _).M ?_;rintro e w3 ⟨rfl,f⟩;have i:=zq (T1.o.B f);have x:=zq (HB.o.T (f.M HB.o.size));have l:=zq (N1.o.B f);have x0:=i.o.c0;have x3:=i.o.c3;have d4:=(f.cell (p:=⟨pd,4,none⟩) z3).T D1.o;have y2:=i.o.lt;have y3:=aH z3 f.size;have n0:=l.o.cell;have y4:=l.o.lt;clear f))
  go_ret
  exact⟨rfl,x.o.M aa.o,x.o.size,fun h => absurd h aq.o⟩
 subst q0;rw[aM rfl]at HR;by_cases q1:next<=t.id
 ·have e1:r=3:=by rw[<-HR.o,aM q1]
  subst e1;go_enter func155,ntmps155
  go_wp2_with (first
   |(refine aE rfl 38 _ rfl ps 0 rfl _ _ ab.o underlying38 rfl zY ?_)
   |(refine aE rfl 112 _ rfl w 0 rfl _ _ ac.o underlying112 rfl zY ?_)
   |(go_at_call 156;refine(y.o _).M ?_;rintro e w3 ⟨rfl,f⟩;have i:=zq (T1.o.B f);have x:=zq (HB.o.T (f.M HB.o.size));have l:=zq (N1.o.B f);have x0:=i.o.c0;have x3:=i.o.c3;have d4:=(f.cell (p:=⟨pd,4,none⟩) z3).T D1.o;have y2:=i.o.lt;have y3:=aH z3 f.size;have n0:=l.o.cell;have y4:=l.o.lt;clear f))
  go_ret
  exact⟨rfl,x.o.M aa.o,x.o.size,fun h => absurd h zW⟩
 rw[aJ q1]at HR;have ay:t.id<next:=by omega
 clear q1;by_cases q2:0<=q/\t.group≠q
 ·have e1:r=1:=by rw[<-HR.o,aM q2]
  subst e1;have az:=q2.1;have a0:=Ex q2.2;clear q2;go_enter func155,ntmps155
  go_wp2_with (first
   |(refine aE rfl 38 _ rfl ps 0 rfl _ _ ab.o underlying38 rfl zY ?_)
   |(refine aE rfl 112 _ rfl w 0 rfl _ _ ac.o underlying112 rfl zY ?_)
   |(go_at_call 156;refine(y.o _).M ?_;rintro e w3 ⟨rfl,f⟩;have i:=zq (T1.o.B f);have x:=zq (HB.o.T (f.M HB.o.size));have l:=zq (N1.o.B f);have x0:=i.o.c0;have x3:=i.o.c3;have d4:=(f.cell (p:=⟨pd,4,none⟩) z3).T D1.o;have y2:=i.o.lt;have y3:=aH z3 f.size;have n0:=l.o.cell;have y4:=l.o.lt;clear f))
  go_ret
  exact⟨rfl,x.o.M aa.o,x.o.size,fun h => absurd h zW⟩
 rw[aJ q2]at HR;by_cases q3:0<=q
 ·have q4:t.group=q:=by
   by_cases h:t.group=q
   ·exact h
   ·exact absurd ⟨q3,h⟩ q2
  have a2:=I0 q4;clear q2 q4;obtain⟨mb,u⟩:∃mb,decide (t.id∈ids)=mb:=zJ;rw[u]at ad;cases mb with
  |true =>
   have e1:r=7:=by rw[<-HR.o,aM (bE u)]
   subst e1;clear u;go_enter func155,ntmps155
   go_wp2_with (first
    |(refine aE rfl 38 _ rfl ps 0 rfl _ _ ab.o underlying38 rfl zY ?_)
    |(refine aE rfl 112 _ rfl w 0 rfl _ _ ac.o underlying112 rfl zY ?_)
    |(go_at_call 156;refine(y.o _).M ?_;rintro e w3 ⟨rfl,f⟩;have i:=zq (T1.o.B f);have x:=zq (HB.o.T (f.M HB.o.size));have l:=zq (N1.o.B f);have x0:=i.o.c0;have x3:=i.o.c3;have d4:=(f.cell (p:=⟨pd,4,none⟩) z3).T D1.o;have y2:=i.o.lt;have y3:=aH z3 f.size;have n0:=l.o.cell;have y4:=l.o.lt;clear f)
    |(go_at_call 148;refine(ad.o _ l.o).M ?_;rintro e w4 ⟨rfl,b4⟩;have B4:=zq (x.o.T (b4.M x.o.size));have z:=zq (l.o.B b4);have T4:=zq (i.o.B b4);have u0:=T4.o.c0;have m0:=z.o.cell;have m1:=z.o.free;have y5:=z.o.lt;have y6:=T4.o.lt;clear b4))
   go_ret
   exact⟨rfl,B4.o.M aa.o,B4.o.size,fun h => absurd h zW⟩
  |false =>
   have e1:r=0:=by rw[<-HR.o,aJ (of_decide_eq_false u)]
   subst e1;clear u;go_enter func155,ntmps155
   go_wp2_with (first
    |(refine aE rfl 38 _ rfl ps 0 rfl _ _ ab.o underlying38 rfl zY ?_)
    |(refine aE rfl 112 _ rfl w 0 rfl _ _ ac.o underlying112 rfl zY ?_)
    |(go_at_call 156;refine(y.o _).M ?_;rintro e w3 ⟨rfl,f⟩;have i:=zq (T1.o.B f);have x:=zq (HB.o.T (f.M HB.o.size));have l:=zq (N1.o.B f);have x0:=i.o.c0;have x3:=i.o.c3;have d4:=(f.cell (p:=⟨pd,4,none⟩) z3).T D1.o;have y2:=i.o.lt;have y3:=aH z3 f.size;have n0:=l.o.cell;have y4:=l.o.lt;clear f)
    |(go_at_call 148;refine(ad.o _ l.o).M ?_;rintro e w4 ⟨rfl,b4⟩;have B4:=zq (x.o.T (b4.M x.o.size));have z:=zq (l.o.B b4);have T4:=zq (i.o.B b4);have ag:=zq (Qu z.o ah.o (by have:=ai.o;omega));have u0:=T4.o.c0;have m0:=z.o.cell;have m1:=z.o.free;have y5:=z.o.lt;have y6:=T4.o.lt;clear b4)
    |(at_builtin;refine An rfl (.tmp 36) (.tmp 39) 25 rfl _ _ zT zT ag.o ?_;rintro v9 w9 ⟨A9,n9,c9,rfl,b9,s9,p9,ar,l9,o9⟩;have O9:=zq o9;have B9:=zq b9;have S9:=zq s9;clear o9 b9 s9))
   go_ret
   exact⟨rfl,((B4.o.M aa.o).T B9.o).setCell (show B<=pi from z.o.ge) _,by simpa [World.setCell]using aZ B4.o.size S9.o,fun _ =>⟨A9,n9,c9,O9.o⟩⟩
 ·have a1:q<0:=by omega
  clear q2 q3;obtain⟨mb,u⟩:∃mb,decide (t.id∈ids)=mb:=zJ;rw[u]at ad;cases mb with
  |true =>
   have e1:r=7:=by rw[<-HR.o,aM (bE u)]
   subst e1;clear u;go_enter func155,ntmps155
   go_wp2_with (first
    |(refine aE rfl 38 _ rfl ps 0 rfl _ _ ab.o underlying38 rfl zY ?_)
    |(refine aE rfl 112 _ rfl w 0 rfl _ _ ac.o underlying112 rfl zY ?_)
    |(go_at_call 156;refine(y.o _).M ?_;rintro e w3 ⟨rfl,f⟩;have i:=zq (T1.o.B f);have x:=zq (HB.o.T (f.M HB.o.size));have l:=zq (N1.o.B f);have x0:=i.o.c0;have x3:=i.o.c3;have d4:=(f.cell (p:=⟨pd,4,none⟩) z3).T D1.o;have y2:=i.o.lt;have y3:=aH z3 f.size;have n0:=l.o.cell;have y4:=l.o.lt;clear f)
    |(go_at_call 148;refine(ad.o _ l.o).M ?_;rintro e w4 ⟨rfl,b4⟩;have B4:=zq (x.o.T (b4.M x.o.size));have z:=zq (l.o.B b4);have T4:=zq (i.o.B b4);have u0:=T4.o.c0;have m0:=z.o.cell;have m1:=z.o.free;have y5:=z.o.lt;have y6:=T4.o.lt;clear b4))
   go_ret
   exact⟨rfl,B4.o.M aa.o,B4.o.size,fun h => absurd h zW⟩
  |false =>
   have e1:r=0:=by rw[<-HR.o,aJ (of_decide_eq_false u)]
   subst e1;clear u;go_enter func155,ntmps155
   go_wp2_with (first
    |(refine aE rfl 38 _ rfl ps 0 rfl _ _ ab.o underlying38 rfl zY ?_)
    |(refine aE rfl 112 _ rfl w 0 rfl _ _ ac.o underlying112 rfl zY ?_)
    |(go_at_call 156;refine(y.o _).M ?_;rintro e w3 ⟨rfl,f⟩;have i:=zq (T1.o.B f);have x:=zq (HB.o.T (f.M HB.o.size));have l:=zq (N1.o.B f);have x0:=i.o.c0;have x3:=i.o.c3;have d4:=(f.cell (p:=⟨pd,4,none⟩) z3).T D1.o;have y2:=i.o.lt;have y3:=aH z3 f.size;have n0:=l.o.cell;have y4:=l.o.lt;clear f)
    |(go_at_call 148;refine(ad.o _ l.o).M ?_;rintro e w4 ⟨rfl,b4⟩;have B4:=zq (x.o.T (b4.M x.o.size));have z:=zq (l.o.B b4);have T4:=zq (i.o.B b4);have ag:=zq (Qu z.o ah.o (by have:=ai.o;omega));have u0:=T4.o.c0;have m0:=z.o.cell;have m1:=z.o.free;have y5:=z.o.lt;have y6:=T4.o.lt;clear b4)
    |(at_builtin;refine An rfl (.tmp 36) (.tmp 39) 25 rfl _ _ zT zT ag.o ?_;rintro v9 w9 ⟨A9,n9,c9,rfl,b9,s9,p9,ar,l9,o9⟩;have O9:=zq o9;have B9:=zq b9;have S9:=zq s9;clear o9 b9 s9))
   go_ret
   exact⟨rfl,((B4.o.M aa.o).T B9.o).setCell (show B<=pi from z.o.ge) _,by simpa [World.setCell]using aZ B4.o.size S9.o,fun _ =>⟨A9,n9,c9,O9.o⟩⟩
end Go.Proofs.YtofeknacbdcoaaaGreatDoor
namespace Go.Proofs.YtofeknacbdcoaaaGreatDoor
open Go.RowKit Go.Sort
def BJ(q:List AA):List Int:=q.map (·.id)
def DZ(L:List Ba):Nat->List Int
 |0 => []
 |k+1 => if(L[k]?.map (·.wiped)).getD false=true then DZ L k ++ [(k:Int)]else DZ L k
theorem NK {L:List Ba}{k:Nat}(h:k<L.length):DZ L (k+1)=if L[k].wiped =true then DZ L k ++ [(k:Int)]else DZ L k:=by
 rw[DZ,aO h];rfl
theorem Ks(L):∀k,(DZ L k).length<=k/\∀x,x∈DZ L k->0<=x/\x<k
 |0 =>⟨aD _,fun x h => by cases h⟩
 |k+1 => by
  obtain⟨f,e⟩:=Ks L k;unfold DZ;split
  ·refine⟨by rw[aU];simp;omega,fun x c => ?_⟩;rcases List.mem_append.1 c with q|q
   ·have:=e x q;omega
   ·simp at q;omega
  ·exact⟨by omega,fun x c => by have:=e x c;omega⟩
theorem addNumL {W base v u ds D2 o}(q:Ak 1 2 Aw W base v ds [])(s:rSl 1 Aw W o u D2)(x:∀a,a∈o->v.ownBlock≠some a.block)(hn:ds.length+D2.length<=1000000000)(f:base<=W.heap.size):
  ∃l w',(Builtin.append_ #[25,25] 25 #[v,u]).run prog W= .ok l w'/\(∃A c,l= .slice A (ds.length+D2.length) c)/\(∃i,AW w' i l (ds ++ D2)/\AL base w' i)/\Below base W w':=by
 obtain⟨l,w',z,h,n,q3,q4,q5⟩:=Ak.appendRun (P:=prog) 25 25 (int i64 0) 8 underlying25 Tryz.infoNum rfl zW Aw.L Aw.X (fun _ _ _ _ h => Pb _ _ _ _ h) base v ds [] q u D2 o s x hn zZ f;have r:=n.nums;rw[r]at n;obtain⟨A,c,e,-⟩:=n.length;exact⟨l,w',z,⟨A,c,by rw[e,aU]⟩,n.readsMine ⟨List.nodup_nil,(fun a p => by cases p),(fun a p => by cases p)⟩,Below.grown (aC _ _) q4 f (fun k y =>(q.lt k y).1)⟩
theorem Ak.tell {w f A n c}{ds:List Int}(h:Ak 1 2 Aw w f (.slice A n c) ds []):∃i,AW w i (.slice A n c) ds/\AL f w i :=
 h.readsMine ⟨List.nodup_nil,(fun a e => by cases e),(fun a e => by cases e)⟩
def H9(L:List Int)(w:World)(e:Ending)(w':World):Prop:=∃A c f,e= .returned (.slice A L.length c)/\AW w' f (.slice A L.length c) L/\AL w w' f/\Below w w w'
theorem Nj {q:List AA}{k:Nat}(h:k<q.length):BJ (q.take (k+1))=BJ (q.take k) ++ [q[k].id]:=by
 unfold BJ;rw[aK h,List.map_append];rfl
theorem Oz {q:List AA}{k:Nat}(h:k<=q.length):(BJ (q.take k)).length =k:=by
 unfold BJ;rw[bH,aX];omega
theorem OO(v q f w)(h:rSl 4 Ag w f v q)(hq:q.length<=1000000):
  Calls prog 17 #[v] w (H9 (BJ q) w):=by
 obtain⟨A,c,rfl,hc,hm,hx⟩:=rSl.at_ Ag.X zW h;obtain⟨n,l⟩:∃n,w.heap.size=n:=zJ;obtain⟨W1,p⟩:∃W1,w.alloc (.cells #[] 2)=W1:=zJ;have ag:Below n w W1:=by rw[<-p,<-l];exact Ac (aC _ _) _
 have z1:W1.heap.size=n+1:=by rw[<-p,<-l];simp
 have af:=zq (show Ak 1 2 Aw W1 n (.slice (some (zE n)) 0 0) [] []from by
  rw[<-p,<-l];exact Ak.start ⟨rfl,.inr ⟨w.heap.size,0,#[],rfl,aD _,Blk.new w _ _,aD _,by unfold maxLen;omega,rfl,rfl⟩⟩)
 obtain⟨HX,al,ao,u,HQ⟩:=zG hx ag z1 l hq;clear h hx ag z1 hm;go_enter func17,ntmps17
 go_wp2_with fail
 try simp only[p,l]
 clear p l;go_loopw [3,4] (fun ov ix wx =>∃(k c2:Nat) (A2:Option Addr) (ds:List Int),k<=q.length/\ix=k/\ov= .slice A2 k c2/\Hid (ds=BJ (q.take k))/\Hid (Ak 1 2 Aw wx n (.slice A2 k c2) ds [])/\Hid (Below n w wx)/\Hid (n<wx.heap.size)) (fun _ ix _ => q.length - (intOf ix).toNat)
 ·exact⟨0,0,some (zE n),[],by omega,rfl,rfl,rfl,af.o,al.o,(show n<_ by have:=ao.o;omega)⟩
 ·clear af;obtain⟨k,c2,A2,ds,hk,rfl,rfl,r,HO,HB,ae⟩:=hrel;by_cases z:k<q.length
  ·obtain⟨ad,b3,o3,ar,f3,rfl,s⟩:=HX.o k z;have i:=s.B Ag.L (show Below w w wr by rw[u.o];exact HB.o);have aq:=i.place;have ap:b3<wr.heap.size:=i.lt;obtain⟨ah,-,ab,-,-,-⟩:=i.reads;have q0:=i.cell 0 (by rw[i.len];decide);simp only[ah,aW,bC]at q0;have aa:=Nj z;have y:=Oz (Nat.le_of_lt z);obtain⟨x,ai⟩:∃x,q[k].id =x:=zJ;rw[ai]at q0 ab aa;have au:(k:Int)<(q.length:Int):=by omega
   have an:=zq aa;have b7:Below wr wr (wr.alloc (.cells #[int i64 x] 2)):=Ac (aC _ _) _;obtain⟨ac,ak,am⟩:=zI b7 (IT (x:=x) (HO.o.B Aw.L Aw.X b7) ab (by rw[r.o,y];have:=HQ.o;omega) (by have:=b7.size;have:=ae.o;omega) (Blk.new wr 2 #[int i64 x])) y;clear b7 i s ah aa y ai ab;go_wp2_with (at_builtin;refine An rfl (.tmp 12) (.tmp 18) 25 rfl _ _ zT zT ak.o ?_;rintro v8 w8 ⟨A8,c8,rfl,o8,b8,s8,k8,j8⟩;have O8:=zq o8;have B8:=zq b8;have S8:=zq s8;clear o8 b8 s8 k8 j8)
   go_roundw
   ·have h7:=ac.o.size;have hg:=ae.o;have s8:=S8.o;have e:ds.length=k:=by rw[r.o];exact am.o
    rw[e]at O8;exact⟨k+1,c8,A8,ds ++ [x],by omega,by go_num,by rw[e],(show _=_ by rw[an.o,r.o]),O8.o,HB.o.T ((ac.o.M zZ).T B8.o),(show n<_ by omega)⟩
   ·simp[intOf];omega
  ·obtain rfl:k=q.length:=by omega
   go_wp2
   go_ret
   have h1:=HO.o;have hz:ds=BJ q:=by rw[r.o,bA]
   have aj:(BJ q).length =q.length:=by simp[BJ]
   rw[hz]at h1;obtain⟨gs,r1,r2⟩:=h1.tell;refine⟨A2,c2,gs,?_,?_,?_,?_⟩
   ·show Ending.returned (.slice A2 q.length c2)=_
    rw[aj]
   ·rw[aj];exact r1
   ·rw[u.o];exact r2
   ·rw[u.o];exact HB.o
theorem Nk(v q f w)(h:rSl 4 Ag w f v q)(hq:q.length<=1000000):
  Calls prog 29 #[v] w (H9 (BJ q) w):=by
 obtain⟨A,c,rfl,hc,hm,hx⟩:=rSl.at_ Ag.X zW h;obtain⟨l,i⟩:∃l,w.heap.size=l:=zJ;obtain⟨W1,n⟩:∃W1,w.alloc (.cells #[] 2)=W1:=zJ;have ak:Below l w W1:=by rw[<-n,<-i];exact Ac (aC _ _) _
 have z1:W1.heap.size=l+1:=by rw[<-n,<-i];simp
 have ai:=zq (show Ak 1 2 Aw W1 l (.slice (some (zE l)) 0 0) [] []from by
  rw[<-n,<-i];exact Ak.start ⟨rfl,.inr ⟨w.heap.size,0,#[],rfl,aD _,Blk.new w _ _,aD _,by unfold maxLen;omega,rfl,rfl⟩⟩)
 obtain⟨HX,an,au,z,HQ⟩:=zG hx ak z1 i hq;clear h hx ak z1 hm;go_enter func29,ntmps29
 go_wp2_with fail
 try simp only[n,i]
 clear n i;go_loopw [9,3] (fun ix ov wx =>∃(k c2:Nat) (A2:Option Addr) (ds:List Int),k<=q.length/\ix=k/\ov= .slice A2 k c2/\Hid (ds=BJ (q.take k))/\Hid (Ak 1 2 Aw wx l (.slice A2 k c2) ds [])/\Hid (Below l w wx)/\Hid (l<wx.heap.size)) (fun ix _ _ => q.length - (intOf ix).toNat)
 ·exact⟨0,0,some (zE l),[],by omega,rfl,rfl,rfl,ai.o,an.o,(show l<_ by have:=au.o;omega)⟩
 ·clear ai;obtain⟨k,c2,A2,ds,hk,rfl,rfl,r,HO,HB,ah⟩:=hrel;by_cases ac:k<q.length
  ·obtain⟨ad,b3,o3,az,f3,rfl,u⟩:=HX.o k ac;have p:=u.B Ag.L (show Below w w wr by rw[z.o];exact HB.o);have ay:=p.place;have ax:b3<wr.heap.size:=p.lt;obtain⟨av,-,af,-,aw,-⟩:=p.reads;subst av;have aj:=zq (TkO.of p).rng;have ae:=Nj ac;have ab:=Oz (Nat.le_of_lt ac);obtain⟨t,ht⟩:∃t,q[k] =t:=zJ;rw[ht]at aj ae af;obtain⟨Z,hZ⟩:∃Z:Array Value,#[int i64 0,(),.string ⟨#[]⟩,()] =Z:=zJ;have aa:Z.size=4:=by rw[<-hZ];rfl
   have KZ:=Blk.new wr 112 Z;have aq:=zq (Blk.there KZ 4 (by rw[aa];exact aD _));obtain⟨y,s⟩:∃y,(wr.alloc (.cells Z 112)).setCells wr 0 [int i64 t.id,t.kind,.string t.name,t.group] =y:=zJ;have K3:=zq (show Blk y wr 112 #[t.id,t.kind,.string t.name,t.group] by rw[<-s];exact Blk.laid KZ [t.id,t.kind,.string t.name,t.group] (by rw[aa];rfl));have b3:Below wr wr y:=by rw[<-s];exact AS (Ac (aC _ _) _) _ 0 (aD _)
   have ar:=zq s;have a1:=K3.o.lt;have p3:y.cell? ⟨wr.heap.size,0,none⟩=some (int i64 t.id):=(K3.o.cell 0).T rfl;have a0:(k:Int)<(q.length:Int):=by omega
   have ap:=zq ae;have b7:Below wr wr (y.alloc (.cells #[t.id] 2)):=Ac b3 _;obtain⟨ag,am,ao⟩:=zI b7 (IT (x:=t.id) (HO.o.B Aw.L Aw.X b7) af (by rw[r.o,ab];have:=HQ.o;omega) (by have:=b7.size;have:=ah.o;omega) (Blk.new y 2 #[t.id])) ab;clear b7 b3 p u ae ab ht af s KZ aa aw;go_wp2_with (first
    |(refine aE rfl 112 _ rfl b3 o3 rfl _ _ aj.o underlying112 rfl zY ?_)
    |(refine aV rfl 112 _ _ rfl wr 0 #[t.id,t.kind,.string t.name,t.group] rfl rfl aq.o zY zU ?_;rw[show(wr.alloc (.cells Z 112)).setCells wr 0 (#[t.id,t.kind,.string t.name,t.group]:Array Value).toList =y from ar.o])
    |(at_builtin;refine An rfl (.tmp 13) (.tmp 16) 25 rfl _ _ zT zT am.o ?_;rintro v8 w8 ⟨A8,c8,rfl,o8,b8,s8,k8,j8⟩;have O8:=zq o8;have B8:=zq b8;have S8:=zq s8;clear o8 b8 s8 k8 j8))
   go_roundw
   ·have h7:=ag.o.size;have hg:=ah.o;have s8:=S8.o;have e:ds.length=k:=by rw[r.o];exact ao.o
    rw[e]at O8;exact⟨k+1,c8,A8,ds ++ [t.id],by omega,by go_num,by rw[e],(show _=_ by rw[ap.o,r.o]),O8.o,HB.o.T ((ag.o.M zZ).T B8.o),(show l<_ by omega)⟩
   ·simp[intOf];omega
  ·obtain rfl:k=q.length:=by omega
   go_wp2
   go_ret
   have h1:=HO.o;have hz:ds=BJ q:=by rw[r.o,bA]
   have al:(BJ q).length =q.length:=by simp[BJ]
   rw[hz]at h1;obtain⟨gs,r1,r2⟩:=h1.tell;refine⟨A2,c2,gs,?_,?_,?_,?_⟩
   ·show Ending.returned (.slice A2 q.length c2)=_
    rw[al]
   ·rw[al];exact r1
   ·rw[z.o];exact r2
   ·rw[z.o];exact HB.o
