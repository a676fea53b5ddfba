/- Part 16 of the proof. -/
import Derived.Test.YtofeknacbdcoaaaGreatDoorK15
import Derived.Test.YtofeknacbdcoaaaGreatDoorK09
import Derived.Sort.QuietIn
import Derived.Maps.AppendAt
import Derived.Test.YtofeknacbdcoaaaGreatDoorK13
set_option maxHeartbeats 8000000
set_option maxRecDepth 100000
set_option linter.unusedVariables false
set_option linter.unusedSimpArgs false
open Go.Proofs.Tryz
open Go.Value (int)
open Go.IntKind (i64)
namespace Go.Proofs.YtofeknacbdcoaaaGreatDoor
open Go.RowKit Go.Sort
def OptL(L?:Option (List (List UInt8)))(w:World)(e:Ending)(w':World):Prop :=
 (∃L A c fs,L? =some L/\e= .returned (.tuple #[.slice A L.length c,.bool true])/\Az w' fs (.slice A L.length c) L/\AL w w' fs/\Below w w w')∨(L? =none/\e= .returned (.tuple #[zQ,.bool false])/\Below w w w')
def Ev(m n:Nat)(bl:List (List UInt8))(hv:List Nat)(p:Nat):List UInt8:=E4 m (Ce bl hv) ((Ge n hv p 8).getD [])
def ES(m n:Nat)(bl:List (List UInt8))(hv:List Nat)(k:Nat):List (List UInt8):=(List.range k).map (Ev m n bl hv)
def Fx(m n s:Nat)(bl:List (List UInt8)):Option (List (List UInt8)):=if(AN n bl bl.length).length <n then none else some (ES m n bl (AN n bl bl.length) (n+s))
theorem LH(m n)(bl:List (List UInt8))(hv)(i:Nat):ES m n bl hv (i+1)=ES m n bl hv i ++ [Ev m n bl hv i]:=by
 unfold ES;rw[List.range_succ,List.map_append];rfl
theorem Eu(m n)(bl:List (List UInt8))(hv i):(ES m n bl hv i).length =i:=by simp[ES]
theorem Gi {m n:Nat}{bl:List (List UInt8)}{i:Nat}(h1:1<=n)(h:n<=4)(hb:bl.length<=n+2)(l:Dz bl m)(hv:(AN n bl bl.length).length =n)(hi:i<n+2):∃L,Ge n (AN n bl bl.length) i 8=some L/\L.length=n/\Ev m n bl (AN n bl bl.length) i=E4 m (Ce bl (AN n bl bl.length)) L/\(Ev m n bl (AN n bl bl.length) i).length =m:=by
 obtain⟨L,e,f⟩:=wts_col h1 h hv (LX hb) hi;have c:Ev m n bl (AN n bl bl.length) i=E4 m (Ce bl (AN n bl bl.length)) L:=by unfold Ev;rw[e];rfl
 exact⟨L,e,f,c,by rw[c];exact FE (FR l) (by rw[Bm,hv,f];exact aD _)⟩
theorem Tryz.addFresh {wr W:World}{base b v ve}{ds:List (List UInt8)}{L:List UInt8}{fs f}(s:Ak 1 61 (Ai 1 Al) wr base v ds fs)(hm:AL base wr fs)(e:base<=wr.heap.size)(hn:ds.length+1<=1000000000){l}(o:Below wr wr l)(q:Ah l f ve L)(r:AL wr l f)(p:Below l l W)(i:Blk W b 61 #[ve]):
  ∃n w',(Builtin.append_ #[156,156] 156 #[v,.slice (some (zE b)) 1 1]).run prog W= .ok n w'/\∃A c h,n= .slice A (ds.length+1) c/\Ak 1 61 (Ai 1 Al) w' base n (ds ++ [L]) (fs ++ h)/\AL base w' (fs ++ h)/\Below base wr w'/\wr.heap.size<=w'.heap.size :=
 I9 (P:=prog) 156 156 (.slice none 0 0) 24 underlying156 Tryz.infoBytes rfl zW Az.loc Az.fix Ai.ones zZ s hm e hn (us:=[ve]) (f:=f) (d:=L) o ⟨ve,rfl,q⟩ r rfl p i
theorem colAll_c(n s:Nat)(hn:n<=100)(c:s<=100)(w:World):Calls prog 234 #[.agg #[int i64 (n:Int),int i64 (s:Int)]] w (zN (int i64 ((n+s:Nat):Int)) w):=by
 go_enter func234,ntmps234
 go_wp2
 go_ret
 exact⟨by go_num,Ac (aC _ _) _⟩
theorem PG(n s:Nat)(v)(bl:List (List UInt8))(f w m)(h:Az w f v bl)(h1:1<=n)(h3:n<=4)(bw:s<=2)(hb:bl.length<=n+2)(hO:Dz bl m)(hm:m<=1000):
  Calls prog 173 #[.agg #[int i64 (n:Int),int i64 (s:Int)],v] w (OptL (Fx m n s bl) w):=by
 have TF:=zq (rSl.there Az.fix h);obtain⟨A1,c1,rfl,bt,bv,hx⟩:=Az.open_ h;have HX:=zq hx;have HO:=zq hO;clear h hx hO;go_enter func173,ntmps173
 go_wp2_with fail
 have hP:=CW.start (lo:=w.heap.size+1) ((Blk.new1 w (.cells #[int i64 (n:Int),int i64 (s:Int)] 231) 2 #[]).alloc (.cells #[] 61)) (Blk.new2 w (.cells #[int i64 (n:Int),int i64 (s:Int)] 231) (.cells #[] 2) 61 #[]) (aD _) zZ zZ;have ax:=((Blk.new w 231 #[int i64 (n:Int),int i64 (s:Int)]).alloc (.cells #[] 2)).alloc (.cells #[] 61);have aw:=Ac (Ac (Ac (aC w w) (.cells #[int i64 (n:Int),int i64 (s:Int)] 231)) (.cells #[] 2)) (.cells #[] 61);obtain⟨HP,am,al⟩:=zI hP ax aw;obtain⟨g,hg⟩:∃g,w.heap.size=g:=zJ;rw[hg]at HP am al⊢;have HG:=zq hg;clear hP ax aw hg;go_loopw [16,6,7,8,9] (fun i v6 v7 _ _ wr =>∃(j:Nat) (A6:Option Addr) (c6:Nat) (A7:Option Addr) (c7:Nat) (fs:List Addr),j<=bl.length/\i=j/\v6= .slice A6 (AN n bl j).length c6/\v7= .slice A7 (AN n bl j).length c7/\CW wr (g+1) v6 v7 (AN n bl j) (Ce bl (AN n bl j)) fs/\Blk wr g 231 #[int i64 (n:Int),int i64 (s:Int)]/\Below g w wr/\g+1<=wr.heap.size) (fun i _ _ _ _ _ => bl.length - (intOf i).toNat)
 ·refine⟨0,_,_,_,_,[],by omega,rfl,by rw[Ed];rfl,by rw[Ed];rfl,?_,am.o,al.o,by have:=HG.o;simp;omega⟩;rw[Ed];exact HP.o
 ·obtain⟨j,A6,c6,A7,c7,fs,hj,rfl,rfl,rfl,hp,hx,a0,ai⟩:=hrel;have c0:wr.cell? ⟨g,0,none⟩=some (int i64 (n:Int)):=by rw[hx.cell];rfl
  have au:wr.cell? ⟨g,1,none⟩=some (int i64 (s:Int)):=by rw[hx.cell];rfl
  have bi:=Gm n bl j;obtain⟨z,ag,x⟩:=zI hp hx a0;clear hp hx a0;by_cases a1:j<bl.length
  ·obtain⟨ad,A2,c2,fk,e1,b1,p1,r1,t1,s1,-⟩:=HX.o j a1;subst e1;rw[HG.o]at b1;have bk:=(x.o.cell (p:=ad.add j) b1).T p1;have ae:bl.getD j [] =bl[j]:=by simp[aP,a1]
   have ar:=zq (show∀W,Below g w W->Ah W fk (.slice A2 bl[j].length c2) bl[j]from fun W hW => rSl.keep Al.L r1 (AV.of_below (fun a ha => by have:=t1 a ha;rw[HG.o]at this;exact this) hW));have bf:=zq (show∀a,a∈fk->a.block<g+1 from fun a ha => by have:=t1 a ha;rw[HG.o]at this;omega);clear p1 r1 t1 s1;by_cases hz:0<bl[j].length
   ·have aj:(0:Int)<(bl[j].length:Int):=by omega
    by_cases hn:(AN n bl j).length <n
    ·have ah:((AN n bl j).length:Int)<(n:Int):=by omega
     have q:=zq (J1 (by rw[ae];exact hz) hn);have an:=zq ae;clear ae;obtain⟨bj,az⟩:∃bj,bl[j] =bj:=zJ;rw[az]at an ar bk aj hz;clear az;go_wp2_with fail
     go_quiet ((go_at_call 149;exact Calls.quiet_of_same Iq))
     ·go_wp2_with (first
       |(at_builtin;refine An rfl (.tmp 31) (.tmp 33) 25 rfl _ _ zT zT (z.o.addNum (b:=wr.heap.size) (j:=j) ai (by repeat(with_reducible first|exact aC _ _|apply Ac|apply Am|apply AT)) (by exact Blk.new _ _ _) zZ zZ) ?_;rintro v8 w8 ⟨A8,c8,rfl,p8,b8,s8⟩;have P8:=zq p8;have B8:=zq b8;clear p8 b8)
       |(at_builtin;refine An rfl (.tmp 35) (.tmp 37) 156 rfl _ _ zT zT (P8.o.addRef (b:=w8.heap.size) (f:=fk) (L:=bj) s8 (Ac (aC _ _) _) (Blk.new _ _ _) (ar.o _ ((x.o.T (B8.o.M zZ)).T (((aC _ _).alloc (aD _) _).M zZ))) bf.o (by rw[Bm];omega)) ?_;rintro v9 w9 ⟨A9,c9,f9,rfl,p9,b9,s9⟩;have P9:=zq p9;have B9:=zq b9;clear p9 b9))
      go_roundw
      ·have a3:=P9.o;have em:Ce bl (AN n bl j) ++ [bj] =Ce bl (AN n bl (j+1)):=by rw[q.o];simp[Ce,<-an.o]
       rw[em,<-q.o]at a3;have el:(AN n bl (j+1)).length =(AN n bl j).length +1:=by rw[q.o];simp
       refine⟨j+1,A8,c8,A9,c9,f9,by omega,by go_num,by rw[el],by rw[el,Bm],?_,(ag.o.B B8.o zZ).B B9.o zZ,(x.o.T (B8.o.M zZ)).T (B9.o.M zZ),s9⟩;rw[el]at *;exact a3
      ·simp[intOf];omega
    ·have ah:¬((AN n bl j).length:Int)<(n:Int):=by omega
     have q:=zq (FS (n:=n) (bl:=bl) (j:=j) (.inr zZ));go_wp2_with fail
     go_quiet ((go_at_call 149;exact Calls.quiet_of_same Iq))
     ·go_wp2
      go_roundw
      ·exact⟨j+1,A6,c6,A7,c7,fs,by omega,by go_num,by rw[q.o],by rw[q.o],by rw[q.o];exact z.o.B (AT (aC _ _) _),ag.o.drewN _,AT x.o _,ai⟩
      ·simp[intOf];omega
   ·have aj:¬(0:Int)<(bl[j].length:Int):=by omega
    have bx:decide ((0:Int)<(bl[j].length:Int))=false:=by simpa using aj
    have q:=zq (FS (n:=n) (bl:=bl) (j:=j) (.inl (by rw[ae];exact hz)));go_wp2_with fail
    go_quiet (fail)
    ·go_wp2
     go_roundw
     ·exact⟨j+1,A6,c6,A7,c7,fs,by omega,by go_num,by rw[q.o],by rw[q.o],by rw[q.o];exact z.o.B (AT (aC _ _) _),ag.o.drewN _,AT x.o _,ai⟩
     ·simp[intOf];omega
  ·obtain rfl:j=bl.length:=by omega
   obtain⟨c,r⟩:∃c,AN n bl bl.length=c:=zJ;rw[r]at z bi⊢;by_cases hn:c.length<n
   ·have ah:((c.length:Nat):Int)<(n:Int):=by omega
    have hd:Fx m n s bl=none:=by unfold Fx;rw[r,aM hn]
    go_wp2_with fail
    go_quiet ((go_at_call 149;exact Calls.quiet_of_same Iq))
    go_wp2
    go_ret2
    exact .inr ⟨hd,rfl,by rw[HG.o];exact AT x.o _⟩
   have a5:c.length=n:=by omega
   have ah:¬((c.length:Nat):Int)<(n:Int):=by omega
   have HD:=zq (show Fx m n s bl=some (ES m n bl c (n+s))from by unfold Fx;rw[r,aJ hn]);have af:=zq (show∀i,i<n+2->∃L,Ge n c i 8=some L/\L.length=n/\Ev m n bl c i=E4 m (Ce bl c) L/\(Ev m n bl c i).length =m from fun i hi => by
    have:=Gi h1 h3 hb HO.o (by rw[r];exact a5) hi;rwa [r]at this)
   have bd:=zq (show∀l,l∈Ce bl c->l.length=m from by rw[<-r];exact FR HO.o);have bg:=zq (show∀k,k∈c->k<=50 from fun k hk => by rw[<-r]at hk;have:=Hm (Hn hk);omega);obtain⟨g6,r6,-⟩:=z.o.nums.reads;obtain⟨g7,r7,-⟩:=z.o.lists.reads;have R6:=zq r6;have R7:=zq r7;have gz:g<wr.heap.size:=by omega
   have av:g<=wr.heap.size:=by omega
   clear r6 r7 r;subst a5;go_wp2_with fail
   go_quiet ((go_at_call 149;exact Calls.quiet_of_same Iq))
   have bp:(wr.drewN nq).cell? ⟨g,0,none⟩=some (int i64 (c.length:Int)):=c0;have br:g<(wr.drewN nq).heap.size:=gz;have bo:((wr.drewN nq).alloc (.cells #[] 61)).cell? ⟨g,0,none⟩=some (int i64 (c.length:Int)):=((Ac (AT (aC _ _) nq) _).cell (p:=⟨g,0,none⟩) gz).T c0;have bq:((wr.drewN nq).alloc (.cells #[] 61)).cell? ⟨g,1,none⟩=some (int i64 (s:Int)):=((Ac (AT (aC _ _) nq) _).cell (p:=⟨g,1,none⟩) gz).T au;go_wp2_with (go_at_call 234;refine(colAll_c _ _ zZ zZ _).M ?_;rintro e w9 ⟨rfl,b9⟩;have B9:=zq b9;clear b9)
   obtain⟨u,hu⟩:∃u,u=wr:=zJ;subst hu;have hE:=(Ak.emptyL (w:=u.drewN nq)).B Az.loc Az.fix B9.o;have ay:=(Ac (AT (aC u u) nq) (.cells #[] 61)).T (B9.o.M zX);have HE:=zq hE;have a9:=zq ay;clear hE ay;go_loopw [48,10,11] (fun i o _ wr =>∃(k:Nat) (A:Option Addr) (c3:Nat) (fo:List Addr),k<=c.length+s/\i=k/\o= .slice A k c3/\Ak 1 61 (Ai 1 Al) wr u o (ES m c.length bl c k) fo/\AL u wr fo/\Below u u wr) (fun i _ _ _ => c.length+s - (intOf i).toNat)
   ·exact⟨0,_,0,[],by omega,rfl,rfl,HE.o,GH,a9.o⟩
   ·obtain⟨k,A,c3,fo,hk,rfl,rfl,ho,a2,ac⟩:=hrel;obtain⟨aq,y,ap⟩:=zI ho ac a2;have bn:=(ac.cell (p:=⟨g,0,none⟩) gz).T c0;have bm:=(ac.cell (p:=⟨g,1,none⟩) gz).T au;clear ho ac a2;by_cases bu:k<c.length+s
    ·obtain⟨L,eL,lL,eM,lM⟩:=af.o k zZ;have a8:=zq (share_c c.length s k c _ g6 wr L (rSl.B Aw.L Aw.X (by simpa using R6.o) y.o) rfl zZ bg.o zZ eL lL);have ab:=zq (fun(W:World) (A4:Option Addr) (c4:Nat) (f4:List Addr) (hW:Below wr wr W) (h4:Ah W f4 (.slice A4 L.length c4) L) => MN (.slice A7 c.length c7) (.slice A4 L.length c4) (Ce bl c) L m (g7 ++ fs) f4 W (rSl.B Az.loc Az.fix R7.o (y.o.T (hW.M y.o.size))) h4 (by rw[Bm];omega) bd.o (by rw[Bm,lL];exact aD _) zZ);rw[<-eM]at ab;have a4:=LH m c.length bl c k;have aa:=Eu m c.length bl c k;have q:=zq a4;have ao:=zq aa;obtain⟨D,hD⟩:∃D,Ev m c.length bl c k=D:=zJ;rw[hD]at ab q lM;rw[lL]at ab;have bb:=zq lM;have ba:=zq lL;clear eL eM a4 aa hD lL lM;go_wp2_with (first
      |(go_at_call 236;refine a8.o.M ?_;rintro e w4 ⟨A4,c4,f4,rfl,r4,m4,b4⟩;rw[ba.o]at r4⊢;have R4:=zq r4;have B4:=zq b4;clear r4 m4 b4)
      |(go_at_call 235;refine(ab.o _ _ _ _ B4.o R4.o).M ?_;rintro e w5 ⟨A5,c5,f5,rfl,r5,m5,b5⟩;rw[bb.o]at r5⊢;have ak:=zq (Tryz.addFresh (b:=w5.heap.size) aq.o ap.o y.o.size (by rw[ao.o];omega) (B4.o.T (b5.M B4.o.size)) r5 (m5.M B4.o.size) (Ac (aC _ _) _) (Blk.new _ _ _));rw[ao.o,<-q.o]at ak;clear r5 m5 b5)
      |(at_builtin;refine An rfl (.tmp 51) (.tmp 58) 156 rfl _ _ zT zT ak.o ?_;rintro v6 w6 ⟨a6,bh,bs,rfl,o6,m6,B6,e6⟩;have be:=zq o6;have bc:=zq m6;have a7:=zq B6;clear o6 B6 m6))
     go_roundw
     ·exact⟨k+1,a6,bh,_,by omega,by go_num,rfl,be.o,bc.o,y.o.T a7.o⟩
     ·simp[intOf];omega
    ·obtain rfl:k=c.length+s:=by omega
     go_wp2
     go_ret2
     obtain⟨gs,r8,m8⟩:=aq.o.readsMine ap.o;have aa:=Eu m c.length bl c (c.length+s);exact .inl ⟨_,A,c3,gs,HD.o,by rw[aa];rfl,by rw[aa];exact r8,m8.M (by rw[HG.o];exact av),by rw[HG.o];exact x.o.T (y.o.M av)⟩
def LC(n:Nat)(bl:List (List UInt8))(c:Nat):Option (List UInt8):=if(AN n bl bl.length).length <n then none else some (D4 n bl (AN n bl bl.length) c)
theorem Tc {n j:Nat}{bl:List (List UInt8)}(f:j<=bl.length)(h:¬j<bl.length∨¬(AN n bl j).length <n):AN n bl j=AN n bl bl.length:=by
 by_cases e:j<bl.length
 ·have c:(AN n bl j).length =n:=by
   have:=Gm n bl j;rcases h with h|h
   ·exact absurd e h
   ·omega
  have:=J0 c (bl.length - j);rw[show j+(bl.length - j)=bl.length by omega]at this;exact this.symm
 ·rw[show j=bl.length by omega]
theorem Ts(n l:Nat)(v)(bl:List (List UInt8))(f w)(h:Az w f v bl)(h1:1<=n)(h3:n<=3)(hw:l<n+2)(hb:bl.length<=n+2)(hO:Dz bl 4):
  Calls prog 244 #[int i64 (n:Int),v,int i64 (l:Int)] w (Iw (LC n bl l) w):=by
 obtain⟨A1,c1,rfl,a5,a6,hx⟩:=Az.open_ h;have HX:=zq hx;have HO:=zq hO;clear h hx hO;go_enter func244,ntmps244
 go_wp2_with fail
 have hP:=CW.start (lo:=w.heap.size) ((Blk.new w 2 #[]).alloc (.cells #[] 61)) (Blk.new1 w (.cells #[] 2) 61 #[]) (aD _) zZ zZ;have am:=Ac (Ac (aC w w) (.cells #[] 2)) (.cells #[] 61);have HP:=zq hP;have ai:=zq am;obtain⟨g,hg⟩:∃g,w.heap.size=g:=zJ;rw[hg]at HP ai⊢;have HG:=zq hg;clear hP am hg;go_loopw [8,9,10] (fun v6 v7 i wr =>∃(j:Nat) (A6:Option Addr) (c6:Nat) (A7:Option Addr) (c7:Nat) (fs:List Addr),j<=bl.length/\i=j/\v6= .slice A6 (AN n bl j).length c6/\v7= .slice A7 (AN n bl j).length c7/\CW wr g v6 v7 (AN n bl j) (Ce bl (AN n bl j)) fs/\Below g w wr/\g<=wr.heap.size) (fun _ _ i _ => bl.length - (intOf i).toNat)
 ·refine⟨0,_,_,_,_,[],by omega,rfl,by rw[Ed];rfl,by rw[Ed];rfl,?_,ai.o,by have:=HG.o;simp;omega⟩;rw[Ed];exact HP.o
 ·obtain⟨j,A6,c6,A7,c7,fs,hj,rfl,rfl,rfl,hp,ao,ae⟩:=hrel;have ag:=Gm n bl j;have x:=zq hp;have u:=zq ao;clear hp ao;by_cases r:j<bl.length/\(AN n bl j).length <n
  ·obtain⟨ar,hn⟩:=r;have a2:((AN n bl j).length:Int)<(n:Int):=by omega
   obtain⟨ad,A2,c2,fk,e1,b1,p1,r1,t1,s1,-⟩:=HX.o j ar;subst e1;rw[HG.o]at b1;have aw:=(u.o.cell (p:=ad.add j) b1).T p1;have ac:bl.getD j [] =bl[j]:=by simp[aP,ar]
   have al:=zq (show∀W,Below g w W->Ah W fk (.slice A2 bl[j].length c2) bl[j]from fun W hW => rSl.keep Al.L r1 (AV.of_below (fun a ha => by have:=t1 a ha;rw[HG.o]at this;exact this) hW));have a0:=zq (show∀a,a∈fk->a.block<g from fun a ha => by have:=t1 a ha;rw[HG.o]at this;exact this);have a4:(ad.add j).block <wr.heap.size:=aH b1 ae;clear p1 r1 t1 s1;by_cases hz:0<bl[j].length
   ·have av:(0:Int)<(bl[j].length:Int):=by omega
    have q:=zq (J1 (by rw[ac];exact hz) hn);have ak:=zq ac;clear ac;obtain⟨bj,an⟩:∃bj,bl[j] =bj:=zJ;rw[an]at ak al aw av hz;clear an;go_wp2_with (first
     |(at_builtin;refine An rfl (.tmp 31) (.tmp 33) 25 rfl _ _ zT zT (x.o.addNum (b:=wr.heap.size) (j:=j) ae (Ac (aC _ _) _) (Blk.new _ _ _) zZ zZ) ?_;rintro v8 w8 ⟨A8,c8,rfl,p8,b8,s8⟩;have q8:=(b8.cell (p:=ad.add j) b1).T aw;have P8:=zq p8;have B8:=zq b8;clear p8 b8)
     |(at_builtin;refine An rfl (.tmp 35) (.tmp 40) 156 rfl _ _ zT zT (P8.o.addRef (b:=w8.heap.size) (f:=fk) (L:=bj) s8 (Ac (aC _ _) _) (Blk.new _ _ _) (al.o _ ((u.o.T B8.o).T (((aC _ _).alloc (aD _) _).M zZ))) a0.o (by rw[Bm];omega)) ?_;rintro v9 w9 ⟨A9,c9,f9,rfl,p9,b9,s9⟩;have P9:=zq p9;have B9:=zq b9;clear p9 b9))
    go_roundw
    ·have au:=P9.o;have em:Ce bl (AN n bl j) ++ [bj] =Ce bl (AN n bl (j+1)):=by rw[q.o];simp[Ce,<-ak.o]
     rw[em,<-q.o]at au;have el:(AN n bl (j+1)).length =(AN n bl j).length +1:=by rw[q.o];simp
     refine⟨j+1,A8,c8,A9,c9,f9,by omega,by go_num,by rw[el],by rw[el,Bm],?_,(u.o.T B8.o).T B9.o,s9⟩;rw[el]at *;exact au
    ·simp[intOf];omega
   ·have av:¬(0:Int)<(bl[j].length:Int):=by omega
    have q:=zq (FS (n:=n) (bl:=bl) (j:=j) (.inl (by rw[ac];exact hz)));go_wp2
    go_roundw
    ·exact⟨j+1,A6,c6,A7,c7,fs,by omega,by go_num,by rw[q.o],by rw[q.o],by rw[q.o];exact x.o,u.o,ae⟩
    ·simp[intOf];omega
  ·have c:(¬j<bl.length)∨(j<bl.length/\¬(AN n bl j).length <n):=by
    by_cases h:j<bl.length
    ·exact .inr ⟨h,fun h2 => r ⟨h,h2⟩⟩
    ·exact .inl h
   have z:=Tc (n:=n) hj (by rcases c with h|h;exact .inl h;exact .inr h.2);have aa:∀k,k∈AN n bl bl.length->k<=50:=fun k hk => by have:=Hm (Hn hk);omega
   have s:=fun hv => Fk h1 h3 hb HO.o hv hw
   have ah:=FR (n:=n) (j:=bl.length) HO.o;have y:LC n bl l=if(AN n bl bl.length).length <n then none else some (D4 n bl (AN n bl bl.length) l):=rfl
   rw[z]at x c ag⊢;clear z r;obtain⟨hv,aq⟩:∃hv,AN n bl bl.length=hv:=zJ;rw[aq]at x c ag aa s ah y⊢;clear aq;by_cases hn:hv.length<n
   ·have a2:((hv.length:Nat):Int)<(n:Int):=by omega
    rw[aM hn]at y;rcases c with hc|⟨hc,ap⟩
    ·go_wp2
     go_ret2
     exact .inr ⟨y,rfl,by rw[HG.o];exact u.o⟩
    ·exact absurd hn ap
   rw[aJ hn]at y;have af:hv.length=n:=by omega
   obtain⟨L,eL,lL,eM,lM⟩:=s af;obtain⟨aj,az,a1⟩:=zI y ah aa;clear y ah aa s ag hn;obtain⟨g6,r6,-⟩:=x.o.nums.reads;obtain⟨g7,r7,-⟩:=x.o.lists.reads;have ax:=zq (KH n l 0 hv _ g6 wr L (by simpa using r6) af zZ zZ a1.o zZ zZ eL lL);have ab:=zq (fun(W:World) (A4:Option Addr) (c4:Nat) (f4:List Addr) (hW:Below wr wr W) (h4:Ah W f4 (.slice A4 L.length c4) L) => MK (.slice A7 hv.length c7) (.slice A4 L.length c4) (Ce bl hv) L 4 (g7 ++ fs) f4 W (rSl.B Az.loc Az.fix r7 hW) h4 (by rw[Bm];omega) az.o (by rw[Bm,lL,af];exact aD _) zZ);rw[<-eM]at ab;obtain⟨D,hD⟩:∃D,D4 n bl hv l=D:=zJ;rw[hD]at ab lM aj;rw[lL]at ab;have a3:=zq lM;have ay:=zq lL;subst af;clear eL eM hD lL lM r6 r7;rcases c with hc|⟨hc,ap⟩
   all_goals
    go_wp2_with (first
     |(go_at_call 194;refine ax.o.M ?_;rintro e w4 ⟨A4,c4,f4,rfl,r4,m4,b4⟩;rw[ay.o]at r4⊢;have R4:=zq r4;have B4:=zq b4;clear r4 m4 b4)
     |(go_at_call 193;refine(ab.o _ _ _ _ B4.o R4.o).M ?_;rintro e w5 ⟨A5,c5,f5,rfl,r5,m5,b5⟩;have R5:=zq r5;have M5:=zq m5;have B5:=zq b5;clear r5 m5 b5))
    go_ret2
    exact .inl ⟨D,A5,c5,f5,aj.o,rfl,R5.o,M5.o.M (by rw[HG.o];have:=B4.o.size;omega),by rw[HG.o];exact u.o.T ((B4.o.T (B5.o.M B4.o.size)).M ae)⟩
theorem L8(n:Nat)(v)(bl:List (List UInt8))(f w)(h:Az w f v bl)(h1:1<=n)(h3:n<=3)(hb:bl.length<=n+2)(hO:Dz bl 4):
  Calls prog 191 #[int i64 (n:Int),v] w (Iw (DE n bl) w):=by
 have H:=zq h;have HO:=zq hO;obtain⟨A1,c1,rfl,-⟩:=Az.open_ h;clear h hO;go_enter func191,ntmps191
 go_wp2
 go_loopw [6,7,8,9] (fun o i _ _ wr =>∃(k:Nat) (A:Option Addr) (c3:Nat),k<=n/\(0<k->(AN n bl bl.length).length =n)/\i=k/\o= .slice A (k * 4) c3/\Ak 1 5 Al wr w o (F1 n bl (AN n bl bl.length) k) []/\Below w w wr) (fun _ i _ _ _ => n - (intOf i).toNat)
 ·exact⟨0,_,0,by omega,(fun h => by omega),rfl,rfl,Ak.emptyB,Ac (aC _ _) _⟩
 ·obtain⟨k,A,c3,hk,s,rfl,rfl,ho,aa⟩:=hrel;obtain⟨y,c,z⟩:=zI ho aa s;clear ho aa s;by_cases ae:k<n
  ·have HC:=zq (Ts n k _ bl f wr (rSl.B Az.loc Az.fix H.o c.o) h1 h3 zZ hb HO.o);go_wp2_with fail
   refine HC.o.M ?_;rintro e w4 (⟨L,A4,c4,f4,p,rfl,r4,m4,b4⟩|⟨p,rfl,b4⟩)
   ·unfold LC at p;split at p
    ·cases p
    rename_i hn
    injection p with p
    have q:(AN n bl bl.length).length =n:=by have:=Gm n bl bl.length;omega
    obtain⟨-,-,-,-,r⟩:=Fk h1 h3 hb HO.o q (show k<n+2 by omega);rw[p]at r;have l:=EX h1 h3 hb HO.o q k hk;have u:=Jc n bl (AN n bl bl.length) k;rw[p]at u;have x:=zq (Tryz.appendBytes y.o c.o.size b4 r4 (fun a ha => m4.from_ a ha) (by rw[l,r];omega));rw[l,r,<-u]at x;rw[r];clear r4 m4 b4 u l;go_wp2_with (at_builtin;refine An rfl (.tmp 25) (.tmp 26) 61 rfl _ _ zT zT x.o ?_;rintro v6 w6 ⟨A6,c6,rfl,o6,B6,e6⟩;have ad:=zq o6;have ac:=zq B6;clear o6 B6)
    go_roundw
    ·exact⟨k+1,A6,c6,by omega,(fun _ => q),by go_num,by congr 1;omega,ad.o,c.o.T ac.o⟩
    ·simp[intOf];omega
   ·have ab:DE n bl=none:=by
     unfold LC at p;unfold DE;split at p
     ·rename_i hn;rw[aM hn]
     ·cases p
    have B4:=zq b4;have HD:=zq ab;clear p b4 ab;go_wp2
    go_ret2
    exact .inr ⟨HD.o,rfl,c.o.T (B4.o.M c.o.size)⟩
  ·obtain rfl:k=n:=by omega
   have q:=z.o zZ;have l:=EX h1 h3 hb HO.o q k hk;have hd:DE k bl=some (F1 k bl (AN k bl bl.length) k):=by unfold DE;rw[aJ zZ]
   have HD:=zq hd;clear hd;go_wp2
   go_ret2
   obtain⟨gs,r8,m8⟩:=y.o.readsMine GH;exact .inl ⟨_,A,c3,gs,HD.o,by rw[l];rfl,by rw[l];exact r8,m8,c.o⟩
theorem l3Even_c(v)(c:List (List UInt8))(m:Nat)(f w)(h:Az w f v c)(y:∀l,l∈c->l.length=m):
  Calls prog 192 #[v] w (zN (.bool true) w):=by
 obtain⟨A1,c1,rfl,ac,ae,hx⟩:=Az.open_ h;have x:=zq hx;have HL:=zq y;clear h hx y;go_enter func192,ntmps192
 go_wp2
 go_loopw [3] (fun i wr =>∃j:Nat,j<=c.length/\i=j/\Below w w wr) (fun i _ => c.length - (intOf i).toNat)
 ·exact⟨0,by omega,rfl,aC _ _⟩
 ·obtain⟨j,hj,rfl,hb⟩:=hrel;by_cases r:j<c.length
  ·obtain⟨n,A2,c2,fk,e1,b1,p1,-⟩:=x.o j r;obtain⟨aa,A3,c3,ab,q,b3,s,-⟩:=x.o 0 zZ;subst e1;injection q with q
   subst q;rw[HL.o _ (aT _)]at p1 s;have ag:=(hb.cell (p:=n.add j) b1).T p1;have u:=(hb.cell (p:=n.add 0) b3).T s;have e0:n.add 0=n:=by simp[Addr.add]
   rw[e0]at u;have z:(0:Int)<(c.length:Int):=by omega
   have af:(((m:Int) !=(m:Int)):Bool)=false:=by simp
   clear p1 s;go_wp2_with fail
   go_quiet (fail)
   go_wp2
   go_roundw
   ·exact⟨j+1,by omega,by go_num,AT hb _⟩
   ·simp[intOf];omega
  ·obtain rfl:j=c.length:=by omega
   go_wp2
   go_ret
   exact⟨rfl,hb⟩
theorem Lh {bl:List (List UInt8)}{n}:AN n bl bl.length=(BI bl bl.length).take n:=rfl
theorem G4(bl:List (List UInt8)):BI bl 0= []:=by simp[BI]
theorem Oy(bl:List (List UInt8))(j):(BI bl j).length<=j:=by
 have:=List.length_filter_le (fun i => decide (0<(bl.getD i []).length)) (List.range j);simpa [BI]using this
theorem hvAll_eq(bl:List (List UInt8))(j):AN j bl j=BI bl j:=by
 unfold AN;exact bB (Oy bl j)
theorem msOfAll {m}{bl:List (List UInt8)}{j}(h:Dz bl m):∀l,l∈Ce bl (BI bl j)->l.length=m:=by
 rw[<-hvAll_eq];exact FR h
def OptR(L?:Option (List (List UInt8)))(w:World)(e:Ending)(w':World):Prop :=
 (∃L A c fs,L? =some L/\e= .returned (.agg #[(),.slice A L.length c])/\Az w' fs (.slice A L.length c) L/\AL w w' fs/\Below w w w')∨(L? =none/\e= .returned (.agg #[int i64 10,zQ])/\Below w w w')
theorem Mv(n s:Nat)(v)(bl:List (List UInt8))(f w m)(h:Az w f v bl)(h1:1<=n)(h3:n<=4)(cu:s<=2)(hb:bl.length=n+s)(hO:Dz bl m)(hm:m<=1000):
  Calls prog 136 #[int i64 (n:Int),int i64 (s:Int),v] w (OptR (Fx m n s bl) w):=by
 obtain⟨A1,c1,rfl,cm,cq,hx⟩:=Az.open_ h;have HX:=zq hx;have HO:=zq hO;clear h hx hO;have bh:l3B (n:Int) (s:Int)=true:=by unfold l3B;rw[FD zZ zZ,FD zZ zZ];rfl
 have a8:=zq (fun W => Nm (n:Int) (s:Int) W);rw[bh]at a8;have ce:(bl.length:Int)=(n:Int)+(s:Int):=by omega
 clear bh;go_enter func136,ntmps136
 go_wp2_with (go_at_call 120;refine(a8.o _).M ?_;rintro e w' ⟨rfl,rfl⟩)
 have hP:=CW.start (lo:=w.heap.size+1) ((Blk.new1 w (.cells #[(),zQ] 201) 2 #[]).alloc (.cells #[] 61)) (Blk.new2 w (.cells #[(),zQ] 201) (.cells #[] 2) 61 #[]) (aD _) zZ zZ;have ba:=((Blk.new w 201 #[(),zQ]).alloc (.cells #[] 2)).alloc (.cells #[] 61);have a9:=Ac (Ac (Ac (aC w w) (.cells #[(),zQ] 201)) (.cells #[] 2)) (.cells #[] 61);obtain⟨HP,a1,az⟩:=zI hP ba a9;obtain⟨g,hg⟩:∃g,w.heap.size=g:=zJ;rw[hg]at HP a1 az⊢;have HG:=zq hg;clear hP ba a9 hg;go_loopw [7,8,9] (fun v6 v7 i wr =>∃(j:Nat) (A6:Option Addr) (c6:Nat) (A7:Option Addr) (c7:Nat) (fs:List Addr),j<=bl.length/\i=j/\v6= .slice A6 (BI bl j).length c6/\v7= .slice A7 (BI bl j).length c7/\CW wr (g+1) v6 v7 (BI bl j) (Ce bl (BI bl j)) fs/\Blk wr g 201 #[(),zQ]/\Below g w wr/\g+1<=wr.heap.size) (fun _ _ i _ => bl.length - (intOf i).toNat)
 ·refine⟨0,_,_,_,_,[],by omega,rfl,by rw[G4];rfl,by rw[G4];rfl,?_,a1.o,az.o,by have:=HG.o;simp;omega⟩;rw[G4];exact HP.o
 ·obtain⟨j,A6,c6,A7,c7,fs,hj,rfl,rfl,rfl,hp,hx,be,bo⟩:=hrel;have b6:=Oy bl j;obtain⟨ag,ae,aq⟩:=zI hp be hx;clear hp be hx;by_cases bi:j<bl.length
  ·obtain⟨ad,A2,c2,fk,e1,b1,p1,r1,t1,s1,-⟩:=HX.o j bi;subst e1;rw[HG.o]at b1;have bp:=(ae.o.cell (p:=ad.add j) b1).T p1;have am:bl.getD j [] =bl[j]:=by simp[aP,bi]
   have a7:=zq (show∀W,Below g w W->Ah W fk (.slice A2 bl[j].length c2) bl[j]from fun W hW => rSl.keep Al.L r1 (AV.of_below (fun a l => by have:=t1 a l;rw[HG.o]at this;exact this) hW));have bw:=zq (show∀a,a∈fk->a.block<g+1 from fun a l => by have:=t1 a l;rw[HG.o]at this;omega);clear p1 r1 t1 s1;by_cases hz:0<bl[j].length
   ·have ai:(0:Int)<(bl[j].length:Int):=by omega
    have y:=zq (show BI bl (j+1)=BI bl j ++ [j]from by rw[F5,am,aM hz]);have a3:=zq am;clear am;obtain⟨bj,bc⟩:∃bj,bl[j] =bj:=zJ;rw[bc]at a3 a7 bp ai hz;clear bc;go_wp2_with (first
     |(at_builtin;refine An rfl (.tmp 38) (.tmp 40) 25 rfl _ _ zT zT (ag.o.addNum (b:=wr.heap.size) (j:=j) bo (Ac (aC _ _) _) (Blk.new _ _ _) zZ zZ) ?_;rintro v8 w8 ⟨A8,c8,rfl,p8,b8,s8⟩;have q8:=(b8.cell (p:=ad.add j) zZ).T bp;have P8:=zq p8;have B8:=zq b8;clear p8 b8)
     |(at_builtin;refine An rfl (.tmp 42) (.tmp 47) 156 rfl _ _ zT zT (P8.o.addRef (b:=w8.heap.size) (f:=fk) (L:=bj) s8 (Ac (aC _ _) _) (Blk.new _ _ _) (a7.o _ ((ae.o.T (B8.o.M zZ)).T (((aC _ _).alloc (aD _) _).M zZ))) bw.o (by rw[Bm];omega)) ?_;rintro v9 w9 ⟨A9,c9,f9,rfl,p9,b9,s9⟩;have P9:=zq p9;have B9:=zq b9;clear p9 b9))
    go_roundw
    ·have bn:=P9.o;have em:Ce bl (BI bl j) ++ [bj] =Ce bl (BI bl (j+1)):=by rw[y.o];simp[Ce,<-a3.o]
     rw[em,<-y.o]at bn;have el:(BI bl (j+1)).length =(BI bl j).length +1:=by rw[y.o];simp
     refine⟨j+1,A8,c8,A9,c9,f9,by omega,by go_num,by rw[el],by rw[el,Bm],?_,(aq.o.B B8.o zZ).B B9.o zZ,(ae.o.T (B8.o.M zZ)).T (B9.o.M zZ),s9⟩;rw[el]at *;exact bn
    ·simp[intOf];omega
   ·have ai:¬(0:Int)<(bl[j].length:Int):=by omega
    have y:=zq (show BI bl (j+1)=BI bl j from by rw[F5,am,aJ hz,List.append_nil]);go_wp2
    go_roundw
    ·exact⟨j+1,A6,c6,A7,c7,fs,by omega,by go_num,by rw[y.o],by rw[y.o],by rw[y.o];exact ag.o,aq.o,ae.o,bo⟩
    ·simp[intOf];omega
  ·obtain rfl:j=bl.length:=by omega
   have au:Fx m n s bl=if((BI bl bl.length).take n).length <n then none else some (ES m n bl ((BI bl bl.length).take n) (n+s)):=rfl
   have aa:∀k,k∈(BI bl bl.length).take n->k<=50:=fun k hk => by have:=Hm (List.mem_of_mem_take hk);omega
   have x:∀i,((BI bl bl.length).take n).length =n->i<n+2->_:=fun i hv hi => Gi h1 h3 (show bl.length<=n+2 by omega) HO.o (show(AN n bl bl.length).length =n from hv) hi
   rw[Lh]at x;have ab:=msOfAll (j:=bl.length) HO.o;have ao:=FR (n:=n) (j:=bl.length) HO.o;rw[Lh]at ao;obtain⟨l,bf⟩:∃l,BI bl bl.length=l:=zJ;rw[bf]at ag au aa x ab ao b6⊢;obtain⟨ap,bx,af,bu⟩:=zH au aa x ao;clear bf au aa x ao;obtain⟨g6,r6,-⟩:=ag.o.nums.reads;obtain⟨g7,r7,-⟩:=ag.o.lists.reads;obtain⟨R6,R7,a2⟩:=zI r6 r7 (l3Even_c _ (Ce bl l) m (g7 ++ fs) wr r7 ab);have h0:l.length=0∨(0<l.length/\∃r A0 c0,A7=some r/\(r.add 0).block <wr.heap.size/\wr.cell? (r.add 0)=some (.slice A0 m c0)):=by
    by_cases hz:l.length=0
    ·exact .inl hz
    ·obtain⟨A,c,e,-,-,hx⟩:=Az.open_ r7;obtain⟨r,A0,c0,fk,e1,b1,p1,-⟩:=hx 0 (by rw[Bm];omega);injection e with e2
     rw[ab _ (aT _)]at p1;exact .inr ⟨by omega,r,A0,c0,by rw[e2,e1],b1,p1⟩
   have gz:g<wr.heap.size:=by omega
   have bz:g<=wr.heap.size:=by omega
   obtain⟨u,hu⟩:∃u,u=wr:=zJ;subst hu;clear r6 r7 ab;go_upto_region 15 with(go_at_call 192;refine a2.o.M ?_;rintro e w2 ⟨rfl,b2⟩;have B2:=zq b2;clear b2)
   have X2:=zq (aq.o.B B2.o gz);have cy:w2.cell? ⟨g,0,none⟩=some (int i64 0):=(X2.o.cell 0).T rfl;have cz:w2.cell? ⟨g,1,none⟩=some (.slice none 0 0):=(X2.o.cell 1).T rfl;have ci:=X2.o.frozen 0;have cj:=X2.o.frozen 1;have cl:=X2.o.lt;have BX:=zq (ae.o.T (B2.o.M bz));by_cases hn:l.length<n
   ·have b7:((l.length:Nat):Int)<(n:Int):=by omega
    have hd:Fx m n s bl=none:=by rw[ap.o,aM (by rw[aX];omega)]
    have HD:=zq hd;clear hd;rcases h0 with hz|⟨hz,r,A0,c0,rfl,b0,p0⟩
    ·have ai:¬(0:Int)<(l.length:Int):=by omega
     go_wp2_with fail
     refine bodyPost_ret (results_cell_row rfl _ _ g 201 #[int i64 10,zQ] (0,0) _ rfl (Blk.set_ (Blk.set_ X2.o 0 _) 1 _) underlying201 rfl zY) rfl ?_;exact .inr ⟨HD.o,rfl,by rw[HG.o];exact(BX.o.setCell (aD _) _).setCell (aD _) _⟩
    ·have ai:(0:Int)<(l.length:Int):=by omega
     have e0:r.add 0=r:=by simp[Addr.add]
     rw[e0]at p0 b0;have cb:=(B2.o.cell (p:=r) b0).T p0;go_wp2_with fail
     refine bodyPost_ret (results_cell_row rfl _ _ g 201 #[int i64 10,zQ] (0,0) _ rfl (Blk.set_ (Blk.set_ X2.o 0 _) 1 _) underlying201 rfl zY) rfl ?_;exact .inr ⟨HD.o,rfl,by rw[HG.o];exact(BX.o.setCell (aD _) _).setCell (aD _) _⟩
   have bm:n<=l.length:=by omega
   have b7:¬((l.length:Nat):Int)<(n:Int):=by omega
   have ax:(l.take n).length =n:=by rw[aX];omega
   have hd:Fx m n s bl=some (ES m n bl (l.take n) (n+s)):=by rw[ap.o,aJ zZ]
   have HD:=zq hd;have bv:=zq (fun i hi => af.o i ax hi);rcases h0 with hz|⟨hz,r,A0,c0,rfl,b0,p0⟩
   ·omega
   have ai:(0:Int)<(l.length:Int):=by omega
   have e0:r.add 0=r:=by simp[Addr.add]
   rw[e0]at p0 b0;have cb:=(B2.o.cell (p:=r) b0).T p0;have cn:n<=c6:=by
    obtain⟨A,c,e,hc,-⟩:=R6.o;injection e with _ _ e
    rw[CF]at hc;omega
   have co:n<=c7:=by
    obtain⟨A,c,e,hc,-⟩:=Az.open_ R7.o;injection e with _ _ e
    rw[Bm]at hc;omega
   have cc:(n:Int)<=(c6:Int):=by omega
   have cd:(n:Int)<=(c7:Int):=by omega
   have cr:(0:Int)<=(n:Int):=by omega
   obtain⟨k6,-,q6,-,-⟩:=R6.o.split (j:=n) (by rw[CF];exact bm);obtain⟨k7,-,q7,-,-⟩:=R7.o.split (j:=n) (by rw[Bm];exact bm);have e6:(FQ l).take n=FQ (l.take n):=by simp[FQ,List.map_take]
   have e7:(Ce bl l).take n=Ce bl (l.take n):=by simp[Ce,List.map_take]
   rw[e6]at q6;rw[e7]at q7;have Q6:=zq q6;have Q7:=zq q7;clear hd q6 q7 e6 e7 p0 a2 af ap hn;have an:ES m n bl (l.take n) 0= []:=rfl;go_wp2_with fail
   obtain⟨q,hq⟩:∃q,w2.heap.size=q:=zJ;obtain⟨K0,X3,BS⟩:=zI (Blk.new w2 201 #[(),zQ]) (X2.o.alloc (.cells #[(),zQ] 201)) (Ac (aC w2 w2) (.cells #[(),zQ] 201));rw[hq]at K0⊢;have HQ:=zq hq;have ct:g<q:=by omega
   go_loopw [11] (fun i wr =>∃(k:Nat) (A:Option Addr) (c3:Nat) (fo:List Addr),k<=n+s/\i=k/\Blk wr q 201 #[(),.slice A k c3]/\Ak 1 61 (Ai 1 Al) wr (q+1) (.slice A k c3) (ES m n bl (l.take n) k) fo/\AL (q+1) wr fo/\Blk wr g 201 #[(),zQ]/\Below q w2 wr/\q+1<=wr.heap.size) (fun i _ => n+s - (intOf i).toNat)
   ·exact⟨0,none,0,[],by omega,rfl,K0.o,by rw[an];exact Ak.start ⟨rfl,.inl ⟨rfl,rfl⟩⟩,GH,X3.o,by rw[<-hq];exact BS.o,by simp;omega⟩
   ·obtain⟨k,A,c3,fo,hk,rfl,ah,ho,bk,hx,ar,ca⟩:=hrel;have bb:Below w2 w2 wr:=by rw[HQ.o];exact ar
    have bd:Below u u wr:=B2.o.T (bb.M B2.o.size);have bq:wr.cell? ⟨q,1,none⟩=some (.slice A k c3):=(ah.cell 1).T rfl;have al:=ah.lt;have ch:=ah.frozen 1;obtain⟨a4,a6,a5,z,a0,aj⟩:=zF ah ho bk hx ar bd;clear ah ho bk hx ar bb bd;by_cases cp:k<n+s
    ·have bg:(k:Int)<(n:Int)+(s:Int):=by omega
     obtain⟨L,eL,lL,eM,lM⟩:=bv.o k zZ;have br:=zq (fun(W:World) (hW:Below wr wr W) => KH n k 8 (l.take n) (.slice A6 n c6) k6 W L (rSl.B Aw.L Aw.X Q6.o (aj.o.T (hW.M aj.o.size))) ax zZ zZ bx.o zZ zZ eL lL);have ak:=zq (fun(W:World) (A4:Option Addr) (c4:Nat) (f4:List Addr) (hW:Below wr wr W) (h4:Ah W f4 (.slice A4 L.length c4) L) => MK (.slice (some r) n c7) (.slice A4 L.length c4) (Ce bl (l.take n)) L m k7 f4 W (rSl.B Az.loc Az.fix Q7.o (aj.o.T (hW.M aj.o.size))) h4 (by rw[Bm];omega) bu.o (by rw[Bm,lL,ax];exact aD _) zZ);rw[<-eM]at ak;have aw:=LH m n bl (l.take n) k;have ac:=Eu m n bl (l.take n) k;obtain⟨D,hD⟩:∃D,Ev m n bl (l.take n) k=D:=zJ;rw[hD]at ak aw lM;rw[lL]at ak;have ay:=zq (fun(w5 W:World) (A5:Option Addr) (c5 b:Nat) (f5:List Addr) (B5:Below wr wr w5) (r5:Ah w5 f5 (.slice A5 m c5) D) (m5:AL wr w5 f5) (BW:Below w5 w5 W) (hk:Blk W b 61 #[.slice A5 m c5]) => Tryz.addFresh a6.o a5.o ca (by rw[ac];omega) B5 r5 m5 BW hk);rw[ac,<-aw]at ay;have bt:=zq lM;have bs:=zq lL;clear eL eM aw ac hD lL lM;go_wp2_with fail
     go_region_law (first
      |(refine AZ rfl (.tmp 78) (.tmp 89) 156 rfl _ _ zT zT (ay.o w5 _ A5 c5 _ f5 B5.o R5.o M5.o (by repeat(with_reducible first|exact aC _ _|apply Ac|apply Am)) (by repeat(with_reducible first|exact Blk.new _ _ _|exact Blk.new1 _ _ _ _|apply Blk.drew_|apply Blk.alloc))) ?_;rintro v8 w8 ⟨A8,c8,h8,rfl,o8,m8,B8,e8⟩;have k8:=a4.o.B B8 zZ;have p8:w8.cell? ⟨q,1,none⟩=some (.slice A k c3):=(k8.cell 1).T rfl;have f8:=k8.frozen 1;have z8:=k8.lt)
      |(go_simp;go_at_call 194;refine(br.o _ (by repeat(with_reducible first|exact aC _ _|apply Am))).M ?_;rintro e w4 ⟨A4,c4,f4,rfl,r4,m4,b4⟩;rw[bs.o]at r4⊢;dsimp only;have B4:=zq (show Below wr wr w4 by first|exact b4|exact Ft b4|exact Ft (Ft b4));have R4:=zq r4;have p4:w4.cell? ⟨q,1,none⟩=some (.slice A k c3):=(B4.o.cell (p:=⟨q,1,none⟩) al).T bq;have z4:=aH al B4.o.size;clear r4 m4 b4)
      |(go_simp;go_at_call 193;refine(ak.o _ A4 c4 f4 (by repeat(with_reducible first|exact B4.o|exact aC _ _|apply Am)) R4.o).M ?_;rintro e w5 ⟨A5,c5,f5,rfl,r5,m5,b5⟩;rw[bt.o]at r5⊢;dsimp only;have B5:=zq (show Below wr wr w5 by first|exact B4.o.T (b5.M B4.o.size)|exact B4.o.T ((Ft b5).M B4.o.size));have R5:=zq r5;have M5:=zq (m5.M B4.o.size);have p5:w5.cell? ⟨q,1,none⟩=some (.slice A k c3):=(B5.o.cell (p:=⟨q,1,none⟩) al).T bq;have z5:=aH al B5.o.size;clear r5 m5 b5))
     all_goals
      go_wp2
      go_roundw
      ·exact⟨k+1,A8,c8,fo ++ h8,by omega,by go_num,Blk.set_ k8 1 _,Ak.far_ Az.loc o8 m8 zX _,AL.set_ m8 _ _,Blk.far (z.o.B B8 zZ) zV _,(a0.o.T (B8.M zZ)).setCell zX _,by have:=B8.size;simp[World.setCell];omega⟩
      ·simp[intOf];omega
    ·obtain rfl:k=n+s:=by omega
     have bg:¬(((n+s:Nat):Int)<(n:Int)+(s:Int)):=by omega
     have cx:wr.cell? ⟨q,0,none⟩=some (int i64 0):=(a4.o.cell 0).T rfl;have cv:wr.cell? ⟨g,0,none⟩=some (int i64 0):=(z.o.cell 0).T rfl;have cw:wr.cell? ⟨g,1,none⟩=some (.slice none 0 0):=(z.o.cell 1).T rfl;have cf:=z.o.frozen 0;have cg:=z.o.frozen 1;have ck:=z.o.lt;go_wp2_with fail
     have ac:=Eu m n bl (l.take n) (n+s);refine bodyPost_ret (results_cell_row rfl _ _ g 201 #[(),.slice A (n+s) c3] (0,0) _ rfl (Blk.set_ (Blk.set_ z.o 0 _) 1 _) underlying201 rfl zY) rfl ?_;obtain⟨gs,r8,m8⟩:=a6.o.readsMine a5.o;have av:AV gs wr ((wr.setCell (zE g) (int i64 0)).setCell (zO g 1) (.slice A (n+s) c3)):=fun a b3 => by
      have:=m8.from_ a b3;rw[World.cell?_setCell_other _ _ _ _ (fun e => by rw[<-e]at this;simp at this;omega),World.cell?_setCell_other _ _ _ _ (fun e => by rw[<-e]at this;simp at this;omega)]
     refine .inl ⟨_,A,c3,gs,HD.o,by rw[ac],by rw[ac];exact rSl.keep Az.loc r8 av,((m8.set_ _ _).set_ _ _).M (by rw[HG.o];omega),?_⟩;rw[HG.o];exact((BX.o.T (a0.o.M zZ)).setCell (aD _) _).setCell (aD _) _
end Go.Proofs.YtofeknacbdcoaaaGreatDoor
namespace Go.Proofs.YtofeknacbdcoaaaGreatDoor
open Go.RowKit Go.Lib Go.Sort
attribute [local go_sem] Oper.semAt_some
structure C9 (w0:World) where
 v:Value
 l:List UInt8
 f:List Addr
 ok:Ah w0 f v l
def Cp(L:List UInt8)(m:Nat):List (List UInt8):=(List.range m).map fun i =>(L.drop (4 * i)).take 4
theorem IA(L:List UInt8)(m k:Nat)(c:k<m):(Cp L m).take (k+1)=(Cp L m).take k ++ [(L.drop (4 * k)).take 4]:=by
 rw[List.take_add_one];congr 1
 simp[Cp,c]
theorem CH(L:List UInt8)(m):(Cp L m).length =m:=by simp[Cp]
theorem chunk_ok {i fs ad}{n c k:Nat}{L:List UInt8}(h:Ah i fs (.slice (some ad) n c) L)(hk:4 * k+4<=L.length):Ah i (Bf (ad.add (4 * k)) 4) (.slice (some (ad.add (4 * k))) 4 4) ((L.drop (4 * k)).take 4):=by
 obtain⟨s,u,e,z,h2,o⟩:=Ah.open_ h;injection e with f x y
 have r:((L.drop (4 * k)).take 4).length =4:=by simp;omega
 have:=Ah.close_ (w:=i) (ad:=ad.add (4 * k)) (c:=4) (bs:=(L.drop (4 * k)).take 4) zZ zZ (fun q hq => by
  obtain⟨l,e,-,-,p⟩:=o (4 * k+q) zZ;rw[e]at f;injection f with f
  subst f;rw[JK,p];simp)
 rw[r]at this;exact this
theorem Ta(w:World)(n):w.grownBy (w.drewN n) none:=⟨rfl,rfl,rfl,aD _,fun _ _ _ => rfl⟩
theorem SG(l b1 b2 y:Nat)(ad)(m cap:Nat)(L:List UInt8)(f c)(hr:Ah c f (.slice (some ad) (4 * m) cap) L)(hL:L.length=4 * m)(be:m<=1000)(al:y=c.heap.size)(J Jx:List (C9 c)->World->Prop)(n:Nat)(hn:1<=n)(W:World)(hJ:AbidesFrom W J)(hY:∀pre x W,J pre W->pre.length<m->YieldAt Fence.wide (n - 1) prog l #[x.v] W fun e u =>
   (e= .returned (.bool true)/\J (pre ++ [x]) u/\Below y W u)∨(e= .returned (.bool false)/\Jx (pre ++ [x]) u))(q:Below y c W)(ai:c.cell? ⟨b1,0,none⟩=some (.slice (some ad) (4 * m) cap))(aj:c.cell? ⟨b2,0,none⟩=some (int i64 4))(h0:J [] W):
  CallsIn Fence.wide n prog 295 #[.func (.yield l) #[] #[],.pointer (some (zE b1)),.pointer (some (zE b2))] W fun e u =>(∃v,e= .returned v)/\
   ((∃ys,ys.map C9.l=Cp L m/\J ys u)∨(∃pre,(∃k,pre.map C9.l=(Cp L m).take k)/\Jx pre u)):=by
 obtain⟨A',c',e,hc,bf,hx⟩:=Ah.open_ hr;injection e with e1 e2 e3
 subst e1 e3;have a4:4 * m<=cap:=by omega
 have HX:=zq hx;have a0:=zq q;have ar:b1<y:=by rw[al];exact World.block_lt_of_cell? _ _ ai
 have au:b2<y:=by rw[al];exact World.block_lt_of_cell? _ _ aj
 obtain⟨ag,z,HY,az⟩:=zH (fun(u:World) (h:Below y c u) =>(h.cell (p:=⟨b1,0,none⟩) ar).T ai) (fun(u:World) (h:Below y c u) =>(h.cell (p:=⟨b2,0,none⟩) au).T aj) hY hJ;have ba:=ag.o W q;have bb:=z.o W q;have bc:y<=W.heap.size:=by rw[al];exact q.size
 clear hx ai aj hY q hJ e2 hc;refine callsIn_of_wp func295 rfl trivial ?_ rfl;simp only[ntmps295,bD,List.length_cons,List.length_nil,Nat.reduceAdd,Nat.reduceSub,Array.replicate_succ,Array.replicate_zero,List.push_toArray,List.append_toArray,List.nil_append,List.cons_append];gi_wp2
 gi_loopw [4,5] (fun i _ wr =>∃k:Nat,k<=m/\i= int i64 ((4 * k:Nat):Int)/\Hid (Below y c wr)/\W.heap.size<=wr.heap.size/\Hid (∃pre:List (C9 c),pre.map C9.l=(Cp L m).take k/\pre.length=k/\J pre wr))
  (fun i _ _ =>(4 * m) - (intOf i).toNat)
 ·exact⟨0,Nat.zero_le _,by go_num,a0,aD _,[],by simp,rfl,h0⟩
 ·obtain⟨k,hk,rfl,HB,bj,af⟩:=hrel;obtain⟨pre,ac,bg,hJ⟩:=af.o;have a5:=ag.o wr HB.o;have a6:=z.o wr HB.o;by_cases aq:k<m
  ·have bd:4 * k<4 * m:=by omega
   have HJ:=zq hJ;have aa:=zq ac;obtain⟨x,a2,av⟩:∃x:C9 c,x.v= .slice (some (ad.add (4 * k))) 4 4/\x.l=(L.drop (4 * k)).take 4:=⟨⟨_,_,_,chunk_ok hr zZ⟩,rfl,rfl⟩;clear hJ ac af;gi_wp2
   refine wpIn_wide.2 ?_;go_quiet (fail)
   rw[show min (4:Int) ((4 * m - 4 * k:Nat):Int)=4 by omega];obtain⟨wq,s⟩:∃wq,wr.drewN nq=wq:=zJ;have ab:Below y c wq:=by rw[<-s];exact AT HB.o _
   have ap:J pre wq:=by rw[<-s];exact az.o pre wr _ none HJ.o (Ta wr nq) (fun r e => by cases e)
   have bi:wr.heap.size=wq.heap.size:=by rw[<-s];rfl
   rw[s];clear s HJ;have a7:=ag.o wq ab;have a8:=z.o wq ab;have ay:=zq ab;have aw:=HY.o pre x wq ap zZ;have an:=zq av;rw[a2]at aw;obtain⟨fn,tmps,ax,a3,hy,hR⟩:=aw;have a1:=zq hR;clear hR ab ap av;gi_wp2
   refine a1.o.mono ?_;rintro e W3 (⟨rfl,ao,ak⟩|⟨rfl,ae⟩)
   ·have ah:=zq ao;have am:=zq (ay.o.T ak);have bh:=ak.size;have a9:=z.o W3 am.o;clear ao ak;gi_wp2
    go_roundw
    ·refine⟨k+1,by omega,by go_num,am,by omega,pre ++ [x],?_,by simp;omega,ah.o⟩;rw[IA _ _ _ aq,List.map_append,aa.o,List.map_cons,List.map_nil,an.o]
    ·simp[intOf];omega
   ·have ah:=zq ae;clear ae;gi_wp2
    refine bodyPost_ret (results_none rfl _ _ _) rfl ?_;refine⟨⟨_,rfl⟩,.inr ⟨pre ++ [x],⟨k+1,?_⟩,ah.o⟩⟩;rw[IA _ _ _ aq,List.map_append,aa.o,List.map_cons,List.map_nil,an.o]
  ·obtain rfl:k=m:=by omega
   have HJ:=zq hJ;have aa:=zq ac;clear hJ ac;gi_wp2
   go_end0
   exact⟨⟨_,rfl⟩,.inl ⟨pre,by rw[aa.o];exact bB (by rw[CH];exact aD _),HJ.o⟩⟩
theorem PE(h i r:Nat)(ad)(m cap:Nat)(L:List UInt8)(f c)(hr:Ah c f (.slice (some ad) (4 * m) cap) L)(z:L.length=4 * m)(q:m<=1000)(e:r=c.heap.size)(n:Nat)(hn:1<=n)(o:c.cell? ⟨h,0,none⟩=some (.slice (some ad) (4 * m) cap))(p:c.cell? ⟨i,0,none⟩=some (int i64 4)):
  SeqStopsK Fence.wide n prog 295 #[.pointer (some (zE h)),.pointer (some (zE i))] (fun x:C9 c => #[x.v]) (Below r) (fun ys => ys.map C9.l=Cp L m) (fun pre =>∃k,pre.map C9.l=(Cp L m).take k) m c:=fun l J s W hW y _ hY u =>
 SG l h i r ad m cap L f c hr z q e J s n hn W y hY (e ▸ hW) o p u
theorem chunk_c(A n c)(w:World):Calls prog 290 #[.slice A n c,int i64 4] w fun e w' => e= .returned (.func (.func 295) #[] #[.pointer (some (zE w)),.pointer (some (zE (w.heap.size+1)))])/\w'=(w.alloc (.cells #[.slice A n c] 61)).alloc (.cells #[int i64 4] 3):=by
 go_enter func290,ntmps290
 go_wp2
 go_ret
 exact⟨rfl,rfl⟩
theorem Pc {q W:World}{base e}{v:Value}{c:List (C9 q)}(h:W.ownsRow base e 1 v c.length (c.map C9.v))(hb:Below q q W):∃f,Az W f v (c.map C9.l):=by
 rcases h.2 with⟨rfl,s⟩|⟨g,cap,o,rfl,u,hg,hn,hm,hc,ht⟩
 ·obtain rfl:=bN s;exact⟨[],none,0,rfl,aD _,by omega,.inl ⟨rfl,rfl⟩⟩
 ·refine⟨Bf (zE g) (c.length * 1) ++(c.map C9.f).flatten,some (zE g),cap,by simp,by simpa using hn,by unfold maxLen at hm;omega,.inr ⟨(zE g),c.map fun y => [y.v],c.map C9.f,rfl,by simp,by simp,by simp,fun i x => ?_⟩⟩;have n:i<c.length:=by simpa using x
  refine⟨by simpa using n,by simpa using n,by simp,fun j z => ?_,?_⟩
  ·have p:j=0:=by simp at z;omega
   subst p;have e:((zE g):Addr).add (i * 1+0)=⟨g,i,none⟩:=by rw[Nat.mul_one,bC];exact CO g i
   have r:(o.toList.take (c.length * 1))[i]? =some c[i].v:=by rw[ht];simp[n]
   rw[List.getElem?_take,aM zZ]at r;rw[e,cell_of_row W g i o _ (0,0) hg];simpa using r
  ·refine⟨c[i].v,by simp,?_⟩;simpa using Ah.B c[i].ok hb
theorem PD(b1 b2:Nat)(ad)(m cap:Nat)(L:List UInt8)(f w)(hr:Ah w f (.slice (some ad) (4 * m) cap) L)(hL:L.length=4 * m)(ap:m<=1000)(ag:w.cell? ⟨b1,0,none⟩=some (.slice (some ad) (4 * m) cap))(q:w.cell? ⟨b2,0,none⟩=some (int i64 4)):
  Calls prog 294 #[.slice none 0 0,.func (.func 295) #[] #[.pointer (some (zE b1)),.pointer (some (zE b2))]] w fun e w' =>∃A c f',e= .returned (.slice A m c)/\Az w' f' (.slice A m c) (Cp L m)/\Below w w w':=by
 obtain⟨i0,hi,au,av,aw⟩:=info_parts Tryz.infoBytes;obtain⟨W1,u⟩:∃W1,w.alloc (.cells #[zQ] 156)=W1:=zJ;have ae:Below w w W1:=by rw[<-u];exact(aC _ _).alloc (aD _) _
 have az:W1.heap.size=w.heap.size+1:=by rw[<-u];simp
 have bS:Boxed W1 w 156 (.slice none 0 0):=by rw[<-u];exact Boxed.new w _ _
 obtain⟨HR,ab,ak,al⟩:=zH hr ae ag q;clear hr ag q ae;refine(callsIn_wide (n:=9)).1 ?_;refine callsIn_of_wp_marks func294 rfl trivial ?_ rfl;refine wpIn_wide.2 ?_;simp only[ntmps294,bD,List.length_cons,List.length_nil,Nat.reduceAdd,Nat.reduceSub,Array.replicate_succ,Array.replicate_zero,List.push_toArray,List.append_toArray,List.nil_append,List.cons_append];go_wp2_with fail
 clear u;refine(wpIn_wide (n:=9)).1 ?_;refine wpIn_rangeFunc_ownH (F:=Fence.wide) rfl zZ (gf:=295) (lb:=#[.pointer (some (zE b1)),.pointer (some (zE b2))]) rfl trivial (enters_of func295 zY rfl)
  (PE b1 b2 w ad m cap L f w HR.o hL ap rfl (9 - 1) zZ ak.o al.o) belowK_t (belowK_b zZ) ab.o (fun _ => rfl)
  (fun pre W =>(∃v,Boxed W w 156 v/\W.ownsRow w 61 1 v pre.length (pre.map C9.v)/\True)/\Below w w W)
  (fun _ _ _ => False)
  (OwnFrom.and (Own.from (holdsRow_own w w 156 61 1 (fun pre:List (C9 w) => pre.length) (fun pre => pre.map C9.v) (fun _ _ => True)) _) (ownFrom_below (aD _) zZ))
  (fun _ _ _ _ _ hs _ _ => hs)
  ⟨⟨_,bS,World.ownsRow_nil _ _ _ _,trivial⟩,ab.o⟩
  (fun x a' W => a'= { tmps:=#[.slice none 0 0,.func (.func 295) #[] #[.pointer (some (zE b1)),.pointer (some (zE b2))],.pointer (some (zE w)),undef,.slice none 0 0,x.v,.func (.func 295) #[] #[.pointer (some (zE b1)),.pointer (some (zE b2))],x.v,undef,undef,undef,undef,undef],defers:=[] })
  (fun _ _ _ _ _ _ hs _ _ => hs)
  ?assign ?body ?done ?stop
 case assign =>
  intro l pre x W K hI hK;have HK:=zq hK;have HI:=zq hI;clear hK hI;gi_wp2
  exact HK.o _ _ (KeepsFrom.refl _ _) (aC _ _) HI.o rfl
 case body =>
  rintro l pre ⟨xv,xl,xf,ax⟩ a' W hl ⟨r,hr⟩ ⟨⟨v,hv,i,-⟩,hB⟩ rfl a2;have hc:=hv.cell;have an:=hB.size;obtain⟨Ax,cx,rfl,-⟩:=rSl.head ax;have HB:=zq hB;clear hB;dsimp only;gi_wp2_with (gi_at_builtin;(refine wpListIn_append_own _ rfl _ _ 156 rfl w 61 i0 (.slice none 0 0) 1 24 underlying156 hi au av aw rfl zW _ _ _ rfl (i.alloc _) (zE W) 1 1 [.slice Ax xl.length cx] rfl rfl (cell_one_new _ _ _) zU (by unfold maxLen;omega) zZ zV ?_;intro v' w1 s z _;obtain⟨g',ay,rfl⟩:=ownsRow_succ s;obtain⟨aj,ar,aq,ao,q⟩:=hv.appended zW i an (aD _) s z;have a0:=aj.cell;have a1:=aj.frozen))
  refine⟨ao.from _,q,⟨_,ar,?_,trivial⟩,HB.o.T q⟩;simpa using aq
 case done =>
  rintro D ys W hD hS ⟨⟨v,hv,i,-⟩,hB⟩ hK;have hc:=hv.cell;obtain⟨HB,ac,p,HV⟩:=zH hB hK i hv;clear hB hK i hv;go_wp2_with fail
  refine⟨by simp,.inl ⟨_,_,rfl,run_takeDeferred ac.o,?_⟩⟩;obtain⟨A,c,e⟩:∃A c,v= .slice A ys.length c:=by
   rcases p.o.2 with⟨rfl,h0⟩|⟨g,cap,am,rfl,-⟩
   ·exact⟨none,0,by rw[h0]⟩
   ·exact⟨_,_,rfl⟩
  have y:ys.length=m:=by rw[<-bH (f:=C9.l),hS,CH]
  subst e;have aa:=p.o.kept (grownBy_putObj' W D (.deferred none)) (by
   rcases p.o.2 with⟨e0,_⟩|⟨g,cap,am,e0,_,ai,_⟩
   ·exact .inl (by rw[e0];rfl)
   ·refine .inr fun e' => ?_
    rw[e0]at e';have eg:g=D:=by simpa [Value.ownBlock]using e'
    rw[eg,ac.o]at ai;cases ai)
  have af:Below w w (W.putObj D (.deferred none)):=HB.o.grown (grownBy_putObj' _ D (.deferred none)) HB.o.size (fun k e => by injection e with e;omega);obtain⟨f',ah⟩:=Pc aa af;rw[hS,y]at ah;refine⟨_,results_tmp rfl _ _ _,A,c,f',by rw[<-y];rfl,ah,af⟩
 case stop =>
  rintro D c pre W _ _ h _;exact h.elim
theorem mulB_by1:∀a,a<256->En a 1=a:=by decide +kernel
theorem mulU_one(x:UInt8):Fz x 1=x:=by
 apply UInt8.toNat_inj.1
 rw[Jp];exact mulB_by1 _ (Hy x)
theorem Mk(l:List UInt8):BH l 1=l:=by
 unfold BH;rw[show(fun b => Fz b 1)=id from funext mulU_one];simp
theorem addS_one(a b:List UInt8):Et a b 1=EC a b:=by rw[Mx,Mk]
theorem TB {n k m:Nat}{c:List (List UInt8)}(hn:c.length=n)(r:k<n)(o:∀l,l∈c->l.length=m):E4 m c (Cz n k 0)=c[k]' zZ :=by
 have hb:c.length<=(Cz n k 0).length:=by rw[Bc];omega
 have hg:∀i,(p:i<n)->(Cz n k 0)[i]'(by rw[Bc];exact p)=if i=k then 1 else 0:=fun i p => by
  rw[Jj p];unfold Ci;rw[aJ zZ]
 have f:∀j,j<=n->ET m c (Cz n k 0) j=if j<=k then List.replicate m 0 else c[k]' zZ :=by
  intro j;induction j with
  |zero => intro _;rw[RX,aM zZ]
  |succ j ih =>
   intro q;rw[Ha zZ hb,ih zZ,hg j zZ];by_cases e:j=k
   ·subst e;rw[aM (aD _),aM rfl,aJ zZ];have:=o c[j] (aT _);rw[<-this,MX,Mk]
   ·rw[aJ e];by_cases h:j<=k
    ·rw[aM h,aM zZ];exact JL (by rw[o _ (aT _),List.length_replicate])
    ·rw[aJ h,aJ zZ];exact JL (by rw[o _ (aT _),o _ (aT _)])
 rw[<-Io hb];have:=f c.length zZ;rw[this,aJ zZ]
theorem GZ {L:List UInt8}{m:Nat}(h:L.length=4 * m):∀l,l∈Cp L m->l.length=4:=fun l e => by
 obtain⟨i,c,rfl⟩:=List.mem_map.1 e;have:=List.mem_range.1 c;simp;omega
def Gj(n:Nat)(L:List UInt8)(p:Nat):List UInt8:=E4 4 (Cp L n) (Cz n p 0)
def F3(n:Nat)(L:List UInt8)(k:Nat):List (List UInt8):=(List.range k).map (Gj n L)
def MC(n s:Nat)(L:List UInt8):List (List UInt8):=F3 n L (n+s)
theorem LS(n)(L:List UInt8)(k:Nat):F3 n L (k+1)=F3 n L k ++ [Gj n L k]:=by unfold F3;rw[List.range_succ,List.map_append];rfl
theorem EZ(n)(L:List UInt8)(k):(F3 n L k).length =k:=by simp[F3]
theorem IE(n s)(L:List UInt8):(MC n s L).length =n+s:=EZ _ _ _
theorem Gk {n:Nat}{L:List UInt8}(h:L.length=4 * n)(p):(Gj n L p).length =4:=FE (GZ h) (by rw[CH,Bc];exact aD _)
theorem SP {n:Nat}{L:List UInt8}(h:L.length=4 * n)(k:Nat):∀l,l∈F3 n L k->l.length=4:=fun l c => by
 obtain⟨i,_,rfl⟩:=List.mem_map.1 c;exact Gk h i
theorem Rq {n:Nat}{L:List UInt8}(h:L.length=4 * n):F3 n L n=Cp L n:=by
 apply bK
 ·rw[EZ,CH]
 ·intro i c e;rw[EZ]at c;simp only[F3,bI,List.getElem_range];exact TB (CH _ _) c (GZ h)
def Gg(L:List (List UInt8))(w:World)(e:Ending)(w':World):Prop :=
 ∃A c fs,e= .returned (.slice A L.length c)/\Az w' fs (.slice A L.length c) L/\Below w w w'
theorem SI(l n:Nat)(ad)(m cap:Nat)(L:List UInt8)(f w)(hr:Ah w f (.slice (some ad) (4 * m) cap) L)(u:L.length=4 * m)(q:m<=1000)(h:w.cell? ⟨l,0,none⟩=some (.slice (some ad) (4 * m) cap))(i:w.cell? ⟨n,0,none⟩=some (int i64 4)):
  Calls prog 289 #[.func (.func 295) #[] #[.pointer (some (zE l)),.pointer (some (zE n))]] w fun e w' =>∃A c p,e= .returned (.slice A m c)/\Az w' p (.slice A m c) (Cp L m)/\Below w w w':=by
 have s:=zq (PD l n ad m cap L f w hr u q h i);clear hr h i;go_enter func289,ntmps289
 go_wp2_with (go_at_call 294;refine s.o.M ?_;rintro e x ⟨A,c,p,rfl,r,b⟩;have R:=zq r;have B:=zq b;clear r b)
 go_ret
 exact⟨A,c,p,rfl,R.o,B.o⟩
theorem Qd(n s:Nat)(hn:n<=100)(c:s<=100)(w:World):Calls prog 291 #[.agg #[int i64 (n:Int),int i64 (s:Int)]] w (zN (int i64 ((n+s:Nat):Int)) w):=by
 go_enter func291,ntmps291
 go_wp2
 go_ret
 exact⟨by go_num,Ac (aC _ _) _⟩
theorem encode_c(n s:Nat)(v)(L:List UInt8)(f w)(h:Ah w f v L)(h1:1<=n)(h3:n<=3)(hs:s<=2)(hL:L.length=4 * n):
  Calls prog 281 #[.agg #[int i64 (n:Int),int i64 (s:Int)],v] w (Gg (MC n s L) w):=by
 obtain⟨A1,c1,rfl,a4,a5,hx⟩:=Ah.open_ h;obtain⟨ad,rfl,-⟩:=hx 0 zZ;rw[hL]at h⊢;clear hx a4 a5;have af:Below w w (w.alloc (.cells #[int i64 (n:Int),int i64 (s:Int)] 282)):=(aC _ _).alloc (aD _) _;have K1:=Blk.new w 282 #[int i64 (n:Int),int i64 (s:Int)];obtain⟨HR,aw,az⟩:=zI (h.B af) af K1;clear h af K1;go_enter func281,ntmps281
 go_wp2_with (go_at_call 290;refine(chunk_c _ _ _ _).M ?_;rintro e w2 ⟨rfl,rfl⟩)
 obtain⟨z,l⟩:∃z,((w.alloc (.cells #[int i64 (n:Int),int i64 (s:Int)] 282)).alloc (.cells #[.slice (some ad) (4 * n) c1] 61)).alloc (.cells #[int i64 4] 3)=z:=zJ;have x:Below (w.heap.size+1) (w.alloc (.cells #[int i64 (n:Int),int i64 (s:Int)] 282)) z:=by rw[<-l];exact((aC _ _).alloc zX _).alloc zX _
 have q1:z.cell? ⟨w.heap.size+1,0,none⟩=some (.slice (some ad) (4 * n) c1):=by rw[<-l];exact(((Blk.new1 w _ _ _).alloc _).cell 0).T rfl
 have q2:z.cell? ⟨w.heap.size+1+1,0,none⟩=some (int i64 4):=by rw[<-l];exact((Blk.new2 w _ _ _ _).cell 0).T rfl
 have HC:=zq (SI (w.heap.size+1) (w.heap.size+1+1) ad n c1 L f z (HR.o.B (x.M zX)) hL zZ q1 q2);have k3:Blk z w 282 #[int i64 (n:Int),int i64 (s:Int)]:=az.o.B x zZ;have B3:Below w w z:=aw.o.T (x.M zZ);rw[l];clear l q1 q2 x;refine HC.o.M ?_;rintro e w4 ⟨A4,c4,f4,rfl,r4,b4⟩;have k4:=k3.B b4 k3.lt;obtain⟨B4,R4,a8⟩:=zI (B3.T (b4.M B3.size)) r4 k4;have gz:w.heap.size<w4.heap.size:=k4.lt;have ao:w4.cell? ⟨w.heap.size,0,none⟩=some (int i64 (n:Int)):=(k4.cell 0).T rfl;have ap:w4.cell? ⟨w.heap.size,1,none⟩=some (int i64 (s:Int)):=(k4.cell 1).T rfl;clear HC k3 B3 r4 b4 k4;have a9:(w4.alloc (.cells #[] 61)).cell? ⟨w.heap.size,0,none⟩=some (int i64 (n:Int)):=((Ac (aC _ _) _).cell (p:=⟨w.heap.size,0,none⟩) gz).T ao;have ba:(w4.alloc (.cells #[] 61)).cell? ⟨w.heap.size,1,none⟩=some (int i64 (s:Int)):=((Ac (aC _ _) _).cell (p:=⟨w.heap.size,1,none⟩) gz).T ap;go_wp2_with (go_at_call 291;refine(Qd _ _ zZ zZ _).M ?_;rintro e w9 ⟨rfl,b9⟩;have B9:=zq b9;clear b9)
 have hE:=(Ak.emptyL (w:=w4)).B Az.loc Az.fix B9.o;have aq:=(Ac (aC w4 w4) (.cells #[] 61)).T (B9.o.M zX);have HE:=zq hE;have ay:=zq aq;clear hE aq;go_loopw [14,6,7] (fun i o _ wr =>∃(k:Nat) (A:Option Addr) (c3:Nat) (fo:List Addr),k<=n+s/\i=k/\o= .slice A k c3/\Ak 1 61 (Ai 1 Al) wr w4 o (F3 n L k) fo/\AL w4 wr fo/\Below w4 w4 wr) (fun i _ _ _ => n+s - (intOf i).toNat)
 ·exact⟨0,_,0,[],by omega,rfl,rfl,HE.o,GH,ay.o⟩
 ·obtain⟨k,A,c3,fo,hk,rfl,rfl,ho,ar,y⟩:=hrel;obtain⟨am,c,al⟩:=zI ho y ar;have a6:=(y.cell (p:=⟨w.heap.size,0,none⟩) gz).T ao;have a7:=(y.cell (p:=⟨w.heap.size,1,none⟩) gz).T ap;clear ho y ar;by_cases bc:k<n+s
  ·have ah:=zq (Hw n s k zZ zZ wr);have u:=zq (fun(W:World) (ab:Option Addr) (ac:Nat) (ae:List Addr) (hW:Below wr wr W) (h4:Ah W ae (.slice ab n ac) (Cz n k 0)) => MN (.slice A4 n c4) (.slice ab n ac) (Cp L n) (Cz n k 0) 4 f4 ae W (rSl.B Az.loc Az.fix R4.o (c.o.T (hW.M c.o.size))) h4 (by rw[CH];omega) (GZ hL) (by rw[CH,Bc];exact aD _) zZ);have au:=LS n L k;have q:=EZ n L k;obtain⟨ai,an,aj,ak⟩:=zH (Bc n k 0) au q (Gk hL k);have aa:E4 4 (Cp L n) (Cz n k 0)=Gj n L k:=rfl;rw[aa]at u;obtain⟨D,hD⟩:∃D,Gj n L k=D:=zJ;rw[hD]at u an ak;obtain⟨G,hG⟩:∃G,Cz n k 0=G:=zJ;rw[hG]at ah u ai;clear au q aa hD hG;go_wp2_with (first
    |(go_at_call 284;refine ah.o.M ?_;rintro e bd ⟨ab,ac,ae,rfl,r4,m4,b4⟩;rw[ai.o]at r4⊢;have a2:=zq r4;have r:=zq b4;clear r4 m4 b4)
    |(go_at_call 235;refine(u.o _ _ _ _ r.o a2.o).M ?_;rintro e w5 ⟨A5,c5,f5,rfl,r5,m5,b5⟩;rw[ak.o]at r5⊢;have ag:=zq (Tryz.addFresh (b:=w5.heap.size) am.o al.o c.o.size (by rw[aj.o];omega) (r.o.T (b5.M r.o.size)) r5 (m5.M r.o.size) (Ac (aC _ _) _) (Blk.new _ _ _));rw[aj.o,<-an.o]at ag;clear r5 m5 b5)
    |(at_builtin;refine An rfl (.tmp 17) (.tmp 23) 156 rfl _ _ zT zT ag.o ?_;rintro v6 w6 ⟨av,a3,bb,rfl,o6,m6,B6,e6⟩;have a1:=zq o6;have a0:=zq m6;have ax:=zq B6;clear o6 B6 m6))
   go_roundw
   ·exact⟨k+1,av,a3,_,by omega,by go_num,rfl,a1.o,a0.o,c.o.T ax.o⟩
   ·simp[intOf];omega
  ·obtain rfl:k=n+s:=by omega
   go_wp2
   go_ret
   obtain⟨gs,r8,m8⟩:=am.o.readsMine al.o;have q:=IE n s L;exact⟨A,c3,gs,by rw[q];rfl,by rw[q];exact r8,B4.o.T (c.o.M B4.o.size)⟩
theorem four_ok {i fs ad}{n c k:Nat}{L:List UInt8}(h:Ah i fs (.slice (some ad) n c) L)(hk:4 * k+4<=L.length):Ah i (Bf (ad.add (4 * k)) 4) (.slice (some (ad.add (4 * k))) 4 (c - 4 * k)) ((L.drop (4 * k)).take 4):=by
 obtain⟨u,x,e,z,h2,p⟩:=Ah.open_ h;injection e with f y o
 subst o;have s:((L.drop (4 * k)).take 4).length =4:=by simp;omega
 have:=Ah.close_ (w:=i) (ad:=ad.add (4 * k)) (c:=c - 4 * k) (bs:=(L.drop (4 * k)).take 4) zZ zZ (fun q hq => by
  obtain⟨l,e,-,-,r⟩:=p (4 * k+q) zZ;rw[e]at f;injection f with f
  subst f;rw[JK,r];simp)
 rw[s]at this;exact this
theorem Tryz.addAny {wr W:World}{base b}{v ve:Value}{ds:List (List UInt8)}{L:List UInt8}{fs f}(p:Ak 1 61 (Ai 1 Al) wr base v ds fs)(i:base<=wr.heap.size)(hn:ds.length+1<=1000000000)(l:Below wr wr W)(n:Blk W b 61 #[ve])(x:Ah W f ve L)(y:∀a,a∈f->a.block<base∨wr.heap.size<=a.block):
  ∃o w',(Builtin.append_ #[156,156] 156 #[v,.slice (some (zE b)) 1 1]).run prog W= .ok o w'/\∃A c h,o= .slice A (ds.length+1) c/\Ak 1 61 (Ai 1 Al) w' base o (ds ++ [L]) (fs ++ h)/\Below base wr w'/\wr.heap.size<=w'.heap.size/\h.Sublist f:=by
 have q:=p.B Az.loc Az.fix l;obtain⟨o,w',q1,h,r,q3,s,-⟩:=Ak.appendOne (P:=prog) 156 156 (.slice none 0 0) 24 underlying156 Tryz.infoBytes rfl zW Az.loc Az.fix Ai.ones base v ds fs q b [ve] f L rfl n ⟨ve,rfl,x⟩ (fun a u e => by
  have:=p.lt _ e;have:=y a u;omega) hn zZ (aZ i l.size)
 obtain⟨A,c,e,-⟩:=r.length;exact⟨o,w',q1,A,c,h,by rw[e];simp,r,Below.grown (l.M i) s (aZ i l.size) (fun k z =>(p.lt k z).1),aZ l.size s.size,q3⟩
theorem Tryz.addAll {wr v}{ds:List (List UInt8)}{f}(hr:Az wr f v ds)(hn:ds.length<=1000000000):
  ∃i w',(Builtin.append_ #[156,156] 156 #[.slice (some (zE wr)) 0 0,v]).run prog (wr.alloc (.cells #[] 61))= .ok i w'/\∃A c h,i= .slice A ds.length c/\Ak 1 61 (Ai 1 Al) w' wr i ds h/\Below wr wr w':=by
 have p:=rSl.there Az.fix hr;obtain⟨i,w',q,h,l,s,r,-⟩:=Ak.appendRun (P:=prog) 156 156 (.slice none 0 0) 24 underlying156 Tryz.infoBytes rfl zW Az.loc Az.fix Ai.ones wr _ [] [] (Ak.emptyL (w:=wr)) v ds f (rSl.B Az.loc Az.fix hr (Ac (aC wr wr) (.cells #[] 61))) (fun a n e => by
  simp[Value.ownBlock]at e;have:=p a n;omega) (by simpa using hn) zZ zX
 rw[List.nil_append]at l;obtain⟨A,c,e,-⟩:=l.length;exact⟨i,w',q,A,c,_,e,l,Below.grown (Ac (aC wr wr) (.cells #[] 61)) r zX (fun k o => by simp[Value.ownBlock]at o;omega)⟩
theorem RK(n s:Nat)(v)(L:List UInt8)(f w)(h:Ah w f v L)(h1:1<=n)(h3:n<=3)(hs:s<=2)(hL:L.length=4 * n):
  Calls prog 190 #[int i64 (n:Int),int i64 (s:Int),v] w (Gg (MC n s L) w):=by
 obtain⟨A1,c1,rfl,a7,bd,hx⟩:=Ah.open_ h;obtain⟨ad,rfl,-⟩:=hx 0 zZ;rw[hL]at h a7⊢;have HR:=zq h;have HL:=zq hL;clear hx h hL;go_enter func190,ntmps190
 go_wp2_with fail
 have HE:=zq (Ak.emptyL (w:=w));have aq:=zq (Ac (aC w w) (.cells #[] 61));go_loopw [8,7] (fun i o wr =>∃(k:Nat) (A:Option Addr) (c3:Nat) (fo:List Addr),k<=n/\i=k/\o= .slice A k c3/\Hid (Ak 1 61 (Ai 1 Al) wr w o ((Cp L n).take k) fo)/\Hid (AL w wr fo)/\Hid (Below w w wr)) (fun i _ _ => n - (intOf i).toNat)
 ·exact⟨0,_,0,[],by omega,rfl,rfl,HE.o,GH,aq.o⟩
 ·obtain⟨k,A,c3,fo,hk,rfl,rfl,HO,HM,HB⟩:=hrel;clear HE aq;have a2:=zq HB.o.size;by_cases a8:k<n
  ·have am:Ah wr (Bf (ad.add (4 * k)) 4) (.slice (some (ad.add (k * 4))) ((k+1) * 4 - k * 4) (c1 - k * 4)) ((L.drop (4 * k)).take 4):=by
    have:=four_ok (k:=k) (Ah.B HR.o HB.o) (by rw[HL.o];omega);rwa [show(k+1) * 4 - k * 4=4 by omega,show k * 4=4 * k by omega]
   have aa:((L.drop (4 * k)).take 4).length =4:=by have:=HL.o;simp;omega
   have an:=IA L n k a8;have ag:((Cp L n).take k).length =k:=by rw[aX,CH];omega
   obtain⟨D,hD⟩:∃D,(L.drop (4 * k)).take 4=D:=zJ;rw[hD]at am aa an;have ao:=zq (Tryz.freshRow (W:=wr.alloc (.cells #[] 5)) (base:=wr.heap.size) am ((aC _ _).alloc (aD _) _) (Blk.new _ _ _) (aD _) (aD _) zZ);rw[aa]at ao;obtain⟨a9,z,ac⟩:=zI aa an ag;clear am hD aa an ag;go_wp2_with (first
    |(at_builtin;refine An rfl (.tmp 18) (.tmp 25) 61 rfl _ _ zT zT ao.o ?_;rintro v7 w7 ⟨A7,c7,rfl,o7,r7⟩;have B7:=zq (Below.grown (show Below wr wr _ from(aC _ _).alloc (aD _) (.cells #[] 5)) r7 zX (fun q hq => by injection hq with hq;omega));have c:=zq (Tryz.addList (b:=w7.heap.size) HO.o HM.o a2.o (by rw[ac.o];omega) B7.o o7 ((aC _ _).alloc (aD _) _) (Blk.new _ _ _));rw[ac.o,<-z.o]at c;clear o7 r7)
    |(at_builtin;refine An rfl (.tmp 17) (.tmp 27) 156 rfl _ _ zT zT c.o ?_;rintro v8 w8 ⟨A8,c8,h8,rfl,o8,m8,b8,s8⟩;have O8:=zq o8;have M8:=zq m8;have B8:=zq b8;clear o8 m8 b8 s8))
   go_roundw
   ·exact⟨k+1,A8,c8,_,by omega,by go_num,rfl,O8.o,M8.o,HB.o.T B8.o⟩
   ·simp[intOf];omega
  ·obtain rfl:k=n:=by omega
   have ak:=CH L k;have ht:(Cp L k).take k=Cp L k:=bB zZ;rw[ht]at HO;obtain⟨q1,al,-⟩:=HO.o.reads;have p:=Tryz.addAll al zZ;rw[ak]at p;obtain⟨ae,a4,av⟩:=zI p al ak;clear p al ht ak;go_wp2_with (at_builtin;refine An rfl (.tmp 29) (.tmp 30) 156 rfl _ _ zT zT ae.o ?_;rintro v8 w8 ⟨A8,c8,h8,rfl,o8,b8⟩;have O8:=zq o8;have B8:=zq b8;clear o8 b8)
   obtain⟨u,hu⟩:∃u,u=wr:=zJ;subst hu;go_loopw [10,9] (fun i o az =>∃(j:Nat) (A:Option Addr) (c3:Nat) (fo:List Addr),j<=s/\i=j/\o= .slice A (k+j) c3/\Hid (Ak 1 61 (Ai 1 Al) az u o (F3 k L (k+j)) fo)/\Hid (Below u u az)) (fun i _ _ => s - (intOf i).toNat)
   ·exact⟨0,_,c8,h8,by omega,rfl,rfl,(show Ak _ _ _ _ _ _ _ _ by rw[bC,Rq HL.o];exact O8.o),B8.o⟩
   ·obtain⟨j,A9,c9,ba,hj,rfl,rfl,ax,x⟩:=hrel;clear ae O8 B8;have ab:=zq x.o.size;by_cases bc:j<s
    ·have e1:IntKind.i64.wrap ((k:Int)+(j:Int))=((k+j:Nat):Int):=by rw[IntWalk.i64_in _ zZ];omega
     have l:=ML k (k+j) 0 zZ zZ zZ wr;rw[Int.natCast_add]at l;have ap:=zq l;clear l;obtain⟨y,ar,z,au,aw⟩:=zG (fun(W:World) (ah:Option Addr) (ai:Nat) (aj:List Addr) (hW:Below wr wr W) (h4:Ah W aj (.slice ah k ai) (Cz k (k+j) 0)) => MK (.slice A k c3) (.slice ah k ai) (Cp L k) (Cz k (k+j) 0) 4 (q1 ++ fo) aj W (rSl.B Az.loc Az.fix a4.o (x.o.T (hW.M ab.o))) h4 (by rw[av.o];omega) (GZ HL.o) (by rw[av.o,Bc];exact aD _) zZ) (Bc k (k+j) 0) (LS k L (k+j)) (EZ k L (k+j)) (Gk HL.o (k+j));have af:E4 4 (Cp L k) (Cz k (k+j) 0)=Gj k L (k+j):=rfl;rw[af]at y;obtain⟨D,hD⟩:∃D,Gj k L (k+j)=D:=zJ;rw[hD]at y z aw;obtain⟨G,hG⟩:∃G,Cz k (k+j) 0=G:=zJ;rw[hG]at ap y ar;clear af hD hG;go_wp2_with (first
      |(go_at_call 243;refine ap.o.M ?_;rintro e be ⟨ah,ai,aj,rfl,r4,m4,b4⟩;rw[ar.o]at r4⊢;have a5:=zq r4;have r:=zq b4;clear r4 m4 b4)
      |(go_at_call 193;refine(y.o _ _ _ _ r.o a5.o).M ?_;rintro e w5 ⟨A5,c5,f5,rfl,r5,m5,b5⟩;rw[aw.o]at r5⊢;have c:=zq (Tryz.addAny (b:=w5.heap.size) (W:=w5.alloc (.cells #[.slice A5 4 c5] 61)) ax.o ab.o (by rw[au.o];omega) (Ac (r.o.T (b5.M r.o.size)) _) (Blk.new _ _ _) (Ah.B r5 (Ac (aC _ _) _)) (fun a ha => .inr (aZ r.o.size (m5.from_ a ha))));rw[au.o,<-z.o]at c;clear r5 m5 b5)
      |(at_builtin;refine An rfl (.tmp 37) (.tmp 45) 156 rfl _ _ zT zT c.o ?_;rintro v6 w6 ⟨a0,a6,bb,rfl,o6,B6,e6⟩;have a3:=zq o6;have a1:=zq B6;clear o6 B6))
     go_roundw
     ·exact⟨j+1,a0,a6,_,by omega,by go_num,rfl,a3.o,x.o.T a1.o⟩
     ·simp[intOf];omega
    ·obtain rfl:j=s:=by omega
     go_wp2
     go_ret
     obtain⟨gs,r8,-⟩:=ax.o.reads;have ay:=IE k j L;exact⟨A9,c9,_,by rw[ay];rfl,by rw[ay];exact r8,HB.o.T (x.o.M HB.o.size)⟩
