/-
  Part 6 of the proof; the last part states and proves the statement.
-/
import Derived.Test.YthbljikbnoghcaaGreatM00
import Derived.Sort.LotA
import Derived.Shelf.SlSortCmp.KitK
import Derived.Sort.WalkB2
import Derived.Sort.WalkB12
import Derived.Deep.LoopGhost
set_option maxHeartbeats 8000000
set_option maxRecDepth 100000
set_option linter.unusedVariables false
set_option linter.unusedSimpArgs false
open Go.Value (int)
open Go.IntKind (i64)
namespace Go.Proofs.YthbljikbnoghcaaGreat
open Go.Sort
open Go.Lib (hid)
variable {α:Type} [Inhabited α]
def ltI(lt:α→α→Bool)(ix:α→Nat)(x y:α):Bool:=lt x y||(!lt y x && decide (ix x<ix y))
section
variable {lt:α→α→Bool} {ix:α→Nat}
omit [Inhabited α]in
theorem Cp {x y:α}:ltI lt ix x y=false↔lt x y=false∧(lt y x=true∨ix y≤ix x):=by
 unfold ltI;cases lt x y <;> cases lt y x <;> simp
omit [Inhabited α]in
theorem ltI_true {x y:α}:ltI lt ix x y=true↔lt x y=true∨(lt y x=false∧ix x<ix y):=by
 unfold ltI;cases lt x y <;> cases lt y x <;> simp
omit [Inhabited α]in
theorem Ja(hS:SWO lt) {x y:α}(h:lt x y=true):lt y x=false:=by
 cases h2:lt y x with
 |false => rfl
 |true => have:=hS.trans _ _ _ h h2;rw[hS.irrefl]at this;cases this
omit [Inhabited α]in
theorem GB {x y:α}(h:ix y<ix x):ltI lt ix x y=lt x y:=by
 unfold ltI;cases lt x y <;> cases lt y x <;> simp <;> omega
omit [Inhabited α]in
theorem Ke(hS:SWO lt):SWO (ltI lt ix) where
 irrefl x:=by simp[ltI,hS.irrefl]
 trans x y z h1 h2:=by
  rw[ltI_true]at *;have n1:∀ {p q r:α},lt p q=true→lt r q=false→lt p r=true:=fun {p q r} a b => by
   cases h:lt p r with
   |true => rfl
   |false => have:=hS.ntrans _ _ _ h b;rw[a]at this;cases this
  have n2:∀ {p q r:α},lt p q=true→lt p r=false→lt r q=true:=fun {p q r} a b => by
   cases h:lt r q with
   |true => rfl
   |false => have:=hS.ntrans _ _ _ b h;rw[a]at this;cases this
  rcases h1 with h1|⟨h1,i1⟩
  ·rcases h2 with h2|⟨h2,i2⟩
   ·exact .inl (hS.trans _ _ _ h1 h2)
   ·exact .inl (n1 h1 h2)
  ·rcases h2 with h2|⟨h2,i2⟩
   ·refine .inl ?_;cases h:lt x z with
    |true => rfl
    |false => have:=hS.ntrans _ _ _ h1 h;rw[h2]at this;cases this
   ·exact .inr ⟨hS.ntrans _ _ _ h2 h1,by omega⟩
 ntrans x y z h1 h2:=by
  rw[Cp]at *;obtain⟨a1,b1⟩:=h1;obtain⟨a2,b2⟩:=h2;refine⟨hS.ntrans _ _ _ a1 a2,?_⟩;cases h:lt z x with
  |true => exact .inl rfl
  |false =>
   have c1:lt y x=false:=hS.ntrans _ _ _ a2 h;have c2:lt z y=false:=hS.ntrans _ _ _ h a1;rw[c1]at b1;rw[c2]at b2;simp at b1 b2;exact .inr (by omega)
end
def Asc(ix:α→Nat)(a b:Nat)(d:Array α):Prop:=∀p q,a≤p→p<q→q<b→ix d[p]! <ix d[q]!
theorem EM {lt:α→α→Bool} {ix:α→Nat}(a:Nat):∀(j:Nat) (d:Array α),j<d.size→(∀p,a≤p→p<j→ix d[p]! <ix d[j]!)→insInner (ltI lt ix) a j d=insInner lt a j d
 |0,d,_,_ => by unfold insInner;rfl
 |j+1,d,hj,h => by
  unfold insInner;by_cases ha:j+1>a
  ·rw[GB (h j (by omega) (by omega))];cases hl:lt d[j+1]! d[j]! with
   |false => simp
   |true =>
    simp only[ha,decide_true,Bool.and_self,if_true];refine EM a j _ (by rw[swp_size];omega) (fun p hp hpj => ?_);rw[swp_get d hj (by omega),swp_get d hj (by omega)];simp only[show p≠j by omega,show p≠j+1 by omega,show(j:Nat)≠j+1 by omega,if_false,if_true];exact h p hp (by omega)
  ·simp[show¬j+1>a by omega]
theorem EN {lt:α→α→Bool} {ix:α→Nat}(hS:SWO lt)(a b:Nat):∀(n i:Nat) (d:Array α),b - i=n→a<i→b≤d.size→SortedIn (ltI lt ix) a i d→(∀q,i≤q→q<b→∀p,a≤p→p<q→ix d[p]! <ix d[q]!)→insOuter (ltI lt ix) a b i d=insOuter lt a b i d
 |0,i,d,hn,_,_,_,_ => by
  rw[insOuter,if_neg (by omega),insOuter,if_neg (by omega)]
 |n+1,i,d,hn,hai,hb,hs,h => by
  have hlt:i<b:=by omega
  rw[insOuter,if_pos hlt,show insOuter lt a b i d=insOuter lt a b (i+1) (insInner lt a i d) by rw[insOuter,if_pos hlt],← EM (lt:=lt) (ix:=ix) a i d (by omega) (fun p hp hpi => h i (Nat.le_refl _) hlt p hp hpi)];have h1:=insInner_spec (Ke (ix:=ix) hS) swp_permIn permIn_refl permIn_trans a (i+1) i (Nat.lt_succ_self _) i d (by omega) (Nat.le_refl _) (by omega) ⟨fun p q hap hpq hqi _ hq => hs p q hap hpq (by omega),fun q h1 h2 => by omega⟩;refine EN hS a b n (i+1) _ (by omega) (by omega) (by rw[h1.1.1];exact hb) h1.2 (fun q hq hqb p hp hpq => ?_);rw[h1.1.2.1 q (.inr hq)];by_cases hpi:p<i+1
  ·exact permIn_all d _ a (i+1) (fun x => ix x<ix d[q]!) (by omega) h1.1 (fun r hr hri => h q (by omega) hqb r hr (by omega)) p hp hpi
  ·rw[h1.1.2.1 p (.inr (by omega))];exact h q (by omega) hqb p hp hpq
theorem EE {lt:α→α→Bool} {ix:α→Nat}(hS:SWO lt)(d:Array α)(a b:Nat)(hab:a≤b)(hb:b≤d.size)(h:Asc ix a b d):PermIn a b d (insertionSort lt d a b)∧SortedIn (ltI lt ix) a b (insertionSort lt d a b):=by
 have:=insertionSort_holds (Ke (ix:=ix) hS) d a b hab hb;have e:insertionSort (ltI lt ix) d a b=insertionSort lt d a b:=by
  unfold insertionSort;by_cases hab2:a<b
  ·exact EN hS a b _ (a+1) d rfl (by omega) hb (fun i j h1 h2 h3 => by omega) (fun q hq hqb p hp hpq => h p q hp hpq hqb)
  ·rw[insOuter,if_neg (by omega),insOuter,if_neg (by omega)]
 rwa [e]at this
def SwR(x y n:Nat)(d d':Array α):Prop:=d'.size=d.size∧(∀i,i<n→d'[x+i]! =d[y+i]!)∧(∀i,i<n→d'[y+i]! =d[x+i]!)∧∀i,(i<x∨x+n≤i)→(i<y∨y+n≤i)→d'[i]! =d[i]!
theorem SwR.zero(x y:Nat)(d:Array α):SwR x y 0 d d:=⟨rfl,fun _ h => by omega,fun _ h => by omega,fun _ _ _ => rfl⟩
theorem SwR.step {x y n:Nat} {d d':Array α}(h:SwR x y n d d')(hxy:x+n<y)(hy:y+n<d.size):SwR x y (n+1) d (swp d' (x+n) (y+n)):=by
 obtain⟨h1,h2,h3,h4⟩:=h;have g:=swp_get d' (show x+n<d'.size by omega) (show y+n<d'.size by omega);refine⟨by rw[swp_size];exact h1,fun i hi => ?_,fun i hi => ?_,fun i hx hy2 => ?_⟩
 ·rw[g,if_neg (by omega)];by_cases e:i=n
  ·subst e;rw[if_pos rfl];exact h4 _ (by omega) (by omega)
  ·rw[if_neg (by omega)];exact h2 i (by omega)
 ·rw[g];by_cases e:i=n
  ·subst e;rw[if_pos rfl];exact h4 _ (by omega) (by omega)
  ·rw[if_neg (by omega)];by_cases e2:y+i=x+n
   ·omega
   ·rw[if_neg e2];exact h3 i (by omega)
 ·rw[g,if_neg (by omega),if_neg (by omega)];exact h4 i (by omega) (by omega)
def Rot(a m b:Nat)(d d':Array α):Prop:=d'.size=d.size∧(∀i,i<b - m→d'[a+i]! =d[m+i]!)∧(∀i,i<m - a→d'[a+(b - m)+i]! =d[a+i]!)∧∀i,i<a∨b≤i→d'[i]! =d[i]!
theorem Rot.none {a m b:Nat}(d:Array α)(h:a=m∨m=b)(ham:a≤m)(hmb:m≤b):Rot a m b d d:=by
 refine⟨rfl,fun i hi => ?_,fun i hi => ?_,fun _ _ => rfl⟩
 ·rcases h with rfl|rfl
  ·rfl
  ·omega
 ·rcases h with rfl|rfl
  ·omega
  ·simp
theorem Rot.last {m i:Nat} {d d':Array α}(h:SwR (m - i) m i d d')(hi:i≤m):Rot (m - i) m (m+i) d d':=by
 obtain⟨h1,h2,h3,h4⟩:=h;refine⟨h1,fun k hk => h2 k (by omega),fun k hk => ?_,fun k hk => h4 k (by omega) (by omega)⟩;rw[show m - i+(m+i - m)+k=m+k by omega];exact h3 k (by omega)
theorem Rot.left {m i j:Nat} {d d1 d':Array α}(h:SwR (m - i) m j d d1)(hij:j<i)(hi:i≤m)(hr:Rot (m - (i - j)) m (m+j) d1 d'):Rot (m - i) m (m+j) d d':=by
 obtain⟨h1,h2,h3,h4⟩:=h;obtain⟨r1,r2,r3,r4⟩:=hr;refine⟨r1.trans h1,fun k hk => ?_,fun k hk => ?_,fun k hk => ?_⟩
 ·rw[r4 _ (.inl (by omega))];exact h2 k (by omega)
 ·rw[show m - i+(m+j - m)+k=m - (i - j)+k by omega];by_cases hkj:k<j
  ·rw[r2 k (by omega)];exact h3 k hkj
  ·have:=r3 (k - j) (by omega);rw[show m - (i - j)+(m+j - m)+(k - j)=m - (i - j)+k by omega,show m - (i - j)+(k - j)=m - i+k by omega]at this;rw[this];exact h4 _ (by omega) (by omega)
 ·rw[r4 _ (by omega)];exact h4 _ (by omega) (by omega)
theorem Rot.right {m i j:Nat} {d d1 d':Array α}(h:SwR (m - i) (m+j - i) i d d1)(hij:i<j)(hi:i≤m)(hr:Rot (m - i) m (m+(j - i)) d1 d'):Rot (m - i) m (m+j) d d':=by
 obtain⟨h1,h2,h3,h4⟩:=h;obtain⟨r1,r2,r3,r4⟩:=hr;refine⟨r1.trans h1,fun k hk => ?_,fun k hk => ?_,fun k hk => ?_⟩
 ·by_cases hkj:k<j - i
  ·rw[r2 k (by omega)];exact h4 _ (by omega) (by omega)
  ·have:=r3 (k - (j - i)) (by omega);rw[show m - i+(m+(j - i) - m)+(k - (j - i))=m - i+k by omega]at this;rw[this,h2 _ (by omega)];congr 1
   omega
 ·rw[r4 _ (by omega)];have:=h3 k (by omega);rw[show m+j - i+k=m - i+(m+j - m)+k by omega]at this;exact this
 ·rw[r4 _ (by omega)];exact h4 _ (by omega) (by omega)
def Up(x y:Nat)(d d':Array α):Prop:=d'.size=d.size∧(∀i,x≤i→i<y→d'[i]! =d[i+1]!)∧d'[y]! =d[x]!∧∀i,i<x∨y<i→d'[i]! =d[i]!
theorem Up.zero(x:Nat)(d:Array α):Up x x d d:=⟨rfl,fun _ h1 h2 => by omega,rfl,fun _ _ => rfl⟩
theorem Up.step {x y:Nat} {d d':Array α}(h:Up x y d d')(hxy:x≤y)(hy:y+1<d.size):Up x (y+1) d (swp d' y (y+1)):=by
 obtain⟨h1,h2,h3,h4⟩:=h;have g:=swp_get d' (show y<d'.size by omega) (show y+1<d'.size by omega);refine⟨by rw[swp_size];exact h1,fun i hi hiy => ?_,?_,fun i hi => ?_⟩
 ·rw[g,if_neg (by omega)];by_cases e:i=y
  ·subst e;rw[if_pos rfl];exact h4 _ (.inr (by omega))
  ·rw[if_neg e];exact h2 i hi (by omega)
 ·rw[g,if_pos rfl];exact h3
 ·rw[g,if_neg (by omega),if_neg (by omega)];exact h4 i (by omega)
def FG(x y:Nat)(d d':Array α):Prop:=d'.size=d.size∧(∀i,x<i→i≤y→d'[i]! =d[i - 1]!)∧d'[x]! =d[y]!∧∀i,i<x∨y<i→d'[i]! =d[i]!
theorem FG.zero(x:Nat)(d:Array α):FG x x d d:=⟨rfl,fun _ h1 h2 => by omega,rfl,fun _ _ => rfl⟩
theorem FG.step {x y:Nat} {d d':Array α}(h:FG (x+1) y d d')(hxy:x+1≤y)(hy:y<d.size):FG x y d (swp d' (x+1) x):=by
 obtain⟨h1,h2,h3,h4⟩:=h;have g:=swp_get d' (show x+1<d'.size by omega) (show x<d'.size by omega);refine⟨by rw[swp_size];exact h1,fun i hi hiy => ?_,?_,fun i hi => ?_⟩
 ·rw[g,if_neg (by omega)];by_cases e:i=x+1
  ·subst e;rw[if_pos rfl,h4 _ (.inl (by omega))];congr 1
  ·rw[if_neg e];exact h2 i (by omega) hiy
 ·rw[g,if_pos rfl];exact h3
 ·rw[g,if_neg (by omega),if_neg (by omega)];exact h4 i (by omega)
section
variable (lt:α→α→Bool) (ix:α→Nat)
structure Pre (a m b:Nat) (d:Array α):Prop where
 am:a≤m
 mb:m≤b
 hb:b≤d.size
 left:SortedIn (ltI lt ix) a m d
 right:SortedIn (ltI lt ix) m b d
 cross:∀p q,a≤p→p<m→m≤q→q<b→ix d[p]! <ix d[q]!
def Dp(a b:Nat)(d d':Array α):Prop:=PermIn a b d d'∧SortedIn (ltI lt ix) a b d'
end
variable {lt:α→α→Bool} {ix:α→Nat} {a m b:Nat} {d d1 d2 d':Array α}
theorem Pre.done(h:Pre lt ix a m b d)(he:a=m∨m=b):Dp lt ix a b d d:=by
 refine⟨permIn_refl _ _ _,?_⟩;rcases he with rfl|rfl
 ·exact h.right
 ·exact h.left
theorem Pre.ll(h:Pre lt ix a m b d) {p q:Nat}(hp:a≤p)(hpq:p≤q)(hq:q<m)(hS:SWO lt):lt d[q]! d[p]! =false:=by
 rcases Nat.lt_or_ge p q with h1|h1
 ·exact(Cp.1 (h.left p q hp h1 hq)).1
 ·obtain rfl:p=q:=by omega
  exact hS.irrefl _
theorem Pre.rr(h:Pre lt ix a m b d) {p q:Nat}(hp:m≤p)(hpq:p≤q)(hq:q<b)(hS:SWO lt):lt d[q]! d[p]! =false:=by
 rcases Nat.lt_or_ge p q with h1|h1
 ·exact(Cp.1 (h.right p q hp h1 hq)).1
 ·obtain rfl:p=q:=by omega
  exact hS.irrefl _
theorem Pre.lr(h:Pre lt ix a m b d) {p q:Nat}(hp:a≤p)(hpm:p<m)(hq:m≤q)(hqb:q<b):ltI lt ix d[q]! d[p]! =lt d[q]! d[p]!:=GB (h.cross p q hp hpm hq hqb)
theorem Pre.rl(hS:SWO lt)(_h:Pre lt ix a m b d) {p q:Nat}(hl:lt d[q]! d[p]! =true):ltI lt ix d[p]! d[q]! =false:=Cp.2 ⟨Ja hS hl,.inl hl⟩
theorem Pre.oneLeft(hS:SWO lt)(h:Pre lt ix a m b d) {i:Nat}(hm:m=a+1)(hi:m≤i)(hib:i≤b)(h1:∀q,m≤q→q<i→lt d[q]! d[a]! =true)(h2:∀q,i≤q→q<b→lt d[q]! d[a]! =false)(hU:Up a (i - 1) d d')(hP:PermIn a b d d'):Dp lt ix a b d d':=by
 obtain⟨u1,u2,u3,u4⟩:=hU;refine⟨hP,fun p q hap hpq hqb => ?_⟩;rcases Nat.lt_trichotomy p (i - 1)with hp|hp|hp
 ·rw[u2 p hap hp];rcases Nat.lt_trichotomy q (i - 1)with hq|hq|hq
  ·rw[u2 q (by omega) hq];exact h.right _ _ (by omega) (by omega) (by omega)
  ·subst hq;rw[u3];exact h.rl hS (h1 _ (by omega) (by omega))
  ·rw[u4 q (.inr hq)];exact h.right _ _ (by omega) (by omega) hqb
 ·subst hp;rw[u3,u4 q (.inr hpq),h.lr (Nat.le_refl _) (by omega) (by omega) hqb];exact h2 q (by omega) hqb
 ·rw[u4 p (.inr hp),u4 q (.inr (by omega))];exact h.right _ _ (by omega) hpq hqb
theorem Pre.oneRight(hS:SWO lt)(h:Pre lt ix a m b d) {i:Nat}(hm:b=m+1)(hi:a≤i)(him:i≤m)(h1:∀q,a≤q→q<i→lt d[m]! d[q]! =false)(h2:∀q,i≤q→q<m→lt d[m]! d[q]! =true)(hD:FG i m d d')(hP:PermIn a b d d'):Dp lt ix a b d d':=by
 obtain⟨u1,u2,u3,u4⟩:=hD;refine⟨hP,fun p q hap hpq hqb => ?_⟩;rcases Nat.lt_trichotomy q i with hq|hq|hq
 ·rw[u4 p (.inl (by omega)),u4 q (.inl hq)];exact h.left _ _ hap hpq (by omega)
 ·subst hq;rw[u3,u4 p (.inl hpq),h.lr hap (by omega) (Nat.le_refl _) (by omega)];exact h1 p hap hpq
 ·rw[u2 q hq (by omega)];rcases Nat.lt_trichotomy p i with hp|hp|hp
  ·rw[u4 p (.inl hp)];exact h.left _ _ hap (by omega) (by omega)
  ·subst hp;rw[u3];exact h.rl hS (h2 _ (by omega) (by omega))
  ·rw[u2 p hp (by omega)];exact h.left _ _ (by omega) (by omega) (by omega)
theorem Pre.cut(hS:SWO lt)(h:Pre lt ix a m b d) {s e mid:Nat}(hsm:s≤m)(hme:m≤e)(has:a≤s)(heb:e≤b)(hse:s+e=mid+m)(hC1:s=a∨e=b∨lt d[e]! d[s - 1]! =false)(hC2:s=m∨e=m∨lt d[e - 1]! d[s]! =true)(hR:Rot s m e d d1) :
  Pre lt ix a s mid d1∧Pre lt ix mid e b d1∧∀p q,a≤p→p<mid→mid≤q→q<b→ltI lt ix d1[q]! d1[p]! =false:=by
 obtain⟨r1,r2,r3,r4⟩:=hR;have g1:∀i,i<s→d1[i]! =d[i]!:=fun i hi => r4 i (.inl hi)
 have g2:∀i,s≤i→i<mid→d1[i]! =d[m+(i - s)]!:=fun i hi him => by
  have:=r2 (i - s) (by omega);rwa [show s+(i - s)=i by omega]at this
 have g3:∀i,mid≤i→i<e→d1[i]! =d[s+(i - mid)]!:=fun i hi hie => by
  have:=r3 (i - mid) (by omega);rwa [show s+(e - m)+(i - mid)=i by omega]at this
 have g4:∀i,e≤i→d1[i]! =d[i]!:=fun i hi => r4 i (.inr hi)
 refine⟨⟨has,by omega,by rw[r1];have:=h.hb;omega,fun p q hap hpq hq => ?_,fun p q hp hpq hq => ?_,fun p q hap hp hq hqm => ?_⟩,⟨by omega,heb,by rw[r1];exact h.hb,fun p q hap hpq hq => ?_,fun p q hp hpq hq => ?_,fun p q hap hp hq hqm => ?_⟩,fun p q hap hp hq hqb => ?_⟩
 ·rw[g1 p (by omega),g1 q hq];exact h.left _ _ hap hpq (by omega)
 ·rw[g2 p hp (by omega),g2 q (by omega) hq];exact h.right _ _ (by omega) (by omega) (by omega)
 ·rw[g1 p hp,g2 q hq hqm];exact h.cross _ _ hap (by omega) (by omega) (by omega)
 ·rw[g3 p hap (by omega),g3 q (by omega) hq];exact h.left _ _ (by omega) (by omega) (by omega)
 ·rw[g4 p hp,g4 q (by omega)];exact h.right _ _ (by omega) hpq hq
 ·rw[g3 p hap hp,g4 q hq];exact h.cross _ _ (by omega) (by omega) (by omega) (by omega)
 ·by_cases hps:p<s
  ·rw[g1 p hps];by_cases hqe:q<e
   ·rw[g3 q hq hqe];exact h.left _ _ hap (by omega) (by omega)
   ·rw[g4 q (by omega),h.lr hap (by omega) (by omega) hqb];rcases hC1 with hc|hc|hc
    ·omega
    ·omega
    ·exact hS.ntrans _ _ _ (h.rr hme (by omega) hqb hS) (hS.ntrans _ _ _ hc (h.ll hap (by omega) (by omega) hS))
  ·rw[g2 p (by omega) hp];by_cases hqe:q<e
   ·rw[g3 q hq hqe];refine h.rl hS (p:=s+(q - mid)) (q:=m+(p - s)) ?_;rcases hC2 with hc|hc|hc
    ·omega
    ·omega
    ·cases hl:lt d[m+(p - s)]! d[s+(q - mid)]! with
     |true => rfl
     |false =>
      have k1:=h.rr (p:=m+(p - s)) (q:=e - 1) (by omega) (by omega) (by omega) hS;have k2:=h.ll (p:=s) (q:=s+(q - mid)) has (by omega) (by omega) hS;have:=hS.ntrans _ _ _ (hS.ntrans _ _ _ k1 hl) k2;rw[hc]at this;cases this
   ·rw[g4 q (by omega)];exact h.right _ _ (by omega) (by omega) hqb
theorem Pre.beside {x y:Nat}(h:Pre lt ix a m b d)(hP:PermIn x y d d')(hxy:y≤a∨b≤x):Pre lt ix a m b d':=by
 obtain⟨p1,p2,-⟩:=hP;have g:∀i,a≤i→i<b→d'[i]! =d[i]!:=fun i h1 h2 => p2 i (by omega)
 have:=h.am;have:=h.mb;refine⟨h.am,h.mb,by rw[p1];exact h.hb,fun p q hp hpq hq => ?_,fun p q hp hpq hq => ?_,fun p q hp hpm hq hqb => ?_⟩
 ·rw[g p hp (by omega),g q (by omega) (by omega)];exact h.left p q hp hpq hq
 ·rw[g p (by omega) (by omega),g q (by omega) hq];exact h.right p q hp hpq hq
 ·rw[g p hp (by omega),g q (by omega) hqb];exact h.cross p q hp hpm hq hqb
theorem Dp.join {mid:Nat}(h0:PermIn a b d d1)(hX:∀p q,a≤p→p<mid→mid≤q→q<b→ltI lt ix d1[q]! d1[p]! =false)(ham:a≤mid)(hmb:mid≤b)(hb:b≤d.size)(h1:Dp lt ix a mid d1 d2)(h2:Dp lt ix mid b d2 d'):Dp lt ix a b d d':=by
 have z1:d1.size=d.size:=h0.1;have z2:d2.size=d1.size:=h1.1.1;refine⟨permIn_trans _ _ _ _ _ h0 (permIn_trans _ _ _ _ _ (permIn_mono _ _ _ _ _ _ (Nat.le_refl _) hmb (by omega) h1.1) (permIn_mono _ _ _ _ _ _ ham (Nat.le_refl _) (by omega) h2.1)),fun p q hap hpq hqb => ?_⟩;by_cases hq:q<mid
 ·rw[h2.1.2.1 p (.inl (by omega)),h2.1.2.1 q (.inl hq)];exact h1.2 p q hap hpq hq
 ·by_cases hp:mid≤p
  ·exact h2.2 p q hp hpq hqb
  ·rw[h2.1.2.1 p (.inl (by omega))];have k1:∀y,mid≤y→y<b→ltI lt ix d1[y]! d2[p]! =false:=fun y hy hyb =>
    permIn_all d1 d2 a mid (fun x => ltI lt ix d1[y]! x=false) (by omega) h1.1 (fun x hx hxm => hX x y hx hxm hy hyb) p hap (by omega)
   refine permIn_all d2 d' mid b (fun y => ltI lt ix y d2[p]! =false) (by omega) h2.1 (fun y hy hyb => ?_) q (by omega) hqb;rw[h1.1.2.1 y (.inr hy)];exact k1 y hy hyb
theorem FQ {K c i:Nat}(h1:K * c≤i)(h2:i<K * c+K):i / K=c :=
 Nat.div_eq_of_lt_le (by rw[Nat.mul_comm];exact h1) (by rw[Nat.mul_comm,Nat.mul_add,Nat.mul_one];exact h2)
structure Stg (lt:α→α→Bool) (ix:α→Nat) (K x n:Nat) (d:Array α):Prop where
 size:d.size=n
 home:∀i,i<n→ix d[i]! / K=i / K
 low:∀p q,p<q→q<x→p / K=q / K→ltI lt ix d[q]! d[p]! =false
theorem Stg.step {K c x y n:Nat}(h:Stg lt ix K x n d)(hx:x=K * c)(hyK:y≤x+K)(hy:y≤n)(hP:Dp lt ix x y d d'):Stg lt ix K y n d':=by
 obtain⟨⟨p1,p2,p3⟩,hs⟩:=hP;have hsz:=h.size;refine⟨p1.trans h.size,fun i hi => ?_,fun p q hpq hq hd => ?_⟩
 ·by_cases hin:x≤i∧i<y
  ·rw[FQ (K:=K) (c:=c) (i:=i) (by omega) (by omega)];refine permIn_all d d' x y (fun v => ix v / K=c) (by omega) ⟨p1,p2,p3⟩ (fun j hj hjy => ?_) i hin.1 hin.2;rw[h.home j (by omega)];exact FQ (by omega) (by omega)
  ·rw[p2 i (by omega)];exact h.home i hi
 ·by_cases hqx:q<x
  ·rw[p2 p (.inl (by omega)),p2 q (.inl hqx)];exact h.low p q hpq hqx hd
  ·by_cases hpx:x≤p
   ·exact hs p q hpx hpq hq
   ·exfalso
    rw[FQ (K:=K) (c:=c) (i:=q) (by omega) (by omega)]at hd;have hpc:p<c * K:=by rw[Nat.mul_comm];omega
    have:=Nat.div_lt_of_lt_mul (show p<K * c by omega);omega
theorem Stg.wide {K x n:Nat}(h:Stg lt ix K x n d)(hl:∀p q,x≤p→p<q→q<n→ltI lt ix d[q]! d[p]! =false) {c:Nat}(hx:x=K * c)(hn:n≤x+K):Stg lt ix K n n d:=by
 refine⟨h.size,h.home,fun p q hpq hq hd => ?_⟩;by_cases hqx:q<x
 ·exact h.low p q hpq hqx hd
 ·by_cases hpx:x≤p
  ·exact hl p q hpx hpq hq
  ·exfalso
   rw[FQ (K:=K) (c:=c) (i:=q) (by omega) (by omega)]at hd;have:=Nat.div_lt_of_lt_mul (show p<K * c by omega);omega
theorem Stg.two {k n:Nat}(h:Stg lt ix k n n d):Stg lt ix (2 * k) 0 n d :=
 ⟨h.size,fun i hi => by rw[Nat.mul_comm,← Nat.div_div_eq_div_mul,← Nat.div_div_eq_div_mul,h.home i hi],fun p q _ hq => by omega⟩
structure ET (lt:α→α→Bool) (ix:α→Nat) (k x n:Nat) (d:Array α):Prop where
 home:∀i,x≤i→i<n→ix d[i]! / k=i / k
 high:∀p q,x≤p→p<q→q<n→p / k=q / k→ltI lt ix d[q]! d[p]! =false
theorem Stg.rest {k n:Nat}(h:Stg lt ix k n n d):ET lt ix k 0 n d:=⟨fun i _ hi => h.home i hi,fun p q _ hpq hq hd => h.low p q hpq hq hd⟩
theorem ET.step {k x y n:Nat}(h:ET lt ix k x n d)(hxy:x≤y)(hP:PermIn x y d d'):ET lt ix k y n d' :=
 ⟨fun i hi hin => by rw[hP.2.1 i (.inr hi)];exact h.home i (by omega) hin,fun p q hp hpq hq hd => by rw[hP.2.1 p (.inr hp),hP.2.1 q (.inr (by omega))];exact h.high p q (by omega) hpq hq hd⟩
theorem ET.pre {k c x y n:Nat}(h:ET lt ix k x n d)(hz:d.size=n)(hx:x=2 * k * c)(hm:x+k≤y)(hyk:y≤x+2 * k)(hy:y≤n):Pre lt ix x (x+k) y d:=by
 have e1:x=k * (2 * c):=by rw[hx,Nat.mul_comm 2 k,Nat.mul_assoc]
 have e2:x+k=k * (2 * c+1):=by rw[Nat.mul_add,← e1,Nat.mul_one]
 have d1:∀i,x≤i→i<x+k→i / k=2 * c:=fun i h1 h2 => FQ (by omega) (by omega)
 have d2:∀i,x+k≤i→i<y→i / k=2 * c+1:=fun i h1 h2 => FQ (by omega) (by omega)
 refine⟨by omega,hm,by omega,fun p q hp hpq hq => h.high p q hp hpq (by omega) (by rw[d1 p hp (by omega),d1 q (by omega) hq]),fun p q hp hpq hq => h.high p q (by omega) hpq (by omega) (by rw[d2 p hp (by omega),d2 q (by omega) hq]),fun p q hp hpm hq hqy => ?_⟩;have h1:=h.home p hp (by omega);have h2:=h.home q (by omega) (by omega);rw[d1 p hp hpm]at h1;rw[d2 q hq hqy]at h2;rcases Nat.lt_or_ge (ix d[p]!) (ix d[q]!)with hlt|hge
 ·exact hlt
 ·have:=Nat.div_le_div_right (c:=k) hge;omega
theorem ET.alone {k c x n:Nat}(h:ET lt ix k x n d)(hx:x=2 * k * c)(hn:n≤x+k):∀p q,x≤p→p<q→q<n→ltI lt ix d[q]! d[p]! =false:=fun p q hp hpq hq => by
 have e1:x=k * (2 * c):=by rw[hx,Nat.mul_comm 2 k,Nat.mul_assoc]
 exact h.high p q hp hpq hq (by rw[FQ (K:=k) (c:=2 * c) (i:=p) (by omega) (by omega),FQ (K:=k) (c:=2 * c) (i:=q) (by omega) (by omega)])
theorem Stg.all {k n:Nat}(h:Stg lt ix k n n d)(hk:n≤k):SortedIn (ltI lt ix) 0 n d:=fun p q _ hpq hq =>
 h.low p q hpq hq (by rw[Nat.div_eq_of_lt (show p<k by omega),Nat.div_eq_of_lt (show q<k by omega)])
end Go.Proofs.YthbljikbnoghcaaGreat
namespace Go.Proofs.YthbljikbnoghcaaGreat
open Go.Shelf Go.RowKit Go.Lib Go.Sort
variable {α:Type} [Inhabited α]
theorem Any2.aR(w:World):(isAgg 76).run Tryz.prog w= .ok true w:=Tryz.isAgg76 w
theorem Any2.zR(w:World):(Go.sizeOf 76).run Tryz.prog w= .ok 9 w:=Tryz.sizeOf76 w
theorem E7(k:Nat)(zR:∀w,(Go.sizeOf 76).run Tryz.prog w= .ok k w)(enc:α→List Value)(g:Nat)(cb:Array Value)(blk off cap x y n:Nat)(d0 d:Array α)(w0 w:World)
  (R:RowK enc k w0 blk off d0) (hs:d0.size=d.size) (S:SWK enc k w0 blk off d w) (hxy:x+n≤y) (hy:y+n≤d.size) (hsz:d.size<4611686018427387904) :
  Calls Tryz.prog 271 #[.slice (some ⟨blk,off,none⟩) d.size cap,int i64 x,int i64 y,int i64 n,.func (.func g) #[] cb] w fun e w' => e= .returned (.tuple #[])∧∃d',SWK enc k w0 blk off d' w'∧SwR x y n d d'∧∀a b,a≤x→y+n≤b→b≤d.size→PermIn a b d d':=by
 have S0:Aside (SWK enc k w0 blk off d w):=S;clear S;go_enter Tryz.func271,Tryz.ntmps271
 go_wp2
 go_loopw [10] (fun v wr =>∃(i:Nat) (dk:Array α),i≤n∧v= int i64 i∧dk.size=d.size∧Aside (SWK enc k w0 blk off dk wr)∧Hid (SwR x y i d dk)∧Hid (∀a b,a≤x→y+n≤b→b≤d.size→PermIn a b d dk)) (fun v _ => n - (intOf v).toNat)
 case atStart => exact⟨0,d,by omega,rfl,rfl,S0,SwR.zero _ _ _,fun _ _ _ _ _ => permIn_refl _ _ _⟩
 case round =>
  clear S0;obtain⟨i,dk,hi,rfl,hds,S1,HR,HP⟩:=hrel;by_cases hlt:i<n
  ·have hltz:(i:Int)<(n:Int):=by omega
   go_wp2_with fail
   have ea:((x:Int)+(i:Int)).toNat =x+i:=by omega
   have pa:(0:Int)≤(x:Int)+(i:Int):=by omega
   have ba:(x:Int)+(i:Int)<(d.size:Int):=by omega
   have ra:IntKind.i64.wrap ((x:Int)+(i:Int))=(x:Int)+(i:Int):=by rw[IntKind.wrap_i64];omega
   have ec:((y:Int)+(i:Int)).toNat =y+i:=by omega
   have pc:(0:Int)≤(y:Int)+(i:Int):=by omega
   have bc:(y:Int)+(i:Int)<(d.size:Int):=by omega
   have rc:IntKind.i64.wrap ((y:Int)+(i:Int))=(y:Int)+(i:Int):=by rw[IntKind.wrap_i64];omega
   have S2:Aside (SWK enc k w0 blk off (swp dk (x+i) (y+i)) ((wr.drew.setCells blk (off+(x+i) * k) (enc dk[y+i]!)).setCells blk (off+(y+i) * k) (enc dk[x+i]!))):=S1.out.swapped R (x+i) (y+i) (by omega) (by omega);have l1:=S1.out.ld1 R (by omega) Tryz.prog (x+i) (by omega);have l2:=S1.out.ld1 R (by omega) Tryz.prog (y+i) (by omega);have s1:=S1.out.st1 R (by omega) Tryz.prog (x+i) (by omega) dk[y+i]!;have s2:=S1.out.st2 R (by omega) Tryz.prog (x+i) (y+i) (by omega) (by omega) dk[y+i]! dk[x+i]!;have n1:(enc dk[x+i]!).length =k:=R.hk _;have n2:(enc dk[y+i]!).length =k:=R.hk _;have mixed:Tryz.prog.follows .mixedOrders =true:=by kernel_rfl
   have aR:=Any2.aR;generalize enc dk[x+i]! =cI at S2 l1 s2 n1;generalize enc dk[y+i]! =cJ at S2 l2 s1 s2 n2;clear S1;go_big_region_o
   clear l1 l2 s1 s2;generalize(wr.drew.setCells blk (off+(x+i) * k) cJ).setCells blk (off+(y+i) * k) cI=w2 at S2⊢;go_wp2
   go_roundw
   case rel => exact⟨i+1,_,by omega,by go_num,by rw[swp_size];exact hds,S2,SwR.step HR.out (by omega) (by omega),fun a b ha hb hbd => permIn_trans _ _ _ _ _ (HP.out a b ha hb hbd) (swp_permIn _ _ _ _ _ (by omega) (by omega) (by omega) (by omega) (by omega))⟩
   case measure => simp[intOf];omega
  ·obtain rfl:i=n:=by omega
   go_wp2_with fail
   go_end0
   exact⟨rfl,dk,S1.out,HR.out,HP.out⟩
theorem rotate_c(k:Nat)(zR:∀w,(Go.sizeOf 76).run Tryz.prog w= .ok k w)(enc:α→List Value)(g:Nat)(cb:Array Value)(blk off cap a m b:Nat)(d0 d:Array α)(w0 w:World)
  (R:RowK enc k w0 blk off d0) (hs:d0.size=d.size) (S:SWK enc k w0 blk off d w) (ham:a<m) (hmb:m<b) (hb:b≤d.size) (hsz:d.size<4611686018427387904) :
  Calls Tryz.prog 269 #[.slice (some ⟨blk,off,none⟩) d.size cap,int i64 a,int i64 m,int i64 b,.func (.func g) #[] cb] w fun e w' => e= .returned (.tuple #[])∧∃d',SWK enc k w0 blk off d' w'∧Rot a m b d d'∧PermIn a b d d':=by
 have S0:Aside (SWK enc k w0 blk off d w):=S;clear S;have r1:(m:Int) - (a:Int)=((m - a:Nat):Int):=by omega
 have r2:(b:Int) - (m:Int)=((b - m:Nat):Int):=by omega
 go_enter Tryz.func269,Tryz.ntmps269
 go_wp2_with fail
 go_loopw [10,11] (fun v u wr =>∃(i j:Nat) (dk:Array α),v= int i64 i∧u= int i64 j∧0<i∧0<j∧a≤m - i∧i≤m∧m+j≤b∧dk.size=d.size∧Aside (SWK enc k w0 blk off dk wr)∧Hid (∀d',Rot (m - i) m (m+j) dk d'→Rot a m b d d')∧Hid (PermIn a b d dk)) (fun v u _ =>(intOf v).toNat +(intOf u).toNat)
 case atStart => exact⟨m - a,b - m,d,by first|rfl|(congr 1;omega),by first|rfl|(congr 1;omega),by omega,by omega,by omega,by omega,by omega,rfl,S0,fun d' h => by rwa [show m - (m - a)=a by omega,show m+(b - m)=b by omega]at h,permIn_refl _ _ _⟩
 case round =>
  clear S0 r1 r2;obtain⟨i,j,dk,rfl,rfl,hi,hj,hai,him,hjb,hds,S1,HR,HP⟩:=hrel;have r3:(m:Int) - (i:Int)=((m - i:Nat):Int):=by omega
  by_cases hij:i=j
  ·have hb1:=Gs hij;subst hij;have HC:=hid (E7 k zR enc g cb blk off cap (m - i) m i d0 dk w0 wr R (by omega) S1.out (by omega) (by omega) (by omega));rw[hds]at HC;clear S1;go_wp2_with (go_at_call 271;refine HC.out.mono ?_;rintro e w1 ⟨rfl,d1,S2,W1,P1⟩;have S3:Aside _:=S2;have W2:=hid W1;have P2:=hid P1;clear S2 W1 P1)
   go_end0
   exact⟨rfl,d1,S3.out,HR.out d1 (Rot.last W2.out (by omega)),permIn_trans _ _ _ _ _ HP.out (P2.out a b (by omega) (by omega) (by omega))⟩
  ·have hb1:=Gt hij;by_cases hlt:j<i
   ·have hltz:(j:Int)<(i:Int):=by omega
    have HC:=hid (E7 k zR enc g cb blk off cap (m - i) m j d0 dk w0 wr R (by omega) S1.out (by omega) (by omega) (by omega));rw[hds]at HC;clear S1;go_wp2_with (go_at_call 271;refine HC.out.mono ?_;rintro e w1 ⟨rfl,d1,S2,W1,P1⟩;have S3:Aside _:=S2;have W2:=hid W1;have P2:=hid P1;clear S2 W1 P1)
    go_roundw
    case rel => exact⟨i - j,j,d1,by go_num,rfl,by omega,hj,by omega,by omega,hjb,W2.out.1.trans hds,S3,fun d' h => HR.out d' (Rot.left W2.out hlt him h),permIn_trans _ _ _ _ _ HP.out (P2.out a b (by omega) (by omega) (by omega))⟩
    case measure => simp[intOf];omega
   ·have hltz:¬(j:Int)<(i:Int):=by omega
    have r4:(m:Int)+(j:Int) - (i:Int)=((m+j - i:Nat):Int):=by omega
    have HC:=hid (E7 k zR enc g cb blk off cap (m - i) (m+j - i) i d0 dk w0 wr R (by omega) S1.out (by omega) (by omega) (by omega));rw[hds]at HC;clear S1;go_wp2_with (go_at_call 271;refine HC.out.mono ?_;rintro e w1 ⟨rfl,d1,S2,W1,P1⟩;have S3:Aside _:=S2;have W2:=hid W1;have P2:=hid P1;clear S2 W1 P1)
    go_roundw
    case rel => exact⟨i,j - i,d1,rfl,by go_num,hi,by omega,hai,him,by omega,W2.out.1.trans hds,S3,fun d' h => HR.out d' (Rot.right W2.out (by omega) him h),permIn_trans _ _ _ _ _ HP.out (P2.out a b (by omega) (by omega) (by omega))⟩
    case measure => simp[intOf];omega
variable {α:Type} [Inhabited α]
theorem Me(k:Nat)(zR:∀w,(Go.sizeOf 76).run Tryz.prog w= .ok k w)(enc:α→List Value)(cf:α→α→Int)(ix:α→Nat)(g:Nat)(cb:Array Value)(blk off cap a m b:Nat)(d0 d:Array α)(w0 w:World)
  (eg:∀args w,(callFunc g args).run Tryz.prog w= .ok (.enter g args) w) (hcmp:CmpLays Tryz.prog g cb enc k cf blk off d0.size w0) (hS:SWO (ltOf cf))
  (R:RowK enc k w0 blk off d0) (hs:d0.size=d.size) (S:SWK enc k w0 blk off d w) (hP:Pre (ltOf cf) ix a m b d) (hm:m=a+1) (hmb:m<b) (hsz:d.size<4611686018427387904) :
  Calls Tryz.prog 260 #[.slice (some ⟨blk,off,none⟩) d.size cap,int i64 a,int i64 m,int i64 b,.func (.func g) #[] cb] w fun e w' => e= .returned (.tuple #[])∧∃d',SWK enc k w0 blk off d' w'∧Dp (ltOf cf) ix a b d d':=by
 have hbd:=hP.hb;have HC:Aside _:=hcmp;have S0:Aside (SWK enc k w0 blk off d w):=S;have HP:=hid hP;have HS:=hid hS;have b1:(m:Int) - (a:Int)=1:=by omega
 have hma:a<m:=by omega
 have hmu:m≤a+1:=by omega
 have HM:=hid hm;clear hm;have mixed:Tryz.prog.follows .mixedOrders =true:=by kernel_rfl
 have aR:=Any2.aR;clear hcmp S hP hS;go_enter Tryz.func260,Tryz.ntmps260
 go_wp2_with fail
 go_loopw [10,11,12] (fun v u _ wr =>∃(i j:Nat),v= int i64 i∧u= int i64 j∧m≤i∧i≤j∧j≤b∧Aside (SWK enc k w0 blk off d wr)∧Hid (∀q,m≤q→q<i→ltOf cf d[q]! d[a]! =true)∧Hid (∀q,j≤q→q<b→ltOf cf d[q]! d[a]! =false)) (fun v u _ _ =>(intOf u).toNat - (intOf v).toNat)
 case atStart => exact⟨m,b,rfl,rfl,by omega,by omega,by omega,S0,fun q h1 h2 => by omega,fun q h1 h2 => by omega⟩
 case round =>
  clear S0 b1;obtain⟨i,j,rfl,rfl,hmi,hij,hjb,S1,H1,H2⟩:=hrel;by_cases hlt:i<j
  ·have hltz:(i:Int)<(j:Int):=by omega
   obtain⟨h,hh⟩:∃h:Nat,(i+j) / 2=h:=⟨_,rfl⟩;have hh1:i≤h:=by omega
   have hh2:h<j:=by omega
   have hw1:IntKind.i64.wrap ((i:Int)+(j:Int))=(i:Int)+(j:Int):=by rw[IntKind.wrap_i64];omega
   have hw2:IntKind.u64.wrap ((i:Int)+(j:Int))=(i:Int)+(j:Int):=by rw[IntKind.wrap_u64];omega
   have hw3:((i:Int)+(j:Int)) / 2=(h:Int):=by omega
   have hw4:IntKind.u64.wrap (h:Int)=(h:Int):=by rw[IntKind.wrap_u64];omega
   have hw5:IntKind.i64.wrap (h:Int)=(h:Int):=by rw[IntKind.wrap_i64];omega
   cases hL:ltOf cf d[h]! d[a]! with
   |true =>
    have ea1:((h:Int)).toNat =h:=by omega
    have pa1:(0:Int)≤(h:Int):=by omega
    have ba1:(h:Int)<(d.size:Int):=by omega
    have ra1:IntKind.i64.wrap ((h:Int))=(h:Int):=by rw[IntKind.wrap_i64];omega
    have ec1:((a:Int)).toNat =a:=by omega
    have pc1:(0:Int)≤(a:Int):=by omega
    have bc1:(a:Int)<(d.size:Int):=by omega
    have rc1:IntKind.i64.wrap ((a:Int))=(a:Int):=by rw[IntKind.wrap_i64];omega
    obtain⟨x1,hx1⟩:∃x,x=d[h]!:=⟨_,rfl⟩;obtain⟨y1,hy1⟩:∃x,x=d[a]!:=⟨_,rfl⟩;have l1a:=S1.out.ld R hs.symm Tryz.prog (h) (by omega);have l1b:=S1.out.ld R hs.symm Tryz.prog (a) (by omega);rw[← hx1]at l1a;rw[← hy1]at l1b;have hc1:=S1.out.cmp HC.out hs.symm x1 y1;have hv1:cf x1 y1<0:=by rw[hx1,hy1];exact of_decide_eq_true hL
    have hd1:decide (cf x1 y1<0)=true:=decide_eq_true hv1;clear hx1 hy1;go_wp2_with fail
    go_quiet_grown (first|(go_at_fn g;refine Calls.grown_of (hc1 _ _)))
    have S2:Aside (SWK enc k w0 blk off d (grow (wr.drewN nq) osq)):=S1.out.grown nq osq;clear l1a l1b hc1 S1;generalize grow (wr.drewN nq) osq=w2 at S2⊢;clear nq osq;go_wp2_with fail
    go_roundw
    case rel => exact⟨h+1,j,by go_num,rfl,by omega,by omega,hjb,S2,(fun q h1 h2 => by
     rcases Nat.lt_or_ge q i with h3|h3
     ·exact H1.out q h1 h3
     ·cases hq:ltOf cf d[q]! d[a]! with
      |true => rfl
      |false => have:=HS.out.ntrans _ _ _ (HP.out.rr h1 (show q≤h by omega) (by omega) HS.out) hq;rw[hL]at this;cases this),H2⟩
    case measure => simp[intOf];omega
   |false =>
    have ea2:((h:Int)).toNat =h:=by omega
    have pa2:(0:Int)≤(h:Int):=by omega
    have ba2:(h:Int)<(d.size:Int):=by omega
    have ra2:IntKind.i64.wrap ((h:Int))=(h:Int):=by rw[IntKind.wrap_i64];omega
    have ec2:((a:Int)).toNat =a:=by omega
    have pc2:(0:Int)≤(a:Int):=by omega
    have bc2:(a:Int)<(d.size:Int):=by omega
    have rc2:IntKind.i64.wrap ((a:Int))=(a:Int):=by rw[IntKind.wrap_i64];omega
    obtain⟨x2,hx2⟩:∃x,x=d[h]!:=⟨_,rfl⟩;obtain⟨y2,hy2⟩:∃x,x=d[a]!:=⟨_,rfl⟩;have l2a:=S1.out.ld R hs.symm Tryz.prog (h) (by omega);have l2b:=S1.out.ld R hs.symm Tryz.prog (a) (by omega);rw[← hx2]at l2a;rw[← hy2]at l2b;have hc2:=S1.out.cmp HC.out hs.symm x2 y2;have hv2:¬cf x2 y2<0:=by rw[hx2,hy2];exact of_decide_eq_false hL
    have hd2:decide (cf x2 y2<0)=false:=decide_eq_false hv2;clear hx2 hy2;go_wp2_with fail
    go_quiet_grown (first|(go_at_fn g;refine Calls.grown_of (hc2 _ _)))
    have S2:Aside (SWK enc k w0 blk off d (grow (wr.drewN nq) osq)):=S1.out.grown nq osq;clear l2a l2b hc2 S1;generalize grow (wr.drewN nq) osq=w2 at S2⊢;clear nq osq;go_wp2_with fail
    go_roundw
    case rel => exact⟨i,h,rfl,by go_num,hmi,hh1,by omega,S2,H1,fun q h1 h2 => HS.out.ntrans _ _ _ (HP.out.rr (by omega) h1 h2 HS.out) hL⟩
    case measure => simp[intOf];omega
  ·obtain rfl:i=j:=by omega
   clear hlt;go_wp2_with fail
   obtain⟨u,hu⟩:∃u,u=wr:=⟨_,rfl⟩;subst hu;go_loopw [13] (fun v wr =>∃(z:Nat) (dk:Array α),v= int i64 z∧a≤z∧z≤i - 1∧dk.size=d.size∧Aside (SWK enc k w0 blk off dk wr)∧Hid (Up a z d dk)∧Hid (PermIn a b d dk)) (fun v _ => i - (intOf v).toNat)
   case atStart => exact⟨a,d,rfl,by omega,by omega,rfl,S1,Up.zero _ _,permIn_refl _ _ _⟩
   case round =>
    clear S1;obtain⟨z,dk,rfl,hak,hki,hds,S1,HU,HQ⟩:=hrel;have r0:(i:Int) - 1=((i - 1:Nat):Int):=by omega
    by_cases hlt:z<i - 1
    ·have hltz:(z:Int)<((i - 1:Nat):Int):=by omega
     have hltz2:(z:Int)<(i:Int) - 1:=by omega
     have ea3:((z:Int)).toNat =z:=by omega
     have pa3:(0:Int)≤(z:Int):=by omega
     have ba3:(z:Int)<(d.size:Int):=by omega
     have ra3:IntKind.i64.wrap ((z:Int))=(z:Int):=by rw[IntKind.wrap_i64];omega
     have ec3:((z:Int)+1).toNat =z+1:=by omega
     have pc3:(0:Int)≤(z:Int)+1:=by omega
     have bc3:(z:Int)+1<(d.size:Int):=by omega
     have rc3:IntKind.i64.wrap ((z:Int)+1)=(z:Int)+1:=by rw[IntKind.wrap_i64];omega
     have S2:Aside (SWK enc k w0 blk off (swp dk (z) (z+1)) ((wr.drew.setCells blk (off+(z) * k) (enc dk[z+1]!)).setCells blk (off+(z+1) * k) (enc dk[z]!))):=S1.out.swapped R (z) (z+1) (by omega) (by omega);have l3a:=S1.out.ld1 R (by omega) Tryz.prog (z) (by omega);have l3b:=S1.out.ld1 R (by omega) Tryz.prog (z+1) (by omega);have s3a:=S1.out.st1 R (by omega) Tryz.prog (z) (by omega) dk[z+1]!;have s3b:=S1.out.st2 R (by omega) Tryz.prog (z) (z+1) (by omega) (by omega) dk[z+1]! dk[z]!;have n3a:(enc dk[z]!).length =k:=R.hk _;have n3b:(enc dk[z+1]!).length =k:=R.hk _;generalize enc dk[z]! =cI3 at S2 l3a s3b n3a;generalize enc dk[z+1]! =cJ3 at S2 l3b s3a s3b n3b;clear S1;go_wp2_with fail
     go_big_region_o
     clear l3a l3b s3a s3b;generalize(wr.drew.setCells blk (off+(z) * k) cJ3).setCells blk (off+(z+1) * k) cI3=w2 at S2⊢;go_wp2
     go_roundw
     case rel => exact⟨z+1,_,by go_num,by omega,by omega,by rw[swp_size];exact hds,S2,HU.out.step hak (by omega),permIn_trans _ _ _ _ _ HQ.out (swp_permIn _ _ _ _ _ (by omega) (by omega) (by omega) (by omega) (by omega))⟩
     case measure => simp[intOf];omega
    ·have hltz:¬(z:Int)<((i - 1:Nat):Int):=by omega
     have hltz2:¬(z:Int)<(i:Int) - 1:=by omega
     obtain rfl:z=i - 1:=by omega
     go_wp2_with fail
     (try simp only[Exit.inBlock,Exit.then])
     refine bodyPost_ret (results_none rfl _ _ _) rfl ?_;exact⟨rfl,dk,S1.out,HP.out.oneLeft HS.out HM.out hmi hjb H1.out H2.out HU.out HQ.out⟩
theorem Lt(k:Nat)(zR:∀w,(Go.sizeOf 76).run Tryz.prog w= .ok k w)(enc:α→List Value)(cf:α→α→Int)(ix:α→Nat)(g:Nat)(cb:Array Value)(blk off cap a m b:Nat)(d0 d:Array α)(w0 w:World)
  (eg:∀args w,(callFunc g args).run Tryz.prog w= .ok (.enter g args) w) (hcmp:CmpLays Tryz.prog g cb enc k cf blk off d0.size w0) (hS:SWO (ltOf cf))
  (R:RowK enc k w0 blk off d0) (hs:d0.size=d.size) (S:SWK enc k w0 blk off d w) (hP:Pre (ltOf cf) ix a m b d) (ham:a<m) (hm1:m≠a+1) (hm:b=m+1) (hsz:d.size<4611686018427387904) :
  Calls Tryz.prog 260 #[.slice (some ⟨blk,off,none⟩) d.size cap,int i64 a,int i64 m,int i64 b,.func (.func g) #[] cb] w fun e w' => e= .returned (.tuple #[])∧∃d',SWK enc k w0 blk off d' w'∧Dp (ltOf cf) ix a b d d':=by
 have hbd:=hP.hb;have HC:Aside _:=hcmp;have S0:Aside (SWK enc k w0 blk off d w):=S;have HP:=hid hP;have HS:=hid hS;have b1:¬((m:Int) - (a:Int)=1):=by omega
 have b3:decide ((m:Int) - (a:Int)=1)=false:=decide_eq_false b1;have b4:((m:Int) - (a:Int) == 1)=false:=by rw[beq_eq_false_iff_ne];exact b1
 have b2:(b:Int) - (m:Int)=1:=by omega
 have hbm:m<b:=by omega
 have hbu:b≤m+1:=by omega
 have HM:=hid hm;clear hm hm1;have mixed:Tryz.prog.follows .mixedOrders =true:=by kernel_rfl
 have aR:=Any2.aR;clear hcmp S hP hS;go_enter Tryz.func260,Tryz.ntmps260
 go_wp2_with fail
 go_loopw [14,15,16] (fun v u _ wr =>∃(i j:Nat),v= int i64 i∧u= int i64 j∧a≤i∧i≤j∧j≤m∧Aside (SWK enc k w0 blk off d wr)∧Hid (∀q,a≤q→q<i→ltOf cf d[m]! d[q]! =false)∧Hid (∀q,j≤q→q<m→ltOf cf d[m]! d[q]! =true)) (fun v u _ _ =>(intOf u).toNat - (intOf v).toNat)
 case atStart => exact⟨a,m,rfl,rfl,by omega,by omega,by omega,S0,fun q h1 h2 => by omega,fun q h1 h2 => by omega⟩
 case round =>
  clear S0 b1 b2 b3 b4;obtain⟨i,j,rfl,rfl,hmi,hij,hjb,S1,H1,H2⟩:=hrel;by_cases hlt:i<j
  ·have hltz:(i:Int)<(j:Int):=by omega
   obtain⟨h,hh⟩:∃h:Nat,(i+j) / 2=h:=⟨_,rfl⟩;have hh1:i≤h:=by omega
   have hh2:h<j:=by omega
   have hw1:IntKind.i64.wrap ((i:Int)+(j:Int))=(i:Int)+(j:Int):=by rw[IntKind.wrap_i64];omega
   have hw2:IntKind.u64.wrap ((i:Int)+(j:Int))=(i:Int)+(j:Int):=by rw[IntKind.wrap_u64];omega
   have hw3:((i:Int)+(j:Int)) / 2=(h:Int):=by omega
   have hw4:IntKind.u64.wrap (h:Int)=(h:Int):=by rw[IntKind.wrap_u64];omega
   have hw5:IntKind.i64.wrap (h:Int)=(h:Int):=by rw[IntKind.wrap_i64];omega
   cases hL:ltOf cf d[m]! d[h]! with
   |true =>
    have ea1:((m:Int)).toNat =m:=by omega
    have pa1:(0:Int)≤(m:Int):=by omega
    have ba1:(m:Int)<(d.size:Int):=by omega
    have ra1:IntKind.i64.wrap ((m:Int))=(m:Int):=by rw[IntKind.wrap_i64];omega
    have ec1:((h:Int)).toNat =h:=by omega
    have pc1:(0:Int)≤(h:Int):=by omega
    have bc1:(h:Int)<(d.size:Int):=by omega
    have rc1:IntKind.i64.wrap ((h:Int))=(h:Int):=by rw[IntKind.wrap_i64];omega
    obtain⟨x1,hx1⟩:∃x,x=d[m]!:=⟨_,rfl⟩;obtain⟨y1,hy1⟩:∃x,x=d[h]!:=⟨_,rfl⟩;have l1a:=S1.out.ld R hs.symm Tryz.prog (m) (by omega);have l1b:=S1.out.ld R hs.symm Tryz.prog (h) (by omega);rw[← hx1]at l1a;rw[← hy1]at l1b;have hc1:=S1.out.cmp HC.out hs.symm x1 y1;have hv1:cf x1 y1<0:=by rw[hx1,hy1];exact of_decide_eq_true hL
    have hd1:decide (cf x1 y1<0)=true:=decide_eq_true hv1;clear hx1 hy1;go_wp2_with fail
    go_quiet_grown (first|(go_at_fn g;refine Calls.grown_of (hc1 _ _)))
    have S2:Aside (SWK enc k w0 blk off d (grow (wr.drewN nq) osq)):=S1.out.grown nq osq;clear l1a l1b hc1 S1;generalize grow (wr.drewN nq) osq=w2 at S2⊢;clear nq osq;go_wp2_with fail
    go_roundw
    case rel => exact⟨i,h,rfl,by go_num,hmi,hh1,by omega,S2,H1,fun q h1 h2 => by
     cases hq:ltOf cf d[m]! d[q]! with
     |true => rfl
     |false => have:=HS.out.ntrans _ _ _ hq (HP.out.ll (show a≤h by omega) h1 h2 HS.out);rw[hL]at this;cases this⟩
    case measure => simp[intOf];omega
   |false =>
    have ea2:((m:Int)).toNat =m:=by omega
    have pa2:(0:Int)≤(m:Int):=by omega
    have ba2:(m:Int)<(d.size:Int):=by omega
    have ra2:IntKind.i64.wrap ((m:Int))=(m:Int):=by rw[IntKind.wrap_i64];omega
    have ec2:((h:Int)).toNat =h:=by omega
    have pc2:(0:Int)≤(h:Int):=by omega
    have bc2:(h:Int)<(d.size:Int):=by omega
    have rc2:IntKind.i64.wrap ((h:Int))=(h:Int):=by rw[IntKind.wrap_i64];omega
    obtain⟨x2,hx2⟩:∃x,x=d[m]!:=⟨_,rfl⟩;obtain⟨y2,hy2⟩:∃x,x=d[h]!:=⟨_,rfl⟩;have l2a:=S1.out.ld R hs.symm Tryz.prog (m) (by omega);have l2b:=S1.out.ld R hs.symm Tryz.prog (h) (by omega);rw[← hx2]at l2a;rw[← hy2]at l2b;have hc2:=S1.out.cmp HC.out hs.symm x2 y2;have hv2:¬cf x2 y2<0:=by rw[hx2,hy2];exact of_decide_eq_false hL
    have hd2:decide (cf x2 y2<0)=false:=decide_eq_false hv2;clear hx2 hy2;go_wp2_with fail
    go_quiet_grown (first|(go_at_fn g;refine Calls.grown_of (hc2 _ _)))
    have S2:Aside (SWK enc k w0 blk off d (grow (wr.drewN nq) osq)):=S1.out.grown nq osq;clear l2a l2b hc2 S1;generalize grow (wr.drewN nq) osq=w2 at S2⊢;clear nq osq;go_wp2_with fail
    go_roundw
    case rel => exact⟨h+1,j,by go_num,rfl,by omega,by omega,hjb,S2,fun q h1 h2 => HS.out.ntrans _ _ _ hL (HP.out.ll h1 (show q≤h by omega) (by omega) HS.out),H2⟩
    case measure => simp[intOf];omega
  ·obtain rfl:i=j:=by omega
   clear hlt;go_wp2_with fail
   obtain⟨u,hu⟩:∃u,u=wr:=⟨_,rfl⟩;subst hu;go_loopw [17] (fun v wr =>∃(z:Nat) (dk:Array α),v= int i64 z∧i≤z∧z≤m∧dk.size=d.size∧Aside (SWK enc k w0 blk off dk wr)∧Hid (FG z m d dk)∧Hid (PermIn a b d dk)) (fun v _ =>(intOf v).toNat)
   case atStart => exact⟨m,d,rfl,by omega,by omega,rfl,S1,FG.zero _ _,permIn_refl _ _ _⟩
   case round =>
    clear S1;obtain⟨z,dk,rfl,hak,hki,hds,S1,HU,HQ⟩:=hrel;by_cases hlt:i<z
    ·have hltz:(i:Int)<(z:Int):=by omega
     obtain⟨p,rfl⟩:∃p,z=p+1:=⟨z - 1,by omega⟩;have hltz2:(i:Int)<(p:Int)+1:=by omega
     have ea3:(((p:Int)+1)).toNat =p+1:=by omega
     have pa3:(0:Int)≤((p:Int)+1):=by omega
     have ba3:((p:Int)+1)<(d.size:Int):=by omega
     have ra3:IntKind.i64.wrap (((p:Int)+1))=((p:Int)+1):=by rw[IntKind.wrap_i64];omega
     have ec3:((p:Int)).toNat =p:=by omega
     have pc3:(0:Int)≤(p:Int):=by omega
     have bc3:(p:Int)<(d.size:Int):=by omega
     have rc3:IntKind.i64.wrap ((p:Int))=(p:Int):=by rw[IntKind.wrap_i64];omega
     have S2:Aside (SWK enc k w0 blk off (swp dk (p+1) (p)) ((wr.drew.setCells blk (off+(p+1) * k) (enc dk[p]!)).setCells blk (off+(p) * k) (enc dk[p+1]!))):=S1.out.swapped R (p+1) (p) (by omega) (by omega);have l3a:=S1.out.ld1 R (by omega) Tryz.prog (p+1) (by omega);have l3b:=S1.out.ld1 R (by omega) Tryz.prog (p) (by omega);have s3a:=S1.out.st1 R (by omega) Tryz.prog (p+1) (by omega) dk[p]!;have s3b:=S1.out.st2 R (by omega) Tryz.prog (p+1) (p) (by omega) (by omega) dk[p]! dk[p+1]!;have n3a:(enc dk[p+1]!).length =k:=R.hk _;have n3b:(enc dk[p]!).length =k:=R.hk _;generalize enc dk[p+1]! =cI3 at S2 l3a s3b n3a;generalize enc dk[p]! =cJ3 at S2 l3b s3a s3b n3b;clear S1;go_wp2_with fail
     go_big_region_o
     clear l3a l3b s3a s3b;generalize(wr.drew.setCells blk (off+(p+1) * k) cJ3).setCells blk (off+(p) * k) cI3=w2 at S2⊢;go_wp2
     go_roundw
     case rel => exact⟨p,_,by go_num,by omega,by omega,by rw[swp_size];exact hds,S2,HU.out.step (by omega) (by omega),permIn_trans _ _ _ _ _ HQ.out (swp_permIn _ _ _ _ _ (by omega) (by omega) (by omega) (by omega) (by omega))⟩
     case measure => simp[intOf]
    ·have hltz:¬(i:Int)<(z:Int):=by omega
     obtain rfl:z=i:=by omega
     go_wp2_with fail
     (try simp only[Exit.inBlock,Exit.then])
     refine bodyPost_ret (results_none rfl _ _ _) rfl ?_;exact⟨rfl,dk,S1.out,HP.out.oneRight HS.out HM.out hmi hjb H1.out H2.out HU.out HQ.out⟩
end Go.Proofs.YthbljikbnoghcaaGreat
