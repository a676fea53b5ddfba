/- Part 36 of the proof. -/
import Derived.Test.YtfjkoifpdoemdaaGreatJ35
import Derived.Test.YtfjkoifpdoemdaaGreatJ27
import Derived.Test.YtfjkoifpdoemdaaGreatJ32
set_option maxHeartbeats 8000000
set_option maxRecDepth 100000
set_option linter.unusedVariables false
set_option linter.unusedSimpArgs false
open Go.Proofs.Tryz
namespace Go.Proofs.YtfjkoifpdoemdaaGreat
open Go.RowKit Go.Lib Go.Sort
theorem recs_ok {d:Am}(h:AK d=0):∀r,r∈CZ d→AF d.s.sh r=0:=by
 unfold AK at h;by_cases hs:shB d.s.sh=true
 ·rw[aL hs]at h;by_cases hb:(BJ d.s.sh d.g && (onB d.s.sh d.on d.down && decide (d.v.length=2)))=true
  ·rw[aL hb]at h;have hc:Bn d.s.sh d.v=0:=by
    by_cases hc:Bn d.s.sh d.v=0
    ·exact hc
    ·rw[aI hc]at h;exact h
   unfold Bn at hc;by_cases hm:d.v.any (fun t => decide (200<t.recs.length))=true
   ·rw[aL hm]at hc;exact absurd hc (by decide)
   ·rw[aI hm]at hc;have hf:AY d.s.sh (d.v.flatMap AS.recs)=0:=by
     by_cases hf:AY d.s.sh (d.v.flatMap AS.recs)=0
     ·exact hf
     ·rw[aI hf]at hc;exact hc
    exact Ij hf
  ·rw[aI hb]at h;exact absurd h (by decide)
 ·rw[aI hs]at h;exact absurd h (by decide)
theorem MI {d:Am}(h:AK d=0):∀r,r∈AN d→AF d.s.sh r=0:=fun r hr => recs_ok h r (EC _ _ rfl r hr)
theorem GL {s:Sh} {r:Ah}(h:AF s r=0)(hk:r.kind=1):C7 r.name.data.toList=true∧Ch s r=true:=by
 by_cases hn:C7 r.name.data.toList=true
 ·by_cases hm:Ch s r=true
  ·exact⟨hn,hm⟩
  ·have e:AZ s r=3:=by unfold AZ;rw[aL hk,aL hn,aI hm]
   unfold AF at h;rw[aL (by rw[hk];rfl),e]at h;split at h <;> simp at h
 ·have e:AZ s r=5:=by unfold AZ;rw[aL hk,aI hn]
  unfold AF at h;rw[aL (by rw[hk];rfl),e]at h;split at h <;> simp at h
theorem Jd {nm:ByteArray}(h:C7 nm.data.toList=true):nm.size≤8:=by
 unfold C7 at h;simp only[Bool.and_eq_true,bN]at h;have h2:=h.2.2;simp at h2;exact h2
theorem names_of {d:Am}(h:AK d=0):∀r,r∈AN d→r.name.size≤1000000:=fun r hr => by
 have h1:=MI h r hr;by_cases hk:r.kind=1
 ·have:=Jd (GL h1 hk).1;omega
 ·have hz:r.name=⟨#[]⟩:=by
   unfold AF at h1;split at h1
   ·split at h1
    ·split at h1
     ·split at h1
      ·rename_i hr
       unfold EJ at hr;rw[aI hk]at hr;split at hr
       ·simp only[bN]at hr;exact hr.1
       ·split at hr
        ·simp only[bN]at hr;exact hr.1
        ·simp only[bN]at hr;exact hr.1
      ·simp at h1
     ·rename_i h2;exact absurd h1 h2
    ·simp at h1
   ·simp at h1
  rw[hz];exact Nat.zero_le _
theorem GW {d:Am}(h:AK d=0) {x:Ah}(hx:x∈AN d)(hk:x.kind=1)(hl:x.length≠ -1):FV d x∧0≤x.length:=by
 obtain⟨hn,hi⟩:=GL (MI h x hx) hk;have hsz:=Jd hn;have hT:=F4 h;have hd:=hT.ok.data;unfold Ch at hi;rw[aI hl]at hi;simp only[Bool.and_eq_true]at hi;obtain⟨hp,hi⟩:=hi;unfold DG at hp;simp only[bN]at hp;have hp3:=(Jg hT.ok hp.1).2 hp.2;have e1:d.s.sh.data=d.s.data:=rfl;have e2:d.s.sh.rows=d.s.rows:=rfl;by_cases q:0<x.data.length
 ·rw[aL q]at hi;simp only[Bool.and_eq_true,bN]at hi;exact⟨⟨by omega,by omega,by omega,fun r hr =>(by rw[List.length_eq_zero_iff.1 hi.2]at hr;cases hr),fun e => by omega⟩,by omega⟩
 ·rw[aI q]at hi;simp only[Bool.and_eq_true,bN]at hi;obtain⟨hr,ha⟩:=hi;unfold DD at ha;simp only[bN]at ha;refine⟨⟨by omega,by omega,by omega,fun r hm => ?_,fun _ =>⟨by omega,?_⟩⟩,by omega⟩
  ·obtain⟨k,hk,rfl⟩:=aY hm;have:=BI (ha k hk hk).1;rw[e2]at this;omega
  ·rw[hr];unfold CT;rw[e1]at hp hd⊢;have h1:=Int.emod_add_mul_ediv (x.length - 1) (4 * d.s.data);have h2:=Int.emod_lt_of_pos (x.length - 1) (show 0<4 * d.s.data by omega);have h3:((x.length - 1) / (4 * d.s.data)+1) * (4 * d.s.data)=4 * d.s.data * ((x.length - 1) / (4 * d.s.data))+4 * d.s.data:=by
    rw[Int.add_mul,Int.one_mul,Int.mul_comm]
   rw[h3];omega
