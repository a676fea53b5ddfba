/-
  Part 35 of the proof.
-/
import Derived.Test.YtfjkoifpdoemdaaGreatI34
import Derived.Test.YtfjkoifpdoemdaaGreatI26
import Derived.Test.YtfjkoifpdoemdaaGreatI31
set_option maxHeartbeats 8000000
set_option maxRecDepth 100000
set_option linter.unusedVariables false
set_option linter.unusedSimpArgs false
namespace Go.Proofs.YtfjkoifpdoemdaaGreat
open Go.RowKit Go.Lib Go.Sort
theorem recs_ok {d:Am}(h:AK d=0):∀r,r∈CK d→AE d.s.sh r=0:=by
 unfold AK at h;by_cases hs:shB d.s.sh=true
 ·rw[if_pos hs]at h;by_cases hb:(BJ d.s.sh d.g && (onB d.s.sh d.on d.down && decide (d.v.length=2)))=true
  ·rw[if_pos hb]at h;have hc:Bl d.s.sh d.v=0:=by
    by_cases hc:Bl d.s.sh d.v=0
    ·exact hc
    ·rw[if_neg hc]at h;exact h
   unfold Bl at hc;by_cases hm:d.v.any (fun t => decide (200<t.recs.length))=true
   ·rw[if_pos hm]at hc;exact absurd hc (by decide)
   ·rw[if_neg hm]at hc;have hf:AX d.s.sh (d.v.flatMap AQ.recs)=0:=by
     by_cases hf:AX d.s.sh (d.v.flatMap AQ.recs)=0
     ·exact hf
     ·rw[if_neg hf]at hc;exact hc
    exact Ho hf
  ·rw[if_neg hb]at h;exact absurd h (by decide)
 ·rw[if_neg hs]at h;exact absurd h (by decide)
theorem cnt_ok {d:Am}(h:AK d=0):∀r,r∈AM d→AE d.s.sh r=0:=fun r hr => recs_ok h r (EC _ _ rfl r hr)
theorem IN {s:Sh} {r:Ai}(h:AE s r=0)(hk:r.kind=1):C0 r.name.data.toList=true∧Cj s r=true:=by
 by_cases hn:C0 r.name.data.toList=true
 ·by_cases hm:Cj s r=true
  ·exact⟨hn,hm⟩
  ·have e:AY s r=3:=by unfold AY;rw[if_pos hk,if_pos hn,if_neg hm]
   unfold AE at h;rw[if_pos (by rw[hk];rfl),e]at h;split at h <;> simp at h
 ·have e:AY s r=5:=by unfold AY;rw[if_pos hk,if_neg hn]
  unfold AE at h;rw[if_pos (by rw[hk];rfl),e]at h;split at h <;> simp at h
theorem Lm {nm:ByteArray}(h:C0 nm.data.toList=true):nm.size≤8:=by
 unfold C0 at h;simp only[Bool.and_eq_true,decide_eq_true_eq]at h;have h2:=h.2.2;simp at h2;exact h2
theorem names_of {d:Am}(h:AK d=0):∀r,r∈AM d→r.name.size≤1000000:=fun r hr => by
 have h1:=cnt_ok h r hr;by_cases hk:r.kind=1
 ·have:=Lm (IN h1 hk).1;omega
 ·have hz:r.name=⟨#[]⟩:=by
   unfold AE at h1;split at h1
   ·split at h1
    ·split at h1
     ·split at h1
      ·rename_i hr
       unfold ED at hr;rw[if_neg hk]at hr;split at hr
       ·simp only[decide_eq_true_eq]at hr;exact hr.1
       ·split at hr
        ·simp only[decide_eq_true_eq]at hr;exact hr.1
        ·simp only[decide_eq_true_eq]at hr;exact hr.1
      ·simp at h1
     ·rename_i h2;exact absurd h1 h2
    ·simp at h1
   ·simp at h1
  rw[hz];exact Nat.zero_le _
theorem IZ {d:Am}(h:AK d=0) {x:Ai}(hx:x∈AM d)(hk:x.kind=1)(hl:x.length≠ -1):Gt d x∧0≤x.length:=by
 obtain⟨hn,hi⟩:=IN (cnt_ok h x hx) hk;have hsz:=Lm hn;have hT:=GE h;have hd:=hT.ok.data;unfold Cj at hi;rw[if_neg hl]at hi;simp only[Bool.and_eq_true]at hi;obtain⟨hp,hi⟩:=hi;unfold DR at hp;simp only[decide_eq_true_eq]at hp;have hp3:=(Lw hT.ok hp.1).2 hp.2;have e1:d.s.sh.data=d.s.data:=rfl;have e2:d.s.sh.rows=d.s.rows:=rfl;by_cases q:0<x.data.length
 ·rw[if_pos q]at hi;simp only[Bool.and_eq_true,decide_eq_true_eq]at hi;exact⟨⟨by omega,by omega,by omega,fun r hr =>(by rw[List.length_eq_zero_iff.1 hi.2]at hr;cases hr),fun e => by omega⟩,by omega⟩
 ·rw[if_neg q]at hi;simp only[Bool.and_eq_true,decide_eq_true_eq]at hi;obtain⟨hr,ha⟩:=hi;unfold DD at ha;simp only[decide_eq_true_eq]at ha;refine⟨⟨by omega,by omega,by omega,fun r hm => ?_,fun _ =>⟨by omega,?_⟩⟩,by omega⟩
  ·obtain⟨k,hk,rfl⟩:=List.getElem_of_mem hm;have:=BG (ha k hk hk).1;rw[e2]at this;omega
  ·rw[hr];unfold CL;rw[e1]at hp hd⊢;have h1:=Int.emod_add_mul_ediv (x.length - 1) (4 * d.s.data);have h2:=Int.emod_lt_of_pos (x.length - 1) (show 0<4 * d.s.data by omega);have h3:((x.length - 1) / (4 * d.s.data)+1) * (4 * d.s.data)=4 * d.s.data * ((x.length - 1) / (4 * d.s.data))+4 * d.s.data:=by
    rw[Int.add_mul,Int.one_mul,Int.mul_comm]
   rw[h3];omega
theorem LO {all:List Ai} {nm:ByteArray} {x:Ai}(h:DE all nm=some x):x∈all∧x.kind=1∧x.length≠ -1:=by
 unfold DE at h;split at h
 ·cases h
 ·rename_i hq
  obtain⟨k,hk⟩:∃k:Nat,Ct all nm all.length=(k:Int):=⟨(Ct all nm all.length).toNat,by omega⟩;obtain⟨h1,h2⟩:=Hh all nm k _ hk;unfold DB at h2;simp only[decide_eq_true_eq]at h2;rw[hk,Int.toNat_natCast,List.getElem?_eq_getElem h1]at h;simp only[Option.bind_some]at h;split at h
  ·cases h
  ·rename_i hl
   injection h with h
   subst h;exact⟨List.getElem_mem h1,h2.1,hl⟩
def tiF(d:Am)(nm:ByteArray):Int × List UInt8 :=
 if AK d=0 then(if Bc nm.data.toList=0 then(match DE (AM d) nm with|none =>(4,[])|some x =>(match Do d x with|none =>(10,[])|some L =>(0,L)))else(Bc nm.data.toList,[]))else(AK d,[])
theorem IA {d:Am} {nm:ByteArray}(h:¬AK d=0):tiF d nm=(AK d,[]):=by unfold tiF;rw[if_neg h]
theorem Jw {d:Am} {nm:ByteArray}(h:AK d=0)(h2:¬Bc nm.data.toList=0):tiF d nm=(Bc nm.data.toList,[]):=by unfold tiF;rw[if_pos h,if_neg h2]
theorem Ih {d:Am} {nm:ByteArray}(h:AK d=0)(h2:Bc nm.data.toList=0)(h3:DE (AM d) nm=none):tiF d nm=(4,[]):=by unfold tiF;rw[if_pos h,if_pos h2,h3]
theorem Ju {d:Am} {nm:ByteArray} {x:Ai}(h:AK d=0)(h2:Bc nm.data.toList=0)(h3:DE (AM d) nm=some x)(h4:Do d x=none):tiF d nm=(10,[]):=by unfold tiF;rw[if_pos h,if_pos h2,h3];simp only[h4]
theorem JJ {d:Am} {nm:ByteArray} {x:Ai} {L:List UInt8}(h:AK d=0)(h2:Bc nm.data.toList=0)(h3:DE (AM d) nm=some x)(h4:Do d x=some L):tiF d nm=(0,L):=by unfold tiF;rw[if_pos h,if_pos h2,h3];simp only[h4]
end Go.Proofs.YtfjkoifpdoemdaaGreat
