/-
  Part 20 of the proof; the last part states and proves the statement.
-/
import Derived.Test.YthbljikbnoghcaaGreatM19
import Derived.Test.YthbljikbnoghcaaGreatM02
set_option maxHeartbeats 8000000
set_option maxRecDepth 100000
set_option linter.unusedVariables false
set_option linter.unusedSimpArgs false
open Go.Value (int)
open Go.IntKind (i64)
namespace Go.Proofs.YthbljikbnoghcaaGreat
open Go.RowKit Go.Lib Go.Sort
theorem Af.parts {w:World} {f:List Addr} {cs:List Value} {d:Ao}(h:Af w f cs d):∃c1 c2 f1 f2,cs=c1 ++ c2∧f=f1 ++ f2∧AD w f1 c1 d.world∧Ba w f2 c2 d.desk:=by
 dsimp only[Af]at h;obtain⟨v0,v1,v2,v3,v4,v5,f0,f1,f2,f3,f4,f5,e,ef,o0,o1,o2,o3,o4,o5,o6,o7,o8,o9,o10,o11,o12,h0,h1,h2,h3,h4,h5⟩:=h;refine⟨[int i64 d.world.s.g,int i64 d.world.s.c,int i64 d.world.s.data,int i64 d.world.s.p,int i64 d.world.s.rows,int i64 d.world.s.cap,int i64 d.world.s.b,int i64 d.world.s.q,int i64 d.world.s.t,v0,v1,v2,int i64 d.world.u,int i64 d.world.stop,.bool d.world.down],[v3,v4,v5,int i64 d.desk.turn,int i64 d.desk.next],f0 ++(f1 ++ f2),f3 ++(f4 ++ f5),by rw[e];rfl,by rw[ef];simp only[List.append_assoc],?_,?_⟩
 ·exact⟨v0,v1,v2,f0,f1,f2,rfl,rfl,o0,o1,o2,o3,o4,o5,o6,o7,o8,o9,o10,h0,h1,h2⟩
 ·exact⟨v3,v4,v5,f3,f4,f5,rfl,rfl,o11,o12,h3,h4,h5⟩
theorem Af.of {w:World} {f1 f2:List Addr} {c1 c2:List Value} {d:Ao}(h1:AD w f1 c1 d.world)(h2:Ba w f2 c2 d.desk):Af w (f1 ++ f2) (c1 ++ c2) d:=by
 dsimp only[AD,Ba]at h1 h2;obtain⟨v0,v1,v2,g0,g1,g2,e,ef,o0,o1,o2,o3,o4,o5,o6,o7,o8,o9,o10,r0,r1,r2⟩:=h1;obtain⟨v3,v4,v5,g3,g4,g5,e2,ef2,o11,o12,r3,r4,r5⟩:=h2;exact⟨v0,v1,v2,v3,v4,v5,g0,g1,g2,g3,g4,g5,by rw[e,e2];rfl,by rw[ef,ef2];simp only[List.append_assoc],o0,o1,o2,o3,o4,o5,o6,o7,o8,o9,o10,o11,o12,r0,r1,r2,r3,r4,r5⟩
theorem G2 {w:World} {g o:Nat} {a b:List Value}(h:w.rangeAt g o (a ++ b)):w.rangeAt g o a:=fun q v hq => h q v (by
 obtain⟨hq1,hq2⟩:=List.getElem?_eq_some_iff.1 hq;rw[List.getElem?_append_left hq1];exact hq)
theorem Fd {w:World} {g o:Nat} {a b:List Value}(h:w.rangeAt g o (a ++ b)):w.rangeAt g (o+a.length) b:=fun q v hq => by
 have:=h (a.length+q) v (by rw[List.getElem?_append_right (by omega)];simpa using hq);rw[← Nat.add_assoc]at this;exact this
end Go.Proofs.YthbljikbnoghcaaGreat
