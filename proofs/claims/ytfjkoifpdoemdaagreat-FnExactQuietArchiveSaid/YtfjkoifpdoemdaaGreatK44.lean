/-
  Part 44 of the proof; the last part states and proves the statement.
-/
import Derived.Test.YtfjkoifpdoemdaaGreatK01
import Derived.Test.YtfjkoifpdoemdaaGreatK05
import Derived.Test.YtfjkoifpdoemdaaGreatK43
set_option maxHeartbeats 8000000
set_option maxRecDepth 100000
set_option linter.unusedVariables false
set_option linter.unusedSimpArgs false
namespace Go.Proofs.YtfjkoifpdoemdaaGreat
open Go.RowKit Go.ChangeShapes Go.WideShapes
open Go.Lib (hid)
theorem cut2(cs:List Value)(a0 a1:Value)(hl:cs.length=2)(h0:(cs.drop 0).take 1= [a0])(h1:(cs.drop 1).take 1= [a1]):cs= [a0,a1]:=by
 match cs,hl with
 | [c0,c1],_ => simp_all
theorem cut9(cs:List Value)(a0 a1 a2 a3 a4 a5 a6 a7 a8:Value)(hl:cs.length=9)(h0:(cs.drop 0).take 1= [a0])(h1:(cs.drop 1).take 1= [a1])(h2:(cs.drop 2).take 1= [a2])(h3:(cs.drop 3).take 1= [a3])(h4:(cs.drop 4).take 1= [a4])(h5:(cs.drop 5).take 1= [a5])(h6:(cs.drop 6).take 1= [a6])(h7:(cs.drop 7).take 1= [a7])(h8:(cs.drop 8).take 1= [a8]):cs= [a0,a1,a2,a3,a4,a5,a6,a7,a8]:=by
 match cs,hl with
 | [c0,c1,c2,c3,c4,c5,c6,c7,c8],_ => simp_all
theorem cutW(cs:List Value)(a0 a1 a2 a3 a4 a5 a6 a7 a8 a9 a10 a11 a12 a13 a14:Value)(hl:cs.length=15)(h0:(cs.drop 0).take 9= [a0,a1,a2,a3,a4,a5,a6,a7,a8])(h9:(cs.drop 9).take 1= [a9])(h10:(cs.drop 10).take 1= [a10])(h11:(cs.drop 11).take 1= [a11])(h12:(cs.drop 12).take 1= [a12])(h13:(cs.drop 13).take 1= [a13])(h14:(cs.drop 14).take 1= [a14]):cs= [a0,a1,a2,a3,a4,a5,a6,a7,a8,a9,a10,a11,a12,a13,a14]:=by
 match cs,hl with
 | [c0,c1,c2,c3,c4,c5,c6,c7,c8,c9,c10,c11,c12,c13,c14],_ => simp_all
theorem JC:Bw 23 Di:=by
 intro H enc W base spare held fuel cs x h;have hl:cs.length=9:=(BJ Tryz.underlying23 h).trans (by kernel_rfl);obtain⟨_,d0,_,e0,l0⟩:=AH Tryz.underlying23 h 0 _ rfl (AW Tryz.underlying2);obtain⟨_,d1,_,e1,l1⟩:=AH Tryz.underlying23 h 1 _ rfl (AW Tryz.underlying2);obtain⟨_,d2,_,e2,l2⟩:=AH Tryz.underlying23 h 2 _ rfl (AW Tryz.underlying2);obtain⟨_,d3,_,e3,l3⟩:=AH Tryz.underlying23 h 3 _ rfl (AW Tryz.underlying2);obtain⟨_,d4,_,e4,l4⟩:=AH Tryz.underlying23 h 4 _ rfl (AW Tryz.underlying2);obtain⟨_,d5,_,e5,l5⟩:=AH Tryz.underlying23 h 5 _ rfl (AW Tryz.underlying2);obtain⟨_,d6,_,e6,l6⟩:=AH Tryz.underlying23 h 6 _ rfl (AW Tryz.underlying2);obtain⟨_,d7,_,e7,l7⟩:=AH Tryz.underlying23 h 7 _ rfl (AW Tryz.underlying2);obtain⟨_,d8,_,e8,l8⟩:=AH Tryz.underlying23 h 8 _ rfl (AW Tryz.underlying2);exact⟨[],⟨d0,d1,d2,d3,d4,d5,d6,d7,d8⟩,cut9 cs _ _ _ _ _ _ _ _ _ hl e0 e1 e2 e3 e4 e5 e6 e7 e8,rfl,l0,l1,l2,l3,l4,l5,l6,l7,l8⟩
theorem Hm:Bw 25 (Ai 1 Al):=Cj Tryz.underlying25 (by kernel_rfl) (AW Tryz.underlying2)
theorem Kb:Bw 304 AD:=by
 intro H enc W base spare held fuel cs x h;have hl:cs.length=2:=(BJ Tryz.underlying304 h).trans (by kernel_rfl);obtain⟨_,d0,_,e0,l0⟩:=AH Tryz.underlying304 h 0 _ rfl (AW Tryz.underlying2);obtain⟨f1,d1,v,e1,hb⟩:=AH Tryz.underlying304 h 1 _ rfl Ef;exact⟨f1,⟨d0,d1⟩,v,f1,cut2 cs _ _ hl e0 e1,rfl,l0,hb⟩
theorem JA:Bw 188 (Ai 2 AD):=Cj Tryz.underlying188 (by kernel_rfl) Kb
theorem Kc:Bw 190 Ak:=by
 intro H enc W base spare held fuel cs x h;have hl:cs.length=2:=(BJ Tryz.underlying190 h).trans (by kernel_rfl);obtain⟨_,d0,_,e0⟩:=AH Tryz.underlying190 h 0 _ rfl (FC Tryz.underlying4);obtain⟨f1,d1,v,e1,hb⟩:=AH Tryz.underlying190 h 1 _ rfl JA;exact⟨f1,⟨d0,d1⟩,v,f1,cut2 cs _ _ hl e0 e1,rfl,hb⟩
theorem JB:Bw 131 (Ai 2 Ak):=Cj Tryz.underlying131 (by kernel_rfl) Kc
theorem I0:Bw 24 (Ai 1 (Ai 2 Ak)):=Cj Tryz.underlying24 (by kernel_rfl) JB
theorem Mu:Bw 268 Ac:=by
 intro H enc W base spare held fuel cs x h;have hl:cs.length=9:=(BJ Tryz.underlying268 h).trans (by kernel_rfl);obtain⟨_,d0,_,e0,l0⟩:=AH Tryz.underlying268 h 0 _ rfl (AW Tryz.underlying2);obtain⟨_,d1,_,e1,l1⟩:=AH Tryz.underlying268 h 1 _ rfl (AW Tryz.underlying2);obtain⟨_,d2,_,e2,l2⟩:=AH Tryz.underlying268 h 2 _ rfl (II Tryz.underlying9);obtain⟨_,d3,_,e3,l3⟩:=AH Tryz.underlying268 h 3 _ rfl (AW Tryz.underlying2);obtain⟨_,d4,_,e4,l4⟩:=AH Tryz.underlying268 h 4 _ rfl (AW Tryz.underlying2);obtain⟨_,d5,_,e5,l5⟩:=AH Tryz.underlying268 h 5 _ rfl (AW Tryz.underlying2);obtain⟨f6,d6,v6,e6,h6⟩:=AH Tryz.underlying268 h 6 _ rfl Hm;obtain⟨f7,d7,v7,e7,h7⟩:=AH Tryz.underlying268 h 7 _ rfl Ef;obtain⟨f8,d8,v8,e8,h8⟩:=AH Tryz.underlying268 h 8 _ rfl Ef;exact⟨f6 ++(f7 ++ f8),⟨d0,d1,d2,d3,d4,d5,d6,d7,d8⟩,v6,v7,v8,f6,f7,f8,cut9 cs _ _ _ _ _ _ _ _ _ hl e0 e1 e2 e3 e4 e5 e6 e7 e8,rfl,l0,l1,l2,l3,l4,l5,h6,h7,h8⟩
theorem LB:Bw 133 (Ai 9 Ac):=Cj Tryz.underlying133 (by kernel_rfl) Mu
theorem LC:Bw 135 As:=by
 intro H enc W base spare held fuel cs x h;have hl:cs.length=2:=(BJ Tryz.underlying135 h).trans (by kernel_rfl);obtain⟨_,d0,_,e0⟩:=AH Tryz.underlying135 h 0 _ rfl (FC Tryz.underlying4);obtain⟨f1,d1,v,e1,hb⟩:=AH Tryz.underlying135 h 1 _ rfl LB;exact⟨f1,⟨d0,d1⟩,v,f1,cut2 cs _ _ hl e0 e1,rfl,hb⟩
theorem Kd:Bw 26 (Ai 2 As):=Cj Tryz.underlying26 (by kernel_rfl) LC
theorem Ke:Bw 28 AB:=by
 intro H enc W base spare held fuel cs x h;have hl:cs.length=15:=(BJ Tryz.underlying28 h).trans (by kernel_rfl);obtain⟨_,d0,e0,_,l0,l1,l2,l3,l4,l5,l6,l7,l8⟩:=AH Tryz.underlying28 h 0 _ rfl JC;obtain⟨f1,d1,v1,e1,h1⟩:=AH Tryz.underlying28 h 1 _ rfl I0;obtain⟨f2,d2,v2,e2,h2⟩:=AH Tryz.underlying28 h 2 _ rfl Hm;obtain⟨f3,d3,v3,e3,h3⟩:=AH Tryz.underlying28 h 3 _ rfl Kd;obtain⟨_,d4,_,e4,l9⟩:=AH Tryz.underlying28 h 4 _ rfl (AW Tryz.underlying2);obtain⟨_,d5,_,e5,l10⟩:=AH Tryz.underlying28 h 5 _ rfl (AW Tryz.underlying2);obtain⟨_,d6,_,e6⟩:=AH Tryz.underlying28 h 6 _ rfl (FC Tryz.underlying4);exact⟨f1 ++(f2 ++ f3),⟨d0,d1,d2,d3,d4,d5,d6⟩,v1,v2,v3,f1,f2,f3,cutW cs _ _ _ _ _ _ _ _ _ _ _ _ _ _ _ hl e0 e1 e2 e3 e4 e5 e6,rfl,l0,l1,l2,l3,l4,l5,l6,l7,l8,l9,l10,h1,h2,h3⟩
theorem cut4(cs:List Value)(a0 a1 a2 a3:Value)(hl:cs.length=4)(h0:(cs.drop 0).take 1= [a0])(h1:(cs.drop 1).take 1= [a1])(h2:(cs.drop 2).take 1= [a2])(h3:(cs.drop 3).take 1= [a3]):cs= [a0,a1,a2,a3]:=by
 match cs,hl with
 | [c0,c1,c2,c3],_ => simp_all
theorem cut5(cs:List Value)(a0 a1 a2 a3 a4:Value)(hl:cs.length=5)(h0:(cs.drop 0).take 1= [a0])(h1:(cs.drop 1).take 1= [a1])(h2:(cs.drop 2).take 1= [a2])(h3:(cs.drop 3).take 1= [a3])(h4:(cs.drop 4).take 1= [a4]):cs= [a0,a1,a2,a3,a4]:=by
 match cs,hl with
 | [c0,c1,c2,c3,c4],_ => simp_all
theorem JD:Bw 233 Af:=by
 intro H enc W base spare held fuel cs x h;have hl:cs.length=4:=(BJ Tryz.underlying233 h).trans (by kernel_rfl);obtain⟨_,d0,_,e0,l0⟩:=AH Tryz.underlying233 h 0 _ rfl (AW Tryz.underlying2);obtain⟨_,d1,_,e1,l1⟩:=AH Tryz.underlying233 h 1 _ rfl (AW Tryz.underlying2);obtain⟨_,d2,_,e2,l2⟩:=AH Tryz.underlying233 h 2 _ rfl (II Tryz.underlying9);obtain⟨_,d3,_,e3,l3⟩:=AH Tryz.underlying233 h 3 _ rfl (AW Tryz.underlying2);exact⟨[],⟨d0,d1,d2,d3⟩,cut4 cs _ _ _ _ hl e0 e1 e2 e3,rfl,l0,l1,l2,l3⟩
theorem FK:Bw 48 (Ai 4 Af):=Cj Tryz.underlying48 (by kernel_rfl) JD
theorem Io:Bw 47 (Ai 1 (Ai 4 Af)):=Cj Tryz.underlying47 (by kernel_rfl) FK
theorem Jz:Bw 236 Am:=by
 intro H enc W base spare held fuel cs x h;have hl:cs.length=4:=(BJ Tryz.underlying236 h).trans (by kernel_rfl);obtain⟨_,d0,_,e0,l0⟩:=AH Tryz.underlying236 h 0 _ rfl (AW Tryz.underlying2);obtain⟨_,d1,_,e1,l1⟩:=AH Tryz.underlying236 h 1 _ rfl (AW Tryz.underlying2);obtain⟨_,d2,_,e2,l2⟩:=AH Tryz.underlying236 h 2 _ rfl (AW Tryz.underlying2);obtain⟨f3,d3,v3,e3,h3⟩:=AH Tryz.underlying236 h 3 _ rfl Ef;exact⟨f3,⟨d0,d1,d2,d3⟩,v3,f3,cut4 cs _ _ _ _ hl e0 e1 e2 e3,rfl,l0,l1,l2,h3⟩
theorem IY:Bw 49 (Ai 4 Am):=Cj Tryz.underlying49 (by kernel_rfl) Jz
theorem LA:Bw 51 AO:=by
 intro H enc W base spare held fuel cs x h;have hl:cs.length=5:=(BJ Tryz.underlying51 h).trans (by kernel_rfl);obtain⟨f0,d0,v0,e0,h0⟩:=AH Tryz.underlying51 h 0 _ rfl Io;obtain⟨f1,d1,v1,e1,h1⟩:=AH Tryz.underlying51 h 1 _ rfl FK;obtain⟨f2,d2,v2,e2,h2⟩:=AH Tryz.underlying51 h 2 _ rfl IY;obtain⟨_,d3,_,e3,l3⟩:=AH Tryz.underlying51 h 3 _ rfl (AW Tryz.underlying2);obtain⟨_,d4,_,e4,l4⟩:=AH Tryz.underlying51 h 4 _ rfl (AW Tryz.underlying2);exact⟨f0 ++(f1 ++ f2),⟨d0,d1,d2,d3,d4⟩,v0,v1,v2,f0,f1,f2,cut5 cs _ _ _ _ _ hl e0 e1 e2 e3 e4,rfl,l3,l4,h0,h1,h2⟩
theorem IZ:Bw 53 AE:=by
 intro H enc W base spare held fuel cs x h;have hl:cs.length=20:=(BJ Tryz.underlying53 h).trans (by kernel_rfl);obtain⟨f1,d1,h1⟩:=AH Tryz.underlying53 h 0 _ rfl Ke;obtain⟨f2,d2,h2⟩:=AH Tryz.underlying53 h 1 _ rfl LA;have e:cs=(cs.drop 0).take 15 ++(cs.drop 15).take 5:=by
  match cs,hl with
  | [c0,c1,c2,c3,c4,c5,c6,c7,c8,c9,c10,c11,c12,c13,c14,c15,c16,c17,c18,c19],_ => rfl
 refine⟨f1 ++ f2,⟨d1,d2⟩,?_⟩;rw[e];exact AE.of (d:=⟨d1,d2⟩) h1 h2
theorem lawQu_w {v:Value} {fs:List Addr} {d:AY} {W:World}(h:∃cs:Array Value,v= .agg cs∧AE W fs cs.toList d) :
  Calls Tryz.prog 5 #[v] W fun e w' => e= .returned (.bool true)∧Below W.heap.size W w':=by
 obtain⟨⟨cs⟩,rfl,h⟩:=h;exact Lt d cs fs W h
end Go.Proofs.YtfjkoifpdoemdaaGreat
