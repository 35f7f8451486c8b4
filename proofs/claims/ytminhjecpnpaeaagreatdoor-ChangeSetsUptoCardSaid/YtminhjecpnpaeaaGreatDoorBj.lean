/- Functions that hold two data against each other. Conditions: none. -/
import Derived.Test.YtminhjecpnpaeaaGreatDoorBb
import Derived.Test.YtminhjecpnpaeaaGreatDoorUn
set_option linter.unusedVariables false
set_option linter.unusedSimpArgs false
namespace Go.Proofs.YtminhjecpnpaeaaGreatDoor
open Go Go.Am Go.Proofs
attribute [local irreducible] Go.Am.wp Go.Am.TOp.eval
theorem qW9:nO EE.prog 4 58=some [.int .i64,.int .i64]:=by kernel_rfl
theorem qXf:oO EE.prog 58=true:=by kernel_rfl
theorem qXo:EE.prog.eqGuardType EE.prog.depth 58=false:=by kernel_rfl
theorem qXa:nO EE.prog 1 4=some [.bool]:=by kernel_rfl
theorem qXg:oO EE.prog 4=false:=by kernel_rfl
theorem qW6:nO EE.prog 4 92=some [.int .i64,.int .i64,.int .i64]:=by kernel_rfl
theorem qXc:oO EE.prog 92=true:=by kernel_rfl
theorem qXl:EE.prog.eqGuardType EE.prog.depth 92=false:=by kernel_rfl
theorem qW5:nO EE.prog 4 94=some [.str,.str]:=by kernel_rfl
theorem qXb:oO EE.prog 94=true:=by kernel_rfl
theorem qXk:EE.prog.eqGuardType EE.prog.depth 94=false:=by kernel_rfl
theorem qW8:nO EE.prog 4 66=some [.int .i64,.int .i64]:=by kernel_rfl
theorem qXe:oO EE.prog 66=true:=by kernel_rfl
theorem qXn:EE.prog.eqGuardType EE.prog.depth 66=false:=by kernel_rfl
theorem qUn:nO EE.prog 4 120=some [.int .i64,.int .i64]:=by kernel_rfl
theorem qUo:oO EE.prog 120=true:=by kernel_rfl
theorem qUy:EE.prog.eqGuardType EE.prog.depth 120=false:=by kernel_rfl
theorem qW7:nO EE.prog 4 81=some [.str,.int .i64]:=by kernel_rfl
theorem qXd:oO EE.prog 81=true:=by kernel_rfl
theorem qXm:EE.prog.eqGuardType EE.prog.depth 81=false:=by kernel_rfl
theorem qU6 {a b:D} (h_a:vA (.sl 3 1 (.int .i64)) a) (h_b:vA (.sl 3 1 (.int .i64)) b):qB EE 73 [a,b] (dB (kD a b)):=by
 refine qZK rfl (qK.step' ?_)
 have i_a:=zB h_a
 have i_b:=zB h_b
 refine bS (qL i_a) ?_
 refine bS (qL i_b) ?_
 refine bS yI ?_
 refine iC (fun c0=>?_) fun c0=>?_
 ·have q0:=kC i_a i_b (oL c0)
  refine qC (d':=dB (false)) rfl (vE ?_)
  ((try simp only [qO,qR,qN,qH,qT,qM,qS] at q0 ⊢); grind)
 have l_a_b:=oK c0
 refine bS (qL i_a) ?_
 refine qE rfl ?_
 refine yF (ρ:=fun i1=>[a,b,dI ((a.es.length:Nat):Int),dI ((i1:Nat):Int)]) i_a i_b l_a_b (fun q1=>?_) ?_ (fun q1=>?_)
 ·((try simp only [qO,qR,qN,qH,qT,qM,qS] at q1 ⊢); grind)
 ·intro i1 x1 y1 e_x1 e_y1 hi1 hj1
  obtain ⟨x1,rfl⟩:=jE h_a e_x1
  obtain ⟨y1,rfl⟩:=jE h_b e_y1
  refine bS j9 ?_
  refine zY rfl ?_
  rw [kB (show i1 < a.es.length by omega)]
  refine kZ ?_
  refine bS (vM e_x1) ?_
  refine bS (xP i_a e_x1 rfl) ?_
  refine bS (vM e_y1) ?_
  refine bS (xP i_b e_y1 rfl) ?_
  refine bS yI ?_
  refine iC (fun c2=>?_) fun c2=>?_
  ·skip
   refine xR rfl ?_
   clear hi1 hj1; ((try simp only [qO,qR,qN,qH,qT,qM,qS] at c2 ⊢); grind)
  refine bS (zA hj1) ?_
  refine yA rfl ?_
  clear hi1 hj1; ((try simp only [qO,qR,qN,qH,qT,qM,qS] at c2 ⊢); grind)
 refine bS j9 ?_
 refine zY rfl ?_
 rw [wO]
 refine oA ?_
 refine qC (d':=dB (true)) rfl (vE ?_)
 ((try simp only [qO,qR,qN,qH,qT,qM,qS] at q1 ⊢); grind)
theorem qZm {a b:D} (h_a:vA (.sl 58 2 (.st [.int .i64,.int .i64])) a) (h_b:vA (.sl 58 2 (.st [.int .i64,.int .i64])) b):qB EE 74 [a,b] (dB (kD a b)):=by
 refine qZJ rfl (qK.step' ?_)
 have i_a:=zB h_a
 have i_b:=zB h_b
 refine bS (qL i_a) ?_
 refine bS (qL i_b) ?_
 refine bS yI ?_
 refine iC (fun c0=>?_) fun c0=>?_
 ·have q0:=kC i_a i_b (oL c0)
  refine qC (d':=dB (false)) rfl (vE ?_)
  ((try simp only [qO,qR,qN,qH,qT,qM,qS] at q0 ⊢); grind)
 have l_a_b:=oK c0
 refine qE rfl ?_
 refine yF (ρ:=fun i1=>[a,b,dI ((i1:Nat):Int)]) i_a i_b l_a_b (fun q1=>?_) ?_ (fun q1=>?_)
 ·((try simp only [qO,qR,qN,qH,qT,qM,qS] at q1 ⊢); grind)
 ·intro i1 x1 y1 e_x1 e_y1 hi1 hj1
  obtain ⟨_,rfl,_,_,rfl,⟨x1_0,rfl⟩,_,_,rfl,⟨x1_1,rfl⟩,rfl⟩:=jE h_a e_x1
  obtain ⟨_,rfl,_,_,rfl,⟨y1_0,rfl⟩,_,_,rfl,⟨y1_1,rfl⟩,rfl⟩:=jE h_b e_y1
  refine bS (qL i_a) ?_
  refine bS j9 ?_
  refine zY rfl ?_
  rw [kB (show i1 < a.es.length by omega)]
  refine kZ ?_
  refine bS (vM e_x1) ?_
  refine bS (jO i_a e_x1 rfl) ?_
  refine bS (vM e_y1) ?_
  refine bS (jO i_b e_y1 rfl) ?_
  refine bS (nV .neq (.inl rfl) qW9 qXf qU4 qXo rfl (qZ jT (qZ jT xS)) (qZ jT (qZ jT xS))) ?_
  refine iC (fun c2=>?_) fun c2=>?_
  ·skip
   refine xR rfl ?_
   clear hi1 hj1; ((try simp only [qO,qR,qN,qH,qT,qM,qS] at c2 ⊢); grind)
  refine bS (zA hj1) ?_
  refine yA rfl ?_
  clear hi1 hj1; ((try simp only [qO,qR,qN,qH,qT,qM,qS] at c2 ⊢); grind)
 refine bS (qL i_a) ?_
 refine bS j9 ?_
 refine zY rfl ?_
 rw [wO]
 refine oA ?_
 refine qC (d':=dB (true)) rfl (vE ?_)
 ((try simp only [qO,qR,qN,qH,qT,qM,qS] at q1 ⊢); grind)
theorem zAr {a b:D} (h_a:vA (.st [.str,.sl 77 2 (.st [.str,.sl 3 1 (.int .i64)]),.sl 50 1 (.sl 9 1 (.str))]) a) (h_b:vA (.st [.str,.sl 77 2 (.st [.str,.sl 3 1 (.int .i64)]),.sl 50 1 (.sl 9 1 (.str))]) b):qB EE 36 [a,b] (dB (kD a b)):=by
 refine qZR rfl (qK.step' ?_)
 obtain ⟨_,rfl,_,_,rfl,⟨a_0,rfl⟩,a_1,_,rfl,h_a_1,a_2,_,rfl,h_a_2,rfl⟩:=h_a
 have i_a_1:=zB h_a_1
 have i_a_2:=zB h_a_2
 obtain ⟨_,rfl,_,_,rfl,⟨b_0,rfl⟩,b_1,_,rfl,h_b_1,b_2,_,rfl,h_b_2,rfl⟩:=h_b
 have i_b_1:=zB h_b_1
 have i_b_2:=zB h_b_2
 refine bS (qU rfl) ?_
 refine bS (qU rfl) ?_
 refine bS (qA (off:=0) rfl rfl) ?_
 refine bS (qA (off:=0) rfl rfl) ?_
 refine bS pZ ?_
 refine iC (fun c0=>?_) fun c0=>?_
 ·skip
  refine qC (d':=dB (false)) rfl (vE ?_)
  ((try simp only [qO,qR,qN,qH,qT,qM,qS] at c0 ⊢); grind)
 refine bS (qA (off:=1) rfl i_a_1.one) ?_
 refine bS (qL i_a_1) ?_
 refine bS (qA (off:=1) rfl i_b_1.one) ?_
 refine bS (qL i_b_1) ?_
 refine bS yI ?_
 refine iC (fun c1=>?_) fun c1=>?_
 ·have q1:=kC i_a_1 i_b_1 (oL c1)
  refine qC (d':=dB (false)) rfl (vE ?_)
  ((try simp only [qO,qR,qN,qH,qT,qM,qS] at q1 c0 ⊢); grind)
 have l_a_1_b_1:=oK c1
 refine bS (qA (off:=2) rfl i_a_2.one) ?_
 refine bS (qL i_a_2) ?_
 refine bS (qA (off:=2) rfl i_b_2.one) ?_
 refine bS (qL i_b_2) ?_
 refine bS yI ?_
 refine iC (fun c2=>?_) fun c2=>?_
 ·have q2:=kC i_a_2 i_b_2 (oL c2)
  refine qC (d':=dB (false)) rfl (vE ?_)
  ((try simp only [qO,qR,qN,qH,qT,qM,qS] at q2 c0 ⊢); grind)
 have l_a_2_b_2:=oK c2
 refine qE rfl ?_
 refine yF (ρ:=fun i3=>[dI ((i3:Nat):Int),.agg [.leaf (.string a_0),a_1,a_2],.agg [.leaf (.string b_0),b_1,b_2]]) i_a_1 i_b_1 l_a_1_b_1 (fun q3=>?_) ?_ (fun q3=>?_)
 ·((try simp only [qO,qR,qN,qH,qT,qM,qS] at q3 c0 ⊢); grind)
 ·intro i3 x3 y3 e_x3 e_y3 hi3 hj3
  obtain ⟨_,rfl,_,_,rfl,⟨x3_0,rfl⟩,x3_1,_,rfl,h_x3_1,rfl⟩:=jE h_a_1 e_x3
  have i_x3_1:=zB h_x3_1
  obtain ⟨_,rfl,_,_,rfl,⟨y3_0,rfl⟩,y3_1,_,rfl,h_y3_1,rfl⟩:=jE h_b_1 e_y3
  have i_y3_1:=zB h_y3_1
  refine bS (qA (off:=1) rfl i_a_1.one) ?_
  refine bS (qL i_a_1) ?_
  refine bS j9 ?_
  refine zY rfl ?_
  rw [kB (show i3 < a_1.es.length by omega)]
  refine kZ ?_
  refine bS (qA (off:=1) rfl i_a_1.one) ?_
  refine bS (vM e_x3) ?_
  refine bS (d:=.leaf (.string x3_0)) (rU (off:=0) i_a_1 e_x3 rfl rfl (by decide)) ?_
  refine bS (qA (off:=1) rfl i_b_1.one) ?_
  refine bS (vM e_y3) ?_
  refine bS (d:=.leaf (.string y3_0)) (rU (off:=0) i_b_1 e_y3 rfl rfl (by decide)) ?_
  refine bS pZ ?_
  refine iC (fun c4=>?_) fun c4=>?_
  ·skip
   refine xR rfl ?_
   clear hi3 hj3; ((try simp only [qO,qR,qN,qH,qT,qM,qS] at c4 c0 ⊢); grind)
  refine bS (qA (off:=1) rfl i_a_1.one) ?_
  refine bS (vM e_x3) ?_
  refine bS (d:=x3_1) (rU (off:=1) i_a_1 e_x3 rfl i_x3_1.one (by decide)) ?_
  refine bS (qA (off:=1) rfl i_b_1.one) ?_
  refine bS (vM e_y3) ?_
  refine bS (d:=y3_1) (rU (off:=1) i_b_1 e_y3 rfl i_y3_1.one (by decide)) ?_
  refine cS (qU6 h_x3_1 h_y3_1) ?_
  refine bS vV ?_
  refine iC (fun c5=>?_) fun c5=>?_
  ·skip
   refine xR rfl ?_
   clear hi3 hj3; ((try simp only [qO,qR,qN,qH,qT,qM,qS] at c5 c4 c0 ⊢); grind)
  refine bS (zA hj3) ?_
  refine yA rfl ?_
  clear hi3 hj3; ((try simp only [qO,qR,qN,qH,qT,qM,qS] at c5 c4 c0 ⊢); grind)
 refine bS (qA (off:=1) rfl i_a_1.one) ?_
 refine bS (qL i_a_1) ?_
 refine bS j9 ?_
 refine zY rfl ?_
 rw [wO]
 refine oA ?_
 refine qE rfl ?_
 refine qM1 (ρ:=fun i4=>[dI ((i4:Nat):Int),.agg [.leaf (.string a_0),a_1,a_2],.agg [.leaf (.string b_0),b_1,b_2]]) i_a_2 i_b_2 l_a_2_b_2 (fun q4=>?_) ?_ (fun q4=>?_)
 ·((try simp only [qO,qR,qN,qH,qT,qM,qS] at q4 q3 c0 ⊢); grind)
 ·intro i4 x4 y4 e_x4 e_y4 hi4 hj4 hs4 hf4
  have h_x4:=jE h_a_2 e_x4
  have i_x4:=zB h_x4
  have h_y4:=jE h_b_2 e_y4
  have i_y4:=zB h_y4
  refine bS (qA (off:=2) rfl i_a_2.one) ?_
  refine bS (qL i_a_2) ?_
  refine bS j9 ?_
  refine zY rfl ?_
  rw [kB (show i4 < a_2.es.length by omega)]
  refine kZ ?_
  refine bS (qA (off:=2) rfl i_a_2.one) ?_
  refine bS (vM e_x4) ?_
  refine bS (xP i_a_2 e_x4 i_x4.one) ?_
  refine bS (qL i_x4) ?_
  refine bS (qA (off:=2) rfl i_b_2.one) ?_
  refine bS (vM e_y4) ?_
  refine bS (xP i_b_2 e_y4 i_y4.one) ?_
  refine bS (qL i_y4) ?_
  refine bS yI ?_
  refine iC (fun c5=>?_) fun c5=>?_
  ·have q5:=kC i_x4 i_y4 (oL c5)
   refine qC (d':=dB (false)) rfl (vE ?_)
   clear hi4 hj4 hs4; ((try simp only [qO,qR,qN,qH,qT,qM,qS] at q5 hf4 q3 c0 ⊢); grind)
  have l_x4_y4:=oK c5
  refine qE rfl ?_
  refine yF (ρ:=fun i6=>[dI ((i4:Nat):Int),dI ((i6:Nat):Int),.agg [.leaf (.string a_0),a_1,a_2],.agg [.leaf (.string b_0),b_1,b_2]]) i_x4 i_y4 l_x4_y4 (fun q6=>?_) ?_ (fun q6=>?_)
  ·clear hi4 hj4 hs4; ((try simp only [qO,qR,qN,qH,qT,qM,qS] at q6 hf4 q3 c0 ⊢); grind)
  ·intro i6 x6 y6 e_x6 e_y6 hi6 hj6
   obtain ⟨x6,rfl⟩:=jE h_x4 e_x6
   obtain ⟨y6,rfl⟩:=jE h_y4 e_y6
   refine bS (qA (off:=2) rfl i_a_2.one) ?_
   refine bS (vM e_x4) ?_
   refine bS (xP i_a_2 e_x4 i_x4.one) ?_
   refine bS (qL i_x4) ?_
   refine bS j9 ?_
   refine zY rfl ?_
   rw [kB (show i6 < x4.es.length by omega)]
   refine kZ ?_
   refine bS (qA (off:=2) rfl i_a_2.one) ?_
   refine bS (vM e_x4) ?_
   refine bS (xP i_a_2 e_x4 i_x4.one) ?_
   refine bS (vM e_x6) ?_
   refine bS (xP i_x4 e_x6 rfl) ?_
   refine bS (qA (off:=2) rfl i_b_2.one) ?_
   refine bS (vM e_y4) ?_
   refine bS (xP i_b_2 e_y4 i_y4.one) ?_
   refine bS (vM e_y6) ?_
   refine bS (xP i_y4 e_y6 rfl) ?_
   refine bS pZ ?_
   refine iC (fun c7=>?_) fun c7=>?_
   ·skip
    refine xR rfl ?_
    clear hi6 hj6 hi4 hj4 hs4; ((try simp only [qO,qR,qN,qH,qT,qM,qS] at c7 hf4 q3 c0 ⊢); grind)
   refine bS (zA hj6) ?_
   refine yA rfl ?_
   clear hi6 hj6 hi4 hj4 hs4; ((try simp only [qO,qR,qN,qH,qT,qM,qS] at c7 hf4 q3 c0 ⊢); grind)
  refine bS (qA (off:=2) rfl i_a_2.one) ?_
  refine bS (vM e_x4) ?_
  refine bS (xP i_a_2 e_x4 i_x4.one) ?_
  refine bS (qL i_x4) ?_
  refine bS j9 ?_
  refine zY rfl ?_
  rw [wO]
  refine oA ?_
  refine bS (zA hj4) ?_
  refine qE rfl (hs4 ?_)
  clear hi4 hj4 hs4; ((try simp only [qO,qR,qN,qH,qT,qM,qS] at q6 hf4 q3 c0 ⊢); grind)
 refine bS (qA (off:=2) rfl i_a_2.one) ?_
 refine bS (qL i_a_2) ?_
 refine bS j9 ?_
 refine zY rfl ?_
 rw [wO]
 refine oA ?_
 refine qC (d':=dB (true)) rfl (vE ?_)
 ((try simp only [qO,qR,qN,qH,qT,qM,qS] at q4 q3 c0 ⊢); grind)
theorem zAq {a b:D} (h_a:vA (.sl 39 6 (.st [.sl 3 1 (.int .i64),.sl 3 1 (.int .i64),.sl 58 2 (.st [.int .i64,.int .i64]),.sl 58 2 (.st [.int .i64,.int .i64]),.bool,.bool])) a) (h_b:vA (.sl 39 6 (.st [.sl 3 1 (.int .i64),.sl 3 1 (.int .i64),.sl 58 2 (.st [.int .i64,.int .i64]),.sl 58 2 (.st [.int .i64,.int .i64]),.bool,.bool])) b):qB EE 37 [a,b] (dB (kD a b)):=by
 refine qZQ rfl (qK.step' ?_)
 have i_a:=zB h_a
 have i_b:=zB h_b
 refine bS (qL i_a) ?_
 refine bS (qL i_b) ?_
 refine bS yI ?_
 refine iC (fun c0=>?_) fun c0=>?_
 ·have q0:=kC i_a i_b (oL c0)
  refine qC (d':=dB (false)) rfl (vE ?_)
  ((try simp only [qO,qR,qN,qH,qT,qM,qS] at q0 ⊢); grind)
 have l_a_b:=oK c0
 refine qE rfl ?_
 refine yF (ρ:=fun i1=>[a,b,dI ((i1:Nat):Int)]) i_a i_b l_a_b (fun q1=>?_) ?_ (fun q1=>?_)
 ·((try simp only [qO,qR,qN,qH,qT,qM,qS] at q1 ⊢); grind)
 ·intro i1 x1 y1 e_x1 e_y1 hi1 hj1
  obtain ⟨_,rfl,x1_0,_,rfl,h_x1_0,x1_1,_,rfl,h_x1_1,x1_2,_,rfl,h_x1_2,x1_3,_,rfl,h_x1_3,_,_,rfl,⟨x1_4,rfl⟩,_,_,rfl,⟨x1_5,rfl⟩,rfl⟩:=jE h_a e_x1
  have i_x1_0:=zB h_x1_0
  have i_x1_1:=zB h_x1_1
  have i_x1_2:=zB h_x1_2
  have i_x1_3:=zB h_x1_3
  obtain ⟨_,rfl,y1_0,_,rfl,h_y1_0,y1_1,_,rfl,h_y1_1,y1_2,_,rfl,h_y1_2,y1_3,_,rfl,h_y1_3,_,_,rfl,⟨y1_4,rfl⟩,_,_,rfl,⟨y1_5,rfl⟩,rfl⟩:=jE h_b e_y1
  have i_y1_0:=zB h_y1_0
  have i_y1_1:=zB h_y1_1
  have i_y1_2:=zB h_y1_2
  have i_y1_3:=zB h_y1_3
  refine bS (qL i_a) ?_
  refine bS j9 ?_
  refine zY rfl ?_
  rw [kB (show i1 < a.es.length by omega)]
  refine kZ ?_
  refine bS (vM e_x1) ?_
  refine bS (jO i_a e_x1 rfl) ?_
  refine bS (vM e_y1) ?_
  refine bS (jO i_b e_y1 rfl) ?_
  refine bS (qU rfl) ?_
  refine bS (qU rfl) ?_
  refine bS (vM e_x1) ?_
  refine bS (vM e_y1) ?_
  refine bS (qA (off:=4) rfl rfl) ?_
  refine bS (qA (off:=4) rfl rfl) ?_
  refine bS (qIB .neq (.inl rfl) qXa qXg) ?_
  refine iC (fun c2=>?_) fun c2=>?_
  ·skip
   refine xR rfl ?_
   clear hi1 hj1; ((try simp only [qO,qR,qN,qH,qT,qM,qS] at c2 ⊢); grind)
  refine bS (qA (off:=5) rfl rfl) ?_
  refine bS (qA (off:=5) rfl rfl) ?_
  refine bS (qIB .neq (.inl rfl) qXa qXg) ?_
  refine iC (fun c3=>?_) fun c3=>?_
  ·skip
   refine xR rfl ?_
   clear hi1 hj1; ((try simp only [qO,qR,qN,qH,qT,qM,qS] at c3 c2 ⊢); grind)
  refine bS (qA (off:=0) rfl i_x1_0.one) ?_
  refine bS (qA (off:=0) rfl i_y1_0.one) ?_
  refine cS (qU6 h_x1_0 h_y1_0) ?_
  refine bS vV ?_
  refine iC (fun c4=>?_) fun c4=>?_
  ·skip
   refine xR rfl ?_
   clear hi1 hj1; ((try simp only [qO,qR,qN,qH,qT,qM,qS] at c4 c3 c2 ⊢); grind)
  refine bS (qA (off:=1) rfl i_x1_1.one) ?_
  refine bS (qA (off:=1) rfl i_y1_1.one) ?_
  refine cS (qU6 h_x1_1 h_y1_1) ?_
  refine bS vV ?_
  refine iC (fun c5=>?_) fun c5=>?_
  ·skip
   refine xR rfl ?_
   clear hi1 hj1; ((try simp only [qO,qR,qN,qH,qT,qM,qS] at c5 c4 c3 c2 ⊢); grind)
  refine bS (qA (off:=2) rfl i_x1_2.one) ?_
  refine bS (qA (off:=2) rfl i_y1_2.one) ?_
  refine cS (qZm h_x1_2 h_y1_2) ?_
  refine bS vV ?_
  refine iC (fun c6=>?_) fun c6=>?_
  ·skip
   refine xR rfl ?_
   clear hi1 hj1; ((try simp only [qO,qR,qN,qH,qT,qM,qS] at c6 c5 c4 c3 c2 ⊢); grind)
  refine bS (qA (off:=3) rfl i_x1_3.one) ?_
  refine bS (qA (off:=3) rfl i_y1_3.one) ?_
  refine cS (qZm h_x1_3 h_y1_3) ?_
  refine bS vV ?_
  refine iC (fun c7=>?_) fun c7=>?_
  ·skip
   refine xR rfl ?_
   clear hi1 hj1; ((try simp only [qO,qR,qN,qH,qT,qM,qS] at c7 c6 c5 c4 c3 c2 ⊢); grind)
  refine bS (zA hj1) ?_
  refine yA rfl ?_
  clear hi1 hj1; ((try simp only [qO,qR,qN,qH,qT,qM,qS] at c7 c6 c5 c4 c3 c2 ⊢); grind)
 refine bS (qL i_a) ?_
 refine bS j9 ?_
 refine zY rfl ?_
 rw [wO]
 refine oA ?_
 refine qC (d':=dB (true)) rfl (vE ?_)
 ((try simp only [qO,qR,qN,qH,qT,qM,qS] at q1 ⊢); grind)
theorem zAp {a b:D} (h_a:vA (.st [.int .i64,.sl 92 3 (.st [.int .i64,.int .i64,.int .i64]),.sl 3 1 (.int .i64)]) a) (h_b:vA (.st [.int .i64,.sl 92 3 (.st [.int .i64,.int .i64,.int .i64]),.sl 3 1 (.int .i64)]) b):qB EE 38 [a,b] (dB (kD a b)):=by
 refine qZP rfl (qK.step' ?_)
 obtain ⟨_,rfl,_,_,rfl,⟨a_0,rfl⟩,a_1,_,rfl,h_a_1,a_2,_,rfl,h_a_2,rfl⟩:=h_a
 have i_a_1:=zB h_a_1
 have i_a_2:=zB h_a_2
 obtain ⟨_,rfl,_,_,rfl,⟨b_0,rfl⟩,b_1,_,rfl,h_b_1,b_2,_,rfl,h_b_2,rfl⟩:=h_b
 have i_b_1:=zB h_b_1
 have i_b_2:=zB h_b_2
 refine bS (qU rfl) ?_
 refine bS (qU rfl) ?_
 refine bS (qA (off:=0) rfl rfl) ?_
 refine bS (qA (off:=0) rfl rfl) ?_
 refine bS yI ?_
 refine iC (fun c0=>?_) fun c0=>?_
 ·skip
  refine qC (d':=dB (false)) rfl (vE ?_)
  ((try simp only [qO,qR,qN,qH,qT,qM,qS] at c0 ⊢); grind)
 refine bS (qA (off:=1) rfl i_a_1.one) ?_
 refine bS (qL i_a_1) ?_
 refine bS (qA (off:=1) rfl i_b_1.one) ?_
 refine bS (qL i_b_1) ?_
 refine bS yI ?_
 refine iC (fun c1=>?_) fun c1=>?_
 ·have q1:=kC i_a_1 i_b_1 (oL c1)
  refine qC (d':=dB (false)) rfl (vE ?_)
  ((try simp only [qO,qR,qN,qH,qT,qM,qS] at q1 c0 ⊢); grind)
 have l_a_1_b_1:=oK c1
 refine bS (qA (off:=2) rfl i_a_2.one) ?_
 refine bS (qA (off:=2) rfl i_b_2.one) ?_
 refine cS (qU6 h_a_2 h_b_2) ?_
 refine bS vV ?_
 refine iC (fun c2=>?_) fun c2=>?_
 ·skip
  refine qC (d':=dB (false)) rfl (vE ?_)
  ((try simp only [qO,qR,qN,qH,qT,qM,qS] at c2 c0 ⊢); grind)
 refine qE rfl ?_
 refine yF (ρ:=fun i3=>[dI ((i3:Nat):Int),.agg [dI a_0,a_1,a_2],.agg [dI b_0,b_1,b_2]]) i_a_1 i_b_1 l_a_1_b_1 (fun q3=>?_) ?_ (fun q3=>?_)
 ·((try simp only [qO,qR,qN,qH,qT,qM,qS] at q3 c2 c0 ⊢); grind)
 ·intro i3 x3 y3 e_x3 e_y3 hi3 hj3
  obtain ⟨_,rfl,_,_,rfl,⟨x3_0,rfl⟩,_,_,rfl,⟨x3_1,rfl⟩,_,_,rfl,⟨x3_2,rfl⟩,rfl⟩:=jE h_a_1 e_x3
  obtain ⟨_,rfl,_,_,rfl,⟨y3_0,rfl⟩,_,_,rfl,⟨y3_1,rfl⟩,_,_,rfl,⟨y3_2,rfl⟩,rfl⟩:=jE h_b_1 e_y3
  refine bS (qA (off:=1) rfl i_a_1.one) ?_
  refine bS (qL i_a_1) ?_
  refine bS j9 ?_
  refine zY rfl ?_
  rw [kB (show i3 < a_1.es.length by omega)]
  refine kZ ?_
  refine bS (qA (off:=1) rfl i_a_1.one) ?_
  refine bS (vM e_x3) ?_
  refine bS (jO i_a_1 e_x3 rfl) ?_
  refine bS (qA (off:=1) rfl i_b_1.one) ?_
  refine bS (vM e_y3) ?_
  refine bS (jO i_b_1 e_y3 rfl) ?_
  refine bS (nV .neq (.inl rfl) qW6 qXc qU4 qXl rfl (qZ jT (qZ jT (qZ jT xS))) (qZ jT (qZ jT (qZ jT xS)))) ?_
  refine iC (fun c4=>?_) fun c4=>?_
  ·skip
   refine xR rfl ?_
   clear hi3 hj3; ((try simp only [qO,qR,qN,qH,qT,qM,qS] at c4 c2 c0 ⊢); grind)
  refine bS (zA hj3) ?_
  refine yA rfl ?_
  clear hi3 hj3; ((try simp only [qO,qR,qN,qH,qT,qM,qS] at c4 c2 c0 ⊢); grind)
 refine bS (qA (off:=1) rfl i_a_1.one) ?_
 refine bS (qL i_a_1) ?_
 refine bS j9 ?_
 refine zY rfl ?_
 rw [wO]
 refine oA ?_
 refine qC (d':=dB (true)) rfl (vE ?_)
 ((try simp only [qO,qR,qN,qH,qT,qM,qS] at q3 c2 c0 ⊢); grind)
theorem zAs {a b:D} (h_a:vA (.st [.int .i64,.sl 3 1 (.int .i64),.int .i64,.sl 31 1 (.sl 3 1 (.int .i64)),.int .i64,.sl 94 2 (.st [.str,.str]),.sl 66 2 (.st [.int .i64,.int .i64]),.sl 120 2 (.st [.int .i64,.int .i64])]) a) (h_b:vA (.st [.int .i64,.sl 3 1 (.int .i64),.int .i64,.sl 31 1 (.sl 3 1 (.int .i64)),.int .i64,.sl 94 2 (.st [.str,.str]),.sl 66 2 (.st [.int .i64,.int .i64]),.sl 120 2 (.st [.int .i64,.int .i64])]) b):qB EE 35 [a,b] (dB (kD a b)):=by
 refine qZS rfl (qK.step' ?_)
 obtain ⟨_,rfl,_,_,rfl,⟨a_0,rfl⟩,a_1,_,rfl,h_a_1,_,_,rfl,⟨a_2,rfl⟩,a_3,_,rfl,h_a_3,_,_,rfl,⟨a_4,rfl⟩,a_5,_,rfl,h_a_5,a_6,_,rfl,h_a_6,a_7,_,rfl,h_a_7,rfl⟩:=h_a
 have i_a_1:=zB h_a_1
 have i_a_3:=zB h_a_3
 have i_a_5:=zB h_a_5
 have i_a_6:=zB h_a_6
 have i_a_7:=zB h_a_7
 obtain ⟨_,rfl,_,_,rfl,⟨b_0,rfl⟩,b_1,_,rfl,h_b_1,_,_,rfl,⟨b_2,rfl⟩,b_3,_,rfl,h_b_3,_,_,rfl,⟨b_4,rfl⟩,b_5,_,rfl,h_b_5,b_6,_,rfl,h_b_6,b_7,_,rfl,h_b_7,rfl⟩:=h_b
 have i_b_1:=zB h_b_1
 have i_b_3:=zB h_b_3
 have i_b_5:=zB h_b_5
 have i_b_6:=zB h_b_6
 have i_b_7:=zB h_b_7
 refine bS (qU rfl) ?_
 refine bS (qU rfl) ?_
 refine bS (qA (off:=0) rfl rfl) ?_
 refine bS (qA (off:=0) rfl rfl) ?_
 refine bS yI ?_
 refine iC (fun c0=>?_) fun c0=>?_
 ·skip
  refine qC (d':=dB (false)) rfl (vE ?_)
  ((try simp only [qO,qR,qN,qH,qT,qM,qS] at c0 ⊢); grind)
 refine bS (qA (off:=2) rfl rfl) ?_
 refine bS (qA (off:=2) rfl rfl) ?_
 refine bS yI ?_
 refine iC (fun c1=>?_) fun c1=>?_
 ·skip
  refine qC (d':=dB (false)) rfl (vE ?_)
  ((try simp only [qO,qR,qN,qH,qT,qM,qS] at c1 c0 ⊢); grind)
 refine bS (qA (off:=4) rfl rfl) ?_
 refine bS (qA (off:=4) rfl rfl) ?_
 refine bS yI ?_
 refine iC (fun c2=>?_) fun c2=>?_
 ·skip
  refine qC (d':=dB (false)) rfl (vE ?_)
  ((try simp only [qO,qR,qN,qH,qT,qM,qS] at c2 c1 c0 ⊢); grind)
 refine bS (qA (off:=1) rfl i_a_1.one) ?_
 refine bS (qA (off:=1) rfl i_b_1.one) ?_
 refine cS (qU6 h_a_1 h_b_1) ?_
 refine bS vV ?_
 refine iC (fun c3=>?_) fun c3=>?_
 ·skip
  refine qC (d':=dB (false)) rfl (vE ?_)
  ((try simp only [qO,qR,qN,qH,qT,qM,qS] at c3 c2 c1 c0 ⊢); grind)
 refine bS (qA (off:=3) rfl i_a_3.one) ?_
 refine bS (qL i_a_3) ?_
 refine bS (qA (off:=3) rfl i_b_3.one) ?_
 refine bS (qL i_b_3) ?_
 refine bS yI ?_
 refine iC (fun c4=>?_) fun c4=>?_
 ·have q4:=kC i_a_3 i_b_3 (oL c4)
  refine qC (d':=dB (false)) rfl (vE ?_)
  ((try simp only [qO,qR,qN,qH,qT,qM,qS] at q4 c3 c2 c1 c0 ⊢); grind)
 have l_a_3_b_3:=oK c4
 refine bS (qA (off:=5) rfl i_a_5.one) ?_
 refine bS (qL i_a_5) ?_
 refine bS (qA (off:=5) rfl i_b_5.one) ?_
 refine bS (qL i_b_5) ?_
 refine bS yI ?_
 refine iC (fun c5=>?_) fun c5=>?_
 ·have q5:=kC i_a_5 i_b_5 (oL c5)
  refine qC (d':=dB (false)) rfl (vE ?_)
  ((try simp only [qO,qR,qN,qH,qT,qM,qS] at q5 c3 c2 c1 c0 ⊢); grind)
 have l_a_5_b_5:=oK c5
 refine bS (qA (off:=6) rfl i_a_6.one) ?_
 refine bS (qL i_a_6) ?_
 refine bS (qA (off:=6) rfl i_b_6.one) ?_
 refine bS (qL i_b_6) ?_
 refine bS yI ?_
 refine iC (fun c6=>?_) fun c6=>?_
 ·have q6:=kC i_a_6 i_b_6 (oL c6)
  refine qC (d':=dB (false)) rfl (vE ?_)
  ((try simp only [qO,qR,qN,qH,qT,qM,qS] at q6 c3 c2 c1 c0 ⊢); grind)
 have l_a_6_b_6:=oK c6
 refine bS (qA (off:=7) rfl i_a_7.one) ?_
 refine bS (qL i_a_7) ?_
 refine bS (qA (off:=7) rfl i_b_7.one) ?_
 refine bS (qL i_b_7) ?_
 refine bS yI ?_
 refine iC (fun c7=>?_) fun c7=>?_
 ·have q7:=kC i_a_7 i_b_7 (oL c7)
  refine qC (d':=dB (false)) rfl (vE ?_)
  ((try simp only [qO,qR,qN,qH,qT,qM,qS] at q7 c3 c2 c1 c0 ⊢); grind)
 have l_a_7_b_7:=oK c7
 refine qE rfl ?_
 refine yF (ρ:=fun i8=>[dI ((i8:Nat):Int),.agg [dI a_0,a_1,dI a_2,a_3,dI a_4,a_5,a_6,a_7],.agg [dI b_0,b_1,dI b_2,b_3,dI b_4,b_5,b_6,b_7]]) i_a_3 i_b_3 l_a_3_b_3 (fun q8=>?_) ?_ (fun q8=>?_)
 ·((try simp only [qO,qR,qN,qH,qT,qM,qS] at q8 c3 c2 c1 c0 ⊢); grind)
 ·intro i8 x8 y8 e_x8 e_y8 hi8 hj8
  have h_x8:=jE h_a_3 e_x8
  have i_x8:=zB h_x8
  have h_y8:=jE h_b_3 e_y8
  have i_y8:=zB h_y8
  refine bS (qA (off:=3) rfl i_a_3.one) ?_
  refine bS (qL i_a_3) ?_
  refine bS j9 ?_
  refine zY rfl ?_
  rw [kB (show i8 < a_3.es.length by omega)]
  refine kZ ?_
  refine bS (qA (off:=3) rfl i_a_3.one) ?_
  refine bS (vM e_x8) ?_
  refine bS (xP i_a_3 e_x8 i_x8.one) ?_
  refine bS (qA (off:=3) rfl i_b_3.one) ?_
  refine bS (vM e_y8) ?_
  refine bS (xP i_b_3 e_y8 i_y8.one) ?_
  refine cS (qU6 h_x8 h_y8) ?_
  refine bS vV ?_
  refine iC (fun c9=>?_) fun c9=>?_
  ·skip
   refine xR rfl ?_
   clear hi8 hj8; ((try simp only [qO,qR,qN,qH,qT,qM,qS] at c9 c3 c2 c1 c0 ⊢); grind)
  refine bS (zA hj8) ?_
  refine yA rfl ?_
  clear hi8 hj8; ((try simp only [qO,qR,qN,qH,qT,qM,qS] at c9 c3 c2 c1 c0 ⊢); grind)
 refine bS (qA (off:=3) rfl i_a_3.one) ?_
 refine bS (qL i_a_3) ?_
 refine bS j9 ?_
 refine zY rfl ?_
 rw [wO]
 refine oA ?_
 refine qE rfl ?_
 refine yF (ρ:=fun i9=>[dI ((i9:Nat):Int),.agg [dI a_0,a_1,dI a_2,a_3,dI a_4,a_5,a_6,a_7],.agg [dI b_0,b_1,dI b_2,b_3,dI b_4,b_5,b_6,b_7]]) i_a_5 i_b_5 l_a_5_b_5 (fun q9=>?_) ?_ (fun q9=>?_)
 ·((try simp only [qO,qR,qN,qH,qT,qM,qS] at q9 q8 c3 c2 c1 c0 ⊢); grind)
 ·intro i9 x9 y9 e_x9 e_y9 hi9 hj9
  obtain ⟨_,rfl,_,_,rfl,⟨x9_0,rfl⟩,_,_,rfl,⟨x9_1,rfl⟩,rfl⟩:=jE h_a_5 e_x9
  obtain ⟨_,rfl,_,_,rfl,⟨y9_0,rfl⟩,_,_,rfl,⟨y9_1,rfl⟩,rfl⟩:=jE h_b_5 e_y9
  refine bS (qA (off:=5) rfl i_a_5.one) ?_
  refine bS (qL i_a_5) ?_
  refine bS j9 ?_
  refine zY rfl ?_
  rw [kB (show i9 < a_5.es.length by omega)]
  refine kZ ?_
  refine bS (qA (off:=5) rfl i_a_5.one) ?_
  refine bS (vM e_x9) ?_
  refine bS (jO i_a_5 e_x9 rfl) ?_
  refine bS (qA (off:=5) rfl i_b_5.one) ?_
  refine bS (vM e_y9) ?_
  refine bS (jO i_b_5 e_y9 rfl) ?_
  refine bS (nV .neq (.inl rfl) qW5 qXb qU4 qXk rfl (qZ cV (qZ cV xS)) (qZ cV (qZ cV xS))) ?_
  refine iC (fun c10=>?_) fun c10=>?_
  ·skip
   refine xR rfl ?_
   clear hi9 hj9; ((try simp only [qO,qR,qN,qH,qT,qM,qS] at c10 q8 c3 c2 c1 c0 ⊢); grind)
  refine bS (zA hj9) ?_
  refine yA rfl ?_
  clear hi9 hj9; ((try simp only [qO,qR,qN,qH,qT,qM,qS] at c10 q8 c3 c2 c1 c0 ⊢); grind)
 refine bS (qA (off:=5) rfl i_a_5.one) ?_
 refine bS (qL i_a_5) ?_
 refine bS j9 ?_
 refine zY rfl ?_
 rw [wO]
 refine oA ?_
 refine qE rfl ?_
 refine yF (ρ:=fun i10=>[dI ((i10:Nat):Int),.agg [dI a_0,a_1,dI a_2,a_3,dI a_4,a_5,a_6,a_7],.agg [dI b_0,b_1,dI b_2,b_3,dI b_4,b_5,b_6,b_7]]) i_a_6 i_b_6 l_a_6_b_6 (fun q10=>?_) ?_ (fun q10=>?_)
 ·((try simp only [qO,qR,qN,qH,qT,qM,qS] at q10 q9 q8 c3 c2 c1 c0 ⊢); grind)
 ·intro i10 x10 y10 e_x10 e_y10 hi10 hj10
  obtain ⟨_,rfl,_,_,rfl,⟨x10_0,rfl⟩,_,_,rfl,⟨x10_1,rfl⟩,rfl⟩:=jE h_a_6 e_x10
  obtain ⟨_,rfl,_,_,rfl,⟨y10_0,rfl⟩,_,_,rfl,⟨y10_1,rfl⟩,rfl⟩:=jE h_b_6 e_y10
  refine bS (qA (off:=6) rfl i_a_6.one) ?_
  refine bS (qL i_a_6) ?_
  refine bS j9 ?_
  refine zY rfl ?_
  rw [kB (show i10 < a_6.es.length by omega)]
  refine kZ ?_
  refine bS (qA (off:=6) rfl i_a_6.one) ?_
  refine bS (vM e_x10) ?_
  refine bS (jO i_a_6 e_x10 rfl) ?_
  refine bS (qA (off:=6) rfl i_b_6.one) ?_
  refine bS (vM e_y10) ?_
  refine bS (jO i_b_6 e_y10 rfl) ?_
  refine bS (nV .neq (.inl rfl) qW8 qXe qU4 qXn rfl (qZ jT (qZ jT xS)) (qZ jT (qZ jT xS))) ?_
  refine iC (fun c11=>?_) fun c11=>?_
  ·skip
   refine xR rfl ?_
   clear hi10 hj10; ((try simp only [qO,qR,qN,qH,qT,qM,qS] at c11 q9 q8 c3 c2 c1 c0 ⊢); grind)
  refine bS (zA hj10) ?_
  refine yA rfl ?_
  clear hi10 hj10; ((try simp only [qO,qR,qN,qH,qT,qM,qS] at c11 q9 q8 c3 c2 c1 c0 ⊢); grind)
 refine bS (qA (off:=6) rfl i_a_6.one) ?_
 refine bS (qL i_a_6) ?_
 refine bS j9 ?_
 refine zY rfl ?_
 rw [wO]
 refine oA ?_
 refine qE rfl ?_
 refine yF (ρ:=fun i11=>[dI ((i11:Nat):Int),.agg [dI a_0,a_1,dI a_2,a_3,dI a_4,a_5,a_6,a_7],.agg [dI b_0,b_1,dI b_2,b_3,dI b_4,b_5,b_6,b_7]]) i_a_7 i_b_7 l_a_7_b_7 (fun q11=>?_) ?_ (fun q11=>?_)
 ·((try simp only [qO,qR,qN,qH,qT,qM,qS] at q11 q10 q9 q8 c3 c2 c1 c0 ⊢); grind)
 ·intro i11 x11 y11 e_x11 e_y11 hi11 hj11
  obtain ⟨_,rfl,_,_,rfl,⟨x11_0,rfl⟩,_,_,rfl,⟨x11_1,rfl⟩,rfl⟩:=jE h_a_7 e_x11
  obtain ⟨_,rfl,_,_,rfl,⟨y11_0,rfl⟩,_,_,rfl,⟨y11_1,rfl⟩,rfl⟩:=jE h_b_7 e_y11
  refine bS (qA (off:=7) rfl i_a_7.one) ?_
  refine bS (qL i_a_7) ?_
  refine bS j9 ?_
  refine zY rfl ?_
  rw [kB (show i11 < a_7.es.length by omega)]
  refine kZ ?_
  refine bS (qA (off:=7) rfl i_a_7.one) ?_
  refine bS (vM e_x11) ?_
  refine bS (jO i_a_7 e_x11 rfl) ?_
  refine bS (qA (off:=7) rfl i_b_7.one) ?_
  refine bS (vM e_y11) ?_
  refine bS (jO i_b_7 e_y11 rfl) ?_
  refine bS (nV .neq (.inl rfl) qUn qUo qU4 qUy rfl (qZ jT (qZ jT xS)) (qZ jT (qZ jT xS))) ?_
  refine iC (fun c12=>?_) fun c12=>?_
  ·skip
   refine xR rfl ?_
   clear hi11 hj11; ((try simp only [qO,qR,qN,qH,qT,qM,qS] at c12 q10 q9 q8 c3 c2 c1 c0 ⊢); grind)
  refine bS (zA hj11) ?_
  refine yA rfl ?_
  clear hi11 hj11; ((try simp only [qO,qR,qN,qH,qT,qM,qS] at c12 q10 q9 q8 c3 c2 c1 c0 ⊢); grind)
 refine bS (qA (off:=7) rfl i_a_7.one) ?_
 refine bS (qL i_a_7) ?_
 refine bS j9 ?_
 refine zY rfl ?_
 rw [wO]
 refine oA ?_
 refine qC (d':=dB (true)) rfl (vE ?_)
 ((try simp only [qO,qR,qN,qH,qT,qM,qS] at q11 q10 q9 q8 c3 c2 c1 c0 ⊢); grind)
theorem zAx {a b:D} (h_a:vA (.st [.sl 81 2 (.st [.str,.int .i64]),.str,.sl 77 2 (.st [.str,.sl 3 1 (.int .i64)]),.sl 50 1 (.sl 9 1 (.str)),.sl 39 6 (.st [.sl 3 1 (.int .i64),.sl 3 1 (.int .i64),.sl 58 2 (.st [.int .i64,.int .i64]),.sl 58 2 (.st [.int .i64,.int .i64]),.bool,.bool]),.int .i64,.sl 92 3 (.st [.int .i64,.int .i64,.int .i64]),.sl 3 1 (.int .i64),.sl 64 8 (.st [.int .i64,.sl 3 1 (.int .i64),.int .i64,.sl 31 1 (.sl 3 1 (.int .i64)),.int .i64,.sl 94 2 (.st [.str,.str]),.sl 66 2 (.st [.int .i64,.int .i64]),.sl 120 2 (.st [.int .i64,.int .i64])])]) a) (h_b:vA (.st [.sl 81 2 (.st [.str,.int .i64]),.str,.sl 77 2 (.st [.str,.sl 3 1 (.int .i64)]),.sl 50 1 (.sl 9 1 (.str)),.sl 39 6 (.st [.sl 3 1 (.int .i64),.sl 3 1 (.int .i64),.sl 58 2 (.st [.int .i64,.int .i64]),.sl 58 2 (.st [.int .i64,.int .i64]),.bool,.bool]),.int .i64,.sl 92 3 (.st [.int .i64,.int .i64,.int .i64]),.sl 3 1 (.int .i64),.sl 64 8 (.st [.int .i64,.sl 3 1 (.int .i64),.int .i64,.sl 31 1 (.sl 3 1 (.int .i64)),.int .i64,.sl 94 2 (.st [.str,.str]),.sl 66 2 (.st [.int .i64,.int .i64]),.sl 120 2 (.st [.int .i64,.int .i64])])]) b):qB EE 13 [a,b] (dB (kD a b)):=by
 refine qZY rfl (qK.step' ?_)
 obtain ⟨_,rfl,a_0,_,rfl,h_a_0,_,_,rfl,⟨a_1,rfl⟩,a_2,_,rfl,h_a_2,a_3,_,rfl,h_a_3,a_4,_,rfl,h_a_4,_,_,rfl,⟨a_5,rfl⟩,a_6,_,rfl,h_a_6,a_7,_,rfl,h_a_7,a_8,_,rfl,h_a_8,rfl⟩:=h_a
 have i_a_0:=zB h_a_0
 have i_a_2:=zB h_a_2
 have i_a_3:=zB h_a_3
 have i_a_4:=zB h_a_4
 have i_a_6:=zB h_a_6
 have i_a_7:=zB h_a_7
 have i_a_8:=zB h_a_8
 obtain ⟨_,rfl,b_0,_,rfl,h_b_0,_,_,rfl,⟨b_1,rfl⟩,b_2,_,rfl,h_b_2,b_3,_,rfl,h_b_3,b_4,_,rfl,h_b_4,_,_,rfl,⟨b_5,rfl⟩,b_6,_,rfl,h_b_6,b_7,_,rfl,h_b_7,b_8,_,rfl,h_b_8,rfl⟩:=h_b
 have i_b_0:=zB h_b_0
 have i_b_2:=zB h_b_2
 have i_b_3:=zB h_b_3
 have i_b_4:=zB h_b_4
 have i_b_6:=zB h_b_6
 have i_b_7:=zB h_b_7
 have i_b_8:=zB h_b_8
 refine bS (qU rfl) ?_
 refine bS (qU rfl) ?_
 refine bS (qA (off:=0) rfl i_a_0.one) ?_
 refine bS (qL i_a_0) ?_
 refine bS (qA (off:=0) rfl i_b_0.one) ?_
 refine bS (qL i_b_0) ?_
 refine bS yI ?_
 refine iC (fun c0=>?_) fun c0=>?_
 ·have q0:=kC i_a_0 i_b_0 (oL c0)
  refine qC (d':=dB (false)) rfl (vE ?_)
  ((try simp only [qO,qR,qN,qH,qT,qM,qS] at q0 ⊢); grind)
 have l_a_0_b_0:=oK c0
 refine bS (qA (off:=8) rfl i_a_8.one) ?_
 refine bS (qL i_a_8) ?_
 refine bS (qA (off:=8) rfl i_b_8.one) ?_
 refine bS (qL i_b_8) ?_
 refine bS yI ?_
 refine iC (fun c1=>?_) fun c1=>?_
 ·have q1:=kC i_a_8 i_b_8 (oL c1)
  refine qC (d':=dB (false)) rfl (vE ?_)
  ((try simp only [qO,qR,qN,qH,qT,qM,qS] at q1 ⊢); grind)
 have l_a_8_b_8:=oK c1
 refine qE rfl ?_
 refine yF (ρ:=fun i2=>[dI ((i2:Nat):Int),.agg [a_0,.leaf (.string a_1),a_2,a_3,a_4,dI a_5,a_6,a_7,a_8],.agg [b_0,.leaf (.string b_1),b_2,b_3,b_4,dI b_5,b_6,b_7,b_8]]) i_a_0 i_b_0 l_a_0_b_0 (fun q2=>?_) ?_ (fun q2=>?_)
 ·((try simp only [qO,qR,qN,qH,qT,qM,qS] at q2 ⊢); grind)
 ·intro i2 x2 y2 e_x2 e_y2 hi2 hj2
  obtain ⟨_,rfl,_,_,rfl,⟨x2_0,rfl⟩,_,_,rfl,⟨x2_1,rfl⟩,rfl⟩:=jE h_a_0 e_x2
  obtain ⟨_,rfl,_,_,rfl,⟨y2_0,rfl⟩,_,_,rfl,⟨y2_1,rfl⟩,rfl⟩:=jE h_b_0 e_y2
  refine bS (qA (off:=0) rfl i_a_0.one) ?_
  refine bS (qL i_a_0) ?_
  refine bS j9 ?_
  refine zY rfl ?_
  rw [kB (show i2 < a_0.es.length by omega)]
  refine kZ ?_
  refine bS (qA (off:=0) rfl i_a_0.one) ?_
  refine bS (vM e_x2) ?_
  refine bS (jO i_a_0 e_x2 rfl) ?_
  refine bS (qA (off:=0) rfl i_b_0.one) ?_
  refine bS (vM e_y2) ?_
  refine bS (jO i_b_0 e_y2 rfl) ?_
  refine bS (nV .neq (.inl rfl) qW7 qXd qU4 qXm rfl (qZ cV (qZ jT xS)) (qZ cV (qZ jT xS))) ?_
  refine iC (fun c3=>?_) fun c3=>?_
  ·skip
   refine xR rfl ?_
   clear hi2 hj2; ((try simp only [qO,qR,qN,qH,qT,qM,qS] at c3 ⊢); grind)
  refine bS (zA hj2) ?_
  refine yA rfl ?_
  clear hi2 hj2; ((try simp only [qO,qR,qN,qH,qT,qM,qS] at c3 ⊢); grind)
 refine bS (qA (off:=0) rfl i_a_0.one) ?_
 refine bS (qL i_a_0) ?_
 refine bS j9 ?_
 refine zY rfl ?_
 rw [wO]
 refine oA ?_
 refine qE rfl ?_
 refine yF (ρ:=fun i3=>[dI ((i3:Nat):Int),.agg [a_0,.leaf (.string a_1),a_2,a_3,a_4,dI a_5,a_6,a_7,a_8],.agg [b_0,.leaf (.string b_1),b_2,b_3,b_4,dI b_5,b_6,b_7,b_8]]) i_a_8 i_b_8 l_a_8_b_8 (fun q3=>?_) ?_ (fun q3=>?_)
 ·((try simp only [qO,qR,qN,qH,qT,qM,qS] at q3 q2 ⊢); grind)
 ·intro i3 x3 y3 e_x3 e_y3 hi3 hj3
  obtain ⟨_,rfl,_,_,rfl,⟨x3_0,rfl⟩,x3_1,_,rfl,h_x3_1,_,_,rfl,⟨x3_2,rfl⟩,x3_3,_,rfl,h_x3_3,_,_,rfl,⟨x3_4,rfl⟩,x3_5,_,rfl,h_x3_5,x3_6,_,rfl,h_x3_6,x3_7,_,rfl,h_x3_7,rfl⟩:=jE h_a_8 e_x3
  have i_x3_1:=zB h_x3_1
  have i_x3_3:=zB h_x3_3
  have i_x3_5:=zB h_x3_5
  have i_x3_6:=zB h_x3_6
  have i_x3_7:=zB h_x3_7
  obtain ⟨_,rfl,_,_,rfl,⟨y3_0,rfl⟩,y3_1,_,rfl,h_y3_1,_,_,rfl,⟨y3_2,rfl⟩,y3_3,_,rfl,h_y3_3,_,_,rfl,⟨y3_4,rfl⟩,y3_5,_,rfl,h_y3_5,y3_6,_,rfl,h_y3_6,y3_7,_,rfl,h_y3_7,rfl⟩:=jE h_b_8 e_y3
  have i_y3_1:=zB h_y3_1
  have i_y3_3:=zB h_y3_3
  have i_y3_5:=zB h_y3_5
  have i_y3_6:=zB h_y3_6
  have i_y3_7:=zB h_y3_7
  refine bS (qA (off:=8) rfl i_a_8.one) ?_
  refine bS (qL i_a_8) ?_
  refine bS j9 ?_
  refine zY rfl ?_
  rw [kB (show i3 < a_8.es.length by omega)]
  refine kZ ?_
  refine bS (qA (off:=8) rfl i_a_8.one) ?_
  refine bS (vM e_x3) ?_
  refine bS (jO i_a_8 e_x3 rfl) ?_
  refine bS (qA (off:=8) rfl i_b_8.one) ?_
  refine bS (vM e_y3) ?_
  refine bS (jO i_b_8 e_y3 rfl) ?_
  refine cS (zAs (qC9 (qZ jT (qZ h_x3_1 (qZ jT (qZ h_x3_3 (qZ jT (qZ h_x3_5 (qZ h_x3_6 (qZ h_x3_7 xS))))))))) (qC9 (qZ jT (qZ h_y3_1 (qZ jT (qZ h_y3_3 (qZ jT (qZ h_y3_5 (qZ h_y3_6 (qZ h_y3_7 xS)))))))))) ?_
  refine bS vV ?_
  refine iC (fun c4=>?_) fun c4=>?_
  ·skip
   refine xR rfl ?_
   clear hi3 hj3; ((try simp only [qO,qR,qN,qH,qT,qM,qS] at c4 q2 ⊢); grind)
  refine bS (zA hj3) ?_
  refine yA rfl ?_
  clear hi3 hj3; ((try simp only [qO,qR,qN,qH,qT,qM,qS] at c4 q2 ⊢); grind)
 refine bS (qA (off:=8) rfl i_a_8.one) ?_
 refine bS (qL i_a_8) ?_
 refine bS j9 ?_
 refine zY rfl ?_
 rw [wO]
 refine oA ?_
 refine bS (d5 rfl) ?_
 refine bS (d5 rfl) ?_
 refine cS (zAr (qC9 (qZ cV (qZ h_a_2 (qZ h_a_3 xS)))) (qC9 (qZ cV (qZ h_b_2 (qZ h_b_3 xS))))) ?_
 refine iC (fun c4=>?_) fun c4=>?_
 ·skip
  refine bS (qA (off:=4) rfl i_a_4.one) ?_
  refine bS (qA (off:=4) rfl i_b_4.one) ?_
  refine cS (zAq h_a_4 h_b_4) ?_
  refine iC (fun c5=>?_) fun c5=>?_
  ·skip
   refine bS (d5 rfl) ?_
   refine bS (d5 rfl) ?_
   refine cS (zAp (qC9 (qZ jT (qZ h_a_6 (qZ h_a_7 xS)))) (qC9 (qZ jT (qZ h_b_6 (qZ h_b_7 xS))))) ?_
   refine qC (d':=dB (kD (.agg [dI a_5,a_6,a_7]) (.agg [dI b_5,b_6,b_7]))) rfl (vE ?_)
   ((try simp only [qO,qR,qN,qH,qT,qM,qS] at c5 c4 q3 q2 ⊢); grind)
  refine qC (d':=dB (false)) rfl (vE ?_)
  ((try simp only [qO,qR,qN,qH,qT,qM,qS] at c5 c4 q3 q2 ⊢); grind)
 refine qC (d':=dB (false)) rfl (vE ?_)
 ((try simp only [qO,qR,qN,qH,qT,qM,qS] at c4 q3 q2 ⊢); grind)
end Go.Proofs.YtminhjecpnpaeaaGreatDoor
