/- Functions that always give something, by hand. Conditions: none. -/
import Derived.Test.YthhlmoidofecpaaGreatZa
import Derived.Test.YthhlmoidofecpaaGreatUv
import Derived.Test.YthhlmoidofecpaaGreatTt
set_option linter.unusedVariables false
set_option linter.unusedSimpArgs false
namespace Go.Proofs.YthhlmoidofecpaaGreat
open Go Go.Am Go.Proofs Go.Am.Tt
attribute [local irreducible] Go.Am.wp Go.Am.TOp.eval
theorem qAm (m:Int):∃ n:Int,TOp.eval EE (.conv 5 3) [.leaf (.int .u8 m)]=some (dI n):=⟨IntKind.i64.wrap m,by kernel_rfl⟩
theorem pH (m:Int) {x y:Operand}:∃ n:Int,TOp.eval EE (.bin .rem 3 x y) [dI m,dI ((64:Nat):Int)]=some (dI n):=⟨m.tmod 64,by kernel_rfl⟩
theorem qLB {a:D} (h_a:qS 300000000 (.int .i64) a):∃ d,qS 300000000 (.bool) d/\Holds EE 151 [a] d :=
 qRG (S:=qSk.S) (gZ qLw (by kernel_rfl)) rfl rfl rfl rfl (zU h_a xS)
theorem qLA {a:D} (h_a:qS 300000000 (.int .i64) a):∃ d,qS 300000000 (.str) d/\Holds EE 152 [a] d :=
 qRG (S:=qSj.S) (gZ qLw (by kernel_rfl)) rfl rfl rfl rfl (zU h_a xS)
theorem qUl {a b:D} (h_a:qS 300000000 (.sl 75 8 (.st [.int .i64,.sl 3 1 (.int .i64),.int .i64,.sl 34 1 (.sl 3 1 (.int .i64)),.int .i64,.sl 70 2 (.st [.str,.str]),.sl 152 2 (.st [.int .i64,.int .i64]),.sl 24 2 (.st [.int .i64,.int .i64])])) a) (h_b:qS 300000000 (.int .i64) b):∃ d,(∃ n:Int,d=dI n /\ -1<=n/\n < (a.es.length:Int))/\Holds EE 74 [a,b] d:=by
 obtain ⟨rs,h1,hp,h2⟩:=(gZ qLw (f:=74) (S:=qUE.S) (by kernel_rfl)) [a,b] (d6 rfl (zU h_a (zU h_b xS))) (fun q hq=>by cases hq)
 have h1:zZ [.int .i64] rs:=h1
 simp only [zZ] at h1
 obtain ⟨d,_,rfl,⟨n,rfl⟩,rfl⟩:=h1
 have e1:cU a=(a.es.length:Int):=by
  simp only [qS] at h_a
  rcases h_a with rfl | ⟨es,rfl,_⟩ <;> rfl
 have q1:(0:Int)<=n+1:=hp _ List.mem_cons_self
 have q2:n<=cU a + -1:=hp _ (mC _ List.mem_cons_self)
 exact ⟨_,⟨n,rfl,by omega,by omega⟩,h2⟩
theorem qS8 {a b : D} (h_a : qS 300000000 (.str) a) (h_b : qS 300000000 (.int .i64) b) (p0 : ∀ n : Int, b = dI n -> 0 <= n) (p1 : ∀ (s : ByteArray) (n : Int), a = .leaf (.string s) -> b = dI n -> n < (s.size : Int)) : ∃ d, (fun d => ∃ p n : Int, d = .tup [dI p, dI n] /\ 0 <= n /\ n <= 4) d /\ Holds EE 134 [a, b] d := by
  suffices h : ∃ d, (fun d => ∃ p n : Int, d = .tup [dI p, dI n] /\ 0 <= n /\ n <= 4) d /\ qH EE (Holds EE) e8 0 [a, b] d by
    obtain ⟨d, hd, hg⟩ := h; exact ⟨d, hd, qS0 rfl hg⟩
  obtain ⟨a, rfl, hs_a⟩ := h_a
  obtain ⟨b, rfl⟩ := h_b
  replace p0 := p0 _ rfl
  replace p1 := p1 _ _ rfl rfl
  refine jK (R := (fun d => ∃ p n : Int, d = .tup [dI p, dI n] /\ 0 <= n /\ n <= 4)) ?_
  obtain ⟨w0, p0, q0, ew0⟩ := fA (E := EE) (s := a) (i := (b)) (by omega) (by omega)
  refine bS ew0 ?_
  obtain ⟨w1, ew1⟩ := qAm (w0)
  refine bS ew1 ?_
  refine bS kC ?_
  refine iC (fun c2=>?_) fun c2=>?_
  · replace c2 := dT c2
    obtain ⟨w3, ew3⟩ : ∃ w : Int, IntKind.i64.wrap ((w1) - ((240 : Nat) : Int)) = w := ⟨_, rfl⟩
    refine bS (d := dI (w3)) (by rw [← ew3]; exact aV) ?_
    refine bS (d := dI ((b) + ((4 : Nat) : Int))) (yK (by omega)) ?_
    refine bS qBZ ?_
    refine bS vQ ?_
    refine iC (fun c4=>?_) fun c4=>?_
    · replace c4 := dT c4
      exact vJ rfl ⟨_, _, rfl, by omega, by omega⟩
    · replace c4 := dF c4
      refine zK rfl (vI (P := fun i5 => 1 <= i5 -> ∀ v5_2 : Int, ∃ d, (fun d => ∃ p n : Int, d = .tup [dI p, dI n] /\ 0 <= n /\ n <= 4) d /\ qH EE (Holds EE) e8 1 [.leaf (.string a), dI (b), dI (v5_2), dI ((4 : Nat) : Int), dI ((i5 : Nat) : Int)] d) (4) (fun i5 ih5 => ?_) 1 (by omega) _)
      intro hn5 v5_2
      refine jK (R := (fun d => ∃ p n : Int, d = .tup [dI p, dI n] /\ 0 <= n /\ n <= 4)) ?_
      refine bS qJ ?_
      refine iC (fun c6=>?_) fun c6=>?_
      · replace c6 := dT c6
        obtain ⟨w7, ew7⟩ : ∃ w : Int, IntKind.i64.wrap ((v5_2) * ((64 : Nat) : Int)) = w := ⟨_, rfl⟩
        refine bS (d := dI (w7)) (by rw [← ew7]; exact dC) ?_
        refine bS (d := dI ((b) + ((i5 : Nat) : Int))) (yK (by omega)) ?_
        obtain ⟨w8, p8, q8, ew8⟩ := fA (E := EE) (s := a) (i := ((b) + ((i5 : Nat) : Int))) (by omega) (by omega)
        refine bS ew8 ?_
        obtain ⟨w9, ew9⟩ := qAm (w8)
        refine bS ew9 ?_
        obtain ⟨w10, ew10⟩ := pH (w9)
        refine bS ew10 ?_
        obtain ⟨w11, ew11⟩ : ∃ w : Int, IntKind.i64.wrap ((w7) + (w10)) = w := ⟨_, rfl⟩
        refine bS (d := dI (w11)) (by rw [← ew11]; exact dD) ?_
        refine bS (d := dI ((i5 + 1 : Nat) : Int)) (qT (qO (by omega))) ?_
        exact zK rfl (ih5 (by omega) (by omega) _)
      · replace c6 := dF c6
        obtain ⟨_, ⟨r7, rfl⟩, k_r7⟩ := qLB (a := dI (v5_2)) vK
        refine cS k_r7 ?_
        refine bS v6 ?_
        refine iC (fun c8=>?_) fun c8=>?_
        · clear c8
          exact vJ rfl ⟨_, _, rfl, by omega, by omega⟩
        · clear c8
          obtain ⟨_, ⟨r9, rfl, hs_r9⟩, k_r9⟩ := qLA (a := dI (v5_2)) vK
          refine cS k_r9 ?_
          refine bS (d := dI ((b) + ((4 : Nat) : Int))) (yK (by omega)) ?_
          obtain ⟨s10, hs_s10, ev10⟩ := sT (E := EE) (B := 300000000) (s := a) (i := (b)) (j := ((b) + ((4 : Nat) : Int))) (by omega) (by omega) (by omega) (by omega)
          refine bS ev10 ?_
          refine bS dE ?_
          refine iC (fun c11=>?_) fun c11=>?_
          · clear c11
            exact vJ rfl ⟨_, _, rfl, by omega, by omega⟩
          · clear c11
            exact vJ rfl ⟨_, _, rfl, by omega, by omega⟩
  · replace c2 := dF c2
    refine bS kC ?_
    refine iC (fun c3=>?_) fun c3=>?_
    · replace c3 := dT c3
      obtain ⟨w4, ew4⟩ : ∃ w : Int, IntKind.i64.wrap ((w1) - ((224 : Nat) : Int)) = w := ⟨_, rfl⟩
      refine bS (d := dI (w4)) (by rw [← ew4]; exact aV) ?_
      refine bS (d := dI ((b) + ((3 : Nat) : Int))) (yK (by omega)) ?_
      refine bS qBZ ?_
      refine bS vQ ?_
      refine iC (fun c5=>?_) fun c5=>?_
      · replace c5 := dT c5
        exact vJ rfl ⟨_, _, rfl, by omega, by omega⟩
      · replace c5 := dF c5
        refine zK rfl (vI (P := fun i6 => 1 <= i6 -> ∀ v6_2 : Int, ∃ d, (fun d => ∃ p n : Int, d = .tup [dI p, dI n] /\ 0 <= n /\ n <= 4) d /\ qH EE (Holds EE) e8 1 [.leaf (.string a), dI (b), dI (v6_2), dI ((3 : Nat) : Int), dI ((i6 : Nat) : Int)] d) (3) (fun i6 ih6 => ?_) 1 (by omega) _)
        intro hn6 v6_2
        refine jK (R := (fun d => ∃ p n : Int, d = .tup [dI p, dI n] /\ 0 <= n /\ n <= 4)) ?_
        refine bS qJ ?_
        refine iC (fun c7=>?_) fun c7=>?_
        · replace c7 := dT c7
          obtain ⟨w8, ew8⟩ : ∃ w : Int, IntKind.i64.wrap ((v6_2) * ((64 : Nat) : Int)) = w := ⟨_, rfl⟩
          refine bS (d := dI (w8)) (by rw [← ew8]; exact dC) ?_
          refine bS (d := dI ((b) + ((i6 : Nat) : Int))) (yK (by omega)) ?_
          obtain ⟨w9, p9, q9, ew9⟩ := fA (E := EE) (s := a) (i := ((b) + ((i6 : Nat) : Int))) (by omega) (by omega)
          refine bS ew9 ?_
          obtain ⟨w10, ew10⟩ := qAm (w9)
          refine bS ew10 ?_
          obtain ⟨w11, ew11⟩ := pH (w10)
          refine bS ew11 ?_
          obtain ⟨w12, ew12⟩ : ∃ w : Int, IntKind.i64.wrap ((w8) + (w11)) = w := ⟨_, rfl⟩
          refine bS (d := dI (w12)) (by rw [← ew12]; exact dD) ?_
          refine bS (d := dI ((i6 + 1 : Nat) : Int)) (qT (qO (by omega))) ?_
          exact zK rfl (ih6 (by omega) (by omega) _)
        · replace c7 := dF c7
          obtain ⟨_, ⟨r8, rfl⟩, k_r8⟩ := qLB (a := dI (v6_2)) vK
          refine cS k_r8 ?_
          refine bS v6 ?_
          refine iC (fun c9=>?_) fun c9=>?_
          · clear c9
            exact vJ rfl ⟨_, _, rfl, by omega, by omega⟩
          · clear c9
            obtain ⟨_, ⟨r10, rfl, hs_r10⟩, k_r10⟩ := qLA (a := dI (v6_2)) vK
            refine cS k_r10 ?_
            refine bS (d := dI ((b) + ((3 : Nat) : Int))) (yK (by omega)) ?_
            obtain ⟨s11, hs_s11, ev11⟩ := sT (E := EE) (B := 300000000) (s := a) (i := (b)) (j := ((b) + ((3 : Nat) : Int))) (by omega) (by omega) (by omega) (by omega)
            refine bS ev11 ?_
            refine bS dE ?_
            refine iC (fun c12=>?_) fun c12=>?_
            · clear c12
              exact vJ rfl ⟨_, _, rfl, by omega, by omega⟩
            · clear c12
              exact vJ rfl ⟨_, _, rfl, by omega, by omega⟩
    · replace c3 := dF c3
      refine bS kC ?_
      refine iC (fun c4=>?_) fun c4=>?_
      · replace c4 := dT c4
        obtain ⟨w5, ew5⟩ : ∃ w : Int, IntKind.i64.wrap ((w1) - ((192 : Nat) : Int)) = w := ⟨_, rfl⟩
        refine bS (d := dI (w5)) (by rw [← ew5]; exact aV) ?_
        refine bS (d := dI ((b) + ((2 : Nat) : Int))) (yK (by omega)) ?_
        refine bS qBZ ?_
        refine bS vQ ?_
        refine iC (fun c6=>?_) fun c6=>?_
        · replace c6 := dT c6
          exact vJ rfl ⟨_, _, rfl, by omega, by omega⟩
        · replace c6 := dF c6
          refine zK rfl (vI (P := fun i7 => 1 <= i7 -> ∀ v7_2 : Int, ∃ d, (fun d => ∃ p n : Int, d = .tup [dI p, dI n] /\ 0 <= n /\ n <= 4) d /\ qH EE (Holds EE) e8 1 [.leaf (.string a), dI (b), dI (v7_2), dI ((2 : Nat) : Int), dI ((i7 : Nat) : Int)] d) (2) (fun i7 ih7 => ?_) 1 (by omega) _)
          intro hn7 v7_2
          refine jK (R := (fun d => ∃ p n : Int, d = .tup [dI p, dI n] /\ 0 <= n /\ n <= 4)) ?_
          refine bS qJ ?_
          refine iC (fun c8=>?_) fun c8=>?_
          · replace c8 := dT c8
            obtain ⟨w9, ew9⟩ : ∃ w : Int, IntKind.i64.wrap ((v7_2) * ((64 : Nat) : Int)) = w := ⟨_, rfl⟩
            refine bS (d := dI (w9)) (by rw [← ew9]; exact dC) ?_
            refine bS (d := dI ((b) + ((i7 : Nat) : Int))) (yK (by omega)) ?_
            obtain ⟨w10, p10, q10, ew10⟩ := fA (E := EE) (s := a) (i := ((b) + ((i7 : Nat) : Int))) (by omega) (by omega)
            refine bS ew10 ?_
            obtain ⟨w11, ew11⟩ := qAm (w10)
            refine bS ew11 ?_
            obtain ⟨w12, ew12⟩ := pH (w11)
            refine bS ew12 ?_
            obtain ⟨w13, ew13⟩ : ∃ w : Int, IntKind.i64.wrap ((w9) + (w12)) = w := ⟨_, rfl⟩
            refine bS (d := dI (w13)) (by rw [← ew13]; exact dD) ?_
            refine bS (d := dI ((i7 + 1 : Nat) : Int)) (qT (qO (by omega))) ?_
            exact zK rfl (ih7 (by omega) (by omega) _)
          · replace c8 := dF c8
            obtain ⟨_, ⟨r9, rfl⟩, k_r9⟩ := qLB (a := dI (v7_2)) vK
            refine cS k_r9 ?_
            refine bS v6 ?_
            refine iC (fun c10=>?_) fun c10=>?_
            · clear c10
              exact vJ rfl ⟨_, _, rfl, by omega, by omega⟩
            · clear c10
              obtain ⟨_, ⟨r11, rfl, hs_r11⟩, k_r11⟩ := qLA (a := dI (v7_2)) vK
              refine cS k_r11 ?_
              refine bS (d := dI ((b) + ((2 : Nat) : Int))) (yK (by omega)) ?_
              obtain ⟨s12, hs_s12, ev12⟩ := sT (E := EE) (B := 300000000) (s := a) (i := (b)) (j := ((b) + ((2 : Nat) : Int))) (by omega) (by omega) (by omega) (by omega)
              refine bS ev12 ?_
              refine bS dE ?_
              refine iC (fun c13=>?_) fun c13=>?_
              · clear c13
                exact vJ rfl ⟨_, _, rfl, by omega, by omega⟩
              · clear c13
                exact vJ rfl ⟨_, _, rfl, by omega, by omega⟩
      · replace c4 := dF c4
        refine bS (d := dI ((b) + ((1 : Nat) : Int))) (yK (by omega)) ?_
        refine bS qBZ ?_
        refine bS vQ ?_
        refine iC (fun c5=>?_) fun c5=>?_
        · replace c5 := dT c5
          exact vJ rfl ⟨_, _, rfl, by omega, by omega⟩
        · replace c5 := dF c5
          refine zK rfl (vI (P := fun i6 => 1 <= i6 -> ∀ v6_2 : Int, ∃ d, (fun d => ∃ p n : Int, d = .tup [dI p, dI n] /\ 0 <= n /\ n <= 4) d /\ qH EE (Holds EE) e8 1 [.leaf (.string a), dI (b), dI (v6_2), dI ((1 : Nat) : Int), dI ((i6 : Nat) : Int)] d) (1) (fun i6 ih6 => ?_) 1 (by omega) _)
          intro hn6 v6_2
          refine jK (R := (fun d => ∃ p n : Int, d = .tup [dI p, dI n] /\ 0 <= n /\ n <= 4)) ?_
          refine bS qJ ?_
          refine iC (fun c7=>?_) fun c7=>?_
          · replace c7 := dT c7
            obtain ⟨w8, ew8⟩ : ∃ w : Int, IntKind.i64.wrap ((v6_2) * ((64 : Nat) : Int)) = w := ⟨_, rfl⟩
            refine bS (d := dI (w8)) (by rw [← ew8]; exact dC) ?_
            refine bS (d := dI ((b) + ((i6 : Nat) : Int))) (yK (by omega)) ?_
            obtain ⟨w9, p9, q9, ew9⟩ := fA (E := EE) (s := a) (i := ((b) + ((i6 : Nat) : Int))) (by omega) (by omega)
            refine bS ew9 ?_
            obtain ⟨w10, ew10⟩ := qAm (w9)
            refine bS ew10 ?_
            obtain ⟨w11, ew11⟩ := pH (w10)
            refine bS ew11 ?_
            obtain ⟨w12, ew12⟩ : ∃ w : Int, IntKind.i64.wrap ((w8) + (w11)) = w := ⟨_, rfl⟩
            refine bS (d := dI (w12)) (by rw [← ew12]; exact dD) ?_
            refine bS (d := dI ((i6 + 1 : Nat) : Int)) (qT (qO (by omega))) ?_
            exact zK rfl (ih6 (by omega) (by omega) _)
          · replace c7 := dF c7
            obtain ⟨_, ⟨r8, rfl⟩, k_r8⟩ := qLB (a := dI (v6_2)) vK
            refine cS k_r8 ?_
            refine bS v6 ?_
            refine iC (fun c9=>?_) fun c9=>?_
            · clear c9
              exact vJ rfl ⟨_, _, rfl, by omega, by omega⟩
            · clear c9
              obtain ⟨_, ⟨r10, rfl, hs_r10⟩, k_r10⟩ := qLA (a := dI (v6_2)) vK
              refine cS k_r10 ?_
              refine bS (d := dI ((b) + ((1 : Nat) : Int))) (yK (by omega)) ?_
              obtain ⟨s11, hs_s11, ev11⟩ := sT (E := EE) (B := 300000000) (s := a) (i := (b)) (j := ((b) + ((1 : Nat) : Int))) (by omega) (by omega) (by omega) (by omega)
              refine bS ev11 ?_
              refine bS dE ?_
              refine iC (fun c12=>?_) fun c12=>?_
              · clear c12
                exact vJ rfl ⟨_, _, rfl, by omega, by omega⟩
              · clear c12
                exact vJ rfl ⟨_, _, rfl, by omega, by omega⟩
theorem qS7 {a b:D} (h_a:qS 300000000 (.sl 3 1 (.int .i64)) a) (h_b:qS 300000000 (.int .i64) b) (hp:a.es.length < 300000000):∃ d,(fun d=>qS 300000000 (.sl 3 1 (.int .i64)) d/\d.es.length<=a.es.length+1) d/\Holds EE 135 [a,b] d:=by
 suffices h:∃ d,(fun d=>qS 300000000 (.sl 3 1 (.int .i64)) d/\d.es.length<=a.es.length+1) d/\qH EE (Holds EE) qEO 0 [a,b] d by
  obtain ⟨d,hd,hg⟩:=h; exact ⟨d,hd,qSZ rfl hg⟩
 have i_a:=qL h_a
 have b_a:=qX h_a
 obtain ⟨b,rfl⟩:=h_b
 refine jK (R:=(fun d=>qS 300000000 (.sl 3 1 (.int .i64)) d/\d.es.length<=a.es.length+1)) ?_
 refine zK rfl (vI (P:=fun i0=>i0<=a.es.length->∀ v0_2:D,qS 300000000 (.sl 3 1 (.int .i64)) v0_2->v0_2.es.length<=i0->∃ d,(fun d=>qS 300000000 (.sl 3 1 (.int .i64)) d/\d.es.length<=a.es.length+1) d/\qH EE (Holds EE) qEO 1 [a,dI (b),v0_2,dI ((i0:Nat):Int)] d) (a.es.length) (fun i0 ih0=>?_) 0 (by omega) .nil b8 (by simp [D.es]))
 intro hn0 v0_2 h_v0_2 z_v0_2
 have i_v0_2:=qL h_v0_2
 have b_v0_2:=qX h_v0_2
 refine jK (R:=(fun d=>qS 300000000 (.sl 3 1 (.int .i64)) d/\d.es.length<=a.es.length+1)) ?_
 refine bS (qQ i_a) ?_
 refine bS qJ ?_
 refine iC (fun c1=>?_) fun c1=>?_
 ·replace c1:=dT c1
  obtain ⟨x2,e_x2⟩:=gQ (d:=a) (s:=((i0:Nat):Int)) (by omega) (by omega)
  obtain ⟨x2,rfl⟩:=(jQ h_a e_x2)
  refine bS (d:=dB (true)) (qP (by omega) e_x2) ?_
  refine bS (d:=dI (x2)) (jE i_a (by omega) e_x2 rfl) ?_
  refine bS qJ ?_
  refine iC (fun c3=>?_) fun c3=>?_
  ·replace c3:=dT c3
   refine bS (d:=dB (true)) (qP (by omega) e_x2) ?_
   refine bS (d:=dI (x2)) (jE i_a (by omega) e_x2 rfl) ?_
   refine bS (wN rfl) ?_
   obtain ⟨y4,ev_y4,l_y4,h_y4,n_y4⟩:=bJ (E:=EE) (B:=300000000) (el:=3) (sz:=1) (xs:=[dI (x2)]) (e:=.int .i64) rfl (qAG vK qAF) rfl rfl
   simp only [List.length_cons,List.length_nil] at l_y4
   have i_y4:=qL h_y4
   have b_y4:=qX h_y4
   refine bS ev_y4 ?_
   obtain ⟨y5,ev_y5,l_y5,h_y5⟩:=gN (E:=EE) (el:=3) (sz:=1) (bytes:=8) h_v0_2 h_y4 (by decide) (by omega)
   have i_y5:=qL h_y5
   have b_y5:=qX h_y5
   refine bS ev_y5 ?_
   refine bS (d:=dI ((i0+1:Nat):Int)) (qT (qO (by omega))) ?_
   exact zK rfl (ih0 (by omega) (by omega) y5 h_y5 (by omega))
  replace c3:=dF c3
  refine bS (wN rfl) ?_
  obtain ⟨y4,ev_y4,l_y4,h_y4,n_y4⟩:=bJ (E:=EE) (B:=300000000) (el:=3) (sz:=1) (xs:=[dI (b)]) (e:=.int .i64) rfl (qAG vK qAF) rfl rfl
  simp only [List.length_cons,List.length_nil] at l_y4
  have i_y4:=qL h_y4
  have b_y4:=qX h_y4
  refine bS ev_y4 ?_
  obtain ⟨y5,ev_y5,l_y5,h_y5⟩:=gN (E:=EE) (el:=3) (sz:=1) (bytes:=8) h_v0_2 h_y4 (by decide) (by omega)
  have i_y5:=qL h_y5
  have b_y5:=qX h_y5
  refine bS ev_y5 ?_
  refine bS (qQ i_a) ?_
  refine bS qJ ?_
  refine iC (fun c6=>?_) fun c6=>?_
  ·replace c6:=dT c6
   refine bS (d:=dB (true)) (qP (by omega) e_x2) ?_
   refine bS (d:=dI (x2)) (jE i_a (by omega) e_x2 rfl) ?_
   refine bS zJ ?_
   refine iC (fun c7=>?_) fun c7=>?_
   ·replace c7:=dT c7
    refine bS (d:=dI ((i0+1:Nat):Int)) (qT (qO (by omega))) ?_
    obtain ⟨y8,ev_y8,l_y8,h_y8⟩:=qA5 (E:=EE) (j:=((i0+1:Nat):Int)) h_a (by omega) (by omega)
    have i_y8:=qL h_y8
    have b_y8:=qX h_y8
    refine bS ev_y8 ?_
    obtain ⟨y9,ev_y9,l_y9,h_y9⟩:=gN (E:=EE) (el:=3) (sz:=1) (bytes:=8) h_y5 h_y8 (by decide) (by omega)
    have i_y9:=qL h_y9
    have b_y9:=qX h_y9
    refine bS ev_y9 ?_
    exact vJ (ds:=[y9]) rfl ⟨h_y9,by show y9.es.length<=_; omega⟩
   replace c7:=dF c7
   obtain ⟨y8,ev_y8,l_y8,h_y8⟩:=qA5 (E:=EE) (j:=((i0:Nat):Int)) h_a (by omega) (by omega)
   have i_y8:=qL h_y8
   have b_y8:=qX h_y8
   refine bS ev_y8 ?_
   obtain ⟨y9,ev_y9,l_y9,h_y9⟩:=gN (E:=EE) (el:=3) (sz:=1) (bytes:=8) h_y5 h_y8 (by decide) (by omega)
   have i_y9:=qL h_y9
   have b_y9:=qX h_y9
   refine bS ev_y9 ?_
   exact vJ (ds:=[y9]) rfl ⟨h_y9,by show y9.es.length<=_; omega⟩
  replace c6:=dF c6
  obtain ⟨y7,ev_y7,l_y7,h_y7⟩:=qA5 (E:=EE) (j:=((i0:Nat):Int)) h_a (by omega) (by omega)
  have i_y7:=qL h_y7
  have b_y7:=qX h_y7
  refine bS ev_y7 ?_
  obtain ⟨y8,ev_y8,l_y8,h_y8⟩:=gN (E:=EE) (el:=3) (sz:=1) (bytes:=8) h_y5 h_y7 (by decide) (by omega)
  have i_y8:=qL h_y8
  have b_y8:=qX h_y8
  refine bS ev_y8 ?_
  exact vJ (ds:=[y8]) rfl ⟨h_y8,by show y8.es.length<=_; omega⟩
 replace c1:=dF c1
 refine bS (wN rfl) ?_
 obtain ⟨y2,ev_y2,l_y2,h_y2,n_y2⟩:=bJ (E:=EE) (B:=300000000) (el:=3) (sz:=1) (xs:=[dI (b)]) (e:=.int .i64) rfl (qAG vK qAF) rfl rfl
 simp only [List.length_cons,List.length_nil] at l_y2
 have i_y2:=qL h_y2
 have b_y2:=qX h_y2
 refine bS ev_y2 ?_
 obtain ⟨y3,ev_y3,l_y3,h_y3⟩:=gN (E:=EE) (el:=3) (sz:=1) (bytes:=8) h_v0_2 h_y2 (by decide) (by omega)
 have i_y3:=qL h_y3
 have b_y3:=qX h_y3
 refine bS ev_y3 ?_
 refine bS (qQ i_a) ?_
 refine bS qJ ?_
 refine iC (fun c4=>?_) fun c4=>?_
 ·replace c4:=dT c4
  obtain ⟨x5,e_x5⟩:=gQ (d:=a) (s:=((i0:Nat):Int)) (by omega) (by omega)
  obtain ⟨x5,rfl⟩:=(jQ h_a e_x5)
  refine bS (d:=dB (true)) (qP (by omega) e_x5) ?_
  refine bS (d:=dI (x5)) (jE i_a (by omega) e_x5 rfl) ?_
  refine bS zJ ?_
  refine iC (fun c6=>?_) fun c6=>?_
  ·replace c6:=dT c6
   refine bS (d:=dI ((i0+1:Nat):Int)) (qT (qO (by omega))) ?_
   obtain ⟨y7,ev_y7,l_y7,h_y7⟩:=qA5 (E:=EE) (j:=((i0+1:Nat):Int)) h_a (by omega) (by omega)
   have i_y7:=qL h_y7
   have b_y7:=qX h_y7
   refine bS ev_y7 ?_
   obtain ⟨y8,ev_y8,l_y8,h_y8⟩:=gN (E:=EE) (el:=3) (sz:=1) (bytes:=8) h_y3 h_y7 (by decide) (by omega)
   have i_y8:=qL h_y8
   have b_y8:=qX h_y8
   refine bS ev_y8 ?_
   exact vJ (ds:=[y8]) rfl ⟨h_y8,by show y8.es.length<=_; omega⟩
  replace c6:=dF c6
  obtain ⟨y7,ev_y7,l_y7,h_y7⟩:=qA5 (E:=EE) (j:=((i0:Nat):Int)) h_a (by omega) (by omega)
  have i_y7:=qL h_y7
  have b_y7:=qX h_y7
  refine bS ev_y7 ?_
  obtain ⟨y8,ev_y8,l_y8,h_y8⟩:=gN (E:=EE) (el:=3) (sz:=1) (bytes:=8) h_y3 h_y7 (by decide) (by omega)
  have i_y8:=qL h_y8
  have b_y8:=qX h_y8
  refine bS ev_y8 ?_
  exact vJ (ds:=[y8]) rfl ⟨h_y8,by show y8.es.length<=_; omega⟩
 replace c4:=dF c4
 obtain ⟨y5,ev_y5,l_y5,h_y5⟩:=qA5 (E:=EE) (j:=((i0:Nat):Int)) h_a (by omega) (by omega)
 have i_y5:=qL h_y5
 have b_y5:=qX h_y5
 refine bS ev_y5 ?_
 obtain ⟨y6,ev_y6,l_y6,h_y6⟩:=gN (E:=EE) (el:=3) (sz:=1) (bytes:=8) h_y3 h_y5 (by decide) (by omega)
 have i_y6:=qL h_y6
 have b_y6:=qX h_y6
 refine bS ev_y6 ?_
 exact vJ (ds:=[y6]) rfl ⟨h_y6,by show y6.es.length<=_; omega⟩
theorem qVb {a b c:D} (h_a:qS 300000000 (.sl 75 8 (.st [.int .i64,.sl 3 1 (.int .i64),.int .i64,.sl 34 1 (.sl 3 1 (.int .i64)),.int .i64,.sl 70 2 (.st [.str,.str]),.sl 152 2 (.st [.int .i64,.int .i64]),.sl 24 2 (.st [.int .i64,.int .i64])])) a) (h_b:qS 300000000 (.int .i64) b) (h_c:qS 300000000 (.int .i64) c):∃ d,(qS 300000000 (.sl 3 1 (.int .i64))) d/\Holds EE 77 [a,b,c] d:=by
 suffices h:∃ d,(qS 300000000 (.sl 3 1 (.int .i64))) d/\qH EE (Holds EE) qA6 0 [a,b,c] d by
  obtain ⟨d,hd,hg⟩:=h; exact ⟨d,hd,qUS rfl hg⟩
 have i_a:=qL h_a
 have b_a:=qX h_a
 obtain ⟨b,rfl⟩:=h_b
 obtain ⟨c,rfl⟩:=h_c
 refine jK (R:=(qS 300000000 (.sl 3 1 (.int .i64)))) ?_
 refine bS (qQ i_a) ?_
 obtain ⟨y0,ev_y0,l_y0,h_y0⟩:=qQL (E:=EE) (B:=300000000) (el:=4) (sz:=1) (bytes:=1) (ag:=false) (z:=[(.bool false)]) (n:=((a.es.length:Nat):Int)) (e:=.bool) (by omega) (by omega) rfl (by decide) sH
 have i_y0:=qL h_y0
 have b_y0:=qX h_y0
 refine bS ev_y0 ?_
 refine bS (wN rfl) ?_
 obtain ⟨y1,ev_y1,l_y1,h_y1,n_y1⟩:=bJ (E:=EE) (B:=300000000) (el:=3) (sz:=1) (xs:=[dI (b)]) (e:=.int .i64) rfl (qAG vK qAF) rfl rfl
 simp only [List.length_cons,List.length_nil] at l_y1
 have i_y1:=qL h_y1
 have b_y1:=qX h_y1
 refine bS ev_y1 ?_
 refine zK rfl (vI (P:=fun i2=>i2<=a.es.length+1->∀ v2_2:D,qS 300000000 (.sl 4 1 (.bool)) v2_2->v2_2.es.length=a.es.length->∀ v2_3:D,qS 300000000 (.sl 3 1 (.int .i64)) v2_3->True->∃ d,(qS 300000000 (.sl 3 1 (.int .i64))) d/\qH EE (Holds EE) qA6 1 [a,dI (c),v2_2,v2_3,dI ((i2:Nat):Int)] d) (a.es.length+1) (fun i2 ih2=>?_) 0 (by omega) y0 h_y0 (by omega) y1 h_y1 trivial)
 intro hn2 v2_2 h_v2_2 z_v2_2 v2_3 h_v2_3 z_v2_3
 have i_v2_2:=qL h_v2_2
 have b_v2_2:=qX h_v2_2
 have i_v2_3:=qL h_v2_3
 have b_v2_3:=qX h_v2_3
 refine jK (R:=(qS 300000000 (.sl 3 1 (.int .i64)))) ?_
 refine bS (qQ i_a) ?_
 refine bS wY ?_
 refine iC (fun c3=>?_) fun c3=>?_
 ·replace c3:=dT c3
  refine zK rfl (vI (P:=fun i4=>i4<=v2_3.es.length->∀ v4_2:D,qS 300000000 (.sl 4 1 (.bool)) v4_2->v4_2.es.length=a.es.length->∀ v4_5:D,qS 300000000 (.sl 3 1 (.int .i64)) v4_5->v4_5.es.length+qH4 v4_2<=a.es.length->∃ d,(qS 300000000 (.sl 3 1 (.int .i64))) d/\qH EE (Holds EE) qA6 2 [a,dI (c),v4_2,v2_3,dI ((i2:Nat):Int),v4_5,dI ((i4:Nat):Int)] d) (v2_3.es.length) (fun i4 ih4=>?_) 0 (by omega) v2_2 h_v2_2 (by omega) .nil b8 (by have:=qMI v2_2; show 0+qH4 v2_2<=_; omega))
  intro hn4 v4_2 h_v4_2 z_v4_2 v4_5 h_v4_5 z_v4_5
  have i_v4_2:=qL h_v4_2
  have b_v4_2:=qX h_v4_2
  have i_v4_5:=qL h_v4_5
  have b_v4_5:=qX h_v4_5
  refine jK (R:=(qS 300000000 (.sl 3 1 (.int .i64)))) ?_
  refine bS (qQ i_v2_3) ?_
  refine bS qJ ?_
  refine iC (fun c5=>?_) fun c5=>?_
  ·replace c5:=dT c5
   obtain ⟨x6,e_x6⟩:=gQ (d:=v2_3) (s:=((i4:Nat):Int)) (by omega) (by omega)
   obtain ⟨x6,rfl⟩:=(jQ h_v2_3 e_x6)
   refine bS (d:=dB (true)) (qP (by omega) e_x6) ?_
   refine bS (d:=dI (x6)) (jE i_v2_3 (by omega) e_x6 rfl) ?_
   obtain ⟨_,⟨r7,rfl,pa_r7,pb_r7⟩,k_r7⟩:=qUl (a:=a) (b:=dI (x6)) h_a vK
   refine cS k_r7 ?_
   refine zK rfl (vI (P:=fun i8=>∀ v8_2:D,qS 300000000 (.sl 4 1 (.bool)) v8_2->v8_2.es.length=a.es.length->∀ v8_5:D,qS 300000000 (.sl 3 1 (.int .i64)) v8_5->v8_5.es.length+qH4 v8_2<=a.es.length->∃ d,(qS 300000000 (.sl 3 1 (.int .i64))) d/\qH EE (Holds EE) qA6 3 [a,dI (c),v8_2,v2_3,dI ((i2:Nat):Int),v8_5,dI ((i4:Nat):Int),dI (r7),dI ((i8:Nat):Int)] d) (300000000) (fun i8 ih8=>?_) 0 v4_2 h_v4_2 (by omega) v4_5 h_v4_5 (by omega))
   intro v8_2 h_v8_2 z_v8_2 v8_5 h_v8_5 z_v8_5
   have i_v8_2:=qL h_v8_2
   have b_v8_2:=qX h_v8_2
   have i_v8_5:=qL h_v8_5
   have b_v8_5:=qX h_v8_5
   refine jK (R:=(qS 300000000 (.sl 3 1 (.int .i64)))) ?_
   refine bS kC ?_
   refine iC (fun c9=>?_) fun c9=>?_
   ·replace c9:=dT c9
    obtain ⟨x10,e_x10⟩:=gQ (d:=a) (s:=(r7)) (by omega) (by omega)
    obtain ⟨_,rfl,_,_,rfl,⟨x10_0,rfl⟩,x10_1,_,rfl,h_x10_1,_,_,rfl,⟨x10_2,rfl⟩,x10_3,_,rfl,h_x10_3,_,_,rfl,⟨x10_4,rfl⟩,x10_5,_,rfl,h_x10_5,x10_6,_,rfl,h_x10_6,x10_7,_,rfl,h_x10_7,rfl⟩:=(jQ h_a e_x10)
    have i_x10_1:=qL h_x10_1
    have b_x10_1:=qX h_x10_1
    have i_x10_3:=qL h_x10_3
    have b_x10_3:=qX h_x10_3
    have i_x10_5:=qL h_x10_5
    have b_x10_5:=qX h_x10_5
    have i_x10_6:=qL h_x10_6
    have b_x10_6:=qX h_x10_6
    have i_x10_7:=qL h_x10_7
    have b_x10_7:=qX h_x10_7
    refine bS (d:=dB (true)) (qP (by omega) e_x10) ?_
    refine bS (d:=x10_6) (zI (off:=6) i_a (by omega) e_x10 rfl i_x10_6.one (by decide)) ?_
    refine bS (qQ i_x10_6) ?_
    refine bS qJ ?_
    refine iC (fun c11=>?_) fun c11=>?_
    ·replace c11:=dT c11
     refine bS (d:=dB (true)) (qP (by omega) e_x10) ?_
     refine bS (d:=x10_6) (zI (off:=6) i_a (by omega) e_x10 rfl i_x10_6.one (by decide)) ?_
     obtain ⟨x12,e_x12⟩:=gQ (d:=x10_6) (s:=((i8:Nat):Int)) (by omega) (by omega)
     obtain ⟨_,rfl,_,_,rfl,⟨x12_0,rfl⟩,_,_,rfl,⟨x12_1,rfl⟩,rfl⟩:=(jQ h_x10_6 e_x12)
     refine bS (d:=dB (true)) (qP (by omega) e_x12) ?_
     refine bS (d:=.agg [dI (x12_0),dI (x12_1)]) (qZ i_x10_6 (by omega) e_x12 rfl) ?_
     refine bS (qI rfl) ?_
     refine bS (qA (off:=1) rfl rfl) ?_
     obtain ⟨_,⟨r13,rfl,pa_r13,pb_r13⟩,k_r13⟩:=qUl (a:=a) (b:=dI (x12_1)) h_a vK
     refine cS k_r13 ?_
     refine bS (qA (off:=0) rfl rfl) ?_
     refine bS zJ ?_
     refine iC (fun c14=>?_) fun c14=>?_
     ·replace c14:=dT c14
      refine bS kC ?_
      refine iC (fun c15=>?_) fun c15=>?_
      ·replace c15:=dT c15
       obtain ⟨x16,e_x16⟩:=gQ (d:=v8_2) (s:=(r13)) (by omega) (by omega)
       obtain ⟨x16,rfl⟩:=(jQ h_v8_2 e_x16)
       refine bS (d:=dB (true)) (qP (by omega) e_x16) ?_
       refine bS (d:=dB (x16)) (jE i_v8_2 (by omega) e_x16 rfl) ?_
       refine bS v6 ?_
       refine iC (fun c17=>?_) fun c17=>?_
       ·have cf:x16=false:=by
         cases x16 with
         | false=>rfl
         | true=>exact absurd c17 (by decide)
        subst cf
        refine bS (d:=dB (true)) (qP (by omega) e_x16) ?_
        obtain ⟨y18,ev_y18,l_y18,h_y18,q_y18⟩:=qLj (E:=EE) (i:=(r13)) h_v8_2 (by omega) (by omega) e_x16
        have i_y18:=qL h_y18
        have b_y18:=qX h_y18
        refine bS ev_y18 ?_
        refine bS (qA (off:=1) rfl rfl) ?_
        refine bS (wN rfl) ?_
        obtain ⟨y19,ev_y19,l_y19,h_y19,n_y19⟩:=bJ (E:=EE) (B:=300000000) (el:=3) (sz:=1) (xs:=[dI (x12_1)]) (e:=.int .i64) rfl (qAG vK qAF) rfl rfl
        simp only [List.length_cons,List.length_nil] at l_y19
        have i_y19:=qL h_y19
        have b_y19:=qX h_y19
        refine bS ev_y19 ?_
        obtain ⟨y20,ev_y20,l_y20,h_y20⟩:=gN (E:=EE) (el:=3) (sz:=1) (bytes:=8) h_v8_5 h_y19 (by decide) (by omega)
        have i_y20:=qL h_y20
        have b_y20:=qX h_y20
        refine bS ev_y20 ?_
        refine bS (d:=dI ((i8+1:Nat):Int)) (qT (qO (by omega))) ?_
        exact zK rfl (ih8 (by omega) y18 h_y18 (by omega) y20 h_y20 (by omega))
       clear c17
       refine bS (d:=dI ((i8+1:Nat):Int)) (qT (qO (by omega))) ?_
       exact zK rfl (ih8 (by omega) v8_2 h_v8_2 (by omega) v8_5 h_v8_5 (by omega))
      replace c15:=dF c15
      refine bS (d:=dI ((i8+1:Nat):Int)) (qT (qO (by omega))) ?_
      exact zK rfl (ih8 (by omega) v8_2 h_v8_2 (by omega) v8_5 h_v8_5 (by omega))
     replace c14:=dF c14
     refine bS (d:=dI ((i8+1:Nat):Int)) (qT (qO (by omega))) ?_
     exact zK rfl (ih8 (by omega) v8_2 h_v8_2 (by omega) v8_5 h_v8_5 (by omega))
    replace c11:=dF c11
    refine bS (d:=dI ((i4+1:Nat):Int)) (qT (qO (by omega))) ?_
    exact zK rfl (ih4 (by omega) (by omega) v8_2 h_v8_2 (by omega) v8_5 h_v8_5 (by omega))
   replace c9:=dF c9
   refine bS (d:=dI ((i4+1:Nat):Int)) (qT (qO (by omega))) ?_
   exact zK rfl (ih4 (by omega) (by omega) v8_2 h_v8_2 (by omega) v8_5 h_v8_5 (by omega))
  replace c5:=dF c5
  refine bS (d:=dI ((i2+1:Nat):Int)) (qT (qO (by omega))) ?_
  exact zK rfl (ih2 (by omega) (by omega) v4_2 h_v4_2 (by omega) v4_5 h_v4_5 trivial)
 replace c3:=dF c3
 refine zK rfl (vI (P:=fun i4=>i4<=a.es.length->∀ v4_2:D,qS 300000000 (.sl 3 1 (.int .i64)) v4_2->v4_2.es.length<=i4->∃ d,(qS 300000000 (.sl 3 1 (.int .i64))) d/\qH EE (Holds EE) qA6 4 [a,v2_2,v4_2,dI ((i4:Nat):Int)] d) (a.es.length) (fun i4 ih4=>?_) 0 (by omega) .nil b8 (by simp [D.es]))
 intro hn4 v4_2 h_v4_2 z_v4_2
 have i_v4_2:=qL h_v4_2
 have b_v4_2:=qX h_v4_2
 refine jK (R:=(qS 300000000 (.sl 3 1 (.int .i64)))) ?_
 refine bS (qQ i_a) ?_
 refine bS qJ ?_
 refine iC (fun c5=>?_) fun c5=>?_
 ·replace c5:=dT c5
  obtain ⟨x6,e_x6⟩:=gQ (d:=v2_2) (s:=((i4:Nat):Int)) (by omega) (by omega)
  obtain ⟨x6,rfl⟩:=(jQ h_v2_2 e_x6)
  refine bS (d:=dB (true)) (qP (by omega) e_x6) ?_
  refine bS (d:=dB (x6)) (jE i_v2_2 (by omega) e_x6 rfl) ?_
  refine iC (fun c7=>?_) fun c7=>?_
  ·clear c7
   obtain ⟨x8,e_x8⟩:=gQ (d:=a) (s:=((i4:Nat):Int)) (by omega) (by omega)
   obtain ⟨_,rfl,_,_,rfl,⟨x8_0,rfl⟩,x8_1,_,rfl,h_x8_1,_,_,rfl,⟨x8_2,rfl⟩,x8_3,_,rfl,h_x8_3,_,_,rfl,⟨x8_4,rfl⟩,x8_5,_,rfl,h_x8_5,x8_6,_,rfl,h_x8_6,x8_7,_,rfl,h_x8_7,rfl⟩:=(jQ h_a e_x8)
   have i_x8_1:=qL h_x8_1
   have b_x8_1:=qX h_x8_1
   have i_x8_3:=qL h_x8_3
   have b_x8_3:=qX h_x8_3
   have i_x8_5:=qL h_x8_5
   have b_x8_5:=qX h_x8_5
   have i_x8_6:=qL h_x8_6
   have b_x8_6:=qX h_x8_6
   have i_x8_7:=qL h_x8_7
   have b_x8_7:=qX h_x8_7
   refine bS (d:=dB (true)) (qP (by omega) e_x8) ?_
   refine bS (d:=dI (x8_0)) (zI (off:=0) i_a (by omega) e_x8 rfl rfl (by decide)) ?_
   refine bS (wN rfl) ?_
   obtain ⟨y9,ev_y9,l_y9,h_y9,n_y9⟩:=bJ (E:=EE) (B:=300000000) (el:=3) (sz:=1) (xs:=[dI (x8_0)]) (e:=.int .i64) rfl (qAG vK qAF) rfl rfl
   simp only [List.length_cons,List.length_nil] at l_y9
   have i_y9:=qL h_y9
   have b_y9:=qX h_y9
   refine bS ev_y9 ?_
   obtain ⟨y10,ev_y10,l_y10,h_y10⟩:=gN (E:=EE) (el:=3) (sz:=1) (bytes:=8) h_v4_2 h_y9 (by decide) (by omega)
   have i_y10:=qL h_y10
   have b_y10:=qX h_y10
   refine bS ev_y10 ?_
   refine bS (d:=dI ((i4+1:Nat):Int)) (qT (qO (by omega))) ?_
   exact zK rfl (ih4 (by omega) (by omega) y10 h_y10 (by omega))
  clear c7
  refine bS (d:=dI ((i4+1:Nat):Int)) (qT (qO (by omega))) ?_
  exact zK rfl (ih4 (by omega) (by omega) v4_2 h_v4_2 (by omega))
 replace c5:=dF c5
 exact vJ rfl h_v4_2
end Go.Proofs.YthhlmoidofecpaaGreat
namespace Go.Proofs.YthhlmoidofecpaaGreat
open Go Go.Am Go.Proofs
attribute [local irreducible] Go.Am.wp Go.Am.TOp.eval
theorem qBa (x y:Int):Holds EE 118 [.agg [dI x,dI y]] (dB (rt x y)):=by
 suffices h:∃ d,(fun d=>d=dB (rt x y)) d/\qH EE (Holds EE) qIS 0 [.agg [dI x,dI y]] d by
  obtain ⟨d,hd,hg⟩:=h; cases hd; exact qOR rfl hg
 refine jK ?_
 refine bS (qI rfl) ?_
 refine bS (qA (off:=0) rfl rfl) ?_
 refine bS kC ?_
 refine iC (fun c=>?_) fun c=>?_
 ·refine bS (qA (off:=0) rfl rfl) ?_
  refine bS (qA (off:=1) rfl rfl) ?_
  refine bS qJ ?_
  refine cP rfl (fun c'=>?_) (fun c'=>?_)
  ·refine bS (qA (off:=1) rfl rfl) ?_
   refine bS wY ?_
   exact vJ rfl (by show dB (decide (y<=86400000))=dB (rt x y); unfold rt; rw [c,c']; rfl)
  exact vJ rfl (by show dB false=dB (rt x y); unfold rt; rw [c,c']; rfl)
 exact vJ rfl (by show dB false=dB (rt x y); unfold rt; rw [c]; rfl)
theorem qFX {s p:Int × Int} {a b:Bool} (ha:rt p.1 (mn p.2 s.1)=a) (hb:rt (mx p.1 s.2) p.2=b) :
  wo s p=(bif a then [(p.1,mn p.2 s.1)] else [])++(bif b then [(mx p.1 s.2,p.2)] else []):=by
 unfold wo; rw [ha,hb]; cases a <;> cases b <;> rfl
theorem qS5 {l:List (Int × Int)} {s0 s1:Int} (hs:qOG l) (h12:s0 < s1) (hz:l.length<=300000001):Holds EE 142 [sp 60 l,.agg [dI s0,dI s1]] (sp 60 (l.flatMap (wo (s0,s1)))):=by
 suffices h:∃ d,(fun d=>d=sp 60 (l.flatMap (wo (s0,s1)))) d/\qH EE (Holds EE) qEM 0 [sp 60 l,.agg [dI s0,dI s1]] d by
  obtain ⟨d,hd,hg⟩:=h; cases hd; exact qSX rfl hg
 have i_a:jA 60 2 (sp 60 l):=qOr (by omega)
 refine jK ?_
 refine bS (qI rfl) ?_
 refine bS qCl ?_
 refine zK rfl (vI (P:=fun i=>i<=l.length->∃ d,(fun d=>d=sp 60 (l.flatMap (wo (s0,s1)))) d/\qH EE (Holds EE) qEM 1 [sp 60 l,sp 60 ((l.take i).flatMap (wo (s0,s1))),dI ((i:Nat):Int),.agg [dI s0,dI s1]] d) l.length (fun i ih=>?_) 0 (by omega))
 intro hn
 refine jK ?_
 refine bS tB ?_
 refine bS qJ ?_
 refine iC (fun c2=>?_) fun c2=>?_
 ·replace c2:=dT c2
  have hi:i < l.length:=by omega
  obtain ⟨⟨x0,x1⟩,hp⟩:∃ p,l[i]? = some p:=⟨_,List.getElem?_eq_getElem hi⟩
  have e_x:(sp 60 l).es[((i:Nat):Int).toNat]? = some (.agg [dI x0,dI x1]):=qRF hp
  have hstep:(l.take (i+1)).flatMap (wo (s0,s1))=(l.take i).flatMap (wo (s0,s1))++wo (s0,s1) (x0,x1):=by
   rw [List.take_add_one,hp,List.flatMap_append]; simp
  have hlen:((l.take (i+1)).flatMap (wo (s0,s1))).length<=300000002:=by
   have h1:=qEK (s:=(s0,s1)) h12 (l:=l.take (i+1)) ⟨hs.1.sublist (List.take_sublist _ _),fun q hq=>hs.2 q (List.mem_of_mem_take hq)⟩
   have h2:=List.length_take_le (i+1) l
   have h3:=List.length_take_le' (i+1) l
   omega
  have nx:=ih hi (by omega)
  rw [hstep] at nx
  rw [hstep,List.length_append] at hlen
  generalize (l.take i).flatMap (wo (s0,s1))=L at hlen nx ⊢
  refine bS (d:=dB true) (qP (by omega) e_x) ?_
  refine bS (d:=dI x0) (zI (off:=0) i_a (by omega) e_x rfl rfl (by decide)) ?_
  refine bS (d:=dB true) (qP (by omega) e_x) ?_
  refine bS (d:=dI x1) (zI (off:=1) i_a (by omega) e_x rfl rfl (by decide)) ?_
  refine bS (qA (off:=0) rfl rfl) ?_
  refine bS qOz ?_
  refine bS (d:=dB true) (qP (by omega) e_x) ?_
  refine bS (d:=dI x0) (zI (off:=0) i_a (by omega) e_x rfl rfl (by decide)) ?_
  refine bS (qA (off:=1) rfl rfl) ?_
  refine bS qOy ?_
  refine bS (d:=dB true) (qP (by omega) e_x) ?_
  refine bS (d:=dI x1) (zI (off:=1) i_a (by omega) e_x rfl rfl (by decide)) ?_
  refine cS (qBa x0 (mn x1 s0)) ?_
  refine iC (fun c7=>?_) fun c7=>?_
  ·refine bS (qI rfl) ?_
   refine bS (uC (q:=(x0,mn x1 s0))) ?_
   refine bS (d:=sp 60 (L++[(x0,mn x1 s0)])) (qB0 (by omega)) ?_
   refine cS (qBa (mx x0 s1) x1) ?_
   refine iC (fun c11=>?_) fun c11=>?_
   ·have hw:=qFX (s:=(s0,s1)) (p:=(x0,x1)) c7 c11
    rw [hw] at nx
    refine bS (qI rfl) ?_
    refine bS (uC (q:=(mx x0 s1,x1))) ?_
    refine bS (d:=sp 60 ((L++[(x0,mn x1 s0)])++[(mx x0 s1,x1)])) (qB0 (by rw [List.length_append]; show L.length+1<=_; omega)) ?_
    refine bS (d:=dI ((i+1:Nat):Int)) (qT (qO (by omega))) ?_
    rw [List.append_assoc]
    exact zK rfl nx
   have hw:=qFX (s:=(s0,s1)) (p:=(x0,x1)) c7 c11
   rw [hw] at nx
   refine bS (d:=dI ((i+1:Nat):Int)) (qT (qO (by omega))) ?_
   exact zK rfl nx
  refine cS (qBa (mx x0 s1) x1) ?_
  refine iC (fun c11=>?_) fun c11=>?_
  ·have hw:=qFX (s:=(s0,s1)) (p:=(x0,x1)) c7 c11
   rw [hw] at nx
   refine bS (qI rfl) ?_
   refine bS (uC (q:=(mx x0 s1,x1))) ?_
   refine bS (d:=sp 60 (L++[(mx x0 s1,x1)])) (qB0 (by omega)) ?_
   refine bS (d:=dI ((i+1:Nat):Int)) (qT (qO (by omega))) ?_
   exact zK rfl nx
  have hw:=qFX (s:=(s0,s1)) (p:=(x0,x1)) c7 c11
  rw [hw] at nx
  refine bS (d:=dI ((i+1:Nat):Int)) (qT (qO (by omega))) ?_
  simp only [cond_false,List.append_nil] at nx
  exact zK rfl nx
 replace c2:=dF c2
 have hi:i=l.length:=by omega
 subst hi
 exact vJ rfl (by show sp 60 ((l.take l.length).flatMap (wo (s0,s1)))=_; rw [List.take_length])
theorem qS4 (x y:Int):Holds EE 155 [sp 60 [],.agg [dI x,dI y]] (sp 60 [(x,y)]):=by
 suffices h:∃ d,(fun d=>d=sp 60 [(x,y)]) d/\qH EE (Holds EE) qIE 0 [sp 60 [],.agg [dI x,dI y]] d by
  obtain ⟨d,hd,hg⟩:=h; cases hd; exact qSW rfl hg
 refine jK ?_
 refine bS (qI rfl) ?_
 refine bS qCl ?_
 refine bS qCl ?_
 refine zK rfl (jK ?_)
 refine qIv (ρ':=[_,_,_,_,_,_]) tB rfl rfl ?_
 refine bS qJ ?_
 refine cP rfl (fun c=>by cases c) (fun _=>?_)
 refine bS (qI rfl) ?_
 refine bS (uC (q:=(x,y))) ?_
 refine bS (d:=sp 60 [(x,y)]) (qB0 (l:=[]) (by decide)) ?_
 refine bS qQl ?_
 exact vJ rfl rfl
theorem qS6 (x y:Int):Holds EE 141 [sp 60 [(x,y)]] (sp 60 (bif rt x y then [(x,y)] else [])):=by
 suffices h:∃ d,(fun d=>d=sp 60 (bif rt x y then [(x,y)] else [])) d/\qH EE (Holds EE) qEN 0 [sp 60 [(x,y)]] d by
  obtain ⟨d,hd,hg⟩:=h; cases hd; exact qSY rfl hg
 have i_a:jA 60 2 (sp 60 [(x,y)]):=qOr (by simp)
 have e_x:(sp 60 [(x,y)]).es[((0:Nat):Int).toNat]? = some (.agg [dI x,dI y]):=rfl
 have last:∀ l,(fun d=>d=sp 60 (bif rt x y then [(x,y)] else [])) (sp 60 l)->∃ d,(fun d=>d=sp 60 (bif rt x y then [(x,y)] else [])) d/\qH EE (Holds EE) qEN 1 [sp 60 [(x,y)],sp 60 l,dI ((1:Nat):Int)] d:=by
  intro l hl
  refine jK ?_
  refine bS tB ?_
  refine bS qJ ?_
  refine cP rfl (fun c=>by cases c) (fun _=>?_)
  exact vJ rfl hl
 refine jK ?_
 refine bS qCl ?_
 refine zK rfl (jK ?_)
 refine qIv (ρ':=[_,_,_,_]) tB rfl rfl ?_
 refine bS qJ ?_
 refine cP rfl (fun _=>?_) (fun c=>by cases c)
 refine bS (d:=dB true) (qP (by omega) e_x) ?_
 refine bS (d:=.agg [dI x,dI y]) (qZ i_a (by omega) e_x rfl) ?_
 refine cS (qBa x y) ?_
 refine iC (fun c=>?_) fun c=>?_
 ·refine bS (d:=dB true) (qP (by omega) e_x) ?_
  refine bS (d:=.agg [dI x,dI y]) (qZ i_a (by omega) e_x rfl) ?_
  refine cS (qS4 x y) ?_
  refine bS (d:=dI ((0+1:Nat):Int)) (qT (qO (n:=0+1) (by decide))) ?_
  exact zK rfl (last _ (by show _=sp 60 _; rw [c]; rfl))
 refine bS (d:=dI ((0+1:Nat):Int)) (qT (qO (n:=0+1) (by decide))) ?_
 exact zK rfl (last [] (by show _=sp 60 _; rw [c]; rfl))
theorem qS9 {b:D} (x y:Int) (h_b:qS 300000000 (.sl 60 2 (.st [.int .i64,.int .i64])) b):∃ d,(∃ l:List (Int × Int),d=sp 60 l/\l.length<=300000001)/\Holds EE 119 [sp 60 [(x,y)],b] d:=by
 suffices h:∃ d,(fun d=>∃ l:List (Int × Int),d=sp 60 l/\l.length<=300000001) d/\qH EE (Holds EE) qEP 0 [sp 60 [(x,y)],b] d by
  obtain ⟨d,hd,hg⟩:=h; exact ⟨d,hd,qS1 rfl hg⟩
 have i_b:=qL h_b
 have b_b:=qX h_b
 refine jK ?_
 refine cS (qS6 x y) ?_
 have h0:qOG (bif rt x y then [(x,y)] else [])/\(bif rt x y then [(x,y)] else []).length<=1:=by
  cases hr:rt x y
  ·exact ⟨qLF,Nat.zero_le _⟩
  exact ⟨qLE (qBc hr),lR _⟩
 refine zK rfl (vI (P:=fun i=>i<=b.es.length->∀ l,qOG l->l.length<=i+1->∃ d,(fun d=>∃ l:List (Int × Int),d=sp 60 l/\l.length<=300000001) d/\qH EE (Holds EE) qEP 1 [b,sp 60 l,dI ((i:Nat):Int)] d) b.es.length (fun i ih=>?_) 0 (by omega) _ h0.1 h0.2)
 intro hn l hl hz
 refine jK ?_
 refine bS (qQ i_b) ?_
 refine bS qJ ?_
 refine iC (fun c2=>?_) fun c2=>?_
 ·replace c2:=dT c2
  obtain ⟨x3,e_x3⟩:=gQ (d:=b) (s:=((i:Nat):Int)) (by omega) (by omega)
  obtain ⟨_,rfl,_,_,rfl,⟨x3_0,rfl⟩,_,_,rfl,⟨x3_1,rfl⟩,rfl⟩:=(jQ h_b e_x3)
  refine bS (d:=dB true) (qP (by omega) e_x3) ?_
  refine bS (d:=.agg [dI x3_0,dI x3_1]) (qZ i_b (by omega) e_x3 rfl) ?_
  refine cS (qBa x3_0 x3_1) ?_
  refine iC (fun c5=>?_) fun c5=>?_
  ·have h12:=qBc c5
   refine bS (d:=dB true) (qP (by omega) e_x3) ?_
   refine bS (d:=.agg [dI x3_0,dI x3_1]) (qZ i_b (by omega) e_x3 rfl) ?_
   refine cS (qS5 hl h12 (by omega)) ?_
   refine bS (d:=dI ((i+1:Nat):Int)) (qT (qO (by omega))) ?_
   have:=qEK (s:=(x3_0,x3_1)) h12 hl
   exact zK rfl (ih (by omega) (by omega) _ (qOJ h12 hl) (by omega))
  refine bS (d:=dI ((i+1:Nat):Int)) (qT (qO (by omega))) ?_
  exact zK rfl (ih (by omega) (by omega) l hl (by omega))
 exact vJ rfl ⟨l,rfl,by omega⟩
theorem qVa {a b:D} (h_a:qS 300000000 (.sl 60 2 (.st [.int .i64,.int .i64])) a) (h_b:qS 300000000 (.st [.int .i64,.int .i64]) b):∃ d,(qS 300000000 (.bool)) d/\Holds EE 86 [a,b] d:=by
 suffices h:∃ d,(qS 300000000 (.bool)) d/\qH EE (Holds EE) qNc 0 [a,b] d by
  obtain ⟨d,hd,hg⟩:=h; exact ⟨d,hd,qUO rfl hg⟩
 obtain ⟨_,rfl,_,_,rfl,⟨b_0,rfl⟩,_,_,rfl,⟨b_1,rfl⟩,rfl⟩:=h_b
 refine jK (R:=(qS 300000000 (.bool))) ?_
 refine bS (qI rfl) ?_
 refine cS (qBa b_0 b_1) ?_
 refine iC (fun _=>?_) fun _=>?_
 ·refine bS (qI rfl) ?_
  refine bS (uC (q:=(b_0,b_1))) ?_
  obtain ⟨_,⟨l,rfl,hl⟩,k⟩:=qS9 b_0 b_1 h_a
  refine cS k ?_
  refine bS tB ?_
  refine bS zJ ?_
  exact vJ rfl sH
 exact vJ rfl sH
end Go.Proofs.YthhlmoidofecpaaGreat
namespace Go.Proofs.YthhlmoidofecpaaGreat
open Go Go.Am Go.Proofs Go.Am.Tt
theorem qI5 {el sz:Nat} {e:Sh} {d:D} (h:qS 300000000 (.sl el sz e) d):cU d=(d.es.length:Int):=by
 simp only [qS] at h
 rcases h with rfl | ⟨es,rfl,_⟩ <;> rfl
def qLI:Tt.Spec:=⟨[(.str BG),(.int .i64)],[(.int .i64),(.int .i64)],[(.z,aA 1,0),(aA 1,aA 0,-1)],[(.z,aA 3,0),(aA 3,.z,4)]⟩
def qLH:Tt.Spec:=⟨[n2,(.int .i64)],[n2],[(aA 0,.z,299999999)],[(aA 2,aA 0,1)]⟩
def qSF:Tt.Spec:=⟨[n0,(.int .i64),(.int .i64)],[n2],[],[]⟩
def qRJ:Tt.Spec:=⟨[qQA,qLc],[.bool],[],[]⟩
theorem qTA:gX (Holds EE) 134 qLI:=by
 intro ds hd hp
 simp only [qLI,zZ] at hd hp
 obtain ⟨a,_,rfl,ha,b,_,rfl,hb,rfl⟩:=hd
 have q1:=hp _ List.mem_cons_self
 have q2:=hp _ (mC _ List.mem_cons_self)
 obtain ⟨_,⟨p,n,rfl,h1,h2⟩,h3⟩:=qS8 (yA rfl ha) (yA rfl hb) (fun n hn=>by subst hn; have:(0:Int)<=n+0:=q1; omega) (fun s n hs hn=>by subst hs hn; have:n<=(s.size:Int) + -1:=q2; omega)
 refine ⟨[dI p,dI n],?_,fun q hq=>?_,h3⟩
 ·simp only [qLI,zZ]
  exact ⟨_,_,rfl,by simp only [vA]; exact ⟨_,rfl⟩,_,_,rfl,by simp only [vA]; exact ⟨_,rfl⟩,rfl⟩
 rcases List.mem_cons.1 hq with rfl | hq
 ·show (0:Int)<=n+0; omega
 rcases List.mem_cons.1 hq with rfl | hq
 ·show n<=(0:Int)+4; omega
 cases hq
theorem qTz:gX (Holds EE) 135 qLH:=by
 intro ds hd hp
 simp only [qLH,zZ] at hd hp
 obtain ⟨a,_,rfl,ha,b,_,rfl,hb,rfl⟩:=hd
 have q1:=hp _ List.mem_cons_self
 have ha':=yA rfl ha
 have hv:=qI5 ha'
 obtain ⟨d,⟨h1,h2⟩,h3⟩:=qS7 ha' (yA rfl hb) (by have:cU a<=(0:Int)+299999999:=q1; omega)
 have hv':=qI5 h1
 refine ⟨[d],by simp only [qLH,zZ]; exact ⟨_,_,rfl,cB rfl h1,rfl⟩,fun q hq=>?_,h3⟩
 rcases List.mem_cons.1 hq with rfl | hq
 ·show cU d<=cU a+1; omega
 cases hq
theorem qVo:gX (Holds EE) 77 qSF:=by
 intro ds hd _
 simp only [qSF,zZ] at hd
 obtain ⟨a,_,rfl,ha,b,_,rfl,hb,c,_,rfl,hc,rfl⟩:=hd
 obtain ⟨d,h1,h2⟩:=qVb (yA rfl ha) (yA rfl hb) (yA rfl hc)
 exact ⟨[d],by simp only [qSF,zZ]; exact ⟨_,_,rfl,cB rfl h1,rfl⟩,fun q hq=>(by cases hq),h2⟩
theorem qR5:gX (Holds EE) 86 qRJ:=by
 intro ds hd _
 simp only [qRJ,zZ] at hd
 obtain ⟨a,_,rfl,ha,b,_,rfl,hb,rfl⟩:=hd
 obtain ⟨d,h1,h2⟩:=qVa (yA rfl ha) (yA rfl hb)
 exact ⟨[d],by simp only [qRJ,zZ]; exact ⟨_,_,rfl,cB rfl h1,rfl⟩,fun q hq=>(by cases hq),h2⟩
def qLz:List (FuncId × Tt.Spec):=(134,qLI)::(135,qLH)::(77,qSF)::(86,qRJ)::iL [] qP5
theorem qLy:∀ p∈qLz,gX (Holds EE) p.1 p.2:=iG qTA <| iG qTz <| iG qVo <| iG qR5 <| qLw
end Go.Proofs.YthhlmoidofecpaaGreat
namespace Go.Proofs.YthhlmoidofecpaaGreat
open Go Go.Am Go.Proofs Go.Am.Tt
theorem qVi:qAH EE Tryz.prog TT qLz qP4=true:=by kernel_rfl
theorem qIW:∀ p∈iL qLz qP4,gX (Holds EE) p.1 p.2:=lC qHP qLL qED qLy qVi
end Go.Proofs.YthhlmoidofecpaaGreat
