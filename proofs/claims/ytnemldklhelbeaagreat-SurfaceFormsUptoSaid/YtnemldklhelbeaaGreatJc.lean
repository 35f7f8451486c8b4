/- Functions that always give something, by hand. Conditions: none. -/
import Derived.Test.YtnemldklhelbeaaGreatJb
import Derived.Test.YtnemldklhelbeaaGreatUv
set_option linter.unusedVariables false
set_option linter.unusedSimpArgs false
namespace Go.Proofs.YtnemldklhelbeaaGreat
open Go Go.Am Go.Proofs Go.Am.Tt
attribute [local irreducible] Go.Am.wp Go.Am.TOp.eval
theorem qAX (m:Int):∃ n:Int,TOp.eval EE (.conv 5 3) [.leaf (.int .u8 m)]=some (dI n):=⟨IntKind.i64.wrap m,by kernel_rfl⟩
theorem pY (m:Int) {x y:Operand}:∃ n:Int,TOp.eval EE (.bin .rem 3 x y) [dI m,dI ((64:Nat):Int)]=some (dI n):=⟨m.tmod 64,by kernel_rfl⟩
theorem qM2 {a:D} (h_a:qE 300000000 (.int .i64) a):∃ d,qE 300000000 (.bool) d/\qA EE 122 [a] d :=
 qRG (S:=qVy.S) (kE qMX (by kernel_rfl)) rfl rfl rfl rfl (zJ h_a j0)
theorem qM1 {a:D} (h_a:qE 300000000 (.int .i64) a):∃ d,qE 300000000 (.str) d/\qA EE 123 [a] d :=
 qRG (S:=qVx.S) (kE qMX (by kernel_rfl)) rfl rfl rfl rfl (zJ h_a j0)
theorem qXV {a b:D} (h_a:qE 300000000 (.sl 59 8 (.st [.int .i64,.sl 3 1 (.int .i64),.int .i64,.sl 31 1 (.sl 3 1 (.int .i64)),.int .i64,.sl 79 2 (.st [.str,.str]),.sl 134 2 (.st [.int .i64,.int .i64]),.sl 182 2 (.st [.int .i64,.int .i64])])) a) (h_b:qE 300000000 (.int .i64) b):∃ d,(∃ n:Int,d=dI n /\ -1<=n/\n < (a.es.length:Int))/\qA EE 68 [a,b] d:=by
 obtain ⟨rs,h1,hp,h2⟩:=(kE qMX (f:=68) (S:=qYg.S) (by kernel_rfl)) [a,b] (e8 rfl (zJ h_a (zJ h_b j0))) (fun q hq=>by cases hq)
 have h1:vN [.int .i64] rs:=h1
 simp only [vN] at h1
 obtain ⟨d,_,rfl,⟨n,rfl⟩,rfl⟩:=h1
 have e1:f6 a=(a.es.length:Int):=by
  simp only [qE] at h_a
  rcases h_a with rfl | ⟨es,rfl,_⟩ <;> rfl
 have q1:(0:Int)<=n+1:=hp _ List.mem_cons_self
 have q2:n<=f6 a + -1:=hp _ (mC _ List.mem_cons_self)
 exact ⟨_,⟨n,rfl,by omega,by omega⟩,h2⟩
theorem qWy {a b : D} (h_a : qE 300000000 (.str) a) (h_b : qE 300000000 (.int .i64) b) (p0 : ∀ n : Int, b = dI n -> 0 <= n) (p1 : ∀ (s : ByteArray) (n : Int), a = .leaf (.string s) -> b = dI n -> n < (s.size : Int)) : ∃ d, (fun d => ∃ p n : Int, d = .tup [dI p, dI n] /\ 0 <= n /\ n <= 4) d /\ qA EE 109 [a, b] d := by
  suffices h : ∃ d, (fun d => ∃ p n : Int, d = .tup [dI p, dI n] /\ 0 <= n /\ n <= 4) d /\ qG EE (qA EE) f8 0 [a, b] d by
    obtain ⟨d, hd, hg⟩ := h; exact ⟨d, hd, qWp rfl hg⟩
  obtain ⟨a, rfl, hs_a⟩ := h_a
  obtain ⟨b, rfl⟩ := h_b
  replace p0 := p0 _ rfl
  replace p1 := p1 _ _ rfl rfl
  refine jA (R := (fun d => ∃ p n : Int, d = .tup [dI p, dI n] /\ 0 <= n /\ n <= 4)) ?_
  obtain ⟨w0, p0, q0, ew0⟩ := hU (E := EE) (s := a) (i := (b)) (by omega) (by omega)
  refine bS ew0 ?_
  obtain ⟨w1, ew1⟩ := qAX (w0)
  refine bS ew1 ?_
  refine bS wE ?_
  refine iC (fun c2=>?_) fun c2=>?_
  · replace c2 := dT c2
    obtain ⟨w3, ew3⟩ : ∃ w : Int, IntKind.i64.wrap ((w1) - ((240 : Nat) : Int)) = w := ⟨_, rfl⟩
    refine bS (d := dI (w3)) (by rw [← ew3]; exact tA) ?_
    refine bS (d := dI ((b) + ((4 : Nat) : Int))) (xF (by omega)) ?_
    refine bS uG ?_
    refine bS zL ?_
    refine iC (fun c4=>?_) fun c4=>?_
    · replace c4 := dT c4
      exact zY rfl ⟨_, _, rfl, by omega, by omega⟩
    · replace c4 := dF c4
      refine zA rfl (vT (P := fun i5 => 1 <= i5 -> ∀ v5_2 : Int, ∃ d, (fun d => ∃ p n : Int, d = .tup [dI p, dI n] /\ 0 <= n /\ n <= 4) d /\ qG EE (qA EE) f8 1 [.leaf (.string a), dI (b), dI (v5_2), dI ((4 : Nat) : Int), dI ((i5 : Nat) : Int)] d) (4) (fun i5 ih5 => ?_) 1 (by omega) _)
      intro hn5 v5_2
      refine jA (R := (fun d => ∃ p n : Int, d = .tup [dI p, dI n] /\ 0 <= n /\ n <= 4)) ?_
      refine bS qK ?_
      refine iC (fun c6=>?_) fun c6=>?_
      · replace c6 := dT c6
        obtain ⟨w7, ew7⟩ : ∃ w : Int, IntKind.i64.wrap ((v5_2) * ((64 : Nat) : Int)) = w := ⟨_, rfl⟩
        refine bS (d := dI (w7)) (by rw [← ew7]; exact d8) ?_
        refine bS (d := dI ((b) + ((i5 : Nat) : Int))) (xF (by omega)) ?_
        obtain ⟨w8, p8, q8, ew8⟩ := hU (E := EE) (s := a) (i := ((b) + ((i5 : Nat) : Int))) (by omega) (by omega)
        refine bS ew8 ?_
        obtain ⟨w9, ew9⟩ := qAX (w8)
        refine bS ew9 ?_
        obtain ⟨w10, ew10⟩ := pY (w9)
        refine bS ew10 ?_
        obtain ⟨w11, ew11⟩ : ∃ w : Int, IntKind.i64.wrap ((w7) + (w10)) = w := ⟨_, rfl⟩
        refine bS (d := dI (w11)) (by rw [← ew11]; exact d9) ?_
        refine bS (d := dI ((i5 + 1 : Nat) : Int)) (qP (qM (by omega))) ?_
        exact zA rfl (ih5 (by omega) (by omega) _)
      · replace c6 := dF c6
        obtain ⟨_, ⟨r7, rfl⟩, k_r7⟩ := qM2 (a := dI (v5_2)) jH
        refine cS k_r7 ?_
        refine bS zZ ?_
        refine iC (fun c8=>?_) fun c8=>?_
        · clear c8
          exact zY rfl ⟨_, _, rfl, by omega, by omega⟩
        · clear c8
          obtain ⟨_, ⟨r9, rfl, hs_r9⟩, k_r9⟩ := qM1 (a := dI (v5_2)) jH
          refine cS k_r9 ?_
          refine bS (d := dI ((b) + ((4 : Nat) : Int))) (xF (by omega)) ?_
          obtain ⟨s10, hs_s10, ev10⟩ := tT (E := EE) (B := 300000000) (s := a) (i := (b)) (j := ((b) + ((4 : Nat) : Int))) (by omega) (by omega) (by omega) (by omega)
          refine bS ev10 ?_
          refine bS eC ?_
          refine iC (fun c11=>?_) fun c11=>?_
          · clear c11
            exact zY rfl ⟨_, _, rfl, by omega, by omega⟩
          · clear c11
            exact zY rfl ⟨_, _, rfl, by omega, by omega⟩
  · replace c2 := dF c2
    refine bS wE ?_
    refine iC (fun c3=>?_) fun c3=>?_
    · replace c3 := dT c3
      obtain ⟨w4, ew4⟩ : ∃ w : Int, IntKind.i64.wrap ((w1) - ((224 : Nat) : Int)) = w := ⟨_, rfl⟩
      refine bS (d := dI (w4)) (by rw [← ew4]; exact tA) ?_
      refine bS (d := dI ((b) + ((3 : Nat) : Int))) (xF (by omega)) ?_
      refine bS uG ?_
      refine bS zL ?_
      refine iC (fun c5=>?_) fun c5=>?_
      · replace c5 := dT c5
        exact zY rfl ⟨_, _, rfl, by omega, by omega⟩
      · replace c5 := dF c5
        refine zA rfl (vT (P := fun i6 => 1 <= i6 -> ∀ v6_2 : Int, ∃ d, (fun d => ∃ p n : Int, d = .tup [dI p, dI n] /\ 0 <= n /\ n <= 4) d /\ qG EE (qA EE) f8 1 [.leaf (.string a), dI (b), dI (v6_2), dI ((3 : Nat) : Int), dI ((i6 : Nat) : Int)] d) (3) (fun i6 ih6 => ?_) 1 (by omega) _)
        intro hn6 v6_2
        refine jA (R := (fun d => ∃ p n : Int, d = .tup [dI p, dI n] /\ 0 <= n /\ n <= 4)) ?_
        refine bS qK ?_
        refine iC (fun c7=>?_) fun c7=>?_
        · replace c7 := dT c7
          obtain ⟨w8, ew8⟩ : ∃ w : Int, IntKind.i64.wrap ((v6_2) * ((64 : Nat) : Int)) = w := ⟨_, rfl⟩
          refine bS (d := dI (w8)) (by rw [← ew8]; exact d8) ?_
          refine bS (d := dI ((b) + ((i6 : Nat) : Int))) (xF (by omega)) ?_
          obtain ⟨w9, p9, q9, ew9⟩ := hU (E := EE) (s := a) (i := ((b) + ((i6 : Nat) : Int))) (by omega) (by omega)
          refine bS ew9 ?_
          obtain ⟨w10, ew10⟩ := qAX (w9)
          refine bS ew10 ?_
          obtain ⟨w11, ew11⟩ := pY (w10)
          refine bS ew11 ?_
          obtain ⟨w12, ew12⟩ : ∃ w : Int, IntKind.i64.wrap ((w8) + (w11)) = w := ⟨_, rfl⟩
          refine bS (d := dI (w12)) (by rw [← ew12]; exact d9) ?_
          refine bS (d := dI ((i6 + 1 : Nat) : Int)) (qP (qM (by omega))) ?_
          exact zA rfl (ih6 (by omega) (by omega) _)
        · replace c7 := dF c7
          obtain ⟨_, ⟨r8, rfl⟩, k_r8⟩ := qM2 (a := dI (v6_2)) jH
          refine cS k_r8 ?_
          refine bS zZ ?_
          refine iC (fun c9=>?_) fun c9=>?_
          · clear c9
            exact zY rfl ⟨_, _, rfl, by omega, by omega⟩
          · clear c9
            obtain ⟨_, ⟨r10, rfl, hs_r10⟩, k_r10⟩ := qM1 (a := dI (v6_2)) jH
            refine cS k_r10 ?_
            refine bS (d := dI ((b) + ((3 : Nat) : Int))) (xF (by omega)) ?_
            obtain ⟨s11, hs_s11, ev11⟩ := tT (E := EE) (B := 300000000) (s := a) (i := (b)) (j := ((b) + ((3 : Nat) : Int))) (by omega) (by omega) (by omega) (by omega)
            refine bS ev11 ?_
            refine bS eC ?_
            refine iC (fun c12=>?_) fun c12=>?_
            · clear c12
              exact zY rfl ⟨_, _, rfl, by omega, by omega⟩
            · clear c12
              exact zY rfl ⟨_, _, rfl, by omega, by omega⟩
    · replace c3 := dF c3
      refine bS wE ?_
      refine iC (fun c4=>?_) fun c4=>?_
      · replace c4 := dT c4
        obtain ⟨w5, ew5⟩ : ∃ w : Int, IntKind.i64.wrap ((w1) - ((192 : Nat) : Int)) = w := ⟨_, rfl⟩
        refine bS (d := dI (w5)) (by rw [← ew5]; exact tA) ?_
        refine bS (d := dI ((b) + ((2 : Nat) : Int))) (xF (by omega)) ?_
        refine bS uG ?_
        refine bS zL ?_
        refine iC (fun c6=>?_) fun c6=>?_
        · replace c6 := dT c6
          exact zY rfl ⟨_, _, rfl, by omega, by omega⟩
        · replace c6 := dF c6
          refine zA rfl (vT (P := fun i7 => 1 <= i7 -> ∀ v7_2 : Int, ∃ d, (fun d => ∃ p n : Int, d = .tup [dI p, dI n] /\ 0 <= n /\ n <= 4) d /\ qG EE (qA EE) f8 1 [.leaf (.string a), dI (b), dI (v7_2), dI ((2 : Nat) : Int), dI ((i7 : Nat) : Int)] d) (2) (fun i7 ih7 => ?_) 1 (by omega) _)
          intro hn7 v7_2
          refine jA (R := (fun d => ∃ p n : Int, d = .tup [dI p, dI n] /\ 0 <= n /\ n <= 4)) ?_
          refine bS qK ?_
          refine iC (fun c8=>?_) fun c8=>?_
          · replace c8 := dT c8
            obtain ⟨w9, ew9⟩ : ∃ w : Int, IntKind.i64.wrap ((v7_2) * ((64 : Nat) : Int)) = w := ⟨_, rfl⟩
            refine bS (d := dI (w9)) (by rw [← ew9]; exact d8) ?_
            refine bS (d := dI ((b) + ((i7 : Nat) : Int))) (xF (by omega)) ?_
            obtain ⟨w10, p10, q10, ew10⟩ := hU (E := EE) (s := a) (i := ((b) + ((i7 : Nat) : Int))) (by omega) (by omega)
            refine bS ew10 ?_
            obtain ⟨w11, ew11⟩ := qAX (w10)
            refine bS ew11 ?_
            obtain ⟨w12, ew12⟩ := pY (w11)
            refine bS ew12 ?_
            obtain ⟨w13, ew13⟩ : ∃ w : Int, IntKind.i64.wrap ((w9) + (w12)) = w := ⟨_, rfl⟩
            refine bS (d := dI (w13)) (by rw [← ew13]; exact d9) ?_
            refine bS (d := dI ((i7 + 1 : Nat) : Int)) (qP (qM (by omega))) ?_
            exact zA rfl (ih7 (by omega) (by omega) _)
          · replace c8 := dF c8
            obtain ⟨_, ⟨r9, rfl⟩, k_r9⟩ := qM2 (a := dI (v7_2)) jH
            refine cS k_r9 ?_
            refine bS zZ ?_
            refine iC (fun c10=>?_) fun c10=>?_
            · clear c10
              exact zY rfl ⟨_, _, rfl, by omega, by omega⟩
            · clear c10
              obtain ⟨_, ⟨r11, rfl, hs_r11⟩, k_r11⟩ := qM1 (a := dI (v7_2)) jH
              refine cS k_r11 ?_
              refine bS (d := dI ((b) + ((2 : Nat) : Int))) (xF (by omega)) ?_
              obtain ⟨s12, hs_s12, ev12⟩ := tT (E := EE) (B := 300000000) (s := a) (i := (b)) (j := ((b) + ((2 : Nat) : Int))) (by omega) (by omega) (by omega) (by omega)
              refine bS ev12 ?_
              refine bS eC ?_
              refine iC (fun c13=>?_) fun c13=>?_
              · clear c13
                exact zY rfl ⟨_, _, rfl, by omega, by omega⟩
              · clear c13
                exact zY rfl ⟨_, _, rfl, by omega, by omega⟩
      · replace c4 := dF c4
        refine bS (d := dI ((b) + ((1 : Nat) : Int))) (xF (by omega)) ?_
        refine bS uG ?_
        refine bS zL ?_
        refine iC (fun c5=>?_) fun c5=>?_
        · replace c5 := dT c5
          exact zY rfl ⟨_, _, rfl, by omega, by omega⟩
        · replace c5 := dF c5
          refine zA rfl (vT (P := fun i6 => 1 <= i6 -> ∀ v6_2 : Int, ∃ d, (fun d => ∃ p n : Int, d = .tup [dI p, dI n] /\ 0 <= n /\ n <= 4) d /\ qG EE (qA EE) f8 1 [.leaf (.string a), dI (b), dI (v6_2), dI ((1 : Nat) : Int), dI ((i6 : Nat) : Int)] d) (1) (fun i6 ih6 => ?_) 1 (by omega) _)
          intro hn6 v6_2
          refine jA (R := (fun d => ∃ p n : Int, d = .tup [dI p, dI n] /\ 0 <= n /\ n <= 4)) ?_
          refine bS qK ?_
          refine iC (fun c7=>?_) fun c7=>?_
          · replace c7 := dT c7
            obtain ⟨w8, ew8⟩ : ∃ w : Int, IntKind.i64.wrap ((v6_2) * ((64 : Nat) : Int)) = w := ⟨_, rfl⟩
            refine bS (d := dI (w8)) (by rw [← ew8]; exact d8) ?_
            refine bS (d := dI ((b) + ((i6 : Nat) : Int))) (xF (by omega)) ?_
            obtain ⟨w9, p9, q9, ew9⟩ := hU (E := EE) (s := a) (i := ((b) + ((i6 : Nat) : Int))) (by omega) (by omega)
            refine bS ew9 ?_
            obtain ⟨w10, ew10⟩ := qAX (w9)
            refine bS ew10 ?_
            obtain ⟨w11, ew11⟩ := pY (w10)
            refine bS ew11 ?_
            obtain ⟨w12, ew12⟩ : ∃ w : Int, IntKind.i64.wrap ((w8) + (w11)) = w := ⟨_, rfl⟩
            refine bS (d := dI (w12)) (by rw [← ew12]; exact d9) ?_
            refine bS (d := dI ((i6 + 1 : Nat) : Int)) (qP (qM (by omega))) ?_
            exact zA rfl (ih6 (by omega) (by omega) _)
          · replace c7 := dF c7
            obtain ⟨_, ⟨r8, rfl⟩, k_r8⟩ := qM2 (a := dI (v6_2)) jH
            refine cS k_r8 ?_
            refine bS zZ ?_
            refine iC (fun c9=>?_) fun c9=>?_
            · clear c9
              exact zY rfl ⟨_, _, rfl, by omega, by omega⟩
            · clear c9
              obtain ⟨_, ⟨r10, rfl, hs_r10⟩, k_r10⟩ := qM1 (a := dI (v6_2)) jH
              refine cS k_r10 ?_
              refine bS (d := dI ((b) + ((1 : Nat) : Int))) (xF (by omega)) ?_
              obtain ⟨s11, hs_s11, ev11⟩ := tT (E := EE) (B := 300000000) (s := a) (i := (b)) (j := ((b) + ((1 : Nat) : Int))) (by omega) (by omega) (by omega) (by omega)
              refine bS ev11 ?_
              refine bS eC ?_
              refine iC (fun c12=>?_) fun c12=>?_
              · clear c12
                exact zY rfl ⟨_, _, rfl, by omega, by omega⟩
              · clear c12
                exact zY rfl ⟨_, _, rfl, by omega, by omega⟩
theorem qWx {a b:D} (h_a:qE 300000000 (.sl 3 1 (.int .i64)) a) (h_b:qE 300000000 (.int .i64) b) (hp:a.es.length < 300000000):∃ d,(fun d=>qE 300000000 (.sl 3 1 (.int .i64)) d/\d.es.length<=a.es.length+1) d/\qA EE 110 [a,b] d:=by
 suffices h:∃ d,(fun d=>qE 300000000 (.sl 3 1 (.int .i64)) d/\d.es.length<=a.es.length+1) d/\qG EE (qA EE) tX 0 [a,b] d by
  obtain ⟨d,hd,hg⟩:=h; exact ⟨d,hd,qUJ rfl hg⟩
 have i_a:=qC h_a
 have b_a:=qJ h_a
 obtain ⟨b,rfl⟩:=h_b
 refine jA (R:=(fun d=>qE 300000000 (.sl 3 1 (.int .i64)) d/\d.es.length<=a.es.length+1)) ?_
 refine zA rfl (vT (P:=fun i0=>i0<=a.es.length->∀ v0_2:D,qE 300000000 (.sl 3 1 (.int .i64)) v0_2->v0_2.es.length<=i0->∃ d,(fun d=>qE 300000000 (.sl 3 1 (.int .i64)) d/\d.es.length<=a.es.length+1) d/\qG EE (qA EE) tX 1 [a,dI (b),v0_2,dI ((i0:Nat):Int)] d) (a.es.length) (fun i0 ih0=>?_) 0 (by omega) .nil wZ (by simp [D.es]))
 intro hn0 v0_2 h_v0_2 z_v0_2
 have i_v0_2:=qC h_v0_2
 have b_v0_2:=qJ h_v0_2
 refine jA (R:=(fun d=>qE 300000000 (.sl 3 1 (.int .i64)) d/\d.es.length<=a.es.length+1)) ?_
 refine bS (qH i_a) ?_
 refine bS qK ?_
 refine iC (fun c1=>?_) fun c1=>?_
 ·replace c1:=dT c1
  obtain ⟨x2,e_x2⟩:=get_at (d:=a) (s:=((i0:Nat):Int)) (by omega) (by omega)
  obtain ⟨x2,rfl⟩:=(qN h_a e_x2)
  refine bS (d:=dB (true)) (qL (by omega) e_x2) ?_
  refine bS (d:=dI (x2)) (qO i_a (by omega) e_x2 rfl) ?_
  refine bS qK ?_
  refine iC (fun c3=>?_) fun c3=>?_
  ·replace c3:=dT c3
   refine bS (d:=dB (true)) (qL (by omega) e_x2) ?_
   refine bS (d:=dI (x2)) (qO i_a (by omega) e_x2 rfl) ?_
   refine bS (vY rfl) ?_
   obtain ⟨y4,ev_y4,l_y4,h_y4,n_y4⟩:=cK (E:=EE) (B:=300000000) (el:=3) (sz:=1) (xs:=[dI (x2)]) (e:=.int .i64) rfl (fU jH fT) rfl rfl
   simp only [List.length_cons,List.length_nil] at l_y4
   have i_y4:=qC h_y4
   have b_y4:=qJ h_y4
   refine bS ev_y4 ?_
   obtain ⟨y5,ev_y5,l_y5,h_y5⟩:=gY (E:=EE) (el:=3) (sz:=1) (bytes:=8) h_v0_2 h_y4 (by decide) (by omega)
   have i_y5:=qC h_y5
   have b_y5:=qJ h_y5
   refine bS ev_y5 ?_
   refine bS (d:=dI ((i0+1:Nat):Int)) (qP (qM (by omega))) ?_
   exact zA rfl (ih0 (by omega) (by omega) y5 h_y5 (by omega))
  replace c3:=dF c3
  refine bS (vY rfl) ?_
  obtain ⟨y4,ev_y4,l_y4,h_y4,n_y4⟩:=cK (E:=EE) (B:=300000000) (el:=3) (sz:=1) (xs:=[dI (b)]) (e:=.int .i64) rfl (fU jH fT) rfl rfl
  simp only [List.length_cons,List.length_nil] at l_y4
  have i_y4:=qC h_y4
  have b_y4:=qJ h_y4
  refine bS ev_y4 ?_
  obtain ⟨y5,ev_y5,l_y5,h_y5⟩:=gY (E:=EE) (el:=3) (sz:=1) (bytes:=8) h_v0_2 h_y4 (by decide) (by omega)
  have i_y5:=qC h_y5
  have b_y5:=qJ h_y5
  refine bS ev_y5 ?_
  refine bS (qH i_a) ?_
  refine bS qK ?_
  refine iC (fun c6=>?_) fun c6=>?_
  ·replace c6:=dT c6
   refine bS (d:=dB (true)) (qL (by omega) e_x2) ?_
   refine bS (d:=dI (x2)) (qO i_a (by omega) e_x2 rfl) ?_
   refine bS vX ?_
   refine iC (fun c7=>?_) fun c7=>?_
   ·replace c7:=dT c7
    refine bS (d:=dI ((i0+1:Nat):Int)) (qP (qM (by omega))) ?_
    obtain ⟨y8,ev_y8,l_y8,h_y8⟩:=qBN (E:=EE) (j:=((i0+1:Nat):Int)) h_a (by omega) (by omega)
    have i_y8:=qC h_y8
    have b_y8:=qJ h_y8
    refine bS ev_y8 ?_
    obtain ⟨y9,ev_y9,l_y9,h_y9⟩:=gY (E:=EE) (el:=3) (sz:=1) (bytes:=8) h_y5 h_y8 (by decide) (by omega)
    have i_y9:=qC h_y9
    have b_y9:=qJ h_y9
    refine bS ev_y9 ?_
    exact zY (ds:=[y9]) rfl ⟨h_y9,by show y9.es.length<=_; omega⟩
   replace c7:=dF c7
   obtain ⟨y8,ev_y8,l_y8,h_y8⟩:=qBN (E:=EE) (j:=((i0:Nat):Int)) h_a (by omega) (by omega)
   have i_y8:=qC h_y8
   have b_y8:=qJ h_y8
   refine bS ev_y8 ?_
   obtain ⟨y9,ev_y9,l_y9,h_y9⟩:=gY (E:=EE) (el:=3) (sz:=1) (bytes:=8) h_y5 h_y8 (by decide) (by omega)
   have i_y9:=qC h_y9
   have b_y9:=qJ h_y9
   refine bS ev_y9 ?_
   exact zY (ds:=[y9]) rfl ⟨h_y9,by show y9.es.length<=_; omega⟩
  replace c6:=dF c6
  obtain ⟨y7,ev_y7,l_y7,h_y7⟩:=qBN (E:=EE) (j:=((i0:Nat):Int)) h_a (by omega) (by omega)
  have i_y7:=qC h_y7
  have b_y7:=qJ h_y7
  refine bS ev_y7 ?_
  obtain ⟨y8,ev_y8,l_y8,h_y8⟩:=gY (E:=EE) (el:=3) (sz:=1) (bytes:=8) h_y5 h_y7 (by decide) (by omega)
  have i_y8:=qC h_y8
  have b_y8:=qJ h_y8
  refine bS ev_y8 ?_
  exact zY (ds:=[y8]) rfl ⟨h_y8,by show y8.es.length<=_; omega⟩
 replace c1:=dF c1
 refine bS (vY rfl) ?_
 obtain ⟨y2,ev_y2,l_y2,h_y2,n_y2⟩:=cK (E:=EE) (B:=300000000) (el:=3) (sz:=1) (xs:=[dI (b)]) (e:=.int .i64) rfl (fU jH fT) rfl rfl
 simp only [List.length_cons,List.length_nil] at l_y2
 have i_y2:=qC h_y2
 have b_y2:=qJ h_y2
 refine bS ev_y2 ?_
 obtain ⟨y3,ev_y3,l_y3,h_y3⟩:=gY (E:=EE) (el:=3) (sz:=1) (bytes:=8) h_v0_2 h_y2 (by decide) (by omega)
 have i_y3:=qC h_y3
 have b_y3:=qJ h_y3
 refine bS ev_y3 ?_
 refine bS (qH i_a) ?_
 refine bS qK ?_
 refine iC (fun c4=>?_) fun c4=>?_
 ·replace c4:=dT c4
  obtain ⟨x5,e_x5⟩:=get_at (d:=a) (s:=((i0:Nat):Int)) (by omega) (by omega)
  obtain ⟨x5,rfl⟩:=(qN h_a e_x5)
  refine bS (d:=dB (true)) (qL (by omega) e_x5) ?_
  refine bS (d:=dI (x5)) (qO i_a (by omega) e_x5 rfl) ?_
  refine bS vX ?_
  refine iC (fun c6=>?_) fun c6=>?_
  ·replace c6:=dT c6
   refine bS (d:=dI ((i0+1:Nat):Int)) (qP (qM (by omega))) ?_
   obtain ⟨y7,ev_y7,l_y7,h_y7⟩:=qBN (E:=EE) (j:=((i0+1:Nat):Int)) h_a (by omega) (by omega)
   have i_y7:=qC h_y7
   have b_y7:=qJ h_y7
   refine bS ev_y7 ?_
   obtain ⟨y8,ev_y8,l_y8,h_y8⟩:=gY (E:=EE) (el:=3) (sz:=1) (bytes:=8) h_y3 h_y7 (by decide) (by omega)
   have i_y8:=qC h_y8
   have b_y8:=qJ h_y8
   refine bS ev_y8 ?_
   exact zY (ds:=[y8]) rfl ⟨h_y8,by show y8.es.length<=_; omega⟩
  replace c6:=dF c6
  obtain ⟨y7,ev_y7,l_y7,h_y7⟩:=qBN (E:=EE) (j:=((i0:Nat):Int)) h_a (by omega) (by omega)
  have i_y7:=qC h_y7
  have b_y7:=qJ h_y7
  refine bS ev_y7 ?_
  obtain ⟨y8,ev_y8,l_y8,h_y8⟩:=gY (E:=EE) (el:=3) (sz:=1) (bytes:=8) h_y3 h_y7 (by decide) (by omega)
  have i_y8:=qC h_y8
  have b_y8:=qJ h_y8
  refine bS ev_y8 ?_
  exact zY (ds:=[y8]) rfl ⟨h_y8,by show y8.es.length<=_; omega⟩
 replace c4:=dF c4
 obtain ⟨y5,ev_y5,l_y5,h_y5⟩:=qBN (E:=EE) (j:=((i0:Nat):Int)) h_a (by omega) (by omega)
 have i_y5:=qC h_y5
 have b_y5:=qJ h_y5
 refine bS ev_y5 ?_
 obtain ⟨y6,ev_y6,l_y6,h_y6⟩:=gY (E:=EE) (el:=3) (sz:=1) (bytes:=8) h_y3 h_y5 (by decide) (by omega)
 have i_y6:=qC h_y6
 have b_y6:=qJ h_y6
 refine bS ev_y6 ?_
 exact zY (ds:=[y6]) rfl ⟨h_y6,by show y6.es.length<=_; omega⟩
theorem qZi {a b c:D} (h_a:qE 300000000 (.sl 59 8 (.st [.int .i64,.sl 3 1 (.int .i64),.int .i64,.sl 31 1 (.sl 3 1 (.int .i64)),.int .i64,.sl 79 2 (.st [.str,.str]),.sl 134 2 (.st [.int .i64,.int .i64]),.sl 182 2 (.st [.int .i64,.int .i64])])) a) (h_b:qE 300000000 (.int .i64) b) (h_c:qE 300000000 (.int .i64) c):∃ d,(qE 300000000 (.sl 3 1 (.int .i64))) d/\qA EE 71 [a,b,c] d:=by
 suffices h:∃ d,(qE 300000000 (.sl 3 1 (.int .i64))) d/\qG EE (qA EE) qBP 0 [a,b,c] d by
  obtain ⟨d,hd,hg⟩:=h; exact ⟨d,hd,qYS rfl hg⟩
 have i_a:=qC h_a
 have b_a:=qJ h_a
 obtain ⟨b,rfl⟩:=h_b
 obtain ⟨c,rfl⟩:=h_c
 refine jA (R:=(qE 300000000 (.sl 3 1 (.int .i64)))) ?_
 refine bS (qH i_a) ?_
 obtain ⟨y0,ev_y0,l_y0,h_y0⟩:=qTx (E:=EE) (B:=300000000) (el:=4) (sz:=1) (bytes:=1) (ag:=false) (z:=[(.bool false)]) (n:=((a.es.length:Nat):Int)) (e:=.bool) (by omega) (by omega) rfl (by decide) qHp
 have i_y0:=qC h_y0
 have b_y0:=qJ h_y0
 refine bS ev_y0 ?_
 refine bS (vY rfl) ?_
 obtain ⟨y1,ev_y1,l_y1,h_y1,n_y1⟩:=cK (E:=EE) (B:=300000000) (el:=3) (sz:=1) (xs:=[dI (b)]) (e:=.int .i64) rfl (fU jH fT) rfl rfl
 simp only [List.length_cons,List.length_nil] at l_y1
 have i_y1:=qC h_y1
 have b_y1:=qJ h_y1
 refine bS ev_y1 ?_
 refine zA rfl (vT (P:=fun i2=>i2<=a.es.length+1->∀ v2_2:D,qE 300000000 (.sl 4 1 (.bool)) v2_2->v2_2.es.length=a.es.length->∀ v2_3:D,qE 300000000 (.sl 3 1 (.int .i64)) v2_3->True->∃ d,(qE 300000000 (.sl 3 1 (.int .i64))) d/\qG EE (qA EE) qBP 1 [a,dI (c),v2_2,v2_3,dI ((i2:Nat):Int)] d) (a.es.length+1) (fun i2 ih2=>?_) 0 (by omega) y0 h_y0 (by omega) y1 h_y1 trivial)
 intro hn2 v2_2 h_v2_2 z_v2_2 v2_3 h_v2_3 z_v2_3
 have i_v2_2:=qC h_v2_2
 have b_v2_2:=qJ h_v2_2
 have i_v2_3:=qC h_v2_3
 have b_v2_3:=qJ h_v2_3
 refine jA (R:=(qE 300000000 (.sl 3 1 (.int .i64)))) ?_
 refine bS (qH i_a) ?_
 refine bS o7 ?_
 refine iC (fun c3=>?_) fun c3=>?_
 ·replace c3:=dT c3
  refine zA rfl (vT (P:=fun i4=>i4<=v2_3.es.length->∀ v4_2:D,qE 300000000 (.sl 4 1 (.bool)) v4_2->v4_2.es.length=a.es.length->∀ v4_5:D,qE 300000000 (.sl 3 1 (.int .i64)) v4_5->v4_5.es.length+qIZ v4_2<=a.es.length->∃ d,(qE 300000000 (.sl 3 1 (.int .i64))) d/\qG EE (qA EE) qBP 2 [a,dI (c),v4_2,v2_3,dI ((i2:Nat):Int),v4_5,dI ((i4:Nat):Int)] d) (v2_3.es.length) (fun i4 ih4=>?_) 0 (by omega) v2_2 h_v2_2 (by omega) .nil wZ (by have:=qOb v2_2; show 0+qIZ v2_2<=_; omega))
  intro hn4 v4_2 h_v4_2 z_v4_2 v4_5 h_v4_5 z_v4_5
  have i_v4_2:=qC h_v4_2
  have b_v4_2:=qJ h_v4_2
  have i_v4_5:=qC h_v4_5
  have b_v4_5:=qJ h_v4_5
  refine jA (R:=(qE 300000000 (.sl 3 1 (.int .i64)))) ?_
  refine bS (qH i_v2_3) ?_
  refine bS qK ?_
  refine iC (fun c5=>?_) fun c5=>?_
  ·replace c5:=dT c5
   obtain ⟨x6,e_x6⟩:=get_at (d:=v2_3) (s:=((i4:Nat):Int)) (by omega) (by omega)
   obtain ⟨x6,rfl⟩:=(qN h_v2_3 e_x6)
   refine bS (d:=dB (true)) (qL (by omega) e_x6) ?_
   refine bS (d:=dI (x6)) (qO i_v2_3 (by omega) e_x6 rfl) ?_
   obtain ⟨_,⟨r7,rfl,pa_r7,pb_r7⟩,k_r7⟩:=qXV (a:=a) (b:=dI (x6)) h_a jH
   refine cS k_r7 ?_
   refine zA rfl (vT (P:=fun i8=>∀ v8_2:D,qE 300000000 (.sl 4 1 (.bool)) v8_2->v8_2.es.length=a.es.length->∀ v8_5:D,qE 300000000 (.sl 3 1 (.int .i64)) v8_5->v8_5.es.length+qIZ v8_2<=a.es.length->∃ d,(qE 300000000 (.sl 3 1 (.int .i64))) d/\qG EE (qA EE) qBP 3 [a,dI (c),v8_2,v2_3,dI ((i2:Nat):Int),v8_5,dI ((i4:Nat):Int),dI (r7),dI ((i8:Nat):Int)] d) (300000000) (fun i8 ih8=>?_) 0 v4_2 h_v4_2 (by omega) v4_5 h_v4_5 (by omega))
   intro v8_2 h_v8_2 z_v8_2 v8_5 h_v8_5 z_v8_5
   have i_v8_2:=qC h_v8_2
   have b_v8_2:=qJ h_v8_2
   have i_v8_5:=qC h_v8_5
   have b_v8_5:=qJ h_v8_5
   refine jA (R:=(qE 300000000 (.sl 3 1 (.int .i64)))) ?_
   refine bS wE ?_
   refine iC (fun c9=>?_) fun c9=>?_
   ·replace c9:=dT c9
    obtain ⟨x10,e_x10⟩:=get_at (d:=a) (s:=(r7)) (by omega) (by omega)
    obtain ⟨_,rfl,_,_,rfl,⟨x10_0,rfl⟩,x10_1,_,rfl,h_x10_1,_,_,rfl,⟨x10_2,rfl⟩,x10_3,_,rfl,h_x10_3,_,_,rfl,⟨x10_4,rfl⟩,x10_5,_,rfl,h_x10_5,x10_6,_,rfl,h_x10_6,x10_7,_,rfl,h_x10_7,rfl⟩:=(qN h_a e_x10)
    have i_x10_1:=qC h_x10_1
    have b_x10_1:=qJ h_x10_1
    have i_x10_3:=qC h_x10_3
    have b_x10_3:=qJ h_x10_3
    have i_x10_5:=qC h_x10_5
    have b_x10_5:=qJ h_x10_5
    have i_x10_6:=qC h_x10_6
    have b_x10_6:=qJ h_x10_6
    have i_x10_7:=qC h_x10_7
    have b_x10_7:=qJ h_x10_7
    refine bS (d:=dB (true)) (qL (by omega) e_x10) ?_
    refine bS (d:=x10_6) (z9 (off:=6) i_a (by omega) e_x10 rfl i_x10_6.one (by decide)) ?_
    refine bS (qH i_x10_6) ?_
    refine bS qK ?_
    refine iC (fun c11=>?_) fun c11=>?_
    ·replace c11:=dT c11
     refine bS (d:=dB (true)) (qL (by omega) e_x10) ?_
     refine bS (d:=x10_6) (z9 (off:=6) i_a (by omega) e_x10 rfl i_x10_6.one (by decide)) ?_
     obtain ⟨x12,e_x12⟩:=get_at (d:=x10_6) (s:=((i8:Nat):Int)) (by omega) (by omega)
     obtain ⟨_,rfl,_,_,rfl,⟨x12_0,rfl⟩,_,_,rfl,⟨x12_1,rfl⟩,rfl⟩:=(qN h_x10_6 e_x12)
     refine bS (d:=dB (true)) (qL (by omega) e_x12) ?_
     refine bS (d:=.agg [dI (x12_0),dI (x12_1)]) (z8 i_x10_6 (by omega) e_x12 rfl) ?_
     refine bS (qI rfl) ?_
     refine bS (qB (off:=1) rfl rfl) ?_
     obtain ⟨_,⟨r13,rfl,pa_r13,pb_r13⟩,k_r13⟩:=qXV (a:=a) (b:=dI (x12_1)) h_a jH
     refine cS k_r13 ?_
     refine bS (qB (off:=0) rfl rfl) ?_
     refine bS vX ?_
     refine iC (fun c14=>?_) fun c14=>?_
     ·replace c14:=dT c14
      refine bS wE ?_
      refine iC (fun c15=>?_) fun c15=>?_
      ·replace c15:=dT c15
       obtain ⟨x16,e_x16⟩:=get_at (d:=v8_2) (s:=(r13)) (by omega) (by omega)
       obtain ⟨x16,rfl⟩:=(qN h_v8_2 e_x16)
       refine bS (d:=dB (true)) (qL (by omega) e_x16) ?_
       refine bS (d:=dB (x16)) (qO i_v8_2 (by omega) e_x16 rfl) ?_
       refine bS zZ ?_
       refine iC (fun c17=>?_) fun c17=>?_
       ·have cf:x16=false:=by
         cases x16 with
         | false=>rfl
         | true=>exact absurd c17 (by decide)
        subst cf
        refine bS (d:=dB (true)) (qL (by omega) e_x16) ?_
        obtain ⟨y18,ev_y18,l_y18,h_y18,q_y18⟩:=qMN (E:=EE) (i:=(r13)) h_v8_2 (by omega) (by omega) e_x16
        have i_y18:=qC h_y18
        have b_y18:=qJ h_y18
        refine bS ev_y18 ?_
        refine bS (qB (off:=1) rfl rfl) ?_
        refine bS (vY rfl) ?_
        obtain ⟨y19,ev_y19,l_y19,h_y19,n_y19⟩:=cK (E:=EE) (B:=300000000) (el:=3) (sz:=1) (xs:=[dI (x12_1)]) (e:=.int .i64) rfl (fU jH fT) rfl rfl
        simp only [List.length_cons,List.length_nil] at l_y19
        have i_y19:=qC h_y19
        have b_y19:=qJ h_y19
        refine bS ev_y19 ?_
        obtain ⟨qV8,ev_y20,l_y20,h_y20⟩:=gY (E:=EE) (el:=3) (sz:=1) (bytes:=8) h_v8_5 h_y19 (by decide) (by omega)
        have i_y20:=qC h_y20
        have b_y20:=qJ h_y20
        refine bS ev_y20 ?_
        refine bS (d:=dI ((i8+1:Nat):Int)) (qP (qM (by omega))) ?_
        exact zA rfl (ih8 (by omega) y18 h_y18 (by omega) qV8 h_y20 (by omega))
       clear c17
       refine bS (d:=dI ((i8+1:Nat):Int)) (qP (qM (by omega))) ?_
       exact zA rfl (ih8 (by omega) v8_2 h_v8_2 (by omega) v8_5 h_v8_5 (by omega))
      replace c15:=dF c15
      refine bS (d:=dI ((i8+1:Nat):Int)) (qP (qM (by omega))) ?_
      exact zA rfl (ih8 (by omega) v8_2 h_v8_2 (by omega) v8_5 h_v8_5 (by omega))
     replace c14:=dF c14
     refine bS (d:=dI ((i8+1:Nat):Int)) (qP (qM (by omega))) ?_
     exact zA rfl (ih8 (by omega) v8_2 h_v8_2 (by omega) v8_5 h_v8_5 (by omega))
    replace c11:=dF c11
    refine bS (d:=dI ((i4+1:Nat):Int)) (qP (qM (by omega))) ?_
    exact zA rfl (ih4 (by omega) (by omega) v8_2 h_v8_2 (by omega) v8_5 h_v8_5 (by omega))
   replace c9:=dF c9
   refine bS (d:=dI ((i4+1:Nat):Int)) (qP (qM (by omega))) ?_
   exact zA rfl (ih4 (by omega) (by omega) v8_2 h_v8_2 (by omega) v8_5 h_v8_5 (by omega))
  replace c5:=dF c5
  refine bS (d:=dI ((i2+1:Nat):Int)) (qP (qM (by omega))) ?_
  exact zA rfl (ih2 (by omega) (by omega) v4_2 h_v4_2 (by omega) v4_5 h_v4_5 trivial)
 replace c3:=dF c3
 refine zA rfl (vT (P:=fun i4=>i4<=a.es.length->∀ v4_2:D,qE 300000000 (.sl 3 1 (.int .i64)) v4_2->v4_2.es.length<=i4->∃ d,(qE 300000000 (.sl 3 1 (.int .i64))) d/\qG EE (qA EE) qBP 4 [a,v2_2,v4_2,dI ((i4:Nat):Int)] d) (a.es.length) (fun i4 ih4=>?_) 0 (by omega) .nil wZ (by simp [D.es]))
 intro hn4 v4_2 h_v4_2 z_v4_2
 have i_v4_2:=qC h_v4_2
 have b_v4_2:=qJ h_v4_2
 refine jA (R:=(qE 300000000 (.sl 3 1 (.int .i64)))) ?_
 refine bS (qH i_a) ?_
 refine bS qK ?_
 refine iC (fun c5=>?_) fun c5=>?_
 ·replace c5:=dT c5
  obtain ⟨x6,e_x6⟩:=get_at (d:=v2_2) (s:=((i4:Nat):Int)) (by omega) (by omega)
  obtain ⟨x6,rfl⟩:=(qN h_v2_2 e_x6)
  refine bS (d:=dB (true)) (qL (by omega) e_x6) ?_
  refine bS (d:=dB (x6)) (qO i_v2_2 (by omega) e_x6 rfl) ?_
  refine iC (fun c7=>?_) fun c7=>?_
  ·clear c7
   obtain ⟨x8,e_x8⟩:=get_at (d:=a) (s:=((i4:Nat):Int)) (by omega) (by omega)
   obtain ⟨_,rfl,_,_,rfl,⟨x8_0,rfl⟩,x8_1,_,rfl,h_x8_1,_,_,rfl,⟨x8_2,rfl⟩,x8_3,_,rfl,h_x8_3,_,_,rfl,⟨x8_4,rfl⟩,x8_5,_,rfl,h_x8_5,x8_6,_,rfl,h_x8_6,x8_7,_,rfl,h_x8_7,rfl⟩:=(qN h_a e_x8)
   have i_x8_1:=qC h_x8_1
   have b_x8_1:=qJ h_x8_1
   have i_x8_3:=qC h_x8_3
   have b_x8_3:=qJ h_x8_3
   have i_x8_5:=qC h_x8_5
   have b_x8_5:=qJ h_x8_5
   have i_x8_6:=qC h_x8_6
   have b_x8_6:=qJ h_x8_6
   have i_x8_7:=qC h_x8_7
   have b_x8_7:=qJ h_x8_7
   refine bS (d:=dB (true)) (qL (by omega) e_x8) ?_
   refine bS (d:=dI (x8_0)) (z9 (off:=0) i_a (by omega) e_x8 rfl rfl (by decide)) ?_
   refine bS (vY rfl) ?_
   obtain ⟨y9,ev_y9,l_y9,h_y9,n_y9⟩:=cK (E:=EE) (B:=300000000) (el:=3) (sz:=1) (xs:=[dI (x8_0)]) (e:=.int .i64) rfl (fU jH fT) rfl rfl
   simp only [List.length_cons,List.length_nil] at l_y9
   have i_y9:=qC h_y9
   have b_y9:=qJ h_y9
   refine bS ev_y9 ?_
   obtain ⟨y10,ev_y10,l_y10,h_y10⟩:=gY (E:=EE) (el:=3) (sz:=1) (bytes:=8) h_v4_2 h_y9 (by decide) (by omega)
   have i_y10:=qC h_y10
   have b_y10:=qJ h_y10
   refine bS ev_y10 ?_
   refine bS (d:=dI ((i4+1:Nat):Int)) (qP (qM (by omega))) ?_
   exact zA rfl (ih4 (by omega) (by omega) y10 h_y10 (by omega))
  clear c7
  refine bS (d:=dI ((i4+1:Nat):Int)) (qP (qM (by omega))) ?_
  exact zA rfl (ih4 (by omega) (by omega) v4_2 h_v4_2 (by omega))
 replace c5:=dF c5
 exact zY rfl h_v4_2
end Go.Proofs.YtnemldklhelbeaaGreat
namespace Go.Proofs.YtnemldklhelbeaaGreat
open Go Go.Am Go.Proofs Go.Am.Tt
theorem qFy {el sz:Nat} {e:Sh} {d:D} (h:qE 300000000 (.sl el sz e) d):f6 d=(d.es.length:Int):=by
 simp only [qE] at h
 rcases h with rfl | ⟨es,rfl,_⟩ <;> rfl
def qM9:Tt.Spec:=⟨[(.str BG),(.int .i64)],[(.int .i64),(.int .i64)],[(.z,aA 1,0),(aA 1,aA 0,-1)],[(.z,aA 3,0),(aA 3,.z,4)]⟩
def qM8:Tt.Spec:=⟨[n2,(.int .i64)],[n2],[(aA 0,.z,299999999)],[(aA 2,aA 0,1)]⟩
def qVU:Tt.Spec:=⟨[n0,(.int .i64),(.int .i64)],[n2],[],[]⟩
theorem qXb:pQ (qA EE) 109 qM9:=by
 intro ds hd hp
 simp only [qM9,vN] at hd hp
 obtain ⟨a,_,rfl,ha,b,_,rfl,hb,rfl⟩:=hd
 have q1:=hp _ List.mem_cons_self
 have q2:=hp _ (mC _ List.mem_cons_self)
 obtain ⟨_,⟨p,n,rfl,h1,h2⟩,h3⟩:=qWy (gA rfl ha) (gA rfl hb) (fun n hn=>by subst hn; have:(0:Int)<=n+0:=q1; omega) (fun s n hs hn=>by subst hs hn; have:n<=(s.size:Int) + -1:=q2; omega)
 refine ⟨[dI p,dI n],?_,fun q hq=>?_,h3⟩
 ·simp only [qM9,vN]
  exact ⟨_,_,rfl,by simp only [vG]; exact ⟨_,rfl⟩,_,_,rfl,by simp only [vG]; exact ⟨_,rfl⟩,rfl⟩
 rcases List.mem_cons.1 hq with rfl | hq
 ·show (0:Int)<=n+0; omega
 rcases List.mem_cons.1 hq with rfl | hq
 ·show n<=(0:Int)+4; omega
 cases hq
theorem qXa:pQ (qA EE) 110 qM8:=by
 intro ds hd hp
 simp only [qM8,vN] at hd hp
 obtain ⟨a,_,rfl,ha,b,_,rfl,hb,rfl⟩:=hd
 have q1:=hp _ List.mem_cons_self
 have ha':=gA rfl ha
 have hv:=qFy ha'
 obtain ⟨d,⟨h1,h2⟩,h3⟩:=qWx ha' (gA rfl hb) (by have:f6 a<=(0:Int)+299999999:=q1; omega)
 have hv':=qFy h1
 refine ⟨[d],by simp only [qM8,vN]; exact ⟨_,_,rfl,qAw rfl h1,rfl⟩,fun q hq=>?_,h3⟩
 rcases List.mem_cons.1 hq with rfl | hq
 ·show f6 d<=f6 a+1; omega
 cases hq
theorem qZA:pQ (qA EE) 71 qVU:=by
 intro ds hd _
 simp only [qVU,vN] at hd
 obtain ⟨a,_,rfl,ha,b,_,rfl,hb,c,_,rfl,hc,rfl⟩:=hd
 obtain ⟨d,h1,h2⟩:=qZi (gA rfl ha) (gA rfl hb) (gA rfl hc)
 exact ⟨[d],by simp only [qVU,vN]; exact ⟨_,_,rfl,qAw rfl h1,rfl⟩,fun q hq=>(by cases hq),h2⟩
def qM0:List (FuncId × Tt.Spec):=(109,qM9)::(110,qM8)::(71,qVU)::aQ [] qSJ
theorem qMZ:∀ p∈qM0,pQ (qA EE) p.1 p.2:=qBo qXb <| qBo qXa <| qBo qZA <| qMX
end Go.Proofs.YtnemldklhelbeaaGreat
namespace Go.Proofs.YtnemldklhelbeaaGreat
open Go Go.Am Go.Proofs Go.Am.Tt
theorem qZo:qCx EE Tryz.prog TT qM0 qSI=true:=by kernel_rfl
theorem qKg:∀ p∈aQ qM0 qSI,pQ (qA EE) p.1 p.2:=fV qLn qRR qMv qMZ qZo
end Go.Proofs.YtnemldklhelbeaaGreat
namespace Go.Proofs.YtnemldklhelbeaaGreat
open Go Go.Am Go.Proofs Go.Am.Tt
def qV5 (i:Nat):Nat:=i * 1048576
theorem qMk (i:Nat):qV5 i=i * 1048576:=rfl
attribute [local irreducible] Go.Am.wp Go.Am.TOp.eval qV5
theorem qXY {a:D} (h_a:qE 300000000 (.str) a):∃ d,qE 300000000 (.bool) d/\qA EE 59 [a] d :=
 qRG (S:=qYk.S) (kE qKg (by kernel_rfl)) rfl rfl rfl rfl (zJ h_a j0)
theorem qXW {a:D} (h_a:qE 300000000 (.str) a):∃ d,qE 300000000 (.bool) d/\qA EE 61 [a] d :=
 qRG (S:=qYi.S) (kE qKg (by kernel_rfl)) rfl rfl rfl rfl (zJ h_a j0)
theorem qZj {a b:D} (h_a:qE 300000000 (.sl 9 1 (.str)) a) (h_b:qE 300000000 (.str) b):∃ d,qE 300000000 (.bool) d/\qA EE 62 [a,b] d :=
 qRG (S:=qYh.S) (kE qKg (by kernel_rfl)) rfl rfl rfl rfl (zJ h_a (zJ h_b j0))
theorem qXX {a b c:D} (h_a:qE 300000000 (.st [.sl 71 2 (.st [.str,.int .i64])]) a) (h_b:qE 300000000 (.st [.str,.sl 73 2 (.st [.str,.sl 3 1 (.int .i64)]),.sl 74 1 (.sl 9 1 (.str))]) b) (h_c:qE 300000000 (.int .i64) c) (p0:∀ n:Int,c=dI n->0<=n) (p1:∀ cs x n,b=.agg cs->cs[1]? = some x->c=dI n->n < (x.es.length:Int)):∃ d,qE 300000000 (.int .i64) d/\qA EE 60 [a,b,c] d:=by
 obtain ⟨rs,h1,_,h2⟩:=(kE qKg (f:=60) (S:=qYj.S) (by kernel_rfl)) [a,b,c] (e8 rfl (zJ h_a (zJ h_b (zJ h_c j0)))) (by
  obtain ⟨n,rfl⟩:=h_c
  obtain ⟨_,rfl,y0,_,rfl,_,y1,_,rfl,hy,y2,_,rfl,_,rfl⟩:=h_b
  have q0:=p0 _ rfl
  have q1:=p1 _ y1 _ rfl rfl rfl
  have e1:f6 y1=(y1.es.length:Int):=by
   simp only [qE] at hy
   rcases hy with rfl | ⟨es,rfl,_⟩ <;> rfl
  intro q hq
  rcases List.mem_cons.1 hq with rfl | hq
  ·show (0:Int)<=n+0; omega
  rcases List.mem_cons.1 hq with rfl | hq
  ·show n<=f6 y1 + -1; omega
  cases hq)
 have h1:vN [.int .i64] rs:=h1
 simp only [vN] at h1
 obtain ⟨d,_,rfl,h3,rfl⟩:=h1
 exact ⟨d,gA rfl h3,h2⟩
theorem qZk {a b:D} (h_a:qE 300000000 (.st [.sl 71 2 (.st [.str,.int .i64])]) a) (h_b:qE 300000000 (.st [.str,.sl 73 2 (.st [.str,.sl 3 1 (.int .i64)]),.sl 74 1 (.sl 9 1 (.str))]) b) (hq:∀ cs,b=.agg cs->∀ x,cs[2]? = some x->∀ y∈x.es,y.es.length<=1048576):∃ d,(qE 300000000 (.int .i64)) d/\qA EE 32 [a,b] d:=by
 suffices h:∃ d,(qE 300000000 (.int .i64)) d/\qG EE (qA EE) tW 0 [a,b] d by
  obtain ⟨d,hd,hg⟩:=h; exact ⟨d,hd,u32 rfl hg⟩
 obtain ⟨_,rfl,a_0,_,rfl,h_a_0,rfl⟩:=h_a
 have i_a_0:=qC h_a_0
 have b_a_0:=qJ h_a_0
 obtain ⟨_,rfl,_,_,rfl,⟨b_0,rfl,hs_b_0⟩,b_1,_,rfl,h_b_1,b_2,_,rfl,h_b_2,rfl⟩:=h_b
 have i_b_1:=qC h_b_1
 have b_b_1:=qJ h_b_1
 have i_b_2:=qC h_b_2
 have b_b_2:=qJ h_b_2
 replace hq:=hq _ rfl _ rfl
 refine jA (R:=(qE 300000000 (.int .i64))) ?_
 refine bS (qI rfl) ?_
 refine bS (qI rfl) ?_
 refine bS (qB (off:=0) rfl rfl) ?_
 obtain ⟨_,⟨r0,rfl⟩,k_r0⟩:=qXY (a:=.leaf (.string b_0)) (iM hs_b_0)
 refine cS k_r0 ?_
 refine bS zZ ?_
 refine iC (fun c1=>?_) fun c1=>?_
 ·clear c1
  exact zY rfl jH
 clear c1
 refine bS (qB (off:=1) rfl i_b_1.one) ?_
 refine bS (qH i_b_1) ?_
 refine bS zL ?_
 refine iC (fun c2=>?_) fun c2=>?_
 ·replace c2:=dT c2
  exact zY rfl jH
 replace c2:=dF c2
 refine zA rfl (vT (P:=fun i3=>i3<=b_1.es.length->∃ d,(qE 300000000 (.int .i64)) d/\qG EE (qA EE) tW 1 [dI ((i3:Nat):Int),.agg [a_0],.agg [.leaf (.string b_0),b_1,b_2]] d) (b_1.es.length) (fun i3 ih3=>?_) 0 (by omega))
 intro hn3
 refine jA (R:=(qE 300000000 (.int .i64))) ?_
 refine bS (qB (off:=1) rfl i_b_1.one) ?_
 refine bS (qH i_b_1) ?_
 refine bS qK ?_
 refine iC (fun c4=>?_) fun c4=>?_
 ·replace c4:=dT c4
  obtain ⟨_,⟨r5,rfl⟩,k_r5⟩:=qXX (a:=.agg [a_0]) (b:=.agg [.leaf (.string b_0),b_1,b_2]) (c:=dI ((i3:Nat):Int)) (e7 (zJ h_a_0 j0)) (e7 (zJ (iM hs_b_0) (zJ h_b_1 (zJ h_b_2 j0)))) jH (by intro n hn; cases hn; omega) (by intro cs x n hcs hx hn; cases hcs; cases hx; cases hn; omega)
  refine cS k_r5 ?_
  refine bS zS ?_
  refine iC (fun c6=>?_) fun c6=>?_
  ·replace c6:=dT c6
   exact zY rfl jH
  replace c6:=dF c6
  refine bS (d:=dI ((i3+1:Nat):Int)) (qP (qM (by omega))) ?_
  exact zA rfl (ih3 (by omega) (by omega))
 replace c4:=dF c4
 refine bS (qB (off:=2) rfl i_b_2.one) ?_
 refine bS (qH i_b_2) ?_
 refine bS zL ?_
 refine iC (fun c5=>?_) fun c5=>?_
 ·replace c5:=dT c5
  exact zY rfl jH
 replace c5:=dF c5
 refine zA rfl (vT (P:=fun i6=>i6<=b_2.es.length->∀ v6_0:D,qE 300000000 (.sl 9 1 .str) v6_0->v6_0.es.length<=qV5 i6->∃ d,(qE 300000000 (.int .i64)) d/\qG EE (qA EE) tW 2 [v6_0,dI ((i6:Nat):Int),.agg [.leaf (.string b_0),b_1,b_2]] d) (b_2.es.length) (fun i6 ih6=>?_) 0 (by omega) .nil wZ (by simp [D.es]))
 intro hn6 v6_0 h_v6_0 z_v6_0
 have r_b:=qMk i6
 have s_b:=qMk (i6+1)
 have i_v6_0:=qC h_v6_0
 have b_v6_0:=qJ h_v6_0
 refine jA (R:=(qE 300000000 (.int .i64))) ?_
 refine bS (qB (off:=2) rfl i_b_2.one) ?_
 refine bS (qH i_b_2) ?_
 refine bS qK ?_
 refine iC (fun c7=>?_) fun c7=>?_
 ·replace c7:=dT c7
  refine bS (qB (off:=2) rfl i_b_2.one) ?_
  obtain ⟨x8,e_x8⟩:=get_at (d:=b_2) (s:=((i6:Nat):Int)) (by omega) (by omega)
  have bb_x8:=hq _ (List.mem_of_getElem? e_x8)
  have h_x8:=(qN h_b_2 e_x8)
  have i_x8:=qC h_x8
  have b_x8:=qJ h_x8
  refine bS (d:=dB (true)) (qL (by omega) e_x8) ?_
  refine bS (d:=x8) (qO i_b_2 (by omega) e_x8 i_x8.one) ?_
  refine bS (qH i_x8) ?_
  refine bS vX ?_
  refine iC (fun c9=>?_) fun c9=>?_
  ·replace c9:=dT c9
   exact zY rfl jH
  replace c9:=dF c9
  refine zA rfl (vT (P:=fun i10=>i10<=x8.es.length->∀ v10_0:D,qE 300000000 (.sl 9 1 .str) v10_0->v10_0.es.length<=qV5 i6+i10->∃ d,(qE 300000000 (.int .i64)) d/\qG EE (qA EE) tW 3 [v10_0,dI ((i6:Nat):Int),dI ((i10:Nat):Int),.agg [.leaf (.string b_0),b_1,b_2]] d) (x8.es.length) (fun i10 ih10=>?_) 0 (by omega) v6_0 h_v6_0 (by omega))
  intro hn10 v10_0 h_v10_0 z_v10_0
  have i_v10_0:=qC h_v10_0
  have b_v10_0:=qJ h_v10_0
  refine jA (R:=(qE 300000000 (.int .i64))) ?_
  refine bS (qB (off:=2) rfl i_b_2.one) ?_
  refine bS (d:=dB (true)) (qL (by omega) e_x8) ?_
  refine bS (d:=x8) (qO i_b_2 (by omega) e_x8 i_x8.one) ?_
  refine bS (qH i_x8) ?_
  refine bS qK ?_
  refine iC (fun c11=>?_) fun c11=>?_
  ·replace c11:=dT c11
   refine bS (qB (off:=2) rfl i_b_2.one) ?_
   refine bS (d:=dB (true)) (qL (by omega) e_x8) ?_
   refine bS (d:=x8) (qO i_b_2 (by omega) e_x8 i_x8.one) ?_
   obtain ⟨x12,e_x12⟩:=get_at (d:=x8) (s:=((i10:Nat):Int)) (by omega) (by omega)
   obtain ⟨x12,rfl,hs_x12⟩:=(qN h_x8 e_x12)
   refine bS (d:=dB (true)) (qL (by omega) e_x12) ?_
   refine bS (d:=.leaf (.string x12)) (qO i_x8 (by omega) e_x12 rfl) ?_
   obtain ⟨_,⟨r13,rfl⟩,k_r13⟩:=qXW (a:=.leaf (.string x12)) (iM hs_x12)
   refine cS k_r13 ?_
   refine bS zZ ?_
   refine iC (fun c14=>?_) fun c14=>?_
   ·clear c14
    exact zY rfl jH
   clear c14
   obtain ⟨_,⟨r15,rfl⟩,k_r15⟩:=qZj (a:=v10_0) (b:=.leaf (.string x12)) h_v10_0 (iM hs_x12)
   refine cS k_r15 ?_
   refine iC (fun c16=>?_) fun c16=>?_
   ·clear c16
    exact zY rfl jH
   clear c16
   refine bS (vY rfl) ?_
   obtain ⟨y17,ev_y17,l_y17,h_y17,n_y17⟩:=cK (E:=EE) (B:=300000000) (el:=9) (sz:=1) (xs:=[.leaf (.string x12)]) (e:=.str) rfl (fU (iM hs_x12) fT) rfl rfl
   simp only [List.length_cons,List.length_nil] at l_y17
   have i_y17:=qC h_y17
   have b_y17:=qJ h_y17
   refine bS ev_y17 ?_
   obtain ⟨y18,ev_y18,l_y18,h_y18⟩:=gY (E:=EE) (el:=9) (sz:=1) (bytes:=16) h_v10_0 h_y17 (by decide) (by omega)
   have i_y18:=qC h_y18
   have b_y18:=qJ h_y18
   refine bS ev_y18 ?_
   refine bS (d:=dI ((i10+1:Nat):Int)) (qP (qM (by omega))) ?_
   exact zA rfl (ih10 (by omega) (by omega) y18 h_y18 (by omega))
  replace c11:=dF c11
  refine bS (d:=dI ((i6+1:Nat):Int)) (qP (qM (by omega))) ?_
  exact zA rfl (ih6 (by omega) (by omega) v10_0 h_v10_0 (by omega))
 replace c7:=dF c7
 exact zY rfl jH
def qUP:Tt.Spec:=⟨[n3,(.st [(.str BG),(.sl 73 2 BG (.st [(.str BG),(.sl 3 1 1048576 (.int .i64))])),(.sl 74 1 BG (.sl 9 1 1048576 (.str BG)))])],[(.int .i64)],[],[]⟩
theorem qZB:pQ (qA EE) 32 qUP:=by
 intro ds hd _
 simp only [qUP,vN] at hd
 obtain ⟨a,_,rfl,ha,b,_,rfl,hb,rfl⟩:=hd
 obtain ⟨d,h1,h2⟩:=qZk (gA rfl ha) (gA rfl hb) (by
  intro cs hcs x hx y hy
  subst hcs
  simp only [vG,vN] at hb
  obtain ⟨_,e,_,_,rfl,_,_,_,rfl,_,l,_,rfl,hl,rfl⟩:=hb
  cases e; cases hx
  rcases hl with rfl | ⟨es,rfl,_,h⟩
  ·cases hy
  rcases h y hy with rfl | ⟨es',rfl,h',_⟩
  ·exact Nat.zero_le _
  exact h')
 exact ⟨[d],by simp only [qUP,vN]; exact ⟨_,_,rfl,qAw rfl h1,rfl⟩,fun q hq=>(by cases hq),h2⟩
def qRy:List (FuncId × Tt.Spec):=(32,qUP)::aQ qM0 qSI
theorem qMY:∀ p∈qRy,pQ (qA EE) p.1 p.2:=qBo qZB qKg
end Go.Proofs.YtnemldklhelbeaaGreat
namespace Go.Proofs.YtnemldklhelbeaaGreat
open Go Go.Am Go.Proofs Go.Am.Tt
theorem qZn:qCx EE Tryz.prog TT qRy qVu=true:=by kernel_rfl
theorem mV:∀ p∈aQ qRy qVu,pQ (qA EE) p.1 p.2:=fV qLn qRR qMv qMY qZn
end Go.Proofs.YtnemldklhelbeaaGreat
