/- Functions that always give something, by hand. Conditions: none. -/
import Derived.Test.YtminhjecpnpaeaaGreatDoorBg
import Derived.Test.YtminhjecpnpaeaaGreatDoorUv
set_option linter.unusedVariables false
set_option linter.unusedSimpArgs false
namespace Go.Proofs.YtminhjecpnpaeaaGreatDoor.Lt
open Go Go.Am Go.Proofs Go.Am.Tt
attribute [local irreducible] Go.Am.wp Go.Am.TOp.eval
theorem qCe (m:Int):∃ n:Int,TOp.eval EE (.conv 5 3) [.leaf (.int .u8 m)]=some (dI n):=⟨IntKind.i64.wrap m,by kernel_rfl⟩
theorem nZ (m:Int) {x y:Operand}:∃ n:Int,TOp.eval EE (.bin .rem 3 x y) [dI m,dI ((64:Nat):Int)]=some (dI n):=⟨m.tmod 64,by kernel_rfl⟩
theorem qOQ {a:D} (h_a:qI 300000000 (.int .i64) a):∃ d,qI 300000000 (.bool) d/\qB EE 185 [a] d :=
 qWl (S:=qXq.S) (uU qOL (by kernel_rfl)) rfl rfl rfl rfl (qF h_a j7)
theorem qOP {a:D} (h_a:qI 300000000 (.int .i64) a):∃ d,qI 300000000 (.str) d/\qB EE 186 [a] d :=
 qWl (S:=qXp.S) (uU qOL (by kernel_rfl)) rfl rfl rfl rfl (qF h_a j7)
theorem qZc {a b:D} (h_a:qI 300000000 (.sl 64 8 (.st [.int .i64,.sl 3 1 (.int .i64),.int .i64,.sl 31 1 (.sl 3 1 (.int .i64)),.int .i64,.sl 94 2 (.st [.str,.str]),.sl 66 2 (.st [.int .i64,.int .i64]),.sl 120 2 (.st [.int .i64,.int .i64])])) a) (h_b:qI 300000000 (.int .i64) b):∃ d,(∃ n:Int,d=dI n /\ -1<=n/\n < (a.es.length:Int))/\qB EE 90 [a,b] d:=by
 obtain ⟨rs,h1,hp,h2⟩:=(uU qOL (f:=90) (S:=qZo.S) (by kernel_rfl)) [a,b] (aU rfl (qF h_a (qF h_b j7))) (fun q hq=>by cases hq)
 have h1:vW [.int .i64] rs:=h1
 simp only [vW] at h1
 obtain ⟨d,_,rfl,⟨n,rfl⟩,rfl⟩:=h1
 have e1:fI a=(a.es.length:Int):=by
  simp only [qI] at h_a
  rcases h_a with rfl | ⟨es,rfl,_⟩ <;> rfl
 have q1:(0:Int)<=n+1:=hp _ List.mem_cons_self
 have q2:n<=fI a + -1:=hp _ (mC _ List.mem_cons_self)
 exact ⟨_,⟨n,rfl,by omega,by omega⟩,h2⟩
theorem qYf {a b : D} (h_a : qI 300000000 (.str) a) (h_b : qI 300000000 (.int .i64) b) (p0 : ∀ n : Int, b = dI n -> 0 <= n) (p1 : ∀ (s : ByteArray) (n : Int), a = .leaf (.string s) -> b = dI n -> n < (s.size : Int)) : ∃ d, (fun d => ∃ p n : Int, d = .tup [dI p, dI n] /\ 0 <= n /\ n <= 4) d /\ qB EE 161 [a, b] d := by
  suffices h : ∃ d, (fun d => ∃ p n : Int, d = .tup [dI p, dI n] /\ 0 <= n /\ n <= 4) d /\ qK EE (qB EE) rP 0 [a, b] d by
    obtain ⟨d, hd, hg⟩ := h; exact ⟨d, hd, qS7 rfl hg⟩
  obtain ⟨a, rfl, hs_a⟩ := h_a
  obtain ⟨b, rfl⟩ := h_b
  replace p0 := p0 _ rfl
  replace p1 := p1 _ _ rfl rfl
  refine wE (R := (fun d => ∃ p n : Int, d = .tup [dI p, dI n] /\ 0 <= n /\ n <= 4)) ?_
  obtain ⟨w0, p0, q0, ew0⟩ := s6 (E := EE) (s := a) (i := (b)) (by omega) (by omega)
  refine bS ew0 ?_
  obtain ⟨w1, ew1⟩ := qCe (w0)
  refine bS ew1 ?_
  refine bS wN ?_
  refine iC (fun c2=>?_) fun c2=>?_
  · replace c2 := dT c2
    obtain ⟨w3, ew3⟩ : ∃ w : Int, IntKind.i64.wrap ((w1) - ((240 : Nat) : Int)) = w := ⟨_, rfl⟩
    refine bS (d := dI (w3)) (by rw [← ew3]; exact qAE) ?_
    refine bS (d := dI ((b) + ((4 : Nat) : Int))) (kG (by omega)) ?_
    refine bS wW ?_
    refine bS vT ?_
    refine iC (fun c4=>?_) fun c4=>?_
    · replace c4 := dT c4
      exact vO rfl ⟨_, _, rfl, by omega, by omega⟩
    · replace c4 := dF c4
      refine vH rfl (zR (P := fun i5 => 1 <= i5 -> ∀ v5_2 : Int, ∃ d, (fun d => ∃ p n : Int, d = .tup [dI p, dI n] /\ 0 <= n /\ n <= 4) d /\ qK EE (qB EE) rP 1 [.leaf (.string a), dI (b), dI (v5_2), dI ((4 : Nat) : Int), dI ((i5 : Nat) : Int)] d) (4) (fun i5 ih5 => ?_) 1 (by omega) _)
      intro hn5 v5_2
      refine wE (R := (fun d => ∃ p n : Int, d = .tup [dI p, dI n] /\ 0 <= n /\ n <= 4)) ?_
      refine bS zE ?_
      refine iC (fun c6=>?_) fun c6=>?_
      · replace c6 := dT c6
        obtain ⟨w7, ew7⟩ : ∃ w : Int, IntKind.i64.wrap ((v5_2) * ((64 : Nat) : Int)) = w := ⟨_, rfl⟩
        refine bS (d := dI (w7)) (by rw [← ew7]; exact dY) ?_
        refine bS (d := dI ((b) + ((i5 : Nat) : Int))) (kG (by omega)) ?_
        obtain ⟨w8, p8, q8, ew8⟩ := s6 (E := EE) (s := a) (i := ((b) + ((i5 : Nat) : Int))) (by omega) (by omega)
        refine bS ew8 ?_
        obtain ⟨w9, ew9⟩ := qCe (w8)
        refine bS ew9 ?_
        obtain ⟨w10, ew10⟩ := nZ (w9)
        refine bS ew10 ?_
        obtain ⟨w11, ew11⟩ : ∃ w : Int, IntKind.i64.wrap ((w7) + (w10)) = w := ⟨_, rfl⟩
        refine bS (d := dI (w11)) (by rw [← ew11]; exact iS) ?_
        refine bS (d := dI ((i5 + 1 : Nat) : Int)) (zA (qX (by omega))) ?_
        exact vH rfl (ih5 (by omega) (by omega) _)
      · replace c6 := dF c6
        obtain ⟨_, ⟨r7, rfl⟩, k_r7⟩ := qOQ (a := dI (v5_2)) vP
        refine cS k_r7 ?_
        refine bS vV ?_
        refine iC (fun c8=>?_) fun c8=>?_
        · clear c8
          exact vO rfl ⟨_, _, rfl, by omega, by omega⟩
        · clear c8
          obtain ⟨_, ⟨r9, rfl, hs_r9⟩, k_r9⟩ := qOP (a := dI (v5_2)) vP
          refine cS k_r9 ?_
          refine bS (d := dI ((b) + ((4 : Nat) : Int))) (kG (by omega)) ?_
          obtain ⟨s10, hs_s10, ev10⟩ := qA0 (E := EE) (B := 300000000) (s := a) (i := (b)) (j := ((b) + ((4 : Nat) : Int))) (by omega) (by omega) (by omega) (by omega)
          refine bS ev10 ?_
          refine bS pZ ?_
          refine iC (fun c11=>?_) fun c11=>?_
          · clear c11
            exact vO rfl ⟨_, _, rfl, by omega, by omega⟩
          · clear c11
            exact vO rfl ⟨_, _, rfl, by omega, by omega⟩
  · replace c2 := dF c2
    refine bS wN ?_
    refine iC (fun c3=>?_) fun c3=>?_
    · replace c3 := dT c3
      obtain ⟨w4, ew4⟩ : ∃ w : Int, IntKind.i64.wrap ((w1) - ((224 : Nat) : Int)) = w := ⟨_, rfl⟩
      refine bS (d := dI (w4)) (by rw [← ew4]; exact qAE) ?_
      refine bS (d := dI ((b) + ((3 : Nat) : Int))) (kG (by omega)) ?_
      refine bS wW ?_
      refine bS vT ?_
      refine iC (fun c5=>?_) fun c5=>?_
      · replace c5 := dT c5
        exact vO rfl ⟨_, _, rfl, by omega, by omega⟩
      · replace c5 := dF c5
        refine vH rfl (zR (P := fun i6 => 1 <= i6 -> ∀ v6_2 : Int, ∃ d, (fun d => ∃ p n : Int, d = .tup [dI p, dI n] /\ 0 <= n /\ n <= 4) d /\ qK EE (qB EE) rP 1 [.leaf (.string a), dI (b), dI (v6_2), dI ((3 : Nat) : Int), dI ((i6 : Nat) : Int)] d) (3) (fun i6 ih6 => ?_) 1 (by omega) _)
        intro hn6 v6_2
        refine wE (R := (fun d => ∃ p n : Int, d = .tup [dI p, dI n] /\ 0 <= n /\ n <= 4)) ?_
        refine bS zE ?_
        refine iC (fun c7=>?_) fun c7=>?_
        · replace c7 := dT c7
          obtain ⟨w8, ew8⟩ : ∃ w : Int, IntKind.i64.wrap ((v6_2) * ((64 : Nat) : Int)) = w := ⟨_, rfl⟩
          refine bS (d := dI (w8)) (by rw [← ew8]; exact dY) ?_
          refine bS (d := dI ((b) + ((i6 : Nat) : Int))) (kG (by omega)) ?_
          obtain ⟨w9, p9, q9, ew9⟩ := s6 (E := EE) (s := a) (i := ((b) + ((i6 : Nat) : Int))) (by omega) (by omega)
          refine bS ew9 ?_
          obtain ⟨w10, ew10⟩ := qCe (w9)
          refine bS ew10 ?_
          obtain ⟨w11, ew11⟩ := nZ (w10)
          refine bS ew11 ?_
          obtain ⟨w12, ew12⟩ : ∃ w : Int, IntKind.i64.wrap ((w8) + (w11)) = w := ⟨_, rfl⟩
          refine bS (d := dI (w12)) (by rw [← ew12]; exact iS) ?_
          refine bS (d := dI ((i6 + 1 : Nat) : Int)) (zA (qX (by omega))) ?_
          exact vH rfl (ih6 (by omega) (by omega) _)
        · replace c7 := dF c7
          obtain ⟨_, ⟨r8, rfl⟩, k_r8⟩ := qOQ (a := dI (v6_2)) vP
          refine cS k_r8 ?_
          refine bS vV ?_
          refine iC (fun c9=>?_) fun c9=>?_
          · clear c9
            exact vO rfl ⟨_, _, rfl, by omega, by omega⟩
          · clear c9
            obtain ⟨_, ⟨r10, rfl, hs_r10⟩, k_r10⟩ := qOP (a := dI (v6_2)) vP
            refine cS k_r10 ?_
            refine bS (d := dI ((b) + ((3 : Nat) : Int))) (kG (by omega)) ?_
            obtain ⟨s11, hs_s11, ev11⟩ := qA0 (E := EE) (B := 300000000) (s := a) (i := (b)) (j := ((b) + ((3 : Nat) : Int))) (by omega) (by omega) (by omega) (by omega)
            refine bS ev11 ?_
            refine bS pZ ?_
            refine iC (fun c12=>?_) fun c12=>?_
            · clear c12
              exact vO rfl ⟨_, _, rfl, by omega, by omega⟩
            · clear c12
              exact vO rfl ⟨_, _, rfl, by omega, by omega⟩
    · replace c3 := dF c3
      refine bS wN ?_
      refine iC (fun c4=>?_) fun c4=>?_
      · replace c4 := dT c4
        obtain ⟨w5, ew5⟩ : ∃ w : Int, IntKind.i64.wrap ((w1) - ((192 : Nat) : Int)) = w := ⟨_, rfl⟩
        refine bS (d := dI (w5)) (by rw [← ew5]; exact qAE) ?_
        refine bS (d := dI ((b) + ((2 : Nat) : Int))) (kG (by omega)) ?_
        refine bS wW ?_
        refine bS vT ?_
        refine iC (fun c6=>?_) fun c6=>?_
        · replace c6 := dT c6
          exact vO rfl ⟨_, _, rfl, by omega, by omega⟩
        · replace c6 := dF c6
          refine vH rfl (zR (P := fun i7 => 1 <= i7 -> ∀ v7_2 : Int, ∃ d, (fun d => ∃ p n : Int, d = .tup [dI p, dI n] /\ 0 <= n /\ n <= 4) d /\ qK EE (qB EE) rP 1 [.leaf (.string a), dI (b), dI (v7_2), dI ((2 : Nat) : Int), dI ((i7 : Nat) : Int)] d) (2) (fun i7 ih7 => ?_) 1 (by omega) _)
          intro hn7 v7_2
          refine wE (R := (fun d => ∃ p n : Int, d = .tup [dI p, dI n] /\ 0 <= n /\ n <= 4)) ?_
          refine bS zE ?_
          refine iC (fun c8=>?_) fun c8=>?_
          · replace c8 := dT c8
            obtain ⟨w9, ew9⟩ : ∃ w : Int, IntKind.i64.wrap ((v7_2) * ((64 : Nat) : Int)) = w := ⟨_, rfl⟩
            refine bS (d := dI (w9)) (by rw [← ew9]; exact dY) ?_
            refine bS (d := dI ((b) + ((i7 : Nat) : Int))) (kG (by omega)) ?_
            obtain ⟨w10, p10, q10, ew10⟩ := s6 (E := EE) (s := a) (i := ((b) + ((i7 : Nat) : Int))) (by omega) (by omega)
            refine bS ew10 ?_
            obtain ⟨w11, ew11⟩ := qCe (w10)
            refine bS ew11 ?_
            obtain ⟨w12, ew12⟩ := nZ (w11)
            refine bS ew12 ?_
            obtain ⟨w13, ew13⟩ : ∃ w : Int, IntKind.i64.wrap ((w9) + (w12)) = w := ⟨_, rfl⟩
            refine bS (d := dI (w13)) (by rw [← ew13]; exact iS) ?_
            refine bS (d := dI ((i7 + 1 : Nat) : Int)) (zA (qX (by omega))) ?_
            exact vH rfl (ih7 (by omega) (by omega) _)
          · replace c8 := dF c8
            obtain ⟨_, ⟨r9, rfl⟩, k_r9⟩ := qOQ (a := dI (v7_2)) vP
            refine cS k_r9 ?_
            refine bS vV ?_
            refine iC (fun c10=>?_) fun c10=>?_
            · clear c10
              exact vO rfl ⟨_, _, rfl, by omega, by omega⟩
            · clear c10
              obtain ⟨_, ⟨r11, rfl, hs_r11⟩, k_r11⟩ := qOP (a := dI (v7_2)) vP
              refine cS k_r11 ?_
              refine bS (d := dI ((b) + ((2 : Nat) : Int))) (kG (by omega)) ?_
              obtain ⟨s12, hs_s12, ev12⟩ := qA0 (E := EE) (B := 300000000) (s := a) (i := (b)) (j := ((b) + ((2 : Nat) : Int))) (by omega) (by omega) (by omega) (by omega)
              refine bS ev12 ?_
              refine bS pZ ?_
              refine iC (fun c13=>?_) fun c13=>?_
              · clear c13
                exact vO rfl ⟨_, _, rfl, by omega, by omega⟩
              · clear c13
                exact vO rfl ⟨_, _, rfl, by omega, by omega⟩
      · replace c4 := dF c4
        refine bS (d := dI ((b) + ((1 : Nat) : Int))) (kG (by omega)) ?_
        refine bS wW ?_
        refine bS vT ?_
        refine iC (fun c5=>?_) fun c5=>?_
        · replace c5 := dT c5
          exact vO rfl ⟨_, _, rfl, by omega, by omega⟩
        · replace c5 := dF c5
          refine vH rfl (zR (P := fun i6 => 1 <= i6 -> ∀ v6_2 : Int, ∃ d, (fun d => ∃ p n : Int, d = .tup [dI p, dI n] /\ 0 <= n /\ n <= 4) d /\ qK EE (qB EE) rP 1 [.leaf (.string a), dI (b), dI (v6_2), dI ((1 : Nat) : Int), dI ((i6 : Nat) : Int)] d) (1) (fun i6 ih6 => ?_) 1 (by omega) _)
          intro hn6 v6_2
          refine wE (R := (fun d => ∃ p n : Int, d = .tup [dI p, dI n] /\ 0 <= n /\ n <= 4)) ?_
          refine bS zE ?_
          refine iC (fun c7=>?_) fun c7=>?_
          · replace c7 := dT c7
            obtain ⟨w8, ew8⟩ : ∃ w : Int, IntKind.i64.wrap ((v6_2) * ((64 : Nat) : Int)) = w := ⟨_, rfl⟩
            refine bS (d := dI (w8)) (by rw [← ew8]; exact dY) ?_
            refine bS (d := dI ((b) + ((i6 : Nat) : Int))) (kG (by omega)) ?_
            obtain ⟨w9, p9, q9, ew9⟩ := s6 (E := EE) (s := a) (i := ((b) + ((i6 : Nat) : Int))) (by omega) (by omega)
            refine bS ew9 ?_
            obtain ⟨w10, ew10⟩ := qCe (w9)
            refine bS ew10 ?_
            obtain ⟨w11, ew11⟩ := nZ (w10)
            refine bS ew11 ?_
            obtain ⟨w12, ew12⟩ : ∃ w : Int, IntKind.i64.wrap ((w8) + (w11)) = w := ⟨_, rfl⟩
            refine bS (d := dI (w12)) (by rw [← ew12]; exact iS) ?_
            refine bS (d := dI ((i6 + 1 : Nat) : Int)) (zA (qX (by omega))) ?_
            exact vH rfl (ih6 (by omega) (by omega) _)
          · replace c7 := dF c7
            obtain ⟨_, ⟨r8, rfl⟩, k_r8⟩ := qOQ (a := dI (v6_2)) vP
            refine cS k_r8 ?_
            refine bS vV ?_
            refine iC (fun c9=>?_) fun c9=>?_
            · clear c9
              exact vO rfl ⟨_, _, rfl, by omega, by omega⟩
            · clear c9
              obtain ⟨_, ⟨r10, rfl, hs_r10⟩, k_r10⟩ := qOP (a := dI (v6_2)) vP
              refine cS k_r10 ?_
              refine bS (d := dI ((b) + ((1 : Nat) : Int))) (kG (by omega)) ?_
              obtain ⟨s11, hs_s11, ev11⟩ := qA0 (E := EE) (B := 300000000) (s := a) (i := (b)) (j := ((b) + ((1 : Nat) : Int))) (by omega) (by omega) (by omega) (by omega)
              refine bS ev11 ?_
              refine bS pZ ?_
              refine iC (fun c12=>?_) fun c12=>?_
              · clear c12
                exact vO rfl ⟨_, _, rfl, by omega, by omega⟩
              · clear c12
                exact vO rfl ⟨_, _, rfl, by omega, by omega⟩
theorem qYg {a b:D} (h_a:qI 300000000 (.sl 3 1 (.int .i64)) a) (h_b:qI 300000000 (.int .i64) b) (hp:a.es.length < 300000000):∃ d,(fun d=>qI 300000000 (.sl 3 1 (.int .i64)) d/\d.es.length<=a.es.length+1) d/\qB EE 125 [a,b] d:=by
 suffices h:∃ d,(fun d=>qI 300000000 (.sl 3 1 (.int .i64)) d/\d.es.length<=a.es.length+1) d/\qK EE (qB EE) qG3 0 [a,b] d by
  obtain ⟨d,hd,hg⟩:=h; exact ⟨d,hd,qYa rfl hg⟩
 have i_a:=qD h_a
 have b_a:=qJ h_a
 obtain ⟨b,rfl⟩:=h_b
 refine wE (R:=(fun d=>qI 300000000 (.sl 3 1 (.int .i64)) d/\d.es.length<=a.es.length+1)) ?_
 refine vH rfl (zR (P:=fun i0=>i0<=a.es.length->∀ v0_2:D,qI 300000000 (.sl 3 1 (.int .i64)) v0_2->v0_2.es.length<=i0->∃ d,(fun d=>qI 300000000 (.sl 3 1 (.int .i64)) d/\d.es.length<=a.es.length+1) d/\qK EE (qB EE) qG3 1 [a,dI (b),v0_2,dI ((i0:Nat):Int)] d) (a.es.length) (fun i0 ih0=>?_) 0 (by omega) .nil gS (by simp [D.es]))
 intro hn0 v0_2 h_v0_2 z_v0_2
 have i_v0_2:=qD h_v0_2
 have b_v0_2:=qJ h_v0_2
 refine wE (R:=(fun d=>qI 300000000 (.sl 3 1 (.int .i64)) d/\d.es.length<=a.es.length+1)) ?_
 refine bS (qL i_a) ?_
 refine bS zE ?_
 refine iC (fun c1=>?_) fun c1=>?_
 ·replace c1:=dT c1
  obtain ⟨x2,e_x2⟩:=Go.Am.get_at (d:=a) (s:=((i0:Nat):Int)) (by omega) (by omega)
  obtain ⟨x2,rfl⟩:=(zH h_a e_x2)
  refine bS (d:=dB (true)) (vB (by omega) e_x2) ?_
  refine bS (d:=dI (x2)) (z6 i_a (by omega) e_x2 rfl) ?_
  refine bS zE ?_
  refine iC (fun c3=>?_) fun c3=>?_
  ·replace c3:=dT c3
   refine bS (d:=dB (true)) (vB (by omega) e_x2) ?_
   refine bS (d:=dI (x2)) (z6 i_a (by omega) e_x2 rfl) ?_
   refine bS (jM rfl) ?_
   obtain ⟨y4,ev_y4,l_y4,h_y4,n_y4⟩:=fH (E:=EE) (B:=300000000) (el:=3) (sz:=1) (xs:=[dI (x2)]) (e:=.int .i64) rfl (qCB vP qCA) rfl rfl
   simp only [List.length_cons,List.length_nil] at l_y4
   have i_y4:=qD h_y4
   have b_y4:=qJ h_y4
   refine bS ev_y4 ?_
   obtain ⟨y5,ev_y5,l_y5,h_y5⟩:=pL (E:=EE) (el:=3) (sz:=1) (bytes:=8) h_v0_2 h_y4 (by decide) (by omega)
   have i_y5:=qD h_y5
   have b_y5:=qJ h_y5
   refine bS ev_y5 ?_
   refine bS (d:=dI ((i0+1:Nat):Int)) (zA (qX (by omega))) ?_
   exact vH rfl (ih0 (by omega) (by omega) y5 h_y5 (by omega))
  replace c3:=dF c3
  refine bS (jM rfl) ?_
  obtain ⟨y4,ev_y4,l_y4,h_y4,n_y4⟩:=fH (E:=EE) (B:=300000000) (el:=3) (sz:=1) (xs:=[dI (b)]) (e:=.int .i64) rfl (qCB vP qCA) rfl rfl
  simp only [List.length_cons,List.length_nil] at l_y4
  have i_y4:=qD h_y4
  have b_y4:=qJ h_y4
  refine bS ev_y4 ?_
  obtain ⟨y5,ev_y5,l_y5,h_y5⟩:=pL (E:=EE) (el:=3) (sz:=1) (bytes:=8) h_v0_2 h_y4 (by decide) (by omega)
  have i_y5:=qD h_y5
  have b_y5:=qJ h_y5
  refine bS ev_y5 ?_
  refine bS (qL i_a) ?_
  refine bS zE ?_
  refine iC (fun c6=>?_) fun c6=>?_
  ·replace c6:=dT c6
   refine bS (d:=dB (true)) (vB (by omega) e_x2) ?_
   refine bS (d:=dI (x2)) (z6 i_a (by omega) e_x2 rfl) ?_
   refine bS yR ?_
   refine iC (fun c7=>?_) fun c7=>?_
   ·replace c7:=dT c7
    refine bS (d:=dI ((i0+1:Nat):Int)) (zA (qX (by omega))) ?_
    obtain ⟨y8,ev_y8,l_y8,h_y8⟩:=qC2 (E:=EE) (j:=((i0+1:Nat):Int)) h_a (by omega) (by omega)
    have i_y8:=qD h_y8
    have b_y8:=qJ h_y8
    refine bS ev_y8 ?_
    obtain ⟨y9,ev_y9,l_y9,h_y9⟩:=pL (E:=EE) (el:=3) (sz:=1) (bytes:=8) h_y5 h_y8 (by decide) (by omega)
    have i_y9:=qD h_y9
    have b_y9:=qJ h_y9
    refine bS ev_y9 ?_
    exact vO (ds:=[y9]) rfl ⟨h_y9,by show y9.es.length<=_; omega⟩
   replace c7:=dF c7
   obtain ⟨y8,ev_y8,l_y8,h_y8⟩:=qC2 (E:=EE) (j:=((i0:Nat):Int)) h_a (by omega) (by omega)
   have i_y8:=qD h_y8
   have b_y8:=qJ h_y8
   refine bS ev_y8 ?_
   obtain ⟨y9,ev_y9,l_y9,h_y9⟩:=pL (E:=EE) (el:=3) (sz:=1) (bytes:=8) h_y5 h_y8 (by decide) (by omega)
   have i_y9:=qD h_y9
   have b_y9:=qJ h_y9
   refine bS ev_y9 ?_
   exact vO (ds:=[y9]) rfl ⟨h_y9,by show y9.es.length<=_; omega⟩
  replace c6:=dF c6
  obtain ⟨y7,ev_y7,l_y7,h_y7⟩:=qC2 (E:=EE) (j:=((i0:Nat):Int)) h_a (by omega) (by omega)
  have i_y7:=qD h_y7
  have b_y7:=qJ h_y7
  refine bS ev_y7 ?_
  obtain ⟨y8,ev_y8,l_y8,h_y8⟩:=pL (E:=EE) (el:=3) (sz:=1) (bytes:=8) h_y5 h_y7 (by decide) (by omega)
  have i_y8:=qD h_y8
  have b_y8:=qJ h_y8
  refine bS ev_y8 ?_
  exact vO (ds:=[y8]) rfl ⟨h_y8,by show y8.es.length<=_; omega⟩
 replace c1:=dF c1
 refine bS (jM rfl) ?_
 obtain ⟨y2,ev_y2,l_y2,h_y2,n_y2⟩:=fH (E:=EE) (B:=300000000) (el:=3) (sz:=1) (xs:=[dI (b)]) (e:=.int .i64) rfl (qCB vP qCA) rfl rfl
 simp only [List.length_cons,List.length_nil] at l_y2
 have i_y2:=qD h_y2
 have b_y2:=qJ h_y2
 refine bS ev_y2 ?_
 obtain ⟨y3,ev_y3,l_y3,h_y3⟩:=pL (E:=EE) (el:=3) (sz:=1) (bytes:=8) h_v0_2 h_y2 (by decide) (by omega)
 have i_y3:=qD h_y3
 have b_y3:=qJ h_y3
 refine bS ev_y3 ?_
 refine bS (qL i_a) ?_
 refine bS zE ?_
 refine iC (fun c4=>?_) fun c4=>?_
 ·replace c4:=dT c4
  obtain ⟨x5,e_x5⟩:=Go.Am.get_at (d:=a) (s:=((i0:Nat):Int)) (by omega) (by omega)
  obtain ⟨x5,rfl⟩:=(zH h_a e_x5)
  refine bS (d:=dB (true)) (vB (by omega) e_x5) ?_
  refine bS (d:=dI (x5)) (z6 i_a (by omega) e_x5 rfl) ?_
  refine bS yR ?_
  refine iC (fun c6=>?_) fun c6=>?_
  ·replace c6:=dT c6
   refine bS (d:=dI ((i0+1:Nat):Int)) (zA (qX (by omega))) ?_
   obtain ⟨y7,ev_y7,l_y7,h_y7⟩:=qC2 (E:=EE) (j:=((i0+1:Nat):Int)) h_a (by omega) (by omega)
   have i_y7:=qD h_y7
   have b_y7:=qJ h_y7
   refine bS ev_y7 ?_
   obtain ⟨y8,ev_y8,l_y8,h_y8⟩:=pL (E:=EE) (el:=3) (sz:=1) (bytes:=8) h_y3 h_y7 (by decide) (by omega)
   have i_y8:=qD h_y8
   have b_y8:=qJ h_y8
   refine bS ev_y8 ?_
   exact vO (ds:=[y8]) rfl ⟨h_y8,by show y8.es.length<=_; omega⟩
  replace c6:=dF c6
  obtain ⟨y7,ev_y7,l_y7,h_y7⟩:=qC2 (E:=EE) (j:=((i0:Nat):Int)) h_a (by omega) (by omega)
  have i_y7:=qD h_y7
  have b_y7:=qJ h_y7
  refine bS ev_y7 ?_
  obtain ⟨y8,ev_y8,l_y8,h_y8⟩:=pL (E:=EE) (el:=3) (sz:=1) (bytes:=8) h_y3 h_y7 (by decide) (by omega)
  have i_y8:=qD h_y8
  have b_y8:=qJ h_y8
  refine bS ev_y8 ?_
  exact vO (ds:=[y8]) rfl ⟨h_y8,by show y8.es.length<=_; omega⟩
 replace c4:=dF c4
 obtain ⟨y5,ev_y5,l_y5,h_y5⟩:=qC2 (E:=EE) (j:=((i0:Nat):Int)) h_a (by omega) (by omega)
 have i_y5:=qD h_y5
 have b_y5:=qJ h_y5
 refine bS ev_y5 ?_
 obtain ⟨y6,ev_y6,l_y6,h_y6⟩:=pL (E:=EE) (el:=3) (sz:=1) (bytes:=8) h_y3 h_y5 (by decide) (by omega)
 have i_y6:=qD h_y6
 have b_y6:=qJ h_y6
 refine bS ev_y6 ?_
 exact vO (ds:=[y6]) rfl ⟨h_y6,by show y6.es.length<=_; omega⟩
theorem qZZ {a b c:D} (h_a:qI 300000000 (.sl 64 8 (.st [.int .i64,.sl 3 1 (.int .i64),.int .i64,.sl 31 1 (.sl 3 1 (.int .i64)),.int .i64,.sl 94 2 (.st [.str,.str]),.sl 66 2 (.st [.int .i64,.int .i64]),.sl 120 2 (.st [.int .i64,.int .i64])])) a) (h_b:qI 300000000 (.int .i64) b) (h_c:qI 300000000 (.int .i64) c):∃ d,(qI 300000000 (.sl 3 1 (.int .i64))) d/\qB EE 93 [a,b,c] d:=by
 suffices h:∃ d,(qI 300000000 (.sl 3 1 (.int .i64))) d/\qK EE (qB EE) qC3 0 [a,b,c] d by
  obtain ⟨d,hd,hg⟩:=h; exact ⟨d,hd,qZw rfl hg⟩
 have i_a:=qD h_a
 have b_a:=qJ h_a
 obtain ⟨b,rfl⟩:=h_b
 obtain ⟨c,rfl⟩:=h_c
 refine wE (R:=(qI 300000000 (.sl 3 1 (.int .i64)))) ?_
 refine bS (qL i_a) ?_
 obtain ⟨y0,ev_y0,l_y0,h_y0⟩:=qVg (E:=EE) (B:=300000000) (el:=4) (sz:=1) (bytes:=1) (ag:=false) (z:=[(.bool false)]) (n:=((a.es.length:Nat):Int)) (e:=.bool) (by omega) (by omega) rfl (by decide) qAP
 have i_y0:=qD h_y0
 have b_y0:=qJ h_y0
 refine bS ev_y0 ?_
 refine bS (jM rfl) ?_
 obtain ⟨y1,ev_y1,l_y1,h_y1,n_y1⟩:=fH (E:=EE) (B:=300000000) (el:=3) (sz:=1) (xs:=[dI (b)]) (e:=.int .i64) rfl (qCB vP qCA) rfl rfl
 simp only [List.length_cons,List.length_nil] at l_y1
 have i_y1:=qD h_y1
 have b_y1:=qJ h_y1
 refine bS ev_y1 ?_
 refine vH rfl (zR (P:=fun i2=>i2<=a.es.length+1->∀ v2_2:D,qI 300000000 (.sl 4 1 (.bool)) v2_2->v2_2.es.length=a.es.length->∀ v2_3:D,qI 300000000 (.sl 3 1 (.int .i64)) v2_3->True->∃ d,(qI 300000000 (.sl 3 1 (.int .i64))) d/\qK EE (qB EE) qC3 1 [a,dI (c),v2_2,v2_3,dI ((i2:Nat):Int)] d) (a.es.length+1) (fun i2 ih2=>?_) 0 (by omega) y0 h_y0 (by omega) y1 h_y1 trivial)
 intro hn2 v2_2 h_v2_2 z_v2_2 v2_3 h_v2_3 z_v2_3
 have i_v2_2:=qD h_v2_2
 have b_v2_2:=qJ h_v2_2
 have i_v2_3:=qD h_v2_3
 have b_v2_3:=qJ h_v2_3
 refine wE (R:=(qI 300000000 (.sl 3 1 (.int .i64)))) ?_
 refine bS (qL i_a) ?_
 refine bS cT ?_
 refine iC (fun c3=>?_) fun c3=>?_
 ·replace c3:=dT c3
  refine vH rfl (zR (P:=fun i4=>i4<=v2_3.es.length->∀ v4_2:D,qI 300000000 (.sl 4 1 (.bool)) v4_2->v4_2.es.length=a.es.length->∀ v4_5:D,qI 300000000 (.sl 3 1 (.int .i64)) v4_5->v4_5.es.length+qK4 v4_2<=a.es.length->∃ d,(qI 300000000 (.sl 3 1 (.int .i64))) d/\qK EE (qB EE) qC3 2 [a,dI (c),v4_2,v2_3,dI ((i2:Nat):Int),v4_5,dI ((i4:Nat):Int)] d) (v2_3.es.length) (fun i4 ih4=>?_) 0 (by omega) v2_2 h_v2_2 (by omega) .nil gS (by have:=qQA v2_2; show 0+qK4 v2_2<=_; omega))
  intro hn4 v4_2 h_v4_2 z_v4_2 v4_5 h_v4_5 z_v4_5
  have i_v4_2:=qD h_v4_2
  have b_v4_2:=qJ h_v4_2
  have i_v4_5:=qD h_v4_5
  have b_v4_5:=qJ h_v4_5
  refine wE (R:=(qI 300000000 (.sl 3 1 (.int .i64)))) ?_
  refine bS (qL i_v2_3) ?_
  refine bS zE ?_
  refine iC (fun c5=>?_) fun c5=>?_
  ·replace c5:=dT c5
   obtain ⟨x6,e_x6⟩:=Go.Am.get_at (d:=v2_3) (s:=((i4:Nat):Int)) (by omega) (by omega)
   obtain ⟨x6,rfl⟩:=(zH h_v2_3 e_x6)
   refine bS (d:=dB (true)) (vB (by omega) e_x6) ?_
   refine bS (d:=dI (x6)) (z6 i_v2_3 (by omega) e_x6 rfl) ?_
   obtain ⟨_,⟨r7,rfl,pa_r7,pb_r7⟩,k_r7⟩:=qZc (a:=a) (b:=dI (x6)) h_a vP
   refine cS k_r7 ?_
   refine vH rfl (zR (P:=fun i8=>∀ v8_2:D,qI 300000000 (.sl 4 1 (.bool)) v8_2->v8_2.es.length=a.es.length->∀ v8_5:D,qI 300000000 (.sl 3 1 (.int .i64)) v8_5->v8_5.es.length+qK4 v8_2<=a.es.length->∃ d,(qI 300000000 (.sl 3 1 (.int .i64))) d/\qK EE (qB EE) qC3 3 [a,dI (c),v8_2,v2_3,dI ((i2:Nat):Int),v8_5,dI ((i4:Nat):Int),dI (r7),dI ((i8:Nat):Int)] d) (300000000) (fun i8 ih8=>?_) 0 v4_2 h_v4_2 (by omega) v4_5 h_v4_5 (by omega))
   intro v8_2 h_v8_2 z_v8_2 v8_5 h_v8_5 z_v8_5
   have i_v8_2:=qD h_v8_2
   have b_v8_2:=qJ h_v8_2
   have i_v8_5:=qD h_v8_5
   have b_v8_5:=qJ h_v8_5
   refine wE (R:=(qI 300000000 (.sl 3 1 (.int .i64)))) ?_
   refine bS wN ?_
   refine iC (fun c9=>?_) fun c9=>?_
   ·replace c9:=dT c9
    obtain ⟨x10,e_x10⟩:=Go.Am.get_at (d:=a) (s:=(r7)) (by omega) (by omega)
    obtain ⟨_,rfl,_,_,rfl,⟨x10_0,rfl⟩,x10_1,_,rfl,h_x10_1,_,_,rfl,⟨x10_2,rfl⟩,x10_3,_,rfl,h_x10_3,_,_,rfl,⟨x10_4,rfl⟩,x10_5,_,rfl,h_x10_5,x10_6,_,rfl,h_x10_6,x10_7,_,rfl,h_x10_7,rfl⟩:=(zH h_a e_x10)
    have i_x10_1:=qD h_x10_1
    have b_x10_1:=qJ h_x10_1
    have i_x10_3:=qD h_x10_3
    have b_x10_3:=qJ h_x10_3
    have i_x10_5:=qD h_x10_5
    have b_x10_5:=qJ h_x10_5
    have i_x10_6:=qD h_x10_6
    have b_x10_6:=qJ h_x10_6
    have i_x10_7:=qD h_x10_7
    have b_x10_7:=qJ h_x10_7
    refine bS (d:=dB (true)) (vB (by omega) e_x10) ?_
    refine bS (d:=x10_6) (cU (off:=6) i_a (by omega) e_x10 rfl i_x10_6.one (by decide)) ?_
    refine bS (qL i_x10_6) ?_
    refine bS zE ?_
    refine iC (fun c11=>?_) fun c11=>?_
    ·replace c11:=dT c11
     refine bS (d:=dB (true)) (vB (by omega) e_x10) ?_
     refine bS (d:=x10_6) (cU (off:=6) i_a (by omega) e_x10 rfl i_x10_6.one (by decide)) ?_
     obtain ⟨x12,e_x12⟩:=Go.Am.get_at (d:=x10_6) (s:=((i8:Nat):Int)) (by omega) (by omega)
     obtain ⟨_,rfl,_,_,rfl,⟨x12_0,rfl⟩,_,_,rfl,⟨x12_1,rfl⟩,rfl⟩:=(zH h_x10_6 e_x12)
     refine bS (d:=dB (true)) (vB (by omega) e_x12) ?_
     refine bS (d:=.agg [dI (x12_0),dI (x12_1)]) (gL i_x10_6 (by omega) e_x12 rfl) ?_
     refine bS (qU rfl) ?_
     refine bS (qA (off:=1) rfl rfl) ?_
     obtain ⟨_,⟨r13,rfl,pa_r13,pb_r13⟩,k_r13⟩:=qZc (a:=a) (b:=dI (x12_1)) h_a vP
     refine cS k_r13 ?_
     refine bS (qA (off:=0) rfl rfl) ?_
     refine bS yR ?_
     refine iC (fun c14=>?_) fun c14=>?_
     ·replace c14:=dT c14
      refine bS wN ?_
      refine iC (fun c15=>?_) fun c15=>?_
      ·replace c15:=dT c15
       obtain ⟨x16,e_x16⟩:=Go.Am.get_at (d:=v8_2) (s:=(r13)) (by omega) (by omega)
       obtain ⟨x16,rfl⟩:=(zH h_v8_2 e_x16)
       refine bS (d:=dB (true)) (vB (by omega) e_x16) ?_
       refine bS (d:=dB (x16)) (z6 i_v8_2 (by omega) e_x16 rfl) ?_
       refine bS vV ?_
       refine iC (fun c17=>?_) fun c17=>?_
       ·have cf:x16=false:=by
         cases x16 with
         | false=>rfl
         | true=>exact absurd c17 (by decide)
        subst cf
        refine bS (d:=dB (true)) (vB (by omega) e_x16) ?_
        obtain ⟨y18,ev_y18,l_y18,h_y18,q_y18⟩:=qOD (E:=EE) (i:=(r13)) h_v8_2 (by omega) (by omega) e_x16
        have i_y18:=qD h_y18
        have b_y18:=qJ h_y18
        refine bS ev_y18 ?_
        refine bS (qA (off:=1) rfl rfl) ?_
        refine bS (jM rfl) ?_
        obtain ⟨y19,ev_y19,l_y19,h_y19,n_y19⟩:=fH (E:=EE) (B:=300000000) (el:=3) (sz:=1) (xs:=[dI (x12_1)]) (e:=.int .i64) rfl (qCB vP qCA) rfl rfl
        simp only [List.length_cons,List.length_nil] at l_y19
        have i_y19:=qD h_y19
        have b_y19:=qJ h_y19
        refine bS ev_y19 ?_
        obtain ⟨y20,ev_y20,l_y20,h_y20⟩:=pL (E:=EE) (el:=3) (sz:=1) (bytes:=8) h_v8_5 h_y19 (by decide) (by omega)
        have i_y20:=qD h_y20
        have b_y20:=qJ h_y20
        refine bS ev_y20 ?_
        refine bS (d:=dI ((i8+1:Nat):Int)) (zA (qX (by omega))) ?_
        exact vH rfl (ih8 (by omega) y18 h_y18 (by omega) y20 h_y20 (by omega))
       clear c17
       refine bS (d:=dI ((i8+1:Nat):Int)) (zA (qX (by omega))) ?_
       exact vH rfl (ih8 (by omega) v8_2 h_v8_2 (by omega) v8_5 h_v8_5 (by omega))
      replace c15:=dF c15
      refine bS (d:=dI ((i8+1:Nat):Int)) (zA (qX (by omega))) ?_
      exact vH rfl (ih8 (by omega) v8_2 h_v8_2 (by omega) v8_5 h_v8_5 (by omega))
     replace c14:=dF c14
     refine bS (d:=dI ((i8+1:Nat):Int)) (zA (qX (by omega))) ?_
     exact vH rfl (ih8 (by omega) v8_2 h_v8_2 (by omega) v8_5 h_v8_5 (by omega))
    replace c11:=dF c11
    refine bS (d:=dI ((i4+1:Nat):Int)) (zA (qX (by omega))) ?_
    exact vH rfl (ih4 (by omega) (by omega) v8_2 h_v8_2 (by omega) v8_5 h_v8_5 (by omega))
   replace c9:=dF c9
   refine bS (d:=dI ((i4+1:Nat):Int)) (zA (qX (by omega))) ?_
   exact vH rfl (ih4 (by omega) (by omega) v8_2 h_v8_2 (by omega) v8_5 h_v8_5 (by omega))
  replace c5:=dF c5
  refine bS (d:=dI ((i2+1:Nat):Int)) (zA (qX (by omega))) ?_
  exact vH rfl (ih2 (by omega) (by omega) v4_2 h_v4_2 (by omega) v4_5 h_v4_5 trivial)
 replace c3:=dF c3
 refine vH rfl (zR (P:=fun i4=>i4<=a.es.length->∀ v4_2:D,qI 300000000 (.sl 3 1 (.int .i64)) v4_2->v4_2.es.length<=i4->∃ d,(qI 300000000 (.sl 3 1 (.int .i64))) d/\qK EE (qB EE) qC3 4 [a,v2_2,v4_2,dI ((i4:Nat):Int)] d) (a.es.length) (fun i4 ih4=>?_) 0 (by omega) .nil gS (by simp [D.es]))
 intro hn4 v4_2 h_v4_2 z_v4_2
 have i_v4_2:=qD h_v4_2
 have b_v4_2:=qJ h_v4_2
 refine wE (R:=(qI 300000000 (.sl 3 1 (.int .i64)))) ?_
 refine bS (qL i_a) ?_
 refine bS zE ?_
 refine iC (fun c5=>?_) fun c5=>?_
 ·replace c5:=dT c5
  obtain ⟨x6,e_x6⟩:=Go.Am.get_at (d:=v2_2) (s:=((i4:Nat):Int)) (by omega) (by omega)
  obtain ⟨x6,rfl⟩:=(zH h_v2_2 e_x6)
  refine bS (d:=dB (true)) (vB (by omega) e_x6) ?_
  refine bS (d:=dB (x6)) (z6 i_v2_2 (by omega) e_x6 rfl) ?_
  refine iC (fun c7=>?_) fun c7=>?_
  ·clear c7
   obtain ⟨x8,e_x8⟩:=Go.Am.get_at (d:=a) (s:=((i4:Nat):Int)) (by omega) (by omega)
   obtain ⟨_,rfl,_,_,rfl,⟨x8_0,rfl⟩,x8_1,_,rfl,h_x8_1,_,_,rfl,⟨x8_2,rfl⟩,x8_3,_,rfl,h_x8_3,_,_,rfl,⟨x8_4,rfl⟩,x8_5,_,rfl,h_x8_5,x8_6,_,rfl,h_x8_6,x8_7,_,rfl,h_x8_7,rfl⟩:=(zH h_a e_x8)
   have i_x8_1:=qD h_x8_1
   have b_x8_1:=qJ h_x8_1
   have i_x8_3:=qD h_x8_3
   have b_x8_3:=qJ h_x8_3
   have i_x8_5:=qD h_x8_5
   have b_x8_5:=qJ h_x8_5
   have i_x8_6:=qD h_x8_6
   have b_x8_6:=qJ h_x8_6
   have i_x8_7:=qD h_x8_7
   have b_x8_7:=qJ h_x8_7
   refine bS (d:=dB (true)) (vB (by omega) e_x8) ?_
   refine bS (d:=dI (x8_0)) (cU (off:=0) i_a (by omega) e_x8 rfl rfl (by decide)) ?_
   refine bS (jM rfl) ?_
   obtain ⟨y9,ev_y9,l_y9,h_y9,n_y9⟩:=fH (E:=EE) (B:=300000000) (el:=3) (sz:=1) (xs:=[dI (x8_0)]) (e:=.int .i64) rfl (qCB vP qCA) rfl rfl
   simp only [List.length_cons,List.length_nil] at l_y9
   have i_y9:=qD h_y9
   have b_y9:=qJ h_y9
   refine bS ev_y9 ?_
   obtain ⟨y10,ev_y10,l_y10,h_y10⟩:=pL (E:=EE) (el:=3) (sz:=1) (bytes:=8) h_v4_2 h_y9 (by decide) (by omega)
   have i_y10:=qD h_y10
   have b_y10:=qJ h_y10
   refine bS ev_y10 ?_
   refine bS (d:=dI ((i4+1:Nat):Int)) (zA (qX (by omega))) ?_
   exact vH rfl (ih4 (by omega) (by omega) y10 h_y10 (by omega))
  clear c7
  refine bS (d:=dI ((i4+1:Nat):Int)) (zA (qX (by omega))) ?_
  exact vH rfl (ih4 (by omega) (by omega) v4_2 h_v4_2 (by omega))
 replace c5:=dF c5
 exact vO rfl h_v4_2
end Go.Proofs.YtminhjecpnpaeaaGreatDoor.Lt
namespace Go.Proofs.YtminhjecpnpaeaaGreatDoor.Lt
open Go Go.Am Go.Proofs Go.Am.Tt
theorem qMa {el sz:Nat} {e:Sh} {d:D} (h:qI 300000000 (.sl el sz e) d):fI d=(d.es.length:Int):=by
 simp only [qI] at h
 rcases h with rfl | ⟨es,rfl,_⟩ <;> rfl
def qOY:Tt.Spec:=⟨[(.str BG),(.int .i64)],[(.int .i64),(.int .i64)],[(.z,aA 1,0),(aA 1,aA 0,-1)],[(.z,aA 3,0),(aA 3,.z,4)]⟩
def qOZ:Tt.Spec:=⟨[n2,(.int .i64)],[n2],[(aA 0,.z,299999999)],[(aA 2,aA 0,1)]⟩
def qXL:Tt.Spec:=⟨[n0,(.int .i64),(.int .i64)],[n2],[],[]⟩
theorem qT2:mW (qB EE) 161 qOY:=by
 intro ds hd hp
 simp only [qOY,vW] at hd hp
 obtain ⟨a,_,rfl,ha,b,_,rfl,hb,rfl⟩:=hd
 have q1:=hp _ List.mem_cons_self
 have q2:=hp _ (mC _ List.mem_cons_self)
 obtain ⟨_,⟨p,n,rfl,h1,h2⟩,h3⟩:=qYf (oP rfl ha) (oP rfl hb) (fun n hn=>by subst hn; have:(0:Int)<=n+0:=q1; omega) (fun s n hs hn=>by subst hs hn; have:n<=(s.size:Int) + -1:=q2; omega)
 refine ⟨[dI p,dI n],?_,fun q hq=>?_,h3⟩
 ·simp only [qOY,vW]
  exact ⟨_,_,rfl,by simp only [vI]; exact ⟨_,rfl⟩,_,_,rfl,by simp only [vI]; exact ⟨_,rfl⟩,rfl⟩
 rcases List.mem_cons.1 hq with rfl | hq
 ·show (0:Int)<=n+0; omega
 rcases List.mem_cons.1 hq with rfl | hq
 ·show n<=(0:Int)+4; omega
 cases hq
theorem qYK:mW (qB EE) 125 qOZ:=by
 intro ds hd hp
 simp only [qOZ,vW] at hd hp
 obtain ⟨a,_,rfl,ha,b,_,rfl,hb,rfl⟩:=hd
 have q1:=hp _ List.mem_cons_self
 have ha':=oP rfl ha
 have hv:=qMa ha'
 obtain ⟨d,⟨h1,h2⟩,h3⟩:=qYg ha' (oP rfl hb) (by have:fI a<=(0:Int)+299999999:=q1; omega)
 have hv':=qMa h1
 refine ⟨[d],by simp only [qOZ,vW]; exact ⟨_,_,rfl,qBP rfl h1,rfl⟩,fun q hq=>?_,h3⟩
 rcases List.mem_cons.1 hq with rfl | hq
 ·show fI d<=fI a+1; omega
 cases hq
theorem zAa:mW (qB EE) 93 qXL:=by
 intro ds hd _
 simp only [qXL,vW] at hd
 obtain ⟨a,_,rfl,ha,b,_,rfl,hb,c,_,rfl,hc,rfl⟩:=hd
 obtain ⟨d,h1,h2⟩:=qZZ (oP rfl ha) (oP rfl hb) (oP rfl hc)
 exact ⟨[d],by simp only [qXL,vW]; exact ⟨_,_,rfl,qBP rfl h1,rfl⟩,fun q hq=>(by cases hq),h2⟩
def qOO:List (FuncId × Tt.Spec):=(161,qOY)::(125,qOZ)::(93,qXL)::uT [] qUs
theorem qON:∀ p∈qOO,mW (qB EE) p.1 p.2:=qCD qT2 <| qCD qYK <| qCD zAa <| qOL
end Go.Proofs.YtminhjecpnpaeaaGreatDoor.Lt
namespace Go.Proofs.YtminhjecpnpaeaaGreatDoor.Lt
open Go Go.Am Go.Proofs Go.Am.Tt
theorem qZ7:qDT EE Tryz.prog TT qOO qUr=true:=by kernel_rfl
theorem qL1:∀ p∈uT qOO qUr,mW (qB EE) p.1 p.2:=eP he qYM qOg qON qZ7
end Go.Proofs.YtminhjecpnpaeaaGreatDoor.Lt
