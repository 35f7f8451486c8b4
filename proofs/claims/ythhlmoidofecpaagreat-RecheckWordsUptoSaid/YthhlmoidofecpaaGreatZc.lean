/- The check of orthographies, by hand. Conditions: none. -/
import Derived.Test.YthhlmoidofecpaaGreatZb
set_option linter.unusedVariables false
set_option linter.unusedSimpArgs false
namespace Go.Proofs.YthhlmoidofecpaaGreat
open Go Go.Am Go.Proofs Go.Am.Tt
def qSO (i:Nat):Nat:=i * 1048576
theorem qKR (i:Nat):qSO i=i * 1048576:=rfl
attribute [local irreducible] Go.Am.wp Go.Am.TOp.eval qSO
theorem qVf {a:D} (h_a:qS 300000000 (.str) a):∃ d,qS 300000000 (.bool) d/\Holds EE 65 [a] d :=
 qRG (S:=qTG.S) (gZ qIW (by kernel_rfl)) rfl rfl rfl rfl (zU h_a xS)
theorem qVd {a:D} (h_a:qS 300000000 (.str) a):∃ d,qS 300000000 (.bool) d/\Holds EE 67 [a] d :=
 qRG (S:=qUG.S) (gZ qIW (by kernel_rfl)) rfl rfl rfl rfl (zU h_a xS)
theorem qVc {a b:D} (h_a:qS 300000000 (.sl 9 1 (.str)) a) (h_b:qS 300000000 (.str) b):∃ d,qS 300000000 (.bool) d/\Holds EE 68 [a,b] d :=
 qRG (S:=qUF.S) (gZ qIW (by kernel_rfl)) rfl rfl rfl rfl (zU h_a (zU h_b xS))
theorem qVe {a b c:D} (h_a:qS 300000000 (.st [.sl 64 2 (.st [.str,.int .i64])]) a) (h_b:qS 300000000 (.st [.str,.sl 66 2 (.st [.str,.sl 3 1 (.int .i64)]),.sl 145 1 (.sl 9 1 (.str))]) b) (h_c:qS 300000000 (.int .i64) c) (p0:∀ n:Int,c=dI n->0<=n) (p1:∀ cs x n,b=.agg cs->cs[1]? = some x->c=dI n->n < (x.es.length:Int)):∃ d,qS 300000000 (.int .i64) d/\Holds EE 66 [a,b,c] d:=by
 obtain ⟨rs,h1,_,h2⟩:=(gZ qIW (f:=66) (S:=qUH.S) (by kernel_rfl)) [a,b,c] (d6 rfl (zU h_a (zU h_b (zU h_c xS)))) (by
  obtain ⟨n,rfl⟩:=h_c
  obtain ⟨_,rfl,y0,_,rfl,_,y1,_,rfl,hy,y2,_,rfl,_,rfl⟩:=h_b
  have q0:=p0 _ rfl
  have q1:=p1 _ y1 _ rfl rfl rfl
  have e1:cU y1=(y1.es.length:Int):=by
   simp only [qS] at hy
   rcases hy with rfl | ⟨es,rfl,_⟩ <;> rfl
  intro q hq
  rcases List.mem_cons.1 hq with rfl | hq
  ·show (0:Int)<=n+0; omega
  rcases List.mem_cons.1 hq with rfl | hq
  ·show n<=cU y1 + -1; omega
  cases hq)
 have h1:zZ [.int .i64] rs:=h1
 simp only [zZ] at h1
 obtain ⟨d,_,rfl,h3,rfl⟩:=h1
 exact ⟨d,yA rfl h3,h2⟩
theorem qVg {a b:D} (h_a:qS 300000000 (.st [.sl 64 2 (.st [.str,.int .i64])]) a) (h_b:qS 300000000 (.st [.str,.sl 66 2 (.st [.str,.sl 3 1 (.int .i64)]),.sl 145 1 (.sl 9 1 (.str))]) b) (hq:∀ cs,b=.agg cs->∀ x,cs[2]? = some x->∀ y∈x.es,y.es.length<=1048576):∃ d,(qS 300000000 (.int .i64)) d/\Holds EE 42 [a,b] d:=by
 suffices h:∃ d,(qS 300000000 (.int .i64)) d/\qH EE (Holds EE) qCX 0 [a,b] d by
  obtain ⟨d,hd,hg⟩:=h; exact ⟨d,hd,qUY rfl hg⟩
 obtain ⟨_,rfl,a_0,_,rfl,h_a_0,rfl⟩:=h_a
 have i_a_0:=qL h_a_0
 have b_a_0:=qX h_a_0
 obtain ⟨_,rfl,_,_,rfl,⟨b_0,rfl,hs_b_0⟩,b_1,_,rfl,h_b_1,b_2,_,rfl,h_b_2,rfl⟩:=h_b
 have i_b_1:=qL h_b_1
 have b_b_1:=qX h_b_1
 have i_b_2:=qL h_b_2
 have b_b_2:=qX h_b_2
 replace hq:=hq _ rfl _ rfl
 refine jK (R:=(qS 300000000 (.int .i64))) ?_
 refine bS (qI rfl) ?_
 refine bS (qI rfl) ?_
 refine bS (qA (off:=0) rfl rfl) ?_
 obtain ⟨_,⟨r0,rfl⟩,k_r0⟩:=qVf (a:=.leaf (.string b_0)) (nS hs_b_0)
 refine cS k_r0 ?_
 refine bS v6 ?_
 refine iC (fun c1=>?_) fun c1=>?_
 ·clear c1
  exact vJ rfl vK
 clear c1
 refine bS (qA (off:=1) rfl i_b_1.one) ?_
 refine bS (qQ i_b_1) ?_
 refine bS vQ ?_
 refine iC (fun c2=>?_) fun c2=>?_
 ·replace c2:=dT c2
  exact vJ rfl vK
 replace c2:=dF c2
 refine zK rfl (vI (P:=fun i3=>i3<=b_1.es.length->∃ d,(qS 300000000 (.int .i64)) d/\qH EE (Holds EE) qCX 1 [dI ((i3:Nat):Int),.agg [a_0],.agg [.leaf (.string b_0),b_1,b_2]] d) (b_1.es.length) (fun i3 ih3=>?_) 0 (by omega))
 intro hn3
 refine jK (R:=(qS 300000000 (.int .i64))) ?_
 refine bS (qA (off:=1) rfl i_b_1.one) ?_
 refine bS (qQ i_b_1) ?_
 refine bS qJ ?_
 refine iC (fun c4=>?_) fun c4=>?_
 ·replace c4:=dT c4
  obtain ⟨_,⟨r5,rfl⟩,k_r5⟩:=qVe (a:=.agg [a_0]) (b:=.agg [.leaf (.string b_0),b_1,b_2]) (c:=dI ((i3:Nat):Int)) (qBv (zU h_a_0 xS)) (qBv (zU (nS hs_b_0) (zU h_b_1 (zU h_b_2 xS)))) vK (by intro n hn; cases hn; omega) (by intro cs x n hcs hx hn; cases hcs; cases hx; cases hn; omega)
  refine cS k_r5 ?_
  refine bS zR ?_
  refine iC (fun c6=>?_) fun c6=>?_
  ·replace c6:=dT c6
   exact vJ rfl vK
  replace c6:=dF c6
  refine bS (d:=dI ((i3+1:Nat):Int)) (qT (qO (by omega))) ?_
  exact zK rfl (ih3 (by omega) (by omega))
 replace c4:=dF c4
 refine bS (qA (off:=2) rfl i_b_2.one) ?_
 refine bS (qQ i_b_2) ?_
 refine bS vQ ?_
 refine iC (fun c5=>?_) fun c5=>?_
 ·replace c5:=dT c5
  exact vJ rfl vK
 replace c5:=dF c5
 refine zK rfl (vI (P:=fun i6=>i6<=b_2.es.length->∀ v6_0:D,qS 300000000 (.sl 9 1 .str) v6_0->v6_0.es.length<=qSO i6->∃ d,(qS 300000000 (.int .i64)) d/\qH EE (Holds EE) qCX 2 [v6_0,dI ((i6:Nat):Int),.agg [.leaf (.string b_0),b_1,b_2]] d) (b_2.es.length) (fun i6 ih6=>?_) 0 (by omega) .nil b8 (by simp [D.es]))
 intro hn6 v6_0 h_v6_0 z_v6_0
 have r_b:=qKR i6
 have s_b:=qKR (i6+1)
 have i_v6_0:=qL h_v6_0
 have b_v6_0:=qX h_v6_0
 refine jK (R:=(qS 300000000 (.int .i64))) ?_
 refine bS (qA (off:=2) rfl i_b_2.one) ?_
 refine bS (qQ i_b_2) ?_
 refine bS qJ ?_
 refine iC (fun c7=>?_) fun c7=>?_
 ·replace c7:=dT c7
  refine bS (qA (off:=2) rfl i_b_2.one) ?_
  obtain ⟨x8,e_x8⟩:=gQ (d:=b_2) (s:=((i6:Nat):Int)) (by omega) (by omega)
  have bb_x8:=hq _ (List.mem_of_getElem? e_x8)
  have h_x8:=(jQ h_b_2 e_x8)
  have i_x8:=qL h_x8
  have b_x8:=qX h_x8
  refine bS (d:=dB (true)) (qP (by omega) e_x8) ?_
  refine bS (d:=x8) (jE i_b_2 (by omega) e_x8 i_x8.one) ?_
  refine bS (qQ i_x8) ?_
  refine bS zJ ?_
  refine iC (fun c9=>?_) fun c9=>?_
  ·replace c9:=dT c9
   exact vJ rfl vK
  replace c9:=dF c9
  refine zK rfl (vI (P:=fun i10=>i10<=x8.es.length->∀ v10_0:D,qS 300000000 (.sl 9 1 .str) v10_0->v10_0.es.length<=qSO i6+i10->∃ d,(qS 300000000 (.int .i64)) d/\qH EE (Holds EE) qCX 3 [v10_0,dI ((i6:Nat):Int),dI ((i10:Nat):Int),.agg [.leaf (.string b_0),b_1,b_2]] d) (x8.es.length) (fun i10 ih10=>?_) 0 (by omega) v6_0 h_v6_0 (by omega))
  intro hn10 v10_0 h_v10_0 z_v10_0
  have i_v10_0:=qL h_v10_0
  have b_v10_0:=qX h_v10_0
  refine jK (R:=(qS 300000000 (.int .i64))) ?_
  refine bS (qA (off:=2) rfl i_b_2.one) ?_
  refine bS (d:=dB (true)) (qP (by omega) e_x8) ?_
  refine bS (d:=x8) (jE i_b_2 (by omega) e_x8 i_x8.one) ?_
  refine bS (qQ i_x8) ?_
  refine bS qJ ?_
  refine iC (fun c11=>?_) fun c11=>?_
  ·replace c11:=dT c11
   refine bS (qA (off:=2) rfl i_b_2.one) ?_
   refine bS (d:=dB (true)) (qP (by omega) e_x8) ?_
   refine bS (d:=x8) (jE i_b_2 (by omega) e_x8 i_x8.one) ?_
   obtain ⟨x12,e_x12⟩:=gQ (d:=x8) (s:=((i10:Nat):Int)) (by omega) (by omega)
   obtain ⟨x12,rfl,hs_x12⟩:=(jQ h_x8 e_x12)
   refine bS (d:=dB (true)) (qP (by omega) e_x12) ?_
   refine bS (d:=.leaf (.string x12)) (jE i_x8 (by omega) e_x12 rfl) ?_
   obtain ⟨_,⟨r13,rfl⟩,k_r13⟩:=qVd (a:=.leaf (.string x12)) (nS hs_x12)
   refine cS k_r13 ?_
   refine bS v6 ?_
   refine iC (fun c14=>?_) fun c14=>?_
   ·clear c14
    exact vJ rfl vK
   clear c14
   obtain ⟨_,⟨r15,rfl⟩,k_r15⟩:=qVc (a:=v10_0) (b:=.leaf (.string x12)) h_v10_0 (nS hs_x12)
   refine cS k_r15 ?_
   refine iC (fun c16=>?_) fun c16=>?_
   ·clear c16
    exact vJ rfl vK
   clear c16
   refine bS (wN rfl) ?_
   obtain ⟨y17,ev_y17,l_y17,h_y17,n_y17⟩:=bJ (E:=EE) (B:=300000000) (el:=9) (sz:=1) (xs:=[.leaf (.string x12)]) (e:=.str) rfl (qAG (nS hs_x12) qAF) rfl rfl
   simp only [List.length_cons,List.length_nil] at l_y17
   have i_y17:=qL h_y17
   have b_y17:=qX h_y17
   refine bS ev_y17 ?_
   obtain ⟨y18,ev_y18,l_y18,h_y18⟩:=gN (E:=EE) (el:=9) (sz:=1) (bytes:=16) h_v10_0 h_y17 (by decide) (by omega)
   have i_y18:=qL h_y18
   have b_y18:=qX h_y18
   refine bS ev_y18 ?_
   refine bS (d:=dI ((i10+1:Nat):Int)) (qT (qO (by omega))) ?_
   exact zK rfl (ih10 (by omega) (by omega) y18 h_y18 (by omega))
  replace c11:=dF c11
  refine bS (d:=dI ((i6+1:Nat):Int)) (qT (qO (by omega))) ?_
  exact zK rfl (ih6 (by omega) (by omega) v10_0 h_v10_0 (by omega))
 replace c7:=dF c7
 exact vJ rfl vK
def qSG:Tt.Spec:=⟨[n3,(.st [(.str BG),(.sl 66 2 BG (.st [(.str BG),(.sl 3 1 1048576 (.int .i64))])),(.sl 145 1 BG (.sl 9 1 1048576 (.str BG)))])],[(.int .i64)],[],[]⟩
theorem qVq:gX (Holds EE) 42 qSG:=by
 intro ds hd _
 simp only [qSG,zZ] at hd
 obtain ⟨a,_,rfl,ha,b,_,rfl,hb,rfl⟩:=hd
 obtain ⟨d,h1,h2⟩:=qVg (yA rfl ha) (yA rfl hb) (by
  intro cs hcs x hx y hy
  subst hcs
  simp only [vA,zZ] at hb
  obtain ⟨_,e,_,_,rfl,_,_,_,rfl,_,l,_,rfl,hl,rfl⟩:=hb
  cases e; cases hx
  rcases hl with rfl | ⟨es,rfl,_,h⟩
  ·cases hy
  rcases h y hy with rfl | ⟨es',rfl,h',_⟩
  ·exact Nat.zero_le _
  exact h')
 exact ⟨[d],by simp only [qSG,zZ]; exact ⟨_,_,rfl,cB rfl h1,rfl⟩,fun q hq=>(by cases hq),h2⟩
def qO0:List (FuncId × Tt.Spec):=(42,qSG)::iL qLz qP4
theorem qLx:∀ p∈qO0,gX (Holds EE) p.1 p.2:=iG qVq qIW
end Go.Proofs.YthhlmoidofecpaaGreat
namespace Go.Proofs.YthhlmoidofecpaaGreat
open Go Go.Am Go.Proofs Go.Am.Tt
theorem qVh:qAH EE Tryz.prog TT qO0 qSe=true:=by kernel_rfl
theorem iM:∀ p∈iL qO0 qSe,gX (Holds EE) p.1 p.2:=lC qHP qLL qED qLx qVh
theorem qR0:gX (Holds EE) 12 qUI.S:=gZ iM (by kernel_rfl)
end Go.Proofs.YthhlmoidofecpaaGreat
