/- The check of orthographies, by hand. Conditions: none. -/
import Derived.Test.YtminhjecpnpaeaaGreatDoorBh
set_option linter.unusedVariables false
set_option linter.unusedSimpArgs false
namespace Go.Proofs.YtminhjecpnpaeaaGreatDoor.Lt
open Go Go.Am Go.Proofs Go.Am.Tt
def qXT (i:Nat):Nat:=i * 1048576
theorem qN8 (i:Nat):qXT i=i * 1048576:=rfl
attribute [local irreducible] Go.Am.wp Go.Am.TOp.eval qXT
theorem qZ2 {a:D} (h_a:qI 300000000 (.str) a):∃ d,qI 300000000 (.bool) d/\qB EE 82 [a] d :=
 qWl (S:=qZs.S) (uU qL1 (by kernel_rfl)) rfl rfl rfl rfl (qF h_a j7)
theorem qZ1 {a:D} (h_a:qI 300000000 (.str) a):∃ d,qI 300000000 (.bool) d/\qB EE 84 [a] d :=
 qWl (S:=qZq.S) (uU qL1 (by kernel_rfl)) rfl rfl rfl rfl (qF h_a j7)
theorem qZ0 {a b:D} (h_a:qI 300000000 (.sl 9 1 (.str)) a) (h_b:qI 300000000 (.str) b):∃ d,qI 300000000 (.bool) d/\qB EE 85 [a,b] d :=
 qWl (S:=qZp.S) (uU qL1 (by kernel_rfl)) rfl rfl rfl rfl (qF h_a (qF h_b j7))
theorem qYd {a b c:D} (h_a:qI 300000000 (.st [.sl 81 2 (.st [.str,.int .i64])]) a) (h_b:qI 300000000 (.st [.str,.sl 77 2 (.st [.str,.sl 3 1 (.int .i64)]),.sl 50 1 (.sl 9 1 (.str))]) b) (h_c:qI 300000000 (.int .i64) c) (p0:∀ n:Int,c=dI n->0<=n) (p1:∀ cs x n,b=.agg cs->cs[1]? = some x->c=dI n->n < (x.es.length:Int)):∃ d,qI 300000000 (.int .i64) d/\qB EE 83 [a,b,c] d:=by
 obtain ⟨rs,h1,_,h2⟩:=(uU qL1 (f:=83) (S:=qZr.S) (by kernel_rfl)) [a,b,c] (aU rfl (qF h_a (qF h_b (qF h_c j7)))) (by
  obtain ⟨n,rfl⟩:=h_c
  obtain ⟨_,rfl,y0,_,rfl,_,y1,_,rfl,hy,y2,_,rfl,_,rfl⟩:=h_b
  have q0:=p0 _ rfl
  have q1:=p1 _ y1 _ rfl rfl rfl
  have e1:fI y1=(y1.es.length:Int):=by
   simp only [qI] at hy
   rcases hy with rfl | ⟨es,rfl,_⟩ <;> rfl
  intro q hq
  rcases List.mem_cons.1 hq with rfl | hq
  ·show (0:Int)<=n+0; omega
  rcases List.mem_cons.1 hq with rfl | hq
  ·show n<=fI y1 + -1; omega
  cases hq)
 have h1:vW [.int .i64] rs:=h1
 simp only [vW] at h1
 obtain ⟨d,_,rfl,h3,rfl⟩:=h1
 exact ⟨d,oP rfl h3,h2⟩
theorem qYe {a b:D} (h_a:qI 300000000 (.st [.sl 81 2 (.st [.str,.int .i64])]) a) (h_b:qI 300000000 (.st [.str,.sl 77 2 (.st [.str,.sl 3 1 (.int .i64)]),.sl 50 1 (.sl 9 1 (.str))]) b) (hq:∀ cs,b=.agg cs->∀ x,cs[2]? = some x->∀ y∈x.es,y.es.length<=1048576):∃ d,(qI 300000000 (.int .i64)) d/\qB EE 44 [a,b] d:=by
 suffices h:∃ d,(qI 300000000 (.int .i64)) d/\qK EE (qB EE) cN 0 [a,b] d by
  obtain ⟨d,hd,hg⟩:=h; exact ⟨d,hd,qXY rfl hg⟩
 obtain ⟨_,rfl,a_0,_,rfl,h_a_0,rfl⟩:=h_a
 have i_a_0:=qD h_a_0
 have b_a_0:=qJ h_a_0
 obtain ⟨_,rfl,_,_,rfl,⟨b_0,rfl,hs_b_0⟩,b_1,_,rfl,h_b_1,b_2,_,rfl,h_b_2,rfl⟩:=h_b
 have i_b_1:=qD h_b_1
 have b_b_1:=qJ h_b_1
 have i_b_2:=qD h_b_2
 have b_b_2:=qJ h_b_2
 replace hq:=hq _ rfl _ rfl
 refine wE (R:=(qI 300000000 (.int .i64))) ?_
 refine bS (qU rfl) ?_
 refine bS (qU rfl) ?_
 refine bS (qA (off:=0) rfl rfl) ?_
 obtain ⟨_,⟨r0,rfl⟩,k_r0⟩:=qZ2 (a:=.leaf (.string b_0)) (mR hs_b_0)
 refine cS k_r0 ?_
 refine bS vV ?_
 refine iC (fun c1=>?_) fun c1=>?_
 ·clear c1
  exact vO rfl vP
 clear c1
 refine bS (qA (off:=1) rfl i_b_1.one) ?_
 refine bS (qL i_b_1) ?_
 refine bS vT ?_
 refine iC (fun c2=>?_) fun c2=>?_
 ·replace c2:=dT c2
  exact vO rfl vP
 replace c2:=dF c2
 refine vH rfl (zR (P:=fun i3=>i3<=b_1.es.length->∃ d,(qI 300000000 (.int .i64)) d/\qK EE (qB EE) cN 1 [dI ((i3:Nat):Int),.agg [a_0],.agg [.leaf (.string b_0),b_1,b_2]] d) (b_1.es.length) (fun i3 ih3=>?_) 0 (by omega))
 intro hn3
 refine wE (R:=(qI 300000000 (.int .i64))) ?_
 refine bS (qA (off:=1) rfl i_b_1.one) ?_
 refine bS (qL i_b_1) ?_
 refine bS zE ?_
 refine iC (fun c4=>?_) fun c4=>?_
 ·replace c4:=dT c4
  obtain ⟨_,⟨r5,rfl⟩,k_r5⟩:=qYd (a:=.agg [a_0]) (b:=.agg [.leaf (.string b_0),b_1,b_2]) (c:=dI ((i3:Nat):Int)) (dJ (qF h_a_0 j7)) (dJ (qF (mR hs_b_0) (qF h_b_1 (qF h_b_2 j7)))) vP (by intro n hn; cases hn; omega) (by intro cs x n hcs hx hn; cases hcs; cases hx; cases hn; omega)
  refine cS k_r5 ?_
  refine bS wM ?_
  refine iC (fun c6=>?_) fun c6=>?_
  ·replace c6:=dT c6
   exact vO rfl vP
  replace c6:=dF c6
  refine bS (d:=dI ((i3+1:Nat):Int)) (zA (qX (by omega))) ?_
  exact vH rfl (ih3 (by omega) (by omega))
 replace c4:=dF c4
 refine bS (qA (off:=2) rfl i_b_2.one) ?_
 refine bS (qL i_b_2) ?_
 refine bS vT ?_
 refine iC (fun c5=>?_) fun c5=>?_
 ·replace c5:=dT c5
  exact vO rfl vP
 replace c5:=dF c5
 refine vH rfl (zR (P:=fun i6=>i6<=b_2.es.length->∀ v6_0:D,qI 300000000 (.sl 9 1 .str) v6_0->v6_0.es.length<=qXT i6->∃ d,(qI 300000000 (.int .i64)) d/\qK EE (qB EE) cN 2 [v6_0,dI ((i6:Nat):Int),.agg [.leaf (.string b_0),b_1,b_2]] d) (b_2.es.length) (fun i6 ih6=>?_) 0 (by omega) .nil gS (by simp [D.es]))
 intro hn6 v6_0 h_v6_0 z_v6_0
 have r_b:=qN8 i6
 have s_b:=qN8 (i6+1)
 have i_v6_0:=qD h_v6_0
 have b_v6_0:=qJ h_v6_0
 refine wE (R:=(qI 300000000 (.int .i64))) ?_
 refine bS (qA (off:=2) rfl i_b_2.one) ?_
 refine bS (qL i_b_2) ?_
 refine bS zE ?_
 refine iC (fun c7=>?_) fun c7=>?_
 ·replace c7:=dT c7
  refine bS (qA (off:=2) rfl i_b_2.one) ?_
  obtain ⟨x8,e_x8⟩:=Go.Am.get_at (d:=b_2) (s:=((i6:Nat):Int)) (by omega) (by omega)
  have bb_x8:=hq _ (List.mem_of_getElem? e_x8)
  have h_x8:=(zH h_b_2 e_x8)
  have i_x8:=qD h_x8
  have b_x8:=qJ h_x8
  refine bS (d:=dB (true)) (vB (by omega) e_x8) ?_
  refine bS (d:=x8) (z6 i_b_2 (by omega) e_x8 i_x8.one) ?_
  refine bS (qL i_x8) ?_
  refine bS yR ?_
  refine iC (fun c9=>?_) fun c9=>?_
  ·replace c9:=dT c9
   exact vO rfl vP
  replace c9:=dF c9
  refine vH rfl (zR (P:=fun i10=>i10<=x8.es.length->∀ v10_0:D,qI 300000000 (.sl 9 1 .str) v10_0->v10_0.es.length<=qXT i6+i10->∃ d,(qI 300000000 (.int .i64)) d/\qK EE (qB EE) cN 3 [v10_0,dI ((i6:Nat):Int),dI ((i10:Nat):Int),.agg [.leaf (.string b_0),b_1,b_2]] d) (x8.es.length) (fun i10 ih10=>?_) 0 (by omega) v6_0 h_v6_0 (by omega))
  intro hn10 v10_0 h_v10_0 z_v10_0
  have i_v10_0:=qD h_v10_0
  have b_v10_0:=qJ h_v10_0
  refine wE (R:=(qI 300000000 (.int .i64))) ?_
  refine bS (qA (off:=2) rfl i_b_2.one) ?_
  refine bS (d:=dB (true)) (vB (by omega) e_x8) ?_
  refine bS (d:=x8) (z6 i_b_2 (by omega) e_x8 i_x8.one) ?_
  refine bS (qL i_x8) ?_
  refine bS zE ?_
  refine iC (fun c11=>?_) fun c11=>?_
  ·replace c11:=dT c11
   refine bS (qA (off:=2) rfl i_b_2.one) ?_
   refine bS (d:=dB (true)) (vB (by omega) e_x8) ?_
   refine bS (d:=x8) (z6 i_b_2 (by omega) e_x8 i_x8.one) ?_
   obtain ⟨x12,e_x12⟩:=Go.Am.get_at (d:=x8) (s:=((i10:Nat):Int)) (by omega) (by omega)
   obtain ⟨x12,rfl,hs_x12⟩:=(zH h_x8 e_x12)
   refine bS (d:=dB (true)) (vB (by omega) e_x12) ?_
   refine bS (d:=.leaf (.string x12)) (z6 i_x8 (by omega) e_x12 rfl) ?_
   obtain ⟨_,⟨r13,rfl⟩,k_r13⟩:=qZ1 (a:=.leaf (.string x12)) (mR hs_x12)
   refine cS k_r13 ?_
   refine bS vV ?_
   refine iC (fun c14=>?_) fun c14=>?_
   ·clear c14
    exact vO rfl vP
   clear c14
   obtain ⟨_,⟨r15,rfl⟩,k_r15⟩:=qZ0 (a:=v10_0) (b:=.leaf (.string x12)) h_v10_0 (mR hs_x12)
   refine cS k_r15 ?_
   refine iC (fun c16=>?_) fun c16=>?_
   ·clear c16
    exact vO rfl vP
   clear c16
   refine bS (jM rfl) ?_
   obtain ⟨y17,ev_y17,l_y17,h_y17,n_y17⟩:=fH (E:=EE) (B:=300000000) (el:=9) (sz:=1) (xs:=[.leaf (.string x12)]) (e:=.str) rfl (qCB (mR hs_x12) qCA) rfl rfl
   simp only [List.length_cons,List.length_nil] at l_y17
   have i_y17:=qD h_y17
   have b_y17:=qJ h_y17
   refine bS ev_y17 ?_
   obtain ⟨y18,ev_y18,l_y18,h_y18⟩:=pL (E:=EE) (el:=9) (sz:=1) (bytes:=16) h_v10_0 h_y17 (by decide) (by omega)
   have i_y18:=qD h_y18
   have b_y18:=qJ h_y18
   refine bS ev_y18 ?_
   refine bS (d:=dI ((i10+1:Nat):Int)) (zA (qX (by omega))) ?_
   exact vH rfl (ih10 (by omega) (by omega) y18 h_y18 (by omega))
  replace c11:=dF c11
  refine bS (d:=dI ((i6+1:Nat):Int)) (zA (qX (by omega))) ?_
  exact vH rfl (ih6 (by omega) (by omega) v10_0 h_v10_0 (by omega))
 replace c7:=dF c7
 exact vO rfl vP
def qXM:Tt.Spec:=⟨[n3,(.st [(.str BG),(.sl 77 2 BG (.st [(.str BG),(.sl 3 1 1048576 (.int .i64))])),(.sl 50 1 BG (.sl 9 1 1048576 (.str BG)))])],[(.int .i64)],[],[]⟩
theorem qYy:mW (qB EE) 44 qXM:=by
 intro ds hd _
 simp only [qXM,vW] at hd
 obtain ⟨a,_,rfl,ha,b,_,rfl,hb,rfl⟩:=hd
 obtain ⟨d,h1,h2⟩:=qYe (oP rfl ha) (oP rfl hb) (by
  intro cs hcs x hx y hy
  subst hcs
  simp only [vI,vW] at hb
  obtain ⟨_,e,_,_,rfl,_,_,_,rfl,_,l,_,rfl,hl,rfl⟩:=hb
  cases e; cases hx
  rcases hl with rfl | ⟨es,rfl,_,h⟩
  ·cases hy
  rcases h y hy with rfl | ⟨es',rfl,h',_⟩
  ·exact Nat.zero_le _
  exact h')
 exact ⟨[d],by simp only [qXM,vW]; exact ⟨_,_,rfl,qBP rfl h1,rfl⟩,fun q hq=>(by cases hq),h2⟩
def qTh:List (FuncId × Tt.Spec):=(44,qXM)::uT qOO qUr
theorem qOM:∀ p∈qTh,mW (qB EE) p.1 p.2:=qCD qYy qL1
end Go.Proofs.YtminhjecpnpaeaaGreatDoor.Lt
namespace Go.Proofs.YtminhjecpnpaeaaGreatDoor.Lt
open Go Go.Am Go.Proofs Go.Am.Tt
theorem qZ6:qDT EE Tryz.prog TT qTh qXh=true:=by kernel_rfl
theorem qWi:∀ p∈uT qTh qXh,mW (qB EE) p.1 p.2:=eP he qYM qOg qOM qZ6
theorem qWI:mW (qB EE) 6 e6.S:=uU qWi (by kernel_rfl)
end Go.Proofs.YtminhjecpnpaeaaGreatDoor.Lt
