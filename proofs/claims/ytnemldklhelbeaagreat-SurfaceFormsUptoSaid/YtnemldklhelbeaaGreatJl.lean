/- What a right language's words and net are like. Conditions: none. -/
import Derived.Test.YtnemldklhelbeaaGreatJi
import Derived.Test.YtnemldklhelbeaaGreatJe
import Derived.Test.YtnemldklhelbeaaGreatJk
set_option linter.unusedVariables false
set_option linter.unusedSimpArgs false
namespace Go.Proofs.YtnemldklhelbeaaGreat
open Go Go.Am Go.Proofs Go.Am.Tt
attribute [local irreducible] Go.Am.wp Go.Am.TOp.eval
def qMD (gs:D) (s:Int):Bool:=decide (1<=s) && decide (s<=(gs.es.length:Int))
theorem qVk {gs:D} {s:Int} (hg:qE 300000000 aK gs):qA EE 94 [.agg [gs],dI s] (dB (qMD gs s)):=by
 have i_gs:=qC hg
 refine qYA rfl (qG.step' ?_)
 refine bS (qI rfl) ?_
 refine bS wE ?_
 refine iC (fun c=>?_) fun c=>?_
 ·skip
  refine bS (qB (off:=0) rfl i_gs.one) ?_
  refine bS (qH i_gs) ?_
  refine bS o7 ?_
  exact qD rfl (by unfold qMD; have h:decide (1<=s)=true:=tD (dT c); rw [h,Bool.true_and]; rfl)
 exact qD rfl (by unfold qMD; have h:decide (1<=s)=false:=fD (dF c); rw [h,Bool.false_and]; rfl)
def qDl (l:List D):Prop:=∀ y∈l,∃ s:Int,y=dI s/\1<=s
theorem qNJ {gs:D} {s:Int} (h:qMD gs s=true):1<=s:=by
 unfold qMD at h
 simp only [aE,decide_eq_true_eq] at h
 exact h.1
theorem qVl {gs w : D} (hg : qE 300000000 aK gs) (hw : qE 300000000 xT w) : ∃ e : Int, qA EE 112 [.agg [gs], w] (dI e) /\ (e = 0 -> qDl w.es) := by
  have i_w := qC hw
  have b_w := qJ hw
  have hloop : ∃ e : Int, qG EE (qA EE) qFk 1 [w, dI ((w.es.length : Nat) : Int), dI ((0 : Nat) : Int), .agg [gs]] (dI e) /\ (e = 0 -> qDl (w.es.drop 0)) := by
    refine vK (P := fun i => ∃ e : Int, qG EE (qA EE) qFk 1 [w, dI ((w.es.length : Nat) : Int), dI ((i : Nat) : Int), .agg [gs]] (dI e) /\ (e = 0 -> qDl (w.es.drop i))) w.es.length ?_ ?_
    · refine ⟨0, qG.step' ?_, fun _ y hy => by rw [List.drop_length] at hy; cases hy⟩
      refine bS qK ?_
      refine iC (fun c=>?_) fun c=>?_
      · have := vV c; omega
      · exact qD rfl rfl
    · intro i hi ⟨e, ih, he⟩
      obtain ⟨x, e_x⟩ := vH hi
      obtain ⟨s, rfl⟩ := qN hw e_x
      by_cases hv : qMD gs s = true
      · refine ⟨e, qG.step' ?_, fun h y hy => ?_⟩
        · show wp _ _ _ qFl _
          refine bS qK ?_
          refine iC (fun c=>?_) fun c=>?_
          · skip
            refine bS (qL (s := ((i : Nat) : Int)) (by omega) e_x) ?_
            refine bS (qO (s := ((i : Nat) : Int)) i_w (by omega) e_x rfl) ?_
            refine cS (qVk hg) ?_
            refine bS zZ ?_
            refine iC (fun d=>?_) fun d=>?_
            · rw [hv] at d; cases d
            · skip
              refine bS (d := dI ((i + 1 : Nat) : Int)) (qP (qM (by omega))) ?_
              exact qF rfl ih
          · have := zC c; omega
        · rw [oP e_x] at hy
          rcases List.mem_cons.1 hy with rfl | hy
          · exact ⟨s, rfl, qNJ hv⟩
          · exact he h y hy
      · refine ⟨19, qG.step' ?_, fun h => by cases h⟩
        refine bS qK ?_
        refine iC (fun c=>?_) fun c=>?_
        · skip
          refine bS (qL (s := ((i : Nat) : Int)) (by omega) e_x) ?_
          refine bS (qO (s := ((i : Nat) : Int)) i_w (by omega) e_x rfl) ?_
          refine cS (qVk hg) ?_
          refine bS zZ ?_
          refine iC (fun d=>?_) fun d=>?_
          · exact qD rfl rfl
          · exact absurd (by simpa using d) hv
        · have := zC c; omega
  obtain ⟨e, hgo, he⟩ := hloop
  refine ⟨if w.es.length = 0 then 4 else if w.es.length > 24 then 5 else e, qWo rfl (qG.step' ?_), fun h => ?_⟩
  · show wp _ _ _ qFm _
    refine bS (qI rfl) ?_
    refine bS (qH i_w) ?_
    refine bS vX ?_
    refine iC (fun c=>?_) fun c=>?_
    · have := dT c
      rw [if_pos (by omega)]; exact qD rfl rfl
    have := dF c
    rw [if_neg (by omega)]
    refine bS (qH i_w) ?_
    refine bS zL ?_
    refine iC (fun d=>?_) fun d=>?_
    · have := dT d
      rw [if_pos (by omega)]; exact qD rfl rfl
    have := dF d
    rw [if_neg (by omega)]
    refine bS (qH i_w) ?_
    exact qF rfl hgo
  · split at h
    · cases h
    · split at h
      · cases h
      · simpa using he h
def qJl:D->Prop
 | .agg [_,x1,.leaf (.int .i64 c),x3,_,_,_,_]=>qDl x1.es/\1<=c/\∀ y∈x3.es,qDl y.es
 | _=>False
theorem qVe {a b:D} (ha:qE 300000000 xT a) (hb:qE 300000000 xT b):∃ t:Bool,qA EE 20 [a,b] (dB t):=by
 obtain ⟨d,⟨t,rfl⟩,h⟩:=qRG (S:=qYr.S) (kE mV (f:=20) (by kernel_rfl)) rfl rfl rfl rfl (zJ ha (zJ hb j0))
 exact ⟨t,h⟩
theorem qW7 {a:Int}:∃ t:Bool,qA EE 111 [dI a] (dB t):=by
 obtain ⟨d,⟨t,rfl⟩,h⟩:=qRG (S:=qVz.S) (kE mV (f:=111) (by kernel_rfl)) rfl rfl rfl rfl (zJ (d:=dI a) ⟨a,rfl⟩ j0)
 exact ⟨t,h⟩
theorem qZC {gs x1 x3 x5 x6 x7:D} {x0 x2 x4:Int} (hg:qE 300000000 aK gs) (h1:qE 300000000 xT x1) (h3:qE 300000000 (.sl 31 1 xT) x3) :
  ∃ e:Int,qA EE 96 [.agg [gs],.agg [dI x0,x1,dI x2,x3,dI x4,x5,x6,x7]] (dI e)/\(e=0->qJl (.agg [dI x0,x1,dI x2,x3,dI x4,x5,x6,x7])):=by
 have i_x1:=qC h1
 have i_x3:=qC h3
 have b_x3:=qJ h3
 have inner:∀ (i:Nat) (e:Int),i < x3.es.length->qG EE (qA EE) qBO 1 [dI ((i+1:Nat):Int),.agg [gs],.agg [dI x0,x1,dI x2,x3,dI x4,x5,x6,x7]] (dI e) ->
   ∃ e':Int,qG EE (qA EE) qBO 2 [dI ((i:Nat):Int),dI ((0:Nat):Int),.agg [gs],.agg [dI x0,x1,dI x2,x3,dI x4,x5,x6,x7]] (dI e')/\(e'=0->e=0):=by
  intro i e hi hnext
  refine vK (P:=fun k=>∃ e':Int,qG EE (qA EE) qBO 2 [dI ((i:Nat):Int),dI ((k:Nat):Int),.agg [gs],.agg [dI x0,x1,dI x2,x3,dI x4,x5,x6,x7]] (dI e')/\(e'=0->e=0)) i ?_ ?_
  ·refine ⟨e,qG.step' ?_,fun h=>h⟩
   refine bS qK ?_
   refine iC (fun c=>?_) fun c=>?_
   ·have:=vV c; omega
   refine bS (d:=dI ((i+1:Nat):Int)) (qP (qM (by omega))) ?_
   exact qF rfl hnext
  intro k hk ⟨e',ih,he'⟩
  obtain ⟨y,e_y⟩:=vH hi
  obtain ⟨z,e_z⟩:=vH (l:=x3) (i:=k) (by omega)
  have hy:=qN h3 e_y
  have hz:=qN h3 e_z
  have i_y:=qC hy
  have i_z:=qC hz
  obtain ⟨t,ht⟩:=qVe hy hz
  cases t with
  | true =>
   refine ⟨8,qG.step' ?_,fun h=>by cases h⟩
   refine bS qK ?_
   refine iC (fun c=>?_) fun c=>?_
   ·skip
    refine bS (qB (off:=3) rfl i_x3.one) ?_
    refine bS (qL (s:=((i:Nat):Int)) (by omega) e_y) ?_
    refine bS (qO (s:=((i:Nat):Int)) i_x3 (by omega) e_y i_y.one) ?_
    refine bS (qB (off:=3) rfl i_x3.one) ?_
    refine bS (qL (s:=((k:Nat):Int)) (by omega) e_z) ?_
    refine bS (qO (s:=((k:Nat):Int)) i_x3 (by omega) e_z i_z.one) ?_
    refine cS ht ?_
    refine jJ (t:=true) rfl ?_
    refine lM ?_
    exact qD rfl rfl
   have:=zC c; omega
  | false =>
   refine ⟨e',qG.step' ?_,he'⟩
   refine bS qK ?_
   refine iC (fun c=>?_) fun c=>?_
   ·skip
    refine bS (qB (off:=3) rfl i_x3.one) ?_
    refine bS (qL (s:=((i:Nat):Int)) (by omega) e_y) ?_
    refine bS (qO (s:=((i:Nat):Int)) i_x3 (by omega) e_y i_y.one) ?_
    refine bS (qB (off:=3) rfl i_x3.one) ?_
    refine bS (qL (s:=((k:Nat):Int)) (by omega) e_z) ?_
    refine bS (qO (s:=((k:Nat):Int)) i_x3 (by omega) e_z i_z.one) ?_
    refine cS ht ?_
    refine jJ (t:=false) rfl ?_
    refine mZ ?_
    refine bS (d:=dI ((k+1:Nat):Int)) (qP (qM (by omega))) ?_
    exact qF rfl ih
   have:=zC c; omega
 have outer:∃ e:Int,qG EE (qA EE) qBO 1 [dI ((0:Nat):Int),.agg [gs],.agg [dI x0,x1,dI x2,x3,dI x4,x5,x6,x7]] (dI e)/\(e=0->∀ y∈x3.es.drop 0,qDl y.es):=by
  refine vK (P:=fun i=>∃ e:Int,qG EE (qA EE) qBO 1 [dI ((i:Nat):Int),.agg [gs],.agg [dI x0,x1,dI x2,x3,dI x4,x5,x6,x7]] (dI e)/\(e=0->∀ y∈x3.es.drop i,qDl y.es)) x3.es.length ?_ ?_
  ·refine ⟨0,qG.step' ?_,fun _ y hy=>by rw [List.drop_length] at hy; cases hy⟩
   refine bS (qB (off:=3) rfl i_x3.one) ?_
   refine bS (qH i_x3) ?_
   refine bS qK ?_
   refine iC (fun c=>?_) fun c=>?_
   ·have:=vV c; omega
   exact qD rfl rfl
  intro i hi ⟨e,ih,he⟩
  obtain ⟨y,e_y⟩:=vH hi
  have hy:=qN h3 e_y
  have i_y:=qC hy
  obtain ⟨q,hq,hq0⟩:=qVl hg hy
  obtain ⟨t,ht⟩:=qVe hy h1
  by_cases hz:q=0
  ·cases t with
   | true =>
    refine ⟨8,qG.step' ?_,fun h=>by cases h⟩
    refine bS (qB (off:=3) rfl i_x3.one) ?_
    refine bS (qH i_x3) ?_
    refine bS qK ?_
    refine iC (fun c=>?_) fun c=>?_
    ·skip
     refine bS (qB (off:=3) rfl i_x3.one) ?_
     refine bS (qL (s:=((i:Nat):Int)) (by omega) e_y) ?_
     refine bS (qO (s:=((i:Nat):Int)) i_x3 (by omega) e_y i_y.one) ?_
     refine cS hq ?_
     refine bS zS ?_
     refine iC (fun d=>?_) fun d=>?_
     ·exact absurd hz (nz d)
     refine bS (qB (off:=3) rfl i_x3.one) ?_
     refine bS (qL (s:=((i:Nat):Int)) (by omega) e_y) ?_
     refine bS (qO (s:=((i:Nat):Int)) i_x3 (by omega) e_y i_y.one) ?_
     refine bS (qB (off:=1) rfl i_x1.one) ?_
     refine cS ht ?_
     refine jJ (t:=true) rfl ?_
     refine lM ?_
     exact qD rfl rfl
    have:=zC c; omega
   | false =>
    obtain ⟨e',hgo',he'⟩:=inner i e hi ih
    refine ⟨e',qG.step' ?_,fun h z hzm=>?_⟩
    ·refine bS (qB (off:=3) rfl i_x3.one) ?_
     refine bS (qH i_x3) ?_
     refine bS qK ?_
     refine iC (fun c=>?_) fun c=>?_
     ·skip
      refine bS (qB (off:=3) rfl i_x3.one) ?_
      refine bS (qL (s:=((i:Nat):Int)) (by omega) e_y) ?_
      refine bS (qO (s:=((i:Nat):Int)) i_x3 (by omega) e_y i_y.one) ?_
      refine cS hq ?_
      refine bS zS ?_
      refine iC (fun d=>?_) fun d=>?_
      ·exact absurd hz (nz d)
      refine bS (qB (off:=3) rfl i_x3.one) ?_
      refine bS (qL (s:=((i:Nat):Int)) (by omega) e_y) ?_
      refine bS (qO (s:=((i:Nat):Int)) i_x3 (by omega) e_y i_y.one) ?_
      refine bS (qB (off:=1) rfl i_x1.one) ?_
      refine cS ht ?_
      refine jJ (t:=false) rfl ?_
      refine mZ ?_
      exact qF rfl hgo'
     have:=zC c; omega
    rw [oP e_y] at hzm
    rcases List.mem_cons.1 hzm with rfl | hzm
    ·exact hq0 hz
    exact he (he' h) z hzm
  refine ⟨q,qG.step' ?_,fun h=>absurd h hz⟩
  refine bS (qB (off:=3) rfl i_x3.one) ?_
  refine bS (qH i_x3) ?_
  refine bS qK ?_
  refine iC (fun c=>?_) fun c=>?_
  ·skip
   refine bS (qB (off:=3) rfl i_x3.one) ?_
   refine bS (qL (s:=((i:Nat):Int)) (by omega) e_y) ?_
   refine bS (qO (s:=((i:Nat):Int)) i_x3 (by omega) e_y i_y.one) ?_
   refine cS hq ?_
   refine bS zS ?_
   refine iC (fun d=>?_) fun d=>?_
   ·exact qD rfl rfl
   exact absurd (zz d) hz
  have:=zC c; omega
 obtain ⟨e,hgo,he⟩:=outer
 obtain ⟨t,ht⟩:=qW7 (a:=x0)
 obtain ⟨q,hq,hq0⟩:=qVl hg h1
 refine ⟨if t=false then 2 else if q≠0 then q else if x2 < 1 then 21 else if x2 > 20 then 21 else if x3.es.length > 3 then 11 else e,qYy rfl (qG.step' ?_),fun h=>?_⟩
 ·refine bS (qI rfl) ?_
  refine bS (qI rfl) ?_
  refine bS (qB (off:=0) rfl rfl) ?_
  refine cS ht ?_
  refine bS zZ ?_
  refine iC (fun c=>?_) fun c=>?_
  ·rw [if_pos (by simpa using c)]; exact qD rfl rfl
  rw [if_neg (by simpa using c)]
  refine bS (qB (off:=1) rfl i_x1.one) ?_
  refine cS hq ?_
  refine bS zS ?_
  refine iC (fun d=>?_) fun d=>?_
  ·rw [if_pos (nz d)]; exact qD rfl rfl
  rw [if_neg (fun h=>h (zz d))]
  refine bS (qB (off:=2) rfl rfl) ?_
  refine bS qK ?_
  refine iC (fun c3=>?_) fun c3=>?_
  ·rw [if_pos (dT c3)]; exact qD rfl rfl
  rw [if_neg (dF c3)]
  refine bS (qB (off:=2) rfl rfl) ?_
  refine bS zL ?_
  refine iC (fun c4=>?_) fun c4=>?_
  ·rw [if_pos (dT c4)]; exact qD rfl rfl
  rw [if_neg (dF c4)]
  refine bS (qB (off:=3) rfl i_x3.one) ?_
  refine bS (qH i_x3) ?_
  refine bS zL ?_
  refine iC (fun c5=>?_) fun c5=>?_
  ·have:=dT c5
   rw [if_pos (by omega)]; exact qD rfl rfl
  have:=dF c5
  rw [if_neg (by omega)]
  exact qF rfl hgo
 split at h
 ·cases h
 split at h
 ·rename_i h2; exact absurd h h2
 split at h
 ·cases h
 split at h
 ·cases h
 split at h
 ·cases h
 rename_i a1 a2 a3 a4 a5
 exact ⟨hq0 (Decidable.not_not.1 a2),by omega,fun y hy=>he h y (by simpa using hy)⟩
theorem qZJ {gs x:D} (hg:qE 1048576 aK gs) (hx:qE 1048576 cJ x):∃ e:Int,qA EE 65 [.agg [gs],x] (dI e)/\(e=0->qJl x):=by
 have hx0:=hx
 obtain ⟨_,rfl,_,_,rfl,⟨x0,rfl⟩,x1,_,rfl,h1,_,_,rfl,⟨x2,rfl⟩,x3,_,rfl,h3,_,_,rfl,⟨x4,rfl⟩,x5,_,rfl,h5,x6,_,rfl,h6,x7,_,rfl,h7,rfl⟩:=hx
 have i_x1:=qC h1
 have i_x3:=qC h3
 have i_x7:=qC h7
 obtain ⟨q,hq,hq0⟩:=qZC (gs:=gs) (x0:=x0) (x2:=x2) (x4:=x4) (x5:=x5) (x6:=x6) (x7:=x7) (zQ (by decide) hg) (zQ (by decide) h1) (zQ (by decide) h3)
 obtain ⟨q2,k2⟩:=qDz (kE mV (f:=97) (S:=qYf.S) (by kernel_rfl)) rfl rfl (by decide) (qF4 hx0)
 obtain ⟨q3,k3⟩:=qDz (kE mV (f:=98) (S:=qYe.S) (by kernel_rfl)) rfl rfl (by decide) (qF4 hx0)
 obtain ⟨q4,k4⟩:=qDz (kE mV (f:=99) (S:=qYd.S) (by kernel_rfl)) rfl rfl (by decide) (qSr h7 (t:=.int .i64) (e:=dI 12) ⟨12,rfl⟩)
 refine ⟨if q≠0 then q else if q2≠0 then q2 else if q3≠0 then q3 else q4,qYT rfl (qG.step' ?_),fun h=>?_⟩
 ·refine bS (qI rfl) ?_
  refine bS (qI rfl) ?_
  refine cS hq ?_
  refine bS zS ?_
  refine iC (fun c=>?_) fun c=>?_
  ·rw [if_pos (nz c)]; exact qD rfl rfl
  rw [if_neg (fun h=>h (zz c))]
  refine cS k2 ?_
  refine bS zS ?_
  refine iC (fun c2=>?_) fun c2=>?_
  ·rw [if_pos (nz c2)]; exact qD rfl rfl
  rw [if_neg (fun h=>h (zz c2))]
  refine cS k3 ?_
  refine bS zS ?_
  refine iC (fun c3=>?_) fun c3=>?_
  ·rw [if_pos (nz c3)]; exact qD rfl rfl
  rw [if_neg (fun h=>h (zz c3))]
  refine bS (qB (off:=7) rfl i_x7.one) ?_
  refine cS k4 ?_
  exact qD rfl rfl
 split at h
 ·rename_i h2; exact absurd h h2
 rename_i h2; exact hq0 (Decidable.not_not.1 h2)
end Go.Proofs.YtnemldklhelbeaaGreat
namespace Go.Proofs.YtnemldklhelbeaaGreat
open Go Go.Am Go.Proofs
attribute [local irreducible] Go.Am.wp Go.Am.TOp.eval
abbrev qXL:Sh:=.st [aK,.str,qRg,qTk,qTl,.int .i64,qHW,xT,qGH]
theorem qZU {ps:D} (hp:qE 300000000 qJg ps):qA EE 13 [.agg [ps]] (dB (decide (ps.es.length<=20))):=by
 have i_ps:=qC hp
 refine qZf rfl (qG.step' ?_)
 refine bS (qI rfl) ?_
 refine bS (qB (off:=0) rfl i_ps.one) ?_
 refine bS (qH i_ps) ?_
 refine bS o7 ?_
 refine qD rfl (congrArg (fun b=>dB b) ?_)
 rw [decide_eq_decide]; omega
end Go.Proofs.YtnemldklhelbeaaGreat
namespace Go.Proofs.YtnemldklhelbeaaGreat
open Go Go.Am Go.Proofs
attribute [local irreducible] Go.Am.wp Go.Am.TOp.eval
def qR6:D->Prop
 | .agg [_,s]=>1<=s.es.length/\s.es.length<=3
 | _=>False
abbrev qRh (d:D):Prop:=∃ n:Int,d=dI n/\n≠0
theorem qZK {gs nm us lt x:D} {i:Nat} (hg:qE 300000000 aK gs) (hn:qE 300000000 .str nm) (hu:qE 300000000 qRg us) (hl:qE 300000000 qTk lt) (he:us.es[i]? = some x) :
  ∃ n:Int,qA EE 60 [.agg [gs],.agg [nm,us,lt],dI ((i:Nat):Int)] (dI n)/\(n=0->qR6 x):=by
 have hi:=(gI he).1
 have i_gs:=qC hg
 have i_us:=qC hu
 have b_us:=qJ hu
 have i_lt:=qC hl
 obtain ⟨_,rfl,_,_,rfl,⟨s0,rfl,hs0⟩,sg,_,rfl,hsg,rfl⟩:=qN hu he
 have i_sg:=qC hsg
 by_cases hs:1<=sg.es.length/\sg.es.length<=3
 ·obtain ⟨_,⟨n,rfl⟩,h⟩:=qXX (a:=.agg [gs]) (b:=.agg [nm,us,lt]) (c:=dI ((i:Nat):Int)) (e7 (zJ hg j0)) (e7 (zJ hn (zJ hu (zJ hl j0)))) jH (by intro n hn; cases hn; omega) (by intro cs x n hcs hx hn; cases hcs; cases hx; cases hn; omega)
  exact ⟨n,h,fun _=>hs⟩
 obtain ⟨nms,rfl,hns⟩:=hn
 suffices h:∃ d,qRh d/\qG EE (qA EE) qJC 0 [.agg [gs],.agg [.leaf (.string nms),us,lt],dI ((i:Nat):Int)] d by
  obtain ⟨_,⟨n,rfl,hn0⟩,hgo⟩:=h
  exact ⟨n,qYU rfl hgo,fun h0=>absurd h0 hn0⟩
 obtain ⟨_,⟨r0,rfl⟩,k61⟩:=qXW (a:=.leaf (.string s0)) (iM hs0)
 refine jA (R:=qRh) ?_
 refine bS (qI rfl) ?_
 refine bS (qI rfl) ?_
 refine bS (qB (off:=1) rfl i_us.one) ?_
 refine bS (qL (s:=((i:Nat):Int)) (by omega) he) ?_
 refine bS (z8 (s:=((i:Nat):Int)) i_us (by omega) he rfl) ?_
 refine bS (qI rfl) ?_
 refine bS (qB (off:=0) rfl rfl) ?_
 refine cS k61 ?_
 refine bS zZ ?_
 refine iC (fun c=>?_) fun c=>?_
 ·exact zY rfl ⟨3,rfl,by decide⟩
 refine zA rfl (vT (P:=fun j=>j<=i->∃ d,qRh d/\qG EE (qA EE) qJC 1 [dI ((i:Nat):Int),dI ((j:Nat):Int),.agg [gs],.agg [.leaf (.string nms),us,lt],.agg [.leaf (.string s0),sg]] d) i (fun j ih=>?_) 0 (by omega))
 intro hj
 refine jA (R:=qRh) ?_
 refine bS qK ?_
 refine iC (fun d=>?_) fun d=>?_
 ·have hji:=vV d
  obtain ⟨y,e_y⟩:=vH (l:=us) (i:=j) (by omega)
  obtain ⟨_,rfl,_,_,rfl,⟨s1,rfl,hs1⟩,sh,_,rfl,hsh,rfl⟩:=qN hu e_y
  refine bS (qB (off:=1) rfl i_us.one) ?_
  refine bS (qL (s:=((j:Nat):Int)) (by omega) e_y) ?_
  refine bS (z9 (s:=((j:Nat):Int)) (off:=0) i_us (by omega) e_y rfl rfl (by decide)) ?_
  refine bS (qB (off:=0) rfl rfl) ?_
  refine bS qCE ?_
  refine iC (fun f=>?_) fun f=>?_
  ·exact zY rfl ⟨8,rfl,by decide⟩
  refine bS (d:=dI ((j+1:Nat):Int)) (qP (qM (by omega))) ?_
  exact zA rfl (ih hji (by omega))
 refine bS (qB (off:=1) rfl i_sg.one) ?_
 refine bS (qH i_sg) ?_
 refine bS qK ?_
 refine iC (fun f=>?_) fun f=>?_
 ·exact zY rfl ⟨19,rfl,by decide⟩
 have h1:=dF f
 refine bS (qB (off:=1) rfl i_sg.one) ?_
 refine bS (qH i_sg) ?_
 refine bS zL ?_
 refine iC (fun g=>?_) fun g=>?_
 ·exact zY rfl ⟨19,rfl,by decide⟩
 have h2:=dF g
 omega
theorem qZQ {gs nm us lt:D} (hg:qE 1048576 aK gs) (hnm:qE 1048576 .str nm) (hus:qE 1048576 qRg us) (hlt:qE 1048576 qTk lt):∃ q:Int,qA EE 32 [.agg [gs],.agg [nm,us,lt]] (dI q)/\(q=0->∀ x∈us.es,qR6 x):=by
 by_cases hall:∀ x∈us.es,qR6 x
 ·obtain ⟨q,h⟩:=qZy hg hnm hus hlt
  exact ⟨q,h,fun _=>hall⟩
 have i_us:=qC hus
 have b_us:=qJ hus
 have i_gs:=qC hg
 have i_lt:=qC hlt
 have hbad:∃ (k:Nat) (x:D),us.es[k]? = some x/\¬ qR6 x:=by
  false_or_by_contra
  rename_i hno
  refine hall fun x hx=>?_
  obtain ⟨k,hk⟩:=List.getElem?_of_mem hx
  false_or_by_contra
  rename_i hx0
  exact hno ⟨k,x,hk,hx0⟩
 obtain ⟨k,xk,e_k,hk0⟩:=hbad
 have hk:=(gI e_k).1
 have mo:∀ {s:Sh} {d:D},qE 1048576 s d->qE 300000000 s d:=fun h=>zQ (by decide) h
 obtain ⟨_,⟨b59,rfl⟩,k59⟩:=qXY (mo hnm)
 have k60:∀ {j:Nat} {x:D},us.es[j]? = some x->∃ n:Int,qA EE 60 [.agg [gs],.agg [nm,us,lt],dI ((j:Nat):Int)] (dI n)/\(n=0->qR6 x):=fun e=>qZK (mo hg) (mo hnm) (mo hus) (mo hlt) e
 obtain ⟨nms,rfl,hns⟩:=hnm
 suffices h:∃ d,qRh d/\qG EE (qA EE) tW 0 [.agg [gs],.agg [.leaf (.string nms),us,lt]] d by
  obtain ⟨_,⟨n,rfl,hn0⟩,hgo⟩:=h
  exact ⟨n,u32 rfl hgo,fun h0=>absurd h0 hn0⟩
 refine jA (R:=qRh) ?_
 refine bS (qI rfl) ?_
 refine bS (qI rfl) ?_
 refine bS (qB (off:=0) rfl rfl) ?_
 refine cS k59 ?_
 refine bS zZ ?_
 refine iC (fun c=>?_) fun c=>?_
 ·exact zY rfl ⟨7,rfl,by decide⟩
 refine bS (qB (off:=1) rfl i_us.one) ?_
 refine bS (qH i_us) ?_
 refine bS zL ?_
 refine iC (fun d=>?_) fun d=>?_
 ·exact zY rfl ⟨11,rfl,by decide⟩
 refine zA rfl (vT (P:=fun j=>j<=k->∃ d,qRh d/\qG EE (qA EE) tW 1 [dI ((j:Nat):Int),.agg [gs],.agg [.leaf (.string nms),us,lt]] d) k (fun j ih=>?_) 0 (by omega))
 intro hj
 obtain ⟨y,e_y⟩:=vH (l:=us) (i:=j) (by omega)
 obtain ⟨q,hq,hq0⟩:=k60 e_y
 refine jA (R:=qRh) ?_
 refine bS (qB (off:=1) rfl i_us.one) ?_
 refine bS (qH i_us) ?_
 refine bS qK ?_
 refine iC (fun f=>?_) fun f=>?_
 ·skip
  refine cS hq ?_
  refine bS zS ?_
  refine iC (fun g=>?_) fun g=>?_
  ·exact zY rfl ⟨q,rfl,dT g⟩
  have hz:q=0:=Decidable.not_not.1 (dF g)
  have hjk:j≠k:=by
   rintro rfl
   rw [e_k] at e_y
   cases e_y
   exact hk0 (hq0 hz)
  refine bS (d:=dI ((j+1:Nat):Int)) (qP (qM (by omega))) ?_
  exact zA rfl (ih (by omega) (by omega))
 have:=zC f; omega
end Go.Proofs.YtnemldklhelbeaaGreat
namespace Go.Proofs.YtnemldklhelbeaaGreat
open Go Go.Am Go.Proofs
attribute [local irreducible] Go.Am.wp Go.Am.TOp.eval
open Classical in
noncomputable def qMF (a b:D):Bool:=decide (a.es=b.es)
open Classical in
theorem qHC {a b:D} (h:a.es=b.es):qMF a b=true:=by unfold qMF; exact tD h
open Classical in
theorem qEI {a b:D} (h:¬ a.es=b.es):qMF a b=false:=by unfold qMF; exact fD h
theorem qZS {a b:D} (ha:qE 300000000 xT a) (hb:qE 300000000 xT b):qA EE 20 [a,b] (dB (qMF a b)):=by
 have i_a:=qC ha
 have b_a:=qJ ha
 have i_b:=qC hb
 refine qV8 rfl (qG.step' ?_)
 show wp _ _ _ qJp _
 refine bS (qH i_a) ?_
 refine bS (qH i_b) ?_
 refine bS zS ?_
 refine iC (fun c=>?_) fun c=>?_
 ·have hne:¬ ((a.es.length:Nat):Int)=((b.es.length:Nat):Int):=dT c
  refine qD rfl (congrArg (fun t=>dB t) ?_)
  exact (qEI (fun h=>hne (by rw [h]))).symm
 refine bS (qH i_a) ?_
 have hl:a.es.length=b.es.length:=by have:=Decidable.not_not.1 (dF c); omega
 refine qF rfl (vT (P:=fun i=>i<=a.es.length->(∀ j,j < i->a.es[j]? = b.es[j]?)->qG EE (qA EE) qOK 1 [a,b,dI ((a.es.length:Nat):Int),dI ((i:Nat):Int)] (dB (qMF a b))) a.es.length (fun i ih=>?_) 0 (by omega) (fun j h=>by omega))
 intro hi hs
 refine qG.step' ?_
 show wp _ _ _ qJo _
 refine bS qK ?_
 refine iC (fun d=>?_) fun d=>?_
 ·have hia:=vV d
  obtain ⟨x,e_x⟩:=vH hia
  obtain ⟨y,e_y⟩:=vH (l:=b) (i:=i) (by omega)
  obtain ⟨p,rfl⟩:=qN ha e_x
  obtain ⟨q,rfl⟩:=qN hb e_y
  refine bS (qL (s:=((i:Nat):Int)) (by omega) e_x) ?_
  refine bS (qO (s:=((i:Nat):Int)) i_a (by omega) e_x rfl) ?_
  refine bS (qL (s:=((i:Nat):Int)) (by omega) e_y) ?_
  refine bS (qO (s:=((i:Nat):Int)) i_b (by omega) e_y rfl) ?_
  refine bS zS ?_
  refine iC (fun f=>?_) fun f=>?_
  ·have hne:¬ p=q:=dT f
   refine qD rfl (congrArg (fun t=>dB t) ?_)
   exact (qEI (fun h=>hne (by rw [h] at e_x; rw [e_x] at e_y; cases e_y; rfl))).symm
  have hpq:p=q:=Decidable.not_not.1 (dF f)
  refine bS (d:=dI ((i+1:Nat):Int)) (qP (qM (by omega))) ?_
  refine qF rfl (ih hia (by omega) (fun j hj=>?_))
  rcases Nat.lt_or_eq_of_le (Nat.le_of_lt_succ hj) with h | rfl
  ·exact hs j h
  rw [e_x,e_y,hpq]
 have hia:=zC d
 refine qD rfl (congrArg (fun t=>dB t) ?_)
 refine (qHC ?_).symm
 apply List.ext_getElem?
 intro j
 rcases Nat.lt_or_ge j i with h | h
 ·exact hs j h
 rw [List.getElem?_eq_none (by omega),List.getElem?_eq_none (by omega)]
theorem qZL {a b:D} (ha:qE 300000000 xT a) (hb:qE 300000000 xT b):qA EE 54 [a,b] (dB (qMF a b)):=by
 have i_a:=qC ha
 have b_a:=qJ ha
 have i_b:=qC hb
 refine qYV rfl (qG.step' ?_)
 refine bS (qH i_a) ?_
 refine bS (qH i_b) ?_
 refine bS zS ?_
 refine iC (fun c=>?_) fun c=>?_
 ·have hne:¬ ((a.es.length:Nat):Int)=((b.es.length:Nat):Int):=dT c
  refine qD rfl (congrArg (fun t=>dB t) ?_)
  exact (qEI (fun h=>hne (by rw [h]))).symm
 refine bS (qH i_a) ?_
 have hl:a.es.length=b.es.length:=by have:=Decidable.not_not.1 (dF c); omega
 refine qF rfl (vT (P:=fun i=>i<=a.es.length->(∀ j,j < i->a.es[j]? = b.es[j]?)->qG EE (qA EE) qPG 1 [a,b,dI ((a.es.length:Nat):Int),dI ((i:Nat):Int)] (dB (qMF a b))) a.es.length (fun i ih=>?_) 0 (by omega) (fun j h=>by omega))
 intro hi hs
 refine qG.step' ?_
 refine bS qK ?_
 refine iC (fun d=>?_) fun d=>?_
 ·have hia:=vV d
  obtain ⟨x,e_x⟩:=vH hia
  obtain ⟨y,e_y⟩:=vH (l:=b) (i:=i) (by omega)
  obtain ⟨p,rfl⟩:=qN ha e_x
  obtain ⟨q,rfl⟩:=qN hb e_y
  refine bS (qL (s:=((i:Nat):Int)) (by omega) e_x) ?_
  refine bS (qO (s:=((i:Nat):Int)) i_a (by omega) e_x rfl) ?_
  refine bS (qL (s:=((i:Nat):Int)) (by omega) e_y) ?_
  refine bS (qO (s:=((i:Nat):Int)) i_b (by omega) e_y rfl) ?_
  refine bS zS ?_
  refine iC (fun f=>?_) fun f=>?_
  ·have hne:¬ p=q:=dT f
   refine qD rfl (congrArg (fun t=>dB t) ?_)
   exact (qEI (fun h=>hne (by rw [h] at e_x; rw [e_x] at e_y; cases e_y; rfl))).symm
  have hpq:p=q:=Decidable.not_not.1 (dF f)
  refine bS (d:=dI ((i+1:Nat):Int)) (qP (qM (by omega))) ?_
  refine qF rfl (ih hia (by omega) (fun j hj=>?_))
  rcases Nat.lt_or_eq_of_le (Nat.le_of_lt_succ hj) with h | rfl
  ·exact hs j h
  rw [e_x,e_y,hpq]
 have hia:=zC d
 refine qD rfl (congrArg (fun t=>dB t) ?_)
 refine (qHC ?_).symm
 apply List.ext_getElem?
 intro j
 rcases Nat.lt_or_ge j i with h | h
 ·exact hs j h
 rw [List.getElem?_eq_none (by omega),List.getElem?_eq_none (by omega)]
theorem qM6 {el sz:Nat} {e:Sh} {w:D} {b:Nat} (hw:qE 300000000 (.sl el sz e) w) (h2:b<=w.es.length):TOp.eval EE (.slc el sz false true) [w,dI ((b:Nat):Int)]=some (yL w 0 b):=by
 simp only [qE] at hw
 rcases hw with rfl | ⟨es,rfl,_,_⟩
 ·have hb:b=0:=by simpa [D.es] using h2
  subst hb
  rw [oB]; rfl
 have h2:b<=es.length:=h2
 rw [oB]
 have e1:vR false 0 [dI ((b:Nat):Int)]=some (0,[dI ((b:Nat):Int)]):=rfl
 have e2:vR true es.length [dI ((b:Nat):Int)]=some (b,[]):=rfl
 simp only [e1,e2,Nat.beq_refl,bL (Nat.zero_le b),bL h2,Bool.and_self,cond_true,yL]
theorem qM5 {el sz:Nat} {e:Sh} {w:D} {a:Nat} (hw:qE 300000000 (.sl el sz e) w) (h2:a<=w.es.length):TOp.eval EE (.slc el sz true false) [w,dI ((a:Nat):Int)]=some (yL w a w.es.length):=by
 simp only [qE] at hw
 rcases hw with rfl | ⟨es,rfl,_,_⟩
 ·have hb:a=0:=by simpa [D.es] using h2
  subst hb
  rw [oB]; rfl
 have h2:a<=es.length:=h2
 rw [oB]
 have e1:vR true 0 [dI ((a:Nat):Int)]=some (a,[]):=rfl
 have e2:vR false es.length []=some (es.length,[]):=rfl
 have e3:(D.sl el sz es).es=es:=rfl
 simp only [e1,e2,e3,Nat.beq_refl,bL h2,bL (zT es.length),Bool.and_self,cond_true,yL]
abbrev qMb (b:UInt8):D:=.leaf (.int .u8 b.toNat)
def qEZ:List UInt8->D
 | []=>.nil
 | l=>.sl 5 1 (l.map qMb)
theorem qSZ (l:List UInt8):(qEZ l).es=l.map qMb:=by cases l <;> rfl
theorem qOk (l:List UInt8):qHM 5 (qEZ l)=true:=by cases l <;> rfl
theorem qEV:∀ l:List UInt8,kT (l.map qMb)=some l
 | []=>rfl
 | b::l=>by
  show kT (qMb b::l.map qMb)=_
  simp only [kT,qEV l,Option.map_some]
  have:UInt8.ofNat (Int.toNat (b.toNat:Int))=b:=by simp
  first | rw [this] | simp
theorem qOv {l:List UInt8} {s:ByteArray} (h:l.length+s.size<=1000000000):TOp.eval EE (.apps 5 1) [qEZ l,.leaf (.string s)]=some (qEZ (l++s.data.toList)):=by
 have hs:s.data.toList.length=s.size:=by rw [Array.length_toList]; rfl
 rw [qHz,qSZ,List.length_map,qOk]
 have hle:Nat.ble (Nat.mul (Nat.add (Nat.mul 4 (Nat.add l.length s.data.toList.length)) 4000) (Nat.succ 1)) 100000000000=true:=by
  apply bL
  show (4 * (l.length+s.data.toList.length)+4000) * (1+1)<=_
  omega
 simp only [hle,Bool.and_self,cond_true]
 cases hd:s.data.toList with
 | nil=>simp
 | cons b r =>
  have:qEZ (l++b::r)=.sl 5 1 ((l++b::r).map qMb):=by cases l <;> rfl
  rw [this,List.map_append]
  rfl
theorem qMh {l:List UInt8} (h:l.length<=1000000000):TOp.eval EE (.bld 5) [qEZ l]=some (.leaf (.string ⟨⟨l⟩⟩)):=by
 rw [qLK]
 cases l with
 | nil=>rfl
 | cons b r =>
  have h1:Nat.ble 1 ((b::r).map qMb).length=true:=by rw [List.length_map]; exact bL (by simp)
  have h2:Nat.ble ((b::r).map qMb).length 1000000000=true:=by rw [List.length_map]; exact bL h
  show (bif Nat.beq 5 5 && Nat.beq 1 1 && Nat.ble 1 ((b::r).map qMb).length && Nat.ble ((b::r).map qMb).length 1000000000 then (kT ((b::r).map qMb)).map _ else none)=_
  rw [h1,h2,qEV]
  rfl
end Go.Proofs.YtnemldklhelbeaaGreat
namespace Go.Proofs.YtnemldklhelbeaaGreat
open Go Go.Am Go.Proofs
attribute [local irreducible] Go.Am.wp Go.Am.TOp.eval
end Go.Proofs.YtnemldklhelbeaaGreat
namespace Go.Proofs.YtnemldklhelbeaaGreat
open Go Go.Am Go.Proofs
attribute [local irreducible] Go.Am.wp Go.Am.TOp.eval
end Go.Proofs.YtnemldklhelbeaaGreat
namespace Go.Proofs.YtnemldklhelbeaaGreat
open Go Go.Am Go.Proofs
attribute [local irreducible] Go.Am.wp Go.Am.TOp.eval
theorem zAi (a:ByteArray):(a == a)=true:=by
 show (a.data == a.data)=true
 exact beq_self_eq_true _
section
variable {gs nm us lt rs ws fs l ps fm:D} {n fe:Int}
theorem qXg (hl:l.one=true) (hp:ps.one=true) (hf:fm.one=true) (hfe:fe≠0) (k14:qA EE 14 [.agg [gs,nm,us,lt,rs,dI n,ws,fs,l],.agg [ps]] (.tup [fm,dI fe])):qA EE 16 [.agg [gs,nm,us,lt,rs,dI n,ws,fs,l],.agg [ps]] (.tup [.leaf (.string ⟨#[]⟩),dI fe]):=by
 refine qXU rfl (qG.step' ?_)
 refine bS (qI rfl) ?_
 refine bS (qI rfl) ?_
 refine cS k14 ?_
 refine bS (zF rfl) ?_
 refine bS (zF rfl) ?_
 refine bS zS ?_
 refine iC (fun c=>?_) fun c=>?_
 ·exact zW rfl rfl
 exact absurd (zz c) hfe
theorem qXf {s:ByteArray} {p e:Int} (hl:l.one=true) (hp:ps.one=true) (hf:fm.one=true) (k14:qA EE 14 [.agg [gs,nm,us,lt,rs,dI n,ws,fs,l],.agg [ps]] (.tup [fm,dI 0])) (k25:qA EE 25 [.agg [nm,us,lt],fm] (.tup [.leaf (.string s),dI p,dI e])) :
  qA EE 16 [.agg [gs,nm,us,lt,rs,dI n,ws,fs,l],.agg [ps]] (.tup [.leaf (.string s),dI e]):=by
 refine qXU rfl (qG.step' ?_)
 refine bS (qI rfl) ?_
 refine bS (qI rfl) ?_
 refine cS k14 ?_
 refine bS (zF rfl) ?_
 refine bS (zF rfl) ?_
 refine bS zS ?_
 refine iC (fun c=>?_) fun c=>?_
 ·exact absurd rfl (nz c)
 refine bS (xW (off:=1) (size:=3) rfl) ?_
 refine cS k25 ?_
 refine bS (zF rfl) ?_
 refine bS (zF rfl) ?_
 refine bS (zF rfl) ?_
 exact zW rfl rfl
end
end Go.Proofs.YtnemldklhelbeaaGreat
