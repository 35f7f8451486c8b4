/- The entry with an Id, by both. Conditions: none. -/
import Derived.Test.YtnemldklhelbeaaGreatJc
import Derived.Test.YtnemldklhelbeaaGreatJd
import Derived.Test.YtnemldklhelbeaaGreatJe
import Derived.Test.YtnemldklhelbeaaGreatUv
set_option linter.unusedVariables false
set_option linter.unusedSimpArgs false
namespace Go.Proofs.YtnemldklhelbeaaGreat
open Go Go.Am Go.Proofs
attribute [local irreducible] Go.Am.wp Go.Am.TOp.eval
def qQ0 (id:Int):D->Bool
 | .agg (.leaf (.int .i64 n)::_)=>decide (n=id)
 | _=>false
def pP (l:D) (id:Int):Nat:=l.es.findIdx (qQ0 id)
theorem qF5 (l:D) (id:Int):pP l id<=l.es.length:=List.findIdx_le_length
theorem qC4 {l:D} {id:Int} {i:Nat} {e:D} (h:i<=pP l id) (he:l.es[i]? = some e) (hp:qQ0 id e=true):pP l id=i:=by
 rcases Nat.lt_or_eq_of_le h with h | h
 ·have hn:=List.not_of_lt_findIdx h
  have:=(gI he).2
  rw [this,hp] at hn
  cases hn
 exact h.symm
theorem qAy {l:D} {id:Int} {i:Nat} {e:D} (h:i<=pP l id) (he:l.es[i]? = some e) (hp:qQ0 id e=false):i+1<=pP l id:=by
 rcases Nat.lt_or_eq_of_le h with h | h
 ·exact h
 have hl:=(gI he).1
 have h2:l.es.findIdx (qQ0 id) < l.es.length:=by show pP l id < _; omega
 have:=List.findIdx_getElem (w:=h2)
 have e2:l.es[l.es.findIdx (qQ0 id)]=e:=by
  have:l.es[l.es.findIdx (qQ0 id)]? = some e:=by rw [← he,h]; rfl
  exact (gI this).2
 rw [e2,hp] at this
 cases this
abbrev aM:D:=.agg [dI ((0:Nat):Int),.nil,dI ((0:Nat):Int),.nil,dI ((0:Nat):Int),.nil,.nil,.nil]
def iP (l:D) (id:Int):D:=match l.es[pP l id]? with
 | some e=>.tup [e,dB true]
 | none=>.tup [aM,dB false]
theorem qAx {l:D} {id:Int} {i:Nat} {e:D} (h:pP l id=i) (he:l.es[i]? = some e):iP l id=.tup [e,dB true]:=by
 unfold iP; rw [h,he]
theorem qCd {l:D} {id:Int} (h:l.es.length<=pP l id):iP l id=.tup [aM,dB false]:=by
 unfold iP; rw [List.getElem?_eq_none h]
def g8 (l:D) (id:Int):Int:=if pP l id < l.es.length then (pP l id:Int) else -1
abbrev cJ:Sh:=.st [.int .i64,.sl 3 1 (.int .i64),.int .i64,.sl 31 1 (.sl 3 1 (.int .i64)),.int .i64,.sl 79 2 (.st [.str,.str]),.sl 134 2 (.st [.int .i64,.int .i64]),.sl 182 2 (.st [.int .i64,.int .i64])]
theorem qTt {a:D} {b:Int} (h_a:qE 300000000 (.sl 59 8 cJ) a):qA EE 23 [a,dI b] (iP a b):=by
 suffices h:∃ d,d=iP a b/\qG EE (qA EE) qJI 0 [a,dI b] d by
  obtain ⟨d,rfl,hg⟩:=h; exact qY8 rfl hg
 have i_a:=qC h_a
 have b_a:=qJ h_a
 refine jA (R:=(fun d=>d=iP a b)) ?_
 refine bS (qH i_a) ?_
 refine zA rfl (vT (P:=fun i0=>i0<=pP a b->∃ d,(fun d=>d=iP a b) d/\qG EE (qA EE) qJI 1 [a,dI (b),dI ((a.es.length:Nat):Int),dI ((i0:Nat):Int)] d) (a.es.length) (fun i0 ih0=>?_) 0 (by omega))
 intro hn0
 refine jA (R:=(fun d=>d=iP a b)) ?_
 refine bS qK ?_
 refine iC (fun c1=>?_) fun c1=>?_
 ·replace c1:=dT c1
  obtain ⟨x2,e_x2⟩:=get_at (d:=a) (s:=((i0:Nat):Int)) (by omega) (by omega)
  obtain ⟨_,rfl,_,_,rfl,⟨x2_0,rfl⟩,x2_1,_,rfl,h_x2_1,_,_,rfl,⟨x2_2,rfl⟩,x2_3,_,rfl,h_x2_3,_,_,rfl,⟨x2_4,rfl⟩,x2_5,_,rfl,h_x2_5,x2_6,_,rfl,h_x2_6,x2_7,_,rfl,h_x2_7,rfl⟩:=(qN h_a e_x2)
  have i_x2_1:=qC h_x2_1
  have b_x2_1:=qJ h_x2_1
  have i_x2_3:=qC h_x2_3
  have b_x2_3:=qJ h_x2_3
  have i_x2_5:=qC h_x2_5
  have b_x2_5:=qJ h_x2_5
  have i_x2_6:=qC h_x2_6
  have b_x2_6:=qJ h_x2_6
  have i_x2_7:=qC h_x2_7
  have b_x2_7:=qJ h_x2_7
  refine bS (d:=dB (true)) (qL (by omega) e_x2) ?_
  refine bS (d:=dI (x2_0)) (z9 (off:=0) i_a (by omega) e_x2 rfl rfl (by decide)) ?_
  refine bS vX ?_
  refine iC (fun c3=>?_) fun c3=>?_
  ·replace c3:=dT c3
   refine bS (d:=dB (true)) (qL (by omega) e_x2) ?_
   refine bS (d:=.agg [dI (x2_0),x2_1,dI (x2_2),x2_3,dI (x2_4),x2_5,x2_6,x2_7]) (z8 i_a (by omega) e_x2 rfl) ?_
   refine bS (qI rfl) ?_
   have e':a.es[i0]? = some _:=e_x2
   exact zY rfl (qAx (qC4 hn0 e' (tD c3)) e').symm
  replace c3:=dF c3
  refine bS (d:=dI ((i0+1:Nat):Int)) (qP (qM (by omega))) ?_
  have e':a.es[i0]? = some _:=e_x2
  exact zA rfl (ih0 (by omega) (qAy hn0 e' (fD c3)))
 replace c1:=dF c1
 exact zY rfl (qCd (by have:=qF5 a b; omega)).symm
theorem qZG {x0 b:Int} {x1 x2 x3 x4 x5 x6 x7:D}:qA EE 80 [.agg [dI x0,x1,x2,x3,x4,x5,x6,x7],.ptr [dI b] 0] (dB (decide (x0=b))):=by
 refine qYJ rfl (qG.step' ?_)
 refine bS (qI rfl) ?_
 refine bS (qB (off:=0) rfl rfl) ?_
 refine bS qHy ?_
 refine bS (qEG (ag:=false) (size:=1) (cs:=[dI b]) (off:=0)) ?_
 refine bS vX ?_
 exact qD (d':=dB (decide (x0=b))) rfl rfl
theorem qZH {a:D} {b:Int} (h_a:qE 300000000 (.sl 59 8 cJ) a):qA EE 79 [a,.clo (.func 80) [] [.ptr [dI b] 0]] (dI (g8 a b)):=by
 suffices h:∃ d,d=dI (g8 a b)/\qG EE (qA EE) qJy 0 [a,.clo (.func 80) [] [.ptr [dI b] 0]] d by
  obtain ⟨d,rfl,hg⟩:=h; exact qYK rfl hg
 have i_a:=qC h_a
 have b_a:=qJ h_a
 refine jA (R:=(fun d=>d=dI (g8 a b))) ?_
 refine bS (qH i_a) ?_
 refine zA rfl (vT (P:=fun i0=>i0<=pP a b->∃ d,(fun d=>d=dI (g8 a b)) d/\qG EE (qA EE) qJy 1 [a,.clo (.func 80) [] [.ptr [dI b] 0],dI ((a.es.length:Nat):Int),dI ((i0:Nat):Int)] d) (a.es.length) (fun i0 ih0=>?_) 0 (by omega))
 intro hn0
 refine jA (R:=(fun d=>d=dI (g8 a b))) ?_
 refine bS qK ?_
 refine iC (fun c1=>?_) fun c1=>?_
 ·replace c1:=dT c1
  obtain ⟨x2,e_x2⟩:=get_at (d:=a) (s:=((i0:Nat):Int)) (by omega) (by omega)
  obtain ⟨_,rfl,_,_,rfl,⟨x2_0,rfl⟩,x2_1,_,rfl,h_x2_1,_,_,rfl,⟨x2_2,rfl⟩,x2_3,_,rfl,h_x2_3,_,_,rfl,⟨x2_4,rfl⟩,x2_5,_,rfl,h_x2_5,x2_6,_,rfl,h_x2_6,x2_7,_,rfl,h_x2_7,rfl⟩:=(qN h_a e_x2)
  have i_x2_1:=qC h_x2_1
  have b_x2_1:=qJ h_x2_1
  have i_x2_3:=qC h_x2_3
  have b_x2_3:=qJ h_x2_3
  have i_x2_5:=qC h_x2_5
  have b_x2_5:=qJ h_x2_5
  have i_x2_6:=qC h_x2_6
  have b_x2_6:=qJ h_x2_6
  have i_x2_7:=qC h_x2_7
  have b_x2_7:=qJ h_x2_7
  refine bS (d:=dB (true)) (qL (by omega) e_x2) ?_
  refine bS (d:=.agg [dI (x2_0),x2_1,dI (x2_2),x2_3,dI (x2_4),x2_5,x2_6,x2_7]) (z8 i_a (by omega) e_x2 rfl) ?_
  refine cS (qZG (x0:=x2_0) (b:=b)) ?_
  have e':a.es[i0]? = some _:=e_x2
  refine iC (fun c3=>?_) fun c3=>?_
  ·exact zY rfl (by
    show dI ((i0:Nat):Int)=dI (g8 a b)
    have hh:=qC4 hn0 e' c3
    unfold g8
    rw [hh,if_pos (by omega)])
  refine bS (d:=dI ((i0+1:Nat):Int)) (qP (qM (by omega))) ?_
  exact zA rfl (ih0 (by omega) (qAy hn0 e' c3))
 replace c1:=dF c1
 exact zY rfl (by
  show dI (-1)=dI (g8 a b)
  have:=qF5 a b
  unfold g8
  rw [if_neg (by omega)])
theorem qSt {a:D} {b:Int} (h_a:qE 300000000 (.sl 59 8 cJ) a):qA EE 43 [a,dI b] (iP a b):=by
 refine qY2 rfl (qG.step' ?_)
 have i_a:=qC h_a
 have b_a:=qJ h_a
 refine bS (vY rfl) ?_
 refine bS qLJ ?_
 refine cS (qZH h_a) ?_
 refine bS qK ?_
 have hle:=qF5 a b
 refine iC (fun c0=>?_) fun c0=>?_
 ·replace c0:=dT c0
  refine zW rfl ?_
  refine (qCd ?_).symm
  unfold g8 at c0
  split at c0 <;> omega
 replace c0:=dF c0
 have hf:pP a b < a.es.length/\g8 a b=(pP a b:Int):=by
  unfold g8 at c0 ⊢
  split at c0
  ·rename_i h; exact ⟨h,if_pos h⟩
  omega
 rw [hf.2]
 obtain ⟨x2,e_x2⟩:=get_at (d:=a) (s:=(pP a b:Int)) (by omega) (by omega)
 have e':a.es[pP a b]? = some x2:=e_x2
 obtain ⟨_,rfl,_,_,rfl,⟨x2_0,rfl⟩,x2_1,_,rfl,h_x2_1,_,_,rfl,⟨x2_2,rfl⟩,x2_3,_,rfl,h_x2_3,_,_,rfl,⟨x2_4,rfl⟩,x2_5,_,rfl,h_x2_5,x2_6,_,rfl,h_x2_6,x2_7,_,rfl,h_x2_7,rfl⟩:=(qN h_a e_x2)
 refine bS (d:=dB true) (qL (by omega) e_x2) ?_
 refine bS (z8 i_a (by omega) e_x2 rfl) ?_
 refine bS (qI rfl) ?_
 refine zW rfl ?_
 exact (qAx rfl e').symm
end Go.Proofs.YtnemldklhelbeaaGreat
namespace Go.Proofs.YtnemldklhelbeaaGreat
open Go Go.Am Go.Proofs
attribute [local irreducible] Go.Am.wp Go.Am.TOp.eval
abbrev xT:Sh:=.sl 3 1 (.int .i64)
theorem xC {l:D} {id:Int} (h:qE 1048576 (.sl 59 8 cJ) l) :
  (∃ (x0 x2 x4:Int) (x1 x3 x5 x6 x7:D),qE 1048576 xT x1/\qE 1048576 (.sl 31 1 xT) x3/\qE 1048576 (.sl 79 2 (.st [.str,.str])) x5/\qE 1048576 (.sl 134 2 (.st [.int .i64,.int .i64])) x6/\qE 1048576 (.sl 182 2 (.st [.int .i64,.int .i64])) x7 /\
   l.es[pP l id]? = some (.agg [dI x0,x1,dI x2,x3,dI x4,x5,x6,x7])/\iP l id=.tup [.agg [dI x0,x1,dI x2,x3,dI x4,x5,x6,x7],dB true]) ∨
  (l.es[pP l id]? = none/\iP l id=.tup [aM,dB false]):=by
 cases he:l.es[pP l id]? with
 | none=>exact .inr ⟨rfl,by unfold iP; rw [he]⟩
 | some x =>
  left
  obtain ⟨_,rfl,_,_,rfl,⟨x0,rfl⟩,x1,_,rfl,h1,_,_,rfl,⟨x2,rfl⟩,x3,_,rfl,h3,_,_,rfl,⟨x4,rfl⟩,x5,_,rfl,h5,x6,_,rfl,h6,x7,_,rfl,h7,rfl⟩:=qN h he
  exact ⟨x0,x2,x4,x1,x3,x5,x6,x7,h1,h3,h5,h6,h7,rfl,qAx rfl he⟩
def kZ (l:D) (p0 p1:Int):Option (D × D):=match l.es[pP l p0]? with
 | some (.agg (_::x1::x2::x3::_))=>if 0<=p1/\p1 < ((x1::x3.es).length:Int) then some (x2,((x1::x3.es)[p1.toNat]?).getD .nil) else none
 | _=>none
theorem nN {x1 x3:D} (h1:qE 1048576 xT x1) (h3:qE 1048576 (.sl 31 1 xT) x3):∀ y∈x1::x3.es,qE 1048576 xT y:=by
 intro y hy
 rcases List.mem_cons.1 hy with rfl | hy
 ·exact h1
 obtain ⟨i,hi⟩:=List.mem_iff_getElem?.1 hy
 exact qN h3 hi
theorem eF {l:D} {p0 p1:Int} {c w:D} (h:qE 1048576 (.sl 59 8 cJ) l) (hs:kZ l p0 p1=some (c,w)):(∃ n,c=dI n)/\qE 1048576 xT w:=by
 unfold kZ at hs
 rcases xC (id:=p0) h with ⟨x0,x2,x4,x1,x3,x5,x6,x7,h1,h3,h5,h6,h7,he,_⟩ | ⟨he,_⟩
 ·rw [he] at hs
  simp only at hs
  split at hs
  ·rename_i hc
   simp only [oI,Prod.mk.injEq] at hs
   obtain ⟨rfl,rfl⟩:=hs
   refine ⟨⟨_,rfl⟩,?_⟩
   have hl:p1.toNat < (x1::x3.es).length:=by omega
   rw [List.getElem?_eq_getElem hl]
   exact nN h1 h3 _ (List.getElem_mem hl)
  cases hs
 rw [he] at hs; cases hs
theorem bK {x1 x3:D} (h1:qE 1048576 xT x1) (h3:qE 1048576 (.sl 31 1 xT) x3):qE 300000000 (.sl 31 1 xT) (.sl 31 1 (x1::x3.es)) :=
 rB (by have:=qJ h3; simp; omega) fun y hy=>zQ (by decide) (nN h1 h3 y hy)
theorem qX8 {x0 x2 x4:Int} {x1 x3 x5 x6 x7:D} (h1:qE 1048576 xT x1) (h3:qE 1048576 (.sl 31 1 xT) x3):qA EE 77 [.agg [dI x0,x1,dI x2,x3,dI x4,x5,x6,x7]] (.sl 31 1 (x1::x3.es)):=by
 refine qYM rfl (qG.step' ?_)
 have i_x1:=qC h1
 have i_x3:=qC h3
 have b_x3:=qJ h3
 refine bS (qI rfl) ?_
 refine bS (qB (off:=1) rfl i_x1.one) ?_
 refine bS (vY i_x1.one) ?_
 refine bS (wU i_x1.one) ?_
 refine bS (qB (off:=3) rfl i_x3.one) ?_
 refine bS (d:=.sl 31 1 (x1::x3.es)) (gD (el:=31) (sz:=1) (bytes:=24) (l:=[x1]) h3 (by decide) (by simp; omega)) ?_
 exact qD rfl rfl
theorem qXc {x0 x2 x4:Int} {x1 x3 x5 x6 x7:D} (h1:qE 1048576 xT x1) (h3:qE 1048576 (.sl 31 1 xT) x3):qA EE 81 [.agg [dI x0,x1,dI x2,x3,dI x4,x5,x6,x7]] (.sl 31 1 (x1::x3.es)):=by
 refine qYI rfl (qG.step' ?_)
 have i_x1:=qC h1
 have i_x3:=qC h3
 have b_x3:=qJ h3
 refine bS (qI rfl) ?_
 refine bS (qB (off:=1) rfl i_x1.one) ?_
 refine bS (vY i_x1.one) ?_
 refine bS (wU i_x1.one) ?_
 refine bS (qB (off:=3) rfl i_x3.one) ?_
 refine bS (d:=.sl 31 1 (x1::x3.es)) (gD (el:=31) (sz:=1) (bytes:=24) (l:=[x1]) h3 (by decide) (by simp; omega)) ?_
 exact qD rfl rfl
theorem qXd {x0 x2 x4:Int} {x1 x3 x5 x6 x7:D} {q:Int} (h1:qE 1048576 xT x1) (h3:qE 1048576 (.sl 31 1 xT) x3):qA EE 76 [.agg [dI x0,x1,dI x2,x3,dI x4,x5,x6,x7],dI q] (dB (decide (0<=q/\q < ((x1::x3.es).length:Int)))):=by
 refine qYN rfl (qG.step' ?_)
 have i_f:=qC (bK h1 h3)
 refine bS (qI rfl) ?_
 refine bS wE ?_
 refine iC (fun c0=>?_) fun c0=>?_
 ·replace c0:=dT c0
  refine cS (qX8 h1 h3) ?_
  refine bS (d:=dI ((((x1::x3.es).length:Nat)):Int)) (qH i_f) ?_
  refine bS qK ?_
  refine qD (d':=dB (decide (q < ((x1::x3.es).length:Int)))) rfl (qEN ?_)
  rw [decide_eq_decide]
  constructor
  ·intro h; exact ⟨by omega,h⟩
  intro h; exact h.2
 replace c0:=dF c0
 refine qD (d':=dB false) rfl (qEN ?_)
 symm
 rw [decide_eq_false_iff_not]
 intro h
 omega
theorem qXe {g:List D} {l:D} {p0 p1 p2:Int} (hg:g.length=9) (hl:g[8]? = some l) (h:qE 1048576 (.sl 59 8 cJ) l) :
  ∃ (y0 y2 y4:Int) (y1 y3 y5 y6 y7 w:D) (b:Bool),qA EE 44 [.agg g,.agg [dI p0,dI p1,dI p2]] (.tup [.agg [dI y0,y1,dI y2,y3,dI y4,y5,y6,y7],w,dB b])/\kZ l p0 p1=(if b then some (dI y2,w) else none)/\qE 1048576 xT w/\w.one=true:=by
 have hB:=zQ (B':=300000000) (by decide) h
 have i_l:=qC hB
 rcases xC (id:=p0) h with ⟨x0,x2,x4,x1,x3,x5,x6,x7,h1,h3,h5,h6,h7,he,hr⟩ | ⟨he,hr⟩
 ·have hsel:kZ l p0 p1=(if 0<=p1/\p1 < ((x1::x3.es).length:Int) then some (dI x2,((x1::x3.es)[p1.toNat]?).getD .nil) else none):=by
   unfold kZ; rw [he]
  have i_f:=qC (bK h1 h3)
  by_cases hc:0<=p1/\p1 < ((x1::x3.es).length:Int)
  ·have hlt:p1.toNat < (x1::x3.es).length:=by omega
   have hw:=nN h1 h3 _ (List.getElem_mem hlt)
   have hwe:(x1::x3.es)[p1.toNat]? = some ((x1::x3.es)[p1.toNat]):=List.getElem?_eq_getElem hlt
   generalize (x1::x3.es)[p1.toNat]=w at hw hwe
   have i_w:=qC hw
   refine ⟨x0,x2,x4,x1,x3,x5,x6,x7,w,true,?_,by rw [hsel,if_pos hc,hwe]; rfl,hw,i_w.one⟩
   refine qWe rfl (qG.step' ?_)
   refine bS (qI hg) ?_
   refine bS (qI rfl) ?_
   refine bS (qB (off:=8) hl i_l.one) ?_
   refine bS (qB (off:=0) rfl rfl) ?_
   refine cS (d:=.tup [.agg [dI x0,x1,dI x2,x3,dI x4,x5,x6,x7],dB true]) (by rw [← hr]; exact qSt hB) ?_
   refine bS (zF rfl) ?_
   refine bS (zF rfl) ?_
   refine bS (qI rfl) ?_
   refine cS (qXc h1 h3) ?_
   refine bS zZ ?_
   refine jJ rfl ?_
   refine mZ ?_
   refine bS (qB (off:=1) rfl rfl) ?_
   refine bS qK ?_
   refine iC (fun c0=>?_) fun c0=>?_
   ·replace c0:=dT c0
    omega
   refine bS (qB (off:=1) rfl rfl) ?_
   refine bS (d:=dI (((x1::x3.es).length:Nat):Int)) (qH i_f) ?_
   refine bS wE ?_
   refine iC (fun c1=>?_) fun c1=>?_
   ·replace c1:=dT c1
    omega
   refine bS (qB (off:=1) rfl rfl) ?_
   refine bS (qL (d:=.sl 31 1 (x1::x3.es)) hc.1 hwe) ?_
   refine bS (qO i_f hc.1 hwe i_w.one) ?_
   refine bS (qI rfl) ?_
   refine bS (qL (d:=.sl 31 1 (x1::x3.es)) hc.1 hwe) ?_
   exact zW rfl rfl
  refine ⟨x0,x2,x4,x1,x3,x5,x6,x7,.nil,false,?_,by rw [hsel,if_neg hc]; rfl,wZ,rfl⟩
  refine qWe rfl (qG.step' ?_)
  refine bS (qI hg) ?_
  refine bS (qI rfl) ?_
  refine bS (qB (off:=8) hl i_l.one) ?_
  refine bS (qB (off:=0) rfl rfl) ?_
  refine cS (d:=.tup [.agg [dI x0,x1,dI x2,x3,dI x4,x5,x6,x7],dB true]) (by rw [← hr]; exact qSt hB) ?_
  refine bS (zF rfl) ?_
  refine bS (zF rfl) ?_
  refine bS (qI rfl) ?_
  refine cS (qXc h1 h3) ?_
  refine bS zZ ?_
  refine jJ rfl ?_
  refine mZ ?_
  refine bS (qB (off:=1) rfl rfl) ?_
  refine bS qK ?_
  refine iC (fun c0=>?_) fun c0=>?_
  ·refine bS (qI rfl) ?_
   exact zW rfl rfl
  replace c0:=dF c0
  refine bS (qB (off:=1) rfl rfl) ?_
  refine bS (d:=dI (((x1::x3.es).length:Nat):Int)) (qH i_f) ?_
  refine bS wE ?_
  refine iC (fun c1=>?_) fun c1=>?_
  ·refine bS (qI rfl) ?_
   exact zW rfl rfl
  replace c1:=dF c1
  exact absurd ⟨by omega,by omega⟩ hc
 refine ⟨0,0,0,.nil,.nil,.nil,.nil,.nil,.nil,false,?_,by unfold kZ; rw [he]; rfl,wZ,rfl⟩
 refine qWe rfl (qG.step' ?_)
 refine bS (qI hg) ?_
 refine bS (qI rfl) ?_
 refine bS (qB (off:=8) hl i_l.one) ?_
 refine bS (qB (off:=0) rfl rfl) ?_
 refine cS (d:=.tup [aM,dB false]) (by rw [← hr]; exact qSt hB) ?_
 refine bS (zF rfl) ?_
 refine bS (zF rfl) ?_
 refine bS (qI rfl) ?_
 refine cS (qXc (x1:=.nil) (x3:=.nil) wZ wZ) ?_
 refine bS zZ ?_
 refine jJ rfl ?_
 refine lM ?_
 refine bS (qI rfl) ?_
 exact zW rfl rfl
end Go.Proofs.YtnemldklhelbeaaGreat
namespace Go.Proofs.YtnemldklhelbeaaGreat
open Go Go.Am Go.Proofs
attribute [local irreducible] Go.Am.wp Go.Am.TOp.eval
abbrev qJg:Sh:=.sl 82 3 (.st [.int .i64,.int .i64,.int .i64])
def FC (l:D):D->List D
 | .agg [.leaf (.int .i64 p0),.leaf (.int .i64 p1),_]=>match kZ l p0 p1 with
  | some (c,_)=>[c]
  | none=>[]
 | _=>[]
def FB (l:D):D->List D
 | .agg [.leaf (.int .i64 p0),.leaf (.int .i64 p1),_]=>match kZ l p0 p1 with
  | some (_,w)=>w.es
  | none=>[]
 | _=>[]
theorem qZR {g:List D} {l ps:D} (hg:g.length=9) (hl:g[8]? = some l) (h:qE 1048576 (.sl 59 8 cJ) l) (hp:qE 300000000 qJg ps) (hn:ps.es.length<=20) :
  qA EE 21 [.agg g,.agg [ps]] (qV 3 1 (ps.es.flatMap (FC l))):=by
 suffices hh:∃ d,d=qV 3 1 (ps.es.flatMap (FC l))/\qG EE (qA EE) qJK 0 [.agg g,.agg [ps]] d by
  obtain ⟨d,rfl,hg'⟩:=hh; exact qZa rfl hg'
 have i_p:=qC hp
 have hFC:∀ x∈ps.es,(FC l x).length<=1:=by
  intro x _
  unfold FC
  split
  ·split <;> simp
  simp
 refine jA (R:=(fun d=>d=qV 3 1 (ps.es.flatMap (FC l)))) ?_
 refine bS (qI hg) ?_
 refine bS (qI rfl) ?_
 refine bS (qB (off:=0) rfl i_p.one) ?_
 refine bS (qH i_p) ?_
 refine zA rfl (vT (P:=fun i=>i<=ps.es.length->∃ d,d=qV 3 1 (ps.es.flatMap (FC l))/\qG EE (qA EE) qJK 1 [qV 3 1 ((ps.es.take i).flatMap (FC l)),ps,dI ((ps.es.length:Nat):Int),dI ((i:Nat):Int),.agg g] d) (ps.es.length) (fun i ih=>?_) 0 (by omega))
 intro hi
 refine jA (R:=(fun d=>d=qV 3 1 (ps.es.flatMap (FC l)))) ?_
 refine bS qK ?_
 refine iC (fun c1=>?_) fun c1=>?_
 ·replace c1:=dT c1
  obtain ⟨x,e_x⟩:=get_at (d:=ps) (s:=((i:Nat):Int)) (by omega) (by omega)
  obtain ⟨_,rfl,_,_,rfl,⟨p0,rfl⟩,_,_,rfl,⟨p1,rfl⟩,_,_,rfl,⟨p2,rfl⟩,rfl⟩:=qN hp e_x
  have e':ps.es[i]? = some (.agg [dI p0,dI p1,dI p2]):=e_x
  have htk:=bA (F:=FC l) e'
  have hlen:((ps.es.take i).flatMap (FC l)).length<=(ps.es.take i).length * 1:=j8 fun y hy=>hFC y (List.mem_of_mem_take hy)
  rw [List.length_take] at hlen
  obtain ⟨y0,y2,y4,y1,y3,y5,y6,y7,w,b,k21,hs,hw,ho⟩:=qXe (p0:=p0) (p1:=p1) (p2:=p2) hg hl h
  have hF:FC l (.agg [dI p0,dI p1,dI p2])=if b then [dI y2] else []:=by
   show (match kZ l p0 p1 with | some (c,_)=>[c] | none=>[])=_
   rw [hs]
   cases b <;> rfl
  refine bS (d:=dB true) (qL (by omega) e_x) ?_
  refine bS (d:=.agg [dI p0,dI p1,dI p2]) (z8 i_p (by omega) e_x rfl) ?_
  refine bS (qI rfl) ?_
  refine cS k21 ?_
  refine bS (zF rfl) ?_
  refine bS (zF rfl) ?_
  refine bS (zF rfl) ?_
  refine bS (qI rfl) ?_
  refine iC (fun c2=>?_) fun c2=>?_
  ·subst c2
   rw [hF] at htk
   refine bS (qB (off:=2) rfl rfl) ?_
   refine bS (vY rfl) ?_
   refine bS (wU rfl) ?_
   refine bS (d:=qV 3 1 ((ps.es.take (i+1)).flatMap (FC l))) (by rw [htk]; exact gD (B:=300000000) (e:=.int .i64) (b:=.sl 3 1 [dI y2]) (rB (by simp) (fU jH fT)) (by decide) (by show _+1<=_; omega)) ?_
   refine bS (d:=dI ((i+1:Nat):Int)) (qP (qM (by omega))) ?_
   exact zA rfl (ih (by omega) (by omega))
  subst c2
  rw [hF] at htk
  refine bS (d:=dI ((i+1:Nat):Int)) (qP (qM (by omega))) ?_
  have hih:=ih (by omega) (by omega)
  rw [htk] at hih
  simp only [Bool.false_eq_true,if_false,List.append_nil] at hih
  exact zA rfl hih
 replace c1:=dF c1
 have:i=ps.es.length:=by omega
 subst this
 exact zY (ds:=[qV 3 1 ((ps.es.take ps.es.length).flatMap (FC l))]) rfl (by show qV 3 1 _=_; rw [List.take_length])
end Go.Proofs.YtnemldklhelbeaaGreat
namespace Go.Proofs.YtnemldklhelbeaaGreat
open Go Go.Am Go.Proofs
attribute [local irreducible] Go.Am.wp Go.Am.TOp.eval
theorem qYa {g:List D} {l ps:D} (hg:g.length=9) (hl:g[8]? = some l) (h:qE 1048576 (.sl 59 8 cJ) l) (hp:qE 300000000 qJg ps) (hn:ps.es.length<=20) :
  qA EE 22 [.agg g,.agg [ps]] (qV 3 1 (ps.es.flatMap (FB l))):=by
 suffices hh:∃ d,d=qV 3 1 (ps.es.flatMap (FB l))/\qG EE (qA EE) qJJ 0 [.agg g,.agg [ps]] d by
  obtain ⟨d,rfl,hg'⟩:=hh; exact qY9 rfl hg'
 have i_p:=qC hp
 have hFC:∀ x∈ps.es,(FB l x).length<=1048576:=by
  intro x _
  unfold FB
  split
  ·split
   ·rename_i c w hs
    exact qJ (eF h hs).2
   simp
  simp
 refine jA (R:=(fun d=>d=qV 3 1 (ps.es.flatMap (FB l)))) ?_
 refine bS (qI hg) ?_
 refine bS (qI rfl) ?_
 refine bS (qB (off:=0) rfl i_p.one) ?_
 refine bS (qH i_p) ?_
 refine zA rfl (vT (P:=fun i=>i<=ps.es.length->∃ d,d=qV 3 1 (ps.es.flatMap (FB l))/\qG EE (qA EE) qJJ 1 [qV 3 1 ((ps.es.take i).flatMap (FB l)),ps,dI ((ps.es.length:Nat):Int),dI ((i:Nat):Int),.agg g] d) (ps.es.length) (fun i ih=>?_) 0 (by omega))
 intro hi
 refine jA (R:=(fun d=>d=qV 3 1 (ps.es.flatMap (FB l)))) ?_
 refine bS qK ?_
 refine iC (fun c1=>?_) fun c1=>?_
 ·replace c1:=dT c1
  obtain ⟨x,e_x⟩:=get_at (d:=ps) (s:=((i:Nat):Int)) (by omega) (by omega)
  obtain ⟨_,rfl,_,_,rfl,⟨p0,rfl⟩,_,_,rfl,⟨p1,rfl⟩,_,_,rfl,⟨p2,rfl⟩,rfl⟩:=qN hp e_x
  have e':ps.es[i]? = some (.agg [dI p0,dI p1,dI p2]):=e_x
  have htk:=bA (F:=FB l) e'
  have hlen:((ps.es.take i).flatMap (FB l)).length<=(ps.es.take i).length * 1048576:=j8 fun y hy=>hFC y (List.mem_of_mem_take hy)
  rw [List.length_take,Nat.min_eq_left (by omega)] at hlen
  obtain ⟨y0,y2,y4,y1,y3,y5,y6,y7,w,b,k21,hs,hw,ho⟩:=qXe (p0:=p0) (p1:=p1) (p2:=p2) hg hl h
  have hF:FB l (.agg [dI p0,dI p1,dI p2])=if b then w.es else []:=by
   show (match kZ l p0 p1 with | some (_,w)=>w.es | none=>[])=_
   rw [hs]
   cases b <;> rfl
  refine bS (d:=dB true) (qL (by omega) e_x) ?_
  refine bS (d:=.agg [dI p0,dI p1,dI p2]) (z8 i_p (by omega) e_x rfl) ?_
  refine bS (qI rfl) ?_
  refine cS k21 ?_
  refine bS (zF rfl) ?_
  refine bS (zF rfl) ?_
  refine bS (zF rfl) ?_
  refine bS (qI rfl) ?_
  refine iC (fun c2=>?_) fun c2=>?_
  ·subst c2
   rw [hF] at htk
   have hwl:=qJ hw
   refine bS (d:=qV 3 1 ((ps.es.take (i+1)).flatMap (FB l))) (by rw [htk]; exact gD hw (by decide) (by show _+w.es.length<=_; omega)) ?_
   refine bS (d:=dI ((i+1:Nat):Int)) (qP (qM (by omega))) ?_
   exact zA rfl (ih (by omega) (by omega))
  subst c2
  rw [hF] at htk
  refine bS (d:=dI ((i+1:Nat):Int)) (qP (qM (by omega))) ?_
  have hih:=ih (by omega) (by omega)
  rw [htk] at hih
  simp only [Bool.false_eq_true,if_false,List.append_nil] at hih
  exact zA rfl hih
 replace c1:=dF c1
 have:i=ps.es.length:=by omega
 subst this
 exact zY (ds:=[qV 3 1 ((ps.es.take ps.es.length).flatMap (FB l))]) rfl (by show qV 3 1 _=_; rw [List.take_length])
theorem qZM {g:List D} {l ps:D} (hg:g.length=9) (hl:g[8]? = some l) (h:qE 1048576 (.sl 59 8 cJ) l) (hp:qE 300000000 qJg ps) (hn:ps.es.length<=20) :
  qA EE 49 [.agg g,.agg [ps]] (qV 3 1 (ps.es.flatMap (FC l))):=by
 suffices hh:∃ d,d=qV 3 1 (ps.es.flatMap (FC l))/\qG EE (qA EE) qJD 0 [.agg g,.agg [ps]] d by
  obtain ⟨d,rfl,hg'⟩:=hh; exact qYX rfl hg'
 have i_p:=qC hp
 have hB:=zQ (B':=300000000) (by decide) h
 have i_l:=qC hB
 have hFC:∀ x∈ps.es,(FC l x).length<=1:=by
  intro x _
  unfold FC
  split
  ·split <;> simp
  simp
 refine jA (R:=(fun d=>d=qV 3 1 (ps.es.flatMap (FC l)))) ?_
 refine bS (qI hg) ?_
 refine bS (qI rfl) ?_
 refine zA rfl (vT (P:=fun i=>i<=ps.es.length->∃ d,d=qV 3 1 (ps.es.flatMap (FC l))/\qG EE (qA EE) qJD 1 [qV 3 1 ((ps.es.take i).flatMap (FC l)),dI ((i:Nat):Int),.agg g,.agg [ps]] d) (ps.es.length) (fun i ih=>?_) 0 (by omega))
 intro hi
 refine jA (R:=(fun d=>d=qV 3 1 (ps.es.flatMap (FC l)))) ?_
 refine bS (qB (off:=0) rfl i_p.one) ?_
 refine bS (qH i_p) ?_
 refine bS qK ?_
 refine iC (fun c1=>?_) fun c1=>?_
 ·replace c1:=dT c1
  obtain ⟨x,e_x⟩:=get_at (d:=ps) (s:=((i:Nat):Int)) (by omega) (by omega)
  obtain ⟨_,rfl,_,_,rfl,⟨p0,rfl⟩,_,_,rfl,⟨p1,rfl⟩,_,_,rfl,⟨p2,rfl⟩,rfl⟩:=qN hp e_x
  have e':ps.es[i]? = some (.agg [dI p0,dI p1,dI p2]):=e_x
  have htk:=bA (F:=FC l) e'
  have hlen:((ps.es.take i).flatMap (FC l)).length<=(ps.es.take i).length * 1:=j8 fun y hy=>hFC y (List.mem_of_mem_take hy)
  rw [List.length_take,Nat.min_eq_left (by omega)] at hlen
  have hFd:FC l (.agg [dI p0,dI p1,dI p2])=(match kZ l p0 p1 with | some (c,w)=>[c] | none=>[]):=rfl
  refine bS (qB (off:=8) hl i_l.one) ?_
  refine bS (qB (off:=0) rfl i_p.one) ?_
  refine bS (d:=dB true) (qL (by omega) e_x) ?_
  refine bS (d:=dI p0) (z9 (off:=0) i_p (by omega) e_x rfl rfl (by decide)) ?_
  rcases xC (id:=p0) h with ⟨x0,x2,x4,x1,x3,x5,x6,x7,h1,h3,h5,h6,h7,he,hr⟩ | ⟨he,hr⟩
  ·have hsel:kZ l p0 p1=(if 0<=p1/\p1 < ((x1::x3.es).length:Int) then some (dI x2,((x1::x3.es)[p1.toNat]?).getD .nil) else none):=by
    unfold kZ; rw [he]
   have i_f:=qC (bK h1 h3)
   refine cS (d:=.tup [.agg [dI x0,x1,dI x2,x3,dI x4,x5,x6,x7],dB true]) (by rw [← hr]; exact qTt hB) ?_
   refine bS (zF rfl) ?_
   refine bS (zF rfl) ?_
   refine bS (qI rfl) ?_
   refine jJ (t:=true) rfl ?_
   refine lM ?_
   refine bS (qB (off:=0) rfl i_p.one) ?_
   refine bS (d:=dB true) (qL (by omega) e_x) ?_
   refine bS (d:=dI p1) (z9 (off:=1) i_p (by omega) e_x rfl rfl (by decide)) ?_
   refine cS (qXd h1 h3) ?_
   refine iC (fun c2=>?_) fun c2=>?_
   ·replace c2:=dT c2
    rw [hFd,hsel,if_pos c2] at htk
    have hlt:p1.toNat < (x1::x3.es).length:=by omega
    have hw:=nN h1 h3 _ (List.getElem_mem hlt)
    have hwe:(x1::x3.es)[p1.toNat]? = some ((x1::x3.es)[p1.toNat]):=List.getElem?_eq_getElem hlt
    generalize (x1::x3.es)[p1.toNat]=w at hw hwe
    rw [hwe] at htk
    have i_w:=qC hw
    have hwl:=qJ hw
    refine bS (qB (off:=2) rfl rfl) ?_
    refine bS (vY rfl) ?_
    refine bS (wU rfl) ?_
    refine bS (d:=qV 3 1 ((ps.es.take (i+1)).flatMap (FC l))) (by rw [htk]; exact gD (B:=300000000) (e:=.int .i64) (b:=.sl 3 1 [dI x2]) (rB (by simp) (fU jH fT)) (by decide) (by show _+1<=_; omega)) ?_
    refine bS (d:=dI ((i+1:Nat):Int)) (qP (qM (by omega))) ?_
    exact zA rfl (ih (by omega) (by omega))
   replace c2:=dF c2
   rw [hFd,hsel,if_neg c2] at htk
   refine bS (d:=dI ((i+1:Nat):Int)) (qP (qM (by omega))) ?_
   have hih:=ih (by omega) (by omega)
   rw [htk] at hih
   simp only [List.append_nil] at hih
   exact zA rfl hih
  have hsel:kZ l p0 p1=none:=by unfold kZ; rw [he]
  rw [hFd,hsel] at htk
  refine cS (d:=.tup [aM,dB false]) (by rw [← hr]; exact qTt hB) ?_
  refine bS (zF rfl) ?_
  refine bS (zF rfl) ?_
  refine bS (qI rfl) ?_
  refine jJ (t:=false) rfl ?_
  refine mZ ?_
  refine bS (d:=dI ((i+1:Nat):Int)) (qP (qM (by omega))) ?_
  have hih:=ih (by omega) (by omega)
  rw [htk] at hih
  simp only [List.append_nil] at hih
  exact zA rfl hih
 replace c1:=dF c1
 have:i=ps.es.length:=by omega
 subst this
 exact zY (ds:=[qV 3 1 ((ps.es.take ps.es.length).flatMap (FC l))]) rfl (by show qV 3 1 _=_; rw [List.take_length])
theorem qX9 {g:List D} {l ps:D} (hg:g.length=9) (hl:g[8]? = some l) (h:qE 1048576 (.sl 59 8 cJ) l) (hp:qE 300000000 qJg ps) (hn:ps.es.length<=20) :
  qA EE 41 [.agg g,.agg [ps]] (qV 3 1 (ps.es.flatMap (FB l))):=by
 suffices hh:∃ d,d=qV 3 1 (ps.es.flatMap (FB l))/\qG EE (qA EE) qJE 0 [.agg g,.agg [ps]] d by
  obtain ⟨d,rfl,hg'⟩:=hh; exact qY4 rfl hg'
 have i_p:=qC hp
 have hB:=zQ (B':=300000000) (by decide) h
 have i_l:=qC hB
 have hFC:∀ x∈ps.es,(FB l x).length<=1048576:=by
  intro x _
  unfold FB
  split
  ·split
   ·rename_i c w hs
    exact qJ (eF h hs).2
   simp
  simp
 refine jA (R:=(fun d=>d=qV 3 1 (ps.es.flatMap (FB l)))) ?_
 refine bS (qI hg) ?_
 refine bS (qI rfl) ?_
 refine zA rfl (vT (P:=fun i=>i<=ps.es.length->∃ d,d=qV 3 1 (ps.es.flatMap (FB l))/\qG EE (qA EE) qJE 1 [qV 3 1 ((ps.es.take i).flatMap (FB l)),dI ((i:Nat):Int),.agg g,.agg [ps]] d) (ps.es.length) (fun i ih=>?_) 0 (by omega))
 intro hi
 refine jA (R:=(fun d=>d=qV 3 1 (ps.es.flatMap (FB l)))) ?_
 refine bS (qB (off:=0) rfl i_p.one) ?_
 refine bS (qH i_p) ?_
 refine bS qK ?_
 refine iC (fun c1=>?_) fun c1=>?_
 ·replace c1:=dT c1
  obtain ⟨x,e_x⟩:=get_at (d:=ps) (s:=((i:Nat):Int)) (by omega) (by omega)
  obtain ⟨_,rfl,_,_,rfl,⟨p0,rfl⟩,_,_,rfl,⟨p1,rfl⟩,_,_,rfl,⟨p2,rfl⟩,rfl⟩:=qN hp e_x
  have e':ps.es[i]? = some (.agg [dI p0,dI p1,dI p2]):=e_x
  have htk:=bA (F:=FB l) e'
  have hlen:((ps.es.take i).flatMap (FB l)).length<=(ps.es.take i).length * 1048576:=j8 fun y hy=>hFC y (List.mem_of_mem_take hy)
  rw [List.length_take,Nat.min_eq_left (by omega)] at hlen
  have hFd:FB l (.agg [dI p0,dI p1,dI p2])=(match kZ l p0 p1 with | some (c,w)=>w.es | none=>[]):=rfl
  refine bS (qB (off:=8) hl i_l.one) ?_
  refine bS (qB (off:=0) rfl i_p.one) ?_
  refine bS (d:=dB true) (qL (by omega) e_x) ?_
  refine bS (d:=dI p0) (z9 (off:=0) i_p (by omega) e_x rfl rfl (by decide)) ?_
  rcases xC (id:=p0) h with ⟨x0,x2,x4,x1,x3,x5,x6,x7,h1,h3,h5,h6,h7,he,hr⟩ | ⟨he,hr⟩
  ·have hsel:kZ l p0 p1=(if 0<=p1/\p1 < ((x1::x3.es).length:Int) then some (dI x2,((x1::x3.es)[p1.toNat]?).getD .nil) else none):=by
    unfold kZ; rw [he]
   have i_f:=qC (bK h1 h3)
   refine cS (d:=.tup [.agg [dI x0,x1,dI x2,x3,dI x4,x5,x6,x7],dB true]) (by rw [← hr]; exact qTt hB) ?_
   refine bS (zF rfl) ?_
   refine bS (zF rfl) ?_
   refine bS (qI rfl) ?_
   refine jJ (t:=true) rfl ?_
   refine lM ?_
   refine bS (qB (off:=0) rfl i_p.one) ?_
   refine bS (d:=dB true) (qL (by omega) e_x) ?_
   refine bS (d:=dI p1) (z9 (off:=1) i_p (by omega) e_x rfl rfl (by decide)) ?_
   refine cS (qXd h1 h3) ?_
   refine iC (fun c2=>?_) fun c2=>?_
   ·replace c2:=dT c2
    rw [hFd,hsel,if_pos c2] at htk
    have hlt:p1.toNat < (x1::x3.es).length:=by omega
    have hw:=nN h1 h3 _ (List.getElem_mem hlt)
    have hwe:(x1::x3.es)[p1.toNat]? = some ((x1::x3.es)[p1.toNat]):=List.getElem?_eq_getElem hlt
    generalize (x1::x3.es)[p1.toNat]=w at hw hwe
    rw [hwe] at htk
    have i_w:=qC hw
    have hwl:=qJ hw
    refine cS (qX8 h1 h3) ?_
    refine bS (qB (off:=0) rfl i_p.one) ?_
    refine bS (d:=dB true) (qL (by omega) e_x) ?_
    refine bS (d:=dI p1) (z9 (off:=1) i_p (by omega) e_x rfl rfl (by decide)) ?_
    refine bS (qL (d:=.sl 31 1 (x1::x3.es)) c2.1 hwe) ?_
    refine bS (qO i_f c2.1 hwe i_w.one) ?_
    refine bS (d:=qV 3 1 ((ps.es.take (i+1)).flatMap (FB l))) (by rw [htk]; exact gD hw (by decide) (by show _+w.es.length<=_; omega)) ?_
    refine bS (d:=dI ((i+1:Nat):Int)) (qP (qM (by omega))) ?_
    exact zA rfl (ih (by omega) (by omega))
   replace c2:=dF c2
   rw [hFd,hsel,if_neg c2] at htk
   refine bS (d:=dI ((i+1:Nat):Int)) (qP (qM (by omega))) ?_
   have hih:=ih (by omega) (by omega)
   rw [htk] at hih
   simp only [List.append_nil] at hih
   exact zA rfl hih
  have hsel:kZ l p0 p1=none:=by unfold kZ; rw [he]
  rw [hFd,hsel] at htk
  refine cS (d:=.tup [aM,dB false]) (by rw [← hr]; exact qTt hB) ?_
  refine bS (zF rfl) ?_
  refine bS (zF rfl) ?_
  refine bS (qI rfl) ?_
  refine jJ (t:=false) rfl ?_
  refine mZ ?_
  refine bS (d:=dI ((i+1:Nat):Int)) (qP (qM (by omega))) ?_
  have hih:=ih (by omega) (by omega)
  rw [htk] at hih
  simp only [List.append_nil] at hih
  exact zA rfl hih
 replace c1:=dF c1
 have:i=ps.es.length:=by omega
 subst this
 exact zY (ds:=[qV 3 1 ((ps.es.take ps.es.length).flatMap (FB l))]) rfl (by show qV 3 1 _=_; rw [List.take_length])
end Go.Proofs.YtnemldklhelbeaaGreat
