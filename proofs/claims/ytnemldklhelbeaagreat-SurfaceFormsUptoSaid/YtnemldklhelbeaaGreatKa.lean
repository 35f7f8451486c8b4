/- What rules make of a word, by the reference. Conditions: none. -/
import Derived.Test.YtnemldklhelbeaaGreatJv
import Derived.Test.YtnemldklhelbeaaGreatJe
import Derived.Test.YtnemldklhelbeaaGreatJz
set_option linter.unusedVariables false
set_option linter.unusedSimpArgs false
namespace Go.Proofs.YtnemldklhelbeaaGreat
open Go Go.Am Go.Proofs
attribute [local irreducible] Go.Am.wp Go.Am.TOp.eval
theorem qLV {m v w:Int}:lW [dI m,dI v] [dI m,dI w]=decide (w=v):=by
 simp only [qIW,qLU,qLW,qMQ]
 rw [show decide (v=w)=decide (w=v) from decide_eq_decide.2 eq_comm]
 simp
theorem qQY {gs:D} {s m v:Int} (hg:qE 300000000 aK gs):qA EE 120 [.agg [gs],dI s,.agg [dI m,dI v]] (dB (qCZ gs s m v)):=by
 have i_gs:=qC hg
 have b_gs:=qJ hg
 have k1:=qVk (s:=s) hg
 refine qWj rfl (qG.step' ?_)
 refine bS (qI rfl) ?_
 refine bS (qI rfl) ?_
 refine cS k1 ?_
 refine iC (fun c=>?_) fun c=>?_
 ·unfold qMD at c
  simp only [aE,decide_eq_true_eq] at c
  obtain ⟨x,e_x⟩:=Go.Am.get_at (d:=gs) (s:=s - 1) (by omega) (by omega)
  obtain ⟨_,rfl,_,_,rfl,⟨nm,rfl,_⟩,_,_,rfl,⟨f,rfl⟩,rfl⟩:=qN hg e_x
  have hf:qEC gs s=f:=by unfold qEC; rw [e_x]
  refine bS (qB (off:=0) rfl i_gs.one) ?_
  refine bS (d:=dI (s - 1)) (lI (by omega)) ?_
  refine bS (qL (s:=s - 1) (by omega) e_x) ?_
  refine bS (z9 (s:=s - 1) (off:=1) i_gs (by omega) e_x rfl rfl (by decide)) ?_
  refine bS (qB (off:=0) rfl rfl) ?_
  refine bS (qHA _ _) ?_
  refine bS (qB (off:=1) rfl rfl) ?_
  refine bS vX ?_
  refine qD rfl ?_
  unfold qCZ
  rw [hf,tD c.1,tD c.2,qLV]
  rfl
 have hc:qCZ gs s m v=false:=by
  unfold qMD at c
  unfold qCZ
  rw [← Bool.and_assoc,c,Bool.false_and]
 rw [hc]
 exact qD rfl rfl
theorem qUU {l:D} {x:Int} (hl:qE 300000000 xT l):qA EE 119 [l,dI x] (dB (decide (lC l x < l.es.length))):=by
 have i_l:=qC hl
 have b_l:=qJ hl
 refine qWk rfl (qG.step' ?_)
 refine bS (qH i_l) ?_
 refine qF rfl (vT (P:=fun i:Nat=>i<=lC l x->qG EE (qA EE) qJR 1 [l,dI x,dI ((l.es.length:Nat):Int),dI ((i:Nat):Int)] (dB (decide (lC l x < l.es.length)))) l.es.length (fun i ih=>?_) 0 (Nat.zero_le _))
 intro hi
 refine qG.step' ?_
 refine bS qK ?_
 refine iC (fun c=>?_) fun c=>?_
 ·have hil:=vV c
  obtain ⟨y,e_y⟩:=vH hil
  obtain ⟨q,rfl⟩:=qN hl e_y
  refine bS (qL (s:=((i:Nat):Int)) (by omega) e_y) ?_
  refine bS (qO (s:=((i:Nat):Int)) i_l (by omega) e_y rfl) ?_
  refine bS vX ?_
  refine iC (fun d=>?_) fun d=>?_
  ·have:=qLg hi e_y (tD (dT d).symm)
   rw [tD (show lC l x < l.es.length by omega)]
   exact qD rfl rfl
  refine bS (d:=dI ((i+1:Nat):Int)) (qP (qM (by omega))) ?_
  exact qF rfl (ih hil (qHl hi e_y (fD (fun h=>dF d h.symm))))
 have:=zC c
 rw [fD (show ¬ lC l x < l.es.length by omega)]
 exact qD rfl rfl
theorem qEw {gs:D} {l ks:List D} {k:Nat} {x y:D} (hx:l[k]? = some x) (hy:ks[k]? = some y):oN gs (l.drop k) (ks.drop k)=(qX7 gs x y && oN gs (l.drop (k+1)) (ks.drop (k+1))):=by
 rw [oP hx,oP hy]; rfl
theorem qHv {gs:D} {l ks:List D} {k:Nat} (h:ks.length<=k):oN gs (l.drop k) (ks.drop k)=true:=by
 rw [List.drop_of_length_le h]
 cases l.drop k <;> rfl
theorem qJt {w:List D} {a n k:Nat} (hk:k < n):((w.drop a).take n)[k]? = w[a+k]? := by
 rw [List.getElem?_take,if_pos hk,List.getElem?_drop]
theorem qUX {gs fr to lf rg w:D} {bg en:Bool} {i:Nat} {s:Int} (hg:qE 300000000 aK gs) (hfr:qE 300000000 xT fr) (hlf:qE 300000000 qHX lf) (hrg:qE 300000000 qHX rg) (hw:qE 300000000 xT w) (he:w.es[i]? = some (dI s)) :
  qA EE 102 [.agg [gs],.agg [fr,to,lf,rg,dB bg,dB en],w,dI ((i:Nat):Int)] (dB (cD gs fr lf rg bg en w i s)):=by
 have i_gs:=qC hg
 have i_fr:=qC hfr
 have i_lf:=qC hlf
 have i_rg:=qC hrg
 have i_w:=qC hw
 have b_lf:=qJ hlf
 have b_rg:=qJ hrg
 have b_w:=qJ hw
 have hi:i < w.es.length:=(gI he).1
 have hT2:i+1+rg.es.length<=w.es.length->qG EE (qA EE) tY 2 [w,dI ((i:Nat):Int),dI ((rg.es.length:Nat):Int),dI ((0:Nat):Int),.agg [gs],.agg [fr,to,lf,rg,dB bg,dB en]] (dB (oN gs (((w.es.drop (i+1)).take rg.es.length).drop 0) (rg.es.drop 0))):=by
  intro hr
  refine vK (P:=fun k=>qG EE (qA EE) tY 2 [w,dI ((i:Nat):Int),dI ((rg.es.length:Nat):Int),dI ((k:Nat):Int),.agg [gs],.agg [fr,to,lf,rg,dB bg,dB en]] (dB (oN gs (((w.es.drop (i+1)).take rg.es.length).drop k) (rg.es.drop k)))) rg.es.length ?_ ?_
  ·refine qG.step' ?_
   refine bS qK ?_
   refine iC (fun c=>?_) fun c=>?_
   ·have:=vV c; omega
   rw [qHv (zT _)]
   exact qD rfl rfl
  intro k hk ih
  obtain ⟨x,e_x⟩:=vH (l:=w) (i:=i+1+k) (by omega)
  obtain ⟨q,rfl⟩:=qN hw e_x
  obtain ⟨y,e_y⟩:=vH hk
  obtain ⟨_,rfl,_,_,rfl,⟨m,rfl⟩,_,_,rfl,⟨v,rfl⟩,rfl⟩:=qN hrg e_y
  rw [qEw (by rw [qJt hk]; exact e_x) e_y]
  have e_w:w.es[(((i+1:Nat):Int)+((k:Nat):Int)).toNat]? = some (dI q):=by
   rw [show (((i+1:Nat):Int)+((k:Nat):Int)).toNat=i+1+k by omega]; exact e_x
  have kI:=qQY (s:=q) (m:=m) (v:=v) hg
  refine qG.step' ?_
  refine bS qK ?_
  refine iC (fun c=>?_) fun c=>?_
  ·skip
   refine bS (d:=dI ((i+1:Nat):Int)) (qP (qM (by omega))) ?_
   refine bS (d:=dI (((i+1:Nat):Int)+((k:Nat):Int))) (xF (by omega)) ?_
   refine bS (qL (s:=((i+1:Nat):Int)+((k:Nat):Int)) (by omega) e_w) ?_
   refine bS (qO (s:=((i+1:Nat):Int)+((k:Nat):Int)) i_w (by omega) e_w rfl) ?_
   refine bS (qB (off:=3) rfl i_rg.one) ?_
   refine bS (qL (s:=((k:Nat):Int)) (by omega) e_y) ?_
   refine bS (z8 (s:=((k:Nat):Int)) i_rg (by omega) e_y rfl) ?_
   refine cS kI ?_
   refine bS zZ ?_
   show wp _ _ (To _ _ _ (dB (qCZ gs q m v && _))) _ _
   refine iC (fun d=>?_) fun d=>?_
   ·have hd:qCZ gs q m v=false:=by simpa using d
    rw [hd]
    exact qD rfl rfl
   have hd:qCZ gs q m v=true:=by simpa using d
   rw [hd,Bool.true_and]
   refine bS (d:=dI ((k+1:Nat):Int)) (qP (qM (by omega))) ?_
   exact qF rfl ih
  have:=zC c; omega
 have hT1:lf.es.length<=i->i+1+rg.es.length<=w.es.length->qG EE (qA EE) tY 1 [w,dI ((i:Nat):Int),dI ((i - lf.es.length:Nat):Int),dI ((lf.es.length:Nat):Int),dI ((0:Nat):Int),.agg [gs],.agg [fr,to,lf,rg,dB bg,dB en]] (dB (oN gs (((w.es.drop (i - lf.es.length)).take lf.es.length).drop 0) (lf.es.drop 0) && oN gs ((w.es.drop (i+1)).take rg.es.length) rg.es)):=by
  intro hl hr
  obtain ⟨a,ha⟩:∃ a,a=i - lf.es.length:=⟨_,rfl⟩
  rw [← ha]
  refine vK (P:=fun k=>qG EE (qA EE) tY 1 [w,dI ((i:Nat):Int),dI ((a:Nat):Int),dI ((lf.es.length:Nat):Int),dI ((k:Nat):Int),.agg [gs],.agg [fr,to,lf,rg,dB bg,dB en]] (dB (oN gs (((w.es.drop a).take lf.es.length).drop k) (lf.es.drop k) && oN gs ((w.es.drop (i+1)).take rg.es.length) rg.es))) lf.es.length ?_ ?_
  ·refine qG.step' ?_
   refine bS qK ?_
   refine iC (fun c=>?_) fun c=>?_
   ·have:=vV c; omega
   rw [qHv (zT _),Bool.true_and]
   refine bS (qB (off:=3) rfl i_rg.one) ?_
   refine bS (qH i_rg) ?_
   exact qF rfl (hT2 hr)
  intro k hk ih
  obtain ⟨x,e_x⟩:=vH (l:=w) (i:=a+k) (by omega)
  obtain ⟨q,rfl⟩:=qN hw e_x
  obtain ⟨y,e_y⟩:=vH hk
  obtain ⟨_,rfl,_,_,rfl,⟨m,rfl⟩,_,_,rfl,⟨v,rfl⟩,rfl⟩:=qN hlf e_y
  rw [qEw (by rw [qJt hk]; exact e_x) e_y]
  have e_w:w.es[(((a:Nat):Int)+((k:Nat):Int)).toNat]? = some (dI q):=by
   rw [show (((a:Nat):Int)+((k:Nat):Int)).toNat=a+k by omega]; exact e_x
  have kI:=qQY (s:=q) (m:=m) (v:=v) hg
  refine qG.step' ?_
  refine bS qK ?_
  refine iC (fun c=>?_) fun c=>?_
  ·skip
   refine bS (d:=dI (((a:Nat):Int)+((k:Nat):Int))) (xF (by omega)) ?_
   refine bS (qL (s:=((a:Nat):Int)+((k:Nat):Int)) (by omega) e_w) ?_
   refine bS (qO (s:=((a:Nat):Int)+((k:Nat):Int)) i_w (by omega) e_w rfl) ?_
   refine bS (qB (off:=2) rfl i_lf.one) ?_
   refine bS (qL (s:=((k:Nat):Int)) (by omega) e_y) ?_
   refine bS (z8 (s:=((k:Nat):Int)) i_lf (by omega) e_y rfl) ?_
   refine cS kI ?_
   refine bS zZ ?_
   show wp _ _ (To _ _ _ (dB ((qCZ gs q m v && _) && _))) _ _
   refine iC (fun d=>?_) fun d=>?_
   ·have hd:qCZ gs q m v=false:=by simpa using d
    rw [hd,Bool.false_and,Bool.false_and]
    exact qD rfl rfl
   have hd:qCZ gs q m v=true:=by simpa using d
   rw [hd,Bool.true_and]
   refine bS (d:=dI ((k+1:Nat):Int)) (qP (qM (by omega))) ?_
   exact qF rfl ih
  have:=zC c; omega
 refine qWt rfl (qG.step' ?_)
 refine bS (qI rfl) ?_
 refine bS (qI rfl) ?_
 refine bS (qB (off:=2) rfl i_lf.one) ?_
 refine bS (qH i_lf) ?_
 refine bS (d:=dI (((i:Nat):Int) - ((lf.es.length:Nat):Int))) (lI (by omega)) ?_
 refine bS (d:=dI ((i+1:Nat):Int)) (qP (qM (by omega))) ?_
 refine bS (qB (off:=3) rfl i_rg.one) ?_
 refine bS (qH i_rg) ?_
 refine bS (d:=dI (((i+1:Nat):Int)+((rg.es.length:Nat):Int))) (xF (by omega)) ?_
 refine bS (qB (off:=0) rfl i_fr.one) ?_
 refine bS (qL (s:=((i:Nat):Int)) (by omega) he) ?_
 refine bS (qO (s:=((i:Nat):Int)) i_w (by omega) he rfl) ?_
 refine cS (qUU hfr) ?_
 refine bS zZ ?_
 unfold cD
 refine iC (fun c1=>?_) fun c1=>?_
 ·have h1:¬ lC fr s < fr.es.length:=by simpa using c1
  rw [if_pos h1]
  exact qD rfl rfl
 have h1:¬ ¬ lC fr s < fr.es.length:=by simpa using c1
 rw [if_neg h1]
 refine bS qK ?_
 refine iC (fun c2=>?_) fun c2=>?_
 ·have h2:=dT c2
  rw [if_pos (by omega)]
  exact qD rfl rfl
 have h2:=dF c2
 rw [if_neg (by omega)]
 refine bS (qH i_w) ?_
 refine bS zL ?_
 refine iC (fun c3=>?_) fun c3=>?_
 ·have h3:=dT c3
  rw [if_pos (by omega)]
  exact qD rfl rfl
 have h3:=dF c3
 rw [if_neg (by omega)]
 have hfrom:((i:Nat):Int) - ((lf.es.length:Nat):Int)=((i - lf.es.length:Nat):Int):=by omega
 have hfin:=hT1 (by omega) (by omega)
 rw [List.drop_zero,List.drop_zero,← hfrom] at hfin
 refine bS (qB (off:=4) rfl rfl) ?_
 refine iC (fun c4=>?_) fun c4=>?_
 ·skip
  refine bS zS ?_
  refine iC (fun c5=>?_) fun c5=>?_
  ·have h5:=dT c5
   rw [if_pos ⟨c4,by omega⟩]
   exact qD rfl rfl
  have h5:=dF c5
  rw [if_neg (by omega)]
  refine bS (qB (off:=5) rfl rfl) ?_
  refine iC (fun c6=>?_) fun c6=>?_
  ·skip
   refine bS (qH i_w) ?_
   refine bS zS ?_
   refine iC (fun c7=>?_) fun c7=>?_
   ·have h7:=dT c7
    rw [if_pos ⟨c6,by omega⟩]
    exact qD rfl rfl
   have h7:=dF c7
   rw [if_neg (by omega)]
   refine bS (qB (off:=2) rfl i_lf.one) ?_
   refine bS (qH i_lf) ?_
   exact qF rfl hfin
  rw [if_neg (by rw [c6]; simp)]
  refine bS (qB (off:=2) rfl i_lf.one) ?_
  refine bS (qH i_lf) ?_
  exact qF rfl hfin
 rw [if_neg (by rw [c4]; simp)]
 refine bS (qB (off:=5) rfl rfl) ?_
 refine iC (fun c6=>?_) fun c6=>?_
 ·skip
  refine bS (qH i_w) ?_
  refine bS zS ?_
  refine iC (fun c7=>?_) fun c7=>?_
  ·have h7:=dT c7
   rw [if_pos ⟨c6,by omega⟩]
   exact qD rfl rfl
  have h7:=dF c7
  rw [if_neg (by omega)]
  refine bS (qB (off:=2) rfl i_lf.one) ?_
  refine bS (qH i_lf) ?_
  exact qF rfl hfin
 rw [if_neg (by rw [c6]; simp)]
 refine bS (qB (off:=2) rfl i_lf.one) ?_
 refine bS (qH i_lf) ?_
 exact qF rfl hfin
def Nz (l:List D):Prop:=∀ y∈l,∃ s:Int,y=dI s/\s≠0
theorem qTb {gs fr to lf rg:D} {bg en:Bool} {w:D} (hw:Nz w.es) (i:Nat):Nz (s6 gs fr to lf rg bg en w i):=by
 unfold s6
 intro y hy
 split at hy
 ·rename_i s he
  split at hy
  ·split at hy
   ·split at hy
    ·cases hy
    rename_i h; exact ⟨_,List.mem_singleton.1 hy,h⟩
   cases hy
  obtain ⟨q,hq,hz⟩:=hw _ (List.mem_iff_getElem?.2 ⟨i,he⟩)
  cases hq
  exact ⟨_,List.mem_singleton.1 hy,hz⟩
 cases hy
theorem qS8 {gs fr to lf rg:D} {bg en:Bool} {w:D} (hw:Nz w.es):Nz (qBl gs fr to lf rg bg en w).es:=by
 unfold qBl
 rw [gN]
 intro y hy
 obtain ⟨i,_,h⟩:=List.mem_flatMap.1 hy
 exact qTb hw i y h
theorem qVf {l:D} {x:Int} (hl:qE 300000000 xT l) (h:lC l x < l.es.length):l.es[lC l x]? = some (dI x):=by
 obtain ⟨y,e_y⟩:=vH h
 have h2:l.es.findIdx (qRa x) < l.es.length:=h
 have:=List.findIdx_getElem (w:=h2)
 have e2:l.es[l.es.findIdx (qRa x)]=y:=(gI e_y).2
 rw [e2] at this
 obtain ⟨n,rfl⟩:=qN hl e_y
 rw [e_y,dT (show decide (x=n)=true from this)]
theorem qWI {gs fr to lf rg w : D} {bg en : Bool} (hg : qE 300000000 aK gs) (hfr : qE 300000000 xT fr) (hto : qE 300000000 xT to) (hlf : qE 300000000 qHX lf) (hrg : qE 300000000 qHX rg) (hw : qE 300000000 xT w) (hl : to.es.length = fr.es.length) (hnd : fr.es.Nodup) (hnz : Nz w.es) :
    qA EE 75 [.agg [gs], .agg [fr, to, lf, rg, dB bg, dB en], w] (qBl gs fr to lf rg bg en w) := by
  have i_w := qC hw
  have i_fr := qC hfr
  have i_to := qC hto
  have b_w := qJ hw
  have b_fr := qJ hfr
  refine qYO rfl (qG.step' ?_)
  refine bS (qI rfl) ?_
  refine bS (qI rfl) ?_
  refine bS (qH i_w) ?_
  refine qF rfl (vK (P := fun i => qG EE (qA EE) qJz 1 [w, qV 3 1 (aJ gs fr to lf rg bg en w i), dI ((w.es.length : Nat) : Int), dI ((i : Nat) : Int), .agg [gs], .agg [fr, to, lf, rg, dB bg, dB en]] (qBl gs fr to lf rg bg en w)) w.es.length ?_ ?_)
  · refine qG.step' ?_
    refine bS qK ?_
    refine iC (fun c=>?_) fun c=>?_
    · have := vV c; omega
    · exact qD rfl rfl
  · intro i hi ih
    obtain ⟨x, e_x⟩ := vH hi
    obtain ⟨s, rfl, hs0⟩ := hnz x (List.mem_iff_getElem?.2 ⟨i, e_x⟩)
    have hal := fS (gs := gs) (fr := fr) (to := to) (lf := lf) (rg := rg) (bg := bg) (en := en) (w := w) i
    have hI : s6 gs fr to lf rg bg en w i = if cD gs fr lf rg bg en w i s = true then (match to.es[lC fr s]? with
      | some (.leaf (.int .i64 t)) => if t = 0 then [] else [dI t]
      | _ => []) else [dI s] := by unfold s6; rw [e_x]; rfl
    rw [qBk] at ih
    have kS := qUX (to := to) (bg := bg) (en := en) (s := s) hg hfr hlf hrg hw e_x
    by_cases hsite : cD gs fr lf rg bg en w i s = true
    · have hix : lC fr s < fr.es.length := by
        have h := hsite
        unfold cD at h
        split at h
        · cases h
        · rename_i h2; simpa using h2
      obtain ⟨y, e_y⟩ := vH (l := to) (i := lC fr s) (by omega)
      obtain ⟨t, rfl⟩ := qN hto e_y
      rw [if_pos hsite, e_y] at hI
      simp only at hI
      have hp := qVf hfr hix
      have hT2 := vT (P := fun k : Nat => ∀ n : Int, (k <= lC fr s ∨ n = t) -> qG EE (qA EE) qJz 2 [w, qV 3 1 (aJ gs fr to lf rg bg en w i), dI ((i : Nat) : Int), dI n, dI ((w.es.length : Nat) : Int), dI ((fr.es.length : Nat) : Int), dI ((k : Nat) : Int), .agg [gs], .agg [fr, to, lf, rg, dB bg, dB en]] (qBl gs fr to lf rg bg en w)) fr.es.length (fun k ihk => by
        intro n hn
        refine qG.step' ?_
        refine bS qK ?_
        refine iC (fun c=>?_) fun c=>?_
        · have hk := vV c
          obtain ⟨z, e_z⟩ := vH hk
          obtain ⟨f, rfl⟩ := qN hfr e_z
          obtain ⟨z2, e_t⟩ := vH (l := to) (i := k) (by omega)
          obtain ⟨u, rfl⟩ := qN hto e_t
          refine bS (qB (off := 0) rfl i_fr.one) ?_
          refine bS (qL (s := ((k : Nat) : Int)) (by omega) e_z) ?_
          refine bS (qO (s := ((k : Nat) : Int)) i_fr (by omega) e_z rfl) ?_
          refine bS (qL (s := ((i : Nat) : Int)) (by omega) e_x) ?_
          refine bS (qO (s := ((i : Nat) : Int)) i_w (by omega) e_x rfl) ?_
          refine bS vX ?_
          refine iC (fun d=>?_) fun d=>?_
          · have hfs : f = s := dT d
            have hkp : k = lC fr s := (List.getElem?_inj hk hnd).1 (by rw [e_z, hp, hfs])
            refine bS (qB (off := 1) rfl i_to.one) ?_
            refine bS (qL (s := ((k : Nat) : Int)) (by omega) e_t) ?_
            refine bS (qO (s := ((k : Nat) : Int)) i_to (by omega) e_t rfl) ?_
            refine bS (d := dI ((k + 1 : Nat) : Int)) (qP (qM (by omega))) ?_
            refine qF rfl (ihk hk u (.inr ?_))
            rw [hkp, e_y] at e_t
            cases e_t; rfl
          · have hfs : ¬ f = s := dF d
            refine bS (d := dI ((k + 1 : Nat) : Int)) (qP (qM (by omega))) ?_
            refine qF rfl (ihk hk n ?_)
            rcases hn with h | h
            · rcases Nat.lt_or_eq_of_le h with h | h
              · exact .inl h
              · rw [h, hp] at e_z
                cases e_z; exact absurd rfl hfs
            · exact .inr h
        · have hk := zC c
          have hnt : n = t := by
            rcases hn with h | h
            · omega
            · exact h
          subst hnt
          refine bS zS ?_
          refine iC (fun d=>?_) fun d=>?_
          · rw [hI, if_neg (dT d)] at ih
            refine bS (vY rfl) ?_
            refine bS (wU rfl) ?_
            refine bS (d := qV 3 1 (aJ gs fr to lf rg bg en w i ++ [dI n])) (fR (by omega)) ?_
            refine bS (d := dI ((i + 1 : Nat) : Int)) (qP (qM (by omega))) ?_
            exact qF rfl ih
          · rw [hI, if_pos (Decidable.not_not.1 (dF d)), List.append_nil] at ih
            refine bS (d := dI ((i + 1 : Nat) : Int)) (qP (qM (by omega))) ?_
            exact qF rfl ih) 0 s (.inl (Nat.zero_le _))
      refine qG.step' ?_
      refine bS qK ?_
      refine iC (fun c=>?_) fun c=>?_
      · skip
        refine bS (qL (s := ((i : Nat) : Int)) (by omega) e_x) ?_
        refine bS (qO (s := ((i : Nat) : Int)) i_w (by omega) e_x rfl) ?_
        refine cS kS ?_
        refine iC (fun d=>?_) fun d=>?_
        · skip
          refine bS (qB (off := 0) rfl i_fr.one) ?_
          refine bS (qH i_fr) ?_
          exact qF rfl hT2
        · exact absurd hsite (by rw [d]; simp)
      · have := zC c; omega
    · rw [hI, if_neg hsite] at ih
      refine qG.step' ?_
      refine bS qK ?_
      refine iC (fun c=>?_) fun c=>?_
      · skip
        refine bS (qL (s := ((i : Nat) : Int)) (by omega) e_x) ?_
        refine bS (qO (s := ((i : Nat) : Int)) i_w (by omega) e_x rfl) ?_
        refine cS kS ?_
        refine iC (fun d=>?_) fun d=>?_
        · exact absurd d hsite
        refine bS zS ?_
        refine iC (fun e=>?_) fun e=>?_
        · skip
          refine bS (vY rfl) ?_
          refine bS (wU rfl) ?_
          refine bS (d := qV 3 1 (aJ gs fr to lf rg bg en w i ++ [dI s])) (fR (by omega)) ?_
          refine bS (d := dI ((i + 1 : Nat) : Int)) (qP (qM (by omega))) ?_
          exact qF rfl ih
        · exact absurd (Decidable.not_not.1 (dF e)) hs0
      · have := zC c; omega
theorem qOC {gs w r:D} (h:Nz w.es):Nz (sZ gs w r).es:=by
 unfold sZ
 split
 ·exact qS8 h
 exact h
theorem qLd {gs:D}:∀ (rs:List D) {w:D},Nz w.es->Nz (rs.foldl (sZ gs) w).es
 | [],_,h=>h
 | r::rs,w,h=>qLd rs (qOC h)
theorem qWP {gs rs w:D} (hg:qE 300000000 aK gs) (hr:qE 300000000 (.sl 77 6 qVO) rs) (hw:qE 300000000 xT w) (ho:∀ r∈rs.es,qFN r) (hnz:Nz w.es):qA EE 40 [.agg [gs],rs,w] (qEb gs rs w):=by
 have i_rs:=qC hr
 have b_rs:=qJ hr
 refine qY5 rfl (qG.step' ?_)
 refine bS (qI rfl) ?_
 refine bS (qH i_rs) ?_
 refine qF rfl (vK (P:=fun i=>qG EE (qA EE) qP0 1 [rs,(rs.es.take i).foldl (sZ gs) w,dI ((rs.es.length:Nat):Int),dI ((i:Nat):Int),.agg [gs]] (qEb gs rs w)) rs.es.length ?_ ?_)
 ·refine qG.step' ?_
  refine bS qK ?_
  refine iC (fun c=>?_) fun c=>?_
  ·have:=vV c; omega
  refine qD rfl ?_
  show (rs.es.take rs.es.length).foldl (sZ gs) w=_
  rw [List.take_length]; rfl
 intro i hi ih
 obtain ⟨x,e_x⟩:=vH hi
 have hox:=ho x (List.mem_of_getElem? e_x)
 obtain ⟨_,rfl,fr,_,rfl,hfr,to,_,rfl,hto,lf,_,rfl,hlf,rg,_,rfl,hrg,_,_,rfl,⟨bg,rfl⟩,_,_,rfl,⟨en,rfl⟩,rfl⟩:=qN hr e_x
 rw [yV e_x] at ih
 have hwi:=(iL (gs:=gs) (rs.es.take i) hw).1
 have kA:=qWI (bg:=bg) (en:=en) hg hfr hto hlf hrg hwi hox.1 hox.2 (qLd (rs.es.take i) hnz)
 refine qG.step' ?_
 refine bS qK ?_
 refine iC (fun c=>?_) fun c=>?_
 ·skip
  refine bS (qL (s:=((i:Nat):Int)) (by omega) e_x) ?_
  refine bS (z8 (s:=((i:Nat):Int)) i_rs (by omega) e_x rfl) ?_
  refine cS kA ?_
  refine bS (d:=dI ((i+1:Nat):Int)) (qP (qM (by omega))) ?_
  exact qF rfl ih
 have:=zC c; omega
end Go.Proofs.YtnemldklhelbeaaGreat
namespace Go.Proofs.YtnemldklhelbeaaGreat
open Go Go.Am Go.Proofs
attribute [local irreducible] Go.Am.wp Go.Am.TOp.eval
theorem qRO {a:D} {b:Int} (h_a:qE 300000000 (.sl 59 8 cJ) a):qA EE 72 [a,dI b] (dI (g8 a b)):=by
 have i_a:=qC h_a
 have b_a:=qJ h_a
 refine qYR rfl (qG.step' ?_)
 refine qF rfl (vT (P:=fun i:Nat=>i<=pP a b->qG EE (qA EE) qPr 1 [a,dI b,dI ((i:Nat):Int)] (dI (g8 a b))) a.es.length (fun i ih=>?_) 0 (Nat.zero_le _))
 intro hi
 refine qG.step' ?_
 refine bS (qH i_a) ?_
 refine bS qK ?_
 refine iC (fun c=>?_) fun c=>?_
 ·have hia:=vV c
  obtain ⟨x,e_x⟩:=vH hia
  obtain ⟨_,rfl,_,_,rfl,⟨x0,rfl⟩,x1,_,rfl,h1,_,_,rfl,⟨x2,rfl⟩,x3,_,rfl,h3,_,_,rfl,⟨x4,rfl⟩,x5,_,rfl,h5,x6,_,rfl,h6,x7,_,rfl,h7,rfl⟩:=qN h_a e_x
  refine bS (qL (s:=((i:Nat):Int)) (by omega) e_x) ?_
  refine bS (z9 (s:=((i:Nat):Int)) (off:=0) i_a (by omega) e_x rfl rfl (by decide)) ?_
  refine bS vX ?_
  refine iC (fun d=>?_) fun d=>?_
  ·have hf:=qC4 hi e_x (tD (dT d))
   have hv:g8 a b=((i:Nat):Int):=by unfold g8; rw [hf,if_pos hia]
   rw [hv]
   exact qD rfl rfl
  refine bS (d:=dI ((i+1:Nat):Int)) (qP (qM (by omega))) ?_
  exact qF rfl (ih hia (qAy hi e_x (fD (dF d))))
 have hia:=zC c
 have hv:g8 a b = -1:=by unfold g8; rw [if_neg (by omega)]
 rw [hv]
 exact qD rfl rfl
def fZ (l:D):Nat->Int->List Int
 | 0,_=>[]
 | n+1,id=>match l.es[pP l id]? with
  | some (.agg [_,_,_,_,.leaf (.int .i64 mn),_,_,_])=>id::(if mn=0 then [] else fZ l n mn)
  | _=>[]
theorem qDr (l:D) (n:Nat) (id:Int):fZ l (n+1) id=match l.es[pP l id]? with
  | some (.agg [_,_,_,_,.leaf (.int .i64 mn),_,_,_])=>id::(if mn=0 then [] else fZ l n mn)
  | _=>[]:=rfl
theorem qUN (l:D) (n:Nat) (id:Int):lG l (n+1) id=match l.es[pP l id]? with
  | some (.agg [_,_,_,_,.leaf (.int .i64 mn),x5,_,_])=>if 0 < x5.es.length then x5 else if mn=0 then .nil else lG l n mn
  | _=>.nil:=rfl
theorem qLr {l:D} {id x0:Int} {r:List D} (h:l.es[pP l id]? = some (.agg (dI x0::r))):x0=id:=by
 have h2:l.es.findIdx (qQ0 id) < l.es.length:=(gI h).1
 have:=List.findIdx_getElem (w:=h2)
 have e2:l.es[l.es.findIdx (qQ0 id)]=.agg (dI x0::r):=(gI h).2
 rw [e2] at this
 exact dT (show decide (x0=id)=true from this)
theorem qS6 {l:List D} {t:Int} (h:l.length<=3000000):TOp.eval EE (.app 3 1 8) [.sl 3 1 l,.sl 3 1 [dI t]]=some (.sl 3 1 (l++[dI t])):=by
 rw [iX]
 have hss:pT (.sl 3 1 l)=some l.length:=rfl
 have hb:Nat.ble (Nat.mul (Nat.add (Nat.mul 4 (Nat.add l.length 1)) 4000) (Nat.succ 8)) 100000000000=true:=rG (n:=l.length+1) (by omega) (by decide)
 have hz:Nat.beq [dI t].length 0=false:=rfl
 have hl : [dI t].length=1:=rfl
 simp only [hss,hl,hb,Nat.beq_refl,Bool.true_and,cond_true,show Nat.beq 1 0=false from rfl,cond_false,D.es]
theorem qLq {l:D} {id:Int} {x:D} (h:l.es[pP l id]? = some x):g8 l id=((pP l id:Nat):Int)/\pP l id < l.es.length:=by
 have h2:pP l id < l.es.length:=(gI h).1
 exact ⟨by unfold g8; rw [if_pos h2],h2⟩
theorem qSu {l:D} {id:Int} (h:l.es[pP l id]? = none):g8 l id = -1:=by
 have h2:=List.getElem?_eq_none_iff.1 h
 unfold g8; rw [if_neg (by omega)]
theorem qDs {l:D} (hl:qE 1048576 (.sl 59 8 cJ) l):∀ (n:Nat) (out:List Int) (id:Int),out.length+n=l.es.length+1->qG EE (qA EE) qJA 1 [l,.sl 3 1 (out.map dI),dI (g8 l id)] (.sl 3 1 ((out++fZ l n id).map dI))
 | 0,out,id,hn=>by
  have i_l:=qC hl
  have b_l:=qJ hl
  have i_o:nV 3 1 (.sl 3 1 (out.map dI)):=.inr ⟨_,rfl,by rw [List.length_map]; exact Nat.lt_of_le_of_lt (show out.length<=1048577 by omega) (by decide)⟩
  have ho:(D.sl 3 1 (out.map dI)).es.length=out.length:=List.length_map _
  show qG EE (qA EE) qJA 1 _ (.sl 3 1 ((out++[]).map dI))
  rw [List.append_nil]
  refine qG.step' ?_
  refine bS wE ?_
  refine iC (fun c=>?_) fun c=>?_
  ·skip
   refine bS (d:=dI (((D.sl 3 1 (out.map dI)).es.length:Nat):Int)) (qH i_o) ?_
   refine bS (qH i_l) ?_
   refine bS o7 ?_
   refine iC (fun d=>?_) fun d=>?_
   ·have:=dT d; rw [ho] at this; omega
   exact qD rfl rfl
  exact qD rfl rfl
 | n+1,out,id,hn=>by
  have i_l:=qC hl
  have b_l:=qJ hl
  have i_o:nV 3 1 (.sl 3 1 (out.map dI)):=.inr ⟨_,rfl,by rw [List.length_map]; exact Nat.lt_of_le_of_lt (show out.length<=1048577 by omega) (by decide)⟩
  have ho:(D.sl 3 1 (out.map dI)).es.length=out.length:=List.length_map _
  rcases xC (id:=id) hl with ⟨x0,x2,x4,x1,x3,x5,x6,x7,h1,h3,h5,h6,h7,he,hr⟩ | ⟨he,hr⟩
  ·have e1:fZ l (n+1) id=id::(if x4=0 then [] else fZ l n x4):=by rw [qDr,he]
   obtain rfl:x0=id:=qLr he
   obtain ⟨hf,hlt⟩:=qLq he
   rw [e1,hf]
   have e_e:l.es[(((pP l x0:Nat):Int)).toNat]? = some (.agg [dI x0,x1,dI x2,x3,dI x4,x5,x6,x7]):=he
   have hap:TOp.eval EE (.app 3 1 8) [.sl 3 1 (out.map dI),.sl 3 1 [dI x0]]=some (.sl 3 1 ((out++[x0]).map dI)):=by
    rw [qS6 (by rw [List.length_map]; omega),List.map_append]; rfl
   refine qG.step' ?_
   refine bS wE ?_
   refine iC (fun c=>?_) fun c=>?_
   ·skip
    refine bS (d:=dI (((D.sl 3 1 (out.map dI)).es.length:Nat):Int)) (qH i_o) ?_
    refine bS (qH i_l) ?_
    refine bS o7 ?_
    refine iC (fun d=>?_) fun d=>?_
    ·skip
     refine bS (qL (s:=((pP l x0:Nat):Int)) (by omega) e_e) ?_
     refine bS (z9 (s:=((pP l x0:Nat):Int)) (off:=0) i_l (by omega) e_e rfl rfl (by decide)) ?_
     refine bS (vY rfl) ?_
     refine bS (wU rfl) ?_
     refine bS hap ?_
     refine bS (qL (s:=((pP l x0:Nat):Int)) (by omega) e_e) ?_
     refine bS (z9 (s:=((pP l x0:Nat):Int)) (off:=4) i_l (by omega) e_e rfl rfl (by decide)) ?_
     refine bS vX ?_
     refine iC (fun f=>?_) fun f=>?_
     ·rw [if_pos (dT f)]
      exact qD rfl rfl
     rw [if_neg (dF f)]
     have ih:=qDs hl n (out++[x0]) x4 (by rw [List.length_append]; show _+1+_=_; omega)
     rw [List.append_assoc] at ih
     refine bS (qL (s:=((pP l x0:Nat):Int)) (by omega) e_e) ?_
     refine bS (z9 (s:=((pP l x0:Nat):Int)) (off:=4) i_l (by omega) e_e rfl rfl (by decide)) ?_
     refine cS (d:=dI (g8 l x4)) (qRO (zQ (B':=300000000) (by decide) hl)) ?_
     exact qF rfl ih
    have:=dF d; rw [ho] at this; omega
   have:=dF c; omega
  have e1:fZ l (n+1) id=[]:=by rw [qDr,he]
  rw [e1,List.append_nil,qSu he]
  refine qG.step' ?_
  refine bS wE ?_
  refine iC (fun c=>?_) fun c=>?_
  ·have:=dT c; omega
  exact qD rfl rfl
theorem qWJ {l:D} {id:Int} (hl:qE 1048576 (.sl 59 8 cJ) l):qA EE 73 [l,dI id] (.sl 3 1 ((fZ l (l.es.length+1) id).map dI)):=by
 have h0:TOp.eval EE (.lit 3 1) []=some (.sl 3 1 []):=by rw [iW]; rfl
 refine qYQ rfl (qG.step' ?_)
 refine bS h0 ?_
 refine cS (d:=dI (g8 l id)) (qRO (zQ (B':=300000000) (by decide) hl)) ?_
 have hgo:=qDs hl (l.es.length+1) [] id (by simp)
 rw [List.nil_append] at hgo
 exact qF rfl hgo
theorem qGO (l:D):∀ (n:Nat) (id:Int),(fZ l n id).length<=n
 | 0,_=>zT _
 | n+1,id=>by
  rw [qDr]
  split
  ·split
   ·simp
   have:=qGO l n (by assumption)
   simp only [List.length_cons]
   omega
  simp
theorem qFD {l:D} {w:List Int} {j:Nat} (hw:w.length<=3000000) (h:w.length<=j) (hj:j<=3000000):qG EE (qA EE) qJx 1 [l,.sl 3 1 (w.map dI),dI ((j:Nat):Int)] .nil:=by
 have i_w:nV 3 1 (.sl 3 1 (w.map dI)):=.inr ⟨_,rfl,by rw [List.length_map]; exact Nat.lt_of_le_of_lt hw (by decide)⟩
 have ho:(D.sl 3 1 (w.map dI)).es.length=w.length:=List.length_map _
 refine qG.step' ?_
 refine bS (d:=dI (((D.sl 3 1 (w.map dI)).es.length:Nat):Int)) (qH i_w) ?_
 refine bS qK ?_
 refine iC (fun c=>?_) fun c=>?_
 ·have:=vV c; rw [ho] at this; omega
 exact qD rfl rfl
theorem qG2 {l:D} (hl:qE 1048576 (.sl 59 8 cJ) l) {w:List Int} (hw:w.length<=2000000):∀ (n:Nat) (j:Nat) (id:Int),w.drop j=fZ l n id->j<=w.length->qG EE (qA EE) qJx 1 [l,.sl 3 1 (w.map dI),dI ((j:Nat):Int)] (lG l n id)
 | 0,j,id,hd,hj=>by
  have:w.length<=j:=List.drop_eq_nil_iff.1 hd
  exact qFD (by omega) this (by omega)
 | n+1,j,id,hd,hj=>by
  have i_l:=qC hl
  have b_l:=qJ hl
  have i_w:nV 3 1 (.sl 3 1 (w.map dI)):=.inr ⟨_,rfl,by rw [List.length_map]; exact Nat.lt_of_le_of_lt hw (by decide)⟩
  have ho:(D.sl 3 1 (w.map dI)).es.length=w.length:=List.length_map _
  rcases xC (id:=id) hl with ⟨x0,x2,x4,x1,x3,x5,x6,x7,h1,h3,h5,h6,h7,he,hr⟩ | ⟨he,hr⟩
  ·have e1:fZ l (n+1) id=id::(if x4=0 then [] else fZ l n x4):=by rw [qDr,he]
   have e2:lG l (n+1) id=(if 0 < x5.es.length then x5 else if x4=0 then .nil else lG l n x4):=by rw [qUN,he]
   obtain rfl:x0=id:=qLr he
   obtain ⟨hf,hlt⟩:=qLq he
   have i_x5:=qC h5
   rw [e1] at hd
   have hjl:j < w.length:=by
    rcases Nat.lt_or_ge j w.length with h | h
    ·exact h
    rw [List.drop_of_length_le h] at hd; cases hd
   have hdj:w.drop j=w[j]::w.drop (j+1):=List.drop_eq_getElem_cons hjl
   rw [hdj] at hd
   injection hd with hd1 hd2
   have e_w:(D.sl 3 1 (w.map dI)).es[j]? = some (dI x0):=by
    show (w.map dI)[j]? = _
    rw [List.getElem?_map,List.getElem?_eq_getElem hjl,hd1]; rfl
   have e_e:l.es[(((pP l x0:Nat):Int)).toNat]? = some (.agg [dI x0,x1,dI x2,x3,dI x4,x5,x6,x7]):=he
   have kF:=qRO (b:=x0) (zQ (B':=300000000) (by decide) hl)
   rw [hf] at kF
   rw [e2]
   obtain ⟨W,hW⟩:∃ W,W=D.sl 3 1 (w.map dI):=⟨_,rfl⟩
   have hen:=qFD (l:=l) (w:=w) (j:=j+1) (by omega)
   have ih:=fun h=>qG2 hl hw n (j+1) x4 h (by omega)
   rw [← hW] at i_w e_w ho hen ih ⊢
   refine qG.step' ?_
   have i_W:=i_w
   refine bS (qH i_W) ?_
   refine bS qK ?_
   refine iC (fun c=>?_) fun c=>?_
   ·skip
    refine bS (qL (s:=((j:Nat):Int)) (by omega) e_w) ?_
    refine bS (qO (s:=((j:Nat):Int)) i_W (by omega) e_w rfl) ?_
    refine cS kF ?_
    refine bS (qL (s:=((pP l x0:Nat):Int)) (by omega) e_e) ?_
    refine bS (z8 (s:=((pP l x0:Nat):Int)) i_l (by omega) e_e rfl) ?_
    refine bS (qI rfl) ?_
    refine bS (qB (off:=5) rfl i_x5.one) ?_
    refine bS (qH i_x5) ?_
    refine bS zL ?_
    refine iC (fun d=>?_) fun d=>?_
    ·have hd:0 < x5.es.length:=by have:=dT d; omega
     rw [if_pos hd]
     refine bS (qB (off:=5) rfl i_x5.one) ?_
     exact qD rfl rfl
    have hd:¬ 0 < x5.es.length:=by have:=dF d; omega
    rw [if_neg hd]
    refine bS (d:=dI ((j+1:Nat):Int)) (qP (qM (by omega))) ?_
    refine qF rfl ?_
    by_cases hm:x4=0
    ·rw [if_pos hm] at hd2 ⊢
     exact hen (List.drop_eq_nil_iff.1 hd2) (by omega)
    rw [if_neg hm] at hd2 ⊢
    exact ih hd2
   have:=zC c; rw [ho] at this; omega
  have e1:fZ l (n+1) id=[]:=by rw [qDr,he]
  have e2:lG l (n+1) id=.nil:=by rw [qUN,he]
  rw [e1] at hd
  rw [e2]
  exact qFD (by omega) (List.drop_eq_nil_iff.1 hd) (by omega)
theorem qWG {l:D} {id:Int} (hl:qE 1048576 (.sl 59 8 cJ) l):qA EE 86 [l,dI id] (qFv l id):=by
 have b_l:=qJ hl
 have hw:=qGO l (l.es.length+1) id
 refine qYE rfl (qG.step' ?_)
 refine cS (qWJ hl) ?_
 exact qF rfl (qG2 hl (by omega) _ 0 id rfl (Nat.zero_le _))
theorem qWN {c0 c1 c2 c3 c4 n ws fs l:D} {p0 p1 p2:Int} (hl:qE 1048576 (.sl 59 8 cJ) l):qA EE 47 [.agg [c0,c1,c2,c3,c4,n,ws,fs,l],.agg [dI p0,dI p1,dI p2]] (dI (aX l (.agg [dI p0,dI p1,dI p2]))):=by
 have i_l:=qC hl
 have hB:=zQ (B':=300000000) (by decide) hl
 have hP:aX l (.agg [dI p0,dI p1,dI p2])=if (l.es[pP l p0]?).isNone then 9 else if (kZ l p0 p1).isNone then 2 else if p2 < 0∨p2≥((qFv l p0).es.length:Int) then 22 else 0:=rfl
 rw [hP]
 refine qYZ rfl (qG.step' ?_)
 refine bS (qI rfl) ?_
 refine bS (qI rfl) ?_
 refine bS (qB (off:=8) rfl i_l.one) ?_
 refine bS (qB (off:=0) rfl rfl) ?_
 rcases xC (id:=p0) hl with ⟨x0,x2,x4,x1,x3,x5,x6,x7,h1,h3,h5,h6,h7,he,hr⟩ | ⟨he,hr⟩
 ·have kG:=qTt (b:=p0) hB
  rw [hr] at kG
  have hsel:kZ l p0 p1=if 0<=p1/\p1 < ((x1::x3.es).length:Int) then some (dI x2,((x1::x3.es)[p1.toNat]?).getD .nil) else none:=by unfold kZ; rw [he]
  rw [he,if_neg (by simp)]
  refine cS kG ?_
  refine bS (zF rfl) ?_
  refine bS (zF rfl) ?_
  refine bS (qI rfl) ?_
  refine bS zZ ?_
  refine jJ (t:=false) rfl ?_
  refine mZ ?_
  refine bS (qB (off:=1) rfl rfl) ?_
  refine cS (qXd h1 h3) ?_
  refine bS zZ ?_
  refine iC (fun c=>?_) fun c=>?_
  ·have hc:¬ (0<=p1/\p1 < ((x1::x3.es).length:Int)):=fun h=>by rw [tD h] at c; cases c
   rw [if_pos (by rw [hsel,if_neg hc]; rfl)]
   exact qD rfl rfl
  have hc:0<=p1/\p1 < ((x1::x3.es).length:Int):=by
   have:(!(decide (0<=p1/\p1 < ((x1::x3.es).length:Int))))=false:=c
   rw [Bool.not_eq_false'] at this
   exact dT this
  rw [if_neg (by rw [hsel,if_pos hc]; simp)]
  refine bS (qB (off:=2) rfl rfl) ?_
  refine bS qK ?_
  refine iC (fun k=>?_) fun k=>?_
  ·have hk:=dT k
   rw [if_pos (.inl hk)]
   exact qD rfl rfl
  have hk:=dF k
  have hs:=qFu hl (l.es.length+1) p0
  have i_s:=qC hs
  refine bS (qB (off:=2) rfl rfl) ?_
  refine bS (qB (off:=8) rfl i_l.one) ?_
  refine bS (qB (off:=0) rfl rfl) ?_
  refine cS (qWG hl) ?_
  refine bS (d:=dI (((qFv l p0).es.length:Nat):Int)) (qH i_s) ?_
  refine bS wE ?_
  refine iC (fun m=>?_) fun m=>?_
  ·have hm:=dT m
   rw [if_pos (.inr hm)]
   exact qD rfl rfl
  have hm:=dF m
  rw [if_neg (fun h=>h.elim hk hm)]
  exact qD rfl rfl
 have kG:=qTt (b:=p0) hB
 rw [hr] at kG
 rw [he,if_pos (by simp)]
 refine cS kG ?_
 refine bS (zF rfl) ?_
 refine bS (zF rfl) ?_
 refine bS (qI rfl) ?_
 refine bS zZ ?_
 refine jJ (t:=true) rfl ?_
 refine lM ?_
 exact qD rfl rfl
theorem qKx {l:D} {p0 p1:Int} {c w:D} (h:qE 1048576 (.sl 59 8 cJ) l) (hok:∀ x∈l.es,qJl x) (hs:kZ l p0 p1=some (c,w)):(∃ n:Int,c=dI n/\1<=n)/\qDl w.es:=by
 unfold kZ at hs
 rcases xC (id:=p0) h with ⟨x0,x2,x4,x1,x3,x5,x6,x7,h1,h3,h5,h6,h7,he,_⟩ | ⟨he,_⟩
 ·have ho:qDl x1.es/\1<=x2/\∀ y∈x3.es,qDl y.es:=hok _ (List.mem_iff_getElem?.2 ⟨_,he⟩)
  rw [he] at hs
  simp only at hs
  split at hs
  ·rename_i hc
   simp only [oI,Prod.mk.injEq] at hs
   obtain ⟨rfl,rfl⟩:=hs
   refine ⟨⟨_,rfl,ho.2.1⟩,?_⟩
   have hl:p1.toNat < (x1::x3.es).length:=by omega
   rw [List.getElem?_eq_getElem hl]
   have hm:∀ y∈x1::x3.es,qDl y.es:=fun y hy=>by
    rcases List.mem_cons.1 hy with rfl | hy
    ·exact ho.1
    exact ho.2.2 y hy
   exact hm _ (List.getElem_mem hl)
  cases hs
 rw [he] at hs; cases hs
theorem qSA {l x:D} (h:qE 1048576 (.sl 59 8 cJ) l) (hok:∀ x∈l.es,qJl x):qDl (FC l x):=by
 unfold FC
 split
 ·split
  ·rename_i hs
   intro y hy
   rw [List.mem_singleton.1 hy]
   exact (qKx h hok hs).1
  intro y hy; cases hy
 intro y hy; cases hy
theorem qSB {l x:D} (h:qE 1048576 (.sl 59 8 cJ) l) (hok:∀ x∈l.es,qJl x):qDl (FB l x):=by
 unfold FB
 split
 ·split
  ·rename_i hs
   exact (qKx h hok hs).2
  intro y hy; cases hy
 intro y hy; cases hy
theorem qHV {F:D->List D} {l:List D} (h:∀ x,qDl (F x)):qDl (l.flatMap F):=by
 intro y hy
 obtain ⟨x,_,hx⟩:=List.mem_flatMap.1 hy
 exact h x y hx
theorem qRV {l:List D} (h:qDl l):Nz l:=fun y hy=>by
 obtain ⟨s,hs,h1⟩:=h y hy
 exact ⟨s,hs,by omega⟩
theorem qUR {c0 c1 c2 c3 c4 ws fs l ps:D} {N:Nat} (h0:1<=N) (h3:N<=3) (hw:qE 300000000 qHW ws) (hf:qE 300000000 xT fs) (hx:∀ x∈ws.es,qIs (N:Int) x) (hy:∀ x∈fs.es,qHn (N:Int) x) (hl:qE 1048576 (.sl 59 8 cJ) l) (hok:∀ x∈l.es,qJl x) (hp:qE 300000000 qJg ps) (hn:ps.es.length<=20) :
  qA EE 19 [.agg [c0,c1,c2,c3,c4,dI (N:Int),ws,fs,l],.agg [ps]] (dI (qFF l ws fs ps)):=by
 have i_ps:=qC hp
 have b_ps:=qJ hp
 have i_l:=qC hl
 have i_ws:=qC hw
 have i_fs:=qC hf
 have hci:∀ y∈ps.es.flatMap (FC l),∃ n,y=dI n:=l5 fun x=>qLA hl
 have hbi:∀ y∈ps.es.flatMap (FB l),∃ n,y=dI n:=l5 fun x=>qGe hl
 have hcl:(ps.es.flatMap (FC l)).length<=ps.es.length * 1:=j8 fun y _=>qLz
 have hbl:(ps.es.flatMap (FB l)).length<=ps.es.length * 1048576:=j8 fun y _=>qGd hl
 have hC:qE 300000000 xT (qV 3 1 (ps.es.flatMap (FC l))):=pA (by omega) hci
 have hD:qE 300000000 xT (qV 3 1 (ps.es.flatMap (FB l))):=pA (by omega) hbi
 have hCp:qDl (qV 3 1 (ps.es.flatMap (FC l))).es:=by rw [gN]; exact qHV fun x=>qSA hl hok
 have i_C:=qC hC
 have i_D:=qC hD
 refine qZb rfl (qG.step' ?_)
 refine bS (qI rfl) ?_
 refine bS (qI rfl) ?_
 refine bS (qB (off:=0) rfl i_ps.one) ?_
 refine bS (qH i_ps) ?_
 refine bS vX ?_
 unfold qFF
 refine iC (fun c=>?_) fun c=>?_
 ·have hc:=dT c
  rw [if_pos (by omega)]
  exact qD rfl rfl
 have hc:=dF c
 rw [if_neg (by omega)]
 refine bS (qB (off:=0) rfl i_ps.one) ?_
 refine bS (qH i_ps) ?_
 refine bS zL ?_
 refine iC (fun d=>?_) fun d=>?_
 ·have hd:=dT d
  rw [if_pos (by omega)]
  exact qD rfl rfl
 have hd:=dF d
 rw [if_neg (by omega)]
 refine qF rfl (vK (P:=fun i=>qG EE (qA EE) qQt 1 [dI ((i:Nat):Int),.agg [c0,c1,c2,c3,c4,dI (N:Int),ws,fs,l],.agg [ps]] (dI (qBD l ws fs ps i))) ps.es.length ?_ ?_)
 ·rw [qHg]
  refine qG.step' ?_
  refine bS (qB (off:=0) rfl i_ps.one) ?_
  refine bS (qH i_ps) ?_
  refine bS qK ?_
  refine iC (fun e=>?_) fun e=>?_
  ·have:=vV e; omega
  refine bS (xW (off:=5) (size:=3) rfl) ?_
  refine cS (qZM (l:=l) rfl rfl hl hp hn) ?_
  refine cS (qWM h0 h3 hw hf hx hy hC hCp) ?_
  refine bS zZ ?_
  unfold qNa
  refine iC (fun k=>?_) fun k=>?_
  ·have hk:qGE ws fs (qV 3 1 (ps.es.flatMap (FC l)))=false:=by simpa using k
   rw [if_pos hk]
   exact qD rfl rfl
  have hk:¬ qGE ws fs (qV 3 1 (ps.es.flatMap (FC l)))=false:=by simpa using k
  rw [if_neg hk]
  refine cS (qX9 (l:=l) rfl rfl hl hp hn) ?_
  refine bS (d:=dI (((qV 3 1 (ps.es.flatMap (FB l))).es.length:Nat):Int)) (qH i_D) ?_
  refine bS zL ?_
  refine iC (fun m=>?_) fun m=>?_
  ·have hm:=dT m
   rw [if_pos (by omega)]
   exact qD rfl rfl
  have hm:=dF m
  rw [if_neg (by omega)]
  exact qD rfl rfl
 intro i hi ih
 obtain ⟨x,e_x⟩:=vH hi
 obtain ⟨_,rfl,_,_,rfl,⟨p0,rfl⟩,_,_,rfl,⟨p1,rfl⟩,_,_,rfl,⟨p2,rfl⟩,rfl⟩:=qN hp e_x
 have kP:=qWN (c0:=c0) (c1:=c1) (c2:=c2) (c3:=c3) (c4:=c4) (n:=dI (N:Int)) (ws:=ws) (fs:=fs) (p0:=p0) (p1:=p1) (p2:=p2) hl
 obtain ⟨q,hq⟩:∃ q,q=aX l (.agg [dI p0,dI p1,dI p2]):=⟨_,rfl⟩
 rw [← hq] at kP
 refine qG.step' ?_
 refine bS (qB (off:=0) rfl i_ps.one) ?_
 refine bS (qH i_ps) ?_
 refine bS qK ?_
 refine iC (fun e=>?_) fun e=>?_
 ·skip
  refine bS (qB (off:=0) rfl i_ps.one) ?_
  refine bS (qL (s:=((i:Nat):Int)) (by omega) e_x) ?_
  refine bS (z8 (s:=((i:Nat):Int)) i_ps (by omega) e_x rfl) ?_
  refine cS kP ?_
  refine bS zS ?_
  refine iC (fun f=>?_) fun f=>?_
  ·rw [eX e_x hq.symm (nz f)]
   exact qD rfl rfl
  rw [qD3 e_x (hq.symm.trans (zz f))]
  refine bS (d:=dI ((i+1:Nat):Int)) (qP (qM (by omega))) ?_
  exact qF rfl ih
 have:=zC e; omega
theorem qWU {gs c1 c2 c3 rs ws fs l ps:D} {N:Nat} (hg:qE 300000000 aK gs) (hr:qE 300000000 (.sl 77 6 qVO) rs) (ho:∀ r∈rs.es,qFN r) (h0:1<=N) (h3:N<=3) (hw:qE 300000000 qHW ws) (hf:qE 300000000 xT fs) (hx:∀ x∈ws.es,qIs (N:Int) x) (hy:∀ x∈fs.es,qHn (N:Int) x) (hl:qE 1048576 (.sl 59 8 cJ) l) (hok:∀ x∈l.es,qJl x) (hp:qE 300000000 qJg ps) (hn:ps.es.length<=20) :
  qA EE 15 [.agg [gs,c1,c2,c3,rs,dI (N:Int),ws,fs,l],.agg [ps]] (.tup [(qBF gs rs l ws fs ps).1,dI (qBF gs rs l ws fs ps).2]):=by
 have i_rs:=qC hr
 have hB:=qDj hl hn
 have hBn:Nz (qBh l ps).es:=by unfold qBh; rw [gN]; exact qRV (qHV fun x=>qSB hl hok)
 have i_last:=qC (iL (gs:=gs) rs.es hB).1
 unfold qBF
 refine qZd rfl (qG.step' ?_)
 refine bS (qI rfl) ?_
 refine bS (qI rfl) ?_
 refine cS (qUR h0 h3 hw hf hx hy hl hok hp hn) ?_
 refine bS zS ?_
 refine iC (fun c=>?_) fun c=>?_
 ·rw [if_pos (dT c)]
  exact zW rfl rfl
 rw [if_neg (dF c)]
 refine bS (xW (off:=0) (size:=1) rfl) ?_
 refine bS (qB (off:=4) rfl i_rs.one) ?_
 refine cS (qX9 (l:=l) rfl rfl hl hp hn) ?_
 refine cS (qWP hg hr hB ho hBn) ?_
 refine bS (d:=dI (((qEb gs rs (qBh l ps)).es.length:Nat):Int)) (qH i_last) ?_
 refine bS vX ?_
 refine iC (fun d=>?_) fun d=>?_
 ·have hd:=dT d
  rw [if_pos (by omega)]
  exact zW rfl rfl
 have hd:=dF d
 rw [if_neg (by omega)]
 exact zW rfl rfl
end Go.Proofs.YtnemldklhelbeaaGreat
