/- Spelling a word, by both. Conditions: none. -/
import Derived.Test.YtnemldklhelbeaaGreatJl
import Derived.Test.YtnemldklhelbeaaGreatJe
set_option linter.unusedVariables false
set_option linter.unusedSimpArgs false
namespace Go.Proofs.YtnemldklhelbeaaGreat
open Go Go.Am Go.Proofs
attribute [local irreducible] Go.Am.wp Go.Am.TOp.eval
def qFh (us:D) (n:Int):List D:=match us.es[n.toNat]? with
 | some (.agg [_,sg])=>sg.es
 | _=>[]
def qME (us:D) (n:Int):List UInt8:=match us.es[n.toNat]? with
 | some (.agg [.leaf (.string s),_])=>s.data.toList
 | _=>[]
open Classical in
noncomputable def qMf (us:D) (v:List D) (n:Int) (i:Nat):Int:=match us.es[i]? with
 | some (.agg [_,sg])=>if sg.es=v.take sg.es.length then (if n < 0∨(qFh us n).length < sg.es.length then (i:Int) else n) else n
 | _=>n
noncomputable def qBd (us:D) (v:List D) (k:Nat):Int:=(List.range k).foldl (qMf us v) (-1)
noncomputable def gU (us:D) (v:List D):Int:=qBd us v us.es.length
theorem qBc (us:D) (v:List D) (k:Nat):qBd us v (k+1)=qMf us v (qBd us v k) k:=by
 unfold qBd; rw [List.range_succ,List.foldl_append]; rfl
theorem aD (us:D) (v:List D):∀ k:Nat,-1<=qBd us v k/\qBd us v k < (k:Int)
 | 0=>⟨Int.le_refl _,by show (-1:Int) < 0; omega⟩
 | k+1=>by
  have:=aD us v k
  rw [qBc]
  unfold qMf
  split
  ·split
   ·split <;> omega
   omega
  omega
open Classical in
theorem qMe {us:D} {v:List D} {n:Int} {i:Nat} {s1 sg:D} (h:us.es[i]? = some (.agg [s1,sg])):qMf us v n i=if sg.es=v.take sg.es.length then (if n < 0∨(qFh us n).length < sg.es.length then (i:Int) else n) else n:=by
 unfold qMf; rw [h]
theorem qN3 {a b:D}:qMF a b=true↔a.es=b.es:=⟨fun h=>Classical.byContradiction (fun hn=>by rw [qEI hn] at h; cases h),qHC⟩
theorem qWL {nm us lt w : D} (hn : qE 300000000 .str nm) (hu : qE 300000000 qRg us) (hl : qE 300000000 qTk lt) (hw : qE 300000000 xT w) :
    qA EE 50 [.agg [nm, us, lt], w] (dI (gU us w.es)) := by
  have i_us := qC hu
  have b_us := qJ hu
  have i_lt := qC hl
  have i_w := qC hw
  have b_w := qJ hw
  obtain ⟨nms, rfl, hns⟩ := hn
  refine qYW rfl (qG.step' ?_)
  refine bS (qI rfl) ?_
  refine bS (qB (off := 1) rfl i_us.one) ?_
  refine bS (qH i_us) ?_
  refine qF rfl (vK (P := fun i => qG EE (qA EE) qPJ 1 [w, dI (qBd us w.es i), us, dI ((us.es.length : Nat) : Int), dI ((i : Nat) : Int), .agg [.leaf (.string nms), us, lt]] (dI (gU us w.es))) us.es.length ?_ ?_)
  · refine qG.step' ?_
    refine bS qK ?_
    refine iC (fun d=>?_) fun d=>?_
    · have := vV d; omega
    · exact qD rfl rfl
  · intro i hi ih
    have hbd := aD us w.es i
    obtain ⟨x, e_x⟩ := vH hi
    obtain ⟨_, rfl, _, _, rfl, ⟨s1, rfl, hs1⟩, sg, _, rfl, hsg, rfl⟩ := qN hu e_x
    have i_sg := qC hsg
    rw [qBc, qMe e_x] at ih
    generalize hnn : qBd us w.es i = n at *
    refine qG.step' ?_
    refine bS qK ?_
    refine iC (fun d=>?_) fun d=>?_
    · skip
      refine bS (qL (s := ((i : Nat) : Int)) (by omega) e_x) ?_
      refine bS (z8 (s := ((i : Nat) : Int)) i_us (by omega) e_x rfl) ?_
      refine bS (qI rfl) ?_
      refine bS (qB (off := 1) rfl i_sg.one) ?_
      refine bS (qH i_sg) ?_
      refine bS (qH i_w) ?_
      refine bS zL ?_
      refine iC (fun f=>?_) fun f=>?_
      · have hne : ¬ sg.es = w.es.take sg.es.length := fun h => by
          have h1 := congrArg List.length h
          rw [List.length_take] at h1
          have := dT f
          omega
        rw [if_neg hne] at ih
        refine bS (d := dI ((i + 1 : Nat) : Int)) (qP (qM (by omega))) ?_
        exact qF rfl ih
      · have hle : sg.es.length <= w.es.length := by have := dF f; omega
        have hv := uH (a := 0) (b := sg.es.length) hw
        have i_v := qC hv
        have k54 := qZL hsg hv
        have hve : (yL w 0 sg.es.length).es = w.es.take sg.es.length := by rw [uI hw]; rfl
        have heq : qMF sg (yL w 0 sg.es.length) = true ↔ sg.es = w.es.take sg.es.length := by
          rw [qN3, hve]
        refine bS (qB (off := 1) rfl i_sg.one) ?_
        refine bS (qB (off := 1) rfl i_sg.one) ?_
        refine bS (qH i_sg) ?_
        refine bS (qM6 hw hle) ?_
        refine cS k54 ?_
        refine bS zZ ?_
        refine iC (fun g=>?_) fun g=>?_
        · have hne : ¬ sg.es = w.es.take sg.es.length := fun h => by rw [heq.2 h] at g; cases g
          rw [if_neg hne] at ih
          refine bS (d := dI ((i + 1 : Nat) : Int)) (qP (qM (by omega))) ?_
          exact qF rfl ih
        · have hq : sg.es = w.es.take sg.es.length := heq.1 (by simpa using g)
          rw [if_pos hq] at ih
          refine bS qK ?_
          refine iC (fun k=>?_) fun k=>?_
          · rw [if_pos (.inl (dT k))] at ih
            refine bS (d := dI ((i + 1 : Nat) : Int)) (qP (qM (by omega))) ?_
            exact qF rfl ih
          · have hn0 : 0 <= n := by have := dF k; omega
            obtain ⟨y, e_y⟩ := vH (l := us) (i := n.toNat) (by omega)
            obtain ⟨_, rfl, _, _, rfl, ⟨s2, rfl, hs2⟩, sh, _, rfl, hsh, rfl⟩ := qN hu e_y
            have i_sh := qC hsh
            have hsn : qFh us n = sh.es := by unfold qFh; rw [e_y]
            rw [hsn] at ih
            refine bS (qB (off := 1) rfl i_sg.one) ?_
            refine bS (qH i_sg) ?_
            refine bS (qB (off := 1) rfl i_us.one) ?_
            refine bS (qL (s := n) (by omega) e_y) ?_
            refine bS (z9 (s := n) (off := 1) i_us (by omega) e_y rfl i_sh.one (by decide)) ?_
            refine bS (qH i_sh) ?_
            refine bS zL ?_
            refine iC (fun l=>?_) fun l=>?_
            · rw [if_pos (.inr (by have := dT l; omega))] at ih
              refine bS (d := dI ((i + 1 : Nat) : Int)) (qP (qM (by omega))) ?_
              exact qF rfl ih
            · rw [if_neg (by have := dF l; omega)] at ih
              refine bS (d := dI ((i + 1 : Nat) : Int)) (qP (qM (by omega))) ?_
              exact qF rfl ih
    · have := zC d; omega
noncomputable def hZ (us w:D):Nat->Nat->List UInt8->D
 | 0,_,acc=>.tup [.leaf (.string ⟨⟨acc⟩⟩),dI 0,dI 0]
 | m+1,a,acc=>if a < w.es.length then
   (if gU us (w.es.drop a) < 0 then .tup [.leaf (.string ⟨#[]⟩),dI (a:Int),dI 20]
    else hZ us w m (a+(qFh us (gU us (w.es.drop a))).length) (acc++qME us (gU us (w.es.drop a))))
   else .tup [.leaf (.string ⟨⟨acc⟩⟩),dI 0,dI 0]
noncomputable def qIa (us w:D):D:=if w.es.length=0 then .tup [.leaf (.string ⟨#[]⟩),dI 0,dI 4] else if 24 < w.es.length then .tup [.leaf (.string ⟨#[]⟩),dI 0,dI 5] else hZ us w w.es.length 0 []
theorem qDF (us w:D):∀ (m a:Nat) (acc:List UInt8),∃ (s:ByteArray) (p e:Int),hZ us w m a acc=.tup [.leaf (.string s),dI p,dI e]
 | 0,_,_=>⟨_,_,_,rfl⟩
 | m+1,a,acc=>by
  unfold hZ
  split
  ·split
   ·exact ⟨_,_,_,rfl⟩
   exact qDF us w m _ _
  exact ⟨_,_,_,rfl⟩
theorem qH9 (us w:D):∃ (s:ByteArray) (p e:Int),qIa us w=.tup [.leaf (.string s),dI p,dI e]:=by
 unfold qIa
 split
 ·exact ⟨_,_,_,rfl⟩
 split
 ·exact ⟨_,_,_,rfl⟩
 exact qDF us w _ _ _
theorem qGV {us w:D} {a:Nat} {acc:List UInt8} (h:w.es.length<=a):∀ m,hZ us w m a acc=.tup [.leaf (.string ⟨⟨acc⟩⟩),dI 0,dI 0]
 | 0=>rfl
 | m+1=>by unfold hZ; rw [if_neg (by omega)]
theorem qRH {w:D} {a:Nat} (hw:qE 300000000 xT w):(yL w a w.es.length).es=w.es.drop a:=by
 rw [uI hw,List.take_of_length_le (l:=w.es.drop a) (by rw [List.length_drop]; omega)]
theorem qWT {nm us lt w:D} (hn:qE 1048576 .str nm) (hu:qE 1048576 qRg us) (hl:qE 1048576 qTk lt) (hw:qE 300000000 xT w) (hok:∀ x∈us.es,qR6 x) :
  qA EE 25 [.agg [nm,us,lt],w] (qIa us w):=by
 have mo:∀ {s:Sh} {d:D},qE 1048576 s d->qE 300000000 s d:=fun h=>zQ (by decide) h
 have k50:∀ {v:D},qE 300000000 xT v->qA EE 50 [.agg [nm,us,lt],v] (dI (gU us v.es)):=fun hv=>qWL (mo hn) (mo hu) (mo hl) hv
 have i_us:=qC hu
 have b_us:=qJ hu
 have i_lt:=qC hl
 have i_w:=qC hw
 have b_w:=qJ hw
 obtain ⟨nms,rfl,hns⟩:=hn
 have main:∀ m,m<=24->∀ (i:Nat) (l:List UInt8),w.es.length<=i+m->i<=(24 - m) * 1048576->l.length<=(24 - m) * 1048576->qG EE (qA EE) qQk 1 [w,dI ((i:Nat):Int),.agg [.leaf (.string nms),us,lt],qEZ l] (hZ us w m i l):=by
  intro m
  induction m with
  | zero =>
   intro _ i l h1 h2 h3
   refine qG.step' ?_
   refine bS (qH i_w) ?_
   refine bS qK ?_
   refine iC (fun d=>?_) fun d=>?_
   ·have:=vV d
    omega
   refine bS (d:=.leaf (.string ⟨⟨l⟩⟩)) (qMh (by omega)) ?_
   exact zW rfl rfl
  | succ m ih =>
   intro hm i l h1 h2 h3
   by_cases hiw:i < w.es.length
   ·have hv:=uH (a:=i) (b:=w.es.length) hw
    have i_v:=qC hv
    have hb:=aD us (w.es.drop i) us.es.length
    have kn:=k50 hv
    rw [qRH hw] at kn
    have e1:hZ us w (m+1) i l=if gU us (w.es.drop i) < 0 then .tup [.leaf (.string ⟨#[]⟩),dI (i:Int),dI 20] else hZ us w m (i+(qFh us (gU us (w.es.drop i))).length) (l++qME us (gU us (w.es.drop i))):=if_pos hiw
    rw [e1]
    have hb : -1<=gU us (w.es.drop i)/\gU us (w.es.drop i) < (us.es.length:Int):=hb
    generalize hnn:gU us (w.es.drop i)=n at *
    refine qG.step' ?_
    refine bS (qH i_w) ?_
    refine bS qK ?_
    refine iC (fun d=>?_) fun d=>?_
    ·skip
     refine bS (d:=yL w i w.es.length) (qM5 hw (by omega)) ?_
     refine cS kn ?_
     refine bS qK ?_
     refine iC (fun f=>?_) fun f=>?_
     ·rw [if_pos (dT f)]
      exact zW rfl rfl
     have hn0:0<=n:=by have:=dF f; omega
     rw [if_neg (dF f)]
     obtain ⟨y,e_y⟩:=vH (l:=us) (i:=n.toNat) (by omega)
     have hy:=hok y (List.mem_of_getElem? e_y)
     obtain ⟨_,rfl,_,_,rfl,⟨s1,rfl,hs1⟩,sh,_,rfl,hsh,rfl⟩:=qN hu e_y
     have i_sh:=qC hsh
     have b_sh:=qJ hsh
     have hy:1<=sh.es.length/\sh.es.length<=3:=hy
     have hsz:s1.data.toList.length=s1.size:=by rw [Array.length_toList]; rfl
     have hsn:qFh us n=sh.es:=by unfold qFh; rw [e_y]
     have hgn:qME us n=s1.data.toList:=by unfold qME; rw [e_y]
     rw [hsn,hgn]
     refine bS (qB (off:=1) rfl i_us.one) ?_
     refine bS (qL (s:=n) (by omega) e_y) ?_
     refine bS (z9 (s:=n) (off:=0) i_us (by omega) e_y rfl rfl (by decide)) ?_
     refine bS uG ?_
     refine bS (d:=qEZ (l++s1.data.toList)) (qOv (by omega)) ?_
     refine bS (qB (off:=1) rfl i_us.one) ?_
     refine bS (qL (s:=n) (by omega) e_y) ?_
     refine bS (z9 (s:=n) (off:=1) i_us (by omega) e_y rfl i_sh.one (by decide)) ?_
     refine bS (qH i_sh) ?_
     refine bS (d:=dI (((i:Nat):Int)+((sh.es.length:Nat):Int))) (xF (by omega)) ?_
     exact qF rfl (ih (by omega) (i+sh.es.length) (l++s1.data.toList) (by omega) (by omega) (by rw [List.length_append]; omega))
    have:=zC d; omega
   rw [qGV (by omega)]
   refine qG.step' ?_
   refine bS (qH i_w) ?_
   refine bS qK ?_
   refine iC (fun d=>?_) fun d=>?_
   ·have:=vV d; omega
   refine bS (d:=.leaf (.string ⟨⟨l⟩⟩)) (qMh (by omega)) ?_
   exact zW rfl rfl
 unfold qIa
 refine qY7 rfl (qG.step' ?_)
 refine bS (qI rfl) ?_
 refine bS (qH i_w) ?_
 refine bS vX ?_
 refine iC (fun c=>?_) fun c=>?_
 ·rw [if_pos (by have:=dT c; omega)]
  exact zW rfl rfl
 rw [if_neg (by have:=dF c; omega)]
 refine bS (qH i_w) ?_
 refine bS zL ?_
 refine iC (fun d=>?_) fun d=>?_
 ·rw [if_pos (by have:=dT d; omega)]
  exact zW rfl rfl
 have hw24:w.es.length<=24:=by have:=dF d; omega
 rw [if_neg (by omega)]
 exact qF rfl (main w.es.length hw24 0 [] (by omega) (by omega) (by simp))
open Classical in
noncomputable def qBw (a b:List D):Bool:=decide (a=b.take a.length)
open Classical in
theorem qGT {a b:List D}:qBw a b=true↔a=b.take a.length:=by unfold qBw; exact decide_eq_true_iff
open Classical in
theorem qKk {a b:List D} (h:¬ a=b.take a.length):qBw a b=false:=by unfold qBw; exact fD h
theorem qSH {x y:Operand} {a b:ByteArray} (h:a.size+b.size<=1000000000):TOp.eval EE (.bin .add 9 x y) [.leaf (.string a),.leaf (.string b)]=some (.leaf (.string (a++b))):=by
 rw [rQ]
 show nL (yE EE .add 9 x y (.string a) (.string b))=_
 have e:yE EE .add 9 x y (.string a) (.string b)=flat? (qT EE.prog (Op.stringOp .add a b)):=rfl
 rw [e]
 unfold Op.stringOp
 simp only
 rw [if_neg (by have:IntKind.i64.max=9223372036854775807:=rfl; omega)]
 rfl
theorem qSX (l:List UInt8) (s:ByteArray):(⟨⟨l⟩⟩:ByteArray)++s=⟨⟨l++s.data.toList⟩⟩:=by
 apply ByteArray.ext
 rw [ByteArray.data_append]
 simp
theorem qKl {a b:List D} {k:Nat} {x y:D} (hx:a[k]? = some x) (hy:b[k]? = some y) (hp:∀ j,j < k->a[j]? = b[j]?) (hxy:¬ x=y):qBw a b=false:=by
 refine qKk (fun h=>?_)
 have hk:k < a.length:=(gI hx).1
 rw [h,List.getElem?_take,if_pos hk,hy] at hx
 cases hx; exact hxy rfl
theorem qWH {w s1 sg:D} {a:Nat} (hw:qE 300000000 xT w) (hs:s1.one=true) (hg:qE 300000000 xT sg) (ha:a<=w.es.length):qA EE 78 [w,dI ((a:Nat):Int),.agg [s1,sg]] (dB (qBw sg.es (w.es.drop a))):=by
 have i_w:=qC hw
 have b_w:=qJ hw
 have i_sg:=qC hg
 have b_sg:=qJ hg
 refine qYL rfl (qG.step' ?_)
 refine bS (qI rfl) ?_
 refine bS (qH i_w) ?_
 refine bS (d:=dI (((w.es.length:Nat):Int) - ((a:Nat):Int))) (lI (by omega)) ?_
 refine bS (qB (off:=1) rfl i_sg.one) ?_
 refine bS (qH i_sg) ?_
 refine bS qK ?_
 refine iC (fun c=>?_) fun c=>?_
 ·have hc:=dT c
  have:qBw sg.es (w.es.drop a)=false:=by
   refine qKk (fun h=>?_)
   have h1:=congrArg List.length h
   rw [List.length_take,List.length_drop] at h1
   omega
  rw [this]
  exact qD rfl rfl
 have hc:=dF c
 refine qF rfl (vT (P:=fun k=>k<=sg.es.length->(∀ j,j < k->sg.es[j]? = (w.es.drop a)[j]?)->qG EE (qA EE) qPe 1 [w,dI ((a:Nat):Int),dI ((k:Nat):Int),.agg [s1,sg]] (dB (qBw sg.es (w.es.drop a)))) sg.es.length (fun k ih=>?_) 0 (Nat.zero_le _) (fun j h=>absurd h (Nat.not_lt_zero _)))
 intro hk hp
 refine qG.step' ?_
 refine bS (qB (off:=1) rfl i_sg.one) ?_
 refine bS (qH i_sg) ?_
 refine bS qK ?_
 refine iC (fun d=>?_) fun d=>?_
 ·have hks:=vV d
  obtain ⟨x,e_x⟩:=vH (l:=w) (i:=a+k) (by omega)
  obtain ⟨p,rfl⟩:=qN hw e_x
  obtain ⟨y,e_y⟩:=vH hks
  obtain ⟨q,rfl⟩:=qN hg e_y
  have e_w:w.es[(((a:Nat):Int)+((k:Nat):Int)).toNat]? = some (dI p):=by
   rw [show (((a:Nat):Int)+((k:Nat):Int)).toNat=a+k by omega]; exact e_x
  have e_d:(w.es.drop a)[k]? = some (dI p):=by rw [List.getElem?_drop]; exact e_x
  refine bS (d:=dI (((a:Nat):Int)+((k:Nat):Int))) (xF (by omega)) ?_
  refine bS (qL (s:=((a:Nat):Int)+((k:Nat):Int)) (by omega) e_w) ?_
  refine bS (qO (s:=((a:Nat):Int)+((k:Nat):Int)) i_w (by omega) e_w rfl) ?_
  refine bS (qB (off:=1) rfl i_sg.one) ?_
  refine bS (qL (s:=((k:Nat):Int)) (by omega) e_y) ?_
  refine bS (qO (s:=((k:Nat):Int)) i_sg (by omega) e_y rfl) ?_
  refine bS zS ?_
  refine iC (fun f=>?_) fun f=>?_
  ·rw [qKl e_y e_d hp (fun h=>by cases h; exact dT f rfl)]
   exact qD rfl rfl
  have hpq:p=q:=Decidable.not_not.1 (dF f)
  refine bS (d:=dI ((k+1:Nat):Int)) (qP (qM (by omega))) ?_
  refine qF rfl (ih hks (by omega) (fun j hj=>?_))
  rcases Nat.lt_or_eq_of_le (Nat.le_of_lt_succ hj) with h | rfl
  ·exact hp j h
  rw [e_y,e_d,hpq]
 have hks:=zC d
 have:qBw sg.es (w.es.drop a)=true:=by
  rw [qGT]
  apply List.ext_getElem?
  intro j
  rw [List.getElem?_take]
  split
  ·exact hp j (by omega)
  exact List.getElem?_eq_none (by omega)
 rw [this]
 exact qD rfl rfl
theorem qWO {nm us lt w : D} (hn : qE 1048576 .str nm) (hu : qE 1048576 qRg us) (hl : qE 1048576 qTk lt) (hw : qE 300000000 xT w) (hok : ∀ x ∈ us.es, qR6 x) :
    qA EE 42 [.agg [nm, us, lt], w] (qIa us w) := by
  have hu3 := zQ (B' := 300000000) (by decide) hu
  have i_us := qC hu
  have b_us := qJ hu
  have i_lt := qC hl
  have i_w := qC hw
  have b_w := qJ hw
  obtain ⟨nms, rfl, hns⟩ := hn
  have inner : ∀ (i : Nat) (l : List UInt8) (d : D), i < w.es.length -> l.length + 1048576 <= 1000000000 -> (gU us (w.es.drop i) < 0 -> d = .tup [.leaf (.string ⟨#[]⟩), dI (i : Int), dI 20]) ->
      (0 <= gU us (w.es.drop i) -> qG EE (qA EE) qBQ 1 [w, .leaf (.string ⟨⟨l ++ qME us (gU us (w.es.drop i))⟩⟩), dI ((i + (qFh us (gU us (w.es.drop i))).length : Nat) : Int), .agg [.leaf (.string nms), us, lt]] d) ->
      qG EE (qA EE) qBQ 2 [w, .leaf (.string ⟨⟨l⟩⟩), dI ((i : Nat) : Int), dI (qBd us (w.es.drop i) 0), dI ((0 : Nat) : Int), .agg [.leaf (.string nms), us, lt]] d := by
    intro i l d hi hll hneg hpos
    refine vK (P := fun k => qG EE (qA EE) qBQ 2 [w, .leaf (.string ⟨⟨l⟩⟩), dI ((i : Nat) : Int), dI (qBd us (w.es.drop i) k), dI ((k : Nat) : Int), .agg [.leaf (.string nms), us, lt]] d) us.es.length ?_ ?_
    · have hbd : -1 <= gU us (w.es.drop i) /\ gU us (w.es.drop i) < (us.es.length : Int) := aD us (w.es.drop i) us.es.length
      show qG EE (qA EE) qBQ 2 [w, .leaf (.string ⟨⟨l⟩⟩), dI ((i : Nat) : Int), dI (gU us (w.es.drop i)), dI ((us.es.length : Nat) : Int), .agg [.leaf (.string nms), us, lt]] d
      generalize hnn : gU us (w.es.drop i) = n at *
      refine qG.step' ?_
      refine bS (qB (off := 1) rfl i_us.one) ?_
      refine bS (qH i_us) ?_
      refine bS qK ?_
      refine iC (fun c=>?_) fun c=>?_
      · have := vV c; omega
      refine bS qK ?_
      refine iC (fun f=>?_) fun f=>?_
      · rw [hneg (dT f)]
        exact zW rfl rfl
      · have hn0 : 0 <= n := by have := dF f; omega
        have hgo := hpos hn0
        obtain ⟨y, e_y⟩ := vH (l := us) (i := n.toNat) (by omega)
        obtain ⟨_, rfl, _, _, rfl, ⟨s1, rfl, hs1⟩, sh, _, rfl, hsh, rfl⟩ := qN hu e_y
        have i_sh := qC hsh
        have b_sh := qJ hsh
        have hsn : qFh us n = sh.es := by unfold qFh; rw [e_y]
        have hgn : qME us n = s1.data.toList := by unfold qME; rw [e_y]
        rw [hsn, hgn, ← qSX] at hgo
        have hsl : (⟨⟨l⟩⟩ : ByteArray).size = l.length := rfl
        refine bS (qB (off := 1) rfl i_us.one) ?_
        refine bS (qL (s := n) (by omega) e_y) ?_
        refine bS (z9 (s := n) (off := 0) i_us (by omega) e_y rfl rfl (by decide)) ?_
        refine bS (d := .leaf (.string (⟨⟨l⟩⟩ ++ s1))) (qSH (by rw [hsl]; omega)) ?_
        refine bS (qB (off := 1) rfl i_us.one) ?_
        refine bS (qL (s := n) (by omega) e_y) ?_
        refine bS (z9 (s := n) (off := 1) i_us (by omega) e_y rfl i_sh.one (by decide)) ?_
        refine bS (qH i_sh) ?_
        refine bS (d := dI (((i : Nat) : Int) + ((sh.es.length : Nat) : Int))) (xF (by omega)) ?_
        exact qF rfl hgo
    · intro k hk ih
      have hbd := aD us (w.es.drop i) k
      obtain ⟨x, e_x⟩ := vH hk
      obtain ⟨_, rfl, _, _, rfl, ⟨s1, rfl, hs1⟩, sg, _, rfl, hsg, rfl⟩ := qN hu3 e_x
      have i_sg := qC hsg
      rw [qBc, qMe e_x] at ih
      generalize hnn : qBd us (w.es.drop i) k = n at *
      have k78 := qWH (s1 := .leaf (.string s1)) (a := i) hw rfl hsg (by omega)
      have hst : qBw sg.es (w.es.drop i) = true ↔ sg.es = (w.es.drop i).take sg.es.length := qGT
      refine qG.step' ?_
      refine bS (qB (off := 1) rfl i_us.one) ?_
      refine bS (qH i_us) ?_
      refine bS qK ?_
      refine iC (fun c=>?_) fun c=>?_
      · skip
        refine bS (qB (off := 1) rfl i_us.one) ?_
        refine bS (qL (s := ((k : Nat) : Int)) (by omega) e_x) ?_
        refine bS (z8 (s := ((k : Nat) : Int)) i_us (by omega) e_x rfl) ?_
        refine cS k78 ?_
        refine iC (fun g=>?_) fun g=>?_
        · rw [if_pos (hst.1 g)] at ih
          refine bS qK ?_
          refine iC (fun f=>?_) fun f=>?_
          · rw [if_pos (.inl (dT f))] at ih
            refine bS (d := dI ((k + 1 : Nat) : Int)) (qP (qM (by omega))) ?_
            exact qF rfl ih
          · have hn0 : 0 <= n := by have := dF f; omega
            obtain ⟨y, e_y⟩ := vH (l := us) (i := n.toNat) (by omega)
            obtain ⟨_, rfl, _, _, rfl, ⟨s2, rfl, hs2⟩, sh, _, rfl, hsh, rfl⟩ := qN hu e_y
            have i_sh := qC hsh
            have hsn : qFh us n = sh.es := by unfold qFh; rw [e_y]
            rw [hsn] at ih
            refine bS (qB (off := 1) rfl i_us.one) ?_
            refine bS (qL (s := ((k : Nat) : Int)) (by omega) e_x) ?_
            refine bS (z9 (s := ((k : Nat) : Int)) (off := 1) i_us (by omega) e_x rfl i_sg.one (by decide)) ?_
            refine bS (qH i_sg) ?_
            refine bS (qB (off := 1) rfl i_us.one) ?_
            refine bS (qL (s := n) (by omega) e_y) ?_
            refine bS (z9 (s := n) (off := 1) i_us (by omega) e_y rfl i_sh.one (by decide)) ?_
            refine bS (qH i_sh) ?_
            refine bS zL ?_
            refine iC (fun q=>?_) fun q=>?_
            · rw [if_pos (.inr (by have := dT q; omega))] at ih
              refine bS (d := dI ((k + 1 : Nat) : Int)) (qP (qM (by omega))) ?_
              exact qF rfl ih
            · rw [if_neg (by have := dF q; omega)] at ih
              refine bS (d := dI ((k + 1 : Nat) : Int)) (qP (qM (by omega))) ?_
              exact qF rfl ih
        · rw [if_neg (fun h => by rw [hst.2 h] at g; cases g)] at ih
          refine bS (d := dI ((k + 1 : Nat) : Int)) (qP (qM (by omega))) ?_
          exact qF rfl ih
      · have := zC c; omega
  have main : ∀ m, m <= 24 -> ∀ (i : Nat) (l : List UInt8), w.es.length <= i + m -> i <= (24 - m) * 1048576 -> l.length <= (24 - m) * 1048576 -> qG EE (qA EE) qBQ 1 [w, .leaf (.string ⟨⟨l⟩⟩), dI ((i : Nat) : Int), .agg [.leaf (.string nms), us, lt]] (hZ us w m i l) := by
    intro m
    induction m with
    | zero =>
      intro _ i l h1 h2 h3
      refine qG.step' ?_
      refine bS (qH i_w) ?_
      refine bS qK ?_
      refine iC (fun d=>?_) fun d=>?_
      · have := vV d
        omega
      · exact zW rfl rfl
    | succ m ih =>
      intro hm i l h1 h2 h3
      by_cases hiw : i < w.es.length
      · have e1 : hZ us w (m + 1) i l = if gU us (w.es.drop i) < 0 then .tup [.leaf (.string ⟨#[]⟩), dI (i : Int), dI 20] else hZ us w m (i + (qFh us (gU us (w.es.drop i))).length) (l ++ qME us (gU us (w.es.drop i))) := if_pos hiw
        have hb : -1 <= gU us (w.es.drop i) /\ gU us (w.es.drop i) < (us.es.length : Int) := aD us (w.es.drop i) us.es.length
        have hin := inner i l (hZ us w (m + 1) i l) hiw (by omega) (fun h => by rw [e1, if_pos h]) (fun h => by
          rw [e1, if_neg (by omega)]
          generalize hnn : gU us (w.es.drop i) = n at *
          obtain ⟨y, e_y⟩ := vH (l := us) (i := n.toNat) (by omega)
          have hy := hok y (List.mem_of_getElem? e_y)
          obtain ⟨_, rfl, _, _, rfl, ⟨s1, rfl, hs1⟩, sh, _, rfl, hsh, rfl⟩ := qN hu e_y
          have hy : 1 <= sh.es.length /\ sh.es.length <= 3 := hy
          have hsz : s1.data.toList.length = s1.size := by rw [Array.length_toList]; rfl
          have hsn : qFh us n = sh.es := by unfold qFh; rw [e_y]
          have hgn : qME us n = s1.data.toList := by unfold qME; rw [e_y]
          rw [hsn, hgn]
          exact ih (by omega) _ _ (by omega) (by omega) (by rw [List.length_append]; omega))
        refine qG.step' ?_
        refine bS (qH i_w) ?_
        refine bS qK ?_
        refine iC (fun d=>?_) fun d=>?_
        · exact qF rfl hin
        · have := zC d; omega
      · rw [qGV (by omega)]
        refine qG.step' ?_
        refine bS (qH i_w) ?_
        refine bS qK ?_
        refine iC (fun d=>?_) fun d=>?_
        · have := vV d; omega
        · exact zW rfl rfl
  unfold qIa
  refine qY3 rfl (qG.step' ?_)
  refine bS (qI rfl) ?_
  refine bS (qH i_w) ?_
  refine bS vX ?_
  refine iC (fun c=>?_) fun c=>?_
  · rw [if_pos (by have := dT c; omega)]
    exact zW rfl rfl
  rw [if_neg (by have := dF c; omega)]
  refine bS (qH i_w) ?_
  refine bS zL ?_
  refine iC (fun d=>?_) fun d=>?_
  · rw [if_pos (by have := dT d; omega)]
    exact zW rfl rfl
  · have hw24 : w.es.length <= 24 := by have := dF d; omega
    rw [if_neg (by omega)]
    exact qF rfl (main w.es.length hw24 0 [] (by omega) (by omega) (by simp))
end Go.Proofs.YtnemldklhelbeaaGreat
