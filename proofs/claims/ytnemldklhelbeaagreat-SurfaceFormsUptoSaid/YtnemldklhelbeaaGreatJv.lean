/- Lists of numbers in order, each once: what a rule's check says. Conditions: none. -/
import Derived.Test.YtnemldklhelbeaaGreatJi
import Derived.Test.YtnemldklhelbeaaGreatJb
import Derived.Test.YtnemldklhelbeaaGreatJe
import Derived.Test.YtnemldklhelbeaaGreatJl
set_option linter.unusedVariables false
set_option linter.unusedSimpArgs false
namespace Go.Proofs.YtnemldklhelbeaaGreat
open Go Go.Am Go.Proofs
attribute [local irreducible] Go.Am.wp Go.Am.TOp.eval
theorem qNM {a:D} (h:qE 300000000 xT a):∃ l:List Int,a.es=l.map dI:=by
 have go:∀ es:List D,(∀ y∈es,∃ n:Int,y=dI n)->∃ l:List Int,es=l.map dI:=by
  intro es
  induction es with
  | nil=>intro _; exact ⟨[],rfl⟩
  | cons x r ih =>
   intro hh
   obtain ⟨n,rfl⟩:=hh x List.mem_cons_self
   obtain ⟨l,rfl⟩:=ih (fun y hy=>hh y (mC _ hy))
   exact ⟨n::l,rfl⟩
 refine go a.es (fun y hy=>?_)
 obtain ⟨i,hi⟩:=List.mem_iff_getElem?.1 hy
 exact qN h hi
def xX:List Int->Int->List Int
 | [],n=>[n]
 | x::r,n=>if x < n then x::xX r n else if x=n then n::r else n::x::r
theorem tC {n y:Int}:∀ l:List Int,y∈xX l n↔y=n∨y∈l
 | []=>by simp [xX]
 | x::r=>by
  unfold xX
  split
  ·rw [List.mem_cons,tC r,List.mem_cons]; constructor
   ·rintro (h | h | h)
    ·exact .inr (.inl h)
    ·exact .inl h
    exact .inr (.inr h)
   rintro (h | h | h)
   ·exact .inr (.inl h)
   ·exact .inl h
   exact .inr (.inr h)
  split
  ·rename_i h; subst h; simp
  simp
theorem qG5 (n:Int):∀ l:List Int,(xX l n).length<=l.length+1
 | []=>by simp [xX]
 | x::r=>by
  have:=qG5 n r
  unfold xX
  split
  ·simp only [List.length_cons]; omega
  split <;> simp
theorem qG4 (n:Int):∀ l:List Int,l.Pairwise (· < ·)->(xX l n).Pairwise (· < ·)
 | [],_=>by simp [xX]
 | x::r,h=>by
  obtain ⟨h1,h2⟩:=List.pairwise_cons.1 h
  unfold xX
  split
  ·rename_i hx
   refine List.pairwise_cons.2 ⟨fun y hy=>?_,qG4 n r h2⟩
   rcases (tC r).1 hy with rfl | hy
   ·exact hx
   exact h1 y hy
  split
  ·rename_i h; subst h
   exact List.pairwise_cons.2 ⟨h1,h2⟩
  rename_i hx hn
  refine List.pairwise_cons.2 ⟨fun y hy=>?_,h⟩
  rcases List.mem_cons.1 hy with rfl | hy
  ·omega
  have:=h1 y hy; omega
theorem qKD (n:Int):∀ l:List Int,l.Pairwise (· < ·)->n∈l->(xX l n).length=l.length
 | [],_,hn=>by cases hn
 | x::r,h,hn=>by
  obtain ⟨h1,h2⟩:=List.pairwise_cons.1 h
  unfold xX
  split
  ·rename_i hx
   rcases List.mem_cons.1 hn with rfl | hn
   ·omega
   simp only [List.length_cons,qKD n r h2 hn]
  split
  ·simp
  rename_i hx hne
  rcases List.mem_cons.1 hn with rfl | hn
  ·exact absurd rfl hne
  have:=h1 n hn; omega
theorem d7:∀ (l acc:List Int),acc.Pairwise (· < ·)->(l.foldl xX acc).length<=acc.length+l.length/\((l.foldl xX acc).length=acc.length+l.length->l.Nodup/\∀ y∈l,¬ y∈acc)
 | [],acc,_=>⟨zT _,fun _=>⟨List.nodup_nil,fun y hy=>by cases hy⟩⟩
 | x::r,acc,h=>by
  obtain ⟨a,b⟩:=d7 r (xX acc x) (qG4 x acc h)
  have hl:=qG5 x acc
  rw [List.foldl_cons,List.length_cons]
  refine ⟨by omega,fun he=>?_⟩
  obtain ⟨c,d⟩:=b (by omega)
  have hx:¬ x∈acc:=fun hx=>by have:=qKD x acc h hx; omega
  refine ⟨List.nodup_cons.2 ⟨fun hx=>d x hx ((tC acc).2 (.inl rfl)),c⟩,fun y hy=>?_⟩
  rcases List.mem_cons.1 hy with rfl | hy
  ·exact hx
  exact fun hq=>d y hy ((tC acc).2 (.inr hq))
theorem qSf {l:List Int} (h:l.Nodup):(l.map dI).Nodup:=by
 induction l with
 | nil=>exact List.nodup_nil
 | cons x r ih =>
  obtain ⟨h1,h2⟩:=List.nodup_cons.1 h
  refine List.nodup_cons.2 ⟨fun hm=>?_,ih h2⟩
  obtain ⟨y,hy,he⟩:=List.mem_map.1 hm
  cases he
  exact h1 hy
theorem qCT {n:Int}:qE 300000000 xT (.sl 3 1 [dI n]):=rB (by show 1<=_; omega) (fun y hy=>by rw [List.mem_singleton.1 hy]; exact jH)
theorem qFx {el sz:Nat} {e:Sh} {w:D} {a:Nat} (hw:qE 300000000 (.sl el sz e) w) (h2:a<=w.es.length):∃ d,TOp.eval EE (.slc el sz true false) [w,dI ((a:Nat):Int)]=some d/\qE 300000000 (.sl el sz e) d/\d.es=w.es.drop a:=by
 refine ⟨yL w a w.es.length,?_,uH hw,by rw [uI hw,List.take_of_length_le (l:=w.es.drop a) (by rw [List.length_drop]; omega)]⟩
 simp only [qE] at hw
 rcases hw with rfl | ⟨es,rfl,_,_⟩
 ·have hb:a=0:=by simpa [D.es] using h2
  subst hb
  rw [oB]; rfl
 have h2:a<=es.length:=h2
 rw [oB]
 have e1:vR true 0 [dI ((a:Nat):Int)]=some (a,[]):=rfl
 have e2:vR false es.length []=some (es.length,[]):=rfl
 have e3:(D.sl el sz es).es=es:=rfl
 simp only [e1,e2,e3,Nat.beq_refl,bL h2,bL (zT es.length),Bool.and_self,cond_true,yL]
theorem qK7 {l:List Int} (h:l.length<=300000000):qE 300000000 xT (qV 3 1 (l.map dI)) :=
 pA (by rw [List.length_map]; exact h) (fun y hy=>by obtain ⟨z,_,rfl⟩:=List.mem_map.1 hy; exact jH)
theorem qUV {a:D} {l:List Int} {n:Int} (ha:qE 300000000 xT a) (hl:a.es=l.map dI) (hN:l.length < 100000000):qA EE 110 [a,dI n] (qV 3 1 ((xX l n).map dI)):=by
 have i_a:=qC ha
 have hlen:a.es.length=l.length:=by rw [hl,List.length_map]
 have hall:qG EE (qA EE) tX 1 [a,dI n,qV 3 1 (a.es.take 0),dI ((0:Nat):Int)] (qV 3 1 ((l.take 0++xX (l.drop 0) n).map dI)):=by
  refine vK (P:=fun i=>qG EE (qA EE) tX 1 [a,dI n,qV 3 1 (a.es.take i),dI ((i:Nat):Int)] (qV 3 1 ((l.take i++xX (l.drop i) n).map dI))) l.length ?_ ?_
  ·refine qG.step' ?_
   refine bS (qH i_a) ?_
   refine bS qK ?_
   refine iC (fun c=>?_) fun c=>?_
   ·have:=vV c; omega
   refine bS (vY rfl) ?_
   refine bS (wU rfl) ?_
   obtain ⟨d,hd1,hd2,hd3⟩:=qFx (a:=l.length) ha (by omega)
   refine bS (d:=qV 3 1 (a.es.take l.length++[dI n])) (gD qCT (by decide) (by rw [List.length_take]; show _+1<=_; omega)) ?_
   refine bS (qH i_a) ?_
   refine bS qK ?_
   refine iC (fun c2=>?_) fun c2=>?_
   ·have:=vV c2; omega
   refine bS hd1 ?_
   refine bS (d:=qV 3 1 (a.es.take l.length++[dI n]++d.es)) (gD hd2 (by decide) (by rw [hd3,List.length_append,List.length_take,List.length_drop]; show _+1+_<=_; omega)) ?_
   refine qD rfl (congrArg (qV 3 1) ?_)
   rw [hd3,hl,List.take_of_length_le (l:=l.map dI) (by rw [List.length_map]; omega),List.drop_of_length_le (l:=l.map dI) (by rw [List.length_map]; omega),List.take_length,List.drop_length,List.append_nil]
   show _=List.map dI (l++[n])
   rw [List.map_append]; rfl
  intro i hi ih
  obtain ⟨x,hx⟩:∃ x,l[i]? = some x:=⟨_,List.getElem?_eq_getElem hi⟩
  have e_x:a.es[i]? = some (dI x):=by rw [hl,List.getElem?_map,hx]; rfl
  have hdr:l.drop i=x::l.drop (i+1):=by
   obtain ⟨h1,rfl⟩:=gI hx
   exact List.drop_eq_getElem_cons h1
  have htk:a.es.take (i+1)=a.es.take i++[dI x]:=by rw [List.take_add_one,e_x]; rfl
  have htl:a.es.take i=(l.take i).map dI:=by rw [hl,List.map_take]
  have hdl:∀ k,a.es.drop k=(l.drop k).map dI:=fun k=>by rw [hl,List.map_drop]
  refine qG.step' ?_
  refine bS (qH i_a) ?_
  refine bS qK ?_
  refine iC (fun c=>?_) fun c=>?_
  ·skip
   refine bS (qL (s:=((i:Nat):Int)) (by omega) e_x) ?_
   refine bS (qO (s:=((i:Nat):Int)) i_a (by omega) e_x rfl) ?_
   refine bS qK ?_
   refine iC (fun c2=>?_) fun c2=>?_
   ·have hlt:=dT c2
    refine bS (qL (s:=((i:Nat):Int)) (by omega) e_x) ?_
    refine bS (qO (s:=((i:Nat):Int)) i_a (by omega) e_x rfl) ?_
    refine bS (vY rfl) ?_
    refine bS (wU rfl) ?_
    refine bS (d:=qV 3 1 (a.es.take (i+1))) (by rw [htk]; exact gD qCT (by decide) (by rw [List.length_take]; show _+1<=_; omega)) ?_
    refine bS (d:=dI ((i+1:Nat):Int)) (qP (qM (by omega))) ?_
    refine qF rfl ?_
    have e:l.take i++xX (l.drop i) n=l.take (i+1)++xX (l.drop (i+1)) n:=by
     rw [hdr,xX,if_pos hlt,List.take_add_one,hx]
     simp
    rw [e]
    exact ih
   have hlt:=dF c2
   refine bS (vY rfl) ?_
   refine bS (wU rfl) ?_
   refine bS (d:=qV 3 1 (a.es.take i++[dI n])) (gD qCT (by decide) (by rw [List.length_take]; show _+1<=_; omega)) ?_
   refine bS (qH i_a) ?_
   refine bS qK ?_
   refine iC (fun c3=>?_) fun c3=>?_
   ·skip
    refine bS (qL (s:=((i:Nat):Int)) (by omega) e_x) ?_
    refine bS (qO (s:=((i:Nat):Int)) i_a (by omega) e_x rfl) ?_
    refine bS vX ?_
    refine iC (fun c4=>?_) fun c4=>?_
    ·have hxn:=dT c4
     obtain ⟨d,hd1,hd2,hd3⟩:=qFx (a:=i+1) ha (by omega)
     refine bS (d:=dI ((i+1:Nat):Int)) (qP (qM (by omega))) ?_
     refine bS hd1 ?_
     refine bS (d:=qV 3 1 (a.es.take i++[dI n]++d.es)) (gD hd2 (by decide) (by rw [hd3,List.length_append,List.length_take,List.length_drop]; show _+1+_<=_; omega)) ?_
     refine qD rfl (congrArg (qV 3 1) ?_)
     rw [hd3,hdl,htl,hdr,xX,if_neg hlt,if_pos hxn]
     simp
    have hxn:=dF c4
    obtain ⟨d,hd1,hd2,hd3⟩:=qFx (a:=i) ha (by omega)
    refine bS hd1 ?_
    refine bS (d:=qV 3 1 (a.es.take i++[dI n]++d.es)) (gD hd2 (by decide) (by rw [hd3,List.length_append,List.length_take,List.length_drop]; show _+1+_<=_; omega)) ?_
    refine qD rfl (congrArg (qV 3 1) ?_)
    rw [hd3,hdl,htl,hdr,xX,if_neg hlt,if_neg hxn]
    simp
   have:=zC c3; omega
  have:=zC c; omega
 refine qUJ rfl (qG.step' ?_)
 exact qF rfl hall
theorem qWD {a:D} {l:List Int} (ha:qE 300000000 xT a) (hl:a.es=l.map dI) (hN:l.length < 50000000):qA EE 95 [a] (qV 3 1 ((l.foldl xX []).map dI)):=by
 have i_a:=qC ha
 have hlen:a.es.length=l.length:=by rw [hl,List.length_map]
 have hle:∀ i,((l.take i).foldl xX []).length<=(l.take i).length:=fun i=>by have:=(d7 (l.take i) [] List.Pairwise.nil).1; simpa using this
 have hall:qG EE (qA EE) qJv 1 [a,qV 3 1 (((l.take 0).foldl xX []).map dI),dI ((a.es.length:Nat):Int),dI ((0:Nat):Int)] (qV 3 1 ((l.foldl xX []).map dI)):=by
  refine vK (P:=fun i=>qG EE (qA EE) qJv 1 [a,qV 3 1 (((l.take i).foldl xX []).map dI),dI ((a.es.length:Nat):Int),dI ((i:Nat):Int)] (qV 3 1 ((l.foldl xX []).map dI))) l.length ?_ ?_
  ·refine qG.step' ?_
   refine bS qK ?_
   refine iC (fun c=>?_) fun c=>?_
   ·have:=vV c; omega
   refine qD rfl ?_
   show qV 3 1 _=_
   rw [List.take_length]
  intro i hi ih
  obtain ⟨x,hx⟩:∃ x,l[i]? = some x:=⟨_,List.getElem?_eq_getElem hi⟩
  have e_x:a.es[i]? = some (dI x):=by rw [hl,List.getElem?_map,hx]; rfl
  have hb:=hle i
  have ht:=List.length_take (i:=i) (l:=l)
  have hfo:(l.take (i+1)).foldl xX []=xX ((l.take i).foldl xX []) x:=by
   rw [List.take_add_one,hx,List.foldl_append]; rfl
  refine qG.step' ?_
  refine bS qK ?_
  refine iC (fun c=>?_) fun c=>?_
  ·skip
   refine bS (qL (s:=((i:Nat):Int)) (by omega) e_x) ?_
   refine bS (qO (s:=((i:Nat):Int)) i_a (by omega) e_x rfl) ?_
   refine cS (d:=qV 3 1 ((xX ((l.take i).foldl xX []) x).map dI)) (qUV (qK7 (by omega)) gN (by omega)) ?_
   refine bS (d:=dI ((i+1:Nat):Int)) (qP (qM (by omega))) ?_
   exact qF rfl (by rw [← hfo]; exact ih)
  have:=zC c; omega
 refine qYz rfl (qG.step' ?_)
 refine bS (qH i_a) ?_
 exact qF rfl hall
def qFN:D->Prop
 | .agg [fr,to,_,_,_,_]=>to.es.length=fr.es.length/\fr.es.Nodup
 | _=>False
theorem qWK {gs fr to lf rg : D} {bg en : Bool} (hg : qE 1048576 aK gs) (hfr : qE 1048576 xT fr) (hto : qE 1048576 xT to) (hlf : qE 1048576 qHX lf) (hrg : qE 1048576 qHX rg) :
    ∃ n : Int, qA EE 63 [.agg [gs], .agg [fr, to, lf, rg, dB bg, dB en]] (dI n) /\ (n = 0 -> to.es.length = fr.es.length /\ fr.es.Nodup) := by
  have i_fr := qC hfr
  have i_to := qC hto
  have i_lf := qC hlf
  have i_rg := qC hrg
  have b_fr := qJ hfr
  have hfr3 := zQ (B' := 300000000) (by decide) hfr
  have hg3 := zQ (B' := 300000000) (by decide) hg
  have hto3 := zQ (B' := 300000000) (by decide) hto
  obtain ⟨l, hl⟩ := qNM hfr3
  have hlen : fr.es.length = l.length := by rw [hl, List.length_map]
  have k95 := qWD hfr3 hl (by omega)
  have i_S : nV 3 1 (qV 3 1 ((l.foldl xX []).map dI)) := qC (qK7 (by have := (d7 l [] List.Pairwise.nil).1; simp at this; omega))
  by_cases hq : to.es.length = fr.es.length
  · have hloop : ∃ n : Int, qG EE (qA EE) qJB 1 [dI ((fr.es.length : Nat) : Int), dI ((0 : Nat) : Int), .agg [gs], .agg [fr, to, lf, rg, dB bg, dB en]] (dI n) /\ (n = 0 -> fr.es.Nodup) := by
      refine vK (P := fun i => ∃ n : Int, qG EE (qA EE) qJB 1 [dI ((fr.es.length : Nat) : Int), dI ((i : Nat) : Int), .agg [gs], .agg [fr, to, lf, rg, dB bg, dB en]] (dI n) /\ (n = 0 -> fr.es.Nodup)) fr.es.length ?_ ?_
      · by_cases hsl : (l.foldl xX []).length = l.length
        · have hnd : fr.es.Nodup := by rw [hl]; exact qSf ((d7 l [] List.Pairwise.nil).2 (by rw [hsl]; simp)).1
          by_cases h2 : lf.es.length > 2 ∨ rg.es.length > 2
          · refine ⟨5, qG.step' ?_, fun h => by cases h⟩
            refine bS qK ?_
            refine iC (fun c=>?_) fun c=>?_
            · have := vV c; omega
            refine bS (qB (off := 0) rfl i_fr.one) ?_
            refine cS k95 ?_
            refine bS (d := dI (((qV 3 1 ((l.foldl xX []).map dI)).es.length : Nat) : Int)) (qH i_S) ?_
            refine bS (qB (off := 0) rfl i_fr.one) ?_
            refine bS (qH i_fr) ?_
            refine bS zS ?_
            refine iC (fun c2=>?_) fun c2=>?_
            · have := dT c2; rw [gN, List.length_map] at this; omega
            refine bS (qB (off := 2) rfl i_lf.one) ?_
            refine bS (qH i_lf) ?_
            refine bS zL ?_
            refine iC (fun c3=>?_) fun c3=>?_
            · exact qD rfl rfl
            have := dF c3
            refine bS (qB (off := 3) rfl i_rg.one) ?_
            refine bS (qH i_rg) ?_
            refine bS zL ?_
            refine iC (fun c4=>?_) fun c4=>?_
            · exact qD rfl rfl
            · have := dF c4; omega
          · refine ⟨0, qG.step' ?_, fun _ => hnd⟩
            refine bS qK ?_
            refine iC (fun c=>?_) fun c=>?_
            · have := vV c; omega
            refine bS (qB (off := 0) rfl i_fr.one) ?_
            refine cS k95 ?_
            refine bS (d := dI (((qV 3 1 ((l.foldl xX []).map dI)).es.length : Nat) : Int)) (qH i_S) ?_
            refine bS (qB (off := 0) rfl i_fr.one) ?_
            refine bS (qH i_fr) ?_
            refine bS zS ?_
            refine iC (fun c2=>?_) fun c2=>?_
            · have := dT c2; rw [gN, List.length_map] at this; omega
            refine bS (qB (off := 2) rfl i_lf.one) ?_
            refine bS (qH i_lf) ?_
            refine bS zL ?_
            refine iC (fun c3=>?_) fun c3=>?_
            · have := dT c3; omega
            refine bS (qB (off := 3) rfl i_rg.one) ?_
            refine bS (qH i_rg) ?_
            refine bS zL ?_
            refine iC (fun c4=>?_) fun c4=>?_
            · have := dT c4; omega
            · exact qD rfl rfl
        · refine ⟨8, qG.step' ?_, fun h => by cases h⟩
          refine bS qK ?_
          refine iC (fun c=>?_) fun c=>?_
          · have := vV c; omega
          refine bS (qB (off := 0) rfl i_fr.one) ?_
          refine cS k95 ?_
          refine bS (d := dI (((qV 3 1 ((l.foldl xX []).map dI)).es.length : Nat) : Int)) (qH i_S) ?_
          refine bS (qB (off := 0) rfl i_fr.one) ?_
          refine bS (qH i_fr) ?_
          refine bS zS ?_
          refine iC (fun c2=>?_) fun c2=>?_
          · exact qD rfl rfl
          · have := dF c2; rw [gN, List.length_map] at this; omega
      · intro i hi ⟨n, ih, hn⟩
        obtain ⟨x, e_x⟩ := vH hi
        obtain ⟨p, rfl⟩ := qN hfr3 e_x
        obtain ⟨y, e_y⟩ := vH (l := to) (i := i) (by omega)
        obtain ⟨q, rfl⟩ := qN hto3 e_y
        have k1 := qVk (s := p) hg3
        have k2 := qVk (s := q) hg3
        by_cases hp : qMD gs p = true
        · by_cases hz : q = 0 ∨ qMD gs q = true
          · refine ⟨n, qG.step' ?_, hn⟩
            refine bS qK ?_
            refine iC (fun c=>?_) fun c=>?_
            · skip
              refine bS (qB (off := 0) rfl i_fr.one) ?_
              refine bS (qL (s := ((i : Nat) : Int)) (by omega) e_x) ?_
              refine bS (qO (s := ((i : Nat) : Int)) i_fr (by omega) e_x rfl) ?_
              refine cS k1 ?_
              refine bS zZ ?_
              refine iC (fun c2=>?_) fun c2=>?_
              · rw [hp] at c2; cases c2
              refine bS (qB (off := 1) rfl i_to.one) ?_
              refine bS (qL (s := ((i : Nat) : Int)) (by omega) e_y) ?_
              refine bS (qO (s := ((i : Nat) : Int)) i_to (by omega) e_y rfl) ?_
              refine bS zS ?_
              refine iC (fun c3=>?_) fun c3=>?_
              · skip
                refine bS (qB (off := 1) rfl i_to.one) ?_
                refine bS (qL (s := ((i : Nat) : Int)) (by omega) e_y) ?_
                refine bS (qO (s := ((i : Nat) : Int)) i_to (by omega) e_y rfl) ?_
                refine cS k2 ?_
                refine bS zZ ?_
                refine iC (fun c4=>?_) fun c4=>?_
                · rcases hz with h | h
                  · exact absurd h (dT c3)
                  · rw [h] at c4; cases c4
                · skip
                  refine bS (d := dI ((i + 1 : Nat) : Int)) (qP (qM (by omega))) ?_
                  exact qF rfl ih
              · skip
                refine bS (d := dI ((i + 1 : Nat) : Int)) (qP (qM (by omega))) ?_
                exact qF rfl ih
            · have := zC c; omega
          · refine ⟨19, qG.step' ?_, fun h => by cases h⟩
            refine bS qK ?_
            refine iC (fun c=>?_) fun c=>?_
            · skip
              refine bS (qB (off := 0) rfl i_fr.one) ?_
              refine bS (qL (s := ((i : Nat) : Int)) (by omega) e_x) ?_
              refine bS (qO (s := ((i : Nat) : Int)) i_fr (by omega) e_x rfl) ?_
              refine cS k1 ?_
              refine bS zZ ?_
              refine iC (fun c2=>?_) fun c2=>?_
              · rw [hp] at c2; cases c2
              refine bS (qB (off := 1) rfl i_to.one) ?_
              refine bS (qL (s := ((i : Nat) : Int)) (by omega) e_y) ?_
              refine bS (qO (s := ((i : Nat) : Int)) i_to (by omega) e_y rfl) ?_
              refine bS zS ?_
              refine iC (fun c3=>?_) fun c3=>?_
              · skip
                refine bS (qB (off := 1) rfl i_to.one) ?_
                refine bS (qL (s := ((i : Nat) : Int)) (by omega) e_y) ?_
                refine bS (qO (s := ((i : Nat) : Int)) i_to (by omega) e_y rfl) ?_
                refine cS k2 ?_
                refine bS zZ ?_
                refine iC (fun c4=>?_) fun c4=>?_
                · exact qD rfl rfl
                · exact absurd (.inr (by simpa using c4)) hz
              · exact absurd (.inl (Decidable.not_not.1 (dF c3))) hz
            · have := zC c; omega
        · refine ⟨19, qG.step' ?_, fun h => by cases h⟩
          refine bS qK ?_
          refine iC (fun c=>?_) fun c=>?_
          · skip
            refine bS (qB (off := 0) rfl i_fr.one) ?_
            refine bS (qL (s := ((i : Nat) : Int)) (by omega) e_x) ?_
            refine bS (qO (s := ((i : Nat) : Int)) i_fr (by omega) e_x rfl) ?_
            refine cS k1 ?_
            refine bS zZ ?_
            refine iC (fun c2=>?_) fun c2=>?_
            · exact qD rfl rfl
            · exact absurd (by simpa using c2) hp
          · have := zC c; omega
    by_cases h0 : fr.es.length = 0
    · refine ⟨1, ?_, fun h => by cases h⟩
      refine qWc rfl (qG.step' ?_)
      refine bS (qI rfl) ?_
      refine bS (qI rfl) ?_
      refine bS (qB (off := 0) rfl i_fr.one) ?_
      refine bS (qH i_fr) ?_
      refine bS vX ?_
      refine iC (fun c=>?_) fun c=>?_
      · exact qD rfl rfl
      · have := dF c; omega
    · obtain ⟨n, hgo, hn⟩ := hloop
      refine ⟨n, ?_, fun h => ⟨hq, hn h⟩⟩
      refine qWc rfl (qG.step' ?_)
      refine bS (qI rfl) ?_
      refine bS (qI rfl) ?_
      refine bS (qB (off := 0) rfl i_fr.one) ?_
      refine bS (qH i_fr) ?_
      refine bS vX ?_
      refine iC (fun c=>?_) fun c=>?_
      · have := dT c; omega
      refine bS (qB (off := 1) rfl i_to.one) ?_
      refine bS (qH i_to) ?_
      refine bS (qB (off := 0) rfl i_fr.one) ?_
      refine bS (qH i_fr) ?_
      refine bS zS ?_
      refine iC (fun d=>?_) fun d=>?_
      · have := dT d; omega
      · skip
        refine bS (qB (off := 0) rfl i_fr.one) ?_
        refine bS (qH i_fr) ?_
        exact qF rfl hgo
  · refine ⟨1, ?_, fun h => by cases h⟩
    refine qWc rfl (qG.step' ?_)
    refine bS (qI rfl) ?_
    refine bS (qI rfl) ?_
    refine bS (qB (off := 0) rfl i_fr.one) ?_
    refine bS (qH i_fr) ?_
    refine bS vX ?_
    refine iC (fun c=>?_) fun c=>?_
    · exact qD rfl rfl
    refine bS (qB (off := 1) rfl i_to.one) ?_
    refine bS (qH i_to) ?_
    refine bS (qB (off := 0) rfl i_fr.one) ?_
    refine bS (qH i_fr) ?_
    refine bS zS ?_
    refine iC (fun d=>?_) fun d=>?_
    · exact qD rfl rfl
    · have := dF d
      omega
end Go.Proofs.YtnemldklhelbeaaGreat
namespace Go.Proofs.YtnemldklhelbeaaGreat
open Go Go.Am Go.Proofs
attribute [local irreducible] Go.Am.wp Go.Am.TOp.eval
theorem qWS {gs nm us lt rs n ws fs l : D} (hg : qE 1048576 aK gs) (hr : qE 1048576 qTl rs) :
    ∃ e : Int, qA EE 33 [.agg [gs, nm, us, lt, rs, n, ws, fs, l]] (dI e) /\ (e = 0 -> ∀ r ∈ rs.es, qFN r) := by
  have i_rs := qC hr
  have b_rs := qJ hr
  have hloop : ∃ e : Int, qG EE (qA EE) qJG 1 [dI ((0 : Nat) : Int), .agg [gs, nm, us, lt, rs, n, ws, fs, l]] (dI e) /\ (e = 0 -> ∀ r ∈ rs.es.drop 0, qFN r) := by
    refine vK (P := fun i => ∃ e : Int, qG EE (qA EE) qJG 1 [dI ((i : Nat) : Int), .agg [gs, nm, us, lt, rs, n, ws, fs, l]] (dI e) /\ (e = 0 -> ∀ r ∈ rs.es.drop i, qFN r)) rs.es.length ?_ ?_
    · refine ⟨0, qG.step' ?_, fun _ r hr => by rw [List.drop_length] at hr; cases hr⟩
      refine bS (qB (off := 4) rfl i_rs.one) ?_
      refine bS (qH i_rs) ?_
      refine bS qK ?_
      refine iC (fun c=>?_) fun c=>?_
      · have := vV c; omega
      · exact qD rfl rfl
    · intro i hi ⟨e, ih, hih⟩
      obtain ⟨x, e_x⟩ := vH hi
      obtain ⟨_, rfl, fr, _, rfl, hfr, to, _, rfl, hto, lf, _, rfl, hlf, rg, _, rfl, hrg, _, _, rfl, ⟨bg, rfl⟩, _, _, rfl, ⟨en, rfl⟩, rfl⟩ := qN hr e_x
      obtain ⟨q, hq, hq0⟩ := qWK (bg := bg) (en := en) hg hfr hto hlf hrg
      by_cases hz : q = 0
      · refine ⟨e, qG.step' ?_, fun he r hr => ?_⟩
        · show wp _ _ _ qJH _
          refine bS (qB (off := 4) rfl i_rs.one) ?_
          refine bS (qH i_rs) ?_
          refine bS qK ?_
          refine iC (fun c=>?_) fun c=>?_
          · skip
            refine bS (xW (off := 0) (size := 1) rfl) ?_
            refine bS (qB (off := 4) rfl i_rs.one) ?_
            refine bS (qL (s := ((i : Nat) : Int)) (by omega) e_x) ?_
            refine bS (z8 (s := ((i : Nat) : Int)) i_rs (by omega) e_x rfl) ?_
            refine cS hq ?_
            refine bS zS ?_
            refine iC (fun d=>?_) fun d=>?_
            · exact absurd hz (dT d)
            · skip
              refine bS (d := dI ((i + 1 : Nat) : Int)) (qP (qM (by omega))) ?_
              exact qF rfl ih
          · have := zC c; omega
        · rw [oP e_x] at hr
          rcases List.mem_cons.1 hr with rfl | hr
          · exact hq0 hz
          · exact hih he r hr
      · refine ⟨q, qG.step' ?_, fun he => absurd he hz⟩
        refine bS (qB (off := 4) rfl i_rs.one) ?_
        refine bS (qH i_rs) ?_
        refine bS qK ?_
        refine iC (fun c=>?_) fun c=>?_
        · skip
          refine bS (xW (off := 0) (size := 1) rfl) ?_
          refine bS (qB (off := 4) rfl i_rs.one) ?_
          refine bS (qL (s := ((i : Nat) : Int)) (by omega) e_x) ?_
          refine bS (z8 (s := ((i : Nat) : Int)) i_rs (by omega) e_x rfl) ?_
          refine cS hq ?_
          refine bS zS ?_
          refine iC (fun d=>?_) fun d=>?_
          · exact qD rfl rfl
          · exact absurd (Decidable.not_not.1 (dF d)) hz
        · have := zC c; omega
  obtain ⟨e, hgo, he⟩ := hloop
  by_cases h12 : rs.es.length > 12
  · refine ⟨11, qXS rfl (qG.step' ?_), fun h => by cases h⟩
    refine bS (qI rfl) ?_
    refine bS (qB (off := 4) rfl i_rs.one) ?_
    refine bS (qH i_rs) ?_
    refine bS zL ?_
    refine iC (fun c=>?_) fun c=>?_
    · exact qD rfl rfl
    · have := dF c; omega
  · refine ⟨e, qXS rfl (qG.step' ?_), fun h => by simpa using he h⟩
    refine bS (qI rfl) ?_
    refine bS (qB (off := 4) rfl i_rs.one) ?_
    refine bS (qH i_rs) ?_
    refine bS zL ?_
    refine iC (fun c=>?_) fun c=>?_
    · have := dT c; omega
    · exact qF rfl hgo
theorem qM7 {t:TypeId} {x y:Operand} {p:Nat} (h:p < 1000000000):TOp.eval EE (.bin .sub t x y) [dI ((p+1:Nat):Int),dI 1]=some (dI ((p:Nat):Int)):=by
 have:((p+1:Nat):Int) - 1=((p:Nat):Int):=by omega
 rw [← this]
 exact lI (by omega)
theorem qWQ {gs l : D} (hg : qE 1048576 aK gs) (hl : qE 1048576 qGH l) : ∃ q : Int, qA EE 35 [.agg [gs], l] (dI q) /\ (q = 0 -> ∀ x ∈ l.es, qJl x) := by
  have i_l := qC hl
  have b_l := qJ hl
  by_cases hall : ∀ x ∈ l.es, qJl x
  · obtain ⟨q, hq⟩ := qZw hg hl
    exact ⟨q, hq, fun _ => hall⟩
  · have hloop : (∃ (j : Nat) (x : D), 0 <= j /\ l.es[j]? = some x /\ ¬ qJl x) -> ∃ e : Int, e ≠ 0 /\ qG EE (qA EE) qJF 1 [l, dI ((l.es.length : Nat) : Int), dI ((0 : Nat) : Int), .agg [gs]] (dI e) := by
      refine vK (P := fun i => (∃ (j : Nat) (x : D), i <= j /\ l.es[j]? = some x /\ ¬ qJl x) -> ∃ e : Int, e ≠ 0 /\ qG EE (qA EE) qJF 1 [l, dI ((l.es.length : Nat) : Int), dI ((i : Nat) : Int), .agg [gs]] (dI e)) l.es.length ?_ ?_
      · rintro ⟨j, x, hj, hx, _⟩
        have := (gI hx).1
        omega
      · intro i hi ih hbad
        obtain ⟨y, e_y⟩ := vH hi
        have hy := e_y
        obtain ⟨e, ke, he⟩ := qZJ hg (qN hl e_y)
        obtain ⟨_, rfl, _, _, rfl, ⟨y0, rfl⟩, y1, _, rfl, _, _, _, rfl, ⟨y2, rfl⟩, y3, _, rfl, _, _, _, rfl, ⟨y4, rfl⟩, y5, _, rfl, _, y6, _, rfl, _, y7, _, rfl, _, rfl⟩ := qN hl e_y
        by_cases hz : e = 0
        · have hnx : ∃ (j : Nat) (x : D), i + 1 <= j /\ l.es[j]? = some x /\ ¬ qJl x := by
            obtain ⟨j, x, hj, hx, hno⟩ := hbad
            rcases Nat.lt_or_eq_of_le hj with h | rfl
            · exact ⟨j, x, h, hx, hno⟩
            · rw [hy] at hx; cases hx; exact absurd (he hz) hno
          obtain ⟨q, hq, hgo⟩ := ih hnx
          by_cases hi0 : i = 0
          · refine ⟨q, hq, qG.step' ?_⟩
            refine bS qK ?_
            refine iC (fun c=>?_) fun c=>?_
            · skip
              refine bS (qL (s := ((i : Nat) : Int)) (by omega) e_y) ?_
              refine bS (z8 (s := ((i : Nat) : Int)) i_l (by omega) e_y rfl) ?_
              refine cS ke ?_
              refine bS zS ?_
              refine iC (fun c2=>?_) fun c2=>?_
              · exact absurd hz (nz c2)
              refine bS zL ?_
              refine iC (fun c3=>?_) fun c3=>?_
              · have := dT c3; omega
              · skip
                refine bS (d := dI ((i + 1 : Nat) : Int)) (qP (qM (by omega))) ?_
                exact qF rfl hgo
            · have := zC c; omega
          · obtain ⟨p, rfl⟩ : ∃ p, i = p + 1 := ⟨i - 1, by omega⟩
            obtain ⟨z, e_z⟩ := vH (l := l) (i := p) (by omega)
            obtain ⟨_, rfl, _, _, rfl, ⟨z0, rfl⟩, z1, _, rfl, _, _, _, rfl, ⟨z2, rfl⟩, z3, _, rfl, _, _, _, rfl, ⟨z4, rfl⟩, z5, _, rfl, _, z6, _, rfl, _, z7, _, rfl, _, rfl⟩ := qN hl e_z
            by_cases ho : y0 <= z0
            · refine ⟨10, by omega, qG.step' ?_⟩
              refine bS qK ?_
              refine iC (fun c=>?_) fun c=>?_
              · skip
                refine bS (qL (s := ((p + 1 : Nat) : Int)) (by omega) e_y) ?_
                refine bS (z8 (s := ((p + 1 : Nat) : Int)) i_l (by omega) e_y rfl) ?_
                refine cS ke ?_
                refine bS zS ?_
                refine iC (fun c2=>?_) fun c2=>?_
                · exact absurd hz (nz c2)
                refine bS zL ?_
                refine iC (fun c3=>?_) fun c3=>?_
                · skip
                  refine bS (qL (s := ((p + 1 : Nat) : Int)) (by omega) e_y) ?_
                  refine bS (z9 (s := ((p + 1 : Nat) : Int)) (off := 0) i_l (by omega) e_y rfl rfl (by decide)) ?_
                  refine bS (d := dI ((p : Nat) : Int)) (qM7 (by omega)) ?_
                  refine bS (qL (s := ((p : Nat) : Int)) (by omega) e_z) ?_
                  refine bS (z9 (s := ((p : Nat) : Int)) (off := 0) i_l (by omega) e_z rfl rfl (by decide)) ?_
                  refine bS o7 ?_
                  refine iC (fun c4=>?_) fun c4=>?_
                  · exact qD rfl rfl
                  · exact absurd ho (dF c4)
                · have := dF c3; omega
              · have := zC c; omega
            · refine ⟨q, hq, qG.step' ?_⟩
              refine bS qK ?_
              refine iC (fun c=>?_) fun c=>?_
              · skip
                refine bS (qL (s := ((p + 1 : Nat) : Int)) (by omega) e_y) ?_
                refine bS (z8 (s := ((p + 1 : Nat) : Int)) i_l (by omega) e_y rfl) ?_
                refine cS ke ?_
                refine bS zS ?_
                refine iC (fun c2=>?_) fun c2=>?_
                · exact absurd hz (nz c2)
                refine bS zL ?_
                refine iC (fun c3=>?_) fun c3=>?_
                · skip
                  refine bS (qL (s := ((p + 1 : Nat) : Int)) (by omega) e_y) ?_
                  refine bS (z9 (s := ((p + 1 : Nat) : Int)) (off := 0) i_l (by omega) e_y rfl rfl (by decide)) ?_
                  refine bS (d := dI ((p : Nat) : Int)) (qM7 (by omega)) ?_
                  refine bS (qL (s := ((p : Nat) : Int)) (by omega) e_z) ?_
                  refine bS (z9 (s := ((p : Nat) : Int)) (off := 0) i_l (by omega) e_z rfl rfl (by decide)) ?_
                  refine bS o7 ?_
                  refine iC (fun c4=>?_) fun c4=>?_
                  · exact absurd (dT c4) ho
                  · skip
                    refine bS (d := dI ((p + 1 + 1 : Nat) : Int)) (qP (qM (by omega))) ?_
                    exact qF rfl hgo
                · have := dF c3; omega
              · have := zC c; omega
        · refine ⟨e, hz, qG.step' ?_⟩
          refine bS qK ?_
          refine iC (fun c=>?_) fun c=>?_
          · skip
            refine bS (qL (s := ((i : Nat) : Int)) (by omega) e_y) ?_
            refine bS (z8 (s := ((i : Nat) : Int)) i_l (by omega) e_y rfl) ?_
            refine cS ke ?_
            refine bS zS ?_
            refine iC (fun c2=>?_) fun c2=>?_
            · exact qD rfl rfl
            · exact absurd (zz c2) hz
          · have := zC c; omega
    by_cases h100 : l.es.length > 100
    · refine ⟨11, ?_, fun h => by cases h⟩
      refine qXQ rfl (qG.step' ?_)
      refine bS (qI rfl) ?_
      refine bS (qH i_l) ?_
      refine bS zL ?_
      refine iC (fun c=>?_) fun c=>?_
      · exact qD rfl rfl
      · have := dF c; omega
    · obtain ⟨e, he, hgo⟩ := hloop (by
        refine Classical.byContradiction fun hno => hall fun x hx => ?_
        refine Classical.byContradiction fun hx' => hno ?_
        obtain ⟨j, hj⟩ := List.mem_iff_getElem?.1 hx
        exact ⟨j, x, Nat.zero_le _, hj, hx'⟩)
      refine ⟨e, ?_, fun h => absurd h he⟩
      refine qXQ rfl (qG.step' ?_)
      refine bS (qI rfl) ?_
      refine bS (qH i_l) ?_
      refine bS zL ?_
      refine iC (fun c=>?_) fun c=>?_
      · have := dT c; omega
      · skip
        refine bS (qH i_l) ?_
        exact qF rfl hgo
def qHn (n:Int):D->Prop
 | .leaf (.int .i64 q)=>0<=q/\q < n
 | _=>False
def qIs (n:Int):D->Prop
 | .agg [.leaf (.int .i64 f),.leaf (.int .i64 c),.leaf (.int .i64 t)]=>0<=f/\f < n/\1<=c/\0<=t/\t < n
 | _=>False
theorem qRP {n q:Int} {ws fs:D} (hw:ws.one=true) (hf:fs.one=true):qA EE 64 [.agg [dI n,ws,fs],dI q] (dB (decide (0<=q) && decide (q < n))):=by
 refine u64 rfl (qG.step' ?_)
 refine bS (qI rfl) ?_
 refine bS wE ?_
 refine iC (fun c=>?_) fun c=>?_
 ·skip
  refine bS (qB (off:=0) rfl rfl) ?_
  refine bS qK ?_
  exact qD rfl (by rw [show decide (0<=q)=true from tD (dT c)]; rfl)
 exact qD rfl (by rw [show decide (0<=q)=false from fD (fun h=>dF c h)]; rfl)
theorem qLF {x y:Operand} {f c t f' c' t':Int}:TOp.eval EE (.bin .eql 122 x y) [.agg [dI f,dI c,dI t],.agg [dI f',dI c',dI t']]=some (dB (lW [dI f,dI c,dI t] [dI f',dI c',dI t'])) :=
 qCF .eql (.inr rfl) (n:=5) (ss:=[.int .i64,.int .i64,.int .i64]) (by kernel_rfl) (by kernel_rfl) (by decide) (by kernel_rfl) rfl (yA rK (yA rK (yA rK tB))) (yA rK (yA rK (yA rK tB)))
theorem qSp (n q:Int):(0<=q/\q < n/\(decide (0<=q) && decide (q < n))=true)∨(¬ (0<=q/\q < n)/\(decide (0<=q) && decide (q < n))=false):=by
 by_cases h:0<=q/\q < n
 ·exact .inl ⟨h.1,h.2,by rw [tD h.1,tD h.2]; rfl⟩
 refine .inr ⟨h,?_⟩
 rw [Bool.and_eq_false_iff]
 by_cases h0:0<=q
 ·exact .inr (fD (fun h1=>h ⟨h0,h1⟩))
 exact .inl (fD h0)
theorem qWR {n : Int} {ws fs : D} (hw : qE 1048576 qHW ws) (hf : qE 1048576 xT fs) : ∃ q : Int, qA EE 34 [.agg [dI n, ws, fs]] (dI q) /\ (q = 0 -> 1 <= n /\ (∀ x ∈ ws.es, qIs n x) /\ ∀ x ∈ fs.es, qHn n x) := by
  have i_ws := qC hw
  have b_ws := qJ hw
  have i_fs := qC hf
  have b_fs := qJ hf
  by_cases hall : 1 <= n /\ (∀ x ∈ ws.es, qIs n x) /\ ∀ x ∈ fs.es, qHn n x
  · obtain ⟨q, hq⟩ := qZx (n := dI n) ⟨n, rfl⟩ hw hf
    exact ⟨q, hq, fun _ => hall⟩
  have loop4 : (∃ (j : Nat) (x : D), 0 <= j /\ fs.es[j]? = some x /\ ¬ qHn n x) -> ∃ e : Int, e ≠ 0 /\ qG EE (qA EE) b8 4 [dI ((0 : Nat) : Int), .agg [dI n, ws, fs]] (dI e) := by
    refine vK (P := fun i => (∃ (j : Nat) (x : D), i <= j /\ fs.es[j]? = some x /\ ¬ qHn n x) -> ∃ e : Int, e ≠ 0 /\ qG EE (qA EE) b8 4 [dI ((i : Nat) : Int), .agg [dI n, ws, fs]] (dI e)) fs.es.length ?_ ?_
    · rintro ⟨j, x, hj, hx, _⟩
      have := (gI hx).1
      omega
    · intro i hi ih hbad
      obtain ⟨y, e_y⟩ := vH hi
      have hy := e_y
      obtain ⟨q, rfl⟩ := qN hf e_y
      have kq := qRP (n := n) (q := q) i_ws.one i_fs.one
      rcases qSp n q with ⟨a1, a2, a3⟩ | ⟨a1, a2⟩
      · obtain ⟨e, he, hgo⟩ := ih (by
          obtain ⟨j, x, hj, hx, hno⟩ := hbad
          rcases Nat.lt_or_eq_of_le hj with h | rfl
          · exact ⟨j, x, h, hx, hno⟩
          · rw [hy] at hx; cases hx; exact absurd ⟨a1, a2⟩ hno)
        refine ⟨e, he, qG.step' ?_⟩
        refine bS (qB (off := 2) rfl i_fs.one) ?_
        refine bS (qH i_fs) ?_
        refine bS qK ?_
        refine iC (fun c=>?_) fun c=>?_
        · skip
          refine bS (qB (off := 2) rfl i_fs.one) ?_
          refine bS (qL (s := ((i : Nat) : Int)) (by omega) e_y) ?_
          refine bS (qO (s := ((i : Nat) : Int)) i_fs (by omega) e_y rfl) ?_
          refine cS kq ?_
          refine bS zZ ?_
          refine iC (fun c2=>?_) fun c2=>?_
          · rw [a3] at c2; cases c2
          · skip
            refine bS (d := dI ((i + 1 : Nat) : Int)) (qP (qM (by omega))) ?_
            exact qF rfl hgo
        · have := zC c; omega
      · refine ⟨2, by omega, qG.step' ?_⟩
        refine bS (qB (off := 2) rfl i_fs.one) ?_
        refine bS (qH i_fs) ?_
        refine bS qK ?_
        refine iC (fun c=>?_) fun c=>?_
        · skip
          refine bS (qB (off := 2) rfl i_fs.one) ?_
          refine bS (qL (s := ((i : Nat) : Int)) (by omega) e_y) ?_
          refine bS (qO (s := ((i : Nat) : Int)) i_fs (by omega) e_y rfl) ?_
          refine cS kq ?_
          refine bS zZ ?_
          refine iC (fun c2=>?_) fun c2=>?_
          · exact qD rfl rfl
          · rw [a2] at c2; cases c2
        · have := zC c; omega
  have loop3 : (∃ (j : Nat) (x : D), 0 <= j /\ fs.es[j]? = some x /\ ¬ qHn n x) -> ∃ e : Int, e ≠ 0 /\ qG EE (qA EE) b8 3 [dI ((0 + 1 : Nat) : Int), .agg [dI n, ws, fs]] (dI e) := by
    intro hbad
    refine vT (P := fun p : Nat => ∃ e : Int, e ≠ 0 /\ qG EE (qA EE) b8 3 [dI ((p + 1 : Nat) : Int), .agg [dI n, ws, fs]] (dI e)) fs.es.length (fun p ih => ?_) 0
    by_cases hp : p + 1 < fs.es.length
    · obtain ⟨y, e_y⟩ := vH hp
      obtain ⟨q, rfl⟩ := qN hf e_y
      obtain ⟨z, e_z⟩ := vH (l := fs) (i := p) (by omega)
      obtain ⟨r, rfl⟩ := qN hf e_z
      by_cases ho : q <= r
      · refine ⟨10, by omega, qG.step' ?_⟩
        refine bS (qB (off := 2) rfl i_fs.one) ?_
        refine bS (qH i_fs) ?_
        refine bS qK ?_
        refine iC (fun c=>?_) fun c=>?_
        · skip
          refine bS (qB (off := 2) rfl i_fs.one) ?_
          refine bS (qL (s := ((p + 1 : Nat) : Int)) (by omega) e_y) ?_
          refine bS (qO (s := ((p + 1 : Nat) : Int)) i_fs (by omega) e_y rfl) ?_
          refine bS (qB (off := 2) rfl i_fs.one) ?_
          refine bS (d := dI ((p : Nat) : Int)) (qM7 (by omega)) ?_
          refine bS (qL (s := ((p : Nat) : Int)) (by omega) e_z) ?_
          refine bS (qO (s := ((p : Nat) : Int)) i_fs (by omega) e_z rfl) ?_
          refine bS o7 ?_
          refine iC (fun c2=>?_) fun c2=>?_
          · exact qD rfl rfl
          · exact absurd ho (dF c2)
        · have := zC c; omega
      · obtain ⟨e, he, hgo⟩ := ih (by omega)
        refine ⟨e, he, qG.step' ?_⟩
        refine bS (qB (off := 2) rfl i_fs.one) ?_
        refine bS (qH i_fs) ?_
        refine bS qK ?_
        refine iC (fun c=>?_) fun c=>?_
        · skip
          refine bS (qB (off := 2) rfl i_fs.one) ?_
          refine bS (qL (s := ((p + 1 : Nat) : Int)) (by omega) e_y) ?_
          refine bS (qO (s := ((p + 1 : Nat) : Int)) i_fs (by omega) e_y rfl) ?_
          refine bS (qB (off := 2) rfl i_fs.one) ?_
          refine bS (d := dI ((p : Nat) : Int)) (qM7 (by omega)) ?_
          refine bS (qL (s := ((p : Nat) : Int)) (by omega) e_z) ?_
          refine bS (qO (s := ((p : Nat) : Int)) i_fs (by omega) e_z rfl) ?_
          refine bS o7 ?_
          refine iC (fun c2=>?_) fun c2=>?_
          · exact absurd (dT c2) ho
          · skip
            refine bS (d := dI ((p + 1 + 1 : Nat) : Int)) (qP (qM (by omega))) ?_
            exact qF rfl hgo
        · have := zC c; omega
    · obtain ⟨e, he, hgo⟩ := loop4 hbad
      refine ⟨e, he, qG.step' ?_⟩
      refine bS (qB (off := 2) rfl i_fs.one) ?_
      refine bS (qH i_fs) ?_
      refine bS qK ?_
      refine iC (fun c=>?_) fun c=>?_
      · have := vV c; omega
      · skip
        exact qF rfl hgo
  have loop2 : ∀ (i : Nat) (f c t : Int), i < ws.es.length -> (∃ e : Int, e ≠ 0 /\ qG EE (qA EE) b8 1 [dI ((i + 1 : Nat) : Int), .agg [dI n, ws, fs]] (dI e)) ->
      ∃ e : Int, e ≠ 0 /\ qG EE (qA EE) b8 2 [dI ((i : Nat) : Int), dI ((0 : Nat) : Int), .agg [dI n, ws, fs], dI t, dB true, dI c, .agg [dI f, dI c, dI t]] (dI e) := by
    intro i f c t hi hnext
    refine vT (P := fun k : Nat => ∃ e : Int, e ≠ 0 /\ qG EE (qA EE) b8 2 [dI ((i : Nat) : Int), dI ((k : Nat) : Int), .agg [dI n, ws, fs], dI t, dB true, dI c, .agg [dI f, dI c, dI t]] (dI e)) i (fun k ih => ?_) 0
    by_cases hk : k < i
    · obtain ⟨y, e_y⟩ := vH (l := ws) (i := k) (by omega)
      obtain ⟨_, rfl, _, _, rfl, ⟨y0, rfl⟩, _, _, rfl, ⟨y1, rfl⟩, _, _, rfl, ⟨y2, rfl⟩, rfl⟩ := qN hw e_y
      obtain ⟨e, he, hgo⟩ := ih hk
      by_cases hd : lW [dI y0, dI y1, dI y2] [dI f, dI c, dI t] = true
      · refine ⟨8, by omega, qG.step' ?_⟩
        refine bS qK ?_
        refine iC (fun c1=>?_) fun c1=>?_
        · skip
          refine bS (qB (off := 1) rfl i_ws.one) ?_
          refine bS (qL (s := ((k : Nat) : Int)) (by omega) e_y) ?_
          refine bS (z8 (s := ((k : Nat) : Int)) i_ws (by omega) e_y rfl) ?_
          refine bS qLF ?_
          refine iC (fun c2=>?_) fun c2=>?_
          · exact qD rfl rfl
          · rw [hd] at c2; cases c2
        · have := zC c1; omega
      · refine ⟨e, he, qG.step' ?_⟩
        refine bS qK ?_
        refine iC (fun c1=>?_) fun c1=>?_
        · skip
          refine bS (qB (off := 1) rfl i_ws.one) ?_
          refine bS (qL (s := ((k : Nat) : Int)) (by omega) e_y) ?_
          refine bS (z8 (s := ((k : Nat) : Int)) i_ws (by omega) e_y rfl) ?_
          refine bS qLF ?_
          refine iC (fun c2=>?_) fun c2=>?_
          · exact absurd c2 hd
          · skip
            refine bS (d := dI ((k + 1 : Nat) : Int)) (qP (qM (by omega))) ?_
            exact qF rfl hgo
        · have := zC c1; omega
    · obtain ⟨e, he, hgo⟩ := hnext
      refine ⟨e, he, qG.step' ?_⟩
      refine bS qK ?_
      refine iC (fun c1=>?_) fun c1=>?_
      · have := vV c1; omega
      · skip
        refine bS (d := dI ((i + 1 : Nat) : Int)) (qP (qM (by omega))) ?_
        exact qF rfl hgo
  have loop1 : ((∃ (j : Nat) (x : D), 0 <= j /\ ws.es[j]? = some x /\ ¬ qIs n x) ∨ (∃ (j : Nat) (x : D), 0 <= j /\ fs.es[j]? = some x /\ ¬ qHn n x)) -> ∃ e : Int, e ≠ 0 /\ qG EE (qA EE) b8 1 [dI ((0 : Nat) : Int), .agg [dI n, ws, fs]] (dI e) := by
    refine vK (P := fun i => ((∃ (j : Nat) (x : D), i <= j /\ ws.es[j]? = some x /\ ¬ qIs n x) ∨ (∃ (j : Nat) (x : D), 0 <= j /\ fs.es[j]? = some x /\ ¬ qHn n x)) -> ∃ e : Int, e ≠ 0 /\ qG EE (qA EE) b8 1 [dI ((i : Nat) : Int), .agg [dI n, ws, fs]] (dI e)) ws.es.length ?_ ?_
    · rintro (⟨j, x, hj, hx, _⟩ | hbad)
      · have := (gI hx).1
        omega
      · obtain ⟨e, he, hgo⟩ := loop3 hbad
        refine ⟨e, he, qG.step' ?_⟩
        refine bS (qB (off := 1) rfl i_ws.one) ?_
        refine bS (qH i_ws) ?_
        refine bS qK ?_
        refine iC (fun c=>?_) fun c=>?_
        · have := vV c; omega
        · skip
          exact qF rfl hgo
    · intro i hi ih hbad
      obtain ⟨y, e_y⟩ := vH hi
      have hy := e_y
      obtain ⟨_, rfl, _, _, rfl, ⟨f, rfl⟩, _, _, rfl, ⟨c, rfl⟩, _, _, rfl, ⟨t, rfl⟩, rfl⟩ := qN hw e_y
      have kf := qRP (n := n) (q := f) i_ws.one i_fs.one
      have kt := qRP (n := n) (q := t) i_ws.one i_fs.one
      by_cases hok : ((decide (0 <= f) && decide (f < n)) = true /\ (decide (0 <= t) && decide (t < n)) = true) /\ ¬ c < 1 /\ ¬ c > 20
      · obtain ⟨⟨o1, o2⟩, o3, o4⟩ := hok
        have hoS : qIs n (.agg [dI f, dI c, dI t]) := by
          rw [aE, decide_eq_true_iff, decide_eq_true_iff] at o1 o2
          exact ⟨o1.1, o1.2, by omega, o2.1, o2.2⟩
        obtain ⟨e, he, hgo⟩ := loop2 i f c t hi (ih (by
          rcases hbad with ⟨j, x, hj, hx, hno⟩ | h
          · rcases Nat.lt_or_eq_of_le hj with h | rfl
            · exact .inl ⟨j, x, h, hx, hno⟩
            · rw [hy] at hx; cases hx; exact absurd hoS hno
          · exact .inr h))
        refine ⟨e, he, qG.step' ?_⟩
        refine bS (qB (off := 1) rfl i_ws.one) ?_
        refine bS (qH i_ws) ?_
        refine bS qK ?_
        refine iC (fun d=>?_) fun d=>?_
        · skip
          refine bS (qB (off := 1) rfl i_ws.one) ?_
          refine bS (qL (s := ((i : Nat) : Int)) (by omega) e_y) ?_
          refine bS (z8 (s := ((i : Nat) : Int)) i_ws (by omega) e_y rfl) ?_
          refine bS (qI rfl) ?_
          refine bS (qB (off := 0) rfl rfl) ?_
          refine cS (d := dB (true)) (by rw [← o1]; exact kf) ?_
          refine bS zZ ?_
          refine iC (fun d1=>?_) fun d1=>?_
          · cases d1
          refine bS (qB (off := 2) rfl rfl) ?_
          refine cS (d := dB (true)) (by rw [← o2]; exact kt) ?_
          refine bS zZ ?_
          refine iC (fun d2=>?_) fun d2=>?_
          · cases d2
          refine bS (qB (off := 1) rfl rfl) ?_
          refine bS qK ?_
          refine iC (fun d3=>?_) fun d3=>?_
          · exact absurd (dT d3) o3
          refine bS (qB (off := 1) rfl rfl) ?_
          refine bS zL ?_
          refine iC (fun d4=>?_) fun d4=>?_
          · exact absurd (dT d4) o4
          exact qF rfl hgo
        · have := zC d; omega
      · refine ⟨if (decide (0 <= f) && decide (f < n)) = false then 2 else if (decide (0 <= t) && decide (t < n)) = false then 2 else 21, by repeat' split <;> omega, qG.step' ?_⟩
        refine bS (qB (off := 1) rfl i_ws.one) ?_
        refine bS (qH i_ws) ?_
        refine bS qK ?_
        refine iC (fun d=>?_) fun d=>?_
        · skip
          refine bS (qB (off := 1) rfl i_ws.one) ?_
          refine bS (qL (s := ((i : Nat) : Int)) (by omega) e_y) ?_
          refine bS (z8 (s := ((i : Nat) : Int)) i_ws (by omega) e_y rfl) ?_
          refine bS (qI rfl) ?_
          refine bS (qB (off := 0) rfl rfl) ?_
          refine cS kf ?_
          refine bS zZ ?_
          generalize hb1 : (decide (0 <= f) && decide (f < n)) = b1 at *
          generalize hb2 : (decide (0 <= t) && decide (t < n)) = b2 at *
          cases b1 with
          | false =>
            refine jJ (t := true) rfl ?_
            refine lM ?_
            exact qD rfl rfl
          | true =>
            refine jJ (t := false) rfl ?_
            refine mZ ?_
            refine bS (qB (off := 2) rfl rfl) ?_
            refine cS kt ?_
            refine bS zZ ?_
            cases b2 with
            | false =>
              refine jJ (t := true) rfl ?_
              refine lM ?_
              exact qD rfl rfl
            | true =>
              refine jJ (t := false) rfl ?_
              refine mZ ?_
              refine bS (qB (off := 1) rfl rfl) ?_
              refine bS qK ?_
              refine iC (fun d3=>?_) fun d3=>?_
              · exact qD rfl rfl
              refine bS (qB (off := 1) rfl rfl) ?_
              refine bS zL ?_
              refine iC (fun d4=>?_) fun d4=>?_
              · exact qD rfl rfl
              · exact absurd ⟨⟨rfl, rfl⟩, dF d3, dF d4⟩ hok
        · have := zC d; omega
  by_cases h0 : n < 1 ∨ n > 24 ∨ ws.es.length > 200
  · refine ⟨if n < 1 then 2 else if n > 24 then 2 else 11, ?_, fun h => absurd h (by split <;> (try split) <;> omega)⟩
    refine qXR rfl (qG.step' ?_)
    refine bS (qI rfl) ?_
    refine bS (qB (off := 0) rfl rfl) ?_
    refine bS qK ?_
    refine iC (fun c=>?_) fun c=>?_
    · rw [if_pos (dT c)]; exact qD rfl rfl
    rw [if_neg (dF c)]
    refine bS (qB (off := 0) rfl rfl) ?_
    refine bS zL ?_
    refine iC (fun d=>?_) fun d=>?_
    · rw [if_pos (dT d)]; exact qD rfl rfl
    rw [if_neg (dF d)]
    refine bS (qB (off := 1) rfl i_ws.one) ?_
    refine bS (qH i_ws) ?_
    refine bS zL ?_
    refine iC (fun f=>?_) fun f=>?_
    · exact qD rfl rfl
    · have h1 := dF c; have h2 := dF d; have h3 := dF f; omega
  · obtain ⟨e, he, hgo⟩ := loop1 (by
      refine Classical.byContradiction fun hno => hall ⟨by omega, fun x hx => ?_, fun x hx => ?_⟩
      · refine Classical.byContradiction fun hx' => hno (.inl ?_)
        obtain ⟨j, hj⟩ := List.mem_iff_getElem?.1 hx
        exact ⟨j, x, Nat.zero_le _, hj, hx'⟩
      · refine Classical.byContradiction fun hx' => hno (.inr ?_)
        obtain ⟨j, hj⟩ := List.mem_iff_getElem?.1 hx
        exact ⟨j, x, Nat.zero_le _, hj, hx'⟩)
    refine ⟨e, ?_, fun h => absurd h he⟩
    refine qXR rfl (qG.step' ?_)
    refine bS (qI rfl) ?_
    refine bS (qB (off := 0) rfl rfl) ?_
    refine bS qK ?_
    refine iC (fun c=>?_) fun c=>?_
    · have := dT c; omega
    refine bS (qB (off := 0) rfl rfl) ?_
    refine bS zL ?_
    refine iC (fun d=>?_) fun d=>?_
    · have := dT d; omega
    refine bS (qB (off := 1) rfl i_ws.one) ?_
    refine bS (qH i_ws) ?_
    refine bS zL ?_
    refine iC (fun f=>?_) fun f=>?_
    · have := dT f; omega
    · skip
      exact qF rfl hgo
end Go.Proofs.YtnemldklhelbeaaGreat
