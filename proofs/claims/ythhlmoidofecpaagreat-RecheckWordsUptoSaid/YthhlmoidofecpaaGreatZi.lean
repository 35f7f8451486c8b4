/- What the reference's check of tiers says. Conditions: none. -/
import Derived.Test.YthhlmoidofecpaaGreatZh
import Derived.Test.YthhlmoidofecpaaGreatZc
set_option linter.unusedVariables false
set_option linter.unusedSimpArgs false
namespace Go.Proofs.YthhlmoidofecpaaGreat
open Go Go.Am Go.Proofs Go.Am.Tr Go.Am.Tt
attribute [local irreducible] Go.Am.wp Go.Am.TOp.eval
theorem wS {P:Nat->Prop} (N:Nat) (last:P N) (step:∀ i,i < N->P (i+1)->P i):P 0:=by
 have go:∀ m i,i+m=N->P i:=by
  intro m
  induction m with
  | zero=>intro i h; rw [show i=N by omega]; exact last
  | succ m ih=>intro i h; exact step i (by omega) (ih (i+1) (by omega))
 exact go N 0 (by omega)
theorem qRz {f:FuncId} {S:Tt.Spec} (h:gX (Holds EE) f S) (hr:S.rs=[.int .i64]) (hb:Sn.leasts 1048576 S.ss=true) {ds:List D} (hd:j5 1048576 (Sn.shs S.ss) ds) (hp:∀ q∈S.pre,qEj ds q):∃ n:Int,Holds EE f ds (dI n):=by
 obtain ⟨rs,h1,_,h2⟩:=h ds (gJ hb hd) hp
 rw [hr] at h1
 simp only [zZ,vA] at h1
 obtain ⟨d,_,rfl,⟨n,rfl⟩,rfl⟩:=h1
 exact ⟨n,h2⟩
theorem qOX {f:FuncId} {S:Tt.Spec} (h:gX (Holds EE) f S) (hr:S.rs=[.bool]) (hb:Sn.leasts 1048576 S.ss=true) {ds:List D} (hd:j5 1048576 (Sn.shs S.ss) ds) (hp:∀ q∈S.pre,qEj ds q):∃ b:Bool,Holds EE f ds (dB b):=by
 obtain ⟨rs,h1,_,h2⟩:=h ds (gJ hb hd) hp
 rw [hr] at h1
 simp only [zZ,vA] at h1
 obtain ⟨d,_,rfl,⟨n,rfl⟩,rfl⟩:=h1
 exact ⟨n,h2⟩
abbrev qJ7 {s:Sh} {d:D} (h:qS 1048576 s d):j5 1048576 [s] [d]:=zU h xS
abbrev qTx {s t:Sh} {d e:D} (h:qS 1048576 s d) (k:qS 1048576 t e):j5 1048576 [s,t] [d,e]:=zU h (zU k xS)
abbrev qQH:Sh:=.sl 58 4 (.st [.str,.int .i64,.int .i64,.int .i64])
abbrev qSB:Sh:=.sl 62 7 qT8
theorem qLo {B el sz:Nat} {e:Sh} {d:D} (h:qS B (.sl el sz e) d):cU d=(d.es.length:Int):=by
 simp only [qS] at h
 rcases h with rfl | ⟨es,rfl,_⟩ <;> rfl
theorem qVC {T : D} {ts : List Tr} {i : Nat} {t : Tr} (hB : qS 1048576 qQH T) (hT : T.es = ts.map qCS) (ht : ts[i]? = some t) (hn : ts.length <= 1000) :
    ∃ e : Int, Holds EE 81 [T, dI ((i : Nat) : Int)] (dI e) /\ (e = 0 -> qQG ts i t) := by
  have i_T := qL hB
  have hl : T.es.length = ts.length := by rw [hT, List.length_map]
  have hil : i < ts.length := (gI ht).1
  by_cases hok : qQG ts i t
  · obtain ⟨n, h⟩ := qRz (gZ iM (f := 81) (S := qUD.S) (by kernel_rfl)) rfl (by decide) (ds := [T, dI ((i : Nat) : Int)]) (qTx hB vK) (by
      intro q hq
      have hv := qLo hB
      rcases List.mem_cons.1 hq with rfl | hq
      · show (0 : Int) <= ((i : Nat) : Int) + 0; omega
      · rcases List.mem_cons.1 hq with rfl | hq
        · show ((i : Nat) : Int) <= cU T + -1; rw [hv, hl]; omega
        · cases hq)
    exact ⟨n, h, fun _ => hok⟩
  · refine (?_ : ∃ e : Int, e ≠ 0 /\ Holds EE 81 [T, dI ((i : Nat) : Int)] (dI e)).elim fun e h => ⟨e, h.2, fun he => absurd he h.1⟩
    have e_x : T.es[i]? = some (qCS t) := by rw [hT, List.getElem?_map, ht]; rfl
    have hsz := jQ hB e_x
    obtain ⟨nm, kd, rl, pa⟩ := t
    have e_x : T.es[i]? = some (.agg [.leaf (.string nm), dI kd, dI rl, dI pa]) := e_x
    have hnm : nm.size <= 1048576 := by
      obtain ⟨_, he, x, _, rfl, ⟨s, rfl, hs⟩, _⟩ := hsz
      cases he
      exact hs
    obtain ⟨b65, k65⟩ := qOX (gZ iM (f := 65) (S := qTG.S) (by kernel_rfl)) rfl (by decide) (ds := [.leaf (.string nm)]) (qJ7 (nS hnm)) (fun q hq => by cases hq)
    have hbad : ¬ (0 <= kd /\ kd <= 4 /\ (kd ≠ 0 -> 0 <= pa /\ pa < (i : Int))) := hok
    have two : (0 <= kd /\ kd <= 4) -> ∃ e : Int, e ≠ 0 /\ qH EE (Holds EE) qCW 2 [T, dI ((i : Nat) : Int), dI ((0 : Nat) : Int), .agg [.leaf (.string nm), dI kd, dI rl, dI pa]] (dI e) := by
      intro hk
      have hk0 : kd ≠ 0 := fun h => hbad ⟨hk.1, hk.2, fun h' => absurd h h'⟩
      have hpa : ¬ (0 <= pa /\ pa < (i : Int)) := fun h => hbad ⟨hk.1, hk.2, fun _ => h⟩
      refine wS (P := fun j => ∃ e : Int, e ≠ 0 /\ qH EE (Holds EE) qCW 2 [T, dI ((i : Nat) : Int), dI ((j : Nat) : Int), .agg [.leaf (.string nm), dI kd, dI rl, dI pa]] (dI e)) i ?_ ?_
      · refine ⟨13, by decide, qH.step' ?_⟩
        refine bS qJ ?_
        refine iC (fun c=>?_) fun c=>?_
        · have := j0 c; omega
        · skip
          refine bS (qA (off := 1) rfl rfl) ?_
          refine bS zJ ?_
          refine iC (fun d=>?_) fun d=>?_
          · exact absurd (dT d) hk0
          · skip
            refine bS (qA (off := 3) rfl rfl) ?_
            refine bS qJ ?_
            refine iC (fun f=>?_) fun f=>?_
            · exact qM rfl rfl
            · have f1 : ¬ pa < 0 := dF f
              refine bS (qA (off := 3) rfl rfl) ?_
              refine bS kC ?_
              refine iC (fun g=>?_) fun g=>?_
              · exact qM rfl rfl
              · have g1 := dF g
                omega
      · intro j hj ⟨e, he0, ih⟩
        obtain ⟨t2, h_t2, e_y⟩ := jX hT (show j < ts.length by omega)
        obtain ⟨nm2, kd2, rl2, pa2⟩ := t2
        have e_y : T.es[j]? = some (.agg [.leaf (.string nm2), dI kd2, dI rl2, dI pa2]) := e_y
        by_cases hs : rl = rl2 /\ rl ≠ 0
        · refine ⟨8, by decide, qH.step' ?_⟩
          refine bS qJ ?_
          refine iC (fun c=>?_) fun c=>?_
          · skip
            refine bS (qA (off := 2) rfl rfl) ?_
            refine bS zR ?_
            refine iC (fun d=>?_) fun d=>?_
            · skip
              refine bS (qP (s := ((j : Nat) : Int)) (by omega) e_y) ?_
              refine bS (zI (s := ((j : Nat) : Int)) (off := 2) i_T (by omega) e_y rfl rfl (by decide)) ?_
              refine bS (qA (off := 2) rfl rfl) ?_
              refine bS zJ ?_
              refine iC (fun f=>?_) fun f=>?_
              · exact qM rfl rfl
              · exact absurd hs.1.symm (dF f)
            · exact absurd hs.2 (dF d)
          · have := vX c; omega
        · refine ⟨e, he0, qH.step' ?_⟩
          refine bS qJ ?_
          refine iC (fun c=>?_) fun c=>?_
          · skip
            refine bS (qA (off := 2) rfl rfl) ?_
            refine bS zR ?_
            refine iC (fun d=>?_) fun d=>?_
            · skip
              refine bS (qP (s := ((j : Nat) : Int)) (by omega) e_y) ?_
              refine bS (zI (s := ((j : Nat) : Int)) (off := 2) i_T (by omega) e_y rfl rfl (by decide)) ?_
              refine bS (qA (off := 2) rfl rfl) ?_
              refine bS zJ ?_
              refine iC (fun f=>?_) fun f=>?_
              · exact absurd ⟨(dT f).symm, dT d⟩ hs
              · skip
                refine bS (d := dI ((j + 1 : Nat) : Int)) (qT (qO (by omega))) ?_
                exact qE rfl ih
            · skip
              refine bS (d := dI ((j + 1 : Nat) : Int)) (qT (qO (by omega))) ?_
              exact qE rfl ih
          · have := vX c; omega
    have one : ∃ e : Int, e ≠ 0 /\ qH EE (Holds EE) qCW 1 [T, dI ((i : Nat) : Int), dI ((0 : Nat) : Int), .agg [.leaf (.string nm), dI kd, dI rl, dI pa]] (dI e) := by
      refine wS (P := fun j => ∃ e : Int, e ≠ 0 /\ qH EE (Holds EE) qCW 1 [T, dI ((i : Nat) : Int), dI ((j : Nat) : Int), .agg [.leaf (.string nm), dI kd, dI rl, dI pa]] (dI e)) i ?_ ?_
      · by_cases hk : 0 <= kd /\ kd <= 4
        · by_cases hr : 0 <= rl /\ rl <= 5
          · obtain ⟨e, he0, h2⟩ := two hk
            refine ⟨e, he0, qH.step' ?_⟩
            refine bS qJ ?_
            refine iC (fun c=>?_) fun c=>?_
            · have := j0 c; omega
            · skip
              refine bS (qA (off := 1) rfl rfl) ?_
              refine bS qJ ?_
              refine iC (fun d=>?_) fun d=>?_
              · have := dT d; omega
              · skip
                refine bS (qA (off := 1) rfl rfl) ?_
                refine bS vQ ?_
                refine iC (fun f=>?_) fun f=>?_
                · have := dT f; omega
                · skip
                  refine bS (qA (off := 2) rfl rfl) ?_
                  refine bS qJ ?_
                  refine iC (fun g=>?_) fun g=>?_
                  · have := dT g; omega
                  · skip
                    refine bS (qA (off := 2) rfl rfl) ?_
                    refine bS vQ ?_
                    refine iC (fun k=>?_) fun k=>?_
                    · have := dT k; omega
                    · exact qE rfl h2
          · refine ⟨2, by decide, qH.step' ?_⟩
            refine bS qJ ?_
            refine iC (fun c=>?_) fun c=>?_
            · have := j0 c; omega
            · skip
              refine bS (qA (off := 1) rfl rfl) ?_
              refine bS qJ ?_
              refine iC (fun d=>?_) fun d=>?_
              · have := dT d; omega
              · skip
                refine bS (qA (off := 1) rfl rfl) ?_
                refine bS vQ ?_
                refine iC (fun f=>?_) fun f=>?_
                · have := dT f; omega
                · skip
                  refine bS (qA (off := 2) rfl rfl) ?_
                  refine bS qJ ?_
                  refine iC (fun g=>?_) fun g=>?_
                  · exact qM rfl rfl
                  · have g1 := dF g
                    refine bS (qA (off := 2) rfl rfl) ?_
                    refine bS vQ ?_
                    refine iC (fun k=>?_) fun k=>?_
                    · exact qM rfl rfl
                    · have := dF k; omega
        · refine ⟨14, by decide, qH.step' ?_⟩
          refine bS qJ ?_
          refine iC (fun c=>?_) fun c=>?_
          · have := j0 c; omega
          · skip
            refine bS (qA (off := 1) rfl rfl) ?_
            refine bS qJ ?_
            refine iC (fun d=>?_) fun d=>?_
            · exact qM rfl rfl
            · have d1 := dF d
              refine bS (qA (off := 1) rfl rfl) ?_
              refine bS vQ ?_
              refine iC (fun f=>?_) fun f=>?_
              · exact qM rfl rfl
              · have := dF f; omega
      · intro j hj ⟨e, he0, ih⟩
        obtain ⟨t2, h_t2, e_y⟩ := jX hT (show j < ts.length by omega)
        obtain ⟨nm2, kd2, rl2, pa2⟩ := t2
        have e_y : T.es[j]? = some (.agg [.leaf (.string nm2), dI kd2, dI rl2, dI pa2]) := e_y
        cases hs : (nm2 == nm) with
        | true =>
          refine ⟨8, by decide, qH.step' ?_⟩
          refine bS qJ ?_
          refine iC (fun c=>?_) fun c=>?_
          · skip
            refine bS (qP (s := ((j : Nat) : Int)) (by omega) e_y) ?_
            refine bS (zI (s := ((j : Nat) : Int)) (off := 0) i_T (by omega) e_y rfl rfl (by decide)) ?_
            refine bS (qA (off := 0) rfl rfl) ?_
            refine bS aW ?_
            refine iC (fun d=>?_) fun d=>?_
            · exact qM rfl rfl
            · rw [hs] at d; cases d
          · have := vX c; omega
        | false =>
          refine ⟨e, he0, qH.step' ?_⟩
          refine bS qJ ?_
          refine iC (fun c=>?_) fun c=>?_
          · skip
            refine bS (qP (s := ((j : Nat) : Int)) (by omega) e_y) ?_
            refine bS (zI (s := ((j : Nat) : Int)) (off := 0) i_T (by omega) e_y rfl rfl (by decide)) ?_
            refine bS (qA (off := 0) rfl rfl) ?_
            refine bS aW ?_
            refine iC (fun d=>?_) fun d=>?_
            · rw [hs] at d; cases d
            · skip
              refine bS (d := dI ((j + 1 : Nat) : Int)) (qT (qO (by omega))) ?_
              exact qE rfl ih
          · have := vX c; omega
    cases b65 with
    | false =>
      refine ⟨7, by decide, qUd rfl (qH.step' ?_)⟩
      refine bS (qP (s := ((i : Nat) : Int)) (by omega) e_x) ?_
      refine bS (qZ (s := ((i : Nat) : Int)) i_T (by omega) e_x rfl) ?_
      refine bS (qI rfl) ?_
      refine bS (qA (off := 0) rfl rfl) ?_
      refine cS k65 ?_
      refine bS v6 ?_
      refine iC (fun c=>?_) fun c=>?_
      · exact qM rfl rfl
      · cases c
    | true =>
      obtain ⟨e, he0, h1⟩ := one
      refine ⟨e, he0, qUd rfl (qH.step' ?_)⟩
      refine bS (qP (s := ((i : Nat) : Int)) (by omega) e_x) ?_
      refine bS (qZ (s := ((i : Nat) : Int)) i_T (by omega) e_x rfl) ?_
      refine bS (qI rfl) ?_
      refine bS (qA (off := 0) rfl rfl) ?_
      refine cS k65 ?_
      refine bS v6 ?_
      refine iC (fun c=>?_) fun c=>?_
      · cases c
      · exact qE rfl h1
theorem qVF {T:D} {ts:List Tr} (hB:qS 1048576 qQH T) (hT:T.es=ts.map qCS):∃ e:Int,Holds EE 49 [T] (dI e)/\(e=0->∀ (i:Nat) (t:Tr),ts[i]? = some t->qQG ts i t):=by
 have i_T:=qL hB
 have hl:T.es.length=ts.length:=by rw [hT,List.length_map]
 by_cases hn:ts.length<=12
 ·have hloop:∃ e:Int,qH EE (Holds EE) qIB 1 [T,dI ((0:Nat):Int)] (dI e)/\(e=0->∀ (i:Nat) (t:Tr),0<=i->ts[i]? = some t->qQG ts i t):=by
   refine wS (P:=fun j=>∃ e:Int,qH EE (Holds EE) qIB 1 [T,dI ((j:Nat):Int)] (dI e)/\(e=0->∀ (i:Nat) (t:Tr),j<=i->ts[i]? = some t->qQG ts i t)) ts.length ?_ ?_
   ·refine ⟨0,qH.step' ?_,fun _ i t hi ht=>?_⟩
    ·refine bS (qQ i_T) ?_
     refine bS qJ ?_
     refine iC (fun c=>?_) fun c=>?_
     ·have:=j0 c; omega
     exact qM rfl rfl
    have:=(gI ht).1
    omega
   intro j hj ⟨e,ih,hih⟩
   obtain ⟨t,h_t⟩:∃ t,ts[j]? = some t:=⟨_,List.getElem?_eq_getElem hj⟩
   obtain ⟨q,hq,hq0⟩:=qVC hB hT h_t (by omega)
   by_cases hz:q=0
   ·refine ⟨e,qH.step' ?_,fun he i t' hi ht=>?_⟩
    ·refine bS (qQ i_T) ?_
     refine bS qJ ?_
     refine iC (fun c=>?_) fun c=>?_
     ·skip
      refine cS hq ?_
      refine bS zR ?_
      refine iC (fun d=>?_) fun d=>?_
      ·exact absurd hz (dT d)
      refine bS (d:=dI ((j+1:Nat):Int)) (qT (qO (by omega))) ?_
      exact qE rfl ih
     have:=vX c; omega
    by_cases hij:i=j
    ·subst hij
     rw [h_t] at ht
     cases ht
     exact hq0 hz
    exact hih he i t' (by omega) ht
   refine ⟨q,qH.step' ?_,fun he=>absurd he hz⟩
   refine bS (qQ i_T) ?_
   refine bS qJ ?_
   refine iC (fun c=>?_) fun c=>?_
   ·skip
    refine cS hq ?_
    refine bS zR ?_
    refine iC (fun d=>?_) fun d=>?_
    ·exact qM rfl rfl
    exact absurd hz (fun h=>dF d h)
   have:=vX c; omega
  obtain ⟨e,h,he⟩:=hloop
  refine ⟨e,qUh rfl (qH.step' ?_),fun h0 i t ht=>he h0 i t (Nat.zero_le _) ht⟩
  refine bS (qQ i_T) ?_
  refine bS vQ ?_
  refine iC (fun c=>?_) fun c=>?_
  ·have:=dT c; omega
  exact qE rfl h
 refine ⟨11,qUh rfl (qH.step' ?_),fun h=>by cases h⟩
 refine bS (qQ i_T) ?_
 refine bS vQ ?_
 refine iC (fun c=>?_) fun c=>?_
 ·exact qM rfl rfl
 have:=dF c; omega
end Go.Proofs.YthhlmoidofecpaaGreat
namespace Go.Proofs.YthhlmoidofecpaaGreat
open Go Go.Am Go.Proofs Go.Am.Tr Go.Am.Tt
attribute [local irreducible] Go.Am.wp Go.Am.TOp.eval
theorem qFr {l:List Nt} (hl:l.length<=1000) (hs:∀ n∈l,n.tx.size<=1048576):qS 1048576 qSB (gD l):=rX (by rw [List.length_map]; omega) fun x hx=>by
 obtain ⟨n,hn,rfl⟩:=List.mem_map.1 hx
 exact qUs (hs n hn)
theorem qVn {di ln dy t p:Int} {nm sp T M:D} {ns:List Nt} (h_nm:nm.one=true) (h_sp:sp.one=true) (h_T:T.one=true) (i_M:jA 62 7 M) (hM:M.es=ns.map kY) (hn:ns.length<=500) :
  Holds EE 84 [.agg [dI di,nm,dI ln,dI dy,sp,T,M],dI t,dI p] (gD (dA ns t p)):=by
 have hl:M.es.length=ns.length:=by rw [hM,List.length_map]
 refine qUQ rfl (qH.step' ?_)
 refine bS (qI rfl) ?_
 refine bS qJU ?_
 refine qE rfl (vI (P:=fun j:Nat=>j<=ns.length->∀ os:List Nt,os.length<=j->qH EE (Holds EE) qNh 1 [dI t,dI p,gD os,dI ((j:Nat):Int),.agg [dI di,nm,dI ln,dI dy,sp,T,M]] (gD (os++(ns.drop j).filter (tE t p)))) ns.length (fun j ih=>?_) 0 (Nat.zero_le _) [] (Nat.zero_le _))
 intro hj os hos
 refine qH.step' ?_
 refine bS (qA (off:=6) rfl i_M.one) ?_
 refine bS (qQ i_M) ?_
 refine bS qJ ?_
 refine iC (fun c=>?_) fun c=>?_
 ·have hjl:j < ns.length:=by have:=j0 c; omega
  obtain ⟨n,h_n,e_x⟩:=jX hM hjl
  have hyes:tE t p n=true->os++(ns.drop j).filter (tE t p)=(os++[n])++(ns.drop (j+1)).filter (tE t p):=fun h=>by rw [vZ h_n,List.filter_cons,if_pos h,List.append_assoc]; rfl
  have hno:tE t p n=false->os++(ns.drop j).filter (tE t p)=os++(ns.drop (j+1)).filter (tE t p):=fun h=>by rw [vZ h_n,List.filter_cons,if_neg (by rw [h]; simp)]
  have ihp:=ih hjl hjl (os++[n]) (by rw [List.length_append]; show _+1<=_; omega)
  have ihn:=ih hjl hjl os (by omega)
  have apn:=qB1 (a:=os) (b:=[n]) (by show os.length+1<=1000; omega)
  have ltn:TOp.eval EE (.lit 62 7) [kY n]=some (gD [n]):=qPK (n:=n)
  have kid:tE t p n=(decide (n.ti=t) && decide (n.pa=p)):=rfl
  have o1:(gD [n]).one=true:=rfl
  have o2:(gD (os++[n])).one=true:=rfl
  generalize tE t p n=b at *
  generalize gD (os++[n])=lp at *
  generalize gD [n]=l1 at *
  obtain ⟨xi,xt,xp,xf,xo,xr,xx⟩:=n
  have e_x:M.es[j]? = some (.agg [dI xi,dI xt,dI xp,dI xf,dI xo,dI xr,.leaf (.string xx)]):=e_x
  have kid:b=(decide (xt=t) && decide (xp=p)):=kid
  refine bS (qA (off:=6) rfl i_M.one) ?_
  refine bS (qP (s:=((j:Nat):Int)) (by omega) e_x) ?_
  refine bS (zI (s:=((j:Nat):Int)) (off:=1) i_M (by omega) e_x rfl rfl (by decide)) ?_
  refine bS zJ ?_
  refine iC (fun d1=>?_) fun d1=>?_
  ·skip
   refine bS (qA (off:=6) rfl i_M.one) ?_
   refine bS (qP (s:=((j:Nat):Int)) (by omega) e_x) ?_
   refine bS (zI (s:=((j:Nat):Int)) (off:=2) i_M (by omega) e_x rfl rfl (by decide)) ?_
   refine bS zJ ?_
   refine iC (fun d2=>?_) fun d2=>?_
   ·rw [hyes (by rw [kid,d1,d2]; rfl)]
    refine bS (qA (off:=6) rfl i_M.one) ?_
    refine bS (qP (s:=((j:Nat):Int)) (by omega) e_x) ?_
    refine bS (qZ (s:=((j:Nat):Int)) i_M (by omega) e_x rfl) ?_
    refine bS (qI rfl) ?_
    refine bS ltn ?_
    refine bS apn ?_
    refine bS (d:=dI ((j+1:Nat):Int)) (qT (qO (by omega))) ?_
    exact qE rfl ihp
   rw [hno (by rw [kid,d2]; simp)]
   refine bS (d:=dI ((j+1:Nat):Int)) (qT (qO (by omega))) ?_
   exact qE rfl ihn
  rw [hno (by rw [kid,d1]; simp)]
  refine bS (d:=dI ((j+1:Nat):Int)) (qT (qO (by omega))) ?_
  exact qE rfl ihn
 have:=vX c
 have hd:ns.drop j=[]:=List.drop_of_length_le (by omega)
 rw [hd]
 exact qM rfl (congrArg gD (List.append_nil os).symm)
theorem qVA {l:List Nt} (hl:l.length<=1000) (hs:∀ n∈l,n.tx.size<=1048576):∃ b:Bool,Holds EE 85 [gD l] (dB b)/\(b=false->qK7 l):=by
 by_cases hok:qK7 l
 ·obtain ⟨b,h⟩:=qOX (gZ iM (f:=85) (S:=qUB.S) (by kernel_rfl)) rfl (by decide) (ds:=[gD l]) (qJ7 (qFr hl hs)) (fun q hq=>by cases hq)
  exact ⟨b,h,fun _=>hok⟩
 refine ⟨true,?_,fun h=>by cases h⟩
 have hex:∃ (i j:Nat) (x y:Nt),j < i/\l[i]? = some x/\l[j]? = some y/\x.fr < y.to/\y.fr < x.to:=Classical.byContradiction fun h=>hok fun i j x y h1 h2 h3 h4=>h ⟨i,j,x,y,h1,h2,h3,h4.1,h4.2⟩
 obtain ⟨i,j,x,y,hji,hx,hy,h1,h2⟩:=hex
 have hil:i < l.length:=(gI hx).1
 obtain ⟨K,hK⟩:∃ K,K=gD l:=⟨_,rfl⟩
 have i_K:jA 62 7 K:=by rw [hK]; exact bO hl
 have hKe:K.es=l.map kY:=by rw [hK]; rfl
 have hKl:K.es.length=l.length:=by rw [hKe,List.length_map]
 rw [← hK]
 have stp:∀ (a b:Nat),b < a->a < l.length->(∀ (x y:Nt),l[a]? = some x->l[b]? = some y->x.fr < y.to/\y.fr < x.to∨qH EE (Holds EE) cZ 2 [K,dI ((a:Nat):Int),dI ((b+1:Nat):Int)] (dB true))->qH EE (Holds EE) cZ 2 [K,dI ((a:Nat):Int),dI ((b:Nat):Int)] (dB true):=by
  intro a b hba hal hnx
  obtain ⟨x,h_x,e_x⟩:=jX hKe hal
  obtain ⟨y,h_y,e_y⟩:=jX hKe (show b < l.length by omega)
  have hnx:=hnx x y h_x h_y
  obtain ⟨xi,xt,xp,xf,xo,xr,xx⟩:=x
  obtain ⟨yi,yt,yp,yf,yo,yr,yx⟩:=y
  have hnx:xf < yo/\yf < xo∨_:=hnx
  have e_x:K.es[a]? = some (.agg [dI xi,dI xt,dI xp,dI xf,dI xo,dI xr,.leaf (.string xx)]):=e_x
  have e_y:K.es[b]? = some (.agg [dI yi,dI yt,dI yp,dI yf,dI yo,dI yr,.leaf (.string yx)]):=e_y
  refine qH.step' ?_
  refine bS qJ ?_
  refine iC (fun c=>?_) fun c=>?_
  ·skip
   refine bS (qP (s:=((a:Nat):Int)) (by omega) e_x) ?_
   refine bS (zI (s:=((a:Nat):Int)) (off:=3) i_K (by omega) e_x rfl rfl (by decide)) ?_
   refine bS (qP (s:=((b:Nat):Int)) (by omega) e_y) ?_
   refine bS (zI (s:=((b:Nat):Int)) (off:=4) i_K (by omega) e_y rfl rfl (by decide)) ?_
   refine bS qJ ?_
   refine iC (fun d=>?_) fun d=>?_
   ·skip
    refine bS (qP (s:=((b:Nat):Int)) (by omega) e_y) ?_
    refine bS (zI (s:=((b:Nat):Int)) (off:=3) i_K (by omega) e_y rfl rfl (by decide)) ?_
    refine bS (qP (s:=((a:Nat):Int)) (by omega) e_x) ?_
    refine bS (zI (s:=((a:Nat):Int)) (off:=4) i_K (by omega) e_x rfl rfl (by decide)) ?_
    refine bS qJ ?_
    refine iC (fun f=>?_) fun f=>?_
    ·exact qM rfl rfl
    have f1:=dF f
    have hn:=hnx.resolve_left (fun h=>f1 h.2)
    refine bS (d:=dI ((b+1:Nat):Int)) (qT (qO (by omega))) ?_
    exact qE rfl hn
   have d1:=dF d
   have hn:=hnx.resolve_left (fun h=>d1 h.1)
   refine bS (d:=dI ((b+1:Nat):Int)) (qT (qO (by omega))) ?_
   exact qE rfl hn
  have:=vX c; omega
 have outer:∀ (a:Nat),a < l.length->qH EE (Holds EE) cZ 2 [K,dI ((a:Nat):Int),dI ((0:Nat):Int)] (dB true)->qH EE (Holds EE) cZ 1 [K,dI ((a:Nat):Int)] (dB true):=by
  intro a ha h
  refine qH.step' ?_
  refine bS (qQ i_K) ?_
  refine bS qJ ?_
  refine iC (fun c=>?_) fun c=>?_
  ·exact qE rfl h
  have:=vX c; omega
 have main:qH EE (Holds EE) cZ 1 [K,dI ((0:Nat):Int)] (dB true):=by
  refine wS (P:=fun a=>qH EE (Holds EE) cZ 1 [K,dI ((a:Nat):Int)] (dB true)) i ?_ ?_
  ·refine outer i hil (wS (P:=fun b=>qH EE (Holds EE) cZ 2 [K,dI ((i:Nat):Int),dI ((b:Nat):Int)] (dB true)) j ?_ ?_)
   ·refine stp i j hji hil fun x' y' hx' hy'=>.inl ?_
    rw [hx] at hx'; rw [hy] at hy'
    cases hx'; cases hy'
    exact ⟨h1,h2⟩
   exact fun b hb hn=>stp i b (by omega) hil fun _ _ _ _=>.inr hn
  intro a ha hn
  refine outer a (by omega) (wS (P:=fun b=>qH EE (Holds EE) cZ 2 [K,dI ((a:Nat):Int),dI ((b:Nat):Int)] (dB true)) a ?_ ?_)
  ·refine qH.step' ?_
   refine bS qJ ?_
   refine iC (fun c=>?_) fun c=>?_
   ·have:=j0 c; omega
   refine bS (d:=dI ((a+1:Nat):Int)) (qT (qO (by omega))) ?_
   exact qE rfl hn
  exact fun b hb hn=>stp a b hb (by omega) fun _ _ _ _=>.inr hn
 refine qUP rfl (qH.step' ?_)
 exact qE rfl main
theorem qVz {l:List Nt} (hl:l.length<=1000) (hs:∀ n∈l,n.tx.size<=1048576):∃ b:Bool,Holds EE 88 [gD l] (dB b)/\(b=true->qFU l):=by
 by_cases hok:qFU l
 ·obtain ⟨b,h⟩:=qOX (gZ iM (f:=88) (S:=qUz.S) (by kernel_rfl)) rfl (by decide) (ds:=[gD l]) (qJ7 (qFr hl hs)) (fun q hq=>by cases hq)
  exact ⟨b,h,fun _=>hok⟩
 refine ⟨false,?_,fun h=>by cases h⟩
 have hex:∃ r:Nat,r < l.length/\∀ x∈l,x.rk≠(r:Int):=Classical.byContradiction fun h=>hok fun r hr=>Classical.byContradiction fun h'=>h ⟨r,hr,fun x hx e=>h' ⟨x,hx,e⟩⟩
 obtain ⟨r,hr,hne⟩:=hex
 obtain ⟨K,hK⟩:∃ K,K=gD l:=⟨_,rfl⟩
 have i_K:jA 62 7 K:=by rw [hK]; exact bO hl
 have hKe:K.es=l.map kY:=by rw [hK]; rfl
 have hKl:K.es.length=l.length:=by rw [hKe,List.length_map]
 rw [← hK]
 have outer:∀ (a:Nat),a < l.length->qH EE (Holds EE) cY 2 [K,dI ((a:Nat):Int),dB false,dI ((0:Nat):Int)] (dB false)->qH EE (Holds EE) cY 1 [K,dI ((a:Nat):Int)] (dB false):=by
  intro a ha h
  refine qH.step' ?_
  refine bS (qQ i_K) ?_
  refine bS qJ ?_
  refine iC (fun c=>?_) fun c=>?_
  ·exact qE rfl h
  have:=vX c; omega
 have main:qH EE (Holds EE) cY 1 [K,dI ((0:Nat):Int)] (dB false):=by
  refine wS (P:=fun a=>qH EE (Holds EE) cY 1 [K,dI ((a:Nat):Int)] (dB false)) r ?_ ?_
  ·refine outer r hr (wS (P:=fun b=>qH EE (Holds EE) cY 2 [K,dI ((r:Nat):Int),dB false,dI ((b:Nat):Int)] (dB false)) l.length ?_ ?_)
   ·refine qH.step' ?_
    refine bS (qQ i_K) ?_
    refine bS qJ ?_
    refine iC (fun c=>?_) fun c=>?_
    ·have:=j0 c; omega
    refine bS v6 ?_
    refine iC (fun d=>?_) fun d=>?_
    ·exact qM rfl rfl
    cases d
   intro b hb hn
   obtain ⟨x,h_x,e_x⟩:=jX hKe hb
   have hx:=hne x (List.mem_of_getElem? h_x)
   obtain ⟨xi,xt,xp,xf,xo,xr,xx⟩:=x
   have hx:¬ xr=(r:Int):=hx
   have e_x:K.es[b]? = some (.agg [dI xi,dI xt,dI xp,dI xf,dI xo,dI xr,.leaf (.string xx)]):=e_x
   refine qH.step' ?_
   refine bS (qQ i_K) ?_
   refine bS qJ ?_
   refine iC (fun c=>?_) fun c=>?_
   ·skip
    refine qC (t:=false) rfl ?_
    refine zB ?_
    refine bS (qP (s:=((b:Nat):Int)) (by omega) e_x) ?_
    refine bS (zI (s:=((b:Nat):Int)) (off:=5) i_K (by omega) e_x rfl rfl (by decide)) ?_
    refine bS zJ ?_
    refine bS (d:=dI ((b+1:Nat):Int)) (qT (qO (by omega))) ?_
    refine qE rfl (?_:qH EE (Holds EE) cY 2 [K,dI ((r:Nat):Int),dB (decide (xr=(r:Int))),dI ((b+1:Nat):Int)] (dB false))
    rw [fD hx]
    exact hn
   have:=vX c; omega
  intro a ha hn
  have inner:∀ fd:Bool,qH EE (Holds EE) cY 2 [K,dI ((a:Nat):Int),dB fd,dI ((0:Nat):Int)] (dB false):=by
   refine wS (P:=fun b=>∀ fd:Bool,qH EE (Holds EE) cY 2 [K,dI ((a:Nat):Int),dB fd,dI ((b:Nat):Int)] (dB false)) l.length ?_ ?_
   ·intro fd
    refine qH.step' ?_
    refine bS (qQ i_K) ?_
    refine bS qJ ?_
    refine iC (fun c=>?_) fun c=>?_
    ·have:=j0 c; omega
    refine bS v6 ?_
    refine iC (fun d=>?_) fun d=>?_
    ·exact qM rfl rfl
    refine bS (d:=dI ((a+1:Nat):Int)) (qT (qO (by omega))) ?_
    exact qE rfl hn
   intro b hb hn2 fd
   obtain ⟨x,h_x,e_x⟩:=jX hKe hb
   obtain ⟨xi,xt,xp,xf,xo,xr,xx⟩:=x
   have e_x:K.es[b]? = some (.agg [dI xi,dI xt,dI xp,dI xf,dI xo,dI xr,.leaf (.string xx)]):=e_x
   refine qH.step' ?_
   refine bS (qQ i_K) ?_
   refine bS qJ ?_
   refine iC (fun c=>?_) fun c=>?_
   ·skip
    refine iC (fun d=>?_) fun d=>?_
    ·skip
     refine bS (d:=dI ((b+1:Nat):Int)) (qT (qO (by omega))) ?_
     exact qE rfl (hn2 true)
    refine bS (qP (s:=((b:Nat):Int)) (by omega) e_x) ?_
    refine bS (zI (s:=((b:Nat):Int)) (off:=5) i_K (by omega) e_x rfl rfl (by decide)) ?_
    refine bS zJ ?_
    refine bS (d:=dI ((b+1:Nat):Int)) (qT (qO (by omega))) ?_
    exact qE rfl (hn2 _)
   have:=vX c; omega
  exact outer a (by omega) (inner false)
 refine qUN rfl (qH.step' ?_)
 exact qE rfl main
end Go.Proofs.YthhlmoidofecpaaGreat
namespace Go.Proofs.YthhlmoidofecpaaGreat
open Go Go.Am Go.Proofs Go.Am.Tr Go.Am.Tt
attribute [local irreducible] Go.Am.wp Go.Am.TOp.eval
theorem qSn {l:List Nt} {f o:Int} (hl:l.length<=1000) (hs:∀ n∈l,n.tx.size<=1048576):∃ (d:D) (b:Bool),Holds EE 87 [gD l] d/\d.one=true/\Holds EE 86 [d,.agg [dI f,dI o]] (dB b):=by
 obtain ⟨rs,h1,_,h2⟩:=(gZ iM (f:=87) (S:=qUA.S) (by kernel_rfl)) [gD l] (gJ (by decide) (qJ7 (qFr hl hs))) (fun q hq=>by cases hq)
 have h1:zZ [qQA] rs:=h1
 simp only [zZ] at h1
 obtain ⟨d,_,rfl,h3,rfl⟩:=h1
 obtain ⟨rs,g1,_,g2⟩:=(gZ iM (f:=86) (S:=qRJ) (by kernel_rfl)) [d,.agg [dI f,dI o]] (by
  show zZ [qQA,qLc] _
  simp only [zZ]
  exact ⟨_,_,rfl,h3,_,_,rfl,cB (s:=qLc) rfl (show qS 300000000 (.st [.int .i64,.int .i64]) _ from qBv (zU vK (zU vK xS))),rfl⟩) (fun q hq=>by cases hq)
 have g1:zZ [.bool] rs:=g1
 simp only [zZ,vA] at g1
 obtain ⟨_,_,rfl,⟨b,rfl⟩,rfl⟩:=g1
 exact ⟨d,b,h2,(qL (show qS 300000000 (.sl 60 2 (.st [.int .i64,.int .i64])) d from yA (s:=qQA) rfl h3)).one,g2⟩
section
variable {di ln dy:Int} {nm sp T M:D} {ts:List Tr} {ns:List Nt}
theorem qVD {t:Int} (h_nm:nm.one=true) (h_sp:sp.one=true) (i_T:jA 58 4 T) (hT:T.es=ts.map qCS) (i_M:jA 62 7 M) (hM:M.es=ns.map kY) (hn:ns.length<=300) (hs:∀ n∈ns,n.tx.size<=1048576) (h0:0<=t) (hlt:t < (ts.length:Int)) :
  ∃ e:Int,Holds EE 51 [.agg [dI di,nm,dI ln,dI dy,sp,T,M],dI t] (dI e)/\(e=0->∀ n∈ns,n.ti=t->Tr.SOk ts ns n):=by
 have hl:M.es.length=ns.length:=by rw [hM,List.length_map]
 have tf:=aS hT h0 hlt
 have main:∃ e:Int,qH EE (Holds EE) qF0 1 [dI t,dI (xE ts t).kd,dI 0,dI ((0:Nat):Int),.agg [dI di,nm,dI ln,dI dy,sp,T,M]] (dI e)/\(e=0->(0:Int)=0/\∀ i n,0<=i->ns[i]? = some n->n.ti=t->Tr.SOk ts ns n):=by
  refine wS (P:=fun j=>∀ o:Int,∃ e:Int,qH EE (Holds EE) qF0 1 [dI t,dI (xE ts t).kd,dI o,dI ((j:Nat):Int),.agg [dI di,nm,dI ln,dI dy,sp,T,M]] (dI e)/\(e=0->o=0/\∀ (i:Nat) (n:Nt),j<=i->ns[i]? = some n->n.ti=t->Tr.SOk ts ns n)) ns.length ?_ ?_ 0
  ·intro o
   refine ⟨o,qH.step' ?_,fun he=>⟨he,fun i n hi hin=>?_⟩⟩
   ·refine bS (qA (off:=6) rfl i_M.one) ?_
    refine bS (qQ i_M) ?_
    refine bS qJ ?_
    refine iC (fun c=>?_) fun c=>?_
    ·have:=j0 c; omega
    exact qM rfl rfl
   have:=(gI hin).1
   omega
  intro j hj IH o
  obtain ⟨n,h_n,e_x⟩:=jX hM hj
  have hnm:=List.mem_of_getElem? h_n
  by_cases hti:n.ti=t
  ·have hsl:(dA ns t n.pa).length<=1000:=lT (List.length_filter_le _ _) (by omega)
   have hss:∀ m∈dA ns t n.pa,m.tx.size<=1048576:=fun m hm=>hs m (qB2.1 hm).1
   have k84:=qVn (di:=di) (ln:=ln) (dy:=dy) (t:=t) (p:=n.pa) h_nm h_sp i_T.one i_M hM (by omega)
   obtain ⟨b85,k85,f85⟩:=qVA hsl hss
   obtain ⟨b88,k88,f88⟩:=qVz hsl hss
   have k20:=qOD (di:=di) (ln:=ln) (dy:=dy) (r:=n.pa) h_nm h_sp i_T.one i_M hM (by omega)
   have hok:∀ (_:l9 (xE ts t).kd=true->b85=false) (_:(xE ts t).kd=3->b88=true) (_:(xE ts t).kd=4->(dA ns t n.pa).length<=1),Tr.SOk ts ns n:=fun a b c=>by
    unfold Go.Am.Tr.SOk
    rw [hti]
    exact ⟨fun h=>f85 (a h),fun h=>f88 (b h),c⟩
   have next:∀ (o':Int),(o'=0->o=0/\Tr.SOk ts ns n)->∃ e:Int,qH EE (Holds EE) qF0 1 [dI t,dI (xE ts t).kd,dI o',dI ((j+1:Nat):Int),.agg [dI di,nm,dI ln,dI dy,sp,T,M]] (dI e)/\(e=0->o=0/\∀ (i:Nat) (n:Nt),j<=i->ns[i]? = some n->n.ti=t->Tr.SOk ts ns n):=fun o' h=>by
    obtain ⟨e,g1,g2⟩:=IH o'
    refine ⟨e,g1,fun he=>?_⟩
    obtain ⟨q1,q2⟩:=g2 he
    obtain ⟨q3,q4⟩:=h q1
    refine ⟨q3,fun i m hi hm hmt=>?_⟩
    by_cases hij:i=j
    ·subst hij; rw [h_n] at hm; cases hm; exact q4
    exact q2 i m (by omega) hm hmt
   unfold mV at k20
   generalize (yL ns n.pa).isSome=sa at k20
   generalize (yL ns n.pa).getD zN=pn at k20
   generalize hll:dA ns t n.pa=l at *
   have i_l:=bO hsl
   have ol:(gD l).one=true:=rfl
   have lel:(gD l).es.length=l.length:=List.length_map _
   obtain ⟨pi,pt,pp,pf,po,pr,px⟩:=pn
   obtain ⟨d87,b86,k87,o87,k86⟩:=qSn (f:=pf) (o:=po) hsl hss
   generalize hK:gD l=K at *
   have i_K:=i_l
   generalize (xE ts t).kd=kd at *
   obtain ⟨xi,xt,xp,xf,xo,xr,xx⟩:=n
   have hti:xt=t:=hti
   have e_x:M.es[j]? = some (.agg [dI xi,dI xt,dI xp,dI xf,dI xo,dI xr,.leaf (.string xx)]):=e_x
   have hjM:((j:Nat):Int) < ((M.es.length:Nat):Int):=by omega
   cases ha:l9 kd with
   | true =>
    have hk3:kd≠3:=fun h=>by rw [h] at ha; cases ha
    have hk4:kd≠4:=fun h=>by rw [h] at ha; cases ha
    cases hov:b85 with
    | true =>
     refine ⟨15,qH.step' ?_,fun h=>by cases h⟩
     refine bS (qA (off:=6) rfl i_M.one) ?_
     refine bS (qQ i_M) ?_
     refine bS qJ ?_
     refine qC (t:=true) (congrArg (fun q=>dB q) (tD hjM)) ?_
     refine zQ ?_
     refine bS (qA (off:=6) rfl i_M.one) ?_
     refine bS (qP (s:=((j:Nat):Int)) (by omega) e_x) ?_
     refine bS (qZ (s:=((j:Nat):Int)) i_M (by omega) e_x rfl) ?_
     refine bS (qI rfl) ?_
     refine bS (qA (off:=1) rfl rfl) ?_
     refine bS zR ?_
     refine qC (t:=false) (congrArg (fun q=>dB q) (fD (fun h=>h hti))) ?_
     refine zB ?_
     refine bS (qA (off:=2) rfl rfl) ?_
     refine cS k84 ?_
     refine cS qJ9 ?_
     refine qC (t:=true) (congrArg (fun q=>dB q) ha) ?_
     refine zQ ?_
     refine cS k85 ?_
     refine qC (t:=true) (congrArg (fun q=>dB q) hov) ?_
     refine zQ ?_
     exact qM rfl rfl
    | false =>
     have sok:=hok (fun _=>hov) (fun h=>absurd h hk3) (fun h=>absurd h hk4)
     by_cases hk1:kd=1
     ·cases hb:b86 with
      | true =>
       have qR5:(!b86)=false:=by rw [hb]; rfl
       obtain ⟨e,g,ge⟩:=next o (fun h=>⟨h,sok⟩)
       refine ⟨e,qH.step' ?_,ge⟩
       refine bS (qA (off:=6) rfl i_M.one) ?_
       refine bS (qQ i_M) ?_
       refine bS qJ ?_
       refine qC (t:=true) (congrArg (fun q=>dB q) (tD hjM)) ?_
       refine zQ ?_
       refine bS (qA (off:=6) rfl i_M.one) ?_
       refine bS (qP (s:=((j:Nat):Int)) (by omega) e_x) ?_
       refine bS (qZ (s:=((j:Nat):Int)) i_M (by omega) e_x rfl) ?_
       refine bS (qI rfl) ?_
       refine bS (qA (off:=1) rfl rfl) ?_
       refine bS zR ?_
       refine qC (t:=false) (congrArg (fun q=>dB q) (fD (fun h=>h hti))) ?_
       refine zB ?_
       refine bS (qA (off:=2) rfl rfl) ?_
       refine cS k84 ?_
       refine cS qJ9 ?_
       refine qC (t:=true) (congrArg (fun q=>dB q) ha) ?_
       refine zQ ?_
       refine cS k85 ?_
       refine qC (t:=false) (congrArg (fun q=>dB q) hov) ?_
       refine zB ?_
       refine bS (qA (off:=2) rfl rfl) ?_
       refine cS k20 ?_
       refine bS (vP rfl) ?_
       refine bS (vP rfl) ?_
       refine bS (qI rfl) ?_
       refine bS zJ ?_
       refine qC (t:=true) (congrArg (fun q=>dB q) (tD hk1)) ?_
       refine zQ ?_
       refine cS k87 ?_
       refine bS (pF (off:=3) (size:=2) rfl) ?_
       refine cS k86 ?_
       refine bS v6 ?_
       refine qC (t:=false) (congrArg (fun q=>dB q) qR5) ?_
       refine zB ?_
       refine bS zJ ?_
       refine qC (t:=false) (congrArg (fun q=>dB q) (fD hk3)) ?_
       refine zB ?_
       refine bS zJ ?_
       refine qC (t:=false) (congrArg (fun q=>dB q) (fD hk4)) ?_
       refine zB ?_
       refine bS (d:=dI ((j+1:Nat):Int)) (qT (qO (by omega))) ?_
       exact qE rfl g
      | false =>
       have qR5:(!b86)=true:=by rw [hb]; rfl
       obtain ⟨e,g,ge⟩:=next 16 (fun h=>by cases h)
       refine ⟨e,qH.step' ?_,ge⟩
       refine bS (qA (off:=6) rfl i_M.one) ?_
       refine bS (qQ i_M) ?_
       refine bS qJ ?_
       refine qC (t:=true) (congrArg (fun q=>dB q) (tD hjM)) ?_
       refine zQ ?_
       refine bS (qA (off:=6) rfl i_M.one) ?_
       refine bS (qP (s:=((j:Nat):Int)) (by omega) e_x) ?_
       refine bS (qZ (s:=((j:Nat):Int)) i_M (by omega) e_x rfl) ?_
       refine bS (qI rfl) ?_
       refine bS (qA (off:=1) rfl rfl) ?_
       refine bS zR ?_
       refine qC (t:=false) (congrArg (fun q=>dB q) (fD (fun h=>h hti))) ?_
       refine zB ?_
       refine bS (qA (off:=2) rfl rfl) ?_
       refine cS k84 ?_
       refine cS qJ9 ?_
       refine qC (t:=true) (congrArg (fun q=>dB q) ha) ?_
       refine zQ ?_
       refine cS k85 ?_
       refine qC (t:=false) (congrArg (fun q=>dB q) hov) ?_
       refine zB ?_
       refine bS (qA (off:=2) rfl rfl) ?_
       refine cS k20 ?_
       refine bS (vP rfl) ?_
       refine bS (vP rfl) ?_
       refine bS (qI rfl) ?_
       refine bS zJ ?_
       refine qC (t:=true) (congrArg (fun q=>dB q) (tD hk1)) ?_
       refine zQ ?_
       refine cS k87 ?_
       refine bS (pF (off:=3) (size:=2) rfl) ?_
       refine cS k86 ?_
       refine bS v6 ?_
       refine qC (t:=true) (congrArg (fun q=>dB q) qR5) ?_
       refine zQ ?_
       refine bS zJ ?_
       refine qC (t:=false) (congrArg (fun q=>dB q) (fD hk3)) ?_
       refine zB ?_
       refine bS zJ ?_
       refine qC (t:=false) (congrArg (fun q=>dB q) (fD hk4)) ?_
       refine zB ?_
       refine bS (d:=dI ((j+1:Nat):Int)) (qT (qO (by omega))) ?_
       exact qE rfl g
     obtain ⟨e,g,ge⟩:=next o (fun h=>⟨h,sok⟩)
     refine ⟨e,qH.step' ?_,ge⟩
     refine bS (qA (off:=6) rfl i_M.one) ?_
     refine bS (qQ i_M) ?_
     refine bS qJ ?_
     refine qC (t:=true) (congrArg (fun q=>dB q) (tD hjM)) ?_
     refine zQ ?_
     refine bS (qA (off:=6) rfl i_M.one) ?_
     refine bS (qP (s:=((j:Nat):Int)) (by omega) e_x) ?_
     refine bS (qZ (s:=((j:Nat):Int)) i_M (by omega) e_x rfl) ?_
     refine bS (qI rfl) ?_
     refine bS (qA (off:=1) rfl rfl) ?_
     refine bS zR ?_
     refine qC (t:=false) (congrArg (fun q=>dB q) (fD (fun h=>h hti))) ?_
     refine zB ?_
     refine bS (qA (off:=2) rfl rfl) ?_
     refine cS k84 ?_
     refine cS qJ9 ?_
     refine qC (t:=true) (congrArg (fun q=>dB q) ha) ?_
     refine zQ ?_
     refine cS k85 ?_
     refine qC (t:=false) (congrArg (fun q=>dB q) hov) ?_
     refine zB ?_
     refine bS (qA (off:=2) rfl rfl) ?_
     refine cS k20 ?_
     refine bS (vP rfl) ?_
     refine bS (vP rfl) ?_
     refine bS (qI rfl) ?_
     refine bS zJ ?_
     refine qC (t:=false) (congrArg (fun q=>dB q) (fD hk1)) ?_
     refine zB ?_
     refine bS zJ ?_
     refine qC (t:=false) (congrArg (fun q=>dB q) (fD hk3)) ?_
     refine zB ?_
     refine bS zJ ?_
     refine qC (t:=false) (congrArg (fun q=>dB q) (fD hk4)) ?_
     refine zB ?_
     refine bS (d:=dI ((j+1:Nat):Int)) (qT (qO (by omega))) ?_
     exact qE rfl g
   | false =>
    have hk1:kd≠1:=fun h=>by rw [h] at ha; cases ha
    have hna:l9 kd=true->b85=false:=fun h=>by rw [ha] at h; cases h
    by_cases hk3:kd=3
    ·have hk4:kd≠4:=by omega
     cases hb:b88 with
     | true =>
      have h88:(!b88)=false:=by rw [hb]; rfl
      have sok:=hok hna (fun _=>hb) (fun h=>absurd h hk4)
      obtain ⟨e,g,ge⟩:=next o (fun h=>⟨h,sok⟩)
      refine ⟨e,qH.step' ?_,ge⟩
      refine bS (qA (off:=6) rfl i_M.one) ?_
      refine bS (qQ i_M) ?_
      refine bS qJ ?_
      refine qC (t:=true) (congrArg (fun q=>dB q) (tD hjM)) ?_
      refine zQ ?_
      refine bS (qA (off:=6) rfl i_M.one) ?_
      refine bS (qP (s:=((j:Nat):Int)) (by omega) e_x) ?_
      refine bS (qZ (s:=((j:Nat):Int)) i_M (by omega) e_x rfl) ?_
      refine bS (qI rfl) ?_
      refine bS (qA (off:=1) rfl rfl) ?_
      refine bS zR ?_
      refine qC (t:=false) (congrArg (fun q=>dB q) (fD (fun h=>h hti))) ?_
      refine zB ?_
      refine bS (qA (off:=2) rfl rfl) ?_
      refine cS k84 ?_
      refine cS qJ9 ?_
      refine qC (t:=false) (congrArg (fun q=>dB q) ha) ?_
      refine zB ?_
      refine bS (qA (off:=2) rfl rfl) ?_
      refine cS k20 ?_
      refine bS (vP rfl) ?_
      refine bS (vP rfl) ?_
      refine bS (qI rfl) ?_
      refine bS zJ ?_
      refine qC (t:=false) (congrArg (fun q=>dB q) (fD hk1)) ?_
      refine zB ?_
      refine bS zJ ?_
      refine qC (t:=true) (congrArg (fun q=>dB q) (tD hk3)) ?_
      refine zQ ?_
      refine cS k88 ?_
      refine bS v6 ?_
      refine qC (t:=false) (congrArg (fun q=>dB q) h88) ?_
      refine zB ?_
      refine bS zJ ?_
      refine qC (t:=false) (congrArg (fun q=>dB q) (fD hk4)) ?_
      refine zB ?_
      refine bS (d:=dI ((j+1:Nat):Int)) (qT (qO (by omega))) ?_
      exact qE rfl g
     | false =>
      have h88:(!b88)=true:=by rw [hb]; rfl
      obtain ⟨e,g,ge⟩:=next 10 (fun h=>by cases h)
      refine ⟨e,qH.step' ?_,ge⟩
      refine bS (qA (off:=6) rfl i_M.one) ?_
      refine bS (qQ i_M) ?_
      refine bS qJ ?_
      refine qC (t:=true) (congrArg (fun q=>dB q) (tD hjM)) ?_
      refine zQ ?_
      refine bS (qA (off:=6) rfl i_M.one) ?_
      refine bS (qP (s:=((j:Nat):Int)) (by omega) e_x) ?_
      refine bS (qZ (s:=((j:Nat):Int)) i_M (by omega) e_x rfl) ?_
      refine bS (qI rfl) ?_
      refine bS (qA (off:=1) rfl rfl) ?_
      refine bS zR ?_
      refine qC (t:=false) (congrArg (fun q=>dB q) (fD (fun h=>h hti))) ?_
      refine zB ?_
      refine bS (qA (off:=2) rfl rfl) ?_
      refine cS k84 ?_
      refine cS qJ9 ?_
      refine qC (t:=false) (congrArg (fun q=>dB q) ha) ?_
      refine zB ?_
      refine bS (qA (off:=2) rfl rfl) ?_
      refine cS k20 ?_
      refine bS (vP rfl) ?_
      refine bS (vP rfl) ?_
      refine bS (qI rfl) ?_
      refine bS zJ ?_
      refine qC (t:=false) (congrArg (fun q=>dB q) (fD hk1)) ?_
      refine zB ?_
      refine bS zJ ?_
      refine qC (t:=true) (congrArg (fun q=>dB q) (tD hk3)) ?_
      refine zQ ?_
      refine cS k88 ?_
      refine bS v6 ?_
      refine qC (t:=true) (congrArg (fun q=>dB q) h88) ?_
      refine zQ ?_
      refine bS zJ ?_
      refine qC (t:=false) (congrArg (fun q=>dB q) (fD hk4)) ?_
      refine zB ?_
      refine bS (d:=dI ((j+1:Nat):Int)) (qT (qO (by omega))) ?_
      exact qE rfl g
    by_cases hk4:kd=4
    ·by_cases hlen:(1:Int) < ((K.es.length:Nat):Int)
     ·obtain ⟨e,g,ge⟩:=next 8 (fun h=>by cases h)
      refine ⟨e,qH.step' ?_,ge⟩
      refine bS (qA (off:=6) rfl i_M.one) ?_
      refine bS (qQ i_M) ?_
      refine bS qJ ?_
      refine qC (t:=true) (congrArg (fun q=>dB q) (tD hjM)) ?_
      refine zQ ?_
      refine bS (qA (off:=6) rfl i_M.one) ?_
      refine bS (qP (s:=((j:Nat):Int)) (by omega) e_x) ?_
      refine bS (qZ (s:=((j:Nat):Int)) i_M (by omega) e_x rfl) ?_
      refine bS (qI rfl) ?_
      refine bS (qA (off:=1) rfl rfl) ?_
      refine bS zR ?_
      refine qC (t:=false) (congrArg (fun q=>dB q) (fD (fun h=>h hti))) ?_
      refine zB ?_
      refine bS (qA (off:=2) rfl rfl) ?_
      refine cS k84 ?_
      refine cS qJ9 ?_
      refine qC (t:=false) (congrArg (fun q=>dB q) ha) ?_
      refine zB ?_
      refine bS (qA (off:=2) rfl rfl) ?_
      refine cS k20 ?_
      refine bS (vP rfl) ?_
      refine bS (vP rfl) ?_
      refine bS (qI rfl) ?_
      refine bS zJ ?_
      refine qC (t:=false) (congrArg (fun q=>dB q) (fD hk1)) ?_
      refine zB ?_
      refine bS zJ ?_
      refine qC (t:=false) (congrArg (fun q=>dB q) (fD hk3)) ?_
      refine zB ?_
      refine bS zJ ?_
      refine qC (t:=true) (congrArg (fun q=>dB q) (tD hk4)) ?_
      refine zQ ?_
      refine bS (qQ i_K) ?_
      refine bS vQ ?_
      refine qC (t:=true) (congrArg (fun q=>dB q) (tD hlen)) ?_
      refine zQ ?_
      refine bS (d:=dI ((j+1:Nat):Int)) (qT (qO (by omega))) ?_
      exact qE rfl g
     have sok:=hok hna (fun h=>absurd h hk3) (fun _=>by omega)
     obtain ⟨e,g,ge⟩:=next o (fun h=>⟨h,sok⟩)
     refine ⟨e,qH.step' ?_,ge⟩
     refine bS (qA (off:=6) rfl i_M.one) ?_
     refine bS (qQ i_M) ?_
     refine bS qJ ?_
     refine qC (t:=true) (congrArg (fun q=>dB q) (tD hjM)) ?_
     refine zQ ?_
     refine bS (qA (off:=6) rfl i_M.one) ?_
     refine bS (qP (s:=((j:Nat):Int)) (by omega) e_x) ?_
     refine bS (qZ (s:=((j:Nat):Int)) i_M (by omega) e_x rfl) ?_
     refine bS (qI rfl) ?_
     refine bS (qA (off:=1) rfl rfl) ?_
     refine bS zR ?_
     refine qC (t:=false) (congrArg (fun q=>dB q) (fD (fun h=>h hti))) ?_
     refine zB ?_
     refine bS (qA (off:=2) rfl rfl) ?_
     refine cS k84 ?_
     refine cS qJ9 ?_
     refine qC (t:=false) (congrArg (fun q=>dB q) ha) ?_
     refine zB ?_
     refine bS (qA (off:=2) rfl rfl) ?_
     refine cS k20 ?_
     refine bS (vP rfl) ?_
     refine bS (vP rfl) ?_
     refine bS (qI rfl) ?_
     refine bS zJ ?_
     refine qC (t:=false) (congrArg (fun q=>dB q) (fD hk1)) ?_
     refine zB ?_
     refine bS zJ ?_
     refine qC (t:=false) (congrArg (fun q=>dB q) (fD hk3)) ?_
     refine zB ?_
     refine bS zJ ?_
     refine qC (t:=true) (congrArg (fun q=>dB q) (tD hk4)) ?_
     refine zQ ?_
     refine bS (qQ i_K) ?_
     refine bS vQ ?_
     refine qC (t:=false) (congrArg (fun q=>dB q) (fD hlen)) ?_
     refine zB ?_
     refine bS (d:=dI ((j+1:Nat):Int)) (qT (qO (by omega))) ?_
     exact qE rfl g
    have sok:=hok hna (fun h=>absurd h hk3) (fun h=>absurd h hk4)
    obtain ⟨e,g,ge⟩:=next o (fun h=>⟨h,sok⟩)
    refine ⟨e,qH.step' ?_,ge⟩
    refine bS (qA (off:=6) rfl i_M.one) ?_
    refine bS (qQ i_M) ?_
    refine bS qJ ?_
    refine qC (t:=true) (congrArg (fun q=>dB q) (tD hjM)) ?_
    refine zQ ?_
    refine bS (qA (off:=6) rfl i_M.one) ?_
    refine bS (qP (s:=((j:Nat):Int)) (by omega) e_x) ?_
    refine bS (qZ (s:=((j:Nat):Int)) i_M (by omega) e_x rfl) ?_
    refine bS (qI rfl) ?_
    refine bS (qA (off:=1) rfl rfl) ?_
    refine bS zR ?_
    refine qC (t:=false) (congrArg (fun q=>dB q) (fD (fun h=>h hti))) ?_
    refine zB ?_
    refine bS (qA (off:=2) rfl rfl) ?_
    refine cS k84 ?_
    refine cS qJ9 ?_
    refine qC (t:=false) (congrArg (fun q=>dB q) ha) ?_
    refine zB ?_
    refine bS (qA (off:=2) rfl rfl) ?_
    refine cS k20 ?_
    refine bS (vP rfl) ?_
    refine bS (vP rfl) ?_
    refine bS (qI rfl) ?_
    refine bS zJ ?_
    refine qC (t:=false) (congrArg (fun q=>dB q) (fD hk1)) ?_
    refine zB ?_
    refine bS zJ ?_
    refine qC (t:=false) (congrArg (fun q=>dB q) (fD hk3)) ?_
    refine zB ?_
    refine bS zJ ?_
    refine qC (t:=false) (congrArg (fun q=>dB q) (fD hk4)) ?_
    refine zB ?_
    refine bS (d:=dI ((j+1:Nat):Int)) (qT (qO (by omega))) ?_
    exact qE rfl g
  obtain ⟨e,g1,g2⟩:=IH o
  refine ⟨e,qH.step' ?_,fun he=>⟨(g2 he).1,fun i m hi hm hmt=>?_⟩⟩
  ·obtain ⟨xi,xt,xp,xf,xo,xr,xx⟩:=n
   have hti:¬ xt=t:=hti
   have e_x:M.es[j]? = some (.agg [dI xi,dI xt,dI xp,dI xf,dI xo,dI xr,.leaf (.string xx)]):=e_x
   have hjM:((j:Nat):Int) < ((M.es.length:Nat):Int):=by omega
   refine bS (qA (off:=6) rfl i_M.one) ?_
   refine bS (qQ i_M) ?_
   refine bS qJ ?_
   refine qC (t:=true) (congrArg (fun q=>dB q) (tD hjM)) ?_
   refine zQ ?_
   refine bS (qA (off:=6) rfl i_M.one) ?_
   refine bS (qP (s:=((j:Nat):Int)) (by omega) e_x) ?_
   refine bS (qZ (s:=((j:Nat):Int)) i_M (by omega) e_x rfl) ?_
   refine bS (qI rfl) ?_
   refine bS (qA (off:=1) rfl rfl) ?_
   refine bS zR ?_
   refine qC (t:=true) (congrArg (fun q=>dB q) (tD hti)) ?_
   refine zQ ?_
   refine bS (d:=dI ((j+1:Nat):Int)) (qT (qO (by omega))) ?_
   exact qE rfl g1
  by_cases hij:i=j
  ·subst hij; rw [h_n] at hm; cases hm; exact absurd hmt hti
  exact (g2 he).2 i m (by omega) hm hmt
 obtain ⟨e,h,he⟩:=main
 refine ⟨e,qUW rfl (qH.step' ?_),fun h1 n hn ht=>?_⟩
 ·refine bS (qI rfl) ?_
  refine bS (qA (off:=5) rfl i_T.one) ?_
  refine bS (qP (s:=t) (by omega) tf) ?_
  refine bS (zI (s:=t) (off:=1) i_T (by omega) tf rfl rfl (by decide)) ?_
  exact qE rfl h
 obtain ⟨i,hi⟩:=List.getElem?_of_mem hn
 exact (he h1).2 i n (Nat.zero_le _) hi ht
end
end Go.Proofs.YthhlmoidofecpaaGreat
