/- What a net accepts, by the reference: sets of states as marks. Conditions: none. -/
import Derived.Test.YtnemldklhelbeaaGreatJv
import Derived.Test.YtnemldklhelbeaaGreatJe
set_option linter.unusedVariables false
set_option linter.unusedSimpArgs false
namespace Go.Proofs.YtnemldklhelbeaaGreat
open Go Go.Am Go.Proofs
attribute [local irreducible] Go.Am.wp Go.Am.TOp.eval
def dM (N:Nat) (m:Int):D:=.sl 4 1 ((List.range N).map (fun q:Nat=>dB (rO m (q:Int))))
theorem qS1 {N:Nat} {m:Int}:(dM N m).es.length=N:=by
 show ((List.range N).map _).length=N
 rw [List.length_map,List.length_range]
theorem qE4 {N:Nat} {m q:Int} (h0:0<=q) (h1:q < (N:Int)):(dM N m).es[q.toNat]? = some (dB (rO m q)):=by
 show ((List.range N).map _)[q.toNat]? = _
 rw [List.getElem?_map,List.getElem?_range (by omega)]
 show some (dB (rO m ((q.toNat:Nat):Int)))=_
 rw [Int.toNat_of_nonneg h0]
theorem qE3 {N:Nat} {m:Int} (h:N<=3):nV 4 1 (dM N m):=.inr ⟨_,rfl,by rw [List.length_map,List.length_range]; exact Nat.lt_of_le_of_lt h (by decide)⟩
theorem qIK:∀ m:Fin 8,∀ q p:Fin 3,rO (pR (m.val:Int) (q.val:Int)) (p.val:Int)=(rO (m.val:Int) (p.val:Int) || decide (p.val=q.val)):=by decide +kernel
theorem qJs:∀ N:Fin 4,∀ m:Fin 8,∀ q:Fin 3,q.val < N.val->m.val < 2 ^ N.val->0<=pR (m.val:Int) (q.val:Int)/\pR (m.val:Int) (q.val:Int) < 2 ^ N.val:=by decide +kernel
theorem qXJ:∀ N:Fin 4,∀ m k:Fin 8,m.val < 2 ^ N.val->k.val < 2 ^ N.val->decide (¬ qJd (m.val:Int) (k.val:Int)=0)=(List.range N.val).any (fun q=>rO (m.val:Int) (q:Int) && rO (k.val:Int) (q:Int)):=by decide +kernel
theorem qRk:pR 0 0=1:=by decide +kernel
def qDn (N:Nat) (m:Int):Prop:=0<=m/\m < 2 ^ N
theorem qRU {N:Nat} (h:N<=3):(2:Int) ^ N<=8:=by
 have:N=0∨N=1∨N=2∨N=3:=by omega
 rcases this with rfl | rfl | rfl | rfl <;> decide
theorem qA2 (N:Nat):((2 ^ N:Nat):Int)=(2:Int) ^ N:=by norm_cast
theorem qNv {N:Nat} {m:Int} (h:N<=3) (hm:qDn N m):∃ k:Fin 8,m=(k.val:Int)/\k.val < 2 ^ N:=by
 have h8:=qRU h
 have hl:m.toNat < 8:=by have:=hm.1; have:=hm.2; omega
 refine ⟨⟨m.toNat,hl⟩,(Int.toNat_of_nonneg hm.1).symm,?_⟩
 show m.toNat < 2 ^ N
 have h2:=hm.2
 rw [← qA2] at h2
 have h1:=hm.1
 omega
theorem qGN {N:Nat} {m q:Int} (h:N<=3) (hm:qDn N m) (h0:0<=q) (h1:q < (N:Int)):qDn N (pR m q):=by
 obtain ⟨k,rfl,hk⟩:=qNv h hm
 have:=qJs ⟨N,by omega⟩ k ⟨q.toNat,by omega⟩ (by show q.toNat < N; omega) hk
 rw [show ((Fin.mk q.toNat (by omega):Fin 3).val:Int)=q from Int.toNat_of_nonneg h0] at this
 exact this
theorem qVi {N:Nat} {m q:Int} {p:Nat} (h:N<=3) (hm:qDn N m) (h0:0<=q) (h1:q < (N:Int)) (hp:p < N):rO (pR m q) (p:Int)=(rO m (p:Int) || decide (p=q.toNat)):=by
 obtain ⟨k,rfl,hk⟩:=qNv h hm
 have:=qIK k ⟨q.toNat,by omega⟩ ⟨p,by omega⟩
 rw [show ((Fin.mk q.toNat (by omega):Fin 3).val:Int)=q from Int.toNat_of_nonneg h0] at this
 exact this
theorem qRe {N:Nat} (h0:1<=N) (h:N<=3):TOp.eval EE (.mk 4 1 1 false [(.bool false)]) [dI (N:Int)]=some (dM N 0):=by
 have:N=1∨N=2∨N=3:=by omega
 rcases this with rfl | rfl | rfl
 ·show TOp.eval EE (.mk 4 1 1 false [(.bool false)]) [dI 1]=some (dM 1 0); kernel_rfl
 ·show TOp.eval EE (.mk 4 1 1 false [(.bool false)]) [dI 2]=some (dM 2 0); kernel_rfl
 show TOp.eval EE (.mk 4 1 1 false [(.bool false)]) [dI 3]=some (dM 3 0); kernel_rfl
theorem qMi {N:Nat} {m q:Int} (h:N<=3) (hm:qDn N m) (h0:0<=q) (h1:q < (N:Int)):TOp.eval EE (.set 1 false 1 0) [dM N m,dI q,dB true]=some (dM N (pR m q)):=by
 obtain ⟨p,rfl⟩:∃ p:Nat,q=(p:Int):=⟨q.toNat,(Int.toNat_of_nonneg h0).symm⟩
 have hp:p < N:=by omega
 have hg:((List.range N).map (fun q:Nat=>dB (rO m (q:Int))))[p]? = some (dB (rO m (p:Int))):=by
  rw [List.getElem?_map,List.getElem?_range hp]; rfl
 rw [qAO,kM h0]
 show (match ((List.range N).map (fun q:Nat=>dB (rO m (q:Int))))[((p:Int)).toNat]? with | some e=>bif Nat.beq 1 1 && Nat.ble (0+1) 1 then some (D.sl 4 1 (((List.range N).map (fun q:Nat=>dB (rO m (q:Int)))).set ((p:Int)).toNat (uL e 0 (dB true).cells))) else none | none=>none)=_
 rw [Int.toNat_natCast,hg]
 show some (D.sl 4 1 (((List.range N).map (fun q:Nat=>dB (rO m (q:Int)))).set p (dB true)))=some (dM N (pR m (p:Int)))
 refine congrArg (fun z=>some (D.sl 4 1 z)) ?_
 apply List.ext_getElem?
 intro j
 rw [List.getElem?_set,List.getElem?_map,List.getElem?_map]
 rcases Nat.lt_or_ge j N with hj | hj
 ·rw [List.getElem?_range hj]
  have hw:=qVi (q:=(p:Int)) h hm h0 h1 hj
  rw [Int.toNat_natCast] at hw
  simp only [Option.map_some,hw,List.length_map,List.length_range]
  by_cases hpj:p=j
  ·subst hpj; simp [hp]
  rw [if_neg hpj,fD (fun h=>hpj h.symm),Bool.or_false]
 rw [List.getElem?_eq_none (by rw [List.length_range]; omega),if_neg (by omega)]
 rfl
theorem qF7 {N:Nat} (h:N<=3):∀ (l:List D) {m:Int},qDn N m->(∀ x∈l,qHn (N:Int) x)->qDn N (l.foldl qBH m)
 | [],_,hm,_=>hm
 | x::r,m,hm,hx=>by
  rw [List.foldl_cons]
  refine qF7 h r ?_ (fun y hy=>hx y (mC _ hy))
  have h1:=hx x List.mem_cons_self
  unfold qHn at h1
  split at h1
  ·exact qGN h hm h1.1 h1.2
  exact h1.elim
theorem qFs {N:Nat} (h:N<=3) {m k:Int}:∀ (l:List D) {acc:Int},qDn N acc->(∀ x∈l,qIs (N:Int) x)->qDn N (l.foldl (rY m k) acc)
 | [],_,hm,_=>hm
 | x::r,acc,hm,hx=>by
  rw [List.foldl_cons]
  refine qFs h r ?_ (fun y hy=>hx y (mC _ hy))
  have h1:=hx x List.mem_cons_self
  unfold qIs at h1
  split at h1
  ·show qDn N (if _ then _ else _)
   split
   ·exact qGN h hm h1.2.2.2.1 h1.2.2.2.2
   exact hm
  exact h1.elim
theorem s7 (N:Nat):qDn N 0:=⟨Int.le_refl _,by rw [← qA2]; have:=Nat.two_pow_pos N; omega⟩
theorem qR5 {N:Nat} (h:1<=N):qDn N 1:=⟨by omega,by rw [← qA2]; have:=Nat.one_lt_two_pow (n:=N) (by omega); omega⟩
theorem qKA {N:Nat} (h:N<=3) {ws:D} (hw:∀ x∈ws.es,qIs (N:Int) x):∀ (l:List D) {m:Int},qDn N m->qDn N (l.foldl (qFC ws) m)
 | [],_,hm=>hm
 | x::r,m,hm=>by
  rw [List.foldl_cons]
  refine qKA h hw r ?_
  unfold qFC
  split
  ·exact qFs h ws.es (s7 N) hw
  exact hm
theorem qUQ {N:Nat} {ws fs a:D} (h0:1<=N) (h3:N<=3) (hw:ws.one=true) (hf:fs.one=true) (ha:qE 300000000 xT a) (hx:∀ x∈a.es,qHn (N:Int) x):qA EE 89 [.agg [dI (N:Int),ws,fs],a] (dM N (qIN a)):=by
 have i_a:=qC ha
 have b_a:=qJ ha
 refine qYB rfl (qG.step' ?_)
 refine bS (qI rfl) ?_
 refine bS (qB (off:=0) rfl rfl) ?_
 refine bS (qRe h0 h3) ?_
 refine qF rfl (vK (P:=fun i=>qG EE (qA EE) qOS 1 [a,dM N ((a.es.take i).foldl qBH 0),dI ((i:Nat):Int)] (dM N (qIN a))) a.es.length ?_ ?_)
 ·refine qG.step' ?_
  refine bS (qH i_a) ?_
  refine bS qK ?_
  refine iC (fun c=>?_) fun c=>?_
  ·have:=vV c; omega
  refine qD rfl ?_
  show dM N _=_
  rw [List.take_length]; rfl
 intro i hi ih
 obtain ⟨x,e_x⟩:=vH hi
 have hxi:=hx x (List.mem_iff_getElem?.2 ⟨i,e_x⟩)
 obtain ⟨q,rfl⟩:=qN ha e_x
 have hq:0<=q/\q < (N:Int):=hxi
 have hm:qDn N ((a.es.take i).foldl qBH 0):=qF7 h3 _ (s7 N) (fun y hy=>hx y (List.mem_of_mem_take hy))
 have hfo:(a.es.take (i+1)).foldl qBH 0=pR ((a.es.take i).foldl qBH 0) q:=yV e_x
 have i_u:=qE3 (m:=(a.es.take i).foldl qBH 0) h3
 have e_u:=qE4 (m:=(a.es.take i).foldl qBH 0) hq.1 hq.2
 generalize hmm:(a.es.take i).foldl qBH 0=m at *
 obtain ⟨u,hu⟩:∃ u,u=dM N m:=⟨_,rfl⟩
 rw [← hu] at i_u e_u
 rw [← hu]
 refine qG.step' ?_
 refine bS (qH i_a) ?_
 refine bS qK ?_
 refine iC (fun c=>?_) fun c=>?_
 ·skip
  refine bS (qL (s:=((i:Nat):Int)) (by omega) e_x) ?_
  refine bS (qO (s:=((i:Nat):Int)) i_a (by omega) e_x rfl) ?_
  refine bS (qL (s:=q) (by omega) e_u) ?_
  subst hu
  refine bS (qMi h3 hm hq.1 hq.2) ?_
  refine bS (d:=dI ((i+1:Nat):Int)) (qP (qM (by omega))) ?_
  refine qF rfl ?_
  rw [← hfo]; exact ih
 have:=zC c; omega
theorem qUW {N:Nat} {ws fs:D} {m k:Int} (h0:1<=N) (h3:N<=3) (hk:1<=k) (hw:qE 300000000 qHW ws) (hf:fs.one=true) (hx:∀ x∈ws.es,qIs (N:Int) x):qA EE 106 [.agg [dI (N:Int),ws,fs],dM N m,dI k] (dM N (qJf ws m k)):=by
 have i_ws:=qC hw
 have b_ws:=qJ hw
 have i_v:=qE3 (m:=m) h3
 obtain ⟨v,hv⟩:∃ v,v=dM N m:=⟨_,rfl⟩
 rw [← hv] at i_v
 rw [← hv]
 refine qWq rfl (qG.step' ?_)
 refine bS (qI rfl) ?_
 refine bS (qB (off:=0) rfl rfl) ?_
 refine bS (qRe h0 h3) ?_
 refine qF rfl (vK (P:=fun i=>qG EE (qA EE) qJ3 1 [v,dI k,dM N ((ws.es.take i).foldl (rY m k) 0),dI ((i:Nat):Int),.agg [dI (N:Int),ws,fs]] (dM N (qJf ws m k))) ws.es.length ?_ ?_)
 ·refine qG.step' ?_
  refine bS (qB (off:=1) rfl i_ws.one) ?_
  refine bS (qH i_ws) ?_
  refine bS qK ?_
  refine iC (fun c=>?_) fun c=>?_
  ·have:=vV c; omega
  refine qD rfl ?_
  show dM N _=_
  rw [List.take_length]; rfl
 intro i hi ih
 obtain ⟨x,e_x⟩:=vH hi
 have hxi:=hx x (List.mem_iff_getElem?.2 ⟨i,e_x⟩)
 obtain ⟨_,rfl,_,_,rfl,⟨f,rfl⟩,_,_,rfl,⟨c,rfl⟩,_,_,rfl,⟨t,rfl⟩,rfl⟩:=qN hw e_x
 have hq:0<=f/\f < (N:Int)/\1<=c/\0<=t/\t < (N:Int):=hxi
 have hm:qDn N ((ws.es.take i).foldl (rY m k) 0):=qFs h3 _ (s7 N) (fun y hy=>hx y (List.mem_of_mem_take hy))
 have hfo:(ws.es.take (i+1)).foldl (rY m k) 0=if rO m f=true/\c=k then pR ((ws.es.take i).foldl (rY m k) 0) t else (ws.es.take i).foldl (rY m k) 0:=yV e_x
 have i_u:=qE3 (m:=(ws.es.take i).foldl (rY m k) 0) h3
 have e_u:=qE4 (m:=(ws.es.take i).foldl (rY m k) 0) hq.2.2.2.1 hq.2.2.2.2
 have e_v:=qE4 (m:=m) hq.1 hq.2.1
 rw [hfo] at ih
 generalize hmm:(ws.es.take i).foldl (rY m k) 0=r at *
 obtain ⟨u,hu⟩:∃ u,u=dM N r:=⟨_,rfl⟩
 rw [← hu] at i_u e_u
 rw [← hu]
 rw [← hv] at e_v
 refine qG.step' ?_
 refine bS (qB (off:=1) rfl i_ws.one) ?_
 refine bS (qH i_ws) ?_
 refine bS qK ?_
 refine iC (fun d=>?_) fun d=>?_
 ·skip
  refine bS (qB (off:=1) rfl i_ws.one) ?_
  refine bS (qL (s:=((i:Nat):Int)) (by omega) e_x) ?_
  refine bS (z8 (s:=((i:Nat):Int)) i_ws (by omega) e_x rfl) ?_
  refine bS (qI rfl) ?_
  refine bS (qB (off:=0) rfl rfl) ?_
  refine bS (qL (s:=f) (by omega) e_v) ?_
  refine bS (qO (s:=f) i_v (by omega) e_v rfl) ?_
  refine iC (fun d2=>?_) fun d2=>?_
  ·skip
   refine bS vX ?_
   refine iC (fun d3=>?_) fun d3=>?_
   ·have:=dT d3; omega
   refine bS (qB (off:=1) rfl rfl) ?_
   refine bS vX ?_
   refine iC (fun d4=>?_) fun d4=>?_
   ·skip
    refine bS (qB (off:=2) rfl rfl) ?_
    refine bS (qL (s:=t) (by omega) e_u) ?_
    subst hu
    refine bS (qMi h3 hm hq.2.2.2.1 hq.2.2.2.2) ?_
    refine bS (d:=dI ((i+1:Nat):Int)) (qP (qM (by omega))) ?_
    refine qF rfl ?_
    rw [if_pos ⟨d2,dT d4⟩] at ih; exact ih
   refine bS (d:=dI ((i+1:Nat):Int)) (qP (qM (by omega))) ?_
   refine qF rfl ?_
   rw [if_neg (fun h=>dF d4 h.2)] at ih; rw [hu]; exact ih
  refine bS (d:=dI ((i+1:Nat):Int)) (qP (qM (by omega))) ?_
  refine qF rfl ?_
  rw [if_neg (fun h=>by rw [h.1] at d2; cases d2)] at ih; rw [hu]; exact ih
 have:=zC d; omega
theorem qWE {N:Nat} {ws fs cl:D} (h0:1<=N) (h3:N<=3) (hw:qE 300000000 qHW ws) (hf:fs.one=true) (hx:∀ x∈ws.es,qIs (N:Int) x) (hc:qE 300000000 xT cl) (hp:qDl cl.es):qA EE 88 [.agg [dI (N:Int),ws,fs],cl] (dM N (qKB ws cl)):=by
 have i_ws:=qC hw
 have i_cl:=qC hc
 have b_cl:=qJ hc
 have k0:=qUQ (ws:=ws) (fs:=fs) (a:=.sl 3 1 [dI 0]) h0 h3 i_ws.one hf qCT (fun x hx=>by rw [List.mem_singleton.1 hx]; exact ⟨Int.le_refl 0,by omega⟩)
 have e0:qIN (.sl 3 1 [dI 0])=1:=qRk
 rw [e0] at k0
 refine qYC rfl (qG.step' ?_)
 refine bS (qI rfl) ?_
 refine bS (vY rfl) ?_
 refine bS (wU rfl) ?_
 refine cS k0 ?_
 refine qF rfl (vK (P:=fun i=>qG EE (qA EE) qOV 1 [cl,dM N ((cl.es.take i).foldl (qFC ws) 1),dI ((i:Nat):Int),.agg [dI (N:Int),ws,fs]] (dM N (qKB ws cl))) cl.es.length ?_ ?_)
 ·refine qG.step' ?_
  refine bS (qH i_cl) ?_
  refine bS qK ?_
  refine iC (fun c=>?_) fun c=>?_
  ·have:=vV c; omega
  refine qD rfl ?_
  show dM N _=_
  rw [List.take_length]; rfl
 intro i hi ih
 obtain ⟨x,e_x⟩:=vH hi
 obtain ⟨q,rfl,hq⟩:=hp x (List.mem_iff_getElem?.2 ⟨i,e_x⟩)
 have hfo:(cl.es.take (i+1)).foldl (qFC ws) 1=qJf ws ((cl.es.take i).foldl (qFC ws) 1) q:=yV e_x
 rw [hfo] at ih
 refine qG.step' ?_
 refine bS (qH i_cl) ?_
 refine bS qK ?_
 refine iC (fun c=>?_) fun c=>?_
 ·skip
  refine bS (qL (s:=((i:Nat):Int)) (by omega) e_x) ?_
  refine bS (qO (s:=((i:Nat):Int)) i_cl (by omega) e_x rfl) ?_
  refine bS qK ?_
  refine iC (fun d=>?_) fun d=>?_
  ·have:=dT d; omega
  refine bS (qL (s:=((i:Nat):Int)) (by omega) e_x) ?_
  refine bS (qO (s:=((i:Nat):Int)) i_cl (by omega) e_x rfl) ?_
  refine cS (qUW h0 h3 hq hw hf hx) ?_
  refine bS (d:=dI ((i+1:Nat):Int)) (qP (qM (by omega))) ?_
  exact qF rfl ih
 have:=zC c; omega
theorem qWF {N:Nat} {m k:Int} (h3:N<=3) (hm:qDn N m) (hk:qDn N k):qA EE 87 [dM N m,dM N k] (dB (decide (¬ qJd m k=0))):=by
 have e1:decide (¬ qJd m k=0)=(List.range N).any (fun q=>rO m (q:Int) && rO k (q:Int)):=by
  obtain ⟨a,rfl,ha⟩:=qNv h3 hm
  obtain ⟨b,rfl,hb⟩:=qNv h3 hk
  exact qXJ ⟨N,by omega⟩ a b ha hb
 rw [e1]
 have i_u:=qE3 (m:=m) h3
 have i_v:=qE3 (m:=k) h3
 have l_u:=qS1 (N:=N) (m:=m)
 have at_u:=fun (q:Nat) (h:q < N)=>qE4 (N:=N) (m:=m) (q:=(q:Int)) (by omega) (by omega)
 have at_v:=fun (q:Nat) (h:q < N)=>qE4 (N:=N) (m:=k) (q:=(q:Int)) (by omega) (by omega)
 generalize dM N m=u at *
 generalize dM N k=v at *
 refine qYD rfl (qG.step' ?_)
 have hdrop:∀ i,i < N->(List.range N).drop i=i::(List.range N).drop (i+1):=fun i hi=>by
  have hl:i < (List.range N).length:=by rw [List.length_range]; exact hi
  rw [List.drop_eq_getElem_cons hl,List.getElem_range]
 refine qF rfl (vK (P:=fun i=>qG EE (qA EE) qOY 1 [u,v,dI ((i:Nat):Int)] (dB (((List.range N).drop i).any (fun q=>rO m (q:Int) && rO k (q:Int))))) N ?_ ?_)
 ·refine qG.step' ?_
  refine bS (qH i_u) ?_
  refine bS qK ?_
  refine iC (fun c=>?_) fun c=>?_
  ·have:=vV c; omega
  refine qD rfl ?_
  rw [List.drop_of_length_le (by rw [List.length_range]; omega)]; rfl
 intro i hi ih
 have e_u:=at_u i hi
 have e_v:=at_v i hi
 rw [hdrop i hi,List.any_cons]
 refine qG.step' ?_
 refine bS (qH i_u) ?_
 refine bS qK ?_
 refine iC (fun c=>?_) fun c=>?_
 ·skip
  refine bS (qL (s:=((i:Nat):Int)) (by omega) e_u) ?_
  refine bS (qO (s:=((i:Nat):Int)) i_u (by omega) e_u rfl) ?_
  refine iC (fun d=>?_) fun d=>?_
  ·rw [d]
   refine bS (qL (s:=((i:Nat):Int)) (by omega) e_v) ?_
   refine bS (qO (s:=((i:Nat):Int)) i_v (by omega) e_v rfl) ?_
   refine iC (fun f=>?_) fun f=>?_
   ·rw [f]
    exact qD rfl rfl
   rw [f]
   refine bS (d:=dI ((i+1:Nat):Int)) (qP (qM (by omega))) ?_
   exact qF rfl ih
  rw [d]
  refine bS (d:=dI ((i+1:Nat):Int)) (qP (qM (by omega))) ?_
  exact qF rfl ih
 have:=zC c; omega
theorem qWM {N:Nat} {ws fs cl:D} (h0:1<=N) (h3:N<=3) (hw:qE 300000000 qHW ws) (hf:qE 300000000 xT fs) (hx:∀ x∈ws.es,qIs (N:Int) x) (hy:∀ x∈fs.es,qHn (N:Int) x) (hc:qE 300000000 xT cl) (hp:qDl cl.es):qA EE 48 [.agg [dI (N:Int),ws,fs],cl] (dB (qGE ws fs cl)):=by
 have i_ws:=qC hw
 have i_fs:=qC hf
 have k1:=qWE (fs:=fs) h0 h3 hw i_fs.one hx hc hp
 have k2:=qUQ (ws:=ws) (fs:=fs) h0 h3 i_ws.one i_fs.one hf hy
 have k3:=qWF h3 (qKA h3 hx cl.es (qR5 h0)) (qF7 h3 fs.es (s7 N) hy)
 refine qYY rfl (qG.step' ?_)
 refine bS (qI rfl) ?_
 refine cS k1 ?_
 refine bS (qB (off:=2) rfl i_fs.one) ?_
 refine cS k2 ?_
 refine cS k3 ?_
 exact qD rfl rfl
end Go.Proofs.YtnemldklhelbeaaGreat
