/- Notes and tiers as data; the order of siblings. Conditions: none. -/
import Derived.Test.YthhlmoidofecpaaGreatZd
import Derived.Test.YthhlmoidofecpaaGreatXa
import Derived.Test.YthhlmoidofecpaaGreatUv
import Derived.Test.YthhlmoidofecpaaGreatSp
import Derived.Shelf.SlSortCmp.InsertionK
import Derived.Shelf.GgSortFunc.Small
set_option linter.unusedVariables false
set_option linter.unusedSimpArgs false
namespace Go.Proofs.YthhlmoidofecpaaGreat
open Go Go.Am Go.Proofs Go.Am.Tr
def kY (n:Nt):D:=.agg [dI n.id,dI n.ti,dI n.pa,dI n.fr,dI n.to,dI n.rk,.leaf (.string n.tx)]
def qCS (t:Tr):D:=.agg [.leaf (.string t.nm),dI t.kd,dI t.rl,dI t.pa]
theorem qTt {x y z:Int}:TOp.eval EE (.lit 3 1) [dI x,dI y,dI z]=some (.sl 3 1 [dI x,dI y,dI z]):=rfl
theorem qOB {l:D} {i:Nat} (h:i < l.es.length):∃ x,l.es[i]? = some x:=⟨_,List.getElem?_eq_getElem h⟩
theorem j0 {a b:Nat} (h:decide (((a:Nat):Int) < ((b:Nat):Int))=true):a < b:=by have:=dT h; omega
theorem vX {a b:Nat} (h:decide (((a:Nat):Int) < ((b:Nat):Int))=false):b<=a:=by have:=dF h; omega
theorem qTm {p:Prop} [Decidable p] (h:(!decide p)=true):¬ p:=fun e=>by rw [tD e] at h; cases h
theorem qTn {p:Prop} [Decidable p] (h:(!decide p)=false):p:=Decidable.byContradiction fun e=>by rw [fD e] at h; cases h
attribute [local irreducible] Go.Am.wp Go.Am.TOp.eval
theorem qUt {a:Int}:Holds EE 61 [dI a] (dB false):=by
 refine qUV rfl (qH.step' ?_)
 refine bS zR ?_
 exact qM rfl (congrArg (fun t=>dB t) (fD (fun h=>h rfl)))
theorem qTy {a b:Int}:Holds EE 35 [dI a,dI b] (dI (aP a b)):=by
 refine qU2 rfl (qH.step' ?_)
 refine cS qUt ?_
 refine cS qUt ?_
 refine qC (t:=false) rfl ?_
 refine zB ?_
 refine qC (t:=false) rfl ?_
 refine zB ?_
 refine bS qJ ?_
 refine iC (fun c=>?_) fun c=>?_
 ·exact qM rfl (congrArg (fun t=>dI t) (qCH (dT c)).symm)
 have c1:=dF c
 refine bS vQ ?_
 refine iC (fun d=>?_) fun d=>?_
 ·exact qM rfl (congrArg (fun t=>dI t) (qCI (dT d)).symm)
 have d1:=dF d
 exact qM rfl (congrArg (fun t=>dI t) (qCJ (by omega)).symm)
theorem qVu {a b c:Int}:Holds EE 34 [.sl 3 1 [dI a,dI b,dI c]] (dI (qQy a b c)):=by
 have hs:jA 3 1 (.sl 3 1 [dI a,dI b,dI c]):=.inr ⟨_,rfl,by show 3 < zG; unfold zG; omega⟩
 obtain ⟨l,hl⟩:∃ l,l=D.sl 3 1 [dI a,dI b,dI c]:=⟨_,rfl⟩
 rw [← hl] at hs ⊢
 have i_l:=hs
 have hlen:l.es.length=3:=by rw [hl]; rfl
 have e0:l.es[0]? = some (dI a):=by rw [hl]; rfl
 have e1:l.es[0+1]? = some (dI b):=by rw [hl]; rfl
 have e2:l.es[0+1+1]? = some (dI c):=by rw [hl]; rfl
 have hr:qQy a b c=if ¬ a=0 then a else if ¬ b=0 then b else if ¬ c=0 then c else 0:=by
  unfold qQy
  by_cases ha:a=0
  ·by_cases hb:b=0
   ·by_cases hc:c=0 <;> simp [ha,hb,hc]
   simp [ha,hb]
  simp [ha]
 rw [hr]
 have third:qH EE (Holds EE) qIC 1 [l,dI ((l.es.length:Nat):Int),dI ((0+1+1:Nat):Int)] (dI (if ¬ c=0 then c else 0)):=by
  refine qH.step' ?_
  refine bS qJ ?_
  refine iC (fun q=>?_) fun q=>?_
  ·skip
   refine bS (qP (s:=((0+1+1:Nat):Int)) (by omega) e2) ?_
   refine bS (jE (s:=((0+1+1:Nat):Int)) i_l (by omega) e2 rfl) ?_
   refine bS zR ?_
   refine iC (fun m=>?_) fun m=>?_
   ·exact qM rfl (congrArg (fun t=>dI t) (if_pos (dT m)).symm)
   rw [if_neg (dF m)]
   refine bS (d:=dI ((0+1+1+1:Nat):Int)) (qT (n:=0+1+1) (by unfold zG; omega)) ?_
   refine qE rfl (qH.step' ?_)
   show wp _ _ _ qF1 [l,dI ((l.es.length:Nat):Int),dI ((0+1+1+1:Nat):Int)]
   refine bS qJ ?_
   refine iC (fun k=>?_) fun k=>?_
   ·have:=j0 k; omega
   exact qM rfl rfl
  have:=vX q; omega
 have second:qH EE (Holds EE) qIC 1 [l,dI ((l.es.length:Nat):Int),dI ((0+1:Nat):Int)] (dI (if ¬ b=0 then b else if ¬ c=0 then c else 0)):=by
  refine qH.step' ?_
  refine bS qJ ?_
  refine iC (fun q=>?_) fun q=>?_
  ·skip
   refine bS (qP (s:=((0+1:Nat):Int)) (by omega) e1) ?_
   refine bS (jE (s:=((0+1:Nat):Int)) i_l (by omega) e1 rfl) ?_
   refine bS zR ?_
   refine iC (fun m=>?_) fun m=>?_
   ·exact qM rfl (congrArg (fun t=>dI t) (if_pos (dT m)).symm)
   rw [if_neg (dF m)]
   refine bS (d:=dI ((0+1+1:Nat):Int)) (qT (n:=0+1) (by unfold zG; omega)) ?_
   exact qE rfl third
  have:=vX q; omega
 refine qU3 rfl (qH.step' ?_)
 refine bS (qQ i_l) ?_
 refine qE rfl (qH.step' ?_)
 show wp _ _ _ qF1 [l,dI ((l.es.length:Nat):Int),dI ((0:Nat):Int)]
 refine bS qJ ?_
 refine iC (fun q=>?_) fun q=>?_
 ·skip
  refine bS (qP (s:=((0:Nat):Int)) (by omega) e0) ?_
  refine bS (jE (s:=((0:Nat):Int)) i_l (by omega) e0 rfl) ?_
  refine bS zR ?_
  refine iC (fun m=>?_) fun m=>?_
  ·exact qM rfl (congrArg (fun t=>dI t) (if_pos (dT m)).symm)
  rw [if_neg (dF m)]
  refine bS (d:=dI ((0+1:Nat):Int)) (qT (n:=0) (by unfold zG; omega)) ?_
  exact qE rfl second
 have:=vX q; omega
theorem qTC {a b:Nt}:Holds EE 106 [kY a,kY b] (dI (qCb a b)):=by
 obtain ⟨ai,at',ap,af,ao,ar,ax⟩:=a
 obtain ⟨bi,bt,bp,bf,bo,br,bx⟩:=b
 show Holds EE 106 [.agg [dI ai,dI at',dI ap,dI af,dI ao,dI ar,.leaf (.string ax)],.agg [dI bi,dI bt,dI bp,dI bf,dI bo,dI br,.leaf (.string bx)]] (dI (qQy (aP ap bp) (aP af bf) (aP ar br)))
 refine qS2 rfl (qH.step' ?_)
 refine bS (qI rfl) ?_
 refine bS (qI rfl) ?_
 refine bS (qA (off:=2) rfl rfl) ?_
 refine bS (qA (off:=2) rfl rfl) ?_
 refine cS qTy ?_
 refine bS (qA (off:=3) rfl rfl) ?_
 refine bS (qA (off:=3) rfl rfl) ?_
 refine cS qTy ?_
 refine bS (qA (off:=5) rfl rfl) ?_
 refine bS (qA (off:=5) rfl rfl) ?_
 refine cS qTy ?_
 refine bS (wN rfl) ?_
 refine bS (wN rfl) ?_
 refine bS (wN rfl) ?_
 refine bS qTt ?_
 refine cS qVu ?_
 exact qM rfl rfl
end Go.Proofs.YthhlmoidofecpaaGreat
namespace Go.Proofs.YthhlmoidofecpaaGreat
open Go Go.Am Go.Proofs Go.Am.Tr
def mP (ts:List Tr) (r:Int) (i:Nat):Int:=match (ts.drop i).findIdx? fun t=>decide (t.rl=r) with
 | some k=>((i+k:Nat):Int)
 | none=>-1
theorem qGg (ts:List Tr) (r:Int):mP ts r 0=jZ ts r:=by
 unfold mP jZ
 rw [List.drop_zero]
 cases ts.findIdx? fun t=>decide (t.rl=r) with
 | none=>rfl
 | some k=>show ((0+k:Nat):Int)=k; rw [Nat.zero_add]
theorem qBf {ts:List Tr} {r:Int} {i:Nat} (h:ts.length<=i):mP ts r i = -1:=by
 unfold mP; rw [List.drop_of_length_le h]; rfl
theorem vZ {α:Type} {l:List α} {i:Nat} {x:α} (h:l[i]? = some x):l.drop i=x::l.drop (i+1):=by
 have hi:i < l.length:=(gI h).1
 rw [List.drop_eq_getElem_cons hi]; congr 1; exact (gI h).2
theorem qBe {ts:List Tr} {r:Int} {i:Nat} {t:Tr} (h:ts[i]? = some t) (e:t.rl=r):mP ts r i=(i:Int):=by
 unfold mP; rw [vZ h,List.findIdx?_cons,tD e]; rfl
theorem qDa {ts:List Tr} {r:Int} {i:Nat} {t:Tr} (h:ts[i]? = some t) (e:¬ t.rl=r):mP ts r i=mP ts r (i+1):=by
 unfold mP; rw [vZ h,List.findIdx?_cons,fD e]
 cases (ts.drop (i+1)).findIdx? fun t=>decide (t.rl=r) with
 | none=>rfl
 | some k=>show ((i+(k+1):Nat):Int)=((i+1+k:Nat):Int); congr 1; omega
theorem jX {α:Type} {f:α->D} {l:List α} {d:D} {i:Nat} (hd:d.es=l.map f) (hi:i < l.length):∃ x,l[i]? = some x/\d.es[i]? = some (f x) :=
 ⟨l[i],List.getElem?_eq_getElem hi,by rw [hd,List.getElem?_map,List.getElem?_eq_getElem hi]; rfl⟩
theorem qD4 {ns:List Nt} {r:Int} {i:Nat} {n:Nt} (h:ns[i]? = some n) (e:n.id=r):yL (ns.drop i) r=some n:=by
 unfold yL; rw [vZ h,List.find?_cons,tD e]
theorem qGN {ns:List Nt} {r:Int} {i:Nat} {n:Nt} (h:ns[i]? = some n) (e:¬ n.id=r):yL (ns.drop i) r=yL (ns.drop (i+1)) r:=by
 unfold yL; rw [vZ h,List.find?_cons,fD e]
def mV (ns:List Nt) (r:Int):D:=.tup [kY ((yL ns r).getD zN),dB (yL ns r).isSome]
attribute [local irreducible] Go.Am.wp Go.Am.TOp.eval
theorem qVs {T:D} {ts:List Tr} {r:Int} (i_T:jA 58 4 T) (hT:T.es=ts.map qCS) (hr:r≠0) (hn:ts.length<=1000):Holds EE 38 [T,dI r] (dI (jZ ts r)):=by
 have hl:T.es.length=ts.length:=by rw [hT,List.length_map]
 rw [← qGg]
 refine qU1 rfl (qH.step' ?_)
 refine bS (qQ i_T) ?_
 refine qE rfl (vI (P:=fun i:Nat=>i<=ts.length->qH EE (Holds EE) qNL 1 [dI r,T,dI ((T.es.length:Nat):Int),dI ((i:Nat):Int)] (dI (mP ts r i))) ts.length (fun i ih=>?_) 0 (Nat.zero_le _))
 intro hi
 refine qH.step' ?_
 refine bS qJ ?_
 refine iC (fun c=>?_) fun c=>?_
 ·have hil:i < ts.length:=by have:=j0 c; omega
  obtain ⟨t,h_t,e_x⟩:=jX hT hil
  obtain ⟨nm,kd,rl,pa⟩:=t
  have e_x:T.es[i]? = some (.agg [.leaf (.string nm),dI kd,dI rl,dI pa]):=e_x
  refine bS (qP (s:=((i:Nat):Int)) (by omega) e_x) ?_
  refine bS (qZ (s:=((i:Nat):Int)) i_T (by omega) e_x rfl) ?_
  refine bS (qI rfl) ?_
  refine bS zR ?_
  refine iC (fun d=>?_) fun d=>?_
  ·skip
   refine bS (qA (off:=2) rfl rfl) ?_
   refine bS zJ ?_
   refine iC (fun f=>?_) fun f=>?_
   ·rw [qBe h_t (dT f)]
    exact qM rfl rfl
   rw [qDa h_t (dF f)]
   refine bS (d:=dI ((i+1:Nat):Int)) (qT (qO (by omega))) ?_
   exact qE rfl (ih hil hil)
  exact absurd hr (dF d)
 have:=vX c
 rw [qBf (by omega)]
 exact qM rfl rfl
theorem qUv {T:D} {ts:List Tr} {r:Int} (i_T:jA 58 4 T) (hT:T.es=ts.map qCS) (hr:r≠0) (hn:ts.length<=1000):Holds EE 21 [T,dI r] (dI (jZ ts r)):=by
 have hl:T.es.length=ts.length:=by rw [hT,List.length_map]
 rw [← qGg]
 refine qU5 rfl (qH.step' ?_)
 refine qE rfl (vI (P:=fun i:Nat=>i<=ts.length->qH EE (Holds EE) qNY 1 [T,dI r,dI ((i:Nat):Int)] (dI (mP ts r i))) ts.length (fun i ih=>?_) 0 (Nat.zero_le _))
 intro hi
 refine qH.step' ?_
 refine bS (qQ i_T) ?_
 refine bS qJ ?_
 refine iC (fun c=>?_) fun c=>?_
 ·have hil:i < ts.length:=by have:=j0 c; omega
  obtain ⟨t,h_t,e_x⟩:=jX hT hil
  obtain ⟨nm,kd,rl,pa⟩:=t
  have e_x:T.es[i]? = some (.agg [.leaf (.string nm),dI kd,dI rl,dI pa]):=e_x
  refine bS zR ?_
  refine iC (fun d=>?_) fun d=>?_
  ·skip
   refine bS (qP (s:=((i:Nat):Int)) (by omega) e_x) ?_
   refine bS (zI (s:=((i:Nat):Int)) (off:=2) i_T (by omega) e_x rfl rfl (by decide)) ?_
   refine bS zJ ?_
   refine iC (fun f=>?_) fun f=>?_
   ·rw [qBe h_t (dT f)]
    exact qM rfl rfl
   rw [qDa h_t (dF f)]
   refine bS (d:=dI ((i+1:Nat):Int)) (qT (qO (by omega))) ?_
   exact qE rfl (ih hil hil)
  exact absurd hr (dF d)
 have:=vX c
 rw [qBf (by omega)]
 exact qM rfl rfl
theorem qVr {di ln dy r:Int} {nm sp T M:D} {ns:List Nt} (h_nm:nm.one=true) (h_sp:sp.one=true) (h_T:T.one=true) (i_M:jA 62 7 M) (hM:M.es=ns.map kY) (hn:ns.length<=1000):Holds EE 39 [.agg [dI di,nm,dI ln,dI dy,sp,T,M],dI r] (mV ns r):=by
 have hl:M.es.length=ns.length:=by rw [hM,List.length_map]
 refine qU0 rfl (qH.step' ?_)
 refine bS (qI rfl) ?_
 refine bS (qA (off:=6) rfl i_M.one) ?_
 refine bS (qQ i_M) ?_
 refine qE rfl (vI (P:=fun i:Nat=>i<=ns.length->qH EE (Holds EE) qNI 1 [dI r,M,dI ((M.es.length:Nat):Int),dI ((i:Nat):Int)] (mV (ns.drop i) r)) ns.length (fun i ih=>?_) 0 (Nat.zero_le _))
 intro hi
 refine qH.step' ?_
 refine bS qJ ?_
 refine iC (fun c=>?_) fun c=>?_
 ·have hil:i < ns.length:=by have:=j0 c; omega
  obtain ⟨t,h_t,e_x⟩:=jX hM hil
  obtain ⟨xi,xt,xp,xf,xo,xr,xx⟩:=t
  have e_x:M.es[i]? = some (.agg [dI xi,dI xt,dI xp,dI xf,dI xo,dI xr,.leaf (.string xx)]):=e_x
  refine bS (qP (s:=((i:Nat):Int)) (by omega) e_x) ?_
  refine bS (qZ (s:=((i:Nat):Int)) i_M (by omega) e_x rfl) ?_
  refine bS (qI rfl) ?_
  refine bS (qA (off:=0) rfl rfl) ?_
  refine bS zJ ?_
  refine iC (fun f=>?_) fun f=>?_
  ·have hf:=qD4 h_t (dT f)
   unfold mV
   rw [hf]
   refine bS (qI rfl) ?_
   exact yN rfl rfl
  have hf:=qGN h_t (dF f)
  have hv:mV (ns.drop i) r=mV (ns.drop (i+1)) r:=by unfold mV; rw [hf]
  rw [hv]
  refine bS (d:=dI ((i+1:Nat):Int)) (qT (qO (by omega))) ?_
  exact qE rfl (ih hil hil)
 have:=vX c
 have hd:ns.drop i=[]:=List.drop_of_length_le (by omega)
 rw [hd]
 exact yN rfl rfl
theorem qOD {di ln dy r:Int} {nm sp T M:D} {ns:List Nt} (h_nm:nm.one=true) (h_sp:sp.one=true) (h_T:T.one=true) (i_M:jA 62 7 M) (hM:M.es=ns.map kY) (hn:ns.length<=1000):Holds EE 20 [.agg [dI di,nm,dI ln,dI dy,sp,T,M],dI r] (mV ns r):=by
 have hl:M.es.length=ns.length:=by rw [hM,List.length_map]
 refine qU6 rfl (qH.step' ?_)
 refine bS (qI rfl) ?_
 refine qE rfl (vI (P:=fun i:Nat=>i<=ns.length->qH EE (Holds EE) qN1 1 [dI r,dI ((i:Nat):Int),.agg [dI di,nm,dI ln,dI dy,sp,T,M]] (mV (ns.drop i) r)) ns.length (fun i ih=>?_) 0 (Nat.zero_le _))
 intro hi
 refine qH.step' ?_
 refine bS (qA (off:=6) rfl i_M.one) ?_
 refine bS (qQ i_M) ?_
 refine bS qJ ?_
 refine iC (fun c=>?_) fun c=>?_
 ·have hil:i < ns.length:=by have:=j0 c; omega
  obtain ⟨t,h_t,e_x⟩:=jX hM hil
  obtain ⟨xi,xt,xp,xf,xo,xr,xx⟩:=t
  have e_x:M.es[i]? = some (.agg [dI xi,dI xt,dI xp,dI xf,dI xo,dI xr,.leaf (.string xx)]):=e_x
  refine bS (qA (off:=6) rfl i_M.one) ?_
  refine bS (qP (s:=((i:Nat):Int)) (by omega) e_x) ?_
  refine bS (zI (s:=((i:Nat):Int)) (off:=0) i_M (by omega) e_x rfl rfl (by decide)) ?_
  refine bS zJ ?_
  refine iC (fun f=>?_) fun f=>?_
  ·have hf:=qD4 h_t (dT f)
   unfold mV
   rw [hf]
   refine bS (qA (off:=6) rfl i_M.one) ?_
   refine bS (qP (s:=((i:Nat):Int)) (by omega) e_x) ?_
   refine bS (qZ (s:=((i:Nat):Int)) i_M (by omega) e_x rfl) ?_
   refine bS (qI rfl) ?_
   exact yN rfl rfl
  have hf:=qGN h_t (dF f)
  have hv:mV (ns.drop i) r=mV (ns.drop (i+1)) r:=by unfold mV; rw [hf]
  rw [hv]
  refine bS (d:=dI ((i+1:Nat):Int)) (qT (qO (by omega))) ?_
  exact qE rfl (ih hil hil)
 have:=vX c
 have hd:ns.drop i=[]:=List.drop_of_length_le (by omega)
 rw [hd]
 exact yN rfl rfl
end Go.Proofs.YthhlmoidofecpaaGreat
namespace Go.Proofs.YthhlmoidofecpaaGreat
open Go Go.Am Go.Proofs Go.Shelf Go.RowKit Go.Lib Go.Sort Go.Am.Tr
def uE:Go.Shelf.Ren:=⟨fun | 20=>149 | n=>n,fun | 24=>62 | 22=>54 | 3=>3 | 25=>191 | 4=>4 | 0=>0 | n=>n,fun n=>n⟩
theorem qPO:SlLaysF0.n20 Tryz.prog uE:={
 mixed:=by kernel_rfl,
 f20:=⟨Tryz.f149.name,by decide,Tryz.func149.trans (congrArg some (by kernel_rfl))⟩,
 t0:=Tryz.underlying0,
 a0:=Tryz.isAgg0,
 z0:=Tryz.sizeOf0,
 v0:=Tryz.zeroValue0,
 t3:=Tryz.underlying3,
 a3:=Tryz.isAgg3,
 z3:=Tryz.sizeOf3,
 v3:=Tryz.zeroValue3,
 t4:=Tryz.underlying4,
 a4:=Tryz.isAgg4,
 z4:=Tryz.sizeOf4,
 v4:=Tryz.zeroValue4,
 t22:=Tryz.underlying54,
 a22:=Tryz.isAgg54,
 z22:=Tryz.sizeOf54,
 v22:=Tryz.zeroValue54,
 t25:=Tryz.underlying191,
 a25:=Tryz.isAgg191,
 z25:=Tryz.sizeOf191,
 v25:=Tryz.zeroValue191 }
section
variable {α:Type} [Inhabited α]
set_option maxHeartbeats 2000000 in
set_option maxRecDepth 100000 in
theorem qRD (k:Nat) (aE:∀ w,(isAgg 62).run Tryz.prog w=.ok true w) (zE:∀ w,(Go.sizeOf 62).run Tryz.prog w=.ok k w) (enc:α->List Value) (hk:∀ x,(enc x).length=k) (h1:∀ x,∀ v∈enc x,v.oneCell'=true) (cf:α->α->Int) (g:Nat) (cb:Array Value) (blk off cap:Nat) (d:Array α) (w:World)
  (eg:∀ args w,(callFunc g args).run Tryz.prog w=.ok (.enter g args) w) (hcmp:CmpLays Tryz.prog g cb enc k cf blk off d.size w) (hH:HoldsK enc k w blk off d) (hblk:blk < w.heap.size) (qOD:d.size < 20) :
  Calls Tryz.prog 133 #[.slice (some ⟨blk,off,none⟩) d.size cap,.int .i64 d.size,.func (.func g) #[] cb] w fun e w'=>e=.returned (.tuple #[])/\∃ n os,w'=sortWorldK enc k w blk off n (Sort.insertionSort (ltOf cf) d 0 d.size) os:=by
 have e149:∀ args w,(callFunc 149 args).run Tryz.prog w=.ok (.enter 149 args) w:=enters_of Tryz.func149 (by kernel_rfl) rfl
 have hi:=AnyQ.insertionSortCmpFunc (P:=Tryz.prog) (ρ:=uE) qPO k aE zE enc hk h1 cf g cb blk off cap 0 d.size d w eg hcmp hH hblk (Nat.zero_le _) (lR _) (by omega)
 have hi:Calls Tryz.prog 149 #[.slice (some ⟨blk,off,none⟩) d.size cap,.int .i64 0,.int .i64 d.size,.func (.func g) #[] cb] w fun e w'=>e=.returned (.tuple #[])/\∃ n os,w'=sortWorldK enc k w blk off n (Sort.insertionSort (ltOf cf) d 0 d.size) os:=hi
 clear hH hcmp hk h1
 go_enter Tryz.func133,Tryz.ntmps133
 have h20a:¬ ((20:Int)<=(d.size:Int)):=by omega
 have h20b:¬ ((20:Int) < (d.size:Int)):=by omega
 go_wp2
 refine wp_loop_rounds 1 ?_
 rw [rounds_succ]
 go_wp2_with (go_at_fn 149; refine hi.mono ?_; rintro e w' ⟨rfl,n,os,rfl⟩)
 refine wp_loop_rounds 1 ?_
 rw [rounds_succ]
 go_wp2
 go_end0
 exact ⟨rfl,n,os,rfl⟩
set_option maxHeartbeats 2000000 in
set_option maxRecDepth 100000 in
theorem qRE (k:Nat) (aE:∀ w,(isAgg 62).run Tryz.prog w=.ok true w) (zE:∀ w,(Go.sizeOf 62).run Tryz.prog w=.ok k w) (enc:α->List Value) (hk:∀ x,(enc x).length=k) (h1:∀ x,∀ v∈enc x,v.oneCell'=true) (cf:α->α->Int) (g:Nat) (cb:Array Value) (blk off cap:Nat) (d:Array α) (w:World)
  (eg:∀ args w,(callFunc g args).run Tryz.prog w=.ok (.enter g args) w) (hcmp:CmpLays Tryz.prog g cb enc k cf blk off d.size w) (hH:HoldsK enc k w blk off d) (hblk:blk < w.heap.size) (qOD:d.size < 20) :
  Calls Tryz.prog 105 #[.slice (some ⟨blk,off,none⟩) d.size cap,.func (.func g) #[] cb] w fun e w'=>e=.returned (.tuple #[])/\∃ n os,w'=sortWorldK enc k w blk off n (Sort.insertionSort (ltOf cf) d 0 d.size) os:=by
 have e133:∀ args w,(callFunc 133 args).run Tryz.prog w=.ok (.enter 133 args) w:=enters_of Tryz.func133 (by kernel_rfl) rfl
 have hi:=qRD k aE zE enc hk h1 cf g cb blk off cap d w eg hcmp hH hblk qOD
 clear hH hcmp hk h1
 go_enter Tryz.func105,Tryz.ntmps105
 go_wp2_with (go_at_fn 133; refine hi.mono ?_; rintro e w' ⟨rfl,n,os,rfl⟩)
 go_end0
 exact ⟨rfl,n,os,rfl⟩
end
set_option maxHeartbeats 2000000 in
set_option maxRecDepth 100000 in
theorem qO7 (p:Option Addr) (cap:Nat) (f:Value) (w:World):Calls Tryz.prog 149 #[.slice p 0 cap,.int .i64 0,.int .i64 0,f] w fun e w'=>e=.returned (.tuple #[])/\w'=w:=by
 go_enter Tryz.func149,Tryz.ntmps149
 go_wp2
 refine wp_loop_rounds 1 ?_
 rw [rounds_succ]
 go_wp2
 go_end0
 exact ⟨rfl,rfl⟩
set_option maxHeartbeats 2000000 in
set_option maxRecDepth 100000 in
theorem qO8 (p:Option Addr) (cap:Nat) (f:Value) (w:World):Calls Tryz.prog 133 #[.slice p 0 cap,.int .i64 0,f] w fun e w'=>e=.returned (.tuple #[])/\w'=w:=by
 have e149:∀ args w,(callFunc 149 args).run Tryz.prog w=.ok (.enter 149 args) w:=enters_of Tryz.func149 (by kernel_rfl) rfl
 have hi:=qO7 p cap f w
 go_enter Tryz.func133,Tryz.ntmps133
 go_wp2
 refine wp_loop_rounds 1 ?_
 rw [rounds_succ]
 go_wp2_with (go_at_fn 149; refine hi.mono ?_; rintro e w' ⟨rfl,rfl⟩)
 refine wp_loop_rounds 1 ?_
 rw [rounds_succ]
 go_wp2
 go_end0
 exact ⟨rfl,rfl⟩
set_option maxHeartbeats 2000000 in
set_option maxRecDepth 100000 in
theorem qO9 (p:Option Addr) (cap:Nat) (f:Value) (w:World):Calls Tryz.prog 105 #[.slice p 0 cap,f] w fun e w'=>e=.returned (.tuple #[])/\w'=w:=by
 have e133:∀ args w,(callFunc 133 args).run Tryz.prog w=.ok (.enter 133 args) w:=enters_of Tryz.func133 (by kernel_rfl) rfl
 have hi:=qO8 p cap f w
 go_enter Tryz.func105,Tryz.ntmps105
 go_wp2_with (go_at_fn 133; refine hi.mono ?_; rintro e w' ⟨rfl,rfl⟩)
 go_end0
 exact ⟨rfl,rfl⟩
def qAY (n:Nt):List Value:=[.int .i64 n.id,.int .i64 n.ti,.int .i64 n.pa,.int .i64 n.fr,.int .i64 n.to,.int .i64 n.rk,.string n.tx]
def PN:D->Bool
 | .agg [.leaf (.int .i64 _),.leaf (.int .i64 _),.leaf (.int .i64 _),.leaf (.int .i64 _),.leaf (.int .i64 _),.leaf (.int .i64 _),.leaf (.string _)]=>true
 | _=>false
def qQF:D->Nt
 | .agg [.leaf (.int .i64 a),.leaf (.int .i64 b),.leaf (.int .i64 c),.leaf (.int .i64 d),.leaf (.int .i64 e),.leaf (.int .i64 f),.leaf (.string s)]=>⟨a,b,c,d,e,f,s⟩
 | _=>zN
theorem qPk:RowOK 7 qAY kY qQF PN where
 to e h:=by
  unfold PN at h
  split at h
  ·rfl
  cases h
 ok _:=rfl
 fr _:=rfl
 cells _:=rfl
 len _:=rfl
 leaf a v hv:=by
  unfold qAY at hv
  simp only [List.mem_cons,List.not_mem_nil,or_false] at hv
  rcases hv with rfl | rfl | rfl | rfl | rfl | rfl | rfl <;> exact ⟨rfl,rfl⟩
theorem qQM (σ:zY) (a:Nt):VR σ (.agg ⟨qAY a⟩) (.agg ⟨qAY a⟩) :=
 .agg (.cons (.leaf rfl) (.cons (.leaf rfl) (.cons (.leaf rfl) (.cons (.leaf rfl) (.cons (.leaf rfl) (.cons (.leaf rfl) (.cons (.leaf rfl) .nil))))))) rfl
theorem qUJ (g:zF) (a:Nt):DR g (kY a) (.agg ⟨qAY a⟩) :=
 .agg (.cons (.leaf rfl) (.cons (.leaf rfl) (.cons (.leaf rfl) (.cons (.leaf rfl) (.cons (.leaf rfl) (.cons (.leaf rfl) (.cons (.leaf rfl) .nil))))))) rfl
theorem qQc (blk off size:Nat) (w:World):CmpLays Tryz.prog 106 #[] qAY 7 qCb blk off size w:=by
 intro m os dk _ x y
 have h:=qFq (E:=EE) (qTC (a:=x) (b:=y)) (azq := [.agg ⟨qAY x⟩,.agg ⟨qAY y⟩])
  (fun g=>.cons (qUJ g x) (.cons (qUJ g y) .nil)) (fun σ=>.cons (qQM σ x) (.cons (qQM σ y) .nil)) rfl
  (Go.Proofs.sortWorldK qAY 7 w blk off m dk os)
 exact h.mono fun e w' ⟨h1,h2⟩=>⟨h1,qHJ h2⟩
theorem qSg:∀ args w,(callFunc 106 args).run Tryz.prog w=.ok (.enter 106 args) w:=enters_of Tryz.func106 (by kernel_rfl) rfl
theorem qSS:EE.funcs.get 105=some Tryz.f105:=sM (c:=rA Tryz.f105) Tryz.func105 rfl (by kernel_rfl)
def SN:List D->Option D:=iV 19 62 7 PN (qK9 kY qQF d5)
theorem qRP:LstOK EE ⟨105,some 106,false,SN⟩ 62 7 PN (qK9 kY qQF d5) 19 :=
 qFh qPk ⟨_,qSS⟩ rW (by decide) (by decide) (fun p cap w=>qO9 p cap _ w) fun blk off cap d w hH hblk hsz =>
  qRE 7 Tryz.isAgg62 Tryz.sizeOf62 qAY (fun _=>rfl) (fun x v hv=>(qPk.leaf x v hv).2) qCb 106 #[] blk off cap d w qSg (qQc _ _ _ w) hH hblk (by omega)
def LL:List Lst:=[⟨105,some 106,false,SN⟩]
def GG:List Gro:=[]
theorem hL:qQu EE LL GG:=by
 refine ⟨fun Y h=>?_,fun Y h=>?_⟩
 ·rw [List.mem_singleton.1 h]; exact ⟨_,_,_,_,_,qRP⟩
 cases h
end Go.Proofs.YthhlmoidofecpaaGreat
namespace Go.Proofs.YthhlmoidofecpaaGreat
open Go Go.Am Go.Proofs
def qLq:Nat->Pat
 | 1=>⟨[⟨.pure,false⟩,⟨.pure,false⟩,⟨.fresh,true⟩,⟨.pure,true⟩,⟨.pure,true⟩,⟨.pure,true⟩,⟨.pure,false⟩],[(1,.v 0),(2,.v 1),(3,.loc 0 0),(7,.v 2),(14,.v 3),(15,.v 4),(16,.v 5)],[some (.whole (.v 6) 7)],[]⟩
 | 2=>⟨[⟨.fresh,true⟩,⟨.fresh,true⟩,⟨.pure,true⟩,⟨.pure,true⟩],[(10,.v 0),(48,.v 1),(49,.v 2),(50,.v 3)],[],[]⟩
 | _=>⟨[],[],[],[]⟩
def qNw:Tree :=
 gW 7 0 <|
 qD 6 3 <|
 xL 4 <|
 .jump 1 [.v 1,.v 2,.c (.slice none 0 0),.v 4,.v 5,k' 0,.v 3]
def qNv:Tree :=
 vB .lss 16 15 5 4 <|
 qB 7 (
  xC 3 5 <|
  .bind (.elem 7 true 7 0) [.v 3,.v 5] <|
  gW 7 9 <|
  qD 1 10 <|
  vB .eql 21 22 11 1 <|
  qB 12 (
   qD 2 10 <|
   vB .eql 26 27 13 0 <|
   qB 14 (
    qF .geq 31 0 1 <|
    qB 15 (
     qD 5 6 <|
     xL 16 <|
     vB .lss 35 38 1 17 <|
     qB 18 (
      gW 7 10 <|
      .bind (.lit 62 7) [.v 10] <|
      .bind (.app 62 7 64) [.v 2,.v 20] <|
      qF .add 16 1 5 <|
      .jump 1 [.v 0,.v 1,.v 21,.v 3,.v 4,.v 22,.v 6]) (
      qF .add 16 1 5 <|
      .jump 1 [.v 0,.v 1,.v 2,.v 3,.v 4,.v 19,.v 6])) (
     qF .add 16 1 5 <|
     .jump 1 [.v 0,.v 1,.v 2,.v 3,.v 4,.v 16,.v 6])) (
    qF .add 16 1 5 <|
    .jump 1 [.v 0,.v 1,.v 2,.v 3,.v 4,.v 15,.v 6])) (
   qF .add 16 1 5 <|
   .jump 1 [.v 0,.v 1,.v 2,.v 3,.v 4,.v 13,.v 6])) (
  .bind (.lib SN) [.v 2] <|
  xL 8 <|
  .jump 2 [.c (.slice none 0 0),.v 8,.v 9,k' 0])
def qNu:Tree :=
 vB .lss 50 49 3 2 <|
 qB 4 (
  xC 1 3 <|
  .bind (.elem 7 true 7 0) [.v 1,.v 3] <|
  gW 7 6 <|
  qD 0 7 <|
  qSr 8 <|
  .bind (.lit 3 1) [.v 8] <|
  .bind (.app 3 1 8) [.v 0,.v 10] <|
  qF .add 50 1 3 <|
  .jump 2 [.v 11,.v 1,.v 2,.v 12]) (
  .ret [.v 0])
def qFZ:Nat->Tree
 | 0=>qNw
 | 1=>qNv
 | 2=>qNu
 | _=>.fail
noncomputable def qLp:Nat->Nat:=fun _=>Nat.max Tryz.f62.ntmps 3
theorem qQo:(qBW EE (fun k S=>g9 (qLp k) (qLq k) k S) (qOv EE LL GG) qJE 1 (rA Tryz.f62) (kB 3 (Nat.max Tryz.f62.ntmps 3)) (eJ EE Tryz.f62.results.toList),
 xJ EE (fun k=>(qLq k).st (qLp k)) (fun k S=>g9 (qLp k) (qLq k) k S) (qOv EE LL GG) qJE (fun _ _ _ _=>[]) 1 (rA Tryz.f62) (eJ EE Tryz.f62.results.toList),
 nr Tryz.f62) =
 (qNw,[(1,qNv),(2,qNu)],false):=by kernel_rfl
theorem qUU {ds:List D} {d:D} (hn:ds.length=3) (h:qH EE (Holds EE) qFZ 0 ds d):Holds EE 62 ds d :=
 qHN (Ls:=LL) (Gs:=GG) (pats:=qLq) (szs:=qLp) he hL (sM (c:=rA Tryz.f62) Tryz.func62 rfl ((wG (wG qQo)))) (c:=rA Tryz.f62) rfl hn ((pI qQo).1) (by rw [(pI (wG qQo)).1]; exact jY rfl <| jY rfl <| xB) h
end Go.Proofs.YthhlmoidofecpaaGreat
