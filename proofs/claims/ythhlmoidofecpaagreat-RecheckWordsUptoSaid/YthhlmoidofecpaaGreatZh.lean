/- Words and texts, by the program and by the reference. Conditions: none. -/
import Derived.Test.YthhlmoidofecpaaGreatZg
set_option linter.unusedVariables false
set_option linter.unusedSimpArgs false
namespace Go.Proofs.YthhlmoidofecpaaGreat
open Go Go.Am Go.Proofs Go.Am.Tr
abbrev Pr:=Int × Int
theorem qRx:cH EE.prog 4 24=some [.int .i64,.int .i64]:=by kernel_rfl
theorem qRC:rV EE.prog 24=true:=by kernel_rfl
theorem qR6:EE.prog.eqGuardType EE.prog.depth 24=false:=by kernel_rfl
theorem dq {p q:Pr}:hD [dI p.1,dI p.2] [dI q.1,dI q.2]=decide (p=q):=by
 simp only [qH1,qKC,qKD,qLm,Bool.and_true]
 obtain ⟨a,b⟩:=p
 obtain ⟨c,d⟩:=q
 by_cases h1:a=c <;> by_cases h2:b=d <;> simp [h1,h2]
theorem qVI {x y:Operand} {a b c d:Int}:TOp.eval EE (.bin .eql 24 x y) [.agg [dI a,dI b],.agg [dI c,dI d]]=some (dB (decide (((a,b):Pr)=(c,d)))):=by
 rw [aX .eql (.inr rfl) qRx qRC (by decide:4<=10000) qR6 rfl (x:=x) (y:=y) (xU gP (xU gP lJ)) (xU gP (xU gP lJ))]
 exact congrArg (fun t=>some (dB t)) (dq (p:=(a,b)) (q:=(c,d)))
theorem qVk {x y:Operand} {a b:Int}:TOp.eval EE (.bin .neq 24 x y) [.agg [dI a,dI b],.agg [dI a,dI b]]=some (dB false):=by
 rw [aX .neq (.inl rfl) qRx qRC (by decide:4<=10000) qR6 rfl (x:=x) (y:=y) (xU gP (xU gP lJ)) (xU gP (xU gP lJ))]
 have h:=dq (p:=(a,b)) (q:=(a,b))
 rw [tD rfl] at h
 exact congrArg (fun t=>some (dB (!t))) h
theorem qSd {x y:Operand} (s:ByteArray):TOp.eval EE (.bin .eql 9 x y) [.leaf (.string s),.leaf (.string s)]=some (dB true):=by
 rw [aW,qAs s]
theorem qVJ {x y:Operand} (a b:Bool):TOp.eval EE (.bin .eql 4 x y) [dB a,dB b]=some (dB (a == b)):=by cases a <;> cases b <;> kernel_rfl
def sY (w:Wd):D:=.agg [dI w.1.1,dI w.1.2,.leaf (.string w.2)]
def toR (p:Pr):D:=.agg [dI p.1,dI p.2]
theorem qTs {w:Wd}:TOp.eval EE (.lit 97 3) [sY w]=some (.sl 97 3 [sY w]):=rfl
theorem qFQ {l:List D} {w:Wd} (h:l.length+1<=1000000):TOp.eval EE (.app 97 3 32) [zC 97 3 l,.sl 97 3 [sY w]]=some (zC 97 3 (l++[sY w])) :=
 qAD (B:=w.2.size+1) (e:=.st [.int .i64,.int .i64,.str]) (rX (show 1<=_ by omega) fun x hx=>by
  rw [List.mem_singleton.1 hx]; exact qBv (zU vK (zU vK (zU (nS (by omega)) xS)))) (by decide) (by show _+1<=_; omega)
theorem qRZ {p:Pr}:TOp.eval EE (.lit 24 2) [toR p]=some (.sl 24 2 [toR p]):=rfl
theorem qSw {l:List D} {p:Pr} (h:l.length+1<=1000000):TOp.eval EE (.app 24 2 16) [zC 24 2 l,.sl 24 2 [toR p]]=some (zC 24 2 (l++[toR p])) :=
 qAD (B:=1) (e:=.st [.int .i64,.int .i64]) (rX (lR 1) fun x hx=>by
  rw [List.mem_singleton.1 hx]; exact qBv (zU vK (zU vK xS))) (by decide) (by show _+1<=_; omega)
def qRy (o:Option ByteArray):D:=.tup [.leaf (.string (o.getD .empty)),dB o.isSome]
def qUa (d:D) (c:Dc):Prop:=∃ nm ln dy sp T M,d=.agg [dI c.id,nm,dI ln,dI dy,sp,T,M]/\nm.one=true/\sp.one=true/\jA 58 4 T/\T.es=c.ts.map qCS/\jA 62 7 M/\M.es=c.ns.map kY
def iI (c:Dc):Prop:=vV c.ts c.ns/\c.ts.length<=6/\c.ns.length<=14
def qBS (X:D) (cs:List Dc):Prop:=jA 56 7 X/\X.es.length=cs.length/\∀ (i:Nat) (c:Dc),cs[i]? = some c->∃ d,X.es[i]? = some d/\qUa d c
theorem qGf {c:Dc} (h:iI c):jZ c.ts 2 < ((7:Nat):Int):=by
 have:=h.2.1
 rcases dK c.ts 2 with e | e
 ·omega
 omega
theorem qEL {c:Dc} (h:iI c):(wP jI 7 c).length<=14:=by
 unfold wP
 rw [List.length_map]
 have:=h.2.1
 rcases dK c.ts 2 with e | e
 ·rw [e,qCi (by decide)]; exact Nat.zero_le _
 exact lT (qGs h.1 e.1 (by omega) e.2) h.2.2
attribute [local irreducible] Go.Am.wp Go.Am.TOp.eval
theorem qUw {X:D} {cs:List Dc} (hX:qBS X cs) (hc:∀ c∈cs,iI c) (h2:cs.length<=2):Holds EE 19 [X] (zC 97 3 ((cs.flatMap (wP jI 7)).map sY)):=by
 obtain ⟨i_X,hl,hX⟩:=hX
 refine qU7 rfl (qH.step' ?_)
 refine bS (qQ i_X) ?_
 refine qE rfl (vI (P:=fun i:Nat=>i<=cs.length->∀ os:List D,os.length<=i * 14->qH EE (Holds EE) qF3 1 [zC 97 3 os,X,dI ((X.es.length:Nat):Int),dI ((i:Nat):Int)] (zC 97 3 (os++((cs.drop i).flatMap (wP jI 7)).map sY))) cs.length (fun i ih=>?_) 0 (Nat.zero_le _) [] (Nat.zero_le _))
 intro hi os hos
 refine qH.step' ?_
 refine bS qJ ?_
 refine iC (fun q=>?_) fun q=>?_
 ·have hil:i < cs.length:=by have:=j0 q; omega
  obtain ⟨c,h_c⟩:∃ c,cs[i]? = some c:=⟨_,List.getElem?_eq_getElem hil⟩
  have hg:=hc c (List.mem_of_getElem? h_c)
  obtain ⟨d,e_x,nm,ln,dy,sp,T,M,rfl,h_nm,h_sp,i_T,hT,i_M,hM⟩:=hX i c h_c
  have hdr:os++((cs.drop i).flatMap (wP jI 7)).map sY=(os++(wP jI 7 c).map sY)++((cs.drop (i+1)).flatMap (wP jI 7)).map sY:=by rw [vZ h_c,List.flatMap_cons,List.map_append,List.append_assoc]
  rw [hdr]
  have hwl:=qEL hg
  have ihp:=ih hil hil (os++(wP jI 7 c).map sY) (by rw [List.length_append,List.length_map]; omega)
  have k38:=qVs (r:=2) i_T hT (by decide) (by have:=hg.2.1; omega)
  have k37:=qVt (di:=c.id) (ln:=ln) (dy:=dy) h_nm h_sp i_T hT i_M hM (by have:=hg.2.2; omega) hg.1 7 (jZ c.ts 2) (qGf hg)
  have k39:=fun r:Int=>qVr (di:=c.id) (ln:=ln) (dy:=dy) (r:=r) h_nm h_sp i_T.one i_M hM (by have:=hg.2.2; omega)
  have hw:wP jI 7 c=(qAL jI c.ts c.ns 7 (jZ c.ts 2)).map fun n=>((c.id,n.id),(gd c.ns n.id).tx):=rfl
  rw [hw] at ihp hwl ⊢
  rw [List.length_map] at hwl
  generalize qAL jI c.ts c.ns 7 (jZ c.ts 2)=l at *
  generalize ((cs.drop (i+1)).flatMap (wP jI 7)).map sY=rest at *
  generalize jZ c.ts 2=ro at *
  obtain ⟨K,hK⟩:∃ K,K=zC 3 1 (l.map l5):=⟨_,rfl⟩
  have i_K:jA 3 1 K:=by rw [hK]; exact qBq (by rw [List.length_map]; omega)
  have hKe:K.es=l.map l5:=by rw [hK,gF]
  have hKl:K.es.length=l.length:=by rw [hKe,List.length_map]
  rw [← hK] at k37
  refine bS (qP (s:=((i:Nat):Int)) (by omega) e_x) ?_
  refine bS (qZ (s:=((i:Nat):Int)) i_X (by omega) e_x rfl) ?_
  refine bS (qI rfl) ?_
  refine bS (qA (off:=5) rfl i_T.one) ?_
  refine cS k38 ?_
  refine cS k37 ?_
  refine bS (qQ i_K) ?_
  refine qE rfl (vI (P:=fun j:Nat=>j<=l.length->qH EE (Holds EE) qF3 2 [zC 97 3 (os++((l.take j).map fun n=>(((c.id,n.id),(gd c.ns n.id).tx):Wd)).map sY),X,dI ((X.es.length:Nat):Int),dI ((i:Nat):Int),K,dI ((K.es.length:Nat):Int),dI ((j:Nat):Int),.agg [dI c.id,nm,dI ln,dI dy,sp,T,M]] (zC 97 3 ((os++(l.map fun n=>(((c.id,n.id),(gd c.ns n.id).tx):Wd)).map sY)++rest))) l.length (fun j ihj=>?_) 0 (Nat.zero_le _) |> fun h=>by rw [List.take_zero,List.map_nil,List.map_nil,List.append_nil] at h; exact h)
  intro hj
  refine qH.step' ?_
  refine bS qJ ?_
  refine iC (fun g=>?_) fun g=>?_
  ·have hjl:j < l.length:=by have:=j0 g; omega
   obtain ⟨n,h_n,e_y⟩:=jX hKe hjl
   have e_y:K.es[j]? = some (dI n.id):=e_y
   have ihj:=ihj hjl hjl
   have htk:l.take (j+1)=l.take j++[n]:=by rw [List.take_add_one,h_n]; rfl
   rw [htk,List.map_append,List.map_append,← List.append_assoc] at ihj
   have ap:=qFQ (l:=os++((l.take j).map fun n=>(((c.id,n.id),(gd c.ns n.id).tx):Wd)).map sY) (w:=((c.id,n.id),(gd c.ns n.id).tx)) (by rw [List.length_append,List.length_map,List.length_map,List.length_take]; omega)
   have lt:=qTs (w:=((c.id,n.id),(gd c.ns n.id).tx))
   have k39:=k39 n.id
   unfold mV at k39
   generalize (yL c.ns n.id).isSome=sb at k39
   have e1:(yL c.ns n.id).getD zN=gd c.ns n.id:=rfl
   rw [e1] at k39
   have ihj:qH EE (Holds EE) qF3 2 [zC 97 3 ((os++((l.take j).map fun n=>(((c.id,n.id),(gd c.ns n.id).tx):Wd)).map sY)++[sY ((c.id,n.id),(gd c.ns n.id).tx)]),X,dI ((X.es.length:Nat):Int),dI ((i:Nat):Int),K,dI ((K.es.length:Nat):Int),dI ((j+1:Nat):Int),.agg [dI c.id,nm,dI ln,dI dy,sp,T,M]] _:=ihj
   generalize zC 97 3 ((os++((l.take j).map fun n=>(((c.id,n.id),(gd c.ns n.id).tx):Wd)).map sY)++[sY ((c.id,n.id),(gd c.ns n.id).tx)])=R1 at *
   generalize zC 97 3 (os++((l.take j).map fun n=>(((c.id,n.id),(gd c.ns n.id).tx):Wd)).map sY)=R0 at *
   generalize gd c.ns n.id=gn at *
   obtain ⟨xi,xt,xp,xf,xo,xr,xx⟩:=gn
   refine bS (qP (s:=((j:Nat):Int)) (by omega) e_y) ?_
   refine bS (jE (s:=((j:Nat):Int)) i_K (by omega) e_y rfl) ?_
   refine cS k39 ?_
   refine bS (vP rfl) ?_
   refine bS (vP rfl) ?_
   refine bS (qI rfl) ?_
   refine bS (qA (off:=0) rfl rfl) ?_
   refine bS (qA (off:=6) rfl rfl) ?_
   refine bS (qI rfl) ?_
   refine bS lt ?_
   refine bS ap ?_
   refine bS (d:=dI ((j+1:Nat):Int)) (qT (qO (by omega))) ?_
   exact qE rfl ihj
  have:=vX g
  have ht:l.take j=l:=List.take_of_length_le (by omega)
  rw [ht]
  refine bS (d:=dI ((i+1:Nat):Int)) (qT (qO (by omega))) ?_
  exact qE rfl ihp
 have:=vX q
 have hd:cs.drop i=[]:=List.drop_of_length_le (by omega)
 rw [hd]
 exact qM rfl (congrArg (zC 97 3) (List.append_nil os).symm)
end Go.Proofs.YthhlmoidofecpaaGreat
namespace Go.Proofs.YthhlmoidofecpaaGreat
open Go Go.Am Go.Proofs Go.Am.Tr
theorem qLr {w:Wd} {l:List Wd} {r:Pr}:qIo (w::l) r=bif decide (w.1=r) then some w.2 else qIo l r:=by
 unfold qIo
 rw [List.find?_cons]
 cases decide (w.1=r) <;> rfl
attribute [local irreducible] Go.Am.wp Go.Am.TOp.eval
theorem qVy {X:D} {cs:List Dc} (hX:qBS X cs) (hc:∀ c∈cs,iI c) (h2:cs.length<=2) (hw:(cs.flatMap (wP jI 7)).length<=1000):Holds EE 10 [X] (zC 24 2 (((cs.flatMap (wP jI 7)).map (·.1)).map toR)):=by
 have k19:=qUw hX hc h2
 have i_X:=hX.1
 generalize cs.flatMap (wP jI 7)=l at *
 obtain ⟨K,hK⟩:∃ K,K=zC 97 3 (l.map sY):=⟨_,rfl⟩
 have i_K:jA 97 3 K:=by rw [hK]; exact qBq (by rw [List.length_map]; omega)
 have hKe:K.es=l.map sY:=by rw [hK,gF]
 have hKl:K.es.length=l.length:=by rw [hKe,List.length_map]
 rw [← hK] at k19
 refine qUk rfl (qH.step' ?_)
 refine cS k19 ?_
 refine bS (qQ i_K) ?_
 refine qE rfl (vI (P:=fun j:Nat=>j<=l.length->∀ os:List D,os.length<=j->qH EE (Holds EE) qOk 1 [zC 24 2 os,K,dI ((K.es.length:Nat):Int),dI ((j:Nat):Int)] (zC 24 2 (os++((l.drop j).map (·.1)).map toR))) l.length (fun j ih=>?_) 0 (Nat.zero_le _) [] (Nat.zero_le _))
 intro hj os hos
 refine qH.step' ?_
 refine bS qJ ?_
 refine iC (fun g=>?_) fun g=>?_
 ·have hjl:j < l.length:=by have:=j0 g; omega
  obtain ⟨w,h_n,e_y⟩:=jX hKe hjl
  have hdr:os++((l.drop j).map (·.1)).map toR=(os++[toR w.1])++((l.drop (j+1)).map (·.1)).map toR:=by rw [vZ h_n,List.append_assoc]; rfl
  rw [hdr]
  have ihp:=ih hjl hjl (os++[toR w.1]) (by rw [List.length_append]; show _+1<=_; omega)
  obtain ⟨⟨w1,w2⟩,w3⟩:=w
  have e_y:K.es[j]? = some (.agg [dI w1,dI w2,.leaf (.string w3)]):=e_y
  refine bS (qP (s:=((j:Nat):Int)) (by omega) e_y) ?_
  refine bS (qZ (s:=((j:Nat):Int)) i_K (by omega) e_y rfl) ?_
  refine bS (qI rfl) ?_
  refine bS (pF (off:=0) (size:=2) rfl) ?_
  refine bS (qI rfl) ?_
  refine bS (qRZ (p:=(w1,w2))) ?_
  refine bS (d:=zC 24 2 (os++[toR (w1,w2)])) (qSw (by omega)) ?_
  refine bS (d:=dI ((j+1:Nat):Int)) (qT (qO (by omega))) ?_
  exact qE rfl ihp
 have:=vX g
 have hd:l.drop j=[]:=List.drop_of_length_le (by omega)
 rw [hd]
 exact qM rfl (congrArg (zC 24 2) (List.append_nil os).symm)
theorem h7 {X:D} {cs:List Dc} {r1 r2:Int} (hX:qBS X cs) (hc:∀ c∈cs,iI c) (h2:cs.length<=2) (hw:(cs.flatMap (wP jI 7)).length<=1000):Holds EE 7 [X,.agg [dI r1,dI r2]] (qRy (qIo (cs.flatMap (wP jI 7)) (r1,r2))):=by
 have k19:=qUw hX hc h2
 have i_X:=hX.1
 generalize cs.flatMap (wP jI 7)=l at *
 obtain ⟨K,hK⟩:∃ K,K=zC 97 3 (l.map sY):=⟨_,rfl⟩
 have i_K:jA 97 3 K:=by rw [hK]; exact qBq (by rw [List.length_map]; omega)
 have hKe:K.es=l.map sY:=by rw [hK,gF]
 have hKl:K.es.length=l.length:=by rw [hKe,List.length_map]
 rw [← hK] at k19
 refine u7 rfl (qH.step' ?_)
 refine bS (qI rfl) ?_
 refine cS k19 ?_
 refine bS (qQ i_K) ?_
 refine qE rfl (vI (P:=fun j:Nat=>j<=l.length->qH EE (Holds EE) qQZ 1 [K,dI ((K.es.length:Nat):Int),dI ((j:Nat):Int),.agg [dI r1,dI r2]] (qRy (qIo (l.drop j) (r1,r2)))) l.length (fun j ih=>?_) 0 (Nat.zero_le _))
 intro hj
 refine qH.step' ?_
 refine bS qJ ?_
 refine iC (fun g=>?_) fun g=>?_
 ·have hjl:j < l.length:=by have:=j0 g; omega
  obtain ⟨w,h_n,e_y⟩:=jX hKe hjl
  have ihp:=ih hjl hjl
  rw [vZ h_n,qLr]
  obtain ⟨⟨w1,w2⟩,w3⟩:=w
  have e_y:K.es[j]? = some (.agg [dI w1,dI w2,.leaf (.string w3)]):=e_y
  refine bS (qP (s:=((j:Nat):Int)) (by omega) e_y) ?_
  refine bS (qZ (s:=((j:Nat):Int)) i_K (by omega) e_y rfl) ?_
  refine bS (qI rfl) ?_
  refine bS (pF (off:=0) (size:=2) rfl) ?_
  refine bS qVI ?_
  refine iC (fun f=>?_) fun f=>?_
  ·rw [show decide (((w1,w2),w3).1=(r1,r2))=true from f]
   refine bS (qA (off:=2) rfl rfl) ?_
   exact yN rfl rfl
  rw [show decide (((w1,w2),w3).1=(r1,r2))=false from f]
  refine bS (d:=dI ((j+1:Nat):Int)) (qT (qO (by omega))) ?_
  exact qE rfl ihp
 have:=vX g
 have hd:l.drop j=[]:=List.drop_of_length_le (by omega)
 rw [hd]
 exact yN rfl rfl
theorem h9 {l:List D} {K:D} (hK:K.es=l) (i_K:jA 24 2 K) (hp:∀ x∈l,∃ p:Pr,x=toR p) (hn:l.length<=1000):Holds EE 9 [K,K] (dB true):=by
 refine u9 rfl (qH.step' ?_)
 refine bS (qQ i_K) ?_
 refine bS (qQ i_K) ?_
 refine bS zR ?_
 refine iC (fun c=>?_) fun c=>?_
 ·exact absurd rfl (dT c)
 refine qE rfl (vI (P:=fun j:Nat=>j<=l.length->qH EE (Holds EE) qQN 1 [K,K,dI ((j:Nat):Int)] (dB true)) l.length (fun j ih=>?_) 0 (Nat.zero_le _))
 intro hj
 refine qH.step' ?_
 refine bS (qQ i_K) ?_
 refine bS qJ ?_
 refine iC (fun g=>?_) fun g=>?_
 ·have hjl:j < l.length:=by have:=j0 g; rw [hK] at this; exact this
  obtain ⟨⟨p1,p2⟩,hx⟩:=hp l[j] (List.getElem_mem hjl)
  have e_y:K.es[j]? = some (.agg [dI p1,dI p2]):=by rw [hK,List.getElem?_eq_getElem hjl,hx]; rfl
  refine bS (qP (s:=((j:Nat):Int)) (by omega) e_y) ?_
  refine bS (qZ (s:=((j:Nat):Int)) i_K (by omega) e_y rfl) ?_
  refine bS (qP (s:=((j:Nat):Int)) (by omega) e_y) ?_
  refine bS (qZ (s:=((j:Nat):Int)) i_K (by omega) e_y rfl) ?_
  refine bS qVk ?_
  refine qC (t:=false) rfl ?_
  refine zB ?_
  refine bS (d:=dI ((j+1:Nat):Int)) (qT (qO (by omega))) ?_
  exact qE rfl (ih hjl hjl)
 exact qM rfl rfl
theorem qVx {X:D} {cs:List Dc} (hX:qBS X cs) (hc:∀ c∈cs,iI c) (h2:cs.length<=2):Holds EE 11 [X] (zC 24 2 ((cs.flatMap (wR 7)).map toR)):=by
 have hX0:=hX
 obtain ⟨i_X,hl,hX⟩:=hX
 have wRl:∀ c∈cs,(wR 7 c).length<=14:=fun c hcm=>by
  have hg:=hc c hcm
  rw [← qQK hg.1 aU (by have:=hg.2.1; omega),List.length_map]
  exact qEL hg
 refine qU9 rfl (qH.step' ?_)
 refine qE rfl (vI (P:=fun i:Nat=>i<=cs.length->∀ os:List D,os.length<=i * 14->qH EE (Holds EE) qF4 1 [X,zC 24 2 os,dI ((i:Nat):Int)] (zC 24 2 (os++((cs.drop i).flatMap (wR 7)).map toR))) cs.length (fun i ih=>?_) 0 (Nat.zero_le _) [] (Nat.zero_le _))
 intro hi os hos
 refine qH.step' ?_
 refine bS (qQ i_X) ?_
 refine bS qJ ?_
 refine iC (fun q=>?_) fun q=>?_
 ·have hil:i < cs.length:=by have:=j0 q; omega
  obtain ⟨c,h_c⟩:∃ c,cs[i]? = some c:=⟨_,List.getElem?_eq_getElem hil⟩
  have hcm:=List.mem_of_getElem? h_c
  have hg:=hc c hcm
  obtain ⟨d,e_x,nm,ln,dy,sp,T,M,rfl,h_nm,h_sp,i_T,hT,i_M,hM⟩:=hX i c h_c
  have hdr:os++((cs.drop i).flatMap (wR 7)).map toR=(os++(wR 7 c).map toR)++((cs.drop (i+1)).flatMap (wR 7)).map toR:=by rw [vZ h_c,List.flatMap_cons,List.map_append,List.append_assoc]
  rw [hdr]
  have hwl:=wRl c hcm
  have ihp:=ih hil hil (os++(wR 7 c).map toR) (by rw [List.length_append,List.length_map]; omega)
  have k21:=qUv (r:=2) i_T hT (by decide) (by have:=hg.2.1; omega)
  have hrl:=qGf hg
  have hri:=dK c.ts 2
  have hw:wR 7 c=bif decide (jZ c.ts 2 < 0) then [] else (qPx c.ts c.ns 7 (jZ c.ts 2)).map fun n=>(c.id,n.id):=rfl
  have k22:=fun (h0:0<=jZ c.ts 2) (h1:jZ c.ts 2 < (c.ts.length:Int))=>qVv (di:=c.id) (ln:=ln) (dy:=dy) h_nm h_sp i_T hT i_M hM (by have:=hg.2.2; omega) hg.1 (k:=7) h0 hrl h1
  rw [hw] at ihp hwl ⊢
  generalize qPx c.ts c.ns 7 (jZ c.ts 2)=l at *
  generalize ((cs.drop (i+1)).flatMap (wR 7)).map toR=rest at *
  generalize jZ c.ts 2=ro at *
  refine bS (qP (s:=((i:Nat):Int)) (by omega) e_x) ?_
  refine bS (zI (s:=((i:Nat):Int)) (off:=5) i_X (by omega) e_x rfl i_T.one (by decide)) ?_
  refine cS k21 ?_
  refine bS qJ ?_
  refine iC (fun m=>?_) fun m=>?_
  ·rw [show decide (ro < 0)=true from m] at ihp ⊢
   rw [show (bif true then ([]:List Pr) else l.map fun n=>(c.id,n.id))=[] from rfl,List.map_nil,List.append_nil] at ihp ⊢
   refine bS (d:=dI ((i+1:Nat):Int)) (qT (qO (by omega))) ?_
   exact qE rfl ihp
  have m1:¬ ro < 0:=dF m
  rw [show decide (ro < 0)=false from m] at ihp hwl ⊢
  have hb:(bif false then ([]:List Pr) else l.map fun n=>(c.id,n.id))=l.map fun n=>(c.id,n.id):=rfl
  rw [hb] at ihp hwl ⊢
  rw [List.length_map] at hwl
  have k22:=k22 (by omega) (by rcases hri with e | e <;> omega)
  obtain ⟨K,hK⟩:∃ K,K=D.sl 3 1 (l.map l5):=⟨_,rfl⟩
  have i_K:jA 3 1 K:=by rw [hK]; exact .inr ⟨_,rfl,by rw [List.length_map]; unfold zG; omega⟩
  have hKe:K.es=l.map l5:=by rw [hK]; rfl
  have hKl:K.es.length=l.length:=by rw [hKe,List.length_map]
  rw [← hK] at k22
  refine bS (qP (s:=((i:Nat):Int)) (by omega) e_x) ?_
  refine bS (qZ (s:=((i:Nat):Int)) i_X (by omega) e_x rfl) ?_
  refine cS k22 ?_
  refine qE rfl (vI (P:=fun j:Nat=>j<=l.length->qH EE (Holds EE) qF4 2 [X,zC 24 2 (os++((l.take j).map fun n=>((c.id,n.id):Pr)).map toR),dI ((i:Nat):Int),K,dI ((j:Nat):Int)] (zC 24 2 ((os++(l.map fun n=>((c.id,n.id):Pr)).map toR)++rest))) l.length (fun j ihj=>?_) 0 (Nat.zero_le _) |> fun h=>by rw [List.take_zero,List.map_nil,List.map_nil,List.append_nil] at h; exact h)
  intro hj
  refine qH.step' ?_
  refine bS (qQ i_K) ?_
  refine bS qJ ?_
  refine iC (fun g=>?_) fun g=>?_
  ·have hjl:j < l.length:=by have:=j0 g; omega
   obtain ⟨n,h_n,e_y⟩:=jX hKe hjl
   have e_y:K.es[j]? = some (dI n.id):=e_y
   have ihj:=ihj hjl hjl
   have htk:l.take (j+1)=l.take j++[n]:=by rw [List.take_add_one,h_n]; rfl
   rw [htk,List.map_append,List.map_append,← List.append_assoc] at ihj
   have ap:=qSw (l:=os++((l.take j).map fun n=>((c.id,n.id):Pr)).map toR) (p:=(c.id,n.id)) (by rw [List.length_append,List.length_map,List.length_map,List.length_take]; omega)
   have ihj:qH EE (Holds EE) qF4 2 [X,zC 24 2 ((os++((l.take j).map fun n=>((c.id,n.id):Pr)).map toR)++[toR (c.id,n.id)]),dI ((i:Nat):Int),K,dI ((j+1:Nat):Int)] _:=ihj
   generalize zC 24 2 ((os++((l.take j).map fun n=>((c.id,n.id):Pr)).map toR)++[toR (c.id,n.id)])=R1 at *
   generalize zC 24 2 (os++((l.take j).map fun n=>((c.id,n.id):Pr)).map toR)=R0 at *
   refine bS (qP (s:=((i:Nat):Int)) (by omega) e_x) ?_
   refine bS (zI (s:=((i:Nat):Int)) (off:=0) i_X (by omega) e_x rfl rfl (by decide)) ?_
   refine bS (qP (s:=((j:Nat):Int)) (by omega) e_y) ?_
   refine bS (jE (s:=((j:Nat):Int)) i_K (by omega) e_y rfl) ?_
   refine bS (qI rfl) ?_
   refine bS (qRZ (p:=(c.id,n.id))) ?_
   refine bS ap ?_
   refine bS (d:=dI ((j+1:Nat):Int)) (qT (qO (by omega))) ?_
   exact qE rfl ihj
  have:=vX g
  have ht:l.take j=l:=List.take_of_length_le (by omega)
  rw [ht]
  refine bS (d:=dI ((i+1:Nat):Int)) (qT (qO (by omega))) ?_
  exact qE rfl ihp
 have:=vX q
 have hd:cs.drop i=[]:=List.drop_of_length_le (by omega)
 rw [hd]
 exact qM rfl (congrArg (zC 24 2) (List.append_nil os).symm)
theorem qIV {c:Dc} {l:List Dc} {r:Pr}:qK8 (c::l) r=(qOW c r).or (qK8 l r):=by
 unfold qK8
 rw [List.findSome?_cons]
 cases qOW c r <;> rfl
theorem h8 {X : D} {cs : List Dc} {r1 r2 : Int} (hX : qBS X cs) (hc : ∀ c ∈ cs, iI c) (h2 : cs.length <= 2) : Holds EE 8 [X, .agg [dI r1, dI r2]] (qRy (qK8 cs (r1, r2))) := by
  obtain ⟨i_X, hl, hX⟩ := hX
  refine u8 rfl (qH.step' ?_)
  refine bS (qI rfl) ?_
  refine qE rfl (vI (P := fun i : Nat => i <= cs.length -> qH EE (Holds EE) qQQ 1 [X, dI ((i : Nat) : Int), .agg [dI r1, dI r2]] (qRy (qK8 (cs.drop i) (r1, r2)))) cs.length (fun i ih => ?_) 0 (Nat.zero_le _))
  intro hi
  refine qH.step' ?_
  refine bS (qQ i_X) ?_
  refine bS qJ ?_
  refine iC (fun q=>?_) fun q=>?_
  · have hil : i < cs.length := by have := j0 q; omega
    obtain ⟨c, h_c⟩ : ∃ c, cs[i]? = some c := ⟨_, List.getElem?_eq_getElem hil⟩
    have hg := hc c (List.mem_of_getElem? h_c)
    obtain ⟨d, e_x, nm, ln, dy, sp, T, M, rfl, h_nm, h_sp, i_T, hT, i_M, hM⟩ := hX i c h_c
    rw [vZ h_c, qIV]
    have ihp := ih hil hil
    have k21 := qUv (r := 2) i_T hT (by decide) (by have := hg.2.1; omega)
    have k20 := qOD (di := c.id) (ln := ln) (dy := dy) (r := r2) h_nm h_sp i_T.one i_M hM (by have := hg.2.2; omega)
    have ht : qOW c (r1, r2) = bif decide (c.id = r1) then (match yL c.ns r2 with
      | some n => bif decide (n.ti = jZ c.ts 2) then some n.tx else none
      | none => none) else none := rfl
    rw [ht]
    generalize qK8 (cs.drop (i + 1)) (r1, r2) = rest at *
    generalize jZ c.ts 2 = ro at *
    unfold mV at k20
    refine bS (qP (s := ((i : Nat) : Int)) (by omega) e_x) ?_
    refine bS (zI (s := ((i : Nat) : Int)) (off := 0) i_X (by omega) e_x rfl rfl (by decide)) ?_
    refine bS (qA (off := 0) rfl rfl) ?_
    refine bS zR ?_
    refine iC (fun m=>?_) fun m=>?_
    · rw [show decide (c.id = r1) = false from fD (dT m)]
      refine bS (d := dI ((i + 1 : Nat) : Int)) (qT (qO (by omega))) ?_
      exact qE rfl ihp
    · rw [show decide (c.id = r1) = true from tD (Decidable.byContradiction fun h => by rw [tD h] at m; cases m)]
      cases hgn : yL c.ns r2 with
      | none =>
        rw [hgn] at k20
        refine bS (qP (s := ((i : Nat) : Int)) (by omega) e_x) ?_
        refine bS (qZ (s := ((i : Nat) : Int)) i_X (by omega) e_x rfl) ?_
        refine bS (qA (off := 1) rfl rfl) ?_
        refine cS k20 ?_
        refine bS (vP rfl) ?_
        refine bS (vP rfl) ?_
        refine bS (qI rfl) ?_
        refine qC (t := false) rfl ?_
        refine zB ?_
        refine bS (d := dI ((i + 1 : Nat) : Int)) (qT (qO (by omega))) ?_
        exact qE rfl ihp
      | some n =>
        rw [hgn] at k20
        obtain ⟨xi, xt, xp, xf, xo, xr, xx⟩ := n
        refine bS (qP (s := ((i : Nat) : Int)) (by omega) e_x) ?_
        refine bS (qZ (s := ((i : Nat) : Int)) i_X (by omega) e_x rfl) ?_
        refine bS (qA (off := 1) rfl rfl) ?_
        refine cS k20 ?_
        refine bS (vP rfl) ?_
        refine bS (vP rfl) ?_
        refine bS (qI rfl) ?_
        refine qC (t := true) rfl ?_
        refine zQ ?_
        refine bS (qA (off := 1) rfl rfl) ?_
        refine bS (qP (s := ((i : Nat) : Int)) (by omega) e_x) ?_
        refine bS (zI (s := ((i : Nat) : Int)) (off := 5) i_X (by omega) e_x rfl i_T.one (by decide)) ?_
        refine cS k21 ?_
        refine bS zJ ?_
        refine iC (fun f=>?_) fun f=>?_
        · have hb : (bif true then (match some (⟨xi, xt, xp, xf, xo, xr, xx⟩ : Nt) with
            | some n => bif decide (n.ti = ro) then some n.tx else none
            | none => none) else none).or rest = some xx := by
            show ((bif decide (xt = ro) then some xx else none) : Option ByteArray).or rest = some xx
            rw [show decide (xt = ro) = true from f]; rfl
          rw [hb]
          refine bS (qA (off := 6) rfl rfl) ?_
          exact yN rfl rfl
        · have hb : (bif true then (match some (⟨xi, xt, xp, xf, xo, xr, xx⟩ : Nt) with
            | some n => bif decide (n.ti = ro) then some n.tx else none
            | none => none) else none).or rest = rest := by
            show ((bif decide (xt = ro) then some xx else none) : Option ByteArray).or rest = rest
            rw [show decide (xt = ro) = false from f]; rfl
          rw [hb]
          refine bS (d := dI ((i + 1 : Nat) : Int)) (qT (qO (by omega))) ?_
          exact qE rfl ihp
  · have := vX q
    have hd : cs.drop i = [] := List.drop_of_length_le (by omega)
    rw [hd]
    exact yN rfl rfl
end Go.Proofs.YthhlmoidofecpaaGreat
