/- Data checked symbolically: the arguments of a step. Conditions: none. -/
import Derived.Test.YthhlmoidofecpaaGreatTt
import Derived.Test.YthhlmoidofecpaaGreatAm7
set_option linter.unusedVariables false
set_option linter.unusedSimpArgs false
namespace Go.Am.Tt
open Go Go.Am
def qKl:vY:=(0,0,-1)
def Grow (σ:Wd) (r:Cx × Y) (d:D):Prop:=∃ τ,COk (σ++τ) r.1/\qU (σ++τ) r.2 d
def qK5 (σ:Wd) (r:Cx × List Y) (ds:List D):Prop:=∃ τ,COk (σ++τ) r.1/\qR (σ++τ) r.2 ds
theorem Grow.here {σ:Wd} {C:Cx} {y:Y} {d:D} (hC:COk σ C) (h:qU σ y d):Grow σ (C,y) d:=⟨[],yJ hC,by rw [List.append_nil]; exact h⟩
theorem Grow.st {σ:Wd} {r:Cx × List Y} {ds:List D} (h:qK5 σ r ds):Grow σ (r.1,.st r.2) (.agg ds):=by
 obtain ⟨τ,h1,h2⟩:=h
 exact ⟨τ,h1,by simp only [qU]; exact ⟨ds,rfl,h2⟩⟩
def qJf {α:Type} (f:Cx->α->Option (Cx × Y)):Cx->List α->Option (Cx × List Y)
 | C,[]=>some (C,[])
 | C,x::r=>match f C x with
  | some (C1,y)=>(match qJf f C1 r with
   | some (C2,ys)=>some (C2,y::ys)
   | none=>none)
  | none=>none
theorem qF8 {α:Type} {f:Cx->α->Option (Cx × Y)} {g:α->D} {P:Wd->Prop} (hP:∀ {σ τ},P σ->P (σ++τ)) :
  ∀ (l:List α),(∀ x∈l,∀ {σ C r},P σ->COk σ C->f C x=some r->Grow σ r (g x))->∀ {σ C r},P σ->COk σ C->qJf f C l=some r->qK5 σ r (l.map g)
 | [],_,σ,C,r,_,hC,h=>by
  simp only [qJf] at h; cases h
  exact ⟨[],yJ hC,by simp only [List.map_nil,qR]⟩
 | x::l,hf,σ,C,r,hp,hC,h=>by
  simp only [qJf] at h
  split at h
  ·rename_i C1 y hy
   split at h
   ·rename_i C2 ys hys
    cases h
    obtain ⟨τ,h1,h2⟩:=hf x List.mem_cons_self hp hC hy
    obtain ⟨τ',h3,h4⟩:=qF8 hP l (fun z hz=>hf z (mC _ hz)) (hP hp) h1 hys
    refine ⟨τ++τ',by rw [← List.append_assoc]; exact h3,?_⟩
    simp only [List.map_cons,qR]
    refine ⟨_,_,rfl,?_,?_⟩
    ·rw [← List.append_assoc]; exact oQ h2
    rw [← List.append_assoc]; exact h4
   cases h
  cases h
def qMH (C:Cx):Value->Option (Cx × Y)
 | .int k n=>some (C,.int k 0 n)
 | .bool b=>some (C,.bool (bif b then [] else [qKl]) (bif b then [qKl] else []))
 | .slice none _ _=>some (C,.nil)
 | .string s=>some (C.add [(C.nx,0,(s.size:Int)),(0,C.nx,-(s.size:Int))] [(C.nx,s.size)] [] 1,.str C.nx s.size)
 | _=>none
def qMG:Nat->Cx->Value->Option (Cx × Y)
 | 0,C,v=>qMH C v
 | n+1,C,v=>match v with
  | .agg cs=>(match qJf (qMG n) C cs.toList with
   | some (C',ys)=>some (C',.st ys)
   | none=>none)
  | v=>qMH C v
theorem qGY {σ:Wd} {C:Cx} (hC:COk σ C) {v:Value} {r:Cx × Y} (h:qMH C v=some r) (n:Nat):Grow σ r (fF n v):=by
 obtain ⟨z,hz⟩:=hC.s.z
 unfold qMH at h
 split at h
 ·cases h
  have:∀ n (k:IntKind) (x:Int),fF n (.int k x)=.leaf (.int k x):=fun n k x=>by cases n <;> rfl
  rw [this]
  refine .here hC ?_
  simp only [qU]
  exact ⟨_,hz,by simp⟩
 ·rename_i b
  cases h
  have:∀ n (b:Bool),fF n (.bool b)=.leaf (.bool b):=fun n b=>by cases n <;> rfl
  rw [this]
  refine .here hC ?_
  simp only [qU]
  refine ⟨b,rfl,fun hb q hq=>?_,fun hb q hq=>?_⟩ <;> subst hb <;> cases hq
 ·cases h
  have:∀ n (a b:Nat),fF n (.slice none a b)=.nil:=fun n a b=>by cases n <;> rfl
  rw [this]
  refine .here hC ?_
  simp only [qU]
 ·rename_i s
  cases h
  have:∀ n (s:ByteArray),fF n (.string s)=.leaf (.string s):=fun n s=>by cases n <;> rfl
  rw [this]
  refine ⟨[((s.size:Int),.nil)],hC.ext (f2 ⟨_,_,get_new hC _,z6 hz,by simp only; omega⟩ ⟨_,_,z6 hz,get_new hC _,by simp only; omega⟩) (fun q hq=>?_) (by simp) rfl,?_⟩
  ·rw [List.mem_singleton] at hq; subst hq
   exact ⟨_,get_new hC _,by simp,by simp⟩
  simp only [qU]
  exact ⟨s,_,rfl,get_new hC _,rfl,lR _⟩
 cases h
theorem qCG:∀ (n:Nat) {σ:Wd} {C:Cx} {v:Value} {r:Cx × Y},COk σ C->qMG n C v=some r->Grow σ r (fF n v)
 | 0,σ,C,v,r,hC,h=>qGY hC h 0
 | n+1,σ,C,v,r,hC,h=>by
  simp only [qMG] at h
  split at h
  ·rename_i cs
   split at h
   ·rename_i C' ys hs
    cases h
    have:=qF8 (g:=fF n) (P:=fun _=>True) (fun h=>h) cs.toList (fun x _ {σ C r} _ hC hx=>qCG n hC hx) trivial hC hs
    exact Grow.st this
   cases h
  exact qGY hC h _
theorem getD_some {ρ:List D} {i:Nat} {d:D} (h:ρ[i]? = some d):getD ρ i=d:=by
 unfold getD
 rw [List.getD_eq_getElem?_getD,h]; rfl
mutual
def aQ (env:List Y):Cx->SV->Option (Cx × Y)
 | C,.v i=>match env[i]? with
  | some y=>some (C,y)
  | none=>none
 | C,.c v=>qMG 6 C v
 | C,.agg cs=>match eY env C cs with
  | some (C',ys)=>some (C',.st ys)
  | none=>none
 | C,.fn f a b=>match f,a,b with
  | .func f,[],[]=>some (C,.clo f)
  | _,_,_=>none
 | C,.tup _=>some (C,.any)
 | _,_=>none
def eY (env:List Y):Cx->List SV->Option (Cx × List Y)
 | C,[]=>some (C,[])
 | C,x::r=>match aQ env C x with
  | some (C1,y)=>(match eY env C1 r with
   | some (C2,ys)=>some (C2,y::ys)
   | none=>none)
  | none=>none
end
mutual
theorem qG5 {env:List Y} {ρ:List D}:∀ {x:SV} {σ:Wd} {C:Cx} {r:Cx × Y},COk σ C->qR σ env ρ->aQ env C x=some r->Grow σ r (x.d (getD ρ))
 | .v i,σ,C,r,hC,he,h=>by
  simp only [aQ] at h
  split at h
  ·rename_i y hy
   cases h
   obtain ⟨d,h1,h2⟩:=kR he hy
   simp only [SV.d,getD_some h1]; exact .here hC h2
  cases h
 | .c v,σ,C,r,hC,he,h=>by
  simp only [aQ] at h
  simp only [SV.d]
  exact qCG 6 hC h
 | .agg cs,σ,C,r,hC,he,h=>by
  simp only [aQ] at h
  split at h
  ·rename_i C' ys hs
   cases h
   simp only [SV.d]
   exact Grow.st (nC hC he hs)
  cases h
 | .fn f a b,σ,C,r,hC,he,h=>by
  simp only [aQ] at h
  split at h
  ·cases h
   refine .here hC ?_
   simp only [SV.d,SV.ds,qU]
  cases h
 | .loc _ _,_,_,_,_,_,h=>by simp only [aQ] at h; cases h
 | .ptr _ _ _ _,_,_,_,_,_,h=>by simp only [aQ] at h; cases h
 | .pp _ _,_,_,_,_,_,h=>by simp only [aQ] at h; cases h
 | .tup _,σ,C,r,hC,he,h=>by
  simp only [aQ] at h; cases h
  exact .here hC (by simp only [qU])
 | .ifc _ _,_,_,_,_,_,h=>by simp only [aQ] at h; cases h
theorem nC {env:List Y} {ρ:List D}:∀ {xs:List SV} {σ:Wd} {C:Cx} {r:Cx × List Y},COk σ C->qR σ env ρ->eY env C xs=some r->qK5 σ r (SV.ds (getD ρ) xs)
 | [],σ,C,r,hC,he,h=>by
  simp only [eY] at h; cases h
  exact ⟨[],yJ hC,by simp only [SV.ds,qR]⟩
 | x::l,σ,C,r,hC,he,h=>by
  simp only [eY] at h
  split at h
  ·rename_i C1 y hy
   split at h
   ·rename_i C2 ys hys
    cases h
    obtain ⟨τ,h1,h2⟩:=qG5 hC he hy
    obtain ⟨τ',h3,h4⟩:=nC h1 (zP he) hys
    refine ⟨τ++τ',by rw [← List.append_assoc]; exact h3,?_⟩
    simp only [SV.ds,qR]
    refine ⟨_,_,rfl,?_,?_⟩
    ·rw [← List.append_assoc]; exact oQ h2
    rw [← List.append_assoc]; exact h4
   cases h
  cases h
end
end Go.Am.Tt
namespace Go.Am.Tt
open Go Go.Am
def cU:D->Int
 | .leaf (.int _ n)=>n
 | .leaf (.string s)=>(s.size:Int)
 | d=>(d.es.length:Int)
def qLn:Y->Option (Nat × Int)
 | .int _ v c=>some (v,c)
 | .sl n _ _ _ _=>some (n,0)
 | .str n _=>some (n,0)
 | .nil=>some (0,0)
 | _=>none
theorem qFY {σ:Wd} {C:Cx} (hC:COk σ C) {y:Y} {d:D} {v:Nat} {c:Int} (hd:qU σ y d) (h:qLn y=some (v,c)):∃ x,σ[v]? = some x/\cU d=x.1+c:=by
 obtain ⟨z,hz⟩:=hC.s.z
 cases y <;> simp only [qLn] at h <;> first | (cases h; done) | cases h
 ·simp only [qU] at hd
  obtain ⟨x,hx,rfl⟩:=hd
  exact ⟨x,hx,rfl⟩
 ·simp only [qU] at hd
  obtain ⟨s,x,rfl,hx,hs,_⟩:=hd
  exact ⟨x,hx,by show (s.size:Int)=_; omega⟩
 ·simp only [qU] at hd
  refine ⟨_,hd.1,?_⟩
  have h2:=hd.2
  simp only [vA] at h2
  rcases h2 with rfl | ⟨es,rfl,_⟩
  ·show (0:Int)=_; simp [D.es]
  show ((es.length:Nat):Int)=_; simp [D.es]
 simp only [qU] at hd
 subst hd
 exact ⟨_,hz,by show ((D.nil.es.length:Nat):Int)=_; simp [D.es]⟩
def cR:List Nat->D->D
 | [],d=>d
 | i::r,d=>cR r (match d with | .agg cs=>getD cs i | _=>.nil)
def cQ:List Nat->Y->Option Y
 | [],y=>some y
 | i::r,.st cs=>match cs[i]? with
  | some y=>cQ r y
  | none=>none
 | _::_,_=>none
theorem rF {σ:Wd}:∀ {p:List Nat} {y y':Y} {d:D},qU σ y d->cQ p y=some y'->qU σ y' (cR p d)
 | [],y,y',d,hd,h=>by simp only [cQ] at h; cases h; exact hd
 | i::r,y,y',d,hd,h=>by
  cases y <;> simp only [cQ] at h <;> first | (cases h; done) | skip
  simp only [qU] at hd
  obtain ⟨ds,rfl,hs⟩:=hd
  split at h
  ·rename_i q hq
   obtain ⟨e,he,hr⟩:=kR hs hq
   simp only [cR,getD_some he]
   exact rF hr h
  cases h
inductive Pt where
 | z
 | aT (p:List Nat)
 | el (p q:List Nat) (f:Nat)
def qFw (f:Nat):D->D
 | .agg cs=>getD cs f
 | d=>d
def qFu (f:Nat):Y->Option Y
 | .st cs=>cs[f]?
 | .sl n el sz b e=>some (.sl n el sz b e)
 | .str n b=>some (.str n b)
 | .int k v c=>some (.int k v c)
 | _=>none
theorem qHT {σ:Wd} {f:Nat} {y y':Y} {d:D} (hd:qU σ y d) (h:qFu f y=some y'):qU σ y' (qFw f d):=by
 cases y <;> simp only [qFu] at h <;> first | (cases h; done) | skip
 ·cases h
  have h0:=hd
  simp only [qU] at hd
  obtain ⟨x,_,rfl⟩:=hd
  exact h0
 ·cases h
  have h0:=hd
  simp only [qU] at hd
  obtain ⟨s,x,rfl,_⟩:=hd
  exact h0
 ·cases h
  have h0:=hd
  simp only [qU,vA] at hd
  rcases hd.2 with rfl | ⟨es,rfl,_⟩ <;> exact h0
 simp only [qU] at hd
 obtain ⟨ds,rfl,hs⟩:=hd
 obtain ⟨e,he,hr⟩:=kR hs h
 simp only [qFw,getD_some he]; exact hr
def qFD (d i:D):D:=d.es.getD (cU i).toNat .nil
def qE0 (ds:List D):Pt->Int
 | .z=>0
 | .aT p=>cU (cR p (.agg ds))
 | .el p q f=>cU (qFw f (qFD (cR p (.agg ds)) (cR q (.agg ds))))
def qSh (C:Cx) (f:Nat):Option Y->Option Y->Option (Nat × Int)
 | some (.sl n _ _ _ _),some (.int .i64 v c)=>match qBF C.els n v c with
  | some y=>(match qFu f y with
   | some z=>qLn z
   | none=>none)
  | none=>none
 | _,_=>none
def dH (C:Cx) (ys:List Y):Pt->Option (Nat × Int)
 | .z=>some (0,0)
 | .aT p=>match cQ p (.st ys) with
  | some y=>qLn y
  | none=>none
 | .el p q f=>qSh C f (cQ p (.st ys)) (cQ q (.st ys))
theorem kZ {σ:Wd} {C:Cx} (hC:COk σ C) {ys:List Y} {ds:List D} {p:Pt} {v:Nat} {c:Int} (hd:qR σ ys ds) (h:dH C ys p=some (v,c)):∃ x,σ[v]? = some x/\qE0 ds p=x.1+c:=by
 obtain ⟨z,hz⟩:=hC.s.z
 have hst:qU σ (.st ys) (.agg ds):=by simp only [qU]; exact ⟨ds,rfl,hd⟩
 cases p with
 | z=>simp only [dH] at h; cases h; exact ⟨_,hz,by simp [qE0]⟩
 | aT p =>
  simp only [dH] at h
  split at h
  ·rename_i y hy
   exact qFY hC (rF hst hy) h
  cases h
 | el p q f =>
  simp only [dH] at h
  unfold qSh at h
  split at h
  ·rename_i n _ _ _ _ i ci h1 h2
   split at h
   ·rename_i y hy
    split at h
    ·rename_i w hw
     have a1:=rF hst h1
     have a2:=rF hst h2
     simp only [qU] at a1 a2
     obtain ⟨k,hk,e2⟩:=a2
     obtain ⟨x,d,i',z',g1,g2,g3,g4,g5⟩:=eE hC.e hy
     simp only at g1 g2 g3 g4 g5
     rw [a1.1] at g1; cases g1
     rw [hk] at g2; cases g2
     have ez:qFD (cR p (.agg ds)) (cR q (.agg ds))=z':=by
      unfold qFD
      rw [e2]
      show (cR p (.agg ds)).es.getD (k.1+ci).toNat .nil=z'
      rw [List.getD_eq_getElem?_getD,g4]; rfl
     simp only [qE0,ez]
     exact qFY hC (qHT g5 hw) h
    cases h
   cases h
  cases h
abbrev Cn:=Pt × Pt × Int
def qEj (ds:List D) (q:Cn):Prop:=qE0 ds q.1<=qE0 ds q.2.1+q.2.2
def qSp (C:Cx) (ys:List Y) (q:Cn):Bool:=match dH C ys q.1,dH C ys q.2.1 with
 | some (v,c),some (w,e)=>kK C.F C.L v c w (e+q.2.2)
 | _,_=>false
theorem qFG {σ:Wd} {C:Cx} (hC:COk σ C) {ys:List Y} {ds:List D} {q:Cn} (hd:qR σ ys ds) (h:qSp C ys q=true):qEj ds q:=by
 unfold qSp at h
 split at h
 ·rename_i v c w e h1 h2
  obtain ⟨x,hx,e1⟩:=kZ hC hd h1
  obtain ⟨y,hy,e2⟩:=kZ hC hd h2
  have:=vR hC.s h hx hy
  unfold qEj
  omega
 cases h
def qSq (C:Cx) (ys:List Y) (q:Cn):List vY:=match dH C ys q.1,dH C ys q.2.1 with
 | some (v,c),some (w,e)=>[(v,w,e+q.2.2 - c)]
 | _,_=>[]
theorem qKL {σ:Wd} {C:Cx} (hC:COk σ C) {ys:List Y} {ds:List D} {q:Cn} (hd:qR σ ys ds) (h:qEj ds q):∀ f∈qSq C ys q,eF σ f:=by
 unfold qSq
 split
 ·rename_i v c w e h1 h2
  obtain ⟨x,hx,e1⟩:=kZ hC hd h1
  obtain ⟨y,hy,e2⟩:=kZ hC hd h2
  unfold qEj at h
  exact f1 hx hy (by omega)
 intro f hf; cases hf
def qOt (C:Cx):Option Y->Option Y->Cx
 | some (.sl n _ _ _ e),some (.int .i64 v c)=>match qMk C n e v c with
  | some (C',_)=>C'
  | none=>C
 | _,_=>C
def qGo (C:Cx) (ys:List Y):Pt->Cx
 | .el p q _=>qOt C (cQ p (.st ys)) (cQ q (.st ys))
 | _=>C
theorem qDl (E:Env) {σ:Wd} {C:Cx} (hC:COk σ C) {ys:List Y} {ds:List D} (hd:qR σ ys ds) (p:Pt):∃ τ,COk (σ++τ) (qGo C ys p):=by
 have hst:qU σ (.st ys) (.agg ds):=by simp only [qU]; exact ⟨ds,rfl,hd⟩
 cases p with
 | z=>exact ⟨[],yJ hC⟩
 | aT p=>exact ⟨[],yJ hC⟩
 | el p q f =>
  simp only [qGo]
  unfold qOt
  split
  ·rename_i h1 h2
   split
   ·rename_i C' y hi
    obtain ⟨d,τ,_,h,_⟩:=qJ1 (E:=E) hC (rF hst h1) (rF hst h2) hi
    exact ⟨τ,h⟩
   exact ⟨[],yJ hC⟩
  exact ⟨[],yJ hC⟩
def qMj (ys:List Y):List Cn->Cx->Cx
 | [],C=>C
 | q::r,C=>let C1:=qGo (qGo C ys q.1) ys q.2.1; qMj ys r (C1.add (qSq C1 ys q) [] [] 0)
theorem qCo (E:Env) {ys:List Y} {ds:List D}:∀ {l:List Cn} {σ:Wd} {C:Cx},COk σ C->qR σ ys ds->(∀ q∈l,qEj ds q)->∃ τ,COk (σ++τ) (qMj ys l C)
 | [],σ,C,hC,_,_=>⟨[],yJ hC⟩
 | q::r,σ,C,hC,hd,h=>by
  obtain ⟨τ1,h1⟩:=qDl E hC hd q.1
  obtain ⟨τ2,h2⟩:=qDl E h1 (zP hd) q.2.1
  rw [List.append_assoc] at h2
  have hd2:=zP (τ:=τ1++τ2) hd
  have h3:=h2.facts (qKL h2 hd2 (h q List.mem_cons_self))
  obtain ⟨τ3,h4⟩:=qCo E h3 hd2 fun x hx=>h x (mC _ hx)
  rw [List.append_assoc] at h4
  exact ⟨_,h4⟩
structure Spec where
 ss:List Sn
 rs:List Sn
 pre:List Cn
 post:List Cn
def gX (HS:FuncId->List D->D->Prop) (f:FuncId) (S:Spec):Prop :=
 ∀ ds,zZ S.ss ds->(∀ q∈S.pre,qEj ds q)->∃ rs,zZ S.rs rs/\(∀ q∈S.post,qEj (ds++rs) q)/\HS f ds (mQ rs)
end Go.Am.Tt
namespace Go.Am.Tt
open Go Go.Am
abbrev Ms:=Pt × Pt × Int
def qQB (ds:List D) (m:Ms):Int:=qE0 ds m.1 - qE0 ds m.2.1+m.2.2
def qFj:List Nat->List Nat->Prop
 | a::azq,b::bs=>a < b∨(a<=b/\qFj azq bs)
 | _,_=>False
def uD (ds:List D) (ms:List Ms):List Nat:=ms.map fun m=>(qQB ds m).toNat
def qSL (C:Cx) (ys' ys:List Y) (m' m:Ms) (k:Int):Bool:=match dH C ys' m'.1,dH C ys' m'.2.1,dH C ys m.1,dH C ys m.2.1 with
 | some (v',c'),some (w',e'),some (v,c),some (w,e) =>
  (kK C.F C.L v' c' v (c+(m.2.2 - m'.2.2 - k)) && kK C.F C.L w e w' e') || (kK C.F C.L v' c' v c && kK C.F C.L w e w' (e'+(m.2.2 - m'.2.2 - k)))
 | _,_,_,_=>false
def qPn (C:Cx) (ys:List Y) (m:Ms):Bool:=match dH C ys m.1,dH C ys m.2.1 with
 | some (v,c),some (w,e)=>kK C.F C.L w (e+1) v (c+m.2.2)
 | _,_=>false
def qHG (C:Cx) (ys' ys:List Y):List Ms->List Ms->Bool
 | m'::r',m::r=>(qSL C ys' ys m' m 1 && qPn C ys m) || (qSL C ys' ys m' m 0 && qHG C ys' ys r' r)
 | _,_=>false
section
variable {σ:Wd} {C:Cx}
theorem qJW (hC:COk σ C) {ys' ys:List Y} {ds' ds:List D} {m' m:Ms} {k:Int} (hd':qR σ ys' ds') (hd:qR σ ys ds) (h:qSL C ys' ys m' m k=true):qQB ds' m'+k<=qQB ds m:=by
 unfold qSL at h
 split at h
 ·rename_i v' c' w' e' v c w e h1 h2 h3 h4
  obtain ⟨x1,g1,q1⟩:=kZ hC hd' h1
  obtain ⟨x2,g2,q2⟩:=kZ hC hd' h2
  obtain ⟨x3,g3,q3⟩:=kZ hC hd h3
  obtain ⟨x4,g4,q4⟩:=kZ hC hd h4
  unfold qQB
  rcases Bool.or_eq_true_iff.1 h with h | h <;> rw [vF] at h
  ·have a:=vR hC.s h.1 g1 g3
   have b:=vR hC.s h.2 g4 g2
   omega
  have a:=vR hC.s h.1 g1 g3
  have b:=vR hC.s h.2 g4 g2
  omega
 cases h
theorem qLR (hC:COk σ C) {ys:List Y} {ds:List D} {m:Ms} (hd:qR σ ys ds) (h:qPn C ys m=true):1<=qQB ds m:=by
 unfold qPn at h
 split at h
 ·rename_i v c w e h3 h4
  obtain ⟨x3,g3,q3⟩:=kZ hC hd h3
  obtain ⟨x4,g4,q4⟩:=kZ hC hd h4
  unfold qQB
  have a:=vR hC.s h g4 g3
  omega
 cases h
theorem qGA (hC:COk σ C) {ys' ys:List Y} {ds' ds:List D} (hd':qR σ ys' ds') (hd:qR σ ys ds):∀ {l' l:List Ms},qHG C ys' ys l' l=true->qFj (uD ds' l') (uD ds l)
 | [],_,h=>by simp only [qHG] at h; cases h
 | _::_,[],h=>by simp only [qHG] at h; cases h
 | m'::r',m::r,h=>by
  simp only [qHG] at h
  simp only [uD,List.map_cons,qFj]
  rcases Bool.or_eq_true_iff.1 h with h | h <;> rw [vF] at h
  ·have a:=qJW hC hd' hd h.1
   have b:=qLR hC hd h.2
   left; omega
  have a:=qJW hC hd' hd h.1
  right
  exact ⟨by omega,qGA hC hd' hd h.2⟩
end
theorem qJV:∀ (n:Nat) (l:List Nat),l.length=n->Acc (fun a b:List Nat=>a.length=b.length/\qFj a b) l
 | 0,l,h=>by
  have:l=[]:=List.length_eq_zero_iff.1 h
  subst this
  refine ⟨_,fun y hy=>?_⟩
  cases y with
  | nil=>exact (hy.2:False).elim
  | cons _ _=>cases hy.1
 | n+1,l,h=>by
  have key:∀ (a:Nat),∀ (r:List Nat),r.length=n->Acc (fun a b:List Nat=>a.length=b.length/\qFj a b) (a::r):=by
   intro a
   induction a using Nat.strongRecOn with
   | _ a iha =>
    intro r hr
    have hacc:=qJV n r hr
    induction hacc with
    | intro r _ ihr =>
     refine ⟨_,fun y hy=>?_⟩
     cases y with
     | nil=>cases hy.1
     | cons b s =>
      have hl:s.length=n:=by have:=hy.1; simp only [List.length_cons] at this; omega
      rcases hy.2 with hlt | ⟨hle,hs⟩
      ·exact iha b hlt s hl
      rcases Nat.lt_or_ge b a with h' | h'
      ·exact iha b h' s hl
      have:b=a:=by omega
      subst this
      exact ihr s ⟨by omega,hs⟩ hl
  cases l with
  | nil=>cases h
  | cons a r=>exact key a r (by simpa using h)
structure Hd where
 ss:List Sn
 inv:List Cn
 ms:List Ms
structure Fx where
 T:Tb
 sp:FuncId->Option Spec
 S:Spec
 hd:Nat->Option Hd
def qJi:List Y->Y
 | [y]=>y
 | l=>.tup l
def qDE:Y->Bool
 | .int _ _ _=>true
 | .bool _ _=>true
 | .str _ _=>true
 | _=>false
def qGM:Nat->Y->Bool
 | 0,_=>true
 | 1,y=>qDE y
 | _,.tup l=>l.all qDE
 | _,_=>false
def qOY (tg:Tgt) (ys:List Y):Option (FuncId × List Y):=match tg with
 | .fn f=>some (f,ys)
 | .val _=>(match ys with
  | .clo g::r=>some (g,r)
  | _=>none)
 | .meth _ _=>none
def dead (C:Cx) (t:List vY):Bool:=t.any fun q=>kK C.F C.L q.2.1 0 q.1 (-q.2.2 - 1)
def ck (X:Fx) (y0 cur:List Y) (ms:List Ms):Tree->List Y->Cx->Bool
 | .ret xs,env,C=>match eY env C xs with
  | some (C,ys)=>mG C ys X.S.rs && X.S.post.all (qSp C (y0++ys))
  | none=>false
 | .jump k xs,env,C=>match X.hd k with
  | some h=>(match eY env C xs with
   | some (C,ys)=>mG C ys h.ss && h.inv.all (qSp C (y0++ys)) && qHG C (y0++ys) cur h.ms ms
   | none=>false)
  | none=>false
 | .bind o xs r,env,C=>match eY env C xs with
  | some (C,ys)=>(match qTk X.T C o ys with
   | some (C,y)=>ck X y0 cur ms r (env++[y]) C
   | none=>false)
  | none=>false
 | .call tg xs fl r,env,C=>match eY env C xs with
  | some (C,ys)=>(match qOY tg ys with
   | some (f,ys)=>(match X.sp f with
    | some S=>mG C ys S.ss && S.pre.all (qSp C ys) && (match gS S.rs C with
     | (C,rs)=>qGM fl (qJi rs) && ck X y0 cur ms r (env++[qJi rs]) (C.add (S.post.flatMap (qSq C (ys++rs))) [] [] 0))
    | none=>false)
   | none=>false)
  | none=>false
 | .ite c a b,env,C=>match aQ env C c with
  | some (C,.bool t f)=>(ck X y0 cur ms a env (C.add t [] [] 0) || dead C t) && (ck X y0 cur ms b env (C.add f [] [] 0) || dead C f)
  | _=>false
 | _,_,_=>false
theorem j9 {σ:Wd}:∀ {a b:List Y} {x y:List D},qR σ a x->qR σ b y->qR σ (a++b) (x++y)
 | [],b,x,y,h,h'=>by simp only [qR] at h; subst h; simpa using h'
 | u::a,b,x,y,h,h'=>by
  simp only [qR] at h
  obtain ⟨d,ds,rfl,h1,h2⟩:=h
  simp only [List.cons_append,qR]
  exact ⟨_,_,rfl,h1,j9 h2 h'⟩
theorem qLJ {σ:Wd} {ys:List Y} {ds:List D} (h:qR σ ys ds):qU σ (qJi ys) (mQ ds):=by
 cases ys with
 | nil=>simp only [qR] at h; subst h; simp only [qJi,mQ,qU]; exact ⟨_,rfl,by simp only [qR]⟩
 | cons y r =>
  have h0:=h
  simp only [qR] at h
  obtain ⟨d,ds',rfl,h1,h2⟩:=h
  cases r with
  | nil=>simp only [qR] at h2; subst h2; exact h1
  | cons z r =>
   have h3:=h2
   simp only [qR] at h2
   obtain ⟨d',ds'',rfl,_,_⟩:=h2
   simp only [qJi,mQ,qU]
   exact ⟨_,rfl,h0⟩
theorem qDD {σ:Wd} {y:Y} {d:D} (hd:qU σ y d) (h:qDE y=true):∃ v,d=.leaf v:=by
 cases y <;> simp only [qDE] at h <;> first | (cases h; done) | simp only [qU] at hd
 ·obtain ⟨_,_,rfl⟩:=hd; exact ⟨_,rfl⟩
 ·obtain ⟨_,rfl,_⟩:=hd; exact ⟨_,rfl⟩
 obtain ⟨_,_,rfl,_⟩:=hd; exact ⟨_,rfl⟩
theorem qBs {σ:Wd}:∀ {ys:List Y} {ds:List D},qR σ ys ds->ys.all qDE=true->eZ ds=true
 | [],ds,h,_=>by simp only [qR] at h; subst h; rfl
 | y::ys,ds,h,ha=>by
  simp only [qR] at h
  obtain ⟨d,r,rfl,h1,h2⟩:=h
  simp only [List.all_cons,vF] at ha
  obtain ⟨v,rfl⟩:=qDD h1 ha.1
  have:=qBs h2 ha.2
  simpa only [eZ] using this
theorem qKi {σ:Wd} {n:Nat} {y:Y} {d:D} (hd:qU σ y d) (h:qGM n y=true):qBD n d=true:=by
 match n with
 | 0=>rfl
 | 1 =>
  simp only [qGM] at h
  obtain ⟨v,rfl⟩:=qDD hd h
  rfl
 | n+2 =>
  cases y <;> simp only [qGM] at h <;> first | (cases h; done) | skip
  simp only [qU] at hd
  obtain ⟨ds,rfl,hs⟩:=hd
  exact qBs hs h
def qT9 (X:Fx) (d0:List D) (M:List Nat):Res1->Prop
 | .ret d=>∃ rs,d=mQ rs/\zZ X.S.rs rs/\∀ q∈X.S.post,qEj (d0++rs) q
 | .jump k ds=>∃ h,X.hd k=some h/\zZ h.ss ds/\(∀ q∈h.inv,qEj (d0++ds) q)/\qFj (uD (d0++ds) h.ms) M
theorem qLv {E:Env} {σ:Wd} {tg:Tgt} {ys ys':List Y} {ds:List D} {f:FuncId} (hd:qR σ ys ds) (h:qOY tg ys=some (f,ys')):∃ ds',s6 E tg ds=some (f,ds')/\qR σ ys' ds':=by
 unfold qOY at h
 split at h
 ·cases h; exact ⟨_,rfl,hd⟩
 ·split at h
  ·cases h
   simp only [qR] at hd
   obtain ⟨d,r,rfl,h1,h2⟩:=hd
   simp only [qU] at h1
   subst h1
   exact ⟨r,by simp [s6],h2⟩
  cases h
 cases h
theorem qMJ {σ:Wd} {C:Cx} (hC:COk σ C) {ys:List Y} {ds:List D} {l:List Cn} (hd:qR σ ys ds) (h:∀ q∈l,qEj ds q):∀ f∈l.flatMap (qSq C ys),eF σ f:=by
 intro f hf
 obtain ⟨q,hq,hf⟩:=List.mem_flatMap.1 hf
 exact qKL hC hd (h q hq) f hf
theorem qGV {σ:Wd} {C:Cx} (hC:COk σ C) {t:List vY} (h:dead C t=true):¬ ∀ q∈t,eF σ q:=by
 intro ha
 unfold dead at h
 obtain ⟨q,hq,h⟩:=List.any_eq_true.1 h
 obtain ⟨x,y,h1,h2,h3⟩:=ha q hq
 have:=vR hC.s h h2 h1
 omega
section
variable {E:Env} {HS:FuncId->List D->D->Prop} {X:Fx}
theorem qBN (hT:TbOk E X.T) (hsp:∀ f S,X.sp f=some S->gX HS f S) {y0 cur:List Y} {ms:List Ms} {d0 dcur:List D} :
  ∀ (t:Tree) {env:List Y} {C:Cx} {ρ:List D} {σ:Wd},COk σ C->qR σ env ρ->qR σ y0 d0->qR σ cur dcur->ck X y0 cur ms t env C=true->wp E HS (qT9 X d0 (uD dcur ms)) t ρ
 | .fail,_,_,_,_,_,_,_,_,h=>by simp only [ck] at h; cases h
 | .stop _ _,_,_,_,_,_,_,_,_,h=>by simp only [ck] at h; cases h
 | .callM _ _ _ _,_,_,_,_,_,_,_,_,h=>by simp only [ck] at h; cases h
 | .ret xs,env,C,ρ,σ,hC,he,h0,hc,h=>by
  simp only [ck] at h
  split at h
  ·rename_i C' ys hy
   obtain ⟨τ,h1,h2⟩:=nC hC he hy
   rw [vF] at h
   simp only [wp]
   exact ⟨_,rfl,oY h1 h.1 h2,fun q hq=>qFG h1 (j9 (zP h0) h2) (List.all_eq_true.1 h.2 q hq)⟩
  cases h
 | .jump k xs,env,C,ρ,σ,hC,he,h0,hc,h=>by
  simp only [ck] at h
  split at h
  ·rename_i hh hk
   split at h
   ·rename_i C' ys hy
    obtain ⟨τ,h1,h2⟩:=nC hC he hy
    simp only [vF] at h
    simp only [wp]
    exact ⟨hh,hk,oY h1 h.1.1 h2,fun q hq=>qFG h1 (j9 (zP h0) h2) (List.all_eq_true.1 h.1.2 q hq),qGA h1 (j9 (zP h0) h2) (zP hc) h.2⟩
   cases h
  cases h
 | .bind o xs r,env,C,ρ,σ,hC,he,h0,hc,h=>by
  simp only [ck] at h
  split at h
  ·rename_i C' ys hy
   split at h
   ·rename_i C2 y ho
    obtain ⟨τ,h1,h2⟩:=nC hC he hy
    obtain ⟨d,τ',e1,e2,e3⟩:=qPv hT h1 h2 ho
    simp only [wp,e1]
    rw [List.append_assoc] at e2 e3
    exact qBN hT hsp r e2 (j9 (zP he) (by simp only [qR]; exact ⟨_,_,rfl,e3,rfl⟩)) (zP h0) (zP hc) h
   cases h
  cases h
 | .call tg xs fl r,env,C,ρ,σ,hC,he,h0,hc,h=>by
  simp only [ck] at h
  split at h
  ·rename_i C' ys hy
   split at h
   ·rename_i f ys' ht
    split at h
    ·rename_i S hS
     obtain ⟨τ,h1,h2⟩:=nC hC he hy
     obtain ⟨ds',t1,t2⟩:=qLv (E:=E) h2 ht
     generalize hr:gS S.rs C'=p at h
     obtain ⟨C2,rs⟩:=p
     simp only [vF] at h
     obtain ⟨⟨a1,a2⟩,a3,a4⟩:=h
     obtain ⟨rd,b1,b2,b3⟩:=hsp f S hS ds' (oY h1 a1 t2) fun q hq=>qFG h1 t2 (List.all_eq_true.1 a2 q hq)
     obtain ⟨τ',c1,c2⟩:=rY b1 h1
     rw [hr] at c1 c2
     simp only [wp,t1]
     have hr:=qLJ c2
     refine ⟨_,b3,qKi hr a3,?_⟩
     have c3:=c1.facts (qMJ c1 (j9 (zP t2) c2) b2)
     have hr:=hr
     rw [List.append_assoc] at c3 hr
     exact qBN hT hsp r c3 (j9 (zP he) (by simp only [qR]; exact ⟨_,_,rfl,hr,rfl⟩)) (zP h0) (zP hc) a4
    cases h
   cases h
  cases h
 | .ite c a b,env,C,ρ,σ,hC,he,h0,hc,h=>by
  simp only [ck] at h
  split at h
  ·rename_i C' t f hy
   obtain ⟨τ,h1,h2⟩:=qG5 hC he hy
   simp only [qU] at h2
   obtain ⟨v,hv,ht,hf⟩:=h2
   rw [vF] at h
   simp only [wp,hv]
   cases v with
   | true =>
    rcases Bool.or_eq_true_iff.1 h.1 with h | h
    ·exact qBN hT hsp a (h1.facts (ht rfl)) (zP he) (zP h0) (zP hc) h
    exact absurd (ht rfl) (qGV h1 h)
   | false =>
    rcases Bool.or_eq_true_iff.1 h.2 with h | h
    ·exact qBN hT hsp b (h1.facts (hf rfl)) (zP he) (zP h0) (zP hc) h
    exact absurd (hf rfl) (qGV h1 h)
  cases h
end
end Go.Am.Tt
namespace Go.Am.Tt
open Go Go.Am
def gG {α:Type}:List (Nat × α)->Nat->Option α
 | [],_=>none
 | (k,x)::r,n=>bif Nat.beq k n then some x else gG r n
theorem rR {α:Type} {l:List (Nat × α)} {n:Nat} {x:α} (h:gG l n=some x):(n,x)∈l:=by
 induction l with
 | nil=>cases h
 | cons p r ih =>
  obtain ⟨k,y⟩:=p
  simp only [gG] at h
  cases hk:Nat.beq k n with
  | true=>rw [hk] at h; have:=vU hk; subst this; cases h; exact List.mem_cons_self
  | false=>rw [hk] at h; exact mC _ (ih h)
def qGU {α:Type}:List (Nat × α)->Bool
 | []=>true
 | (k,_)::r=>(match gG r k with
  | some _=>false
  | none=>true) && qGU r
theorem qKB {α:Type} {l:List (Nat × α)} (h:qGU l=true):∀ x∈l,gG l x.1=some x.2:=by
 induction l with
 | nil=>intro x hx; cases hx
 | cons p r ih =>
  obtain ⟨k,y⟩:=p
  simp only [qGU,vF] at h
  intro x hx
  rcases List.mem_cons.1 hx with rfl | hx'
  ·simp only [gG,Nat.beq_refl,cond_true]
  have h3:=ih h.2 x hx'
  simp only [gG]
  cases hk:Nat.beq k x.1 with
  | false=>simpa using h3
  | true =>
   have e:=vU hk
   rw [e,h3] at h
   cases h.1
def qCZ (l:List (Nat × Tree)) (k:Nat):Tree:=(gG l k).getD .fail
def C0:Cx:=⟨[],[],[],1⟩
theorem qSC:COk [(0,.nil)] C0:={ s:={ z:=⟨_,rfl⟩,f:=fun q h=>(by cases h),l:=fun q h=>(by cases h) },e:=fun e h=>(by cases h),n:=rfl }
def qIr (S:Spec):Cx × List Y:=match gS S.ss C0 with
 | (C,y0)=>(qMj y0 S.pre C,y0)
theorem qQj (E:Env) {S:Spec} {ds:List D} (h:zZ S.ss ds) (hp:∀ q∈S.pre,qEj ds q):∃ σ,COk σ (qIr S).1/\qR σ (qIr S).2 ds:=by
 obtain ⟨τ,h1,h2⟩:=rY h qSC
 unfold qIr
 split
 rename_i C y0 hr
 rw [hr] at h1 h2
 obtain ⟨τ',h3⟩:=qCo E h1 h2 hp
 exact ⟨_,h3,zP h2⟩
def qFI (X:Fx) (C:Cx) (y0:List Y) (h:Hd) (t:Tree):Bool:=match gS h.ss C with
 | (C,ys)=>ck X y0 (y0++ys) h.ms t ys (qMj (y0++ys) h.inv C)
def eR (X:Fx) (C:Cx) (y0:List Y) (ts:List (Nat × Tree)) (n:Nat):List (Nat × Hd)->Bool
 | []=>true
 | (k,h)::r=>Nat.beq h.ms.length n && qFI X C y0 h (qCZ ts k) && eR X C y0 ts n r
theorem qAq {X:Fx} {C:Cx} {y0:List Y} {ts:List (Nat × Tree)} {n:Nat}:∀ {l:List (Nat × Hd)},eR X C y0 ts n l=true->∀ p∈l,p.2.ms.length=n/\qFI X C y0 p.2 (qCZ ts p.1)=true
 | [],_,p,hp=>by cases hp
 | (k,h)::r,hc,p,hp=>by
  simp only [eR,vF] at hc
  rcases List.mem_cons.1 hp with rfl | hp
  ·exact ⟨vU hc.1.1,hc.1.2⟩
  exact qAq hc.2 p hp
section
variable {E:Env} {HS:FuncId->List D->D->Prop}
theorem qMn {T:Tb} {sp:FuncId->Option Spec} {S:Spec} {hs:List (Nat × Hd)} {rm:List Ms} {ts:List (Nat × Tree)} (hT:TbOk E T) (hsp:∀ f S,sp f=some S->gX HS f S)
  (hr:ck ⟨T,sp,S,gG hs⟩ (qIr S).2 (qIr S).2 rm (qCZ ts 0) (qIr S).2 (qIr S).1=true) (hh:eR ⟨T,sp,S,gG hs⟩ (qIr S).1 (qIr S).2 ts rm.length hs=true)
  {ds:List D} (hds:zZ S.ss ds) (hp:∀ q∈S.pre,qEj ds q):∃ rs,zZ S.rs rs/\(∀ q∈S.post,qEj (ds++rs) q)/\qH E HS (qCZ ts) 0 ds (mQ rs):=by
 obtain ⟨σ,hC,hy⟩:=qQj E hds hp
 have hheads:=qAq hh
 have key:∀ M:List Nat,Acc (fun a b:List Nat=>a.length=b.length/\qFj a b) M->∀ k h es,gG hs k=some h->zZ h.ss es->(∀ q∈h.inv,qEj (ds++es) q)->uD (ds++es) h.ms=M ->
   ∃ rs,zZ S.rs rs/\(∀ q∈S.post,qEj (ds++rs) q)/\qH E HS (qCZ ts) k es (mQ rs):=by
  intro M hM
  induction hM with
  | intro M _ ih =>
   intro k h es hk hes hinv hMe
   obtain ⟨hlen,hck⟩:=hheads _ (rR hk)
   unfold qFI at hck
   split at hck
   rename_i C' ys hfr
   obtain ⟨τ,a1,a2⟩:=rY hes hC
   rw [hfr] at a1 a2
   have hd0:=zP (τ:=τ) hy
   have hcur:=j9 hd0 a2
   obtain ⟨τ',a3⟩:=qCo E a1 hcur hinv
   have:=qBN hT hsp _ a3 (zP a2) (zP hd0) (zP hcur) hck
   obtain ⟨r,h1,h2⟩:=oK _ _ this
   cases r with
   | ret d =>
    obtain ⟨rs,rfl,b1,b2⟩:=h1
    exact ⟨rs,b1,b2,qH.step (h2 _ rfl)⟩
   | jump k' es' =>
    obtain ⟨h',b1,b2,b3,b4⟩:=h1
    obtain ⟨hlen',_⟩:=hheads _ (rR b1)
    obtain ⟨rs,c1,c2,c3⟩:=ih _ ⟨by rw [← hMe]; simp only [uD,List.length_map]; rw [hlen',hlen],by rw [← hMe]; exact b4⟩ k' h' es' b1 b2 b3 rfl
    exact ⟨rs,c1,c2,qH.step (h2 _ c3)⟩
 have:=qBN hT hsp _ hC hy hy hy hr
 obtain ⟨r,h1,h2⟩:=oK _ _ this
 cases r with
 | ret d =>
  obtain ⟨rs,rfl,b1,b2⟩:=h1
  exact ⟨rs,b1,b2,qH.step (h2 _ rfl)⟩
 | jump k' es' =>
  obtain ⟨h',b1,b2,b3,b4⟩:=h1
  obtain ⟨rs,c1,c2,c3⟩:=key _ (qJV _ _ rfl) k' h' es' b1 b2 b3 rfl
  exact ⟨rs,c1,c2,qH.step (h2 _ c3)⟩
end
structure En where
 f:FuncId
 pats:List (Nat × Pat)
 S:Spec
 hs:List (Nat × Hd)
 rm:List Ms
def qLS (l:List (Nat × Pat)) (k:Nat):Pat:=(gG l k).getD ⟨[],[],[],[]⟩
def qLt (E:Env) (fn:Func) (c:Code) (l:List (Nat × Pat)) (n:Nat):List (Nat × Tree) :=
 (0,qC9 E (fun k S=>g9 (Nat.max fn.ntmps n) (qLS l k) k S) fn n)::jW E (fun k=>(qLS l k).st (Nat.max fn.ntmps n)) (fun k S=>g9 (Nat.max fn.ntmps n) (qLS l k) k S) 1 c (eJ E fn.results.toList)
def qUy (T:Tb) (tab:List (FuncId × Spec)) (e:En):Fx:=⟨T,gG tab,e.S,gG e.hs⟩
def qSf (T:Tb) (tab:List (FuncId × Spec)) (e:En) (ts:List (Nat × Tree)):Bool :=
 qGU ts && (match qIr e.S with
  | (C,y0)=>ck (qUy T tab e) y0 y0 e.rm (qCZ ts 0) y0 C && eR (qUy T tab e) C y0 ts e.rm.length e.hs)
theorem qLK {P : Program} (h : dN P = true) {fn : Func} {c : Code} (hm : fn ∈ P.funcs.toList) (hb : fn.body = some c) : (fn.name == "runtime.NumGoroutine" || !zO c) = false := by
 unfold dN at h
 rw [vF] at h
 have:=List.all_eq_true.1 h.2 fn hm
 rw [hb] at this
 simp only [vF,Bool.not_eq_true'] at this
 rw [this.1,this.2]; rfl
def qHw:List Func->Nat->Option Func
 | [],_=>none
 | f::_,0=>some f
 | _::r,n+1=>qHw r n
theorem qGt:∀ {l:List Func} {n:Nat},qHw l n=l[n]?
 | [],n=>by simp [qHw]
 | f::_,0=>by simp [qHw]
 | _::r,n+1=>by simp [qHw,qGt (l:=r)]
def qP6 (E:Env) (P:Program) (T:Tb) (tab:List (FuncId × Spec)) (e:En):Bool:=Nat.blt e.f qAZ && (match qHw P.funcs.toList e.f with
 | some fn=>(match fn.body with
  | some c=>qSf T tab e (qLt E fn c e.pats e.S.ss.length)
  | none=>false)
 | none=>false)
theorem qMC {P:Program} (hg:pP P=true) (hr:dN P=true) {T:Tb} (hT:TbOk (wJ P) T) {tab:List (FuncId × Spec)} (htab:∀ p∈tab,gX (Holds (wJ P)) p.1 p.2) {e:En} (h:qP6 (wJ P) P T tab e=true):gX (Holds (wJ P)) e.f e.S:=by
 have he:=qFA hg
 unfold qP6 at h
 rw [vF] at h
 obtain ⟨h1,h2⟩:=h
 split at h2
 ·rename_i fn hfn
  rw [qGt] at hfn
  split at h2
  ·rename_i c hc
   have hfn2:(wJ P).funcs.get e.f=some fn:=sM (by simpa using hfn) hc (qLK hr (List.mem_of_getElem? hfn) hc)
   unfold qSf at h2
   rw [vF] at h2
   obtain ⟨h3,h4⟩:=h2
   have hd:=qKB h3
   split at h4
   rename_i C y0 hb
   rw [vF] at h4
   intro ds hds hp
   have hb1:C=(qIr e.S).1:=by rw [hb]
   have hb2:y0=(qIr e.S).2:=by rw [hb]
   subst hb1 hb2
   obtain ⟨rs,r1,r2,r3⟩:=qMn hT (fun f S hf=>htab (f,S) (rR hf)) h4.1 h4.2 hds hp
   refine ⟨rs,r1,r2,?_⟩
   have hl:ds.length=e.S.ss.length:=fQ hds
   refine qDJ he hfn2 hc (pats:=qLS e.pats) hl ?_ ?_ r3 (lB h1)
   ·have:=hd _ List.mem_cons_self
    unfold qCZ
    rw [this]; rfl
   intro x hx
   have:=hd x (mC _ hx)
   unfold qCZ
   rw [this]; rfl
  cases h2
 cases h2
def qAH (E:Env) (P:Program) (T:Tb):List (FuncId × Spec)->List En->Bool
 | _,[]=>true
 | tab,e::r=>qP6 E P T tab e && qAH E P T ((e.f,e.S)::tab) r
def iL:List (FuncId × Spec)->List En->List (FuncId × Spec)
 | tab,[]=>tab
 | tab,e::r=>iL ((e.f,e.S)::tab) r
theorem lC {P:Program} (hg:pP P=true) (hr:dN P=true) {T:Tb} (hT:TbOk (wJ P) T):∀ {l:List En} {tab:List (FuncId × Spec)},(∀ p∈tab,gX (Holds (wJ P)) p.1 p.2)->qAH (wJ P) P T tab l=true->∀ p∈iL tab l,gX (Holds (wJ P)) p.1 p.2
 | [],tab,ht,_=>ht
 | e::r,tab,ht,h=>by
  rw [qAH,vF] at h
  have h2:∀ p∈(e.f,e.S)::tab,gX (Holds (wJ P)) p.1 p.2:=by
   intro p hp
   rcases List.mem_cons.1 hp with rfl | hp
   ·exact qMC hg hr hT ht h.1
   exact ht p hp
  show ∀ p∈iL ((e.f,e.S)::tab) r,gX (Holds (wJ P)) p.1 p.2
  exact lC hg hr hT h2 h.2
def qSN:List (TypeId × TypeId × IntKind × IntKind)->TypeId->TypeId->IntKind->Option IntKind
 | [],_,_,_=>none
 | (a,b,k,k')::r,s,d,q=>bif Nat.beq a s && Nat.beq b d && decide (k=q) then some k' else qSN r s d q
def qRL:List (Bool × TypeId × Int)->Bool->TypeId->Int->Bool
 | [],_,_,_=>false
 | (m,t,c)::r,m',t',c'=>(bif (bif m then m' else !m') && Nat.beq t t' && decide (c=c') then true else qRL r m' t' c')
def qJr (cv:List (TypeId × TypeId × IntKind × IntKind)) (qr:List (Bool × TypeId × Int)) (o:TOp) (ys:List Y):Option IntKind:=match o,ys with
 | .conv s d,[.int k _ _]=>qSN cv s d k
 | .bin .quo t _ _,[.int .i64 _ _,.int .i64 v c]=>bif Nat.beq v 0 && qRL qr false t c then some .i64 else none
 | .bin .rem t _ _,[.int .i64 _ _,.int .i64 v c]=>bif Nat.beq v 0 && qRL qr true t c then some .i64 else none
 | _,_=>none
def qQx (E:Env) (x:TypeId × TypeId × IntKind × IntKind):Prop:=∀ m:Int,∃ n:Int,TOp.eval E (.conv x.1 x.2.1) [.leaf (.int x.2.2.1 m)]=some (.leaf (.int x.2.2.2 n))
def qQs (E:Env) (x:Bool × TypeId × Int):Prop:=∀ (m:Int) (o p:Operand),∃ n:Int,TOp.eval E (.bin (bif x.1 then .rem else .quo) x.2.1 o p) [dI m,dI x.2.2]=some (dI n)
def qKX (E:Env) (x:Nat × (Nat × List Sn)):Prop:=(cH E.prog x.2.1 x.1,rV E.prog x.1,Nat.ble x.2.1 10000,E.prog.eqGuardType E.prog.depth x.1,(Sn.shs x.2.2).all qBC,Sn.lows x.2.2)=(some (Sn.shs x.2.2),true,true,false,true,true)
theorem qKF:∀ {l:List (TypeId × TypeId × IntKind × IntKind)} {s d:TypeId} {q k:IntKind},qSN l s d q=some k->(s,d,q,k)∈l
 | [],_,_,_,_,h=>by cases h
 | (a,b,k,k')::r,s,d,q,z,h=>by
  simp only [qSN] at h
  cases hb:(Nat.beq a s && Nat.beq b d && decide (k=q)) with
  | true =>
   rw [hb] at h; cases h
   simp only [vF] at hb
   have h1:=vU hb.1.1
   have h2:=vU hb.1.2
   have h3:=dT hb.2
   subst h1 h2 h3
   exact List.mem_cons_self
  | false=>rw [hb] at h; exact mC _ (qKF h)
theorem qE4:∀ {l:List (Bool × TypeId × Int)} {m:Bool} {t:TypeId} {c:Int},qRL l m t c=true->(m,t,c)∈l
 | [],_,_,_,h=>by cases h
 | (a,b,e)::r,m,t,c,h=>by
  simp only [qRL] at h
  cases hb:((bif a then m else !m) && Nat.beq b t && decide (e=c)) with
  | true =>
   simp only [vF] at hb
   have h2:=vU hb.1.2
   have h3:=dT hb.2
   subst h2 h3
   have h1:a=m:=by cases a <;> cases m <;> first | rfl | (cases hb.1.1)
   subst h1
   exact List.mem_cons_self
  | false=>rw [hb] at h; exact mC _ (qE4 h)
def qOZ (sh:List (Nat × Sn)) (cv:List (TypeId × TypeId × IntKind × IntKind)) (qr:List (Bool × TypeId × Int)) (st:List (Nat × (Nat × List Sn))):Tb:=⟨gG sh,qJr cv qr,gG st⟩
theorem qR3 {σ:Wd} {C:Cx} (hC:COk σ C) {k:IntKind} {v:Nat} {c:Int} {d:D} (hv:Nat.beq v 0=true) (h:qU σ (.int k v c) d):d=.leaf (.int k c):=by
 have hv:=vU hv
 subst hv
 obtain ⟨z,hz⟩:=hC.s.z
 simp only [qU] at h
 obtain ⟨x,hx,rfl⟩:=h
 rw [hz] at hx; cases hx
 simp
theorem qOq {E:Env} {sh:List (Nat × Sn)} {cv:List (TypeId × TypeId × IntKind × IntKind)} {qr:List (Bool × TypeId × Int)} {st:List (Nat × (Nat × List Sn))}
  (h1:∀ x∈cv,qQx E x) (h2:∀ x∈qr,qQs E x) (h3:∀ x∈st,qKX E x):TbOk E (qOZ sh cv qr st) where
 o:=by
  intro o ys k h σ C ds hC hd
  have h:qJr cv qr o ys=some k:=h
  unfold qJr at h
  split at h
  ·simp only [qR] at hd
   obtain ⟨d,_,rfl,hd,rfl⟩:=hd
   simp only [qU] at hd
   obtain ⟨x,_,rfl⟩:=hd
   exact h1 _ (qKF h) _
  ·simp only [qR] at hd
   obtain ⟨d,_,rfl,hd,e,_,rfl,he,rfl⟩:=hd
   obtain ⟨hb,h⟩:=zM h
   cases h
   rw [vF] at hb
   rw [qR3 hC hb.1 he]
   simp only [qU] at hd
   obtain ⟨x,_,rfl⟩:=hd
   exact h2 _ (qE4 hb.2) _ _ _
  ·simp only [qR] at hd
   obtain ⟨d,_,rfl,hd,e,_,rfl,he,rfl⟩:=hd
   obtain ⟨hb,h⟩:=zM h
   cases h
   rw [vF] at hb
   rw [qR3 hC hb.1 he]
   simp only [qU] at hd
   obtain ⟨x,_,rfl⟩:=hd
   exact h2 _ (qE4 hb.2) _ _ _
  cases h
 s:=by
  intro t k ss h
  have:=h3 _ (rR h)
  unfold qKX at this
  simp only [Prod.mk.injEq] at this
  exact ⟨this.1,this.2.1,lB this.2.2.1,this.2.2.2.1,this.2.2.2.2.1,this.2.2.2.2.2⟩
theorem qIk {α:Type} {P:α->Prop}:∀ x∈([]:List α),P x:=fun _ h=>by cases h
theorem iG {α:Type} {P:α->Prop} {a:α} {r:List α} (h:P a) (hr:∀ x∈r,P x):∀ x∈a::r,P x:=by
 intro x hx
 rcases List.mem_cons.1 hx with rfl | hx
 ·exact h
 exact hr x hx
end Go.Am.Tt
namespace Go.Am.Tt
open Go Go.Am
mutual
def Sn.big:Sn->Bool
 | .int _=>true
 | .bool=>true
 | .str n=>Nat.beq n 300000000
 | .st fs=>Sn.bigs fs
 | .sl _ _ n e=>Nat.beq n 300000000 && Sn.big e
 | .any=>false
def Sn.bigs:List Sn->Bool
 | []=>true
 | s::r=>Sn.big s && Sn.bigs r
end
mutual
theorem cB:∀ {s:Sn} {d:D},Sn.big s=true->qS 300000000 s.sh d->vA s d
 | .int k,d,_,h=>by simp only [Sn.sh,qS] at h; simp only [vA]; exact h
 | .bool,d,_,h=>by simp only [Sn.sh,qS] at h; simp only [vA]; exact h
 | .str n,d,hl,h=>by
  have:=vU hl
  subst this
  simp only [Sn.sh,qS] at h; simp only [vA]; exact h
 | .st fs,d,hl,h=>by
  simp only [Sn.sh,qS] at h; simp only [vA]
  obtain ⟨cs,hd,h⟩:=h
  exact ⟨cs,hd,d6 hl h⟩
 | .sl el sz n e,d,hl,h=>by
  simp only [Sn.big,vF] at hl
  have:=vU hl.1
  subst this
  simp only [Sn.sh,qS] at h; simp only [vA]
  rcases h with h | ⟨es,hd,hn,ha⟩
  ·exact .inl h
  exact .inr ⟨es,hd,hn,fun x hx=>cB hl.2 (ha x hx)⟩
 | .any,d,hl,h=>by cases hl
theorem d6:∀ {ss:List Sn} {ds:List D},Sn.bigs ss=true->j5 300000000 (Sn.shs ss) ds->zZ ss ds
 | [],ds,_,h=>by simp only [Sn.shs,j5] at h; simp only [zZ]; exact h
 | s::r,ds,hl,h=>by
  simp only [Sn.bigs,vF] at hl
  simp only [Sn.shs,j5] at h; simp only [zZ]
  obtain ⟨d,r',hd,h1,h2⟩:=h
  exact ⟨d,r',hd,cB hl.1 h1,d6 hl.2 h2⟩
end
mutual
def Sn.least (B:Nat):Sn->Bool
 | .int _=>true
 | .bool=>true
 | .str n=>Nat.ble B n
 | .st fs=>Sn.leasts B fs
 | .sl _ _ n e=>Nat.ble B n && Sn.least B e
 | .any=>false
def Sn.leasts (B:Nat):List Sn->Bool
 | []=>true
 | s::r=>Sn.least B s && Sn.leasts B r
end
mutual
theorem uN {B:Nat}:∀ {s:Sn} {d:D},Sn.least B s=true->qS B s.sh d->vA s d
 | .int k,d,_,h=>by simp only [Sn.sh,qS] at h; simp only [vA]; exact h
 | .bool,d,_,h=>by simp only [Sn.sh,qS] at h; simp only [vA]; exact h
 | .str n,d,hl,h=>by
  have:=lB hl
  simp only [Sn.sh,qS] at h; simp only [vA]
  obtain ⟨s,hs,hn⟩:=h
  exact ⟨s,hs,lT hn this⟩
 | .st fs,d,hl,h=>by
  simp only [Sn.sh,qS] at h; simp only [vA]
  obtain ⟨cs,hd,h⟩:=h
  exact ⟨cs,hd,gJ hl h⟩
 | .sl el sz n e,d,hl,h=>by
  simp only [Sn.least,vF] at hl
  have:=lB hl.1
  simp only [Sn.sh,qS] at h; simp only [vA]
  rcases h with h | ⟨es,hd,hn,ha⟩
  ·exact .inl h
  exact .inr ⟨es,hd,lT hn this,fun x hx=>uN hl.2 (ha x hx)⟩
 | .any,d,hl,h=>by cases hl
theorem gJ {B:Nat}:∀ {ss:List Sn} {ds:List D},Sn.leasts B ss=true->j5 B (Sn.shs ss) ds->zZ ss ds
 | [],ds,_,h=>by simp only [Sn.shs,j5] at h; simp only [zZ]; exact h
 | s::r,ds,hl,h=>by
  simp only [Sn.leasts,vF] at hl
  simp only [Sn.shs,j5] at h; simp only [zZ]
  obtain ⟨d,r',hd,h1,h2⟩:=h
  exact ⟨d,r',hd,uN hl.1 h1,gJ hl.2 h2⟩
end
theorem qBY {E:Env} {x:Nat × (Nat × List Sn)} (h:(cH E.prog x.2.1 x.1,rV E.prog x.1,Nat.ble x.2.1 10000,E.prog.eqGuardType E.prog.depth x.1,(Sn.shs x.2.2).all qBC,Sn.lows x.2.2)=(some (Sn.shs x.2.2),true,true,false,true,true)):qKX E x:=h
section
variable {HS:FuncId->List D->D->Prop}
theorem gZ {tab:List (FuncId × Spec)} (h:∀ p∈tab,gX HS p.1 p.2) {f:FuncId} {S:Spec} (hl:gG tab f=some S):gX HS f S:=h (f,S) (rR hl)
theorem qRG {f:FuncId} {S:Spec} {r:Sn} (h:gX HS f S) (hr:S.rs=[r]) (hp:S.pre=[]) (hb:Sn.bigs S.ss=true) (hl:Sn.low r=true) {ds:List D} (hd:j5 300000000 (Sn.shs S.ss) ds):∃ d,qS 300000000 r.sh d/\HS f ds d:=by
 obtain ⟨rs,h1,_,h2⟩:=h ds (d6 hb hd) (by rw [hp]; intro q hq; cases hq)
 rw [hr] at h1
 simp only [zZ] at h1
 obtain ⟨d,_,rfl,h3,rfl⟩:=h1
 exact ⟨d,yA hl h3,h2⟩
end
end Go.Am.Tt
