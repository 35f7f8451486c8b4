/- Data checked symbolically: the arguments of a step. Conditions: none. -/
import Derived.Test.YtminhjecpnpaeaaGreatDoorTt
import Derived.Test.YtminhjecpnpaeaaGreatDoorAm7
set_option linter.unusedVariables false
set_option linter.unusedSimpArgs false
namespace Go.Am.Tt
open Go Go.Am
def qNx:jI:=(0,0,-1)
def qCZ (σ:Wd) (r:Cx × Y) (d:D):Prop:=∃ τ,COk (σ++τ) r.1/\qY (σ++τ) r.2 d
def qOo (σ:Wd) (r:Cx × List Y) (ds:List D):Prop:=∃ τ,COk (σ++τ) r.1/\qV (σ++τ) r.2 ds
theorem qCZ.here {σ:Wd} {C:Cx} {y:Y} {d:D} (hC:COk σ C) (h:qY σ y d):qCZ σ (C,y) d:=⟨[],kR hC,by rw [List.append_nil]; exact h⟩
theorem qCZ.st {σ:Wd} {r:Cx × List Y} {ds:List D} (h:qOo σ r ds):qCZ σ (r.1,.st r.2) (.agg ds):=by
 obtain ⟨τ,h1,h2⟩:=h
 exact ⟨τ,h1,by simp only [qY]; exact ⟨ds,rfl,h2⟩⟩
def qMf {α:Type} (f:Cx->α->Option (Cx × Y)):Cx->List α->Option (Cx × List Y)
 | C,[]=>some (C,[])
 | C,x::r=>match f C x with
  | some (C1,y)=>(match qMf f C1 r with
   | some (C2,ys)=>some (C2,y::ys)
   | none=>none)
  | none=>none
theorem qIC {α:Type} {f:Cx->α->Option (Cx × Y)} {g:α->D} {P:Wd->Prop} (hP:∀ {σ τ},P σ->P (σ++τ)) :
  ∀ (l:List α),(∀ x∈l,∀ {σ C r},P σ->COk σ C->f C x=some r->qCZ σ r (g x))->∀ {σ C r},P σ->COk σ C->qMf f C l=some r->qOo σ r (l.map g)
 | [],_,σ,C,r,_,hC,h=>by
  simp only [qMf] at h; cases h
  exact ⟨[],kR hC,by simp only [List.map_nil,qV]⟩
 | x::l,hf,σ,C,r,hp,hC,h=>by
  simp only [qMf] at h
  split at h
  ·rename_i C1 y hy
   split at h
   ·rename_i C2 ys hys
    cases h
    obtain ⟨τ,h1,h2⟩:=hf x List.mem_cons_self hp hC hy
    obtain ⟨τ',h3,h4⟩:=qIC hP l (fun z hz=>hf z (mC _ hz)) (hP hp) h1 hys
    refine ⟨τ++τ',by rw [← List.append_assoc]; exact h3,?_⟩
    simp only [List.map_cons,qV]
    refine ⟨_,_,rfl,?_,?_⟩
    ·rw [← List.append_assoc]; exact rX h2
    rw [← List.append_assoc]; exact h4
   cases h
  cases h
def qQz (C:Cx):Value->Option (Cx × Y)
 | .int k n=>some (C,.int k 0 n)
 | .bool b=>some (C,.bool (bif b then [] else [qNx]) (bif b then [qNx] else []))
 | .slice none _ _=>some (C,.nil)
 | .string s=>some (C.add [(C.nx,0,(s.size:Int)),(0,C.nx,-(s.size:Int))] [(C.nx,s.size)] [] 1,.str C.nx s.size)
 | _=>none
def qQy:Nat->Cx->Value->Option (Cx × Y)
 | 0,C,v=>qQz C v
 | n+1,C,v=>match v with
  | .agg cs=>(match qMf (qQy n) C cs.toList with
   | some (C',ys)=>some (C',.st ys)
   | none=>none)
  | v=>qQz C v
theorem qJC {σ:Wd} {C:Cx} (hC:COk σ C) {v:Value} {r:Cx × Y} (h:qQz C v=some r) (n:Nat):qCZ σ r (s9 n v):=by
 obtain ⟨z,hz⟩:=hC.s.z
 unfold qQz at h
 split at h
 ·cases h
  have:∀ n (k:IntKind) (x:Int),s9 n (.int k x)=.leaf (.int k x):=fun n k x=>by cases n <;> rfl
  rw [this]
  refine .here hC ?_
  simp only [qY]
  exact ⟨_,hz,by simp⟩
 ·rename_i b
  cases h
  have:∀ n (b:Bool),s9 n (.bool b)=.leaf (.bool b):=fun n b=>by cases n <;> rfl
  rw [this]
  refine .here hC ?_
  simp only [qY]
  refine ⟨b,rfl,fun hb q hq=>?_,fun hb q hq=>?_⟩ <;> subst hb <;> cases hq
 ·cases h
  have:∀ n (a b:Nat),s9 n (.slice none a b)=.nil:=fun n a b=>by cases n <;> rfl
  rw [this]
  refine .here hC ?_
  simp only [qY]
 ·rename_i s
  cases h
  have:∀ n (s:ByteArray),s9 n (.string s)=.leaf (.string s):=fun n s=>by cases n <;> rfl
  rw [this]
  refine ⟨[((s.size:Int),.nil)],hC.ext (f2 ⟨_,_,get_new hC _,z7 hz,by simp only; omega⟩ ⟨_,_,z7 hz,get_new hC _,by simp only; omega⟩) (fun q hq=>?_) (by simp) rfl,?_⟩
  ·rw [List.mem_singleton] at hq; subst hq
   exact ⟨_,get_new hC _,by simp,by simp⟩
  simp only [qY]
  exact ⟨s,_,rfl,get_new hC _,rfl,lR _⟩
 cases h
theorem qEO:∀ (n:Nat) {σ:Wd} {C:Cx} {v:Value} {r:Cx × Y},COk σ C->qQy n C v=some r->qCZ σ r (s9 n v)
 | 0,σ,C,v,r,hC,h=>qJC hC h 0
 | n+1,σ,C,v,r,hC,h=>by
  simp only [qQy] at h
  split at h
  ·rename_i cs
   split at h
   ·rename_i C' ys hs
    cases h
    have:=qIC (g:=s9 n) (P:=fun _=>True) (fun h=>h) cs.toList (fun x _ {σ C r} _ hC hx=>qEO n hC hx) trivial hC hs
    exact qCZ.st this
   cases h
  exact qJC hC h _
theorem getD_some {ρ:List D} {i:Nat} {d:D} (h:ρ[i]? = some d):getD ρ i=d:=by
 unfold getD
 rw [List.getD_eq_getElem?_getD,h]; rfl
mutual
def qAA (env:List Y):Cx->SV->Option (Cx × Y)
 | C,.v i=>match env[i]? with
  | some y=>some (C,y)
  | none=>none
 | C,.c v=>qQy 6 C v
 | C,.agg cs=>match sU env C cs with
  | some (C',ys)=>some (C',.st ys)
  | none=>none
 | C,.fn f a b=>match f,a,b with
  | .func f,[],[]=>some (C,.clo f)
  | _,_,_=>none
 | C,.tup _=>some (C,.any)
 | _,_=>none
def sU (env:List Y):Cx->List SV->Option (Cx × List Y)
 | C,[]=>some (C,[])
 | C,x::r=>match qAA env C x with
  | some (C1,y)=>(match sU env C1 r with
   | some (C2,ys)=>some (C2,y::ys)
   | none=>none)
  | none=>none
end
mutual
theorem qJO {env:List Y} {ρ:List D}:∀ {x:SV} {σ:Wd} {C:Cx} {r:Cx × Y},COk σ C->qV σ env ρ->qAA env C x=some r->qCZ σ r (x.d (getD ρ))
 | .v i,σ,C,r,hC,he,h=>by
  simp only [qAA] at h
  split at h
  ·rename_i y hy
   cases h
   obtain ⟨d,h1,h2⟩:=oG he hy
   simp only [SV.d,getD_some h1]; exact .here hC h2
  cases h
 | .c v,σ,C,r,hC,he,h=>by
  simp only [qAA] at h
  simp only [SV.d]
  exact qEO 6 hC h
 | .agg cs,σ,C,r,hC,he,h=>by
  simp only [qAA] at h
  split at h
  ·rename_i C' ys hs
   cases h
   simp only [SV.d]
   exact qCZ.st (lY hC he hs)
  cases h
 | .fn f a b,σ,C,r,hC,he,h=>by
  simp only [qAA] at h
  split at h
  ·cases h
   refine .here hC ?_
   simp only [SV.d,SV.ds,qY]
  cases h
 | .loc _ _,_,_,_,_,_,h=>by simp only [qAA] at h; cases h
 | .ptr _ _ _ _,_,_,_,_,_,h=>by simp only [qAA] at h; cases h
 | .pp _ _,_,_,_,_,_,h=>by simp only [qAA] at h; cases h
 | .tup _,σ,C,r,hC,he,h=>by
  simp only [qAA] at h; cases h
  exact .here hC (by simp only [qY])
 | .ifc _ _,_,_,_,_,_,h=>by simp only [qAA] at h; cases h
theorem lY {env:List Y} {ρ:List D}:∀ {xs:List SV} {σ:Wd} {C:Cx} {r:Cx × List Y},COk σ C->qV σ env ρ->sU env C xs=some r->qOo σ r (SV.ds (getD ρ) xs)
 | [],σ,C,r,hC,he,h=>by
  simp only [sU] at h; cases h
  exact ⟨[],kR hC,by simp only [SV.ds,qV]⟩
 | x::l,σ,C,r,hC,he,h=>by
  simp only [sU] at h
  split at h
  ·rename_i C1 y hy
   split at h
   ·rename_i C2 ys hys
    cases h
    obtain ⟨τ,h1,h2⟩:=qJO hC he hy
    obtain ⟨τ',h3,h4⟩:=lY h1 (zV he) hys
    refine ⟨τ++τ',by rw [← List.append_assoc]; exact h3,?_⟩
    simp only [SV.ds,qV]
    refine ⟨_,_,rfl,?_,?_⟩
    ·rw [← List.append_assoc]; exact rX h2
    rw [← List.append_assoc]; exact h4
   cases h
  cases h
end
end Go.Am.Tt
namespace Go.Am.Tt
open Go Go.Am
def fI:D->Int
 | .leaf (.int _ n)=>n
 | .leaf (.string s)=>(s.size:Int)
 | d=>(d.es.length:Int)
def qOG:Y->Option (Nat × Int)
 | .int _ v c=>some (v,c)
 | .sl n _ _ _ _=>some (n,0)
 | .str n _=>some (n,0)
 | .nil=>some (0,0)
 | _=>none
theorem qIu {σ:Wd} {C:Cx} (hC:COk σ C) {y:Y} {d:D} {v:Nat} {c:Int} (hd:qY σ y d) (h:qOG y=some (v,c)):∃ x,σ[v]? = some x/\fI d=x.1+c:=by
 obtain ⟨z,hz⟩:=hC.s.z
 cases y <;> simp only [qOG] at h <;> first | (cases h; done) | cases h
 ·simp only [qY] at hd
  obtain ⟨x,hx,rfl⟩:=hd
  exact ⟨x,hx,rfl⟩
 ·simp only [qY] at hd
  obtain ⟨s,x,rfl,hx,hs,_⟩:=hd
  exact ⟨x,hx,by show (s.size:Int)=_; omega⟩
 ·simp only [qY] at hd
  refine ⟨_,hd.1,?_⟩
  have h2:=hd.2
  simp only [vI] at h2
  rcases h2 with rfl | ⟨es,rfl,_⟩
  ·show (0:Int)=_; simp [D.es]
  show ((es.length:Nat):Int)=_; simp [D.es]
 simp only [qY] at hd
 subst hd
 exact ⟨_,hz,by show ((D.nil.es.length:Nat):Int)=_; simp [D.es]⟩
def iM:List Nat->D->D
 | [],d=>d
 | i::r,d=>iM r (match d with | .agg cs=>getD cs i | _=>.nil)
def iL:List Nat->Y->Option Y
 | [],y=>some y
 | i::r,.st cs=>match cs[i]? with
  | some y=>iL r y
  | none=>none
 | _::_,_=>none
theorem m7 {σ:Wd}:∀ {p:List Nat} {y y':Y} {d:D},qY σ y d->iL p y=some y'->qY σ y' (iM p d)
 | [],y,y',d,hd,h=>by simp only [iL] at h; cases h; exact hd
 | i::r,y,y',d,hd,h=>by
  cases y <;> simp only [iL] at h <;> first | (cases h; done) | skip
  simp only [qY] at hd
  obtain ⟨ds,rfl,hs⟩:=hd
  split at h
  ·rename_i q hq
   obtain ⟨e,he,hr⟩:=oG hs hq
   simp only [iM,getD_some he]
   exact m7 hr h
  cases h
inductive Pt where
 | z
 | aT (p:List Nat)
 | el (p q:List Nat) (f:Nat)
def qHQ (f:Nat):D->D
 | .agg cs=>getD cs f
 | d=>d
def qHO (f:Nat):Y->Option Y
 | .st cs=>cs[f]?
 | .sl n el sz b e=>some (.sl n el sz b e)
 | .str n b=>some (.str n b)
 | .int k v c=>some (.int k v c)
 | _=>none
theorem qKN {σ:Wd} {f:Nat} {y y':Y} {d:D} (hd:qY σ y d) (h:qHO f y=some y'):qY σ y' (qHQ f d):=by
 cases y <;> simp only [qHO] at h <;> first | (cases h; done) | skip
 ·cases h
  have h0:=hd
  simp only [qY] at hd
  obtain ⟨x,_,rfl⟩:=hd
  exact h0
 ·cases h
  have h0:=hd
  simp only [qY] at hd
  obtain ⟨s,x,rfl,_⟩:=hd
  exact h0
 ·cases h
  have h0:=hd
  simp only [qY,vI] at hd
  rcases hd.2 with rfl | ⟨es,rfl,_⟩ <;> exact h0
 simp only [qY] at hd
 obtain ⟨ds,rfl,hs⟩:=hd
 obtain ⟨e,he,hr⟩:=oG hs h
 simp only [qHQ,getD_some he]; exact hr
def qH2 (d i:D):D:=d.es.getD (fI i).toNat .nil
def qHe (ds:List D):Pt->Int
 | .z=>0
 | .aT p=>fI (iM p (.agg ds))
 | .el p q f=>fI (qHQ f (qH2 (iM p (.agg ds)) (iM q (.agg ds))))
def qXj (C:Cx) (f:Nat):Option Y->Option Y->Option (Nat × Int)
 | some (.sl n _ _ _ _),some (.int .i64 v c)=>match qDE C.els n v c with
  | some y=>(match qHO f y with
   | some z=>qOG z
   | none=>none)
  | none=>none
 | _,_=>none
def iU (C:Cx) (ys:List Y):Pt->Option (Nat × Int)
 | .z=>some (0,0)
 | .aT p=>match iL p (.st ys) with
  | some y=>qOG y
  | none=>none
 | .el p q f=>qXj C f (iL p (.st ys)) (iL q (.st ys))
theorem oV {σ:Wd} {C:Cx} (hC:COk σ C) {ys:List Y} {ds:List D} {p:Pt} {v:Nat} {c:Int} (hd:qV σ ys ds) (h:iU C ys p=some (v,c)):∃ x,σ[v]? = some x/\qHe ds p=x.1+c:=by
 obtain ⟨z,hz⟩:=hC.s.z
 have hst:qY σ (.st ys) (.agg ds):=by simp only [qY]; exact ⟨ds,rfl,hd⟩
 cases p with
 | z=>simp only [iU] at h; cases h; exact ⟨_,hz,by simp [qHe]⟩
 | aT p =>
  simp only [iU] at h
  split at h
  ·rename_i y hy
   exact qIu hC (m7 hst hy) h
  cases h
 | el p q f =>
  simp only [iU] at h
  unfold qXj at h
  split at h
  ·rename_i n _ _ _ _ i ci h1 h2
   split at h
   ·rename_i y hy
    split at h
    ·rename_i w hw
     have a1:=m7 hst h1
     have a2:=m7 hst h2
     simp only [qY] at a1 a2
     obtain ⟨k,hk,e2⟩:=a2
     obtain ⟨x,d,i',z',g1,g2,g3,g4,g5⟩:=sF hC.e hy
     simp only at g1 g2 g3 g4 g5
     rw [a1.1] at g1; cases g1
     rw [hk] at g2; cases g2
     have ez:qH2 (iM p (.agg ds)) (iM q (.agg ds))=z':=by
      unfold qH2
      rw [e2]
      show (iM p (.agg ds)).es.getD (k.1+ci).toNat .nil=z'
      rw [List.getD_eq_getElem?_getD,g4]; rfl
     simp only [qHe,ez]
     exact qIu hC (qKN g5 hw) h
    cases h
   cases h
  cases h
abbrev Cn:=Pt × Pt × Int
def qH6 (ds:List D) (q:Cn):Prop:=qHe ds q.1<=qHe ds q.2.1+q.2.2
def qXv (C:Cx) (ys:List Y) (q:Cn):Bool:=match iU C ys q.1,iU C ys q.2.1 with
 | some (v,c),some (w,e)=>gZ C.F C.L v c w (e+q.2.2)
 | _,_=>false
theorem qH5 {σ:Wd} {C:Cx} (hC:COk σ C) {ys:List Y} {ds:List D} {q:Cn} (hd:qV σ ys ds) (h:qXv C ys q=true):qH6 ds q:=by
 unfold qXv at h
 split at h
 ·rename_i v c w e h1 h2
  obtain ⟨x,hx,e1⟩:=oV hC hd h1
  obtain ⟨y,hy,e2⟩:=oV hC hd h2
  have:=jD hC.s h hx hy
  unfold qH6
  omega
 cases h
def qXw (C:Cx) (ys:List Y) (q:Cn):List jI:=match iU C ys q.1,iU C ys q.2.1 with
 | some (v,c),some (w,e)=>[(v,w,e+q.2.2 - c)]
 | _,_=>[]
theorem qN1 {σ:Wd} {C:Cx} (hC:COk σ C) {ys:List Y} {ds:List D} {q:Cn} (hd:qV σ ys ds) (h:qH6 ds q):∀ f∈qXw C ys q,sG σ f:=by
 unfold qXw
 split
 ·rename_i v c w e h1 h2
  obtain ⟨x,hx,e1⟩:=oV hC hd h1
  obtain ⟨y,hy,e2⟩:=oV hC hd h2
  unfold qH6 at h
  exact f1 hx hy (by omega)
 intro f hf; cases hf
def qSD (C:Cx):Option Y->Option Y->Cx
 | some (.sl n _ _ _ e),some (.int .i64 v c)=>match qPT C n e v c with
  | some (C',_)=>C'
  | none=>C
 | _,_=>C
def qIT (C:Cx) (ys:List Y):Pt->Cx
 | .el p q _=>qSD C (iL p (.st ys)) (iL q (.st ys))
 | _=>C
theorem qFB (E:Env) {σ:Wd} {C:Cx} (hC:COk σ C) {ys:List Y} {ds:List D} (hd:qV σ ys ds) (p:Pt):∃ τ,COk (σ++τ) (qIT C ys p):=by
 have hst:qY σ (.st ys) (.agg ds):=by simp only [qY]; exact ⟨ds,rfl,hd⟩
 cases p with
 | z=>exact ⟨[],kR hC⟩
 | aT p=>exact ⟨[],kR hC⟩
 | el p q f =>
  simp only [qIT]
  unfold qSD
  split
  ·rename_i h1 h2
   split
   ·rename_i C' y hi
    obtain ⟨d,τ,_,h,_⟩:=qNb (E:=E) hC (m7 hst h1) (m7 hst h2) hi
    exact ⟨τ,h⟩
   exact ⟨[],kR hC⟩
  exact ⟨[],kR hC⟩
def qPS (ys:List Y):List Cn->Cx->Cx
 | [],C=>C
 | q::r,C=>let C1:=qIT (qIT C ys q.1) ys q.2.1; qPS ys r (C1.add (qXw C1 ys q) [] [] 0)
theorem qEt (E:Env) {ys:List Y} {ds:List D}:∀ {l:List Cn} {σ:Wd} {C:Cx},COk σ C->qV σ ys ds->(∀ q∈l,qH6 ds q)->∃ τ,COk (σ++τ) (qPS ys l C)
 | [],σ,C,hC,_,_=>⟨[],kR hC⟩
 | q::r,σ,C,hC,hd,h=>by
  obtain ⟨τ1,h1⟩:=qFB E hC hd q.1
  obtain ⟨τ2,h2⟩:=qFB E h1 (zV hd) q.2.1
  rw [List.append_assoc] at h2
  have hd2:=zV (τ:=τ1++τ2) hd
  have h3:=h2.facts (qN1 h2 hd2 (h q List.mem_cons_self))
  obtain ⟨τ3,h4⟩:=qEt E h3 hd2 fun x hx=>h x (mC _ hx)
  rw [List.append_assoc] at h4
  exact ⟨_,h4⟩
structure Spec where
 ss:List Sn
 rs:List Sn
 pre:List Cn
 post:List Cn
def mW (HS:FuncId->List D->D->Prop) (f:FuncId) (S:Spec):Prop :=
 ∀ ds,vW S.ss ds->(∀ q∈S.pre,qH6 ds q)->∃ rs,vW S.rs rs/\(∀ q∈S.post,qH6 (ds++rs) q)/\HS f ds (kK rs)
end Go.Am.Tt
namespace Go.Am.Tt
open Go Go.Am
abbrev Ms:=Pt × Pt × Int
def qU2 (ds:List D) (m:Ms):Int:=qHe ds m.1 - qHe ds m.2.1+m.2.2
def qHA:List Nat->List Nat->Prop
 | a::as,b::bs=>a < b∨(a<=b/\qHA as bs)
 | _,_=>False
def qBB (ds:List D) (ms:List Ms):List Nat:=ms.map fun m=>(qU2 ds m).toNat
def qXQ (C:Cx) (ys' ys:List Y) (m' m:Ms) (k:Int):Bool:=match iU C ys' m'.1,iU C ys' m'.2.1,iU C ys m.1,iU C ys m.2.1 with
 | some (v',c'),some (w',e'),some (v,c),some (w,e) =>
  (gZ C.F C.L v' c' v (c+(m.2.2 - m'.2.2 - k)) && gZ C.F C.L w e w' e') || (gZ C.F C.L v' c' v c && gZ C.F C.L w e w' (e'+(m.2.2 - m'.2.2 - k)))
 | _,_,_,_=>false
def qTA (C:Cx) (ys:List Y) (m:Ms):Bool:=match iU C ys m.1,iU C ys m.2.1 with
 | some (v,c),some (w,e)=>gZ C.F C.L w (e+1) v (c+m.2.2)
 | _,_=>false
def qKB (C:Cx) (ys' ys:List Y):List Ms->List Ms->Bool
 | m'::r',m::r=>(qXQ C ys' ys m' m 1 && qTA C ys m) || (qXQ C ys' ys m' m 0 && qKB C ys' ys r' r)
 | _,_=>false
section
variable {σ:Wd} {C:Cx}
theorem qM7 (hC:COk σ C) {ys' ys:List Y} {ds' ds:List D} {m' m:Ms} {k:Int} (hd':qV σ ys' ds') (hd:qV σ ys ds) (h:qXQ C ys' ys m' m k=true):qU2 ds' m'+k<=qU2 ds m:=by
 unfold qXQ at h
 split at h
 ·rename_i v' c' w' e' v c w e h1 h2 h3 h4
  obtain ⟨x1,g1,q1⟩:=oV hC hd' h1
  obtain ⟨x2,g2,q2⟩:=oV hC hd' h2
  obtain ⟨x3,g3,q3⟩:=oV hC hd h3
  obtain ⟨x4,g4,q4⟩:=oV hC hd h4
  unfold qU2
  rcases Bool.or_eq_true_iff.1 h with h | h <;> rw [aE] at h
  ·have a:=jD hC.s h.1 g1 g3
   have b:=jD hC.s h.2 g4 g2
   omega
  have a:=jD hC.s h.1 g1 g3
  have b:=jD hC.s h.2 g4 g2
  omega
 cases h
theorem qPc (hC:COk σ C) {ys:List Y} {ds:List D} {m:Ms} (hd:qV σ ys ds) (h:qTA C ys m=true):1<=qU2 ds m:=by
 unfold qTA at h
 split at h
 ·rename_i v c w e h3 h4
  obtain ⟨x3,g3,q3⟩:=oV hC hd h3
  obtain ⟨x4,g4,q4⟩:=oV hC hd h4
  unfold qU2
  have a:=jD hC.s h g4 g3
  omega
 cases h
theorem qI2 (hC:COk σ C) {ys' ys:List Y} {ds' ds:List D} (hd':qV σ ys' ds') (hd:qV σ ys ds):∀ {l' l:List Ms},qKB C ys' ys l' l=true->qHA (qBB ds' l') (qBB ds l)
 | [],_,h=>by simp only [qKB] at h; cases h
 | _::_,[],h=>by simp only [qKB] at h; cases h
 | m'::r',m::r,h=>by
  simp only [qKB] at h
  simp only [qBB,List.map_cons,qHA]
  rcases Bool.or_eq_true_iff.1 h with h | h <;> rw [aE] at h
  ·have a:=qM7 hC hd' hd h.1
   have b:=qPc hC hd h.2
   left; omega
  have a:=qM7 hC hd' hd h.1
  right
  exact ⟨by omega,qI2 hC hd' hd h.2⟩
end
theorem qM6:∀ (n:Nat) (l:List Nat),l.length=n->Acc (fun a b:List Nat=>a.length=b.length/\qHA a b) l
 | 0,l,h=>by
  have:l=[]:=List.length_eq_zero_iff.1 h
  subst this
  refine ⟨_,fun y hy=>?_⟩
  cases y with
  | nil=>exact (hy.2:False).elim
  | cons _ _=>cases hy.1
 | n+1,l,h=>by
  have key:∀ (a:Nat),∀ (r:List Nat),r.length=n->Acc (fun a b:List Nat=>a.length=b.length/\qHA a b) (a::r):=by
   intro a
   induction a using Nat.strongRecOn with
   | _ a iha =>
    intro r hr
    have hacc:=qM6 n r hr
    induction hacc with
    | intro r _ ihr =>
     refine ⟨_,fun y hy=>?_⟩
     cases y with
     | nil=>cases hy.1
     | cons b s =>
      have hl:s.length=n:=by have:=hy.1; simp only [List.length_cons] at this; omega
      rcases hy.2 with hlt | ⟨hle,hs⟩
      ·exact iha b hlt s hl
      rcases Nat.lt_or_ge b a with h' | h'
      ·exact iha b h' s hl
      have:b=a:=by omega
      subst this
      exact ihr s ⟨by omega,hs⟩ hl
  cases l with
  | nil=>cases h
  | cons a r=>exact key a r (by simpa using h)
structure Hd where
 ss:List Sn
 inv:List Cn
 ms:List Ms
structure Fx where
 T:Tb
 sp:FuncId->Option Spec
 S:Spec
 hd:Nat->Option Hd
def qMl:List Y->Y
 | [y]=>y
 | l=>.tup l
def qFO:Y->Bool
 | .int _ _ _=>true
 | .bool _ _=>true
 | .str _ _=>true
 | _=>false
def qJi:Nat->Y->Bool
 | 0,_=>true
 | 1,y=>qFO y
 | _,.tup l=>l.all qFO
 | _,_=>false
def qTe (tg:Tgt) (ys:List Y):Option (FuncId × List Y):=match tg with
 | .fn f=>some (f,ys)
 | .val _=>(match ys with
  | .clo g::r=>some (g,r)
  | _=>none)
 | .meth _ _=>none
def dead (C:Cx) (t:List jI):Bool:=t.any fun q=>gZ C.F C.L q.2.1 0 q.1 (-q.2.2 - 1)
def ck (X:Fx) (y0 cur:List Y) (ms:List Ms):Tree->List Y->Cx->Bool
 | .ret xs,env,C=>match sU env C xs with
  | some (C,ys)=>cD C ys X.S.rs && X.S.post.all (qXv C (y0++ys))
  | none=>false
 | .jump k xs,env,C=>match X.hd k with
  | some h=>(match sU env C xs with
   | some (C,ys)=>cD C ys h.ss && h.inv.all (qXv C (y0++ys)) && qKB C (y0++ys) cur h.ms ms
   | none=>false)
  | none=>false
 | .bind o xs r,env,C=>match sU env C xs with
  | some (C,ys)=>(match qYn X.T C o ys with
   | some (C,y)=>ck X y0 cur ms r (env++[y]) C
   | none=>false)
  | none=>false
 | .call tg xs fl r,env,C=>match sU env C xs with
  | some (C,ys)=>(match qTe tg ys with
   | some (f,ys)=>(match X.sp f with
    | some S=>cD C ys S.ss && S.pre.all (qXv C ys) && (match pP S.rs C with
     | (C,rs)=>qJi fl (qMl rs) && ck X y0 cur ms r (env++[qMl rs]) (C.add (S.post.flatMap (qXw C (ys++rs))) [] [] 0))
    | none=>false)
   | none=>false)
  | none=>false
 | .ite c a b,env,C=>match qAA env C c with
  | some (C,.bool t f)=>(ck X y0 cur ms a env (C.add t [] [] 0) || dead C t) && (ck X y0 cur ms b env (C.add f [] [] 0) || dead C f)
  | _=>false
 | _,_,_=>false
theorem xW {σ:Wd}:∀ {a b:List Y} {x y:List D},qV σ a x->qV σ b y->qV σ (a++b) (x++y)
 | [],b,x,y,h,h'=>by simp only [qV] at h; subst h; simpa using h'
 | u::a,b,x,y,h,h'=>by
  simp only [qV] at h
  obtain ⟨d,ds,rfl,h1,h2⟩:=h
  simp only [List.cons_append,qV]
  exact ⟨_,_,rfl,h1,xW h2 h'⟩
theorem qO1 {σ:Wd} {ys:List Y} {ds:List D} (h:qV σ ys ds):qY σ (qMl ys) (kK ds):=by
 cases ys with
 | nil=>simp only [qV] at h; subst h; simp only [qMl,kK,qY]; exact ⟨_,rfl,by simp only [qV]⟩
 | cons y r =>
  have h0:=h
  simp only [qV] at h
  obtain ⟨d,ds',rfl,h1,h2⟩:=h
  cases r with
  | nil=>simp only [qV] at h2; subst h2; exact h1
  | cons z r =>
   have h3:=h2
   simp only [qV] at h2
   obtain ⟨d',ds'',rfl,_,_⟩:=h2
   simp only [qMl,kK,qY]
   exact ⟨_,rfl,h0⟩
theorem qFN {σ:Wd} {y:Y} {d:D} (hd:qY σ y d) (h:qFO y=true):∃ v,d=.leaf v:=by
 cases y <;> simp only [qFO] at h <;> first | (cases h; done) | simp only [qY] at hd
 ·obtain ⟨_,_,rfl⟩:=hd; exact ⟨_,rfl⟩
 ·obtain ⟨_,rfl,_⟩:=hd; exact ⟨_,rfl⟩
 obtain ⟨_,_,rfl,_⟩:=hd; exact ⟨_,rfl⟩
theorem qDr {σ:Wd}:∀ {ys:List Y} {ds:List D},qV σ ys ds->ys.all qFO=true->sV ds=true
 | [],ds,h,_=>by simp only [qV] at h; subst h; rfl
 | y::ys,ds,h,ha=>by
  simp only [qV] at h
  obtain ⟨d,r,rfl,h1,h2⟩:=h
  simp only [List.all_cons,aE] at ha
  obtain ⟨v,rfl⟩:=qFN h1 ha.1
  have:=qDr h2 ha.2
  simpa only [sV] using this
theorem qNu {σ:Wd} {n:Nat} {y:Y} {d:D} (hd:qY σ y d) (h:qJi n y=true):qDC n d=true:=by
 match n with
 | 0=>rfl
 | 1 =>
  simp only [qJi] at h
  obtain ⟨v,rfl⟩:=qFN hd h
  rfl
 | n+2 =>
  cases y <;> simp only [qJi] at h <;> first | (cases h; done) | skip
  simp only [qY] at hd
  obtain ⟨ds,rfl,hs⟩:=hd
  exact qDr hs h
def qY9 (X:Fx) (d0:List D) (M:List Nat):Res1->Prop
 | .ret d=>∃ rs,d=kK rs/\vW X.S.rs rs/\∀ q∈X.S.post,qH6 (d0++rs) q
 | .jump k ds=>∃ h,X.hd k=some h/\vW h.ss ds/\(∀ q∈h.inv,qH6 (d0++ds) q)/\qHA (qBB (d0++ds) h.ms) M
theorem qOK {E:Env} {σ:Wd} {tg:Tgt} {ys ys':List Y} {ds:List D} {f:FuncId} (hd:qV σ ys ds) (h:qTe tg ys=some (f,ys')):∃ ds',qA5 E tg ds=some (f,ds')/\qV σ ys' ds':=by
 unfold qTe at h
 split at h
 ·cases h; exact ⟨_,rfl,hd⟩
 ·split at h
  ·cases h
   simp only [qV] at hd
   obtain ⟨d,r,rfl,h1,h2⟩:=hd
   simp only [qY] at h1
   subst h1
   exact ⟨r,by simp [qA5],h2⟩
  cases h
 cases h
theorem qQB {σ:Wd} {C:Cx} (hC:COk σ C) {ys:List Y} {ds:List D} {l:List Cn} (hd:qV σ ys ds) (h:∀ q∈l,qH6 ds q):∀ f∈l.flatMap (qXw C ys),sG σ f:=by
 intro f hf
 obtain ⟨q,hq,hf⟩:=List.mem_flatMap.1 hf
 exact qN1 hC hd (h q hq) f hf
theorem qJw {σ:Wd} {C:Cx} (hC:COk σ C) {t:List jI} (h:dead C t=true):¬ ∀ q∈t,sG σ q:=by
 intro ha
 unfold dead at h
 obtain ⟨q,hq,h⟩:=List.any_eq_true.1 h
 obtain ⟨x,y,h1,h2,h3⟩:=ha q hq
 have:=jD hC.s h h2 h1
 omega
section
variable {E:Env} {HS:FuncId->List D->D->Prop} {X:Fx}
theorem qDO (hT:TbOk E X.T) (hsp:∀ f S,X.sp f=some S->mW HS f S) {y0 cur:List Y} {ms:List Ms} {d0 dcur:List D} :
  ∀ (t:Tree) {env:List Y} {C:Cx} {ρ:List D} {σ:Wd},COk σ C->qV σ env ρ->qV σ y0 d0->qV σ cur dcur->ck X y0 cur ms t env C=true->wp E HS (qY9 X d0 (qBB dcur ms)) t ρ
 | .fail,_,_,_,_,_,_,_,_,h=>by simp only [ck] at h; cases h
 | .stop _ _,_,_,_,_,_,_,_,_,h=>by simp only [ck] at h; cases h
 | .callM _ _ _ _,_,_,_,_,_,_,_,_,h=>by simp only [ck] at h; cases h
 | .ret xs,env,C,ρ,σ,hC,he,h0,hc,h=>by
  simp only [ck] at h
  split at h
  ·rename_i C' ys hy
   obtain ⟨τ,h1,h2⟩:=lY hC he hy
   rw [aE] at h
   simp only [wp]
   exact ⟨_,rfl,nC h1 h.1 h2,fun q hq=>qH5 h1 (xW (zV h0) h2) (List.all_eq_true.1 h.2 q hq)⟩
  cases h
 | .jump k xs,env,C,ρ,σ,hC,he,h0,hc,h=>by
  simp only [ck] at h
  split at h
  ·rename_i hh hk
   split at h
   ·rename_i C' ys hy
    obtain ⟨τ,h1,h2⟩:=lY hC he hy
    simp only [aE] at h
    simp only [wp]
    exact ⟨hh,hk,nC h1 h.1.1 h2,fun q hq=>qH5 h1 (xW (zV h0) h2) (List.all_eq_true.1 h.1.2 q hq),qI2 h1 (xW (zV h0) h2) (zV hc) h.2⟩
   cases h
  cases h
 | .bind o xs r,env,C,ρ,σ,hC,he,h0,hc,h=>by
  simp only [ck] at h
  split at h
  ·rename_i C' ys hy
   split at h
   ·rename_i C2 y ho
    obtain ⟨τ,h1,h2⟩:=lY hC he hy
    obtain ⟨d,τ',e1,e2,e3⟩:=qTH hT h1 h2 ho
    simp only [wp,e1]
    rw [List.append_assoc] at e2 e3
    exact qDO hT hsp r e2 (xW (zV he) (by simp only [qV]; exact ⟨_,_,rfl,e3,rfl⟩)) (zV h0) (zV hc) h
   cases h
  cases h
 | .call tg xs fl r,env,C,ρ,σ,hC,he,h0,hc,h=>by
  simp only [ck] at h
  split at h
  ·rename_i C' ys hy
   split at h
   ·rename_i f ys' ht
    split at h
    ·rename_i S hS
     obtain ⟨τ,h1,h2⟩:=lY hC he hy
     obtain ⟨ds',t1,t2⟩:=qOK (E:=E) h2 ht
     generalize hr:pP S.rs C'=p at h
     obtain ⟨C2,rs⟩:=p
     simp only [aE] at h
     obtain ⟨⟨a1,a2⟩,a3,a4⟩:=h
     obtain ⟨rd,b1,b2,b3⟩:=hsp f S hS ds' (nC h1 a1 t2) fun q hq=>qH5 h1 t2 (List.all_eq_true.1 a2 q hq)
     obtain ⟨τ',c1,c2⟩:=lV b1 h1
     rw [hr] at c1 c2
     simp only [wp,t1]
     have hr:=qO1 c2
     refine ⟨_,b3,qNu hr a3,?_⟩
     have c3:=c1.facts (qQB c1 (xW (zV t2) c2) b2)
     have hr:=hr
     rw [List.append_assoc] at c3 hr
     exact qDO hT hsp r c3 (xW (zV he) (by simp only [qV]; exact ⟨_,_,rfl,hr,rfl⟩)) (zV h0) (zV hc) a4
    cases h
   cases h
  cases h
 | .ite c a b,env,C,ρ,σ,hC,he,h0,hc,h=>by
  simp only [ck] at h
  split at h
  ·rename_i C' t f hy
   obtain ⟨τ,h1,h2⟩:=qJO hC he hy
   simp only [qY] at h2
   obtain ⟨v,hv,ht,hf⟩:=h2
   rw [aE] at h
   simp only [wp,hv]
   cases v with
   | true =>
    rcases Bool.or_eq_true_iff.1 h.1 with h | h
    ·exact qDO hT hsp a (h1.facts (ht rfl)) (zV he) (zV h0) (zV hc) h
    exact absurd (ht rfl) (qJw h1 h)
   | false =>
    rcases Bool.or_eq_true_iff.1 h.2 with h | h
    ·exact qDO hT hsp b (h1.facts (hf rfl)) (zV he) (zV h0) (zV hc) h
    exact absurd (hf rfl) (qJw h1 h)
  cases h
end
end Go.Am.Tt
namespace Go.Am.Tt
open Go Go.Am
def pC {α:Type}:List (Nat × α)->Nat->Option α
 | [],_=>none
 | (k,x)::r,n=>bif Nat.beq k n then some x else pC r n
theorem lP {α:Type} {l:List (Nat × α)} {n:Nat} {x:α} (h:pC l n=some x):(n,x)∈l:=by
 induction l with
 | nil=>cases h
 | cons p r ih =>
  obtain ⟨k,y⟩:=p
  simp only [pC] at h
  cases hk:Nat.beq k n with
  | true=>rw [hk] at h; have:=jF hk; subst this; cases h; exact List.mem_cons_self
  | false=>rw [hk] at h; exact mC _ (ih h)
def qJv {α:Type}:List (Nat × α)->Bool
 | []=>true
 | (k,_)::r=>(match pC r k with
  | some _=>false
  | none=>true) && qJv r
theorem qNT {α:Type} {l:List (Nat × α)} (h:qJv l=true):∀ x∈l,pC l x.1=some x.2:=by
 induction l with
 | nil=>intro x hx; cases hx
 | cons p r ih =>
  obtain ⟨k,y⟩:=p
  simp only [qJv,aE] at h
  intro x hx
  rcases List.mem_cons.1 hx with rfl | hx'
  ·simp only [pC,Nat.beq_refl,cond_true]
  have h3:=ih h.2 x hx'
  simp only [pC]
  cases hk:Nat.beq k x.1 with
  | false=>simpa using h3
  | true =>
   have e:=jF hk
   rw [e,h3] at h
   cases h.1
def qE7 (l:List (Nat × Tree)) (k:Nat):Tree:=(pC l k).getD .fail
def C0:Cx:=⟨[],[],[],1⟩
theorem qXJ:COk [(0,.nil)] C0:={ s:={ z:=⟨_,rfl⟩,f:=fun q h=>(by cases h),l:=fun q h=>(by cases h) },e:=fun e h=>(by cases h),n:=rfl }
def qLn (S:Spec):Cx × List Y:=match pP S.ss C0 with
 | (C,y0)=>(qPS y0 S.pre C,y0)
theorem qUM (E:Env) {S:Spec} {ds:List D} (h:vW S.ss ds) (hp:∀ q∈S.pre,qH6 ds q):∃ σ,COk σ (qLn S).1/\qV σ (qLn S).2 ds:=by
 obtain ⟨τ,h1,h2⟩:=lV h qXJ
 unfold qLn
 split
 rename_i C y0 hr
 rw [hr] at h1 h2
 obtain ⟨τ',h3⟩:=qEt E h1 h2 hp
 exact ⟨_,h3,zV h2⟩
def qH9 (X:Fx) (C:Cx) (y0:List Y) (h:Hd) (t:Tree):Bool:=match pP h.ss C with
 | (C,ys)=>ck X y0 (y0++ys) h.ms t ys (qPS (y0++ys) h.inv C)
def sP (X:Fx) (C:Cx) (y0:List Y) (ts:List (Nat × Tree)) (n:Nat):List (Nat × Hd)->Bool
 | []=>true
 | (k,h)::r=>Nat.beq h.ms.length n && qH9 X C y0 h (qE7 ts k) && sP X C y0 ts n r
theorem qCi {X:Fx} {C:Cx} {y0:List Y} {ts:List (Nat × Tree)} {n:Nat}:∀ {l:List (Nat × Hd)},sP X C y0 ts n l=true->∀ p∈l,p.2.ms.length=n/\qH9 X C y0 p.2 (qE7 ts p.1)=true
 | [],_,p,hp=>by cases hp
 | (k,h)::r,hc,p,hp=>by
  simp only [sP,aE] at hc
  rcases List.mem_cons.1 hp with rfl | hp
  ·exact ⟨jF hc.1.1,hc.1.2⟩
  exact qCi hc.2 p hp
section
variable {E:Env} {HS:FuncId->List D->D->Prop}
theorem qPW {T:Tb} {sp:FuncId->Option Spec} {S:Spec} {hs:List (Nat × Hd)} {rm:List Ms} {ts:List (Nat × Tree)} (hT:TbOk E T) (hsp:∀ f S,sp f=some S->mW HS f S)
  (hr:ck ⟨T,sp,S,pC hs⟩ (qLn S).2 (qLn S).2 rm (qE7 ts 0) (qLn S).2 (qLn S).1=true) (hh:sP ⟨T,sp,S,pC hs⟩ (qLn S).1 (qLn S).2 ts rm.length hs=true)
  {ds:List D} (hds:vW S.ss ds) (hp:∀ q∈S.pre,qH6 ds q):∃ rs,vW S.rs rs/\(∀ q∈S.post,qH6 (ds++rs) q)/\qK E HS (qE7 ts) 0 ds (kK rs):=by
 obtain ⟨σ,hC,hy⟩:=qUM E hds hp
 have hheads:=qCi hh
 have key:∀ M:List Nat,Acc (fun a b:List Nat=>a.length=b.length/\qHA a b) M->∀ k h es,pC hs k=some h->vW h.ss es->(∀ q∈h.inv,qH6 (ds++es) q)->qBB (ds++es) h.ms=M ->
   ∃ rs,vW S.rs rs/\(∀ q∈S.post,qH6 (ds++rs) q)/\qK E HS (qE7 ts) k es (kK rs):=by
  intro M hM
  induction hM with
  | intro M _ ih =>
   intro k h es hk hes hinv hMe
   obtain ⟨hlen,hck⟩:=hheads _ (lP hk)
   unfold qH9 at hck
   split at hck
   rename_i C' ys hfr
   obtain ⟨τ,a1,a2⟩:=lV hes hC
   rw [hfr] at a1 a2
   have hd0:=zV (τ:=τ) hy
   have hcur:=xW hd0 a2
   obtain ⟨τ',a3⟩:=qEt E a1 hcur hinv
   have:=qDO hT hsp _ a3 (zV a2) (zV hd0) (zV hcur) hck
   obtain ⟨r,h1,h2⟩:=pK _ _ this
   cases r with
   | ret d =>
    obtain ⟨rs,rfl,b1,b2⟩:=h1
    exact ⟨rs,b1,b2,qK.step (h2 _ rfl)⟩
   | jump k' es' =>
    obtain ⟨h',b1,b2,b3,b4⟩:=h1
    obtain ⟨hlen',_⟩:=hheads _ (lP b1)
    obtain ⟨rs,c1,c2,c3⟩:=ih _ ⟨by rw [← hMe]; simp only [qBB,List.length_map]; rw [hlen',hlen],by rw [← hMe]; exact b4⟩ k' h' es' b1 b2 b3 rfl
    exact ⟨rs,c1,c2,qK.step (h2 _ c3)⟩
 have:=qDO hT hsp _ hC hy hy hy hr
 obtain ⟨r,h1,h2⟩:=pK _ _ this
 cases r with
 | ret d =>
  obtain ⟨rs,rfl,b1,b2⟩:=h1
  exact ⟨rs,b1,b2,qK.step (h2 _ rfl)⟩
 | jump k' es' =>
  obtain ⟨h',b1,b2,b3,b4⟩:=h1
  obtain ⟨rs,c1,c2,c3⟩:=key _ (qM6 _ _ rfl) k' h' es' b1 b2 b3 rfl
  exact ⟨rs,c1,c2,qK.step (h2 _ c3)⟩
end
structure En where
 f:FuncId
 pats:List (Nat × Pat)
 S:Spec
 hs:List (Nat × Hd)
 rm:List Ms
def qPe (l:List (Nat × Pat)) (k:Nat):Pat:=(pC l k).getD ⟨[],[],[],[]⟩
def qOJ (E:Env) (fn:Func) (c:Code) (l:List (Nat × Pat)) (n:Nat):List (Nat × Tree) :=
 (0,qFl E (fun k S=>xK (Nat.max fn.ntmps n) (qPe l k) k S) fn n)::jU E (fun k=>(qPe l k).st (Nat.max fn.ntmps n)) (fun k S=>xK (Nat.max fn.ntmps n) (qPe l k) k S) 1 c (uB E fn.results.toList)
def qZn (T:Tb) (tab:List (FuncId × Spec)) (e:En):Fx:=⟨T,pC tab,e.S,pC e.hs⟩
def qXi (T:Tb) (tab:List (FuncId × Spec)) (e:En) (ts:List (Nat × Tree)):Bool :=
 qJv ts && (match qLn e.S with
  | (C,y0)=>ck (qZn T tab e) y0 y0 e.rm (qE7 ts 0) y0 C && sP (qZn T tab e) C y0 ts e.rm.length e.hs)
theorem qO6 {P : Program} (h : nX P = true) {fn : Func} {c : Code} (hm : fn ∈ P.funcs.toList) (hb : fn.body = some c) : (fn.name == "runtime.NumGoroutine" || !zT c) = false := by
 unfold nX at h
 rw [aE] at h
 have:=List.all_eq_true.1 h.2 fn hm
 rw [hb] at this
 simp only [aE,Bool.not_eq_true'] at this
 rw [this.1,this.2]; rfl
def qKp:List Func->Nat->Option Func
 | [],_=>none
 | f::_,0=>some f
 | _::r,n+1=>qKp r n
theorem qIX:∀ {l:List Func} {n:Nat},qKp l n=l[n]?
 | [],n=>by simp [qKp]
 | f::_,0=>by simp [qKp]
 | _::r,n+1=>by simp [qKp,qIX (l:=r)]
def qUu (E:Env) (P:Program) (T:Tb) (tab:List (FuncId × Spec)) (e:En):Bool:=Nat.blt e.f nK && (match qKp P.funcs.toList e.f with
 | some fn=>(match fn.body with
  | some c=>qXi T tab e (qOJ E fn c e.pats e.S.ss.length)
  | none=>false)
 | none=>false)
def uN (E:Env) (P:Program):Prop:=∀ (f:FuncId) (fn:Func) (c:Code),P.funcs.toList[f]? = some fn->fn.body=some c->E.funcs.get f=some fn
theorem qKH {P:Program} (hr:nX P=true):uN (qGr P) P:=fun _ _ _ h hc=>qJr (by simpa using h) hc (qO6 hr (List.mem_of_getElem? h) hc)
theorem qQr {E:Env} {P:Program} (he:EOk E) (hr:uN E P) {T:Tb} (hT:TbOk E T) {tab:List (FuncId × Spec)} (htab:∀ p∈tab,mW (qB E) p.1 p.2) {e:En} (h:qUu E P T tab e=true):mW (qB E) e.f e.S:=by
 unfold qUu at h
 rw [aE] at h
 obtain ⟨h1,h2⟩:=h
 split at h2
 ·rename_i fn hfn
  rw [qIX] at hfn
  split at h2
  ·rename_i c hc
   have hfn2:E.funcs.get e.f=some fn:=hr e.f fn c hfn hc
   unfold qXi at h2
   rw [aE] at h2
   obtain ⟨h3,h4⟩:=h2
   have hd:=qNT h3
   split at h4
   rename_i C y0 hb
   rw [aE] at h4
   intro ds hds hp
   have hb1:C=(qLn e.S).1:=by rw [hb]
   have hb2:y0=(qLn e.S).2:=by rw [hb]
   subst hb1 hb2
   obtain ⟨rs,r1,r2,r3⟩:=qPW hT (fun f S hf=>htab (f,S) (lP hf)) h4.1 h4.2 hds hp
   refine ⟨rs,r1,r2,?_⟩
   have hl:ds.length=e.S.ss.length:=tN hds
   refine qFW he hfn2 hc (pats:=qPe e.pats) hl ?_ ?_ r3 (lB h1)
   ·have:=hd _ List.mem_cons_self
    unfold qE7
    rw [this]; rfl
   intro x hx
   have:=hd x (mC _ hx)
   unfold qE7
   rw [this]; rfl
  cases h2
 cases h2
def qDT (E:Env) (P:Program) (T:Tb):List (FuncId × Spec)->List En->Bool
 | _,[]=>true
 | tab,e::r=>qUu E P T tab e && qDT E P T ((e.f,e.S)::tab) r
def uT:List (FuncId × Spec)->List En->List (FuncId × Spec)
 | tab,[]=>tab
 | tab,e::r=>uT ((e.f,e.S)::tab) r
theorem eP {E:Env} {P:Program} (he:EOk E) (hr:uN E P) {T:Tb} (hT:TbOk E T):∀ {l:List En} {tab:List (FuncId × Spec)},(∀ p∈tab,mW (qB E) p.1 p.2)->qDT E P T tab l=true->∀ p∈uT tab l,mW (qB E) p.1 p.2
 | [],tab,ht,_=>ht
 | e::r,tab,ht,h=>by
  rw [qDT,aE] at h
  have h2:∀ p∈(e.f,e.S)::tab,mW (qB E) p.1 p.2:=by
   intro p hp
   rcases List.mem_cons.1 hp with rfl | hp
   ·exact qQr he hr hT ht h.1
   exact ht p hp
  show ∀ p∈uT ((e.f,e.S)::tab) r,mW (qB E) p.1 p.2
  exact eP he hr hT h2 h.2
def qXS:List (TypeId × TypeId × IntKind × IntKind)->TypeId->TypeId->IntKind->Option IntKind
 | [],_,_,_=>none
 | (a,b,k,k')::r,s,d,q=>bif Nat.beq a s && Nat.beq b d && decide (k=q) then some k' else qXS r s d q
def qWr:List (Bool × TypeId × Int)->Bool->TypeId->Int->Bool
 | [],_,_,_=>false
 | (m,t,c)::r,m',t',c'=>(bif (bif m then m' else !m') && Nat.beq t t' && decide (c=c') then true else qWr r m' t' c')
def qMv (cv:List (TypeId × TypeId × IntKind × IntKind)) (qr:List (Bool × TypeId × Int)) (o:TOp) (ys:List Y):Option IntKind:=match o,ys with
 | .conv s d,[.int k _ _]=>qXS cv s d k
 | .bin .quo t _ _,[.int .i64 _ _,.int .i64 v c]=>bif Nat.beq v 0 && qWr qr false t c then some .i64 else none
 | .bin .rem t _ _,[.int .i64 _ _,.int .i64 v c]=>bif Nat.beq v 0 && qWr qr true t c then some .i64 else none
 | _,_=>none
def qXI (E:Env) (x:TypeId × TypeId × IntKind × IntKind):Prop:=∀ m:Int,∃ n:Int,TOp.eval E (.conv x.1 x.2.1) [.leaf (.int x.2.2.1 m)]=some (.leaf (.int x.2.2.2 n))
def qXG (E:Env) (x:Bool × TypeId × Int):Prop:=∀ (m:Int) (o p:Operand),∃ n:Int,TOp.eval E (.bin (bif x.1 then .rem else .quo) x.2.1 o p) [dI m,dI x.2.2]=some (dI n)
def qQX (E:Env) (x:Nat × (Nat × List Sn)):Prop:=(nO E.prog x.2.1 x.1,oO E.prog x.1,Nat.ble x.2.1 10000,E.prog.eqGuardType E.prog.depth x.1,(Sn.shs x.2.2).all qDB,Sn.lows x.2.2)=(some (Sn.shs x.2.2),true,true,false,true,true)
theorem qNV:∀ {l:List (TypeId × TypeId × IntKind × IntKind)} {s d:TypeId} {q k:IntKind},qXS l s d q=some k->(s,d,q,k)∈l
 | [],_,_,_,_,h=>by cases h
 | (a,b,k,k')::r,s,d,q,z,h=>by
  simp only [qXS] at h
  cases hb:(Nat.beq a s && Nat.beq b d && decide (k=q)) with
  | true =>
   rw [hb] at h; cases h
   simp only [aE] at hb
   have h1:=jF hb.1.1
   have h2:=jF hb.1.2
   have h3:=dT hb.2
   subst h1 h2 h3
   exact List.mem_cons_self
  | false=>rw [hb] at h; exact mC _ (qNV h)
theorem qHm:∀ {l:List (Bool × TypeId × Int)} {m:Bool} {t:TypeId} {c:Int},qWr l m t c=true->(m,t,c)∈l
 | [],_,_,_,h=>by cases h
 | (a,b,e)::r,m,t,c,h=>by
  simp only [qWr] at h
  cases hb:((bif a then m else !m) && Nat.beq b t && decide (e=c)) with
  | true =>
   simp only [aE] at hb
   have h2:=jF hb.1.2
   have h3:=dT hb.2
   subst h2 h3
   have h1:a=m:=by cases a <;> cases m <;> first | rfl | (cases hb.1.1)
   subst h1
   exact List.mem_cons_self
  | false=>rw [hb] at h; exact mC _ (qHm h)
def qWh (sh:List (Nat × Sn)) (cv:List (TypeId × TypeId × IntKind × IntKind)) (qr:List (Bool × TypeId × Int)) (st:List (Nat × (Nat × List Sn))):Tb:=⟨pC sh,qMv cv qr,pC st⟩
theorem qWL {σ:Wd} {C:Cx} (hC:COk σ C) {k:IntKind} {v:Nat} {c:Int} {d:D} (hv:Nat.beq v 0=true) (h:qY σ (.int k v c) d):d=.leaf (.int k c):=by
 have hv:=jF hv
 subst hv
 obtain ⟨z,hz⟩:=hC.s.z
 simp only [qY] at h
 obtain ⟨x,hx,rfl⟩:=h
 rw [hz] at hx; cases hx
 simp
theorem qWg {E:Env} {sh:List (Nat × Sn)} {cv:List (TypeId × TypeId × IntKind × IntKind)} {qr:List (Bool × TypeId × Int)} {st:List (Nat × (Nat × List Sn))}
  (h1:∀ x∈cv,qXI E x) (h2:∀ x∈qr,qXG E x) (h3:∀ x∈st,qQX E x):TbOk E (qWh sh cv qr st) where
 o:=by
  intro o ys k h σ C ds hC hd
  have h:qMv cv qr o ys=some k:=h
  unfold qMv at h
  split at h
  ·simp only [qV] at hd
   obtain ⟨d,_,rfl,hd,rfl⟩:=hd
   simp only [qY] at hd
   obtain ⟨x,_,rfl⟩:=hd
   exact h1 _ (qNV h) _
  ·simp only [qV] at hd
   obtain ⟨d,_,rfl,hd,e,_,rfl,he,rfl⟩:=hd
   obtain ⟨hb,h⟩:=zW h
   cases h
   rw [aE] at hb
   rw [qWL hC hb.1 he]
   simp only [qY] at hd
   obtain ⟨x,_,rfl⟩:=hd
   exact h2 _ (qHm hb.2) _ _ _
  ·simp only [qV] at hd
   obtain ⟨d,_,rfl,hd,e,_,rfl,he,rfl⟩:=hd
   obtain ⟨hb,h⟩:=zW h
   cases h
   rw [aE] at hb
   rw [qWL hC hb.1 he]
   simp only [qY] at hd
   obtain ⟨x,_,rfl⟩:=hd
   exact h2 _ (qHm hb.2) _ _ _
  cases h
 s:=by
  intro t k ss h
  have:=h3 _ (lP h)
  unfold qQX at this
  simp only [Prod.mk.injEq] at this
  exact ⟨this.1,this.2.1,lB this.2.2.1,this.2.2.2.1,this.2.2.2.2.1,this.2.2.2.2.2⟩
theorem qUR {α:Type} {P:α->Prop}:∀ x∈([]:List α),P x:=fun _ h=>by cases h
theorem qCD {α:Type} {P:α->Prop} {a:α} {r:List α} (h:P a) (hr:∀ x∈r,P x):∀ x∈a::r,P x:=by
 intro x hx
 rcases List.mem_cons.1 hx with rfl | hx
 ·exact h
 exact hr x hx
end Go.Am.Tt
namespace Go.Am.Tt
open Go Go.Am
mutual
def Sn.big:Sn->Bool
 | .int _=>true
 | .bool=>true
 | .str n=>Nat.beq n 300000000
 | .st fs=>Sn.bigs fs
 | .sl _ _ n e=>Nat.beq n 300000000 && Sn.big e
 | .any=>false
def Sn.bigs:List Sn->Bool
 | []=>true
 | s::r=>Sn.big s && Sn.bigs r
end
mutual
theorem qBP:∀ {s:Sn} {d:D},Sn.big s=true->qI 300000000 s.sh d->vI s d
 | .int k,d,_,h=>by simp only [Sn.sh,qI] at h; simp only [vI]; exact h
 | .bool,d,_,h=>by simp only [Sn.sh,qI] at h; simp only [vI]; exact h
 | .str n,d,hl,h=>by
  have:=jF hl
  subst this
  simp only [Sn.sh,qI] at h; simp only [vI]; exact h
 | .st fs,d,hl,h=>by
  simp only [Sn.sh,qI] at h; simp only [vI]
  obtain ⟨cs,hd,h⟩:=h
  exact ⟨cs,hd,aU hl h⟩
 | .sl el sz n e,d,hl,h=>by
  simp only [Sn.big,aE] at hl
  have:=jF hl.1
  subst this
  simp only [Sn.sh,qI] at h; simp only [vI]
  rcases h with h | ⟨es,hd,hn,ha⟩
  ·exact .inl h
  exact .inr ⟨es,hd,hn,fun x hx=>qBP hl.2 (ha x hx)⟩
 | .any,d,hl,h=>by cases hl
theorem aU:∀ {ss:List Sn} {ds:List D},Sn.bigs ss=true->jJ 300000000 (Sn.shs ss) ds->vW ss ds
 | [],ds,_,h=>by simp only [Sn.shs,jJ] at h; simp only [vW]; exact h
 | s::r,ds,hl,h=>by
  simp only [Sn.bigs,aE] at hl
  simp only [Sn.shs,jJ] at h; simp only [vW]
  obtain ⟨d,r',hd,h1,h2⟩:=h
  exact ⟨d,r',hd,qBP hl.1 h1,aU hl.2 h2⟩
end
mutual
def Sn.least (B:Nat):Sn->Bool
 | .int _=>true
 | .bool=>true
 | .str n=>Nat.ble B n
 | .st fs=>Sn.leasts B fs
 | .sl _ _ n e=>Nat.ble B n && Sn.least B e
 | .any=>false
def Sn.leasts (B:Nat):List Sn->Bool
 | []=>true
 | s::r=>Sn.least B s && Sn.leasts B r
end
mutual
theorem qBO {B:Nat}:∀ {s:Sn} {d:D},Sn.least B s=true->qI B s.sh d->vI s d
 | .int k,d,_,h=>by simp only [Sn.sh,qI] at h; simp only [vI]; exact h
 | .bool,d,_,h=>by simp only [Sn.sh,qI] at h; simp only [vI]; exact h
 | .str n,d,hl,h=>by
  have:=lB hl
  simp only [Sn.sh,qI] at h; simp only [vI]
  obtain ⟨s,hs,hn⟩:=h
  exact ⟨s,hs,lT hn this⟩
 | .st fs,d,hl,h=>by
  simp only [Sn.sh,qI] at h; simp only [vI]
  obtain ⟨cs,hd,h⟩:=h
  exact ⟨cs,hd,dK hl h⟩
 | .sl el sz n e,d,hl,h=>by
  simp only [Sn.least,aE] at hl
  have:=lB hl.1
  simp only [Sn.sh,qI] at h; simp only [vI]
  rcases h with h | ⟨es,hd,hn,ha⟩
  ·exact .inl h
  exact .inr ⟨es,hd,lT hn this,fun x hx=>qBO hl.2 (ha x hx)⟩
 | .any,d,hl,h=>by cases hl
theorem dK {B:Nat}:∀ {ss:List Sn} {ds:List D},Sn.leasts B ss=true->jJ B (Sn.shs ss) ds->vW ss ds
 | [],ds,_,h=>by simp only [Sn.shs,jJ] at h; simp only [vW]; exact h
 | s::r,ds,hl,h=>by
  simp only [Sn.leasts,aE] at hl
  simp only [Sn.shs,jJ] at h; simp only [vW]
  obtain ⟨d,r',hd,h1,h2⟩:=h
  exact ⟨d,r',hd,qBO hl.1 h1,dK hl.2 h2⟩
end
theorem qIA {E:Env} {x:Nat × (Nat × List Sn)} (h:(nO E.prog x.2.1 x.1,oO E.prog x.1,Nat.ble x.2.1 10000,E.prog.eqGuardType E.prog.depth x.1,(Sn.shs x.2.2).all qDB,Sn.lows x.2.2)=(some (Sn.shs x.2.2),true,true,false,true,true)):qQX E x:=h
section
variable {HS:FuncId->List D->D->Prop}
theorem uU {tab:List (FuncId × Spec)} (h:∀ p∈tab,mW HS p.1 p.2) {f:FuncId} {S:Spec} (hl:pC tab f=some S):mW HS f S:=h (f,S) (lP hl)
theorem qWl {f:FuncId} {S:Spec} {r:Sn} (h:mW HS f S) (hr:S.rs=[r]) (hp:S.pre=[]) (hb:Sn.bigs S.ss=true) (hl:Sn.low r=true) {ds:List D} (hd:jJ 300000000 (Sn.shs S.ss) ds):∃ d,qI 300000000 r.sh d/\HS f ds d:=by
 obtain ⟨rs,h1,_,h2⟩:=h ds (aU hb hd) (by rw [hp]; intro q hq; cases hq)
 rw [hr] at h1
 simp only [vW] at h1
 obtain ⟨d,_,rfl,h3,rfl⟩:=h1
 exact ⟨d,oP hl h3,h2⟩
end
end Go.Am.Tt
