/- Data checked symbolically: the arguments of a step. Conditions: none. -/
import Derived.Test.YtnemldklhelbeaaGreatTt
import Derived.Test.YtnemldklhelbeaaGreatAm7
set_option linter.unusedVariables false
set_option linter.unusedSimpArgs false
namespace Go.Am.Tt
open Go Go.Am
def qLB:jB:=(0,0,-1)
def qBJ (σ:Wd) (r:Cx × Y) (d:D):Prop:=∃ τ,COk (σ++τ) r.1/\qS (σ++τ) r.2 d
def qMy (σ:Wd) (r:Cx × List Y) (ds:List D):Prop:=∃ τ,COk (σ++τ) r.1/\qR (σ++τ) r.2 ds
theorem qBJ.here {σ:Wd} {C:Cx} {y:Y} {d:D} (hC:COk σ C) (h:qS σ y d):qBJ σ (C,y) d:=⟨[],yK hC,by rw [List.append_nil]; exact h⟩
theorem qBJ.st {σ:Wd} {r:Cx × List Y} {ds:List D} (h:qMy σ r ds):qBJ σ (r.1,.st r.2) (.agg ds):=by
 obtain ⟨τ,h1,h2⟩:=h
 exact ⟨τ,h1,by simp only [qS]; exact ⟨ds,rfl,h2⟩⟩
def qKv {α:Type} (f:Cx->α->Option (Cx × Y)):Cx->List α->Option (Cx × List Y)
 | C,[]=>some (C,[])
 | C,x::r=>match f C x with
  | some (C1,y)=>(match qKv f C1 r with
   | some (C2,ys)=>some (C2,y::ys)
   | none=>none)
  | none=>none
theorem qGW {α:Type} {f:Cx->α->Option (Cx × Y)} {g:α->D} {P:Wd->Prop} (hP:∀ {σ τ},P σ->P (σ++τ)) :
  ∀ (l:List α),(∀ x∈l,∀ {σ C r},P σ->COk σ C->f C x=some r->qBJ σ r (g x))->∀ {σ C r},P σ->COk σ C->qKv f C l=some r->qMy σ r (l.map g)
 | [],_,σ,C,r,_,hC,h=>by
  simp only [qKv] at h; cases h
  exact ⟨[],yK hC,by simp only [List.map_nil,qR]⟩
 | x::l,hf,σ,C,r,hp,hC,h=>by
  simp only [qKv] at h
  split at h
  ·rename_i C1 y hy
   split at h
   ·rename_i C2 ys hys
    cases h
    obtain ⟨τ,h1,h2⟩:=hf x List.mem_cons_self hp hC hy
    obtain ⟨τ',h3,h4⟩:=qGW hP l (fun z hz=>hf z (mC _ hz)) (hP hp) h1 hys
    refine ⟨τ++τ',by rw [← List.append_assoc]; exact h3,?_⟩
    simp only [List.map_cons,qR]
    refine ⟨_,_,rfl,?_,?_⟩
    ·rw [← List.append_assoc]; exact o8 h2
    rw [← List.append_assoc]; exact h4
   cases h
  cases h
def qOa (C:Cx):Value->Option (Cx × Y)
 | .int k n=>some (C,.int k 0 n)
 | .bool b=>some (C,.bool (bif b then [] else [qLB]) (bif b then [qLB] else []))
 | .slice none _ _=>some (C,.nil)
 | .string s=>some (C.add [(C.nx,0,(s.size:Int)),(0,C.nx,-(s.size:Int))] [(C.nx,s.size)] [] 1,.str C.nx s.size)
 | _=>none
def qN9:Nat->Cx->Value->Option (Cx × Y)
 | 0,C,v=>qOa C v
 | n+1,C,v=>match v with
  | .agg cs=>(match qKv (qN9 n) C cs.toList with
   | some (C',ys)=>some (C',.st ys)
   | none=>none)
  | v=>qOa C v
theorem qHI {σ:Wd} {C:Cx} (hC:COk σ C) {v:Value} {r:Cx × Y} (h:qOa C v=some r) (n:Nat):qBJ σ r (iD n v):=by
 obtain ⟨z,hz⟩:=hC.s.z
 unfold qOa at h
 split at h
 ·cases h
  have:∀ n (k:IntKind) (x:Int),iD n (.int k x)=.leaf (.int k x):=fun n k x=>by cases n <;> rfl
  rw [this]
  refine .here hC ?_
  simp only [qS]
  exact ⟨_,hz,by simp⟩
 ·rename_i b
  cases h
  have:∀ n (b:Bool),iD n (.bool b)=.leaf (.bool b):=fun n b=>by cases n <;> rfl
  rw [this]
  refine .here hC ?_
  simp only [qS]
  refine ⟨b,rfl,fun hb q hq=>?_,fun hb q hq=>?_⟩ <;> subst hb <;> cases hq
 ·cases h
  have:∀ n (a b:Nat),iD n (.slice none a b)=.nil:=fun n a b=>by cases n <;> rfl
  rw [this]
  refine .here hC ?_
  simp only [qS]
 ·rename_i s
  cases h
  have:∀ n (s:ByteArray),iD n (.string s)=.leaf (.string s):=fun n s=>by cases n <;> rfl
  rw [this]
  refine ⟨[((s.size:Int),.nil)],hC.ext (f2 ⟨_,_,get_new hC _,zU hz,by simp only; omega⟩ ⟨_,_,zU hz,get_new hC _,by simp only; omega⟩) (fun q hq=>?_) (by simp) rfl,?_⟩
  ·rw [List.mem_singleton] at hq; subst hq
   exact ⟨_,get_new hC _,by simp,by simp⟩
  simp only [qS]
  exact ⟨s,_,rfl,get_new hC _,rfl,zT _⟩
 cases h
theorem qDe:∀ (n:Nat) {σ:Wd} {C:Cx} {v:Value} {r:Cx × Y},COk σ C->qN9 n C v=some r->qBJ σ r (iD n v)
 | 0,σ,C,v,r,hC,h=>qHI hC h 0
 | n+1,σ,C,v,r,hC,h=>by
  simp only [qN9] at h
  split at h
  ·rename_i cs
   split at h
   ·rename_i C' ys hs
    cases h
    have:=qGW (g:=iD n) (P:=fun _=>True) (fun h=>h) cs.toList (fun x _ {σ C r} _ hC hx=>qDe n hC hx) trivial hC hs
    exact qBJ.st this
   cases h
  exact qHI hC h _
theorem getD_some {ρ:List D} {i:Nat} {d:D} (h:ρ[i]? = some d):getD ρ i=d:=by
 unfold getD
 rw [List.getD_eq_getElem?_getD,h]; rfl
mutual
def sY (env:List Y):Cx->SV->Option (Cx × Y)
 | C,.v i=>match env[i]? with
  | some y=>some (C,y)
  | none=>none
 | C,.c v=>qN9 6 C v
 | C,.agg cs=>match fQ env C cs with
  | some (C',ys)=>some (C',.st ys)
  | none=>none
 | C,.fn f a b=>match f,a,b with
  | .func f,[],[]=>some (C,.clo f)
  | _,_,_=>none
 | C,.tup _=>some (C,.any)
 | _,_=>none
def fQ (env:List Y):Cx->List SV->Option (Cx × List Y)
 | C,[]=>some (C,[])
 | C,x::r=>match sY env C x with
  | some (C1,y)=>(match fQ env C1 r with
   | some (C2,ys)=>some (C2,y::ys)
   | none=>none)
  | none=>none
end
mutual
theorem qHS {env:List Y} {ρ:List D}:∀ {x:SV} {σ:Wd} {C:Cx} {r:Cx × Y},COk σ C->qR σ env ρ->sY env C x=some r->qBJ σ r (x.d (getD ρ))
 | .v i,σ,C,r,hC,he,h=>by
  simp only [sY] at h
  split at h
  ·rename_i y hy
   cases h
   obtain ⟨d,h1,h2⟩:=k9 he hy
   simp only [SV.d,getD_some h1]; exact .here hC h2
  cases h
 | .c v,σ,C,r,hC,he,h=>by
  simp only [sY] at h
  simp only [SV.d]
  exact qDe 6 hC h
 | .agg cs,σ,C,r,hC,he,h=>by
  simp only [sY] at h
  split at h
  ·rename_i C' ys hs
   cases h
   simp only [SV.d]
   exact qBJ.st (nS hC he hs)
  cases h
 | .fn f a b,σ,C,r,hC,he,h=>by
  simp only [sY] at h
  split at h
  ·cases h
   refine .here hC ?_
   simp only [SV.d,SV.ds,qS]
  cases h
 | .loc _ _,_,_,_,_,_,h=>by simp only [sY] at h; cases h
 | .ptr _ _ _ _,_,_,_,_,_,h=>by simp only [sY] at h; cases h
 | .pp _ _,_,_,_,_,_,h=>by simp only [sY] at h; cases h
 | .tup _,σ,C,r,hC,he,h=>by
  simp only [sY] at h; cases h
  exact .here hC (by simp only [qS])
 | .ifc _ _,_,_,_,_,_,h=>by simp only [sY] at h; cases h
theorem nS {env:List Y} {ρ:List D}:∀ {xs:List SV} {σ:Wd} {C:Cx} {r:Cx × List Y},COk σ C->qR σ env ρ->fQ env C xs=some r->qMy σ r (SV.ds (getD ρ) xs)
 | [],σ,C,r,hC,he,h=>by
  simp only [fQ] at h; cases h
  exact ⟨[],yK hC,by simp only [SV.ds,qR]⟩
 | x::l,σ,C,r,hC,he,h=>by
  simp only [fQ] at h
  split at h
  ·rename_i C1 y hy
   split at h
   ·rename_i C2 ys hys
    cases h
    obtain ⟨τ,h1,h2⟩:=qHS hC he hy
    obtain ⟨τ',h3,h4⟩:=nS h1 (zN he) hys
    refine ⟨τ++τ',by rw [← List.append_assoc]; exact h3,?_⟩
    simp only [SV.ds,qR]
    refine ⟨_,_,rfl,?_,?_⟩
    ·rw [← List.append_assoc]; exact o8 h2
    rw [← List.append_assoc]; exact h4
   cases h
  cases h
end
end Go.Am.Tt
namespace Go.Am.Tt
open Go Go.Am
def f6:D->Int
 | .leaf (.int _ n)=>n
 | .leaf (.string s)=>(s.size:Int)
 | d=>(d.es.length:Int)
def qMR:Y->Option (Nat × Int)
 | .int _ v c=>some (v,c)
 | .sl n _ _ _ _=>some (n,0)
 | .str n _=>some (n,0)
 | .nil=>some (0,0)
 | _=>none
theorem qGP {σ:Wd} {C:Cx} (hC:COk σ C) {y:Y} {d:D} {v:Nat} {c:Int} (hd:qS σ y d) (h:qMR y=some (v,c)):∃ x,σ[v]? = some x/\f6 d=x.1+c:=by
 obtain ⟨z,hz⟩:=hC.s.z
 cases y <;> simp only [qMR] at h <;> first | (cases h; done) | cases h
 ·simp only [qS] at hd
  obtain ⟨x,hx,rfl⟩:=hd
  exact ⟨x,hx,rfl⟩
 ·simp only [qS] at hd
  obtain ⟨s,x,rfl,hx,hs,_⟩:=hd
  exact ⟨x,hx,by show (s.size:Int)=_; omega⟩
 ·simp only [qS] at hd
  refine ⟨_,hd.1,?_⟩
  have h2:=hd.2
  simp only [vG] at h2
  rcases h2 with rfl | ⟨es,rfl,_⟩
  ·show (0:Int)=_; simp [D.es]
  show ((es.length:Nat):Int)=_; simp [D.es]
 simp only [qS] at hd
 subst hd
 exact ⟨_,hz,by show ((D.nil.es.length:Nat):Int)=_; simp [D.es]⟩
def dS:List Nat->D->D
 | [],d=>d
 | i::r,d=>dS r (match d with | .agg cs=>getD cs i | _=>.nil)
def dR:List Nat->Y->Option Y
 | [],y=>some y
 | i::r,.st cs=>match cs[i]? with
  | some y=>dR r y
  | none=>none
 | _::_,_=>none
theorem rV {σ:Wd}:∀ {p:List Nat} {y y':Y} {d:D},qS σ y d->dR p y=some y'->qS σ y' (dS p d)
 | [],y,y',d,hd,h=>by simp only [dR] at h; cases h; exact hd
 | i::r,y,y',d,hd,h=>by
  cases y <;> simp only [dR] at h <;> first | (cases h; done) | skip
  simp only [qS] at hd
  obtain ⟨ds,rfl,hs⟩:=hd
  split at h
  ·rename_i q hq
   obtain ⟨e,he,hr⟩:=k9 hs hq
   simp only [dS,getD_some he]
   exact rV hr h
  cases h
inductive Pt where
 | z
 | aT (p:List Nat)
 | el (p q:List Nat) (f:Nat)
def qGb (f:Nat):D->D
 | .agg cs=>getD cs f
 | d=>d
def qF9 (f:Nat):Y->Option Y
 | .st cs=>cs[f]?
 | .sl n el sz b e=>some (.sl n el sz b e)
 | .str n b=>some (.str n b)
 | .int k v c=>some (.int k v c)
 | _=>none
theorem qIP {σ:Wd} {f:Nat} {y y':Y} {d:D} (hd:qS σ y d) (h:qF9 f y=some y'):qS σ y' (qGb f d):=by
 cases y <;> simp only [qF9] at h <;> first | (cases h; done) | skip
 ·cases h
  have h0:=hd
  simp only [qS] at hd
  obtain ⟨x,_,rfl⟩:=hd
  exact h0
 ·cases h
  have h0:=hd
  simp only [qS] at hd
  obtain ⟨s,x,rfl,_⟩:=hd
  exact h0
 ·cases h
  have h0:=hd
  simp only [qS,vG] at hd
  rcases hd.2 with rfl | ⟨es,rfl,_⟩ <;> exact h0
 simp only [qS] at hd
 obtain ⟨ds,rfl,hs⟩:=hd
 obtain ⟨e,he,hr⟩:=k9 hs h
 simp only [qGb,getD_some he]; exact hr
def qGk (d i:D):D:=d.es.getD (f6 i).toNat .nil
def qFA (ds:List D):Pt->Int
 | .z=>0
 | .aT p=>f6 (dS p (.agg ds))
 | .el p q f=>f6 (qGb f (qGk (dS p (.agg ds)) (dS q (.agg ds))))
def qVw (C:Cx) (f:Nat):Option Y->Option Y->Option (Nat × Int)
 | some (.sl n _ _ _ _),some (.int .i64 v c)=>match qCl C.els n v c with
  | some y=>(match qF9 f y with
   | some z=>qMR z
   | none=>none)
  | none=>none
 | _,_=>none
def eE (C:Cx) (ys:List Y):Pt->Option (Nat × Int)
 | .z=>some (0,0)
 | .aT p=>match dR p (.st ys) with
  | some y=>qMR y
  | none=>none
 | .el p q f=>qVw C f (dR p (.st ys)) (dR q (.st ys))
theorem gJ {σ:Wd} {C:Cx} (hC:COk σ C) {ys:List Y} {ds:List D} {p:Pt} {v:Nat} {c:Int} (hd:qR σ ys ds) (h:eE C ys p=some (v,c)):∃ x,σ[v]? = some x/\qFA ds p=x.1+c:=by
 obtain ⟨z,hz⟩:=hC.s.z
 have hst:qS σ (.st ys) (.agg ds):=by simp only [qS]; exact ⟨ds,rfl,hd⟩
 cases p with
 | z=>simp only [eE] at h; cases h; exact ⟨_,hz,by simp [qFA]⟩
 | aT p =>
  simp only [eE] at h
  split at h
  ·rename_i y hy
   exact qGP hC (rV hst hy) h
  cases h
 | el p q f =>
  simp only [eE] at h
  unfold qVw at h
  split at h
  ·rename_i n _ _ _ _ i ci h1 h2
   split at h
   ·rename_i y hy
    split at h
    ·rename_i w hw
     have a1:=rV hst h1
     have a2:=rV hst h2
     simp only [qS] at a1 a2
     obtain ⟨k,hk,e2⟩:=a2
     obtain ⟨x,d,i',z',g1,g2,g3,g4,g5⟩:=fE hC.e hy
     simp only at g1 g2 g3 g4 g5
     rw [a1.1] at g1; cases g1
     rw [hk] at g2; cases g2
     have ez:qGk (dS p (.agg ds)) (dS q (.agg ds))=z':=by
      unfold qGk
      rw [e2]
      show (dS p (.agg ds)).es.getD (k.1+ci).toNat .nil=z'
      rw [List.getD_eq_getElem?_getD,g4]; rfl
     simp only [qFA,ez]
     exact qGP hC (qIP g5 hw) h
    cases h
   cases h
  cases h
abbrev Cn:=Pt × Pt × Int
def qGn (ds:List D) (q:Cn):Prop:=qFA ds q.1<=qFA ds q.2.1+q.2.2
def qVC (C:Cx) (ys:List Y) (q:Cn):Bool:=match eE C ys q.1,eE C ys q.2.1 with
 | some (v,c),some (w,e)=>kU C.F C.L v c w (e+q.2.2)
 | _,_=>false
theorem qGm {σ:Wd} {C:Cx} (hC:COk σ C) {ys:List Y} {ds:List D} {q:Cn} (hd:qR σ ys ds) (h:qVC C ys q=true):qGn ds q:=by
 unfold qVC at h
 split at h
 ·rename_i v c w e h1 h2
  obtain ⟨x,hx,e1⟩:=gJ hC hd h1
  obtain ⟨y,hy,e2⟩:=gJ hC hd h2
  have:=v5 hC.s h hx hy
  unfold qGn
  omega
 cases h
def qVD (C:Cx) (ys:List Y) (q:Cn):List jB:=match eE C ys q.1,eE C ys q.2.1 with
 | some (v,c),some (w,e)=>[(v,w,e+q.2.2 - c)]
 | _,_=>[]
theorem qL5 {σ:Wd} {C:Cx} (hC:COk σ C) {ys:List Y} {ds:List D} {q:Cn} (hd:qR σ ys ds) (h:qGn ds q):∀ f∈qVD C ys q,fF σ f:=by
 unfold qVD
 split
 ·rename_i v c w e h1 h2
  obtain ⟨x,hx,e1⟩:=gJ hC hd h1
  obtain ⟨y,hy,e2⟩:=gJ hC hd h2
  unfold qGn at h
  exact f1 hx hy (by omega)
 intro f hf; cases hf
def qQ1 (C:Cx):Option Y->Option Y->Cx
 | some (.sl n _ _ _ e),some (.int .i64 v c)=>match qNN C n e v c with
  | some (C',_)=>C'
  | none=>C
 | _,_=>C
def qHa (C:Cx) (ys:List Y):Pt->Cx
 | .el p q _=>qQ1 C (dR p (.st ys)) (dR q (.st ys))
 | _=>C
theorem qDT (E:Env) {σ:Wd} {C:Cx} (hC:COk σ C) {ys:List Y} {ds:List D} (hd:qR σ ys ds) (p:Pt):∃ τ,COk (σ++τ) (qHa C ys p):=by
 have hst:qS σ (.st ys) (.agg ds):=by simp only [qS]; exact ⟨ds,rfl,hd⟩
 cases p with
 | z=>exact ⟨[],yK hC⟩
 | aT p=>exact ⟨[],yK hC⟩
 | el p q f =>
  simp only [qHa]
  unfold qQ1
  split
  ·rename_i h1 h2
   split
   ·rename_i C' y hi
    obtain ⟨d,τ,_,h,_⟩:=qLi (E:=E) hC (rV hst h1) (rV hst h2) hi
    exact ⟨τ,h⟩
   exact ⟨[],yK hC⟩
  exact ⟨[],yK hC⟩
def qNL (ys:List Y):List Cn->Cx->Cx
 | [],C=>C
 | q::r,C=>let C1:=qHa (qHa C ys q.1) ys q.2.1; qNL ys r (C1.add (qVD C1 ys q) [] [] 0)
theorem qCY (E:Env) {ys:List Y} {ds:List D}:∀ {l:List Cn} {σ:Wd} {C:Cx},COk σ C->qR σ ys ds->(∀ q∈l,qGn ds q)->∃ τ,COk (σ++τ) (qNL ys l C)
 | [],σ,C,hC,_,_=>⟨[],yK hC⟩
 | q::r,σ,C,hC,hd,h=>by
  obtain ⟨τ1,h1⟩:=qDT E hC hd q.1
  obtain ⟨τ2,h2⟩:=qDT E h1 (zN hd) q.2.1
  rw [List.append_assoc] at h2
  have hd2:=zN (τ:=τ1++τ2) hd
  have h3:=h2.facts (qL5 h2 hd2 (h q List.mem_cons_self))
  obtain ⟨τ3,h4⟩:=qCY E h3 hd2 fun x hx=>h x (mC _ hx)
  rw [List.append_assoc] at h4
  exact ⟨_,h4⟩
structure Spec where
 ss:List Sn
 rs:List Sn
 pre:List Cn
 post:List Cn
def pQ (HS:FuncId->List D->D->Prop) (f:FuncId) (S:Spec):Prop :=
 ∀ ds,vN S.ss ds->(∀ q∈S.pre,qGn ds q)->∃ rs,vN S.rs rs/\(∀ q∈S.post,qGn (ds++rs) q)/\HS f ds (bT rs)
end Go.Am.Tt
namespace Go.Am.Tt
open Go Go.Am
abbrev Ms:=Pt × Pt × Int
def qTp (ds:List D) (m:Ms):Int:=qFA ds m.1 - qFA ds m.2.1+m.2.2
def qFV:List Nat->List Nat->Prop
 | a::as,b::bs=>a < b∨(a<=b/\qFV as bs)
 | _,_=>False
def qAl (ds:List D) (ms:List Ms):List Nat:=ms.map fun m=>(qTp ds m).toNat
def qV0 (C:Cx) (ys' ys:List Y) (m' m:Ms) (k:Int):Bool:=match eE C ys' m'.1,eE C ys' m'.2.1,eE C ys m.1,eE C ys m.2.1 with
 | some (v',c'),some (w',e'),some (v,c),some (w,e) =>
  (kU C.F C.L v' c' v (c+(m.2.2 - m'.2.2 - k)) && kU C.F C.L w e w' e') || (kU C.F C.L v' c' v c && kU C.F C.L w e w' (e'+(m.2.2 - m'.2.2 - k)))
 | _,_,_,_=>false
def qRW (C:Cx) (ys:List Y) (m:Ms):Bool:=match eE C ys m.1,eE C ys m.2.1 with
 | some (v,c),some (w,e)=>kU C.F C.L w (e+1) v (c+m.2.2)
 | _,_=>false
def qIC (C:Cx) (ys' ys:List Y):List Ms->List Ms->Bool
 | m'::r',m::r=>(qV0 C ys' ys m' m 1 && qRW C ys m) || (qV0 C ys' ys m' m 0 && qIC C ys' ys r' r)
 | _,_=>false
section
variable {σ:Wd} {C:Cx}
theorem qLc (hC:COk σ C) {ys' ys:List Y} {ds' ds:List D} {m' m:Ms} {k:Int} (hd':qR σ ys' ds') (hd:qR σ ys ds) (h:qV0 C ys' ys m' m k=true):qTp ds' m'+k<=qTp ds m:=by
 unfold qV0 at h
 split at h
 ·rename_i v' c' w' e' v c w e h1 h2 h3 h4
  obtain ⟨x1,g1,q1⟩:=gJ hC hd' h1
  obtain ⟨x2,g2,q2⟩:=gJ hC hd' h2
  obtain ⟨x3,g3,q3⟩:=gJ hC hd h3
  obtain ⟨x4,g4,q4⟩:=gJ hC hd h4
  unfold qTp
  rcases Bool.or_eq_true_iff.1 h with h | h <;> rw [aE] at h
  ·have a:=v5 hC.s h.1 g1 g3
   have b:=v5 hC.s h.2 g4 g2
   omega
  have a:=v5 hC.s h.1 g1 g3
  have b:=v5 hC.s h.2 g4 g2
  omega
 cases h
theorem qNj (hC:COk σ C) {ys:List Y} {ds:List D} {m:Ms} (hd:qR σ ys ds) (h:qRW C ys m=true):1<=qTp ds m:=by
 unfold qRW at h
 split at h
 ·rename_i v c w e h3 h4
  obtain ⟨x3,g3,q3⟩:=gJ hC hd h3
  obtain ⟨x4,g4,q4⟩:=gJ hC hd h4
  unfold qTp
  have a:=v5 hC.s h g4 g3
  omega
 cases h
theorem qHi (hC:COk σ C) {ys' ys:List Y} {ds' ds:List D} (hd':qR σ ys' ds') (hd:qR σ ys ds):∀ {l' l:List Ms},qIC C ys' ys l' l=true->qFV (qAl ds' l') (qAl ds l)
 | [],_,h=>by simp only [qIC] at h; cases h
 | _::_,[],h=>by simp only [qIC] at h; cases h
 | m'::r',m::r,h=>by
  simp only [qIC] at h
  simp only [qAl,List.map_cons,qFV]
  rcases Bool.or_eq_true_iff.1 h with h | h <;> rw [aE] at h
  ·have a:=qLc hC hd' hd h.1
   have b:=qNj hC hd h.2
   left; omega
  have a:=qLc hC hd' hd h.1
  right
  exact ⟨by omega,qHi hC hd' hd h.2⟩
end
theorem qLb:∀ (n:Nat) (l:List Nat),l.length=n->Acc (fun a b:List Nat=>a.length=b.length/\qFV a b) l
 | 0,l,h=>by
  have:l=[]:=List.length_eq_zero_iff.1 h
  subst this
  refine ⟨_,fun y hy=>?_⟩
  cases y with
  | nil=>exact (hy.2:False).elim
  | cons _ _=>cases hy.1
 | n+1,l,h=>by
  have key:∀ (a:Nat),∀ (r:List Nat),r.length=n->Acc (fun a b:List Nat=>a.length=b.length/\qFV a b) (a::r):=by
   intro a
   induction a using Nat.strongRecOn with
   | _ a iha =>
    intro r hr
    have hacc:=qLb n r hr
    induction hacc with
    | intro r _ ihr =>
     refine ⟨_,fun y hy=>?_⟩
     cases y with
     | nil=>cases hy.1
     | cons b s =>
      have hl:s.length=n:=by have:=hy.1; simp only [List.length_cons] at this; omega
      rcases hy.2 with hlt | ⟨hle,hs⟩
      ·exact iha b hlt s hl
      rcases Nat.lt_or_ge b a with h' | h'
      ·exact iha b h' s hl
      have:b=a:=by omega
      subst this
      exact ihr s ⟨by omega,hs⟩ hl
  cases l with
  | nil=>cases h
  | cons a r=>exact key a r (by simpa using h)
structure Hd where
 ss:List Sn
 inv:List Cn
 ms:List Ms
structure Fx where
 T:Tb
 sp:FuncId->Option Spec
 S:Spec
 hd:Nat->Option Hd
def qKC:List Y->Y
 | [y]=>y
 | l=>.tup l
def qD8:Y->Bool
 | .int _ _ _=>true
 | .bool _ _=>true
 | .str _ _=>true
 | _=>false
def qHu:Nat->Y->Bool
 | 0,_=>true
 | 1,y=>qD8 y
 | _,.tup l=>l.all qD8
 | _,_=>false
def qRx (tg:Tgt) (ys:List Y):Option (FuncId × List Y):=match tg with
 | .fn f=>some (f,ys)
 | .val _=>(match ys with
  | .clo g::r=>some (g,r)
  | _=>none)
 | .meth _ _=>none
def dead (C:Cx) (t:List jB):Bool:=t.any fun q=>kU C.F C.L q.2.1 0 q.1 (-q.2.2 - 1)
def ck (X:Fx) (y0 cur:List Y) (ms:List Ms):Tree->List Y->Cx->Bool
 | .ret xs,env,C=>match fQ env C xs with
  | some (C,ys)=>m7 C ys X.S.rs && X.S.post.all (qVC C (y0++ys))
  | none=>false
 | .jump k xs,env,C=>match X.hd k with
  | some h=>(match fQ env C xs with
   | some (C,ys)=>m7 C ys h.ss && h.inv.all (qVC C (y0++ys)) && qIC C (y0++ys) cur h.ms ms
   | none=>false)
  | none=>false
 | .bind o xs r,env,C=>match fQ env C xs with
  | some (C,ys)=>(match qWX X.T C o ys with
   | some (C,y)=>ck X y0 cur ms r (env++[y]) C
   | none=>false)
  | none=>false
 | .call tg xs fl r,env,C=>match fQ env C xs with
  | some (C,ys)=>(match qRx tg ys with
   | some (f,ys)=>(match X.sp f with
    | some S=>m7 C ys S.ss && S.pre.all (qVC C ys) && (match g9 S.rs C with
     | (C,rs)=>qHu fl (qKC rs) && ck X y0 cur ms r (env++[qKC rs]) (C.add (S.post.flatMap (qVD C (ys++rs))) [] [] 0))
    | none=>false)
   | none=>false)
  | none=>false
 | .ite c a b,env,C=>match sY env C c with
  | some (C,.bool t f)=>(ck X y0 cur ms a env (C.add t [] [] 0) || dead C t) && (ck X y0 cur ms b env (C.add f [] [] 0) || dead C f)
  | _=>false
 | _,_,_=>false
theorem xJ {σ:Wd}:∀ {a b:List Y} {x y:List D},qR σ a x->qR σ b y->qR σ (a++b) (x++y)
 | [],b,x,y,h,h'=>by simp only [qR] at h; subst h; simpa using h'
 | u::a,b,x,y,h,h'=>by
  simp only [qR] at h
  obtain ⟨d,ds,rfl,h1,h2⟩:=h
  simp only [List.cons_append,qR]
  exact ⟨_,_,rfl,h1,xJ h2 h'⟩
theorem qNc {σ:Wd} {ys:List Y} {ds:List D} (h:qR σ ys ds):qS σ (qKC ys) (bT ds):=by
 cases ys with
 | nil=>simp only [qR] at h; subst h; simp only [qKC,bT,qS]; exact ⟨_,rfl,by simp only [qR]⟩
 | cons y r =>
  have h0:=h
  simp only [qR] at h
  obtain ⟨d,ds',rfl,h1,h2⟩:=h
  cases r with
  | nil=>simp only [qR] at h2; subst h2; exact h1
  | cons z r =>
   have h3:=h2
   simp only [qR] at h2
   obtain ⟨d',ds'',rfl,_,_⟩:=h2
   simp only [qKC,bT,qS]
   exact ⟨_,rfl,h0⟩
theorem qD7 {σ:Wd} {y:Y} {d:D} (hd:qS σ y d) (h:qD8 y=true):∃ v,d=.leaf v:=by
 cases y <;> simp only [qD8] at h <;> first | (cases h; done) | simp only [qS] at hd
 ·obtain ⟨_,_,rfl⟩:=hd; exact ⟨_,rfl⟩
 ·obtain ⟨_,rfl,_⟩:=hd; exact ⟨_,rfl⟩
 obtain ⟨_,_,rfl,_⟩:=hd; exact ⟨_,rfl⟩
theorem qB5 {σ:Wd}:∀ {ys:List Y} {ds:List D},qR σ ys ds->ys.all qD8=true->fW ds=true
 | [],ds,h,_=>by simp only [qR] at h; subst h; rfl
 | y::ys,ds,h,ha=>by
  simp only [qR] at h
  obtain ⟨d,r,rfl,h1,h2⟩:=h
  simp only [List.all_cons,aE] at ha
  obtain ⟨v,rfl⟩:=qD7 h1 ha.1
  have:=qB5 h2 ha.2
  simpa only [fW] using this
theorem qLy {σ:Wd} {n:Nat} {y:Y} {d:D} (hd:qS σ y d) (h:qHu n y=true):qCj n d=true:=by
 match n with
 | 0=>rfl
 | 1 =>
  simp only [qHu] at h
  obtain ⟨v,rfl⟩:=qD7 hd h
  rfl
 | n+2 =>
  cases y <;> simp only [qHu] at h <;> first | (cases h; done) | skip
  simp only [qS] at hd
  obtain ⟨ds,rfl,hs⟩:=hd
  exact qB5 hs h
def qXM (X:Fx) (d0:List D) (M:List Nat):Res1->Prop
 | .ret d=>∃ rs,d=bT rs/\vN X.S.rs rs/\∀ q∈X.S.post,qGn (d0++rs) q
 | .jump k ds=>∃ h,X.hd k=some h/\vN h.ss ds/\(∀ q∈h.inv,qGn (d0++ds) q)/\qFV (qAl (d0++ds) h.ms) M
theorem qMW {E:Env} {σ:Wd} {tg:Tgt} {ys ys':List Y} {ds:List D} {f:FuncId} (hd:qR σ ys ds) (h:qRx tg ys=some (f,ys')):∃ ds',uA E tg ds=some (f,ds')/\qR σ ys' ds':=by
 unfold qRx at h
 split at h
 ·cases h; exact ⟨_,rfl,hd⟩
 ·split at h
  ·cases h
   simp only [qR] at hd
   obtain ⟨d,r,rfl,h1,h2⟩:=hd
   simp only [qS] at h1
   subst h1
   exact ⟨r,by simp [uA],h2⟩
  cases h
 cases h
theorem qOc {σ:Wd} {C:Cx} (hC:COk σ C) {ys:List Y} {ds:List D} {l:List Cn} (hd:qR σ ys ds) (h:∀ q∈l,qGn ds q):∀ f∈l.flatMap (qVD C ys),fF σ f:=by
 intro f hf
 obtain ⟨q,hq,hf⟩:=List.mem_flatMap.1 hf
 exact qL5 hC hd (h q hq) f hf
theorem qHF {σ:Wd} {C:Cx} (hC:COk σ C) {t:List jB} (h:dead C t=true):¬ ∀ q∈t,fF σ q:=by
 intro ha
 unfold dead at h
 obtain ⟨q,hq,h⟩:=List.any_eq_true.1 h
 obtain ⟨x,y,h1,h2,h3⟩:=ha q hq
 have:=v5 hC.s h h2 h1
 omega
section
variable {E:Env} {HS:FuncId->List D->D->Prop} {X:Fx}
theorem qCu (hT:TbOk E X.T) (hsp:∀ f S,X.sp f=some S->pQ HS f S) {y0 cur:List Y} {ms:List Ms} {d0 dcur:List D} :
  ∀ (t:Tree) {env:List Y} {C:Cx} {ρ:List D} {σ:Wd},COk σ C->qR σ env ρ->qR σ y0 d0->qR σ cur dcur->ck X y0 cur ms t env C=true->wp E HS (qXM X d0 (qAl dcur ms)) t ρ
 | .fail,_,_,_,_,_,_,_,_,h=>by simp only [ck] at h; cases h
 | .stop _ _,_,_,_,_,_,_,_,_,h=>by simp only [ck] at h; cases h
 | .callM _ _ _ _,_,_,_,_,_,_,_,_,h=>by simp only [ck] at h; cases h
 | .ret xs,env,C,ρ,σ,hC,he,h0,hc,h=>by
  simp only [ck] at h
  split at h
  ·rename_i C' ys hy
   obtain ⟨τ,h1,h2⟩:=nS hC he hy
   rw [aE] at h
   simp only [wp]
   exact ⟨_,rfl,pG h1 h.1 h2,fun q hq=>qGm h1 (xJ (zN h0) h2) (List.all_eq_true.1 h.2 q hq)⟩
  cases h
 | .jump k xs,env,C,ρ,σ,hC,he,h0,hc,h=>by
  simp only [ck] at h
  split at h
  ·rename_i hh hk
   split at h
   ·rename_i C' ys hy
    obtain ⟨τ,h1,h2⟩:=nS hC he hy
    simp only [aE] at h
    simp only [wp]
    exact ⟨hh,hk,pG h1 h.1.1 h2,fun q hq=>qGm h1 (xJ (zN h0) h2) (List.all_eq_true.1 h.1.2 q hq),qHi h1 (xJ (zN h0) h2) (zN hc) h.2⟩
   cases h
  cases h
 | .bind o xs r,env,C,ρ,σ,hC,he,h0,hc,h=>by
  simp only [ck] at h
  split at h
  ·rename_i C' ys hy
   split at h
   ·rename_i C2 y ho
    obtain ⟨τ,h1,h2⟩:=nS hC he hy
    obtain ⟨d,τ',e1,e2,e3⟩:=qR3 hT h1 h2 ho
    simp only [wp,e1]
    rw [List.append_assoc] at e2 e3
    exact qCu hT hsp r e2 (xJ (zN he) (by simp only [qR]; exact ⟨_,_,rfl,e3,rfl⟩)) (zN h0) (zN hc) h
   cases h
  cases h
 | .call tg xs fl r,env,C,ρ,σ,hC,he,h0,hc,h=>by
  simp only [ck] at h
  split at h
  ·rename_i C' ys hy
   split at h
   ·rename_i f ys' ht
    split at h
    ·rename_i S hS
     obtain ⟨τ,h1,h2⟩:=nS hC he hy
     obtain ⟨ds',t1,t2⟩:=qMW (E:=E) h2 ht
     generalize hr:g9 S.rs C'=p at h
     obtain ⟨C2,rs⟩:=p
     simp only [aE] at h
     obtain ⟨⟨a1,a2⟩,a3,a4⟩:=h
     obtain ⟨rd,b1,b2,b3⟩:=hsp f S hS ds' (pG h1 a1 t2) fun q hq=>qGm h1 t2 (List.all_eq_true.1 a2 q hq)
     obtain ⟨τ',c1,c2⟩:=nM b1 h1
     rw [hr] at c1 c2
     simp only [wp,t1]
     have hr:=qNc c2
     refine ⟨_,b3,qLy hr a3,?_⟩
     have c3:=c1.facts (qOc c1 (xJ (zN t2) c2) b2)
     have hr:=hr
     rw [List.append_assoc] at c3 hr
     exact qCu hT hsp r c3 (xJ (zN he) (by simp only [qR]; exact ⟨_,_,rfl,hr,rfl⟩)) (zN h0) (zN hc) a4
    cases h
   cases h
  cases h
 | .ite c a b,env,C,ρ,σ,hC,he,h0,hc,h=>by
  simp only [ck] at h
  split at h
  ·rename_i C' t f hy
   obtain ⟨τ,h1,h2⟩:=qHS hC he hy
   simp only [qS] at h2
   obtain ⟨v,hv,ht,hf⟩:=h2
   rw [aE] at h
   simp only [wp,hv]
   cases v with
   | true =>
    rcases Bool.or_eq_true_iff.1 h.1 with h | h
    ·exact qCu hT hsp a (h1.facts (ht rfl)) (zN he) (zN h0) (zN hc) h
    exact absurd (ht rfl) (qHF h1 h)
   | false =>
    rcases Bool.or_eq_true_iff.1 h.2 with h | h
    ·exact qCu hT hsp b (h1.facts (hf rfl)) (zN he) (zN h0) (zN hc) h
    exact absurd (hf rfl) (qHF h1 h)
  cases h
end
end Go.Am.Tt
namespace Go.Am.Tt
open Go Go.Am
def gO {α:Type}:List (Nat × α)->Nat->Option α
 | [],_=>none
 | (k,x)::r,n=>bif Nat.beq k n then some x else gO r n
theorem nJ {α:Type} {l:List (Nat × α)} {n:Nat} {x:α} (h:gO l n=some x):(n,x)∈l:=by
 induction l with
 | nil=>cases h
 | cons p r ih =>
  obtain ⟨k,y⟩:=p
  simp only [gO] at h
  cases hk:Nat.beq k n with
  | true=>rw [hk] at h; have:=vU hk; subst this; cases h; exact List.mem_cons_self
  | false=>rw [hk] at h; exact mC _ (ih h)
def qHE {α:Type}:List (Nat × α)->Bool
 | []=>true
 | (k,_)::r=>(match gO r k with
  | some _=>false
  | none=>true) && qHE r
theorem qLT {α:Type} {l:List (Nat × α)} (h:qHE l=true):∀ x∈l,gO l x.1=some x.2:=by
 induction l with
 | nil=>intro x hx; cases hx
 | cons p r ih =>
  obtain ⟨k,y⟩:=p
  simp only [qHE,aE] at h
  intro x hx
  rcases List.mem_cons.1 hx with rfl | hx'
  ·simp only [gO,Nat.beq_refl,cond_true]
  have h3:=ih h.2 x hx'
  simp only [gO]
  cases hk:Nat.beq k x.1 with
  | false=>simpa using h3
  | true =>
   have e:=vU hk
   rw [e,h3] at h
   cases h.1
def qDw (l:List (Nat × Tree)) (k:Nat):Tree:=(gO l k).getD .fail
def C0:Cx:=⟨[],[],[],1⟩
theorem qVS:COk [(0,.nil)] C0:={ s:={ z:=⟨_,rfl⟩,f:=fun q h=>(by cases h),l:=fun q h=>(by cases h) },e:=fun e h=>(by cases h),n:=rfl }
def qJm (S:Spec):Cx × List Y:=match g9 S.ss C0 with
 | (C,y0)=>(qNL y0 S.pre C,y0)
theorem qS3 (E:Env) {S:Spec} {ds:List D} (h:vN S.ss ds) (hp:∀ q∈S.pre,qGn ds q):∃ σ,COk σ (qJm S).1/\qR σ (qJm S).2 ds:=by
 obtain ⟨τ,h1,h2⟩:=nM h qVS
 unfold qJm
 split
 rename_i C y0 hr
 rw [hr] at h1 h2
 obtain ⟨τ',h3⟩:=qCY E h1 h2 hp
 exact ⟨_,h3,zN h2⟩
def qGp (X:Fx) (C:Cx) (y0:List Y) (h:Hd) (t:Tree):Bool:=match g9 h.ss C with
 | (C,ys)=>ck X y0 (y0++ys) h.ms t ys (qNL (y0++ys) h.inv C)
def fL (X:Fx) (C:Cx) (y0:List Y) (ts:List (Nat × Tree)) (n:Nat):List (Nat × Hd)->Bool
 | []=>true
 | (k,h)::r=>Nat.beq h.ms.length n && qGp X C y0 h (qDw ts k) && fL X C y0 ts n r
theorem qA1 {X:Fx} {C:Cx} {y0:List Y} {ts:List (Nat × Tree)} {n:Nat}:∀ {l:List (Nat × Hd)},fL X C y0 ts n l=true->∀ p∈l,p.2.ms.length=n/\qGp X C y0 p.2 (qDw ts p.1)=true
 | [],_,p,hp=>by cases hp
 | (k,h)::r,hc,p,hp=>by
  simp only [fL,aE] at hc
  rcases List.mem_cons.1 hp with rfl | hp
  ·exact ⟨vU hc.1.1,hc.1.2⟩
  exact qA1 hc.2 p hp
section
variable {E:Env} {HS:FuncId->List D->D->Prop}
theorem qNR {T:Tb} {sp:FuncId->Option Spec} {S:Spec} {hs:List (Nat × Hd)} {rm:List Ms} {ts:List (Nat × Tree)} (hT:TbOk E T) (hsp:∀ f S,sp f=some S->pQ HS f S)
  (hr:ck ⟨T,sp,S,gO hs⟩ (qJm S).2 (qJm S).2 rm (qDw ts 0) (qJm S).2 (qJm S).1=true) (hh:fL ⟨T,sp,S,gO hs⟩ (qJm S).1 (qJm S).2 ts rm.length hs=true)
  {ds:List D} (hds:vN S.ss ds) (hp:∀ q∈S.pre,qGn ds q):∃ rs,vN S.rs rs/\(∀ q∈S.post,qGn (ds++rs) q)/\qG E HS (qDw ts) 0 ds (bT rs):=by
 obtain ⟨σ,hC,hy⟩:=qS3 E hds hp
 have hheads:=qA1 hh
 have key:∀ M:List Nat,Acc (fun a b:List Nat=>a.length=b.length/\qFV a b) M->∀ k h es,gO hs k=some h->vN h.ss es->(∀ q∈h.inv,qGn (ds++es) q)->qAl (ds++es) h.ms=M ->
   ∃ rs,vN S.rs rs/\(∀ q∈S.post,qGn (ds++rs) q)/\qG E HS (qDw ts) k es (bT rs):=by
  intro M hM
  induction hM with
  | intro M _ ih =>
   intro k h es hk hes hinv hMe
   obtain ⟨hlen,hck⟩:=hheads _ (nJ hk)
   unfold qGp at hck
   split at hck
   rename_i C' ys hfr
   obtain ⟨τ,a1,a2⟩:=nM hes hC
   rw [hfr] at a1 a2
   have hd0:=zN (τ:=τ) hy
   have hcur:=xJ hd0 a2
   obtain ⟨τ',a3⟩:=qCY E a1 hcur hinv
   have:=qCu hT hsp _ a3 (zN a2) (zN hd0) (zN hcur) hck
   obtain ⟨r,h1,h2⟩:=rJ _ _ this
   cases r with
   | ret d =>
    obtain ⟨rs,rfl,b1,b2⟩:=h1
    exact ⟨rs,b1,b2,qG.step (h2 _ rfl)⟩
   | jump k' es' =>
    obtain ⟨h',b1,b2,b3,b4⟩:=h1
    obtain ⟨hlen',_⟩:=hheads _ (nJ b1)
    obtain ⟨rs,c1,c2,c3⟩:=ih _ ⟨by rw [← hMe]; simp only [qAl,List.length_map]; rw [hlen',hlen],by rw [← hMe]; exact b4⟩ k' h' es' b1 b2 b3 rfl
    exact ⟨rs,c1,c2,qG.step (h2 _ c3)⟩
 have:=qCu hT hsp _ hC hy hy hy hr
 obtain ⟨r,h1,h2⟩:=rJ _ _ this
 cases r with
 | ret d =>
  obtain ⟨rs,rfl,b1,b2⟩:=h1
  exact ⟨rs,b1,b2,qG.step (h2 _ rfl)⟩
 | jump k' es' =>
  obtain ⟨h',b1,b2,b3,b4⟩:=h1
  obtain ⟨rs,c1,c2,c3⟩:=key _ (qLb _ _ rfl) k' h' es' b1 b2 b3 rfl
  exact ⟨rs,c1,c2,qG.step (h2 _ c3)⟩
end
structure En where
 f:FuncId
 pats:List (Nat × Pat)
 S:Spec
 hs:List (Nat × Hd)
 rm:List Ms
def qNl (l:List (Nat × Pat)) (k:Nat):Pat:=(gO l k).getD ⟨[],[],[],[]⟩
def qMU (E:Env) (fn:Func) (c:Code) (l:List (Nat × Pat)) (n:Nat):List (Nat × Tree) :=
 (0,qDJ E (fun k S=>j6 (Nat.max fn.ntmps n) (qNl l k) k S) fn n)::xB E (fun k=>(qNl l k).st (Nat.max fn.ntmps n)) (fun k S=>j6 (Nat.max fn.ntmps n) (qNl l k) k S) 1 c (nP E fn.results.toList)
def qYc (T:Tb) (tab:List (FuncId × Spec)) (e:En):Fx:=⟨T,gO tab,e.S,gO e.hs⟩
def qVv (T:Tb) (tab:List (FuncId × Spec)) (e:En) (ts:List (Nat × Tree)):Bool :=
 qHE ts && (match qJm e.S with
  | (C,y0)=>ck (qYc T tab e) y0 y0 e.rm (qDw ts 0) y0 C && fL (qYc T tab e) C y0 ts e.rm.length e.hs)
theorem qNe {P : Program} (h : eJ P = true) {fn : Func} {c : Code} (hm : fn ∈ P.funcs.toList) (hb : fn.body = some c) : (fn.name == "runtime.NumGoroutine" || !zM c) = false := by
 unfold eJ at h
 rw [aE] at h
 have:=List.all_eq_true.1 h.2 fn hm
 rw [hb] at this
 simp only [aE,Bool.not_eq_true'] at this
 rw [this.1,this.2]; rfl
def qIt:List Func->Nat->Option Func
 | [],_=>none
 | f::_,0=>some f
 | _::r,n+1=>qIt r n
theorem qHd:∀ {l:List Func} {n:Nat},qIt l n=l[n]?
 | [],n=>by simp [qIt]
 | f::_,0=>by simp [qIt]
 | _::r,n+1=>by simp [qIt,qHd (l:=r)]
def qSK (E:Env) (P:Program) (T:Tb) (tab:List (FuncId × Spec)) (e:En):Bool:=Nat.blt e.f qBf && (match qIt P.funcs.toList e.f with
 | some fn=>(match fn.body with
  | some c=>qVv T tab e (qMU E fn c e.pats e.S.ss.length)
  | none=>false)
 | none=>false)
theorem qN4 {P:Program} (hg:rD P=true) (hr:eJ P=true) {T:Tb} (hT:TbOk (wN P) T) {tab:List (FuncId × Spec)} (htab:∀ p∈tab,pQ (qA (wN P)) p.1 p.2) {e:En} (h:qSK (wN P) P T tab e=true):pQ (qA (wN P)) e.f e.S:=by
 have he:=qGh hg
 unfold qSK at h
 rw [aE] at h
 obtain ⟨h1,h2⟩:=h
 split at h2
 ·rename_i fn hfn
  rw [qHd] at hfn
  split at h2
  ·rename_i c hc
   have hfn2:(wN P).funcs.get e.f=some fn:=yI (by simpa using hfn) hc (qNe hr (List.mem_of_getElem? hfn) hc)
   unfold qVv at h2
   rw [aE] at h2
   obtain ⟨h3,h4⟩:=h2
   have hd:=qLT h3
   split at h4
   rename_i C y0 hb
   rw [aE] at h4
   intro ds hds hp
   have hb1:C=(qJm e.S).1:=by rw [hb]
   have hb2:y0=(qJm e.S).2:=by rw [hb]
   subst hb1 hb2
   obtain ⟨rs,r1,r2,r3⟩:=qNR hT (fun f S hf=>htab (f,S) (nJ hf)) h4.1 h4.2 hds hp
   refine ⟨rs,r1,r2,?_⟩
   have hl:ds.length=e.S.ss.length:=iN hds
   refine qEe he hfn2 hc (pats:=qNl e.pats) hl ?_ ?_ r3 (lB h1)
   ·have:=hd _ List.mem_cons_self
    unfold qDw
    rw [this]; rfl
   intro x hx
   have:=hd x (mC _ hx)
   unfold qDw
   rw [this]; rfl
  cases h2
 cases h2
def qCx (E:Env) (P:Program) (T:Tb):List (FuncId × Spec)->List En->Bool
 | _,[]=>true
 | tab,e::r=>qSK E P T tab e && qCx E P T ((e.f,e.S)::tab) r
def aQ:List (FuncId × Spec)->List En->List (FuncId × Spec)
 | tab,[]=>tab
 | tab,e::r=>aQ ((e.f,e.S)::tab) r
theorem fV {P:Program} (hg:rD P=true) (hr:eJ P=true) {T:Tb} (hT:TbOk (wN P) T):∀ {l:List En} {tab:List (FuncId × Spec)},(∀ p∈tab,pQ (qA (wN P)) p.1 p.2)->qCx (wN P) P T tab l=true->∀ p∈aQ tab l,pQ (qA (wN P)) p.1 p.2
 | [],tab,ht,_=>ht
 | e::r,tab,ht,h=>by
  rw [qCx,aE] at h
  have h2:∀ p∈(e.f,e.S)::tab,pQ (qA (wN P)) p.1 p.2:=by
   intro p hp
   rcases List.mem_cons.1 hp with rfl | hp
   ·exact qN4 hg hr hT ht h.1
   exact ht p hp
  show ∀ p∈aQ ((e.f,e.S)::tab) r,pQ (qA (wN P)) p.1 p.2
  exact fV hg hr hT h2 h.2
def qV3:List (TypeId × TypeId × IntKind × IntKind)->TypeId->TypeId->IntKind->Option IntKind
 | [],_,_,_=>none
 | (a,b,k,k')::r,s,d,q=>bif Nat.beq a s && Nat.beq b d && decide (k=q) then some k' else qV3 r s d q
def qUY:List (Bool × TypeId × Int)->Bool->TypeId->Int->Bool
 | [],_,_,_=>false
 | (m,t,c)::r,m',t',c'=>(bif (bif m then m' else !m') && Nat.beq t t' && decide (c=c') then true else qUY r m' t' c')
def qKM (cv:List (TypeId × TypeId × IntKind × IntKind)) (qr:List (Bool × TypeId × Int)) (o:TOp) (ys:List Y):Option IntKind:=match o,ys with
 | .conv s d,[.int k _ _]=>qV3 cv s d k
 | .bin .quo t _ _,[.int .i64 _ _,.int .i64 v c]=>bif Nat.beq v 0 && qUY qr false t c then some .i64 else none
 | .bin .rem t _ _,[.int .i64 _ _,.int .i64 v c]=>bif Nat.beq v 0 && qUY qr true t c then some .i64 else none
 | _,_=>none
def qVR (E:Env) (x:TypeId × TypeId × IntKind × IntKind):Prop:=∀ m:Int,∃ n:Int,TOp.eval E (.conv x.1 x.2.1) [.leaf (.int x.2.2.1 m)]=some (.leaf (.int x.2.2.2 n))
def qVP (E:Env) (x:Bool × TypeId × Int):Prop:=∀ (m:Int) (o p:Operand),∃ n:Int,TOp.eval E (.bin (bif x.1 then .rem else .quo) x.2.1 o p) [dI m,dI x.2.2]=some (dI n)
def qOI (E:Env) (x:Nat × (Nat × List Sn)):Prop:=(iY E.prog x.2.1 x.1,m9 E.prog x.1,Nat.ble x.2.1 10000,E.prog.eqGuardType E.prog.depth x.1,(Sn.shs x.2.2).all qCi,Sn.lows x.2.2)=(some (Sn.shs x.2.2),true,true,false,true,true)
theorem qLZ:∀ {l:List (TypeId × TypeId × IntKind × IntKind)} {s d:TypeId} {q k:IntKind},qV3 l s d q=some k->(s,d,q,k)∈l
 | [],_,_,_,_,h=>by cases h
 | (a,b,k,k')::r,s,d,q,z,h=>by
  simp only [qV3] at h
  cases hb:(Nat.beq a s && Nat.beq b d && decide (k=q)) with
  | true =>
   rw [hb] at h; cases h
   simp only [aE] at hb
   have h1:=vU hb.1.1
   have h2:=vU hb.1.2
   have h3:=dT hb.2
   subst h1 h2 h3
   exact List.mem_cons_self
  | false=>rw [hb] at h; exact mC _ (qLZ h)
theorem qFH:∀ {l:List (Bool × TypeId × Int)} {m:Bool} {t:TypeId} {c:Int},qUY l m t c=true->(m,t,c)∈l
 | [],_,_,_,h=>by cases h
 | (a,b,e)::r,m,t,c,h=>by
  simp only [qUY] at h
  cases hb:((bif a then m else !m) && Nat.beq b t && decide (e=c)) with
  | true =>
   simp only [aE] at hb
   have h2:=vU hb.1.2
   have h3:=dT hb.2
   subst h2 h3
   have h1:a=m:=by cases a <;> cases m <;> first | rfl | (cases hb.1.1)
   subst h1
   exact List.mem_cons_self
  | false=>rw [hb] at h; exact mC _ (qFH h)
def qUL (sh:List (Nat × Sn)) (cv:List (TypeId × TypeId × IntKind × IntKind)) (qr:List (Bool × TypeId × Int)) (st:List (Nat × (Nat × List Sn))):Tb:=⟨gO sh,qKM cv qr,gO st⟩
theorem qVg {σ:Wd} {C:Cx} (hC:COk σ C) {k:IntKind} {v:Nat} {c:Int} {d:D} (hv:Nat.beq v 0=true) (h:qS σ (.int k v c) d):d=.leaf (.int k c):=by
 have hv:=vU hv
 subst hv
 obtain ⟨z,hz⟩:=hC.s.z
 simp only [qS] at h
 obtain ⟨x,hx,rfl⟩:=h
 rw [hz] at hx; cases hx
 simp
theorem qUK {E:Env} {sh:List (Nat × Sn)} {cv:List (TypeId × TypeId × IntKind × IntKind)} {qr:List (Bool × TypeId × Int)} {st:List (Nat × (Nat × List Sn))}
  (h1:∀ x∈cv,qVR E x) (h2:∀ x∈qr,qVP E x) (h3:∀ x∈st,qOI E x):TbOk E (qUL sh cv qr st) where
 o:=by
  intro o ys k h σ C ds hC hd
  have h:qKM cv qr o ys=some k:=h
  unfold qKM at h
  split at h
  ·simp only [qR] at hd
   obtain ⟨d,_,rfl,hd,rfl⟩:=hd
   simp only [qS] at hd
   obtain ⟨x,_,rfl⟩:=hd
   exact h1 _ (qLZ h) _
  ·simp only [qR] at hd
   obtain ⟨d,_,rfl,hd,e,_,rfl,he,rfl⟩:=hd
   obtain ⟨hb,h⟩:=zP h
   cases h
   rw [aE] at hb
   rw [qVg hC hb.1 he]
   simp only [qS] at hd
   obtain ⟨x,_,rfl⟩:=hd
   exact h2 _ (qFH hb.2) _ _ _
  ·simp only [qR] at hd
   obtain ⟨d,_,rfl,hd,e,_,rfl,he,rfl⟩:=hd
   obtain ⟨hb,h⟩:=zP h
   cases h
   rw [aE] at hb
   rw [qVg hC hb.1 he]
   simp only [qS] at hd
   obtain ⟨x,_,rfl⟩:=hd
   exact h2 _ (qFH hb.2) _ _ _
  cases h
 s:=by
  intro t k ss h
  have:=h3 _ (nJ h)
  unfold qOI at this
  simp only [Prod.mk.injEq] at this
  exact ⟨this.1,this.2.1,lB this.2.2.1,this.2.2.2.1,this.2.2.2.2.1,this.2.2.2.2.2⟩
theorem qTg {α:Type} {P:α->Prop}:∀ x∈([]:List α),P x:=fun _ h=>by cases h
theorem qBo {α:Type} {P:α->Prop} {a:α} {r:List α} (h:P a) (hr:∀ x∈r,P x):∀ x∈a::r,P x:=by
 intro x hx
 rcases List.mem_cons.1 hx with rfl | hx
 ·exact h
 exact hr x hx
end Go.Am.Tt
namespace Go.Am.Tt
open Go Go.Am
mutual
def Sn.big:Sn->Bool
 | .int _=>true
 | .bool=>true
 | .str n=>Nat.beq n 300000000
 | .st fs=>Sn.bigs fs
 | .sl _ _ n e=>Nat.beq n 300000000 && Sn.big e
 | .any=>false
def Sn.bigs:List Sn->Bool
 | []=>true
 | s::r=>Sn.big s && Sn.bigs r
end
mutual
theorem qAw:∀ {s:Sn} {d:D},Sn.big s=true->qE 300000000 s.sh d->vG s d
 | .int k,d,_,h=>by simp only [Sn.sh,qE] at h; simp only [vG]; exact h
 | .bool,d,_,h=>by simp only [Sn.sh,qE] at h; simp only [vG]; exact h
 | .str n,d,hl,h=>by
  have:=vU hl
  subst this
  simp only [Sn.sh,qE] at h; simp only [vG]; exact h
 | .st fs,d,hl,h=>by
  simp only [Sn.sh,qE] at h; simp only [vG]
  obtain ⟨cs,hd,h⟩:=h
  exact ⟨cs,hd,e8 hl h⟩
 | .sl el sz n e,d,hl,h=>by
  simp only [Sn.big,aE] at hl
  have:=vU hl.1
  subst this
  simp only [Sn.sh,qE] at h; simp only [vG]
  rcases h with h | ⟨es,hd,hn,ha⟩
  ·exact .inl h
  exact .inr ⟨es,hd,hn,fun x hx=>qAw hl.2 (ha x hx)⟩
 | .any,d,hl,h=>by cases hl
theorem e8:∀ {ss:List Sn} {ds:List D},Sn.bigs ss=true->jX 300000000 (Sn.shs ss) ds->vN ss ds
 | [],ds,_,h=>by simp only [Sn.shs,jX] at h; simp only [vN]; exact h
 | s::r,ds,hl,h=>by
  simp only [Sn.bigs,aE] at hl
  simp only [Sn.shs,jX] at h; simp only [vN]
  obtain ⟨d,r',hd,h1,h2⟩:=h
  exact ⟨d,r',hd,qAw hl.1 h1,e8 hl.2 h2⟩
end
mutual
def Sn.least (B:Nat):Sn->Bool
 | .int _=>true
 | .bool=>true
 | .str n=>Nat.ble B n
 | .st fs=>Sn.leasts B fs
 | .sl _ _ n e=>Nat.ble B n && Sn.least B e
 | .any=>false
def Sn.leasts (B:Nat):List Sn->Bool
 | []=>true
 | s::r=>Sn.least B s && Sn.leasts B r
end
mutual
theorem qAv {B:Nat}:∀ {s:Sn} {d:D},Sn.least B s=true->qE B s.sh d->vG s d
 | .int k,d,_,h=>by simp only [Sn.sh,qE] at h; simp only [vG]; exact h
 | .bool,d,_,h=>by simp only [Sn.sh,qE] at h; simp only [vG]; exact h
 | .str n,d,hl,h=>by
  have:=lB hl
  simp only [Sn.sh,qE] at h; simp only [vG]
  obtain ⟨s,hs,hn⟩:=h
  exact ⟨s,hs,lT hn this⟩
 | .st fs,d,hl,h=>by
  simp only [Sn.sh,qE] at h; simp only [vG]
  obtain ⟨cs,hd,h⟩:=h
  exact ⟨cs,hd,gP hl h⟩
 | .sl el sz n e,d,hl,h=>by
  simp only [Sn.least,aE] at hl
  have:=lB hl.1
  simp only [Sn.sh,qE] at h; simp only [vG]
  rcases h with h | ⟨es,hd,hn,ha⟩
  ·exact .inl h
  exact .inr ⟨es,hd,lT hn this,fun x hx=>qAv hl.2 (ha x hx)⟩
 | .any,d,hl,h=>by cases hl
theorem gP {B:Nat}:∀ {ss:List Sn} {ds:List D},Sn.leasts B ss=true->jX B (Sn.shs ss) ds->vN ss ds
 | [],ds,_,h=>by simp only [Sn.shs,jX] at h; simp only [vN]; exact h
 | s::r,ds,hl,h=>by
  simp only [Sn.leasts,aE] at hl
  simp only [Sn.shs,jX] at h; simp only [vN]
  obtain ⟨d,r',hd,h1,h2⟩:=h
  exact ⟨d,r',hd,qAv hl.1 h1,gP hl.2 h2⟩
end
theorem qGU {E:Env} {x:Nat × (Nat × List Sn)} (h:(iY E.prog x.2.1 x.1,m9 E.prog x.1,Nat.ble x.2.1 10000,E.prog.eqGuardType E.prog.depth x.1,(Sn.shs x.2.2).all qCi,Sn.lows x.2.2)=(some (Sn.shs x.2.2),true,true,false,true,true)):qOI E x:=h
section
variable {HS:FuncId->List D->D->Prop}
theorem kE {tab:List (FuncId × Spec)} (h:∀ p∈tab,pQ HS p.1 p.2) {f:FuncId} {S:Spec} (hl:gO tab f=some S):pQ HS f S:=h (f,S) (nJ hl)
theorem qRG {f:FuncId} {S:Spec} {r:Sn} (h:pQ HS f S) (hr:S.rs=[r]) (hp:S.pre=[]) (hb:Sn.bigs S.ss=true) (hl:Sn.low r=true) {ds:List D} (hd:jX 300000000 (Sn.shs S.ss) ds):∃ d,qE 300000000 r.sh d/\HS f ds d:=by
 obtain ⟨rs,h1,_,h2⟩:=h ds (e8 hb hd) (by rw [hp]; intro q hq; cases hq)
 rw [hr] at h1
 simp only [vN] at h1
 obtain ⟨d,_,rfl,h3,rfl⟩:=h1
 exact ⟨d,gA hl h3,h2⟩
end
end Go.Am.Tt
