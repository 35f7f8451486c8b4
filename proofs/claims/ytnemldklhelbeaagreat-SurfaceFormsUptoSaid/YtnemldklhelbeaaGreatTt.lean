/- Spans that are taken out of spans: what is left, and how many. Conditions: none. -/
import Derived.Test.YtnemldklhelbeaaGreatUv
set_option linter.unusedVariables false
set_option linter.unusedSimpArgs false
namespace Go.Am
open Go
def pd (p:Int × Int):D:=.agg [dI p.1,dI p.2]
def mn (x y:Int):Int:=if y < x then y else x
def mx (x y:Int):Int:=if x < y then y else x
def rt (x y:Int):Bool:=decide (x≥0) && (decide (x < y) && decide (y<=86400000))
section
variable {E:Env}
theorem qU8 {x y:Int}:TOp.eval E (.mm false) [dI x,dI y]=some (dI (mn x y)):=rfl
theorem qU7 {x y:Int}:TOp.eval E (.mm true) [dI x,dI y]=some (dI (mx x y)):=rfl
theorem qU9 (m:Bool) (x y:Int):∃ w:Int,TOp.eval E (.mm m) [dI x,dI y]=some (dI w):=by
 cases m
 ·exact ⟨_,qU8⟩
 exact ⟨_,qU7⟩
def sp (el:Nat) (l:List (Int × Int)):D:=.sl el 2 (l.map pd)
end
end Go.Am
namespace Go.Am.Tt
open Go Go.Am
inductive Sn where
 | int (k:IntKind)
 | bool
 | str (n:Nat)
 | st (fs:List Sn)
 | sl (el sz n:Nat) (e:Sn)
 | any
mutual
def vG:Sn->D->Prop
 | .int k,d=>∃ n,d=.leaf (.int k n)
 | .bool,d=>∃ b,d=.leaf (.bool b)
 | .str n,d=>∃ s,d=.leaf (.string s)/\s.size<=n
 | .st fs,d=>∃ cs,d=.agg cs/\vN fs cs
 | .sl el sz n e,d=>d=.nil∨∃ es,d=.sl el sz es/\es.length<=n/\∀ x∈es,vG e x
 | .any,_=>True
def vN:List Sn->List D->Prop
 | [],l=>l=[]
 | s::ss,l=>∃ d ds,l=d::ds/\vG s d/\vN ss ds
end
mutual
def Sn.fits:Sn->Sn->Bool
 | .int k,.int k'=>decide (k=k')
 | .bool,.bool=>true
 | .str n,.str m=>Nat.ble n m
 | .st fs,.st gs=>Sn.fitss fs gs
 | .sl el sz n e,.sl vL sz' m e'=>Nat.beq el vL && Nat.beq sz sz' && Nat.ble n m && Sn.fits e e'
 | _,_=>false
def Sn.fitss:List Sn->List Sn->Bool
 | [],[]=>true
 | a::l,b::m=>Sn.fits a b && Sn.fitss l m
 | _,_=>false
end
mutual
theorem kO:∀ {s t:Sn} {d:D},Sn.fits s t=true->vG s d->vG t d
 | .int k,t,d,h,hd=>by
  cases t <;> simp only [Sn.fits] at h <;> first | (cases h; done) | skip
  rw [decide_eq_true_eq] at h; subst h; exact hd
 | .bool,t,d,h,hd=>by
  cases t <;> simp only [Sn.fits] at h <;> first | (cases h; done) | skip
  exact hd
 | .str n,t,d,h,hd=>by
  cases t <;> simp only [Sn.fits] at h <;> first | (cases h; done) | skip
  simp only [vG] at hd ⊢
  obtain ⟨s,rfl,hs⟩:=hd
  exact ⟨s,rfl,lT hs (lB h)⟩
 | .st fs,t,d,h,hd=>by
  cases t <;> simp only [Sn.fits] at h <;> first | (cases h; done) | skip
  simp only [vG] at hd ⊢
  obtain ⟨cs,rfl,hs⟩:=hd
  exact ⟨cs,rfl,qEv h hs⟩
 | .sl el sz n e,t,d,h,hd=>by
  cases t <;> simp only [Sn.fits] at h <;> first | (cases h; done) | skip
  simp only [aE] at h
  obtain ⟨⟨⟨h1,h2⟩,h3⟩,h4⟩:=h
  have h1:=vU h1
  have h2:=vU h2
  subst h1 h2
  simp only [vG] at hd ⊢
  rcases hd with rfl | ⟨es,rfl,hl,ha⟩
  ·exact .inl rfl
  exact .inr ⟨es,rfl,lT hl (lB h3),fun x hx=>kO h4 (ha x hx)⟩
 | .any,t,d,h,hd=>by simp only [Sn.fits] at h; cases h
theorem qEv:∀ {ss ts:List Sn} {ds:List D},Sn.fitss ss ts=true->vN ss ds->vN ts ds
 | [],ts,ds,h,hd=>by
  cases ts <;> simp only [Sn.fitss] at h <;> first | (cases h; done) | skip
  exact hd
 | s::ss,ts,ds,h,hd=>by
  cases ts <;> simp only [Sn.fitss] at h <;> first | (cases h; done) | skip
  simp only [aE] at h
  simp only [vN] at hd ⊢
  obtain ⟨d,r,rfl,h1,h2⟩:=hd
  exact ⟨d,r,rfl,kO h.1 h1,qEv h.2 h2⟩
end
abbrev Wd:=List (Int × D)
abbrev jB:=Nat × Nat × Int
def fF (σ:Wd) (q:jB):Prop:=∃ x y,σ[q.1]? = some x/\σ[q.2.1]? = some y/\x.1<=y.1+q.2.2
def qV6 (σ:Wd) (q:Nat × Nat):Prop:=∃ x,σ[q.1]? = some x/\0<=x.1/\x.1<=(q.2:Int)
inductive Y where
 | int (k:IntKind) (v:Nat) (c:Int)
 | bool (t f:List jB)
 | str (n b:Nat)
 | sl (n el sz b:Nat) (e:Sn)
 | st (cs:List Y)
 | nil
 | clo (f:Nat)
 | tup (cs:List Y)
 | any
mutual
def qS (σ:Wd):Y->D->Prop
 | .int k v c,d=>∃ x,σ[v]? = some x/\d=.leaf (.int k (x.1+c))
 | .bool t f,d=>∃ b,d=.leaf (.bool b)/\(b=true->∀ q∈t,fF σ q)/\(b=false->∀ q∈f,fF σ q)
 | .str n b,d=>∃ s x,d=.leaf (.string s)/\σ[n]? = some x/\x.1=(s.size:Int)/\s.size<=b
 | .sl n el sz b e,d=>σ[n]? = some ((d.es.length:Int),d)/\vG (.sl el sz b e) d
 | .st cs,d=>∃ ds,d=.agg ds/\qR σ cs ds
 | .nil,d=>d=.nil
 | .clo f,d=>d=.clo (.func f) [] []
 | .tup cs,d=>∃ ds,d=.tup ds/\qR σ cs ds
 | .any,_=>True
def qR (σ:Wd):List Y->List D->Prop
 | [],l=>l=[]
 | y::ys,l=>∃ d ds,l=d::ds/\qS σ y d/\qR σ ys ds
end
theorem zU {σ τ:Wd} {n:Nat} {x:Int × D} (h:σ[n]? = some x):(σ++τ)[n]? = some x:=by
 have hl:n < σ.length:=by
  rcases Nat.lt_or_ge n σ.length with h' | h'
  ·exact h'
  rw [List.getElem?_eq_none h'] at h; cases h
 rw [List.getElem?_append_left hl]; exact h
theorem qC9 {σ τ:Wd} {q:jB} (h:fF σ q):fF (σ++τ) q:=by
 obtain ⟨x,y,h1,h2,h3⟩:=h
 exact ⟨x,y,zU h1,zU h2,h3⟩
theorem qOs {σ τ:Wd} {q:Nat × Nat} (h:qV6 σ q):qV6 (σ++τ) q:=by
 obtain ⟨x,h1,h2⟩:=h
 exact ⟨x,zU h1,h2⟩
mutual
theorem o8 {σ τ:Wd}:∀ {y:Y} {d:D},qS σ y d->qS (σ++τ) y d
 | .int k v c,d,h=>by
  simp only [qS] at h ⊢
  obtain ⟨x,h1,h2⟩:=h; exact ⟨x,zU h1,h2⟩
 | .bool t f,d,h=>by
  simp only [qS] at h ⊢
  obtain ⟨b,h1,h2,h3⟩:=h
  exact ⟨b,h1,fun hb q hq=>qC9 (h2 hb q hq),fun hb q hq=>qC9 (h3 hb q hq)⟩
 | .str n b,d,h=>by
  simp only [qS] at h ⊢
  obtain ⟨s,x,h1,h2,h3⟩:=h; exact ⟨s,x,h1,zU h2,h3⟩
 | .sl n el sz b e,d,h=>by
  simp only [qS] at h ⊢
  exact ⟨zU h.1,h.2⟩
 | .st cs,d,h=>by
  simp only [qS] at h ⊢
  obtain ⟨ds,h1,h2⟩:=h; exact ⟨ds,h1,zN h2⟩
 | .nil,d,h=>by simp only [qS] at h ⊢; exact h
 | .clo f,d,h=>by simp only [qS] at h ⊢; exact h
 | .tup cs,d,h=>by
  simp only [qS] at h ⊢
  obtain ⟨ds,h1,h2⟩:=h; exact ⟨ds,h1,zN h2⟩
 | .any,d,h=>by simp only [qS]
theorem zN {σ τ:Wd}:∀ {ys:List Y} {ds:List D},qR σ ys ds->qR (σ++τ) ys ds
 | [],ds,h=>by simp only [qR] at h ⊢; exact h
 | y::ys,ds,h=>by
  simp only [qR] at h ⊢
  obtain ⟨d,r,h1,h2,h3⟩:=h; exact ⟨d,r,h1,o8 h2,zN h3⟩
end
def qTq:Int->Int->Bool
 | .ofNat a,.ofNat b=>Nat.ble a b
 | .negSucc a,.negSucc b=>Nat.ble b a
 | .negSucc _,.ofNat _=>true
 | .ofNat _,.negSucc _=>false
theorem qFX:∀ {a b:Int},qTq a b=true->a<=b
 | .ofNat a,.ofNat b,h=>by have:=lB h; show (a:Int)<=(b:Int); omega
 | .negSucc a,.negSucc b,h=>by have:=lB h; omega
 | .negSucc a,.ofNat b,_=>by show Int.negSucc a<=(b:Int); omega
 | .ofNat _,.negSucc _,h=>by cases h
def mX:List (Nat × Int)->Nat->Option Int
 | [],_=>none
 | (w,d)::r,u=>bif Nat.beq w u then some d else mX r u
def qTj (acc:List (Nat × Int)) (w:Nat) (d:Int):List (Nat × Int):=match mX acc w with
 | some d'=>bif qTq d' d then acc else (w,d)::acc
 | none=>(w,d)::acc
def qKi (q:jB) (acc:List (Nat × Int)):List (Nat × Int):=match mX acc q.1 with
 | some d=>qTj acc q.2.1 (Int.add d q.2.2)
 | none=>acc
def kJ:List jB->List (Nat × Int)->List (Nat × Int)
 | [],acc=>acc
 | q::r,acc=>kJ r (qKi q acc)
def qGo (F:List jB):Nat->List (Nat × Int)->List (Nat × Int)
 | 0,acc=>acc
 | n+1,acc=>qGo F n (kJ F acc)
def qMI (σ:Wd) (a:Nat) (acc:List (Nat × Int)):Prop:=∀ p∈acc,fF σ (a,p.1,p.2)
theorem iG {acc:List (Nat × Int)} {u:Nat} {d:Int} (h:mX acc u=some d):(u,d)∈acc:=by
 induction acc with
 | nil=>cases h
 | cons p r ih =>
  obtain ⟨w,e⟩:=p
  simp only [mX] at h
  cases hw:Nat.beq w u with
  | true=>rw [hw] at h; have:=vU hw; subst this; cases h; exact List.mem_cons_self
  | false=>rw [hw] at h; exact mC _ (ih h)
theorem qOH {σ:Wd} {a w:Nat} {d:Int} {acc:List (Nat × Int)} (h:qMI σ a acc) (hd:fF σ (a,w,d)):qMI σ a (qTj acc w d):=by
 have hc:qMI σ a ((w,d)::acc):=fun p hp=>by
  rcases List.mem_cons.1 hp with rfl | hp
  ·exact hd
  exact h p hp
 unfold qTj
 split
 ·cases qTq _ d
  ·exact hc
  exact h
 exact hc
theorem qIQ {σ:Wd} {a u v:Nat} {c d:Int} (h1:fF σ (a,u,d)) (h2:fF σ (u,v,c)):fF σ (a,v,d+c):=by
 obtain ⟨x,y,ha,hu,hx⟩:=h1
 obtain ⟨y',z,hu',hv,hy⟩:=h2
 simp only at ha hu hx hu' hv hy
 rw [hu] at hu'
 cases hu'
 exact ⟨x,z,ha,hv,by simp only; omega⟩
theorem qKh {σ:Wd} {a:Nat} {q:jB} {acc:List (Nat × Int)} (hq:fF σ q) (h:qMI σ a acc):qMI σ a (qKi q acc):=by
 unfold qKi
 split
 ·rename_i d hd
  exact qOH h (qIQ (h _ (iG hd)) hq)
 exact h
theorem qBV {σ:Wd} {a:Nat}:∀ (F:List jB) (acc:List (Nat × Int)),(∀ q∈F,fF σ q)->qMI σ a acc->qMI σ a (kJ F acc)
 | [],_,_,h=>h
 | q::r,acc,hF,h=>by
  unfold kJ
  exact qBV r _ (fun x hx=>hF x (mC _ hx)) (qKh (hF q List.mem_cons_self) h)
def qOD (acc:List (Nat × Int)) (lim:Int):List (Nat × Nat)->Bool
 | []=>false
 | (w,m)::r=>(match mX acc w with
  | some d=>qTq (Int.add d (Int.ofNat m)) lim
  | none=>false) || qOD acc lim r
def qTo (L:List (Nat × Nat)) (acc:List (Nat × Int)) (b:Nat) (lim:Int):Bool :=
 (match mX acc b with
 | some d=>qTq d lim
 | none=>false) || (Nat.beq b 0 && qOD acc lim L)
def qGY (F:List jB) (L:List (Nat × Nat)) (b:Nat) (lim:Int):Nat->List (Nat × Int)->Bool
 | 0,acc=>qTo L acc b lim
 | n+1,acc=>qTo L acc b lim || qGY F L b lim n (kJ F acc)
def qDq:List (Nat × Nat)->List (Nat × Int)
 | []=>[]
 | (w,_)::r=>(w,0)::qDq r
def qGj (n:Nat) (F:List jB) (L:List (Nat × Nat)) (a:Nat) (ca:Int) (b:Nat) (cb:Int):Bool :=
 bif Nat.beq a b then qTq ca cb else qGY F L b (Int.sub cb ca) n (bif Nat.beq a 0 then (0,0)::qDq L else [(a,0)])
abbrev kU:=qGj 4
structure SOk (σ:Wd) (F:List jB) (L:List (Nat × Nat)):Prop where
 z:∃ d,σ[0]? = some (0,d)
 f:∀ q∈F,fF σ q
 l:∀ q∈L,qV6 σ q
theorem qHU {acc:List (Nat × Int)} {lim:Int}:∀ {L:List (Nat × Nat)},qOD acc lim L=true->∃ p∈L,∃ d,mX acc p.1=some d/\d+(p.2:Int)<=lim
 | [],h=>by cases h
 | (w,m)::r,h=>by
  simp only [qOD] at h
  rcases Bool.or_eq_true_iff.1 h with h | h
  ·split at h
   ·rename_i d hd
    exact ⟨_,List.mem_cons_self,d,hd,qFX h⟩
   cases h
  obtain ⟨p,hp,q⟩:=qHU h
  exact ⟨p,mC _ hp,q⟩
theorem qBL {p:Nat × Int}:∀ {L:List (Nat × Nat)},p∈qDq L->∃ q∈L,p=(q.1,0)
 | [],h=>by cases h
 | (w,m)::r,h=>by
  simp only [qDq] at h
  rcases List.mem_cons.1 h with rfl | h
  ·exact ⟨_,List.mem_cons_self,rfl⟩
  obtain ⟨q,hq,e⟩:=qBL h
  exact ⟨q,mC _ hq,e⟩
theorem qKy {σ:Wd} {F:List jB} {L:List (Nat × Nat)} (hs:SOk σ F L) {a b:Nat} {lim:Int} {x y:Int × D} (ha:σ[a]? = some x) (hb:σ[b]? = some y) :
  ∀ (n:Nat) (acc:List (Nat × Int)),qMI σ a acc->qGY F L b lim n acc=true->x.1<=y.1+lim:=by
 have one:∀ acc,qMI σ a acc->qTo L acc b lim=true->x.1<=y.1+lim:=by
  intro acc hacc h
  unfold qTo at h
  rcases Bool.or_eq_true_iff.1 h with h | h
  ·split at h
   ·rename_i d hd
    obtain ⟨x',y',h1,h2,h3⟩:=hacc _ (iG hd)
    simp only at h1 h2 h3
    rw [ha] at h1; rw [hb] at h2
    cases h1; cases h2
    have:=qFX h
    omega
   cases h
  rw [aE] at h
  have h0:=vU h.1
  subst h0
  obtain ⟨p,hp,d,hd,hle⟩:=qHU h.2
  obtain ⟨x',y',h1,h2,h3⟩:=hacc _ (iG hd)
  obtain ⟨z,h4,_,h5⟩:=hs.l p hp
  obtain ⟨e,h6⟩:=hs.z
  simp only at h1 h2 h3
  rw [ha] at h1; rw [h4] at h2; rw [h6] at hb
  cases h1; cases h2; cases hb
  simp only
  omega
 intro n
 induction n with
 | zero=>intro acc hacc h; exact one acc hacc h
 | succ n ih =>
  intro acc hacc h
  simp only [qGY] at h
  rcases Bool.or_eq_true_iff.1 h with h | h
  ·exact one acc hacc h
  exact ih _ (qBV F acc hs.f hacc) h
theorem qDa {n:Nat} {σ:Wd} {F:List jB} {L:List (Nat × Nat)} (hs:SOk σ F L) {a b:Nat} {ca cb:Int} (h:qGj n F L a ca b cb=true) {x y:Int × D} (ha:σ[a]? = some x) (hb:σ[b]? = some y):x.1+ca<=y.1+cb:=by
 unfold qGj at h
 cases hab:Nat.beq a b with
 | true =>
  rw [hab] at h
  have:=vU hab
  subst this
  rw [ha] at hb
  cases hb
  have:=qFX h
  omega
 | false =>
  rw [hab] at h
  simp only [cond_false] at h
  have hi:qMI σ a (bif Nat.beq a 0 then (0,0)::qDq L else [(a,0)]):=by
   cases h0:Nat.beq a 0 with
   | true =>
    have:=vU h0
    subst this
    obtain ⟨d,hd⟩:=hs.z
    intro p hp
    rcases List.mem_cons.1 hp with rfl | hp
    ·exact ⟨_,_,hd,hd,by simp⟩
    obtain ⟨q,hq,rfl⟩:=qBL hp
    obtain ⟨z,h1,h2,_⟩:=hs.l q hq
    exact ⟨_,_,hd,h1,by simp only; omega⟩
   | false =>
    intro p hp
    rw [cond_false,List.mem_singleton] at hp
    subst hp
    exact ⟨_,_,ha,ha,by simp⟩
  have:=qKy hs ha hb n _ hi h
  have e:Int.sub cb ca=cb - ca:=rfl
  rw [e] at this
  omega
theorem v5 {σ:Wd} {F:List jB} {L:List (Nat × Nat)} (hs:SOk σ F L) {a b:Nat} {ca cb:Int} (h:kU F L a ca b cb=true) {x y:Int × D} (ha:σ[a]? = some x) (hb:σ[b]? = some y):x.1+ca<=y.1+cb:=qDa hs h ha hb
end Go.Am.Tt
namespace Go.Am.Tt
open Go Go.Am
structure El where
 n:Nat
 v:Nat
 c:Int
 y:Y
structure Cx where
 F:List jB
 L:List (Nat × Nat)
 els:List El
 nx:Nat
def Cx.add (C:Cx) (F:List jB) (L:List (Nat × Nat)) (els:List El) (k:Nat):Cx:=⟨F++C.F,L++C.L,els++C.els,Nat.add C.nx k⟩
def qIU (σ:Wd) (e:El):Prop:=∃ x d i z,σ[e.n]? = some (x,d)/\σ[e.v]? = some i/\0<=i.1+e.c/\d.es[(i.1+e.c).toNat]? = some z/\qS σ e.y z
theorem qLP {σ τ:Wd} {e:El} (h:qIU σ e):qIU (σ++τ) e:=by
 obtain ⟨x,d,i,z,h1,h2,h3,h4,h5⟩:=h
 exact ⟨x,d,i,z,zU h1,zU h2,h3,h4,o8 h5⟩
structure COk (σ:Wd) (C:Cx):Prop where
 s:SOk σ C.F C.L
 e:∀ e∈C.els,qIU σ e
 n:σ.length=C.nx
theorem COk.ext {σ τ:Wd} {C:Cx} (h:COk σ C) {F:List jB} {L:List (Nat × Nat)} {els:List El} {k:Nat}
  (hF:∀ q∈F,fF (σ++τ) q) (hL:∀ q∈L,qV6 (σ++τ) q) (hE:∀ q∈els,qIU (σ++τ) q) (hk:τ.length=k):COk (σ++τ) (C.add F L els k):=by
 refine ⟨⟨?_,fun q hq=>?_,fun q hq=>?_⟩,fun q hq=>?_,?_⟩
 ·obtain ⟨d,hd⟩:=h.s.z
  exact ⟨d,zU hd⟩
 ·rcases List.mem_append.1 hq with hq | hq
  ·exact hF q hq
  exact qC9 (h.s.f q hq)
 ·rcases List.mem_append.1 hq with hq | hq
  ·exact hL q hq
  exact qOs (h.s.l q hq)
 ·rcases List.mem_append.1 hq with hq | hq
  ·exact hE q hq
  exact qLP (h.e q hq)
 show (σ++τ).length=C.nx+k
 rw [List.length_append,h.n,hk]
theorem COk.facts {σ:Wd} {C:Cx} (h:COk σ C) {F:List jB} (hF:∀ q∈F,fF σ q):COk σ (C.add F [] [] 0):=by
 have:=h.ext (τ:=[]) (F:=F) (L:=[]) (els:=[]) (k:=0) (by simpa using hF) (by simp) (by simp) rfl
 simpa using this
theorem get_new {σ:Wd} {C:Cx} (h:COk σ C) (x:Int × D):(σ++[x])[C.nx]? = some x:=by
 rw [← h.n]; simp
mutual
def fresh:Sn->Cx->Cx × Y
 | .int k,C=>(C.add [] [] [] 1,.int k C.nx 0)
 | .bool,C=>(C,.bool [] [])
 | .str b,C=>(C.add [] [(C.nx,b)] [] 1,.str C.nx b)
 | .st fs,C=>((g9 fs C).1,.st (g9 fs C).2)
 | .sl el sz b e,C=>(C.add [] [(C.nx,b)] [] 1,.sl C.nx el sz b e)
 | .any,C=>(C,.any)
def g9:List Sn->Cx->Cx × List Y
 | [],C=>(C,[])
 | s::r,C=>((g9 r (fresh s C).1).1,(fresh s C).2::(g9 r (fresh s C).1).2)
end
theorem yK {σ:Wd} {C:Cx} (h:COk σ C):COk (σ++[]) C:=by rw [List.append_nil]; exact h
mutual
theorem qAz:∀ {s:Sn} {d:D} {σ:Wd} {C:Cx},vG s d->COk σ C->∃ τ,COk (σ++τ) (fresh s C).1/\qS (σ++τ) (fresh s C).2 d
 | .int k,d,σ,C,h,hC=>by
  simp only [vG] at h
  obtain ⟨n,rfl⟩:=h
  refine ⟨[(n,.nil)],hC.ext (by simp) (by simp) (by simp) rfl,?_⟩
  simp only [fresh,qS]
  exact ⟨_,get_new hC _,by simp⟩
 | .bool,d,σ,C,h,hC=>by
  simp only [vG] at h
  obtain ⟨b,rfl⟩:=h
  refine ⟨[],yK hC,?_⟩
  simp only [fresh,qS]
  exact ⟨b,rfl,fun _ q hq=>(by cases hq),fun _ q hq=>(by cases hq)⟩
 | .str b,d,σ,C,h,hC=>by
  simp only [vG] at h
  obtain ⟨s,rfl,hs⟩:=h
  refine ⟨[((s.size:Int),.nil)],hC.ext (by simp) (fun q hq=>?_) (by simp) rfl,?_⟩
  ·rw [List.mem_singleton] at hq; subst hq
   exact ⟨_,get_new hC _,by simp,by simp; omega⟩
  simp only [fresh,qS]
  exact ⟨s,_,rfl,get_new hC _,rfl,hs⟩
 | .st fs,d,σ,C,h,hC=>by
  simp only [vG] at h
  obtain ⟨cs,rfl,hs⟩:=h
  obtain ⟨τ,h1,h2⟩:=nM hs hC
  refine ⟨τ,h1,?_⟩
  simp only [fresh,qS]
  exact ⟨cs,rfl,h2⟩
 | .sl el sz b e,d,σ,C,h,hC=>by
  have hl:d.es.length<=b:=by
   simp only [vG] at h
   rcases h with rfl | ⟨es,rfl,h,_⟩
   ·exact Nat.zero_le _
   exact h
  refine ⟨[((d.es.length:Int),d)],hC.ext (by simp) (fun q hq=>?_) (by simp) rfl,?_⟩
  ·rw [List.mem_singleton] at hq; subst hq
   exact ⟨_,get_new hC _,by simp,by simp; omega⟩
  simp only [fresh,qS]
  exact ⟨get_new hC _,h⟩
 | .any,d,σ,C,h,hC=>by
  refine ⟨[],yK hC,?_⟩
  simp only [fresh,qS]
theorem nM:∀ {ss:List Sn} {ds:List D} {σ:Wd} {C:Cx},vN ss ds->COk σ C->∃ τ,COk (σ++τ) (g9 ss C).1/\qR (σ++τ) (g9 ss C).2 ds
 | [],ds,σ,C,h,hC=>by
  simp only [vN] at h
  refine ⟨[],yK hC,?_⟩
  simp only [g9,qR]; exact h
 | s::r,ds,σ,C,h,hC=>by
  simp only [vN] at h
  obtain ⟨d,ds',rfl,h1,h2⟩:=h
  obtain ⟨τ,a1,a2⟩:=qAz h1 hC
  obtain ⟨τ',b1,b2⟩:=nM h2 a1
  refine ⟨τ++τ',by rw [← List.append_assoc]; exact b1,?_⟩
  simp only [g9,qR]
  exact ⟨d,ds',rfl,by rw [← List.append_assoc]; exact o8 a2,by rw [← List.append_assoc]; exact b2⟩
end
mutual
def cZ (C:Cx):Y->Sn->Bool
 | _,.any=>true
 | .int k _ _,.int k'=>decide (k=k')
 | .bool _ _,.bool=>true
 | .str n b,.str m=>Nat.ble b m || kU C.F C.L n 0 0 m
 | .st cs,.st fs=>m7 C cs fs
 | .sl n el sz b e,.sl vL sz' m e'=>Nat.beq el vL && Nat.beq sz sz' && e.fits e' && (Nat.ble b m || kU C.F C.L n 0 0 m)
 | .nil,.sl _ _ _ _=>true
 | _,_=>false
def m7 (C:Cx):List Y->List Sn->Bool
 | [],[]=>true
 | y::ys,s::ss=>cZ C y s && m7 C ys ss
 | _,_=>false
end
theorem fI {σ:Wd} {C:Cx} (hC:COk σ C) {n m:Nat} {x:Int × D} (hx:σ[n]? = some x) (h:kU C.F C.L n 0 0 (m:Int)=true):x.1<=(m:Int):=by
 obtain ⟨z,hz⟩:=hC.s.z
 have:=v5 hC.s h hx hz
 simpa using this
mutual
theorem qC8 {σ:Wd} {C:Cx} (hC:COk σ C):∀ {y:Y} {s:Sn} {d:D},cZ C y s=true->qS σ y d->vG s d
 | .int k v c,s,d,h,hd=>by
  cases s <;> first | (simp only [vG]; done) | simp only [cZ] at h <;> first | (cases h; done) | skip
  rw [decide_eq_true_eq] at h; subst h
  simp only [qS] at hd
  obtain ⟨x,_,rfl⟩:=hd
  simp only [vG]; exact ⟨_,rfl⟩
 | .bool t f,s,d,h,hd=>by
  cases s <;> first | (simp only [vG]; done) | simp only [cZ] at h <;> first | (cases h; done) | skip
  simp only [qS] at hd
  obtain ⟨b,rfl,_⟩:=hd
  simp only [vG]; exact ⟨_,rfl⟩
 | .str n b,s,d,h,hd=>by
  cases s <;> first | (simp only [vG]; done) | simp only [cZ] at h <;> first | (cases h; done) | skip
  simp only [qS] at hd
  obtain ⟨t,x,rfl,h1,h2,h3⟩:=hd
  simp only [vG]
  refine ⟨_,rfl,?_⟩
  rcases Bool.or_eq_true_iff.1 h with h | h
  ·exact lT h3 (lB h)
  have:=fI hC h1 h
  omega
 | .st cs,s,d,h,hd=>by
  cases s <;> first | (simp only [vG]; done) | simp only [cZ] at h <;> first | (cases h; done) | skip
  simp only [qS] at hd
  obtain ⟨ds,rfl,h1⟩:=hd
  simp only [vG]; exact ⟨_,rfl,pG hC h h1⟩
 | .sl n el sz b e,s,d,h,hd=>by
  cases s <;> first | (simp only [vG]; done) | simp only [cZ] at h <;> first | (cases h; done) | skip
  simp only [aE] at h
  obtain ⟨⟨⟨h1,h2⟩,h3⟩,h4⟩:=h
  have h1:=vU h1
  have h2:=vU h2
  subst h1 h2
  simp only [qS] at hd
  obtain ⟨hn,hd⟩:=hd
  simp only [vG] at hd ⊢
  rcases hd with rfl | ⟨es,rfl,hl,ha⟩
  ·exact .inl rfl
  refine .inr ⟨es,rfl,?_,fun x hx=>kO h3 (ha x hx)⟩
  rcases Bool.or_eq_true_iff.1 h4 with h | h
  ·exact lT hl (lB h)
  have:=fI hC hn h
  have e:(D.sl el sz es).es.length=es.length:=rfl
  simp only [e] at this
  omega
 | .nil,s,d,h,hd=>by
  cases s <;> first | (simp only [vG]; done) | simp only [cZ] at h <;> first | (cases h; done) | skip
  simp only [qS] at hd
  subst hd
  simp only [vG]; exact .inl trivial
 | .clo _,s,d,h,hd=>by cases s <;> first | (simp only [vG]; done) | (simp only [cZ] at h; cases h; done)
 | .tup _,s,d,h,hd=>by cases s <;> first | (simp only [vG]; done) | (simp only [cZ] at h; cases h; done)
 | .any,s,d,h,hd=>by cases s <;> first | (simp only [vG]; done) | (simp only [cZ] at h; cases h; done)
theorem pG {σ:Wd} {C:Cx} (hC:COk σ C):∀ {ys:List Y} {ss:List Sn} {ds:List D},m7 C ys ss=true->qR σ ys ds->vN ss ds
 | [],ss,ds,h,hd=>by
  cases ss <;> simp only [m7] at h <;> first | (cases h; done) | skip
  simp only [qR] at hd
  simp only [vN]; exact hd
 | y::ys,ss,ds,h,hd=>by
  cases ss <;> simp only [m7] at h <;> first | (cases h; done) | skip
  simp only [aE] at h
  simp only [qR] at hd
  obtain ⟨d,r,rfl,h1,h2⟩:=hd
  simp only [vN]
  exact ⟨d,r,rfl,qC8 hC h.1 h1,pG hC h.2 h2⟩
end
end Go.Am.Tt
namespace Go.Am.Tt
open Go Go.Am
def kC (E:Env) (σ:Wd) (o:TOp) (ds:List D) (r:Cx × Y):Prop:=∃ d τ,TOp.eval E o ds=some d/\COk (σ++τ) r.1/\qS (σ++τ) r.2 d
section
variable {E:Env} {σ:Wd} {C:Cx} {o:TOp} {ds:List D} {d:D}
theorem kC.same (hC:COk σ C) {y:Y} (he:TOp.eval E o ds=some d) (hr:qS σ y d):kC E σ o ds (C,y) :=
 ⟨d,[],he,yK hC,by rw [List.append_nil]; exact hr⟩
theorem kC.fresh (hC:COk σ C) {s:Sn} (he:TOp.eval E o ds=some d) (hn:vG s d):kC E σ o ds (fresh s C):=by
 obtain ⟨τ,h1,h2⟩:=qAz hn hC
 exact ⟨d,τ,he,h1,h2⟩
theorem kC.list (hC:COk σ C) {el sz b:Nat} {e:Sn} {F:List jB} (he:TOp.eval E o ds=some d) (hn:vG (.sl el sz b e) d)
  (hF:∀ q∈F,fF (σ++[((d.es.length:Int),d)]) q):kC E σ o ds (C.add F [(C.nx,b)] [] 1,.sl C.nx el sz b e):=by
 have hl:d.es.length<=b:=by
  simp only [vG] at hn
  rcases hn with rfl | ⟨es,rfl,h,_⟩
  ·exact Nat.zero_le _
  exact h
 refine ⟨d,[((d.es.length:Int),d)],he,hC.ext hF (fun q hq=>?_) (by simp) rfl,?_⟩
 ·rw [List.mem_singleton] at hq; subst hq
  exact ⟨_,get_new hC _,by simp,by simp; omega⟩
 simp only [qS]
 exact ⟨get_new hC _,hn⟩
theorem kC.num (hC:COk σ C) {k:IntKind} {n:Int} {F:List jB} (he:TOp.eval E o ds=some (.leaf (.int k n)))
  (hF:∀ q∈F,fF (σ++[(n,D.nil)]) q):kC E σ o ds (C.add F [] [] 1,.int k C.nx 0):=by
 refine ⟨_,[(n,.nil)],he,hC.ext hF (by simp) (by simp) rfl,?_⟩
 simp only [qS]
 exact ⟨_,get_new hC _,by simp⟩
end
def qVY (C:Cx) (v:Nat) (c:Int) (w:Nat) (e:Int):List jB :=
 (bif qGj 1 C.F C.L w e v c then [(w,v,c - e - 1)] else [])++(bif qGj 1 C.F C.L v c w e then [(v,w,e - c - 1)] else [])
def qST (op:BinOp) (C:Cx) (v:Nat) (c:Int) (w:Nat) (e:Int):Option (List jB × List jB):=match op with
 | .lss=>some ([(v,w,e - c - 1)],[(w,v,c - e)])
 | .leq=>some ([(v,w,e - c)],[(w,v,c - e - 1)])
 | .gtr=>some ([(w,v,c - e - 1)],[(v,w,e - c)])
 | .geq=>some ([(w,v,c - e)],[(v,w,e - c - 1)])
 | .eql=>some ([(v,w,e - c),(w,v,c - e)],qVY C v c w e)
 | .neq=>some (qVY C v c w e,[(v,w,e - c),(w,v,c - e)])
 | _=>none
theorem qQ5 {σ:Wd} {C:Cx} (hC:COk σ C) {v w:Nat} {c e:Int} {x y:Int × D} (hv:σ[v]? = some x) (hw:σ[w]? = some y) (h:¬ x.1+c=y.1+e):∀ q∈qVY C v c w e,fF σ q:=by
 intro q hq
 unfold qVY at hq
 rcases List.mem_append.1 hq with hq | hq
 ·cases hb:qGj 1 C.F C.L w e v c with
  | false=>rw [hb] at hq; cases hq
  | true =>
   rw [hb,cond_true,List.mem_singleton] at hq
   subst hq
   have:=qDa hC.s hb hw hv
   exact ⟨y,x,hw,hv,by simp only; omega⟩
 cases hb:qGj 1 C.F C.L v c w e with
 | false=>rw [hb] at hq; cases hq
 | true =>
  rw [hb,cond_true,List.mem_singleton] at hq
  subst hq
  have:=qDa hC.s hb hv hw
  exact ⟨x,y,hv,hw,by simp only; omega⟩
theorem f1 {σ:Wd} {v w:Nat} {c:Int} {x y:Int × D} (hv:σ[v]? = some x) (hw:σ[w]? = some y) (h:x.1<=y.1+c):∀ q∈[(v,w,c)],fF σ q:=by
 intro q hq; rw [List.mem_singleton] at hq; subst hq; exact ⟨x,y,hv,hw,h⟩
theorem f2 {σ:Wd} {p q:jB} (hp:fF σ p) (hq:fF σ q):∀ r∈[p,q],fF σ r:=by
 intro r hr
 rcases List.mem_cons.1 hr with rfl | hr
 ·exact hp
 rw [List.mem_singleton] at hr; subst hr; exact hq
theorem qSS {E:Env} {σ:Wd} {C:Cx} (hC:COk σ C) {op:BinOp} {ty:TypeId} {a b:Operand} {k:IntKind} {v w:Nat} {c e:Int} {t f:List jB} {x y:Int × D}
  (h:qST op C v c w e=some (t,f)) (hv:σ[v]? = some x) (hw:σ[w]? = some y) :
  kC E σ (.bin op ty a b) [.leaf (.int k (x.1+c)),.leaf (.int k (y.1+e))] (C,.bool t f):=by
 have fin:∀ r:Bool,TOp.eval E (.bin op ty a b) [.leaf (.int k (x.1+c)),.leaf (.int k (y.1+e))]=some (dB r)->(r=true->∀ q∈t,fF σ q)->(r=false->∀ q∈f,fF σ q)->kC E σ (.bin op ty a b) [.leaf (.int k (x.1+c)),.leaf (.int k (y.1+e))] (C,.bool t f):=by
  intro r he ht hf
  refine .same hC he ?_
  simp only [qS]
  exact ⟨r,rfl,ht,hf⟩
 cases op <;> simp only [qST] at h <;> first | (cases h; done) | (cases h)
 ·exact fin _ vX (fun hb=>f2 ⟨x,y,hv,hw,by have:=dT hb; simp only; omega⟩ ⟨y,x,hw,hv,by have:=dT hb; simp only; omega⟩) (fun hb=>qQ5 hC hv hw (dF hb))
 ·exact fin _ zS (fun hb=>qQ5 hC hv hw (dT hb)) (fun hb=>f2 ⟨x,y,hv,hw,by have:=dF hb; simp only; omega⟩ ⟨y,x,hw,hv,by have:=dF hb; simp only; omega⟩)
 ·exact fin _ qK (fun hb=>f1 hv hw (by have:=dT hb; omega)) (fun hb=>f1 hw hv (by have:=dF hb; omega))
 ·exact fin _ o7 (fun hb=>f1 hv hw (by have:=dT hb; omega)) (fun hb=>f1 hw hv (by have:=dF hb; omega))
 ·exact fin _ zL (fun hb=>f1 hw hv (by have:=dT hb; omega)) (fun hb=>f1 hv hw (by have:=dF hb; omega))
 exact fin _ wE (fun hb=>f1 hw hv (by have:=dT hb; omega)) (fun hb=>f1 hv hw (by have:=dF hb; omega))
end Go.Am.Tt
namespace Go.Am.Tt
open Go Go.Am
section
variable {E:Env} {σ:Wd} {C:Cx}
def Sn.small (n:Nat):Bool:=Nat.ble n 300000000
theorem qSm {el sz b:Nat} {e:Sn} {d:D} (h:vG (.sl el sz b e) d) (hb:Nat.ble b 300000000=true):nV el sz d:=by
 simp only [vG] at h
 rcases h with rfl | ⟨es,rfl,h,_⟩
 ·exact .inl rfl
 exact .inr ⟨es,rfl,qGr (lT h (lB hb))⟩
theorem qSM {el sz b:Nat} {e:Sn} {d x:D} {i:Nat} (h:vG (.sl el sz b e) d) (hx:d.es[i]? = some x):vG e x:=by
 simp only [vG] at h
 rcases h with rfl | ⟨es,rfl,_,h⟩
 ·simp [D.es] at hx
 exact h x (List.mem_of_getElem? hx)
theorem qSj (hC:COk σ C) {n el sz b:Nat} {e:Sn} {d:D} (h:qS σ (.sl n el sz b e) d):kC E σ (.len false) [d] (C,.int .i64 n 0):=by
 simp only [qS] at h
 refine .same hC (d:=dI (d.es.length:Int)) ?_ ?_
 ·have h2:=h.2
  simp only [vG] at h2
  rcases h2 with rfl | ⟨es,rfl,_,_⟩ <;> rfl
 simp only [qS]; exact ⟨_,h.1,by simp⟩
theorem qND (hC:COk σ C):kC E σ (.len false) [.nil] (C,.int .i64 0 0):=by
 obtain ⟨z,hz⟩:=hC.s.z
 refine .same hC (d:=dI ((0:Nat):Int)) rfl ?_
 simp only [qS]; exact ⟨_,hz,by simp⟩
theorem qNC (hC:COk σ C) {n b:Nat} {d:D} (h:qS σ (.str n b) d):kC E σ (.len true) [d] (C,.int .i64 n 0):=by
 simp only [qS] at h
 obtain ⟨s,x,rfl,h1,h2,_⟩:=h
 refine .same hC (d:=dI (s.size:Int)) rfl ?_
 simp only [qS]; exact ⟨_,h1,by rw [h2]; simp⟩
def qCl:List El->Nat->Nat->Int->Option Y
 | [],_,_,_=>none
 | e::r,n,v,c=>bif Nat.beq e.n n && Nat.beq e.v v && decide (e.c=c) then some e.y else qCl r n v c
theorem fE {l:List El} (hl:∀ e∈l,qIU σ e) {n v:Nat} {c:Int} {y:Y} (h:qCl l n v c=some y):qIU σ ⟨n,v,c,y⟩:=by
 induction l with
 | nil=>cases h
 | cons e r ih =>
  simp only [qCl] at h
  cases hb:(Nat.beq e.n n && Nat.beq e.v v && decide (e.c=c)) with
  | true =>
   rw [hb,cond_true] at h
   simp only [aE,decide_eq_true_eq] at hb
   have h1:=vU hb.1.1
   have h2:=vU hb.1.2
   cases h
   have:=hl e List.mem_cons_self
   obtain ⟨en,ev,ec,ey⟩:=e
   simp only at h1 h2 hb
   rw [← h1,← h2,← hb.2]
   exact this
  | false=>rw [hb,cond_false] at h; exact ih (fun e he=>hl e (mC _ he)) h
def qNN (C:Cx) (n:Nat) (e:Sn) (v:Nat) (c:Int):Option (Cx × Y) :=
 match qCl C.els n v c with
 | some _=>some (C,.bool [] [])
 | none=>bif kU C.F C.L 0 0 v c && kU C.F C.L v (c+1) n 0 then
   some ((fresh e C).1.add [] [] [⟨n,v,c,(fresh e C).2⟩] 0,.bool [] []) else none
theorem qLi (hC:COk σ C) {n el sz b v:Nat} {e:Sn} {c:Int} {d i:D} {r:Cx × Y} (hd:qS σ (.sl n el sz b e) d) (hi:qS σ (.int .i64 v c) i) (h:qNN C n e v c=some r):kC E σ .inr [d,i] r:=by
 simp only [qS] at hd hi
 obtain ⟨x,hx,rfl⟩:=hi
 unfold qNN at h
 split at h
 ·rename_i y hy
  cases h
  obtain ⟨x',d',i',z,h1,h2,h3,h4,_⟩:=fE hC.e hy
  simp only at h1 h2 h3 h4
  rw [hd.1] at h1; rw [hx] at h2
  cases h1; cases h2
  refine .same hC (qL h3 h4) ?_
  simp only [qS]
  exact ⟨true,rfl,fun _ q hq=>(by cases hq),fun hb=>(by cases hb)⟩
 obtain ⟨hb,h⟩:=zP h
 cases h
 rw [aE] at hb
 obtain ⟨z,hz⟩:=hC.s.z
 have l1:=v5 hC.s hb.1 hz hx
 have l2:=v5 hC.s hb.2 hx hd.1
 simp only at l1 l2
 obtain ⟨q,hq⟩:=get_at (d:=d) (s:=x.1+c) (by omega) (by omega)
 obtain ⟨τ,a1,a2⟩:=qAz (qSM hd.2 hq) hC
 refine ⟨dB true,τ,qL (by omega) hq,?_,?_⟩
 ·have:=a1.ext (τ:=[]) (F:=[]) (L:=[]) (els:=[⟨n,v,c,(fresh e C).2⟩]) (k:=0) (by simp) (by simp) ?_ rfl
  ·simpa using this
  intro p hp
  rw [List.mem_singleton] at hp; subst hp
  rw [List.append_nil]
  exact ⟨_,d,x,q,zU hd.1,zU hx,by simp only; omega,hq,a2⟩
 simp only [qS]
 exact ⟨true,rfl,fun _ q hq=>(by cases hq),fun hb=>(by cases hb)⟩
end
end Go.Am.Tt
namespace Go.Am.Tt
open Go Go.Am
theorem nC {σ:Wd}:∀ {ys:List Y} {ds:List D},qR σ ys ds->ys.length=ds.length
 | [],ds,h=>by simp only [qR] at h; subst h; rfl
 | y::ys,ds,h=>by
  simp only [qR] at h
  obtain ⟨d,r,rfl,_,h2⟩:=h
  simp [nC h2]
theorem k9 {σ:Wd}:∀ {ys:List Y} {ds:List D} {i:Nat} {y:Y},qR σ ys ds->ys[i]? = some y->∃ d,ds[i]? = some d/\qS σ y d
 | [],ds,i,y,h,hy=>by simp at hy
 | z::ys,ds,i,y,h,hy=>by
  simp only [qR] at h
  obtain ⟨d,r,rfl,h1,h2⟩:=h
  cases i with
  | zero=>simp only [List.getElem?_cons_zero,oI] at hy; subst hy; exact ⟨d,by simp,h1⟩
  | succ i=>simp only [List.getElem?_cons_succ] at hy ⊢; exact k9 h2 hy
theorem cQ {σ:Wd}:∀ {n:Nat} {ys:List Y} {ds:List D},qR σ ys ds->qR σ (ys.drop n) (ds.drop n)
 | 0,ys,ds,h=>by simpa using h
 | n+1,[],ds,h=>by simp only [qR] at h; subst h; simp [qR]
 | n+1,y::ys,ds,h=>by
  simp only [qR] at h
  obtain ⟨d,r,rfl,_,h2⟩:=h
  simpa using cQ (n:=n) h2
theorem cP {σ:Wd}:∀ {n:Nat} {ys:List Y} {ds:List D},qR σ ys ds->qR σ (ys.take n) (ds.take n)
 | 0,ys,ds,h=>by simp [qR]
 | n+1,[],ds,h=>by simp only [qR] at h; subst h; simp [qR]
 | n+1,y::ys,ds,h=>by
  simp only [qR] at h
  obtain ⟨d,r,rfl,h1,h2⟩:=h
  simp only [List.take_succ_cons,qR]
  exact ⟨d,_,rfl,h1,cP (n:=n) h2⟩
def qDX:Y->Bool
 | .int _ _ _=>true
 | .bool _ _=>true
 | .str _ _=>true
 | .sl _ _ _ _ _=>true
 | .nil=>true
 | _=>false
theorem tG {σ:Wd} {y:Y} {d:D} (h:qDX y=true) (hd:qS σ y d):d.one=true:=by
 cases y <;> simp only [qDX] at h <;> first | (cases h; done) | simp only [qS] at hd
 ·obtain ⟨_,_,rfl⟩:=hd; rfl
 ·obtain ⟨_,rfl,_⟩:=hd; rfl
 ·obtain ⟨_,_,rfl,_⟩:=hd; rfl
 ·have:=hd.2
  simp only [vG] at this
  rcases this with rfl | ⟨es,rfl,_⟩ <;> rfl
 subst hd; rfl
section
variable {E:Env} {σ:Wd} {C:Cx}
def qKK (ag:Bool) (size off:Nat) (cs:List Y):Option Y:=match ag with
 | true=>bif Nat.ble (off+size) cs.length then some (.st ((cs.drop off).take size)) else none
 | false=>match cs[off]? with
  | some y=>bif qDX y && Nat.beq size 1 then some y else none
  | none=>none
theorem qSy (hC:COk σ C) {ag:Bool} {size off:Nat} {cs:List Y} {d:D} {y:Y} (hd:qS σ (.st cs) d) (h:qKK ag size off cs=some y):kC E σ (.fld ag size off) [d] (C,y):=by
 simp only [qS] at hd
 obtain ⟨es,rfl,hs⟩:=hd
 unfold qKK at h
 split at h
 ·obtain ⟨hb,h⟩:=zP h
  cases h
  refine .same hC (xW (by rw [← nC hs]; exact hb)) ?_
  simp only [qS]
  exact ⟨_,rfl,cP (cQ hs)⟩
 split at h
 ·rename_i y' hy
  obtain ⟨hb,h⟩:=zP h
  cases h
  rw [aE] at hb
  have hsz:=vU hb.2
  subst hsz
  obtain ⟨e,he,hr⟩:=k9 hs hy
  exact .same hC (qB he (tG hb.1 hr)) hr
 cases h
def qKI (cs:List Y) (off:Nat):Option Y:=match cs[off]? with
 | some y=>bif qDX y then some y else none
 | none=>none
theorem qKH {cs:List Y} {off:Nat} {y:Y} (h:qKI cs off=some y):cs[off]? = some y/\qDX y=true:=by
 unfold qKI at h
 split at h
 ·rename_i y' hy
  obtain ⟨ho,h⟩:=zP h
  cases h
  exact ⟨hy,ho⟩
 cases h
def qLO (C:Cx) (n v:Nat) (c:Int) (sz:Nat) (ag:Bool) (size off:Nat):Option Y:=match qCl C.els n v c with
 | some (.st cs)=>bif Nat.beq cs.length sz then (match ag with
  | true=>bif Nat.beq off 0 && Nat.beq size sz then some (.st cs) else bif Nat.ble (off+size) sz then some (.st ((cs.drop off).take size)) else none
  | false=>bif Nat.beq size 1 && Nat.blt off sz then qKI cs off else none) else none
 | some y=>bif !ag && qDX y && Nat.beq sz 1 && Nat.beq size 1 && Nat.beq off 0 then some y else none
 | none=>none
theorem tP (hC:COk σ C) {n el sz sz' b v size off:Nat} {ag:Bool} {e:Sn} {c:Int} {d i:D} {y:Y} (hd:qS σ (.sl n el sz b e) d) (hi:qS σ (.int .i64 v c) i)
  (hb:Nat.ble b 300000000=true) (hz:Nat.beq sz sz'=true) (h:qLO C n v c sz' ag size off=some y):kC E σ (.elem sz' ag size off) [d,i] (C,y):=by
 have hz:=vU hz
 subst hz
 simp only [qS] at hd hi
 obtain ⟨x,hx,rfl⟩:=hi
 have hsl:=qSm hd.2 hb
 unfold qLO at h
 split at h
 ·rename_i cs hf
  obtain ⟨x',d',i',z,h1,h2,h3,h4,h5⟩:=fE hC.e hf
  simp only at h1 h2 h3 h4 h5
  rw [hd.1] at h1; rw [hx] at h2
  cases h1; cases h2
  simp only [qS] at h5
  obtain ⟨es,rfl,hs⟩:=h5
  obtain ⟨hl,h⟩:=zP h
  have hl:=vU hl
  have hle:=nC hs
  split at h
  ·cases hw:(Nat.beq off 0 && Nat.beq size sz) with
   | true =>
    rw [hw,cond_true] at h
    cases h
    rw [aE] at hw
    have a1:=vU hw.1
    have a2:=vU hw.2
    subst a1 a2
    refine .same hC (z8 hsl h3 h4 (by omega)) ?_
    simp only [qS]; exact ⟨_,rfl,hs⟩
   | false =>
    rw [hw,cond_false] at h
    obtain ⟨hb',h⟩:=zP h
    cases h
    refine .same hC (qKp (size:=size) (off:=off) hsl h3 h4 (by omega) (lB hb') ?_) ?_
    ·rintro ⟨rfl,rfl⟩
     rw [Nat.beq_refl,Nat.beq_refl] at hw
     cases hw
    simp only [qS]; exact ⟨_,rfl,cP (cQ hs)⟩
  obtain ⟨hb',h'⟩:=zP h
  rw [aE] at hb'
  have a1:=vU hb'.1
  subst a1
  obtain ⟨hy,ho⟩:=qKH h'
  obtain ⟨q,hq,hr⟩:=k9 hs hy
  exact .same hC (z9 (off:=off) hsl h3 h4 hq (tG ho hr) (Nat.lt_of_succ_le (lB hb'.2))) hr
 ·rename_i y' hns hf
  obtain ⟨hb',h⟩:=zP h
  cases h
  simp only [aE] at hb'
  obtain ⟨⟨⟨⟨a0,a1⟩,a2⟩,a3⟩,a4⟩:=hb'
  have a2:=vU a2
  have a3:=vU a3
  have a4:=vU a4
  subst a2 a3 a4
  have a0:ag=false:=by simpa using a0
  subst a0
  obtain ⟨x',d',i',z,h1,h2,h3,h4,h5⟩:=fE hC.e hf
  simp only at h1 h2 h3 h4 h5
  rw [hd.1] at h1; rw [hx] at h2
  cases h1; cases h2
  exact .same hC (qO hsl h3 h4 (tG a1 h5)) h5
 cases h
theorem qR7 (hC:COk σ C) {ty:TypeId} {t f:List jB} {d:D} (hd:qS σ (.bool t f) d):kC E σ (.un .not ty) [d] (C,.bool f t):=by
 simp only [qS] at hd
 obtain ⟨b,rfl,h1,h2⟩:=hd
 refine .same hC zZ ?_
 simp only [qS]
 exact ⟨!b,rfl,fun h=>h2 (by simpa using h),fun h=>h1 (by simpa using h)⟩
theorem qOe (hC:COk σ C) {n:Nat} {cs:List Y} {d:D} (hd:qS σ (.st cs) d) (h:Nat.beq cs.length n=true):kC E σ (.chk true n) [d] (C,.st cs):=by
 have hd':=hd
 simp only [qS] at hd'
 obtain ⟨es,rfl,hs⟩:=hd'
 exact .same hC (qI (by rw [← nC hs]; exact vU h)) hd
theorem qOg (hC:COk σ C) {y:Y} {d:D} (hd:qS σ y d) (h:qDX y=true):kC E σ (.chk false 1) [d] (C,y) :=
 .same hC (vY (tG h hd)) hd
theorem qSC (hC:COk σ C) {i:Nat} {cs:List Y} {y:Y} {d:D} (hd:qS σ (.tup cs) d) (h:cs[i]? = some y):kC E σ (.ext i) [d] (C,y):=by
 simp only [qS] at hd
 obtain ⟨es,rfl,hs⟩:=hd
 obtain ⟨q,hq,hr⟩:=k9 hs h
 exact .same hC (zF hq) hr
def bY (C:Cx) (v:Nat) (c:Int):Bool:=kU C.F C.L v c 0 4000000000000000000 && kU C.F C.L 0 (-4000000000000000000) v c
theorem mU (hC:COk σ C) {v:Nat} {c:Int} {x:Int × D} (hv:σ[v]? = some x) (h:bY C v c=true) : -4000000000000000000<=x.1+c/\x.1+c<=4000000000000000000:=by
 unfold bY at h
 rw [aE] at h
 obtain ⟨z,hz⟩:=hC.s.z
 have h1:=v5 hC.s h.1 hv hz
 have h2:=v5 hC.s h.2 hz hv
 simp only at h1 h2
 omega
def qYx (C:Cx) (w:Nat) (e:Int):Option Int :=
 let acc:=qGo C.F 4 [(w,0)]
 C.L.foldl (fun m p=>match mX acc p.1 with
  | some d=>(match m with
   | some u=>some (bif decide (d+p.2+e<=u) then d+p.2+e else u)
   | none=>some (d+p.2+e))
  | none=>m) (match mX acc 0 with | some d=>some (d+e) | none=>none)
def qVZ (C:Cx) (v:Nat) (c:Int) (w:Nat) (e:Int):List jB :=
 bif kU C.F C.L 0 1 w e then [(v,C.nx,-c - 1)] else bif kU C.F C.L 0 0 w e then [(v,C.nx,-c)] else []
def qV1 (C:Cx) (v:Nat) (c:Int) (w:Nat) (e:Int):List jB:=match qYx C w e with
 | some u=>bif kU C.F C.L w e 0 u then [(C.nx,v,c+u)] else []
 | none=>[]
def qVM (C:Cx) (v:Nat) (c:Int) (w:Nat) (e:Int):List jB:=qVZ C v c w e++qV1 C v c w e++qVZ C w e v c++qV1 C w e v c
def qTi (C:Cx) (v:Nat) (c:Int) (w:Nat) (e:Int):Cx × Y :=
 bif Nat.beq w 0 && bY C v (c+e) then (C,.int .i64 v (c+e)) else
 bif Nat.beq v 0 && bY C w (e+c) then (C,.int .i64 w (e+c)) else
 bif bY C v c && bY C w e then (C.add (qVM C v c w e) [] [] 1,.int .i64 C.nx 0) else (C.add [] [] [] 1,.int .i64 C.nx 0)
theorem qLa (hC:COk σ C) {v w:Nat} {c e:Int} {x y:Int × D} (hx:σ[v]? = some x) (hy:σ[w]? = some y) {n:Int} (hn:n=x.1+c+(y.1+e)):∀ q∈qVZ C v c w e,fF (σ++[(n,D.nil)]) q:=by
 obtain ⟨z,hz⟩:=hC.s.z
 intro q hq
 unfold qVZ at hq
 cases h1:kU C.F C.L 0 1 w e with
 | true =>
  rw [h1,cond_true,List.mem_singleton] at hq
  subst hq
  have:=v5 hC.s h1 hz hy
  exact ⟨_,_,zU hx,get_new hC _,by simp only at this ⊢; omega⟩
 | false =>
  rw [h1,cond_false] at hq
  cases h0:kU C.F C.L 0 0 w e with
  | true =>
   rw [h0,cond_true,List.mem_singleton] at hq
   subst hq
   have:=v5 hC.s h0 hz hy
   exact ⟨_,_,zU hx,get_new hC _,by simp only at this ⊢; omega⟩
  | false=>rw [h0] at hq; cases hq
theorem qLk (hC:COk σ C) {v w:Nat} {c e:Int} {x y:Int × D} (hx:σ[v]? = some x) (hy:σ[w]? = some y) {n:Int} (hn:n=x.1+c+(y.1+e)):∀ q∈qV1 C v c w e,fF (σ++[(n,D.nil)]) q:=by
 obtain ⟨z,hz⟩:=hC.s.z
 intro q hq
 unfold qV1 at hq
 split at hq
 ·rename_i u _
  cases h1:kU C.F C.L w e 0 u with
  | true =>
   rw [h1,cond_true,List.mem_singleton] at hq
   subst hq
   have:=v5 hC.s h1 hy hz
   exact ⟨_,_,get_new hC _,zU hx,by simp only at this ⊢; omega⟩
  | false=>rw [h1] at hq; cases hq
 cases hq
theorem qTh (hC:COk σ C) {ty:TypeId} {a b:Operand} {v w:Nat} {c e:Int} {d d':D} (hd:qS σ (.int .i64 v c) d) (hd':qS σ (.int .i64 w e) d') :
  kC E σ (.bin .add ty a b) [d,d'] (qTi C v c w e):=by
 simp only [qS] at hd hd'
 obtain ⟨x,hx,rfl⟩:=hd
 obtain ⟨y,hy,rfl⟩:=hd'
 obtain ⟨z,hz⟩:=hC.s.z
 unfold qTi
 cases hb:(Nat.beq w 0 && bY C v (c+e)) with
 | true =>
  rw [aE] at hb
  have hw:=vU hb.1
  subst hw
  rw [hz] at hy; cases hy
  have:=mU hC hx hb.2
  refine .same hC (xF (by omega)) ?_
  simp only [qS]
  exact ⟨x,hx,by show dI (x.1+c+(0+e))=dI (x.1+(c+e)); rw [show x.1+c+(0+e)=x.1+(c+e) by omega]⟩
 | false =>
  rw [cond_false]
  cases hb:(Nat.beq v 0 && bY C w (e+c)) with
  | true =>
   rw [aE] at hb
   have hw:=vU hb.1
   subst hw
   rw [hz] at hx; cases hx
   have:=mU hC hy hb.2
   refine .same hC (xF (by omega)) ?_
   simp only [qS]
   exact ⟨y,hy,by show dI (0+c+(y.1+e))=dI (y.1+(e+c)); rw [show 0+c+(y.1+e)=y.1+(e+c) by omega]⟩
  | false =>
   rw [cond_false]
   cases hb:(bY C v c && bY C w e) with
   | false=>exact .num hC d9 (by simp)
   | true =>
    rw [aE] at hb
    have h1:=mU hC hx hb.1
    have h2:=mU hC hy hb.2
    refine .num hC (xF (by omega)) fun q hq=>?_
    unfold qVM at hq
    rcases List.mem_append.1 hq with hq | hq
    ·rcases List.mem_append.1 hq with hq | hq
     ·rcases List.mem_append.1 hq with hq | hq
      ·exact qLa hC hx hy rfl q hq
      exact qLk hC hx hy rfl q hq
     exact qLa hC hy hx (by omega) q hq
    exact qLk hC hy hx (by omega) q hq
def qUM (C:Cx) (v:Nat) (c:Int) (w:Nat) (e:Int):List jB :=
 (bif kU C.F C.L w e v c then [(0,C.nx,0)] else [])++(bif kU C.F C.L 0 0 w e then [(C.nx,v,c)] else [])
def qRB (C:Cx) (v:Nat) (c:Int) (w:Nat) (e:Int):Cx × Y :=
 bif Nat.beq w 0 && bY C v (c - e) then (C,.int .i64 v (c - e)) else
 bif bY C v c && bY C w e then (C.add (qUM C v c w e) [] [] 1,.int .i64 C.nx 0) else (C.add [] [] [] 1,.int .i64 C.nx 0)
theorem qRA (hC:COk σ C) {ty:TypeId} {a b:Operand} {v w:Nat} {c e:Int} {d d':D} (hd:qS σ (.int .i64 v c) d) (hd':qS σ (.int .i64 w e) d') :
  kC E σ (.bin .sub ty a b) [d,d'] (qRB C v c w e):=by
 simp only [qS] at hd hd'
 obtain ⟨x,hx,rfl⟩:=hd
 obtain ⟨y,hy,rfl⟩:=hd'
 obtain ⟨z,hz⟩:=hC.s.z
 unfold qRB
 cases hb:(Nat.beq w 0 && bY C v (c - e)) with
 | true =>
  rw [aE] at hb
  have hw:=vU hb.1
  subst hw
  rw [hz] at hy; cases hy
  have:=mU hC hx hb.2
  refine .same hC (lI (by omega)) ?_
  simp only [qS]
  exact ⟨x,hx,by show dI (x.1+c - (0+e))=dI (x.1+(c - e)); rw [show x.1+c - (0+e)=x.1+(c - e) by omega]⟩
 | false =>
  rw [cond_false]
  cases hb:(bY C v c && bY C w e) with
  | false=>exact .num hC tA (by simp)
  | true =>
   rw [aE] at hb
   have h1:=mU hC hx hb.1
   have h2:=mU hC hy hb.2
   refine .num hC (lI (by omega)) fun q hq=>?_
   unfold qUM at hq
   rcases List.mem_append.1 hq with hq | hq
   ·cases h:kU C.F C.L w e v c with
    | false=>rw [h] at hq; cases hq
    | true =>
     rw [h,cond_true,List.mem_singleton] at hq
     subst hq
     have:=v5 hC.s h hy hx
     exact ⟨_,_,zU hz,get_new hC _,by simp only; omega⟩
   cases h:kU C.F C.L 0 0 w e with
   | false=>rw [h] at hq; cases hq
   | true =>
    rw [h,cond_true,List.mem_singleton] at hq
    subst hq
    have:=v5 hC.s h hz hy
    exact ⟨_,_,get_new hC _,zU hx,by simp only at this ⊢; omega⟩
theorem qSb (hC:COk σ C) {ty:TypeId} {a b:Operand} {v w:Nat} {c e:Int} {d d':D} (hd:qS σ (.int .i64 v c) d) (hd':qS σ (.int .i64 w e) d') :
  kC E σ (.bin .mul ty a b) [d,d'] (C.add [] [] [] 1,.int .i64 C.nx 0):=by
 simp only [qS] at hd hd'
 obtain ⟨x,hx,rfl⟩:=hd
 obtain ⟨y,hy,rfl⟩:=hd'
 exact .num hC d8 (by simp)
theorem qU6 (hC:COk σ C) {m:Bool} {v w:Nat} {c e:Int} {d d':D} (hd:qS σ (.int .i64 v c) d) (hd':qS σ (.int .i64 w e) d') :
  kC E σ (.mm m) [d,d'] (C.add [] [] [] 1,.int .i64 C.nx 0):=by
 simp only [qS] at hd hd'
 obtain ⟨x,hx,rfl⟩:=hd
 obtain ⟨y,hy,rfl⟩:=hd'
 obtain ⟨n,hn⟩:=qU9 (E:=E) m (x.1+c) (y.1+e)
 exact .num hC hn (by simp)
end
end Go.Am.Tt
namespace Go.Am.Tt
open Go Go.Am
mutual
def Sn.sh:Sn->Sh
 | .int k=>.int k
 | .bool=>.bool
 | .str _=>.str
 | .st fs=>.st (Sn.shs fs)
 | .sl el sz _ e=>.sl el sz (Sn.sh e)
 | .any=>.bool
def Sn.shs:List Sn->List Sh
 | []=>[]
 | s::r=>Sn.sh s::Sn.shs r
end
mutual
def Sn.low:Sn->Bool
 | .int _=>true
 | .bool=>true
 | .str n=>Nat.ble n 300000000
 | .st fs=>Sn.lows fs
 | .sl _ _ n e=>Nat.ble n 300000000 && Sn.low e
 | .any=>false
def Sn.lows:List Sn->Bool
 | []=>true
 | s::r=>Sn.low s && Sn.lows r
end
mutual
theorem gA:∀ {s:Sn} {d:D},Sn.low s=true->vG s d->qE 300000000 s.sh d
 | .int k,d,_,h=>by simp only [vG] at h; simp only [Sn.sh,qE]; exact h
 | .bool,d,_,h=>by simp only [vG] at h; simp only [Sn.sh,qE]; exact h
 | .str n,d,hl,h=>by
  simp only [vG] at h; simp only [Sn.sh,qE]
  obtain ⟨s,hs,hn⟩:=h
  exact ⟨s,hs,lT hn (lB hl)⟩
 | .st fs,d,hl,h=>by
  simp only [vG] at h; simp only [Sn.sh,qE]
  obtain ⟨cs,hd,h⟩:=h
  exact ⟨cs,hd,tM hl h⟩
 | .sl el sz n e,d,hl,h=>by
  simp only [Sn.low,aE] at hl
  simp only [vG] at h; simp only [Sn.sh,qE]
  rcases h with h | ⟨es,hd,hn,ha⟩
  ·exact .inl h
  exact .inr ⟨es,hd,lT hn (lB hl.1),fun x hx=>gA hl.2 (ha x hx)⟩
 | .any,d,hl,h=>by simp only [Sn.low] at hl; cases hl
theorem tM:∀ {ss:List Sn} {ds:List D},Sn.lows ss=true->vN ss ds->jX 300000000 (Sn.shs ss) ds
 | [],ds,_,h=>by simp only [vN] at h; simp only [Sn.shs,jX]; exact h
 | s::r,ds,hl,h=>by
  simp only [Sn.lows,aE] at hl
  simp only [vN] at h; simp only [Sn.shs,jX]
  obtain ⟨d,r',hd,h1,h2⟩:=h
  exact ⟨d,r',hd,gA hl.1 h1,tM hl.2 h2⟩
end
section
variable {E:Env} {σ:Wd} {C:Cx}
theorem iN:∀ {fs:List Sn} {cs:List D},vN fs cs->cs.length=fs.length
 | [],cs,h=>by simp only [vN] at h; subst h; rfl
 | f::fs,cs,h=>by simp only [vN] at h; obtain ⟨d,r,rfl,_,h⟩:=h; simp [iN h]
def qGq:Sn->Nat
 | .st fs=>fs.length
 | _=>1
def qQZ:Sn->Bool
 | .any=>false
 | _=>true
theorem qOh {s:Sn} {d:D} (hr:qQZ s=true) (h:vG s d):d.cells.length=qGq s:=by
 cases s <;> first | (cases hr; done) | simp only [vG] at h
 ·obtain ⟨_,rfl⟩:=h; rfl
 ·obtain ⟨_,rfl⟩:=h; rfl
 ·obtain ⟨_,rfl,_⟩:=h; rfl
 ·obtain ⟨cs,rfl,h⟩:=h
  show cs.length=_
  simp only [qGq]
  exact iN h
 rcases h with rfl | ⟨es,rfl,_⟩ <;> rfl
theorem qEx {C:Cx} (hC:COk σ C) {e:Sn}:∀ {ys:List Y} {ds:List D},ys.all (fun y=>cZ C y e)=true->qR σ ys ds->∀ x∈ds,vG e x
 | [],ds,_,h=>by simp only [qR] at h; subst h; intro x hx; cases hx
 | y::ys,ds,ha,h=>by
  simp only [qR] at h
  obtain ⟨d,r,rfl,h1,h2⟩:=h
  simp only [List.all_cons,aE] at ha
  intro x hx
  rcases List.mem_cons.1 hx with rfl | hx
  ·exact qC8 hC ha.1 h1
  exact qEx hC ha.2 h2 x hx
def qSh (C:Cx) (el sz:Nat) (e:Sn) (ys:List Y):Option (Cx × Y) :=
 bif qQZ e && ys.all (fun y=>cZ C y e) && Nat.beq (qGq e) sz && Nat.ble (Nat.mul ys.length (Nat.succ sz)) 1000000 then
  some (C.add [(C.nx,0,ys.length),(0,C.nx,-(ys.length:Int))] [(C.nx,ys.length)] [] 1,.sl C.nx el sz ys.length e) else none
theorem qSg (hC:COk σ C) {el sz:Nat} {e:Sn} {ys:List Y} {ds:List D} {r:Cx × Y} (hd:qR σ ys ds) (h:qSh C el sz e ys=some r):kC E σ (.lit el sz) ds r:=by
 unfold qSh at h
 obtain ⟨hb,h⟩:=zP h
 cases h
 simp only [aE] at hb
 obtain ⟨⟨⟨h0,h1⟩,h2⟩,h3⟩:=hb
 have hl:=nC hd
 have hall:=qEx hC h1 hd
 have h2:=vU h2
 have hev:TOp.eval E (.lit el sz) ds=some (.sl el sz ds):=by
  rw [iW]
  refine nY ?_
  rw [aE]
  refine ⟨List.all_eq_true.2 fun x hx=>?_,by rw [← hl]; exact h3⟩
  rw [qOh h0 (hall x hx),h2]; exact Nat.beq_refl _
 obtain ⟨z,hz⟩:=hC.s.z
 refine .list hC hev ?_ (f2 ⟨_,_,get_new hC _,zU hz,?_⟩ ⟨_,_,zU hz,get_new hC _,?_⟩)
 ·simp only [vG]
  exact .inr ⟨ds,rfl,by omega,hall⟩
 ·show ((ds.length:Nat):Int)<=0+(ys.length:Int); omega
 show (0:Int)<=((ds.length:Nat):Int) + -(ys.length:Int); omega
def qSV (C:Cx) (n v:Nat) (c:Int):Bool:=kU C.F C.L 0 0 v c && kU C.F C.L v (c+1) n 0
theorem qSU (hC:COk σ C) {n b v:Nat} {c:Int} {d i:D} (hd:qS σ (.str n b) d) (hi:qS σ (.int .i64 v c) i) (h:qSV C n v c=true) :
  kC E σ .chr [d,i] (C.add [(0,C.nx,0),(C.nx,0,255)] [] [] 1,.int .u8 C.nx 0):=by
 simp only [qS] at hd hi
 obtain ⟨s,x,rfl,h1,h2,_⟩:=hd
 obtain ⟨y,hy,rfl⟩:=hi
 unfold qSV at h
 rw [aE] at h
 obtain ⟨z,hz⟩:=hC.s.z
 have l1:=v5 hC.s h.1 hz hy
 have l2:=v5 hC.s h.2 hy h1
 simp only at l1
 obtain ⟨m,m0,m1,he⟩:=hU (E:=E) (s:=s) (i:=y.1+c) (by omega) (by omega)
 exact .num hC he (f2 ⟨_,_,zU hz,get_new hC _,by simp only; omega⟩ ⟨_,_,get_new hC _,zU hz,by simp only; omega⟩)
end
end Go.Am.Tt
namespace Go.Am.Tt
open Go Go.Am
def Ls (el sz:Nat) (d:D):Prop:=d=.nil∨∃ es,d=.sl el sz es
theorem uJ {el sz b:Nat} {e:Sn} {d:D}:vG (.sl el sz b e) d↔Ls el sz d/\d.es.length<=b/\∀ x∈d.es,vG e x:=by
 constructor
 ·intro h
  simp only [vG] at h
  rcases h with rfl | ⟨es,rfl,hl,ha⟩
  ·exact ⟨.inl rfl,Nat.zero_le _,fun x hx=>by cases hx⟩
  exact ⟨.inr ⟨es,rfl⟩,hl,ha⟩
 rintro ⟨h,hl,ha⟩
 simp only [vG]
 rcases h with rfl | ⟨es,rfl⟩
 ·exact .inl rfl
 exact .inr ⟨es,rfl,hl,ha⟩
section
variable {E:Env} {σ:Wd} {C:Cx}
theorem qOx {el sz bytes:Nat} {a b:D} (ha:Ls el sz a) (hb:Ls el sz b) (hbytes:bytes<=80) (hl:a.es.length+b.es.length<=300000000) :
  ∃ y,TOp.eval E (.app el sz bytes) [a,b]=some y/\Ls el sz y/\y.es=a.es++b.es:=by
 have hss:pT a=some a.es.length:=by
  rcases ha with rfl | ⟨es,rfl⟩ <;> rfl
 rw [iX,hss]
 rcases hb with rfl | ⟨es,rfl⟩
 ·refine ⟨a,?_,ha,by simp [D.es]⟩
  have h1:Nat.ble (Nat.mul (Nat.add (Nat.mul 4 a.es.length) 4000) (Nat.succ bytes)) 100000000000=true:=rG (by have:(D.nil).es.length=0:=rfl; omega) hbytes
  have e0:∀ (b:Bool) (x:Option D),b=true->(bif b then x else none)=x:=fun b x hb=>by rw [hb]; rfl
  exact e0 _ _ h1
 have h1:Nat.ble (Nat.mul (Nat.add (Nat.mul 4 (Nat.add a.es.length es.length)) 4000) (Nat.succ bytes)) 100000000000=true:=rG hl hbytes
 have h2:Nat.beq sz sz=true:=Nat.beq_refl _
 have tt:∀ (b:Bool) (x y:Option D),b=true->(bif b then x else y)=x:=fun b x y hb=>by rw [hb]; rfl
 rcases ha with rfl | ⟨es',rfl⟩
 ·refine ⟨if es.length=0 then .nil else .sl el sz ([]++es),(tt _ _ _ (by rw [h1,h2]; rfl)).trans ?_,?_,?_⟩
  ·rw [qU]; split <;> rfl
  ·split
   ·exact .inl rfl
   exact .inr ⟨_,rfl⟩
  split
  ·rename_i h0
   have:=List.eq_nil_of_length_eq_zero h0
   subst this; rfl
  rfl
 refine ⟨if es.length=0 then .sl el sz es' else .sl el sz (es'++es),(tt _ _ _ (by rw [h1,h2]; show (true && true && (Nat.beq el el && Nat.beq sz sz))=true; rw [Nat.beq_refl,Nat.beq_refl]; rfl)).trans ?_,?_,?_⟩
 ·rw [qU]; split <;> rfl
 ·split
  ·exact .inr ⟨_,rfl⟩
  exact .inr ⟨_,rfl⟩
 split
 ·rename_i h0
  have:=List.eq_nil_of_length_eq_zero h0
  subst this
  show es'=es'++[]
  simp
 rfl
theorem qS7 (hC:COk σ C) {el sz bytes n1 b1 n2 b2:Nat} {e:Sn} {a c:D} (ha:qS σ (.sl n1 el sz b1 e) a) (hc:qS σ (.sl n2 el sz b2 e) c) (hbytes:Nat.ble bytes 80=true)
  {m k m' k':Nat} (hm:kU C.F C.L n1 0 0 m=true) (hk:kU C.F C.L n2 0 0 k=true) (hm':kU C.F C.L 0 m' n1 0=true) (hk':kU C.F C.L 0 k' n2 0=true) (hmk:Nat.ble (m+k) 300000000=true) :
  kC E σ (.app el sz bytes) [a,c] (C.add [(n1,C.nx,-(k':Int)),(C.nx,n1,(k:Int)),(n2,C.nx,-(m':Int)),(C.nx,n2,(m:Int))] [(C.nx,m+k)] [] 1,.sl C.nx el sz (m+k) e):=by
 simp only [qS] at ha hc
 obtain ⟨ha0,ha1⟩:=ha
 obtain ⟨hc0,hc1⟩:=hc
 have l1:=fI hC ha0 hm
 have l2:=fI hC hc0 hk
 obtain ⟨z,hz⟩:=hC.s.z
 have l3:=v5 hC.s hm' hz ha0
 have l4:=v5 hC.s hk' hz hc0
 simp only at l1 l2 l3 l4
 have hmk:=lB hmk
 rw [uJ] at ha1 hc1
 obtain ⟨y,e1,e2,e3⟩:=qOx (E:=E) ha1.1 hc1.1 (lB hbytes) (by omega)
 have hlen:y.es.length=a.es.length+c.es.length:=by rw [e3,List.length_append]
 refine .list hC e1 (uJ.2 ⟨e2,by omega,fun x hx=>?_⟩) ?_
 ·rw [e3] at hx
  rcases List.mem_append.1 hx with hx | hx
  ·exact ha1.2.2 x hx
  exact hc1.2.2 x hx
 intro q hq
 simp only [List.mem_cons,List.not_mem_nil,or_false] at hq
 rcases hq with rfl | rfl | rfl | rfl
 ·exact ⟨_,_,zU ha0,get_new hC _,by simp only; omega⟩
 ·exact ⟨_,_,get_new hC _,zU ha0,by simp only; omega⟩
 ·exact ⟨_,_,zU hc0,get_new hC _,by simp only; omega⟩
 exact ⟨_,_,get_new hC _,zU hc0,by simp only; omega⟩
theorem qVh (hC:COk σ C) {el sz n b v:Nat} {c:Int} {e:Sn} {l i:D} (hl:qS σ (.sl n el sz b e) l) (hi:qS σ (.int .i64 v c) i) (hb:Nat.ble b 300000000=true)
  (h0:kU C.F C.L 0 0 v c=true) (h1:kU C.F C.L v c n 0=true) :
  kC E σ (.slc el sz false true) [l,i] (C.add [(C.nx,v,c),(v,C.nx,-c)] [(C.nx,b)] [] 1,.sl C.nx el sz b e):=by
 simp only [qS] at hl hi
 obtain ⟨x,hx,rfl⟩:=hi
 obtain ⟨hl0,hl1⟩:=hl
 obtain ⟨z,hz⟩:=hC.s.z
 have l0:=v5 hC.s h0 hz hx
 have l1:=v5 hC.s h1 hx hl0
 simp only at l0 l1
 have hl2:=hl1
 simp only [vG] at hl2
 rcases hl2 with rfl | ⟨es,rfl,hlen,ha⟩
 ·have hz':(D.nil).es.length=0:=rfl
  rw [hz'] at l1 hl0
  have hj:x.1+c=0:=by omega
  refine .list hC (d:=.nil) ?_ hl1 (f2 ⟨_,_,get_new hC _,zU hx,by simp only [hz']; omega⟩ ⟨_,_,zU hx,get_new hC _,by simp only [hz']; omega⟩)
  show TOp.eval E (.slc el sz false true) [.nil,dI (x.1+c)]=_
  rw [hj]; rfl
 have he:(D.sl el sz es).es.length=es.length:=rfl
 rw [he] at l1 hl0
 have hev:TOp.eval E (.slc el sz false true) [.sl el sz es,dI (x.1+c)]=some (.sl el sz (es.take (x.1+c).toNat)):=by
  rw [oB]
  have hb0:vR false 0 [dI (x.1+c)]=some (0,[dI (x.1+c)]):=rfl
  have hb':vR true es.length [dI (x.1+c)]=some ((x.1+c).toNat,[]):=by simp only [vR,cond_true,kM (by omega:0<=x.1+c),Option.map_some]
  simp only [hb0,hb']
  refine (nY ?_).trans ?_
  ·rw [Nat.beq_refl,Nat.beq_refl,bL (Nat.zero_le _),bL (by omega)]; rfl
  simp
 have hn:((es.take (x.1+c).toNat).length:Int)=x.1+c:=by rw [List.length_take]; omega
 have hn':((D.sl el sz (es.take (x.1+c).toNat)).es.length:Int)=x.1+c:=hn
 refine .list hC hev (by simp only [vG]; exact .inr ⟨_,rfl,by rw [List.length_take]; omega,fun y hy=>ha y (List.mem_of_mem_take hy)⟩) (f2 ⟨_,_,get_new hC _,zU hx,by simp only [hn']; omega⟩ ⟨_,_,zU hx,get_new hC _,by simp only [hn']; omega⟩)
end
end Go.Am.Tt
namespace Go.Am.Tt
open Go Go.Am
section
variable {E:Env} {σ:Wd} {C:Cx}
theorem qVc (hC:COk σ C) {el sz n b v:Nat} {c:Int} {e:Sn} {l i:D} (hl:qS σ (.sl n el sz b e) l) (hi:qS σ (.int .i64 v c) i)
  (h0:kU C.F C.L 0 0 v c=true) (h1:kU C.F C.L v c n 0=true) :
  kC E σ (.slc el sz true false) [l,i] (C.add [(C.nx,n,0)] [(C.nx,b)] [] 1,.sl C.nx el sz b e):=by
 simp only [qS] at hl hi
 obtain ⟨x,hx,rfl⟩:=hi
 obtain ⟨hl0,hl1⟩:=hl
 obtain ⟨z,hz⟩:=hC.s.z
 have l0:=v5 hC.s h0 hz hx
 have l1:=v5 hC.s h1 hx hl0
 simp only at l0 l1
 have hl2:=hl1
 simp only [vG] at hl2
 rcases hl2 with rfl | ⟨es,rfl,hlen,ha⟩
 ·have hz':(D.nil).es.length=0:=rfl
  rw [hz'] at l1 hl0
  have hj:x.1+c=0:=by omega
  refine .list hC (d:=.nil) ?_ hl1 (f1 (get_new hC _) (zU hl0) (by simp only [hz']; omega))
  show TOp.eval E (.slc el sz true false) [.nil,dI (x.1+c)]=_
  rw [hj]; rfl
 have he:(D.sl el sz es).es.length=es.length:=rfl
 rw [he] at l1 hl0
 have hev:TOp.eval E (.slc el sz true false) [.sl el sz es,dI (x.1+c)]=some (.sl el sz (es.drop (x.1+c).toNat)):=by
  rw [oB]
  have hb0:vR true 0 [dI (x.1+c)]=some ((x.1+c).toNat,[]):=by simp only [vR,cond_true,kM (by omega:0<=x.1+c),Option.map_some]
  have hb':vR false es.length ([]:List D)=some (es.length,[]):=rfl
  simp only [hb0,hb']
  refine (nY ?_).trans ?_
  ·rw [Nat.beq_refl,Nat.beq_refl,bL (by omega),bL (zT _)]; rfl
  rw [List.take_of_length_le (by rw [List.length_drop]; omega)]
 have hn':(D.sl el sz (es.drop (x.1+c).toNat)).es.length=es.length - (x.1+c).toNat:=List.length_drop
 exact .list hC hev (by simp only [vG]; exact .inr ⟨_,rfl,by rw [List.length_drop]; omega,fun y hy=>ha y (List.mem_of_mem_drop hy)⟩) (f1 (get_new hC _) (zU hl0) (by simp only [hn']; omega))
theorem kC.text (hC:COk σ C) {o:TOp} {ds:List D} {s:ByteArray} {b:Nat} (he:TOp.eval E o ds=some (.leaf (.string s))) (hs:s.size<=b) {F:List jB}
  (hF:∀ q∈F,fF (σ++[((s.size:Int),D.nil)]) q):kC E σ o ds (C.add F [(C.nx,b)] [] 1,.str C.nx b):=by
 refine ⟨_,[((s.size:Int),.nil)],he,hC.ext hF (fun q hq=>?_) (by simp) rfl,?_⟩
 ·rw [List.mem_singleton] at hq; subst hq
  exact ⟨_,get_new hC _,by simp,by simp; omega⟩
 simp only [qS]
 exact ⟨s,_,rfl,get_new hC _,rfl,hs⟩
theorem qM3 (hC:COk σ C) {n b v w:Nat} {c e:Int} {d i j:D} (hd:qS σ (.str n b) d) (hi:qS σ (.int .i64 v c) i) (hj:qS σ (.int .i64 w e) j)
  (h0:kU C.F C.L 0 0 v c=true) (h1:kU C.F C.L v c w e=true) (h2:kU C.F C.L w e n 0=true) :
  kC E σ (.sub true true) [d,i,j] (C.add [] [(C.nx,b)] [] 1,.str C.nx b):=by
 simp only [qS] at hd hi hj
 obtain ⟨s,y,rfl,hy,hs,hb⟩:=hd
 obtain ⟨x,hx,rfl⟩:=hi
 obtain ⟨u,hu,rfl⟩:=hj
 obtain ⟨z,hz⟩:=hC.s.z
 have l0:=v5 hC.s h0 hz hx
 have l1:=v5 hC.s h1 hx hu
 have l2:=v5 hC.s h2 hu hy
 simp only at l0
 obtain ⟨t,ht,he⟩:=tT (E:=E) (B:=b) (s:=s) (i:=x.1+c) (j:=u.1+e) (by omega) (by omega) (by omega) hb
 exact .text hC he ht (by simp)
theorem qOl (hC:COk σ C) {n el b:Nat} {d:D} (hd:qS σ (.sl n el 1 b (.int .u8)) d) (h1:kU C.F C.L 0 1 n 0=true) :
  kC E σ .bstr [d] (C.add [] [(C.nx,b)] [] 1,.str C.nx b):=by
 simp only [qS] at hd
 obtain ⟨hd0,hd1⟩:=hd
 obtain ⟨z,hz⟩:=hC.s.z
 have l1:=v5 hC.s h1 hz hd0
 simp only at l1
 have hB:qE b (.sl el 1 (.int .u8)) d:=by
  simp only [vG] at hd1
  simp only [qE]
  exact hd1
 have hn:∃ es,d=.sl el 1 es:=by
  simp only [vG] at hd1
  rcases hd1 with rfl | ⟨es,rfl,_⟩
  ·have:(D.nil).es.length=0:=rfl
   omega
  exact ⟨es,rfl⟩
 obtain ⟨t,ht,he⟩:=qMO (E:=E) hB hn
 exact .text hC he ht (by simp)
end
end Go.Am.Tt
namespace Go.Am.Tt
open Go Go.Am
section
variable {E:Env} {σ:Wd} {C:Cx}
def qGL (e:Sn) (z:D):Bool:=match e,z with
 | .bool,.leaf (.bool _)=>true
 | .int k,.leaf (.int k' _)=>decide (k=k')
 | _,_=>false
theorem qJn {e:Sn} {z:D} (h:qGL e z=true):vG e z:=by
 unfold qGL at h
 split at h
 ·simp only [vG]; exact ⟨_,rfl⟩
 ·rw [decide_eq_true_eq] at h; subst h; simp only [vG]; exact ⟨_,rfl⟩
 cases h
theorem qVa (hC:COk σ C) {el sz bytes v b:Nat} {ag:Bool} {zs:List Value} {c:Int} {e:Sn} {i:D} (hi:qS σ (.int .i64 v c) i)
  (h0:kU C.F C.L 0 0 v c=true) (h1:kU C.F C.L v c 0 b=true) (hb:Nat.ble b 300000000=true)
  (hz:(Nat.beq zs.length sz && zs.all (fun v=>zI v && qQ v) && (ag || Nat.beq sz 1))=true) (hs:Nat.ble (bytes+sz) 2=true) (he:qGL e (zD ag zs)=true) :
  kC E σ (.mk el sz bytes ag zs) [i] (C.add [(C.nx,v,c),(v,C.nx,-c)] [(C.nx,b)] [] 1,.sl C.nx el sz b e):=by
 simp only [qS] at hi
 obtain ⟨x,hx,rfl⟩:=hi
 obtain ⟨z,hz0⟩:=hC.s.z
 have l0:=v5 hC.s h0 hz0 hx
 have l1:=v5 hC.s h1 hx hz0
 simp only at l0 l1
 have hbb:=lB hb
 have hev:TOp.eval E (.mk el sz bytes ag zs) [dI (x.1+c)]=some (.sl el sz (List.replicate (x.1+c).toNat (zD ag zs))):=by
  rw [qLG,kM (by omega)]
  have hle:(x.1+c).toNat * (bytes+sz+1)<=1000000000:=by
   have:(x.1+c).toNat * (bytes+sz+1)<=300000000 * 3:=Nat.mul_le_mul (by omega) (by have:=lB hs; omega)
   omega
  exact nY (by rw [hz]; exact bL hle)
 have hn:((D.sl el sz (List.replicate (x.1+c).toNat (zD ag zs))).es.length:Int)=x.1+c:=by
  show ((List.replicate (x.1+c).toNat (zD ag zs)).length:Int)=_
  rw [List.length_replicate]; omega
 refine .list hC hev ?_ (f2 ⟨_,_,get_new hC _,zU hx,by simp only [hn]; omega⟩ ⟨_,_,zU hx,get_new hC _,by simp only [hn]; omega⟩)
 simp only [vG]
 exact .inr ⟨_,rfl,by rw [List.length_replicate]; omega,fun y hy=>by rw [List.eq_of_mem_replicate hy]; exact qJn he⟩
theorem qH4 (hC:COk σ C) {ty:TypeId} {a b:Operand} {op:BinOp} (hop:op=.eql∨op=.neq) {n b1 m b2:Nat} {d d':D} (hd:qS σ (.str n b1) d) (hd':qS σ (.str m b2) d') :
  kC E σ (.bin op ty a b) [d,d'] (C,.bool [] []):=by
 simp only [qS] at hd hd'
 obtain ⟨s,_,rfl,_⟩:=hd
 obtain ⟨t,_,rfl,_⟩:=hd'
 have fin:∀ r:Bool,qS σ (.bool [] []) (dB r):=by
  intro r; simp only [qS]; exact ⟨r,rfl,fun _ q hq=>(by cases hq),fun _ q hq=>(by cases hq)⟩
 rcases hop with rfl | rfl
 ·exact .same hC qCE (fin _)
 exact .same hC eC (fin _)
theorem qKj (hC:COk σ C) {ty:TypeId} {a b:Operand} {op:BinOp} (hop:op=.neq∨op=.eql) {ss:List Sn} {cs cs':List Y} {d d':D} {k:Nat} {sh:List Sh}
  (hd:qS σ (.st cs) d) (hd':qS σ (.st cs') d') (h1:m7 C cs ss=true) (h2:m7 C cs' ss=true) (hl:Sn.lows ss=true)
  (ht:iY E.prog k ty=some sh) (hsh:sh=Sn.shs ss) (hst:m9 E.prog ty=true) (hk:k<=10000) (hg:E.prog.eqGuardType E.prog.depth ty=false) (hf:(Sn.shs ss).all qCi=true) :
  kC E σ (.bin op ty a b) [d,d'] (C,.bool [] []):=by
 subst hsh
 simp only [qS] at hd hd'
 obtain ⟨as,rfl,ha⟩:=hd
 obtain ⟨bs,rfl,hb⟩:=hd'
 refine .same hC (qCF op hop ht hst hk hg hf (qEg (tM hl (pG hC h1 ha))) (qEg (tM hl (pG hC h2 hb)))) ?_
 simp only [qS]
 exact ⟨_,rfl,fun _ q hq=>(by cases hq),fun _ q hq=>(by cases hq)⟩
end
end Go.Am.Tt
namespace Go.Am.Tt
open Go Go.Am
section
variable {E:Env} {σ:Wd} {C:Cx}
theorem kC.after {τ:Wd} {o:TOp} {ds:List D} {r:Cx × Y} (h:kC E (σ++τ) o ds r):kC E σ o ds r:=by
 obtain ⟨d,τ',h1,h2,h3⟩:=h
 exact ⟨d,τ++τ',h1,by rw [← List.append_assoc]; exact h2,by rw [← List.append_assoc]; exact h3⟩
def qWb (C:Cx) (n:Nat):Nat :=
 let acc:=qGo C.F 4 [(n,0)]
 C.L.foldl (fun m p=>match mX acc p.1 with | some d=>Nat.min m (d+p.2).toNat | none=>m) (match mX acc 0 with | some d=>d.toNat | none=>300000001)
def qCW (C:Cx) (n:Nat):Nat:=C.F.foldl (fun m q=>bif Nat.beq q.1 0 && Nat.beq q.2.1 n then Nat.max m (-q.2.2).toNat else m) 0
def qMr (C:Cx) (el sz bytes:Nat) (n1 el1 sz1:Nat) (e1:Sn) (n2 el2 qDC:Nat) (e2:Sn):Option (Cx × Y) :=
 let m:=qWb C n1
 let k:=qWb C n2
 let m':=qCW C n1
 let k':=qCW C n2
 bif Nat.beq el1 el && Nat.beq sz1 sz && Nat.beq el2 el && Nat.beq qDC sz && e2.fits e1 && Nat.ble bytes 80 && kU C.F C.L n1 0 0 m && kU C.F C.L n2 0 0 k && kU C.F C.L 0 m' n1 0 && kU C.F C.L 0 k' n2 0 && Nat.ble (m+k) 300000000 then
  some (C.add [(n1,C.nx,-(k':Int)),(C.nx,n1,(k:Int)),(n2,C.nx,-(m':Int)),(C.nx,n2,(m:Int))] [(C.nx,m+k)] [] 1,.sl C.nx el sz (m+k) e1) else none
theorem qDk (hC:COk σ C) {el sz bytes n1 el1 sz1 b1 n2 el2 qDC b2:Nat} {e1 e2:Sn} {a c:D} {r:Cx × Y} (ha:qS σ (.sl n1 el1 sz1 b1 e1) a) (hc:qS σ (.sl n2 el2 qDC b2 e2) c)
  (h:qMr C el sz bytes n1 el1 sz1 e1 n2 el2 qDC e2=some r):kC E σ (.app el sz bytes) [a,c] r:=by
 unfold qMr at h
 obtain ⟨hb,h⟩:=zP h
 cases h
 simp only [aE] at hb
 obtain ⟨⟨⟨⟨⟨⟨⟨⟨⟨⟨a1,a2⟩,a3⟩,a4⟩,a5⟩,a6⟩,a7⟩,a8⟩,a9⟩,a10⟩,a11⟩:=hb
 have a1:=vU a1
 have a2:=vU a2
 have a3:=vU a3
 have a4:=vU a4
 subst a1 a2 a3 a4
 have hc':qS σ (.sl n2 el2 qDC b2 e1) c:=by
  simp only [qS] at hc ⊢
  refine ⟨hc.1,?_⟩
  have:=uJ.1 hc.2
  exact uJ.2 ⟨this.1,this.2.1,fun x hx=>kO a5 (this.2.2 x hx)⟩
 exact qS7 hC ha hc' a6 a7 a8 a9 a10 a11
def qSa (C:Cx):Cx:=C.add [(C.nx,0,0)] [(C.nx,0)] [] 1
theorem qK1 (hC:COk σ C) (el sz:Nat) (e:Sn):COk (σ++[(0,D.nil)]) (qSa C)/\qS (σ++[(0,D.nil)]) (.sl C.nx el sz 0 e) .nil:=by
 obtain ⟨z,hz⟩:=hC.s.z
 refine ⟨hC.ext (f1 (get_new hC _) (zU hz) (by simp)) (fun q hq=>?_) (by simp) rfl,?_⟩
 ·rw [List.mem_singleton] at hq; subst hq
  exact ⟨_,get_new hC _,by simp,by simp⟩
 simp only [qS]
 exact ⟨get_new hC _,uJ.2 ⟨.inl rfl,Nat.zero_le _,fun x hx=>by cases hx⟩⟩
def qS9 (C:Cx) (el sz bytes:Nat):Y->Y->Option (Cx × Y)
 | .sl n1 el1 sz1 _ e1,.sl n2 el2 qDC _ e2=>qMr C el sz bytes n1 el1 sz1 e1 n2 el2 qDC e2
 | .nil,.sl n2 el2 qDC _ e2=>qMr (qSa C) el sz bytes C.nx el sz e2 n2 el2 qDC e2
 | .sl n1 el1 sz1 _ e1,.nil=>qMr (qSa C) el sz bytes n1 el1 sz1 e1 C.nx el sz e1
 | _,_=>none
theorem qOy (hC:COk σ C) {el sz bytes:Nat} {y1 y2:Y} {a c:D} {r:Cx × Y} (ha:qS σ y1 a) (hc:qS σ y2 c) (h:qS9 C el sz bytes y1 y2=some r):kC E σ (.app el sz bytes) [a,c] r:=by
 unfold qS9 at h
 split at h
 ·exact qDk hC ha hc h
 ·rename_i n2 el2 qDC b2 e2
  have ha':a=.nil:=by simpa only [qS] using ha
  subst ha'
  obtain ⟨h1,h2⟩:=qK1 hC el sz e2
  exact .after (qDk h1 h2 (o8 hc) h)
 ·rename_i n1 el1 sz1 b1 e1
  have hc':c=.nil:=by simpa only [qS] using hc
  subst hc'
  obtain ⟨h1,h2⟩:=qK1 hC el sz e1
  exact .after (qDk h1 (o8 ha) h2 h)
 cases h
end
end Go.Am.Tt
namespace Go.Am.Tt
open Go Go.Am
section
variable {E:Env} {σ:Wd} {C:Cx}
abbrev Rs:=Option (Cx × Y)
def qSk (C:Cx) (str:Bool):List Y->Rs
 | [.sl n _ _ _ _]=>bif str then none else some (C,.int .i64 n 0)
 | [.nil]=>bif str then none else some (C,.int .i64 0 0)
 | [.str n _]=>bif str then some (C,.int .i64 n 0) else none
 | _=>none
theorem qNE (hC:COk σ C) {str:Bool} {ys:List Y} {ds:List D} {r:Cx × Y} (hd:qR σ ys ds) (h:qSk C str ys=some r):kC E σ (.len str) ds r:=by
 unfold qSk at h
 split at h
 ·simp only [qR] at hd
  obtain ⟨d,_,rfl,h1,rfl⟩:=hd
  cases str with
  | true=>cases h
  | false=>cases h; exact qSj hC h1
 ·simp only [qR,qS] at hd
  obtain ⟨d,_,rfl,rfl,rfl⟩:=hd
  cases str with
  | true=>cases h
  | false=>cases h; exact qND hC
 ·simp only [qR] at hd
  obtain ⟨d,_,rfl,h1,rfl⟩:=hd
  cases str with
  | true=>cases h; exact qNC hC h1
  | false=>cases h
 cases h
def qW9 (C:Cx):List Y->Rs
 | [.sl n _ _ _ e,.int .i64 v c]=>qNN C n e v c
 | _=>none
theorem qSq (hC:COk σ C) {ys:List Y} {ds:List D} {r:Cx × Y} (hd:qR σ ys ds) (h:qW9 C ys=some r):kC E σ .inr ds r:=by
 unfold qW9 at h
 split at h
 ·simp only [qR] at hd
  obtain ⟨d,_,rfl,h1,i,_,rfl,h2,rfl⟩:=hd
  exact qLi hC h1 h2 h
 cases h
def qXp (C:Cx) (sz:Nat) (ag:Bool) (size off:Nat):List Y->Rs
 | [.sl n _ sz' b _,.int .i64 v c]=>bif Nat.ble b 300000000 && Nat.beq sz' sz then (qLO C n v c sz ag size off).map (fun y=>(C,y)) else none
 | _=>none
theorem qSN (hC:COk σ C) {sz size off:Nat} {ag:Bool} {ys:List Y} {ds:List D} {r:Cx × Y} (hd:qR σ ys ds) (h:qXp C sz ag size off ys=some r):kC E σ (.elem sz ag size off) ds r:=by
 unfold qXp at h
 split at h
 ·simp only [qR] at hd
  obtain ⟨d,_,rfl,h1,i,_,rfl,h2,rfl⟩:=hd
  obtain ⟨hb,h⟩:=zP h
  rw [aE] at hb
  obtain ⟨y,hy,rfl⟩:=Option.map_eq_some_iff.1 h
  exact tP hC h1 h2 hb.1 hb.2 hy
 cases h
def qRD (C:Cx) (ag:Bool) (n:Nat):List Y->Rs
 | [.st cs]=>bif ag && Nat.beq cs.length n then some (C,.st cs) else none
 | [y]=>bif !ag && Nat.beq n 1 && qDX y then some (C,y) else none
 | _=>none
theorem qM4 (hC:COk σ C) {n:Nat} {ag:Bool} {ys:List Y} {ds:List D} {r:Cx × Y} (hd:qR σ ys ds) (h:qRD C ag n ys=some r):kC E σ (.chk ag n) ds r:=by
 unfold qRD at h
 split at h
 ·simp only [qR] at hd
  obtain ⟨d,_,rfl,h1,rfl⟩:=hd
  obtain ⟨hb,h⟩:=zP h
  cases h
  rw [aE] at hb
  obtain ⟨rfl,hb⟩:=hb
  exact qOe hC h1 hb
 ·simp only [qR] at hd
  obtain ⟨d,_,rfl,h1,rfl⟩:=hd
  obtain ⟨hb,h⟩:=zP h
  cases h
  simp only [aE] at hb
  obtain ⟨⟨a,b⟩,c⟩:=hb
  have b:=vU b
  subst b
  cases ag with
  | true=>cases a
  | false=>exact qOg hC h1 c
 cases h
end
end Go.Am.Tt
namespace Go.Am.Tt
open Go Go.Am
section
variable {E:Env} {σ:Wd} {C:Cx}
def qSz (C:Cx) (ag:Bool) (size off:Nat):List Y->Rs
 | [.st cs]=>(qKK ag size off cs).map fun y=>(C,y)
 | _=>none
theorem qNW (hC:COk σ C) {size off:Nat} {ag:Bool} {ys:List Y} {ds:List D} {r:Cx × Y} (hd:qR σ ys ds) (h:qSz C ag size off ys=some r):kC E σ (.fld ag size off) ds r:=by
 unfold qSz at h
 split at h
 ·simp only [qR] at hd
  obtain ⟨d,_,rfl,h1,rfl⟩:=hd
  obtain ⟨y,hy,rfl⟩:=Option.map_eq_some_iff.1 h
  exact qSy hC h1 hy
 cases h
def qSD (C:Cx) (i:Nat):List Y->Rs
 | [.tup cs]=>(cs[i]?).map fun y=>(C,y)
 | _=>none
theorem qN0 (hC:COk σ C) {i:Nat} {ys:List Y} {ds:List D} {r:Cx × Y} (hd:qR σ ys ds) (h:qSD C i ys=some r):kC E σ (.ext i) ds r:=by
 unfold qSD at h
 split at h
 ·simp only [qR] at hd
  obtain ⟨d,_,rfl,h1,rfl⟩:=hd
  obtain ⟨y,hy,rfl⟩:=Option.map_eq_some_iff.1 h
  exact qSC hC h1 hy
 cases h
def qR8 (C:Cx):List Y->Rs
 | [.bool t f]=>some (C,.bool f t)
 | _=>none
theorem qNt (hC:COk σ C) {ty:TypeId} {ys:List Y} {ds:List D} {r:Cx × Y} (hd:qR σ ys ds) (h:qR8 C ys=some r):kC E σ (.un .not ty) ds r:=by
 unfold qR8 at h
 split at h
 ·simp only [qR] at hd
  obtain ⟨d,_,rfl,h1,rfl⟩:=hd
  cases h
  exact qR7 hC h1
 cases h
def qXx (C:Cx):List Y->Rs
 | [.str n _,.int .i64 v c]=>bif qSV C n v c then some (C.add [(0,C.nx,0),(C.nx,0,255)] [] [] 1,.int .u8 C.nx 0) else none
 | _=>none
theorem qSW (hC:COk σ C) {ys:List Y} {ds:List D} {r:Cx × Y} (hd:qR σ ys ds) (h:qXx C ys=some r):kC E σ .chr ds r:=by
 unfold qXx at h
 split at h
 ·simp only [qR] at hd
  obtain ⟨d,_,rfl,h1,i,_,rfl,h2,rfl⟩:=hd
  obtain ⟨hb,h⟩:=zP h
  cases h
  exact qSU hC h1 h2 hb
 cases h
def qWB (C:Cx) (el sz:Nat) (lo hi:Bool):List Y->Rs
 | [.sl n vL sz' b e,.int .i64 v c] =>
  bif Nat.beq vL el && Nat.beq sz' sz && Nat.ble b 300000000 && kU C.F C.L 0 0 v c && kU C.F C.L v c n 0 then
   (match lo,hi with
   | false,true=>some (C.add [(C.nx,v,c),(v,C.nx,-c)] [(C.nx,b)] [] 1,.sl C.nx el sz b e)
   | true,false=>some (C.add [(C.nx,n,0)] [(C.nx,b)] [] 1,.sl C.nx el sz b e)
   | _,_=>none) else none
 | _=>none
theorem qRI (hC:COk σ C) {el sz:Nat} {lo hi:Bool} {ys:List Y} {ds:List D} {r:Cx × Y} (hd:qR σ ys ds) (h:qWB C el sz lo hi ys=some r):kC E σ (.slc el sz lo hi) ds r:=by
 unfold qWB at h
 split at h
 ·simp only [qR] at hd
  obtain ⟨d,_,rfl,h1,i,_,rfl,h2,rfl⟩:=hd
  obtain ⟨hb,h⟩:=zP h
  simp only [aE] at hb
  obtain ⟨⟨⟨⟨a1,a2⟩,a3⟩,a4⟩,a5⟩:=hb
  have a1:=vU a1
  have a2:=vU a2
  subst a1 a2
  split at h
  ·cases h; exact qVh hC h1 h2 a3 a4 a5
  ·cases h; exact qVc hC h1 h2 a4 a5
  cases h
 cases h
def qWz (C:Cx) (lo hi:Bool):List Y->Rs
 | [.str n b,.int .i64 v c,.int .i64 w e]=>bif lo && hi && kU C.F C.L 0 0 v c && kU C.F C.L v c w e && kU C.F C.L w e n 0 then some (C.add [] [(C.nx,b)] [] 1,.str C.nx b) else none
 | _=>none
theorem qRC (hC:COk σ C) {lo hi:Bool} {ys:List Y} {ds:List D} {r:Cx × Y} (hd:qR σ ys ds) (h:qWz C lo hi ys=some r):kC E σ (.sub lo hi) ds r:=by
 unfold qWz at h
 split at h
 ·simp only [qR] at hd
  obtain ⟨d,_,rfl,h1,i,_,rfl,h2,j,_,rfl,h3,rfl⟩:=hd
  obtain ⟨hb,h⟩:=zP h
  cases h
  simp only [aE] at hb
  obtain ⟨⟨⟨⟨rfl,rfl⟩,a3⟩,a4⟩,a5⟩:=hb
  exact qM3 hC h1 h2 h3 a3 a4 a5
 cases h
def qWZ (C:Cx):List Y->Rs
 | [.int .i64 _ _,.int .i64 _ _]=>some (C.add [] [] [] 1,.int .i64 C.nx 0)
 | _=>none
theorem qSd (hC:COk σ C) {m:Bool} {ys:List Y} {ds:List D} {r:Cx × Y} (hd:qR σ ys ds) (h:qWZ C ys=some r):kC E σ (.mm m) ds r:=by
 unfold qWZ at h
 split at h
 ·simp only [qR] at hd
  obtain ⟨d,_,rfl,h1,i,_,rfl,h2,rfl⟩:=hd
  cases h
  exact qU6 hC h1 h2
 cases h
end
end Go.Am.Tt
namespace Go.Am.Tt
open Go Go.Am
section
variable {E:Env} {σ:Wd} {C:Cx}
def qXG (C:Cx):List Y->Rs
 | [.sl n _ sz b (.int .u8)]=>bif Nat.beq sz 1 && kU C.F C.L 0 1 n 0 then some (C.add [] [(C.nx,b)] [] 1,.str C.nx b) else none
 | _=>none
theorem qS0 (hC:COk σ C) {ys:List Y} {ds:List D} {r:Cx × Y} (hd:qR σ ys ds) (h:qXG C ys=some r):kC E σ .bstr ds r:=by
 unfold qXG at h
 split at h
 ·simp only [qR] at hd
  obtain ⟨d,_,rfl,h1,rfl⟩:=hd
  obtain ⟨hb,h⟩:=zP h
  cases h
  rw [aE] at hb
  have:=vU hb.1
  subst this
  exact qOl hC h1 hb.2
 cases h
def qNK:BinOp->Bool
 | .eql | .neq=>true
 | _=>false
theorem qHm {op:BinOp} (h:qNK op=true):op=.neq∨op=.eql:=by
 cases op <;> simp only [qNK] at h <;> first | (cases h; done) | exact .inl rfl | exact .inr rfl
def qU3 (C:Cx) (op:BinOp) (v:Nat) (c:Int) (w:Nat) (e:Int):Rs:=match op with
 | .add=>some (qTi C v c w e)
 | .sub=>some (qRB C v c w e)
 | .mul=>some (C.add [] [] [] 1,.int .i64 C.nx 0)
 | _=>none
def qS2 (C:Cx) (op:BinOp):List Y->Rs
 | [.int k v c,.int k' w e]=>bif decide (k=k') then (match qST op C v c w e with
  | some (t,f)=>some (C,.bool t f)
  | none=>bif decide (k=.i64) then qU3 C op v c w e else none) else none
 | [.str _ _,.str _ _]=>bif qNK op then some (C,.bool [] []) else none
 | _=>none
theorem qOr (hC:COk σ C) {op:BinOp} {ty:TypeId} {a b:Operand} {ys:List Y} {ds:List D} {r:Cx × Y} (hd:qR σ ys ds) (h:qS2 C op ys=some r):kC E σ (.bin op ty a b) ds r:=by
 unfold qS2 at h
 split at h
 ·simp only [qR] at hd
  obtain ⟨d,_,rfl,h1,i,_,rfl,h2,rfl⟩:=hd
  obtain ⟨hk,h'⟩:=zP h
  clear h
  have hk':=dT hk
  clear hk
  subst hk'
  split at h'
  ·rename_i t f hc
   cases h'
   simp only [qS] at h1 h2
   obtain ⟨x,hx,rfl⟩:=h1
   obtain ⟨y,hy,rfl⟩:=h2
   exact qSS hC hc hx hy
  obtain ⟨hk,h⟩:=zP h'
  clear h'
  have hk':=dT hk
  clear hk
  subst hk'
  unfold qU3 at h
  split at h
  ·cases h; exact qTh hC h1 h2
  ·cases h; exact qRA hC h1 h2
  ·cases h; exact qSb hC h1 h2
  cases h
 ·simp only [qR] at hd
  obtain ⟨d,_,rfl,h1,i,_,rfl,h2,rfl⟩:=hd
  obtain ⟨hk,h⟩:=zP h
  cases h
  exact qH4 hC (qHm hk).symm h1 h2
 cases h
end
end Go.Am.Tt
namespace Go.Am.Tt
open Go Go.Am
section
variable {E:Env} {σ:Wd} {C:Cx}
structure Tb where
 sh:Nat->Option Sn
 oth:TOp->List Y->Option IntKind
 st:TypeId->Option (Nat × List Sn)
structure TbOk (E:Env) (T:Tb):Prop where
 o:∀ {o ys k},T.oth o ys=some k->∀ {σ C ds},COk σ C->qR σ ys ds->∃ n,TOp.eval E o ds=some (.leaf (.int k n))
 s:∀ {t k ss},T.st t=some (k,ss)->iY E.prog k t=some (Sn.shs ss)/\m9 E.prog t=true/\k<=10000/\E.prog.eqGuardType E.prog.depth t=false/\(Sn.shs ss).all qCi=true/\Sn.lows ss=true
def qNm (T:Tb) (C:Cx) (o:TOp) (ys:List Y):Rs:=match T.oth o ys with
 | some k=>some (C.add [] [] [] 1,.int k C.nx 0)
 | none=>none
theorem qG9 {T:Tb} (hT:TbOk E T) (hC:COk σ C) {o:TOp} {ys:List Y} {ds:List D} {r:Cx × Y} (hd:qR σ ys ds) (h:qNm T C o ys=some r):kC E σ o ds r:=by
 unfold qNm at h
 split at h
 ·rename_i k hk
  cases h
  obtain ⟨n,hn⟩:=hT.o hk hC hd
  exact .num hC hn (by simp)
 cases h
def qWA (T:Tb) (C:Cx) (op:BinOp) (ty:TypeId):List Y->Rs
 | [.st cs,.st cs']=>match T.st ty with
  | some (_,ss)=>bif qNK op && m7 C cs ss && m7 C cs' ss then some (C,.bool [] []) else none
  | none=>none
 | _=>none
theorem qRE {T:Tb} (hT:TbOk E T) (hC:COk σ C) {op:BinOp} {ty:TypeId} {a b:Operand} {ys:List Y} {ds:List D} {r:Cx × Y} (hd:qR σ ys ds) (h:qWA T C op ty ys=some r):kC E σ (.bin op ty a b) ds r:=by
 unfold qWA at h
 split at h
 ·simp only [qR] at hd
  obtain ⟨d,_,rfl,h1,i,_,rfl,h2,rfl⟩:=hd
  split at h
  ·rename_i k ss hs
   obtain ⟨hb,h⟩:=zP h
   cases h
   simp only [aE] at hb
   obtain ⟨q1,q2,q3,q4,q5,q6⟩:=hT.s hs
   exact qKj hC (qHm hb.1.1) h1 h2 hb.1.2 hb.2 q6 q1 rfl q2 q3 q4 q5
  cases h
 cases h
end
end Go.Am.Tt
namespace Go.Am.Tt
open Go Go.Am
section
variable {E:Env} {σ:Wd} {C:Cx}
def qX5 (C:Cx) (el sz bytes:Nat) (ag:Bool) (zs:List Value) (e:Sn) (v:Nat) (c:Int) (b:Nat):Rs :=
 bif kU C.F C.L 0 0 v c && kU C.F C.L v c 0 b && Nat.ble b 300000000 && (Nat.beq zs.length sz && zs.all (fun v=>zI v && qQ v) && (ag || Nat.beq sz 1)) && Nat.ble (bytes+sz) 2 && qGL e (zD ag zs) then
  some (C.add [(C.nx,v,c),(v,C.nx,-c)] [(C.nx,b)] [] 1,.sl C.nx el sz b e) else none
def qW0 (T:Tb) (C:Cx) (el sz bytes:Nat) (ag:Bool) (zs:List Value):List Y->Rs
 | [.int .i64 v c]=>(match T.sh el with
  | some e=>qX5 C el sz bytes ag zs e v c ((qWb C v:Int)+c).toNat
  | none=>none)
 | _=>none
theorem qSe (hC:COk σ C) {T:Tb} {el sz bytes:Nat} {ag:Bool} {zs:List Value} {ys:List Y} {ds:List D} {r:Cx × Y} (hd:qR σ ys ds) (h:qW0 T C el sz bytes ag zs ys=some r):kC E σ (.mk el sz bytes ag zs) ds r:=by
 unfold qW0 at h
 split at h
 ·simp only [qR] at hd
  obtain ⟨d,_,rfl,h1,rfl⟩:=hd
  split at h
  ·unfold qX5 at h
   obtain ⟨hb,h⟩:=zP h
   cases h
   simp only [aE] at hb
   obtain ⟨⟨⟨⟨⟨q1,q2⟩,q3⟩,q4⟩,q5⟩,q6⟩:=hb
   exact qVa hC h1 q1 q2 q3 (by simp only [aE]; exact q4) q5 q6
  cases h
 cases h
def qNq:Sn->Bool
 | .st _=>false
 | .any=>false
 | _=>true
theorem qHc {e:Sn} (h:qNq e=true) {d:D} (hd:vG e d):d.one=true:=by
 cases e <;> simp only [qNq] at h <;> first | (cases h; done) | simp only [vG] at hd
 ·obtain ⟨_,rfl⟩:=hd; rfl
 ·obtain ⟨_,rfl⟩:=hd; rfl
 ·obtain ⟨_,rfl,_⟩:=hd; rfl
 rcases hd with rfl | ⟨_,rfl,_⟩ <;> rfl
theorem qRL (hC:COk σ C) {n el b v:Nat} {c:Int} {e:Sn} {l i x:D} {y:Y} (hl:qS σ (.sl n el 1 b e) l) (hi:qS σ (.int .i64 v c) i) (hx:qS σ y x)
  (hf:cZ C y e=true) (ho:qNq e=true) (h0:kU C.F C.L 0 0 v c=true) (h1:kU C.F C.L v (c+1) n 0=true) :
  kC E σ (.set 1 false 1 0) [l,i,x] (C.add [(C.nx,n,0),(n,C.nx,0)] [(C.nx,b)] [] 1,.sl C.nx el 1 b e):=by
 have hxN:=qC8 hC hf hx
 simp only [qS] at hl hi
 obtain ⟨k,hk,rfl⟩:=hi
 obtain ⟨z,hz0⟩:=hC.s.z
 obtain ⟨hln,hl⟩:=hl
 have l0:=v5 hC.s h0 hz0 hk
 have l1:=v5 hC.s h1 hk hln
 simp only at l0 l1
 simp only [vG] at hl
 rcases hl with rfl | ⟨es,rfl,hlen,ha⟩
 ·have:(D.nil).es.length=0:=rfl
  omega
 have hes:(D.sl el 1 es).es=es:=rfl
 rw [hes] at l1 hln
 have hlt:(k.1+c).toNat < es.length:=by omega
 have hg:es[(k.1+c).toNat]? = some es[(k.1+c).toNat]:=List.getElem?_eq_getElem hlt
 have he0:=qHc ho (ha _ (List.getElem_mem hlt))
 have hx0:=qHc ho hxN
 have hxc:x.cells=[x]:=by cases x <;> first | rfl | (simp [D.one] at hx0)
 have hev:TOp.eval E (.set 1 false 1 0) [.sl el 1 es,dI (k.1+c),x]=some (.sl el 1 (es.set (k.1+c).toNat x)):=by
  rw [qAO,kM (by omega)]
  have hck:bX false 1 x=some x:=by
   show (bif x.one && Nat.beq 1 1 then some x else none)=some x
   rw [hx0]; rfl
  simp only [hck,hg]
  refine (nY (by rfl)).trans ?_
  rw [hxc]
  have:uL es[(k.1+c).toNat] 0 [x]=x:=by
   generalize es[(k.1+c).toNat]=q at he0
   cases q <;> first | rfl | (simp [D.one] at he0)
  rw [this]
 have hn:(D.sl el 1 (es.set (k.1+c).toNat x)).es.length=es.length:=by
  show (es.set (k.1+c).toNat x).length=_
  rw [List.length_set]
 refine .list hC hev ?_ (f2 ⟨_,_,get_new hC _,zU hln,by simp only [hn]; omega⟩ ⟨_,_,zU hln,get_new hC _,by simp only [hn]; omega⟩)
 simp only [vG]
 refine .inr ⟨_,rfl,by rw [List.length_set]; exact hlen,fun w hw=>?_⟩
 rcases List.mem_or_eq_of_mem_set hw with hw | rfl
 ·exact ha w hw
 exact hxN
def qWC (C:Cx) (sz:Nat) (ag:Bool) (size off:Nat):List Y->Rs
 | [.sl n el sz' b e,.int .i64 v c,y] =>
  bif Nat.beq sz 1 && Nat.beq sz' 1 && !ag && Nat.beq size 1 && Nat.beq off 0 && cZ C y e && qNq e && kU C.F C.L 0 0 v c && kU C.F C.L v (c+1) n 0 then
   some (C.add [(C.nx,n,0),(n,C.nx,0)] [(C.nx,b)] [] 1,.sl C.nx el 1 b e) else none
 | _=>none
theorem qRN (hC:COk σ C) {sz size off:Nat} {ag:Bool} {ys:List Y} {ds:List D} {r:Cx × Y} (hd:qR σ ys ds) (h:qWC C sz ag size off ys=some r):kC E σ (.set sz ag size off) ds r:=by
 unfold qWC at h
 split at h
 ·simp only [qR] at hd
  obtain ⟨d,_,rfl,h1,i,_,rfl,h2,x,_,rfl,h3,rfl⟩:=hd
  obtain ⟨hb,h⟩:=zP h
  cases h
  simp only [aE,Bool.not_eq_true'] at hb
  obtain ⟨⟨⟨⟨⟨⟨⟨⟨a1,a2⟩,a3⟩,a4⟩,a5⟩,a6⟩,a7⟩,a8⟩,a9⟩:=hb
  have a1:=vU a1
  have a2:=vU a2
  have a4:=vU a4
  have a5:=vU a5
  subst a1 a2 a3 a4 a5
  exact qRL hC h1 h2 h3 a6 a7 a8 a9
 cases h
end
end Go.Am.Tt
namespace Go.Am.Tt
open Go Go.Am
section
variable {E:Env} {σ:Wd} {C:Cx}
def qYu (C:Cx) (el sz bytes:Nat):List Y->Rs
 | [a,b]=>qS9 C el sz bytes a b
 | _=>none
def qX6 (T:Tb) (C:Cx) (el sz:Nat) (ys:List Y):Rs:=match T.sh el with
 | some e=>qSh C el sz e ys
 | none=>none
def qVW (a b:Rs):Rs:=match a with
 | some r=>some r
 | none=>b
theorem qKN {a b:Rs} {r:Cx × Y} (h:qVW a b=some r):a=some r∨b=some r:=by
 unfold qVW at h
 split at h
 ·exact .inl h
 exact .inr h
def qWX (T:Tb) (C:Cx) (o:TOp) (ys:List Y):Rs:=match o with
 | .len s=>qSk C s ys
 | .inr=>qW9 C ys
 | .elem sz ag size off=>qXp C sz ag size off ys
 | .chk ag n=>qRD C ag n ys
 | .fld ag size off=>qSz C ag size off ys
 | .ext i=>qSD C i ys
 | .un .not _=>qR8 C ys
 | .chr=>qXx C ys
 | .slc el sz lo hi=>qWB C el sz lo hi ys
 | .sub lo hi=>qWz C lo hi ys
 | .bstr=>qXG C ys
 | .mm _=>qWZ C ys
 | .lit el sz=>qX6 T C el sz ys
 | .app el sz bytes=>qYu C el sz bytes ys
 | .mk el sz bytes ag zs=>qW0 T C el sz bytes ag zs ys
 | .set sz ag size off=>qWC C sz ag size off ys
 | .bin op ty a b=>qVW (qWA T C op ty ys) (qVW (qS2 C op ys) (qNm T C (.bin op ty a b) ys))
 | o=>qNm T C o ys
theorem qR3 {T:Tb} (hT:TbOk E T) (hC:COk σ C) {o:TOp} {ys:List Y} {ds:List D} {r:Cx × Y} (hd:qR σ ys ds) (h:qWX T C o ys=some r):kC E σ o ds r:=by
 unfold qWX at h
 split at h
 ·exact qNE hC hd h
 ·exact qSq hC hd h
 ·exact qSN hC hd h
 ·exact qM4 hC hd h
 ·exact qNW hC hd h
 ·exact qN0 hC hd h
 ·exact qNt hC hd h
 ·exact qSW hC hd h
 ·exact qRI hC hd h
 ·exact qRC hC hd h
 ·exact qS0 hC hd h
 ·exact qSd hC hd h
 ·unfold qX6 at h
  split at h
  ·exact qSg hC hd h
  cases h
 ·unfold qYu at h
  split at h
  ·simp only [qR] at hd
   obtain ⟨d,_,rfl,h1,i,_,rfl,h2,rfl⟩:=hd
   exact qOy hC h1 h2 h
  cases h
 ·exact qSe hC hd h
 ·exact qRN hC hd h
 ·rcases qKN h with h | h
  ·exact qRE hT hC hd h
  rcases qKN h with h | h
  ·exact qOr hC hd h
  exact qG9 hT hC hd h
 exact qG9 hT hC hd h
end
end Go.Am.Tt
