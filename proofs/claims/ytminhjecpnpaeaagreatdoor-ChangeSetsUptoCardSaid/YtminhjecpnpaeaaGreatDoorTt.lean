/- Spans that are taken out of spans: what is left, and how many. Conditions: none. -/
import Derived.Test.YtminhjecpnpaeaaGreatDoorUv
set_option linter.unusedVariables false
set_option linter.unusedSimpArgs false
namespace Go.Am
open Go
def pd (p:Int × Int):D:=.agg [dI p.1,dI p.2]
def mn (x y:Int):Int:=if y < x then y else x
def mx (x y:Int):Int:=if x < y then y else x
def rt (x y:Int):Bool:=decide (x≥0) && (decide (x < y) && decide (y<=86400000))
section
variable {E:Env}
theorem qWA {x y:Int}:TOp.eval E (.mm false) [dI x,dI y]=some (dI (mn x y)):=rfl
theorem qWz {x y:Int}:TOp.eval E (.mm true) [dI x,dI y]=some (dI (mx x y)):=rfl
theorem qWB (m:Bool) (x y:Int):∃ w:Int,TOp.eval E (.mm m) [dI x,dI y]=some (dI w):=by
 cases m
 ·exact ⟨_,qWA⟩
 exact ⟨_,qWz⟩
def sp (el:Nat) (l:List (Int × Int)):D:=.sl el 2 (l.map pd)
end
end Go.Am
namespace Go.Am.Tt
open Go Go.Am
inductive Sn where
 | int (k:IntKind)
 | bool
 | str (n:Nat)
 | st (fs:List Sn)
 | sl (el sz n:Nat) (e:Sn)
 | any
mutual
def vI:Sn->D->Prop
 | .int k,d=>∃ n,d=.leaf (.int k n)
 | .bool,d=>∃ b,d=.leaf (.bool b)
 | .str n,d=>∃ s,d=.leaf (.string s)/\s.size<=n
 | .st fs,d=>∃ cs,d=.agg cs/\vW fs cs
 | .sl el sz n e,d=>d=.nil∨∃ es,d=.sl el sz es/\es.length<=n/\∀ x∈es,vI e x
 | .any,_=>True
def vW:List Sn->List D->Prop
 | [],l=>l=[]
 | s::ss,l=>∃ d ds,l=d::ds/\vI s d/\vW ss ds
end
mutual
def Sn.fits:Sn->Sn->Bool
 | .int k,.int k'=>decide (k=k')
 | .bool,.bool=>true
 | .str n,.str m=>Nat.ble n m
 | .st fs,.st gs=>Sn.fitss fs gs
 | .sl el sz n e,.sl jA sz' m e'=>Nat.beq el jA && Nat.beq sz sz' && Nat.ble n m && Sn.fits e e'
 | _,_=>false
def Sn.fitss:List Sn->List Sn->Bool
 | [],[]=>true
 | a::l,b::m=>Sn.fits a b && Sn.fitss l m
 | _,_=>false
end
mutual
theorem gT:∀ {s t:Sn} {d:D},Sn.fits s t=true->vI s d->vI t d
 | .int k,t,d,h,hd=>by
  cases t <;> simp only [Sn.fits] at h <;> first | (cases h; done) | skip
  rw [decide_eq_true_eq] at h; subst h; exact hd
 | .bool,t,d,h,hd=>by
  cases t <;> simp only [Sn.fits] at h <;> first | (cases h; done) | skip
  exact hd
 | .str n,t,d,h,hd=>by
  cases t <;> simp only [Sn.fits] at h <;> first | (cases h; done) | skip
  simp only [vI] at hd ⊢
  obtain ⟨s,rfl,hs⟩:=hd
  exact ⟨s,rfl,lT hs (lB h)⟩
 | .st fs,t,d,h,hd=>by
  cases t <;> simp only [Sn.fits] at h <;> first | (cases h; done) | skip
  simp only [vI] at hd ⊢
  obtain ⟨cs,rfl,hs⟩:=hd
  exact ⟨cs,rfl,qGc h hs⟩
 | .sl el sz n e,t,d,h,hd=>by
  cases t <;> simp only [Sn.fits] at h <;> first | (cases h; done) | skip
  simp only [aE] at h
  obtain ⟨⟨⟨h1,h2⟩,h3⟩,h4⟩:=h
  have h1:=jF h1
  have h2:=jF h2
  subst h1 h2
  simp only [vI] at hd ⊢
  rcases hd with rfl | ⟨es,rfl,hl,ha⟩
  ·exact .inl rfl
  exact .inr ⟨es,rfl,lT hl (lB h3),fun x hx=>gT h4 (ha x hx)⟩
 | .any,t,d,h,hd=>by simp only [Sn.fits] at h; cases h
theorem qGc:∀ {ss ts:List Sn} {ds:List D},Sn.fitss ss ts=true->vW ss ds->vW ts ds
 | [],ts,ds,h,hd=>by
  cases ts <;> simp only [Sn.fitss] at h <;> first | (cases h; done) | skip
  exact hd
 | s::ss,ts,ds,h,hd=>by
  cases ts <;> simp only [Sn.fitss] at h <;> first | (cases h; done) | skip
  simp only [aE] at h
  simp only [vW] at hd ⊢
  obtain ⟨d,r,rfl,h1,h2⟩:=hd
  exact ⟨d,r,rfl,gT h.1 h1,qGc h.2 h2⟩
end
abbrev Wd:=List (Int × D)
abbrev jI:=Nat × Nat × Int
def sG (σ:Wd) (q:jI):Prop:=∃ x y,σ[q.1]? = some x/\σ[q.2.1]? = some y/\x.1<=y.1+q.2.2
def qXU (σ:Wd) (q:Nat × Nat):Prop:=∃ x,σ[q.1]? = some x/\0<=x.1/\x.1<=(q.2:Int)
inductive Y where
 | int (k:IntKind) (v:Nat) (c:Int)
 | bool (t f:List jI)
 | str (n b:Nat)
 | sl (n el sz b:Nat) (e:Sn)
 | st (cs:List Y)
 | nil
 | clo (f:Nat)
 | tup (cs:List Y)
 | any
mutual
def qY (σ:Wd):Y->D->Prop
 | .int k v c,d=>∃ x,σ[v]? = some x/\d=.leaf (.int k (x.1+c))
 | .bool t f,d=>∃ b,d=.leaf (.bool b)/\(b=true->∀ q∈t,sG σ q)/\(b=false->∀ q∈f,sG σ q)
 | .str n b,d=>∃ s x,d=.leaf (.string s)/\σ[n]? = some x/\x.1=(s.size:Int)/\s.size<=b
 | .sl n el sz b e,d=>σ[n]? = some ((d.es.length:Int),d)/\vI (.sl el sz b e) d
 | .st cs,d=>∃ ds,d=.agg ds/\qV σ cs ds
 | .nil,d=>d=.nil
 | .clo f,d=>d=.clo (.func f) [] []
 | .tup cs,d=>∃ ds,d=.tup ds/\qV σ cs ds
 | .any,_=>True
def qV (σ:Wd):List Y->List D->Prop
 | [],l=>l=[]
 | y::ys,l=>∃ d ds,l=d::ds/\qY σ y d/\qV σ ys ds
end
theorem z7 {σ τ:Wd} {n:Nat} {x:Int × D} (h:σ[n]? = some x):(σ++τ)[n]? = some x:=by
 have hl:n < σ.length:=by
  rcases Nat.lt_or_ge n σ.length with h' | h'
  ·exact h'
  rw [List.getElem?_eq_none h'] at h; cases h
 rw [List.getElem?_append_left hl]; exact h
theorem qEC {σ τ:Wd} {q:jI} (h:sG σ q):sG (σ++τ) q:=by
 obtain ⟨x,y,h1,h2,h3⟩:=h
 exact ⟨x,y,z7 h1,z7 h2,h3⟩
theorem qQP {σ τ:Wd} {q:Nat × Nat} (h:qXU σ q):qXU (σ++τ) q:=by
 obtain ⟨x,h1,h2⟩:=h
 exact ⟨x,z7 h1,h2⟩
mutual
theorem rX {σ τ:Wd}:∀ {y:Y} {d:D},qY σ y d->qY (σ++τ) y d
 | .int k v c,d,h=>by
  simp only [qY] at h ⊢
  obtain ⟨x,h1,h2⟩:=h; exact ⟨x,z7 h1,h2⟩
 | .bool t f,d,h=>by
  simp only [qY] at h ⊢
  obtain ⟨b,h1,h2,h3⟩:=h
  exact ⟨b,h1,fun hb q hq=>qEC (h2 hb q hq),fun hb q hq=>qEC (h3 hb q hq)⟩
 | .str n b,d,h=>by
  simp only [qY] at h ⊢
  obtain ⟨s,x,h1,h2,h3⟩:=h; exact ⟨s,x,h1,z7 h2,h3⟩
 | .sl n el sz b e,d,h=>by
  simp only [qY] at h ⊢
  exact ⟨z7 h.1,h.2⟩
 | .st cs,d,h=>by
  simp only [qY] at h ⊢
  obtain ⟨ds,h1,h2⟩:=h; exact ⟨ds,h1,zV h2⟩
 | .nil,d,h=>by simp only [qY] at h ⊢; exact h
 | .clo f,d,h=>by simp only [qY] at h ⊢; exact h
 | .tup cs,d,h=>by
  simp only [qY] at h ⊢
  obtain ⟨ds,h1,h2⟩:=h; exact ⟨ds,h1,zV h2⟩
 | .any,d,h=>by simp only [qY]
theorem zV {σ τ:Wd}:∀ {ys:List Y} {ds:List D},qV σ ys ds->qV (σ++τ) ys ds
 | [],ds,h=>by simp only [qV] at h ⊢; exact h
 | y::ys,ds,h=>by
  simp only [qV] at h ⊢
  obtain ⟨d,r,h1,h2,h3⟩:=h; exact ⟨d,r,h1,rX h2,zV h3⟩
end
def qU3:Int->Int->Bool
 | .ofNat a,.ofNat b=>Nat.ble a b
 | .negSucc a,.negSucc b=>Nat.ble b a
 | .negSucc _,.ofNat _=>true
 | .ofNat _,.negSucc _=>false
theorem qHB:∀ {a b:Int},qU3 a b=true->a<=b
 | .ofNat a,.ofNat b,h=>by have:=lB h; show (a:Int)<=(b:Int); omega
 | .negSucc a,.negSucc b,h=>by have:=lB h; omega
 | .negSucc a,.ofNat b,_=>by show Int.negSucc a<=(b:Int); omega
 | .ofNat _,.negSucc _,h=>by cases h
def b9:List (Nat × Int)->Nat->Option Int
 | [],_=>none
 | (w,d)::r,u=>bif Nat.beq w u then some d else b9 r u
def qUV (acc:List (Nat × Int)) (w:Nat) (d:Int):List (Nat × Int):=match b9 acc w with
 | some d'=>bif qU3 d' d then acc else (w,d)::acc
 | none=>(w,d)::acc
def qL5 (q:jI) (acc:List (Nat × Int)):List (Nat × Int):=match b9 acc q.1 with
 | some d=>qUV acc q.2.1 (Int.add d q.2.2)
 | none=>acc
def kT:List jI->List (Nat × Int)->List (Nat × Int)
 | [],acc=>acc
 | q::r,acc=>kT r (qL5 q acc)
def qH8 (F:List jI):Nat->List (Nat × Int)->List (Nat × Int)
 | 0,acc=>acc
 | n+1,acc=>qH8 F n (kT F acc)
def qOt (σ:Wd) (a:Nat) (acc:List (Nat × Int)):Prop:=∀ p∈acc,sG σ (a,p.1,p.2)
theorem tF {acc:List (Nat × Int)} {u:Nat} {d:Int} (h:b9 acc u=some d):(u,d)∈acc:=by
 induction acc with
 | nil=>cases h
 | cons p r ih =>
  obtain ⟨w,e⟩:=p
  simp only [b9] at h
  cases hw:Nat.beq w u with
  | true=>rw [hw] at h; have:=jF hw; subst this; cases h; exact List.mem_cons_self
  | false=>rw [hw] at h; exact mC _ (ih h)
theorem qQV {σ:Wd} {a w:Nat} {d:Int} {acc:List (Nat × Int)} (h:qOt σ a acc) (hd:sG σ (a,w,d)):qOt σ a (qUV acc w d):=by
 have hc:qOt σ a ((w,d)::acc):=fun p hp=>by
  rcases List.mem_cons.1 hp with rfl | hp
  ·exact hd
  exact h p hp
 unfold qUV
 split
 ·cases qU3 _ d
  ·exact hc
  exact h
 exact hc
theorem qKR {σ:Wd} {a u v:Nat} {c d:Int} (h1:sG σ (a,u,d)) (h2:sG σ (u,v,c)):sG σ (a,v,d+c):=by
 obtain ⟨x,y,ha,hu,hx⟩:=h1
 obtain ⟨y',z,hu',hv,hy⟩:=h2
 simp only at ha hu hx hu' hv hy
 rw [hu] at hu'
 cases hu'
 exact ⟨x,z,ha,hv,by simp only; omega⟩
theorem qL4 {σ:Wd} {a:Nat} {q:jI} {acc:List (Nat × Int)} (hq:sG σ q) (h:qOt σ a acc):qOt σ a (qL5 q acc):=by
 unfold qL5
 split
 ·rename_i d hd
  exact qQV h (qKR (h _ (tF hd)) hq)
 exact h
theorem qDc {σ:Wd} {a:Nat}:∀ (F:List jI) (acc:List (Nat × Int)),(∀ q∈F,sG σ q)->qOt σ a acc->qOt σ a (kT F acc)
 | [],_,_,h=>h
 | q::r,acc,hF,h=>by
  unfold kT
  exact qDc r _ (fun x hx=>hF x (mC _ hx)) (qL4 (hF q List.mem_cons_self) h)
def qQT (acc:List (Nat × Int)) (lim:Int):List (Nat × Nat)->Bool
 | []=>false
 | (w,m)::r=>(match b9 acc w with
  | some d=>qU3 (Int.add d (Int.ofNat m)) lim
  | none=>false) || qQT acc lim r
def qU1 (L:List (Nat × Nat)) (acc:List (Nat × Int)) (b:Nat) (lim:Int):Bool :=
 (match b9 acc b with
 | some d=>qU3 d lim
 | none=>false) || (Nat.beq b 0 && qQT acc lim L)
def qIG (F:List jI) (L:List (Nat × Nat)) (b:Nat) (lim:Int):Nat->List (Nat × Int)->Bool
 | 0,acc=>qU1 L acc b lim
 | n+1,acc=>qU1 L acc b lim || qIG F L b lim n (kT F acc)
def qEW:List (Nat × Nat)->List (Nat × Int)
 | []=>[]
 | (w,_)::r=>(w,0)::qEW r
def qH1 (n:Nat) (F:List jI) (L:List (Nat × Nat)) (a:Nat) (ca:Int) (b:Nat) (cb:Int):Bool :=
 bif Nat.beq a b then qU3 ca cb else qIG F L b (Int.sub cb ca) n (bif Nat.beq a 0 then (0,0)::qEW L else [(a,0)])
abbrev gZ:=qH1 4
structure SOk (σ:Wd) (F:List jI) (L:List (Nat × Nat)):Prop where
 z:∃ d,σ[0]? = some (0,d)
 f:∀ q∈F,sG σ q
 l:∀ q∈L,qXU σ q
theorem qJQ {acc:List (Nat × Int)} {lim:Int}:∀ {L:List (Nat × Nat)},qQT acc lim L=true->∃ p∈L,∃ d,b9 acc p.1=some d/\d+(p.2:Int)<=lim
 | [],h=>by cases h
 | (w,m)::r,h=>by
  simp only [qQT] at h
  rcases Bool.or_eq_true_iff.1 h with h | h
  ·split at h
   ·rename_i d hd
    exact ⟨_,List.mem_cons_self,d,hd,qHB h⟩
   cases h
  obtain ⟨p,hp,q⟩:=qJQ h
  exact ⟨p,mC _ hp,q⟩
theorem qC0 {p:Nat × Int}:∀ {L:List (Nat × Nat)},p∈qEW L->∃ q∈L,p=(q.1,0)
 | [],h=>by cases h
 | (w,m)::r,h=>by
  simp only [qEW] at h
  rcases List.mem_cons.1 h with rfl | h
  ·exact ⟨_,List.mem_cons_self,rfl⟩
  obtain ⟨q,hq,e⟩:=qC0 h
  exact ⟨q,mC _ hq,e⟩
theorem qMi {σ:Wd} {F:List jI} {L:List (Nat × Nat)} (hs:SOk σ F L) {a b:Nat} {lim:Int} {x y:Int × D} (ha:σ[a]? = some x) (hb:σ[b]? = some y) :
  ∀ (n:Nat) (acc:List (Nat × Int)),qOt σ a acc->qIG F L b lim n acc=true->x.1<=y.1+lim:=by
 have one:∀ acc,qOt σ a acc->qU1 L acc b lim=true->x.1<=y.1+lim:=by
  intro acc hacc h
  unfold qU1 at h
  rcases Bool.or_eq_true_iff.1 h with h | h
  ·split at h
   ·rename_i d hd
    obtain ⟨x',y',h1,h2,h3⟩:=hacc _ (tF hd)
    simp only at h1 h2 h3
    rw [ha] at h1; rw [hb] at h2
    cases h1; cases h2
    have:=qHB h
    omega
   cases h
  rw [aE] at h
  have h0:=jF h.1
  subst h0
  obtain ⟨p,hp,d,hd,hle⟩:=qJQ h.2
  obtain ⟨x',y',h1,h2,h3⟩:=hacc _ (tF hd)
  obtain ⟨z,h4,_,h5⟩:=hs.l p hp
  obtain ⟨e,h6⟩:=hs.z
  simp only at h1 h2 h3
  rw [ha] at h1; rw [h4] at h2; rw [h6] at hb
  cases h1; cases h2; cases hb
  simp only
  omega
 intro n
 induction n with
 | zero=>intro acc hacc h; exact one acc hacc h
 | succ n ih =>
  intro acc hacc h
  simp only [qIG] at h
  rcases Bool.or_eq_true_iff.1 h with h | h
  ·exact one acc hacc h
  exact ih _ (qDc F acc hs.f hacc) h
theorem qEF {n:Nat} {σ:Wd} {F:List jI} {L:List (Nat × Nat)} (hs:SOk σ F L) {a b:Nat} {ca cb:Int} (h:qH1 n F L a ca b cb=true) {x y:Int × D} (ha:σ[a]? = some x) (hb:σ[b]? = some y):x.1+ca<=y.1+cb:=by
 unfold qH1 at h
 cases hab:Nat.beq a b with
 | true =>
  rw [hab] at h
  have:=jF hab
  subst this
  rw [ha] at hb
  cases hb
  have:=qHB h
  omega
 | false =>
  rw [hab] at h
  simp only [cond_false] at h
  have hi:qOt σ a (bif Nat.beq a 0 then (0,0)::qEW L else [(a,0)]):=by
   cases h0:Nat.beq a 0 with
   | true =>
    have:=jF h0
    subst this
    obtain ⟨d,hd⟩:=hs.z
    intro p hp
    rcases List.mem_cons.1 hp with rfl | hp
    ·exact ⟨_,_,hd,hd,by simp⟩
    obtain ⟨q,hq,rfl⟩:=qC0 hp
    obtain ⟨z,h1,h2,_⟩:=hs.l q hq
    exact ⟨_,_,hd,h1,by simp only; omega⟩
   | false =>
    intro p hp
    rw [cond_false,List.mem_singleton] at hp
    subst hp
    exact ⟨_,_,ha,ha,by simp⟩
  have:=qMi hs ha hb n _ hi h
  have e:Int.sub cb ca=cb - ca:=rfl
  rw [e] at this
  omega
theorem jD {σ:Wd} {F:List jI} {L:List (Nat × Nat)} (hs:SOk σ F L) {a b:Nat} {ca cb:Int} (h:gZ F L a ca b cb=true) {x y:Int × D} (ha:σ[a]? = some x) (hb:σ[b]? = some y):x.1+ca<=y.1+cb:=qEF hs h ha hb
end Go.Am.Tt
namespace Go.Am.Tt
open Go Go.Am
structure El where
 n:Nat
 v:Nat
 c:Int
 y:Y
structure Cx where
 F:List jI
 L:List (Nat × Nat)
 els:List El
 nx:Nat
def Cx.add (C:Cx) (F:List jI) (L:List (Nat × Nat)) (els:List El) (k:Nat):Cx:=⟨F++C.F,L++C.L,els++C.els,Nat.add C.nx k⟩
def qKX (σ:Wd) (e:El):Prop:=∃ x d i z,σ[e.n]? = some (x,d)/\σ[e.v]? = some i/\0<=i.1+e.c/\d.es[(i.1+e.c).toNat]? = some z/\qY σ e.y z
theorem qNP {σ τ:Wd} {e:El} (h:qKX σ e):qKX (σ++τ) e:=by
 obtain ⟨x,d,i,z,h1,h2,h3,h4,h5⟩:=h
 exact ⟨x,d,i,z,z7 h1,z7 h2,h3,h4,rX h5⟩
structure COk (σ:Wd) (C:Cx):Prop where
 s:SOk σ C.F C.L
 e:∀ e∈C.els,qKX σ e
 n:σ.length=C.nx
theorem COk.ext {σ τ:Wd} {C:Cx} (h:COk σ C) {F:List jI} {L:List (Nat × Nat)} {els:List El} {k:Nat}
  (hF:∀ q∈F,sG (σ++τ) q) (hL:∀ q∈L,qXU (σ++τ) q) (hE:∀ q∈els,qKX (σ++τ) q) (hk:τ.length=k):COk (σ++τ) (C.add F L els k):=by
 refine ⟨⟨?_,fun q hq=>?_,fun q hq=>?_⟩,fun q hq=>?_,?_⟩
 ·obtain ⟨d,hd⟩:=h.s.z
  exact ⟨d,z7 hd⟩
 ·rcases List.mem_append.1 hq with hq | hq
  ·exact hF q hq
  exact qEC (h.s.f q hq)
 ·rcases List.mem_append.1 hq with hq | hq
  ·exact hL q hq
  exact qQP (h.s.l q hq)
 ·rcases List.mem_append.1 hq with hq | hq
  ·exact hE q hq
  exact qNP (h.e q hq)
 show (σ++τ).length=C.nx+k
 rw [List.length_append,h.n,hk]
theorem COk.facts {σ:Wd} {C:Cx} (h:COk σ C) {F:List jI} (hF:∀ q∈F,sG σ q):COk σ (C.add F [] [] 0):=by
 have:=h.ext (τ:=[]) (F:=F) (L:=[]) (els:=[]) (k:=0) (by simpa using hF) (by simp) (by simp) rfl
 simpa using this
theorem get_new {σ:Wd} {C:Cx} (h:COk σ C) (x:Int × D):(σ++[x])[C.nx]? = some x:=by
 rw [← h.n]; simp
mutual
def fresh:Sn->Cx->Cx × Y
 | .int k,C=>(C.add [] [] [] 1,.int k C.nx 0)
 | .bool,C=>(C,.bool [] [])
 | .str b,C=>(C.add [] [(C.nx,b)] [] 1,.str C.nx b)
 | .st fs,C=>((pP fs C).1,.st (pP fs C).2)
 | .sl el sz b e,C=>(C.add [] [(C.nx,b)] [] 1,.sl C.nx el sz b e)
 | .any,C=>(C,.any)
def pP:List Sn->Cx->Cx × List Y
 | [],C=>(C,[])
 | s::r,C=>((pP r (fresh s C).1).1,(fresh s C).2::(pP r (fresh s C).1).2)
end
theorem kR {σ:Wd} {C:Cx} (h:COk σ C):COk (σ++[]) C:=by rw [List.append_nil]; exact h
mutual
theorem qBT:∀ {s:Sn} {d:D} {σ:Wd} {C:Cx},vI s d->COk σ C->∃ τ,COk (σ++τ) (fresh s C).1/\qY (σ++τ) (fresh s C).2 d
 | .int k,d,σ,C,h,hC=>by
  simp only [vI] at h
  obtain ⟨n,rfl⟩:=h
  refine ⟨[(n,.nil)],hC.ext (by simp) (by simp) (by simp) rfl,?_⟩
  simp only [fresh,qY]
  exact ⟨_,get_new hC _,by simp⟩
 | .bool,d,σ,C,h,hC=>by
  simp only [vI] at h
  obtain ⟨b,rfl⟩:=h
  refine ⟨[],kR hC,?_⟩
  simp only [fresh,qY]
  exact ⟨b,rfl,fun _ q hq=>(by cases hq),fun _ q hq=>(by cases hq)⟩
 | .str b,d,σ,C,h,hC=>by
  simp only [vI] at h
  obtain ⟨s,rfl,hs⟩:=h
  refine ⟨[((s.size:Int),.nil)],hC.ext (by simp) (fun q hq=>?_) (by simp) rfl,?_⟩
  ·rw [List.mem_singleton] at hq; subst hq
   exact ⟨_,get_new hC _,by simp,by simp; omega⟩
  simp only [fresh,qY]
  exact ⟨s,_,rfl,get_new hC _,rfl,hs⟩
 | .st fs,d,σ,C,h,hC=>by
  simp only [vI] at h
  obtain ⟨cs,rfl,hs⟩:=h
  obtain ⟨τ,h1,h2⟩:=lV hs hC
  refine ⟨τ,h1,?_⟩
  simp only [fresh,qY]
  exact ⟨cs,rfl,h2⟩
 | .sl el sz b e,d,σ,C,h,hC=>by
  have hl:d.es.length<=b:=by
   simp only [vI] at h
   rcases h with rfl | ⟨es,rfl,h,_⟩
   ·exact Nat.zero_le _
   exact h
  refine ⟨[((d.es.length:Int),d)],hC.ext (by simp) (fun q hq=>?_) (by simp) rfl,?_⟩
  ·rw [List.mem_singleton] at hq; subst hq
   exact ⟨_,get_new hC _,by simp,by simp; omega⟩
  simp only [fresh,qY]
  exact ⟨get_new hC _,h⟩
 | .any,d,σ,C,h,hC=>by
  refine ⟨[],kR hC,?_⟩
  simp only [fresh,qY]
theorem lV:∀ {ss:List Sn} {ds:List D} {σ:Wd} {C:Cx},vW ss ds->COk σ C->∃ τ,COk (σ++τ) (pP ss C).1/\qV (σ++τ) (pP ss C).2 ds
 | [],ds,σ,C,h,hC=>by
  simp only [vW] at h
  refine ⟨[],kR hC,?_⟩
  simp only [pP,qV]; exact h
 | s::r,ds,σ,C,h,hC=>by
  simp only [vW] at h
  obtain ⟨d,ds',rfl,h1,h2⟩:=h
  obtain ⟨τ,a1,a2⟩:=qBT h1 hC
  obtain ⟨τ',b1,b2⟩:=lV h2 a1
  refine ⟨τ++τ',by rw [← List.append_assoc]; exact b1,?_⟩
  simp only [pP,qV]
  exact ⟨d,ds',rfl,by rw [← List.append_assoc]; exact rX a2,by rw [← List.append_assoc]; exact b2⟩
end
mutual
def hU (C:Cx):Y->Sn->Bool
 | _,.any=>true
 | .int k _ _,.int k'=>decide (k=k')
 | .bool _ _,.bool=>true
 | .str n b,.str m=>Nat.ble b m || gZ C.F C.L n 0 0 m
 | .st cs,.st fs=>cD C cs fs
 | .sl n el sz b e,.sl jA sz' m e'=>Nat.beq el jA && Nat.beq sz sz' && e.fits e' && (Nat.ble b m || gZ C.F C.L n 0 0 m)
 | .nil,.sl _ _ _ _=>true
 | _,_=>false
def cD (C:Cx):List Y->List Sn->Bool
 | [],[]=>true
 | y::ys,s::ss=>hU C y s && cD C ys ss
 | _,_=>false
end
theorem sK {σ:Wd} {C:Cx} (hC:COk σ C) {n m:Nat} {x:Int × D} (hx:σ[n]? = some x) (h:gZ C.F C.L n 0 0 (m:Int)=true):x.1<=(m:Int):=by
 obtain ⟨z,hz⟩:=hC.s.z
 have:=jD hC.s h hx hz
 simpa using this
mutual
theorem qEy {σ:Wd} {C:Cx} (hC:COk σ C):∀ {y:Y} {s:Sn} {d:D},hU C y s=true->qY σ y d->vI s d
 | .int k v c,s,d,h,hd=>by
  cases s <;> first | (simp only [vI]; done) | simp only [hU] at h <;> first | (cases h; done) | skip
  rw [decide_eq_true_eq] at h; subst h
  simp only [qY] at hd
  obtain ⟨x,_,rfl⟩:=hd
  simp only [vI]; exact ⟨_,rfl⟩
 | .bool t f,s,d,h,hd=>by
  cases s <;> first | (simp only [vI]; done) | simp only [hU] at h <;> first | (cases h; done) | skip
  simp only [qY] at hd
  obtain ⟨b,rfl,_⟩:=hd
  simp only [vI]; exact ⟨_,rfl⟩
 | .str n b,s,d,h,hd=>by
  cases s <;> first | (simp only [vI]; done) | simp only [hU] at h <;> first | (cases h; done) | skip
  simp only [qY] at hd
  obtain ⟨t,x,rfl,h1,h2,h3⟩:=hd
  simp only [vI]
  refine ⟨_,rfl,?_⟩
  rcases Bool.or_eq_true_iff.1 h with h | h
  ·exact lT h3 (lB h)
  have:=sK hC h1 h
  omega
 | .st cs,s,d,h,hd=>by
  cases s <;> first | (simp only [vI]; done) | simp only [hU] at h <;> first | (cases h; done) | skip
  simp only [qY] at hd
  obtain ⟨ds,rfl,h1⟩:=hd
  simp only [vI]; exact ⟨_,rfl,nC hC h h1⟩
 | .sl n el sz b e,s,d,h,hd=>by
  cases s <;> first | (simp only [vI]; done) | simp only [hU] at h <;> first | (cases h; done) | skip
  simp only [aE] at h
  obtain ⟨⟨⟨h1,h2⟩,h3⟩,h4⟩:=h
  have h1:=jF h1
  have h2:=jF h2
  subst h1 h2
  simp only [qY] at hd
  obtain ⟨hn,hd⟩:=hd
  simp only [vI] at hd ⊢
  rcases hd with rfl | ⟨es,rfl,hl,ha⟩
  ·exact .inl rfl
  refine .inr ⟨es,rfl,?_,fun x hx=>gT h3 (ha x hx)⟩
  rcases Bool.or_eq_true_iff.1 h4 with h | h
  ·exact lT hl (lB h)
  have:=sK hC hn h
  have e:(D.sl el sz es).es.length=es.length:=rfl
  simp only [e] at this
  omega
 | .nil,s,d,h,hd=>by
  cases s <;> first | (simp only [vI]; done) | simp only [hU] at h <;> first | (cases h; done) | skip
  simp only [qY] at hd
  subst hd
  simp only [vI]; exact .inl trivial
 | .clo _,s,d,h,hd=>by cases s <;> first | (simp only [vI]; done) | (simp only [hU] at h; cases h; done)
 | .tup _,s,d,h,hd=>by cases s <;> first | (simp only [vI]; done) | (simp only [hU] at h; cases h; done)
 | .any,s,d,h,hd=>by cases s <;> first | (simp only [vI]; done) | (simp only [hU] at h; cases h; done)
theorem nC {σ:Wd} {C:Cx} (hC:COk σ C):∀ {ys:List Y} {ss:List Sn} {ds:List D},cD C ys ss=true->qV σ ys ds->vW ss ds
 | [],ss,ds,h,hd=>by
  cases ss <;> simp only [cD] at h <;> first | (cases h; done) | skip
  simp only [qV] at hd
  simp only [vW]; exact hd
 | y::ys,ss,ds,h,hd=>by
  cases ss <;> simp only [cD] at h <;> first | (cases h; done) | skip
  simp only [aE] at h
  simp only [qV] at hd
  obtain ⟨d,r,rfl,h1,h2⟩:=hd
  simp only [vW]
  exact ⟨d,r,rfl,qEy hC h.1 h1,nC hC h.2 h2⟩
end
end Go.Am.Tt
namespace Go.Am.Tt
open Go Go.Am
def gF (E:Env) (σ:Wd) (o:TOp) (ds:List D) (r:Cx × Y):Prop:=∃ d τ,TOp.eval E o ds=some d/\COk (σ++τ) r.1/\qY (σ++τ) r.2 d
section
variable {E:Env} {σ:Wd} {C:Cx} {o:TOp} {ds:List D} {d:D}
theorem gF.same (hC:COk σ C) {y:Y} (he:TOp.eval E o ds=some d) (hr:qY σ y d):gF E σ o ds (C,y) :=
 ⟨d,[],he,kR hC,by rw [List.append_nil]; exact hr⟩
theorem gF.fresh (hC:COk σ C) {s:Sn} (he:TOp.eval E o ds=some d) (hn:vI s d):gF E σ o ds (fresh s C):=by
 obtain ⟨τ,h1,h2⟩:=qBT hn hC
 exact ⟨d,τ,he,h1,h2⟩
theorem gF.list (hC:COk σ C) {el sz b:Nat} {e:Sn} {F:List jI} (he:TOp.eval E o ds=some d) (hn:vI (.sl el sz b e) d)
  (hF:∀ q∈F,sG (σ++[((d.es.length:Int),d)]) q):gF E σ o ds (C.add F [(C.nx,b)] [] 1,.sl C.nx el sz b e):=by
 have hl:d.es.length<=b:=by
  simp only [vI] at hn
  rcases hn with rfl | ⟨es,rfl,h,_⟩
  ·exact Nat.zero_le _
  exact h
 refine ⟨d,[((d.es.length:Int),d)],he,hC.ext hF (fun q hq=>?_) (by simp) rfl,?_⟩
 ·rw [List.mem_singleton] at hq; subst hq
  exact ⟨_,get_new hC _,by simp,by simp; omega⟩
 simp only [qY]
 exact ⟨get_new hC _,hn⟩
theorem gF.num (hC:COk σ C) {k:IntKind} {n:Int} {F:List jI} (he:TOp.eval E o ds=some (.leaf (.int k n)))
  (hF:∀ q∈F,sG (σ++[(n,D.nil)]) q):gF E σ o ds (C.add F [] [] 1,.int k C.nx 0):=by
 refine ⟨_,[(n,.nil)],he,hC.ext hF (by simp) (by simp) rfl,?_⟩
 simp only [qY]
 exact ⟨_,get_new hC _,by simp⟩
end
def qXO (C:Cx) (v:Nat) (c:Int) (w:Nat) (e:Int):List jI :=
 (bif qH1 1 C.F C.L w e v c then [(w,v,c - e - 1)] else [])++(bif qH1 1 C.F C.L v c w e then [(v,w,e - c - 1)] else [])
def qUD (op:BinOp) (C:Cx) (v:Nat) (c:Int) (w:Nat) (e:Int):Option (List jI × List jI):=match op with
 | .lss=>some ([(v,w,e - c - 1)],[(w,v,c - e)])
 | .leq=>some ([(v,w,e - c)],[(w,v,c - e - 1)])
 | .gtr=>some ([(w,v,c - e - 1)],[(v,w,e - c)])
 | .geq=>some ([(w,v,c - e)],[(v,w,e - c - 1)])
 | .eql=>some ([(v,w,e - c),(w,v,c - e)],qXO C v c w e)
 | .neq=>some (qXO C v c w e,[(v,w,e - c),(w,v,c - e)])
 | _=>none
theorem qSF {σ:Wd} {C:Cx} (hC:COk σ C) {v w:Nat} {c e:Int} {x y:Int × D} (hv:σ[v]? = some x) (hw:σ[w]? = some y) (h:¬ x.1+c=y.1+e):∀ q∈qXO C v c w e,sG σ q:=by
 intro q hq
 unfold qXO at hq
 rcases List.mem_append.1 hq with hq | hq
 ·cases hb:qH1 1 C.F C.L w e v c with
  | false=>rw [hb] at hq; cases hq
  | true =>
   rw [hb,cond_true,List.mem_singleton] at hq
   subst hq
   have:=qEF hC.s hb hw hv
   exact ⟨y,x,hw,hv,by simp only; omega⟩
 cases hb:qH1 1 C.F C.L v c w e with
 | false=>rw [hb] at hq; cases hq
 | true =>
  rw [hb,cond_true,List.mem_singleton] at hq
  subst hq
  have:=qEF hC.s hb hv hw
  exact ⟨x,y,hv,hw,by simp only; omega⟩
theorem f1 {σ:Wd} {v w:Nat} {c:Int} {x y:Int × D} (hv:σ[v]? = some x) (hw:σ[w]? = some y) (h:x.1<=y.1+c):∀ q∈[(v,w,c)],sG σ q:=by
 intro q hq; rw [List.mem_singleton] at hq; subst hq; exact ⟨x,y,hv,hw,h⟩
theorem f2 {σ:Wd} {p q:jI} (hp:sG σ p) (hq:sG σ q):∀ r∈[p,q],sG σ r:=by
 intro r hr
 rcases List.mem_cons.1 hr with rfl | hr
 ·exact hp
 rw [List.mem_singleton] at hr; subst hr; exact hq
theorem qUC {E:Env} {σ:Wd} {C:Cx} (hC:COk σ C) {op:BinOp} {ty:TypeId} {a b:Operand} {k:IntKind} {v w:Nat} {c e:Int} {t f:List jI} {x y:Int × D}
  (h:qUD op C v c w e=some (t,f)) (hv:σ[v]? = some x) (hw:σ[w]? = some y) :
  gF E σ (.bin op ty a b) [.leaf (.int k (x.1+c)),.leaf (.int k (y.1+e))] (C,.bool t f):=by
 have fin:∀ r:Bool,TOp.eval E (.bin op ty a b) [.leaf (.int k (x.1+c)),.leaf (.int k (y.1+e))]=some (dB r)->(r=true->∀ q∈t,sG σ q)->(r=false->∀ q∈f,sG σ q)->gF E σ (.bin op ty a b) [.leaf (.int k (x.1+c)),.leaf (.int k (y.1+e))] (C,.bool t f):=by
  intro r he ht hf
  refine .same hC he ?_
  simp only [qY]
  exact ⟨r,rfl,ht,hf⟩
 cases op <;> simp only [qUD] at h <;> first | (cases h; done) | (cases h)
 ·exact fin _ yR (fun hb=>f2 ⟨x,y,hv,hw,by have:=dT hb; simp only; omega⟩ ⟨y,x,hw,hv,by have:=dT hb; simp only; omega⟩) (fun hb=>qSF hC hv hw (dF hb))
 ·exact fin _ wM (fun hb=>qSF hC hv hw (dT hb)) (fun hb=>f2 ⟨x,y,hv,hw,by have:=dF hb; simp only; omega⟩ ⟨y,x,hw,hv,by have:=dF hb; simp only; omega⟩)
 ·exact fin _ zE (fun hb=>f1 hv hw (by have:=dT hb; omega)) (fun hb=>f1 hw hv (by have:=dF hb; omega))
 ·exact fin _ cT (fun hb=>f1 hv hw (by have:=dT hb; omega)) (fun hb=>f1 hw hv (by have:=dF hb; omega))
 ·exact fin _ vT (fun hb=>f1 hw hv (by have:=dT hb; omega)) (fun hb=>f1 hv hw (by have:=dF hb; omega))
 exact fin _ wN (fun hb=>f1 hw hv (by have:=dT hb; omega)) (fun hb=>f1 hv hw (by have:=dF hb; omega))
end Go.Am.Tt
namespace Go.Am.Tt
open Go Go.Am
section
variable {E:Env} {σ:Wd} {C:Cx}
def Sn.small (n:Nat):Bool:=Nat.ble n 300000000
theorem qTY {el sz b:Nat} {e:Sn} {d:D} (h:vI (.sl el sz b e) d) (hb:Nat.ble b 300000000=true):xL el sz d:=by
 simp only [vI] at h
 rcases h with rfl | ⟨es,rfl,h,_⟩
 ·exact .inl rfl
 exact .inr ⟨es,rfl,qIb (lT h (lB hb))⟩
theorem qUw {el sz b:Nat} {e:Sn} {d x:D} {i:Nat} (h:vI (.sl el sz b e) d) (hx:d.es[i]? = some x):vI e x:=by
 simp only [vI] at h
 rcases h with rfl | ⟨es,rfl,_,h⟩
 ·simp [D.es] at hx
 exact h x (List.mem_of_getElem? hx)
theorem qTV (hC:COk σ C) {n el sz b:Nat} {e:Sn} {d:D} (h:qY σ (.sl n el sz b e) d):gF E σ (.len false) [d] (C,.int .i64 n 0):=by
 simp only [qY] at h
 refine .same hC (d:=dI (d.es.length:Int)) ?_ ?_
 ·have h2:=h.2
  simp only [vI] at h2
  rcases h2 with rfl | ⟨es,rfl,_,_⟩ <;> rfl
 simp only [qY]; exact ⟨_,h.1,by simp⟩
theorem qPH (hC:COk σ C):gF E σ (.len false) [.nil] (C,.int .i64 0 0):=by
 obtain ⟨z,hz⟩:=hC.s.z
 refine .same hC (d:=dI ((0:Nat):Int)) rfl ?_
 simp only [qY]; exact ⟨_,hz,by simp⟩
theorem qPG (hC:COk σ C) {n b:Nat} {d:D} (h:qY σ (.str n b) d):gF E σ (.len true) [d] (C,.int .i64 n 0):=by
 simp only [qY] at h
 obtain ⟨s,x,rfl,h1,h2,_⟩:=h
 refine .same hC (d:=dI (s.size:Int)) rfl ?_
 simp only [qY]; exact ⟨_,h1,by rw [h2]; simp⟩
def qDE:List El->Nat->Nat->Int->Option Y
 | [],_,_,_=>none
 | e::r,n,v,c=>bif Nat.beq e.n n && Nat.beq e.v v && decide (e.c=c) then some e.y else qDE r n v c
theorem sF {l:List El} (hl:∀ e∈l,qKX σ e) {n v:Nat} {c:Int} {y:Y} (h:qDE l n v c=some y):qKX σ ⟨n,v,c,y⟩:=by
 induction l with
 | nil=>cases h
 | cons e r ih =>
  simp only [qDE] at h
  cases hb:(Nat.beq e.n n && Nat.beq e.v v && decide (e.c=c)) with
  | true =>
   rw [hb,cond_true] at h
   simp only [aE,decide_eq_true_eq] at hb
   have h1:=jF hb.1.1
   have h2:=jF hb.1.2
   cases h
   have:=hl e List.mem_cons_self
   obtain ⟨en,ev,ec,ey⟩:=e
   simp only at h1 h2 hb
   rw [← h1,← h2,← hb.2]
   exact this
  | false=>rw [hb,cond_false] at h; exact ih (fun e he=>hl e (mC _ he)) h
def qPT (C:Cx) (n:Nat) (e:Sn) (v:Nat) (c:Int):Option (Cx × Y) :=
 match qDE C.els n v c with
 | some _=>some (C,.bool [] [])
 | none=>bif gZ C.F C.L 0 0 v c && gZ C.F C.L v (c+1) n 0 then
   some ((fresh e C).1.add [] [] [⟨n,v,c,(fresh e C).2⟩] 0,.bool [] []) else none
theorem qNb (hC:COk σ C) {n el sz b v:Nat} {e:Sn} {c:Int} {d i:D} {r:Cx × Y} (hd:qY σ (.sl n el sz b e) d) (hi:qY σ (.int .i64 v c) i) (h:qPT C n e v c=some r):gF E σ .inr [d,i] r:=by
 simp only [qY] at hd hi
 obtain ⟨x,hx,rfl⟩:=hi
 unfold qPT at h
 split at h
 ·rename_i y hy
  cases h
  obtain ⟨x',d',i',z,h1,h2,h3,h4,_⟩:=sF hC.e hy
  simp only at h1 h2 h3 h4
  rw [hd.1] at h1; rw [hx] at h2
  cases h1; cases h2
  refine .same hC (vB h3 h4) ?_
  simp only [qY]
  exact ⟨true,rfl,fun _ q hq=>(by cases hq),fun hb=>(by cases hb)⟩
 obtain ⟨hb,h⟩:=zW h
 cases h
 rw [aE] at hb
 obtain ⟨z,hz⟩:=hC.s.z
 have l1:=jD hC.s hb.1 hz hx
 have l2:=jD hC.s hb.2 hx hd.1
 simp only at l1 l2
 obtain ⟨q,hq⟩:=get_at (d:=d) (s:=x.1+c) (by omega) (by omega)
 obtain ⟨τ,a1,a2⟩:=qBT (qUw hd.2 hq) hC
 refine ⟨dB true,τ,vB (by omega) hq,?_,?_⟩
 ·have:=a1.ext (τ:=[]) (F:=[]) (L:=[]) (els:=[⟨n,v,c,(fresh e C).2⟩]) (k:=0) (by simp) (by simp) ?_ rfl
  ·simpa using this
  intro p hp
  rw [List.mem_singleton] at hp; subst hp
  rw [List.append_nil]
  exact ⟨_,d,x,q,z7 hd.1,z7 hx,by simp only; omega,hq,a2⟩
 simp only [qY]
 exact ⟨true,rfl,fun _ q hq=>(by cases hq),fun hb=>(by cases hb)⟩
end
end Go.Am.Tt
namespace Go.Am.Tt
open Go Go.Am
theorem lI {σ:Wd}:∀ {ys:List Y} {ds:List D},qV σ ys ds->ys.length=ds.length
 | [],ds,h=>by simp only [qV] at h; subst h; rfl
 | y::ys,ds,h=>by
  simp only [qV] at h
  obtain ⟨d,r,rfl,_,h2⟩:=h
  simp [lI h2]
theorem oG {σ:Wd}:∀ {ys:List Y} {ds:List D} {i:Nat} {y:Y},qV σ ys ds->ys[i]? = some y->∃ d,ds[i]? = some d/\qY σ y d
 | [],ds,i,y,h,hy=>by simp at hy
 | z::ys,ds,i,y,h,hy=>by
  simp only [qV] at h
  obtain ⟨d,r,rfl,h1,h2⟩:=h
  cases i with
  | zero=>simp only [List.getElem?_cons_zero,oI] at hy; subst hy; exact ⟨d,by simp,h1⟩
  | succ i=>simp only [List.getElem?_cons_succ] at hy ⊢; exact oG h2 hy
theorem fS {σ:Wd}:∀ {n:Nat} {ys:List Y} {ds:List D},qV σ ys ds->qV σ (ys.drop n) (ds.drop n)
 | 0,ys,ds,h=>by simpa using h
 | n+1,[],ds,h=>by simp only [qV] at h; subst h; simp [qV]
 | n+1,y::ys,ds,h=>by
  simp only [qV] at h
  obtain ⟨d,r,rfl,_,h2⟩:=h
  simpa using fS (n:=n) h2
theorem fR {σ:Wd}:∀ {n:Nat} {ys:List Y} {ds:List D},qV σ ys ds->qV σ (ys.take n) (ds.take n)
 | 0,ys,ds,h=>by simp [qV]
 | n+1,[],ds,h=>by simp only [qV] at h; subst h; simp [qV]
 | n+1,y::ys,ds,h=>by
  simp only [qV] at h
  obtain ⟨d,r,rfl,h1,h2⟩:=h
  simp only [List.take_succ_cons,qV]
  exact ⟨d,_,rfl,h1,fR (n:=n) h2⟩
def qFF:Y->Bool
 | .int _ _ _=>true
 | .bool _ _=>true
 | .str _ _=>true
 | .sl _ _ _ _ _=>true
 | .nil=>true
 | _=>false
theorem qAI {σ:Wd} {y:Y} {d:D} (h:qFF y=true) (hd:qY σ y d):d.one=true:=by
 cases y <;> simp only [qFF] at h <;> first | (cases h; done) | simp only [qY] at hd
 ·obtain ⟨_,_,rfl⟩:=hd; rfl
 ·obtain ⟨_,rfl,_⟩:=hd; rfl
 ·obtain ⟨_,_,rfl,_⟩:=hd; rfl
 ·have:=hd.2
  simp only [vI] at this
  rcases this with rfl | ⟨es,rfl,_⟩ <;> rfl
 subst hd; rfl
section
variable {E:Env} {σ:Wd} {C:Cx}
def qMt (ag:Bool) (size off:Nat) (cs:List Y):Option Y:=match ag with
 | true=>bif Nat.ble (off+size) cs.length then some (.st ((cs.drop off).take size)) else none
 | false=>match cs[off]? with
  | some y=>bif qFF y && Nat.beq size 1 then some y else none
  | none=>none
theorem qT8 (hC:COk σ C) {ag:Bool} {size off:Nat} {cs:List Y} {d:D} {y:Y} (hd:qY σ (.st cs) d) (h:qMt ag size off cs=some y):gF E σ (.fld ag size off) [d] (C,y):=by
 simp only [qY] at hd
 obtain ⟨es,rfl,hs⟩:=hd
 unfold qMt at h
 split at h
 ·obtain ⟨hb,h⟩:=zW h
  cases h
  refine .same hC (d5 (by rw [← lI hs]; exact hb)) ?_
  simp only [qY]
  exact ⟨_,rfl,fR (fS hs)⟩
 split at h
 ·rename_i y' hy
  obtain ⟨hb,h⟩:=zW h
  cases h
  rw [aE] at hb
  have hsz:=jF hb.2
  subst hsz
  obtain ⟨e,he,hr⟩:=oG hs hy
  exact .same hC (qA he (qAI hb.1 hr)) hr
 cases h
def qMr (cs:List Y) (off:Nat):Option Y:=match cs[off]? with
 | some y=>bif qFF y then some y else none
 | none=>none
theorem qMq {cs:List Y} {off:Nat} {y:Y} (h:qMr cs off=some y):cs[off]? = some y/\qFF y=true:=by
 unfold qMr at h
 split at h
 ·rename_i y' hy
  obtain ⟨ho,h⟩:=zW h
  cases h
  exact ⟨hy,ho⟩
 cases h
def qNO (C:Cx) (n v:Nat) (c:Int) (sz:Nat) (ag:Bool) (size off:Nat):Option Y:=match qDE C.els n v c with
 | some (.st cs)=>bif Nat.beq cs.length sz then (match ag with
  | true=>bif Nat.beq off 0 && Nat.beq size sz then some (.st cs) else bif Nat.ble (off+size) sz then some (.st ((cs.drop off).take size)) else none
  | false=>bif Nat.beq size 1 && Nat.blt off sz then qMr cs off else none) else none
 | some y=>bif !ag && qFF y && Nat.beq sz 1 && Nat.beq size 1 && Nat.beq off 0 then some y else none
 | none=>none
theorem qAS (hC:COk σ C) {n el sz sz' b v size off:Nat} {ag:Bool} {e:Sn} {c:Int} {d i:D} {y:Y} (hd:qY σ (.sl n el sz b e) d) (hi:qY σ (.int .i64 v c) i)
  (hb:Nat.ble b 300000000=true) (hz:Nat.beq sz sz'=true) (h:qNO C n v c sz' ag size off=some y):gF E σ (.elem sz' ag size off) [d,i] (C,y):=by
 have hz:=jF hz
 subst hz
 simp only [qY] at hd hi
 obtain ⟨x,hx,rfl⟩:=hi
 have hsl:=qTY hd.2 hb
 unfold qNO at h
 split at h
 ·rename_i cs hf
  obtain ⟨x',d',i',z,h1,h2,h3,h4,h5⟩:=sF hC.e hf
  simp only at h1 h2 h3 h4 h5
  rw [hd.1] at h1; rw [hx] at h2
  cases h1; cases h2
  simp only [qY] at h5
  obtain ⟨es,rfl,hs⟩:=h5
  obtain ⟨hl,h⟩:=zW h
  have hl:=jF hl
  have hle:=lI hs
  split at h
  ·cases hw:(Nat.beq off 0 && Nat.beq size sz) with
   | true =>
    rw [hw,cond_true] at h
    cases h
    rw [aE] at hw
    have a1:=jF hw.1
    have a2:=jF hw.2
    subst a1 a2
    refine .same hC (gL hsl h3 h4 (by omega)) ?_
    simp only [qY]; exact ⟨_,rfl,hs⟩
   | false =>
    rw [hw,cond_false] at h
    obtain ⟨hb',h⟩:=zW h
    cases h
    refine .same hC (qMb (size:=size) (off:=off) hsl h3 h4 (by omega) (lB hb') ?_) ?_
    ·rintro ⟨rfl,rfl⟩
     rw [Nat.beq_refl,Nat.beq_refl] at hw
     cases hw
    simp only [qY]; exact ⟨_,rfl,fR (fS hs)⟩
  obtain ⟨hb',h'⟩:=zW h
  rw [aE] at hb'
  have a1:=jF hb'.1
  subst a1
  obtain ⟨hy,ho⟩:=qMq h'
  obtain ⟨q,hq,hr⟩:=oG hs hy
  exact .same hC (cU (off:=off) hsl h3 h4 hq (qAI ho hr) (Nat.lt_of_succ_le (lB hb'.2))) hr
 ·rename_i y' hns hf
  obtain ⟨hb',h⟩:=zW h
  cases h
  simp only [aE] at hb'
  obtain ⟨⟨⟨⟨a0,a1⟩,a2⟩,a3⟩,a4⟩:=hb'
  have a2:=jF a2
  have a3:=jF a3
  have a4:=jF a4
  subst a2 a3 a4
  have a0:ag=false:=by simpa using a0
  subst a0
  obtain ⟨x',d',i',z,h1,h2,h3,h4,h5⟩:=sF hC.e hf
  simp only at h1 h2 h3 h4 h5
  rw [hd.1] at h1; rw [hx] at h2
  cases h1; cases h2
  exact .same hC (z6 hsl h3 h4 (qAI a1 h5)) h5
 cases h
theorem qTJ (hC:COk σ C) {ty:TypeId} {t f:List jI} {d:D} (hd:qY σ (.bool t f) d):gF E σ (.un .not ty) [d] (C,.bool f t):=by
 simp only [qY] at hd
 obtain ⟨b,rfl,h1,h2⟩:=hd
 refine .same hC vV ?_
 simp only [qY]
 exact ⟨!b,rfl,fun h=>h2 (by simpa using h),fun h=>h1 (by simpa using h)⟩
theorem qQD (hC:COk σ C) {n:Nat} {cs:List Y} {d:D} (hd:qY σ (.st cs) d) (h:Nat.beq cs.length n=true):gF E σ (.chk true n) [d] (C,.st cs):=by
 have hd':=hd
 simp only [qY] at hd'
 obtain ⟨es,rfl,hs⟩:=hd'
 exact .same hC (qU (by rw [← lI hs]; exact jF h)) hd
theorem qQE (hC:COk σ C) {y:Y} {d:D} (hd:qY σ y d) (h:qFF y=true):gF E σ (.chk false 1) [d] (C,y) :=
 .same hC (jM (qAI h hd)) hd
theorem qUk (hC:COk σ C) {i:Nat} {cs:List Y} {y:Y} {d:D} (hd:qY σ (.tup cs) d) (h:cs[i]? = some y):gF E σ (.ext i) [d] (C,y):=by
 simp only [qY] at hd
 obtain ⟨es,rfl,hs⟩:=hd
 obtain ⟨q,hq,hr⟩:=oG hs h
 exact .same hC (yP hq) hr
def eU (C:Cx) (v:Nat) (c:Int):Bool:=gZ C.F C.L v c 0 4000000000000000000 && gZ C.F C.L 0 (-4000000000000000000) v c
theorem bW (hC:COk σ C) {v:Nat} {c:Int} {x:Int × D} (hv:σ[v]? = some x) (h:eU C v c=true) : -4000000000000000000<=x.1+c/\x.1+c<=4000000000000000000:=by
 unfold eU at h
 rw [aE] at h
 obtain ⟨z,hz⟩:=hC.s.z
 have h1:=jD hC.s h.1 hv hz
 have h2:=jD hC.s h.2 hz hv
 simp only at h1 h2
 omega
def qZv (C:Cx) (w:Nat) (e:Int):Option Int :=
 let acc:=qH8 C.F 4 [(w,0)]
 C.L.foldl (fun m p=>match b9 acc p.1 with
  | some d=>(match m with
   | some u=>some (bif decide (d+p.2+e<=u) then d+p.2+e else u)
   | none=>some (d+p.2+e))
  | none=>m) (match b9 acc 0 with | some d=>some (d+e) | none=>none)
def qXP (C:Cx) (v:Nat) (c:Int) (w:Nat) (e:Int):List jI :=
 bif gZ C.F C.L 0 1 w e then [(v,C.nx,-c - 1)] else bif gZ C.F C.L 0 0 w e then [(v,C.nx,-c)] else []
def qXR (C:Cx) (v:Nat) (c:Int) (w:Nat) (e:Int):List jI:=match qZv C w e with
 | some u=>bif gZ C.F C.L w e 0 u then [(C.nx,v,c+u)] else []
 | none=>[]
def qXC (C:Cx) (v:Nat) (c:Int) (w:Nat) (e:Int):List jI:=qXP C v c w e++qXR C v c w e++qXP C w e v c++qXR C w e v c
def qUU (C:Cx) (v:Nat) (c:Int) (w:Nat) (e:Int):Cx × Y :=
 bif Nat.beq w 0 && eU C v (c+e) then (C,.int .i64 v (c+e)) else
 bif Nat.beq v 0 && eU C w (e+c) then (C,.int .i64 w (e+c)) else
 bif eU C v c && eU C w e then (C.add (qXC C v c w e) [] [] 1,.int .i64 C.nx 0) else (C.add [] [] [] 1,.int .i64 C.nx 0)
theorem qM3 (hC:COk σ C) {v w:Nat} {c e:Int} {x y:Int × D} (hx:σ[v]? = some x) (hy:σ[w]? = some y) {n:Int} (hn:n=x.1+c+(y.1+e)):∀ q∈qXP C v c w e,sG (σ++[(n,D.nil)]) q:=by
 obtain ⟨z,hz⟩:=hC.s.z
 intro q hq
 unfold qXP at hq
 cases h1:gZ C.F C.L 0 1 w e with
 | true =>
  rw [h1,cond_true,List.mem_singleton] at hq
  subst hq
  have:=jD hC.s h1 hz hy
  exact ⟨_,_,z7 hx,get_new hC _,by simp only at this ⊢; omega⟩
 | false =>
  rw [h1,cond_false] at hq
  cases h0:gZ C.F C.L 0 0 w e with
  | true =>
   rw [h0,cond_true,List.mem_singleton] at hq
   subst hq
   have:=jD hC.s h0 hz hy
   exact ⟨_,_,z7 hx,get_new hC _,by simp only at this ⊢; omega⟩
  | false=>rw [h0] at hq; cases hq
theorem qNh (hC:COk σ C) {v w:Nat} {c e:Int} {x y:Int × D} (hx:σ[v]? = some x) (hy:σ[w]? = some y) {n:Int} (hn:n=x.1+c+(y.1+e)):∀ q∈qXR C v c w e,sG (σ++[(n,D.nil)]) q:=by
 obtain ⟨z,hz⟩:=hC.s.z
 intro q hq
 unfold qXR at hq
 split at hq
 ·rename_i u _
  cases h1:gZ C.F C.L w e 0 u with
  | true =>
   rw [h1,cond_true,List.mem_singleton] at hq
   subst hq
   have:=jD hC.s h1 hy hz
   exact ⟨_,_,get_new hC _,z7 hx,by simp only at this ⊢; omega⟩
  | false=>rw [h1] at hq; cases hq
 cases hq
theorem qUT (hC:COk σ C) {ty:TypeId} {a b:Operand} {v w:Nat} {c e:Int} {d d':D} (hd:qY σ (.int .i64 v c) d) (hd':qY σ (.int .i64 w e) d') :
  gF E σ (.bin .add ty a b) [d,d'] (qUU C v c w e):=by
 simp only [qY] at hd hd'
 obtain ⟨x,hx,rfl⟩:=hd
 obtain ⟨y,hy,rfl⟩:=hd'
 obtain ⟨z,hz⟩:=hC.s.z
 unfold qUU
 cases hb:(Nat.beq w 0 && eU C v (c+e)) with
 | true =>
  rw [aE] at hb
  have hw:=jF hb.1
  subst hw
  rw [hz] at hy; cases hy
  have:=bW hC hx hb.2
  refine .same hC (kG (by omega)) ?_
  simp only [qY]
  exact ⟨x,hx,by show dI (x.1+c+(0+e))=dI (x.1+(c+e)); rw [show x.1+c+(0+e)=x.1+(c+e) by omega]⟩
 | false =>
  rw [cond_false]
  cases hb:(Nat.beq v 0 && eU C w (e+c)) with
  | true =>
   rw [aE] at hb
   have hw:=jF hb.1
   subst hw
   rw [hz] at hx; cases hx
   have:=bW hC hy hb.2
   refine .same hC (kG (by omega)) ?_
   simp only [qY]
   exact ⟨y,hy,by show dI (0+c+(y.1+e))=dI (y.1+(e+c)); rw [show 0+c+(y.1+e)=y.1+(e+c) by omega]⟩
  | false =>
   rw [cond_false]
   cases hb:(eU C v c && eU C w e) with
   | false=>exact .num hC iS (by simp)
   | true =>
    rw [aE] at hb
    have h1:=bW hC hx hb.1
    have h2:=bW hC hy hb.2
    refine .num hC (kG (by omega)) fun q hq=>?_
    unfold qXC at hq
    rcases List.mem_append.1 hq with hq | hq
    ·rcases List.mem_append.1 hq with hq | hq
     ·rcases List.mem_append.1 hq with hq | hq
      ·exact qM3 hC hx hy rfl q hq
      exact qNh hC hx hy rfl q hq
     exact qM3 hC hy hx (by omega) q hq
    exact qNh hC hy hx (by omega) q hq
def qWj (C:Cx) (v:Nat) (c:Int) (w:Nat) (e:Int):List jI :=
 (bif gZ C.F C.L w e v c then [(0,C.nx,0)] else [])++(bif gZ C.F C.L 0 0 w e then [(C.nx,v,c)] else [])
def qTl (C:Cx) (v:Nat) (c:Int) (w:Nat) (e:Int):Cx × Y :=
 bif Nat.beq w 0 && eU C v (c - e) then (C,.int .i64 v (c - e)) else
 bif eU C v c && eU C w e then (C.add (qWj C v c w e) [] [] 1,.int .i64 C.nx 0) else (C.add [] [] [] 1,.int .i64 C.nx 0)
theorem qTj (hC:COk σ C) {ty:TypeId} {a b:Operand} {v w:Nat} {c e:Int} {d d':D} (hd:qY σ (.int .i64 v c) d) (hd':qY σ (.int .i64 w e) d') :
  gF E σ (.bin .sub ty a b) [d,d'] (qTl C v c w e):=by
 simp only [qY] at hd hd'
 obtain ⟨x,hx,rfl⟩:=hd
 obtain ⟨y,hy,rfl⟩:=hd'
 obtain ⟨z,hz⟩:=hC.s.z
 unfold qTl
 cases hb:(Nat.beq w 0 && eU C v (c - e)) with
 | true =>
  rw [aE] at hb
  have hw:=jF hb.1
  subst hw
  rw [hz] at hy; cases hy
  have:=bW hC hx hb.2
  refine .same hC (qBd (by omega)) ?_
  simp only [qY]
  exact ⟨x,hx,by show dI (x.1+c - (0+e))=dI (x.1+(c - e)); rw [show x.1+c - (0+e)=x.1+(c - e) by omega]⟩
 | false =>
  rw [cond_false]
  cases hb:(eU C v c && eU C w e) with
  | false=>exact .num hC qAE (by simp)
  | true =>
   rw [aE] at hb
   have h1:=bW hC hx hb.1
   have h2:=bW hC hy hb.2
   refine .num hC (qBd (by omega)) fun q hq=>?_
   unfold qWj at hq
   rcases List.mem_append.1 hq with hq | hq
   ·cases h:gZ C.F C.L w e v c with
    | false=>rw [h] at hq; cases hq
    | true =>
     rw [h,cond_true,List.mem_singleton] at hq
     subst hq
     have:=jD hC.s h hy hx
     exact ⟨_,_,z7 hz,get_new hC _,by simp only; omega⟩
   cases h:gZ C.F C.L 0 0 w e with
   | false=>rw [h] at hq; cases hq
   | true =>
    rw [h,cond_true,List.mem_singleton] at hq
    subst hq
    have:=jD hC.s h hz hy
    exact ⟨_,_,get_new hC _,z7 hx,by simp only at this ⊢; omega⟩
theorem qTO (hC:COk σ C) {ty:TypeId} {a b:Operand} {v w:Nat} {c e:Int} {d d':D} (hd:qY σ (.int .i64 v c) d) (hd':qY σ (.int .i64 w e) d') :
  gF E σ (.bin .mul ty a b) [d,d'] (C.add [] [] [] 1,.int .i64 C.nx 0):=by
 simp only [qY] at hd hd'
 obtain ⟨x,hx,rfl⟩:=hd
 obtain ⟨y,hy,rfl⟩:=hd'
 exact .num hC dY (by simp)
theorem qWy (hC:COk σ C) {m:Bool} {v w:Nat} {c e:Int} {d d':D} (hd:qY σ (.int .i64 v c) d) (hd':qY σ (.int .i64 w e) d') :
  gF E σ (.mm m) [d,d'] (C.add [] [] [] 1,.int .i64 C.nx 0):=by
 simp only [qY] at hd hd'
 obtain ⟨x,hx,rfl⟩:=hd
 obtain ⟨y,hy,rfl⟩:=hd'
 obtain ⟨n,hn⟩:=qWB (E:=E) m (x.1+c) (y.1+e)
 exact .num hC hn (by simp)
end
end Go.Am.Tt
namespace Go.Am.Tt
open Go Go.Am
mutual
def Sn.sh:Sn->Sh
 | .int k=>.int k
 | .bool=>.bool
 | .str _=>.str
 | .st fs=>.st (Sn.shs fs)
 | .sl el sz _ e=>.sl el sz (Sn.sh e)
 | .any=>.bool
def Sn.shs:List Sn->List Sh
 | []=>[]
 | s::r=>Sn.sh s::Sn.shs r
end
mutual
def Sn.low:Sn->Bool
 | .int _=>true
 | .bool=>true
 | .str n=>Nat.ble n 300000000
 | .st fs=>Sn.lows fs
 | .sl _ _ n e=>Nat.ble n 300000000 && Sn.low e
 | .any=>false
def Sn.lows:List Sn->Bool
 | []=>true
 | s::r=>Sn.low s && Sn.lows r
end
mutual
theorem oP:∀ {s:Sn} {d:D},Sn.low s=true->vI s d->qI 300000000 s.sh d
 | .int k,d,_,h=>by simp only [vI] at h; simp only [Sn.sh,qI]; exact h
 | .bool,d,_,h=>by simp only [vI] at h; simp only [Sn.sh,qI]; exact h
 | .str n,d,hl,h=>by
  simp only [vI] at h; simp only [Sn.sh,qI]
  obtain ⟨s,hs,hn⟩:=h
  exact ⟨s,hs,lT hn (lB hl)⟩
 | .st fs,d,hl,h=>by
  simp only [vI] at h; simp only [Sn.sh,qI]
  obtain ⟨cs,hd,h⟩:=h
  exact ⟨cs,hd,qAQ hl h⟩
 | .sl el sz n e,d,hl,h=>by
  simp only [Sn.low,aE] at hl
  simp only [vI] at h; simp only [Sn.sh,qI]
  rcases h with h | ⟨es,hd,hn,ha⟩
  ·exact .inl h
  exact .inr ⟨es,hd,lT hn (lB hl.1),fun x hx=>oP hl.2 (ha x hx)⟩
 | .any,d,hl,h=>by simp only [Sn.low] at hl; cases hl
theorem qAQ:∀ {ss:List Sn} {ds:List D},Sn.lows ss=true->vW ss ds->jJ 300000000 (Sn.shs ss) ds
 | [],ds,_,h=>by simp only [vW] at h; simp only [Sn.shs,jJ]; exact h
 | s::r,ds,hl,h=>by
  simp only [Sn.lows,aE] at hl
  simp only [vW] at h; simp only [Sn.shs,jJ]
  obtain ⟨d,r',hd,h1,h2⟩:=h
  exact ⟨d,r',hd,oP hl.1 h1,qAQ hl.2 h2⟩
end
section
variable {E:Env} {σ:Wd} {C:Cx}
theorem tN:∀ {fs:List Sn} {cs:List D},vW fs cs->cs.length=fs.length
 | [],cs,h=>by simp only [vW] at h; subst h; rfl
 | f::fs,cs,h=>by simp only [vW] at h; obtain ⟨d,r,rfl,_,h⟩:=h; simp [tN h]
def qIa:Sn->Nat
 | .st fs=>fs.length
 | _=>1
def qSy:Sn->Bool
 | .any=>false
 | _=>true
theorem qQF {s:Sn} {d:D} (hr:qSy s=true) (h:vI s d):d.cells.length=qIa s:=by
 cases s <;> first | (cases hr; done) | simp only [vI] at h
 ·obtain ⟨_,rfl⟩:=h; rfl
 ·obtain ⟨_,rfl⟩:=h; rfl
 ·obtain ⟨_,rfl,_⟩:=h; rfl
 ·obtain ⟨cs,rfl,h⟩:=h
  show cs.length=_
  simp only [qIa]
  exact tN h
 rcases h with rfl | ⟨es,rfl,_⟩ <;> rfl
theorem qGd {C:Cx} (hC:COk σ C) {e:Sn}:∀ {ys:List Y} {ds:List D},ys.all (fun y=>hU C y e)=true->qV σ ys ds->∀ x∈ds,vI e x
 | [],ds,_,h=>by simp only [qV] at h; subst h; intro x hx; cases hx
 | y::ys,ds,ha,h=>by
  simp only [qV] at h
  obtain ⟨d,r,rfl,h1,h2⟩:=h
  simp only [List.all_cons,aE] at ha
  intro x hx
  rcases List.mem_cons.1 hx with rfl | hx
  ·exact qEy hC ha.1 h1
  exact qGd hC ha.2 h2 x hx
def qTT (C:Cx) (el sz:Nat) (e:Sn) (ys:List Y):Option (Cx × Y) :=
 bif qSy e && ys.all (fun y=>hU C y e) && Nat.beq (qIa e) sz && Nat.ble (Nat.mul ys.length (Nat.succ sz)) 1000000 then
  some (C.add [(C.nx,0,ys.length),(0,C.nx,-(ys.length:Int))] [(C.nx,ys.length)] [] 1,.sl C.nx el sz ys.length e) else none
theorem qTS (hC:COk σ C) {el sz:Nat} {e:Sn} {ys:List Y} {ds:List D} {r:Cx × Y} (hd:qV σ ys ds) (h:qTT C el sz e ys=some r):gF E σ (.lit el sz) ds r:=by
 unfold qTT at h
 obtain ⟨hb,h⟩:=zW h
 cases h
 simp only [aE] at hb
 obtain ⟨⟨⟨h0,h1⟩,h2⟩,h3⟩:=hb
 have hl:=lI hd
 have hall:=qGd hC h1 hd
 have h2:=jF h2
 have hev:TOp.eval E (.lit el sz) ds=some (.sl el sz ds):=by
  rw [tY]
  refine lZ ?_
  rw [aE]
  refine ⟨List.all_eq_true.2 fun x hx=>?_,by rw [← hl]; exact h3⟩
  rw [qQF h0 (hall x hx),h2]; exact Nat.beq_refl _
 obtain ⟨z,hz⟩:=hC.s.z
 refine .list hC hev ?_ (f2 ⟨_,_,get_new hC _,z7 hz,?_⟩ ⟨_,_,z7 hz,get_new hC _,?_⟩)
 ·simp only [vI]
  exact .inr ⟨ds,rfl,by omega,hall⟩
 ·show ((ds.length:Nat):Int)<=0+(ys.length:Int); omega
 show (0:Int)<=((ds.length:Nat):Int) + -(ys.length:Int); omega
def qUF (C:Cx) (n v:Nat) (c:Int):Bool:=gZ C.F C.L 0 0 v c && gZ C.F C.L v (c+1) n 0
theorem qUE (hC:COk σ C) {n b v:Nat} {c:Int} {d i:D} (hd:qY σ (.str n b) d) (hi:qY σ (.int .i64 v c) i) (h:qUF C n v c=true) :
  gF E σ .chr [d,i] (C.add [(0,C.nx,0),(C.nx,0,255)] [] [] 1,.int .u8 C.nx 0):=by
 simp only [qY] at hd hi
 obtain ⟨s,x,rfl,h1,h2,_⟩:=hd
 obtain ⟨y,hy,rfl⟩:=hi
 unfold qUF at h
 rw [aE] at h
 obtain ⟨z,hz⟩:=hC.s.z
 have l1:=jD hC.s h.1 hz hy
 have l2:=jD hC.s h.2 hy h1
 simp only at l1
 obtain ⟨m,m0,m1,he⟩:=s6 (E:=E) (s:=s) (i:=y.1+c) (by omega) (by omega)
 exact .num hC he (f2 ⟨_,_,z7 hz,get_new hC _,by simp only; omega⟩ ⟨_,_,get_new hC _,z7 hz,by simp only; omega⟩)
end
end Go.Am.Tt
namespace Go.Am.Tt
open Go Go.Am
def Ls (el sz:Nat) (d:D):Prop:=d=.nil∨∃ es,d=.sl el sz es
theorem qBc {el sz b:Nat} {e:Sn} {d:D}:vI (.sl el sz b e) d↔Ls el sz d/\d.es.length<=b/\∀ x∈d.es,vI e x:=by
 constructor
 ·intro h
  simp only [vI] at h
  rcases h with rfl | ⟨es,rfl,hl,ha⟩
  ·exact ⟨.inl rfl,Nat.zero_le _,fun x hx=>by cases hx⟩
  exact ⟨.inr ⟨es,rfl⟩,hl,ha⟩
 rintro ⟨h,hl,ha⟩
 simp only [vI]
 rcases h with rfl | ⟨es,rfl⟩
 ·exact .inl rfl
 exact .inr ⟨es,rfl,hl,ha⟩
section
variable {E:Env} {σ:Wd} {C:Cx}
theorem qQQ {el sz bytes:Nat} {a b:D} (ha:Ls el sz a) (hb:Ls el sz b) (hbytes:bytes<=80) (hl:a.es.length+b.es.length<=300000000) :
  ∃ y,TOp.eval E (.app el sz bytes) [a,b]=some y/\Ls el sz y/\y.es=a.es++b.es:=by
 have hss:pY a=some a.es.length:=by
  rcases ha with rfl | ⟨es,rfl⟩ <;> rfl
 rw [tZ,hss]
 rcases hb with rfl | ⟨es,rfl⟩
 ·refine ⟨a,?_,ha,by simp [D.es]⟩
  have h1:Nat.ble (Nat.mul (Nat.add (Nat.mul 4 a.es.length) 4000) (Nat.succ bytes)) 100000000000=true:=eO (by have:(D.nil).es.length=0:=rfl; omega) hbytes
  have e0:∀ (b:Bool) (x:Option D),b=true->(bif b then x else none)=x:=fun b x hb=>by rw [hb]; rfl
  exact e0 _ _ h1
 have h1:Nat.ble (Nat.mul (Nat.add (Nat.mul 4 (Nat.add a.es.length es.length)) 4000) (Nat.succ bytes)) 100000000000=true:=eO hl hbytes
 have h2:Nat.beq sz sz=true:=Nat.beq_refl _
 have tt:∀ (b:Bool) (x y:Option D),b=true->(bif b then x else y)=x:=fun b x y hb=>by rw [hb]; rfl
 rcases ha with rfl | ⟨es',rfl⟩
 ·refine ⟨if es.length=0 then .nil else .sl el sz ([]++es),(tt _ _ _ (by rw [h1,h2]; rfl)).trans ?_,?_,?_⟩
  ·rw [zC]; split <;> rfl
  ·split
   ·exact .inl rfl
   exact .inr ⟨_,rfl⟩
  split
  ·rename_i h0
   have:=List.eq_nil_of_length_eq_zero h0
   subst this; rfl
  rfl
 refine ⟨if es.length=0 then .sl el sz es' else .sl el sz (es'++es),(tt _ _ _ (by rw [h1,h2]; show (true && true && (Nat.beq el el && Nat.beq sz sz))=true; rw [Nat.beq_refl,Nat.beq_refl]; rfl)).trans ?_,?_,?_⟩
 ·rw [zC]; split <;> rfl
 ·split
  ·exact .inr ⟨_,rfl⟩
  exact .inr ⟨_,rfl⟩
 split
 ·rename_i h0
  have:=List.eq_nil_of_length_eq_zero h0
  subst this
  show es'=es'++[]
  simp
 rfl
theorem qUN (hC:COk σ C) {el sz bytes n1 b1 n2 b2:Nat} {e:Sn} {a c:D} (ha:qY σ (.sl n1 el sz b1 e) a) (hc:qY σ (.sl n2 el sz b2 e) c) (hbytes:Nat.ble bytes 80=true)
  {m k m' k':Nat} (hm:gZ C.F C.L n1 0 0 m=true) (hk:gZ C.F C.L n2 0 0 k=true) (hm':gZ C.F C.L 0 m' n1 0=true) (hk':gZ C.F C.L 0 k' n2 0=true) (hmk:Nat.ble (m+k) 300000000=true) :
  gF E σ (.app el sz bytes) [a,c] (C.add [(n1,C.nx,-(k':Int)),(C.nx,n1,(k:Int)),(n2,C.nx,-(m':Int)),(C.nx,n2,(m:Int))] [(C.nx,m+k)] [] 1,.sl C.nx el sz (m+k) e):=by
 simp only [qY] at ha hc
 obtain ⟨ha0,ha1⟩:=ha
 obtain ⟨hc0,hc1⟩:=hc
 have l1:=sK hC ha0 hm
 have l2:=sK hC hc0 hk
 obtain ⟨z,hz⟩:=hC.s.z
 have l3:=jD hC.s hm' hz ha0
 have l4:=jD hC.s hk' hz hc0
 simp only at l1 l2 l3 l4
 have hmk:=lB hmk
 rw [qBc] at ha1 hc1
 obtain ⟨y,e1,e2,e3⟩:=qQQ (E:=E) ha1.1 hc1.1 (lB hbytes) (by omega)
 have hlen:y.es.length=a.es.length+c.es.length:=by rw [e3,List.length_append]
 refine .list hC e1 (qBc.2 ⟨e2,by omega,fun x hx=>?_⟩) ?_
 ·rw [e3] at hx
  rcases List.mem_append.1 hx with hx | hx
  ·exact ha1.2.2 x hx
  exact hc1.2.2 x hx
 intro q hq
 simp only [List.mem_cons,List.not_mem_nil,or_false] at hq
 rcases hq with rfl | rfl | rfl | rfl
 ·exact ⟨_,_,z7 ha0,get_new hC _,by simp only; omega⟩
 ·exact ⟨_,_,get_new hC _,z7 ha0,by simp only; omega⟩
 ·exact ⟨_,_,z7 hc0,get_new hC _,by simp only; omega⟩
 exact ⟨_,_,get_new hC _,z7 hc0,by simp only; omega⟩
theorem qWO (hC:COk σ C) {el sz n b v:Nat} {c:Int} {e:Sn} {l i:D} (hl:qY σ (.sl n el sz b e) l) (hi:qY σ (.int .i64 v c) i) (hb:Nat.ble b 300000000=true)
  (h0:gZ C.F C.L 0 0 v c=true) (h1:gZ C.F C.L v c n 0=true) :
  gF E σ (.slc el sz false true) [l,i] (C.add [(C.nx,v,c),(v,C.nx,-c)] [(C.nx,b)] [] 1,.sl C.nx el sz b e):=by
 simp only [qY] at hl hi
 obtain ⟨x,hx,rfl⟩:=hi
 obtain ⟨hl0,hl1⟩:=hl
 obtain ⟨z,hz⟩:=hC.s.z
 have l0:=jD hC.s h0 hz hx
 have l1:=jD hC.s h1 hx hl0
 simp only at l0 l1
 have hl2:=hl1
 simp only [vI] at hl2
 rcases hl2 with rfl | ⟨es,rfl,hlen,ha⟩
 ·have hz':(D.nil).es.length=0:=rfl
  rw [hz'] at l1 hl0
  have hj:x.1+c=0:=by omega
  refine .list hC (d:=.nil) ?_ hl1 (f2 ⟨_,_,get_new hC _,z7 hx,by simp only [hz']; omega⟩ ⟨_,_,z7 hx,get_new hC _,by simp only [hz']; omega⟩)
  show TOp.eval E (.slc el sz false true) [.nil,dI (x.1+c)]=_
  rw [hj]; rfl
 have he:(D.sl el sz es).es.length=es.length:=rfl
 rw [he] at l1 hl0
 have hev:TOp.eval E (.slc el sz false true) [.sl el sz es,dI (x.1+c)]=some (.sl el sz (es.take (x.1+c).toNat)):=by
  rw [tX]
  have hb0:jN false 0 [dI (x.1+c)]=some (0,[dI (x.1+c)]):=rfl
  have hb':jN true es.length [dI (x.1+c)]=some ((x.1+c).toNat,[]):=by simp only [jN,cond_true,oW (by omega:0<=x.1+c),Option.map_some]
  simp only [hb0,hb']
  refine (lZ ?_).trans ?_
  ·rw [Nat.beq_refl,Nat.beq_refl,bL (Nat.zero_le _),bL (by omega)]; rfl
  simp
 have hn:((es.take (x.1+c).toNat).length:Int)=x.1+c:=by rw [List.length_take]; omega
 have hn':((D.sl el sz (es.take (x.1+c).toNat)).es.length:Int)=x.1+c:=hn
 refine .list hC hev (by simp only [vI]; exact .inr ⟨_,rfl,by rw [List.length_take]; omega,fun y hy=>ha y (List.mem_of_mem_take hy)⟩) (f2 ⟨_,_,get_new hC _,z7 hx,by simp only [hn']; omega⟩ ⟨_,_,z7 hx,get_new hC _,by simp only [hn']; omega⟩)
end
end Go.Am.Tt
namespace Go.Am.Tt
open Go Go.Am
section
variable {E:Env} {σ:Wd} {C:Cx}
theorem qWH (hC:COk σ C) {el sz n b v:Nat} {c:Int} {e:Sn} {l i:D} (hl:qY σ (.sl n el sz b e) l) (hi:qY σ (.int .i64 v c) i)
  (h0:gZ C.F C.L 0 0 v c=true) (h1:gZ C.F C.L v c n 0=true) :
  gF E σ (.slc el sz true false) [l,i] (C.add [(C.nx,n,0)] [(C.nx,b)] [] 1,.sl C.nx el sz b e):=by
 simp only [qY] at hl hi
 obtain ⟨x,hx,rfl⟩:=hi
 obtain ⟨hl0,hl1⟩:=hl
 obtain ⟨z,hz⟩:=hC.s.z
 have l0:=jD hC.s h0 hz hx
 have l1:=jD hC.s h1 hx hl0
 simp only at l0 l1
 have hl2:=hl1
 simp only [vI] at hl2
 rcases hl2 with rfl | ⟨es,rfl,hlen,ha⟩
 ·have hz':(D.nil).es.length=0:=rfl
  rw [hz'] at l1 hl0
  have hj:x.1+c=0:=by omega
  refine .list hC (d:=.nil) ?_ hl1 (f1 (get_new hC _) (z7 hl0) (by simp only [hz']; omega))
  show TOp.eval E (.slc el sz true false) [.nil,dI (x.1+c)]=_
  rw [hj]; rfl
 have he:(D.sl el sz es).es.length=es.length:=rfl
 rw [he] at l1 hl0
 have hev:TOp.eval E (.slc el sz true false) [.sl el sz es,dI (x.1+c)]=some (.sl el sz (es.drop (x.1+c).toNat)):=by
  rw [tX]
  have hb0:jN true 0 [dI (x.1+c)]=some ((x.1+c).toNat,[]):=by simp only [jN,cond_true,oW (by omega:0<=x.1+c),Option.map_some]
  have hb':jN false es.length ([]:List D)=some (es.length,[]):=rfl
  simp only [hb0,hb']
  refine (lZ ?_).trans ?_
  ·rw [Nat.beq_refl,Nat.beq_refl,bL (by omega),bL (lR _)]; rfl
  rw [List.take_of_length_le (by rw [List.length_drop]; omega)]
 have hn':(D.sl el sz (es.drop (x.1+c).toNat)).es.length=es.length - (x.1+c).toNat:=List.length_drop
 exact .list hC hev (by simp only [vI]; exact .inr ⟨_,rfl,by rw [List.length_drop]; omega,fun y hy=>ha y (List.mem_of_mem_drop hy)⟩) (f1 (get_new hC _) (z7 hl0) (by simp only [hn']; omega))
theorem gF.text (hC:COk σ C) {o:TOp} {ds:List D} {s:ByteArray} {b:Nat} (he:TOp.eval E o ds=some (.leaf (.string s))) (hs:s.size<=b) {F:List jI}
  (hF:∀ q∈F,sG (σ++[((s.size:Int),D.nil)]) q):gF E σ o ds (C.add F [(C.nx,b)] [] 1,.str C.nx b):=by
 refine ⟨_,[((s.size:Int),.nil)],he,hC.ext hF (fun q hq=>?_) (by simp) rfl,?_⟩
 ·rw [List.mem_singleton] at hq; subst hq
  exact ⟨_,get_new hC _,by simp,by simp; omega⟩
 simp only [qY]
 exact ⟨s,_,rfl,get_new hC _,rfl,hs⟩
theorem qOR (hC:COk σ C) {n b v w:Nat} {c e:Int} {d i j:D} (hd:qY σ (.str n b) d) (hi:qY σ (.int .i64 v c) i) (hj:qY σ (.int .i64 w e) j)
  (h0:gZ C.F C.L 0 0 v c=true) (h1:gZ C.F C.L v c w e=true) (h2:gZ C.F C.L w e n 0=true) :
  gF E σ (.sub true true) [d,i,j] (C.add [] [(C.nx,b)] [] 1,.str C.nx b):=by
 simp only [qY] at hd hi hj
 obtain ⟨s,y,rfl,hy,hs,hb⟩:=hd
 obtain ⟨x,hx,rfl⟩:=hi
 obtain ⟨u,hu,rfl⟩:=hj
 obtain ⟨z,hz⟩:=hC.s.z
 have l0:=jD hC.s h0 hz hx
 have l1:=jD hC.s h1 hx hu
 have l2:=jD hC.s h2 hu hy
 simp only at l0
 obtain ⟨t,ht,he⟩:=qA0 (E:=E) (B:=b) (s:=s) (i:=x.1+c) (j:=u.1+e) (by omega) (by omega) (by omega) hb
 exact .text hC he ht (by simp)
theorem qQI (hC:COk σ C) {n el b:Nat} {d:D} (hd:qY σ (.sl n el 1 b (.int .u8)) d) (h1:gZ C.F C.L 0 1 n 0=true) :
  gF E σ .bstr [d] (C.add [] [(C.nx,b)] [] 1,.str C.nx b):=by
 simp only [qY] at hd
 obtain ⟨hd0,hd1⟩:=hd
 obtain ⟨z,hz⟩:=hC.s.z
 have l1:=jD hC.s h1 hz hd0
 simp only at l1
 have hB:qI b (.sl el 1 (.int .u8)) d:=by
  simp only [vI] at hd1
  simp only [qI]
  exact hd1
 have hn:∃ es,d=.sl el 1 es:=by
  simp only [vI] at hd1
  rcases hd1 with rfl | ⟨es,rfl,_⟩
  ·have:(D.nil).es.length=0:=rfl
   omega
  exact ⟨es,rfl⟩
 obtain ⟨t,ht,he⟩:=qOE (E:=E) hB hn
 exact .text hC he ht (by simp)
end
end Go.Am.Tt
namespace Go.Am.Tt
open Go Go.Am
section
variable {E:Env} {σ:Wd} {C:Cx}
def qIq (e:Sn) (z:D):Bool:=match e,z with
 | .bool,.leaf (.bool _)=>true
 | .int k,.leaf (.int k' _)=>decide (k=k')
 | _,_=>false
theorem qLp {e:Sn} {z:D} (h:qIq e z=true):vI e z:=by
 unfold qIq at h
 split at h
 ·simp only [vI]; exact ⟨_,rfl⟩
 ·rw [decide_eq_true_eq] at h; subst h; simp only [vI]; exact ⟨_,rfl⟩
 cases h
theorem qWC (hC:COk σ C) {el sz bytes v b:Nat} {ag:Bool} {zs:List Value} {c:Int} {e:Sn} {i:D} (hi:qY σ (.int .i64 v c) i)
  (h0:gZ C.F C.L 0 0 v c=true) (h1:gZ C.F C.L v c 0 b=true) (hb:Nat.ble b 300000000=true)
  (hz:(Nat.beq zs.length sz && zs.all (fun v=>zP v && qQ v) && (ag || Nat.beq sz 1))=true) (hs:Nat.ble (bytes+sz) 2=true) (he:qIq e (zD ag zs)=true) :
  gF E σ (.mk el sz bytes ag zs) [i] (C.add [(C.nx,v,c),(v,C.nx,-c)] [(C.nx,b)] [] 1,.sl C.nx el sz b e):=by
 simp only [qY] at hi
 obtain ⟨x,hx,rfl⟩:=hi
 obtain ⟨z,hz0⟩:=hC.s.z
 have l0:=jD hC.s h0 hz0 hx
 have l1:=jD hC.s h1 hx hz0
 simp only at l0 l1
 have hbb:=lB hb
 have hev:TOp.eval E (.mk el sz bytes ag zs) [dI (x.1+c)]=some (.sl el sz (List.replicate (x.1+c).toNat (zD ag zs))):=by
  rw [qNI,oW (by omega)]
  have hle:(x.1+c).toNat * (bytes+sz+1)<=1000000000:=by
   have:(x.1+c).toNat * (bytes+sz+1)<=300000000 * 3:=Nat.mul_le_mul (by omega) (by have:=lB hs; omega)
   omega
  exact lZ (by rw [hz]; exact bL hle)
 have hn:((D.sl el sz (List.replicate (x.1+c).toNat (zD ag zs))).es.length:Int)=x.1+c:=by
  show ((List.replicate (x.1+c).toNat (zD ag zs)).length:Int)=_
  rw [List.length_replicate]; omega
 refine .list hC hev ?_ (f2 ⟨_,_,get_new hC _,z7 hx,by simp only [hn]; omega⟩ ⟨_,_,z7 hx,get_new hC _,by simp only [hn]; omega⟩)
 simp only [vI]
 exact .inr ⟨_,rfl,by rw [List.length_replicate]; omega,fun y hy=>by rw [List.eq_of_mem_replicate hy]; exact qLp he⟩
theorem qJY (hC:COk σ C) {ty:TypeId} {a b:Operand} {op:BinOp} (hop:op=.eql∨op=.neq) {n b1 m b2:Nat} {d d':D} (hd:qY σ (.str n b1) d) (hd':qY σ (.str m b2) d') :
  gF E σ (.bin op ty a b) [d,d'] (C,.bool [] []):=by
 simp only [qY] at hd hd'
 obtain ⟨s,_,rfl,_⟩:=hd
 obtain ⟨t,_,rfl,_⟩:=hd'
 have fin:∀ r:Bool,qY σ (.bool [] []) (dB r):=by
  intro r; simp only [qY]; exact ⟨r,rfl,fun _ q hq=>(by cases hq),fun _ q hq=>(by cases hq)⟩
 rcases hop with rfl | rfl
 ·exact .same hC dZ (fin _)
 exact .same hC pZ (fin _)
theorem qL6 (hC:COk σ C) {ty:TypeId} {a b:Operand} {op:BinOp} (hop:op=.neq∨op=.eql) {ss:List Sn} {cs cs':List Y} {d d':D} {k:Nat} {sh:List Sh}
  (hd:qY σ (.st cs) d) (hd':qY σ (.st cs') d') (h1:cD C cs ss=true) (h2:cD C cs' ss=true) (hl:Sn.lows ss=true)
  (ht:nO E.prog k ty=some sh) (hsh:sh=Sn.shs ss) (hst:oO E.prog ty=true) (hk:k<=10000) (hg:E.prog.eqGuardType E.prog.depth ty=false) (hf:(Sn.shs ss).all qDB=true) :
  gF E σ (.bin op ty a b) [d,d'] (C,.bool [] []):=by
 subst hsh
 simp only [qY] at hd hd'
 obtain ⟨as,rfl,ha⟩:=hd
 obtain ⟨bs,rfl,hb⟩:=hd'
 refine .same hC (nV op hop ht hst hk hg hf (aT (qAQ hl (nC hC h1 ha))) (aT (qAQ hl (nC hC h2 hb)))) ?_
 simp only [qY]
 exact ⟨_,rfl,fun _ q hq=>(by cases hq),fun _ q hq=>(by cases hq)⟩
end
end Go.Am.Tt
namespace Go.Am.Tt
open Go Go.Am
section
variable {E:Env} {σ:Wd} {C:Cx}
theorem gF.after {τ:Wd} {o:TOp} {ds:List D} {r:Cx × Y} (h:gF E (σ++τ) o ds r):gF E σ o ds r:=by
 obtain ⟨d,τ',h1,h2,h3⟩:=h
 exact ⟨d,τ++τ',h1,by rw [← List.append_assoc]; exact h2,by rw [← List.append_assoc]; exact h3⟩
def qXX (C:Cx) (n:Nat):Nat :=
 let acc:=qH8 C.F 4 [(n,0)]
 C.L.foldl (fun m p=>match b9 acc p.1 with | some d=>Nat.min m (d+p.2).toNat | none=>m) (match b9 acc 0 with | some d=>d.toNat | none=>300000001)
def aO (C:Cx) (n:Nat):Nat:=C.F.foldl (fun m q=>bif Nat.beq q.1 0 && Nat.beq q.2.1 n then Nat.max m (-q.2.2).toNat else m) 0
def qOd (C:Cx) (el sz bytes:Nat) (n1 el1 sz1:Nat) (e1:Sn) (n2 el2 sz2:Nat) (e2:Sn):Option (Cx × Y) :=
 let m:=qXX C n1
 let k:=qXX C n2
 let m':=aO C n1
 let k':=aO C n2
 bif Nat.beq el1 el && Nat.beq sz1 sz && Nat.beq el2 el && Nat.beq sz2 sz && e2.fits e1 && Nat.ble bytes 80 && gZ C.F C.L n1 0 0 m && gZ C.F C.L n2 0 0 k && gZ C.F C.L 0 m' n1 0 && gZ C.F C.L 0 k' n2 0 && Nat.ble (m+k) 300000000 then
  some (C.add [(n1,C.nx,-(k':Int)),(C.nx,n1,(k:Int)),(n2,C.nx,-(m':Int)),(C.nx,n2,(m:Int))] [(C.nx,m+k)] [] 1,.sl C.nx el sz (m+k) e1) else none
theorem qET (hC:COk σ C) {el sz bytes n1 el1 sz1 b1 n2 el2 sz2 b2:Nat} {e1 e2:Sn} {a c:D} {r:Cx × Y} (ha:qY σ (.sl n1 el1 sz1 b1 e1) a) (hc:qY σ (.sl n2 el2 sz2 b2 e2) c)
  (h:qOd C el sz bytes n1 el1 sz1 e1 n2 el2 sz2 e2=some r):gF E σ (.app el sz bytes) [a,c] r:=by
 unfold qOd at h
 obtain ⟨hb,h⟩:=zW h
 cases h
 simp only [aE] at hb
 obtain ⟨⟨⟨⟨⟨⟨⟨⟨⟨⟨a1,a2⟩,a3⟩,a4⟩,a5⟩,a6⟩,a7⟩,a8⟩,a9⟩,a10⟩,a11⟩:=hb
 have a1:=jF a1
 have a2:=jF a2
 have a3:=jF a3
 have a4:=jF a4
 subst a1 a2 a3 a4
 have hc':qY σ (.sl n2 el2 sz2 b2 e1) c:=by
  simp only [qY] at hc ⊢
  refine ⟨hc.1,?_⟩
  have:=qBc.1 hc.2
  exact qBc.2 ⟨this.1,this.2.1,fun x hx=>gT a5 (this.2.2 x hx)⟩
 exact qUN hC ha hc' a6 a7 a8 a9 a10 a11
def qTM (C:Cx):Cx:=C.add [(C.nx,0,0)] [(C.nx,0)] [] 1
theorem qMP (hC:COk σ C) (el sz:Nat) (e:Sn):COk (σ++[(0,D.nil)]) (qTM C)/\qY (σ++[(0,D.nil)]) (.sl C.nx el sz 0 e) .nil:=by
 obtain ⟨z,hz⟩:=hC.s.z
 refine ⟨hC.ext (f1 (get_new hC _) (z7 hz) (by simp)) (fun q hq=>?_) (by simp) rfl,?_⟩
 ·rw [List.mem_singleton] at hq; subst hq
  exact ⟨_,get_new hC _,by simp,by simp⟩
 simp only [qY]
 exact ⟨get_new hC _,qBc.2 ⟨.inl rfl,Nat.zero_le _,fun x hx=>by cases hx⟩⟩
def qUO (C:Cx) (el sz bytes:Nat):Y->Y->Option (Cx × Y)
 | .sl n1 el1 sz1 _ e1,.sl n2 el2 sz2 _ e2=>qOd C el sz bytes n1 el1 sz1 e1 n2 el2 sz2 e2
 | .nil,.sl n2 el2 sz2 _ e2=>qOd (qTM C) el sz bytes C.nx el sz e2 n2 el2 sz2 e2
 | .sl n1 el1 sz1 _ e1,.nil=>qOd (qTM C) el sz bytes n1 el1 sz1 e1 C.nx el sz e1
 | _,_=>none
theorem qQR (hC:COk σ C) {el sz bytes:Nat} {y1 y2:Y} {a c:D} {r:Cx × Y} (ha:qY σ y1 a) (hc:qY σ y2 c) (h:qUO C el sz bytes y1 y2=some r):gF E σ (.app el sz bytes) [a,c] r:=by
 unfold qUO at h
 split at h
 ·exact qET hC ha hc h
 ·rename_i n2 el2 sz2 b2 e2
  have ha':a=.nil:=by simpa only [qY] using ha
  subst ha'
  obtain ⟨h1,h2⟩:=qMP hC el sz e2
  exact .after (qET h1 h2 (rX hc) h)
 ·rename_i n1 el1 sz1 b1 e1
  have hc':c=.nil:=by simpa only [qY] using hc
  subst hc'
  obtain ⟨h1,h2⟩:=qMP hC el sz e1
  exact .after (qET h1 (rX ha) h2 h)
 cases h
end
end Go.Am.Tt
namespace Go.Am.Tt
open Go Go.Am
section
variable {E:Env} {σ:Wd} {C:Cx}
abbrev Rs:=Option (Cx × Y)
def qTW (C:Cx) (str:Bool):List Y->Rs
 | [.sl n _ _ _ _]=>bif str then none else some (C,.int .i64 n 0)
 | [.nil]=>bif str then none else some (C,.int .i64 0 0)
 | [.str n _]=>bif str then some (C,.int .i64 n 0) else none
 | _=>none
theorem qPI (hC:COk σ C) {str:Bool} {ys:List Y} {ds:List D} {r:Cx × Y} (hd:qV σ ys ds) (h:qTW C str ys=some r):gF E σ (.len str) ds r:=by
 unfold qTW at h
 split at h
 ·simp only [qV] at hd
  obtain ⟨d,_,rfl,h1,rfl⟩:=hd
  cases str with
  | true=>cases h
  | false=>cases h; exact qTV hC h1
 ·simp only [qV,qY] at hd
  obtain ⟨d,_,rfl,rfl,rfl⟩:=hd
  cases str with
  | true=>cases h
  | false=>cases h; exact qPH hC
 ·simp only [qV] at hd
  obtain ⟨d,_,rfl,h1,rfl⟩:=hd
  cases str with
  | true=>cases h; exact qPG hC h1
  | false=>cases h
 cases h
def qYv (C:Cx):List Y->Rs
 | [.sl n _ _ _ e,.int .i64 v c]=>qPT C n e v c
 | _=>none
theorem qT1 (hC:COk σ C) {ys:List Y} {ds:List D} {r:Cx × Y} (hd:qV σ ys ds) (h:qYv C ys=some r):gF E σ .inr ds r:=by
 unfold qYv at h
 split at h
 ·simp only [qV] at hd
  obtain ⟨d,_,rfl,h1,i,_,rfl,h2,rfl⟩:=hd
  exact qNb hC h1 h2 h
 cases h
def qYO (C:Cx) (sz:Nat) (ag:Bool) (size off:Nat):List Y->Rs
 | [.sl n _ sz' b _,.int .i64 v c]=>bif Nat.ble b 300000000 && Nat.beq sz' sz then (qNO C n v c sz ag size off).map (fun y=>(C,y)) else none
 | _=>none
theorem qUx (hC:COk σ C) {sz size off:Nat} {ag:Bool} {ys:List Y} {ds:List D} {r:Cx × Y} (hd:qV σ ys ds) (h:qYO C sz ag size off ys=some r):gF E σ (.elem sz ag size off) ds r:=by
 unfold qYO at h
 split at h
 ·simp only [qV] at hd
  obtain ⟨d,_,rfl,h1,i,_,rfl,h2,rfl⟩:=hd
  obtain ⟨hb,h⟩:=zW h
  rw [aE] at hb
  obtain ⟨y,hy,rfl⟩:=Option.map_eq_some_iff.1 h
  exact qAS hC h1 h2 hb.1 hb.2 hy
 cases h
def qTo (C:Cx) (ag:Bool) (n:Nat):List Y->Rs
 | [.st cs]=>bif ag && Nat.beq cs.length n then some (C,.st cs) else none
 | [y]=>bif !ag && Nat.beq n 1 && qFF y then some (C,y) else none
 | _=>none
theorem qOS (hC:COk σ C) {n:Nat} {ag:Bool} {ys:List Y} {ds:List D} {r:Cx × Y} (hd:qV σ ys ds) (h:qTo C ag n ys=some r):gF E σ (.chk ag n) ds r:=by
 unfold qTo at h
 split at h
 ·simp only [qV] at hd
  obtain ⟨d,_,rfl,h1,rfl⟩:=hd
  obtain ⟨hb,h⟩:=zW h
  cases h
  rw [aE] at hb
  obtain ⟨rfl,hb⟩:=hb
  exact qQD hC h1 hb
 ·simp only [qV] at hd
  obtain ⟨d,_,rfl,h1,rfl⟩:=hd
  obtain ⟨hb,h⟩:=zW h
  cases h
  simp only [aE] at hb
  obtain ⟨⟨a,b⟩,c⟩:=hb
  have b:=jF b
  subst b
  cases ag with
  | true=>cases a
  | false=>exact qQE hC h1 c
 cases h
end
end Go.Am.Tt
namespace Go.Am.Tt
open Go Go.Am
section
variable {E:Env} {σ:Wd} {C:Cx}
def qT9 (C:Cx) (ag:Bool) (size off:Nat):List Y->Rs
 | [.st cs]=>(qMt ag size off cs).map fun y=>(C,y)
 | _=>none
theorem qP3 (hC:COk σ C) {size off:Nat} {ag:Bool} {ys:List Y} {ds:List D} {r:Cx × Y} (hd:qV σ ys ds) (h:qT9 C ag size off ys=some r):gF E σ (.fld ag size off) ds r:=by
 unfold qT9 at h
 split at h
 ·simp only [qV] at hd
  obtain ⟨d,_,rfl,h1,rfl⟩:=hd
  obtain ⟨y,hy,rfl⟩:=Option.map_eq_some_iff.1 h
  exact qT8 hC h1 hy
 cases h
def qUl (C:Cx) (i:Nat):List Y->Rs
 | [.tup cs]=>(cs[i]?).map fun y=>(C,y)
 | _=>none
theorem qQk (hC:COk σ C) {i:Nat} {ys:List Y} {ds:List D} {r:Cx × Y} (hd:qV σ ys ds) (h:qUl C i ys=some r):gF E σ (.ext i) ds r:=by
 unfold qUl at h
 split at h
 ·simp only [qV] at hd
  obtain ⟨d,_,rfl,h1,rfl⟩:=hd
  obtain ⟨y,hy,rfl⟩:=Option.map_eq_some_iff.1 h
  exact qUk hC h1 hy
 cases h
def qTK (C:Cx):List Y->Rs
 | [.bool t f]=>some (C,.bool f t)
 | _=>none
theorem qPu (hC:COk σ C) {ty:TypeId} {ys:List Y} {ds:List D} {r:Cx × Y} (hd:qV σ ys ds) (h:qTK C ys=some r):gF E σ (.un .not ty) ds r:=by
 unfold qTK at h
 split at h
 ·simp only [qV] at hd
  obtain ⟨d,_,rfl,h1,rfl⟩:=hd
  cases h
  exact qTJ hC h1
 cases h
def qY3 (C:Cx):List Y->Rs
 | [.str n _,.int .i64 v c]=>bif qUF C n v c then some (C.add [(0,C.nx,0),(C.nx,0,255)] [] [] 1,.int .u8 C.nx 0) else none
 | _=>none
theorem qUG (hC:COk σ C) {ys:List Y} {ds:List D} {r:Cx × Y} (hd:qV σ ys ds) (h:qY3 C ys=some r):gF E σ .chr ds r:=by
 unfold qY3 at h
 split at h
 ·simp only [qV] at hd
  obtain ⟨d,_,rfl,h1,i,_,rfl,h2,rfl⟩:=hd
  obtain ⟨hb,h⟩:=zW h
  cases h
  exact qUE hC h1 h2 hb
 cases h
def qYj (C:Cx) (el sz:Nat) (lo hi:Bool):List Y->Rs
 | [.sl n jA sz' b e,.int .i64 v c] =>
  bif Nat.beq jA el && Nat.beq sz' sz && Nat.ble b 300000000 && gZ C.F C.L 0 0 v c && gZ C.F C.L v c n 0 then
   (match lo,hi with
   | false,true=>some (C.add [(C.nx,v,c),(v,C.nx,-c)] [(C.nx,b)] [] 1,.sl C.nx el sz b e)
   | true,false=>some (C.add [(C.nx,n,0)] [(C.nx,b)] [] 1,.sl C.nx el sz b e)
   | _,_=>none) else none
 | _=>none
theorem qTr (hC:COk σ C) {el sz:Nat} {lo hi:Bool} {ys:List Y} {ds:List D} {r:Cx × Y} (hd:qV σ ys ds) (h:qYj C el sz lo hi ys=some r):gF E σ (.slc el sz lo hi) ds r:=by
 unfold qYj at h
 split at h
 ·simp only [qV] at hd
  obtain ⟨d,_,rfl,h1,i,_,rfl,h2,rfl⟩:=hd
  obtain ⟨hb,h⟩:=zW h
  simp only [aE] at hb
  obtain ⟨⟨⟨⟨a1,a2⟩,a3⟩,a4⟩,a5⟩:=hb
  have a1:=jF a1
  have a2:=jF a2
  subst a1 a2
  split at h
  ·cases h; exact qWO hC h1 h2 a3 a4 a5
  ·cases h; exact qWH hC h1 h2 a4 a5
  cases h
 cases h
def qYh (C:Cx) (lo hi:Bool):List Y->Rs
 | [.str n b,.int .i64 v c,.int .i64 w e]=>bif lo && hi && gZ C.F C.L 0 0 v c && gZ C.F C.L v c w e && gZ C.F C.L w e n 0 then some (C.add [] [(C.nx,b)] [] 1,.str C.nx b) else none
 | _=>none
theorem qTn (hC:COk σ C) {lo hi:Bool} {ys:List Y} {ds:List D} {r:Cx × Y} (hd:qV σ ys ds) (h:qYh C lo hi ys=some r):gF E σ (.sub lo hi) ds r:=by
 unfold qYh at h
 split at h
 ·simp only [qV] at hd
  obtain ⟨d,_,rfl,h1,i,_,rfl,h2,j,_,rfl,h3,rfl⟩:=hd
  obtain ⟨hb,h⟩:=zW h
  cases h
  simp only [aE] at hb
  obtain ⟨⟨⟨⟨rfl,rfl⟩,a3⟩,a4⟩,a5⟩:=hb
  exact qOR hC h1 h2 h3 a3 a4 a5
 cases h
def qYq (C:Cx):List Y->Rs
 | [.int .i64 _ _,.int .i64 _ _]=>some (C.add [] [] [] 1,.int .i64 C.nx 0)
 | _=>none
theorem qTQ (hC:COk σ C) {m:Bool} {ys:List Y} {ds:List D} {r:Cx × Y} (hd:qV σ ys ds) (h:qYq C ys=some r):gF E σ (.mm m) ds r:=by
 unfold qYq at h
 split at h
 ·simp only [qV] at hd
  obtain ⟨d,_,rfl,h1,i,_,rfl,h2,rfl⟩:=hd
  cases h
  exact qWy hC h1 h2
 cases h
end
end Go.Am.Tt
namespace Go.Am.Tt
open Go Go.Am
section
variable {E:Env} {σ:Wd} {C:Cx}
def qY5 (C:Cx):List Y->Rs
 | [.sl n _ sz b (.int .u8)]=>bif Nat.beq sz 1 && gZ C.F C.L 0 1 n 0 then some (C.add [] [(C.nx,b)] [] 1,.str C.nx b) else none
 | _=>none
theorem qUJ (hC:COk σ C) {ys:List Y} {ds:List D} {r:Cx × Y} (hd:qV σ ys ds) (h:qY5 C ys=some r):gF E σ .bstr ds r:=by
 unfold qY5 at h
 split at h
 ·simp only [qV] at hd
  obtain ⟨d,_,rfl,h1,rfl⟩:=hd
  obtain ⟨hb,h⟩:=zW h
  cases h
  rw [aE] at hb
  have:=jF hb.1
  subst this
  exact qQI hC h1 hb.2
 cases h
def qPR:BinOp->Bool
 | .eql | .neq=>true
 | _=>false
theorem qI8 {op:BinOp} (h:qPR op=true):op=.neq∨op=.eql:=by
 cases op <;> simp only [qPR] at h <;> first | (cases h; done) | exact .inl rfl | exact .inr rfl
def qWw (C:Cx) (op:BinOp) (v:Nat) (c:Int) (w:Nat) (e:Int):Rs:=match op with
 | .add=>some (qUU C v c w e)
 | .sub=>some (qTl C v c w e)
 | .mul=>some (C.add [] [] [] 1,.int .i64 C.nx 0)
 | _=>none
def qUL (C:Cx) (op:BinOp):List Y->Rs
 | [.int k v c,.int k' w e]=>bif decide (k=k') then (match qUD op C v c w e with
  | some (t,f)=>some (C,.bool t f)
  | none=>bif decide (k=.i64) then qWw C op v c w e else none) else none
 | [.str _ _,.str _ _]=>bif qPR op then some (C,.bool [] []) else none
 | _=>none
theorem qQO (hC:COk σ C) {op:BinOp} {ty:TypeId} {a b:Operand} {ys:List Y} {ds:List D} {r:Cx × Y} (hd:qV σ ys ds) (h:qUL C op ys=some r):gF E σ (.bin op ty a b) ds r:=by
 unfold qUL at h
 split at h
 ·simp only [qV] at hd
  obtain ⟨d,_,rfl,h1,i,_,rfl,h2,rfl⟩:=hd
  obtain ⟨hk,h'⟩:=zW h
  clear h
  have hk':=dT hk
  clear hk
  subst hk'
  split at h'
  ·rename_i t f hc
   cases h'
   simp only [qY] at h1 h2
   obtain ⟨x,hx,rfl⟩:=h1
   obtain ⟨y,hy,rfl⟩:=h2
   exact qUC hC hc hx hy
  obtain ⟨hk,h⟩:=zW h'
  clear h'
  have hk':=dT hk
  clear hk
  subst hk'
  unfold qWw at h
  split at h
  ·cases h; exact qUT hC h1 h2
  ·cases h; exact qTj hC h1 h2
  ·cases h; exact qTO hC h1 h2
  cases h
 ·simp only [qV] at hd
  obtain ⟨d,_,rfl,h1,i,_,rfl,h2,rfl⟩:=hd
  obtain ⟨hk,h⟩:=zW h
  cases h
  exact qJY hC (qI8 hk).symm h1 h2
 cases h
end
end Go.Am.Tt
namespace Go.Am.Tt
open Go Go.Am
section
variable {E:Env} {σ:Wd} {C:Cx}
structure Tb where
 sh:Nat->Option Sn
 oth:TOp->List Y->Option IntKind
 st:TypeId->Option (Nat × List Sn)
structure TbOk (E:Env) (T:Tb):Prop where
 o:∀ {o ys k},T.oth o ys=some k->∀ {σ C ds},COk σ C->qV σ ys ds->∃ n,TOp.eval E o ds=some (.leaf (.int k n))
 s:∀ {t k ss},T.st t=some (k,ss)->nO E.prog k t=some (Sn.shs ss)/\oO E.prog t=true/\k<=10000/\E.prog.eqGuardType E.prog.depth t=false/\(Sn.shs ss).all qDB=true/\Sn.lows ss=true
def qPg (T:Tb) (C:Cx) (o:TOp) (ys:List Y):Rs:=match T.oth o ys with
 | some k=>some (C.add [] [] [] 1,.int k C.nx 0)
 | none=>none
theorem qIS {T:Tb} (hT:TbOk E T) (hC:COk σ C) {o:TOp} {ys:List Y} {ds:List D} {r:Cx × Y} (hd:qV σ ys ds) (h:qPg T C o ys=some r):gF E σ o ds r:=by
 unfold qPg at h
 split at h
 ·rename_i k hk
  cases h
  obtain ⟨n,hn⟩:=hT.o hk hC hd
  exact .num hC hn (by simp)
 cases h
def qYi (T:Tb) (C:Cx) (op:BinOp) (ty:TypeId):List Y->Rs
 | [.st cs,.st cs']=>match T.st ty with
  | some (_,ss)=>bif qPR op && cD C cs ss && cD C cs' ss then some (C,.bool [] []) else none
  | none=>none
 | _=>none
theorem qTp {T:Tb} (hT:TbOk E T) (hC:COk σ C) {op:BinOp} {ty:TypeId} {a b:Operand} {ys:List Y} {ds:List D} {r:Cx × Y} (hd:qV σ ys ds) (h:qYi T C op ty ys=some r):gF E σ (.bin op ty a b) ds r:=by
 unfold qYi at h
 split at h
 ·simp only [qV] at hd
  obtain ⟨d,_,rfl,h1,i,_,rfl,h2,rfl⟩:=hd
  split at h
  ·rename_i k ss hs
   obtain ⟨hb,h⟩:=zW h
   cases h
   simp only [aE] at hb
   obtain ⟨q1,q2,q3,q4,q5,q6⟩:=hT.s hs
   exact qL6 hC (qI8 hb.1.1) h1 h2 hb.1.2 hb.2 q6 q1 rfl q2 q3 q4 q5
  cases h
 cases h
end
end Go.Am.Tt
namespace Go.Am.Tt
open Go Go.Am
section
variable {E:Env} {σ:Wd} {C:Cx}
def qZh (C:Cx) (el sz bytes:Nat) (ag:Bool) (zs:List Value) (e:Sn) (v:Nat) (c:Int) (b:Nat):Rs :=
 bif gZ C.F C.L 0 0 v c && gZ C.F C.L v c 0 b && Nat.ble b 300000000 && (Nat.beq zs.length sz && zs.all (fun v=>zP v && qQ v) && (ag || Nat.beq sz 1)) && Nat.ble (bytes+sz) 2 && qIq e (zD ag zs) then
  some (C.add [(C.nx,v,c),(v,C.nx,-c)] [(C.nx,b)] [] 1,.sl C.nx el sz b e) else none
def qYr (T:Tb) (C:Cx) (el sz bytes:Nat) (ag:Bool) (zs:List Value):List Y->Rs
 | [.int .i64 v c]=>(match T.sh el with
  | some e=>qZh C el sz bytes ag zs e v c ((qXX C v:Int)+c).toNat
  | none=>none)
 | _=>none
theorem qTR (hC:COk σ C) {T:Tb} {el sz bytes:Nat} {ag:Bool} {zs:List Value} {ys:List Y} {ds:List D} {r:Cx × Y} (hd:qV σ ys ds) (h:qYr T C el sz bytes ag zs ys=some r):gF E σ (.mk el sz bytes ag zs) ds r:=by
 unfold qYr at h
 split at h
 ·simp only [qV] at hd
  obtain ⟨d,_,rfl,h1,rfl⟩:=hd
  split at h
  ·unfold qZh at h
   obtain ⟨hb,h⟩:=zW h
   cases h
   simp only [aE] at hb
   obtain ⟨⟨⟨⟨⟨q1,q2⟩,q3⟩,q4⟩,q5⟩,q6⟩:=hb
   exact qWC hC h1 q1 q2 q3 (by simp only [aE]; exact q4) q5 q6
  cases h
 cases h
def qPq:Sn->Bool
 | .st _=>false
 | .any=>false
 | _=>true
theorem qIW {e:Sn} (h:qPq e=true) {d:D} (hd:vI e d):d.one=true:=by
 cases e <;> simp only [qPq] at h <;> first | (cases h; done) | simp only [vI] at hd
 ·obtain ⟨_,rfl⟩:=hd; rfl
 ·obtain ⟨_,rfl⟩:=hd; rfl
 ·obtain ⟨_,rfl,_⟩:=hd; rfl
 rcases hd with rfl | ⟨_,rfl,_⟩ <;> rfl
theorem qTt (hC:COk σ C) {n el b v:Nat} {c:Int} {e:Sn} {l i x:D} {y:Y} (hl:qY σ (.sl n el 1 b e) l) (hi:qY σ (.int .i64 v c) i) (hx:qY σ y x)
  (hf:hU C y e=true) (ho:qPq e=true) (h0:gZ C.F C.L 0 0 v c=true) (h1:gZ C.F C.L v (c+1) n 0=true) :
  gF E σ (.set 1 false 1 0) [l,i,x] (C.add [(C.nx,n,0),(n,C.nx,0)] [(C.nx,b)] [] 1,.sl C.nx el 1 b e):=by
 have hxN:=qEy hC hf hx
 simp only [qY] at hl hi
 obtain ⟨k,hk,rfl⟩:=hi
 obtain ⟨z,hz0⟩:=hC.s.z
 obtain ⟨hln,hl⟩:=hl
 have l0:=jD hC.s h0 hz0 hk
 have l1:=jD hC.s h1 hk hln
 simp only at l0 l1
 simp only [vI] at hl
 rcases hl with rfl | ⟨es,rfl,hlen,ha⟩
 ·have:(D.nil).es.length=0:=rfl
  omega
 have hes:(D.sl el 1 es).es=es:=rfl
 rw [hes] at l1 hln
 have hlt:(k.1+c).toNat < es.length:=by omega
 have hg:es[(k.1+c).toNat]? = some es[(k.1+c).toNat]:=List.getElem?_eq_getElem hlt
 have he0:=qIW ho (ha _ (List.getElem_mem hlt))
 have hx0:=qIW ho hxN
 have hxc:x.cells=[x]:=by cases x <;> first | rfl | (simp [D.one] at hx0)
 have hev:TOp.eval E (.set 1 false 1 0) [.sl el 1 es,dI (k.1+c),x]=some (.sl el 1 (es.set (k.1+c).toNat x)):=by
  rw [qED,oW (by omega)]
  have hck:eT false 1 x=some x:=by
   show (bif x.one && Nat.beq 1 1 then some x else none)=some x
   rw [hx0]; rfl
  simp only [hck,hg]
  refine (lZ (by rfl)).trans ?_
  rw [hxc]
  have:qCN es[(k.1+c).toNat] 0 [x]=x:=by
   generalize es[(k.1+c).toNat]=q at he0
   cases q <;> first | rfl | (simp [D.one] at he0)
  rw [this]
 have hn:(D.sl el 1 (es.set (k.1+c).toNat x)).es.length=es.length:=by
  show (es.set (k.1+c).toNat x).length=_
  rw [List.length_set]
 refine .list hC hev ?_ (f2 ⟨_,_,get_new hC _,z7 hln,by simp only [hn]; omega⟩ ⟨_,_,z7 hln,get_new hC _,by simp only [hn]; omega⟩)
 simp only [vI]
 refine .inr ⟨_,rfl,by rw [List.length_set]; exact hlen,fun w hw=>?_⟩
 rcases List.mem_or_eq_of_mem_set hw with hw | rfl
 ·exact ha w hw
 exact hxN
def qYk (C:Cx) (sz:Nat) (ag:Bool) (size off:Nat):List Y->Rs
 | [.sl n el sz' b e,.int .i64 v c,y] =>
  bif Nat.beq sz 1 && Nat.beq sz' 1 && !ag && Nat.beq size 1 && Nat.beq off 0 && hU C y e && qPq e && gZ C.F C.L 0 0 v c && gZ C.F C.L v (c+1) n 0 then
   some (C.add [(C.nx,n,0),(n,C.nx,0)] [(C.nx,b)] [] 1,.sl C.nx el 1 b e) else none
 | _=>none
theorem qTv (hC:COk σ C) {sz size off:Nat} {ag:Bool} {ys:List Y} {ds:List D} {r:Cx × Y} (hd:qV σ ys ds) (h:qYk C sz ag size off ys=some r):gF E σ (.set sz ag size off) ds r:=by
 unfold qYk at h
 split at h
 ·simp only [qV] at hd
  obtain ⟨d,_,rfl,h1,i,_,rfl,h2,x,_,rfl,h3,rfl⟩:=hd
  obtain ⟨hb,h⟩:=zW h
  cases h
  simp only [aE,Bool.not_eq_true'] at hb
  obtain ⟨⟨⟨⟨⟨⟨⟨⟨a1,a2⟩,a3⟩,a4⟩,a5⟩,a6⟩,a7⟩,a8⟩,a9⟩:=hb
  have a1:=jF a1
  have a2:=jF a2
  have a4:=jF a4
  have a5:=jF a5
  subst a1 a2 a3 a4 a5
  exact qTt hC h1 h2 h3 a6 a7 a8 a9
 cases h
end
end Go.Am.Tt
namespace Go.Am.Tt
open Go Go.Am
section
variable {E:Env} {σ:Wd} {C:Cx}
def qZu (C:Cx) (el sz bytes:Nat):List Y->Rs
 | [a,b]=>qUO C el sz bytes a b
 | _=>none
def qZi (T:Tb) (C:Cx) (el sz:Nat) (ys:List Y):Rs:=match T.sh el with
 | some e=>qTT C el sz e ys
 | none=>none
def qXN (a b:Rs):Rs:=match a with
 | some r=>some r
 | none=>b
theorem qMx {a b:Rs} {r:Cx × Y} (h:qXN a b=some r):a=some r∨b=some r:=by
 unfold qXN at h
 split at h
 ·exact .inl h
 exact .inr h
def qYn (T:Tb) (C:Cx) (o:TOp) (ys:List Y):Rs:=match o with
 | .len s=>qTW C s ys
 | .inr=>qYv C ys
 | .elem sz ag size off=>qYO C sz ag size off ys
 | .chk ag n=>qTo C ag n ys
 | .fld ag size off=>qT9 C ag size off ys
 | .ext i=>qUl C i ys
 | .un .not _=>qTK C ys
 | .chr=>qY3 C ys
 | .slc el sz lo hi=>qYj C el sz lo hi ys
 | .sub lo hi=>qYh C lo hi ys
 | .bstr=>qY5 C ys
 | .mm _=>qYq C ys
 | .lit el sz=>qZi T C el sz ys
 | .app el sz bytes=>qZu C el sz bytes ys
 | .mk el sz bytes ag zs=>qYr T C el sz bytes ag zs ys
 | .set sz ag size off=>qYk C sz ag size off ys
 | .bin op ty a b=>qXN (qYi T C op ty ys) (qXN (qUL C op ys) (qPg T C (.bin op ty a b) ys))
 | o=>qPg T C o ys
theorem qTH {T:Tb} (hT:TbOk E T) (hC:COk σ C) {o:TOp} {ys:List Y} {ds:List D} {r:Cx × Y} (hd:qV σ ys ds) (h:qYn T C o ys=some r):gF E σ o ds r:=by
 unfold qYn at h
 split at h
 ·exact qPI hC hd h
 ·exact qT1 hC hd h
 ·exact qUx hC hd h
 ·exact qOS hC hd h
 ·exact qP3 hC hd h
 ·exact qQk hC hd h
 ·exact qPu hC hd h
 ·exact qUG hC hd h
 ·exact qTr hC hd h
 ·exact qTn hC hd h
 ·exact qUJ hC hd h
 ·exact qTQ hC hd h
 ·unfold qZi at h
  split at h
  ·exact qTS hC hd h
  cases h
 ·unfold qZu at h
  split at h
  ·simp only [qV] at hd
   obtain ⟨d,_,rfl,h1,i,_,rfl,h2,rfl⟩:=hd
   exact qQR hC h1 h2 h
  cases h
 ·exact qTR hC hd h
 ·exact qTv hC hd h
 ·rcases qMx h with h | h
  ·exact qTp hT hC hd h
  rcases qMx h with h | h
  ·exact qQO hC hd h
  exact qIS hT hC hd h
 exact qIS hT hC hd h
end
end Go.Am.Tt
