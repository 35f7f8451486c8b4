/- Spans that are taken out of spans: what is left, and how many. Conditions: none. -/
import Derived.Test.YthhlmoidofecpaaGreatUv
set_option linter.unusedVariables false
set_option linter.unusedSimpArgs false
namespace Go.Am
open Go
def pd (p:Int × Int):D:=.agg [dI p.1,dI p.2]
def mn (x y:Int):Int:=if y < x then y else x
def mx (x y:Int):Int:=if x < y then y else x
def rt (x y:Int):Bool:=decide (x≥0) && (decide (x < y) && decide (y<=86400000))
def wo (s p:Int × Int):List (Int × Int) :=
 (if rt p.1 (mn p.2 s.1)=true then [(p.1,mn p.2 s.1)] else [])++(if rt (mx p.1 s.2) p.2=true then [(mx p.1 s.2,p.2)] else [])
def qOG (l:List (Int × Int)):Prop:=l.Pairwise (fun p q=>p.2<=q.1)/\∀ p∈l,p.1 < p.2
theorem qBc {x y:Int} (h:rt x y=true):x < y:=by
 unfold rt at h
 simp only [vF,decide_eq_true_eq] at h
 exact h.2.1
theorem qJL (x y:Int):mn x y<=x/\mn x y<=y:=by unfold mn; split <;> omega
theorem qJK (x y:Int):x<=mx x y/\y<=mx x y:=by unfold mx; split <;> omega
theorem qEJ {s p q:Int × Int} (h:q∈wo s p):p.1<=q.1/\q.2<=p.2/\q.1 < q.2:=by
 have a:=qJL p.2 s.1
 have b:=qJK p.1 s.2
 unfold wo at h
 rcases List.mem_append.1 h with h | h
 ·split at h
  ·rename_i hr
   have:=qBc hr
   simp only [List.mem_singleton] at h
   subst h
   exact ⟨Int.le_refl _,a.1,this⟩
  cases h
 split at h
 ·rename_i hr
  have:=qBc hr
  simp only [List.mem_singleton] at h
  subst h
  exact ⟨b.1,Int.le_refl _,this⟩
 cases h
theorem qIw (s p:Int × Int):(wo s p).length<=1∨(p.1 < s.1/\s.2 < p.2/\(wo s p).length=2):=by
 have a:=qJL p.2 s.1
 have b:=qJK p.1 s.2
 unfold wo
 by_cases h1:rt p.1 (mn p.2 s.1)=true
 ·by_cases h2:rt (mx p.1 s.2) p.2=true
  ·right
   have:=qBc h1
   have:=qBc h2
   rw [if_pos h1,if_pos h2]
   exact ⟨by omega,by omega,rfl⟩
  left; rw [if_pos h1,if_neg h2]; exact lR _
 left
 rw [if_neg h1]
 split
 ·exact lR _
 exact Nat.zero_le _
theorem qOK {s p:Int × Int} (h:s.1<=p.1):(wo s p).length<=1:=by
 rcases qIw s p with h' | ⟨h1,_,_⟩
 ·exact h'
 omega
theorem qIx {s:Int × Int}:∀ {l:List (Int × Int)},(∀ q∈l,s.1<=q.1)->(l.flatMap (wo s)).length<=l.length
 | [],_=>lR _
 | p::t,h=>by
  have:=qOK (s:=s) (p:=p) (h p List.mem_cons_self)
  have:=qIx (s:=s) (l:=t) fun q hq=>h q (mC _ hq)
  rw [List.flatMap_cons,List.length_append,List.length_cons]
  omega
theorem qEK {s:Int × Int} (hs:s.1 < s.2):∀ {l:List (Int × Int)},qOG l->(l.flatMap (wo s)).length<=l.length+1
 | [],_=>Nat.zero_le _
 | p::t,h=>by
  obtain ⟨h1,h2⟩:=h
  rw [List.pairwise_cons] at h1
  rw [List.flatMap_cons,List.length_append,List.length_cons]
  rcases qIw s p with h' | ⟨_,h3,h4⟩
  ·have:=qEK hs (l:=t) ⟨h1.2,fun q hq=>h2 q (mC _ hq)⟩
   omega
  have:=qIx (s:=s) (l:=t) fun q hq=>by have:=h1.1 q hq; omega
  omega
theorem qOJ {s:Int × Int} (hs:s.1 < s.2) {l:List (Int × Int)} (h:qOG l):qOG (l.flatMap (wo s)):=by
 obtain ⟨h1,h2⟩:=h
 refine ⟨List.pairwise_flatMap.2 ⟨fun p _=>?_,h1.imp_of_mem ?_⟩,fun q hq=>?_⟩
 ·have a:=qJL p.2 s.1
  have b:=qJK p.1 s.2
  unfold wo
  split
  ·split
   ·refine List.pairwise_cons.2 ⟨fun q (hq:q∈[(mx p.1 s.2,p.2)])=>?_,List.pairwise_singleton _ _⟩
    rw [List.mem_singleton] at hq
    subst hq
    show mn p.2 s.1<=mx p.1 s.2
    omega
   exact List.pairwise_singleton _ _
  split
  ·exact List.pairwise_singleton _ _
  exact List.Pairwise.nil
 ·intro p q _ _ hpq x hx y hy
  have:=qEJ hx
  have:=qEJ hy
  omega
 obtain ⟨p,_,hq⟩:=List.mem_flatMap.1 hq
 exact (qEJ hq).2.2
theorem qLF:qOG []:=⟨List.Pairwise.nil,fun _ h=>by cases h⟩
theorem qLE {p:Int × Int} (h:p.1 < p.2):qOG [p]:=⟨List.pairwise_singleton _ _,fun q hq=>by rw [List.mem_singleton] at hq; subst hq; exact h⟩
section
variable {E:Env}
theorem qOz {x y:Int}:TOp.eval E (.mm false) [dI x,dI y]=some (dI (mn x y)):=rfl
theorem qOy {x y:Int}:TOp.eval E (.mm true) [dI x,dI y]=some (dI (mx x y)):=rfl
theorem qRV (m:Bool) (x y:Int):∃ w:Int,TOp.eval E (.mm m) [dI x,dI y]=some (dI w):=by
 cases m
 ·exact ⟨_,qOz⟩
 exact ⟨_,qOy⟩
theorem qCl {el:Nat}:TOp.eval E (.lit el 2) []=some (.sl el 2 []):=rfl
theorem uC {el:Nat} {q:Int × Int}:TOp.eval E (.lit el 2) [pd q]=some (.sl el 2 [pd q]):=rfl
def sp (el:Nat) (l:List (Int × Int)):D:=.sl el 2 (l.map pd)
theorem qOr {el:Nat} {l:List (Int × Int)} (h:l.length<=600000000):jA el 2 (sp el l):=.inr ⟨_,rfl,by rw [List.length_map]; unfold zG; omega⟩
theorem tB {el:Nat} {l:List (Int × Int)}:TOp.eval E (.len false) [sp el l]=some (dI ((l.length:Nat):Int)):=by
 show some (D.leaf (goInt (l.map pd).length))=_
 rw [List.length_map]; rfl
theorem qB0 {el:Nat} {l:List (Int × Int)} {q:Int × Int} (h:l.length<=600000000):TOp.eval E (.app el 2 16) [sp el l,.sl el 2 [pd q]]=some (sp el (l++[q])):=by
 rw [fY]
 have hss:pC (sp el l)=some l.length:=by show some (l.map pd).length=_; rw [List.length_map]
 rw [hss]
 have hle:Nat.ble (Nat.mul (Nat.add (Nat.mul 4 (Nat.add l.length 1)) 4000) (Nat.succ 16)) 100000000000=true:=bL (by show (4 * (l.length+1)+4000) * 17<=_; omega)
 refine (oM ?_).trans ?_
 ·show (Nat.ble (Nat.mul (Nat.add (Nat.mul 4 (Nat.add l.length 1)) 4000) (Nat.succ 16)) 100000000000 && _ && _)=true
  rw [hle]
  show (Nat.beq el el && true)=true
  rw [Nat.beq_refl]; rfl
 show some (D.sl el 2 ((l.map pd)++[pd q]))=some (.sl el 2 ((l++[q]).map pd))
 rw [List.map_append]; rfl
theorem qQl {el:Nat} {x y:Int}:TOp.eval E (.app el 2 16) [sp el [(x,y)],sp el []]=some (sp el [(x,y)]):=by
 rw [fY]
 have hss:pC (sp el [(x,y)])=some 1:=rfl
 rw [hss]
 have hle:Nat.ble (Nat.mul (Nat.add (Nat.mul 4 (Nat.add 1 0)) 4000) (Nat.succ 16)) 100000000000=true:=bL (by decide)
 refine (oM ?_).trans ?_
 ·show (Nat.ble (Nat.mul (Nat.add (Nat.mul 4 (Nat.add 1 0)) 4000) (Nat.succ 16)) 100000000000 && _ && _)=true
  rw [hle]
  show (Nat.beq el el && true)=true
  rw [Nat.beq_refl]; rfl
 rfl
theorem qRF {el i:Nat} {l:List (Int × Int)} {x:Int × Int} (h:l[i]? = some x):(sp el l).es[((i:Nat):Int).toNat]? = some (pd x):=by
 show (l.map pd)[i]? = _
 rw [List.getElem?_map,h]; rfl
end
end Go.Am
namespace Go.Am.Tt
open Go Go.Am
inductive Sn where
 | int (k:IntKind)
 | bool
 | str (n:Nat)
 | st (fs:List Sn)
 | sl (el sz n:Nat) (e:Sn)
 | any
mutual
def vA:Sn->D->Prop
 | .int k,d=>∃ n,d=.leaf (.int k n)
 | .bool,d=>∃ b,d=.leaf (.bool b)
 | .str n,d=>∃ s,d=.leaf (.string s)/\s.size<=n
 | .st fs,d=>∃ cs,d=.agg cs/\zZ fs cs
 | .sl el sz n e,d=>d=.nil∨∃ es,d=.sl el sz es/\es.length<=n/\∀ x∈es,vA e x
 | .any,_=>True
def zZ:List Sn->List D->Prop
 | [],l=>l=[]
 | s::ss,l=>∃ d ds,l=d::ds/\vA s d/\zZ ss ds
end
mutual
def Sn.fits:Sn->Sn->Bool
 | .int k,.int k'=>decide (k=k')
 | .bool,.bool=>true
 | .str n,.str m=>Nat.ble n m
 | .st fs,.st gs=>Sn.fitss fs gs
 | .sl el sz n e,.sl v7 sz' m e'=>Nat.beq el v7 && Nat.beq sz sz' && Nat.ble n m && Sn.fits e e'
 | _,_=>false
def Sn.fitss:List Sn->List Sn->Bool
 | [],[]=>true
 | a::l,b::m=>Sn.fits a b && Sn.fitss l m
 | _,_=>false
end
mutual
theorem kH:∀ {s t:Sn} {d:D},Sn.fits s t=true->vA s d->vA t d
 | .int k,t,d,h,hd=>by
  cases t <;> simp only [Sn.fits] at h <;> first | (cases h; done) | skip
  rw [decide_eq_true_eq] at h; subst h; exact hd
 | .bool,t,d,h,hd=>by
  cases t <;> simp only [Sn.fits] at h <;> first | (cases h; done) | skip
  exact hd
 | .str n,t,d,h,hd=>by
  cases t <;> simp only [Sn.fits] at h <;> first | (cases h; done) | skip
  simp only [vA] at hd ⊢
  obtain ⟨s,rfl,hs⟩:=hd
  exact ⟨s,rfl,lT hs (lB h)⟩
 | .st fs,t,d,h,hd=>by
  cases t <;> simp only [Sn.fits] at h <;> first | (cases h; done) | skip
  simp only [vA] at hd ⊢
  obtain ⟨cs,rfl,hs⟩:=hd
  exact ⟨cs,rfl,qD2 h hs⟩
 | .sl el sz n e,t,d,h,hd=>by
  cases t <;> simp only [Sn.fits] at h <;> first | (cases h; done) | skip
  simp only [vF] at h
  obtain ⟨⟨⟨h1,h2⟩,h3⟩,h4⟩:=h
  have h1:=vU h1
  have h2:=vU h2
  subst h1 h2
  simp only [vA] at hd ⊢
  rcases hd with rfl | ⟨es,rfl,hl,ha⟩
  ·exact .inl rfl
  exact .inr ⟨es,rfl,lT hl (lB h3),fun x hx=>kH h4 (ha x hx)⟩
 | .any,t,d,h,hd=>by simp only [Sn.fits] at h; cases h
theorem qD2:∀ {ss ts:List Sn} {ds:List D},Sn.fitss ss ts=true->zZ ss ds->zZ ts ds
 | [],ts,ds,h,hd=>by
  cases ts <;> simp only [Sn.fitss] at h <;> first | (cases h; done) | skip
  exact hd
 | s::ss,ts,ds,h,hd=>by
  cases ts <;> simp only [Sn.fitss] at h <;> first | (cases h; done) | skip
  simp only [vF] at h
  simp only [zZ] at hd ⊢
  obtain ⟨d,r,rfl,h1,h2⟩:=hd
  exact ⟨d,r,rfl,kH h.1 h1,qD2 h.2 h2⟩
end
abbrev Wd:=List (Int × D)
abbrev vY:=Nat × Nat × Int
def eF (σ:Wd) (q:vY):Prop:=∃ x y,σ[q.1]? = some x/\σ[q.2.1]? = some y/\x.1<=y.1+q.2.2
def qSP (σ:Wd) (q:Nat × Nat):Prop:=∃ x,σ[q.1]? = some x/\0<=x.1/\x.1<=(q.2:Int)
inductive Y where
 | int (k:IntKind) (v:Nat) (c:Int)
 | bool (t f:List vY)
 | str (n b:Nat)
 | sl (n el sz b:Nat) (e:Sn)
 | st (cs:List Y)
 | nil
 | clo (f:Nat)
 | tup (cs:List Y)
 | any
mutual
def qU (σ:Wd):Y->D->Prop
 | .int k v c,d=>∃ x,σ[v]? = some x/\d=.leaf (.int k (x.1+c))
 | .bool t f,d=>∃ b,d=.leaf (.bool b)/\(b=true->∀ q∈t,eF σ q)/\(b=false->∀ q∈f,eF σ q)
 | .str n b,d=>∃ s x,d=.leaf (.string s)/\σ[n]? = some x/\x.1=(s.size:Int)/\s.size<=b
 | .sl n el sz b e,d=>σ[n]? = some ((d.es.length:Int),d)/\vA (.sl el sz b e) d
 | .st cs,d=>∃ ds,d=.agg ds/\qR σ cs ds
 | .nil,d=>d=.nil
 | .clo f,d=>d=.clo (.func f) [] []
 | .tup cs,d=>∃ ds,d=.tup ds/\qR σ cs ds
 | .any,_=>True
def qR (σ:Wd):List Y->List D->Prop
 | [],l=>l=[]
 | y::ys,l=>∃ d ds,l=d::ds/\qU σ y d/\qR σ ys ds
end
theorem z6 {σ τ:Wd} {n:Nat} {x:Int × D} (h:σ[n]? = some x):(σ++τ)[n]? = some x:=by
 have hl:n < σ.length:=by
  rcases Nat.lt_or_ge n σ.length with h' | h'
  ·exact h'
  rw [List.getElem?_eq_none h'] at h; cases h
 rw [List.getElem?_append_left hl]; exact h
theorem qCx {σ τ:Wd} {q:vY} (h:eF σ q):eF (σ++τ) q:=by
 obtain ⟨x,y,h1,h2,h3⟩:=h
 exact ⟨x,y,z6 h1,z6 h2,h3⟩
theorem qMX {σ τ:Wd} {q:Nat × Nat} (h:qSP σ q):qSP (σ++τ) q:=by
 obtain ⟨x,h1,h2⟩:=h
 exact ⟨x,z6 h1,h2⟩
mutual
theorem oQ {σ τ:Wd}:∀ {y:Y} {d:D},qU σ y d->qU (σ++τ) y d
 | .int k v c,d,h=>by
  simp only [qU] at h ⊢
  obtain ⟨x,h1,h2⟩:=h; exact ⟨x,z6 h1,h2⟩
 | .bool t f,d,h=>by
  simp only [qU] at h ⊢
  obtain ⟨b,h1,h2,h3⟩:=h
  exact ⟨b,h1,fun hb q hq=>qCx (h2 hb q hq),fun hb q hq=>qCx (h3 hb q hq)⟩
 | .str n b,d,h=>by
  simp only [qU] at h ⊢
  obtain ⟨s,x,h1,h2,h3⟩:=h; exact ⟨s,x,h1,z6 h2,h3⟩
 | .sl n el sz b e,d,h=>by
  simp only [qU] at h ⊢
  exact ⟨z6 h.1,h.2⟩
 | .st cs,d,h=>by
  simp only [qU] at h ⊢
  obtain ⟨ds,h1,h2⟩:=h; exact ⟨ds,h1,zP h2⟩
 | .nil,d,h=>by simp only [qU] at h ⊢; exact h
 | .clo f,d,h=>by simp only [qU] at h ⊢; exact h
 | .tup cs,d,h=>by
  simp only [qU] at h ⊢
  obtain ⟨ds,h1,h2⟩:=h; exact ⟨ds,h1,zP h2⟩
 | .any,d,h=>by simp only [qU]
theorem zP {σ τ:Wd}:∀ {ys:List Y} {ds:List D},qR σ ys ds->qR (σ++τ) ys ds
 | [],ds,h=>by simp only [qR] at h ⊢; exact h
 | y::ys,ds,h=>by
  simp only [qR] at h ⊢
  obtain ⟨d,r,h1,h2,h3⟩:=h; exact ⟨d,r,h1,oQ h2,zP h3⟩
end
def qQC:Int->Int->Bool
 | .ofNat a,.ofNat b=>Nat.ble a b
 | .negSucc a,.negSucc b=>Nat.ble b a
 | .negSucc _,.ofNat _=>true
 | .ofNat _,.negSucc _=>false
theorem qFm:∀ {a b:Int},qQC a b=true->a<=b
 | .ofNat a,.ofNat b,h=>by have:=lB h; show (a:Int)<=(b:Int); omega
 | .negSucc a,.negSucc b,h=>by have:=lB h; omega
 | .negSucc a,.ofNat b,_=>by show Int.negSucc a<=(b:Int); omega
 | .ofNat _,.negSucc _,h=>by cases h
def mE:List (Nat × Int)->Nat->Option Int
 | [],_=>none
 | (w,d)::r,u=>bif Nat.beq w u then some d else mE r u
def qQr (acc:List (Nat × Int)) (w:Nat) (d:Int):List (Nat × Int):=match mE acc w with
 | some d'=>bif qQC d' d then acc else (w,d)::acc
 | none=>(w,d)::acc
def qI0 (q:vY) (acc:List (Nat × Int)):List (Nat × Int):=match mE acc q.1 with
 | some d=>qQr acc q.2.1 (Int.add d q.2.2)
 | none=>acc
def kE:List vY->List (Nat × Int)->List (Nat × Int)
 | [],acc=>acc
 | q::r,acc=>kE r (qI0 q acc)
def qFH (F:List vY):Nat->List (Nat × Int)->List (Nat × Int)
 | 0,acc=>acc
 | n+1,acc=>qFH F n (kE F acc)
def qLg (σ:Wd) (a:Nat) (acc:List (Nat × Int)):Prop:=∀ p∈acc,eF σ (a,p.1,p.2)
theorem fI {acc:List (Nat × Int)} {u:Nat} {d:Int} (h:mE acc u=some d):(u,d)∈acc:=by
 induction acc with
 | nil=>cases h
 | cons p r ih =>
  obtain ⟨w,e⟩:=p
  simp only [mE] at h
  cases hw:Nat.beq w u with
  | true=>rw [hw] at h; have:=vU hw; subst this; cases h; exact List.mem_cons_self
  | false=>rw [hw] at h; exact mC _ (ih h)
theorem qM2 {σ:Wd} {a w:Nat} {d:Int} {acc:List (Nat × Int)} (h:qLg σ a acc) (hd:eF σ (a,w,d)):qLg σ a (qQr acc w d):=by
 have hc:qLg σ a ((w,d)::acc):=fun p hp=>by
  rcases List.mem_cons.1 hp with rfl | hp
  ·exact hd
  exact h p hp
 unfold qQr
 split
 ·cases qQC _ d
  ·exact hc
  exact h
 exact hc
theorem qHU {σ:Wd} {a u v:Nat} {c d:Int} (h1:eF σ (a,u,d)) (h2:eF σ (u,v,c)):eF σ (a,v,d+c):=by
 obtain ⟨x,y,ha,hu,hx⟩:=h1
 obtain ⟨y',z,hu',hv,hy⟩:=h2
 simp only at ha hu hx hu' hv hy
 rw [hu] at hu'
 cases hu'
 exact ⟨x,z,ha,hv,by simp only; omega⟩
theorem qIZ {σ:Wd} {a:Nat} {q:vY} {acc:List (Nat × Int)} (hq:eF σ q) (h:qLg σ a acc):qLg σ a (qI0 q acc):=by
 unfold qI0
 split
 ·rename_i d hd
  exact qM2 h (qHU (h _ (fI hd)) hq)
 exact h
theorem qBd {σ:Wd} {a:Nat}:∀ (F:List vY) (acc:List (Nat × Int)),(∀ q∈F,eF σ q)->qLg σ a acc->qLg σ a (kE F acc)
 | [],_,_,h=>h
 | q::r,acc,hF,h=>by
  unfold kE
  exact qBd r _ (fun x hx=>hF x (mC _ hx)) (qIZ (hF q List.mem_cons_self) h)
def qM0 (acc:List (Nat × Int)) (lim:Int):List (Nat × Nat)->Bool
 | []=>false
 | (w,m)::r=>(match mE acc w with
  | some d=>qQC (Int.add d (Int.ofNat m)) lim
  | none=>false) || qM0 acc lim r
def qQz (L:List (Nat × Nat)) (acc:List (Nat × Int)) (b:Nat) (lim:Int):Bool :=
 (match mE acc b with
 | some d=>qQC d lim
 | none=>false) || (Nat.beq b 0 && qM0 acc lim L)
def qGa (F:List vY) (L:List (Nat × Nat)) (b:Nat) (lim:Int):Nat->List (Nat × Int)->Bool
 | 0,acc=>qQz L acc b lim
 | n+1,acc=>qQz L acc b lim || qGa F L b lim n (kE F acc)
def qCU:List (Nat × Nat)->List (Nat × Int)
 | []=>[]
 | (w,_)::r=>(w,0)::qCU r
def qFC (n:Nat) (F:List vY) (L:List (Nat × Nat)) (a:Nat) (ca:Int) (b:Nat) (cb:Int):Bool :=
 bif Nat.beq a b then qQC ca cb else qGa F L b (Int.sub cb ca) n (bif Nat.beq a 0 then (0,0)::qCU L else [(a,0)])
abbrev kK:=qFC 4
structure SOk (σ:Wd) (F:List vY) (L:List (Nat × Nat)):Prop where
 z:∃ d,σ[0]? = some (0,d)
 f:∀ q∈F,eF σ q
 l:∀ q∈L,qSP σ q
theorem qG7 {acc:List (Nat × Int)} {lim:Int}:∀ {L:List (Nat × Nat)},qM0 acc lim L=true->∃ p∈L,∃ d,mE acc p.1=some d/\d+(p.2:Int)<=lim
 | [],h=>by cases h
 | (w,m)::r,h=>by
  simp only [qM0] at h
  rcases Bool.or_eq_true_iff.1 h with h | h
  ·split at h
   ·rename_i d hd
    exact ⟨_,List.mem_cons_self,d,hd,qFm h⟩
   cases h
  obtain ⟨p,hp,q⟩:=qG7 h
  exact ⟨p,mC _ hp,q⟩
theorem qA3 {p:Nat × Int}:∀ {L:List (Nat × Nat)},p∈qCU L->∃ q∈L,p=(q.1,0)
 | [],h=>by cases h
 | (w,m)::r,h=>by
  simp only [qCU] at h
  rcases List.mem_cons.1 h with rfl | h
  ·exact ⟨_,List.mem_cons_self,rfl⟩
  obtain ⟨q,hq,e⟩:=qA3 h
  exact ⟨q,mC _ hq,e⟩
theorem qJh {σ:Wd} {F:List vY} {L:List (Nat × Nat)} (hs:SOk σ F L) {a b:Nat} {lim:Int} {x y:Int × D} (ha:σ[a]? = some x) (hb:σ[b]? = some y) :
  ∀ (n:Nat) (acc:List (Nat × Int)),qLg σ a acc->qGa F L b lim n acc=true->x.1<=y.1+lim:=by
 have one:∀ acc,qLg σ a acc->qQz L acc b lim=true->x.1<=y.1+lim:=by
  intro acc hacc h
  unfold qQz at h
  rcases Bool.or_eq_true_iff.1 h with h | h
  ·split at h
   ·rename_i d hd
    obtain ⟨x',y',h1,h2,h3⟩:=hacc _ (fI hd)
    simp only at h1 h2 h3
    rw [ha] at h1; rw [hb] at h2
    cases h1; cases h2
    have:=qFm h
    omega
   cases h
  rw [vF] at h
  have h0:=vU h.1
  subst h0
  obtain ⟨p,hp,d,hd,hle⟩:=qG7 h.2
  obtain ⟨x',y',h1,h2,h3⟩:=hacc _ (fI hd)
  obtain ⟨z,h4,_,h5⟩:=hs.l p hp
  obtain ⟨e,h6⟩:=hs.z
  simp only at h1 h2 h3
  rw [ha] at h1; rw [h4] at h2; rw [h6] at hb
  cases h1; cases h2; cases hb
  simp only
  omega
 intro n
 induction n with
 | zero=>intro acc hacc h; exact one acc hacc h
 | succ n ih =>
  intro acc hacc h
  simp only [qGa] at h
  rcases Bool.or_eq_true_iff.1 h with h | h
  ·exact one acc hacc h
  exact ih _ (qBd F acc hs.f hacc) h
theorem qCC {n:Nat} {σ:Wd} {F:List vY} {L:List (Nat × Nat)} (hs:SOk σ F L) {a b:Nat} {ca cb:Int} (h:qFC n F L a ca b cb=true) {x y:Int × D} (ha:σ[a]? = some x) (hb:σ[b]? = some y):x.1+ca<=y.1+cb:=by
 unfold qFC at h
 cases hab:Nat.beq a b with
 | true =>
  rw [hab] at h
  have:=vU hab
  subst this
  rw [ha] at hb
  cases hb
  have:=qFm h
  omega
 | false =>
  rw [hab] at h
  simp only [cond_false] at h
  have hi:qLg σ a (bif Nat.beq a 0 then (0,0)::qCU L else [(a,0)]):=by
   cases h0:Nat.beq a 0 with
   | true =>
    have:=vU h0
    subst this
    obtain ⟨d,hd⟩:=hs.z
    intro p hp
    rcases List.mem_cons.1 hp with rfl | hp
    ·exact ⟨_,_,hd,hd,by simp⟩
    obtain ⟨q,hq,rfl⟩:=qA3 hp
    obtain ⟨z,h1,h2,_⟩:=hs.l q hq
    exact ⟨_,_,hd,h1,by simp only; omega⟩
   | false =>
    intro p hp
    rw [cond_false,List.mem_singleton] at hp
    subst hp
    exact ⟨_,_,ha,ha,by simp⟩
  have:=qJh hs ha hb n _ hi h
  have e:Int.sub cb ca=cb - ca:=rfl
  rw [e] at this
  omega
theorem vR {σ:Wd} {F:List vY} {L:List (Nat × Nat)} (hs:SOk σ F L) {a b:Nat} {ca cb:Int} (h:kK F L a ca b cb=true) {x y:Int × D} (ha:σ[a]? = some x) (hb:σ[b]? = some y):x.1+ca<=y.1+cb:=qCC hs h ha hb
end Go.Am.Tt
namespace Go.Am.Tt
open Go Go.Am
structure El where
 n:Nat
 v:Nat
 c:Int
 y:Y
structure Cx where
 F:List vY
 L:List (Nat × Nat)
 els:List El
 nx:Nat
def Cx.add (C:Cx) (F:List vY) (L:List (Nat × Nat)) (els:List El) (k:Nat):Cx:=⟨F++C.F,L++C.L,els++C.els,Nat.add C.nx k⟩
def qHY (σ:Wd) (e:El):Prop:=∃ x d i z,σ[e.n]? = some (x,d)/\σ[e.v]? = some i/\0<=i.1+e.c/\d.es[(i.1+e.c).toNat]? = some z/\qU σ e.y z
theorem qKx {σ τ:Wd} {e:El} (h:qHY σ e):qHY (σ++τ) e:=by
 obtain ⟨x,d,i,z,h1,h2,h3,h4,h5⟩:=h
 exact ⟨x,d,i,z,z6 h1,z6 h2,h3,h4,oQ h5⟩
structure COk (σ:Wd) (C:Cx):Prop where
 s:SOk σ C.F C.L
 e:∀ e∈C.els,qHY σ e
 n:σ.length=C.nx
theorem COk.ext {σ τ:Wd} {C:Cx} (h:COk σ C) {F:List vY} {L:List (Nat × Nat)} {els:List El} {k:Nat}
  (hF:∀ q∈F,eF (σ++τ) q) (hL:∀ q∈L,qSP (σ++τ) q) (hE:∀ q∈els,qHY (σ++τ) q) (hk:τ.length=k):COk (σ++τ) (C.add F L els k):=by
 refine ⟨⟨?_,fun q hq=>?_,fun q hq=>?_⟩,fun q hq=>?_,?_⟩
 ·obtain ⟨d,hd⟩:=h.s.z
  exact ⟨d,z6 hd⟩
 ·rcases List.mem_append.1 hq with hq | hq
  ·exact hF q hq
  exact qCx (h.s.f q hq)
 ·rcases List.mem_append.1 hq with hq | hq
  ·exact hL q hq
  exact qMX (h.s.l q hq)
 ·rcases List.mem_append.1 hq with hq | hq
  ·exact hE q hq
  exact qKx (h.e q hq)
 show (σ++τ).length=C.nx+k
 rw [List.length_append,h.n,hk]
theorem COk.facts {σ:Wd} {C:Cx} (h:COk σ C) {F:List vY} (hF:∀ q∈F,eF σ q):COk σ (C.add F [] [] 0):=by
 have:=h.ext (τ:=[]) (F:=F) (L:=[]) (els:=[]) (k:=0) (by simpa using hF) (by simp) (by simp) rfl
 simpa using this
theorem get_new {σ:Wd} {C:Cx} (h:COk σ C) (x:Int × D):(σ++[x])[C.nx]? = some x:=by
 rw [← h.n]; simp
mutual
def fresh:Sn->Cx->Cx × Y
 | .int k,C=>(C.add [] [] [] 1,.int k C.nx 0)
 | .bool,C=>(C,.bool [] [])
 | .str b,C=>(C.add [] [(C.nx,b)] [] 1,.str C.nx b)
 | .st fs,C=>((gS fs C).1,.st (gS fs C).2)
 | .sl el sz b e,C=>(C.add [] [(C.nx,b)] [] 1,.sl C.nx el sz b e)
 | .any,C=>(C,.any)
def gS:List Sn->Cx->Cx × List Y
 | [],C=>(C,[])
 | s::r,C=>((gS r (fresh s C).1).1,(fresh s C).2::(gS r (fresh s C).1).2)
end
theorem yJ {σ:Wd} {C:Cx} (h:COk σ C):COk (σ++[]) C:=by rw [List.append_nil]; exact h
mutual
theorem uQ:∀ {s:Sn} {d:D} {σ:Wd} {C:Cx},vA s d->COk σ C->∃ τ,COk (σ++τ) (fresh s C).1/\qU (σ++τ) (fresh s C).2 d
 | .int k,d,σ,C,h,hC=>by
  simp only [vA] at h
  obtain ⟨n,rfl⟩:=h
  refine ⟨[(n,.nil)],hC.ext (by simp) (by simp) (by simp) rfl,?_⟩
  simp only [fresh,qU]
  exact ⟨_,get_new hC _,by simp⟩
 | .bool,d,σ,C,h,hC=>by
  simp only [vA] at h
  obtain ⟨b,rfl⟩:=h
  refine ⟨[],yJ hC,?_⟩
  simp only [fresh,qU]
  exact ⟨b,rfl,fun _ q hq=>(by cases hq),fun _ q hq=>(by cases hq)⟩
 | .str b,d,σ,C,h,hC=>by
  simp only [vA] at h
  obtain ⟨s,rfl,hs⟩:=h
  refine ⟨[((s.size:Int),.nil)],hC.ext (by simp) (fun q hq=>?_) (by simp) rfl,?_⟩
  ·rw [List.mem_singleton] at hq; subst hq
   exact ⟨_,get_new hC _,by simp,by simp; omega⟩
  simp only [fresh,qU]
  exact ⟨s,_,rfl,get_new hC _,rfl,hs⟩
 | .st fs,d,σ,C,h,hC=>by
  simp only [vA] at h
  obtain ⟨cs,rfl,hs⟩:=h
  obtain ⟨τ,h1,h2⟩:=rY hs hC
  refine ⟨τ,h1,?_⟩
  simp only [fresh,qU]
  exact ⟨cs,rfl,h2⟩
 | .sl el sz b e,d,σ,C,h,hC=>by
  have hl:d.es.length<=b:=by
   simp only [vA] at h
   rcases h with rfl | ⟨es,rfl,h,_⟩
   ·exact Nat.zero_le _
   exact h
  refine ⟨[((d.es.length:Int),d)],hC.ext (by simp) (fun q hq=>?_) (by simp) rfl,?_⟩
  ·rw [List.mem_singleton] at hq; subst hq
   exact ⟨_,get_new hC _,by simp,by simp; omega⟩
  simp only [fresh,qU]
  exact ⟨get_new hC _,h⟩
 | .any,d,σ,C,h,hC=>by
  refine ⟨[],yJ hC,?_⟩
  simp only [fresh,qU]
theorem rY:∀ {ss:List Sn} {ds:List D} {σ:Wd} {C:Cx},zZ ss ds->COk σ C->∃ τ,COk (σ++τ) (gS ss C).1/\qR (σ++τ) (gS ss C).2 ds
 | [],ds,σ,C,h,hC=>by
  simp only [zZ] at h
  refine ⟨[],yJ hC,?_⟩
  simp only [gS,qR]; exact h
 | s::r,ds,σ,C,h,hC=>by
  simp only [zZ] at h
  obtain ⟨d,ds',rfl,h1,h2⟩:=h
  obtain ⟨τ,a1,a2⟩:=uQ h1 hC
  obtain ⟨τ',b1,b2⟩:=rY h2 a1
  refine ⟨τ++τ',by rw [← List.append_assoc]; exact b1,?_⟩
  simp only [gS,qR]
  exact ⟨d,ds',rfl,by rw [← List.append_assoc]; exact oQ a2,by rw [← List.append_assoc]; exact b2⟩
end
mutual
def cE (C:Cx):Y->Sn->Bool
 | _,.any=>true
 | .int k _ _,.int k'=>decide (k=k')
 | .bool _ _,.bool=>true
 | .str n b,.str m=>Nat.ble b m || kK C.F C.L n 0 0 m
 | .st cs,.st fs=>mG C cs fs
 | .sl n el sz b e,.sl v7 sz' m e'=>Nat.beq el v7 && Nat.beq sz sz' && e.fits e' && (Nat.ble b m || kK C.F C.L n 0 0 m)
 | .nil,.sl _ _ _ _=>true
 | _,_=>false
def mG (C:Cx):List Y->List Sn->Bool
 | [],[]=>true
 | y::ys,s::ss=>cE C y s && mG C ys ss
 | _,_=>false
end
theorem eI {σ:Wd} {C:Cx} (hC:COk σ C) {n m:Nat} {x:Int × D} (hx:σ[n]? = some x) (h:kK C.F C.L n 0 0 (m:Int)=true):x.1<=(m:Int):=by
 obtain ⟨z,hz⟩:=hC.s.z
 have:=vR hC.s h hx hz
 simpa using this
mutual
theorem qCw {σ:Wd} {C:Cx} (hC:COk σ C):∀ {y:Y} {s:Sn} {d:D},cE C y s=true->qU σ y d->vA s d
 | .int k v c,s,d,h,hd=>by
  cases s <;> first | (simp only [vA]; done) | simp only [cE] at h <;> first | (cases h; done) | skip
  rw [decide_eq_true_eq] at h; subst h
  simp only [qU] at hd
  obtain ⟨x,_,rfl⟩:=hd
  simp only [vA]; exact ⟨_,rfl⟩
 | .bool t f,s,d,h,hd=>by
  cases s <;> first | (simp only [vA]; done) | simp only [cE] at h <;> first | (cases h; done) | skip
  simp only [qU] at hd
  obtain ⟨b,rfl,_⟩:=hd
  simp only [vA]; exact ⟨_,rfl⟩
 | .str n b,s,d,h,hd=>by
  cases s <;> first | (simp only [vA]; done) | simp only [cE] at h <;> first | (cases h; done) | skip
  simp only [qU] at hd
  obtain ⟨t,x,rfl,h1,h2,h3⟩:=hd
  simp only [vA]
  refine ⟨_,rfl,?_⟩
  rcases Bool.or_eq_true_iff.1 h with h | h
  ·exact lT h3 (lB h)
  have:=eI hC h1 h
  omega
 | .st cs,s,d,h,hd=>by
  cases s <;> first | (simp only [vA]; done) | simp only [cE] at h <;> first | (cases h; done) | skip
  simp only [qU] at hd
  obtain ⟨ds,rfl,h1⟩:=hd
  simp only [vA]; exact ⟨_,rfl,oY hC h h1⟩
 | .sl n el sz b e,s,d,h,hd=>by
  cases s <;> first | (simp only [vA]; done) | simp only [cE] at h <;> first | (cases h; done) | skip
  simp only [vF] at h
  obtain ⟨⟨⟨h1,h2⟩,h3⟩,h4⟩:=h
  have h1:=vU h1
  have h2:=vU h2
  subst h1 h2
  simp only [qU] at hd
  obtain ⟨hn,hd⟩:=hd
  simp only [vA] at hd ⊢
  rcases hd with rfl | ⟨es,rfl,hl,ha⟩
  ·exact .inl rfl
  refine .inr ⟨es,rfl,?_,fun x hx=>kH h3 (ha x hx)⟩
  rcases Bool.or_eq_true_iff.1 h4 with h | h
  ·exact lT hl (lB h)
  have:=eI hC hn h
  have e:(D.sl el sz es).es.length=es.length:=rfl
  simp only [e] at this
  omega
 | .nil,s,d,h,hd=>by
  cases s <;> first | (simp only [vA]; done) | simp only [cE] at h <;> first | (cases h; done) | skip
  simp only [qU] at hd
  subst hd
  simp only [vA]; exact .inl trivial
 | .clo _,s,d,h,hd=>by cases s <;> first | (simp only [vA]; done) | (simp only [cE] at h; cases h; done)
 | .tup _,s,d,h,hd=>by cases s <;> first | (simp only [vA]; done) | (simp only [cE] at h; cases h; done)
 | .any,s,d,h,hd=>by cases s <;> first | (simp only [vA]; done) | (simp only [cE] at h; cases h; done)
theorem oY {σ:Wd} {C:Cx} (hC:COk σ C):∀ {ys:List Y} {ss:List Sn} {ds:List D},mG C ys ss=true->qR σ ys ds->zZ ss ds
 | [],ss,ds,h,hd=>by
  cases ss <;> simp only [mG] at h <;> first | (cases h; done) | skip
  simp only [qR] at hd
  simp only [zZ]; exact hd
 | y::ys,ss,ds,h,hd=>by
  cases ss <;> simp only [mG] at h <;> first | (cases h; done) | skip
  simp only [vF] at h
  simp only [qR] at hd
  obtain ⟨d,r,rfl,h1,h2⟩:=hd
  simp only [zZ]
  exact ⟨d,r,rfl,qCw hC h.1 h1,oY hC h.2 h2⟩
end
end Go.Am.Tt
namespace Go.Am.Tt
open Go Go.Am
def yY (E:Env) (σ:Wd) (o:TOp) (ds:List D) (r:Cx × Y):Prop:=∃ d τ,TOp.eval E o ds=some d/\COk (σ++τ) r.1/\qU (σ++τ) r.2 d
section
variable {E:Env} {σ:Wd} {C:Cx} {o:TOp} {ds:List D} {d:D}
theorem yY.same (hC:COk σ C) {y:Y} (he:TOp.eval E o ds=some d) (hr:qU σ y d):yY E σ o ds (C,y) :=
 ⟨d,[],he,yJ hC,by rw [List.append_nil]; exact hr⟩
theorem yY.fresh (hC:COk σ C) {s:Sn} (he:TOp.eval E o ds=some d) (hn:vA s d):yY E σ o ds (fresh s C):=by
 obtain ⟨τ,h1,h2⟩:=uQ hn hC
 exact ⟨d,τ,he,h1,h2⟩
theorem yY.list (hC:COk σ C) {el sz b:Nat} {e:Sn} {F:List vY} (he:TOp.eval E o ds=some d) (hn:vA (.sl el sz b e) d)
  (hF:∀ q∈F,eF (σ++[((d.es.length:Int),d)]) q):yY E σ o ds (C.add F [(C.nx,b)] [] 1,.sl C.nx el sz b e):=by
 have hl:d.es.length<=b:=by
  simp only [vA] at hn
  rcases hn with rfl | ⟨es,rfl,h,_⟩
  ·exact Nat.zero_le _
  exact h
 refine ⟨d,[((d.es.length:Int),d)],he,hC.ext hF (fun q hq=>?_) (by simp) rfl,?_⟩
 ·rw [List.mem_singleton] at hq; subst hq
  exact ⟨_,get_new hC _,by simp,by simp; omega⟩
 simp only [qU]
 exact ⟨get_new hC _,hn⟩
theorem yY.num (hC:COk σ C) {k:IntKind} {n:Int} {F:List vY} (he:TOp.eval E o ds=some (.leaf (.int k n)))
  (hF:∀ q∈F,eF (σ++[(n,D.nil)]) q):yY E σ o ds (C.add F [] [] 1,.int k C.nx 0):=by
 refine ⟨_,[(n,.nil)],he,hC.ext hF (by simp) (by simp) rfl,?_⟩
 simp only [qU]
 exact ⟨_,get_new hC _,by simp⟩
end
def qSJ (C:Cx) (v:Nat) (c:Int) (w:Nat) (e:Int):List vY :=
 (bif qFC 1 C.F C.L w e v c then [(w,v,c - e - 1)] else [])++(bif qFC 1 C.F C.L v c w e then [(v,w,e - c - 1)] else [])
def qQb (op:BinOp) (C:Cx) (v:Nat) (c:Int) (w:Nat) (e:Int):Option (List vY × List vY):=match op with
 | .lss=>some ([(v,w,e - c - 1)],[(w,v,c - e)])
 | .leq=>some ([(v,w,e - c)],[(w,v,c - e - 1)])
 | .gtr=>some ([(w,v,c - e - 1)],[(v,w,e - c)])
 | .geq=>some ([(w,v,c - e)],[(v,w,e - c - 1)])
 | .eql=>some ([(v,w,e - c),(w,v,c - e)],qSJ C v c w e)
 | .neq=>some (qSJ C v c w e,[(v,w,e - c),(w,v,c - e)])
 | _=>none
theorem qOx {σ:Wd} {C:Cx} (hC:COk σ C) {v w:Nat} {c e:Int} {x y:Int × D} (hv:σ[v]? = some x) (hw:σ[w]? = some y) (h:¬ x.1+c=y.1+e):∀ q∈qSJ C v c w e,eF σ q:=by
 intro q hq
 unfold qSJ at hq
 rcases List.mem_append.1 hq with hq | hq
 ·cases hb:qFC 1 C.F C.L w e v c with
  | false=>rw [hb] at hq; cases hq
  | true =>
   rw [hb,cond_true,List.mem_singleton] at hq
   subst hq
   have:=qCC hC.s hb hw hv
   exact ⟨y,x,hw,hv,by simp only; omega⟩
 cases hb:qFC 1 C.F C.L v c w e with
 | false=>rw [hb] at hq; cases hq
 | true =>
  rw [hb,cond_true,List.mem_singleton] at hq
  subst hq
  have:=qCC hC.s hb hv hw
  exact ⟨x,y,hv,hw,by simp only; omega⟩
theorem f1 {σ:Wd} {v w:Nat} {c:Int} {x y:Int × D} (hv:σ[v]? = some x) (hw:σ[w]? = some y) (h:x.1<=y.1+c):∀ q∈[(v,w,c)],eF σ q:=by
 intro q hq; rw [List.mem_singleton] at hq; subst hq; exact ⟨x,y,hv,hw,h⟩
theorem f2 {σ:Wd} {p q:vY} (hp:eF σ p) (hq:eF σ q):∀ r∈[p,q],eF σ r:=by
 intro r hr
 rcases List.mem_cons.1 hr with rfl | hr
 ·exact hp
 rw [List.mem_singleton] at hr; subst hr; exact hq
theorem qQa {E:Env} {σ:Wd} {C:Cx} (hC:COk σ C) {op:BinOp} {ty:TypeId} {a b:Operand} {k:IntKind} {v w:Nat} {c e:Int} {t f:List vY} {x y:Int × D}
  (h:qQb op C v c w e=some (t,f)) (hv:σ[v]? = some x) (hw:σ[w]? = some y) :
  yY E σ (.bin op ty a b) [.leaf (.int k (x.1+c)),.leaf (.int k (y.1+e))] (C,.bool t f):=by
 have fin:∀ r:Bool,TOp.eval E (.bin op ty a b) [.leaf (.int k (x.1+c)),.leaf (.int k (y.1+e))]=some (dB r)->(r=true->∀ q∈t,eF σ q)->(r=false->∀ q∈f,eF σ q)->yY E σ (.bin op ty a b) [.leaf (.int k (x.1+c)),.leaf (.int k (y.1+e))] (C,.bool t f):=by
  intro r he ht hf
  refine .same hC he ?_
  simp only [qU]
  exact ⟨r,rfl,ht,hf⟩
 cases op <;> simp only [qQb] at h <;> first | (cases h; done) | (cases h)
 ·exact fin _ zJ (fun hb=>f2 ⟨x,y,hv,hw,by have:=dT hb; simp only; omega⟩ ⟨y,x,hw,hv,by have:=dT hb; simp only; omega⟩) (fun hb=>qOx hC hv hw (dF hb))
 ·exact fin _ zR (fun hb=>qOx hC hv hw (dT hb)) (fun hb=>f2 ⟨x,y,hv,hw,by have:=dF hb; simp only; omega⟩ ⟨y,x,hw,hv,by have:=dF hb; simp only; omega⟩)
 ·exact fin _ qJ (fun hb=>f1 hv hw (by have:=dT hb; omega)) (fun hb=>f1 hw hv (by have:=dF hb; omega))
 ·exact fin _ wY (fun hb=>f1 hv hw (by have:=dT hb; omega)) (fun hb=>f1 hw hv (by have:=dF hb; omega))
 ·exact fin _ vQ (fun hb=>f1 hw hv (by have:=dT hb; omega)) (fun hb=>f1 hv hw (by have:=dF hb; omega))
 exact fin _ kC (fun hb=>f1 hw hv (by have:=dT hb; omega)) (fun hb=>f1 hv hw (by have:=dF hb; omega))
end Go.Am.Tt
namespace Go.Am.Tt
open Go Go.Am
section
variable {E:Env} {σ:Wd} {C:Cx}
def Sn.small (n:Nat):Bool:=Nat.ble n 300000000
theorem qPQ {el sz b:Nat} {e:Sn} {d:D} (h:vA (.sl el sz b e) d) (hb:Nat.ble b 300000000=true):jA el sz d:=by
 simp only [vA] at h
 rcases h with rfl | ⟨es,rfl,h,_⟩
 ·exact .inl rfl
 exact .inr ⟨es,rfl,qFK (lT h (lB hb))⟩
theorem qP7 {el sz b:Nat} {e:Sn} {d x:D} {i:Nat} (h:vA (.sl el sz b e) d) (hx:d.es[i]? = some x):vA e x:=by
 simp only [vA] at h
 rcases h with rfl | ⟨es,rfl,_,h⟩
 ·simp [D.es] at hx
 exact h x (List.mem_of_getElem? hx)
theorem qPM (hC:COk σ C) {n el sz b:Nat} {e:Sn} {d:D} (h:qU σ (.sl n el sz b e) d):yY E σ (.len false) [d] (C,.int .i64 n 0):=by
 simp only [qU] at h
 refine .same hC (d:=dI (d.es.length:Int)) ?_ ?_
 ·have h2:=h.2
  simp only [vA] at h2
  rcases h2 with rfl | ⟨es,rfl,_,_⟩ <;> rfl
 simp only [qU]; exact ⟨_,h.1,by simp⟩
theorem qMa (hC:COk σ C):yY E σ (.len false) [.nil] (C,.int .i64 0 0):=by
 obtain ⟨z,hz⟩:=hC.s.z
 refine .same hC (d:=dI ((0:Nat):Int)) rfl ?_
 simp only [qU]; exact ⟨_,hz,by simp⟩
theorem qL9 (hC:COk σ C) {n b:Nat} {d:D} (h:qU σ (.str n b) d):yY E σ (.len true) [d] (C,.int .i64 n 0):=by
 simp only [qU] at h
 obtain ⟨s,x,rfl,h1,h2,_⟩:=h
 refine .same hC (d:=dI (s.size:Int)) rfl ?_
 simp only [qU]; exact ⟨_,h1,by rw [h2]; simp⟩
def qBF:List El->Nat->Nat->Int->Option Y
 | [],_,_,_=>none
 | e::r,n,v,c=>bif Nat.beq e.n n && Nat.beq e.v v && decide (e.c=c) then some e.y else qBF r n v c
theorem eE {l:List El} (hl:∀ e∈l,qHY σ e) {n v:Nat} {c:Int} {y:Y} (h:qBF l n v c=some y):qHY σ ⟨n,v,c,y⟩:=by
 induction l with
 | nil=>cases h
 | cons e r ih =>
  simp only [qBF] at h
  cases hb:(Nat.beq e.n n && Nat.beq e.v v && decide (e.c=c)) with
  | true =>
   rw [hb,cond_true] at h
   simp only [vF,decide_eq_true_eq] at hb
   have h1:=vU hb.1.1
   have h2:=vU hb.1.2
   cases h
   have:=hl e List.mem_cons_self
   obtain ⟨en,ev,ec,ey⟩:=e
   simp only at h1 h2 hb
   rw [← h1,← h2,← hb.2]
   exact this
  | false=>rw [hb,cond_false] at h; exact ih (fun e he=>hl e (mC _ he)) h
def qMk (C:Cx) (n:Nat) (e:Sn) (v:Nat) (c:Int):Option (Cx × Y) :=
 match qBF C.els n v c with
 | some _=>some (C,.bool [] [])
 | none=>bif kK C.F C.L 0 0 v c && kK C.F C.L v (c+1) n 0 then
   some ((fresh e C).1.add [] [] [⟨n,v,c,(fresh e C).2⟩] 0,.bool [] []) else none
theorem qJ1 (hC:COk σ C) {n el sz b v:Nat} {e:Sn} {c:Int} {d i:D} {r:Cx × Y} (hd:qU σ (.sl n el sz b e) d) (hi:qU σ (.int .i64 v c) i) (h:qMk C n e v c=some r):yY E σ .inr [d,i] r:=by
 simp only [qU] at hd hi
 obtain ⟨x,hx,rfl⟩:=hi
 unfold qMk at h
 split at h
 ·rename_i y hy
  cases h
  obtain ⟨x',d',i',z,h1,h2,h3,h4,_⟩:=eE hC.e hy
  simp only at h1 h2 h3 h4
  rw [hd.1] at h1; rw [hx] at h2
  cases h1; cases h2
  refine .same hC (qP h3 h4) ?_
  simp only [qU]
  exact ⟨true,rfl,fun _ q hq=>(by cases hq),fun hb=>(by cases hb)⟩
 obtain ⟨hb,h⟩:=zM h
 cases h
 rw [vF] at hb
 obtain ⟨z,hz⟩:=hC.s.z
 have l1:=vR hC.s hb.1 hz hx
 have l2:=vR hC.s hb.2 hx hd.1
 simp only at l1 l2
 obtain ⟨q,hq⟩:=gQ (d:=d) (s:=x.1+c) (by omega) (by omega)
 obtain ⟨τ,a1,a2⟩:=uQ (qP7 hd.2 hq) hC
 refine ⟨dB true,τ,qP (by omega) hq,?_,?_⟩
 ·have:=a1.ext (τ:=[]) (F:=[]) (L:=[]) (els:=[⟨n,v,c,(fresh e C).2⟩]) (k:=0) (by simp) (by simp) ?_ rfl
  ·simpa using this
  intro p hp
  rw [List.mem_singleton] at hp; subst hp
  rw [List.append_nil]
  exact ⟨_,d,x,q,z6 hd.1,z6 hx,by simp only; omega,hq,a2⟩
 simp only [qU]
 exact ⟨true,rfl,fun _ q hq=>(by cases hq),fun hb=>(by cases hb)⟩
end
end Go.Am.Tt
namespace Go.Am.Tt
open Go Go.Am
theorem rK {σ:Wd}:∀ {ys:List Y} {ds:List D},qR σ ys ds->ys.length=ds.length
 | [],ds,h=>by simp only [qR] at h; subst h; rfl
 | y::ys,ds,h=>by
  simp only [qR] at h
  obtain ⟨d,r,rfl,_,h2⟩:=h
  simp [rK h2]
theorem kR {σ:Wd}:∀ {ys:List Y} {ds:List D} {i:Nat} {y:Y},qR σ ys ds->ys[i]? = some y->∃ d,ds[i]? = some d/\qU σ y d
 | [],ds,i,y,h,hy=>by simp at hy
 | z::ys,ds,i,y,h,hy=>by
  simp only [qR] at h
  obtain ⟨d,r,rfl,h1,h2⟩:=h
  cases i with
  | zero=>simp only [List.getElem?_cons_zero,oI] at hy; subst hy; exact ⟨d,by simp,h1⟩
  | succ i=>simp only [List.getElem?_cons_succ] at hy ⊢; exact kR h2 hy
theorem bV {σ:Wd}:∀ {n:Nat} {ys:List Y} {ds:List D},qR σ ys ds->qR σ (ys.drop n) (ds.drop n)
 | 0,ys,ds,h=>by simpa using h
 | n+1,[],ds,h=>by simp only [qR] at h; subst h; simp [qR]
 | n+1,y::ys,ds,h=>by
  simp only [qR] at h
  obtain ⟨d,r,rfl,_,h2⟩:=h
  simpa using bV (n:=n) h2
theorem bU {σ:Wd}:∀ {n:Nat} {ys:List Y} {ds:List D},qR σ ys ds->qR σ (ys.take n) (ds.take n)
 | 0,ys,ds,h=>by simp [qR]
 | n+1,[],ds,h=>by simp only [qR] at h; subst h; simp [qR]
 | n+1,y::ys,ds,h=>by
  simp only [qR] at h
  obtain ⟨d,r,rfl,h1,h2⟩:=h
  simp only [List.take_succ_cons,qR]
  exact ⟨d,_,rfl,h1,bU (n:=n) h2⟩
def qDp:Y->Bool
 | .int _ _ _=>true
 | .bool _ _=>true
 | .str _ _=>true
 | .sl _ _ _ _ _=>true
 | .nil=>true
 | _=>false
theorem sA {σ:Wd} {y:Y} {d:D} (h:qDp y=true) (hd:qU σ y d):d.one=true:=by
 cases y <;> simp only [qDp] at h <;> first | (cases h; done) | simp only [qU] at hd
 ·obtain ⟨_,_,rfl⟩:=hd; rfl
 ·obtain ⟨_,rfl,_⟩:=hd; rfl
 ·obtain ⟨_,_,rfl,_⟩:=hd; rfl
 ·have:=hd.2
  simp only [vA] at this
  rcases this with rfl | ⟨es,rfl,_⟩ <;> rfl
 subst hd; rfl
section
variable {E:Env} {σ:Wd} {C:Cx}
def qJp (ag:Bool) (size off:Nat) (cs:List Y):Option Y:=match ag with
 | true=>bif Nat.ble (off+size) cs.length then some (.st ((cs.drop off).take size)) else none
 | false=>match cs[off]? with
  | some y=>bif qDp y && Nat.beq size 1 then some y else none
  | none=>none
theorem qPZ (hC:COk σ C) {ag:Bool} {size off:Nat} {cs:List Y} {d:D} {y:Y} (hd:qU σ (.st cs) d) (h:qJp ag size off cs=some y):yY E σ (.fld ag size off) [d] (C,y):=by
 simp only [qU] at hd
 obtain ⟨es,rfl,hs⟩:=hd
 unfold qJp at h
 split at h
 ·obtain ⟨hb,h⟩:=zM h
  cases h
  refine .same hC (pF (by rw [← rK hs]; exact hb)) ?_
  simp only [qU]
  exact ⟨_,rfl,bU (bV hs)⟩
 split at h
 ·rename_i y' hy
  obtain ⟨hb,h⟩:=zM h
  cases h
  rw [vF] at hb
  have hsz:=vU hb.2
  subst hsz
  obtain ⟨e,he,hr⟩:=kR hs hy
  exact .same hC (qA he (sA hb.1 hr)) hr
 cases h
def qJo (cs:List Y) (off:Nat):Option Y:=match cs[off]? with
 | some y=>bif qDp y then some y else none
 | none=>none
theorem qJn {cs:List Y} {off:Nat} {y:Y} (h:qJo cs off=some y):cs[off]? = some y/\qDp y=true:=by
 unfold qJo at h
 split at h
 ·rename_i y' hy
  obtain ⟨ho,h⟩:=zM h
  cases h
  exact ⟨hy,ho⟩
 cases h
def qKw (C:Cx) (n v:Nat) (c:Int) (sz:Nat) (ag:Bool) (size off:Nat):Option Y:=match qBF C.els n v c with
 | some (.st cs)=>bif Nat.beq cs.length sz then (match ag with
  | true=>bif Nat.beq off 0 && Nat.beq size sz then some (.st cs) else bif Nat.ble (off+size) sz then some (.st ((cs.drop off).take size)) else none
  | false=>bif Nat.beq size 1 && Nat.blt off sz then qJo cs off else none) else none
 | some y=>bif !ag && qDp y && Nat.beq sz 1 && Nat.beq size 1 && Nat.beq off 0 then some y else none
 | none=>none
theorem sN (hC:COk σ C) {n el sz sz' b v size off:Nat} {ag:Bool} {e:Sn} {c:Int} {d i:D} {y:Y} (hd:qU σ (.sl n el sz b e) d) (hi:qU σ (.int .i64 v c) i)
  (hb:Nat.ble b 300000000=true) (hz:Nat.beq sz sz'=true) (h:qKw C n v c sz' ag size off=some y):yY E σ (.elem sz' ag size off) [d,i] (C,y):=by
 have hz:=vU hz
 subst hz
 simp only [qU] at hd hi
 obtain ⟨x,hx,rfl⟩:=hi
 have hsl:=qPQ hd.2 hb
 unfold qKw at h
 split at h
 ·rename_i cs hf
  obtain ⟨x',d',i',z,h1,h2,h3,h4,h5⟩:=eE hC.e hf
  simp only at h1 h2 h3 h4 h5
  rw [hd.1] at h1; rw [hx] at h2
  cases h1; cases h2
  simp only [qU] at h5
  obtain ⟨es,rfl,hs⟩:=h5
  obtain ⟨hl,h⟩:=zM h
  have hl:=vU hl
  have hle:=rK hs
  split at h
  ·cases hw:(Nat.beq off 0 && Nat.beq size sz) with
   | true =>
    rw [hw,cond_true] at h
    cases h
    rw [vF] at hw
    have a1:=vU hw.1
    have a2:=vU hw.2
    subst a1 a2
    refine .same hC (qZ hsl h3 h4 (by omega)) ?_
    simp only [qU]; exact ⟨_,rfl,hs⟩
   | false =>
    rw [hw,cond_false] at h
    obtain ⟨hb',h⟩:=zM h
    cases h
    refine .same hC (qI9 (size:=size) (off:=off) hsl h3 h4 (by omega) (lB hb') ?_) ?_
    ·rintro ⟨rfl,rfl⟩
     rw [Nat.beq_refl,Nat.beq_refl] at hw
     cases hw
    simp only [qU]; exact ⟨_,rfl,bU (bV hs)⟩
  obtain ⟨hb',h'⟩:=zM h
  rw [vF] at hb'
  have a1:=vU hb'.1
  subst a1
  obtain ⟨hy,ho⟩:=qJn h'
  obtain ⟨q,hq,hr⟩:=kR hs hy
  exact .same hC (zI (off:=off) hsl h3 h4 hq (sA ho hr) (Nat.lt_of_succ_le (lB hb'.2))) hr
 ·rename_i y' hns hf
  obtain ⟨hb',h⟩:=zM h
  cases h
  simp only [vF] at hb'
  obtain ⟨⟨⟨⟨a0,a1⟩,a2⟩,a3⟩,a4⟩:=hb'
  have a2:=vU a2
  have a3:=vU a3
  have a4:=vU a4
  subst a2 a3 a4
  have a0:ag=false:=by simpa using a0
  subst a0
  obtain ⟨x',d',i',z,h1,h2,h3,h4,h5⟩:=eE hC.e hf
  simp only at h1 h2 h3 h4 h5
  rw [hd.1] at h1; rw [hx] at h2
  cases h1; cases h2
  exact .same hC (jE hsl h3 h4 (sA a1 h5)) h5
 cases h
theorem qPy (hC:COk σ C) {ty:TypeId} {t f:List vY} {d:D} (hd:qU σ (.bool t f) d):yY E σ (.un .not ty) [d] (C,.bool f t):=by
 simp only [qU] at hd
 obtain ⟨b,rfl,h1,h2⟩:=hd
 refine .same hC v6 ?_
 simp only [qU]
 exact ⟨!b,rfl,fun h=>h2 (by simpa using h),fun h=>h1 (by simpa using h)⟩
theorem qML (hC:COk σ C) {n:Nat} {cs:List Y} {d:D} (hd:qU σ (.st cs) d) (h:Nat.beq cs.length n=true):yY E σ (.chk true n) [d] (C,.st cs):=by
 have hd':=hd
 simp only [qU] at hd'
 obtain ⟨es,rfl,hs⟩:=hd'
 exact .same hC (qI (by rw [← rK hs]; exact vU h)) hd
theorem qMM (hC:COk σ C) {y:Y} {d:D} (hd:qU σ y d) (h:qDp y=true):yY E σ (.chk false 1) [d] (C,y) :=
 .same hC (wN (sA h hd)) hd
theorem qP1 (hC:COk σ C) {i:Nat} {cs:List Y} {y:Y} {d:D} (hd:qU σ (.tup cs) d) (h:cs[i]? = some y):yY E σ (.ext i) [d] (C,y):=by
 simp only [qU] at hd
 obtain ⟨es,rfl,hs⟩:=hd
 obtain ⟨q,hq,hr⟩:=kR hs h
 exact .same hC (vP hq) hr
def bA (C:Cx) (v:Nat) (c:Int):Bool:=kK C.F C.L v c 0 4000000000000000000 && kK C.F C.L 0 (-4000000000000000000) v c
theorem mD (hC:COk σ C) {v:Nat} {c:Int} {x:Int × D} (hv:σ[v]? = some x) (h:bA C v c=true) : -4000000000000000000<=x.1+c/\x.1+c<=4000000000000000000:=by
 unfold bA at h
 rw [vF] at h
 obtain ⟨z,hz⟩:=hC.s.z
 have h1:=vR hC.s h.1 hv hz
 have h2:=vR hC.s h.2 hz hv
 simp only at h1 h2
 omega
def qUM (C:Cx) (w:Nat) (e:Int):Option Int :=
 let acc:=qFH C.F 4 [(w,0)]
 C.L.foldl (fun m p=>match mE acc p.1 with
  | some d=>(match m with
   | some u=>some (bif decide (d+p.2+e<=u) then d+p.2+e else u)
   | none=>some (d+p.2+e))
  | none=>m) (match mE acc 0 with | some d=>some (d+e) | none=>none)
def qSK (C:Cx) (v:Nat) (c:Int) (w:Nat) (e:Int):List vY :=
 bif kK C.F C.L 0 1 w e then [(v,C.nx,-c - 1)] else bif kK C.F C.L 0 0 w e then [(v,C.nx,-c)] else []
def qSM (C:Cx) (v:Nat) (c:Int) (w:Nat) (e:Int):List vY:=match qUM C w e with
 | some u=>bif kK C.F C.L w e 0 u then [(C.nx,v,c+u)] else []
 | none=>[]
def qSy (C:Cx) (v:Nat) (c:Int) (w:Nat) (e:Int):List vY:=qSK C v c w e++qSM C v c w e++qSK C w e v c++qSM C w e v c
def qQq (C:Cx) (v:Nat) (c:Int) (w:Nat) (e:Int):Cx × Y :=
 bif Nat.beq w 0 && bA C v (c+e) then (C,.int .i64 v (c+e)) else
 bif Nat.beq v 0 && bA C w (e+c) then (C,.int .i64 w (e+c)) else
 bif bA C v c && bA C w e then (C.add (qSy C v c w e) [] [] 1,.int .i64 C.nx 0) else (C.add [] [] [] 1,.int .i64 C.nx 0)
theorem qJT (hC:COk σ C) {v w:Nat} {c e:Int} {x y:Int × D} (hx:σ[v]? = some x) (hy:σ[w]? = some y) {n:Int} (hn:n=x.1+c+(y.1+e)):∀ q∈qSK C v c w e,eF (σ++[(n,D.nil)]) q:=by
 obtain ⟨z,hz⟩:=hC.s.z
 intro q hq
 unfold qSK at hq
 cases h1:kK C.F C.L 0 1 w e with
 | true =>
  rw [h1,cond_true,List.mem_singleton] at hq
  subst hq
  have:=vR hC.s h1 hz hy
  exact ⟨_,_,z6 hx,get_new hC _,by simp only at this ⊢; omega⟩
 | false =>
  rw [h1,cond_false] at hq
  cases h0:kK C.F C.L 0 0 w e with
  | true =>
   rw [h0,cond_true,List.mem_singleton] at hq
   subst hq
   have:=vR hC.s h0 hz hy
   exact ⟨_,_,z6 hx,get_new hC _,by simp only at this ⊢; omega⟩
  | false=>rw [h0] at hq; cases hq
theorem qJ5 (hC:COk σ C) {v w:Nat} {c e:Int} {x y:Int × D} (hx:σ[v]? = some x) (hy:σ[w]? = some y) {n:Int} (hn:n=x.1+c+(y.1+e)):∀ q∈qSM C v c w e,eF (σ++[(n,D.nil)]) q:=by
 obtain ⟨z,hz⟩:=hC.s.z
 intro q hq
 unfold qSM at hq
 split at hq
 ·rename_i u _
  cases h1:kK C.F C.L w e 0 u with
  | true =>
   rw [h1,cond_true,List.mem_singleton] at hq
   subst hq
   have:=vR hC.s h1 hy hz
   exact ⟨_,_,get_new hC _,z6 hx,by simp only at this ⊢; omega⟩
  | false=>rw [h1] at hq; cases hq
 cases hq
theorem qQp (hC:COk σ C) {ty:TypeId} {a b:Operand} {v w:Nat} {c e:Int} {d d':D} (hd:qU σ (.int .i64 v c) d) (hd':qU σ (.int .i64 w e) d') :
  yY E σ (.bin .add ty a b) [d,d'] (qQq C v c w e):=by
 simp only [qU] at hd hd'
 obtain ⟨x,hx,rfl⟩:=hd
 obtain ⟨y,hy,rfl⟩:=hd'
 obtain ⟨z,hz⟩:=hC.s.z
 unfold qQq
 cases hb:(Nat.beq w 0 && bA C v (c+e)) with
 | true =>
  rw [vF] at hb
  have hw:=vU hb.1
  subst hw
  rw [hz] at hy; cases hy
  have:=mD hC hx hb.2
  refine .same hC (yK (by omega)) ?_
  simp only [qU]
  exact ⟨x,hx,by show dI (x.1+c+(0+e))=dI (x.1+(c+e)); rw [show x.1+c+(0+e)=x.1+(c+e) by omega]⟩
 | false =>
  rw [cond_false]
  cases hb:(Nat.beq v 0 && bA C w (e+c)) with
  | true =>
   rw [vF] at hb
   have hw:=vU hb.1
   subst hw
   rw [hz] at hx; cases hx
   have:=mD hC hy hb.2
   refine .same hC (yK (by omega)) ?_
   simp only [qU]
   exact ⟨y,hy,by show dI (0+c+(y.1+e))=dI (y.1+(e+c)); rw [show 0+c+(y.1+e)=y.1+(e+c) by omega]⟩
  | false =>
   rw [cond_false]
   cases hb:(bA C v c && bA C w e) with
   | false=>exact .num hC dD (by simp)
   | true =>
    rw [vF] at hb
    have h1:=mD hC hx hb.1
    have h2:=mD hC hy hb.2
    refine .num hC (yK (by omega)) fun q hq=>?_
    unfold qSy at hq
    rcases List.mem_append.1 hq with hq | hq
    ·rcases List.mem_append.1 hq with hq | hq
     ·rcases List.mem_append.1 hq with hq | hq
      ·exact qJT hC hx hy rfl q hq
      exact qJ5 hC hx hy rfl q hq
     exact qJT hC hy hx (by omega) q hq
    exact qJ5 hC hy hx (by omega) q hq
def qRA (C:Cx) (v:Nat) (c:Int) (w:Nat) (e:Int):List vY :=
 (bif kK C.F C.L w e v c then [(0,C.nx,0)] else [])++(bif kK C.F C.L 0 0 w e then [(C.nx,v,c)] else [])
def qO3 (C:Cx) (v:Nat) (c:Int) (w:Nat) (e:Int):Cx × Y :=
 bif Nat.beq w 0 && bA C v (c - e) then (C,.int .i64 v (c - e)) else
 bif bA C v c && bA C w e then (C.add (qRA C v c w e) [] [] 1,.int .i64 C.nx 0) else (C.add [] [] [] 1,.int .i64 C.nx 0)
theorem qO2 (hC:COk σ C) {ty:TypeId} {a b:Operand} {v w:Nat} {c e:Int} {d d':D} (hd:qU σ (.int .i64 v c) d) (hd':qU σ (.int .i64 w e) d') :
  yY E σ (.bin .sub ty a b) [d,d'] (qO3 C v c w e):=by
 simp only [qU] at hd hd'
 obtain ⟨x,hx,rfl⟩:=hd
 obtain ⟨y,hy,rfl⟩:=hd'
 obtain ⟨z,hz⟩:=hC.s.z
 unfold qO3
 cases hb:(Nat.beq w 0 && bA C v (c - e)) with
 | true =>
  rw [vF] at hb
  have hw:=vU hb.1
  subst hw
  rw [hz] at hy; cases hy
  have:=mD hC hx hb.2
  refine .same hC (qI8 (by omega)) ?_
  simp only [qU]
  exact ⟨x,hx,by show dI (x.1+c - (0+e))=dI (x.1+(c - e)); rw [show x.1+c - (0+e)=x.1+(c - e) by omega]⟩
 | false =>
  rw [cond_false]
  cases hb:(bA C v c && bA C w e) with
  | false=>exact .num hC aV (by simp)
  | true =>
   rw [vF] at hb
   have h1:=mD hC hx hb.1
   have h2:=mD hC hy hb.2
   refine .num hC (qI8 (by omega)) fun q hq=>?_
   unfold qRA at hq
   rcases List.mem_append.1 hq with hq | hq
   ·cases h:kK C.F C.L w e v c with
    | false=>rw [h] at hq; cases hq
    | true =>
     rw [h,cond_true,List.mem_singleton] at hq
     subst hq
     have:=vR hC.s h hy hx
     exact ⟨_,_,z6 hz,get_new hC _,by simp only; omega⟩
   cases h:kK C.F C.L 0 0 w e with
   | false=>rw [h] at hq; cases hq
   | true =>
    rw [h,cond_true,List.mem_singleton] at hq
    subst hq
    have:=vR hC.s h hz hy
    exact ⟨_,_,get_new hC _,z6 hx,by simp only at this ⊢; omega⟩
theorem qPB (hC:COk σ C) {ty:TypeId} {a b:Operand} {v w:Nat} {c e:Int} {d d':D} (hd:qU σ (.int .i64 v c) d) (hd':qU σ (.int .i64 w e) d') :
  yY E σ (.bin .mul ty a b) [d,d'] (C.add [] [] [] 1,.int .i64 C.nx 0):=by
 simp only [qU] at hd hd'
 obtain ⟨x,hx,rfl⟩:=hd
 obtain ⟨y,hy,rfl⟩:=hd'
 exact .num hC dC (by simp)
theorem qRU (hC:COk σ C) {m:Bool} {v w:Nat} {c e:Int} {d d':D} (hd:qU σ (.int .i64 v c) d) (hd':qU σ (.int .i64 w e) d') :
  yY E σ (.mm m) [d,d'] (C.add [] [] [] 1,.int .i64 C.nx 0):=by
 simp only [qU] at hd hd'
 obtain ⟨x,hx,rfl⟩:=hd
 obtain ⟨y,hy,rfl⟩:=hd'
 obtain ⟨n,hn⟩:=qRV (E:=E) m (x.1+c) (y.1+e)
 exact .num hC hn (by simp)
end
end Go.Am.Tt
namespace Go.Am.Tt
open Go Go.Am
mutual
def Sn.sh:Sn->Sh
 | .int k=>.int k
 | .bool=>.bool
 | .str _=>.str
 | .st fs=>.st (Sn.shs fs)
 | .sl el sz _ e=>.sl el sz (Sn.sh e)
 | .any=>.bool
def Sn.shs:List Sn->List Sh
 | []=>[]
 | s::r=>Sn.sh s::Sn.shs r
end
mutual
def Sn.low:Sn->Bool
 | .int _=>true
 | .bool=>true
 | .str n=>Nat.ble n 300000000
 | .st fs=>Sn.lows fs
 | .sl _ _ n e=>Nat.ble n 300000000 && Sn.low e
 | .any=>false
def Sn.lows:List Sn->Bool
 | []=>true
 | s::r=>Sn.low s && Sn.lows r
end
mutual
theorem yA:∀ {s:Sn} {d:D},Sn.low s=true->vA s d->qS 300000000 s.sh d
 | .int k,d,_,h=>by simp only [vA] at h; simp only [Sn.sh,qS]; exact h
 | .bool,d,_,h=>by simp only [vA] at h; simp only [Sn.sh,qS]; exact h
 | .str n,d,hl,h=>by
  simp only [vA] at h; simp only [Sn.sh,qS]
  obtain ⟨s,hs,hn⟩:=h
  exact ⟨s,hs,lT hn (lB hl)⟩
 | .st fs,d,hl,h=>by
  simp only [vA] at h; simp only [Sn.sh,qS]
  obtain ⟨cs,hd,h⟩:=h
  exact ⟨cs,hd,sI hl h⟩
 | .sl el sz n e,d,hl,h=>by
  simp only [Sn.low,vF] at hl
  simp only [vA] at h; simp only [Sn.sh,qS]
  rcases h with h | ⟨es,hd,hn,ha⟩
  ·exact .inl h
  exact .inr ⟨es,hd,lT hn (lB hl.1),fun x hx=>yA hl.2 (ha x hx)⟩
 | .any,d,hl,h=>by simp only [Sn.low] at hl; cases hl
theorem sI:∀ {ss:List Sn} {ds:List D},Sn.lows ss=true->zZ ss ds->j5 300000000 (Sn.shs ss) ds
 | [],ds,_,h=>by simp only [zZ] at h; simp only [Sn.shs,j5]; exact h
 | s::r,ds,hl,h=>by
  simp only [Sn.lows,vF] at hl
  simp only [zZ] at h; simp only [Sn.shs,j5]
  obtain ⟨d,r',hd,h1,h2⟩:=h
  exact ⟨d,r',hd,yA hl.1 h1,sI hl.2 h2⟩
end
section
variable {E:Env} {σ:Wd} {C:Cx}
theorem fQ:∀ {fs:List Sn} {cs:List D},zZ fs cs->cs.length=fs.length
 | [],cs,h=>by simp only [zZ] at h; subst h; rfl
 | f::fs,cs,h=>by simp only [zZ] at h; obtain ⟨d,r,rfl,_,h⟩:=h; simp [fQ h]
def qFJ:Sn->Nat
 | .st fs=>fs.length
 | _=>1
def qOs:Sn->Bool
 | .any=>false
 | _=>true
theorem qMN {s:Sn} {d:D} (hr:qOs s=true) (h:vA s d):d.cells.length=qFJ s:=by
 cases s <;> first | (cases hr; done) | simp only [vA] at h
 ·obtain ⟨_,rfl⟩:=h; rfl
 ·obtain ⟨_,rfl⟩:=h; rfl
 ·obtain ⟨_,rfl,_⟩:=h; rfl
 ·obtain ⟨cs,rfl,h⟩:=h
  show cs.length=_
  simp only [qFJ]
  exact fQ h
 rcases h with rfl | ⟨es,rfl,_⟩ <;> rfl
theorem qD3 {C:Cx} (hC:COk σ C) {e:Sn}:∀ {ys:List Y} {ds:List D},ys.all (fun y=>cE C y e)=true->qR σ ys ds->∀ x∈ds,vA e x
 | [],ds,_,h=>by simp only [qR] at h; subst h; intro x hx; cases hx
 | y::ys,ds,ha,h=>by
  simp only [qR] at h
  obtain ⟨d,r,rfl,h1,h2⟩:=h
  simp only [List.all_cons,vF] at ha
  intro x hx
  rcases List.mem_cons.1 hx with rfl | hx
  ·exact qCw hC ha.1 h1
  exact qD3 hC ha.2 h2 x hx
def qPJ (C:Cx) (el sz:Nat) (e:Sn) (ys:List Y):Option (Cx × Y) :=
 bif qOs e && ys.all (fun y=>cE C y e) && Nat.beq (qFJ e) sz && Nat.ble (Nat.mul ys.length (Nat.succ sz)) 1000000 then
  some (C.add [(C.nx,0,ys.length),(0,C.nx,-(ys.length:Int))] [(C.nx,ys.length)] [] 1,.sl C.nx el sz ys.length e) else none
theorem qPI (hC:COk σ C) {el sz:Nat} {e:Sn} {ys:List Y} {ds:List D} {r:Cx × Y} (hd:qR σ ys ds) (h:qPJ C el sz e ys=some r):yY E σ (.lit el sz) ds r:=by
 unfold qPJ at h
 obtain ⟨hb,h⟩:=zM h
 cases h
 simp only [vF] at hb
 obtain ⟨⟨⟨h0,h1⟩,h2⟩,h3⟩:=hb
 have hl:=rK hd
 have hall:=qD3 hC h1 hd
 have h2:=vU h2
 have hev:TOp.eval E (.lit el sz) ds=some (.sl el sz ds):=by
  rw [qCA]
  refine oM ?_
  rw [vF]
  refine ⟨List.all_eq_true.2 fun x hx=>?_,by rw [← hl]; exact h3⟩
  rw [qMN h0 (hall x hx),h2]; exact Nat.beq_refl _
 obtain ⟨z,hz⟩:=hC.s.z
 refine .list hC hev ?_ (f2 ⟨_,_,get_new hC _,z6 hz,?_⟩ ⟨_,_,z6 hz,get_new hC _,?_⟩)
 ·simp only [vA]
  exact .inr ⟨ds,rfl,by omega,hall⟩
 ·show ((ds.length:Nat):Int)<=0+(ys.length:Int); omega
 show (0:Int)<=((ds.length:Nat):Int) + -(ys.length:Int); omega
def qQe (C:Cx) (n v:Nat) (c:Int):Bool:=kK C.F C.L 0 0 v c && kK C.F C.L v (c+1) n 0
theorem qQd (hC:COk σ C) {n b v:Nat} {c:Int} {d i:D} (hd:qU σ (.str n b) d) (hi:qU σ (.int .i64 v c) i) (h:qQe C n v c=true) :
  yY E σ .chr [d,i] (C.add [(0,C.nx,0),(C.nx,0,255)] [] [] 1,.int .u8 C.nx 0):=by
 simp only [qU] at hd hi
 obtain ⟨s,x,rfl,h1,h2,_⟩:=hd
 obtain ⟨y,hy,rfl⟩:=hi
 unfold qQe at h
 rw [vF] at h
 obtain ⟨z,hz⟩:=hC.s.z
 have l1:=vR hC.s h.1 hz hy
 have l2:=vR hC.s h.2 hy h1
 simp only at l1
 obtain ⟨m,m0,m1,he⟩:=fA (E:=E) (s:=s) (i:=y.1+c) (by omega) (by omega)
 exact .num hC he (f2 ⟨_,_,z6 hz,get_new hC _,by simp only; omega⟩ ⟨_,_,get_new hC _,z6 hz,by simp only; omega⟩)
end
end Go.Am.Tt
namespace Go.Am.Tt
open Go Go.Am
def Ls (el sz:Nat) (d:D):Prop:=d=.nil∨∃ es,d=.sl el sz es
theorem tC {el sz b:Nat} {e:Sn} {d:D}:vA (.sl el sz b e) d↔Ls el sz d/\d.es.length<=b/\∀ x∈d.es,vA e x:=by
 constructor
 ·intro h
  simp only [vA] at h
  rcases h with rfl | ⟨es,rfl,hl,ha⟩
  ·exact ⟨.inl rfl,Nat.zero_le _,fun x hx=>by cases hx⟩
  exact ⟨.inr ⟨es,rfl⟩,hl,ha⟩
 rintro ⟨h,hl,ha⟩
 simp only [vA]
 rcases h with rfl | ⟨es,rfl⟩
 ·exact .inl rfl
 exact .inr ⟨es,rfl,hl,ha⟩
section
variable {E:Env} {σ:Wd} {C:Cx}
theorem qMY {el sz bytes:Nat} {a b:D} (ha:Ls el sz a) (hb:Ls el sz b) (hbytes:bytes<=80) (hl:a.es.length+b.es.length<=300000000) :
  ∃ y,TOp.eval E (.app el sz bytes) [a,b]=some y/\Ls el sz y/\y.es=a.es++b.es:=by
 have hss:pC a=some a.es.length:=by
  rcases ha with rfl | ⟨es,rfl⟩ <;> rfl
 rw [fY,hss]
 rcases hb with rfl | ⟨es,rfl⟩
 ·refine ⟨a,?_,ha,by simp [D.es]⟩
  have h1:Nat.ble (Nat.mul (Nat.add (Nat.mul 4 a.es.length) 4000) (Nat.succ bytes)) 100000000000=true:=mB (by have:(D.nil).es.length=0:=rfl; omega) hbytes
  have e0:∀ (b:Bool) (x:Option D),b=true->(bif b then x else none)=x:=fun b x hb=>by rw [hb]; rfl
  exact e0 _ _ h1
 have h1:Nat.ble (Nat.mul (Nat.add (Nat.mul 4 (Nat.add a.es.length es.length)) 4000) (Nat.succ bytes)) 100000000000=true:=mB hl hbytes
 have h2:Nat.beq sz sz=true:=Nat.beq_refl _
 have tt:∀ (b:Bool) (x y:Option D),b=true->(bif b then x else y)=x:=fun b x y hb=>by rw [hb]; rfl
 rcases ha with rfl | ⟨es',rfl⟩
 ·refine ⟨if es.length=0 then .nil else .sl el sz ([]++es),(tt _ _ _ (by rw [h1,h2]; rfl)).trans ?_,?_,?_⟩
  ·rw [qV]; split <;> rfl
  ·split
   ·exact .inl rfl
   exact .inr ⟨_,rfl⟩
  split
  ·rename_i h0
   have:=List.eq_nil_of_length_eq_zero h0
   subst this; rfl
  rfl
 refine ⟨if es.length=0 then .sl el sz es' else .sl el sz (es'++es),(tt _ _ _ (by rw [h1,h2]; show (true && true && (Nat.beq el el && Nat.beq sz sz))=true; rw [Nat.beq_refl,Nat.beq_refl]; rfl)).trans ?_,?_,?_⟩
 ·rw [qV]; split <;> rfl
 ·split
  ·exact .inr ⟨_,rfl⟩
  exact .inr ⟨_,rfl⟩
 split
 ·rename_i h0
  have:=List.eq_nil_of_length_eq_zero h0
  subst this
  show es'=es'++[]
  simp
 rfl
theorem qQk (hC:COk σ C) {el sz bytes n1 b1 n2 b2:Nat} {e:Sn} {a c:D} (ha:qU σ (.sl n1 el sz b1 e) a) (hc:qU σ (.sl n2 el sz b2 e) c) (hbytes:Nat.ble bytes 80=true)
  {m k m' k':Nat} (hm:kK C.F C.L n1 0 0 m=true) (hk:kK C.F C.L n2 0 0 k=true) (hm':kK C.F C.L 0 m' n1 0=true) (hk':kK C.F C.L 0 k' n2 0=true) (hmk:Nat.ble (m+k) 300000000=true) :
  yY E σ (.app el sz bytes) [a,c] (C.add [(n1,C.nx,-(k':Int)),(C.nx,n1,(k:Int)),(n2,C.nx,-(m':Int)),(C.nx,n2,(m:Int))] [(C.nx,m+k)] [] 1,.sl C.nx el sz (m+k) e):=by
 simp only [qU] at ha hc
 obtain ⟨ha0,ha1⟩:=ha
 obtain ⟨hc0,hc1⟩:=hc
 have l1:=eI hC ha0 hm
 have l2:=eI hC hc0 hk
 obtain ⟨z,hz⟩:=hC.s.z
 have l3:=vR hC.s hm' hz ha0
 have l4:=vR hC.s hk' hz hc0
 simp only at l1 l2 l3 l4
 have hmk:=lB hmk
 rw [tC] at ha1 hc1
 obtain ⟨y,e1,e2,e3⟩:=qMY (E:=E) ha1.1 hc1.1 (lB hbytes) (by omega)
 have hlen:y.es.length=a.es.length+c.es.length:=by rw [e3,List.length_append]
 refine .list hC e1 (tC.2 ⟨e2,by omega,fun x hx=>?_⟩) ?_
 ·rw [e3] at hx
  rcases List.mem_append.1 hx with hx | hx
  ·exact ha1.2.2 x hx
  exact hc1.2.2 x hx
 intro q hq
 simp only [List.mem_cons,List.not_mem_nil,or_false] at hq
 rcases hq with rfl | rfl | rfl | rfl
 ·exact ⟨_,_,z6 ha0,get_new hC _,by simp only; omega⟩
 ·exact ⟨_,_,get_new hC _,z6 ha0,by simp only; omega⟩
 ·exact ⟨_,_,z6 hc0,get_new hC _,by simp only; omega⟩
 exact ⟨_,_,get_new hC _,z6 hc0,by simp only; omega⟩
theorem qR4 (hC:COk σ C) {el sz n b v:Nat} {c:Int} {e:Sn} {l i:D} (hl:qU σ (.sl n el sz b e) l) (hi:qU σ (.int .i64 v c) i) (hb:Nat.ble b 300000000=true)
  (h0:kK C.F C.L 0 0 v c=true) (h1:kK C.F C.L v c n 0=true) :
  yY E σ (.slc el sz false true) [l,i] (C.add [(C.nx,v,c),(v,C.nx,-c)] [(C.nx,b)] [] 1,.sl C.nx el sz b e):=by
 simp only [qU] at hl hi
 obtain ⟨x,hx,rfl⟩:=hi
 obtain ⟨hl0,hl1⟩:=hl
 obtain ⟨z,hz⟩:=hC.s.z
 have l0:=vR hC.s h0 hz hx
 have l1:=vR hC.s h1 hx hl0
 simp only at l0 l1
 have hl2:=hl1
 simp only [vA] at hl2
 rcases hl2 with rfl | ⟨es,rfl,hlen,ha⟩
 ·have hz':(D.nil).es.length=0:=rfl
  rw [hz'] at l1 hl0
  have hj:x.1+c=0:=by omega
  refine .list hC (d:=.nil) ?_ hl1 (f2 ⟨_,_,get_new hC _,z6 hx,by simp only [hz']; omega⟩ ⟨_,_,z6 hx,get_new hC _,by simp only [hz']; omega⟩)
  show TOp.eval E (.slc el sz false true) [.nil,dI (x.1+c)]=_
  rw [hj]; rfl
 have he:(D.sl el sz es).es.length=es.length:=rfl
 rw [he] at l1 hl0
 have hev:TOp.eval E (.slc el sz false true) [.sl el sz es,dI (x.1+c)]=some (.sl el sz (es.take (x.1+c).toNat)):=by
  rw [qCy]
  have hb0:v9 false 0 [dI (x.1+c)]=some (0,[dI (x.1+c)]):=rfl
  have hb':v9 true es.length [dI (x.1+c)]=some ((x.1+c).toNat,[]):=by simp only [v9,cond_true,gA (by omega:0<=x.1+c),Option.map_some]
  simp only [hb0,hb']
  refine (oM ?_).trans ?_
  ·rw [Nat.beq_refl,Nat.beq_refl,bL (Nat.zero_le _),bL (by omega)]; rfl
  simp
 have hn:((es.take (x.1+c).toNat).length:Int)=x.1+c:=by rw [List.length_take]; omega
 have hn':((D.sl el sz (es.take (x.1+c).toNat)).es.length:Int)=x.1+c:=hn
 refine .list hC hev (by simp only [vA]; exact .inr ⟨_,rfl,by rw [List.length_take]; omega,fun y hy=>ha y (List.mem_of_mem_take hy)⟩) (f2 ⟨_,_,get_new hC _,z6 hx,by simp only [hn']; omega⟩ ⟨_,_,z6 hx,get_new hC _,by simp only [hn']; omega⟩)
end
end Go.Am.Tt
namespace Go.Am.Tt
open Go Go.Am
section
variable {E:Env} {σ:Wd} {C:Cx}
theorem qRY (hC:COk σ C) {el sz n b v:Nat} {c:Int} {e:Sn} {l i:D} (hl:qU σ (.sl n el sz b e) l) (hi:qU σ (.int .i64 v c) i)
  (h0:kK C.F C.L 0 0 v c=true) (h1:kK C.F C.L v c n 0=true) :
  yY E σ (.slc el sz true false) [l,i] (C.add [(C.nx,n,0)] [(C.nx,b)] [] 1,.sl C.nx el sz b e):=by
 simp only [qU] at hl hi
 obtain ⟨x,hx,rfl⟩:=hi
 obtain ⟨hl0,hl1⟩:=hl
 obtain ⟨z,hz⟩:=hC.s.z
 have l0:=vR hC.s h0 hz hx
 have l1:=vR hC.s h1 hx hl0
 simp only at l0 l1
 have hl2:=hl1
 simp only [vA] at hl2
 rcases hl2 with rfl | ⟨es,rfl,hlen,ha⟩
 ·have hz':(D.nil).es.length=0:=rfl
  rw [hz'] at l1 hl0
  have hj:x.1+c=0:=by omega
  refine .list hC (d:=.nil) ?_ hl1 (f1 (get_new hC _) (z6 hl0) (by simp only [hz']; omega))
  show TOp.eval E (.slc el sz true false) [.nil,dI (x.1+c)]=_
  rw [hj]; rfl
 have he:(D.sl el sz es).es.length=es.length:=rfl
 rw [he] at l1 hl0
 have hev:TOp.eval E (.slc el sz true false) [.sl el sz es,dI (x.1+c)]=some (.sl el sz (es.drop (x.1+c).toNat)):=by
  rw [qCy]
  have hb0:v9 true 0 [dI (x.1+c)]=some ((x.1+c).toNat,[]):=by simp only [v9,cond_true,gA (by omega:0<=x.1+c),Option.map_some]
  have hb':v9 false es.length ([]:List D)=some (es.length,[]):=rfl
  simp only [hb0,hb']
  refine (oM ?_).trans ?_
  ·rw [Nat.beq_refl,Nat.beq_refl,bL (by omega),bL (lR _)]; rfl
  rw [List.take_of_length_le (by rw [List.length_drop]; omega)]
 have hn':(D.sl el sz (es.drop (x.1+c).toNat)).es.length=es.length - (x.1+c).toNat:=List.length_drop
 exact .list hC hev (by simp only [vA]; exact .inr ⟨_,rfl,by rw [List.length_drop]; omega,fun y hy=>ha y (List.mem_of_mem_drop hy)⟩) (f1 (get_new hC _) (z6 hl0) (by simp only [hn']; omega))
theorem yY.text (hC:COk σ C) {o:TOp} {ds:List D} {s:ByteArray} {b:Nat} (he:TOp.eval E o ds=some (.leaf (.string s))) (hs:s.size<=b) {F:List vY}
  (hF:∀ q∈F,eF (σ++[((s.size:Int),D.nil)]) q):yY E σ o ds (C.add F [(C.nx,b)] [] 1,.str C.nx b):=by
 refine ⟨_,[((s.size:Int),.nil)],he,hC.ext hF (fun q hq=>?_) (by simp) rfl,?_⟩
 ·rw [List.mem_singleton] at hq; subst hq
  exact ⟨_,get_new hC _,by simp,by simp; omega⟩
 simp only [qU]
 exact ⟨s,_,rfl,get_new hC _,rfl,hs⟩
theorem qLC (hC:COk σ C) {n b v w:Nat} {c e:Int} {d i j:D} (hd:qU σ (.str n b) d) (hi:qU σ (.int .i64 v c) i) (hj:qU σ (.int .i64 w e) j)
  (h0:kK C.F C.L 0 0 v c=true) (h1:kK C.F C.L v c w e=true) (h2:kK C.F C.L w e n 0=true) :
  yY E σ (.sub true true) [d,i,j] (C.add [] [(C.nx,b)] [] 1,.str C.nx b):=by
 simp only [qU] at hd hi hj
 obtain ⟨s,y,rfl,hy,hs,hb⟩:=hd
 obtain ⟨x,hx,rfl⟩:=hi
 obtain ⟨u,hu,rfl⟩:=hj
 obtain ⟨z,hz⟩:=hC.s.z
 have l0:=vR hC.s h0 hz hx
 have l1:=vR hC.s h1 hx hu
 have l2:=vR hC.s h2 hu hy
 simp only at l0
 obtain ⟨t,ht,he⟩:=sT (E:=E) (B:=b) (s:=s) (i:=x.1+c) (j:=u.1+e) (by omega) (by omega) (by omega) hb
 exact .text hC he ht (by simp)
theorem qMQ (hC:COk σ C) {n el b:Nat} {d:D} (hd:qU σ (.sl n el 1 b (.int .u8)) d) (h1:kK C.F C.L 0 1 n 0=true) :
  yY E σ .bstr [d] (C.add [] [(C.nx,b)] [] 1,.str C.nx b):=by
 simp only [qU] at hd
 obtain ⟨hd0,hd1⟩:=hd
 obtain ⟨z,hz⟩:=hC.s.z
 have l1:=vR hC.s h1 hz hd0
 simp only at l1
 have hB:qS b (.sl el 1 (.int .u8)) d:=by
  simp only [vA] at hd1
  simp only [qS]
  exact hd1
 have hn:∃ es,d=.sl el 1 es:=by
  simp only [vA] at hd1
  rcases hd1 with rfl | ⟨es,rfl,_⟩
  ·have:(D.nil).es.length=0:=rfl
   omega
  exact ⟨es,rfl⟩
 obtain ⟨t,ht,he⟩:=qLk (E:=E) hB hn
 exact .text hC he ht (by simp)
end
end Go.Am.Tt
namespace Go.Am.Tt
open Go Go.Am
section
variable {E:Env} {σ:Wd} {C:Cx}
def qFW (e:Sn) (z:D):Bool:=match e,z with
 | .bool,.leaf (.bool _)=>true
 | .int k,.leaf (.int k' _)=>decide (k=k')
 | _,_=>false
theorem qIs {e:Sn} {z:D} (h:qFW e z=true):vA e z:=by
 unfold qFW at h
 split at h
 ·simp only [vA]; exact ⟨_,rfl⟩
 ·rw [decide_eq_true_eq] at h; subst h; simp only [vA]; exact ⟨_,rfl⟩
 cases h
theorem qRW (hC:COk σ C) {el sz bytes v b:Nat} {ag:Bool} {zs:List Value} {c:Int} {e:Sn} {i:D} (hi:qU σ (.int .i64 v c) i)
  (h0:kK C.F C.L 0 0 v c=true) (h1:kK C.F C.L v c 0 b=true) (hb:Nat.ble b 300000000=true)
  (hz:(Nat.beq zs.length sz && zs.all (fun v=>zL v && qN v) && (ag || Nat.beq sz 1))=true) (hs:Nat.ble (bytes+sz) 2=true) (he:qFW e (zD ag zs)=true) :
  yY E σ (.mk el sz bytes ag zs) [i] (C.add [(C.nx,v,c),(v,C.nx,-c)] [(C.nx,b)] [] 1,.sl C.nx el sz b e):=by
 simp only [qU] at hi
 obtain ⟨x,hx,rfl⟩:=hi
 obtain ⟨z,hz0⟩:=hC.s.z
 have l0:=vR hC.s h0 hz0 hx
 have l1:=vR hC.s h1 hx hz0
 simp only at l0 l1
 have hbb:=lB hb
 have hev:TOp.eval E (.mk el sz bytes ag zs) [dI (x.1+c)]=some (.sl el sz (List.replicate (x.1+c).toNat (zD ag zs))):=by
  rw [qKp,gA (by omega)]
  have hle:(x.1+c).toNat * (bytes+sz+1)<=1000000000:=by
   have:(x.1+c).toNat * (bytes+sz+1)<=300000000 * 3:=Nat.mul_le_mul (by omega) (by have:=lB hs; omega)
   omega
  exact oM (by rw [hz]; exact bL hle)
 have hn:((D.sl el sz (List.replicate (x.1+c).toNat (zD ag zs))).es.length:Int)=x.1+c:=by
  show ((List.replicate (x.1+c).toNat (zD ag zs)).length:Int)=_
  rw [List.length_replicate]; omega
 refine .list hC hev ?_ (f2 ⟨_,_,get_new hC _,z6 hx,by simp only [hn]; omega⟩ ⟨_,_,z6 hx,get_new hC _,by simp only [hn]; omega⟩)
 simp only [vA]
 exact .inr ⟨_,rfl,by rw [List.length_replicate]; omega,fun y hy=>by rw [List.eq_of_mem_replicate hy]; exact qIs he⟩
theorem qHd (hC:COk σ C) {ty:TypeId} {a b:Operand} {op:BinOp} (hop:op=.eql∨op=.neq) {n b1 m b2:Nat} {d d':D} (hd:qU σ (.str n b1) d) (hd':qU σ (.str m b2) d') :
  yY E σ (.bin op ty a b) [d,d'] (C,.bool [] []):=by
 simp only [qU] at hd hd'
 obtain ⟨s,_,rfl,_⟩:=hd
 obtain ⟨t,_,rfl,_⟩:=hd'
 have fin:∀ r:Bool,qU σ (.bool [] []) (dB r):=by
  intro r; simp only [qU]; exact ⟨r,rfl,fun _ q hq=>(by cases hq),fun _ q hq=>(by cases hq)⟩
 rcases hop with rfl | rfl
 ·exact .same hC aW (fin _)
 exact .same hC dE (fin _)
theorem qI1 (hC:COk σ C) {ty:TypeId} {a b:Operand} {op:BinOp} (hop:op=.neq∨op=.eql) {ss:List Sn} {cs cs':List Y} {d d':D} {k:Nat} {sh:List Sh}
  (hd:qU σ (.st cs) d) (hd':qU σ (.st cs') d') (h1:mG C cs ss=true) (h2:mG C cs' ss=true) (hl:Sn.lows ss=true)
  (ht:cH E.prog k ty=some sh) (hsh:sh=Sn.shs ss) (hst:rV E.prog ty=true) (hk:k<=10000) (hg:E.prog.eqGuardType E.prog.depth ty=false) (hf:(Sn.shs ss).all qBC=true) :
  yY E σ (.bin op ty a b) [d,d'] (C,.bool [] []):=by
 subst hsh
 simp only [qU] at hd hd'
 obtain ⟨azq,rfl,ha⟩:=hd
 obtain ⟨bs,rfl,hb⟩:=hd'
 refine .same hC (aX op hop ht hst hk hg hf (qDL (sI hl (oY hC h1 ha))) (qDL (sI hl (oY hC h2 hb)))) ?_
 simp only [qU]
 exact ⟨_,rfl,fun _ q hq=>(by cases hq),fun _ q hq=>(by cases hq)⟩
end
end Go.Am.Tt
namespace Go.Am.Tt
open Go Go.Am
section
variable {E:Env} {σ:Wd} {C:Cx}
theorem yY.after {τ:Wd} {o:TOp} {ds:List D} {r:Cx × Y} (h:yY E (σ++τ) o ds r):yY E σ o ds r:=by
 obtain ⟨d,τ',h1,h2,h3⟩:=h
 exact ⟨d,τ++τ',h1,by rw [← List.append_assoc]; exact h2,by rw [← List.append_assoc]; exact h3⟩
def qST (C:Cx) (n:Nat):Nat :=
 let acc:=qFH C.F 4 [(n,0)]
 C.L.foldl (fun m p=>match mE acc p.1 with | some d=>Nat.min m (d+p.2).toNat | none=>m) (match mE acc 0 with | some d=>d.toNat | none=>300000001)
def qCm (C:Cx) (n:Nat):Nat:=C.F.foldl (fun m q=>bif Nat.beq q.1 0 && Nat.beq q.2.1 n then Nat.max m (-q.2.2).toNat else m) 0
def qKU (C:Cx) (el sz bytes:Nat) (n1 el1 sz1:Nat) (e1:Sn) (n2 el2 sz2:Nat) (e2:Sn):Option (Cx × Y) :=
 let m:=qST C n1
 let k:=qST C n2
 let m':=qCm C n1
 let k':=qCm C n2
 bif Nat.beq el1 el && Nat.beq sz1 sz && Nat.beq el2 el && Nat.beq sz2 sz && e2.fits e1 && Nat.ble bytes 80 && kK C.F C.L n1 0 0 m && kK C.F C.L n2 0 0 k && kK C.F C.L 0 m' n1 0 && kK C.F C.L 0 k' n2 0 && Nat.ble (m+k) 300000000 then
  some (C.add [(n1,C.nx,-(k':Int)),(C.nx,n1,(k:Int)),(n2,C.nx,-(m':Int)),(C.nx,n2,(m:Int))] [(C.nx,m+k)] [] 1,.sl C.nx el sz (m+k) e1) else none
theorem qCO (hC:COk σ C) {el sz bytes n1 el1 sz1 b1 n2 el2 sz2 b2:Nat} {e1 e2:Sn} {a c:D} {r:Cx × Y} (ha:qU σ (.sl n1 el1 sz1 b1 e1) a) (hc:qU σ (.sl n2 el2 sz2 b2 e2) c)
  (h:qKU C el sz bytes n1 el1 sz1 e1 n2 el2 sz2 e2=some r):yY E σ (.app el sz bytes) [a,c] r:=by
 unfold qKU at h
 obtain ⟨hb,h⟩:=zM h
 cases h
 simp only [vF] at hb
 obtain ⟨⟨⟨⟨⟨⟨⟨⟨⟨⟨a1,a2⟩,a3⟩,a4⟩,a5⟩,a6⟩,a7⟩,a8⟩,a9⟩,a10⟩,a11⟩:=hb
 have a1:=vU a1
 have a2:=vU a2
 have a3:=vU a3
 have a4:=vU a4
 subst a1 a2 a3 a4
 have hc':qU σ (.sl n2 el2 sz2 b2 e1) c:=by
  simp only [qU] at hc ⊢
  refine ⟨hc.1,?_⟩
  have:=tC.1 hc.2
  exact tC.2 ⟨this.1,this.2.1,fun x hx=>kH a5 (this.2.2 x hx)⟩
 exact qQk hC ha hc' a6 a7 a8 a9 a10 a11
def qPA (C:Cx):Cx:=C.add [(C.nx,0,0)] [(C.nx,0)] [] 1
theorem qJF (hC:COk σ C) (el sz:Nat) (e:Sn):COk (σ++[(0,D.nil)]) (qPA C)/\qU (σ++[(0,D.nil)]) (.sl C.nx el sz 0 e) .nil:=by
 obtain ⟨z,hz⟩:=hC.s.z
 refine ⟨hC.ext (f1 (get_new hC _) (z6 hz) (by simp)) (fun q hq=>?_) (by simp) rfl,?_⟩
 ·rw [List.mem_singleton] at hq; subst hq
  exact ⟨_,get_new hC _,by simp,by simp⟩
 simp only [qU]
 exact ⟨get_new hC _,tC.2 ⟨.inl rfl,Nat.zero_le _,fun x hx=>by cases hx⟩⟩
def qQm (C:Cx) (el sz bytes:Nat):Y->Y->Option (Cx × Y)
 | .sl n1 el1 sz1 _ e1,.sl n2 el2 sz2 _ e2=>qKU C el sz bytes n1 el1 sz1 e1 n2 el2 sz2 e2
 | .nil,.sl n2 el2 sz2 _ e2=>qKU (qPA C) el sz bytes C.nx el sz e2 n2 el2 sz2 e2
 | .sl n1 el1 sz1 _ e1,.nil=>qKU (qPA C) el sz bytes n1 el1 sz1 e1 C.nx el sz e1
 | _,_=>none
theorem qMZ (hC:COk σ C) {el sz bytes:Nat} {y1 y2:Y} {a c:D} {r:Cx × Y} (ha:qU σ y1 a) (hc:qU σ y2 c) (h:qQm C el sz bytes y1 y2=some r):yY E σ (.app el sz bytes) [a,c] r:=by
 unfold qQm at h
 split at h
 ·exact qCO hC ha hc h
 ·rename_i n2 el2 sz2 b2 e2
  have ha':a=.nil:=by simpa only [qU] using ha
  subst ha'
  obtain ⟨h1,h2⟩:=qJF hC el sz e2
  exact .after (qCO h1 h2 (oQ hc) h)
 ·rename_i n1 el1 sz1 b1 e1
  have hc':c=.nil:=by simpa only [qU] using hc
  subst hc'
  obtain ⟨h1,h2⟩:=qJF hC el sz e1
  exact .after (qCO h1 (oQ ha) h2 h)
 cases h
end
end Go.Am.Tt
namespace Go.Am.Tt
open Go Go.Am
section
variable {E:Env} {σ:Wd} {C:Cx}
abbrev Rs:=Option (Cx × Y)
def qPN (C:Cx) (str:Bool):List Y->Rs
 | [.sl n _ _ _ _]=>bif str then none else some (C,.int .i64 n 0)
 | [.nil]=>bif str then none else some (C,.int .i64 0 0)
 | [.str n _]=>bif str then some (C,.int .i64 n 0) else none
 | _=>none
theorem qMb (hC:COk σ C) {str:Bool} {ys:List Y} {ds:List D} {r:Cx × Y} (hd:qR σ ys ds) (h:qPN C str ys=some r):yY E σ (.len str) ds r:=by
 unfold qPN at h
 split at h
 ·simp only [qR] at hd
  obtain ⟨d,_,rfl,h1,rfl⟩:=hd
  cases str with
  | true=>cases h
  | false=>cases h; exact qPM hC h1
 ·simp only [qR,qU] at hd
  obtain ⟨d,_,rfl,rfl,rfl⟩:=hd
  cases str with
  | true=>cases h
  | false=>cases h; exact qMa hC
 ·simp only [qR] at hd
  obtain ⟨d,_,rfl,h1,rfl⟩:=hd
  cases str with
  | true=>cases h; exact qL9 hC h1
  | false=>cases h
 cases h
def qTw (C:Cx):List Y->Rs
 | [.sl n _ _ _ e,.int .i64 v c]=>qMk C n e v c
 | _=>none
theorem qPT (hC:COk σ C) {ys:List Y} {ds:List D} {r:Cx × Y} (hd:qR σ ys ds) (h:qTw C ys=some r):yY E σ .inr ds r:=by
 unfold qTw at h
 split at h
 ·simp only [qR] at hd
  obtain ⟨d,_,rfl,h1,i,_,rfl,h2,rfl⟩:=hd
  exact qJ1 hC h1 h2 h
 cases h
def qTF (C:Cx) (sz:Nat) (ag:Bool) (size off:Nat):List Y->Rs
 | [.sl n _ sz' b _,.int .i64 v c]=>bif Nat.ble b 300000000 && Nat.beq sz' sz then (qKw C n v c sz ag size off).map (fun y=>(C,y)) else none
 | _=>none
theorem qP8 (hC:COk σ C) {sz size off:Nat} {ag:Bool} {ys:List Y} {ds:List D} {r:Cx × Y} (hd:qR σ ys ds) (h:qTF C sz ag size off ys=some r):yY E σ (.elem sz ag size off) ds r:=by
 unfold qTF at h
 split at h
 ·simp only [qR] at hd
  obtain ⟨d,_,rfl,h1,i,_,rfl,h2,rfl⟩:=hd
  obtain ⟨hb,h⟩:=zM h
  rw [vF] at hb
  obtain ⟨y,hy,rfl⟩:=Option.map_eq_some_iff.1 h
  exact sN hC h1 h2 hb.1 hb.2 hy
 cases h
def qO5 (C:Cx) (ag:Bool) (n:Nat):List Y->Rs
 | [.st cs]=>bif ag && Nat.beq cs.length n then some (C,.st cs) else none
 | [y]=>bif !ag && Nat.beq n 1 && qDp y then some (C,y) else none
 | _=>none
theorem qLD (hC:COk σ C) {n:Nat} {ag:Bool} {ys:List Y} {ds:List D} {r:Cx × Y} (hd:qR σ ys ds) (h:qO5 C ag n ys=some r):yY E σ (.chk ag n) ds r:=by
 unfold qO5 at h
 split at h
 ·simp only [qR] at hd
  obtain ⟨d,_,rfl,h1,rfl⟩:=hd
  obtain ⟨hb,h⟩:=zM h
  cases h
  rw [vF] at hb
  obtain ⟨rfl,hb⟩:=hb
  exact qML hC h1 hb
 ·simp only [qR] at hd
  obtain ⟨d,_,rfl,h1,rfl⟩:=hd
  obtain ⟨hb,h⟩:=zM h
  cases h
  simp only [vF] at hb
  obtain ⟨⟨a,b⟩,c⟩:=hb
  have b:=vU b
  subst b
  cases ag with
  | true=>cases a
  | false=>exact qMM hC h1 c
 cases h
end
end Go.Am.Tt
namespace Go.Am.Tt
open Go Go.Am
section
variable {E:Env} {σ:Wd} {C:Cx}
def qP0 (C:Cx) (ag:Bool) (size off:Nat):List Y->Rs
 | [.st cs]=>(qJp ag size off cs).map fun y=>(C,y)
 | _=>none
theorem qMt (hC:COk σ C) {size off:Nat} {ag:Bool} {ys:List Y} {ds:List D} {r:Cx × Y} (hd:qR σ ys ds) (h:qP0 C ag size off ys=some r):yY E σ (.fld ag size off) ds r:=by
 unfold qP0 at h
 split at h
 ·simp only [qR] at hd
  obtain ⟨d,_,rfl,h1,rfl⟩:=hd
  obtain ⟨y,hy,rfl⟩:=Option.map_eq_some_iff.1 h
  exact qPZ hC h1 hy
 cases h
def qP2 (C:Cx) (i:Nat):List Y->Rs
 | [.tup cs]=>(cs[i]?).map fun y=>(C,y)
 | _=>none
theorem qMx (hC:COk σ C) {i:Nat} {ys:List Y} {ds:List D} {r:Cx × Y} (hd:qR σ ys ds) (h:qP2 C i ys=some r):yY E σ (.ext i) ds r:=by
 unfold qP2 at h
 split at h
 ·simp only [qR] at hd
  obtain ⟨d,_,rfl,h1,rfl⟩:=hd
  obtain ⟨y,hy,rfl⟩:=Option.map_eq_some_iff.1 h
  exact qP1 hC h1 hy
 cases h
def qPz (C:Cx):List Y->Rs
 | [.bool t f]=>some (C,.bool f t)
 | _=>none
theorem qLY (hC:COk σ C) {ty:TypeId} {ys:List Y} {ds:List D} {r:Cx × Y} (hd:qR σ ys ds) (h:qPz C ys=some r):yY E σ (.un .not ty) ds r:=by
 unfold qPz at h
 split at h
 ·simp only [qR] at hd
  obtain ⟨d,_,rfl,h1,rfl⟩:=hd
  cases h
  exact qPy hC h1
 cases h
def qT0 (C:Cx):List Y->Rs
 | [.str n _,.int .i64 v c]=>bif qQe C n v c then some (C.add [(0,C.nx,0),(C.nx,0,255)] [] [] 1,.int .u8 C.nx 0) else none
 | _=>none
theorem qQf (hC:COk σ C) {ys:List Y} {ds:List D} {r:Cx × Y} (hd:qR σ ys ds) (h:qT0 C ys=some r):yY E σ .chr ds r:=by
 unfold qT0 at h
 split at h
 ·simp only [qR] at hd
  obtain ⟨d,_,rfl,h1,i,_,rfl,h2,rfl⟩:=hd
  obtain ⟨hb,h⟩:=zM h
  cases h
  exact qQd hC h1 h2 hb
 cases h
def qTe (C:Cx) (el sz:Nat) (lo hi:Bool):List Y->Rs
 | [.sl n v7 sz' b e,.int .i64 v c] =>
  bif Nat.beq v7 el && Nat.beq sz' sz && Nat.ble b 300000000 && kK C.F C.L 0 0 v c && kK C.F C.L v c n 0 then
   (match lo,hi with
   | false,true=>some (C.add [(C.nx,v,c),(v,C.nx,-c)] [(C.nx,b)] [] 1,.sl C.nx el sz b e)
   | true,false=>some (C.add [(C.nx,n,0)] [(C.nx,b)] [] 1,.sl C.nx el sz b e)
   | _,_=>none) else none
 | _=>none
theorem qPc (hC:COk σ C) {el sz:Nat} {lo hi:Bool} {ys:List Y} {ds:List D} {r:Cx × Y} (hd:qR σ ys ds) (h:qTe C el sz lo hi ys=some r):yY E σ (.slc el sz lo hi) ds r:=by
 unfold qTe at h
 split at h
 ·simp only [qR] at hd
  obtain ⟨d,_,rfl,h1,i,_,rfl,h2,rfl⟩:=hd
  obtain ⟨hb,h⟩:=zM h
  simp only [vF] at hb
  obtain ⟨⟨⟨⟨a1,a2⟩,a3⟩,a4⟩,a5⟩:=hb
  have a1:=vU a1
  have a2:=vU a2
  subst a1 a2
  split at h
  ·cases h; exact qR4 hC h1 h2 a3 a4 a5
  ·cases h; exact qRY hC h1 h2 a4 a5
  cases h
 cases h
def qTa (C:Cx) (lo hi:Bool):List Y->Rs
 | [.str n b,.int .i64 v c,.int .i64 w e]=>bif lo && hi && kK C.F C.L 0 0 v c && kK C.F C.L v c w e && kK C.F C.L w e n 0 then some (C.add [] [(C.nx,b)] [] 1,.str C.nx b) else none
 | _=>none
theorem qO4 (hC:COk σ C) {lo hi:Bool} {ys:List Y} {ds:List D} {r:Cx × Y} (hd:qR σ ys ds) (h:qTa C lo hi ys=some r):yY E σ (.sub lo hi) ds r:=by
 unfold qTa at h
 split at h
 ·simp only [qR] at hd
  obtain ⟨d,_,rfl,h1,i,_,rfl,h2,j,_,rfl,h3,rfl⟩:=hd
  obtain ⟨hb,h⟩:=zM h
  cases h
  simp only [vF] at hb
  obtain ⟨⟨⟨⟨rfl,rfl⟩,a3⟩,a4⟩,a5⟩:=hb
  exact qLC hC h1 h2 h3 a3 a4 a5
 cases h
def qTp (C:Cx):List Y->Rs
 | [.int .i64 _ _,.int .i64 _ _]=>some (C.add [] [] [] 1,.int .i64 C.nx 0)
 | _=>none
theorem qPD (hC:COk σ C) {m:Bool} {ys:List Y} {ds:List D} {r:Cx × Y} (hd:qR σ ys ds) (h:qTp C ys=some r):yY E σ (.mm m) ds r:=by
 unfold qTp at h
 split at h
 ·simp only [qR] at hd
  obtain ⟨d,_,rfl,h1,i,_,rfl,h2,rfl⟩:=hd
  cases h
  exact qRU hC h1 h2
 cases h
end
end Go.Am.Tt
namespace Go.Am.Tt
open Go Go.Am
section
variable {E:Env} {σ:Wd} {C:Cx}
def qT3 (C:Cx):List Y->Rs
 | [.sl n _ sz b (.int .u8)]=>bif Nat.beq sz 1 && kK C.F C.L 0 1 n 0 then some (C.add [] [(C.nx,b)] [] 1,.str C.nx b) else none
 | _=>none
theorem qQh (hC:COk σ C) {ys:List Y} {ds:List D} {r:Cx × Y} (hd:qR σ ys ds) (h:qT3 C ys=some r):yY E σ .bstr ds r:=by
 unfold qT3 at h
 split at h
 ·simp only [qR] at hd
  obtain ⟨d,_,rfl,h1,rfl⟩:=hd
  obtain ⟨hb,h⟩:=zM h
  cases h
  rw [vF] at hb
  have:=vU hb.1
  subst this
  exact qMQ hC h1 hb.2
 cases h
def qMi:BinOp->Bool
 | .eql | .neq=>true
 | _=>false
theorem qGE {op:BinOp} (h:qMi op=true):op=.neq∨op=.eql:=by
 cases op <;> simp only [qMi] at h <;> first | (cases h; done) | exact .inl rfl | exact .inr rfl
def qRR (C:Cx) (op:BinOp) (v:Nat) (c:Int) (w:Nat) (e:Int):Rs:=match op with
 | .add=>some (qQq C v c w e)
 | .sub=>some (qO3 C v c w e)
 | .mul=>some (C.add [] [] [] 1,.int .i64 C.nx 0)
 | _=>none
def qQi (C:Cx) (op:BinOp):List Y->Rs
 | [.int k v c,.int k' w e]=>bif decide (k=k') then (match qQb op C v c w e with
  | some (t,f)=>some (C,.bool t f)
  | none=>bif decide (k=.i64) then qRR C op v c w e else none) else none
 | [.str _ _,.str _ _]=>bif qMi op then some (C,.bool [] []) else none
 | _=>none
theorem qMW (hC:COk σ C) {op:BinOp} {ty:TypeId} {a b:Operand} {ys:List Y} {ds:List D} {r:Cx × Y} (hd:qR σ ys ds) (h:qQi C op ys=some r):yY E σ (.bin op ty a b) ds r:=by
 unfold qQi at h
 split at h
 ·simp only [qR] at hd
  obtain ⟨d,_,rfl,h1,i,_,rfl,h2,rfl⟩:=hd
  obtain ⟨hk,h'⟩:=zM h
  clear h
  have hk':=dT hk
  clear hk
  subst hk'
  split at h'
  ·rename_i t f hc
   cases h'
   simp only [qU] at h1 h2
   obtain ⟨x,hx,rfl⟩:=h1
   obtain ⟨y,hy,rfl⟩:=h2
   exact qQa hC hc hx hy
  obtain ⟨hk,h⟩:=zM h'
  clear h'
  have hk':=dT hk
  clear hk
  subst hk'
  unfold qRR at h
  split at h
  ·cases h; exact qQp hC h1 h2
  ·cases h; exact qO2 hC h1 h2
  ·cases h; exact qPB hC h1 h2
  cases h
 ·simp only [qR] at hd
  obtain ⟨d,_,rfl,h1,i,_,rfl,h2,rfl⟩:=hd
  obtain ⟨hk,h⟩:=zM h
  cases h
  exact qHd hC (qGE hk).symm h1 h2
 cases h
end
end Go.Am.Tt
namespace Go.Am.Tt
open Go Go.Am
section
variable {E:Env} {σ:Wd} {C:Cx}
structure Tb where
 sh:Nat->Option Sn
 oth:TOp->List Y->Option IntKind
 st:TypeId->Option (Nat × List Sn)
structure TbOk (E:Env) (T:Tb):Prop where
 o:∀ {o ys k},T.oth o ys=some k->∀ {σ C ds},COk σ C->qR σ ys ds->∃ n,TOp.eval E o ds=some (.leaf (.int k n))
 s:∀ {t k ss},T.st t=some (k,ss)->cH E.prog k t=some (Sn.shs ss)/\rV E.prog t=true/\k<=10000/\E.prog.eqGuardType E.prog.depth t=false/\(Sn.shs ss).all qBC=true/\Sn.lows ss=true
def qLT (T:Tb) (C:Cx) (o:TOp) (ys:List Y):Rs:=match T.oth o ys with
 | some k=>some (C.add [] [] [] 1,.int k C.nx 0)
 | none=>none
theorem qGn {T:Tb} (hT:TbOk E T) (hC:COk σ C) {o:TOp} {ys:List Y} {ds:List D} {r:Cx × Y} (hd:qR σ ys ds) (h:qLT T C o ys=some r):yY E σ o ds r:=by
 unfold qLT at h
 split at h
 ·rename_i k hk
  cases h
  obtain ⟨n,hn⟩:=hT.o hk hC hd
  exact .num hC hn (by simp)
 cases h
def qTb (T:Tb) (C:Cx) (op:BinOp) (ty:TypeId):List Y->Rs
 | [.st cs,.st cs']=>match T.st ty with
  | some (_,ss)=>bif qMi op && mG C cs ss && mG C cs' ss then some (C,.bool [] []) else none
  | none=>none
 | _=>none
theorem qO6 {T:Tb} (hT:TbOk E T) (hC:COk σ C) {op:BinOp} {ty:TypeId} {a b:Operand} {ys:List Y} {ds:List D} {r:Cx × Y} (hd:qR σ ys ds) (h:qTb T C op ty ys=some r):yY E σ (.bin op ty a b) ds r:=by
 unfold qTb at h
 split at h
 ·simp only [qR] at hd
  obtain ⟨d,_,rfl,h1,i,_,rfl,h2,rfl⟩:=hd
  split at h
  ·rename_i k ss hs
   obtain ⟨hb,h⟩:=zM h
   cases h
   simp only [vF] at hb
   obtain ⟨q1,q2,q3,q4,q5,q6⟩:=hT.s hs
   exact qI1 hC (qGE hb.1.1) h1 h2 hb.1.2 hb.2 q6 q1 rfl q2 q3 q4 q5
  cases h
 cases h
end
end Go.Am.Tt
namespace Go.Am.Tt
open Go Go.Am
section
variable {E:Env} {σ:Wd} {C:Cx}
def qUp (C:Cx) (el sz bytes:Nat) (ag:Bool) (zs:List Value) (e:Sn) (v:Nat) (c:Int) (b:Nat):Rs :=
 bif kK C.F C.L 0 0 v c && kK C.F C.L v c 0 b && Nat.ble b 300000000 && (Nat.beq zs.length sz && zs.all (fun v=>zL v && qN v) && (ag || Nat.beq sz 1)) && Nat.ble (bytes+sz) 2 && qFW e (zD ag zs) then
  some (C.add [(C.nx,v,c),(v,C.nx,-c)] [(C.nx,b)] [] 1,.sl C.nx el sz b e) else none
def qTq (T:Tb) (C:Cx) (el sz bytes:Nat) (ag:Bool) (zs:List Value):List Y->Rs
 | [.int .i64 v c]=>(match T.sh el with
  | some e=>qUp C el sz bytes ag zs e v c ((qST C v:Int)+c).toNat
  | none=>none)
 | _=>none
theorem qPF (hC:COk σ C) {T:Tb} {el sz bytes:Nat} {ag:Bool} {zs:List Value} {ys:List Y} {ds:List D} {r:Cx × Y} (hd:qR σ ys ds) (h:qTq T C el sz bytes ag zs ys=some r):yY E σ (.mk el sz bytes ag zs) ds r:=by
 unfold qTq at h
 split at h
 ·simp only [qR] at hd
  obtain ⟨d,_,rfl,h1,rfl⟩:=hd
  split at h
  ·unfold qUp at h
   obtain ⟨hb,h⟩:=zM h
   cases h
   simp only [vF] at hb
   obtain ⟨⟨⟨⟨⟨q1,q2⟩,q3⟩,q4⟩,q5⟩,q6⟩:=hb
   exact qRW hC h1 q1 q2 q3 (by simp only [vF]; exact q4) q5 q6
  cases h
 cases h
def qLX:Sn->Bool
 | .st _=>false
 | .any=>false
 | _=>true
theorem qGr {e:Sn} (h:qLX e=true) {d:D} (hd:vA e d):d.one=true:=by
 cases e <;> simp only [qLX] at h <;> first | (cases h; done) | simp only [vA] at hd
 ·obtain ⟨_,rfl⟩:=hd; rfl
 ·obtain ⟨_,rfl⟩:=hd; rfl
 ·obtain ⟨_,rfl,_⟩:=hd; rfl
 rcases hd with rfl | ⟨_,rfl,_⟩ <;> rfl
theorem qPg (hC:COk σ C) {n el b v:Nat} {c:Int} {e:Sn} {l i x:D} {y:Y} (hl:qU σ (.sl n el 1 b e) l) (hi:qU σ (.int .i64 v c) i) (hx:qU σ y x)
  (hf:cE C y e=true) (ho:qLX e=true) (h0:kK C.F C.L 0 0 v c=true) (h1:kK C.F C.L v (c+1) n 0=true) :
  yY E σ (.set 1 false 1 0) [l,i,x] (C.add [(C.nx,n,0),(n,C.nx,0)] [(C.nx,b)] [] 1,.sl C.nx el 1 b e):=by
 have hxN:=qCw hC hf hx
 simp only [qU] at hl hi
 obtain ⟨k,hk,rfl⟩:=hi
 obtain ⟨z,hz0⟩:=hC.s.z
 obtain ⟨hln,hl⟩:=hl
 have l0:=vR hC.s h0 hz0 hk
 have l1:=vR hC.s h1 hk hln
 simp only at l0 l1
 simp only [vA] at hl
 rcases hl with rfl | ⟨es,rfl,hlen,ha⟩
 ·have:(D.nil).es.length=0:=rfl
  omega
 have hes:(D.sl el 1 es).es=es:=rfl
 rw [hes] at l1 hln
 have hlt:(k.1+c).toNat < es.length:=by omega
 have hg:es[(k.1+c).toNat]? = some es[(k.1+c).toNat]:=List.getElem?_eq_getElem hlt
 have he0:=qGr ho (ha _ (List.getElem_mem hlt))
 have hx0:=qGr ho hxN
 have hxc:x.cells=[x]:=by cases x <;> first | rfl | (simp [D.one] at hx0)
 have hev:TOp.eval E (.set 1 false 1 0) [.sl el 1 es,dI (k.1+c),x]=some (.sl el 1 (es.set (k.1+c).toNat x)):=by
  rw [qCz,gA (by omega)]
  have hck:l8 false 1 x=some x:=by
   show (bif x.one && Nat.beq 1 1 then some x else none)=some x
   rw [hx0]; rfl
  simp only [hck,hg]
  refine (oM (by rfl)).trans ?_
  rw [hxc]
  have:qAQ es[(k.1+c).toNat] 0 [x]=x:=by
   generalize es[(k.1+c).toNat]=q at he0
   cases q <;> first | rfl | (simp [D.one] at he0)
  rw [this]
 have hn:(D.sl el 1 (es.set (k.1+c).toNat x)).es.length=es.length:=by
  show (es.set (k.1+c).toNat x).length=_
  rw [List.length_set]
 refine .list hC hev ?_ (f2 ⟨_,_,get_new hC _,z6 hln,by simp only [hn]; omega⟩ ⟨_,_,z6 hln,get_new hC _,by simp only [hn]; omega⟩)
 simp only [vA]
 refine .inr ⟨_,rfl,by rw [List.length_set]; exact hlen,fun w hw=>?_⟩
 rcases List.mem_or_eq_of_mem_set hw with hw | rfl
 ·exact ha w hw
 exact hxN
def qTg (C:Cx) (sz:Nat) (ag:Bool) (size off:Nat):List Y->Rs
 | [.sl n el sz' b e,.int .i64 v c,y] =>
  bif Nat.beq sz 1 && Nat.beq sz' 1 && !ag && Nat.beq size 1 && Nat.beq off 0 && cE C y e && qLX e && kK C.F C.L 0 0 v c && kK C.F C.L v (c+1) n 0 then
   some (C.add [(C.nx,n,0),(n,C.nx,0)] [(C.nx,b)] [] 1,.sl C.nx el 1 b e) else none
 | _=>none
theorem qPi (hC:COk σ C) {sz size off:Nat} {ag:Bool} {ys:List Y} {ds:List D} {r:Cx × Y} (hd:qR σ ys ds) (h:qTg C sz ag size off ys=some r):yY E σ (.set sz ag size off) ds r:=by
 unfold qTg at h
 split at h
 ·simp only [qR] at hd
  obtain ⟨d,_,rfl,h1,i,_,rfl,h2,x,_,rfl,h3,rfl⟩:=hd
  obtain ⟨hb,h⟩:=zM h
  cases h
  simp only [vF,Bool.not_eq_true'] at hb
  obtain ⟨⟨⟨⟨⟨⟨⟨⟨a1,a2⟩,a3⟩,a4⟩,a5⟩,a6⟩,a7⟩,a8⟩,a9⟩:=hb
  have a1:=vU a1
  have a2:=vU a2
  have a4:=vU a4
  have a5:=vU a5
  subst a1 a2 a3 a4 a5
  exact qPg hC h1 h2 h3 a6 a7 a8 a9
 cases h
end
end Go.Am.Tt
namespace Go.Am.Tt
open Go Go.Am
section
variable {E:Env} {σ:Wd} {C:Cx}
def qUL (C:Cx) (el sz bytes:Nat):List Y->Rs
 | [a,b]=>qQm C el sz bytes a b
 | _=>none
def qUr (T:Tb) (C:Cx) (el sz:Nat) (ys:List Y):Rs:=match T.sh el with
 | some e=>qPJ C el sz e ys
 | none=>none
def qSH (a b:Rs):Rs:=match a with
 | some r=>some r
 | none=>b
theorem qJs {a b:Rs} {r:Cx × Y} (h:qSH a b=some r):a=some r∨b=some r:=by
 unfold qSH at h
 split at h
 ·exact .inl h
 exact .inr h
def qTk (T:Tb) (C:Cx) (o:TOp) (ys:List Y):Rs:=match o with
 | .len s=>qPN C s ys
 | .inr=>qTw C ys
 | .elem sz ag size off=>qTF C sz ag size off ys
 | .chk ag n=>qO5 C ag n ys
 | .fld ag size off=>qP0 C ag size off ys
 | .ext i=>qP2 C i ys
 | .un .not _=>qPz C ys
 | .chr=>qT0 C ys
 | .slc el sz lo hi=>qTe C el sz lo hi ys
 | .sub lo hi=>qTa C lo hi ys
 | .bstr=>qT3 C ys
 | .mm _=>qTp C ys
 | .lit el sz=>qUr T C el sz ys
 | .app el sz bytes=>qUL C el sz bytes ys
 | .mk el sz bytes ag zs=>qTq T C el sz bytes ag zs ys
 | .set sz ag size off=>qTg C sz ag size off ys
 | .bin op ty a b=>qSH (qTb T C op ty ys) (qSH (qQi C op ys) (qLT T C (.bin op ty a b) ys))
 | o=>qLT T C o ys
theorem qPv {T:Tb} (hT:TbOk E T) (hC:COk σ C) {o:TOp} {ys:List Y} {ds:List D} {r:Cx × Y} (hd:qR σ ys ds) (h:qTk T C o ys=some r):yY E σ o ds r:=by
 unfold qTk at h
 split at h
 ·exact qMb hC hd h
 ·exact qPT hC hd h
 ·exact qP8 hC hd h
 ·exact qLD hC hd h
 ·exact qMt hC hd h
 ·exact qMx hC hd h
 ·exact qLY hC hd h
 ·exact qQf hC hd h
 ·exact qPc hC hd h
 ·exact qO4 hC hd h
 ·exact qQh hC hd h
 ·exact qPD hC hd h
 ·unfold qUr at h
  split at h
  ·exact qPI hC hd h
  cases h
 ·unfold qUL at h
  split at h
  ·simp only [qR] at hd
   obtain ⟨d,_,rfl,h1,i,_,rfl,h2,rfl⟩:=hd
   exact qMZ hC h1 h2 h
  cases h
 ·exact qPF hC hd h
 ·exact qPi hC hd h
 ·rcases qJs h with h | h
  ·exact qO6 hT hC hd h
  rcases qJs h with h | h
  ·exact qMW hC hd h
  exact qGn hT hC hd h
 exact qGn hT hC hd h
end
end Go.Am.Tt
