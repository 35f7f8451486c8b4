/- The order of notes: a strict order within each tier; insertion keeps it. Plain. Conditions: none. -/
import Derived.Shelf.SlSortCmp.Insertion
import Derived.Sort.LotA
import Derived.Test.YthhlmoidofecpaaGreatAm1
set_option linter.unusedVariables false
set_option linter.unusedSimpArgs false
set_option linter.unusedSectionVars false
namespace Go.Am.Tr
structure Ord {α:Type} (P:α->Prop) (r:α->α->Bool):Prop where
 irr:∀ x,P x->r x x=false
 tr:∀ x y z,P x->P y->P z->r x y=true->r y z=true->r x z=true
 tri:∀ x y,P x->P y->r x y=true∨x=y∨r y x=true
section
variable {α:Type} {P:α->Prop} {r:α->α->Bool}
theorem qI2 (h:Ord P r):∀ {l m:List α},(∀ x∈l,P x)->(∀ x∈m,P x)->l.Pairwise (fun x y=>r x y=true)->m.Pairwise (fun x y=>r x y=true)->(∀ p,p∈l↔p∈m)->l=m
 | [],[],_,_,_,_,_=>rfl
 | [],y::m,_,_,_,_,h=>by have:=(h y).2 List.mem_cons_self; cases this
 | x::l,[],_,_,_,_,h=>by have:=(h x).1 List.mem_cons_self; cases this
 | x::l,y::m,pl,pm,hl,hm,hh=>by
  have hl':=List.pairwise_cons.1 hl
  have hm':=List.pairwise_cons.1 hm
  have px:=pl x List.mem_cons_self
  have py:=pm y List.mem_cons_self
  have e:x=y:=by
   rcases List.mem_cons.1 ((hh x).1 List.mem_cons_self) with e | e
   ·exact e
   rcases List.mem_cons.1 ((hh y).2 List.mem_cons_self) with f | f
   ·exact f.symm
   have:=h.tr _ _ _ px py px (hl'.1 y f) (hm'.1 x e)
   rw [h.irr _ px] at this; cases this
  subst e
  congr 1
  refine qI2 h (fun p hp=>pl p (mC _ hp)) (fun p hp=>pm p (mC _ hp)) hl'.2 hm'.2 fun p=>⟨fun hp=>?_,fun hp=>?_⟩
  ·rcases List.mem_cons.1 ((hh p).1 (mC _ hp)) with e | e
   ·have:=hl'.1 p hp; rw [e,h.irr _ px] at this; cases this
   exact e
  rcases List.mem_cons.1 ((hh p).2 (mC _ hp)) with e | e
  ·have:=hm'.1 p hp; rw [e,h.irr _ px] at this; cases this
  exact e
def oB (r:α->α->Bool) (n:α) (l:List α):Nat->Nat
 | 0=>0
 | k+1=>match l[k]? with
  | some x=>bif r n x then oB r n l k else k+1
  | none=>k+1
def fO (r:α->α->Bool) (n:α) (l:List α):List α:=l.take (oB r n l l.length)++n::l.drop (oB r n l l.length)
theorem aZ (n:α) (l:List α):∀ k,oB r n l k<=k
 | 0=>lR _
 | k+1=>by
  unfold oB
  split
  ·rename_i x _
   cases hr:r n x with
   | true=>exact Nat.le_succ_of_le (aZ n l k)
   | false=>exact lR _
  exact lR _
theorem qGl (n:α) (l:List α):∀ k,k<=l.length->∀ j x,oB r n l k<=j->j < k->l[j]? = some x->r n x=true
 | 0,_,j,_,_,h,_=>by omega
 | k+1,hk,j,x,h1,h2,h3=>by
  unfold oB at h1
  rw [List.getElem?_eq_getElem (show k < l.length by omega)] at h1
  cases hr:r n (l[k]) with
  | false=>simp only [hr,cond_false] at h1; omega
  | true =>
   simp only [hr,cond_true] at h1
   by_cases hj:j=k
   ·subst hj
    rw [List.getElem?_eq_getElem (show j < l.length by omega)] at h3
    rw [← Option.some.inj h3]; exact hr
   exact qGl n l k (by omega) j x h1 (by omega) h3
theorem qGm (n:α) (l:List α):∀ k,k<=l.length->∀ p x,oB r n l k=p+1->l[p]? = some x->r n x=false
 | 0,_,_,_,h,_=>by cases h
 | k+1,hk,p,x,h1,h3=>by
  unfold oB at h1
  rw [List.getElem?_eq_getElem (show k < l.length by omega)] at h1
  cases hr:r n (l[k]) with
  | false =>
   simp only [hr,cond_false] at h1
   obtain rfl:k=p:=by omega
   rw [List.getElem?_eq_getElem (show k < l.length by omega)] at h3
   rw [← Option.some.inj h3]; exact hr
  | true =>
   simp only [hr,cond_true] at h1
   exact qGm n l k (by omega) p x h1 h3
theorem sG {n p:α} {l:List α}:p∈fO r n l↔p=n∨p∈l:=by
 unfold fO
 rw [List.mem_append,List.mem_cons]
 constructor
 ·rintro (h | h | h)
  ·exact .inr (List.mem_of_mem_take h)
  ·exact .inl h
  exact .inr (List.mem_of_mem_drop h)
 rintro (h | h)
 ·exact .inr (.inl h)
 rw [← List.take_append_drop (oB r n l l.length) l,List.mem_append] at h
 exact h.elim .inl (fun h=>.inr (.inr h))
theorem qPS (h:Ord P r) {n:α} {l:List α} (hn:P n) (hl:∀ x∈l,P x) (hni:n ∉ l) (hs:l.Pairwise (fun x y=>r x y=true)):(fO r n l).Pairwise (fun x y=>r x y=true):=by
 have hs':=hs
 rw [← List.take_append_drop (oB r n l l.length) l] at hs'
 obtain ⟨h1,h2,h3⟩:=List.pairwise_append.1 hs'
 have hle:=aZ (r:=r) n l l.length
 have up:∀ y∈l.drop (oB r n l l.length),r n y=true:=fun y hy=>by
  obtain ⟨j,hj⟩:=List.getElem?_of_mem hy
  rw [List.getElem?_drop] at hj
  have hlt:oB r n l l.length+j < l.length:=by
   rcases Nat.lt_or_ge (oB r n l l.length+j) l.length with h | h
   ·exact h
   rw [List.getElem?_eq_none h] at hj; cases hj
  exact qGl n l l.length (lR _) _ y (Nat.le_add_right _ _) hlt hj
 have dn:∀ x∈l.take (oB r n l l.length),r x n=true:=fun x hx=>by
  obtain ⟨j,hj⟩:=List.getElem?_of_mem hx
  rw [List.getElem?_take] at hj
  split at hj
  ·rename_i hjp
   obtain ⟨p,hp⟩:∃ p,oB r n l l.length=p+1:=⟨oB r n l l.length - 1,by omega⟩
   have hpl:p < l.length:=by omega
   have hlast:r n (l[p])=false:=qGm n l l.length (lR _) p _ hp (List.getElem?_eq_getElem hpl)
   have hpm:l[p]∈l:=List.getElem_mem hpl
   have hln:r (l[p]) n=true:=by
    rcases h.tri _ _ hn (hl _ hpm) with e | e | e
    ·rw [e] at hlast; cases hlast
    ·exact absurd (e ▸ hpm) hni
    exact e
   have hjl:j < l.length:=by omega
   have ej:l[j]=x:=by rw [List.getElem?_eq_getElem hjl] at hj; exact Option.some.inj hj
   by_cases hjp':j=p
   ·subst hjp'; rw [← ej]; exact hln
   have:=List.pairwise_iff_getElem.1 hs j p hjl hpl (by omega)
   rw [ej] at this
   exact h.tr _ _ _ (hl x (ej ▸ List.getElem_mem hjl)) (hl _ hpm) hn this hln
  cases hj
 unfold fO
 refine List.pairwise_append.2 ⟨h1,List.pairwise_cons.2 ⟨up,h2⟩,fun x hx y hy=>?_⟩
 rcases List.mem_cons.1 hy with rfl | hy
 ·exact dn x hx
 exact h3 x hx y hy
def pY (r:α->α->Bool) (c:α->Bool) (os:List α) (l:List α):List α:=l.foldl (fun os n=>bif c n then fO r n os else os) os
theorem fP (h:Ord P r) {c:α->Bool}:∀ {l os:List α},(∀ x∈l,c x=true->P x)->(∀ x∈os,P x)->l.Nodup->(∀ x∈l,x ∉ os)->os.Pairwise (fun x y=>r x y=true) ->
  (pY r c os l).Pairwise (fun x y=>r x y=true)/\(∀ p,p∈pY r c os l↔p∈os∨(p∈l/\c p=true))
 | [],os,_,_,_,_,hs=>⟨hs,fun p=>by simp [pY]⟩
 | n::l,os,hl,ho,hnd,hd,hs=>by
  have hnd':=List.nodup_cons.1 hnd
  have e:pY r c os (n::l)=pY r c (bif c n then fO r n os else os) l:=rfl
  rw [e]
  cases hc:c n with
  | false =>
   obtain ⟨h1,h2⟩:=fP h (c:=c) (l:=l) (os:=os) (fun x hx=>hl x (mC _ hx)) ho hnd'.2 (fun x hx=>hd x (mC _ hx)) hs
   refine ⟨h1,fun p=>?_⟩
   simp only [cond_false]
   rw [h2,List.mem_cons]
   constructor
   ·rintro (k | ⟨k,m⟩)
    ·exact .inl k
    exact .inr ⟨.inr k,m⟩
   rintro (k | ⟨rfl | k,m⟩)
   ·exact .inl k
   ·rw [hc] at m; cases m
   exact .inr ⟨k,m⟩
  | true =>
   have pn:=hl n List.mem_cons_self hc
   obtain ⟨h1,h2⟩:=fP h (c:=c) (l:=l) (os:=fO r n os) (fun x hx=>hl x (mC _ hx))
    (fun x hx=>(sG.1 hx).elim (fun e=>e ▸ pn) (ho x)) hnd'.2
    (fun x hx hm=>(sG.1 hm).elim (fun e=>hnd'.1 (e ▸ hx)) (hd x (mC _ hx)))
    (qPS h pn ho (hd n List.mem_cons_self) hs)
   refine ⟨h1,fun p=>?_⟩
   simp only [cond_true]
   rw [h2,sG,List.mem_cons]
   constructor
   ·rintro ((k | k) | ⟨k,m⟩)
    ·exact .inr ⟨.inl k,k ▸ hc⟩
    ·exact .inl k
    exact .inr ⟨.inr k,m⟩
   rintro (k | ⟨rfl | k,m⟩)
   ·exact .inl (.inr k)
   ·exact .inl (.inl rfl)
   exact .inr ⟨k,m⟩
end
end Go.Am.Tr
namespace Go.Am.Tr
structure Nt where
 id:Int
 ti:Int
 pa:Int
 fr:Int
 to:Int
 rk:Int
 tx:ByteArray
structure Tr where
 nm:ByteArray
 kd:Int
 rl:Int
 pa:Int
def zN:Nt:=⟨0,0,0,0,0,0,.empty⟩
def zT:Tr:=⟨.empty,0,0,0⟩
def xE (ts:List Tr) (i:Int):Tr:=(ts[i.toNat]?).getD zT
def l9 (k:Int):Bool:=decide (k=0) || decide (k=1) || decide (k=2)
def yL (ns:List Nt) (i:Int):Option Nt:=ns.find? fun n=>decide (n.id=i)
def gd (ns:List Nt) (i:Int):Nt:=(yL ns i).getD zN
def key (ts:List Tr) (a b:Nt):Bool:=bif l9 (xE ts a.ti).kd then decide (a.fr < b.fr) else decide (a.rk < b.rk)
def lY (ts:List Tr) (ns:List Nt):Nat->Nt->Nt->Bool
 | 0,_,_=>false
 | k+1,a,b=>bif decide (a.pa=b.pa) then key ts a b else lY ts ns k (gd ns a.pa) (gd ns b.pa)
def qL7 (a b:Nt):Bool:=decide (a.pa < b.pa∨(a.pa=b.pa/\(a.fr < b.fr∨(a.fr=b.fr/\a.rk < b.rk))))
def fN (ts:List Tr) (i t:Int) (n:Nt):Bool:=decide (n.ti=t) && (decide (n.pa=i) && (decide (0<=t) && decide (t < (ts.length:Int))))
def yE (sts:List Nt->List Nt) (ts:List Tr) (ns:List Nt) (i t:Int):List Nt:=sts (ns.filter (fN ts i t))
def qAL (sts:List Nt->List Nt) (ts:List Tr) (ns:List Nt):Nat->Int->List Nt
 | 0,_=>[]
 | k+1,t=>bif decide (t < 0) || decide ((ts.length:Int)<=t) then [] else bif decide ((xE ts t).kd=0) then yE sts ts ns 0 t else (qAL sts ts ns k (xE ts t).pa).flatMap fun n=>yE sts ts ns n.id t
def qPx (ts:List Tr) (ns:List Nt) (k:Nat) (t:Int):List Nt:=pY (lY ts ns k) (fun n=>decide (n.ti=t)) [] ns
structure vV (ts:List Tr) (ns:List Nt):Prop where
 up:∀ t:Int,0<=t->t < (ts.length:Int)->(xE ts t).kd≠0->0<=(xE ts t).pa/\(xE ts t).pa < t
 ids:ns.Pairwise fun a b=>a.id < b.id
 pos:∀ n∈ns,1<=n.id
 tin:∀ n∈ns,0<=n.ti/\n.ti < (ts.length:Int)
 par:∀ n∈ns,(xE ts n.ti).kd=0->n.pa=0
 par':∀ n∈ns,(xE ts n.ti).kd≠0->∃ p,yL ns n.pa=some p/\p.ti=(xE ts n.ti).pa
 sib:∀ n∈ns,∀ m∈ns,n.ti=m.ti->n.pa=m.pa->n.id≠m.id->(l9 (xE ts n.ti).kd=true->n.fr≠m.fr)/\(l9 (xE ts n.ti).kd=false->n.rk≠m.rk)
 nul:∀ n∈ns,(l9 (xE ts n.ti).kd=true->n.rk=0)/\(l9 (xE ts n.ti).kd=false->n.fr=0)
structure Sts (sts:List Nt->List Nt):Prop where
 perm:∀ l,(sts l).Perm l
 srt:∀ l,(sts l).Pairwise fun x y=>qL7 y x=false
section
variable {ts:List Tr} {ns:List Nt} {sts:List Nt->List Nt}
theorem d7 {i:Int} {p:Nt} (h:yL ns i=some p):p∈ns/\p.id=i :=
 ⟨List.mem_of_find?_eq_some h,dT (List.find?_some (p:=fun n:Nt=>decide (n.id=i)) h)⟩
theorem bY (F:vV ts ns) {a b:Nt} (ha:a∈ns) (hb:b∈ns) (h:a.id=b.id):a=b:=by
 obtain ⟨i,hi⟩:=List.getElem?_of_mem ha
 obtain ⟨j,hj⟩:=List.getElem?_of_mem hb
 obtain ⟨hi1,hi2⟩:=gI hi
 obtain ⟨hj1,hj2⟩:=gI hj
 have P:=List.pairwise_iff_getElem.1 F.ids
 rcases Nat.lt_trichotomy i j with e | e | e
 ·have:=P i j hi1 hj1 e; rw [hi2,hj2] at this; omega
 ·subst e; rw [← hi2,← hj2]
 have:=P j i hj1 hi1 e; rw [hi2,hj2] at this; omega
theorem qGG (F:vV ts ns) {p:Nt} (h:p∈ns):yL ns p.id=some p:=by
 cases e:yL ns p.id with
 | none=>exact absurd (tD rfl) (List.find?_eq_none.1 e p h)
 | some q=>obtain ⟨h1,h2⟩:=d7 e; rw [bY F h1 h h2]
theorem qKc (F:vV ts ns) {p:Nt} (h:p∈ns):gd ns p.id=p:=by unfold gd; rw [qGG F h]; rfl
theorem qOw (F:vV ts ns):ns.Nodup:=List.Pairwise.imp (fun h e=>by rw [e] at h; omega) F.ids
def In (ns:List Nt) (t:Int) (n:Nt):Prop:=n∈ns/\n.ti=t
theorem mW (F:vV ts ns) {n:Nt} {t:Int} (h:In ns t n) (hk:(xE ts t).kd≠0):In ns (xE ts t).pa (gd ns n.pa)/\(gd ns n.pa).id=n.pa:=by
 obtain ⟨h1,h2⟩:=h
 subst h2
 obtain ⟨p,h3,h4⟩:=F.par' n h1 hk
 have e:gd ns n.pa=p:=by unfold gd; rw [h3]; rfl
 rw [e]
 exact ⟨⟨(d7 h3).1,h4⟩,(d7 h3).2⟩
theorem lA {k:Nat} {a b:Nt} (h:a.pa=b.pa):lY ts ns (k+1) a b=key ts a b:=by rw [lY,tD h]; rfl
theorem o8 {k:Nat} {a b:Nt} (h:a.pa≠b.pa):lY ts ns (k+1) a b=lY ts ns k (gd ns a.pa) (gd ns b.pa):=by rw [lY,fD h]; rfl
theorem qMh (a:Nt):key ts a a=false:=by unfold key; cases l9 (xE ts a.ti).kd <;> simp
theorem qPP {a b c:Nt} (h1:a.ti=b.ti) (h:key ts a b=true) (h2:key ts b c=true):key ts a c=true:=by
 unfold key at *
 rw [← h1] at h2
 cases e:l9 (xE ts a.ti).kd <;> rw [e] at h h2 <;> simp only [cond_true,cond_false,decide_eq_true_eq] at * <;> omega
theorem qMg (F:vV ts ns) {a b:Nt} {t:Int} (ha:In ns t a) (hb:In ns t b) (h:a.pa=b.pa):key ts a b=true∨a=b∨key ts b a=true:=by
 by_cases hid:a.id=b.id
 ·exact .inr (.inl (bY F ha.1 hb.1 hid))
 have ht:a.ti=b.ti:=ha.2.trans hb.2.symm
 obtain ⟨s1,s2⟩:=F.sib a ha.1 b hb.1 ht h hid
 unfold key
 rw [← ht]
 cases e:l9 (xE ts a.ti).kd with
 | true=>have:=s1 e; simp only [cond_true,decide_eq_true_eq]; omega
 | false=>have:=s2 e; simp only [cond_false,decide_eq_true_eq]; omega
theorem qGe (F:vV ts ns) {a b:Nt} {t:Int} (ha:In ns t a) (hb:In ns t b) (hk:(xE ts t).kd=0):a.pa=b.pa:=by
 rw [F.par a ha.1 (by rw [ha.2]; exact hk),F.par b hb.1 (by rw [hb.2]; exact hk)]
theorem sP (F:vV ts ns):∀ (k:Nat) (t:Int),0<=t->t < (k:Int)->t < (ts.length:Int)->Ord (In ns t) (lY ts ns k)
 | 0,t,h0,h1,_=>by omega
 | k+1,t,h0,h1,hl=>by
  have IH:(xE ts t).kd≠0->Ord (In ns (xE ts t).pa) (lY ts ns k):=fun hk=>by
   have:=F.up t h0 hl hk
   exact sP F k _ this.1 (by omega) (by omega)
  have hroot:∀ {a b:Nt},In ns t a->In ns t b->a.pa≠b.pa->(xE ts t).kd≠0:=fun ha hb hne hk=>hne (qGe F ha hb hk)
  refine ⟨fun x hx=>by rw [lA rfl]; exact qMh x,fun x y z hx hy hz h1 h2=>?_,fun x y hx hy=>?_⟩
  ·have hxy:x.ti=y.ti:=hx.2.trans hy.2.symm
   by_cases e1:x.pa=y.pa
   ·by_cases e2:y.pa=z.pa
    ·rw [lA e1] at h1; rw [lA e2] at h2; rw [lA (e1.trans e2)]
     exact qPP hxy h1 h2
    rw [o8 e2] at h2; rw [o8 (by rw [e1]; exact e2),e1]; exact h2
   by_cases e2:y.pa=z.pa
   ·rw [o8 e1] at h1; rw [o8 (by rw [← e2]; exact e1),← e2]; exact h1
   have hk:=hroot hx hy e1
   have O:=IH hk
   have gx:=mW F hx hk
   have gy:=mW F hy hk
   have gz:=mW F hz hk
   rw [o8 e1] at h1; rw [o8 e2] at h2
   by_cases e3:x.pa=z.pa
   ·rw [← e3] at h2
    have:=O.tr _ _ _ gx.1 gy.1 gx.1 h1 h2
    rw [O.irr _ gx.1] at this; cases this
   rw [o8 e3]
   exact O.tr _ _ _ gx.1 gy.1 gz.1 h1 h2
  by_cases e1:x.pa=y.pa
  ·rw [lA e1,lA e1.symm]
   exact qMg F hx hy e1
  rw [o8 e1,o8 (fun e=>e1 e.symm)]
  have hk:=hroot hx hy e1
  have gx:=mW F hx hk
  have gy:=mW F hy hk
  rcases (IH hk).tri _ _ gx.1 gy.1 with e | e | e
  ·exact .inl e
  ·exact absurd (by rw [← gx.2,← gy.2,e]) e1
  exact .inr (.inr e)
theorem qMf {i t:Int} {n:Nt}:fN ts i t n=true↔n.ti=t/\n.pa=i/\0<=t/\t < (ts.length:Int):=by
 unfold fN; simp only [vF,decide_eq_true_eq]
theorem rU (S:Sts sts) {i t:Int} (h0:0<=t) (h1:t < (ts.length:Int)) {n:Nt}:n∈yE sts ts ns i t↔n∈ns/\n.ti=t/\n.pa=i:=by
 unfold yE
 rw [(S.perm _).mem_iff,List.mem_filter,qMf]
 exact ⟨fun ⟨a,b,c,_⟩=>⟨a,b,c⟩,fun ⟨a,b,c⟩=>⟨a,b,c,h0,h1⟩⟩
theorem qGD (F:vV ts ns) (S:Sts sts) {i t:Int} {k:Nat} (h0:0<=t) (h1:t < (ts.length:Int)):(yE sts ts ns i t).Pairwise fun x y=>lY ts ns (k+1) x y=true:=by
 have hm:∀ n∈yE sts ts ns i t,n∈ns/\n.ti=t/\n.pa=i:=fun n hn=>(rU S h0 h1).1 hn
 have hs:(yE sts ts ns i t).Pairwise fun x y=>qL7 y x=false:=S.srt _
 have hnd:(yE sts ts ns i t).Nodup:=(S.perm _).nodup_iff.2 ((qOw F).sublist List.filter_sublist)
 generalize yE sts ts ns i t=l at *
 have hb:=List.Pairwise.and hs hnd
 refine List.Pairwise.imp_of_mem (fun {x y} hx hy h=>?_) hb
 obtain ⟨a1,a2,a3⟩:=hm x hx
 obtain ⟨b1,b2,b3⟩:=hm y hy
 have hp:x.pa=y.pa:=a3.trans b3.symm
 have ht:x.ti=y.ti:=a2.trans b2.symm
 have hid:x.id≠y.id:=fun e=>h.2 (bY F a1 b1 e)
 obtain ⟨s1,s2⟩:=F.sib x a1 y b1 ht hp hid
 obtain ⟨x1,x2⟩:=F.nul x a1
 obtain ⟨y1,y2⟩:=F.nul y b1
 rw [← ht] at y1 y2
 have hlt:=dF h.1
 rw [lA hp]
 unfold key
 cases e:l9 (xE ts x.ti).kd with
 | true =>
  have:=s1 e; have:=x1 e; have:=y1 e
  simp only [cond_true,decide_eq_true_eq]; omega
 | false =>
  have:=s2 e; have:=x2 e; have:=y2 e
  simp only [cond_false,decide_eq_true_eq]; omega
theorem qCh (F:vV ts ns) (S:Sts sts):∀ (k:Nat) (t:Int),0<=t->t < (k:Int)->t < (ts.length:Int) ->
  (qAL sts ts ns k t).Pairwise (fun x y=>lY ts ns k x y=true)/\∀ p,p∈qAL sts ts ns k t↔p∈ns/\p.ti=t
 | 0,t,h0,h1,_=>by omega
 | k+1,t,h0,h1,hl=>by
  have e0:(decide (t < 0) || decide ((ts.length:Int)<=t))=false:=by rw [fD (by omega),fD (by omega)]; rfl
  rw [qAL,e0]
  simp only [cond_false]
  by_cases hk:(xE ts t).kd=0
  ·rw [tD hk]
   simp only [cond_true]
   refine ⟨qGD F S h0 hl,fun p=>?_⟩
   rw [rU S h0 hl]
   exact ⟨fun ⟨a,b,_⟩=>⟨a,b⟩,fun ⟨a,b⟩=>⟨a,b,F.par p a (by rw [b]; exact hk)⟩⟩
  rw [fD hk]
  simp only [cond_false]
  have hu:=F.up t h0 hl hk
  obtain ⟨i1,i2⟩:=qCh F S k (xE ts t).pa hu.1 (by omega) (by omega)
  have O:=sP F k (xE ts t).pa hu.1 (by omega) (by omega)
  refine ⟨List.pairwise_flatMap.2 ⟨fun a ha=>qGD F S h0 hl,?_⟩,fun p=>?_⟩
  ·refine List.Pairwise.imp_of_mem (fun {a b} ha hb h x hx y hy=>?_) i1
   have ha':=(i2 a).1 ha
   have hb':=(i2 b).1 hb
   have hx':=(rU S h0 hl).1 hx
   have hy':=(rU S h0 hl).1 hy
   have hne:x.pa≠y.pa:=fun e=>by
    have:a=b:=bY F ha'.1 hb'.1 (by rw [← hx'.2.2,← hy'.2.2]; exact e)
    rw [this,O.irr b hb'] at h; cases h
   rw [o8 hne,hx'.2.2,hy'.2.2,qKc F ha'.1,qKc F hb'.1]
   exact h
  rw [List.mem_flatMap]
  constructor
  ·rintro ⟨a,_,hp⟩
   have:=(rU S h0 hl).1 hp
   exact ⟨this.1,this.2.1⟩
  rintro ⟨hp,ht⟩
  obtain ⟨g1,g2⟩:=mW F (t:=t) ⟨hp,ht⟩ hk
  exact ⟨_,(i2 _).2 g1,(rU S h0 hl).2 ⟨hp,ht,g2.symm⟩⟩
theorem qRQ (F:vV ts ns) (S:Sts sts) {k:Nat} {t:Int} (h0:0<=t) (hk:t < (k:Int)) (hl:t < (ts.length:Int)):qAL sts ts ns k t=qPx ts ns k t:=by
 obtain ⟨p1,p2⟩:=qCh F S k t h0 hk hl
 have O:=sP F k t h0 hk hl
 obtain ⟨q1,q2⟩:=fP O (c:=fun n=>decide (n.ti=t)) (l:=ns) (os:=[]) (fun x hx hc=>⟨hx,dT hc⟩) (fun x hx=>by cases hx) (qOw F) (fun x _ hx=>by cases hx) List.Pairwise.nil
 have q3:∀ p,p∈qPx ts ns k t↔p∈ns/\p.ti=t:=fun p=>by
  unfold qPx
  rw [q2]
  exact ⟨fun h=>h.elim (fun h=>by cases h) (fun h=>⟨h.1,dT h.2⟩),fun h=>.inr ⟨h.1,tD h.2⟩⟩
 exact qI2 O (fun x hx=>(p2 x).1 hx) (fun x hx=>(q3 x).1 hx) p1 q1 fun p=>by rw [p2,q3]
end
end Go.Am.Tr
namespace Go.Am.Tr
structure Dc where
 id:Int
 ts:List Tr
 ns:List Nt
def jZ (ts:List Tr) (r:Int):Int:=match ts.findIdx? fun t=>decide (t.rl=r) with
 | some i=>(i:Int)
 | none=>-1
theorem dK (ts:List Tr) (r:Int):jZ ts r = -1∨(0<=jZ ts r/\jZ ts r < (ts.length:Int)):=by
 unfold jZ
 cases e:ts.findIdx? fun t=>decide (t.rl=r) with
 | none=>exact .inl rfl
 | some i =>
  have:=(List.findIdx?_eq_some_iff_getElem.1 e).1
  exact .inr ⟨Int.natCast_nonneg i,by show (i:Int) < _; omega⟩
section
variable {sts:List Nt->List Nt}
abbrev Wd:=(Int × Int) × ByteArray
def wP (sts:List Nt->List Nt) (k:Nat) (d:Dc):List Wd:=(qAL sts d.ts d.ns k (jZ d.ts 2)).map fun n=>((d.id,n.id),(gd d.ns n.id).tx)
def wR (k:Nat) (d:Dc):List (Int × Int):=bif decide (jZ d.ts 2 < 0) then [] else (qPx d.ts d.ns k (jZ d.ts 2)).map fun n=>(d.id,n.id)
def qIo (l:List Wd) (r:Int × Int):Option ByteArray:=(l.find? fun w=>decide (w.1=r)).map (·.2)
def qOW (d:Dc) (r:Int × Int):Option ByteArray:=bif decide (d.id=r.1) then (match yL d.ns r.2 with
 | some n=>bif decide (n.ti=jZ d.ts 2) then some n.tx else none
 | none=>none) else none
def qK8 (l:List Dc) (r:Int × Int):Option ByteArray:=l.findSome? fun d=>qOW d r
theorem qCi {ts:List Tr} {ns:List Nt} {k:Nat} {t:Int} (h:t < 0):qAL sts ts ns k t=[]:=by
 cases k with
 | zero=>rfl
 | succ k=>rw [qAL,tD h]; rfl
theorem qQK {d:Dc} {k:Nat} (F:vV d.ts d.ns) (S:Sts sts) (hk:d.ts.length<=k):(wP sts k d).map (·.1)=wR k d:=by
 unfold wP wR
 rw [List.map_map]
 rcases dK d.ts 2 with e | e
 ·rw [e,qCi (by decide)]; rfl
 rw [fD (by omega),qRQ F S e.1 (by omega) e.2]; rfl
theorem qD6 {α β:Type} {f:α->β} {p:β->Bool}:∀ l:List α,(l.map f).find? p=(l.find? fun x=>p (f x)).map f
 | []=>rfl
 | x::l=>by
  rw [List.map_cons,List.find?_cons,List.find?_cons,qD6 l]
  cases p (f x) <;> rfl
theorem qOV {d:Dc} {k:Nat} {r:Int × Int} (F:vV d.ts d.ns) (S:Sts sts) (hk:d.ts.length<=k):qIo (wP sts k d) r=qOW d r:=by
 unfold qIo qOW
 by_cases hid:d.id=r.1
 ·rw [tD hid,cond_true]
  rcases dK d.ts 2 with e | e
  ·have e1:wP sts k d=[]:=by unfold wP; rw [e,qCi (by decide)]; rfl
   rw [e1]
   cases h:yL d.ns r.2 with
   | none=>rfl
   | some n =>
    have:=F.tin n (d7 h).1
    have hne:¬ n.ti=jZ d.ts 2:=by omega
    show none=(bif decide (n.ti=jZ d.ts 2) then some n.tx else none)
    rw [fD hne]; rfl
  have hm:=(qCh F S k _ e.1 (by omega) e.2).2
  unfold wP
  rw [qD6,Option.map_map]
  cases h:yL d.ns r.2 with
  | none =>
   rw [List.find?_eq_none.2]
   ·rfl
   intro n hn hc
   have hc:(d.id,n.id)=r:=dT hc
   have:=qGG F ((hm n).1 hn).1
   rw [show n.id=r.2 by rw [← hc],h] at this; cases this
  | some n =>
   obtain ⟨n1,n2⟩:=d7 h
   show _=(bif decide (n.ti=jZ d.ts 2) then some n.tx else none)
   by_cases ht:n.ti=jZ d.ts 2
   ·rw [tD ht,cond_true]
    have hin:=(hm n).2 ⟨n1,ht⟩
    cases hf:(qAL sts d.ts d.ns k (jZ d.ts 2)).find? fun x=>decide ((d.id,x.id)=r) with
    | none=>exact absurd (tD (show (d.id,n.id)=r by rw [n2,hid])) (List.find?_eq_none.1 hf n hin)
    | some m =>
     have m1:=(hm m).1 (List.mem_of_find?_eq_some hf)
     have m2:(d.id,m.id)=r:=dT (List.find?_some (p:=fun x:Nt=>decide ((d.id,x.id)=r)) hf)
     have:m=n:=bY F m1.1 n1 (by rw [n2,← m2])
     subst this
     show some (gd d.ns m.id).tx=some m.tx
     rw [qKc F n1]
   rw [fD ht,cond_false,List.find?_eq_none.2]
   ·rfl
   intro m hmm hc
   have hc:(d.id,m.id)=r:=dT hc
   have m1:=(hm m).1 hmm
   have:m=n:=bY F m1.1 n1 (by rw [n2,← hc])
   exact ht (this ▸ m1.2)
 rw [fD hid,cond_false,List.find?_eq_none.2]
 ·rfl
 intro w hw hc
 obtain ⟨n,_,rfl⟩:=List.mem_map.1 hw
 exact hid (by rw [← (dT hc:(d.id,n.id)=r)])
theorem qLs (l m:List Wd) (r:Int × Int):qIo (l++m) r=(qIo l r).or (qIo m r):=by
 unfold qIo
 rw [List.find?_append]
 cases l.find? fun w=>decide (w.1=r) <;> rfl
theorem qOp {k:Nat} {r:Int × Int} (S:Sts sts):∀ {l:List Dc},(∀ d∈l,vV d.ts d.ns/\d.ts.length<=k)->qIo (l.flatMap (wP sts k)) r=qK8 l r
 | [],_=>rfl
 | d::l,h=>by
  have hd:=h d List.mem_cons_self
  rw [List.flatMap_cons,qLs,qOV hd.1 S hd.2,qOp S (fun x hx=>h x (mC _ hx))]
  unfold qK8
  rw [List.findSome?_cons]
  cases qOW d r <;> rfl
theorem qM6 {k:Nat} (S:Sts sts):∀ {l:List Dc},(∀ d∈l,vV d.ts d.ns/\d.ts.length<=k)->(l.flatMap (wP sts k)).map (·.1)=l.flatMap (wR k)
 | [],_=>rfl
 | d::l,h=>by
  have hd:=h d List.mem_cons_self
  rw [List.flatMap_cons,List.map_append,qQK hd.1 S hd.2,qM6 S (fun x hx=>h x (mC _ hx)),List.flatMap_cons]
end
end Go.Am.Tr
namespace Go.Am.Tr
open Go.Sort
instance:Inhabited Nt:=⟨zN⟩
def aP (a b:Int):Int:=if a < b then -1 else if b < a then 1 else 0
def qQy (a b c:Int):Int:=if a≠0 then a else if b≠0 then b else c
def qCb (x y:Nt):Int:=qQy (aP x.pa y.pa) (aP x.fr y.fr) (aP x.rk y.rk)
theorem qCH {a b:Int} (h:a < b):aP a b = -1:=if_pos h
theorem qCI {a b:Int} (h:b < a):aP a b=1:=by unfold aP; rw [if_neg (by omega),if_pos h]
theorem qCJ {a b:Int} (h:a=b):aP a b=0:=by unfold aP; rw [if_neg (by omega),if_neg (by omega)]
theorem qCj (x y:Nt):Go.Proofs.ltOf qCb x y=qL7 x y:=by
 unfold Go.Proofs.ltOf qL7 qCb qQy
 refine decide_eq_decide.2 ?_
 rcases Int.lt_trichotomy x.pa y.pa with h | h | h
 ·rw [qCH h,if_pos (by decide)]; omega
 ·rw [qCJ h,if_neg (by decide)]
  rcases Int.lt_trichotomy x.fr y.fr with k | k | k
  ·rw [qCH k,if_pos (by decide)]; omega
  ·rw [qCJ k,if_neg (by decide)]
   rcases Int.lt_trichotomy x.rk y.rk with m | m | m
   ·rw [qCH m]; omega
   ·rw [qCJ m]; omega
   rw [qCI m]; omega
  rw [qCI k,if_pos (by decide)]; omega
 rw [qCI h,if_pos (by decide)]; omega
theorem qPo:SWO (Go.Proofs.ltOf qCb) where
 irrefl x:=by rw [qCj]; unfold qL7; exact fD (by omega)
 trans x y z h k:=by
  rw [qCj] at *
  unfold qL7 at *
  have h:=dT h
  have k:=dT k
  exact tD (by omega)
 ntrans x y z h k:=by
  rw [qCj] at *
  unfold qL7 at *
  have h:=dF h
  have k:=dF k
  exact fD (by omega)
def d5 (d:Array Nt):Array Nt:=insertionSort (Go.Proofs.ltOf qCb) d 0 d.size
theorem qCp (d:Array Nt):PermIn 0 d.size d (d5 d)/\SortedIn (Go.Proofs.ltOf qCb) 0 d.size (d5 d):=insertionSort_holds (lt:=Go.Proofs.ltOf qCb) qPo d 0 d.size (Nat.zero_le _) (lR _)
theorem rW (d:Array Nt):(d5 d).size=d.size:=(qCp d).1.1
def jI (l:List Nt):List Nt:=(d5 l.toArray).toList
theorem mM (l:List Nt):(jI l).length=l.length:=by unfold jI; rw [Array.length_toList,rW]; simp
theorem aU:Sts jI where
 perm l:=by
  have h:=(qCp l.toArray).1.2.2
  have e1:(d5 l.toArray).extract 0 l.toArray.size=d5 l.toArray:=by
   rw [← rW]; exact Array.extract_size
  have e2:l.toArray.extract 0 l.toArray.size=l.toArray:=Array.extract_size
  rw [e1,e2] at h
  exact h
 srt l:=by
  have h:=(qCp l.toArray).2
  refine List.pairwise_iff_getElem.2 fun i j hi hj hij=>?_
  have hl:=mM l
  have:=h i j (Nat.zero_le _) hij (by simp; omega)
  rw [qCj] at this
  have hi':i < (d5 l.toArray).size:=by rw [rW]; simp; omega
  have hj':j < (d5 l.toArray).size:=by rw [rW]; simp; omega
  rw [getElem!_pos _ i hi',getElem!_pos _ j hj'] at this
  have e:∀ q (hq:q < (jI l).length) (hq':q < (d5 l.toArray).size),(jI l)[q]=(d5 l.toArray)[q]:=fun q hq hq'=>Array.getElem_toList hq'
  exact (congrArg (fun a=>qL7 a (jI l)[i]) (e j hj hj')).trans ((congrArg (fun b=>qL7 (d5 l.toArray)[j] b) (e i hi hi')).trans this)
end Go.Am.Tr
namespace Go.Am.Tr
theorem qFk {α:Type} [DecidableEq α]:∀ {m l:List α},m.Nodup->(∀ x∈m,x∈l)->m.length<=l.length
 | [],_,_,_=>Nat.zero_le _
 | x::m,l,h,hs=>by
  have h':=List.nodup_cons.1 h
  have hx:=hs x List.mem_cons_self
  have:=qFk (m:=m) (l:=l.erase x) h'.2 fun y hy=>(List.mem_erase_of_ne (fun (e:y=x)=>h'.1 (e ▸ hy))).2 (hs y (mC _ hy))
  rw [List.length_erase_of_mem hx] at this
  have hp:0 < l.length:=List.length_pos_of_mem hx
  rw [List.length_cons]; omega
theorem qDt {α:Type} [DecidableEq α]:∀ {m l:List α},m.Nodup->(∀ x∈m,x∈l)->l.length<=m.length->l.Nodup
 | [],l,_,_,hl=>by rw [List.length_eq_zero_iff.1 (Nat.le_zero.1 hl)]; exact List.nodup_nil
 | x::m,l,h,hs,hl=>by
  have h':=List.nodup_cons.1 h
  have hx:=hs x List.mem_cons_self
  have hlen:=List.length_erase_of_mem hx
  have hp:0 < l.length:=List.length_pos_of_mem hx
  rw [List.length_cons] at hl
  have hm:∀ y∈m,y∈l.erase x:=fun y hy=>(List.mem_erase_of_ne (fun (e:y=x)=>h'.1 (e ▸ hy))).2 (hs y (mC _ hy))
  have ih:=qDt (m:=m) (l:=l.erase x) h'.2 hm (by omega)
  have hni:x ∉ l.erase x:=fun hin=>by
   have:=qFk (m:=x::m) (l:=l.erase x) h fun y hy=>by
    rcases List.mem_cons.1 hy with rfl | hy
    ·exact hin
    exact hm y hy
   rw [List.length_cons] at this; omega
  exact (List.perm_cons_erase hx).nodup_iff.2 (List.nodup_cons.2 ⟨hni,ih⟩)
def tE (t p:Int) (n:Nt):Bool:=decide (n.ti=t) && decide (n.pa=p)
def dA (ns:List Nt) (t p:Int):List Nt:=ns.filter (tE t p)
theorem qB2 {ns:List Nt} {t p:Int} {n:Nt}:n∈dA ns t p↔n∈ns/\n.ti=t/\n.pa=p:=by
 unfold dA tE
 rw [List.mem_filter,vF,decide_eq_true_eq,decide_eq_true_eq]
def qQG (ts:List Tr) (i:Nat) (t:Tr):Prop:=0<=t.kd/\t.kd<=4/\(t.kd≠0->0<=t.pa/\t.pa < (i:Int))
def qK1 (ts:List Tr) (ns:List Nt) (n:Nt):Prop :=
 (0<=n.ti/\n.ti < (ts.length:Int))/\((xE ts n.ti).kd=0->n.pa=0)/\((xE ts n.ti).kd≠0->∃ p,yL ns n.pa=some p/\p.ti=(xE ts n.ti).pa) /\
 (l9 (xE ts n.ti).kd=true->n.fr < n.to)/\(l9 (xE ts n.ti).kd=false->n.fr=0)/\(n.rk≠0->(xE ts n.ti).kd=3)
def qK7 (l:List Nt):Prop:=∀ (i j:Nat) (x y:Nt),j < i->l[i]? = some x->l[j]? = some y->¬ (x.fr < y.to/\y.fr < x.to)
def qFU (l:List Nt):Prop:=∀ r:Nat,r < l.length->∃ x∈l,x.rk=(r:Int)
def SOk (ts:List Tr) (ns:List Nt) (n:Nt):Prop :=
 (l9 (xE ts n.ti).kd=true->qK7 (dA ns n.ti n.pa))/\((xE ts n.ti).kd=3->qFU (dA ns n.ti n.pa))/\((xE ts n.ti).kd=4->(dA ns n.ti n.pa).length<=1)
structure Raw (ts:List Tr) (ns:List Nt):Prop where
 ht:∀ (i:Nat) (x:Tr),ts[i]? = some x->qQG ts i x
 hi:∀ (i:Nat) (n:Nt),ns[i]? = some n->1<=n.id/\∀ m:Nt,0 < i->ns[i - 1]? = some m->m.id < n.id
 hn:∀ n∈ns,qK1 ts ns n
 hs:∀ n∈ns,SOk ts ns n
section
variable {ts:List Tr} {ns:List Nt}
theorem qEU {t:Int} (h0:0<=t) (h1:t < (ts.length:Int)):ts[t.toNat]? = some (xE ts t):=by
 have:t.toNat < ts.length:=by omega
 unfold xE
 rw [List.getElem?_eq_getElem this]; rfl
theorem Raw.lt (R:Raw ts ns):∀ (j i:Nat) (m n:Nt),i < j->ns[i]? = some m->ns[j]? = some n->m.id < n.id
 | 0,i,_,_,h,_,_=>by omega
 | j+1,i,m,n,h,hm,hn=>by
  have hj:j < ns.length:=by
   rcases Nat.lt_or_ge (j+1) ns.length with h | h
   ·omega
   rw [List.getElem?_eq_none h] at hn; cases hn
  have e:=List.getElem?_eq_getElem hj
  have h1:=(R.hi (j+1) n hn).2 _ (Nat.succ_pos j) e
  by_cases hij:i=j
  ·subst hij
   rw [e] at hm
   rw [← Option.some.inj hm]; exact h1
  have:=R.lt j i m _ (by omega) hm e
  omega
theorem Raw.facts (R:Raw ts ns):vV ts ns where
 up t h0 h1 hk:=by
  have:=(R.ht _ _ (qEU h0 h1)).2.2 hk
  omega
 ids:=List.pairwise_iff_getElem.2 fun i j hi hj hij=>R.lt j i _ _ hij (List.getElem?_eq_getElem hi) (List.getElem?_eq_getElem hj)
 pos n hn:=by
  obtain ⟨i,hi⟩:=List.getElem?_of_mem hn
  exact (R.hi i n hi).1
 tin n hn:=(R.hn n hn).1
 par n hn:=(R.hn n hn).2.1
 par' n hn:=(R.hn n hn).2.2.1
 nul n hn:=by
  obtain ⟨_,_,_,_,h5,h6⟩:=R.hn n hn
  refine ⟨fun ha=>?_,h5⟩
  by_cases hr:n.rk=0
  ·exact hr
  rw [h6 hr] at ha; cases ha
 sib n hn m hm ht hp hid:=by
  have hne:n≠m:=fun e=>hid (by rw [e])
  obtain ⟨s1,s2,s3⟩:=R.hs n hn
  have n1:n∈dA ns n.ti n.pa:=qB2.2 ⟨hn,rfl,rfl⟩
  have m1:m∈dA ns n.ti n.pa:=qB2.2 ⟨hm,ht.symm,hp.symm⟩
  have fn:=(R.hn n hn).2.2.2.1
  have fm:=(R.hn m hm).2.2.2.1
  rw [← ht] at fm
  refine ⟨fun ha he=>?_,fun ha he=>?_⟩
  ·have hA:=s1 ha
   obtain ⟨i,hi⟩:=List.getElem?_of_mem n1
   obtain ⟨j,hj⟩:=List.getElem?_of_mem m1
   have:=fn ha
   have:=fm ha
   rcases Nat.lt_trichotomy i j with h | h | h
   ·exact hA j i m n h hj hi (by omega)
   ·subst h; rw [hi] at hj; exact hne (Option.some.inj hj)
   exact hA i j n m h hi hj (by omega)
  have hk:=R.ht _ _ (qEU (R.hn n hn).1.1 (R.hn n hn).1.2)
  have hk0:(xE ts n.ti).kd=3∨(xE ts n.ti).kd=4:=by
   have h1:=hk.1; have h2:=hk.2.1
   unfold l9 at ha
   simp only [Bool.or_eq_false_iff,decide_eq_false_iff_not] at ha
   omega
  rcases hk0 with hk3 | hk4
  ·have hR:=s2 hk3
   generalize dA ns n.ti n.pa=l at *
   have hnd:(l.map Nt.rk).Nodup:=qDt (m:=(List.range l.length).map (fun r:Nat=>(r:Int))) (List.pairwise_map.2 (List.Pairwise.imp (fun h e=>by omega) List.nodup_range)) (fun x hx=>by
    obtain ⟨r,hr,rfl⟩:=List.mem_map.1 hx
    obtain ⟨y,hy,e⟩:=hR r (List.mem_range.1 hr)
    exact List.mem_map.2 ⟨y,hy,e⟩) (by rw [List.length_map,List.length_map,List.length_range]; exact lR _)
   obtain ⟨i,hi⟩:=List.getElem?_of_mem n1
   obtain ⟨j,hj⟩:=List.getElem?_of_mem m1
   obtain ⟨hi1,hi2⟩:=gI hi
   obtain ⟨hj1,hj2⟩:=gI hj
   have P:=List.pairwise_iff_getElem.1 (List.pairwise_map.1 hnd)
   rcases Nat.lt_trichotomy i j with h | h | h
   ·exact P i j hi1 hj1 h (by rw [hi2,hj2]; exact he)
   ·subst h; rw [hi] at hj; exact hne (Option.some.inj hj)
   exact P j i hj1 hi1 h (by rw [hi2,hj2]; exact he.symm)
  have hl:=s3 hk4
  generalize dA ns n.ti n.pa=l at *
  obtain ⟨i,hi⟩:=List.getElem?_of_mem n1
  obtain ⟨j,hj⟩:=List.getElem?_of_mem m1
  obtain ⟨hi1,_⟩:=gI hi
  obtain ⟨hj1,_⟩:=gI hj
  have:i=j:=by omega
  subst this
  rw [hi] at hj; exact hne (Option.some.inj hj)
end
end Go.Am.Tr
