/- Symbolic runs: calls that are handed places of the function's own. Conditions: none. -/
import Derived.Test.YthhlmoidofecpaaGreatSx3
set_option linter.unusedVariables false
set_option linter.unusedSimpArgs false
namespace Go.Am
open Go
def qCR (E:Env) (f:FuncId) (ds:List D) (d:D):Prop:=(∃ fn,E.funcs.get f=some fn) /\
 ∀ (H:AH) (g:zF) (args:List Value),WF H->zF.le g H.blocks.get->DRs g ds args ->
  ∃ v H' g',jL E f args H v H'/\H.next < H'.next/\WF H'/\(∀ b,b < H.next->H'.blocks.get b=H.blocks.get b)/\Nat.min H.low H.next<=H'.low/\zF.le g g'/\zF.le g' H'.blocks.get/\(∀ b,b < H.next->g' b=g b)/\DR g' d v
def qTh (m:Mode) (ve:Nat->Value) (lb:Nat->Nat):Value:=match m.out.slots with
 | [(_,x)]=>x.val ve lb
 | l=>.tuple ⟨SV.vals ve lb (l.map Prod.snd)⟩
def qQw (E:Env) (f:FuncId) (m:Mode) (ds:List D) (d:D):Prop:=(∃ fn,E.funcs.get f=some fn)/\∃ ds',d=mQ ds'/\ds'.length=m.out.sts.length /\
 ∀ (L:Lim) (H:AH) (g:zF) (ve:Nat->Value) (lb:Nat->Nat) (args:List Value),SR L H g (m.inp.st m.n) ds ve lb g ⟨m.n,false,T.ofList .leaf 0 args⟩ H->args.length=m.n ->
  (L.F=(List.range m.inp.blks.length).map lb) ->
  ∃ v H' g' ve',jL E f args H v H'/\H.next < H'.next/\SM { L with F:=[] } (m.out.st 0) ds' ve' lb g' H'/\(∀ b,L.K b->H'.blocks.get b=H.blocks.get b)/\(∀ b,L.K b->g' b=g b)/\Nat.min H.low L.n<=H'.low/\v=qTh m ve' lb
def Holds (E:Env) (f:FuncId) (ds:List D) (d:D):Prop:=(f < qAZ/\qCR E f ds d)∨∃ f0 m ds0,f=Nat.add qAZ f0/\ds=.mode m::ds0/\qQw E f0 m ds0 d
section
variable {E:Env} {n0:Lim} {H0:AH} {g0:zF} {S:St} {ρ:List D} {ve:Nat->Value} {lb:Nat->Nat} {g:zF} {fr:Fr} {H:AH} {Q:Res1->Prop} {o:Oper} {κ:K1} {wm:Bool}
theorem qGF {b:Nat}:∀ {l:List Nat} {i k:Nat},qMl b l i=some k->∃ j,k=i+j/\l[j]? = some b
 | [],_,_,h=>by cases h
 | c::r,i,k,h=>by
  simp only [qMl,qV] at h
  split at h
  ·rename_i e; cases h; exact ⟨0,rfl,by rw [e]; rfl⟩
  obtain ⟨j,h1,h2⟩:=qGF h
  exact ⟨j+1,by omega,by simpa using h2⟩
def qCm (lb:Nat->Nat) (bm:List Nat):Nat->Nat:=fun k=>lb (bm.getD k 0)
mutual
theorem qES {bm:List Nat} {n m:Nat} {ρ:Nat->D}:∀ {x y:SV},x.toC bm=some y->y.val ve (qCm lb bm)=x.val ve lb/\y.d ρ=x.d ρ/\(x.bd n m->y.bd n bm.length)
 | .v i,y,h=>by simp only [SV.toC,oI] at h; subst h; exact ⟨rfl,rfl,fun h=>h⟩
 | .c x,y,h=>by simp only [SV.toC,oI] at h; subst h; exact ⟨rfl,rfl,fun h=>h⟩
 | .loc b o,y,h=>by
  simp only [SV.toC] at h
  split at h
  ·rename_i k hk
   cases h
   obtain ⟨j,h1,h2⟩:=qGF hk
   have:k=j:=by omega
   subst this
   refine ⟨?_,rfl,fun _=>(gI h2).1⟩
   simp only [SV.val,qCm,List.getD_eq_getElem?_getD,h2,Option.getD_some]
  cases h
 | .ptr _ _ _ _,y,h=>by cases h
 | .pp i o,y,h=>by simp only [SV.toC,oI] at h; subst h; exact ⟨rfl,rfl,fun h=>h⟩
 | .agg cs,y,h=>by
  simp only [SV.toC] at h
  split at h
  ·rename_i l hl
   cases h
   obtain ⟨h1,h2,h3⟩:=nG (n:=n) (m:=m) (ρ:=ρ) hl
   exact ⟨by simp only [SV.val,h1],by simp only [SV.d,h2],h3⟩
  cases h
 | .tup cs,y,h=>by
  simp only [SV.toC] at h
  split at h
  ·rename_i l hl
   cases h
   obtain ⟨h1,h2,h3⟩:=nG (n:=n) (m:=m) (ρ:=ρ) hl
   exact ⟨by simp only [SV.val,h1],by simp only [SV.d,h2],h3⟩
  cases h
 | .fn f a b,y,h=>by
  simp only [SV.toC] at h
  split at h
  ·rename_i a' b' ha hb
   cases h
   obtain ⟨h1,h2,h3⟩:=nG (n:=n) (m:=m) (ρ:=ρ) ha
   obtain ⟨k1,k2,k3⟩:=nG (n:=n) (m:=m) (ρ:=ρ) hb
   exact ⟨by simp only [SV.val,h1,k1],by simp only [SV.d,h2,k2],fun q=>⟨h3 q.1,k3 q.2⟩⟩
  cases h
 | .ifc t x,y,h=>by
  simp only [SV.toC] at h
  split at h
  ·rename_i x' hx
   cases h
   obtain ⟨h1,h2,h3⟩:=qES (n:=n) (m:=m) (ρ:=ρ) hx
   exact ⟨by simp only [SV.val,h1],by simp only [SV.d,h2],h3⟩
  cases h
theorem nG {bm:List Nat} {n m:Nat} {ρ:Nat->D}:∀ {xs ys:List SV},SV.toCs bm xs=some ys->SV.vals ve (qCm lb bm) ys=SV.vals ve lb xs/\SV.ds ρ ys=SV.ds ρ xs/\(SV.bds n m xs->SV.bds n bm.length ys)
 | [],ys,h=>by simp only [SV.toCs,oI] at h; subst h; exact ⟨rfl,rfl,fun h=>h⟩
 | x::xs,ys,h=>by
  simp only [SV.toCs] at h
  split at h
  ·rename_i y l hy hl
   cases h
   obtain ⟨h1,h2,h3⟩:=qES (n:=n) (m:=m) (ρ:=ρ) hy
   obtain ⟨k1,k2,k3⟩:=nG (n:=n) (m:=m) (ρ:=ρ) hl
   exact ⟨by simp only [SV.vals,h1,k1],by simp only [SV.ds,h2,k2],fun q=>⟨h3 q.1,k3 q.2⟩⟩
  cases h
end
theorem qF6 {bm:List Nat} {x y:Blk} (h:x.toC bm=some y):x.isL=false/\y.isL=false:=by
 cases x with
 | loop _ _=>cases h
 | tcells _ _=>cases h
 | cells xs =>
  simp only [Blk.toC] at h
  split at h
  ·cases h; exact ⟨rfl,rfl⟩
  cases h
 | whole x k =>
  simp only [Blk.toC] at h
  split at h
  ·cases h; exact ⟨rfl,rfl⟩
  cases h
theorem qMT {bm:List Nat} {n m:Nat} {ρ:Nat->D} {x y:Blk} (h:x.toC bm=some y):(∀ cs,jM ρ ve lb cs x->jM ρ ve (qCm lb bm) cs y)/\(x.bd n m->y.bd n bm.length):=by
 cases x with
 | cells xs =>
  simp only [Blk.toC] at h
  split at h
  ·rename_i l hl
   cases h
   obtain ⟨h1,h2,h3⟩:=nG (ve:=ve) (lb:=lb) (n:=n) (m:=m) (ρ:=ρ) hl
   exact ⟨fun cs hc=>by simp only [jM] at hc ⊢; rw [h1]; exact hc,h3⟩
  cases h
 | loop _ _=>cases h
 | tcells _ _=>cases h
 | whole x k =>
  simp only [Blk.toC] at h
  split at h
  ·rename_i l hl
   cases h
   obtain ⟨h1,h2,h3⟩:=qES (ve:=ve) (lb:=lb) (n:=n) (m:=m) (ρ:=ρ) hl
   exact ⟨fun cs hc=>by simp only [jM] at hc ⊢; rw [h1,h2]; exact hc,h3⟩
  cases h
theorem qEu {bm:List Nat}:∀ {l:List Nat} {bs:List (Option Blk)},qEv S bm l=some bs->bs.length=l.length/\(∀ b∈l,S.live b)/\∀ (k:Nat) (y:Blk),bs[k]? = some (some y)->∃ (b:Nat) (x:Blk),l[k]? = some b/\S.blks[b]? = some (some x)/\x.toC bm=some y
 | [],bs,h=>by simp only [qEv,oI] at h; subst h; exact ⟨rfl,fun _ h=>(by cases h),fun k y h=>by simp at h⟩
 | b::r,bs,h=>by
  simp only [qEv] at h
  split at h
  ·rename_i x l hx hl
   split at h
   ·rename_i y hy
    cases h
    obtain ⟨h1,h2,h3⟩:=qEu hl
    refine ⟨by simp [h1],?_,?_⟩
    ·intro c hc
     rcases List.mem_cons.1 hc with rfl | hc
     ·exact ⟨x,hx⟩
     exact h2 c hc
    intro k z hz
    cases k with
    | zero=>simp at hz; subst hz; exact ⟨b,x,rfl,hx,hy⟩
    | succ k=>simpa using h3 k z (by simpa using hz)
   cases h
  cases h
theorem qBm:∀ {l:List Nat},tW l=true->∀ (i j a:Nat),l[i]? = some a->l[j]? = some a->i=j
 | [],_,i,j,a,hi,_=>by simp at hi
 | b::r,h,i,j,a,hi,hj=>by
  simp only [tW,vF,Bool.not_eq_true'] at h
  have no:∀ k:Nat,r[k]? = some b->False:=fun k hk=>by
   have:=List.mem_of_getElem? hk
   have h1:=h.1
   rw [List.any_eq_false] at h1
   exact h1 b this (Nat.beq_refl b)
  cases i with
  | zero =>
   simp at hi; subst hi
   cases j with
   | zero=>rfl
   | succ j=>exact absurd (by simpa using hj) (no j)
  | succ i=>cases j with
   | zero=>simp at hj; subst hj; exact absurd (by simpa using hi) (no i)
   | succ j=>exact congrArg (· + 1) (qBm h.2 i j a (by simpa using hi) (by simpa using hj))
theorem qDs {l:List Value} {t:Nat}:(T.ofList .leaf 0 l).get t=l[t]? := by
 rw [yR]
 split
 ·rfl
 rename_i h
 simp only [T.get]
 rw [List.getElem?_eq_none (by omega)]
theorem qDr {l:List SV} {t:Nat}:(T.ofList .leaf 0 l).get t=l[t]? := by
 rw [yR]
 split
 ·rfl
 rename_i h
 simp only [T.get]
 rw [List.getElem?_eq_none (by omega)]
theorem SR.forC (h:SR n0 H0 g0 S ρ ve lb g fr H) {bm:List Nat} {l l':List SV} {bs:List (Option Blk)} (hl:SV.bds S.n S.blks.length l) (hl':SV.toCs bm l=some l') (hbs:qEv S bm bm=some bs) (hnd:tW bm=true) :
  SR { n0 with F:=[],frs:=[],rd:=false } H0 g0 (S.forC l' bs) ρ ve (qCm lb bm) g ⟨l'.length,false,T.ofList .leaf 0 (SV.vals ve lb l)⟩ H:=by
 obtain ⟨b1,b2,b3⟩:=qEu hbs
 have at_:∀ k,(S.forC l' bs).live k->∃ b:Nat,bm[k]? = some b/\S.live b/\qCm lb bm k=lb b:=by
  intro k ⟨y,hy⟩
  obtain ⟨b,x,e1,e2,_⟩:=b3 k y hy
  exact ⟨b,e1,⟨x,e2⟩,by simp only [qCm,List.getD_eq_getElem?_getD,e1,Option.getD_some]⟩
 obtain ⟨v1,_,v3⟩:=nG (ve:=ve) (lb:=lb) (n:=S.n) (m:=S.blks.length) (ρ:=getD ρ) hl'
 refine { len:=h.len,wf:=h.wf,mem:=h.mem,base:=h.base,fix:=⟨Nat.zero_le _,fun k a hk=>by simp at hk⟩,vars:=?_,blks:=?_,sepLG:=?_,sepFG:=h.sepFG,sepL:=?_,sepF:=h.sepF,sepX:=?_,sz:=rfl,rd:=rfl,slots:=?_,sav:=.nil,keep:=h.keep,gk:=h.gk,low:=h.low }
 ·intro i s hs
  have:=h.vars i s hs
  obtain ⟨k,oo⟩:=s
  refine ⟨this.1,?_⟩
  have h2:=this.2
  cases k <;> try exact h2
  rcases h2 with q | ⟨B,l,cs,vs,el,rt,sz,es,q⟩
  ·exact .inl q
  exact .inr ⟨B,l,cs,vs,el,rt,sz,es,{ q with rt:=q.rt }⟩
 ·intro k y hy
  obtain ⟨b,x,e1,e2,e3⟩:=b3 k y hy
  obtain ⟨q1,q0⟩:=h.blks b x e2
  obtain ⟨el,rt,cs,q2,q3,q4⟩:=q0.cells (qF6 e3).1
  obtain ⟨t1,t2⟩:=qMT (ve:=ve) (lb:=lb) (n:=S.n) (m:=S.blks.length) (ρ:=getD ρ) e3
  have hlb:qCm lb bm k=lb b:=by simp only [qCm,List.getD_eq_getElem?_getD,e1,Option.getD_some]
  refine ⟨?_,.ofCells (qF6 e3).2 ⟨el,rt,cs,by rw [hlb]; exact q2,by rw [hlb]; exact q3,t1 cs q4⟩⟩
  have:=t2 q1
  show y.bd S.n bs.length
  rw [b1]; exact this
 ·intro k hk
  obtain ⟨b,_,e2,e3⟩:=at_ k hk
  rw [e3]; exact h.sepLG b e2
 ·intro a b ha hb e
  obtain ⟨c,c1,c2,c3⟩:=at_ a ha
  obtain ⟨d,d1,d2,d3⟩:=at_ b hb
  rw [c3,d3] at e
  have:=h.sepL c d c2 d2 e
  subst this
  exact qBm hnd a b c c1 d1
 ·intro k i hk hi
  obtain ⟨b,_,e2,e3⟩:=at_ k hk
  rw [e3]; exact h.sepX b i e2 hi
 intro t x hx
 have hx:(T.ofList .leaf 0 l').get t=some x:=hx
 rw [qDr] at hx
 refine ⟨?_,?_⟩
 ·have hm:=List.mem_of_getElem? hx
  have:=v3 hl
  rw [SV.bds_iff] at this
  show x.bd S.n bs.length
  rw [b1]; exact this x hm
 show (T.ofList .leaf 0 (SV.vals ve lb l)).get t=_
 rw [qDs,← v1,SV.vals_map,List.getElem?_map,hx]
 rfl
theorem qHI:∀ (l:List VSt) (x:SV),(mF l x).length=l.length:=by
 intro l x
 cases x <;> first | rfl | simp [mF]
theorem wT:∀ (azq:List SV) (l:List VSt),(azq.foldl mF l).length=l.length
 | [],_=>rfl
 | a::azq,l=>by rw [List.foldl_cons,wT azq,qHI]
theorem uG:∀ (azq:List SV) (l:List VSt) {i:Nat} {s:VSt},(azq.foldl mF l)[i]? = some s->∃ s0,l[i]? = some s0/\((s=s0/\(s.k=.fresh->SV.v i ∉ azq))∨(s=⟨.dead,s0.one⟩))
 | [],l,i,s,h=>⟨s,h,.inl ⟨rfl,fun _ h=>by cases h⟩⟩
 | a::azq,l,i,s,h=>by
  obtain ⟨s1,h1,h2⟩:=uG azq (mF l a) h
  have key:∃ s0,l[i]? = some s0/\((s1=s0/\(s1.k=.fresh->SV.v i≠a))∨s1=⟨.dead,s0.one⟩):=by
   cases a with
   | v j =>
    simp only [mF,List.getElem?_modify] at h1
    cases hl:l[i]? with
    | none=>rw [hl] at h1; simp at h1
    | some s0 =>
     rw [hl] at h1
     refine ⟨s0,rfl,?_⟩
     change some _=some _ at h1
     injection h1 with h1
     simp only at h1
     by_cases e:j=i
     ·rw [if_pos e] at h1
      obtain ⟨k0,o0⟩:=s0
      cases k0 with
      | fresh=>exact .inr h1.symm
      | _=>exact .inl ⟨h1.symm,fun hk=>by rw [← h1] at hk; cases hk⟩
     rw [if_neg e] at h1
     exact .inl ⟨h1.symm,fun _ he=>e (by cases he; rfl)⟩
   | _=>exact ⟨s1,h1,.inl ⟨rfl,fun _ he=>by cases he⟩⟩
  obtain ⟨s0,k1,k2⟩:=key
  refine ⟨s0,k1,?_⟩
  rcases h2 with ⟨rfl,h2⟩ | h2
  ·rcases k2 with ⟨rfl,k2⟩ | k2
   ·refine .inl ⟨rfl,fun hk hm=>?_⟩
    rcases List.mem_cons.1 hm with hm | hm
    ·exact k2 hk hm
    exact h2 hk hm
   exact .inr k2
  rcases k2 with ⟨rfl,k2⟩ | k2
  ·exact .inr h2
  rw [h2,k2]; exact .inr rfl
theorem fB {n:Nat} {bm:List Nat}:∀ (l:List Nat) (xs B:List (Option Blk)),(dG n bm l xs B).length=B.length
 | [],_,_=>by simp [dG]
 | b::bs,[],B=>(fB bs [] _).trans (List.length_set ..)
 | b::bs,x::xs,B=>(fB bs xs _).trans (List.length_set ..)
theorem tG {n:Nat} {bm:List Nat}:∀ (l:List Nat) (xs B:List (Option Blk)) {c:Nat} {y:Blk},(dG n bm l xs B)[c]? = some (some y)->(c ∉ l/\B[c]? = some (some y))∨∃ (k:Nat) (x:Blk),l[k]? = some c/\xs[k]? = some (some x)/\y=x.ofC n bm
 | [],_,B,c,y,h=>.inl ⟨fun h=>(by cases h),by simpa [dG] using h⟩
 | b::bs,[],B,c,y,h=>by
  have h:(dG n bm bs [] (B.set b none))[c]? = some (some y):=h
  rcases tG bs [] _ h with ⟨h1,h2⟩ | ⟨k,x,h1,h2,_⟩
  ·rw [List.getElem?_set] at h2
   split at h2
   ·split at h2 <;> cases h2
   rename_i e
   refine .inl ⟨fun hm=>?_,h2⟩
   rcases List.mem_cons.1 hm with rfl | hm
   ·exact e rfl
   exact h1 hm
  simp at h2
 | b::bs,x::xs,B,c,y,h=>by
  have h:(dG n bm bs xs (B.set b (x.map (Blk.ofC n bm))))[c]? = some (some y):=h
  rcases tG bs xs _ h with ⟨h1,h2⟩ | ⟨k,x',h1,h2,h3⟩
  ·rw [List.getElem?_set] at h2
   split at h2
   ·rename_i e
    subst e
    split at h2
    ·cases x with
     | none=>cases h2
     | some x=>exact .inr ⟨0,x,rfl,rfl,by simpa using h2.symm⟩
    cases h2
   rename_i e
   refine .inl ⟨fun hm=>?_,h2⟩
   rcases List.mem_cons.1 hm with rfl | hm
   ·exact e rfl
   exact h1 hm
  exact .inr ⟨k+1,x',by simpa using h1,by simpa using h2,h3⟩
section
variable {n k M:Nat} {bm:List Nat} {ve3 ve2:Nat->Value} {ρ3 ρ2:Nat->D}
mutual
theorem tV (hv:∀ i,ve3 (n+i)=ve2 i) (hd:∀ i,ρ3 (n+i)=ρ2 i) (hM:∀ j,j < bm.length->bm.getD j 0 < M):∀ {x:SV},(x.ofC n bm).val ve3 lb=x.val ve2 (qCm lb bm)/\(x.ofC n bm).d ρ3=x.d ρ2/\(x.bd k bm.length->(x.ofC n bm).bd (n+k) M)
 | .v i=>⟨hv i,hd i,fun h=>Nat.add_lt_add_left h n⟩
 | .c _=>⟨rfl,rfl,fun h=>h⟩
 | .loc b o=>⟨rfl,rfl,fun h=>hM b h⟩
 | .ptr s i _ _=>by
  obtain ⟨a1,a2,a3⟩:=tV hv hd hM (x:=s)
  obtain ⟨b1,b2,b3⟩:=tV hv hd hM (x:=i)
  exact ⟨by simp only [SV.ofC,SV.val,a1,b1],rfl,fun h=>⟨a3 h.1,b3 h.2⟩⟩
 | .pp i o=>⟨by simp only [SV.ofC,SV.val]; rw [show Nat.add n i=n+i from rfl,hv i],by simp only [SV.ofC,SV.d]; rw [show Nat.add n i=n+i from rfl,hd i],fun h=>Nat.add_lt_add_left h n⟩
 | .agg cs=>by
  obtain ⟨a1,a2,a3⟩:=nO hv hd hM (xs:=cs)
  exact ⟨by simp only [SV.ofC,SV.val,a1],by simp only [SV.ofC,SV.d,a2],a3⟩
 | .tup cs=>by
  obtain ⟨a1,a2,a3⟩:=nO hv hd hM (xs:=cs)
  exact ⟨by simp only [SV.ofC,SV.val,a1],by simp only [SV.ofC,SV.d,a2],a3⟩
 | .fn f a b=>by
  obtain ⟨a1,a2,a3⟩:=nO hv hd hM (xs:=a)
  obtain ⟨b1,b2,b3⟩:=nO hv hd hM (xs:=b)
  exact ⟨by simp only [SV.ofC,SV.val,a1,b1],by simp only [SV.ofC,SV.d,a2,b2],fun h=>⟨a3 h.1,b3 h.2⟩⟩
 | .ifc t x=>by
  obtain ⟨a1,a2,a3⟩:=tV hv hd hM (x:=x)
  exact ⟨by simp only [SV.ofC,SV.val,a1],by simp only [SV.ofC,SV.d,a2],a3⟩
 | .yld b=>⟨rfl,rfl,fun h=>hM b h⟩
theorem nO (hv:∀ i,ve3 (n+i)=ve2 i) (hd:∀ i,ρ3 (n+i)=ρ2 i) (hM:∀ j,j < bm.length->bm.getD j 0 < M):∀ {xs:List SV},SV.vals ve3 lb (SV.ofCs n bm xs)=SV.vals ve2 (qCm lb bm) xs/\SV.ds ρ3 (SV.ofCs n bm xs)=SV.ds ρ2 xs/\(SV.bds k bm.length xs->SV.bds (n+k) M (SV.ofCs n bm xs))
 | []=>⟨rfl,rfl,fun h=>h⟩
 | x::xs=>by
  obtain ⟨a1,a2,a3⟩:=tV hv hd hM (x:=x)
  obtain ⟨b1,b2,b3⟩:=nO hv hd hM (xs:=xs)
  exact ⟨by simp only [SV.ofCs,SV.vals,a1,b1],by simp only [SV.ofCs,SV.ds,a2,b2],fun h=>⟨a3 h.1,b3 h.2⟩⟩
end
theorem qMU (hv:∀ i,ve3 (n+i)=ve2 i) (hd:∀ i,ρ3 (n+i)=ρ2 i) (hM:∀ j,j < bm.length->bm.getD j 0 < M) {x:Blk}:(∀ cs,jM ρ2 ve2 (qCm lb bm) cs x->jM ρ3 ve3 lb cs (x.ofC n bm))/\(x.bd k bm.length->(x.ofC n bm).bd (n+k) M):=by
 cases x with
 | cells xs =>
  obtain ⟨a1,a2,a3⟩:=nO (lb:=lb) (k:=k) hv hd hM (xs:=xs)
  exact ⟨fun cs h=>by simp only [Blk.ofC,jM] at h ⊢; rw [a1]; exact h,a3⟩
 | loop _ _=>exact ⟨fun cs h=>h,fun h=>h⟩
 | tcells t xs =>
  obtain ⟨a1,a2,a3⟩:=nO (lb:=lb) (k:=k) hv hd hM (xs:=xs)
  exact ⟨fun cs h=>by simp only [Blk.ofC,jM] at h ⊢; rw [a1]; exact h,a3⟩
 | whole x q =>
  obtain ⟨a1,a2,a3⟩:=tV (lb:=lb) (k:=k) hv hd hM (x:=x)
  exact ⟨fun cs h=>by simp only [Blk.ofC,jM] at h ⊢; rw [a1,a2]; exact h,a3⟩
end
end
end Go.Am
namespace Go.Am
open Go
theorem mI.of_call {E:Env} {fr:Fr} {o:Oper} {H H':AH} {f:FuncId} {args:List Value} {v:Value} (ha:jD E fr o H=some (.enter f args,H)) (hc:jL E f args H v H') (hn:H.next < H'.next):mI E fr o H v H':=by
 refine ⟨Nat.le_of_lt hn,[{ f:=f,args:=args,H:=H,v:=v,H':=H' }],⟨⟨hn,hc⟩,lR _,trivial⟩,fun a ha=>?_,fun ih hg=>?_⟩
 ·simp only [List.mem_singleton] at ha; subst ha; exact lR _
 have:=hg _ (List.mem_singleton.2 rfl)
 simp only [vY.cmd] at this
 simp only [vL,ha]
 rw [this]
section
variable {E:Env} {n0:Lim} {H0:AH} {g0:zF} {S:St} {ρ:List D} {ve:Nat->Value} {lb:Nat->Nat} {g:zF} {fr:Fr} {H:AH} {Q:Res1->Prop} {o:Oper} {κ:K1} {wm:Bool}
theorem SR.after (h : SR n0 H0 g0 S ρ ve lb g fr H) {m : Mode} {bm : List Nat} {azq : List SV} (hnd : tW bm = true) (hlv : ∀ b ∈ bm, S.live b) {L : Lim} {H' : AH} {g' : zF} {ve2 : Nat -> Value} {ds : List D}
    (hLn : L.n = n0.n) (hLK : ∀ b, L.K b ↔ b < H.next /\ (∀ c ∈ bm, lb c ≠ b) /\ (∀ i, SV.v i ∈ azq -> S.freshV i = true -> jO (ve i) ≠ some b)) (hLF : L.F = [])
    (hout : SM L (m.out.st 0) ds ve2 (qCm lb bm) g' H') (hkeep : ∀ b, L.K b -> H'.blocks.get b = H.blocks.get b) (hgk : ∀ b, L.K b -> g' b = g b) (hlow : Nat.min H.low L.n <= H'.low) (hnx : H.next < H'.next) (hln : m.out.blks.length <= bm.length) (hnl : m.out.blks.all qLZ = true) :
    SR n0 H0 g0 (S.after m bm azq) (ρ ++ ds) (fun i => if i < S.n then ve i else ve2 (i - S.n)) lb g' fr H' := by
  have hlen : ρ.length = S.n := h.len
  have hds : ds.length = m.out.sts.length := hout.len
  have hn : (S.after m bm azq).n = S.n + m.out.sts.length := by
    show (azq.foldl mF S.sts ++ m.out.sts).length = _
    rw [List.length_append, wT]; rfl
  have hbl : (S.after m bm azq).blks.length = S.blks.length := fB _ _ _
  have e1 : ∀ i, i < S.n -> (fun i => if i < S.n then ve i else ve2 (i - S.n)) i = ve i := fun i hi => if_pos hi
  have e2 : ∀ i, (fun i => if i < S.n then ve i else ve2 (i - S.n)) (S.n + i) = ve2 i := fun i => by
    simp only
    rw [if_neg (by omega)]
    congr 1; omega
  have d1 : ∀ i, i < S.n -> getD (ρ ++ ds) i = getD ρ i := fun i hi => by
    simp only [getD, List.getD_eq_getElem?_getD]
    rw [List.getElem?_append_left (by omega)]
  have d2 : ∀ i, getD (ρ ++ ds) (S.n + i) = getD ds i := fun i => by
    simp only [getD, List.getD_eq_getElem?_getD]
    rw [List.getElem?_append_right (by omega)]
    congr 2; omega
  have hM : ∀ j, j < bm.length -> bm.getD j 0 < S.blks.length := fun j hj => by
    have : bm.getD j 0 = bm[j] := by simp [List.getD_eq_getElem?_getD, List.getElem?_eq_getElem hj]
    rw [this]
    exact qGy (hlv _ (List.getElem_mem hj))
  have Ksub : ∀ b, n0.K b -> L.K b := fun b hb => (hLK b).2 ⟨h.base.2 b hb, fun c hc e => (xQ h.toSM (hlv c hc)).2 (by rw [e]; exact hb), fun i _ hi e => by
    obtain ⟨oo, hs⟩ := zV.1 hi
    rcases (h.vars i _ hs).2 with q | ⟨B, l, cs, vs, el, rt, sz, es, q⟩
    · rw [q.own] at e; cases e
    · rw [q.v] at e
      simp only [jO, lR, if_true, oI] at e
      subst e
      exact q.rt.2 hb⟩
  have ownsub : ∀ b rt, L.own b rt -> n0.own b rt := fun b rt q => ⟨by rw [← hLn]; exact q.1, fun hb => q.2 (Ksub b hb)⟩
  have hle : zF.le g g' := fun b k hb => by
    have hbn := qMo h.toSM hb
    have : L.K b := (hLK b).2 ⟨hbn, fun c hc e => (by rw [← e, h.sepLG c (hlv c hc)] at hb; cases hb), fun i _ hi e => (by rw [h.sepFG i b hi e] at hb; cases hb)⟩
    rw [hgk b this]; exact hb
  have oldF : ∀ i, (S.after m bm azq).freshV i = true -> i < S.n -> S.freshV i = true /\ SV.v i ∉ azq := by
    intro i hi hlt
    obtain ⟨oo, hs⟩ := zV.1 hi
    have hs : (azq.foldl mF S.sts ++ m.out.sts)[i]? = some ⟨.fresh, oo⟩ := hs
    rw [List.getElem?_append_left (by rw [wT]; exact hlt)] at hs
    obtain ⟨s0, k1, k2⟩ := uG azq S.sts hs
    rcases k2 with ⟨rfl, k2⟩ | k2
    · exact ⟨zV.2 ⟨oo, k1⟩, k2 rfl⟩
    · cases k2
  have newF : ∀ i, (S.after m bm azq).freshV i = true -> ¬ i < S.n -> (m.out.st 0).freshV (i - S.n) = true := by
    intro i hi hlt
    obtain ⟨oo, hs⟩ := zV.1 hi
    have hs : (azq.foldl mF S.sts ++ m.out.sts)[i]? = some ⟨.fresh, oo⟩ := hs
    rw [List.getElem?_append_right (by rw [wT]; exact Nat.le_of_not_lt hlt), wT] at hs
    exact zV.2 ⟨oo, hs⟩
  have oldK : ∀ i B, S.freshV i = true -> SV.v i ∉ azq -> jO (ve i) = some B -> L.K B := by
    intro i B hi hm hB
    refine (hLK B).2 ⟨(oR h.toSM hi hB).1, fun c hc e => h.sepX c i (hlv c hc) hi (by rw [e]; exact hB), fun j hj hfj e => ?_⟩
    have := h.sepF i j B hi hfj hB e
    subst this
    exact hm hj
  have liveK : ∀ b, S.live b -> b ∉ bm -> L.K (lb b) := by
    intro b hb hm
    refine (hLK _).2 ⟨(xQ h.toSM hb).1, fun c hc e => ?_, fun i _ hi => h.sepX b i hb hi⟩
    have := h.sepL c b (hlv c hc) hb e
    subst this
    exact hm hc
  have newNK : ∀ i B, (m.out.st 0).freshV i = true -> jO (ve2 i) = some B -> ¬ L.K B := by
    intro i B hi hB
    obtain ⟨oo, hs⟩ := zV.1 hi
    rcases (hout.vars i _ hs).2 with q | ⟨B', l, cs, vs, el, rt, sz, es, q⟩
    · rw [q.own] at hB; cases hB
    · rw [q.v] at hB
      simp only [jO, lR, if_true, oI] at hB
      subst hB
      exact q.rt.2
  have blk : ∀ c y, (S.after m bm azq).blks[c]? = some (some y) -> (c ∉ bm /\ S.blks[c]? = some (some y)) ∨ ∃ (k : Nat) (x : Blk), bm[k]? = some c /\ (m.out.st 0).blks[k]? = some (some x) /\ y = x.ofC S.n bm := fun c y hy => tG _ _ _ hy
  have lbk : ∀ {k c : Nat}, bm[k]? = some c -> qCm lb bm k = lb c := fun {k c} hk => by simp only [qCm, List.getD_eq_getElem?_getD, hk, Option.getD_some]
  have lv : ∀ c, (S.after m bm azq).live c -> (c ∉ bm /\ S.live c) ∨ ∃ k, bm[k]? = some c /\ (m.out.st 0).live k := by
    intro c ⟨y, hy⟩
    rcases blk c y hy with ⟨h1, h2⟩ | ⟨k, x, h1, h2, _⟩
    · exact .inl ⟨h1, y, h2⟩
    · exact .inr ⟨k, h1, x, h2⟩
  have lv0 : ∀ c, (S.after m bm azq).live c -> S.live c := by
    intro c hc
    rcases lv c hc with ⟨_, h2⟩ | ⟨k, h1, _⟩
    · exact h2
    · exact hlv c (List.mem_of_getElem? h1)
  refine { len := ?_, wf := hout.wf, mem := hout.mem, base := h.base.mono (Nat.le_of_lt hnx), fix := ⟨by rw [hbl]; exact h.fix.1, h.fix.2⟩, vars := ?_, blks := ?_, sepLG := ?_, sepFG := ?_, sepL := fun a b ha hb => h.sepL a b (lv0 a ha) (lv0 b hb), sepF := ?_, sepX := ?_,
           sz := h.sz, rd := h.rd, slots := ?_, sav := h.sav.congr (by rw [hn]; omega) (by rw [hbl]; exact lR _) e1 (fun _ _ => rfl), keep := fun b hb => by rw [hkeep b (Ksub b hb)]; exact h.keep b hb, gk := fun b hb => by rw [hgk b (Ksub b hb)]; exact h.gk b hb, low := ?_ }
  · show (ρ ++ ds).length = (azq.foldl mF S.sts ++ m.out.sts).length
    rw [List.length_append, List.length_append, wT, hds, hlen]; rfl
  · intro i s hs
    have hs : (azq.foldl mF S.sts ++ m.out.sts)[i]? = some s := hs
    by_cases hi : i < S.n
    · rw [List.getElem?_append_left (by rw [wT]; exact hi)] at hs
      obtain ⟨s0, k1, k2⟩ := uG azq S.sts hs
      simp only [if_pos hi]
      rw [d1 i hi]
      have hv := h.vars i s0 k1
      rcases k2 with ⟨rfl, k2⟩ | k2
      · refine hv.mono hle fun hk B hB => hkeep B ?_
        obtain ⟨k, oo⟩ := s
        simp only at hk
        subst hk
        exact oldK i B (zV.2 ⟨oo, k1⟩) (k2 rfl) hB
      · subst k2; exact ⟨hv.1, trivial⟩
    · rw [List.getElem?_append_right (by rw [wT]; exact Nat.le_of_not_lt hi), wT] at hs
      have hv := hout.vars (i - S.n) s hs
      simp only [if_neg hi]
      have hd := d2 (i - S.n)
      rw [show S.n + (i - S.n) = i by omega] at hd
      rw [hd]
      obtain ⟨k, oo⟩ := s
      refine ⟨hv.1, ?_⟩
      have h2 := hv.2
      cases k <;> try exact h2
      rcases h2 with q | ⟨B, l, cs, vs, el, rt, sz, es, q⟩
      · exact .inl q
      · exact .inr ⟨B, l, cs, vs, el, rt, sz, es, { q with rt := ownsub _ _ q.rt }⟩
  · intro c y hy
    rcases blk c y hy with ⟨h1, h2⟩ | ⟨k, x, h1, h2, rfl⟩
    · obtain ⟨q1, q2⟩ := h.blks c y h2
      exact ⟨Blk.bd_mono (by rw [hn]; omega) (by rw [hbl]; exact lR _) q1, q2.congr (hkeep _ (liveK c ⟨y, h2⟩ h1)) rfl fun _ q4 => q4.congr e1 (fun _ _ => rfl) d1 q1⟩
    · obtain ⟨q1, q0⟩ := hout.blks k x h2
      have hxl : x.isL = false := by
        rw [List.all_eq_true] at hnl
        have := hnl _ (List.mem_of_getElem? (show m.out.blks[k]? = some (some x) from h2))
        cases x with
        | loop _ _ => cases this
        | tcells _ _ => cases this
        | cells _ => rfl
        | whole _ _ => rfl
      obtain ⟨el, rt, cs, q2, q3, q4⟩ := q0.cells hxl
      obtain ⟨t1, t2⟩ := qMU (lb := lb) (k := (m.out.st 0).n) (M := S.blks.length) (ve3 := fun i => if i < S.n then ve i else ve2 (i - S.n)) (ve2 := ve2) (ρ3 := getD (ρ ++ ds)) (ρ2 := getD ds) e2 d2 hM (x := x)
      have hk : qCm lb bm k = lb c := lbk h1
      rw [hk] at q2 q3
      refine ⟨?_, .ofCells (by cases x <;> first | rfl | cases hxl) ⟨el, rt, cs, q2, ownsub _ _ q3, t1 cs q4⟩⟩
      rw [hn, hbl]
      exact t2 (Blk.bd_mono (lR _) hln q1)
  · intro b hb
    rcases lv b hb with ⟨h1, h2⟩ | ⟨k, h1, h2⟩
    · rw [hgk _ (liveK b h2 h1)]; exact h.sepLG b h2
    · have := hout.sepLG k h2
      rw [lbk h1] at this; exact this
  · intro i B hi hB
    by_cases hlt : i < S.n
    · obtain ⟨k1, k2⟩ := oldF i hi hlt
      simp only [if_pos hlt] at hB
      rw [hgk _ (oldK i B k1 k2 hB)]
      exact h.sepFG i B k1 hB
    · simp only [if_neg hlt] at hB
      exact hout.sepFG _ B (newF i hi hlt) hB
  · intro i j B hi hj h1 h2
    by_cases a1 : i < S.n <;> by_cases a2 : j < S.n
    · simp only [if_pos a1] at h1; simp only [if_pos a2] at h2
      exact h.sepF i j B (oldF i hi a1).1 (oldF j hj a2).1 h1 h2
    · simp only [if_pos a1] at h1; simp only [if_neg a2] at h2
      exact absurd (oldK i B (oldF i hi a1).1 (oldF i hi a1).2 h1) (newNK _ B (newF j hj a2) h2)
    · simp only [if_neg a1] at h1; simp only [if_pos a2] at h2
      exact absurd (oldK j B (oldF j hj a2).1 (oldF j hj a2).2 h2) (newNK _ B (newF i hi a1) h1)
    · simp only [if_neg a1] at h1; simp only [if_neg a2] at h2
      have := hout.sepF _ _ B (newF i hi a1) (newF j hj a2) h1 h2
      omega
  · intro b i hb hi
    by_cases hlt : i < S.n
    · simp only [if_pos hlt]
      exact h.sepX b i (lv0 b hb) (oldF i hi hlt).1
    · simp only [if_neg hlt]
      rcases lv b hb with ⟨h1, h2⟩ | ⟨k, h1, h2⟩
      · intro e
        exact newNK _ _ (newF i hi hlt) e (liveK b h2 h1)
      · have := hout.sepX k _ h2 (newF i hi hlt)
        rw [lbk h1] at this; exact this
  · intro t x hx
    obtain ⟨q1, q2⟩ := h.slots t x hx
    exact ⟨SV.bd_mono (by rw [hn]; omega) (by rw [hbl]; exact lR _) q1, by rw [q2, SV.val_congr e1 (fun _ _ => rfl) q1]⟩
  · have h1 := h.low
    have h2 : Nat.min H.low n0.n <= H'.low := by rw [← hLn]; exact hlow
    exact lT (Nat.le_min.2 ⟨h1, Nat.min_le_right _ _⟩) h2
end
end Go.Am
namespace Go.Am
open Go
section
variable {E:Env} {n0:Lim} {H0:AH} {g0:zF} {S:St} {ρ:List D} {ve:Nat->Value} {lb:Nat->Nat} {g:zF} {fr:Fr} {H:AH} {Q:Res1->Prop} {o:Oper} {κ:K1} {wm:Bool}
theorem SR.grow (h:SR n0 H0 g0 S ρ ve lb g fr H) {g':zF} (hg:zF.le g g') (hm:zF.le g' H.blocks.get) (n:Nat) (hn:n0.base n) (hk:∀ b,b < n->g' b=g b) (hl:∀ b,S.live b->lb b < n) (hf:∀ i B,S.freshV i=true->jO (ve i)=some B->B < n) :
  SR n0 H0 g0 S ρ ve lb g' fr H:=by
 refine { h with mem:=hm,vars:=?_,sepLG:=?_,sepFG:=?_,gk:=?_ }
 ·intro i s hs
  exact (h.vars i s hs).mono hg (fun _ _ _=>rfl)
 ·intro b hb
  rw [hk _ (hl b hb)]; exact h.sepLG b hb
 ·intro i B hi hB
  rw [hk _ (hf i B hi hB)]; exact h.sepFG i B hi hB
 intro b hb
 rw [hk b (hn.2 b hb)]; exact h.gk b hb
theorem qAI {g g':zF}:∀ {ds:List D} {vs:List Value},eZ ds=true->DRs g ds vs->DRs g' ds vs
 | [],_,_,.nil=>.nil
 | .leaf x::ds,_,h,.cons (.leaf h1) h2=>.cons (.leaf h1) (qAI (ds:=ds) h h2)
 | .agg _::_,_,h,_=>by cases h
 | .nil::_,_,h,_=>by cases h
 | .sl _ _ _::_,_,h,_=>by cases h
 | .tup _::_,_,h,_=>by cases h
 | .ptr _ _::_,_,h,_=>by cases h
 | .clo _ _ _::_,_,h,_=>by cases h
 | .iface _ _::_,_,h,_=>by cases h
 | .mode _::_,_,h,_=>by cases h
theorem qMv {g g':zF} {fl:Nat} {d:D} {v:Value} (hfl:fl≠0) (h:qBD fl d=true) (hd:DR g d v):DR g' d v/\(Nat.beq fl 1=true->d.one=true):=by
 match fl,hfl with
 | 1,_ =>
  cases d with
  | leaf x=>cases hd with
   | leaf h1=>exact ⟨.leaf h1,fun _=>rfl⟩
  | _=>cases h
 | n+2,_ =>
  refine ⟨?_,fun e=>by cases e⟩
  cases d with
  | tup l=>cases hd with
   | tup h1=>exact .tup (qAI h h1)
  | _=>cases h
theorem tT (h:SR n0 H0 g0 S ρ ve lb g fr H) {tg:Tgt} {args:List SV} {fl:Nat} (hws:yZ o=false)
  (ha:∀ {g':zF} {f:FuncId} {ds:List D},s6 E tg (SV.ds (getD ρ) args)=some (f,ds)->DRs g' (SV.ds (getD ρ) args) (SV.vals ve lb args)->∃ azq,DRs g' ds azq/\((∃ fn,E.funcs.get f=some fn)->jD E fr o H=some (.enter f azq,H)))
  (hw:wp E (Holds E) Q (qEp E tg args fl S κ) ρ):jU wm E (Holds E) Q n0 H0 g0 fr H o κ:=by
 obtain ⟨g1,e1,h1⟩:=jT args h
 have call:args.all (xD (vO S args))=true->∀ {f:FuncId} {ds:List D} {d:D},s6 E tg (SV.ds (getD ρ) args)=some (f,ds)->Holds E f ds d ->
   ∃ v H' g',mI E fr o H v H'/\H.next < H'.next/\WF H'/\(∀ b,b < H.next->H'.blocks.get b=H.blocks.get b)/\Nat.min H.low H.next<=H'.low/\zF.le g1 g'/\zF.le g' H'.blocks.get/\(∀ b,b < H.next->g' b=g1 b)/\DR g' d v:=by
  intro hp f ds d ht hh
  rw [List.all_eq_true] at hp
  have hdr:=pG h1.toSM hp
  obtain ⟨azq,hds,hop⟩:=ha ht hdr
  rcases hh with ⟨_,hh⟩ | ⟨f0,m0,ds0,_,rfl,_⟩
  ·obtain ⟨v,H',g',q1,q2,q3,q4,q5,q6,q7,q8,q9⟩:=hh.2 H g1 azq h.wf h1.mem hds
   exact ⟨v,H',g',.of_call (hop hh.1) q1 q2,q2,q3,q4,q5,q6,q7,q8,q9⟩
  cases hds with
  | cons h1 _=>cases h1
 unfold qEp at hw
 split at hw
 ·simp only at hw
  obtain ⟨hp,hw⟩:=jP hw
  simp only [wp] at hw
  split at hw
  case h_2=>cases hw
  rename_i f ds ht
  obtain ⟨d,hh,_,hw⟩:=hw
  obtain ⟨v,H',g',hx,q2,q3,q4,q5,q6,q7,q8,q9⟩:=call hp ht hh
  have h2:=h1.heap q4 q3 (Nat.le_of_lt q2) (lT (Nat.le_min.2 ⟨h.low,lT (Nat.min_le_right _ _) h.base.1⟩) q5)
  have h3:=h2.grow q6 q7 H.next h.base q8 (fun b hb=>(xQ h1.toSM hb).1) (fun i B hi hB=>(oR h1.toSM hi hB).1)
  exact ⟨_,_,_,_,_,_,_,h3.new (k:=.pure) (o:=false) (by simp) (v:=v) ⟨(fun e=>by cases e),q9⟩,pW,hw,by simpa only [SV.val,vW] using hx,fun _=>q5⟩
 rename_i hfl
 obtain ⟨hp,hw⟩:=jP hw
 simp only [wp] at hw
 split at hw
 case h_2=>cases hw
 rename_i f ds ht
 obtain ⟨d,hh,hfd,hw⟩:=hw
 obtain ⟨v,H',g',hx,q2,q3,q4,q5,q6,q7,q8,q9⟩:=call hp ht hh
 obtain ⟨r1,r2⟩:=qMv (g':=g) (fun e=>hfl e) hfd q9
 have h2:=h.heap q4 q3 (Nat.le_of_lt q2) (lT (Nat.le_min.2 ⟨h.low,lT (Nat.min_le_right _ _) h.base.1⟩) q5)
 exact ⟨_,_,_,_,_,_,_,h2.new (k:=.pure) (o:=Nat.beq fl 1) (by simp) (v:=v) ⟨r2,r1⟩,pW,hw,by simpa only [SV.val,vW] using hx,fun _=>q5⟩
theorem sV (ve:Nat->Value) (lb:Nat->Nat) (a b:List SV):SV.vals ve lb (a++b)=SV.vals ve lb a++SV.vals ve lb b:=by
 rw [SV.vals_map,SV.vals_map,SV.vals_map,List.map_append]
theorem qLW (h:SR n0 H0 g0 S ρ ve lb g fr H) {c:Call} (ho:o.op=.call c) (hw:wp E (Holds E) Q (jN E o S κ) ρ):jU (kA E S o) E (Holds E) Q n0 H0 g0 fr H o κ:=by
 unfold jN at hw
 rw [ho] at hw
 simp only at hw
 split at hw
 ·cases hw
 rename_i args hargs
 obtain ⟨ab,ae⟩:=lU (E:=E) h hargs
 split at hw
 ·rename_i b hb
  unfold qEs at hw
  split at hw
  ·split at hw
   ·rename_i t ts x hts
    exact qPs h ho hb hts (by simpa [SV.vals] using ae) hw
   cases hw
  ·split at hw
   ·rename_i s x
    have hwm:kA E S o=qFQ S [s,x]:=by simp only [kA,yZ,ho,hb,hargs,Bool.false_or]
    rw [hwm]
    exact qHv h ho hb (by simpa [SV.vals] using ae) ab.1 ab.2.1 hw
   cases hw
  ·split at hw
   ·exact qOu h (mx:=false) ho hb (by simpa [SV.vals] using ae) hw
   cases hw
  ·split at hw
   ·exact qOu h (mx:=true) ho hb (by simpa [SV.vals] using ae) hw
   cases hw
  cases hw
 ·rename_i r name hr
  have hws:yZ o=false:=by simp [yZ,ho]
  split at hw
  case h_2=>cases hw
  rename_i y hy
  obtain ⟨yb,ye⟩:=z9 (E:=E) h hy
  refine tT h hws (fun {g' f ds} ht hdr=>?_) hw
  simp only [SV.ds,SV.vals] at ht hdr
  generalize y.d (getD ρ)=yd at ht hdr
  generalize SV.ds (getD ρ) args=rd at ht hdr
  generalize hyv:y.val ve lb=yv at hdr
  generalize hav:SV.vals ve lb args=av at hdr
  cases hdr with
  | @cons _ _ _ _ h1 h2 =>
   cases yd with
   | iface t d =>
    simp only [s6] at ht
    split at ht
    case h_2=>cases ht
    rename_i i ti hi hti
    split at ht
    case h_2=>cases ht
    rename_i p f' ptr hfind
    obtain ⟨hc,ht⟩:=zM ht
    cases ht
    cases h1 with
    | @iface _ _ v h1 =>
     refine ⟨v::av,.cons h1 h2,?_⟩
     intro ⟨fn,hfn⟩
     unfold jD; rw [ho]
     simp only [oA,ae,hav,hr,ye,hyv,gB,hi,hti,hfind,hc,cond_true,gU,hfn]
   | _=>cases ht
 rename_i f hf
 have hws:yZ o=false:=by simp [yZ,ho]
 split at hw
 ·rename_i gf first cap hfv
  obtain ⟨fb,fe⟩:=z9 (E:=E) h hfv
  refine tT h hws (fun {g' f' ds} ht hdr=>?_) hw
  simp only [s6,oI,Prod.mk.injEq] at ht
  obtain ⟨rfl,rfl⟩:=ht
  refine ⟨_,hdr,?_⟩
  intro ⟨fn,hfn⟩
  simp only [SV.val] at fe
  unfold jD; rw [ho]
  simp only [oA,ae,hf,fe,pQ,hfn,sV]
 ·rename_i i hfv
  obtain ⟨fb,fe⟩:=z9 (E:=E) h hfv
  refine tT h hws (fun {g' f' ds} ht hdr=>?_) hw
  simp only [SV.ds,SV.vals] at ht hdr
  simp only [SV.val] at fe
  generalize hyd:(SV.v i).d (getD ρ)=yd at ht hdr
  generalize SV.ds (getD ρ) args=rd at ht hdr
  generalize hyv:(SV.v i).val ve lb=yv at hdr
  generalize hav:SV.vals ve lb args=av at hdr
  simp only [SV.val] at hyv
  cases hdr with
  | cons h1 h2 =>
   cases yd with
   | clo fnn first cap =>
    cases fnn with
    | func gf =>
     simp only [s6,oI,Prod.mk.injEq] at ht
     obtain ⟨rfl,rfl⟩:=ht
     cases h1 with
     | @clo _ _ _ f1 c1 hp hf1 hc1 =>
      refine ⟨f1++av++c1,(hf1.append h2).append hc1,?_⟩
      intro ⟨fn,hfn⟩
      unfold jD; rw [ho]
      simp only [oA,ae,hav,hf,fe,hyv,pQ,hfn]
    | _=>cases ht
   | _=>cases ht
 cases hw
theorem aT (h:SR n0 H0 g0 S ρ ve lb g fr H) (hw:wp E (Holds E) Q (jN E o S κ) ρ):jU (kA E S o) E (Holds E) Q n0 H0 g0 fr H o κ:=by
 cases ho:o.op with
 | move x=>exact qGp h (.inl ho) (by unfold jN at hw; rw [ho] at hw; exact hw)
 | assign x=>exact qGp h (.inr ho) (by unfold jN at hw; rw [ho] at hw; exact hw)
 | pick c a b=>exact qLU h ho hw
 | alloc t=>exact qJA h ho hw
 | box t x=>exact qPt h ho hw
 | build t ps=>exact qJz h ho hw
 | buildSlice t n ps=>exact qAT h ho hw
 | load t a =>
  unfold jN at hw; rw [ho] at hw
  simp only at hw
  split at hw
  ·rename_i a' ha
   obtain ⟨ab,ae⟩:=z9 (E:=E) h ha
   obtain ⟨y,S',ρ',ve',g',e,h',hw',r1,r2⟩:=qGq h ab hw
   refine .same h' r1 hw' ?_
   unfold jD; rw [ho]
   simp only [ae,r2,one,Option.map_some]
  cases hw
 | store t a x =>
  have hwm:kA E S o=true:=by simp [kA,yZ,ho]
  rw [hwm]
  unfold jN at hw; rw [ho] at hw
  simp only at hw
  split at hw
  ·rename_i i j sz off x' ha hx
   obtain ⟨ab,ae⟩:=z9 (E:=E) h ha
   obtain ⟨xb,xe⟩:=z9 (E:=E) h hx
   exact qPq h ho ae xe hw
  ·rename_i a' x' _ ha hx
   obtain ⟨ab,ae⟩:=z9 (E:=E) h ha
   obtain ⟨xb,xe⟩:=z9 (E:=E) h hx
   exact qJv h ho ae xe ab xb hw
  cases hw
 | makeSlice t l c=>exact qRO h ho hw
 | nilCheck x=>exact qDn h ho hw
 | binOp op t x y p=>exact qPu h (b:=fun _=>true) ho hw
 | unOp op t x=>exact qRN h ho hw
 | convert s d x =>
  cases hbi:sO E s d with
  | some el=>exact (by unfold jN at hw; rw [ho] at hw; simp only [hbi] at hw; split at hw <;> cases hw)
  | none=>cases hbo:eU E s d with
   | true=>exact qPp h ho hbi hbo hw
   | false=>exact qLV h ho hbi hbo hw
 | makeInterface t x=>exact qPr h ho hw
 | makeFunc f a b=>exact qDo h ho hw
 | slice t x lo hi mx=>cases hz:((lo.isNone || cN lo) && cN hi && cN mx) with
  | true=>exact (by unfold jN at hw; rw [ho] at hw; simp only [hz,cond_true] at hw; cases hw)
  | false=>exact qJw h ho hz hw
 | fieldAddr t x f=>exact qCf h ho hw
 | field t x f=>exact qJy h ho hw
 | indexAddr t x i=>exact qCe h ho hw
 | index t x i=>exact qJx h ho hw
 | extract x i=>exact qE7 h ho hw
 | call c=>exact qLW h ho hw
 | _=>unfold jN at hw; rw [ho] at hw; cases hw
end
end Go.Am
namespace Go.Am
open Go
section
variable {E:Env} {n0:Lim} {H0:AH} {g0:zF} {S:St} {ρ:List D} {ve:Nat->Value} {lb:Nat->Nat} {g:zF} {fr:Fr} {H H2:AH} {Q:Res1->Prop} {o:Oper} {HS:FuncId->List D->D->Prop}
theorem qDN (h:SR n0 H0 g0 S ρ ve lb g fr H) {all:Array Oper} {yes no:St->Tree} (hw:wp E HS Q (uO all o S yes no) ρ) :
  ∃ S',SR n0 H0 g0 S' ρ ve lb g fr H/\((jB all fr o=some true/\wp E HS Q (yes S') ρ)∨(jB all fr o=some false/\wp E HS Q (no S') ρ)):=by
 unfold uO at hw
 split at hw
 ·rename_i hg
  exact ⟨S,h,.inl ⟨by simp only [jB,hg],hw⟩⟩
 rename_i j want hg
 split at hw
 case h_2=>cases hw
 rename_i d o1 o2 o3 o4 o5 hj
 have y:∀ {v:Value},fr.t.get d=some v->mK all fr j=(match v with | .bool b=>some (some b) | _=>some none):=by
  intro v hv
  simp only [mK,hj,hv]
  cases v <;> rfl
 split at hw
 ·rename_i b hs
  have hv:=(h.slots _ _ hs).2
  have hy:=y hv
  simp only [SV.val] at hy
  rw [cond_eq_ite] at hw
  split at hw
  ·rename_i hb
   exact ⟨S,h,.inl ⟨by simp only [jB,hg,hy,hb],hw⟩⟩
  rename_i hb
  have hb':(b == want)=false:=by simpa using hb
  exact ⟨S,h,.inr ⟨by simp only [jB,hg,hy,hb'],hw⟩⟩
 ·rename_i hs
  have hv:=(h.slots _ _ hs).2
  have hy:=y hv
  simp only [SV.val] at hy
  exact ⟨S,h,.inr ⟨by simp only [jB,hg,hy],hw⟩⟩
 ·rename_i i hs
  obtain ⟨hp,hw⟩:=jP hw
  obtain ⟨t,hd,hw⟩:=sF hw
  have hv:=(h.slots _ _ hs).2
  simp only [SV.val,eW h.toSM hp hd] at hv
  have hy:=y hv
  simp only at hy
  refine ⟨S.known i t,oU h hp hd,?_⟩
  cases t <;> cases want
  ·exact .inl ⟨by simp only [jB,hg,hy]; rfl,hw⟩
  ·exact .inr ⟨by simp only [jB,hg,hy]; rfl,hw⟩
  ·exact .inr ⟨by simp only [jB,hg,hy]; rfl,hw⟩
  exact .inl ⟨by simp only [jB,hg,hy]; rfl,hw⟩
 cases hw
theorem vV.append {n m:Nat}:∀ {l l':List vY},vV E n l->(∀ a∈l,a.H'.next<=m)->n<=m->vV E m l'->vV E n (l++l')
 | [],_,_,_,hn,h'=>h'.mono hn
 | a::l,l',⟨h1,h2,h3⟩,hm,_,h'=>⟨h1,h2,vV.append h3 (fun b hb=>hm b (mC _ hb)) (hm a List.mem_cons_self) h'⟩
theorem rC.nil {all:Array Oper} {draw:Bool} {i:Nat}:rC E all draw [] i fr H fr H :=
 ⟨lR _,[],trivial,fun _ h=>(by cases h),[],fun _ h=>(by cases h),fun _ _=>rfl⟩
theorem rC.skipped {all:Array Oper} {draw:Bool} {os:List Oper} {i:Nat} {fr1 fr':Fr} {H':AH} (hg:jB all fr o=some false) (hp:yD fr o.dst (.tuple #[])=some fr1) (h:rC E all draw os (i+1) fr1 H fr' H') :
  rC E all draw (o::os) i fr H fr' H':=by
 obtain ⟨h1,l,h2,h3,ts,ht,h4⟩:=h
 exact ⟨h1,l,h2,h3,ts,ht.less,fun ih hgr=>by simp only [zX,hg,hp]; exact h4 ih hgr⟩
theorem rC.cons {all:Array Oper} {os:List Oper} {i:Nat} {fr1 fr':Fr} {H1 H':AH} {v:Value} (hg:jB all fr o=some true) (hx:mI E fr o H v H1) (hp:yD fr o.dst v=some fr1) (h:rC E all false os (i+1) fr1 H1 fr' H') :
  rC E all false (o::os) i fr H fr' H':=by
 obtain ⟨h1,l,h2,h3,ts,ht,h4⟩:=h
 obtain ⟨k1,l0,k2,k3,k4⟩:=hx
 refine ⟨lT k1 h1,l0++l,k2.append k3 k1 h2,fun a ha=>?_,ts,ht.less,fun ih hgr=>?_⟩
 ·rcases List.mem_append.1 ha with ha | ha
  ·exact lT (k3 a ha) h1
  exact h3 a ha
 have e1:=k4 ih (fun a ha=>hgr a (List.mem_append_left _ ha))
 have e2:=h4 ih (fun a ha=>hgr a (List.mem_append_right _ ha))
 simp only [zX,hg,cond_false,qKm e1,hp,e2]
theorem rC.consD {all:Array Oper} {os:List Oper} {i:Nat} {fr1 fr':Fr} {H1 H':AH} {v:Value} (hg:jB all fr o=some true) (hx:mI E fr o (vD H []) v H1) (hc:H.next<=H1.low∨jR all.toList i=true) (hp:yD fr o.dst v=some fr1)
  (h:rC E all true os (i+1) fr1 (jF H H1 []) fr' H'):rC E all true (o::os) i fr H fr' H':=by
 obtain ⟨h1,l,h2,h3,ts,ht,h4⟩:=h
 obtain ⟨k1,l0,k2,k3,k4⟩:=hx
 refine ⟨lT k1 h1,l0++l,k2.append k3 k1 h2,fun a ha=>?_,ts,ht.less,fun ih hgr=>?_⟩
 ·rcases List.mem_append.1 ha with ha | ha
  ·exact lT (k3 a ha) h1
  exact h3 a ha
 have e1:=k4 ih (fun a ha=>hgr a (List.mem_append_left _ ha))
 have e2:=h4 ih (fun a ha=>hgr a (List.mem_append_right _ ha))
 have hW:qK all.toList i ts=[]:=ht.hid
 have hcond:(Nat.ble H.next H1.low || (([]:List Nat).isEmpty && (ts.any (fun t=>Nat.beq t.1 i && jV fr o t.2) || jR all.toList i)))=true:=by
  rcases hc with hc | hc
  ·rw [bL hc]; rfl
  rw [hc]; simp
 simp only [zX,hg,cond_true,kM,hW,e1,hcond,List.all_nil,Bool.and_true,hp,e2]
theorem qJ4 {all:List Oper} {i i0 b0:Nat} {ts:List (Nat × Nat)} (h:kJ (xY all) i0 i=true):qK all i ((i0,b0)::ts)=qK all i ts:=by
 rw [qK,h,Bool.or_true,cond_true]
theorem qHZ {ih:Cmd->AH->yX} {all:List Oper} {i i0 b0:Nat} {ts:List (Nat × Nat)} {r:Value × AH} (ht:kJ (xY all) i0 i=true) (h:kM E ih ts all i fr o H=some r):kM E ih ((i0,b0)::ts) all i fr o H=some r:=by
 unfold kM at h ⊢
 simp only [qJ4 ht] at h ⊢
 cases he:vL E ih fr o (vD H (qK all i ts)) with
 | none=>rw [he] at h; cases h
 | some q =>
  obtain ⟨v,Q⟩:=q
  rw [he] at h
  simp only at h ⊢
  obtain ⟨hc,hx⟩:=zM h
  have hc':((Nat.ble H.next Q.low || ((qK all i ts).isEmpty && (((i0,b0)::ts).any (fun t=>Nat.beq t.1 i && jV fr o t.2) || jR all i))) && (qK all i ts).all (fun b=>Nat.blt b H.next || Nat.ble Q.next b))=true:=by
   simp only [List.any_cons,vF,Bool.or_eq_true] at hc ⊢
   exact ⟨hc.1.imp id fun h=>⟨h.1,h.2.imp (fun h=>.inr h) id⟩,hc.2⟩
  rw [hc']
  exact hx
theorem bQ {ih:Cmd->AH->yX} {all:Array Oper} {i0 b0:Nat} {ts:List (Nat × Nat)} {r:Fr × AH}:∀ (os:List Oper) (i:Nat) (fr:Fr) (H:AH),lG all.toList i0 os i=true->zX E ih all true ts os i fr H=some r->zX E ih all true ((i0,b0)::ts) os i fr H=some r
 | [],_,_,_,_,h=>h
 | o::os,i,fr,H,ht,h=>by
  simp only [lG,vF] at ht
  simp only [zX] at h ⊢
  split at h
  ·cases h
  ·split at h
   ·exact bQ os (i+1) _ _ ht.2 h
   cases h
  simp only [cond_true] at h ⊢
  split at h
  ·cases h
  rename_i v H1 hd
  rw [qHZ ht.1 hd]
  simp only
  split at h
  ·cases h
  exact bQ os (i+1) _ _ ht.2 h
def qIl (E:Env) (all:Array Oper) (i0 b0:Nat) (os:List Oper) (i:Nat) (fr:Fr) (H:AH) (fr':Fr) (H':AH):Prop :=
 H.next<=H'.next/\∃ l,vV E H.next l/\(∀ a∈l,a.H'.next<=H'.next)/\∃ ts,qEC all.toList i ts/\∀ ih,qFV l ih->zX E ih all true ((i0,b0)::ts) os i fr H=some (fr',H')
theorem rC.toL {all:Array Oper} {i0 b0:Nat} {os:List Oper} {i:Nat} {fr':Fr} {H':AH} (h:rC E all true os i fr H fr' H') (ht:lG all.toList i0 os i=true):qIl E all i0 b0 os i fr H fr' H':=by
 obtain ⟨h1,l,h2,h3,ts,hts,h4⟩:=h
 exact ⟨h1,l,h2,h3,ts,hts,fun ih hgr=>bQ os i fr H ht (h4 ih hgr)⟩
theorem qIl.mid {all:Array Oper} {i0 b0:Nat} {os:List Oper} {i:Nat} {fr1 fr':Fr} {H':AH} {v:Value} (hg:jB all fr o=some true)
  (hx:∀ ih,vL E ih fr o (vD H (qK all.toList i [(i0,b0)]))=some (v,vD H (qK all.toList i [(i0,b0)]))) (hp:yD fr o.dst v=some fr1)
  (h:qIl E all i0 b0 os (i+1) fr1 (jF H (vD H (qK all.toList i [(i0,b0)])) (qK all.toList i [(i0,b0)])) fr' H'):qIl E all i0 b0 (o::os) i fr H fr' H':=by
 obtain ⟨h1,l,h2,h3,ts,ht,h4⟩:=h
 refine ⟨h1,l,h2,h3,ts,ht.less,fun ih hgr=>?_⟩
 have e2:=h4 ih hgr
 have hW:qK all.toList i ((i0,b0)::ts)=qK all.toList i [(i0,b0)]:=by
  rw [qK,qK,ht.hid]; rfl
 generalize qK all.toList i [(i0,b0)]=W at *
 have hc:(Nat.ble H.next (vD H W).low || (W.isEmpty && (((i0,b0)::ts).any (fun t=>Nat.beq t.1 i && jV fr o t.2) || jR all.toList i)))=true:=by
  have:Nat.ble H.next (vD H W).low=true:=bL (lR _)
  rw [this,Bool.true_or]
 have ha:W.all (fun b=>Nat.blt b H.next || Nat.ble (vD H W).next b)=true:=by
  rw [List.all_eq_true]
  intro b _
  show (Nat.blt b H.next || Nat.ble H.next b)=true
  by_cases hb:b < H.next
  ·have:Nat.blt b H.next=true:=bL hb
   rw [this,Bool.true_or]
  have:Nat.ble H.next b=true:=bL (by omega)
  rw [this,Bool.or_true]
 simp only [zX,hg,cond_true,kM,hW,hx ih,hc,ha,Bool.and_self,hp,e2]
theorem rC.late {all:Array Oper} {os:List Oper} {i b0:Nat} {fr1 fr':Fr} {H1 H':AH} {v:Value} (hg:jB all fr o=some true) (hx:mI E fr o (vD H []) v H1) (hs:jV fr o b0=true) (hpre:∀ k,k < i->kJ (xY all.toList) i k=true) (hp:yD fr o.dst v=some fr1)
  (h:qIl E all i b0 os (i+1) fr1 (jF H H1 []) fr' H'):rC E all true (o::os) i fr H fr' H':=by
 obtain ⟨h1,l,h2,h3,ts,ht,h4⟩:=h
 obtain ⟨k1,l0,k2,k3,k4⟩:=hx
 refine ⟨lT k1 h1,l0++l,k2.append k3 k1 h2,fun a ha=>?_,(i,b0)::ts,fun p hp=>?_,fun ih hgr=>?_⟩
 ·rcases List.mem_append.1 ha with ha | ha
  ·exact lT (k3 a ha) h1
  exact h3 a ha
 ·rcases List.mem_cons.1 hp with rfl | hp
  ·exact ⟨lR _,hpre⟩
  exact ht.less p hp
 have e1:=k4 ih (fun a ha=>hgr a (List.mem_append_left _ ha))
 have e2:=h4 ih (fun a ha=>hgr a (List.mem_append_right _ ha))
 have hW:qK all.toList i ((i,b0)::ts)=[]:=by
  rw [qK,Nat.beq_refl,Bool.true_or,cond_true]; exact ht.hid
 have hcond:(Nat.ble H.next H1.low || (([]:List Nat).isEmpty && (((i,b0)::ts).any (fun t=>Nat.beq t.1 i && jV fr o t.2) || jR all.toList i)))=true:=by
  simp only [List.any_cons,Nat.beq_refl,hs,Bool.true_and,Bool.true_or,List.isEmpty_nil,Bool.or_true]
 simp only [zX,hg,cond_true,kM,hW,e1,hcond,List.all_nil,Bool.and_true,hp,e2]
theorem qBh (h:qDf o.op=true):∃ x:Option Value,∀ H,jD E fr o H=one H x:=by
 cases ho:o.op <;> rw [ho] at h <;> first | (cases h; done) | skip
 ·rename_i x; exact ⟨ev E fr x,fun H=>by simp only [jD,ho]⟩
 ·rename_i x; exact ⟨ev E fr x,fun H=>by simp only [jD,ho]⟩
 ·rename_i c a b
  refine ⟨match ev E fr c with | some (.bool true)=>ev E fr a | some (.bool false)=>ev E fr b | _=>none,fun H=>?_⟩
  simp only [jD,ho]
  generalize ev E fr c=q
  rcases q with _ | v
  ·rfl
  cases v <;> first | rfl | skip
  rename_i b; cases b <;> rfl
 ·rename_i t ps
  refine ⟨match parts? E fr ps.toList with | some ps=>iA E t ps | none=>none,fun H=>?_⟩
  simp only [jD,ho]
  generalize parts? E fr ps.toList=q
  cases q <;> rfl
 ·rename_i x
  refine ⟨match ev E fr x with
   | some (.pointer (some a))=>some (.pointer (some a))
   | some (.iface t v)=>some (.iface t v)
   | some (.func (.func f) a b)=>some (.func (.func f) a b)
   | some (.func (.yield f) a b)=>some (.func (.yield f) a b)
   | _=>none,fun H=>?_⟩
  simp only [jD,ho]
  generalize ev E fr x=q
  rcases q with _ | v
  ·rfl
  cases v <;> first | rfl | skip
  ·rename_i a; cases a <;> rfl
  rename_i f a b; cases f <;> rfl
 ·rename_i op t x y z
  refine ⟨match ev E fr x,ev E fr y with | some a,some b=>nZ E op t x y a b | _,_=>none,fun H=>?_⟩
  simp only [jD,ho]
  generalize ev E fr x=q
  generalize ev E fr y=r
  cases q <;> cases r <;> rfl
 ·rename_i op t x
  refine ⟨match ev E fr x with | some v=>bif zL v then flat? (qW E.prog (Op.unary op v)) else none | none=>none,fun H=>?_⟩
  simp only [jD,ho]
  generalize ev E fr x=q
  rcases q with _ | v
  ·rfl
  simp only
  cases zL v <;> rfl
 ·rename_i s x f
  refine ⟨match ev E fr x with | some v=>fX E s v f | none=>none,fun H=>?_⟩
  simp only [jD,ho]
  generalize ev E fr x=q
  cases q <;> rfl
 ·rename_i t x i
  refine ⟨match ev E fr x,(ev E fr i).bind nat? with | some v,some i=>uH E t v i | _,_=>none,fun H=>?_⟩
  simp only [jD,ho]
  generalize ev E fr x=q
  generalize (ev E fr i).bind nat? = r
  cases q <;> cases r <;> rfl
 rename_i x i
 refine ⟨match ev E fr x with | some (.tuple vs)=>vs.toList[i]? | _=>none,fun H=>?_⟩
 simp only [jD,ho]
 generalize ev E fr x=q
 rcases q with _ | v
 ·rfl
 cases v <;> rfl
theorem qEY {H H':AH} {t:TypeId} {x:Value} {lo hi mx:Option Value} (h:∀ b,H'.blocks.get b=H.blocks.get b):gO E H' t x lo hi mx=gO E H t x lo hi mx:=by
 unfold gO
 simp only [h]
theorem qL4 (h:qJN o=true) (H:AH):∃ x:Option Value,∀ H',(∀ b,H'.blocks.get b=H.blocks.get b)->jD E fr o H'=one H' x:=by
 unfold qJN at h
 rw [Bool.or_eq_true] at h
 rcases h with h | h
 ·obtain ⟨x,hx⟩:=qBh (E:=E) (fr:=fr) h
  exact ⟨x,fun H' _=>hx H'⟩
 split at h
 ·rename_i t x lo hi mx ho
  refine ⟨match ev E fr x,rE E fr lo.toList,rE E fr hi.toList,rE E fr mx.toList with
   | some x,some lo,some hi,some mx=>gO E H t x lo.head? hi.head? mx.head?
   | _,_,_,_=>none,fun H' hg=>?_⟩
  simp only [jD,ho]
  generalize ev E fr x=q1
  generalize rE E fr lo.toList=q2
  generalize rE E fr hi.toList=q3
  generalize rE E fr mx.toList=q4
  cases q1 <;> cases q2 <;> cases q3 <;> cases q4 <;> first | rfl | exact congrArg (one H') (qEY hg)
 cases h
theorem qHW {ih:Cmd->AH->yX} {x:Option Value} {H1:AH} {v:Value} (h:jD E fr o H=one H x) (he:vL E ih fr o H=some (v,H1)):x=some v/\H1=H:=by
 cases x with
 | none=>simp only [vL,h,one,Option.map_none] at he; cases he
 | some u=>simp only [vL,h,one,Option.map_some,oI,Prod.mk.injEq] at he; exact ⟨by rw [he.1],he.2.symm⟩
theorem SM.congr (h : SM n0 S ρ ve lb g H) (hg : ∀ b, H2.blocks.get b = H.blocks.get b) (hn : H2.next = H.next) : SM n0 S ρ ve lb g H2 := by
  have hf : H2.blocks.get = H.blocks.get := funext hg
  exact { len := h.len, wf := fun b k hb => by rw [hg] at hb; rw [hn]; exact h.wf b k hb, mem := by rw [hf]; exact h.mem, base := by rw [hn]; exact h.base, fix := h.fix, vars := by rw [hf]; exact h.vars,
          blks := by rw [hf]; exact h.blks, sepLG := h.sepLG, sepFG := h.sepFG, sepL := h.sepL, sepF := h.sepF, sepX := h.sepX }
theorem SR.congr (h:SR n0 H0 g0 S ρ ve lb g fr H) (hg:∀ b,H2.blocks.get b=H.blocks.get b) (hn:H2.next=H.next) (hl:Nat.min H0.low n0.n<=H2.low):SR n0 H0 g0 S ρ ve lb g fr H2 :=
 { toSM:=h.toSM.congr hg hn,sz:=h.sz,rd:=h.rd,slots:=h.slots,sav:=h.sav,keep:=fun b hb=>by rw [hg]; exact h.keep b hb,gk:=h.gk,low:=hl }
theorem SR.hide (h:SR n0 H0 g0 S ρ ve lb g fr H):SR n0 H0 g0 S ρ ve lb g fr (vD H []) :=
 { h with low:=lT (Nat.min_le_right _ _) h.base.1 }
theorem SR.restore (h0:SR n0 H0 g0 S ρ ve lb g fr H) {S':St} {ρ':List D} {ve':Nat->Value} {lb':Nat->Nat} {g':zF} {fr':Fr} {H1:AH} (h:SR n0 H0 g0 S' ρ' ve' lb' g' fr' H1):SR n0 H0 g0 S' ρ' ve' lb' g' fr' (jF H H1 []) :=
 { h with low:=Nat.le_min.2 ⟨h0.low,h.low⟩ }
theorem qIi {ih:Cmd->AH->yX} {c:Call} {a:Tmp} {y:Operand} {k:Nat} {v:Value} {H1:AH} (h:SR n0 H0 g0 S ρ ve lb g fr H) (ho:o.op=.call c) (hcl:c.callee=.builtin .append) (hargs:c.args.toList=[.tmp a,y]) (hk:S.slots.get a=some (.v k)) (hf:S.freshV k=true)
  (he:vL E ih fr o H=some (v,H1)):H.low<=H1.low∨∃ B,jV fr o B=true/\H1.blocks.get B=none:=by
 have hv:fr.t.get a=some (ve k):=(h.slots _ _ hk).2
 obtain ⟨of,hst⟩:=zV.1 hf
 have hq:gY g H.blocks.get n0 (getD ρ k) (ve k):=(h.vars k _ hst).2
 have hevs:rE E fr [.tmp a,y]=(ev E fr y).map fun x=>[ve k,x]:=by
  have hev:ev E fr (.tmp a)=some (ve k):=hv
  simp only [rE,hev]
  cases ev E fr y <;> rfl
 have haop:∃ x,jD E fr o H=jC E H c.argTypes.toList (ve k) x:=by
  cases hy:ev E fr y with
  | none =>
   have:jD E fr o H=none:=by simp only [jD,ho,oA,hcl,hargs,hevs,hy,Option.map_none]
   simp only [vL,this] at he; cases he
  | some x=>exact ⟨x,by simp only [jD,ho,oA,hcl,hargs,hevs,hy,Option.map_some,wK]⟩
 obtain ⟨x,haop⟩:=haop
 simp only [vL,haop] at he
 have keep:∀ {w:Value},jC E H c.argTypes.toList (ve k) x=some (.val w,H)->H.low<=H1.low:=fun e=>by
  rw [e] at he; simp only [oI,Prod.mk.injEq] at he; rw [← he.2]; exact lR _
 have fresh:∀ {w:Value} {ob:AObj},jC E H c.argTypes.toList (ve k) x=some (.val w,H.new ob)->H.low<=H1.low:=fun e=>by
  rw [e] at he; simp only [oI,Prod.mk.injEq] at he; rw [← he.2]; exact lR _
 generalize hA:jC E H c.argTypes.toList (ve k) x=A at he keep fresh
 have hA2:=hA
 unfold jC at hA
 split at hA
 case h_2=>rw [← hA] at he; cases he
 rename_i t xt rr base len cap hat hve
 split at hA
 case h_2=>rw [← hA] at he; cases he
 split at hA
 case h_2=>rw [← hA] at he; cases he
 rename_i e hte
 split at hA
 case h_2=>rw [← hA] at he; cases he
 rename_i z n new hz hnc
 cases hle:Nat.ble (Nat.mul (Nat.add (Nat.mul 4 (Nat.add len n)) 4000) (Nat.succ e.bytes)) 100000000000 with
 | false=>rw [hle] at hA; rw [← hA] at he; cases he
 | true =>
  rw [hle] at hA
  simp only [cond_true] at hA
  cases hn:Nat.beq n 0 with
  | true=>rw [hn] at hA; simp only [cond_true] at hA; exact .inl (keep hA.symm)
  | false =>
   rw [hn] at hA
   simp only [cond_false] at hA
   rcases hq with (⟨hq,_⟩ | ⟨_,ad,hq⟩) | ⟨B,l,cs,vs,el,rt,sz,es,qo⟩
   ·rw [hq] at hve; cases hve
    exact .inl (fresh hA.symm)
   ·rw [hq] at hve; cases hve
    obtain ⟨b,off,p⟩:=ad
    cases p with
    | some _=>rw [← hA] at he; cases he
    | none =>
     have h1:Nat.ble zG 0=false:=rfl
     have h2:Nat.ble (Nat.add 0 n) 0=false:=by
      cases hb:Nat.ble (Nat.add 0 n) 0 with
      | false=>rfl
      | true =>
       have:=lB hb
       have h0:n=0:=by
        have:0+n<=0:=this
        omega
       rw [h0] at hn; cases hn
     simp only [hq,h1,h2,cond_false,gT,Nat.beq_refl,cond_true] at hA
     exact .inl (fresh hA.symm)
   have hv2:=qo.v
   rw [hv2] at hve; cases hve
   have h1:Nat.ble zG zG=true:=bL (lR _)
   simp only [h1,cond_true] at hA
   split at hA
   case h_2=>rw [← hA] at he; cases he
   rename_i cs2 el2 r2 old hb2 _
   cases hel:(Nat.beq el2 _ && Nat.beq (Nat.mod 0 e.size) 0) with
   | false=>rw [hel] at hA; rw [← hA] at he; cases he
   | true =>
    rw [hel] at hA
    simp only [cond_true] at hA
    rw [← hA] at he
    simp only [oI,Prod.mk.injEq] at he
    right
    refine ⟨B,?_,?_⟩
    ·simp only [jV,ho,qBQ,hcl,hargs,hv,hv2,Nat.beq_refl]
    rw [← he.2]
    show ((H.blocks.put B none).put H.next _).get B=none
    have hlt:=(h.wf B _ hb2).2
    rw [T.get_put,if_neg (by omega),T.get_put,if_pos rfl]
def qKZ (E:Env) (Q:Res1->Prop) (n0:Lim) (H0:AH) (g0:zF) (all:Array Oper) (os:List Oper):Prop:=∀ (draw:Bool) (i:Nat) {S:St} {ρ:List D} {ve:Nat->Value} {lb:Nat->Nat} {g:zF} {fr:Fr} {H:AH} {κ:St->Tree},SR n0 H0 g0 S ρ ve lb g fr H->wp E (Holds E) Q (qAS E all draw os i S κ) ρ ->
  ∃ S' ρ' ve' lb' g' fr' H',SR n0 H0 g0 S' ρ' ve' lb' g' fr' H'/\wp E (Holds E) Q (κ S') ρ'/\rC E all draw os i fr H fr' H'
def qM4 (E:Env) (Q:Res1->Prop) (n0:Lim) (H0:AH) (g0:zF) (all:Array Oper) (os:List Oper):Prop:=∀ (i i0 b0:Nat) {S:St} {ρ:List D} {ve:Nat->Value} {lb:Nat->Nat} {g:zF} {fr:Fr} {H:AH} {κ:St->Tree},SR n0 H0 g0 S ρ ve lb g fr H->H.blocks.get b0=none->dZ all.toList i0 os i=true->wp E (Holds E) Q (qAS E all true os i S κ) ρ ->
  ∃ S' ρ' ve' lb' g' fr' H',SR n0 H0 g0 S' ρ' ve' lb' g' fr' H'/\wp E (Holds E) Q (κ S') ρ'/\qIl E all i0 b0 os i fr H fr' H'
theorem qHt {all:Array Oper} {o:Oper} {os:List Oper} (hA:qKZ E Q n0 H0 g0 all os) (hB:qM4 E Q n0 H0 g0 all os):qKZ E Q n0 H0 g0 all (o::os):=by
 intro draw i S ρ ve lb g fr H κ h hw
 simp only [qAS] at hw
 obtain ⟨S1,h1,hw⟩:=qDN h hw
 rcases hw with ⟨hg,hw⟩ | ⟨hg,hw⟩
 ·cases draw with
  | false =>
   simp only [Bool.false_and,cond_false] at hw
   obtain ⟨y,S2,ρ2,ve2,lb2,g2,H2,h2,hb,hw,hx,_⟩:=aT h1 hw
   simp only at hw
   split at hw
   ·rename_i S3 hp
    obtain ⟨fr3,hp',h3⟩:=fC h2 hb hp
    obtain ⟨S',ρ',ve',lb',g',fr',H',r1,r2,r3⟩:=hA false (i+1) h3 hw
    exact ⟨S',ρ',ve',lb',g',fr',H',r1,r2,.cons hg hx hp' r3⟩
   cases hw
  | true =>
   simp only [Bool.true_and] at hw
   cases hwr:(kA E S1 o && !(jR all.toList i) && !(uF all.toList i o os)) with
   | true=>rw [hwr] at hw; cases hw
   | false =>
    rw [hwr] at hw
    simp only [cond_false] at hw
    obtain ⟨y,S2,ρ2,ve2,lb2,g2,H2,h2,hb,hw,hx,hlow⟩:=aT h1.hide hw
    simp only at hw
    split at hw
    case h_2=>cases hw
    rename_i S3 hp
    obtain ⟨fr3,hp',h3⟩:=fC h2 hb hp
    have std:(H.next<=H2.low∨jR all.toList i=true)->∃ S' ρ' ve' lb' g' fr' H',SR n0 H0 g0 S' ρ' ve' lb' g' fr' H'/\wp E (Holds E) Q (κ S') ρ'/\rC E all true (o::os) i fr H fr' H':=fun hc=>by
     obtain ⟨S',ρ',ve',lb',g',fr',H',r1,r2,r3⟩:=hA true (i+1) (h1.restore h3) hw
     exact ⟨S',ρ',ve',lb',g',fr',H',r1,r2,.consD hg hx hc hp' r3⟩
    have e0:Nat.min (vD H []).low (vD H []).next=H.next:=Nat.min_self _
    cases hwo:kA E S1 o with
    | false =>
     have:=hlow hwo
     rw [e0] at this
     exact std (.inl this)
    | true =>
     cases hfe:jR all.toList i with
     | true=>exact std (.inr hfe)
     | false =>
      have hla:uF all.toList i o os=true:=by
       rw [hwo,hfe] at hwr
       simpa using hwr
      unfold uF at hla
      simp only [vF] at hla
      obtain ⟨⟨q1,q2⟩,q3⟩:=hla
      split at q1
      case h_2=>cases q1
      rename_i c ho
      split at q1
      case h_2=>cases q1
      rename_i a yo hcl hargs
      have hap:∃ k,S1.slots.get a=some (.v k)/\S1.freshV k=true:=by
       have hw1:yZ o=false:=by unfold yZ; rw [ho]
       unfold kA at hwo
       rw [hw1,Bool.false_or,ho] at hwo
       simp only [hcl,hargs] at hwo
       cases hev:l7 S1 [.tmp a,yo] with
       | none=>rw [hev] at hwo; cases hwo
       | some l =>
        rw [hev] at hwo
        simp only at hwo
        unfold l7 at hev
        split at hev
        case h_2=>cases hev
        rename_i x1 l1 hx1 hl1
        cases hev
        unfold qFQ at hwo
        split at hwo
        case h_2=>cases hwo
        rename_i k _ heq
        cases heq
        exact ⟨k,hx1,hwo⟩
      obtain ⟨k,hk,hf⟩:=hap
      obtain ⟨k1,l0,k2,k3,k4⟩:=hx
      have e1:=k4 (qJ3 l0) (fun a ha=>uI k2 a ha)
      rcases qIi h1.hide ho hcl hargs hk hf e1 with hc | ⟨B,hs,hB0⟩
      ·exact std (.inl hc)
      have hpre:∀ k,k < i->kJ (xY all.toList) i k=true:=fun k hk=>List.all_eq_true.1 q2 k (List.mem_range.2 hk)
      obtain ⟨S',ρ',ve',lb',g',fr',H',r1,r2,r3⟩:=hB (i+1) i B (h1.restore h3) (H:=jF H H2 []) hB0 q3 hw
      exact ⟨S',ρ',ve',lb',g',fr',H',r1,r2,.late hg ⟨k1,l0,k2,k3,k4⟩ hs hpre hp' r3⟩
 split at hw
 ·rename_i S3 hp
  obtain ⟨fr3,hp',h3⟩:=fC h1 (y:=.tup []) trivial hp
  obtain ⟨S',ρ',ve',lb',g',fr',H',r1,r2,r3⟩:=hA draw (i+1) h3 hw
  exact ⟨S',ρ',ve',lb',g',fr',H',r1,r2,.skipped hg hp' r3⟩
 cases hw
theorem qHs {all:Array Oper} {o:Oper} {os:List Oper} (hA:qKZ E Q n0 H0 g0 all (o::os)) (hB:qM4 E Q n0 H0 g0 all os):qM4 E Q n0 H0 g0 all (o::os):=by
 intro i i0 b0 S ρ ve lb g fr H κ h hb0 hlt hw
 cases ht:lG all.toList i0 (o::os) i with
 | true =>
  obtain ⟨S',ρ',ve',lb',g',fr',H',r1,r2,r3⟩:=hA true i h hw
  exact ⟨S',ρ',ve',lb',g',fr',H',r1,r2,r3.toL ht⟩
 | false =>
  rw [dZ,ht,Bool.or_false] at hlt
  simp only [vF] at hlt
  obtain ⟨⟨hm,hgn⟩,hlt⟩:=hlt
  have hgn:o.guard=none:=Option.isNone_iff_eq_none.1 hgn
  have hg:jB all fr o=some true:=by simp only [jB,hgn]
  simp only [qAS,uO,hgn] at hw
  cases hwr:(true && kA E S o && !(jR all.toList i) && !(uF all.toList i o os)) with
  | true=>rw [hwr] at hw; cases hw
  | false =>
   rw [hwr] at hw
   simp only [cond_false] at hw
   obtain ⟨y,S2,ρ2,ve2,lb2,g2,H2,h2,hb,hw,hx,hlow⟩:=aT h.hide hw
   simp only at hw
   split at hw
   case h_2=>cases hw
   rename_i S3 hp
   obtain ⟨fr3,hp',h3⟩:=fC h2 hb hp
   obtain ⟨k1,l0,k2,k3,k4⟩:=hx
   have e1:=k4 (qJ3 l0) (fun a ha=>uI k2 a ha)
   obtain ⟨x,hxa⟩:=qL4 (E:=E) (fr:=fr) hm (vD H [])
   obtain ⟨hxv,rfl⟩:=qHW (hxa _ fun _=>rfl) e1
   have hW:∀ b,b∈qK all.toList i [(i0,b0)]->b=b0:=fun b hb=>by
    rw [qK] at hb
    cases hc:(Nat.beq i0 i || kJ (xY all.toList) i0 i) with
    | true=>rw [hc] at hb; cases hb
    | false=>rw [hc] at hb; exact List.mem_singleton.1 hb
   have hget:∀ b,(vD H (qK all.toList i [(i0,b0)])).blocks.get b=(vD H []).blocks.get b:=fun b=>by
    show (pL H.blocks _).get b=H.blocks.get b
    rw [xZ]
    split
    ·rename_i hb; rw [hW b hb,hb0]
    rfl
   have hxx:∀ ih,vL E ih fr o (vD H (qK all.toList i [(i0,b0)]))=some (y.val ve2 lb2,vD H (qK all.toList i [(i0,b0)])):=fun ih=>by
    simp only [vL,hxa _ hget,hxv,one,Option.map_some]
   have hga:∀ b,(jF H (vD H (qK all.toList i [(i0,b0)])) (qK all.toList i [(i0,b0)])).blocks.get b=(vD H []).blocks.get b:=fun b=>by
    show (xV _ _ _).get b=_
    rw [j8]
    split
    ·rfl
    exact hget b
   have h4:=h3.congr (H2:=jF H (vD H (qK all.toList i [(i0,b0)])) (qK all.toList i [(i0,b0)])) hga rfl (Nat.le_min.2 ⟨h.low,lT (Nat.min_le_right _ _) h.base.1⟩)
   obtain ⟨S',ρ',ve',lb',g',fr',H',r1,r2,r3⟩:=hB (i+1) i0 b0 h4 (by rw [hga]; exact hb0) hlt hw
   exact ⟨S',ρ',ve',lb',g',fr',H',r1,r2,.mid hg hxx hp' r3⟩
theorem qJu {all:Array Oper}:∀ (os:List Oper),qKZ E Q n0 H0 g0 all os/\qM4 E Q n0 H0 g0 all os
 | []=>by
  have hA:qKZ E Q n0 H0 g0 all []:=fun draw i S ρ ve lb g fr H κ h hw=>⟨S,ρ,ve,lb,g,fr,H,h,hw,.nil⟩
  exact ⟨hA,fun i i0 b0 S ρ ve lb g fr H κ h _ _ hw=>⟨S,ρ,ve,lb,g,fr,H,h,hw,rC.nil.toL rfl⟩⟩
 | o::os=>by
  obtain ⟨a,b⟩:=qJu os
  have hA:=qHt (o:=o) a b
  exact ⟨hA,qHs hA b⟩
theorem qJt {all:Array Oper} {draw:Bool} (os:List Oper) (i:Nat) {S:St} {ρ:List D} {ve:Nat->Value} {lb:Nat->Nat} {g:zF} {fr:Fr} {H:AH} {κ:St->Tree} (h:SR n0 H0 g0 S ρ ve lb g fr H) (hw:wp E (Holds E) Q (qAS E all draw os i S κ) ρ) :
  ∃ S' ρ' ve' lb' g' fr' H',SR n0 H0 g0 S' ρ' ve' lb' g' fr' H'/\wp E (Holds E) Q (κ S') ρ'/\rC E all draw os i fr H fr' H':=(qJu os).1 draw i h hw
end
end Go.Am
