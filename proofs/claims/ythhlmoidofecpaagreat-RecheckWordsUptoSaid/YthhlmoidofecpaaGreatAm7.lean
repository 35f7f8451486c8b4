/- Runs along a given path: what is claimed of single operations is collected. Conditions: none. -/
import Derived.Test.YthhlmoidofecpaaGreatAm6
import Derived.ReadAgain
import Derived.ChangeSame
import Derived.ChangeOld
import Derived.ProofKit
set_option linter.unusedVariables false
set_option linter.unusedSimpArgs false
namespace Go.Am
open Go
theorem qKm {E:Env} {ih:Cmd->AH->yX} {fr:Fr} {o:Oper} {H:AH} {r:Value × AH} (h:vL E ih fr o H=some r):wI E ih fr o H=some r:=by
 unfold wI
 split
 ·rename_i h1
  unfold vL at h
  rw [h1] at h
  cases h
 exact h
inductive Claim where
 | val (d:Nat) (v:Value)
 | heap (H:AH)
 | both (d:Nat) (v:Value) (H:AH)
abbrev qSA:=List Claim
abbrev qQI (α:Type):=Option (α × qSA × List Prop)
def qQI.add {α:Type} (p:Prop):qQI α->qQI α
 | some (r,tp,P)=>some (r,tp,p::P)
 | none=>none
def qQI.app {α:Type} (P:List Prop):qQI α->qQI α
 | some (r,tp,Q)=>some (r,tp,P++Q)
 | none=>none
end Go.Am
namespace Go.Am
open Go
theorem iY:∀ (fs:List Func) (n:Nat) (t:T Func) (k:Nat),k < n->(yT fs n t).get k=t.get k
 | [],_,_,_,_=>rfl
 | f::fs,n,t,k,h=>by
  simp only [yT]
  rw [iY fs (n+1) _ k (by omega)]
  split
  ·cases (f.name == "runtime.NumGoroutine" || !zO _) with
   | true=>rfl
   | false=>simp only [cond_false]; rw [T.get_put,if_neg (by omega)]
  rfl
theorem qDT:∀ (fs:List Func) (n:Nat) (t:T Func) (k:Nat) (fn:Func) (c:Code),n<=k->fs[k - n]? = some fn->fn.body=some c ->
  (fn.name == "runtime.NumGoroutine" || !zO c) = false -> (yT fs n t).get k = some fn
 | [],n,t,k,fn,c,_,h,_,_=>by simp at h
 | f::fs,n,t,k,fn,c,hn,h,hb,hc=>by
  simp only [yT]
  by_cases e:n=k
  ·subst e
   simp only [Nat.sub_self,List.getElem?_cons_zero,oI] at h
   subst h
   rw [iY fs (n+1) _ n (Nat.lt_succ_self _),hb]
   simp only [hc,cond_false]
   rw [T.get_put,if_pos rfl]
  refine qDT fs (n+1) _ k fn c (by omega) ?_ hb hc
  have:k - n=(k - (n+1))+1:=by omega
  rw [this] at h
  simpa using h
theorem sM {P : Program} {f : FuncId} {fn : Func} {c : Code} (h : P.funcs[f]? = some fn) (hb : fn.body = some c) (hc : (fn.name == "runtime.NumGoroutine" || !zO c) = false) :
  (wJ P).funcs.get f=some fn :=
 qDT _ _ _ _ _ _ (Nat.zero_le _) (by simpa using h) hb hc
section
variable {E:Env}
def qK2 (E:Env) (w:World) (cs:List Value) (el:TypeId) (L:Loc):Prop :=
 cs.all (fun v=>zW v && qN v)=true/\(∃ ccs cel fz,w.heap[L.blk]? = some (.cells ccs cel fz)/\L.off+L.ext<=ccs.size/\∀ i v,cs[i]? = some v->ccs[L.off+i]? = some v) /\
 cs.length<=L.ext/\∀ ti,E.types.get el=some ti->L.sz=ti.size
theorem qK2.kept {w w':World} {cs:List Value} {el:TypeId} {L:Loc} (h:qK2 E w cs el L) (k:Kept w w'):qK2 E w' cs el L:=by
 obtain ⟨h1,⟨ccs,cel,fz,g1,g2,g3⟩,h3,h4⟩:=h
 refine ⟨h1,⟨ccs,cel,fz,?_,g2,g3⟩,h3,h4⟩
 rw [k.old _ (Array.getElem?_eq_some_iff.1 g1).1]; exact g1
theorem yR {α:Type}:∀ (xs:List α) (t:T α) (n i:Nat),(T.ofList t n xs).get i=if n<=i/\i < n+xs.length then xs[i - n]? else t.get i
 | [],t,n,i=>by
  simp only [T.ofList,List.length_nil,Nat.add_zero]
  rw [if_neg (by omega)]
 | x::xs,t,n,i=>by
  simp only [T.ofList]
  rw [yR xs (t.put n (some x)) (n+1) i,T.get_put]
  by_cases h1:i=n
  ·subst h1
   rw [if_neg (by omega),if_pos rfl,if_pos (by simp)]
   simp
  rw [if_neg h1]
  by_cases h2:n+1<=i/\i < n+1+xs.length
  ·rw [if_pos h2,if_pos (by simp; omega)]
   have:i - n=(i - (n+1))+1:=by omega
   rw [this]; simp
  rw [if_neg h2,if_neg (by simp; omega)]
def qSo (f0:FuncId) (g:List Value->AH->Option Value) (rest:qSR):qSR:=fun f args H=>bif Nat.beq f f0 then (match g args H with | some v=>some (v,H) | none=>none) else rest f args H
theorem qCG {f0:FuncId} {g:List Value->AH->Option Value} {rest:qSR} (hr:qOI E rest)
  (hg:∀ args H v,g args H=some v->∀ (σ:zY) (w:World) (args':List Value),HR E σ H w->VRs σ args args'->Calls E.prog f0 ⟨args'⟩ w fun e w'=>∃ v',e=.returned v'/\VR σ v v'/\Kept w w') :
  qOI E (qSo f0 g rest):=by
 intro f args H v H' h
 simp only [qSo] at h
 cases hb:Nat.beq f f0 with
 | true =>
  rw [hb] at h
  simp only [cond_true] at h
  have:=vU hb
  subst this
  split at h
  ·rename_i v1 hv
   cases h
   exact ⟨lR _,qH6 (hg args H _ hv)⟩
  cases h
 | false =>
  rw [hb] at h
  exact hr f args H v H' h
end
end Go.Am
namespace Go.Am
open Go
section
variable {H:Type} {enc:TypeId × Value->H} {P:Program} {W W':World}
theorem Kept.sameAt (k:Kept W W') {p:MemPlace} (hp:p.block < W.heap.size):W.sameAt W' p:=by
 cases p with
 | cell b off =>
  have h:=k.old b hp
  simp only [World.sameAt,World.cell?,h]
 | map b=>exact k.old b hp
theorem Kept.keptBut (k:Kept W W') (may:MemPlace->Prop):W.keptBut W' may:=by
 refine ⟨k.os,k.output.1,fun i hi=>?_⟩
 rw [k.old i hi]
 obtain ⟨o,ho⟩:∃ o,W.heap[i]? = some o:=⟨W.heap[i],Array.getElem?_eq_getElem hi⟩
 rw [ho]
 cases o with
 | cells c t fr=>exact ⟨rfl,rfl,rfl,fun _ _=>rfl⟩
 | map es cl=>exact .inr ⟨rfl,rfl⟩
 | _=>rfl
theorem Kept.frozen (k:Kept W W') {a:Addr} (ha:a.block < W.heap.size):W'.frozen? a=W.frozen? a:=by
 unfold World.frozen?
 rw [k.old _ ha]
theorem bC {sp:Nat->Bool} {base:Nat} {held:Bool}:∀ {ts:List TypeId} {vs:List Value} {ds:List (DataW H)} {ps:List MemPlace},DataW.TrodAll enc P W base sp held ts vs ds ps ->
  (∀ p∈ps,W.sameAt W' p)->DataW.TrodAll enc P W' base sp held ts vs ds ps
 | [],[],[],_,h,_=>h
 | _::_,_::_,_::_,_,⟨p,q,⟨n,h1⟩,h2,e⟩,hs =>
  ⟨p,q,⟨n,DataW.trod_carry n _ _ _ h1 (fun x hx=>hs x (by rw [e]; exact List.mem_append_left _ hx))⟩,bC h2 (fun x hx=>hs x (by rw [e]; exact List.mem_append_right _ hx)),e⟩
theorem qAN (hl:laidOutB P=true) (hm:mapsRowed P=true) (hz:∀ t e,t < P.types.size->P.underlying t=some (.slice e)->0 < P.cellsOf e) {ts:List TypeId} (hts:∀ t∈ts,t < P.types.size)
  {vs:List Value} {ds:List (DataW H)} {ps:List MemPlace} (h:DataW.TrodAll enc P W 0 (fun _=>true) true ts vs ds ps) (k:Kept W W') {sp:Nat->Bool} (hs:∀ p∈ps,sp p.block=true) :
  DataW.TrodAll enc P W' 0 sp true ts vs ds ps :=
 DataW.TrodAll.respare (kids_rows hl hm) hz hts (bC h fun p hp=>k.sameAt (DataW.TrodAll.lt h p hp)) hs
theorem qB9 {f:Func} {s:ChangeSpec} {apart fresh handsOn again:Bool} {args:Array Value} {v:Value} {ds gs:List (DataW H)} {kU pa pv:List MemPlace}
  (hW:DataW.Whole enc P f.params.toList s.vars apart W args.toList ds gs kU)
  (hres:∀ (b:Nat) (sp:Nat->Bool) (hd:Bool),DataW.TrodAll enc P W' b sp hd f.resultTypes.toList (v.resultList f.resultTypes.size) (s.fn H (ds++gs)).results [])
  (hargs:∀ sp:Nat->Bool,(∀ p∈kU,sp p.block=true)->DataW.TrodAll enc P W' 0 sp true f.params.toList args.toList (s.fn H (ds++gs)).args pa)
  (hvars:∀ sp:Nat->Bool,(∀ p∈kU,sp p.block=true)->DataW.TrodVars enc P W' sp s.vars (s.fn H (ds++gs)).vars pv)
  (hps:kU=pa++pv) (k:Kept W W')
  (hok:∀ (j:Nat) (t:TypeId) (r:Value),f.resultTypes[j]? = some t->(v.resultList f.resultTypes.size)[j]? = some r->Value.okWide P W' .any 0 t r) :
  s.post enc P f apart fresh handsOn again W args v W':=by
 have hold:∀ p∈kU,(fun b=>decide (b < W.heap.size)) p.block=true:=fun p hp=>by simpa using hW.lt p hp
 have hlt:=hW.lt
 refine ⟨ds,gs,kU,[],pa,pv,hW,hres _ _ _,hargs _ hold,hvars _ hold,World.keptBut_mono (fun p hp=>⟨hp,?_⟩) (k.keptBut (· ∈ kU)),fun _=>?_⟩
 ·rw [hps,List.mem_append] at hp
  exact Or.inr hp
 obtain ⟨_,_,_,_,_,hz,hn⟩:=hW
 refine ⟨hok,_,_,([]++pa)++pv,⟨[]++pa,pv,ChangeShapes.trodAll_append (hargs _ (fun _ _=>rfl)) (hres _ _ _),hvars _ (fun _ _=>rfl),rfl,?_,?_⟩,?_⟩
 ·intro b off hp
  have hp':MemPlace.cell b off∈kU:=by rw [hps]; simpa using hp
  rw [k.frozen (hlt _ hp')]
  exact hz b off hp'
 ·intro ha
  have:=hn ha
  rw [hps] at this
  simpa using this
 intro p hp _
 rw [hps]
 simpa using hp
end
end Go.Am
namespace Go.Am
open Go
end Go.Am
namespace Go.Am
open Go
end Go.Am
namespace Go.Am
open Go
end Go.Am
namespace Go.Am
open Go
def dN (P:Program):Bool:=Nat.ble P.types.size 4000 && P.funcs.toList.all fun f=>match f.body with
 | some c => !(f.name == "runtime.NumGoroutine") && zO c
 | none=>true
section
variable {E:Env} {σ σ':zY} {H H':AH} {w w':World}
theorem Step.cut {H1:AH} (hr:HR E σ H w) (hb:∀ b k,H1.blocks.get b=some k->H.blocks.get b=some k) (hn:H1.next=H.next) (hl:H1.low=0):Step E σ H w σ H1 w where
 hr:=⟨fun b k L h1 h2=>hr.objs b k L (hb b k h1) h2,fun b₁ b₂ k₁ k₂ L₁ L₂ h1 h2=>hr.sep b₁ b₂ k₁ k₂ L₁ L₂ (hb _ _ h1) (hb _ _ h2),hr.glob,fun b k h1=>by rw [hn]; exact hr.wf b k (hb b k h1)⟩
 next:=by rw [hn]; exact lR _
 ext _ _:=rfl
 size:=lR _
 low:=by rw [hl]; exact Nat.zero_le _
 tape:=rfl
 os:=rfl
 output:=⟨rfl,lR _⟩
 frame _ _ _:=rfl
 origin b k L h1 h2 h3:=.inr ⟨b,k,L,hb b k h1,h2,h3,rfl,rfl⟩
 old b k h1 _:=⟨k,hb b k h1,rfl,rfl⟩
 keep b k _ h2:=by rw [hl] at h2; exact absurd h2 (Nat.not_lt_zero _)
 born b k h1 h2:=absurd (hr.wf b k (hb b k h1)).2 (Nat.not_lt.2 h2)
theorem kX.cut {c:Code} {fr1 fr2 fr':Fr} {e:AExit} {H1 H2:AH} (h:kX E c fr2 H2 e fr' H') (hb:∀ b k,H2.blocks.get b=some k->H1.blocks.get b=some k) (hn:H2.next=H1.next) (hl:H2.low=0)
  (hs:fr2.sz=fr1.sz) (hd:fr2.rd=fr1.rd) (ht:∀ t v,fr2.t.get t=some v->fr1.t.get t=some v):kX E c fr1 H1 e fr' H':=by
 intro hr0 σ w tmps n0 B0 hr hf hfree hn0 b ds k cs hk hro hds
 have s1:=Step.cut hr hb hn hl
 obtain ⟨σ',w',tmps',ds',s2,f2,rd2,d2,e2⟩:=h hr0 σ w tmps n0 B0 s1.hr ⟨by rw [hs]; exact hf.1,fun t v hv=>hf.2 t v (ht t v hv)⟩ (by rw [hn]; exact hfree) hn0 b ds k cs hk (by rw [hd]; exact hro) (hds.step hr s1)
 exact ⟨σ',w',tmps',ds',s1.trans s2,f2,by rw [rd2,hd],d2,e2⟩
end
end Go.Am
