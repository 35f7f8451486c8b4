/- Runs along a given path: what is claimed of single operations is collected. Conditions: none. -/
import Derived.Test.YtpbmnkajhedaiaaGreatAm6
import Derived.ReadAgain
import Derived.ChangeSame
import Derived.ChangeOld
import Derived.ProofKit
set_option linter.all false
namespace Go.Am
open Go
theorem qPA{E:Env}{x:Cmd->AH->gV}{fr:Fr}{o:Oper}{H:AH}{r:Value×AH}(h:vS E x fr o H=some r):kC E x fr o H=some r:=by
 unfold kC;split
 ·rename_i y;unfold vS at h;rw[y]at h;cases h
 exact h
inductive Claim where
 |val (d:Nat) (v:Value)
 |heap (H:AH)
 |both (d:Nat) (v:Value) (H:AH)
abbrev zBd:=List Claim
abbrev qYh(α:Type):=Option (α×zBd×List Prop)
def qYh.add{α:Type}(p:Prop):qYh α->qYh α
 |some (r,h,P)=>some (r,h,p::P)
 |none=>none
def qYh.app{α:Type}(P:List Prop):qYh α->qYh α
 |some (r,h,Q)=>some (r,h,P++Q)
 |none=>none
theorem qAL:∀(fs:List Func) (n:Nat) (t:T Func) (k:Nat),k<n->(gP fs n t).get k=t.get k
 | [],_,_,_,_=>rfl
 | f::fs,n,t,k,h=>by
  simp only[gP];rw[qAL fs (n+1) _ k (by omega)];split
  ·cases (f.name == "runtime.NumGoroutine" || !vB _) with
   |true=>rfl
   |false=>simp only[cond_false];rw[T.get_put,if_neg (by omega)]
  rfl
theorem qGW:∀(fs:List Func) (n:Nat) (t:T Func) (k:Nat) (fn:Func) (c:Code),n<=k->fs[k-n]? = some fn->fn.body=some c->
  (fn.name == "runtime.NumGoroutine" || !vB c) = false -> (gP fs n t).get k = some fn
 | [],n,t,k,fn,c,_,h,_,_=>by simp at h
 | f::fs,n,t,k,fn,c,hn,h,y,x=>by
  simp only[gP]
  by_cases e:n=k
  ·subst e
   simp only[Nat.sub_self,List.getElem?_cons_zero,oI]at h
   subst h
   rw[qAL fs (n+1) _ n (Nat.lt_succ_self _),y]
   simp only[x,cond_false]
   rw[T.get_put,if_pos rfl]
  refine qGW fs (n+1) _ k fn c (by omega) ?_ y x
  have:k-n=(k-(n+1))+1:=by omega
  rw[this]at h
  simpa using h
theorem yE{P : Program}{f : FuncId}{fn : Func}{c : Code}(h : P.funcs[f]? = some fn)(y : fn.body = some c)(x : (fn.name == "runtime.NumGoroutine" || !vB c) = false):
  (pP P).funcs.get f=some fn:=
 qGW _ _ _ _ _ _ (Nat.zero_le _) (by simpa using h) y x
section
variable{E:Env}
def qQE(E:Env)(w:World)(cs:List Value)(el:TypeId)(L:Loc):Prop:=
 cs.all (λv=>vL v&&qH v)=true/\(∃h x b,w.heap[L.blk]? = some (.cells h x b)/\L.off+L.ext<=h.size/\∀i v,cs[i]? = some v->h[L.off+i]? = some v)/\
 cs.length<=L.ext/\∀y,E.types.get el=some y->L.sz=y.size
theorem qQE.kept{w w':World}{cs:List Value}{el:TypeId}{L:Loc}(h:qQE E w cs el L)(k:Kept w w'):qQE E w' cs el L:=by obtain⟨e,⟨y,x,g,g1,g2,g3⟩,c,b⟩:=h;refine⟨e,⟨y,x,g,?_,g2,g3⟩,c,b⟩;rw[k.old _ (Array.getElem?_eq_some_iff.1 g1).1];exact g1
theorem gM{α:Type}:∀(xs:List α) (t:T α) (n i:Nat),(T.ofList t n xs).get i=if n<=i/\i<n+xs.length then xs[i-n]? else t.get i
 | [],t,n,i=>by simp only[T.ofList,List.length_nil,Nat.add_zero];rw[if_neg (by omega)]
 | x::xs,t,n,i=>by
  simp only[T.ofList];rw[gM xs (t.put n (some x)) (n+1) i,T.get_put];by_cases y:i=n
  ·subst y;rw[if_neg (by omega),if_pos rfl,if_pos (by simp)];simp
  rw[if_neg y];by_cases h:n+1<=i/\i<n+1+xs.length
  ·rw[if_pos h,if_pos (by simp;omega)];have:i-n=(i-(n+1))+1:=by omega
   rw[this];simp
  rw[if_neg h,if_neg (by simp;omega)]
def zA5(x:FuncId)(g:List Value->AH->Option Value)(rest:zBG):zBG:=λf h H=>bif Nat.beq f x then(match g h H with|some v=>some (v,H)|none=>none)else rest f h H
theorem qFH{c:FuncId}{g:List Value->AH->Option Value}{rest:zBG}(i:qVe E rest)(j:∀x H v,g x H=some v->∀(σ:vH) (w:World) (y:List Value),HR E σ H w->VRs σ x y->Calls E.prog c ⟨y⟩ w λe w'=>∃v',e=.returned v'/\VR σ v v'/\KeptD w w'):qVe E (zA5 c g rest):=by
 intro f x H v H' h;simp only[zA5]at h;cases b:Nat.beq f c with
 |true=>
  rw[b]at h;simp only[cond_true]at h;have:=vP b;subst this;split at h
  ·rename_i k hv;cases h;exact⟨vE _,qMe (j x H _ hv)⟩
  cases h
 |false=>rw[b]at h;exact i f x H v H' h
end
section
variable{H:Type}{enc:TypeId×Value->H}{P:Program}{W W':World}
theorem Kept.sameAt(k:Kept W W'){p:MemPlace}(x:p.block<W.heap.size):W.sameAt W' p:=by
 cases p with
 |cell b off=>have h:=k.old b x;simp only[World.sameAt,World.cell?,h]
 |map b=>exact k.old b x
theorem Kept.keptBut(k:Kept W W')(h:MemPlace->Prop):W.keptBut W' h:=by refine⟨k.os,k.output,λi x=>?_⟩;rw[k.old i x];grind
theorem Kept.frozen(k:Kept W W'){a:Addr}(h:a.block<W.heap.size):W'.frozen? a=W.frozen? a:=by unfold World.frozen?;rw[k.old _ h]
theorem fZ{sp:Nat->Bool}{base:Nat}{held:Bool}:∀{ts:List TypeId} {vs:List Value} {ds:List (DataW H)} {ps:List MemPlace},DataW.TrodAll enc P W base sp held ts vs ds ps->
  (∀p∈ps,W.sameAt W' p)->DataW.TrodAll enc P W' base sp held ts vs ds ps
 | [],[],[],_,h,_=>h
 |_::_,_::_,_::_,_,⟨p,q,⟨n,c⟩,b,e⟩,hs=>
  ⟨p,q,⟨n,DataW.trod_carry n _ _ _ c (λx y=>hs x (by rw[e];exact List.mem_append_left _ y))⟩,fZ b (λx y=>hs x (by rw[e];exact List.mem_append_right _ y)),e⟩
theorem qDr(i:laidOutB P=true)(g:mapsRowed P=true)(y:∀t e,t<P.types.size->P.underlying t=some (.slice e)->0<P.cellsOf e){ts:List TypeId}(x:∀t∈ts,t<P.types.size){vs:List Value}{ds:List (DataW H)}{ps:List MemPlace}(h:DataW.TrodAll enc P W 0 (λ_=>true) true ts vs ds ps)(k:Kept W W'){sp:Nat->Bool}(b:∀p∈ps,sp p.block=true):
  DataW.TrodAll enc P W' 0 sp true ts vs ds ps:=
 DataW.TrodAll.respare (kids_rows i g) y x (fZ h λp c=>k.sameAt (DataW.TrodAll.lt h p c)) b
theorem qE7{f:Func}{s:ChangeSpec}{apart fresh y l:Bool}{args:Array Value}{v:Value}{ds gs:List (DataW H)}{pB pa pv:List MemPlace}(q:DataW.Whole enc P f.params.toList s.vars apart W args.toList ds gs pB)(g:∀(b:Nat) (sp:Nat->Bool) (hd:Bool),DataW.TrodAll enc P W' b sp hd f.resultTypes.toList (v.resultList f.resultTypes.size) (s.fn H (ds++gs)).results [])(x:∀sp:Nat->Bool,(∀p∈pB,sp p.block=true)->DataW.TrodAll enc P W' 0 sp true f.params.toList args.toList (s.fn H (ds++gs)).args pa)(h:∀sp:Nat->Bool,(∀p∈pB,sp p.block=true)->DataW.TrodVars enc P W' sp s.vars (s.fn H (ds++gs)).vars pv)(c:pB=pa++pv)(k:Kept W W')(u:∀(j:Nat) (t:TypeId) (r:Value),f.resultTypes[j]? = some t->(v.resultList f.resultTypes.size)[j]? = some r->Value.okWide P W' .any 0 t r):s.post enc P f apart fresh y l W args v W':=by
 have i:∀p∈pB,(λb=>decide (b<W.heap.size)) p.block=true:=λp e=>by simpa using q.lt p e
 have z:=q.lt;refine⟨ds,gs,pB,[],pa,pv,q,g _ _ _,x _ i,h _ i,World.keptBut_mono (λp e=>⟨e,?_⟩) (k.keptBut (·∈ pB)),λ_=>?_⟩
 ·rw[c,List.mem_append]at e;exact Or.inr e
 obtain⟨_,_,_,_,_,A,hn⟩:=q;refine⟨u,_,_,([]++pa)++pv,⟨[]++pa,pv,ChangeShapes.trodAll_append (x _ (λ_ _=>rfl)) (g _ _ _),h _ (λ_ _=>rfl),rfl,?_,?_⟩,?_⟩
 ·intro b off e;have o:MemPlace.cell b off∈pB:=by rw[c];simpa using e
  rw[k.frozen (z _ o)];exact A b off o
 ·intro B;have:=hn B;rw[c]at this;simpa using this
 intro p e _;rw[c];simpa using e
end
def sK(P:Program):Bool:=Nat.ble P.types.size 4000&&P.funcs.toList.all λf=>match f.body with
 | some c => !(f.name == "runtime.NumGoroutine") && vB c
 |none=>true
section
variable{E:Env}{σ σ':vH}{H H':AH}{w w':World}
theorem Step.cut{H1:AH}(hr:HR E σ H w)(y:∀b k,H1.blocks.get b=some k->H.blocks.get b=some k)(o:H1.next=H.next)(p:H1.low=0):Step E σ H w σ H1 w where
 hr:=⟨λb k L h x=>hr.objs b k L (y b k h) x,λi g e c l j h x=>hr.sep i g e c l j (y _ _ h) (y _ _ x),hr.glob,λb k h=>by rw[o];exact hr.wf b k (y b k h)⟩
 next:=by rw[o];exact vE _
 ext _ _:=rfl
 size:=vE _
 low:=by rw[p];exact Nat.zero_le _
 tape:=rfl
 os:=rfl
 output:=⟨rfl,λ_=>vE _⟩
 frame _ _ _:=rfl
 origin b k L h x q:=.inr ⟨b,k,L,y b k h,x,q,rfl,rfl⟩
 old b k h _:=⟨k,y b k h,rfl,rfl⟩
 keep b k _ x:=by rw[p]at x;exact absurd x (Nat.not_lt_zero _)
 born b k h x:=absurd (hr.wf b k (y b k h)).2 (Nat.not_lt.2 x)
theorem pD.cut{c:Code}{y x j:Fr}{e:AExit}{H1 H2:AH}(h:pD E c x H2 e j H')(J:∀b k,H2.blocks.get b=some k->H1.blocks.get b=some k)(A:H2.next=H1.next)(G:H2.low=0)(F:x.sz=y.sz)(hd:x.rd=y.rd)(C:∀t v,x.t.get t=some v->y.t.get t=some v):pD E c y H1 e j H':=by intro p σ w tmps n0 M z B i q b ds k cs I o r;have s1:=Step.cut z J A G;obtain⟨σ',w',g,u,s2,f2,l,L,K⟩:=h p σ w tmps n0 M s1.hr ⟨by rw[F];exact B.1,λt v hv=>B.2 t v (C t v hv)⟩ (by rw[A];exact i) q b ds k cs I (by rw[hd];exact o) (r.step z s1);exact⟨σ',w',g,u,s1.trans s2,f2,by rw[l,hd],L,K⟩
end
end Go.Am
