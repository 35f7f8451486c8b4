/- Runs along a given path: what is claimed of single operations is collected. Conditions: none. -/
import Derived.Test.YtminhjecpnpaeaaGreatDoorAm6
import Derived.ReadAgain
import Derived.ChangeSame
import Derived.ChangeOld
import Derived.ProofKit
set_option linter.unusedVariables false
set_option linter.unusedSimpArgs false
namespace Go.Am
open Go
theorem qOW{E:Env}{ih:Cmd->AH->j9}{fr:Fr}{o:Oper}{H:AH}{r:Value×AH}(h:vL E ih fr o H=some r):wW E ih fr o H=some r:=by
 unfold wW;split
 ·rename_i x;unfold vL at h;rw[x]at h;cases h
 exact h
inductive Claim where
 |val (d:Nat) (v:Value)
 |heap (H:AH)
 |both (d:Nat) (v:Value) (H:AH)
abbrev qY1:=List Claim
abbrev qWw(α:Type):=Option (α×qY1×List Prop)
def qWw.add{α:Type}(p:Prop):qWw α->qWw α
 |some (r,h,P)=>some (r,h,p::P)
 |none=>none
def qWw.app{α:Type}(P:List Prop):qWw α->qWw α
 |some (r,h,Q)=>some (r,h,P++Q)
 |none=>none
end Go.Am
namespace Go.Am
open Go
theorem qA1:∀(x:List Func) (n:Nat) (t:T Func) (k:Nat),k<n->(gS x n t).get k=t.get k
 | [],_,_,_,_=>rfl
 | f::x,n,t,k,h=>by
  simp only[gS];rw[qA1 x (n+1) _ k (by omega)];split
  ·cases (f.name == "runtime.NumGoroutine" || !zP _) with
   |true=>rfl
   |false=>simp only[cond_false];rw[T.get_put,if_neg (by omega)]
  rfl
theorem qHl:∀(x:List Func) (n:Nat) (t:T Func) (k:Nat) (fn:Func) (c:Code),n<=k->x[k-n]? = some fn->fn.body=some c->
  (fn.name == "runtime.NumGoroutine" || !zP c) = false -> (gS x n t).get k = some fn
 | [],n,t,k,fn,c,_,h,_,_=>by simp at h
 | f::x,n,t,k,fn,c,g,h,b,y=>by
  simp only[gS]
  by_cases e:n=k
  ·subst e
   simp only[Nat.sub_self,List.getElem?_cons_zero,oI]at h
   subst h
   rw[qA1 x (n+1) _ n (Nat.lt_succ_self _),b]
   simp only[y,cond_false]
   rw[T.get_put,if_pos rfl]
  refine qHl x (n+1) _ k fn c (by omega) ?_ b y
  have:k-n=(k-(n+1))+1:=by omega
  rw[this]at h
  simpa using h
theorem qKP{P : Program}{f : FuncId}{fn : Func}{c : Code}(h : P.funcs[f]? = some fn)(y : fn.body = some c)(x : (fn.name == "runtime.NumGoroutine" || !zP c) = false):
  (qHD P).funcs.get f=some fn:=
 qHl _ _ _ _ _ _ (Nat.zero_le _) (by simpa using h) y x
section
variable{E:Env}
theorem gP{α:Type}:∀(xs:List α) (t:T α) (n i:Nat),(T.ofList t n xs).get i=if n<=i/\i<n+xs.length then xs[i-n]? else t.get i
 | [],t,n,i=>by simp only[T.ofList,List.length_nil,Nat.add_zero];rw[if_neg (by omega)]
 | x::xs,t,n,i=>by
  simp only[T.ofList];rw[gP xs (t.put n (some x)) (n+1) i,T.get_put];by_cases y:i=n
  ·subst y;rw[if_neg (by omega),if_pos rfl,if_pos (by simp)];simp
  rw[if_neg y];by_cases h:n+1<=i/\i<n+1+xs.length
  ·rw[if_pos h,if_pos (by simp;omega)];have:i-n=(i-(n+1))+1:=by omega
   rw[this];simp
  rw[if_neg h,if_neg (by simp;omega)]
end
end Go.Am
namespace Go.Am
open Go
section
variable{H:Type}{enc:TypeId×Value->H}{P:Program}{W W':World}
theorem Kept.sameAt(k:Kept W W'){p:MemPlace}(x:p.block<W.heap.size):W.sameAt W' p:=by
 cases p with
 |cell b off=>have h:=k.old b x;simp only[World.sameAt,World.cell?,h]
 |map b=>exact k.old b x
theorem Kept.keptBut(k:Kept W W')(h:MemPlace->Prop):W.keptBut W' h:=by refine⟨k.os,k.output,λi x=>?_⟩;rw[k.old i x];grind
theorem Kept.frozen(k:Kept W W'){a:Addr}(h:a.block<W.heap.size):W'.frozen? a=W.frozen? a:=by unfold World.frozen?;rw[k.old _ h]
theorem f6{sp:Nat->Bool}{base:Nat}{held:Bool}:∀{ts:List TypeId} {vs:List Value} {ds:List (DataW H)} {ps:List MemPlace},DataW.TrodAll enc P W base sp held ts vs ds ps->
  (∀p∈ps,W.sameAt W' p)->DataW.TrodAll enc P W' base sp held ts vs ds ps
 | [],[],[],_,h,_=>h
 |_::_,_::_,_::_,_,⟨p,q,⟨n,c⟩,b,e⟩,hs=>
  ⟨p,q,⟨n,DataW.trod_carry n _ _ _ c (λx y=>hs x (by rw[e];exact List.mem_append_left _ y))⟩,f6 b (λx y=>hs x (by rw[e];exact List.mem_append_right _ y)),e⟩
theorem qDA(i:laidOutB P=true)(g:mapsRowed P=true)(y:∀t e,t<P.types.size->P.underlying t=some (.slice e)->0<P.cellsOf e){ts:List TypeId}(x:∀t∈ts,t<P.types.size){vs:List Value}{ds:List (DataW H)}{ps:List MemPlace}(h:DataW.TrodAll enc P W 0 (λ_=>true) true ts vs ds ps)(k:Kept W W'){sp:Nat->Bool}(b:∀p∈ps,sp p.block=true):
  DataW.TrodAll enc P W' 0 sp true ts vs ds ps:=
 DataW.TrodAll.respare (kids_rows i g) y x (f6 h λp c=>k.sameAt (DataW.TrodAll.lt h p c)) b
theorem qFn{f:Func}{s:ChangeSpec}{apart fresh y l:Bool}{args:Array Value}{v:Value}{ds gs:List (DataW H)}{pS o pv:List MemPlace}(u:DataW.Whole enc P f.params.toList s.vars apart W args.toList ds gs pS)(g:∀(b:Nat) (sp:Nat->Bool) (hd:Bool),DataW.TrodAll enc P W' b sp hd f.resultTypes.toList (v.resultList f.resultTypes.size) (s.fn H (ds++gs)).results [])(x:∀sp:Nat->Bool,(∀p∈pS,sp p.block=true)->DataW.TrodAll enc P W' 0 sp true f.params.toList args.toList (s.fn H (ds++gs)).args o)(h:∀sp:Nat->Bool,(∀p∈pS,sp p.block=true)->DataW.TrodVars enc P W' sp s.vars (s.fn H (ds++gs)).vars pv)(c:pS=o++pv)(k:Kept W W')(z:∀(j:Nat) (t:TypeId) (r:Value),f.resultTypes[j]? = some t->(v.resultList f.resultTypes.size)[j]? = some r->Value.okWide P W' .any 0 t r):s.post enc P f apart fresh y l W args v W':=by
 have i:∀p∈pS,(λb=>decide (b<W.heap.size)) p.block=true:=λp e=>by simpa using u.lt p e
 have A:=u.lt;refine⟨ds,gs,pS,[],o,pv,u,g _ _ _,x _ i,h _ i,World.keptBut_mono (λp e=>⟨e,?_⟩) (k.keptBut (·∈ pS)),λ_=>?_⟩
 ·rw[c,List.mem_append]at e;exact Or.inr e
 obtain⟨_,_,_,_,_,B,C⟩:=u;refine⟨z,_,_,([]++o)++pv,⟨[]++o,pv,ChangeShapes.trodAll_append (x _ (λ_ _=>rfl)) (g _ _ _),h _ (λ_ _=>rfl),rfl,?_,?_⟩,?_⟩
 ·intro b off e;have q:MemPlace.cell b off∈pS:=by rw[c];simpa using e
  rw[k.frozen (A _ q)];exact B b off q
 ·intro F;have:=C F;rw[c]at this;simpa using this
 intro p e _;rw[c];simpa using e
end
end Go.Am
namespace Go.Am
open Go
def qVk(E:Env)(fr:Fr)(H:AH)(x:Operand):gC:=one H (ev E fr x)
def qOV(E:Env)(fr:Fr)(H:AH)(x:Operand):gC:=one H (ev E fr x)
def qVi(E:Env)(fr:Fr)(H:AH)(c:Operand)(a:Operand)(b:Operand):gC:=match ev E fr c with
  |some (.bool true)=>one H (ev E fr a)
  |some (.bool false)=>one H (ev E fr b)
  |_=>none
def qRF(E:Env)(fr:Fr)(H:AH)(t:TypeId):gC:=match E.types.get t with
  |some {zero:=some z,..}=>some (.val (.pointer (some ⟨H.next,0,none⟩)),H.new (.cells z t))
  |_=>none
def qYq(E:Env)(fr:Fr)(H:AH)(t:TypeId)(x:Operand):gC:=match ev E fr x with
  |some (.tuple _)=>none
  |some v=>some (.val (.pointer (some ⟨H.next,0,none⟩)),H.new (.cells v.cells.toList t))
  |none=>none
def qRD(E:Env)(fr:Fr)(H:AH)(t:TypeId)(h:Array (Nat×Operand)):gC:=match parts? E fr h.toList with
  |some h=>one H (aN E t h)
  |none=>none
def qFP(E:Env)(fr:Fr)(H:AH)(t:TypeId)(n:Nat)(h:Array (Nat×Operand)):gC:=match parts? E fr h.toList with
  |some h=>wX E H t n h
  |none=>none
def qOU(E:Env)(fr:Fr)(H:AH)(t:TypeId)(m:Operand)(k:Operand)(x:Operand):gC:=match ev E fr m,ev E fr k,ev E fr x with
  |some m,some k,some v=>(pW E H t m k v).map λH'=>(.skip,H')
  |_,_,_=>none
def qVl(E:Env)(fr:Fr)(H:AH)(t:TypeId)(a:Operand):gC:=match ev E fr a with
  |some v=>one H (k9 E H t v)
  |none=>none
def qRu(E:Env)(fr:Fr)(H:AH)(t:TypeId)(a:Operand)(x:Operand):gC:=match ev E fr a,ev E fr x with
  |some _,some (.tuple _)=>none
  |some a,some v=>(kD E H t a v).map λH'=>(.skip,H')
  |_,_=>none
def qRw(_E:Env)(_fr:Fr)(_H:AH)(_g:Nat):gC:=none
def qRt(_E:Env)(_fr:Fr)(_H:AH)(_g:Nat):gC:=none
def qJe(E:Env)(fr:Fr)(H:AH)(x:Operand):gC:=match ev E fr x with
  |some (.pointer (some a))=>some (.val (.pointer (some a)),H)
  |some (.iface t v)=>some (.val (.iface t v),H)
  |some (.func (.func f) a b)=>some (.val (.func (.func f) a b),H)
  |some (.func (.yield f) a b)=>some (.val (.func (.yield f) a b),H)
  |_=>none
def qRE(E:Env)(fr:Fr)(H:AH)(h:BinOp)(t:TypeId)(x:Operand)(y:Operand)(_yt:TypeId):gC:=match ev E fr x,ev E fr y with
  |some a,some b=>one H (oW E h t x y a b)
  |_,_=>none
def qVf(E:Env)(fr:Fr)(H:AH)(h:UnOp)(_t:TypeId)(x:Operand):gC:=match ev E fr x with
  |some v=>bif zF v then one H (flat? (qS E.prog (Op.unary h v)))else none
  |none=>none
def qMd(E:Env)(fr:Fr)(H:AH)(s:TypeId)(d:TypeId)(x:Operand):gC:=match ev E fr x with
  |some (.slice a n c)=>one H (l7 E H s d (.slice a n c) n)
  |some (.pointer (some a))=>qDP E H s d a
  |some (.string b)=>match E.types.get s,E.types.get d with
   |some {desc:=.string,..},some {desc:=.slice e,..}=>mK E H e b
   |_,_=>one H (flat? (qS E.prog (Go.convert s d (.string b))))
  |some v=>bif zF v then one H (flat? (qS E.prog (Go.convert s d v)))else none
  |none=>none
def dE(_E:Env)(_fr:Fr)(_H:AH)(_t:TypeId)(_x:Operand):gC:=none
def qBd(E:Env)(fr:Fr)(H:AH)(t:TypeId)(x:Operand):gC:=match E.types.get t,ev E fr x with
  |some {desc:=.interface _,..},_=>none
  |some _,some v=>one H (some (.iface t v))
  |_,_=>none
def qJg(E:Env)(fr:Fr)(H:AH)(fn:Fn)(first:Array Operand)(cap:Array Operand):gC:=match rO E fr first.toList,rO E fr cap.toList with
  |some f,some c=>one H (if rD fn then some (.func fn ⟨f⟩ ⟨c⟩)else none)
  |_,_=>none
def qMb(E:Env)(fr:Fr)(H:AH)(t:TypeId)(r:Option Operand):gC:=match r with
 |none=>some (.val (.map (some H.next)),H.new (.map [] 0))
 |some x=>match E.types.get t,ev E fr x with
  |some {desc:=.map _ _,..},some (.int _ _)=>some (.val (.map (some H.next)),H.new (.map [] 0))
  |_,_=>none
def qJh(_E:Env)(_fr:Fr)(_H:AH)(_t:TypeId)(_x:Operand):gC:=none
def qHx(E:Env)(fr:Fr)(H:AH)(t:TypeId)(l:Operand)(c:Operand):gC:=match ev E fr l,ev E fr c with
  |some l,some c=>gK E H t l c
  |_,_=>none
def qRv(E:Env)(fr:Fr)(H:AH)(t:TypeId)(x:Operand)(lo:Option Operand)(h:Option Operand)(mx:Option Operand):gC:=
  match ev E fr x,rO E fr lo.toList,rO E fr h.toList,rO E fr mx.toList with
  |some x,some lo,some h,some mx=>one H (oE E H t x lo.head? h.head? mx.head?)
  |_,_,_,_=>none
def qHz(E:Env)(fr:Fr)(H:AH)(s:TypeId)(x:Operand)(f:Nat):gC:=match ev E fr x with
  |some v=>one H (aG E s v f)
  |none=>none
def qRA(E:Env)(fr:Fr)(H:AH)(t:TypeId)(x:Operand)(f:Nat):gC:=match ev E fr x,E.types.get t with
  |some (.agg cs),some {desc:=.struct y,..}=>match y[f]? with
   |some h=>one H (hZ E h.type cs.toList h.offset)
   |none=>none
  |_,_=>none
def qHy(E:Env)(fr:Fr)(H:AH)(t:TypeId)(x:Operand)(i:Operand):gC:=match ev E fr x,(ev E fr i).bind nat? with
  |some v,some i=>one H (qAk E t v i)
  |_,_=>none
def qRz(E:Env)(fr:Fr)(H:AH)(t:TypeId)(x:Operand)(i:Operand):gC:=match ev E fr x,(ev E fr i).bind nat?,E.types.get t with
  |some (.string s),some i,some {desc:=.string,..}=>match s.data.toList[i]? with
   |some b=>one H (some (.int .u8 b.toNat))
   |none=>none
  |some (.agg cs),some i,some {desc:=.array len h,..}=>match E.types.get h with
   |some e=>bif Nat.ble (i+1) len then one H (hZ E h cs.toList (Nat.mul i e.size))else none
   |none=>none
  |_,_,_=>none
def qOT(E:Env)(fr:Fr)(H:AH)(t:TypeId)(x:Operand)(k:Operand)(ok:Bool):gC:=match ev E fr x,ev E fr k with
  |some x,some k=>one H (rB E H t x k ok)
  |_,_=>none
def qHw(E:Env)(fr:Fr)(H:AH)(t:TypeId)(m:Operand)(k:Operand)(x:Operand):gC:=match ev E fr m,ev E fr k,ev E fr x with
  |some m,some k,some v=>(pW E H t m k v).map λH'=>(.skip,H')
  |_,_,_=>none
def qJf(_E:Env)(_fr:Fr)(_H:AH)(_t:TypeId)(_m:Operand)(_k:Operand):gC:=none
def qFO(_E:Env)(_fr:Fr)(_H:AH)(_t:TypeId)(_m:Operand)(_s:Operand)(_x:Operand):gC:=none
def qRx(E:Env)(fr:Fr)(H:AH)(t:TypeId)(x:Operand):gC:=match ev E fr x,E.types.get t with
  |some (.string s),some {desc:=.string,..}=>some (.val (.pointer (some ⟨H.next,0,none⟩)),H.new (.siter s 0))
  |some (.map (some m)),some {desc:=.map _ _,..}=>match H.blocks.get m with
   |some ⟨.map _ h,_,_⟩=>some (.val (.pointer (some ⟨H.next,0,none⟩)),H.new (.miter m h [] h))
   |_=>none
  |_,_=>none
def qVj(E:Env)(fr:Fr)(H:AH)(x:Operand)(h:Bool):gC:=match ev E fr x with
  |some v=>qAU H v h
  |none=>none
def qRB(E:Env)(fr:Fr)(H:AH)(h:Operand):gC:=match ev E fr h with
  |some v=>one H (qFT H v)
  |none=>none
def qFN(E:Env)(fr:Fr)(H:AH)(x:Operand)(_xt:TypeId)(h:TypeId)(ok:Bool):gC:=match ev E fr x,E.types.get h with
  | some v,some y=>match nN E y h v with
   |some (some u)=>one H (some (bif ok then .tuple #[u,.bool true]else u))
   |some none=>bif ok then one H (match y.zero with
    |some z=>(pU y.agg z).map λb=>.tuple #[b,.bool false]
    |none=>none)else none
   |none=>none
  |_,_=>none
def qMc(E:Env)(fr:Fr)(H:AH)(x:Operand)(i:Nat):gC:=match ev E fr x with
  |some (.tuple vs)=>one H vs.toList[i]?
  |_=>none
def qVm(E:Env)(fr:Fr)(H:AH)(c:Call):gC:=yL E fr H c
def qZ3(_E:Env)(_fr:Fr)(_H:AH)(_c:Call):gC:=none
def qRC(_E:Env)(_fr:Fr)(_H:AH)(_c:Call):gC:=none
def qRy(_E:Env)(_fr:Fr)(_H:AH)(_x:Operand):gC:=none
def qVg(_E:Env)(_fr:Fr)(_H:AH)(_c:Operand)(_x:Operand):gC:=none
def qVh(_E:Env)(_fr:Fr)(_H:AH)(_t:TypeId)(_c:Operand)(_ok:Bool):gC:=none
def qOS(_E:Env)(_fr:Fr)(_H:AH)(_cs:Array SelectCase)(_b:Bool):gC:=none
noncomputable def qV8(E:Env)(fr:Fr)(o:Oper)(H:AH):gC:=Op.rec (motive:=λ_=>gC) (qVk E fr H) (qOV E fr H) (qVi E fr H) (qRF E fr H) (qYq E fr H) (qRD E fr H) (qFP E fr H) (qOU E fr H) (qVl E fr H) (qRu E fr H) (qRw E fr H) (qRt E fr H) (qJe E fr H) (qRE E fr H) (qVf E fr H) (qMd E fr H) (dE E fr H) (qBd E fr H) (qJg E fr H) (qMb E fr H) (qJh E fr H) (qHx E fr H) (qRv E fr H) (qHz E fr H) (qRA E fr H) (qHy E fr H) (qRz E fr H) (qOT E fr H) (qHw E fr H) (qJf E fr H) (qFO E fr H) (qRx E fr H) (qVj E fr H) (qRB E fr H) (qFN E fr H) (qMc E fr H) (qVm E fr H) (qZ3 E fr H) (qRC E fr H) (qRy E fr H) (qVg E fr H) (qVh E fr H) (qOS E fr H) o.op
theorem qSe(E:Env)(fr:Fr)(o:Oper)(H:AH):qV8 E fr o H=vT E fr o H:=by unfold vT qV8;cases o.op<;>first|rfl|(rename_i r;cases r<;>rfl)
end Go.Am
namespace Go.Am
open Go
def qWz(ih:Cmd->AH->j9)(rd:Bool)(a:AR)(H:AH):Option (Value×AH):=match a with
 |.val v=>some (v,H)
 |.skip=>some (.tuple #[],H)
 |.rcv=>bif rd then none else some (.nilIface,H)
 |.enter f h=>match ih (.call f h) H with
  |some (.val v,H')=>some (v,H')
  |_=>none
 |.round l h=>match ih (.round l h) H with
  |some (.val v,H')=>some (v,H')
  |_=>none
noncomputable def qOY(E:Env)(ih:Cmd->AH->j9)(fr:Fr)(o:Oper)(H:AH):Option (Value×AH):=
 match qV8 E fr o H with
 |none=>none
 |some (a,H')=>qWz ih fr.rd a H'
theorem qOX{E:Env}{ih:Cmd->AH->j9}{fr:Fr}{o:Oper}{H:AH}:qOY E ih fr o H=wW E ih fr o H:=by
 unfold qOY wW vL;rw[qSe];cases h:vT E fr o H with
 |none=>rfl
 |some r=>obtain⟨a,H'⟩:=r;cases a<;>rfl
noncomputable def qJK(k:Fr->AH->Option (Fr×AH))(fr:Fr)(h:Option Tmp)(v:Value)(H:AH):Option (Fr×AH):=match h with
 |some d=>bif Nat.ble (d+1) fr.sz then k ⟨fr.sz,fr.rd,fr.t.put d (some v)⟩ H else none
 |none=>k fr H
noncomputable def qWy(E:Env)(ih:Cmd->AH->j9)(k:Fr->AH->Option (Fr×AH))(fr:Fr)(o:Oper)(H:AH):Option (Fr×AH):=match qOY E ih fr o H with
 |none=>none
 |some (v,H')=>qJK k fr o.dst v H'
noncomputable def qTI(E:Env)(ih:Cmd->AH->j9)(all:Array Oper)(k:Fr->AH->Option (Fr×AH))(fr:Fr)(o:Oper)(H:AH):Option (Fr×AH):=match vH all fr o with
 |none=>none
 |some false=>qJK k fr o.dst (.tuple #[]) H
 |some true=>qWy E ih k fr o H
noncomputable def qFd(E:Env)(ih:Cmd->AH->j9)(all:Array Oper)(h:List Oper):Fr->AH->Option (Fr×AH):=
 List.rec (motive:=λ_=>Fr->AH->Option (Fr×AH)) (λfr H=>some (fr,H)) (λo _ k fr H=>qTI E ih all k fr o H) h
theorem qGf{k:Fr->AH->Option (Fr×AH)}{fr:Fr}{dst:Option Tmp}{v:Value}{H:AH}:qJK k fr dst v H=(match wR fr dst v with
  |some h=>k h H
  |none=>none):=by
 unfold qJK wR
 cases dst with
 |none=>rfl
 |some d=>
  simp only
  cases Nat.ble (d+1) fr.sz<;>rfl
theorem qB1{E:Env}{ih:Cmd->AH->j9}{all:Array Oper}{ts:List (Nat×Nat)}:∀(h:List Oper) (i:Nat) (fr:Fr) (H:AH),qFd E ih all h fr H=zM E ih all false ts h i fr H
 | [],i,fr,H=>rfl
 | o::h,i,fr,H=>by
  have x:=qB1 (E:=E) (ih:=ih) (all:=all) (ts:=ts) h (i+1);show qTI E ih all (qFd E ih all h) fr o H=_;unfold zM qTI qWy;cases vH all fr o with
  |none=>rfl
  | some b=>
   cases b with
   |false=>simp only[qGf];grind
   |true=>
    simp only[cond_false,qOX];cases wW E ih fr o H with
    |none=>rfl
    |some r=>obtain⟨v,H'⟩:=r;simp only[qGf];grind
end Go.Am
namespace Go.Am
open Go
def qSo(r:Option (Fr×AH))(k:Unit->j9):j9:=match r with
 |some (fr,H)=>some (.ex .normal fr,H)
 |none=>k ()
def qPW(E:Env)(ih:Cmd->AH->j9)(ops:Array Oper)(fr:Fr)(H:AH):j9:=
 match zM E ih ops false [] ops.toList 0 fr H with
 | some (x,_)=>match zM E ih ops true (nT x ops.toList 0) ops.toList 0 fr H with
  |some (h,H')=>some (.ex .normal h,H')
  | none=>match zM E ih ops true (gH x ops.toList 0) ops.toList 0 fr H with
   |some (h,H')=>some (.ex .normal h,H')
   |none=>match zM E ih ops true (bW E ih ops ops.toList 0 fr H) ops.toList 0 fr H with
    |some (h,H')=>some (.ex .normal h,H')
    |none=>none
 |none=>none
noncomputable def qBD(E:Env)(ih:Cmd->AH->j9)(ops:Array Oper)(draw:Bool)(fr:Fr)(H:AH):j9:=
 cond draw (qSo (zM E ih ops true (wV fr ops.toList ops.toList 0) ops.toList 0 fr H) λ_=>qPW E ih ops fr H) (qSo (qFd E ih ops ops.toList fr H) λ_=>none)
def qMO(ih:Cmd->AH->j9)(b:Code)(e:AExit)(fr:Fr)(H:AH):j9:=match e with
 |.normal=>ih (.code b fr) H
 |e=>some (.ex e fr,H)
def qPV(k:AExit->Fr->AH->j9)(r:j9):j9:=match r with
 |some (.ex e fr,H)=>k e fr H
 |r=>r
def qJJ(ih:Cmd->AH->j9)(a b:Code)(fr:Fr)(H:AH):j9:=qPV (qMO ih b) (ih (.code a fr) H)
def qZk(ih:Cmd->AH->j9)(a b:Code)(fr:Fr)(H:AH)(t:Bool):j9:=cond t (ih (.code a fr) H) (ih (.code b fr) H)
def qIe(E:Env)(ih:Cmd->AH->j9)(c:Operand)(a b:Code)(fr:Fr)(H:AH):j9:=match ev E fr c with
 |some (.bool t)=>qZk ih a b fr H t
 |_=>none
def qSq(id:Nat)(e:AExit)(fr:Fr)(H:AH):j9:=match e with
 |.exit h=>bif Nat.beq h id then some (.ex .normal fr,H)else some (.ex (.exit h) fr,H)
 |e=>some (.ex e fr,H)
def qEQ(ih:Cmd->AH->j9)(id:Nat)(b:Code)(fr:Fr)(H:AH):j9:=qPV (qSq id) (ih (.code b fr) H)
def qSn(E:Env)(rs:List ResultVar)(fr:Fr)(H:AH):j9:=match vI E fr H rs with
 |some [v]=>some (.val v,H)
 |some vs=>some (.val (.tuple ⟨vs⟩),H)
 |none=>none
def qSp(E:Env)(fn:Func)(fr:Fr)(H:AH)(e:AExit):j9:=match e with
 |.exit _=>none
 |_=>qSn E fn.results.toList fr H
def qMQ(E:Env)(ih:Cmd->AH->j9)(fn:Func)(c:Code)(h:List Value)(H:AH)(r:j9):j9:=match r with
 |some (.ex e x,H')=>qSp E fn x H' e
 |none=>qAx E ih fn.results.toList c ⟨Nat.max fn.ntmps h.length,false,T.ofList .leaf 0 h⟩ H
 |_=>none
def qWx(E:Env)(ih:Cmd->AH->j9)(fn:Func)(h:List Value)(H:AH)(c:Code):j9:=
 qMQ E ih fn c h H (ih (.code c ⟨Nat.max fn.ntmps h.length,false,T.ofList .leaf 0 h⟩) H)
def qIf(E:Env)(ih:Cmd->AH->j9)(f:FuncId)(h:List Value)(H:AH):j9:=match E.funcs.get f with
 |some fn=>match fn.body with
  |some c=>qWx E ih fn h H c
  |none=>none
 |none=>none
noncomputable def qMP(E:Env)(ih:Cmd->AH->j9)(c:Code)(fr:Fr)(H:AH):j9:=
 Code.rec (motive:=λ_=>j9) (some (.ex .normal fr,H)) (λ_ ops draw=>qBD E ih ops draw fr H) (λa b _ _=>qJJ ih a b fr H) (λc a b _ _=>qIe E ih c a b fr H) (λid b _=>qEQ ih id b fr H) (λb _=>qJJ ih b (.loop b) fr H) (λf h a b _ _=>dQ E ih fr f h.toList a b H) (λid=>some (.ex (.exit id) fr,H)) (λb _=>ih (.code b fr) H) (λ_=>some (.ex .normal fr,H)) (λ_=>none) (some (.ex .ret fr,H)) (λ_=>none) c
noncomputable def qPy(E:Env)(ih:Cmd->AH->j9)(cmd:Cmd)(H:AH):j9:=
 Cmd.rec (motive:=λ_=>j9) (λc fr=>qMP E ih c fr H) (λf h=>qIf E ih f h H) (λl h=>gJ E ih l h H) cmd
noncomputable def qNq(E:Env)(n:Nat):Cmd->AH->j9:=
 Nat.rec (motive:=λ_=>Cmd->AH->j9) (λ_ _=>none) (λ_ ih=>qPy E ih) n
theorem qGe{ih:Cmd->AH->j9}{a b:Code}{fr:Fr}{H:AH}:qJJ ih a b fr H=(match ih (.code a fr) H with
   |some (.ex .normal h,H')=>ih (.code b h) H'
   |r=>r):=by
 unfold qJJ qPV qMO
 cases ih (.code a fr) H with
 |none=>rfl
 |some r=>
  obtain⟨o,H'⟩:=r
  cases o with
  |ex e h=>cases e<;>rfl
  |val v=>rfl
theorem qPx{E:Env}{ih:Cmd->AH->j9}{cmd:Cmd}{H:AH}:qPy E ih cmd H=body E ih cmd H:=by
 cases cmd with
 | code c fr=>
  show qMP E ih c fr H=_;cases c with
  |seq a b=>exact qGe
  |loop b=>exact qGe
  |region id ops draw=>
   show qBD E ih ops draw fr H=_;unfold qBD;cases draw with
   |true=>simp only[cond_true,body];cases zM E ih ops true (wV fr ops.toList ops.toList 0) ops.toList 0 fr H<;>rfl
   |false=>simp only[cond_false,body,qB1 (ts:=[]) ops.toList 0];cases zM E ih ops false [] ops.toList 0 fr H<;>rfl
  |cond c a b=>
   show qIe E ih c a b fr H=_;unfold qIe;simp only[body];cases ev E fr c with
   |none=>rfl
   |some v=>cases v<;>first|rfl|(rename_i t;cases t<;>rfl)
  |block id b=>show qEQ ih id b fr H=_;unfold qEQ qPV qSq;simp only[body];grind
  |_=>rfl
 | call f h=>
  show qIf E ih f h H=_;unfold qIf qWx qMQ qSp qSn;simp only[body];cases E.funcs.get f with
  |none=>rfl
  | some fn=>
   simp only;cases fn.body with
   |none=>rfl
   | some c=>
    simp only;cases ih (.code c ⟨Nat.max fn.ntmps h.length,false,T.ofList .leaf 0 h⟩) H with
    |none=>rfl
    |some r=>
     obtain⟨o,H'⟩:=r;cases o with
     |ex e x=>cases e<;>rfl
     |val v=>rfl
 |round l h=>rfl
theorem qJ0{E:Env}:∀n,qNq E n=qQo E n
 |0=>rfl
 |n+1=>by have ih:=qJ0 (E:=E) n;funext cmd H;show qPy E (qNq E n) cmd H=body E (qQo E n) cmd H;rw[ih,qPx]
end Go.Am
namespace Go.Am
open Go
noncomputable def cY{α:Type}(d:Nat):(Nat->Option α)->T α:=
 Nat.rec (motive:=λ_=>(Nat->Option α)->T α) (λ_=>.leaf) (λ_ ih g=>.node (g 0) (ih λm=>g (Nat.succ (Nat.mul 2 m))) (ih λm=>g (Nat.succ (Nat.succ (Nat.mul 2 m))))) d
theorem pO{α:Type}:∀(d:Nat) (g:Nat->Option α) (n:Nat) (x:α),(cY d g).get n=some x->g n=some x
 |0,g,n,x,h=>by simp[cY,T.get]at h
 |d+1,g,n,x,h=>by
  have e:(cY (d+1) g)=.node (g 0) (cY d λm=>g (Nat.succ (Nat.mul 2 m))) (cY d λm=>g (Nat.succ (Nat.succ (Nat.mul 2 m)))):=rfl;rw[e,T.get_node]at h;split at h
  ·rename_i y;subst y;exact h
  split at h
  ·have h:=pO d _ _ _ h;grind
  have h:=pO d _ _ _ h;grind
theorem qAi{α:Type}:∀(d:Nat) (g:Nat->Option α) (n:Nat),n+1<2^d->(cY d g).get n=g n
 |0,g,n,h=>by simp at h
 | d+1,g,n,h=>by
  have e:(cY (d+1) g)=.node (g 0) (cY d λm=>g (Nat.succ (Nat.mul 2 m))) (cY d λm=>g (Nat.succ (Nat.succ (Nat.mul 2 m)))):=rfl;rw[e,T.get_node];rw[Nat.pow_succ]at h;split
  ·rename_i x;rw[x]
  split
  ·rw[qAi d _ _ (by omega)]
   congr 1;show 2*(n/2)+1=n;omega
  rw[qAi d _ _ (by omega)]
  congr 1;show 2*(n/2-1)+2=n;omega
noncomputable def qOD(P:Program)(n:Nat):Option Func:=match P.funcs.toList[n]? with
 |some f=>match f.body with
  |some _=>some f
  |none=>none
 |none=>none
noncomputable def qIh(P:Program)(n:Nat):Option TI:=match P.types.toList[n]?,P.underlying n with
 |some i,some d=>some (qE6 i d)
 |_,_=>none
noncomputable def qMj(P:Program):Env:={prog:=P,ng:=P.globals.size,funcs:=cY 12 (qOD P),types:=cY 12 (qIh P)}
def lA(P:Program):Bool:=Nat.ble P.types.size 4000&&P.funcs.toList.all λf=>match f.body with
 | some c => !(f.name == "runtime.NumGoroutine") && zP c
 |none=>true
theorem qDR{P:Program}{t:Nat}{x:TI}(h:qIh P t=some x):∃i d,P.types[t]? = some i/\P.underlying t=some d/\x=qE6 i d:=by unfold qIh at h;grind
theorem qEo{P:Program}{f:Nat}{fn:Func}(h:qOD P f=some fn):P.funcs[f]? = some fn/\fn.body.isSome=true:=by unfold qOD at h;grind
theorem qRL{P:Program}(h:cP P=true)(k:lA P=true):EOk (qMj P) where
 types t l p:=by
  obtain⟨i,d,x,g3,rfl⟩:=qDR (pO 12 (qIh P) t l p)
  have e:=(Array.getElem?_eq_some_iff.1 x).1
  have C:P.info? t=some i:=by
   show Tables.info? P.toTables t=some i
   unfold Tables.info?
   rw[if_pos e];exact x
  refine⟨i,C,g3,rfl,rfl,?_,rfl⟩
  intro z b
  simp only[qE6]at b
  split at b
  ·rename_i v hv
   cases y:qBC (qPG d) i.size v with
   |false=>rw[y]at b;cases b
   |true=>
    rw[y]at b
    cases b
    obtain⟨a1,a2,a3,a4,a5⟩:=qBB y
    exact⟨v,hv,a1,rfl,a2,a3,a4,a5⟩
  cases b
 funcs f fn j:=by
  obtain⟨u,g2⟩:=qEo (pO 12 (qOD P) f fn j)
  refine⟨u,g2,?_⟩
  simp only[lA,aE,List.all_eq_true]at k
  grind
 codes f fn c j J:=by
  obtain⟨u,g2⟩:=qEo (pO 12 (qOD P) f fn j)
  simp only[lA,aE,List.all_eq_true]at k
  grind
 mixed:=by
  simp only[cP,aE]at h
  exact h.1
 ng:=rfl
 fields t l F p hd f j:=by
  obtain⟨i,d,x,g3,rfl⟩:=qDR (pO 12 (qIh P) t l p)
  simp only[cP,aE]at h
  simp only[qE6]at hd
  have e:=(Array.getElem?_eq_some_iff.1 x).1
  obtain⟨L,q⟩:=aF _ _ h.2 t F (Nat.zero_le _) (by simpa using e) (by rw[g3,hd]) f j
  rcases eR _ _ _ _ _ q with g|⟨r,d',I,B,G,rfl⟩
  ·simp[T.get]at g
  have o:P.types[f.type]? = some r:=by simpa using B
  have A:=(Array.getElem?_eq_some_iff.1 o).1
  simp only[lA,aE]at k
  have K:=o9 k.1
  refine⟨qE6 r d',?_⟩
  show(cY 12 (qIh P)).get f.type=_
  rw[qAi 12 _ _ (by rw[show(2:Nat)^12=4096 from by decide];omega)]
  unfold qIh
  grind
section
variable{E:Env}{σ σ':zU}{H H':AH}{w w':World}
def qOg(E:Env)(rs:List ResultVar):j9->Bool
 |some (.ex .ret fr,H)=>match vI E fr H rs with
  |some [.bool true]=>true
  |_=>false
 |_=>false
theorem qQ6(he:EOk E){n:Nat}{rs:List ResultVar}{c:Code}{fr:Fr}(h:qOg E rs (qNq E n (.code c fr) H)=true):∃x H2,pT E c fr H .ret x H2/\H.next<=H2.next/\vI E x H2 rs=some [.bool true]:=by
 generalize y:qNq E n (.code c fr) H=r at h;rw[qJ0]at y;unfold qOg at h;split at h
 ·rename_i x H2;split at h
  ·rename_i hr;have b:=qJ2 he n;exact⟨x,H2,b.code _ _ _ _ _ _ y,b.up _ _ _ _ y,hr⟩
  cases h
 cases h
open Classical in
noncomputable def qAY(c:Code)(fr:Fr)(H:AH)(e:AExit)(h:Fr)(H':AH):Cmd->AH->j9:=λcmd X=>if cmd=.code c fr/\X=H then some (.ex e h,H')else none
theorem qOs{c:Code}{fr y:Fr}{e:AExit}(h:pT E c fr H e y H')(p:H.next<=H'.next):IhOK E (qAY c fr H e y H') where
 up cmd X j g x:=by
  unfold qAY at x;split at x
  all_goals grind
 call f b X v g x:=by
  unfold qAY at x;split at x
  all_goals grind
 round l b X v g x:=by
  unfold qAY at x;split at x
  all_goals grind
 code o i X e' k g x:=by
  unfold qAY at x;split at x
  all_goals grind
 codev o i X v g x:=by
  unfold qAY at x;split at x
  ·cases x
  cases x
theorem qIC(he:EOk E){f:FuncId}{fn:Func}{c:Code}(g:E.funcs.get f=some fn)(i:fn.body=some c){x:Fr}{H2:AH}(h:pT E c ⟨Nat.max fn.ntmps 0,false,.leaf⟩ H .ret x H2)(b:H.next<=H2.next)(hr:vI E x H2 fn.results.toList=some [.bool true]):vU E f [] H (.bool true) H2:=by
 have j:body E (qAY c ⟨Nat.max fn.ntmps 0,false,.leaf⟩ H .ret x H2) (.call f []) H=some (.val (.bool true),H2):=by have e:qAY c ⟨Nat.max fn.ntmps 0,false,.leaf⟩ H .ret x H2 (.code c ⟨Nat.max fn.ntmps 0,false,.leaf⟩) H=some (.ex .ret x,H2):=if_pos ⟨rfl,rfl⟩;simp only[body,g,i,List.length_nil,T.ofList,e,hr]
 obtain⟨v,hv,y⟩:=qK9 he (qOs h b) j;cases hv;exact y
theorem qHO{P:Program}(A:E.prog=P)(c:E.laid=[]){f:FuncId}{m:Nat}{H':AH}(t:Nat.ble P.globals.size m=true)(z:vU E f [] (qAZ m) (.bool true) H')(w:World):Calls P f #[] w λe w'=>e=.returned (.bool true)/\KeptD w w':=by
 subst A;have r:E.prog.globals.size<=m:=o9 t;let σ:zU:=λb=>if b<E.prog.globals.size then some ⟨b,0,0,0⟩else none;have G:HR E σ (qAZ m) w:=⟨λb k L y=>by simp[qAZ,T.get]at y,λo l j i q p y=>by simp[qAZ,T.get]at y,λg u=>⟨⟨g,0,0,0⟩,if_pos u,rfl,rfl⟩,λb k y=>by simp[qAZ,T.get]at y⟩;have h:yD σ (qAZ m).next H'.next:=λb F I=>by have:m<=b:=F;grind
 have x:=z σ w [] G .nil h;intro cs;obtain⟨e,w',fr,⟨σ',v',g1,g2,g3⟩,g4,g5,g6⟩:=x cs;refine⟨e,w',fr,⟨?_,g3.size,λB C=>g3.frame B C λb k L y=>by simp[qAZ,T.get]at y,g3.tape,g3.os,g3.output.1,g3.output.2 c⟩,g4,g5,g6⟩;rw[g1,uL g2]
end
end Go.Am
