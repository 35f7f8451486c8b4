/- Runs along a given path: what is claimed of single operations is collected. Conditions: none. -/
import Derived.Test.YtocbbgmhkhallaaGreatDoorAm6
import Derived.ReadAgain
import Derived.ChangeSame
import Derived.ChangeOld
import Derived.ProofKit
set_option linter.unusedVariables false
set_option linter.unusedSimpArgs false
namespace Go.Am
open Go
abbrev dz:=@List.mem_append_left
abbrev ee:=@List.mem_append_right
variable{E:Env}{H:AH}{fr:Fr}{ih:Cmd->AH->xM}
theorem qPJ{o:Oper}{r:LQ×AH}(h:jA E ih fr o H=some r):yM E ih fr o H=some r:=by
 unfold yM;split
 ·rename_i x;unfold jA at h;rw[x]at h;cases h
 exact h
inductive Claim where
 |val (d:Nat) (v:LQ)
 |heap (H:AH)
 |both (d:Nat) (v:LQ) (H:AH)
abbrev zBY:=List Claim
abbrev qYL(α:Type):=Option (α×zBY×List Prop)
def qYL.add{α:Type}(p:Prop):qYL α->qYL α
 |some (r,h,P)=>some (r,h,p::P)
 |none=>none
def qYL.app{α:Type}(P:List Prop):qYL α->qYL α
 |some (r,h,Q)=>some (r,h,P++Q)
 |none=>none
theorem qBb:∀(fs:List Func) (n:Nat) (t:T Func) (k:Nat),k<n->(oC fs n t).get k=t.get k
 | [],_,_,_,_=>rfl
 | f::fs,n,t,k,h=>by
  simp only[oC];rw[qBb fs (n+1) _ k (by omega)];split
  ·cases (f.name == "runtime.NumGoroutine" || !vJ _) with
   |true=>rfl
   |false=>simp only[bc];rw[T.ch,bf (by omega)]
  rfl
theorem qHz:∀(fs:List Func) (n:Nat) (t:T Func) (k:Nat) (fn:Func) (c:Code),n<=k->fs[k-n]? = some fn->fn.body=some c->
  (fn.name == "runtime.NumGoroutine" || !vJ c) = false -> (oC fs n t).get k = some fn
 | [],n,t,k,fn,c,_,h,_,_=>by simp at h
 | f::fs,n,t,k,fn,c,b,h,y,x=>by
  simp only[oC]
  by_cases e:n=k
  ·subst e
   simp only[Nat.sub_self,dq,oI]at h
   subst h
   rw[qBb fs (n+1) _ n (bw _),y]
   simp only[x,bc]
   rw[T.ch,bo rfl]
  refine qHz fs (n+1) _ k fn c (by omega) ?_ y x
  have:k-n=(k-(n+1))+1:=by omega
  rw[this]at h
  simpa using h
variable{P:LK}{c:Code}{f:LO}{fn:Func}
theorem dC(h : P.funcs[f]? = some fn)(y : fn.body = some c)(x : (fn.name == "runtime.NumGoroutine" || !vJ c) = false):
  (iW P).funcs.get f=some fn:=
 qHz _ _ _ _ _ _ (cq _) (by simpa using h) y x
section
variable{E:Env}
def qQB(E:Env)(w:LP)(cs:LA)(el:LN)(L:Loc):Prop:=
 cs.all (λv=>v8 v&&qU v)=true/\(∃h x b,w.heap[L.hS]? = some (.cells h x b)/\L.off+L.ext<=h.size/\∀i v,cs[i]? = some v->h[L.off+i]? = some v)/\
 cs.length<=L.ext/\∀y,E.types.get el=some y->L.sz=y.size
theorem qQB.kept{w w':LP}{cs:LA}{el:LN}{L:Loc}(h:qQB E w cs el L)(k:Kept w w'):qQB E w' cs el L:=by obtain⟨g,⟨y,x,l,b,j,i⟩,h3,e⟩:=h;refine⟨g,⟨y,x,l,?_,j,i⟩,h3,e⟩;rw[k.kp _ (cu.1 b).1];exact b
def aR(P:LK)(m:Nat)(h:List (Option Loc)):vO:=λb=>if b<P.globals.size then some ⟨b,0,0,0⟩else if m<=b then(h[b-m]?).getD none else none
theorem gY{α:Type}:∀(xs:List α) (t:T α) (n i:Nat),(T.ofList t n xs).get i=if n<=i/\i<n+xs.length then xs[i-n]? else t.get i
 | [],t,n,i=>by simp only[T.ofList,dg,fx];rw[bf (by omega)]
 | x::xs,t,n,i=>by
  simp only[T.ofList];rw[gY xs (t.put n (some x)) (n+1) i,T.ch];by_cases y:i=n
  ·subst y;rw[bf (by omega),bo rfl,bo (by simp)];simp
  rw[bf y];by_cases h:n+1<=i/\i<n+1+xs.length
  ·rw[bo h,bo (by simp;omega)];have:i-n=(i-(n+1))+1:=by omega
   rw[this];simp
  rw[bf h,bf (by simp;omega)]
def zBO(x:LO)(g:LA->AH->LG)(rest:zCj):zCj:=λf h H=>bif Nat.beq f x then(match g h H with|some v=>some (v,H)|none=>none)else rest f h H
theorem qGq{i:LO}{g:LA->AH->LG}{rest:zCj}(j:qVs E rest)(k:∀x H v,g x H=some v->∀(σ:vO) (w:LP) (y:LA),HR E σ H w->VRs σ x y->Calls E.prog i ⟨y⟩ w λe w'=>∃v',e=.returned v'/\VR σ v v'/\KeptD w w'):qVs E (zBO i g rest):=by
 intro f x H v H' h;simp only[zBO]at h;cases b:Nat.beq f i with
 |true=>
  rw[b]at h;simp only[ai]at h;have:=vW b;subst this;split at h
  ·rename_i l hv;cases h;exact⟨vP _,qMK (k x H _ hv)⟩
  cases h
 |false=>rw[b]at h;exact j f x H v H' h
end
section
variable{H:Type}{enc:LN×LQ->H}{P:LK}{W W':LP}
theorem Kept.sameAt(k:Kept W W'){p:MemPlace}(x:p.block<W.heap.size):W.sameAt W' p:=by
 cases p with
 |cell b off=>have h:=k.kp b x;simp only[World.sameAt,World.cell?,h]
 |map b=>exact k.kp b x
theorem Kept.keptBut(k:Kept W W')(h:MemPlace->Prop):W.keptBut W' h:=by refine⟨k.os,k.output,λi x=>?_⟩;rw[k.kp i x];grind
theorem Kept.frozen(k:Kept W W'){a:Addr}(h:a.block<W.heap.size):W'.frozen? a=W.frozen? a:=by unfold World.frozen?;rw[k.kp _ h]
theorem iR{sp:Nat->Bool}{base:Nat}{held:Bool}:∀{ts:List LN} {vs:LA} {ds:List (DataW H)} {ps:List MemPlace},DataW.TrodAll enc P W base sp held ts vs ds ps->
  (∀p∈ps,W.sameAt W' p)->DataW.TrodAll enc P W' base sp held ts vs ds ps
 | [],[],[],_,h,_=>h
 |_::_,_::_,_::_,_,⟨p,q,⟨n,g⟩,b,e⟩,hs=>
  ⟨p,q,⟨n,DataW.trod_carry n _ _ _ g (λx y=>hs x (by rw[e];exact dz _ y))⟩,iR b (λx y=>hs x (by rw[e];exact ee _ y)),e⟩
theorem qDO(j:laidOutB P=true)(i:mapsRowed P=true)(y:∀t e,t<P.types.size->P.underlying t=some (.slice e)->0<P.cellsOf e){ts:List LN}(x:∀t∈ts,t<P.types.size){vs:LA}{ds:List (DataW H)}{ps:List MemPlace}(h:DataW.TrodAll enc P W 0 (λ_=>true) true ts vs ds ps)(k:Kept W W'){sp:Nat->Bool}(b:∀p∈ps,sp p.block=true):
  DataW.TrodAll enc P W' 0 sp true ts vs ds ps:=
 DataW.TrodAll.respare (kids_rows j i) y x (iR h λp g=>k.sameAt (DataW.TrodAll.lt h p g)) b
theorem qFG{f:Func}{s:ChangeSpec}{apart fresh y o:Bool}{args:LD}{v:LQ}{ds gs:List (DataW H)}{rC q pv:List MemPlace}(z:DataW.Whole enc P f.params.toList s.vars apart W args.toList ds gs rC)(i:∀(b:Nat) (sp:Nat->Bool) (hd:Bool),DataW.TrodAll enc P W' b sp hd f.resultTypes.toList (v.resultList f.resultTypes.size) (s.fn H (ds++gs)).results [])(x:∀sp:Nat->Bool,(∀p∈rC,sp p.block=true)->DataW.TrodAll enc P W' 0 sp true f.params.toList args.toList (s.fn H (ds++gs)).args q)(h:∀sp:Nat->Bool,(∀p∈rC,sp p.block=true)->DataW.TrodVars enc P W' sp s.vars (s.fn H (ds++gs)).vars pv)(e:rC=q++pv)(k:Kept W W')(A:∀(j:Nat) (t:LN) (r:LQ),f.resultTypes[j]? = some t->(v.resultList f.resultTypes.size)[j]? = some r->Value.okWide P W' .any 0 t r):s.post enc P f apart fresh y o W args v W':=by
 have l:∀p∈rC,(λb=>decide (b<W.heap.size)) p.block=true:=λp g=>by simpa using z.lt p g
 have B:=z.lt;refine⟨ds,gs,rC,[],q,pv,z,i _ _ _,x _ l,h _ l,World.keptBut_mono (λp g=>⟨g,?_⟩) (k.keptBut (·∈ rC)),λ_=>?_⟩
 ·rw[e,bh]at g;exact Or.inr g
 obtain⟨_,_,_,_,_,C,F⟩:=z;refine⟨A,_,_,([]++q)++pv,⟨[]++q,pv,ChangeShapes.trodAll_append (x _ (λ_ _=>rfl)) (i _ _ _),h _ (λ_ _=>rfl),rfl,?_,?_⟩,?_⟩
 ·intro b off g;have u:MemPlace.cell b off∈rC:=by rw[e];simpa using g
  rw[k.frozen (B _ u)];exact C b off u
 ·intro G;have:=F G;rw[e]at this;simpa using this
 intro p g _;rw[e];simpa using g
end
def qXx(E:Env)(fr:Fr)(H:AH)(x:LM):gP:=one H (ev E fr x)
def qPI(E:Env)(fr:Fr)(H:AH)(x:LM):gP:=one H (ev E fr x)
def qXv(E:Env)(fr:Fr)(H:AH)(c:LM)(a:LM)(b:LM):gP:=match ev E fr c with
  |some (.bool true)=>one H (ev E fr a)
  |some (.bool false)=>one H (ev E fr b)
  |_=>none
def qSu(E:Env)(fr:Fr)(H:AH)(t:LN):gP:=match E.types.get t with
  |some {zero:=some z,..}=>some (.val (.pointer (some ⟨H.next,0,none⟩)),H.new (.cells z t))
  |_=>none
def zBt(E:Env)(fr:Fr)(H:AH)(t:LN)(x:LM):gP:=match ev E fr x with
  |some (.tuple _)=>none
  |some v=>some (.val (.pointer (some ⟨H.next,0,none⟩)),H.new (.cells v.cells.toList t))
  |none=>none
def qSs(E:Env)(fr:Fr)(H:AH)(t:LN)(h:Array (Nat×LM)):gP:=match parts? E fr h.toList with
  |some h=>one H (sJ E t h)
  |none=>none
def qF9(E:Env)(fr:Fr)(H:AH)(t:LN)(n:Nat)(h:Array (Nat×LM)):gP:=match parts? E fr h.toList with
  |some h=>yN E H t n h
  |none=>none
def qPH(E:Env)(fr:Fr)(H:AH)(t:LN)(m:LM)(k:LM)(x:LM):gP:=match ev E fr m,ev E fr k,ev E fr x with
  |some m,some k,some v=>(rE E H t m k v).map λH'=>(.skip,H')
  |_,_,_=>none
def qXy(E:Env)(fr:Fr)(H:AH)(t:LN)(a:LM):gP:=match ev E fr a with
  |some v=>one H (gM E H t v)
  |none=>none
def qSj(E:Env)(fr:Fr)(H:AH)(t:LN)(a:LM)(x:LM):gP:=match ev E fr a,ev E fr x with
  |some _,some (.tuple _)=>none
  |some a,some v=>(kN E H t a v).map λH'=>(.skip,H')
  |_,_=>none
def qSl(_E:Env)(_fr:Fr)(_H:AH)(_g:Nat):gP:=none
def qSi(_E:Env)(_fr:Fr)(_H:AH)(_g:Nat):gP:=none
def qJv(E:Env)(fr:Fr)(H:AH)(x:LM):gP:=match ev E fr x with
  |some (.pointer (some a))=>some (.val (.pointer (some a)),H)
  |some (.iface t v)=>some (.val (.iface t v),H)
  |some (.func (.func f) a b)=>some (.val (.func (.func f) a b),H)
  |some (.func (.yield f) a b)=>some (.val (.func (.yield f) a b),H)
  |_=>none
def qSt(E:Env)(fr:Fr)(H:AH)(h:BinOp)(t:LN)(x:LM)(y:LM)(_yt:LN):gP:=match ev E fr x,ev E fr y with
  |some a,some b=>one H (pA E h t x y a b)
  |_,_=>none
def qXs(E:Env)(fr:Fr)(H:AH)(h:UnOp)(_t:LN)(x:LM):gP:=match ev E fr x with
  |some v=>bif zP v then one H (flat? (zB E.prog (Op.unary h v)))else none
  |none=>none
def qMs(E:Env)(fr:Fr)(H:AH)(s:LN)(d:LN)(x:LM):gP:=match ev E fr x with
  |some (.slice a n c)=>one H (bQ E H s d (.slice a n c) n)
  |some (.pointer (some a))=>qEa E H s d a
  |some (.string b)=>match E.types.get s,E.types.get d with
   |some {desc:=.string,..},some {desc:=.slice e,..}=>mY E H e b
   |_,_=>one H (flat? (zB E.prog (Go.convert s d (.string b))))
  |some v=>bif zP v then one H (flat? (zB E.prog (Go.convert s d v)))else none
  |none=>none
def dR(_E:Env)(_fr:Fr)(_H:AH)(_t:LN)(_x:LM):gP:=none
def qBp(E:Env)(fr:Fr)(H:AH)(t:LN)(x:LM):gP:=match E.types.get t,ev E fr x with
  |some {desc:=.interface _,..},_=>none
  |some _,some v=>one H (some (.iface t v))
  |_,_=>none
def qJx(E:Env)(fr:Fr)(H:AH)(fn:Fn)(first:Array LM)(cap:Array LM):gP:=match rS E fr first.toList,rS E fr cap.toList with
  |some f,some c=>one H (if rM fn then some (.func fn ⟨f⟩ ⟨c⟩)else none)
  |_,_=>none
def qMq(E:Env)(fr:Fr)(H:AH)(t:LN)(r:Option LM):gP:=match r with
 |none=>some (.val (.map (some H.next)),H.new (.map [] 0))
 |some x=>match E.types.get t,ev E fr x with
  |some {desc:=.map _ _,..},some (.int _ _)=>some (.val (.map (some H.next)),H.new (.map [] 0))
  |_,_=>none
def qJy(_E:Env)(_fr:Fr)(_H:AH)(_t:LN)(_x:LM):gP:=none
def qHL(E:Env)(fr:Fr)(H:AH)(t:LN)(l:LM)(c:LM):gP:=match ev E fr l,ev E fr c with
  |some l,some c=>gV E H t l c
  |_,_=>none
def qSk(E:Env)(fr:Fr)(H:AH)(t:LN)(x:LM)(lo:Option LM)(h:Option LM)(mx:Option LM):gP:=
  match ev E fr x,rS E fr lo.toList,rS E fr h.toList,rS E fr mx.toList with
  |some x,some lo,some h,some mx=>one H (oN E H t x lo.head? h.head? mx.head?)
  |_,_,_,_=>none
def qHN(E:Env)(fr:Fr)(H:AH)(s:LN)(x:LM)(f:Nat):gP:=match ev E fr x with
  |some v=>one H (aY E s v f)
  |none=>none
def qSp(E:Env)(fr:Fr)(H:AH)(t:LN)(x:LM)(f:Nat):gP:=match ev E fr x,E.types.get t with
  |some (.agg cs),some {desc:=.struct fs,..}=>match fs[f]? with
   |some h=>one H (iT E h.type cs.toList h.offset)
   |none=>none
  |_,_=>none
def qHM(E:Env)(fr:Fr)(H:AH)(t:LN)(x:LM)(i:LM):gP:=match ev E fr x,(ev E fr i).bind nat? with
  |some v,some i=>one H (qAu E t v i)
  |_,_=>none
def qSo(E:Env)(fr:Fr)(H:AH)(t:LN)(x:LM)(i:LM):gP:=match ev E fr x,(ev E fr i).bind nat?,E.types.get t with
  |some (.string s),some i,some {desc:=.string,..}=>match s.data.toList[i]? with
   |some b=>one H (some (.int .u8 b.toNat))
   |none=>none
  |some (.agg cs),some i,some {desc:=.array len h,..}=>match E.types.get h with
   |some e=>bif Nat.ble (i+1) len then one H (iT E h cs.toList (Nat.mul i e.size))else none
   |none=>none
  |_,_,_=>none
def qPG(E:Env)(fr:Fr)(H:AH)(t:LN)(x:LM)(k:LM)(ok:Bool):gP:=match ev E fr x,ev E fr k with
  |some x,some k=>one H (rI E H t x k ok)
  |_,_=>none
def qHK(E:Env)(fr:Fr)(H:AH)(t:LN)(m:LM)(k:LM)(x:LM):gP:=match ev E fr m,ev E fr k,ev E fr x with
  |some m,some k,some v=>(rE E H t m k v).map λH'=>(.skip,H')
  |_,_,_=>none
def qJw(_E:Env)(_fr:Fr)(_H:AH)(_t:LN)(_m:LM)(_k:LM):gP:=none
def qF8(_E:Env)(_fr:Fr)(_H:AH)(_t:LN)(_m:LM)(_s:LM)(_x:LM):gP:=none
def qSm(E:Env)(fr:Fr)(H:AH)(t:LN)(x:LM):gP:=match ev E fr x,E.types.get t with
  |some (.string s),some {desc:=.string,..}=>some (.val (.pointer (some ⟨H.next,0,none⟩)),H.new (.lx s 0))
  |some (.map (some m)),some {desc:=.map _ _,..}=>match H.blocks.get m with
   |some ⟨.map _ h,_,_⟩=>some (.val (.pointer (some ⟨H.next,0,none⟩)),H.new (.oa m h [] h))
   |_=>none
  |_,_=>none
def qXw(E:Env)(fr:Fr)(H:AH)(x:LM)(h:Bool):gP:=match ev E fr x with
  |some v=>qA1 H v h
  |none=>none
def qSq(E:Env)(fr:Fr)(H:AH)(h:LM):gP:=match ev E fr h with
  |some v=>one H (qGh H v)
  |none=>none
def qF7(E:Env)(fr:Fr)(H:AH)(x:LM)(_xt:LN)(h:LN)(ok:Bool):gP:=match ev E fr x,E.types.get h with
  | some v,some y=>match mA E y h v with
   |some (some u)=>one H (some (bif ok then .tuple #[u,.bool true]else u))
   |some none=>bif ok then one H (match y.zero with
    |some z=>(rD y.agg z).map λb=>.tuple #[b,.bool false]
    |none=>none)else none
   |none=>none
  |_,_=>none
def qMr(E:Env)(fr:Fr)(H:AH)(x:LM)(i:Nat):gP:=match ev E fr x with
  |some (.tuple vs)=>one H vs.toList[i]?
  |_=>none
def qXz(E:Env)(fr:Fr)(H:AH)(c:Call):gP:=kX E fr H c
def zDV(_E:Env)(_fr:Fr)(_H:AH)(_c:Call):gP:=none
def qSr(_E:Env)(_fr:Fr)(_H:AH)(_c:Call):gP:=none
def qSn(_E:Env)(_fr:Fr)(_H:AH)(_x:LM):gP:=none
def qXt(_E:Env)(_fr:Fr)(_H:AH)(_c:LM)(_x:LM):gP:=none
def qXu(_E:Env)(_fr:Fr)(_H:AH)(_t:LN)(_c:LM)(_ok:Bool):gP:=none
def qPF(_E:Env)(_fr:Fr)(_H:AH)(_cs:Array SelectCase)(_b:Bool):gP:=none
noncomputable def qYv(E:Env)(fr:Fr)(o:Oper)(H:AH):gP:=Op.rec (motive:=λ_=>gP) (qXx E fr H) (qPI E fr H) (qXv E fr H) (qSu E fr H) (zBt E fr H) (qSs E fr H) (qF9 E fr H) (qPH E fr H) (qXy E fr H) (qSj E fr H) (qSl E fr H) (qSi E fr H) (qJv E fr H) (qSt E fr H) (qXs E fr H) (qMs E fr H) (dR E fr H) (qBp E fr H) (qJx E fr H) (qMq E fr H) (qJy E fr H) (qHL E fr H) (qSk E fr H) (qHN E fr H) (qSp E fr H) (qHM E fr H) (qSo E fr H) (qPG E fr H) (qHK E fr H) (qJw E fr H) (qF8 E fr H) (qSm E fr H) (qXw E fr H) (qSq E fr H) (qF7 E fr H) (qMr E fr H) (qXz E fr H) (zDV E fr H) (qSr E fr H) (qSn E fr H) (qXt E fr H) (qXu E fr H) (qPF E fr H) o.op
theorem qS3(E:Env)(fr:Fr)(o:Oper)(H:AH):qYv E fr o H=jH E fr o H:=by unfold jH qYv;cases o.op<;>first|rfl|(rename_i r;cases r<;>rfl)
def qYO(ih:Cmd->AH->xM)(x:Bool)(a:AR)(H:AH):Option (LQ×AH):=match a with
 |.val v=>some (v,H)
 |.skip=>some (.tuple #[],H)
 |.sf=>bif x then none else some (.nilIface,H)
 |.enter f h=>match ih (.call f h) H with
  |some (.val v,H')=>some (v,H')
  |_=>none
 |.round l h=>match ih (.round l h) H with
  |some (.val v,H')=>some (v,H')
  |_=>none
noncomputable def qPL(E:Env)(ih:Cmd->AH->xM)(fr:Fr)(o:Oper)(H:AH):Option (LQ×AH):=
 match qYv E fr o H with
 |none=>none
 |some (a,H')=>qYO ih fr.rd a H'
theorem qPK{o:Oper}:qPL E ih fr o H=yM E ih fr o H:=by
 unfold qPL yM jA;rw[qS3];cases h:jH E fr o H with
 |none=>rfl
 |some r=>obtain⟨a,H'⟩:=r;cases a<;>rfl
noncomputable def qJ1(k:Fr->AH->Option (Fr×AH))(fr:Fr)(h:Option Tmp)(v:LQ)(H:AH):Option (Fr×AH):=match h with
 |some d=>bif Nat.ble (d+1) fr.sz then k ⟨fr.sz,fr.rd,fr.t.put d (some v)⟩ H else none
 |none=>k fr H
noncomputable def qYN(E:Env)(ih:Cmd->AH->xM)(k:Fr->AH->Option (Fr×AH))(fr:Fr)(o:Oper)(H:AH):Option (Fr×AH):=match qPL E ih fr o H with
 |none=>none
 |some (v,H')=>qJ1 k fr o.dst v H'
noncomputable def qVt(E:Env)(ih:Cmd->AH->xM)(all:LF)(k:Fr->AH->Option (Fr×AH))(fr:Fr)(o:Oper)(H:AH):Option (Fr×AH):=match vU all fr o with
 |none=>none
 |some false=>qJ1 k fr o.dst (.tuple #[]) H
 |some true=>qYN E ih k fr o H
noncomputable def qFw(E:Env)(ih:Cmd->AH->xM)(all:LF)(h:LB):Fr->AH->Option (Fr×AH):=
 List.rec (motive:=λ_=>Fr->AH->Option (Fr×AH)) (λfr H=>some (fr,H)) (λo _ k fr H=>qVt E ih all k fr o H) h
theorem qGH{k:Fr->AH->Option (Fr×AH)}{dst:Option Tmp}{v:LQ}:qJ1 k fr dst v H=(match yI fr dst v with
  |some h=>k h H
  |none=>none):=by
 unfold qJ1 yI
 cases dst with
 |none=>rfl
 |some d=>
  simp only
  cases Nat.ble (d+1) fr.sz<;>rfl
theorem qCd{E:Env}{ih:Cmd->AH->xM}{all:LF}{ts:List (Nat×Nat)}:∀(h:LB) (i:Nat) (fr:Fr) (H:AH),qFw E ih all h fr H=zY E ih all false ts h i fr H
 | [],i,fr,H=>rfl
 | o::h,i,fr,H=>by
  have x:=qCd (E:=E) (ih:=ih) (all:=all) (ts:=ts) h (i+1);show qVt E ih all (qFw E ih all h) fr o H=_;unfold zY qVt qYN;cases vU all fr o with
  |none=>rfl
  | some b=>
   cases b with
   |false=>simp only[qGH];grind
   |true=>
    simp only[bc,qPK];cases yM E ih fr o H with
    |none=>rfl
    |some r=>obtain⟨v,H'⟩:=r;simp only[qGH];grind
def qTe(r:Option (Fr×AH))(k:Unit->xM):xM:=match r with
 |some (fr,H)=>some (.ex .normal fr,H)
 |none=>k ()
def qQM(E:Env)(ih:Cmd->AH->xM)(ops:LF)(fr:Fr)(H:AH):xM:=
 match zY E ih ops false [] ops.toList 0 fr H with
 | some (x,_)=>match zY E ih ops true (mG x ops.toList 0) ops.toList 0 fr H with
  |some (h,H')=>some (.ex .normal h,H')
  | none=>match zY E ih ops true (gT x ops.toList 0) ops.toList 0 fr H with
   |some (h,H')=>some (.ex .normal h,H')
   |none=>match zY E ih ops true (cK E ih ops ops.toList 0 fr H) ops.toList 0 fr H with
    |some (h,H')=>some (.ex .normal h,H')
    |none=>none
 |none=>none
noncomputable def qBR(E:Env)(ih:Cmd->AH->xM)(ops:LF)(draw:Bool)(fr:Fr)(H:AH):xM:=
 cond draw (qTe (zY E ih ops true (yL fr ops.toList ops.toList 0) ops.toList 0 fr H) λ_=>qQM E ih ops fr H) (qTe (qFw E ih ops ops.toList fr H) λ_=>none)
def qM9(ih:Cmd->AH->xM)(b:Code)(e:AExit)(fr:Fr)(H:AH):xM:=match e with
 |.normal=>ih (.code b fr) H
 |e=>some (.ex e fr,H)
def qQL(k:AExit->Fr->AH->xM)(r:xM):xM:=match r with
 |some (.ex e fr,H)=>k e fr H
 |r=>r
def qJ0(ih:Cmd->AH->xM)(a b:Code)(fr:Fr)(H:AH):xM:=qQL (qM9 ih b) (ih (.code a fr) H)
def zCk(ih:Cmd->AH->xM)(a b:Code)(fr:Fr)(H:AH)(t:Bool):xM:=cond t (ih (.code a fr) H) (ih (.code b fr) H)
def qIw(E:Env)(ih:Cmd->AH->xM)(c:LM)(a b:Code)(fr:Fr)(H:AH):xM:=match ev E fr c with
 |some (.bool t)=>zCk ih a b fr H t
 |_=>none
def qTg(id:Nat)(e:AExit)(fr:Fr)(H:AH):xM:=match e with
 |.exit h=>bif Nat.beq h id then some (.ex .normal fr,H)else some (.ex (.exit h) fr,H)
 |e=>some (.ex e fr,H)
def qE9(ih:Cmd->AH->xM)(id:Nat)(b:Code)(fr:Fr)(H:AH):xM:=qQL (qTg id) (ih (.code b fr) H)
def qTd(E:Env)(h:List ResultVar)(fr:Fr)(H:AH):xM:=match vV E fr H h with
 |some [v]=>some (.val v,H)
 |some vs=>some (.val (.tuple ⟨vs⟩),H)
 |none=>none
def qTf(E:Env)(fn:Func)(fr:Fr)(H:AH)(e:AExit):xM:=match e with
 |.exit _=>none
 |_=>qTd E fn.results.toList fr H
def qNb(E:Env)(ih:Cmd->AH->xM)(fn:Func)(c:Code)(h:LA)(H:AH)(r:xM):xM:=match r with
 |some (.ex e x,H')=>qTf E fn x H' e
 |none=>qAH E ih fn.results.toList c ⟨Nat.max fn.ntmps h.length,false,T.ofList .leaf 0 h⟩ H
 |_=>none
def qYM(E:Env)(ih:Cmd->AH->xM)(fn:Func)(h:LA)(H:AH)(c:Code):xM:=
 qNb E ih fn c h H (ih (.code c ⟨Nat.max fn.ntmps h.length,false,T.ofList .leaf 0 h⟩) H)
def qIx(E:Env)(ih:Cmd->AH->xM)(f:LO)(h:LA)(H:AH):xM:=match E.funcs.get f with
 |some fn=>match fn.body with
  |some c=>qYM E ih fn h H c
  |none=>none
 |none=>none
noncomputable def qNa(E:Env)(ih:Cmd->AH->xM)(c:Code)(fr:Fr)(H:AH):xM:=
 Code.rec (motive:=λ_=>xM) (some (.ex .normal fr,H)) (λ_ ops draw=>qBR E ih ops draw fr H) (λa b _ _=>qJ0 ih a b fr H) (λc a b _ _=>qIw E ih c a b fr H) (λid b _=>qE9 ih id b fr H) (λb _=>qJ0 ih b (.loop b) fr H) (λf h a b _ _=>eF E ih fr f h.toList a b H) (λid=>some (.ex (.exit id) fr,H)) (λb _=>ih (.code b fr) H) (λ_=>some (.ex .normal fr,H)) (λ_=>none) (some (.ex .ret fr,H)) (λ_=>none) c
noncomputable def qQi(E:Env)(ih:Cmd->AH->xM)(cmd:Cmd)(H:AH):xM:=
 Cmd.rec (motive:=λ_=>xM) (λc fr=>qNa E ih c fr H) (λf h=>qIx E ih f h H) (λl h=>gU E ih l h H) cmd
noncomputable def qOd(E:Env)(n:Nat):Cmd->AH->xM:=
 Nat.rec (motive:=λ_=>Cmd->AH->xM) (λ_ _=>none) (λ_ ih=>qQi E ih) n
theorem qGG{a b:Code}:qJ0 ih a b fr H=(match ih (.code a fr) H with
   |some (.ex .normal h,H')=>ih (.code b h) H'
   |r=>r):=by
 unfold qJ0 qQL qM9
 cases ih (.code a fr) H with
 |none=>rfl
 |some r=>
  obtain⟨o,H'⟩:=r
  cases o with
  |ex e h=>cases e<;>rfl
  |val v=>rfl
theorem qQh{cmd:Cmd}:qQi E ih cmd H=body E ih cmd H:=by
 cases cmd with
 | code c fr=>
  show qNa E ih c fr H=_;cases c with
  |seq a b=>exact qGG
  |loop b=>exact qGG
  |region id ops draw=>
   show qBR E ih ops draw fr H=_;unfold qBR;cases draw with
   |true=>simp only[ai,body];cases zY E ih ops true (yL fr ops.toList ops.toList 0) ops.toList 0 fr H<;>rfl
   |false=>simp only[bc,body,qCd (ts:=[]) ops.toList 0];cases zY E ih ops false [] ops.toList 0 fr H<;>rfl
  |cond c a b=>
   show qIw E ih c a b fr H=_;unfold qIw;simp only[body];cases ev E fr c with
   |none=>rfl
   |some v=>cases v<;>first|rfl|(rename_i t;cases t<;>rfl)
  |block id b=>show qE9 ih id b fr H=_;unfold qE9 qQL qTg;simp only[body];grind
  |_=>rfl
 | call f h=>
  show qIx E ih f h H=_;unfold qIx qYM qNb qTf qTd;simp only[body];cases E.funcs.get f with
  |none=>rfl
  | some fn=>
   simp only;cases fn.body with
   |none=>rfl
   | some c=>
    simp only;cases ih (.code c ⟨Nat.max fn.ntmps h.length,false,T.ofList .leaf 0 h⟩) H with
    |none=>rfl
    |some r=>
     obtain⟨o,H'⟩:=r;cases o with
     |ex e x=>cases e<;>rfl
     |val v=>rfl
 |round l h=>rfl
theorem qKh{E:Env}:∀n,qOd E n=qQ7 E n
 |0=>rfl
 |n+1=>by have ih:=qKh (E:=E) n;funext cmd H;show qQi E (qOd E n) cmd H=body E (qQ7 E n) cmd H;rw[ih,qQh]
noncomputable def dM{α:Type}(d:Nat):(Nat->Option α)->T α:=
 Nat.rec (motive:=λ_=>(Nat->Option α)->T α) (λ_=>.leaf) (λ_ ih g=>.node (g 0) (ih λm=>g (Nat.succ (Nat.mul 2 m))) (ih λm=>g (Nat.succ (Nat.succ (Nat.mul 2 m))))) d
theorem pT{α:Type}:∀(d:Nat) (g:Nat->Option α) (n:Nat) (x:α),(dM d g).get n=some x->g n=some x
 |0,g,n,x,h=>by simp[dM,T.get]at h
 |d+1,g,n,x,h=>by
  have e:(dM (d+1) g)=.node (g 0) (dM d λm=>g (Nat.succ (Nat.mul 2 m))) (dM d λm=>g (Nat.succ (Nat.succ (Nat.mul 2 m)))):=rfl;rw[e,T.ld]at h;split at h
  ·rename_i y;subst y;exact h
  split at h
  ·have h:=pT d _ _ _ h;grind
  have h:=pT d _ _ _ h;grind
theorem qAr{α:Type}:∀(d:Nat) (g:Nat->Option α) (n:Nat),n+1<2^d->(dM d g).get n=g n
 |0,g,n,h=>by simp at h
 | d+1,g,n,h=>by
  have e:(dM (d+1) g)=.node (g 0) (dM d λm=>g (Nat.succ (Nat.mul 2 m))) (dM d λm=>g (Nat.succ (Nat.succ (Nat.mul 2 m)))):=rfl;rw[e,T.ld];rw[Nat.pow_succ]at h;split
  ·rename_i x;rw[x]
  split
  ·rw[qAr d _ _ (by omega)]
   congr 1;show 2*(n/2)+1=n;omega
  rw[qAr d _ _ (by omega)]
  congr 1;show 2*(n/2-1)+2=n;omega
noncomputable def qPu(P:LK)(n:Nat):Option Func:=match P.funcs.toList[n]? with
 |some f=>match f.body with
  |some _=>some f
  |none=>none
 |none=>none
noncomputable def qIz(P:LK)(n:Nat):Option TI:=match P.types.toList[n]?,P.underlying n with
 |some i,some d=>some (qFp i d)
 |_,_=>none
noncomputable def qMy(P:LK):Env:={prog:=P,ng:=P.globals.size,funcs:=dM 12 (qPu P),types:=dM 12 (qIz P)}
def nM(P:LK):Bool:=Nat.ble P.types.size 4000&&P.funcs.toList.all λf=>match f.body with
 | some c => !(f.name == "runtime.NumGoroutine") && vJ c
 |none=>true
theorem qEf{t:Nat}{x:TI}(h:qIz P t=some x):∃i d,P.types[t]? = some i/\P.underlying t=some d/\x=qFp i d:=by unfold qIz at h;grind
theorem qEK{f:Nat}(h:qPu P f=some fn):P.funcs[f]? = some fn/\fn.body.isSome=true:=by unfold qPu at h;grind
theorem qSA(h:l5 P=true)(k:nM P=true):EOk (qMy P) where
 types t l p:=by
  obtain⟨i,d,x,r,rfl⟩:=qEf (pT 12 (qIz P) t l p)
  have e:=(cu.1 x).1
  have G:P.info? t=some i:=by
   show Tables.info? P.toTables t=some i
   unfold Tables.info?
   rw[bo e];exact x
  refine⟨i,G,r,rfl,rfl,?_,rfl⟩
  intro z b
  simp only[qFp]at b
  split at b
  ·rename_i v hv
   cases y:qBQ (qQs d) i.size v with
   |false=>rw[y]at b;cases b
   |true=>
    rw[y]at b
    cases b
    obtain⟨a1,a2,a3,J,I⟩:=qBP y
    exact⟨v,hv,a1,rfl,a2,a3,J,I⟩
  cases b
 funcs f fn j:=by
  obtain⟨B,A⟩:=qEK (pT 12 (qPu P) f fn j)
  refine⟨B,A,?_⟩
  simp only[nM,aE,al]at k
  grind
 py f fn c j M:=by
  obtain⟨B,A⟩:=qEK (pT 12 (qPu P) f fn j)
  simp only[nM,aE,al]at k
  grind
 mixed:=by
  simp only[l5,aE]at h
  exact h.1
 ng:=rfl
 fields t l fs p hd f j:=by
  obtain⟨i,d,x,r,rfl⟩:=qEf (pT 12 (qIz P) t l p)
  simp only[l5,aE]at h
  simp only[qFp]at hd
  have e:=(cu.1 x).1
  obtain⟨O,q⟩:=aX _ _ h.2 t fs (cq _) (by simpa using e) (by rw[r,hd]) f j
  rcases fF _ _ _ _ _ q with g|⟨u,d',L,F,K,rfl⟩
  ·simp[T.get]at g
  have o:P.types[f.type]? = some u:=by simpa using F
  have C:=(cu.1 o).1
  simp only[nM,aE]at k
  have N:=oA k.1
  refine⟨qFp u d',?_⟩
  show(dM 12 (qIz P)).get f.type=_
  rw[qAr 12 _ _ (by rw[show(2:Nat)^12=4096 from by decide];omega)]
  unfold qIz
  grind
section
variable{E:Env}{σ σ':vO}{H H':AH}{w w':LP}
theorem Step.cut{H1:AH}(hr:HR E σ H w)(y:∀b k,H1.blocks.get b=some k->H.blocks.get b=some k)(p:H1.next=H.next)(q:H1.low=0):Step E σ H w σ H1 w where
 hr:=⟨λb k L h x=>hr.kq b k L (y b k h) x,λj i g e o l h x=>hr.sep j i g e o l (y _ _ h) (y _ _ x),hr.la,λb k h=>by rw[p];exact hr.wf b k (y b k h)⟩
 next:=by rw[p];exact vP _
 ext _ _:=rfl
 size:=vP _
 low:=by rw[q];exact cq _
 tape:=rfl
 os:=rfl
 output:=⟨rfl,λ_=>vP _⟩
 frame _ _ _:=rfl
 origin b k L h x h3:=.inr ⟨b,k,L,y b k h,x,h3,rfl,rfl⟩
 kp b k h _:=⟨k,y b k h,rfl,rfl⟩
 hN b k _ x:=by rw[q]at x;exact absurd x (Nat.not_lt_zero _)
 born b k h x:=absurd (hr.wf b k (y b k h)).2 (Nat.not_lt.2 x)
theorem gK.cut{c:Code}{y x j:Fr}{e:AExit}{H1 H2:AH}(h:gK E c x H2 e j H')(J:∀b k,H2.blocks.get b=some k->H1.blocks.get b=some k)(A:H2.next=H1.next)(G:H2.low=0)(F:x.sz=y.sz)(hd:x.rd=y.rd)(C:∀t v,x.t.get t=some v->y.t.get t=some v):gK E c y H1 e j H':=by intro p σ w tmps n0 M z B i q b ds k cs I o r;have s1:=Step.cut z J A G;obtain⟨σ',w',g,u,s2,f2,l,L,K⟩:=h p σ w tmps n0 M s1.hr ⟨by rw[F];exact B.1,λt v hv=>B.2 t v (C t v hv)⟩ (by rw[A];exact i) q b ds k cs I (by rw[hd];exact o) (r.step z s1);exact⟨σ',w',g,u,s1.trans s2,f2,by rw[l,hd],L,K⟩
def qPa(E:Env)(h:List ResultVar):xM->Bool
 |some (.ex .ret fr,H)=>match vV E fr H h with
  |some [.bool true]=>true
  |_=>false
 |_=>false
theorem qRX(he:EOk E){n:Nat}{rs:List ResultVar}(h:qPa E rs (qOd E n (.code c fr) H)=true):∃x H2,gK E c fr H .ret x H2/\H.next<=H2.next/\vV E x H2 rs=some [.bool true]:=by
 generalize y:qOd E n (.code c fr) H=r at h;rw[qKh]at y;unfold qPa at h;split at h
 ·rename_i x H2;split at h
  ·rename_i hr;have b:=qKj he n;exact⟨x,H2,b.code _ _ _ _ _ _ y,b.up _ _ _ _ y,hr⟩
  cases h
 cases h
open Classical in
noncomputable def qA8(c:Code)(fr:Fr)(H:AH)(e:AExit)(h:Fr)(H':AH):Cmd->AH->xM:=λcmd X=>if cmd=.code c fr/\X=H then some (.ex e h,H')else none
theorem qPj{y:Fr}{e:AExit}(h:gK E c fr H e y H')(p:H.next<=H'.next):IhOK E (qA8 c fr H e y H') where
 up cmd X j g x:=by
  unfold qA8 at x;split at x
  all_goals grind
 call f b X v g x:=by
  unfold qA8 at x;split at x
  all_goals grind
 round l b X v g x:=by
  unfold qA8 at x;split at x
  all_goals grind
 code o i X e' k g x:=by
  unfold qA8 at x;split at x
  all_goals grind
 mr o i X v g x:=by
  unfold qA8 at x;split at x
  ·cases x
  cases x
theorem qIX(he:EOk E)(g:E.funcs.get f=some fn)(i:fn.body=some c){x:Fr}{H2:AH}(h:gK E c ⟨Nat.max fn.ntmps 0,false,.leaf⟩ H .ret x H2)(b:H.next<=H2.next)(hr:vV E x H2 fn.results.toList=some [.bool true]):xK E f [] H (.bool true) H2:=by
 have j:body E (qA8 c ⟨Nat.max fn.ntmps 0,false,.leaf⟩ H .ret x H2) (.call f []) H=some (.val (.bool true),H2):=by have e:qA8 c ⟨Nat.max fn.ntmps 0,false,.leaf⟩ H .ret x H2 (.code c ⟨Nat.max fn.ntmps 0,false,.leaf⟩) H=some (.ex .ret x,H2):=bo ⟨rfl,rfl⟩;simp only[body,g,i,dg,T.ofList,e,hr]
 obtain⟨v,hv,y⟩:=qLk he (qPj h b) j;cases hv;exact y
theorem qH3(F:E.prog=P)(j:E.laid=[]){m:Nat}{H':AH}(z:Nat.ble P.globals.size m=true)(C:xK E f [] (qA9 m) (.bool true) H')(w:LP):Calls P f #[] w λe w'=>e=.returned (.bool true)/\KeptD w w':=by
 subst F;have u:E.prog.globals.size<=m:=oA z;let σ:vO:=λb=>if b<E.prog.globals.size then some ⟨b,0,0,0⟩else none;have J:HR E σ (qA9 m) w:=⟨λb k L y=>by simp[qA9,T.get]at y,λq p o l t r y=>by simp[qA9,T.get]at y,λg A=>⟨⟨g,0,0,0⟩,bo A,rfl,rfl⟩,λb k y=>by simp[qA9,T.get]at y⟩;have h:yU σ (qA9 m).next H'.next:=λb I Q=>by have:m<=b:=I;grind
 have x:=C σ w [] J .nil h;intro cs;obtain⟨e,w',fr,⟨σ',v',O,N,i⟩,M,K,g6⟩:=x cs;refine⟨e,w',fr,⟨?_,i.size,λB G=>i.frame B G λb k L y=>by simp[qA9,T.get]at y,i.tape,i.os,i.output.1,i.output.2 j⟩,M,K,g6⟩;rw[O,uR N]
end
end Go.Am
