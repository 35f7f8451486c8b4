/- Runs along a given path: what is claimed of single operations is collected. Conditions: none. -/
import Derived.Test.YtminhjecpnpaeaaGreatDoorAm6
import Derived.ReadAgain
import Derived.ChangeSame
import Derived.ChangeOld
import Derived.ProofKit
set_option linter.unusedVariables false
set_option linter.unusedSimpArgs false
namespace Go.Am
open Go
theorem qNC {E:Env} {ih:Cmd->AH->j8} {fr:Fr} {o:Oper} {H:AH} {r:Value × AH} (h:vS E ih fr o H=some r):wT E ih fr o H=some r:=by
 unfold wT
 split
 ·rename_i h1
  unfold vS at h
  rw [h1] at h
  cases h
 exact h
inductive Claim where
 | val (d:Nat) (v:Value)
 | heap (H:AH)
 | both (d:Nat) (v:Value) (H:AH)
abbrev qXD:=List Claim
abbrev qU7 (α:Type):=Option (α × qXD × List Prop)
def qU7.add {α:Type} (p:Prop):qU7 α->qU7 α
 | some (r,tp,P)=>some (r,tp,p::P)
 | none=>none
def qU7.app {α:Type} (P:List Prop):qU7 α->qU7 α
 | some (r,tp,Q)=>some (r,tp,P++Q)
 | none=>none
end Go.Am
namespace Go.Am
open Go
theorem qAj:∀ (fs:List Func) (n:Nat) (t:T Func) (k:Nat),k < n->(gA fs n t).get k=t.get k
 | [],_,_,_,_=>rfl
 | f::fs,n,t,k,h=>by
  simp only [gA]
  rw [qAj fs (n+1) _ k (by omega)]
  split
  ·cases (f.name == "runtime.NumGoroutine" || !zT _) with
   | true=>rfl
   | false=>simp only [cond_false]; rw [T.get_put,if_neg (by omega)]
  rfl
theorem qF5:∀ (fs:List Func) (n:Nat) (t:T Func) (k:Nat) (fn:Func) (c:Code),n<=k->fs[k - n]? = some fn->fn.body=some c ->
  (fn.name == "runtime.NumGoroutine" || !zT c) = false -> (gA fs n t).get k = some fn
 | [],n,t,k,fn,c,_,h,_,_=>by simp at h
 | f::fs,n,t,k,fn,c,hn,h,hb,hc=>by
  simp only [gA]
  by_cases e:n=k
  ·subst e
   simp only [Nat.sub_self,List.getElem?_cons_zero,oI] at h
   subst h
   rw [qAj fs (n+1) _ n (Nat.lt_succ_self _),hb]
   simp only [hc,cond_false]
   rw [T.get_put,if_pos rfl]
  refine qF5 fs (n+1) _ k fn c (by omega) ?_ hb hc
  have:k - n=(k - (n+1))+1:=by omega
  rw [this] at h
  simpa using h
theorem qJr {P : Program} {f : FuncId} {fn : Func} {c : Code} (h : P.funcs[f]? = some fn) (hb : fn.body = some c) (hc : (fn.name == "runtime.NumGoroutine" || !zT c) = false) :
  (qGr P).funcs.get f=some fn :=
 qF5 _ _ _ _ _ _ (Nat.zero_le _) (by simpa using h) hb hc
section
variable {E:Env}
def qOl (E:Env) (w:World) (cs:List Value) (el:TypeId) (L:Loc):Prop :=
 cs.all (fun v=>vK v && qQ v)=true/\(∃ ccs cel fz,w.heap[L.blk]? = some (.cells ccs cel fz)/\L.off+L.ext<=ccs.size/\∀ i v,cs[i]? = some v->ccs[L.off+i]? = some v) /\
 cs.length<=L.ext/\∀ ti,E.types.get el=some ti->L.sz=ti.size
theorem qOl.kept {w w':World} {cs:List Value} {el:TypeId} {L:Loc} (h:qOl E w cs el L) (k:Kept w w'):qOl E w' cs el L:=by
 obtain ⟨h1,⟨ccs,cel,fz,g1,g2,g3⟩,h3,h4⟩:=h
 refine ⟨h1,⟨ccs,cel,fz,?_,g2,g3⟩,h3,h4⟩
 rw [k.old _ (Array.getElem?_eq_some_iff.1 g1).1]; exact g1
def qAy (P:Program) (m:Nat) (ls:List (Option Loc)):zZ:=fun b=>if b < P.globals.size then some ⟨b,0,0,0⟩ else if m<=b then (ls[b - m]?).getD none else none
theorem kX {α:Type}:∀ (xs:List α) (t:T α) (n i:Nat),(T.ofList t n xs).get i=if n<=i/\i < n+xs.length then xs[i - n]? else t.get i
 | [],t,n,i=>by
  simp only [T.ofList,List.length_nil,Nat.add_zero]
  rw [if_neg (by omega)]
 | x::xs,t,n,i=>by
  simp only [T.ofList]
  rw [kX xs (t.put n (some x)) (n+1) i,T.get_put]
  by_cases h1:i=n
  ·subst h1
   rw [if_neg (by omega),if_pos rfl,if_pos (by simp)]
   simp
  rw [if_neg h1]
  by_cases h2:n+1<=i/\i < n+1+xs.length
  ·rw [if_pos h2,if_pos (by simp; omega)]
   have:i - n=(i - (n+1))+1:=by omega
   rw [this]; simp
  rw [if_neg h2,if_neg (by simp; omega)]
def qXu (f0:FuncId) (g:List Value->AH->Option Value) (rest:qXV):qXV:=fun f args H=>bif Nat.beq f f0 then (match g args H with | some v=>some (v,H) | none=>none) else rest f args H
theorem qEO {f0:FuncId} {g:List Value->AH->Option Value} {rest:qXV} (hr:qSW E rest)
  (hg:∀ args H v,g args H=some v->∀ (σ:zZ) (w:World) (args':List Value),HR E σ H w->VRs σ args args'->Calls E.prog f0 ⟨args'⟩ w fun e w'=>∃ v',e=.returned v'/\VR σ v v'/\KeptD w w') :
  qSW E (qXu f0 g rest):=by
 intro f args H v H' h
 simp only [qXu] at h
 cases hb:Nat.beq f f0 with
 | true =>
  rw [hb] at h
  simp only [cond_true] at h
  have:=jF hb
  subst this
  split at h
  ·rename_i v1 hv
   cases h
   exact ⟨lR _,qK6 (hg args H _ hv)⟩
  cases h
 | false =>
  rw [hb] at h
  exact hr f args H v H' h
end
end Go.Am
namespace Go.Am
open Go
section
variable {H:Type} {enc:TypeId × Value->H} {P:Program} {W W':World}
theorem Kept.sameAt (k:Kept W W') {p:MemPlace} (hp:p.block < W.heap.size):W.sameAt W' p:=by
 cases p with
 | cell b off =>
  have h:=k.old b hp
  simp only [World.sameAt,World.cell?,h]
 | map b=>exact k.old b hp
theorem Kept.keptBut (k:Kept W W') (may:MemPlace->Prop):W.keptBut W' may:=by
 refine ⟨k.os,k.output,fun i hi=>?_⟩
 rw [k.old i hi]
 obtain ⟨o,ho⟩:∃ o,W.heap[i]? = some o:=⟨W.heap[i],Array.getElem?_eq_getElem hi⟩
 rw [ho]
 cases o with
 | cells c t fr=>exact ⟨rfl,rfl,rfl,fun _ _=>rfl⟩
 | map es cl=>exact .inr ⟨rfl,rfl⟩
 | _=>rfl
theorem Kept.frozen (k:Kept W W') {a:Addr} (ha:a.block < W.heap.size):W'.frozen? a=W.frozen? a:=by
 unfold World.frozen?
 rw [k.old _ ha]
theorem eX {sp:Nat->Bool} {base:Nat} {held:Bool}:∀ {ts:List TypeId} {vs:List Value} {ds:List (DataW H)} {ps:List MemPlace},DataW.TrodAll enc P W base sp held ts vs ds ps ->
  (∀ p∈ps,W.sameAt W' p)->DataW.TrodAll enc P W' base sp held ts vs ds ps
 | [],[],[],_,h,_=>h
 | _::_,_::_,_::_,_,⟨p,q,⟨n,h1⟩,h2,e⟩,hs =>
  ⟨p,q,⟨n,DataW.trod_carry n _ _ _ h1 (fun x hx=>hs x (by rw [e]; exact List.mem_append_left _ hx))⟩,eX h2 (fun x hx=>hs x (by rw [e]; exact List.mem_append_right _ hx)),e⟩
theorem qCI (hl:laidOutB P=true) (hm:mapsRowed P=true) (hz:∀ t e,t < P.types.size->P.underlying t=some (.slice e)->0 < P.cellsOf e) {ts:List TypeId} (hts:∀ t∈ts,t < P.types.size)
  {vs:List Value} {ds:List (DataW H)} {ps:List MemPlace} (h:DataW.TrodAll enc P W 0 (fun _=>true) true ts vs ds ps) (k:Kept W W') {sp:Nat->Bool} (hs:∀ p∈ps,sp p.block=true) :
  DataW.TrodAll enc P W' 0 sp true ts vs ds ps :=
 DataW.TrodAll.respare (kids_rows hl hm) hz hts (eX h fun p hp=>k.sameAt (DataW.TrodAll.lt h p hp)) hs
theorem qEk {f:Func} {s:ChangeSpec} {apart fresh handsOn again:Bool} {args:Array Value} {v:Value} {ds gs:List (DataW H)} {oS pa pv:List MemPlace}
  (hW:DataW.Whole enc P f.params.toList s.vars apart W args.toList ds gs oS)
  (hres:∀ (b:Nat) (sp:Nat->Bool) (hd:Bool),DataW.TrodAll enc P W' b sp hd f.resultTypes.toList (v.resultList f.resultTypes.size) (s.fn H (ds++gs)).results [])
  (hargs:∀ sp:Nat->Bool,(∀ p∈oS,sp p.block=true)->DataW.TrodAll enc P W' 0 sp true f.params.toList args.toList (s.fn H (ds++gs)).args pa)
  (hvars:∀ sp:Nat->Bool,(∀ p∈oS,sp p.block=true)->DataW.TrodVars enc P W' sp s.vars (s.fn H (ds++gs)).vars pv)
  (hps:oS=pa++pv) (k:Kept W W')
  (hok:∀ (j:Nat) (t:TypeId) (r:Value),f.resultTypes[j]? = some t->(v.resultList f.resultTypes.size)[j]? = some r->Value.okWide P W' .any 0 t r) :
  s.post enc P f apart fresh handsOn again W args v W':=by
 have hold:∀ p∈oS,(fun b=>decide (b < W.heap.size)) p.block=true:=fun p hp=>by simpa using hW.lt p hp
 have hlt:=hW.lt
 refine ⟨ds,gs,oS,[],pa,pv,hW,hres _ _ _,hargs _ hold,hvars _ hold,World.keptBut_mono (fun p hp=>⟨hp,?_⟩) (k.keptBut (· ∈ oS)),fun _=>?_⟩
 ·rw [hps,List.mem_append] at hp
  exact Or.inr hp
 obtain ⟨_,_,_,_,_,hz,hn⟩:=hW
 refine ⟨hok,_,_,([]++pa)++pv,⟨[]++pa,pv,ChangeShapes.trodAll_append (hargs _ (fun _ _=>rfl)) (hres _ _ _),hvars _ (fun _ _=>rfl),rfl,?_,?_⟩,?_⟩
 ·intro b off hp
  have hp':MemPlace.cell b off∈oS:=by rw [hps]; simpa using hp
  rw [k.frozen (hlt _ hp')]
  exact hz b off hp'
 ·intro ha
  have:=hn ha
  rw [hps] at this
  simpa using this
 intro p hp _
 rw [hps]
 simpa using hp
end
end Go.Am
namespace Go.Am
open Go
def qUh (E:Env) (fr:Fr) (H:AH) (x:Operand):kO:=one H (ev E fr x)
def qNB (E:Env) (fr:Fr) (H:AH) (x:Operand):kO:=one H (ev E fr x)
def qUf (E:Env) (fr:Fr) (H:AH) (c:Operand) (a:Operand) (b:Operand):kO:=match ev E fr c with
  | some (.bool true)=>one H (ev E fr a)
  | some (.bool false)=>one H (ev E fr b)
  | _=>none
def qQj (E:Env) (fr:Fr) (H:AH) (t:TypeId):kO:=match E.types.get t with
  | some { zero:=some z,.. }=>some (.val (.pointer (some ⟨H.next,0,none⟩)),H.new (.cells z t))
  | _=>none
def qWZ (E:Env) (fr:Fr) (H:AH) (t:TypeId) (x:Operand):kO:=match ev E fr x with
  | some (.tuple _)=>none
  | some v=>some (.val (.pointer (some ⟨H.next,0,none⟩)),H.new (.cells v.cells.toList t))
  | none=>none
def qQh (E:Env) (fr:Fr) (H:AH) (t:TypeId) (ps:Array (Nat × Operand)):kO:=match parts? E fr ps.toList with
  | some ps=>one H (iF E t ps)
  | none=>none
def qEB (E:Env) (fr:Fr) (H:AH) (t:TypeId) (n:Nat) (ps:Array (Nat × Operand)):kO:=match parts? E fr ps.toList with
  | some ps=>wV E H t n ps
  | none=>none
def qNA (E:Env) (fr:Fr) (H:AH) (t:TypeId) (m:Operand) (k:Operand) (x:Operand):kO:=match ev E fr m,ev E fr k,ev E fr x with
  | some m,some k,some v=>(oU E H t m k v).map fun H'=>(.skip,H')
  | _,_,_=>none
def qUi (E:Env) (fr:Fr) (H:AH) (t:TypeId) (a:Operand):kO:=match ev E fr a with
  | some v=>one H (pW E H t v)
  | none=>none
def qP8 (E:Env) (fr:Fr) (H:AH) (t:TypeId) (a:Operand) (x:Operand):kO:=match ev E fr a,ev E fr x with
  | some _,some (.tuple _)=>none
  | some a,some v=>(yQ E H t a v).map fun H'=>(.skip,H')
  | _,_=>none
def qQa (_E:Env) (_fr:Fr) (_H:AH) (_g:Nat):kO:=none
def qP7 (_E:Env) (_fr:Fr) (_H:AH) (_g:Nat):kO:=none
def qHS (E:Env) (fr:Fr) (H:AH) (x:Operand):kO:=match ev E fr x with
  | some (.pointer (some a))=>some (.val (.pointer (some a)),H)
  | some (.iface t v)=>some (.val (.iface t v),H)
  | some (.func (.func f) a b)=>some (.val (.func (.func f) a b),H)
  | some (.func (.yield f) a b)=>some (.val (.func (.yield f) a b),H)
  | _=>none
def qQi (E:Env) (fr:Fr) (H:AH) (op:BinOp) (t:TypeId) (x:Operand) (y:Operand) (_yt:TypeId):kO:=match ev E fr x,ev E fr y with
  | some a,some b=>one H (rG E op t x y a b)
  | _,_=>none
def qUc (E:Env) (fr:Fr) (H:AH) (op:UnOp) (_t:TypeId) (x:Operand):kO:=match ev E fr x with
  | some v=>bif zP v then one H (flat? (qW E.prog (Op.unary op v))) else none
  | none=>none
def qKQ (E:Env) (fr:Fr) (H:AH) (s:TypeId) (d:TypeId) (x:Operand):kO:=match ev E fr x with
  | some (.slice a n c)=>one H (m9 E H s d (.slice a n c) n)
  | some (.pointer (some a))=>uQ E H s d a
  | some (.string b)=>match E.types.get s,E.types.get d with
   | some { desc:=.string,.. },some { desc:=.slice e,.. }=>nI E H e b
   | _,_=>one H (flat? (qW E.prog (Go.convert s d (.string b))))
  | some v=>bif zP v then one H (flat? (qW E.prog (Go.convert s d v))) else none
  | none=>none
def cJ (_E:Env) (_fr:Fr) (_H:AH) (_t:TypeId) (_x:Operand):kO:=none
def qAz (E:Env) (fr:Fr) (H:AH) (t:TypeId) (x:Operand):kO:=match E.types.get t,ev E fr x with
  | some { desc:=.interface _,.. },_=>none
  | some _,some v=>one H (some (.iface t v))
  | _,_=>none
def qHU (E:Env) (fr:Fr) (H:AH) (fn:Fn) (first:Array Operand) (cap:Array Operand):kO:=match rJ E fr first.toList,rJ E fr cap.toList with
  | some f,some c=>one H (if pA fn then some (.func fn ⟨f⟩ ⟨c⟩) else none)
  | _,_=>none
def qKO (E:Env) (fr:Fr) (H:AH) (t:TypeId) (r:Option Operand):kO:=match r with
 | none=>some (.val (.map (some H.next)),H.new (.map [] 0))
 | some x=>match E.types.get t,ev E fr x with
  | some { desc:=.map _ _,.. },some (.int _ _)=>some (.val (.map (some H.next)),H.new (.map [] 0))
  | _,_=>none
def qHV (_E:Env) (_fr:Fr) (_H:AH) (_t:TypeId) (_x:Operand):kO:=none
def qGj (E:Env) (fr:Fr) (H:AH) (t:TypeId) (l:Operand) (c:Operand):kO:=match ev E fr l,ev E fr c with
  | some l,some c=>oJ E H t l c
  | _,_=>none
def qP9 (E:Env) (fr:Fr) (H:AH) (t:TypeId) (x:Operand) (lo:Option Operand) (hi:Option Operand) (mx:Option Operand):kO :=
  match ev E fr x,rJ E fr lo.toList,rJ E fr hi.toList,rJ E fr mx.toList with
  | some x,some lo,some hi,some mx=>one H (oE E H t x lo.head? hi.head? mx.head?)
  | _,_,_,_=>none
def qGl (E:Env) (fr:Fr) (H:AH) (s:TypeId) (x:Operand) (f:Nat):kO:=match ev E fr x with
  | some v=>one H (iA E s v f)
  | none=>none
def qQe (E:Env) (fr:Fr) (H:AH) (t:TypeId) (x:Operand) (f:Nat):kO:=match ev E fr x,E.types.get t with
  | some (.agg cs),some { desc:=.struct fs,.. }=>match fs[f]? with
   | some fd=>one H (eZ E fd.type cs.toList fd.offset)
   | none=>none
  | _,_=>none
def qGk (E:Env) (fr:Fr) (H:AH) (t:TypeId) (x:Operand) (i:Operand):kO:=match ev E fr x,(ev E fr i).bind nat? with
  | some v,some i=>one H (tM E t v i)
  | _,_=>none
def qQd (E:Env) (fr:Fr) (H:AH) (t:TypeId) (x:Operand) (i:Operand):kO:=match ev E fr x,(ev E fr i).bind nat?,E.types.get t with
  | some (.string s),some i,some { desc:=.string,.. }=>match s.data.toList[i]? with
   | some b=>one H (some (.int .u8 b.toNat))
   | none=>none
  | some (.agg cs),some i,some { desc:=.array len elem,.. }=>match E.types.get elem with
   | some e=>bif Nat.ble (i+1) len then one H (eZ E elem cs.toList (Nat.mul i e.size)) else none
   | none=>none
  | _,_,_=>none
def qNz (E:Env) (fr:Fr) (H:AH) (t:TypeId) (x:Operand) (k:Operand) (ok:Bool):kO:=match ev E fr x,ev E fr k with
  | some x,some k=>one H (oY E H t x k ok)
  | _,_=>none
def qGi (E:Env) (fr:Fr) (H:AH) (t:TypeId) (m:Operand) (k:Operand) (x:Operand):kO:=match ev E fr m,ev E fr k,ev E fr x with
  | some m,some k,some v=>(oU E H t m k v).map fun H'=>(.skip,H')
  | _,_,_=>none
def qHT (_E:Env) (_fr:Fr) (_H:AH) (_t:TypeId) (_m:Operand) (_k:Operand):kO:=none
def qEA (_E:Env) (_fr:Fr) (_H:AH) (_t:TypeId) (_m:Operand) (_s:Operand) (_x:Operand):kO:=none
def qQb (E:Env) (fr:Fr) (H:AH) (t:TypeId) (x:Operand):kO:=match ev E fr x,E.types.get t with
  | some (.string s),some { desc:=.string,.. }=>some (.val (.pointer (some ⟨H.next,0,none⟩)),H.new (.siter s 0))
  | some (.map (some m)),some { desc:=.map _ _,.. }=>match H.blocks.get m with
   | some ⟨.map _ clock,_,_⟩=>some (.val (.pointer (some ⟨H.next,0,none⟩)),H.new (.miter m clock [] clock))
   | _=>none
  | _,_=>none
def qUg (E:Env) (fr:Fr) (H:AH) (it:Operand) (str:Bool):kO:=match ev E fr it with
  | some v=>qAc H v str
  | none=>none
def qQf (E:Env) (fr:Fr) (H:AH) (it:Operand):kO:=match ev E fr it with
  | some v=>one H (qEE H v)
  | none=>none
def qEz (E:Env) (fr:Fr) (H:AH) (x:Operand) (_xt:TypeId) (asserted:TypeId) (ok:Bool):kO:=match ev E fr x,E.types.get asserted with
  | some v,some ti=>match rN E ti asserted v with
   | some (some u)=>one H (some (bif ok then .tuple #[u,.bool true] else u))
   | some none=>bif ok then one H (match ti.zero with
    | some z=>(nP ti.agg z).map fun zv=>.tuple #[zv,.bool false]
    | none=>none) else none
   | none=>none
  | _,_=>none
def qKP (E:Env) (fr:Fr) (H:AH) (x:Operand) (i:Nat):kO:=match ev E fr x with
  | some (.tuple vs)=>one H vs.toList[i]?
  | _=>none
def qUj (E:Env) (fr:Fr) (H:AH) (c:Call):kO:=gW E fr H c
def qYN (_E:Env) (_fr:Fr) (_H:AH) (_c:Call):kO:=none
def qQg (_E:Env) (_fr:Fr) (_H:AH) (_c:Call):kO:=none
def qQc (_E:Env) (_fr:Fr) (_H:AH) (_x:Operand):kO:=none
def qUd (_E:Env) (_fr:Fr) (_H:AH) (_c:Operand) (_x:Operand):kO:=none
def qUe (_E:Env) (_fr:Fr) (_H:AH) (_t:TypeId) (_c:Operand) (_ok:Bool):kO:=none
def qNy (_E:Env) (_fr:Fr) (_H:AH) (_cs:Array SelectCase) (_b:Bool):kO:=none
noncomputable def qUQ (E:Env) (fr:Fr) (o:Oper) (H:AH):kO:=Op.rec (motive:=fun _=>kO) (qUh E fr H) (qNB E fr H) (qUf E fr H) (qQj E fr H) (qWZ E fr H) (qQh E fr H) (qEB E fr H) (qNA E fr H) (qUi E fr H) (qP8 E fr H) (qQa E fr H) (qP7 E fr H) (qHS E fr H) (qQi E fr H) (qUc E fr H) (qKQ E fr H) (cJ E fr H) (qAz E fr H) (qHU E fr H) (qKO E fr H) (qHV E fr H) (qGj E fr H) (qP9 E fr H) (qGl E fr H) (qQe E fr H) (qGk E fr H) (qQd E fr H) (qNz E fr H) (qGi E fr H) (qHT E fr H) (qEA E fr H) (qQb E fr H) (qUg E fr H) (qQf E fr H) (qEz E fr H) (qKP E fr H) (qUj E fr H) (qYN E fr H) (qQg E fr H) (qQc E fr H) (qUd E fr H) (qUe E fr H) (qNy E fr H) o.op
theorem qQS (E:Env) (fr:Fr) (o:Oper) (H:AH):qUQ E fr o H=jH E fr o H:=by
 unfold jH qUQ
 cases o.op <;> first | rfl | (rename_i r; cases r <;> rfl)
end Go.Am
namespace Go.Am
open Go
def qVb (ih:Cmd->AH->j8) (rd:Bool) (a:AR) (H:AH):Option (Value × AH):=match a with
 | .val v=>some (v,H)
 | .skip=>some (.tuple #[],H)
 | .rcv=>bif rd then none else some (.nilIface,H)
 | .enter f args=>match ih (.call f args) H with
  | some (.val v,H')=>some (v,H')
  | _=>none
 | .round l args=>match ih (.round l args) H with
  | some (.val v,H')=>some (v,H')
  | _=>none
noncomputable def qNE (E:Env) (ih:Cmd->AH->j8) (fr:Fr) (o:Oper) (H:AH):Option (Value × AH) :=
 match qUQ E fr o H with
 | none=>none
 | some (a,H')=>qVb ih fr.rd a H'
theorem qND {E:Env} {ih:Cmd->AH->j8} {fr:Fr} {o:Oper} {H:AH}:qNE E ih fr o H=wT E ih fr o H:=by
 unfold qNE wT vS
 rw [qQS]
 cases h:jH E fr o H with
 | none=>rfl
 | some r =>
  obtain ⟨a,H'⟩:=r
  cases a <;> rfl
noncomputable def qIs (k:Fr->AH->Option (Fr × AH)) (fr:Fr) (dst:Option Tmp) (v:Value) (H:AH):Option (Fr × AH):=match dst with
 | some d=>bif Nat.ble (d+1) fr.sz then k ⟨fr.sz,fr.rd,fr.t.put d (some v)⟩ H else none
 | none=>k fr H
noncomputable def qVa (E:Env) (ih:Cmd->AH->j8) (k:Fr->AH->Option (Fr × AH)) (fr:Fr) (o:Oper) (H:AH):Option (Fr × AH):=match qNE E ih fr o H with
 | none=>none
 | some (v,H')=>qIs k fr o.dst v H'
noncomputable def qSX (E:Env) (ih:Cmd->AH->j8) (all:Array Oper) (k:Fr->AH->Option (Fr × AH)) (fr:Fr) (o:Oper) (H:AH):Option (Fr × AH):=match jL all fr o with
 | none=>none
 | some false=>qIs k fr o.dst (.tuple #[]) H
 | some true=>qVa E ih k fr o H
noncomputable def qEc (E:Env) (ih:Cmd->AH->j8) (all:Array Oper) (os:List Oper):Fr->AH->Option (Fr × AH) :=
 List.rec (motive:=fun _=>Fr->AH->Option (Fr × AH)) (fun fr H=>some (fr,H)) (fun o _ k fr H=>qSX E ih all k fr o H) os
theorem qEY {k:Fr->AH->Option (Fr × AH)} {fr:Fr} {dst:Option Tmp} {v:Value} {H:AH}:qIs k fr dst v H=(match yJ fr dst v with
  | some fr'=>k fr' H
  | none=>none):=by
 unfold qIs yJ
 cases dst with
 | none=>rfl
 | some d =>
  simp only
  cases Nat.ble (d+1) fr.sz <;> rfl
theorem qBk {E:Env} {ih:Cmd->AH->j8} {all:Array Oper} {ts:List (Nat × Nat)}:∀ (os:List Oper) (i:Nat) (fr:Fr) (H:AH),qEc E ih all os fr H=zK E ih all false ts os i fr H
 | [],i,fr,H=>rfl
 | o::os,i,fr,H=>by
  have ih':=qBk (E:=E) (ih:=ih) (all:=all) (ts:=ts) os (i+1)
  show qSX E ih all (qEc E ih all os) fr o H=_
  unfold zK qSX qVa
  cases jL all fr o with
  | none=>rfl
  | some b =>
   cases b with
   | false =>
    simp only [qEY]
    cases yJ fr o.dst (.tuple #[]) with
    | none=>rfl
    | some fr'=>exact ih' fr' H
   | true =>
    simp only [cond_false,qND]
    cases wT E ih fr o H with
    | none=>rfl
    | some r =>
     obtain ⟨v,H'⟩:=r
     simp only [qEY]
     cases yJ fr o.dst v with
     | none=>rfl
     | some fr'=>exact ih' fr' H'
end Go.Am
namespace Go.Am
open Go
def qQ2 (r:Option (Fr × AH)) (k:Unit->j8):j8:=match r with
 | some (fr,H)=>some (.ex .normal fr,H)
 | none=>k ()
def qOv (E:Env) (ih:Cmd->AH->j8) (ops:Array Oper) (fr:Fr) (H:AH):j8 :=
 match zK E ih ops false [] ops.toList 0 fr H with
 | some (fr1,_)=>match zK E ih ops true (rR fr1 ops.toList 0) ops.toList 0 fr H with
  | some (fr',H')=>some (.ex .normal fr',H')
  | none=>match zK E ih ops true (kS fr1 ops.toList 0) ops.toList 0 fr H with
   | some (fr',H')=>some (.ex .normal fr',H')
   | none=>none
 | none=>none
noncomputable def qAZ (E:Env) (ih:Cmd->AH->j8) (ops:Array Oper) (draw:Bool) (fr:Fr) (H:AH):j8 :=
 cond draw (qQ2 (zK E ih ops true (wS fr ops.toList ops.toList 0) ops.toList 0 fr H) fun _=>qOv E ih ops fr H)
  (qQ2 (qEc E ih ops ops.toList fr H) fun _=>none)
def qLq (ih:Cmd->AH->j8) (b:Code) (e:AExit) (fr:Fr) (H:AH):j8:=match e with
 | .normal=>ih (.code b fr) H
 | e=>some (.ex e fr,H)
def qOu (k:AExit->Fr->AH->j8) (r:j8):j8:=match r with
 | some (.ex e fr,H)=>k e fr H
 | r=>r
def qIr (ih:Cmd->AH->j8) (a b:Code) (fr:Fr) (H:AH):j8:=qOu (qLq ih b) (ih (.code a fr) H)
def qXW (ih:Cmd->AH->j8) (a b:Code) (fr:Fr) (H:AH) (t:Bool):j8:=cond t (ih (.code a fr) H) (ih (.code b fr) H)
def qG1 (E:Env) (ih:Cmd->AH->j8) (c:Operand) (a b:Code) (fr:Fr) (H:AH):j8:=match ev E fr c with
 | some (.bool t)=>qXW ih a b fr H t
 | _=>none
def qQ4 (id:Nat) (e:AExit) (fr:Fr) (H:AH):j8:=match e with
 | .exit id'=>bif Nat.beq id' id then some (.ex .normal fr,H) else some (.ex (.exit id') fr,H)
 | e=>some (.ex e fr,H)
def qDV (ih:Cmd->AH->j8) (id:Nat) (b:Code) (fr:Fr) (H:AH):j8:=qOu (qQ4 id) (ih (.code b fr) H)
def qQ1 (E:Env) (rs:List ResultVar) (fr:Fr) (H:AH):j8:=match vL E fr H rs with
 | some [v]=>some (.val v,H)
 | some vs=>some (.val (.tuple ⟨vs⟩),H)
 | none=>none
def qQ3 (E:Env) (fn:Func) (fr:Fr) (H:AH) (e:AExit):j8:=match e with
 | .exit _=>none
 | _=>qQ1 E fn.results.toList fr H
def qLs (E:Env) (ih:Cmd->AH->j8) (fn:Func) (c:Code) (args:List Value) (H:AH) (r:j8):j8:=match r with
 | some (.ex e fr',H')=>qQ3 E fn fr' H' e
 | none=>uE E ih fn.results.toList c ⟨Nat.max fn.ntmps args.length,false,T.ofList .leaf 0 args⟩ H
 | _=>none
def qU9 (E:Env) (ih:Cmd->AH->j8) (fn:Func) (args:List Value) (H:AH) (c:Code):j8 :=
 qLs E ih fn c args H (ih (.code c ⟨Nat.max fn.ntmps args.length,false,T.ofList .leaf 0 args⟩) H)
def qG2 (E:Env) (ih:Cmd->AH->j8) (f:FuncId) (args:List Value) (H:AH):j8:=match E.funcs.get f with
 | some fn=>match fn.body with
  | some c=>qU9 E ih fn args H c
  | none=>none
 | none=>none
noncomputable def qLr (E:Env) (ih:Cmd->AH->j8) (c:Code) (fr:Fr) (H:AH):j8 :=
 Code.rec (motive:=fun _=>j8) (some (.ex .normal fr,H)) (fun _ ops draw=>qAZ E ih ops draw fr H) (fun a b _ _=>qIr ih a b fr H) (fun c a b _ _=>qG1 E ih c a b fr H)
  (fun id b _=>qDV ih id b fr H) (fun b _=>qIr ih b (.loop b) fr H) (fun f ps a b _ _=>cX E ih fr f ps.toList a b H) (fun id=>some (.ex (.exit id) fr,H)) (fun b _=>ih (.code b fr) H)
  (fun _=>some (.ex .normal fr,H)) (fun _=>none) (some (.ex .ret fr,H)) (fun _=>none) c
noncomputable def qN7 (E:Env) (ih:Cmd->AH->j8) (cmd:Cmd) (H:AH):j8 :=
 Cmd.rec (motive:=fun _=>j8) (fun c fr=>qLr E ih c fr H) (fun f args=>qG2 E ih f args H) (fun l args=>kT E ih l args H) cmd
noncomputable def qMj (E:Env) (n:Nat):Cmd->AH->j8 :=
 Nat.rec (motive:=fun _=>Cmd->AH->j8) (fun _ _=>none) (fun _ ih=>qN7 E ih) n
theorem qEX {ih:Cmd->AH->j8} {a b:Code} {fr:Fr} {H:AH}:qIr ih a b fr H=(match ih (.code a fr) H with
   | some (.ex .normal fr',H')=>ih (.code b fr') H'
   | r=>r):=by
 unfold qIr qOu qLq
 cases ih (.code a fr) H with
 | none=>rfl
 | some r =>
  obtain ⟨o,H'⟩:=r
  cases o with
  | ex e fr'=>cases e <;> rfl
  | val v=>rfl
theorem qN6 {E:Env} {ih:Cmd->AH->j8} {cmd:Cmd} {H:AH}:qN7 E ih cmd H=body E ih cmd H:=by
 cases cmd with
 | code c fr =>
  show qLr E ih c fr H=_
  cases c with
  | seq a b=>exact qEX
  | loop b=>exact qEX
  | region id ops draw =>
   show qAZ E ih ops draw fr H=_
   unfold qAZ
   cases draw with
   | true =>
    simp only [cond_true,body]
    cases zK E ih ops true (wS fr ops.toList ops.toList 0) ops.toList 0 fr H <;> rfl
   | false =>
    simp only [cond_false,body,qBk (ts:=[]) ops.toList 0]
    cases zK E ih ops false [] ops.toList 0 fr H <;> rfl
  | cond c a b =>
   show qG1 E ih c a b fr H=_
   unfold qG1
   simp only [body]
   cases ev E fr c with
   | none=>rfl
   | some v=>cases v <;> first | rfl | (rename_i t; cases t <;> rfl)
  | block id b =>
   show qDV ih id b fr H=_
   unfold qDV qOu qQ4
   simp only [body]
   cases ih (.code b fr) H with
   | none=>rfl
   | some r =>
    obtain ⟨o,H'⟩:=r
    cases o with
    | ex e fr'=>cases e <;> rfl
    | val v=>rfl
  | _=>rfl
 | call f args =>
  show qG2 E ih f args H=_
  unfold qG2 qU9 qLs qQ3 qQ1
  simp only [body]
  cases E.funcs.get f with
  | none=>rfl
  | some fn =>
   simp only
   cases fn.body with
   | none=>rfl
   | some c =>
    simp only
    cases ih (.code c ⟨Nat.max fn.ntmps args.length,false,T.ofList .leaf 0 args⟩) H with
    | none=>rfl
    | some r =>
     obtain ⟨o,H'⟩:=r
     cases o with
     | ex e fr'=>cases e <;> rfl
     | val v=>rfl
 | round l args=>rfl
theorem qIJ {E:Env}:∀ n,qMj E n=qO0 E n
 | 0=>rfl
 | n+1=>by
  have ih:=qIJ (E:=E) n
  funext cmd H
  show qN7 E (qMj E n) cmd H=body E (qO0 E n) cmd H
  rw [ih,qN6]
end Go.Am
namespace Go.Am
open Go
noncomputable def cA {α:Type} (d:Nat):(Nat->Option α)->T α :=
 Nat.rec (motive:=fun _=>(Nat->Option α)->T α) (fun _=>.leaf) (fun _ ih g=>.node (g 0) (ih fun m=>g (Nat.succ (Nat.mul 2 m))) (ih fun m=>g (Nat.succ (Nat.succ (Nat.mul 2 m))))) d
theorem oN {α:Type}:∀ (d:Nat) (g:Nat->Option α) (n:Nat) (x:α),(cA d g).get n=some x->g n=some x
 | 0,g,n,x,h=>by simp [cA,T.get] at h
 | d+1,g,n,x,h=>by
  have e:(cA (d+1) g)=.node (g 0) (cA d fun m=>g (Nat.succ (Nat.mul 2 m))) (cA d fun m=>g (Nat.succ (Nat.succ (Nat.mul 2 m)))):=rfl
  rw [e,T.get_node] at h
  split at h
  ·rename_i h0; subst h0; exact h
  split at h
  ·have h:=oN d _ _ _ h
   have e2:Nat.succ (Nat.mul 2 (n / 2))=n:=by show 2 * (n / 2)+1=n; omega
   rwa [e2] at h
  have h:=oN d _ _ _ h
  have e2:Nat.succ (Nat.succ (Nat.mul 2 (n / 2 - 1)))=n:=by show 2 * (n / 2 - 1)+2=n; omega
  rwa [e2] at h
theorem tJ {α:Type}:∀ (d:Nat) (g:Nat->Option α) (n:Nat),n+1 < 2 ^ d->(cA d g).get n=g n
 | 0,g,n,h=>by simp at h
 | d+1,g,n,h=>by
  have e:(cA (d+1) g)=.node (g 0) (cA d fun m=>g (Nat.succ (Nat.mul 2 m))) (cA d fun m=>g (Nat.succ (Nat.succ (Nat.mul 2 m)))):=rfl
  rw [e,T.get_node]
  rw [Nat.pow_succ] at h
  split
  ·rename_i h0; rw [h0]
  split
  ·rw [tJ d _ _ (by omega)]
   congr 1; show 2 * (n / 2)+1=n; omega
  rw [tJ d _ _ (by omega)]
  congr 1; show 2 * (n / 2 - 1)+2=n; omega
noncomputable def qNo (P:Program) (n:Nat):Option Func:=match P.funcs.toList[n]? with
 | some f=>match f.body with
  | some _=>some f
  | none=>none
 | none=>none
noncomputable def qG4 (P:Program) (n:Nat):Option TI:=match P.types.toList[n]?,P.underlying n with
 | some i,some d=>some (qD7 i d)
 | _,_=>none
noncomputable def qKV (P:Program):Env:={ prog:=P,ng:=P.globals.size,funcs:=cA 12 (qNo P),types:=cA 12 (qG4 P) }
def nX (P:Program):Bool:=Nat.ble P.types.size 4000 && P.funcs.toList.all fun f=>match f.body with
 | some c => !(f.name == "runtime.NumGoroutine") && zT c
 | none=>true
theorem qC6 {P:Program} {t:Nat} {ti:TI} (h:qG4 P t=some ti):∃ i d,P.types[t]? = some i/\P.underlying t=some d/\ti=qD7 i d:=by
 unfold qG4 at h
 split at h
 ·rename_i i d h1 h2; cases h; exact ⟨i,d,by simpa using h1,h2,rfl⟩
 cases h
theorem qDw {P:Program} {f:Nat} {fn:Func} (h:qNo P f=some fn):P.funcs[f]? = some fn/\fn.body.isSome=true:=by
 unfold qNo at h
 split at h
 ·rename_i g h1
  split at h
  ·rename_i c hc; cases h; exact ⟨by simpa using h1,by rw [hc]; rfl⟩
  cases h
 cases h
theorem qQp {P : Program} (h : bO P = true) (hr : nX P = true) : EOk (qKV P) where
  types t ti ht := by
    obtain ⟨i, d, g2', g3, rfl⟩ := qC6 (oN 12 (qG4 P) t ti ht)
    have hlt := (Array.getElem?_eq_some_iff.1 g2').1
    have hi : P.info? t = some i := by
      show Tables.info? P.toTables t = some i
      unfold Tables.info?
      rw [if_pos hlt]; exact g2'
    refine ⟨i, hi, g3, rfl, rfl, ?_, rfl⟩
    intro z hz
    simp only [qD7] at hz
    split at hz
    · rename_i v hv
      cases hzo : qAY (qOf d) i.size v with
      | false => rw [hzo] at hz; cases hz
      | true =>
        rw [hzo] at hz
        cases hz
        obtain ⟨a1, a2, a3, a4, a5⟩ := qAX hzo
        exact ⟨v, hv, a1, rfl, a2, a3, a4, a5⟩
    · cases hz
  funcs f fn hf := by
    obtain ⟨g1, g2⟩ := qDw (oN 12 (qNo P) f fn hf)
    refine ⟨g1, g2, ?_⟩
    simp only [nX, aE, List.all_eq_true] at hr
    have := hr.2 fn (Array.mem_toList_iff.2 (Array.mem_of_getElem? g1))
    obtain ⟨c, hc⟩ := Option.isSome_iff_exists.1 g2
    rw [hc] at this
    simp only [aE, Bool.not_eq_true', beq_eq_false_iff_ne, ne_eq] at this
    exact this.1
  codes f fn c hf hc := by
    obtain ⟨g1, g2⟩ := qDw (oN 12 (qNo P) f fn hf)
    simp only [nX, aE, List.all_eq_true] at hr
    have := hr.2 fn (Array.mem_toList_iff.2 (Array.mem_of_getElem? g1))
    rw [hc] at this
    simp only [aE] at this
    exact this.2
  mixed := by
    simp only [bO, aE] at h
    exact h.1
  ng := rfl
  fields t ti fs ht hd f hf := by
    obtain ⟨i, d, g2', g3, rfl⟩ := qC6 (oN 12 (qG4 P) t ti ht)
    simp only [bO, aE] at h
    simp only [qD7] at hd
    have hlt := (Array.getElem?_eq_some_iff.1 g2').1
    obtain ⟨fi, hfi⟩ := hZ _ _ h.2 t fs (Nat.zero_le _) (by simpa using hlt) (by rw [g3, hd]) f hf
    rcases dU _ _ _ _ _ hfi with g | ⟨i', d', q1, q2, q3, rfl⟩
    · simp [T.get] at g
    · have q2' : P.types[f.type]? = some i' := by simpa using q2
      have qlt := (Array.getElem?_eq_some_iff.1 q2').1
      simp only [nX, aE] at hr
      have hb := lB hr.1
      refine ⟨qD7 i' d', ?_⟩
      show (cA 12 (qG4 P)).get f.type = _
      rw [tJ 12 _ _ (by rw [show (2:Nat)^12=4096 from by decide]; omega)]
      unfold qG4
      rw [q3]
      have : P.types.toList[f.type]? = some i' := by simpa using q2'
      rw [this]
section
variable {E:Env} {σ σ':zZ} {H H':AH} {w w':World}
theorem Step.cut {H1:AH} (hr:HR E σ H w) (hb:∀ b k,H1.blocks.get b=some k->H.blocks.get b=some k) (hn:H1.next=H.next) (hl:H1.low=0):Step E σ H w σ H1 w where
 hr:=⟨fun b k L h1 h2=>hr.objs b k L (hb b k h1) h2,fun b₁ b₂ k₁ k₂ L₁ L₂ h1 h2=>hr.sep b₁ b₂ k₁ k₂ L₁ L₂ (hb _ _ h1) (hb _ _ h2),hr.glob,fun b k h1=>by rw [hn]; exact hr.wf b k (hb b k h1)⟩
 next:=by rw [hn]; exact lR _
 ext _ _:=rfl
 size:=lR _
 low:=by rw [hl]; exact Nat.zero_le _
 tape:=rfl
 os:=rfl
 output:=⟨rfl,fun _=>lR _⟩
 frame _ _ _:=rfl
 origin b k L h1 h2 h3:=.inr ⟨b,k,L,hb b k h1,h2,h3,rfl,rfl⟩
 old b k h1 _:=⟨k,hb b k h1,rfl,rfl⟩
 keep b k _ h2:=by rw [hl] at h2; exact absurd h2 (Nat.not_lt_zero _)
 born b k h1 h2:=absurd (hr.wf b k (hb b k h1)).2 (Nat.not_lt.2 h2)
theorem kI.cut {c:Code} {fr1 fr2 fr':Fr} {e:AExit} {H1 H2:AH} (h:kI E c fr2 H2 e fr' H') (hb:∀ b k,H2.blocks.get b=some k->H1.blocks.get b=some k) (hn:H2.next=H1.next) (hl:H2.low=0)
  (hs:fr2.sz=fr1.sz) (hd:fr2.rd=fr1.rd) (ht:∀ t v,fr2.t.get t=some v->fr1.t.get t=some v):kI E c fr1 H1 e fr' H':=by
 intro hr0 σ w tmps n0 B0 hr hf hfree hn0 b ds k cs hk hro hds
 have s1:=Step.cut hr hb hn hl
 obtain ⟨σ',w',tmps',ds',s2,f2,rd2,d2,e2⟩:=h hr0 σ w tmps n0 B0 s1.hr ⟨by rw [hs]; exact hf.1,fun t v hv=>hf.2 t v (ht t v hv)⟩ (by rw [hn]; exact hfree) hn0 b ds k cs hk (by rw [hd]; exact hro) (hds.step hr s1)
 exact ⟨σ',w',tmps',ds',s1.trans s2,f2,by rw [rd2,hd],d2,e2⟩
def qM9 (E:Env) (rs:List ResultVar):j8->Bool
 | some (.ex .ret fr,H)=>match vL E fr H rs with
  | some [.bool true]=>true
  | _=>false
 | _=>false
theorem qPM (he:EOk E) {n:Nat} {rs:List ResultVar} {c:Code} {fr:Fr} (h:qM9 E rs (qMj E n (.code c fr) H)=true) :
  ∃ fr2 H2,kI E c fr H .ret fr2 H2/\H.next<=H2.next/\vL E fr2 H2 rs=some [.bool true]:=by
 generalize hx:qMj E n (.code c fr) H=r at h
 rw [qIJ] at hx
 unfold qM9 at h
 split at h
 ·rename_i fr2 H2
  split at h
  ·rename_i hr
   have io:=qIL he n
   exact ⟨fr2,H2,io.code _ _ _ _ _ _ hx,io.up _ _ _ _ hx,hr⟩
  cases h
 cases h
open Classical in
noncomputable def qAg (c:Code) (fr:Fr) (H:AH) (e:AExit) (fr':Fr) (H':AH):Cmd->AH->j8:=fun cmd X=>if cmd=.code c fr/\X=H then some (.ex e fr',H') else none
theorem qNd {c:Code} {fr fr':Fr} {e:AExit} (h:kI E c fr H e fr' H') (hn:H.next<=H'.next):IhOK E (qAg c fr H e fr' H') where
 up cmd X out X' hx:=by
  unfold qAg at hx; split at hx
  ·rename_i hh; cases hx; rw [hh.2]; exact hn
  cases hx
 call f args X v X' hx:=by
  unfold qAg at hx; split at hx
  ·rename_i hh; exact absurd hh.1 (by simp)
  cases hx
 round l args X v X' hx:=by
  unfold qAg at hx; split at hx
  ·rename_i hh; exact absurd hh.1 (by simp)
  cases hx
 code c' fr0 X e' fr1 X' hx:=by
  unfold qAg at hx; split at hx
  ·rename_i hh; obtain ⟨h1,h2⟩:=hh; cases h1; cases h2; cases hx; exact h
  cases hx
 codev c' fr0 X v X' hx:=by
  unfold qAg at hx; split at hx
  ·cases hx
  cases hx
theorem qHo (he:EOk E) {f:FuncId} {fn:Func} {c:Code} (hf:E.funcs.get f=some fn) (hc:fn.body=some c) {fr2:Fr} {H2:AH}
  (h:kI E c ⟨Nat.max fn.ntmps 0,false,.leaf⟩ H .ret fr2 H2) (hn:H.next<=H2.next) (hr:vL E fr2 H2 fn.results.toList=some [.bool true]):xB E f [] H (.bool true) H2:=by
 have hb:body E (qAg c ⟨Nat.max fn.ntmps 0,false,.leaf⟩ H .ret fr2 H2) (.call f []) H=some (.val (.bool true),H2):=by
  have hi:qAg c ⟨Nat.max fn.ntmps 0,false,.leaf⟩ H .ret fr2 H2 (.code c ⟨Nat.max fn.ntmps 0,false,.leaf⟩) H=some (.ex .ret fr2,H2):=if_pos ⟨rfl,rfl⟩
  simp only [body,hf,hc,List.length_nil,T.ofList,hi,hr]
 obtain ⟨v,hv,hcall⟩:=qJH he (qNd h hn) hb
 cases hv
 exact hcall
theorem qGz {P:Program} (hE:E.prog=P) (hLd:E.laid=[]) {f:FuncId} {m:Nat} {H':AH} (hm:Nat.ble P.globals.size m=true) (hc:xB E f [] (qAh m) (.bool true) H') (w:World) :
  Calls P f #[] w fun e w'=>e=.returned (.bool true)/\KeptD w w':=by
 subst hE
 have hm':E.prog.globals.size<=m:=lB hm
 let σ:zZ:=fun b=>if b < E.prog.globals.size then some ⟨b,0,0,0⟩ else none
 have h0:HR E σ (qAh m) w:=⟨fun b k L hb=>by simp [qAh,T.get] at hb,fun b₁ b₂ k₁ k₂ L₁ L₂ hb=>by simp [qAh,T.get] at hb,
  fun g hg=>⟨⟨g,0,0,0⟩,if_pos hg,rfl,rfl⟩,fun b k hb=>by simp [qAh,T.get] at hb⟩
 have hfree:wZ σ (qAh m).next H'.next:=fun b h1 h2=>by
  have:m<=b:=h1
  simp only [σ]; rw [if_neg (by omega)]
 have hcall:=hc σ w [] h0 .nil hfree
 intro cs
 obtain ⟨e,w',fr,⟨σ',v',g1,g2,g3⟩,g4,g5,g6⟩:=hcall cs
 refine ⟨e,w',fr,⟨?_,g3.size,fun B hB=>g3.frame B hB fun b k L hb=>by simp [qAh,T.get] at hb,g3.tape,g3.os,g3.output.1,g3.output.2 hLd⟩,g4,g5,g6⟩
 rw [g1,sT g2]
end
end Go.Am
