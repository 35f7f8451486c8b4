/- Shapes of data, and their equality. Conditions: none. -/
import Derived.Test.YthhlmoidofecpaaGreatSx4
import Derived.Test.YthhlmoidofecpaaGreatSx7
set_option linter.unusedVariables false
set_option linter.unusedSimpArgs false
namespace Go.Am
open Go
inductive Sh where
 | int (k:IntKind)
 | bool
 | str
 | st (fs:List Sh)
 | sl (el sz:Nat) (e:Sh)
mutual
def xO:Sh->D->Prop
 | .int k,d=>∃ n,d=.leaf (.int k n)
 | .bool,d=>∃ b,d=.leaf (.bool b)
 | .str,d=>∃ s,d=.leaf (.string s)
 | .st fs,d=>∃ cs,d=.agg cs/\vS fs cs
 | .sl el sz e,d=>d=.nil∨∃ es,d=.sl el sz es/\es.length < zG/\∀ x∈es,xO e x
def vS:List Sh->List D->Prop
 | [],l=>l=[]
 | s::ss,l=>∃ d ds,l=d::ds/\xO s d/\vS ss ds
end
def qOO:Value->Value->Bool
 | .int _ a,.int _ b=>decide (a=b)
 | .bool a,.bool b=>decide (a=b)
 | .string a,.string b=>a == b
 | _,_=>false
mutual
def qSl:D->D->Bool
 | .leaf a,.leaf b=>qOO a b
 | .agg azq,.agg bs=>hD azq bs
 | .nil,b=>match b with
  | .nil=>true
  | .sl _ _ bs=>bs.isEmpty
  | _=>false
 | .sl _ _ azq,b=>match b with
  | .nil=>azq.isEmpty
  | .sl _ _ bs=>hD azq bs
  | _=>false
 | _,_=>false
def hD:List D->List D->Bool
 | [],[]=>true
 | a::azq,b::bs=>qSl a b && hD azq bs
 | _,_=>false
end
theorem vM {α β:Type} (P:Program) (x:Sem α) (f:α->Sem β):qW P (x >>= f)=(qW P x).bind fun a=>qW P (f a):=by
 show qW P (x.bind f)=_
 induction x with
 | pure a=>rfl
 | program k ih=>exact ih P
 | mark m k ih=>exact ih
 | _=>rfl
theorem yH (P:Program):qW P program=some P:=rfl
theorem vC {α:Type} (P:Program) (a:α):qW P (pure a)=some a:=rfl
inductive VSh:Sh->Value->Prop
 | int {k:IntKind} {n:Int}:VSh (.int k) (.int k n)
 | bool {b:Bool}:VSh .bool (.bool b)
 | str {s:ByteArray}:VSh .str (.string s)
def qJD:TypeDesc->Option Sh
 | .bool=>some .bool
 | .int k=>some (.int k)
 | .string=>some .str
 | _=>none
def qKv (P:Program) (rec:TypeId->Option (List Sh)):List Field->List Sh->Option (List Sh)
 | [],acc=>some acc
 | f :: r, acc => bif f.name == "_" || !(Nat.beq f.offset acc.length) then none else match rec f.type, P.info? f.type with
  | some s,some i=>bif Nat.beq i.size s.length then qKv P rec r (acc++s) else none
  | _,_=>none
def cH (P:Program):Nat->TypeId->Option (List Sh)
 | 0,_=>none
 | n+1,t=>match P.underlying t with
  | some (.struct fs)=>bif P.stoodInHeld t then none else qKv P (cH P n) fs.toList []
  | some d=>match qJD d with
   | some s=>some [s]
   | none=>none
  | none=>none
def rV (P:Program) (t:TypeId):Bool:=match P.underlying t with
 | some (.struct _)=>true
 | _=>false
def qLd (st:Bool) (vs:List Value):Value:=bif st then .agg ⟨vs⟩ else vs.headD (.bool false)
def nF:List Value->List Value->Bool
 | [],[]=>true
 | a::azq,b::bs=>qOO a b && nF azq bs
 | _,_=>false
inductive VShs:List Sh->List Value->Prop
 | nil:VShs [] []
 | cons {s:Sh} {v:Value} {ss:List Sh} {vs:List Value} (h:VSh s v) (hs:VShs ss vs):VShs (s::ss) (v::vs)
theorem VShs.length:∀ {ss:List Sh} {vs:List Value},VShs ss vs->vs.length=ss.length
 | _,_,.nil=>rfl
 | _,_,.cons _ h=>by simp [VShs.length h]
theorem VShs.split:∀ {a b:List Sh} {vs:List Value},VShs (a++b) vs->∃ x y,vs=x++y/\VShs a x/\VShs b y
 | [],_,vs,h=>⟨[],vs,rfl,.nil,h⟩
 | s::a,b,_,.cons h hs=>by
  obtain ⟨x,y,rfl,h1,h2⟩:=VShs.split (a:=a) hs
  exact ⟨_::x,y,rfl,.cons h h1,h2⟩
theorem qCV:∀ {a b c d:List Value},a.length=c.length->nF (a++b) (c++d)=(nF a c && nF b d)
 | [],b,[],d,_=>by simp [nF]
 | x::a,b,y::c,d,h=>by
  simp only [List.cons_append,nF,qCV (show a.length=c.length by simpa using h),Bool.and_assoc]
 | [],_,_::_,_,h=>by simp at h
 | _::_,_,[],_,h=>by simp at h
theorem tO {P:Program} {t:TypeId} {d:TypeDesc} (h:P.underlying t=some d):qW P (underlying t)=some d:=by
 unfold underlying
 simp only [vM,yH,Option.bind_some,h,vC]
theorem qHp {P:Program} {t:TypeId} {i:TypeInfo} (h:P.info? t=some i):qW P (sizeOf t)=some i.size:=by
 unfold sizeOf typeInfo
 simp only [vM,yH,Option.bind_some,h,vC]
theorem qJk {P:Program} {n:Nat} {t:TypeId} {s:List Sh} (h:cH P n t=some s):qW P (isAgg t)=some (rV P t)/\(rV P t=false->s.length=1):=by
 cases n with
 | zero=>cases h
 | succ n =>
  simp only [cH] at h
  unfold isAgg
  cases hu:P.underlying t with
  | none=>rw [hu] at h; cases h
  | some d =>
   simp only [vM,tO hu,Option.bind_some,rV,hu]
   rw [hu] at h
   cases d <;> simp only [qJD] at h <;> first | (cases h; done) | skip
   all_goals first
    | exact ⟨rfl,fun (e:true=false)=>Bool.noConfusion e⟩
    | (cases h; exact ⟨rfl,fun _=>rfl⟩)
    | (simp only [oI] at h; subst h; exact ⟨rfl,fun _=>rfl⟩)
theorem qBg {P:Program} {n:Nat} {t:TypeId} {s:List Sh} {i:TypeInfo} (h:cH P n t=some s) (hi:P.info? t=some i) (hs:i.size=s.length) (a x b:List Value) (hx:x.length=s.length) :
  qW P (part t ⟨a++(x++b)⟩ a.length)=some (qLd (rV P t) x):=by
 obtain ⟨h1,h2⟩:=qJk h
 unfold part
 simp only [vM,h1,Option.bind_some]
 cases hst:rV P t with
 | true =>
  simp only [if_true,vM,qHp hi,Option.bind_some,vC,qLd,cond_true]
  congr 2
  apply Array.ext'
  simp [List.extract_eq_take_drop,hs,← hx]
 | false =>
  have hl:=h2 hst
  rw [hl] at hx
  match x,hx with
  | [v],_=>simp [qLd,vC]
theorem qGS {P:Program} {n d:Nat} (ih:∀ t s,cH P n t=some s->∀ us vs:List Value,VShs s us->VShs s vs->qW P (Op.equalIn d t (qLd (rV P t) us) (qLd (rV P t) vs))=some (nF us vs)) :
  ∀ (fl:List Field) (acc s:List Sh),qKv P (cH P n) fl acc=some s->∃ rest,s=acc++rest/\∀ (ua va ru rv:List Value),ua.length=acc.length->va.length=acc.length->VShs rest ru->VShs rest rv ->
   qW P (forIn fl ((none,()):Option Bool × Unit) fun f __s =>
      if f.name ≠ "_" then do
       let __do_lift ← part f.type { toList:=ua++ru } f.offset
       let __do_lift_1 ← part f.type { toList:=va++rv } f.offset
       let __do_lift ← Op.equalIn d f.type __do_lift __do_lift_1
       if (!__do_lift)=true then pure (ForInStep.done (some false,())) else pure (ForInStep.yield (none,()))
      else pure (ForInStep.yield (none,())))=some (if nF ru rv=true then (none,()) else (some false,()))
 | [],acc,s,h=>by
  simp only [qKv,oI] at h
  subst h
  refine ⟨[],by simp,?_⟩
  intro ua va ru rv _ _ h1 h2
  cases h1; cases h2
  simp [nF,vC]
 | f::r,acc,s,h=>by
  simp only [qKv] at h
  cases hc : (f.name == "_" || !(Nat.beq f.offset acc.length)) with
  | true=>rw [hc] at h; cases h
  | false =>
   rw [hc] at h
   simp only [cond_false] at h
   simp only [Bool.or_eq_false_iff,Bool.not_eq_false',beq_eq_false_iff_ne,ne_eq] at hc
   have hoff:=vU hc.2
   split at h
   case h_2=>cases h
   rename_i s1 i hs1 hi
   simp only [qV] at h
   split at h
   case isFalse=>cases h
   rename_i hsz
   obtain ⟨rest,rfl,hr⟩:=qGS ih r (acc++s1) s h
   refine ⟨s1++rest,by simp,?_⟩
   intro ua va ru rv hua hva h1 h2
   obtain ⟨x,xr,rfl,x1,x2⟩:=h1.split
   obtain ⟨y,yr,rfl,y1,y2⟩:=h2.split
   have hp1:=qBg hs1 hi hsz ua x xr x1.length
   have hp2:=qBg hs1 hi hsz va y yr y1.length
   rw [hua,← hoff] at hp1
   rw [hva,← hoff] at hp2
   have heq:=ih _ _ hs1 x y x1 y1
   have hr':=hr (ua++x) (va++y) xr yr (by simp [hua,x1.length]) (by simp [hva,y1.length]) x2 y2
   simp only [List.append_assoc] at hr'
   rw [qCV (by rw [x1.length,y1.length])]
   simp only [List.forIn_cons,ne_eq,hc.1,not_false_eq_true,if_true,vM,hp1,hp2,heq,Option.bind_some]
   cases hv:nF x y with
   | true =>
    simp only [Bool.not_true,Bool.false_eq_true,if_false,vC,Option.bind_some,Bool.true_and]
    exact hr'
   | false=>simp [vC]
theorem qSc {P:Program}:∀ (n t:Nat) (s:List Sh),cH P n t=some s->∀ (d:Nat),n<=d->∀ us vs:List Value,VShs s us->VShs s vs->qW P (Op.equalIn d t (qLd (rV P t) us) (qLd (rV P t) vs))=some (nF us vs):=by
 intro n
 induction n with
 | zero=>intro t s h; cases h
 | succ n ih =>
  intro t s h d hd us vs hu hv
  obtain ⟨d,rfl⟩:∃ d',d=d'+1:=⟨d - 1,by omega⟩
  simp only [cH] at h
  rw [Op.equalIn]
  split at h
  ·rename_i fs hund
   have hst:rV P t=true:=by simp only [rV,hund]
   cases hh:P.stoodInHeld t with
   | true=>rw [hh] at h; cases h
   | false =>
    rw [hh] at h
    simp only [cond_false] at h
    simp only [vM,tO hund,Option.bind_some,hst,qLd,cond_true,yH,hh,Bool.false_eq_true,if_false,← Array.forIn_toList]
    generalize fs.toList=fl at h
    obtain ⟨rest,hs,hr⟩:=qGS (d:=d) (fun t s h us vs hu hv=>ih t s h d (by omega) us vs hu hv) fl [] s h
    simp only [List.nil_append] at hs
    subst hs
    have:=hr [] [] us vs rfl rfl hu hv
    simp only [List.nil_append] at this
    rw [this]
    cases nF us vs <;> simp [vC]
  ·rename_i dd hne hund
   split at h
   case h_2=>cases h
   rename_i s1 hs1
   cases h
   have hst:rV P t=false:=by
    unfold rV
    rw [hund]
    split
    ·rename_i fs e; cases e; exact absurd rfl (hne _)
    rfl
   simp only [vM,tO hund,Option.bind_some,hst,qLd,cond_false]
   cases hu with
   | cons h1 h2=>cases h2; cases hv with
    | cons h3 h4 =>
     cases h4
     cases dd <;> simp only [qJD,oI] at hs1 <;> first | (cases hs1; done) | subst hs1
     ·cases h1; cases h3; simp only [List.headD_cons,vC,nF,qOO,Bool.and_true]
      rename_i a b
      cases a <;> cases b <;> rfl
     ·cases h1; cases h3; simp only [List.headD_cons,if_true,vC,nF,qOO,Bool.and_true]; rfl
     cases h1; cases h3
     rename_i a b
     simp only [List.headD_cons,vC,nF,qOO,Bool.and_true]
  cases h
theorem qAs (a:ByteArray):(a == a)=true:=by
 obtain ⟨a⟩:=a
 show (a == a)=true
 exact beq_self_eq_true a
theorem qKP {a b:ByteArray} (h:(a == b)=true):a=b:=by
 obtain ⟨a⟩:=a
 obtain ⟨b⟩:=b
 have h:(a == b)=true:=h
 rw [eq_of_beq h]
end Go.Am
namespace Go.Am
open Go
def jA (el sz:Nat) (d:D):Prop:=d=.nil∨∃ es,d=.sl el sz es/\es.length < zG
abbrev dI (n:Int):D:=.leaf (.int .i64 n)
abbrev dB (b:Bool):D:=.leaf (.bool b)
section
variable {E:Env} {HS:FuncId->List D->D->Prop} {Q:Res1->Prop}
theorem qLi {o:TOp} {xs:List SV} {r:Tree} {ρ ds:List D} {d:D} (h:o.eval E ds=some d) (hx:SV.ds (getD ρ) xs=ds) (hr:wp E HS Q r (ρ++[d])):wp E HS Q (.bind o xs r) ρ:=by
 simp only [wp,hx,h]; exact hr
theorem qLh {tg:Tgt} {xs:List SV} {fl:Nat} {r:Tree} {ρ ds azq:List D} {f:FuncId} {d:D} (h:HS f azq d) (hx:SV.ds (getD ρ) xs=ds) (ht:s6 E tg ds=some (f,azq)) (hf:qBD fl d=true) (hr:wp E HS Q r (ρ++[d])):wp E HS Q (.call tg xs fl r) ρ:=by
 simp only [wp,hx,ht]; exact ⟨d,h,hf,hr⟩
theorem qQ {el sz:Nat} {d:D} (h:jA el sz d):TOp.eval E (.len false) [d]=some (dI d.es.length):=by
 rcases h with rfl | ⟨es,rfl,_⟩ <;> rfl
theorem qPf {d:D} {i:Nat} {e:D} (he:d.es[i]? = some e):TOp.eval E .inr [d,dI (i:Int)]=some (dB true):=by
 rw [qFz]
 have:nA d (dI (i:Int))=some e:=he
 rw [this]; rfl
theorem qB3 {el sz:Nat} {d:D} {i:Nat} {e:D} (h:jA el sz d) (he:d.es[i]? = some e):d.szD=sz:=by
 rcases h with rfl | ⟨es,rfl,_⟩
 ·simp [D.es] at he
 rfl
theorem qJa {el sz:Nat} {d:D} {i:Nat} {cs:List D} (h:jA el sz d) (he:d.es[i]? = some (.agg cs)) (hc:cs.length=sz):TOp.eval E (.elem sz true sz 0) [d,dI (i:Int)]=some (.agg cs):=by
 rw [eH]
 have h1:nA d (dI (i:Int))=some (.agg cs):=he
 have h2:Nat.ble (0+sz) sz=true:=bL (by omega)
 have h3:Nat.beq sz sz=true:=Nat.beq_refl _
 have h4:Nat.beq 0 0=true:=rfl
 simp only [h1,qB3 h he,h3,h2,h4,cond_true,Bool.and_self,l8,hc,qV,if_true]
theorem qJd {el:Nat} {d:D} {i:Nat} {e:D} (h:jA el 1 d) (he:d.es[i]? = some e) (ho:e.one=true):TOp.eval E (.elem 1 false 1 0) [d,dI (i:Int)]=some e:=by
 rw [eH]
 have h1:nA d (dI (i:Int))=some e:=he
 simp only [h1,qB3 h he]
 cases e <;> first | rfl | (cases ho; done)
theorem qJb {el sz off:Nat} {d:D} {i:Nat} {cs:List D} {e:D} (h:jA el sz d) (he:d.es[i]? = some (.agg cs)) (hc:cs[off]? = some e) (ho:e.one=true) (hoff:off < sz):TOp.eval E (.elem sz false 1 off) [d,dI (i:Int)]=some e:=by
 rw [eH]
 have h1:nA d (dI (i:Int))=some (.agg cs):=he
 have h2:Nat.ble (off+1) sz=true:=bL hoff
 have h3:Nat.beq sz sz=true:=Nat.beq_refl _
 simp only [h1,qB3 h he,h3,cond_false,h2,Bool.and_self,cond_true,Bool.false_and,rO,D.cells,hc,ho]
theorem qI {cs:List D} {n:Nat} (h:cs.length=n):TOp.eval E (.chk true n) [.agg cs]=some (.agg cs):=by
 rw [cG]; simp only [l8,cond_true,h,qV,if_true]
theorem qIt {n:Nat} (h:n < zG):IntKind.i64.wrap (n:Int)=(n:Int):=by
 have h':n < 9223372036854775808:=h
 have h2:(n:Int) < 9223372036854775808:=by omega
 have h1:(n:Int) % 2 ^ 64=(n:Int):=by omega
 simp only [IntKind.wrap,IntKind.bits,IntKind.signed,h1]
 rw [if_neg]
 simp only [vF,decide_eq_true_eq,not_and,ge_iff_le,Int.not_le]
 intro _
 exact h2
theorem qT {t:TypeId} {x y:Operand} {n:Nat} (h:n+1 < zG):TOp.eval E (.bin .add t x y) [dI (n:Int),dI 1]=some (dI ((n+1:Nat):Int)):=by
 have h0:TOp.eval E (.bin .add t x y) [dI (n:Int),dI 1]=some (dI (IntKind.i64.wrap ((n:Int)+1))):=rfl
 rw [h0,show ((n:Int)+1)=((n+1:Nat):Int) by omega,qIt h]
theorem v6 {t:TypeId} {b:Bool}:TOp.eval E (.un .not t) [dB b]=some (dB (!b)):=rfl
theorem qC {i:Nat} {a b:Tree} {ρ:List D} {t:Bool} (h:getD ρ i=dB t) (hw:wp E HS Q (if t then a else b) ρ):wp E HS Q (.ite (.v i) a b) ρ:=by
 simp only [wp,SV.d,h]
 cases t <;> exact hw
theorem cP {i:Nat} {a b:Tree} {ρ:List D} {t:Bool} (h:getD ρ i=dB t) (ht:t=true->wp E HS Q a ρ) (hf:t=false->wp E HS Q b ρ):wp E HS Q (.ite (.v i) a b) ρ:=by
 simp only [wp,SV.d,h]
 cases t
 ·exact hf rfl
 exact ht rfl
def To (E:Env) (HS:FuncId->List D->D->Prop) (Ts:Nat->Tree) (d:D) (r:Res1):Prop:=match r with
 | .ret d'=>d'=d
 | .jump k ds=>qH E HS Ts k ds d
theorem qH.step' {Ts:Nat->Tree} {k:Nat} {ρ:List D} {d:D} (h:wp E HS (To E HS Ts d) (Ts k) ρ):qH E HS Ts k ρ d:=by
 obtain ⟨r,h1,h2⟩:=oK _ _ h
 refine qH.step (h2 _ ?_)
 cases r <;> exact h1
def qBC:Sh->Bool
 | .int _ | .bool | .str=>true
 | _=>false
theorem fU:∀ {ss:List Sh} {cs:List D},ss.all qBC=true->vS ss cs->∃ vs,cs=vs.map .leaf/\VShs ss vs
 | [],cs,_,h=>by simp only [vS] at h; exact ⟨[],by simp [h],.nil⟩
 | s::ss,cs,hf,h=>by
  simp only [vS] at h
  obtain ⟨d,ds,rfl,h1,h2⟩:=h
  simp only [List.all_cons,vF] at hf
  obtain ⟨vs,rfl,h3⟩:=fU hf.2 h2
  cases s with
  | int k=>simp only [xO] at h1; obtain ⟨n,rfl⟩:=h1; exact ⟨_::vs,rfl,.cons .int h3⟩
  | bool=>simp only [xO] at h1; obtain ⟨n,rfl⟩:=h1; exact ⟨_::vs,rfl,.cons .bool h3⟩
  | str=>simp only [xO] at h1; obtain ⟨n,rfl⟩:=h1; exact ⟨_::vs,rfl,.cons .str h3⟩
  | st _=>cases hf.1
  | sl _ _ _=>cases hf.1
theorem qA8:∀ vs:List Value,D.toVs (vs.map .leaf)=some vs
 | []=>rfl
 | v::vs=>by simp only [List.map_cons,D.toVs,D.toV,qA8 vs]
theorem qBK:∀ us vs:List Value,hD (us.map .leaf) (vs.map .leaf)=nF us vs
 | [],[]=>rfl
 | [],_::_=>rfl
 | _::_,[]=>rfl
 | u::us,v::vs=>by simp only [List.map_cons,hD,qSl,nF,qBK us vs]
theorem cT:∀ {ss:List Sh} {vs:List Value},VShs ss vs->zL (.agg ⟨vs⟩)=true
 | ss,vs,h=>by
  show zA 6 _=true
  simp only [zA,List.all_eq_true,vF]
  intro v hv
  have:∀ {ss:List Sh} {vs:List Value},VShs ss vs->∀ v∈vs,qN v=true/\zA 5 v=true:=by
   intro ss vs h
   induction h with
   | nil=>intro v hv; cases hv
   | cons h hs ih =>
    intro v hv
    rcases List.mem_cons.1 hv with rfl | hv
    ·cases h <;> exact ⟨rfl,rfl⟩
    exact ih v hv
  exact this h v hv
theorem aX (op:BinOp) (hop:op=.neq∨op=.eql) {n:Nat} {t:TypeId} {ss:List Sh} (ht:cH E.prog n t=some ss) (hst:rV E.prog t=true) (hn:n<=10000) (hg:E.prog.eqGuardType E.prog.depth t=false) (hf:ss.all qBC=true) {x y:Operand} {azq bs:List D}
  (ha:vS ss azq) (hb:vS ss bs):TOp.eval E (.bin op t x y) [.agg azq,.agg bs]=some (dB (match op with | .neq=>!(hD azq bs) | _=>hD azq bs)):=by
 obtain ⟨us,rfl,hu⟩:=fU hf ha
 obtain ⟨vs,rfl,hv⟩:=fU hf hb
 rw [qCB]
 simp only [D.toV,qA8,Option.map_some,qBK]
 have heq:=qSc n t ss ht 10000 hn us vs hu hv
 simp only [hst,qLd,cond_true] at heq
 have hguard:∀ op,qW E.prog (eqGuard op t x y (.agg ⟨us⟩) (.agg ⟨vs⟩))=some ():=by
  intro op
  unfold eqGuard
  cases op <;> simp [vM,yH,hg,vC]
 rcases hop with rfl | rfl
 ·have hb:binOp .neq t (.agg ⟨us⟩) (.agg ⟨vs⟩)=(Op.equal t (.agg ⟨us⟩) (.agg ⟨vs⟩) >>= fun r=>pure (.bool (!r))):=by unfold binOp; rfl
  have:nZ E .neq t x y (.agg ⟨us⟩) (.agg ⟨vs⟩)=some (.bool (!(nF us vs))):=by
   unfold nZ
   simp only [cT hu,cT hv,Bool.and_self,cond_true,vM,hguard,Option.bind_some,hb,Op.equal,Op.maxDepth,heq,vC]
   rfl
  rw [this]; rfl
 have hb:binOp .eql t (.agg ⟨us⟩) (.agg ⟨vs⟩)=(Op.equal t (.agg ⟨us⟩) (.agg ⟨vs⟩) >>= fun r=>pure (.bool r)):=by unfold binOp; rfl
 have:nZ E .eql t x y (.agg ⟨us⟩) (.agg ⟨vs⟩)=some (.bool (nF us vs)):=by
  unfold nZ
  simp only [cT hu,cT hv,Bool.and_self,cond_true,vM,hguard,Option.bind_some,hb,Op.equal,Op.maxDepth,heq,vC]
  rfl
 rw [this]; rfl
end
end Go.Am
namespace Go.Am
open Go
section
variable {E:Env} {fr fr':Fr} {t:T Value} {o:Oper} {H H1 H':AH} {n d i:Nat} {v:Value} {all:Array Oper} {os:List Oper}
end
end Go.Am
namespace Go.Am
open Go
theorem jA.one {el sz:Nat} {d:D} (h:jA el sz d):d.one=true:=by
 rcases h with rfl | ⟨es,rfl,_⟩ <;> rfl
section
variable {E:Env} {HS:FuncId->List D->D->Prop}
theorem qA {off:Nat} {cs:List D} {e:D} (hc:cs[off]? = some e) (ho:e.one=true):TOp.eval E (.fld false 1 off) [.agg cs]=some e:=by
 rw [qAe]
 simp only [rO,cond_false,D.cells,hc,ho,cond_true]
theorem wN {e:D} (ho:e.one=true):TOp.eval E (.chk false 1) [e]=some e:=by
 rw [cG]
 have h:Nat.beq 1 1=true:=rfl
 simp only [l8,cond_false,ho,h,Bool.and_self,cond_true]
theorem pF {off size:Nat} {cs:List D} (h:Nat.ble (off+size) cs.length=true):TOp.eval E (.fld true size off) [.agg cs]=some (.agg ((cs.drop off).take size)):=by
 rw [qAe]
 simp only [rO,cond_true,D.cells,h]
theorem zQ {a b:Tree} {Q:Res1->Prop} {ρ:List D} (h:wp E HS Q a ρ):wp E HS Q (if true=true then a else b) ρ:=h
theorem zB {a b:Tree} {Q:Res1->Prop} {ρ:List D} (h:wp E HS Q b ρ):wp E HS Q (if false=true then a else b) ρ:=h
theorem gP {k:IntKind} {n:Int}:xO (.int k) (.leaf (.int k n)):=⟨n,rfl⟩
theorem lJ:vS [] []:=rfl
theorem xU {s:Sh} {ss:List Sh} {d:D} {ds:List D} (h:xO s d) (hs:vS ss ds):vS (s::ss) (d::ds):=⟨d,ds,rfl,h,hs⟩
theorem aD {P:Program} {op:BinOp} {t:TypeId} {x y:Operand} {a b:ByteArray}:qW P (eqGuard op t x y (.string a) (.string b))=some ():=by
 unfold eqGuard
 cases op <;> simp [vC]
theorem sZ (a b:ByteArray):(a.toList == b.toList)=(a == b):=by
 rw [ByteArray.toList_eq,ByteArray.toList_eq]
 cases h:(a == b) with
 | true=>rw [qKP h]; exact beq_self_eq_true _
 | false =>
  cases h2:(a.data.toList == b.data.toList) with
  | false=>rfl
  | true =>
   have he:a.data.toList=b.data.toList:=eq_of_beq h2
   have:a=b:=by
    obtain ⟨⟨a⟩⟩:=a
    obtain ⟨⟨b⟩⟩:=b
    simp only at he
    rw [he]
   rw [this,qAs] at h
   cases h
theorem dE {t:TypeId} {x y:Operand} {a b:ByteArray}:TOp.eval E (.bin .neq t x y) [.leaf (.string a),.leaf (.string b)]=some (dB (!(a == b))):=by
 rw [qCB]
 have hf:∀ s:ByteArray,zL (.string s)=true:=fun _=>rfl
 have:nZ E .neq t x y (.string a) (.string b)=some (.bool (!(a == b))):=by
  unfold nZ
  simp only [hf,Bool.and_self,cond_true,vM,aD,Option.bind_some,binOp,Op.stringOp,sZ,vC]
  rfl
 simp only [D.toV,this]; rfl
theorem aW {t:TypeId} {x y:Operand} {a b:ByteArray}:TOp.eval E (.bin .eql t x y) [.leaf (.string a),.leaf (.string b)]=some (dB (a == b)):=by
 rw [qCB]
 have hf:∀ s:ByteArray,zL (.string s)=true:=fun _=>rfl
 have:nZ E .eql t x y (.string a) (.string b)=some (.bool (a == b)):=by
  unfold nZ
  simp only [hf,Bool.and_self,cond_true,vM,aD,Option.bind_some,binOp,Op.stringOp,sZ,vC]
  rfl
 simp only [D.toV,this]; rfl
end
end Go.Am
namespace Go.Am
open Go
theorem qKD (a b:Value):qSl (.leaf a) (.leaf b)=qOO a b:=by simp only [qSl]
theorem qKC:hD [] []=true:=by simp only [hD]
theorem qH1 (a b:D) (azq bs:List D):hD (a::azq) (b::bs)=(qSl a b && hD azq bs):=by simp only [hD]
theorem qLm (k l:IntKind) (a b:Int):qOO (.int k a) (.int l b)=decide (a=b):=rfl
section
variable {E:Env} {HS:FuncId->List D->D->Prop} {Q:Res1->Prop}
theorem qM {Ts:Nat->Tree} {xs:List SV} {ρ:List D} {d d':D} (hx:SV.ds (getD ρ) xs=[d']) (h:d'=d):wp E HS (To E HS Ts d) (.ret xs) ρ:=by
 simp only [wp,hx,To,mQ]; exact h
theorem qE {Ts:Nat->Tree} {k:Nat} {xs:List SV} {ρ ds:List D} {d:D} (hx:SV.ds (getD ρ) xs=ds) (h:qH E HS Ts k ds d):wp E HS (To E HS Ts d) (.jump k xs) ρ:=by
 simp only [wp,hx,To]; exact h
theorem qJc {el sz size off:Nat} {d:D} {i:Nat} {cs:List D} (h:jA el sz d) (he:d.es[i]? = some (.agg cs)) (hc:cs.length=sz) (ho:off+size<=sz) (hn:¬ (off=0/\size=sz)) :
  TOp.eval E (.elem sz true size off) [d,dI (i:Int)]=some (.agg ((cs.drop off).take size)):=by
 rw [eH]
 have h1:nA d (dI (i:Int))=some (.agg cs):=he
 have h2:Nat.ble (off+size) sz=true:=bL ho
 have h5:Nat.ble (off+size) cs.length=true:=by rw [hc]; exact h2
 have h3:Nat.beq sz sz=true:=Nat.beq_refl _
 have h4:(Nat.beq off 0 && Nat.beq size sz)=false:=by
  cases h:(Nat.beq off 0 && Nat.beq size sz) with
  | false=>rfl
  | true =>
   simp only [vF] at h
   exact absurd ⟨vU h.1,vU h.2⟩ hn
 simp only [h1,qB3 h he,h3,h2,h4,h5,cond_true,cond_false,Bool.and_self,Bool.true_and,Bool.and_true,rO,D.cells]
theorem qIv {ρ':List D} {o:TOp} {xs:List SV} {r:Tree} {ρ ds:List D} {d:D} (h:o.eval E ds=some d) (hx:SV.ds (getD ρ) xs=ds) (hρ:ρ++[d]=ρ') (hr:wp E HS Q r ρ'):wp E HS Q (.bind o xs r) ρ :=
 qLi h hx (hρ ▸ hr)
theorem qIu {ρ':List D} {tg:Tgt} {xs:List SV} {fl:Nat} {r:Tree} {ρ ds azq:List D} {f:FuncId} {d:D} (h:HS f azq d) (hx:SV.ds (getD ρ) xs=ds) (ht:s6 E tg ds=some (f,azq)) (hf:qBD fl d=true) (hρ:ρ++[d]=ρ') (hr:wp E HS Q r ρ'):wp E HS Q (.call tg xs fl r) ρ :=
 qLh h hx ht hf (hρ ▸ hr)
end
class Snoc (ρ:List D) (d:D) (ρ':outParam (List D)):Prop where
 h:ρ++[d]=ρ'
instance (d:D):Snoc [] d [d]:=⟨rfl⟩
instance {x:D} {ρ ρ':List D} {d:D} [s:Snoc ρ d ρ']:Snoc (x::ρ) d (x::ρ'):=⟨congrArg (x :: ·) s.h⟩
theorem iC {E : Env} {HS : FuncId -> List D -> D -> Prop} {Q : Res1 -> Prop} {i : Nat} {a b : Tree} {ρ : List D} {t : Bool} (ht : t = true -> wp E HS Q a ρ) (hf : t = false -> wp E HS Q b ρ) (h : getD ρ i = dB t := by rfl) : wp E HS Q (.ite (.v i) a b) ρ := cP h ht hf
theorem bS {E:Env} {HS:FuncId->List D->D->Prop} {Q:Res1->Prop} {ρ':List D} {o:TOp} {xs:List SV} {r:Tree} {ρ ds:List D} {d:D} [s:Snoc ρ d ρ'] (h:o.eval E ds=some d) (hr:wp E HS Q r ρ') (hx:SV.ds (getD ρ) xs=ds:=by rfl):wp E HS Q (.bind o xs r) ρ:=qIv h hx s.h hr
theorem cS {E:Env} {HS:FuncId->List D->D->Prop} {Q:Res1->Prop} {ρ':List D} {tg:Tgt} {xs:List SV} {fl:Nat} {r:Tree} {ρ ds azq:List D} {f:FuncId} {d:D} [s:Snoc ρ d ρ'] (h:HS f azq d) (hr:wp E HS Q r ρ') (hx:SV.ds (getD ρ) xs=ds:=by rfl) (ht:s6 E tg ds=some (f,azq):=by rfl) (hf:qBD fl d=true:=by rfl):wp E HS Q (.call tg xs fl r) ρ:=qIu h hx ht hf s.h hr
end Go.Am
