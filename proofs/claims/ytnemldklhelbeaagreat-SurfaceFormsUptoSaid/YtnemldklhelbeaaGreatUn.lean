/- Shapes of data, and their equality. Conditions: none. -/
import Derived.Test.YtnemldklhelbeaaGreatSx4
set_option linter.unusedVariables false
set_option linter.unusedSimpArgs false
namespace Go.Am
open Go
inductive Sh where
 | int (k:IntKind)
 | bool
 | str
 | st (fs:List Sh)
 | sl (el sz:Nat) (e:Sh)
mutual
def xU:Sh->D->Prop
 | .int k,d=>∃ n,d=.leaf (.int k n)
 | .bool,d=>∃ b,d=.leaf (.bool b)
 | .str,d=>∃ s,d=.leaf (.string s)
 | .st fs,d=>∃ cs,d=.agg cs/\v6 fs cs
 | .sl el sz e,d=>d=.nil∨∃ es,d=.sl el sz es/\es.length < zV/\∀ x∈es,xU e x
def v6:List Sh->List D->Prop
 | [],l=>l=[]
 | s::ss,l=>∃ d ds,l=d::ds/\xU s d/\v6 ss ds
end
def qRn:Value->Value->Bool
 | .int _ a,.int _ b=>decide (a=b)
 | .bool a,.bool b=>decide (a=b)
 | .string a,.string b=>a == b
 | _,_=>false
mutual
def qVA:D->D->Bool
 | .leaf a,.leaf b=>qRn a b
 | .agg as,.agg bs=>lW as bs
 | .nil,b=>match b with
  | .nil=>true
  | .sl _ _ bs=>bs.isEmpty
  | _=>false
 | .sl _ _ as,b=>match b with
  | .nil=>as.isEmpty
  | .sl _ _ bs=>lW as bs
  | _=>false
 | _,_=>false
def lW:List D->List D->Bool
 | [],[]=>true
 | a::as,b::bs=>qVA a b && lW as bs
 | _,_=>false
end
theorem vM {α β:Type} (P:Program) (x:Sem α) (f:α->Sem β):qT P (x >>= f)=(qT P x).bind fun a=>qT P (f a):=by
 show qT P (x.bind f)=_
 induction x with
 | pure a=>rfl
 | program k ih=>exact ih P
 | mark m k ih=>exact ih
 | _=>rfl
theorem yG (P:Program):qT P program=some P:=rfl
theorem vE {α:Type} (P:Program) (a:α):qT P (pure a)=some a:=rfl
inductive VSh:Sh->Value->Prop
 | int {k:IntKind} {n:Int}:VSh (.int k) (.int k n)
 | bool {b:Bool}:VSh .bool (.bool b)
 | str {s:ByteArray}:VSh .str (.string s)
def qKY:TypeDesc->Option Sh
 | .bool=>some .bool
 | .int k=>some (.int k)
 | .string=>some .str
 | _=>none
def qLN (P:Program) (rec:TypeId->Option (List Sh)):List Field->List Sh->Option (List Sh)
 | [],acc=>some acc
 | f :: r, acc => bif f.name == "_" || !(Nat.beq f.offset acc.length) then none else match rec f.type, P.info? f.type with
  | some s,some i=>bif Nat.beq i.size s.length then qLN P rec r (acc++s) else none
  | _,_=>none
def iY (P:Program):Nat->TypeId->Option (List Sh)
 | 0,_=>none
 | n+1,t=>match P.underlying t with
  | some (.struct fs)=>bif P.stoodInHeld t then none else qLN P (iY P n) fs.toList []
  | some d=>match qKY d with
   | some s=>some [s]
   | none=>none
  | none=>none
def m9 (P:Program) (t:TypeId):Bool:=match P.underlying t with
 | some (.struct _)=>true
 | _=>false
def qMC (st:Bool) (vs:List Value):Value:=bif st then .agg ⟨vs⟩ else vs.headD (.bool false)
def nX:List Value->List Value->Bool
 | [],[]=>true
 | a::as,b::bs=>qRn a b && nX as bs
 | _,_=>false
inductive VShs:List Sh->List Value->Prop
 | nil:VShs [] []
 | cons {s:Sh} {v:Value} {ss:List Sh} {vs:List Value} (h:VSh s v) (hs:VShs ss vs):VShs (s::ss) (v::vs)
theorem VShs.length:∀ {ss:List Sh} {vs:List Value},VShs ss vs->vs.length=ss.length
 | _,_,.nil=>rfl
 | _,_,.cons _ h=>by simp [VShs.length h]
theorem VShs.split:∀ {a b:List Sh} {vs:List Value},VShs (a++b) vs->∃ x y,vs=x++y/\VShs a x/\VShs b y
 | [],_,vs,h=>⟨[],vs,rfl,.nil,h⟩
 | s::a,b,_,.cons h hs=>by
  obtain ⟨x,y,rfl,h1,h2⟩:=VShs.split (a:=a) hs
  exact ⟨_::x,y,rfl,.cons h h1,h2⟩
theorem qDt:∀ {a b c d:List Value},a.length=c.length->nX (a++b) (c++d)=(nX a c && nX b d)
 | [],b,[],d,_=>by simp [nX]
 | x::a,b,y::c,d,h=>by
  simp only [List.cons_append,nX,qDt (show a.length=c.length by simpa using h),Bool.and_assoc]
 | [],_,_::_,_,h=>by simp at h
 | _::_,_,[],_,h=>by simp at h
theorem uV {P:Program} {t:TypeId} {d:TypeDesc} (h:P.underlying t=some d):qT P (underlying t)=some d:=by
 unfold underlying
 simp only [vM,yG,Option.bind_some,h,vE]
theorem qIl {P:Program} {t:TypeId} {i:TypeInfo} (h:P.info? t=some i):qT P (sizeOf t)=some i.size:=by
 unfold sizeOf typeInfo
 simp only [vM,yG,Option.bind_some,h,vE]
theorem qKE {P:Program} {n:Nat} {t:TypeId} {s:List Sh} (h:iY P n t=some s):qT P (isAgg t)=some (m9 P t)/\(m9 P t=false->s.length=1):=by
 cases n with
 | zero=>cases h
 | succ n =>
  simp only [iY] at h
  unfold isAgg
  cases hu:P.underlying t with
  | none=>rw [hu] at h; cases h
  | some d =>
   simp only [vM,uV hu,Option.bind_some,m9,hu]
   rw [hu] at h
   cases d <;> simp only [qKY] at h <;> first | (cases h; done) | skip
   all_goals first
    | exact ⟨rfl,fun (e:true=false)=>Bool.noConfusion e⟩
    | (cases h; exact ⟨rfl,fun _=>rfl⟩)
    | (simp only [oI] at h; subst h; exact ⟨rfl,fun _=>rfl⟩)
theorem qBW {P:Program} {n:Nat} {t:TypeId} {s:List Sh} {i:TypeInfo} (h:iY P n t=some s) (hi:P.info? t=some i) (hs:i.size=s.length) (a x b:List Value) (hx:x.length=s.length) :
  qT P (part t ⟨a++(x++b)⟩ a.length)=some (qMC (m9 P t) x):=by
 obtain ⟨h1,h2⟩:=qKE h
 unfold part
 simp only [vM,h1,Option.bind_some]
 cases hst:m9 P t with
 | true =>
  simp only [if_true,vM,qIl hi,Option.bind_some,vE,qMC,cond_true]
  congr 2
  apply Array.ext'
  simp [List.extract_eq_take_drop,hs,← hx]
 | false =>
  have hl:=h2 hst
  rw [hl] at hx
  match x,hx with
  | [v],_=>simp [qMC,vE]
theorem qHB {P:Program} {n d:Nat} (ih:∀ t s,iY P n t=some s->∀ us vs:List Value,VShs s us->VShs s vs->qT P (Op.equalIn d t (qMC (m9 P t) us) (qMC (m9 P t) vs))=some (nX us vs)) :
  ∀ (fl:List Field) (acc s:List Sh),qLN P (iY P n) fl acc=some s->∃ rest,s=acc++rest/\∀ (ua va ru rv:List Value),ua.length=acc.length->va.length=acc.length->VShs rest ru->VShs rest rv ->
   qT P (forIn fl ((none,()):Option Bool × Unit) fun f __s =>
      if f.name ≠ "_" then do
       let __do_lift ← part f.type { toList:=ua++ru } f.offset
       let __do_lift_1 ← part f.type { toList:=va++rv } f.offset
       let __do_lift ← Op.equalIn d f.type __do_lift __do_lift_1
       if (!__do_lift)=true then pure (ForInStep.done (some false,())) else pure (ForInStep.yield (none,()))
      else pure (ForInStep.yield (none,())))=some (if nX ru rv=true then (none,()) else (some false,()))
 | [],acc,s,h=>by
  simp only [qLN,oI] at h
  subst h
  refine ⟨[],by simp,?_⟩
  intro ua va ru rv _ _ h1 h2
  cases h1; cases h2
  simp [nX,vE]
 | f::r,acc,s,h=>by
  simp only [qLN] at h
  cases hc : (f.name == "_" || !(Nat.beq f.offset acc.length)) with
  | true=>rw [hc] at h; cases h
  | false =>
   rw [hc] at h
   simp only [cond_false] at h
   simp only [Bool.or_eq_false_iff,Bool.not_eq_false',beq_eq_false_iff_ne,ne_eq] at hc
   have hoff:=vU hc.2
   split at h
   case h_2=>cases h
   rename_i s1 i hs1 hi
   simp only [qU] at h
   split at h
   case isFalse=>cases h
   rename_i hsz
   obtain ⟨rest,rfl,hr⟩:=qHB ih r (acc++s1) s h
   refine ⟨s1++rest,by simp,?_⟩
   intro ua va ru rv hua hva h1 h2
   obtain ⟨x,xr,rfl,x1,x2⟩:=h1.split
   obtain ⟨y,yr,rfl,y1,y2⟩:=h2.split
   have hp1:=qBW hs1 hi hsz ua x xr x1.length
   have hp2:=qBW hs1 hi hsz va y yr y1.length
   rw [hua,← hoff] at hp1
   rw [hva,← hoff] at hp2
   have heq:=ih _ _ hs1 x y x1 y1
   have hr':=hr (ua++x) (va++y) xr yr (by simp [hua,x1.length]) (by simp [hva,y1.length]) x2 y2
   simp only [List.append_assoc] at hr'
   rw [qDt (by rw [x1.length,y1.length])]
   simp only [List.forIn_cons,ne_eq,hc.1,not_false_eq_true,if_true,vM,hp1,hp2,heq,Option.bind_some]
   cases hv:nX x y with
   | true =>
    simp only [Bool.not_true,Bool.false_eq_true,if_false,vE,Option.bind_some,Bool.true_and]
    exact hr'
   | false=>simp [vE]
theorem qVt {P:Program}:∀ (n t:Nat) (s:List Sh),iY P n t=some s->∀ (d:Nat),n<=d->∀ us vs:List Value,VShs s us->VShs s vs->qT P (Op.equalIn d t (qMC (m9 P t) us) (qMC (m9 P t) vs))=some (nX us vs):=by
 intro n
 induction n with
 | zero=>intro t s h; cases h
 | succ n ih =>
  intro t s h d hd us vs hu hv
  obtain ⟨d,rfl⟩:∃ d',d=d'+1:=⟨d - 1,by omega⟩
  simp only [iY] at h
  rw [Op.equalIn]
  split at h
  ·rename_i fs hund
   have hst:m9 P t=true:=by simp only [m9,hund]
   cases hh:P.stoodInHeld t with
   | true=>rw [hh] at h; cases h
   | false =>
    rw [hh] at h
    simp only [cond_false] at h
    simp only [vM,uV hund,Option.bind_some,hst,qMC,cond_true,yG,hh,Bool.false_eq_true,if_false,← Array.forIn_toList]
    generalize fs.toList=fl at h
    obtain ⟨rest,hs,hr⟩:=qHB (d:=d) (fun t s h us vs hu hv=>ih t s h d (by omega) us vs hu hv) fl [] s h
    simp only [List.nil_append] at hs
    subst hs
    have:=hr [] [] us vs rfl rfl hu hv
    simp only [List.nil_append] at this
    rw [this]
    cases nX us vs <;> simp [vE]
  ·rename_i dd hne hund
   split at h
   case h_2=>cases h
   rename_i s1 hs1
   cases h
   have hst:m9 P t=false:=by
    unfold m9
    rw [hund]
    split
    ·rename_i fs e; cases e; exact absurd rfl (hne _)
    rfl
   simp only [vM,uV hund,Option.bind_some,hst,qMC,cond_false]
   cases hu with
   | cons h1 h2=>cases h2; cases hv with
    | cons h3 h4 =>
     cases h4
     cases dd <;> simp only [qKY,oI] at hs1 <;> first | (cases hs1; done) | subst hs1
     ·cases h1; cases h3; simp only [List.headD_cons,vE,nX,qRn,Bool.and_true]
      rename_i a b
      cases a <;> cases b <;> rfl
     ·cases h1; cases h3; simp only [List.headD_cons,if_true,vE,nX,qRn,Bool.and_true]; rfl
     cases h1; cases h3
     rename_i a b
     simp only [List.headD_cons,vE,nX,qRn,Bool.and_true]
  cases h
theorem qGs (a:ByteArray):(a == a)=true:=by
 obtain ⟨a⟩:=a
 show (a == a)=true
 exact beq_self_eq_true a
theorem qMa {a b:ByteArray} (h:(a == b)=true):a=b:=by
 obtain ⟨a⟩:=a
 obtain ⟨b⟩:=b
 have h:(a == b)=true:=h
 rw [eq_of_beq h]
end Go.Am
namespace Go.Am
open Go
def nV (el sz:Nat) (d:D):Prop:=d=.nil∨∃ es,d=.sl el sz es/\es.length < zV
abbrev dI (n:Int):D:=.leaf (.int .i64 n)
abbrev dB (b:Bool):D:=.leaf (.bool b)
section
variable {E:Env} {HS:FuncId->List D->D->Prop} {Q:Res1->Prop}
theorem qML {o:TOp} {xs:List SV} {r:Tree} {ρ ds:List D} {d:D} (h:o.eval E ds=some d) (hx:SV.ds (getD ρ) xs=ds) (hr:wp E HS Q r (ρ++[d])):wp E HS Q (.bind o xs r) ρ:=by
 simp only [wp,hx,h]; exact hr
theorem qMK {tg:Tgt} {xs:List SV} {fl:Nat} {r:Tree} {ρ ds as:List D} {f:FuncId} {d:D} (h:HS f as d) (hx:SV.ds (getD ρ) xs=ds) (ht:uA E tg ds=some (f,as)) (hf:qCj fl d=true) (hr:wp E HS Q r (ρ++[d])):wp E HS Q (.call tg xs fl r) ρ:=by
 simp only [wp,hx,ht]; exact ⟨d,h,hf,hr⟩
theorem qH {el sz:Nat} {d:D} (h:nV el sz d):TOp.eval E (.len false) [d]=some (dI d.es.length):=by
 rcases h with rfl | ⟨es,rfl,_⟩ <;> rfl
theorem qRK {d:D} {i:Nat} {e:D} (he:d.es[i]? = some e):TOp.eval E .inr [d,dI (i:Int)]=some (dB true):=by
 rw [qGg]
 have:nQ d (dI (i:Int))=some e:=he
 rw [this]; rfl
theorem qCD {el sz:Nat} {d:D} {i:Nat} {e:D} (h:nV el sz d) (he:d.es[i]? = some e):d.szD=sz:=by
 rcases h with rfl | ⟨es,rfl,_⟩
 ·simp [D.es] at he
 rfl
theorem qKq {el sz:Nat} {d:D} {i:Nat} {cs:List D} (h:nV el sz d) (he:d.es[i]? = some (.agg cs)) (hc:cs.length=sz):TOp.eval E (.elem sz true sz 0) [d,dI (i:Int)]=some (.agg cs):=by
 rw [fH]
 have h1:nQ d (dI (i:Int))=some (.agg cs):=he
 have h2:Nat.ble (0+sz) sz=true:=bL (by omega)
 have h3:Nat.beq sz sz=true:=Nat.beq_refl _
 have h4:Nat.beq 0 0=true:=rfl
 simp only [h1,qCD h he,h3,h2,h4,cond_true,Bool.and_self,bX,hc,qU,if_true]
theorem qKt {el:Nat} {d:D} {i:Nat} {e:D} (h:nV el 1 d) (he:d.es[i]? = some e) (ho:e.one=true):TOp.eval E (.elem 1 false 1 0) [d,dI (i:Int)]=some e:=by
 rw [fH]
 have h1:nQ d (dI (i:Int))=some e:=he
 simp only [h1,qCD h he]
 cases e <;> first | rfl | (cases ho; done)
theorem qKr {el sz off:Nat} {d:D} {i:Nat} {cs:List D} {e:D} (h:nV el sz d) (he:d.es[i]? = some (.agg cs)) (hc:cs[off]? = some e) (ho:e.one=true) (hoff:off < sz):TOp.eval E (.elem sz false 1 off) [d,dI (i:Int)]=some e:=by
 rw [fH]
 have h1:nQ d (dI (i:Int))=some (.agg cs):=he
 have h2:Nat.ble (off+1) sz=true:=bL hoff
 have h3:Nat.beq sz sz=true:=Nat.beq_refl _
 simp only [h1,qCD h he,h3,cond_false,h2,Bool.and_self,cond_true,Bool.false_and,nG,D.cells,hc,ho]
theorem qI {cs:List D} {n:Nat} (h:cs.length=n):TOp.eval E (.chk true n) [.agg cs]=some (.agg cs):=by
 rw [dD]; simp only [bX,cond_true,h,qU,if_true]
theorem qRj {n:Nat} (h:n < zV):IntKind.i64.wrap (n:Int)=(n:Int):=by
 have h':n < 9223372036854775808:=h
 have h2:(n:Int) < 9223372036854775808:=by omega
 have h1:(n:Int) % 2 ^ 64=(n:Int):=by omega
 simp only [IntKind.wrap,IntKind.bits,IntKind.signed,h1]
 rw [if_neg]
 simp only [aE,decide_eq_true_eq,not_and,ge_iff_le,Int.not_le]
 intro _
 exact h2
theorem qP {t:TypeId} {x y:Operand} {n:Nat} (h:n+1 < zV):TOp.eval E (.bin .add t x y) [dI (n:Int),dI 1]=some (dI ((n+1:Nat):Int)):=by
 have h0:TOp.eval E (.bin .add t x y) [dI (n:Int),dI 1]=some (dI (IntKind.i64.wrap ((n:Int)+1))):=rfl
 rw [h0,show ((n:Int)+1)=((n+1:Nat):Int) by omega,qRj h]
theorem zZ {t:TypeId} {b:Bool}:TOp.eval E (.un .not t) [dB b]=some (dB (!b)):=rfl
theorem jJ {i:Nat} {a b:Tree} {ρ:List D} {t:Bool} (h:getD ρ i=dB t) (hw:wp E HS Q (if t then a else b) ρ):wp E HS Q (.ite (.v i) a b) ρ:=by
 simp only [wp,SV.d,h]
 cases t <;> exact hw
theorem qMJ {i:Nat} {a b:Tree} {ρ:List D} {t:Bool} (h:getD ρ i=dB t) (ht:t=true->wp E HS Q a ρ) (hf:t=false->wp E HS Q b ρ):wp E HS Q (.ite (.v i) a b) ρ:=by
 simp only [wp,SV.d,h]
 cases t
 ·exact hf rfl
 exact ht rfl
def To (E:Env) (HS:FuncId->List D->D->Prop) (Ts:Nat->Tree) (d:D) (r:Res1):Prop:=match r with
 | .ret d'=>d'=d
 | .jump k ds=>qG E HS Ts k ds d
theorem qG.step' {Ts:Nat->Tree} {k:Nat} {ρ:List D} {d:D} (h:wp E HS (To E HS Ts d) (Ts k) ρ):qG E HS Ts k ρ d:=by
 obtain ⟨r,h1,h2⟩:=rJ _ _ h
 refine qG.step (h2 _ ?_)
 cases r <;> exact h1
def qCi:Sh->Bool
 | .int _ | .bool | .str=>true
 | _=>false
theorem iS:∀ {ss:List Sh} {cs:List D},ss.all qCi=true->v6 ss cs->∃ vs,cs=vs.map .leaf/\VShs ss vs
 | [],cs,_,h=>by simp only [v6] at h; exact ⟨[],by simp [h],.nil⟩
 | s::ss,cs,hf,h=>by
  simp only [v6] at h
  obtain ⟨d,ds,rfl,h1,h2⟩:=h
  simp only [List.all_cons,aE] at hf
  obtain ⟨vs,rfl,h3⟩:=iS hf.2 h2
  cases s with
  | int k=>simp only [xU] at h1; obtain ⟨n,rfl⟩:=h1; exact ⟨_::vs,rfl,.cons .int h3⟩
  | bool=>simp only [xU] at h1; obtain ⟨n,rfl⟩:=h1; exact ⟨_::vs,rfl,.cons .bool h3⟩
  | str=>simp only [xU] at h1; obtain ⟨n,rfl⟩:=h1; exact ⟨_::vs,rfl,.cons .str h3⟩
  | st _=>cases hf.1
  | sl _ _ _=>cases hf.1
theorem qBT:∀ vs:List Value,D.toVs (vs.map .leaf)=some vs
 | []=>rfl
 | v::vs=>by simp only [List.map_cons,D.toVs,D.toV,qBT vs]
theorem qCr:∀ us vs:List Value,lW (us.map .leaf) (vs.map .leaf)=nX us vs
 | [],[]=>rfl
 | [],_::_=>rfl
 | _::_,[]=>rfl
 | u::us,v::vs=>by simp only [List.map_cons,lW,qVA,nX,qCr us vs]
theorem dV:∀ {ss:List Sh} {vs:List Value},VShs ss vs->zI (.agg ⟨vs⟩)=true
 | ss,vs,h=>by
  show zE 6 _=true
  simp only [zE,List.all_eq_true,aE]
  intro v hv
  have:∀ {ss:List Sh} {vs:List Value},VShs ss vs->∀ v∈vs,qQ v=true/\zE 5 v=true:=by
   intro ss vs h
   induction h with
   | nil=>intro v hv; cases hv
   | cons h hs ih =>
    intro v hv
    rcases List.mem_cons.1 hv with rfl | hv
    ·cases h <;> exact ⟨rfl,rfl⟩
    exact ih v hv
  exact this h v hv
theorem qCF (op:BinOp) (hop:op=.neq∨op=.eql) {n:Nat} {t:TypeId} {ss:List Sh} (ht:iY E.prog n t=some ss) (hst:m9 E.prog t=true) (hn:n<=10000) (hg:E.prog.eqGuardType E.prog.depth t=false) (hf:ss.all qCi=true) {x y:Operand} {as bs:List D}
  (ha:v6 ss as) (hb:v6 ss bs):TOp.eval E (.bin op t x y) [.agg as,.agg bs]=some (dB (match op with | .neq=>!(lW as bs) | _=>lW as bs)):=by
 obtain ⟨us,rfl,hu⟩:=iS hf ha
 obtain ⟨vs,rfl,hv⟩:=iS hf hb
 rw [rQ]
 simp only [D.toV,qBT,Option.map_some,qCr]
 have heq:=qVt n t ss ht 10000 hn us vs hu hv
 simp only [hst,qMC,cond_true] at heq
 have hguard:∀ op,qT E.prog (eqGuard op t x y (.agg ⟨us⟩) (.agg ⟨vs⟩))=some ():=by
  intro op
  unfold eqGuard
  cases op <;> simp [vM,yG,hg,vE]
 rcases hop with rfl | rfl
 ·have hb:binOp .neq t (.agg ⟨us⟩) (.agg ⟨vs⟩)=(Op.equal t (.agg ⟨us⟩) (.agg ⟨vs⟩) >>= fun r=>pure (.bool (!r))):=by unfold binOp; rfl
  have:yE E .neq t x y (.agg ⟨us⟩) (.agg ⟨vs⟩)=some (.bool (!(nX us vs))):=by
   unfold yE
   simp only [dV hu,dV hv,Bool.and_self,cond_true,vM,hguard,Option.bind_some,hb,Op.equal,Op.maxDepth,heq,vE]
   rfl
  rw [this]; rfl
 have hb:binOp .eql t (.agg ⟨us⟩) (.agg ⟨vs⟩)=(Op.equal t (.agg ⟨us⟩) (.agg ⟨vs⟩) >>= fun r=>pure (.bool r)):=by unfold binOp; rfl
 have:yE E .eql t x y (.agg ⟨us⟩) (.agg ⟨vs⟩)=some (.bool (nX us vs)):=by
  unfold yE
  simp only [dV hu,dV hv,Bool.and_self,cond_true,vM,hguard,Option.bind_some,hb,Op.equal,Op.maxDepth,heq,vE]
  rfl
 rw [this]; rfl
end
end Go.Am
namespace Go.Am
open Go
theorem nV.one {el sz:Nat} {d:D} (h:nV el sz d):d.one=true:=by
 rcases h with rfl | ⟨es,rfl,_⟩ <;> rfl
section
variable {E:Env} {HS:FuncId->List D->D->Prop}
theorem qB {off:Nat} {cs:List D} {e:D} (hc:cs[off]? = some e) (ho:e.one=true):TOp.eval E (.fld false 1 off) [.agg cs]=some e:=by
 rw [qAP]
 simp only [nG,cond_false,D.cells,hc,ho,cond_true]
theorem vY {e:D} (ho:e.one=true):TOp.eval E (.chk false 1) [e]=some e:=by
 rw [dD]
 have h:Nat.beq 1 1=true:=rfl
 simp only [bX,cond_false,ho,h,Bool.and_self,cond_true]
theorem xW {off size:Nat} {cs:List D} (h:Nat.ble (off+size) cs.length=true):TOp.eval E (.fld true size off) [.agg cs]=some (.agg ((cs.drop off).take size)):=by
 rw [qAP]
 simp only [nG,cond_true,D.cells,h]
theorem lM {a b:Tree} {Q:Res1->Prop} {ρ:List D} (h:wp E HS Q a ρ):wp E HS Q (if true=true then a else b) ρ:=h
theorem mZ {a b:Tree} {Q:Res1->Prop} {ρ:List D} (h:wp E HS Q b ρ):wp E HS Q (if false=true then a else b) ρ:=h
theorem rK {k:IntKind} {n:Int}:xU (.int k) (.leaf (.int k n)):=⟨n,rfl⟩
theorem tB:v6 [] []:=rfl
theorem yA {s:Sh} {ss:List Sh} {d:D} {ds:List D} (h:xU s d) (hs:v6 ss ds):v6 (s::ss) (d::ds):=⟨d,ds,rfl,h,hs⟩
theorem sO {P:Program} {op:BinOp} {t:TypeId} {x y:Operand} {a b:ByteArray}:qT P (eqGuard op t x y (.string a) (.string b))=some ():=by
 unfold eqGuard
 cases op <;> simp [vE]
theorem tZ (a b:ByteArray):(a.toList == b.toList)=(a == b):=by
 rw [ByteArray.toList_eq,ByteArray.toList_eq]
 cases h:(a == b) with
 | true=>rw [qMa h]; exact beq_self_eq_true _
 | false =>
  cases h2:(a.data.toList == b.data.toList) with
  | false=>rfl
  | true =>
   have he:a.data.toList=b.data.toList:=eq_of_beq h2
   have:a=b:=by
    obtain ⟨⟨a⟩⟩:=a
    obtain ⟨⟨b⟩⟩:=b
    simp only at he
    rw [he]
   rw [this,qGs] at h
   cases h
theorem eC {t:TypeId} {x y:Operand} {a b:ByteArray}:TOp.eval E (.bin .neq t x y) [.leaf (.string a),.leaf (.string b)]=some (dB (!(a == b))):=by
 rw [rQ]
 have hf:∀ s:ByteArray,zI (.string s)=true:=fun _=>rfl
 have:yE E .neq t x y (.string a) (.string b)=some (.bool (!(a == b))):=by
  unfold yE
  simp only [hf,Bool.and_self,cond_true,vM,sO,Option.bind_some,binOp,Op.stringOp,tZ,vE]
  rfl
 simp only [D.toV,this]; rfl
theorem qCE {t:TypeId} {x y:Operand} {a b:ByteArray}:TOp.eval E (.bin .eql t x y) [.leaf (.string a),.leaf (.string b)]=some (dB (a == b)):=by
 rw [rQ]
 have hf:∀ s:ByteArray,zI (.string s)=true:=fun _=>rfl
 have:yE E .eql t x y (.string a) (.string b)=some (.bool (a == b)):=by
  unfold yE
  simp only [hf,Bool.and_self,cond_true,vM,sO,Option.bind_some,binOp,Op.stringOp,tZ,vE]
  rfl
 simp only [D.toV,this]; rfl
end
end Go.Am
namespace Go.Am
open Go
theorem qLW (a b:Value):qVA (.leaf a) (.leaf b)=qRn a b:=by simp only [qVA]
theorem qLU:lW [] []=true:=by simp only [lW]
theorem qIW (a b:D) (as bs:List D):lW (a::as) (b::bs)=(qVA a b && lW as bs):=by simp only [lW]
theorem qMQ (k l:IntKind) (a b:Int):qRn (.int k a) (.int l b)=decide (a=b):=rfl
section
variable {E:Env} {HS:FuncId->List D->D->Prop} {Q:Res1->Prop}
theorem qD {Ts:Nat->Tree} {xs:List SV} {ρ:List D} {d d':D} (hx:SV.ds (getD ρ) xs=[d']) (h:d'=d):wp E HS (To E HS Ts d) (.ret xs) ρ:=by
 simp only [wp,hx,To,bT]; exact h
theorem qF {Ts:Nat->Tree} {k:Nat} {xs:List SV} {ρ ds:List D} {d:D} (hx:SV.ds (getD ρ) xs=ds) (h:qG E HS Ts k ds d):wp E HS (To E HS Ts d) (.jump k xs) ρ:=by
 simp only [wp,hx,To]; exact h
theorem qKs {el sz size off:Nat} {d:D} {i:Nat} {cs:List D} (h:nV el sz d) (he:d.es[i]? = some (.agg cs)) (hc:cs.length=sz) (ho:off+size<=sz) (hn:¬ (off=0/\size=sz)) :
  TOp.eval E (.elem sz true size off) [d,dI (i:Int)]=some (.agg ((cs.drop off).take size)):=by
 rw [fH]
 have h1:nQ d (dI (i:Int))=some (.agg cs):=he
 have h2:Nat.ble (off+size) sz=true:=bL ho
 have h5:Nat.ble (off+size) cs.length=true:=by rw [hc]; exact h2
 have h3:Nat.beq sz sz=true:=Nat.beq_refl _
 have h4:(Nat.beq off 0 && Nat.beq size sz)=false:=by
  cases h:(Nat.beq off 0 && Nat.beq size sz) with
  | false=>rfl
  | true =>
   simp only [aE] at h
   exact absurd ⟨vU h.1,vU h.2⟩ hn
 simp only [h1,qCD h he,h3,h2,h4,h5,cond_true,cond_false,Bool.and_self,Bool.true_and,Bool.and_true,nG,D.cells]
theorem qJr {ρ':List D} {o:TOp} {xs:List SV} {r:Tree} {ρ ds:List D} {d:D} (h:o.eval E ds=some d) (hx:SV.ds (getD ρ) xs=ds) (hρ:ρ++[d]=ρ') (hr:wp E HS Q r ρ'):wp E HS Q (.bind o xs r) ρ :=
 qML h hx (hρ ▸ hr)
theorem qJq {ρ':List D} {tg:Tgt} {xs:List SV} {fl:Nat} {r:Tree} {ρ ds as:List D} {f:FuncId} {d:D} (h:HS f as d) (hx:SV.ds (getD ρ) xs=ds) (ht:uA E tg ds=some (f,as)) (hf:qCj fl d=true) (hρ:ρ++[d]=ρ') (hr:wp E HS Q r ρ'):wp E HS Q (.call tg xs fl r) ρ :=
 qMK h hx ht hf (hρ ▸ hr)
theorem qEN {a b:Bool} (h:a=b):dB a=dB b:=by rw [h]
end
class Snoc (ρ:List D) (d:D) (ρ':outParam (List D)):Prop where
 h:ρ++[d]=ρ'
instance (d:D):Snoc [] d [d]:=⟨rfl⟩
instance {x:D} {ρ ρ':List D} {d:D} [s:Snoc ρ d ρ']:Snoc (x::ρ) d (x::ρ'):=⟨congrArg (x :: ·) s.h⟩
theorem iC {E : Env} {HS : FuncId -> List D -> D -> Prop} {Q : Res1 -> Prop} {i : Nat} {a b : Tree} {ρ : List D} {t : Bool} (ht : t = true -> wp E HS Q a ρ) (hf : t = false -> wp E HS Q b ρ) (h : getD ρ i = dB t := by rfl) : wp E HS Q (.ite (.v i) a b) ρ := qMJ h ht hf
theorem bS {E:Env} {HS:FuncId->List D->D->Prop} {Q:Res1->Prop} {ρ':List D} {o:TOp} {xs:List SV} {r:Tree} {ρ ds:List D} {d:D} [s:Snoc ρ d ρ'] (h:o.eval E ds=some d) (hr:wp E HS Q r ρ') (hx:SV.ds (getD ρ) xs=ds:=by rfl):wp E HS Q (.bind o xs r) ρ:=qJr h hx s.h hr
theorem cS {E:Env} {HS:FuncId->List D->D->Prop} {Q:Res1->Prop} {ρ':List D} {tg:Tgt} {xs:List SV} {fl:Nat} {r:Tree} {ρ ds as:List D} {f:FuncId} {d:D} [s:Snoc ρ d ρ'] (h:HS f as d) (hr:wp E HS Q r ρ') (hx:SV.ds (getD ρ) xs=ds:=by rfl) (ht:uA E tg ds=some (f,as):=by rfl) (hf:qCj fl d=true:=by rfl):wp E HS Q (.call tg xs fl r) ρ:=qJq h hx ht hf s.h hr
end Go.Am
