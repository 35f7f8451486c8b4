/- Shapes of data, and their equality. Conditions: none. -/
import Derived.Test.YtminhjecpnpaeaaGreatDoorSx4
set_option linter.unusedVariables false
set_option linter.unusedSimpArgs false
namespace Go.Am
open Go
inductive Sh where
 | int (k:IntKind)
 | bool
 | str
 | st (fs:List Sh)
 | sl (el sz:Nat) (e:Sh)
mutual
def vA:Sh->D->Prop
 | .int k,d=>∃ n,d=.leaf (.int k n)
 | .bool,d=>∃ b,d=.leaf (.bool b)
 | .str,d=>∃ s,d=.leaf (.string s)
 | .st fs,d=>∃ cs,d=.agg cs/\vU fs cs
 | .sl el sz e,d=>d=.nil∨∃ es,d=.sl el sz es/\es.length < z8/\∀ x∈es,vA e x
def vU:List Sh->List D->Prop
 | [],l=>l=[]
 | s::ss,l=>∃ d ds,l=d::ds/\vA s d/\vU ss ds
end
def qJT:Value->Value->Bool
 | .int _ a,.int _ b=>decide (a=b)
 | .bool a,.bool b=>decide (a=b)
 | .string a,.string b=>a == b
 | _,_=>false
mutual
def kD:D->D->Bool
 | .leaf a,.leaf b=>qJT a b
 | .agg as,.agg bs=>deqs as bs
 | .nil,b=>match b with
  | .nil=>true
  | .sl _ _ bs=>bs.isEmpty
  | _=>false
 | .sl _ _ as,b=>match b with
  | .nil=>as.isEmpty
  | .sl _ _ bs=>deqs as bs
  | _=>false
 | _,_=>false
def deqs:List D->List D->Bool
 | [],[]=>true
 | a::as,b::bs=>kD a b && deqs as bs
 | _,_=>false
end
theorem vG {α β:Type} (P:Program) (x:Sem α) (f:α->Sem β):qW P (x >>= f)=(qW P x).bind fun a=>qW P (f a):=by
 show qW P (x.bind f)=_
 induction x with
 | pure a=>rfl
 | program k ih=>exact ih P
 | mark m k ih=>exact ih
 | _=>rfl
theorem kP (P:Program):qW P program=some P:=rfl
theorem zS {α:Type} (P:Program) (a:α):qW P (pure a)=some a:=rfl
inductive VSh:Sh->Value->Prop
 | int {k:IntKind} {n:Int}:VSh (.int k) (.int k n)
 | bool {b:Bool}:VSh .bool (.bool b)
 | str {s:ByteArray}:VSh .str (.string s)
def qMN:TypeDesc->Option Sh
 | .bool=>some .bool
 | .int k=>some (.int k)
 | .string=>some .str
 | _=>none
def qNM (P:Program) (rec:TypeId->Option (List Sh)):List Field->List Sh->Option (List Sh)
 | [],acc=>some acc
 | f :: r, acc => bif f.name == "_" || !(Nat.beq f.offset acc.length) then none else match rec f.type, P.info? f.type with
  | some s,some i=>bif Nat.beq i.size s.length then qNM P rec r (acc++s) else none
  | _,_=>none
def nO (P:Program):Nat->TypeId->Option (List Sh)
 | 0,_=>none
 | n+1,t=>match P.underlying t with
  | some (.struct fs)=>bif P.stoodInHeld t then none else qNM P (nO P n) fs.toList []
  | some d=>match qMN d with
   | some s=>some [s]
   | none=>none
  | none=>none
def oO (P:Program) (t:TypeId):Bool:=match P.underlying t with
 | some (.struct _)=>true
 | _=>false
def qMW (st:Bool) (vs:List Value):Value:=bif st then .agg ⟨vs⟩ else vs.headD (.bool false)
def m8:List Value->List Value->Bool
 | [],[]=>true
 | a::as,b::bs=>qJT a b && m8 as bs
 | _,_=>false
inductive VShs:List Sh->List Value->Prop
 | nil:VShs [] []
 | cons {s:Sh} {v:Value} {ss:List Sh} {vs:List Value} (h:VSh s v) (hs:VShs ss vs):VShs (s::ss) (v::vs)
theorem VShs.length:∀ {ss:List Sh} {vs:List Value},VShs ss vs->vs.length=ss.length
 | _,_,.nil=>rfl
 | _,_,.cons _ h=>by simp [VShs.length h]
theorem VShs.split:∀ {a b:List Sh} {vs:List Value},VShs (a++b) vs->∃ x y,vs=x++y/\VShs a x/\VShs b y
 | [],_,vs,h=>⟨[],vs,rfl,.nil,h⟩
 | s::a,b,_,.cons h hs=>by
  obtain ⟨x,y,rfl,h1,h2⟩:=VShs.split (a:=a) hs
  exact ⟨_::x,y,rfl,.cons h h1,h2⟩
theorem qEZ:∀ {a b c d:List Value},a.length=c.length->m8 (a++b) (c++d)=(m8 a c && m8 b d)
 | [],b,[],d,_=>by simp [m8]
 | x::a,b,y::c,d,h=>by
  simp only [List.cons_append,m8,qEZ (show a.length=c.length by simpa using h),Bool.and_assoc]
 | [],_,_::_,_,h=>by simp at h
 | _::_,_,[],_,h=>by simp at h
theorem qBp {P:Program} {t:TypeId} {d:TypeDesc} (h:P.underlying t=some d):qW P (underlying t)=some d:=by
 unfold underlying
 simp only [vG,kP,Option.bind_some,h,zS]
theorem qKf {P:Program} {t:TypeId} {i:TypeInfo} (h:P.info? t=some i):qW P (sizeOf t)=some i.size:=by
 unfold sizeOf typeInfo
 simp only [vG,kP,Option.bind_some,h,zS]
theorem qMm {P:Program} {n:Nat} {t:TypeId} {s:List Sh} (h:nO P n t=some s):qW P (isAgg t)=some (oO P t)/\(oO P t=false->s.length=1):=by
 cases n with
 | zero=>cases h
 | succ n =>
  simp only [nO] at h
  unfold isAgg
  cases hu:P.underlying t with
  | none=>rw [hu] at h; cases h
  | some d =>
   simp only [vG,qBp hu,Option.bind_some,oO,hu]
   rw [hu] at h
   cases d <;> simp only [qMN] at h <;> first | (cases h; done) | skip
   all_goals first
    | exact ⟨rfl,fun (e:true=false)=>Bool.noConfusion e⟩
    | (cases h; exact ⟨rfl,fun _=>rfl⟩)
    | (simp only [oI] at h; subst h; exact ⟨rfl,fun _=>rfl⟩)
theorem qDe {P:Program} {n:Nat} {t:TypeId} {s:List Sh} {i:TypeInfo} (h:nO P n t=some s) (hi:P.info? t=some i) (hs:i.size=s.length) (a x b:List Value) (hx:x.length=s.length) :
  qW P (part t ⟨a++(x++b)⟩ a.length)=some (qMW (oO P t) x):=by
 obtain ⟨h1,h2⟩:=qMm h
 unfold part
 simp only [vG,h1,Option.bind_some]
 cases hst:oO P t with
 | true =>
  simp only [if_true,vG,qKf hi,Option.bind_some,zS,qMW,cond_true]
  congr 2
  apply Array.ext'
  simp [List.extract_eq_take_drop,hs,← hx]
 | false =>
  have hl:=h2 hst
  rw [hl] at hx
  match x,hx with
  | [v],_=>simp [qMW,zS]
theorem qJp {P:Program} {n d:Nat} (ih:∀ t s,nO P n t=some s->∀ us vs:List Value,VShs s us->VShs s vs->qW P (Op.equalIn d t (qMW (oO P t) us) (qMW (oO P t) vs))=some (m8 us vs)) :
  ∀ (fl:List Field) (acc s:List Sh),qNM P (nO P n) fl acc=some s->∃ rest,s=acc++rest/\∀ (ua va ru rv:List Value),ua.length=acc.length->va.length=acc.length->VShs rest ru->VShs rest rv ->
   qW P (forIn fl ((none,()):Option Bool × Unit) fun f __s =>
      if f.name ≠ "_" then do
       let __do_lift ← part f.type { toList:=ua++ru } f.offset
       let __do_lift_1 ← part f.type { toList:=va++rv } f.offset
       let __do_lift ← Op.equalIn d f.type __do_lift __do_lift_1
       if (!__do_lift)=true then pure (ForInStep.done (some false,())) else pure (ForInStep.yield (none,()))
      else pure (ForInStep.yield (none,())))=some (if m8 ru rv=true then (none,()) else (some false,()))
 | [],acc,s,h=>by
  simp only [qNM,oI] at h
  subst h
  refine ⟨[],by simp,?_⟩
  intro ua va ru rv _ _ h1 h2
  cases h1; cases h2
  simp [m8,zS]
 | f::r,acc,s,h=>by
  simp only [qNM] at h
  cases hc : (f.name == "_" || !(Nat.beq f.offset acc.length)) with
  | true=>rw [hc] at h; cases h
  | false =>
   rw [hc] at h
   simp only [cond_false] at h
   simp only [Bool.or_eq_false_iff,Bool.not_eq_false',beq_eq_false_iff_ne,ne_eq] at hc
   have hoff:=jF hc.2
   split at h
   case h_2=>cases h
   rename_i s1 i hs1 hi
   simp only [zC] at h
   split at h
   case isFalse=>cases h
   rename_i hsz
   obtain ⟨rest,rfl,hr⟩:=qJp ih r (acc++s1) s h
   refine ⟨s1++rest,by simp,?_⟩
   intro ua va ru rv hua hva h1 h2
   obtain ⟨x,xr,rfl,x1,x2⟩:=h1.split
   obtain ⟨y,yr,rfl,y1,y2⟩:=h2.split
   have hp1:=qDe hs1 hi hsz ua x xr x1.length
   have hp2:=qDe hs1 hi hsz va y yr y1.length
   rw [hua,← hoff] at hp1
   rw [hva,← hoff] at hp2
   have heq:=ih _ _ hs1 x y x1 y1
   have hr':=hr (ua++x) (va++y) xr yr (by simp [hua,x1.length]) (by simp [hva,y1.length]) x2 y2
   simp only [List.append_assoc] at hr'
   rw [qEZ (by rw [x1.length,y1.length])]
   simp only [List.forIn_cons,ne_eq,hc.1,not_false_eq_true,if_true,vG,hp1,hp2,heq,Option.bind_some]
   cases hv:m8 x y with
   | true =>
    simp only [Bool.not_true,Bool.false_eq_true,if_false,zS,Option.bind_some,Bool.true_and]
    exact hr'
   | false=>simp [zS]
theorem qSP {P:Program}:∀ (n t:Nat) (s:List Sh),nO P n t=some s->∀ (d:Nat),n<=d->∀ us vs:List Value,VShs s us->VShs s vs->qW P (Op.equalIn d t (qMW (oO P t) us) (qMW (oO P t) vs))=some (m8 us vs):=by
 intro n
 induction n with
 | zero=>intro t s h; cases h
 | succ n ih =>
  intro t s h d hd us vs hu hv
  obtain ⟨d,rfl⟩:∃ d',d=d'+1:=⟨d - 1,by omega⟩
  simp only [nO] at h
  rw [Op.equalIn]
  split at h
  ·rename_i fs hund
   have hst:oO P t=true:=by simp only [oO,hund]
   cases hh:P.stoodInHeld t with
   | true=>rw [hh] at h; cases h
   | false =>
    rw [hh] at h
    simp only [cond_false] at h
    simp only [vG,qBp hund,Option.bind_some,hst,qMW,cond_true,kP,hh,Bool.false_eq_true,if_false,← Array.forIn_toList]
    generalize fs.toList=fl at h
    obtain ⟨rest,hs,hr⟩:=qJp (d:=d) (fun t s h us vs hu hv=>ih t s h d (by omega) us vs hu hv) fl [] s h
    simp only [List.nil_append] at hs
    subst hs
    have:=hr [] [] us vs rfl rfl hu hv
    simp only [List.nil_append] at this
    rw [this]
    cases m8 us vs <;> simp [zS]
  ·rename_i dd hne hund
   split at h
   case h_2=>cases h
   rename_i s1 hs1
   cases h
   have hst:oO P t=false:=by
    unfold oO
    rw [hund]
    split
    ·rename_i fs e; cases e; exact absurd rfl (hne _)
    rfl
   simp only [vG,qBp hund,Option.bind_some,hst,qMW,cond_false]
   cases hu with
   | cons h1 h2=>cases h2; cases hv with
    | cons h3 h4 =>
     cases h4
     cases dd <;> simp only [qMN,oI] at hs1 <;> first | (cases hs1; done) | subst hs1
     ·cases h1; cases h3; simp only [List.headD_cons,zS,m8,qJT,Bool.and_true]
      rename_i a b
      cases a <;> cases b <;> rfl
     ·cases h1; cases h3; simp only [List.headD_cons,if_true,zS,m8,qJT,Bool.and_true]; rfl
     cases h1; cases h3
     rename_i a b
     simp only [List.headD_cons,zS,m8,qJT,Bool.and_true]
  cases h
theorem bP (a:ByteArray):(a == a)=true:=by
 obtain ⟨a⟩:=a
 show (a == a)=true
 exact beq_self_eq_true a
theorem qN4 {a b:ByteArray} (h:(a == b)=true):a=b:=by
 obtain ⟨a⟩:=a
 obtain ⟨b⟩:=b
 have h:(a == b)=true:=h
 rw [eq_of_beq h]
end Go.Am
namespace Go.Am
open Go
def xL (el sz:Nat) (d:D):Prop:=d=.nil∨∃ es,d=.sl el sz es/\es.length < z8
abbrev dI (n:Int):D:=.leaf (.int .i64 n)
abbrev dB (b:Bool):D:=.leaf (.bool b)
section
variable {E:Env} {HS:FuncId->List D->D->Prop} {Q:Res1->Prop}
theorem qOy {o:TOp} {xs:List SV} {r:Tree} {ρ ds:List D} {d:D} (h:o.eval E ds=some d) (hx:SV.ds (getD ρ) xs=ds) (hr:wp E HS Q r (ρ++[d])):wp E HS Q (.bind o xs r) ρ:=by
 simp only [wp,hx,h]; exact hr
theorem qOx {tg:Tgt} {xs:List SV} {fl:Nat} {r:Tree} {ρ ds as:List D} {f:FuncId} {d:D} (h:HS f as d) (hx:SV.ds (getD ρ) xs=ds) (ht:qA5 E tg ds=some (f,as)) (hf:qDC fl d=true) (hr:wp E HS Q r (ρ++[d])):wp E HS Q (.call tg xs fl r) ρ:=by
 simp only [wp,hx,ht]; exact ⟨d,h,hf,hr⟩
theorem qL {el sz:Nat} {d:D} (h:xL el sz d):TOp.eval E (.len false) [d]=some (dI d.es.length):=by
 rcases h with rfl | ⟨es,rfl,_⟩ <;> rfl
theorem qMc {el sz:Nat} {d:D} (h:xL el sz d):d.es.length < z8:=by
 rcases h with rfl | ⟨es,rfl,h⟩
 ·show 0 < z8; unfold z8; omega
 exact h
theorem vM {d:D} {i:Nat} {e:D} (he:d.es[i]? = some e):TOp.eval E .inr [d,dI (i:Int)]=some (dB true):=by
 rw [qHZ]
 have:lX d (dI (i:Int))=some e:=he
 rw [this]; rfl
theorem qEb {el sz:Nat} {d:D} {i:Nat} {e:D} (h:xL el sz d) (he:d.es[i]? = some e):d.szD=sz:=by
 rcases h with rfl | ⟨es,rfl,_⟩
 ·simp [D.es] at he
 rfl
theorem jO {el sz:Nat} {d:D} {i:Nat} {cs:List D} (h:xL el sz d) (he:d.es[i]? = some (.agg cs)) (hc:cs.length=sz):TOp.eval E (.elem sz true sz 0) [d,dI (i:Int)]=some (.agg cs):=by
 rw [sI]
 have h1:lX d (dI (i:Int))=some (.agg cs):=he
 have h2:Nat.ble (0+sz) sz=true:=bL (by omega)
 have h3:Nat.beq sz sz=true:=Nat.beq_refl _
 have h4:Nat.beq 0 0=true:=rfl
 simp only [h1,qEb h he,h3,h2,h4,cond_true,Bool.and_self,eT,hc,zC,if_true]
theorem xP {el:Nat} {d:D} {i:Nat} {e:D} (h:xL el 1 d) (he:d.es[i]? = some e) (ho:e.one=true):TOp.eval E (.elem 1 false 1 0) [d,dI (i:Int)]=some e:=by
 rw [sI]
 have h1:lX d (dI (i:Int))=some e:=he
 simp only [h1,qEb h he]
 cases e <;> first | rfl | (cases ho; done)
theorem rU {el sz off:Nat} {d:D} {i:Nat} {cs:List D} {e:D} (h:xL el sz d) (he:d.es[i]? = some (.agg cs)) (hc:cs[off]? = some e) (ho:e.one=true) (hoff:off < sz):TOp.eval E (.elem sz false 1 off) [d,dI (i:Int)]=some e:=by
 rw [sI]
 have h1:lX d (dI (i:Int))=some (.agg cs):=he
 have h2:Nat.ble (off+1) sz=true:=bL hoff
 have h3:Nat.beq sz sz=true:=Nat.beq_refl _
 simp only [h1,qEb h he,h3,cond_false,h2,Bool.and_self,cond_true,Bool.false_and,lL,D.cells,hc,ho]
theorem qU {cs:List D} {n:Nat} (h:cs.length=n):TOp.eval E (.chk true n) [.agg cs]=some (.agg cs):=by
 rw [iB]; simp only [eT,cond_true,h,zC,if_true]
theorem j9 {t:TypeId} {x y:Operand} {m n:Int}:TOp.eval E (.bin .lss t x y) [dI m,dI n]=some (dB (decide (m < n))):=rfl
theorem yI {t:TypeId} {x y:Operand} {m n:Int}:TOp.eval E (.bin .neq t x y) [dI m,dI n]=some (dB (m != n)):=rfl
theorem qSZ {n:Nat} (h:n < z8):IntKind.i64.wrap (n:Int)=(n:Int):=by
 have h':n < 9223372036854775808:=h
 have h2:(n:Int) < 9223372036854775808:=by omega
 have h1:(n:Int) % 2 ^ 64=(n:Int):=by omega
 simp only [IntKind.wrap,IntKind.bits,IntKind.signed,h1]
 rw [if_neg]
 simp only [aE,decide_eq_true_eq,not_and,ge_iff_le,Int.not_le]
 intro _
 exact h2
theorem zA {t:TypeId} {x y:Operand} {n:Nat} (h:n+1 < z8):TOp.eval E (.bin .add t x y) [dI (n:Int),dI 1]=some (dI ((n+1:Nat):Int)):=by
 have h0:TOp.eval E (.bin .add t x y) [dI (n:Int),dI 1]=some (dI (IntKind.i64.wrap ((n:Int)+1))):=rfl
 rw [h0,show ((n:Int)+1)=((n+1:Nat):Int) by omega,qSZ h]
theorem vV {t:TypeId} {b:Bool}:TOp.eval E (.un .not t) [dB b]=some (dB (!b)):=rfl
theorem zY {i:Nat} {a b:Tree} {ρ:List D} {t:Bool} (h:getD ρ i=dB t) (hw:wp E HS Q (if t then a else b) ρ):wp E HS Q (.ite (.v i) a b) ρ:=by
 simp only [wp,SV.d,h]
 cases t <;> exact hw
theorem qOw {i:Nat} {a b:Tree} {ρ:List D} {t:Bool} (h:getD ρ i=dB t) (ht:t=true->wp E HS Q a ρ) (hf:t=false->wp E HS Q b ρ):wp E HS Q (.ite (.v i) a b) ρ:=by
 simp only [wp,SV.d,h]
 cases t
 ·exact hf rfl
 exact ht rfl
def To (E:Env) (HS:FuncId->List D->D->Prop) (Ts:Nat->Tree) (d:D) (r:Res1):Prop:=match r with
 | .ret d'=>d'=d
 | .jump k ds=>qK E HS Ts k ds d
def fF (k:Nat) (next:List D) (p:Bool) (r:Res1):Prop:=match r with
 | .ret d'=>d'=dB false/\p=false
 | .jump k' ds=>k'=k/\ds=next/\p=true
theorem qK.step' {Ts:Nat->Tree} {k:Nat} {ρ:List D} {d:D} (h:wp E HS (To E HS Ts d) (Ts k) ρ):qK E HS Ts k ρ d:=by
 obtain ⟨r,h1,h2⟩:=pK _ _ h
 refine qK.step (h2 _ ?_)
 cases r <;> exact h1
theorem qFK {Ts:Nat->Tree} {k:Nat} {ρ:Nat->List D} {N:Nat} {P:Nat->Bool} {rest:Bool}
  (step:∀ i,i < N->wp E HS (fF k (ρ (i+1)) (P i)) (Ts k) (ρ i))
  (last:wp E HS (To E HS Ts (dB rest)) (Ts k) (ρ N)) :
  ∀ m i,i+m=N->qK E HS Ts k (ρ i) (dB ((List.range' i m).all P && rest))
 | 0,i,h=>by
  have hi:i=N:=h
  subst hi
  exact qK.step' last
 | m+1,i,h=>by
  refine qK.step' ?_
  obtain ⟨r,h1,h2⟩:=pK _ _ (step i (by omega))
  refine h2 _ ?_
  cases r with
  | ret d' =>
   simp only [fF] at h1
   simp only [To]
   rw [h1.1,List.range'_succ,List.all_cons,h1.2]; rfl
  | jump k' ds =>
   simp only [fF] at h1
   simp only [To]
   obtain ⟨rfl,rfl,hp⟩:=h1
   have:=qFK step last m (i+1) (by omega)
   rw [List.range'_succ,List.all_cons,hp,Bool.true_and]
   exact this
def qDB:Sh->Bool
 | .int _ | .bool | .str=>true
 | _=>false
theorem tS:∀ {ss:List Sh} {cs:List D},ss.all qDB=true->vU ss cs->∃ vs,cs=vs.map .leaf/\VShs ss vs
 | [],cs,_,h=>by simp only [vU] at h; exact ⟨[],by simp [h],.nil⟩
 | s::ss,cs,hf,h=>by
  simp only [vU] at h
  obtain ⟨d,ds,rfl,h1,h2⟩:=h
  simp only [List.all_cons,aE] at hf
  obtain ⟨vs,rfl,h3⟩:=tS hf.2 h2
  cases s with
  | int k=>simp only [vA] at h1; obtain ⟨n,rfl⟩:=h1; exact ⟨_::vs,rfl,.cons .int h3⟩
  | bool=>simp only [vA] at h1; obtain ⟨n,rfl⟩:=h1; exact ⟨_::vs,rfl,.cons .bool h3⟩
  | str=>simp only [vA] at h1; obtain ⟨n,rfl⟩:=h1; exact ⟨_::vs,rfl,.cons .str h3⟩
  | st _=>cases hf.1
  | sl _ _ _=>cases hf.1
theorem qC7:∀ vs:List Value,D.toVs (vs.map .leaf)=some vs
 | []=>rfl
 | v::vs=>by simp only [List.map_cons,D.toVs,D.toV,qC7 vs]
theorem qDL:∀ us vs:List Value,deqs (us.map .leaf) (vs.map .leaf)=m8 us vs
 | [],[]=>rfl
 | [],_::_=>rfl
 | _::_,[]=>rfl
 | u::us,v::vs=>by simp only [List.map_cons,deqs,kD,m8,qDL us vs]
theorem iN:∀ {ss:List Sh} {vs:List Value},VShs ss vs->zP (.agg ⟨vs⟩)=true
 | ss,vs,h=>by
  show zI 6 _=true
  simp only [zI,List.all_eq_true,aE]
  intro v hv
  have:∀ {ss:List Sh} {vs:List Value},VShs ss vs->∀ v∈vs,qQ v=true/\zI 5 v=true:=by
   intro ss vs h
   induction h with
   | nil=>intro v hv; cases hv
   | cons h hs ih =>
    intro v hv
    rcases List.mem_cons.1 hv with rfl | hv
    ·cases h <;> exact ⟨rfl,rfl⟩
    exact ih v hv
  exact this h v hv
theorem nV (op:BinOp) (hop:op=.neq∨op=.eql) {n:Nat} {t:TypeId} {ss:List Sh} (ht:nO E.prog n t=some ss) (hst:oO E.prog t=true) (hn:n<=10000) (hg:E.prog.eqGuardType E.prog.depth t=false) (hf:ss.all qDB=true) {x y:Operand} {as bs:List D}
  (ha:vU ss as) (hb:vU ss bs):TOp.eval E (.bin op t x y) [.agg as,.agg bs]=some (dB (match op with | .neq=>!(deqs as bs) | _=>deqs as bs)):=by
 obtain ⟨us,rfl,hu⟩:=tS hf ha
 obtain ⟨vs,rfl,hv⟩:=tS hf hb
 rw [bN]
 simp only [D.toV,qC7,Option.map_some,qDL]
 have heq:=qSP n t ss ht 10000 hn us vs hu hv
 simp only [hst,qMW,cond_true] at heq
 have hguard:∀ op,qW E.prog (eqGuard op t x y (.agg ⟨us⟩) (.agg ⟨vs⟩))=some ():=by
  intro op
  unfold eqGuard
  cases op <;> simp [vG,kP,hg,zS]
 rcases hop with rfl | rfl
 ·have hb:binOp .neq t (.agg ⟨us⟩) (.agg ⟨vs⟩)=(Op.equal t (.agg ⟨us⟩) (.agg ⟨vs⟩) >>= fun r=>pure (.bool (!r))):=by unfold binOp; rfl
  have:rG E .neq t x y (.agg ⟨us⟩) (.agg ⟨vs⟩)=some (.bool (!(m8 us vs))):=by
   unfold rG
   simp only [iN hu,iN hv,Bool.and_self,cond_true,vG,hguard,Option.bind_some,hb,Op.equal,Op.maxDepth,heq,zS]
   rfl
  rw [this]; rfl
 have hb:binOp .eql t (.agg ⟨us⟩) (.agg ⟨vs⟩)=(Op.equal t (.agg ⟨us⟩) (.agg ⟨vs⟩) >>= fun r=>pure (.bool r)):=by unfold binOp; rfl
 have:rG E .eql t x y (.agg ⟨us⟩) (.agg ⟨vs⟩)=some (.bool (m8 us vs)):=by
  unfold rG
  simp only [iN hu,iN hv,Bool.and_self,cond_true,vG,hguard,Option.bind_some,hb,Op.equal,Op.maxDepth,heq,zS]
  rfl
 rw [this]; rfl
end
end Go.Am
namespace Go.Am
open Go
theorem zB {el sz:Nat} {e:Sh} {d:D} (h:vA (.sl el sz e) d):xL el sz d:=by
 simp only [vA] at h
 rcases h with h | ⟨es,h,h2,_⟩
 ·exact .inl h
 exact .inr ⟨es,h,h2⟩
theorem jE {el sz:Nat} {e:Sh} {d x:D} {i:Nat} (h:vA (.sl el sz e) d) (hx:d.es[i]? = some x):vA e x:=by
 simp only [vA] at h
 rcases h with rfl | ⟨es,rfl,_,h⟩
 ·simp [D.es] at hx
 exact h x (List.mem_of_getElem? hx)
theorem xL.one {el sz:Nat} {d:D} (h:xL el sz d):d.one=true:=by
 rcases h with rfl | ⟨es,rfl,_⟩ <;> rfl
theorem uD {el sz jA sz':Nat} {a b:D} (ha:xL el sz a) (hb:xL jA sz' b):kD a b=deqs a.es b.es:=by
 rcases ha with rfl | ⟨as,rfl,_⟩ <;> rcases hb with rfl | ⟨bs,rfl,_⟩
 ·rfl
 ·simp only [kD,D.es]
  cases bs <;> rfl
 ·simp only [kD,D.es]
  cases as <;> rfl
 simp only [kD,D.es]
theorem qGv:∀ {as bs:List D},as.length≠bs.length->deqs as bs=false
 | [],[],h=>absurd rfl h
 | [],_::_,_=>rfl
 | _::_,[],_=>rfl
 | a::as,b::bs,h=>by
  simp only [deqs,qGv (show as.length≠bs.length by simpa using h),Bool.and_false]
theorem sM:∀ (as bs pa pb:List D),pa.length=pb.length->as.length=bs.length->deqs as bs=(List.range' pa.length as.length).all fun i=>kD ((pa++as).getD i .nil) ((pb++bs).getD i .nil)
 | [],[],pa,pb,_,_=>by simp [deqs]
 | [],_::_,_,_,_,h=>by simp at h
 | _::_,[],_,_,_,h=>by simp at h
 | a::as,b::bs,pa,pb,h1,h2=>by
  have ih:=sM as bs (pa++[a]) (pb++[b]) (by simp [h1]) (by simpa using h2)
  simp only [List.append_assoc,List.cons_append,List.nil_append,List.length_append,List.length_cons,List.length_nil,Nat.zero_add] at ih
  simp only [deqs,List.length_cons,List.range'_succ,List.all_cons,ih]
  congr 1
  have e1:(pa++a::as).getD pa.length D.nil=a:=by simp
  have e2:(pb++b::bs).getD pa.length D.nil=b:=by rw [h1]; simp
  rw [e1,e2]
section
variable {E:Env} {HS:FuncId->List D->D->Prop}
theorem qPE {Ts:Nat->Tree} {k:Nat} {ρ:Nat->List D} {el sz jA sz':Nat} {a b:D} {rest:Bool} (ha:xL el sz a) (hb:xL jA sz' b) (hl:a.es.length=b.es.length)
  (step:∀ i x y,a.es[i]? = some x->b.es[i]? = some y->i < a.es.length->i+1 < z8->wp E HS (fF k (ρ (i+1)) (kD x y)) (Ts k) (ρ i))
  (last:wp E HS (To E HS Ts (dB rest)) (Ts k) (ρ a.es.length)):qK E HS Ts k (ρ 0) (dB (kD a b && rest)):=by
 rw [uD ha hb]
 have hall:=sM a.es b.es [] [] rfl hl
 simp only [List.nil_append,List.length_nil] at hall
 rw [hall]
 refine qFK (P:=fun i=>kD (a.es.getD i .nil) (b.es.getD i .nil)) ?_ last a.es.length 0 (Nat.zero_add _)
 intro i hi
 have h1:a.es[i]? = some a.es[i]:=List.getElem?_eq_getElem hi
 have h2:b.es[i]? = some (b.es[i]'(by omega)):=List.getElem?_eq_getElem (by omega)
 have hs:=step i _ _ h1 h2 hi (by have:=qMc ha; omega)
 have e1:a.es.getD i .nil=a.es[i]:=by simp [h1]
 have e2:b.es.getD i .nil=b.es[i]'(by omega):=by simp [h2]
 simp only [e1,e2]
 exact hs
theorem yF {Ts:Nat->Tree} {k:Nat} {ρ:Nat->List D} {el sz jA sz':Nat} {a b:D} {r:Bool} (ha:xL el sz a) (hb:xL jA sz' b) (hl:a.es.length=b.es.length) (hf:kD a b=false->r=false)
  (step:∀ i x y,a.es[i]? = some x->b.es[i]? = some y->i < a.es.length->i+1 < z8->wp E HS (fF k (ρ (i+1)) (kD x y)) (Ts k) (ρ i))
  (last:kD a b=true->wp E HS (To E HS Ts (dB r)) (Ts k) (ρ a.es.length)):qK E HS Ts k (ρ 0) (dB r):=by
 cases h:kD a b with
 | true =>
  have:=qPE (rest:=r) ha hb hl step (last h)
  rw [h,Bool.true_and] at this
  exact this
 | false =>
  rw [hf h]
  have hall:=sM a.es b.es [] [] rfl hl
  simp only [List.nil_append,List.length_nil] at hall
  rw [uD ha hb,hall] at h
  have st:∀ i,i < a.es.length->wp E HS (fF k (ρ (i+1)) (kD (a.es.getD i .nil) (b.es.getD i .nil))) (Ts k) (ρ i):=by
   intro i hi
   have h1:a.es[i]? = some a.es[i]:=List.getElem?_eq_getElem hi
   have h2:b.es[i]? = some (b.es[i]'(by omega)):=List.getElem?_eq_getElem (by omega)
   have hs:=step i _ _ h1 h2 hi (by have:=qMc ha; omega)
   have e1:a.es.getD i .nil=a.es[i]:=by simp [h1]
   have e2:b.es.getD i .nil=b.es[i]'(by omega):=by simp [h2]
   rw [e1,e2]
   exact hs
  have go:∀ m i,i+m=a.es.length->((List.range' i m).all fun i=>kD (a.es.getD i .nil) (b.es.getD i .nil))=false->qK E HS Ts k (ρ i) (dB false):=by
   intro m
   induction m with
   | zero=>intro i _ h; simp at h
   | succ m ih =>
    intro i hi h
    refine qK.step' ?_
    obtain ⟨q,h1,h2⟩:=pK _ _ (st i (by omega))
    refine h2 _ ?_
    cases q with
    | ret d'=>exact h1.1
    | jump k' ds =>
     obtain ⟨rfl,rfl,hp⟩:=h1
     rw [List.range'_succ,List.all_cons,hp,Bool.true_and] at h
     exact ih (i+1) (by omega) h
  exact go _ 0 (Nat.zero_add _) h
theorem kC {el sz jA sz':Nat} {a b:D} (ha:xL el sz a) (hb:xL jA sz' b) (h:a.es.length≠b.es.length):kD a b=false:=by
 rw [uD ha hb,qGv h]
theorem qI4 {m n:Nat}:((m:Int) != (n:Int)) = !decide (m=n):=by
 by_cases h:m=n
 ·subst h; simp
 have:¬ ((m:Int)=(n:Int)):=by omega
 simp [h,this]
theorem oK {m n:Nat} (h:((m:Int) != (n:Int))=false):m=n:=by
 rw [qI4] at h; simpa using h
theorem oL {m n:Nat} (h:((m:Int) != (n:Int))=true):m≠n:=by
 rw [qI4] at h; simpa using h
theorem kB {m n:Nat} (h:m < n):decide ((m:Int) < (n:Int))=true:=tD (by omega)
theorem wO {n:Nat}:decide ((n:Int) < (n:Int))=false:=fD (by omega)
theorem qA {off:Nat} {cs:List D} {e:D} (hc:cs[off]? = some e) (ho:e.one=true):TOp.eval E (.fld false 1 off) [.agg cs]=some e:=by
 rw [qB6]
 simp only [lL,cond_false,D.cells,hc,ho,cond_true]
theorem jM {e:D} (ho:e.one=true):TOp.eval E (.chk false 1) [e]=some e:=by
 rw [iB]
 have h:Nat.beq 1 1=true:=rfl
 simp only [eT,cond_false,ho,h,Bool.and_self,cond_true]
theorem d5 {off size:Nat} {cs:List D} (h:Nat.ble (off+size) cs.length=true):TOp.eval E (.fld true size off) [.agg cs]=some (.agg ((cs.drop off).take size)):=by
 rw [qB6]
 simp only [lL,cond_true,D.cells,h]
theorem kZ {a b:Tree} {Q:Res1->Prop} {ρ:List D} (h:wp E HS Q a ρ):wp E HS Q (if true=true then a else b) ρ:=h
theorem oA {a b:Tree} {Q:Res1->Prop} {ρ:List D} (h:wp E HS Q b ρ):wp E HS Q (if false=true then a else b) ρ:=h
theorem jT {k:IntKind} {n:Int}:vA (.int k) (.leaf (.int k n)):=⟨n,rfl⟩
theorem cV {s:ByteArray}:vA .str (.leaf (.string s)):=⟨s,rfl⟩
theorem qC9 {fs:List Sh} {cs:List D} (h:vU fs cs):vA (.st fs) (.agg cs):=⟨cs,rfl,h⟩
theorem xS:vU [] []:=rfl
theorem qZ {s:Sh} {ss:List Sh} {d:D} {ds:List D} (h:vA s d) (hs:vU ss ds):vU (s::ss) (d::ds):=⟨d,ds,rfl,h,hs⟩
theorem qAq {P:Program} {op:BinOp} {t:TypeId} {x y:Operand} {a b:ByteArray}:qW P (eqGuard op t x y (.string a) (.string b))=some ():=by
 unfold eqGuard
 cases op <;> simp [zS]
theorem qA4 (a b:ByteArray):(a.toList == b.toList)=(a == b):=by
 rw [ByteArray.toList_eq,ByteArray.toList_eq]
 cases h:(a == b) with
 | true=>rw [qN4 h]; exact beq_self_eq_true _
 | false =>
  cases h2:(a.data.toList == b.data.toList) with
  | false=>rfl
  | true =>
   have he:a.data.toList=b.data.toList:=eq_of_beq h2
   have:a=b:=by
    obtain ⟨⟨a⟩⟩:=a
    obtain ⟨⟨b⟩⟩:=b
    simp only at he
    rw [he]
   rw [this,bP] at h
   cases h
theorem pZ {t:TypeId} {x y:Operand} {a b:ByteArray}:TOp.eval E (.bin .neq t x y) [.leaf (.string a),.leaf (.string b)]=some (dB (!(a == b))):=by
 rw [bN]
 have hf:∀ s:ByteArray,zP (.string s)=true:=fun _=>rfl
 have:rG E .neq t x y (.string a) (.string b)=some (.bool (!(a == b))):=by
  unfold rG
  simp only [hf,Bool.and_self,cond_true,vG,qAq,Option.bind_some,binOp,Op.stringOp,qA4,zS]
  rfl
 simp only [D.toV,this]; rfl
theorem dZ {t:TypeId} {x y:Operand} {a b:ByteArray}:TOp.eval E (.bin .eql t x y) [.leaf (.string a),.leaf (.string b)]=some (dB (a == b)):=by
 rw [bN]
 have hf:∀ s:ByteArray,zP (.string s)=true:=fun _=>rfl
 have:rG E .eql t x y (.string a) (.string b)=some (.bool (a == b)):=by
  unfold rG
  simp only [hf,Bool.and_self,cond_true,vG,qAq,Option.bind_some,binOp,Op.stringOp,qA4,zS]
  rfl
 simp only [D.toV,this]; rfl
theorem qIB (op:BinOp) (hop:op=.neq∨op=.eql) {t:TypeId} (ht:nO E.prog 1 t=some [.bool]) (hst:oO E.prog t=false) {x y:Operand} {a b:Bool} :
  TOp.eval E (.bin op t x y) [dB a,dB b]=some (dB (match op with | .neq=>!(decide (a=b)) | _=>decide (a=b))):=by
 rw [bN]
 have heq:=qSP 1 t [.bool] ht 10000 (by decide) [.bool a] [.bool b] (.cons .bool .nil) (.cons .bool .nil)
 simp only [hst,qMW,cond_false,List.headD_cons,m8,qJT,Bool.and_true] at heq
 have hguard:∀ op,qW E.prog (eqGuard op t x y (.bool a) (.bool b))=some ():=by
  intro op
  unfold eqGuard
  cases op <;> simp [zS]
 have hf:∀ s:Bool,zP (.bool s)=true:=fun _=>rfl
 rcases hop with rfl | rfl
 ·have hb:binOp .neq t (.bool a) (.bool b)=(Op.equal t (.bool a) (.bool b) >>= fun r=>pure (.bool (!r))):=by unfold binOp; rfl
  have:rG E .neq t x y (.bool a) (.bool b)=some (.bool (!(decide (a=b)))):=by
   unfold rG
   simp only [hf,Bool.and_self,cond_true,vG,hguard,Option.bind_some,hb,Op.equal,Op.maxDepth,heq,zS]
   rfl
  simp only [D.toV,this]; rfl
 have hb:binOp .eql t (.bool a) (.bool b)=(Op.equal t (.bool a) (.bool b) >>= fun r=>pure (.bool r)):=by unfold binOp; rfl
 have:rG E .eql t x y (.bool a) (.bool b)=some (.bool (decide (a=b))):=by
  unfold rG
  simp only [hf,Bool.and_self,cond_true,vG,hguard,Option.bind_some,hb,Op.equal,Op.maxDepth,heq,zS]
  rfl
 simp only [D.toV,this]; rfl
end
end Go.Am
namespace Go.Am
open Go
theorem qO (a b:Value):kD (.leaf a) (.leaf b)=qJT a b:=by simp only [kD]
theorem qR (a b:List D):kD (.agg a) (.agg b)=deqs a b:=by simp only [kD]
theorem qN:deqs [] []=true:=by simp only [deqs]
theorem qH (a b:D) (as bs:List D):deqs (a::as) (b::bs)=(kD a b && deqs as bs):=by simp only [deqs]
theorem qT (k l:IntKind) (a b:Int):qJT (.int k a) (.int l b)=decide (a=b):=rfl
theorem qM (a b:Bool):qJT (.bool a) (.bool b)=decide (a=b):=rfl
theorem qS (a b:ByteArray):qJT (.string a) (.string b)=(a == b):=rfl
section
variable {E:Env} {HS:FuncId->List D->D->Prop} {Q:Res1->Prop}
theorem qC {Ts:Nat->Tree} {xs:List SV} {ρ:List D} {d d':D} (hx:SV.ds (getD ρ) xs=[d']) (h:d'=d):wp E HS (To E HS Ts d) (.ret xs) ρ:=by
 simp only [wp,hx,To,kK]; exact h
theorem qE {Ts:Nat->Tree} {k:Nat} {xs:List SV} {ρ ds:List D} {d:D} (hx:SV.ds (getD ρ) xs=ds) (h:qK E HS Ts k ds d):wp E HS (To E HS Ts d) (.jump k xs) ρ:=by
 simp only [wp,hx,To]; exact h
theorem xR {k:Nat} {ds:List D} {xs:List SV} {ρ:List D} {p:Bool} (hx:SV.ds (getD ρ) xs=[dB false]) (h:p=false):wp E HS (fF k ds p) (.ret xs) ρ:=by
 simp only [wp,hx,fF,kK]; exact ⟨trivial,h⟩
theorem yA {k:Nat} {ds:List D} {xs:List SV} {ρ:List D} {p:Bool} (hx:SV.ds (getD ρ) xs=ds) (h:p=true):wp E HS (fF k ds p) (.jump k xs) ρ:=by
 simp only [wp,hx,fF]; exact ⟨trivial,trivial,h⟩
theorem qMd {el sz size off:Nat} {d:D} {i:Nat} {cs:List D} (h:xL el sz d) (he:d.es[i]? = some (.agg cs)) (hc:cs.length=sz) (ho:off+size<=sz) (hn:¬ (off=0/\size=sz)) :
  TOp.eval E (.elem sz true size off) [d,dI (i:Int)]=some (.agg ((cs.drop off).take size)):=by
 rw [sI]
 have h1:lX d (dI (i:Int))=some (.agg cs):=he
 have h2:Nat.ble (off+size) sz=true:=bL ho
 have h5:Nat.ble (off+size) cs.length=true:=by rw [hc]; exact h2
 have h3:Nat.beq sz sz=true:=Nat.beq_refl _
 have h4:(Nat.beq off 0 && Nat.beq size sz)=false:=by
  cases h:(Nat.beq off 0 && Nat.beq size sz) with
  | false=>rfl
  | true =>
   simp only [aE] at h
   exact absurd ⟨jF h.1,jF h.2⟩ hn
 simp only [h1,qEb h he,h3,h2,h4,h5,cond_true,cond_false,Bool.and_self,Bool.true_and,Bool.and_true,lL,D.cells]
theorem qLu {ρ':List D} {o:TOp} {xs:List SV} {r:Tree} {ρ ds:List D} {d:D} (h:o.eval E ds=some d) (hx:SV.ds (getD ρ) xs=ds) (hρ:ρ++[d]=ρ') (hr:wp E HS Q r ρ'):wp E HS Q (.bind o xs r) ρ :=
 qOy h hx (hρ ▸ hr)
theorem qLt {ρ':List D} {tg:Tgt} {xs:List SV} {fl:Nat} {r:Tree} {ρ ds as:List D} {f:FuncId} {d:D} (h:HS f as d) (hx:SV.ds (getD ρ) xs=ds) (ht:qA5 E tg ds=some (f,as)) (hf:qDC fl d=true) (hρ:ρ++[d]=ρ') (hr:wp E HS Q r ρ'):wp E HS Q (.call tg xs fl r) ρ :=
 qOx h hx ht hf (hρ ▸ hr)
theorem qM1 {Ts:Nat->Tree} {k:Nat} {ρ:Nat->List D} {el sz jA sz':Nat} {a b:D} {r:Bool} (ha:xL el sz a) (hb:xL jA sz' b) (hl:a.es.length=b.es.length) (hf:kD a b=false->r=false)
  (step:∀ i x y,a.es[i]? = some x->b.es[i]? = some y->i < a.es.length->i+1 < z8->(kD x y=true->qK E HS Ts k (ρ (i+1)) (dB r))->(kD x y=false->r=false)->wp E HS (To E HS Ts (dB r)) (Ts k) (ρ i))
  (last:kD a b=true->wp E HS (To E HS Ts (dB r)) (Ts k) (ρ a.es.length)):qK E HS Ts k (ρ 0) (dB r):=by
 have hall:=sM a.es b.es [] [] rfl hl
 simp only [List.nil_append,List.length_nil] at hall
 have st:∀ i,i < a.es.length->(kD (a.es.getD i .nil) (b.es.getD i .nil)=true->qK E HS Ts k (ρ (i+1)) (dB r))->(kD (a.es.getD i .nil) (b.es.getD i .nil)=false->r=false)->qK E HS Ts k (ρ i) (dB r):=by
  intro i hi
  have h1:a.es[i]? = some a.es[i]:=List.getElem?_eq_getElem hi
  have h2:b.es[i]? = some (b.es[i]'(by omega)):=List.getElem?_eq_getElem (by omega)
  have e1:a.es.getD i .nil=a.es[i]:=by simp [h1]
  have e2:b.es.getD i .nil=b.es[i]'(by omega):=by simp [h2]
  rw [e1,e2]
  intro q1 q2
  exact qK.step' (step i _ _ h1 h2 hi (by have:=qMc ha; omega) q1 q2)
 cases h:kD a b with
 | true =>
  have hs:∀ m i,i+m=a.es.length->qK E HS Ts k (ρ i) (dB r):=by
   rw [uD ha hb,hall,List.all_eq_true] at h
   intro m
   induction m with
   | zero =>
    intro i hi
    have:i=a.es.length:=hi
    subst this
    refine qK.step' (last ?_)
    rw [uD ha hb,hall,List.all_eq_true]; exact h
   | succ m ih =>
    intro i hi
    refine st i (by omega) (fun _=>ih (i+1) (by omega)) (fun q=>?_)
    have:=h i (List.mem_range'.2 ⟨i,by omega,by omega⟩)
    rw [q] at this; cases this
  exact hs _ 0 (Nat.zero_add _)
 | false =>
  have hr:=hf h
  rw [uD ha hb,hall] at h
  have go:∀ m i,i+m=a.es.length->((List.range' i m).all fun i=>kD (a.es.getD i .nil) (b.es.getD i .nil))=false->qK E HS Ts k (ρ i) (dB r):=by
   intro m
   induction m with
   | zero=>intro i _ h; simp at h
   | succ m ih =>
    intro i hi h
    refine st i (by omega) (fun q=>?_) (fun _=>hr)
    rw [List.range'_succ,List.all_cons,q,Bool.true_and] at h
    exact ih (i+1) (by omega) h
  exact go _ 0 (Nat.zero_add _) h
theorem vE {a b:Bool} (h:a=b):dB a=dB b:=by rw [h]
end
theorem qU4:4<=10000:=by omega
class Snoc (ρ:List D) (d:D) (ρ':outParam (List D)):Prop where
 h:ρ++[d]=ρ'
instance (d:D):Snoc [] d [d]:=⟨rfl⟩
instance {x:D} {ρ ρ':List D} {d:D} [s:Snoc ρ d ρ']:Snoc (x::ρ) d (x::ρ'):=⟨congrArg (x :: ·) s.h⟩
theorem iC {E : Env} {HS : FuncId -> List D -> D -> Prop} {Q : Res1 -> Prop} {i : Nat} {a b : Tree} {ρ : List D} {t : Bool} (ht : t = true -> wp E HS Q a ρ) (hf : t = false -> wp E HS Q b ρ) (h : getD ρ i = dB t := by rfl) : wp E HS Q (.ite (.v i) a b) ρ := qOw h ht hf
theorem bS {E:Env} {HS:FuncId->List D->D->Prop} {Q:Res1->Prop} {ρ':List D} {o:TOp} {xs:List SV} {r:Tree} {ρ ds:List D} {d:D} [s:Snoc ρ d ρ'] (h:o.eval E ds=some d) (hr:wp E HS Q r ρ') (hx:SV.ds (getD ρ) xs=ds:=by rfl):wp E HS Q (.bind o xs r) ρ:=qLu h hx s.h hr
theorem cS {E:Env} {HS:FuncId->List D->D->Prop} {Q:Res1->Prop} {ρ':List D} {tg:Tgt} {xs:List SV} {fl:Nat} {r:Tree} {ρ ds as:List D} {f:FuncId} {d:D} [s:Snoc ρ d ρ'] (h:HS f as d) (hr:wp E HS Q r ρ') (hx:SV.ds (getD ρ) xs=ds:=by rfl) (ht:qA5 E tg ds=some (f,as):=by rfl) (hf:qDC fl d=true:=by rfl):wp E HS Q (.call tg xs fl r) ρ:=qLt h hx ht hf s.h hr
end Go.Am
