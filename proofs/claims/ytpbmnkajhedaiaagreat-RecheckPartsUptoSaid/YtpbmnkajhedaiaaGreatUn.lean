/- Shapes of data, and their equality. Conditions: none. -/
import Derived.Test.YtpbmnkajhedaiaaGreatSx4
import Derived.Test.YtpbmnkajhedaiaaGreatSx7
set_option linter.all false
namespace Go.Am
open Go
inductive Sh where
 |int (k:IntKind)
 |bool
 |str
 |st (fs:List Sh)
 |sl (el sz:Nat) (e:Sh)
mutual
def wY:Sh->D->Prop
 |.int k,d=>∃n,d=.leaf (.int k n)
 |.bool,d=>∃b,d=.leaf (.bool b)
 |.str,d=>∃s,d=.leaf (.string s)
 |.st fs,d=>∃cs,d=.agg cs/\jG fs cs
 |.sl el sz e,d=>d=.nil∨∃es,d=.sl el sz es/\es.length<zI/\∀x∈es,wY e x
def jG:List Sh->List D->Prop
 | [],l=>l=[]
 |s::ss,l=>∃d ds,l=d::ds/\wY s d/\jG ss ds
end
def qVo:Value->Value->Bool
 |.int _ a,.int _ b=>decide (a=b)
 |.bool a,.bool b=>decide (a=b)
 |.string a,.string b=>a==b
 |_,_=>false
mutual
def zA3:D->D->Bool
 |.leaf a,.leaf b=>qVo a b
 |.agg azq,.agg h=>tP azq h
 |.nil,b=>match b with
  |.nil=>true
  |.sl _ _ h=>h.isEmpty
  |_=>false
 |.sl _ _ azq,b=>match b with
  |.nil=>azq.isEmpty
  |.sl _ _ h=>tP azq h
  |_=>false
 |_,_=>false
def tP:List D->List D->Bool
 | [],[]=>true
 |a::azq,b::h=>zA3 a b&&tP azq h
 |_,_=>false
end
theorem vW{α y:Type}(P:Program)(x:Sem α)(f:α->Sem y):qT P (x >>= f)=(qT P x).bind λa=>qT P (f a):=by
 show qT P (x.bind f)=_;induction x with
 |pure a=>rfl
 |program k h=>exact h P
 |mark m k h=>exact h
 |_=>rfl
theorem gF(P:Program):qT P program=some P:=rfl
theorem vN{α:Type}(P:Program)(a:α):qT P (pure a)=some a:=rfl
inductive VSh:Sh->Value->Prop
 |int {k:IntKind} {n:Int}:VSh (.int k) (.int k n)
 |bool {b:Bool}:VSh .bool (.bool b)
 |str {s:ByteArray}:VSh .str (.string s)
def qOK:TypeDesc->Option Sh
 |.bool=>some .bool
 |.int k=>some (.int k)
 |.string=>some .str
 |_=>none
def qPL(P:Program)(rec:TypeId->Option (List Sh)):List Field->List Sh->Option (List Sh)
 | [],acc=>some acc
 | f :: r, acc => bif f.name == "_" || !(Nat.beq f.offset acc.length) then none else match rec f.type, P.info? f.type with
  |some s,some i=>bif Nat.beq i.size s.length then qPL P rec r (acc++s)else none
  |_,_=>none
def fU(P:Program):Nat->TypeId->Option (List Sh)
 |0,_=>none
 | n+1,t=>match P.underlying t with
  |some (.struct fs)=>bif P.stoodInHeld t then none else qPL P (fU P n) fs.toList []
  |some d=>match qOK d with
   |some s=>some [s]
   |none=>none
  |none=>none
def lQ(P:Program)(t:TypeId):Bool:=match P.underlying t with
 |some (.struct _)=>true
 |_=>false
def qQM(st:Bool)(vs:List Value):Value:=bif st then .agg ⟨vs⟩else vs.headD (.bool false)
def bQ:List Value->List Value->Bool
 | [],[]=>true
 |a::azq,b::h=>qVo a b&&bQ azq h
 |_,_=>false
inductive VShs:List Sh->List Value->Prop
 |nil:VShs [] []
 |cons {s:Sh} {v:Value} {ss:List Sh} {vs:List Value} (h:VSh s v) (hs:VShs ss vs):VShs (s::ss) (v::vs)
theorem VShs.length:∀{ss:List Sh} {vs:List Value},VShs ss vs->vs.length=ss.length
 |_,_,.nil=>rfl
 |_,_,.cons _ h=>by simp[VShs.length h]
theorem VShs.split:∀{a b:List Sh} {vs:List Value},VShs (a++b) vs->∃x y,vs=x++y/\VShs a x/\VShs b y
 | [],_,vs,h=>⟨[],vs,rfl,.nil,h⟩
 |s::a,b,_,.cons h c=>by obtain⟨x,y,rfl,g,e⟩:=VShs.split (a:=a) c;exact⟨_::x,y,rfl,.cons h g,e⟩
theorem qFZ:∀{a b c d:List Value},a.length=c.length->bQ (a++b) (c++d)=(bQ a c&&bQ b d)
 | [],b,[],d,_=>by simp[bQ]
 |x::a,b,y::c,d,h=>by simp only[List.cons_append,bQ,qFZ (show a.length=c.length by simpa using h),Bool.and_assoc]
 | [],_,_::_,_,h=>by simp at h
 |_::_,_,[],_,h=>by simp at h
theorem qBX{P:Program}{t:TypeId}{d:TypeDesc}(h:P.underlying t=some d):qT P (underlying t)=some d:=by unfold underlying;simp only[vW,gF,Option.bind_some,h,vN]
theorem qLm{P:Program}{t:TypeId}{i:TypeInfo}(h:P.info? t=some i):qT P (sizeOf t)=some i.size:=by unfold sizeOf typeInfo;simp only[vW,gF,Option.bind_some,h,vN]
theorem qOk{P:Program}{n:Nat}{t:TypeId}{s:List Sh}(h:fU P n t=some s):qT P (isAgg t)=some (lQ P t)/\(lQ P t=false->s.length=1):=by
 cases n with
 |zero=>cases h
 | succ n=>
  simp only[fU]at h;unfold isAgg;cases hu:P.underlying t with
  |none=>rw[hu]at h;cases h
  | some d=>
   simp only[vW,qBX hu,Option.bind_some,lQ,hu];rw[hu]at h;cases d<;>simp only[qOK]at h<;>first|(cases h;done)|skip
   all_goals first
    |exact⟨rfl,λ(e:true=false)=>Bool.noConfusion e⟩
    |(cases h;exact⟨rfl,λ_=>rfl⟩)
    |(simp only[oI]at h;subst h;exact⟨rfl,λ_=>rfl⟩)
theorem qDV{P:Program}{n:Nat}{t:TypeId}{s:List Sh}{i:TypeInfo}(h:fU P n t=some s)(g:P.info? t=some i)(hs:i.size=s.length)(a x b:List Value)(y:x.length=s.length):qT P (part t ⟨a++(x++b)⟩ a.length)=some (qQM (lQ P t) x):=by
 obtain⟨k,j⟩:=qOk h;unfold part;simp only[vW,k,Option.bind_some];cases c:lQ P t with
 |true=>
  simp only[if_true,vW,qLm g,Option.bind_some,vN,qQM,cond_true]
  congr 2
  apply Array.ext';simp[List.extract_eq_take_drop,hs,←y]
 |false=>
  have e:=j c;rw[e]at y
  match x,y with
  | [v],_=>simp[qQM,vN]
theorem qKt{P:Program}{n d:Nat}(L:∀t s,fU P n t=some s->∀us vs:List Value,VShs s us->VShs s vs->qT P (Op.equalIn d t (qQM (lQ P t) us) (qQM (lQ P t) vs))=some (bQ us vs)):
  ∀(N:List Field) (acc s:List Sh),qPL P (fU P n) N acc=some s->∃rest,s=acc++rest/\∀(g e k j:List Value),g.length=acc.length->e.length=acc.length->VShs rest k->VShs rest j->
   qT P (forIn N ((none,()):Option Bool×Unit) λf __s=>
      if f.name ≠ "_" then do
       let __do_lift ←part f.type {toList:=g++k} f.offset
       let __do_lift_1 ←part f.type {toList:=e++j} f.offset
       let __do_lift ←Op.equalIn d f.type __do_lift __do_lift_1
       if(!__do_lift)=true then pure (ForInStep.done (some false,()))else pure (ForInStep.yield (none,()))
      else pure (ForInStep.yield (none,())))=some (if bQ k j=true then(none,())else(some false,()))
 | [],acc,s,h=>by
  simp only[qPL,oI]at h
  subst h
  refine⟨[],by simp,?_⟩
  intro g e k j _ _ G F
  cases G;cases F
  simp[bQ,vN]
 | f::r,acc,s,h=>by
  simp only[qPL]at h
  cases A : (f.name == "_" || !(Nat.beq f.offset acc.length)) with
  |true=>rw[A]at h;cases h
  | false=>
   rw[A]at h
   simp only[cond_false]at h
   simp only[Bool.or_eq_false_iff,Bool.not_eq_false',beq_eq_false_iff_ne,ne_eq]at A
   have b:=vP A.2
   split at h
   case h_2=>cases h
   rename_i K i c M
   simp only[qZ]at h
   split at h
   case isFalse=>cases h
   rename_i q
   obtain⟨rest,rfl,hr⟩:=qKt L r (acc++K) s h
   refine⟨K++rest,by simp,?_⟩
   intro g e k j p l G F
   obtain⟨x,J,rfl,C,R⟩:=G.split
   obtain⟨y,I,rfl,B,O⟩:=F.split
   have z:=qDV c M q g x J C.length
   have w:=qDV c M q e y I B.length
   rw[p,←b]at z
   rw[l,←b]at w
   have heq:=L _ _ c x y C B
   have u:=hr (g++x) (e++y) J I (by simp[p,C.length]) (by simp[l,B.length]) R O
   simp only[List.append_assoc]at u
   rw[qFZ (by rw[C.length,B.length])]
   simp only[List.forIn_cons,ne_eq,A.1,not_false_eq_true,if_true,vW,z,w,heq,Option.bind_some]
   cases hv:bQ x y with
   |true=>
    simp only[Bool.not_true,Bool.false_eq_true,if_false,vN,Option.bind_some,Bool.true_and]
    exact u
   |false=>simp[vN]
theorem zAu{P:Program}:∀(n t:Nat) (s:List Sh),fU P n t=some s->∀(d:Nat),n<=d->∀us vs:List Value,VShs s us->VShs s vs->qT P (Op.equalIn d t (qQM (lQ P t) us) (qQM (lQ P t) vs))=some (bQ us vs):=by
 intro n;induction n with
 |zero=>intro t s h;cases h
 | succ n k=>
  intro t s h d hd us vs hu hv;obtain⟨d,rfl⟩:∃w,d=w+1:=⟨d-1,by omega⟩;simp only[fU]at h;rw[Op.equalIn];split at h
  ·rename_i fs x;have y:lQ P t=true:=by simp only[lQ,x]
   cases e:P.stoodInHeld t with
   |true=>rw[e]at h;cases h
   |false=>rw[e]at h;simp only[cond_false]at h;simp only[vW,qBX x,Option.bind_some,y,qQM,cond_true,gF,e,Bool.false_eq_true,if_false,←Array.forIn_toList];generalize fs.toList=r at h;obtain⟨rest,hs,hr⟩:=qKt (d:=d) (λt s h us vs hu hv=>k t s h d (by omega) us vs hu hv) r [] s h;simp only[List.nil_append]at hs;subst hs;have:=hr [] [] us vs rfl rfl hu hv;simp only[List.nil_append]at this;rw[this];cases bQ us vs<;>simp[vN]
  ·rename_i u l x;split at h;case h_2=>cases h
   rename_i z c;cases h;have y:lQ P t=false:=by unfold lQ;grind
   simp only[vW,qBX x,Option.bind_some,y,qQM,cond_false];cases hu with
   | cons j q=>cases q;cases hv with
    |cons g p=>
     cases p;cases u<;>simp only[qOK,oI]at c<;>first|(cases c;done)|subst c
     ·cases j;cases g;simp only[List.headD_cons,vN,bQ,qVo,Bool.and_true];grind
     ·cases j;cases g;simp only[List.headD_cons,if_true,vN,bQ,qVo,Bool.and_true];rfl
     cases j;cases g;rename_i a b;simp only[List.headD_cons,vN,bQ,qVo,Bool.and_true]
  cases h
theorem qJb(a:ByteArray):(a==a)=true:=by obtain⟨a⟩:=a;show(a==a)=true;exact beq_self_eq_true a
theorem qQv{a b:ByteArray}(h:(a==b)=true):a=b:=by obtain⟨a⟩:=a;obtain⟨b⟩:=b;have h:(a==b)=true:=h;rw[eq_of_beq h]
def xU(el sz:Nat)(d:D):Prop:=d=.nil∨∃es,d=.sl el sz es/\es.length<zI
abbrev dI(n:Int):D:=.leaf (.int .i64 n)
abbrev dB(b:Bool):D:=.leaf (.bool b)
section
variable{E:Env}{HS:FuncId->List D->D->Prop}{Q:Res1->Prop}
theorem qQU{o:TOp}{xs:List SV}{r:Tree}{ρ ds:List D}{d:D}(h:o.eval E ds=some d)(x:SV.ds (getD ρ) xs=ds)(y:wp E HS Q r (ρ++[d])):wp E HS Q (.bind o xs r) ρ:=by simp only[wp,x,h];exact y
theorem qQT{x:Tgt}{xs:List SV}{y:Nat}{r:Tree}{ρ ds azq:List D}{f:FuncId}{d:D}(h:HS f azq d)(b:SV.ds (getD ρ) xs=ds)(ht:qBA E x ds=some (f,azq))(c:qEp y d=true)(hr:wp E HS Q r (ρ++[d])):wp E HS Q (.call x xs y r) ρ:=by simp only[wp,b,ht];exact⟨d,h,c,hr⟩
theorem qI{el sz:Nat}{d:D}(h:xU el sz d):TOp.eval E (.len false) [d]=some (dI d.es.length):=by rcases h with rfl|⟨es,rfl,_⟩<;>rfl
theorem qVW{d:D}{i:Nat}{e:D}(he:d.es[i]? = some e):TOp.eval E .inr [d,dI (i:Int)]=some (dB true):=by rw[qIX];have:bM d (dI (i:Int))=some e:=he;rw[this];rfl
theorem qEV{el sz:Nat}{d:D}{i:Nat}{e:D}(h:xU el sz d)(he:d.es[i]? = some e):d.szD=sz:=by
 rcases h with rfl|⟨es,rfl,_⟩
 ·simp[D.es]at he
 rfl
theorem qN7{el sz:Nat}{d:D}{i:Nat}{cs:List D}(h:xU el sz d)(he:d.es[i]? = some (.agg cs))(x:cs.length=sz):TOp.eval E (.elem sz true sz 0) [d,dI (i:Int)]=some (.agg cs):=by rw[tM];have e:bM d (dI (i:Int))=some (.agg cs):=he;have c:Nat.ble (0+sz) sz=true:=bL (by omega);have b:Nat.beq sz sz=true:=Nat.beq_refl _;have y:Nat.beq 0 0=true:=rfl;simp only[e,qEV h he,b,c,y,cond_true,Bool.and_self,eG,x,qZ,if_true]
theorem qOa{el:Nat}{d:D}{i:Nat}{e:D}(h:xU el 1 d)(he:d.es[i]? = some e)(x:e.one=true):TOp.eval E (.elem 1 false 1 0) [d,dI (i:Int)]=some e:=by rw[tM];have y:bM d (dI (i:Int))=some e:=he;simp only[y,qEV h he];cases e<;>first|rfl|(cases x;done)
theorem qN8{el sz off:Nat}{d:D}{i:Nat}{cs:List D}{e:D}(h:xU el sz d)(he:d.es[i]? = some (.agg cs))(b:cs[off]? = some e)(y:e.one=true)(x:off<sz):TOp.eval E (.elem sz false 1 off) [d,dI (i:Int)]=some e:=by rw[tM];have j:bM d (dI (i:Int))=some (.agg cs):=he;have g:Nat.ble (off+1) sz=true:=bL x;have c:Nat.beq sz sz=true:=Nat.beq_refl _;simp only[j,qEV h he,c,cond_false,g,Bool.and_self,cond_true,Bool.false_and,mW,D.cells,b,y]
theorem qD{cs:List D}{n:Nat}(h:cs.length=n):TOp.eval E (.chk true n) [.agg cs]=some (.agg cs):=by rw[iZ];simp only[eG,cond_true,h,qZ,if_true]
theorem qHO{n:Nat}(h:n<zI):IntKind.i64.wrap (n:Int)=(n:Int):=by
 have b:n<9223372036854775808:=h;have y:(n:Int)<9223372036854775808:=by omega
 have x:(n:Int)%2^64=(n:Int):=by omega
 simp only[IntKind.wrap,IntKind.bits,IntKind.signed,x];grind
theorem qY{t:TypeId}{x y:Operand}{n:Nat}(h:n+1<zI):TOp.eval E (.bin .add t x y) [dI (n:Int),dI 1]=some (dI ((n+1:Nat):Int)):=by have b:TOp.eval E (.bin .add t x y) [dI (n:Int),dI 1]=some (dI (IntKind.i64.wrap ((n:Int)+1))):=rfl;rw[b,show((n:Int)+1)=((n+1:Nat):Int) by omega,qHO h]
theorem jU{t:TypeId}{b:Bool}:TOp.eval E (.un .not t) [dB b]=some (dB (!b)):=rfl
theorem qL{i:Nat}{a b:Tree}{ρ:List D}{t:Bool}(h:getD ρ i=dB t)(x:wp E HS Q (if t then a else b) ρ):wp E HS Q (.ite (.v i) a b) ρ:=by simp only[wp,SV.d,h];cases t<;>exact x
theorem aM{i:Nat}{a b:Tree}{ρ:List D}{t:Bool}(h:getD ρ i=dB t)(x:t=true->wp E HS Q a ρ)(y:t=false->wp E HS Q b ρ):wp E HS Q (.ite (.v i) a b) ρ:=by
 simp only[wp,SV.d,h];cases t
 ·exact y rfl
 exact x rfl
def To(E:Env)(HS:FuncId->List D->D->Prop)(x:Nat->Tree)(d:D)(r:Res1):Prop:=match r with
 |.ret h=>h=d
 |.jump k ds=>qE E HS x k ds d
theorem qE.step'{x:Nat->Tree}{k:Nat}{ρ:List D}{d:D}(h:wp E HS (To E HS x d) (x k) ρ):qE E HS x k ρ d:=by obtain⟨r,b,y⟩:=lN _ _ h;refine qE.step (y _ ?_);cases r<;>exact b
def qEo:Sh->Bool
 |.int _|.bool|.str=>true
 |_=>false
theorem qAd:∀{ss:List Sh} {cs:List D},ss.all qEo=true->jG ss cs->∃vs,cs=vs.map .leaf/\VShs ss vs
 | [],cs,_,h=>by simp only[jG]at h;exact⟨[],by simp[h],.nil⟩
 |s::ss,cs,y,h=>by
  simp only[jG]at h;obtain⟨d,ds,rfl,x,c⟩:=h;simp only[List.all_cons,zR]at y;obtain⟨vs,rfl,b⟩:=qAd y.2 c;cases s with
  |int k=>simp only[wY]at x;obtain⟨n,rfl⟩:=x;exact⟨_::vs,rfl,.cons .int b⟩
  |bool=>simp only[wY]at x;obtain⟨n,rfl⟩:=x;exact⟨_::vs,rfl,.cons .bool b⟩
  |str=>simp only[wY]at x;obtain⟨n,rfl⟩:=x;exact⟨_::vs,rfl,.cons .str b⟩
  |st _=>cases y.1
  |sl _ _ _=>cases y.1
theorem qDM:∀vs:List Value,D.toVs (vs.map .leaf)=some vs
 | []=>rfl
 |v::vs=>by simp only[List.map_cons,D.toVs,D.toV,qDM vs]
theorem qEx:∀us vs:List Value,tP (us.map .leaf) (vs.map .leaf)=bQ us vs
 | [],[]=>rfl
 | [],_::_=>rfl
 |_::_,[]=>rfl
 |u::us,v::vs=>by simp only[List.map_cons,tP,zA3,bQ,qEx us vs]
theorem aP:∀{ss:List Sh} {vs:List Value},VShs ss vs->zK (.agg ⟨vs⟩)=true
 | ss,vs,h=>by
  show zP 6 _=true;simp only[zP,List.all_eq_true,zR];intro v hv;have:∀{ss:List Sh} {vs:List Value},VShs ss vs->∀v∈vs,qH v=true/\zP 5 v=true:=by
   intro ss vs h;induction h with
   |nil=>intro v hv;cases hv
   |cons h y x=>
    intro v hv;rcases List.mem_cons.1 hv with rfl|hv
    ·cases h<;>exact⟨rfl,rfl⟩
    exact x v hv
  exact this h v hv
theorem sE(b:BinOp)(j:b=.neq∨b=.eql){n:Nat}{t:TypeId}{ss:List Sh}(l:fU E.prog n t=some ss)(g:lQ E.prog t=true)(p:n<=10000)(q:E.prog.eqGuardType E.prog.depth t=false)(k:ss.all qEo=true){x y:Operand}{azq e:List D}(u:jG ss azq)(c:jG ss e):TOp.eval E (.bin b t x y) [.agg azq,.agg e]=some (dB (match b with|.neq=>!(tP azq e)|_=>tP azq e)):=by
 obtain⟨us,rfl,hu⟩:=qAd k u;obtain⟨vs,rfl,hv⟩:=qAd k c;rw[mA];simp only[D.toV,qDM,Option.map_some,qEx];have heq:=zAu n t ss l 10000 p us vs hu hv;simp only[g,qQM,cond_true]at heq;have h:∀b,qT E.prog (eqGuard b t x y (.agg ⟨us⟩) (.agg ⟨vs⟩))=some ():=by intro b;unfold eqGuard;cases b<;>simp[vW,gF,q,vN]
 rcases j with rfl|rfl
 ·have c:binOp .neq t (.agg ⟨us⟩) (.agg ⟨vs⟩)=(Op.equal t (.agg ⟨us⟩) (.agg ⟨vs⟩) >>= λr=>pure (.bool (!r))):=by unfold binOp;rfl
  have:oL E .neq t x y (.agg ⟨us⟩) (.agg ⟨vs⟩)=some (.bool (!(bQ us vs))):=by unfold oL;simp only[aP hu,aP hv,Bool.and_self,cond_true,vW,h,Option.bind_some,c,Op.equal,Op.maxDepth,heq,vN];rfl
  rw[this];rfl
 have c:binOp .eql t (.agg ⟨us⟩) (.agg ⟨vs⟩)=(Op.equal t (.agg ⟨us⟩) (.agg ⟨vs⟩) >>= λr=>pure (.bool r)):=by unfold binOp;rfl
 have:oL E .eql t x y (.agg ⟨us⟩) (.agg ⟨vs⟩)=some (.bool (bQ us vs)):=by unfold oL;simp only[aP hu,aP hv,Bool.and_self,cond_true,vW,h,Option.bind_some,c,Op.equal,Op.maxDepth,heq,vN];rfl
 rw[this];rfl
end
section
variable{E:Env}{fr fr':Fr}{t:T Value}{o:Oper}{H H1 H':AH}{n d i:Nat}{v:Value}{all:Array Oper}{os:List Oper}
end
theorem xU.one{el sz:Nat}{d:D}(h:xU el sz d):d.one=true:=by rcases h with rfl|⟨es,rfl,_⟩<;>rfl
section
variable{E:Env}{HS:FuncId->List D->D->Prop}
theorem qB{off:Nat}{cs:List D}{e:D}(x:cs[off]? = some e)(h:e.one=true):TOp.eval E (.fld false 1 off) [.agg cs]=some e:=by rw[qCM];simp only[mW,cond_false,D.cells,x,h,cond_true]
theorem xI{e:D}(x:e.one=true):TOp.eval E (.chk false 1) [e]=some e:=by rw[iZ];have h:Nat.beq 1 1=true:=rfl;simp only[eG,cond_false,x,h,Bool.and_self,cond_true]
theorem yB{off size:Nat}{cs:List D}(h:Nat.ble (off+size) cs.length=true):TOp.eval E (.fld true size off) [.agg cs]=some (.agg ((cs.drop off).take size)):=by rw[qCM];simp only[mW,cond_true,D.cells,h]
theorem xJ{a b:Tree}{Q:Res1->Prop}{ρ:List D}(h:wp E HS Q a ρ):wp E HS Q (if true=true then a else b) ρ:=h
theorem jH{a b:Tree}{Q:Res1->Prop}{ρ:List D}(h:wp E HS Q b ρ):wp E HS Q (if false=true then a else b) ρ:=h
theorem wT{k:IntKind}{n:Int}:wY (.int k) (.leaf (.int k n)):=⟨n,rfl⟩
theorem mT:jG [] []:=rfl
theorem jS{s:Sh}{ss:List Sh}{d:D}{ds:List D}(h:wY s d)(hs:jG ss ds):jG (s::ss) (d::ds):=⟨d,ds,rfl,h,hs⟩
theorem qAR{P:Program}{op:BinOp}{t:TypeId}{x y:Operand}{a b:ByteArray}:qT P (eqGuard op t x y (.string a) (.string b))=some ():=by unfold eqGuard;cases op<;>simp[vN]
theorem qBz(a b:ByteArray):(a.toList==b.toList)=(a==b):=by
 rw[ByteArray.toList_eq,ByteArray.toList_eq];cases h:(a==b)with
 |true=>rw[qQv h];exact beq_self_eq_true _
 | false=>
  cases x:(a.data.toList==b.data.toList)with
  |false=>rfl
  |true=>
   have he:a.data.toList=b.data.toList:=eq_of_beq x;have:a=b:=by obtain⟨⟨a⟩⟩:=a;simp_all
   rw[this,qJb]at h;cases h
theorem sB{t:TypeId}{x y:Operand}{a b:ByteArray}:TOp.eval E (.bin .neq t x y) [.leaf (.string a),.leaf (.string b)]=some (dB (!(a==b))):=by
 rw[mA];have h:∀s:ByteArray,zK (.string s)=true:=λ_=>rfl;have:oL E .neq t x y (.string a) (.string b)=some (.bool (!(a==b))):=by unfold oL;simp only[h,Bool.and_self,cond_true,vW,qAR,Option.bind_some,binOp,Op.stringOp,qBz,vN];rfl
 simp only[D.toV,this];rfl
theorem e7{t:TypeId}{x y:Operand}{a b:ByteArray}:TOp.eval E (.bin .eql t x y) [.leaf (.string a),.leaf (.string b)]=some (dB (a==b)):=by
 rw[mA];have h:∀s:ByteArray,zK (.string s)=true:=λ_=>rfl;have:oL E .eql t x y (.string a) (.string b)=some (.bool (a==b)):=by unfold oL;simp only[h,Bool.and_self,cond_true,vW,qAR,Option.bind_some,binOp,Op.stringOp,qBz,vN];rfl
 simp only[D.toV,this];rfl
end
theorem qHh(a b:Value):zA3 (.leaf a) (.leaf b)=qVo a b:=by simp only[zA3]
theorem qHg:tP [] []=true:=by simp only[tP]
theorem qEy(a b:D)(azq h:List D):tP (a::azq) (b::h)=(zA3 a b&&tP azq h):=by simp only[tP]
theorem qJw(k l:IntKind)(a b:Int):qVo (.int k a) (.int l b)=decide (a=b):=rfl
section
variable{E:Env}{HS:FuncId->List D->D->Prop}{Q:Res1->Prop}
theorem qF{b:Nat->Tree}{xs:List SV}{ρ:List D}{d x:D}(y:SV.ds (getD ρ) xs=[x])(h:x=d):wp E HS (To E HS b d) (.ret xs) ρ:=by simp only[wp,y,To,gZ];exact h
theorem qS{x:Nat->Tree}{k:Nat}{xs:List SV}{ρ ds:List D}{d:D}(y:SV.ds (getD ρ) xs=ds)(h:qE E HS x k ds d):wp E HS (To E HS x d) (.jump k xs) ρ:=by simp only[wp,y,To];exact h
theorem qN9{el sz size off:Nat}{d:D}{i:Nat}{cs:List D}(h:xU el sz d)(he:d.es[i]? = some (.agg cs))(b:cs.length=sz)(y:off+size<=sz)(k:¬(off=0/\size=sz)):TOp.eval E (.elem sz true size off) [d,dI (i:Int)]=some (.agg ((cs.drop off).take size)):=by
 rw[tM];have j:bM d (dI (i:Int))=some (.agg cs):=he;have x:Nat.ble (off+size) sz=true:=bL y;have c:Nat.ble (off+size) cs.length=true:=by rw[b];exact x
 have g:Nat.beq sz sz=true:=Nat.beq_refl _;have e:(Nat.beq off 0&&Nat.beq size sz)=false:=by
  cases h:(Nat.beq off 0&&Nat.beq size sz)with
  |false=>rfl
  |true=>simp_all
 simp only[j,qEV h he,g,x,e,c,cond_true,cond_false,Bool.and_self,Bool.true_and,Bool.and_true,mW,D.cells]
theorem qBt{ρ':List D}{o:TOp}{xs:List SV}{r:Tree}{ρ ds:List D}{d:D}(h:o.eval E ds=some d)(y:SV.ds (getD ρ) xs=ds)(x:ρ++[d]=ρ')(b:wp E HS Q r ρ'):wp E HS Q (.bind o xs r) ρ:=
 qQU h y (x▸b)
theorem qMC{ρ':List D}{y:Tgt}{xs:List SV}{b:Nat}{r:Tree}{ρ ds azq:List D}{f:FuncId}{d:D}(h:HS f azq d)(c:SV.ds (getD ρ) xs=ds)(e:qBA E y ds=some (f,azq))(j:qEp b d=true)(x:ρ++[d]=ρ')(g:wp E HS Q r ρ'):wp E HS Q (.call y xs b r) ρ:=
 qQT h c e j (x▸g)
end
class Snoc (ρ:List D) (d:D) (ρ':outParam (List D)):Prop where
 h:ρ++[d]=ρ'
instance (priority:=low) {ρ:List D} {d:D}:Snoc ρ d (ρ++[d]):=⟨rfl⟩
instance (d:D):Snoc [] d [d]:=⟨rfl⟩
instance {x:D} {ρ ρ':List D} {d:D} [s:Snoc ρ d ρ']:Snoc (x::ρ) d (x::ρ'):=⟨congrArg (x :: ·) s.h⟩
theorem iC{E:Env}{HS:FuncId->List D->D->Prop}{Q:Res1->Prop}{i:Nat}{a b:Tree}{ρ:List D}{t:Bool}(x:t=true->wp E HS Q a ρ)(y:t=false->wp E HS Q b ρ)(h:getD ρ i=dB t:=by rfl):wp E HS Q (.ite (.v i) a b) ρ:=aM h x y
theorem bS{E:Env}{HS:FuncId->List D->D->Prop}{Q:Res1->Prop}{ρ':List D}{o:TOp}{xs:List SV}{r:Tree}{ρ ds:List D}{d:D}[s:Snoc ρ d ρ'](h:o.eval E ds=some d)(y:wp E HS Q r ρ')(x:SV.ds (getD ρ) xs=ds:=by rfl):wp E HS Q (.bind o xs r) ρ:=qBt h x s.h y
theorem cS{E:Env}{HS:FuncId->List D->D->Prop}{Q:Res1->Prop}{ρ':List D}{x:Tgt}{xs:List SV}{y:Nat}{r:Tree}{ρ ds azq:List D}{f:FuncId}{d:D}[s:Snoc ρ d ρ'](h:HS f azq d)(e:wp E HS Q r ρ')(b:SV.ds (getD ρ) xs=ds:=by rfl)(c:qBA E x ds=some (f,azq):=by rfl)(g:qEp y d=true:=by rfl):wp E HS Q (.call x xs y r) ρ:=qMC h b c g s.h e
end Go.Am
