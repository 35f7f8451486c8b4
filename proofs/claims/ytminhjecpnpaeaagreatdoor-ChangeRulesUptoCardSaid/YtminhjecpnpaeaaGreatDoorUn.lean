/- Shapes of data, and their equality. Conditions: none. -/
import Derived.Test.YtminhjecpnpaeaaGreatDoorSx4
import Derived.Test.YtminhjecpnpaeaaGreatDoorSx7
set_option linter.unusedVariables false
set_option linter.unusedSimpArgs false
namespace Go.Am
open Go
inductive Sh where
 |int (k:IntKind)
 |bool
 |str
 |st (fs:List Sh)
 |sl (el sz:Nat) (e:Sh)
mutual
def vF:Sh->D->Prop
 |.int k,d=>∃n,d=.leaf (.int k n)
 |.bool,d=>∃b,d=.leaf (.bool b)
 |.str,d=>∃s,d=.leaf (.string s)
 |.st h,d=>∃cs,d=.agg cs/\jB h cs
 |.sl el sz e,d=>d=.nil∨∃es,d=.sl el sz es/\es.length<qT/\∀x∈es,vF e x
def jB:List Sh->List D->Prop
 | [],l=>l=[]
 |s::ss,l=>∃d ds,l=d::ds/\vF s d/\jB ss ds
end
def qLk:Value->Value->Bool
 |.int _ a,.int _ b=>decide (a=b)
 |.bool a,.bool b=>decide (a=b)
 |.string a,.string b=>a==b
 |_,_=>false
mutual
def gL:D->D->Bool
 |.leaf a,.leaf b=>qLk a b
 |.agg az,.agg h=>deqs az h
 |.nil,b=>match b with
  |.nil=>true
  |.sl _ _ h=>h.isEmpty
  |_=>false
 |.sl _ _ az,b=>match b with
  |.nil=>az.isEmpty
  |.sl _ _ h=>deqs az h
  |_=>false
 |_,_=>false
def deqs:List D->List D->Bool
 | [],[]=>true
 |a::az,b::h=>gL a b&&deqs az h
 |_,_=>false
end
theorem vG{α h:Type}(P:Program)(x:Sem α)(f:α->Sem h):qS P (x >>= f)=(qS P x).bind λa=>qS P (f a):=by
 show qS P (x.bind f)=_;induction x with
 |pure a=>rfl
 |program k ih=>exact ih P
 |mark m k ih=>exact ih
 |_=>rfl
theorem gF(P:Program):qS P program=some P:=rfl
theorem zO{α:Type}(P:Program)(a:α):qS P (pure a)=some a:=rfl
inductive VSh:Sh->Value->Prop
 |int {k:IntKind} {n:Int}:VSh (.int k) (.int k n)
 |bool {b:Bool}:VSh .bool (.bool b)
 |str {s:ByteArray}:VSh .str (.string s)
def qNU:TypeDesc->Option Sh
 |.bool=>some .bool
 |.int k=>some (.int k)
 |.string=>some .str
 |_=>none
def qPb(P:Program)(rec:TypeId->Option (List Sh)):List Field->List Sh->Option (List Sh)
 | [],acc=>some acc
 | f :: r, acc => bif f.name == "_" || !(Nat.beq f.offset acc.length) then none else match rec f.type, P.info? f.type with
  |some s,some i=>bif Nat.beq i.size s.length then qPb P rec r (acc++s)else none
  |_,_=>none
def lW(P:Program):Nat->TypeId->Option (List Sh)
 |0,_=>none
 | n+1,t=>match P.underlying t with
  |some (.struct h)=>bif P.stoodInHeld t then none else qPb P (lW P n) h.toList []
  |some d=>match qNU d with
   |some s=>some [s]
   |none=>none
  |none=>none
def rM(P:Program)(t:TypeId):Bool:=match P.underlying t with
 |some (.struct _)=>true
 |_=>false
def qN2(st:Bool)(vs:List Value):Value:=bif st then .agg ⟨vs⟩else vs.headD (.bool false)
def l5:List Value->List Value->Bool
 | [],[]=>true
 |a::az,b::h=>qLk a b&&l5 az h
 |_,_=>false
inductive VShs:List Sh->List Value->Prop
 |nil:VShs [] []
 |cons {s:Sh} {v:Value} {ss:List Sh} {vs:List Value} (h:VSh s v) (hs:VShs ss vs):VShs (s::ss) (v::vs)
theorem VShs.length:∀{ss:List Sh} {vs:List Value},VShs ss vs->vs.length=ss.length
 |_,_,.nil=>rfl
 |_,_,.cons _ h=>by simp[VShs.length h]
theorem VShs.split:∀{a b:List Sh} {vs:List Value},VShs (a++b) vs->∃x y,vs=x++y/\VShs a x/\VShs b y
 | [],_,vs,h=>⟨[],vs,rfl,.nil,h⟩
 |s::a,b,_,.cons h c=>by obtain⟨x,y,rfl,g,e⟩:=VShs.split (a:=a) c;exact⟨_::x,y,rfl,.cons h g,e⟩
theorem qGg:∀{a b c d:List Value},a.length=c.length->l5 (a++b) (c++d)=(l5 a c&&l5 b d)
 | [],b,[],d,_=>by simp[l5]
 |x::a,b,y::c,d,h=>by simp only[List.cons_append,l5,qGg (show a.length=c.length by simpa using h),Bool.and_assoc]
 | [],_,_::_,_,h=>by simp at h
 |_::_,_,[],_,h=>by simp at h
theorem qCb{P:Program}{t:TypeId}{d:TypeDesc}(h:P.underlying t=some d):qS P (underlying t)=some d:=by unfold underlying;simp only[vG,gF,Option.bind_some,h,zO]
theorem qLE{P:Program}{t:TypeId}{i:TypeInfo}(h:P.info? t=some i):qS P (sizeOf t)=some i.size:=by unfold sizeOf typeInfo;simp only[vG,gF,Option.bind_some,h,zO]
theorem qNx{P:Program}{n:Nat}{t:TypeId}{s:List Sh}(h:lW P n t=some s):qS P (isAgg t)=some (rM P t)/\(rM P t=false->s.length=1):=by
 cases n with
 |zero=>cases h
 | succ n=>
  simp only[lW]at h;unfold isAgg;cases hu:P.underlying t with
  |none=>rw[hu]at h;cases h
  | some d=>
   simp only[vG,qCb hu,Option.bind_some,rM,hu];rw[hu]at h;cases d<;>simp only[qNU]at h<;>first|(cases h;done)|skip
   all_goals first
    |exact⟨rfl,λ(e:true=false)=>Bool.noConfusion e⟩
    |(cases h;exact⟨rfl,λ_=>rfl⟩)
    |(simp only[oI]at h;subst h;exact⟨rfl,λ_=>rfl⟩)
theorem qD2{P:Program}{n:Nat}{t:TypeId}{s:List Sh}{i:TypeInfo}(h:lW P n t=some s)(g:P.info? t=some i)(hs:i.size=s.length)(a x b:List Value)(y:x.length=s.length):qS P (part t ⟨a++(x++b)⟩ a.length)=some (qN2 (rM P t) x):=by
 obtain⟨k,j⟩:=qNx h;unfold part;simp only[vG,k,Option.bind_some];cases c:rM P t with
 |true=>
  simp only[if_true,vG,qLE g,Option.bind_some,zO,qN2,cond_true]
  congr 2
  apply Array.ext';simp[List.extract_eq_take_drop,hs,←y]
 |false=>
  have e:=j c;rw[e]at y
  match x,y with
  | [v],_=>simp[qN2,zO]
theorem qKO{P:Program}{n d:Nat}(ih:∀t s,lW P n t=some s->∀B vs:List Value,VShs s B->VShs s vs->qS P (Op.equalIn d t (qN2 (rM P t) B) (qN2 (rM P t) vs))=some (l5 B vs)):
  ∀(K:List Field) (acc s:List Sh),qPb P (lW P n) K acc=some s->∃rest,s=acc++rest/\∀(g e k j:List Value),g.length=acc.length->e.length=acc.length->VShs rest k->VShs rest j->
   qS P (forIn K ((none,()):Option Bool×Unit) λf __s=>
      if f.name ≠ "_" then do
       let __do_lift ←part f.type {toList:=g++k} f.offset
       let __do_lift_1 ←part f.type {toList:=e++j} f.offset
       let __do_lift ←Op.equalIn d f.type __do_lift __do_lift_1
       if(!__do_lift)=true then pure (ForInStep.done (some false,()))else pure (ForInStep.yield (none,()))
      else pure (ForInStep.yield (none,())))=some (if l5 k j=true then(none,())else(some false,()))
 | [],acc,s,h=>by
  simp only[qPb,oI]at h
  subst h
  refine⟨[],by simp,?_⟩
  intro g e k j _ _ F C
  cases F;cases C
  simp[l5,zO]
 | f::r,acc,s,h=>by
  simp only[qPb]at h
  cases z : (f.name == "_" || !(Nat.beq f.offset acc.length)) with
  |true=>rw[z]at h;cases h
  | false=>
   rw[z]at h
   simp only[cond_false]at h
   simp only[Bool.or_eq_false_iff,Bool.not_eq_false',beq_eq_false_iff_ne,ne_eq]at z
   have b:=vE z.2
   split at h
   case h_2=>cases h
   rename_i I i c J
   simp only[qY]at h
   split at h
   case isFalse=>cases h
   rename_i p
   obtain⟨rest,rfl,hr⟩:=qKO ih r (acc++I) s h
   refine⟨I++rest,by simp,?_⟩
   intro g e k j o l F C
   obtain⟨x,H,rfl,x1,M⟩:=F.split
   obtain⟨y,G,rfl,A,L⟩:=C.split
   have w:=qD2 c J p g x H x1.length
   have u:=qD2 c J p e y G A.length
   rw[o,←b]at w
   rw[l,←b]at u
   have heq:=ih _ _ c x y x1 A
   have q:=hr (g++x) (e++y) H G (by simp[o,x1.length]) (by simp[l,A.length]) M L
   simp only[List.append_assoc]at q
   rw[qGg (by rw[x1.length,A.length])]
   simp only[List.forIn_cons,ne_eq,z.1,not_false_eq_true,if_true,vG,w,u,heq,Option.bind_some]
   cases hv:l5 x y with
   |true=>
    simp only[Bool.not_true,Bool.false_eq_true,if_false,zO,Option.bind_some,Bool.true_and]
    exact q
   |false=>simp[zO]
theorem qTA{P:Program}:∀(n t:Nat) (s:List Sh),lW P n t=some s->∀(d:Nat),n<=d->∀y vs:List Value,VShs s y->VShs s vs->qS P (Op.equalIn d t (qN2 (rM P t) y) (qN2 (rM P t) vs))=some (l5 y vs):=by
 intro n;induction n with
 |zero=>intro t s h;cases h
 | succ n ih=>
  intro t s h d hd y vs hu hv;obtain⟨d,rfl⟩:∃d',d=d'+1:=⟨d-1,by omega⟩;simp only[lW]at h;rw[Op.equalIn];split at h
  ·rename_i o x;have c:rM P t=true:=by simp only[rM,x]
   cases g:P.stoodInHeld t with
   |true=>rw[g]at h;cases h
   |false=>rw[g]at h;simp only[cond_false]at h;simp only[vG,qCb x,Option.bind_some,c,qN2,cond_true,gF,g,Bool.false_eq_true,if_false,←Array.forIn_toList];generalize o.toList=p at h;obtain⟨rest,hs,hr⟩:=qKO (d:=d) (λt s h y vs hu hv=>ih t s h d (by omega) y vs hu hv) p [] s h;simp only[List.nil_append]at hs;subst hs;have:=hr [] [] y vs rfl rfl hu hv;simp only[List.nil_append]at this;rw[this];cases l5 y vs<;>simp[zO]
  ·rename_i q j x;split at h;case h_2=>cases h
   rename_i r e;cases h;have c:rM P t=false:=by unfold rM;grind
   simp only[vG,qCb x,Option.bind_some,c,qN2,cond_false];cases hu with
   | cons i l=>cases l;cases hv with
    |cons h3 k=>
     cases k;cases q<;>simp only[qNU,oI]at e<;>first|(cases e;done)|subst e
     ·cases i;cases h3;simp only[List.headD_cons,zO,l5,qLk,Bool.and_true];grind
     ·cases i;cases h3;simp only[List.headD_cons,if_true,zO,l5,qLk,Bool.and_true];rfl
     cases i;cases h3;rename_i a b;simp only[List.headD_cons,zO,l5,qLk,Bool.and_true]
  cases h
theorem qDf(a:ByteArray):(a==a)=true:=by obtain⟨a⟩:=a;show(a==a)=true;exact beq_self_eq_true a
theorem qPw{a b:ByteArray}(h:(a==b)=true):a=b:=by obtain⟨a⟩:=a;obtain⟨b⟩:=b;have h:(a==b)=true:=h;rw[eq_of_beq h]
end Go.Am
namespace Go.Am
open Go
def xA(el sz:Nat)(d:D):Prop:=d=.nil∨∃es,d=.sl el sz es/\es.length<qT
abbrev dI(n:Int):D:=.leaf (.int .i64 n)
abbrev dB(b:Bool):D:=.leaf (.bool b)
section
variable{E:Env}{HS:FuncId->List D->D->Prop}{Q:Res1->Prop}
theorem qPZ{o:TOp}{xs:List SV}{r:Tree}{ρ ds:List D}{d:D}(h:o.eval E ds=some d)(x:SV.ds (getD ρ) xs=ds)(y:wp E HS Q r (ρ++[d])):wp E HS Q (.bind o xs r) ρ:=by simp only[wp,x,h];exact y
theorem qPY{x:Tgt}{xs:List SV}{y:Nat}{r:Tree}{ρ ds az:List D}{f:FuncId}{d:D}(h:HS f az d)(b:SV.ds (getD ρ) xs=ds)(c:qBN E x ds=some (f,az))(e:qEw y d=true)(hr:wp E HS Q r (ρ++[d])):wp E HS Q (.call x xs y r) ρ:=by simp only[wp,b,c];exact⟨d,h,e,hr⟩
theorem qM{el sz:Nat}{d:D}(h:xA el sz d):TOp.eval E (.len false) [d]=some (dI d.es.length):=by rcases h with rfl|⟨es,rfl,_⟩<;>rfl
theorem qNk{el sz:Nat}{d:D}(h:xA el sz d):d.es.length<qT:=by
 rcases h with rfl|⟨es,rfl,h⟩
 ·show 0<qT;unfold qT;omega
 exact h
theorem vJ{d:D}{i:Nat}{e:D}(he:d.es[i]? = some e):TOp.eval E .inr [d,dI (i:Int)]=some (dB true):=by rw[qJj];have:bQ d (dI (i:Int))=some e:=he;rw[this];rfl
theorem qFa{el sz:Nat}{d:D}{i:Nat}{e:D}(h:xA el sz d)(he:d.es[i]? = some e):d.szD=sz:=by
 rcases h with rfl|⟨es,rfl,_⟩
 ·simp[D.es]at he
 rfl
theorem jP{el sz:Nat}{d:D}{i:Nat}{cs:List D}(h:xA el sz d)(he:d.es[i]? = some (.agg cs))(x:cs.length=sz):TOp.eval E (.elem sz true sz 0) [d,dI (i:Int)]=some (.agg cs):=by rw[uB];have c:bQ d (dI (i:Int))=some (.agg cs):=he;have b:Nat.ble (0+sz) sz=true:=bL (by omega);have h3:Nat.beq sz sz=true:=Nat.beq_refl _;have y:Nat.beq 0 0=true:=rfl;simp only[c,qFa h he,h3,b,y,cond_true,Bool.and_self,eK,x,qY,if_true]
theorem xP{el:Nat}{d:D}{i:Nat}{e:D}(h:xA el 1 d)(he:d.es[i]? = some e)(x:e.one=true):TOp.eval E (.elem 1 false 1 0) [d,dI (i:Int)]=some e:=by rw[uB];have y:bQ d (dI (i:Int))=some e:=he;simp only[y,qFa h he];cases e<;>first|rfl|(cases x;done)
theorem nX{el sz off:Nat}{d:D}{i:Nat}{cs:List D}{e:D}(h:xA el sz d)(he:d.es[i]? = some (.agg cs))(b:cs[off]? = some e)(y:e.one=true)(x:off<sz):TOp.eval E (.elem sz false 1 off) [d,dI (i:Int)]=some e:=by rw[uB];have g:bQ d (dI (i:Int))=some (.agg cs):=he;have c:Nat.ble (off+1) sz=true:=bL x;have h3:Nat.beq sz sz=true:=Nat.beq_refl _;simp only[g,qFa h he,h3,cond_false,c,Bool.and_self,cond_true,Bool.false_and,bF,D.cells,b,y]
theorem zH{cs:List D}{n:Nat}(h:cs.length=n):TOp.eval E (.chk true n) [.agg cs]=some (.agg cs):=by rw[aH];simp only[eK,cond_true,h,qY,if_true]
theorem xB{t:TypeId}{x y:Operand}{m n:Int}:TOp.eval E (.bin .lss t x y) [dI m,dI n]=some (dB (decide (m<n))):=rfl
theorem yQ{t:TypeId}{x y:Operand}{m n:Int}:TOp.eval E (.bin .neq t x y) [dI m,dI n]=some (dB (m != n)):=rfl
theorem qTJ{n:Nat}(h:n<qT):IntKind.i64.wrap (n:Int)=(n:Int):=by
 have b:n<9223372036854775808:=h;have y:(n:Int)<9223372036854775808:=by omega
 have x:(n:Int)%2^64=(n:Int):=by omega
 simp only[IntKind.wrap,IntKind.bits,IntKind.signed,x];grind
theorem vC{t:TypeId}{x y:Operand}{n:Nat}(h:n+1<qT):TOp.eval E (.bin .add t x y) [dI (n:Int),dI 1]=some (dI ((n+1:Nat):Int)):=by have b:TOp.eval E (.bin .add t x y) [dI (n:Int),dI 1]=some (dI (IntKind.i64.wrap ((n:Int)+1))):=rfl;rw[b,show((n:Int)+1)=((n+1:Nat):Int) by omega,qTJ h]
theorem wG{t:TypeId}{b:Bool}:TOp.eval E (.un .not t) [dB b]=some (dB (!b)):=rfl
theorem vO{i:Nat}{a b:Tree}{ρ:List D}{t:Bool}(h:getD ρ i=dB t)(x:wp E HS Q (if t then a else b) ρ):wp E HS Q (.ite (.v i) a b) ρ:=by simp only[wp,SV.d,h];cases t<;>exact x
theorem qPX{i:Nat}{a b:Tree}{ρ:List D}{t:Bool}(h:getD ρ i=dB t)(x:t=true->wp E HS Q a ρ)(y:t=false->wp E HS Q b ρ):wp E HS Q (.ite (.v i) a b) ρ:=by
 simp only[wp,SV.d,h];cases t
 ·exact y rfl
 exact x rfl
def To(E:Env)(HS:FuncId->List D->D->Prop)(h:Nat->Tree)(d:D)(r:Res1):Prop:=match r with
 |.ret d'=>d'=d
 |.jump k ds=>qX E HS h k ds d
def iG(k:Nat)(next:List D)(p:Bool)(r:Res1):Prop:=match r with
 |.ret d'=>d'=dB false/\p=false
 |.jump k' ds=>k'=k/\ds=next/\p=true
theorem qX.step'{x:Nat->Tree}{k:Nat}{ρ:List D}{d:D}(h:wp E HS (To E HS x d) (x k) ρ):qX E HS x k ρ d:=by obtain⟨r,b,y⟩:=rT _ _ h;refine qX.step (y _ ?_);cases r<;>exact b
theorem qGY{y:Nat->Tree}{k:Nat}{ρ:Nat->List D}{N:Nat}{P:Nat->Bool}{rest:Bool}(step:∀i,i<N->wp E HS (iG k (ρ (i+1)) (P i)) (y k) (ρ i))(x:wp E HS (To E HS y (dB rest)) (y k) (ρ N)):
  ∀m i,i+m=N->qX E HS y k (ρ i) (dB ((List.range' i m).all P&&rest))
 |0,i,h=>by
  have c:i=N:=h
  subst c
  exact qX.step' x
 | m+1,i,h=>by
  refine qX.step' ?_
  obtain⟨r,b,e⟩:=rT _ _ (step i (by omega))
  refine e _ ?_
  cases r with
  |ret d'=>
   simp only[iG]at b
   simp only[To]
   grind
  |jump k' ds=>
   simp only[iG]at b
   simp only[To]
   obtain⟨rfl,rfl,g⟩:=b
   have:=qGY step x m (i+1) (by omega)
   grind
def qEu:Sh->Bool
 |.int _|.bool|.str=>true
 |_=>false
theorem qAp:∀{ss:List Sh} {cs:List D},ss.all qEu=true->jB ss cs->∃vs,cs=vs.map .leaf/\VShs ss vs
 | [],cs,_,h=>by simp only[jB]at h;exact⟨[],by simp[h],.nil⟩
 |s::ss,cs,y,h=>by
  simp only[jB]at h;obtain⟨d,ds,rfl,x,b⟩:=h;simp only[List.all_cons,aE]at y;obtain⟨vs,rfl,h3⟩:=qAp y.2 b;cases s with
  |int k=>simp only[vF]at x;obtain⟨n,rfl⟩:=x;exact⟨_::vs,rfl,.cons .int h3⟩
  |bool=>simp only[vF]at x;obtain⟨n,rfl⟩:=x;exact⟨_::vs,rfl,.cons .bool h3⟩
  |str=>simp only[vF]at x;obtain⟨n,rfl⟩:=x;exact⟨_::vs,rfl,.cons .str h3⟩
  |st _=>cases y.1
  |sl _ _ _=>cases y.1
theorem qDS:∀vs:List Value,D.toVs (vs.map .leaf)=some vs
 | []=>rfl
 |v::vs=>by simp only[List.map_cons,D.toVs,D.toV,qDS vs]
theorem qEF:∀h vs:List Value,deqs (h.map .leaf) (vs.map .leaf)=l5 h vs
 | [],[]=>rfl
 | [],_::_=>rfl
 |_::_,[]=>rfl
 |u::h,v::vs=>by simp only[List.map_cons,deqs,gL,l5,qEF h vs]
theorem sG:∀{ss:List Sh} {vs:List Value},VShs ss vs->zF (.agg ⟨vs⟩)=true
 | ss,vs,h=>by
  show zK 6 _=true;simp only[zK,List.all_eq_true,aE];intro v hv;have:∀{ss:List Sh} {vs:List Value},VShs ss vs->∀v∈vs,qE v=true/\zK 5 v=true:=by
   intro ss vs h;induction h with
   |nil=>intro v hv;cases hv
   |cons h x ih=>
    intro v hv;rcases List.mem_cons.1 hv with rfl|hv
    ·cases h<;>exact⟨rfl,rfl⟩
    exact ih v hv
  exact this h v hv
theorem cD(c:BinOp)(j:c=.neq∨c=.eql){n:Nat}{t:TypeId}{ss:List Sh}(l:lW E.prog n t=some ss)(i:rM E.prog t=true)(o:n<=10000)(p:E.prog.eqGuardType E.prog.depth t=false)(k:ss.all qEu=true){x y:Operand}{az g:List D}(q:jB ss az)(e:jB ss g):TOp.eval E (.bin c t x y) [.agg az,.agg g]=some (dB (match c with|.neq=>!(deqs az g)|_=>deqs az g)):=by
 obtain⟨b,rfl,hu⟩:=qAp k q;obtain⟨vs,rfl,hv⟩:=qAp k e;rw[aI];simp only[D.toV,qDS,Option.map_some,qEF];have heq:=qTA n t ss l 10000 o b vs hu hv;simp only[i,qN2,cond_true]at heq;have h:∀c,qS E.prog (eqGuard c t x y (.agg ⟨b⟩) (.agg ⟨vs⟩))=some ():=by intro c;unfold eqGuard;cases c<;>simp[vG,gF,p,zO]
 rcases j with rfl|rfl
 ·have e:binOp .neq t (.agg ⟨b⟩) (.agg ⟨vs⟩)=(Op.equal t (.agg ⟨b⟩) (.agg ⟨vs⟩) >>= λr=>pure (.bool (!r))):=by unfold binOp;rfl
  have:oW E .neq t x y (.agg ⟨b⟩) (.agg ⟨vs⟩)=some (.bool (!(l5 b vs))):=by unfold oW;simp only[sG hu,sG hv,Bool.and_self,cond_true,vG,h,Option.bind_some,e,Op.equal,Op.maxDepth,heq,zO];rfl
  rw[this];rfl
 have e:binOp .eql t (.agg ⟨b⟩) (.agg ⟨vs⟩)=(Op.equal t (.agg ⟨b⟩) (.agg ⟨vs⟩) >>= λr=>pure (.bool r)):=by unfold binOp;rfl
 have:oW E .eql t x y (.agg ⟨b⟩) (.agg ⟨vs⟩)=some (.bool (l5 b vs)):=by unfold oW;simp only[sG hu,sG hv,Bool.and_self,cond_true,vG,h,Option.bind_some,e,Op.equal,Op.maxDepth,heq,zO];rfl
 rw[this];rfl
end
end Go.Am
namespace Go.Am
end Go.Am
namespace Go.Am
open Go
theorem qV{el sz:Nat}{e:Sh}{d:D}(h:vF (.sl el sz e) d):xA el sz d:=by
 simp only[vF]at h;rcases h with h|⟨es,h,x,_⟩
 ·exact .inl h
 exact .inr ⟨es,h,x⟩
theorem jI{el sz:Nat}{e:Sh}{d x:D}{i:Nat}(h:vF (.sl el sz e) d)(y:d.es[i]? = some x):vF e x:=by
 simp only[vF]at h;rcases h with rfl|⟨es,rfl,_,h⟩
 ·simp[D.es]at y
 exact h x (List.mem_of_getElem? y)
theorem xA.one{el sz:Nat}{d:D}(h:xA el sz d):d.one=true:=by rcases h with rfl|⟨es,rfl,_⟩<;>rfl
theorem qAw{el sz zS h:Nat}{a b:D}(y:xA el sz a)(x:xA zS h b):gL a b=deqs a.es b.es:=by
 rcases y with rfl|⟨az,rfl,_⟩<;>rcases x with rfl|⟨c,rfl,_⟩
 ·rfl
 ·simp only[gL,D.es];cases c<;>rfl
 ·simp only[gL,D.es];cases az<;>rfl
 simp only[gL,D.es]
theorem qHI:∀{az x:List D},az.length≠x.length->deqs az x=false
 | [],[],h=>absurd rfl h
 | [],_::_,_=>rfl
 |_::_,[],_=>rfl
 |a::az,b::x,h=>by simp only[deqs,qHI (show az.length≠x.length by simpa using h),Bool.and_false]
theorem uE:∀(az c x y:List D),x.length=y.length->az.length=c.length->deqs az c=(List.range' x.length az.length).all λi=>gL ((x++az).getD i .nil) ((y++c).getD i .nil)
 | [],[],x,y,_,_=>by simp[deqs]
 | [],_::_,_,_,_,h=>by simp at h
 |_::_,[],_,_,_,h=>by simp at h
 |a::az,b::c,x,y,g,e=>by
  have ih:=uE az c (x++[a]) (y++[b]) (by simp[g]) (by simpa using e);simp only[List.append_assoc,List.cons_append,List.nil_append,List.length_append,List.length_cons,List.length_nil,Nat.zero_add]at ih;simp only[deqs,List.length_cons,List.range'_succ,List.all_cons,ih]
  congr 1
  grind
section
variable{E:Env}{HS:FuncId->List D->D->Prop}
theorem qQY{e:Nat->Tree}{k:Nat}{ρ:Nat->List D}{el sz zS g:Nat}{a b:D}{rest:Bool}(l:xA el sz a)(t:xA zS g b)(r:a.es.length=b.es.length)(step:∀i x y,a.es[i]? = some x->b.es[i]? = some y->i<a.es.length->i+1<qT->wp E HS (iG k (ρ (i+1)) (gL x y)) (e k) (ρ i))(c:wp E HS (To E HS e (dB rest)) (e k) (ρ a.es.length)):qX E HS e k (ρ 0) (dB (gL a b&&rest)):=by
 rw[qAw l t];have h:=uE a.es b.es [] [] rfl r;simp only[List.nil_append,List.length_nil]at h;rw[h];refine qGY (P:=λi=>gL (a.es.getD i .nil) (b.es.getD i .nil)) ?_ c a.es.length 0 (Nat.zero_add _);intro i j;have p:a.es[i]? = some a.es[i]:=List.getElem?_eq_getElem j;have o:b.es[i]? = some (b.es[i]'(by omega)):=List.getElem?_eq_getElem (by omega);have q:=step i _ _ p o j (by have:=qNk l;omega);have w:a.es.getD i .nil=a.es[i]:=by simp[p]
 have u:b.es.getD i .nil=b.es[i]'(by omega):=by simp[o]
 simp only[w,u];exact q
theorem yK{e:Nat->Tree}{k:Nat}{ρ:Nat->List D}{el sz zS o:Nat}{a b:D}{r:Bool}(t:xA el sz a)(w:xA zS o b)(u:a.es.length=b.es.length)(B:gL a b=false->r=false)(step:∀i x y,a.es[i]? = some x->b.es[i]? = some y->i<a.es.length->i+1<qT->wp E HS (iG k (ρ (i+1)) (gL x y)) (e k) (ρ i))(g:gL a b=true->wp E HS (To E HS e (dB r)) (e k) (ρ a.es.length)):qX E HS e k (ρ 0) (dB r):=by
 cases h:gL a b with
 |true=>have:=qQY (rest:=r) t w u step (g h);rw[h,Bool.true_and]at this;exact this
 | false=>
  rw[B h];have c:=uE a.es b.es [] [] rfl u;simp only[List.nil_append,List.length_nil]at c;rw[qAw t w,c]at h;have st:∀i,i<a.es.length->wp E HS (iG k (ρ (i+1)) (gL (a.es.getD i .nil) (b.es.getD i .nil))) (e k) (ρ i):=by
   intro i p;have j:a.es[i]? = some a.es[i]:=List.getElem?_eq_getElem p;have l:b.es[i]? = some (b.es[i]'(by omega)):=List.getElem?_eq_getElem (by omega);have z:=step i _ _ j l p (by have:=qNk t;omega);have G:a.es.getD i .nil=a.es[i]:=by simp[j]
   have F:b.es.getD i .nil=b.es[i]'(by omega):=by simp[l]
   rw[G,F];exact z
  have C:∀m i,i+m=a.es.length->((List.range' i m).all λi=>gL (a.es.getD i .nil) (b.es.getD i .nil))=false->qX E HS e k (ρ i) (dB false):=by
   intro m;induction m with
   |zero=>intro i _ h;simp at h
   |succ m ih=>
    intro i p h;refine qX.step' ?_;obtain⟨q,j,l⟩:=rT _ _ (st i (by omega));refine l _ ?_;cases q with
    |ret d'=>exact j.1
    |jump k' ds=>obtain⟨rfl,rfl,A⟩:=j;rw[List.range'_succ,List.all_cons,A,Bool.true_and]at h;exact ih (i+1) (by omega) h
  exact C _ 0 (Nat.zero_add _) h
theorem kQ{el sz zS x:Nat}{a b:D}(c:xA el sz a)(y:xA zS x b)(h:a.es.length≠b.es.length):gL a b=false:=by rw[qAw c y,qHI h]
theorem qKr{m n:Nat}:((m:Int) != (n:Int)) = !decide (m=n):=by grind
theorem pL{m n:Nat}(h:((m:Int) != (n:Int))=false):m=n:=by rw[qKr]at h;simpa using h
theorem pM{m n:Nat}(h:((m:Int) != (n:Int))=true):m≠n:=by rw[qKr]at h;simpa using h
theorem kN{m n:Nat}(h:m<n):decide ((m:Int)<(n:Int))=true:=decide_eq_true (by omega)
theorem wS{n:Nat}:decide ((n:Int)<(n:Int))=false:=decide_eq_false (by omega)
theorem qA{off:Nat}{cs:List D}{e:D}(x:cs[off]? = some e)(h:e.one=true):TOp.eval E (.fld false 1 off) [.agg cs]=some e:=by rw[qCX];simp only[bF,cond_false,D.cells,x,h,cond_true]
theorem xY{e:D}(x:e.one=true):TOp.eval E (.chk false 1) [e]=some e:=by rw[aH];have h:Nat.beq 1 1=true:=rfl;simp only[eK,cond_false,x,h,Bool.and_self,cond_true]
theorem cB{off size:Nat}{cs:List D}(h:Nat.ble (off+size) cs.length=true):TOp.eval E (.fld true size off) [.agg cs]=some (.agg ((cs.drop off).take size)):=by rw[qCX];simp only[bF,cond_true,D.cells,h]
theorem rL{a b:Tree}{Q:Res1->Prop}{ρ:List D}(h:wp E HS Q a ρ):wp E HS Q (if true=true then a else b) ρ:=h
theorem lJ{a b:Tree}{Q:Res1->Prop}{ρ:List D}(h:wp E HS Q b ρ):wp E HS Q (if false=true then a else b) ρ:=h
theorem jT{k:IntKind}{n:Int}:vF (.int k) (.leaf (.int k n)):=⟨n,rfl⟩
theorem dO{s:ByteArray}:vF .str (.leaf (.string s)):=⟨s,rfl⟩
theorem qDV{x:List Sh}{cs:List D}(h:jB x cs):vF (.st x) (.agg cs):=⟨cs,rfl,h⟩
theorem xT:jB [] []:=rfl
theorem qU{s:Sh}{ss:List Sh}{d:D}{ds:List D}(h:vF s d)(hs:jB ss ds):jB (s::ss) (d::ds):=⟨d,ds,rfl,h,hs⟩
theorem qA7{P:Program}{op:BinOp}{t:TypeId}{x y:Operand}{a b:ByteArray}:qS P (eqGuard op t x y (.string a) (.string b))=some ():=by unfold eqGuard;cases op<;>simp[zO]
theorem qBM(a b:ByteArray):(a.toList==b.toList)=(a==b):=by
 rw[ByteArray.toList_eq,ByteArray.toList_eq];cases h:(a==b)with
 |true=>rw[qPw h];exact beq_self_eq_true _
 | false=>
  cases x:(a.data.toList==b.data.toList)with
  |false=>rfl
  |true=>
   have he:a.data.toList=b.data.toList:=eq_of_beq x;have:a=b:=by obtain⟨⟨a⟩⟩:=a;simp_all
   rw[this,qDf]at h;cases h
theorem m8{t:TypeId}{x y:Operand}{a b:ByteArray}:TOp.eval E (.bin .neq t x y) [.leaf (.string a),.leaf (.string b)]=some (dB (!(a==b))):=by
 rw[aI];have h:∀s:ByteArray,zF (.string s)=true:=λ_=>rfl;have:oW E .neq t x y (.string a) (.string b)=some (.bool (!(a==b))):=by unfold oW;simp only[h,Bool.and_self,cond_true,vG,qA7,Option.bind_some,binOp,Op.stringOp,qBM,zO];rfl
 simp only[D.toV,this];rfl
theorem qQk{t:TypeId}{x y:Operand}{a b:ByteArray}:TOp.eval E (.bin .eql t x y) [.leaf (.string a),.leaf (.string b)]=some (dB (a==b)):=by
 rw[aI];have h:∀s:ByteArray,zF (.string s)=true:=λ_=>rfl;have:oW E .eql t x y (.string a) (.string b)=some (.bool (a==b)):=by unfold oW;simp only[h,Bool.and_self,cond_true,vG,qA7,Option.bind_some,binOp,Op.stringOp,qBM,zO];rfl
 simp only[D.toV,this];rfl
theorem qJT(c:BinOp)(g:c=.neq∨c=.eql){t:TypeId}(k:lW E.prog 1 t=some [.bool])(e:rM E.prog t=false){x y:Operand}{a b:Bool}:TOp.eval E (.bin c t x y) [dB a,dB b]=some (dB (match c with|.neq=>!(decide (a=b))|_=>decide (a=b))):=by
 rw[aI];have heq:=qTA 1 t [.bool] k 10000 (by decide) [.bool a] [.bool b] (.cons .bool .nil) (.cons .bool .nil);simp only[e,qN2,cond_false,List.headD_cons,l5,qLk,Bool.and_true]at heq;have h:∀c,qS E.prog (eqGuard c t x y (.bool a) (.bool b))=some ():=by intro c;unfold eqGuard;cases c<;>simp[zO]
 have j:∀s:Bool,zF (.bool s)=true:=λ_=>rfl;rcases g with rfl|rfl
 ·have i:binOp .neq t (.bool a) (.bool b)=(Op.equal t (.bool a) (.bool b) >>= λr=>pure (.bool (!r))):=by unfold binOp;rfl
  have:oW E .neq t x y (.bool a) (.bool b)=some (.bool (!(decide (a=b)))):=by unfold oW;simp only[j,Bool.and_self,cond_true,vG,h,Option.bind_some,i,Op.equal,Op.maxDepth,heq,zO];rfl
  simp only[D.toV,this];rfl
 have i:binOp .eql t (.bool a) (.bool b)=(Op.equal t (.bool a) (.bool b) >>= λr=>pure (.bool r)):=by unfold binOp;rfl
 have:oW E .eql t x y (.bool a) (.bool b)=some (.bool (decide (a=b))):=by unfold oW;simp only[j,Bool.and_self,cond_true,vG,h,Option.bind_some,i,Op.equal,Op.maxDepth,heq,zO];rfl
 simp only[D.toV,this];rfl
end
end Go.Am
namespace Go.Am
open Go
theorem qI(a b:Value):gL (.leaf a) (.leaf b)=qLk a b:=by simp only[gL]
theorem qP(a b:List D):gL (.agg a) (.agg b)=deqs a b:=by simp only[gL]
theorem qH:deqs [] []=true:=by simp only[deqs]
theorem qD(a b:D)(az h:List D):deqs (a::az) (b::h)=(gL a b&&deqs az h):=by simp only[deqs]
theorem qR(k l:IntKind)(a b:Int):qLk (.int k a) (.int l b)=decide (a=b):=rfl
theorem qG(a b:Bool):qLk (.bool a) (.bool b)=decide (a=b):=rfl
theorem qQ(a b:ByteArray):qLk (.string a) (.string b)=(a==b):=rfl
section
variable{E:Env}{HS:FuncId->List D->D->Prop}{Q:Res1->Prop}
theorem qO{y:Nat->Tree}{xs:List SV}{ρ:List D}{d d':D}(x:SV.ds (getD ρ) xs=[d'])(h:d'=d):wp E HS (To E HS y d) (.ret xs) ρ:=by simp only[wp,x,To,xN];exact h
theorem zG{x:Nat->Tree}{k:Nat}{xs:List SV}{ρ ds:List D}{d:D}(y:SV.ds (getD ρ) xs=ds)(h:qX E HS x k ds d):wp E HS (To E HS x d) (.jump k xs) ρ:=by simp only[wp,y,To];exact h
theorem xS{k:Nat}{ds:List D}{xs:List SV}{ρ:List D}{p:Bool}(x:SV.ds (getD ρ) xs=[dB false])(h:p=false):wp E HS (iG k ds p) (.ret xs) ρ:=by simp only[wp,x,iG,xN];exact⟨trivial,h⟩
theorem yG{k:Nat}{ds:List D}{xs:List SV}{ρ:List D}{p:Bool}(x:SV.ds (getD ρ) xs=ds)(h:p=true):wp E HS (iG k ds p) (.jump k xs) ρ:=by simp only[wp,x,iG];exact⟨trivial,trivial,h⟩
theorem qNl{el sz size off:Nat}{d:D}{i:Nat}{cs:List D}(h:xA el sz d)(he:d.es[i]? = some (.agg cs))(b:cs.length=sz)(y:off+size<=sz)(j:¬(off=0/\size=sz)):TOp.eval E (.elem sz true size off) [d,dI (i:Int)]=some (.agg ((cs.drop off).take size)):=by
 rw[uB];have g:bQ d (dI (i:Int))=some (.agg cs):=he;have x:Nat.ble (off+size) sz=true:=bL y;have c:Nat.ble (off+size) cs.length=true:=by rw[b];exact x
 have h3:Nat.beq sz sz=true:=Nat.beq_refl _;have e:(Nat.beq off 0&&Nat.beq size sz)=false:=by
  cases h:(Nat.beq off 0&&Nat.beq size sz)with
  |false=>rfl
  |true=>simp_all
 simp only[g,qFa h he,h3,x,e,c,cond_true,cond_false,Bool.and_self,Bool.true_and,Bool.and_true,bF,D.cells]
theorem qMS{ρ':List D}{o:TOp}{xs:List SV}{r:Tree}{ρ ds:List D}{d:D}(h:o.eval E ds=some d)(y:SV.ds (getD ρ) xs=ds)(x:ρ++[d]=ρ')(b:wp E HS Q r ρ'):wp E HS Q (.bind o xs r) ρ:=
 qPZ h y (x▸b)
theorem qMR{ρ':List D}{y:Tgt}{xs:List SV}{b:Nat}{r:Tree}{ρ ds az:List D}{f:FuncId}{d:D}(h:HS f az d)(c:SV.ds (getD ρ) xs=ds)(e:qBN E y ds=some (f,az))(i:qEw b d=true)(x:ρ++[d]=ρ')(g:wp E HS Q r ρ'):wp E HS Q (.call y xs b r) ρ:=
 qPY h c e i (x▸g)
theorem qN8{e:Nat->Tree}{k:Nat}{ρ:Nat->List D}{el sz zS o:Nat}{a b:D}{r:Bool}(l:xA el sz a)(p:xA zS o b)(C:a.es.length=b.es.length)(F:gL a b=false->r=false)(step:∀i x y,a.es[i]? = some x->b.es[i]? = some y->i<a.es.length->i+1<qT->(gL x y=true->qX E HS e k (ρ (i+1)) (dB r))->(gL x y=false->r=false)->wp E HS (To E HS e (dB r)) (e k) (ρ i))(j:gL a b=true->wp E HS (To E HS e (dB r)) (e k) (ρ a.es.length)):qX E HS e k (ρ 0) (dB r):=by
 have c:=uE a.es b.es [] [] rfl C;simp only[List.nil_append,List.length_nil]at c;have st:∀i,i<a.es.length->(gL (a.es.getD i .nil) (b.es.getD i .nil)=true->qX E HS e k (ρ (i+1)) (dB r))->(gL (a.es.getD i .nil) (b.es.getD i .nil)=false->r=false)->qX E HS e k (ρ i) (dB r):=by
  intro i g;have u:a.es[i]? = some a.es[i]:=List.getElem?_eq_getElem g;have t:b.es[i]? = some (b.es[i]'(by omega)):=List.getElem?_eq_getElem (by omega);have I:a.es.getD i .nil=a.es[i]:=by simp[u]
  have H:b.es.getD i .nil=b.es[i]'(by omega):=by simp[t]
  rw[I,H];intro z w;exact qX.step' (step i _ _ u t g (by have:=qNk l;omega) z w)
 cases h:gL a b with
 | true=>
  have A:∀m i,i+m=a.es.length->qX E HS e k (ρ i) (dB r):=by
   rw[qAw l p,c,List.all_eq_true]at h;intro m;induction m with
   |zero=>intro i g;have:i=a.es.length:=g;subst this;refine qX.step' (j ?_);rw[qAw l p,c,List.all_eq_true];exact h
   |succ m ih=>intro i g;refine st i (by omega) (λ_=>ih (i+1) (by omega)) (λq=>?_);have:=h i (List.mem_range'.2 ⟨i,by omega,by omega⟩);rw[q]at this;cases this
  exact A _ 0 (Nat.zero_add _)
 | false=>
  have B:=F h;rw[qAw l p,c]at h;have G:∀m i,i+m=a.es.length->((List.range' i m).all λi=>gL (a.es.getD i .nil) (b.es.getD i .nil))=false->qX E HS e k (ρ i) (dB r):=by
   intro m;induction m with
   |zero=>intro i _ h;simp at h
   |succ m ih=>intro i g h;refine st i (by omega) (λq=>?_) (λ_=>B);rw[List.range'_succ,List.all_cons,q,Bool.true_and]at h;exact ih (i+1) (by omega) h
  exact G _ 0 (Nat.zero_add _) h
theorem vD{a b:Bool}(h:a=b):dB a=dB b:=by rw[h]
end
theorem qWr:4<=10000:=by omega
class Snoc (ρ:List D) (d:D) (ρ':outParam (List D)):Prop where
 h:ρ++[d]=ρ'
instance (priority:=low) {ρ:List D} {d:D}:Snoc ρ d (ρ++[d]):=⟨rfl⟩
instance (d:D):Snoc [] d [d]:=⟨rfl⟩
instance {x:D} {ρ ρ':List D} {d:D} [s:Snoc ρ d ρ']:Snoc (x::ρ) d (x::ρ'):=⟨congrArg (x :: ·) s.h⟩
theorem iC{E:Env}{HS:FuncId->List D->D->Prop}{Q:Res1->Prop}{i:Nat}{a b:Tree}{ρ:List D}{t:Bool}(x:t=true->wp E HS Q a ρ)(y:t=false->wp E HS Q b ρ)(h:getD ρ i=dB t:=by rfl):wp E HS Q (.ite (.v i) a b) ρ:=qPX h x y
theorem bS{E:Env}{HS:FuncId->List D->D->Prop}{Q:Res1->Prop}{ρ':List D}{o:TOp}{xs:List SV}{r:Tree}{ρ ds:List D}{d:D}[s:Snoc ρ d ρ'](h:o.eval E ds=some d)(y:wp E HS Q r ρ')(x:SV.ds (getD ρ) xs=ds:=by rfl):wp E HS Q (.bind o xs r) ρ:=qMS h x s.h y
theorem cS{E:Env}{HS:FuncId->List D->D->Prop}{Q:Res1->Prop}{ρ':List D}{x:Tgt}{xs:List SV}{y:Nat}{r:Tree}{ρ ds as:List D}{f:FuncId}{d:D}[s:Snoc ρ d ρ'](h:HS f as d)(e:wp E HS Q r ρ')(b:SV.ds (getD ρ) xs=ds:=by rfl)(c:qBN E x ds=some (f,as):=by rfl)(g:qEw y d=true:=by rfl):wp E HS Q (.call x xs y r) ρ:=qMR h b c g s.h e
end Go.Am
