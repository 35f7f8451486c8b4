/- Shapes of data, and their equality. Conditions: none. -/
import Derived.Test.YtocbbgmhkhallaaGreatDoorSx4
set_option linter.unusedVariables false
set_option linter.unusedSimpArgs false
namespace Go.Am
open Go
abbrev ic:=@decide_eq_true
inductive Sh where
 |int (k:IntKind)
 |bool
 |str
 |st (fs:List Sh)
 |sl (el sz:Nat) (e:Sh)
mutual
def zE:Sh->La
 |.int k,d=>∃n,d=.leaf (.int k n)
 |.bool,d=>∃b,d=.leaf (.bool b)
 |.str,d=>∃s,d=.leaf (.string s)
 |.st fs,d=>∃cs,d=.agg cs/\jG fs cs
 |.sl el sz e,d=>d=.nil∨∃es,d=.sl el sz es/\es.length<zX/\∀x∈es,zE e x
def jG:List Sh->LR->Prop
 | [],l=>l=[]
 |s::ss,l=>∃d ds,l=d::ds/\zE s d/\jG ss ds
end
def qLw:LQ->LQ->Bool
 |.int _ a,.int _ b=>decide (a=b)
 |.bool a,.bool b=>decide (a=b)
 |.string a,.string b=>a==b
 |_,_=>false
mutual
def deq:D->D->Bool
 |.leaf a,.leaf b=>qLw a b
 |.agg az,.agg h=>deqs az h
 |.nil,b=>match b with
  |.nil=>true
  |.sl _ _ h=>h.isEmpty
  |_=>false
 |.sl _ _ az,b=>match b with
  |.nil=>az.isEmpty
  |.sl _ _ h=>deqs az h
  |_=>false
 |_,_=>false
def deqs:LR->LR->Bool
 | [],[]=>true
 |a::az,b::h=>deq a b&&deqs az h
 |_,_=>false
end
theorem vS{α h:Type}(P:LK)(x:Sem α)(f:α->Sem h):zB P (x >>= f)=(zB P x).bind λa=>zB P (f a):=by
 show zB P (x.bind f)=_;induction x with
 |pure a=>rfl
 |program k ih=>exact ih P
 |mark m k ih=>exact ih
 |_=>rfl
theorem gQ(P:LK):zB P program=some P:=rfl
theorem vF{α:Type}(P:LK)(a:α):zB P (pure a)=some a:=rfl
inductive VSh:Sh->LQ->Prop
 |int {k:IntKind} {n:Int}:VSh (.int k) (.int k n)
 |bool {b:Bool}:VSh .bool (.bool b)
 |str {s:LJ}:VSh .str (.string s)
def qON:TypeDesc->Option Sh
 |.bool=>some .bool
 |.int k=>some (.int k)
 |.string=>some .str
 |_=>none
def qPR(P:LK)(rec:LN->Option (List Sh)):List Field->List Sh->Option (List Sh)
 | [],acc=>some acc
 | f :: r, acc => bif f.name == "_" || !(Nat.beq f.offset acc.length) then none else match rec f.type, P.info? f.type with
  |some s,some i=>bif Nat.beq i.size s.length then qPR P rec r (acc++s)else none
  |_,_=>none
def mV(P:LK):Nat->LN->Option (List Sh)
 |0,_=>none
 | n+1,t=>match P.underlying t with
  |some (.struct fs)=>bif P.stoodInHeld t then none else qPR P (mV P n) fs.toList []
  |some d=>match qON d with
   |some s=>some [s]
   |none=>none
  |none=>none
def pD(P:LK)(t:LN):Bool:=match P.underlying t with
 |some (.struct _)=>true
 |_=>false
def qOX(st:Bool)(vs:LA):LQ:=bif st then .agg ⟨vs⟩else vs.headD (.bool false)
def bP:LA->LA->Bool
 | [],[]=>true
 |a::az,b::h=>qLw a b&&bP az h
 |_,_=>false
inductive VShs:List Sh->LA->Prop
 |nil:VShs [] []
 |cons {s:Sh} {v:LQ} {ss:List Sh} {vs:LA} (h:VSh s v) (hs:VShs ss vs):VShs (s::ss) (v::vs)
theorem VShs.length:∀{ss:List Sh} {vs:LA},VShs ss vs->vs.length=ss.length
 |_,_,.nil=>rfl
 |_,_,.cons _ h=>by simp[VShs.length h]
theorem VShs.split:∀{a b:List Sh} {vs:LA},VShs (a++b) vs->∃x y,vs=x++y/\VShs a x/\VShs b y
 | [],_,vs,h=>⟨[],vs,rfl,.nil,h⟩
 |s::a,b,_,.cons h c=>by obtain⟨x,y,rfl,j,g⟩:=VShs.split (a:=a) c;exact⟨_::x,y,rfl,.cons h j,g⟩
theorem qGI:∀{a b c d:LA},a.length=c.length->bP (a++b) (c++d)=(bP a c&&bP b d)
 | [],b,[],d,_=>by simp[bP]
 |x::a,b,y::c,d,h=>by simp only[ej,bP,qGI (show a.length=c.length by simpa using h),Bool.and_assoc]
 | [],_,_::_,_,h=>by simp at h
 |_::_,_,[],_,h=>by simp at h
variable{P:LK}{t:LN}
theorem qCj{d:TypeDesc}(h:P.underlying t=some d):zB P (underlying t)=some d:=by unfold underlying;simp only[vS,gQ,bn,h,vF]
theorem qLQ{i:TypeInfo}(h:P.info? t=some i):zB P (sizeOf t)=some i.size:=by unfold sizeOf typeInfo;simp only[vS,gQ,bn,h,vF]
variable{s:List Sh}
theorem qOm{n:Nat}(h:mV P n t=some s):zB P (isAgg t)=some (pD P t)/\(pD P t=false->s.length=1):=by
 cases n with
 |zero=>cases h
 | succ n=>
  simp only[mV]at h;unfold isAgg;cases hu:P.underlying t with
  |none=>rw[hu]at h;cases h
  | some d=>
   simp only[vS,qCj hu,bn,pD,hu];rw[hu]at h;cases d<;>simp only[qON]at h<;>first|(cases h;done)|skip
   all_goals first
    |exact⟨rfl,λ(e:true=false)=>Bool.noConfusion e⟩
    |(cases h;exact⟨rfl,λ_=>rfl⟩)
    |(simp only[oI]at h;subst h;exact⟨rfl,λ_=>rfl⟩)
theorem qEo{n:Nat}{i:TypeInfo}(h:mV P n t=some s)(l:P.info? t=some i)(hs:i.size=s.length)(a x b:LA)(c:x.length=s.length):zB P (part t ⟨a++(x++b)⟩ a.length)=some (qOX (pD P t) x):=by
 obtain⟨q,p⟩:=qOm h;unfold part;simp only[vS,q,bn];cases g:pD P t with
 |true=>
  simp only[dn,vS,qLQ l,bn,vF,qOX,ai]
  congr 2
  apply fq;simp[List.extract_eq_take_drop,hs,←c]
 |false=>
  have j:=p g;rw[j]at c
  match x,c with
  | [v],_=>simp[qOX,vF]
theorem qK3{P:LK}{n d:Nat}(ih:∀t s,mV P n t=some s->∀us vs:LA,VShs s us->VShs s vs->zB P (Op.equalIn d t (qOX (pD P t) us) (qOX (pD P t) vs))=some (bP us vs)):
  ∀(fl:List Field) (acc s:List Sh),qPR P (mV P n) fl acc=some s->∃rest,s=acc++rest/\∀(l j q p:LA),l.length=acc.length->j.length=acc.length->VShs rest q->VShs rest p->
   zB P (forIn fl ((none,()):Option Bool×Unit) λf __s=>
      if f.name ≠ "_" then do
       let __do_lift ←part f.type {toList:=l++q} f.offset
       let __do_lift_1 ←part f.type {toList:=j++p} f.offset
       let __do_lift ←Op.equalIn d f.type __do_lift __do_lift_1
       if(!__do_lift)=true then pure (ForInStep.done (some false,()))else pure (ForInStep.yield (none,()))
      else pure (ForInStep.yield (none,())))=some (if bP q p=true then(none,())else(some false,()))
 | [],acc,s,h=>by
  simp only[qPR,oI]at h
  subst h
  refine⟨[],by simp,?_⟩
  intro l j q p _ _ I H
  cases I;cases H
  simp[bP,vF]
 | f::r,acc,s,h=>by
  simp only[qPR]at h
  cases F : (f.name == "_" || !(Nat.beq f.offset acc.length)) with
  |true=>rw[F]at h;cases h
  | false=>
   rw[F]at h
   simp only[bc]at h
   simp only[Bool.or_eq_false_iff,Bool.not_eq_false',beq_eq_false_iff_ne,ne_eq]at F
   have c:=vW F.2
   split at h
   case h_2=>cases h
   rename_i s1 i g L
   simp only[zI]at h
   split at h
   case isFalse=>cases h
   rename_i z
   obtain⟨rest,rfl,hr⟩:=qK3 ih r (acc++s1) s h
   refine⟨s1++rest,by simp,?_⟩
   intro l j q p w u I H
   obtain⟨x,K,rfl,x1,x2⟩:=I.split
   obtain⟨y,J,rfl,G,M⟩:=H.split
   have C:=qEo g L z l x K x1.length
   have B:=qEo g L z j y J G.length
   rw[w,←c]at C
   rw[u,←c]at B
   have heq:=ih _ _ g x y x1 G
   have A:=hr (l++x) (j++y) K J (by simp[w,x1.length]) (by simp[u,G.length]) x2 M
   simp only[ay]at A
   rw[qGI (by rw[x1.length,G.length])]
   simp only[List.forIn_cons,ne_eq,F.1,not_false_eq_true,dn,vS,C,B,heq,bn]
   cases hv:bP x y with
   |true=>
    simp only[Bool.not_true,cz,gl,vF,bn,ep]
    exact A
   |false=>simp[vF]
theorem qVi:∀(n t:Nat) (s:List Sh),mV P n t=some s->∀(d:Nat),n<=d->∀us vs:LA,VShs s us->VShs s vs->zB P (Op.equalIn d t (qOX (pD P t) us) (qOX (pD P t) vs))=some (bP us vs):=by
 intro n;induction n with
 |zero=>intro t s h;cases h
 | succ n ih=>
  intro t s h d hd us vs hu hv;obtain⟨d,rfl⟩:∃d',d=d'+1:=⟨d-1,by omega⟩;simp only[mV]at h;rw[Op.equalIn];split at h
  ·rename_i fs c;have g:pD P t=true:=by simp only[pD,c]
   cases l:P.stoodInHeld t with
   |true=>rw[l]at h;cases h
   |false=>rw[l]at h;simp only[bc]at h;simp only[vS,qCj c,bn,g,qOX,ai,gQ,l,cz,gl,←Array.forIn_toList];generalize fs.toList=fl at h;obtain⟨rest,hs,hr⟩:=qK3 (d:=d) (λt s h us vs hu hv=>ih t s h d (by omega) us vs hu hv) fl [] s h;simp only[df]at hs;subst hs;have:=hr [] [] us vs rfl rfl hu hv;simp only[df]at this;rw[this];cases bP us vs<;>simp[vF]
  ·rename_i z q c;split at h;case h_2=>cases h
   rename_i s1 j;cases h;have g:pD P t=false:=by unfold pD;grind
   simp only[vS,qCj c,bn,g,qOX,bc];cases hu with
   | cons p w=>cases w;cases hv with
    |cons h3 u=>
     cases u;cases z<;>simp only[qON,oI]at j<;>first|(cases j;done)|subst j
     ·cases p;cases h3;simp only[List.headD_cons,vF,bP,qLw,er];grind
     ·cases p;cases h3;simp only[List.headD_cons,dn,vF,bP,qLw,er];rfl
     cases p;cases h3;rename_i a b;simp only[List.headD_cons,vF,bP,qLw,er]
  cases h
theorem qDo(a:LJ):(a==a)=true:=by obtain⟨a⟩:=a;show(a==a)=true;exact beq_self_eq_true a
variable{b:LJ}
theorem qQg{a:LJ}(h:(a==b)=true):a=b:=by obtain⟨a⟩:=a;obtain⟨b⟩:=b;have h:(a==b)=true:=h;rw[eq_of_beq h]
def oH(el sz:Nat)(d:D):Prop:=d=.nil∨∃es,d=.sl el sz es/\es.length<zX
abbrev dI(n:Int):D:=.leaf (.int .i64 n)
abbrev dB(b:Bool):D:=.leaf (.bool b)
variable{Ts:LV}{cs ρ:LR}{e:D}{el fl i k off:Nat}{f:LO}{o:TOp}{r:Tree}{ss:List Sh}{tg:Tgt}{x y:LM}{xs:LS}
section
variable{E:Env}{HS:LO->LR->La}{Q:Res1->Prop}
theorem xB{ds:LR}{d:D}(h:o.eval E ds=some d)(c:SV.ds (getD ρ) xs=ds)(g:wp E HS Q r (ρ++[d])):wp E HS Q (.bind o xs r) ρ:=by simp only[wp,c,h];exact g
theorem qFa{ds az:LR}{d:D}(h:HS f az d)(c:SV.ds (getD ρ) xs=ds)(g:aB E tg ds=some (f,az))(j:uD fl d=true)(hr:wp E HS Q r (ρ++[d])):wp E HS Q (.call tg xs fl r) ρ:=by simp only[wp,c,g];exact⟨d,h,j,hr⟩
theorem qO{sz:Nat}{d:D}(h:oH el sz d):TOp.eval E (.len false) [d]=some (dI d.es.length):=by rcases h with rfl|⟨es,rfl,_⟩<;>rfl
theorem qN6{sz:Nat}{d:D}(h:oH el sz d):d.es.length<zX:=by
 rcases h with rfl|⟨es,rfl,h⟩
 ·show 0<zX;unfold zX;omega
 exact h
theorem vY{d:D}(he:d.es[i]? = some e):TOp.eval E .inr [d,dI (i:Int)]=some (dB true):=by rw[qC6];have:rT d (dI (i:Int))=some e:=he;rw[this];rfl
theorem qFt{sz:Nat}{d:D}(h:oH el sz d)(he:d.es[i]? = some e):d.rp=sz:=by
 rcases h with rfl|⟨es,rfl,_⟩
 ·simp[D.es]at he
 rfl
theorem vZ{sz:Nat}{d:D}(h:oH el sz d)(he:d.es[i]? = some (.agg cs))(c:cs.length=sz):TOp.eval E (.elem sz true sz 0) [d,dI (i:Int)]=some (.agg cs):=by rw[dA];have l:rT d (dI (i:Int))=some (.agg cs):=he;have j:Nat.ble (0+sz) sz=true:=bL (by omega);have h3:Nat.beq sz sz=true:=bj _;have g:Nat.beq 0 0=true:=rfl;simp only[l,qFt h he,h3,j,g,ai,cj,cI,c,zI,dn]
theorem yH{d:D}(h:oH el 1 d)(he:d.es[i]? = some e)(c:e.one=true):TOp.eval E (.elem 1 false 1 0) [d,dI (i:Int)]=some e:=by rw[dA];have g:rT d (dI (i:Int))=some e:=he;simp only[g,qFt h he];cases e<;>first|rfl|(cases c;done)
theorem qB6{sz:Nat}{d:D}(h:oH el sz d)(he:d.es[i]? = some (.agg cs))(j:cs[off]? = some e)(g:e.one=true)(c:off<sz):TOp.eval E (.elem sz false 1 off) [d,dI (i:Int)]=some e:=by rw[dA];have p:rT d (dI (i:Int))=some (.agg cs):=he;have l:Nat.ble (off+1) sz=true:=bL c;have h3:Nat.beq sz sz=true:=bj _;simp only[p,qFt h he,h3,bc,l,cj,ai,gw,nI,D.cells,j,g]
theorem qS{n:Nat}(h:cs.length=n):TOp.eval E (.mz true n) [.agg cs]=some (.agg cs):=by rw[sA];simp only[cI,ai,h,zI,dn]
theorem jE{m n:Int}:TOp.eval E (.bin .lss t x y) [dI m,dI n]=some (dB (decide (m<n))):=rfl
theorem xZ{m n:Int}:TOp.eval E (.bin .neq t x y) [dI m,dI n]=some (dB (m != n)):=rfl
theorem qV0{m n:Int}:TOp.eval E (.bin .eql t x y) [dI m,dI n]=some (dB (m==n)):=rfl
theorem qVu{n:Nat}(h:n<zX):IntKind.i64.wrap (n:Int)=(n:Int):=by
 have j:n<9223372036854775808:=h;have g:(n:Int)<9223372036854775808:=by omega
 have c:(n:Int)%2^64=(n:Int):=by omega
 simp only[IntKind.wrap,IntKind.bits,IntKind.signed,c];grind
theorem zF{n:Nat}(h:n+1<zX):TOp.eval E (.bin .add t x y) [dI (n:Int),dI 1]=some (dI ((n+1:Nat):Int)):=by have c:TOp.eval E (.bin .add t x y) [dI (n:Int),dI 1]=some (dI (IntKind.i64.wrap ((n:Int)+1))):=rfl;rw[c,show((n:Int)+1)=((n+1:Nat):Int) by omega,qVu h]
theorem jJ{b:Bool}:TOp.eval E (.un .not t) [dB b]=some (dB (!b)):=rfl
theorem zV{a b:Tree}{t:Bool}(h:getD ρ i=dB t)(c:wp E HS Q (if t then a else b) ρ):wp E HS Q (.ite (.v i) a b) ρ:=by simp only[wp,SV.d,h];cases t<;>exact c
theorem qQN{a b:Tree}{t:Bool}(h:getD ρ i=dB t)(c:t=true->wp E HS Q a ρ)(g:t=false->wp E HS Q b ρ):wp E HS Q (.ite (.v i) a b) ρ:=by
 simp only[wp,SV.d,h];cases t
 ·exact g rfl
 exact c rfl
def To(E:Env)(HS:LO->LR->La)(Ts:LV)(d:D)(r:Res1):Prop:=match r with
 |.ret d'=>d'=d
 |.jump k ds=>qP E HS Ts k ds d
def iX(k:Nat)(next:LR)(p:Bool)(r:Res1):Prop:=match r with
 |.ret d'=>d'=dB false/\p=false
 |.jump k' ds=>k'=k/\ds=next/\p=true
theorem qP.a9{d:D}(h:wp E HS (To E HS Ts d) (Ts k) ρ):qP E HS Ts k ρ d:=by obtain⟨r,g,c⟩:=pL _ _ h;refine qP.step (c _ ?_);cases r<;>exact g
theorem qHj{Ts:LV}{k:Nat}{ρ:Nat->LR}{N:Nat}{P:Nat->Bool}{rest:Bool}(step:∀i,i<N->wp E HS (iX k (ρ (i+1)) (P i)) (Ts k) (ρ i))(c:wp E HS (To E HS Ts (dB rest)) (Ts k) (ρ N)):
  ∀m i,i+m=N->qP E HS Ts k (ρ i) (dB ((List.range' i m).all P&&rest))
 |0,i,h=>by
  have j:i=N:=h
  subst j
  exact qP.a9 c
 | m+1,i,h=>by
  refine qP.a9 ?_
  obtain⟨r,g,l⟩:=pL _ _ (step i (by omega))
  refine l _ ?_
  cases r with
  |ret d'=>
   simp only[iX]at g
   simp only[To]
   grind
  |jump k' ds=>
   simp only[iX]at g
   simp only[To]
   obtain⟨rfl,rfl,p⟩:=g
   have:=qHj step c m (i+1) (by omega)
   grind
def qEP:Sh->Bool
 |.int _|.bool|.str=>true
 |_=>false
theorem qAz:∀{ss:List Sh} {cs:LR},ss.all qEP=true->jG ss cs->∃vs,cs=vs.map .leaf/\VShs ss vs
 | [],cs,_,h=>by simp only[jG]at h;exact⟨[],by simp[h],.nil⟩
 |s::ss,cs,g,h=>by
  simp only[jG]at h;obtain⟨d,ds,rfl,c,j⟩:=h;simp only[eo,aE]at g;obtain⟨vs,rfl,h3⟩:=qAz g.2 j;cases s with
  |int k=>simp only[zE]at c;obtain⟨n,rfl⟩:=c;exact⟨_::vs,rfl,.cons .int h3⟩
  |bool=>simp only[zE]at c;obtain⟨n,rfl⟩:=c;exact⟨_::vs,rfl,.cons .bool h3⟩
  |str=>simp only[zE]at c;obtain⟨n,rfl⟩:=c;exact⟨_::vs,rfl,.cons .str h3⟩
  |st _=>cases g.1
  |sl _ _ _=>cases g.1
theorem qEg:∀vs:LA,D.oh (vs.map .leaf)=some vs
 | []=>rfl
 |v::vs=>by simp only[fa,D.oh,D.mg,qEg vs]
theorem qEZ:∀us vs:LA,deqs (us.map .leaf) (vs.map .leaf)=bP us vs
 | [],[]=>rfl
 | [],_::_=>rfl
 |_::_,[]=>rfl
 |u::us,v::vs=>by simp only[fa,deqs,deq,bP,qEZ us vs]
theorem sU:∀{ss:List Sh} {vs:LA},VShs ss vs->zP (.agg ⟨vs⟩)=true
 | ss,vs,h=>by
  show zW 6 _=true;simp only[zW,al,aE];intro v hv;have:∀{ss:List Sh} {vs:LA},VShs ss vs->∀v∈vs,qU v=true/\zW 5 v=true:=by
   intro ss vs h;induction h with
   |nil=>intro v hv;cases hv
   |cons h c ih=>
    intro v hv;rcases bl.1 hv with rfl|hv
    ·cases h<;>exact⟨rfl,rfl⟩
    exact ih v hv
  exact this h v hv
theorem oP(c:BinOp)(p:c=.neq∨c=.eql){n:Nat}(u:mV E.prog n t=some ss)(l:pD E.prog t=true)(w:n<=10000)(z:E.prog.eqGuardType E.prog.depth t=false)(q:ss.all qEP=true){az j:LR}(A:jG ss az)(g:jG ss j):TOp.eval E (.bin c t x y) [.agg az,.agg j]=some (dB (match c with|.neq=>!(deqs az j)|_=>deqs az j)):=by
 obtain⟨us,rfl,hu⟩:=qAz q A;obtain⟨vs,rfl,hv⟩:=qAz q g;rw[bH];simp only[D.mg,qEg,aj,qEZ];have heq:=qVi n t ss u 10000 w us vs hu hv;simp only[l,qOX,ai]at heq;have h:∀c,zB E.prog (eqGuard c t x y (.agg ⟨us⟩) (.agg ⟨vs⟩))=some ():=by intro c;unfold eqGuard;cases c<;>simp[vS,gQ,z,vF]
 rcases p with rfl|rfl
 ·have g:binOp .neq t (.agg ⟨us⟩) (.agg ⟨vs⟩)=(Op.equal t (.agg ⟨us⟩) (.agg ⟨vs⟩) >>= λr=>pure (.bool (!r))):=by unfold binOp;rfl
  have:pA E .neq t x y (.agg ⟨us⟩) (.agg ⟨vs⟩)=some (.bool (!(bP us vs))):=by unfold pA;simp only[sU hu,sU hv,cj,ai,vS,h,bn,g,Op.equal,Op.maxDepth,heq,vF];rfl
  rw[this];rfl
 have g:binOp .eql t (.agg ⟨us⟩) (.agg ⟨vs⟩)=(Op.equal t (.agg ⟨us⟩) (.agg ⟨vs⟩) >>= λr=>pure (.bool r)):=by unfold binOp;rfl
 have:pA E .eql t x y (.agg ⟨us⟩) (.agg ⟨vs⟩)=some (.bool (bP us vs)):=by unfold pA;simp only[sU hu,sU hv,cj,ai,vS,h,bn,g,Op.equal,Op.maxDepth,heq,vF];rfl
 rw[this];rfl
end
theorem qM{sz:Nat}{e:Sh}{d:D}(h:zE (.sl el sz e) d):oH el sz d:=by
 simp only[zE]at h;rcases h with h|⟨es,h,c,_⟩
 ·exact .inl h
 exact .inr ⟨es,h,c⟩
theorem vN{sz:Nat}{e:Sh}{d x:D}(h:zE (.sl el sz e) d)(c:d.es[i]? = some x):zE e x:=by
 simp only[zE]at h;rcases h with rfl|⟨es,rfl,_,h⟩
 ·simp[D.es]at c
 exact h x (be c)
theorem oH.one{sz:Nat}{d:D}(h:oH el sz d):d.one=true:=by rcases h with rfl|⟨es,rfl,_⟩<;>rfl
theorem qGl{sz vC h:Nat}{a b:D}(g:oH el sz a)(c:oH vC h b):deq a b=deqs a.es b.es:=by
 rcases g with rfl|⟨az,rfl,_⟩<;>rcases c with rfl|⟨j,rfl,_⟩
 ·rfl
 ·simp only[deq,D.es];cases j<;>rfl
 ·simp only[deq,D.es];cases az<;>rfl
 simp only[deq,D.es]
theorem qHX:∀{az c:LR},az.length≠c.length->deqs az c=false
 | [],[],h=>absurd rfl h
 | [],_::_,_=>rfl
 |_::_,[],_=>rfl
 |a::az,b::c,h=>by simp only[deqs,qHX (show az.length≠c.length by simpa using h),Bool.and_false]
theorem qDc:∀(az j c g:LR),c.length=g.length->az.length=j.length->deqs az j=(List.range' c.length az.length).all λi=>deq ((c++az).getD i .nil) ((g++j).getD i .nil)
 | [],[],c,g,_,_=>by simp[deqs]
 | [],_::_,_,_,_,h=>by simp at h
 |_::_,[],_,_,_,h=>by simp at h
 |a::az,b::j,c,g,p,l=>by
  have ih:=qDc az j (c++[a]) (g++[b]) (by simp[p]) (by simpa using l);simp only[ay,ej,df,bx,dj,dg,fc]at ih;simp only[deqs,dj,jz,eo,ih]
  congr 1
  grind
variable{Q:Res1->Prop}
section
variable{E:Env}{HS:LO->LR->La}
theorem qRH{ρ:Nat->LR}{sz vC g:Nat}{a b:D}{rest:Bool}(l:oH el sz a)(z:oH vC g b)(w:a.es.length=b.es.length)(step:∀i x y,a.es[i]? = some x->b.es[i]? = some y->i<a.es.length->i+1<zX->wp E HS (iX k (ρ (i+1)) (deq x y)) (Ts k) (ρ i))(c:wp E HS (To E HS Ts (dB rest)) (Ts k) (ρ a.es.length)):qP E HS Ts k (ρ 0) (dB (deq a b&&rest)):=by
 rw[qGl l z];have h:=qDc a.es b.es [] [] rfl w;simp only[df,dg]at h;rw[h];refine qHj (P:=λi=>deq (a.es.getD i .nil) (b.es.getD i .nil)) ?_ c a.es.length 0 (fc _);intro i j;have q:a.es[i]? = some a.es[i]:=ak j;have p:b.es[i]? = some (b.es[i]'(by omega)):=ak (by omega);have u:=step i _ _ q p j (by have:=qN6 l;omega);have B:a.es.getD i .nil=a.es[i]:=by simp[q]
 have A:b.es.getD i .nil=b.es[i]'(by omega):=by simp[p]
 simp only[B,A];exact u
theorem xS{ρ:Nat->LR}{sz vC p:Nat}{a b:D}{r:Bool}(w:oH el sz a)(A:oH vC p b)(z:a.es.length=b.es.length)(F:deq a b=false->r=false)(step:∀i x y,a.es[i]? = some x->b.es[i]? = some y->i<a.es.length->i+1<zX->wp E HS (iX k (ρ (i+1)) (deq x y)) (Ts k) (ρ i))(g:deq a b=true->wp E HS (To E HS Ts (dB r)) (Ts k) (ρ a.es.length)):qP E HS Ts k (ρ 0) (dB r):=by
 cases h:deq a b with
 |true=>have:=qRH (rest:=r) w A z step (g h);rw[h,ep]at this;exact this
 | false=>
  rw[F h];have c:=qDc a.es b.es [] [] rfl z;simp only[df,dg]at c;rw[qGl w A,c]at h;have st:∀i,i<a.es.length->wp E HS (iX k (ρ (i+1)) (deq (a.es.getD i .nil) (b.es.getD i .nil))) (Ts k) (ρ i):=by
   intro i u;have j:a.es[i]? = some a.es[i]:=ak u;have l:b.es[i]? = some (b.es[i]'(by omega)):=ak (by omega);have B:=step i _ _ j l u (by have:=qN6 w;omega);have I:a.es.getD i .nil=a.es[i]:=by simp[j]
   have H:b.es.getD i .nil=b.es[i]'(by omega):=by simp[l]
   rw[I,H];exact B
  have G:∀m i,i+m=a.es.length->((List.range' i m).all λi=>deq (a.es.getD i .nil) (b.es.getD i .nil))=false->qP E HS Ts k (ρ i) (dB false):=by
   intro m;induction m with
   |zero=>intro i _ h;simp at h
   |succ m ih=>
    intro i u h;refine qP.a9 ?_;obtain⟨q,j,l⟩:=pL _ _ (st i (by omega));refine l _ ?_;cases q with
    |ret d'=>exact j.1
    |jump k' ds=>obtain⟨rfl,rfl,C⟩:=j;rw[jz,eo,C,ep]at h;exact ih (i+1) (by omega) h
  exact G _ 0 (fc _) h
theorem wV{sz vC c:Nat}{a b:D}(j:oH el sz a)(g:oH vC c b)(h:a.es.length≠b.es.length):deq a b=false:=by rw[qGl j g,qHX h]
theorem qKH{m n:Nat}:((m:Int) != (n:Int)) = !decide (m=n):=by grind
theorem kT{m n:Nat}(h:((m:Int) != (n:Int))=false):m=n:=by rw[qKH]at h;simpa using h
theorem kU{m n:Nat}(h:((m:Int) != (n:Int))=true):m≠n:=by rw[qKH]at h;simpa using h
theorem wU{m n:Nat}(h:m<n):decide ((m:Int)<(n:Int))=true:=ic (by omega)
theorem xR{n:Nat}:decide ((n:Int)<(n:Int))=false:=fD (by omega)
theorem qB(c:cs[off]? = some e)(h:e.one=true):TOp.eval E (.mq false 1 off) [.agg cs]=some e:=by rw[qC7];simp only[nI,bc,D.cells,c,h,ai]
theorem wB(c:e.one=true):TOp.eval E (.mz false 1) [e]=some e:=by rw[sA];have h:Nat.beq 1 1=true:=rfl;simp only[cI,bc,c,h,cj,ai]
theorem kI{size:Nat}(h:Nat.ble (off+size) cs.length=true):TOp.eval E (.mq true size off) [.agg cs]=some (.agg ((cs.drop off).take size)):=by rw[qC7];simp only[nI,ai,D.cells,h]
theorem oB{a b:Tree}(h:wp E HS Q a ρ):wp E HS Q (if true=true then a else b) ρ:=h
theorem yJ{a b:Tree}(h:wp E HS Q b ρ):wp E HS Q (if false=true then a else b) ρ:=h
theorem vR{k:IntKind}{n:Int}:zE (.int k) (.leaf (.int k n)):=⟨n,rfl⟩
theorem qBx{b:Bool}:zE .bool (.leaf (.bool b)):=⟨b,rfl⟩
theorem bD{s:LJ}:zE .str (.leaf (.string s)):=⟨s,rfl⟩
theorem lK{fs:List Sh}(h:jG fs cs):zE (.st fs) (.agg cs):=⟨cs,rfl,h⟩
theorem v9:jG [] []:=rfl
theorem qN{s:Sh}{d:D}{ds:LR}(h:zE s d)(hs:jG ss ds):jG (s::ss) (d::ds):=⟨d,ds,rfl,h,hs⟩
theorem qBi{op:BinOp}{a:LJ}:zB P (eqGuard op t x y (.string a) (.string b))=some ():=by unfold eqGuard;cases op<;>simp[vF]
theorem qBY(a b:LJ):(a.toList==b.toList)=(a==b):=by
 rw[ByteArray.toList_eq,ByteArray.toList_eq];cases h:(a==b)with
 |true=>rw[qQg h];exact beq_self_eq_true _
 | false=>
  cases c:(a.data.toList==b.data.toList)with
  |false=>rfl
  |true=>
   have he:a.data.toList=b.data.toList:=eq_of_beq c;have:a=b:=by obtain⟨⟨a⟩⟩:=a;simp_all
   rw[this,qDo]at h;cases h
theorem fK{a:LJ}:TOp.eval E (.bin .neq t x y) [.leaf (.string a),.leaf (.string b)]=some (dB (!(a==b))):=by
 rw[bH];have h:∀s:LJ,zP (.string s)=true:=λ_=>rfl;have:pA E .neq t x y (.string a) (.string b)=some (.bool (!(a==b))):=by unfold pA;simp only[h,cj,ai,vS,qBi,bn,binOp,Op.stringOp,qBY,vF];rfl
 simp only[D.mg,this];rfl
theorem fL{a:LJ}:TOp.eval E (.bin .eql t x y) [.leaf (.string a),.leaf (.string b)]=some (dB (a==b)):=by
 rw[bH];have h:∀s:LJ,zP (.string s)=true:=λ_=>rfl;have:pA E .eql t x y (.string a) (.string b)=some (.bool (a==b)):=by unfold pA;simp only[h,cj,ai,vS,qBi,bn,binOp,Op.stringOp,qBY,vF];rfl
 simp only[D.mg,this];rfl
theorem qKb(c:BinOp)(j:c=.neq∨c=.eql)(q:mV E.prog 1 t=some [.bool])(g:pD E.prog t=false){a b:Bool}:TOp.eval E (.bin c t x y) [dB a,dB b]=some (dB (match c with|.neq=>!(decide (a=b))|_=>decide (a=b))):=by
 rw[bH];have heq:=qVi 1 t [.bool] q 10000 (by decide) [.bool a] [.bool b] (.cons .bool .nil) (.cons .bool .nil);simp only[g,qOX,bc,List.headD_cons,bP,qLw,er]at heq;have h:∀c,zB E.prog (eqGuard c t x y (.bool a) (.bool b))=some ():=by intro c;unfold eqGuard;cases c<;>simp[vF]
 have p:∀s:Bool,zP (.bool s)=true:=λ_=>rfl;rcases j with rfl|rfl
 ·have l:binOp .neq t (.bool a) (.bool b)=(Op.equal t (.bool a) (.bool b) >>= λr=>pure (.bool (!r))):=by unfold binOp;rfl
  have:pA E .neq t x y (.bool a) (.bool b)=some (.bool (!(decide (a=b)))):=by unfold pA;simp only[p,cj,ai,vS,h,bn,l,Op.equal,Op.maxDepth,heq,vF];rfl
  simp only[D.mg,this];rfl
 have l:binOp .eql t (.bool a) (.bool b)=(Op.equal t (.bool a) (.bool b) >>= λr=>pure (.bool r)):=by unfold binOp;rfl
 have:pA E .eql t x y (.bool a) (.bool b)=some (.bool (decide (a=b))):=by unfold pA;simp only[p,cj,ai,vS,h,bn,l,Op.equal,Op.maxDepth,heq,vF];rfl
 simp only[D.mg,this];rfl
end
theorem qH(a b:LQ):deq (.leaf a) (.leaf b)=qLw a b:=by simp only[deq]
theorem qJ(a b:LR):deq (.agg a) (.agg b)=deqs a b:=by simp only[deq]
theorem qG:deqs [] []=true:=by simp only[deqs]
theorem qD(a b:D)(az h:LR):deqs (a::az) (b::h)=(deq a b&&deqs az h):=by simp only[deqs]
theorem qK(k l:IntKind)(a b:Int):qLw (.int k a) (.int l b)=decide (a=b):=rfl
theorem qI(a b:Bool):qLw (.bool a) (.bool b)=decide (a=b):=rfl
theorem qL(a b:LJ):qLw (.string a) (.string b)=(a==b):=rfl
variable{ρ':LR}
section
variable{E:Env}{HS:LO->LR->La}{Q:Res1->Prop}
theorem qE{d d':D}(c:SV.ds (getD ρ) xs=[d'])(h:d'=d):wp E HS (To E HS Ts d) (.ret xs) ρ:=by simp only[wp,c,To,kC];exact h
theorem qY{ds:LR}{d:D}(c:SV.ds (getD ρ) xs=ds)(h:qP E HS Ts k ds d):wp E HS (To E HS Ts d) (.jump k xs) ρ:=by simp only[wp,c,To];exact h
theorem wQ{ds:LR}{p:Bool}(c:SV.ds (getD ρ) xs=[dB false])(h:p=false):wp E HS (iX k ds p) (.ret xs) ρ:=by simp only[wp,c,iX,kC];exact⟨trivial,h⟩
theorem xN{ds:LR}{p:Bool}(c:SV.ds (getD ρ) xs=ds)(h:p=true):wp E HS (iX k ds p) (.jump k xs) ρ:=by simp only[wp,c,iX];exact⟨trivial,trivial,h⟩
theorem qN7{sz size:Nat}{d:D}(h:oH el sz d)(he:d.es[i]? = some (.agg cs))(j:cs.length=sz)(g:off+size<=sz)(q:¬(off=0/\size=sz)):TOp.eval E (.elem sz true size off) [d,dI (i:Int)]=some (.agg ((cs.drop off).take size)):=by
 rw[dA];have p:rT d (dI (i:Int))=some (.agg cs):=he;have c:Nat.ble (off+size) sz=true:=bL g;have h5:Nat.ble (off+size) cs.length=true:=by rw[j];exact c
 have h3:Nat.beq sz sz=true:=bj _;have l:(Nat.beq off 0&&Nat.beq size sz)=false:=by
  cases h:(Nat.beq off 0&&Nat.beq size sz)with
  |false=>rfl
  |true=>simp_all
 simp only[p,qFt h he,h3,c,l,h5,ai,bc,cj,ep,er,nI,D.cells]
theorem qNd{ds:LR}{d:D}(h:o.eval E ds=some d)(g:SV.ds (getD ρ) xs=ds)(c:ρ++[d]=ρ')(j:wp E HS Q r ρ'):wp E HS Q (.bind o xs r) ρ:=
 xB h g (c▸j)
theorem qNc{ds az:LR}{d:D}(h:HS f az d)(g:SV.ds (getD ρ) xs=ds)(j:aB E tg ds=some (f,az))(p:uD fl d=true)(c:ρ++[d]=ρ')(l:wp E HS Q r ρ'):wp E HS Q (.call tg xs fl r) ρ:=
 qFa h g j p (c▸l)
theorem qX{a b:Bool}(h:a=b):dB a=dB b:=by rw[h]
end
theorem qU9:4<=10000:=by omega
class Snoc (ρ:LR) (d:D) (ρ':outParam (LR)):Prop where
 h:ρ++[d]=ρ'
instance (priority:=low) {ρ:LR} {d:D}:Snoc ρ d (ρ++[d]):=⟨rfl⟩
instance (d:D):Snoc [] d [d]:=⟨rfl⟩
instance {x:D} {ρ ρ':LR} {d:D} [s:Snoc ρ d ρ']:Snoc (x::ρ) d (x::ρ'):=⟨congrArg (x :: ·) s.h⟩
variable{E:Env}{HS:LO->LR->La}
theorem iC{a b:Tree}{t:Bool}(c:t=true->wp E HS Q a ρ)(g:t=false->wp E HS Q b ρ)(h:getD ρ i=dB t:=by rfl):wp E HS Q (.ite (.v i) a b) ρ:=qQN h c g
theorem bS{ds:LR}{d:D}[s:Snoc ρ d ρ'](h:o.eval E ds=some d)(g:wp E HS Q r ρ')(c:SV.ds (getD ρ) xs=ds:=by rfl):wp E HS Q (.bind o xs r) ρ:=qNd h c s.h g
theorem cS{ds as:LR}{d:D}[s:Snoc ρ d ρ'](h:HS f as d)(j:wp E HS Q r ρ')(c:SV.ds (getD ρ) xs=ds:=by rfl)(g:aB E tg ds=some (f,as):=by rfl)(l:uD fl d=true:=by rfl):wp E HS Q (.call tg xs fl r) ρ:=qNc h c g l s.h j
end Go.Am
