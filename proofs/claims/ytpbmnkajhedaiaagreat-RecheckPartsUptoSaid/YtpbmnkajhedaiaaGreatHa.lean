/- A table of functions, as the checker wants it told. Conditions: none. -/
import Derived.Test.YtpbmnkajhedaiaaGreatDa
import Derived.Test.YtpbmnkajhedaiaaGreatDf
import Derived.Test.YtpbmnkajhedaiaaGreatXa
import Derived.Test.YtpbmnkajhedaiaaGreatDh
set_option linter.all false
namespace Go.Proofs.YtpbmnkajhedaiaaGreat.Hc
open Go Go.Am Go.Proofs Go.Am.Tt
def n0:Sn:=(.sl 3 1 1048576 (.int .i64))
def n1:Sn:=(.st [(.int .i64),(.int .i64),(.int .i64),(.int .i64),(.int .i64),(.int .i64),.any])
def qRg:List (Nat×Sn):=[(3,(.int .i64))]
def qKE:List (TypeId×TypeId×IntKind×IntKind):=[]
def qJR:List (Bool×TypeId×Int):=[]
def qJD:List (Nat×(Nat×List Sn)):=[]
def qWC:List (Nat×(Option IntKind×Sn)):=[]
theorem cN:∀x∈qKE,qJs EE x:=eL
theorem b9:∀x∈qJR,qJo EE x:=eL
theorem bU:∀x∈qJD,qFP EE x:=eL
def TT:Tb:=qX7 qRg qKE qJR qJD qWC
theorem TT_ok:TbOk EE TT:=qBB cN b9 bU (by kernel_rfl)
def zBv:En:=⟨78,[],⟨[(.int .i64)],[.bool],[],[]⟩,[],[sC 1001]⟩
def zBw:En:=⟨44,[],⟨[(.int .i64),(.int .i64)],[(.int .i64)],[],[(.z,aA 2,1)]⟩,[],[sC 1001]⟩
def p0:List (Nat×Pat):=[(1,⟨[⟨.pure,false⟩,⟨.pure,true⟩,⟨.pure,true⟩],[(3,.c (.int .i64 0)),(6,.v 0),(7,.v 1),(8,.v 2)],[],[]⟩)]
def zBx:En:=⟨43,p0,⟨[n0],[(.int .i64)],[],[]⟩,[(1,⟨[n0,(.int .i64),(.int .i64)],[(aA 1,aA 0,0),(aA 2,aA 1,0),(.z,aA 3,0)],[sC 999,cC 3,sC 1001]⟩)],[sC 1001,sC 0,sC 0]⟩
def e129:En:=⟨129,[],⟨[n1,n1],[(.int .i64)],[],[]⟩,[],[sC 1001]⟩
def hand:aG:=[]
def items:List It:=[.fn zBv,.fn zBw,.fn zBx,.fn e129]
theorem okI:oJ EE Tryz.prog TT hand [] items=true:=by kernel_rfl
theorem tab:∀p∈gO hand items,xZ (Holds EE) p.1 p.2:=(bP he (bK qIf) TT_ok (λ_ h=>by cases h) (λ_ h=>by cases h) okI).1
end Go.Proofs.YtpbmnkajhedaiaaGreat.Hc
namespace Go.Proofs.YtpbmnkajhedaiaaGreat
open Go Go.Am Go.Proofs Go.Am.Tr Go.Am.Tt
def mO(n:Nt):D:=.agg [dI n.id,dI n.ti,dI n.pa,dI n.fr,dI n.to,dI n.rk,.leaf (.string n.tx)]
def qMx(t:Tr):D:=.agg [.leaf (.string t.nm),dI t.kd,dI t.rl,dI t.pa]
attribute [local irreducible] Go.Am.wp Go.Am.TOp.eval
theorem zAp(a b:Nt):∃n:Int,Holds EE 129 [mO a,mO b] (dI n):=by obtain⟨e,x,_,c⟩:=(k9 Hc.tab (f:=129) (S:=Hc.e129.S) (by kernel_rfl)) [mO a,mO b] (by have h:∀a:Nt,qM Hc.n1 (mO a):=λa=>⟨_,rfl,_,_,rfl,⟨_,rfl⟩,_,_,rfl,⟨_,rfl⟩,_,_,rfl,⟨_,rfl⟩,_,_,rfl,⟨_,rfl⟩,_,_,rfl,⟨_,rfl⟩,_,_,rfl,⟨_,rfl⟩,_,_,rfl,trivial,rfl⟩;simp only[Hc.e129,qU];exact⟨_,_,rfl,h a,_,_,rfl,h b,rfl⟩) (λq y=>by cases y);simp only[Hc.e129,qU]at x;obtain⟨_,_,rfl,⟨n,rfl⟩,rfl⟩:=x;exact⟨n,c⟩
noncomputable def qRF(a b:Nt):Int:=Classical.epsilon λn=>Holds EE 129 [mO a,mO b] (dI n)
theorem zC6{a b:Nt}:Holds EE 129 [mO a,mO b] (dI (qRF a b)):=Classical.epsilon_spec (p:=λn=>Holds EE 129 [mO a,mO b] (dI n)) (zAp a b)
end Go.Proofs.YtpbmnkajhedaiaaGreat
