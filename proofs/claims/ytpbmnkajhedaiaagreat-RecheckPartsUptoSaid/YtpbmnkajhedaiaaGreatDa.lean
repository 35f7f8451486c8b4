/- The seat's program for symbolic runs. Conditions: none. -/
import Derived.Test.YtpbmnkajhedaiaaGreatUn
import Derived.Test.YtpbmnkajhedaiaaGreatChecked
import Derived.Test.YtpbmnkajhedaiaaGreatTu
import Derived.KernelRfl
set_option linter.all false
namespace Go.Proofs.YtpbmnkajhedaiaaGreat
open Go Go.Am Go.Proofs
noncomputable def EE:Env:=pP Tryz.prog
def vJ(fn:Func):Code:=fn.body.getD .skip
theorem qPl:cM Tryz.prog=true:=by kernel_rfl
theorem he:EOk EE:=qIZ qPl
theorem qIf:sK Tryz.prog=true:=by kernel_rfl
theorem jR{y:Nat->Tree}:∀x∈([]:List (Nat×Tree)),y x.1=x.2:=λ_ h=>by cases h
theorem xE{y:Nat->Tree}{k:Nat}{t:Tree}{r:List (Nat×Tree)}(h:y k=t)(b:∀x∈r,y x.1=x.2):∀x∈(k,t)::r,y x.1=x.2:=by grind
abbrev k'(n:Int):SV:=.c (.int .i64 n)
abbrev K'(n:Int):Operand:=.const (.int .i64 n)
abbrev zM(o i:Nat)(r:Tree):Tree:=.bind (.fld false 1 o) [.v i] r
abbrev xL(i:Nat)(r:Tree):Tree:=.bind (.len false) [.v i] r
abbrev wC(a b:Nat)(r:Tree):Tree:=.bind .inr [.v a,.v b] r
theorem jN{t0:Type}{e:Type}{c b:t0}{y x:e}(h:(c,y)=(b,x)):y=x:=(pI h).2
theorem xG{t0:Type}{o:Type}{t2:Type}{t3:Type}{t4:Type}{l g:t0}{k e:o}{j c:t2}{i b:t3}{y x:t4}(h:(l,k,j,i,y)=(g,e,c,b,x)):y=x:=(pI (pI (pI (pI h).2).2).2).2
theorem vX{t0:Type}{t1:Type}{t2:Type}{t3:Type}{t4:Type}{t5:Type}{t6:Type}{t7:Type}{Z:Type}{t9:Type}{B:Type}{A:Type}{t12:Type}{z:Type}{w:Type}{u:Type}{t:Type}{X M:t0}{W L:t1}{V K:t2}{U J:t3}{S I:t4}{R H:t5}{Q G:t6}{P F:t7}{O E:Z}{N C:t9}{r j:B}{q i:A}{p g:t12}{o e:z}{l c:w}{k b:u}{y x:t}(h:(X,W,V,U,S,R,Q,P,O,N,r,q,p,o,l,k,y)=(M,L,K,J,I,H,G,F,E,C,j,i,g,e,c,b,x)):y=x:=(pI (pI (pI (pI (pI (pI (pI (pI (pI (pI (pI (pI (pI (pI (pI (pI h).2).2).2).2).2).2).2).2).2).2).2).2).2).2).2).2
abbrev vK(s o i j:Nat)(r:Tree):Tree:=.bind (.elem s false 1 o) [.v i,.v j] r
abbrev j8(op:BinOp)(a b x y:Nat)(r:Tree):Tree:=.bind (.bin op 3 (.tmp a) (.tmp b)) [.v x,.v y] r
abbrev vM(op:BinOp)(a:Nat)(k:Int)(x:Nat)(r:Tree):Tree:=.bind (.bin op 3 (.tmp a) (K' k)) [.v x,k' k] r
abbrev jQ(n i:Nat)(r:Tree):Tree:=.bind (.chk true n) [.v i] r
abbrev qKN(i:Nat)(r:Tree):Tree:=.bind (.chk false 1) [.v i] r
abbrev qAi(n i:Nat)(r:Tree):Tree:=.bind (.ext n) [.v i] r
abbrev xS(f:Nat)(l:List SV)(k:Nat)(r:Tree):Tree:=.call (.fn f) l k r
abbrev zC(i:Nat)(a b:Tree):Tree:=.ite (.v i) a b
abbrev rP(b:Bool):Tree:=.ret [.c (.bool b)]
abbrev wN(n:Int):Tree:=.ret [k' n]
def JJ(fn:Func)(n:Nat)(P:Nat->Pat):Nat->St->Tree:=λk S=>jI (Nat.max fn.ntmps n) (P k) k S
noncomputable def kZ(fn:Func)(n:Nat)(P:Nat->Pat):Tree:=qGc EE (JJ fn n P) fn n
noncomputable def hd(fn:Func)(n:Nat)(P:Nat->Pat):List (Nat×Tree):=xB EE (λk=>(P k).st (Nat.max fn.ntmps n)) (JJ fn n P) 1 (vJ fn) (mK EE fn.results.toList)
def nr(fn : Func): Bool := fn.name == "runtime.NumGoroutine" || !vB (vJ fn)
theorem hu{f:FuncId}{fn:Func}(p:Tryz.prog.funcs[f]? = some fn){b:Nat->Tree}{P:Nat->Pat}{n:Nat}{l:List (Nat×Tree)}(c:fn.body=some (vJ fn))(o:kZ fn n P=b 0)(j:hd fn n P=l)(i:nr fn=false)(g:∀x∈l,b x.1=x.2){ds:List D}{d:D}(e:ds.length=n)(h:qE EE (Holds EE) b 0 ds d)(y:f<cQ:=by decide):Holds EE f ds d:=
 qGO he (yE p c i) c e o (by rw[show xB EE (λk=>(P k).st (Nat.max fn.ntmps n)) (λk S=>jI (Nat.max fn.ntmps n) (P k) k S) 1 (vJ fn) (mK EE fn.results.toList)=l from j];exact g) h y
theorem hv{f:FuncId}{fn:Func}(k:Tryz.prog.funcs[f]? = some fn){c:Nat->Tree}{P:Nat->Pat}{n:Nat}{l:List (Nat×Tree)}{ρ:Type}{r e:ρ}(j:fn.body=some (vJ fn))(b:(kZ fn n P,hd fn n P,nr fn,r)=(c 0,l,false,e))(i:∀x∈l,c x.1=x.2){ds:List D}{d:D}(g:ds.length=n)(h:qE EE (Holds EE) c 0 ds d)(y:f<cQ:=by decide):Holds EE f ds d:=
 hu k j (pI b).1 (pI (pI b).2).1 (pI (pI (pI b).2).2).1 i g h y
open Go.Am.Tt
abbrev BG:Nat:=300000000
def sC(n:Int):Ms:=(.z,.z,n)
def cC(i:Nat):Ms:=(.z,.aT [i],300000001)
def aA(i:Nat):Pt:=.aT [i]
def n0:Sn:=(.sl 119 8 BG (.st [(.int .i64),(.sl 3 1 1048576 (.int .i64)),(.int .i64),(.sl 31 1 1048576 (.sl 3 1 1048576 (.int .i64))),(.int .i64),(.sl 114 2 1048576 (.st [(.str BG),(.str BG)])),(.sl 179 2 1048576 (.st [(.int .i64),(.int .i64)])),(.sl 50 2 1048576 (.st [(.int .i64),(.int .i64)]))]))
def n1:Sn:=(.sl 31 1 BG (.sl 3 1 1048576 (.int .i64)))
def n2:Sn:=(.sl 3 1 BG (.int .i64))
def n3:Sn:=(.st [(.sl 108 2 BG (.st [(.str BG),(.int .i64)]))])
def n4:Sn:=(.st [(.str BG),(.sl 110 2 BG (.st [(.str BG),(.sl 3 1 BG (.int .i64))])),(.sl 172 1 BG (.sl 9 1 BG (.str BG)))])
def n5:Sn:=(.st [(.str BG),(.sl 3 1 BG (.int .i64))])
def n6:Sn:=(.sl 9 1 BG (.str BG))
def n7:Sn:=(.st [(.sl 3 1 BG (.int .i64)),(.sl 3 1 BG (.int .i64)),(.sl 295 2 BG (.st [(.int .i64),(.int .i64)])),(.sl 295 2 BG (.st [(.int .i64),(.int .i64)])),.bool,.bool])
def n8:Sn:=(.st [(.sl 108 2 BG (.st [(.str BG),(.int .i64)])),(.str BG),(.sl 110 2 BG (.st [(.str BG),(.sl 3 1 1048576 (.int .i64))])),(.sl 172 1 BG (.sl 9 1 1048576 (.str BG))),(.sl 89 6 BG (.st [(.sl 3 1 1048576 (.int .i64)),(.sl 3 1 1048576 (.int .i64)),(.sl 295 2 1048576 (.st [(.int .i64),(.int .i64)])),(.sl 295 2 1048576 (.st [(.int .i64),(.int .i64)])),.bool,.bool])),(.int .i64),(.sl 112 3 BG (.st [(.int .i64),(.int .i64),(.int .i64)])),(.sl 3 1 BG (.int .i64)),(.sl 119 8 BG (.st [(.int .i64),(.sl 3 1 1048576 (.int .i64)),(.int .i64),(.sl 31 1 1048576 (.sl 3 1 1048576 (.int .i64))),(.int .i64),(.sl 114 2 1048576 (.st [(.str BG),(.str BG)])),(.sl 179 2 1048576 (.st [(.int .i64),(.int .i64)])),(.sl 50 2 1048576 (.st [(.int .i64),(.int .i64)]))]))])
def n9:Sn:=(.st [(.int .i64),(.sl 112 3 BG (.st [(.int .i64),(.int .i64),(.int .i64)])),(.sl 3 1 BG (.int .i64))])
def n10:Sn:=(.st [(.int .i64),(.int .i64),(.int .i64)])
def gG:Sn:=(.st [(.int .i64),(.sl 3 1 BG (.int .i64)),(.int .i64),(.sl 31 1 BG (.sl 3 1 1048576 (.int .i64))),(.int .i64),(.sl 114 2 BG (.st [(.str BG),(.str BG)])),(.sl 179 2 BG (.st [(.int .i64),(.int .i64)])),(.sl 50 2 BG (.st [(.int .i64),(.int .i64)]))])
def m9:Sn:=(.sl 114 2 BG (.st [(.str BG),(.str BG)]))
def n13:Sn:=(.st [(.str BG),(.str BG)])
def xD:Sn:=(.st [(.int .i64),(.int .i64)])
def qJZ:Sn:=(.sl 50 2 BG (.st [(.int .i64),(.int .i64)]))
def qRU:Sn:=(.sl 119 8 BG (.st [(.int .i64),(.sl 3 1 BG (.int .i64)),(.int .i64),(.sl 31 1 BG (.sl 3 1 BG (.int .i64))),(.int .i64),(.sl 114 2 BG (.st [(.str BG),(.str BG)])),(.sl 179 2 BG (.st [(.int .i64),(.int .i64)])),(.sl 50 2 BG (.st [(.int .i64),(.int .i64)]))]))
def qUU:Sn:=(.sl 102 4 BG (.st [(.str BG),(.int .i64),(.int .i64),(.int .i64)]))
def qUT:Sn:=(.st [(.str BG),(.int .i64),(.int .i64),(.int .i64)])
def k8:Sn:=(.st [(.int .i64),(.str BG),(.int .i64),(.int .i64),(.sl 3 1 BG (.int .i64)),(.sl 102 4 BG (.st [(.str BG),(.int .i64),(.int .i64),(.int .i64)])),(.sl 106 7 BG (.st [(.int .i64),(.int .i64),(.int .i64),(.int .i64),(.int .i64),(.int .i64),(.str BG)]))])
def n20:Sn:=(.st [(.int .i64),(.int .i64),(.int .i64),(.int .i64),(.int .i64),(.int .i64),(.str BG)])
def qBd:Sn:=(.sl 106 7 BG (.st [(.int .i64),(.int .i64),(.int .i64),(.int .i64),(.int .i64),(.int .i64),(.str BG)]))
def qUS:Sn:=(.sl 104 2 BG (.st [(.int .i64),(.int .i64)]))
def qRg:List (Nat×Sn):=[(5,(.int .u8)),(3,(.int .i64)),(106,n20),(104,xD)]
def qKE:List (TypeId×TypeId×IntKind×IntKind):=[(3,5,.i64,.u8)]
def qJR:List (Bool×TypeId×Int):=[(false,3,64),(true,3,64),(false,3,4096),(false,3,262144)]
def qJD:List (Nat×(Nat×List Sn)):=[(112,(4,[(.int .i64),(.int .i64),(.int .i64)])),(179,(4,[(.int .i64),(.int .i64)])),(104,(4,[(.int .i64),(.int .i64)]))]
theorem cN:∀x∈qKE,qJs EE x:=oM (λm=>⟨IntKind.u8.wrap m,by kernel_rfl⟩)<|eL
theorem b9:∀x∈qJR,qJo EE x:=oM (λm _ _=>⟨IntKind.i64.wrap (m.tdiv 64),by kernel_rfl⟩)<|oM (λm _ _=>⟨m.tmod 64,by kernel_rfl⟩)<|oM (λm _ _=>⟨IntKind.i64.wrap (m.tdiv 4096),by kernel_rfl⟩)<|oM (λm _ _=>⟨IntKind.i64.wrap (m.tdiv 262144),by kernel_rfl⟩)<|eL
theorem bU:∀x∈qJD,qFP EE x:=oM (sA (by kernel_rfl))<|oM (sA (by kernel_rfl))<|oM (sA (by kernel_rfl))<|eL
def TT:Tb:=qZp qRg qKE qJR qJD
theorem TT_ok:TbOk EE TT:=qZo cN b9 bU
/- langdoc/langdocref29.small -/
def zFq:En:=⟨30,[(1,⟨[⟨.pure,false⟩,⟨.pure,true⟩],[(0,.v 0),(3,.v 1)],[],[]⟩),(2,⟨[⟨.pure,false⟩,⟨.pure,true⟩,⟨.pure,true⟩,⟨.pure,true⟩,⟨.pure,true⟩],[(0,.v 0),(3,.v 1),(4,.v 2),(22,.v 0),(23,.v 1),(26,.v 3),(27,.v 4),(28,.c (.bool false))],[],[]⟩)],⟨[n0],[.bool],[],[]⟩,[(1,⟨[n0,(.int .i64)],[(aA 1,aA 0,0),(aA 0,aA 1,0),(aA 1,.z,299999998),(.z,aA 2,0)],[sC 999,cC 2,sC 1001,sC 0,sC 0]⟩),(2,⟨[n0,(.int .i64),(.int .i64),n1,(.int .i64)],[(aA 1,aA 0,0),(aA 0,aA 1,0),(aA 1,.z,299999998),(aA 2,aA 0,-1),(.z,aA 2,0),(.z,aA 3,0)],[sC 999,cC 2,sC 998,cC 3,sC 1001]⟩)],[sC 1001,sC 0,sC 0,sC 0,sC 0]⟩
/- langdoc/langdocref02.Scalar -/
def zAL:En:=⟨210,[],⟨[(.int .i64)],[.bool],[],[]⟩,[],[sC 1001]⟩
/- langdoc/langdocref02.encoded -/
def zAK:En:=⟨211,[],⟨[(.int .i64)],[(.str BG)],[],[]⟩,[],[sC 1001]⟩
/- langdoc/langdocref02.Points -/
def zDK:En:=⟨147,[(1,⟨[⟨.pure,false⟩,⟨.fresh,true⟩,⟨.pure,true⟩],[(0,.v 0),(4,.v 1),(5,.v 2)],[],[]⟩)],⟨[(.str BG)],[n2,.bool],[],[]⟩,[(1,⟨[(.str BG),n2,(.int .i64)],[(aA 2,aA 3,0)],[sC 999,cC 3,sC 1001]⟩)],[sC 1001,sC 0,sC 0]⟩
/- langdoc/langdocref10.Label -/
def zGO:En:=⟨91,[(1,⟨[⟨.pure,false⟩,⟨.pure,true⟩],[(0,.v 0),(3,.v 1)],[],[]⟩)],⟨[(.str BG)],[.bool],[],[]⟩,[(1,⟨[(.str BG),(.int .i64)],[(.z,aA 2,0)],[sC 999,cC 2,sC 1001]⟩)],[sC 1001,sC 0,sC 0]⟩
/- langdoc/langdocref16.Check -/
def zFi:En:=⟨61,[(1,⟨[⟨.pure,true⟩,⟨.pure,true⟩,⟨.pure,false⟩],[(1,.loc 0 0),(11,.v 0),(12,.v 1)],[some (.whole (.v 2) 1)],[]⟩),(2,⟨[⟨.pure,true⟩,⟨.pure,true⟩,⟨.pure,true⟩,⟨.pure,false⟩],[(1,.loc 0 0),(3,.v 0),(4,.v 1),(11,.v 2),(12,.v 0)],[some (.whole (.v 3) 1)],[]⟩)],⟨[n3],[(.int .i64)],[],[]⟩,[(1,⟨[(.int .i64),(.int .i64),n3],[(.aT [3,0],aA 1,0),(aA 1,.aT [0,0],0),(aA 1,.z,64),(.z,aA 2,0),(.aT [0,0],.aT [3,0],0)],[sC 999,cC 2,sC 1001,sC 0,sC 0]⟩),(2,⟨[(.int .i64),(.int .i64),(.int .i64),n3],[(aA 2,aA 1,0),(.z,aA 2,0),(aA 1,aA 3,-1),(aA 3,.aT [0,0],0),(.aT [0,0],aA 3,0),(aA 3,.z,64),(.aT [0,0],.aT [4,0],0),(.aT [4,0],.aT [0,0],0)],[sC 999,cC 1,sC 998,cC 2,sC 1001]⟩)],[sC 1001,sC 0,sC 0,sC 0,sC 0]⟩
/- langdoc/langdocref10.Name -/
def zDl:En:=⟨92,[(1,⟨[⟨.pure,false⟩,⟨.pure,true⟩],[(0,.v 0),(3,.v 1)],[],[]⟩)],⟨[(.str BG)],[.bool],[],[]⟩,[(1,⟨[(.str BG),(.int .i64)],[(.z,aA 2,0)],[sC 999,cC 2,sC 1001]⟩)],[sC 1001,sC 0,sC 0]⟩
/- langdoc/langdocref17.label -/
def zE7:En:=⟨94,[(1,⟨[⟨.pure,false⟩,⟨.pure,true⟩],[(0,.v 0),(3,.v 1)],[],[]⟩)],⟨[(.str BG)],[.bool],[],[]⟩,[(1,⟨[(.str BG),(.int .i64)],[(.z,aA 2,0)],[sC 999,cC 2,sC 1001]⟩)],[sC 1001,sC 0,sC 0]⟩
/- langdoc/langdocref17.unit -/
def zE8:En:=⟨93,[(1,⟨[⟨.pure,false⟩,⟨.pure,true⟩,⟨.pure,false⟩,⟨.pure,false⟩,⟨.pure,false⟩],[(2,.v 0),(3,.loc 0 0),(4,.loc 1 0),(7,.loc 2 0),(8,.v 1)],[some (.whole (.v 2) 1),some (.whole (.v 3) 3),some (.whole (.v 4) 2)],[]⟩),(2,⟨[⟨.pure,true⟩,⟨.pure,false⟩,⟨.pure,false⟩],[(3,.loc 0 0),(7,.loc 2 0),(9,.v 0)],[some (.whole (.v 1) 1),none,some (.whole (.v 2) 2)],[]⟩)],⟨[n3,n4,(.int .i64)],[(.int .i64)],[(.z,aA 2,0),(aA 2,.aT [1,1],-1)],[]⟩,[(1,⟨[(.int .i64),(.int .i64),n3,n4,n5],[(aA 3,.aT [6,1],-1),(aA 3,aA 2,0),(.z,aA 4,0)],[sC 999,cC 4,sC 1001]⟩),(2,⟨[(.int .i64),n3,n5],[(.z,aA 3,0)],[sC 998,cC 3,sC 1001]⟩)],[sC 1001,sC 0,sC 0]⟩
/- langdoc/langdocref17.has -/
def zE6:En:=⟨95,[(1,⟨[⟨.pure,false⟩,⟨.pure,false⟩,⟨.pure,true⟩],[(0,.v 0),(1,.v 1),(5,.v 2)],[],[]⟩)],⟨[n6,(.str BG)],[.bool],[],[]⟩,[(1,⟨[n6,(.str BG),(.int .i64)],[(aA 2,aA 0,0),(.z,aA 4,0)],[sC 999,cC 4,sC 1001]⟩)],[sC 1001,sC 0,sC 0]⟩
/- langdoc/langdocref16.Is -/
def zDJ:En:=⟨148,[],⟨[n3,(.int .i64)],[.bool],[],[]⟩,[],[sC 1001]⟩
/- langdoc/langdocref01.Sorted -/
def zDI:En:=⟨149,[(1,⟨[⟨.pure,false⟩,⟨.pure,false⟩,⟨.pure,true⟩,⟨.pure,true⟩],[(0,.v 0),(3,.v 1),(6,.v 2),(7,.v 3)],[],[]⟩)],⟨[n2],[n2],[],[]⟩,[(1,⟨[n2,n2,(.int .i64),(.int .i64)],[(aA 3,aA 1,0),(aA 2,aA 4,0)],[sC 999,cC 4,sC 1001]⟩)],[sC 1001,sC 0,sC 0]⟩
/- langdoc/langdocref22.Check -/
def zE5:En:=⟨96,[(1,⟨[⟨.pure,true⟩,⟨.pure,true⟩,⟨.pure,false⟩,⟨.pure,false⟩],[(2,.loc 0 0),(3,.loc 1 0),(21,.v 0),(22,.v 1)],[some (.whole (.v 2) 1),some (.whole (.v 3) 6)],[]⟩)],⟨[n3,n7],[(.int .i64)],[],[]⟩,[(1,⟨[(.int .i64),(.int .i64),n3,n7],[(aA 2,.aT [1,0],0),(aA 2,.aT [1,1],0),(.z,aA 3,0),(.aT [1,0],.aT [5,0],0),(.aT [1,1],.aT [5,1],0)],[sC 999,cC 3,sC 1001]⟩)],[sC 1001,sC 0,sC 0]⟩
/- langdoc/langdocref29.rules -/
def zGU:En:=⟨63,[(1,⟨[⟨.pure,true⟩,⟨.pure,false⟩],[(1,.loc 0 0),(3,.v 0)],[some (.whole (.v 1) 9)],[]⟩)],⟨[n8],[(.int .i64)],[],[]⟩,[(1,⟨[(.int .i64),n8],[(.z,aA 1,0)],[sC 999,cC 1,sC 1001]⟩)],[sC 1001,sC 0,sC 0]⟩
/- langdoc/langdocref23.state -/
def zGN:En:=⟨97,[],⟨[n9,(.int .i64)],[.bool],[],[]⟩,[],[sC 1001]⟩
/- langdoc/langdocref23.Check -/
def zGT:En:=⟨64,[(1,⟨[⟨.pure,true⟩,⟨.pure,false⟩],[(1,.loc 0 0),(3,.v 0)],[some (.whole (.v 1) 3)],[]⟩),(2,⟨[⟨.pure,true⟩,⟨.pure,true⟩,⟨.pure,false⟩,⟨.pure,true⟩,⟨.pure,true⟩,⟨.pure,true⟩,⟨.pure,false⟩],[(1,.loc 0 0),(3,.v 0),(4,.loc 1 0),(5,.v 1),(38,.v 2),(39,.loc 1 2),(40,.v 3),(41,.v 4),(42,.c (.bool false)),(48,.loc 1 1),(49,.v 5),(50,.c (.bool false))],[some (.whole (.v 2) 3),some (.whole (.v 6) 3)],[]⟩),(3,⟨[⟨.pure,true⟩,⟨.pure,false⟩],[(1,.loc 0 0),(6,.v 0)],[some (.whole (.v 1) 3)],[]⟩),(4,⟨[⟨.pure,true⟩,⟨.pure,false⟩],[(1,.loc 0 0),(7,.v 0)],[some (.whole (.v 1) 3)],[]⟩)],⟨[n9],[(.int .i64)],[],[]⟩,[(1,⟨[(.int .i64),n9],[(.z,aA 1,0),(.aT [0,0],.aT [2,0],0),(.aT [2,0],.aT [0,0],0),(.aT [0,1],.aT [2,1],0),(.aT [2,1],.aT [0,1],0),(.aT [0,2],.aT [2,2],0),(.aT [2,2],.aT [0,2],0)],[sC 999,cC 1,sC 1001,sC 0,sC 0]⟩),(3,⟨[(.int .i64),n9],[(.z,aA 1,-1)],[sC 997,cC 1,sC 1001,sC 0,sC 0]⟩),(4,⟨[(.int .i64),n9],[(.z,aA 1,0)],[sC 996,cC 1,sC 1001,sC 0,sC 0]⟩),(2,⟨[(.int .i64),(.int .i64),n9,(.int .i64),.bool,(.int .i64),n10],[(aA 1,.aT [0,1],-1),(.z,aA 1,0),(.z,aA 2,0),(.aT [0,0],.aT [3,0],0),(.aT [3,0],.aT [0,0],0),(.aT [0,1],.aT [3,1],0),(.aT [3,1],.aT [0,1],0),(.aT [0,2],.aT [3,2],0),(.aT [3,2],.aT [0,2],0)],[sC 999,cC 1,sC 998,cC 2,sC 1001]⟩)],[sC 1001,sC 0,sC 0,sC 0,sC 0]⟩
/- langdoc/langdocref10.Identifier -/
def zBy:En:=⟨36,[],⟨[(.int .i64)],[.bool],[],[]⟩,[],[sC 1001]⟩
/- langdoc/langdocref16.Word -/
def zDL:En:=⟨142,[(1,⟨[⟨.pure,false⟩,⟨.pure,true⟩,⟨.pure,true⟩,⟨.pure,false⟩],[(1,.v 0),(2,.loc 0 0),(13,.v 1),(14,.v 2)],[some (.whole (.v 3) 1)],[]⟩)],⟨[n3,n2],[(.int .i64)],[],[]⟩,[(1,⟨[n2,(.int .i64),(.int .i64),n3],[(aA 3,aA 2,0),(aA 3,aA 1,0),(.z,aA 4,0)],[sC 999,cC 4,sC 1001]⟩)],[sC 1001,sC 0,sC 0]⟩
/- langdoc/langdocref01.Same -/
def zGP:En:=⟨88,[(1,⟨[⟨.pure,false⟩,⟨.pure,false⟩,⟨.pure,true⟩,⟨.pure,true⟩],[(0,.v 0),(1,.v 1),(12,.v 2),(13,.v 3)],[],[]⟩)],⟨[n2,n2],[.bool],[],[]⟩,[(1,⟨[n2,n2,(.int .i64),(.int .i64)],[(aA 4,aA 2,0),(aA 4,aA 3,0),(.z,aA 5,0)],[sC 999,cC 5,sC 1001]⟩)],[sC 1001,sC 0,sC 0]⟩
/- langdoc/langdocref24.words -/
def zDH:En:=⟨150,[(1,⟨[⟨.pure,true⟩,⟨.pure,false⟩,⟨.pure,false⟩],[(2,.loc 0 0),(3,.loc 1 0),(6,.v 0)],[some (.whole (.v 1) 1),some (.whole (.v 2) 8)],[]⟩),(2,⟨[⟨.pure,true⟩,⟨.pure,true⟩,⟨.pure,false⟩,⟨.pure,false⟩],[(2,.loc 0 0),(3,.loc 1 0),(6,.v 0),(8,.v 1)],[some (.whole (.v 2) 1),some (.whole (.v 3) 8)],[]⟩)],⟨[n3,gG],[(.int .i64)],[],[]⟩,[(1,⟨[(.int .i64),n3,gG],[(.z,aA 2,0),(.aT [0,0],.aT [3,0],0),(.aT [3,0],.aT [0,0],0),(.aT [1,0],.aT [4,0],0),(.aT [4,0],.aT [1,0],0),(.aT [1,1],.aT [4,1],0),(.aT [4,1],.aT [1,1],0),(.aT [1,2],.aT [4,2],0),(.aT [4,2],.aT [1,2],0),(.aT [1,3],.aT [4,3],0),(.aT [4,3],.aT [1,3],0),(.aT [1,4],.aT [4,4],0),(.aT [4,4],.aT [1,4],0),(.aT [1,5],.aT [4,5],0),(.aT [4,5],.aT [1,5],0),(.aT [1,6],.aT [4,6],0),(.aT [4,6],.aT [1,6],0),(.aT [1,7],.aT [4,7],0),(.aT [4,7],.aT [1,7],0)],[sC 999,cC 2,sC 1001,sC 0,sC 0]⟩),(2,⟨[(.int .i64),(.int .i64),n3,gG],[(aA 2,.aT [1,3],-1),(.z,aA 2,0),(.z,aA 3,0),(.aT [0,0],.aT [4,0],0),(.aT [4,0],.aT [0,0],0),(.aT [1,0],.aT [5,0],0),(.aT [5,0],.aT [1,0],0),(.aT [1,1],.aT [5,1],0),(.aT [5,1],.aT [1,1],0),(.aT [1,2],.aT [5,2],0),(.aT [5,2],.aT [1,2],0),(.aT [1,3],.aT [5,3],0),(.aT [5,3],.aT [1,3],0),(.aT [1,4],.aT [5,4],0),(.aT [5,4],.aT [1,4],0),(.aT [1,5],.aT [5,5],0),(.aT [5,5],.aT [1,5],0),(.aT [1,6],.aT [5,6],0),(.aT [5,6],.aT [1,6],0),(.aT [1,7],.aT [5,7],0),(.aT [5,7],.aT [1,7],0)],[sC 999,cC 2,sC 998,cC 3,sC 1001]⟩)],[sC 1001,sC 0,sC 0,sC 0,sC 0]⟩
/- langdoc/langdocref24.Gloss -/
def zDt:En:=⟨212,[(1,⟨[⟨.pure,false⟩,⟨.pure,true⟩],[(0,.v 0),(3,.v 1)],[],[]⟩)],⟨[(.str BG)],[.bool],[],[]⟩,[(1,⟨[(.str BG),(.int .i64)],[(.z,aA 2,0)],[sC 999,cC 2,sC 1001]⟩)],[sC 1001,sC 0,sC 0]⟩
/- langdoc/langdocref12.Text -/
def zDT:En:=⟨110,[(1,⟨[⟨.pure,false⟩,⟨.pure,true⟩],[(3,.v 0),(5,.v 1)],[],[]⟩)],⟨[(.str BG)],[(.int .i64)],[],[]⟩,[(1,⟨[n2,(.int .i64)],[(.z,aA 2,0)],[sC 999,cC 2,sC 1001]⟩)],[sC 1001,sC 0,sC 0]⟩
/- langdoc/langdocref24.has -/
def zDs:En:=⟨213,[(1,⟨[⟨.pure,false⟩,⟨.pure,false⟩,⟨.pure,true⟩],[(0,.v 0),(1,.v 1),(5,.v 2)],[],[]⟩)],⟨[m9,(.str BG)],[.bool],[],[]⟩,[(1,⟨[m9,(.str BG),(.int .i64)],[(aA 2,aA 0,0),(.z,aA 4,0)],[sC 999,cC 4,sC 1001]⟩)],[sC 1001,sC 0,sC 0]⟩
/- langdoc/langdocref24.sense -/
def zDy:En:=⟨183,[],⟨[m9,n13],[(.int .i64)],[],[]⟩,[],[sC 1001]⟩
/- langdoc/langdocref24.senses -/
def zDG:En:=⟨151,[(1,⟨[⟨.pure,true⟩,⟨.pure,false⟩],[(1,.loc 0 0),(3,.v 0)],[some (.whole (.v 1) 8)],[]⟩)],⟨[gG],[(.int .i64)],[],[]⟩,[(1,⟨[(.int .i64),gG],[(.z,aA 1,0)],[sC 999,cC 1,sC 1001]⟩)],[sC 1001,sC 0,sC 0]⟩
/- langdoc/langdocref24.links -/
def zDF:En:=⟨152,[(1,⟨[⟨.pure,true⟩,⟨.pure,false⟩],[(1,.loc 0 0),(3,.v 0)],[some (.whole (.v 1) 8)],[]⟩)],⟨[gG],[(.int .i64)],[],[]⟩,[(1,⟨[(.int .i64),gG],[(.z,aA 1,0)],[sC 999,cC 1,sC 1001]⟩)],[sC 1001,sC 0,sC 0]⟩
/- langdoc/langdocref24.Ref -/
def zDx:En:=⟨184,[],⟨[xD],[.bool],[],[]⟩,[],[sC 1001]⟩
/- langdoc/langdocref24.Precedes -/
def zDw:En:=⟨185,[],⟨[xD,xD],[.bool],[],[]⟩,[],[sC 1001]⟩
/- langdoc/langdocref24.Refs -/
def zDE:En:=⟨153,[(1,⟨[⟨.pure,false⟩,⟨.pure,true⟩],[(0,.v 0),(5,.v 1)],[],[]⟩)],⟨[qJZ,(.int .i64)],[(.int .i64)],[],[]⟩,[(1,⟨[qJZ,(.int .i64)],[(.z,aA 3,0)],[sC 999,cC 3,sC 1001]⟩)],[sC 1001,sC 0,sC 0]⟩
/- langdoc/langdocref24.Check -/
def zGM:En:=⟨98,[],⟨[n3,gG],[(.int .i64)],[],[]⟩,[],[sC 1001]⟩
/- langdoc/langdocref25.Get -/
def zDD:En:=⟨154,[(1,⟨[⟨.pure,false⟩,⟨.pure,false⟩,⟨.pure,true⟩,⟨.pure,true⟩],[(0,.v 0),(1,.v 1),(4,.loc 0 0),(8,.v 2),(9,.v 3)],[some (.cells [.c (.int .i64 0),.c (.slice none 0 0),.c (.int .i64 0),.c (.slice none 0 0),.c (.int .i64 0),.c (.slice none 0 0),.c (.slice none 0 0),.c (.slice none 0 0)])],[]⟩)],⟨[n0,(.int .i64)],[gG,.bool],[],[]⟩,[(1,⟨[n0,(.int .i64),(.int .i64),(.int .i64)],[(aA 4,aA 2,0),(.z,aA 5,0)],[sC 999,cC 5,sC 1001]⟩)],[sC 1001,sC 0,sC 0]⟩
/- langdoc/langdocref25.has -/
def zGL:En:=⟨99,[],⟨[n0,(.int .i64)],[.bool],[],[]⟩,[],[sC 1001]⟩
/- langdoc/langdocref25.Check -/
def zFh:En:=⟨65,[(1,⟨[⟨.pure,false⟩,⟨.pure,true⟩,⟨.pure,true⟩,⟨.pure,false⟩],[(1,.v 0),(2,.loc 0 0),(13,.v 1),(14,.v 2)],[some (.whole (.v 3) 1)],[]⟩),(2,⟨[⟨.pure,false⟩,⟨.pure,true⟩,⟨.pure,true⟩],[(1,.v 0),(44,.v 1),(45,.v 2)],[],[]⟩),(3,⟨[⟨.pure,false⟩,⟨.pure,true⟩,⟨.pure,true⟩,⟨.pure,false⟩,⟨.pure,false⟩,⟨.pure,false⟩,⟨.pure,false⟩,⟨.pure,false⟩,⟨.pure,true⟩,⟨.pure,true⟩],[(1,.v 0),(7,.v 1),(44,.v 2),(45,.v 1),(55,.v 3),(56,.v 3),(57,.v 4),(60,.v 5),(61,.v 6),(62,.v 7),(69,.v 8),(70,.v 9)],[],[]⟩)],⟨[n3,n0],[(.int .i64)],[],[]⟩,[(1,⟨[n0,(.int .i64),(.int .i64),n3],[(aA 2,aA 1,0),(aA 1,aA 2,0),(aA 2,.z,299999998),(aA 3,aA 2,0),(.z,aA 4,0)],[sC 999,cC 4,sC 1001,sC 0,sC 0]⟩),(2,⟨[n0,(.int .i64),(.int .i64)],[(aA 2,aA 3,0),(aA 2,aA 1,0),(aA 1,aA 2,0),(aA 2,.z,299999998),(aA 3,aA 2,0),(.z,aA 4,0)],[sC 998,cC 4,sC 1001,sC 0,sC 0]⟩),(3,⟨[n0,(.int .i64),(.int .i64),.any,.any,.any,.any,.any,(.int .i64),(.int .i64)],[(aA 2,.z,299999998),(.z,aA 3,0),(aA 4,aA 2,0),(aA 2,aA 4,0),(aA 3,aA 4,-1),(aA 4,aA 1,0),(aA 1,aA 4,0),(.z,aA 11,0),(aA 10,.el [2] [3] 6,0)],[sC 998,cC 3,sC 997,cC 11,sC 1001]⟩)],[sC 1001,sC 0,sC 0,sC 0,sC 0]⟩
/- langdoc/langdocref26.Inverse -/
def zDY:En:=⟨100,[],⟨[(.int .i64)],[(.int .i64)],[],[]⟩,[],[sC 1001]⟩
/- langdoc/langdocref26.find -/
def zA2:En:=⟨101,[(1,⟨[⟨.pure,false⟩,⟨.pure,false⟩,⟨.pure,true⟩],[(0,.v 0),(1,.v 1),(5,.v 2)],[],[]⟩)],⟨[qRU,(.int .i64)],[(.int .i64)],[],[(.z,aA 2,1),(aA 2,aA 0,-1)]⟩,[(1,⟨[qRU,(.int .i64),(.int .i64)],[(aA 2,aA 0,0),(.z,aA 4,0)],[sC 999,cC 4,sC 1001]⟩)],[sC 1001,sC 0,sC 0]⟩
/- langdoc/langdocref26.has -/
def zDX:En:=⟨102,[(1,⟨[⟨.pure,true⟩,⟨.pure,false⟩,⟨.pure,false⟩],[(2,.loc 0 0),(3,.loc 1 0),(5,.v 0)],[some (.whole (.v 1) 8),some (.whole (.v 2) 2)],[]⟩)],⟨[gG,xD],[.bool],[],[]⟩,[(1,⟨[(.int .i64),gG,xD],[(.z,aA 2,0)],[sC 999,cC 2,sC 1001]⟩)],[sC 1001,sC 0,sC 0]⟩
/- langdoc/langdocref26.in -/
def zDW:En:=⟨103,[(1,⟨[⟨.pure,false⟩,⟨.pure,false⟩,⟨.pure,true⟩],[(0,.v 0),(1,.v 1),(5,.v 2)],[],[]⟩)],⟨[n2,(.int .i64)],[.bool],[],[]⟩,[(1,⟨[n2,(.int .i64),(.int .i64)],[(.z,aA 4,0)],[sC 999,cC 4,sC 1001]⟩)],[sC 1001,sC 0,sC 0]⟩
/- langdoc/langdocref26.Check -/
def zFg:En:=⟨66,[(1,⟨[⟨.pure,false⟩,⟨.pure,true⟩],[(0,.v 0),(3,.v 1)],[],[]⟩),(2,⟨[⟨.pure,false⟩,⟨.pure,true⟩,⟨.pure,true⟩],[(0,.v 0),(3,.v 1),(4,.v 2)],[],[]⟩),(3,⟨[⟨.pure,false⟩,⟨.pure,true⟩],[(0,.v 0),(7,.v 1)],[],[]⟩)],⟨[n0],[(.int .i64)],[],[]⟩,[(1,⟨[n0,(.int .i64)],[(aA 1,aA 0,0),(aA 0,aA 1,0),(.z,aA 2,0)],[sC 999,cC 2,sC 1001,sC 0,sC 0]⟩),(2,⟨[n0,(.int .i64),(.int .i64)],[(aA 2,aA 1,-1),(aA 1,aA 0,0),(aA 0,aA 1,0),(.z,aA 2,0),(.z,aA 3,0)],[sC 999,cC 2,sC 998,cC 3,sC 1001]⟩),(3,⟨[n0,(.int .i64)],[(.z,aA 2,0)],[sC 997,cC 2,sC 1001,sC 0,sC 0]⟩)],[sC 1001,sC 0,sC 0,sC 0,sC 0]⟩
/- langdoc/langdocref27.find -/
def zDV:En:=⟨105,[(1,⟨[⟨.pure,false⟩,⟨.pure,false⟩,⟨.pure,true⟩],[(0,.v 0),(1,.v 1),(5,.v 2)],[],[]⟩)],⟨[n0,(.int .i64)],[(.int .i64)],[],[(.z,aA 2,1),(aA 2,aA 0,-1)]⟩,[(1,⟨[n0,(.int .i64),(.int .i64)],[(aA 2,aA 0,0),(.z,aA 4,0)],[sC 999,cC 4,sC 1001]⟩)],[sC 1001,sC 0,sC 0]⟩
/- langdoc/langdocref27.way -/
def zDU:En:=⟨106,[(1,⟨[⟨.pure,false⟩,⟨.fresh,true⟩,⟨.pure,true⟩],[(0,.v 0),(5,.v 1),(6,.v 2)],[],[]⟩)],⟨[n0,(.int .i64)],[n2],[(aA 0,.z,299999999)],[]⟩,[(1,⟨[n0,n2,(.int .i64)],[(aA 4,aA 2,-1),(aA 2,aA 0,0)],[sC 999,cC 3,sC 1001]⟩)],[sC 1001,sC 0,sC 0]⟩
/- langdoc/langdocref27.Check -/
def zFf:En:=⟨67,[(1,⟨[⟨.pure,false⟩,⟨.pure,true⟩],[(0,.v 0),(3,.v 1)],[],[]⟩),(2,⟨[⟨.pure,false⟩,⟨.pure,true⟩],[(0,.v 0),(4,.v 1)],[],[]⟩)],⟨[n0],[(.int .i64)],[(aA 0,.z,299999999)],[]⟩,[(1,⟨[n0,(.int .i64)],[(aA 1,aA 0,0),(.z,aA 2,0)],[sC 999,cC 2,sC 1001]⟩),(2,⟨[n0,(.int .i64)],[(aA 1,aA 0,0),(.z,aA 2,0)],[sC 998,cC 2,sC 1001]⟩)],[sC 1001,sC 0,sC 0]⟩
/- langdoc/langdocref29.Check -/
def zGW:En:=⟨31,[],⟨[n8],[(.int .i64)],[(.aT [0,8],.z,299999999)],[]⟩,[],[sC 1001]⟩
/- langdoc/langdocref29.Light -/
def zDM:En:=⟨12,[(1,⟨[⟨.pure,true⟩,⟨.pure,false⟩],[(1,.loc 0 0),(3,.v 0)],[some (.whole (.v 1) 9)],[]⟩)],⟨[n8],[.bool],[(.aT [0,8],.z,299999999)],[]⟩,[(1,⟨[(.int .i64),n8],[(.z,aA 1,0),(.aT [2,8],.aT [0,8],0)],[sC 999,cC 1,sC 1001]⟩)],[sC 1001,sC 0,sC 0]⟩
/- langdoc/langdocref11.timed -/
def zDC:En:=⟨155,[],⟨[(.int .i64)],[.bool],[],[]⟩,[],[sC 1001]⟩
/- langdoc/langdocref11.kind -/
def zDB:En:=⟨156,[],⟨[(.int .i64)],[(.int .i64)],[],[]⟩,[],[sC 1001]⟩
/- langdoc/langdocref11.over -/
def zDA:En:=⟨157,[],⟨[(.int .i64)],[(.int .i64)],[],[]⟩,[],[sC 1001]⟩
/- langdoc/langdocref11.tier -/
def zAZ:En:=⟨109,[(1,⟨[⟨.pure,false⟩,⟨.pure,false⟩,⟨.pure,true⟩,⟨.pure,false⟩],[(0,.v 0),(1,.v 1),(5,.loc 0 0),(6,.v 2)],[some (.whole (.v 3) 4)],[]⟩),(2,⟨[⟨.pure,false⟩,⟨.pure,false⟩,⟨.pure,true⟩,⟨.pure,false⟩],[(0,.v 0),(1,.v 1),(5,.loc 0 0),(7,.v 2)],[some (.whole (.v 3) 4)],[]⟩)],⟨[qUU,(.int .i64)],[(.int .i64)],[(.z,aA 1,0),(aA 1,aA 0,-1)],[]⟩,[(1,⟨[qUU,(.int .i64),(.int .i64),qUT],[(aA 3,aA 2,-1),(aA 3,aA 1,0),(.z,aA 4,0)],[sC 999,cC 4,sC 1001]⟩),(2,⟨[qUU,(.int .i64),(.int .i64),qUT],[(aA 3,aA 2,-1),(aA 3,aA 1,0),(.z,aA 4,0)],[sC 998,cC 4,sC 1001]⟩)],[sC 1001,sC 0,sC 0]⟩
/- langdoc/langdocref11.Check -/
def zGS:En:=⟨70,[(1,⟨[⟨.pure,false⟩,⟨.pure,true⟩],[(0,.v 0),(3,.v 1)],[],[]⟩)],⟨[qUU],[(.int .i64)],[],[]⟩,[(1,⟨[qUU,(.int .i64)],[(aA 1,aA 0,0),(.z,aA 2,0)],[sC 999,cC 2,sC 1001]⟩)],[sC 1001,sC 0,sC 0]⟩
/- langdoc/langdocref12.Get -/
def zGV:En:=⟨55,[(1,⟨[⟨.pure,false⟩,⟨.pure,true⟩,⟨.pure,false⟩],[(1,.v 0),(2,.loc 0 0),(4,.loc 1 0),(6,.v 1)],[some (.whole (.v 2) 7),some (.cells [.c (.int .i64 0),.c (.int .i64 0),.c (.int .i64 0),.c (.int .i64 0),.c (.int .i64 0),.c (.int .i64 0),.c (.string ⟨#[]⟩)])],[]⟩)],⟨[k8,(.int .i64)],[n20,.bool],[],[]⟩,[(1,⟨[(.int .i64),(.int .i64),k8],[(.z,aA 3,0)],[sC 999,cC 3,sC 1001]⟩)],[sC 1001,sC 0,sC 0]⟩
/- langdoc/langdocref12.aligned -/
def zDQ:En:=⟨113,[],⟨[(.int .i64)],[.bool],[],[]⟩,[],[sC 1001]⟩
/- langdoc/langdocref09.Right -/
def zDz:En:=⟨158,[],⟨[xD],[.bool],[],[]⟩,[],[sC 1001]⟩
/- langdoc/langdocref12.placed -/
def zDS:En:=⟨111,[],⟨[k8,n20],[(.int .i64)],[(.z,.aT [1,1],0),(.aT [1,1],.aT [0,5],-1)],[]⟩,[],[sC 1001]⟩
/- langdoc/langdocref12.noteError -/
def zGR:En:=⟨71,[],⟨[k8,(.int .i64)],[(.int .i64)],[(.z,aA 1,0),(aA 1,.aT [0,6],-1)],[]⟩,[],[sC 1001]⟩
/- langdoc/langdocref12.siblings -/
def zDR:En:=⟨112,[(1,⟨[⟨.pure,false⟩,⟨.pure,false⟩,⟨.fresh,true⟩,⟨.pure,true⟩,⟨.pure,false⟩],[(1,.v 0),(2,.v 1),(3,.loc 0 0),(7,.v 2),(8,.v 3)],[some (.whole (.v 4) 7)],[]⟩)],⟨[k8,(.int .i64),(.int .i64)],[qBd],[],[]⟩,[(1,⟨[(.int .i64),(.int .i64),qBd,(.int .i64),k8],[(aA 5,aA 6,0)],[sC 999,cC 6,sC 1001]⟩)],[sC 1001,sC 0,sC 0]⟩
/- langdoc/langdocref12.overlap -/
def zDP:En:=⟨114,[(1,⟨[⟨.pure,false⟩,⟨.pure,true⟩],[(0,.v 0),(3,.v 1)],[],[]⟩),(2,⟨[⟨.pure,false⟩,⟨.pure,true⟩,⟨.pure,true⟩],[(0,.v 0),(3,.v 1),(4,.v 2)],[],[]⟩)],⟨[qBd],[.bool],[],[]⟩,[(1,⟨[qBd,(.int .i64)],[(aA 1,aA 0,0),(aA 0,aA 1,0),(.z,aA 2,0)],[sC 999,cC 2,sC 1001,sC 0,sC 0]⟩),(2,⟨[qBd,(.int .i64),(.int .i64)],[(aA 1,aA 0,0),(aA 0,aA 1,0),(aA 3,aA 2,0),(aA 2,aA 0,-1),(.z,aA 3,0)],[sC 999,cC 2,sC 998,cC 3,sC 1001]⟩)],[sC 1001,sC 0,sC 0,sC 0,sC 0]⟩
/- langdoc/langdocref12.spans -/
def zDO:En:=⟨116,[(1,⟨[⟨.pure,false⟩,⟨.fresh,true⟩,⟨.pure,true⟩],[(0,.v 0),(3,.v 1),(4,.v 2)],[],[]⟩)],⟨[qBd],[qUS],[],[]⟩,[(1,⟨[qBd,qUS,(.int .i64)],[(aA 2,aA 3,0)],[sC 999,cC 3,sC 1001]⟩)],[sC 1001,sC 0,sC 0]⟩
/- langdoc/langdocref12.ranked -/
def zDN:En:=⟨117,[(1,⟨[⟨.pure,false⟩,⟨.pure,true⟩],[(0,.v 0),(3,.v 1)],[],[]⟩),(2,⟨[⟨.pure,false⟩,⟨.pure,true⟩,⟨.pure,true⟩,⟨.pure,true⟩],[(0,.v 0),(3,.v 1),(4,.v 2),(5,.v 3)],[],[]⟩)],⟨[qBd],[.bool],[],[]⟩,[(1,⟨[qBd,(.int .i64)],[(aA 1,aA 0,0),(aA 0,aA 1,0),(.z,aA 2,0)],[sC 999,cC 2,sC 1001,sC 0,sC 0]⟩),(2,⟨[qBd,(.int .i64),.bool,(.int .i64)],[(aA 1,aA 0,0),(aA 0,aA 1,0),(aA 2,aA 0,-1),(.z,aA 2,0),(.z,aA 4,0)],[sC 999,cC 2,sC 998,cC 4,sC 1001]⟩)],[sC 1001,sC 0,sC 0,sC 0,sC 0]⟩
/- langdoc/langdocref12.tierError -/
def zGQ:En:=⟨72,[(1,⟨[⟨.pure,false⟩,⟨.pure,true⟩,⟨.pure,true⟩,⟨.pure,true⟩,⟨.pure,false⟩],[(1,.v 0),(2,.loc 0 0),(5,.v 1),(6,.v 2),(7,.v 3)],[some (.whole (.v 4) 7)],[]⟩)],⟨[k8,(.int .i64)],[(.int .i64)],[(.z,aA 1,0),(aA 1,.aT [0,5],-1)],[]⟩,[(1,⟨[(.int .i64),(.int .i64),(.int .i64),(.int .i64),k8],[(.z,aA 5,0)],[sC 999,cC 5,sC 1001]⟩)],[sC 1001,sC 0,sC 0]⟩
/- langdoc/langdocref12.Check -/
def zFm:En:=⟨38,[(1,⟨[⟨.pure,true⟩,⟨.pure,false⟩],[(1,.loc 0 0),(4,.v 0)],[some (.whole (.v 1) 7)],[]⟩),(2,⟨[⟨.pure,true⟩,⟨.pure,false⟩],[(1,.loc 0 0),(6,.v 0)],[some (.whole (.v 1) 7)],[]⟩)],⟨[k8],[(.int .i64)],[],[]⟩,[(1,⟨[(.int .i64),k8],[(.z,aA 1,0)],[sC 999,cC 1,sC 1001]⟩),(2,⟨[(.int .i64),k8],[(.z,aA 1,0)],[sC 998,cC 1,sC 1001]⟩)],[sC 1001,sC 0,sC 0]⟩
/- langdoc/langdocref12.Light -/
def zGX:En:=⟨18,[],⟨[k8],[.bool],[],[]⟩,[],[sC 1001]⟩
def qXp:List En:=[zFq,zAL,zAK,zDl,zE6,zDJ,zGN,zGT,zBy,zDL,zGP,zDH,zDs,zDF,zDx,zDw,zDE,zDD,zGL,zDY,zA2,zDX,zDW,zDV,zDU,zFf,zDC,zDB,zDA,zAZ,zGS,zGV,zDQ,zDz,zDS,zDR,zDP,zDO,zDN]
def qXo:List En:=[zDK,zGO,zFi,zE7,zE8,zDI,zE5,zGU,zDt,zDT,zDy,zDG,zGM,zFh,zFg,zGR,zGQ,zFm,zGX]
def zAv:List En:=[zGW,zDM]
theorem qX9:qDi EE Tryz.prog TT [] qXp=true:=by kernel_rfl
theorem qQ3:∀p∈aV [] qXp,xZ (Holds EE) p.1 p.2:=qDh qPl qIf TT_ok (λ_ h=>by cases h) qX9
end Go.Proofs.YtpbmnkajhedaiaaGreat
namespace Go.Proofs.YtpbmnkajhedaiaaGreat
open Go Go.Am Go.Proofs
def qUm:Nat->Pat
 |1=>⟨[⟨.pure,false⟩,⟨.pure,false⟩,⟨.pure,true⟩,⟨.pure,true⟩,⟨.pure,true⟩],[(0,.v 0),(1,.v 1),(6,.v 2),(7,.v 3),(8,.v 4)],[],[]⟩
 |_=>⟨[],[],[],[]⟩
def qNl:Tree:=
 .bind .chr [.v 0,.v 1] <|
 .bind (.conv 5 3) [.v 2] <|
 vM .geq 14 240 3 <|
 zC 4 (
  vM .sub 16 240 3 <|
  .bind (.bin .add 3 (.tmp 28) (.tmp 29)) [.v 1,k' 4] <|
  .bind (.len true) [.v 0] <|
  j8 .gtr 30 32 6 7 <|
  zC 8 (
   .ret [.c (.int .i64 (-1)),k' 0]) (
   .jump 1 [.v 0,.v 1,.v 5,k' 4,k' 1])) (
  vM .geq 19 224 3 <|
  zC 5 (
   vM .sub 21 224 3 <|
   .bind (.bin .add 3 (.tmp 28) (.tmp 29)) [.v 1,k' 3] <|
   .bind (.len true) [.v 0] <|
   j8 .gtr 30 32 7 8 <|
   zC 9 (
    .ret [.c (.int .i64 (-1)),k' 0]) (
    .jump 1 [.v 0,.v 1,.v 6,k' 3,k' 1])) (
   vM .geq 24 192 3 <|
   zC 6 (
    vM .sub 26 192 3 <|
    .bind (.bin .add 3 (.tmp 28) (.tmp 29)) [.v 1,k' 2] <|
    .bind (.len true) [.v 0] <|
    j8 .gtr 30 32 8 9 <|
    zC 10 (
     .ret [.c (.int .i64 (-1)),k' 0]) (
     .jump 1 [.v 0,.v 1,.v 7,k' 2,k' 1])) (
    .bind (.bin .add 3 (.tmp 28) (.tmp 29)) [.v 1,k' 1] <|
    .bind (.len true) [.v 0] <|
    j8 .gtr 30 32 7 8 <|
    zC 9 (
     .ret [.c (.int .i64 (-1)),k' 0]) (
     .jump 1 [.v 0,.v 1,.v 3,k' 1,k' 1]))))
def qNk:Tree:=
 j8 .lss 34 35 4 3 <|
 zC 5 (
  vM .mul 39 64 2 <|
  j8 .add 42 43 1 4 <|
  .bind .chr [.v 0,.v 7] <|
  .bind (.conv 5 3) [.v 8] <|
  vM .rem 46 64 9 <|
  j8 .add 40 47 6 10 <|
  vM .add 37 1 4 <|
  .jump 1 [.v 0,.v 1,.v 11,.v 3,.v 12]) (
  .call (.fn 210) [.v 2] 1 <|
  .bind (.un .not 4) [.v 6] <|
  zC 7 (
   .ret [.c (.int .i64 (-1)),k' 0]) (
   .call (.fn 211) [.v 2] 1 <|
   j8 .add 57 58 1 3 <|
   .bind (.sub true true) [.v 0,.v 1,.v 9] <|
   .bind (.bin .neq 9 (.tmp 54) (.tmp 60)) [.v 8,.v 10] <|
   zC 11 (
    .ret [.c (.int .i64 (-1)),k' 0]) (
    .ret [.v 2,.v 3])))
def uD:Nat->Tree
 |0=>qNl
 |1=>qNk
 |_=>.fail
def qYO:Nat->Pat
 |1=>⟨[⟨.pure,true⟩,⟨.pure,false⟩,⟨.pure,false⟩],[(2,.loc 0 0),(3,.loc 1 0),(5,.v 0)],[some (.whole (.v 1) 1),some (.whole (.v 2) 3)],[]⟩
 |2=>⟨[⟨.fresh,true⟩,⟨.pure,true⟩,⟨.pure,false⟩],[(3,.loc 1 0),(7,.v 0),(8,.v 1)],[none,some (.whole (.v 2) 3)],[]⟩
 |3=>⟨[⟨.fresh,true⟩,⟨.pure,true⟩,⟨.pure,true⟩,⟨.pure,false⟩],[(3,.loc 1 0),(7,.v 0),(8,.v 1),(9,.v 2)],[none,some (.whole (.v 3) 3)],[]⟩
 |_=>⟨[],[],[],[]⟩
def qTK:Tree:=
 .bind (.chk true 1) [.v 0] <|
 .bind (.chk true 3) [.v 1] <|
 zM 0 3 <|
 .call (.fn 92) [.v 4] 1 <|
 .bind (.un .not 4) [.v 5] <|
 zC 6 (
  wN 7) (
  zM 1 3 <|
  xL 7 <|
  vM .gtr 17 100 8 <|
  zC 9 (
   wN 11) (
   .jump 1 [k' 0,.v 2,.v 3]))
def qTJ:Tree:=
 zM 1 2 <|
 xL 3 <|
 j8 .lss 19 22 0 4 <|
 zC 5 (
  .call (.fn 93) [.v 1,.v 2,.v 0] 1 <|
  .bind (.bin .neq 55 (.tmp 30) (K' 0)) [.v 6,k' 0] <|
  zC 7 (
   .ret [.v 6]) (
   vM .add 24 1 0 <|
   .jump 1 [.v 8,.v 1,.v 2])) (
  zM 2 2 <|
  xL 6 <|
  vM .gtr 35 100 7 <|
  zC 8 (
   wN 11) (
   .jump 2 [.c (.slice none 0 0),k' 0,.v 2]))
def qTI:Tree:=
 zM 2 2 <|
 xL 3 <|
 j8 .lss 37 40 1 4 <|
 zC 5 (
  zM 2 2 <|
  wC 6 1 <|
  vK 1 0 6 1 <|
  xL 8 <|
  vM .eql 49 0 9 <|
  zC 10 (
   wN 4) (
   .jump 3 [.v 0,.v 1,k' 0,.v 2])) (
  wN 0)
def qTH:Tree:=
 zM 2 3 <|
 wC 4 1 <|
 vK 1 0 4 1 <|
 xL 6 <|
 j8 .lss 51 57 2 7 <|
 zC 8 (
  zM 2 3 <|
  wC 9 1 <|
  vK 1 0 9 1 <|
  wC 11 2 <|
  vK 1 0 11 2 <|
  .call (.fn 94) [.v 13] 1 <|
  .bind (.un .not 4) [.v 14] <|
  zC 15 (
   wN 3) (
   .call (.fn 95) [.v 0,.v 13] 1 <|
   zC 16 (
    wN 8) (
    .bind (.chk false 1) [.v 13] <|
    .bind (.lit 9 1) [.v 13] <|
    .bind (.app 9 1 16) [.v 0,.v 18] <|
    vM .add 59 1 2 <|
    .jump 3 [.v 19,.v 1,.v 20,.v 3]))) (
  vM .add 42 1 1 <|
  .jump 2 [.v 0,.v 9,.v 3])
def qBx:Nat->Tree
 |0=>qTK
 |1=>qTJ
 |2=>qTI
 |3=>qTH
 |_=>.fail
def qUl:Nat->Pat
 |1=>⟨[⟨.pure,false⟩,⟨.pure,false⟩,⟨.fresh,true⟩,⟨.pure,true⟩],[(0,.v 0),(1,.v 1),(5,.v 2),(6,.v 3)],[],[]⟩
 |_=>⟨[],[],[],[]⟩
def qNj:Tree:=
 .jump 1 [.v 0,.v 1,.c (.slice none 0 0),k' 0]
def qNi:Tree:=
 xL 0 <|
 j8 .lss 7 9 3 4 <|
 zC 5 (
  wC 0 3 <|
  vK 1 0 0 3 <|
  j8 .lss 15 16 7 1 <|
  zC 8 (
   wC 0 3 <|
   vK 1 0 0 3 <|
   .bind (.chk false 1) [.v 10] <|
   .bind (.lit 3 1) [.v 10] <|
   .bind (.app 3 1 8) [.v 2,.v 12] <|
   vM .add 26 1 3 <|
   .jump 1 [.v 0,.v 1,.v 13,.v 14]) (
   .bind (.chk false 1) [.v 1] <|
   .bind (.lit 3 1) [.v 1] <|
   .bind (.app 3 1 8) [.v 2,.v 10] <|
   xL 0 <|
   j8 .lss 32 34 3 12 <|
   zC 13 (
    wC 0 3 <|
    vK 1 0 0 3 <|
    j8 .eql 40 41 15 1 <|
    zC 16 (
     vM .add 44 1 3 <|
     .bind (.slc 3 1 true false) [.v 0,.v 17] <|
     .bind (.app 3 1 8) [.v 11,.v 18] <|
     .ret [.v 19]) (
     .bind (.slc 3 1 true false) [.v 0,.v 3] <|
     .bind (.app 3 1 8) [.v 11,.v 17] <|
     .ret [.v 18])) (
    .bind (.slc 3 1 true false) [.v 0,.v 3] <|
    .bind (.app 3 1 8) [.v 11,.v 14] <|
    .ret [.v 15]))) (
  .bind (.chk false 1) [.v 1] <|
  .bind (.lit 3 1) [.v 1] <|
  .bind (.app 3 1 8) [.v 2,.v 7] <|
  xL 0 <|
  j8 .lss 32 34 3 9 <|
  zC 10 (
   wC 0 3 <|
   vK 1 0 0 3 <|
   j8 .eql 40 41 12 1 <|
   zC 13 (
    vM .add 44 1 3 <|
    .bind (.slc 3 1 true false) [.v 0,.v 14] <|
    .bind (.app 3 1 8) [.v 8,.v 15] <|
    .ret [.v 16]) (
    .bind (.slc 3 1 true false) [.v 0,.v 3] <|
    .bind (.app 3 1 8) [.v 8,.v 14] <|
    .ret [.v 15])) (
   .bind (.slc 3 1 true false) [.v 0,.v 3] <|
   .bind (.app 3 1 8) [.v 8,.v 11] <|
   .ret [.v 12]))
def qHW:Nat->Tree
 |0=>qNj
 |1=>qNi
 |_=>.fail
def qUI:Nat->Pat
 |1=>⟨[⟨.pure,false⟩,⟨.pure,false⟩,⟨.fresh,true⟩,⟨.fresh,true⟩,⟨.pure,true⟩],[(0,.v 0),(2,.v 1),(7,.v 2),(8,.v 3),(9,.v 4)],[],[]⟩
 |2=>⟨[⟨.pure,false⟩,⟨.pure,false⟩,⟨.fresh,true⟩,⟨.fresh,true⟩,⟨.pure,true⟩,⟨.fresh,true⟩,⟨.pure,true⟩],[(0,.v 0),(2,.v 1),(7,.v 2),(8,.v 3),(9,.v 4),(10,.v 5),(11,.v 6)],[],[]⟩
 |3=>⟨[⟨.pure,false⟩,⟨.pure,false⟩,⟨.fresh,true⟩,⟨.fresh,true⟩,⟨.pure,true⟩,⟨.fresh,true⟩,⟨.pure,true⟩,⟨.pure,true⟩,⟨.pure,true⟩],[(0,.v 0),(2,.v 1),(7,.v 2),(8,.v 3),(9,.v 4),(10,.v 5),(11,.v 6),(12,.v 7),(13,.v 8)],[],[]⟩
 |4=>⟨[⟨.pure,false⟩,⟨.fresh,true⟩,⟨.fresh,true⟩,⟨.pure,true⟩],[(0,.v 0),(7,.v 1),(16,.v 2),(17,.v 3)],[],[]⟩
 |_=>⟨[],[],[],[]⟩
def qNT:Tree:=
 xL 0 <|
 .bind (.mk 4 1 1 false [(.bool false)]) [.v 3] <|
 .bind (.chk false 1) [.v 1] <|
 .bind (.lit 3 1) [.v 1] <|
 .jump 1 [.v 0,.v 2,.v 4,.v 6,k' 0]
def qNS:Tree:=
 xL 0 <|
 j8 .leq 23 25 4 5 <|
 zC 6 (
  .jump 2 [.v 0,.v 1,.v 2,.v 3,.v 4,.c (.slice none 0 0),k' 0]) (
  .jump 4 [.v 0,.v 2,.c (.slice none 0 0),k' 0])
def qNR:Tree:=
 xL 3 <|
 j8 .lss 29 31 6 7 <|
 zC 8 (
  wC 3 6 <|
  vK 1 0 3 6 <|
  .call (.fn 101) [.v 0,.v 10] 1 <|
  .jump 3 [.v 0,.v 1,.v 2,.v 3,.v 4,.v 5,.v 6,.v 11,k' 0]) (
  vM .add 27 1 4 <|
  .jump 1 [.v 0,.v 1,.v 2,.v 5,.v 9])
def qNQ:Tree:=
 vM .geq 41 0 7 <|
 zC 9 (
  wC 0 7 <|
  vK 8 6 0 7 <|
  xL 11 <|
  j8 .lss 44 50 8 12 <|
  zC 13 (
   wC 0 7 <|
   vK 8 6 0 7 <|
   wC 15 8 <|
   .bind (.elem 2 true 2 0) [.v 15,.v 8] <|
   .bind (.chk true 2) [.v 17] <|
   zM 1 18 <|
   .call (.fn 101) [.v 0,.v 19] 1 <|
   zM 0 18 <|
   j8 .eql 68 69 21 1 <|
   zC 22 (
    vM .geq 72 0 20 <|
    zC 23 (
     wC 2 20 <|
     vK 1 0 2 20 <|
     .bind (.un .not 4) [.v 25] <|
     zC 26 (
      wC 2 20 <|
      .bind (.set 1 false 1 0) [.v 2,.v 20,.c (.bool true)] <|
      zM 1 18 <|
      .bind (.chk false 1) [.v 29] <|
      .bind (.lit 3 1) [.v 29] <|
      .bind (.app 3 1 8) [.v 5,.v 31] <|
      vM .add 53 1 8 <|
      .jump 3 [.v 0,.v 1,.v 28,.v 3,.v 4,.v 32,.v 6,.v 7,.v 33]) (
      vM .add 53 1 8 <|
      .jump 3 [.v 0,.v 1,.v 2,.v 3,.v 4,.v 5,.v 6,.v 7,.v 27])) (
     vM .add 53 1 8 <|
     .jump 3 [.v 0,.v 1,.v 2,.v 3,.v 4,.v 5,.v 6,.v 7,.v 24])) (
    vM .add 53 1 8 <|
    .jump 3 [.v 0,.v 1,.v 2,.v 3,.v 4,.v 5,.v 6,.v 7,.v 23])) (
   vM .add 33 1 6 <|
   .jump 2 [.v 0,.v 1,.v 2,.v 3,.v 4,.v 5,.v 14])) (
  vM .add 33 1 6 <|
  .jump 2 [.v 0,.v 1,.v 2,.v 3,.v 4,.v 5,.v 10])
def qNP:Tree:=
 xL 0 <|
 j8 .lss 91 93 3 4 <|
 zC 5 (
  wC 1 3 <|
  vK 1 0 1 3 <|
  zC 7 (
   wC 0 3 <|
   vK 8 0 0 3 <|
   .bind (.chk false 1) [.v 9] <|
   .bind (.lit 3 1) [.v 9] <|
   .bind (.app 3 1 8) [.v 2,.v 11] <|
   vM .add 95 1 3 <|
   .jump 4 [.v 0,.v 1,.v 12,.v 13]) (
   vM .add 95 1 3 <|
   .jump 4 [.v 0,.v 1,.v 2,.v 8])) (
  .ret [.v 2])
def uF:Nat->Tree
 |0=>qNT
 |1=>qNS
 |2=>qNR
 |3=>qNQ
 |4=>qNP
 |_=>.fail
def qUD:Nat->Pat
 |_=>⟨[],[],[],[]⟩
def qNJ:Tree:=
 .bind (.chk true 2) [.v 1] <|
 .call (.fn 158) [.v 2] 1 <|
 zC 3 (
  .bind (.chk true 2) [.v 2] <|
  .bind (.lit 104 2) [.v 2] <|
  .call (.fn 159) [.v 5,.v 0] 0 <|
  xL 6 <|
  vM .eql 12 0 7 <|
  .ret [.v 8]) (
  rP false)
def qNI:Nat->Tree
 |0=>qNJ
 |_=>.fail
def qUg:Nat->Pat
 |1=>⟨[⟨.pure,false⟩,⟨.fresh,true⟩,⟨.fresh,true⟩,⟨.pure,true⟩,⟨.pure,false⟩],[(0,.v 0),(3,.loc 0 0),(5,.v 1),(6,.v 2),(7,.v 3)],[some (.whole (.v 4) 2)],[]⟩
 |_=>⟨[],[],[],[]⟩
def qM9:Tree:=
 .bind (.chk true 2) [.v 1] <|
 .bind (.lit 104 2) [] <|
 .bind (.lit 104 2) [] <|
 .jump 1 [.v 0,.v 3,.v 4,k' 0,.v 2]
def qM8:Tree:=
 xL 0 <|
 j8 .lss 10 12 3 5 <|
 zC 6 (
  wC 0 3 <|
  vK 2 1 0 3 <|
  zM 0 4 <|
  j8 .lss 20 22 8 9 <|
  zC 10 (
   wC 0 3 <|
   .bind (.elem 2 true 2 0) [.v 0,.v 3] <|
   .bind (.chk true 2) [.v 12] <|
   .bind (.lit 104 2) [.v 12] <|
   .bind (.app 104 2 16) [.v 1,.v 14] <|
   vM .add 14 1 3 <|
   .jump 1 [.v 0,.v 15,.v 2,.v 16,.v 4]) (
   wC 0 3 <|
   vK 2 0 0 3 <|
   zM 1 4 <|
   j8 .gtr 35 37 12 13 <|
   zC 14 (
    wC 0 3 <|
    .bind (.elem 2 true 2 0) [.v 0,.v 3] <|
    .bind (.chk true 2) [.v 16] <|
    .bind (.lit 104 2) [.v 16] <|
    .bind (.app 104 2 16) [.v 2,.v 18] <|
    vM .add 14 1 3 <|
    .jump 1 [.v 0,.v 1,.v 19,.v 20,.v 4]) (
    zM 0 4 <|
    wC 0 3 <|
    vK 2 0 0 3 <|
    .bind (.mm false) [.v 15,.v 17] <|
    zM 1 4 <|
    wC 0 3 <|
    vK 2 1 0 3 <|
    .bind (.mm true) [.v 19,.v 21] <|
    vM .add 14 1 3 <|
    .jump 1 [.v 0,.v 1,.v 2,.v 23,.agg [.v 18,.v 22]]))) (
  .bind (.chk true 2) [.v 4] <|
  .bind (.lit 104 2) [.v 4] <|
  .bind (.app 104 2 16) [.v 1,.v 8] <|
  .bind (.app 104 2 16) [.v 9,.v 2] <|
  .ret [.v 10])
def qM7:Nat->Tree
 |0=>qM9
 |1=>qM8
 |_=>.fail
def qUk:Nat->Pat
 |1=>⟨[⟨.pure,false⟩,⟨.pure,false⟩,⟨.pure,true⟩],[(0,.v 0),(3,.v 1),(4,.v 2)],[],[]⟩
 |_=>⟨[],[],[],[]⟩
def qNh:Tree:=
 .bind (.lit 104 2) [] <|
 .jump 1 [.v 0,.v 1,k' 0]
def qNg:Tree:=
 xL 0 <|
 j8 .lss 6 8 2 3 <|
 zC 4 (
  wC 0 2 <|
  .bind (.elem 2 true 2 0) [.v 0,.v 2] <|
  .call (.fn 158) [.v 6] 1 <|
  zC 7 (
   wC 0 2 <|
   .bind (.elem 2 true 2 0) [.v 0,.v 2] <|
   .call (.fn 214) [.v 1,.v 9] 0 <|
   vM .add 10 1 2 <|
   .jump 1 [.v 0,.v 10,.v 11]) (
   vM .add 10 1 2 <|
   .jump 1 [.v 0,.v 1,.v 8])) (
  .ret [.v 1])
def qHV:Nat->Tree
 |0=>qNh
 |1=>qNg
 |_=>.fail
def qUj:Nat->Pat
 |1=>⟨[⟨.pure,false⟩,⟨.fresh,true⟩,⟨.pure,true⟩,⟨.pure,false⟩],[(0,.v 0),(3,.loc 0 0),(5,.v 1),(6,.v 2)],[some (.whole (.v 3) 2)],[]⟩
 |_=>⟨[],[],[],[]⟩
def qNf:Tree:=
 .bind (.chk true 2) [.v 1] <|
 .bind (.lit 104 2) [] <|
 .jump 1 [.v 0,.v 3,k' 0,.v 2]
def qNe:Tree:=
 xL 0 <|
 j8 .lss 10 12 2 4 <|
 zC 5 (
  wC 0 2 <|
  vK 2 0 0 2 <|
  wC 0 2 <|
  vK 2 1 0 2 <|
  zM 0 3 <|
  .bind (.mm false) [.v 9,.v 10] <|
  wC 0 2 <|
  vK 2 0 0 2 <|
  zM 1 3 <|
  .bind (.mm true) [.v 13,.v 14] <|
  wC 0 2 <|
  vK 2 1 0 2 <|
  .call (.fn 158) [.agg [.v 7,.v 11]] 1 <|
  zC 18 (
   .bind (.chk true 2) [.agg [.v 7,.v 11]] <|
   .bind (.lit 104 2) [.agg [.v 7,.v 11]] <|
   .bind (.app 104 2 16) [.v 1,.v 20] <|
   .call (.fn 158) [.agg [.v 15,.v 17]] 1 <|
   zC 22 (
    .bind (.chk true 2) [.agg [.v 15,.v 17]] <|
    .bind (.lit 104 2) [.agg [.v 15,.v 17]] <|
    .bind (.app 104 2 16) [.v 21,.v 24] <|
    vM .add 14 1 2 <|
    .jump 1 [.v 0,.v 25,.v 26,.v 3]) (
    vM .add 14 1 2 <|
    .jump 1 [.v 0,.v 21,.v 23,.v 3])) (
   .call (.fn 158) [.agg [.v 15,.v 17]] 1 <|
   zC 19 (
    .bind (.chk true 2) [.agg [.v 15,.v 17]] <|
    .bind (.lit 104 2) [.agg [.v 15,.v 17]] <|
    .bind (.app 104 2 16) [.v 1,.v 21] <|
    vM .add 14 1 2 <|
    .jump 1 [.v 0,.v 22,.v 23,.v 3]) (
    vM .add 14 1 2 <|
    .jump 1 [.v 0,.v 1,.v 20,.v 3]))) (
  .ret [.v 1])
def qHU:Nat->Tree
 |0=>qNf
 |1=>qNe
 |_=>.fail
def qUr:Nat->Pat
 |1=>⟨[⟨.pure,false⟩,⟨.pure,false⟩,⟨.pure,true⟩],[(1,.v 0),(5,.v 1),(6,.v 2)],[],[]⟩
 |_=>⟨[],[],[],[]⟩
def qNw:Tree:=
 .call (.fn 186) [.v 0] 0 <|
 .jump 1 [.v 1,.v 2,k' 0]
def qNv:Tree:=
 xL 0 <|
 j8 .lss 9 11 2 3 <|
 zC 4 (
  wC 0 2 <|
  .bind (.elem 2 true 2 0) [.v 0,.v 2] <|
  .call (.fn 158) [.v 6] 1 <|
  zC 7 (
   wC 0 2 <|
   .bind (.elem 2 true 2 0) [.v 0,.v 2] <|
   .call (.fn 187) [.v 1,.v 9] 0 <|
   vM .add 13 1 2 <|
   .jump 1 [.v 0,.v 10,.v 11]) (
   vM .add 13 1 2 <|
   .jump 1 [.v 0,.v 1,.v 8])) (
  .ret [.v 1])
def qHZ:Nat->Tree
 |0=>qNw
 |1=>qNv
 |_=>.fail
def qUs:Nat->Pat
 |_=>⟨[],[],[],[]⟩
def qNy:Tree:=
 .bind (.chk true 2) [.v 0] <|
 zM 0 1 <|
 vM .geq 4 0 2 <|
 zC 3 (
  zM 0 1 <|
  zM 1 1 <|
  j8 .lss 8 10 4 5 <|
  zC 6 (
   zM 1 1 <|
   vM .leq 15 86400000 7 <|
   .ret [.v 8]) (
   rP false)) (
  rP false)
def qNx:Nat->Tree
 |0=>qNy
 |_=>.fail
def qUu:Nat->Pat
 |1=>⟨[⟨.pure,false⟩,⟨.pure,false⟩,⟨.pure,true⟩,⟨.pure,true⟩],[(0,.v 0),(3,.v 1),(6,.v 2),(7,.v 3)],[],[]⟩
 |_=>⟨[],[],[],[]⟩
def qVA:Tree:=
 xL 0 <|
 .jump 1 [.v 0,.c (.slice none 0 0),.v 1,k' 0]
def qVz:Tree:=
 j8 .lss 7 6 3 2 <|
 zC 4 (
  wC 0 3 <|
  vK 1 0 0 3 <|
  .call (.fn 182) [.v 1,.v 6] 0 <|
  vM .add 7 1 3 <|
  .jump 1 [.v 0,.v 7,.v 2,.v 8]) (
  .ret [.v 1])
theorem qDD:(kZ Tryz.f181 2 qUm,
 hd Tryz.f181 2 qUm,
 nr Tryz.f181,
 kZ Tryz.f62 2 qYO,
 hd Tryz.f62 2 qYO,
 nr Tryz.f62,
 kZ Tryz.f182 2 qUl,
 hd Tryz.f182 2 qUl,
 nr Tryz.f182,
 kZ Tryz.f104 3 qUI,
 hd Tryz.f104 3 qUI,
 nr Tryz.f104,
 kZ Tryz.f115 2 qUD,
 hd Tryz.f115 2 qUD,
 nr Tryz.f115,
 kZ Tryz.f214 2 qUg,
 hd Tryz.f214 2 qUg,
 nr Tryz.f214,
 kZ Tryz.f186 1 qUk,
 hd Tryz.f186 1 qUk,
 nr Tryz.f186,
 kZ Tryz.f187 2 qUj,
 hd Tryz.f187 2 qUj,
 nr Tryz.f187,
 kZ Tryz.f159 2 qUr,
 hd Tryz.f159 2 qUr,
 nr Tryz.f159,
 kZ Tryz.f158 1 qUs,
 hd Tryz.f158 1 qUs,
 nr Tryz.f158,
 kZ Tryz.f149 1 qUu,
 hd Tryz.f149 1 qUu,
 nr Tryz.f149) =
 (qNl,[(1,qNk)],false,qTK,[(1,qTJ),(2,qTI),(3,qTH)],false,qNj,[(1,qNi)],false,qNT,[(1,qNS),(2,qNR),(3,qNQ),(4,qNP)],false,qNJ,[],false,qM9,[(1,qM8)],false,qNh,[(1,qNg)],false,qNf,[(1,qNe)],false,qNw,[(1,qNv)],false,qNy,[],false,qVA,[(1,qVz)],false):=by kernel_rfl
theorem zB2{ds:List D}{d:D}(x:ds.length=2)(h:qE EE (Holds EE) uD 0 ds d):Holds EE 181 ds d:=
 hv Tryz.func181 rfl qDD (xE rfl<|jR) x h
theorem zEp{ds:List D}{d:D}(x:ds.length=2)(h:qE EE (Holds EE) qBx 0 ds d):Holds EE 62 ds d:=
 hv Tryz.func62 rfl (jN (jN (jN qDD))) (xE rfl<|xE rfl<|xE rfl<|jR) x h
theorem zB1{ds:List D}{d:D}(x:ds.length=2)(h:qE EE (Holds EE) qHW 0 ds d):Holds EE 182 ds d:=
 hv Tryz.func182 rfl (jN (jN (xG qDD))) (xE rfl<|jR) x h
theorem zCd{ds:List D}{d:D}(x:ds.length=3)(h:qE EE (Holds EE) uF 0 ds d):Holds EE 104 ds d:=
 hv Tryz.func104 rfl (jN (xG (xG qDD))) (xE rfl<|xE rfl<|xE rfl<|xE rfl<|jR) x h
theorem zCb{ds:List D}{d:D}(x:ds.length=2)(h:qE EE (Holds EE) qNI 0 ds d):Holds EE 115 ds d:=
 hv Tryz.func115 rfl (xG (xG (xG qDD))) (jR) x h
theorem zBW{ds:List D}{d:D}(x:ds.length=2)(h:qE EE (Holds EE) qM7 0 ds d):Holds EE 214 ds d:=
 hv Tryz.func214 rfl (jN (jN (jN (xG (xG (xG qDD)))))) (xE rfl<|jR) x h
theorem zB0{ds:List D}{d:D}(x:ds.length=1)(h:qE EE (Holds EE) qHV 0 ds d):Holds EE 186 ds d:=
 hv Tryz.func186 rfl (jN (jN (vX qDD))) (xE rfl<|jR) x h
theorem zBZ{ds:List D}{d:D}(x:ds.length=2)(h:qE EE (Holds EE) qHU 0 ds d):Holds EE 187 ds d:=
 hv Tryz.func187 rfl (jN (xG (vX qDD))) (xE rfl<|jR) x h
theorem zB7{ds:List D}{d:D}(x:ds.length=2)(h:qE EE (Holds EE) qHZ 0 ds d):Holds EE 159 ds d:=
 hv Tryz.func159 rfl (xG (xG (vX qDD))) (xE rfl<|jR) x h
theorem zB8{ds:List D}{d:D}(x:ds.length=1)(h:qE EE (Holds EE) qNx 0 ds d):Holds EE 158 ds d:=
 hv Tryz.func158 rfl (jN (jN (jN (xG (xG (vX qDD)))))) (jR) x h
end Go.Proofs.YtpbmnkajhedaiaaGreat
