/- The seat's program for symbolic runs. Conditions: none. -/
import Derived.Test.YthhlmoidofecpaaGreatUn
import Derived.Test.YthhlmoidofecpaaGreatChecked
import Derived.Test.YthhlmoidofecpaaGreatTu
import Derived.KernelRfl
set_option linter.unusedVariables false
set_option linter.unusedSimpArgs false
namespace Go.Proofs.YthhlmoidofecpaaGreat
open Go Go.Am Go.Proofs
noncomputable def EE:Env:=wJ Tryz.prog
def rA (fn:Func):Code:=fn.body.getD .skip
theorem qHP:pP Tryz.prog=true:=by kernel_rfl
theorem he:EOk EE:=qFA qHP
theorem qLL:dN Tryz.prog=true:=by kernel_rfl
theorem xB {Ts:Nat->Tree}:∀ x∈([]:List (Nat × Tree)),Ts x.1=x.2:=fun _ h=>by cases h
theorem jY {Ts:Nat->Tree} {k:Nat} {t:Tree} {r:List (Nat × Tree)} (h:Ts k=t) (hr:∀ x∈r,Ts x.1=x.2):∀ x∈(k,t)::r,Ts x.1=x.2:=by
 intro x hx
 rcases List.mem_cons.1 hx with rfl | hx
 ·exact h
 exact hr x hx
abbrev k' (n:Int):SV:=.c (.int .i64 n)
abbrev K' (n:Int):Operand:=.const (.int .i64 n)
abbrev qD (o i:Nat) (r:Tree):Tree:=.bind (.fld false 1 o) [.v i] r
abbrev xL (i:Nat) (r:Tree):Tree:=.bind (.len false) [.v i] r
abbrev xC (a b:Nat) (r:Tree):Tree:=.bind .inr [.v a,.v b] r
theorem wG {t0:Type} {t1:Type} {x0 y0:t0} {x1 y1:t1} (h:(x0,x1)=(y0,y1)):x1=y1:=(pI h).2
theorem yI {t0:Type} {t1:Type} {t2:Type} {t3:Type} {t4:Type} {x0 y0:t0} {x1 y1:t1} {x2 y2:t2} {x3 y3:t3} {x4 y4:t4} (h:(x0,x1,x2,x3,x4)=(y0,y1,y2,y3,y4)):x4=y4:=(pI (pI (pI (pI h).2).2).2).2
theorem vE {t0:Type} {t1:Type} {t2:Type} {t3:Type} {t4:Type} {t5:Type} {t6:Type} {t7:Type} {t8:Type} {t9:Type} {t10:Type} {t11:Type} {t12:Type} {t13:Type} {t14:Type} {t15:Type} {t16:Type} {x0 y0:t0} {x1 y1:t1} {x2 y2:t2} {x3 y3:t3} {x4 y4:t4} {x5 y5:t5} {x6 y6:t6} {x7 y7:t7} {x8 y8:t8} {x9 y9:t9} {x10 y10:t10} {x11 y11:t11} {x12 y12:t12} {x13 y13:t13} {x14 y14:t14} {x15 y15:t15} {x16 y16:t16} (h:(x0,x1,x2,x3,x4,x5,x6,x7,x8,x9,x10,x11,x12,x13,x14,x15,x16)=(y0,y1,y2,y3,y4,y5,y6,y7,y8,y9,y10,y11,y12,y13,y14,y15,y16)):x16=y16:=(pI (pI (pI (pI (pI (pI (pI (pI (pI (pI (pI (pI (pI (pI (pI (pI h).2).2).2).2).2).2).2).2).2).2).2).2).2).2).2).2
abbrev v7 (s o i j:Nat) (r:Tree):Tree:=.bind (.elem s false 1 o) [.v i,.v j] r
abbrev vB (op:BinOp) (a b x y:Nat) (r:Tree):Tree:=.bind (.bin op 3 (.tmp a) (.tmp b)) [.v x,.v y] r
abbrev qF (op:BinOp) (a:Nat) (k:Int) (x:Nat) (r:Tree):Tree:=.bind (.bin op 3 (.tmp a) (K' k)) [.v x,k' k] r
abbrev gW (n i : Nat) (r : Tree) : Tree := .bind (.chk true n) [.v i] r
abbrev qSr (i : Nat) (r : Tree) : Tree := .bind (.chk false 1) [.v i] r
abbrev qAX (n i : Nat) (r : Tree) : Tree := .bind (.ext n) [.v i] r
abbrev vT (f : Nat) (l : List SV) (k : Nat) (r : Tree) : Tree := .call (.fn f) l k r
abbrev qB (i:Nat) (a b:Tree):Tree:=.ite (.v i) a b
abbrev aM (b:Bool):Tree:=.ret [.c (.bool b)]
abbrev qG (n:Int):Tree:=.ret [k' n]
def JJ (fn:Func) (n:Nat) (P:Nat->Pat):Nat->St->Tree:=fun k S=>g9 (Nat.max fn.ntmps n) (P k) k S
noncomputable def rtQ (fn:Func) (n:Nat) (P:Nat->Pat):Tree:=qC9 EE (JJ fn n P) fn n
noncomputable def hd (fn:Func) (n:Nat) (P:Nat->Pat):List (Nat × Tree):=jW EE (fun k=>(P k).st (Nat.max fn.ntmps n)) (JJ fn n P) 1 (rA fn) (eJ EE fn.results.toList)
def nr (fn : Func) : Bool := fn.name == "runtime.NumGoroutine" || !zO (rA fn)
theorem hu {f:FuncId} {fn:Func} (h1:Tryz.prog.funcs[f]? = some fn) {Ts:Nat->Tree} {P:Nat->Pat} {n:Nat} {l:List (Nat × Tree)} (h2:fn.body=some (rA fn)) (h3:rtQ fn n P=Ts 0) (h4:hd fn n P=l) (h5:nr fn=false) (h6:∀ x∈l,Ts x.1=x.2) {ds:List D} {d:D} (hn:ds.length=n) (h:qH EE (Holds EE) Ts 0 ds d) (hlt:f < qAZ:=by decide):Holds EE f ds d :=
 qDJ he (sM h1 h2 h5) h2 hn h3 (by rw [show jW EE (fun k=>(P k).st (Nat.max fn.ntmps n)) (fun k S=>g9 (Nat.max fn.ntmps n) (P k) k S) 1 (rA fn) (eJ EE fn.results.toList)=l from h4]; exact h6) h hlt
theorem hv {f : FuncId} {fn : Func} (h1 : Tryz.prog.funcs[f]? = some fn) {Ts : Nat -> Tree} {P : Nat -> Pat} {n : Nat} {l : List (Nat × Tree)} {ρ : Type} {r r' : ρ} (h2 : fn.body = some (rA fn)) (h3 : (rtQ fn n P, hd fn n P, nr fn, r) = (Ts 0, l, false, r')) (h6 : ∀ x ∈ l, Ts x.1 = x.2) {ds : List D} {d : D} (hn : ds.length = n) (h : qH EE (Holds EE) Ts 0 ds d) (hlt : f < qAZ := by decide) : Holds EE f ds d :=
 hu h1 h2 (pI h3).1 (pI (pI h3).2).1 (pI (pI (pI h3).2).2).1 h6 hn h hlt
end Go.Proofs.YthhlmoidofecpaaGreat
namespace Go.Proofs.YthhlmoidofecpaaGreat
open Go Go.Am Go.Proofs Go.Am.Tt
abbrev BG:Nat:=300000000
def sC (n:Int):Ms:=(.z,.z,n)
def cC (i:Nat):Ms:=(.z,.aT [i],300000001)
def aA (i:Nat):Pt:=.aT [i]
def n0:Sn:=(.sl 75 8 BG (.st [(.int .i64),(.sl 3 1 1048576 (.int .i64)),(.int .i64),(.sl 34 1 1048576 (.sl 3 1 1048576 (.int .i64))),(.int .i64),(.sl 70 2 1048576 (.st [(.str BG),(.str BG)])),(.sl 152 2 1048576 (.st [(.int .i64),(.int .i64)])),(.sl 24 2 1048576 (.st [(.int .i64),(.int .i64)]))]))
def n1:Sn:=(.sl 34 1 BG (.sl 3 1 1048576 (.int .i64)))
def n2:Sn:=(.sl 3 1 BG (.int .i64))
def n3:Sn:=(.st [(.sl 64 2 BG (.st [(.str BG),(.int .i64)]))])
def n4:Sn:=(.st [(.str BG),(.sl 66 2 BG (.st [(.str BG),(.sl 3 1 BG (.int .i64))])),(.sl 145 1 BG (.sl 9 1 BG (.str BG)))])
def n5:Sn:=(.st [(.str BG),(.sl 3 1 BG (.int .i64))])
def n6:Sn:=(.sl 9 1 BG (.str BG))
def n7:Sn:=(.st [(.sl 3 1 BG (.int .i64)),(.sl 3 1 BG (.int .i64)),(.sl 285 2 BG (.st [(.int .i64),(.int .i64)])),(.sl 285 2 BG (.st [(.int .i64),(.int .i64)])),.bool,.bool])
def n8:Sn:=(.st [(.sl 64 2 BG (.st [(.str BG),(.int .i64)])),(.str BG),(.sl 66 2 BG (.st [(.str BG),(.sl 3 1 1048576 (.int .i64))])),(.sl 145 1 BG (.sl 9 1 1048576 (.str BG))),(.sl 105 6 BG (.st [(.sl 3 1 1048576 (.int .i64)),(.sl 3 1 1048576 (.int .i64)),(.sl 285 2 1048576 (.st [(.int .i64),(.int .i64)])),(.sl 285 2 1048576 (.st [(.int .i64),(.int .i64)])),.bool,.bool])),(.int .i64),(.sl 68 3 BG (.st [(.int .i64),(.int .i64),(.int .i64)])),(.sl 3 1 BG (.int .i64)),(.sl 75 8 BG (.st [(.int .i64),(.sl 3 1 1048576 (.int .i64)),(.int .i64),(.sl 34 1 1048576 (.sl 3 1 1048576 (.int .i64))),(.int .i64),(.sl 70 2 1048576 (.st [(.str BG),(.str BG)])),(.sl 152 2 1048576 (.st [(.int .i64),(.int .i64)])),(.sl 24 2 1048576 (.st [(.int .i64),(.int .i64)]))]))])
def n9:Sn:=(.st [(.int .i64),(.sl 68 3 BG (.st [(.int .i64),(.int .i64),(.int .i64)])),(.sl 3 1 BG (.int .i64))])
def qVm:Sn:=(.st [(.int .i64),(.int .i64),(.int .i64)])
def qJJ:Sn:=(.st [(.int .i64),(.sl 3 1 BG (.int .i64)),(.int .i64),(.sl 34 1 BG (.sl 3 1 1048576 (.int .i64))),(.int .i64),(.sl 70 2 BG (.st [(.str BG),(.str BG)])),(.sl 152 2 BG (.st [(.int .i64),(.int .i64)])),(.sl 24 2 BG (.st [(.int .i64),(.int .i64)]))])
def qTo:Sn:=(.sl 70 2 BG (.st [(.str BG),(.str BG)]))
def qVl:Sn:=(.st [(.str BG),(.str BG)])
def qLc:Sn:=(.st [(.int .i64),(.int .i64)])
def qUo:Sn:=(.sl 24 2 BG (.st [(.int .i64),(.int .i64)]))
def qUn:Sn:=(.sl 75 8 BG (.st [(.int .i64),(.sl 3 1 BG (.int .i64)),(.int .i64),(.sl 34 1 BG (.sl 3 1 BG (.int .i64))),(.int .i64),(.sl 70 2 BG (.st [(.str BG),(.str BG)])),(.sl 152 2 BG (.st [(.int .i64),(.int .i64)])),(.sl 24 2 BG (.st [(.int .i64),(.int .i64)]))]))
def qRT:Sn:=(.sl 58 4 BG (.st [(.str BG),(.int .i64),(.int .i64),(.int .i64)]))
def qUm:Sn:=(.st [(.str BG),(.int .i64),(.int .i64),(.int .i64)])
def qIq:Sn:=(.st [(.int .i64),(.str BG),(.int .i64),(.int .i64),(.sl 3 1 BG (.int .i64)),(.sl 58 4 BG (.st [(.str BG),(.int .i64),(.int .i64),(.int .i64)])),(.sl 62 7 BG (.st [(.int .i64),(.int .i64),(.int .i64),(.int .i64),(.int .i64),(.int .i64),(.str BG)]))])
def n20:Sn:=(.st [(.int .i64),(.int .i64),(.int .i64),(.int .i64),(.int .i64),(.int .i64),(.str BG)])
def qLb:Sn:=(.sl 62 7 BG (.st [(.int .i64),(.int .i64),(.int .i64),(.int .i64),(.int .i64),(.int .i64),(.str BG)]))
def qQA:Sn:=(.sl 60 2 BG (.st [(.int .i64),(.int .i64)]))
def qTf:List (Nat × Sn):=[(5,(.int .u8)),(3,(.int .i64)),(62,n20),(60,qLc)]
def qSm:List (TypeId × TypeId × IntKind × IntKind):=[(3,5,.i64,.u8)]
def qRK:List (Bool × TypeId × Int):=[(false,3,64),(true,3,64),(false,3,4096),(false,3,262144)]
def qRB:List (Nat × (Nat × List Sn)):=[(68,(4,[(.int .i64),(.int .i64),(.int .i64)])),(152,(4,[(.int .i64),(.int .i64)])),(60,(4,[(.int .i64),(.int .i64)]))]
theorem qFF:∀ x∈qSm,qQx EE x:=iG (fun m=>⟨IntKind.u8.wrap m,by kernel_rfl⟩) <| qIk
theorem qE3:∀ x∈qRK,qQs EE x:=iG (fun m _ _=>⟨IntKind.i64.wrap (m.tdiv 64),by kernel_rfl⟩) <| iG (fun m _ _=>⟨m.tmod 64,by kernel_rfl⟩) <| iG (fun m _ _=>⟨IntKind.i64.wrap (m.tdiv 4096),by kernel_rfl⟩) <| iG (fun m _ _=>⟨IntKind.i64.wrap (m.tdiv 262144),by kernel_rfl⟩) <| qIk
theorem qEW:∀ x∈qRB,qKX EE x:=iG (qBY (by kernel_rfl)) <| iG (qBY (by kernel_rfl)) <| iG (qBY (by kernel_rfl)) <| qIk
def TT:Tb:=qOZ qTf qSm qRK qRB
theorem qED:TbOk EE TT:=qOq qFF qE3 qEW
/- langdoc/langdocref29.small -/
def qV8:En:=⟨23,[(1,⟨[⟨.pure,false⟩,⟨.pure,true⟩],[(0,.v 0),(3,.v 1)],[],[]⟩),(2,⟨[⟨.pure,false⟩,⟨.pure,true⟩,⟨.pure,true⟩,⟨.pure,true⟩,⟨.pure,true⟩],[(0,.v 0),(3,.v 1),(4,.v 2),(22,.v 0),(23,.v 1),(26,.v 3),(27,.v 4),(28,.c (.bool false))],[],[]⟩)],⟨[n0],[.bool],[],[]⟩,[(1,⟨[n0,(.int .i64)],[(aA 1,aA 0,0),(aA 0,aA 1,0),(aA 1,.z,299999998),(.z,aA 2,0)],[sC 999,cC 2,sC 1001,sC 0,sC 0]⟩),(2,⟨[n0,(.int .i64),(.int .i64),n1,(.int .i64)],[(aA 1,aA 0,0),(aA 0,aA 1,0),(aA 1,.z,299999998),(aA 2,aA 0,-1),(.z,aA 2,0),(.z,aA 3,0)],[sC 999,cC 2,sC 998,cC 3,sC 1001]⟩)],[sC 1001,sC 0,sC 0,sC 0,sC 0]⟩
/- langdoc/langdocref02.Scalar -/
def qSk:En:=⟨151,[],⟨[(.int .i64)],[.bool],[],[]⟩,[],[sC 1001]⟩
/- langdoc/langdocref02.encoded -/
def qSj:En:=⟨152,[],⟨[(.int .i64)],[(.str BG)],[],[]⟩,[],[sC 1001]⟩
/- langdoc/langdocref02.Points -/
def qTZ:En:=⟨107,[(1,⟨[⟨.pure,false⟩,⟨.fresh,true⟩,⟨.pure,true⟩],[(0,.v 0),(4,.v 1),(5,.v 2)],[],[]⟩)],⟨[(.str BG)],[n2,.bool],[],[]⟩,[(1,⟨[(.str BG),n2,(.int .i64)],[(aA 2,aA 3,0)],[sC 999,cC 3,sC 1001]⟩)],[sC 1001,sC 0,sC 0]⟩
/- langdoc/langdocref10.Label -/
def qVV:En:=⟨64,[(1,⟨[⟨.pure,false⟩,⟨.pure,true⟩],[(0,.v 0),(3,.v 1)],[],[]⟩)],⟨[(.str BG)],[.bool],[],[]⟩,[(1,⟨[(.str BG),(.int .i64)],[(.z,aA 2,0)],[sC 999,cC 2,sC 1001]⟩)],[sC 1001,sC 0,sC 0]⟩
/- langdoc/langdocref16.Check -/
def qV4:En:=⟨41,[(1,⟨[⟨.pure,true⟩,⟨.pure,true⟩,⟨.pure,false⟩],[(1,.loc 0 0),(11,.v 0),(12,.v 1)],[some (.whole (.v 2) 1)],[]⟩),(2,⟨[⟨.pure,true⟩,⟨.pure,true⟩,⟨.pure,true⟩,⟨.pure,false⟩],[(1,.loc 0 0),(3,.v 0),(4,.v 1),(11,.v 2),(12,.v 0)],[some (.whole (.v 3) 1)],[]⟩)],⟨[n3],[(.int .i64)],[],[]⟩,[(1,⟨[(.int .i64),(.int .i64),n3],[(.aT [3,0],aA 1,0),(aA 1,.aT [0,0],0),(aA 1,.z,64),(.z,aA 2,0),(.aT [0,0],.aT [3,0],0)],[sC 999,cC 2,sC 1001,sC 0,sC 0]⟩),(2,⟨[(.int .i64),(.int .i64),(.int .i64),n3],[(aA 2,aA 1,0),(.z,aA 2,0),(aA 1,aA 3,-1),(aA 3,.aT [0,0],0),(.aT [0,0],aA 3,0),(aA 3,.z,64),(.aT [0,0],.aT [4,0],0),(.aT [4,0],.aT [0,0],0)],[sC 999,cC 1,sC 998,cC 2,sC 1001]⟩)],[sC 1001,sC 0,sC 0,sC 0,sC 0]⟩
/- langdoc/langdocref10.Name -/
def qTG:En:=⟨65,[(1,⟨[⟨.pure,false⟩,⟨.pure,true⟩],[(0,.v 0),(3,.v 1)],[],[]⟩)],⟨[(.str BG)],[.bool],[],[]⟩,[(1,⟨[(.str BG),(.int .i64)],[(.z,aA 2,0)],[sC 999,cC 2,sC 1001]⟩)],[sC 1001,sC 0,sC 0]⟩
/- langdoc/langdocref17.label -/
def qUG:En:=⟨67,[(1,⟨[⟨.pure,false⟩,⟨.pure,true⟩],[(0,.v 0),(3,.v 1)],[],[]⟩)],⟨[(.str BG)],[.bool],[],[]⟩,[(1,⟨[(.str BG),(.int .i64)],[(.z,aA 2,0)],[sC 999,cC 2,sC 1001]⟩)],[sC 1001,sC 0,sC 0]⟩
/- langdoc/langdocref17.unit -/
def qUH:En:=⟨66,[(1,⟨[⟨.pure,false⟩,⟨.pure,true⟩,⟨.pure,false⟩,⟨.pure,false⟩,⟨.pure,false⟩],[(2,.v 0),(3,.loc 0 0),(4,.loc 1 0),(7,.loc 2 0),(8,.v 1)],[some (.whole (.v 2) 1),some (.whole (.v 3) 3),some (.whole (.v 4) 2)],[]⟩),(2,⟨[⟨.pure,true⟩,⟨.pure,false⟩,⟨.pure,false⟩],[(3,.loc 0 0),(7,.loc 2 0),(9,.v 0)],[some (.whole (.v 1) 1),none,some (.whole (.v 2) 2)],[]⟩)],⟨[n3,n4,(.int .i64)],[(.int .i64)],[(.z,aA 2,0),(aA 2,.aT [1,1],-1)],[]⟩,[(1,⟨[(.int .i64),(.int .i64),n3,n4,n5],[(aA 3,.aT [6,1],-1),(aA 3,aA 2,0),(.z,aA 4,0)],[sC 999,cC 4,sC 1001]⟩),(2,⟨[(.int .i64),n3,n5],[(.z,aA 3,0)],[sC 998,cC 3,sC 1001]⟩)],[sC 1001,sC 0,sC 0]⟩
/- langdoc/langdocref17.has -/
def qUF:En:=⟨68,[(1,⟨[⟨.pure,false⟩,⟨.pure,false⟩,⟨.pure,true⟩],[(0,.v 0),(1,.v 1),(5,.v 2)],[],[]⟩)],⟨[n6,(.str BG)],[.bool],[],[]⟩,[(1,⟨[n6,(.str BG),(.int .i64)],[(aA 2,aA 0,0),(.z,aA 4,0)],[sC 999,cC 4,sC 1001]⟩)],[sC 1001,sC 0,sC 0]⟩
/- langdoc/langdocref16.Is -/
def qTY:En:=⟨108,[],⟨[n3,(.int .i64)],[.bool],[],[]⟩,[],[sC 1001]⟩
/- langdoc/langdocref01.Sorted -/
def qTX:En:=⟨109,[(1,⟨[⟨.pure,false⟩,⟨.pure,false⟩,⟨.pure,true⟩,⟨.pure,true⟩],[(0,.v 0),(3,.v 1),(6,.v 2),(7,.v 3)],[],[]⟩)],⟨[n2],[n2],[],[]⟩,[(1,⟨[n2,n2,(.int .i64),(.int .i64)],[(aA 3,aA 1,0),(aA 2,aA 4,0)],[sC 999,cC 4,sC 1001]⟩)],[sC 1001,sC 0,sC 0]⟩
/- langdoc/langdocref22.Check -/
def qVU:En:=⟨69,[(1,⟨[⟨.pure,true⟩,⟨.pure,true⟩,⟨.pure,false⟩,⟨.pure,false⟩],[(2,.loc 0 0),(3,.loc 1 0),(21,.v 0),(22,.v 1)],[some (.whole (.v 2) 1),some (.whole (.v 3) 6)],[]⟩)],⟨[n3,n7],[(.int .i64)],[],[]⟩,[(1,⟨[(.int .i64),(.int .i64),n3,n7],[(aA 2,.aT [1,0],0),(aA 2,.aT [1,1],0),(.z,aA 3,0),(.aT [1,0],.aT [5,0],0),(.aT [1,1],.aT [5,1],0)],[sC 999,cC 3,sC 1001]⟩)],[sC 1001,sC 0,sC 0]⟩
/- langdoc/langdocref29.rules -/
def qV3:En:=⟨43,[(1,⟨[⟨.pure,true⟩,⟨.pure,false⟩],[(1,.loc 0 0),(3,.v 0)],[some (.whole (.v 1) 9)],[]⟩)],⟨[n8],[(.int .i64)],[],[]⟩,[(1,⟨[(.int .i64),n8],[(.z,aA 1,0)],[sC 999,cC 1,sC 1001]⟩)],[sC 1001,sC 0,sC 0]⟩
/- langdoc/langdocref23.state -/
def qVT:En:=⟨70,[],⟨[n9,(.int .i64)],[.bool],[],[]⟩,[],[sC 1001]⟩
/- langdoc/langdocref23.Check -/
def qV2:En:=⟨44,[(1,⟨[⟨.pure,true⟩,⟨.pure,false⟩],[(1,.loc 0 0),(3,.v 0)],[some (.whole (.v 1) 3)],[]⟩),(2,⟨[⟨.pure,true⟩,⟨.pure,true⟩,⟨.pure,false⟩,⟨.pure,true⟩,⟨.pure,true⟩,⟨.pure,true⟩,⟨.pure,false⟩],[(1,.loc 0 0),(3,.v 0),(4,.loc 1 0),(5,.v 1),(38,.v 2),(39,.loc 1 2),(40,.v 3),(41,.v 4),(42,.c (.bool false)),(48,.loc 1 1),(49,.v 5),(50,.c (.bool false))],[some (.whole (.v 2) 3),some (.whole (.v 6) 3)],[]⟩),(3,⟨[⟨.pure,true⟩,⟨.pure,false⟩],[(1,.loc 0 0),(6,.v 0)],[some (.whole (.v 1) 3)],[]⟩),(4,⟨[⟨.pure,true⟩,⟨.pure,false⟩],[(1,.loc 0 0),(7,.v 0)],[some (.whole (.v 1) 3)],[]⟩)],⟨[n9],[(.int .i64)],[],[]⟩,[(1,⟨[(.int .i64),n9],[(.z,aA 1,0),(.aT [0,0],.aT [2,0],0),(.aT [2,0],.aT [0,0],0),(.aT [0,1],.aT [2,1],0),(.aT [2,1],.aT [0,1],0),(.aT [0,2],.aT [2,2],0),(.aT [2,2],.aT [0,2],0)],[sC 999,cC 1,sC 1001,sC 0,sC 0]⟩),(3,⟨[(.int .i64),n9],[(.z,aA 1,-1)],[sC 997,cC 1,sC 1001,sC 0,sC 0]⟩),(4,⟨[(.int .i64),n9],[(.z,aA 1,0)],[sC 996,cC 1,sC 1001,sC 0,sC 0]⟩),(2,⟨[(.int .i64),(.int .i64),n9,(.int .i64),.bool,(.int .i64),qVm],[(aA 1,.aT [0,1],-1),(.z,aA 1,0),(.z,aA 2,0),(.aT [0,0],.aT [3,0],0),(.aT [3,0],.aT [0,0],0),(.aT [0,1],.aT [3,1],0),(.aT [3,1],.aT [0,1],0),(.aT [0,2],.aT [3,2],0),(.aT [3,2],.aT [0,2],0)],[sC 999,cC 1,sC 998,cC 2,sC 1001]⟩)],[sC 1001,sC 0,sC 0,sC 0,sC 0]⟩
/- langdoc/langdocref10.Identifier -/
def qV6:En:=⟨25,[],⟨[(.int .i64)],[.bool],[],[]⟩,[],[sC 1001]⟩
/- langdoc/langdocref16.Word -/
def qTN:En:=⟨136,[(1,⟨[⟨.pure,false⟩,⟨.pure,true⟩,⟨.pure,true⟩,⟨.pure,false⟩],[(1,.v 0),(2,.loc 0 0),(13,.v 1),(14,.v 2)],[some (.whole (.v 3) 1)],[]⟩)],⟨[n3,n2],[(.int .i64)],[],[]⟩,[(1,⟨[n2,(.int .i64),(.int .i64),n3],[(aA 3,aA 2,0),(aA 3,aA 1,0),(.z,aA 4,0)],[sC 999,cC 4,sC 1001]⟩)],[sC 1001,sC 0,sC 0]⟩
/- langdoc/langdocref01.Same -/
def qTM:En:=⟨137,[(1,⟨[⟨.pure,false⟩,⟨.pure,false⟩,⟨.pure,true⟩,⟨.pure,true⟩],[(0,.v 0),(1,.v 1),(12,.v 2),(13,.v 3)],[],[]⟩)],⟨[n2,n2],[.bool],[],[]⟩,[(1,⟨[n2,n2,(.int .i64),(.int .i64)],[(aA 4,aA 2,0),(aA 4,aA 3,0),(.z,aA 5,0)],[sC 999,cC 5,sC 1001]⟩)],[sC 1001,sC 0,sC 0]⟩
/- langdoc/langdocref24.words -/
def qTW:En:=⟨110,[(1,⟨[⟨.pure,true⟩,⟨.pure,false⟩,⟨.pure,false⟩],[(2,.loc 0 0),(3,.loc 1 0),(6,.v 0)],[some (.whole (.v 1) 1),some (.whole (.v 2) 8)],[]⟩),(2,⟨[⟨.pure,true⟩,⟨.pure,true⟩,⟨.pure,false⟩,⟨.pure,false⟩],[(2,.loc 0 0),(3,.loc 1 0),(6,.v 0),(8,.v 1)],[some (.whole (.v 2) 1),some (.whole (.v 3) 8)],[]⟩)],⟨[n3,qJJ],[(.int .i64)],[],[]⟩,[(1,⟨[(.int .i64),n3,qJJ],[(.z,aA 2,0),(.aT [0,0],.aT [3,0],0),(.aT [3,0],.aT [0,0],0),(.aT [1,0],.aT [4,0],0),(.aT [4,0],.aT [1,0],0),(.aT [1,1],.aT [4,1],0),(.aT [4,1],.aT [1,1],0),(.aT [1,2],.aT [4,2],0),(.aT [4,2],.aT [1,2],0),(.aT [1,3],.aT [4,3],0),(.aT [4,3],.aT [1,3],0),(.aT [1,4],.aT [4,4],0),(.aT [4,4],.aT [1,4],0),(.aT [1,5],.aT [4,5],0),(.aT [4,5],.aT [1,5],0),(.aT [1,6],.aT [4,6],0),(.aT [4,6],.aT [1,6],0),(.aT [1,7],.aT [4,7],0),(.aT [4,7],.aT [1,7],0)],[sC 999,cC 2,sC 1001,sC 0,sC 0]⟩),(2,⟨[(.int .i64),(.int .i64),n3,qJJ],[(aA 2,.aT [1,3],-1),(.z,aA 2,0),(.z,aA 3,0),(.aT [0,0],.aT [4,0],0),(.aT [4,0],.aT [0,0],0),(.aT [1,0],.aT [5,0],0),(.aT [5,0],.aT [1,0],0),(.aT [1,1],.aT [5,1],0),(.aT [5,1],.aT [1,1],0),(.aT [1,2],.aT [5,2],0),(.aT [5,2],.aT [1,2],0),(.aT [1,3],.aT [5,3],0),(.aT [5,3],.aT [1,3],0),(.aT [1,4],.aT [5,4],0),(.aT [5,4],.aT [1,4],0),(.aT [1,5],.aT [5,5],0),(.aT [5,5],.aT [1,5],0),(.aT [1,6],.aT [5,6],0),(.aT [5,6],.aT [1,6],0),(.aT [1,7],.aT [5,7],0),(.aT [5,7],.aT [1,7],0)],[sC 999,cC 2,sC 998,cC 3,sC 1001]⟩)],[sC 1001,sC 0,sC 0,sC 0,sC 0]⟩
/- langdoc/langdocref24.Gloss -/
def qTI:En:=⟨153,[(1,⟨[⟨.pure,false⟩,⟨.pure,true⟩],[(0,.v 0),(3,.v 1)],[],[]⟩)],⟨[(.str BG)],[.bool],[],[]⟩,[(1,⟨[(.str BG),(.int .i64)],[(.z,aA 2,0)],[sC 999,cC 2,sC 1001]⟩)],[sC 1001,sC 0,sC 0]⟩
/- langdoc/langdocref12.Text -/
def qUC:En:=⟨82,[(1,⟨[⟨.pure,false⟩,⟨.pure,true⟩],[(3,.v 0),(5,.v 1)],[],[]⟩)],⟨[(.str BG)],[(.int .i64)],[],[]⟩,[(1,⟨[n2,(.int .i64)],[(.z,aA 2,0)],[sC 999,cC 2,sC 1001]⟩)],[sC 1001,sC 0,sC 0]⟩
/- langdoc/langdocref24.has -/
def qTH:En:=⟨154,[(1,⟨[⟨.pure,false⟩,⟨.pure,false⟩,⟨.pure,true⟩],[(0,.v 0),(1,.v 1),(5,.v 2)],[],[]⟩)],⟨[qTo,(.str BG)],[.bool],[],[]⟩,[(1,⟨[qTo,(.str BG),(.int .i64)],[(aA 2,aA 0,0),(.z,aA 4,0)],[sC 999,cC 4,sC 1001]⟩)],[sC 1001,sC 0,sC 0]⟩
/- langdoc/langdocref24.sense -/
def qTL:En:=⟨138,[],⟨[qTo,qVl],[(.int .i64)],[],[]⟩,[],[sC 1001]⟩
/- langdoc/langdocref24.senses -/
def qTV:En:=⟨111,[(1,⟨[⟨.pure,true⟩,⟨.pure,false⟩],[(1,.loc 0 0),(3,.v 0)],[some (.whole (.v 1) 8)],[]⟩)],⟨[qJJ],[(.int .i64)],[],[]⟩,[(1,⟨[(.int .i64),qJJ],[(.z,aA 1,0)],[sC 999,cC 1,sC 1001]⟩)],[sC 1001,sC 0,sC 0]⟩
/- langdoc/langdocref24.links -/
def qTU:En:=⟨112,[(1,⟨[⟨.pure,true⟩,⟨.pure,false⟩],[(1,.loc 0 0),(3,.v 0)],[some (.whole (.v 1) 8)],[]⟩)],⟨[qJJ],[(.int .i64)],[],[]⟩,[(1,⟨[(.int .i64),qJJ],[(.z,aA 1,0)],[sC 999,cC 1,sC 1001]⟩)],[sC 1001,sC 0,sC 0]⟩
/- langdoc/langdocref24.Ref -/
def qTK:En:=⟨139,[],⟨[qLc],[.bool],[],[]⟩,[],[sC 1001]⟩
/- langdoc/langdocref24.Precedes -/
def qTJ:En:=⟨140,[],⟨[qLc,qLc],[.bool],[],[]⟩,[],[sC 1001]⟩
/- langdoc/langdocref24.Refs -/
def qTT:En:=⟨113,[(1,⟨[⟨.pure,false⟩,⟨.pure,true⟩],[(0,.v 0),(5,.v 1)],[],[]⟩)],⟨[qUo,(.int .i64)],[(.int .i64)],[],[]⟩,[(1,⟨[qUo,(.int .i64)],[(.z,aA 3,0)],[sC 999,cC 3,sC 1001]⟩)],[sC 1001,sC 0,sC 0]⟩
/- langdoc/langdocref24.Check -/
def qVS:En:=⟨71,[],⟨[n3,qJJ],[(.int .i64)],[],[]⟩,[],[sC 1001]⟩
/- langdoc/langdocref25.Get -/
def qTS:En:=⟨114,[(1,⟨[⟨.pure,false⟩,⟨.pure,false⟩,⟨.pure,true⟩,⟨.pure,true⟩],[(0,.v 0),(1,.v 1),(4,.loc 0 0),(8,.v 2),(9,.v 3)],[some (.cells [.c (.int .i64 0),.c (.slice none 0 0),.c (.int .i64 0),.c (.slice none 0 0),.c (.int .i64 0),.c (.slice none 0 0),.c (.slice none 0 0),.c (.slice none 0 0)])],[]⟩)],⟨[n0,(.int .i64)],[qJJ,.bool],[],[]⟩,[(1,⟨[n0,(.int .i64),(.int .i64),(.int .i64)],[(aA 4,aA 2,0),(.z,aA 5,0)],[sC 999,cC 5,sC 1001]⟩)],[sC 1001,sC 0,sC 0]⟩
/- langdoc/langdocref25.has -/
def qVR:En:=⟨72,[],⟨[n0,(.int .i64)],[.bool],[],[]⟩,[],[sC 1001]⟩
/- langdoc/langdocref25.Check -/
def qV1:En:=⟨45,[(1,⟨[⟨.pure,false⟩,⟨.pure,true⟩,⟨.pure,true⟩,⟨.pure,false⟩],[(1,.v 0),(2,.loc 0 0),(13,.v 1),(14,.v 2)],[some (.whole (.v 3) 1)],[]⟩),(2,⟨[⟨.pure,false⟩,⟨.pure,true⟩,⟨.pure,true⟩],[(1,.v 0),(44,.v 1),(45,.v 2)],[],[]⟩),(3,⟨[⟨.pure,false⟩,⟨.pure,true⟩,⟨.pure,true⟩,⟨.pure,false⟩,⟨.pure,false⟩,⟨.pure,false⟩,⟨.pure,false⟩,⟨.pure,false⟩,⟨.pure,true⟩,⟨.pure,true⟩],[(1,.v 0),(7,.v 1),(44,.v 2),(45,.v 1),(55,.v 3),(56,.v 3),(57,.v 4),(60,.v 5),(61,.v 6),(62,.v 7),(69,.v 8),(70,.v 9)],[],[]⟩)],⟨[n3,n0],[(.int .i64)],[],[]⟩,[(1,⟨[n0,(.int .i64),(.int .i64),n3],[(aA 2,aA 1,0),(aA 1,aA 2,0),(aA 2,.z,299999998),(aA 3,aA 2,0),(.z,aA 4,0)],[sC 999,cC 4,sC 1001,sC 0,sC 0]⟩),(2,⟨[n0,(.int .i64),(.int .i64)],[(aA 2,aA 3,0),(aA 2,aA 1,0),(aA 1,aA 2,0),(aA 2,.z,299999998),(aA 3,aA 2,0),(.z,aA 4,0)],[sC 998,cC 4,sC 1001,sC 0,sC 0]⟩),(3,⟨[n0,(.int .i64),(.int .i64),.any,.any,.any,.any,.any,(.int .i64),(.int .i64)],[(aA 2,.z,299999998),(.z,aA 3,0),(aA 4,aA 2,0),(aA 2,aA 4,0),(aA 3,aA 4,-1),(aA 4,aA 1,0),(aA 1,aA 4,0),(.z,aA 11,0),(aA 10,.el [2] [3] 6,0)],[sC 998,cC 3,sC 997,cC 11,sC 1001]⟩)],[sC 1001,sC 0,sC 0,sC 0,sC 0]⟩
/- langdoc/langdocref26.Inverse -/
def qVQ:En:=⟨73,[],⟨[(.int .i64)],[(.int .i64)],[],[]⟩,[],[sC 1001]⟩
/- langdoc/langdocref26.find -/
def qUE:En:=⟨74,[(1,⟨[⟨.pure,false⟩,⟨.pure,false⟩,⟨.pure,true⟩],[(0,.v 0),(1,.v 1),(5,.v 2)],[],[]⟩)],⟨[qUn,(.int .i64)],[(.int .i64)],[],[(.z,aA 2,1),(aA 2,aA 0,-1)]⟩,[(1,⟨[qUn,(.int .i64),(.int .i64)],[(aA 2,aA 0,0),(.z,aA 4,0)],[sC 999,cC 4,sC 1001]⟩)],[sC 1001,sC 0,sC 0]⟩
/- langdoc/langdocref26.has -/
def qVP:En:=⟨75,[(1,⟨[⟨.pure,true⟩,⟨.pure,false⟩,⟨.pure,false⟩],[(2,.loc 0 0),(3,.loc 1 0),(5,.v 0)],[some (.whole (.v 1) 8),some (.whole (.v 2) 2)],[]⟩)],⟨[qJJ,qLc],[.bool],[],[]⟩,[(1,⟨[(.int .i64),qJJ,qLc],[(.z,aA 2,0)],[sC 999,cC 2,sC 1001]⟩)],[sC 1001,sC 0,sC 0]⟩
/- langdoc/langdocref26.in -/
def qVO:En:=⟨76,[(1,⟨[⟨.pure,false⟩,⟨.pure,false⟩,⟨.pure,true⟩],[(0,.v 0),(1,.v 1),(5,.v 2)],[],[]⟩)],⟨[n2,(.int .i64)],[.bool],[],[]⟩,[(1,⟨[n2,(.int .i64),(.int .i64)],[(.z,aA 4,0)],[sC 999,cC 4,sC 1001]⟩)],[sC 1001,sC 0,sC 0]⟩
/- langdoc/langdocref26.Check -/
def qV0:En:=⟨46,[(1,⟨[⟨.pure,false⟩,⟨.pure,true⟩],[(0,.v 0),(3,.v 1)],[],[]⟩),(2,⟨[⟨.pure,false⟩,⟨.pure,true⟩,⟨.pure,true⟩],[(0,.v 0),(3,.v 1),(4,.v 2)],[],[]⟩),(3,⟨[⟨.pure,false⟩,⟨.pure,true⟩],[(0,.v 0),(7,.v 1)],[],[]⟩)],⟨[n0],[(.int .i64)],[],[]⟩,[(1,⟨[n0,(.int .i64)],[(aA 1,aA 0,0),(aA 0,aA 1,0),(.z,aA 2,0)],[sC 999,cC 2,sC 1001,sC 0,sC 0]⟩),(2,⟨[n0,(.int .i64),(.int .i64)],[(aA 2,aA 1,-1),(aA 1,aA 0,0),(aA 0,aA 1,0),(.z,aA 2,0),(.z,aA 3,0)],[sC 999,cC 2,sC 998,cC 3,sC 1001]⟩),(3,⟨[n0,(.int .i64)],[(.z,aA 2,0)],[sC 997,cC 2,sC 1001,sC 0,sC 0]⟩)],[sC 1001,sC 0,sC 0,sC 0,sC 0]⟩
/- langdoc/langdocref27.find -/
def qVN:En:=⟨78,[(1,⟨[⟨.pure,false⟩,⟨.pure,false⟩,⟨.pure,true⟩],[(0,.v 0),(1,.v 1),(5,.v 2)],[],[]⟩)],⟨[n0,(.int .i64)],[(.int .i64)],[],[(.z,aA 2,1),(aA 2,aA 0,-1)]⟩,[(1,⟨[n0,(.int .i64),(.int .i64)],[(aA 2,aA 0,0),(.z,aA 4,0)],[sC 999,cC 4,sC 1001]⟩)],[sC 1001,sC 0,sC 0]⟩
/- langdoc/langdocref27.way -/
def qVM:En:=⟨79,[(1,⟨[⟨.pure,false⟩,⟨.fresh,true⟩,⟨.pure,true⟩],[(0,.v 0),(5,.v 1),(6,.v 2)],[],[]⟩)],⟨[n0,(.int .i64)],[n2],[(aA 0,.z,299999999)],[]⟩,[(1,⟨[n0,n2,(.int .i64)],[(aA 4,aA 2,-1),(aA 2,aA 0,0)],[sC 999,cC 3,sC 1001]⟩)],[sC 1001,sC 0,sC 0]⟩
/- langdoc/langdocref27.Check -/
def qVZ:En:=⟨47,[(1,⟨[⟨.pure,false⟩,⟨.pure,true⟩],[(0,.v 0),(3,.v 1)],[],[]⟩),(2,⟨[⟨.pure,false⟩,⟨.pure,true⟩],[(0,.v 0),(4,.v 1)],[],[]⟩)],⟨[n0],[(.int .i64)],[(aA 0,.z,299999999)],[]⟩,[(1,⟨[n0,(.int .i64)],[(aA 1,aA 0,0),(.z,aA 2,0)],[sC 999,cC 2,sC 1001]⟩),(2,⟨[n0,(.int .i64)],[(aA 1,aA 0,0),(.z,aA 2,0)],[sC 998,cC 2,sC 1001]⟩)],[sC 1001,sC 0,sC 0]⟩
/- langdoc/langdocref29.Check -/
def qV7:En:=⟨24,[],⟨[n8],[(.int .i64)],[(.aT [0,8],.z,299999999)],[]⟩,[],[sC 1001]⟩
/- langdoc/langdocref29.Light -/
def qUI:En:=⟨12,[(1,⟨[⟨.pure,true⟩,⟨.pure,false⟩],[(1,.loc 0 0),(3,.v 0)],[some (.whole (.v 1) 9)],[]⟩)],⟨[n8],[.bool],[(.aT [0,8],.z,299999999)],[]⟩,[(1,⟨[(.int .i64),n8],[(.z,aA 1,0),(.aT [2,8],.aT [0,8],0)],[sC 999,cC 1,sC 1001]⟩)],[sC 1001,sC 0,sC 0]⟩
/- langdoc/langdocref11.timed -/
def qTR:En:=⟨115,[],⟨[(.int .i64)],[.bool],[],[]⟩,[],[sC 1001]⟩
/- langdoc/langdocref11.kind -/
def qTQ:En:=⟨116,[],⟨[(.int .i64)],[(.int .i64)],[],[]⟩,[],[sC 1001]⟩
/- langdoc/langdocref11.over -/
def qTP:En:=⟨117,[],⟨[(.int .i64)],[(.int .i64)],[],[]⟩,[],[sC 1001]⟩
/- langdoc/langdocref11.tier -/
def qUD:En:=⟨81,[(1,⟨[⟨.pure,false⟩,⟨.pure,false⟩,⟨.pure,true⟩,⟨.pure,false⟩],[(0,.v 0),(1,.v 1),(5,.loc 0 0),(6,.v 2)],[some (.whole (.v 3) 4)],[]⟩),(2,⟨[⟨.pure,false⟩,⟨.pure,false⟩,⟨.pure,true⟩,⟨.pure,false⟩],[(0,.v 0),(1,.v 1),(5,.loc 0 0),(7,.v 2)],[some (.whole (.v 3) 4)],[]⟩)],⟨[qRT,(.int .i64)],[(.int .i64)],[(.z,aA 1,0),(aA 1,aA 0,-1)],[]⟩,[(1,⟨[qRT,(.int .i64),(.int .i64),qUm],[(aA 3,aA 2,-1),(aA 3,aA 1,0),(.z,aA 4,0)],[sC 999,cC 4,sC 1001]⟩),(2,⟨[qRT,(.int .i64),(.int .i64),qUm],[(aA 3,aA 2,-1),(aA 3,aA 1,0),(.z,aA 4,0)],[sC 998,cC 4,sC 1001]⟩)],[sC 1001,sC 0,sC 0]⟩
/- langdoc/langdocref11.Check -/
def qSi:En:=⟨49,[(1,⟨[⟨.pure,false⟩,⟨.pure,true⟩],[(0,.v 0),(3,.v 1)],[],[]⟩)],⟨[qRT],[(.int .i64)],[],[]⟩,[(1,⟨[qRT,(.int .i64)],[(aA 1,aA 0,0),(.z,aA 2,0)],[sC 999,cC 2,sC 1001]⟩)],[sC 1001,sC 0,sC 0]⟩
/- langdoc/langdocref12.Get -/
def qV9:En:=⟨20,[(1,⟨[⟨.pure,false⟩,⟨.pure,true⟩,⟨.pure,false⟩],[(1,.v 0),(2,.loc 0 0),(4,.loc 1 0),(6,.v 1)],[some (.whole (.v 2) 7),some (.cells [.c (.int .i64 0),.c (.int .i64 0),.c (.int .i64 0),.c (.int .i64 0),.c (.int .i64 0),.c (.int .i64 0),.c (.string ⟨#[]⟩)])],[]⟩)],⟨[qIq,(.int .i64)],[n20,.bool],[],[]⟩,[(1,⟨[(.int .i64),(.int .i64),qIq],[(.z,aA 3,0)],[sC 999,cC 3,sC 1001]⟩)],[sC 1001,sC 0,sC 0]⟩
/- langdoc/langdocref12.aligned -/
def qVW:En:=⟨63,[],⟨[(.int .i64)],[.bool],[],[]⟩,[],[sC 1001]⟩
/- langdoc/langdocref09.Right -/
def qTO:En:=⟨118,[],⟨[qLc],[.bool],[],[]⟩,[],[sC 1001]⟩
/- langdoc/langdocref12.placed -/
def qVL:En:=⟨83,[],⟨[qIq,n20],[(.int .i64)],[(.z,.aT [1,1],0),(.aT [1,1],.aT [0,5],-1)],[]⟩,[],[sC 1001]⟩
/- langdoc/langdocref12.noteError -/
def qVY:En:=⟨50,[],⟨[qIq,(.int .i64)],[(.int .i64)],[(.z,aA 1,0),(aA 1,.aT [0,6],-1)],[]⟩,[],[sC 1001]⟩
/- langdoc/langdocref12.siblings -/
def qVK:En:=⟨84,[(1,⟨[⟨.pure,false⟩,⟨.pure,false⟩,⟨.fresh,true⟩,⟨.pure,true⟩,⟨.pure,false⟩],[(1,.v 0),(2,.v 1),(3,.loc 0 0),(7,.v 2),(8,.v 3)],[some (.whole (.v 4) 7)],[]⟩)],⟨[qIq,(.int .i64),(.int .i64)],[qLb],[],[]⟩,[(1,⟨[(.int .i64),(.int .i64),qLb,(.int .i64),qIq],[(aA 5,aA 6,0)],[sC 999,cC 6,sC 1001]⟩)],[sC 1001,sC 0,sC 0]⟩
/- langdoc/langdocref12.overlap -/
def qUB:En:=⟨85,[(1,⟨[⟨.pure,false⟩,⟨.pure,true⟩],[(0,.v 0),(3,.v 1)],[],[]⟩),(2,⟨[⟨.pure,false⟩,⟨.pure,true⟩,⟨.pure,true⟩],[(0,.v 0),(3,.v 1),(4,.v 2)],[],[]⟩)],⟨[qLb],[.bool],[],[]⟩,[(1,⟨[qLb,(.int .i64)],[(aA 1,aA 0,0),(aA 0,aA 1,0),(.z,aA 2,0)],[sC 999,cC 2,sC 1001,sC 0,sC 0]⟩),(2,⟨[qLb,(.int .i64),(.int .i64)],[(aA 1,aA 0,0),(aA 0,aA 1,0),(aA 3,aA 2,0),(aA 2,aA 0,-1),(.z,aA 3,0)],[sC 999,cC 2,sC 998,cC 3,sC 1001]⟩)],[sC 1001,sC 0,sC 0,sC 0,sC 0]⟩
/- langdoc/langdocref12.spans -/
def qUA:En:=⟨87,[(1,⟨[⟨.pure,false⟩,⟨.fresh,true⟩,⟨.pure,true⟩],[(0,.v 0),(3,.v 1),(4,.v 2)],[],[]⟩)],⟨[qLb],[qQA],[],[]⟩,[(1,⟨[qLb,qQA,(.int .i64)],[(aA 2,aA 3,0)],[sC 999,cC 3,sC 1001]⟩)],[sC 1001,sC 0,sC 0]⟩
/- langdoc/langdocref12.ranked -/
def qUz:En:=⟨88,[(1,⟨[⟨.pure,false⟩,⟨.pure,true⟩],[(0,.v 0),(3,.v 1)],[],[]⟩),(2,⟨[⟨.pure,false⟩,⟨.pure,true⟩,⟨.pure,true⟩,⟨.pure,true⟩],[(0,.v 0),(3,.v 1),(4,.v 2),(5,.v 3)],[],[]⟩)],⟨[qLb],[.bool],[],[]⟩,[(1,⟨[qLb,(.int .i64)],[(aA 1,aA 0,0),(aA 0,aA 1,0),(.z,aA 2,0)],[sC 999,cC 2,sC 1001,sC 0,sC 0]⟩),(2,⟨[qLb,(.int .i64),.bool,(.int .i64)],[(aA 1,aA 0,0),(aA 0,aA 1,0),(aA 2,aA 0,-1),(.z,aA 2,0),(.z,aA 4,0)],[sC 999,cC 2,sC 998,cC 4,sC 1001]⟩)],[sC 1001,sC 0,sC 0,sC 0,sC 0]⟩
/- langdoc/langdocref12.tierError -/
def qVX:En:=⟨51,[(1,⟨[⟨.pure,false⟩,⟨.pure,true⟩,⟨.pure,true⟩,⟨.pure,true⟩,⟨.pure,false⟩],[(1,.v 0),(2,.loc 0 0),(5,.v 1),(6,.v 2),(7,.v 3)],[some (.whole (.v 4) 7)],[]⟩)],⟨[qIq,(.int .i64)],[(.int .i64)],[(.z,aA 1,0),(aA 1,.aT [0,5],-1)],[]⟩,[(1,⟨[(.int .i64),(.int .i64),(.int .i64),(.int .i64),qIq],[(.z,aA 5,0)],[sC 999,cC 5,sC 1001]⟩)],[sC 1001,sC 0,sC 0]⟩
/- langdoc/langdocref12.Check -/
def qV5:En:=⟨27,[(1,⟨[⟨.pure,true⟩,⟨.pure,false⟩],[(1,.loc 0 0),(4,.v 0)],[some (.whole (.v 1) 7)],[]⟩),(2,⟨[⟨.pure,true⟩,⟨.pure,false⟩],[(1,.loc 0 0),(6,.v 0)],[some (.whole (.v 1) 7)],[]⟩)],⟨[qIq],[(.int .i64)],[],[]⟩,[(1,⟨[(.int .i64),qIq],[(.z,aA 1,0)],[sC 999,cC 1,sC 1001]⟩),(2,⟨[(.int .i64),qIq],[(.z,aA 1,0)],[sC 998,cC 1,sC 1001]⟩)],[sC 1001,sC 0,sC 0]⟩
/- langdoc/langdocref12.Light -/
def qWa:En:=⟨14,[],⟨[qIq],[.bool],[],[]⟩,[],[sC 1001]⟩
def qP5:List En:=[qV8,qSk,qSj,qTG,qUF,qTY,qVT,qV2,qV6,qTN,qTM,qTW,qTH,qTU,qTK,qTJ,qTT,qTS,qVR,qVQ,qUE,qVP,qVO,qVN,qVM,qVZ,qTR,qTQ,qTP,qUD,qSi,qV9,qVW,qTO,qVL,qVK,qUB,qUA,qUz]
def qP4:List En:=[qTZ,qVV,qV4,qUG,qUH,qTX,qVU,qV3,qTI,qUC,qTL,qTV,qVS,qV1,qV0,qVY,qVX,qV5,qWa]
def qSe:List En:=[qV7,qUI]
end Go.Proofs.YthhlmoidofecpaaGreat
namespace Go.Proofs.YthhlmoidofecpaaGreat
open Go Go.Am Go.Proofs Go.Am.Tt
theorem qQz:qAH EE Tryz.prog TT [] qP5=true:=by kernel_rfl
theorem qLw:∀ p∈iL [] qP5,gX (Holds EE) p.1 p.2:=lC qHP qLL qED (fun _ h=>by cases h) qQz
end Go.Proofs.YthhlmoidofecpaaGreat
namespace Go.Proofs.YthhlmoidofecpaaGreat
open Go Go.Am Go.Proofs
def qOe:Nat->Pat
 | 1=>⟨[⟨.pure,false⟩,⟨.pure,false⟩,⟨.pure,true⟩,⟨.pure,true⟩,⟨.pure,true⟩],[(0,.v 0),(1,.v 1),(6,.v 2),(7,.v 3),(8,.v 4)],[],[]⟩
 | _=>⟨[],[],[],[]⟩
def qIP:Tree :=
 .bind .chr [.v 0,.v 1] <|
 .bind (.conv 5 3) [.v 2] <|
 qF .geq 14 240 3 <|
 qB 4 (
  qF .sub 16 240 3 <|
  .bind (.bin .add 3 (.tmp 28) (.tmp 29)) [.v 1,k' 4] <|
  .bind (.len true) [.v 0] <|
  vB .gtr 30 32 6 7 <|
  qB 8 (
   .ret [.c (.int .i64 (-1)),k' 0]) (
   .jump 1 [.v 0,.v 1,.v 5,k' 4,k' 1])) (
  qF .geq 19 224 3 <|
  qB 5 (
   qF .sub 21 224 3 <|
   .bind (.bin .add 3 (.tmp 28) (.tmp 29)) [.v 1,k' 3] <|
   .bind (.len true) [.v 0] <|
   vB .gtr 30 32 7 8 <|
   qB 9 (
    .ret [.c (.int .i64 (-1)),k' 0]) (
    .jump 1 [.v 0,.v 1,.v 6,k' 3,k' 1])) (
   qF .geq 24 192 3 <|
   qB 6 (
    qF .sub 26 192 3 <|
    .bind (.bin .add 3 (.tmp 28) (.tmp 29)) [.v 1,k' 2] <|
    .bind (.len true) [.v 0] <|
    vB .gtr 30 32 8 9 <|
    qB 10 (
     .ret [.c (.int .i64 (-1)),k' 0]) (
     .jump 1 [.v 0,.v 1,.v 7,k' 2,k' 1])) (
    .bind (.bin .add 3 (.tmp 28) (.tmp 29)) [.v 1,k' 1] <|
    .bind (.len true) [.v 0] <|
    vB .gtr 30 32 7 8 <|
    qB 9 (
     .ret [.c (.int .i64 (-1)),k' 0]) (
     .jump 1 [.v 0,.v 1,.v 3,k' 1,k' 1]))))
def qIO:Tree :=
 vB .lss 34 35 4 3 <|
 qB 5 (
  qF .mul 39 64 2 <|
  vB .add 42 43 1 4 <|
  .bind .chr [.v 0,.v 7] <|
  .bind (.conv 5 3) [.v 8] <|
  qF .rem 46 64 9 <|
  vB .add 40 47 6 10 <|
  qF .add 37 1 4 <|
  .jump 1 [.v 0,.v 1,.v 11,.v 3,.v 12]) (
  .call (.fn 151) [.v 2] 1 <|
  .bind (.un .not 4) [.v 6] <|
  qB 7 (
   .ret [.c (.int .i64 (-1)),k' 0]) (
   .call (.fn 152) [.v 2] 1 <|
   vB .add 57 58 1 3 <|
   .bind (.sub true true) [.v 0,.v 1,.v 9] <|
   .bind (.bin .neq 9 (.tmp 54) (.tmp 60)) [.v 8,.v 10] <|
   qB 11 (
    .ret [.c (.int .i64 (-1)),k' 0]) (
    .ret [.v 2,.v 3])))
def e8:Nat->Tree
 | 0=>qIP
 | 1=>qIO
 | _=>.fail
def qRc:Nat->Pat
 | 1=>⟨[⟨.pure,true⟩,⟨.pure,false⟩,⟨.pure,false⟩],[(2,.loc 0 0),(3,.loc 1 0),(5,.v 0)],[some (.whole (.v 1) 1),some (.whole (.v 2) 3)],[]⟩
 | 2=>⟨[⟨.fresh,true⟩,⟨.pure,true⟩,⟨.pure,false⟩],[(3,.loc 1 0),(7,.v 0),(8,.v 1)],[none,some (.whole (.v 2) 3)],[]⟩
 | 3=>⟨[⟨.fresh,true⟩,⟨.pure,true⟩,⟨.pure,true⟩,⟨.pure,false⟩],[(3,.loc 1 0),(7,.v 0),(8,.v 1),(9,.v 2)],[none,some (.whole (.v 3) 3)],[]⟩
 | _=>⟨[],[],[],[]⟩
def qNG:Tree :=
 .bind (.chk true 1) [.v 0] <|
 .bind (.chk true 3) [.v 1] <|
 qD 0 3 <|
 .call (.fn 65) [.v 4] 1 <|
 .bind (.un .not 4) [.v 5] <|
 qB 6 (
  qG 7) (
  qD 1 3 <|
  xL 7 <|
  qF .gtr 17 100 8 <|
  qB 9 (
   qG 11) (
   .jump 1 [k' 0,.v 2,.v 3]))
def qNF:Tree :=
 qD 1 2 <|
 xL 3 <|
 vB .lss 19 22 0 4 <|
 qB 5 (
  .call (.fn 66) [.v 1,.v 2,.v 0] 1 <|
  .bind (.bin .neq 84 (.tmp 30) (K' 0)) [.v 6,k' 0] <|
  qB 7 (
   .ret [.v 6]) (
   qF .add 24 1 0 <|
   .jump 1 [.v 8,.v 1,.v 2])) (
  qD 2 2 <|
  xL 6 <|
  qF .gtr 35 100 7 <|
  qB 8 (
   qG 11) (
   .jump 2 [.c (.slice none 0 0),k' 0,.v 2]))
def qNE:Tree :=
 qD 2 2 <|
 xL 3 <|
 vB .lss 37 40 1 4 <|
 qB 5 (
  qD 2 2 <|
  xC 6 1 <|
  v7 1 0 6 1 <|
  xL 8 <|
  qF .eql 49 0 9 <|
  qB 10 (
   qG 4) (
   .jump 3 [.v 0,.v 1,k' 0,.v 2])) (
  qG 0)
def qND:Tree :=
 qD 2 3 <|
 xC 4 1 <|
 v7 1 0 4 1 <|
 xL 6 <|
 vB .lss 51 57 2 7 <|
 qB 8 (
  qD 2 3 <|
  xC 9 1 <|
  v7 1 0 9 1 <|
  xC 11 2 <|
  v7 1 0 11 2 <|
  .call (.fn 67) [.v 13] 1 <|
  .bind (.un .not 4) [.v 14] <|
  qB 15 (
   qG 3) (
   .call (.fn 68) [.v 0,.v 13] 1 <|
   qB 16 (
    qG 8) (
    .bind (.chk false 1) [.v 13] <|
    .bind (.lit 9 1) [.v 13] <|
    .bind (.app 9 1 16) [.v 0,.v 18] <|
    qF .add 59 1 2 <|
    .jump 3 [.v 19,.v 1,.v 20,.v 3]))) (
  qF .add 42 1 1 <|
  .jump 2 [.v 0,.v 9,.v 3])
def qCX:Nat->Tree
 | 0=>qNG
 | 1=>qNF
 | 2=>qNE
 | 3=>qND
 | _=>.fail
def qOd:Nat->Pat
 | 1=>⟨[⟨.pure,false⟩,⟨.pure,false⟩,⟨.fresh,true⟩,⟨.pure,true⟩],[(0,.v 0),(1,.v 1),(5,.v 2),(6,.v 3)],[],[]⟩
 | _=>⟨[],[],[],[]⟩
def qIN:Tree :=
 .jump 1 [.v 0,.v 1,.c (.slice none 0 0),k' 0]
def qIM:Tree :=
 xL 0 <|
 vB .lss 7 9 3 4 <|
 qB 5 (
  xC 0 3 <|
  v7 1 0 0 3 <|
  vB .lss 15 16 7 1 <|
  qB 8 (
   xC 0 3 <|
   v7 1 0 0 3 <|
   .bind (.chk false 1) [.v 10] <|
   .bind (.lit 3 1) [.v 10] <|
   .bind (.app 3 1 8) [.v 2,.v 12] <|
   qF .add 26 1 3 <|
   .jump 1 [.v 0,.v 1,.v 13,.v 14]) (
   .bind (.chk false 1) [.v 1] <|
   .bind (.lit 3 1) [.v 1] <|
   .bind (.app 3 1 8) [.v 2,.v 10] <|
   xL 0 <|
   vB .lss 32 34 3 12 <|
   qB 13 (
    xC 0 3 <|
    v7 1 0 0 3 <|
    vB .eql 40 41 15 1 <|
    qB 16 (
     qF .add 44 1 3 <|
     .bind (.slc 3 1 true false) [.v 0,.v 17] <|
     .bind (.app 3 1 8) [.v 11,.v 18] <|
     .ret [.v 19]) (
     .bind (.slc 3 1 true false) [.v 0,.v 3] <|
     .bind (.app 3 1 8) [.v 11,.v 17] <|
     .ret [.v 18])) (
    .bind (.slc 3 1 true false) [.v 0,.v 3] <|
    .bind (.app 3 1 8) [.v 11,.v 14] <|
    .ret [.v 15]))) (
  .bind (.chk false 1) [.v 1] <|
  .bind (.lit 3 1) [.v 1] <|
  .bind (.app 3 1 8) [.v 2,.v 7] <|
  xL 0 <|
  vB .lss 32 34 3 9 <|
  qB 10 (
   xC 0 3 <|
   v7 1 0 0 3 <|
   vB .eql 40 41 12 1 <|
   qB 13 (
    qF .add 44 1 3 <|
    .bind (.slc 3 1 true false) [.v 0,.v 14] <|
    .bind (.app 3 1 8) [.v 8,.v 15] <|
    .ret [.v 16]) (
    .bind (.slc 3 1 true false) [.v 0,.v 3] <|
    .bind (.app 3 1 8) [.v 8,.v 14] <|
    .ret [.v 15])) (
   .bind (.slc 3 1 true false) [.v 0,.v 3] <|
   .bind (.app 3 1 8) [.v 8,.v 11] <|
   .ret [.v 12]))
def qEO:Nat->Tree
 | 0=>qIN
 | 1=>qIM
 | _=>.fail
def qQ2:Nat->Pat
 | 1=>⟨[⟨.pure,false⟩,⟨.pure,false⟩,⟨.fresh,true⟩,⟨.fresh,true⟩,⟨.pure,true⟩],[(0,.v 0),(2,.v 1),(7,.v 2),(8,.v 3),(9,.v 4)],[],[]⟩
 | 2=>⟨[⟨.pure,false⟩,⟨.pure,false⟩,⟨.fresh,true⟩,⟨.fresh,true⟩,⟨.pure,true⟩,⟨.fresh,true⟩,⟨.pure,true⟩],[(0,.v 0),(2,.v 1),(7,.v 2),(8,.v 3),(9,.v 4),(10,.v 5),(11,.v 6)],[],[]⟩
 | 3=>⟨[⟨.pure,false⟩,⟨.pure,false⟩,⟨.fresh,true⟩,⟨.fresh,true⟩,⟨.pure,true⟩,⟨.fresh,true⟩,⟨.pure,true⟩,⟨.pure,true⟩,⟨.pure,true⟩],[(0,.v 0),(2,.v 1),(7,.v 2),(8,.v 3),(9,.v 4),(10,.v 5),(11,.v 6),(12,.v 7),(13,.v 8)],[],[]⟩
 | 4=>⟨[⟨.pure,false⟩,⟨.fresh,true⟩,⟨.fresh,true⟩,⟨.pure,true⟩],[(0,.v 0),(7,.v 1),(16,.v 2),(17,.v 3)],[],[]⟩
 | _=>⟨[],[],[],[]⟩
def qNs:Tree :=
 xL 0 <|
 .bind (.mk 4 1 1 false [(.bool false)]) [.v 3] <|
 .bind (.chk false 1) [.v 1] <|
 .bind (.lit 3 1) [.v 1] <|
 .jump 1 [.v 0,.v 2,.v 4,.v 6,k' 0]
def qNr:Tree :=
 xL 0 <|
 vB .leq 23 25 4 5 <|
 qB 6 (
  .jump 2 [.v 0,.v 1,.v 2,.v 3,.v 4,.c (.slice none 0 0),k' 0]) (
  .jump 4 [.v 0,.v 2,.c (.slice none 0 0),k' 0])
def qNq:Tree :=
 xL 3 <|
 vB .lss 29 31 6 7 <|
 qB 8 (
  xC 3 6 <|
  v7 1 0 3 6 <|
  .call (.fn 74) [.v 0,.v 10] 1 <|
  .jump 3 [.v 0,.v 1,.v 2,.v 3,.v 4,.v 5,.v 6,.v 11,k' 0]) (
  qF .add 27 1 4 <|
  .jump 1 [.v 0,.v 1,.v 2,.v 5,.v 9])
def qNp:Tree :=
 qF .geq 41 0 7 <|
 qB 9 (
  xC 0 7 <|
  v7 8 6 0 7 <|
  xL 11 <|
  vB .lss 44 50 8 12 <|
  qB 13 (
   xC 0 7 <|
   v7 8 6 0 7 <|
   xC 15 8 <|
   .bind (.elem 2 true 2 0) [.v 15,.v 8] <|
   .bind (.chk true 2) [.v 17] <|
   qD 1 18 <|
   .call (.fn 74) [.v 0,.v 19] 1 <|
   qD 0 18 <|
   vB .eql 68 69 21 1 <|
   qB 22 (
    qF .geq 72 0 20 <|
    qB 23 (
     xC 2 20 <|
     v7 1 0 2 20 <|
     .bind (.un .not 4) [.v 25] <|
     qB 26 (
      xC 2 20 <|
      .bind (.set 1 false 1 0) [.v 2,.v 20,.c (.bool true)] <|
      qD 1 18 <|
      .bind (.chk false 1) [.v 29] <|
      .bind (.lit 3 1) [.v 29] <|
      .bind (.app 3 1 8) [.v 5,.v 31] <|
      qF .add 53 1 8 <|
      .jump 3 [.v 0,.v 1,.v 28,.v 3,.v 4,.v 32,.v 6,.v 7,.v 33]) (
      qF .add 53 1 8 <|
      .jump 3 [.v 0,.v 1,.v 2,.v 3,.v 4,.v 5,.v 6,.v 7,.v 27])) (
     qF .add 53 1 8 <|
     .jump 3 [.v 0,.v 1,.v 2,.v 3,.v 4,.v 5,.v 6,.v 7,.v 24])) (
    qF .add 53 1 8 <|
    .jump 3 [.v 0,.v 1,.v 2,.v 3,.v 4,.v 5,.v 6,.v 7,.v 23])) (
   qF .add 33 1 6 <|
   .jump 2 [.v 0,.v 1,.v 2,.v 3,.v 4,.v 5,.v 14])) (
  qF .add 33 1 6 <|
  .jump 2 [.v 0,.v 1,.v 2,.v 3,.v 4,.v 5,.v 10])
def qNo:Tree :=
 xL 0 <|
 vB .lss 91 93 3 4 <|
 qB 5 (
  xC 1 3 <|
  v7 1 0 1 3 <|
  qB 7 (
   xC 0 3 <|
   v7 8 0 0 3 <|
   .bind (.chk false 1) [.v 9] <|
   .bind (.lit 3 1) [.v 9] <|
   .bind (.app 3 1 8) [.v 2,.v 11] <|
   qF .add 95 1 3 <|
   .jump 4 [.v 0,.v 1,.v 12,.v 13]) (
   qF .add 95 1 3 <|
   .jump 4 [.v 0,.v 1,.v 2,.v 8])) (
  .ret [.v 2])
def qA6:Nat->Tree
 | 0=>qNs
 | 1=>qNr
 | 2=>qNq
 | 3=>qNp
 | 4=>qNo
 | _=>.fail
def qQU:Nat->Pat
 | _=>⟨[],[],[],[]⟩
def qNd:Tree :=
 .bind (.chk true 2) [.v 1] <|
 .call (.fn 118) [.v 2] 1 <|
 qB 3 (
  .bind (.chk true 2) [.v 2] <|
  .bind (.lit 60 2) [.v 2] <|
  .call (.fn 119) [.v 5,.v 0] 0 <|
  xL 6 <|
  qF .eql 12 0 7 <|
  .ret [.v 8]) (
  aM false)
def qNc:Nat->Tree
 | 0=>qNd
 | _=>.fail
def qN7:Nat->Pat
 | 1=>⟨[⟨.pure,false⟩,⟨.fresh,true⟩,⟨.fresh,true⟩,⟨.pure,true⟩,⟨.pure,false⟩],[(0,.v 0),(3,.loc 0 0),(5,.v 1),(6,.v 2),(7,.v 3)],[some (.whole (.v 4) 2)],[]⟩
 | _=>⟨[],[],[],[]⟩
def qIG:Tree :=
 .bind (.chk true 2) [.v 1] <|
 .bind (.lit 60 2) [] <|
 .bind (.lit 60 2) [] <|
 .jump 1 [.v 0,.v 3,.v 4,k' 0,.v 2]
def qIF:Tree :=
 xL 0 <|
 vB .lss 10 12 3 5 <|
 qB 6 (
  xC 0 3 <|
  v7 2 1 0 3 <|
  qD 0 4 <|
  vB .lss 20 22 8 9 <|
  qB 10 (
   xC 0 3 <|
   .bind (.elem 2 true 2 0) [.v 0,.v 3] <|
   .bind (.chk true 2) [.v 12] <|
   .bind (.lit 60 2) [.v 12] <|
   .bind (.app 60 2 16) [.v 1,.v 14] <|
   qF .add 14 1 3 <|
   .jump 1 [.v 0,.v 15,.v 2,.v 16,.v 4]) (
   xC 0 3 <|
   v7 2 0 0 3 <|
   qD 1 4 <|
   vB .gtr 35 37 12 13 <|
   qB 14 (
    xC 0 3 <|
    .bind (.elem 2 true 2 0) [.v 0,.v 3] <|
    .bind (.chk true 2) [.v 16] <|
    .bind (.lit 60 2) [.v 16] <|
    .bind (.app 60 2 16) [.v 2,.v 18] <|
    qF .add 14 1 3 <|
    .jump 1 [.v 0,.v 1,.v 19,.v 20,.v 4]) (
    qD 0 4 <|
    xC 0 3 <|
    v7 2 0 0 3 <|
    .bind (.mm false) [.v 15,.v 17] <|
    qD 1 4 <|
    xC 0 3 <|
    v7 2 1 0 3 <|
    .bind (.mm true) [.v 19,.v 21] <|
    qF .add 14 1 3 <|
    .jump 1 [.v 0,.v 1,.v 2,.v 23,.agg [.v 18,.v 22]]))) (
  .bind (.chk true 2) [.v 4] <|
  .bind (.lit 60 2) [.v 4] <|
  .bind (.app 60 2 16) [.v 1,.v 8] <|
  .bind (.app 60 2 16) [.v 9,.v 2] <|
  .ret [.v 10])
def qIE:Nat->Tree
 | 0=>qIG
 | 1=>qIF
 | _=>.fail
def qOa:Nat->Pat
 | 1=>⟨[⟨.pure,false⟩,⟨.pure,false⟩,⟨.pure,true⟩],[(0,.v 0),(3,.v 1),(4,.v 2)],[],[]⟩
 | _=>⟨[],[],[],[]⟩
def qIK:Tree :=
 .bind (.lit 60 2) [] <|
 .jump 1 [.v 0,.v 1,k' 0]
def qIJ:Tree :=
 xL 0 <|
 vB .lss 6 8 2 3 <|
 qB 4 (
  xC 0 2 <|
  .bind (.elem 2 true 2 0) [.v 0,.v 2] <|
  .call (.fn 118) [.v 6] 1 <|
  qB 7 (
   xC 0 2 <|
   .bind (.elem 2 true 2 0) [.v 0,.v 2] <|
   .call (.fn 155) [.v 1,.v 9] 0 <|
   qF .add 10 1 2 <|
   .jump 1 [.v 0,.v 10,.v 11]) (
   qF .add 10 1 2 <|
   .jump 1 [.v 0,.v 1,.v 8])) (
  .ret [.v 1])
def qEN:Nat->Tree
 | 0=>qIK
 | 1=>qIJ
 | _=>.fail
def qN9:Nat->Pat
 | 1=>⟨[⟨.pure,false⟩,⟨.fresh,true⟩,⟨.pure,true⟩,⟨.pure,false⟩],[(0,.v 0),(3,.loc 0 0),(5,.v 1),(6,.v 2)],[some (.whole (.v 3) 2)],[]⟩
 | _=>⟨[],[],[],[]⟩
def qII:Tree :=
 .bind (.chk true 2) [.v 1] <|
 .bind (.lit 60 2) [] <|
 .jump 1 [.v 0,.v 3,k' 0,.v 2]
def qIH:Tree :=
 xL 0 <|
 vB .lss 10 12 2 4 <|
 qB 5 (
  xC 0 2 <|
  v7 2 0 0 2 <|
  xC 0 2 <|
  v7 2 1 0 2 <|
  qD 0 3 <|
  .bind (.mm false) [.v 9,.v 10] <|
  xC 0 2 <|
  v7 2 0 0 2 <|
  qD 1 3 <|
  .bind (.mm true) [.v 13,.v 14] <|
  xC 0 2 <|
  v7 2 1 0 2 <|
  .call (.fn 118) [.agg [.v 7,.v 11]] 1 <|
  qB 18 (
   .bind (.chk true 2) [.agg [.v 7,.v 11]] <|
   .bind (.lit 60 2) [.agg [.v 7,.v 11]] <|
   .bind (.app 60 2 16) [.v 1,.v 20] <|
   .call (.fn 118) [.agg [.v 15,.v 17]] 1 <|
   qB 22 (
    .bind (.chk true 2) [.agg [.v 15,.v 17]] <|
    .bind (.lit 60 2) [.agg [.v 15,.v 17]] <|
    .bind (.app 60 2 16) [.v 21,.v 24] <|
    qF .add 14 1 2 <|
    .jump 1 [.v 0,.v 25,.v 26,.v 3]) (
    qF .add 14 1 2 <|
    .jump 1 [.v 0,.v 21,.v 23,.v 3])) (
   .call (.fn 118) [.agg [.v 15,.v 17]] 1 <|
   qB 19 (
    .bind (.chk true 2) [.agg [.v 15,.v 17]] <|
    .bind (.lit 60 2) [.agg [.v 15,.v 17]] <|
    .bind (.app 60 2 16) [.v 1,.v 21] <|
    qF .add 14 1 2 <|
    .jump 1 [.v 0,.v 22,.v 23,.v 3]) (
    qF .add 14 1 2 <|
    .jump 1 [.v 0,.v 1,.v 20,.v 3]))) (
  .ret [.v 1])
def qEM:Nat->Tree
 | 0=>qII
 | 1=>qIH
 | _=>.fail
def qOi:Nat->Pat
 | 1=>⟨[⟨.pure,false⟩,⟨.pure,false⟩,⟨.pure,true⟩],[(1,.v 0),(5,.v 1),(6,.v 2)],[],[]⟩
 | _=>⟨[],[],[],[]⟩
def qIR:Tree :=
 .call (.fn 141) [.v 0] 0 <|
 .jump 1 [.v 1,.v 2,k' 0]
def qIQ:Tree :=
 xL 0 <|
 vB .lss 9 11 2 3 <|
 qB 4 (
  xC 0 2 <|
  .bind (.elem 2 true 2 0) [.v 0,.v 2] <|
  .call (.fn 118) [.v 6] 1 <|
  qB 7 (
   xC 0 2 <|
   .bind (.elem 2 true 2 0) [.v 0,.v 2] <|
   .call (.fn 142) [.v 1,.v 9] 0 <|
   qF .add 13 1 2 <|
   .jump 1 [.v 0,.v 10,.v 11]) (
   qF .add 13 1 2 <|
   .jump 1 [.v 0,.v 1,.v 8])) (
  .ret [.v 1])
def qEP:Nat->Tree
 | 0=>qIR
 | 1=>qIQ
 | _=>.fail
def qOj:Nat->Pat
 | _=>⟨[],[],[],[]⟩
def qIT:Tree :=
 .bind (.chk true 2) [.v 0] <|
 qD 0 1 <|
 qF .geq 4 0 2 <|
 qB 3 (
  qD 0 1 <|
  qD 1 1 <|
  vB .lss 8 10 4 5 <|
  qB 6 (
   qD 1 1 <|
   qF .leq 15 86400000 7 <|
   .ret [.v 8]) (
   aM false)) (
  aM false)
def qIS:Nat->Tree
 | 0=>qIT
 | _=>.fail
def qOn:Nat->Pat
 | 1=>⟨[⟨.pure,false⟩,⟨.pure,false⟩,⟨.pure,true⟩,⟨.pure,true⟩],[(0,.v 0),(3,.v 1),(6,.v 2),(7,.v 3)],[],[]⟩
 | _=>⟨[],[],[],[]⟩
def qOT:Tree :=
 xL 0 <|
 .jump 1 [.v 0,.c (.slice none 0 0),.v 1,k' 0]
def qOS:Tree :=
 vB .lss 7 6 3 2 <|
 qB 4 (
  xC 0 3 <|
  v7 1 0 0 3 <|
  .call (.fn 135) [.v 1,.v 6] 0 <|
  qF .add 7 1 3 <|
  .jump 1 [.v 0,.v 7,.v 2,.v 8]) (
  .ret [.v 1])
theorem qA1:(rtQ Tryz.f134 2 qOe,
 hd Tryz.f134 2 qOe,
 nr Tryz.f134,
 rtQ Tryz.f42 2 qRc,
 hd Tryz.f42 2 qRc,
 nr Tryz.f42,
 rtQ Tryz.f135 2 qOd,
 hd Tryz.f135 2 qOd,
 nr Tryz.f135,
 rtQ Tryz.f77 3 qQ2,
 hd Tryz.f77 3 qQ2,
 nr Tryz.f77,
 rtQ Tryz.f86 2 qQU,
 hd Tryz.f86 2 qQU,
 nr Tryz.f86,
 rtQ Tryz.f155 2 qN7,
 hd Tryz.f155 2 qN7,
 nr Tryz.f155,
 rtQ Tryz.f141 1 qOa,
 hd Tryz.f141 1 qOa,
 nr Tryz.f141,
 rtQ Tryz.f142 2 qN9,
 hd Tryz.f142 2 qN9,
 nr Tryz.f142,
 rtQ Tryz.f119 2 qOi,
 hd Tryz.f119 2 qOi,
 nr Tryz.f119,
 rtQ Tryz.f118 1 qOj,
 hd Tryz.f118 1 qOj,
 nr Tryz.f118,
 rtQ Tryz.f109 1 qOn,
 hd Tryz.f109 1 qOn,
 nr Tryz.f109) =
 (qIP,[(1,qIO)],false,qNG,[(1,qNF),(2,qNE),(3,qND)],false,qIN,[(1,qIM)],false,qNs,[(1,qNr),(2,qNq),(3,qNp),(4,qNo)],false,qNd,[],false,qIG,[(1,qIF)],false,qIK,[(1,qIJ)],false,qII,[(1,qIH)],false,qIR,[(1,qIQ)],false,qIT,[],false,qOT,[(1,qOS)],false):=by kernel_rfl
theorem qS0 {ds:List D} {d:D} (hn:ds.length=2) (h:qH EE (Holds EE) e8 0 ds d):Holds EE 134 ds d :=
 hv Tryz.func134 rfl qA1 (jY rfl <| xB) hn h
theorem qUY {ds:List D} {d:D} (hn:ds.length=2) (h:qH EE (Holds EE) qCX 0 ds d):Holds EE 42 ds d :=
 hv Tryz.func42 rfl (wG (wG (wG qA1))) (jY rfl <| jY rfl <| jY rfl <| xB) hn h
theorem qSZ {ds:List D} {d:D} (hn:ds.length=2) (h:qH EE (Holds EE) qEO 0 ds d):Holds EE 135 ds d :=
 hv Tryz.func135 rfl (wG (wG (yI qA1))) (jY rfl <| xB) hn h
theorem qUS {ds:List D} {d:D} (hn:ds.length=3) (h:qH EE (Holds EE) qA6 0 ds d):Holds EE 77 ds d :=
 hv Tryz.func77 rfl (wG (yI (yI qA1))) (jY rfl <| jY rfl <| jY rfl <| jY rfl <| xB) hn h
theorem qUO {ds:List D} {d:D} (hn:ds.length=2) (h:qH EE (Holds EE) qNc 0 ds d):Holds EE 86 ds d :=
 hv Tryz.func86 rfl (yI (yI (yI qA1))) (xB) hn h
theorem qSW {ds:List D} {d:D} (hn:ds.length=2) (h:qH EE (Holds EE) qIE 0 ds d):Holds EE 155 ds d :=
 hv Tryz.func155 rfl (wG (wG (wG (yI (yI (yI qA1)))))) (jY rfl <| xB) hn h
theorem qSY {ds:List D} {d:D} (hn:ds.length=1) (h:qH EE (Holds EE) qEN 0 ds d):Holds EE 141 ds d :=
 hv Tryz.func141 rfl (wG (wG (vE qA1))) (jY rfl <| xB) hn h
theorem qSX {ds:List D} {d:D} (hn:ds.length=2) (h:qH EE (Holds EE) qEM 0 ds d):Holds EE 142 ds d :=
 hv Tryz.func142 rfl (wG (yI (vE qA1))) (jY rfl <| xB) hn h
theorem qS1 {ds:List D} {d:D} (hn:ds.length=2) (h:qH EE (Holds EE) qEP 0 ds d):Holds EE 119 ds d :=
 hv Tryz.func119 rfl (yI (yI (vE qA1))) (jY rfl <| xB) hn h
theorem qOR {ds:List D} {d:D} (hn:ds.length=1) (h:qH EE (Holds EE) qIS 0 ds d):Holds EE 118 ds d :=
 hv Tryz.func118 rfl (wG (wG (wG (yI (yI (vE qA1)))))) (xB) hn h
end Go.Proofs.YthhlmoidofecpaaGreat
