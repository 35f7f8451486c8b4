/- What the checker is told of functions. Conditions: none. -/
import Derived.Test.YtocbbgmhkhallaaGreatDoorBa
set_option linter.unusedVariables false
set_option linter.unusedSimpArgs false
namespace Go.Proofs.YtocbbgmhkhallaaGreatDoor
open Go Go.Am Go.Proofs Go.Am.Tt
abbrev BG:Nat:=300000000
def sC(n:Int):Ms:=(.z,.z,n)
def cC(i:Nat):Ms:=(.z,.aT [i],300000001)
def aA(i:Nat):Pt:=.aT [i]
def n0:Sn:=(.sl 71 8 BG (.st [(.int .i64),(.sl 3 1 1048576 (.int .i64)),(.int .i64),(.sl 31 1 1048576 (.sl 3 1 1048576 (.int .i64))),(.int .i64),(.sl 105 2 1048576 (.st [(.str BG),(.str BG)])),(.sl 73 2 1048576 (.st [(.int .i64),(.int .i64)])),(.sl 163 2 1048576 (.st [(.int .i64),(.int .i64)]))]))
def n1:Sn:=(.sl 31 1 BG (.sl 3 1 1048576 (.int .i64)))
def n2:Sn:=(.sl 3 1 BG (.int .i64))
def n3:Sn:=(.st [(.sl 85 2 BG (.st [(.str BG),(.int .i64)]))])
def n4:Sn:=(.st [(.str BG),(.sl 81 2 BG (.st [(.str BG),(.sl 3 1 BG (.int .i64))])),(.sl 37 1 BG (.sl 9 1 BG (.str BG)))])
def n5:Sn:=(.st [(.str BG),(.sl 3 1 BG (.int .i64))])
def n6:Sn:=(.sl 9 1 BG (.str BG))
def n7:Sn:=(.st [(.sl 3 1 BG (.int .i64)),(.sl 3 1 BG (.int .i64)),(.sl 65 2 BG (.st [(.int .i64),(.int .i64)])),(.sl 65 2 BG (.st [(.int .i64),(.int .i64)])),.bool,.bool])
def n8:Sn:=(.st [(.sl 85 2 BG (.st [(.str BG),(.int .i64)])),(.str BG),(.sl 81 2 BG (.st [(.str BG),(.sl 3 1 1048576 (.int .i64))])),(.sl 37 1 BG (.sl 9 1 1048576 (.str BG))),(.sl 60 6 BG (.st [(.sl 3 1 1048576 (.int .i64)),(.sl 3 1 1048576 (.int .i64)),(.sl 65 2 1048576 (.st [(.int .i64),(.int .i64)])),(.sl 65 2 1048576 (.st [(.int .i64),(.int .i64)])),.bool,.bool])),(.int .i64),(.sl 55 3 BG (.st [(.int .i64),(.int .i64),(.int .i64)])),(.sl 3 1 BG (.int .i64)),(.sl 71 8 BG (.st [(.int .i64),(.sl 3 1 1048576 (.int .i64)),(.int .i64),(.sl 31 1 1048576 (.sl 3 1 1048576 (.int .i64))),(.int .i64),(.sl 105 2 1048576 (.st [(.str BG),(.str BG)])),(.sl 73 2 1048576 (.st [(.int .i64),(.int .i64)])),(.sl 163 2 1048576 (.st [(.int .i64),(.int .i64)]))]))])
def n9:Sn:=(.st [(.int .i64),(.sl 55 3 BG (.st [(.int .i64),(.int .i64),(.int .i64)])),(.sl 3 1 BG (.int .i64))])
def n10:Sn:=(.st [(.int .i64),(.int .i64),(.int .i64)])
def pG:Sn:=(.st [(.int .i64),(.sl 3 1 BG (.int .i64)),(.int .i64),(.sl 31 1 BG (.sl 3 1 1048576 (.int .i64))),(.int .i64),(.sl 105 2 BG (.st [(.str BG),(.str BG)])),(.sl 73 2 BG (.st [(.int .i64),(.int .i64)])),(.sl 163 2 BG (.st [(.int .i64),(.int .i64)]))])
def bN:Sn:=(.sl 105 2 BG (.st [(.str BG),(.str BG)]))
def n13:Sn:=(.st [(.str BG),(.str BG)])
def wH:Sn:=(.st [(.int .i64),(.int .i64)])
def qKv:Sn:=(.sl 163 2 BG (.st [(.int .i64),(.int .i64)]))
def qRz:Sn:=(.sl 71 8 BG (.st [(.int .i64),(.sl 3 1 BG (.int .i64)),(.int .i64),(.sl 31 1 BG (.sl 3 1 BG (.int .i64))),(.int .i64),(.sl 105 2 BG (.st [(.str BG),(.str BG)])),(.sl 73 2 BG (.st [(.int .i64),(.int .i64)])),(.sl 163 2 BG (.st [(.int .i64),(.int .i64)]))]))
def qV1:List (Nat×Sn):=[(5,(.int .u8)),(3,(.int .i64))]
def qP5:List (LN×LN×IntKind×IntKind):=[(3,5,.i64,.u8)]
def qOk:List (Bool×LN×Int):=[(false,3,64),(true,3,64),(false,3,4096),(false,3,262144)]
def qNZ:List (Nat×(Nat×LZ)):=[(55,(4,[(.int .i64),(.int .i64),(.int .i64)])),(73,(4,[(.int .i64),(.int .i64)]))]
theorem sF:∀x∈qP5,qMZ EE x:=sK (λm=>⟨IntKind.u8.wrap m,by kernel_rfl⟩)<|qAO
theorem aO:∀x∈qOk,qMW EE x:=sK (λm _ _=>⟨IntKind.i64.wrap (m.tdiv 64),by kernel_rfl⟩)<|sK (λm _ _=>⟨m.tmod 64,by kernel_rfl⟩)<|sK (λm _ _=>⟨IntKind.i64.wrap (m.tdiv 4096),by kernel_rfl⟩)<|sK (λm _ _=>⟨IntKind.i64.wrap (m.tdiv 262144),by kernel_rfl⟩)<|qAO
theorem aD:∀x∈qNZ,qIo EE x:=sK (qJ8 (by kernel_rfl))<|sK (qJ8 (by kernel_rfl))<|qAO
def TT:Tb:=zAu qV1 qP5 qOk qNZ
theorem uT:TbOk EE TT:=zAt sF aO aD
/- langdoc/langdocref29.small -/
def zFM:En:=⟨16,[(1,⟨[⟨.pure,false⟩,⟨.pure,true⟩],[(0,.v 0),(3,.v 1)],[],[]⟩),(2,⟨[⟨.pure,false⟩,⟨.pure,true⟩,⟨.pure,true⟩,⟨.pure,true⟩,⟨.pure,true⟩],[(0,.v 0),(3,.v 1),(4,.v 2),(22,.v 0),(23,.v 1),(26,.v 3),(27,.v 4),(28,.c (.bool false))],[],[]⟩)],⟨[n0],[.bool],[],[]⟩,[(1,⟨[n0,(.int .i64)],[(aA 1,aA 0,0),(aA 0,aA 1,0),(aA 1,.z,299999998),(.z,aA 2,0)],[sC 999,cC 2,sC 1001,sC 0,sC 0]⟩),(2,⟨[n0,(.int .i64),(.int .i64),n1,(.int .i64)],[(aA 1,aA 0,0),(aA 0,aA 1,0),(aA 1,.z,299999998),(aA 2,aA 0,-1),(.z,aA 2,0),(.z,aA 3,0)],[sC 999,cC 2,sC 998,cC 3,sC 1001]⟩)],[sC 1001,sC 0,sC 0,sC 0,sC 0]⟩
/- langdoc/langdocref02.Scalar -/
def zBK:En:=⟨174,[],⟨[(.int .i64)],[.bool],[],[]⟩,[],[sC 1001]⟩
/- langdoc/langdocref02.encoded -/
def zBJ:En:=⟨175,[],⟨[(.int .i64)],[(.str BG)],[],[]⟩,[],[sC 1001]⟩
/- langdoc/langdocref02.Points -/
def zEo:En:=⟨123,[(1,⟨[⟨.pure,false⟩,⟨.fresh,true⟩,⟨.pure,true⟩],[(0,.v 0),(4,.v 1),(5,.v 2)],[],[]⟩)],⟨[(.str BG)],[n2,.bool],[],[]⟩,[(1,⟨[(.str BG),n2,(.int .i64)],[(aA 2,aA 3,0)],[sC 999,cC 3,sC 1001]⟩)],[sC 1001,sC 0,sC 0]⟩
/- langdoc/langdocref10.Label -/
def zHB:En:=⟨79,[(1,⟨[⟨.pure,false⟩,⟨.pure,true⟩],[(0,.v 0),(3,.v 1)],[],[]⟩)],⟨[(.str BG)],[.bool],[],[]⟩,[(1,⟨[(.str BG),(.int .i64)],[(.z,aA 2,0)],[sC 999,cC 2,sC 1001]⟩)],[sC 1001,sC 0,sC 0]⟩
/- langdoc/langdocref16.Check -/
def zFK:En:=⟨40,[(1,⟨[⟨.pure,true⟩,⟨.pure,true⟩,⟨.pure,false⟩],[(1,.loc 0 0),(11,.v 0),(12,.v 1)],[some (.whole (.v 2) 1)],[]⟩),(2,⟨[⟨.pure,true⟩,⟨.pure,true⟩,⟨.pure,true⟩,⟨.pure,false⟩],[(1,.loc 0 0),(3,.v 0),(4,.v 1),(11,.v 2),(12,.v 0)],[some (.whole (.v 3) 1)],[]⟩)],⟨[n3],[(.int .i64)],[],[]⟩,[(1,⟨[(.int .i64),(.int .i64),n3],[(.aT [3,0],aA 1,0),(aA 1,.aT [0,0],0),(aA 1,.z,64),(.z,aA 2,0),(.aT [0,0],.aT [3,0],0)],[sC 999,cC 2,sC 1001,sC 0,sC 0]⟩),(2,⟨[(.int .i64),(.int .i64),(.int .i64),n3],[(aA 2,aA 1,0),(.z,aA 2,0),(aA 1,aA 3,-1),(aA 3,.aT [0,0],0),(.aT [0,0],aA 3,0),(aA 3,.z,64),(.aT [0,0],.aT [4,0],0),(.aT [4,0],.aT [0,0],0)],[sC 999,cC 1,sC 998,cC 2,sC 1001]⟩)],[sC 1001,sC 0,sC 0,sC 0,sC 0]⟩
/- langdoc/langdocref10.Name -/
def zFG:En:=⟨80,[(1,⟨[⟨.pure,false⟩,⟨.pure,true⟩],[(0,.v 0),(3,.v 1)],[],[]⟩)],⟨[(.str BG)],[.bool],[],[]⟩,[(1,⟨[(.str BG),(.int .i64)],[(.z,aA 2,0)],[sC 999,cC 2,sC 1001]⟩)],[sC 1001,sC 0,sC 0]⟩
/- langdoc/langdocref17.label -/
def zFE:En:=⟨82,[(1,⟨[⟨.pure,false⟩,⟨.pure,true⟩],[(0,.v 0),(3,.v 1)],[],[]⟩)],⟨[(.str BG)],[.bool],[],[]⟩,[(1,⟨[(.str BG),(.int .i64)],[(.z,aA 2,0)],[sC 999,cC 2,sC 1001]⟩)],[sC 1001,sC 0,sC 0]⟩
/- langdoc/langdocref17.unit -/
def zFF:En:=⟨81,[(1,⟨[⟨.pure,false⟩,⟨.pure,true⟩,⟨.pure,false⟩,⟨.pure,false⟩,⟨.pure,false⟩],[(2,.v 0),(3,.loc 0 0),(4,.loc 1 0),(7,.loc 2 0),(8,.v 1)],[some (.whole (.v 2) 1),some (.whole (.v 3) 3),some (.whole (.v 4) 2)],[]⟩),(2,⟨[⟨.pure,true⟩,⟨.pure,false⟩,⟨.pure,false⟩],[(3,.loc 0 0),(7,.loc 2 0),(9,.v 0)],[some (.whole (.v 1) 1),none,some (.whole (.v 2) 2)],[]⟩)],⟨[n3,n4,(.int .i64)],[(.int .i64)],[(.z,aA 2,0),(aA 2,.aT [1,1],-1)],[]⟩,[(1,⟨[(.int .i64),(.int .i64),n3,n4,n5],[(aA 3,.aT [6,1],-1),(aA 3,aA 2,0),(.z,aA 4,0)],[sC 999,cC 4,sC 1001]⟩),(2,⟨[(.int .i64),n3,n5],[(.z,aA 3,0)],[sC 998,cC 3,sC 1001]⟩)],[sC 1001,sC 0,sC 0]⟩
/- langdoc/langdocref17.has -/
def zFD:En:=⟨83,[(1,⟨[⟨.pure,false⟩,⟨.pure,false⟩,⟨.pure,true⟩],[(0,.v 0),(1,.v 1),(5,.v 2)],[],[]⟩)],⟨[n6,(.str BG)],[.bool],[],[]⟩,[(1,⟨[n6,(.str BG),(.int .i64)],[(aA 2,aA 0,0),(.z,aA 4,0)],[sC 999,cC 4,sC 1001]⟩)],[sC 1001,sC 0,sC 0]⟩
/- langdoc/langdocref16.Is -/
def zEn:En:=⟨124,[],⟨[n3,(.int .i64)],[.bool],[],[]⟩,[],[sC 1001]⟩
/- langdoc/langdocref01.Sorted -/
def zEm:En:=⟨125,[(1,⟨[⟨.pure,false⟩,⟨.pure,false⟩,⟨.pure,true⟩,⟨.pure,true⟩],[(0,.v 0),(3,.v 1),(6,.v 2),(7,.v 3)],[],[]⟩)],⟨[n2],[n2],[],[]⟩,[(1,⟨[n2,n2,(.int .i64),(.int .i64)],[(aA 3,aA 1,0),(aA 2,aA 4,0)],[sC 999,cC 4,sC 1001]⟩)],[sC 1001,sC 0,sC 0]⟩
/- langdoc/langdocref22.Check -/
def zFC:En:=⟨84,[(1,⟨[⟨.pure,true⟩,⟨.pure,true⟩,⟨.pure,false⟩,⟨.pure,false⟩],[(2,.loc 0 0),(3,.loc 1 0),(21,.v 0),(22,.v 1)],[some (.whole (.v 2) 1),some (.whole (.v 3) 6)],[]⟩)],⟨[n3,n7],[(.int .i64)],[],[]⟩,[(1,⟨[(.int .i64),(.int .i64),n3,n7],[(aA 2,.aT [1,0],0),(aA 2,.aT [1,1],0),(.z,aA 3,0),(.aT [1,0],.aT [5,0],0),(.aT [1,1],.aT [5,1],0)],[sC 999,cC 3,sC 1001]⟩)],[sC 1001,sC 0,sC 0]⟩
/- langdoc/langdocref29.rules -/
def zHJ:En:=⟨42,[(1,⟨[⟨.pure,true⟩,⟨.pure,false⟩],[(1,.loc 0 0),(3,.v 0)],[some (.whole (.v 1) 9)],[]⟩)],⟨[n8],[(.int .i64)],[],[]⟩,[(1,⟨[(.int .i64),n8],[(.z,aA 1,0)],[sC 999,cC 1,sC 1001]⟩)],[sC 1001,sC 0,sC 0]⟩
/- langdoc/langdocref23.state -/
def zHM:En:=⟨15,[],⟨[n9,(.int .i64)],[.bool],[],[]⟩,[],[sC 1001]⟩
/- langdoc/langdocref23.Check -/
def e5:En:=⟨5,[(1,⟨[⟨.pure,true⟩,⟨.pure,false⟩],[(1,.loc 0 0),(3,.v 0)],[some (.whole (.v 1) 3)],[]⟩),(2,⟨[⟨.pure,true⟩,⟨.pure,true⟩,⟨.pure,false⟩,⟨.pure,true⟩,⟨.pure,true⟩,⟨.pure,true⟩,⟨.pure,false⟩],[(1,.loc 0 0),(3,.v 0),(4,.loc 1 0),(5,.v 1),(38,.v 2),(39,.loc 1 2),(40,.v 3),(41,.v 4),(42,.c (.bool false)),(48,.loc 1 1),(49,.v 5),(50,.c (.bool false))],[some (.whole (.v 2) 3),some (.whole (.v 6) 3)],[]⟩),(3,⟨[⟨.pure,true⟩,⟨.pure,false⟩],[(1,.loc 0 0),(6,.v 0)],[some (.whole (.v 1) 3)],[]⟩),(4,⟨[⟨.pure,true⟩,⟨.pure,false⟩],[(1,.loc 0 0),(7,.v 0)],[some (.whole (.v 1) 3)],[]⟩)],⟨[n9],[(.int .i64)],[],[]⟩,[(1,⟨[(.int .i64),n9],[(.z,aA 1,0),(.aT [0,0],.aT [2,0],0),(.aT [2,0],.aT [0,0],0),(.aT [0,1],.aT [2,1],0),(.aT [2,1],.aT [0,1],0),(.aT [0,2],.aT [2,2],0),(.aT [2,2],.aT [0,2],0)],[sC 999,cC 1,sC 1001,sC 0,sC 0]⟩),(3,⟨[(.int .i64),n9],[(.z,aA 1,-1)],[sC 997,cC 1,sC 1001,sC 0,sC 0]⟩),(4,⟨[(.int .i64),n9],[(.z,aA 1,0)],[sC 996,cC 1,sC 1001,sC 0,sC 0]⟩),(2,⟨[(.int .i64),(.int .i64),n9,(.int .i64),.bool,(.int .i64),n10],[(aA 1,.aT [0,1],-1),(.z,aA 1,0),(.z,aA 2,0),(.aT [0,0],.aT [3,0],0),(.aT [3,0],.aT [0,0],0),(.aT [0,1],.aT [3,1],0),(.aT [3,1],.aT [0,1],0),(.aT [0,2],.aT [3,2],0),(.aT [3,2],.aT [0,2],0)],[sC 999,cC 1,sC 998,cC 2,sC 1001]⟩)],[sC 1001,sC 0,sC 0,sC 0,sC 0]⟩
/- langdoc/langdocref10.Identifier -/
def zD9:En:=⟨152,[],⟨[(.int .i64)],[.bool],[],[]⟩,[],[sC 1001]⟩
/- langdoc/langdocref16.Word -/
def zD8:En:=⟨153,[(1,⟨[⟨.pure,false⟩,⟨.pure,true⟩,⟨.pure,true⟩,⟨.pure,false⟩],[(1,.v 0),(2,.loc 0 0),(13,.v 1),(14,.v 2)],[some (.whole (.v 3) 1)],[]⟩)],⟨[n3,n2],[(.int .i64)],[],[]⟩,[(1,⟨[n2,(.int .i64),(.int .i64),n3],[(aA 3,aA 2,0),(aA 3,aA 1,0),(.z,aA 4,0)],[sC 999,cC 4,sC 1001]⟩)],[sC 1001,sC 0,sC 0]⟩
/- langdoc/langdocref01.Same -/
def zHN:En:=⟨10,[(1,⟨[⟨.pure,false⟩,⟨.pure,false⟩,⟨.pure,true⟩,⟨.pure,true⟩],[(0,.v 0),(1,.v 1),(12,.v 2),(13,.v 3)],[],[]⟩)],⟨[n2,n2],[.bool],[],[]⟩,[(1,⟨[n2,n2,(.int .i64),(.int .i64)],[(aA 4,aA 2,0),(aA 4,aA 3,0),(.z,aA 5,0)],[sC 999,cC 5,sC 1001]⟩)],[sC 1001,sC 0,sC 0]⟩
/- langdoc/langdocref24.words -/
def zEl:En:=⟨126,[(1,⟨[⟨.pure,true⟩,⟨.pure,false⟩,⟨.pure,false⟩],[(2,.loc 0 0),(3,.loc 1 0),(6,.v 0)],[some (.whole (.v 1) 1),some (.whole (.v 2) 8)],[]⟩),(2,⟨[⟨.pure,true⟩,⟨.pure,true⟩,⟨.pure,false⟩,⟨.pure,false⟩],[(2,.loc 0 0),(3,.loc 1 0),(6,.v 0),(8,.v 1)],[some (.whole (.v 2) 1),some (.whole (.v 3) 8)],[]⟩)],⟨[n3,pG],[(.int .i64)],[],[]⟩,[(1,⟨[(.int .i64),n3,pG],[(.z,aA 2,0),(.aT [0,0],.aT [3,0],0),(.aT [3,0],.aT [0,0],0),(.aT [1,0],.aT [4,0],0),(.aT [4,0],.aT [1,0],0),(.aT [1,1],.aT [4,1],0),(.aT [4,1],.aT [1,1],0),(.aT [1,2],.aT [4,2],0),(.aT [4,2],.aT [1,2],0),(.aT [1,3],.aT [4,3],0),(.aT [4,3],.aT [1,3],0),(.aT [1,4],.aT [4,4],0),(.aT [4,4],.aT [1,4],0),(.aT [1,5],.aT [4,5],0),(.aT [4,5],.aT [1,5],0),(.aT [1,6],.aT [4,6],0),(.aT [4,6],.aT [1,6],0),(.aT [1,7],.aT [4,7],0),(.aT [4,7],.aT [1,7],0)],[sC 999,cC 2,sC 1001,sC 0,sC 0]⟩),(2,⟨[(.int .i64),(.int .i64),n3,pG],[(aA 2,.aT [1,3],-1),(.z,aA 2,0),(.z,aA 3,0),(.aT [0,0],.aT [4,0],0),(.aT [4,0],.aT [0,0],0),(.aT [1,0],.aT [5,0],0),(.aT [5,0],.aT [1,0],0),(.aT [1,1],.aT [5,1],0),(.aT [5,1],.aT [1,1],0),(.aT [1,2],.aT [5,2],0),(.aT [5,2],.aT [1,2],0),(.aT [1,3],.aT [5,3],0),(.aT [5,3],.aT [1,3],0),(.aT [1,4],.aT [5,4],0),(.aT [5,4],.aT [1,4],0),(.aT [1,5],.aT [5,5],0),(.aT [5,5],.aT [1,5],0),(.aT [1,6],.aT [5,6],0),(.aT [5,6],.aT [1,6],0),(.aT [1,7],.aT [5,7],0),(.aT [5,7],.aT [1,7],0)],[sC 999,cC 2,sC 998,cC 3,sC 1001]⟩)],[sC 1001,sC 0,sC 0,sC 0,sC 0]⟩
/- langdoc/langdocref24.Gloss -/
def zD1:En:=⟨176,[(1,⟨[⟨.pure,false⟩,⟨.pure,true⟩],[(0,.v 0),(3,.v 1)],[],[]⟩)],⟨[(.str BG)],[.bool],[],[]⟩,[(1,⟨[(.str BG),(.int .i64)],[(.z,aA 2,0)],[sC 999,cC 2,sC 1001]⟩)],[sC 1001,sC 0,sC 0]⟩
/- langdoc/langdocref12.Text -/
def zD0:En:=⟨177,[(1,⟨[⟨.pure,false⟩,⟨.pure,true⟩],[(3,.v 0),(5,.v 1)],[],[]⟩)],⟨[(.str BG)],[(.int .i64)],[],[]⟩,[(1,⟨[n2,(.int .i64)],[(.z,aA 2,0)],[sC 999,cC 2,sC 1001]⟩)],[sC 1001,sC 0,sC 0]⟩
/- langdoc/langdocref24.has -/
def zDZ:En:=⟨178,[(1,⟨[⟨.pure,false⟩,⟨.pure,false⟩,⟨.pure,true⟩],[(0,.v 0),(1,.v 1),(5,.v 2)],[],[]⟩)],⟨[bN,(.str BG)],[.bool],[],[]⟩,[(1,⟨[bN,(.str BG),(.int .i64)],[(aA 2,aA 0,0),(.z,aA 4,0)],[sC 999,cC 4,sC 1001]⟩)],[sC 1001,sC 0,sC 0]⟩
/- langdoc/langdocref24.sense -/
def zD7:En:=⟨154,[],⟨[bN,n13],[(.int .i64)],[],[]⟩,[],[sC 1001]⟩
/- langdoc/langdocref24.senses -/
def zEk:En:=⟨127,[(1,⟨[⟨.pure,true⟩,⟨.pure,false⟩],[(1,.loc 0 0),(3,.v 0)],[some (.whole (.v 1) 8)],[]⟩)],⟨[pG],[(.int .i64)],[],[]⟩,[(1,⟨[(.int .i64),pG],[(.z,aA 1,0)],[sC 999,cC 1,sC 1001]⟩)],[sC 1001,sC 0,sC 0]⟩
/- langdoc/langdocref24.links -/
def zEj:En:=⟨128,[(1,⟨[⟨.pure,true⟩,⟨.pure,false⟩],[(1,.loc 0 0),(3,.v 0)],[some (.whole (.v 1) 8)],[]⟩)],⟨[pG],[(.int .i64)],[],[]⟩,[(1,⟨[(.int .i64),pG],[(.z,aA 1,0)],[sC 999,cC 1,sC 1001]⟩)],[sC 1001,sC 0,sC 0]⟩
/- langdoc/langdocref24.Ref -/
def zD6:En:=⟨155,[],⟨[wH],[.bool],[],[]⟩,[],[sC 1001]⟩
/- langdoc/langdocref24.Precedes -/
def zD5:En:=⟨156,[],⟨[wH,wH],[.bool],[],[]⟩,[],[sC 1001]⟩
/- langdoc/langdocref24.Refs -/
def zEi:En:=⟨129,[(1,⟨[⟨.pure,false⟩,⟨.pure,true⟩],[(0,.v 0),(5,.v 1)],[],[]⟩)],⟨[qKv,(.int .i64)],[(.int .i64)],[],[]⟩,[(1,⟨[qKv,(.int .i64)],[(.z,aA 3,0)],[sC 999,cC 3,sC 1001]⟩)],[sC 1001,sC 0,sC 0]⟩
/- langdoc/langdocref24.Check -/
def zHA:En:=⟨85,[],⟨[n3,pG],[(.int .i64)],[],[]⟩,[],[sC 1001]⟩
/- langdoc/langdocref25.Get -/
def zEh:En:=⟨130,[(1,⟨[⟨.pure,false⟩,⟨.pure,false⟩,⟨.pure,true⟩,⟨.pure,true⟩],[(0,.v 0),(1,.v 1),(4,.loc 0 0),(8,.v 2),(9,.v 3)],[some (.cells [.c (.int .i64 0),.c (.slice none 0 0),.c (.int .i64 0),.c (.slice none 0 0),.c (.int .i64 0),.c (.slice none 0 0),.c (.slice none 0 0),.c (.slice none 0 0)])],[]⟩)],⟨[n0,(.int .i64)],[pG,.bool],[],[]⟩,[(1,⟨[n0,(.int .i64),(.int .i64),(.int .i64)],[(aA 4,aA 2,0),(.z,aA 5,0)],[sC 999,cC 5,sC 1001]⟩)],[sC 1001,sC 0,sC 0]⟩
/- langdoc/langdocref25.has -/
def zHz:En:=⟨86,[],⟨[n0,(.int .i64)],[.bool],[],[]⟩,[],[sC 1001]⟩
/- langdoc/langdocref25.Check -/
def zFJ:En:=⟨43,[(1,⟨[⟨.pure,false⟩,⟨.pure,true⟩,⟨.pure,true⟩,⟨.pure,false⟩],[(1,.v 0),(2,.loc 0 0),(13,.v 1),(14,.v 2)],[some (.whole (.v 3) 1)],[]⟩),(2,⟨[⟨.pure,false⟩,⟨.pure,true⟩,⟨.pure,true⟩],[(1,.v 0),(44,.v 1),(45,.v 2)],[],[]⟩),(3,⟨[⟨.pure,false⟩,⟨.pure,true⟩,⟨.pure,true⟩,⟨.pure,false⟩,⟨.pure,false⟩,⟨.pure,false⟩,⟨.pure,false⟩,⟨.pure,false⟩,⟨.pure,true⟩,⟨.pure,true⟩],[(1,.v 0),(7,.v 1),(44,.v 2),(45,.v 1),(55,.v 3),(56,.v 3),(57,.v 4),(60,.v 5),(61,.v 6),(62,.v 7),(69,.v 8),(70,.v 9)],[],[]⟩)],⟨[n3,n0],[(.int .i64)],[],[]⟩,[(1,⟨[n0,(.int .i64),(.int .i64),n3],[(aA 2,aA 1,0),(aA 1,aA 2,0),(aA 2,.z,299999998),(aA 3,aA 2,0),(.z,aA 4,0)],[sC 999,cC 4,sC 1001,sC 0,sC 0]⟩),(2,⟨[n0,(.int .i64),(.int .i64)],[(aA 2,aA 3,0),(aA 2,aA 1,0),(aA 1,aA 2,0),(aA 2,.z,299999998),(aA 3,aA 2,0),(.z,aA 4,0)],[sC 998,cC 4,sC 1001,sC 0,sC 0]⟩),(3,⟨[n0,(.int .i64),(.int .i64),.any,.any,.any,.any,.any,(.int .i64),(.int .i64)],[(aA 2,.z,299999998),(.z,aA 3,0),(aA 4,aA 2,0),(aA 2,aA 4,0),(aA 3,aA 4,-1),(aA 4,aA 1,0),(aA 1,aA 4,0),(.z,aA 11,0),(aA 10,.el [2] [3] 6,0)],[sC 998,cC 3,sC 997,cC 11,sC 1001]⟩)],[sC 1001,sC 0,sC 0,sC 0,sC 0]⟩
/- langdoc/langdocref26.Inverse -/
def zHy:En:=⟨87,[],⟨[(.int .i64)],[(.int .i64)],[],[]⟩,[],[sC 1001]⟩
/- langdoc/langdocref26.find -/
def zFB:En:=⟨88,[(1,⟨[⟨.pure,false⟩,⟨.pure,false⟩,⟨.pure,true⟩],[(0,.v 0),(1,.v 1),(5,.v 2)],[],[]⟩)],⟨[qRz,(.int .i64)],[(.int .i64)],[],[(.z,aA 2,1),(aA 2,aA 0,-1)]⟩,[(1,⟨[qRz,(.int .i64),(.int .i64)],[(aA 2,aA 0,0),(.z,aA 4,0)],[sC 999,cC 4,sC 1001]⟩)],[sC 1001,sC 0,sC 0]⟩
/- langdoc/langdocref26.has -/
def zHx:En:=⟨89,[(1,⟨[⟨.pure,true⟩,⟨.pure,false⟩,⟨.pure,false⟩],[(2,.loc 0 0),(3,.loc 1 0),(5,.v 0)],[some (.whole (.v 1) 8),some (.whole (.v 2) 2)],[]⟩)],⟨[pG,wH],[.bool],[],[]⟩,[(1,⟨[(.int .i64),pG,wH],[(.z,aA 2,0)],[sC 999,cC 2,sC 1001]⟩)],[sC 1001,sC 0,sC 0]⟩
/- langdoc/langdocref26.in -/
def zHw:En:=⟨90,[(1,⟨[⟨.pure,false⟩,⟨.pure,false⟩,⟨.pure,true⟩],[(0,.v 0),(1,.v 1),(5,.v 2)],[],[]⟩)],⟨[n2,(.int .i64)],[.bool],[],[]⟩,[(1,⟨[n2,(.int .i64),(.int .i64)],[(.z,aA 4,0)],[sC 999,cC 4,sC 1001]⟩)],[sC 1001,sC 0,sC 0]⟩
/- langdoc/langdocref26.Check -/
def zFI:En:=⟨44,[(1,⟨[⟨.pure,false⟩,⟨.pure,true⟩],[(0,.v 0),(3,.v 1)],[],[]⟩),(2,⟨[⟨.pure,false⟩,⟨.pure,true⟩,⟨.pure,true⟩],[(0,.v 0),(3,.v 1),(4,.v 2)],[],[]⟩),(3,⟨[⟨.pure,false⟩,⟨.pure,true⟩],[(0,.v 0),(7,.v 1)],[],[]⟩)],⟨[n0],[(.int .i64)],[],[]⟩,[(1,⟨[n0,(.int .i64)],[(aA 1,aA 0,0),(aA 0,aA 1,0),(.z,aA 2,0)],[sC 999,cC 2,sC 1001,sC 0,sC 0]⟩),(2,⟨[n0,(.int .i64),(.int .i64)],[(aA 2,aA 1,-1),(aA 1,aA 0,0),(aA 0,aA 1,0),(.z,aA 2,0),(.z,aA 3,0)],[sC 999,cC 2,sC 998,cC 3,sC 1001]⟩),(3,⟨[n0,(.int .i64)],[(.z,aA 2,0)],[sC 997,cC 2,sC 1001,sC 0,sC 0]⟩)],[sC 1001,sC 0,sC 0,sC 0,sC 0]⟩
/- langdoc/langdocref27.find -/
def zHv:En:=⟨92,[(1,⟨[⟨.pure,false⟩,⟨.pure,false⟩,⟨.pure,true⟩],[(0,.v 0),(1,.v 1),(5,.v 2)],[],[]⟩)],⟨[n0,(.int .i64)],[(.int .i64)],[],[(.z,aA 2,1),(aA 2,aA 0,-1)]⟩,[(1,⟨[n0,(.int .i64),(.int .i64)],[(aA 2,aA 0,0),(.z,aA 4,0)],[sC 999,cC 4,sC 1001]⟩)],[sC 1001,sC 0,sC 0]⟩
/- langdoc/langdocref27.way -/
def zHu:En:=⟨93,[(1,⟨[⟨.pure,false⟩,⟨.fresh,true⟩,⟨.pure,true⟩],[(0,.v 0),(5,.v 1),(6,.v 2)],[],[]⟩)],⟨[n0,(.int .i64)],[n2],[(aA 0,.z,299999999)],[]⟩,[(1,⟨[n0,n2,(.int .i64)],[(aA 4,aA 2,-1),(aA 2,aA 0,0)],[sC 999,cC 3,sC 1001]⟩)],[sC 1001,sC 0,sC 0]⟩
/- langdoc/langdocref27.Check -/
def zFH:En:=⟨45,[(1,⟨[⟨.pure,false⟩,⟨.pure,true⟩],[(0,.v 0),(3,.v 1)],[],[]⟩),(2,⟨[⟨.pure,false⟩,⟨.pure,true⟩],[(0,.v 0),(4,.v 1)],[],[]⟩)],⟨[n0],[(.int .i64)],[(aA 0,.z,299999999)],[]⟩,[(1,⟨[n0,(.int .i64)],[(aA 1,aA 0,0),(.z,aA 2,0)],[sC 999,cC 2,sC 1001]⟩),(2,⟨[n0,(.int .i64)],[(aA 1,aA 0,0),(.z,aA 2,0)],[sC 998,cC 2,sC 1001]⟩)],[sC 1001,sC 0,sC 0]⟩
/- langdoc/langdocref29.Check -/
def zHL:En:=⟨17,[],⟨[n8],[(.int .i64)],[(.aT [0,8],.z,299999999)],[]⟩,[],[sC 1001]⟩
/- langdoc/langdocref29.Light -/
def e6:En:=⟨6,[(1,⟨[⟨.pure,true⟩,⟨.pure,false⟩],[(1,.loc 0 0),(3,.v 0)],[some (.whole (.v 1) 9)],[]⟩)],⟨[n8],[.bool],[(.aT [0,8],.z,299999999)],[]⟩,[(1,⟨[(.int .i64),n8],[(.z,aA 1,0),(.aT [2,8],.aT [0,8],0)],[sC 999,cC 1,sC 1001]⟩)],[sC 1001,sC 0,sC 0]⟩
def qXI:List En:=[zFM,zBK,zBJ,zFG,zFD,zEn,zHM,e5,zD9,zD8,zHN,zEl,zDZ,zEj,zD6,zD5,zEi,zEh,zHz,zHy,zFB,zHx,zHw,zHv,zHu,zFH]
def qXH:List En:=[zEo,zHB,zFK,zFE,zFF,zEm,zFC,zHJ,zD1,zD0,zD7,zEk,zHA,zFJ,zFI]
def zBv:List En:=[zHL,e6]
theorem qYE:qDF EE Tryz.prog TT [] qXI=true:=by kernel_rfl
theorem qQT:∀p∈s6 [] qXI,yA (qA EE) p.1 p.2:=qDE qPr qIP uT (λ_ h=>by cases h) qYE
end Go.Proofs.YtocbbgmhkhallaaGreatDoor
namespace Go.Proofs.YtocbbgmhkhallaaGreatDoor
open Go Go.Am Go.Proofs
def qUA:Nat->Pat
 |1=>⟨[⟨.pure,false⟩,⟨.pure,false⟩,⟨.pure,true⟩,⟨.pure,true⟩,⟨.pure,true⟩],[(0,.v 0),(1,.v 1),(6,.v 2),(7,.v 3),(8,.v 4)],[],[]⟩
 |_=>⟨[],[],[],[]⟩
def qND:Tree:=
 .bind .qf [.v 0,.v 1] <|
 .bind (.conv 5 3) [.v 2] <|
 jP .geq 14 240 3 <|
 zO 4 (
  jP .sub 16 240 3 <|
  .bind (.bin .add 3 (.tmp 28) (.tmp 29)) [.v 1,k' 4] <|
  .bind (.len true) [.v 0] <|
  j4 .gtr 30 32 6 7 <|
  zO 8 (
   .ret [.c (.int .i64 (-1)),k' 0]) (
   .jump 1 [.v 0,.v 1,.v 5,k' 4,k' 1])) (
  jP .geq 19 224 3 <|
  zO 5 (
   jP .sub 21 224 3 <|
   .bind (.bin .add 3 (.tmp 28) (.tmp 29)) [.v 1,k' 3] <|
   .bind (.len true) [.v 0] <|
   j4 .gtr 30 32 7 8 <|
   zO 9 (
    .ret [.c (.int .i64 (-1)),k' 0]) (
    .jump 1 [.v 0,.v 1,.v 6,k' 3,k' 1])) (
   jP .geq 24 192 3 <|
   zO 6 (
    jP .sub 26 192 3 <|
    .bind (.bin .add 3 (.tmp 28) (.tmp 29)) [.v 1,k' 2] <|
    .bind (.len true) [.v 0] <|
    j4 .gtr 30 32 8 9 <|
    zO 10 (
     .ret [.c (.int .i64 (-1)),k' 0]) (
     .jump 1 [.v 0,.v 1,.v 7,k' 2,k' 1])) (
    .bind (.bin .add 3 (.tmp 28) (.tmp 29)) [.v 1,k' 1] <|
    .bind (.len true) [.v 0] <|
    j4 .gtr 30 32 7 8 <|
    zO 9 (
     .ret [.c (.int .i64 (-1)),k' 0]) (
     .jump 1 [.v 0,.v 1,.v 3,k' 1,k' 1]))))
def qNC:Tree:=
 j4 .lss 34 35 4 3 <|
 zO 5 (
  jP .mul 39 64 2 <|
  j4 .add 42 43 1 4 <|
  .bind .qf [.v 0,.v 7] <|
  .bind (.conv 5 3) [.v 8] <|
  jP .rem 46 64 9 <|
  j4 .add 40 47 6 10 <|
  jP .add 37 1 4 <|
  .jump 1 [.v 0,.v 1,.v 11,.v 3,.v 12]) (
  wM 174 [.v 2] 1 <|
  .bind (.un .not 4) [.v 6] <|
  zO 7 (
   .ret [.c (.int .i64 (-1)),k' 0]) (
   wM 175 [.v 2] 1 <|
   j4 .add 57 58 1 3 <|
   .bind (.sub true true) [.v 0,.v 1,.v 9] <|
   .bind (.bin .neq 9 (.tmp 54) (.tmp 60)) [.v 8,.v 10] <|
   zO 11 (
    .ret [.c (.int .i64 (-1)),k' 0]) (
    .ret [.v 2,.v 3])))
def qAc:LV
 |0=>qND
 |1=>qNC
 |_=>.fail
def qZK:Nat->Pat
 |1=>⟨[⟨.pure,true⟩,⟨.pure,false⟩,⟨.pure,false⟩],[(2,.loc 0 0),(3,.loc 1 0),(5,.v 0)],[some (.whole (.v 1) 1),some (.whole (.v 2) 3)],[]⟩
 |2=>⟨[⟨.fresh,true⟩,⟨.pure,true⟩,⟨.pure,false⟩],[(3,.loc 1 0),(7,.v 0),(8,.v 1)],[none,some (.whole (.v 2) 3)],[]⟩
 |3=>⟨[⟨.fresh,true⟩,⟨.pure,true⟩,⟨.pure,true⟩,⟨.pure,false⟩],[(3,.loc 1 0),(7,.v 0),(8,.v 1),(9,.v 2)],[none,some (.whole (.v 3) 3)],[]⟩
 |_=>⟨[],[],[],[]⟩
def qT1:Tree:=
 xV 1 0 <|
 xV 3 1 <|
 vA 0 3 <|
 wM 80 [.v 4] 1 <|
 .bind (.un .not 4) [.v 5] <|
 zO 6 (
  lD 7) (
  vA 1 3 <|
  jT 7 <|
  jP .gtr 17 100 8 <|
  zO 9 (
   lD 11) (
   .jump 1 [k' 0,.v 2,.v 3]))
def qT0:Tree:=
 vA 1 2 <|
 jT 3 <|
 j4 .lss 19 22 0 4 <|
 zO 5 (
  wM 81 [.v 1,.v 2,.v 0] 1 <|
  .bind (.bin .neq 39 (.tmp 30) (K' 0)) [.v 6,k' 0] <|
  zO 7 (
   .ret [.v 6]) (
   jP .add 24 1 0 <|
   .jump 1 [.v 8,.v 1,.v 2])) (
  vA 2 2 <|
  jT 6 <|
  jP .gtr 35 100 7 <|
  zO 8 (
   lD 11) (
   .jump 2 [.c (.slice none 0 0),k' 0,.v 2]))
def qTZ:Tree:=
 vA 2 2 <|
 jT 3 <|
 j4 .lss 37 40 1 4 <|
 zO 5 (
  vA 2 2 <|
  wG 6 1 <|
  vC 1 0 6 1 <|
  jT 8 <|
  jP .eql 49 0 9 <|
  zO 10 (
   lD 4) (
   .jump 3 [.v 0,.v 1,k' 0,.v 2])) (
  lD 0)
def qTY:Tree:=
 vA 2 3 <|
 wG 4 1 <|
 vC 1 0 4 1 <|
 jT 6 <|
 j4 .lss 51 57 2 7 <|
 zO 8 (
  vA 2 3 <|
  wG 9 1 <|
  vC 1 0 9 1 <|
  wG 11 2 <|
  vC 1 0 11 2 <|
  wM 82 [.v 13] 1 <|
  .bind (.un .not 4) [.v 14] <|
  zO 15 (
   lD 3) (
   wM 83 [.v 0,.v 13] 1 <|
   zO 16 (
    lD 8) (
    qGE 13 <|
    .bind (.lit 9 1) [.v 13] <|
    .bind (.app 9 1 16) [.v 0,.v 18] <|
    jP .add 59 1 2 <|
    .jump 3 [.v 19,.v 1,.v 20,.v 3]))) (
  jP .add 42 1 1 <|
  .jump 2 [.v 0,.v 9,.v 3])
def qBU:LV
 |0=>qT1
 |1=>qT0
 |2=>qTZ
 |3=>qTY
 |_=>.fail
def qUz:Nat->Pat
 |1=>⟨[⟨.pure,false⟩,⟨.pure,false⟩,⟨.fresh,true⟩,⟨.pure,true⟩],[(0,.v 0),(1,.v 1),(5,.v 2),(6,.v 3)],[],[]⟩
 |_=>⟨[],[],[],[]⟩
def qNB:Tree:=
 .jump 1 [.v 0,.v 1,.c (.slice none 0 0),k' 0]
def qNA:Tree:=
 jT 0 <|
 j4 .lss 7 9 3 4 <|
 zO 5 (
  wG 0 3 <|
  vC 1 0 0 3 <|
  j4 .lss 15 16 7 1 <|
  zO 8 (
   wG 0 3 <|
   vC 1 0 0 3 <|
   qGE 10 <|
   .bind (.lit 3 1) [.v 10] <|
   .bind (.app 3 1 8) [.v 2,.v 12] <|
   jP .add 26 1 3 <|
   .jump 1 [.v 0,.v 1,.v 13,.v 14]) (
   qGE 1 <|
   .bind (.lit 3 1) [.v 1] <|
   .bind (.app 3 1 8) [.v 2,.v 10] <|
   jT 0 <|
   j4 .lss 32 34 3 12 <|
   zO 13 (
    wG 0 3 <|
    vC 1 0 0 3 <|
    j4 .eql 40 41 15 1 <|
    zO 16 (
     jP .add 44 1 3 <|
     .bind (.lu 3 1 true false) [.v 0,.v 17] <|
     .bind (.app 3 1 8) [.v 11,.v 18] <|
     .ret [.v 19]) (
     .bind (.lu 3 1 true false) [.v 0,.v 3] <|
     .bind (.app 3 1 8) [.v 11,.v 17] <|
     .ret [.v 18])) (
    .bind (.lu 3 1 true false) [.v 0,.v 3] <|
    .bind (.app 3 1 8) [.v 11,.v 14] <|
    .ret [.v 15]))) (
  qGE 1 <|
  .bind (.lit 3 1) [.v 1] <|
  .bind (.app 3 1 8) [.v 2,.v 7] <|
  jT 0 <|
  j4 .lss 32 34 3 9 <|
  zO 10 (
   wG 0 3 <|
   vC 1 0 0 3 <|
   j4 .eql 40 41 12 1 <|
   zO 13 (
    jP .add 44 1 3 <|
    .bind (.lu 3 1 true false) [.v 0,.v 14] <|
    .bind (.app 3 1 8) [.v 8,.v 15] <|
    .ret [.v 16]) (
    .bind (.lu 3 1 true false) [.v 0,.v 3] <|
    .bind (.app 3 1 8) [.v 8,.v 14] <|
    .ret [.v 15])) (
   .bind (.lu 3 1 true false) [.v 0,.v 3] <|
   .bind (.app 3 1 8) [.v 8,.v 11] <|
   .ret [.v 12]))
def qIy:LV
 |0=>qNB
 |1=>qNA
 |_=>.fail
def qY1:Nat->Pat
 |1=>⟨[⟨.pure,false⟩,⟨.pure,false⟩,⟨.fresh,true⟩,⟨.fresh,true⟩,⟨.pure,true⟩],[(0,.v 0),(2,.v 1),(7,.v 2),(8,.v 3),(9,.v 4)],[],[]⟩
 |2=>⟨[⟨.pure,false⟩,⟨.pure,false⟩,⟨.fresh,true⟩,⟨.fresh,true⟩,⟨.pure,true⟩,⟨.fresh,true⟩,⟨.pure,true⟩],[(0,.v 0),(2,.v 1),(7,.v 2),(8,.v 3),(9,.v 4),(10,.v 5),(11,.v 6)],[],[]⟩
 |3=>⟨[⟨.pure,false⟩,⟨.pure,false⟩,⟨.fresh,true⟩,⟨.fresh,true⟩,⟨.pure,true⟩,⟨.fresh,true⟩,⟨.pure,true⟩,⟨.pure,true⟩,⟨.pure,true⟩],[(0,.v 0),(2,.v 1),(7,.v 2),(8,.v 3),(9,.v 4),(10,.v 5),(11,.v 6),(12,.v 7),(13,.v 8)],[],[]⟩
 |4=>⟨[⟨.pure,false⟩,⟨.fresh,true⟩,⟨.fresh,true⟩,⟨.pure,true⟩],[(0,.v 0),(7,.v 1),(16,.v 2),(17,.v 3)],[],[]⟩
 |_=>⟨[],[],[],[]⟩
def qTn:Tree:=
 jT 0 <|
 .bind (.mk 4 1 1 false [(.bool false)]) [.v 3] <|
 qGE 1 <|
 .bind (.lit 3 1) [.v 1] <|
 .jump 1 [.v 0,.v 2,.v 4,.v 6,k' 0]
def qTm:Tree:=
 jT 0 <|
 j4 .leq 23 25 4 5 <|
 zO 6 (
  .jump 2 [.v 0,.v 1,.v 2,.v 3,.v 4,.c (.slice none 0 0),k' 0]) (
  .jump 4 [.v 0,.v 2,.c (.slice none 0 0),k' 0])
def qTl:Tree:=
 jT 3 <|
 j4 .lss 29 31 6 7 <|
 zO 8 (
  wG 3 6 <|
  vC 1 0 3 6 <|
  wM 88 [.v 0,.v 10] 1 <|
  .jump 3 [.v 0,.v 1,.v 2,.v 3,.v 4,.v 5,.v 6,.v 11,k' 0]) (
  jP .add 27 1 4 <|
  .jump 1 [.v 0,.v 1,.v 2,.v 5,.v 9])
def qTk:Tree:=
 jP .geq 41 0 7 <|
 zO 9 (
  wG 0 7 <|
  vC 8 6 0 7 <|
  jT 11 <|
  j4 .lss 44 50 8 12 <|
  zO 13 (
   wG 0 7 <|
   vC 8 6 0 7 <|
   wG 15 8 <|
   .bind (.elem 2 true 2 0) [.v 15,.v 8] <|
   xV 2 17 <|
   vA 1 18 <|
   wM 88 [.v 0,.v 19] 1 <|
   vA 0 18 <|
   j4 .eql 68 69 21 1 <|
   zO 22 (
    jP .geq 72 0 20 <|
    zO 23 (
     wG 2 20 <|
     vC 1 0 2 20 <|
     .bind (.un .not 4) [.v 25] <|
     zO 26 (
      wG 2 20 <|
      .bind (.set 1 false 1 0) [.v 2,.v 20,.c (.bool true)] <|
      vA 1 18 <|
      qGE 29 <|
      .bind (.lit 3 1) [.v 29] <|
      .bind (.app 3 1 8) [.v 5,.v 31] <|
      jP .add 53 1 8 <|
      .jump 3 [.v 0,.v 1,.v 28,.v 3,.v 4,.v 32,.v 6,.v 7,.v 33]) (
      jP .add 53 1 8 <|
      .jump 3 [.v 0,.v 1,.v 2,.v 3,.v 4,.v 5,.v 6,.v 7,.v 27])) (
     jP .add 53 1 8 <|
     .jump 3 [.v 0,.v 1,.v 2,.v 3,.v 4,.v 5,.v 6,.v 7,.v 24])) (
    jP .add 53 1 8 <|
    .jump 3 [.v 0,.v 1,.v 2,.v 3,.v 4,.v 5,.v 6,.v 7,.v 23])) (
   jP .add 33 1 6 <|
   .jump 2 [.v 0,.v 1,.v 2,.v 3,.v 4,.v 5,.v 14])) (
  jP .add 33 1 6 <|
  .jump 2 [.v 0,.v 1,.v 2,.v 3,.v 4,.v 5,.v 10])
def qTj:Tree:=
 jT 0 <|
 j4 .lss 91 93 3 4 <|
 zO 5 (
  wG 1 3 <|
  vC 1 0 1 3 <|
  zO 7 (
   wG 0 3 <|
   vC 8 0 0 3 <|
   qGE 9 <|
   .bind (.lit 3 1) [.v 9] <|
   .bind (.app 3 1 8) [.v 2,.v 11] <|
   jP .add 95 1 3 <|
   .jump 4 [.v 0,.v 1,.v 12,.v 13]) (
   jP .add 95 1 3 <|
   .jump 4 [.v 0,.v 1,.v 2,.v 8])) (
  .ret [.v 2])
def qEb:LV
 |0=>qTn
 |1=>qTm
 |2=>qTl
 |3=>qTk
 |4=>qTj
 |_=>.fail
def qUG:Nat->Pat
 |1=>⟨[⟨.pure,false⟩,⟨.pure,false⟩,⟨.pure,true⟩,⟨.pure,true⟩],[(0,.v 0),(3,.v 1),(6,.v 2),(7,.v 3)],[],[]⟩
 |_=>⟨[],[],[],[]⟩
def qVG:Tree:=
 jT 0 <|
 .jump 1 [.v 0,.c (.slice none 0 0),.v 1,k' 0]
def qVF:Tree:=
 j4 .lss 7 6 3 2 <|
 zO 4 (
  wG 0 3 <|
  vC 1 0 0 3 <|
  wM 151 [.v 1,.v 6] 0 <|
  jP .add 7 1 3 <|
  .jump 1 [.v 0,.v 7,.v 2,.v 8]) (
  .ret [.v 1])
theorem qS5:(kY Tryz.f150 2 qUA,
 hd Tryz.f150 2 qUA,
 nr Tryz.f150,
 kY Tryz.f41 2 qZK,
 hd Tryz.f41 2 qZK,
 nr Tryz.f41,
 kY Tryz.f151 2 qUz,
 hd Tryz.f151 2 qUz,
 nr Tryz.f151,
 kY Tryz.f91 3 qY1,
 hd Tryz.f91 3 qY1,
 nr Tryz.f91,
 kY Tryz.f125 1 qUG,
 hd Tryz.f125 1 qUG,
 nr Tryz.f125) =
 (qND,[(1,qNC)],false,qT1,[(1,qT0),(2,qTZ),(3,qTY)],false,qNB,[(1,qNA)],false,qTn,[(1,qTm),(2,qTl),(3,qTk),(4,qTj)],false,qVG,[(1,qVF)],false):=by kernel_rfl
theorem zCD{ds:LR}{d:D}(x:ds.length=2)(h:qP EE (qA EE) qAc 0 ds d):qA EE 150 ds d:=
 hv Tryz.func150 rfl qS5 (j9 rfl<|jU) x h
theorem zEX{ds:LR}{d:D}(x:ds.length=2)(h:qP EE (qA EE) qBU 0 ds d):qA EE 41 ds d:=
 hv Tryz.func41 rfl (xE (xE (xE qS5))) (j9 rfl<|j9 rfl<|j9 rfl<|jU) x h
theorem zCC{ds:LR}{d:D}(x:ds.length=2)(h:qP EE (qA EE) qIy 0 ds d):qA EE 151 ds d:=
 hv Tryz.func151 rfl (xE (xE (xQ qS5))) (j9 rfl<|jU) x h
theorem zFT{ds:LR}{d:D}(x:ds.length=3)(h:qP EE (qA EE) qEb 0 ds d):qA EE 91 ds d:=
 hv Tryz.func91 rfl (xE (xQ (xQ qS5))) (j9 rfl<|j9 rfl<|j9 rfl<|j9 rfl<|jU) x h
end Go.Proofs.YtocbbgmhkhallaaGreatDoor
