/- What the checker is told of functions. Conditions: none. -/
import Derived.Test.YtnemldklhelbeaaGreatJa
set_option linter.unusedVariables false
set_option linter.unusedSimpArgs false
namespace Go.Proofs.YtnemldklhelbeaaGreat
open Go Go.Am Go.Proofs Go.Am.Tt
abbrev BG:Nat:=300000000
def sC (n:Int):Ms:=(.z,.z,n)
def cC (i:Nat):Ms:=(.z,.aT [i],300000001)
def aA (i:Nat):Pt:=.aT [i]
def n0:Sn:=(.sl 59 8 BG (.st [(.int .i64),(.sl 3 1 1048576 (.int .i64)),(.int .i64),(.sl 31 1 1048576 (.sl 3 1 1048576 (.int .i64))),(.int .i64),(.sl 79 2 1048576 (.st [(.str BG),(.str BG)])),(.sl 134 2 1048576 (.st [(.int .i64),(.int .i64)])),(.sl 182 2 1048576 (.st [(.int .i64),(.int .i64)]))]))
def n1:Sn:=(.sl 31 1 BG (.sl 3 1 1048576 (.int .i64)))
def n2:Sn:=(.sl 3 1 BG (.int .i64))
def n3:Sn:=(.st [(.sl 71 2 BG (.st [(.str BG),(.int .i64)]))])
def n4:Sn:=(.st [(.str BG),(.sl 73 2 BG (.st [(.str BG),(.sl 3 1 BG (.int .i64))])),(.sl 74 1 BG (.sl 9 1 BG (.str BG)))])
def n5:Sn:=(.st [(.str BG),(.sl 3 1 BG (.int .i64))])
def n6:Sn:=(.sl 9 1 BG (.str BG))
def n7:Sn:=(.st [(.sl 3 1 BG (.int .i64)),(.sl 3 1 BG (.int .i64)),(.sl 120 2 BG (.st [(.int .i64),(.int .i64)])),(.sl 120 2 BG (.st [(.int .i64),(.int .i64)])),.bool,.bool])
def n8:Sn:=(.st [(.sl 71 2 BG (.st [(.str BG),(.int .i64)])),(.str BG),(.sl 73 2 BG (.st [(.str BG),(.sl 3 1 1048576 (.int .i64))])),(.sl 74 1 BG (.sl 9 1 1048576 (.str BG))),(.sl 77 6 BG (.st [(.sl 3 1 1048576 (.int .i64)),(.sl 3 1 1048576 (.int .i64)),(.sl 120 2 1048576 (.st [(.int .i64),(.int .i64)])),(.sl 120 2 1048576 (.st [(.int .i64),(.int .i64)])),.bool,.bool])),(.int .i64),(.sl 122 3 BG (.st [(.int .i64),(.int .i64),(.int .i64)])),(.sl 3 1 BG (.int .i64)),(.sl 59 8 BG (.st [(.int .i64),(.sl 3 1 1048576 (.int .i64)),(.int .i64),(.sl 31 1 1048576 (.sl 3 1 1048576 (.int .i64))),(.int .i64),(.sl 79 2 1048576 (.st [(.str BG),(.str BG)])),(.sl 134 2 1048576 (.st [(.int .i64),(.int .i64)])),(.sl 182 2 1048576 (.st [(.int .i64),(.int .i64)]))]))])
def n9:Sn:=(.st [(.int .i64),(.sl 122 3 BG (.st [(.int .i64),(.int .i64),(.int .i64)])),(.sl 3 1 BG (.int .i64))])
def qZs:Sn:=(.st [(.int .i64),(.int .i64),(.int .i64)])
def qK5:Sn:=(.st [(.int .i64),(.sl 3 1 BG (.int .i64)),(.int .i64),(.sl 31 1 BG (.sl 3 1 1048576 (.int .i64))),(.int .i64),(.sl 79 2 BG (.st [(.str BG),(.str BG)])),(.sl 134 2 BG (.st [(.int .i64),(.int .i64)])),(.sl 182 2 BG (.st [(.int .i64),(.int .i64)]))])
def qWY:Sn:=(.sl 79 2 BG (.st [(.str BG),(.str BG)]))
def qZr:Sn:=(.st [(.str BG),(.str BG)])
def qU5:Sn:=(.st [(.int .i64),(.int .i64)])
def qX4:Sn:=(.sl 182 2 BG (.st [(.int .i64),(.int .i64)]))
def qX3:Sn:=(.sl 59 8 BG (.st [(.int .i64),(.sl 3 1 BG (.int .i64)),(.int .i64),(.sl 31 1 BG (.sl 3 1 BG (.int .i64))),(.int .i64),(.sl 79 2 BG (.st [(.str BG),(.str BG)])),(.sl 134 2 BG (.st [(.int .i64),(.int .i64)])),(.sl 182 2 BG (.st [(.int .i64),(.int .i64)]))]))
def qZl:List (Nat × Sn):=[(5,(.int .u8)),(3,(.int .i64))]
def qYs:List (TypeId × TypeId × IntKind × IntKind):=[(3,5,.i64,.u8)]
def qX1:List (Bool × TypeId × Int):=[(false,3,64),(true,3,64),(false,3,4096),(false,3,262144)]
def qXZ:List (Nat × (Nat × List Sn)):=[(122,(4,[(.int .i64),(.int .i64),(.int .i64)])),(134,(4,[(.int .i64),(.int .i64)]))]
theorem qSQ:∀ x∈qYs,qVR EE x:=qBo (fun m=>⟨IntKind.u8.wrap m,by kernel_rfl⟩) <| qTg
theorem qRS:∀ x∈qX1,qVP EE x:=qBo (fun m _ _=>⟨IntKind.i64.wrap (m.tdiv 64),by kernel_rfl⟩) <| qBo (fun m _ _=>⟨m.tmod 64,by kernel_rfl⟩) <| qBo (fun m _ _=>⟨IntKind.i64.wrap (m.tdiv 4096),by kernel_rfl⟩) <| qBo (fun m _ _=>⟨IntKind.i64.wrap (m.tdiv 262144),by kernel_rfl⟩) <| qTg
theorem qRF:∀ x∈qXZ,qOI EE x:=qBo (qGU (by kernel_rfl)) <| qBo (qGU (by kernel_rfl)) <| qTg
def TT:Tb:=qUL qZl qYs qX1 qXZ
theorem qMv:TbOk EE TT:=qUK qSQ qRS qRF
/- langdoc/langdocref29.small -/
def qYl:En:=⟨38,[(1,⟨[⟨.pure,false⟩,⟨.pure,true⟩],[(0,.v 0),(3,.v 1)],[],[]⟩),(2,⟨[⟨.pure,false⟩,⟨.pure,true⟩,⟨.pure,true⟩,⟨.pure,true⟩,⟨.pure,true⟩],[(0,.v 0),(3,.v 1),(4,.v 2),(22,.v 0),(23,.v 1),(26,.v 3),(27,.v 4),(28,.c (.bool false))],[],[]⟩)],⟨[n0],[.bool],[],[]⟩,[(1,⟨[n0,(.int .i64)],[(aA 1,aA 0,0),(aA 0,aA 1,0),(aA 1,.z,299999998),(.z,aA 2,0)],[sC 999,cC 2,sC 1001,sC 0,sC 0]⟩),(2,⟨[n0,(.int .i64),(.int .i64),n1,(.int .i64)],[(aA 1,aA 0,0),(aA 0,aA 1,0),(aA 1,.z,299999998),(aA 2,aA 0,-1),(.z,aA 2,0),(.z,aA 3,0)],[sC 999,cC 2,sC 998,cC 3,sC 1001]⟩)],[sC 1001,sC 0,sC 0,sC 0,sC 0]⟩
/- langdoc/langdocref02.Scalar -/
def qVy:En:=⟨122,[],⟨[(.int .i64)],[.bool],[],[]⟩,[],[sC 1001]⟩
/- langdoc/langdocref02.encoded -/
def qVx:En:=⟨123,[],⟨[(.int .i64)],[(.str BG)],[],[]⟩,[],[sC 1001]⟩
/- langdoc/langdocref02.Points -/
def qZ0:En:=⟨93,[(1,⟨[⟨.pure,false⟩,⟨.fresh,true⟩,⟨.pure,true⟩],[(0,.v 0),(4,.v 1),(5,.v 2)],[],[]⟩)],⟨[(.str BG)],[n2,.bool],[],[]⟩,[(1,⟨[(.str BG),n2,(.int .i64)],[(aA 2,aA 3,0)],[sC 999,cC 3,sC 1001]⟩)],[sC 1001,sC 0,sC 0]⟩
/- langdoc/langdocref10.Label -/
def zAa:En:=⟨58,[(1,⟨[⟨.pure,false⟩,⟨.pure,true⟩],[(0,.v 0),(3,.v 1)],[],[]⟩)],⟨[(.str BG)],[.bool],[],[]⟩,[(1,⟨[(.str BG),(.int .i64)],[(.z,aA 2,0)],[sC 999,cC 2,sC 1001]⟩)],[sC 1001,sC 0,sC 0]⟩
/- langdoc/langdocref16.Check -/
def qYq:En:=⟨31,[(1,⟨[⟨.pure,true⟩,⟨.pure,true⟩,⟨.pure,false⟩],[(1,.loc 0 0),(11,.v 0),(12,.v 1)],[some (.whole (.v 2) 1)],[]⟩),(2,⟨[⟨.pure,true⟩,⟨.pure,true⟩,⟨.pure,true⟩,⟨.pure,false⟩],[(1,.loc 0 0),(3,.v 0),(4,.v 1),(11,.v 2),(12,.v 0)],[some (.whole (.v 3) 1)],[]⟩)],⟨[n3],[(.int .i64)],[],[]⟩,[(1,⟨[(.int .i64),(.int .i64),n3],[(.aT [3,0],aA 1,0),(aA 1,.aT [0,0],0),(aA 1,.z,64),(.z,aA 2,0),(.aT [0,0],.aT [3,0],0)],[sC 999,cC 2,sC 1001,sC 0,sC 0]⟩),(2,⟨[(.int .i64),(.int .i64),(.int .i64),n3],[(aA 2,aA 1,0),(.z,aA 2,0),(aA 1,aA 3,-1),(aA 3,.aT [0,0],0),(.aT [0,0],aA 3,0),(aA 3,.z,64),(.aT [0,0],.aT [4,0],0),(.aT [4,0],.aT [0,0],0)],[sC 999,cC 1,sC 998,cC 2,sC 1001]⟩)],[sC 1001,sC 0,sC 0,sC 0,sC 0]⟩
/- langdoc/langdocref10.Name -/
def qYk:En:=⟨59,[(1,⟨[⟨.pure,false⟩,⟨.pure,true⟩],[(0,.v 0),(3,.v 1)],[],[]⟩)],⟨[(.str BG)],[.bool],[],[]⟩,[(1,⟨[(.str BG),(.int .i64)],[(.z,aA 2,0)],[sC 999,cC 2,sC 1001]⟩)],[sC 1001,sC 0,sC 0]⟩
/- langdoc/langdocref17.label -/
def qYi:En:=⟨61,[(1,⟨[⟨.pure,false⟩,⟨.pure,true⟩],[(0,.v 0),(3,.v 1)],[],[]⟩)],⟨[(.str BG)],[.bool],[],[]⟩,[(1,⟨[(.str BG),(.int .i64)],[(.z,aA 2,0)],[sC 999,cC 2,sC 1001]⟩)],[sC 1001,sC 0,sC 0]⟩
/- langdoc/langdocref17.unit -/
def qYj:En:=⟨60,[(1,⟨[⟨.pure,false⟩,⟨.pure,true⟩,⟨.pure,false⟩,⟨.pure,false⟩,⟨.pure,false⟩],[(2,.v 0),(3,.loc 0 0),(4,.loc 1 0),(7,.loc 2 0),(8,.v 1)],[some (.whole (.v 2) 1),some (.whole (.v 3) 3),some (.whole (.v 4) 2)],[]⟩),(2,⟨[⟨.pure,true⟩,⟨.pure,false⟩,⟨.pure,false⟩],[(3,.loc 0 0),(7,.loc 2 0),(9,.v 0)],[some (.whole (.v 1) 1),none,some (.whole (.v 2) 2)],[]⟩)],⟨[n3,n4,(.int .i64)],[(.int .i64)],[(.z,aA 2,0),(aA 2,.aT [1,1],-1)],[]⟩,[(1,⟨[(.int .i64),(.int .i64),n3,n4,n5],[(aA 3,.aT [6,1],-1),(aA 3,aA 2,0),(.z,aA 4,0)],[sC 999,cC 4,sC 1001]⟩),(2,⟨[(.int .i64),n3,n5],[(.z,aA 3,0)],[sC 998,cC 3,sC 1001]⟩)],[sC 1001,sC 0,sC 0]⟩
/- langdoc/langdocref17.has -/
def qYh:En:=⟨62,[(1,⟨[⟨.pure,false⟩,⟨.pure,false⟩,⟨.pure,true⟩],[(0,.v 0),(1,.v 1),(5,.v 2)],[],[]⟩)],⟨[n6,(.str BG)],[.bool],[],[]⟩,[(1,⟨[n6,(.str BG),(.int .i64)],[(aA 2,aA 0,0),(.z,aA 4,0)],[sC 999,cC 4,sC 1001]⟩)],[sC 1001,sC 0,sC 0]⟩
/- langdoc/langdocref16.Is -/
def qZZ:En:=⟨94,[],⟨[n3,(.int .i64)],[.bool],[],[]⟩,[],[sC 1001]⟩
/- langdoc/langdocref01.Sorted -/
def qZY:En:=⟨95,[(1,⟨[⟨.pure,false⟩,⟨.pure,false⟩,⟨.pure,true⟩,⟨.pure,true⟩],[(0,.v 0),(3,.v 1),(6,.v 2),(7,.v 3)],[],[]⟩)],⟨[n2],[n2],[],[]⟩,[(1,⟨[n2,n2,(.int .i64),(.int .i64)],[(aA 3,aA 1,0),(aA 2,aA 4,0)],[sC 999,cC 4,sC 1001]⟩)],[sC 1001,sC 0,sC 0]⟩
/- langdoc/langdocref22.Check -/
def qZ9:En:=⟨63,[(1,⟨[⟨.pure,true⟩,⟨.pure,true⟩,⟨.pure,false⟩,⟨.pure,false⟩],[(2,.loc 0 0),(3,.loc 1 0),(21,.v 0),(22,.v 1)],[some (.whole (.v 2) 1),some (.whole (.v 3) 6)],[]⟩)],⟨[n3,n7],[(.int .i64)],[],[]⟩,[(1,⟨[(.int .i64),(.int .i64),n3,n7],[(aA 2,.aT [1,0],0),(aA 2,.aT [1,1],0),(.z,aA 3,0),(.aT [1,0],.aT [5,0],0),(.aT [1,1],.aT [5,1],0)],[sC 999,cC 3,sC 1001]⟩)],[sC 1001,sC 0,sC 0]⟩
/- langdoc/langdocref29.rules -/
def zAb:En:=⟨33,[(1,⟨[⟨.pure,true⟩,⟨.pure,false⟩],[(1,.loc 0 0),(3,.v 0)],[some (.whole (.v 1) 9)],[]⟩)],⟨[n8],[(.int .i64)],[],[]⟩,[(1,⟨[(.int .i64),n8],[(.z,aA 1,0)],[sC 999,cC 1,sC 1001]⟩)],[sC 1001,sC 0,sC 0]⟩
/- langdoc/langdocref23.state -/
def qZ8:En:=⟨64,[],⟨[n9,(.int .i64)],[.bool],[],[]⟩,[],[sC 1001]⟩
/- langdoc/langdocref23.Check -/
def qYp:En:=⟨34,[(1,⟨[⟨.pure,true⟩,⟨.pure,false⟩],[(1,.loc 0 0),(3,.v 0)],[some (.whole (.v 1) 3)],[]⟩),(2,⟨[⟨.pure,true⟩,⟨.pure,true⟩,⟨.pure,false⟩,⟨.pure,true⟩,⟨.pure,true⟩,⟨.pure,true⟩,⟨.pure,false⟩],[(1,.loc 0 0),(3,.v 0),(4,.loc 1 0),(5,.v 1),(38,.v 2),(39,.loc 1 2),(40,.v 3),(41,.v 4),(42,.c (.bool false)),(48,.loc 1 1),(49,.v 5),(50,.c (.bool false))],[some (.whole (.v 2) 3),some (.whole (.v 6) 3)],[]⟩),(3,⟨[⟨.pure,true⟩,⟨.pure,false⟩],[(1,.loc 0 0),(6,.v 0)],[some (.whole (.v 1) 3)],[]⟩),(4,⟨[⟨.pure,true⟩,⟨.pure,false⟩],[(1,.loc 0 0),(7,.v 0)],[some (.whole (.v 1) 3)],[]⟩)],⟨[n9],[(.int .i64)],[],[]⟩,[(1,⟨[(.int .i64),n9],[(.z,aA 1,0),(.aT [0,0],.aT [2,0],0),(.aT [2,0],.aT [0,0],0),(.aT [0,1],.aT [2,1],0),(.aT [2,1],.aT [0,1],0),(.aT [0,2],.aT [2,2],0),(.aT [2,2],.aT [0,2],0)],[sC 999,cC 1,sC 1001,sC 0,sC 0]⟩),(3,⟨[(.int .i64),n9],[(.z,aA 1,-1)],[sC 997,cC 1,sC 1001,sC 0,sC 0]⟩),(4,⟨[(.int .i64),n9],[(.z,aA 1,0)],[sC 996,cC 1,sC 1001,sC 0,sC 0]⟩),(2,⟨[(.int .i64),(.int .i64),n9,(.int .i64),.bool,(.int .i64),qZs],[(aA 1,.aT [0,1],-1),(.z,aA 1,0),(.z,aA 2,0),(.aT [0,0],.aT [3,0],0),(.aT [3,0],.aT [0,0],0),(.aT [0,1],.aT [3,1],0),(.aT [3,1],.aT [0,1],0),(.aT [0,2],.aT [3,2],0),(.aT [3,2],.aT [0,2],0)],[sC 999,cC 1,sC 998,cC 2,sC 1001]⟩)],[sC 1001,sC 0,sC 0,sC 0,sC 0]⟩
/- langdoc/langdocref10.Identifier -/
def qVz:En:=⟨111,[],⟨[(.int .i64)],[.bool],[],[]⟩,[],[sC 1001]⟩
/- langdoc/langdocref16.Word -/
def qXw:En:=⟨112,[(1,⟨[⟨.pure,false⟩,⟨.pure,true⟩,⟨.pure,true⟩,⟨.pure,false⟩],[(1,.v 0),(2,.loc 0 0),(13,.v 1),(14,.v 2)],[some (.whole (.v 3) 1)],[]⟩)],⟨[n3,n2],[(.int .i64)],[],[]⟩,[(1,⟨[n2,(.int .i64),(.int .i64),n3],[(aA 3,aA 2,0),(aA 3,aA 1,0),(.z,aA 4,0)],[sC 999,cC 4,sC 1001]⟩)],[sC 1001,sC 0,sC 0]⟩
/- langdoc/langdocref01.Same -/
def qYr:En:=⟨20,[(1,⟨[⟨.pure,false⟩,⟨.pure,false⟩,⟨.pure,true⟩,⟨.pure,true⟩],[(0,.v 0),(1,.v 1),(12,.v 2),(13,.v 3)],[],[]⟩)],⟨[n2,n2],[.bool],[],[]⟩,[(1,⟨[n2,n2,(.int .i64),(.int .i64)],[(aA 4,aA 2,0),(aA 4,aA 3,0),(.z,aA 5,0)],[sC 999,cC 5,sC 1001]⟩)],[sC 1001,sC 0,sC 0]⟩
/- langdoc/langdocref24.words -/
def qZX:En:=⟨96,[(1,⟨[⟨.pure,true⟩,⟨.pure,false⟩,⟨.pure,false⟩],[(2,.loc 0 0),(3,.loc 1 0),(6,.v 0)],[some (.whole (.v 1) 1),some (.whole (.v 2) 8)],[]⟩),(2,⟨[⟨.pure,true⟩,⟨.pure,true⟩,⟨.pure,false⟩,⟨.pure,false⟩],[(2,.loc 0 0),(3,.loc 1 0),(6,.v 0),(8,.v 1)],[some (.whole (.v 2) 1),some (.whole (.v 3) 8)],[]⟩)],⟨[n3,qK5],[(.int .i64)],[],[]⟩,[(1,⟨[(.int .i64),n3,qK5],[(.z,aA 2,0),(.aT [0,0],.aT [3,0],0),(.aT [3,0],.aT [0,0],0),(.aT [1,0],.aT [4,0],0),(.aT [4,0],.aT [1,0],0),(.aT [1,1],.aT [4,1],0),(.aT [4,1],.aT [1,1],0),(.aT [1,2],.aT [4,2],0),(.aT [4,2],.aT [1,2],0),(.aT [1,3],.aT [4,3],0),(.aT [4,3],.aT [1,3],0),(.aT [1,4],.aT [4,4],0),(.aT [4,4],.aT [1,4],0),(.aT [1,5],.aT [4,5],0),(.aT [4,5],.aT [1,5],0),(.aT [1,6],.aT [4,6],0),(.aT [4,6],.aT [1,6],0),(.aT [1,7],.aT [4,7],0),(.aT [4,7],.aT [1,7],0)],[sC 999,cC 2,sC 1001,sC 0,sC 0]⟩),(2,⟨[(.int .i64),(.int .i64),n3,qK5],[(aA 2,.aT [1,3],-1),(.z,aA 2,0),(.z,aA 3,0),(.aT [0,0],.aT [4,0],0),(.aT [4,0],.aT [0,0],0),(.aT [1,0],.aT [5,0],0),(.aT [5,0],.aT [1,0],0),(.aT [1,1],.aT [5,1],0),(.aT [5,1],.aT [1,1],0),(.aT [1,2],.aT [5,2],0),(.aT [5,2],.aT [1,2],0),(.aT [1,3],.aT [5,3],0),(.aT [5,3],.aT [1,3],0),(.aT [1,4],.aT [5,4],0),(.aT [5,4],.aT [1,4],0),(.aT [1,5],.aT [5,5],0),(.aT [5,5],.aT [1,5],0),(.aT [1,6],.aT [5,6],0),(.aT [5,6],.aT [1,6],0),(.aT [1,7],.aT [5,7],0),(.aT [5,7],.aT [1,7],0)],[sC 999,cC 2,sC 998,cC 3,sC 1001]⟩)],[sC 1001,sC 0,sC 0,sC 0,sC 0]⟩
/- langdoc/langdocref24.Gloss -/
def qXs:En:=⟨124,[(1,⟨[⟨.pure,false⟩,⟨.pure,true⟩],[(0,.v 0),(3,.v 1)],[],[]⟩)],⟨[(.str BG)],[.bool],[],[]⟩,[(1,⟨[(.str BG),(.int .i64)],[(.z,aA 2,0)],[sC 999,cC 2,sC 1001]⟩)],[sC 1001,sC 0,sC 0]⟩
/- langdoc/langdocref12.Text -/
def qXr:En:=⟨125,[(1,⟨[⟨.pure,false⟩,⟨.pure,true⟩],[(3,.v 0),(5,.v 1)],[],[]⟩)],⟨[(.str BG)],[(.int .i64)],[],[]⟩,[(1,⟨[n2,(.int .i64)],[(.z,aA 2,0)],[sC 999,cC 2,sC 1001]⟩)],[sC 1001,sC 0,sC 0]⟩
/- langdoc/langdocref24.has -/
def qXq:En:=⟨126,[(1,⟨[⟨.pure,false⟩,⟨.pure,false⟩,⟨.pure,true⟩],[(0,.v 0),(1,.v 1),(5,.v 2)],[],[]⟩)],⟨[qWY,(.str BG)],[.bool],[],[]⟩,[(1,⟨[qWY,(.str BG),(.int .i64)],[(aA 2,aA 0,0),(.z,aA 4,0)],[sC 999,cC 4,sC 1001]⟩)],[sC 1001,sC 0,sC 0]⟩
/- langdoc/langdocref24.sense -/
def qXv:En:=⟨113,[],⟨[qWY,qZr],[(.int .i64)],[],[]⟩,[],[sC 1001]⟩
/- langdoc/langdocref24.senses -/
def qYf:En:=⟨97,[(1,⟨[⟨.pure,true⟩,⟨.pure,false⟩],[(1,.loc 0 0),(3,.v 0)],[some (.whole (.v 1) 8)],[]⟩)],⟨[qK5],[(.int .i64)],[],[]⟩,[(1,⟨[(.int .i64),qK5],[(.z,aA 1,0)],[sC 999,cC 1,sC 1001]⟩)],[sC 1001,sC 0,sC 0]⟩
/- langdoc/langdocref24.links -/
def qYe:En:=⟨98,[(1,⟨[⟨.pure,true⟩,⟨.pure,false⟩],[(1,.loc 0 0),(3,.v 0)],[some (.whole (.v 1) 8)],[]⟩)],⟨[qK5],[(.int .i64)],[],[]⟩,[(1,⟨[(.int .i64),qK5],[(.z,aA 1,0)],[sC 999,cC 1,sC 1001]⟩)],[sC 1001,sC 0,sC 0]⟩
/- langdoc/langdocref24.Ref -/
def qXu:En:=⟨114,[],⟨[qU5],[.bool],[],[]⟩,[],[sC 1001]⟩
/- langdoc/langdocref24.Precedes -/
def qXt:En:=⟨115,[],⟨[qU5,qU5],[.bool],[],[]⟩,[],[sC 1001]⟩
/- langdoc/langdocref24.Refs -/
def qYd:En:=⟨99,[(1,⟨[⟨.pure,false⟩,⟨.pure,true⟩],[(0,.v 0),(5,.v 1)],[],[]⟩)],⟨[qX4,(.int .i64)],[(.int .i64)],[],[]⟩,[(1,⟨[qX4,(.int .i64)],[(.z,aA 3,0)],[sC 999,cC 3,sC 1001]⟩)],[sC 1001,sC 0,sC 0]⟩
/- langdoc/langdocref24.Check -/
def qZ7:En:=⟨65,[],⟨[n3,qK5],[(.int .i64)],[],[]⟩,[],[sC 1001]⟩
/- langdoc/langdocref25.Get -/
def zAc:En:=⟨23,[(1,⟨[⟨.pure,false⟩,⟨.pure,false⟩,⟨.pure,true⟩,⟨.pure,true⟩],[(0,.v 0),(1,.v 1),(4,.loc 0 0),(8,.v 2),(9,.v 3)],[some (.cells [.c (.int .i64 0),.c (.slice none 0 0),.c (.int .i64 0),.c (.slice none 0 0),.c (.int .i64 0),.c (.slice none 0 0),.c (.slice none 0 0),.c (.slice none 0 0)])],[]⟩)],⟨[n0,(.int .i64)],[qK5,.bool],[],[]⟩,[(1,⟨[n0,(.int .i64),(.int .i64),(.int .i64)],[(aA 4,aA 2,0),(.z,aA 5,0)],[sC 999,cC 5,sC 1001]⟩)],[sC 1001,sC 0,sC 0]⟩
/- langdoc/langdocref25.has -/
def qZ6:En:=⟨66,[],⟨[n0,(.int .i64)],[.bool],[],[]⟩,[],[sC 1001]⟩
/- langdoc/langdocref25.Check -/
def qYo:En:=⟨35,[(1,⟨[⟨.pure,false⟩,⟨.pure,true⟩,⟨.pure,true⟩,⟨.pure,false⟩],[(1,.v 0),(2,.loc 0 0),(13,.v 1),(14,.v 2)],[some (.whole (.v 3) 1)],[]⟩),(2,⟨[⟨.pure,false⟩,⟨.pure,true⟩,⟨.pure,true⟩],[(1,.v 0),(44,.v 1),(45,.v 2)],[],[]⟩),(3,⟨[⟨.pure,false⟩,⟨.pure,true⟩,⟨.pure,true⟩,⟨.pure,false⟩,⟨.pure,false⟩,⟨.pure,false⟩,⟨.pure,false⟩,⟨.pure,false⟩,⟨.pure,true⟩,⟨.pure,true⟩],[(1,.v 0),(7,.v 1),(44,.v 2),(45,.v 1),(55,.v 3),(56,.v 3),(57,.v 4),(60,.v 5),(61,.v 6),(62,.v 7),(69,.v 8),(70,.v 9)],[],[]⟩)],⟨[n3,n0],[(.int .i64)],[],[]⟩,[(1,⟨[n0,(.int .i64),(.int .i64),n3],[(aA 2,aA 1,0),(aA 1,aA 2,0),(aA 2,.z,299999998),(aA 3,aA 2,0),(.z,aA 4,0)],[sC 999,cC 4,sC 1001,sC 0,sC 0]⟩),(2,⟨[n0,(.int .i64),(.int .i64)],[(aA 2,aA 3,0),(aA 2,aA 1,0),(aA 1,aA 2,0),(aA 2,.z,299999998),(aA 3,aA 2,0),(.z,aA 4,0)],[sC 998,cC 4,sC 1001,sC 0,sC 0]⟩),(3,⟨[n0,(.int .i64),(.int .i64),.any,.any,.any,.any,.any,(.int .i64),(.int .i64)],[(aA 2,.z,299999998),(.z,aA 3,0),(aA 4,aA 2,0),(aA 2,aA 4,0),(aA 3,aA 4,-1),(aA 4,aA 1,0),(aA 1,aA 4,0),(.z,aA 11,0),(aA 10,.el [2] [3] 6,0)],[sC 998,cC 3,sC 997,cC 11,sC 1001]⟩)],[sC 1001,sC 0,sC 0,sC 0,sC 0]⟩
/- langdoc/langdocref26.Inverse -/
def qZ5:En:=⟨67,[],⟨[(.int .i64)],[(.int .i64)],[],[]⟩,[],[sC 1001]⟩
/- langdoc/langdocref26.find -/
def qYg:En:=⟨68,[(1,⟨[⟨.pure,false⟩,⟨.pure,false⟩,⟨.pure,true⟩],[(0,.v 0),(1,.v 1),(5,.v 2)],[],[]⟩)],⟨[qX3,(.int .i64)],[(.int .i64)],[],[(.z,aA 2,1),(aA 2,aA 0,-1)]⟩,[(1,⟨[qX3,(.int .i64),(.int .i64)],[(aA 2,aA 0,0),(.z,aA 4,0)],[sC 999,cC 4,sC 1001]⟩)],[sC 1001,sC 0,sC 0]⟩
/- langdoc/langdocref26.has -/
def qZ4:En:=⟨69,[(1,⟨[⟨.pure,true⟩,⟨.pure,false⟩,⟨.pure,false⟩],[(2,.loc 0 0),(3,.loc 1 0),(5,.v 0)],[some (.whole (.v 1) 8),some (.whole (.v 2) 2)],[]⟩)],⟨[qK5,qU5],[.bool],[],[]⟩,[(1,⟨[(.int .i64),qK5,qU5],[(.z,aA 2,0)],[sC 999,cC 2,sC 1001]⟩)],[sC 1001,sC 0,sC 0]⟩
/- langdoc/langdocref26.in -/
def qZ3:En:=⟨70,[(1,⟨[⟨.pure,false⟩,⟨.pure,false⟩,⟨.pure,true⟩],[(0,.v 0),(1,.v 1),(5,.v 2)],[],[]⟩)],⟨[n2,(.int .i64)],[.bool],[],[]⟩,[(1,⟨[n2,(.int .i64),(.int .i64)],[(.z,aA 4,0)],[sC 999,cC 4,sC 1001]⟩)],[sC 1001,sC 0,sC 0]⟩
/- langdoc/langdocref26.Check -/
def qYn:En:=⟨36,[(1,⟨[⟨.pure,false⟩,⟨.pure,true⟩],[(0,.v 0),(3,.v 1)],[],[]⟩),(2,⟨[⟨.pure,false⟩,⟨.pure,true⟩,⟨.pure,true⟩],[(0,.v 0),(3,.v 1),(4,.v 2)],[],[]⟩),(3,⟨[⟨.pure,false⟩,⟨.pure,true⟩],[(0,.v 0),(7,.v 1)],[],[]⟩)],⟨[n0],[(.int .i64)],[],[]⟩,[(1,⟨[n0,(.int .i64)],[(aA 1,aA 0,0),(aA 0,aA 1,0),(.z,aA 2,0)],[sC 999,cC 2,sC 1001,sC 0,sC 0]⟩),(2,⟨[n0,(.int .i64),(.int .i64)],[(aA 2,aA 1,-1),(aA 1,aA 0,0),(aA 0,aA 1,0),(.z,aA 2,0),(.z,aA 3,0)],[sC 999,cC 2,sC 998,cC 3,sC 1001]⟩),(3,⟨[n0,(.int .i64)],[(.z,aA 2,0)],[sC 997,cC 2,sC 1001,sC 0,sC 0]⟩)],[sC 1001,sC 0,sC 0,sC 0,sC 0]⟩
/- langdoc/langdocref27.find -/
def qZ2:En:=⟨72,[(1,⟨[⟨.pure,false⟩,⟨.pure,false⟩,⟨.pure,true⟩],[(0,.v 0),(1,.v 1),(5,.v 2)],[],[]⟩)],⟨[n0,(.int .i64)],[(.int .i64)],[],[(.z,aA 2,1),(aA 2,aA 0,-1)]⟩,[(1,⟨[n0,(.int .i64),(.int .i64)],[(aA 2,aA 0,0),(.z,aA 4,0)],[sC 999,cC 4,sC 1001]⟩)],[sC 1001,sC 0,sC 0]⟩
/- langdoc/langdocref27.way -/
def qZ1:En:=⟨73,[(1,⟨[⟨.pure,false⟩,⟨.fresh,true⟩,⟨.pure,true⟩],[(0,.v 0),(5,.v 1),(6,.v 2)],[],[]⟩)],⟨[n0,(.int .i64)],[n2],[(aA 0,.z,299999999)],[]⟩,[(1,⟨[n0,n2,(.int .i64)],[(aA 4,aA 2,-1),(aA 2,aA 0,0)],[sC 999,cC 3,sC 1001]⟩)],[sC 1001,sC 0,sC 0]⟩
/- langdoc/langdocref27.Check -/
def qYm:En:=⟨37,[(1,⟨[⟨.pure,false⟩,⟨.pure,true⟩],[(0,.v 0),(3,.v 1)],[],[]⟩),(2,⟨[⟨.pure,false⟩,⟨.pure,true⟩],[(0,.v 0),(4,.v 1)],[],[]⟩)],⟨[n0],[(.int .i64)],[(aA 0,.z,299999999)],[]⟩,[(1,⟨[n0,(.int .i64)],[(aA 1,aA 0,0),(.z,aA 2,0)],[sC 999,cC 2,sC 1001]⟩),(2,⟨[n0,(.int .i64)],[(aA 1,aA 0,0),(.z,aA 2,0)],[sC 998,cC 2,sC 1001]⟩)],[sC 1001,sC 0,sC 0]⟩
/- langdoc/langdocref29.Check -/
def zAe:En:=⟨11,[],⟨[n8],[(.int .i64)],[(.aT [0,8],.z,299999999)],[]⟩,[],[sC 1001]⟩
/- langdoc/langdocref29.Light -/
def zAd:En:=⟨12,[(1,⟨[⟨.pure,true⟩,⟨.pure,false⟩],[(1,.loc 0 0),(3,.v 0)],[some (.whole (.v 1) 9)],[]⟩)],⟨[n8],[.bool],[(.aT [0,8],.z,299999999)],[]⟩,[(1,⟨[(.int .i64),n8],[(.z,aA 1,0),(.aT [2,8],.aT [0,8],0)],[sC 999,cC 1,sC 1001]⟩)],[sC 1001,sC 0,sC 0]⟩
def qSJ:List En:=[qYl,qVy,qVx,qYk,qYh,qZZ,qZ8,qYp,qVz,qXw,qYr,qZX,qXq,qYe,qXu,qXt,qYd,zAc,qZ6,qZ5,qYg,qZ4,qZ3,qZ2,qZ1,qYm]
def qSI:List En:=[qZ0,zAa,qYq,qYi,qYj,qZY,qZ9,zAb,qXs,qXr,qXv,qYf,qZ7,qYo,qYn]
def qVu:List En:=[zAe,zAd]
end Go.Proofs.YtnemldklhelbeaaGreat
namespace Go.Proofs.YtnemldklhelbeaaGreat
open Go Go.Am Go.Proofs Go.Am.Tt
theorem qTo:qCx EE Tryz.prog TT [] qSJ=true:=by kernel_rfl
theorem qMX:∀ p∈aQ [] qSJ,pQ (qA EE) p.1 p.2:=fV qLn qRR qMv (fun _ h=>by cases h) qTo
end Go.Proofs.YtnemldklhelbeaaGreat
namespace Go.Proofs.YtnemldklhelbeaaGreat
open Go Go.Am Go.Proofs
def qQS:Nat->Pat
 | 1=>⟨[⟨.pure,false⟩,⟨.pure,false⟩,⟨.pure,true⟩,⟨.pure,true⟩,⟨.pure,true⟩],[(0,.v 0),(1,.v 1),(6,.v 2),(7,.v 3),(8,.v 4)],[],[]⟩
 | _=>⟨[],[],[],[]⟩
def qJ2:Tree :=
 .bind .chr [.v 0,.v 1] <|
 .bind (.conv 5 3) [.v 2] <|
 vC .geq 14 240 3 <|
 qZ 4 (
  vC .sub 16 240 3 <|
  .bind (.bin .add 3 (.tmp 28) (.tmp 29)) [.v 1,k' 4] <|
  .bind (.len true) [.v 0] <|
  jF .gtr 30 32 6 7 <|
  qZ 8 (
   .ret [.c (.int .i64 (-1)),k' 0]) (
   .jump 1 [.v 0,.v 1,.v 5,k' 4,k' 1])) (
  vC .geq 19 224 3 <|
  qZ 5 (
   vC .sub 21 224 3 <|
   .bind (.bin .add 3 (.tmp 28) (.tmp 29)) [.v 1,k' 3] <|
   .bind (.len true) [.v 0] <|
   jF .gtr 30 32 7 8 <|
   qZ 9 (
    .ret [.c (.int .i64 (-1)),k' 0]) (
    .jump 1 [.v 0,.v 1,.v 6,k' 3,k' 1])) (
   vC .geq 24 192 3 <|
   qZ 6 (
    vC .sub 26 192 3 <|
    .bind (.bin .add 3 (.tmp 28) (.tmp 29)) [.v 1,k' 2] <|
    .bind (.len true) [.v 0] <|
    jF .gtr 30 32 8 9 <|
    qZ 10 (
     .ret [.c (.int .i64 (-1)),k' 0]) (
     .jump 1 [.v 0,.v 1,.v 7,k' 2,k' 1])) (
    .bind (.bin .add 3 (.tmp 28) (.tmp 29)) [.v 1,k' 1] <|
    .bind (.len true) [.v 0] <|
    jF .gtr 30 32 7 8 <|
    qZ 9 (
     .ret [.c (.int .i64 (-1)),k' 0]) (
     .jump 1 [.v 0,.v 1,.v 3,k' 1,k' 1]))))
def qJ1:Tree :=
 jF .lss 34 35 4 3 <|
 qZ 5 (
  vC .mul 39 64 2 <|
  jF .add 42 43 1 4 <|
  .bind .chr [.v 0,.v 7] <|
  .bind (.conv 5 3) [.v 8] <|
  vC .rem 46 64 9 <|
  jF .add 40 47 6 10 <|
  vC .add 37 1 4 <|
  .jump 1 [.v 0,.v 1,.v 11,.v 3,.v 12]) (
  jM 122 [.v 2] 1 <|
  .bind (.un .not 4) [.v 6] <|
  qZ 7 (
   .ret [.c (.int .i64 (-1)),k' 0]) (
   jM 123 [.v 2] 1 <|
   jF .add 57 58 1 3 <|
   .bind (.sub true true) [.v 0,.v 1,.v 9] <|
   .bind (.bin .neq 9 (.tmp 54) (.tmp 60)) [.v 8,.v 10] <|
   qZ 11 (
    .ret [.c (.int .i64 (-1)),k' 0]) (
    .ret [.v 2,.v 3])))
def f8:Nat->Tree
 | 0=>qJ2
 | 1=>qJ1
 | _=>.fail
def qUq:Nat->Pat
 | 1=>⟨[⟨.pure,true⟩,⟨.pure,false⟩,⟨.pure,false⟩],[(2,.loc 0 0),(3,.loc 1 0),(5,.v 0)],[some (.whole (.v 1) 1),some (.whole (.v 2) 3)],[]⟩
 | 2=>⟨[⟨.fresh,true⟩,⟨.pure,true⟩,⟨.pure,false⟩],[(3,.loc 1 0),(7,.v 0),(8,.v 1)],[none,some (.whole (.v 2) 3)],[]⟩
 | 3=>⟨[⟨.fresh,true⟩,⟨.pure,true⟩,⟨.pure,true⟩,⟨.pure,false⟩],[(3,.loc 1 0),(7,.v 0),(8,.v 1),(9,.v 2)],[none,some (.whole (.v 3) 3)],[]⟩
 | _=>⟨[],[],[],[]⟩
def qQj:Tree :=
 jN 1 0 <|
 jN 3 1 <|
 zK 0 3 <|
 jM 59 [.v 4] 1 <|
 .bind (.un .not 4) [.v 5] <|
 qZ 6 (
  wP 7) (
  zK 1 3 <|
  v4 7 <|
  vC .gtr 17 100 8 <|
  qZ 9 (
   wP 11) (
   .jump 1 [k' 0,.v 2,.v 3]))
def qQi:Tree :=
 zK 1 2 <|
 v4 3 <|
 jF .lss 19 22 0 4 <|
 qZ 5 (
  jM 60 [.v 1,.v 2,.v 0] 1 <|
  .bind (.bin .neq 39 (.tmp 30) (K' 0)) [.v 6,k' 0] <|
  qZ 7 (
   .ret [.v 6]) (
   vC .add 24 1 0 <|
   .jump 1 [.v 8,.v 1,.v 2])) (
  zK 2 2 <|
  v4 6 <|
  vC .gtr 35 100 7 <|
  qZ 8 (
   wP 11) (
   .jump 2 [.c (.slice none 0 0),k' 0,.v 2]))
def qQh:Tree :=
 zK 2 2 <|
 v4 3 <|
 jF .lss 37 40 1 4 <|
 qZ 5 (
  zK 2 2 <|
  jQ 6 1 <|
  vL 1 0 6 1 <|
  v4 8 <|
  vC .eql 49 0 9 <|
  qZ 10 (
   wP 4) (
   .jump 3 [.v 0,.v 1,k' 0,.v 2])) (
  wP 0)
def qQg:Tree :=
 zK 2 3 <|
 jQ 4 1 <|
 vL 1 0 4 1 <|
 v4 6 <|
 jF .lss 51 57 2 7 <|
 qZ 8 (
  zK 2 3 <|
  jQ 9 1 <|
  vL 1 0 9 1 <|
  jQ 11 2 <|
  vL 1 0 11 2 <|
  jM 61 [.v 13] 1 <|
  .bind (.un .not 4) [.v 14] <|
  qZ 15 (
   wP 3) (
   jM 62 [.v 0,.v 13] 1 <|
   qZ 16 (
    wP 8) (
    qBr 13 <|
    .bind (.lit 9 1) [.v 13] <|
    .bind (.app 9 1 16) [.v 0,.v 18] <|
    vC .add 59 1 2 <|
    .jump 3 [.v 19,.v 1,.v 20,.v 3]))) (
  vC .add 42 1 1 <|
  .jump 2 [.v 0,.v 9,.v 3])
def tW:Nat->Tree
 | 0=>qQj
 | 1=>qQi
 | 2=>qQh
 | 3=>qQg
 | _=>.fail
def qQR:Nat->Pat
 | 1=>⟨[⟨.pure,false⟩,⟨.pure,false⟩,⟨.fresh,true⟩,⟨.pure,true⟩],[(0,.v 0),(1,.v 1),(5,.v 2),(6,.v 3)],[],[]⟩
 | _=>⟨[],[],[],[]⟩
def qJ0:Tree :=
 .jump 1 [.v 0,.v 1,.c (.slice none 0 0),k' 0]
def qJZ:Tree :=
 v4 0 <|
 jF .lss 7 9 3 4 <|
 qZ 5 (
  jQ 0 3 <|
  vL 1 0 0 3 <|
  jF .lss 15 16 7 1 <|
  qZ 8 (
   jQ 0 3 <|
   vL 1 0 0 3 <|
   qBr 10 <|
   .bind (.lit 3 1) [.v 10] <|
   .bind (.app 3 1 8) [.v 2,.v 12] <|
   vC .add 26 1 3 <|
   .jump 1 [.v 0,.v 1,.v 13,.v 14]) (
   qBr 1 <|
   .bind (.lit 3 1) [.v 1] <|
   .bind (.app 3 1 8) [.v 2,.v 10] <|
   v4 0 <|
   jF .lss 32 34 3 12 <|
   qZ 13 (
    jQ 0 3 <|
    vL 1 0 0 3 <|
    jF .eql 40 41 15 1 <|
    qZ 16 (
     vC .add 44 1 3 <|
     .bind (.slc 3 1 true false) [.v 0,.v 17] <|
     .bind (.app 3 1 8) [.v 11,.v 18] <|
     .ret [.v 19]) (
     .bind (.slc 3 1 true false) [.v 0,.v 3] <|
     .bind (.app 3 1 8) [.v 11,.v 17] <|
     .ret [.v 18])) (
    .bind (.slc 3 1 true false) [.v 0,.v 3] <|
    .bind (.app 3 1 8) [.v 11,.v 14] <|
    .ret [.v 15]))) (
  qBr 1 <|
  .bind (.lit 3 1) [.v 1] <|
  .bind (.app 3 1 8) [.v 2,.v 7] <|
  v4 0 <|
  jF .lss 32 34 3 9 <|
  qZ 10 (
   jQ 0 3 <|
   vL 1 0 0 3 <|
   jF .eql 40 41 12 1 <|
   qZ 13 (
    vC .add 44 1 3 <|
    .bind (.slc 3 1 true false) [.v 0,.v 14] <|
    .bind (.app 3 1 8) [.v 8,.v 15] <|
    .ret [.v 16]) (
    .bind (.slc 3 1 true false) [.v 0,.v 3] <|
    .bind (.app 3 1 8) [.v 8,.v 14] <|
    .ret [.v 15])) (
   .bind (.slc 3 1 true false) [.v 0,.v 3] <|
   .bind (.app 3 1 8) [.v 8,.v 11] <|
   .ret [.v 12]))
def tX:Nat->Tree
 | 0=>qJ0
 | 1=>qJZ
 | _=>.fail
def qTY:Nat->Pat
 | 1=>⟨[⟨.pure,false⟩,⟨.pure,false⟩,⟨.fresh,true⟩,⟨.fresh,true⟩,⟨.pure,true⟩],[(0,.v 0),(2,.v 1),(7,.v 2),(8,.v 3),(9,.v 4)],[],[]⟩
 | 2=>⟨[⟨.pure,false⟩,⟨.pure,false⟩,⟨.fresh,true⟩,⟨.fresh,true⟩,⟨.pure,true⟩,⟨.fresh,true⟩,⟨.pure,true⟩],[(0,.v 0),(2,.v 1),(7,.v 2),(8,.v 3),(9,.v 4),(10,.v 5),(11,.v 6)],[],[]⟩
 | 3=>⟨[⟨.pure,false⟩,⟨.pure,false⟩,⟨.fresh,true⟩,⟨.fresh,true⟩,⟨.pure,true⟩,⟨.fresh,true⟩,⟨.pure,true⟩,⟨.pure,true⟩,⟨.pure,true⟩],[(0,.v 0),(2,.v 1),(7,.v 2),(8,.v 3),(9,.v 4),(10,.v 5),(11,.v 6),(12,.v 7),(13,.v 8)],[],[]⟩
 | 4=>⟨[⟨.pure,false⟩,⟨.fresh,true⟩,⟨.fresh,true⟩,⟨.pure,true⟩],[(0,.v 0),(7,.v 1),(16,.v 2),(17,.v 3)],[],[]⟩
 | _=>⟨[],[],[],[]⟩
def qPy:Tree :=
 v4 0 <|
 .bind (.mk 4 1 1 false [(.bool false)]) [.v 3] <|
 qBr 1 <|
 .bind (.lit 3 1) [.v 1] <|
 .jump 1 [.v 0,.v 2,.v 4,.v 6,k' 0]
def qPx:Tree :=
 v4 0 <|
 jF .leq 23 25 4 5 <|
 qZ 6 (
  .jump 2 [.v 0,.v 1,.v 2,.v 3,.v 4,.c (.slice none 0 0),k' 0]) (
  .jump 4 [.v 0,.v 2,.c (.slice none 0 0),k' 0])
def qPw:Tree :=
 v4 3 <|
 jF .lss 29 31 6 7 <|
 qZ 8 (
  jQ 3 6 <|
  vL 1 0 3 6 <|
  jM 68 [.v 0,.v 10] 1 <|
  .jump 3 [.v 0,.v 1,.v 2,.v 3,.v 4,.v 5,.v 6,.v 11,k' 0]) (
  vC .add 27 1 4 <|
  .jump 1 [.v 0,.v 1,.v 2,.v 5,.v 9])
def qPv:Tree :=
 vC .geq 41 0 7 <|
 qZ 9 (
  jQ 0 7 <|
  vL 8 6 0 7 <|
  v4 11 <|
  jF .lss 44 50 8 12 <|
  qZ 13 (
   jQ 0 7 <|
   vL 8 6 0 7 <|
   jQ 15 8 <|
   .bind (.elem 2 true 2 0) [.v 15,.v 8] <|
   jN 2 17 <|
   zK 1 18 <|
   jM 68 [.v 0,.v 19] 1 <|
   zK 0 18 <|
   jF .eql 68 69 21 1 <|
   qZ 22 (
    vC .geq 72 0 20 <|
    qZ 23 (
     jQ 2 20 <|
     vL 1 0 2 20 <|
     .bind (.un .not 4) [.v 25] <|
     qZ 26 (
      jQ 2 20 <|
      .bind (.set 1 false 1 0) [.v 2,.v 20,.c (.bool true)] <|
      zK 1 18 <|
      qBr 29 <|
      .bind (.lit 3 1) [.v 29] <|
      .bind (.app 3 1 8) [.v 5,.v 31] <|
      vC .add 53 1 8 <|
      .jump 3 [.v 0,.v 1,.v 28,.v 3,.v 4,.v 32,.v 6,.v 7,.v 33]) (
      vC .add 53 1 8 <|
      .jump 3 [.v 0,.v 1,.v 2,.v 3,.v 4,.v 5,.v 6,.v 7,.v 27])) (
     vC .add 53 1 8 <|
     .jump 3 [.v 0,.v 1,.v 2,.v 3,.v 4,.v 5,.v 6,.v 7,.v 24])) (
    vC .add 53 1 8 <|
    .jump 3 [.v 0,.v 1,.v 2,.v 3,.v 4,.v 5,.v 6,.v 7,.v 23])) (
   vC .add 33 1 6 <|
   .jump 2 [.v 0,.v 1,.v 2,.v 3,.v 4,.v 5,.v 14])) (
  vC .add 33 1 6 <|
  .jump 2 [.v 0,.v 1,.v 2,.v 3,.v 4,.v 5,.v 10])
def qPu:Tree :=
 v4 0 <|
 jF .lss 91 93 3 4 <|
 qZ 5 (
  jQ 1 3 <|
  vL 1 0 1 3 <|
  qZ 7 (
   jQ 0 3 <|
   vL 8 0 0 3 <|
   qBr 9 <|
   .bind (.lit 3 1) [.v 9] <|
   .bind (.app 3 1 8) [.v 2,.v 11] <|
   vC .add 95 1 3 <|
   .jump 4 [.v 0,.v 1,.v 12,.v 13]) (
   vC .add 95 1 3 <|
   .jump 4 [.v 0,.v 1,.v 2,.v 8])) (
  .ret [.v 2])
def qBP:Nat->Tree
 | 0=>qPy
 | 1=>qPx
 | 2=>qPw
 | 3=>qPv
 | 4=>qPu
 | _=>.fail
def qTz:Nat->Pat
 | 1=>⟨[⟨.pure,false⟩,⟨.pure,false⟩,⟨.pure,true⟩,⟨.pure,true⟩],[(0,.v 0),(3,.v 1),(6,.v 2),(7,.v 3)],[],[]⟩
 | _=>⟨[],[],[],[]⟩
def qOQ:Tree :=
 v4 0 <|
 .jump 1 [.v 0,.c (.slice none 0 0),.v 1,k' 0]
def qOP:Tree :=
 jF .lss 7 6 3 2 <|
 qZ 4 (
  jQ 0 3 <|
  vL 1 0 0 3 <|
  jM 110 [.v 1,.v 6] 0 <|
  vC .add 7 1 3 <|
  .jump 1 [.v 0,.v 7,.v 2,.v 8]) (
  .ret [.v 1])
def qJv:Nat->Tree
 | 0=>qOQ
 | 1=>qOP
 | _=>.fail
theorem qGD:(rt Tryz.f109 2 qQS,
 hd Tryz.f109 2 qQS,
 nr Tryz.f109,
 rt Tryz.f32 2 qUq,
 hd Tryz.f32 2 qUq,
 nr Tryz.f32,
 rt Tryz.f110 2 qQR,
 hd Tryz.f110 2 qQR,
 nr Tryz.f110,
 rt Tryz.f71 3 qTY,
 hd Tryz.f71 3 qTY,
 nr Tryz.f71,
 rt Tryz.f95 1 qTz,
 hd Tryz.f95 1 qTz,
 nr Tryz.f95) =
 (qJ2,[(1,qJ1)],false,qQj,[(1,qQi),(2,qQh),(3,qQg)],false,qJ0,[(1,qJZ)],false,qPy,[(1,qPx),(2,qPw),(3,qPv),(4,qPu)],false,qOQ,[(1,qOP)],false):=by kernel_rfl
theorem qWp {ds:List D} {d:D} (hn:ds.length=2) (h:qG EE (qA EE) f8 0 ds d):qA EE 109 ds d :=
 hv Tryz.func109 rfl qGD (jG rfl <| vO) hn h
theorem u32 {ds:List D} {d:D} (hn:ds.length=2) (h:qG EE (qA EE) tW 0 ds d):qA EE 32 ds d :=
 hv Tryz.func32 rfl (vS (vS (vS qGD))) (jG rfl <| jG rfl <| jG rfl <| vO) hn h
theorem qUJ {ds:List D} {d:D} (hn:ds.length=2) (h:qG EE (qA EE) tX 0 ds d):qA EE 110 ds d :=
 hv Tryz.func110 rfl (vS (vS (jC qGD))) (jG rfl <| vO) hn h
theorem qYS {ds:List D} {d:D} (hn:ds.length=3) (h:qG EE (qA EE) qBP 0 ds d):qA EE 71 ds d :=
 hv Tryz.func71 rfl (vS (jC (jC qGD))) (jG rfl <| jG rfl <| jG rfl <| jG rfl <| vO) hn h
theorem qYz {ds:List D} {d:D} (hn:ds.length=1) (h:qG EE (qA EE) qJv 0 ds d):qA EE 95 ds d :=
 hu Tryz.func95 rfl ((pI (jC (jC (jC qGD)))).1) ((pI (vS (jC (jC (jC qGD))))).1) ((vS (vS (jC (jC (jC qGD)))))) (jG rfl <| vO) hn h
end Go.Proofs.YtnemldklhelbeaaGreat
