/- What the checker is told of functions. Conditions: none. -/
import Derived.Test.YtminhjecpnpaeaaGreatDoorBa
set_option linter.unusedVariables false
set_option linter.unusedSimpArgs false
namespace Go.Proofs.YtminhjecpnpaeaaGreatDoor
open Go Go.Am Go.Proofs Go.Am.Tt
abbrev BG:Nat:=300000000
def sC (n:Int):Ms:=(.z,.z,n)
def cC (i:Nat):Ms:=(.z,.aT [i],300000001)
def aA (i:Nat):Pt:=.aT [i]
def n0:Sn:=(.sl 64 8 BG (.st [(.int .i64),(.sl 3 1 1048576 (.int .i64)),(.int .i64),(.sl 31 1 1048576 (.sl 3 1 1048576 (.int .i64))),(.int .i64),(.sl 94 2 1048576 (.st [(.str BG),(.str BG)])),(.sl 66 2 1048576 (.st [(.int .i64),(.int .i64)])),(.sl 120 2 1048576 (.st [(.int .i64),(.int .i64)]))]))
def n1:Sn:=(.sl 31 1 BG (.sl 3 1 1048576 (.int .i64)))
def n2:Sn:=(.sl 3 1 BG (.int .i64))
def n3:Sn:=(.st [(.sl 81 2 BG (.st [(.str BG),(.int .i64)]))])
def n4:Sn:=(.st [(.str BG),(.sl 77 2 BG (.st [(.str BG),(.sl 3 1 BG (.int .i64))])),(.sl 50 1 BG (.sl 9 1 BG (.str BG)))])
def n5:Sn:=(.st [(.str BG),(.sl 3 1 BG (.int .i64))])
def n6:Sn:=(.sl 9 1 BG (.str BG))
def n7:Sn:=(.st [(.sl 3 1 BG (.int .i64)),(.sl 3 1 BG (.int .i64)),(.sl 58 2 BG (.st [(.int .i64),(.int .i64)])),(.sl 58 2 BG (.st [(.int .i64),(.int .i64)])),.bool,.bool])
def n8:Sn:=(.st [(.sl 81 2 BG (.st [(.str BG),(.int .i64)])),(.str BG),(.sl 77 2 BG (.st [(.str BG),(.sl 3 1 1048576 (.int .i64))])),(.sl 50 1 BG (.sl 9 1 1048576 (.str BG))),(.sl 39 6 BG (.st [(.sl 3 1 1048576 (.int .i64)),(.sl 3 1 1048576 (.int .i64)),(.sl 58 2 1048576 (.st [(.int .i64),(.int .i64)])),(.sl 58 2 1048576 (.st [(.int .i64),(.int .i64)])),.bool,.bool])),(.int .i64),(.sl 92 3 BG (.st [(.int .i64),(.int .i64),(.int .i64)])),(.sl 3 1 BG (.int .i64)),(.sl 64 8 BG (.st [(.int .i64),(.sl 3 1 1048576 (.int .i64)),(.int .i64),(.sl 31 1 1048576 (.sl 3 1 1048576 (.int .i64))),(.int .i64),(.sl 94 2 1048576 (.st [(.str BG),(.str BG)])),(.sl 66 2 1048576 (.st [(.int .i64),(.int .i64)])),(.sl 120 2 1048576 (.st [(.int .i64),(.int .i64)]))]))])
def n9:Sn:=(.st [(.int .i64),(.sl 92 3 BG (.st [(.int .i64),(.int .i64),(.int .i64)])),(.sl 3 1 BG (.int .i64))])
def qZ9:Sn:=(.st [(.int .i64),(.int .i64),(.int .i64)])
def qMU:Sn:=(.st [(.int .i64),(.sl 3 1 BG (.int .i64)),(.int .i64),(.sl 31 1 BG (.sl 3 1 1048576 (.int .i64))),(.int .i64),(.sl 94 2 BG (.st [(.str BG),(.str BG)])),(.sl 66 2 BG (.st [(.int .i64),(.int .i64)])),(.sl 120 2 BG (.st [(.int .i64),(.int .i64)]))])
def qYo:Sn:=(.sl 94 2 BG (.st [(.str BG),(.str BG)]))
def qZ8:Sn:=(.st [(.str BG),(.str BG)])
def qWx:Sn:=(.st [(.int .i64),(.int .i64)])
def qZg:Sn:=(.sl 120 2 BG (.st [(.int .i64),(.int .i64)]))
def qZf:Sn:=(.sl 64 8 BG (.st [(.int .i64),(.sl 3 1 BG (.int .i64)),(.int .i64),(.sl 31 1 BG (.sl 3 1 BG (.int .i64))),(.int .i64),(.sl 94 2 BG (.st [(.str BG),(.str BG)])),(.sl 66 2 BG (.st [(.int .i64),(.int .i64)])),(.sl 120 2 BG (.st [(.int .i64),(.int .i64)]))]))
def qZ3:List (Nat × Sn):=[(5,(.int .u8)),(3,(.int .i64))]
def qZt:List (TypeId × TypeId × IntKind × IntKind):=[(3,5,.i64,.u8)]
def qZe:List (Bool × TypeId × Int):=[(false,3,64),(true,3,64),(false,3,4096),(false,3,262144)]
def qZd:List (Nat × (Nat × List Sn)):=[(92,(4,[(.int .i64),(.int .i64),(.int .i64)])),(66,(4,[(.int .i64),(.int .i64)]))]
theorem qUA:∀ x∈qZt,qXI EE x:=qCD (fun m=>⟨IntKind.u8.wrap m,by kernel_rfl⟩) <| qUR
theorem qTy:∀ x∈qZe,qXG EE x:=qCD (fun m _ _=>⟨IntKind.i64.wrap (m.tdiv 64),by kernel_rfl⟩) <| qCD (fun m _ _=>⟨m.tmod 64,by kernel_rfl⟩) <| qCD (fun m _ _=>⟨IntKind.i64.wrap (m.tdiv 4096),by kernel_rfl⟩) <| qCD (fun m _ _=>⟨IntKind.i64.wrap (m.tdiv 262144),by kernel_rfl⟩) <| qUR
theorem qTq:∀ x∈qZd,qQX EE x:=qCD (qIA (by kernel_rfl)) <| qCD (qIA (by kernel_rfl)) <| qUR
def TT:Tb:=qWh qZ3 qZt qZe qZd
theorem qOg:TbOk EE TT:=qWg qUA qTy qTq
/- langdoc/langdocref29.small -/
def zAT:En:=⟨18,[(1,⟨[⟨.pure,false⟩,⟨.pure,true⟩],[(0,.v 0),(3,.v 1)],[],[]⟩),(2,⟨[⟨.pure,false⟩,⟨.pure,true⟩,⟨.pure,true⟩,⟨.pure,true⟩,⟨.pure,true⟩],[(0,.v 0),(3,.v 1),(4,.v 2),(22,.v 0),(23,.v 1),(26,.v 3),(27,.v 4),(28,.c (.bool false))],[],[]⟩)],⟨[n0],[.bool],[],[]⟩,[(1,⟨[n0,(.int .i64)],[(aA 1,aA 0,0),(aA 0,aA 1,0),(aA 1,.z,299999998),(.z,aA 2,0)],[sC 999,cC 2,sC 1001,sC 0,sC 0]⟩),(2,⟨[n0,(.int .i64),(.int .i64),n1,(.int .i64)],[(aA 1,aA 0,0),(aA 0,aA 1,0),(aA 1,.z,299999998),(aA 2,aA 0,-1),(.z,aA 2,0),(.z,aA 3,0)],[sC 999,cC 2,sC 998,cC 3,sC 1001]⟩)],[sC 1001,sC 0,sC 0,sC 0,sC 0]⟩
/- langdoc/langdocref02.Scalar -/
def qXq:En:=⟨185,[],⟨[(.int .i64)],[.bool],[],[]⟩,[],[sC 1001]⟩
/- langdoc/langdocref02.encoded -/
def qXp:En:=⟨186,[],⟨[(.int .i64)],[(.str BG)],[],[]⟩,[],[sC 1001]⟩
/- langdoc/langdocref02.Points -/
def qY2:En:=⟨131,[(1,⟨[⟨.pure,false⟩,⟨.fresh,true⟩,⟨.pure,true⟩],[(0,.v 0),(4,.v 1),(5,.v 2)],[],[]⟩)],⟨[(.str BG)],[n2,.bool],[],[]⟩,[(1,⟨[(.str BG),n2,(.int .i64)],[(aA 2,aA 3,0)],[sC 999,cC 3,sC 1001]⟩)],[sC 1001,sC 0,sC 0]⟩
/- langdoc/langdocref10.Label -/
def zAG:En:=⟨86,[(1,⟨[⟨.pure,false⟩,⟨.pure,true⟩],[(0,.v 0),(3,.v 1)],[],[]⟩)],⟨[(.str BG)],[.bool],[],[]⟩,[(1,⟨[(.str BG),(.int .i64)],[(.z,aA 2,0)],[sC 999,cC 2,sC 1001]⟩)],[sC 1001,sC 0,sC 0]⟩
/- langdoc/langdocref16.Check -/
def zAP:En:=⟨45,[(1,⟨[⟨.pure,true⟩,⟨.pure,true⟩,⟨.pure,false⟩],[(1,.loc 0 0),(11,.v 0),(12,.v 1)],[some (.whole (.v 2) 1)],[]⟩),(2,⟨[⟨.pure,true⟩,⟨.pure,true⟩,⟨.pure,true⟩,⟨.pure,false⟩],[(1,.loc 0 0),(3,.v 0),(4,.v 1),(11,.v 2),(12,.v 0)],[some (.whole (.v 3) 1)],[]⟩)],⟨[n3],[(.int .i64)],[],[]⟩,[(1,⟨[(.int .i64),(.int .i64),n3],[(.aT [3,0],aA 1,0),(aA 1,.aT [0,0],0),(aA 1,.z,64),(.z,aA 2,0),(.aT [0,0],.aT [3,0],0)],[sC 999,cC 2,sC 1001,sC 0,sC 0]⟩),(2,⟨[(.int .i64),(.int .i64),(.int .i64),n3],[(aA 2,aA 1,0),(.z,aA 2,0),(aA 1,aA 3,-1),(aA 3,.aT [0,0],0),(.aT [0,0],aA 3,0),(aA 3,.z,64),(.aT [0,0],.aT [4,0],0),(.aT [4,0],.aT [0,0],0)],[sC 999,cC 1,sC 998,cC 2,sC 1001]⟩)],[sC 1001,sC 0,sC 0,sC 0,sC 0]⟩
/- langdoc/langdocref10.Name -/
def qZs:En:=⟨82,[(1,⟨[⟨.pure,false⟩,⟨.pure,true⟩],[(0,.v 0),(3,.v 1)],[],[]⟩)],⟨[(.str BG)],[.bool],[],[]⟩,[(1,⟨[(.str BG),(.int .i64)],[(.z,aA 2,0)],[sC 999,cC 2,sC 1001]⟩)],[sC 1001,sC 0,sC 0]⟩
/- langdoc/langdocref17.label -/
def qZq:En:=⟨84,[(1,⟨[⟨.pure,false⟩,⟨.pure,true⟩],[(0,.v 0),(3,.v 1)],[],[]⟩)],⟨[(.str BG)],[.bool],[],[]⟩,[(1,⟨[(.str BG),(.int .i64)],[(.z,aA 2,0)],[sC 999,cC 2,sC 1001]⟩)],[sC 1001,sC 0,sC 0]⟩
/- langdoc/langdocref17.unit -/
def qZr:En:=⟨83,[(1,⟨[⟨.pure,false⟩,⟨.pure,true⟩,⟨.pure,false⟩,⟨.pure,false⟩,⟨.pure,false⟩],[(2,.v 0),(3,.loc 0 0),(4,.loc 1 0),(7,.loc 2 0),(8,.v 1)],[some (.whole (.v 2) 1),some (.whole (.v 3) 3),some (.whole (.v 4) 2)],[]⟩),(2,⟨[⟨.pure,true⟩,⟨.pure,false⟩,⟨.pure,false⟩],[(3,.loc 0 0),(7,.loc 2 0),(9,.v 0)],[some (.whole (.v 1) 1),none,some (.whole (.v 2) 2)],[]⟩)],⟨[n3,n4,(.int .i64)],[(.int .i64)],[(.z,aA 2,0),(aA 2,.aT [1,1],-1)],[]⟩,[(1,⟨[(.int .i64),(.int .i64),n3,n4,n5],[(aA 3,.aT [6,1],-1),(aA 3,aA 2,0),(.z,aA 4,0)],[sC 999,cC 4,sC 1001]⟩),(2,⟨[(.int .i64),n3,n5],[(.z,aA 3,0)],[sC 998,cC 3,sC 1001]⟩)],[sC 1001,sC 0,sC 0]⟩
/- langdoc/langdocref17.has -/
def qZp:En:=⟨85,[(1,⟨[⟨.pure,false⟩,⟨.pure,false⟩,⟨.pure,true⟩],[(0,.v 0),(1,.v 1),(5,.v 2)],[],[]⟩)],⟨[n6,(.str BG)],[.bool],[],[]⟩,[(1,⟨[n6,(.str BG),(.int .i64)],[(aA 2,aA 0,0),(.z,aA 4,0)],[sC 999,cC 4,sC 1001]⟩)],[sC 1001,sC 0,sC 0]⟩
/- langdoc/langdocref16.Is -/
def zAK:En:=⟨71,[],⟨[n3,(.int .i64)],[.bool],[],[]⟩,[],[sC 1001]⟩
/- langdoc/langdocref01.Sorted -/
def zAJ:En:=⟨72,[(1,⟨[⟨.pure,false⟩,⟨.pure,false⟩,⟨.pure,true⟩,⟨.pure,true⟩],[(0,.v 0),(3,.v 1),(6,.v 2),(7,.v 3)],[],[]⟩)],⟨[n2],[n2],[],[]⟩,[(1,⟨[n2,n2,(.int .i64),(.int .i64)],[(aA 3,aA 1,0),(aA 2,aA 4,0)],[sC 999,cC 4,sC 1001]⟩)],[sC 1001,sC 0,sC 0]⟩
/- langdoc/langdocref22.Check -/
def zAR:En:=⟨32,[(1,⟨[⟨.pure,true⟩,⟨.pure,true⟩,⟨.pure,false⟩,⟨.pure,false⟩],[(2,.loc 0 0),(3,.loc 1 0),(21,.v 0),(22,.v 1)],[some (.whole (.v 2) 1),some (.whole (.v 3) 6)],[]⟩)],⟨[n3,n7],[(.int .i64)],[],[]⟩,[(1,⟨[(.int .i64),(.int .i64),n3,n7],[(aA 2,.aT [1,0],0),(aA 2,.aT [1,1],0),(.z,aA 3,0),(.aT [1,0],.aT [5,0],0),(.aT [1,1],.aT [5,1],0)],[sC 999,cC 3,sC 1001]⟩)],[sC 1001,sC 0,sC 0]⟩
/- langdoc/langdocref29.rules -/
def zAO:En:=⟨46,[(1,⟨[⟨.pure,true⟩,⟨.pure,false⟩],[(1,.loc 0 0),(3,.v 0)],[some (.whole (.v 1) 9)],[]⟩)],⟨[n8],[(.int .i64)],[],[]⟩,[(1,⟨[(.int .i64),n8],[(.z,aA 1,0)],[sC 999,cC 1,sC 1001]⟩)],[sC 1001,sC 0,sC 0]⟩
/- langdoc/langdocref23.state -/
def zAH:En:=⟨77,[],⟨[n9,(.int .i64)],[.bool],[],[]⟩,[],[sC 1001]⟩
/- langdoc/langdocref23.Check -/
def zAQ:En:=⟨41,[(1,⟨[⟨.pure,true⟩,⟨.pure,false⟩],[(1,.loc 0 0),(3,.v 0)],[some (.whole (.v 1) 3)],[]⟩),(2,⟨[⟨.pure,true⟩,⟨.pure,true⟩,⟨.pure,false⟩,⟨.pure,true⟩,⟨.pure,true⟩,⟨.pure,true⟩,⟨.pure,false⟩],[(1,.loc 0 0),(3,.v 0),(4,.loc 1 0),(5,.v 1),(38,.v 2),(39,.loc 1 2),(40,.v 3),(41,.v 4),(42,.c (.bool false)),(48,.loc 1 1),(49,.v 5),(50,.c (.bool false))],[some (.whole (.v 2) 3),some (.whole (.v 6) 3)],[]⟩),(3,⟨[⟨.pure,true⟩,⟨.pure,false⟩],[(1,.loc 0 0),(6,.v 0)],[some (.whole (.v 1) 3)],[]⟩),(4,⟨[⟨.pure,true⟩,⟨.pure,false⟩],[(1,.loc 0 0),(7,.v 0)],[some (.whole (.v 1) 3)],[]⟩)],⟨[n9],[(.int .i64)],[],[]⟩,[(1,⟨[(.int .i64),n9],[(.z,aA 1,0),(.aT [0,0],.aT [2,0],0),(.aT [2,0],.aT [0,0],0),(.aT [0,1],.aT [2,1],0),(.aT [2,1],.aT [0,1],0),(.aT [0,2],.aT [2,2],0),(.aT [2,2],.aT [0,2],0)],[sC 999,cC 1,sC 1001,sC 0,sC 0]⟩),(3,⟨[(.int .i64),n9],[(.z,aA 1,-1)],[sC 997,cC 1,sC 1001,sC 0,sC 0]⟩),(4,⟨[(.int .i64),n9],[(.z,aA 1,0)],[sC 996,cC 1,sC 1001,sC 0,sC 0]⟩),(2,⟨[(.int .i64),(.int .i64),n9,(.int .i64),.bool,(.int .i64),qZ9],[(aA 1,.aT [0,1],-1),(.z,aA 1,0),(.z,aA 2,0),(.aT [0,0],.aT [3,0],0),(.aT [3,0],.aT [0,0],0),(.aT [0,1],.aT [3,1],0),(.aT [3,1],.aT [0,1],0),(.aT [0,2],.aT [3,2],0),(.aT [3,2],.aT [0,2],0)],[sC 999,cC 1,sC 998,cC 2,sC 1001]⟩)],[sC 1001,sC 0,sC 0,sC 0,sC 0]⟩
/- langdoc/langdocref10.Identifier -/
def qYW:En:=⟨162,[],⟨[(.int .i64)],[.bool],[],[]⟩,[],[sC 1001]⟩
/- langdoc/langdocref16.Word -/
def qYV:En:=⟨163,[(1,⟨[⟨.pure,false⟩,⟨.pure,true⟩,⟨.pure,true⟩,⟨.pure,false⟩],[(1,.v 0),(2,.loc 0 0),(13,.v 1),(14,.v 2)],[some (.whole (.v 3) 1)],[]⟩)],⟨[n3,n2],[(.int .i64)],[],[]⟩,[(1,⟨[n2,(.int .i64),(.int .i64),n3],[(aA 3,aA 2,0),(aA 3,aA 1,0),(.z,aA 4,0)],[sC 999,cC 4,sC 1001]⟩)],[sC 1001,sC 0,sC 0]⟩
/- langdoc/langdocref01.Same -/
def zAI:En:=⟨73,[(1,⟨[⟨.pure,false⟩,⟨.pure,false⟩,⟨.pure,true⟩,⟨.pure,true⟩],[(0,.v 0),(1,.v 1),(12,.v 2),(13,.v 3)],[],[]⟩)],⟨[n2,n2],[.bool],[],[]⟩,[(1,⟨[n2,n2,(.int .i64),(.int .i64)],[(aA 4,aA 2,0),(aA 4,aA 3,0),(.z,aA 5,0)],[sC 999,cC 5,sC 1001]⟩)],[sC 1001,sC 0,sC 0]⟩
/- langdoc/langdocref24.words -/
def qY1:En:=⟨132,[(1,⟨[⟨.pure,true⟩,⟨.pure,false⟩,⟨.pure,false⟩],[(2,.loc 0 0),(3,.loc 1 0),(6,.v 0)],[some (.whole (.v 1) 1),some (.whole (.v 2) 8)],[]⟩),(2,⟨[⟨.pure,true⟩,⟨.pure,true⟩,⟨.pure,false⟩,⟨.pure,false⟩],[(2,.loc 0 0),(3,.loc 1 0),(6,.v 0),(8,.v 1)],[some (.whole (.v 2) 1),some (.whole (.v 3) 8)],[]⟩)],⟨[n3,qMU],[(.int .i64)],[],[]⟩,[(1,⟨[(.int .i64),n3,qMU],[(.z,aA 2,0),(.aT [0,0],.aT [3,0],0),(.aT [3,0],.aT [0,0],0),(.aT [1,0],.aT [4,0],0),(.aT [4,0],.aT [1,0],0),(.aT [1,1],.aT [4,1],0),(.aT [4,1],.aT [1,1],0),(.aT [1,2],.aT [4,2],0),(.aT [4,2],.aT [1,2],0),(.aT [1,3],.aT [4,3],0),(.aT [4,3],.aT [1,3],0),(.aT [1,4],.aT [4,4],0),(.aT [4,4],.aT [1,4],0),(.aT [1,5],.aT [4,5],0),(.aT [4,5],.aT [1,5],0),(.aT [1,6],.aT [4,6],0),(.aT [4,6],.aT [1,6],0),(.aT [1,7],.aT [4,7],0),(.aT [4,7],.aT [1,7],0)],[sC 999,cC 2,sC 1001,sC 0,sC 0]⟩),(2,⟨[(.int .i64),(.int .i64),n3,qMU],[(aA 2,.aT [1,3],-1),(.z,aA 2,0),(.z,aA 3,0),(.aT [0,0],.aT [4,0],0),(.aT [4,0],.aT [0,0],0),(.aT [1,0],.aT [5,0],0),(.aT [5,0],.aT [1,0],0),(.aT [1,1],.aT [5,1],0),(.aT [5,1],.aT [1,1],0),(.aT [1,2],.aT [5,2],0),(.aT [5,2],.aT [1,2],0),(.aT [1,3],.aT [5,3],0),(.aT [5,3],.aT [1,3],0),(.aT [1,4],.aT [5,4],0),(.aT [5,4],.aT [1,4],0),(.aT [1,5],.aT [5,5],0),(.aT [5,5],.aT [1,5],0),(.aT [1,6],.aT [5,6],0),(.aT [5,6],.aT [1,6],0),(.aT [1,7],.aT [5,7],0),(.aT [5,7],.aT [1,7],0)],[sC 999,cC 2,sC 998,cC 3,sC 1001]⟩)],[sC 1001,sC 0,sC 0,sC 0,sC 0]⟩
/- langdoc/langdocref24.Gloss -/
def qYR:En:=⟨187,[(1,⟨[⟨.pure,false⟩,⟨.pure,true⟩],[(0,.v 0),(3,.v 1)],[],[]⟩)],⟨[(.str BG)],[.bool],[],[]⟩,[(1,⟨[(.str BG),(.int .i64)],[(.z,aA 2,0)],[sC 999,cC 2,sC 1001]⟩)],[sC 1001,sC 0,sC 0]⟩
/- langdoc/langdocref12.Text -/
def qYQ:En:=⟨188,[(1,⟨[⟨.pure,false⟩,⟨.pure,true⟩],[(3,.v 0),(5,.v 1)],[],[]⟩)],⟨[(.str BG)],[(.int .i64)],[],[]⟩,[(1,⟨[n2,(.int .i64)],[(.z,aA 2,0)],[sC 999,cC 2,sC 1001]⟩)],[sC 1001,sC 0,sC 0]⟩
/- langdoc/langdocref24.has -/
def qYP:En:=⟨189,[(1,⟨[⟨.pure,false⟩,⟨.pure,false⟩,⟨.pure,true⟩],[(0,.v 0),(1,.v 1),(5,.v 2)],[],[]⟩)],⟨[qYo,(.str BG)],[.bool],[],[]⟩,[(1,⟨[qYo,(.str BG),(.int .i64)],[(aA 2,aA 0,0),(.z,aA 4,0)],[sC 999,cC 4,sC 1001]⟩)],[sC 1001,sC 0,sC 0]⟩
/- langdoc/langdocref24.sense -/
def qYU:En:=⟨164,[],⟨[qYo,qZ8],[(.int .i64)],[],[]⟩,[],[sC 1001]⟩
/- langdoc/langdocref24.senses -/
def qY0:En:=⟨133,[(1,⟨[⟨.pure,true⟩,⟨.pure,false⟩],[(1,.loc 0 0),(3,.v 0)],[some (.whole (.v 1) 8)],[]⟩)],⟨[qMU],[(.int .i64)],[],[]⟩,[(1,⟨[(.int .i64),qMU],[(.z,aA 1,0)],[sC 999,cC 1,sC 1001]⟩)],[sC 1001,sC 0,sC 0]⟩
/- langdoc/langdocref24.links -/
def qYZ:En:=⟨134,[(1,⟨[⟨.pure,true⟩,⟨.pure,false⟩],[(1,.loc 0 0),(3,.v 0)],[some (.whole (.v 1) 8)],[]⟩)],⟨[qMU],[(.int .i64)],[],[]⟩,[(1,⟨[(.int .i64),qMU],[(.z,aA 1,0)],[sC 999,cC 1,sC 1001]⟩)],[sC 1001,sC 0,sC 0]⟩
/- langdoc/langdocref24.Ref -/
def qYT:En:=⟨165,[],⟨[qWx],[.bool],[],[]⟩,[],[sC 1001]⟩
/- langdoc/langdocref24.Precedes -/
def qYS:En:=⟨166,[],⟨[qWx,qWx],[.bool],[],[]⟩,[],[sC 1001]⟩
/- langdoc/langdocref24.Refs -/
def qYY:En:=⟨135,[(1,⟨[⟨.pure,false⟩,⟨.pure,true⟩],[(0,.v 0),(5,.v 1)],[],[]⟩)],⟨[qZg,(.int .i64)],[(.int .i64)],[],[]⟩,[(1,⟨[qZg,(.int .i64)],[(.z,aA 3,0)],[sC 999,cC 3,sC 1001]⟩)],[sC 1001,sC 0,sC 0]⟩
/- langdoc/langdocref24.Check -/
def zAF:En:=⟨87,[],⟨[n3,qMU],[(.int .i64)],[],[]⟩,[],[sC 1001]⟩
/- langdoc/langdocref25.Get -/
def qYX:En:=⟨136,[(1,⟨[⟨.pure,false⟩,⟨.pure,false⟩,⟨.pure,true⟩,⟨.pure,true⟩],[(0,.v 0),(1,.v 1),(4,.loc 0 0),(8,.v 2),(9,.v 3)],[some (.cells [.c (.int .i64 0),.c (.slice none 0 0),.c (.int .i64 0),.c (.slice none 0 0),.c (.int .i64 0),.c (.slice none 0 0),.c (.slice none 0 0),.c (.slice none 0 0)])],[]⟩)],⟨[n0,(.int .i64)],[qMU,.bool],[],[]⟩,[(1,⟨[n0,(.int .i64),(.int .i64),(.int .i64)],[(aA 4,aA 2,0),(.z,aA 5,0)],[sC 999,cC 5,sC 1001]⟩)],[sC 1001,sC 0,sC 0]⟩
/- langdoc/langdocref25.has -/
def zAE:En:=⟨88,[],⟨[n0,(.int .i64)],[.bool],[],[]⟩,[],[sC 1001]⟩
/- langdoc/langdocref25.Check -/
def zAN:En:=⟨47,[(1,⟨[⟨.pure,false⟩,⟨.pure,true⟩,⟨.pure,true⟩,⟨.pure,false⟩],[(1,.v 0),(2,.loc 0 0),(13,.v 1),(14,.v 2)],[some (.whole (.v 3) 1)],[]⟩),(2,⟨[⟨.pure,false⟩,⟨.pure,true⟩,⟨.pure,true⟩],[(1,.v 0),(44,.v 1),(45,.v 2)],[],[]⟩),(3,⟨[⟨.pure,false⟩,⟨.pure,true⟩,⟨.pure,true⟩,⟨.pure,false⟩,⟨.pure,false⟩,⟨.pure,false⟩,⟨.pure,false⟩,⟨.pure,false⟩,⟨.pure,true⟩,⟨.pure,true⟩],[(1,.v 0),(7,.v 1),(44,.v 2),(45,.v 1),(55,.v 3),(56,.v 3),(57,.v 4),(60,.v 5),(61,.v 6),(62,.v 7),(69,.v 8),(70,.v 9)],[],[]⟩)],⟨[n3,n0],[(.int .i64)],[],[]⟩,[(1,⟨[n0,(.int .i64),(.int .i64),n3],[(aA 2,aA 1,0),(aA 1,aA 2,0),(aA 2,.z,299999998),(aA 3,aA 2,0),(.z,aA 4,0)],[sC 999,cC 4,sC 1001,sC 0,sC 0]⟩),(2,⟨[n0,(.int .i64),(.int .i64)],[(aA 2,aA 3,0),(aA 2,aA 1,0),(aA 1,aA 2,0),(aA 2,.z,299999998),(aA 3,aA 2,0),(.z,aA 4,0)],[sC 998,cC 4,sC 1001,sC 0,sC 0]⟩),(3,⟨[n0,(.int .i64),(.int .i64),.any,.any,.any,.any,.any,(.int .i64),(.int .i64)],[(aA 2,.z,299999998),(.z,aA 3,0),(aA 4,aA 2,0),(aA 2,aA 4,0),(aA 3,aA 4,-1),(aA 4,aA 1,0),(aA 1,aA 4,0),(.z,aA 11,0),(aA 10,.el [2] [3] 6,0)],[sC 998,cC 3,sC 997,cC 11,sC 1001]⟩)],[sC 1001,sC 0,sC 0,sC 0,sC 0]⟩
/- langdoc/langdocref26.Inverse -/
def zAD:En:=⟨89,[],⟨[(.int .i64)],[(.int .i64)],[],[]⟩,[],[sC 1001]⟩
/- langdoc/langdocref26.find -/
def qZo:En:=⟨90,[(1,⟨[⟨.pure,false⟩,⟨.pure,false⟩,⟨.pure,true⟩],[(0,.v 0),(1,.v 1),(5,.v 2)],[],[]⟩)],⟨[qZf,(.int .i64)],[(.int .i64)],[],[(.z,aA 2,1),(aA 2,aA 0,-1)]⟩,[(1,⟨[qZf,(.int .i64),(.int .i64)],[(aA 2,aA 0,0),(.z,aA 4,0)],[sC 999,cC 4,sC 1001]⟩)],[sC 1001,sC 0,sC 0]⟩
/- langdoc/langdocref26.has -/
def zAC:En:=⟨91,[(1,⟨[⟨.pure,true⟩,⟨.pure,false⟩,⟨.pure,false⟩],[(2,.loc 0 0),(3,.loc 1 0),(5,.v 0)],[some (.whole (.v 1) 8),some (.whole (.v 2) 2)],[]⟩)],⟨[qMU,qWx],[.bool],[],[]⟩,[(1,⟨[(.int .i64),qMU,qWx],[(.z,aA 2,0)],[sC 999,cC 2,sC 1001]⟩)],[sC 1001,sC 0,sC 0]⟩
/- langdoc/langdocref26.in -/
def zAB:En:=⟨92,[(1,⟨[⟨.pure,false⟩,⟨.pure,false⟩,⟨.pure,true⟩],[(0,.v 0),(1,.v 1),(5,.v 2)],[],[]⟩)],⟨[n2,(.int .i64)],[.bool],[],[]⟩,[(1,⟨[n2,(.int .i64),(.int .i64)],[(.z,aA 4,0)],[sC 999,cC 4,sC 1001]⟩)],[sC 1001,sC 0,sC 0]⟩
/- langdoc/langdocref26.Check -/
def zAM:En:=⟨48,[(1,⟨[⟨.pure,false⟩,⟨.pure,true⟩],[(0,.v 0),(3,.v 1)],[],[]⟩),(2,⟨[⟨.pure,false⟩,⟨.pure,true⟩,⟨.pure,true⟩],[(0,.v 0),(3,.v 1),(4,.v 2)],[],[]⟩),(3,⟨[⟨.pure,false⟩,⟨.pure,true⟩],[(0,.v 0),(7,.v 1)],[],[]⟩)],⟨[n0],[(.int .i64)],[],[]⟩,[(1,⟨[n0,(.int .i64)],[(aA 1,aA 0,0),(aA 0,aA 1,0),(.z,aA 2,0)],[sC 999,cC 2,sC 1001,sC 0,sC 0]⟩),(2,⟨[n0,(.int .i64),(.int .i64)],[(aA 2,aA 1,-1),(aA 1,aA 0,0),(aA 0,aA 1,0),(.z,aA 2,0),(.z,aA 3,0)],[sC 999,cC 2,sC 998,cC 3,sC 1001]⟩),(3,⟨[n0,(.int .i64)],[(.z,aA 2,0)],[sC 997,cC 2,sC 1001,sC 0,sC 0]⟩)],[sC 1001,sC 0,sC 0,sC 0,sC 0]⟩
/- langdoc/langdocref27.find -/
def zAA:En:=⟨94,[(1,⟨[⟨.pure,false⟩,⟨.pure,false⟩,⟨.pure,true⟩],[(0,.v 0),(1,.v 1),(5,.v 2)],[],[]⟩)],⟨[n0,(.int .i64)],[(.int .i64)],[],[(.z,aA 2,1),(aA 2,aA 0,-1)]⟩,[(1,⟨[n0,(.int .i64),(.int .i64)],[(aA 2,aA 0,0),(.z,aA 4,0)],[sC 999,cC 4,sC 1001]⟩)],[sC 1001,sC 0,sC 0]⟩
/- langdoc/langdocref27.way -/
def zAz:En:=⟨95,[(1,⟨[⟨.pure,false⟩,⟨.fresh,true⟩,⟨.pure,true⟩],[(0,.v 0),(5,.v 1),(6,.v 2)],[],[]⟩)],⟨[n0,(.int .i64)],[n2],[(aA 0,.z,299999999)],[]⟩,[(1,⟨[n0,n2,(.int .i64)],[(aA 4,aA 2,-1),(aA 2,aA 0,0)],[sC 999,cC 3,sC 1001]⟩)],[sC 1001,sC 0,sC 0]⟩
/- langdoc/langdocref27.Check -/
def zAL:En:=⟨49,[(1,⟨[⟨.pure,false⟩,⟨.pure,true⟩],[(0,.v 0),(3,.v 1)],[],[]⟩),(2,⟨[⟨.pure,false⟩,⟨.pure,true⟩],[(0,.v 0),(4,.v 1)],[],[]⟩)],⟨[n0],[(.int .i64)],[(aA 0,.z,299999999)],[]⟩,[(1,⟨[n0,(.int .i64)],[(aA 1,aA 0,0),(.z,aA 2,0)],[sC 999,cC 2,sC 1001]⟩),(2,⟨[n0,(.int .i64)],[(aA 1,aA 0,0),(.z,aA 2,0)],[sC 998,cC 2,sC 1001]⟩)],[sC 1001,sC 0,sC 0]⟩
/- langdoc/langdocref29.Check -/
def zAS:En:=⟨19,[],⟨[n8],[(.int .i64)],[(.aT [0,8],.z,299999999)],[]⟩,[],[sC 1001]⟩
/- langdoc/langdocref29.Light -/
def e6:En:=⟨6,[(1,⟨[⟨.pure,true⟩,⟨.pure,false⟩],[(1,.loc 0 0),(3,.v 0)],[some (.whole (.v 1) 9)],[]⟩)],⟨[n8],[.bool],[(.aT [0,8],.z,299999999)],[]⟩,[(1,⟨[(.int .i64),n8],[(.z,aA 1,0),(.aT [2,8],.aT [0,8],0)],[sC 999,cC 1,sC 1001]⟩)],[sC 1001,sC 0,sC 0]⟩
def qUs:List En:=[zAT,qXq,qXp,qZs,qZp,zAK,zAH,zAQ,qYW,qYV,zAI,qY1,qYP,qYZ,qYT,qYS,qYY,qYX,zAE,zAD,qZo,zAC,zAB,zAA,zAz,zAL]
def qUr:List En:=[qY2,zAG,zAP,qZq,qZr,zAJ,zAR,zAO,qYR,qYQ,qYU,qY0,zAF,zAN,zAM]
def qXh:List En:=[zAS,e6]
end Go.Proofs.YtminhjecpnpaeaaGreatDoor
namespace Go.Proofs.YtminhjecpnpaeaaGreatDoor
open Go Go.Am Go.Proofs Go.Am.Tt
theorem qU1:qDT EE Tryz.prog TT [] qUs=true:=by kernel_rfl
theorem qOL:∀ p∈uT [] qUs,mW (qB EE) p.1 p.2:=eP he qYM qOg (fun _ h=>by cases h) qU1
end Go.Proofs.YtminhjecpnpaeaaGreatDoor
namespace Go.Proofs.YtminhjecpnpaeaaGreatDoor.Lt
open Go Go.Am Go.Proofs
def qE6:Nat->Pat
 | 1=>⟨[⟨.pure,false⟩,⟨.pure,false⟩,⟨.pure,true⟩,⟨.pure,true⟩,⟨.pure,true⟩],[(0,.v 0),(1,.v 1),(6,.v 2),(7,.v 3),(8,.v 4)],[],[]⟩
 | _=>⟨[],[],[],[]⟩
def qA3:Tree :=
 .bind .chr [.v 0,.v 1] <|
 .bind (.conv 5 3) [.v 2] <|
 vQ .geq 14 240 3 <|
 zF 4 (
  vQ .sub 16 240 3 <|
  .bind (.bin .add 3 (.tmp 28) (.tmp 29)) [.v 1,k' 4] <|
  .bind (.len true) [.v 0] <|
  xF .gtr 30 32 6 7 <|
  zF 8 (
   .ret [.c (.int .i64 (-1)),k' 0]) (
   .jump 1 [.v 0,.v 1,.v 5,k' 4,k' 1])) (
  vQ .geq 19 224 3 <|
  zF 5 (
   vQ .sub 21 224 3 <|
   .bind (.bin .add 3 (.tmp 28) (.tmp 29)) [.v 1,k' 3] <|
   .bind (.len true) [.v 0] <|
   xF .gtr 30 32 7 8 <|
   zF 9 (
    .ret [.c (.int .i64 (-1)),k' 0]) (
    .jump 1 [.v 0,.v 1,.v 6,k' 3,k' 1])) (
   vQ .geq 24 192 3 <|
   zF 6 (
    vQ .sub 26 192 3 <|
    .bind (.bin .add 3 (.tmp 28) (.tmp 29)) [.v 1,k' 2] <|
    .bind (.len true) [.v 0] <|
    xF .gtr 30 32 8 9 <|
    zF 10 (
     .ret [.c (.int .i64 (-1)),k' 0]) (
     .jump 1 [.v 0,.v 1,.v 7,k' 2,k' 1])) (
    .bind (.bin .add 3 (.tmp 28) (.tmp 29)) [.v 1,k' 1] <|
    .bind (.len true) [.v 0] <|
    xF .gtr 30 32 7 8 <|
    zF 9 (
     .ret [.c (.int .i64 (-1)),k' 0]) (
     .jump 1 [.v 0,.v 1,.v 3,k' 1,k' 1]))))
def qA2:Tree :=
 xF .lss 34 35 4 3 <|
 zF 5 (
  vQ .mul 39 64 2 <|
  xF .add 42 43 1 4 <|
  .bind .chr [.v 0,.v 7] <|
  .bind (.conv 5 3) [.v 8] <|
  vQ .rem 46 64 9 <|
  xF .add 40 47 6 10 <|
  vQ .add 37 1 4 <|
  .jump 1 [.v 0,.v 1,.v 11,.v 3,.v 12]) (
  yZ 185 [.v 2] 1 <|
  .bind (.un .not 4) [.v 6] <|
  zF 7 (
   .ret [.c (.int .i64 (-1)),k' 0]) (
   yZ 186 [.v 2] 1 <|
   xF .add 57 58 1 3 <|
   .bind (.sub true true) [.v 0,.v 1,.v 9] <|
   .bind (.bin .neq 9 (.tmp 54) (.tmp 60)) [.v 8,.v 10] <|
   zF 11 (
    .ret [.c (.int .i64 (-1)),k' 0]) (
    .ret [.v 2,.v 3])))
def rP:Nat->Tree
 | 0=>qA3
 | 1=>qA2
 | _=>.fail
def qLC:Nat->Pat
 | 1=>⟨[⟨.pure,true⟩,⟨.pure,false⟩,⟨.pure,false⟩],[(2,.loc 0 0),(3,.loc 1 0),(5,.v 0)],[some (.whole (.v 1) 1),some (.whole (.v 2) 3)],[]⟩
 | 2=>⟨[⟨.fresh,true⟩,⟨.pure,true⟩,⟨.pure,false⟩],[(3,.loc 1 0),(7,.v 0),(8,.v 1)],[none,some (.whole (.v 2) 3)],[]⟩
 | 3=>⟨[⟨.fresh,true⟩,⟨.pure,true⟩,⟨.pure,true⟩,⟨.pure,false⟩],[(3,.loc 1 0),(7,.v 0),(8,.v 1),(9,.v 2)],[none,some (.whole (.v 3) 3)],[]⟩
 | _=>⟨[],[],[],[]⟩
def qE4:Tree :=
 wU 1 0 <|
 wU 3 1 <|
 zN 0 3 <|
 yZ 82 [.v 4] 1 <|
 .bind (.un .not 4) [.v 5] <|
 zF 6 (
  gN 7) (
  zN 1 3 <|
  xE 7 <|
  vQ .gtr 17 100 8 <|
  zF 9 (
   gN 11) (
   .jump 1 [k' 0,.v 2,.v 3]))
def qE3:Tree :=
 zN 1 2 <|
 xE 3 <|
 xF .lss 19 22 0 4 <|
 zF 5 (
  yZ 83 [.v 1,.v 2,.v 0] 1 <|
  .bind (.bin .neq 43 (.tmp 30) (K' 0)) [.v 6,k' 0] <|
  zF 7 (
   .ret [.v 6]) (
   vQ .add 24 1 0 <|
   .jump 1 [.v 8,.v 1,.v 2])) (
  zN 2 2 <|
  xE 6 <|
  vQ .gtr 35 100 7 <|
  zF 8 (
   gN 11) (
   .jump 2 [.c (.slice none 0 0),k' 0,.v 2]))
def qE2:Tree :=
 zN 2 2 <|
 xE 3 <|
 xF .lss 37 40 1 4 <|
 zF 5 (
  zN 2 2 <|
  wP 6 1 <|
  jA 1 0 6 1 <|
  xE 8 <|
  vQ .eql 49 0 9 <|
  zF 10 (
   gN 4) (
   .jump 3 [.v 0,.v 1,k' 0,.v 2])) (
  gN 0)
def qE1:Tree :=
 zN 2 3 <|
 wP 4 1 <|
 jA 1 0 4 1 <|
 xE 6 <|
 xF .lss 51 57 2 7 <|
 zF 8 (
  zN 2 3 <|
  wP 9 1 <|
  jA 1 0 9 1 <|
  wP 11 2 <|
  jA 1 0 11 2 <|
  yZ 84 [.v 13] 1 <|
  .bind (.un .not 4) [.v 14] <|
  zF 15 (
   gN 3) (
   yZ 85 [.v 0,.v 13] 1 <|
   zF 16 (
    gN 8) (
    qCj 13 <|
    .bind (.lit 9 1) [.v 13] <|
    .bind (.app 9 1 16) [.v 0,.v 18] <|
    vQ .add 59 1 2 <|
    .jump 3 [.v 19,.v 1,.v 20,.v 3]))) (
  vQ .add 42 1 1 <|
  .jump 2 [.v 0,.v 9,.v 3])
def cN:Nat->Tree
 | 0=>qE4
 | 1=>qE3
 | 2=>qE2
 | 3=>qE1
 | _=>.fail
def qSo:Nat->Pat
 | 1=>⟨[⟨.pure,false⟩,⟨.pure,false⟩,⟨.fresh,true⟩,⟨.pure,true⟩],[(0,.v 0),(1,.v 1),(5,.v 2),(6,.v 3)],[],[]⟩
 | _=>⟨[],[],[],[]⟩
def qLX:Tree :=
 .jump 1 [.v 0,.v 1,.c (.slice none 0 0),k' 0]
def qLW:Tree :=
 xE 0 <|
 xF .lss 7 9 3 4 <|
 zF 5 (
  wP 0 3 <|
  jA 1 0 0 3 <|
  xF .lss 15 16 7 1 <|
  zF 8 (
   wP 0 3 <|
   jA 1 0 0 3 <|
   qCj 10 <|
   .bind (.lit 3 1) [.v 10] <|
   .bind (.app 3 1 8) [.v 2,.v 12] <|
   vQ .add 26 1 3 <|
   .jump 1 [.v 0,.v 1,.v 13,.v 14]) (
   qCj 1 <|
   .bind (.lit 3 1) [.v 1] <|
   .bind (.app 3 1 8) [.v 2,.v 10] <|
   xE 0 <|
   xF .lss 32 34 3 12 <|
   zF 13 (
    wP 0 3 <|
    jA 1 0 0 3 <|
    xF .eql 40 41 15 1 <|
    zF 16 (
     vQ .add 44 1 3 <|
     .bind (.slc 3 1 true false) [.v 0,.v 17] <|
     .bind (.app 3 1 8) [.v 11,.v 18] <|
     .ret [.v 19]) (
     .bind (.slc 3 1 true false) [.v 0,.v 3] <|
     .bind (.app 3 1 8) [.v 11,.v 17] <|
     .ret [.v 18])) (
    .bind (.slc 3 1 true false) [.v 0,.v 3] <|
    .bind (.app 3 1 8) [.v 11,.v 14] <|
    .ret [.v 15]))) (
  qCj 1 <|
  .bind (.lit 3 1) [.v 1] <|
  .bind (.app 3 1 8) [.v 2,.v 7] <|
  xE 0 <|
  xF .lss 32 34 3 9 <|
  zF 10 (
   wP 0 3 <|
   jA 1 0 0 3 <|
   xF .eql 40 41 12 1 <|
   zF 13 (
    vQ .add 44 1 3 <|
    .bind (.slc 3 1 true false) [.v 0,.v 14] <|
    .bind (.app 3 1 8) [.v 8,.v 15] <|
    .ret [.v 16]) (
    .bind (.slc 3 1 true false) [.v 0,.v 3] <|
    .bind (.app 3 1 8) [.v 8,.v 14] <|
    .ret [.v 15])) (
   .bind (.slc 3 1 true false) [.v 0,.v 3] <|
   .bind (.app 3 1 8) [.v 8,.v 11] <|
   .ret [.v 12]))
def qG3:Nat->Tree
 | 0=>qLX
 | 1=>qLW
 | _=>.fail
def qVo:Nat->Pat
 | 1=>⟨[⟨.pure,false⟩,⟨.pure,false⟩,⟨.fresh,true⟩,⟨.fresh,true⟩,⟨.pure,true⟩],[(0,.v 0),(2,.v 1),(7,.v 2),(8,.v 3),(9,.v 4)],[],[]⟩
 | 2=>⟨[⟨.pure,false⟩,⟨.pure,false⟩,⟨.fresh,true⟩,⟨.fresh,true⟩,⟨.pure,true⟩,⟨.fresh,true⟩,⟨.pure,true⟩],[(0,.v 0),(2,.v 1),(7,.v 2),(8,.v 3),(9,.v 4),(10,.v 5),(11,.v 6)],[],[]⟩
 | 3=>⟨[⟨.pure,false⟩,⟨.pure,false⟩,⟨.fresh,true⟩,⟨.fresh,true⟩,⟨.pure,true⟩,⟨.fresh,true⟩,⟨.pure,true⟩,⟨.pure,true⟩,⟨.pure,true⟩],[(0,.v 0),(2,.v 1),(7,.v 2),(8,.v 3),(9,.v 4),(10,.v 5),(11,.v 6),(12,.v 7),(13,.v 8)],[],[]⟩
 | 4=>⟨[⟨.pure,false⟩,⟨.fresh,true⟩,⟨.fresh,true⟩,⟨.pure,true⟩],[(0,.v 0),(7,.v 1),(16,.v 2),(17,.v 3)],[],[]⟩
 | _=>⟨[],[],[],[]⟩
def qQ9:Tree :=
 xE 0 <|
 .bind (.mk 4 1 1 false [(.bool false)]) [.v 3] <|
 qCj 1 <|
 .bind (.lit 3 1) [.v 1] <|
 .jump 1 [.v 0,.v 2,.v 4,.v 6,k' 0]
def qQ8:Tree :=
 xE 0 <|
 xF .leq 23 25 4 5 <|
 zF 6 (
  .jump 2 [.v 0,.v 1,.v 2,.v 3,.v 4,.c (.slice none 0 0),k' 0]) (
  .jump 4 [.v 0,.v 2,.c (.slice none 0 0),k' 0])
def qQ7:Tree :=
 xE 3 <|
 xF .lss 29 31 6 7 <|
 zF 8 (
  wP 3 6 <|
  jA 1 0 3 6 <|
  yZ 90 [.v 0,.v 10] 1 <|
  .jump 3 [.v 0,.v 1,.v 2,.v 3,.v 4,.v 5,.v 6,.v 11,k' 0]) (
  vQ .add 27 1 4 <|
  .jump 1 [.v 0,.v 1,.v 2,.v 5,.v 9])
def qQ6:Tree :=
 vQ .geq 41 0 7 <|
 zF 9 (
  wP 0 7 <|
  jA 8 6 0 7 <|
  xE 11 <|
  xF .lss 44 50 8 12 <|
  zF 13 (
   wP 0 7 <|
   jA 8 6 0 7 <|
   wP 15 8 <|
   .bind (.elem 2 true 2 0) [.v 15,.v 8] <|
   wU 2 17 <|
   zN 1 18 <|
   yZ 90 [.v 0,.v 19] 1 <|
   zN 0 18 <|
   xF .eql 68 69 21 1 <|
   zF 22 (
    vQ .geq 72 0 20 <|
    zF 23 (
     wP 2 20 <|
     jA 1 0 2 20 <|
     .bind (.un .not 4) [.v 25] <|
     zF 26 (
      wP 2 20 <|
      .bind (.set 1 false 1 0) [.v 2,.v 20,.c (.bool true)] <|
      zN 1 18 <|
      qCj 29 <|
      .bind (.lit 3 1) [.v 29] <|
      .bind (.app 3 1 8) [.v 5,.v 31] <|
      vQ .add 53 1 8 <|
      .jump 3 [.v 0,.v 1,.v 28,.v 3,.v 4,.v 32,.v 6,.v 7,.v 33]) (
      vQ .add 53 1 8 <|
      .jump 3 [.v 0,.v 1,.v 2,.v 3,.v 4,.v 5,.v 6,.v 7,.v 27])) (
     vQ .add 53 1 8 <|
     .jump 3 [.v 0,.v 1,.v 2,.v 3,.v 4,.v 5,.v 6,.v 7,.v 24])) (
    vQ .add 53 1 8 <|
    .jump 3 [.v 0,.v 1,.v 2,.v 3,.v 4,.v 5,.v 6,.v 7,.v 23])) (
   vQ .add 33 1 6 <|
   .jump 2 [.v 0,.v 1,.v 2,.v 3,.v 4,.v 5,.v 14])) (
  vQ .add 33 1 6 <|
  .jump 2 [.v 0,.v 1,.v 2,.v 3,.v 4,.v 5,.v 10])
def qQ5:Tree :=
 xE 0 <|
 xF .lss 91 93 3 4 <|
 zF 5 (
  wP 1 3 <|
  jA 1 0 1 3 <|
  zF 7 (
   wP 0 3 <|
   jA 8 0 0 3 <|
   qCj 9 <|
   .bind (.lit 3 1) [.v 9] <|
   .bind (.app 3 1 8) [.v 2,.v 11] <|
   vQ .add 95 1 3 <|
   .jump 4 [.v 0,.v 1,.v 12,.v 13]) (
   vQ .add 95 1 3 <|
   .jump 4 [.v 0,.v 1,.v 2,.v 8])) (
  .ret [.v 2])
def qC3:Nat->Tree
 | 0=>qQ9
 | 1=>qQ8
 | 2=>qQ7
 | 3=>qQ6
 | 4=>qQ5
 | _=>.fail
def qVM:Nat->Pat
 | 1=>⟨[⟨.pure,false⟩,⟨.pure,false⟩,⟨.pure,true⟩,⟨.pure,true⟩],[(0,.v 0),(3,.v 1),(6,.v 2),(7,.v 3)],[],[]⟩
 | _=>⟨[],[],[],[]⟩
def qVL:Tree :=
 xE 0 <|
 .jump 1 [.v 0,.c (.slice none 0 0),.v 1,k' 0]
def qVK:Tree :=
 xF .lss 7 6 3 2 <|
 zF 4 (
  wP 0 3 <|
  jA 1 0 0 3 <|
  yZ 125 [.v 1,.v 6] 0 <|
  vQ .add 7 1 3 <|
  .jump 1 [.v 0,.v 7,.v 2,.v 8]) (
  .ret [.v 1])
theorem qQU:(rA Tryz.f161 2 qE6,
 hd Tryz.f161 2 qE6,
 nr Tryz.f161,
 rA Tryz.f44 2 qLC,
 hd Tryz.f44 2 qLC,
 nr Tryz.f44,
 rA Tryz.f125 2 qSo,
 hd Tryz.f125 2 qSo,
 nr Tryz.f125,
 rA Tryz.f93 3 qVo,
 hd Tryz.f93 3 qVo,
 nr Tryz.f93,
 rA Tryz.f72 1 qVM,
 hd Tryz.f72 1 qVM,
 nr Tryz.f72) =
 (qA3,[(1,qA2)],false,qE4,[(1,qE3),(2,qE2),(3,qE1)],false,qLX,[(1,qLW)],false,qQ9,[(1,qQ8),(2,qQ7),(3,qQ6),(4,qQ5)],false,qVL,[(1,qVK)],false):=by kernel_rfl
theorem qS7 {ds:List D} {d:D} (hn:ds.length=2) (h:qK EE (qB EE) rP 0 ds d):qB EE 161 ds d :=
 hv Tryz.func161 rfl qQU (j4 rfl <| xC) hn h
theorem qXY {ds:List D} {d:D} (hn:ds.length=2) (h:qK EE (qB EE) cN 0 ds d):qB EE 44 ds d :=
 hv Tryz.func44 rfl (xN (xN (xN qQU))) (j4 rfl <| j4 rfl <| j4 rfl <| xC) hn h
theorem qYa {ds:List D} {d:D} (hn:ds.length=2) (h:qK EE (qB EE) qG3 0 ds d):qB EE 125 ds d :=
 hv Tryz.func125 rfl (xN (xN (xM qQU))) (j4 rfl <| xC) hn h
theorem qZw {ds:List D} {d:D} (hn:ds.length=3) (h:qK EE (qB EE) qC3 0 ds d):qB EE 93 ds d :=
 hv Tryz.func93 rfl (xN (xM (xM qQU))) (j4 rfl <| j4 rfl <| j4 rfl <| j4 rfl <| xC) hn h
end Go.Proofs.YtminhjecpnpaeaaGreatDoor.Lt
