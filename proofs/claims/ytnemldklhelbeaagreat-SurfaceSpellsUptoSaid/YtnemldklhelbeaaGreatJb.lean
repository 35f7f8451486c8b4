/- What the checker is told of functions. Conditions: none. -/
import Derived.Test.YtnemldklhelbeaaGreatJa
set_option linter.unusedVariables false
set_option linter.unusedSimpArgs false
namespace Go.Proofs.YtnemldklhelbeaaGreat
open Go Go.Am Go.Proofs Go.Am.Tt
abbrev BG:Nat:=300000000
def sC (n:Int):Ms:=(.z,.z,n)
def cC (i:Nat):Ms:=(.z,.aT [i],300000001)
def aA (i:Nat):Pt:=.aT [i]
def n0:Sn:=(.sl 59 8 BG (.st [(.int .i64),(.sl 3 1 1048576 (.int .i64)),(.int .i64),(.sl 31 1 1048576 (.sl 3 1 1048576 (.int .i64))),(.int .i64),(.sl 79 2 1048576 (.st [(.str BG),(.str BG)])),(.sl 134 2 1048576 (.st [(.int .i64),(.int .i64)])),(.sl 182 2 1048576 (.st [(.int .i64),(.int .i64)]))]))
def n1:Sn:=(.sl 31 1 BG (.sl 3 1 1048576 (.int .i64)))
def n2:Sn:=(.sl 3 1 BG (.int .i64))
def n3:Sn:=(.st [(.sl 71 2 BG (.st [(.str BG),(.int .i64)]))])
def n4:Sn:=(.st [(.str BG),(.sl 73 2 BG (.st [(.str BG),(.sl 3 1 BG (.int .i64))])),(.sl 74 1 BG (.sl 9 1 BG (.str BG)))])
def n5:Sn:=(.st [(.str BG),(.sl 3 1 BG (.int .i64))])
def n6:Sn:=(.sl 9 1 BG (.str BG))
def n7:Sn:=(.st [(.sl 3 1 BG (.int .i64)),(.sl 3 1 BG (.int .i64)),(.sl 120 2 BG (.st [(.int .i64),(.int .i64)])),(.sl 120 2 BG (.st [(.int .i64),(.int .i64)])),.bool,.bool])
def n8:Sn:=(.st [(.sl 71 2 BG (.st [(.str BG),(.int .i64)])),(.str BG),(.sl 73 2 BG (.st [(.str BG),(.sl 3 1 1048576 (.int .i64))])),(.sl 74 1 BG (.sl 9 1 1048576 (.str BG))),(.sl 77 6 BG (.st [(.sl 3 1 1048576 (.int .i64)),(.sl 3 1 1048576 (.int .i64)),(.sl 120 2 1048576 (.st [(.int .i64),(.int .i64)])),(.sl 120 2 1048576 (.st [(.int .i64),(.int .i64)])),.bool,.bool])),(.int .i64),(.sl 122 3 BG (.st [(.int .i64),(.int .i64),(.int .i64)])),(.sl 3 1 BG (.int .i64)),(.sl 59 8 BG (.st [(.int .i64),(.sl 3 1 1048576 (.int .i64)),(.int .i64),(.sl 31 1 1048576 (.sl 3 1 1048576 (.int .i64))),(.int .i64),(.sl 79 2 1048576 (.st [(.str BG),(.str BG)])),(.sl 134 2 1048576 (.st [(.int .i64),(.int .i64)])),(.sl 182 2 1048576 (.st [(.int .i64),(.int .i64)]))]))])
def n9:Sn:=(.st [(.int .i64),(.sl 122 3 BG (.st [(.int .i64),(.int .i64),(.int .i64)])),(.sl 3 1 BG (.int .i64))])
def n10:Sn:=(.st [(.int .i64),(.int .i64),(.int .i64)])
def n11:Sn:=(.st [(.int .i64),(.sl 3 1 BG (.int .i64)),(.int .i64),(.sl 31 1 BG (.sl 3 1 1048576 (.int .i64))),(.int .i64),(.sl 79 2 BG (.st [(.str BG),(.str BG)])),(.sl 134 2 BG (.st [(.int .i64),(.int .i64)])),(.sl 182 2 BG (.st [(.int .i64),(.int .i64)]))])
def n12:Sn:=(.sl 79 2 BG (.st [(.str BG),(.str BG)]))
def n13:Sn:=(.st [(.str BG),(.str BG)])
def n14:Sn:=(.st [(.int .i64),(.int .i64)])
def n15:Sn:=(.sl 182 2 BG (.st [(.int .i64),(.int .i64)]))
def n16:Sn:=(.sl 59 8 BG (.st [(.int .i64),(.sl 3 1 BG (.int .i64)),(.int .i64),(.sl 31 1 BG (.sl 3 1 BG (.int .i64))),(.int .i64),(.sl 79 2 BG (.st [(.str BG),(.str BG)])),(.sl 134 2 BG (.st [(.int .i64),(.int .i64)])),(.sl 182 2 BG (.st [(.int .i64),(.int .i64)]))]))
def shT:List (Nat × Sn):=[(5,(.int .u8)),(3,(.int .i64))]
def cvT:List (TypeId × TypeId × IntKind × IntKind):=[(3,5,.i64,.u8)]
def qrT:List (Bool × TypeId × Int):=[(false,3,64),(true,3,64),(false,3,4096),(false,3,262144)]
def stT:List (Nat × (Nat × List Sn)):=[(122,(4,[(.int .i64),(.int .i64),(.int .i64)])),(134,(4,[(.int .i64),(.int .i64)]))]
theorem cvT_ok:∀ x∈cvT,CvOk EE x:=allC (fun m=>⟨IntKind.u8.wrap m,by kernel_rfl⟩) <| allN
theorem qrT_ok:∀ x∈qrT,QrOk EE x:=allC (fun m _ _=>⟨IntKind.i64.wrap (m.tdiv 64),by kernel_rfl⟩) <| allC (fun m _ _=>⟨m.tmod 64,by kernel_rfl⟩) <| allC (fun m _ _=>⟨IntKind.i64.wrap (m.tdiv 4096),by kernel_rfl⟩) <| allC (fun m _ _=>⟨IntKind.i64.wrap (m.tdiv 262144),by kernel_rfl⟩) <| allN
theorem stT_ok:∀ x∈stT,StOk EE x:=allC (stOk_of (by kernel_rfl)) <| allC (stOk_of (by kernel_rfl)) <| allN
def TT:Tb:=tbOf shT cvT qrT stT
theorem TT_ok:TbOk EE TT:=tb_ok cvT_ok qrT_ok stT_ok
/- langdoc/langdocref29.small -/
def e38:En:=⟨38,[(1,⟨[⟨.pure,false⟩,⟨.pure,true⟩],[(0,.v 0),(3,.v 1)],[],[]⟩),(2,⟨[⟨.pure,false⟩,⟨.pure,true⟩,⟨.pure,true⟩,⟨.pure,true⟩,⟨.pure,true⟩],[(0,.v 0),(3,.v 1),(4,.v 2),(22,.v 0),(23,.v 1),(26,.v 3),(27,.v 4),(28,.c (.bool false))],[],[]⟩)],⟨[n0],[.bool],[],[]⟩,[(1,⟨[n0,(.int .i64)],[(aA 1,aA 0,0),(aA 0,aA 1,0),(aA 1,.z,299999998),(.z,aA 2,0)],[sC 999,cC 2,sC 1001,sC 0,sC 0]⟩),(2,⟨[n0,(.int .i64),(.int .i64),n1,(.int .i64)],[(aA 1,aA 0,0),(aA 0,aA 1,0),(aA 1,.z,299999998),(aA 2,aA 0,-1),(.z,aA 2,0),(.z,aA 3,0)],[sC 999,cC 2,sC 998,cC 3,sC 1001]⟩)],[sC 1001,sC 0,sC 0,sC 0,sC 0]⟩
/- langdoc/langdocref02.Scalar -/
def e122:En:=⟨122,[],⟨[(.int .i64)],[.bool],[],[]⟩,[],[sC 1001]⟩
/- langdoc/langdocref02.encoded -/
def e123:En:=⟨123,[],⟨[(.int .i64)],[(.str BG)],[],[]⟩,[],[sC 1001]⟩
/- langdoc/langdocref02.Points -/
def e93:En:=⟨93,[(1,⟨[⟨.pure,false⟩,⟨.fresh,true⟩,⟨.pure,true⟩],[(0,.v 0),(4,.v 1),(5,.v 2)],[],[]⟩)],⟨[(.str BG)],[n2,.bool],[],[]⟩,[(1,⟨[(.str BG),n2,(.int .i64)],[(aA 2,aA 3,0)],[sC 999,cC 3,sC 1001]⟩)],[sC 1001,sC 0,sC 0]⟩
/- langdoc/langdocref10.Label -/
def e58:En:=⟨58,[(1,⟨[⟨.pure,false⟩,⟨.pure,true⟩],[(0,.v 0),(3,.v 1)],[],[]⟩)],⟨[(.str BG)],[.bool],[],[]⟩,[(1,⟨[(.str BG),(.int .i64)],[(.z,aA 2,0)],[sC 999,cC 2,sC 1001]⟩)],[sC 1001,sC 0,sC 0]⟩
/- langdoc/langdocref16.Check -/
def e31:En:=⟨31,[(1,⟨[⟨.pure,true⟩,⟨.pure,true⟩,⟨.pure,false⟩],[(1,.loc 0 0),(11,.v 0),(12,.v 1)],[some (.whole (.v 2) 1)],[]⟩),(2,⟨[⟨.pure,true⟩,⟨.pure,true⟩,⟨.pure,true⟩,⟨.pure,false⟩],[(1,.loc 0 0),(3,.v 0),(4,.v 1),(11,.v 2),(12,.v 0)],[some (.whole (.v 3) 1)],[]⟩)],⟨[n3],[(.int .i64)],[],[]⟩,[(1,⟨[(.int .i64),(.int .i64),n3],[(.aT [3,0],aA 1,0),(aA 1,.aT [0,0],0),(aA 1,.z,64),(.z,aA 2,0),(.aT [0,0],.aT [3,0],0)],[sC 999,cC 2,sC 1001,sC 0,sC 0]⟩),(2,⟨[(.int .i64),(.int .i64),(.int .i64),n3],[(aA 2,aA 1,0),(.z,aA 2,0),(aA 1,aA 3,-1),(aA 3,.aT [0,0],0),(.aT [0,0],aA 3,0),(aA 3,.z,64),(.aT [0,0],.aT [4,0],0),(.aT [4,0],.aT [0,0],0)],[sC 999,cC 1,sC 998,cC 2,sC 1001]⟩)],[sC 1001,sC 0,sC 0,sC 0,sC 0]⟩
/- langdoc/langdocref10.Name -/
def e59:En:=⟨59,[(1,⟨[⟨.pure,false⟩,⟨.pure,true⟩],[(0,.v 0),(3,.v 1)],[],[]⟩)],⟨[(.str BG)],[.bool],[],[]⟩,[(1,⟨[(.str BG),(.int .i64)],[(.z,aA 2,0)],[sC 999,cC 2,sC 1001]⟩)],[sC 1001,sC 0,sC 0]⟩
/- langdoc/langdocref17.label -/
def e61:En:=⟨61,[(1,⟨[⟨.pure,false⟩,⟨.pure,true⟩],[(0,.v 0),(3,.v 1)],[],[]⟩)],⟨[(.str BG)],[.bool],[],[]⟩,[(1,⟨[(.str BG),(.int .i64)],[(.z,aA 2,0)],[sC 999,cC 2,sC 1001]⟩)],[sC 1001,sC 0,sC 0]⟩
/- langdoc/langdocref17.unit -/
def e60:En:=⟨60,[(1,⟨[⟨.pure,false⟩,⟨.pure,true⟩,⟨.pure,false⟩,⟨.pure,false⟩,⟨.pure,false⟩],[(2,.v 0),(3,.loc 0 0),(4,.loc 1 0),(7,.loc 2 0),(8,.v 1)],[some (.whole (.v 2) 1),some (.whole (.v 3) 3),some (.whole (.v 4) 2)],[]⟩),(2,⟨[⟨.pure,true⟩,⟨.pure,false⟩,⟨.pure,false⟩],[(3,.loc 0 0),(7,.loc 2 0),(9,.v 0)],[some (.whole (.v 1) 1),none,some (.whole (.v 2) 2)],[]⟩)],⟨[n3,n4,(.int .i64)],[(.int .i64)],[(.z,aA 2,0),(aA 2,.aT [1,1],-1)],[]⟩,[(1,⟨[(.int .i64),(.int .i64),n3,n4,n5],[(aA 3,.aT [6,1],-1),(aA 3,aA 2,0),(.z,aA 4,0)],[sC 999,cC 4,sC 1001]⟩),(2,⟨[(.int .i64),n3,n5],[(.z,aA 3,0)],[sC 998,cC 3,sC 1001]⟩)],[sC 1001,sC 0,sC 0]⟩
/- langdoc/langdocref17.has -/
def e62:En:=⟨62,[(1,⟨[⟨.pure,false⟩,⟨.pure,false⟩,⟨.pure,true⟩],[(0,.v 0),(1,.v 1),(5,.v 2)],[],[]⟩)],⟨[n6,(.str BG)],[.bool],[],[]⟩,[(1,⟨[n6,(.str BG),(.int .i64)],[(aA 2,aA 0,0),(.z,aA 4,0)],[sC 999,cC 4,sC 1001]⟩)],[sC 1001,sC 0,sC 0]⟩
/- langdoc/langdocref16.Is -/
def e94:En:=⟨94,[],⟨[n3,(.int .i64)],[.bool],[],[]⟩,[],[sC 1001]⟩
/- langdoc/langdocref01.Sorted -/
def e95:En:=⟨95,[(1,⟨[⟨.pure,false⟩,⟨.pure,false⟩,⟨.pure,true⟩,⟨.pure,true⟩],[(0,.v 0),(3,.v 1),(6,.v 2),(7,.v 3)],[],[]⟩)],⟨[n2],[n2],[],[]⟩,[(1,⟨[n2,n2,(.int .i64),(.int .i64)],[(aA 3,aA 1,0),(aA 2,aA 4,0)],[sC 999,cC 4,sC 1001]⟩)],[sC 1001,sC 0,sC 0]⟩
/- langdoc/langdocref22.Check -/
def e63:En:=⟨63,[(1,⟨[⟨.pure,true⟩,⟨.pure,true⟩,⟨.pure,false⟩,⟨.pure,false⟩],[(2,.loc 0 0),(3,.loc 1 0),(21,.v 0),(22,.v 1)],[some (.whole (.v 2) 1),some (.whole (.v 3) 6)],[]⟩)],⟨[n3,n7],[(.int .i64)],[],[]⟩,[(1,⟨[(.int .i64),(.int .i64),n3,n7],[(aA 2,.aT [1,0],0),(aA 2,.aT [1,1],0),(.z,aA 3,0),(.aT [1,0],.aT [5,0],0),(.aT [1,1],.aT [5,1],0)],[sC 999,cC 3,sC 1001]⟩)],[sC 1001,sC 0,sC 0]⟩
/- langdoc/langdocref29.rules -/
def e33:En:=⟨33,[(1,⟨[⟨.pure,true⟩,⟨.pure,false⟩],[(1,.loc 0 0),(3,.v 0)],[some (.whole (.v 1) 9)],[]⟩)],⟨[n8],[(.int .i64)],[],[]⟩,[(1,⟨[(.int .i64),n8],[(.z,aA 1,0)],[sC 999,cC 1,sC 1001]⟩)],[sC 1001,sC 0,sC 0]⟩
/- langdoc/langdocref23.state -/
def e64:En:=⟨64,[],⟨[n9,(.int .i64)],[.bool],[],[]⟩,[],[sC 1001]⟩
/- langdoc/langdocref23.Check -/
def e34:En:=⟨34,[(1,⟨[⟨.pure,true⟩,⟨.pure,false⟩],[(1,.loc 0 0),(3,.v 0)],[some (.whole (.v 1) 3)],[]⟩),(2,⟨[⟨.pure,true⟩,⟨.pure,true⟩,⟨.pure,false⟩,⟨.pure,true⟩,⟨.pure,true⟩,⟨.pure,true⟩,⟨.pure,false⟩],[(1,.loc 0 0),(3,.v 0),(4,.loc 1 0),(5,.v 1),(38,.v 2),(39,.loc 1 2),(40,.v 3),(41,.v 4),(42,.c (.bool false)),(48,.loc 1 1),(49,.v 5),(50,.c (.bool false))],[some (.whole (.v 2) 3),some (.whole (.v 6) 3)],[]⟩),(3,⟨[⟨.pure,true⟩,⟨.pure,false⟩],[(1,.loc 0 0),(6,.v 0)],[some (.whole (.v 1) 3)],[]⟩),(4,⟨[⟨.pure,true⟩,⟨.pure,false⟩],[(1,.loc 0 0),(7,.v 0)],[some (.whole (.v 1) 3)],[]⟩)],⟨[n9],[(.int .i64)],[],[]⟩,[(1,⟨[(.int .i64),n9],[(.z,aA 1,0),(.aT [0,0],.aT [2,0],0),(.aT [2,0],.aT [0,0],0),(.aT [0,1],.aT [2,1],0),(.aT [2,1],.aT [0,1],0),(.aT [0,2],.aT [2,2],0),(.aT [2,2],.aT [0,2],0)],[sC 999,cC 1,sC 1001,sC 0,sC 0]⟩),(3,⟨[(.int .i64),n9],[(.z,aA 1,-1)],[sC 997,cC 1,sC 1001,sC 0,sC 0]⟩),(4,⟨[(.int .i64),n9],[(.z,aA 1,0)],[sC 996,cC 1,sC 1001,sC 0,sC 0]⟩),(2,⟨[(.int .i64),(.int .i64),n9,(.int .i64),.bool,(.int .i64),n10],[(aA 1,.aT [0,1],-1),(.z,aA 1,0),(.z,aA 2,0),(.aT [0,0],.aT [3,0],0),(.aT [3,0],.aT [0,0],0),(.aT [0,1],.aT [3,1],0),(.aT [3,1],.aT [0,1],0),(.aT [0,2],.aT [3,2],0),(.aT [3,2],.aT [0,2],0)],[sC 999,cC 1,sC 998,cC 2,sC 1001]⟩)],[sC 1001,sC 0,sC 0,sC 0,sC 0]⟩
/- langdoc/langdocref10.Identifier -/
def e111:En:=⟨111,[],⟨[(.int .i64)],[.bool],[],[]⟩,[],[sC 1001]⟩
/- langdoc/langdocref16.Word -/
def e112:En:=⟨112,[(1,⟨[⟨.pure,false⟩,⟨.pure,true⟩,⟨.pure,true⟩,⟨.pure,false⟩],[(1,.v 0),(2,.loc 0 0),(13,.v 1),(14,.v 2)],[some (.whole (.v 3) 1)],[]⟩)],⟨[n3,n2],[(.int .i64)],[],[]⟩,[(1,⟨[n2,(.int .i64),(.int .i64),n3],[(aA 3,aA 2,0),(aA 3,aA 1,0),(.z,aA 4,0)],[sC 999,cC 4,sC 1001]⟩)],[sC 1001,sC 0,sC 0]⟩
/- langdoc/langdocref01.Same -/
def e20:En:=⟨20,[(1,⟨[⟨.pure,false⟩,⟨.pure,false⟩,⟨.pure,true⟩,⟨.pure,true⟩],[(0,.v 0),(1,.v 1),(12,.v 2),(13,.v 3)],[],[]⟩)],⟨[n2,n2],[.bool],[],[]⟩,[(1,⟨[n2,n2,(.int .i64),(.int .i64)],[(aA 4,aA 2,0),(aA 4,aA 3,0),(.z,aA 5,0)],[sC 999,cC 5,sC 1001]⟩)],[sC 1001,sC 0,sC 0]⟩
/- langdoc/langdocref24.words -/
def e96:En:=⟨96,[(1,⟨[⟨.pure,true⟩,⟨.pure,false⟩,⟨.pure,false⟩],[(2,.loc 0 0),(3,.loc 1 0),(6,.v 0)],[some (.whole (.v 1) 1),some (.whole (.v 2) 8)],[]⟩),(2,⟨[⟨.pure,true⟩,⟨.pure,true⟩,⟨.pure,false⟩,⟨.pure,false⟩],[(2,.loc 0 0),(3,.loc 1 0),(6,.v 0),(8,.v 1)],[some (.whole (.v 2) 1),some (.whole (.v 3) 8)],[]⟩)],⟨[n3,n11],[(.int .i64)],[],[]⟩,[(1,⟨[(.int .i64),n3,n11],[(.z,aA 2,0),(.aT [0,0],.aT [3,0],0),(.aT [3,0],.aT [0,0],0),(.aT [1,0],.aT [4,0],0),(.aT [4,0],.aT [1,0],0),(.aT [1,1],.aT [4,1],0),(.aT [4,1],.aT [1,1],0),(.aT [1,2],.aT [4,2],0),(.aT [4,2],.aT [1,2],0),(.aT [1,3],.aT [4,3],0),(.aT [4,3],.aT [1,3],0),(.aT [1,4],.aT [4,4],0),(.aT [4,4],.aT [1,4],0),(.aT [1,5],.aT [4,5],0),(.aT [4,5],.aT [1,5],0),(.aT [1,6],.aT [4,6],0),(.aT [4,6],.aT [1,6],0),(.aT [1,7],.aT [4,7],0),(.aT [4,7],.aT [1,7],0)],[sC 999,cC 2,sC 1001,sC 0,sC 0]⟩),(2,⟨[(.int .i64),(.int .i64),n3,n11],[(aA 2,.aT [1,3],-1),(.z,aA 2,0),(.z,aA 3,0),(.aT [0,0],.aT [4,0],0),(.aT [4,0],.aT [0,0],0),(.aT [1,0],.aT [5,0],0),(.aT [5,0],.aT [1,0],0),(.aT [1,1],.aT [5,1],0),(.aT [5,1],.aT [1,1],0),(.aT [1,2],.aT [5,2],0),(.aT [5,2],.aT [1,2],0),(.aT [1,3],.aT [5,3],0),(.aT [5,3],.aT [1,3],0),(.aT [1,4],.aT [5,4],0),(.aT [5,4],.aT [1,4],0),(.aT [1,5],.aT [5,5],0),(.aT [5,5],.aT [1,5],0),(.aT [1,6],.aT [5,6],0),(.aT [5,6],.aT [1,6],0),(.aT [1,7],.aT [5,7],0),(.aT [5,7],.aT [1,7],0)],[sC 999,cC 2,sC 998,cC 3,sC 1001]⟩)],[sC 1001,sC 0,sC 0,sC 0,sC 0]⟩
/- langdoc/langdocref24.Gloss -/
def e124:En:=⟨124,[(1,⟨[⟨.pure,false⟩,⟨.pure,true⟩],[(0,.v 0),(3,.v 1)],[],[]⟩)],⟨[(.str BG)],[.bool],[],[]⟩,[(1,⟨[(.str BG),(.int .i64)],[(.z,aA 2,0)],[sC 999,cC 2,sC 1001]⟩)],[sC 1001,sC 0,sC 0]⟩
/- langdoc/langdocref12.Text -/
def e125:En:=⟨125,[(1,⟨[⟨.pure,false⟩,⟨.pure,true⟩],[(3,.v 0),(5,.v 1)],[],[]⟩)],⟨[(.str BG)],[(.int .i64)],[],[]⟩,[(1,⟨[n2,(.int .i64)],[(.z,aA 2,0)],[sC 999,cC 2,sC 1001]⟩)],[sC 1001,sC 0,sC 0]⟩
/- langdoc/langdocref24.has -/
def e126:En:=⟨126,[(1,⟨[⟨.pure,false⟩,⟨.pure,false⟩,⟨.pure,true⟩],[(0,.v 0),(1,.v 1),(5,.v 2)],[],[]⟩)],⟨[n12,(.str BG)],[.bool],[],[]⟩,[(1,⟨[n12,(.str BG),(.int .i64)],[(aA 2,aA 0,0),(.z,aA 4,0)],[sC 999,cC 4,sC 1001]⟩)],[sC 1001,sC 0,sC 0]⟩
/- langdoc/langdocref24.sense -/
def e113:En:=⟨113,[],⟨[n12,n13],[(.int .i64)],[],[]⟩,[],[sC 1001]⟩
/- langdoc/langdocref24.senses -/
def e97:En:=⟨97,[(1,⟨[⟨.pure,true⟩,⟨.pure,false⟩],[(1,.loc 0 0),(3,.v 0)],[some (.whole (.v 1) 8)],[]⟩)],⟨[n11],[(.int .i64)],[],[]⟩,[(1,⟨[(.int .i64),n11],[(.z,aA 1,0)],[sC 999,cC 1,sC 1001]⟩)],[sC 1001,sC 0,sC 0]⟩
/- langdoc/langdocref24.links -/
def e98:En:=⟨98,[(1,⟨[⟨.pure,true⟩,⟨.pure,false⟩],[(1,.loc 0 0),(3,.v 0)],[some (.whole (.v 1) 8)],[]⟩)],⟨[n11],[(.int .i64)],[],[]⟩,[(1,⟨[(.int .i64),n11],[(.z,aA 1,0)],[sC 999,cC 1,sC 1001]⟩)],[sC 1001,sC 0,sC 0]⟩
/- langdoc/langdocref24.Ref -/
def e114:En:=⟨114,[],⟨[n14],[.bool],[],[]⟩,[],[sC 1001]⟩
/- langdoc/langdocref24.Precedes -/
def e115:En:=⟨115,[],⟨[n14,n14],[.bool],[],[]⟩,[],[sC 1001]⟩
/- langdoc/langdocref24.Refs -/
def e99:En:=⟨99,[(1,⟨[⟨.pure,false⟩,⟨.pure,true⟩],[(0,.v 0),(5,.v 1)],[],[]⟩)],⟨[n15,(.int .i64)],[(.int .i64)],[],[]⟩,[(1,⟨[n15,(.int .i64)],[(.z,aA 3,0)],[sC 999,cC 3,sC 1001]⟩)],[sC 1001,sC 0,sC 0]⟩
/- langdoc/langdocref24.Check -/
def e65:En:=⟨65,[],⟨[n3,n11],[(.int .i64)],[],[]⟩,[],[sC 1001]⟩
/- langdoc/langdocref25.Get -/
def e23:En:=⟨23,[(1,⟨[⟨.pure,false⟩,⟨.pure,false⟩,⟨.pure,true⟩,⟨.pure,true⟩],[(0,.v 0),(1,.v 1),(4,.loc 0 0),(8,.v 2),(9,.v 3)],[some (.cells [.c (.int .i64 0),.c (.slice none 0 0),.c (.int .i64 0),.c (.slice none 0 0),.c (.int .i64 0),.c (.slice none 0 0),.c (.slice none 0 0),.c (.slice none 0 0)])],[]⟩)],⟨[n0,(.int .i64)],[n11,.bool],[],[]⟩,[(1,⟨[n0,(.int .i64),(.int .i64),(.int .i64)],[(aA 4,aA 2,0),(.z,aA 5,0)],[sC 999,cC 5,sC 1001]⟩)],[sC 1001,sC 0,sC 0]⟩
/- langdoc/langdocref25.has -/
def e66:En:=⟨66,[],⟨[n0,(.int .i64)],[.bool],[],[]⟩,[],[sC 1001]⟩
/- langdoc/langdocref25.Check -/
def e35:En:=⟨35,[(1,⟨[⟨.pure,false⟩,⟨.pure,true⟩,⟨.pure,true⟩,⟨.pure,false⟩],[(1,.v 0),(2,.loc 0 0),(13,.v 1),(14,.v 2)],[some (.whole (.v 3) 1)],[]⟩),(2,⟨[⟨.pure,false⟩,⟨.pure,true⟩,⟨.pure,true⟩],[(1,.v 0),(44,.v 1),(45,.v 2)],[],[]⟩),(3,⟨[⟨.pure,false⟩,⟨.pure,true⟩,⟨.pure,true⟩,⟨.pure,false⟩,⟨.pure,false⟩,⟨.pure,false⟩,⟨.pure,false⟩,⟨.pure,false⟩,⟨.pure,true⟩,⟨.pure,true⟩],[(1,.v 0),(7,.v 1),(44,.v 2),(45,.v 1),(55,.v 3),(56,.v 3),(57,.v 4),(60,.v 5),(61,.v 6),(62,.v 7),(69,.v 8),(70,.v 9)],[],[]⟩)],⟨[n3,n0],[(.int .i64)],[],[]⟩,[(1,⟨[n0,(.int .i64),(.int .i64),n3],[(aA 2,aA 1,0),(aA 1,aA 2,0),(aA 2,.z,299999998),(aA 3,aA 2,0),(.z,aA 4,0)],[sC 999,cC 4,sC 1001,sC 0,sC 0]⟩),(2,⟨[n0,(.int .i64),(.int .i64)],[(aA 2,aA 3,0),(aA 2,aA 1,0),(aA 1,aA 2,0),(aA 2,.z,299999998),(aA 3,aA 2,0),(.z,aA 4,0)],[sC 998,cC 4,sC 1001,sC 0,sC 0]⟩),(3,⟨[n0,(.int .i64),(.int .i64),.any,.any,.any,.any,.any,(.int .i64),(.int .i64)],[(aA 2,.z,299999998),(.z,aA 3,0),(aA 4,aA 2,0),(aA 2,aA 4,0),(aA 3,aA 4,-1),(aA 4,aA 1,0),(aA 1,aA 4,0),(.z,aA 11,0),(aA 10,.el [2] [3] 6,0)],[sC 998,cC 3,sC 997,cC 11,sC 1001]⟩)],[sC 1001,sC 0,sC 0,sC 0,sC 0]⟩
/- langdoc/langdocref26.Inverse -/
def e67:En:=⟨67,[],⟨[(.int .i64)],[(.int .i64)],[],[]⟩,[],[sC 1001]⟩
/- langdoc/langdocref26.find -/
def e68:En:=⟨68,[(1,⟨[⟨.pure,false⟩,⟨.pure,false⟩,⟨.pure,true⟩],[(0,.v 0),(1,.v 1),(5,.v 2)],[],[]⟩)],⟨[n16,(.int .i64)],[(.int .i64)],[],[(.z,aA 2,1),(aA 2,aA 0,-1)]⟩,[(1,⟨[n16,(.int .i64),(.int .i64)],[(aA 2,aA 0,0),(.z,aA 4,0)],[sC 999,cC 4,sC 1001]⟩)],[sC 1001,sC 0,sC 0]⟩
/- langdoc/langdocref26.has -/
def e69:En:=⟨69,[(1,⟨[⟨.pure,true⟩,⟨.pure,false⟩,⟨.pure,false⟩],[(2,.loc 0 0),(3,.loc 1 0),(5,.v 0)],[some (.whole (.v 1) 8),some (.whole (.v 2) 2)],[]⟩)],⟨[n11,n14],[.bool],[],[]⟩,[(1,⟨[(.int .i64),n11,n14],[(.z,aA 2,0)],[sC 999,cC 2,sC 1001]⟩)],[sC 1001,sC 0,sC 0]⟩
/- langdoc/langdocref26.in -/
def e70:En:=⟨70,[(1,⟨[⟨.pure,false⟩,⟨.pure,false⟩,⟨.pure,true⟩],[(0,.v 0),(1,.v 1),(5,.v 2)],[],[]⟩)],⟨[n2,(.int .i64)],[.bool],[],[]⟩,[(1,⟨[n2,(.int .i64),(.int .i64)],[(.z,aA 4,0)],[sC 999,cC 4,sC 1001]⟩)],[sC 1001,sC 0,sC 0]⟩
/- langdoc/langdocref26.Check -/
def e36:En:=⟨36,[(1,⟨[⟨.pure,false⟩,⟨.pure,true⟩],[(0,.v 0),(3,.v 1)],[],[]⟩),(2,⟨[⟨.pure,false⟩,⟨.pure,true⟩,⟨.pure,true⟩],[(0,.v 0),(3,.v 1),(4,.v 2)],[],[]⟩),(3,⟨[⟨.pure,false⟩,⟨.pure,true⟩],[(0,.v 0),(7,.v 1)],[],[]⟩)],⟨[n0],[(.int .i64)],[],[]⟩,[(1,⟨[n0,(.int .i64)],[(aA 1,aA 0,0),(aA 0,aA 1,0),(.z,aA 2,0)],[sC 999,cC 2,sC 1001,sC 0,sC 0]⟩),(2,⟨[n0,(.int .i64),(.int .i64)],[(aA 2,aA 1,-1),(aA 1,aA 0,0),(aA 0,aA 1,0),(.z,aA 2,0),(.z,aA 3,0)],[sC 999,cC 2,sC 998,cC 3,sC 1001]⟩),(3,⟨[n0,(.int .i64)],[(.z,aA 2,0)],[sC 997,cC 2,sC 1001,sC 0,sC 0]⟩)],[sC 1001,sC 0,sC 0,sC 0,sC 0]⟩
/- langdoc/langdocref27.find -/
def e72:En:=⟨72,[(1,⟨[⟨.pure,false⟩,⟨.pure,false⟩,⟨.pure,true⟩],[(0,.v 0),(1,.v 1),(5,.v 2)],[],[]⟩)],⟨[n0,(.int .i64)],[(.int .i64)],[],[(.z,aA 2,1),(aA 2,aA 0,-1)]⟩,[(1,⟨[n0,(.int .i64),(.int .i64)],[(aA 2,aA 0,0),(.z,aA 4,0)],[sC 999,cC 4,sC 1001]⟩)],[sC 1001,sC 0,sC 0]⟩
/- langdoc/langdocref27.way -/
def e73:En:=⟨73,[(1,⟨[⟨.pure,false⟩,⟨.fresh,true⟩,⟨.pure,true⟩],[(0,.v 0),(5,.v 1),(6,.v 2)],[],[]⟩)],⟨[n0,(.int .i64)],[n2],[(aA 0,.z,299999999)],[]⟩,[(1,⟨[n0,n2,(.int .i64)],[(aA 4,aA 2,-1),(aA 2,aA 0,0)],[sC 999,cC 3,sC 1001]⟩)],[sC 1001,sC 0,sC 0]⟩
/- langdoc/langdocref27.Check -/
def e37:En:=⟨37,[(1,⟨[⟨.pure,false⟩,⟨.pure,true⟩],[(0,.v 0),(3,.v 1)],[],[]⟩),(2,⟨[⟨.pure,false⟩,⟨.pure,true⟩],[(0,.v 0),(4,.v 1)],[],[]⟩)],⟨[n0],[(.int .i64)],[(aA 0,.z,299999999)],[]⟩,[(1,⟨[n0,(.int .i64)],[(aA 1,aA 0,0),(.z,aA 2,0)],[sC 999,cC 2,sC 1001]⟩),(2,⟨[n0,(.int .i64)],[(aA 1,aA 0,0),(.z,aA 2,0)],[sC 998,cC 2,sC 1001]⟩)],[sC 1001,sC 0,sC 0]⟩
/- langdoc/langdocref29.Check -/
def e11:En:=⟨11,[],⟨[n8],[(.int .i64)],[(.aT [0,8],.z,299999999)],[]⟩,[],[sC 1001]⟩
/- langdoc/langdocref29.Light -/
def e12:En:=⟨12,[(1,⟨[⟨.pure,true⟩,⟨.pure,false⟩],[(1,.loc 0 0),(3,.v 0)],[some (.whole (.v 1) 9)],[]⟩)],⟨[n8],[.bool],[(.aT [0,8],.z,299999999)],[]⟩,[(1,⟨[(.int .i64),n8],[(.z,aA 1,0),(.aT [2,8],.aT [0,8],0)],[sC 999,cC 1,sC 1001]⟩)],[sC 1001,sC 0,sC 0]⟩
def ensA:List En:=[e38,e122,e123,e59,e62,e94,e64,e34,e111,e112,e20,e96,e126,e98,e114,e115,e99,e23,e66,e67,e68,e69,e70,e72,e73,e37]
def ensB:List En:=[e93,e58,e31,e61,e60,e95,e63,e33,e124,e125,e113,e97,e65,e35,e36]
def ensC:List En:=[e11,e12]
end Go.Proofs.YtnemldklhelbeaaGreat
namespace Go.Proofs.YtnemldklhelbeaaGreat
open Go Go.Am Go.Proofs Go.Am.Tt
theorem okA:allOk EE Tryz.prog TT [] ensA=true:=by kernel_rfl
theorem tabA:∀ p∈tabOf [] ensA,SpOk (Holds EE) p.1 p.2:=allOk_ok good regs TT_ok (fun _ h=>by cases h) okA
end Go.Proofs.YtnemldklhelbeaaGreat
namespace Go.Proofs.YtnemldklhelbeaaGreat
open Go Go.Am Go.Proofs
def u109P:Nat→Pat
 | 1=>⟨[⟨.pure,false⟩,⟨.pure,false⟩,⟨.pure,true⟩,⟨.pure,true⟩,⟨.pure,true⟩],[(0,.v 0),(1,.v 1),(6,.v 2),(7,.v 3),(8,.v 4)],[],[]⟩
 | _=>⟨[],[],[],[]⟩
def u109T0:Tree :=
 .bind .chr [.v 0,.v 1] <|
 .bind (.conv 5 3) [.v 2] <|
 bk' .geq 14 240 3 <|
 it' 4 (
  bk' .sub 16 240 3 <|
  .bind (.bin .add 3 (.tmp 28) (.tmp 29)) [.v 1,k' 4] <|
  .bind (.len true) [.v 0] <|
  bt' .gtr 30 32 6 7 <|
  it' 8 (
   .ret [.c (.int .i64 (-1)),k' 0]) (
   .jump 1 [.v 0,.v 1,.v 5,k' 4,k' 1])) (
  bk' .geq 19 224 3 <|
  it' 5 (
   bk' .sub 21 224 3 <|
   .bind (.bin .add 3 (.tmp 28) (.tmp 29)) [.v 1,k' 3] <|
   .bind (.len true) [.v 0] <|
   bt' .gtr 30 32 7 8 <|
   it' 9 (
    .ret [.c (.int .i64 (-1)),k' 0]) (
    .jump 1 [.v 0,.v 1,.v 6,k' 3,k' 1])) (
   bk' .geq 24 192 3 <|
   it' 6 (
    bk' .sub 26 192 3 <|
    .bind (.bin .add 3 (.tmp 28) (.tmp 29)) [.v 1,k' 2] <|
    .bind (.len true) [.v 0] <|
    bt' .gtr 30 32 8 9 <|
    it' 10 (
     .ret [.c (.int .i64 (-1)),k' 0]) (
     .jump 1 [.v 0,.v 1,.v 7,k' 2,k' 1])) (
    .bind (.bin .add 3 (.tmp 28) (.tmp 29)) [.v 1,k' 1] <|
    .bind (.len true) [.v 0] <|
    bt' .gtr 30 32 7 8 <|
    it' 9 (
     .ret [.c (.int .i64 (-1)),k' 0]) (
     .jump 1 [.v 0,.v 1,.v 3,k' 1,k' 1]))))
def u109T1:Tree :=
 bt' .lss 34 35 4 3 <|
 it' 5 (
  bk' .mul 39 64 2 <|
  bt' .add 42 43 1 4 <|
  .bind .chr [.v 0,.v 7] <|
  .bind (.conv 5 3) [.v 8] <|
  bk' .rem 46 64 9 <|
  bt' .add 40 47 6 10 <|
  bk' .add 37 1 4 <|
  .jump 1 [.v 0,.v 1,.v 11,.v 3,.v 12]) (
  .call (.fn 122) [.v 2] 1 <|
  .bind (.un .not 4) [.v 6] <|
  it' 7 (
   .ret [.c (.int .i64 (-1)),k' 0]) (
   .call (.fn 123) [.v 2] 1 <|
   bt' .add 57 58 1 3 <|
   .bind (.sub true true) [.v 0,.v 1,.v 9] <|
   .bind (.bin .neq 9 (.tmp 54) (.tmp 60)) [.v 8,.v 10] <|
   it' 11 (
    .ret [.c (.int .i64 (-1)),k' 0]) (
    .ret [.v 2,.v 3])))
def u109Ts:Nat→Tree
 | 0=>u109T0
 | 1=>u109T1
 | _=>.fail
def u32P:Nat→Pat
 | 1=>⟨[⟨.pure,true⟩,⟨.pure,false⟩,⟨.pure,false⟩],[(2,.loc 0 0),(3,.loc 1 0),(5,.v 0)],[some (.whole (.v 1) 1),some (.whole (.v 2) 3)],[]⟩
 | 2=>⟨[⟨.fresh,true⟩,⟨.pure,true⟩,⟨.pure,false⟩],[(3,.loc 1 0),(7,.v 0),(8,.v 1)],[none,some (.whole (.v 2) 3)],[]⟩
 | 3=>⟨[⟨.fresh,true⟩,⟨.pure,true⟩,⟨.pure,true⟩,⟨.pure,false⟩],[(3,.loc 1 0),(7,.v 0),(8,.v 1),(9,.v 2)],[none,some (.whole (.v 3) 3)],[]⟩
 | _=>⟨[],[],[],[]⟩
def u32T0:Tree :=
 .bind (.chk true 1) [.v 0] <|
 .bind (.chk true 3) [.v 1] <|
 fl' 0 3 <|
 .call (.fn 59) [.v 4] 1 <|
 .bind (.un .not 4) [.v 5] <|
 it' 6 (
  rk' 7) (
  fl' 1 3 <|
  ln' 7 <|
  bk' .gtr 17 100 8 <|
  it' 9 (
   rk' 11) (
   .jump 1 [k' 0,.v 2,.v 3]))
def u32T1:Tree :=
 fl' 1 2 <|
 ln' 3 <|
 bt' .lss 19 22 0 4 <|
 it' 5 (
  .call (.fn 60) [.v 1,.v 2,.v 0] 1 <|
  .bind (.bin .neq 39 (.tmp 30) (K' 0)) [.v 6,k' 0] <|
  it' 7 (
   .ret [.v 6]) (
   bk' .add 24 1 0 <|
   .jump 1 [.v 8,.v 1,.v 2])) (
  fl' 2 2 <|
  ln' 6 <|
  bk' .gtr 35 100 7 <|
  it' 8 (
   rk' 11) (
   .jump 2 [.c (.slice none 0 0),k' 0,.v 2]))
def u32T2:Tree :=
 fl' 2 2 <|
 ln' 3 <|
 bt' .lss 37 40 1 4 <|
 it' 5 (
  fl' 2 2 <|
  ir' 6 1 <|
  el' 1 0 6 1 <|
  ln' 8 <|
  bk' .eql 49 0 9 <|
  it' 10 (
   rk' 4) (
   .jump 3 [.v 0,.v 1,k' 0,.v 2])) (
  rk' 0)
def u32T3:Tree :=
 fl' 2 3 <|
 ir' 4 1 <|
 el' 1 0 4 1 <|
 ln' 6 <|
 bt' .lss 51 57 2 7 <|
 it' 8 (
  fl' 2 3 <|
  ir' 9 1 <|
  el' 1 0 9 1 <|
  ir' 11 2 <|
  el' 1 0 11 2 <|
  .call (.fn 61) [.v 13] 1 <|
  .bind (.un .not 4) [.v 14] <|
  it' 15 (
   rk' 3) (
   .call (.fn 62) [.v 0,.v 13] 1 <|
   it' 16 (
    rk' 8) (
    .bind (.chk false 1) [.v 13] <|
    .bind (.lit 9 1) [.v 13] <|
    .bind (.app 9 1 16) [.v 0,.v 18] <|
    bk' .add 59 1 2 <|
    .jump 3 [.v 19,.v 1,.v 20,.v 3]))) (
  bk' .add 42 1 1 <|
  .jump 2 [.v 0,.v 9,.v 3])
def u32Ts:Nat→Tree
 | 0=>u32T0
 | 1=>u32T1
 | 2=>u32T2
 | 3=>u32T3
 | _=>.fail
def u110P:Nat→Pat
 | 1=>⟨[⟨.pure,false⟩,⟨.pure,false⟩,⟨.fresh,true⟩,⟨.pure,true⟩],[(0,.v 0),(1,.v 1),(5,.v 2),(6,.v 3)],[],[]⟩
 | _=>⟨[],[],[],[]⟩
def u110T0:Tree :=
 .jump 1 [.v 0,.v 1,.c (.slice none 0 0),k' 0]
def u110T1:Tree :=
 ln' 0 <|
 bt' .lss 7 9 3 4 <|
 it' 5 (
  ir' 0 3 <|
  el' 1 0 0 3 <|
  bt' .lss 15 16 7 1 <|
  it' 8 (
   ir' 0 3 <|
   el' 1 0 0 3 <|
   .bind (.chk false 1) [.v 10] <|
   .bind (.lit 3 1) [.v 10] <|
   .bind (.app 3 1 8) [.v 2,.v 12] <|
   bk' .add 26 1 3 <|
   .jump 1 [.v 0,.v 1,.v 13,.v 14]) (
   .bind (.chk false 1) [.v 1] <|
   .bind (.lit 3 1) [.v 1] <|
   .bind (.app 3 1 8) [.v 2,.v 10] <|
   ln' 0 <|
   bt' .lss 32 34 3 12 <|
   it' 13 (
    ir' 0 3 <|
    el' 1 0 0 3 <|
    bt' .eql 40 41 15 1 <|
    it' 16 (
     bk' .add 44 1 3 <|
     .bind (.slc 3 1 true false) [.v 0,.v 17] <|
     .bind (.app 3 1 8) [.v 11,.v 18] <|
     .ret [.v 19]) (
     .bind (.slc 3 1 true false) [.v 0,.v 3] <|
     .bind (.app 3 1 8) [.v 11,.v 17] <|
     .ret [.v 18])) (
    .bind (.slc 3 1 true false) [.v 0,.v 3] <|
    .bind (.app 3 1 8) [.v 11,.v 14] <|
    .ret [.v 15]))) (
  .bind (.chk false 1) [.v 1] <|
  .bind (.lit 3 1) [.v 1] <|
  .bind (.app 3 1 8) [.v 2,.v 7] <|
  ln' 0 <|
  bt' .lss 32 34 3 9 <|
  it' 10 (
   ir' 0 3 <|
   el' 1 0 0 3 <|
   bt' .eql 40 41 12 1 <|
   it' 13 (
    bk' .add 44 1 3 <|
    .bind (.slc 3 1 true false) [.v 0,.v 14] <|
    .bind (.app 3 1 8) [.v 8,.v 15] <|
    .ret [.v 16]) (
    .bind (.slc 3 1 true false) [.v 0,.v 3] <|
    .bind (.app 3 1 8) [.v 8,.v 14] <|
    .ret [.v 15])) (
   .bind (.slc 3 1 true false) [.v 0,.v 3] <|
   .bind (.app 3 1 8) [.v 8,.v 11] <|
   .ret [.v 12]))
def u110Ts:Nat→Tree
 | 0=>u110T0
 | 1=>u110T1
 | _=>.fail
def u71P:Nat→Pat
 | 1=>⟨[⟨.pure,false⟩,⟨.pure,false⟩,⟨.fresh,true⟩,⟨.fresh,true⟩,⟨.pure,true⟩],[(0,.v 0),(2,.v 1),(7,.v 2),(8,.v 3),(9,.v 4)],[],[]⟩
 | 2=>⟨[⟨.pure,false⟩,⟨.pure,false⟩,⟨.fresh,true⟩,⟨.fresh,true⟩,⟨.pure,true⟩,⟨.fresh,true⟩,⟨.pure,true⟩],[(0,.v 0),(2,.v 1),(7,.v 2),(8,.v 3),(9,.v 4),(10,.v 5),(11,.v 6)],[],[]⟩
 | 3=>⟨[⟨.pure,false⟩,⟨.pure,false⟩,⟨.fresh,true⟩,⟨.fresh,true⟩,⟨.pure,true⟩,⟨.fresh,true⟩,⟨.pure,true⟩,⟨.pure,true⟩,⟨.pure,true⟩],[(0,.v 0),(2,.v 1),(7,.v 2),(8,.v 3),(9,.v 4),(10,.v 5),(11,.v 6),(12,.v 7),(13,.v 8)],[],[]⟩
 | 4=>⟨[⟨.pure,false⟩,⟨.fresh,true⟩,⟨.fresh,true⟩,⟨.pure,true⟩],[(0,.v 0),(7,.v 1),(16,.v 2),(17,.v 3)],[],[]⟩
 | _=>⟨[],[],[],[]⟩
def u71T0:Tree :=
 ln' 0 <|
 .bind (.mk 4 1 1 false [(.bool false)]) [.v 3] <|
 .bind (.chk false 1) [.v 1] <|
 .bind (.lit 3 1) [.v 1] <|
 .jump 1 [.v 0,.v 2,.v 4,.v 6,k' 0]
def u71T1:Tree :=
 ln' 0 <|
 bt' .leq 23 25 4 5 <|
 it' 6 (
  .jump 2 [.v 0,.v 1,.v 2,.v 3,.v 4,.c (.slice none 0 0),k' 0]) (
  .jump 4 [.v 0,.v 2,.c (.slice none 0 0),k' 0])
def u71T2:Tree :=
 ln' 3 <|
 bt' .lss 29 31 6 7 <|
 it' 8 (
  ir' 3 6 <|
  el' 1 0 3 6 <|
  .call (.fn 68) [.v 0,.v 10] 1 <|
  .jump 3 [.v 0,.v 1,.v 2,.v 3,.v 4,.v 5,.v 6,.v 11,k' 0]) (
  bk' .add 27 1 4 <|
  .jump 1 [.v 0,.v 1,.v 2,.v 5,.v 9])
def u71T3:Tree :=
 bk' .geq 41 0 7 <|
 it' 9 (
  ir' 0 7 <|
  el' 8 6 0 7 <|
  ln' 11 <|
  bt' .lss 44 50 8 12 <|
  it' 13 (
   ir' 0 7 <|
   el' 8 6 0 7 <|
   ir' 15 8 <|
   .bind (.elem 2 true 2 0) [.v 15,.v 8] <|
   .bind (.chk true 2) [.v 17] <|
   fl' 1 18 <|
   .call (.fn 68) [.v 0,.v 19] 1 <|
   fl' 0 18 <|
   bt' .eql 68 69 21 1 <|
   it' 22 (
    bk' .geq 72 0 20 <|
    it' 23 (
     ir' 2 20 <|
     el' 1 0 2 20 <|
     .bind (.un .not 4) [.v 25] <|
     it' 26 (
      ir' 2 20 <|
      .bind (.set 1 false 1 0) [.v 2,.v 20,.c (.bool true)] <|
      fl' 1 18 <|
      .bind (.chk false 1) [.v 29] <|
      .bind (.lit 3 1) [.v 29] <|
      .bind (.app 3 1 8) [.v 5,.v 31] <|
      bk' .add 53 1 8 <|
      .jump 3 [.v 0,.v 1,.v 28,.v 3,.v 4,.v 32,.v 6,.v 7,.v 33]) (
      bk' .add 53 1 8 <|
      .jump 3 [.v 0,.v 1,.v 2,.v 3,.v 4,.v 5,.v 6,.v 7,.v 27])) (
     bk' .add 53 1 8 <|
     .jump 3 [.v 0,.v 1,.v 2,.v 3,.v 4,.v 5,.v 6,.v 7,.v 24])) (
    bk' .add 53 1 8 <|
    .jump 3 [.v 0,.v 1,.v 2,.v 3,.v 4,.v 5,.v 6,.v 7,.v 23])) (
   bk' .add 33 1 6 <|
   .jump 2 [.v 0,.v 1,.v 2,.v 3,.v 4,.v 5,.v 14])) (
  bk' .add 33 1 6 <|
  .jump 2 [.v 0,.v 1,.v 2,.v 3,.v 4,.v 5,.v 10])
def u71T4:Tree :=
 ln' 0 <|
 bt' .lss 91 93 3 4 <|
 it' 5 (
  ir' 1 3 <|
  el' 1 0 1 3 <|
  it' 7 (
   ir' 0 3 <|
   el' 8 0 0 3 <|
   .bind (.chk false 1) [.v 9] <|
   .bind (.lit 3 1) [.v 9] <|
   .bind (.app 3 1 8) [.v 2,.v 11] <|
   bk' .add 95 1 3 <|
   .jump 4 [.v 0,.v 1,.v 12,.v 13]) (
   bk' .add 95 1 3 <|
   .jump 4 [.v 0,.v 1,.v 2,.v 8])) (
  .ret [.v 2])
def u71Ts:Nat→Tree
 | 0=>u71T0
 | 1=>u71T1
 | 2=>u71T2
 | 3=>u71T3
 | 4=>u71T4
 | _=>.fail
def u95P:Nat→Pat
 | 1=>⟨[⟨.pure,false⟩,⟨.pure,false⟩,⟨.pure,true⟩,⟨.pure,true⟩],[(0,.v 0),(3,.v 1),(6,.v 2),(7,.v 3)],[],[]⟩
 | _=>⟨[],[],[],[]⟩
def u95T0:Tree :=
 ln' 0 <|
 .jump 1 [.v 0,.c (.slice none 0 0),.v 1,k' 0]
def u95T1:Tree :=
 bt' .lss 7 6 3 2 <|
 it' 4 (
  ir' 0 3 <|
  el' 1 0 0 3 <|
  .call (.fn 110) [.v 1,.v 6] 0 <|
  bk' .add 7 1 3 <|
  .jump 1 [.v 0,.v 7,.v 2,.v 8]) (
  .ret [.v 1])
theorem allH:(rt Tryz.f109 2 u109P,
 hd Tryz.f109 2 u109P,
 nr Tryz.f109,
 rt Tryz.f32 2 u32P,
 hd Tryz.f32 2 u32P,
 nr Tryz.f32,
 rt Tryz.f110 2 u110P,
 hd Tryz.f110 2 u110P,
 nr Tryz.f110,
 rt Tryz.f71 3 u71P,
 hd Tryz.f71 3 u71P,
 nr Tryz.f71,
 rt Tryz.f95 1 u95P,
 hd Tryz.f95 1 u95P,
 nr Tryz.f95) =
 (u109T0,[(1,u109T1)],false,u32T0,[(1,u32T1),(2,u32T2),(3,u32T3)],false,u110T0,[(1,u110T1)],false,u71T0,[(1,u71T1),(2,u71T2),(3,u71T3),(4,u71T4)],false,u95T0,[(1,u95T1)],false):=by kernel_rfl
theorem u109 {ds:List D} {d:D} (hn:ds.length=2) (h:Goes EE (Holds EE) u109Ts 0 ds d):Holds EE 109 ds d :=
 hu Tryz.func109 rfl ((Prod.mk.inj allH).1) ((Prod.mk.inj (nx1 allH)).1) ((Prod.mk.inj (nx1 (nx1 allH))).1) (tabC rfl <| tabN) hn h
theorem u32 {ds:List D} {d:D} (hn:ds.length=2) (h:Goes EE (Holds EE) u32Ts 0 ds d):Holds EE 32 ds d :=
 hu Tryz.func32 rfl ((Prod.mk.inj (nx1 (nx1 (nx1 allH)))).1) ((Prod.mk.inj (nx4 allH)).1) ((Prod.mk.inj (nx1 (nx4 allH))).1) (tabC rfl <| tabC rfl <| tabC rfl <| tabN) hn h
theorem u110 {ds:List D} {d:D} (hn:ds.length=2) (h:Goes EE (Holds EE) u110Ts 0 ds d):Holds EE 110 ds d :=
 hu Tryz.func110 rfl ((Prod.mk.inj (nx1 (nx1 (nx4 allH)))).1) ((Prod.mk.inj (nx1 (nx1 (nx1 (nx4 allH))))).1) ((Prod.mk.inj (nx4 (nx4 allH))).1) (tabC rfl <| tabN) hn h
theorem u71 {ds:List D} {d:D} (hn:ds.length=3) (h:Goes EE (Holds EE) u71Ts 0 ds d):Holds EE 71 ds d :=
 hu Tryz.func71 rfl ((Prod.mk.inj (nx1 (nx4 (nx4 allH)))).1) ((Prod.mk.inj (nx1 (nx1 (nx4 (nx4 allH))))).1) ((Prod.mk.inj (nx1 (nx1 (nx1 (nx4 (nx4 allH)))))).1) (tabC rfl <| tabC rfl <| tabC rfl <| tabC rfl <| tabN) hn h
end Go.Proofs.YtnemldklhelbeaaGreat
