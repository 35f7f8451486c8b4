/- What the checker is told of functions. Conditions: none. -/
import Derived.Test.YtbkinfgpcjjaaaaGreatDoorEa
set_option linter.all false
namespace Go.Proofs.YtbkinfgpcjjaaaaGreatDoor
open Go Go.Am Go.Proofs Go.Am.Tt
abbrev BG : Nat := 300000000
def sC (n : Int) : Ms := (.z, .z, n)
def cC (i : Nat) : Ms := (.z, .aT [i], 300000001)
def aA (i : Nat) : Pt := .aT [i]
def n0 : Sn := (.sl 3 1 BG (.int .i64))
def n1 : Sn := (.st [(.sl 92 2 BG (.st [(.str BG), (.int .i64)]))])
def n2 : Sn := (.st [(.str BG), (.sl 94 2 BG (.st [(.str BG), (.sl 3 1 BG (.int .i64))])), (.sl 71 1 BG (.sl 9 1 BG (.str BG)))])
def n3 : Sn := (.st [(.str BG), (.sl 3 1 BG (.int .i64))])
def n4 : Sn := (.sl 9 1 BG (.str BG))
def n5 : Sn := (.st [(.sl 3 1 BG (.int .i64)), (.sl 3 1 BG (.int .i64)), (.sl 358 2 BG (.st [(.int .i64), (.int .i64)])), (.sl 358 2 BG (.st [(.int .i64), (.int .i64)])), .bool, .bool])
def n6 : Sn := (.st [(.sl 92 2 BG (.st [(.str BG), (.int .i64)])), (.str BG), (.sl 94 2 BG (.st [(.str BG), (.sl 3 1 1048576 (.int .i64))])), (.sl 71 1 BG (.sl 9 1 1048576 (.str BG))), (.sl 90 6 BG (.st [(.sl 3 1 1048576 (.int .i64)), (.sl 3 1 1048576 (.int .i64)), (.sl 358 2 1048576 (.st [(.int .i64), (.int .i64)])), (.sl 358 2 1048576 (.st [(.int .i64), (.int .i64)])), .bool, .bool])), (.int .i64), (.sl 96 3 BG (.st [(.int .i64), (.int .i64), (.int .i64)])), (.sl 3 1 BG (.int .i64)), (.sl 106 8 BG (.st [(.int .i64), (.sl 3 1 1048576 (.int .i64)), (.int .i64), (.sl 31 1 1048576 (.sl 3 1 1048576 (.int .i64))), (.int .i64), (.sl 98 2 1048576 (.st [(.str BG), (.str BG)])), (.sl 204 2 1048576 (.st [(.int .i64), (.int .i64)])), (.sl 101 2 1048576 (.st [(.int .i64), (.int .i64)]))]))])
def n7 : Sn := (.st [(.int .i64), (.sl 96 3 BG (.st [(.int .i64), (.int .i64), (.int .i64)])), (.sl 3 1 BG (.int .i64))])
def n8 : Sn := (.st [(.int .i64), (.int .i64), (.int .i64)])
def n9 : Sn := (.st [(.int .i64), (.sl 3 1 BG (.int .i64)), (.int .i64), (.sl 31 1 BG (.sl 3 1 1048576 (.int .i64))), (.int .i64), (.sl 98 2 BG (.st [(.str BG), (.str BG)])), (.sl 204 2 BG (.st [(.int .i64), (.int .i64)])), (.sl 101 2 BG (.st [(.int .i64), (.int .i64)]))])
def n10 : Sn := (.sl 98 2 BG (.st [(.str BG), (.str BG)]))
def n11 : Sn := (.st [(.str BG), (.str BG)])
def n12 : Sn := (.st [(.int .i64), (.int .i64)])
def n13 : Sn := (.sl 101 2 BG (.st [(.int .i64), (.int .i64)]))
def n14 : Sn := (.sl 106 8 BG (.st [(.int .i64), (.sl 3 1 1048576 (.int .i64)), (.int .i64), (.sl 31 1 1048576 (.sl 3 1 1048576 (.int .i64))), (.int .i64), (.sl 98 2 1048576 (.st [(.str BG), (.str BG)])), (.sl 204 2 1048576 (.st [(.int .i64), (.int .i64)])), (.sl 101 2 1048576 (.st [(.int .i64), (.int .i64)]))]))
def n15 : Sn := (.sl 106 8 BG (.st [(.int .i64), (.sl 3 1 BG (.int .i64)), (.int .i64), (.sl 31 1 BG (.sl 3 1 BG (.int .i64))), (.int .i64), (.sl 98 2 BG (.st [(.str BG), (.str BG)])), (.sl 204 2 BG (.st [(.int .i64), (.int .i64)])), (.sl 101 2 BG (.st [(.int .i64), (.int .i64)]))]))
def n16 : Sn := (.sl 112 4 BG (.st [(.str BG), (.int .i64), (.int .i64), (.int .i64)]))
def n17 : Sn := (.st [(.str BG), (.int .i64), (.int .i64), (.int .i64)])
def n18 : Sn := (.st [(.int .i64), (.str BG), (.int .i64), (.int .i64), (.sl 3 1 BG (.int .i64)), (.sl 112 4 BG (.st [(.str BG), (.int .i64), (.int .i64), (.int .i64)])), (.sl 116 7 BG (.st [(.int .i64), (.int .i64), (.int .i64), (.int .i64), (.int .i64), (.int .i64), (.str BG)]))])
def n19 : Sn := (.st [(.int .i64), (.int .i64), (.int .i64), (.int .i64), (.int .i64), (.int .i64), (.str BG)])
def n20 : Sn := (.sl 116 7 BG (.st [(.int .i64), (.int .i64), (.int .i64), (.int .i64), (.int .i64), (.int .i64), (.str BG)]))
def n21 : Sn := (.sl 114 2 BG (.st [(.int .i64), (.int .i64)]))
def n22 : Sn := (.st [(.sl 254 3 BG (.st [(.int .i64), (.int .i64), (.int .i64)]))])
def n23 : Sn := (.st [(.int .i64), (.int .i64), .bool, (.sl 254 3 BG (.st [(.int .i64), (.int .i64), (.int .i64)]))])
def n24 : Sn := (.sl 140 4 BG (.st [(.int .i64), (.int .i64), .bool, (.sl 254 3 1048576 (.st [(.int .i64), (.int .i64), (.int .i64)]))]))
def n25 : Sn := (.st [(.int .i64), (.str BG), (.str BG), (.sl 3 1 BG (.int .i64)), (.sl 101 2 BG (.st [(.int .i64), (.int .i64)]))])
def n26 : Sn := (.sl 144 5 BG (.st [(.int .i64), (.str BG), (.str BG), (.sl 3 1 1048576 (.int .i64)), (.sl 101 2 1048576 (.st [(.int .i64), (.int .i64)]))]))
def n27 : Sn := (.sl 68 7 BG (.st [(.int .i64), (.str BG), (.int .i64), (.int .i64), (.sl 3 1 1048576 (.int .i64)), (.sl 112 4 1048576 (.st [(.str BG), (.int .i64), (.int .i64), (.int .i64)])), (.sl 116 7 1048576 (.st [(.int .i64), (.int .i64), (.int .i64), (.int .i64), (.int .i64), (.int .i64), (.str BG)]))]))
def n28 : Sn := (.sl 64 5 BG (.st [(.int .i64), (.str BG), (.int .i64), (.int .i64), (.sl 3 1 1048576 (.int .i64))]))
def n29 : Sn := (.sl 108 3 BG (.st [(.int .i64), (.str BG), .bool]))
def n30 : Sn := (.st [(.int .i64), (.str BG), .bool])
def n31 : Sn := (.st [(.int .i64), (.str BG), (.int .i64), (.int .i64), (.sl 3 1 BG (.int .i64))])
def n32 : Sn := (.sl 223 4 BG (.st [(.int .i64), (.str BG), (.sl 3 1 1048576 (.int .i64)), (.sl 3 1 1048576 (.int .i64))]))
def n33 : Sn := (.st [(.int .i64), (.str BG), (.sl 3 1 BG (.int .i64)), (.sl 3 1 BG (.int .i64))])
def n34 : Sn := (.sl 110 4 BG (.st [(.int .i64), (.int .i64), (.int .i64), (.int .i64)]))
def n35 : Sn := (.st [(.int .i64), (.sl 3 1 BG (.int .i64)), (.int .i64)])
def n36 : Sn := (.st [(.sl 108 3 BG (.st [(.int .i64), (.str BG), .bool])), (.sl 223 4 BG (.st [(.int .i64), (.str BG), (.sl 3 1 1048576 (.int .i64)), (.sl 3 1 1048576 (.int .i64))])), (.sl 110 4 BG (.st [(.int .i64), (.int .i64), (.int .i64), (.int .i64)])), (.sl 154 6 BG (.st [(.int .i64), (.int .i64), (.int .i64), (.int .i64), (.sl 3 1 1048576 (.int .i64)), (.int .i64)]))])
def n37 : Sn := (.st [(.int .i64), (.int .i64), (.int .i64), (.int .i64), (.sl 3 1 BG (.int .i64)), (.int .i64)])
def n38 : Sn := (.st [(.sl 92 2 BG (.st [(.str BG), (.int .i64)])), (.str BG), (.sl 94 2 BG (.st [(.str BG), (.sl 3 1 1048576 (.int .i64))])), (.sl 71 1 BG (.sl 9 1 1048576 (.str BG))), (.sl 90 6 BG (.st [(.sl 3 1 1048576 (.int .i64)), (.sl 3 1 1048576 (.int .i64)), (.sl 358 2 1048576 (.st [(.int .i64), (.int .i64)])), (.sl 358 2 1048576 (.st [(.int .i64), (.int .i64)])), .bool, .bool])), (.int .i64), (.sl 96 3 BG (.st [(.int .i64), (.int .i64), (.int .i64)])), (.sl 3 1 BG (.int .i64)), (.sl 106 8 BG (.st [(.int .i64), (.sl 3 1 1048576 (.int .i64)), (.int .i64), (.sl 31 1 1048576 (.sl 3 1 1048576 (.int .i64))), (.int .i64), (.sl 98 2 1048576 (.st [(.str BG), (.str BG)])), (.sl 204 2 1048576 (.st [(.int .i64), (.int .i64)])), (.sl 101 2 1048576 (.st [(.int .i64), (.int .i64)]))])), (.sl 68 7 BG (.st [(.int .i64), (.str BG), (.int .i64), (.int .i64), (.sl 3 1 1048576 (.int .i64)), (.sl 112 4 1048576 (.st [(.str BG), (.int .i64), (.int .i64), (.int .i64)])), (.sl 116 7 1048576 (.st [(.int .i64), (.int .i64), (.int .i64), (.int .i64), (.int .i64), (.int .i64), (.str BG)]))])), (.sl 140 4 BG (.st [(.int .i64), (.int .i64), .bool, (.sl 254 3 1048576 (.st [(.int .i64), (.int .i64), (.int .i64)]))])), (.sl 144 5 BG (.st [(.int .i64), (.str BG), (.str BG), (.sl 3 1 1048576 (.int .i64)), (.sl 101 2 1048576 (.st [(.int .i64), (.int .i64)]))])), (.sl 108 3 BG (.st [(.int .i64), (.str BG), .bool])), (.sl 223 4 BG (.st [(.int .i64), (.str BG), (.sl 3 1 1048576 (.int .i64)), (.sl 3 1 1048576 (.int .i64))])), (.sl 110 4 BG (.st [(.int .i64), (.int .i64), (.int .i64), (.int .i64)])), (.sl 154 6 BG (.st [(.int .i64), (.int .i64), (.int .i64), (.int .i64), (.sl 3 1 1048576 (.int .i64)), (.int .i64)]))])
def n39 : Sn := (.sl 31 1 BG (.sl 3 1 1048576 (.int .i64)))
def shT : List (Nat × Sn) := [(5, (.int .u8)), (3, (.int .i64)), (116, n19), (114, n12), (64, (.st [(.int .i64), (.str BG), (.int .i64), (.int .i64), (.sl 3 1 1048576 (.int .i64))]))]
def cvT : List (TypeId × TypeId × IntKind × IntKind) := [(3, 5, .i64, .u8)]
def qrT : List (Bool × TypeId × Int) := [(false, 3, 64), (true, 3, 64), (false, 3, 4096), (false, 3, 262144)]
def stT : List (Nat × (Nat × List Sn)) := [(96, (4, [(.int .i64), (.int .i64), (.int .i64)])), (204, (4, [(.int .i64), (.int .i64)])), (114, (4, [(.int .i64), (.int .i64)])), (254, (4, [(.int .i64), (.int .i64), (.int .i64)])), (101, (4, [(.int .i64), (.int .i64)]))]
theorem cvT_ok : ∀ x ∈ cvT, CvOk EE x := allC (fun m => ⟨IntKind.u8.wrap m, by kernel_rfl⟩) <| allN
theorem qrT_ok : ∀ x ∈ qrT, QrOk EE x := allC (fun m _ _ => ⟨IntKind.i64.wrap (m.tdiv 64), by kernel_rfl⟩) <| allC (fun m _ _ => ⟨m.tmod 64, by kernel_rfl⟩) <| allC (fun m _ _ => ⟨IntKind.i64.wrap (m.tdiv 4096), by kernel_rfl⟩) <| allC (fun m _ _ => ⟨IntKind.i64.wrap (m.tdiv 262144), by kernel_rfl⟩) <| allN
theorem stT_ok : ∀ x ∈ stT, StOk EE x := allC (stOk_of (by kernel_rfl)) <| allC (stOk_of (by kernel_rfl)) <| allC (stOk_of (by kernel_rfl)) <| allC (stOk_of (by kernel_rfl)) <| allC (stOk_of (by kernel_rfl)) <| allN
def TT : Tb := tbOf shT cvT qrT stT
theorem TT_ok : TbOk EE TT := tb_ok cvT_ok qrT_ok stT_ok
/- langdoc/langdocref02.Scalar -/
def e277 : En := ⟨277, [], ⟨[(.int .i64)], [.bool], [], []⟩, [], [sC 1001]⟩
/- langdoc/langdocref02.encoded -/
def e278 : En := ⟨278, [], ⟨[(.int .i64)], [(.str BG)], [], []⟩, [], [sC 1001]⟩
/- langdoc/langdocref02.Points -/
def e166 : En := ⟨166, [(1, ⟨[⟨.pure, false⟩, ⟨.fresh, true⟩, ⟨.pure, true⟩], [(0, .v 0), (4, .v 1), (5, .v 2)], []⟩)], ⟨[(.str BG)], [n0, .bool], [], []⟩, [(1, ⟨[(.str BG), n0, (.int .i64)], [(aA 2, aA 3, 0)], [sC 999, cC 3, sC 1001]⟩)], [sC 1001, sC 0, sC 0]⟩
/- langdoc/langdocref10.Label -/
def e88 : En := ⟨88, [(1, ⟨[⟨.pure, false⟩, ⟨.pure, true⟩], [(0, .v 0), (3, .v 1)], []⟩)], ⟨[(.str BG)], [.bool], [], []⟩, [(1, ⟨[(.str BG), (.int .i64)], [(.z, aA 2, 0)], [sC 999, cC 2, sC 1001]⟩)], [sC 1001, sC 0, sC 0]⟩
/- langdoc/langdocref16.Check -/
def e38 : En := ⟨38, [(1, ⟨[⟨.pure, true⟩, ⟨.pure, true⟩, ⟨.pure, false⟩], [(1, .loc 0 0), (11, .v 0), (12, .v 1)], [some (.whole (.v 2) 1)]⟩), (2, ⟨[⟨.pure, true⟩, ⟨.pure, true⟩, ⟨.pure, true⟩, ⟨.pure, false⟩], [(1, .loc 0 0), (3, .v 0), (4, .v 1), (11, .v 2), (12, .v 0)], [some (.whole (.v 3) 1)]⟩)], ⟨[n1], [(.int .i64)], [], []⟩, [(1, ⟨[(.int .i64), (.int .i64), n1], [(.aT [3, 0], aA 1, 0), (aA 1, .aT [0, 0], 0), (aA 1, .z, 64), (.z, aA 2, 0), (.aT [0, 0], .aT [3, 0], 0)], [sC 999, cC 2, sC 1001, sC 0, sC 0]⟩), (2, ⟨[(.int .i64), (.int .i64), (.int .i64), n1], [(aA 2, aA 1, 0), (.z, aA 2, 0), (aA 1, aA 3, -1), (aA 3, .aT [0, 0], 0), (.aT [0, 0], aA 3, 0), (aA 3, .z, 64), (.aT [0, 0], .aT [4, 0], 0), (.aT [4, 0], .aT [0, 0], 0)], [sC 999, cC 1, sC 998, cC 2, sC 1001]⟩)], [sC 1001, sC 0, sC 0, sC 0, sC 0]⟩
/- langdoc/langdocref10.Name -/
def e89 : En := ⟨89, [(1, ⟨[⟨.pure, false⟩, ⟨.pure, true⟩], [(0, .v 0), (3, .v 1)], []⟩)], ⟨[(.str BG)], [.bool], [], []⟩, [(1, ⟨[(.str BG), (.int .i64)], [(.z, aA 2, 0)], [sC 999, cC 2, sC 1001]⟩)], [sC 1001, sC 0, sC 0]⟩
/- langdoc/langdocref17.label -/
def e91 : En := ⟨91, [(1, ⟨[⟨.pure, false⟩, ⟨.pure, true⟩], [(0, .v 0), (3, .v 1)], []⟩)], ⟨[(.str BG)], [.bool], [], []⟩, [(1, ⟨[(.str BG), (.int .i64)], [(.z, aA 2, 0)], [sC 999, cC 2, sC 1001]⟩)], [sC 1001, sC 0, sC 0]⟩
/- langdoc/langdocref17.unit -/
def e90 : En := ⟨90, [(1, ⟨[⟨.pure, false⟩, ⟨.pure, true⟩, ⟨.pure, false⟩, ⟨.pure, false⟩, ⟨.pure, false⟩], [(2, .v 0), (3, .loc 0 0), (4, .loc 1 0), (7, .loc 2 0), (8, .v 1)], [some (.whole (.v 2) 1), some (.whole (.v 3) 3), some (.whole (.v 4) 2)]⟩), (2, ⟨[⟨.pure, true⟩, ⟨.pure, false⟩, ⟨.pure, false⟩], [(3, .loc 0 0), (7, .loc 2 0), (9, .v 0)], [some (.whole (.v 1) 1), none, some (.whole (.v 2) 2)]⟩)], ⟨[n1, n2, (.int .i64)], [(.int .i64)], [(.z, aA 2, 0), (aA 2, .aT [1, 1], -1)], []⟩, [(1, ⟨[(.int .i64), (.int .i64), n1, n2, n3], [(aA 3, .aT [6, 1], -1), (aA 3, aA 2, 0), (.z, aA 4, 0)], [sC 999, cC 4, sC 1001]⟩), (2, ⟨[(.int .i64), n1, n3], [(.z, aA 3, 0)], [sC 998, cC 3, sC 1001]⟩)], [sC 1001, sC 0, sC 0]⟩
/- langdoc/langdocref17.has -/
def e92 : En := ⟨92, [(1, ⟨[⟨.pure, false⟩, ⟨.pure, false⟩, ⟨.pure, true⟩], [(0, .v 0), (1, .v 1), (5, .v 2)], []⟩)], ⟨[n4, (.str BG)], [.bool], [], []⟩, [(1, ⟨[n4, (.str BG), (.int .i64)], [(aA 2, aA 0, 0), (.z, aA 4, 0)], [sC 999, cC 4, sC 1001]⟩)], [sC 1001, sC 0, sC 0]⟩
/- langdoc/langdocref16.Is -/
def e167 : En := ⟨167, [], ⟨[n1, (.int .i64)], [.bool], [], []⟩, [], [sC 1001]⟩
/- langdoc/langdocref01.Sorted -/
def e168 : En := ⟨168, [(1, ⟨[⟨.pure, false⟩, ⟨.pure, false⟩, ⟨.pure, true⟩, ⟨.pure, true⟩], [(0, .v 0), (3, .v 1), (6, .v 2), (7, .v 3)], []⟩)], ⟨[n0], [n0], [], []⟩, [(1, ⟨[n0, n0, (.int .i64), (.int .i64)], [(aA 3, aA 1, 0), (aA 2, aA 4, 0)], [sC 999, cC 4, sC 1001]⟩)], [sC 1001, sC 0, sC 0]⟩
/- langdoc/langdocref22.Check -/
def e93 : En := ⟨93, [(1, ⟨[⟨.pure, true⟩, ⟨.pure, true⟩, ⟨.pure, false⟩, ⟨.pure, false⟩], [(2, .loc 0 0), (3, .loc 1 0), (21, .v 0), (22, .v 1)], [some (.whole (.v 2) 1), some (.whole (.v 3) 6)]⟩)], ⟨[n1, n5], [(.int .i64)], [], []⟩, [(1, ⟨[(.int .i64), (.int .i64), n1, n5], [(aA 2, .aT [1, 0], 0), (aA 2, .aT [1, 1], 0), (.z, aA 3, 0), (.aT [1, 0], .aT [5, 0], 0), (.aT [1, 1], .aT [5, 1], 0)], [sC 999, cC 3, sC 1001]⟩)], [sC 1001, sC 0, sC 0]⟩
/- langdoc/langdocref29.rules -/
def e40 : En := ⟨40, [(1, ⟨[⟨.pure, true⟩, ⟨.pure, false⟩], [(1, .loc 0 0), (3, .v 0)], [some (.whole (.v 1) 9)]⟩)], ⟨[n6], [(.int .i64)], [], []⟩, [(1, ⟨[(.int .i64), n6], [(.z, aA 1, 0)], [sC 999, cC 1, sC 1001]⟩)], [sC 1001, sC 0, sC 0]⟩
/- langdoc/langdocref23.state -/
def e94 : En := ⟨94, [], ⟨[n7, (.int .i64)], [.bool], [], []⟩, [], [sC 1001]⟩
/- langdoc/langdocref23.Check -/
def e41 : En := ⟨41, [(1, ⟨[⟨.pure, true⟩, ⟨.pure, false⟩], [(1, .loc 0 0), (3, .v 0)], [some (.whole (.v 1) 3)]⟩), (2, ⟨[⟨.pure, true⟩, ⟨.pure, true⟩, ⟨.pure, false⟩, ⟨.pure, true⟩, ⟨.pure, true⟩, ⟨.pure, true⟩, ⟨.pure, false⟩], [(1, .loc 0 0), (3, .v 0), (4, .loc 1 0), (5, .v 1), (38, .v 2), (39, .loc 1 2), (40, .v 3), (41, .v 4), (42, .c (.bool false)), (48, .loc 1 1), (49, .v 5), (50, .c (.bool false))], [some (.whole (.v 2) 3), some (.whole (.v 6) 3)]⟩), (3, ⟨[⟨.pure, true⟩, ⟨.pure, false⟩], [(1, .loc 0 0), (6, .v 0)], [some (.whole (.v 1) 3)]⟩), (4, ⟨[⟨.pure, true⟩, ⟨.pure, false⟩], [(1, .loc 0 0), (7, .v 0)], [some (.whole (.v 1) 3)]⟩)], ⟨[n7], [(.int .i64)], [], []⟩, [(1, ⟨[(.int .i64), n7], [(.z, aA 1, 0), (.aT [0, 0], .aT [2, 0], 0), (.aT [2, 0], .aT [0, 0], 0), (.aT [0, 1], .aT [2, 1], 0), (.aT [2, 1], .aT [0, 1], 0), (.aT [0, 2], .aT [2, 2], 0), (.aT [2, 2], .aT [0, 2], 0)], [sC 999, cC 1, sC 1001, sC 0, sC 0]⟩), (3, ⟨[(.int .i64), n7], [(.z, aA 1, -1)], [sC 997, cC 1, sC 1001, sC 0, sC 0]⟩), (4, ⟨[(.int .i64), n7], [(.z, aA 1, 0)], [sC 996, cC 1, sC 1001, sC 0, sC 0]⟩), (2, ⟨[(.int .i64), (.int .i64), n7, (.int .i64), .bool, (.int .i64), n8], [(aA 1, .aT [0, 1], -1), (.z, aA 1, 0), (.z, aA 2, 0), (.aT [0, 0], .aT [3, 0], 0), (.aT [3, 0], .aT [0, 0], 0), (.aT [0, 1], .aT [3, 1], 0), (.aT [3, 1], .aT [0, 1], 0), (.aT [0, 2], .aT [3, 2], 0), (.aT [3, 2], .aT [0, 2], 0)], [sC 999, cC 1, sC 998, cC 2, sC 1001]⟩)], [sC 1001, sC 0, sC 0, sC 0, sC 0]⟩
/- langdoc/langdocref10.Identifier -/
def e48 : En := ⟨48, [], ⟨[(.int .i64)], [.bool], [], []⟩, [], [sC 1001]⟩
/- langdoc/langdocref16.Word -/
def e234 : En := ⟨234, [(1, ⟨[⟨.pure, false⟩, ⟨.pure, true⟩, ⟨.pure, true⟩, ⟨.pure, false⟩], [(1, .v 0), (2, .loc 0 0), (13, .v 1), (14, .v 2)], [some (.whole (.v 3) 1)]⟩)], ⟨[n1, n0], [(.int .i64)], [], []⟩, [(1, ⟨[n0, (.int .i64), (.int .i64), n1], [(aA 3, aA 2, 0), (aA 3, aA 1, 0), (.z, aA 4, 0)], [sC 999, cC 4, sC 1001]⟩)], [sC 1001, sC 0, sC 0]⟩
/- langdoc/langdocref01.Same -/
def e235 : En := ⟨235, [(1, ⟨[⟨.pure, false⟩, ⟨.pure, false⟩, ⟨.pure, true⟩, ⟨.pure, true⟩], [(0, .v 0), (1, .v 1), (12, .v 2), (13, .v 3)], []⟩)], ⟨[n0, n0], [.bool], [], []⟩, [(1, ⟨[n0, n0, (.int .i64), (.int .i64)], [(aA 4, aA 2, 0), (aA 4, aA 3, 0), (.z, aA 5, 0)], [sC 999, cC 5, sC 1001]⟩)], [sC 1001, sC 0, sC 0]⟩
/- langdoc/langdocref24.words -/
def e169 : En := ⟨169, [(1, ⟨[⟨.pure, true⟩, ⟨.pure, false⟩, ⟨.pure, false⟩], [(2, .loc 0 0), (3, .loc 1 0), (6, .v 0)], [some (.whole (.v 1) 1), some (.whole (.v 2) 8)]⟩), (2, ⟨[⟨.pure, true⟩, ⟨.pure, true⟩, ⟨.pure, false⟩, ⟨.pure, false⟩], [(2, .loc 0 0), (3, .loc 1 0), (6, .v 0), (8, .v 1)], [some (.whole (.v 2) 1), some (.whole (.v 3) 8)]⟩)], ⟨[n1, n9], [(.int .i64)], [], []⟩, [(1, ⟨[(.int .i64), n1, n9], [(.z, aA 2, 0), (.aT [0, 0], .aT [3, 0], 0), (.aT [3, 0], .aT [0, 0], 0), (.aT [1, 0], .aT [4, 0], 0), (.aT [4, 0], .aT [1, 0], 0), (.aT [1, 1], .aT [4, 1], 0), (.aT [4, 1], .aT [1, 1], 0), (.aT [1, 2], .aT [4, 2], 0), (.aT [4, 2], .aT [1, 2], 0), (.aT [1, 3], .aT [4, 3], 0), (.aT [4, 3], .aT [1, 3], 0), (.aT [1, 4], .aT [4, 4], 0), (.aT [4, 4], .aT [1, 4], 0), (.aT [1, 5], .aT [4, 5], 0), (.aT [4, 5], .aT [1, 5], 0), (.aT [1, 6], .aT [4, 6], 0), (.aT [4, 6], .aT [1, 6], 0), (.aT [1, 7], .aT [4, 7], 0), (.aT [4, 7], .aT [1, 7], 0)], [sC 999, cC 2, sC 1001, sC 0, sC 0]⟩), (2, ⟨[(.int .i64), (.int .i64), n1, n9], [(aA 2, .aT [1, 3], -1), (.z, aA 2, 0), (.z, aA 3, 0), (.aT [0, 0], .aT [4, 0], 0), (.aT [4, 0], .aT [0, 0], 0), (.aT [1, 0], .aT [5, 0], 0), (.aT [5, 0], .aT [1, 0], 0), (.aT [1, 1], .aT [5, 1], 0), (.aT [5, 1], .aT [1, 1], 0), (.aT [1, 2], .aT [5, 2], 0), (.aT [5, 2], .aT [1, 2], 0), (.aT [1, 3], .aT [5, 3], 0), (.aT [5, 3], .aT [1, 3], 0), (.aT [1, 4], .aT [5, 4], 0), (.aT [5, 4], .aT [1, 4], 0), (.aT [1, 5], .aT [5, 5], 0), (.aT [5, 5], .aT [1, 5], 0), (.aT [1, 6], .aT [5, 6], 0), (.aT [5, 6], .aT [1, 6], 0), (.aT [1, 7], .aT [5, 7], 0), (.aT [5, 7], .aT [1, 7], 0)], [sC 999, cC 2, sC 998, cC 3, sC 1001]⟩)], [sC 1001, sC 0, sC 0, sC 0, sC 0]⟩
/- langdoc/langdocref24.Gloss -/
def e279 : En := ⟨279, [(1, ⟨[⟨.pure, false⟩, ⟨.pure, true⟩], [(0, .v 0), (3, .v 1)], []⟩)], ⟨[(.str BG)], [.bool], [], []⟩, [(1, ⟨[(.str BG), (.int .i64)], [(.z, aA 2, 0)], [sC 999, cC 2, sC 1001]⟩)], [sC 1001, sC 0, sC 0]⟩
/- langdoc/langdocref12.Text -/
def e105 : En := ⟨105, [(1, ⟨[⟨.pure, false⟩, ⟨.pure, true⟩], [(3, .v 0), (5, .v 1)], []⟩)], ⟨[(.str BG)], [(.int .i64)], [], []⟩, [(1, ⟨[n0, (.int .i64)], [(.z, aA 2, 0)], [sC 999, cC 2, sC 1001]⟩)], [sC 1001, sC 0, sC 0]⟩
/- langdoc/langdocref24.has -/
def e280 : En := ⟨280, [(1, ⟨[⟨.pure, false⟩, ⟨.pure, false⟩, ⟨.pure, true⟩], [(0, .v 0), (1, .v 1), (5, .v 2)], []⟩)], ⟨[n10, (.str BG)], [.bool], [], []⟩, [(1, ⟨[n10, (.str BG), (.int .i64)], [(aA 2, aA 0, 0), (.z, aA 4, 0)], [sC 999, cC 4, sC 1001]⟩)], [sC 1001, sC 0, sC 0]⟩
/- langdoc/langdocref24.sense -/
def e236 : En := ⟨236, [], ⟨[n10, n11], [(.int .i64)], [], []⟩, [], [sC 1001]⟩
/- langdoc/langdocref24.senses -/
def e170 : En := ⟨170, [(1, ⟨[⟨.pure, true⟩, ⟨.pure, false⟩], [(1, .loc 0 0), (3, .v 0)], [some (.whole (.v 1) 8)]⟩)], ⟨[n9], [(.int .i64)], [], []⟩, [(1, ⟨[(.int .i64), n9], [(.z, aA 1, 0)], [sC 999, cC 1, sC 1001]⟩)], [sC 1001, sC 0, sC 0]⟩
/- langdoc/langdocref24.links -/
def e171 : En := ⟨171, [(1, ⟨[⟨.pure, true⟩, ⟨.pure, false⟩], [(1, .loc 0 0), (3, .v 0)], [some (.whole (.v 1) 8)]⟩)], ⟨[n9], [(.int .i64)], [], []⟩, [(1, ⟨[(.int .i64), n9], [(.z, aA 1, 0)], [sC 999, cC 1, sC 1001]⟩)], [sC 1001, sC 0, sC 0]⟩
/- langdoc/langdocref24.Ref -/
def e177 : En := ⟨177, [], ⟨[n12], [.bool], [], []⟩, [], [sC 1001]⟩
/- langdoc/langdocref24.Precedes -/
def e178 : En := ⟨178, [], ⟨[n12, n12], [.bool], [], []⟩, [], [sC 1001]⟩
/- langdoc/langdocref24.Refs -/
def e117 : En := ⟨117, [(1, ⟨[⟨.pure, false⟩, ⟨.pure, true⟩], [(0, .v 0), (5, .v 1)], []⟩)], ⟨[n13, (.int .i64)], [(.int .i64)], [], []⟩, [(1, ⟨[n13, (.int .i64)], [(.z, aA 3, 0)], [sC 999, cC 3, sC 1001]⟩)], [sC 1001, sC 0, sC 0]⟩
/- langdoc/langdocref24.Check -/
def e95 : En := ⟨95, [], ⟨[n1, n9], [(.int .i64)], [], []⟩, [], [sC 1001]⟩
/- langdoc/langdocref25.Get -/
def e116 : En := ⟨116, [(1, ⟨[⟨.pure, false⟩, ⟨.pure, false⟩, ⟨.pure, true⟩, ⟨.pure, true⟩], [(0, .v 0), (1, .v 1), (4, .loc 0 0), (8, .v 2), (9, .v 3)], [some (.cells [.c (.int .i64 0), .c (.slice none 0 0), .c (.int .i64 0), .c (.slice none 0 0), .c (.int .i64 0), .c (.slice none 0 0), .c (.slice none 0 0), .c (.slice none 0 0)])]⟩)], ⟨[n14, (.int .i64)], [n9, .bool], [], []⟩, [(1, ⟨[n14, (.int .i64), (.int .i64), (.int .i64)], [(aA 4, aA 2, 0), (.z, aA 5, 0)], [sC 999, cC 5, sC 1001]⟩)], [sC 1001, sC 0, sC 0]⟩
/- langdoc/langdocref25.has -/
def e96 : En := ⟨96, [], ⟨[n14, (.int .i64)], [.bool], [], []⟩, [], [sC 1001]⟩
/- langdoc/langdocref25.Check -/
def e42 : En := ⟨42, [(1, ⟨[⟨.pure, false⟩, ⟨.pure, true⟩, ⟨.pure, true⟩, ⟨.pure, false⟩], [(1, .v 0), (2, .loc 0 0), (13, .v 1), (14, .v 2)], [some (.whole (.v 3) 1)]⟩), (2, ⟨[⟨.pure, false⟩, ⟨.pure, true⟩, ⟨.pure, true⟩], [(1, .v 0), (44, .v 1), (45, .v 2)], []⟩), (3, ⟨[⟨.pure, false⟩, ⟨.pure, true⟩, ⟨.pure, true⟩, ⟨.pure, false⟩, ⟨.pure, false⟩, ⟨.pure, false⟩, ⟨.pure, false⟩, ⟨.pure, false⟩, ⟨.pure, true⟩, ⟨.pure, true⟩], [(1, .v 0), (7, .v 1), (44, .v 2), (45, .v 1), (55, .v 3), (56, .v 3), (57, .v 4), (60, .v 5), (61, .v 6), (62, .v 7), (69, .v 8), (70, .v 9)], []⟩)], ⟨[n1, n14], [(.int .i64)], [], []⟩, [(1, ⟨[n14, (.int .i64), (.int .i64), n1], [(aA 2, aA 1, 0), (aA 1, aA 2, 0), (aA 2, .z, 299999998), (aA 3, aA 2, 0), (.z, aA 4, 0)], [sC 999, cC 4, sC 1001, sC 0, sC 0]⟩), (2, ⟨[n14, (.int .i64), (.int .i64)], [(aA 2, aA 3, 0), (aA 2, aA 1, 0), (aA 1, aA 2, 0), (aA 2, .z, 299999998), (aA 3, aA 2, 0), (.z, aA 4, 0)], [sC 998, cC 4, sC 1001, sC 0, sC 0]⟩), (3, ⟨[n14, (.int .i64), (.int .i64), .any, .any, .any, .any, .any, (.int .i64), (.int .i64)], [(aA 2, .z, 299999998), (.z, aA 3, 0), (aA 4, aA 2, 0), (aA 2, aA 4, 0), (aA 3, aA 4, -1), (aA 4, aA 1, 0), (aA 1, aA 4, 0), (.z, aA 11, 0), (aA 10, .el [2] [3] 6, 0)], [sC 998, cC 3, sC 997, cC 11, sC 1001]⟩)], [sC 1001, sC 0, sC 0, sC 0, sC 0]⟩
/- langdoc/langdocref26.Inverse -/
def e97 : En := ⟨97, [], ⟨[(.int .i64)], [(.int .i64)], [], []⟩, [], [sC 1001]⟩
/- langdoc/langdocref26.find -/
def e98 : En := ⟨98, [(1, ⟨[⟨.pure, false⟩, ⟨.pure, false⟩, ⟨.pure, true⟩], [(0, .v 0), (1, .v 1), (5, .v 2)], []⟩)], ⟨[n15, (.int .i64)], [(.int .i64)], [], [(.z, aA 2, 1), (aA 2, aA 0, -1)]⟩, [(1, ⟨[n15, (.int .i64), (.int .i64)], [(aA 2, aA 0, 0), (.z, aA 4, 0)], [sC 999, cC 4, sC 1001]⟩)], [sC 1001, sC 0, sC 0]⟩
/- langdoc/langdocref26.has -/
def e99 : En := ⟨99, [(1, ⟨[⟨.pure, true⟩, ⟨.pure, false⟩, ⟨.pure, false⟩], [(2, .loc 0 0), (3, .loc 1 0), (5, .v 0)], [some (.whole (.v 1) 8), some (.whole (.v 2) 2)]⟩)], ⟨[n9, n12], [.bool], [], []⟩, [(1, ⟨[(.int .i64), n9, n12], [(.z, aA 2, 0)], [sC 999, cC 2, sC 1001]⟩)], [sC 1001, sC 0, sC 0]⟩
/- langdoc/langdocref26.in -/
def e100 : En := ⟨100, [(1, ⟨[⟨.pure, false⟩, ⟨.pure, false⟩, ⟨.pure, true⟩], [(0, .v 0), (1, .v 1), (5, .v 2)], []⟩)], ⟨[n0, (.int .i64)], [.bool], [], []⟩, [(1, ⟨[n0, (.int .i64), (.int .i64)], [(.z, aA 4, 0)], [sC 999, cC 4, sC 1001]⟩)], [sC 1001, sC 0, sC 0]⟩
/- langdoc/langdocref26.Check -/
def e43 : En := ⟨43, [(1, ⟨[⟨.pure, false⟩, ⟨.pure, true⟩], [(0, .v 0), (3, .v 1)], []⟩), (2, ⟨[⟨.pure, false⟩, ⟨.pure, true⟩, ⟨.pure, true⟩], [(0, .v 0), (3, .v 1), (4, .v 2)], []⟩), (3, ⟨[⟨.pure, false⟩, ⟨.pure, true⟩], [(0, .v 0), (7, .v 1)], []⟩)], ⟨[n14], [(.int .i64)], [], []⟩, [(1, ⟨[n14, (.int .i64)], [(aA 1, aA 0, 0), (aA 0, aA 1, 0), (.z, aA 2, 0)], [sC 999, cC 2, sC 1001, sC 0, sC 0]⟩), (2, ⟨[n14, (.int .i64), (.int .i64)], [(aA 2, aA 1, -1), (aA 1, aA 0, 0), (aA 0, aA 1, 0), (.z, aA 2, 0), (.z, aA 3, 0)], [sC 999, cC 2, sC 998, cC 3, sC 1001]⟩), (3, ⟨[n14, (.int .i64)], [(.z, aA 2, 0)], [sC 997, cC 2, sC 1001, sC 0, sC 0]⟩)], [sC 1001, sC 0, sC 0, sC 0, sC 0]⟩
/- langdoc/langdocref27.find -/
def e102 : En := ⟨102, [(1, ⟨[⟨.pure, false⟩, ⟨.pure, false⟩, ⟨.pure, true⟩], [(0, .v 0), (1, .v 1), (5, .v 2)], []⟩)], ⟨[n14, (.int .i64)], [(.int .i64)], [], [(.z, aA 2, 1), (aA 2, aA 0, -1)]⟩, [(1, ⟨[n14, (.int .i64), (.int .i64)], [(aA 2, aA 0, 0), (.z, aA 4, 0)], [sC 999, cC 4, sC 1001]⟩)], [sC 1001, sC 0, sC 0]⟩
/- langdoc/langdocref27.way -/
def e103 : En := ⟨103, [(1, ⟨[⟨.pure, false⟩, ⟨.fresh, true⟩, ⟨.pure, true⟩], [(0, .v 0), (5, .v 1), (6, .v 2)], []⟩)], ⟨[n14, (.int .i64)], [n0], [(aA 0, .z, 299999999)], []⟩, [(1, ⟨[n14, n0, (.int .i64)], [(aA 4, aA 2, -1), (aA 2, aA 0, 0)], [sC 999, cC 3, sC 1001]⟩)], [sC 1001, sC 0, sC 0]⟩
/- langdoc/langdocref27.Check -/
def e44 : En := ⟨44, [(1, ⟨[⟨.pure, false⟩, ⟨.pure, true⟩], [(0, .v 0), (3, .v 1)], []⟩), (2, ⟨[⟨.pure, false⟩, ⟨.pure, true⟩], [(0, .v 0), (4, .v 1)], []⟩)], ⟨[n14], [(.int .i64)], [(aA 0, .z, 299999999)], []⟩, [(1, ⟨[n14, (.int .i64)], [(aA 1, aA 0, 0), (.z, aA 2, 0)], [sC 999, cC 2, sC 1001]⟩), (2, ⟨[n14, (.int .i64)], [(aA 1, aA 0, 0), (.z, aA 2, 0)], [sC 998, cC 2, sC 1001]⟩)], [sC 1001, sC 0, sC 0]⟩
/- langdoc/langdocref29.Check -/
def e21 : En := ⟨21, [], ⟨[n6], [(.int .i64)], [(.aT [0, 8], .z, 299999999)], []⟩, [], [sC 1001]⟩
/- langdoc/langdocref11.timed -/
def e172 : En := ⟨172, [], ⟨[(.int .i64)], [.bool], [], []⟩, [], [sC 1001]⟩
/- langdoc/langdocref11.kind -/
def e173 : En := ⟨173, [], ⟨[(.int .i64)], [(.int .i64)], [], []⟩, [], [sC 1001]⟩
/- langdoc/langdocref11.over -/
def e174 : En := ⟨174, [], ⟨[(.int .i64)], [(.int .i64)], [], []⟩, [], [sC 1001]⟩
/- langdoc/langdocref11.tier -/
def e104 : En := ⟨104, [(1, ⟨[⟨.pure, false⟩, ⟨.pure, false⟩, ⟨.pure, true⟩, ⟨.pure, false⟩], [(0, .v 0), (1, .v 1), (5, .loc 0 0), (6, .v 2)], [some (.whole (.v 3) 4)]⟩), (2, ⟨[⟨.pure, false⟩, ⟨.pure, false⟩, ⟨.pure, true⟩, ⟨.pure, false⟩], [(0, .v 0), (1, .v 1), (5, .loc 0 0), (7, .v 2)], [some (.whole (.v 3) 4)]⟩)], ⟨[n16, (.int .i64)], [(.int .i64)], [(.z, aA 1, 0), (aA 1, aA 0, -1)], []⟩, [(1, ⟨[n16, (.int .i64), (.int .i64), n17], [(aA 3, aA 2, -1), (aA 3, aA 1, 0), (.z, aA 4, 0)], [sC 999, cC 4, sC 1001]⟩), (2, ⟨[n16, (.int .i64), (.int .i64), n17], [(aA 3, aA 2, -1), (aA 3, aA 1, 0), (.z, aA 4, 0)], [sC 998, cC 4, sC 1001]⟩)], [sC 1001, sC 0, sC 0]⟩
/- langdoc/langdocref11.Check -/
def e45 : En := ⟨45, [(1, ⟨[⟨.pure, false⟩, ⟨.pure, true⟩], [(0, .v 0), (3, .v 1)], []⟩)], ⟨[n16], [(.int .i64)], [], []⟩, [(1, ⟨[n16, (.int .i64)], [(aA 1, aA 0, 0), (.z, aA 2, 0)], [sC 999, cC 2, sC 1001]⟩)], [sC 1001, sC 0, sC 0]⟩
/- langdoc/langdocref12.Get -/
def e110 : En := ⟨110, [(1, ⟨[⟨.pure, false⟩, ⟨.pure, true⟩, ⟨.pure, false⟩], [(1, .v 0), (2, .loc 0 0), (4, .loc 1 0), (6, .v 1)], [some (.whole (.v 2) 7), some (.cells [.c (.int .i64 0), .c (.int .i64 0), .c (.int .i64 0), .c (.int .i64 0), .c (.int .i64 0), .c (.int .i64 0), .c (.string ⟨#[]⟩)])]⟩)], ⟨[n18, (.int .i64)], [n19, .bool], [], []⟩, [(1, ⟨[(.int .i64), (.int .i64), n18], [(.z, aA 3, 0)], [sC 999, cC 3, sC 1001]⟩)], [sC 1001, sC 0, sC 0]⟩
/- langdoc/langdocref12.aligned -/
def e108 : En := ⟨108, [], ⟨[(.int .i64)], [.bool], [], []⟩, [], [sC 1001]⟩
/- langdoc/langdocref09.Right -/
def e124 : En := ⟨124, [], ⟨[n12], [.bool], [], []⟩, [], [sC 1001]⟩
/- langdoc/langdocref12.placed -/
def e106 : En := ⟨106, [], ⟨[n18, n19], [(.int .i64)], [(.z, .aT [1, 1], 0), (.aT [1, 1], .aT [0, 5], -1)], []⟩, [], [sC 1001]⟩
/- langdoc/langdocref12.noteError -/
def e46 : En := ⟨46, [], ⟨[n18, (.int .i64)], [(.int .i64)], [(.z, aA 1, 0), (aA 1, .aT [0, 6], -1)], []⟩, [], [sC 1001]⟩
/- langdoc/langdocref12.siblings -/
def e107 : En := ⟨107, [(1, ⟨[⟨.pure, false⟩, ⟨.pure, false⟩, ⟨.fresh, true⟩, ⟨.pure, true⟩, ⟨.pure, false⟩], [(1, .v 0), (2, .v 1), (3, .loc 0 0), (7, .v 2), (8, .v 3)], [some (.whole (.v 4) 7)]⟩)], ⟨[n18, (.int .i64), (.int .i64)], [n20], [], []⟩, [(1, ⟨[(.int .i64), (.int .i64), n20, (.int .i64), n18], [(aA 5, aA 6, 0)], [sC 999, cC 6, sC 1001]⟩)], [sC 1001, sC 0, sC 0]⟩
/- langdoc/langdocref12.overlap -/
def e109 : En := ⟨109, [(1, ⟨[⟨.pure, false⟩, ⟨.pure, true⟩], [(0, .v 0), (3, .v 1)], []⟩), (2, ⟨[⟨.pure, false⟩, ⟨.pure, true⟩, ⟨.pure, true⟩], [(0, .v 0), (3, .v 1), (4, .v 2)], []⟩)], ⟨[n20], [.bool], [], []⟩, [(1, ⟨[n20, (.int .i64)], [(aA 1, aA 0, 0), (aA 0, aA 1, 0), (.z, aA 2, 0)], [sC 999, cC 2, sC 1001, sC 0, sC 0]⟩), (2, ⟨[n20, (.int .i64), (.int .i64)], [(aA 1, aA 0, 0), (aA 0, aA 1, 0), (aA 3, aA 2, 0), (aA 2, aA 0, -1), (.z, aA 3, 0)], [sC 999, cC 2, sC 998, cC 3, sC 1001]⟩)], [sC 1001, sC 0, sC 0, sC 0, sC 0]⟩
/- langdoc/langdocref12.spans -/
def e112 : En := ⟨112, [(1, ⟨[⟨.pure, false⟩, ⟨.fresh, true⟩, ⟨.pure, true⟩], [(0, .v 0), (3, .v 1), (4, .v 2)], []⟩)], ⟨[n20], [n21], [], []⟩, [(1, ⟨[n20, n21, (.int .i64)], [(aA 2, aA 3, 0)], [sC 999, cC 3, sC 1001]⟩)], [sC 1001, sC 0, sC 0]⟩
/- langdoc/langdocref12.ranked -/
def e113 : En := ⟨113, [(1, ⟨[⟨.pure, false⟩, ⟨.pure, true⟩], [(0, .v 0), (3, .v 1)], []⟩), (2, ⟨[⟨.pure, false⟩, ⟨.pure, true⟩, ⟨.pure, true⟩, ⟨.pure, true⟩], [(0, .v 0), (3, .v 1), (4, .v 2), (5, .v 3)], []⟩)], ⟨[n20], [.bool], [], []⟩, [(1, ⟨[n20, (.int .i64)], [(aA 1, aA 0, 0), (aA 0, aA 1, 0), (.z, aA 2, 0)], [sC 999, cC 2, sC 1001, sC 0, sC 0]⟩), (2, ⟨[n20, (.int .i64), .bool, (.int .i64)], [(aA 1, aA 0, 0), (aA 0, aA 1, 0), (aA 2, aA 0, -1), (.z, aA 2, 0), (.z, aA 4, 0)], [sC 999, cC 2, sC 998, cC 4, sC 1001]⟩)], [sC 1001, sC 0, sC 0, sC 0, sC 0]⟩
/- langdoc/langdocref12.tierError -/
def e47 : En := ⟨47, [(1, ⟨[⟨.pure, false⟩, ⟨.pure, true⟩, ⟨.pure, true⟩, ⟨.pure, true⟩, ⟨.pure, false⟩], [(1, .v 0), (2, .loc 0 0), (5, .v 1), (6, .v 2), (7, .v 3)], [some (.whole (.v 4) 7)]⟩)], ⟨[n18, (.int .i64)], [(.int .i64)], [(.z, aA 1, 0), (aA 1, .aT [0, 5], -1)], []⟩, [(1, ⟨[(.int .i64), (.int .i64), (.int .i64), (.int .i64), n18], [(.z, aA 5, 0)], [sC 999, cC 5, sC 1001]⟩)], [sC 1001, sC 0, sC 0]⟩
/- langdoc/langdocref12.Check -/
def e22 : En := ⟨22, [(1, ⟨[⟨.pure, true⟩, ⟨.pure, false⟩], [(1, .loc 0 0), (4, .v 0)], [some (.whole (.v 1) 7)]⟩), (2, ⟨[⟨.pure, true⟩, ⟨.pure, false⟩], [(1, .loc 0 0), (6, .v 0)], [some (.whole (.v 1) 7)]⟩)], ⟨[n18], [(.int .i64)], [], []⟩, [(1, ⟨[(.int .i64), n18], [(.z, aA 1, 0)], [sC 999, cC 1, sC 1001]⟩), (2, ⟨[(.int .i64), n18], [(.z, aA 1, 0)], [sC 998, cC 1, sC 1001]⟩)], [sC 1001, sC 0, sC 0]⟩
/- langdoc/langdocref29.before -/
def e176 : En := ⟨176, [], ⟨[n8, n8], [.bool], [], []⟩, [], [sC 1001]⟩
/- langdoc/langdocref29.Less -/
def e114 : En := ⟨114, [(1, ⟨[⟨.pure, true⟩, ⟨.pure, false⟩, ⟨.pure, false⟩], [(2, .loc 0 0), (3, .loc 1 0), (5, .v 0)], [some (.whole (.v 1) 1), some (.whole (.v 2) 1)]⟩)], ⟨[n22, n22], [.bool], [], []⟩, [(1, ⟨[(.int .i64), n22, n22], [(.z, aA 2, 0)], [sC 999, cC 2, sC 1001]⟩)], [sC 1001, sC 0, sC 0]⟩
/- langdoc/langdocref31.less -/
def e49 : En := ⟨49, [], ⟨[n23, n23], [.bool], [], []⟩, [], [sC 1001]⟩
/- langdoc/langdocref31.Check -/
def e23 : En := ⟨23, [(1, ⟨[⟨.pure, false⟩, ⟨.pure, true⟩, ⟨.pure, true⟩], [(0, .v 0), (7, .v 1), (8, .v 2)], []⟩), (2, ⟨[⟨.pure, false⟩, ⟨.pure, true⟩, ⟨.pure, true⟩, ⟨.pure, true⟩, ⟨.pure, true⟩, ⟨.pure, true⟩, ⟨.pure, false⟩, ⟨.pure, false⟩, ⟨.pure, false⟩, ⟨.pure, false⟩, ⟨.pure, false⟩, ⟨.pure, false⟩, ⟨.pure, false⟩, ⟨.pure, false⟩], [(0, .v 0), (3, .v 1), (4, .loc 0 0), (5, .v 2), (7, .v 3), (8, .v 1), (21, .loc 0 0), (22, .loc 0 1), (23, .v 4), (24, .v 5), (25, .c (.bool false)), (40, .v 6), (41, .v 7), (42, .v 8), (44, .v 9), (45, .v 10), (46, .v 11), (47, .v 12)], [some (.whole (.v 13) 4)]⟩)], ⟨[n24], [(.int .i64)], [], []⟩, [(1, ⟨[n24, (.int .i64), (.int .i64)], [(aA 1, aA 0, 0), (aA 0, aA 1, 0), (aA 2, aA 1, 0), (aA 1, aA 2, 0), (.z, aA 3, 0)], [sC 999, cC 3, sC 1001, sC 0, sC 0]⟩), (2, ⟨[n24, (.int .i64), (.int .i64), (.int .i64), (.int .i64), .bool, .any, .any, .any, .any, .any, .any, .any, n23], [(aA 3, aA 2, 0), (.z, aA 3, 0), (aA 4, aA 1, 0), (aA 1, aA 4, 0), (aA 2, aA 4, -1), (aA 4, aA 0, 0), (aA 0, aA 4, 0)], [sC 999, cC 2, sC 998, cC 3, sC 1001]⟩)], [sC 1001, sC 0, sC 0, sC 0, sC 0]⟩
/- langdoc/langdocref01.Up -/
def e115 : En := ⟨115, [(1, ⟨[⟨.pure, false⟩, ⟨.pure, true⟩], [(0, .v 0), (3, .v 1)], []⟩)], ⟨[n0], [.bool], [], []⟩, [(1, ⟨[n0, (.int .i64)], [(.z, aA 2, -1)], [sC 999, cC 2, sC 1001]⟩)], [sC 1001, sC 0, sC 0]⟩
/- langdoc/langdocref47.point -/
def e50 : En := ⟨50, [(1, ⟨[⟨.pure, false⟩, ⟨.pure, true⟩, ⟨.pure, false⟩], [(0, .v 0), (3, .loc 0 0), (6, .v 1)], [some (.whole (.v 2) 5)]⟩)], ⟨[n14, n25], [(.int .i64)], [], []⟩, [(1, ⟨[n14, (.int .i64), n25], [(.z, aA 3, 0)], [sC 999, cC 3, sC 1001]⟩)], [sC 1001, sC 0, sC 0]⟩
/- langdoc/langdocref47.Points -/
def e24 : En := ⟨24, [(1, ⟨[⟨.pure, false⟩, ⟨.pure, false⟩, ⟨.pure, true⟩], [(0, .v 0), (1, .v 1), (5, .v 2)], []⟩)], ⟨[n14, n26], [(.int .i64)], [], []⟩, [(1, ⟨[n14, n26, (.int .i64)], [(.z, aA 4, 0)], [sC 999, cC 4, sC 1001]⟩)], [sC 1001, sC 0, sC 0]⟩
/- langdoc/langdocref48.recs -/
def e11 : En := ⟨11, [(1, ⟨[⟨.pure, false⟩, ⟨.fresh, true⟩, ⟨.pure, true⟩], [(0, .v 0), (3, .v 1), (4, .v 2)], []⟩)], ⟨[n27], [n28], [], []⟩, [(1, ⟨[n27, n28, (.int .i64)], [(aA 2, aA 3, 0)], [sC 999, cC 3, sC 1001]⟩)], [sC 1001, sC 0, sC 0]⟩
/- langdoc/langdocref10.People -/
def e51 : En := ⟨51, [(1, ⟨[⟨.pure, false⟩, ⟨.pure, true⟩, ⟨.pure, true⟩], [(0, .v 0), (8, .v 1), (9, .v 2)], []⟩)], ⟨[n29], [(.int .i64)], [], []⟩, [(1, ⟨[n29, (.int .i64), (.int .i64)], [(aA 2, aA 1, 0), (aA 2, aA 0, 0), (.z, aA 3, 0)], [sC 999, cC 3, sC 1001]⟩)], [sC 1001, sC 0, sC 0]⟩
/- langdoc/langdocref10.Person -/
def e179 : En := ⟨179, [(1, ⟨[⟨.pure, false⟩, ⟨.pure, false⟩, ⟨.pure, true⟩, ⟨.pure, true⟩], [(0, .v 0), (1, .v 1), (4, .loc 0 0), (8, .v 2), (9, .v 3)], [some (.cells [.c (.int .i64 0), .c (.string ⟨#[]⟩), .c (.bool false)])]⟩)], ⟨[n29, (.int .i64)], [n30, .bool], [], []⟩, [(1, ⟨[n29, (.int .i64), (.int .i64), (.int .i64)], [(aA 4, aA 2, 0), (.z, aA 5, 0)], [sC 999, cC 5, sC 1001]⟩)], [sC 1001, sC 0, sC 0]⟩
/- langdoc/langdocref10.Check -/
def e118 : En := ⟨118, [(1, ⟨[⟨.pure, false⟩, ⟨.pure, true⟩, ⟨.pure, true⟩, ⟨.pure, false⟩], [(0, .v 0), (3, .loc 0 0), (38, .v 1), (39, .v 2)], [some (.whole (.v 3) 5)]⟩)], ⟨[n29, n31], [(.int .i64)], [], []⟩, [(1, ⟨[n29, (.int .i64), (.int .i64), n31], [(aA 3, .aT [5, 4], 0), (aA 3, .aT [1, 4], 0), (.z, aA 4, 0)], [sC 999, cC 4, sC 1001]⟩)], [sC 1001, sC 0, sC 0]⟩
/- langdoc/langdocref10.Recs -/
def e52 : En := ⟨52, [(1, ⟨[⟨.pure, false⟩, ⟨.pure, false⟩, ⟨.pure, true⟩, ⟨.pure, true⟩], [(0, .v 0), (1, .v 1), (12, .v 2), (13, .v 3)], []⟩), (2, ⟨[⟨.pure, false⟩, ⟨.pure, false⟩, ⟨.pure, true⟩, ⟨.pure, true⟩, ⟨.pure, true⟩, ⟨.pure, false⟩, ⟨.pure, false⟩, ⟨.pure, false⟩, ⟨.pure, false⟩, ⟨.pure, false⟩, ⟨.pure, false⟩], [(0, .v 0), (1, .v 1), (5, .v 2), (7, .v 3), (12, .v 4), (13, .v 2), (28, .v 5), (29, .v 6), (32, .v 7), (33, .v 5), (34, .v 6), (35, .v 8), (38, .v 9), (39, .v 10)], []⟩)], ⟨[n29, n28], [(.int .i64)], [], []⟩, [(1, ⟨[n29, n28, (.int .i64), (.int .i64)], [(aA 2, aA 0, 0), (aA 0, aA 2, 0), (aA 3, aA 4, 0), (aA 4, aA 3, 0), (aA 3, aA 1, 0), (aA 1, aA 3, 0), (aA 4, .z, 16), (.z, aA 5, 0)], [sC 999, cC 5, sC 1001, sC 0, sC 0]⟩), (2, ⟨[n29, n28, (.int .i64), (.int .i64), (.int .i64), .any, .any, .any, .any, .any, .any], [(aA 2, aA 0, 0), (aA 0, aA 2, 0), (aA 5, aA 4, 0), (.z, aA 5, 0), (aA 6, aA 3, 0), (aA 3, aA 6, 0), (aA 4, aA 6, -1), (aA 6, aA 1, 0), (aA 1, aA 6, 0), (aA 6, .z, 16)], [sC 999, cC 4, sC 998, cC 5, sC 1001]⟩)], [sC 1001, sC 0, sC 0, sC 0, sC 0]⟩
/- langdoc/langdocref42.one -/
def e119 : En := ⟨119, [(1, ⟨[⟨.pure, false⟩, ⟨.pure, true⟩, ⟨.pure, true⟩, ⟨.pure, false⟩], [(0, .v 0), (7, .loc 0 0), (42, .v 1), (43, .v 2)], [some (.whole (.v 3) 4)]⟩)], ⟨[n29, n32, (.int .i64)], [(.int .i64)], [(.z, aA 2, 0), (aA 2, aA 1, -1)], []⟩, [(1, ⟨[n29, (.int .i64), (.int .i64), n33], [(aA 4, .aT [6, 2], 0), (.z, aA 5, 0)], [sC 999, cC 5, sC 1001]⟩)], [sC 1001, sC 0, sC 0]⟩
/- langdoc/langdocref42.Find -/
def e120 : En := ⟨120, [(1, ⟨[⟨.pure, false⟩, ⟨.pure, false⟩, ⟨.pure, true⟩, ⟨.pure, true⟩], [(0, .v 0), (1, .v 1), (7, .v 2), (8, .v 3)], []⟩)], ⟨[n32, (.int .i64)], [(.int .i64)], [], [(.z, aA 2, 1), (aA 2, aA 0, -1)]⟩, [(1, ⟨[n32, (.int .i64), (.int .i64), (.int .i64)], [(aA 4, aA 2, 0), (aA 4, aA 0, 0), (.z, aA 5, 0)], [sC 999, cC 5, sC 1001]⟩)], [sC 1001, sC 0, sC 0]⟩
/- langdoc/langdocref01.Has -/
def e121 : En := ⟨121, [(1, ⟨[⟨.pure, false⟩, ⟨.pure, false⟩, ⟨.pure, true⟩, ⟨.pure, true⟩], [(0, .v 0), (1, .v 1), (7, .v 2), (8, .v 3)], []⟩)], ⟨[n0, (.int .i64)], [.bool], [], []⟩, [(1, ⟨[n0, (.int .i64), (.int .i64), (.int .i64)], [(aA 4, aA 2, 0), (.z, aA 5, 0)], [sC 999, cC 5, sC 1001]⟩)], [sC 1001, sC 0, sC 0]⟩
/- langdoc/langdocref42.Check -/
def e53 : En := ⟨53, [(1, ⟨[⟨.pure, false⟩, ⟨.pure, false⟩, ⟨.pure, true⟩, ⟨.pure, true⟩], [(0, .v 0), (1, .v 1), (14, .v 2), (15, .v 3)], []⟩), (2, ⟨[⟨.pure, false⟩, ⟨.pure, true⟩, ⟨.pure, true⟩], [(1, .v 0), (27, .v 1), (28, .v 2)], []⟩), (3, ⟨[⟨.pure, false⟩, ⟨.pure, true⟩, ⟨.pure, true⟩, ⟨.pure, true⟩, ⟨.pure, true⟩], [(1, .v 0), (7, .v 1), (27, .v 2), (28, .v 1), (36, .v 3), (37, .v 4)], []⟩), (4, ⟨[⟨.pure, false⟩, ⟨.pure, true⟩, ⟨.pure, true⟩], [(1, .v 0), (54, .v 1), (55, .v 2)], []⟩)], ⟨[n29, n32], [(.int .i64)], [], []⟩, [(1, ⟨[n29, n32, (.int .i64), (.int .i64)], [(aA 4, aA 3, 0), (aA 3, aA 4, 0), (aA 4, aA 1, 0), (aA 1, aA 4, 0), (aA 4, .z, 64), (.z, aA 5, 0)], [sC 999, cC 5, sC 1001, sC 0, sC 0]⟩), (2, ⟨[n32, (.int .i64), (.int .i64)], [(aA 3, aA 2, 0), (aA 2, aA 3, 0), (aA 3, aA 1, 0), (aA 1, aA 3, 0), (aA 3, .z, 64), (.z, aA 4, 0)], [sC 998, cC 4, sC 1001, sC 0, sC 0]⟩), (4, ⟨[n32, (.int .i64), (.int .i64)], [(aA 3, aA 2, 0), (aA 2, aA 3, 0), (aA 3, aA 1, 0), (aA 3, .z, 64), (.z, aA 4, 0)], [sC 996, cC 4, sC 1001, sC 0, sC 0]⟩), (3, ⟨[n32, (.int .i64), (.int .i64), (.int .i64), (.int .i64)], [(.z, aA 3, 0), (aA 4, aA 2, 0), (aA 2, aA 4, 0), (aA 3, aA 4, -1), (aA 4, aA 1, 0), (aA 1, aA 4, 0), (aA 4, .z, 64), (.z, aA 6, 0), (aA 5, .el [2] [3] 3, 0)], [sC 998, cC 3, sC 997, cC 6, sC 1001]⟩)], [sC 1001, sC 0, sC 0, sC 0, sC 0]⟩
/- langdoc/langdocref43.one -/
def e123 : En := ⟨123, [], ⟨[n29, n34, (.int .i64)], [(.int .i64)], [(.z, aA 2, 0), (aA 2, aA 1, -1)], []⟩, [], [sC 1001]⟩
/- langdoc/langdocref43.Check -/
def e54 : En := ⟨54, [(1, ⟨[⟨.pure, false⟩, ⟨.pure, false⟩, ⟨.pure, true⟩], [(0, .v 0), (1, .v 1), (5, .v 2)], []⟩)], ⟨[n29, n34], [(.int .i64)], [], []⟩, [(1, ⟨[n29, n34, (.int .i64)], [(.z, aA 4, 0)], [sC 999, cC 4, sC 1001]⟩)], [sC 1001, sC 0, sC 0]⟩
/- langdoc/langdocref44.exists -/
def e181 : En := ⟨181, [(1, ⟨[⟨.pure, false⟩, ⟨.pure, false⟩, ⟨.pure, true⟩], [(0, .v 0), (1, .v 1), (5, .v 2)], []⟩)], ⟨[n32, (.int .i64)], [.bool], [], []⟩, [(1, ⟨[n32, (.int .i64), (.int .i64)], [(.z, aA 4, 0)], [sC 999, cC 4, sC 1001]⟩)], [sC 1001, sC 0, sC 0]⟩
/- langdoc/langdocref44.Check -/
def e125 : En := ⟨125, [(1, ⟨[⟨.pure, false⟩, ⟨.pure, true⟩, ⟨.pure, false⟩], [(0, .v 0), (3, .loc 0 0), (5, .v 1)], [some (.whole (.v 2) 3)]⟩)], ⟨[n32, n35], [(.int .i64)], [], []⟩, [(1, ⟨[n32, (.int .i64), n35], [(.z, aA 3, 0)], [sC 999, cC 3, sC 1001]⟩)], [sC 1001, sC 0, sC 0]⟩
/- langdoc/langdocref45.Rule -/
def e55 : En := ⟨55, [(1, ⟨[⟨.pure, false⟩, ⟨.pure, true⟩, ⟨.pure, true⟩, ⟨.pure, false⟩, ⟨.pure, false⟩], [(0, .v 0), (4, .loc 0 0), (5, .loc 1 0), (23, .v 1), (24, .v 2)], [some (.whole (.v 3) 4), some (.whole (.v 4) 6)]⟩)], ⟨[n28, n36, n37], [(.int .i64)], [], []⟩, [(1, ⟨[n28, (.int .i64), (.int .i64), n36, n37], [(aA 4, aA 3, 0), (.z, aA 5, 0)], [sC 999, cC 5, sC 1001]⟩)], [sC 1001, sC 0, sC 0]⟩
/- langdoc/langdocref45.Check -/
def e25 : En := ⟨25, [(1, ⟨[⟨.pure, false⟩, ⟨.pure, true⟩, ⟨.pure, true⟩, ⟨.pure, false⟩], [(0, .v 0), (3, .loc 0 0), (42, .v 1), (43, .v 2)], [some (.whole (.v 3) 4)]⟩)], ⟨[n28, n36], [(.int .i64)], [], []⟩, [(1, ⟨[n28, (.int .i64), (.int .i64), n36], [(aA 3, .aT [5, 3], 0), (aA 3, .aT [1, 3], 0), (.z, aA 4, 0)], [sC 999, cC 4, sC 1001]⟩)], [sC 1001, sC 0, sC 0]⟩
/- langdoc/langdocref48.Check -/
def e8 : En := ⟨8, [(1, ⟨[⟨.pure, true⟩, ⟨.pure, false⟩], [(1, .loc 0 0), (4, .v 0)], [some (.whole (.v 1) 16)]⟩)], ⟨[n38], [(.int .i64)], [(.aT [0, 8], .z, 299999999)], []⟩, [(1, ⟨[(.int .i64), n38], [(.z, aA 1, 0)], [sC 999, cC 1, sC 1001]⟩)], [sC 1001, sC 0, sC 0]⟩
/- langdoc/langdocref29.small -/
def e26 : En := ⟨26, [(1, ⟨[⟨.pure, false⟩, ⟨.pure, true⟩], [(0, .v 0), (3, .v 1)], []⟩), (2, ⟨[⟨.pure, false⟩, ⟨.pure, true⟩, ⟨.pure, true⟩, ⟨.pure, true⟩, ⟨.pure, true⟩], [(0, .v 0), (3, .v 1), (4, .v 2), (22, .v 0), (23, .v 1), (26, .v 3), (27, .v 4), (28, .c (.bool false))], []⟩)], ⟨[n14], [.bool], [], []⟩, [(1, ⟨[n14, (.int .i64)], [(aA 1, aA 0, 0), (aA 0, aA 1, 0), (aA 1, .z, 299999998), (.z, aA 2, 0)], [sC 999, cC 2, sC 1001, sC 0, sC 0]⟩), (2, ⟨[n14, (.int .i64), (.int .i64), n39, (.int .i64)], [(aA 1, aA 0, 0), (aA 0, aA 1, 0), (aA 1, .z, 299999998), (aA 2, aA 0, -1), (.z, aA 2, 0), (.z, aA 3, 0)], [sC 999, cC 2, sC 998, cC 3, sC 1001]⟩)], [sC 1001, sC 0, sC 0, sC 0, sC 0]⟩
/- langdoc/langdocref29.Light -/
def e9 : En := ⟨9, [(1, ⟨[⟨.pure, true⟩, ⟨.pure, false⟩], [(1, .loc 0 0), (3, .v 0)], [some (.whole (.v 1) 9)]⟩)], ⟨[n6], [.bool], [(.aT [0, 8], .z, 299999999)], []⟩, [(1, ⟨[(.int .i64), n6], [(.z, aA 1, 0), (.aT [2, 8], .aT [0, 8], 0)], [sC 999, cC 1, sC 1001]⟩)], [sC 1001, sC 0, sC 0]⟩
/- langdoc/langdocref45.Light -/
def e10 : En := ⟨10, [], ⟨[n36, n28], [.bool], [], []⟩, [], [sC 1001]⟩
/- langdoc/langdocref12.Light -/
def e12 : En := ⟨12, [], ⟨[n18], [.bool], [], []⟩, [], [sC 1001]⟩
/- langdoc/langdocref48.Light -/
def e4 : En := ⟨4, [(1, ⟨[⟨.pure, true⟩, ⟨.pure, false⟩], [(1, .loc 0 0), (3, .v 0)], [some (.whole (.v 1) 16)]⟩)], ⟨[n38], [.bool], [(.aT [0, 8], .z, 299999999)], []⟩, [(1, ⟨[(.int .i64), n38], [(.z, aA 1, 0)], [sC 999, cC 1, sC 1001]⟩)], [sC 1001, sC 0, sC 0]⟩
def ensA : List En := [e277, e278, e89, e92, e167, e94, e41, e48, e234, e235, e169, e280, e171, e177, e178, e117, e116, e96, e97, e98, e99, e100, e102, e103, e44, e172, e173, e174, e104, e45, e110, e108, e124, e106, e107, e109, e112, e113, e176, e114, e49, e23, e115, e11, e179, e118, e52, e119, e120, e121, e123, e54, e181, e125, e55, e26]
def ensB : List En := [e166, e88, e38, e91, e90, e168, e93, e40, e279, e105, e236, e170, e95, e42, e43, e46, e47, e22, e50, e24, e51, e53, e25, e10, e12]
def ensC : List En := [e21, e8, e9, e4]
end Go.Proofs.YtbkinfgpcjjaaaaGreatDoor
