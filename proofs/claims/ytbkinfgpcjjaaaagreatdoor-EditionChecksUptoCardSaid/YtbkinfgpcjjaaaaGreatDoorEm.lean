/- What is kept between the parts of the example. Conditions: none. -/
import Derived.Test.YtbkinfgpcjjaaaaGreatDoorEa
import Derived.Test.YtbkinfgpcjjaaaaGreatDoorAm9
set_option linter.all false
namespace Go.Proofs.YtbkinfgpcjjaaaaGreatDoor
open Go Go.Am Go.Proofs
def pieces : Nat → Code → List Code
  | k + 1, .seq a b => a :: pieces k b
  | _, _ => []
def after : Nat → Code → Code
  | k + 1, .seq _ b => after k b
  | _, c => c
def ats1 : List Nat := [0, 1, 2, 3, 4]
def abs1 : List Nat := [1002, 1003, 1004, 1005, 1006, 1007, 1008, 1009, 1010, 1011, 1012, 1013, 1014, 1015, 1016, 1017, 1019, 1020, 1021, 1022, 1023, 1024, 1529, 1540, 2270, 2271]
def afs1 : List (Nat × Option Value) := [(0, some (.bool false)), (1, some (.pointer (some ⟨1022, 0, none⟩))), (2, some (.pointer (some ⟨1024, 0, none⟩))), (3, some (.pointer (some ⟨2271, 0, none⟩))), (4, some (.int .i64 0))]
def ahs1 : List (Nat × Option ABlk) := [
  (1002, (some ⟨.cells [(.string ⟨#[98]⟩), (.int .i64 0), (.string ⟨#[97]⟩), (.int .i64 1)] 92, 1002, true⟩)),
  (1003, (some ⟨.cells [(.int .i64 1)] 3, 1003, true⟩)),
  (1004, (some ⟨.cells [(.int .i64 2)] 3, 1004, true⟩)),
  (1005, (some ⟨.cells [(.string ⟨#[98]⟩), (.slice (some ⟨1003, 0, none⟩) 1 capX), (.string ⟨#[97]⟩), (.slice (some ⟨1004, 0, none⟩) 1 capX)] 94, 1005, true⟩)),
  (1006, (some ⟨.cells [(.string ⟨#[97]⟩)] 9, 1006, true⟩)),
  (1007, (some ⟨.cells [(.string ⟨#[98]⟩)] 9, 1007, true⟩)),
  (1008, (some ⟨.cells [(.slice (some ⟨1006, 0, none⟩) 1 capX), (.slice (some ⟨1007, 0, none⟩) 1 capX)] 71, 1008, true⟩)),
  (1009, (some ⟨.cells [(.int .i64 0), (.int .i64 1), (.int .i64 1)] 96, 1009, true⟩)),
  (1010, (some ⟨.cells [(.int .i64 1)] 3, 1010, true⟩)),
  (1011, (some ⟨.cells [(.int .i64 1), (.int .i64 2)] 3, 1011, true⟩)),
  (1012, (some ⟨.cells [(.string ⟨#[100, 111, 103]⟩), (.string ⟨#[]⟩)] 98, 1012, true⟩)),
  (1013, (some ⟨.cells [(.int .i64 5), (.int .i64 2)] 101, 1013, true⟩)),
  (1014, (some ⟨.cells [(.int .i64 1), (.slice (some ⟨1011, 0, none⟩) 2 capX), (.int .i64 1), (.slice none 0 0), (.int .i64 0), (.slice (some ⟨1012, 0, none⟩) 1 capX), (.slice none 0 0), (.slice (some ⟨1013, 0, none⟩) 1 capX)] 106, 1014, true⟩)),
  (1015, (some ⟨.cells [(.int .i64 1), (.string ⟨#[65, 110, 97]⟩), (.bool true)] 108, 1015, true⟩)),
  (1016, (some ⟨.cells [(.int .i64 1), (.int .i64 0), (.int .i64 10), (.int .i64 2)] 110, 1016, true⟩)),
  (1017, (some ⟨.cells [(.int .i64 1)] 3, 1017, true⟩)),
  (1019, (some ⟨.cells [(.string ⟨#[116, 101, 120, 116]⟩), (.int .i64 0), (.int .i64 1), (.int .i64 (-1)), (.string ⟨#[119, 111, 114, 100]⟩), (.int .i64 2), (.int .i64 2), (.int .i64 0)] 112, 1019, true⟩)),
  (1020, (some ⟨.cells [(.int .i64 1), (.int .i64 0), (.int .i64 0), (.int .i64 0), (.int .i64 900), (.int .i64 0), (.string ⟨#[98, 97]⟩), (.int .i64 2), (.int .i64 1), (.int .i64 1), (.int .i64 0), (.int .i64 400), (.int .i64 0), (.string ⟨#[98, 97]⟩)] 116, 1020, true⟩)),
  (1021, (some ⟨.cells [(.int .i64 5), (.string ⟨#[111, 110, 101]⟩), (.int .i64 1000), (.int .i64 1), (.slice (some ⟨1017, 0, none⟩) 1 capX), (.slice (some ⟨1019, 0, none⟩) 2 capX), (.slice (some ⟨1020, 0, none⟩) 2 capX)] 68, 1021, true⟩)),
  (1022, (some ⟨.cells [(.slice (some ⟨1002, 0, none⟩) 2 capX), (.string ⟨#[109, 97, 105, 110]⟩), (.slice (some ⟨1005, 0, none⟩) 2 capX), (.slice (some ⟨1008, 0, none⟩) 2 capX), (.slice none 0 0), (.int .i64 2), (.slice (some ⟨1009, 0, none⟩) 1 capX), (.slice (some ⟨1010, 0, none⟩) 1 capX), (.slice (some ⟨1014, 0, none⟩) 1 capX), (.slice (some ⟨1021, 0, none⟩) 1 capX), (.slice none 0 0), (.slice none 0 0), (.slice (some ⟨1015, 0, none⟩) 1 capX), (.slice none 0 0), (.slice (some ⟨1016, 0, none⟩) 1 capX), (.slice none 0 0)] 47, 1022, true⟩)),
  (1023, (some ⟨.cells [(.int .i64 5)] 3, 1023, true⟩)),
  (1024, (some ⟨.cells [(.int .i64 1), (.int .i64 0), (.int .i64 10), (.slice (some ⟨1023, 0, none⟩) 1 capX), (.int .i64 40)] 51, 1024, true⟩)),
  (1529, (some ⟨.cells [(.string ⟨#[61, 32, 98, 32, 61]⟩), (.string ⟨#[98, 97]⟩), (.string ⟨#[32, 32, 49, 46, 32, 100, 111, 103]⟩)] 9, 1484, true⟩)),
  (1540, (some ⟨.cells [(.int .i64 5)] 3, 1540, true⟩)),
  (2270, (some ⟨.cells [(.int .i64 1), (.int .i64 0), (.int .i64 4066205352574375697), (.int .i64 2), (.int .i64 5), (.int .i64 4102702907520804274)] 157, 2127, true⟩)),
  (2271, (some ⟨.cells [(.int .i64 3), (.int .i64 1), (.int .i64 0), (.int .i64 10), (.slice (some ⟨1540, 0, none⟩) 1 capX), (.int .i64 40), (.slice (some ⟨2270, 0, none⟩) 2 capX), (.slice (some ⟨1529, 0, none⟩) 3 capX), (.int .i64 2257348304172088655)] 73, 2271, true⟩))]
def anx1 : Nat := 2272
def asz1 : Nat := 97
def ats2 : List Nat := [0, 1, 2, 3, 4, 5, 6]
def abs2 : List Nat := [1002, 1003, 1004, 1005, 1006, 1007, 1008, 1009, 1010, 1011, 1012, 1013, 1014, 1015, 1016, 1017, 1019, 1020, 1021, 1022, 1023, 1024, 1529, 1540, 2270, 2271, 2870]
def afs2 : List (Nat × Option Value) := [(0, some (.bool false)), (1, some (.pointer (some ⟨1022, 0, none⟩))), (2, some (.pointer (some ⟨1024, 0, none⟩))), (3, some (.pointer (some ⟨2271, 0, none⟩))), (4, some (.int .i64 0)), (5, some (.slice (some ⟨2870, 0, none⟩) 3 capX)), (6, some (.int .i64 0))]
def ahs2 : List (Nat × Option ABlk) := [
  (1002, (some ⟨.cells [(.string ⟨#[98]⟩), (.int .i64 0), (.string ⟨#[97]⟩), (.int .i64 1)] 92, 1002, true⟩)),
  (1003, (some ⟨.cells [(.int .i64 1)] 3, 1003, true⟩)),
  (1004, (some ⟨.cells [(.int .i64 2)] 3, 1004, true⟩)),
  (1005, (some ⟨.cells [(.string ⟨#[98]⟩), (.slice (some ⟨1003, 0, none⟩) 1 capX), (.string ⟨#[97]⟩), (.slice (some ⟨1004, 0, none⟩) 1 capX)] 94, 1005, true⟩)),
  (1006, (some ⟨.cells [(.string ⟨#[97]⟩)] 9, 1006, true⟩)),
  (1007, (some ⟨.cells [(.string ⟨#[98]⟩)] 9, 1007, true⟩)),
  (1008, (some ⟨.cells [(.slice (some ⟨1006, 0, none⟩) 1 capX), (.slice (some ⟨1007, 0, none⟩) 1 capX)] 71, 1008, true⟩)),
  (1009, (some ⟨.cells [(.int .i64 0), (.int .i64 1), (.int .i64 1)] 96, 1009, true⟩)),
  (1010, (some ⟨.cells [(.int .i64 1)] 3, 1010, true⟩)),
  (1011, (some ⟨.cells [(.int .i64 1), (.int .i64 2)] 3, 1011, true⟩)),
  (1012, (some ⟨.cells [(.string ⟨#[100, 111, 103]⟩), (.string ⟨#[]⟩)] 98, 1012, true⟩)),
  (1013, (some ⟨.cells [(.int .i64 5), (.int .i64 2)] 101, 1013, true⟩)),
  (1014, (some ⟨.cells [(.int .i64 1), (.slice (some ⟨1011, 0, none⟩) 2 capX), (.int .i64 1), (.slice none 0 0), (.int .i64 0), (.slice (some ⟨1012, 0, none⟩) 1 capX), (.slice none 0 0), (.slice (some ⟨1013, 0, none⟩) 1 capX)] 106, 1014, true⟩)),
  (1015, (some ⟨.cells [(.int .i64 1), (.string ⟨#[65, 110, 97]⟩), (.bool true)] 108, 1015, true⟩)),
  (1016, (some ⟨.cells [(.int .i64 1), (.int .i64 0), (.int .i64 10), (.int .i64 2)] 110, 1016, true⟩)),
  (1017, (some ⟨.cells [(.int .i64 1)] 3, 1017, true⟩)),
  (1019, (some ⟨.cells [(.string ⟨#[116, 101, 120, 116]⟩), (.int .i64 0), (.int .i64 1), (.int .i64 (-1)), (.string ⟨#[119, 111, 114, 100]⟩), (.int .i64 2), (.int .i64 2), (.int .i64 0)] 112, 1019, true⟩)),
  (1020, (some ⟨.cells [(.int .i64 1), (.int .i64 0), (.int .i64 0), (.int .i64 0), (.int .i64 900), (.int .i64 0), (.string ⟨#[98, 97]⟩), (.int .i64 2), (.int .i64 1), (.int .i64 1), (.int .i64 0), (.int .i64 400), (.int .i64 0), (.string ⟨#[98, 97]⟩)] 116, 1020, true⟩)),
  (1021, (some ⟨.cells [(.int .i64 5), (.string ⟨#[111, 110, 101]⟩), (.int .i64 1000), (.int .i64 1), (.slice (some ⟨1017, 0, none⟩) 1 capX), (.slice (some ⟨1019, 0, none⟩) 2 capX), (.slice (some ⟨1020, 0, none⟩) 2 capX)] 68, 1021, true⟩)),
  (1022, (some ⟨.cells [(.slice (some ⟨1002, 0, none⟩) 2 capX), (.string ⟨#[109, 97, 105, 110]⟩), (.slice (some ⟨1005, 0, none⟩) 2 capX), (.slice (some ⟨1008, 0, none⟩) 2 capX), (.slice none 0 0), (.int .i64 2), (.slice (some ⟨1009, 0, none⟩) 1 capX), (.slice (some ⟨1010, 0, none⟩) 1 capX), (.slice (some ⟨1014, 0, none⟩) 1 capX), (.slice (some ⟨1021, 0, none⟩) 1 capX), (.slice none 0 0), (.slice none 0 0), (.slice (some ⟨1015, 0, none⟩) 1 capX), (.slice none 0 0), (.slice (some ⟨1016, 0, none⟩) 1 capX), (.slice none 0 0)] 47, 1022, true⟩)),
  (1023, (some ⟨.cells [(.int .i64 5)] 3, 1023, true⟩)),
  (1024, (some ⟨.cells [(.int .i64 0), (.int .i64 0), (.int .i64 10), (.slice (some ⟨1023, 0, none⟩) 1 capX), (.int .i64 40)] 51, 1024, true⟩)),
  (1529, (some ⟨.cells [(.string ⟨#[61, 32, 98, 32, 61]⟩), (.string ⟨#[98, 97]⟩), (.string ⟨#[32, 32, 49, 46, 32, 100, 111, 103]⟩)] 9, 1484, true⟩)),
  (1540, (some ⟨.cells [(.int .i64 5)] 3, 1540, true⟩)),
  (2270, (some ⟨.cells [(.int .i64 1), (.int .i64 0), (.int .i64 4066205352574375697), (.int .i64 2), (.int .i64 5), (.int .i64 4102702907520804274)] 157, 2127, true⟩)),
  (2271, (some ⟨.cells [(.int .i64 3), (.int .i64 1), (.int .i64 0), (.int .i64 10), (.slice (some ⟨1540, 0, none⟩) 1 capX), (.int .i64 40), (.slice (some ⟨2270, 0, none⟩) 2 capX), (.slice (some ⟨1529, 0, none⟩) 3 capX), (.int .i64 2257348304172088655)] 73, 2271, true⟩)),
  (2870, (some ⟨.cells [(.string ⟨#[114, 101, 99, 111, 114, 100, 105, 110, 103, 32, 111, 110, 101]⟩), (.string ⟨#[98, 97]⟩), (.string ⟨#[]⟩)] 9, 2697, true⟩))]
def anx2 : Nat := 2871
def asz2 : Nat := 97
def ats3 : List Nat := [0, 1, 2, 3, 4, 5, 6, 7, 8]
def abs3 : List Nat := [1002, 1003, 1004, 1005, 1006, 1007, 1008, 1009, 1010, 1011, 1012, 1013, 1014, 1015, 1016, 1017, 1019, 1020, 1021, 1022, 1023, 1024, 1529, 1540, 2270, 2271, 2870, 3372]
def afs3 : List (Nat × Option Value) := [(0, some (.bool false)), (1, some (.pointer (some ⟨1022, 0, none⟩))), (2, some (.pointer (some ⟨1024, 0, none⟩))), (3, some (.pointer (some ⟨2271, 0, none⟩))), (4, some (.int .i64 0)), (5, some (.slice (some ⟨2870, 0, none⟩) 3 capX)), (6, some (.int .i64 0)), (7, some (.slice (some ⟨3372, 0, none⟩) 1 capX)), (8, some (.int .i64 0))]
def ahs3 : List (Nat × Option ABlk) := [
  (1002, (some ⟨.cells [(.string ⟨#[98]⟩), (.int .i64 0), (.string ⟨#[97]⟩), (.int .i64 1)] 92, 1002, true⟩)),
  (1003, (some ⟨.cells [(.int .i64 1)] 3, 1003, true⟩)),
  (1004, (some ⟨.cells [(.int .i64 2)] 3, 1004, true⟩)),
  (1005, (some ⟨.cells [(.string ⟨#[98]⟩), (.slice (some ⟨1003, 0, none⟩) 1 capX), (.string ⟨#[97]⟩), (.slice (some ⟨1004, 0, none⟩) 1 capX)] 94, 1005, true⟩)),
  (1006, (some ⟨.cells [(.string ⟨#[97]⟩)] 9, 1006, true⟩)),
  (1007, (some ⟨.cells [(.string ⟨#[98]⟩)] 9, 1007, true⟩)),
  (1008, (some ⟨.cells [(.slice (some ⟨1006, 0, none⟩) 1 capX), (.slice (some ⟨1007, 0, none⟩) 1 capX)] 71, 1008, true⟩)),
  (1009, (some ⟨.cells [(.int .i64 0), (.int .i64 1), (.int .i64 1)] 96, 1009, true⟩)),
  (1010, (some ⟨.cells [(.int .i64 1)] 3, 1010, true⟩)),
  (1011, (some ⟨.cells [(.int .i64 1), (.int .i64 2)] 3, 1011, true⟩)),
  (1012, (some ⟨.cells [(.string ⟨#[100, 111, 103]⟩), (.string ⟨#[]⟩)] 98, 1012, true⟩)),
  (1013, (some ⟨.cells [(.int .i64 5), (.int .i64 2)] 101, 1013, true⟩)),
  (1014, (some ⟨.cells [(.int .i64 1), (.slice (some ⟨1011, 0, none⟩) 2 capX), (.int .i64 1), (.slice none 0 0), (.int .i64 0), (.slice (some ⟨1012, 0, none⟩) 1 capX), (.slice none 0 0), (.slice (some ⟨1013, 0, none⟩) 1 capX)] 106, 1014, true⟩)),
  (1015, (some ⟨.cells [(.int .i64 1), (.string ⟨#[65, 110, 97]⟩), (.bool true)] 108, 1015, true⟩)),
  (1016, (some ⟨.cells [(.int .i64 1), (.int .i64 0), (.int .i64 10), (.int .i64 2)] 110, 1016, true⟩)),
  (1017, (some ⟨.cells [(.int .i64 1)] 3, 1017, true⟩)),
  (1019, (some ⟨.cells [(.string ⟨#[116, 101, 120, 116]⟩), (.int .i64 0), (.int .i64 1), (.int .i64 (-1)), (.string ⟨#[119, 111, 114, 100]⟩), (.int .i64 2), (.int .i64 2), (.int .i64 0)] 112, 1019, true⟩)),
  (1020, (some ⟨.cells [(.int .i64 1), (.int .i64 0), (.int .i64 0), (.int .i64 0), (.int .i64 900), (.int .i64 0), (.string ⟨#[98, 97]⟩), (.int .i64 2), (.int .i64 1), (.int .i64 1), (.int .i64 0), (.int .i64 400), (.int .i64 0), (.string ⟨#[98, 97]⟩)] 116, 1020, true⟩)),
  (1021, (some ⟨.cells [(.int .i64 5), (.string ⟨#[111, 110, 101]⟩), (.int .i64 1000), (.int .i64 1), (.slice (some ⟨1017, 0, none⟩) 1 capX), (.slice (some ⟨1019, 0, none⟩) 2 capX), (.slice (some ⟨1020, 0, none⟩) 2 capX)] 68, 1021, true⟩)),
  (1022, (some ⟨.cells [(.slice (some ⟨1002, 0, none⟩) 2 capX), (.string ⟨#[109, 97, 105, 110]⟩), (.slice (some ⟨1005, 0, none⟩) 2 capX), (.slice (some ⟨1008, 0, none⟩) 2 capX), (.slice none 0 0), (.int .i64 2), (.slice (some ⟨1009, 0, none⟩) 1 capX), (.slice (some ⟨1010, 0, none⟩) 1 capX), (.slice (some ⟨1014, 0, none⟩) 1 capX), (.slice (some ⟨1021, 0, none⟩) 1 capX), (.slice none 0 0), (.slice none 0 0), (.slice (some ⟨1015, 0, none⟩) 1 capX), (.slice none 0 0), (.slice (some ⟨1016, 0, none⟩) 1 capX), (.slice none 0 0)] 47, 1022, true⟩)),
  (1023, (some ⟨.cells [(.int .i64 5)] 3, 1023, true⟩)),
  (1024, (some ⟨.cells [(.int .i64 3), (.int .i64 0), (.int .i64 10), (.slice (some ⟨1023, 0, none⟩) 1 capX), (.int .i64 40)] 51, 1024, true⟩)),
  (1529, (some ⟨.cells [(.string ⟨#[61, 32, 98, 32, 61]⟩), (.string ⟨#[98, 97]⟩), (.string ⟨#[32, 32, 49, 46, 32, 100, 111, 103]⟩)] 9, 1484, true⟩)),
  (1540, (some ⟨.cells [(.int .i64 5)] 3, 1540, true⟩)),
  (2270, (some ⟨.cells [(.int .i64 1), (.int .i64 0), (.int .i64 4066205352574375697), (.int .i64 2), (.int .i64 5), (.int .i64 4102702907520804274)] 157, 2127, true⟩)),
  (2271, (some ⟨.cells [(.int .i64 3), (.int .i64 1), (.int .i64 0), (.int .i64 10), (.slice (some ⟨1540, 0, none⟩) 1 capX), (.int .i64 40), (.slice (some ⟨2270, 0, none⟩) 2 capX), (.slice (some ⟨1529, 0, none⟩) 3 capX), (.int .i64 2257348304172088655)] 73, 2271, true⟩)),
  (2870, (some ⟨.cells [(.string ⟨#[114, 101, 99, 111, 114, 100, 105, 110, 103, 32, 111, 110, 101]⟩), (.string ⟨#[98, 97]⟩), (.string ⟨#[]⟩)] 9, 2697, true⟩)),
  (3372, (some ⟨.cells [(.string ⟨#[32, 91, 98, 97, 93]⟩)] 9, 3372, true⟩))]
def anx3 : Nat := 3373
def asz3 : Nat := 97
def ats4 : List Nat := [0, 1, 2, 3, 4, 5, 6, 7, 8, 9, 10]
def abs4 : List Nat := [1002, 1003, 1004, 1005, 1006, 1007, 1008, 1009, 1010, 1011, 1012, 1013, 1014, 1015, 1016, 1017, 1019, 1020, 1021, 1022, 1023, 1024, 1529, 1540, 2270, 2271, 2870, 3372]
def afs4 : List (Nat × Option Value) := [(0, some (.bool false)), (1, some (.pointer (some ⟨1022, 0, none⟩))), (2, some (.pointer (some ⟨1024, 0, none⟩))), (3, some (.pointer (some ⟨2271, 0, none⟩))), (4, some (.int .i64 0)), (5, some (.slice (some ⟨2870, 0, none⟩) 3 capX)), (6, some (.int .i64 0)), (7, some (.slice (some ⟨3372, 0, none⟩) 1 capX)), (8, some (.int .i64 0)), (9, some (.slice none 0 0)), (10, some (.int .i64 0))]
def ahs4 : List (Nat × Option ABlk) := [
  (1002, (some ⟨.cells [(.string ⟨#[98]⟩), (.int .i64 0), (.string ⟨#[97]⟩), (.int .i64 1)] 92, 1002, true⟩)),
  (1003, (some ⟨.cells [(.int .i64 1)] 3, 1003, true⟩)),
  (1004, (some ⟨.cells [(.int .i64 2)] 3, 1004, true⟩)),
  (1005, (some ⟨.cells [(.string ⟨#[98]⟩), (.slice (some ⟨1003, 0, none⟩) 1 capX), (.string ⟨#[97]⟩), (.slice (some ⟨1004, 0, none⟩) 1 capX)] 94, 1005, true⟩)),
  (1006, (some ⟨.cells [(.string ⟨#[97]⟩)] 9, 1006, true⟩)),
  (1007, (some ⟨.cells [(.string ⟨#[98]⟩)] 9, 1007, true⟩)),
  (1008, (some ⟨.cells [(.slice (some ⟨1006, 0, none⟩) 1 capX), (.slice (some ⟨1007, 0, none⟩) 1 capX)] 71, 1008, true⟩)),
  (1009, (some ⟨.cells [(.int .i64 0), (.int .i64 1), (.int .i64 1)] 96, 1009, true⟩)),
  (1010, (some ⟨.cells [(.int .i64 1)] 3, 1010, true⟩)),
  (1011, (some ⟨.cells [(.int .i64 1), (.int .i64 2)] 3, 1011, true⟩)),
  (1012, (some ⟨.cells [(.string ⟨#[100, 111, 103]⟩), (.string ⟨#[]⟩)] 98, 1012, true⟩)),
  (1013, (some ⟨.cells [(.int .i64 5), (.int .i64 2)] 101, 1013, true⟩)),
  (1014, (some ⟨.cells [(.int .i64 1), (.slice (some ⟨1011, 0, none⟩) 2 capX), (.int .i64 1), (.slice none 0 0), (.int .i64 0), (.slice (some ⟨1012, 0, none⟩) 1 capX), (.slice none 0 0), (.slice (some ⟨1013, 0, none⟩) 1 capX)] 106, 1014, true⟩)),
  (1015, (some ⟨.cells [(.int .i64 1), (.string ⟨#[65, 110, 97]⟩), (.bool true)] 108, 1015, true⟩)),
  (1016, (some ⟨.cells [(.int .i64 1), (.int .i64 0), (.int .i64 10), (.int .i64 2)] 110, 1016, true⟩)),
  (1017, (some ⟨.cells [(.int .i64 1)] 3, 1017, true⟩)),
  (1019, (some ⟨.cells [(.string ⟨#[116, 101, 120, 116]⟩), (.int .i64 0), (.int .i64 1), (.int .i64 (-1)), (.string ⟨#[119, 111, 114, 100]⟩), (.int .i64 2), (.int .i64 2), (.int .i64 0)] 112, 1019, true⟩)),
  (1020, (some ⟨.cells [(.int .i64 1), (.int .i64 0), (.int .i64 0), (.int .i64 0), (.int .i64 900), (.int .i64 0), (.string ⟨#[98, 97]⟩), (.int .i64 2), (.int .i64 1), (.int .i64 1), (.int .i64 0), (.int .i64 400), (.int .i64 0), (.string ⟨#[98, 97]⟩)] 116, 1020, true⟩)),
  (1021, (some ⟨.cells [(.int .i64 5), (.string ⟨#[111, 110, 101]⟩), (.int .i64 1000), (.int .i64 1), (.slice (some ⟨1017, 0, none⟩) 1 capX), (.slice (some ⟨1019, 0, none⟩) 2 capX), (.slice (some ⟨1020, 0, none⟩) 2 capX)] 68, 1021, true⟩)),
  (1022, (some ⟨.cells [(.slice (some ⟨1002, 0, none⟩) 2 capX), (.string ⟨#[109, 97, 105, 110]⟩), (.slice (some ⟨1005, 0, none⟩) 2 capX), (.slice (some ⟨1008, 0, none⟩) 2 capX), (.slice none 0 0), (.int .i64 2), (.slice (some ⟨1009, 0, none⟩) 1 capX), (.slice (some ⟨1010, 0, none⟩) 1 capX), (.slice (some ⟨1014, 0, none⟩) 1 capX), (.slice (some ⟨1021, 0, none⟩) 1 capX), (.slice none 0 0), (.slice none 0 0), (.slice (some ⟨1015, 0, none⟩) 1 capX), (.slice none 0 0), (.slice (some ⟨1016, 0, none⟩) 1 capX), (.slice none 0 0)] 47, 1022, true⟩)),
  (1023, (some ⟨.cells [(.int .i64 5)] 3, 1023, true⟩)),
  (1024, (some ⟨.cells [(.int .i64 3), (.int .i64 0), (.int .i64 9), (.slice (some ⟨1023, 0, none⟩) 1 capX), (.int .i64 19)] 51, 1024, true⟩)),
  (1529, (some ⟨.cells [(.string ⟨#[61, 32, 98, 32, 61]⟩), (.string ⟨#[98, 97]⟩), (.string ⟨#[32, 32, 49, 46, 32, 100, 111, 103]⟩)] 9, 1484, true⟩)),
  (1540, (some ⟨.cells [(.int .i64 5)] 3, 1540, true⟩)),
  (2270, (some ⟨.cells [(.int .i64 1), (.int .i64 0), (.int .i64 4066205352574375697), (.int .i64 2), (.int .i64 5), (.int .i64 4102702907520804274)] 157, 2127, true⟩)),
  (2271, (some ⟨.cells [(.int .i64 3), (.int .i64 1), (.int .i64 0), (.int .i64 10), (.slice (some ⟨1540, 0, none⟩) 1 capX), (.int .i64 40), (.slice (some ⟨2270, 0, none⟩) 2 capX), (.slice (some ⟨1529, 0, none⟩) 3 capX), (.int .i64 2257348304172088655)] 73, 2271, true⟩)),
  (2870, (some ⟨.cells [(.string ⟨#[114, 101, 99, 111, 114, 100, 105, 110, 103, 32, 111, 110, 101]⟩), (.string ⟨#[98, 97]⟩), (.string ⟨#[]⟩)] 9, 2697, true⟩)),
  (3372, (some ⟨.cells [(.string ⟨#[32, 91, 98, 97, 93]⟩)] 9, 3372, true⟩))]
def anx4 : Nat := 3468
def asz4 : Nat := 97
end Go.Proofs.YtbkinfgpcjjaaaaGreatDoor
