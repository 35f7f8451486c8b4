/- What is kept between the parts of the example of chapter 48; its first part, by the machine. Conditions: none. -/
import Derived.Test.YtindbmgnapmdmaaGreatDoorWa
import Derived.Test.YtindbmgnapmdmaaGreatDoorAm9
namespace Go.Proofs.YtindbmgnapmdmaaGreatDoor
open Go Go.Am Go.Proofs
def pieces : Nat → Code → List Code
  | k + 1, .seq a b => a :: pieces k b
  | _, _ => []
def after : Nat → Code → Code
  | k + 1, .seq _ b => after k b
  | _, c => c
def ats1 : List Nat := [0, 1, 2, 3, 4, 5]
def abs1 : List Nat := [1002, 1003, 1004, 1005, 1006, 1007, 1008, 1009, 1010, 1011, 1012, 1013, 1014, 1015, 1016, 1017, 1018, 1019, 1020, 1021, 1022, 1023, 1024, 1025, 1026, 1027, 1028, 1029, 1030, 1348, 1354, 1356, 1506, 1684, 1713, 1797, 1883, 2050, 2054, 2056, 2412, 2563, 2592, 2696, 2819, 2821, 2823, 2824, 2825]
def afs1 : List (Nat × Option Value) := [(0, some (.bool false)), (1, some (.pointer (some ⟨1028, 0, none⟩))), (2, some (.pointer (some ⟨1029, 0, none⟩))), (3, some (.pointer (some ⟨1030, 0, none⟩))), (4, some (.pointer (some ⟨2824, 0, none⟩))), (5, some (.pointer (some ⟨2825, 0, none⟩)))]
def ahs1 : List (Nat × Option ABlk) := [
  (1002, (some ⟨.cells [(.string ⟨#[98]⟩), (.int .i64 0), (.string ⟨#[97]⟩), (.int .i64 1)] 86, 1002, true⟩)),
  (1003, (some ⟨.cells [(.int .i64 1)] 3, 1003, true⟩)),
  (1004, (some ⟨.cells [(.int .i64 2)] 3, 1004, true⟩)),
  (1005, (some ⟨.cells [(.string ⟨#[98]⟩), (.slice (some ⟨1003, 0, none⟩) 1 1), (.string ⟨#[97]⟩), (.slice (some ⟨1004, 0, none⟩) 1 1)] 88, 1005, true⟩)),
  (1006, (some ⟨.cells [(.int .i64 0), (.int .i64 1), (.int .i64 1)] 90, 1006, true⟩)),
  (1007, (some ⟨.cells [(.int .i64 1)] 3, 1007, true⟩)),
  (1008, (some ⟨.cells [(.int .i64 1), (.int .i64 2)] 3, 1008, true⟩)),
  (1009, (some ⟨.cells [(.string ⟨#[100, 111, 103]⟩), (.string ⟨#[]⟩)] 92, 1009, true⟩)),
  (1010, (some ⟨.cells [(.int .i64 0), (.int .i64 2)] 94, 1010, true⟩)),
  (1011, (some ⟨.cells [(.int .i64 5), (.int .i64 2)] 74, 1011, true⟩)),
  (1012, (some ⟨.cells [(.int .i64 2)] 3, 1012, true⟩)),
  (1013, (some ⟨.cells [(.string ⟨#[99, 97, 116]⟩), (.string ⟨#[]⟩)] 92, 1013, true⟩)),
  (1014, (some ⟨.cells [(.int .i64 0), (.int .i64 1)] 94, 1014, true⟩)),
  (1015, (some ⟨.cells [(.int .i64 6), (.int .i64 2)] 74, 1015, true⟩)),
  (1016, (some ⟨.cells [(.int .i64 1), (.slice (some ⟨1008, 0, none⟩) 2 2), (.int .i64 1), (.slice none 0 0), (.int .i64 0), (.slice (some ⟨1009, 0, none⟩) 1 1), (.slice (some ⟨1010, 0, none⟩) 1 1), (.slice (some ⟨1011, 0, none⟩) 1 1), (.int .i64 2), (.slice (some ⟨1012, 0, none⟩) 1 1), (.int .i64 1), (.slice none 0 0), (.int .i64 0), (.slice (some ⟨1013, 0, none⟩) 1 1), (.slice (some ⟨1014, 0, none⟩) 1 1), (.slice (some ⟨1015, 0, none⟩) 1 1)] 69, 1016, true⟩)),
  (1017, (some ⟨.cells [(.int .i64 1), (.string ⟨#[65, 110, 97]⟩), (.bool true), (.int .i64 2), (.string ⟨#[66, 101, 110]⟩), (.bool true)] 96, 1017, true⟩)),
  (1018, (some ⟨.cells [(.int .i64 1), (.int .i64 0), (.int .i64 10), (.int .i64 2), (.int .i64 2), (.int .i64 0), (.int .i64 10), (.int .i64 2), (.int .i64 2), (.int .i64 0), (.int .i64 20), (.int .i64 0)] 98, 1018, true⟩)),
  (1019, (some ⟨.cells [(.string ⟨#[116, 101, 120, 116]⟩), (.int .i64 0), (.int .i64 1), (.int .i64 (-1)), (.string ⟨#[119, 111, 114, 100]⟩), (.int .i64 2), (.int .i64 2), (.int .i64 0)] 100, 1019, true⟩)),
  (1020, (some ⟨.cells [(.int .i64 1), (.int .i64 0), (.int .i64 0), (.int .i64 0), (.int .i64 900), (.int .i64 0), (.string ⟨#[98, 97]⟩), (.int .i64 2), (.int .i64 1), (.int .i64 1), (.int .i64 0), (.int .i64 400), (.int .i64 0), (.string ⟨#[98, 97]⟩)] 104, 1020, true⟩)),
  (1021, (some ⟨.cells [(.int .i64 1), (.int .i64 0), (.int .i64 0), (.int .i64 0), (.int .i64 900), (.int .i64 0), (.string ⟨#[97]⟩), (.int .i64 2), (.int .i64 1), (.int .i64 1), (.int .i64 0), (.int .i64 400), (.int .i64 0), (.string ⟨#[97]⟩)] 104, 1021, true⟩)),
  (1022, (some ⟨.cells [(.int .i64 1)] 3, 1022, true⟩)),
  (1023, (some ⟨.cells [(.int .i64 2)] 3, 1023, true⟩)),
  (1024, (some ⟨.cells [(.int .i64 5), (.string ⟨#[111, 110, 101]⟩), (.int .i64 1000), (.int .i64 1), (.slice (some ⟨1022, 0, none⟩) 1 1), (.slice (some ⟨1019, 0, none⟩) 2 2), (.slice (some ⟨1020, 0, none⟩) 2 2), (.int .i64 6), (.string ⟨#[116, 119, 111]⟩), (.int .i64 1000), (.int .i64 1), (.slice (some ⟨1023, 0, none⟩) 1 1), (.slice (some ⟨1019, 0, none⟩) 2 2), (.slice (some ⟨1021, 0, none⟩) 2 2)] 56, 1024, true⟩)),
  (1025, (some ⟨.cells [(.int .i64 1), (.int .i64 2)] 3, 1025, true⟩)),
  (1026, (some ⟨.cells [(.int .i64 5), (.int .i64 2), (.int .i64 6), (.int .i64 2)] 74, 1026, true⟩)),
  (1027, (some ⟨.cells [(.int .i64 1), (.string ⟨#[110, 111, 117, 110, 115]⟩), (.string ⟨#[]⟩), (.slice (some ⟨1025, 0, none⟩) 2 2), (.slice (some ⟨1026, 0, none⟩) 2 2)] 71, 1027, true⟩)),
  (1028, (some ⟨.cells [(.slice (some ⟨1002, 0, none⟩) 2 2), (.string ⟨#[109, 97, 105, 110]⟩), (.slice (some ⟨1005, 0, none⟩) 2 2), (.slice none 0 0), (.slice none 0 0), (.int .i64 2), (.slice (some ⟨1006, 0, none⟩) 1 1), (.slice (some ⟨1007, 0, none⟩) 1 1), (.slice (some ⟨1016, 0, none⟩) 2 2), (.slice (some ⟨1024, 0, none⟩) 2 2), (.slice none 0 0), (.slice (some ⟨1027, 0, none⟩) 1 1), (.slice (some ⟨1017, 0, none⟩) 2 2), (.slice none 0 0), (.slice (some ⟨1018, 0, none⟩) 3 3), (.slice none 0 0)] 47, 1028, true⟩)),
  (1029, (some ⟨.cells [(.int .i64 0), (.int .i64 19)] 59, 1029, true⟩)),
  (1030, (some ⟨.cells [(.int .i64 0), (.int .i64 20)] 59, 1030, true⟩)),
  (1348, (some ⟨.cells [(.int .i64 0), (.int .i64 2)] 94, 1348, true⟩)),
  (1354, (some ⟨.cells [(.int .i64 0), (.int .i64 1)] 94, 1354, true⟩)),
  (1356, (some ⟨.cells [(.int .i64 1), (.slice (some ⟨1008, 0, none⟩) 2 2), (.int .i64 1), (.slice none 0 0), (.int .i64 0), (.slice (some ⟨1009, 0, none⟩) 1 1), (.slice (some ⟨1348, 0, none⟩) 1 capX), (.slice (some ⟨1797, 0, none⟩) 1 capX), (.int .i64 2), (.slice (some ⟨1012, 0, none⟩) 1 1), (.int .i64 1), (.slice none 0 0), (.int .i64 0), (.slice (some ⟨1013, 0, none⟩) 1 1), (.slice (some ⟨1354, 0, none⟩) 1 capX), (.slice (some ⟨1883, 0, none⟩) 1 capX)] 69, 1350, true⟩)),
  (1506, (some ⟨.cells [(.int .i64 1), (.int .i64 0), (.int .i64 0), (.int .i64 0), (.int .i64 900), (.int .i64 0), (.string ⟨#[98, 97]⟩), (.int .i64 2), (.int .i64 1), (.int .i64 1), (.int .i64 0), (.int .i64 400), (.int .i64 0), (.string ⟨#[98, 97]⟩)] 104, 1484, true⟩)),
  (1684, (some ⟨.cells [(.int .i64 1), (.int .i64 0), (.int .i64 0), (.int .i64 0), (.int .i64 900), (.int .i64 0), (.string ⟨#[97]⟩), (.int .i64 2), (.int .i64 1), (.int .i64 1), (.int .i64 0), (.int .i64 400), (.int .i64 0), (.string ⟨#[97]⟩)] 104, 1662, true⟩)),
  (1713, (some ⟨.cells [(.int .i64 5), (.string ⟨#[111, 110, 101]⟩), (.int .i64 1000), (.int .i64 1), (.slice (some ⟨1022, 0, none⟩) 1 1), (.slice (some ⟨1019, 0, none⟩) 2 2), (.slice (some ⟨1506, 0, none⟩) 2 capX), (.int .i64 6), (.string ⟨#[116, 119, 111]⟩), (.int .i64 1000), (.int .i64 1), (.slice (some ⟨1023, 0, none⟩) 1 1), (.slice (some ⟨1019, 0, none⟩) 2 2), (.slice (some ⟨1684, 0, none⟩) 2 capX)] 56, 1535, true⟩)),
  (1797, (some ⟨.cells [(.int .i64 5), (.int .i64 2)] 74, 1797, true⟩)),
  (1883, (some ⟨.cells [(.int .i64 6), (.int .i64 2)] 74, 1883, true⟩)),
  (2050, (some ⟨.cells [(.int .i64 5), (.int .i64 2), (.int .i64 6), (.int .i64 2)] 74, 2038, true⟩)),
  (2054, (some ⟨.cells [(.int .i64 1), (.int .i64 2)] 3, 2052, true⟩)),
  (2056, (some ⟨.cells [(.int .i64 1), (.string ⟨#[110, 111, 117, 110, 115]⟩), (.string ⟨#[]⟩), (.slice (some ⟨2054, 0, none⟩) 2 capX), (.slice (some ⟨2050, 0, none⟩) 2 capX)] 71, 2056, true⟩)),
  (2412, (some ⟨.cells [(.int .i64 1), (.slice (some ⟨1008, 0, none⟩) 2 2), (.int .i64 1), (.slice none 0 0), (.int .i64 0), (.slice (some ⟨1009, 0, none⟩) 1 1), (.slice none 0 0), (.slice (some ⟨2696, 0, none⟩) 1 capX)] 69, 2412, true⟩)),
  (2563, (some ⟨.cells [(.int .i64 1), (.int .i64 0), (.int .i64 0), (.int .i64 0), (.int .i64 900), (.int .i64 0), (.string ⟨#[98, 97]⟩), (.int .i64 2), (.int .i64 1), (.int .i64 1), (.int .i64 0), (.int .i64 400), (.int .i64 0), (.string ⟨#[98, 97]⟩)] 104, 2541, true⟩)),
  (2592, (some ⟨.cells [(.int .i64 5), (.string ⟨#[111, 110, 101]⟩), (.int .i64 1000), (.int .i64 1), (.slice (some ⟨1022, 0, none⟩) 1 1), (.slice (some ⟨1019, 0, none⟩) 2 2), (.slice (some ⟨2563, 0, none⟩) 2 capX)] 56, 2592, true⟩)),
  (2696, (some ⟨.cells [(.int .i64 5), (.int .i64 2)] 74, 2696, true⟩)),
  (2819, (some ⟨.cells [(.int .i64 5), (.int .i64 2)] 74, 2819, true⟩)),
  (2821, (some ⟨.cells [(.int .i64 1)] 3, 2821, true⟩)),
  (2823, (some ⟨.cells [(.int .i64 1), (.string ⟨#[110, 111, 117, 110, 115]⟩), (.string ⟨#[]⟩), (.slice (some ⟨2821, 0, none⟩) 1 capX), (.slice (some ⟨2819, 0, none⟩) 1 capX)] 71, 2823, true⟩)),
  (2824, (some ⟨.cells [(.slice (some ⟨1002, 0, none⟩) 2 2), (.string ⟨#[109, 97, 105, 110]⟩), (.slice (some ⟨1005, 0, none⟩) 2 2), (.slice none 0 0), (.slice none 0 0), (.int .i64 2), (.slice (some ⟨1006, 0, none⟩) 1 1), (.slice (some ⟨1007, 0, none⟩) 1 1), (.slice (some ⟨1356, 0, none⟩) 2 capX), (.slice (some ⟨1713, 0, none⟩) 2 capX), (.slice none 0 0), (.slice (some ⟨2056, 0, none⟩) 1 capX), (.slice (some ⟨1017, 0, none⟩) 2 2), (.slice none 0 0), (.slice (some ⟨1018, 0, none⟩) 3 3), (.slice none 0 0)] 47, 2824, true⟩)),
  (2825, (some ⟨.cells [(.slice (some ⟨1002, 0, none⟩) 2 2), (.string ⟨#[109, 97, 105, 110]⟩), (.slice (some ⟨1005, 0, none⟩) 2 2), (.slice none 0 0), (.slice none 0 0), (.int .i64 2), (.slice (some ⟨1006, 0, none⟩) 1 1), (.slice (some ⟨1007, 0, none⟩) 1 1), (.slice (some ⟨2412, 0, none⟩) 1 capX), (.slice (some ⟨2592, 0, none⟩) 1 capX), (.slice none 0 0), (.slice (some ⟨2823, 0, none⟩) 1 capX), (.slice (some ⟨1017, 0, none⟩) 2 2), (.slice none 0 0), (.slice (some ⟨1018, 0, none⟩) 3 3), (.slice none 0 0)] 47, 2825, true⟩))]
def anx1 : Nat := 2826
def asz1 : Nat := 117
def ats2 : List Nat := [0, 1, 2, 3, 4, 5, 6]
def abs2 : List Nat := [1002, 1003, 1004, 1005, 1006, 1007, 1008, 1009, 1010, 1011, 1012, 1013, 1014, 1015, 1016, 1017, 1018, 1019, 1020, 1021, 1022, 1023, 1024, 1025, 1026, 1027, 1028, 1029, 1030, 1348, 1354, 1356, 1506, 1684, 1713, 1797, 1883, 2050, 2054, 2056, 2412, 2563, 2592, 2696, 2819, 2821, 2823, 2824, 2825, 3672]
def afs2 : List (Nat × Option Value) := [(0, some (.bool false)), (1, some (.pointer (some ⟨1028, 0, none⟩))), (2, some (.pointer (some ⟨1029, 0, none⟩))), (3, some (.pointer (some ⟨1030, 0, none⟩))), (4, some (.pointer (some ⟨2824, 0, none⟩))), (5, some (.pointer (some ⟨2825, 0, none⟩))), (6, some (.slice (some ⟨3672, 0, none⟩) 1 capX))]
def ahs2 : List (Nat × Option ABlk) := [
  (1002, (some ⟨.cells [(.string ⟨#[98]⟩), (.int .i64 0), (.string ⟨#[97]⟩), (.int .i64 1)] 86, 1002, true⟩)),
  (1003, (some ⟨.cells [(.int .i64 1)] 3, 1003, true⟩)),
  (1004, (some ⟨.cells [(.int .i64 2)] 3, 1004, true⟩)),
  (1005, (some ⟨.cells [(.string ⟨#[98]⟩), (.slice (some ⟨1003, 0, none⟩) 1 1), (.string ⟨#[97]⟩), (.slice (some ⟨1004, 0, none⟩) 1 1)] 88, 1005, true⟩)),
  (1006, (some ⟨.cells [(.int .i64 0), (.int .i64 1), (.int .i64 1)] 90, 1006, true⟩)),
  (1007, (some ⟨.cells [(.int .i64 1)] 3, 1007, true⟩)),
  (1008, (some ⟨.cells [(.int .i64 1), (.int .i64 2)] 3, 1008, true⟩)),
  (1009, (some ⟨.cells [(.string ⟨#[100, 111, 103]⟩), (.string ⟨#[]⟩)] 92, 1009, true⟩)),
  (1010, (some ⟨.cells [(.int .i64 0), (.int .i64 2)] 94, 1010, true⟩)),
  (1011, (some ⟨.cells [(.int .i64 5), (.int .i64 2)] 74, 1011, true⟩)),
  (1012, (some ⟨.cells [(.int .i64 2)] 3, 1012, true⟩)),
  (1013, (some ⟨.cells [(.string ⟨#[99, 97, 116]⟩), (.string ⟨#[]⟩)] 92, 1013, true⟩)),
  (1014, (some ⟨.cells [(.int .i64 0), (.int .i64 1)] 94, 1014, true⟩)),
  (1015, (some ⟨.cells [(.int .i64 6), (.int .i64 2)] 74, 1015, true⟩)),
  (1016, (some ⟨.cells [(.int .i64 1), (.slice (some ⟨1008, 0, none⟩) 2 2), (.int .i64 1), (.slice none 0 0), (.int .i64 0), (.slice (some ⟨1009, 0, none⟩) 1 1), (.slice (some ⟨1010, 0, none⟩) 1 1), (.slice (some ⟨1011, 0, none⟩) 1 1), (.int .i64 2), (.slice (some ⟨1012, 0, none⟩) 1 1), (.int .i64 1), (.slice none 0 0), (.int .i64 0), (.slice (some ⟨1013, 0, none⟩) 1 1), (.slice (some ⟨1014, 0, none⟩) 1 1), (.slice (some ⟨1015, 0, none⟩) 1 1)] 69, 1016, true⟩)),
  (1017, (some ⟨.cells [(.int .i64 1), (.string ⟨#[65, 110, 97]⟩), (.bool true), (.int .i64 2), (.string ⟨#[66, 101, 110]⟩), (.bool true)] 96, 1017, true⟩)),
  (1018, (some ⟨.cells [(.int .i64 1), (.int .i64 0), (.int .i64 10), (.int .i64 2), (.int .i64 2), (.int .i64 0), (.int .i64 10), (.int .i64 2), (.int .i64 2), (.int .i64 0), (.int .i64 20), (.int .i64 0)] 98, 1018, true⟩)),
  (1019, (some ⟨.cells [(.string ⟨#[116, 101, 120, 116]⟩), (.int .i64 0), (.int .i64 1), (.int .i64 (-1)), (.string ⟨#[119, 111, 114, 100]⟩), (.int .i64 2), (.int .i64 2), (.int .i64 0)] 100, 1019, true⟩)),
  (1020, (some ⟨.cells [(.int .i64 1), (.int .i64 0), (.int .i64 0), (.int .i64 0), (.int .i64 900), (.int .i64 0), (.string ⟨#[98, 97]⟩), (.int .i64 2), (.int .i64 1), (.int .i64 1), (.int .i64 0), (.int .i64 400), (.int .i64 0), (.string ⟨#[98, 97]⟩)] 104, 1020, true⟩)),
  (1021, (some ⟨.cells [(.int .i64 1), (.int .i64 0), (.int .i64 0), (.int .i64 0), (.int .i64 900), (.int .i64 0), (.string ⟨#[97]⟩), (.int .i64 2), (.int .i64 1), (.int .i64 1), (.int .i64 0), (.int .i64 400), (.int .i64 0), (.string ⟨#[97]⟩)] 104, 1021, true⟩)),
  (1022, (some ⟨.cells [(.int .i64 1)] 3, 1022, true⟩)),
  (1023, (some ⟨.cells [(.int .i64 2)] 3, 1023, true⟩)),
  (1024, (some ⟨.cells [(.int .i64 5), (.string ⟨#[111, 110, 101]⟩), (.int .i64 1000), (.int .i64 1), (.slice (some ⟨1022, 0, none⟩) 1 1), (.slice (some ⟨1019, 0, none⟩) 2 2), (.slice (some ⟨1020, 0, none⟩) 2 2), (.int .i64 6), (.string ⟨#[116, 119, 111]⟩), (.int .i64 1000), (.int .i64 1), (.slice (some ⟨1023, 0, none⟩) 1 1), (.slice (some ⟨1019, 0, none⟩) 2 2), (.slice (some ⟨1021, 0, none⟩) 2 2)] 56, 1024, true⟩)),
  (1025, (some ⟨.cells [(.int .i64 1), (.int .i64 2)] 3, 1025, true⟩)),
  (1026, (some ⟨.cells [(.int .i64 5), (.int .i64 2), (.int .i64 6), (.int .i64 2)] 74, 1026, true⟩)),
  (1027, (some ⟨.cells [(.int .i64 1), (.string ⟨#[110, 111, 117, 110, 115]⟩), (.string ⟨#[]⟩), (.slice (some ⟨1025, 0, none⟩) 2 2), (.slice (some ⟨1026, 0, none⟩) 2 2)] 71, 1027, true⟩)),
  (1028, (some ⟨.cells [(.slice (some ⟨1002, 0, none⟩) 2 2), (.string ⟨#[109, 97, 105, 110]⟩), (.slice (some ⟨1005, 0, none⟩) 2 2), (.slice none 0 0), (.slice none 0 0), (.int .i64 2), (.slice (some ⟨1006, 0, none⟩) 1 1), (.slice (some ⟨1007, 0, none⟩) 1 1), (.slice (some ⟨1016, 0, none⟩) 2 2), (.slice (some ⟨1024, 0, none⟩) 2 2), (.slice none 0 0), (.slice (some ⟨1027, 0, none⟩) 1 1), (.slice (some ⟨1017, 0, none⟩) 2 2), (.slice none 0 0), (.slice (some ⟨1018, 0, none⟩) 3 3), (.slice none 0 0)] 47, 1028, true⟩)),
  (1029, (some ⟨.cells [(.int .i64 0), (.int .i64 19)] 59, 1029, true⟩)),
  (1030, (some ⟨.cells [(.int .i64 0), (.int .i64 20)] 59, 1030, true⟩)),
  (1348, (some ⟨.cells [(.int .i64 0), (.int .i64 2)] 94, 1348, true⟩)),
  (1354, (some ⟨.cells [(.int .i64 0), (.int .i64 1)] 94, 1354, true⟩)),
  (1356, (some ⟨.cells [(.int .i64 1), (.slice (some ⟨1008, 0, none⟩) 2 2), (.int .i64 1), (.slice none 0 0), (.int .i64 0), (.slice (some ⟨1009, 0, none⟩) 1 1), (.slice (some ⟨1348, 0, none⟩) 1 capX), (.slice (some ⟨1797, 0, none⟩) 1 capX), (.int .i64 2), (.slice (some ⟨1012, 0, none⟩) 1 1), (.int .i64 1), (.slice none 0 0), (.int .i64 0), (.slice (some ⟨1013, 0, none⟩) 1 1), (.slice (some ⟨1354, 0, none⟩) 1 capX), (.slice (some ⟨1883, 0, none⟩) 1 capX)] 69, 1350, true⟩)),
  (1506, (some ⟨.cells [(.int .i64 1), (.int .i64 0), (.int .i64 0), (.int .i64 0), (.int .i64 900), (.int .i64 0), (.string ⟨#[98, 97]⟩), (.int .i64 2), (.int .i64 1), (.int .i64 1), (.int .i64 0), (.int .i64 400), (.int .i64 0), (.string ⟨#[98, 97]⟩)] 104, 1484, true⟩)),
  (1684, (some ⟨.cells [(.int .i64 1), (.int .i64 0), (.int .i64 0), (.int .i64 0), (.int .i64 900), (.int .i64 0), (.string ⟨#[97]⟩), (.int .i64 2), (.int .i64 1), (.int .i64 1), (.int .i64 0), (.int .i64 400), (.int .i64 0), (.string ⟨#[97]⟩)] 104, 1662, true⟩)),
  (1713, (some ⟨.cells [(.int .i64 5), (.string ⟨#[111, 110, 101]⟩), (.int .i64 1000), (.int .i64 1), (.slice (some ⟨1022, 0, none⟩) 1 1), (.slice (some ⟨1019, 0, none⟩) 2 2), (.slice (some ⟨1506, 0, none⟩) 2 capX), (.int .i64 6), (.string ⟨#[116, 119, 111]⟩), (.int .i64 1000), (.int .i64 1), (.slice (some ⟨1023, 0, none⟩) 1 1), (.slice (some ⟨1019, 0, none⟩) 2 2), (.slice (some ⟨1684, 0, none⟩) 2 capX)] 56, 1535, true⟩)),
  (1797, (some ⟨.cells [(.int .i64 5), (.int .i64 2)] 74, 1797, true⟩)),
  (1883, (some ⟨.cells [(.int .i64 6), (.int .i64 2)] 74, 1883, true⟩)),
  (2050, (some ⟨.cells [(.int .i64 5), (.int .i64 2), (.int .i64 6), (.int .i64 2)] 74, 2038, true⟩)),
  (2054, (some ⟨.cells [(.int .i64 1), (.int .i64 2)] 3, 2052, true⟩)),
  (2056, (some ⟨.cells [(.int .i64 1), (.string ⟨#[110, 111, 117, 110, 115]⟩), (.string ⟨#[]⟩), (.slice (some ⟨2054, 0, none⟩) 2 capX), (.slice (some ⟨2050, 0, none⟩) 2 capX)] 71, 2056, true⟩)),
  (2412, (some ⟨.cells [(.int .i64 1), (.slice (some ⟨1008, 0, none⟩) 2 2), (.int .i64 1), (.slice none 0 0), (.int .i64 0), (.slice (some ⟨1009, 0, none⟩) 1 1), (.slice none 0 0), (.slice (some ⟨2696, 0, none⟩) 1 capX)] 69, 2412, true⟩)),
  (2563, (some ⟨.cells [(.int .i64 1), (.int .i64 0), (.int .i64 0), (.int .i64 0), (.int .i64 900), (.int .i64 0), (.string ⟨#[98, 97]⟩), (.int .i64 2), (.int .i64 1), (.int .i64 1), (.int .i64 0), (.int .i64 400), (.int .i64 0), (.string ⟨#[98, 97]⟩)] 104, 2541, true⟩)),
  (2592, (some ⟨.cells [(.int .i64 5), (.string ⟨#[111, 110, 101]⟩), (.int .i64 1000), (.int .i64 1), (.slice (some ⟨1022, 0, none⟩) 1 1), (.slice (some ⟨1019, 0, none⟩) 2 2), (.slice (some ⟨2563, 0, none⟩) 2 capX)] 56, 2592, true⟩)),
  (2696, (some ⟨.cells [(.int .i64 5), (.int .i64 2)] 74, 2696, true⟩)),
  (2819, (some ⟨.cells [(.int .i64 5), (.int .i64 2)] 74, 2819, true⟩)),
  (2821, (some ⟨.cells [(.int .i64 1)] 3, 2821, true⟩)),
  (2823, (some ⟨.cells [(.int .i64 1), (.string ⟨#[110, 111, 117, 110, 115]⟩), (.string ⟨#[]⟩), (.slice (some ⟨2821, 0, none⟩) 1 capX), (.slice (some ⟨2819, 0, none⟩) 1 capX)] 71, 2823, true⟩)),
  (2824, (some ⟨.cells [(.slice (some ⟨1002, 0, none⟩) 2 2), (.string ⟨#[109, 97, 105, 110]⟩), (.slice (some ⟨1005, 0, none⟩) 2 2), (.slice none 0 0), (.slice none 0 0), (.int .i64 2), (.slice (some ⟨1006, 0, none⟩) 1 1), (.slice (some ⟨1007, 0, none⟩) 1 1), (.slice (some ⟨1356, 0, none⟩) 2 capX), (.slice (some ⟨1713, 0, none⟩) 2 capX), (.slice none 0 0), (.slice (some ⟨2056, 0, none⟩) 1 capX), (.slice (some ⟨1017, 0, none⟩) 2 2), (.slice none 0 0), (.slice (some ⟨1018, 0, none⟩) 3 3), (.slice none 0 0)] 47, 2824, true⟩)),
  (2825, (some ⟨.cells [(.slice (some ⟨1002, 0, none⟩) 2 2), (.string ⟨#[109, 97, 105, 110]⟩), (.slice (some ⟨1005, 0, none⟩) 2 2), (.slice none 0 0), (.slice none 0 0), (.int .i64 2), (.slice (some ⟨1006, 0, none⟩) 1 1), (.slice (some ⟨1007, 0, none⟩) 1 1), (.slice (some ⟨2412, 0, none⟩) 1 capX), (.slice (some ⟨2592, 0, none⟩) 1 capX), (.slice none 0 0), (.slice (some ⟨2823, 0, none⟩) 1 capX), (.slice (some ⟨1017, 0, none⟩) 2 2), (.slice none 0 0), (.slice (some ⟨1018, 0, none⟩) 3 3), (.slice none 0 0)] 47, 2825, true⟩)),
  (3672, (some ⟨.cells [(.int .i64 1)] 3, 3672, true⟩))]
def anx2 : Nat := 3673
def asz2 : Nat := 117
theorem seg1 : snap ats1 abs1 (runsK (envK Tryz.prog) 100000 (pieces 4 (bodyOf Tryz.f5)) ⟨Nat.max Tryz.f5.ntmps 0, false, .leaf⟩ (heap0 1000)) = some (asz1, false, afs1, ahs1, anx1) := by kernel_rfl
end Go.Proofs.YtindbmgnapmdmaaGreatDoor
