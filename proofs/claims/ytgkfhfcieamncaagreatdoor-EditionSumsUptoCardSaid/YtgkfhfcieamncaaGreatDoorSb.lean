/- Trees of functions. Conditions: none. -/
import Derived.Test.YtgkfhfcieamncaaGreatDoorSa
set_option linter.unusedVariables false
set_option linter.unusedSimpArgs false
namespace Go.Proofs.YtgkfhfcieamncaaGreatDoor
open Go Go.Am Go.Proofs



def m17_0 : Go.Am.Mode := ⟨⟨[⟨.pure, false⟩, ⟨.fresh, true⟩], [(0, .loc 0 0), (1, .v 0)], [some (.cells [.v 1])]⟩, 2, ⟨[⟨.fresh, true⟩], [], [some (.cells [.v 0])]⟩⟩
def m18_0 : Go.Am.Mode := ⟨⟨[⟨.pure, false⟩, ⟨.fresh, true⟩], [(0, .loc 0 0), (1, .v 0)], [some (.cells [.v 1])]⟩, 2, ⟨[⟨.fresh, true⟩], [], [some (.cells [.v 0])]⟩⟩
def m19_0 : Go.Am.Mode := ⟨⟨[⟨.pure, false⟩, ⟨.fresh, true⟩], [(0, .loc 0 0), (1, .v 0)], [some (.cells [.v 1])]⟩, 2, ⟨[⟨.fresh, true⟩], [], [some (.cells [.v 0])]⟩⟩
def m20_0 : Go.Am.Mode := ⟨⟨[⟨.pure, false⟩, ⟨.fresh, true⟩], [(0, .loc 0 0), (1, .v 0)], [some (.cells [.v 1])]⟩, 2, ⟨[⟨.fresh, true⟩], [], [some (.cells [.v 0])]⟩⟩
def m21_0 : Go.Am.Mode := ⟨⟨[⟨.pure, false⟩, ⟨.fresh, true⟩], [(0, .loc 0 0), (1, .v 0)], [some (.cells [.v 1])]⟩, 2, ⟨[⟨.fresh, true⟩], [], [some (.cells [.v 0])]⟩⟩
def m22_0 : Go.Am.Mode := ⟨⟨[⟨.pure, false⟩, ⟨.fresh, true⟩], [(0, .loc 0 0), (1, .v 0)], [some (.cells [.v 1])]⟩, 2, ⟨[⟨.fresh, true⟩], [], [some (.cells [.v 0])]⟩⟩
def m23_0 : Go.Am.Mode := ⟨⟨[⟨.fresh, true⟩], [(0, .loc 0 0)], [some (.cells [.v 0])]⟩, 1, ⟨[⟨.pure, false⟩, ⟨.fresh, true⟩], [(0, .v 0)], [some (.cells [.v 1])]⟩⟩
def m31_0 : Go.Am.Mode := ⟨⟨[⟨.pure, false⟩, ⟨.fresh, true⟩], [(0, .loc 0 0), (1, .v 0)], [some (.cells [.v 1])]⟩, 2, ⟨[⟨.fresh, true⟩], [], [some (.cells [.v 0])]⟩⟩
def m32_0 : Go.Am.Mode := ⟨⟨[⟨.pure, false⟩, ⟨.fresh, true⟩], [(0, .loc 0 0), (1, .v 0)], [some (.cells [.v 1])]⟩, 2, ⟨[⟨.fresh, true⟩], [], [some (.cells [.v 0])]⟩⟩
def m35_0 : Go.Am.Mode := ⟨⟨[⟨.pure, false⟩, ⟨.fresh, true⟩], [(0, .loc 0 0), (1, .v 0)], [some (.cells [.v 1])]⟩, 2, ⟨[⟨.fresh, true⟩], [], [some (.cells [.v 0])]⟩⟩
def m90_0 : Go.Am.Mode := ⟨⟨[⟨.pure, false⟩], [(0, .v 0)], []⟩, 1, ⟨[⟨.fresh, true⟩], [(0, .v 0)], []⟩⟩
def m89_0 : Go.Am.Mode := ⟨⟨[⟨.fresh, true⟩, ⟨.pure, false⟩], [(0, .v 0), (1, .v 1)], []⟩, 2, ⟨[⟨.fresh, true⟩], [(0, .v 0)], []⟩⟩
def m91_0 : Go.Am.Mode := ⟨⟨[⟨.fresh, true⟩, ⟨.pure, false⟩], [(0, .v 0), (1, .v 1), (2, .fn (.func 92) [] [])], []⟩, 3, ⟨[⟨.fresh, true⟩], [(0, .v 0)], []⟩⟩
def m93_0 : Go.Am.Mode := ⟨⟨[⟨.fresh, true⟩, ⟨.pure, false⟩], [(0, .v 0), (1, .v 1), (2, .fn (.func 89) [] [])], []⟩, 3, ⟨[⟨.fresh, true⟩], [(0, .v 0)], []⟩⟩
def m50_0 : Go.Am.Mode := ⟨⟨[⟨.pure, false⟩, ⟨.fresh, true⟩], [(0, .loc 0 0), (1, .v 0)], [some (.cells [.v 1])]⟩, 2, ⟨[⟨.fresh, true⟩], [], [some (.cells [.v 0])]⟩⟩
def m51_0 : Go.Am.Mode := ⟨⟨[⟨.pure, false⟩, ⟨.fresh, true⟩], [(0, .loc 0 0), (1, .v 0)], [some (.cells [.v 1])]⟩, 2, ⟨[⟨.fresh, true⟩], [], [some (.cells [.v 0])]⟩⟩
def m92_0 : Go.Am.Mode := ⟨⟨[⟨.fresh, true⟩, ⟨.pure, false⟩], [(0, .v 0), (1, .v 1)], []⟩, 2, ⟨[⟨.fresh, true⟩], [(0, .v 0)], []⟩⟩
def u5P : Nat → Pat
  | 1 => ⟨[⟨.pure, true⟩, ⟨.pure, true⟩, ⟨.pure, true⟩, ⟨.pure, false⟩, ⟨.fresh, true⟩], [(1, .loc 0 0), (3, .loc 1 0), (20, .v 0), (21, .v 1), (22, .v 2)], [some (.whole (.v 3) 9), some (.cells [.v 4])]⟩
  | 2 => ⟨[⟨.pure, true⟩, ⟨.pure, true⟩, ⟨.pure, true⟩, ⟨.fresh, true⟩], [(3, .loc 1 0), (38, .v 0), (39, .v 1), (40, .v 2)], [none, some (.cells [.v 3])]⟩
  | _ => ⟨[], [], []⟩
def u5T0 : Tree :=
  .bind (.chk true 9) [.v 0] <|
  .bind (.fld true 1 0) [.v 1] <|
  .callM 17 m17_0 [.v 2, .c (.slice none 0 0)] <|
  .bind (.fld true 3 1) [.v 1] <|
  .callM 18 m18_0 [.v 4, .v 3] <|
  .bind (.fld false 1 4) [.v 1] <|
  .bind (.len false) [.v 6] <|
  .callM 19 m19_0 [.v 7, .v 5] <|
  .bind (.fld false 1 4) [.v 1] <|
  .bind (.len false) [.v 9] <|
  .jump 1 [.v 9, .v 10, .c (.int .i64 0), .v 1, .v 8]
def u5T1 : Tree :=
  .bind (.bin .lss 3 (.tmp 22) (.tmp 21)) [.v 2, .v 1] <|
  .ite (.v 5) (
    .bind .inr [.v 0, .v 2] <|
    .bind (.elem 6 true 6 0) [.v 0, .v 2] <|
    .bind (.chk true 6) [.v 7] <|
    .callM 20 m20_0 [.v 8, .v 4] <|
    .bind (.bin .add 3 (.tmp 22) (.const (.int .i64 1))) [.v 2, .c (.int .i64 1)] <|
    .jump 1 [.v 0, .v 1, .v 10, .v 3, .v 9]) (
    .bind (.fld true 3 5) [.v 3] <|
    .callM 21 m21_0 [.v 6, .v 4] <|
    .bind (.fld false 1 8) [.v 3] <|
    .bind (.len false) [.v 8] <|
    .callM 19 m19_0 [.v 9, .v 7] <|
    .bind (.fld false 1 8) [.v 3] <|
    .bind (.len false) [.v 11] <|
    .jump 2 [.v 11, .v 12, .c (.int .i64 0), .v 10])
def u5T2 : Tree :=
  .bind (.bin .lss 3 (.tmp 40) (.tmp 39)) [.v 2, .v 1] <|
  .ite (.v 4) (
    .bind .inr [.v 0, .v 2] <|
    .bind (.elem 8 true 8 0) [.v 0, .v 2] <|
    .bind (.chk true 8) [.v 6] <|
    .callM 22 m22_0 [.v 7, .v 3] <|
    .bind (.bin .add 3 (.tmp 40) (.const (.int .i64 1))) [.v 2, .c (.int .i64 1)] <|
    .jump 2 [.v 0, .v 1, .v 9, .v 8]) (
    .callM 23 m23_0 [.v 3] <|
    .ret [.v 5])
def u5Ts : Nat → Tree
  | 0 => u5T0
  | 1 => u5T1
  | 2 => u5T2
  | _ => .fail

def u7P : Nat → Pat
  | 1 => ⟨[⟨.pure, true⟩, ⟨.pure, true⟩, ⟨.pure, true⟩, ⟨.pure, false⟩, ⟨.fresh, true⟩], [(1, .loc 0 0), (3, .loc 1 0), (33, .v 0), (34, .v 1), (35, .v 2)], [some (.whole (.v 3) 7), some (.cells [.v 4])]⟩
  | 2 => ⟨[⟨.pure, true⟩, ⟨.pure, true⟩, ⟨.pure, true⟩, ⟨.fresh, true⟩], [(3, .loc 1 0), (57, .v 0), (58, .v 1), (59, .v 2)], [none, some (.cells [.v 3])]⟩
  | _ => ⟨[], [], []⟩
def u7T0 : Tree :=
  .bind (.chk true 7) [.v 0] <|
  .bind (.fld false 1 0) [.v 1] <|
  .callM 19 m19_0 [.v 2, .c (.slice none 0 0)] <|
  .bind (.fld false 1 1) [.v 1] <|
  .callM 31 m31_0 [.v 4, .v 3] <|
  .bind (.fld false 1 2) [.v 1] <|
  .callM 19 m19_0 [.v 6, .v 5] <|
  .bind (.fld false 1 3) [.v 1] <|
  .callM 19 m19_0 [.v 8, .v 7] <|
  .bind (.fld false 1 4) [.v 1] <|
  .callM 32 m32_0 [.v 10, .v 9] <|
  .bind (.fld false 1 5) [.v 1] <|
  .bind (.len false) [.v 12] <|
  .callM 19 m19_0 [.v 13, .v 11] <|
  .bind (.fld false 1 5) [.v 1] <|
  .bind (.len false) [.v 15] <|
  .jump 1 [.v 15, .v 16, .c (.int .i64 0), .v 1, .v 14]
def u7T1 : Tree :=
  .bind (.bin .lss 3 (.tmp 35) (.tmp 34)) [.v 2, .v 1] <|
  .ite (.v 5) (
    .bind .inr [.v 0, .v 2] <|
    .bind (.elem 4 true 4 0) [.v 0, .v 2] <|
    .bind (.chk true 4) [.v 7] <|
    .bind (.fld false 1 0) [.v 8] <|
    .callM 31 m31_0 [.v 9, .v 4] <|
    .bind (.fld false 1 1) [.v 8] <|
    .callM 19 m19_0 [.v 11, .v 10] <|
    .bind (.fld false 1 2) [.v 8] <|
    .callM 19 m19_0 [.v 13, .v 12] <|
    .bind (.fld false 1 3) [.v 8] <|
    .callM 19 m19_0 [.v 15, .v 14] <|
    .bind (.bin .add 3 (.tmp 35) (.const (.int .i64 1))) [.v 2, .c (.int .i64 1)] <|
    .jump 1 [.v 0, .v 1, .v 17, .v 3, .v 16]) (
    .bind (.fld false 1 6) [.v 3] <|
    .bind (.len false) [.v 6] <|
    .callM 19 m19_0 [.v 7, .v 4] <|
    .bind (.fld false 1 6) [.v 3] <|
    .bind (.len false) [.v 9] <|
    .jump 2 [.v 9, .v 10, .c (.int .i64 0), .v 8])
def u7T2 : Tree :=
  .bind (.bin .lss 3 (.tmp 59) (.tmp 58)) [.v 2, .v 1] <|
  .ite (.v 4) (
    .bind .inr [.v 0, .v 2] <|
    .bind (.elem 7 true 7 0) [.v 0, .v 2] <|
    .bind (.chk true 7) [.v 6] <|
    .bind (.fld false 1 0) [.v 7] <|
    .callM 19 m19_0 [.v 8, .v 3] <|
    .bind (.fld false 1 1) [.v 7] <|
    .callM 19 m19_0 [.v 10, .v 9] <|
    .bind (.fld false 1 2) [.v 7] <|
    .callM 19 m19_0 [.v 12, .v 11] <|
    .bind (.fld false 1 3) [.v 7] <|
    .callM 19 m19_0 [.v 14, .v 13] <|
    .bind (.fld false 1 4) [.v 7] <|
    .callM 19 m19_0 [.v 16, .v 15] <|
    .bind (.fld false 1 5) [.v 7] <|
    .callM 19 m19_0 [.v 18, .v 17] <|
    .bind (.fld false 1 6) [.v 7] <|
    .callM 31 m31_0 [.v 20, .v 19] <|
    .bind (.bin .add 3 (.tmp 59) (.const (.int .i64 1))) [.v 2, .c (.int .i64 1)] <|
    .jump 2 [.v 0, .v 1, .v 22, .v 21]) (
    .callM 23 m23_0 [.v 3] <|
    .ret [.v 5])
def u7Ts : Nat → Tree
  | 0 => u7T0
  | 1 => u7T1
  | 2 => u7T2
  | _ => .fail

def u9P : Nat → Pat
  | _ => ⟨[], [], []⟩
def u9T0 : Tree :=
  .bind (.chk true 5) [.v 0] <|
  .bind (.fld false 1 0) [.v 1] <|
  .callM 19 m19_0 [.v 2, .c (.slice none 0 0)] <|
  .bind (.fld false 1 1) [.v 1] <|
  .callM 31 m31_0 [.v 4, .v 3] <|
  .bind (.fld false 1 2) [.v 1] <|
  .callM 31 m31_0 [.v 6, .v 5] <|
  .bind (.fld false 1 3) [.v 1] <|
  .callM 32 m32_0 [.v 8, .v 7] <|
  .bind (.fld false 1 4) [.v 1] <|
  .callM 35 m35_0 [.v 10, .v 9] <|
  .callM 23 m23_0 [.v 11] <|
  .ret [.v 12]
def u9Ts : Nat → Tree
  | 0 => u9T0
  | _ => .fail

def u49P : Nat → Pat
  | _ => ⟨[], [], []⟩
def u49T0 : Tree :=
  .callM 90 m90_0 [.v 0] <|
  .callM 89 m89_0 [.v 2, .v 1] <|
  .ret [.v 3]
def u49Ts : Nat → Tree
  | 0 => u49T0
  | _ => .fail

def u57P : Nat → Pat
  | _ => ⟨[], [], []⟩
def u57T0 : Tree :=
  .callM 90 m90_0 [.v 0] <|
  .bind (.byt 5) [.v 1] <|
  .callM 91 m91_0 [.v 2, .v 3] <|
  .ret [.v 4]
def u57Ts : Nat → Tree
  | 0 => u57T0
  | _ => .fail

def u58P : Nat → Pat
  | _ => ⟨[], [], []⟩
def u58T0 : Tree :=
  .callM 90 m90_0 [.v 0] <|
  .callM 93 m93_0 [.v 2, .v 1] <|
  .ret [.v 3]
def u58Ts : Nat → Tree
  | 0 => u58T0
  | _ => .fail

def u39P : Nat → Pat
  | _ => ⟨[], [], []⟩
def u39T0 : Tree :=
  .call (.fn 59) [.c (.int .i64 860922984064492325), .v 0] 1 <|
  .ret [.v 1]
def u39Ts : Nat → Tree
  | 0 => u39T0
  | _ => .fail

def u59P : Nat → Pat
  | 1 => ⟨[⟨.pure, true⟩, ⟨.pure, false⟩, ⟨.pure, true⟩, ⟨.pure, true⟩], [(5, .v 0), (11, .v 1), (12, .v 2), (13, .v 3)], []⟩
  | _ => ⟨[], [], []⟩
def u59T0 : Tree :=
  .bind (.conv 3 149) [.v 0] <|
  .bind (.bin .and 149 (.tmp 9) (.const (.int .u64 4611686018427387903))) [.v 2, .c (.int .u64 4611686018427387903)] <|
  .bind (.len false) [.v 1] <|
  .jump 1 [.v 3, .v 1, .v 4, .c (.int .i64 0)]
def u59T1 : Tree :=
  .bind (.bin .lss 3 (.tmp 13) (.tmp 12)) [.v 3, .v 2] <|
  .ite (.v 4) (
    .bind .inr [.v 1, .v 3] <|
    .bind (.elem 1 false 1 0) [.v 1, .v 3] <|
    .bind (.conv 5 149) [.v 6] <|
    .bind (.bin .xor 149 (.tmp 17) (.tmp 19)) [.v 0, .v 7] <|
    .bind (.bin .mul 149 (.tmp 20) (.const (.int .u64 1099511628211))) [.v 8, .c (.int .u64 1099511628211)] <|
    .bind (.bin .and 149 (.tmp 21) (.const (.int .u64 4611686018427387903))) [.v 9, .c (.int .u64 4611686018427387903)] <|
    .bind (.bin .add 3 (.tmp 13) (.const (.int .i64 1))) [.v 3, .c (.int .i64 1)] <|
    .jump 1 [.v 10, .v 1, .v 2, .v 11]) (
    .bind (.conv 149 3) [.v 0] <|
    .ret [.v 5])
def u59Ts : Nat → Tree
  | 0 => u59T0
  | 1 => u59T1
  | _ => .fail

def w17_0P : Nat → Pat
  | 1 => ⟨[⟨.pure, true⟩, ⟨.pure, true⟩, ⟨.pure, true⟩, ⟨.fresh, true⟩], [(0, .loc 0 0), (14, .v 0), (15, .v 1), (16, .v 2)], [some (.cells [.v 3])]⟩
  | _ => ⟨[⟨.pure, false⟩, ⟨.fresh, true⟩], [(0, .loc 0 0), (1, .v 0)], [some (.cells [.v 1])]⟩
def w17_0T0 : Tree :=
  .bind (.chk true 1) [.v 0] <|
  .bind (.fld false 1 0) [.v 2] <|
  .bind (.len false) [.v 3] <|
  .callM 19 m19_0 [.v 4, .v 1] <|
  .bind (.fld false 1 0) [.v 2] <|
  .bind (.len false) [.v 6] <|
  .jump 1 [.v 6, .v 7, .c (.int .i64 0), .v 5]
def w17_0T1 : Tree :=
  .bind (.bin .lss 3 (.tmp 16) (.tmp 15)) [.v 2, .v 1] <|
  .ite (.v 4) (
    .bind .inr [.v 0, .v 2] <|
    .bind (.elem 2 true 2 0) [.v 0, .v 2] <|
    .bind (.chk true 2) [.v 6] <|
    .bind (.fld false 1 0) [.v 7] <|
    .callM 31 m31_0 [.v 8, .v 3] <|
    .bind (.fld false 1 1) [.v 7] <|
    .callM 19 m19_0 [.v 10, .v 9] <|
    .bind (.bin .add 3 (.tmp 16) (.const (.int .i64 1))) [.v 2, .c (.int .i64 1)] <|
    .jump 1 [.v 0, .v 1, .v 12, .v 11]) (
    .ret [.v 3])
def w17_0Ts : Nat → Tree
  | 0 => w17_0T0
  | 1 => w17_0T1
  | _ => .fail

def w18_0P : Nat → Pat
  | 1 => ⟨[⟨.pure, true⟩, ⟨.pure, true⟩, ⟨.pure, true⟩, ⟨.fresh, true⟩, ⟨.pure, false⟩], [(0, .loc 0 0), (3, .loc 1 0), (24, .v 0), (25, .v 1), (26, .v 2)], [some (.cells [.v 3]), some (.whole (.v 4) 3)]⟩
  | 2 => ⟨[⟨.pure, true⟩, ⟨.pure, true⟩, ⟨.pure, true⟩, ⟨.fresh, true⟩], [(0, .loc 0 0), (51, .v 0), (52, .v 1), (53, .v 2)], [some (.cells [.v 3])]⟩
  | 3 => ⟨[⟨.pure, true⟩, ⟨.pure, true⟩, ⟨.pure, true⟩, ⟨.pure, true⟩, ⟨.pure, true⟩, ⟨.pure, true⟩, ⟨.fresh, true⟩], [(0, .loc 0 0), (51, .v 0), (52, .v 1), (53, .v 2), (63, .v 3), (64, .v 4), (65, .v 5)], [some (.cells [.v 6])]⟩
  | _ => ⟨[⟨.pure, false⟩, ⟨.fresh, true⟩], [(0, .loc 0 0), (1, .v 0)], [some (.cells [.v 1])]⟩
def w18_0T0 : Tree :=
  .bind (.chk true 3) [.v 0] <|
  .bind (.fld false 1 0) [.v 2] <|
  .callM 31 m31_0 [.v 3, .v 1] <|
  .bind (.fld false 1 1) [.v 2] <|
  .bind (.len false) [.v 5] <|
  .callM 19 m19_0 [.v 6, .v 4] <|
  .bind (.fld false 1 1) [.v 2] <|
  .bind (.len false) [.v 8] <|
  .jump 1 [.v 8, .v 9, .c (.int .i64 0), .v 7, .v 2]
def w18_0T1 : Tree :=
  .bind (.bin .lss 3 (.tmp 26) (.tmp 25)) [.v 2, .v 1] <|
  .ite (.v 5) (
    .bind .inr [.v 0, .v 2] <|
    .bind (.elem 2 true 2 0) [.v 0, .v 2] <|
    .bind (.chk true 2) [.v 7] <|
    .bind (.fld false 1 0) [.v 8] <|
    .callM 31 m31_0 [.v 9, .v 3] <|
    .bind (.fld false 1 1) [.v 8] <|
    .callM 32 m32_0 [.v 11, .v 10] <|
    .bind (.bin .add 3 (.tmp 26) (.const (.int .i64 1))) [.v 2, .c (.int .i64 1)] <|
    .jump 1 [.v 0, .v 1, .v 13, .v 12, .v 4]) (
    .bind (.fld false 1 2) [.v 4] <|
    .bind (.len false) [.v 6] <|
    .callM 19 m19_0 [.v 7, .v 3] <|
    .bind (.fld false 1 2) [.v 4] <|
    .bind (.len false) [.v 9] <|
    .jump 2 [.v 9, .v 10, .c (.int .i64 0), .v 8])
def w18_0T2 : Tree :=
  .bind (.bin .lss 3 (.tmp 53) (.tmp 52)) [.v 2, .v 1] <|
  .ite (.v 4) (
    .bind .inr [.v 0, .v 2] <|
    .bind (.elem 1 false 1 0) [.v 0, .v 2] <|
    .bind (.len false) [.v 6] <|
    .callM 19 m19_0 [.v 7, .v 3] <|
    .bind (.len false) [.v 6] <|
    .jump 3 [.v 0, .v 1, .v 2, .v 6, .v 9, .c (.int .i64 0), .v 8]) (
    .ret [.v 3])
def w18_0T3 : Tree :=
  .bind (.bin .lss 3 (.tmp 65) (.tmp 64)) [.v 5, .v 4] <|
  .ite (.v 7) (
    .bind .inr [.v 3, .v 5] <|
    .bind (.elem 1 false 1 0) [.v 3, .v 5] <|
    .callM 31 m31_0 [.v 9, .v 6] <|
    .bind (.bin .add 3 (.tmp 65) (.const (.int .i64 1))) [.v 5, .c (.int .i64 1)] <|
    .jump 3 [.v 0, .v 1, .v 2, .v 3, .v 4, .v 11, .v 10]) (
    .bind (.bin .add 3 (.tmp 53) (.const (.int .i64 1))) [.v 2, .c (.int .i64 1)] <|
    .jump 2 [.v 0, .v 1, .v 8, .v 6])
def w18_0Ts : Nat → Tree
  | 0 => w18_0T0
  | 1 => w18_0T1
  | 2 => w18_0T2
  | 3 => w18_0T3
  | _ => .fail

def w19_0P : Nat → Pat
  | _ => ⟨[⟨.pure, false⟩, ⟨.fresh, true⟩], [(0, .loc 0 0), (1, .v 0)], [some (.cells [.v 1])]⟩
def w19_0T0 : Tree :=
  .call (.fn 49) [.c (.slice none 0 0), .v 0] 0 <|
  .bind (.app 5 1 1) [.v 1, .v 2] <|
  .ret [.v 3]
def w19_0Ts : Nat → Tree
  | 0 => w19_0T0
  | _ => .fail

def w20_0P : Nat → Pat
  | _ => ⟨[⟨.pure, false⟩, ⟨.fresh, true⟩], [(0, .loc 0 0), (1, .v 0)], [some (.cells [.v 1])]⟩
def w20_0T0 : Tree :=
  .bind (.chk true 6) [.v 0] <|
  .bind (.fld false 1 0) [.v 2] <|
  .callM 32 m32_0 [.v 3, .v 1] <|
  .bind (.fld false 1 1) [.v 2] <|
  .callM 32 m32_0 [.v 5, .v 4] <|
  .bind (.fld false 1 2) [.v 2] <|
  .callM 50 m50_0 [.v 7, .v 6] <|
  .bind (.fld false 1 3) [.v 2] <|
  .callM 50 m50_0 [.v 9, .v 8] <|
  .bind (.fld false 1 4) [.v 2] <|
  .callM 51 m51_0 [.v 11, .v 10] <|
  .bind (.fld false 1 5) [.v 2] <|
  .callM 51 m51_0 [.v 13, .v 12] <|
  .ret [.v 14]
def w20_0Ts : Nat → Tree
  | 0 => w20_0T0
  | _ => .fail

def w21_0P : Nat → Pat
  | 1 => ⟨[⟨.pure, true⟩, ⟨.pure, true⟩, ⟨.pure, true⟩, ⟨.fresh, true⟩, ⟨.pure, false⟩], [(0, .loc 0 0), (3, .loc 1 0), (20, .v 0), (21, .v 1), (22, .v 2)], [some (.cells [.v 3]), some (.whole (.v 4) 3)]⟩
  | _ => ⟨[⟨.pure, false⟩, ⟨.fresh, true⟩], [(0, .loc 0 0), (1, .v 0)], [some (.cells [.v 1])]⟩
def w21_0T0 : Tree :=
  .bind (.chk true 3) [.v 0] <|
  .bind (.fld false 1 0) [.v 2] <|
  .callM 19 m19_0 [.v 3, .v 1] <|
  .bind (.fld false 1 1) [.v 2] <|
  .bind (.len false) [.v 5] <|
  .callM 19 m19_0 [.v 6, .v 4] <|
  .bind (.fld false 1 1) [.v 2] <|
  .bind (.len false) [.v 8] <|
  .jump 1 [.v 8, .v 9, .c (.int .i64 0), .v 7, .v 2]
def w21_0T1 : Tree :=
  .bind (.bin .lss 3 (.tmp 22) (.tmp 21)) [.v 2, .v 1] <|
  .ite (.v 5) (
    .bind .inr [.v 0, .v 2] <|
    .bind (.elem 3 true 3 0) [.v 0, .v 2] <|
    .bind (.chk true 3) [.v 7] <|
    .bind (.fld false 1 0) [.v 8] <|
    .callM 19 m19_0 [.v 9, .v 3] <|
    .bind (.fld false 1 1) [.v 8] <|
    .callM 19 m19_0 [.v 11, .v 10] <|
    .bind (.fld false 1 2) [.v 8] <|
    .callM 19 m19_0 [.v 13, .v 12] <|
    .bind (.bin .add 3 (.tmp 22) (.const (.int .i64 1))) [.v 2, .c (.int .i64 1)] <|
    .jump 1 [.v 0, .v 1, .v 15, .v 14, .v 4]) (
    .bind (.fld false 1 2) [.v 4] <|
    .callM 32 m32_0 [.v 6, .v 3] <|
    .ret [.v 7])
def w21_0Ts : Nat → Tree
  | 0 => w21_0T0
  | 1 => w21_0T1
  | _ => .fail

def w22_0P : Nat → Pat
  | 1 => ⟨[⟨.pure, true⟩, ⟨.pure, true⟩, ⟨.pure, true⟩, ⟨.fresh, true⟩, ⟨.pure, false⟩], [(0, .loc 0 0), (3, .loc 1 0), (36, .v 0), (37, .v 1), (38, .v 2)], [some (.cells [.v 3]), some (.whole (.v 4) 8)]⟩
  | 2 => ⟨[⟨.pure, true⟩, ⟨.pure, true⟩, ⟨.pure, true⟩, ⟨.fresh, true⟩, ⟨.pure, false⟩], [(0, .loc 0 0), (3, .loc 1 0), (62, .v 0), (63, .v 1), (64, .v 2)], [some (.cells [.v 3]), some (.whole (.v 4) 8)]⟩
  | 3 => ⟨[⟨.pure, true⟩, ⟨.pure, true⟩, ⟨.pure, true⟩, ⟨.fresh, true⟩, ⟨.pure, false⟩], [(0, .loc 0 0), (3, .loc 1 0), (89, .v 0), (90, .v 1), (91, .v 2)], [some (.cells [.v 3]), some (.whole (.v 4) 8)]⟩
  | _ => ⟨[⟨.pure, false⟩, ⟨.fresh, true⟩], [(0, .loc 0 0), (1, .v 0)], [some (.cells [.v 1])]⟩
def w22_0T0 : Tree :=
  .bind (.chk true 8) [.v 0] <|
  .bind (.fld false 1 0) [.v 2] <|
  .callM 19 m19_0 [.v 3, .v 1] <|
  .bind (.fld false 1 1) [.v 2] <|
  .callM 32 m32_0 [.v 5, .v 4] <|
  .bind (.fld false 1 2) [.v 2] <|
  .callM 19 m19_0 [.v 7, .v 6] <|
  .bind (.fld false 1 3) [.v 2] <|
  .bind (.len false) [.v 9] <|
  .callM 19 m19_0 [.v 10, .v 8] <|
  .bind (.fld false 1 3) [.v 2] <|
  .bind (.len false) [.v 12] <|
  .jump 1 [.v 12, .v 13, .c (.int .i64 0), .v 11, .v 2]
def w22_0T1 : Tree :=
  .bind (.bin .lss 3 (.tmp 38) (.tmp 37)) [.v 2, .v 1] <|
  .ite (.v 5) (
    .bind .inr [.v 0, .v 2] <|
    .bind (.elem 1 false 1 0) [.v 0, .v 2] <|
    .callM 32 m32_0 [.v 7, .v 3] <|
    .bind (.bin .add 3 (.tmp 38) (.const (.int .i64 1))) [.v 2, .c (.int .i64 1)] <|
    .jump 1 [.v 0, .v 1, .v 9, .v 8, .v 4]) (
    .bind (.fld false 1 4) [.v 4] <|
    .callM 19 m19_0 [.v 6, .v 3] <|
    .bind (.fld false 1 5) [.v 4] <|
    .bind (.len false) [.v 8] <|
    .callM 19 m19_0 [.v 9, .v 7] <|
    .bind (.fld false 1 5) [.v 4] <|
    .bind (.len false) [.v 11] <|
    .jump 2 [.v 11, .v 12, .c (.int .i64 0), .v 10, .v 4])
def w22_0T2 : Tree :=
  .bind (.bin .lss 3 (.tmp 64) (.tmp 63)) [.v 2, .v 1] <|
  .ite (.v 5) (
    .bind .inr [.v 0, .v 2] <|
    .bind (.elem 2 true 2 0) [.v 0, .v 2] <|
    .bind (.chk true 2) [.v 7] <|
    .bind (.fld false 1 0) [.v 8] <|
    .callM 31 m31_0 [.v 9, .v 3] <|
    .bind (.fld false 1 1) [.v 8] <|
    .callM 31 m31_0 [.v 11, .v 10] <|
    .bind (.bin .add 3 (.tmp 64) (.const (.int .i64 1))) [.v 2, .c (.int .i64 1)] <|
    .jump 2 [.v 0, .v 1, .v 13, .v 12, .v 4]) (
    .bind (.fld false 1 6) [.v 4] <|
    .bind (.len false) [.v 6] <|
    .callM 19 m19_0 [.v 7, .v 3] <|
    .bind (.fld false 1 6) [.v 4] <|
    .bind (.len false) [.v 9] <|
    .jump 3 [.v 9, .v 10, .c (.int .i64 0), .v 8, .v 4])
def w22_0T3 : Tree :=
  .bind (.bin .lss 3 (.tmp 91) (.tmp 90)) [.v 2, .v 1] <|
  .ite (.v 5) (
    .bind .inr [.v 0, .v 2] <|
    .bind (.elem 2 true 2 0) [.v 0, .v 2] <|
    .bind (.chk true 2) [.v 7] <|
    .bind (.fld false 1 0) [.v 8] <|
    .callM 19 m19_0 [.v 9, .v 3] <|
    .bind (.fld false 1 1) [.v 8] <|
    .callM 19 m19_0 [.v 11, .v 10] <|
    .bind (.bin .add 3 (.tmp 91) (.const (.int .i64 1))) [.v 2, .c (.int .i64 1)] <|
    .jump 3 [.v 0, .v 1, .v 13, .v 12, .v 4]) (
    .bind (.fld false 1 7) [.v 4] <|
    .callM 35 m35_0 [.v 6, .v 3] <|
    .ret [.v 7])
def w22_0Ts : Nat → Tree
  | 0 => w22_0T0
  | 1 => w22_0T1
  | 2 => w22_0T2
  | 3 => w22_0T3
  | _ => .fail

def w23_0P : Nat → Pat
  | _ => ⟨[⟨.fresh, true⟩], [(0, .loc 0 0)], [some (.cells [.v 0])]⟩
def w23_0T0 : Tree :=
  .call (.fn 39) [.v 0] 1 <|
  .ret [.v 1, .v 0]
def w23_0Ts : Nat → Tree
  | 0 => w23_0T0
  | _ => .fail

def w31_0P : Nat → Pat
  | _ => ⟨[⟨.pure, false⟩, ⟨.fresh, true⟩], [(0, .loc 0 0), (1, .v 0)], [some (.cells [.v 1])]⟩
def w31_0T0 : Tree :=
  .call (.fn 57) [.c (.slice none 0 0), .v 0] 0 <|
  .bind (.app 5 1 1) [.v 1, .v 2] <|
  .ret [.v 3]
def w31_0Ts : Nat → Tree
  | 0 => w31_0T0
  | _ => .fail

def w32_0P : Nat → Pat
  | _ => ⟨[⟨.pure, false⟩, ⟨.fresh, true⟩], [(0, .loc 0 0), (1, .v 0)], [some (.cells [.v 1])]⟩
def w32_0T0 : Tree :=
  .call (.fn 58) [.c (.slice none 0 0), .v 0] 0 <|
  .bind (.app 5 1 1) [.v 1, .v 2] <|
  .ret [.v 3]
def w32_0Ts : Nat → Tree
  | 0 => w32_0T0
  | _ => .fail

def w35_0P : Nat → Pat
  | 1 => ⟨[⟨.pure, false⟩, ⟨.pure, true⟩, ⟨.pure, true⟩, ⟨.fresh, true⟩], [(0, .loc 0 0), (10, .v 0), (11, .v 1), (12, .v 2)], [some (.cells [.v 3])]⟩
  | _ => ⟨[⟨.pure, false⟩, ⟨.fresh, true⟩], [(0, .loc 0 0), (1, .v 0)], [some (.cells [.v 1])]⟩
def w35_0T0 : Tree :=
  .bind (.len false) [.v 0] <|
  .callM 19 m19_0 [.v 2, .v 1] <|
  .bind (.len false) [.v 0] <|
  .jump 1 [.v 0, .v 4, .c (.int .i64 0), .v 3]
def w35_0T1 : Tree :=
  .bind (.bin .lss 3 (.tmp 12) (.tmp 11)) [.v 2, .v 1] <|
  .ite (.v 4) (
    .bind .inr [.v 0, .v 2] <|
    .bind (.elem 2 true 2 0) [.v 0, .v 2] <|
    .bind (.chk true 2) [.v 6] <|
    .bind (.fld false 1 0) [.v 7] <|
    .callM 19 m19_0 [.v 8, .v 3] <|
    .bind (.fld false 1 1) [.v 7] <|
    .callM 19 m19_0 [.v 10, .v 9] <|
    .bind (.bin .add 3 (.tmp 12) (.const (.int .i64 1))) [.v 2, .c (.int .i64 1)] <|
    .jump 1 [.v 0, .v 1, .v 12, .v 11]) (
    .ret [.v 3])
def w35_0Ts : Nat → Tree
  | 0 => w35_0T0
  | 1 => w35_0T1
  | _ => .fail

def w90_0P : Nat → Pat
  | _ => ⟨[⟨.pure, false⟩], [(0, .v 0)], []⟩
def w90_0T0 : Tree :=
  .bind (.isNil false) [.v 0] <|
  .ite (.v 1) (
    .ret [.c (.slice none 0 0)]) (
    .bind (.lit 5 1) [] <|
    .bind (.app 5 1 1) [.v 2, .v 0] <|
    .ret [.v 3])
def w90_0Ts : Nat → Tree
  | 0 => w90_0T0
  | _ => .fail

def w89_0P : Nat → Pat
  | 1 => ⟨[⟨.fresh, true⟩, ⟨.pure, true⟩], [(0, .v 0), (5, .v 1)], []⟩
  | _ => ⟨[⟨.fresh, true⟩, ⟨.pure, false⟩], [(0, .v 0), (1, .v 1)], []⟩
def w89_0T0 : Tree :=
  .bind (.conv 3 149) [.v 1] <|
  .bind (.bin .shl 149 (.tmp 7) (.const (.int .u64 1))) [.v 2, .c (.int .u64 1)] <|
  .bind (.bin .shr 3 (.tmp 9) (.const (.int .u64 63))) [.v 1, .c (.int .u64 63)] <|
  .bind (.conv 3 149) [.v 4] <|
  .bind (.bin .xor 149 (.tmp 8) (.tmp 11)) [.v 3, .v 5] <|
  .jump 1 [.v 0, .v 6]
def w89_0T1 : Tree :=
  .bind (.bin .geq 149 (.tmp 13) (.const (.int .u64 128))) [.v 1, .c (.int .u64 128)] <|
  .ite (.v 2) (
    .bind (.conv 149 5) [.v 1] <|
    .bind (.bin .or 5 (.tmp 17) (.const (.int .u8 128))) [.v 3, .c (.int .u8 128)] <|
    .bind (.chk false 1) [.v 4] <|
    .bind (.lit 5 1) [.v 4] <|
    .bind (.app 5 1 1) [.v 0, .v 6] <|
    .bind (.bin .shr 149 (.tmp 21) (.const (.int .u64 7))) [.v 1, .c (.int .u64 7)] <|
    .jump 1 [.v 7, .v 8]) (
    .bind (.conv 149 5) [.v 1] <|
    .bind (.chk false 1) [.v 3] <|
    .bind (.lit 5 1) [.v 3] <|
    .bind (.app 5 1 1) [.v 0, .v 5] <|
    .ret [.v 6])
def w89_0Ts : Nat → Tree
  | 0 => w89_0T0
  | 1 => w89_0T1
  | _ => .fail

def w91_0P : Nat → Pat
  | 1 => ⟨[⟨.fresh, true⟩, ⟨.pure, false⟩, ⟨.pure, true⟩, ⟨.pure, true⟩], [(0, .v 0), (2, .fn (.func 92) [] []), (13, .v 1), (14, .v 2), (15, .v 3)], []⟩
  | _ => ⟨[⟨.fresh, true⟩, ⟨.pure, false⟩], [(0, .v 0), (1, .v 1), (2, .fn (.func 92) [] [])], []⟩
def w91_0T0 : Tree :=
  .bind (.len false) [.v 1] <|
  .callM 89 m89_0 [.v 0, .v 2] <|
  .bind (.len false) [.v 1] <|
  .jump 1 [.v 3, .v 1, .v 4, .c (.int .i64 0)]
def w91_0T1 : Tree :=
  .bind (.bin .lss 3 (.tmp 15) (.tmp 14)) [.v 3, .v 2] <|
  .ite (.v 4) (
    .bind .inr [.v 1, .v 3] <|
    .bind (.elem 1 false 1 0) [.v 1, .v 3] <|
    .callM 92 m92_0 [.v 0, .v 6] <|
    .bind (.bin .add 3 (.tmp 15) (.const (.int .i64 1))) [.v 3, .c (.int .i64 1)] <|
    .jump 1 [.v 7, .v 1, .v 2, .v 8]) (
    .ret [.v 0])
def w91_0Ts : Nat → Tree
  | 0 => w91_0T0
  | 1 => w91_0T1
  | _ => .fail

def w93_0P : Nat → Pat
  | 1 => ⟨[⟨.fresh, true⟩, ⟨.pure, false⟩, ⟨.pure, true⟩, ⟨.pure, true⟩], [(0, .v 0), (2, .fn (.func 89) [] []), (13, .v 1), (14, .v 2), (15, .v 3)], []⟩
  | _ => ⟨[⟨.fresh, true⟩, ⟨.pure, false⟩], [(0, .v 0), (1, .v 1), (2, .fn (.func 89) [] [])], []⟩
def w93_0T0 : Tree :=
  .bind (.len false) [.v 1] <|
  .callM 89 m89_0 [.v 0, .v 2] <|
  .bind (.len false) [.v 1] <|
  .jump 1 [.v 3, .v 1, .v 4, .c (.int .i64 0)]
def w93_0T1 : Tree :=
  .bind (.bin .lss 3 (.tmp 15) (.tmp 14)) [.v 3, .v 2] <|
  .ite (.v 4) (
    .bind .inr [.v 1, .v 3] <|
    .bind (.elem 1 false 1 0) [.v 1, .v 3] <|
    .callM 89 m89_0 [.v 0, .v 6] <|
    .bind (.bin .add 3 (.tmp 15) (.const (.int .i64 1))) [.v 3, .c (.int .i64 1)] <|
    .jump 1 [.v 7, .v 1, .v 2, .v 8]) (
    .ret [.v 0])
def w93_0Ts : Nat → Tree
  | 0 => w93_0T0
  | 1 => w93_0T1
  | _ => .fail

def w50_0P : Nat → Pat
  | 1 => ⟨[⟨.pure, false⟩, ⟨.pure, true⟩, ⟨.pure, true⟩, ⟨.fresh, true⟩], [(0, .loc 0 0), (12, .v 0), (13, .v 1), (14, .v 2)], [some (.cells [.v 3])]⟩
  | _ => ⟨[⟨.pure, false⟩, ⟨.fresh, true⟩], [(0, .loc 0 0), (1, .v 0)], [some (.cells [.v 1])]⟩
def w50_0T0 : Tree :=
  .bind (.len false) [.v 0] <|
  .callM 19 m19_0 [.v 2, .v 1] <|
  .bind (.len false) [.v 0] <|
  .jump 1 [.v 0, .v 4, .c (.int .i64 0), .v 3]
def w50_0T1 : Tree :=
  .bind (.bin .lss 3 (.tmp 14) (.tmp 13)) [.v 2, .v 1] <|
  .ite (.v 4) (
    .bind .inr [.v 0, .v 2] <|
    .bind (.elem 2 true 2 0) [.v 0, .v 2] <|
    .bind (.chk true 2) [.v 6] <|
    .bind (.fld false 1 0) [.v 7] <|
    .callM 19 m19_0 [.v 8, .v 3] <|
    .bind (.fld false 1 1) [.v 7] <|
    .callM 19 m19_0 [.v 10, .v 9] <|
    .bind (.bin .add 3 (.tmp 14) (.const (.int .i64 1))) [.v 2, .c (.int .i64 1)] <|
    .jump 1 [.v 0, .v 1, .v 12, .v 11]) (
    .ret [.v 3])
def w50_0Ts : Nat → Tree
  | 0 => w50_0T0
  | 1 => w50_0T1
  | _ => .fail

def w51_0P : Nat → Pat
  | _ => ⟨[⟨.pure, false⟩, ⟨.fresh, true⟩], [(0, .loc 0 0), (1, .v 0)], [some (.cells [.v 1])]⟩
def w51_0T0 : Tree :=
  .ite (.v 0) (
    .callM 19 m19_0 [.c (.int .i64 1), .v 1] <|
    .ret [.v 2]) (
    .callM 19 m19_0 [.c (.int .i64 0), .v 1] <|
    .ret [.v 2])
def w51_0Ts : Nat → Tree
  | 0 => w51_0T0
  | _ => .fail

def w92_0P : Nat → Pat
  | _ => ⟨[⟨.fresh, true⟩, ⟨.pure, false⟩], [(0, .v 0), (1, .v 1)], []⟩
def w92_0T0 : Tree :=
  .bind (.chk false 1) [.v 1] <|
  .bind (.lit 5 1) [.v 1] <|
  .bind (.app 5 1 1) [.v 0, .v 3] <|
  .ret [.v 4]
def w92_0Ts : Nat → Tree
  | 0 => w92_0T0
  | _ => .fail

theorem allS : (rootT EE (fun k S => jumpS (Nat.max Tryz.f5.ntmps 1) (u5P k) k S) Tryz.f5 1,
  headsT EE (fun k => (u5P k).st (Nat.max Tryz.f5.ntmps 1)) (fun k S => jumpS (Nat.max Tryz.f5.ntmps 1) (u5P k) k S) 1 (bodyOf Tryz.f5) (endK EE Tryz.f5.results.toList),
  (Tryz.f5.name == "runtime.NumGoroutine" || !regsOk (bodyOf Tryz.f5)),
  rootT EE (fun k S => jumpS (Nat.max Tryz.f7.ntmps 1) (u7P k) k S) Tryz.f7 1,
  headsT EE (fun k => (u7P k).st (Nat.max Tryz.f7.ntmps 1)) (fun k S => jumpS (Nat.max Tryz.f7.ntmps 1) (u7P k) k S) 1 (bodyOf Tryz.f7) (endK EE Tryz.f7.results.toList),
  (Tryz.f7.name == "runtime.NumGoroutine" || !regsOk (bodyOf Tryz.f7)),
  rootT EE (fun k S => jumpS (Nat.max Tryz.f9.ntmps 1) (u9P k) k S) Tryz.f9 1,
  headsT EE (fun k => (u9P k).st (Nat.max Tryz.f9.ntmps 1)) (fun k S => jumpS (Nat.max Tryz.f9.ntmps 1) (u9P k) k S) 1 (bodyOf Tryz.f9) (endK EE Tryz.f9.results.toList),
  (Tryz.f9.name == "runtime.NumGoroutine" || !regsOk (bodyOf Tryz.f9)),
  rootT EE (fun k S => jumpS (Nat.max Tryz.f49.ntmps 2) (u49P k) k S) Tryz.f49 2,
  headsT EE (fun k => (u49P k).st (Nat.max Tryz.f49.ntmps 2)) (fun k S => jumpS (Nat.max Tryz.f49.ntmps 2) (u49P k) k S) 1 (bodyOf Tryz.f49) (endK EE Tryz.f49.results.toList),
  (Tryz.f49.name == "runtime.NumGoroutine" || !regsOk (bodyOf Tryz.f49)),
  rootT EE (fun k S => jumpS (Nat.max Tryz.f57.ntmps 2) (u57P k) k S) Tryz.f57 2,
  headsT EE (fun k => (u57P k).st (Nat.max Tryz.f57.ntmps 2)) (fun k S => jumpS (Nat.max Tryz.f57.ntmps 2) (u57P k) k S) 1 (bodyOf Tryz.f57) (endK EE Tryz.f57.results.toList),
  (Tryz.f57.name == "runtime.NumGoroutine" || !regsOk (bodyOf Tryz.f57)),
  rootT EE (fun k S => jumpS (Nat.max Tryz.f58.ntmps 2) (u58P k) k S) Tryz.f58 2,
  headsT EE (fun k => (u58P k).st (Nat.max Tryz.f58.ntmps 2)) (fun k S => jumpS (Nat.max Tryz.f58.ntmps 2) (u58P k) k S) 1 (bodyOf Tryz.f58) (endK EE Tryz.f58.results.toList),
  (Tryz.f58.name == "runtime.NumGoroutine" || !regsOk (bodyOf Tryz.f58)),
  rootT EE (fun k S => jumpS (Nat.max Tryz.f39.ntmps 1) (u39P k) k S) Tryz.f39 1,
  headsT EE (fun k => (u39P k).st (Nat.max Tryz.f39.ntmps 1)) (fun k S => jumpS (Nat.max Tryz.f39.ntmps 1) (u39P k) k S) 1 (bodyOf Tryz.f39) (endK EE Tryz.f39.results.toList),
  (Tryz.f39.name == "runtime.NumGoroutine" || !regsOk (bodyOf Tryz.f39)),
  rootT EE (fun k S => jumpS (Nat.max Tryz.f59.ntmps 2) (u59P k) k S) Tryz.f59 2,
  headsT EE (fun k => (u59P k).st (Nat.max Tryz.f59.ntmps 2)) (fun k S => jumpS (Nat.max Tryz.f59.ntmps 2) (u59P k) k S) 1 (bodyOf Tryz.f59) (endK EE Tryz.f59.results.toList),
  (Tryz.f59.name == "runtime.NumGoroutine" || !regsOk (bodyOf Tryz.f59)),
  rootM EE (fun k S => jumpS (Nat.max Tryz.f17.ntmps m17_0.n) (w17_0P k) k S) Tryz.f17 m17_0,
  headsT EE (fun k => (w17_0P k).st (Nat.max Tryz.f17.ntmps m17_0.n)) (fun k S => jumpS (Nat.max Tryz.f17.ntmps m17_0.n) (w17_0P k) k S) 1 (bodyOf Tryz.f17) (endM EE m17_0 Tryz.f17.results.toList),
  (Tryz.f17.name == "runtime.NumGoroutine" || !regsOk (bodyOf Tryz.f17)),
  rootM EE (fun k S => jumpS (Nat.max Tryz.f18.ntmps m18_0.n) (w18_0P k) k S) Tryz.f18 m18_0,
  headsT EE (fun k => (w18_0P k).st (Nat.max Tryz.f18.ntmps m18_0.n)) (fun k S => jumpS (Nat.max Tryz.f18.ntmps m18_0.n) (w18_0P k) k S) 1 (bodyOf Tryz.f18) (endM EE m18_0 Tryz.f18.results.toList),
  (Tryz.f18.name == "runtime.NumGoroutine" || !regsOk (bodyOf Tryz.f18)),
  rootM EE (fun k S => jumpS (Nat.max Tryz.f19.ntmps m19_0.n) (w19_0P k) k S) Tryz.f19 m19_0,
  headsT EE (fun k => (w19_0P k).st (Nat.max Tryz.f19.ntmps m19_0.n)) (fun k S => jumpS (Nat.max Tryz.f19.ntmps m19_0.n) (w19_0P k) k S) 1 (bodyOf Tryz.f19) (endM EE m19_0 Tryz.f19.results.toList),
  (Tryz.f19.name == "runtime.NumGoroutine" || !regsOk (bodyOf Tryz.f19)),
  rootM EE (fun k S => jumpS (Nat.max Tryz.f20.ntmps m20_0.n) (w20_0P k) k S) Tryz.f20 m20_0,
  headsT EE (fun k => (w20_0P k).st (Nat.max Tryz.f20.ntmps m20_0.n)) (fun k S => jumpS (Nat.max Tryz.f20.ntmps m20_0.n) (w20_0P k) k S) 1 (bodyOf Tryz.f20) (endM EE m20_0 Tryz.f20.results.toList),
  (Tryz.f20.name == "runtime.NumGoroutine" || !regsOk (bodyOf Tryz.f20)),
  rootM EE (fun k S => jumpS (Nat.max Tryz.f21.ntmps m21_0.n) (w21_0P k) k S) Tryz.f21 m21_0,
  headsT EE (fun k => (w21_0P k).st (Nat.max Tryz.f21.ntmps m21_0.n)) (fun k S => jumpS (Nat.max Tryz.f21.ntmps m21_0.n) (w21_0P k) k S) 1 (bodyOf Tryz.f21) (endM EE m21_0 Tryz.f21.results.toList),
  (Tryz.f21.name == "runtime.NumGoroutine" || !regsOk (bodyOf Tryz.f21)),
  rootM EE (fun k S => jumpS (Nat.max Tryz.f22.ntmps m22_0.n) (w22_0P k) k S) Tryz.f22 m22_0,
  headsT EE (fun k => (w22_0P k).st (Nat.max Tryz.f22.ntmps m22_0.n)) (fun k S => jumpS (Nat.max Tryz.f22.ntmps m22_0.n) (w22_0P k) k S) 1 (bodyOf Tryz.f22) (endM EE m22_0 Tryz.f22.results.toList),
  (Tryz.f22.name == "runtime.NumGoroutine" || !regsOk (bodyOf Tryz.f22)),
  rootM EE (fun k S => jumpS (Nat.max Tryz.f23.ntmps m23_0.n) (w23_0P k) k S) Tryz.f23 m23_0,
  headsT EE (fun k => (w23_0P k).st (Nat.max Tryz.f23.ntmps m23_0.n)) (fun k S => jumpS (Nat.max Tryz.f23.ntmps m23_0.n) (w23_0P k) k S) 1 (bodyOf Tryz.f23) (endM EE m23_0 Tryz.f23.results.toList),
  (Tryz.f23.name == "runtime.NumGoroutine" || !regsOk (bodyOf Tryz.f23)),
  rootM EE (fun k S => jumpS (Nat.max Tryz.f31.ntmps m31_0.n) (w31_0P k) k S) Tryz.f31 m31_0,
  headsT EE (fun k => (w31_0P k).st (Nat.max Tryz.f31.ntmps m31_0.n)) (fun k S => jumpS (Nat.max Tryz.f31.ntmps m31_0.n) (w31_0P k) k S) 1 (bodyOf Tryz.f31) (endM EE m31_0 Tryz.f31.results.toList),
  (Tryz.f31.name == "runtime.NumGoroutine" || !regsOk (bodyOf Tryz.f31)),
  rootM EE (fun k S => jumpS (Nat.max Tryz.f32.ntmps m32_0.n) (w32_0P k) k S) Tryz.f32 m32_0,
  headsT EE (fun k => (w32_0P k).st (Nat.max Tryz.f32.ntmps m32_0.n)) (fun k S => jumpS (Nat.max Tryz.f32.ntmps m32_0.n) (w32_0P k) k S) 1 (bodyOf Tryz.f32) (endM EE m32_0 Tryz.f32.results.toList),
  (Tryz.f32.name == "runtime.NumGoroutine" || !regsOk (bodyOf Tryz.f32)),
  rootM EE (fun k S => jumpS (Nat.max Tryz.f35.ntmps m35_0.n) (w35_0P k) k S) Tryz.f35 m35_0,
  headsT EE (fun k => (w35_0P k).st (Nat.max Tryz.f35.ntmps m35_0.n)) (fun k S => jumpS (Nat.max Tryz.f35.ntmps m35_0.n) (w35_0P k) k S) 1 (bodyOf Tryz.f35) (endM EE m35_0 Tryz.f35.results.toList),
  (Tryz.f35.name == "runtime.NumGoroutine" || !regsOk (bodyOf Tryz.f35)),
  rootM EE (fun k S => jumpS (Nat.max Tryz.f90.ntmps m90_0.n) (w90_0P k) k S) Tryz.f90 m90_0,
  headsT EE (fun k => (w90_0P k).st (Nat.max Tryz.f90.ntmps m90_0.n)) (fun k S => jumpS (Nat.max Tryz.f90.ntmps m90_0.n) (w90_0P k) k S) 1 (bodyOf Tryz.f90) (endM EE m90_0 Tryz.f90.results.toList),
  (Tryz.f90.name == "runtime.NumGoroutine" || !regsOk (bodyOf Tryz.f90)),
  rootM EE (fun k S => jumpS (Nat.max Tryz.f89.ntmps m89_0.n) (w89_0P k) k S) Tryz.f89 m89_0,
  headsT EE (fun k => (w89_0P k).st (Nat.max Tryz.f89.ntmps m89_0.n)) (fun k S => jumpS (Nat.max Tryz.f89.ntmps m89_0.n) (w89_0P k) k S) 1 (bodyOf Tryz.f89) (endM EE m89_0 Tryz.f89.results.toList),
  (Tryz.f89.name == "runtime.NumGoroutine" || !regsOk (bodyOf Tryz.f89)),
  rootM EE (fun k S => jumpS (Nat.max Tryz.f91.ntmps m91_0.n) (w91_0P k) k S) Tryz.f91 m91_0,
  headsT EE (fun k => (w91_0P k).st (Nat.max Tryz.f91.ntmps m91_0.n)) (fun k S => jumpS (Nat.max Tryz.f91.ntmps m91_0.n) (w91_0P k) k S) 1 (bodyOf Tryz.f91) (endM EE m91_0 Tryz.f91.results.toList),
  (Tryz.f91.name == "runtime.NumGoroutine" || !regsOk (bodyOf Tryz.f91)),
  rootM EE (fun k S => jumpS (Nat.max Tryz.f93.ntmps m93_0.n) (w93_0P k) k S) Tryz.f93 m93_0,
  headsT EE (fun k => (w93_0P k).st (Nat.max Tryz.f93.ntmps m93_0.n)) (fun k S => jumpS (Nat.max Tryz.f93.ntmps m93_0.n) (w93_0P k) k S) 1 (bodyOf Tryz.f93) (endM EE m93_0 Tryz.f93.results.toList),
  (Tryz.f93.name == "runtime.NumGoroutine" || !regsOk (bodyOf Tryz.f93)),
  rootM EE (fun k S => jumpS (Nat.max Tryz.f50.ntmps m50_0.n) (w50_0P k) k S) Tryz.f50 m50_0,
  headsT EE (fun k => (w50_0P k).st (Nat.max Tryz.f50.ntmps m50_0.n)) (fun k S => jumpS (Nat.max Tryz.f50.ntmps m50_0.n) (w50_0P k) k S) 1 (bodyOf Tryz.f50) (endM EE m50_0 Tryz.f50.results.toList),
  (Tryz.f50.name == "runtime.NumGoroutine" || !regsOk (bodyOf Tryz.f50)),
  rootM EE (fun k S => jumpS (Nat.max Tryz.f51.ntmps m51_0.n) (w51_0P k) k S) Tryz.f51 m51_0,
  headsT EE (fun k => (w51_0P k).st (Nat.max Tryz.f51.ntmps m51_0.n)) (fun k S => jumpS (Nat.max Tryz.f51.ntmps m51_0.n) (w51_0P k) k S) 1 (bodyOf Tryz.f51) (endM EE m51_0 Tryz.f51.results.toList),
  (Tryz.f51.name == "runtime.NumGoroutine" || !regsOk (bodyOf Tryz.f51)),
  rootM EE (fun k S => jumpS (Nat.max Tryz.f92.ntmps m92_0.n) (w92_0P k) k S) Tryz.f92 m92_0,
  headsT EE (fun k => (w92_0P k).st (Nat.max Tryz.f92.ntmps m92_0.n)) (fun k S => jumpS (Nat.max Tryz.f92.ntmps m92_0.n) (w92_0P k) k S) 1 (bodyOf Tryz.f92) (endM EE m92_0 Tryz.f92.results.toList),
  (Tryz.f92.name == "runtime.NumGoroutine" || !regsOk (bodyOf Tryz.f92))) =
  (u5T0, [(1, u5T1), (2, u5T2)], false, u7T0, [(1, u7T1), (2, u7T2)], false, u9T0, [], false, u49T0, [], false, u57T0, [], false, u58T0, [], false, u39T0, [], false, u59T0, [(1, u59T1)], false, w17_0T0, [(1, w17_0T1)], false, w18_0T0, [(1, w18_0T1), (2, w18_0T2), (3, w18_0T3)], false, w19_0T0, [], false, w20_0T0, [], false, w21_0T0, [(1, w21_0T1)], false, w22_0T0, [(1, w22_0T1), (2, w22_0T2), (3, w22_0T3)], false, w23_0T0, [], false, w31_0T0, [], false, w32_0T0, [], false, w35_0T0, [(1, w35_0T1)], false, w90_0T0, [], false, w89_0T0, [(1, w89_0T1)], false, w91_0T0, [(1, w91_0T1)], false, w93_0T0, [(1, w93_0T1)], false, w50_0T0, [(1, w50_0T1)], false, w51_0T0, [], false, w92_0T0, [], false) := by kernel_rfl

theorem u5 {ds : List D} {d : D} (hn : ds.length = 1) (h : Goes EE (Holds EE) u5Ts 0 ds d) : Holds EE 5 ds d :=
  holds_of he (envFunc (c := bodyOf Tryz.f5) Tryz.func5 rfl ((Prod.mk.inj (Prod.mk.inj (Prod.mk.inj allS).2).2).1)) (c := bodyOf Tryz.f5) rfl hn ((Prod.mk.inj allS).1) (by rw [(Prod.mk.inj (Prod.mk.inj allS).2).1]; exact tabC rfl <| tabC rfl <| tabN) h

theorem u7 {ds : List D} {d : D} (hn : ds.length = 1) (h : Goes EE (Holds EE) u7Ts 0 ds d) : Holds EE 7 ds d :=
  holds_of he (envFunc (c := bodyOf Tryz.f7) Tryz.func7 rfl ((Prod.mk.inj (Prod.mk.inj (Prod.mk.inj (Prod.mk.inj (Prod.mk.inj (Prod.mk.inj allS).2).2).2).2).2).1)) (c := bodyOf Tryz.f7) rfl hn ((Prod.mk.inj (Prod.mk.inj (Prod.mk.inj (Prod.mk.inj allS).2).2).2).1) (by rw [(Prod.mk.inj (Prod.mk.inj (Prod.mk.inj (Prod.mk.inj (Prod.mk.inj allS).2).2).2).2).1]; exact tabC rfl <| tabC rfl <| tabN) h

theorem u9 {ds : List D} {d : D} (hn : ds.length = 1) (h : Goes EE (Holds EE) u9Ts 0 ds d) : Holds EE 9 ds d :=
  holds_of he (envFunc (c := bodyOf Tryz.f9) Tryz.func9 rfl ((Prod.mk.inj (Prod.mk.inj (Prod.mk.inj (Prod.mk.inj (Prod.mk.inj (Prod.mk.inj (Prod.mk.inj (Prod.mk.inj (Prod.mk.inj allS).2).2).2).2).2).2).2).2).1)) (c := bodyOf Tryz.f9) rfl hn ((Prod.mk.inj (Prod.mk.inj (Prod.mk.inj (Prod.mk.inj (Prod.mk.inj (Prod.mk.inj (Prod.mk.inj allS).2).2).2).2).2).2).1) (by rw [(Prod.mk.inj (Prod.mk.inj (Prod.mk.inj (Prod.mk.inj (Prod.mk.inj (Prod.mk.inj (Prod.mk.inj (Prod.mk.inj allS).2).2).2).2).2).2).2).1]; exact tabN) h

theorem u49 {ds : List D} {d : D} (hn : ds.length = 2) (h : Goes EE (Holds EE) u49Ts 0 ds d) : Holds EE 49 ds d :=
  holds_of he (envFunc (c := bodyOf Tryz.f49) Tryz.func49 rfl ((Prod.mk.inj (Prod.mk.inj (Prod.mk.inj (Prod.mk.inj (Prod.mk.inj (Prod.mk.inj (Prod.mk.inj (Prod.mk.inj (Prod.mk.inj (Prod.mk.inj (Prod.mk.inj (Prod.mk.inj allS).2).2).2).2).2).2).2).2).2).2).2).1)) (c := bodyOf Tryz.f49) rfl hn ((Prod.mk.inj (Prod.mk.inj (Prod.mk.inj (Prod.mk.inj (Prod.mk.inj (Prod.mk.inj (Prod.mk.inj (Prod.mk.inj (Prod.mk.inj (Prod.mk.inj allS).2).2).2).2).2).2).2).2).2).1) (by rw [(Prod.mk.inj (Prod.mk.inj (Prod.mk.inj (Prod.mk.inj (Prod.mk.inj (Prod.mk.inj (Prod.mk.inj (Prod.mk.inj (Prod.mk.inj (Prod.mk.inj (Prod.mk.inj allS).2).2).2).2).2).2).2).2).2).2).1]; exact tabN) h

theorem u57 {ds : List D} {d : D} (hn : ds.length = 2) (h : Goes EE (Holds EE) u57Ts 0 ds d) : Holds EE 57 ds d :=
  holds_of he (envFunc (c := bodyOf Tryz.f57) Tryz.func57 rfl ((Prod.mk.inj (Prod.mk.inj (Prod.mk.inj (Prod.mk.inj (Prod.mk.inj (Prod.mk.inj (Prod.mk.inj (Prod.mk.inj (Prod.mk.inj (Prod.mk.inj (Prod.mk.inj (Prod.mk.inj (Prod.mk.inj (Prod.mk.inj (Prod.mk.inj allS).2).2).2).2).2).2).2).2).2).2).2).2).2).2).1)) (c := bodyOf Tryz.f57) rfl hn ((Prod.mk.inj (Prod.mk.inj (Prod.mk.inj (Prod.mk.inj (Prod.mk.inj (Prod.mk.inj (Prod.mk.inj (Prod.mk.inj (Prod.mk.inj (Prod.mk.inj (Prod.mk.inj (Prod.mk.inj (Prod.mk.inj allS).2).2).2).2).2).2).2).2).2).2).2).2).1) (by rw [(Prod.mk.inj (Prod.mk.inj (Prod.mk.inj (Prod.mk.inj (Prod.mk.inj (Prod.mk.inj (Prod.mk.inj (Prod.mk.inj (Prod.mk.inj (Prod.mk.inj (Prod.mk.inj (Prod.mk.inj (Prod.mk.inj (Prod.mk.inj allS).2).2).2).2).2).2).2).2).2).2).2).2).2).1]; exact tabN) h

theorem u58 {ds : List D} {d : D} (hn : ds.length = 2) (h : Goes EE (Holds EE) u58Ts 0 ds d) : Holds EE 58 ds d :=
  holds_of he (envFunc (c := bodyOf Tryz.f58) Tryz.func58 rfl ((Prod.mk.inj (Prod.mk.inj (Prod.mk.inj (Prod.mk.inj (Prod.mk.inj (Prod.mk.inj (Prod.mk.inj (Prod.mk.inj (Prod.mk.inj (Prod.mk.inj (Prod.mk.inj (Prod.mk.inj (Prod.mk.inj (Prod.mk.inj (Prod.mk.inj (Prod.mk.inj (Prod.mk.inj (Prod.mk.inj allS).2).2).2).2).2).2).2).2).2).2).2).2).2).2).2).2).2).1)) (c := bodyOf Tryz.f58) rfl hn ((Prod.mk.inj (Prod.mk.inj (Prod.mk.inj (Prod.mk.inj (Prod.mk.inj (Prod.mk.inj (Prod.mk.inj (Prod.mk.inj (Prod.mk.inj (Prod.mk.inj (Prod.mk.inj (Prod.mk.inj (Prod.mk.inj (Prod.mk.inj (Prod.mk.inj (Prod.mk.inj allS).2).2).2).2).2).2).2).2).2).2).2).2).2).2).2).1) (by rw [(Prod.mk.inj (Prod.mk.inj (Prod.mk.inj (Prod.mk.inj (Prod.mk.inj (Prod.mk.inj (Prod.mk.inj (Prod.mk.inj (Prod.mk.inj (Prod.mk.inj (Prod.mk.inj (Prod.mk.inj (Prod.mk.inj (Prod.mk.inj (Prod.mk.inj (Prod.mk.inj (Prod.mk.inj allS).2).2).2).2).2).2).2).2).2).2).2).2).2).2).2).2).1]; exact tabN) h

theorem u39 {ds : List D} {d : D} (hn : ds.length = 1) (h : Goes EE (Holds EE) u39Ts 0 ds d) : Holds EE 39 ds d :=
  holds_of he (envFunc (c := bodyOf Tryz.f39) Tryz.func39 rfl ((Prod.mk.inj (Prod.mk.inj (Prod.mk.inj (Prod.mk.inj (Prod.mk.inj (Prod.mk.inj (Prod.mk.inj (Prod.mk.inj (Prod.mk.inj (Prod.mk.inj (Prod.mk.inj (Prod.mk.inj (Prod.mk.inj (Prod.mk.inj (Prod.mk.inj (Prod.mk.inj (Prod.mk.inj (Prod.mk.inj (Prod.mk.inj (Prod.mk.inj (Prod.mk.inj allS).2).2).2).2).2).2).2).2).2).2).2).2).2).2).2).2).2).2).2).2).1)) (c := bodyOf Tryz.f39) rfl hn ((Prod.mk.inj (Prod.mk.inj (Prod.mk.inj (Prod.mk.inj (Prod.mk.inj (Prod.mk.inj (Prod.mk.inj (Prod.mk.inj (Prod.mk.inj (Prod.mk.inj (Prod.mk.inj (Prod.mk.inj (Prod.mk.inj (Prod.mk.inj (Prod.mk.inj (Prod.mk.inj (Prod.mk.inj (Prod.mk.inj (Prod.mk.inj allS).2).2).2).2).2).2).2).2).2).2).2).2).2).2).2).2).2).2).1) (by rw [(Prod.mk.inj (Prod.mk.inj (Prod.mk.inj (Prod.mk.inj (Prod.mk.inj (Prod.mk.inj (Prod.mk.inj (Prod.mk.inj (Prod.mk.inj (Prod.mk.inj (Prod.mk.inj (Prod.mk.inj (Prod.mk.inj (Prod.mk.inj (Prod.mk.inj (Prod.mk.inj (Prod.mk.inj (Prod.mk.inj (Prod.mk.inj (Prod.mk.inj allS).2).2).2).2).2).2).2).2).2).2).2).2).2).2).2).2).2).2).2).1]; exact tabN) h

theorem u59 {ds : List D} {d : D} (hn : ds.length = 2) (h : Goes EE (Holds EE) u59Ts 0 ds d) : Holds EE 59 ds d :=
  holds_of he (envFunc (c := bodyOf Tryz.f59) Tryz.func59 rfl ((Prod.mk.inj (Prod.mk.inj (Prod.mk.inj (Prod.mk.inj (Prod.mk.inj (Prod.mk.inj (Prod.mk.inj (Prod.mk.inj (Prod.mk.inj (Prod.mk.inj (Prod.mk.inj (Prod.mk.inj (Prod.mk.inj (Prod.mk.inj (Prod.mk.inj (Prod.mk.inj (Prod.mk.inj (Prod.mk.inj (Prod.mk.inj (Prod.mk.inj (Prod.mk.inj (Prod.mk.inj (Prod.mk.inj (Prod.mk.inj allS).2).2).2).2).2).2).2).2).2).2).2).2).2).2).2).2).2).2).2).2).2).2).2).1)) (c := bodyOf Tryz.f59) rfl hn ((Prod.mk.inj (Prod.mk.inj (Prod.mk.inj (Prod.mk.inj (Prod.mk.inj (Prod.mk.inj (Prod.mk.inj (Prod.mk.inj (Prod.mk.inj (Prod.mk.inj (Prod.mk.inj (Prod.mk.inj (Prod.mk.inj (Prod.mk.inj (Prod.mk.inj (Prod.mk.inj (Prod.mk.inj (Prod.mk.inj (Prod.mk.inj (Prod.mk.inj (Prod.mk.inj (Prod.mk.inj allS).2).2).2).2).2).2).2).2).2).2).2).2).2).2).2).2).2).2).2).2).2).1) (by rw [(Prod.mk.inj (Prod.mk.inj (Prod.mk.inj (Prod.mk.inj (Prod.mk.inj (Prod.mk.inj (Prod.mk.inj (Prod.mk.inj (Prod.mk.inj (Prod.mk.inj (Prod.mk.inj (Prod.mk.inj (Prod.mk.inj (Prod.mk.inj (Prod.mk.inj (Prod.mk.inj (Prod.mk.inj (Prod.mk.inj (Prod.mk.inj (Prod.mk.inj (Prod.mk.inj (Prod.mk.inj (Prod.mk.inj allS).2).2).2).2).2).2).2).2).2).2).2).2).2).2).2).2).2).2).2).2).2).2).1]; exact tabC rfl <| tabN) h

theorem w17_0 {ds : List D} {d : D} (h : Goes EE (Holds EE) w17_0Ts 0 ds d) (hd : ∃ ds', d = retD ds' ∧ ds'.length = 1) : Holds EE (Nat.add bigN 17) (.mode m17_0 :: ds) d :=
  holdsM_of he (envFunc (c := bodyOf Tryz.f17) Tryz.func17 rfl ((Prod.mk.inj (Prod.mk.inj (Prod.mk.inj (Prod.mk.inj (Prod.mk.inj (Prod.mk.inj (Prod.mk.inj (Prod.mk.inj (Prod.mk.inj (Prod.mk.inj (Prod.mk.inj (Prod.mk.inj (Prod.mk.inj (Prod.mk.inj (Prod.mk.inj (Prod.mk.inj (Prod.mk.inj (Prod.mk.inj (Prod.mk.inj (Prod.mk.inj (Prod.mk.inj (Prod.mk.inj (Prod.mk.inj (Prod.mk.inj (Prod.mk.inj (Prod.mk.inj (Prod.mk.inj allS).2).2).2).2).2).2).2).2).2).2).2).2).2).2).2).2).2).2).2).2).2).2).2).2).2).2).1)) (c := bodyOf Tryz.f17) rfl (m := m17_0) (by decide +kernel) (fun k => by unfold w17_0P; split <;> decide) ((Prod.mk.inj (Prod.mk.inj (Prod.mk.inj (Prod.mk.inj (Prod.mk.inj (Prod.mk.inj (Prod.mk.inj (Prod.mk.inj (Prod.mk.inj (Prod.mk.inj (Prod.mk.inj (Prod.mk.inj (Prod.mk.inj (Prod.mk.inj (Prod.mk.inj (Prod.mk.inj (Prod.mk.inj (Prod.mk.inj (Prod.mk.inj (Prod.mk.inj (Prod.mk.inj (Prod.mk.inj (Prod.mk.inj (Prod.mk.inj (Prod.mk.inj allS).2).2).2).2).2).2).2).2).2).2).2).2).2).2).2).2).2).2).2).2).2).2).2).2).1) (by rw [(Prod.mk.inj (Prod.mk.inj (Prod.mk.inj (Prod.mk.inj (Prod.mk.inj (Prod.mk.inj (Prod.mk.inj (Prod.mk.inj (Prod.mk.inj (Prod.mk.inj (Prod.mk.inj (Prod.mk.inj (Prod.mk.inj (Prod.mk.inj (Prod.mk.inj (Prod.mk.inj (Prod.mk.inj (Prod.mk.inj (Prod.mk.inj (Prod.mk.inj (Prod.mk.inj (Prod.mk.inj (Prod.mk.inj (Prod.mk.inj (Prod.mk.inj (Prod.mk.inj allS).2).2).2).2).2).2).2).2).2).2).2).2).2).2).2).2).2).2).2).2).2).2).2).2).2).1]; exact tabC rfl <| tabN) h hd

theorem w18_0 {ds : List D} {d : D} (h : Goes EE (Holds EE) w18_0Ts 0 ds d) (hd : ∃ ds', d = retD ds' ∧ ds'.length = 1) : Holds EE (Nat.add bigN 18) (.mode m18_0 :: ds) d :=
  holdsM_of he (envFunc (c := bodyOf Tryz.f18) Tryz.func18 rfl ((Prod.mk.inj (Prod.mk.inj (Prod.mk.inj (Prod.mk.inj (Prod.mk.inj (Prod.mk.inj (Prod.mk.inj (Prod.mk.inj (Prod.mk.inj (Prod.mk.inj (Prod.mk.inj (Prod.mk.inj (Prod.mk.inj (Prod.mk.inj (Prod.mk.inj (Prod.mk.inj (Prod.mk.inj (Prod.mk.inj (Prod.mk.inj (Prod.mk.inj (Prod.mk.inj (Prod.mk.inj (Prod.mk.inj (Prod.mk.inj (Prod.mk.inj (Prod.mk.inj (Prod.mk.inj (Prod.mk.inj (Prod.mk.inj (Prod.mk.inj allS).2).2).2).2).2).2).2).2).2).2).2).2).2).2).2).2).2).2).2).2).2).2).2).2).2).2).2).2).2).1)) (c := bodyOf Tryz.f18) rfl (m := m18_0) (by decide +kernel) (fun k => by unfold w18_0P; split <;> decide) ((Prod.mk.inj (Prod.mk.inj (Prod.mk.inj (Prod.mk.inj (Prod.mk.inj (Prod.mk.inj (Prod.mk.inj (Prod.mk.inj (Prod.mk.inj (Prod.mk.inj (Prod.mk.inj (Prod.mk.inj (Prod.mk.inj (Prod.mk.inj (Prod.mk.inj (Prod.mk.inj (Prod.mk.inj (Prod.mk.inj (Prod.mk.inj (Prod.mk.inj (Prod.mk.inj (Prod.mk.inj (Prod.mk.inj (Prod.mk.inj (Prod.mk.inj (Prod.mk.inj (Prod.mk.inj (Prod.mk.inj allS).2).2).2).2).2).2).2).2).2).2).2).2).2).2).2).2).2).2).2).2).2).2).2).2).2).2).2).1) (by rw [(Prod.mk.inj (Prod.mk.inj (Prod.mk.inj (Prod.mk.inj (Prod.mk.inj (Prod.mk.inj (Prod.mk.inj (Prod.mk.inj (Prod.mk.inj (Prod.mk.inj (Prod.mk.inj (Prod.mk.inj (Prod.mk.inj (Prod.mk.inj (Prod.mk.inj (Prod.mk.inj (Prod.mk.inj (Prod.mk.inj (Prod.mk.inj (Prod.mk.inj (Prod.mk.inj (Prod.mk.inj (Prod.mk.inj (Prod.mk.inj (Prod.mk.inj (Prod.mk.inj (Prod.mk.inj (Prod.mk.inj (Prod.mk.inj allS).2).2).2).2).2).2).2).2).2).2).2).2).2).2).2).2).2).2).2).2).2).2).2).2).2).2).2).2).1]; exact tabC rfl <| tabC rfl <| tabC rfl <| tabN) h hd

theorem w19_0 {ds : List D} {d : D} (h : Goes EE (Holds EE) w19_0Ts 0 ds d) (hd : ∃ ds', d = retD ds' ∧ ds'.length = 1) : Holds EE (Nat.add bigN 19) (.mode m19_0 :: ds) d :=
  holdsM_of he (envFunc (c := bodyOf Tryz.f19) Tryz.func19 rfl ((Prod.mk.inj (Prod.mk.inj (Prod.mk.inj (Prod.mk.inj (Prod.mk.inj (Prod.mk.inj (Prod.mk.inj (Prod.mk.inj (Prod.mk.inj (Prod.mk.inj (Prod.mk.inj (Prod.mk.inj (Prod.mk.inj (Prod.mk.inj (Prod.mk.inj (Prod.mk.inj (Prod.mk.inj (Prod.mk.inj (Prod.mk.inj (Prod.mk.inj (Prod.mk.inj (Prod.mk.inj (Prod.mk.inj (Prod.mk.inj (Prod.mk.inj (Prod.mk.inj (Prod.mk.inj (Prod.mk.inj (Prod.mk.inj (Prod.mk.inj (Prod.mk.inj (Prod.mk.inj (Prod.mk.inj allS).2).2).2).2).2).2).2).2).2).2).2).2).2).2).2).2).2).2).2).2).2).2).2).2).2).2).2).2).2).2).2).2).1)) (c := bodyOf Tryz.f19) rfl (m := m19_0) (by decide +kernel) (fun k => by unfold w19_0P; split <;> decide) ((Prod.mk.inj (Prod.mk.inj (Prod.mk.inj (Prod.mk.inj (Prod.mk.inj (Prod.mk.inj (Prod.mk.inj (Prod.mk.inj (Prod.mk.inj (Prod.mk.inj (Prod.mk.inj (Prod.mk.inj (Prod.mk.inj (Prod.mk.inj (Prod.mk.inj (Prod.mk.inj (Prod.mk.inj (Prod.mk.inj (Prod.mk.inj (Prod.mk.inj (Prod.mk.inj (Prod.mk.inj (Prod.mk.inj (Prod.mk.inj (Prod.mk.inj (Prod.mk.inj (Prod.mk.inj (Prod.mk.inj (Prod.mk.inj (Prod.mk.inj (Prod.mk.inj allS).2).2).2).2).2).2).2).2).2).2).2).2).2).2).2).2).2).2).2).2).2).2).2).2).2).2).2).2).2).2).1) (by rw [(Prod.mk.inj (Prod.mk.inj (Prod.mk.inj (Prod.mk.inj (Prod.mk.inj (Prod.mk.inj (Prod.mk.inj (Prod.mk.inj (Prod.mk.inj (Prod.mk.inj (Prod.mk.inj (Prod.mk.inj (Prod.mk.inj (Prod.mk.inj (Prod.mk.inj (Prod.mk.inj (Prod.mk.inj (Prod.mk.inj (Prod.mk.inj (Prod.mk.inj (Prod.mk.inj (Prod.mk.inj (Prod.mk.inj (Prod.mk.inj (Prod.mk.inj (Prod.mk.inj (Prod.mk.inj (Prod.mk.inj (Prod.mk.inj (Prod.mk.inj (Prod.mk.inj (Prod.mk.inj allS).2).2).2).2).2).2).2).2).2).2).2).2).2).2).2).2).2).2).2).2).2).2).2).2).2).2).2).2).2).2).2).1]; exact tabN) h hd

theorem w20_0 {ds : List D} {d : D} (h : Goes EE (Holds EE) w20_0Ts 0 ds d) (hd : ∃ ds', d = retD ds' ∧ ds'.length = 1) : Holds EE (Nat.add bigN 20) (.mode m20_0 :: ds) d :=
  holdsM_of he (envFunc (c := bodyOf Tryz.f20) Tryz.func20 rfl ((Prod.mk.inj (Prod.mk.inj (Prod.mk.inj (Prod.mk.inj (Prod.mk.inj (Prod.mk.inj (Prod.mk.inj (Prod.mk.inj (Prod.mk.inj (Prod.mk.inj (Prod.mk.inj (Prod.mk.inj (Prod.mk.inj (Prod.mk.inj (Prod.mk.inj (Prod.mk.inj (Prod.mk.inj (Prod.mk.inj (Prod.mk.inj (Prod.mk.inj (Prod.mk.inj (Prod.mk.inj (Prod.mk.inj (Prod.mk.inj (Prod.mk.inj (Prod.mk.inj (Prod.mk.inj (Prod.mk.inj (Prod.mk.inj (Prod.mk.inj (Prod.mk.inj (Prod.mk.inj (Prod.mk.inj (Prod.mk.inj (Prod.mk.inj (Prod.mk.inj allS).2).2).2).2).2).2).2).2).2).2).2).2).2).2).2).2).2).2).2).2).2).2).2).2).2).2).2).2).2).2).2).2).2).2).2).1)) (c := bodyOf Tryz.f20) rfl (m := m20_0) (by decide +kernel) (fun k => by unfold w20_0P; split <;> decide) ((Prod.mk.inj (Prod.mk.inj (Prod.mk.inj (Prod.mk.inj (Prod.mk.inj (Prod.mk.inj (Prod.mk.inj (Prod.mk.inj (Prod.mk.inj (Prod.mk.inj (Prod.mk.inj (Prod.mk.inj (Prod.mk.inj (Prod.mk.inj (Prod.mk.inj (Prod.mk.inj (Prod.mk.inj (Prod.mk.inj (Prod.mk.inj (Prod.mk.inj (Prod.mk.inj (Prod.mk.inj (Prod.mk.inj (Prod.mk.inj (Prod.mk.inj (Prod.mk.inj (Prod.mk.inj (Prod.mk.inj (Prod.mk.inj (Prod.mk.inj (Prod.mk.inj (Prod.mk.inj (Prod.mk.inj (Prod.mk.inj allS).2).2).2).2).2).2).2).2).2).2).2).2).2).2).2).2).2).2).2).2).2).2).2).2).2).2).2).2).2).2).2).2).2).1) (by rw [(Prod.mk.inj (Prod.mk.inj (Prod.mk.inj (Prod.mk.inj (Prod.mk.inj (Prod.mk.inj (Prod.mk.inj (Prod.mk.inj (Prod.mk.inj (Prod.mk.inj (Prod.mk.inj (Prod.mk.inj (Prod.mk.inj (Prod.mk.inj (Prod.mk.inj (Prod.mk.inj (Prod.mk.inj (Prod.mk.inj (Prod.mk.inj (Prod.mk.inj (Prod.mk.inj (Prod.mk.inj (Prod.mk.inj (Prod.mk.inj (Prod.mk.inj (Prod.mk.inj (Prod.mk.inj (Prod.mk.inj (Prod.mk.inj (Prod.mk.inj (Prod.mk.inj (Prod.mk.inj (Prod.mk.inj (Prod.mk.inj (Prod.mk.inj allS).2).2).2).2).2).2).2).2).2).2).2).2).2).2).2).2).2).2).2).2).2).2).2).2).2).2).2).2).2).2).2).2).2).2).1]; exact tabN) h hd

theorem w21_0 {ds : List D} {d : D} (h : Goes EE (Holds EE) w21_0Ts 0 ds d) (hd : ∃ ds', d = retD ds' ∧ ds'.length = 1) : Holds EE (Nat.add bigN 21) (.mode m21_0 :: ds) d :=
  holdsM_of he (envFunc (c := bodyOf Tryz.f21) Tryz.func21 rfl ((Prod.mk.inj (Prod.mk.inj (Prod.mk.inj (Prod.mk.inj (Prod.mk.inj (Prod.mk.inj (Prod.mk.inj (Prod.mk.inj (Prod.mk.inj (Prod.mk.inj (Prod.mk.inj (Prod.mk.inj (Prod.mk.inj (Prod.mk.inj (Prod.mk.inj (Prod.mk.inj (Prod.mk.inj (Prod.mk.inj (Prod.mk.inj (Prod.mk.inj (Prod.mk.inj (Prod.mk.inj (Prod.mk.inj (Prod.mk.inj (Prod.mk.inj (Prod.mk.inj (Prod.mk.inj (Prod.mk.inj (Prod.mk.inj (Prod.mk.inj (Prod.mk.inj (Prod.mk.inj (Prod.mk.inj (Prod.mk.inj (Prod.mk.inj (Prod.mk.inj (Prod.mk.inj (Prod.mk.inj (Prod.mk.inj allS).2).2).2).2).2).2).2).2).2).2).2).2).2).2).2).2).2).2).2).2).2).2).2).2).2).2).2).2).2).2).2).2).2).2).2).2).2).2).1)) (c := bodyOf Tryz.f21) rfl (m := m21_0) (by decide +kernel) (fun k => by unfold w21_0P; split <;> decide) ((Prod.mk.inj (Prod.mk.inj (Prod.mk.inj (Prod.mk.inj (Prod.mk.inj (Prod.mk.inj (Prod.mk.inj (Prod.mk.inj (Prod.mk.inj (Prod.mk.inj (Prod.mk.inj (Prod.mk.inj (Prod.mk.inj (Prod.mk.inj (Prod.mk.inj (Prod.mk.inj (Prod.mk.inj (Prod.mk.inj (Prod.mk.inj (Prod.mk.inj (Prod.mk.inj (Prod.mk.inj (Prod.mk.inj (Prod.mk.inj (Prod.mk.inj (Prod.mk.inj (Prod.mk.inj (Prod.mk.inj (Prod.mk.inj (Prod.mk.inj (Prod.mk.inj (Prod.mk.inj (Prod.mk.inj (Prod.mk.inj (Prod.mk.inj (Prod.mk.inj (Prod.mk.inj allS).2).2).2).2).2).2).2).2).2).2).2).2).2).2).2).2).2).2).2).2).2).2).2).2).2).2).2).2).2).2).2).2).2).2).2).2).1) (by rw [(Prod.mk.inj (Prod.mk.inj (Prod.mk.inj (Prod.mk.inj (Prod.mk.inj (Prod.mk.inj (Prod.mk.inj (Prod.mk.inj (Prod.mk.inj (Prod.mk.inj (Prod.mk.inj (Prod.mk.inj (Prod.mk.inj (Prod.mk.inj (Prod.mk.inj (Prod.mk.inj (Prod.mk.inj (Prod.mk.inj (Prod.mk.inj (Prod.mk.inj (Prod.mk.inj (Prod.mk.inj (Prod.mk.inj (Prod.mk.inj (Prod.mk.inj (Prod.mk.inj (Prod.mk.inj (Prod.mk.inj (Prod.mk.inj (Prod.mk.inj (Prod.mk.inj (Prod.mk.inj (Prod.mk.inj (Prod.mk.inj (Prod.mk.inj (Prod.mk.inj (Prod.mk.inj (Prod.mk.inj allS).2).2).2).2).2).2).2).2).2).2).2).2).2).2).2).2).2).2).2).2).2).2).2).2).2).2).2).2).2).2).2).2).2).2).2).2).2).1]; exact tabC rfl <| tabN) h hd

theorem w22_0 {ds : List D} {d : D} (h : Goes EE (Holds EE) w22_0Ts 0 ds d) (hd : ∃ ds', d = retD ds' ∧ ds'.length = 1) : Holds EE (Nat.add bigN 22) (.mode m22_0 :: ds) d :=
  holdsM_of he (envFunc (c := bodyOf Tryz.f22) Tryz.func22 rfl ((Prod.mk.inj (Prod.mk.inj (Prod.mk.inj (Prod.mk.inj (Prod.mk.inj (Prod.mk.inj (Prod.mk.inj (Prod.mk.inj (Prod.mk.inj (Prod.mk.inj (Prod.mk.inj (Prod.mk.inj (Prod.mk.inj (Prod.mk.inj (Prod.mk.inj (Prod.mk.inj (Prod.mk.inj (Prod.mk.inj (Prod.mk.inj (Prod.mk.inj (Prod.mk.inj (Prod.mk.inj (Prod.mk.inj (Prod.mk.inj (Prod.mk.inj (Prod.mk.inj (Prod.mk.inj (Prod.mk.inj (Prod.mk.inj (Prod.mk.inj (Prod.mk.inj (Prod.mk.inj (Prod.mk.inj (Prod.mk.inj (Prod.mk.inj (Prod.mk.inj (Prod.mk.inj (Prod.mk.inj (Prod.mk.inj (Prod.mk.inj (Prod.mk.inj (Prod.mk.inj allS).2).2).2).2).2).2).2).2).2).2).2).2).2).2).2).2).2).2).2).2).2).2).2).2).2).2).2).2).2).2).2).2).2).2).2).2).2).2).2).2).2).1)) (c := bodyOf Tryz.f22) rfl (m := m22_0) (by decide +kernel) (fun k => by unfold w22_0P; split <;> decide) ((Prod.mk.inj (Prod.mk.inj (Prod.mk.inj (Prod.mk.inj (Prod.mk.inj (Prod.mk.inj (Prod.mk.inj (Prod.mk.inj (Prod.mk.inj (Prod.mk.inj (Prod.mk.inj (Prod.mk.inj (Prod.mk.inj (Prod.mk.inj (Prod.mk.inj (Prod.mk.inj (Prod.mk.inj (Prod.mk.inj (Prod.mk.inj (Prod.mk.inj (Prod.mk.inj (Prod.mk.inj (Prod.mk.inj (Prod.mk.inj (Prod.mk.inj (Prod.mk.inj (Prod.mk.inj (Prod.mk.inj (Prod.mk.inj (Prod.mk.inj (Prod.mk.inj (Prod.mk.inj (Prod.mk.inj (Prod.mk.inj (Prod.mk.inj (Prod.mk.inj (Prod.mk.inj (Prod.mk.inj (Prod.mk.inj (Prod.mk.inj allS).2).2).2).2).2).2).2).2).2).2).2).2).2).2).2).2).2).2).2).2).2).2).2).2).2).2).2).2).2).2).2).2).2).2).2).2).2).2).2).1) (by rw [(Prod.mk.inj (Prod.mk.inj (Prod.mk.inj (Prod.mk.inj (Prod.mk.inj (Prod.mk.inj (Prod.mk.inj (Prod.mk.inj (Prod.mk.inj (Prod.mk.inj (Prod.mk.inj (Prod.mk.inj (Prod.mk.inj (Prod.mk.inj (Prod.mk.inj (Prod.mk.inj (Prod.mk.inj (Prod.mk.inj (Prod.mk.inj (Prod.mk.inj (Prod.mk.inj (Prod.mk.inj (Prod.mk.inj (Prod.mk.inj (Prod.mk.inj (Prod.mk.inj (Prod.mk.inj (Prod.mk.inj (Prod.mk.inj (Prod.mk.inj (Prod.mk.inj (Prod.mk.inj (Prod.mk.inj (Prod.mk.inj (Prod.mk.inj (Prod.mk.inj (Prod.mk.inj (Prod.mk.inj (Prod.mk.inj (Prod.mk.inj (Prod.mk.inj allS).2).2).2).2).2).2).2).2).2).2).2).2).2).2).2).2).2).2).2).2).2).2).2).2).2).2).2).2).2).2).2).2).2).2).2).2).2).2).2).2).1]; exact tabC rfl <| tabC rfl <| tabC rfl <| tabN) h hd

theorem w23_0 {ds : List D} {d : D} (h : Goes EE (Holds EE) w23_0Ts 0 ds d) (hd : ∃ ds', d = retD ds' ∧ ds'.length = 2) : Holds EE (Nat.add bigN 23) (.mode m23_0 :: ds) d :=
  holdsM_of he (envFunc (c := bodyOf Tryz.f23) Tryz.func23 rfl ((Prod.mk.inj (Prod.mk.inj (Prod.mk.inj (Prod.mk.inj (Prod.mk.inj (Prod.mk.inj (Prod.mk.inj (Prod.mk.inj (Prod.mk.inj (Prod.mk.inj (Prod.mk.inj (Prod.mk.inj (Prod.mk.inj (Prod.mk.inj (Prod.mk.inj (Prod.mk.inj (Prod.mk.inj (Prod.mk.inj (Prod.mk.inj (Prod.mk.inj (Prod.mk.inj (Prod.mk.inj (Prod.mk.inj (Prod.mk.inj (Prod.mk.inj (Prod.mk.inj (Prod.mk.inj (Prod.mk.inj (Prod.mk.inj (Prod.mk.inj (Prod.mk.inj (Prod.mk.inj (Prod.mk.inj (Prod.mk.inj (Prod.mk.inj (Prod.mk.inj (Prod.mk.inj (Prod.mk.inj (Prod.mk.inj (Prod.mk.inj (Prod.mk.inj (Prod.mk.inj (Prod.mk.inj (Prod.mk.inj (Prod.mk.inj allS).2).2).2).2).2).2).2).2).2).2).2).2).2).2).2).2).2).2).2).2).2).2).2).2).2).2).2).2).2).2).2).2).2).2).2).2).2).2).2).2).2).2).2).2).1)) (c := bodyOf Tryz.f23) rfl (m := m23_0) (by decide +kernel) (fun k => by unfold w23_0P; split <;> decide) ((Prod.mk.inj (Prod.mk.inj (Prod.mk.inj (Prod.mk.inj (Prod.mk.inj (Prod.mk.inj (Prod.mk.inj (Prod.mk.inj (Prod.mk.inj (Prod.mk.inj (Prod.mk.inj (Prod.mk.inj (Prod.mk.inj (Prod.mk.inj (Prod.mk.inj (Prod.mk.inj (Prod.mk.inj (Prod.mk.inj (Prod.mk.inj (Prod.mk.inj (Prod.mk.inj (Prod.mk.inj (Prod.mk.inj (Prod.mk.inj (Prod.mk.inj (Prod.mk.inj (Prod.mk.inj (Prod.mk.inj (Prod.mk.inj (Prod.mk.inj (Prod.mk.inj (Prod.mk.inj (Prod.mk.inj (Prod.mk.inj (Prod.mk.inj (Prod.mk.inj (Prod.mk.inj (Prod.mk.inj (Prod.mk.inj (Prod.mk.inj (Prod.mk.inj (Prod.mk.inj (Prod.mk.inj allS).2).2).2).2).2).2).2).2).2).2).2).2).2).2).2).2).2).2).2).2).2).2).2).2).2).2).2).2).2).2).2).2).2).2).2).2).2).2).2).2).2).2).1) (by rw [(Prod.mk.inj (Prod.mk.inj (Prod.mk.inj (Prod.mk.inj (Prod.mk.inj (Prod.mk.inj (Prod.mk.inj (Prod.mk.inj (Prod.mk.inj (Prod.mk.inj (Prod.mk.inj (Prod.mk.inj (Prod.mk.inj (Prod.mk.inj (Prod.mk.inj (Prod.mk.inj (Prod.mk.inj (Prod.mk.inj (Prod.mk.inj (Prod.mk.inj (Prod.mk.inj (Prod.mk.inj (Prod.mk.inj (Prod.mk.inj (Prod.mk.inj (Prod.mk.inj (Prod.mk.inj (Prod.mk.inj (Prod.mk.inj (Prod.mk.inj (Prod.mk.inj (Prod.mk.inj (Prod.mk.inj (Prod.mk.inj (Prod.mk.inj (Prod.mk.inj (Prod.mk.inj (Prod.mk.inj (Prod.mk.inj (Prod.mk.inj (Prod.mk.inj (Prod.mk.inj (Prod.mk.inj (Prod.mk.inj allS).2).2).2).2).2).2).2).2).2).2).2).2).2).2).2).2).2).2).2).2).2).2).2).2).2).2).2).2).2).2).2).2).2).2).2).2).2).2).2).2).2).2).2).1]; exact tabN) h hd

theorem w31_0 {ds : List D} {d : D} (h : Goes EE (Holds EE) w31_0Ts 0 ds d) (hd : ∃ ds', d = retD ds' ∧ ds'.length = 1) : Holds EE (Nat.add bigN 31) (.mode m31_0 :: ds) d :=
  holdsM_of he (envFunc (c := bodyOf Tryz.f31) Tryz.func31 rfl ((Prod.mk.inj (Prod.mk.inj (Prod.mk.inj (Prod.mk.inj (Prod.mk.inj (Prod.mk.inj (Prod.mk.inj (Prod.mk.inj (Prod.mk.inj (Prod.mk.inj (Prod.mk.inj (Prod.mk.inj (Prod.mk.inj (Prod.mk.inj (Prod.mk.inj (Prod.mk.inj (Prod.mk.inj (Prod.mk.inj (Prod.mk.inj (Prod.mk.inj (Prod.mk.inj (Prod.mk.inj (Prod.mk.inj (Prod.mk.inj (Prod.mk.inj (Prod.mk.inj (Prod.mk.inj (Prod.mk.inj (Prod.mk.inj (Prod.mk.inj (Prod.mk.inj (Prod.mk.inj (Prod.mk.inj (Prod.mk.inj (Prod.mk.inj (Prod.mk.inj (Prod.mk.inj (Prod.mk.inj (Prod.mk.inj (Prod.mk.inj (Prod.mk.inj (Prod.mk.inj (Prod.mk.inj (Prod.mk.inj (Prod.mk.inj (Prod.mk.inj (Prod.mk.inj (Prod.mk.inj allS).2).2).2).2).2).2).2).2).2).2).2).2).2).2).2).2).2).2).2).2).2).2).2).2).2).2).2).2).2).2).2).2).2).2).2).2).2).2).2).2).2).2).2).2).2).2).2).1)) (c := bodyOf Tryz.f31) rfl (m := m31_0) (by decide +kernel) (fun k => by unfold w31_0P; split <;> decide) ((Prod.mk.inj (Prod.mk.inj (Prod.mk.inj (Prod.mk.inj (Prod.mk.inj (Prod.mk.inj (Prod.mk.inj (Prod.mk.inj (Prod.mk.inj (Prod.mk.inj (Prod.mk.inj (Prod.mk.inj (Prod.mk.inj (Prod.mk.inj (Prod.mk.inj (Prod.mk.inj (Prod.mk.inj (Prod.mk.inj (Prod.mk.inj (Prod.mk.inj (Prod.mk.inj (Prod.mk.inj (Prod.mk.inj (Prod.mk.inj (Prod.mk.inj (Prod.mk.inj (Prod.mk.inj (Prod.mk.inj (Prod.mk.inj (Prod.mk.inj (Prod.mk.inj (Prod.mk.inj (Prod.mk.inj (Prod.mk.inj (Prod.mk.inj (Prod.mk.inj (Prod.mk.inj (Prod.mk.inj (Prod.mk.inj (Prod.mk.inj (Prod.mk.inj (Prod.mk.inj (Prod.mk.inj (Prod.mk.inj (Prod.mk.inj (Prod.mk.inj allS).2).2).2).2).2).2).2).2).2).2).2).2).2).2).2).2).2).2).2).2).2).2).2).2).2).2).2).2).2).2).2).2).2).2).2).2).2).2).2).2).2).2).2).2).2).1) (by rw [(Prod.mk.inj (Prod.mk.inj (Prod.mk.inj (Prod.mk.inj (Prod.mk.inj (Prod.mk.inj (Prod.mk.inj (Prod.mk.inj (Prod.mk.inj (Prod.mk.inj (Prod.mk.inj (Prod.mk.inj (Prod.mk.inj (Prod.mk.inj (Prod.mk.inj (Prod.mk.inj (Prod.mk.inj (Prod.mk.inj (Prod.mk.inj (Prod.mk.inj (Prod.mk.inj (Prod.mk.inj (Prod.mk.inj (Prod.mk.inj (Prod.mk.inj (Prod.mk.inj (Prod.mk.inj (Prod.mk.inj (Prod.mk.inj (Prod.mk.inj (Prod.mk.inj (Prod.mk.inj (Prod.mk.inj (Prod.mk.inj (Prod.mk.inj (Prod.mk.inj (Prod.mk.inj (Prod.mk.inj (Prod.mk.inj (Prod.mk.inj (Prod.mk.inj (Prod.mk.inj (Prod.mk.inj (Prod.mk.inj (Prod.mk.inj (Prod.mk.inj (Prod.mk.inj allS).2).2).2).2).2).2).2).2).2).2).2).2).2).2).2).2).2).2).2).2).2).2).2).2).2).2).2).2).2).2).2).2).2).2).2).2).2).2).2).2).2).2).2).2).2).2).1]; exact tabN) h hd

theorem w32_0 {ds : List D} {d : D} (h : Goes EE (Holds EE) w32_0Ts 0 ds d) (hd : ∃ ds', d = retD ds' ∧ ds'.length = 1) : Holds EE (Nat.add bigN 32) (.mode m32_0 :: ds) d :=
  holdsM_of he (envFunc (c := bodyOf Tryz.f32) Tryz.func32 rfl ((Prod.mk.inj (Prod.mk.inj (Prod.mk.inj (Prod.mk.inj (Prod.mk.inj (Prod.mk.inj (Prod.mk.inj (Prod.mk.inj (Prod.mk.inj (Prod.mk.inj (Prod.mk.inj (Prod.mk.inj (Prod.mk.inj (Prod.mk.inj (Prod.mk.inj (Prod.mk.inj (Prod.mk.inj (Prod.mk.inj (Prod.mk.inj (Prod.mk.inj (Prod.mk.inj (Prod.mk.inj (Prod.mk.inj (Prod.mk.inj (Prod.mk.inj (Prod.mk.inj (Prod.mk.inj (Prod.mk.inj (Prod.mk.inj (Prod.mk.inj (Prod.mk.inj (Prod.mk.inj (Prod.mk.inj (Prod.mk.inj (Prod.mk.inj (Prod.mk.inj (Prod.mk.inj (Prod.mk.inj (Prod.mk.inj (Prod.mk.inj (Prod.mk.inj (Prod.mk.inj (Prod.mk.inj (Prod.mk.inj (Prod.mk.inj (Prod.mk.inj (Prod.mk.inj (Prod.mk.inj (Prod.mk.inj (Prod.mk.inj (Prod.mk.inj allS).2).2).2).2).2).2).2).2).2).2).2).2).2).2).2).2).2).2).2).2).2).2).2).2).2).2).2).2).2).2).2).2).2).2).2).2).2).2).2).2).2).2).2).2).2).2).2).2).2).2).1)) (c := bodyOf Tryz.f32) rfl (m := m32_0) (by decide +kernel) (fun k => by unfold w32_0P; split <;> decide) ((Prod.mk.inj (Prod.mk.inj (Prod.mk.inj (Prod.mk.inj (Prod.mk.inj (Prod.mk.inj (Prod.mk.inj (Prod.mk.inj (Prod.mk.inj (Prod.mk.inj (Prod.mk.inj (Prod.mk.inj (Prod.mk.inj (Prod.mk.inj (Prod.mk.inj (Prod.mk.inj (Prod.mk.inj (Prod.mk.inj (Prod.mk.inj (Prod.mk.inj (Prod.mk.inj (Prod.mk.inj (Prod.mk.inj (Prod.mk.inj (Prod.mk.inj (Prod.mk.inj (Prod.mk.inj (Prod.mk.inj (Prod.mk.inj (Prod.mk.inj (Prod.mk.inj (Prod.mk.inj (Prod.mk.inj (Prod.mk.inj (Prod.mk.inj (Prod.mk.inj (Prod.mk.inj (Prod.mk.inj (Prod.mk.inj (Prod.mk.inj (Prod.mk.inj (Prod.mk.inj (Prod.mk.inj (Prod.mk.inj (Prod.mk.inj (Prod.mk.inj (Prod.mk.inj (Prod.mk.inj (Prod.mk.inj allS).2).2).2).2).2).2).2).2).2).2).2).2).2).2).2).2).2).2).2).2).2).2).2).2).2).2).2).2).2).2).2).2).2).2).2).2).2).2).2).2).2).2).2).2).2).2).2).2).1) (by rw [(Prod.mk.inj (Prod.mk.inj (Prod.mk.inj (Prod.mk.inj (Prod.mk.inj (Prod.mk.inj (Prod.mk.inj (Prod.mk.inj (Prod.mk.inj (Prod.mk.inj (Prod.mk.inj (Prod.mk.inj (Prod.mk.inj (Prod.mk.inj (Prod.mk.inj (Prod.mk.inj (Prod.mk.inj (Prod.mk.inj (Prod.mk.inj (Prod.mk.inj (Prod.mk.inj (Prod.mk.inj (Prod.mk.inj (Prod.mk.inj (Prod.mk.inj (Prod.mk.inj (Prod.mk.inj (Prod.mk.inj (Prod.mk.inj (Prod.mk.inj (Prod.mk.inj (Prod.mk.inj (Prod.mk.inj (Prod.mk.inj (Prod.mk.inj (Prod.mk.inj (Prod.mk.inj (Prod.mk.inj (Prod.mk.inj (Prod.mk.inj (Prod.mk.inj (Prod.mk.inj (Prod.mk.inj (Prod.mk.inj (Prod.mk.inj (Prod.mk.inj (Prod.mk.inj (Prod.mk.inj (Prod.mk.inj (Prod.mk.inj allS).2).2).2).2).2).2).2).2).2).2).2).2).2).2).2).2).2).2).2).2).2).2).2).2).2).2).2).2).2).2).2).2).2).2).2).2).2).2).2).2).2).2).2).2).2).2).2).2).2).1]; exact tabN) h hd

theorem w35_0 {ds : List D} {d : D} (h : Goes EE (Holds EE) w35_0Ts 0 ds d) (hd : ∃ ds', d = retD ds' ∧ ds'.length = 1) : Holds EE (Nat.add bigN 35) (.mode m35_0 :: ds) d :=
  holdsM_of he (envFunc (c := bodyOf Tryz.f35) Tryz.func35 rfl ((Prod.mk.inj (Prod.mk.inj (Prod.mk.inj (Prod.mk.inj (Prod.mk.inj (Prod.mk.inj (Prod.mk.inj (Prod.mk.inj (Prod.mk.inj (Prod.mk.inj (Prod.mk.inj (Prod.mk.inj (Prod.mk.inj (Prod.mk.inj (Prod.mk.inj (Prod.mk.inj (Prod.mk.inj (Prod.mk.inj (Prod.mk.inj (Prod.mk.inj (Prod.mk.inj (Prod.mk.inj (Prod.mk.inj (Prod.mk.inj (Prod.mk.inj (Prod.mk.inj (Prod.mk.inj (Prod.mk.inj (Prod.mk.inj (Prod.mk.inj (Prod.mk.inj (Prod.mk.inj (Prod.mk.inj (Prod.mk.inj (Prod.mk.inj (Prod.mk.inj (Prod.mk.inj (Prod.mk.inj (Prod.mk.inj (Prod.mk.inj (Prod.mk.inj (Prod.mk.inj (Prod.mk.inj (Prod.mk.inj (Prod.mk.inj (Prod.mk.inj (Prod.mk.inj (Prod.mk.inj (Prod.mk.inj (Prod.mk.inj (Prod.mk.inj (Prod.mk.inj (Prod.mk.inj (Prod.mk.inj allS).2).2).2).2).2).2).2).2).2).2).2).2).2).2).2).2).2).2).2).2).2).2).2).2).2).2).2).2).2).2).2).2).2).2).2).2).2).2).2).2).2).2).2).2).2).2).2).2).2).2).2).2).2).1)) (c := bodyOf Tryz.f35) rfl (m := m35_0) (by decide +kernel) (fun k => by unfold w35_0P; split <;> decide) ((Prod.mk.inj (Prod.mk.inj (Prod.mk.inj (Prod.mk.inj (Prod.mk.inj (Prod.mk.inj (Prod.mk.inj (Prod.mk.inj (Prod.mk.inj (Prod.mk.inj (Prod.mk.inj (Prod.mk.inj (Prod.mk.inj (Prod.mk.inj (Prod.mk.inj (Prod.mk.inj (Prod.mk.inj (Prod.mk.inj (Prod.mk.inj (Prod.mk.inj (Prod.mk.inj (Prod.mk.inj (Prod.mk.inj (Prod.mk.inj (Prod.mk.inj (Prod.mk.inj (Prod.mk.inj (Prod.mk.inj (Prod.mk.inj (Prod.mk.inj (Prod.mk.inj (Prod.mk.inj (Prod.mk.inj (Prod.mk.inj (Prod.mk.inj (Prod.mk.inj (Prod.mk.inj (Prod.mk.inj (Prod.mk.inj (Prod.mk.inj (Prod.mk.inj (Prod.mk.inj (Prod.mk.inj (Prod.mk.inj (Prod.mk.inj (Prod.mk.inj (Prod.mk.inj (Prod.mk.inj (Prod.mk.inj (Prod.mk.inj (Prod.mk.inj (Prod.mk.inj allS).2).2).2).2).2).2).2).2).2).2).2).2).2).2).2).2).2).2).2).2).2).2).2).2).2).2).2).2).2).2).2).2).2).2).2).2).2).2).2).2).2).2).2).2).2).2).2).2).2).2).2).1) (by rw [(Prod.mk.inj (Prod.mk.inj (Prod.mk.inj (Prod.mk.inj (Prod.mk.inj (Prod.mk.inj (Prod.mk.inj (Prod.mk.inj (Prod.mk.inj (Prod.mk.inj (Prod.mk.inj (Prod.mk.inj (Prod.mk.inj (Prod.mk.inj (Prod.mk.inj (Prod.mk.inj (Prod.mk.inj (Prod.mk.inj (Prod.mk.inj (Prod.mk.inj (Prod.mk.inj (Prod.mk.inj (Prod.mk.inj (Prod.mk.inj (Prod.mk.inj (Prod.mk.inj (Prod.mk.inj (Prod.mk.inj (Prod.mk.inj (Prod.mk.inj (Prod.mk.inj (Prod.mk.inj (Prod.mk.inj (Prod.mk.inj (Prod.mk.inj (Prod.mk.inj (Prod.mk.inj (Prod.mk.inj (Prod.mk.inj (Prod.mk.inj (Prod.mk.inj (Prod.mk.inj (Prod.mk.inj (Prod.mk.inj (Prod.mk.inj (Prod.mk.inj (Prod.mk.inj (Prod.mk.inj (Prod.mk.inj (Prod.mk.inj (Prod.mk.inj (Prod.mk.inj (Prod.mk.inj allS).2).2).2).2).2).2).2).2).2).2).2).2).2).2).2).2).2).2).2).2).2).2).2).2).2).2).2).2).2).2).2).2).2).2).2).2).2).2).2).2).2).2).2).2).2).2).2).2).2).2).2).2).1]; exact tabC rfl <| tabN) h hd

theorem w90_0 {ds : List D} {d : D} (h : Goes EE (Holds EE) w90_0Ts 0 ds d) (hd : ∃ ds', d = retD ds' ∧ ds'.length = 1) : Holds EE (Nat.add bigN 90) (.mode m90_0 :: ds) d :=
  holdsM_of he (envFunc (c := bodyOf Tryz.f90) Tryz.func90 rfl ((Prod.mk.inj (Prod.mk.inj (Prod.mk.inj (Prod.mk.inj (Prod.mk.inj (Prod.mk.inj (Prod.mk.inj (Prod.mk.inj (Prod.mk.inj (Prod.mk.inj (Prod.mk.inj (Prod.mk.inj (Prod.mk.inj (Prod.mk.inj (Prod.mk.inj (Prod.mk.inj (Prod.mk.inj (Prod.mk.inj (Prod.mk.inj (Prod.mk.inj (Prod.mk.inj (Prod.mk.inj (Prod.mk.inj (Prod.mk.inj (Prod.mk.inj (Prod.mk.inj (Prod.mk.inj (Prod.mk.inj (Prod.mk.inj (Prod.mk.inj (Prod.mk.inj (Prod.mk.inj (Prod.mk.inj (Prod.mk.inj (Prod.mk.inj (Prod.mk.inj (Prod.mk.inj (Prod.mk.inj (Prod.mk.inj (Prod.mk.inj (Prod.mk.inj (Prod.mk.inj (Prod.mk.inj (Prod.mk.inj (Prod.mk.inj (Prod.mk.inj (Prod.mk.inj (Prod.mk.inj (Prod.mk.inj (Prod.mk.inj (Prod.mk.inj (Prod.mk.inj (Prod.mk.inj (Prod.mk.inj (Prod.mk.inj (Prod.mk.inj (Prod.mk.inj allS).2).2).2).2).2).2).2).2).2).2).2).2).2).2).2).2).2).2).2).2).2).2).2).2).2).2).2).2).2).2).2).2).2).2).2).2).2).2).2).2).2).2).2).2).2).2).2).2).2).2).2).2).2).2).2).2).1)) (c := bodyOf Tryz.f90) rfl (m := m90_0) (by decide +kernel) (fun k => by unfold w90_0P; split <;> decide) ((Prod.mk.inj (Prod.mk.inj (Prod.mk.inj (Prod.mk.inj (Prod.mk.inj (Prod.mk.inj (Prod.mk.inj (Prod.mk.inj (Prod.mk.inj (Prod.mk.inj (Prod.mk.inj (Prod.mk.inj (Prod.mk.inj (Prod.mk.inj (Prod.mk.inj (Prod.mk.inj (Prod.mk.inj (Prod.mk.inj (Prod.mk.inj (Prod.mk.inj (Prod.mk.inj (Prod.mk.inj (Prod.mk.inj (Prod.mk.inj (Prod.mk.inj (Prod.mk.inj (Prod.mk.inj (Prod.mk.inj (Prod.mk.inj (Prod.mk.inj (Prod.mk.inj (Prod.mk.inj (Prod.mk.inj (Prod.mk.inj (Prod.mk.inj (Prod.mk.inj (Prod.mk.inj (Prod.mk.inj (Prod.mk.inj (Prod.mk.inj (Prod.mk.inj (Prod.mk.inj (Prod.mk.inj (Prod.mk.inj (Prod.mk.inj (Prod.mk.inj (Prod.mk.inj (Prod.mk.inj (Prod.mk.inj (Prod.mk.inj (Prod.mk.inj (Prod.mk.inj (Prod.mk.inj (Prod.mk.inj (Prod.mk.inj allS).2).2).2).2).2).2).2).2).2).2).2).2).2).2).2).2).2).2).2).2).2).2).2).2).2).2).2).2).2).2).2).2).2).2).2).2).2).2).2).2).2).2).2).2).2).2).2).2).2).2).2).2).2).2).1) (by rw [(Prod.mk.inj (Prod.mk.inj (Prod.mk.inj (Prod.mk.inj (Prod.mk.inj (Prod.mk.inj (Prod.mk.inj (Prod.mk.inj (Prod.mk.inj (Prod.mk.inj (Prod.mk.inj (Prod.mk.inj (Prod.mk.inj (Prod.mk.inj (Prod.mk.inj (Prod.mk.inj (Prod.mk.inj (Prod.mk.inj (Prod.mk.inj (Prod.mk.inj (Prod.mk.inj (Prod.mk.inj (Prod.mk.inj (Prod.mk.inj (Prod.mk.inj (Prod.mk.inj (Prod.mk.inj (Prod.mk.inj (Prod.mk.inj (Prod.mk.inj (Prod.mk.inj (Prod.mk.inj (Prod.mk.inj (Prod.mk.inj (Prod.mk.inj (Prod.mk.inj (Prod.mk.inj (Prod.mk.inj (Prod.mk.inj (Prod.mk.inj (Prod.mk.inj (Prod.mk.inj (Prod.mk.inj (Prod.mk.inj (Prod.mk.inj (Prod.mk.inj (Prod.mk.inj (Prod.mk.inj (Prod.mk.inj (Prod.mk.inj (Prod.mk.inj (Prod.mk.inj (Prod.mk.inj (Prod.mk.inj (Prod.mk.inj (Prod.mk.inj allS).2).2).2).2).2).2).2).2).2).2).2).2).2).2).2).2).2).2).2).2).2).2).2).2).2).2).2).2).2).2).2).2).2).2).2).2).2).2).2).2).2).2).2).2).2).2).2).2).2).2).2).2).2).2).2).1]; exact tabN) h hd

theorem w89_0 {ds : List D} {d : D} (h : Goes EE (Holds EE) w89_0Ts 0 ds d) (hd : ∃ ds', d = retD ds' ∧ ds'.length = 1) : Holds EE (Nat.add bigN 89) (.mode m89_0 :: ds) d :=
  holdsM_of he (envFunc (c := bodyOf Tryz.f89) Tryz.func89 rfl ((Prod.mk.inj (Prod.mk.inj (Prod.mk.inj (Prod.mk.inj (Prod.mk.inj (Prod.mk.inj (Prod.mk.inj (Prod.mk.inj (Prod.mk.inj (Prod.mk.inj (Prod.mk.inj (Prod.mk.inj (Prod.mk.inj (Prod.mk.inj (Prod.mk.inj (Prod.mk.inj (Prod.mk.inj (Prod.mk.inj (Prod.mk.inj (Prod.mk.inj (Prod.mk.inj (Prod.mk.inj (Prod.mk.inj (Prod.mk.inj (Prod.mk.inj (Prod.mk.inj (Prod.mk.inj (Prod.mk.inj (Prod.mk.inj (Prod.mk.inj (Prod.mk.inj (Prod.mk.inj (Prod.mk.inj (Prod.mk.inj (Prod.mk.inj (Prod.mk.inj (Prod.mk.inj (Prod.mk.inj (Prod.mk.inj (Prod.mk.inj (Prod.mk.inj (Prod.mk.inj (Prod.mk.inj (Prod.mk.inj (Prod.mk.inj (Prod.mk.inj (Prod.mk.inj (Prod.mk.inj (Prod.mk.inj (Prod.mk.inj (Prod.mk.inj (Prod.mk.inj (Prod.mk.inj (Prod.mk.inj (Prod.mk.inj (Prod.mk.inj (Prod.mk.inj (Prod.mk.inj (Prod.mk.inj (Prod.mk.inj allS).2).2).2).2).2).2).2).2).2).2).2).2).2).2).2).2).2).2).2).2).2).2).2).2).2).2).2).2).2).2).2).2).2).2).2).2).2).2).2).2).2).2).2).2).2).2).2).2).2).2).2).2).2).2).2).2).2).2).2).1)) (c := bodyOf Tryz.f89) rfl (m := m89_0) (by decide +kernel) (fun k => by unfold w89_0P; split <;> decide) ((Prod.mk.inj (Prod.mk.inj (Prod.mk.inj (Prod.mk.inj (Prod.mk.inj (Prod.mk.inj (Prod.mk.inj (Prod.mk.inj (Prod.mk.inj (Prod.mk.inj (Prod.mk.inj (Prod.mk.inj (Prod.mk.inj (Prod.mk.inj (Prod.mk.inj (Prod.mk.inj (Prod.mk.inj (Prod.mk.inj (Prod.mk.inj (Prod.mk.inj (Prod.mk.inj (Prod.mk.inj (Prod.mk.inj (Prod.mk.inj (Prod.mk.inj (Prod.mk.inj (Prod.mk.inj (Prod.mk.inj (Prod.mk.inj (Prod.mk.inj (Prod.mk.inj (Prod.mk.inj (Prod.mk.inj (Prod.mk.inj (Prod.mk.inj (Prod.mk.inj (Prod.mk.inj (Prod.mk.inj (Prod.mk.inj (Prod.mk.inj (Prod.mk.inj (Prod.mk.inj (Prod.mk.inj (Prod.mk.inj (Prod.mk.inj (Prod.mk.inj (Prod.mk.inj (Prod.mk.inj (Prod.mk.inj (Prod.mk.inj (Prod.mk.inj (Prod.mk.inj (Prod.mk.inj (Prod.mk.inj (Prod.mk.inj (Prod.mk.inj (Prod.mk.inj (Prod.mk.inj allS).2).2).2).2).2).2).2).2).2).2).2).2).2).2).2).2).2).2).2).2).2).2).2).2).2).2).2).2).2).2).2).2).2).2).2).2).2).2).2).2).2).2).2).2).2).2).2).2).2).2).2).2).2).2).2).2).2).1) (by rw [(Prod.mk.inj (Prod.mk.inj (Prod.mk.inj (Prod.mk.inj (Prod.mk.inj (Prod.mk.inj (Prod.mk.inj (Prod.mk.inj (Prod.mk.inj (Prod.mk.inj (Prod.mk.inj (Prod.mk.inj (Prod.mk.inj (Prod.mk.inj (Prod.mk.inj (Prod.mk.inj (Prod.mk.inj (Prod.mk.inj (Prod.mk.inj (Prod.mk.inj (Prod.mk.inj (Prod.mk.inj (Prod.mk.inj (Prod.mk.inj (Prod.mk.inj (Prod.mk.inj (Prod.mk.inj (Prod.mk.inj (Prod.mk.inj (Prod.mk.inj (Prod.mk.inj (Prod.mk.inj (Prod.mk.inj (Prod.mk.inj (Prod.mk.inj (Prod.mk.inj (Prod.mk.inj (Prod.mk.inj (Prod.mk.inj (Prod.mk.inj (Prod.mk.inj (Prod.mk.inj (Prod.mk.inj (Prod.mk.inj (Prod.mk.inj (Prod.mk.inj (Prod.mk.inj (Prod.mk.inj (Prod.mk.inj (Prod.mk.inj (Prod.mk.inj (Prod.mk.inj (Prod.mk.inj (Prod.mk.inj (Prod.mk.inj (Prod.mk.inj (Prod.mk.inj (Prod.mk.inj (Prod.mk.inj allS).2).2).2).2).2).2).2).2).2).2).2).2).2).2).2).2).2).2).2).2).2).2).2).2).2).2).2).2).2).2).2).2).2).2).2).2).2).2).2).2).2).2).2).2).2).2).2).2).2).2).2).2).2).2).2).2).2).2).1]; exact tabC rfl <| tabN) h hd

theorem w91_0 {ds : List D} {d : D} (h : Goes EE (Holds EE) w91_0Ts 0 ds d) (hd : ∃ ds', d = retD ds' ∧ ds'.length = 1) : Holds EE (Nat.add bigN 91) (.mode m91_0 :: ds) d :=
  holdsM_of he (envFunc (c := bodyOf Tryz.f91) Tryz.func91 rfl ((Prod.mk.inj (Prod.mk.inj (Prod.mk.inj (Prod.mk.inj (Prod.mk.inj (Prod.mk.inj (Prod.mk.inj (Prod.mk.inj (Prod.mk.inj (Prod.mk.inj (Prod.mk.inj (Prod.mk.inj (Prod.mk.inj (Prod.mk.inj (Prod.mk.inj (Prod.mk.inj (Prod.mk.inj (Prod.mk.inj (Prod.mk.inj (Prod.mk.inj (Prod.mk.inj (Prod.mk.inj (Prod.mk.inj (Prod.mk.inj (Prod.mk.inj (Prod.mk.inj (Prod.mk.inj (Prod.mk.inj (Prod.mk.inj (Prod.mk.inj (Prod.mk.inj (Prod.mk.inj (Prod.mk.inj (Prod.mk.inj (Prod.mk.inj (Prod.mk.inj (Prod.mk.inj (Prod.mk.inj (Prod.mk.inj (Prod.mk.inj (Prod.mk.inj (Prod.mk.inj (Prod.mk.inj (Prod.mk.inj (Prod.mk.inj (Prod.mk.inj (Prod.mk.inj (Prod.mk.inj (Prod.mk.inj (Prod.mk.inj (Prod.mk.inj (Prod.mk.inj (Prod.mk.inj (Prod.mk.inj (Prod.mk.inj (Prod.mk.inj (Prod.mk.inj (Prod.mk.inj (Prod.mk.inj (Prod.mk.inj (Prod.mk.inj (Prod.mk.inj (Prod.mk.inj allS).2).2).2).2).2).2).2).2).2).2).2).2).2).2).2).2).2).2).2).2).2).2).2).2).2).2).2).2).2).2).2).2).2).2).2).2).2).2).2).2).2).2).2).2).2).2).2).2).2).2).2).2).2).2).2).2).2).2).2).2).2).2).1)) (c := bodyOf Tryz.f91) rfl (m := m91_0) (by decide +kernel) (fun k => by unfold w91_0P; split <;> decide) ((Prod.mk.inj (Prod.mk.inj (Prod.mk.inj (Prod.mk.inj (Prod.mk.inj (Prod.mk.inj (Prod.mk.inj (Prod.mk.inj (Prod.mk.inj (Prod.mk.inj (Prod.mk.inj (Prod.mk.inj (Prod.mk.inj (Prod.mk.inj (Prod.mk.inj (Prod.mk.inj (Prod.mk.inj (Prod.mk.inj (Prod.mk.inj (Prod.mk.inj (Prod.mk.inj (Prod.mk.inj (Prod.mk.inj (Prod.mk.inj (Prod.mk.inj (Prod.mk.inj (Prod.mk.inj (Prod.mk.inj (Prod.mk.inj (Prod.mk.inj (Prod.mk.inj (Prod.mk.inj (Prod.mk.inj (Prod.mk.inj (Prod.mk.inj (Prod.mk.inj (Prod.mk.inj (Prod.mk.inj (Prod.mk.inj (Prod.mk.inj (Prod.mk.inj (Prod.mk.inj (Prod.mk.inj (Prod.mk.inj (Prod.mk.inj (Prod.mk.inj (Prod.mk.inj (Prod.mk.inj (Prod.mk.inj (Prod.mk.inj (Prod.mk.inj (Prod.mk.inj (Prod.mk.inj (Prod.mk.inj (Prod.mk.inj (Prod.mk.inj (Prod.mk.inj (Prod.mk.inj (Prod.mk.inj (Prod.mk.inj (Prod.mk.inj allS).2).2).2).2).2).2).2).2).2).2).2).2).2).2).2).2).2).2).2).2).2).2).2).2).2).2).2).2).2).2).2).2).2).2).2).2).2).2).2).2).2).2).2).2).2).2).2).2).2).2).2).2).2).2).2).2).2).2).2).2).1) (by rw [(Prod.mk.inj (Prod.mk.inj (Prod.mk.inj (Prod.mk.inj (Prod.mk.inj (Prod.mk.inj (Prod.mk.inj (Prod.mk.inj (Prod.mk.inj (Prod.mk.inj (Prod.mk.inj (Prod.mk.inj (Prod.mk.inj (Prod.mk.inj (Prod.mk.inj (Prod.mk.inj (Prod.mk.inj (Prod.mk.inj (Prod.mk.inj (Prod.mk.inj (Prod.mk.inj (Prod.mk.inj (Prod.mk.inj (Prod.mk.inj (Prod.mk.inj (Prod.mk.inj (Prod.mk.inj (Prod.mk.inj (Prod.mk.inj (Prod.mk.inj (Prod.mk.inj (Prod.mk.inj (Prod.mk.inj (Prod.mk.inj (Prod.mk.inj (Prod.mk.inj (Prod.mk.inj (Prod.mk.inj (Prod.mk.inj (Prod.mk.inj (Prod.mk.inj (Prod.mk.inj (Prod.mk.inj (Prod.mk.inj (Prod.mk.inj (Prod.mk.inj (Prod.mk.inj (Prod.mk.inj (Prod.mk.inj (Prod.mk.inj (Prod.mk.inj (Prod.mk.inj (Prod.mk.inj (Prod.mk.inj (Prod.mk.inj (Prod.mk.inj (Prod.mk.inj (Prod.mk.inj (Prod.mk.inj (Prod.mk.inj (Prod.mk.inj (Prod.mk.inj allS).2).2).2).2).2).2).2).2).2).2).2).2).2).2).2).2).2).2).2).2).2).2).2).2).2).2).2).2).2).2).2).2).2).2).2).2).2).2).2).2).2).2).2).2).2).2).2).2).2).2).2).2).2).2).2).2).2).2).2).2).2).1]; exact tabC rfl <| tabN) h hd

theorem w93_0 {ds : List D} {d : D} (h : Goes EE (Holds EE) w93_0Ts 0 ds d) (hd : ∃ ds', d = retD ds' ∧ ds'.length = 1) : Holds EE (Nat.add bigN 93) (.mode m93_0 :: ds) d :=
  holdsM_of he (envFunc (c := bodyOf Tryz.f93) Tryz.func93 rfl ((Prod.mk.inj (Prod.mk.inj (Prod.mk.inj (Prod.mk.inj (Prod.mk.inj (Prod.mk.inj (Prod.mk.inj (Prod.mk.inj (Prod.mk.inj (Prod.mk.inj (Prod.mk.inj (Prod.mk.inj (Prod.mk.inj (Prod.mk.inj (Prod.mk.inj (Prod.mk.inj (Prod.mk.inj (Prod.mk.inj (Prod.mk.inj (Prod.mk.inj (Prod.mk.inj (Prod.mk.inj (Prod.mk.inj (Prod.mk.inj (Prod.mk.inj (Prod.mk.inj (Prod.mk.inj (Prod.mk.inj (Prod.mk.inj (Prod.mk.inj (Prod.mk.inj (Prod.mk.inj (Prod.mk.inj (Prod.mk.inj (Prod.mk.inj (Prod.mk.inj (Prod.mk.inj (Prod.mk.inj (Prod.mk.inj (Prod.mk.inj (Prod.mk.inj (Prod.mk.inj (Prod.mk.inj (Prod.mk.inj (Prod.mk.inj (Prod.mk.inj (Prod.mk.inj (Prod.mk.inj (Prod.mk.inj (Prod.mk.inj (Prod.mk.inj (Prod.mk.inj (Prod.mk.inj (Prod.mk.inj (Prod.mk.inj (Prod.mk.inj (Prod.mk.inj (Prod.mk.inj (Prod.mk.inj (Prod.mk.inj (Prod.mk.inj (Prod.mk.inj (Prod.mk.inj (Prod.mk.inj (Prod.mk.inj (Prod.mk.inj allS).2).2).2).2).2).2).2).2).2).2).2).2).2).2).2).2).2).2).2).2).2).2).2).2).2).2).2).2).2).2).2).2).2).2).2).2).2).2).2).2).2).2).2).2).2).2).2).2).2).2).2).2).2).2).2).2).2).2).2).2).2).2).2).2).2).1)) (c := bodyOf Tryz.f93) rfl (m := m93_0) (by decide +kernel) (fun k => by unfold w93_0P; split <;> decide) ((Prod.mk.inj (Prod.mk.inj (Prod.mk.inj (Prod.mk.inj (Prod.mk.inj (Prod.mk.inj (Prod.mk.inj (Prod.mk.inj (Prod.mk.inj (Prod.mk.inj (Prod.mk.inj (Prod.mk.inj (Prod.mk.inj (Prod.mk.inj (Prod.mk.inj (Prod.mk.inj (Prod.mk.inj (Prod.mk.inj (Prod.mk.inj (Prod.mk.inj (Prod.mk.inj (Prod.mk.inj (Prod.mk.inj (Prod.mk.inj (Prod.mk.inj (Prod.mk.inj (Prod.mk.inj (Prod.mk.inj (Prod.mk.inj (Prod.mk.inj (Prod.mk.inj (Prod.mk.inj (Prod.mk.inj (Prod.mk.inj (Prod.mk.inj (Prod.mk.inj (Prod.mk.inj (Prod.mk.inj (Prod.mk.inj (Prod.mk.inj (Prod.mk.inj (Prod.mk.inj (Prod.mk.inj (Prod.mk.inj (Prod.mk.inj (Prod.mk.inj (Prod.mk.inj (Prod.mk.inj (Prod.mk.inj (Prod.mk.inj (Prod.mk.inj (Prod.mk.inj (Prod.mk.inj (Prod.mk.inj (Prod.mk.inj (Prod.mk.inj (Prod.mk.inj (Prod.mk.inj (Prod.mk.inj (Prod.mk.inj (Prod.mk.inj (Prod.mk.inj (Prod.mk.inj (Prod.mk.inj allS).2).2).2).2).2).2).2).2).2).2).2).2).2).2).2).2).2).2).2).2).2).2).2).2).2).2).2).2).2).2).2).2).2).2).2).2).2).2).2).2).2).2).2).2).2).2).2).2).2).2).2).2).2).2).2).2).2).2).2).2).2).2).2).1) (by rw [(Prod.mk.inj (Prod.mk.inj (Prod.mk.inj (Prod.mk.inj (Prod.mk.inj (Prod.mk.inj (Prod.mk.inj (Prod.mk.inj (Prod.mk.inj (Prod.mk.inj (Prod.mk.inj (Prod.mk.inj (Prod.mk.inj (Prod.mk.inj (Prod.mk.inj (Prod.mk.inj (Prod.mk.inj (Prod.mk.inj (Prod.mk.inj (Prod.mk.inj (Prod.mk.inj (Prod.mk.inj (Prod.mk.inj (Prod.mk.inj (Prod.mk.inj (Prod.mk.inj (Prod.mk.inj (Prod.mk.inj (Prod.mk.inj (Prod.mk.inj (Prod.mk.inj (Prod.mk.inj (Prod.mk.inj (Prod.mk.inj (Prod.mk.inj (Prod.mk.inj (Prod.mk.inj (Prod.mk.inj (Prod.mk.inj (Prod.mk.inj (Prod.mk.inj (Prod.mk.inj (Prod.mk.inj (Prod.mk.inj (Prod.mk.inj (Prod.mk.inj (Prod.mk.inj (Prod.mk.inj (Prod.mk.inj (Prod.mk.inj (Prod.mk.inj (Prod.mk.inj (Prod.mk.inj (Prod.mk.inj (Prod.mk.inj (Prod.mk.inj (Prod.mk.inj (Prod.mk.inj (Prod.mk.inj (Prod.mk.inj (Prod.mk.inj (Prod.mk.inj (Prod.mk.inj (Prod.mk.inj (Prod.mk.inj allS).2).2).2).2).2).2).2).2).2).2).2).2).2).2).2).2).2).2).2).2).2).2).2).2).2).2).2).2).2).2).2).2).2).2).2).2).2).2).2).2).2).2).2).2).2).2).2).2).2).2).2).2).2).2).2).2).2).2).2).2).2).2).2).2).1]; exact tabC rfl <| tabN) h hd

theorem w50_0 {ds : List D} {d : D} (h : Goes EE (Holds EE) w50_0Ts 0 ds d) (hd : ∃ ds', d = retD ds' ∧ ds'.length = 1) : Holds EE (Nat.add bigN 50) (.mode m50_0 :: ds) d :=
  holdsM_of he (envFunc (c := bodyOf Tryz.f50) Tryz.func50 rfl ((Prod.mk.inj (Prod.mk.inj (Prod.mk.inj (Prod.mk.inj (Prod.mk.inj (Prod.mk.inj (Prod.mk.inj (Prod.mk.inj (Prod.mk.inj (Prod.mk.inj (Prod.mk.inj (Prod.mk.inj (Prod.mk.inj (Prod.mk.inj (Prod.mk.inj (Prod.mk.inj (Prod.mk.inj (Prod.mk.inj (Prod.mk.inj (Prod.mk.inj (Prod.mk.inj (Prod.mk.inj (Prod.mk.inj (Prod.mk.inj (Prod.mk.inj (Prod.mk.inj (Prod.mk.inj (Prod.mk.inj (Prod.mk.inj (Prod.mk.inj (Prod.mk.inj (Prod.mk.inj (Prod.mk.inj (Prod.mk.inj (Prod.mk.inj (Prod.mk.inj (Prod.mk.inj (Prod.mk.inj (Prod.mk.inj (Prod.mk.inj (Prod.mk.inj (Prod.mk.inj (Prod.mk.inj (Prod.mk.inj (Prod.mk.inj (Prod.mk.inj (Prod.mk.inj (Prod.mk.inj (Prod.mk.inj (Prod.mk.inj (Prod.mk.inj (Prod.mk.inj (Prod.mk.inj (Prod.mk.inj (Prod.mk.inj (Prod.mk.inj (Prod.mk.inj (Prod.mk.inj (Prod.mk.inj (Prod.mk.inj (Prod.mk.inj (Prod.mk.inj (Prod.mk.inj (Prod.mk.inj (Prod.mk.inj (Prod.mk.inj (Prod.mk.inj (Prod.mk.inj (Prod.mk.inj allS).2).2).2).2).2).2).2).2).2).2).2).2).2).2).2).2).2).2).2).2).2).2).2).2).2).2).2).2).2).2).2).2).2).2).2).2).2).2).2).2).2).2).2).2).2).2).2).2).2).2).2).2).2).2).2).2).2).2).2).2).2).2).2).2).2).2).2).2).1)) (c := bodyOf Tryz.f50) rfl (m := m50_0) (by decide +kernel) (fun k => by unfold w50_0P; split <;> decide) ((Prod.mk.inj (Prod.mk.inj (Prod.mk.inj (Prod.mk.inj (Prod.mk.inj (Prod.mk.inj (Prod.mk.inj (Prod.mk.inj (Prod.mk.inj (Prod.mk.inj (Prod.mk.inj (Prod.mk.inj (Prod.mk.inj (Prod.mk.inj (Prod.mk.inj (Prod.mk.inj (Prod.mk.inj (Prod.mk.inj (Prod.mk.inj (Prod.mk.inj (Prod.mk.inj (Prod.mk.inj (Prod.mk.inj (Prod.mk.inj (Prod.mk.inj (Prod.mk.inj (Prod.mk.inj (Prod.mk.inj (Prod.mk.inj (Prod.mk.inj (Prod.mk.inj (Prod.mk.inj (Prod.mk.inj (Prod.mk.inj (Prod.mk.inj (Prod.mk.inj (Prod.mk.inj (Prod.mk.inj (Prod.mk.inj (Prod.mk.inj (Prod.mk.inj (Prod.mk.inj (Prod.mk.inj (Prod.mk.inj (Prod.mk.inj (Prod.mk.inj (Prod.mk.inj (Prod.mk.inj (Prod.mk.inj (Prod.mk.inj (Prod.mk.inj (Prod.mk.inj (Prod.mk.inj (Prod.mk.inj (Prod.mk.inj (Prod.mk.inj (Prod.mk.inj (Prod.mk.inj (Prod.mk.inj (Prod.mk.inj (Prod.mk.inj (Prod.mk.inj (Prod.mk.inj (Prod.mk.inj (Prod.mk.inj (Prod.mk.inj (Prod.mk.inj allS).2).2).2).2).2).2).2).2).2).2).2).2).2).2).2).2).2).2).2).2).2).2).2).2).2).2).2).2).2).2).2).2).2).2).2).2).2).2).2).2).2).2).2).2).2).2).2).2).2).2).2).2).2).2).2).2).2).2).2).2).2).2).2).2).2).2).1) (by rw [(Prod.mk.inj (Prod.mk.inj (Prod.mk.inj (Prod.mk.inj (Prod.mk.inj (Prod.mk.inj (Prod.mk.inj (Prod.mk.inj (Prod.mk.inj (Prod.mk.inj (Prod.mk.inj (Prod.mk.inj (Prod.mk.inj (Prod.mk.inj (Prod.mk.inj (Prod.mk.inj (Prod.mk.inj (Prod.mk.inj (Prod.mk.inj (Prod.mk.inj (Prod.mk.inj (Prod.mk.inj (Prod.mk.inj (Prod.mk.inj (Prod.mk.inj (Prod.mk.inj (Prod.mk.inj (Prod.mk.inj (Prod.mk.inj (Prod.mk.inj (Prod.mk.inj (Prod.mk.inj (Prod.mk.inj (Prod.mk.inj (Prod.mk.inj (Prod.mk.inj (Prod.mk.inj (Prod.mk.inj (Prod.mk.inj (Prod.mk.inj (Prod.mk.inj (Prod.mk.inj (Prod.mk.inj (Prod.mk.inj (Prod.mk.inj (Prod.mk.inj (Prod.mk.inj (Prod.mk.inj (Prod.mk.inj (Prod.mk.inj (Prod.mk.inj (Prod.mk.inj (Prod.mk.inj (Prod.mk.inj (Prod.mk.inj (Prod.mk.inj (Prod.mk.inj (Prod.mk.inj (Prod.mk.inj (Prod.mk.inj (Prod.mk.inj (Prod.mk.inj (Prod.mk.inj (Prod.mk.inj (Prod.mk.inj (Prod.mk.inj (Prod.mk.inj (Prod.mk.inj allS).2).2).2).2).2).2).2).2).2).2).2).2).2).2).2).2).2).2).2).2).2).2).2).2).2).2).2).2).2).2).2).2).2).2).2).2).2).2).2).2).2).2).2).2).2).2).2).2).2).2).2).2).2).2).2).2).2).2).2).2).2).2).2).2).2).2).2).1]; exact tabC rfl <| tabN) h hd

theorem w51_0 {ds : List D} {d : D} (h : Goes EE (Holds EE) w51_0Ts 0 ds d) (hd : ∃ ds', d = retD ds' ∧ ds'.length = 1) : Holds EE (Nat.add bigN 51) (.mode m51_0 :: ds) d :=
  holdsM_of he (envFunc (c := bodyOf Tryz.f51) Tryz.func51 rfl ((Prod.mk.inj (Prod.mk.inj (Prod.mk.inj (Prod.mk.inj (Prod.mk.inj (Prod.mk.inj (Prod.mk.inj (Prod.mk.inj (Prod.mk.inj (Prod.mk.inj (Prod.mk.inj (Prod.mk.inj (Prod.mk.inj (Prod.mk.inj (Prod.mk.inj (Prod.mk.inj (Prod.mk.inj (Prod.mk.inj (Prod.mk.inj (Prod.mk.inj (Prod.mk.inj (Prod.mk.inj (Prod.mk.inj (Prod.mk.inj (Prod.mk.inj (Prod.mk.inj (Prod.mk.inj (Prod.mk.inj (Prod.mk.inj (Prod.mk.inj (Prod.mk.inj (Prod.mk.inj (Prod.mk.inj (Prod.mk.inj (Prod.mk.inj (Prod.mk.inj (Prod.mk.inj (Prod.mk.inj (Prod.mk.inj (Prod.mk.inj (Prod.mk.inj (Prod.mk.inj (Prod.mk.inj (Prod.mk.inj (Prod.mk.inj (Prod.mk.inj (Prod.mk.inj (Prod.mk.inj (Prod.mk.inj (Prod.mk.inj (Prod.mk.inj (Prod.mk.inj (Prod.mk.inj (Prod.mk.inj (Prod.mk.inj (Prod.mk.inj (Prod.mk.inj (Prod.mk.inj (Prod.mk.inj (Prod.mk.inj (Prod.mk.inj (Prod.mk.inj (Prod.mk.inj (Prod.mk.inj (Prod.mk.inj (Prod.mk.inj (Prod.mk.inj (Prod.mk.inj (Prod.mk.inj (Prod.mk.inj (Prod.mk.inj (Prod.mk.inj allS).2).2).2).2).2).2).2).2).2).2).2).2).2).2).2).2).2).2).2).2).2).2).2).2).2).2).2).2).2).2).2).2).2).2).2).2).2).2).2).2).2).2).2).2).2).2).2).2).2).2).2).2).2).2).2).2).2).2).2).2).2).2).2).2).2).2).2).2).2).2).2).1)) (c := bodyOf Tryz.f51) rfl (m := m51_0) (by decide +kernel) (fun k => by unfold w51_0P; split <;> decide) ((Prod.mk.inj (Prod.mk.inj (Prod.mk.inj (Prod.mk.inj (Prod.mk.inj (Prod.mk.inj (Prod.mk.inj (Prod.mk.inj (Prod.mk.inj (Prod.mk.inj (Prod.mk.inj (Prod.mk.inj (Prod.mk.inj (Prod.mk.inj (Prod.mk.inj (Prod.mk.inj (Prod.mk.inj (Prod.mk.inj (Prod.mk.inj (Prod.mk.inj (Prod.mk.inj (Prod.mk.inj (Prod.mk.inj (Prod.mk.inj (Prod.mk.inj (Prod.mk.inj (Prod.mk.inj (Prod.mk.inj (Prod.mk.inj (Prod.mk.inj (Prod.mk.inj (Prod.mk.inj (Prod.mk.inj (Prod.mk.inj (Prod.mk.inj (Prod.mk.inj (Prod.mk.inj (Prod.mk.inj (Prod.mk.inj (Prod.mk.inj (Prod.mk.inj (Prod.mk.inj (Prod.mk.inj (Prod.mk.inj (Prod.mk.inj (Prod.mk.inj (Prod.mk.inj (Prod.mk.inj (Prod.mk.inj (Prod.mk.inj (Prod.mk.inj (Prod.mk.inj (Prod.mk.inj (Prod.mk.inj (Prod.mk.inj (Prod.mk.inj (Prod.mk.inj (Prod.mk.inj (Prod.mk.inj (Prod.mk.inj (Prod.mk.inj (Prod.mk.inj (Prod.mk.inj (Prod.mk.inj (Prod.mk.inj (Prod.mk.inj (Prod.mk.inj (Prod.mk.inj (Prod.mk.inj (Prod.mk.inj allS).2).2).2).2).2).2).2).2).2).2).2).2).2).2).2).2).2).2).2).2).2).2).2).2).2).2).2).2).2).2).2).2).2).2).2).2).2).2).2).2).2).2).2).2).2).2).2).2).2).2).2).2).2).2).2).2).2).2).2).2).2).2).2).2).2).2).2).2).2).1) (by rw [(Prod.mk.inj (Prod.mk.inj (Prod.mk.inj (Prod.mk.inj (Prod.mk.inj (Prod.mk.inj (Prod.mk.inj (Prod.mk.inj (Prod.mk.inj (Prod.mk.inj (Prod.mk.inj (Prod.mk.inj (Prod.mk.inj (Prod.mk.inj (Prod.mk.inj (Prod.mk.inj (Prod.mk.inj (Prod.mk.inj (Prod.mk.inj (Prod.mk.inj (Prod.mk.inj (Prod.mk.inj (Prod.mk.inj (Prod.mk.inj (Prod.mk.inj (Prod.mk.inj (Prod.mk.inj (Prod.mk.inj (Prod.mk.inj (Prod.mk.inj (Prod.mk.inj (Prod.mk.inj (Prod.mk.inj (Prod.mk.inj (Prod.mk.inj (Prod.mk.inj (Prod.mk.inj (Prod.mk.inj (Prod.mk.inj (Prod.mk.inj (Prod.mk.inj (Prod.mk.inj (Prod.mk.inj (Prod.mk.inj (Prod.mk.inj (Prod.mk.inj (Prod.mk.inj (Prod.mk.inj (Prod.mk.inj (Prod.mk.inj (Prod.mk.inj (Prod.mk.inj (Prod.mk.inj (Prod.mk.inj (Prod.mk.inj (Prod.mk.inj (Prod.mk.inj (Prod.mk.inj (Prod.mk.inj (Prod.mk.inj (Prod.mk.inj (Prod.mk.inj (Prod.mk.inj (Prod.mk.inj (Prod.mk.inj (Prod.mk.inj (Prod.mk.inj (Prod.mk.inj (Prod.mk.inj (Prod.mk.inj (Prod.mk.inj allS).2).2).2).2).2).2).2).2).2).2).2).2).2).2).2).2).2).2).2).2).2).2).2).2).2).2).2).2).2).2).2).2).2).2).2).2).2).2).2).2).2).2).2).2).2).2).2).2).2).2).2).2).2).2).2).2).2).2).2).2).2).2).2).2).2).2).2).2).2).2).1]; exact tabN) h hd

theorem w92_0 {ds : List D} {d : D} (h : Goes EE (Holds EE) w92_0Ts 0 ds d) (hd : ∃ ds', d = retD ds' ∧ ds'.length = 1) : Holds EE (Nat.add bigN 92) (.mode m92_0 :: ds) d :=
  holdsM_of he (envFunc (c := bodyOf Tryz.f92) Tryz.func92 rfl ((Prod.mk.inj (Prod.mk.inj (Prod.mk.inj (Prod.mk.inj (Prod.mk.inj (Prod.mk.inj (Prod.mk.inj (Prod.mk.inj (Prod.mk.inj (Prod.mk.inj (Prod.mk.inj (Prod.mk.inj (Prod.mk.inj (Prod.mk.inj (Prod.mk.inj (Prod.mk.inj (Prod.mk.inj (Prod.mk.inj (Prod.mk.inj (Prod.mk.inj (Prod.mk.inj (Prod.mk.inj (Prod.mk.inj (Prod.mk.inj (Prod.mk.inj (Prod.mk.inj (Prod.mk.inj (Prod.mk.inj (Prod.mk.inj (Prod.mk.inj (Prod.mk.inj (Prod.mk.inj (Prod.mk.inj (Prod.mk.inj (Prod.mk.inj (Prod.mk.inj (Prod.mk.inj (Prod.mk.inj (Prod.mk.inj (Prod.mk.inj (Prod.mk.inj (Prod.mk.inj (Prod.mk.inj (Prod.mk.inj (Prod.mk.inj (Prod.mk.inj (Prod.mk.inj (Prod.mk.inj (Prod.mk.inj (Prod.mk.inj (Prod.mk.inj (Prod.mk.inj (Prod.mk.inj (Prod.mk.inj (Prod.mk.inj (Prod.mk.inj (Prod.mk.inj (Prod.mk.inj (Prod.mk.inj (Prod.mk.inj (Prod.mk.inj (Prod.mk.inj (Prod.mk.inj (Prod.mk.inj (Prod.mk.inj (Prod.mk.inj (Prod.mk.inj (Prod.mk.inj (Prod.mk.inj (Prod.mk.inj (Prod.mk.inj (Prod.mk.inj (Prod.mk.inj (Prod.mk.inj allS).2).2).2).2).2).2).2).2).2).2).2).2).2).2).2).2).2).2).2).2).2).2).2).2).2).2).2).2).2).2).2).2).2).2).2).2).2).2).2).2).2).2).2).2).2).2).2).2).2).2).2).2).2).2).2).2).2).2).2).2).2).2).2).2).2).2).2).2).2).2).2).2).2).2)) (c := bodyOf Tryz.f92) rfl (m := m92_0) (by decide +kernel) (fun k => by unfold w92_0P; split <;> decide) ((Prod.mk.inj (Prod.mk.inj (Prod.mk.inj (Prod.mk.inj (Prod.mk.inj (Prod.mk.inj (Prod.mk.inj (Prod.mk.inj (Prod.mk.inj (Prod.mk.inj (Prod.mk.inj (Prod.mk.inj (Prod.mk.inj (Prod.mk.inj (Prod.mk.inj (Prod.mk.inj (Prod.mk.inj (Prod.mk.inj (Prod.mk.inj (Prod.mk.inj (Prod.mk.inj (Prod.mk.inj (Prod.mk.inj (Prod.mk.inj (Prod.mk.inj (Prod.mk.inj (Prod.mk.inj (Prod.mk.inj (Prod.mk.inj (Prod.mk.inj (Prod.mk.inj (Prod.mk.inj (Prod.mk.inj (Prod.mk.inj (Prod.mk.inj (Prod.mk.inj (Prod.mk.inj (Prod.mk.inj (Prod.mk.inj (Prod.mk.inj (Prod.mk.inj (Prod.mk.inj (Prod.mk.inj (Prod.mk.inj (Prod.mk.inj (Prod.mk.inj (Prod.mk.inj (Prod.mk.inj (Prod.mk.inj (Prod.mk.inj (Prod.mk.inj (Prod.mk.inj (Prod.mk.inj (Prod.mk.inj (Prod.mk.inj (Prod.mk.inj (Prod.mk.inj (Prod.mk.inj (Prod.mk.inj (Prod.mk.inj (Prod.mk.inj (Prod.mk.inj (Prod.mk.inj (Prod.mk.inj (Prod.mk.inj (Prod.mk.inj (Prod.mk.inj (Prod.mk.inj (Prod.mk.inj (Prod.mk.inj (Prod.mk.inj (Prod.mk.inj (Prod.mk.inj allS).2).2).2).2).2).2).2).2).2).2).2).2).2).2).2).2).2).2).2).2).2).2).2).2).2).2).2).2).2).2).2).2).2).2).2).2).2).2).2).2).2).2).2).2).2).2).2).2).2).2).2).2).2).2).2).2).2).2).2).2).2).2).2).2).2).2).2).2).2).2).2).2).1) (by rw [(Prod.mk.inj (Prod.mk.inj (Prod.mk.inj (Prod.mk.inj (Prod.mk.inj (Prod.mk.inj (Prod.mk.inj (Prod.mk.inj (Prod.mk.inj (Prod.mk.inj (Prod.mk.inj (Prod.mk.inj (Prod.mk.inj (Prod.mk.inj (Prod.mk.inj (Prod.mk.inj (Prod.mk.inj (Prod.mk.inj (Prod.mk.inj (Prod.mk.inj (Prod.mk.inj (Prod.mk.inj (Prod.mk.inj (Prod.mk.inj (Prod.mk.inj (Prod.mk.inj (Prod.mk.inj (Prod.mk.inj (Prod.mk.inj (Prod.mk.inj (Prod.mk.inj (Prod.mk.inj (Prod.mk.inj (Prod.mk.inj (Prod.mk.inj (Prod.mk.inj (Prod.mk.inj (Prod.mk.inj (Prod.mk.inj (Prod.mk.inj (Prod.mk.inj (Prod.mk.inj (Prod.mk.inj (Prod.mk.inj (Prod.mk.inj (Prod.mk.inj (Prod.mk.inj (Prod.mk.inj (Prod.mk.inj (Prod.mk.inj (Prod.mk.inj (Prod.mk.inj (Prod.mk.inj (Prod.mk.inj (Prod.mk.inj (Prod.mk.inj (Prod.mk.inj (Prod.mk.inj (Prod.mk.inj (Prod.mk.inj (Prod.mk.inj (Prod.mk.inj (Prod.mk.inj (Prod.mk.inj (Prod.mk.inj (Prod.mk.inj (Prod.mk.inj (Prod.mk.inj (Prod.mk.inj (Prod.mk.inj (Prod.mk.inj (Prod.mk.inj (Prod.mk.inj (Prod.mk.inj allS).2).2).2).2).2).2).2).2).2).2).2).2).2).2).2).2).2).2).2).2).2).2).2).2).2).2).2).2).2).2).2).2).2).2).2).2).2).2).2).2).2).2).2).2).2).2).2).2).2).2).2).2).2).2).2).2).2).2).2).2).2).2).2).2).2).2).2).2).2).2).2).2).2).1]; exact tabN) h hd


end Go.Proofs.YtgkfhfcieamncaaGreatDoor
