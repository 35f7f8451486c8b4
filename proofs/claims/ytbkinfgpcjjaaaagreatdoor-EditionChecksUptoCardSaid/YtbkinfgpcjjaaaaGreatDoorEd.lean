/- Trees of functions. Conditions: none. -/
import Derived.Test.YtbkinfgpcjjaaaaGreatDoorEb
set_option linter.all false
namespace Go.Proofs.YtbkinfgpcjjaaaaGreatDoor
open Go Go.Am Go.Proofs
def u232P : Nat → Pat
  | 1 => ⟨[⟨.pure, false⟩, ⟨.pure, false⟩, ⟨.pure, true⟩, ⟨.pure, true⟩, ⟨.pure, true⟩], [(0, .v 0), (1, .v 1), (6, .v 2), (7, .v 3), (8, .v 4)], []⟩
  | _ => ⟨[], [], []⟩
def u232T0 : Tree :=
  .bind .chr [.v 0, .v 1] <|
  .bind (.conv 5 3) [.v 2] <|
  .bind (.bin .geq 3 (.tmp 14) (K' 240)) [.v 3, k' 240] <|
  .ite (.v 4) (
    .bind (.bin .sub 3 (.tmp 16) (K' 240)) [.v 3, k' 240] <|
    .bind (.bin .add 3 (.tmp 28) (.tmp 29)) [.v 1, k' 4] <|
    .bind (.len true) [.v 0] <|
    .bind (.bin .gtr 3 (.tmp 30) (.tmp 32)) [.v 6, .v 7] <|
    .ite (.v 8) (
      .ret [.c (.int .i64 (-1)), k' 0]) (
      .jump 1 [.v 0, .v 1, .v 5, k' 4, k' 1])) (
    .bind (.bin .geq 3 (.tmp 19) (K' 224)) [.v 3, k' 224] <|
    .ite (.v 5) (
      .bind (.bin .sub 3 (.tmp 21) (K' 224)) [.v 3, k' 224] <|
      .bind (.bin .add 3 (.tmp 28) (.tmp 29)) [.v 1, k' 3] <|
      .bind (.len true) [.v 0] <|
      .bind (.bin .gtr 3 (.tmp 30) (.tmp 32)) [.v 7, .v 8] <|
      .ite (.v 9) (
        .ret [.c (.int .i64 (-1)), k' 0]) (
        .jump 1 [.v 0, .v 1, .v 6, k' 3, k' 1])) (
      .bind (.bin .geq 3 (.tmp 24) (K' 192)) [.v 3, k' 192] <|
      .ite (.v 6) (
        .bind (.bin .sub 3 (.tmp 26) (K' 192)) [.v 3, k' 192] <|
        .bind (.bin .add 3 (.tmp 28) (.tmp 29)) [.v 1, k' 2] <|
        .bind (.len true) [.v 0] <|
        .bind (.bin .gtr 3 (.tmp 30) (.tmp 32)) [.v 8, .v 9] <|
        .ite (.v 10) (
          .ret [.c (.int .i64 (-1)), k' 0]) (
          .jump 1 [.v 0, .v 1, .v 7, k' 2, k' 1])) (
        .bind (.bin .add 3 (.tmp 28) (.tmp 29)) [.v 1, k' 1] <|
        .bind (.len true) [.v 0] <|
        .bind (.bin .gtr 3 (.tmp 30) (.tmp 32)) [.v 7, .v 8] <|
        .ite (.v 9) (
          .ret [.c (.int .i64 (-1)), k' 0]) (
          .jump 1 [.v 0, .v 1, .v 3, k' 1, k' 1]))))
def u232T1 : Tree :=
  .bind (.bin .lss 3 (.tmp 34) (.tmp 35)) [.v 4, .v 3] <|
  .ite (.v 5) (
    .bind (.bin .mul 3 (.tmp 39) (K' 64)) [.v 2, k' 64] <|
    .bind (.bin .add 3 (.tmp 42) (.tmp 43)) [.v 1, .v 4] <|
    .bind .chr [.v 0, .v 7] <|
    .bind (.conv 5 3) [.v 8] <|
    .bind (.bin .rem 3 (.tmp 46) (K' 64)) [.v 9, k' 64] <|
    .bind (.bin .add 3 (.tmp 40) (.tmp 47)) [.v 6, .v 10] <|
    .bind (.bin .add 3 (.tmp 37) (K' 1)) [.v 4, k' 1] <|
    .jump 1 [.v 0, .v 1, .v 11, .v 3, .v 12]) (
    .call (.fn 277) [.v 2] 1 <|
    .bind (.un .not 4) [.v 6] <|
    .ite (.v 7) (
      .ret [.c (.int .i64 (-1)), k' 0]) (
      .call (.fn 278) [.v 2] 1 <|
      .bind (.bin .add 3 (.tmp 57) (.tmp 58)) [.v 1, .v 3] <|
      .bind (.sub true true) [.v 0, .v 1, .v 9] <|
      .bind (.bin .neq 9 (.tmp 54) (.tmp 60)) [.v 8, .v 10] <|
      .ite (.v 11) (
        .ret [.c (.int .i64 (-1)), k' 0]) (
        .ret [.v 2, .v 3])))
def u232Ts : Nat → Tree
  | 0 => u232T0
  | 1 => u232T1
  | _ => .fail
def u39P : Nat → Pat
  | 1 => ⟨[⟨.pure, true⟩, ⟨.pure, false⟩, ⟨.pure, false⟩], [(2, .loc 0 0), (3, .loc 1 0), (5, .v 0)], [some (.whole (.v 1) 1), some (.whole (.v 2) 3)]⟩
  | 2 => ⟨[⟨.fresh, true⟩, ⟨.pure, true⟩, ⟨.pure, false⟩], [(3, .loc 1 0), (7, .v 0), (8, .v 1)], [none, some (.whole (.v 2) 3)]⟩
  | 3 => ⟨[⟨.fresh, true⟩, ⟨.pure, true⟩, ⟨.pure, true⟩, ⟨.pure, false⟩], [(3, .loc 1 0), (7, .v 0), (8, .v 1), (9, .v 2)], [none, some (.whole (.v 3) 3)]⟩
  | _ => ⟨[], [], []⟩
def u39T0 : Tree :=
  .bind (.chk true 1) [.v 0] <|
  .bind (.chk true 3) [.v 1] <|
  fl' 0 3 <|
  .call (.fn 89) [.v 4] 1 <|
  .bind (.un .not 4) [.v 5] <|
  .ite (.v 6) (
    .ret [k' 7]) (
    fl' 1 3 <|
    ln' 7 <|
    .bind (.bin .gtr 3 (.tmp 17) (K' 100)) [.v 8, k' 100] <|
    .ite (.v 9) (
      .ret [k' 11]) (
      .jump 1 [k' 0, .v 2, .v 3]))
def u39T1 : Tree :=
  fl' 1 2 <|
  ln' 3 <|
  .bind (.bin .lss 3 (.tmp 19) (.tmp 22)) [.v 0, .v 4] <|
  .ite (.v 5) (
    .call (.fn 90) [.v 1, .v 2, .v 0] 1 <|
    .bind (.bin .neq 54 (.tmp 30) (K' 0)) [.v 6, k' 0] <|
    .ite (.v 7) (
      .ret [.v 6]) (
      .bind (.bin .add 3 (.tmp 24) (K' 1)) [.v 0, k' 1] <|
      .jump 1 [.v 8, .v 1, .v 2])) (
    fl' 2 2 <|
    ln' 6 <|
    .bind (.bin .gtr 3 (.tmp 35) (K' 100)) [.v 7, k' 100] <|
    .ite (.v 8) (
      .ret [k' 11]) (
      .jump 2 [.c (.slice none 0 0), k' 0, .v 2]))
def u39T2 : Tree :=
  fl' 2 2 <|
  ln' 3 <|
  .bind (.bin .lss 3 (.tmp 37) (.tmp 40)) [.v 1, .v 4] <|
  .ite (.v 5) (
    fl' 2 2 <|
    ir' 6 1 <|
    .bind (.elem 1 false 1 0) [.v 6, .v 1] <|
    ln' 8 <|
    .bind (.bin .eql 3 (.tmp 49) (K' 0)) [.v 9, k' 0] <|
    .ite (.v 10) (
      .ret [k' 4]) (
      .jump 3 [.v 0, .v 1, k' 0, .v 2])) (
    .ret [k' 0])
def u39T3 : Tree :=
  fl' 2 3 <|
  ir' 4 1 <|
  .bind (.elem 1 false 1 0) [.v 4, .v 1] <|
  ln' 6 <|
  .bind (.bin .lss 3 (.tmp 51) (.tmp 57)) [.v 2, .v 7] <|
  .ite (.v 8) (
    fl' 2 3 <|
    ir' 9 1 <|
    .bind (.elem 1 false 1 0) [.v 9, .v 1] <|
    ir' 11 2 <|
    .bind (.elem 1 false 1 0) [.v 11, .v 2] <|
    .call (.fn 91) [.v 13] 1 <|
    .bind (.un .not 4) [.v 14] <|
    .ite (.v 15) (
      .ret [k' 3]) (
      .call (.fn 92) [.v 0, .v 13] 1 <|
      .ite (.v 16) (
        .ret [k' 8]) (
        .bind (.chk false 1) [.v 13] <|
        .bind (.lit 9 1) [.v 13] <|
        .bind (.app 9 1 16) [.v 0, .v 18] <|
        .bind (.bin .add 3 (.tmp 59) (K' 1)) [.v 2, k' 1] <|
        .jump 3 [.v 19, .v 1, .v 20, .v 3]))) (
    .bind (.bin .add 3 (.tmp 42) (K' 1)) [.v 1, k' 1] <|
    .jump 2 [.v 0, .v 9, .v 3])
def u39Ts : Nat → Tree
  | 0 => u39T0
  | 1 => u39T1
  | 2 => u39T2
  | 3 => u39T3
  | _ => .fail
def u233P : Nat → Pat
  | 1 => ⟨[⟨.pure, false⟩, ⟨.pure, false⟩, ⟨.fresh, true⟩, ⟨.pure, true⟩], [(0, .v 0), (1, .v 1), (5, .v 2), (6, .v 3)], []⟩
  | _ => ⟨[], [], []⟩
def u233T0 : Tree :=
  .jump 1 [.v 0, .v 1, .c (.slice none 0 0), k' 0]
def u233T1 : Tree :=
  ln' 0 <|
  .bind (.bin .lss 3 (.tmp 7) (.tmp 9)) [.v 3, .v 4] <|
  .ite (.v 5) (
    ir' 0 3 <|
    .bind (.elem 1 false 1 0) [.v 0, .v 3] <|
    .bind (.bin .lss 3 (.tmp 15) (.tmp 16)) [.v 7, .v 1] <|
    .ite (.v 8) (
      ir' 0 3 <|
      .bind (.elem 1 false 1 0) [.v 0, .v 3] <|
      .bind (.chk false 1) [.v 10] <|
      .bind (.lit 3 1) [.v 10] <|
      .bind (.app 3 1 8) [.v 2, .v 12] <|
      .bind (.bin .add 3 (.tmp 26) (K' 1)) [.v 3, k' 1] <|
      .jump 1 [.v 0, .v 1, .v 13, .v 14]) (
      .bind (.chk false 1) [.v 1] <|
      .bind (.lit 3 1) [.v 1] <|
      .bind (.app 3 1 8) [.v 2, .v 10] <|
      ln' 0 <|
      .bind (.bin .lss 3 (.tmp 32) (.tmp 34)) [.v 3, .v 12] <|
      .ite (.v 13) (
        ir' 0 3 <|
        .bind (.elem 1 false 1 0) [.v 0, .v 3] <|
        .bind (.bin .eql 3 (.tmp 40) (.tmp 41)) [.v 15, .v 1] <|
        .ite (.v 16) (
          .bind (.bin .add 3 (.tmp 44) (K' 1)) [.v 3, k' 1] <|
          .bind (.slc 3 1 true false) [.v 0, .v 17] <|
          .bind (.app 3 1 8) [.v 11, .v 18] <|
          .ret [.v 19]) (
          .bind (.slc 3 1 true false) [.v 0, .v 3] <|
          .bind (.app 3 1 8) [.v 11, .v 17] <|
          .ret [.v 18])) (
        .bind (.slc 3 1 true false) [.v 0, .v 3] <|
        .bind (.app 3 1 8) [.v 11, .v 14] <|
        .ret [.v 15]))) (
    .bind (.chk false 1) [.v 1] <|
    .bind (.lit 3 1) [.v 1] <|
    .bind (.app 3 1 8) [.v 2, .v 7] <|
    ln' 0 <|
    .bind (.bin .lss 3 (.tmp 32) (.tmp 34)) [.v 3, .v 9] <|
    .ite (.v 10) (
      ir' 0 3 <|
      .bind (.elem 1 false 1 0) [.v 0, .v 3] <|
      .bind (.bin .eql 3 (.tmp 40) (.tmp 41)) [.v 12, .v 1] <|
      .ite (.v 13) (
        .bind (.bin .add 3 (.tmp 44) (K' 1)) [.v 3, k' 1] <|
        .bind (.slc 3 1 true false) [.v 0, .v 14] <|
        .bind (.app 3 1 8) [.v 8, .v 15] <|
        .ret [.v 16]) (
        .bind (.slc 3 1 true false) [.v 0, .v 3] <|
        .bind (.app 3 1 8) [.v 8, .v 14] <|
        .ret [.v 15])) (
      .bind (.slc 3 1 true false) [.v 0, .v 3] <|
      .bind (.app 3 1 8) [.v 8, .v 11] <|
      .ret [.v 12]))
def u233Ts : Nat → Tree
  | 0 => u233T0
  | 1 => u233T1
  | _ => .fail
def u101P : Nat → Pat
  | 1 => ⟨[⟨.pure, false⟩, ⟨.pure, false⟩, ⟨.fresh, true⟩, ⟨.fresh, true⟩, ⟨.pure, true⟩], [(0, .v 0), (2, .v 1), (7, .v 2), (8, .v 3), (9, .v 4)], []⟩
  | 2 => ⟨[⟨.pure, false⟩, ⟨.pure, false⟩, ⟨.fresh, true⟩, ⟨.fresh, true⟩, ⟨.pure, true⟩, ⟨.fresh, true⟩, ⟨.pure, true⟩], [(0, .v 0), (2, .v 1), (7, .v 2), (8, .v 3), (9, .v 4), (10, .v 5), (11, .v 6)], []⟩
  | 3 => ⟨[⟨.pure, false⟩, ⟨.pure, false⟩, ⟨.fresh, true⟩, ⟨.fresh, true⟩, ⟨.pure, true⟩, ⟨.fresh, true⟩, ⟨.pure, true⟩, ⟨.pure, true⟩, ⟨.pure, true⟩], [(0, .v 0), (2, .v 1), (7, .v 2), (8, .v 3), (9, .v 4), (10, .v 5), (11, .v 6), (12, .v 7), (13, .v 8)], []⟩
  | 4 => ⟨[⟨.pure, false⟩, ⟨.fresh, true⟩, ⟨.fresh, true⟩, ⟨.pure, true⟩], [(0, .v 0), (7, .v 1), (16, .v 2), (17, .v 3)], []⟩
  | _ => ⟨[], [], []⟩
def u101T0 : Tree :=
  ln' 0 <|
  .bind (.mk 4 1 1 false [(.bool false)]) [.v 3] <|
  .bind (.chk false 1) [.v 1] <|
  .bind (.lit 3 1) [.v 1] <|
  .jump 1 [.v 0, .v 2, .v 4, .v 6, k' 0]
def u101T1 : Tree :=
  ln' 0 <|
  .bind (.bin .leq 3 (.tmp 23) (.tmp 25)) [.v 4, .v 5] <|
  .ite (.v 6) (
    .jump 2 [.v 0, .v 1, .v 2, .v 3, .v 4, .c (.slice none 0 0), k' 0]) (
    .jump 4 [.v 0, .v 2, .c (.slice none 0 0), k' 0])
def u101T2 : Tree :=
  ln' 3 <|
  .bind (.bin .lss 3 (.tmp 29) (.tmp 31)) [.v 6, .v 7] <|
  .ite (.v 8) (
    ir' 3 6 <|
    .bind (.elem 1 false 1 0) [.v 3, .v 6] <|
    .call (.fn 98) [.v 0, .v 10] 1 <|
    .jump 3 [.v 0, .v 1, .v 2, .v 3, .v 4, .v 5, .v 6, .v 11, k' 0]) (
    .bind (.bin .add 3 (.tmp 27) (K' 1)) [.v 4, k' 1] <|
    .jump 1 [.v 0, .v 1, .v 2, .v 5, .v 9])
def u101T3 : Tree :=
  .bind (.bin .geq 3 (.tmp 41) (K' 0)) [.v 7, k' 0] <|
  .ite (.v 9) (
    ir' 0 7 <|
    .bind (.elem 8 false 1 6) [.v 0, .v 7] <|
    ln' 11 <|
    .bind (.bin .lss 3 (.tmp 44) (.tmp 50)) [.v 8, .v 12] <|
    .ite (.v 13) (
      ir' 0 7 <|
      .bind (.elem 8 false 1 6) [.v 0, .v 7] <|
      ir' 15 8 <|
      .bind (.elem 2 true 2 0) [.v 15, .v 8] <|
      .bind (.chk true 2) [.v 17] <|
      fl' 1 18 <|
      .call (.fn 98) [.v 0, .v 19] 1 <|
      fl' 0 18 <|
      .bind (.bin .eql 3 (.tmp 68) (.tmp 69)) [.v 21, .v 1] <|
      .ite (.v 22) (
        .bind (.bin .geq 3 (.tmp 72) (K' 0)) [.v 20, k' 0] <|
        .ite (.v 23) (
          ir' 2 20 <|
          .bind (.elem 1 false 1 0) [.v 2, .v 20] <|
          .bind (.un .not 4) [.v 25] <|
          .ite (.v 26) (
            ir' 2 20 <|
            .bind (.set 1 false 1 0) [.v 2, .v 20, .c (.bool true)] <|
            fl' 1 18 <|
            .bind (.chk false 1) [.v 29] <|
            .bind (.lit 3 1) [.v 29] <|
            .bind (.app 3 1 8) [.v 5, .v 31] <|
            .bind (.bin .add 3 (.tmp 53) (K' 1)) [.v 8, k' 1] <|
            .jump 3 [.v 0, .v 1, .v 28, .v 3, .v 4, .v 32, .v 6, .v 7, .v 33]) (
            .bind (.bin .add 3 (.tmp 53) (K' 1)) [.v 8, k' 1] <|
            .jump 3 [.v 0, .v 1, .v 2, .v 3, .v 4, .v 5, .v 6, .v 7, .v 27])) (
          .bind (.bin .add 3 (.tmp 53) (K' 1)) [.v 8, k' 1] <|
          .jump 3 [.v 0, .v 1, .v 2, .v 3, .v 4, .v 5, .v 6, .v 7, .v 24])) (
        .bind (.bin .add 3 (.tmp 53) (K' 1)) [.v 8, k' 1] <|
        .jump 3 [.v 0, .v 1, .v 2, .v 3, .v 4, .v 5, .v 6, .v 7, .v 23])) (
      .bind (.bin .add 3 (.tmp 33) (K' 1)) [.v 6, k' 1] <|
      .jump 2 [.v 0, .v 1, .v 2, .v 3, .v 4, .v 5, .v 14])) (
    .bind (.bin .add 3 (.tmp 33) (K' 1)) [.v 6, k' 1] <|
    .jump 2 [.v 0, .v 1, .v 2, .v 3, .v 4, .v 5, .v 10])
def u101T4 : Tree :=
  ln' 0 <|
  .bind (.bin .lss 3 (.tmp 91) (.tmp 93)) [.v 3, .v 4] <|
  .ite (.v 5) (
    ir' 1 3 <|
    .bind (.elem 1 false 1 0) [.v 1, .v 3] <|
    .ite (.v 7) (
      ir' 0 3 <|
      .bind (.elem 8 false 1 0) [.v 0, .v 3] <|
      .bind (.chk false 1) [.v 9] <|
      .bind (.lit 3 1) [.v 9] <|
      .bind (.app 3 1 8) [.v 2, .v 11] <|
      .bind (.bin .add 3 (.tmp 95) (K' 1)) [.v 3, k' 1] <|
      .jump 4 [.v 0, .v 1, .v 12, .v 13]) (
      .bind (.bin .add 3 (.tmp 95) (K' 1)) [.v 3, k' 1] <|
      .jump 4 [.v 0, .v 1, .v 2, .v 8])) (
    .ret [.v 2])
def u101Ts : Nat → Tree
  | 0 => u101T0
  | 1 => u101T1
  | 2 => u101T2
  | 3 => u101T3
  | 4 => u101T4
  | _ => .fail
def u111P : Nat → Pat
  | _ => ⟨[], [], []⟩
def u111T0 : Tree :=
  .bind (.chk true 2) [.v 1] <|
  .call (.fn 124) [.v 2] 1 <|
  .ite (.v 3) (
    .bind (.chk true 2) [.v 2] <|
    .bind (.lit 114 2) [.v 2] <|
    .call (.fn 175) [.v 5, .v 0] 0 <|
    ln' 6 <|
    .bind (.bin .eql 3 (.tmp 12) (K' 0)) [.v 7, k' 0] <|
    .ret [.v 8]) (
    .ret [.c (.bool false)])
def u111Ts : Nat → Tree
  | 0 => u111T0
  | _ => .fail
def u122P : Nat → Pat
  | 1 => ⟨[⟨.pure, false⟩, ⟨.pure, false⟩, ⟨.pure, true⟩, ⟨.pure, true⟩], [(0, .v 0), (5, .v 1), (22, .v 2), (23, .v 3)], []⟩
  | 2 => ⟨[⟨.pure, false⟩, ⟨.pure, false⟩, ⟨.pure, false⟩, ⟨.pure, true⟩, ⟨.pure, true⟩, ⟨.pure, true⟩, ⟨.pure, true⟩], [(0, .v 0), (5, .v 1), (7, .v 2), (22, .v 3), (23, .v 4), (27, .v 5), (28, .v 6)], []⟩
  | _ => ⟨[], [], []⟩
def u122T0 : Tree :=
  .call (.fn 120) [.v 0, .v 1] 1 <|
  .bind (.bin .geq 3 (.tmp 13) (K' 0)) [.v 2, k' 0] <|
  .ite (.v 3) (
    ir' 0 2 <|
    .bind (.elem 4 false 1 3) [.v 0, .v 2] <|
    .call (.fn 168) [.v 5] 0 <|
    ln' 0 <|
    .jump 1 [.v 0, .v 6, .v 7, k' 0]) (
    ln' 0 <|
    .jump 1 [.v 0, .c (.slice none 0 0), .v 4, k' 0])
def u122T1 : Tree :=
  .bind (.bin .lss 3 (.tmp 23) (.tmp 22)) [.v 3, .v 2] <|
  .ite (.v 4) (
    ln' 1 <|
    .jump 2 [.v 0, .v 1, .v 1, .v 2, .v 3, .v 5, k' 0]) (
    .ret [.v 1])
def u122T2 : Tree :=
  .bind (.bin .lss 3 (.tmp 28) (.tmp 27)) [.v 6, .v 5] <|
  .ite (.v 7) (
    ir' 1 6 <|
    .bind (.elem 1 false 1 0) [.v 1, .v 6] <|
    .call (.fn 120) [.v 0, .v 9] 1 <|
    .bind (.bin .geq 3 (.tmp 37) (K' 0)) [.v 10, k' 0] <|
    .ite (.v 11) (
      ir' 0 10 <|
      .bind (.elem 4 false 1 3) [.v 0, .v 10] <|
      .call (.fn 180) [.v 2, .v 13] 0 <|
      .bind (.bin .add 3 (.tmp 28) (K' 1)) [.v 6, k' 1] <|
      .jump 2 [.v 0, .v 1, .v 14, .v 3, .v 4, .v 5, .v 15]) (
      .bind (.bin .add 3 (.tmp 28) (K' 1)) [.v 6, k' 1] <|
      .jump 2 [.v 0, .v 1, .v 2, .v 3, .v 4, .v 5, .v 12])) (
    .bind (.bin .add 3 (.tmp 23) (K' 1)) [.v 4, k' 1] <|
    .jump 1 [.v 0, .v 2, .v 3, .v 8])
def u122Ts : Nat → Tree
  | 0 => u122T0
  | 1 => u122T1
  | 2 => u122T2
  | _ => .fail
def u281P : Nat → Pat
  | 1 => ⟨[⟨.pure, false⟩, ⟨.fresh, true⟩, ⟨.fresh, true⟩, ⟨.pure, true⟩, ⟨.pure, false⟩], [(0, .v 0), (3, .loc 0 0), (5, .v 1), (6, .v 2), (7, .v 3)], [some (.whole (.v 4) 2)]⟩
  | _ => ⟨[], [], []⟩
def u281T0 : Tree :=
  .bind (.chk true 2) [.v 1] <|
  .bind (.lit 114 2) [] <|
  .bind (.lit 114 2) [] <|
  .jump 1 [.v 0, .v 3, .v 4, k' 0, .v 2]
def u281T1 : Tree :=
  ln' 0 <|
  .bind (.bin .lss 3 (.tmp 10) (.tmp 12)) [.v 3, .v 5] <|
  .ite (.v 6) (
    ir' 0 3 <|
    .bind (.elem 2 false 1 1) [.v 0, .v 3] <|
    fl' 0 4 <|
    .bind (.bin .lss 3 (.tmp 20) (.tmp 22)) [.v 8, .v 9] <|
    .ite (.v 10) (
      ir' 0 3 <|
      .bind (.elem 2 true 2 0) [.v 0, .v 3] <|
      .bind (.chk true 2) [.v 12] <|
      .bind (.lit 114 2) [.v 12] <|
      .bind (.app 114 2 16) [.v 1, .v 14] <|
      .bind (.bin .add 3 (.tmp 14) (K' 1)) [.v 3, k' 1] <|
      .jump 1 [.v 0, .v 15, .v 2, .v 16, .v 4]) (
      ir' 0 3 <|
      .bind (.elem 2 false 1 0) [.v 0, .v 3] <|
      fl' 1 4 <|
      .bind (.bin .gtr 3 (.tmp 35) (.tmp 37)) [.v 12, .v 13] <|
      .ite (.v 14) (
        ir' 0 3 <|
        .bind (.elem 2 true 2 0) [.v 0, .v 3] <|
        .bind (.chk true 2) [.v 16] <|
        .bind (.lit 114 2) [.v 16] <|
        .bind (.app 114 2 16) [.v 2, .v 18] <|
        .bind (.bin .add 3 (.tmp 14) (K' 1)) [.v 3, k' 1] <|
        .jump 1 [.v 0, .v 1, .v 19, .v 20, .v 4]) (
        fl' 0 4 <|
        ir' 0 3 <|
        .bind (.elem 2 false 1 0) [.v 0, .v 3] <|
        .bind (.mm false) [.v 15, .v 17] <|
        fl' 1 4 <|
        ir' 0 3 <|
        .bind (.elem 2 false 1 1) [.v 0, .v 3] <|
        .bind (.mm true) [.v 19, .v 21] <|
        .bind (.bin .add 3 (.tmp 14) (K' 1)) [.v 3, k' 1] <|
        .jump 1 [.v 0, .v 1, .v 2, .v 23, .agg [.v 18, .v 22]]))) (
    .bind (.chk true 2) [.v 4] <|
    .bind (.lit 114 2) [.v 4] <|
    .bind (.app 114 2 16) [.v 1, .v 8] <|
    .bind (.app 114 2 16) [.v 9, .v 2] <|
    .ret [.v 10])
def u281Ts : Nat → Tree
  | 0 => u281T0
  | 1 => u281T1
  | _ => .fail
def u237P : Nat → Pat
  | 1 => ⟨[⟨.pure, false⟩, ⟨.pure, false⟩, ⟨.pure, true⟩], [(0, .v 0), (3, .v 1), (4, .v 2)], []⟩
  | _ => ⟨[], [], []⟩
def u237T0 : Tree :=
  .bind (.lit 114 2) [] <|
  .jump 1 [.v 0, .v 1, k' 0]
def u237T1 : Tree :=
  ln' 0 <|
  .bind (.bin .lss 3 (.tmp 6) (.tmp 8)) [.v 2, .v 3] <|
  .ite (.v 4) (
    ir' 0 2 <|
    .bind (.elem 2 true 2 0) [.v 0, .v 2] <|
    .call (.fn 124) [.v 6] 1 <|
    .ite (.v 7) (
      ir' 0 2 <|
      .bind (.elem 2 true 2 0) [.v 0, .v 2] <|
      .call (.fn 281) [.v 1, .v 9] 0 <|
      .bind (.bin .add 3 (.tmp 10) (K' 1)) [.v 2, k' 1] <|
      .jump 1 [.v 0, .v 10, .v 11]) (
      .bind (.bin .add 3 (.tmp 10) (K' 1)) [.v 2, k' 1] <|
      .jump 1 [.v 0, .v 1, .v 8])) (
    .ret [.v 1])
def u237Ts : Nat → Tree
  | 0 => u237T0
  | 1 => u237T1
  | _ => .fail
def u238P : Nat → Pat
  | 1 => ⟨[⟨.pure, false⟩, ⟨.fresh, true⟩, ⟨.pure, true⟩, ⟨.pure, false⟩], [(0, .v 0), (3, .loc 0 0), (5, .v 1), (6, .v 2)], [some (.whole (.v 3) 2)]⟩
  | _ => ⟨[], [], []⟩
def u238T0 : Tree :=
  .bind (.chk true 2) [.v 1] <|
  .bind (.lit 114 2) [] <|
  .jump 1 [.v 0, .v 3, k' 0, .v 2]
def u238T1 : Tree :=
  ln' 0 <|
  .bind (.bin .lss 3 (.tmp 10) (.tmp 12)) [.v 2, .v 4] <|
  .ite (.v 5) (
    ir' 0 2 <|
    .bind (.elem 2 false 1 0) [.v 0, .v 2] <|
    ir' 0 2 <|
    .bind (.elem 2 false 1 1) [.v 0, .v 2] <|
    fl' 0 3 <|
    .bind (.mm false) [.v 9, .v 10] <|
    ir' 0 2 <|
    .bind (.elem 2 false 1 0) [.v 0, .v 2] <|
    fl' 1 3 <|
    .bind (.mm true) [.v 13, .v 14] <|
    ir' 0 2 <|
    .bind (.elem 2 false 1 1) [.v 0, .v 2] <|
    .call (.fn 124) [.agg [.v 7, .v 11]] 1 <|
    .ite (.v 18) (
      .bind (.chk true 2) [.agg [.v 7, .v 11]] <|
      .bind (.lit 114 2) [.agg [.v 7, .v 11]] <|
      .bind (.app 114 2 16) [.v 1, .v 20] <|
      .call (.fn 124) [.agg [.v 15, .v 17]] 1 <|
      .ite (.v 22) (
        .bind (.chk true 2) [.agg [.v 15, .v 17]] <|
        .bind (.lit 114 2) [.agg [.v 15, .v 17]] <|
        .bind (.app 114 2 16) [.v 21, .v 24] <|
        .bind (.bin .add 3 (.tmp 14) (K' 1)) [.v 2, k' 1] <|
        .jump 1 [.v 0, .v 25, .v 26, .v 3]) (
        .bind (.bin .add 3 (.tmp 14) (K' 1)) [.v 2, k' 1] <|
        .jump 1 [.v 0, .v 21, .v 23, .v 3])) (
      .call (.fn 124) [.agg [.v 15, .v 17]] 1 <|
      .ite (.v 19) (
        .bind (.chk true 2) [.agg [.v 15, .v 17]] <|
        .bind (.lit 114 2) [.agg [.v 15, .v 17]] <|
        .bind (.app 114 2 16) [.v 1, .v 21] <|
        .bind (.bin .add 3 (.tmp 14) (K' 1)) [.v 2, k' 1] <|
        .jump 1 [.v 0, .v 22, .v 23, .v 3]) (
        .bind (.bin .add 3 (.tmp 14) (K' 1)) [.v 2, k' 1] <|
        .jump 1 [.v 0, .v 1, .v 20, .v 3]))) (
    .ret [.v 1])
def u238Ts : Nat → Tree
  | 0 => u238T0
  | 1 => u238T1
  | _ => .fail
def u175P : Nat → Pat
  | 1 => ⟨[⟨.pure, false⟩, ⟨.pure, false⟩, ⟨.pure, true⟩], [(1, .v 0), (5, .v 1), (6, .v 2)], []⟩
  | _ => ⟨[], [], []⟩
def u175T0 : Tree :=
  .call (.fn 237) [.v 0] 0 <|
  .jump 1 [.v 1, .v 2, k' 0]
def u175T1 : Tree :=
  ln' 0 <|
  .bind (.bin .lss 3 (.tmp 9) (.tmp 11)) [.v 2, .v 3] <|
  .ite (.v 4) (
    ir' 0 2 <|
    .bind (.elem 2 true 2 0) [.v 0, .v 2] <|
    .call (.fn 124) [.v 6] 1 <|
    .ite (.v 7) (
      ir' 0 2 <|
      .bind (.elem 2 true 2 0) [.v 0, .v 2] <|
      .call (.fn 238) [.v 1, .v 9] 0 <|
      .bind (.bin .add 3 (.tmp 13) (K' 1)) [.v 2, k' 1] <|
      .jump 1 [.v 0, .v 10, .v 11]) (
      .bind (.bin .add 3 (.tmp 13) (K' 1)) [.v 2, k' 1] <|
      .jump 1 [.v 0, .v 1, .v 8])) (
    .ret [.v 1])
def u175Ts : Nat → Tree
  | 0 => u175T0
  | 1 => u175T1
  | _ => .fail
def u124P : Nat → Pat
  | _ => ⟨[], [], []⟩
def u124T0 : Tree :=
  .bind (.chk true 2) [.v 0] <|
  fl' 0 1 <|
  .bind (.bin .geq 3 (.tmp 4) (K' 0)) [.v 2, k' 0] <|
  .ite (.v 3) (
    fl' 0 1 <|
    fl' 1 1 <|
    .bind (.bin .lss 3 (.tmp 8) (.tmp 10)) [.v 4, .v 5] <|
    .ite (.v 6) (
      fl' 1 1 <|
      .bind (.bin .leq 3 (.tmp 15) (K' 86400000)) [.v 7, k' 86400000] <|
      .ret [.v 8]) (
      .ret [.c (.bool false)])) (
    .ret [.c (.bool false)])
def u124Ts : Nat → Tree
  | 0 => u124T0
  | _ => .fail
def u180P : Nat → Pat
  | 1 => ⟨[⟨.pure, false⟩, ⟨.pure, false⟩, ⟨.pure, true⟩, ⟨.pure, true⟩], [(1, .v 0), (5, .v 1), (10, .v 2), (11, .v 3)], []⟩
  | _ => ⟨[], [], []⟩
def u180T0 : Tree :=
  .call (.fn 168) [.v 0] 0 <|
  ln' 1 <|
  .jump 1 [.v 1, .v 2, .v 3, k' 0]
def u180T1 : Tree :=
  .bind (.bin .lss 3 (.tmp 11) (.tmp 10)) [.v 3, .v 2] <|
  .ite (.v 4) (
    ir' 0 3 <|
    .bind (.elem 1 false 1 0) [.v 0, .v 3] <|
    .call (.fn 233) [.v 1, .v 6] 0 <|
    .bind (.bin .add 3 (.tmp 11) (K' 1)) [.v 3, k' 1] <|
    .jump 1 [.v 0, .v 7, .v 2, .v 8]) (
    .ret [.v 1])
def u180Ts : Nat → Tree
  | 0 => u180T0
  | 1 => u180T1
  | _ => .fail
def u168P : Nat → Pat
  | 1 => ⟨[⟨.pure, false⟩, ⟨.pure, false⟩, ⟨.pure, true⟩, ⟨.pure, true⟩], [(0, .v 0), (3, .v 1), (6, .v 2), (7, .v 3)], []⟩
  | _ => ⟨[], [], []⟩
def u168T0 : Tree :=
  ln' 0 <|
  .jump 1 [.v 0, .c (.slice none 0 0), .v 1, k' 0]
def u168T1 : Tree :=
  .bind (.bin .lss 3 (.tmp 7) (.tmp 6)) [.v 3, .v 2] <|
  .ite (.v 4) (
    ir' 0 3 <|
    .bind (.elem 1 false 1 0) [.v 0, .v 3] <|
    .call (.fn 233) [.v 1, .v 6] 0 <|
    .bind (.bin .add 3 (.tmp 7) (K' 1)) [.v 3, k' 1] <|
    .jump 1 [.v 0, .v 7, .v 2, .v 8]) (
    .ret [.v 1])
def u168Ts : Nat → Tree
  | 0 => u168T0
  | 1 => u168T1
  | _ => .fail
def u120P : Nat → Pat
  | 1 => ⟨[⟨.pure, false⟩, ⟨.pure, false⟩, ⟨.pure, true⟩, ⟨.pure, true⟩], [(0, .v 0), (1, .v 1), (7, .v 2), (8, .v 3)], []⟩
  | _ => ⟨[], [], []⟩
def u120T0 : Tree :=
  ln' 0 <|
  .jump 1 [.v 0, .v 1, .v 2, k' 0]
def u120T1 : Tree :=
  .bind (.bin .lss 3 (.tmp 8) (.tmp 7)) [.v 3, .v 2] <|
  .ite (.v 4) (
    ir' 0 3 <|
    .bind (.elem 4 false 1 0) [.v 0, .v 3] <|
    .bind (.bin .eql 3 (.tmp 15) (.tmp 16)) [.v 6, .v 1] <|
    .ite (.v 7) (
      .ret [.v 3]) (
      .bind (.bin .add 3 (.tmp 8) (K' 1)) [.v 3, k' 1] <|
      .jump 1 [.v 0, .v 1, .v 2, .v 8])) (
    .ret [.c (.int .i64 (-1))])
theorem allH : (rootT EE (fun k S => jumpS (Nat.max Tryz.f232.ntmps 2) (u232P k) k S) Tryz.f232 2,
  headsT EE (fun k => (u232P k).st (Nat.max Tryz.f232.ntmps 2)) (fun k S => jumpS (Nat.max Tryz.f232.ntmps 2) (u232P k) k S) 1 (bodyOf Tryz.f232) (endK EE Tryz.f232.results.toList),
  (Tryz.f232.name == "runtime.NumGoroutine" || !regsOk (bodyOf Tryz.f232)),
  rootT EE (fun k S => jumpS (Nat.max Tryz.f39.ntmps 2) (u39P k) k S) Tryz.f39 2,
  headsT EE (fun k => (u39P k).st (Nat.max Tryz.f39.ntmps 2)) (fun k S => jumpS (Nat.max Tryz.f39.ntmps 2) (u39P k) k S) 1 (bodyOf Tryz.f39) (endK EE Tryz.f39.results.toList),
  (Tryz.f39.name == "runtime.NumGoroutine" || !regsOk (bodyOf Tryz.f39)),
  rootT EE (fun k S => jumpS (Nat.max Tryz.f233.ntmps 2) (u233P k) k S) Tryz.f233 2,
  headsT EE (fun k => (u233P k).st (Nat.max Tryz.f233.ntmps 2)) (fun k S => jumpS (Nat.max Tryz.f233.ntmps 2) (u233P k) k S) 1 (bodyOf Tryz.f233) (endK EE Tryz.f233.results.toList),
  (Tryz.f233.name == "runtime.NumGoroutine" || !regsOk (bodyOf Tryz.f233)),
  rootT EE (fun k S => jumpS (Nat.max Tryz.f101.ntmps 3) (u101P k) k S) Tryz.f101 3,
  headsT EE (fun k => (u101P k).st (Nat.max Tryz.f101.ntmps 3)) (fun k S => jumpS (Nat.max Tryz.f101.ntmps 3) (u101P k) k S) 1 (bodyOf Tryz.f101) (endK EE Tryz.f101.results.toList),
  (Tryz.f101.name == "runtime.NumGoroutine" || !regsOk (bodyOf Tryz.f101)),
  rootT EE (fun k S => jumpS (Nat.max Tryz.f111.ntmps 2) (u111P k) k S) Tryz.f111 2,
  headsT EE (fun k => (u111P k).st (Nat.max Tryz.f111.ntmps 2)) (fun k S => jumpS (Nat.max Tryz.f111.ntmps 2) (u111P k) k S) 1 (bodyOf Tryz.f111) (endK EE Tryz.f111.results.toList),
  (Tryz.f111.name == "runtime.NumGoroutine" || !regsOk (bodyOf Tryz.f111)),
  rootT EE (fun k S => jumpS (Nat.max Tryz.f122.ntmps 2) (u122P k) k S) Tryz.f122 2,
  headsT EE (fun k => (u122P k).st (Nat.max Tryz.f122.ntmps 2)) (fun k S => jumpS (Nat.max Tryz.f122.ntmps 2) (u122P k) k S) 1 (bodyOf Tryz.f122) (endK EE Tryz.f122.results.toList),
  (Tryz.f122.name == "runtime.NumGoroutine" || !regsOk (bodyOf Tryz.f122)),
  rootT EE (fun k S => jumpS (Nat.max Tryz.f281.ntmps 2) (u281P k) k S) Tryz.f281 2,
  headsT EE (fun k => (u281P k).st (Nat.max Tryz.f281.ntmps 2)) (fun k S => jumpS (Nat.max Tryz.f281.ntmps 2) (u281P k) k S) 1 (bodyOf Tryz.f281) (endK EE Tryz.f281.results.toList),
  (Tryz.f281.name == "runtime.NumGoroutine" || !regsOk (bodyOf Tryz.f281)),
  rootT EE (fun k S => jumpS (Nat.max Tryz.f237.ntmps 1) (u237P k) k S) Tryz.f237 1,
  headsT EE (fun k => (u237P k).st (Nat.max Tryz.f237.ntmps 1)) (fun k S => jumpS (Nat.max Tryz.f237.ntmps 1) (u237P k) k S) 1 (bodyOf Tryz.f237) (endK EE Tryz.f237.results.toList),
  (Tryz.f237.name == "runtime.NumGoroutine" || !regsOk (bodyOf Tryz.f237)),
  rootT EE (fun k S => jumpS (Nat.max Tryz.f238.ntmps 2) (u238P k) k S) Tryz.f238 2,
  headsT EE (fun k => (u238P k).st (Nat.max Tryz.f238.ntmps 2)) (fun k S => jumpS (Nat.max Tryz.f238.ntmps 2) (u238P k) k S) 1 (bodyOf Tryz.f238) (endK EE Tryz.f238.results.toList),
  (Tryz.f238.name == "runtime.NumGoroutine" || !regsOk (bodyOf Tryz.f238)),
  rootT EE (fun k S => jumpS (Nat.max Tryz.f175.ntmps 2) (u175P k) k S) Tryz.f175 2,
  headsT EE (fun k => (u175P k).st (Nat.max Tryz.f175.ntmps 2)) (fun k S => jumpS (Nat.max Tryz.f175.ntmps 2) (u175P k) k S) 1 (bodyOf Tryz.f175) (endK EE Tryz.f175.results.toList),
  (Tryz.f175.name == "runtime.NumGoroutine" || !regsOk (bodyOf Tryz.f175)),
  rootT EE (fun k S => jumpS (Nat.max Tryz.f124.ntmps 1) (u124P k) k S) Tryz.f124 1,
  headsT EE (fun k => (u124P k).st (Nat.max Tryz.f124.ntmps 1)) (fun k S => jumpS (Nat.max Tryz.f124.ntmps 1) (u124P k) k S) 1 (bodyOf Tryz.f124) (endK EE Tryz.f124.results.toList),
  (Tryz.f124.name == "runtime.NumGoroutine" || !regsOk (bodyOf Tryz.f124)),
  rootT EE (fun k S => jumpS (Nat.max Tryz.f180.ntmps 2) (u180P k) k S) Tryz.f180 2,
  headsT EE (fun k => (u180P k).st (Nat.max Tryz.f180.ntmps 2)) (fun k S => jumpS (Nat.max Tryz.f180.ntmps 2) (u180P k) k S) 1 (bodyOf Tryz.f180) (endK EE Tryz.f180.results.toList),
  (Tryz.f180.name == "runtime.NumGoroutine" || !regsOk (bodyOf Tryz.f180)),
  rootT EE (fun k S => jumpS (Nat.max Tryz.f168.ntmps 1) (u168P k) k S) Tryz.f168 1,
  headsT EE (fun k => (u168P k).st (Nat.max Tryz.f168.ntmps 1)) (fun k S => jumpS (Nat.max Tryz.f168.ntmps 1) (u168P k) k S) 1 (bodyOf Tryz.f168) (endK EE Tryz.f168.results.toList),
  (Tryz.f168.name == "runtime.NumGoroutine" || !regsOk (bodyOf Tryz.f168)),
  rootT EE (fun k S => jumpS (Nat.max Tryz.f120.ntmps 2) (u120P k) k S) Tryz.f120 2,
  headsT EE (fun k => (u120P k).st (Nat.max Tryz.f120.ntmps 2)) (fun k S => jumpS (Nat.max Tryz.f120.ntmps 2) (u120P k) k S) 1 (bodyOf Tryz.f120) (endK EE Tryz.f120.results.toList),
  (Tryz.f120.name == "runtime.NumGoroutine" || !regsOk (bodyOf Tryz.f120))) =
  (u232T0, [(1, u232T1)], false, u39T0, [(1, u39T1), (2, u39T2), (3, u39T3)], false, u233T0, [(1, u233T1)], false, u101T0, [(1, u101T1), (2, u101T2), (3, u101T3), (4, u101T4)], false, u111T0, [], false, u122T0, [(1, u122T1), (2, u122T2)], false, u281T0, [(1, u281T1)], false, u237T0, [(1, u237T1)], false, u238T0, [(1, u238T1)], false, u175T0, [(1, u175T1)], false, u124T0, [], false, u180T0, [(1, u180T1)], false, u168T0, [(1, u168T1)], false, u120T0, [(1, u120T1)], false) := by kernel_rfl
theorem u232 {ds : List D} {d : D} (hn : ds.length = 2) (h : Goes EE (Holds EE) u232Ts 0 ds d) : Holds EE 232 ds d :=
  holds_of he (envFunc (c := bodyOf Tryz.f232) Tryz.func232 rfl ((Prod.mk.inj (nx1 (nx1 allH))).1)) (c := bodyOf Tryz.f232) rfl hn ((Prod.mk.inj allH).1) (by rw [(Prod.mk.inj (nx1 allH)).1]; exact tabC rfl <| tabN) h
theorem u39 {ds : List D} {d : D} (hn : ds.length = 2) (h : Goes EE (Holds EE) u39Ts 0 ds d) : Holds EE 39 ds d :=
  holds_of he (envFunc (c := bodyOf Tryz.f39) Tryz.func39 rfl ((Prod.mk.inj (nx1 (nx4 allH))).1)) (c := bodyOf Tryz.f39) rfl hn ((Prod.mk.inj (nx1 (nx1 (nx1 allH)))).1) (by rw [(Prod.mk.inj (nx4 allH)).1]; exact tabC rfl <| tabC rfl <| tabC rfl <| tabN) h
theorem u233 {ds : List D} {d : D} (hn : ds.length = 2) (h : Goes EE (Holds EE) u233Ts 0 ds d) : Holds EE 233 ds d :=
  holds_of he (envFunc (c := bodyOf Tryz.f233) Tryz.func233 rfl ((Prod.mk.inj (nx4 (nx4 allH))).1)) (c := bodyOf Tryz.f233) rfl hn ((Prod.mk.inj (nx1 (nx1 (nx4 allH)))).1) (by rw [(Prod.mk.inj (nx1 (nx1 (nx1 (nx4 allH))))).1]; exact tabC rfl <| tabN) h
theorem u101 {ds : List D} {d : D} (hn : ds.length = 3) (h : Goes EE (Holds EE) u101Ts 0 ds d) : Holds EE 101 ds d :=
  holds_of he (envFunc (c := bodyOf Tryz.f101) Tryz.func101 rfl ((Prod.mk.inj (nx1 (nx1 (nx1 (nx4 (nx4 allH)))))).1)) (c := bodyOf Tryz.f101) rfl hn ((Prod.mk.inj (nx1 (nx4 (nx4 allH)))).1) (by rw [(Prod.mk.inj (nx1 (nx1 (nx4 (nx4 allH))))).1]; exact tabC rfl <| tabC rfl <| tabC rfl <| tabC rfl <| tabN) h
theorem u111 {ds : List D} {d : D} (hn : ds.length = 2) (h : Goes EE (Holds EE) u111Ts 0 ds d) : Holds EE 111 ds d :=
  holds_of he (envFunc (c := bodyOf Tryz.f111) Tryz.func111 rfl ((Prod.mk.inj (nx1 (nx1 (nx4 (nx4 (nx4 allH)))))).1)) (c := bodyOf Tryz.f111) rfl hn ((Prod.mk.inj (nx4 (nx4 (nx4 allH)))).1) (by rw [(Prod.mk.inj (nx1 (nx4 (nx4 (nx4 allH))))).1]; exact tabN) h
theorem u122 {ds : List D} {d : D} (hn : ds.length = 2) (h : Goes EE (Holds EE) u122Ts 0 ds d) : Holds EE 122 ds d :=
  holds_of he (envFunc (c := bodyOf Tryz.f122) Tryz.func122 rfl ((Prod.mk.inj (nx1 (nx16 allH))).1)) (c := bodyOf Tryz.f122) rfl hn ((Prod.mk.inj (nx1 (nx1 (nx1 (nx4 (nx4 (nx4 allH))))))).1) (by rw [(Prod.mk.inj (nx16 allH)).1]; exact tabC rfl <| tabC rfl <| tabN) h
theorem u281 {ds : List D} {d : D} (hn : ds.length = 2) (h : Goes EE (Holds EE) u281Ts 0 ds d) : Holds EE 281 ds d :=
  holds_of he (envFunc (c := bodyOf Tryz.f281) Tryz.func281 rfl ((Prod.mk.inj (nx4 (nx16 allH))).1)) (c := bodyOf Tryz.f281) rfl hn ((Prod.mk.inj (nx1 (nx1 (nx16 allH)))).1) (by rw [(Prod.mk.inj (nx1 (nx1 (nx1 (nx16 allH))))).1]; exact tabC rfl <| tabN) h
theorem u237 {ds : List D} {d : D} (hn : ds.length = 1) (h : Goes EE (Holds EE) u237Ts 0 ds d) : Holds EE 237 ds d :=
  holds_of he (envFunc (c := bodyOf Tryz.f237) Tryz.func237 rfl ((Prod.mk.inj (nx1 (nx1 (nx1 (nx4 (nx16 allH)))))).1)) (c := bodyOf Tryz.f237) rfl hn ((Prod.mk.inj (nx1 (nx4 (nx16 allH)))).1) (by rw [(Prod.mk.inj (nx1 (nx1 (nx4 (nx16 allH))))).1]; exact tabC rfl <| tabN) h
theorem u238 {ds : List D} {d : D} (hn : ds.length = 2) (h : Goes EE (Holds EE) u238Ts 0 ds d) : Holds EE 238 ds d :=
  holds_of he (envFunc (c := bodyOf Tryz.f238) Tryz.func238 rfl ((Prod.mk.inj (nx1 (nx1 (nx4 (nx4 (nx16 allH)))))).1)) (c := bodyOf Tryz.f238) rfl hn ((Prod.mk.inj (nx4 (nx4 (nx16 allH)))).1) (by rw [(Prod.mk.inj (nx1 (nx4 (nx4 (nx16 allH))))).1]; exact tabC rfl <| tabN) h
theorem u175 {ds : List D} {d : D} (hn : ds.length = 2) (h : Goes EE (Holds EE) u175Ts 0 ds d) : Holds EE 175 ds d :=
  holds_of he (envFunc (c := bodyOf Tryz.f175) Tryz.func175 rfl ((Prod.mk.inj (nx1 (nx4 (nx4 (nx4 (nx16 allH)))))).1)) (c := bodyOf Tryz.f175) rfl hn ((Prod.mk.inj (nx1 (nx1 (nx1 (nx4 (nx4 (nx16 allH))))))).1) (by rw [(Prod.mk.inj (nx4 (nx4 (nx4 (nx16 allH))))).1]; exact tabC rfl <| tabN) h
theorem u124 {ds : List D} {d : D} (hn : ds.length = 1) (h : Goes EE (Holds EE) u124Ts 0 ds d) : Holds EE 124 ds d :=
  holds_of he (envFunc (c := bodyOf Tryz.f124) Tryz.func124 rfl ((Prod.mk.inj (nx16 (nx16 allH))).1)) (c := bodyOf Tryz.f124) rfl hn ((Prod.mk.inj (nx1 (nx1 (nx4 (nx4 (nx4 (nx16 allH))))))).1) (by rw [(Prod.mk.inj (nx1 (nx1 (nx1 (nx4 (nx4 (nx4 (nx16 allH)))))))).1]; exact tabN) h
theorem u180 {ds : List D} {d : D} (hn : ds.length = 2) (h : Goes EE (Holds EE) u180Ts 0 ds d) : Holds EE 180 ds d :=
  holds_of he (envFunc (c := bodyOf Tryz.f180) Tryz.func180 rfl ((Prod.mk.inj (nx1 (nx1 (nx1 (nx16 (nx16 allH)))))).1)) (c := bodyOf Tryz.f180) rfl hn ((Prod.mk.inj (nx1 (nx16 (nx16 allH)))).1) (by rw [(Prod.mk.inj (nx1 (nx1 (nx16 (nx16 allH))))).1]; exact tabC rfl <| tabN) h
theorem u168 {ds : List D} {d : D} (hn : ds.length = 1) (h : Goes EE (Holds EE) u168Ts 0 ds d) : Holds EE 168 ds d :=
  holds_of he (envFunc (c := bodyOf Tryz.f168) Tryz.func168 rfl ((Prod.mk.inj (nx1 (nx1 (nx4 (nx16 (nx16 allH)))))).1)) (c := bodyOf Tryz.f168) rfl hn ((Prod.mk.inj (nx4 (nx16 (nx16 allH)))).1) (by rw [(Prod.mk.inj (nx1 (nx4 (nx16 (nx16 allH))))).1]; exact tabC rfl <| tabN) h
end Go.Proofs.YtbkinfgpcjjaaaaGreatDoor
