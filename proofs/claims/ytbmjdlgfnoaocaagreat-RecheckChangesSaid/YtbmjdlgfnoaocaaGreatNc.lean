/- Trees of functions. Conditions: none. -/
import Derived.Test.YtbmjdlgfnoaocaaGreatNb
set_option linter.unusedVariables false
set_option linter.unusedSimpArgs false
namespace Go.Proofs.YtbmjdlgfnoaocaaGreat
open Go Go.Am Go.Proofs
def u3P : Nat → Pat
  | _ => ⟨[], [], [], []⟩
def u3T0 : Tree :=
  ln' 0 <|
  .bind (.bin .gtr 3 (.tmp 8) (K' 30)) [.v 3, k' 30] <|
  .ite (.v 4) (
    .call (.fn 4) [] 1 <|
    .ret [.v 5]) (
    ln' 1 <|
    .bind (.bin .gtr 3 (.tmp 12) (K' 30)) [.v 5, k' 30] <|
    .ite (.v 6) (
      .call (.fn 4) [] 1 <|
      .ret [.v 7]) (
      .call (.fn 6) [.v 0, .v 1] 0 <|
      .call (.fn 7) [.v 0, .v 1] 0 <|
      .call (.fn 5) [.v 7, .v 8] 1 <|
      .ite (.v 9) (
        .call (.fn 8) [.v 0, .v 2] 1 <|
        .call (.fn 9) [.v 0, .v 2] 1 <|
        .bind (.bin .eql 3 (.tmp 26) (.tmp 29)) [.v 10, .v 11] <|
        .ite (.v 12) (
          .call (.fn 10) [.v 0, .v 1] 1 <|
          .call (.fn 11) [.v 0, .v 1] 1 <|
          .bind (.bin .eql 4 (.tmp 35) (.tmp 38)) [.v 13, .v 14] <|
          .ite (.v 15) (
            .call (.fn 4) [] 1 <|
            .ret [.v 16]) (
            .ret [.c (.bool false)])) (
          .ret [.c (.bool false)])) (
        .ret [.c (.bool false)])))
def u3Ts : Nat → Tree
  | 0 => u3T0
  | _ => .fail
def u5P : Nat → Pat
  | 1 => ⟨[⟨.pure, false⟩, ⟨.pure, false⟩, ⟨.pure, true⟩], [(0, .v 0), (1, .v 1), (5, .v 2)], [], []⟩
  | _ => ⟨[], [], [], []⟩
def u5T0 : Tree :=
  ln' 0 <|
  ln' 1 <|
  .bind (.bin .neq 3 (.tmp 7) (.tmp 9)) [.v 2, .v 3] <|
  .ite (.v 4) (
    .ret [.c (.bool false)]) (
    .jump 1 [.v 0, .v 1, k' 0])
def u5T1 : Tree :=
  ln' 0 <|
  .bind (.bin .lss 3 (.tmp 11) (.tmp 13)) [.v 2, .v 3] <|
  .ite (.v 4) (
    ir' 0 2 <|
    .bind (.elem 2 true 2 0) [.v 0, .v 2] <|
    ir' 1 2 <|
    .bind (.elem 2 true 2 0) [.v 1, .v 2] <|
    .bind (.bin .neq 50 (.tmp 20) (.tmp 24)) [.v 6, .v 8] <|
    .ite (.v 9) (
      .ret [.c (.bool false)]) (
      .bind (.bin .add 3 (.tmp 15) (K' 1)) [.v 2, k' 1] <|
      .jump 1 [.v 0, .v 1, .v 10])) (
    .ret [.c (.bool true)])
def u5Ts : Nat → Tree
  | 0 => u5T0
  | 1 => u5T1
  | _ => .fail
def u7P : Nat → Pat
  | 1 => ⟨[⟨.pure, false⟩, ⟨.pure, false⟩, ⟨.pure, false⟩, ⟨.pure, true⟩], [(0, .v 0), (1, .v 1), (5, .v 2), (6, .v 3)], [], []⟩
  | 2 => ⟨[⟨.pure, false⟩, ⟨.pure, false⟩, ⟨.pure, false⟩, ⟨.pure, true⟩], [(0, .v 0), (1, .v 1), (5, .v 2), (11, .v 3)], [], []⟩
  | _ => ⟨[], [], [], []⟩
def u7T0 : Tree :=
  .jump 1 [.v 0, .v 1, .c (.slice none 0 0), k' 0]
def u7T1 : Tree :=
  ln' 0 <|
  .bind (.bin .lss 3 (.tmp 14) (.tmp 16)) [.v 3, .v 4] <|
  .ite (.v 5) (
    ir' 0 3 <|
    .bind (.elem 4 true 2 0) [.v 0, .v 3] <|
    .call (.fn 25) [.v 0, .v 7] 0 <|
    .bind (.ext 0) [.v 8] <|
    .bind (.ext 1) [.v 8] <|
    .bind (.chk true 4) [.v 9] <|
    ir' 0 3 <|
    .bind (.elem 4 true 2 0) [.v 0, .v 3] <|
    .call (.fn 25) [.v 1, .v 13] 0 <|
    .bind (.ext 0) [.v 14] <|
    .bind (.ext 1) [.v 14] <|
    .bind (.chk true 4) [.v 15] <|
    .bind (.un .not 4) [.v 16] <|
    .ite (.v 18) (
      ir' 0 3 <|
      .bind (.elem 4 true 2 0) [.v 0, .v 3] <|
      .call (.fn 27) [.v 2, .v 20] 0 <|
      .bind (.bin .add 3 (.tmp 18) (K' 1)) [.v 3, k' 1] <|
      .jump 1 [.v 0, .v 1, .v 21, .v 22]) (
      .call (.fn 26) [.v 11, .v 17] 1 <|
      .bind (.un .not 4) [.v 19] <|
      .ite (.v 20) (
        ir' 0 3 <|
        .bind (.elem 4 true 2 0) [.v 0, .v 3] <|
        .call (.fn 27) [.v 2, .v 22] 0 <|
        .bind (.bin .add 3 (.tmp 18) (K' 1)) [.v 3, k' 1] <|
        .jump 1 [.v 0, .v 1, .v 23, .v 24]) (
        .bind (.bin .add 3 (.tmp 18) (K' 1)) [.v 3, k' 1] <|
        .jump 1 [.v 0, .v 1, .v 2, .v 21]))) (
    .jump 2 [.v 0, .v 1, .v 2, k' 0])
def u7T2 : Tree :=
  ln' 1 <|
  .bind (.bin .lss 3 (.tmp 55) (.tmp 57)) [.v 3, .v 4] <|
  .ite (.v 5) (
    ir' 1 3 <|
    .bind (.elem 4 true 2 0) [.v 1, .v 3] <|
    .call (.fn 25) [.v 0, .v 7] 0 <|
    .bind (.ext 0) [.v 8] <|
    .bind (.ext 1) [.v 8] <|
    .bind (.chk true 4) [.v 9] <|
    .bind (.un .not 4) [.v 10] <|
    .ite (.v 12) (
      ir' 1 3 <|
      .bind (.elem 4 true 2 0) [.v 1, .v 3] <|
      .call (.fn 27) [.v 2, .v 14] 0 <|
      .bind (.bin .add 3 (.tmp 59) (K' 1)) [.v 3, k' 1] <|
      .jump 2 [.v 0, .v 1, .v 15, .v 16]) (
      .bind (.bin .add 3 (.tmp 59) (K' 1)) [.v 3, k' 1] <|
      .jump 2 [.v 0, .v 1, .v 2, .v 13])) (
    .ret [.v 2])
def u7Ts : Nat → Tree
  | 0 => u7T0
  | 1 => u7T1
  | 2 => u7T2
  | _ => .fail
def u8P : Nat → Pat
  | 1 => ⟨[⟨.pure, false⟩, ⟨.pure, true⟩, ⟨.pure, false⟩, ⟨.pure, true⟩, ⟨.pure, true⟩], [(1, .v 0), (5, .v 1), (8, .v 2), (9, .v 3), (10, .v 4)], [], []⟩
  | _ => ⟨[], [], [], []⟩
def u8T0 : Tree :=
  ln' 0 <|
  .jump 1 [.v 1, k' 0, .v 0, .v 2, k' 0]
def u8T1 : Tree :=
  .bind (.bin .lss 3 (.tmp 10) (.tmp 9)) [.v 4, .v 3] <|
  .ite (.v 5) (
    ir' 2 4 <|
    .bind (.elem 4 true 4 0) [.v 2, .v 4] <|
    .bind (.chk true 4) [.v 7] <|
    fl' 2 8 <|
    .bind (.bin .eql 3 (.tmp 15) (.tmp 16)) [.v 9, .v 0] <|
    .ite (.v 10) (
      .bind (.bin .add 3 (.tmp 18) (K' 1)) [.v 1, k' 1] <|
      .bind (.bin .add 3 (.tmp 10) (K' 1)) [.v 4, k' 1] <|
      .jump 1 [.v 0, .v 11, .v 2, .v 3, .v 12]) (
      .bind (.bin .add 3 (.tmp 10) (K' 1)) [.v 4, k' 1] <|
      .jump 1 [.v 0, .v 1, .v 2, .v 3, .v 11])) (
    .ret [.v 1])
def u8Ts : Nat → Tree
  | 0 => u8T0
  | 1 => u8T1
  | _ => .fail
def u9P : Nat → Pat
  | 1 => ⟨[⟨.pure, false⟩, ⟨.pure, false⟩, ⟨.pure, true⟩, ⟨.pure, true⟩], [(0, .v 0), (1, .v 1), (5, .v 2), (6, .v 3)], [], []⟩
  | _ => ⟨[], [], [], []⟩
def u9T0 : Tree :=
  .jump 1 [.v 0, .v 1, k' 0, k' 0]
def u9T1 : Tree :=
  ln' 0 <|
  .bind (.bin .lss 3 (.tmp 7) (.tmp 9)) [.v 3, .v 4] <|
  .ite (.v 5) (
    ir' 0 3 <|
    .bind (.elem 4 false 1 2) [.v 0, .v 3] <|
    .bind (.bin .eql 3 (.tmp 17) (.tmp 18)) [.v 7, .v 1] <|
    .ite (.v 8) (
      .bind (.bin .add 3 (.tmp 20) (K' 1)) [.v 2, k' 1] <|
      .bind (.bin .add 3 (.tmp 11) (K' 1)) [.v 3, k' 1] <|
      .jump 1 [.v 0, .v 1, .v 9, .v 10]) (
      .bind (.bin .add 3 (.tmp 11) (K' 1)) [.v 3, k' 1] <|
      .jump 1 [.v 0, .v 1, .v 2, .v 9])) (
    .ret [.v 2])
def u9Ts : Nat → Tree
  | 0 => u9T0
  | 1 => u9T1
  | _ => .fail
def u10P : Nat → Pat
  | _ => ⟨[], [], [], []⟩
def u10T0 : Tree :=
  .call (.fn 28) [.v 0, .v 1, .fn (.func 19) [] []] 1 <|
  .ret [.v 2]
def u10Ts : Nat → Tree
  | 0 => u10T0
  | _ => .fail
def u11P : Nat → Pat
  | 1 => ⟨[⟨.pure, false⟩, ⟨.pure, false⟩, ⟨.pure, true⟩], [(0, .v 0), (1, .v 1), (5, .v 2)], [], []⟩
  | _ => ⟨[], [], [], []⟩
def u11T0 : Tree :=
  ln' 0 <|
  ln' 1 <|
  .bind (.bin .neq 3 (.tmp 7) (.tmp 9)) [.v 2, .v 3] <|
  .ite (.v 4) (
    .ret [.c (.bool false)]) (
    .jump 1 [.v 0, .v 1, k' 0])
def u11T1 : Tree :=
  ln' 0 <|
  .bind (.bin .lss 3 (.tmp 11) (.tmp 13)) [.v 2, .v 3] <|
  .ite (.v 4) (
    ir' 0 2 <|
    .bind (.elem 4 true 4 0) [.v 0, .v 2] <|
    ir' 1 2 <|
    .bind (.elem 4 true 4 0) [.v 1, .v 2] <|
    .call (.fn 26) [.v 6, .v 8] 1 <|
    .bind (.un .not 4) [.v 9] <|
    .ite (.v 10) (
      .ret [.c (.bool false)]) (
      .bind (.bin .add 3 (.tmp 15) (K' 1)) [.v 2, k' 1] <|
      .jump 1 [.v 0, .v 1, .v 11])) (
    .ret [.c (.bool true)])
def u11Ts : Nat → Tree
  | 0 => u11T0
  | 1 => u11T1
  | _ => .fail
def u18P : Nat → Pat
  | _ => ⟨[], [], [], []⟩
def u18T0 : Tree :=
  .bind (.chk true 2) [.v 1] <|
  .bind .boxw [.v 2] <|
  .call (.fn 32) [.v 0, .fn (.func 33) [] [.pp 3 0]] 1 <|
  .bind (.bin .lss 3 (.tmp 10) (K' 0)) [.v 4, k' 0] <|
  .ite (.v 5) (
    .ret [.agg [k' 0, k' 0, k' 0, .c (.slice none 0 0)], .c (.bool false)]) (
    ir' 0 4 <|
    .bind (.elem 4 true 4 0) [.v 0, .v 4] <|
    .bind (.chk true 4) [.v 7] <|
    .ret [.v 8, .c (.bool true)])
def u18Ts : Nat → Tree
  | 0 => u18T0
  | _ => .fail
def u19P : Nat → Pat
  | _ => ⟨[], [], [], []⟩
def u19T0 : Tree :=
  .bind (.chk true 4) [.v 0] <|
  .bind (.chk true 4) [.v 1] <|
  .bind (.fld true 2 0) [.v 2] <|
  .bind (.fld true 2 0) [.v 3] <|
  .bind (.bin .eql 50 (.tmp 6) (.tmp 8)) [.v 4, .v 5] <|
  .ite (.v 6) (
    fl' 2 2 <|
    fl' 2 3 <|
    .bind (.bin .eql 3 (.tmp 12) (.tmp 14)) [.v 7, .v 8] <|
    .ite (.v 9) (
      .bind (.fld true 1 3) [.v 2] <|
      .bind (.fld true 1 3) [.v 3] <|
      .call (.fn 34) [.v 10, .v 11] 1 <|
      .ret [.v 12]) (
      .ret [.c (.bool false)])) (
    .ret [.c (.bool false)])
def u19Ts : Nat → Tree
  | 0 => u19T0
  | _ => .fail
def u21P : Nat → Pat
  | _ => ⟨[], [], [], []⟩
def u21T0 : Tree :=
  .bind (.chk true 2) [.v 0] <|
  .bind (.chk true 2) [.v 1] <|
  fl' 0 2 <|
  fl' 0 3 <|
  .call (.fn 23) [.v 4, .v 5] 1 <|
  fl' 1 2 <|
  fl' 1 3 <|
  .call (.fn 23) [.v 7, .v 8] 1 <|
  .bind (.chk false 1) [.v 6] <|
  .bind (.chk false 1) [.v 9] <|
  .bind (.lit 3 1) [.v 6, .v 9] <|
  .call (.fn 22) [.v 12] 1 <|
  .ret [.v 13]
def u21Ts : Nat → Tree
  | 0 => u21T0
  | _ => .fail
def u22P : Nat → Pat
  | 1 => ⟨[⟨.pure, false⟩, ⟨.pure, true⟩, ⟨.pure, true⟩], [(3, k' 0), (6, .v 0), (7, .v 1), (8, .v 2)], [], []⟩
  | _ => ⟨[], [], [], []⟩
def u22T0 : Tree :=
  ln' 0 <|
  .jump 1 [.v 0, .v 1, k' 0]
def u22T1 : Tree :=
  .bind (.bin .lss 3 (.tmp 8) (.tmp 7)) [.v 2, .v 1] <|
  .ite (.v 3) (
    ir' 0 2 <|
    .bind (.elem 1 false 1 0) [.v 0, .v 2] <|
    .bind (.bin .neq 3 (.tmp 12) (.tmp 13)) [.v 5, k' 0] <|
    .ite (.v 6) (
      .ret [.v 5]) (
      .bind (.bin .add 3 (.tmp 8) (K' 1)) [.v 2, k' 1] <|
      .jump 1 [.v 0, .v 1, .v 7])) (
    .ret [k' 0])
def u22Ts : Nat → Tree
  | 0 => u22T0
  | 1 => u22T1
  | _ => .fail
def u23P : Nat → Pat
  | _ => ⟨[], [], [], []⟩
def u23T0 : Tree :=
  .call (.fn 37) [.v 0] 1 <|
  .call (.fn 37) [.v 1] 1 <|
  .ite (.v 2) (
    .ite (.v 3) (
      .ret [k' 0]) (
      .ret [.c (.int .i64 (-1))])) (
    .ite (.v 3) (
      .ret [k' 1]) (
      .bind (.bin .lss 3 (.tmp 14) (.tmp 15)) [.v 0, .v 1] <|
      .ite (.v 4) (
        .ret [.c (.int .i64 (-1))]) (
        .bind (.bin .gtr 3 (.tmp 17) (.tmp 18)) [.v 0, .v 1] <|
        .ite (.v 5) (
          .ret [k' 1]) (
          .ret [k' 0]))))
def u23Ts : Nat → Tree
  | 0 => u23T0
  | _ => .fail
def u25P : Nat → Pat
  | 1 => ⟨[⟨.pure, false⟩, ⟨.pure, true⟩, ⟨.pure, false⟩], [(0, .v 0), (3, .loc 0 0), (4, .loc 1 0), (6, .v 1)], [some (.whole (.v 2) 2), some (.cells [k' 0, k' 0, k' 0, .c (.slice none 0 0)])], []⟩
  | _ => ⟨[], [], [], []⟩
def u25T0 : Tree :=
  .bind (.chk true 2) [.v 1] <|
  .jump 1 [.v 0, k' 0, .v 2]
def u25T1 : Tree :=
  ln' 0 <|
  .bind (.bin .lss 3 (.tmp 7) (.tmp 9)) [.v 1, .v 3] <|
  .ite (.v 4) (
    ir' 0 1 <|
    .bind (.elem 4 true 2 0) [.v 0, .v 1] <|
    .bind (.bin .eql 50 (.tmp 17) (.tmp 18)) [.v 6, .v 2] <|
    .ite (.v 7) (
      ir' 0 1 <|
      .bind (.elem 4 true 4 0) [.v 0, .v 1] <|
      .bind (.chk true 4) [.v 9] <|
      .ret [.v 10, .c (.bool true)]) (
      .bind (.bin .add 3 (.tmp 11) (K' 1)) [.v 1, k' 1] <|
      .jump 1 [.v 0, .v 8, .v 2])) (
    .ret [.agg [k' 0, k' 0, k' 0, .c (.slice none 0 0)], .c (.bool false)])
def u25Ts : Nat → Tree
  | 0 => u25T0
  | 1 => u25T1
  | _ => .fail
def u26P : Nat → Pat
  | _ => ⟨[], [], [], []⟩
def u26T0 : Tree :=
  .bind (.chk true 4) [.v 0] <|
  .bind (.chk true 4) [.v 1] <|
  .bind (.fld true 2 0) [.v 2] <|
  .bind (.fld true 2 0) [.v 3] <|
  .bind (.bin .eql 50 (.tmp 6) (.tmp 8)) [.v 4, .v 5] <|
  .ite (.v 6) (
    fl' 2 2 <|
    fl' 2 3 <|
    .bind (.bin .eql 3 (.tmp 12) (.tmp 14)) [.v 7, .v 8] <|
    .ite (.v 9) (
      .bind (.fld true 1 3) [.v 2] <|
      .bind (.fld true 1 3) [.v 3] <|
      .call (.fn 38) [.v 10, .v 11] 1 <|
      .ret [.v 12]) (
      .ret [.c (.bool false)])) (
    .ret [.c (.bool false)])
def u26Ts : Nat → Tree
  | 0 => u26T0
  | _ => .fail
def u27P : Nat → Pat
  | 1 => ⟨[⟨.pure, false⟩, ⟨.fresh, true⟩, ⟨.pure, true⟩, ⟨.pure, true⟩, ⟨.pure, false⟩], [(0, .v 0), (3, .loc 0 0), (5, .v 1), (6, .v 2), (7, .v 3)], [some (.whole (.v 4) 2)], []⟩
  | _ => ⟨[], [], [], []⟩
def u27T0 : Tree :=
  .bind (.chk true 2) [.v 1] <|
  .jump 1 [.v 0, .c (.slice none 0 0), .c (.bool false), k' 0, .v 2]
def u27T1 : Tree :=
  ln' 0 <|
  .bind (.bin .lss 3 (.tmp 8) (.tmp 10)) [.v 3, .v 5] <|
  .ite (.v 6) (
    .bind (.un .not 4) [.v 2] <|
    .ite (.v 7) (
      ir' 0 3 <|
      .bind (.elem 2 true 2 0) [.v 0, .v 3] <|
      .call (.fn 39) [.v 9, .v 4] 1 <|
      .bind (.un .not 4) [.v 10] <|
      .ite (.v 11) (
        .bind (.chk true 2) [.v 4] <|
        .bind (.lit 50 2) [.v 4] <|
        .bind (.app 50 2 16) [.v 1, .v 13] <|
        ir' 0 3 <|
        .bind (.elem 2 true 2 0) [.v 0, .v 3] <|
        .bind (.bin .neq 50 (.tmp 32) (.tmp 33)) [.v 16, .v 4] <|
        .ite (.v 17) (
          ir' 0 3 <|
          .bind (.elem 2 true 2 0) [.v 0, .v 3] <|
          .bind (.chk true 2) [.v 19] <|
          .bind (.lit 50 2) [.v 19] <|
          .bind (.app 50 2 16) [.v 14, .v 21] <|
          .bind (.bin .add 3 (.tmp 12) (K' 1)) [.v 3, k' 1] <|
          .jump 1 [.v 0, .v 22, .c (.bool true), .v 23, .v 4]) (
          .bind (.bin .add 3 (.tmp 12) (K' 1)) [.v 3, k' 1] <|
          .jump 1 [.v 0, .v 14, .c (.bool true), .v 18, .v 4])) (
        ir' 0 3 <|
        .bind (.elem 2 true 2 0) [.v 0, .v 3] <|
        .bind (.bin .neq 50 (.tmp 32) (.tmp 33)) [.v 13, .v 4] <|
        .ite (.v 14) (
          ir' 0 3 <|
          .bind (.elem 2 true 2 0) [.v 0, .v 3] <|
          .bind (.chk true 2) [.v 16] <|
          .bind (.lit 50 2) [.v 16] <|
          .bind (.app 50 2 16) [.v 1, .v 18] <|
          .bind (.bin .add 3 (.tmp 12) (K' 1)) [.v 3, k' 1] <|
          .jump 1 [.v 0, .v 19, .v 2, .v 20, .v 4]) (
          .bind (.bin .add 3 (.tmp 12) (K' 1)) [.v 3, k' 1] <|
          .jump 1 [.v 0, .v 1, .v 2, .v 15, .v 4]))) (
      ir' 0 3 <|
      .bind (.elem 2 true 2 0) [.v 0, .v 3] <|
      .bind (.bin .neq 50 (.tmp 32) (.tmp 33)) [.v 9, .v 4] <|
      .ite (.v 10) (
        ir' 0 3 <|
        .bind (.elem 2 true 2 0) [.v 0, .v 3] <|
        .bind (.chk true 2) [.v 12] <|
        .bind (.lit 50 2) [.v 12] <|
        .bind (.app 50 2 16) [.v 1, .v 14] <|
        .bind (.bin .add 3 (.tmp 12) (K' 1)) [.v 3, k' 1] <|
        .jump 1 [.v 0, .v 15, .v 2, .v 16, .v 4]) (
        .bind (.bin .add 3 (.tmp 12) (K' 1)) [.v 3, k' 1] <|
        .jump 1 [.v 0, .v 1, .v 2, .v 11, .v 4]))) (
    .bind (.un .not 4) [.v 2] <|
    .ite (.v 7) (
      .bind (.chk true 2) [.v 4] <|
      .bind (.lit 50 2) [.v 4] <|
      .bind (.app 50 2 16) [.v 1, .v 9] <|
      .ret [.v 10]) (
      .ret [.v 1]))
def u27Ts : Nat → Tree
  | 0 => u27T0
  | 1 => u27T1
  | _ => .fail
def u28P : Nat → Pat
  | 1 => ⟨[⟨.pure, false⟩, ⟨.pure, false⟩, ⟨.pure, false⟩, ⟨.pure, true⟩, ⟨.pure, true⟩], [(1, .v 0), (2, .v 1), (15, .v 2), (16, .v 3), (17, .v 4)], [], []⟩
  | _ => ⟨[], [], [], []⟩
def u28T0 : Tree :=
  ln' 0 <|
  ln' 1 <|
  .bind (.bin .neq 3 (.tmp 11) (.tmp 13)) [.v 3, .v 4] <|
  .ite (.v 5) (
    .ret [.c (.bool false)]) (
    ln' 0 <|
    .jump 1 [.v 1, .v 2, .v 0, .v 6, k' 0])
def u28T1 : Tree :=
  .bind (.bin .lss 3 (.tmp 17) (.tmp 16)) [.v 4, .v 3] <|
  .ite (.v 5) (
    ir' 2 4 <|
    .bind (.elem 4 true 4 0) [.v 2, .v 4] <|
    .bind (.chk true 4) [.v 7] <|
    ir' 0 4 <|
    .bind (.elem 4 true 4 0) [.v 0, .v 4] <|
    .bind (.chk true 4) [.v 10] <|
    .call (.val (.v 1)) [.v 1, .v 8, .v 11] 1 <|
    .bind (.un .not 4) [.v 12] <|
    .ite (.v 13) (
      .ret [.c (.bool false)]) (
      .bind (.bin .add 3 (.tmp 17) (K' 1)) [.v 4, k' 1] <|
      .jump 1 [.v 0, .v 1, .v 2, .v 3, .v 14])) (
    .ret [.c (.bool true)])
def u28Ts : Nat → Tree
  | 0 => u28T0
  | 1 => u28T1
  | _ => .fail
def u32P : Nat → Pat
  | 1 => ⟨[⟨.pure, false⟩, ⟨.pure, false⟩, ⟨.pure, true⟩, ⟨.pure, true⟩], [(0, .v 0), (1, .v 1), (7, .v 2), (8, .v 3)], [], []⟩
  | _ => ⟨[], [], [], []⟩
def u32T0 : Tree :=
  ln' 0 <|
  .jump 1 [.v 0, .v 1, .v 2, k' 0]
def u32T1 : Tree :=
  .bind (.bin .lss 3 (.tmp 8) (.tmp 7)) [.v 3, .v 2] <|
  .ite (.v 4) (
    ir' 0 3 <|
    .bind (.elem 4 true 4 0) [.v 0, .v 3] <|
    .call (.val (.v 1)) [.v 1, .v 6] 1 <|
    .ite (.v 7) (
      .ret [.v 3]) (
      .bind (.bin .add 3 (.tmp 8) (K' 1)) [.v 3, k' 1] <|
      .jump 1 [.v 0, .v 1, .v 2, .v 8])) (
    .ret [.c (.int .i64 (-1))])
def u32Ts : Nat → Tree
  | 0 => u32T0
  | 1 => u32T1
  | _ => .fail
def u33P : Nat → Pat
  | _ => ⟨[], [], [], []⟩
def u33T0 : Tree :=
  .bind (.chk true 4) [.v 0] <|
  .bind (.fld true 2 0) [.v 2] <|
  .bind .pchk [.v 1] <|
  .bind (.loadp true 2) [.pp 4 0] <|
  .bind (.bin .eql 50 (.tmp 5) (.tmp 6)) [.v 3, .v 5] <|
  .ret [.v 6]
def u33Ts : Nat → Tree
  | 0 => u33T0
  | _ => .fail
def u34P : Nat → Pat
  | _ => ⟨[], [], [], []⟩
def u34T0 : Tree :=
  .bind (.chk true 1) [.v 0] <|
  .bind (.chk true 1) [.v 1] <|
  fl' 0 2 <|
  fl' 0 3 <|
  .call (.fn 46) [.v 4, .v 5] 1 <|
  .ret [.v 6]
def u34Ts : Nat → Tree
  | 0 => u34T0
  | _ => .fail
def u37P : Nat → Pat
  | _ => ⟨[], [], [], []⟩
def u37T0 : Tree :=
  .bind (.bin .neq 3 (.tmp 3) (.tmp 4)) [.v 0, .v 0] <|
  .ret [.v 1]
def u37Ts : Nat → Tree
  | 0 => u37T0
  | _ => .fail
def u38P : Nat → Pat
  | _ => ⟨[], [], [], []⟩
def u38T0 : Tree :=
  .bind (.chk true 1) [.v 0] <|
  .bind (.chk true 1) [.v 1] <|
  .call (.fn 57) [.v 2, .v 3] 1 <|
  .bind (.un .not 4) [.v 4] <|
  .ite (.v 5) (
    .call (.fn 57) [.v 3, .v 2] 1 <|
    .bind (.un .not 4) [.v 6] <|
    .ret [.v 7]) (
    .ret [.c (.bool false)])
def u38Ts : Nat → Tree
  | 0 => u38T0
  | _ => .fail
def u39P : Nat → Pat
  | _ => ⟨[], [], [], []⟩
def u39T0 : Tree :=
  .bind (.chk true 2) [.v 0] <|
  .bind (.chk true 2) [.v 1] <|
  fl' 0 2 <|
  fl' 0 3 <|
  .bind (.bin .lss 3 (.tmp 6) (.tmp 8)) [.v 4, .v 5] <|
  .ite (.v 6) (
    .ret [.c (.bool true)]) (
    fl' 0 2 <|
    fl' 0 3 <|
    .bind (.bin .eql 3 (.tmp 12) (.tmp 14)) [.v 7, .v 8] <|
    .ite (.v 9) (
      fl' 1 2 <|
      fl' 1 3 <|
      .bind (.bin .lss 3 (.tmp 18) (.tmp 20)) [.v 10, .v 11] <|
      .ret [.v 12]) (
      .ret [.c (.bool false)]))
def u39Ts : Nat → Tree
  | 0 => u39T0
  | _ => .fail
def u46P : Nat → Pat
  | 1 => ⟨[⟨.pure, false⟩, ⟨.pure, false⟩, ⟨.pure, true⟩, ⟨.pure, true⟩], [(0, .v 0), (1, .v 1), (12, .v 2), (13, .v 3)], [], []⟩
  | _ => ⟨[], [], [], []⟩
def u46T0 : Tree :=
  ln' 0 <|
  ln' 1 <|
  .bind (.bin .neq 3 (.tmp 7) (.tmp 9)) [.v 2, .v 3] <|
  .ite (.v 4) (
    .ret [.c (.bool false)]) (
    ln' 0 <|
    .jump 1 [.v 0, .v 1, .v 5, k' 0])
def u46T1 : Tree :=
  .bind (.bin .lss 3 (.tmp 13) (.tmp 12)) [.v 3, .v 2] <|
  .ite (.v 4) (
    ir' 0 3 <|
    .bind (.elem 3 true 3 0) [.v 0, .v 3] <|
    ir' 1 3 <|
    .bind (.elem 3 true 3 0) [.v 1, .v 3] <|
    .bind (.bin .neq 98 (.tmp 19) (.tmp 23)) [.v 6, .v 8] <|
    .ite (.v 9) (
      .ret [.c (.bool false)]) (
      .bind (.bin .add 3 (.tmp 13) (K' 1)) [.v 3, k' 1] <|
      .jump 1 [.v 0, .v 1, .v 2, .v 10])) (
    .ret [.c (.bool true)])
def u46Ts : Nat → Tree
  | 0 => u46T0
  | 1 => u46T1
  | _ => .fail
def u57P : Nat → Pat
  | 1 => ⟨[⟨.pure, true⟩, ⟨.pure, false⟩, ⟨.pure, false⟩], [(2, .loc 0 0), (3, .loc 1 0), (5, .v 0)], [some (.whole (.v 1) 1), some (.whole (.v 2) 1)], []⟩
  | _ => ⟨[], [], [], []⟩
def u57T0 : Tree :=
  .bind (.chk true 1) [.v 0] <|
  .bind (.chk true 1) [.v 1] <|
  .jump 1 [k' 0, .v 2, .v 3]
def u57T1 : Tree :=
  fl' 0 1 <|
  ln' 3 <|
  .bind (.bin .lss 3 (.tmp 6) (.tmp 9)) [.v 0, .v 4] <|
  .ite (.v 5) (
    fl' 0 2 <|
    ln' 6 <|
    .bind (.bin .lss 3 (.tmp 12) (.tmp 15)) [.v 0, .v 7] <|
    .ite (.v 8) (
      fl' 0 1 <|
      ir' 9 0 <|
      .bind (.elem 3 true 3 0) [.v 9, .v 0] <|
      fl' 0 2 <|
      ir' 12 0 <|
      .bind (.elem 3 true 3 0) [.v 12, .v 0] <|
      .bind (.bin .neq 98 (.tmp 24) (.tmp 29)) [.v 11, .v 14] <|
      .ite (.v 15) (
        fl' 0 1 <|
        ir' 16 0 <|
        .bind (.elem 3 true 3 0) [.v 16, .v 0] <|
        fl' 0 2 <|
        ir' 19 0 <|
        .bind (.elem 3 true 3 0) [.v 19, .v 0] <|
        .call (.fn 69) [.v 18, .v 21] 1 <|
        .ret [.v 22]) (
        .bind (.bin .add 3 (.tmp 18) (K' 1)) [.v 0, k' 1] <|
        .jump 1 [.v 16, .v 1, .v 2])) (
      fl' 0 1 <|
      ln' 9 <|
      fl' 0 2 <|
      ln' 11 <|
      .bind (.bin .lss 3 (.tmp 44) (.tmp 47)) [.v 10, .v 12] <|
      .ret [.v 13])) (
    fl' 0 1 <|
    ln' 6 <|
    fl' 0 2 <|
    ln' 8 <|
    .bind (.bin .lss 3 (.tmp 44) (.tmp 47)) [.v 7, .v 9] <|
    .ret [.v 10])
def u57Ts : Nat → Tree
  | 0 => u57T0
  | 1 => u57T1
  | _ => .fail
def u69P : Nat → Pat
  | _ => ⟨[], [], [], []⟩
def u69T0 : Tree :=
  .bind (.chk true 3) [.v 0] <|
  .bind (.chk true 3) [.v 1] <|
  fl' 0 2 <|
  fl' 0 3 <|
  .bind (.bin .neq 3 (.tmp 6) (.tmp 8)) [.v 4, .v 5] <|
  .ite (.v 6) (
    fl' 0 2 <|
    fl' 0 3 <|
    .bind (.bin .lss 3 (.tmp 11) (.tmp 13)) [.v 7, .v 8] <|
    .ret [.v 9]) (
    fl' 1 2 <|
    fl' 1 3 <|
    .bind (.bin .neq 3 (.tmp 16) (.tmp 18)) [.v 7, .v 8] <|
    .ite (.v 9) (
      fl' 1 2 <|
      fl' 1 3 <|
      .bind (.bin .lss 3 (.tmp 21) (.tmp 23)) [.v 10, .v 11] <|
      .ret [.v 12]) (
      fl' 2 2 <|
      fl' 2 3 <|
      .bind (.bin .lss 3 (.tmp 26) (.tmp 28)) [.v 10, .v 11] <|
      .ret [.v 12]))
def u69Ts : Nat → Tree
  | 0 => u69T0
  | _ => .fail
theorem alln4 : (rootT EE (fun k S => jumpS (Nat.max Tryz.f3.ntmps 3) (u3P k) k S) Tryz.f3 3,
  headsT EE (fun k => (u3P k).st (Nat.max Tryz.f3.ntmps 3)) (fun k S => jumpS (Nat.max Tryz.f3.ntmps 3) (u3P k) k S) 1 (bodyOf Tryz.f3) (endK EE Tryz.f3.results.toList),
  (Tryz.f3.name == "runtime.NumGoroutine" || !regsOk (bodyOf Tryz.f3)),
  rootT EE (fun k S => jumpS (Nat.max Tryz.f5.ntmps 2) (u5P k) k S) Tryz.f5 2,
  headsT EE (fun k => (u5P k).st (Nat.max Tryz.f5.ntmps 2)) (fun k S => jumpS (Nat.max Tryz.f5.ntmps 2) (u5P k) k S) 1 (bodyOf Tryz.f5) (endK EE Tryz.f5.results.toList),
  (Tryz.f5.name == "runtime.NumGoroutine" || !regsOk (bodyOf Tryz.f5)),
  rootT EE (fun k S => jumpS (Nat.max Tryz.f7.ntmps 2) (u7P k) k S) Tryz.f7 2,
  headsT EE (fun k => (u7P k).st (Nat.max Tryz.f7.ntmps 2)) (fun k S => jumpS (Nat.max Tryz.f7.ntmps 2) (u7P k) k S) 1 (bodyOf Tryz.f7) (endK EE Tryz.f7.results.toList),
  (Tryz.f7.name == "runtime.NumGoroutine" || !regsOk (bodyOf Tryz.f7)),
  rootT EE (fun k S => jumpS (Nat.max Tryz.f8.ntmps 2) (u8P k) k S) Tryz.f8 2,
  headsT EE (fun k => (u8P k).st (Nat.max Tryz.f8.ntmps 2)) (fun k S => jumpS (Nat.max Tryz.f8.ntmps 2) (u8P k) k S) 1 (bodyOf Tryz.f8) (endK EE Tryz.f8.results.toList),
  (Tryz.f8.name == "runtime.NumGoroutine" || !regsOk (bodyOf Tryz.f8)),
  rootT EE (fun k S => jumpS (Nat.max Tryz.f9.ntmps 2) (u9P k) k S) Tryz.f9 2,
  headsT EE (fun k => (u9P k).st (Nat.max Tryz.f9.ntmps 2)) (fun k S => jumpS (Nat.max Tryz.f9.ntmps 2) (u9P k) k S) 1 (bodyOf Tryz.f9) (endK EE Tryz.f9.results.toList),
  (Tryz.f9.name == "runtime.NumGoroutine" || !regsOk (bodyOf Tryz.f9)),
  rootT EE (fun k S => jumpS (Nat.max Tryz.f10.ntmps 2) (u10P k) k S) Tryz.f10 2,
  headsT EE (fun k => (u10P k).st (Nat.max Tryz.f10.ntmps 2)) (fun k S => jumpS (Nat.max Tryz.f10.ntmps 2) (u10P k) k S) 1 (bodyOf Tryz.f10) (endK EE Tryz.f10.results.toList),
  (Tryz.f10.name == "runtime.NumGoroutine" || !regsOk (bodyOf Tryz.f10)),
  rootT EE (fun k S => jumpS (Nat.max Tryz.f11.ntmps 2) (u11P k) k S) Tryz.f11 2,
  headsT EE (fun k => (u11P k).st (Nat.max Tryz.f11.ntmps 2)) (fun k S => jumpS (Nat.max Tryz.f11.ntmps 2) (u11P k) k S) 1 (bodyOf Tryz.f11) (endK EE Tryz.f11.results.toList),
  (Tryz.f11.name == "runtime.NumGoroutine" || !regsOk (bodyOf Tryz.f11)),
  rootT EE (fun k S => jumpS (Nat.max Tryz.f18.ntmps 2) (u18P k) k S) Tryz.f18 2,
  headsT EE (fun k => (u18P k).st (Nat.max Tryz.f18.ntmps 2)) (fun k S => jumpS (Nat.max Tryz.f18.ntmps 2) (u18P k) k S) 1 (bodyOf Tryz.f18) (endK EE Tryz.f18.results.toList),
  (Tryz.f18.name == "runtime.NumGoroutine" || !regsOk (bodyOf Tryz.f18)),
  rootT EE (fun k S => jumpS (Nat.max Tryz.f19.ntmps 2) (u19P k) k S) Tryz.f19 2,
  headsT EE (fun k => (u19P k).st (Nat.max Tryz.f19.ntmps 2)) (fun k S => jumpS (Nat.max Tryz.f19.ntmps 2) (u19P k) k S) 1 (bodyOf Tryz.f19) (endK EE Tryz.f19.results.toList),
  (Tryz.f19.name == "runtime.NumGoroutine" || !regsOk (bodyOf Tryz.f19)),
  rootT EE (fun k S => jumpS (Nat.max Tryz.f21.ntmps 2) (u21P k) k S) Tryz.f21 2,
  headsT EE (fun k => (u21P k).st (Nat.max Tryz.f21.ntmps 2)) (fun k S => jumpS (Nat.max Tryz.f21.ntmps 2) (u21P k) k S) 1 (bodyOf Tryz.f21) (endK EE Tryz.f21.results.toList),
  (Tryz.f21.name == "runtime.NumGoroutine" || !regsOk (bodyOf Tryz.f21)),
  rootT EE (fun k S => jumpS (Nat.max Tryz.f22.ntmps 1) (u22P k) k S) Tryz.f22 1,
  headsT EE (fun k => (u22P k).st (Nat.max Tryz.f22.ntmps 1)) (fun k S => jumpS (Nat.max Tryz.f22.ntmps 1) (u22P k) k S) 1 (bodyOf Tryz.f22) (endK EE Tryz.f22.results.toList),
  (Tryz.f22.name == "runtime.NumGoroutine" || !regsOk (bodyOf Tryz.f22)),
  rootT EE (fun k S => jumpS (Nat.max Tryz.f23.ntmps 2) (u23P k) k S) Tryz.f23 2,
  headsT EE (fun k => (u23P k).st (Nat.max Tryz.f23.ntmps 2)) (fun k S => jumpS (Nat.max Tryz.f23.ntmps 2) (u23P k) k S) 1 (bodyOf Tryz.f23) (endK EE Tryz.f23.results.toList),
  (Tryz.f23.name == "runtime.NumGoroutine" || !regsOk (bodyOf Tryz.f23)),
  rootT EE (fun k S => jumpS (Nat.max Tryz.f25.ntmps 2) (u25P k) k S) Tryz.f25 2,
  headsT EE (fun k => (u25P k).st (Nat.max Tryz.f25.ntmps 2)) (fun k S => jumpS (Nat.max Tryz.f25.ntmps 2) (u25P k) k S) 1 (bodyOf Tryz.f25) (endK EE Tryz.f25.results.toList),
  (Tryz.f25.name == "runtime.NumGoroutine" || !regsOk (bodyOf Tryz.f25)),
  rootT EE (fun k S => jumpS (Nat.max Tryz.f26.ntmps 2) (u26P k) k S) Tryz.f26 2,
  headsT EE (fun k => (u26P k).st (Nat.max Tryz.f26.ntmps 2)) (fun k S => jumpS (Nat.max Tryz.f26.ntmps 2) (u26P k) k S) 1 (bodyOf Tryz.f26) (endK EE Tryz.f26.results.toList),
  (Tryz.f26.name == "runtime.NumGoroutine" || !regsOk (bodyOf Tryz.f26)),
  rootT EE (fun k S => jumpS (Nat.max Tryz.f27.ntmps 2) (u27P k) k S) Tryz.f27 2,
  headsT EE (fun k => (u27P k).st (Nat.max Tryz.f27.ntmps 2)) (fun k S => jumpS (Nat.max Tryz.f27.ntmps 2) (u27P k) k S) 1 (bodyOf Tryz.f27) (endK EE Tryz.f27.results.toList),
  (Tryz.f27.name == "runtime.NumGoroutine" || !regsOk (bodyOf Tryz.f27)),
  rootT EE (fun k S => jumpS (Nat.max Tryz.f28.ntmps 3) (u28P k) k S) Tryz.f28 3,
  headsT EE (fun k => (u28P k).st (Nat.max Tryz.f28.ntmps 3)) (fun k S => jumpS (Nat.max Tryz.f28.ntmps 3) (u28P k) k S) 1 (bodyOf Tryz.f28) (endK EE Tryz.f28.results.toList),
  (Tryz.f28.name == "runtime.NumGoroutine" || !regsOk (bodyOf Tryz.f28)),
  rootT EE (fun k S => jumpS (Nat.max Tryz.f32.ntmps 2) (u32P k) k S) Tryz.f32 2,
  headsT EE (fun k => (u32P k).st (Nat.max Tryz.f32.ntmps 2)) (fun k S => jumpS (Nat.max Tryz.f32.ntmps 2) (u32P k) k S) 1 (bodyOf Tryz.f32) (endK EE Tryz.f32.results.toList),
  (Tryz.f32.name == "runtime.NumGoroutine" || !regsOk (bodyOf Tryz.f32)),
  rootT EE (fun k S => jumpS (Nat.max Tryz.f33.ntmps 2) (u33P k) k S) Tryz.f33 2,
  headsT EE (fun k => (u33P k).st (Nat.max Tryz.f33.ntmps 2)) (fun k S => jumpS (Nat.max Tryz.f33.ntmps 2) (u33P k) k S) 1 (bodyOf Tryz.f33) (endK EE Tryz.f33.results.toList),
  (Tryz.f33.name == "runtime.NumGoroutine" || !regsOk (bodyOf Tryz.f33)),
  rootT EE (fun k S => jumpS (Nat.max Tryz.f34.ntmps 2) (u34P k) k S) Tryz.f34 2,
  headsT EE (fun k => (u34P k).st (Nat.max Tryz.f34.ntmps 2)) (fun k S => jumpS (Nat.max Tryz.f34.ntmps 2) (u34P k) k S) 1 (bodyOf Tryz.f34) (endK EE Tryz.f34.results.toList),
  (Tryz.f34.name == "runtime.NumGoroutine" || !regsOk (bodyOf Tryz.f34)),
  rootT EE (fun k S => jumpS (Nat.max Tryz.f37.ntmps 1) (u37P k) k S) Tryz.f37 1,
  headsT EE (fun k => (u37P k).st (Nat.max Tryz.f37.ntmps 1)) (fun k S => jumpS (Nat.max Tryz.f37.ntmps 1) (u37P k) k S) 1 (bodyOf Tryz.f37) (endK EE Tryz.f37.results.toList),
  (Tryz.f37.name == "runtime.NumGoroutine" || !regsOk (bodyOf Tryz.f37)),
  rootT EE (fun k S => jumpS (Nat.max Tryz.f38.ntmps 2) (u38P k) k S) Tryz.f38 2,
  headsT EE (fun k => (u38P k).st (Nat.max Tryz.f38.ntmps 2)) (fun k S => jumpS (Nat.max Tryz.f38.ntmps 2) (u38P k) k S) 1 (bodyOf Tryz.f38) (endK EE Tryz.f38.results.toList),
  (Tryz.f38.name == "runtime.NumGoroutine" || !regsOk (bodyOf Tryz.f38)),
  rootT EE (fun k S => jumpS (Nat.max Tryz.f39.ntmps 2) (u39P k) k S) Tryz.f39 2,
  headsT EE (fun k => (u39P k).st (Nat.max Tryz.f39.ntmps 2)) (fun k S => jumpS (Nat.max Tryz.f39.ntmps 2) (u39P k) k S) 1 (bodyOf Tryz.f39) (endK EE Tryz.f39.results.toList),
  (Tryz.f39.name == "runtime.NumGoroutine" || !regsOk (bodyOf Tryz.f39)),
  rootT EE (fun k S => jumpS (Nat.max Tryz.f46.ntmps 2) (u46P k) k S) Tryz.f46 2,
  headsT EE (fun k => (u46P k).st (Nat.max Tryz.f46.ntmps 2)) (fun k S => jumpS (Nat.max Tryz.f46.ntmps 2) (u46P k) k S) 1 (bodyOf Tryz.f46) (endK EE Tryz.f46.results.toList),
  (Tryz.f46.name == "runtime.NumGoroutine" || !regsOk (bodyOf Tryz.f46)),
  rootT EE (fun k S => jumpS (Nat.max Tryz.f57.ntmps 2) (u57P k) k S) Tryz.f57 2,
  headsT EE (fun k => (u57P k).st (Nat.max Tryz.f57.ntmps 2)) (fun k S => jumpS (Nat.max Tryz.f57.ntmps 2) (u57P k) k S) 1 (bodyOf Tryz.f57) (endK EE Tryz.f57.results.toList),
  (Tryz.f57.name == "runtime.NumGoroutine" || !regsOk (bodyOf Tryz.f57)),
  rootT EE (fun k S => jumpS (Nat.max Tryz.f69.ntmps 2) (u69P k) k S) Tryz.f69 2,
  headsT EE (fun k => (u69P k).st (Nat.max Tryz.f69.ntmps 2)) (fun k S => jumpS (Nat.max Tryz.f69.ntmps 2) (u69P k) k S) 1 (bodyOf Tryz.f69) (endK EE Tryz.f69.results.toList),
  (Tryz.f69.name == "runtime.NumGoroutine" || !regsOk (bodyOf Tryz.f69))) =
  (u3T0, [], false, u5T0, [(1, u5T1)], false, u7T0, [(1, u7T1), (2, u7T2)], false, u8T0, [(1, u8T1)], false, u9T0, [(1, u9T1)], false, u10T0, [], false, u11T0, [(1, u11T1)], false, u18T0, [], false, u19T0, [], false, u21T0, [], false, u22T0, [(1, u22T1)], false, u23T0, [], false, u25T0, [(1, u25T1)], false, u26T0, [], false, u27T0, [(1, u27T1)], false, u28T0, [(1, u28T1)], false, u32T0, [(1, u32T1)], false, u33T0, [], false, u34T0, [], false, u37T0, [], false, u38T0, [], false, u39T0, [], false, u46T0, [(1, u46T1)], false, u57T0, [(1, u57T1)], false, u69T0, [], false) := by kernel_rfl
theorem u3 {ds : List D} {d : D} (hn : ds.length = 3) (h : Goes EE (Holds EE) u3Ts 0 ds d) : Holds EE 3 ds d :=
  holds_of he (envFunc (c := bodyOf Tryz.f3) Tryz.func3 rfl ((Prod.mk.inj (nx1 (nx1 alln4))).1)) (c := bodyOf Tryz.f3) rfl hn ((Prod.mk.inj alln4).1) (by rw [(Prod.mk.inj (nx1 alln4)).1]; exact tabN) h
theorem u5 {ds : List D} {d : D} (hn : ds.length = 2) (h : Goes EE (Holds EE) u5Ts 0 ds d) : Holds EE 5 ds d :=
  holds_of he (envFunc (c := bodyOf Tryz.f5) Tryz.func5 rfl ((Prod.mk.inj (nx1 (nx4 alln4))).1)) (c := bodyOf Tryz.f5) rfl hn ((Prod.mk.inj (nx1 (nx1 (nx1 alln4)))).1) (by rw [(Prod.mk.inj (nx4 alln4)).1]; exact tabC rfl <| tabN) h
theorem u7 {ds : List D} {d : D} (hn : ds.length = 2) (h : Goes EE (Holds EE) u7Ts 0 ds d) : Holds EE 7 ds d :=
  holds_of he (envFunc (c := bodyOf Tryz.f7) Tryz.func7 rfl ((Prod.mk.inj (nx4 (nx4 alln4))).1)) (c := bodyOf Tryz.f7) rfl hn ((Prod.mk.inj (nx1 (nx1 (nx4 alln4)))).1) (by rw [(Prod.mk.inj (nx1 (nx1 (nx1 (nx4 alln4))))).1]; exact tabC rfl <| tabC rfl <| tabN) h
theorem u8 {ds : List D} {d : D} (hn : ds.length = 2) (h : Goes EE (Holds EE) u8Ts 0 ds d) : Holds EE 8 ds d :=
  holds_of he (envFunc (c := bodyOf Tryz.f8) Tryz.func8 rfl ((Prod.mk.inj (nx1 (nx1 (nx1 (nx4 (nx4 alln4)))))).1)) (c := bodyOf Tryz.f8) rfl hn ((Prod.mk.inj (nx1 (nx4 (nx4 alln4)))).1) (by rw [(Prod.mk.inj (nx1 (nx1 (nx4 (nx4 alln4))))).1]; exact tabC rfl <| tabN) h
theorem u9 {ds : List D} {d : D} (hn : ds.length = 2) (h : Goes EE (Holds EE) u9Ts 0 ds d) : Holds EE 9 ds d :=
  holds_of he (envFunc (c := bodyOf Tryz.f9) Tryz.func9 rfl ((Prod.mk.inj (nx1 (nx1 (nx4 (nx4 (nx4 alln4)))))).1)) (c := bodyOf Tryz.f9) rfl hn ((Prod.mk.inj (nx4 (nx4 (nx4 alln4)))).1) (by rw [(Prod.mk.inj (nx1 (nx4 (nx4 (nx4 alln4))))).1]; exact tabC rfl <| tabN) h
theorem u10 {ds : List D} {d : D} (hn : ds.length = 2) (h : Goes EE (Holds EE) u10Ts 0 ds d) : Holds EE 10 ds d :=
  holds_of he (envFunc (c := bodyOf Tryz.f10) Tryz.func10 rfl ((Prod.mk.inj (nx1 (nx16 alln4))).1)) (c := bodyOf Tryz.f10) rfl hn ((Prod.mk.inj (nx1 (nx1 (nx1 (nx4 (nx4 (nx4 alln4))))))).1) (by rw [(Prod.mk.inj (nx16 alln4)).1]; exact tabN) h
theorem u11 {ds : List D} {d : D} (hn : ds.length = 2) (h : Goes EE (Holds EE) u11Ts 0 ds d) : Holds EE 11 ds d :=
  holds_of he (envFunc (c := bodyOf Tryz.f11) Tryz.func11 rfl ((Prod.mk.inj (nx4 (nx16 alln4))).1)) (c := bodyOf Tryz.f11) rfl hn ((Prod.mk.inj (nx1 (nx1 (nx16 alln4)))).1) (by rw [(Prod.mk.inj (nx1 (nx1 (nx1 (nx16 alln4))))).1]; exact tabC rfl <| tabN) h
theorem u18 {ds : List D} {d : D} (hn : ds.length = 2) (h : Goes EE (Holds EE) u18Ts 0 ds d) : Holds EE 18 ds d :=
  holds_of he (envFunc (c := bodyOf Tryz.f18) Tryz.func18 rfl ((Prod.mk.inj (nx1 (nx1 (nx1 (nx4 (nx16 alln4)))))).1)) (c := bodyOf Tryz.f18) rfl hn ((Prod.mk.inj (nx1 (nx4 (nx16 alln4)))).1) (by rw [(Prod.mk.inj (nx1 (nx1 (nx4 (nx16 alln4))))).1]; exact tabN) h
theorem u19 {ds : List D} {d : D} (hn : ds.length = 2) (h : Goes EE (Holds EE) u19Ts 0 ds d) : Holds EE 19 ds d :=
  holds_of he (envFunc (c := bodyOf Tryz.f19) Tryz.func19 rfl ((Prod.mk.inj (nx1 (nx1 (nx4 (nx4 (nx16 alln4)))))).1)) (c := bodyOf Tryz.f19) rfl hn ((Prod.mk.inj (nx4 (nx4 (nx16 alln4)))).1) (by rw [(Prod.mk.inj (nx1 (nx4 (nx4 (nx16 alln4))))).1]; exact tabN) h
theorem u21 {ds : List D} {d : D} (hn : ds.length = 2) (h : Goes EE (Holds EE) u21Ts 0 ds d) : Holds EE 21 ds d :=
  holds_of he (envFunc (c := bodyOf Tryz.f21) Tryz.func21 rfl ((Prod.mk.inj (nx1 (nx4 (nx4 (nx4 (nx16 alln4)))))).1)) (c := bodyOf Tryz.f21) rfl hn ((Prod.mk.inj (nx1 (nx1 (nx1 (nx4 (nx4 (nx16 alln4))))))).1) (by rw [(Prod.mk.inj (nx4 (nx4 (nx4 (nx16 alln4))))).1]; exact tabN) h
theorem u22 {ds : List D} {d : D} (hn : ds.length = 1) (h : Goes EE (Holds EE) u22Ts 0 ds d) : Holds EE 22 ds d :=
  holds_of he (envFunc (c := bodyOf Tryz.f22) Tryz.func22 rfl ((Prod.mk.inj (nx16 (nx16 alln4))).1)) (c := bodyOf Tryz.f22) rfl hn ((Prod.mk.inj (nx1 (nx1 (nx4 (nx4 (nx4 (nx16 alln4))))))).1) (by rw [(Prod.mk.inj (nx1 (nx1 (nx1 (nx4 (nx4 (nx4 (nx16 alln4)))))))).1]; exact tabC rfl <| tabN) h
theorem u23 {ds : List D} {d : D} (hn : ds.length = 2) (h : Goes EE (Holds EE) u23Ts 0 ds d) : Holds EE 23 ds d :=
  holds_of he (envFunc (c := bodyOf Tryz.f23) Tryz.func23 rfl ((Prod.mk.inj (nx1 (nx1 (nx1 (nx16 (nx16 alln4)))))).1)) (c := bodyOf Tryz.f23) rfl hn ((Prod.mk.inj (nx1 (nx16 (nx16 alln4)))).1) (by rw [(Prod.mk.inj (nx1 (nx1 (nx16 (nx16 alln4))))).1]; exact tabN) h
theorem u25 {ds : List D} {d : D} (hn : ds.length = 2) (h : Goes EE (Holds EE) u25Ts 0 ds d) : Holds EE 25 ds d :=
  holds_of he (envFunc (c := bodyOf Tryz.f25) Tryz.func25 rfl ((Prod.mk.inj (nx1 (nx1 (nx4 (nx16 (nx16 alln4)))))).1)) (c := bodyOf Tryz.f25) rfl hn ((Prod.mk.inj (nx4 (nx16 (nx16 alln4)))).1) (by rw [(Prod.mk.inj (nx1 (nx4 (nx16 (nx16 alln4))))).1]; exact tabC rfl <| tabN) h
theorem u26 {ds : List D} {d : D} (hn : ds.length = 2) (h : Goes EE (Holds EE) u26Ts 0 ds d) : Holds EE 26 ds d :=
  holds_of he (envFunc (c := bodyOf Tryz.f26) Tryz.func26 rfl ((Prod.mk.inj (nx1 (nx4 (nx4 (nx16 (nx16 alln4)))))).1)) (c := bodyOf Tryz.f26) rfl hn ((Prod.mk.inj (nx1 (nx1 (nx1 (nx4 (nx16 (nx16 alln4))))))).1) (by rw [(Prod.mk.inj (nx4 (nx4 (nx16 (nx16 alln4))))).1]; exact tabN) h
theorem u27 {ds : List D} {d : D} (hn : ds.length = 2) (h : Goes EE (Holds EE) u27Ts 0 ds d) : Holds EE 27 ds d :=
  holds_of he (envFunc (c := bodyOf Tryz.f27) Tryz.func27 rfl ((Prod.mk.inj (nx4 (nx4 (nx4 (nx16 (nx16 alln4)))))).1)) (c := bodyOf Tryz.f27) rfl hn ((Prod.mk.inj (nx1 (nx1 (nx4 (nx4 (nx16 (nx16 alln4))))))).1) (by rw [(Prod.mk.inj (nx1 (nx1 (nx1 (nx4 (nx4 (nx16 (nx16 alln4)))))))).1]; exact tabC rfl <| tabN) h
theorem u28 {ds : List D} {d : D} (hn : ds.length = 3) (h : Goes EE (Holds EE) u28Ts 0 ds d) : Holds EE 28 ds d :=
  holds_of he (envFunc (c := bodyOf Tryz.f28) Tryz.func28 rfl ((Prod.mk.inj (nx1 (nx1 (nx1 (nx4 (nx4 (nx4 (nx16 (nx16 alln4))))))))).1)) (c := bodyOf Tryz.f28) rfl hn ((Prod.mk.inj (nx1 (nx4 (nx4 (nx4 (nx16 (nx16 alln4))))))).1) (by rw [(Prod.mk.inj (nx1 (nx1 (nx4 (nx4 (nx4 (nx16 (nx16 alln4)))))))).1]; exact tabC rfl <| tabN) h
theorem u32 {ds : List D} {d : D} (hn : ds.length = 2) (h : Goes EE (Holds EE) u32Ts 0 ds d) : Holds EE 32 ds d :=
  holds_of he (envFunc (c := bodyOf Tryz.f32) Tryz.func32 rfl ((Prod.mk.inj (nx1 (nx1 (nx16 (nx16 (nx16 alln4)))))).1)) (c := bodyOf Tryz.f32) rfl hn ((Prod.mk.inj (nx16 (nx16 (nx16 alln4)))).1) (by rw [(Prod.mk.inj (nx1 (nx16 (nx16 (nx16 alln4))))).1]; exact tabC rfl <| tabN) h
theorem u33 {ds : List D} {d : D} (hn : ds.length = 2) (h : Goes EE (Holds EE) u33Ts 0 ds d) : Holds EE 33 ds d :=
  holds_of he (envFunc (c := bodyOf Tryz.f33) Tryz.func33 rfl ((Prod.mk.inj (nx1 (nx4 (nx16 (nx16 (nx16 alln4)))))).1)) (c := bodyOf Tryz.f33) rfl hn ((Prod.mk.inj (nx1 (nx1 (nx1 (nx16 (nx16 (nx16 alln4))))))).1) (by rw [(Prod.mk.inj (nx4 (nx16 (nx16 (nx16 alln4))))).1]; exact tabN) h
theorem u34 {ds : List D} {d : D} (hn : ds.length = 2) (h : Goes EE (Holds EE) u34Ts 0 ds d) : Holds EE 34 ds d :=
  holds_of he (envFunc (c := bodyOf Tryz.f34) Tryz.func34 rfl ((Prod.mk.inj (nx4 (nx4 (nx16 (nx16 (nx16 alln4)))))).1)) (c := bodyOf Tryz.f34) rfl hn ((Prod.mk.inj (nx1 (nx1 (nx4 (nx16 (nx16 (nx16 alln4))))))).1) (by rw [(Prod.mk.inj (nx1 (nx1 (nx1 (nx4 (nx16 (nx16 (nx16 alln4)))))))).1]; exact tabN) h
theorem u37 {ds : List D} {d : D} (hn : ds.length = 1) (h : Goes EE (Holds EE) u37Ts 0 ds d) : Holds EE 37 ds d :=
  holds_of he (envFunc (c := bodyOf Tryz.f37) Tryz.func37 rfl ((Prod.mk.inj (nx1 (nx1 (nx1 (nx4 (nx4 (nx16 (nx16 (nx16 alln4))))))))).1)) (c := bodyOf Tryz.f37) rfl hn ((Prod.mk.inj (nx1 (nx4 (nx4 (nx16 (nx16 (nx16 alln4))))))).1) (by rw [(Prod.mk.inj (nx1 (nx1 (nx4 (nx4 (nx16 (nx16 (nx16 alln4)))))))).1]; exact tabN) h
theorem u38 {ds : List D} {d : D} (hn : ds.length = 2) (h : Goes EE (Holds EE) u38Ts 0 ds d) : Holds EE 38 ds d :=
  holds_of he (envFunc (c := bodyOf Tryz.f38) Tryz.func38 rfl ((Prod.mk.inj (nx1 (nx1 (nx4 (nx4 (nx4 (nx16 (nx16 (nx16 alln4))))))))).1)) (c := bodyOf Tryz.f38) rfl hn ((Prod.mk.inj (nx4 (nx4 (nx4 (nx16 (nx16 (nx16 alln4))))))).1) (by rw [(Prod.mk.inj (nx1 (nx4 (nx4 (nx4 (nx16 (nx16 (nx16 alln4)))))))).1]; exact tabN) h
theorem u39 {ds : List D} {d : D} (hn : ds.length = 2) (h : Goes EE (Holds EE) u39Ts 0 ds d) : Holds EE 39 ds d :=
  holds_of he (envFunc (c := bodyOf Tryz.f39) Tryz.func39 rfl ((Prod.mk.inj (nx1 (nx16 (nx16 (nx16 (nx16 alln4)))))).1)) (c := bodyOf Tryz.f39) rfl hn ((Prod.mk.inj (nx1 (nx1 (nx1 (nx4 (nx4 (nx4 (nx16 (nx16 (nx16 alln4)))))))))).1) (by rw [(Prod.mk.inj (nx16 (nx16 (nx16 (nx16 alln4))))).1]; exact tabN) h
theorem u46 {ds : List D} {d : D} (hn : ds.length = 2) (h : Goes EE (Holds EE) u46Ts 0 ds d) : Holds EE 46 ds d :=
  holds_of he (envFunc (c := bodyOf Tryz.f46) Tryz.func46 rfl ((Prod.mk.inj (nx4 (nx16 (nx16 (nx16 (nx16 alln4)))))).1)) (c := bodyOf Tryz.f46) rfl hn ((Prod.mk.inj (nx1 (nx1 (nx16 (nx16 (nx16 (nx16 alln4))))))).1) (by rw [(Prod.mk.inj (nx1 (nx1 (nx1 (nx16 (nx16 (nx16 (nx16 alln4)))))))).1]; exact tabC rfl <| tabN) h
theorem u57 {ds : List D} {d : D} (hn : ds.length = 2) (h : Goes EE (Holds EE) u57Ts 0 ds d) : Holds EE 57 ds d :=
  holds_of he (envFunc (c := bodyOf Tryz.f57) Tryz.func57 rfl ((Prod.mk.inj (nx1 (nx1 (nx1 (nx4 (nx16 (nx16 (nx16 (nx16 alln4))))))))).1)) (c := bodyOf Tryz.f57) rfl hn ((Prod.mk.inj (nx1 (nx4 (nx16 (nx16 (nx16 (nx16 alln4))))))).1) (by rw [(Prod.mk.inj (nx1 (nx1 (nx4 (nx16 (nx16 (nx16 (nx16 alln4)))))))).1]; exact tabC rfl <| tabN) h
theorem u69 {ds : List D} {d : D} (hn : ds.length = 2) (h : Goes EE (Holds EE) u69Ts 0 ds d) : Holds EE 69 ds d :=
  holds_of he (envFunc (c := bodyOf Tryz.f69) Tryz.func69 rfl ((nx1 (nx1 (nx4 (nx4 (nx16 (nx16 (nx16 (nx16 alln4)))))))))) (c := bodyOf Tryz.f69) rfl hn ((Prod.mk.inj (nx4 (nx4 (nx16 (nx16 (nx16 (nx16 alln4))))))).1) (by rw [(Prod.mk.inj (nx1 (nx4 (nx4 (nx16 (nx16 (nx16 (nx16 alln4)))))))).1]; exact tabN) h
end Go.Proofs.YtbmjdlgfnoaocaaGreat
