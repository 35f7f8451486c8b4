/- Trees of functions. Conditions: none. -/
import Derived.Test.YtonebjbldlokmaaGreatPa
namespace Go.Proofs.YtonebjbldlokmaaGreat
open Go Go.Am Go.Proofs
/-! 4 langdoc/langdocref29.Light params #[36] -/
def u4P : Nat → Pat
  | 1 => ⟨[⟨.pure, true⟩, ⟨.pure, false⟩], [(1, .loc 0 0), (3, .v 0)], [some (.whole (.v 1) 9)]⟩
  | _ => ⟨[], [], []⟩
def u4T0 : Tree :=
  .bind (.chk true 9) [.v 0] <|
  fl' 0 1 <|
  ln' 2 <|
  .bind (.bin .gtr 3 (.tmp 7) (K' 8)) [.v 3, k' 8] <|
  .ite (.v 4) (
    .ret [.c (.bool false)]) (
    fl' 2 1 <|
    ln' 5 <|
    .bind (.bin .gtr 3 (.tmp 13) (K' 10)) [.v 6, k' 10] <|
    .ite (.v 7) (
      .ret [.c (.bool false)]) (
      fl' 4 1 <|
      ln' 8 <|
      .bind (.bin .gtr 3 (.tmp 19) (K' 2)) [.v 9, k' 2] <|
      .ite (.v 10) (
        .ret [.c (.bool false)]) (
        fl' 5 1 <|
        .bind (.bin .gtr 3 (.tmp 25) (K' 3)) [.v 11, k' 3] <|
        .ite (.v 12) (
          .ret [.c (.bool false)]) (
          fl' 6 1 <|
          ln' 13 <|
          .bind (.bin .gtr 3 (.tmp 32) (K' 6)) [.v 14, k' 6] <|
          .ite (.v 15) (
            .ret [.c (.bool false)]) (
            fl' 7 1 <|
            ln' 16 <|
            .bind (.bin .gtr 3 (.tmp 39) (K' 3)) [.v 17, k' 3] <|
            .ite (.v 18) (
              .ret [.c (.bool false)]) (
              fl' 8 1 <|
              .call (.fn 12) [.v 19] 1 <|
              .bind (.un .not 4) [.v 20] <|
              .ite (.v 21) (
                .ret [.c (.bool false)]) (
                .jump 1 [k' 0, .v 1])))))))
def u4T1 : Tree :=
  fl' 4 1 <|
  ln' 2 <|
  .bind (.bin .lss 3 (.tmp 48) (.tmp 51)) [.v 0, .v 3] <|
  .ite (.v 4) (
    fl' 4 1 <|
    ir' 5 0 <|
    .bind (.elem 6 false 1 0) [.v 5, .v 0] <|
    ln' 7 <|
    .bind (.bin .gtr 3 (.tmp 61) (K' 8)) [.v 8, k' 8] <|
    .ite (.v 9) (
      .ret [.c (.bool false)]) (
      .bind (.bin .add 3 (.tmp 53) (K' 1)) [.v 0, k' 1] <|
      .jump 1 [.v 10, .v 1])) (
    .call (.fn 13) [.v 1] 1 <|
    .bind (.bin .eql 50 (.tmp 64) (K' 0)) [.v 5, k' 0] <|
    .ret [.v 6])
def u4Ts : Nat → Tree
  | 0 => u4T0
  | 1 => u4T1
  | _ => .fail
/-! 7 langdoc/langdocref01.Same params #[31, 31] -/
def u7P : Nat → Pat
  | 1 => ⟨[⟨.pure, false⟩, ⟨.pure, false⟩, ⟨.pure, true⟩, ⟨.pure, true⟩], [(0, .v 0), (1, .v 1), (12, .v 2), (13, .v 3)], []⟩
  | _ => ⟨[], [], []⟩
def u7T0 : Tree :=
  ln' 0 <|
  ln' 1 <|
  .bind (.bin .neq 3 (.tmp 7) (.tmp 9)) [.v 2, .v 3] <|
  .ite (.v 4) (
    .ret [.c (.bool false)]) (
    ln' 0 <|
    .jump 1 [.v 0, .v 1, .v 5, k' 0])
def u7T1 : Tree :=
  .bind (.bin .lss 3 (.tmp 13) (.tmp 12)) [.v 3, .v 2] <|
  .ite (.v 4) (
    ir' 0 3 <|
    .bind (.elem 1 false 1 0) [.v 0, .v 3] <|
    ir' 1 3 <|
    .bind (.elem 1 false 1 0) [.v 1, .v 3] <|
    .bind (.bin .neq 3 (.tmp 19) (.tmp 23)) [.v 6, .v 8] <|
    .ite (.v 9) (
      .ret [.c (.bool false)]) (
      .bind (.bin .add 3 (.tmp 13) (K' 1)) [.v 3, k' 1] <|
      .jump 1 [.v 0, .v 1, .v 2, .v 10])) (
    .ret [.c (.bool true)])
def u7Ts : Nat → Tree
  | 0 => u7T0
  | 1 => u7T1
  | _ => .fail
/-! 12 langdoc/langdocref29.small params #[34] -/
def u12P : Nat → Pat
  | 1 => ⟨[⟨.pure, false⟩, ⟨.pure, true⟩], [(0, .v 0), (3, .v 1)], []⟩
  | 2 => ⟨[⟨.pure, false⟩, ⟨.pure, true⟩, ⟨.pure, true⟩, ⟨.pure, true⟩, ⟨.pure, true⟩], [(0, .v 0), (3, .v 1), (4, .v 2), (22, .v 0), (23, .v 1), (26, .v 3), (27, .v 4), (28, .c (.bool false))], []⟩
  | _ => ⟨[], [], []⟩
def u12T0 : Tree :=
  ln' 0 <|
  .bind (.bin .gtr 3 (.tmp 6) (K' 5)) [.v 1, k' 5] <|
  .ite (.v 2) (
    .ret [.c (.bool false)]) (
    .jump 1 [.v 0, k' 0])
def u12T1 : Tree :=
  ln' 0 <|
  .bind (.bin .lss 3 (.tmp 8) (.tmp 10)) [.v 1, .v 2] <|
  .ite (.v 3) (
    ir' 0 1 <|
    .bind (.elem 8 false 1 1) [.v 0, .v 1] <|
    ln' 5 <|
    .bind (.bin .gtr 3 (.tmp 19) (K' 3)) [.v 6, k' 3] <|
    .ite (.v 7) (
      .ret [.c (.bool false)]) (
      ir' 0 1 <|
      .bind (.elem 8 false 1 3) [.v 0, .v 1] <|
      ln' 9 <|
      .bind (.bin .gtr 3 (.tmp 27) (K' 1)) [.v 10, k' 1] <|
      .ite (.v 11) (
        .ret [.c (.bool false)]) (
        .jump 2 [.v 0, .v 1, k' 0, .v 9, .v 10]))) (
    .ret [.c (.bool true)])
def u12T2 : Tree :=
  ir' 0 1 <|
  .bind (.elem 8 false 1 3) [.v 0, .v 1] <|
  ln' 6 <|
  .bind (.bin .lss 3 (.tmp 30) (.tmp 36)) [.v 2, .v 7] <|
  .ite (.v 8) (
    ir' 0 1 <|
    .bind (.elem 8 false 1 3) [.v 0, .v 1] <|
    ir' 10 2 <|
    .bind (.elem 1 false 1 0) [.v 10, .v 2] <|
    ln' 12 <|
    .bind (.bin .gtr 3 (.tmp 48) (K' 3)) [.v 13, k' 3] <|
    .ite (.v 14) (
      .ret [.c (.bool false)]) (
      .bind (.bin .add 3 (.tmp 38) (K' 1)) [.v 2, k' 1] <|
      .jump 2 [.v 0, .v 1, .v 15, .v 3, .v 4])) (
    .bind (.bin .add 3 (.tmp 12) (K' 1)) [.v 1, k' 1] <|
    .jump 1 [.v 0, .v 9])
def u12Ts : Nat → Tree
  | 0 => u12T0
  | 1 => u12T1
  | 2 => u12T2
  | _ => .fail
/-! 13 langdoc/langdocref29.Check params #[36] -/
def u13P : Nat → Pat
  | _ => ⟨[], [], []⟩
def u13T0 : Tree :=
  .bind (.chk true 9) [.v 0] <|
  .bind (.fld true 1 0) [.v 1] <|
  .call (.fn 25) [.v 2] 1 <|
  .bind (.bin .neq 50 (.tmp 7) (K' 0)) [.v 3, k' 0] <|
  .ite (.v 4) (
    .ret [.v 3]) (
    .bind (.fld true 1 0) [.v 1] <|
    .bind (.fld true 3 1) [.v 1] <|
    .call (.fn 26) [.v 5, .v 6] 1 <|
    .bind (.bin .neq 50 (.tmp 15) (K' 0)) [.v 7, k' 0] <|
    .ite (.v 8) (
      .ret [.v 7]) (
      .call (.fn 27) [.v 1] 1 <|
      .bind (.bin .neq 50 (.tmp 20) (K' 0)) [.v 9, k' 0] <|
      .ite (.v 10) (
        .ret [.v 9]) (
        .bind (.fld true 3 5) [.v 1] <|
        .call (.fn 28) [.v 11] 1 <|
        .bind (.bin .neq 50 (.tmp 26) (K' 0)) [.v 12, k' 0] <|
        .ite (.v 13) (
          .ret [.v 12]) (
          .bind (.fld true 1 0) [.v 1] <|
          fl' 8 1 <|
          .call (.fn 29) [.v 14, .v 15] 1 <|
          .bind (.bin .neq 50 (.tmp 34) (K' 0)) [.v 16, k' 0] <|
          .ite (.v 17) (
            .ret [.v 16]) (
            fl' 8 1 <|
            .call (.fn 30) [.v 18] 1 <|
            .bind (.bin .neq 50 (.tmp 40) (K' 0)) [.v 19, k' 0] <|
            .ite (.v 20) (
              .ret [.v 19]) (
              fl' 8 1 <|
              .call (.fn 31) [.v 21] 1 <|
              .ret [.v 22]))))))
def u13Ts : Nat → Tree
  | 0 => u13T0
  | _ => .fail
/-! 22 langdoc/langdocref25.Get params #[34, 3] -/
def u22P : Nat → Pat
  | 1 => ⟨[⟨.pure, false⟩, ⟨.pure, false⟩, ⟨.pure, true⟩, ⟨.pure, true⟩], [(0, .v 0), (1, .v 1), (4, .loc 0 0), (8, .v 2), (9, .v 3)], [some (.cells [k' 0, .c (.slice none 0 0), k' 0, .c (.slice none 0 0), k' 0, .c (.slice none 0 0), .c (.slice none 0 0), .c (.slice none 0 0)])]⟩
  | _ => ⟨[], [], []⟩
def u22T0 : Tree :=
  ln' 0 <|
  .jump 1 [.v 0, .v 1, .v 2, k' 0]
def u22T1 : Tree :=
  .bind (.bin .lss 3 (.tmp 9) (.tmp 8)) [.v 3, .v 2] <|
  .ite (.v 4) (
    ir' 0 3 <|
    .bind (.elem 8 false 1 0) [.v 0, .v 3] <|
    .bind (.bin .eql 3 (.tmp 16) (.tmp 17)) [.v 6, .v 1] <|
    .ite (.v 7) (
      ir' 0 3 <|
      .bind (.elem 8 true 8 0) [.v 0, .v 3] <|
      .bind (.chk true 8) [.v 9] <|
      .ret [.v 10, .c (.bool true)]) (
      .bind (.bin .add 3 (.tmp 9) (K' 1)) [.v 3, k' 1] <|
      .jump 1 [.v 0, .v 1, .v 2, .v 8])) (
    .ret [.agg [k' 0, .c (.slice none 0 0), k' 0, .c (.slice none 0 0), k' 0, .c (.slice none 0 0), .c (.slice none 0 0), .c (.slice none 0 0)], .c (.bool false)])
def u22Ts : Nat → Tree
  | 0 => u22T0
  | 1 => u22T1
  | _ => .fail
/-! 25 langdoc/langdocref16.Check params #[24] -/
def u25P : Nat → Pat
  | 1 => ⟨[⟨.pure, true⟩, ⟨.pure, true⟩, ⟨.pure, false⟩], [(1, .loc 0 0), (11, .v 0), (12, .v 1)], [some (.whole (.v 2) 1)]⟩
  | 2 => ⟨[⟨.pure, true⟩, ⟨.pure, true⟩, ⟨.pure, true⟩, ⟨.pure, false⟩], [(1, .loc 0 0), (3, .v 0), (4, .v 1), (11, .v 2), (12, .v 0)], [some (.whole (.v 3) 1)]⟩
  | _ => ⟨[], [], []⟩
def u25T0 : Tree :=
  .bind (.chk true 1) [.v 0] <|
  fl' 0 1 <|
  ln' 2 <|
  .bind (.bin .gtr 3 (.tmp 7) (K' 60)) [.v 3, k' 60] <|
  .ite (.v 4) (
    .ret [k' 11]) (
    fl' 0 1 <|
    ln' 5 <|
    .jump 1 [.v 6, k' 0, .v 1])
def u25T1 : Tree :=
  .bind (.bin .lss 3 (.tmp 12) (.tmp 11)) [.v 1, .v 0] <|
  .ite (.v 3) (
    fl' 0 2 <|
    ir' 4 1 <|
    .bind (.elem 2 false 1 0) [.v 4, .v 1] <|
    .call (.fn 41) [.v 6] 1 <|
    .bind (.un .not 4) [.v 7] <|
    .ite (.v 8) (
      .ret [k' 7]) (
      .jump 2 [.v 1, k' 0, .v 0, .v 2])) (
    .ret [k' 0])
def u25T2 : Tree :=
  .bind (.bin .lss 3 (.tmp 23) (.tmp 24)) [.v 1, .v 0] <|
  .ite (.v 4) (
    fl' 0 3 <|
    ir' 5 1 <|
    .bind (.elem 2 false 1 0) [.v 5, .v 1] <|
    fl' 0 3 <|
    ir' 8 0 <|
    .bind (.elem 2 false 1 0) [.v 8, .v 0] <|
    .bind (.bin .eql 9 (.tmp 33) (.tmp 39)) [.v 7, .v 10] <|
    .ite (.v 11) (
      .ret [k' 8]) (
      .bind (.bin .add 3 (.tmp 26) (K' 1)) [.v 1, k' 1] <|
      .jump 2 [.v 0, .v 12, .v 2, .v 3])) (
    fl' 0 3 <|
    ir' 5 0 <|
    .bind (.elem 2 false 1 1) [.v 5, .v 0] <|
    .bind (.bin .lss 3 (.tmp 46) (K' 0)) [.v 7, k' 0] <|
    .ite (.v 8) (
      .ret [k' 2]) (
      fl' 0 3 <|
      ir' 9 0 <|
      .bind (.elem 2 false 1 1) [.v 9, .v 0] <|
      .bind (.bin .geq 3 (.tmp 54) (K' 65536)) [.v 11, k' 65536] <|
      .ite (.v 12) (
        .ret [k' 2]) (
        .bind (.bin .add 3 (.tmp 12) (K' 1)) [.v 0, k' 1] <|
        .jump 1 [.v 2, .v 13, .v 3])))
def u25Ts : Nat → Tree
  | 0 => u25T0
  | 1 => u25T1
  | 2 => u25T2
  | _ => .fail
/-! 26 langdoc/langdocref17.Check params #[24, 28] -/
def u26P : Nat → Pat
  | 1 => ⟨[⟨.pure, true⟩, ⟨.pure, false⟩, ⟨.pure, false⟩], [(2, .loc 0 0), (3, .loc 1 0), (5, .v 0)], [some (.whole (.v 1) 1), some (.whole (.v 2) 3)]⟩
  | 2 => ⟨[⟨.fresh, true⟩, ⟨.pure, true⟩, ⟨.pure, false⟩], [(3, .loc 1 0), (7, .v 0), (8, .v 1)], [none, some (.whole (.v 2) 3)]⟩
  | 3 => ⟨[⟨.fresh, true⟩, ⟨.pure, true⟩, ⟨.pure, true⟩, ⟨.pure, false⟩], [(3, .loc 1 0), (7, .v 0), (8, .v 1), (9, .v 2)], [none, some (.whole (.v 3) 3)]⟩
  | _ => ⟨[], [], []⟩
def u26T0 : Tree :=
  .bind (.chk true 1) [.v 0] <|
  .bind (.chk true 3) [.v 1] <|
  fl' 0 3 <|
  .call (.fn 42) [.v 4] 1 <|
  .bind (.un .not 4) [.v 5] <|
  .ite (.v 6) (
    .ret [k' 7]) (
    fl' 1 3 <|
    ln' 7 <|
    .bind (.bin .gtr 3 (.tmp 17) (K' 100)) [.v 8, k' 100] <|
    .ite (.v 9) (
      .ret [k' 11]) (
      .jump 1 [k' 0, .v 2, .v 3]))
def u26T1 : Tree :=
  fl' 1 2 <|
  ln' 3 <|
  .bind (.bin .lss 3 (.tmp 19) (.tmp 22)) [.v 0, .v 4] <|
  .ite (.v 5) (
    .call (.fn 43) [.v 1, .v 2, .v 0] 1 <|
    .bind (.bin .neq 50 (.tmp 30) (K' 0)) [.v 6, k' 0] <|
    .ite (.v 7) (
      .ret [.v 6]) (
      .bind (.bin .add 3 (.tmp 24) (K' 1)) [.v 0, k' 1] <|
      .jump 1 [.v 8, .v 1, .v 2])) (
    fl' 2 2 <|
    ln' 6 <|
    .bind (.bin .gtr 3 (.tmp 35) (K' 100)) [.v 7, k' 100] <|
    .ite (.v 8) (
      .ret [k' 11]) (
      .jump 2 [.c (.slice none 0 0), k' 0, .v 2]))
def u26T2 : Tree :=
  fl' 2 2 <|
  ln' 3 <|
  .bind (.bin .lss 3 (.tmp 37) (.tmp 40)) [.v 1, .v 4] <|
  .ite (.v 5) (
    fl' 2 2 <|
    ir' 6 1 <|
    .bind (.elem 1 false 1 0) [.v 6, .v 1] <|
    ln' 8 <|
    .bind (.bin .eql 3 (.tmp 49) (K' 0)) [.v 9, k' 0] <|
    .ite (.v 10) (
      .ret [k' 4]) (
      .jump 3 [.v 0, .v 1, k' 0, .v 2])) (
    .ret [k' 0])
def u26T3 : Tree :=
  fl' 2 3 <|
  ir' 4 1 <|
  .bind (.elem 1 false 1 0) [.v 4, .v 1] <|
  ln' 6 <|
  .bind (.bin .lss 3 (.tmp 51) (.tmp 57)) [.v 2, .v 7] <|
  .ite (.v 8) (
    fl' 2 3 <|
    ir' 9 1 <|
    .bind (.elem 1 false 1 0) [.v 9, .v 1] <|
    ir' 11 2 <|
    .bind (.elem 1 false 1 0) [.v 11, .v 2] <|
    .call (.fn 44) [.v 13] 1 <|
    .bind (.un .not 4) [.v 14] <|
    .ite (.v 15) (
      .ret [k' 3]) (
      .call (.fn 45) [.v 0, .v 13] 1 <|
      .ite (.v 16) (
        .ret [k' 8]) (
        .bind (.chk false 1) [.v 13] <|
        .bind (.lit 9 1) [.v 13] <|
        .bind (.app 9 1 16) [.v 0, .v 18] <|
        .bind (.bin .add 3 (.tmp 59) (K' 1)) [.v 2, k' 1] <|
        .jump 3 [.v 19, .v 1, .v 20, .v 3]))) (
    .bind (.bin .add 3 (.tmp 42) (K' 1)) [.v 1, k' 1] <|
    .jump 2 [.v 0, .v 9, .v 3])
def u26Ts : Nat → Tree
  | 0 => u26T0
  | 1 => u26T1
  | 2 => u26T2
  | 3 => u26T3
  | _ => .fail
/-! 27 langdoc/langdocref29.rules params #[36] -/
def u27P : Nat → Pat
  | 1 => ⟨[⟨.pure, true⟩, ⟨.pure, false⟩], [(1, .loc 0 0), (3, .v 0)], [some (.whole (.v 1) 9)]⟩
  | _ => ⟨[], [], []⟩
def u27T0 : Tree :=
  .bind (.chk true 9) [.v 0] <|
  fl' 4 1 <|
  ln' 2 <|
  .bind (.bin .gtr 3 (.tmp 7) (K' 12)) [.v 3, k' 12] <|
  .ite (.v 4) (
    .ret [k' 11]) (
    .jump 1 [k' 0, .v 1])
def u27T1 : Tree :=
  fl' 4 1 <|
  ln' 2 <|
  .bind (.bin .lss 3 (.tmp 9) (.tmp 12)) [.v 0, .v 3] <|
  .ite (.v 4) (
    .bind (.fld true 1 0) [.v 1] <|
    fl' 4 1 <|
    ir' 6 0 <|
    .bind (.elem 6 true 6 0) [.v 6, .v 0] <|
    .call (.fn 46) [.v 5, .v 8] 1 <|
    .bind (.bin .neq 50 (.tmp 24) (K' 0)) [.v 9, k' 0] <|
    .ite (.v 10) (
      .ret [.v 9]) (
      .bind (.bin .add 3 (.tmp 14) (K' 1)) [.v 0, k' 1] <|
      .jump 1 [.v 11, .v 1])) (
    .ret [k' 0])
def u27Ts : Nat → Tree
  | 0 => u27T0
  | 1 => u27T1
  | _ => .fail
/-! 28 langdoc/langdocref23.Check params #[33] -/
def u28P : Nat → Pat
  | 1 => ⟨[⟨.pure, true⟩, ⟨.pure, false⟩], [(1, .loc 0 0), (3, .v 0)], [some (.whole (.v 1) 3)]⟩
  | 2 => ⟨[⟨.pure, true⟩, ⟨.pure, true⟩, ⟨.pure, false⟩, ⟨.pure, true⟩, ⟨.pure, true⟩, ⟨.pure, true⟩, ⟨.pure, false⟩], [(1, .loc 0 0), (3, .v 0), (4, .loc 1 0), (5, .v 1), (38, .v 2), (39, .loc 1 2), (40, .v 3), (41, .v 4), (42, .c (.bool false)), (48, .loc 1 1), (49, .v 5), (50, .c (.bool false))], [some (.whole (.v 2) 3), some (.whole (.v 6) 3)]⟩
  | 3 => ⟨[⟨.pure, true⟩, ⟨.pure, false⟩], [(1, .loc 0 0), (6, .v 0)], [some (.whole (.v 1) 3)]⟩
  | 4 => ⟨[⟨.pure, true⟩, ⟨.pure, false⟩], [(1, .loc 0 0), (7, .v 0)], [some (.whole (.v 1) 3)]⟩
  | _ => ⟨[], [], []⟩
def u28T0 : Tree :=
  .bind (.chk true 3) [.v 0] <|
  fl' 0 1 <|
  .bind (.bin .lss 3 (.tmp 9) (K' 1)) [.v 2, k' 1] <|
  .ite (.v 3) (
    .ret [k' 2]) (
    fl' 0 1 <|
    .bind (.bin .gtr 3 (.tmp 13) (K' 24)) [.v 4, k' 24] <|
    .ite (.v 5) (
      .ret [k' 2]) (
      fl' 1 1 <|
      ln' 6 <|
      .bind (.bin .gtr 3 (.tmp 18) (K' 200)) [.v 7, k' 200] <|
      .ite (.v 8) (
        .ret [k' 11]) (
        .jump 1 [k' 0, .v 1])))
def u28T1 : Tree :=
  fl' 1 1 <|
  ln' 2 <|
  .bind (.bin .lss 3 (.tmp 20) (.tmp 23)) [.v 0, .v 3] <|
  .ite (.v 4) (
    fl' 1 1 <|
    ir' 5 0 <|
    .bind (.elem 3 true 3 0) [.v 5, .v 0] <|
    .bind (.chk true 3) [.v 7] <|
    fl' 0 8 <|
    .call (.fn 47) [.v 1, .v 9] 1 <|
    .bind (.un .not 4) [.v 10] <|
    .ite (.v 11) (
      .ret [k' 2]) (
      fl' 2 8 <|
      .call (.fn 47) [.v 1, .v 12] 1 <|
      .bind (.un .not 4) [.v 13] <|
      .ite (.v 14) (
        .ret [k' 2]) (
        fl' 1 8 <|
        .bind (.bin .lss 3 (.tmp 45) (K' 1)) [.v 15, k' 1] <|
        .ite (.v 16) (
          .ret [k' 21]) (
          fl' 1 8 <|
          .bind (.bin .gtr 3 (.tmp 49) (K' 20)) [.v 17, k' 20] <|
          .ite (.v 18) (
            .ret [k' 21]) (
            .jump 2 [.v 0, k' 0, .v 1, .v 12, .v 13, .v 17, .v 8]))))) (
    .jump 3 [k' 1, .v 1])
def u28T2 : Tree :=
  .bind (.bin .lss 3 (.tmp 52) (.tmp 53)) [.v 1, .v 0] <|
  .ite (.v 7) (
    fl' 1 2 <|
    ir' 8 1 <|
    .bind (.elem 3 true 3 0) [.v 8, .v 1] <|
    .bind (.bin .eql 85 (.tmp 61) (.tmp 62)) [.v 10, .v 6] <|
    .ite (.v 11) (
      .ret [k' 8]) (
      .bind (.bin .add 3 (.tmp 55) (K' 1)) [.v 1, k' 1] <|
      .jump 2 [.v 0, .v 12, .v 2, .v 3, .v 4, .v 5, .v 6])) (
    .bind (.bin .add 3 (.tmp 25) (K' 1)) [.v 0, k' 1] <|
    .jump 1 [.v 8, .v 2])
def u28T3 : Tree :=
  fl' 2 1 <|
  ln' 2 <|
  .bind (.bin .lss 3 (.tmp 64) (.tmp 67)) [.v 0, .v 3] <|
  .ite (.v 4) (
    fl' 2 1 <|
    ir' 5 0 <|
    .bind (.elem 1 false 1 0) [.v 5, .v 0] <|
    fl' 2 1 <|
    .bind (.bin .sub 3 (.tmp 78) (K' 1)) [.v 0, k' 1] <|
    ir' 8 9 <|
    .bind (.elem 1 false 1 0) [.v 8, .v 9] <|
    .bind (.bin .leq 3 (.tmp 75) (.tmp 81)) [.v 7, .v 11] <|
    .ite (.v 12) (
      .ret [k' 10]) (
      .bind (.bin .add 3 (.tmp 69) (K' 1)) [.v 0, k' 1] <|
      .jump 3 [.v 13, .v 1])) (
    .jump 4 [k' 0, .v 1])
def u28T4 : Tree :=
  fl' 2 1 <|
  ln' 2 <|
  .bind (.bin .lss 3 (.tmp 83) (.tmp 86)) [.v 0, .v 3] <|
  .ite (.v 4) (
    fl' 2 1 <|
    ir' 5 0 <|
    .bind (.elem 1 false 1 0) [.v 5, .v 0] <|
    .call (.fn 47) [.v 1, .v 7] 1 <|
    .bind (.un .not 4) [.v 8] <|
    .ite (.v 9) (
      .ret [k' 2]) (
      .bind (.bin .add 3 (.tmp 88) (K' 1)) [.v 0, k' 1] <|
      .jump 4 [.v 10, .v 1])) (
    .ret [k' 0])
def u28Ts : Nat → Tree
  | 0 => u28T0
  | 1 => u28T1
  | 2 => u28T2
  | 3 => u28T3
  | 4 => u28T4
  | _ => .fail
/-! 29 langdoc/langdocref25.Check params #[24, 34] -/
def u29P : Nat → Pat
  | 1 => ⟨[⟨.pure, false⟩, ⟨.pure, true⟩, ⟨.pure, true⟩, ⟨.pure, false⟩], [(1, .v 0), (2, .loc 0 0), (13, .v 1), (14, .v 2)], [some (.whole (.v 3) 1)]⟩
  | 2 => ⟨[⟨.pure, false⟩, ⟨.pure, true⟩, ⟨.pure, true⟩], [(1, .v 0), (44, .v 1), (45, .v 2)], []⟩
  | 3 => ⟨[⟨.pure, false⟩, ⟨.pure, true⟩, ⟨.pure, true⟩, ⟨.pure, false⟩, ⟨.pure, false⟩, ⟨.pure, false⟩, ⟨.pure, false⟩, ⟨.pure, false⟩, ⟨.pure, true⟩, ⟨.pure, true⟩], [(1, .v 0), (7, .v 1), (44, .v 2), (45, .v 1), (55, .v 3), (56, .v 3), (57, .v 4), (60, .v 5), (61, .v 6), (62, .v 7), (69, .v 8), (70, .v 9)], []⟩
  | _ => ⟨[], [], []⟩
def u29T0 : Tree :=
  .bind (.chk true 1) [.v 0] <|
  ln' 1 <|
  .bind (.bin .gtr 3 (.tmp 10) (K' 100)) [.v 3, k' 100] <|
  .ite (.v 4) (
    .ret [k' 11]) (
    ln' 1 <|
    .jump 1 [.v 1, .v 5, k' 0, .v 2])
def u29T1 : Tree :=
  .bind (.bin .lss 3 (.tmp 14) (.tmp 13)) [.v 2, .v 1] <|
  .ite (.v 4) (
    ir' 0 2 <|
    .bind (.elem 8 true 8 0) [.v 0, .v 2] <|
    .call (.fn 48) [.v 3, .v 6] 1 <|
    .bind (.bin .neq 50 (.tmp 23) (K' 0)) [.v 7, k' 0] <|
    .ite (.v 8) (
      .ret [.v 7]) (
      .bind (.bin .gtr 3 (.tmp 26) (K' 0)) [.v 2, k' 0] <|
      .ite (.v 9) (
        ir' 0 2 <|
        .bind (.elem 8 false 1 0) [.v 0, .v 2] <|
        .bind (.bin .sub 3 (.tmp 35) (K' 1)) [.v 2, k' 1] <|
        ir' 0 12 <|
        .bind (.elem 8 false 1 0) [.v 0, .v 12] <|
        .bind (.bin .leq 3 (.tmp 33) (.tmp 39)) [.v 11, .v 14] <|
        .ite (.v 15) (
          .ret [k' 10]) (
          .bind (.bin .add 3 (.tmp 14) (K' 1)) [.v 2, k' 1] <|
          .jump 1 [.v 0, .v 1, .v 16, .v 3])) (
        .bind (.bin .add 3 (.tmp 14) (K' 1)) [.v 2, k' 1] <|
        .jump 1 [.v 0, .v 1, .v 10, .v 3]))) (
    ln' 0 <|
    .jump 2 [.v 0, .v 5, k' 0])
def u29T2 : Tree :=
  .bind (.bin .lss 3 (.tmp 45) (.tmp 44)) [.v 2, .v 1] <|
  .ite (.v 3) (
    ir' 0 2 <|
    .bind (.elem 8 false 1 4) [.v 0, .v 2] <|
    .bind (.bin .neq 3 (.tmp 52) (K' 0)) [.v 5, k' 0] <|
    .ite (.v 6) (
      ir' 0 2 <|
      .bind (.elem 8 false 1 4) [.v 0, .v 2] <|
      .call (.fn 49) [.v 0, .v 8] 1 <|
      .bind (.un .not 4) [.v 9] <|
      .ite (.v 10) (
        .ret [k' 9]) (
        ir' 0 2 <|
        .bind (.elem 8 false 1 6) [.v 0, .v 2] <|
        ln' 12 <|
        .jump 3 [.v 0, .v 2, .v 1, .v 0, .v 2, .v 8, .v 9, .c (.bool false), .v 13, k' 0])) (
      ir' 0 2 <|
      .bind (.elem 8 false 1 6) [.v 0, .v 2] <|
      ln' 8 <|
      .jump 3 [.v 0, .v 2, .v 1, .tup [], .tup [], .tup [], .tup [], .tup [], .v 9, k' 0])) (
    .ret [k' 0])
def u29T3 : Tree :=
  .bind (.bin .lss 3 (.tmp 70) (.tmp 69)) [.v 9, .v 8] <|
  .ite (.v 10) (
    ir' 0 1 <|
    .bind (.elem 8 false 1 6) [.v 0, .v 1] <|
    ir' 12 9 <|
    .bind (.elem 2 false 1 1) [.v 12, .v 9] <|
    .call (.fn 49) [.v 0, .v 14] 1 <|
    .bind (.un .not 4) [.v 15] <|
    .ite (.v 16) (
      .ret [k' 9]) (
      .bind (.bin .add 3 (.tmp 70) (K' 1)) [.v 9, k' 1] <|
      .jump 3 [.v 0, .v 1, .v 2, .v 3, .v 4, .v 5, .v 6, .v 7, .v 8, .v 17])) (
    .bind (.bin .add 3 (.tmp 45) (K' 1)) [.v 1, k' 1] <|
    .jump 2 [.v 0, .v 2, .v 11])
def u29Ts : Nat → Tree
  | 0 => u29T0
  | 1 => u29T1
  | 2 => u29T2
  | 3 => u29T3
  | _ => .fail
/-! 30 langdoc/langdocref26.Check params #[34] -/
def u30P : Nat → Pat
  | 1 => ⟨[⟨.pure, false⟩, ⟨.pure, true⟩], [(0, .v 0), (3, .v 1)], []⟩
  | 2 => ⟨[⟨.pure, false⟩, ⟨.pure, true⟩, ⟨.pure, true⟩], [(0, .v 0), (3, .v 1), (4, .v 2)], []⟩
  | 3 => ⟨[⟨.pure, false⟩, ⟨.pure, true⟩], [(0, .v 0), (7, .v 1)], []⟩
  | _ => ⟨[], [], []⟩
def u30T0 : Tree :=
  .jump 1 [.v 0, k' 0]
def u30T1 : Tree :=
  ln' 0 <|
  .bind (.bin .lss 3 (.tmp 8) (.tmp 10)) [.v 1, .v 2] <|
  .ite (.v 3) (
    .jump 2 [.v 0, .v 1, k' 0]) (
    .jump 3 [.v 0, k' 0])
def u30T2 : Tree :=
  ir' 0 1 <|
  .bind (.elem 8 false 1 6) [.v 0, .v 1] <|
  ln' 4 <|
  .bind (.bin .lss 3 (.tmp 14) (.tmp 20)) [.v 2, .v 5] <|
  .ite (.v 6) (
    ir' 0 1 <|
    .bind (.elem 8 false 1 6) [.v 0, .v 1] <|
    ir' 8 2 <|
    .bind (.elem 2 true 2 0) [.v 8, .v 2] <|
    .bind (.chk true 2) [.v 10] <|
    fl' 0 11 <|
    .call (.fn 50) [.v 12] 1 <|
    .bind (.bin .lss 3 (.tmp 34) (K' 0)) [.v 13, k' 0] <|
    .ite (.v 14) (
      .ret [k' 14]) (
      fl' 1 11 <|
      .call (.fn 51) [.v 0, .v 15] 1 <|
      .bind (.bin .lss 3 (.tmp 40) (K' 0)) [.v 16, k' 0] <|
      .ite (.v 17) (
        .ret [k' 9]) (
        ir' 0 16 <|
        .bind (.elem 8 true 8 0) [.v 0, .v 16] <|
        fl' 0 11 <|
        .call (.fn 50) [.v 20] 1 <|
        ir' 0 1 <|
        .bind (.elem 8 false 1 0) [.v 0, .v 1] <|
        .call (.fn 52) [.v 19, .agg [.v 21, .v 23]] 1 <|
        .bind (.un .not 4) [.v 24] <|
        .ite (.v 25) (
          .ret [k' 1]) (
          .bind (.bin .add 3 (.tmp 22) (K' 1)) [.v 2, k' 1] <|
          .jump 2 [.v 0, .v 1, .v 26])))) (
    .bind (.bin .add 3 (.tmp 12) (K' 1)) [.v 1, k' 1] <|
    .jump 1 [.v 0, .v 7])
def u30T3 : Tree :=
  ln' 0 <|
  .bind (.bin .lss 3 (.tmp 57) (.tmp 59)) [.v 1, .v 2] <|
  .ite (.v 3) (
    ir' 0 1 <|
    .bind (.elem 8 false 1 0) [.v 0, .v 1] <|
    .call (.fn 54) [.v 0, .v 5, k' 2] 0 <|
    ir' 0 1 <|
    .bind (.elem 8 false 1 0) [.v 0, .v 1] <|
    .call (.fn 53) [.v 6, .v 8] 1 <|
    .ite (.v 9) (
      .ret [k' 17]) (
      ir' 0 1 <|
      .bind (.elem 8 false 1 0) [.v 0, .v 1] <|
      .call (.fn 54) [.v 0, .v 11, k' 4] 0 <|
      ir' 0 1 <|
      .bind (.elem 8 false 1 0) [.v 0, .v 1] <|
      .call (.fn 53) [.v 12, .v 14] 1 <|
      .ite (.v 15) (
        .ret [k' 17]) (
        .bind (.bin .add 3 (.tmp 61) (K' 1)) [.v 1, k' 1] <|
        .jump 3 [.v 0, .v 16]))) (
    .ret [k' 0])
def u30Ts : Nat → Tree
  | 0 => u30T0
  | 1 => u30T1
  | 2 => u30T2
  | 3 => u30T3
  | _ => .fail
/-! 31 langdoc/langdocref27.Check params #[34] -/
def u31P : Nat → Pat
  | 1 => ⟨[⟨.pure, false⟩, ⟨.pure, true⟩], [(0, .v 0), (3, .v 1)], []⟩
  | 2 => ⟨[⟨.pure, false⟩, ⟨.pure, true⟩], [(0, .v 0), (4, .v 1)], []⟩
  | _ => ⟨[], [], []⟩
def u31T0 : Tree :=
  .jump 1 [.v 0, k' 0]
def u31T1 : Tree :=
  ln' 0 <|
  .bind (.bin .lss 3 (.tmp 5) (.tmp 7)) [.v 1, .v 2] <|
  .ite (.v 3) (
    ir' 0 1 <|
    .bind (.elem 8 false 1 4) [.v 0, .v 1] <|
    .bind (.bin .neq 3 (.tmp 15) (K' 0)) [.v 5, k' 0] <|
    .ite (.v 6) (
      ir' 0 1 <|
      .bind (.elem 8 false 1 4) [.v 0, .v 1] <|
      .call (.fn 55) [.v 0, .v 8] 1 <|
      .bind (.bin .lss 3 (.tmp 24) (K' 0)) [.v 9, k' 0] <|
      .ite (.v 10) (
        .ret [k' 9]) (
        .bind (.bin .add 3 (.tmp 9) (K' 1)) [.v 1, k' 1] <|
        .jump 1 [.v 0, .v 11])) (
      .bind (.bin .add 3 (.tmp 9) (K' 1)) [.v 1, k' 1] <|
      .jump 1 [.v 0, .v 7])) (
    .jump 2 [.v 0, k' 0])
def u31T2 : Tree :=
  ln' 0 <|
  .bind (.bin .lss 3 (.tmp 27) (.tmp 29)) [.v 1, .v 2] <|
  .ite (.v 3) (
    ir' 0 1 <|
    .bind (.elem 8 false 1 0) [.v 0, .v 1] <|
    .call (.fn 56) [.v 0, .v 5] 0 <|
    ln' 6 <|
    ln' 0 <|
    .bind (.bin .gtr 3 (.tmp 40) (.tmp 42)) [.v 7, .v 8] <|
    .ite (.v 9) (
      .ret [k' 17]) (
      .bind (.bin .add 3 (.tmp 31) (K' 1)) [.v 1, k' 1] <|
      .jump 2 [.v 0, .v 10])) (
    .ret [k' 0])
def u31Ts : Nat → Tree
  | 0 => u31T0
  | 1 => u31T1
  | 2 => u31T2
  | _ => .fail
/-! 41 langdoc/langdocref10.Label params #[9] -/
def u41P : Nat → Pat
  | 1 => ⟨[⟨.pure, false⟩, ⟨.pure, true⟩], [(0, .v 0), (3, .v 1)], []⟩
  | _ => ⟨[], [], []⟩
def u41T0 : Tree :=
  .jump 1 [.v 0, k' 0]
def u41T1 : Tree :=
  .bind (.len true) [.v 0] <|
  .bind (.bin .lss 3 (.tmp 6) (.tmp 8)) [.v 1, .v 2] <|
  .ite (.v 3) (
    .bind .chr [.v 0, .v 1] <|
    .bind (.bin .lss 5 (.tmp 14) (.const (.int .u8 32))) [.v 4, .c (.int .u8 32)] <|
    .ite (.v 5) (
      .ret [.c (.bool false)]) (
      .bind .chr [.v 0, .v 1] <|
      .bind (.bin .eql 5 (.tmp 19) (.const (.int .u8 127))) [.v 6, .c (.int .u8 127)] <|
      .ite (.v 7) (
        .ret [.c (.bool false)]) (
        .bind (.bin .add 3 (.tmp 10) (K' 1)) [.v 1, k' 1] <|
        .jump 1 [.v 0, .v 8]))) (
    .call (.fn 69) [.v 0] 0 <|
    .bind (.ext 0) [.v 4] <|
    .bind (.ext 1) [.v 4] <|
    .ite (.v 6) (
      .bind (.len true) [.v 0] <|
      .bind (.bin .geq 3 (.tmp 30) (K' 1)) [.v 7, k' 1] <|
      .ite (.v 8) (
        .bind (.len true) [.v 0] <|
        .bind (.bin .leq 3 (.tmp 35) (K' 32)) [.v 9, k' 32] <|
        .ret [.v 10]) (
        .ret [.c (.bool false)])) (
      .ret [.c (.bool false)]))
def u41Ts : Nat → Tree
  | 0 => u41T0
  | 1 => u41T1
  | _ => .fail
/-! 42 langdoc/langdocref10.Name params #[9] -/
def u42P : Nat → Pat
  | 1 => ⟨[⟨.pure, false⟩, ⟨.pure, true⟩], [(0, .v 0), (3, .v 1)], []⟩
  | _ => ⟨[], [], []⟩
def u42T0 : Tree :=
  .jump 1 [.v 0, k' 0]
def u42T1 : Tree :=
  .bind (.len true) [.v 0] <|
  .bind (.bin .lss 3 (.tmp 5) (.tmp 7)) [.v 1, .v 2] <|
  .ite (.v 3) (
    .bind .chr [.v 0, .v 1] <|
    .bind (.bin .geq 5 (.tmp 13) (.const (.int .u8 97))) [.v 4, .c (.int .u8 97)] <|
    .ite (.v 5) (
      .bind .chr [.v 0, .v 1] <|
      .bind (.bin .leq 5 (.tmp 18) (.const (.int .u8 122))) [.v 6, .c (.int .u8 122)] <|
      .bind (.un .not 4) [.v 7] <|
      .ite (.v 8) (
        .bind (.bin .eql 3 (.tmp 24) (K' 0)) [.v 1, k' 0] <|
        .ite (.v 9) (
          .ret [.c (.bool false)]) (
          .bind .chr [.v 0, .v 1] <|
          .bind (.bin .neq 5 (.tmp 29) (.const (.int .u8 45))) [.v 10, .c (.int .u8 45)] <|
          .ite (.v 11) (
            .bind .chr [.v 0, .v 1] <|
            .bind (.bin .neq 5 (.tmp 34) (.const (.int .u8 95))) [.v 12, .c (.int .u8 95)] <|
            .ite (.v 13) (
              .bind .chr [.v 0, .v 1] <|
              .bind (.bin .lss 5 (.tmp 40) (.const (.int .u8 48))) [.v 14, .c (.int .u8 48)] <|
              .ite (.v 15) (
                .ret [.c (.bool false)]) (
                .bind .chr [.v 0, .v 1] <|
                .bind (.bin .gtr 5 (.tmp 45) (.const (.int .u8 57))) [.v 16, .c (.int .u8 57)] <|
                .ite (.v 17) (
                  .ret [.c (.bool false)]) (
                  .bind (.bin .add 3 (.tmp 9) (K' 1)) [.v 1, k' 1] <|
                  .jump 1 [.v 0, .v 18]))) (
              .bind (.bin .add 3 (.tmp 9) (K' 1)) [.v 1, k' 1] <|
              .jump 1 [.v 0, .v 14])) (
            .bind (.bin .add 3 (.tmp 9) (K' 1)) [.v 1, k' 1] <|
            .jump 1 [.v 0, .v 12]))) (
        .bind (.bin .add 3 (.tmp 9) (K' 1)) [.v 1, k' 1] <|
        .jump 1 [.v 0, .v 9])) (
      .bind (.bin .eql 3 (.tmp 24) (K' 0)) [.v 1, k' 0] <|
      .ite (.v 6) (
        .ret [.c (.bool false)]) (
        .bind .chr [.v 0, .v 1] <|
        .bind (.bin .neq 5 (.tmp 29) (.const (.int .u8 45))) [.v 7, .c (.int .u8 45)] <|
        .ite (.v 8) (
          .bind .chr [.v 0, .v 1] <|
          .bind (.bin .neq 5 (.tmp 34) (.const (.int .u8 95))) [.v 9, .c (.int .u8 95)] <|
          .ite (.v 10) (
            .bind .chr [.v 0, .v 1] <|
            .bind (.bin .lss 5 (.tmp 40) (.const (.int .u8 48))) [.v 11, .c (.int .u8 48)] <|
            .ite (.v 12) (
              .ret [.c (.bool false)]) (
              .bind .chr [.v 0, .v 1] <|
              .bind (.bin .gtr 5 (.tmp 45) (.const (.int .u8 57))) [.v 13, .c (.int .u8 57)] <|
              .ite (.v 14) (
                .ret [.c (.bool false)]) (
                .bind (.bin .add 3 (.tmp 9) (K' 1)) [.v 1, k' 1] <|
                .jump 1 [.v 0, .v 15]))) (
            .bind (.bin .add 3 (.tmp 9) (K' 1)) [.v 1, k' 1] <|
            .jump 1 [.v 0, .v 11])) (
          .bind (.bin .add 3 (.tmp 9) (K' 1)) [.v 1, k' 1] <|
          .jump 1 [.v 0, .v 9])))) (
    .bind (.len true) [.v 0] <|
    .bind (.bin .geq 3 (.tmp 52) (K' 1)) [.v 4, k' 1] <|
    .ite (.v 5) (
      .bind (.len true) [.v 0] <|
      .bind (.bin .leq 3 (.tmp 56) (K' 32)) [.v 6, k' 32] <|
      .ret [.v 7]) (
      .ret [.c (.bool false)]))
def u42Ts : Nat → Tree
  | 0 => u42T0
  | 1 => u42T1
  | _ => .fail
/-! 43 langdoc/langdocref17.unit params #[24, 28, 3] -/
def u43P : Nat → Pat
  | 1 => ⟨[⟨.pure, false⟩, ⟨.pure, true⟩, ⟨.pure, false⟩, ⟨.pure, false⟩, ⟨.pure, false⟩], [(2, .v 0), (3, .loc 0 0), (4, .loc 1 0), (7, .loc 2 0), (8, .v 1)], [some (.whole (.v 2) 1), some (.whole (.v 3) 3), some (.whole (.v 4) 2)]⟩
  | 2 => ⟨[⟨.pure, true⟩, ⟨.pure, false⟩, ⟨.pure, false⟩], [(3, .loc 0 0), (7, .loc 2 0), (9, .v 0)], [some (.whole (.v 1) 1), none, some (.whole (.v 2) 2)]⟩
  | _ => ⟨[], [], []⟩
def u43T0 : Tree :=
  .bind (.chk true 1) [.v 0] <|
  .bind (.chk true 3) [.v 1] <|
  fl' 1 4 <|
  ir' 5 2 <|
  .bind (.elem 2 true 2 0) [.v 5, .v 2] <|
  .bind (.chk true 2) [.v 7] <|
  fl' 0 8 <|
  .call (.fn 44) [.v 9] 1 <|
  .bind (.un .not 4) [.v 10] <|
  .ite (.v 11) (
    .ret [k' 3]) (
    .jump 1 [.v 2, k' 0, .v 3, .v 4, .v 8])
def u43T1 : Tree :=
  .bind (.bin .lss 3 (.tmp 19) (.tmp 20)) [.v 1, .v 0] <|
  .ite (.v 5) (
    fl' 1 3 <|
    ir' 6 1 <|
    .bind (.elem 2 false 1 0) [.v 6, .v 1] <|
    fl' 0 4 <|
    .bind (.bin .eql 9 (.tmp 29) (.tmp 31)) [.v 8, .v 9] <|
    .ite (.v 10) (
      .ret [k' 8]) (
      .bind (.bin .add 3 (.tmp 22) (K' 1)) [.v 1, k' 1] <|
      .jump 1 [.v 0, .v 11, .v 2, .v 3, .v 4])) (
    fl' 1 4 <|
    ln' 6 <|
    .bind (.bin .lss 3 (.tmp 35) (K' 1)) [.v 7, k' 1] <|
    .ite (.v 8) (
      .ret [k' 19]) (
      fl' 1 4 <|
      ln' 9 <|
      .bind (.bin .gtr 3 (.tmp 40) (K' 3)) [.v 10, k' 3] <|
      .ite (.v 11) (
        .ret [k' 19]) (
        .jump 2 [k' 0, .v 2, .v 4])))
def u43T2 : Tree :=
  fl' 1 2 <|
  ln' 3 <|
  .bind (.bin .lss 3 (.tmp 43) (.tmp 46)) [.v 0, .v 4] <|
  .ite (.v 5) (
    fl' 1 2 <|
    ir' 6 0 <|
    .bind (.elem 1 false 1 0) [.v 6, .v 0] <|
    .bind (.bin .lss 3 (.tmp 54) (K' 1)) [.v 8, k' 1] <|
    .ite (.v 9) (
      .ret [k' 19]) (
      fl' 1 2 <|
      ir' 10 0 <|
      .bind (.elem 1 false 1 0) [.v 10, .v 0] <|
      fl' 0 1 <|
      ln' 13 <|
      .bind (.bin .gtr 3 (.tmp 61) (.tmp 64)) [.v 12, .v 14] <|
      .ite (.v 15) (
        .ret [k' 19]) (
        .bind (.bin .add 3 (.tmp 48) (K' 1)) [.v 0, k' 1] <|
        .jump 2 [.v 16, .v 1, .v 2]))) (
    .ret [k' 0])
def u43Ts : Nat → Tree
  | 0 => u43T0
  | 1 => u43T1
  | 2 => u43T2
  | _ => .fail
/-! 44 langdoc/langdocref17.label params #[9] -/
def u44P : Nat → Pat
  | 1 => ⟨[⟨.pure, false⟩, ⟨.pure, true⟩], [(0, .v 0), (3, .v 1)], []⟩
  | _ => ⟨[], [], []⟩
def u44T0 : Tree :=
  .jump 1 [.v 0, k' 0]
def u44T1 : Tree :=
  .bind (.len true) [.v 0] <|
  .bind (.bin .lss 3 (.tmp 4) (.tmp 6)) [.v 1, .v 2] <|
  .ite (.v 3) (
    .bind .chr [.v 0, .v 1] <|
    .bind (.bin .eql 5 (.tmp 12) (.const (.int .u8 32))) [.v 4, .c (.int .u8 32)] <|
    .ite (.v 5) (
      .ret [.c (.bool false)]) (
      .bind (.bin .add 3 (.tmp 8) (K' 1)) [.v 1, k' 1] <|
      .jump 1 [.v 0, .v 6])) (
    .call (.fn 41) [.v 0] 1 <|
    .ret [.v 4])
def u44Ts : Nat → Tree
  | 0 => u44T0
  | 1 => u44T1
  | _ => .fail
/-! 45 langdoc/langdocref17.has params #[109, 9] -/
def u45P : Nat → Pat
  | 1 => ⟨[⟨.pure, false⟩, ⟨.pure, false⟩, ⟨.pure, true⟩], [(0, .v 0), (1, .v 1), (5, .v 2)], []⟩
  | _ => ⟨[], [], []⟩
def u45T0 : Tree :=
  .jump 1 [.v 0, .v 1, k' 0]
def u45T1 : Tree :=
  ln' 0 <|
  .bind (.bin .lss 3 (.tmp 6) (.tmp 8)) [.v 2, .v 3] <|
  .ite (.v 4) (
    ir' 0 2 <|
    .bind (.elem 1 false 1 0) [.v 0, .v 2] <|
    .bind (.bin .eql 9 (.tmp 15) (.tmp 16)) [.v 6, .v 1] <|
    .ite (.v 7) (
      .ret [.c (.bool true)]) (
      .bind (.bin .add 3 (.tmp 10) (K' 1)) [.v 2, k' 1] <|
      .jump 1 [.v 0, .v 1, .v 8])) (
    .ret [.c (.bool false)])
def u45Ts : Nat → Tree
  | 0 => u45T0
  | 1 => u45T1
  | _ => .fail
/-! 46 langdoc/langdocref22.Check params #[24, 49] -/
def u46P : Nat → Pat
  | 1 => ⟨[⟨.pure, true⟩, ⟨.pure, true⟩, ⟨.pure, false⟩, ⟨.pure, false⟩], [(2, .loc 0 0), (3, .loc 1 0), (21, .v 0), (22, .v 1)], [some (.whole (.v 2) 1), some (.whole (.v 3) 6)]⟩
  | _ => ⟨[], [], []⟩
def u46T0 : Tree :=
  .bind (.chk true 1) [.v 0] <|
  .bind (.chk true 6) [.v 1] <|
  fl' 0 3 <|
  ln' 4 <|
  .bind (.bin .eql 3 (.tmp 8) (K' 0)) [.v 5, k' 0] <|
  .ite (.v 6) (
    .ret [k' 1]) (
    fl' 1 3 <|
    ln' 7 <|
    fl' 0 3 <|
    ln' 9 <|
    .bind (.bin .neq 3 (.tmp 13) (.tmp 16)) [.v 8, .v 10] <|
    .ite (.v 11) (
      .ret [k' 1]) (
      fl' 0 3 <|
      ln' 12 <|
      .jump 1 [.v 13, k' 0, .v 2, .v 3]))
def u46T1 : Tree :=
  .bind (.bin .lss 3 (.tmp 22) (.tmp 21)) [.v 1, .v 0] <|
  .ite (.v 4) (
    fl' 0 3 <|
    ir' 5 1 <|
    .bind (.elem 1 false 1 0) [.v 5, .v 1] <|
    .call (.fn 70) [.v 2, .v 7] 1 <|
    .bind (.un .not 4) [.v 8] <|
    .ite (.v 9) (
      .ret [k' 19]) (
      fl' 1 3 <|
      ir' 10 1 <|
      .bind (.elem 1 false 1 0) [.v 10, .v 1] <|
      .bind (.bin .neq 3 (.tmp 38) (K' 0)) [.v 12, k' 0] <|
      .ite (.v 13) (
        fl' 1 3 <|
        ir' 14 1 <|
        .bind (.elem 1 false 1 0) [.v 14, .v 1] <|
        .call (.fn 70) [.v 2, .v 16] 1 <|
        .bind (.un .not 4) [.v 17] <|
        .ite (.v 18) (
          .ret [k' 19]) (
          .bind (.bin .add 3 (.tmp 22) (K' 1)) [.v 1, k' 1] <|
          .jump 1 [.v 0, .v 19, .v 2, .v 3])) (
        .bind (.bin .add 3 (.tmp 22) (K' 1)) [.v 1, k' 1] <|
        .jump 1 [.v 0, .v 14, .v 2, .v 3]))) (
    fl' 0 3 <|
    .call (.fn 71) [.v 5] 0 <|
    ln' 6 <|
    fl' 0 3 <|
    ln' 8 <|
    .bind (.bin .neq 3 (.tmp 55) (.tmp 58)) [.v 7, .v 9] <|
    .ite (.v 10) (
      .ret [k' 8]) (
      fl' 2 3 <|
      ln' 11 <|
      .bind (.bin .gtr 3 (.tmp 62) (K' 2)) [.v 12, k' 2] <|
      .ite (.v 13) (
        .ret [k' 5]) (
        fl' 3 3 <|
        ln' 14 <|
        .bind (.bin .gtr 3 (.tmp 67) (K' 2)) [.v 15, k' 2] <|
        .ite (.v 16) (
          .ret [k' 5]) (
          .ret [k' 0]))))
def u46Ts : Nat → Tree
  | 0 => u46T0
  | 1 => u46T1
  | _ => .fail
/-! 47 langdoc/langdocref23.state params #[33, 3] -/
def u47P : Nat → Pat
  | _ => ⟨[], [], []⟩
def u47T0 : Tree :=
  .bind (.chk true 3) [.v 0] <|
  .bind (.bin .geq 3 (.tmp 5) (K' 0)) [.v 1, k' 0] <|
  .ite (.v 3) (
    fl' 0 2 <|
    .bind (.bin .lss 3 (.tmp 8) (.tmp 10)) [.v 1, .v 4] <|
    .ret [.v 5]) (
    .ret [.c (.bool false)])
def u47Ts : Nat → Tree
  | 0 => u47T0
  | _ => .fail
/-! 48 langdoc/langdocref24.Check params #[24, 66] -/
def u48P : Nat → Pat
  | _ => ⟨[], [], []⟩
def u48T0 : Tree :=
  .bind (.chk true 1) [.v 0] <|
  .bind (.chk true 8) [.v 1] <|
  .call (.fn 72) [.v 2, .v 3] 1 <|
  .bind (.bin .neq 50 (.tmp 11) (K' 0)) [.v 4, k' 0] <|
  .ite (.v 5) (
    .ret [.v 4]) (
    .call (.fn 73) [.v 3] 1 <|
    .bind (.bin .neq 50 (.tmp 16) (K' 0)) [.v 6, k' 0] <|
    .ite (.v 7) (
      .ret [.v 6]) (
      .call (.fn 74) [.v 3] 1 <|
      .bind (.bin .neq 50 (.tmp 21) (K' 0)) [.v 8, k' 0] <|
      .ite (.v 9) (
        .ret [.v 8]) (
        fl' 7 3 <|
        .call (.fn 75) [.v 10, k' 12] 1 <|
        .ret [.v 11])))
def u48Ts : Nat → Tree
  | 0 => u48T0
  | _ => .fail
/-! 49 langdoc/langdocref25.has params #[34, 3] -/
def u49P : Nat → Pat
  | _ => ⟨[], [], []⟩
def u49T0 : Tree :=
  .call (.fn 22) [.v 0, .v 1] 0 <|
  .bind (.ext 0) [.v 2] <|
  .bind (.ext 1) [.v 2] <|
  .bind (.chk true 8) [.v 3] <|
  .ret [.v 4]
def u49Ts : Nat → Tree
  | 0 => u49T0
  | _ => .fail
/-! 50 langdoc/langdocref26.Inverse params #[3] -/
def u50P : Nat → Pat
  | _ => ⟨[], [], []⟩
def u50T0 : Tree :=
  .bind (.bin .eql 3 (.tmp 3) (K' 0)) [.v 0, k' 0] <|
  .ite (.v 1) (
    .ret [.v 0]) (
    .bind (.bin .eql 3 (.tmp 3) (K' 1)) [.v 0, k' 1] <|
    .ite (.v 2) (
      .ret [.v 0]) (
      .bind (.bin .eql 3 (.tmp 3) (K' 2)) [.v 0, k' 2] <|
      .ite (.v 3) (
        .ret [k' 3]) (
        .bind (.bin .eql 3 (.tmp 3) (K' 3)) [.v 0, k' 3] <|
        .ite (.v 4) (
          .ret [k' 2]) (
          .bind (.bin .eql 3 (.tmp 3) (K' 4)) [.v 0, k' 4] <|
          .ite (.v 5) (
            .ret [k' 5]) (
            .bind (.bin .eql 3 (.tmp 3) (K' 5)) [.v 0, k' 5] <|
            .ite (.v 6) (
              .ret [k' 4]) (
              .ret [.c (.int .i64 (-1))]))))))
def u50Ts : Nat → Tree
  | 0 => u50T0
  | _ => .fail
/-! 51 langdoc/langdocref26.find params #[34, 3] -/
def u51P : Nat → Pat
  | 1 => ⟨[⟨.pure, false⟩, ⟨.pure, false⟩, ⟨.pure, true⟩], [(0, .v 0), (1, .v 1), (5, .v 2)], []⟩
  | _ => ⟨[], [], []⟩
def u51T0 : Tree :=
  .jump 1 [.v 0, .v 1, k' 0]
def u51T1 : Tree :=
  ln' 0 <|
  .bind (.bin .lss 3 (.tmp 6) (.tmp 8)) [.v 2, .v 3] <|
  .ite (.v 4) (
    ir' 0 2 <|
    .bind (.elem 8 false 1 0) [.v 0, .v 2] <|
    .bind (.bin .eql 3 (.tmp 16) (.tmp 17)) [.v 6, .v 1] <|
    .ite (.v 7) (
      .ret [.v 2]) (
      .bind (.bin .add 3 (.tmp 10) (K' 1)) [.v 2, k' 1] <|
      .jump 1 [.v 0, .v 1, .v 8])) (
    .ret [.c (.int .i64 (-1))])
def u51Ts : Nat → Tree
  | 0 => u51T0
  | 1 => u51T1
  | _ => .fail
/-! 52 langdoc/langdocref26.has params #[66, 116] -/
def u52P : Nat → Pat
  | 1 => ⟨[⟨.pure, true⟩, ⟨.pure, false⟩, ⟨.pure, false⟩], [(2, .loc 0 0), (3, .loc 1 0), (5, .v 0)], [some (.whole (.v 1) 8), some (.whole (.v 2) 2)]⟩
  | _ => ⟨[], [], []⟩
def u52T0 : Tree :=
  .bind (.chk true 8) [.v 0] <|
  .bind (.chk true 2) [.v 1] <|
  .jump 1 [k' 0, .v 2, .v 3]
def u52T1 : Tree :=
  fl' 6 1 <|
  ln' 3 <|
  .bind (.bin .lss 3 (.tmp 6) (.tmp 9)) [.v 0, .v 4] <|
  .ite (.v 5) (
    fl' 6 1 <|
    ir' 6 0 <|
    .bind (.elem 2 true 2 0) [.v 6, .v 0] <|
    .bind (.bin .eql 116 (.tmp 17) (.tmp 18)) [.v 8, .v 2] <|
    .ite (.v 9) (
      .ret [.c (.bool true)]) (
      .bind (.bin .add 3 (.tmp 11) (K' 1)) [.v 0, k' 1] <|
      .jump 1 [.v 10, .v 1, .v 2])) (
    .ret [.c (.bool false)])
def u52Ts : Nat → Tree
  | 0 => u52T0
  | 1 => u52T1
  | _ => .fail
/-! 53 langdoc/langdocref26.in params #[31, 3] -/
def u53P : Nat → Pat
  | 1 => ⟨[⟨.pure, false⟩, ⟨.pure, false⟩, ⟨.pure, true⟩], [(0, .v 0), (1, .v 1), (5, .v 2)], []⟩
  | _ => ⟨[], [], []⟩
def u53T0 : Tree :=
  .jump 1 [.v 0, .v 1, k' 0]
def u53T1 : Tree :=
  ln' 0 <|
  .bind (.bin .lss 3 (.tmp 6) (.tmp 8)) [.v 2, .v 3] <|
  .ite (.v 4) (
    ir' 0 2 <|
    .bind (.elem 1 false 1 0) [.v 0, .v 2] <|
    .bind (.bin .eql 3 (.tmp 15) (.tmp 16)) [.v 6, .v 1] <|
    .ite (.v 7) (
      .ret [.c (.bool true)]) (
      .bind (.bin .add 3 (.tmp 10) (K' 1)) [.v 2, k' 1] <|
      .jump 1 [.v 0, .v 1, .v 8])) (
    .ret [.c (.bool false)])
def u53Ts : Nat → Tree
  | 0 => u53T0
  | 1 => u53T1
  | _ => .fail
/-! 54 langdoc/langdocref26.Reach params #[34, 3, 3] -/
def u54P : Nat → Pat
  | 1 => ⟨[⟨.pure, false⟩, ⟨.pure, false⟩, ⟨.fresh, true⟩, ⟨.fresh, true⟩, ⟨.pure, true⟩], [(0, .v 0), (2, .v 1), (7, .v 2), (8, .v 3), (9, .v 4)], []⟩
  | 2 => ⟨[⟨.pure, false⟩, ⟨.pure, false⟩, ⟨.fresh, true⟩, ⟨.fresh, true⟩, ⟨.pure, true⟩, ⟨.fresh, true⟩, ⟨.pure, true⟩], [(0, .v 0), (2, .v 1), (7, .v 2), (8, .v 3), (9, .v 4), (10, .v 5), (11, .v 6)], []⟩
  | 3 => ⟨[⟨.pure, false⟩, ⟨.pure, false⟩, ⟨.fresh, true⟩, ⟨.fresh, true⟩, ⟨.pure, true⟩, ⟨.fresh, true⟩, ⟨.pure, true⟩, ⟨.pure, true⟩, ⟨.pure, true⟩], [(0, .v 0), (2, .v 1), (7, .v 2), (8, .v 3), (9, .v 4), (10, .v 5), (11, .v 6), (12, .v 7), (13, .v 8)], []⟩
  | 4 => ⟨[⟨.pure, false⟩, ⟨.fresh, true⟩, ⟨.fresh, true⟩, ⟨.pure, true⟩], [(0, .v 0), (7, .v 1), (16, .v 2), (17, .v 3)], []⟩
  | _ => ⟨[], [], []⟩
def u54T0 : Tree :=
  ln' 0 <|
  .bind (.mk 4 1 1 false [(.bool false)]) [.v 3] <|
  .bind (.chk false 1) [.v 1] <|
  .bind (.lit 3 1) [.v 1] <|
  .jump 1 [.v 0, .v 2, .v 4, .v 6, k' 0]
def u54T1 : Tree :=
  ln' 0 <|
  .bind (.bin .leq 3 (.tmp 23) (.tmp 25)) [.v 4, .v 5] <|
  .ite (.v 6) (
    .jump 2 [.v 0, .v 1, .v 2, .v 3, .v 4, .c (.slice none 0 0), k' 0]) (
    .jump 4 [.v 0, .v 2, .c (.slice none 0 0), k' 0])
def u54T2 : Tree :=
  ln' 3 <|
  .bind (.bin .lss 3 (.tmp 29) (.tmp 31)) [.v 6, .v 7] <|
  .ite (.v 8) (
    ir' 3 6 <|
    .bind (.elem 1 false 1 0) [.v 3, .v 6] <|
    .call (.fn 51) [.v 0, .v 10] 1 <|
    .jump 3 [.v 0, .v 1, .v 2, .v 3, .v 4, .v 5, .v 6, .v 11, k' 0]) (
    .bind (.bin .add 3 (.tmp 27) (K' 1)) [.v 4, k' 1] <|
    .jump 1 [.v 0, .v 1, .v 2, .v 5, .v 9])
def u54T3 : Tree :=
  .bind (.bin .geq 3 (.tmp 41) (K' 0)) [.v 7, k' 0] <|
  .ite (.v 9) (
    ir' 0 7 <|
    .bind (.elem 8 false 1 6) [.v 0, .v 7] <|
    ln' 11 <|
    .bind (.bin .lss 3 (.tmp 44) (.tmp 50)) [.v 8, .v 12] <|
    .ite (.v 13) (
      ir' 0 7 <|
      .bind (.elem 8 false 1 6) [.v 0, .v 7] <|
      ir' 15 8 <|
      .bind (.elem 2 true 2 0) [.v 15, .v 8] <|
      .bind (.chk true 2) [.v 17] <|
      fl' 1 18 <|
      .call (.fn 51) [.v 0, .v 19] 1 <|
      fl' 0 18 <|
      .bind (.bin .eql 3 (.tmp 68) (.tmp 69)) [.v 21, .v 1] <|
      .ite (.v 22) (
        .bind (.bin .geq 3 (.tmp 72) (K' 0)) [.v 20, k' 0] <|
        .ite (.v 23) (
          ir' 2 20 <|
          .bind (.elem 1 false 1 0) [.v 2, .v 20] <|
          .bind (.un .not 4) [.v 25] <|
          .ite (.v 26) (
            ir' 2 20 <|
            .bind (.set 1 false 1 0) [.v 2, .v 20, .c (.bool true)] <|
            fl' 1 18 <|
            .bind (.chk false 1) [.v 29] <|
            .bind (.lit 3 1) [.v 29] <|
            .bind (.app 3 1 8) [.v 5, .v 31] <|
            .bind (.bin .add 3 (.tmp 53) (K' 1)) [.v 8, k' 1] <|
            .jump 3 [.v 0, .v 1, .v 28, .v 3, .v 4, .v 32, .v 6, .v 7, .v 33]) (
            .bind (.bin .add 3 (.tmp 53) (K' 1)) [.v 8, k' 1] <|
            .jump 3 [.v 0, .v 1, .v 2, .v 3, .v 4, .v 5, .v 6, .v 7, .v 27])) (
          .bind (.bin .add 3 (.tmp 53) (K' 1)) [.v 8, k' 1] <|
          .jump 3 [.v 0, .v 1, .v 2, .v 3, .v 4, .v 5, .v 6, .v 7, .v 24])) (
        .bind (.bin .add 3 (.tmp 53) (K' 1)) [.v 8, k' 1] <|
        .jump 3 [.v 0, .v 1, .v 2, .v 3, .v 4, .v 5, .v 6, .v 7, .v 23])) (
      .bind (.bin .add 3 (.tmp 33) (K' 1)) [.v 6, k' 1] <|
      .jump 2 [.v 0, .v 1, .v 2, .v 3, .v 4, .v 5, .v 14])) (
    .bind (.bin .add 3 (.tmp 33) (K' 1)) [.v 6, k' 1] <|
    .jump 2 [.v 0, .v 1, .v 2, .v 3, .v 4, .v 5, .v 10])
def u54T4 : Tree :=
  ln' 0 <|
  .bind (.bin .lss 3 (.tmp 91) (.tmp 93)) [.v 3, .v 4] <|
  .ite (.v 5) (
    ir' 1 3 <|
    .bind (.elem 1 false 1 0) [.v 1, .v 3] <|
    .ite (.v 7) (
      ir' 0 3 <|
      .bind (.elem 8 false 1 0) [.v 0, .v 3] <|
      .bind (.chk false 1) [.v 9] <|
      .bind (.lit 3 1) [.v 9] <|
      .bind (.app 3 1 8) [.v 2, .v 11] <|
      .bind (.bin .add 3 (.tmp 95) (K' 1)) [.v 3, k' 1] <|
      .jump 4 [.v 0, .v 1, .v 12, .v 13]) (
      .bind (.bin .add 3 (.tmp 95) (K' 1)) [.v 3, k' 1] <|
      .jump 4 [.v 0, .v 1, .v 2, .v 8])) (
    .ret [.v 2])
def u54Ts : Nat → Tree
  | 0 => u54T0
  | 1 => u54T1
  | 2 => u54T2
  | 3 => u54T3
  | 4 => u54T4
  | _ => .fail
/-! 55 langdoc/langdocref27.find params #[34, 3] -/
def u55P : Nat → Pat
  | 1 => ⟨[⟨.pure, false⟩, ⟨.pure, false⟩, ⟨.pure, true⟩], [(0, .v 0), (1, .v 1), (5, .v 2)], []⟩
  | _ => ⟨[], [], []⟩
def u55T0 : Tree :=
  .jump 1 [.v 0, .v 1, k' 0]
def u55T1 : Tree :=
  ln' 0 <|
  .bind (.bin .lss 3 (.tmp 6) (.tmp 8)) [.v 2, .v 3] <|
  .ite (.v 4) (
    ir' 0 2 <|
    .bind (.elem 8 false 1 0) [.v 0, .v 2] <|
    .bind (.bin .eql 3 (.tmp 16) (.tmp 17)) [.v 6, .v 1] <|
    .ite (.v 7) (
      .ret [.v 2]) (
      .bind (.bin .add 3 (.tmp 10) (K' 1)) [.v 2, k' 1] <|
      .jump 1 [.v 0, .v 1, .v 8])) (
    .ret [.c (.int .i64 (-1))])
def u55Ts : Nat → Tree
  | 0 => u55T0
  | 1 => u55T1
  | _ => .fail
/-! 56 langdoc/langdocref27.way params #[34, 3] -/
def u56P : Nat → Pat
  | 1 => ⟨[⟨.pure, false⟩, ⟨.fresh, true⟩, ⟨.pure, true⟩], [(0, .v 0), (5, .v 1), (6, .v 2)], []⟩
  | _ => ⟨[], [], []⟩
def u56T0 : Tree :=
  .bind (.lit 3 1) [] <|
  .call (.fn 55) [.v 0, .v 1] 1 <|
  .jump 1 [.v 0, .v 2, .v 3]
def u56T1 : Tree :=
  .bind (.bin .geq 3 (.tmp 11) (K' 0)) [.v 2, k' 0] <|
  .ite (.v 3) (
    ln' 1 <|
    ln' 0 <|
    .bind (.bin .leq 3 (.tmp 15) (.tmp 17)) [.v 4, .v 5] <|
    .ite (.v 6) (
      ir' 0 2 <|
      .bind (.elem 8 false 1 0) [.v 0, .v 2] <|
      .bind (.chk false 1) [.v 8] <|
      .bind (.lit 3 1) [.v 8] <|
      .bind (.app 3 1 8) [.v 1, .v 10] <|
      ir' 0 2 <|
      .bind (.elem 8 false 1 4) [.v 0, .v 2] <|
      .bind (.bin .eql 3 (.tmp 39) (K' 0)) [.v 13, k' 0] <|
      .ite (.v 14) (
        .ret [.v 11]) (
        ir' 0 2 <|
        .bind (.elem 8 false 1 4) [.v 0, .v 2] <|
        .call (.fn 55) [.v 0, .v 16] 1 <|
        .jump 1 [.v 0, .v 11, .v 17])) (
      .ret [.v 1])) (
    .ret [.v 1])
def u56Ts : Nat → Tree
  | 0 => u56T0
  | 1 => u56T1
  | _ => .fail
/-! 69 langdoc/langdocref02.Points params #[9] -/
def u69P : Nat → Pat
  | 1 => ⟨[⟨.pure, false⟩, ⟨.fresh, true⟩, ⟨.pure, true⟩], [(0, .v 0), (4, .v 1), (5, .v 2)], []⟩
  | _ => ⟨[], [], []⟩
def u69T0 : Tree :=
  .jump 1 [.v 0, .c (.slice none 0 0), k' 0]
def u69T1 : Tree :=
  .bind (.len true) [.v 0] <|
  .bind (.bin .lss 3 (.tmp 8) (.tmp 10)) [.v 2, .v 3] <|
  .ite (.v 4) (
    .call (.fn 84) [.v 0, .v 2] 2 <|
    .bind (.ext 0) [.v 5] <|
    .bind (.ext 1) [.v 5] <|
    .bind (.bin .eql 3 (.tmp 18) (K' 0)) [.v 7, k' 0] <|
    .ite (.v 8) (
      .ret [.c (.slice none 0 0), .c (.bool false)]) (
      .bind (.chk false 1) [.v 6] <|
      .bind (.lit 3 1) [.v 6] <|
      .bind (.app 3 1 8) [.v 1, .v 10] <|
      .bind (.bin .add 3 (.tmp 24) (.tmp 25)) [.v 2, .v 7] <|
      .jump 1 [.v 0, .v 11, .v 12])) (
    .ret [.v 1, .c (.bool true)])
def u69Ts : Nat → Tree
  | 0 => u69T0
  | 1 => u69T1
  | _ => .fail
/-! 70 langdoc/langdocref16.Is params #[24, 3] -/
def u70P : Nat → Pat
  | _ => ⟨[], [], []⟩
def u70T0 : Tree :=
  .bind (.chk true 1) [.v 0] <|
  .bind (.bin .geq 3 (.tmp 5) (K' 1)) [.v 1, k' 1] <|
  .ite (.v 3) (
    fl' 0 2 <|
    ln' 4 <|
    .bind (.bin .leq 3 (.tmp 8) (.tmp 11)) [.v 1, .v 5] <|
    .ret [.v 6]) (
    .ret [.c (.bool false)])
def u70Ts : Nat → Tree
  | 0 => u70T0
  | _ => .fail
/-! 71 langdoc/langdocref01.Sorted params #[31] -/
def u71P : Nat → Pat
  | 1 => ⟨[⟨.pure, false⟩, ⟨.pure, false⟩, ⟨.pure, true⟩, ⟨.pure, true⟩], [(0, .v 0), (3, .v 1), (6, .v 2), (7, .v 3)], []⟩
  | _ => ⟨[], [], []⟩
def u71T0 : Tree :=
  ln' 0 <|
  .jump 1 [.v 0, .c (.slice none 0 0), .v 1, k' 0]
def u71T1 : Tree :=
  .bind (.bin .lss 3 (.tmp 7) (.tmp 6)) [.v 3, .v 2] <|
  .ite (.v 4) (
    ir' 0 3 <|
    .bind (.elem 1 false 1 0) [.v 0, .v 3] <|
    .call (.fn 85) [.v 1, .v 6] 0 <|
    .bind (.bin .add 3 (.tmp 7) (K' 1)) [.v 3, k' 1] <|
    .jump 1 [.v 0, .v 7, .v 2, .v 8]) (
    .ret [.v 1])
def u71Ts : Nat → Tree
  | 0 => u71T0
  | 1 => u71T1
  | _ => .fail
/-! 72 langdoc/langdocref24.words params #[24, 66] -/
def u72P : Nat → Pat
  | 1 => ⟨[⟨.pure, true⟩, ⟨.pure, false⟩, ⟨.pure, false⟩], [(2, .loc 0 0), (3, .loc 1 0), (6, .v 0)], [some (.whole (.v 1) 1), some (.whole (.v 2) 8)]⟩
  | 2 => ⟨[⟨.pure, true⟩, ⟨.pure, true⟩, ⟨.pure, false⟩, ⟨.pure, false⟩], [(2, .loc 0 0), (3, .loc 1 0), (6, .v 0), (8, .v 1)], [some (.whole (.v 2) 1), some (.whole (.v 3) 8)]⟩
  | _ => ⟨[], [], []⟩
def u72T0 : Tree :=
  .bind (.chk true 1) [.v 0] <|
  .bind (.chk true 8) [.v 1] <|
  fl' 0 3 <|
  .call (.fn 86) [.v 4] 1 <|
  .bind (.un .not 4) [.v 5] <|
  .ite (.v 6) (
    .ret [k' 2]) (
    fl' 1 3 <|
    .call (.fn 87) [.v 2, .v 7] 1 <|
    .bind (.bin .neq 50 (.tmp 17) (K' 0)) [.v 8, k' 0] <|
    .ite (.v 9) (
      .ret [.v 8]) (
      fl' 2 3 <|
      .bind (.bin .lss 3 (.tmp 21) (K' 1)) [.v 10, k' 1] <|
      .ite (.v 11) (
        .ret [k' 21]) (
        fl' 2 3 <|
        .bind (.bin .gtr 3 (.tmp 25) (K' 20)) [.v 12, k' 20] <|
        .ite (.v 13) (
          .ret [k' 21]) (
          fl' 3 3 <|
          ln' 14 <|
          .bind (.bin .gtr 3 (.tmp 30) (K' 3)) [.v 15, k' 3] <|
          .ite (.v 16) (
            .ret [k' 11]) (
            .jump 1 [k' 0, .v 2, .v 3])))))
def u72T1 : Tree :=
  fl' 3 2 <|
  ln' 3 <|
  .bind (.bin .lss 3 (.tmp 32) (.tmp 35)) [.v 0, .v 4] <|
  .ite (.v 5) (
    fl' 3 2 <|
    ir' 6 0 <|
    .bind (.elem 1 false 1 0) [.v 6, .v 0] <|
    .call (.fn 87) [.v 1, .v 8] 1 <|
    .bind (.bin .neq 50 (.tmp 46) (K' 0)) [.v 9, k' 0] <|
    .ite (.v 10) (
      .ret [.v 9]) (
      fl' 3 2 <|
      ir' 11 0 <|
      .bind (.elem 1 false 1 0) [.v 11, .v 0] <|
      fl' 1 2 <|
      .call (.fn 7) [.v 13, .v 14] 1 <|
      .ite (.v 15) (
        .ret [k' 8]) (
        .jump 2 [.v 0, k' 0, .v 1, .v 2]))) (
    .ret [k' 0])
def u72T2 : Tree :=
  .bind (.bin .lss 3 (.tmp 57) (.tmp 58)) [.v 1, .v 0] <|
  .ite (.v 4) (
    fl' 3 3 <|
    ir' 5 0 <|
    .bind (.elem 1 false 1 0) [.v 5, .v 0] <|
    fl' 3 3 <|
    ir' 8 1 <|
    .bind (.elem 1 false 1 0) [.v 8, .v 1] <|
    .call (.fn 7) [.v 7, .v 10] 1 <|
    .ite (.v 11) (
      .ret [k' 8]) (
      .bind (.bin .add 3 (.tmp 60) (K' 1)) [.v 1, k' 1] <|
      .jump 2 [.v 0, .v 12, .v 2, .v 3])) (
    .bind (.bin .add 3 (.tmp 37) (K' 1)) [.v 0, k' 1] <|
    .jump 1 [.v 5, .v 2, .v 3])
def u72Ts : Nat → Tree
  | 0 => u72T0
  | 1 => u72T1
  | 2 => u72T2
  | _ => .fail
/-! 73 langdoc/langdocref24.senses params #[66] -/
def u73P : Nat → Pat
  | 1 => ⟨[⟨.pure, true⟩, ⟨.pure, false⟩], [(1, .loc 0 0), (3, .v 0)], [some (.whole (.v 1) 8)]⟩
  | _ => ⟨[], [], []⟩
def u73T0 : Tree :=
  .bind (.chk true 8) [.v 0] <|
  fl' 4 1 <|
  .bind (.bin .neq 3 (.tmp 6) (K' 0)) [.v 2, k' 0] <|
  .ite (.v 3) (
    fl' 4 1 <|
    .call (.fn 86) [.v 4] 1 <|
    .bind (.un .not 4) [.v 5] <|
    .ite (.v 6) (
      .ret [k' 2]) (
      fl' 4 1 <|
      fl' 0 1 <|
      .bind (.bin .eql 3 (.tmp 15) (.tmp 17)) [.v 7, .v 8] <|
      .ite (.v 9) (
        .ret [k' 17]) (
        fl' 5 1 <|
        ln' 10 <|
        .bind (.bin .gtr 3 (.tmp 21) (K' 5)) [.v 11, k' 5] <|
        .ite (.v 12) (
          .ret [k' 11]) (
          fl' 5 1 <|
          ln' 13 <|
          .bind (.bin .eql 3 (.tmp 25) (K' 0)) [.v 14, k' 0] <|
          .ite (.v 15) (
            fl' 4 1 <|
            .bind (.bin .eql 3 (.tmp 29) (K' 0)) [.v 16, k' 0] <|
            .ite (.v 17) (
              .ret [k' 4]) (
              .jump 1 [k' 0, .v 1])) (
            .jump 1 [k' 0, .v 1]))))) (
    fl' 4 1 <|
    fl' 0 1 <|
    .bind (.bin .eql 3 (.tmp 15) (.tmp 17)) [.v 4, .v 5] <|
    .ite (.v 6) (
      .ret [k' 17]) (
      fl' 5 1 <|
      ln' 7 <|
      .bind (.bin .gtr 3 (.tmp 21) (K' 5)) [.v 8, k' 5] <|
      .ite (.v 9) (
        .ret [k' 11]) (
        fl' 5 1 <|
        ln' 10 <|
        .bind (.bin .eql 3 (.tmp 25) (K' 0)) [.v 11, k' 0] <|
        .ite (.v 12) (
          fl' 4 1 <|
          .bind (.bin .eql 3 (.tmp 29) (K' 0)) [.v 13, k' 0] <|
          .ite (.v 14) (
            .ret [k' 4]) (
            .jump 1 [k' 0, .v 1])) (
          .jump 1 [k' 0, .v 1]))))
def u73T1 : Tree :=
  fl' 5 1 <|
  ln' 2 <|
  .bind (.bin .lss 3 (.tmp 32) (.tmp 35)) [.v 0, .v 3] <|
  .ite (.v 4) (
    fl' 5 1 <|
    .bind (.slc 87 2 false true) [.v 5, .v 0] <|
    fl' 5 1 <|
    ir' 7 0 <|
    .bind (.elem 2 true 2 0) [.v 7, .v 0] <|
    .call (.fn 88) [.v 6, .v 9] 1 <|
    .bind (.bin .neq 50 (.tmp 49) (K' 0)) [.v 10, k' 0] <|
    .ite (.v 11) (
      .ret [.v 10]) (
      .bind (.bin .add 3 (.tmp 37) (K' 1)) [.v 0, k' 1] <|
      .jump 1 [.v 12, .v 1])) (
    .ret [k' 0])
def u73Ts : Nat → Tree
  | 0 => u73T0
  | 1 => u73T1
  | _ => .fail
/-! 74 langdoc/langdocref24.links params #[66] -/
def u74P : Nat → Pat
  | 1 => ⟨[⟨.pure, true⟩, ⟨.pure, false⟩], [(1, .loc 0 0), (3, .v 0)], [some (.whole (.v 1) 8)]⟩
  | _ => ⟨[], [], []⟩
def u74T0 : Tree :=
  .bind (.chk true 8) [.v 0] <|
  fl' 6 1 <|
  ln' 2 <|
  .bind (.bin .gtr 3 (.tmp 7) (K' 12)) [.v 3, k' 12] <|
  .ite (.v 4) (
    .ret [k' 11]) (
    .jump 1 [k' 0, .v 1])
def u74T1 : Tree :=
  fl' 6 1 <|
  ln' 2 <|
  .bind (.bin .lss 3 (.tmp 9) (.tmp 12)) [.v 0, .v 3] <|
  .ite (.v 4) (
    fl' 6 1 <|
    ir' 5 0 <|
    .bind (.elem 2 true 2 0) [.v 5, .v 0] <|
    .bind (.chk true 2) [.v 7] <|
    fl' 0 8 <|
    .bind (.bin .lss 3 (.tmp 22) (K' 0)) [.v 9, k' 0] <|
    .ite (.v 10) (
      .ret [k' 14]) (
      fl' 0 8 <|
      .bind (.bin .gtr 3 (.tmp 26) (K' 5)) [.v 11, k' 5] <|
      .ite (.v 12) (
        .ret [k' 14]) (
        fl' 1 8 <|
        .call (.fn 86) [.v 13] 1 <|
        .bind (.un .not 4) [.v 14] <|
        .ite (.v 15) (
          .ret [k' 2]) (
          fl' 1 8 <|
          fl' 0 1 <|
          .bind (.bin .eql 3 (.tmp 34) (.tmp 36)) [.v 16, .v 17] <|
          .ite (.v 18) (
            .ret [k' 17]) (
            .bind (.bin .gtr 3 (.tmp 38) (K' 0)) [.v 0, k' 0] <|
            .ite (.v 19) (
              fl' 0 8 <|
              fl' 6 1 <|
              .bind (.bin .sub 3 (.tmp 45) (K' 1)) [.v 0, k' 1] <|
              ir' 21 22 <|
              .bind (.elem 2 false 1 0) [.v 21, .v 22] <|
              .bind (.bin .lss 3 (.tmp 42) (.tmp 49)) [.v 20, .v 24] <|
              .ite (.v 25) (
                .ret [k' 10]) (
                fl' 0 8 <|
                fl' 6 1 <|
                .bind (.bin .sub 3 (.tmp 56) (K' 1)) [.v 0, k' 1] <|
                ir' 27 28 <|
                .bind (.elem 2 false 1 0) [.v 27, .v 28] <|
                .bind (.bin .eql 3 (.tmp 53) (.tmp 60)) [.v 26, .v 30] <|
                .ite (.v 31) (
                  fl' 1 8 <|
                  fl' 6 1 <|
                  .bind (.bin .sub 3 (.tmp 67) (K' 1)) [.v 0, k' 1] <|
                  ir' 33 34 <|
                  .bind (.elem 2 false 1 1) [.v 33, .v 34] <|
                  .bind (.bin .leq 3 (.tmp 64) (.tmp 71)) [.v 32, .v 36] <|
                  .ite (.v 37) (
                    .ret [k' 10]) (
                    .bind (.bin .add 3 (.tmp 14) (K' 1)) [.v 0, k' 1] <|
                    .jump 1 [.v 38, .v 1])) (
                  .bind (.bin .add 3 (.tmp 14) (K' 1)) [.v 0, k' 1] <|
                  .jump 1 [.v 32, .v 1]))) (
              .bind (.bin .add 3 (.tmp 14) (K' 1)) [.v 0, k' 1] <|
              .jump 1 [.v 20, .v 1])))))) (
    .ret [k' 0])
def u74Ts : Nat → Tree
  | 0 => u74T0
  | 1 => u74T1
  | _ => .fail
/-! 75 langdoc/langdocref24.Refs params #[64, 3] -/
def u75P : Nat → Pat
  | 1 => ⟨[⟨.pure, false⟩, ⟨.pure, true⟩], [(0, .v 0), (5, .v 1)], []⟩
  | _ => ⟨[], [], []⟩
def u75T0 : Tree :=
  ln' 0 <|
  .bind (.bin .gtr 3 (.tmp 7) (.tmp 8)) [.v 2, .v 1] <|
  .ite (.v 3) (
    .ret [k' 11]) (
    .jump 1 [.v 0, k' 0])
def u75T1 : Tree :=
  ln' 0 <|
  .bind (.bin .lss 3 (.tmp 10) (.tmp 12)) [.v 1, .v 2] <|
  .ite (.v 3) (
    ir' 0 1 <|
    .bind (.elem 2 true 2 0) [.v 0, .v 1] <|
    .call (.fn 89) [.v 5] 1 <|
    .bind (.un .not 4) [.v 6] <|
    .ite (.v 7) (
      .ret [k' 2]) (
      .bind (.bin .gtr 3 (.tmp 22) (K' 0)) [.v 1, k' 0] <|
      .ite (.v 8) (
        .bind (.bin .sub 3 (.tmp 26) (K' 1)) [.v 1, k' 1] <|
        ir' 0 9 <|
        .bind (.elem 2 true 2 0) [.v 0, .v 9] <|
        ir' 0 1 <|
        .bind (.elem 2 true 2 0) [.v 0, .v 1] <|
        .call (.fn 90) [.v 11, .v 13] 1 <|
        .bind (.un .not 4) [.v 14] <|
        .ite (.v 15) (
          .ret [k' 10]) (
          .bind (.bin .add 3 (.tmp 14) (K' 1)) [.v 1, k' 1] <|
          .jump 1 [.v 0, .v 16])) (
        .bind (.bin .add 3 (.tmp 14) (K' 1)) [.v 1, k' 1] <|
        .jump 1 [.v 0, .v 9]))) (
    .ret [k' 0])
def u75Ts : Nat → Tree
  | 0 => u75T0
  | 1 => u75T1
  | _ => .fail
/-! 84 langdoc/langdocref02.first params #[9, 3] -/
def u84P : Nat → Pat
  | 1 => ⟨[⟨.pure, false⟩, ⟨.pure, false⟩, ⟨.pure, true⟩, ⟨.pure, true⟩, ⟨.pure, true⟩], [(0, .v 0), (1, .v 1), (6, .v 2), (7, .v 3), (8, .v 4)], []⟩
  | _ => ⟨[], [], []⟩
def u84T0 : Tree :=
  .bind .chr [.v 0, .v 1] <|
  .bind (.conv 5 3) [.v 2] <|
  .bind (.bin .geq 3 (.tmp 14) (K' 240)) [.v 3, k' 240] <|
  .ite (.v 4) (
    .bind (.bin .sub 3 (.tmp 16) (K' 240)) [.v 3, k' 240] <|
    .bind (.bin .add 3 (.tmp 28) (.tmp 29)) [.v 1, k' 4] <|
    .bind (.len true) [.v 0] <|
    .bind (.bin .gtr 3 (.tmp 30) (.tmp 32)) [.v 6, .v 7] <|
    .ite (.v 8) (
      .ret [.c (.int .i64 (-1)), k' 0]) (
      .jump 1 [.v 0, .v 1, .v 5, k' 4, k' 1])) (
    .bind (.bin .geq 3 (.tmp 19) (K' 224)) [.v 3, k' 224] <|
    .ite (.v 5) (
      .bind (.bin .sub 3 (.tmp 21) (K' 224)) [.v 3, k' 224] <|
      .bind (.bin .add 3 (.tmp 28) (.tmp 29)) [.v 1, k' 3] <|
      .bind (.len true) [.v 0] <|
      .bind (.bin .gtr 3 (.tmp 30) (.tmp 32)) [.v 7, .v 8] <|
      .ite (.v 9) (
        .ret [.c (.int .i64 (-1)), k' 0]) (
        .jump 1 [.v 0, .v 1, .v 6, k' 3, k' 1])) (
      .bind (.bin .geq 3 (.tmp 24) (K' 192)) [.v 3, k' 192] <|
      .ite (.v 6) (
        .bind (.bin .sub 3 (.tmp 26) (K' 192)) [.v 3, k' 192] <|
        .bind (.bin .add 3 (.tmp 28) (.tmp 29)) [.v 1, k' 2] <|
        .bind (.len true) [.v 0] <|
        .bind (.bin .gtr 3 (.tmp 30) (.tmp 32)) [.v 8, .v 9] <|
        .ite (.v 10) (
          .ret [.c (.int .i64 (-1)), k' 0]) (
          .jump 1 [.v 0, .v 1, .v 7, k' 2, k' 1])) (
        .bind (.bin .add 3 (.tmp 28) (.tmp 29)) [.v 1, k' 1] <|
        .bind (.len true) [.v 0] <|
        .bind (.bin .gtr 3 (.tmp 30) (.tmp 32)) [.v 7, .v 8] <|
        .ite (.v 9) (
          .ret [.c (.int .i64 (-1)), k' 0]) (
          .jump 1 [.v 0, .v 1, .v 3, k' 1, k' 1]))))
def u84T1 : Tree :=
  .bind (.bin .lss 3 (.tmp 34) (.tmp 35)) [.v 4, .v 3] <|
  .ite (.v 5) (
    .bind (.bin .mul 3 (.tmp 39) (K' 64)) [.v 2, k' 64] <|
    .bind (.bin .add 3 (.tmp 42) (.tmp 43)) [.v 1, .v 4] <|
    .bind .chr [.v 0, .v 7] <|
    .bind (.conv 5 3) [.v 8] <|
    .bind (.bin .rem 3 (.tmp 46) (K' 64)) [.v 9, k' 64] <|
    .bind (.bin .add 3 (.tmp 40) (.tmp 47)) [.v 6, .v 10] <|
    .bind (.bin .add 3 (.tmp 37) (K' 1)) [.v 4, k' 1] <|
    .jump 1 [.v 0, .v 1, .v 11, .v 3, .v 12]) (
    .call (.fn 96) [.v 2] 1 <|
    .bind (.un .not 4) [.v 6] <|
    .ite (.v 7) (
      .ret [.c (.int .i64 (-1)), k' 0]) (
      .call (.fn 97) [.v 2] 1 <|
      .bind (.bin .add 3 (.tmp 57) (.tmp 58)) [.v 1, .v 3] <|
      .bind (.sub true true) [.v 0, .v 1, .v 9] <|
      .bind (.bin .neq 9 (.tmp 54) (.tmp 60)) [.v 8, .v 10] <|
      .ite (.v 11) (
        .ret [.c (.int .i64 (-1)), k' 0]) (
        .ret [.v 2, .v 3])))
def u84Ts : Nat → Tree
  | 0 => u84T0
  | 1 => u84T1
  | _ => .fail
/-! 85 langdoc/langdocref01.Put params #[31, 3] -/
def u85P : Nat → Pat
  | 1 => ⟨[⟨.pure, false⟩, ⟨.pure, false⟩, ⟨.fresh, true⟩, ⟨.pure, true⟩], [(0, .v 0), (1, .v 1), (5, .v 2), (6, .v 3)], []⟩
  | _ => ⟨[], [], []⟩
def u85T0 : Tree :=
  .jump 1 [.v 0, .v 1, .c (.slice none 0 0), k' 0]
def u85T1 : Tree :=
  ln' 0 <|
  .bind (.bin .lss 3 (.tmp 7) (.tmp 9)) [.v 3, .v 4] <|
  .ite (.v 5) (
    ir' 0 3 <|
    .bind (.elem 1 false 1 0) [.v 0, .v 3] <|
    .bind (.bin .lss 3 (.tmp 15) (.tmp 16)) [.v 7, .v 1] <|
    .ite (.v 8) (
      ir' 0 3 <|
      .bind (.elem 1 false 1 0) [.v 0, .v 3] <|
      .bind (.chk false 1) [.v 10] <|
      .bind (.lit 3 1) [.v 10] <|
      .bind (.app 3 1 8) [.v 2, .v 12] <|
      .bind (.bin .add 3 (.tmp 26) (K' 1)) [.v 3, k' 1] <|
      .jump 1 [.v 0, .v 1, .v 13, .v 14]) (
      .bind (.chk false 1) [.v 1] <|
      .bind (.lit 3 1) [.v 1] <|
      .bind (.app 3 1 8) [.v 2, .v 10] <|
      ln' 0 <|
      .bind (.bin .lss 3 (.tmp 32) (.tmp 34)) [.v 3, .v 12] <|
      .ite (.v 13) (
        ir' 0 3 <|
        .bind (.elem 1 false 1 0) [.v 0, .v 3] <|
        .bind (.bin .eql 3 (.tmp 40) (.tmp 41)) [.v 15, .v 1] <|
        .ite (.v 16) (
          .bind (.bin .add 3 (.tmp 44) (K' 1)) [.v 3, k' 1] <|
          .bind (.slc 3 1 true false) [.v 0, .v 17] <|
          .bind (.app 3 1 8) [.v 11, .v 18] <|
          .ret [.v 19]) (
          .bind (.slc 3 1 true false) [.v 0, .v 3] <|
          .bind (.app 3 1 8) [.v 11, .v 17] <|
          .ret [.v 18])) (
        .bind (.slc 3 1 true false) [.v 0, .v 3] <|
        .bind (.app 3 1 8) [.v 11, .v 14] <|
        .ret [.v 15]))) (
    .bind (.chk false 1) [.v 1] <|
    .bind (.lit 3 1) [.v 1] <|
    .bind (.app 3 1 8) [.v 2, .v 7] <|
    ln' 0 <|
    .bind (.bin .lss 3 (.tmp 32) (.tmp 34)) [.v 3, .v 9] <|
    .ite (.v 10) (
      ir' 0 3 <|
      .bind (.elem 1 false 1 0) [.v 0, .v 3] <|
      .bind (.bin .eql 3 (.tmp 40) (.tmp 41)) [.v 12, .v 1] <|
      .ite (.v 13) (
        .bind (.bin .add 3 (.tmp 44) (K' 1)) [.v 3, k' 1] <|
        .bind (.slc 3 1 true false) [.v 0, .v 14] <|
        .bind (.app 3 1 8) [.v 8, .v 15] <|
        .ret [.v 16]) (
        .bind (.slc 3 1 true false) [.v 0, .v 3] <|
        .bind (.app 3 1 8) [.v 8, .v 14] <|
        .ret [.v 15])) (
      .bind (.slc 3 1 true false) [.v 0, .v 3] <|
      .bind (.app 3 1 8) [.v 8, .v 11] <|
      .ret [.v 12]))
def u85Ts : Nat → Tree
  | 0 => u85T0
  | 1 => u85T1
  | _ => .fail
/-! 86 langdoc/langdocref10.Identifier params #[3] -/
def u86P : Nat → Pat
  | _ => ⟨[], [], []⟩
def u86T0 : Tree :=
  .bind (.bin .geq 3 (.tmp 3) (K' 1)) [.v 0, k' 1] <|
  .ite (.v 1) (
    .bind (.bin .leq 3 (.tmp 6) (K' 1099511627776)) [.v 0, k' 1099511627776] <|
    .ret [.v 2]) (
    .ret [.c (.bool false)])
def u86Ts : Nat → Tree
  | 0 => u86T0
  | _ => .fail
/-! 87 langdoc/langdocref16.Word params #[24, 31] -/
def u87P : Nat → Pat
  | 1 => ⟨[⟨.pure, false⟩, ⟨.pure, true⟩, ⟨.pure, true⟩, ⟨.pure, false⟩], [(1, .v 0), (2, .loc 0 0), (13, .v 1), (14, .v 2)], [some (.whole (.v 3) 1)]⟩
  | _ => ⟨[], [], []⟩
def u87T0 : Tree :=
  .bind (.chk true 1) [.v 0] <|
  ln' 1 <|
  .bind (.bin .eql 3 (.tmp 7) (K' 0)) [.v 3, k' 0] <|
  .ite (.v 4) (
    .ret [k' 4]) (
    ln' 1 <|
    .bind (.bin .gtr 3 (.tmp 10) (K' 24)) [.v 5, k' 24] <|
    .ite (.v 6) (
      .ret [k' 5]) (
      ln' 1 <|
      .jump 1 [.v 1, .v 7, k' 0, .v 2]))
def u87T1 : Tree :=
  .bind (.bin .lss 3 (.tmp 14) (.tmp 13)) [.v 2, .v 1] <|
  .ite (.v 4) (
    ir' 0 2 <|
    .bind (.elem 1 false 1 0) [.v 0, .v 2] <|
    .call (.fn 70) [.v 3, .v 6] 1 <|
    .bind (.un .not 4) [.v 7] <|
    .ite (.v 8) (
      .ret [k' 19]) (
      .bind (.bin .add 3 (.tmp 14) (K' 1)) [.v 2, k' 1] <|
      .jump 1 [.v 0, .v 1, .v 9, .v 3])) (
    .ret [k' 0])
def u87Ts : Nat → Tree
  | 0 => u87T0
  | 1 => u87T1
  | _ => .fail
/-! 88 langdoc/langdocref24.sense params #[62, 87] -/
def u88P : Nat → Pat
  | _ => ⟨[], [], []⟩
def u88T0 : Tree :=
  .bind (.chk true 2) [.v 1] <|
  fl' 0 2 <|
  .call (.fn 98) [.v 3] 1 <|
  .bind (.un .not 4) [.v 4] <|
  .ite (.v 5) (
    .ret [k' 7]) (
    fl' 1 2 <|
    .call (.fn 99) [.v 6] 1 <|
    .bind (.bin .neq 50 (.tmp 13) (K' 0)) [.v 7, k' 0] <|
    .ite (.v 8) (
      .ret [.v 7]) (
      fl' 0 2 <|
      .call (.fn 100) [.v 0, .v 9] 1 <|
      .ite (.v 10) (
        .ret [k' 8]) (
        .ret [k' 0])))
def u88Ts : Nat → Tree
  | 0 => u88T0
  | _ => .fail
/-! 89 langdoc/langdocref24.Ref params #[166] -/
def u89P : Nat → Pat
  | _ => ⟨[], [], []⟩
def u89T0 : Tree :=
  .bind (.chk true 2) [.v 0] <|
  fl' 0 1 <|
  .call (.fn 86) [.v 2] 1 <|
  .ite (.v 3) (
    fl' 1 1 <|
    .call (.fn 86) [.v 4] 1 <|
    .ret [.v 5]) (
    .ret [.c (.bool false)])
def u89Ts : Nat → Tree
  | 0 => u89T0
  | _ => .fail
/-! 90 langdoc/langdocref24.Precedes params #[166, 166] -/
def u90P : Nat → Pat
  | _ => ⟨[], [], []⟩
def u90T0 : Tree :=
  .bind (.chk true 2) [.v 0] <|
  .bind (.chk true 2) [.v 1] <|
  fl' 0 2 <|
  fl' 0 3 <|
  .bind (.bin .lss 3 (.tmp 6) (.tmp 8)) [.v 4, .v 5] <|
  .ite (.v 6) (
    .ret [.c (.bool true)]) (
    fl' 0 2 <|
    fl' 0 3 <|
    .bind (.bin .eql 3 (.tmp 12) (.tmp 14)) [.v 7, .v 8] <|
    .ite (.v 9) (
      fl' 1 2 <|
      fl' 1 3 <|
      .bind (.bin .lss 3 (.tmp 18) (.tmp 20)) [.v 10, .v 11] <|
      .ret [.v 12]) (
      .ret [.c (.bool false)]))
def u90Ts : Nat → Tree
  | 0 => u90T0
  | _ => .fail
/-! 96 langdoc/langdocref02.Scalar params #[3] -/
def u96P : Nat → Pat
  | _ => ⟨[], [], []⟩
def u96T0 : Tree :=
  .bind (.bin .geq 3 (.tmp 3) (K' 0)) [.v 0, k' 0] <|
  .ite (.v 1) (
    .bind (.bin .leq 3 (.tmp 6) (K' 1114111)) [.v 0, k' 1114111] <|
    .ite (.v 2) (
      .bind (.bin .lss 3 (.tmp 10) (K' 55296)) [.v 0, k' 55296] <|
      .ite (.v 3) (
        .ret [.c (.bool true)]) (
        .bind (.bin .gtr 3 (.tmp 13) (K' 57343)) [.v 0, k' 57343] <|
        .ret [.v 4])) (
      .ret [.c (.bool false)])) (
    .ret [.c (.bool false)])
def u96Ts : Nat → Tree
  | 0 => u96T0
  | _ => .fail
/-! 97 langdoc/langdocref02.encoded params #[3] -/
def u97P : Nat → Pat
  | _ => ⟨[], [], []⟩
def u97T0 : Tree :=
  .bind (.bin .lss 3 (.tmp 4) (K' 128)) [.v 0, k' 128] <|
  .ite (.v 1) (
    .bind (.conv 3 5) [.v 0] <|
    .bind (.chk false 1) [.v 2] <|
    .bind (.lit 5 1) [.v 2] <|
    .bind .bstr [.v 4] <|
    .ret [.v 5]) (
    .bind (.bin .lss 3 (.tmp 11) (K' 2048)) [.v 0, k' 2048] <|
    .ite (.v 2) (
      .bind (.bin .quo 3 (.tmp 13) (K' 64)) [.v 0, k' 64] <|
      .bind (.bin .add 3 (K' 192) (.tmp 14)) [k' 192, .v 3] <|
      .bind (.conv 3 5) [.v 4] <|
      .bind (.bin .rem 3 (.tmp 17) (K' 64)) [.v 0, k' 64] <|
      .bind (.bin .add 3 (K' 128) (.tmp 18)) [k' 128, .v 6] <|
      .bind (.conv 3 5) [.v 7] <|
      .bind (.chk false 1) [.v 5] <|
      .bind (.chk false 1) [.v 8] <|
      .bind (.lit 5 1) [.v 5, .v 8] <|
      .bind .bstr [.v 11] <|
      .ret [.v 12]) (
      .bind (.bin .lss 3 (.tmp 24) (K' 65536)) [.v 0, k' 65536] <|
      .ite (.v 3) (
        .bind (.bin .quo 3 (.tmp 26) (K' 4096)) [.v 0, k' 4096] <|
        .bind (.bin .add 3 (K' 224) (.tmp 27)) [k' 224, .v 4] <|
        .bind (.conv 3 5) [.v 5] <|
        .bind (.bin .quo 3 (.tmp 30) (K' 64)) [.v 0, k' 64] <|
        .bind (.bin .rem 3 (.tmp 31) (K' 64)) [.v 7, k' 64] <|
        .bind (.bin .add 3 (K' 128) (.tmp 32)) [k' 128, .v 8] <|
        .bind (.conv 3 5) [.v 9] <|
        .bind (.bin .rem 3 (.tmp 35) (K' 64)) [.v 0, k' 64] <|
        .bind (.bin .add 3 (K' 128) (.tmp 36)) [k' 128, .v 11] <|
        .bind (.conv 3 5) [.v 12] <|
        .bind (.chk false 1) [.v 6] <|
        .bind (.chk false 1) [.v 10] <|
        .bind (.chk false 1) [.v 13] <|
        .bind (.lit 5 1) [.v 6, .v 10, .v 13] <|
        .bind .bstr [.v 17] <|
        .ret [.v 18]) (
        .bind (.bin .quo 3 (.tmp 41) (K' 262144)) [.v 0, k' 262144] <|
        .bind (.bin .add 3 (K' 240) (.tmp 42)) [k' 240, .v 4] <|
        .bind (.conv 3 5) [.v 5] <|
        .bind (.bin .quo 3 (.tmp 45) (K' 4096)) [.v 0, k' 4096] <|
        .bind (.bin .rem 3 (.tmp 46) (K' 64)) [.v 7, k' 64] <|
        .bind (.bin .add 3 (K' 128) (.tmp 47)) [k' 128, .v 8] <|
        .bind (.conv 3 5) [.v 9] <|
        .bind (.bin .quo 3 (.tmp 50) (K' 64)) [.v 0, k' 64] <|
        .bind (.bin .rem 3 (.tmp 51) (K' 64)) [.v 11, k' 64] <|
        .bind (.bin .add 3 (K' 128) (.tmp 52)) [k' 128, .v 12] <|
        .bind (.conv 3 5) [.v 13] <|
        .bind (.bin .rem 3 (.tmp 55) (K' 64)) [.v 0, k' 64] <|
        .bind (.bin .add 3 (K' 128) (.tmp 56)) [k' 128, .v 15] <|
        .bind (.conv 3 5) [.v 16] <|
        .bind (.chk false 1) [.v 6] <|
        .bind (.chk false 1) [.v 10] <|
        .bind (.chk false 1) [.v 14] <|
        .bind (.chk false 1) [.v 17] <|
        .bind (.lit 5 1) [.v 6, .v 10, .v 14, .v 17] <|
        .bind .bstr [.v 22] <|
        .ret [.v 23])))
def u97Ts : Nat → Tree
  | 0 => u97T0
  | _ => .fail
/-! 98 langdoc/langdocref24.Gloss params #[9] -/
def u98P : Nat → Pat
  | 1 => ⟨[⟨.pure, false⟩, ⟨.pure, true⟩], [(0, .v 0), (3, .v 1)], []⟩
  | _ => ⟨[], [], []⟩
def u98T0 : Tree :=
  .jump 1 [.v 0, k' 0]
def u98T1 : Tree :=
  .bind (.len true) [.v 0] <|
  .bind (.bin .lss 3 (.tmp 4) (.tmp 6)) [.v 1, .v 2] <|
  .ite (.v 3) (
    .bind .chr [.v 0, .v 1] <|
    .bind (.bin .eql 5 (.tmp 12) (.const (.int .u8 32))) [.v 4, .c (.int .u8 32)] <|
    .ite (.v 5) (
      .ret [.c (.bool false)]) (
      .bind .chr [.v 0, .v 1] <|
      .bind (.bin .eql 5 (.tmp 17) (.const (.int .u8 45))) [.v 6, .c (.int .u8 45)] <|
      .ite (.v 7) (
        .ret [.c (.bool false)]) (
        .bind (.bin .add 3 (.tmp 8) (K' 1)) [.v 1, k' 1] <|
        .jump 1 [.v 0, .v 8]))) (
    .call (.fn 41) [.v 0] 1 <|
    .ret [.v 4])
def u98Ts : Nat → Tree
  | 0 => u98T0
  | 1 => u98T1
  | _ => .fail
/-! 99 langdoc/langdocref12.Text params #[9] -/
def u99P : Nat → Pat
  | 1 => ⟨[⟨.pure, false⟩, ⟨.pure, true⟩], [(3, .v 0), (5, .v 1)], []⟩
  | _ => ⟨[], [], []⟩
def u99T0 : Tree :=
  .bind (.len true) [.v 0] <|
  .bind (.bin .gtr 3 (.tmp 7) (K' 200)) [.v 1, k' 200] <|
  .ite (.v 2) (
    .ret [k' 5]) (
    .call (.fn 69) [.v 0] 0 <|
    .bind (.ext 0) [.v 3] <|
    .bind (.ext 1) [.v 3] <|
    .bind (.un .not 4) [.v 5] <|
    .ite (.v 6) (
      .ret [k' 3]) (
      .jump 1 [.v 4, k' 0]))
def u99T1 : Tree :=
  ln' 0 <|
  .bind (.bin .lss 3 (.tmp 16) (.tmp 18)) [.v 1, .v 2] <|
  .ite (.v 3) (
    ir' 0 1 <|
    .bind (.elem 1 false 1 0) [.v 0, .v 1] <|
    .bind (.bin .lss 3 (.tmp 25) (K' 32)) [.v 5, k' 32] <|
    .ite (.v 6) (
      .ret [k' 3]) (
      ir' 0 1 <|
      .bind (.elem 1 false 1 0) [.v 0, .v 1] <|
      .bind (.bin .eql 3 (.tmp 31) (K' 127)) [.v 8, k' 127] <|
      .ite (.v 9) (
        .ret [k' 3]) (
        .bind (.bin .add 3 (.tmp 20) (K' 1)) [.v 1, k' 1] <|
        .jump 1 [.v 0, .v 10]))) (
    .ret [k' 0])
def u99Ts : Nat → Tree
  | 0 => u99T0
  | 1 => u99T1
  | _ => .fail
/-! 100 langdoc/langdocref24.has params #[62, 9] -/
def u100P : Nat → Pat
  | 1 => ⟨[⟨.pure, false⟩, ⟨.pure, false⟩, ⟨.pure, true⟩], [(0, .v 0), (1, .v 1), (5, .v 2)], []⟩
  | _ => ⟨[], [], []⟩
def u100T0 : Tree :=
  .jump 1 [.v 0, .v 1, k' 0]
def u100T1 : Tree :=
  ln' 0 <|
  .bind (.bin .lss 3 (.tmp 6) (.tmp 8)) [.v 2, .v 3] <|
  .ite (.v 4) (
    ir' 0 2 <|
    .bind (.elem 2 false 1 0) [.v 0, .v 2] <|
    .bind (.bin .eql 9 (.tmp 16) (.tmp 17)) [.v 6, .v 1] <|
    .ite (.v 7) (
      .ret [.c (.bool true)]) (
      .bind (.bin .add 3 (.tmp 10) (K' 1)) [.v 2, k' 1] <|
      .jump 1 [.v 0, .v 1, .v 8])) (
    .ret [.c (.bool false)])
def u100Ts : Nat → Tree
  | 0 => u100T0
  | 1 => u100T1
  | _ => .fail
theorem allL : (rootT EE (fun k S => jumpS (Nat.max Tryz.f4.ntmps 1) (u4P k) k S) Tryz.f4 1,
  headsT EE (fun k => (u4P k).st (Nat.max Tryz.f4.ntmps 1)) (fun k S => jumpS (Nat.max Tryz.f4.ntmps 1) (u4P k) k S) 1 (bodyOf Tryz.f4) (endK EE Tryz.f4.results.toList),
  (Tryz.f4.name == "runtime.NumGoroutine" || !regsOk (bodyOf Tryz.f4)),
  rootT EE (fun k S => jumpS (Nat.max Tryz.f7.ntmps 2) (u7P k) k S) Tryz.f7 2,
  headsT EE (fun k => (u7P k).st (Nat.max Tryz.f7.ntmps 2)) (fun k S => jumpS (Nat.max Tryz.f7.ntmps 2) (u7P k) k S) 1 (bodyOf Tryz.f7) (endK EE Tryz.f7.results.toList),
  (Tryz.f7.name == "runtime.NumGoroutine" || !regsOk (bodyOf Tryz.f7)),
  rootT EE (fun k S => jumpS (Nat.max Tryz.f12.ntmps 1) (u12P k) k S) Tryz.f12 1,
  headsT EE (fun k => (u12P k).st (Nat.max Tryz.f12.ntmps 1)) (fun k S => jumpS (Nat.max Tryz.f12.ntmps 1) (u12P k) k S) 1 (bodyOf Tryz.f12) (endK EE Tryz.f12.results.toList),
  (Tryz.f12.name == "runtime.NumGoroutine" || !regsOk (bodyOf Tryz.f12)),
  rootT EE (fun k S => jumpS (Nat.max Tryz.f13.ntmps 1) (u13P k) k S) Tryz.f13 1,
  headsT EE (fun k => (u13P k).st (Nat.max Tryz.f13.ntmps 1)) (fun k S => jumpS (Nat.max Tryz.f13.ntmps 1) (u13P k) k S) 1 (bodyOf Tryz.f13) (endK EE Tryz.f13.results.toList),
  (Tryz.f13.name == "runtime.NumGoroutine" || !regsOk (bodyOf Tryz.f13)),
  rootT EE (fun k S => jumpS (Nat.max Tryz.f22.ntmps 2) (u22P k) k S) Tryz.f22 2,
  headsT EE (fun k => (u22P k).st (Nat.max Tryz.f22.ntmps 2)) (fun k S => jumpS (Nat.max Tryz.f22.ntmps 2) (u22P k) k S) 1 (bodyOf Tryz.f22) (endK EE Tryz.f22.results.toList),
  (Tryz.f22.name == "runtime.NumGoroutine" || !regsOk (bodyOf Tryz.f22)),
  rootT EE (fun k S => jumpS (Nat.max Tryz.f25.ntmps 1) (u25P k) k S) Tryz.f25 1,
  headsT EE (fun k => (u25P k).st (Nat.max Tryz.f25.ntmps 1)) (fun k S => jumpS (Nat.max Tryz.f25.ntmps 1) (u25P k) k S) 1 (bodyOf Tryz.f25) (endK EE Tryz.f25.results.toList),
  (Tryz.f25.name == "runtime.NumGoroutine" || !regsOk (bodyOf Tryz.f25)),
  rootT EE (fun k S => jumpS (Nat.max Tryz.f26.ntmps 2) (u26P k) k S) Tryz.f26 2,
  headsT EE (fun k => (u26P k).st (Nat.max Tryz.f26.ntmps 2)) (fun k S => jumpS (Nat.max Tryz.f26.ntmps 2) (u26P k) k S) 1 (bodyOf Tryz.f26) (endK EE Tryz.f26.results.toList),
  (Tryz.f26.name == "runtime.NumGoroutine" || !regsOk (bodyOf Tryz.f26)),
  rootT EE (fun k S => jumpS (Nat.max Tryz.f27.ntmps 1) (u27P k) k S) Tryz.f27 1,
  headsT EE (fun k => (u27P k).st (Nat.max Tryz.f27.ntmps 1)) (fun k S => jumpS (Nat.max Tryz.f27.ntmps 1) (u27P k) k S) 1 (bodyOf Tryz.f27) (endK EE Tryz.f27.results.toList),
  (Tryz.f27.name == "runtime.NumGoroutine" || !regsOk (bodyOf Tryz.f27)),
  rootT EE (fun k S => jumpS (Nat.max Tryz.f28.ntmps 1) (u28P k) k S) Tryz.f28 1,
  headsT EE (fun k => (u28P k).st (Nat.max Tryz.f28.ntmps 1)) (fun k S => jumpS (Nat.max Tryz.f28.ntmps 1) (u28P k) k S) 1 (bodyOf Tryz.f28) (endK EE Tryz.f28.results.toList),
  (Tryz.f28.name == "runtime.NumGoroutine" || !regsOk (bodyOf Tryz.f28)),
  rootT EE (fun k S => jumpS (Nat.max Tryz.f29.ntmps 2) (u29P k) k S) Tryz.f29 2,
  headsT EE (fun k => (u29P k).st (Nat.max Tryz.f29.ntmps 2)) (fun k S => jumpS (Nat.max Tryz.f29.ntmps 2) (u29P k) k S) 1 (bodyOf Tryz.f29) (endK EE Tryz.f29.results.toList),
  (Tryz.f29.name == "runtime.NumGoroutine" || !regsOk (bodyOf Tryz.f29)),
  rootT EE (fun k S => jumpS (Nat.max Tryz.f30.ntmps 1) (u30P k) k S) Tryz.f30 1,
  headsT EE (fun k => (u30P k).st (Nat.max Tryz.f30.ntmps 1)) (fun k S => jumpS (Nat.max Tryz.f30.ntmps 1) (u30P k) k S) 1 (bodyOf Tryz.f30) (endK EE Tryz.f30.results.toList),
  (Tryz.f30.name == "runtime.NumGoroutine" || !regsOk (bodyOf Tryz.f30)),
  rootT EE (fun k S => jumpS (Nat.max Tryz.f31.ntmps 1) (u31P k) k S) Tryz.f31 1,
  headsT EE (fun k => (u31P k).st (Nat.max Tryz.f31.ntmps 1)) (fun k S => jumpS (Nat.max Tryz.f31.ntmps 1) (u31P k) k S) 1 (bodyOf Tryz.f31) (endK EE Tryz.f31.results.toList),
  (Tryz.f31.name == "runtime.NumGoroutine" || !regsOk (bodyOf Tryz.f31)),
  rootT EE (fun k S => jumpS (Nat.max Tryz.f41.ntmps 1) (u41P k) k S) Tryz.f41 1,
  headsT EE (fun k => (u41P k).st (Nat.max Tryz.f41.ntmps 1)) (fun k S => jumpS (Nat.max Tryz.f41.ntmps 1) (u41P k) k S) 1 (bodyOf Tryz.f41) (endK EE Tryz.f41.results.toList),
  (Tryz.f41.name == "runtime.NumGoroutine" || !regsOk (bodyOf Tryz.f41)),
  rootT EE (fun k S => jumpS (Nat.max Tryz.f42.ntmps 1) (u42P k) k S) Tryz.f42 1,
  headsT EE (fun k => (u42P k).st (Nat.max Tryz.f42.ntmps 1)) (fun k S => jumpS (Nat.max Tryz.f42.ntmps 1) (u42P k) k S) 1 (bodyOf Tryz.f42) (endK EE Tryz.f42.results.toList),
  (Tryz.f42.name == "runtime.NumGoroutine" || !regsOk (bodyOf Tryz.f42)),
  rootT EE (fun k S => jumpS (Nat.max Tryz.f43.ntmps 3) (u43P k) k S) Tryz.f43 3,
  headsT EE (fun k => (u43P k).st (Nat.max Tryz.f43.ntmps 3)) (fun k S => jumpS (Nat.max Tryz.f43.ntmps 3) (u43P k) k S) 1 (bodyOf Tryz.f43) (endK EE Tryz.f43.results.toList),
  (Tryz.f43.name == "runtime.NumGoroutine" || !regsOk (bodyOf Tryz.f43)),
  rootT EE (fun k S => jumpS (Nat.max Tryz.f44.ntmps 1) (u44P k) k S) Tryz.f44 1,
  headsT EE (fun k => (u44P k).st (Nat.max Tryz.f44.ntmps 1)) (fun k S => jumpS (Nat.max Tryz.f44.ntmps 1) (u44P k) k S) 1 (bodyOf Tryz.f44) (endK EE Tryz.f44.results.toList),
  (Tryz.f44.name == "runtime.NumGoroutine" || !regsOk (bodyOf Tryz.f44)),
  rootT EE (fun k S => jumpS (Nat.max Tryz.f45.ntmps 2) (u45P k) k S) Tryz.f45 2,
  headsT EE (fun k => (u45P k).st (Nat.max Tryz.f45.ntmps 2)) (fun k S => jumpS (Nat.max Tryz.f45.ntmps 2) (u45P k) k S) 1 (bodyOf Tryz.f45) (endK EE Tryz.f45.results.toList),
  (Tryz.f45.name == "runtime.NumGoroutine" || !regsOk (bodyOf Tryz.f45)),
  rootT EE (fun k S => jumpS (Nat.max Tryz.f46.ntmps 2) (u46P k) k S) Tryz.f46 2,
  headsT EE (fun k => (u46P k).st (Nat.max Tryz.f46.ntmps 2)) (fun k S => jumpS (Nat.max Tryz.f46.ntmps 2) (u46P k) k S) 1 (bodyOf Tryz.f46) (endK EE Tryz.f46.results.toList),
  (Tryz.f46.name == "runtime.NumGoroutine" || !regsOk (bodyOf Tryz.f46)),
  rootT EE (fun k S => jumpS (Nat.max Tryz.f47.ntmps 2) (u47P k) k S) Tryz.f47 2,
  headsT EE (fun k => (u47P k).st (Nat.max Tryz.f47.ntmps 2)) (fun k S => jumpS (Nat.max Tryz.f47.ntmps 2) (u47P k) k S) 1 (bodyOf Tryz.f47) (endK EE Tryz.f47.results.toList),
  (Tryz.f47.name == "runtime.NumGoroutine" || !regsOk (bodyOf Tryz.f47)),
  rootT EE (fun k S => jumpS (Nat.max Tryz.f48.ntmps 2) (u48P k) k S) Tryz.f48 2,
  headsT EE (fun k => (u48P k).st (Nat.max Tryz.f48.ntmps 2)) (fun k S => jumpS (Nat.max Tryz.f48.ntmps 2) (u48P k) k S) 1 (bodyOf Tryz.f48) (endK EE Tryz.f48.results.toList),
  (Tryz.f48.name == "runtime.NumGoroutine" || !regsOk (bodyOf Tryz.f48)),
  rootT EE (fun k S => jumpS (Nat.max Tryz.f49.ntmps 2) (u49P k) k S) Tryz.f49 2,
  headsT EE (fun k => (u49P k).st (Nat.max Tryz.f49.ntmps 2)) (fun k S => jumpS (Nat.max Tryz.f49.ntmps 2) (u49P k) k S) 1 (bodyOf Tryz.f49) (endK EE Tryz.f49.results.toList),
  (Tryz.f49.name == "runtime.NumGoroutine" || !regsOk (bodyOf Tryz.f49)),
  rootT EE (fun k S => jumpS (Nat.max Tryz.f50.ntmps 1) (u50P k) k S) Tryz.f50 1,
  headsT EE (fun k => (u50P k).st (Nat.max Tryz.f50.ntmps 1)) (fun k S => jumpS (Nat.max Tryz.f50.ntmps 1) (u50P k) k S) 1 (bodyOf Tryz.f50) (endK EE Tryz.f50.results.toList),
  (Tryz.f50.name == "runtime.NumGoroutine" || !regsOk (bodyOf Tryz.f50)),
  rootT EE (fun k S => jumpS (Nat.max Tryz.f51.ntmps 2) (u51P k) k S) Tryz.f51 2,
  headsT EE (fun k => (u51P k).st (Nat.max Tryz.f51.ntmps 2)) (fun k S => jumpS (Nat.max Tryz.f51.ntmps 2) (u51P k) k S) 1 (bodyOf Tryz.f51) (endK EE Tryz.f51.results.toList),
  (Tryz.f51.name == "runtime.NumGoroutine" || !regsOk (bodyOf Tryz.f51)),
  rootT EE (fun k S => jumpS (Nat.max Tryz.f52.ntmps 2) (u52P k) k S) Tryz.f52 2,
  headsT EE (fun k => (u52P k).st (Nat.max Tryz.f52.ntmps 2)) (fun k S => jumpS (Nat.max Tryz.f52.ntmps 2) (u52P k) k S) 1 (bodyOf Tryz.f52) (endK EE Tryz.f52.results.toList),
  (Tryz.f52.name == "runtime.NumGoroutine" || !regsOk (bodyOf Tryz.f52)),
  rootT EE (fun k S => jumpS (Nat.max Tryz.f53.ntmps 2) (u53P k) k S) Tryz.f53 2,
  headsT EE (fun k => (u53P k).st (Nat.max Tryz.f53.ntmps 2)) (fun k S => jumpS (Nat.max Tryz.f53.ntmps 2) (u53P k) k S) 1 (bodyOf Tryz.f53) (endK EE Tryz.f53.results.toList),
  (Tryz.f53.name == "runtime.NumGoroutine" || !regsOk (bodyOf Tryz.f53)),
  rootT EE (fun k S => jumpS (Nat.max Tryz.f54.ntmps 3) (u54P k) k S) Tryz.f54 3,
  headsT EE (fun k => (u54P k).st (Nat.max Tryz.f54.ntmps 3)) (fun k S => jumpS (Nat.max Tryz.f54.ntmps 3) (u54P k) k S) 1 (bodyOf Tryz.f54) (endK EE Tryz.f54.results.toList),
  (Tryz.f54.name == "runtime.NumGoroutine" || !regsOk (bodyOf Tryz.f54)),
  rootT EE (fun k S => jumpS (Nat.max Tryz.f55.ntmps 2) (u55P k) k S) Tryz.f55 2,
  headsT EE (fun k => (u55P k).st (Nat.max Tryz.f55.ntmps 2)) (fun k S => jumpS (Nat.max Tryz.f55.ntmps 2) (u55P k) k S) 1 (bodyOf Tryz.f55) (endK EE Tryz.f55.results.toList),
  (Tryz.f55.name == "runtime.NumGoroutine" || !regsOk (bodyOf Tryz.f55)),
  rootT EE (fun k S => jumpS (Nat.max Tryz.f56.ntmps 2) (u56P k) k S) Tryz.f56 2,
  headsT EE (fun k => (u56P k).st (Nat.max Tryz.f56.ntmps 2)) (fun k S => jumpS (Nat.max Tryz.f56.ntmps 2) (u56P k) k S) 1 (bodyOf Tryz.f56) (endK EE Tryz.f56.results.toList),
  (Tryz.f56.name == "runtime.NumGoroutine" || !regsOk (bodyOf Tryz.f56)),
  rootT EE (fun k S => jumpS (Nat.max Tryz.f69.ntmps 1) (u69P k) k S) Tryz.f69 1,
  headsT EE (fun k => (u69P k).st (Nat.max Tryz.f69.ntmps 1)) (fun k S => jumpS (Nat.max Tryz.f69.ntmps 1) (u69P k) k S) 1 (bodyOf Tryz.f69) (endK EE Tryz.f69.results.toList),
  (Tryz.f69.name == "runtime.NumGoroutine" || !regsOk (bodyOf Tryz.f69)),
  rootT EE (fun k S => jumpS (Nat.max Tryz.f70.ntmps 2) (u70P k) k S) Tryz.f70 2,
  headsT EE (fun k => (u70P k).st (Nat.max Tryz.f70.ntmps 2)) (fun k S => jumpS (Nat.max Tryz.f70.ntmps 2) (u70P k) k S) 1 (bodyOf Tryz.f70) (endK EE Tryz.f70.results.toList),
  (Tryz.f70.name == "runtime.NumGoroutine" || !regsOk (bodyOf Tryz.f70)),
  rootT EE (fun k S => jumpS (Nat.max Tryz.f71.ntmps 1) (u71P k) k S) Tryz.f71 1,
  headsT EE (fun k => (u71P k).st (Nat.max Tryz.f71.ntmps 1)) (fun k S => jumpS (Nat.max Tryz.f71.ntmps 1) (u71P k) k S) 1 (bodyOf Tryz.f71) (endK EE Tryz.f71.results.toList),
  (Tryz.f71.name == "runtime.NumGoroutine" || !regsOk (bodyOf Tryz.f71)),
  rootT EE (fun k S => jumpS (Nat.max Tryz.f72.ntmps 2) (u72P k) k S) Tryz.f72 2,
  headsT EE (fun k => (u72P k).st (Nat.max Tryz.f72.ntmps 2)) (fun k S => jumpS (Nat.max Tryz.f72.ntmps 2) (u72P k) k S) 1 (bodyOf Tryz.f72) (endK EE Tryz.f72.results.toList),
  (Tryz.f72.name == "runtime.NumGoroutine" || !regsOk (bodyOf Tryz.f72)),
  rootT EE (fun k S => jumpS (Nat.max Tryz.f73.ntmps 1) (u73P k) k S) Tryz.f73 1,
  headsT EE (fun k => (u73P k).st (Nat.max Tryz.f73.ntmps 1)) (fun k S => jumpS (Nat.max Tryz.f73.ntmps 1) (u73P k) k S) 1 (bodyOf Tryz.f73) (endK EE Tryz.f73.results.toList),
  (Tryz.f73.name == "runtime.NumGoroutine" || !regsOk (bodyOf Tryz.f73)),
  rootT EE (fun k S => jumpS (Nat.max Tryz.f74.ntmps 1) (u74P k) k S) Tryz.f74 1,
  headsT EE (fun k => (u74P k).st (Nat.max Tryz.f74.ntmps 1)) (fun k S => jumpS (Nat.max Tryz.f74.ntmps 1) (u74P k) k S) 1 (bodyOf Tryz.f74) (endK EE Tryz.f74.results.toList),
  (Tryz.f74.name == "runtime.NumGoroutine" || !regsOk (bodyOf Tryz.f74)),
  rootT EE (fun k S => jumpS (Nat.max Tryz.f75.ntmps 2) (u75P k) k S) Tryz.f75 2,
  headsT EE (fun k => (u75P k).st (Nat.max Tryz.f75.ntmps 2)) (fun k S => jumpS (Nat.max Tryz.f75.ntmps 2) (u75P k) k S) 1 (bodyOf Tryz.f75) (endK EE Tryz.f75.results.toList),
  (Tryz.f75.name == "runtime.NumGoroutine" || !regsOk (bodyOf Tryz.f75)),
  rootT EE (fun k S => jumpS (Nat.max Tryz.f84.ntmps 2) (u84P k) k S) Tryz.f84 2,
  headsT EE (fun k => (u84P k).st (Nat.max Tryz.f84.ntmps 2)) (fun k S => jumpS (Nat.max Tryz.f84.ntmps 2) (u84P k) k S) 1 (bodyOf Tryz.f84) (endK EE Tryz.f84.results.toList),
  (Tryz.f84.name == "runtime.NumGoroutine" || !regsOk (bodyOf Tryz.f84)),
  rootT EE (fun k S => jumpS (Nat.max Tryz.f85.ntmps 2) (u85P k) k S) Tryz.f85 2,
  headsT EE (fun k => (u85P k).st (Nat.max Tryz.f85.ntmps 2)) (fun k S => jumpS (Nat.max Tryz.f85.ntmps 2) (u85P k) k S) 1 (bodyOf Tryz.f85) (endK EE Tryz.f85.results.toList),
  (Tryz.f85.name == "runtime.NumGoroutine" || !regsOk (bodyOf Tryz.f85)),
  rootT EE (fun k S => jumpS (Nat.max Tryz.f86.ntmps 1) (u86P k) k S) Tryz.f86 1,
  headsT EE (fun k => (u86P k).st (Nat.max Tryz.f86.ntmps 1)) (fun k S => jumpS (Nat.max Tryz.f86.ntmps 1) (u86P k) k S) 1 (bodyOf Tryz.f86) (endK EE Tryz.f86.results.toList),
  (Tryz.f86.name == "runtime.NumGoroutine" || !regsOk (bodyOf Tryz.f86)),
  rootT EE (fun k S => jumpS (Nat.max Tryz.f87.ntmps 2) (u87P k) k S) Tryz.f87 2,
  headsT EE (fun k => (u87P k).st (Nat.max Tryz.f87.ntmps 2)) (fun k S => jumpS (Nat.max Tryz.f87.ntmps 2) (u87P k) k S) 1 (bodyOf Tryz.f87) (endK EE Tryz.f87.results.toList),
  (Tryz.f87.name == "runtime.NumGoroutine" || !regsOk (bodyOf Tryz.f87)),
  rootT EE (fun k S => jumpS (Nat.max Tryz.f88.ntmps 2) (u88P k) k S) Tryz.f88 2,
  headsT EE (fun k => (u88P k).st (Nat.max Tryz.f88.ntmps 2)) (fun k S => jumpS (Nat.max Tryz.f88.ntmps 2) (u88P k) k S) 1 (bodyOf Tryz.f88) (endK EE Tryz.f88.results.toList),
  (Tryz.f88.name == "runtime.NumGoroutine" || !regsOk (bodyOf Tryz.f88)),
  rootT EE (fun k S => jumpS (Nat.max Tryz.f89.ntmps 1) (u89P k) k S) Tryz.f89 1,
  headsT EE (fun k => (u89P k).st (Nat.max Tryz.f89.ntmps 1)) (fun k S => jumpS (Nat.max Tryz.f89.ntmps 1) (u89P k) k S) 1 (bodyOf Tryz.f89) (endK EE Tryz.f89.results.toList),
  (Tryz.f89.name == "runtime.NumGoroutine" || !regsOk (bodyOf Tryz.f89)),
  rootT EE (fun k S => jumpS (Nat.max Tryz.f90.ntmps 2) (u90P k) k S) Tryz.f90 2,
  headsT EE (fun k => (u90P k).st (Nat.max Tryz.f90.ntmps 2)) (fun k S => jumpS (Nat.max Tryz.f90.ntmps 2) (u90P k) k S) 1 (bodyOf Tryz.f90) (endK EE Tryz.f90.results.toList),
  (Tryz.f90.name == "runtime.NumGoroutine" || !regsOk (bodyOf Tryz.f90)),
  rootT EE (fun k S => jumpS (Nat.max Tryz.f96.ntmps 1) (u96P k) k S) Tryz.f96 1,
  headsT EE (fun k => (u96P k).st (Nat.max Tryz.f96.ntmps 1)) (fun k S => jumpS (Nat.max Tryz.f96.ntmps 1) (u96P k) k S) 1 (bodyOf Tryz.f96) (endK EE Tryz.f96.results.toList),
  (Tryz.f96.name == "runtime.NumGoroutine" || !regsOk (bodyOf Tryz.f96)),
  rootT EE (fun k S => jumpS (Nat.max Tryz.f97.ntmps 1) (u97P k) k S) Tryz.f97 1,
  headsT EE (fun k => (u97P k).st (Nat.max Tryz.f97.ntmps 1)) (fun k S => jumpS (Nat.max Tryz.f97.ntmps 1) (u97P k) k S) 1 (bodyOf Tryz.f97) (endK EE Tryz.f97.results.toList),
  (Tryz.f97.name == "runtime.NumGoroutine" || !regsOk (bodyOf Tryz.f97)),
  rootT EE (fun k S => jumpS (Nat.max Tryz.f98.ntmps 1) (u98P k) k S) Tryz.f98 1,
  headsT EE (fun k => (u98P k).st (Nat.max Tryz.f98.ntmps 1)) (fun k S => jumpS (Nat.max Tryz.f98.ntmps 1) (u98P k) k S) 1 (bodyOf Tryz.f98) (endK EE Tryz.f98.results.toList),
  (Tryz.f98.name == "runtime.NumGoroutine" || !regsOk (bodyOf Tryz.f98)),
  rootT EE (fun k S => jumpS (Nat.max Tryz.f99.ntmps 1) (u99P k) k S) Tryz.f99 1,
  headsT EE (fun k => (u99P k).st (Nat.max Tryz.f99.ntmps 1)) (fun k S => jumpS (Nat.max Tryz.f99.ntmps 1) (u99P k) k S) 1 (bodyOf Tryz.f99) (endK EE Tryz.f99.results.toList),
  (Tryz.f99.name == "runtime.NumGoroutine" || !regsOk (bodyOf Tryz.f99)),
  rootT EE (fun k S => jumpS (Nat.max Tryz.f100.ntmps 2) (u100P k) k S) Tryz.f100 2,
  headsT EE (fun k => (u100P k).st (Nat.max Tryz.f100.ntmps 2)) (fun k S => jumpS (Nat.max Tryz.f100.ntmps 2) (u100P k) k S) 1 (bodyOf Tryz.f100) (endK EE Tryz.f100.results.toList),
  (Tryz.f100.name == "runtime.NumGoroutine" || !regsOk (bodyOf Tryz.f100))) =
  (u4T0, [(1, u4T1)], false, u7T0, [(1, u7T1)], false, u12T0, [(1, u12T1), (2, u12T2)], false, u13T0, [], false, u22T0, [(1, u22T1)], false, u25T0, [(1, u25T1), (2, u25T2)], false, u26T0, [(1, u26T1), (2, u26T2), (3, u26T3)], false, u27T0, [(1, u27T1)], false, u28T0, [(1, u28T1), (2, u28T2), (3, u28T3), (4, u28T4)], false, u29T0, [(1, u29T1), (2, u29T2), (3, u29T3)], false, u30T0, [(1, u30T1), (2, u30T2), (3, u30T3)], false, u31T0, [(1, u31T1), (2, u31T2)], false, u41T0, [(1, u41T1)], false, u42T0, [(1, u42T1)], false, u43T0, [(1, u43T1), (2, u43T2)], false, u44T0, [(1, u44T1)], false, u45T0, [(1, u45T1)], false, u46T0, [(1, u46T1)], false, u47T0, [], false, u48T0, [], false, u49T0, [], false, u50T0, [], false, u51T0, [(1, u51T1)], false, u52T0, [(1, u52T1)], false, u53T0, [(1, u53T1)], false, u54T0, [(1, u54T1), (2, u54T2), (3, u54T3), (4, u54T4)], false, u55T0, [(1, u55T1)], false, u56T0, [(1, u56T1)], false, u69T0, [(1, u69T1)], false, u70T0, [], false, u71T0, [(1, u71T1)], false, u72T0, [(1, u72T1), (2, u72T2)], false, u73T0, [(1, u73T1)], false, u74T0, [(1, u74T1)], false, u75T0, [(1, u75T1)], false, u84T0, [(1, u84T1)], false, u85T0, [(1, u85T1)], false, u86T0, [], false, u87T0, [(1, u87T1)], false, u88T0, [], false, u89T0, [], false, u90T0, [], false, u96T0, [], false, u97T0, [], false, u98T0, [(1, u98T1)], false, u99T0, [(1, u99T1)], false, u100T0, [(1, u100T1)], false) := by kernel_rfl
theorem u4 {ds : List D} {d : D} (hn : ds.length = 1) (h : Goes EE (Holds EE) u4Ts 0 ds d) : Holds EE 4 ds d :=
  holds_of he (envFunc (c := bodyOf Tryz.f4) Tryz.func4 rfl ((Prod.mk.inj (nx1 (nx1 allL))).1)) (c := bodyOf Tryz.f4) rfl hn ((Prod.mk.inj allL).1) (by rw [(Prod.mk.inj (nx1 allL)).1]; exact tabC rfl <| tabN) h
theorem u7 {ds : List D} {d : D} (hn : ds.length = 2) (h : Goes EE (Holds EE) u7Ts 0 ds d) : Holds EE 7 ds d :=
  holds_of he (envFunc (c := bodyOf Tryz.f7) Tryz.func7 rfl ((Prod.mk.inj (nx1 (nx4 allL))).1)) (c := bodyOf Tryz.f7) rfl hn ((Prod.mk.inj (nx1 (nx1 (nx1 allL)))).1) (by rw [(Prod.mk.inj (nx4 allL)).1]; exact tabC rfl <| tabN) h
theorem u12 {ds : List D} {d : D} (hn : ds.length = 1) (h : Goes EE (Holds EE) u12Ts 0 ds d) : Holds EE 12 ds d :=
  holds_of he (envFunc (c := bodyOf Tryz.f12) Tryz.func12 rfl ((Prod.mk.inj (nx4 (nx4 allL))).1)) (c := bodyOf Tryz.f12) rfl hn ((Prod.mk.inj (nx1 (nx1 (nx4 allL)))).1) (by rw [(Prod.mk.inj (nx1 (nx1 (nx1 (nx4 allL))))).1]; exact tabC rfl <| tabC rfl <| tabN) h
theorem u13 {ds : List D} {d : D} (hn : ds.length = 1) (h : Goes EE (Holds EE) u13Ts 0 ds d) : Holds EE 13 ds d :=
  holds_of he (envFunc (c := bodyOf Tryz.f13) Tryz.func13 rfl ((Prod.mk.inj (nx1 (nx1 (nx1 (nx4 (nx4 allL)))))).1)) (c := bodyOf Tryz.f13) rfl hn ((Prod.mk.inj (nx1 (nx4 (nx4 allL)))).1) (by rw [(Prod.mk.inj (nx1 (nx1 (nx4 (nx4 allL))))).1]; exact tabN) h
theorem u22 {ds : List D} {d : D} (hn : ds.length = 2) (h : Goes EE (Holds EE) u22Ts 0 ds d) : Holds EE 22 ds d :=
  holds_of he (envFunc (c := bodyOf Tryz.f22) Tryz.func22 rfl ((Prod.mk.inj (nx1 (nx1 (nx4 (nx4 (nx4 allL)))))).1)) (c := bodyOf Tryz.f22) rfl hn ((Prod.mk.inj (nx4 (nx4 (nx4 allL)))).1) (by rw [(Prod.mk.inj (nx1 (nx4 (nx4 (nx4 allL))))).1]; exact tabC rfl <| tabN) h
theorem u25 {ds : List D} {d : D} (hn : ds.length = 1) (h : Goes EE (Holds EE) u25Ts 0 ds d) : Holds EE 25 ds d :=
  holds_of he (envFunc (c := bodyOf Tryz.f25) Tryz.func25 rfl ((Prod.mk.inj (nx1 (nx16 allL))).1)) (c := bodyOf Tryz.f25) rfl hn ((Prod.mk.inj (nx1 (nx1 (nx1 (nx4 (nx4 (nx4 allL))))))).1) (by rw [(Prod.mk.inj (nx16 allL)).1]; exact tabC rfl <| tabC rfl <| tabN) h
theorem u26 {ds : List D} {d : D} (hn : ds.length = 2) (h : Goes EE (Holds EE) u26Ts 0 ds d) : Holds EE 26 ds d :=
  holds_of he (envFunc (c := bodyOf Tryz.f26) Tryz.func26 rfl ((Prod.mk.inj (nx4 (nx16 allL))).1)) (c := bodyOf Tryz.f26) rfl hn ((Prod.mk.inj (nx1 (nx1 (nx16 allL)))).1) (by rw [(Prod.mk.inj (nx1 (nx1 (nx1 (nx16 allL))))).1]; exact tabC rfl <| tabC rfl <| tabC rfl <| tabN) h
theorem u27 {ds : List D} {d : D} (hn : ds.length = 1) (h : Goes EE (Holds EE) u27Ts 0 ds d) : Holds EE 27 ds d :=
  holds_of he (envFunc (c := bodyOf Tryz.f27) Tryz.func27 rfl ((Prod.mk.inj (nx1 (nx1 (nx1 (nx4 (nx16 allL)))))).1)) (c := bodyOf Tryz.f27) rfl hn ((Prod.mk.inj (nx1 (nx4 (nx16 allL)))).1) (by rw [(Prod.mk.inj (nx1 (nx1 (nx4 (nx16 allL))))).1]; exact tabC rfl <| tabN) h
theorem u28 {ds : List D} {d : D} (hn : ds.length = 1) (h : Goes EE (Holds EE) u28Ts 0 ds d) : Holds EE 28 ds d :=
  holds_of he (envFunc (c := bodyOf Tryz.f28) Tryz.func28 rfl ((Prod.mk.inj (nx1 (nx1 (nx4 (nx4 (nx16 allL)))))).1)) (c := bodyOf Tryz.f28) rfl hn ((Prod.mk.inj (nx4 (nx4 (nx16 allL)))).1) (by rw [(Prod.mk.inj (nx1 (nx4 (nx4 (nx16 allL))))).1]; exact tabC rfl <| tabC rfl <| tabC rfl <| tabC rfl <| tabN) h
theorem u29 {ds : List D} {d : D} (hn : ds.length = 2) (h : Goes EE (Holds EE) u29Ts 0 ds d) : Holds EE 29 ds d :=
  holds_of he (envFunc (c := bodyOf Tryz.f29) Tryz.func29 rfl ((Prod.mk.inj (nx1 (nx4 (nx4 (nx4 (nx16 allL)))))).1)) (c := bodyOf Tryz.f29) rfl hn ((Prod.mk.inj (nx1 (nx1 (nx1 (nx4 (nx4 (nx16 allL))))))).1) (by rw [(Prod.mk.inj (nx4 (nx4 (nx4 (nx16 allL))))).1]; exact tabC rfl <| tabC rfl <| tabC rfl <| tabN) h
theorem u30 {ds : List D} {d : D} (hn : ds.length = 1) (h : Goes EE (Holds EE) u30Ts 0 ds d) : Holds EE 30 ds d :=
  holds_of he (envFunc (c := bodyOf Tryz.f30) Tryz.func30 rfl ((Prod.mk.inj (nx16 (nx16 allL))).1)) (c := bodyOf Tryz.f30) rfl hn ((Prod.mk.inj (nx1 (nx1 (nx4 (nx4 (nx4 (nx16 allL))))))).1) (by rw [(Prod.mk.inj (nx1 (nx1 (nx1 (nx4 (nx4 (nx4 (nx16 allL)))))))).1]; exact tabC rfl <| tabC rfl <| tabC rfl <| tabN) h
theorem u31 {ds : List D} {d : D} (hn : ds.length = 1) (h : Goes EE (Holds EE) u31Ts 0 ds d) : Holds EE 31 ds d :=
  holds_of he (envFunc (c := bodyOf Tryz.f31) Tryz.func31 rfl ((Prod.mk.inj (nx1 (nx1 (nx1 (nx16 (nx16 allL)))))).1)) (c := bodyOf Tryz.f31) rfl hn ((Prod.mk.inj (nx1 (nx16 (nx16 allL)))).1) (by rw [(Prod.mk.inj (nx1 (nx1 (nx16 (nx16 allL))))).1]; exact tabC rfl <| tabC rfl <| tabN) h
theorem u41 {ds : List D} {d : D} (hn : ds.length = 1) (h : Goes EE (Holds EE) u41Ts 0 ds d) : Holds EE 41 ds d :=
  holds_of he (envFunc (c := bodyOf Tryz.f41) Tryz.func41 rfl ((Prod.mk.inj (nx1 (nx1 (nx4 (nx16 (nx16 allL)))))).1)) (c := bodyOf Tryz.f41) rfl hn ((Prod.mk.inj (nx4 (nx16 (nx16 allL)))).1) (by rw [(Prod.mk.inj (nx1 (nx4 (nx16 (nx16 allL))))).1]; exact tabC rfl <| tabN) h
theorem u42 {ds : List D} {d : D} (hn : ds.length = 1) (h : Goes EE (Holds EE) u42Ts 0 ds d) : Holds EE 42 ds d :=
  holds_of he (envFunc (c := bodyOf Tryz.f42) Tryz.func42 rfl ((Prod.mk.inj (nx1 (nx4 (nx4 (nx16 (nx16 allL)))))).1)) (c := bodyOf Tryz.f42) rfl hn ((Prod.mk.inj (nx1 (nx1 (nx1 (nx4 (nx16 (nx16 allL))))))).1) (by rw [(Prod.mk.inj (nx4 (nx4 (nx16 (nx16 allL))))).1]; exact tabC rfl <| tabN) h
theorem u43 {ds : List D} {d : D} (hn : ds.length = 3) (h : Goes EE (Holds EE) u43Ts 0 ds d) : Holds EE 43 ds d :=
  holds_of he (envFunc (c := bodyOf Tryz.f43) Tryz.func43 rfl ((Prod.mk.inj (nx4 (nx4 (nx4 (nx16 (nx16 allL)))))).1)) (c := bodyOf Tryz.f43) rfl hn ((Prod.mk.inj (nx1 (nx1 (nx4 (nx4 (nx16 (nx16 allL))))))).1) (by rw [(Prod.mk.inj (nx1 (nx1 (nx1 (nx4 (nx4 (nx16 (nx16 allL)))))))).1]; exact tabC rfl <| tabC rfl <| tabN) h
theorem u44 {ds : List D} {d : D} (hn : ds.length = 1) (h : Goes EE (Holds EE) u44Ts 0 ds d) : Holds EE 44 ds d :=
  holds_of he (envFunc (c := bodyOf Tryz.f44) Tryz.func44 rfl ((Prod.mk.inj (nx1 (nx1 (nx1 (nx4 (nx4 (nx4 (nx16 (nx16 allL))))))))).1)) (c := bodyOf Tryz.f44) rfl hn ((Prod.mk.inj (nx1 (nx4 (nx4 (nx4 (nx16 (nx16 allL))))))).1) (by rw [(Prod.mk.inj (nx1 (nx1 (nx4 (nx4 (nx4 (nx16 (nx16 allL)))))))).1]; exact tabC rfl <| tabN) h
theorem u45 {ds : List D} {d : D} (hn : ds.length = 2) (h : Goes EE (Holds EE) u45Ts 0 ds d) : Holds EE 45 ds d :=
  holds_of he (envFunc (c := bodyOf Tryz.f45) Tryz.func45 rfl ((Prod.mk.inj (nx1 (nx1 (nx16 (nx16 (nx16 allL)))))).1)) (c := bodyOf Tryz.f45) rfl hn ((Prod.mk.inj (nx16 (nx16 (nx16 allL)))).1) (by rw [(Prod.mk.inj (nx1 (nx16 (nx16 (nx16 allL))))).1]; exact tabC rfl <| tabN) h
theorem u46 {ds : List D} {d : D} (hn : ds.length = 2) (h : Goes EE (Holds EE) u46Ts 0 ds d) : Holds EE 46 ds d :=
  holds_of he (envFunc (c := bodyOf Tryz.f46) Tryz.func46 rfl ((Prod.mk.inj (nx1 (nx4 (nx16 (nx16 (nx16 allL)))))).1)) (c := bodyOf Tryz.f46) rfl hn ((Prod.mk.inj (nx1 (nx1 (nx1 (nx16 (nx16 (nx16 allL))))))).1) (by rw [(Prod.mk.inj (nx4 (nx16 (nx16 (nx16 allL))))).1]; exact tabC rfl <| tabN) h
theorem u47 {ds : List D} {d : D} (hn : ds.length = 2) (h : Goes EE (Holds EE) u47Ts 0 ds d) : Holds EE 47 ds d :=
  holds_of he (envFunc (c := bodyOf Tryz.f47) Tryz.func47 rfl ((Prod.mk.inj (nx4 (nx4 (nx16 (nx16 (nx16 allL)))))).1)) (c := bodyOf Tryz.f47) rfl hn ((Prod.mk.inj (nx1 (nx1 (nx4 (nx16 (nx16 (nx16 allL))))))).1) (by rw [(Prod.mk.inj (nx1 (nx1 (nx1 (nx4 (nx16 (nx16 (nx16 allL)))))))).1]; exact tabN) h
theorem u48 {ds : List D} {d : D} (hn : ds.length = 2) (h : Goes EE (Holds EE) u48Ts 0 ds d) : Holds EE 48 ds d :=
  holds_of he (envFunc (c := bodyOf Tryz.f48) Tryz.func48 rfl ((Prod.mk.inj (nx1 (nx1 (nx1 (nx4 (nx4 (nx16 (nx16 (nx16 allL))))))))).1)) (c := bodyOf Tryz.f48) rfl hn ((Prod.mk.inj (nx1 (nx4 (nx4 (nx16 (nx16 (nx16 allL))))))).1) (by rw [(Prod.mk.inj (nx1 (nx1 (nx4 (nx4 (nx16 (nx16 (nx16 allL)))))))).1]; exact tabN) h
theorem u49 {ds : List D} {d : D} (hn : ds.length = 2) (h : Goes EE (Holds EE) u49Ts 0 ds d) : Holds EE 49 ds d :=
  holds_of he (envFunc (c := bodyOf Tryz.f49) Tryz.func49 rfl ((Prod.mk.inj (nx1 (nx1 (nx4 (nx4 (nx4 (nx16 (nx16 (nx16 allL))))))))).1)) (c := bodyOf Tryz.f49) rfl hn ((Prod.mk.inj (nx4 (nx4 (nx4 (nx16 (nx16 (nx16 allL))))))).1) (by rw [(Prod.mk.inj (nx1 (nx4 (nx4 (nx4 (nx16 (nx16 (nx16 allL)))))))).1]; exact tabN) h
theorem u50 {ds : List D} {d : D} (hn : ds.length = 1) (h : Goes EE (Holds EE) u50Ts 0 ds d) : Holds EE 50 ds d :=
  holds_of he (envFunc (c := bodyOf Tryz.f50) Tryz.func50 rfl ((Prod.mk.inj (nx1 (nx16 (nx16 (nx16 (nx16 allL)))))).1)) (c := bodyOf Tryz.f50) rfl hn ((Prod.mk.inj (nx1 (nx1 (nx1 (nx4 (nx4 (nx4 (nx16 (nx16 (nx16 allL)))))))))).1) (by rw [(Prod.mk.inj (nx16 (nx16 (nx16 (nx16 allL))))).1]; exact tabN) h
theorem u51 {ds : List D} {d : D} (hn : ds.length = 2) (h : Goes EE (Holds EE) u51Ts 0 ds d) : Holds EE 51 ds d :=
  holds_of he (envFunc (c := bodyOf Tryz.f51) Tryz.func51 rfl ((Prod.mk.inj (nx4 (nx16 (nx16 (nx16 (nx16 allL)))))).1)) (c := bodyOf Tryz.f51) rfl hn ((Prod.mk.inj (nx1 (nx1 (nx16 (nx16 (nx16 (nx16 allL))))))).1) (by rw [(Prod.mk.inj (nx1 (nx1 (nx1 (nx16 (nx16 (nx16 (nx16 allL)))))))).1]; exact tabC rfl <| tabN) h
theorem u52 {ds : List D} {d : D} (hn : ds.length = 2) (h : Goes EE (Holds EE) u52Ts 0 ds d) : Holds EE 52 ds d :=
  holds_of he (envFunc (c := bodyOf Tryz.f52) Tryz.func52 rfl ((Prod.mk.inj (nx1 (nx1 (nx1 (nx4 (nx16 (nx16 (nx16 (nx16 allL))))))))).1)) (c := bodyOf Tryz.f52) rfl hn ((Prod.mk.inj (nx1 (nx4 (nx16 (nx16 (nx16 (nx16 allL))))))).1) (by rw [(Prod.mk.inj (nx1 (nx1 (nx4 (nx16 (nx16 (nx16 (nx16 allL)))))))).1]; exact tabC rfl <| tabN) h
theorem u53 {ds : List D} {d : D} (hn : ds.length = 2) (h : Goes EE (Holds EE) u53Ts 0 ds d) : Holds EE 53 ds d :=
  holds_of he (envFunc (c := bodyOf Tryz.f53) Tryz.func53 rfl ((Prod.mk.inj (nx1 (nx1 (nx4 (nx4 (nx16 (nx16 (nx16 (nx16 allL))))))))).1)) (c := bodyOf Tryz.f53) rfl hn ((Prod.mk.inj (nx4 (nx4 (nx16 (nx16 (nx16 (nx16 allL))))))).1) (by rw [(Prod.mk.inj (nx1 (nx4 (nx4 (nx16 (nx16 (nx16 (nx16 allL)))))))).1]; exact tabC rfl <| tabN) h
theorem u54 {ds : List D} {d : D} (hn : ds.length = 3) (h : Goes EE (Holds EE) u54Ts 0 ds d) : Holds EE 54 ds d :=
  holds_of he (envFunc (c := bodyOf Tryz.f54) Tryz.func54 rfl ((Prod.mk.inj (nx1 (nx4 (nx4 (nx4 (nx16 (nx16 (nx16 (nx16 allL))))))))).1)) (c := bodyOf Tryz.f54) rfl hn ((Prod.mk.inj (nx1 (nx1 (nx1 (nx4 (nx4 (nx16 (nx16 (nx16 (nx16 allL)))))))))).1) (by rw [(Prod.mk.inj (nx4 (nx4 (nx4 (nx16 (nx16 (nx16 (nx16 allL)))))))).1]; exact tabC rfl <| tabC rfl <| tabC rfl <| tabC rfl <| tabN) h
theorem u55 {ds : List D} {d : D} (hn : ds.length = 2) (h : Goes EE (Holds EE) u55Ts 0 ds d) : Holds EE 55 ds d :=
  holds_of he (envFunc (c := bodyOf Tryz.f55) Tryz.func55 rfl ((Prod.mk.inj (nx16 (nx16 (nx16 (nx16 (nx16 allL)))))).1)) (c := bodyOf Tryz.f55) rfl hn ((Prod.mk.inj (nx1 (nx1 (nx4 (nx4 (nx4 (nx16 (nx16 (nx16 (nx16 allL)))))))))).1) (by rw [(Prod.mk.inj (nx1 (nx1 (nx1 (nx4 (nx4 (nx4 (nx16 (nx16 (nx16 (nx16 allL))))))))))).1]; exact tabC rfl <| tabN) h
theorem u56 {ds : List D} {d : D} (hn : ds.length = 2) (h : Goes EE (Holds EE) u56Ts 0 ds d) : Holds EE 56 ds d :=
  holds_of he (envFunc (c := bodyOf Tryz.f56) Tryz.func56 rfl ((Prod.mk.inj (nx1 (nx1 (nx1 (nx16 (nx16 (nx16 (nx16 (nx16 allL))))))))).1)) (c := bodyOf Tryz.f56) rfl hn ((Prod.mk.inj (nx1 (nx16 (nx16 (nx16 (nx16 (nx16 allL))))))).1) (by rw [(Prod.mk.inj (nx1 (nx1 (nx16 (nx16 (nx16 (nx16 (nx16 allL)))))))).1]; exact tabC rfl <| tabN) h
theorem u69 {ds : List D} {d : D} (hn : ds.length = 1) (h : Goes EE (Holds EE) u69Ts 0 ds d) : Holds EE 69 ds d :=
  holds_of he (envFunc (c := bodyOf Tryz.f69) Tryz.func69 rfl ((Prod.mk.inj (nx1 (nx1 (nx4 (nx16 (nx16 (nx16 (nx16 (nx16 allL))))))))).1)) (c := bodyOf Tryz.f69) rfl hn ((Prod.mk.inj (nx4 (nx16 (nx16 (nx16 (nx16 (nx16 allL))))))).1) (by rw [(Prod.mk.inj (nx1 (nx4 (nx16 (nx16 (nx16 (nx16 (nx16 allL)))))))).1]; exact tabC rfl <| tabN) h
theorem u70 {ds : List D} {d : D} (hn : ds.length = 2) (h : Goes EE (Holds EE) u70Ts 0 ds d) : Holds EE 70 ds d :=
  holds_of he (envFunc (c := bodyOf Tryz.f70) Tryz.func70 rfl ((Prod.mk.inj (nx1 (nx4 (nx4 (nx16 (nx16 (nx16 (nx16 (nx16 allL))))))))).1)) (c := bodyOf Tryz.f70) rfl hn ((Prod.mk.inj (nx1 (nx1 (nx1 (nx4 (nx16 (nx16 (nx16 (nx16 (nx16 allL)))))))))).1) (by rw [(Prod.mk.inj (nx4 (nx4 (nx16 (nx16 (nx16 (nx16 (nx16 allL)))))))).1]; exact tabN) h
theorem u71 {ds : List D} {d : D} (hn : ds.length = 1) (h : Goes EE (Holds EE) u71Ts 0 ds d) : Holds EE 71 ds d :=
  holds_of he (envFunc (c := bodyOf Tryz.f71) Tryz.func71 rfl ((Prod.mk.inj (nx4 (nx4 (nx4 (nx16 (nx16 (nx16 (nx16 (nx16 allL))))))))).1)) (c := bodyOf Tryz.f71) rfl hn ((Prod.mk.inj (nx1 (nx1 (nx4 (nx4 (nx16 (nx16 (nx16 (nx16 (nx16 allL)))))))))).1) (by rw [(Prod.mk.inj (nx1 (nx1 (nx1 (nx4 (nx4 (nx16 (nx16 (nx16 (nx16 (nx16 allL))))))))))).1]; exact tabC rfl <| tabN) h
theorem u72 {ds : List D} {d : D} (hn : ds.length = 2) (h : Goes EE (Holds EE) u72Ts 0 ds d) : Holds EE 72 ds d :=
  holds_of he (envFunc (c := bodyOf Tryz.f72) Tryz.func72 rfl ((Prod.mk.inj (nx1 (nx1 (nx1 (nx4 (nx4 (nx4 (nx16 (nx16 (nx16 (nx16 (nx16 allL)))))))))))).1)) (c := bodyOf Tryz.f72) rfl hn ((Prod.mk.inj (nx1 (nx4 (nx4 (nx4 (nx16 (nx16 (nx16 (nx16 (nx16 allL)))))))))).1) (by rw [(Prod.mk.inj (nx1 (nx1 (nx4 (nx4 (nx4 (nx16 (nx16 (nx16 (nx16 (nx16 allL))))))))))).1]; exact tabC rfl <| tabC rfl <| tabN) h
theorem u73 {ds : List D} {d : D} (hn : ds.length = 1) (h : Goes EE (Holds EE) u73Ts 0 ds d) : Holds EE 73 ds d :=
  holds_of he (envFunc (c := bodyOf Tryz.f73) Tryz.func73 rfl ((Prod.mk.inj (nx1 (nx1 (nx16 (nx16 (nx16 (nx16 (nx16 (nx16 allL))))))))).1)) (c := bodyOf Tryz.f73) rfl hn ((Prod.mk.inj (nx16 (nx16 (nx16 (nx16 (nx16 (nx16 allL))))))).1) (by rw [(Prod.mk.inj (nx1 (nx16 (nx16 (nx16 (nx16 (nx16 (nx16 allL)))))))).1]; exact tabC rfl <| tabN) h
theorem u74 {ds : List D} {d : D} (hn : ds.length = 1) (h : Goes EE (Holds EE) u74Ts 0 ds d) : Holds EE 74 ds d :=
  holds_of he (envFunc (c := bodyOf Tryz.f74) Tryz.func74 rfl ((Prod.mk.inj (nx1 (nx4 (nx16 (nx16 (nx16 (nx16 (nx16 (nx16 allL))))))))).1)) (c := bodyOf Tryz.f74) rfl hn ((Prod.mk.inj (nx1 (nx1 (nx1 (nx16 (nx16 (nx16 (nx16 (nx16 (nx16 allL)))))))))).1) (by rw [(Prod.mk.inj (nx4 (nx16 (nx16 (nx16 (nx16 (nx16 (nx16 allL)))))))).1]; exact tabC rfl <| tabN) h
theorem u75 {ds : List D} {d : D} (hn : ds.length = 2) (h : Goes EE (Holds EE) u75Ts 0 ds d) : Holds EE 75 ds d :=
  holds_of he (envFunc (c := bodyOf Tryz.f75) Tryz.func75 rfl ((Prod.mk.inj (nx4 (nx4 (nx16 (nx16 (nx16 (nx16 (nx16 (nx16 allL))))))))).1)) (c := bodyOf Tryz.f75) rfl hn ((Prod.mk.inj (nx1 (nx1 (nx4 (nx16 (nx16 (nx16 (nx16 (nx16 (nx16 allL)))))))))).1) (by rw [(Prod.mk.inj (nx1 (nx1 (nx1 (nx4 (nx16 (nx16 (nx16 (nx16 (nx16 (nx16 allL))))))))))).1]; exact tabC rfl <| tabN) h
theorem u84 {ds : List D} {d : D} (hn : ds.length = 2) (h : Goes EE (Holds EE) u84Ts 0 ds d) : Holds EE 84 ds d :=
  holds_of he (envFunc (c := bodyOf Tryz.f84) Tryz.func84 rfl ((Prod.mk.inj (nx1 (nx1 (nx1 (nx4 (nx4 (nx16 (nx16 (nx16 (nx16 (nx16 (nx16 allL)))))))))))).1)) (c := bodyOf Tryz.f84) rfl hn ((Prod.mk.inj (nx1 (nx4 (nx4 (nx16 (nx16 (nx16 (nx16 (nx16 (nx16 allL)))))))))).1) (by rw [(Prod.mk.inj (nx1 (nx1 (nx4 (nx4 (nx16 (nx16 (nx16 (nx16 (nx16 (nx16 allL))))))))))).1]; exact tabC rfl <| tabN) h
theorem u85 {ds : List D} {d : D} (hn : ds.length = 2) (h : Goes EE (Holds EE) u85Ts 0 ds d) : Holds EE 85 ds d :=
  holds_of he (envFunc (c := bodyOf Tryz.f85) Tryz.func85 rfl ((Prod.mk.inj (nx1 (nx1 (nx4 (nx4 (nx4 (nx16 (nx16 (nx16 (nx16 (nx16 (nx16 allL)))))))))))).1)) (c := bodyOf Tryz.f85) rfl hn ((Prod.mk.inj (nx4 (nx4 (nx4 (nx16 (nx16 (nx16 (nx16 (nx16 (nx16 allL)))))))))).1) (by rw [(Prod.mk.inj (nx1 (nx4 (nx4 (nx4 (nx16 (nx16 (nx16 (nx16 (nx16 (nx16 allL))))))))))).1]; exact tabC rfl <| tabN) h
theorem u86 {ds : List D} {d : D} (hn : ds.length = 1) (h : Goes EE (Holds EE) u86Ts 0 ds d) : Holds EE 86 ds d :=
  holds_of he (envFunc (c := bodyOf Tryz.f86) Tryz.func86 rfl ((Prod.mk.inj (nx1 (nx16 (nx16 (nx16 (nx16 (nx16 (nx16 (nx16 allL))))))))).1)) (c := bodyOf Tryz.f86) rfl hn ((Prod.mk.inj (nx1 (nx1 (nx1 (nx4 (nx4 (nx4 (nx16 (nx16 (nx16 (nx16 (nx16 (nx16 allL))))))))))))).1) (by rw [(Prod.mk.inj (nx16 (nx16 (nx16 (nx16 (nx16 (nx16 (nx16 allL)))))))).1]; exact tabN) h
theorem u87 {ds : List D} {d : D} (hn : ds.length = 2) (h : Goes EE (Holds EE) u87Ts 0 ds d) : Holds EE 87 ds d :=
  holds_of he (envFunc (c := bodyOf Tryz.f87) Tryz.func87 rfl ((Prod.mk.inj (nx4 (nx16 (nx16 (nx16 (nx16 (nx16 (nx16 (nx16 allL))))))))).1)) (c := bodyOf Tryz.f87) rfl hn ((Prod.mk.inj (nx1 (nx1 (nx16 (nx16 (nx16 (nx16 (nx16 (nx16 (nx16 allL)))))))))).1) (by rw [(Prod.mk.inj (nx1 (nx1 (nx1 (nx16 (nx16 (nx16 (nx16 (nx16 (nx16 (nx16 allL))))))))))).1]; exact tabC rfl <| tabN) h
theorem u88 {ds : List D} {d : D} (hn : ds.length = 2) (h : Goes EE (Holds EE) u88Ts 0 ds d) : Holds EE 88 ds d :=
  holds_of he (envFunc (c := bodyOf Tryz.f88) Tryz.func88 rfl ((Prod.mk.inj (nx1 (nx1 (nx1 (nx4 (nx16 (nx16 (nx16 (nx16 (nx16 (nx16 (nx16 allL)))))))))))).1)) (c := bodyOf Tryz.f88) rfl hn ((Prod.mk.inj (nx1 (nx4 (nx16 (nx16 (nx16 (nx16 (nx16 (nx16 (nx16 allL)))))))))).1) (by rw [(Prod.mk.inj (nx1 (nx1 (nx4 (nx16 (nx16 (nx16 (nx16 (nx16 (nx16 (nx16 allL))))))))))).1]; exact tabN) h
theorem u89 {ds : List D} {d : D} (hn : ds.length = 1) (h : Goes EE (Holds EE) u89Ts 0 ds d) : Holds EE 89 ds d :=
  holds_of he (envFunc (c := bodyOf Tryz.f89) Tryz.func89 rfl ((Prod.mk.inj (nx1 (nx1 (nx4 (nx4 (nx16 (nx16 (nx16 (nx16 (nx16 (nx16 (nx16 allL)))))))))))).1)) (c := bodyOf Tryz.f89) rfl hn ((Prod.mk.inj (nx4 (nx4 (nx16 (nx16 (nx16 (nx16 (nx16 (nx16 (nx16 allL)))))))))).1) (by rw [(Prod.mk.inj (nx1 (nx4 (nx4 (nx16 (nx16 (nx16 (nx16 (nx16 (nx16 (nx16 allL))))))))))).1]; exact tabN) h
theorem u90 {ds : List D} {d : D} (hn : ds.length = 2) (h : Goes EE (Holds EE) u90Ts 0 ds d) : Holds EE 90 ds d :=
  holds_of he (envFunc (c := bodyOf Tryz.f90) Tryz.func90 rfl ((Prod.mk.inj (nx1 (nx4 (nx4 (nx4 (nx16 (nx16 (nx16 (nx16 (nx16 (nx16 (nx16 allL)))))))))))).1)) (c := bodyOf Tryz.f90) rfl hn ((Prod.mk.inj (nx1 (nx1 (nx1 (nx4 (nx4 (nx16 (nx16 (nx16 (nx16 (nx16 (nx16 (nx16 allL))))))))))))).1) (by rw [(Prod.mk.inj (nx4 (nx4 (nx4 (nx16 (nx16 (nx16 (nx16 (nx16 (nx16 (nx16 allL))))))))))).1]; exact tabN) h
theorem u96 {ds : List D} {d : D} (hn : ds.length = 1) (h : Goes EE (Holds EE) u96Ts 0 ds d) : Holds EE 96 ds d :=
  holds_of he (envFunc (c := bodyOf Tryz.f96) Tryz.func96 rfl ((Prod.mk.inj (nx16 (nx16 (nx16 (nx16 (nx16 (nx16 (nx16 (nx16 allL))))))))).1)) (c := bodyOf Tryz.f96) rfl hn ((Prod.mk.inj (nx1 (nx1 (nx4 (nx4 (nx4 (nx16 (nx16 (nx16 (nx16 (nx16 (nx16 (nx16 allL))))))))))))).1) (by rw [(Prod.mk.inj (nx1 (nx1 (nx1 (nx4 (nx4 (nx4 (nx16 (nx16 (nx16 (nx16 (nx16 (nx16 (nx16 allL)))))))))))))).1]; exact tabN) h
theorem u97 {ds : List D} {d : D} (hn : ds.length = 1) (h : Goes EE (Holds EE) u97Ts 0 ds d) : Holds EE 97 ds d :=
  holds_of he (envFunc (c := bodyOf Tryz.f97) Tryz.func97 rfl ((Prod.mk.inj (nx1 (nx1 (nx1 (nx16 (nx16 (nx16 (nx16 (nx16 (nx16 (nx16 (nx16 allL)))))))))))).1)) (c := bodyOf Tryz.f97) rfl hn ((Prod.mk.inj (nx1 (nx16 (nx16 (nx16 (nx16 (nx16 (nx16 (nx16 (nx16 allL)))))))))).1) (by rw [(Prod.mk.inj (nx1 (nx1 (nx16 (nx16 (nx16 (nx16 (nx16 (nx16 (nx16 (nx16 allL))))))))))).1]; exact tabN) h
theorem u98 {ds : List D} {d : D} (hn : ds.length = 1) (h : Goes EE (Holds EE) u98Ts 0 ds d) : Holds EE 98 ds d :=
  holds_of he (envFunc (c := bodyOf Tryz.f98) Tryz.func98 rfl ((Prod.mk.inj (nx1 (nx1 (nx4 (nx16 (nx16 (nx16 (nx16 (nx16 (nx16 (nx16 (nx16 allL)))))))))))).1)) (c := bodyOf Tryz.f98) rfl hn ((Prod.mk.inj (nx4 (nx16 (nx16 (nx16 (nx16 (nx16 (nx16 (nx16 (nx16 allL)))))))))).1) (by rw [(Prod.mk.inj (nx1 (nx4 (nx16 (nx16 (nx16 (nx16 (nx16 (nx16 (nx16 (nx16 allL))))))))))).1]; exact tabC rfl <| tabN) h
theorem u99 {ds : List D} {d : D} (hn : ds.length = 1) (h : Goes EE (Holds EE) u99Ts 0 ds d) : Holds EE 99 ds d :=
  holds_of he (envFunc (c := bodyOf Tryz.f99) Tryz.func99 rfl ((Prod.mk.inj (nx1 (nx4 (nx4 (nx16 (nx16 (nx16 (nx16 (nx16 (nx16 (nx16 (nx16 allL)))))))))))).1)) (c := bodyOf Tryz.f99) rfl hn ((Prod.mk.inj (nx1 (nx1 (nx1 (nx4 (nx16 (nx16 (nx16 (nx16 (nx16 (nx16 (nx16 (nx16 allL))))))))))))).1) (by rw [(Prod.mk.inj (nx4 (nx4 (nx16 (nx16 (nx16 (nx16 (nx16 (nx16 (nx16 (nx16 allL))))))))))).1]; exact tabC rfl <| tabN) h
theorem u100 {ds : List D} {d : D} (hn : ds.length = 2) (h : Goes EE (Holds EE) u100Ts 0 ds d) : Holds EE 100 ds d :=
  holds_of he (envFunc (c := bodyOf Tryz.f100) Tryz.func100 rfl ((nx4 (nx4 (nx4 (nx16 (nx16 (nx16 (nx16 (nx16 (nx16 (nx16 (nx16 allL))))))))))))) (c := bodyOf Tryz.f100) rfl hn ((Prod.mk.inj (nx1 (nx1 (nx4 (nx4 (nx16 (nx16 (nx16 (nx16 (nx16 (nx16 (nx16 (nx16 allL))))))))))))).1) (by rw [(Prod.mk.inj (nx1 (nx1 (nx1 (nx4 (nx4 (nx16 (nx16 (nx16 (nx16 (nx16 (nx16 (nx16 (nx16 allL)))))))))))))).1]; exact tabC rfl <| tabN) h
end Go.Proofs.YtonebjbldlokmaaGreat
