/- Trees of functions. Conditions: none. -/
import Derived.Test.YtindbmgnapmdmaaGreatDoorWa
namespace Go.Proofs.YtindbmgnapmdmaaGreatDoor
open Go Go.Am Go.Proofs
/-! 3 langdoc/langdoclaw48.WithdrawSames params #[47, 47] -/
def u3P : Nat → Pat
  | _ => ⟨[], [], []⟩
def u3T0 : Tree :=
  .bind (.chk true 16) [.v 0] <|
  .bind (.chk true 16) [.v 1] <|
  .call (.fn 4) [.v 2] 1 <|
  .bind (.un .not 4) [.v 4] <|
  .ite (.v 5) (
    .call (.fn 5) [] 1 <|
    .ret [.v 6]) (
    .call (.fn 4) [.v 3] 1 <|
    .bind (.un .not 4) [.v 6] <|
    .ite (.v 7) (
      .call (.fn 5) [] 1 <|
      .ret [.v 8]) (
      .call (.fn 6) [.v 2, .v 3] 1 <|
      .call (.fn 7) [.v 2, .v 3] 1 <|
      .bind (.bin .eql 4 (.tmp 16) (.tmp 19)) [.v 8, .v 9] <|
      .ite (.v 10) (
        .call (.fn 6) [.v 2, .v 2] 1 <|
        .ite (.v 11) (
          .call (.fn 5) [] 1 <|
          .ret [.v 12]) (
          .ret [.c (.bool false)])) (
        .ret [.c (.bool false)])))
def u3Ts : Nat → Tree
  | 0 => u3T0
  | _ => .fail
/-! 4 langdoc/langdoclaw48.short params #[47] -/
def u4P : Nat → Pat
  | 1 => ⟨[⟨.pure, true⟩, ⟨.pure, false⟩], [(1, .loc 0 0), (3, .v 0)], [some (.whole (.v 1) 16)]⟩
  | _ => ⟨[], [], []⟩
def u4T0 : Tree :=
  .bind (.chk true 16) [.v 0] <|
  fl' 8 1 <|
  ln' 2 <|
  .bind (.bin .gtr 3 (.tmp 7) (K' 110)) [.v 3, k' 110] <|
  .ite (.v 4) (
    .ret [.c (.bool false)]) (
    fl' 9 1 <|
    ln' 5 <|
    .bind (.bin .gtr 3 (.tmp 12) (K' 14)) [.v 6, k' 14] <|
    .ite (.v 7) (
      .ret [.c (.bool false)]) (
      fl' 10 1 <|
      ln' 8 <|
      .bind (.bin .gtr 3 (.tmp 18) (K' 40)) [.v 9, k' 40] <|
      .ite (.v 10) (
        .ret [.c (.bool false)]) (
        fl' 11 1 <|
        ln' 11 <|
        .bind (.bin .gtr 3 (.tmp 24) (K' 50)) [.v 12, k' 50] <|
        .ite (.v 13) (
          .ret [.c (.bool false)]) (
          fl' 15 1 <|
          ln' 14 <|
          .bind (.bin .gtr 3 (.tmp 31) (K' 70)) [.v 15, k' 70] <|
          .ite (.v 16) (
            .ret [.c (.bool false)]) (
            .jump 1 [k' 0, .v 1])))))
def u4T1 : Tree :=
  fl' 9 1 <|
  ln' 2 <|
  .bind (.bin .lss 3 (.tmp 34) (.tmp 37)) [.v 0, .v 3] <|
  .ite (.v 4) (
    fl' 9 1 <|
    ir' 5 0 <|
    .bind (.elem 7 false 1 6) [.v 5, .v 0] <|
    ln' 7 <|
    .bind (.bin .gtr 3 (.tmp 47) (K' 310)) [.v 8, k' 310] <|
    .ite (.v 9) (
      .ret [.c (.bool false)]) (
      .bind (.bin .add 3 (.tmp 39) (K' 1)) [.v 0, k' 1] <|
      .jump 1 [.v 10, .v 1])) (
    .ret [.c (.bool true)])
def u4Ts : Nat → Tree
  | 0 => u4T0
  | 1 => u4T1
  | _ => .fail
/-! 6 langdoc/withdraw.Same params #[47, 47] -/
def u6P : Nat → Pat
  | _ => ⟨[], [], []⟩
def u6T0 : Tree :=
  .bind (.chk true 16) [.v 0] <|
  .bind (.chk true 16) [.v 1] <|
  .bind (.fld true 9 0) [.v 2] <|
  .bind (.fld true 9 0) [.v 3] <|
  .call (.fn 14) [.v 4, .v 5] 1 <|
  .ite (.v 6) (
    fl' 9 2 <|
    fl' 9 3 <|
    .call (.fn 15) [.v 7, .v 8, .fn (.func 16) [] []] 1 <|
    .ite (.v 9) (
      fl' 10 2 <|
      fl' 10 3 <|
      .call (.fn 17) [.v 10, .v 11] 1 <|
      .ite (.v 12) (
        fl' 11 2 <|
        fl' 11 3 <|
        .call (.fn 18) [.v 13, .v 14, .fn (.func 19) [] []] 1 <|
        .ite (.v 15) (
          .bind (.fld true 4 12) [.v 2] <|
          .bind (.fld true 4 12) [.v 3] <|
          .call (.fn 20) [.v 16, .v 17] 1 <|
          .ret [.v 18]) (
          .ret [.c (.bool false)])) (
        .ret [.c (.bool false)])) (
      .ret [.c (.bool false)])) (
    .ret [.c (.bool false)])
def u6Ts : Nat → Tree
  | 0 => u6T0
  | _ => .fail
/-! 7 langdoc/langdocref48.Same params #[47, 47] -/
def u7P : Nat → Pat
  | _ => ⟨[], [], []⟩
def u7T0 : Tree :=
  .bind (.chk true 16) [.v 0] <|
  .bind (.chk true 16) [.v 1] <|
  .bind (.fld true 9 0) [.v 2] <|
  .bind (.fld true 9 0) [.v 3] <|
  .call (.fn 21) [.v 4, .v 5] 1 <|
  .ite (.v 6) (
    fl' 9 2 <|
    fl' 9 3 <|
    .call (.fn 22) [.v 7, .v 8] 1 <|
    .ite (.v 9) (
      fl' 10 2 <|
      fl' 10 3 <|
      .call (.fn 23) [.v 10, .v 11] 1 <|
      .ite (.v 12) (
        fl' 11 2 <|
        fl' 11 3 <|
        .call (.fn 24) [.v 13, .v 14] 1 <|
        .ite (.v 15) (
          .bind (.fld true 4 12) [.v 2] <|
          .bind (.fld true 4 12) [.v 3] <|
          .call (.fn 25) [.v 16, .v 17] 1 <|
          .ret [.v 18]) (
          .ret [.c (.bool false)])) (
        .ret [.c (.bool false)])) (
      .ret [.c (.bool false)])) (
    .ret [.c (.bool false)])
def u7Ts : Nat → Tree
  | 0 => u7T0
  | _ => .fail
/-! 14 langdoc/withdraw.sameLang params #[36, 36] -/
def u14P : Nat → Pat
  | _ => ⟨[], [], []⟩
def u14T0 : Tree :=
  .bind (.chk true 9) [.v 0] <|
  .bind (.chk true 9) [.v 1] <|
  fl' 1 2 <|
  fl' 1 3 <|
  .bind (.bin .neq 9 (.tmp 9) (.tmp 12)) [.v 4, .v 5] <|
  .ite (.v 6) (
    .ret [.c (.bool false)]) (
    fl' 2 2 <|
    fl' 2 3 <|
    .call (.fn 48) [.v 7, .v 8, .fn (.func 44) [] []] 1 <|
    .bind (.un .not 4) [.v 9] <|
    .ite (.v 10) (
      .ret [.c (.bool false)]) (
      fl' 3 2 <|
      fl' 3 3 <|
      .call (.fn 49) [.v 11, .v 12, .fn (.func 50) [] []] 1 <|
      .bind (.un .not 4) [.v 13] <|
      .ite (.v 14) (
        .ret [.c (.bool false)]) (
        fl' 5 2 <|
        fl' 5 3 <|
        .bind (.bin .neq 3 (.tmp 37) (.tmp 40)) [.v 15, .v 16] <|
        .ite (.v 17) (
          .ret [.c (.bool false)]) (
          fl' 6 2 <|
          fl' 6 3 <|
          .call (.fn 51) [.v 18, .v 19] 1 <|
          .bind (.un .not 4) [.v 20] <|
          .ite (.v 21) (
            .ret [.c (.bool false)]) (
            fl' 7 2 <|
            fl' 7 3 <|
            .call (.fn 45) [.v 22, .v 23] 1 <|
            .bind (.un .not 4) [.v 24] <|
            .ite (.v 25) (
              .ret [.c (.bool false)]) (
              fl' 0 2 <|
              fl' 0 3 <|
              .call (.fn 52) [.v 26, .v 27] 1 <|
              .ite (.v 28) (
                fl' 4 2 <|
                fl' 4 3 <|
                .call (.fn 53) [.v 29, .v 30, .fn (.func 46) [] []] 1 <|
                .ite (.v 31) (
                  fl' 8 2 <|
                  fl' 8 3 <|
                  .call (.fn 54) [.v 32, .v 33] 1 <|
                  .ret [.v 34]) (
                  .ret [.c (.bool false)])) (
                .ret [.c (.bool false)])))))))
def u14Ts : Nat → Tree
  | 0 => u14T0
  | _ => .fail
/-! 15 slices.EqualFunc[[]langdoc/api.Doc,[]langdoc/api.Doc,langdoc/api.Doc,langdoc/api.Doc] params #[37, 37, 78] -/
def u15P : Nat → Pat
  | 1 => ⟨[⟨.pure, false⟩, ⟨.pure, false⟩, ⟨.pure, false⟩, ⟨.pure, true⟩, ⟨.pure, true⟩], [(1, .v 0), (2, .v 1), (15, .v 2), (16, .v 3), (17, .v 4)], []⟩
  | _ => ⟨[], [], []⟩
def u15T0 : Tree :=
  ln' 0 <|
  ln' 1 <|
  .bind (.bin .neq 3 (.tmp 11) (.tmp 13)) [.v 3, .v 4] <|
  .ite (.v 5) (
    .ret [.c (.bool false)]) (
    ln' 0 <|
    .jump 1 [.v 1, .v 2, .v 0, .v 6, k' 0])
def u15T1 : Tree :=
  .bind (.bin .lss 3 (.tmp 17) (.tmp 16)) [.v 4, .v 3] <|
  .ite (.v 5) (
    ir' 2 4 <|
    .bind (.elem 7 true 7 0) [.v 2, .v 4] <|
    .bind (.chk true 7) [.v 7] <|
    ir' 0 4 <|
    .bind (.elem 7 true 7 0) [.v 0, .v 4] <|
    .bind (.chk true 7) [.v 10] <|
    .call (.val (.v 1)) [.v 1, .v 8, .v 11] 1 <|
    .bind (.un .not 4) [.v 12] <|
    .ite (.v 13) (
      .ret [.c (.bool false)]) (
      .bind (.bin .add 3 (.tmp 17) (K' 1)) [.v 4, k' 1] <|
      .jump 1 [.v 0, .v 1, .v 2, .v 3, .v 14])) (
    .ret [.c (.bool true)])
def u15Ts : Nat → Tree
  | 0 => u15T0
  | 1 => u15T1
  | _ => .fail
/-! 16 langdoc/tiers.Same params #[56, 56] -/
def u16P : Nat → Pat
  | _ => ⟨[], [], []⟩
def u16T0 : Tree :=
  .bind (.chk true 7) [.v 0] <|
  .bind (.chk true 7) [.v 1] <|
  fl' 4 2 <|
  fl' 4 3 <|
  .call (.fn 45) [.v 4, .v 5] 1 <|
  .bind (.un .not 4) [.v 6] <|
  .ite (.v 7) (
    .ret [.c (.bool false)]) (
    fl' 5 2 <|
    fl' 5 3 <|
    .call (.fn 55) [.v 8, .v 9] 1 <|
    .bind (.un .not 4) [.v 10] <|
    .ite (.v 11) (
      .ret [.c (.bool false)]) (
      fl' 6 2 <|
      fl' 6 3 <|
      .call (.fn 56) [.v 12, .v 13] 1 <|
      .bind (.un .not 4) [.v 14] <|
      .ite (.v 15) (
        .ret [.c (.bool false)]) (
        .bind (.fld true 5 0) [.v 2] <|
        .bind (.fld true 5 0) [.v 3] <|
        .bind (.chk true 5) [.v 16] <|
        .bind (.chk true 5) [.v 17] <|
        fl' 0 18 <|
        fl' 0 19 <|
        .bind (.bin .eql 3 (.tmp 36) (.tmp 38)) [.v 20, .v 21] <|
        .ite (.v 22) (
          fl' 1 18 <|
          fl' 1 19 <|
          .bind (.bin .eql 9 (.tmp 42) (.tmp 44)) [.v 23, .v 24] <|
          .ite (.v 25) (
            fl' 2 18 <|
            fl' 2 19 <|
            .bind (.bin .eql 3 (.tmp 49) (.tmp 51)) [.v 26, .v 27] <|
            .ite (.v 28) (
              fl' 3 18 <|
              fl' 3 19 <|
              .bind (.bin .eql 3 (.tmp 56) (.tmp 58)) [.v 29, .v 30] <|
              .ret [.v 31]) (
              .ret [.c (.bool false)])) (
            .ret [.c (.bool false)])) (
          .ret [.c (.bool false)]))))
def u16Ts : Nat → Tree
  | 0 => u16T0
  | _ => .fail
/-! 17 langdoc/decide.Same params #[38, 38] -/
def u17P : Nat → Pat
  | _ => ⟨[], [], []⟩
def u17T0 : Tree :=
  .call (.fn 57) [.v 0, .v 1, .fn (.func 58) [] []] 1 <|
  .ret [.v 2]
def u17Ts : Nat → Tree
  | 0 => u17T0
  | _ => .fail
/-! 18 slices.EqualFunc[[]langdoc/api.Point,[]langdoc/api.Point,langdoc/api.Point,langdoc/api.Point] params #[39, 39, 81] -/
def u18P : Nat → Pat
  | 1 => ⟨[⟨.pure, false⟩, ⟨.pure, false⟩, ⟨.pure, false⟩, ⟨.pure, true⟩, ⟨.pure, true⟩], [(1, .v 0), (2, .v 1), (15, .v 2), (16, .v 3), (17, .v 4)], []⟩
  | _ => ⟨[], [], []⟩
def u18T0 : Tree :=
  ln' 0 <|
  ln' 1 <|
  .bind (.bin .neq 3 (.tmp 11) (.tmp 13)) [.v 3, .v 4] <|
  .ite (.v 5) (
    .ret [.c (.bool false)]) (
    ln' 0 <|
    .jump 1 [.v 1, .v 2, .v 0, .v 6, k' 0])
def u18T1 : Tree :=
  .bind (.bin .lss 3 (.tmp 17) (.tmp 16)) [.v 4, .v 3] <|
  .ite (.v 5) (
    ir' 2 4 <|
    .bind (.elem 5 true 5 0) [.v 2, .v 4] <|
    .bind (.chk true 5) [.v 7] <|
    ir' 0 4 <|
    .bind (.elem 5 true 5 0) [.v 0, .v 4] <|
    .bind (.chk true 5) [.v 10] <|
    .call (.val (.v 1)) [.v 1, .v 8, .v 11] 1 <|
    .bind (.un .not 4) [.v 12] <|
    .ite (.v 13) (
      .ret [.c (.bool false)]) (
      .bind (.bin .add 3 (.tmp 17) (K' 1)) [.v 4, k' 1] <|
      .jump 1 [.v 0, .v 1, .v 2, .v 3, .v 14])) (
    .ret [.c (.bool true)])
def u18Ts : Nat → Tree
  | 0 => u18T0
  | 1 => u18T1
  | _ => .fail
/-! 19 langdoc/withdraw.samePoint params #[71, 71] -/
def u19P : Nat → Pat
  | _ => ⟨[], [], []⟩
def u19T0 : Tree :=
  .bind (.chk true 5) [.v 0] <|
  .bind (.chk true 5) [.v 1] <|
  fl' 0 2 <|
  fl' 0 3 <|
  .bind (.bin .eql 3 (.tmp 6) (.tmp 8)) [.v 4, .v 5] <|
  .ite (.v 6) (
    fl' 1 2 <|
    fl' 1 3 <|
    .bind (.bin .eql 9 (.tmp 12) (.tmp 14)) [.v 7, .v 8] <|
    .ite (.v 9) (
      fl' 2 2 <|
      fl' 2 3 <|
      .bind (.bin .eql 9 (.tmp 19) (.tmp 21)) [.v 10, .v 11] <|
      .ite (.v 12) (
        fl' 3 2 <|
        fl' 3 3 <|
        .call (.fn 45) [.v 13, .v 14] 1 <|
        .ite (.v 15) (
          fl' 4 2 <|
          fl' 4 3 <|
          .call (.fn 60) [.v 16, .v 17] 1 <|
          .ret [.v 18]) (
          .ret [.c (.bool false)])) (
        .ret [.c (.bool false)])) (
      .ret [.c (.bool false)])) (
    .ret [.c (.bool false)])
def u19Ts : Nat → Tree
  | 0 => u19T0
  | _ => .fail
/-! 20 langdoc/withdraw.sameRights params #[45, 45] -/
def u20P : Nat → Pat
  | _ => ⟨[], [], []⟩
def u20T0 : Tree :=
  .bind (.chk true 4) [.v 0] <|
  .bind (.chk true 4) [.v 1] <|
  fl' 0 2 <|
  fl' 0 3 <|
  .call (.fn 63) [.v 4, .v 5] 1 <|
  .ite (.v 6) (
    fl' 1 2 <|
    fl' 1 3 <|
    .call (.fn 64) [.v 7, .v 8, .fn (.func 61) [] []] 1 <|
    .ite (.v 9) (
      fl' 2 2 <|
      fl' 2 3 <|
      .call (.fn 65) [.v 10, .v 11] 1 <|
      .ite (.v 12) (
        fl' 3 2 <|
        fl' 3 3 <|
        .call (.fn 66) [.v 13, .v 14, .fn (.func 62) [] []] 1 <|
        .ret [.v 15]) (
        .ret [.c (.bool false)])) (
      .ret [.c (.bool false)])) (
    .ret [.c (.bool false)])
def u20Ts : Nat → Tree
  | 0 => u20T0
  | _ => .fail
/-! 21 langdoc/langdocref40.Same params #[36, 36] -/
def u21P : Nat → Pat
  | 1 => ⟨[⟨.pure, true⟩, ⟨.pure, false⟩, ⟨.pure, false⟩], [(2, .loc 0 0), (3, .loc 1 0), (5, .v 0)], [some (.whole (.v 1) 9), some (.whole (.v 2) 9)]⟩
  | 2 => ⟨[⟨.pure, true⟩, ⟨.pure, false⟩, ⟨.pure, false⟩], [(2, .loc 0 0), (3, .loc 1 0), (6, .v 0)], [some (.whole (.v 1) 9), some (.whole (.v 2) 9)]⟩
  | _ => ⟨[], [], []⟩
def u21T0 : Tree :=
  .bind (.chk true 9) [.v 0] <|
  .bind (.chk true 9) [.v 1] <|
  fl' 0 2 <|
  ln' 4 <|
  fl' 0 3 <|
  ln' 6 <|
  .bind (.bin .neq 3 (.tmp 10) (.tmp 14)) [.v 5, .v 7] <|
  .ite (.v 8) (
    .ret [.c (.bool false)]) (
    fl' 8 2 <|
    ln' 9 <|
    fl' 8 3 <|
    ln' 11 <|
    .bind (.bin .neq 3 (.tmp 19) (.tmp 22)) [.v 10, .v 12] <|
    .ite (.v 13) (
      .ret [.c (.bool false)]) (
      .jump 1 [k' 0, .v 2, .v 3]))
def u21T1 : Tree :=
  fl' 0 1 <|
  ln' 3 <|
  .bind (.bin .lss 3 (.tmp 25) (.tmp 29)) [.v 0, .v 4] <|
  .ite (.v 5) (
    fl' 0 1 <|
    ir' 6 0 <|
    .bind (.elem 2 true 2 0) [.v 6, .v 0] <|
    fl' 0 2 <|
    ir' 9 0 <|
    .bind (.elem 2 true 2 0) [.v 9, .v 0] <|
    .bind (.bin .neq 86 (.tmp 38) (.tmp 44)) [.v 8, .v 11] <|
    .ite (.v 12) (
      .ret [.c (.bool false)]) (
      .bind (.bin .add 3 (.tmp 31) (K' 1)) [.v 0, k' 1] <|
      .jump 1 [.v 13, .v 1, .v 2])) (
    .jump 2 [k' 0, .v 1, .v 2])
def u21T2 : Tree :=
  fl' 8 1 <|
  ln' 3 <|
  .bind (.bin .lss 3 (.tmp 46) (.tmp 49)) [.v 0, .v 4] <|
  .ite (.v 5) (
    fl' 8 1 <|
    ir' 6 0 <|
    .bind (.elem 8 true 8 0) [.v 6, .v 0] <|
    fl' 8 2 <|
    ir' 9 0 <|
    .bind (.elem 8 true 8 0) [.v 9, .v 0] <|
    .call (.fn 67) [.v 8, .v 11] 1 <|
    .bind (.un .not 4) [.v 12] <|
    .ite (.v 13) (
      .ret [.c (.bool false)]) (
      .bind (.bin .add 3 (.tmp 51) (K' 1)) [.v 0, k' 1] <|
      .jump 2 [.v 14, .v 1, .v 2])) (
    .bind (.fld true 3 1) [.v 1] <|
    .bind (.fld true 3 1) [.v 2] <|
    .call (.fn 68) [.v 6, .v 7] 1 <|
    .ite (.v 8) (
      fl' 4 1 <|
      fl' 4 2 <|
      .call (.fn 69) [.v 9, .v 10] 1 <|
      .ite (.v 11) (
        .bind (.fld true 3 5) [.v 1] <|
        .bind (.fld true 3 5) [.v 2] <|
        .call (.fn 70) [.v 12, .v 13] 1 <|
        .ret [.v 14]) (
        .ret [.c (.bool false)])) (
      .ret [.c (.bool false)]))
def u21Ts : Nat → Tree
  | 0 => u21T0
  | 1 => u21T1
  | 2 => u21T2
  | _ => .fail
/-! 22 langdoc/langdocref48.SameDocs params #[37, 37] -/
def u22P : Nat → Pat
  | 1 => ⟨[⟨.pure, false⟩, ⟨.pure, false⟩, ⟨.pure, true⟩], [(0, .v 0), (1, .v 1), (5, .v 2)], []⟩
  | _ => ⟨[], [], []⟩
def u22T0 : Tree :=
  ln' 0 <|
  ln' 1 <|
  .bind (.bin .neq 3 (.tmp 7) (.tmp 9)) [.v 2, .v 3] <|
  .ite (.v 4) (
    .ret [.c (.bool false)]) (
    .jump 1 [.v 0, .v 1, k' 0])
def u22T1 : Tree :=
  ln' 0 <|
  .bind (.bin .lss 3 (.tmp 11) (.tmp 13)) [.v 2, .v 3] <|
  .ite (.v 4) (
    ir' 0 2 <|
    .bind (.elem 7 true 7 0) [.v 0, .v 2] <|
    ir' 1 2 <|
    .bind (.elem 7 true 7 0) [.v 1, .v 2] <|
    .call (.fn 71) [.v 6, .v 8] 1 <|
    .bind (.un .not 4) [.v 9] <|
    .ite (.v 10) (
      .ret [.c (.bool false)]) (
      .bind (.bin .add 3 (.tmp 15) (K' 1)) [.v 2, k' 1] <|
      .jump 1 [.v 0, .v 1, .v 11])) (
    .ret [.c (.bool true)])
def u22Ts : Nat → Tree
  | 0 => u22T0
  | 1 => u22T1
  | _ => .fail
/-! 23 langdoc/langdocref31.Same params #[38, 38] -/
def u23P : Nat → Pat
  | 1 => ⟨[⟨.pure, false⟩, ⟨.pure, false⟩, ⟨.pure, true⟩, ⟨.pure, true⟩], [(0, .v 0), (1, .v 1), (12, .v 2), (13, .v 3)], []⟩
  | _ => ⟨[], [], []⟩
def u23T0 : Tree :=
  ln' 0 <|
  ln' 1 <|
  .bind (.bin .neq 3 (.tmp 7) (.tmp 9)) [.v 2, .v 3] <|
  .ite (.v 4) (
    .ret [.c (.bool false)]) (
    ln' 0 <|
    .jump 1 [.v 0, .v 1, .v 5, k' 0])
def u23T1 : Tree :=
  .bind (.bin .lss 3 (.tmp 13) (.tmp 12)) [.v 3, .v 2] <|
  .ite (.v 4) (
    ir' 0 3 <|
    .bind (.elem 4 true 2 0) [.v 0, .v 3] <|
    ir' 1 3 <|
    .bind (.elem 4 true 2 0) [.v 1, .v 3] <|
    .bind (.bin .neq 74 (.tmp 20) (.tmp 25)) [.v 6, .v 8] <|
    .ite (.v 9) (
      .ret [.c (.bool false)]) (
      ir' 0 3 <|
      .bind (.elem 4 false 1 2) [.v 0, .v 3] <|
      ir' 1 3 <|
      .bind (.elem 4 false 1 2) [.v 1, .v 3] <|
      .bind (.bin .neq 4 (.tmp 32) (.tmp 37)) [.v 11, .v 13] <|
      .ite (.v 14) (
        .ret [.c (.bool false)]) (
        ir' 0 3 <|
        .bind (.elem 4 true 1 3) [.v 0, .v 3] <|
        ir' 1 3 <|
        .bind (.elem 4 true 1 3) [.v 1, .v 3] <|
        .call (.fn 72) [.v 16, .v 18] 1 <|
        .bind (.un .not 4) [.v 19] <|
        .ite (.v 20) (
          .ret [.c (.bool false)]) (
          .bind (.bin .add 3 (.tmp 13) (K' 1)) [.v 3, k' 1] <|
          .jump 1 [.v 0, .v 1, .v 2, .v 21])))) (
    .ret [.c (.bool true)])
def u23Ts : Nat → Tree
  | 0 => u23T0
  | 1 => u23T1
  | _ => .fail
/-! 24 langdoc/langdocref48.SamePoints params #[39, 39] -/
def u24P : Nat → Pat
  | 1 => ⟨[⟨.pure, false⟩, ⟨.pure, false⟩, ⟨.pure, true⟩], [(0, .v 0), (1, .v 1), (5, .v 2)], []⟩
  | _ => ⟨[], [], []⟩
def u24T0 : Tree :=
  ln' 0 <|
  ln' 1 <|
  .bind (.bin .neq 3 (.tmp 9) (.tmp 11)) [.v 2, .v 3] <|
  .ite (.v 4) (
    .ret [.c (.bool false)]) (
    .jump 1 [.v 0, .v 1, k' 0])
def u24T1 : Tree :=
  ln' 0 <|
  .bind (.bin .lss 3 (.tmp 13) (.tmp 15)) [.v 2, .v 3] <|
  .ite (.v 4) (
    ir' 0 2 <|
    .bind (.elem 5 true 5 0) [.v 0, .v 2] <|
    ir' 1 2 <|
    .bind (.elem 5 true 5 0) [.v 1, .v 2] <|
    .bind (.chk true 5) [.v 6] <|
    .bind (.chk true 5) [.v 8] <|
    ir' 0 2 <|
    ir' 1 2 <|
    fl' 0 9 <|
    fl' 0 10 <|
    .bind (.bin .neq 3 (.tmp 28) (.tmp 30)) [.v 13, .v 14] <|
    .ite (.v 15) (
      .ret [.c (.bool false)]) (
      fl' 1 9 <|
      fl' 1 10 <|
      .bind (.bin .neq 9 (.tmp 34) (.tmp 36)) [.v 16, .v 17] <|
      .ite (.v 18) (
        .ret [.c (.bool false)]) (
        fl' 2 9 <|
        fl' 2 10 <|
        .bind (.bin .neq 9 (.tmp 41) (.tmp 43)) [.v 19, .v 20] <|
        .ite (.v 21) (
          .ret [.c (.bool false)]) (
          fl' 3 9 <|
          fl' 3 10 <|
          .call (.fn 73) [.v 22, .v 23] 1 <|
          .bind (.un .not 4) [.v 24] <|
          .ite (.v 25) (
            .ret [.c (.bool false)]) (
            fl' 4 9 <|
            fl' 4 10 <|
            .call (.fn 74) [.v 26, .v 27] 1 <|
            .bind (.un .not 4) [.v 28] <|
            .ite (.v 29) (
              .ret [.c (.bool false)]) (
              .bind (.bin .add 3 (.tmp 17) (K' 1)) [.v 2, k' 1] <|
              .jump 1 [.v 0, .v 1, .v 30])))))) (
    .ret [.c (.bool true)])
def u24Ts : Nat → Tree
  | 0 => u24T0
  | 1 => u24T1
  | _ => .fail
/-! 25 langdoc/langdocref48.SameRights params #[45, 45] -/
def u25P : Nat → Pat
  | 1 => ⟨[⟨.pure, true⟩, ⟨.pure, false⟩, ⟨.pure, false⟩], [(2, .loc 0 0), (3, .loc 1 0), (5, .v 0)], [some (.whole (.v 1) 4), some (.whole (.v 2) 4)]⟩
  | 2 => ⟨[⟨.pure, true⟩, ⟨.pure, false⟩, ⟨.pure, false⟩], [(2, .loc 0 0), (3, .loc 1 0), (6, .v 0)], [some (.whole (.v 1) 4), some (.whole (.v 2) 4)]⟩
  | _ => ⟨[], [], []⟩
def u25T0 : Tree :=
  .bind (.chk true 4) [.v 0] <|
  .bind (.chk true 4) [.v 1] <|
  fl' 0 2 <|
  ln' 4 <|
  fl' 0 3 <|
  ln' 6 <|
  .bind (.bin .neq 3 (.tmp 9) (.tmp 12)) [.v 5, .v 7] <|
  .ite (.v 8) (
    .ret [.c (.bool false)]) (
    fl' 2 2 <|
    ln' 9 <|
    fl' 2 3 <|
    ln' 11 <|
    .bind (.bin .neq 3 (.tmp 17) (.tmp 20)) [.v 10, .v 12] <|
    .ite (.v 13) (
      .ret [.c (.bool false)]) (
      .jump 1 [k' 0, .v 2, .v 3]))
def u25T1 : Tree :=
  fl' 0 1 <|
  ln' 3 <|
  .bind (.bin .lss 3 (.tmp 23) (.tmp 26)) [.v 0, .v 4] <|
  .ite (.v 5) (
    fl' 0 1 <|
    ir' 6 0 <|
    .bind (.elem 3 true 3 0) [.v 6, .v 0] <|
    fl' 0 2 <|
    ir' 9 0 <|
    .bind (.elem 3 true 3 0) [.v 9, .v 0] <|
    .bind (.bin .neq 96 (.tmp 34) (.tmp 39)) [.v 8, .v 11] <|
    .ite (.v 12) (
      .ret [.c (.bool false)]) (
      .bind (.bin .add 3 (.tmp 28) (K' 1)) [.v 0, k' 1] <|
      .jump 1 [.v 13, .v 1, .v 2])) (
    .jump 2 [k' 0, .v 1, .v 2])
def u25T2 : Tree :=
  fl' 2 1 <|
  ln' 3 <|
  .bind (.bin .lss 3 (.tmp 41) (.tmp 44)) [.v 0, .v 4] <|
  .ite (.v 5) (
    fl' 2 1 <|
    ir' 6 0 <|
    .bind (.elem 4 true 4 0) [.v 6, .v 0] <|
    fl' 2 2 <|
    ir' 9 0 <|
    .bind (.elem 4 true 4 0) [.v 9, .v 0] <|
    .bind (.bin .neq 98 (.tmp 52) (.tmp 57)) [.v 8, .v 11] <|
    .ite (.v 12) (
      .ret [.c (.bool false)]) (
      .bind (.bin .add 3 (.tmp 46) (K' 1)) [.v 0, k' 1] <|
      .jump 2 [.v 13, .v 1, .v 2])) (
    fl' 1 1 <|
    fl' 1 2 <|
    .call (.fn 75) [.v 6, .v 7] 1 <|
    .ite (.v 8) (
      fl' 3 1 <|
      fl' 3 2 <|
      .call (.fn 76) [.v 9, .v 10] 1 <|
      .ret [.v 11]) (
      .ret [.c (.bool false)]))
def u25Ts : Nat → Tree
  | 0 => u25T0
  | 1 => u25T1
  | 2 => u25T2
  | _ => .fail
/-! 44 langdoc/withdraw.sameLang$1 params #[88, 88] -/
def u44P : Nat → Pat
  | _ => ⟨[], [], []⟩
def u44T0 : Tree :=
  .bind (.chk true 2) [.v 0] <|
  .bind (.chk true 2) [.v 1] <|
  fl' 0 2 <|
  fl' 0 3 <|
  .bind (.bin .eql 9 (.tmp 6) (.tmp 8)) [.v 4, .v 5] <|
  .ite (.v 6) (
    fl' 1 2 <|
    fl' 1 3 <|
    .call (.fn 45) [.v 7, .v 8] 1 <|
    .ret [.v 9]) (
    .ret [.c (.bool false)])
def u44Ts : Nat → Tree
  | 0 => u44T0
  | _ => .fail
/-! 45 slices.Equal[[]int,int] params #[31, 31] -/
def u45P : Nat → Pat
  | 1 => ⟨[⟨.pure, false⟩, ⟨.pure, false⟩, ⟨.pure, true⟩, ⟨.pure, true⟩], [(0, .v 0), (1, .v 1), (12, .v 2), (13, .v 3)], []⟩
  | _ => ⟨[], [], []⟩
def u45T0 : Tree :=
  ln' 0 <|
  ln' 1 <|
  .bind (.bin .neq 3 (.tmp 7) (.tmp 9)) [.v 2, .v 3] <|
  .ite (.v 4) (
    .ret [.c (.bool false)]) (
    ln' 0 <|
    .jump 1 [.v 0, .v 1, .v 5, k' 0])
def u45T1 : Tree :=
  .bind (.bin .lss 3 (.tmp 13) (.tmp 12)) [.v 3, .v 2] <|
  .ite (.v 4) (
    ir' 0 3 <|
    .bind (.elem 1 false 1 0) [.v 0, .v 3] <|
    ir' 1 3 <|
    .bind (.elem 1 false 1 0) [.v 1, .v 3] <|
    .bind (.bin .neq 3 (.tmp 19) (.tmp 23)) [.v 6, .v 8] <|
    .ite (.v 9) (
      .ret [.c (.bool false)]) (
      .bind (.bin .add 3 (.tmp 13) (K' 1)) [.v 3, k' 1] <|
      .jump 1 [.v 0, .v 1, .v 2, .v 10])) (
    .ret [.c (.bool true)])
def u45Ts : Nat → Tree
  | 0 => u45T0
  | 1 => u45T1
  | _ => .fail
/-! 46 langdoc/withdraw.sameLang$2 params #[136, 136] -/
def u46P : Nat → Pat
  | _ => ⟨[], [], []⟩
def u46T0 : Tree :=
  .bind (.chk true 6) [.v 0] <|
  .bind (.chk true 6) [.v 1] <|
  fl' 4 2 <|
  fl' 4 3 <|
  .bind (.bin .eql 4 (.tmp 6) (.tmp 8)) [.v 4, .v 5] <|
  .ite (.v 6) (
    fl' 5 2 <|
    fl' 5 3 <|
    .bind (.bin .eql 4 (.tmp 12) (.tmp 14)) [.v 7, .v 8] <|
    .ite (.v 9) (
      fl' 0 2 <|
      fl' 0 3 <|
      .call (.fn 45) [.v 10, .v 11] 1 <|
      .ite (.v 12) (
        fl' 1 2 <|
        fl' 1 3 <|
        .call (.fn 45) [.v 13, .v 14] 1 <|
        .ite (.v 15) (
          fl' 2 2 <|
          fl' 2 3 <|
          .call (.fn 47) [.v 16, .v 17] 1 <|
          .ite (.v 18) (
            fl' 3 2 <|
            fl' 3 3 <|
            .call (.fn 47) [.v 19, .v 20] 1 <|
            .ret [.v 21]) (
            .ret [.c (.bool false)])) (
          .ret [.c (.bool false)])) (
        .ret [.c (.bool false)])) (
      .ret [.c (.bool false)])) (
    .ret [.c (.bool false)])
def u46Ts : Nat → Tree
  | 0 => u46T0
  | _ => .fail
/-! 47 slices.Equal[[]langdoc/api.Class,langdoc/api.Class] params #[134, 134] -/
def u47P : Nat → Pat
  | 1 => ⟨[⟨.pure, false⟩, ⟨.pure, false⟩, ⟨.pure, true⟩, ⟨.pure, true⟩], [(0, .v 0), (1, .v 1), (12, .v 2), (13, .v 3)], []⟩
  | _ => ⟨[], [], []⟩
def u47T0 : Tree :=
  ln' 0 <|
  ln' 1 <|
  .bind (.bin .neq 3 (.tmp 7) (.tmp 9)) [.v 2, .v 3] <|
  .ite (.v 4) (
    .ret [.c (.bool false)]) (
    ln' 0 <|
    .jump 1 [.v 0, .v 1, .v 5, k' 0])
def u47T1 : Tree :=
  .bind (.bin .lss 3 (.tmp 13) (.tmp 12)) [.v 3, .v 2] <|
  .ite (.v 4) (
    ir' 0 3 <|
    .bind (.elem 2 true 2 0) [.v 0, .v 3] <|
    ir' 1 3 <|
    .bind (.elem 2 true 2 0) [.v 1, .v 3] <|
    .bind (.bin .neq 139 (.tmp 19) (.tmp 23)) [.v 6, .v 8] <|
    .ite (.v 9) (
      .ret [.c (.bool false)]) (
      .bind (.bin .add 3 (.tmp 13) (K' 1)) [.v 3, k' 1] <|
      .jump 1 [.v 0, .v 1, .v 2, .v 10])) (
    .ret [.c (.bool true)])
def u47Ts : Nat → Tree
  | 0 => u47T0
  | 1 => u47T1
  | _ => .fail
/-! 48 slices.EqualFunc[[]langdoc/api.Unit,[]langdoc/api.Unit,langdoc/api.Unit,langdoc/api.Unit] params #[25, 25, 133] -/
def u48P : Nat → Pat
  | 1 => ⟨[⟨.pure, false⟩, ⟨.pure, false⟩, ⟨.pure, false⟩, ⟨.pure, true⟩, ⟨.pure, true⟩], [(1, .v 0), (2, .v 1), (15, .v 2), (16, .v 3), (17, .v 4)], []⟩
  | _ => ⟨[], [], []⟩
def u48T0 : Tree :=
  ln' 0 <|
  ln' 1 <|
  .bind (.bin .neq 3 (.tmp 11) (.tmp 13)) [.v 3, .v 4] <|
  .ite (.v 5) (
    .ret [.c (.bool false)]) (
    ln' 0 <|
    .jump 1 [.v 1, .v 2, .v 0, .v 6, k' 0])
def u48T1 : Tree :=
  .bind (.bin .lss 3 (.tmp 17) (.tmp 16)) [.v 4, .v 3] <|
  .ite (.v 5) (
    ir' 2 4 <|
    .bind (.elem 2 true 2 0) [.v 2, .v 4] <|
    .bind (.chk true 2) [.v 7] <|
    ir' 0 4 <|
    .bind (.elem 2 true 2 0) [.v 0, .v 4] <|
    .bind (.chk true 2) [.v 10] <|
    .call (.val (.v 1)) [.v 1, .v 8, .v 11] 1 <|
    .bind (.un .not 4) [.v 12] <|
    .ite (.v 13) (
      .ret [.c (.bool false)]) (
      .bind (.bin .add 3 (.tmp 17) (K' 1)) [.v 4, k' 1] <|
      .jump 1 [.v 0, .v 1, .v 2, .v 3, .v 14])) (
    .ret [.c (.bool true)])
def u48Ts : Nat → Tree
  | 0 => u48T0
  | 1 => u48T1
  | _ => .fail
/-! 49 slices.EqualFunc[[][]string,[][]string,[]string,[]string] params #[26, 26, 144] -/
def u49P : Nat → Pat
  | 1 => ⟨[⟨.pure, false⟩, ⟨.pure, false⟩, ⟨.pure, false⟩, ⟨.pure, true⟩, ⟨.pure, true⟩], [(1, .v 0), (2, .v 1), (15, .v 2), (16, .v 3), (17, .v 4)], []⟩
  | _ => ⟨[], [], []⟩
def u49T0 : Tree :=
  ln' 0 <|
  ln' 1 <|
  .bind (.bin .neq 3 (.tmp 11) (.tmp 13)) [.v 3, .v 4] <|
  .ite (.v 5) (
    .ret [.c (.bool false)]) (
    ln' 0 <|
    .jump 1 [.v 1, .v 2, .v 0, .v 6, k' 0])
def u49T1 : Tree :=
  .bind (.bin .lss 3 (.tmp 17) (.tmp 16)) [.v 4, .v 3] <|
  .ite (.v 5) (
    ir' 2 4 <|
    .bind (.elem 1 false 1 0) [.v 2, .v 4] <|
    ir' 0 4 <|
    .bind (.elem 1 false 1 0) [.v 0, .v 4] <|
    .call (.val (.v 1)) [.v 1, .v 7, .v 9] 1 <|
    .bind (.un .not 4) [.v 10] <|
    .ite (.v 11) (
      .ret [.c (.bool false)]) (
      .bind (.bin .add 3 (.tmp 17) (K' 1)) [.v 4, k' 1] <|
      .jump 1 [.v 0, .v 1, .v 2, .v 3, .v 12])) (
    .ret [.c (.bool true)])
def u49Ts : Nat → Tree
  | 0 => u49T0
  | 1 => u49T1
  | _ => .fail
/-! 50 slices.Equal[[]string,string] params #[143, 143] -/
def u50P : Nat → Pat
  | 1 => ⟨[⟨.pure, false⟩, ⟨.pure, false⟩, ⟨.pure, true⟩, ⟨.pure, true⟩], [(0, .v 0), (1, .v 1), (12, .v 2), (13, .v 3)], []⟩
  | _ => ⟨[], [], []⟩
def u50T0 : Tree :=
  ln' 0 <|
  ln' 1 <|
  .bind (.bin .neq 3 (.tmp 7) (.tmp 9)) [.v 2, .v 3] <|
  .ite (.v 4) (
    .ret [.c (.bool false)]) (
    ln' 0 <|
    .jump 1 [.v 0, .v 1, .v 5, k' 0])
def u50T1 : Tree :=
  .bind (.bin .lss 3 (.tmp 13) (.tmp 12)) [.v 3, .v 2] <|
  .ite (.v 4) (
    ir' 0 3 <|
    .bind (.elem 1 false 1 0) [.v 0, .v 3] <|
    ir' 1 3 <|
    .bind (.elem 1 false 1 0) [.v 1, .v 3] <|
    .bind (.bin .neq 9 (.tmp 19) (.tmp 23)) [.v 6, .v 8] <|
    .ite (.v 9) (
      .ret [.c (.bool false)]) (
      .bind (.bin .add 3 (.tmp 13) (K' 1)) [.v 3, k' 1] <|
      .jump 1 [.v 0, .v 1, .v 2, .v 10])) (
    .ret [.c (.bool true)])
def u50Ts : Nat → Tree
  | 0 => u50T0
  | 1 => u50T1
  | _ => .fail
/-! 51 slices.Equal[[]langdoc/api.Step,langdoc/api.Step] params #[30, 30] -/
def u51P : Nat → Pat
  | 1 => ⟨[⟨.pure, false⟩, ⟨.pure, false⟩, ⟨.pure, true⟩, ⟨.pure, true⟩], [(0, .v 0), (1, .v 1), (12, .v 2), (13, .v 3)], []⟩
  | _ => ⟨[], [], []⟩
def u51T0 : Tree :=
  ln' 0 <|
  ln' 1 <|
  .bind (.bin .neq 3 (.tmp 7) (.tmp 9)) [.v 2, .v 3] <|
  .ite (.v 4) (
    .ret [.c (.bool false)]) (
    ln' 0 <|
    .jump 1 [.v 0, .v 1, .v 5, k' 0])
def u51T1 : Tree :=
  .bind (.bin .lss 3 (.tmp 13) (.tmp 12)) [.v 3, .v 2] <|
  .ite (.v 4) (
    ir' 0 3 <|
    .bind (.elem 3 true 3 0) [.v 0, .v 3] <|
    ir' 1 3 <|
    .bind (.elem 3 true 3 0) [.v 1, .v 3] <|
    .bind (.bin .neq 90 (.tmp 19) (.tmp 23)) [.v 6, .v 8] <|
    .ite (.v 9) (
      .ret [.c (.bool false)]) (
      .bind (.bin .add 3 (.tmp 13) (K' 1)) [.v 3, k' 1] <|
      .jump 1 [.v 0, .v 1, .v 2, .v 10])) (
    .ret [.c (.bool true)])
def u51Ts : Nat → Tree
  | 0 => u51T0
  | 1 => u51T1
  | _ => .fail
/-! 52 slices.Equal[[]langdoc/api.Phoneme,langdoc/api.Phoneme] params #[22, 22] -/
def u52P : Nat → Pat
  | 1 => ⟨[⟨.pure, false⟩, ⟨.pure, false⟩, ⟨.pure, true⟩, ⟨.pure, true⟩], [(0, .v 0), (1, .v 1), (12, .v 2), (13, .v 3)], []⟩
  | _ => ⟨[], [], []⟩
def u52T0 : Tree :=
  ln' 0 <|
  ln' 1 <|
  .bind (.bin .neq 3 (.tmp 7) (.tmp 9)) [.v 2, .v 3] <|
  .ite (.v 4) (
    .ret [.c (.bool false)]) (
    ln' 0 <|
    .jump 1 [.v 0, .v 1, .v 5, k' 0])
def u52T1 : Tree :=
  .bind (.bin .lss 3 (.tmp 13) (.tmp 12)) [.v 3, .v 2] <|
  .ite (.v 4) (
    ir' 0 3 <|
    .bind (.elem 2 true 2 0) [.v 0, .v 3] <|
    ir' 1 3 <|
    .bind (.elem 2 true 2 0) [.v 1, .v 3] <|
    .bind (.bin .neq 86 (.tmp 19) (.tmp 23)) [.v 6, .v 8] <|
    .ite (.v 9) (
      .ret [.c (.bool false)]) (
      .bind (.bin .add 3 (.tmp 13) (K' 1)) [.v 3, k' 1] <|
      .jump 1 [.v 0, .v 1, .v 2, .v 10])) (
    .ret [.c (.bool true)])
def u52Ts : Nat → Tree
  | 0 => u52T0
  | 1 => u52T1
  | _ => .fail
/-! 53 slices.EqualFunc[[]langdoc/api.Rewrite,[]langdoc/api.Rewrite,langdoc/api.Rewrite,langdoc/api.Rewrite] params #[29, 29, 140] -/
def u53P : Nat → Pat
  | 1 => ⟨[⟨.pure, false⟩, ⟨.pure, false⟩, ⟨.pure, false⟩, ⟨.pure, true⟩, ⟨.pure, true⟩], [(1, .v 0), (2, .v 1), (15, .v 2), (16, .v 3), (17, .v 4)], []⟩
  | _ => ⟨[], [], []⟩
def u53T0 : Tree :=
  ln' 0 <|
  ln' 1 <|
  .bind (.bin .neq 3 (.tmp 11) (.tmp 13)) [.v 3, .v 4] <|
  .ite (.v 5) (
    .ret [.c (.bool false)]) (
    ln' 0 <|
    .jump 1 [.v 1, .v 2, .v 0, .v 6, k' 0])
def u53T1 : Tree :=
  .bind (.bin .lss 3 (.tmp 17) (.tmp 16)) [.v 4, .v 3] <|
  .ite (.v 5) (
    ir' 2 4 <|
    .bind (.elem 6 true 6 0) [.v 2, .v 4] <|
    .bind (.chk true 6) [.v 7] <|
    ir' 0 4 <|
    .bind (.elem 6 true 6 0) [.v 0, .v 4] <|
    .bind (.chk true 6) [.v 10] <|
    .call (.val (.v 1)) [.v 1, .v 8, .v 11] 1 <|
    .bind (.un .not 4) [.v 12] <|
    .ite (.v 13) (
      .ret [.c (.bool false)]) (
      .bind (.bin .add 3 (.tmp 17) (K' 1)) [.v 4, k' 1] <|
      .jump 1 [.v 0, .v 1, .v 2, .v 3, .v 14])) (
    .ret [.c (.bool true)])
def u53Ts : Nat → Tree
  | 0 => u53T0
  | 1 => u53T1
  | _ => .fail
/-! 54 langdoc/lexicon.Same params #[34, 34] -/
def u54P : Nat → Pat
  | _ => ⟨[], [], []⟩
def u54T0 : Tree :=
  .call (.fn 108) [.v 0, .v 1, .fn (.func 109) [] []] 1 <|
  .ret [.v 2]
def u54Ts : Nat → Tree
  | 0 => u54T0
  | _ => .fail
/-! 55 slices.Equal[[]langdoc/api.Tier,langdoc/api.Tier] params #[53, 53] -/
def u55P : Nat → Pat
  | 1 => ⟨[⟨.pure, false⟩, ⟨.pure, false⟩, ⟨.pure, true⟩, ⟨.pure, true⟩], [(0, .v 0), (1, .v 1), (12, .v 2), (13, .v 3)], []⟩
  | _ => ⟨[], [], []⟩
def u55T0 : Tree :=
  ln' 0 <|
  ln' 1 <|
  .bind (.bin .neq 3 (.tmp 7) (.tmp 9)) [.v 2, .v 3] <|
  .ite (.v 4) (
    .ret [.c (.bool false)]) (
    ln' 0 <|
    .jump 1 [.v 0, .v 1, .v 5, k' 0])
def u55T1 : Tree :=
  .bind (.bin .lss 3 (.tmp 13) (.tmp 12)) [.v 3, .v 2] <|
  .ite (.v 4) (
    ir' 0 3 <|
    .bind (.elem 4 true 4 0) [.v 0, .v 3] <|
    ir' 1 3 <|
    .bind (.elem 4 true 4 0) [.v 1, .v 3] <|
    .bind (.bin .neq 100 (.tmp 19) (.tmp 23)) [.v 6, .v 8] <|
    .ite (.v 9) (
      .ret [.c (.bool false)]) (
      .bind (.bin .add 3 (.tmp 13) (K' 1)) [.v 3, k' 1] <|
      .jump 1 [.v 0, .v 1, .v 2, .v 10])) (
    .ret [.c (.bool true)])
def u55Ts : Nat → Tree
  | 0 => u55T0
  | 1 => u55T1
  | _ => .fail
/-! 56 slices.Equal[[]langdoc/api.Note,langdoc/api.Note] params #[54, 54] -/
def u56P : Nat → Pat
  | 1 => ⟨[⟨.pure, false⟩, ⟨.pure, false⟩, ⟨.pure, true⟩, ⟨.pure, true⟩], [(0, .v 0), (1, .v 1), (12, .v 2), (13, .v 3)], []⟩
  | _ => ⟨[], [], []⟩
def u56T0 : Tree :=
  ln' 0 <|
  ln' 1 <|
  .bind (.bin .neq 3 (.tmp 7) (.tmp 9)) [.v 2, .v 3] <|
  .ite (.v 4) (
    .ret [.c (.bool false)]) (
    ln' 0 <|
    .jump 1 [.v 0, .v 1, .v 5, k' 0])
def u56T1 : Tree :=
  .bind (.bin .lss 3 (.tmp 13) (.tmp 12)) [.v 3, .v 2] <|
  .ite (.v 4) (
    ir' 0 3 <|
    .bind (.elem 7 true 7 0) [.v 0, .v 3] <|
    ir' 1 3 <|
    .bind (.elem 7 true 7 0) [.v 1, .v 3] <|
    .bind (.bin .neq 104 (.tmp 19) (.tmp 23)) [.v 6, .v 8] <|
    .ite (.v 9) (
      .ret [.c (.bool false)]) (
      .bind (.bin .add 3 (.tmp 13) (K' 1)) [.v 3, k' 1] <|
      .jump 1 [.v 0, .v 1, .v 2, .v 10])) (
    .ret [.c (.bool true)])
def u56Ts : Nat → Tree
  | 0 => u56T0
  | 1 => u56T1
  | _ => .fail
/-! 57 slices.EqualFunc[[]langdoc/api.Decision,[]langdoc/api.Decision,langdoc/api.Decision,langdoc/api.Decision] params #[38, 38, 155] -/
def u57P : Nat → Pat
  | 1 => ⟨[⟨.pure, false⟩, ⟨.pure, false⟩, ⟨.pure, false⟩, ⟨.pure, true⟩, ⟨.pure, true⟩], [(1, .v 0), (2, .v 1), (15, .v 2), (16, .v 3), (17, .v 4)], []⟩
  | _ => ⟨[], [], []⟩
def u57T0 : Tree :=
  ln' 0 <|
  ln' 1 <|
  .bind (.bin .neq 3 (.tmp 11) (.tmp 13)) [.v 3, .v 4] <|
  .ite (.v 5) (
    .ret [.c (.bool false)]) (
    ln' 0 <|
    .jump 1 [.v 1, .v 2, .v 0, .v 6, k' 0])
def u57T1 : Tree :=
  .bind (.bin .lss 3 (.tmp 17) (.tmp 16)) [.v 4, .v 3] <|
  .ite (.v 5) (
    ir' 2 4 <|
    .bind (.elem 4 true 4 0) [.v 2, .v 4] <|
    .bind (.chk true 4) [.v 7] <|
    ir' 0 4 <|
    .bind (.elem 4 true 4 0) [.v 0, .v 4] <|
    .bind (.chk true 4) [.v 10] <|
    .call (.val (.v 1)) [.v 1, .v 8, .v 11] 1 <|
    .bind (.un .not 4) [.v 12] <|
    .ite (.v 13) (
      .ret [.c (.bool false)]) (
      .bind (.bin .add 3 (.tmp 17) (K' 1)) [.v 4, k' 1] <|
      .jump 1 [.v 0, .v 1, .v 2, .v 3, .v 14])) (
    .ret [.c (.bool true)])
def u57Ts : Nat → Tree
  | 0 => u57T0
  | 1 => u57T1
  | _ => .fail
/-! 58 langdoc/decide.Same$1 params #[117, 117] -/
def u58P : Nat → Pat
  | _ => ⟨[], [], []⟩
def u58T0 : Tree :=
  .bind (.chk true 4) [.v 0] <|
  .bind (.chk true 4) [.v 1] <|
  .bind (.fld true 2 0) [.v 2] <|
  .bind (.fld true 2 0) [.v 3] <|
  .bind (.bin .eql 74 (.tmp 6) (.tmp 8)) [.v 4, .v 5] <|
  .ite (.v 6) (
    fl' 2 2 <|
    fl' 2 3 <|
    .bind (.bin .eql 4 (.tmp 12) (.tmp 14)) [.v 7, .v 8] <|
    .ite (.v 9) (
      fl' 3 2 <|
      fl' 3 3 <|
      .call (.fn 59) [.v 10, .v 11] 1 <|
      .ret [.v 12]) (
      .ret [.c (.bool false)])) (
    .ret [.c (.bool false)])
def u58Ts : Nat → Tree
  | 0 => u58T0
  | _ => .fail
/-! 59 slices.Equal[[]langdoc/api.Part,langdoc/api.Part] params #[113, 113] -/
def u59P : Nat → Pat
  | 1 => ⟨[⟨.pure, false⟩, ⟨.pure, false⟩, ⟨.pure, true⟩, ⟨.pure, true⟩], [(0, .v 0), (1, .v 1), (12, .v 2), (13, .v 3)], []⟩
  | _ => ⟨[], [], []⟩
def u59T0 : Tree :=
  ln' 0 <|
  ln' 1 <|
  .bind (.bin .neq 3 (.tmp 7) (.tmp 9)) [.v 2, .v 3] <|
  .ite (.v 4) (
    .ret [.c (.bool false)]) (
    ln' 0 <|
    .jump 1 [.v 0, .v 1, .v 5, k' 0])
def u59T1 : Tree :=
  .bind (.bin .lss 3 (.tmp 13) (.tmp 12)) [.v 3, .v 2] <|
  .ite (.v 4) (
    ir' 0 3 <|
    .bind (.elem 3 true 3 0) [.v 0, .v 3] <|
    ir' 1 3 <|
    .bind (.elem 3 true 3 0) [.v 1, .v 3] <|
    .bind (.bin .neq 154 (.tmp 19) (.tmp 23)) [.v 6, .v 8] <|
    .ite (.v 9) (
      .ret [.c (.bool false)]) (
      .bind (.bin .add 3 (.tmp 13) (K' 1)) [.v 3, k' 1] <|
      .jump 1 [.v 0, .v 1, .v 2, .v 10])) (
    .ret [.c (.bool true)])
def u59Ts : Nat → Tree
  | 0 => u59T0
  | 1 => u59T1
  | _ => .fail
/-! 60 slices.Equal[[]langdoc/api.Ref,langdoc/api.Ref] params #[67, 67] -/
def u60P : Nat → Pat
  | 1 => ⟨[⟨.pure, false⟩, ⟨.pure, false⟩, ⟨.pure, true⟩, ⟨.pure, true⟩], [(0, .v 0), (1, .v 1), (12, .v 2), (13, .v 3)], []⟩
  | _ => ⟨[], [], []⟩
def u60T0 : Tree :=
  ln' 0 <|
  ln' 1 <|
  .bind (.bin .neq 3 (.tmp 7) (.tmp 9)) [.v 2, .v 3] <|
  .ite (.v 4) (
    .ret [.c (.bool false)]) (
    ln' 0 <|
    .jump 1 [.v 0, .v 1, .v 5, k' 0])
def u60T1 : Tree :=
  .bind (.bin .lss 3 (.tmp 13) (.tmp 12)) [.v 3, .v 2] <|
  .ite (.v 4) (
    ir' 0 3 <|
    .bind (.elem 2 true 2 0) [.v 0, .v 3] <|
    ir' 1 3 <|
    .bind (.elem 2 true 2 0) [.v 1, .v 3] <|
    .bind (.bin .neq 74 (.tmp 19) (.tmp 23)) [.v 6, .v 8] <|
    .ite (.v 9) (
      .ret [.c (.bool false)]) (
      .bind (.bin .add 3 (.tmp 13) (K' 1)) [.v 3, k' 1] <|
      .jump 1 [.v 0, .v 1, .v 2, .v 10])) (
    .ret [.c (.bool true)])
def u60Ts : Nat → Tree
  | 0 => u60T0
  | 1 => u60T1
  | _ => .fail
/-! 61 langdoc/withdraw.sameRights$1 params #[158, 158] -/
def u61P : Nat → Pat
  | _ => ⟨[], [], []⟩
def u61T0 : Tree :=
  .bind (.chk true 4) [.v 0] <|
  .bind (.chk true 4) [.v 1] <|
  fl' 0 2 <|
  fl' 0 3 <|
  .bind (.bin .eql 3 (.tmp 6) (.tmp 8)) [.v 4, .v 5] <|
  .ite (.v 6) (
    fl' 1 2 <|
    fl' 1 3 <|
    .bind (.bin .eql 9 (.tmp 12) (.tmp 14)) [.v 7, .v 8] <|
    .ite (.v 9) (
      fl' 2 2 <|
      fl' 2 3 <|
      .call (.fn 45) [.v 10, .v 11] 1 <|
      .ite (.v 12) (
        fl' 3 2 <|
        fl' 3 3 <|
        .call (.fn 45) [.v 13, .v 14] 1 <|
        .ret [.v 15]) (
        .ret [.c (.bool false)])) (
      .ret [.c (.bool false)])) (
    .ret [.c (.bool false)])
def u61Ts : Nat → Tree
  | 0 => u61T0
  | _ => .fail
/-! 62 langdoc/withdraw.sameRights$2 params #[163, 163] -/
def u62P : Nat → Pat
  | _ => ⟨[], [], []⟩
def u62T0 : Tree :=
  .bind (.chk true 6) [.v 0] <|
  .bind (.chk true 6) [.v 1] <|
  fl' 0 2 <|
  fl' 0 3 <|
  .bind (.bin .eql 3 (.tmp 6) (.tmp 8)) [.v 4, .v 5] <|
  .ite (.v 6) (
    .bind (.fld true 2 1) [.v 2] <|
    .bind (.fld true 2 1) [.v 3] <|
    .bind (.bin .eql 102 (.tmp 12) (.tmp 14)) [.v 7, .v 8] <|
    .ite (.v 9) (
      fl' 3 2 <|
      fl' 3 3 <|
      .bind (.bin .eql 3 (.tmp 20) (.tmp 23)) [.v 10, .v 11] <|
      .ite (.v 12) (
        fl' 5 2 <|
        fl' 5 3 <|
        .bind (.bin .eql 3 (.tmp 29) (.tmp 32)) [.v 13, .v 14] <|
        .ite (.v 15) (
          fl' 4 2 <|
          fl' 4 3 <|
          .call (.fn 45) [.v 16, .v 17] 1 <|
          .ret [.v 18]) (
          .ret [.c (.bool false)])) (
        .ret [.c (.bool false)])) (
      .ret [.c (.bool false)])) (
    .ret [.c (.bool false)])
def u62Ts : Nat → Tree
  | 0 => u62T0
  | _ => .fail
/-! 63 slices.Equal[[]langdoc/api.Person,langdoc/api.Person] params #[40, 40] -/
def u63P : Nat → Pat
  | 1 => ⟨[⟨.pure, false⟩, ⟨.pure, false⟩, ⟨.pure, true⟩, ⟨.pure, true⟩], [(0, .v 0), (1, .v 1), (12, .v 2), (13, .v 3)], []⟩
  | _ => ⟨[], [], []⟩
def u63T0 : Tree :=
  ln' 0 <|
  ln' 1 <|
  .bind (.bin .neq 3 (.tmp 7) (.tmp 9)) [.v 2, .v 3] <|
  .ite (.v 4) (
    .ret [.c (.bool false)]) (
    ln' 0 <|
    .jump 1 [.v 0, .v 1, .v 5, k' 0])
def u63T1 : Tree :=
  .bind (.bin .lss 3 (.tmp 13) (.tmp 12)) [.v 3, .v 2] <|
  .ite (.v 4) (
    ir' 0 3 <|
    .bind (.elem 3 true 3 0) [.v 0, .v 3] <|
    ir' 1 3 <|
    .bind (.elem 3 true 3 0) [.v 1, .v 3] <|
    .bind (.bin .neq 96 (.tmp 19) (.tmp 23)) [.v 6, .v 8] <|
    .ite (.v 9) (
      .ret [.c (.bool false)]) (
      .bind (.bin .add 3 (.tmp 13) (K' 1)) [.v 3, k' 1] <|
      .jump 1 [.v 0, .v 1, .v 2, .v 10])) (
    .ret [.c (.bool true)])
def u63Ts : Nat → Tree
  | 0 => u63T0
  | 1 => u63T1
  | _ => .fail
/-! 64 slices.EqualFunc[[]langdoc/api.Group,[]langdoc/api.Group,langdoc/api.Group,langdoc/api.Group] params #[41, 41, 159] -/
def u64P : Nat → Pat
  | 1 => ⟨[⟨.pure, false⟩, ⟨.pure, false⟩, ⟨.pure, false⟩, ⟨.pure, true⟩, ⟨.pure, true⟩], [(1, .v 0), (2, .v 1), (15, .v 2), (16, .v 3), (17, .v 4)], []⟩
  | _ => ⟨[], [], []⟩
def u64T0 : Tree :=
  ln' 0 <|
  ln' 1 <|
  .bind (.bin .neq 3 (.tmp 11) (.tmp 13)) [.v 3, .v 4] <|
  .ite (.v 5) (
    .ret [.c (.bool false)]) (
    ln' 0 <|
    .jump 1 [.v 1, .v 2, .v 0, .v 6, k' 0])
def u64T1 : Tree :=
  .bind (.bin .lss 3 (.tmp 17) (.tmp 16)) [.v 4, .v 3] <|
  .ite (.v 5) (
    ir' 2 4 <|
    .bind (.elem 4 true 4 0) [.v 2, .v 4] <|
    .bind (.chk true 4) [.v 7] <|
    ir' 0 4 <|
    .bind (.elem 4 true 4 0) [.v 0, .v 4] <|
    .bind (.chk true 4) [.v 10] <|
    .call (.val (.v 1)) [.v 1, .v 8, .v 11] 1 <|
    .bind (.un .not 4) [.v 12] <|
    .ite (.v 13) (
      .ret [.c (.bool false)]) (
      .bind (.bin .add 3 (.tmp 17) (K' 1)) [.v 4, k' 1] <|
      .jump 1 [.v 0, .v 1, .v 2, .v 3, .v 14])) (
    .ret [.c (.bool true)])
def u64Ts : Nat → Tree
  | 0 => u64T0
  | 1 => u64T1
  | _ => .fail
/-! 65 slices.Equal[[]langdoc/api.Consent,langdoc/api.Consent] params #[42, 42] -/
def u65P : Nat → Pat
  | 1 => ⟨[⟨.pure, false⟩, ⟨.pure, false⟩, ⟨.pure, true⟩, ⟨.pure, true⟩], [(0, .v 0), (1, .v 1), (12, .v 2), (13, .v 3)], []⟩
  | _ => ⟨[], [], []⟩
def u65T0 : Tree :=
  ln' 0 <|
  ln' 1 <|
  .bind (.bin .neq 3 (.tmp 7) (.tmp 9)) [.v 2, .v 3] <|
  .ite (.v 4) (
    .ret [.c (.bool false)]) (
    ln' 0 <|
    .jump 1 [.v 0, .v 1, .v 5, k' 0])
def u65T1 : Tree :=
  .bind (.bin .lss 3 (.tmp 13) (.tmp 12)) [.v 3, .v 2] <|
  .ite (.v 4) (
    ir' 0 3 <|
    .bind (.elem 4 true 4 0) [.v 0, .v 3] <|
    ir' 1 3 <|
    .bind (.elem 4 true 4 0) [.v 1, .v 3] <|
    .bind (.bin .neq 98 (.tmp 19) (.tmp 23)) [.v 6, .v 8] <|
    .ite (.v 9) (
      .ret [.c (.bool false)]) (
      .bind (.bin .add 3 (.tmp 13) (K' 1)) [.v 3, k' 1] <|
      .jump 1 [.v 0, .v 1, .v 2, .v 10])) (
    .ret [.c (.bool true)])
def u65Ts : Nat → Tree
  | 0 => u65T0
  | 1 => u65T1
  | _ => .fail
/-! 66 slices.EqualFunc[[]langdoc/api.Rule,[]langdoc/api.Rule,langdoc/api.Rule,langdoc/api.Rule] params #[43, 43, 164] -/
def u66P : Nat → Pat
  | 1 => ⟨[⟨.pure, false⟩, ⟨.pure, false⟩, ⟨.pure, false⟩, ⟨.pure, true⟩, ⟨.pure, true⟩], [(1, .v 0), (2, .v 1), (15, .v 2), (16, .v 3), (17, .v 4)], []⟩
  | _ => ⟨[], [], []⟩
def u66T0 : Tree :=
  ln' 0 <|
  ln' 1 <|
  .bind (.bin .neq 3 (.tmp 11) (.tmp 13)) [.v 3, .v 4] <|
  .ite (.v 5) (
    .ret [.c (.bool false)]) (
    ln' 0 <|
    .jump 1 [.v 1, .v 2, .v 0, .v 6, k' 0])
def u66T1 : Tree :=
  .bind (.bin .lss 3 (.tmp 17) (.tmp 16)) [.v 4, .v 3] <|
  .ite (.v 5) (
    ir' 2 4 <|
    .bind (.elem 6 true 6 0) [.v 2, .v 4] <|
    .bind (.chk true 6) [.v 7] <|
    ir' 0 4 <|
    .bind (.elem 6 true 6 0) [.v 0, .v 4] <|
    .bind (.chk true 6) [.v 10] <|
    .call (.val (.v 1)) [.v 1, .v 8, .v 11] 1 <|
    .bind (.un .not 4) [.v 12] <|
    .ite (.v 13) (
      .ret [.c (.bool false)]) (
      .bind (.bin .add 3 (.tmp 17) (K' 1)) [.v 4, k' 1] <|
      .jump 1 [.v 0, .v 1, .v 2, .v 3, .v 14])) (
    .ret [.c (.bool true)])
def u66Ts : Nat → Tree
  | 0 => u66T0
  | 1 => u66T1
  | _ => .fail
/-! 67 langdoc/langdocref24.Same params #[69, 69] -/
def u67P : Nat → Pat
  | 1 => ⟨[⟨.pure, true⟩, ⟨.pure, false⟩, ⟨.pure, false⟩], [(2, .loc 0 0), (3, .loc 1 0), (5, .v 0)], [some (.whole (.v 1) 8), some (.whole (.v 2) 8)]⟩
  | 2 => ⟨[⟨.pure, true⟩, ⟨.pure, false⟩, ⟨.pure, false⟩], [(2, .loc 0 0), (3, .loc 1 0), (6, .v 0)], [some (.whole (.v 1) 8), some (.whole (.v 2) 8)]⟩
  | 3 => ⟨[⟨.pure, true⟩, ⟨.pure, false⟩, ⟨.pure, false⟩], [(2, .loc 0 0), (3, .loc 1 0), (7, .v 0)], [some (.whole (.v 1) 8), some (.whole (.v 2) 8)]⟩
  | 4 => ⟨[⟨.pure, true⟩, ⟨.pure, false⟩, ⟨.pure, false⟩], [(2, .loc 0 0), (3, .loc 1 0), (8, .v 0)], [some (.whole (.v 1) 8), some (.whole (.v 2) 8)]⟩
  | _ => ⟨[], [], []⟩
def u67T0 : Tree :=
  .bind (.chk true 8) [.v 0] <|
  .bind (.chk true 8) [.v 1] <|
  fl' 0 2 <|
  fl' 0 3 <|
  .bind (.bin .neq 3 (.tmp 10) (.tmp 12)) [.v 4, .v 5] <|
  .ite (.v 6) (
    .ret [.c (.bool false)]) (
    fl' 2 2 <|
    fl' 2 3 <|
    .bind (.bin .neq 3 (.tmp 16) (.tmp 18)) [.v 7, .v 8] <|
    .ite (.v 9) (
      .ret [.c (.bool false)]) (
      fl' 4 2 <|
      fl' 4 3 <|
      .bind (.bin .neq 3 (.tmp 23) (.tmp 25)) [.v 10, .v 11] <|
      .ite (.v 12) (
        .ret [.c (.bool false)]) (
        fl' 1 2 <|
        fl' 1 3 <|
        .call (.fn 110) [.v 13, .v 14] 1 <|
        .bind (.un .not 4) [.v 15] <|
        .ite (.v 16) (
          .ret [.c (.bool false)]) (
          fl' 3 2 <|
          ln' 17 <|
          fl' 3 3 <|
          ln' 19 <|
          .bind (.bin .neq 3 (.tmp 39) (.tmp 42)) [.v 18, .v 20] <|
          .ite (.v 21) (
            .ret [.c (.bool false)]) (
            fl' 5 2 <|
            ln' 22 <|
            fl' 5 3 <|
            ln' 24 <|
            .bind (.bin .neq 3 (.tmp 48) (.tmp 51)) [.v 23, .v 25] <|
            .ite (.v 26) (
              .ret [.c (.bool false)]) (
              fl' 6 2 <|
              ln' 27 <|
              fl' 6 3 <|
              ln' 29 <|
              .bind (.bin .neq 3 (.tmp 57) (.tmp 60)) [.v 28, .v 30] <|
              .ite (.v 31) (
                .ret [.c (.bool false)]) (
                fl' 7 2 <|
                ln' 32 <|
                fl' 7 3 <|
                ln' 34 <|
                .bind (.bin .neq 3 (.tmp 66) (.tmp 69)) [.v 33, .v 35] <|
                .ite (.v 36) (
                  .ret [.c (.bool false)]) (
                  .jump 1 [k' 0, .v 2, .v 3]))))))))
def u67T1 : Tree :=
  fl' 3 1 <|
  ln' 3 <|
  .bind (.bin .lss 3 (.tmp 72) (.tmp 75)) [.v 0, .v 4] <|
  .ite (.v 5) (
    fl' 3 1 <|
    ir' 6 0 <|
    .bind (.elem 1 false 1 0) [.v 6, .v 0] <|
    fl' 3 2 <|
    ir' 9 0 <|
    .bind (.elem 1 false 1 0) [.v 9, .v 0] <|
    .call (.fn 110) [.v 8, .v 11] 1 <|
    .bind (.un .not 4) [.v 12] <|
    .ite (.v 13) (
      .ret [.c (.bool false)]) (
      .bind (.bin .add 3 (.tmp 77) (K' 1)) [.v 0, k' 1] <|
      .jump 1 [.v 14, .v 1, .v 2])) (
    .jump 2 [k' 0, .v 1, .v 2])
def u67T2 : Tree :=
  fl' 5 1 <|
  ln' 3 <|
  .bind (.bin .lss 3 (.tmp 91) (.tmp 94)) [.v 0, .v 4] <|
  .ite (.v 5) (
    fl' 5 1 <|
    ir' 6 0 <|
    .bind (.elem 2 true 2 0) [.v 6, .v 0] <|
    fl' 5 2 <|
    ir' 9 0 <|
    .bind (.elem 2 true 2 0) [.v 9, .v 0] <|
    .bind (.bin .neq 92 (.tmp 102) (.tmp 107)) [.v 8, .v 11] <|
    .ite (.v 12) (
      .ret [.c (.bool false)]) (
      .bind (.bin .add 3 (.tmp 96) (K' 1)) [.v 0, k' 1] <|
      .jump 2 [.v 13, .v 1, .v 2])) (
    .jump 3 [k' 0, .v 1, .v 2])
def u67T3 : Tree :=
  fl' 6 1 <|
  ln' 3 <|
  .bind (.bin .lss 3 (.tmp 109) (.tmp 112)) [.v 0, .v 4] <|
  .ite (.v 5) (
    fl' 6 1 <|
    ir' 6 0 <|
    .bind (.elem 2 true 2 0) [.v 6, .v 0] <|
    fl' 6 2 <|
    ir' 9 0 <|
    .bind (.elem 2 true 2 0) [.v 9, .v 0] <|
    .bind (.bin .neq 94 (.tmp 120) (.tmp 125)) [.v 8, .v 11] <|
    .ite (.v 12) (
      .ret [.c (.bool false)]) (
      .bind (.bin .add 3 (.tmp 114) (K' 1)) [.v 0, k' 1] <|
      .jump 3 [.v 13, .v 1, .v 2])) (
    .jump 4 [k' 0, .v 1, .v 2])
def u67T4 : Tree :=
  fl' 7 1 <|
  ln' 3 <|
  .bind (.bin .lss 3 (.tmp 127) (.tmp 130)) [.v 0, .v 4] <|
  .ite (.v 5) (
    fl' 7 1 <|
    ir' 6 0 <|
    .bind (.elem 2 true 2 0) [.v 6, .v 0] <|
    fl' 7 2 <|
    ir' 9 0 <|
    .bind (.elem 2 true 2 0) [.v 9, .v 0] <|
    .bind (.bin .neq 74 (.tmp 138) (.tmp 143)) [.v 8, .v 11] <|
    .ite (.v 12) (
      .ret [.c (.bool false)]) (
      .bind (.bin .add 3 (.tmp 132) (K' 1)) [.v 0, k' 1] <|
      .jump 4 [.v 13, .v 1, .v 2])) (
    .ret [.c (.bool true)])
def u67Ts : Nat → Tree
  | 0 => u67T0
  | 1 => u67T1
  | 2 => u67T2
  | 3 => u67T3
  | 4 => u67T4
  | _ => .fail
/-! 71 langdoc/langdocref12.Same params #[56, 56] -/
def u71P : Nat → Pat
  | 1 => ⟨[⟨.pure, true⟩, ⟨.pure, false⟩, ⟨.pure, false⟩], [(2, .loc 0 0), (3, .loc 1 0), (7, .v 0)], [some (.whole (.v 1) 7), some (.whole (.v 2) 7)]⟩
  | 2 => ⟨[⟨.pure, true⟩, ⟨.pure, false⟩, ⟨.pure, false⟩], [(2, .loc 0 0), (3, .loc 1 0), (8, .v 0)], [some (.whole (.v 1) 7), some (.whole (.v 2) 7)]⟩
  | _ => ⟨[], [], []⟩
def u71T0 : Tree :=
  .bind (.chk true 7) [.v 0] <|
  .bind (.chk true 7) [.v 1] <|
  .bind (.fld true 5 0) [.v 2] <|
  .bind (.fld true 5 0) [.v 3] <|
  .bind (.chk true 5) [.v 4] <|
  .bind (.chk true 5) [.v 5] <|
  fl' 0 6 <|
  fl' 0 7 <|
  .bind (.bin .neq 3 (.tmp 14) (.tmp 16)) [.v 8, .v 9] <|
  .ite (.v 10) (
    .ret [.c (.bool false)]) (
    fl' 1 6 <|
    fl' 1 7 <|
    .bind (.bin .neq 9 (.tmp 20) (.tmp 22)) [.v 11, .v 12] <|
    .ite (.v 13) (
      .ret [.c (.bool false)]) (
      fl' 2 6 <|
      fl' 2 7 <|
      .bind (.bin .neq 3 (.tmp 27) (.tmp 29)) [.v 14, .v 15] <|
      .ite (.v 16) (
        .ret [.c (.bool false)]) (
        fl' 3 6 <|
        fl' 3 7 <|
        .bind (.bin .neq 3 (.tmp 34) (.tmp 36)) [.v 17, .v 18] <|
        .ite (.v 19) (
          .ret [.c (.bool false)]) (
          fl' 4 6 <|
          fl' 4 7 <|
          .call (.fn 112) [.v 20, .v 21] 1 <|
          .bind (.un .not 4) [.v 22] <|
          .ite (.v 23) (
            .ret [.c (.bool false)]) (
            fl' 5 2 <|
            ln' 24 <|
            fl' 5 3 <|
            ln' 26 <|
            .bind (.bin .neq 3 (.tmp 49) (.tmp 52)) [.v 25, .v 27] <|
            .ite (.v 28) (
              .ret [.c (.bool false)]) (
              fl' 6 2 <|
              ln' 29 <|
              fl' 6 3 <|
              ln' 31 <|
              .bind (.bin .neq 3 (.tmp 57) (.tmp 60)) [.v 30, .v 32] <|
              .ite (.v 33) (
                .ret [.c (.bool false)]) (
                .jump 1 [k' 0, .v 2, .v 3])))))))
def u71T1 : Tree :=
  fl' 5 1 <|
  ln' 3 <|
  .bind (.bin .lss 3 (.tmp 63) (.tmp 66)) [.v 0, .v 4] <|
  .ite (.v 5) (
    fl' 5 1 <|
    ir' 6 0 <|
    .bind (.elem 4 true 4 0) [.v 6, .v 0] <|
    fl' 5 2 <|
    ir' 9 0 <|
    .bind (.elem 4 true 4 0) [.v 9, .v 0] <|
    .bind (.bin .neq 100 (.tmp 74) (.tmp 79)) [.v 8, .v 11] <|
    .ite (.v 12) (
      .ret [.c (.bool false)]) (
      .bind (.bin .add 3 (.tmp 68) (K' 1)) [.v 0, k' 1] <|
      .jump 1 [.v 13, .v 1, .v 2])) (
    .jump 2 [k' 0, .v 1, .v 2])
def u71T2 : Tree :=
  fl' 6 1 <|
  ln' 3 <|
  .bind (.bin .lss 3 (.tmp 81) (.tmp 84)) [.v 0, .v 4] <|
  .ite (.v 5) (
    fl' 6 1 <|
    ir' 6 0 <|
    .bind (.elem 7 true 7 0) [.v 6, .v 0] <|
    fl' 6 2 <|
    ir' 9 0 <|
    .bind (.elem 7 true 7 0) [.v 9, .v 0] <|
    .bind (.bin .neq 104 (.tmp 92) (.tmp 97)) [.v 8, .v 11] <|
    .ite (.v 12) (
      .ret [.c (.bool false)]) (
      .bind (.bin .add 3 (.tmp 86) (K' 1)) [.v 0, k' 1] <|
      .jump 2 [.v 13, .v 1, .v 2])) (
    .ret [.c (.bool true)])
def u71Ts : Nat → Tree
  | 0 => u71T0
  | 1 => u71T1
  | 2 => u71T2
  | _ => .fail
/-! 72 langdoc/langdocref29.Same params #[115, 115] -/
def u72P : Nat → Pat
  | _ => ⟨[], [], []⟩
def u72T0 : Tree :=
  .bind (.chk true 1) [.v 0] <|
  .bind (.chk true 1) [.v 1] <|
  .call (.fn 113) [.v 2, .v 3] 1 <|
  .bind (.un .not 4) [.v 4] <|
  .ite (.v 5) (
    .call (.fn 113) [.v 3, .v 2] 1 <|
    .bind (.un .not 4) [.v 6] <|
    .ret [.v 7]) (
    .ret [.c (.bool false)])
def u72Ts : Nat → Tree
  | 0 => u72T0
  | _ => .fail
/-! 73 langdoc/langdocref48.sameInts params #[31, 31] -/
def u73P : Nat → Pat
  | 1 => ⟨[⟨.pure, false⟩, ⟨.pure, false⟩, ⟨.pure, true⟩], [(0, .v 0), (1, .v 1), (5, .v 2)], []⟩
  | _ => ⟨[], [], []⟩
def u73T0 : Tree :=
  ln' 0 <|
  ln' 1 <|
  .bind (.bin .neq 3 (.tmp 7) (.tmp 9)) [.v 2, .v 3] <|
  .ite (.v 4) (
    .ret [.c (.bool false)]) (
    .jump 1 [.v 0, .v 1, k' 0])
def u73T1 : Tree :=
  ln' 0 <|
  .bind (.bin .lss 3 (.tmp 11) (.tmp 13)) [.v 2, .v 3] <|
  .ite (.v 4) (
    ir' 0 2 <|
    .bind (.elem 1 false 1 0) [.v 0, .v 2] <|
    ir' 1 2 <|
    .bind (.elem 1 false 1 0) [.v 1, .v 2] <|
    .bind (.bin .neq 3 (.tmp 20) (.tmp 24)) [.v 6, .v 8] <|
    .ite (.v 9) (
      .ret [.c (.bool false)]) (
      .bind (.bin .add 3 (.tmp 15) (K' 1)) [.v 2, k' 1] <|
      .jump 1 [.v 0, .v 1, .v 10])) (
    .ret [.c (.bool true)])
def u73Ts : Nat → Tree
  | 0 => u73T0
  | 1 => u73T1
  | _ => .fail
/-! 74 langdoc/langdocref48.sameRefs params #[67, 67] -/
def u74P : Nat → Pat
  | 1 => ⟨[⟨.pure, false⟩, ⟨.pure, false⟩, ⟨.pure, true⟩], [(0, .v 0), (1, .v 1), (5, .v 2)], []⟩
  | _ => ⟨[], [], []⟩
def u74T0 : Tree :=
  ln' 0 <|
  ln' 1 <|
  .bind (.bin .neq 3 (.tmp 7) (.tmp 9)) [.v 2, .v 3] <|
  .ite (.v 4) (
    .ret [.c (.bool false)]) (
    .jump 1 [.v 0, .v 1, k' 0])
def u74T1 : Tree :=
  ln' 0 <|
  .bind (.bin .lss 3 (.tmp 11) (.tmp 13)) [.v 2, .v 3] <|
  .ite (.v 4) (
    ir' 0 2 <|
    .bind (.elem 2 true 2 0) [.v 0, .v 2] <|
    ir' 1 2 <|
    .bind (.elem 2 true 2 0) [.v 1, .v 2] <|
    .bind (.bin .neq 74 (.tmp 20) (.tmp 24)) [.v 6, .v 8] <|
    .ite (.v 9) (
      .ret [.c (.bool false)]) (
      .bind (.bin .add 3 (.tmp 15) (K' 1)) [.v 2, k' 1] <|
      .jump 1 [.v 0, .v 1, .v 10])) (
    .ret [.c (.bool true)])
def u74Ts : Nat → Tree
  | 0 => u74T0
  | 1 => u74T1
  | _ => .fail
/-! 75 langdoc/langdocref48.sameGroups params #[41, 41] -/
def u75P : Nat → Pat
  | 1 => ⟨[⟨.pure, false⟩, ⟨.pure, false⟩, ⟨.pure, true⟩], [(0, .v 0), (1, .v 1), (5, .v 2)], []⟩
  | _ => ⟨[], [], []⟩
def u75T0 : Tree :=
  ln' 0 <|
  ln' 1 <|
  .bind (.bin .neq 3 (.tmp 9) (.tmp 11)) [.v 2, .v 3] <|
  .ite (.v 4) (
    .ret [.c (.bool false)]) (
    .jump 1 [.v 0, .v 1, k' 0])
def u75T1 : Tree :=
  ln' 0 <|
  .bind (.bin .lss 3 (.tmp 13) (.tmp 15)) [.v 2, .v 3] <|
  .ite (.v 4) (
    ir' 0 2 <|
    .bind (.elem 4 true 4 0) [.v 0, .v 2] <|
    ir' 1 2 <|
    .bind (.elem 4 true 4 0) [.v 1, .v 2] <|
    .bind (.chk true 4) [.v 6] <|
    .bind (.chk true 4) [.v 8] <|
    ir' 0 2 <|
    ir' 1 2 <|
    fl' 0 9 <|
    fl' 0 10 <|
    .bind (.bin .neq 3 (.tmp 28) (.tmp 30)) [.v 13, .v 14] <|
    .ite (.v 15) (
      .ret [.c (.bool false)]) (
      fl' 1 9 <|
      fl' 1 10 <|
      .bind (.bin .neq 9 (.tmp 34) (.tmp 36)) [.v 16, .v 17] <|
      .ite (.v 18) (
        .ret [.c (.bool false)]) (
        fl' 2 9 <|
        fl' 2 10 <|
        .call (.fn 73) [.v 19, .v 20] 1 <|
        .bind (.un .not 4) [.v 21] <|
        .ite (.v 22) (
          .ret [.c (.bool false)]) (
          fl' 3 9 <|
          fl' 3 10 <|
          .call (.fn 73) [.v 23, .v 24] 1 <|
          .bind (.un .not 4) [.v 25] <|
          .ite (.v 26) (
            .ret [.c (.bool false)]) (
            .bind (.bin .add 3 (.tmp 17) (K' 1)) [.v 2, k' 1] <|
            .jump 1 [.v 0, .v 1, .v 27]))))) (
    .ret [.c (.bool true)])
def u75Ts : Nat → Tree
  | 0 => u75T0
  | 1 => u75T1
  | _ => .fail
/-! 76 langdoc/langdocref48.sameRules params #[43, 43] -/
def u76P : Nat → Pat
  | 1 => ⟨[⟨.pure, false⟩, ⟨.pure, false⟩, ⟨.pure, true⟩], [(0, .v 0), (1, .v 1), (5, .v 2)], []⟩
  | _ => ⟨[], [], []⟩
def u76T0 : Tree :=
  ln' 0 <|
  ln' 1 <|
  .bind (.bin .neq 3 (.tmp 9) (.tmp 11)) [.v 2, .v 3] <|
  .ite (.v 4) (
    .ret [.c (.bool false)]) (
    .jump 1 [.v 0, .v 1, k' 0])
def u76T1 : Tree :=
  ln' 0 <|
  .bind (.bin .lss 3 (.tmp 13) (.tmp 15)) [.v 2, .v 3] <|
  .ite (.v 4) (
    ir' 0 2 <|
    .bind (.elem 6 true 6 0) [.v 0, .v 2] <|
    ir' 1 2 <|
    .bind (.elem 6 true 6 0) [.v 1, .v 2] <|
    .bind (.chk true 6) [.v 6] <|
    .bind (.chk true 6) [.v 8] <|
    ir' 0 2 <|
    ir' 1 2 <|
    fl' 0 9 <|
    fl' 0 10 <|
    .bind (.bin .neq 3 (.tmp 28) (.tmp 30)) [.v 13, .v 14] <|
    .ite (.v 15) (
      .ret [.c (.bool false)]) (
      .bind (.fld true 2 1) [.v 9] <|
      .bind (.fld true 2 1) [.v 10] <|
      .bind (.bin .neq 102 (.tmp 34) (.tmp 36)) [.v 16, .v 17] <|
      .ite (.v 18) (
        .ret [.c (.bool false)]) (
        fl' 3 9 <|
        fl' 3 10 <|
        .bind (.bin .neq 3 (.tmp 42) (.tmp 45)) [.v 19, .v 20] <|
        .ite (.v 21) (
          .ret [.c (.bool false)]) (
          fl' 5 9 <|
          fl' 5 10 <|
          .bind (.bin .neq 3 (.tmp 51) (.tmp 54)) [.v 22, .v 23] <|
          .ite (.v 24) (
            .ret [.c (.bool false)]) (
            fl' 4 9 <|
            fl' 4 10 <|
            .call (.fn 73) [.v 25, .v 26] 1 <|
            .bind (.un .not 4) [.v 27] <|
            .ite (.v 28) (
              .ret [.c (.bool false)]) (
              .bind (.bin .add 3 (.tmp 17) (K' 1)) [.v 2, k' 1] <|
              .jump 1 [.v 0, .v 1, .v 29])))))) (
    .ret [.c (.bool true)])
def u76Ts : Nat → Tree
  | 0 => u76T0
  | 1 => u76T1
  | _ => .fail
/-! 108 slices.EqualFunc[[]langdoc/api.Entry,[]langdoc/api.Entry,langdoc/api.Entry,langdoc/api.Entry] params #[34, 34, 169] -/
def u108P : Nat → Pat
  | 1 => ⟨[⟨.pure, false⟩, ⟨.pure, false⟩, ⟨.pure, false⟩, ⟨.pure, true⟩, ⟨.pure, true⟩], [(1, .v 0), (2, .v 1), (15, .v 2), (16, .v 3), (17, .v 4)], []⟩
  | _ => ⟨[], [], []⟩
def u108T0 : Tree :=
  ln' 0 <|
  ln' 1 <|
  .bind (.bin .neq 3 (.tmp 11) (.tmp 13)) [.v 3, .v 4] <|
  .ite (.v 5) (
    .ret [.c (.bool false)]) (
    ln' 0 <|
    .jump 1 [.v 1, .v 2, .v 0, .v 6, k' 0])
def u108T1 : Tree :=
  .bind (.bin .lss 3 (.tmp 17) (.tmp 16)) [.v 4, .v 3] <|
  .ite (.v 5) (
    ir' 2 4 <|
    .bind (.elem 8 true 8 0) [.v 2, .v 4] <|
    .bind (.chk true 8) [.v 7] <|
    ir' 0 4 <|
    .bind (.elem 8 true 8 0) [.v 0, .v 4] <|
    .bind (.chk true 8) [.v 10] <|
    .call (.val (.v 1)) [.v 1, .v 8, .v 11] 1 <|
    .bind (.un .not 4) [.v 12] <|
    .ite (.v 13) (
      .ret [.c (.bool false)]) (
      .bind (.bin .add 3 (.tmp 17) (K' 1)) [.v 4, k' 1] <|
      .jump 1 [.v 0, .v 1, .v 2, .v 3, .v 14])) (
    .ret [.c (.bool true)])
def u108Ts : Nat → Tree
  | 0 => u108T0
  | 1 => u108T1
  | _ => .fail
/-! 109 langdoc/entry.Same params #[69, 69] -/
def u109P : Nat → Pat
  | _ => ⟨[], [], []⟩
def u109T0 : Tree :=
  .bind (.chk true 8) [.v 0] <|
  .bind (.chk true 8) [.v 1] <|
  fl' 0 2 <|
  fl' 0 3 <|
  .bind (.bin .neq 3 (.tmp 6) (.tmp 8)) [.v 4, .v 5] <|
  .ite (.v 6) (
    .ret [.c (.bool false)]) (
    fl' 2 2 <|
    fl' 2 3 <|
    .bind (.bin .neq 3 (.tmp 12) (.tmp 14)) [.v 7, .v 8] <|
    .ite (.v 9) (
      .ret [.c (.bool false)]) (
      fl' 4 2 <|
      fl' 4 3 <|
      .bind (.bin .neq 3 (.tmp 19) (.tmp 21)) [.v 10, .v 11] <|
      .ite (.v 12) (
        .ret [.c (.bool false)]) (
        fl' 1 2 <|
        fl' 1 3 <|
        .call (.fn 45) [.v 13, .v 14] 1 <|
        .bind (.un .not 4) [.v 15] <|
        .ite (.v 16) (
          .ret [.c (.bool false)]) (
          fl' 3 2 <|
          fl' 3 3 <|
          .call (.fn 153) [.v 17, .v 18, .fn (.func 45) [] []] 1 <|
          .ite (.v 19) (
            fl' 5 2 <|
            fl' 5 3 <|
            .call (.fn 154) [.v 20, .v 21] 1 <|
            .ite (.v 22) (
              fl' 6 2 <|
              fl' 6 3 <|
              .call (.fn 155) [.v 23, .v 24] 1 <|
              .ite (.v 25) (
                fl' 7 2 <|
                fl' 7 3 <|
                .call (.fn 60) [.v 26, .v 27] 1 <|
                .ret [.v 28]) (
                .ret [.c (.bool false)])) (
              .ret [.c (.bool false)])) (
            .ret [.c (.bool false)])))))
def u109Ts : Nat → Tree
  | 0 => u109T0
  | _ => .fail
/-! 110 langdoc/langdocref01.Same params #[31, 31] -/
def u110P : Nat → Pat
  | 1 => ⟨[⟨.pure, false⟩, ⟨.pure, false⟩, ⟨.pure, true⟩, ⟨.pure, true⟩], [(0, .v 0), (1, .v 1), (12, .v 2), (13, .v 3)], []⟩
  | _ => ⟨[], [], []⟩
def u110T0 : Tree :=
  ln' 0 <|
  ln' 1 <|
  .bind (.bin .neq 3 (.tmp 7) (.tmp 9)) [.v 2, .v 3] <|
  .ite (.v 4) (
    .ret [.c (.bool false)]) (
    ln' 0 <|
    .jump 1 [.v 0, .v 1, .v 5, k' 0])
def u110T1 : Tree :=
  .bind (.bin .lss 3 (.tmp 13) (.tmp 12)) [.v 3, .v 2] <|
  .ite (.v 4) (
    ir' 0 3 <|
    .bind (.elem 1 false 1 0) [.v 0, .v 3] <|
    ir' 1 3 <|
    .bind (.elem 1 false 1 0) [.v 1, .v 3] <|
    .bind (.bin .neq 3 (.tmp 19) (.tmp 23)) [.v 6, .v 8] <|
    .ite (.v 9) (
      .ret [.c (.bool false)]) (
      .bind (.bin .add 3 (.tmp 13) (K' 1)) [.v 3, k' 1] <|
      .jump 1 [.v 0, .v 1, .v 2, .v 10])) (
    .ret [.c (.bool true)])
def u110Ts : Nat → Tree
  | 0 => u110T0
  | 1 => u110T1
  | _ => .fail
/-! 113 langdoc/langdocref29.Less params #[115, 115] -/
def u113P : Nat → Pat
  | 1 => ⟨[⟨.pure, true⟩, ⟨.pure, false⟩, ⟨.pure, false⟩], [(2, .loc 0 0), (3, .loc 1 0), (5, .v 0)], [some (.whole (.v 1) 1), some (.whole (.v 2) 1)]⟩
  | _ => ⟨[], [], []⟩
def u113T0 : Tree :=
  .bind (.chk true 1) [.v 0] <|
  .bind (.chk true 1) [.v 1] <|
  .jump 1 [k' 0, .v 2, .v 3]
def u113T1 : Tree :=
  fl' 0 1 <|
  ln' 3 <|
  .bind (.bin .lss 3 (.tmp 6) (.tmp 9)) [.v 0, .v 4] <|
  .ite (.v 5) (
    fl' 0 2 <|
    ln' 6 <|
    .bind (.bin .lss 3 (.tmp 12) (.tmp 15)) [.v 0, .v 7] <|
    .ite (.v 8) (
      fl' 0 1 <|
      ir' 9 0 <|
      .bind (.elem 3 true 3 0) [.v 9, .v 0] <|
      fl' 0 2 <|
      ir' 12 0 <|
      .bind (.elem 3 true 3 0) [.v 12, .v 0] <|
      .bind (.bin .neq 154 (.tmp 24) (.tmp 29)) [.v 11, .v 14] <|
      .ite (.v 15) (
        fl' 0 1 <|
        ir' 16 0 <|
        .bind (.elem 3 true 3 0) [.v 16, .v 0] <|
        fl' 0 2 <|
        ir' 19 0 <|
        .bind (.elem 3 true 3 0) [.v 19, .v 0] <|
        .call (.fn 156) [.v 18, .v 21] 1 <|
        .ret [.v 22]) (
        .bind (.bin .add 3 (.tmp 18) (K' 1)) [.v 0, k' 1] <|
        .jump 1 [.v 16, .v 1, .v 2])) (
      fl' 0 1 <|
      ln' 9 <|
      fl' 0 2 <|
      ln' 11 <|
      .bind (.bin .lss 3 (.tmp 44) (.tmp 47)) [.v 10, .v 12] <|
      .ret [.v 13])) (
    fl' 0 1 <|
    ln' 6 <|
    fl' 0 2 <|
    ln' 8 <|
    .bind (.bin .lss 3 (.tmp 44) (.tmp 47)) [.v 7, .v 9] <|
    .ret [.v 10])
def u113Ts : Nat → Tree
  | 0 => u113T0
  | 1 => u113T1
  | _ => .fail
/-! 153 slices.EqualFunc[[][]int,[][]int,[]int,[]int] params #[64, 64, 132] -/
def u153P : Nat → Pat
  | 1 => ⟨[⟨.pure, false⟩, ⟨.pure, false⟩, ⟨.pure, false⟩, ⟨.pure, true⟩, ⟨.pure, true⟩], [(1, .v 0), (2, .v 1), (15, .v 2), (16, .v 3), (17, .v 4)], []⟩
  | _ => ⟨[], [], []⟩
def u153T0 : Tree :=
  ln' 0 <|
  ln' 1 <|
  .bind (.bin .neq 3 (.tmp 11) (.tmp 13)) [.v 3, .v 4] <|
  .ite (.v 5) (
    .ret [.c (.bool false)]) (
    ln' 0 <|
    .jump 1 [.v 1, .v 2, .v 0, .v 6, k' 0])
def u153T1 : Tree :=
  .bind (.bin .lss 3 (.tmp 17) (.tmp 16)) [.v 4, .v 3] <|
  .ite (.v 5) (
    ir' 2 4 <|
    .bind (.elem 1 false 1 0) [.v 2, .v 4] <|
    ir' 0 4 <|
    .bind (.elem 1 false 1 0) [.v 0, .v 4] <|
    .call (.val (.v 1)) [.v 1, .v 7, .v 9] 1 <|
    .bind (.un .not 4) [.v 10] <|
    .ite (.v 11) (
      .ret [.c (.bool false)]) (
      .bind (.bin .add 3 (.tmp 17) (K' 1)) [.v 4, k' 1] <|
      .jump 1 [.v 0, .v 1, .v 2, .v 3, .v 12])) (
    .ret [.c (.bool true)])
def u153Ts : Nat → Tree
  | 0 => u153T0
  | 1 => u153T1
  | _ => .fail
/-! 154 slices.Equal[[]langdoc/api.Sense,langdoc/api.Sense] params #[65, 65] -/
def u154P : Nat → Pat
  | 1 => ⟨[⟨.pure, false⟩, ⟨.pure, false⟩, ⟨.pure, true⟩, ⟨.pure, true⟩], [(0, .v 0), (1, .v 1), (12, .v 2), (13, .v 3)], []⟩
  | _ => ⟨[], [], []⟩
def u154T0 : Tree :=
  ln' 0 <|
  ln' 1 <|
  .bind (.bin .neq 3 (.tmp 7) (.tmp 9)) [.v 2, .v 3] <|
  .ite (.v 4) (
    .ret [.c (.bool false)]) (
    ln' 0 <|
    .jump 1 [.v 0, .v 1, .v 5, k' 0])
def u154T1 : Tree :=
  .bind (.bin .lss 3 (.tmp 13) (.tmp 12)) [.v 3, .v 2] <|
  .ite (.v 4) (
    ir' 0 3 <|
    .bind (.elem 2 true 2 0) [.v 0, .v 3] <|
    ir' 1 3 <|
    .bind (.elem 2 true 2 0) [.v 1, .v 3] <|
    .bind (.bin .neq 92 (.tmp 19) (.tmp 23)) [.v 6, .v 8] <|
    .ite (.v 9) (
      .ret [.c (.bool false)]) (
      .bind (.bin .add 3 (.tmp 13) (K' 1)) [.v 3, k' 1] <|
      .jump 1 [.v 0, .v 1, .v 2, .v 10])) (
    .ret [.c (.bool true)])
def u154Ts : Nat → Tree
  | 0 => u154T0
  | 1 => u154T1
  | _ => .fail
/-! 155 slices.Equal[[]langdoc/api.Link,langdoc/api.Link] params #[66, 66] -/
def u155P : Nat → Pat
  | 1 => ⟨[⟨.pure, false⟩, ⟨.pure, false⟩, ⟨.pure, true⟩, ⟨.pure, true⟩], [(0, .v 0), (1, .v 1), (12, .v 2), (13, .v 3)], []⟩
  | _ => ⟨[], [], []⟩
def u155T0 : Tree :=
  ln' 0 <|
  ln' 1 <|
  .bind (.bin .neq 3 (.tmp 7) (.tmp 9)) [.v 2, .v 3] <|
  .ite (.v 4) (
    .ret [.c (.bool false)]) (
    ln' 0 <|
    .jump 1 [.v 0, .v 1, .v 5, k' 0])
def u155T1 : Tree :=
  .bind (.bin .lss 3 (.tmp 13) (.tmp 12)) [.v 3, .v 2] <|
  .ite (.v 4) (
    ir' 0 3 <|
    .bind (.elem 2 true 2 0) [.v 0, .v 3] <|
    ir' 1 3 <|
    .bind (.elem 2 true 2 0) [.v 1, .v 3] <|
    .bind (.bin .neq 94 (.tmp 19) (.tmp 23)) [.v 6, .v 8] <|
    .ite (.v 9) (
      .ret [.c (.bool false)]) (
      .bind (.bin .add 3 (.tmp 13) (K' 1)) [.v 3, k' 1] <|
      .jump 1 [.v 0, .v 1, .v 2, .v 10])) (
    .ret [.c (.bool true)])
def u155Ts : Nat → Tree
  | 0 => u155T0
  | 1 => u155T1
  | _ => .fail
theorem all7 : (rootT EE (fun k S => jumpS (Nat.max Tryz.f3.ntmps 2) (u3P k) k S) Tryz.f3 2,
  headsT EE (fun k => (u3P k).st (Nat.max Tryz.f3.ntmps 2)) (fun k S => jumpS (Nat.max Tryz.f3.ntmps 2) (u3P k) k S) 1 (bodyOf Tryz.f3) (endK EE Tryz.f3.results.toList),
  (Tryz.f3.name == "runtime.NumGoroutine" || !regsOk (bodyOf Tryz.f3)),
  rootT EE (fun k S => jumpS (Nat.max Tryz.f4.ntmps 1) (u4P k) k S) Tryz.f4 1,
  headsT EE (fun k => (u4P k).st (Nat.max Tryz.f4.ntmps 1)) (fun k S => jumpS (Nat.max Tryz.f4.ntmps 1) (u4P k) k S) 1 (bodyOf Tryz.f4) (endK EE Tryz.f4.results.toList),
  (Tryz.f4.name == "runtime.NumGoroutine" || !regsOk (bodyOf Tryz.f4)),
  rootT EE (fun k S => jumpS (Nat.max Tryz.f6.ntmps 2) (u6P k) k S) Tryz.f6 2,
  headsT EE (fun k => (u6P k).st (Nat.max Tryz.f6.ntmps 2)) (fun k S => jumpS (Nat.max Tryz.f6.ntmps 2) (u6P k) k S) 1 (bodyOf Tryz.f6) (endK EE Tryz.f6.results.toList),
  (Tryz.f6.name == "runtime.NumGoroutine" || !regsOk (bodyOf Tryz.f6)),
  rootT EE (fun k S => jumpS (Nat.max Tryz.f7.ntmps 2) (u7P k) k S) Tryz.f7 2,
  headsT EE (fun k => (u7P k).st (Nat.max Tryz.f7.ntmps 2)) (fun k S => jumpS (Nat.max Tryz.f7.ntmps 2) (u7P k) k S) 1 (bodyOf Tryz.f7) (endK EE Tryz.f7.results.toList),
  (Tryz.f7.name == "runtime.NumGoroutine" || !regsOk (bodyOf Tryz.f7)),
  rootT EE (fun k S => jumpS (Nat.max Tryz.f14.ntmps 2) (u14P k) k S) Tryz.f14 2,
  headsT EE (fun k => (u14P k).st (Nat.max Tryz.f14.ntmps 2)) (fun k S => jumpS (Nat.max Tryz.f14.ntmps 2) (u14P k) k S) 1 (bodyOf Tryz.f14) (endK EE Tryz.f14.results.toList),
  (Tryz.f14.name == "runtime.NumGoroutine" || !regsOk (bodyOf Tryz.f14)),
  rootT EE (fun k S => jumpS (Nat.max Tryz.f15.ntmps 3) (u15P k) k S) Tryz.f15 3,
  headsT EE (fun k => (u15P k).st (Nat.max Tryz.f15.ntmps 3)) (fun k S => jumpS (Nat.max Tryz.f15.ntmps 3) (u15P k) k S) 1 (bodyOf Tryz.f15) (endK EE Tryz.f15.results.toList),
  (Tryz.f15.name == "runtime.NumGoroutine" || !regsOk (bodyOf Tryz.f15)),
  rootT EE (fun k S => jumpS (Nat.max Tryz.f16.ntmps 2) (u16P k) k S) Tryz.f16 2,
  headsT EE (fun k => (u16P k).st (Nat.max Tryz.f16.ntmps 2)) (fun k S => jumpS (Nat.max Tryz.f16.ntmps 2) (u16P k) k S) 1 (bodyOf Tryz.f16) (endK EE Tryz.f16.results.toList),
  (Tryz.f16.name == "runtime.NumGoroutine" || !regsOk (bodyOf Tryz.f16)),
  rootT EE (fun k S => jumpS (Nat.max Tryz.f17.ntmps 2) (u17P k) k S) Tryz.f17 2,
  headsT EE (fun k => (u17P k).st (Nat.max Tryz.f17.ntmps 2)) (fun k S => jumpS (Nat.max Tryz.f17.ntmps 2) (u17P k) k S) 1 (bodyOf Tryz.f17) (endK EE Tryz.f17.results.toList),
  (Tryz.f17.name == "runtime.NumGoroutine" || !regsOk (bodyOf Tryz.f17)),
  rootT EE (fun k S => jumpS (Nat.max Tryz.f18.ntmps 3) (u18P k) k S) Tryz.f18 3,
  headsT EE (fun k => (u18P k).st (Nat.max Tryz.f18.ntmps 3)) (fun k S => jumpS (Nat.max Tryz.f18.ntmps 3) (u18P k) k S) 1 (bodyOf Tryz.f18) (endK EE Tryz.f18.results.toList),
  (Tryz.f18.name == "runtime.NumGoroutine" || !regsOk (bodyOf Tryz.f18)),
  rootT EE (fun k S => jumpS (Nat.max Tryz.f19.ntmps 2) (u19P k) k S) Tryz.f19 2,
  headsT EE (fun k => (u19P k).st (Nat.max Tryz.f19.ntmps 2)) (fun k S => jumpS (Nat.max Tryz.f19.ntmps 2) (u19P k) k S) 1 (bodyOf Tryz.f19) (endK EE Tryz.f19.results.toList),
  (Tryz.f19.name == "runtime.NumGoroutine" || !regsOk (bodyOf Tryz.f19)),
  rootT EE (fun k S => jumpS (Nat.max Tryz.f20.ntmps 2) (u20P k) k S) Tryz.f20 2,
  headsT EE (fun k => (u20P k).st (Nat.max Tryz.f20.ntmps 2)) (fun k S => jumpS (Nat.max Tryz.f20.ntmps 2) (u20P k) k S) 1 (bodyOf Tryz.f20) (endK EE Tryz.f20.results.toList),
  (Tryz.f20.name == "runtime.NumGoroutine" || !regsOk (bodyOf Tryz.f20)),
  rootT EE (fun k S => jumpS (Nat.max Tryz.f21.ntmps 2) (u21P k) k S) Tryz.f21 2,
  headsT EE (fun k => (u21P k).st (Nat.max Tryz.f21.ntmps 2)) (fun k S => jumpS (Nat.max Tryz.f21.ntmps 2) (u21P k) k S) 1 (bodyOf Tryz.f21) (endK EE Tryz.f21.results.toList),
  (Tryz.f21.name == "runtime.NumGoroutine" || !regsOk (bodyOf Tryz.f21)),
  rootT EE (fun k S => jumpS (Nat.max Tryz.f22.ntmps 2) (u22P k) k S) Tryz.f22 2,
  headsT EE (fun k => (u22P k).st (Nat.max Tryz.f22.ntmps 2)) (fun k S => jumpS (Nat.max Tryz.f22.ntmps 2) (u22P k) k S) 1 (bodyOf Tryz.f22) (endK EE Tryz.f22.results.toList),
  (Tryz.f22.name == "runtime.NumGoroutine" || !regsOk (bodyOf Tryz.f22)),
  rootT EE (fun k S => jumpS (Nat.max Tryz.f23.ntmps 2) (u23P k) k S) Tryz.f23 2,
  headsT EE (fun k => (u23P k).st (Nat.max Tryz.f23.ntmps 2)) (fun k S => jumpS (Nat.max Tryz.f23.ntmps 2) (u23P k) k S) 1 (bodyOf Tryz.f23) (endK EE Tryz.f23.results.toList),
  (Tryz.f23.name == "runtime.NumGoroutine" || !regsOk (bodyOf Tryz.f23)),
  rootT EE (fun k S => jumpS (Nat.max Tryz.f24.ntmps 2) (u24P k) k S) Tryz.f24 2,
  headsT EE (fun k => (u24P k).st (Nat.max Tryz.f24.ntmps 2)) (fun k S => jumpS (Nat.max Tryz.f24.ntmps 2) (u24P k) k S) 1 (bodyOf Tryz.f24) (endK EE Tryz.f24.results.toList),
  (Tryz.f24.name == "runtime.NumGoroutine" || !regsOk (bodyOf Tryz.f24)),
  rootT EE (fun k S => jumpS (Nat.max Tryz.f25.ntmps 2) (u25P k) k S) Tryz.f25 2,
  headsT EE (fun k => (u25P k).st (Nat.max Tryz.f25.ntmps 2)) (fun k S => jumpS (Nat.max Tryz.f25.ntmps 2) (u25P k) k S) 1 (bodyOf Tryz.f25) (endK EE Tryz.f25.results.toList),
  (Tryz.f25.name == "runtime.NumGoroutine" || !regsOk (bodyOf Tryz.f25)),
  rootT EE (fun k S => jumpS (Nat.max Tryz.f44.ntmps 2) (u44P k) k S) Tryz.f44 2,
  headsT EE (fun k => (u44P k).st (Nat.max Tryz.f44.ntmps 2)) (fun k S => jumpS (Nat.max Tryz.f44.ntmps 2) (u44P k) k S) 1 (bodyOf Tryz.f44) (endK EE Tryz.f44.results.toList),
  (Tryz.f44.name == "runtime.NumGoroutine" || !regsOk (bodyOf Tryz.f44)),
  rootT EE (fun k S => jumpS (Nat.max Tryz.f45.ntmps 2) (u45P k) k S) Tryz.f45 2,
  headsT EE (fun k => (u45P k).st (Nat.max Tryz.f45.ntmps 2)) (fun k S => jumpS (Nat.max Tryz.f45.ntmps 2) (u45P k) k S) 1 (bodyOf Tryz.f45) (endK EE Tryz.f45.results.toList),
  (Tryz.f45.name == "runtime.NumGoroutine" || !regsOk (bodyOf Tryz.f45)),
  rootT EE (fun k S => jumpS (Nat.max Tryz.f46.ntmps 2) (u46P k) k S) Tryz.f46 2,
  headsT EE (fun k => (u46P k).st (Nat.max Tryz.f46.ntmps 2)) (fun k S => jumpS (Nat.max Tryz.f46.ntmps 2) (u46P k) k S) 1 (bodyOf Tryz.f46) (endK EE Tryz.f46.results.toList),
  (Tryz.f46.name == "runtime.NumGoroutine" || !regsOk (bodyOf Tryz.f46)),
  rootT EE (fun k S => jumpS (Nat.max Tryz.f47.ntmps 2) (u47P k) k S) Tryz.f47 2,
  headsT EE (fun k => (u47P k).st (Nat.max Tryz.f47.ntmps 2)) (fun k S => jumpS (Nat.max Tryz.f47.ntmps 2) (u47P k) k S) 1 (bodyOf Tryz.f47) (endK EE Tryz.f47.results.toList),
  (Tryz.f47.name == "runtime.NumGoroutine" || !regsOk (bodyOf Tryz.f47)),
  rootT EE (fun k S => jumpS (Nat.max Tryz.f48.ntmps 3) (u48P k) k S) Tryz.f48 3,
  headsT EE (fun k => (u48P k).st (Nat.max Tryz.f48.ntmps 3)) (fun k S => jumpS (Nat.max Tryz.f48.ntmps 3) (u48P k) k S) 1 (bodyOf Tryz.f48) (endK EE Tryz.f48.results.toList),
  (Tryz.f48.name == "runtime.NumGoroutine" || !regsOk (bodyOf Tryz.f48)),
  rootT EE (fun k S => jumpS (Nat.max Tryz.f49.ntmps 3) (u49P k) k S) Tryz.f49 3,
  headsT EE (fun k => (u49P k).st (Nat.max Tryz.f49.ntmps 3)) (fun k S => jumpS (Nat.max Tryz.f49.ntmps 3) (u49P k) k S) 1 (bodyOf Tryz.f49) (endK EE Tryz.f49.results.toList),
  (Tryz.f49.name == "runtime.NumGoroutine" || !regsOk (bodyOf Tryz.f49)),
  rootT EE (fun k S => jumpS (Nat.max Tryz.f50.ntmps 2) (u50P k) k S) Tryz.f50 2,
  headsT EE (fun k => (u50P k).st (Nat.max Tryz.f50.ntmps 2)) (fun k S => jumpS (Nat.max Tryz.f50.ntmps 2) (u50P k) k S) 1 (bodyOf Tryz.f50) (endK EE Tryz.f50.results.toList),
  (Tryz.f50.name == "runtime.NumGoroutine" || !regsOk (bodyOf Tryz.f50)),
  rootT EE (fun k S => jumpS (Nat.max Tryz.f51.ntmps 2) (u51P k) k S) Tryz.f51 2,
  headsT EE (fun k => (u51P k).st (Nat.max Tryz.f51.ntmps 2)) (fun k S => jumpS (Nat.max Tryz.f51.ntmps 2) (u51P k) k S) 1 (bodyOf Tryz.f51) (endK EE Tryz.f51.results.toList),
  (Tryz.f51.name == "runtime.NumGoroutine" || !regsOk (bodyOf Tryz.f51)),
  rootT EE (fun k S => jumpS (Nat.max Tryz.f52.ntmps 2) (u52P k) k S) Tryz.f52 2,
  headsT EE (fun k => (u52P k).st (Nat.max Tryz.f52.ntmps 2)) (fun k S => jumpS (Nat.max Tryz.f52.ntmps 2) (u52P k) k S) 1 (bodyOf Tryz.f52) (endK EE Tryz.f52.results.toList),
  (Tryz.f52.name == "runtime.NumGoroutine" || !regsOk (bodyOf Tryz.f52)),
  rootT EE (fun k S => jumpS (Nat.max Tryz.f53.ntmps 3) (u53P k) k S) Tryz.f53 3,
  headsT EE (fun k => (u53P k).st (Nat.max Tryz.f53.ntmps 3)) (fun k S => jumpS (Nat.max Tryz.f53.ntmps 3) (u53P k) k S) 1 (bodyOf Tryz.f53) (endK EE Tryz.f53.results.toList),
  (Tryz.f53.name == "runtime.NumGoroutine" || !regsOk (bodyOf Tryz.f53)),
  rootT EE (fun k S => jumpS (Nat.max Tryz.f54.ntmps 2) (u54P k) k S) Tryz.f54 2,
  headsT EE (fun k => (u54P k).st (Nat.max Tryz.f54.ntmps 2)) (fun k S => jumpS (Nat.max Tryz.f54.ntmps 2) (u54P k) k S) 1 (bodyOf Tryz.f54) (endK EE Tryz.f54.results.toList),
  (Tryz.f54.name == "runtime.NumGoroutine" || !regsOk (bodyOf Tryz.f54)),
  rootT EE (fun k S => jumpS (Nat.max Tryz.f55.ntmps 2) (u55P k) k S) Tryz.f55 2,
  headsT EE (fun k => (u55P k).st (Nat.max Tryz.f55.ntmps 2)) (fun k S => jumpS (Nat.max Tryz.f55.ntmps 2) (u55P k) k S) 1 (bodyOf Tryz.f55) (endK EE Tryz.f55.results.toList),
  (Tryz.f55.name == "runtime.NumGoroutine" || !regsOk (bodyOf Tryz.f55)),
  rootT EE (fun k S => jumpS (Nat.max Tryz.f56.ntmps 2) (u56P k) k S) Tryz.f56 2,
  headsT EE (fun k => (u56P k).st (Nat.max Tryz.f56.ntmps 2)) (fun k S => jumpS (Nat.max Tryz.f56.ntmps 2) (u56P k) k S) 1 (bodyOf Tryz.f56) (endK EE Tryz.f56.results.toList),
  (Tryz.f56.name == "runtime.NumGoroutine" || !regsOk (bodyOf Tryz.f56)),
  rootT EE (fun k S => jumpS (Nat.max Tryz.f57.ntmps 3) (u57P k) k S) Tryz.f57 3,
  headsT EE (fun k => (u57P k).st (Nat.max Tryz.f57.ntmps 3)) (fun k S => jumpS (Nat.max Tryz.f57.ntmps 3) (u57P k) k S) 1 (bodyOf Tryz.f57) (endK EE Tryz.f57.results.toList),
  (Tryz.f57.name == "runtime.NumGoroutine" || !regsOk (bodyOf Tryz.f57)),
  rootT EE (fun k S => jumpS (Nat.max Tryz.f58.ntmps 2) (u58P k) k S) Tryz.f58 2,
  headsT EE (fun k => (u58P k).st (Nat.max Tryz.f58.ntmps 2)) (fun k S => jumpS (Nat.max Tryz.f58.ntmps 2) (u58P k) k S) 1 (bodyOf Tryz.f58) (endK EE Tryz.f58.results.toList),
  (Tryz.f58.name == "runtime.NumGoroutine" || !regsOk (bodyOf Tryz.f58)),
  rootT EE (fun k S => jumpS (Nat.max Tryz.f59.ntmps 2) (u59P k) k S) Tryz.f59 2,
  headsT EE (fun k => (u59P k).st (Nat.max Tryz.f59.ntmps 2)) (fun k S => jumpS (Nat.max Tryz.f59.ntmps 2) (u59P k) k S) 1 (bodyOf Tryz.f59) (endK EE Tryz.f59.results.toList),
  (Tryz.f59.name == "runtime.NumGoroutine" || !regsOk (bodyOf Tryz.f59)),
  rootT EE (fun k S => jumpS (Nat.max Tryz.f60.ntmps 2) (u60P k) k S) Tryz.f60 2,
  headsT EE (fun k => (u60P k).st (Nat.max Tryz.f60.ntmps 2)) (fun k S => jumpS (Nat.max Tryz.f60.ntmps 2) (u60P k) k S) 1 (bodyOf Tryz.f60) (endK EE Tryz.f60.results.toList),
  (Tryz.f60.name == "runtime.NumGoroutine" || !regsOk (bodyOf Tryz.f60)),
  rootT EE (fun k S => jumpS (Nat.max Tryz.f61.ntmps 2) (u61P k) k S) Tryz.f61 2,
  headsT EE (fun k => (u61P k).st (Nat.max Tryz.f61.ntmps 2)) (fun k S => jumpS (Nat.max Tryz.f61.ntmps 2) (u61P k) k S) 1 (bodyOf Tryz.f61) (endK EE Tryz.f61.results.toList),
  (Tryz.f61.name == "runtime.NumGoroutine" || !regsOk (bodyOf Tryz.f61)),
  rootT EE (fun k S => jumpS (Nat.max Tryz.f62.ntmps 2) (u62P k) k S) Tryz.f62 2,
  headsT EE (fun k => (u62P k).st (Nat.max Tryz.f62.ntmps 2)) (fun k S => jumpS (Nat.max Tryz.f62.ntmps 2) (u62P k) k S) 1 (bodyOf Tryz.f62) (endK EE Tryz.f62.results.toList),
  (Tryz.f62.name == "runtime.NumGoroutine" || !regsOk (bodyOf Tryz.f62)),
  rootT EE (fun k S => jumpS (Nat.max Tryz.f63.ntmps 2) (u63P k) k S) Tryz.f63 2,
  headsT EE (fun k => (u63P k).st (Nat.max Tryz.f63.ntmps 2)) (fun k S => jumpS (Nat.max Tryz.f63.ntmps 2) (u63P k) k S) 1 (bodyOf Tryz.f63) (endK EE Tryz.f63.results.toList),
  (Tryz.f63.name == "runtime.NumGoroutine" || !regsOk (bodyOf Tryz.f63)),
  rootT EE (fun k S => jumpS (Nat.max Tryz.f64.ntmps 3) (u64P k) k S) Tryz.f64 3,
  headsT EE (fun k => (u64P k).st (Nat.max Tryz.f64.ntmps 3)) (fun k S => jumpS (Nat.max Tryz.f64.ntmps 3) (u64P k) k S) 1 (bodyOf Tryz.f64) (endK EE Tryz.f64.results.toList),
  (Tryz.f64.name == "runtime.NumGoroutine" || !regsOk (bodyOf Tryz.f64)),
  rootT EE (fun k S => jumpS (Nat.max Tryz.f65.ntmps 2) (u65P k) k S) Tryz.f65 2,
  headsT EE (fun k => (u65P k).st (Nat.max Tryz.f65.ntmps 2)) (fun k S => jumpS (Nat.max Tryz.f65.ntmps 2) (u65P k) k S) 1 (bodyOf Tryz.f65) (endK EE Tryz.f65.results.toList),
  (Tryz.f65.name == "runtime.NumGoroutine" || !regsOk (bodyOf Tryz.f65)),
  rootT EE (fun k S => jumpS (Nat.max Tryz.f66.ntmps 3) (u66P k) k S) Tryz.f66 3,
  headsT EE (fun k => (u66P k).st (Nat.max Tryz.f66.ntmps 3)) (fun k S => jumpS (Nat.max Tryz.f66.ntmps 3) (u66P k) k S) 1 (bodyOf Tryz.f66) (endK EE Tryz.f66.results.toList),
  (Tryz.f66.name == "runtime.NumGoroutine" || !regsOk (bodyOf Tryz.f66)),
  rootT EE (fun k S => jumpS (Nat.max Tryz.f67.ntmps 2) (u67P k) k S) Tryz.f67 2,
  headsT EE (fun k => (u67P k).st (Nat.max Tryz.f67.ntmps 2)) (fun k S => jumpS (Nat.max Tryz.f67.ntmps 2) (u67P k) k S) 1 (bodyOf Tryz.f67) (endK EE Tryz.f67.results.toList),
  (Tryz.f67.name == "runtime.NumGoroutine" || !regsOk (bodyOf Tryz.f67)),
  rootT EE (fun k S => jumpS (Nat.max Tryz.f71.ntmps 2) (u71P k) k S) Tryz.f71 2,
  headsT EE (fun k => (u71P k).st (Nat.max Tryz.f71.ntmps 2)) (fun k S => jumpS (Nat.max Tryz.f71.ntmps 2) (u71P k) k S) 1 (bodyOf Tryz.f71) (endK EE Tryz.f71.results.toList),
  (Tryz.f71.name == "runtime.NumGoroutine" || !regsOk (bodyOf Tryz.f71)),
  rootT EE (fun k S => jumpS (Nat.max Tryz.f72.ntmps 2) (u72P k) k S) Tryz.f72 2,
  headsT EE (fun k => (u72P k).st (Nat.max Tryz.f72.ntmps 2)) (fun k S => jumpS (Nat.max Tryz.f72.ntmps 2) (u72P k) k S) 1 (bodyOf Tryz.f72) (endK EE Tryz.f72.results.toList),
  (Tryz.f72.name == "runtime.NumGoroutine" || !regsOk (bodyOf Tryz.f72)),
  rootT EE (fun k S => jumpS (Nat.max Tryz.f73.ntmps 2) (u73P k) k S) Tryz.f73 2,
  headsT EE (fun k => (u73P k).st (Nat.max Tryz.f73.ntmps 2)) (fun k S => jumpS (Nat.max Tryz.f73.ntmps 2) (u73P k) k S) 1 (bodyOf Tryz.f73) (endK EE Tryz.f73.results.toList),
  (Tryz.f73.name == "runtime.NumGoroutine" || !regsOk (bodyOf Tryz.f73)),
  rootT EE (fun k S => jumpS (Nat.max Tryz.f74.ntmps 2) (u74P k) k S) Tryz.f74 2,
  headsT EE (fun k => (u74P k).st (Nat.max Tryz.f74.ntmps 2)) (fun k S => jumpS (Nat.max Tryz.f74.ntmps 2) (u74P k) k S) 1 (bodyOf Tryz.f74) (endK EE Tryz.f74.results.toList),
  (Tryz.f74.name == "runtime.NumGoroutine" || !regsOk (bodyOf Tryz.f74)),
  rootT EE (fun k S => jumpS (Nat.max Tryz.f75.ntmps 2) (u75P k) k S) Tryz.f75 2,
  headsT EE (fun k => (u75P k).st (Nat.max Tryz.f75.ntmps 2)) (fun k S => jumpS (Nat.max Tryz.f75.ntmps 2) (u75P k) k S) 1 (bodyOf Tryz.f75) (endK EE Tryz.f75.results.toList),
  (Tryz.f75.name == "runtime.NumGoroutine" || !regsOk (bodyOf Tryz.f75)),
  rootT EE (fun k S => jumpS (Nat.max Tryz.f76.ntmps 2) (u76P k) k S) Tryz.f76 2,
  headsT EE (fun k => (u76P k).st (Nat.max Tryz.f76.ntmps 2)) (fun k S => jumpS (Nat.max Tryz.f76.ntmps 2) (u76P k) k S) 1 (bodyOf Tryz.f76) (endK EE Tryz.f76.results.toList),
  (Tryz.f76.name == "runtime.NumGoroutine" || !regsOk (bodyOf Tryz.f76)),
  rootT EE (fun k S => jumpS (Nat.max Tryz.f108.ntmps 3) (u108P k) k S) Tryz.f108 3,
  headsT EE (fun k => (u108P k).st (Nat.max Tryz.f108.ntmps 3)) (fun k S => jumpS (Nat.max Tryz.f108.ntmps 3) (u108P k) k S) 1 (bodyOf Tryz.f108) (endK EE Tryz.f108.results.toList),
  (Tryz.f108.name == "runtime.NumGoroutine" || !regsOk (bodyOf Tryz.f108)),
  rootT EE (fun k S => jumpS (Nat.max Tryz.f109.ntmps 2) (u109P k) k S) Tryz.f109 2,
  headsT EE (fun k => (u109P k).st (Nat.max Tryz.f109.ntmps 2)) (fun k S => jumpS (Nat.max Tryz.f109.ntmps 2) (u109P k) k S) 1 (bodyOf Tryz.f109) (endK EE Tryz.f109.results.toList),
  (Tryz.f109.name == "runtime.NumGoroutine" || !regsOk (bodyOf Tryz.f109)),
  rootT EE (fun k S => jumpS (Nat.max Tryz.f110.ntmps 2) (u110P k) k S) Tryz.f110 2,
  headsT EE (fun k => (u110P k).st (Nat.max Tryz.f110.ntmps 2)) (fun k S => jumpS (Nat.max Tryz.f110.ntmps 2) (u110P k) k S) 1 (bodyOf Tryz.f110) (endK EE Tryz.f110.results.toList),
  (Tryz.f110.name == "runtime.NumGoroutine" || !regsOk (bodyOf Tryz.f110)),
  rootT EE (fun k S => jumpS (Nat.max Tryz.f113.ntmps 2) (u113P k) k S) Tryz.f113 2,
  headsT EE (fun k => (u113P k).st (Nat.max Tryz.f113.ntmps 2)) (fun k S => jumpS (Nat.max Tryz.f113.ntmps 2) (u113P k) k S) 1 (bodyOf Tryz.f113) (endK EE Tryz.f113.results.toList),
  (Tryz.f113.name == "runtime.NumGoroutine" || !regsOk (bodyOf Tryz.f113)),
  rootT EE (fun k S => jumpS (Nat.max Tryz.f153.ntmps 3) (u153P k) k S) Tryz.f153 3,
  headsT EE (fun k => (u153P k).st (Nat.max Tryz.f153.ntmps 3)) (fun k S => jumpS (Nat.max Tryz.f153.ntmps 3) (u153P k) k S) 1 (bodyOf Tryz.f153) (endK EE Tryz.f153.results.toList),
  (Tryz.f153.name == "runtime.NumGoroutine" || !regsOk (bodyOf Tryz.f153)),
  rootT EE (fun k S => jumpS (Nat.max Tryz.f154.ntmps 2) (u154P k) k S) Tryz.f154 2,
  headsT EE (fun k => (u154P k).st (Nat.max Tryz.f154.ntmps 2)) (fun k S => jumpS (Nat.max Tryz.f154.ntmps 2) (u154P k) k S) 1 (bodyOf Tryz.f154) (endK EE Tryz.f154.results.toList),
  (Tryz.f154.name == "runtime.NumGoroutine" || !regsOk (bodyOf Tryz.f154)),
  rootT EE (fun k S => jumpS (Nat.max Tryz.f155.ntmps 2) (u155P k) k S) Tryz.f155 2,
  headsT EE (fun k => (u155P k).st (Nat.max Tryz.f155.ntmps 2)) (fun k S => jumpS (Nat.max Tryz.f155.ntmps 2) (u155P k) k S) 1 (bodyOf Tryz.f155) (endK EE Tryz.f155.results.toList),
  (Tryz.f155.name == "runtime.NumGoroutine" || !regsOk (bodyOf Tryz.f155))) =
  (u3T0, [], false, u4T0, [(1, u4T1)], false, u6T0, [], false, u7T0, [], false, u14T0, [], false, u15T0, [(1, u15T1)], false, u16T0, [], false, u17T0, [], false, u18T0, [(1, u18T1)], false, u19T0, [], false, u20T0, [], false, u21T0, [(1, u21T1), (2, u21T2)], false, u22T0, [(1, u22T1)], false, u23T0, [(1, u23T1)], false, u24T0, [(1, u24T1)], false, u25T0, [(1, u25T1), (2, u25T2)], false, u44T0, [], false, u45T0, [(1, u45T1)], false, u46T0, [], false, u47T0, [(1, u47T1)], false, u48T0, [(1, u48T1)], false, u49T0, [(1, u49T1)], false, u50T0, [(1, u50T1)], false, u51T0, [(1, u51T1)], false, u52T0, [(1, u52T1)], false, u53T0, [(1, u53T1)], false, u54T0, [], false, u55T0, [(1, u55T1)], false, u56T0, [(1, u56T1)], false, u57T0, [(1, u57T1)], false, u58T0, [], false, u59T0, [(1, u59T1)], false, u60T0, [(1, u60T1)], false, u61T0, [], false, u62T0, [], false, u63T0, [(1, u63T1)], false, u64T0, [(1, u64T1)], false, u65T0, [(1, u65T1)], false, u66T0, [(1, u66T1)], false, u67T0, [(1, u67T1), (2, u67T2), (3, u67T3), (4, u67T4)], false, u71T0, [(1, u71T1), (2, u71T2)], false, u72T0, [], false, u73T0, [(1, u73T1)], false, u74T0, [(1, u74T1)], false, u75T0, [(1, u75T1)], false, u76T0, [(1, u76T1)], false, u108T0, [(1, u108T1)], false, u109T0, [], false, u110T0, [(1, u110T1)], false, u113T0, [(1, u113T1)], false, u153T0, [(1, u153T1)], false, u154T0, [(1, u154T1)], false, u155T0, [(1, u155T1)], false) := by kernel_rfl
theorem u3 {ds : List D} {d : D} (hn : ds.length = 2) (h : Goes EE (Holds EE) u3Ts 0 ds d) : Holds EE 3 ds d :=
  holds_of he (envFunc (c := bodyOf Tryz.f3) Tryz.func3 rfl ((Prod.mk.inj (nx1 (nx1 all7))).1)) (c := bodyOf Tryz.f3) rfl hn ((Prod.mk.inj all7).1) (by rw [(Prod.mk.inj (nx1 all7)).1]; exact tabN) h
theorem u4 {ds : List D} {d : D} (hn : ds.length = 1) (h : Goes EE (Holds EE) u4Ts 0 ds d) : Holds EE 4 ds d :=
  holds_of he (envFunc (c := bodyOf Tryz.f4) Tryz.func4 rfl ((Prod.mk.inj (nx1 (nx4 all7))).1)) (c := bodyOf Tryz.f4) rfl hn ((Prod.mk.inj (nx1 (nx1 (nx1 all7)))).1) (by rw [(Prod.mk.inj (nx4 all7)).1]; exact tabC rfl <| tabN) h
theorem u6 {ds : List D} {d : D} (hn : ds.length = 2) (h : Goes EE (Holds EE) u6Ts 0 ds d) : Holds EE 6 ds d :=
  holds_of he (envFunc (c := bodyOf Tryz.f6) Tryz.func6 rfl ((Prod.mk.inj (nx4 (nx4 all7))).1)) (c := bodyOf Tryz.f6) rfl hn ((Prod.mk.inj (nx1 (nx1 (nx4 all7)))).1) (by rw [(Prod.mk.inj (nx1 (nx1 (nx1 (nx4 all7))))).1]; exact tabN) h
theorem u7 {ds : List D} {d : D} (hn : ds.length = 2) (h : Goes EE (Holds EE) u7Ts 0 ds d) : Holds EE 7 ds d :=
  holds_of he (envFunc (c := bodyOf Tryz.f7) Tryz.func7 rfl ((Prod.mk.inj (nx1 (nx1 (nx1 (nx4 (nx4 all7)))))).1)) (c := bodyOf Tryz.f7) rfl hn ((Prod.mk.inj (nx1 (nx4 (nx4 all7)))).1) (by rw [(Prod.mk.inj (nx1 (nx1 (nx4 (nx4 all7))))).1]; exact tabN) h
theorem u14 {ds : List D} {d : D} (hn : ds.length = 2) (h : Goes EE (Holds EE) u14Ts 0 ds d) : Holds EE 14 ds d :=
  holds_of he (envFunc (c := bodyOf Tryz.f14) Tryz.func14 rfl ((Prod.mk.inj (nx1 (nx1 (nx4 (nx4 (nx4 all7)))))).1)) (c := bodyOf Tryz.f14) rfl hn ((Prod.mk.inj (nx4 (nx4 (nx4 all7)))).1) (by rw [(Prod.mk.inj (nx1 (nx4 (nx4 (nx4 all7))))).1]; exact tabN) h
theorem u15 {ds : List D} {d : D} (hn : ds.length = 3) (h : Goes EE (Holds EE) u15Ts 0 ds d) : Holds EE 15 ds d :=
  holds_of he (envFunc (c := bodyOf Tryz.f15) Tryz.func15 rfl ((Prod.mk.inj (nx1 (nx16 all7))).1)) (c := bodyOf Tryz.f15) rfl hn ((Prod.mk.inj (nx1 (nx1 (nx1 (nx4 (nx4 (nx4 all7))))))).1) (by rw [(Prod.mk.inj (nx16 all7)).1]; exact tabC rfl <| tabN) h
theorem u16 {ds : List D} {d : D} (hn : ds.length = 2) (h : Goes EE (Holds EE) u16Ts 0 ds d) : Holds EE 16 ds d :=
  holds_of he (envFunc (c := bodyOf Tryz.f16) Tryz.func16 rfl ((Prod.mk.inj (nx4 (nx16 all7))).1)) (c := bodyOf Tryz.f16) rfl hn ((Prod.mk.inj (nx1 (nx1 (nx16 all7)))).1) (by rw [(Prod.mk.inj (nx1 (nx1 (nx1 (nx16 all7))))).1]; exact tabN) h
theorem u17 {ds : List D} {d : D} (hn : ds.length = 2) (h : Goes EE (Holds EE) u17Ts 0 ds d) : Holds EE 17 ds d :=
  holds_of he (envFunc (c := bodyOf Tryz.f17) Tryz.func17 rfl ((Prod.mk.inj (nx1 (nx1 (nx1 (nx4 (nx16 all7)))))).1)) (c := bodyOf Tryz.f17) rfl hn ((Prod.mk.inj (nx1 (nx4 (nx16 all7)))).1) (by rw [(Prod.mk.inj (nx1 (nx1 (nx4 (nx16 all7))))).1]; exact tabN) h
theorem u18 {ds : List D} {d : D} (hn : ds.length = 3) (h : Goes EE (Holds EE) u18Ts 0 ds d) : Holds EE 18 ds d :=
  holds_of he (envFunc (c := bodyOf Tryz.f18) Tryz.func18 rfl ((Prod.mk.inj (nx1 (nx1 (nx4 (nx4 (nx16 all7)))))).1)) (c := bodyOf Tryz.f18) rfl hn ((Prod.mk.inj (nx4 (nx4 (nx16 all7)))).1) (by rw [(Prod.mk.inj (nx1 (nx4 (nx4 (nx16 all7))))).1]; exact tabC rfl <| tabN) h
theorem u19 {ds : List D} {d : D} (hn : ds.length = 2) (h : Goes EE (Holds EE) u19Ts 0 ds d) : Holds EE 19 ds d :=
  holds_of he (envFunc (c := bodyOf Tryz.f19) Tryz.func19 rfl ((Prod.mk.inj (nx1 (nx4 (nx4 (nx4 (nx16 all7)))))).1)) (c := bodyOf Tryz.f19) rfl hn ((Prod.mk.inj (nx1 (nx1 (nx1 (nx4 (nx4 (nx16 all7))))))).1) (by rw [(Prod.mk.inj (nx4 (nx4 (nx4 (nx16 all7))))).1]; exact tabN) h
theorem u20 {ds : List D} {d : D} (hn : ds.length = 2) (h : Goes EE (Holds EE) u20Ts 0 ds d) : Holds EE 20 ds d :=
  holds_of he (envFunc (c := bodyOf Tryz.f20) Tryz.func20 rfl ((Prod.mk.inj (nx16 (nx16 all7))).1)) (c := bodyOf Tryz.f20) rfl hn ((Prod.mk.inj (nx1 (nx1 (nx4 (nx4 (nx4 (nx16 all7))))))).1) (by rw [(Prod.mk.inj (nx1 (nx1 (nx1 (nx4 (nx4 (nx4 (nx16 all7)))))))).1]; exact tabN) h
theorem u21 {ds : List D} {d : D} (hn : ds.length = 2) (h : Goes EE (Holds EE) u21Ts 0 ds d) : Holds EE 21 ds d :=
  holds_of he (envFunc (c := bodyOf Tryz.f21) Tryz.func21 rfl ((Prod.mk.inj (nx1 (nx1 (nx1 (nx16 (nx16 all7)))))).1)) (c := bodyOf Tryz.f21) rfl hn ((Prod.mk.inj (nx1 (nx16 (nx16 all7)))).1) (by rw [(Prod.mk.inj (nx1 (nx1 (nx16 (nx16 all7))))).1]; exact tabC rfl <| tabC rfl <| tabN) h
theorem u22 {ds : List D} {d : D} (hn : ds.length = 2) (h : Goes EE (Holds EE) u22Ts 0 ds d) : Holds EE 22 ds d :=
  holds_of he (envFunc (c := bodyOf Tryz.f22) Tryz.func22 rfl ((Prod.mk.inj (nx1 (nx1 (nx4 (nx16 (nx16 all7)))))).1)) (c := bodyOf Tryz.f22) rfl hn ((Prod.mk.inj (nx4 (nx16 (nx16 all7)))).1) (by rw [(Prod.mk.inj (nx1 (nx4 (nx16 (nx16 all7))))).1]; exact tabC rfl <| tabN) h
theorem u23 {ds : List D} {d : D} (hn : ds.length = 2) (h : Goes EE (Holds EE) u23Ts 0 ds d) : Holds EE 23 ds d :=
  holds_of he (envFunc (c := bodyOf Tryz.f23) Tryz.func23 rfl ((Prod.mk.inj (nx1 (nx4 (nx4 (nx16 (nx16 all7)))))).1)) (c := bodyOf Tryz.f23) rfl hn ((Prod.mk.inj (nx1 (nx1 (nx1 (nx4 (nx16 (nx16 all7))))))).1) (by rw [(Prod.mk.inj (nx4 (nx4 (nx16 (nx16 all7))))).1]; exact tabC rfl <| tabN) h
theorem u24 {ds : List D} {d : D} (hn : ds.length = 2) (h : Goes EE (Holds EE) u24Ts 0 ds d) : Holds EE 24 ds d :=
  holds_of he (envFunc (c := bodyOf Tryz.f24) Tryz.func24 rfl ((Prod.mk.inj (nx4 (nx4 (nx4 (nx16 (nx16 all7)))))).1)) (c := bodyOf Tryz.f24) rfl hn ((Prod.mk.inj (nx1 (nx1 (nx4 (nx4 (nx16 (nx16 all7))))))).1) (by rw [(Prod.mk.inj (nx1 (nx1 (nx1 (nx4 (nx4 (nx16 (nx16 all7)))))))).1]; exact tabC rfl <| tabN) h
theorem u25 {ds : List D} {d : D} (hn : ds.length = 2) (h : Goes EE (Holds EE) u25Ts 0 ds d) : Holds EE 25 ds d :=
  holds_of he (envFunc (c := bodyOf Tryz.f25) Tryz.func25 rfl ((Prod.mk.inj (nx1 (nx1 (nx1 (nx4 (nx4 (nx4 (nx16 (nx16 all7))))))))).1)) (c := bodyOf Tryz.f25) rfl hn ((Prod.mk.inj (nx1 (nx4 (nx4 (nx4 (nx16 (nx16 all7))))))).1) (by rw [(Prod.mk.inj (nx1 (nx1 (nx4 (nx4 (nx4 (nx16 (nx16 all7)))))))).1]; exact tabC rfl <| tabC rfl <| tabN) h
theorem u44 {ds : List D} {d : D} (hn : ds.length = 2) (h : Goes EE (Holds EE) u44Ts 0 ds d) : Holds EE 44 ds d :=
  holds_of he (envFunc (c := bodyOf Tryz.f44) Tryz.func44 rfl ((Prod.mk.inj (nx1 (nx1 (nx16 (nx16 (nx16 all7)))))).1)) (c := bodyOf Tryz.f44) rfl hn ((Prod.mk.inj (nx16 (nx16 (nx16 all7)))).1) (by rw [(Prod.mk.inj (nx1 (nx16 (nx16 (nx16 all7))))).1]; exact tabN) h
theorem u45 {ds : List D} {d : D} (hn : ds.length = 2) (h : Goes EE (Holds EE) u45Ts 0 ds d) : Holds EE 45 ds d :=
  holds_of he (envFunc (c := bodyOf Tryz.f45) Tryz.func45 rfl ((Prod.mk.inj (nx1 (nx4 (nx16 (nx16 (nx16 all7)))))).1)) (c := bodyOf Tryz.f45) rfl hn ((Prod.mk.inj (nx1 (nx1 (nx1 (nx16 (nx16 (nx16 all7))))))).1) (by rw [(Prod.mk.inj (nx4 (nx16 (nx16 (nx16 all7))))).1]; exact tabC rfl <| tabN) h
theorem u46 {ds : List D} {d : D} (hn : ds.length = 2) (h : Goes EE (Holds EE) u46Ts 0 ds d) : Holds EE 46 ds d :=
  holds_of he (envFunc (c := bodyOf Tryz.f46) Tryz.func46 rfl ((Prod.mk.inj (nx4 (nx4 (nx16 (nx16 (nx16 all7)))))).1)) (c := bodyOf Tryz.f46) rfl hn ((Prod.mk.inj (nx1 (nx1 (nx4 (nx16 (nx16 (nx16 all7))))))).1) (by rw [(Prod.mk.inj (nx1 (nx1 (nx1 (nx4 (nx16 (nx16 (nx16 all7)))))))).1]; exact tabN) h
theorem u47 {ds : List D} {d : D} (hn : ds.length = 2) (h : Goes EE (Holds EE) u47Ts 0 ds d) : Holds EE 47 ds d :=
  holds_of he (envFunc (c := bodyOf Tryz.f47) Tryz.func47 rfl ((Prod.mk.inj (nx1 (nx1 (nx1 (nx4 (nx4 (nx16 (nx16 (nx16 all7))))))))).1)) (c := bodyOf Tryz.f47) rfl hn ((Prod.mk.inj (nx1 (nx4 (nx4 (nx16 (nx16 (nx16 all7))))))).1) (by rw [(Prod.mk.inj (nx1 (nx1 (nx4 (nx4 (nx16 (nx16 (nx16 all7)))))))).1]; exact tabC rfl <| tabN) h
theorem u48 {ds : List D} {d : D} (hn : ds.length = 3) (h : Goes EE (Holds EE) u48Ts 0 ds d) : Holds EE 48 ds d :=
  holds_of he (envFunc (c := bodyOf Tryz.f48) Tryz.func48 rfl ((Prod.mk.inj (nx1 (nx1 (nx4 (nx4 (nx4 (nx16 (nx16 (nx16 all7))))))))).1)) (c := bodyOf Tryz.f48) rfl hn ((Prod.mk.inj (nx4 (nx4 (nx4 (nx16 (nx16 (nx16 all7))))))).1) (by rw [(Prod.mk.inj (nx1 (nx4 (nx4 (nx4 (nx16 (nx16 (nx16 all7)))))))).1]; exact tabC rfl <| tabN) h
theorem u49 {ds : List D} {d : D} (hn : ds.length = 3) (h : Goes EE (Holds EE) u49Ts 0 ds d) : Holds EE 49 ds d :=
  holds_of he (envFunc (c := bodyOf Tryz.f49) Tryz.func49 rfl ((Prod.mk.inj (nx1 (nx16 (nx16 (nx16 (nx16 all7)))))).1)) (c := bodyOf Tryz.f49) rfl hn ((Prod.mk.inj (nx1 (nx1 (nx1 (nx4 (nx4 (nx4 (nx16 (nx16 (nx16 all7)))))))))).1) (by rw [(Prod.mk.inj (nx16 (nx16 (nx16 (nx16 all7))))).1]; exact tabC rfl <| tabN) h
theorem u50 {ds : List D} {d : D} (hn : ds.length = 2) (h : Goes EE (Holds EE) u50Ts 0 ds d) : Holds EE 50 ds d :=
  holds_of he (envFunc (c := bodyOf Tryz.f50) Tryz.func50 rfl ((Prod.mk.inj (nx4 (nx16 (nx16 (nx16 (nx16 all7)))))).1)) (c := bodyOf Tryz.f50) rfl hn ((Prod.mk.inj (nx1 (nx1 (nx16 (nx16 (nx16 (nx16 all7))))))).1) (by rw [(Prod.mk.inj (nx1 (nx1 (nx1 (nx16 (nx16 (nx16 (nx16 all7)))))))).1]; exact tabC rfl <| tabN) h
theorem u51 {ds : List D} {d : D} (hn : ds.length = 2) (h : Goes EE (Holds EE) u51Ts 0 ds d) : Holds EE 51 ds d :=
  holds_of he (envFunc (c := bodyOf Tryz.f51) Tryz.func51 rfl ((Prod.mk.inj (nx1 (nx1 (nx1 (nx4 (nx16 (nx16 (nx16 (nx16 all7))))))))).1)) (c := bodyOf Tryz.f51) rfl hn ((Prod.mk.inj (nx1 (nx4 (nx16 (nx16 (nx16 (nx16 all7))))))).1) (by rw [(Prod.mk.inj (nx1 (nx1 (nx4 (nx16 (nx16 (nx16 (nx16 all7)))))))).1]; exact tabC rfl <| tabN) h
theorem u52 {ds : List D} {d : D} (hn : ds.length = 2) (h : Goes EE (Holds EE) u52Ts 0 ds d) : Holds EE 52 ds d :=
  holds_of he (envFunc (c := bodyOf Tryz.f52) Tryz.func52 rfl ((Prod.mk.inj (nx1 (nx1 (nx4 (nx4 (nx16 (nx16 (nx16 (nx16 all7))))))))).1)) (c := bodyOf Tryz.f52) rfl hn ((Prod.mk.inj (nx4 (nx4 (nx16 (nx16 (nx16 (nx16 all7))))))).1) (by rw [(Prod.mk.inj (nx1 (nx4 (nx4 (nx16 (nx16 (nx16 (nx16 all7)))))))).1]; exact tabC rfl <| tabN) h
theorem u53 {ds : List D} {d : D} (hn : ds.length = 3) (h : Goes EE (Holds EE) u53Ts 0 ds d) : Holds EE 53 ds d :=
  holds_of he (envFunc (c := bodyOf Tryz.f53) Tryz.func53 rfl ((Prod.mk.inj (nx1 (nx4 (nx4 (nx4 (nx16 (nx16 (nx16 (nx16 all7))))))))).1)) (c := bodyOf Tryz.f53) rfl hn ((Prod.mk.inj (nx1 (nx1 (nx1 (nx4 (nx4 (nx16 (nx16 (nx16 (nx16 all7)))))))))).1) (by rw [(Prod.mk.inj (nx4 (nx4 (nx4 (nx16 (nx16 (nx16 (nx16 all7)))))))).1]; exact tabC rfl <| tabN) h
theorem u54 {ds : List D} {d : D} (hn : ds.length = 2) (h : Goes EE (Holds EE) u54Ts 0 ds d) : Holds EE 54 ds d :=
  holds_of he (envFunc (c := bodyOf Tryz.f54) Tryz.func54 rfl ((Prod.mk.inj (nx16 (nx16 (nx16 (nx16 (nx16 all7)))))).1)) (c := bodyOf Tryz.f54) rfl hn ((Prod.mk.inj (nx1 (nx1 (nx4 (nx4 (nx4 (nx16 (nx16 (nx16 (nx16 all7)))))))))).1) (by rw [(Prod.mk.inj (nx1 (nx1 (nx1 (nx4 (nx4 (nx4 (nx16 (nx16 (nx16 (nx16 all7))))))))))).1]; exact tabN) h
theorem u55 {ds : List D} {d : D} (hn : ds.length = 2) (h : Goes EE (Holds EE) u55Ts 0 ds d) : Holds EE 55 ds d :=
  holds_of he (envFunc (c := bodyOf Tryz.f55) Tryz.func55 rfl ((Prod.mk.inj (nx1 (nx1 (nx1 (nx16 (nx16 (nx16 (nx16 (nx16 all7))))))))).1)) (c := bodyOf Tryz.f55) rfl hn ((Prod.mk.inj (nx1 (nx16 (nx16 (nx16 (nx16 (nx16 all7))))))).1) (by rw [(Prod.mk.inj (nx1 (nx1 (nx16 (nx16 (nx16 (nx16 (nx16 all7)))))))).1]; exact tabC rfl <| tabN) h
theorem u56 {ds : List D} {d : D} (hn : ds.length = 2) (h : Goes EE (Holds EE) u56Ts 0 ds d) : Holds EE 56 ds d :=
  holds_of he (envFunc (c := bodyOf Tryz.f56) Tryz.func56 rfl ((Prod.mk.inj (nx1 (nx1 (nx4 (nx16 (nx16 (nx16 (nx16 (nx16 all7))))))))).1)) (c := bodyOf Tryz.f56) rfl hn ((Prod.mk.inj (nx4 (nx16 (nx16 (nx16 (nx16 (nx16 all7))))))).1) (by rw [(Prod.mk.inj (nx1 (nx4 (nx16 (nx16 (nx16 (nx16 (nx16 all7)))))))).1]; exact tabC rfl <| tabN) h
theorem u57 {ds : List D} {d : D} (hn : ds.length = 3) (h : Goes EE (Holds EE) u57Ts 0 ds d) : Holds EE 57 ds d :=
  holds_of he (envFunc (c := bodyOf Tryz.f57) Tryz.func57 rfl ((Prod.mk.inj (nx1 (nx4 (nx4 (nx16 (nx16 (nx16 (nx16 (nx16 all7))))))))).1)) (c := bodyOf Tryz.f57) rfl hn ((Prod.mk.inj (nx1 (nx1 (nx1 (nx4 (nx16 (nx16 (nx16 (nx16 (nx16 all7)))))))))).1) (by rw [(Prod.mk.inj (nx4 (nx4 (nx16 (nx16 (nx16 (nx16 (nx16 all7)))))))).1]; exact tabC rfl <| tabN) h
theorem u58 {ds : List D} {d : D} (hn : ds.length = 2) (h : Goes EE (Holds EE) u58Ts 0 ds d) : Holds EE 58 ds d :=
  holds_of he (envFunc (c := bodyOf Tryz.f58) Tryz.func58 rfl ((Prod.mk.inj (nx4 (nx4 (nx4 (nx16 (nx16 (nx16 (nx16 (nx16 all7))))))))).1)) (c := bodyOf Tryz.f58) rfl hn ((Prod.mk.inj (nx1 (nx1 (nx4 (nx4 (nx16 (nx16 (nx16 (nx16 (nx16 all7)))))))))).1) (by rw [(Prod.mk.inj (nx1 (nx1 (nx1 (nx4 (nx4 (nx16 (nx16 (nx16 (nx16 (nx16 all7))))))))))).1]; exact tabN) h
theorem u59 {ds : List D} {d : D} (hn : ds.length = 2) (h : Goes EE (Holds EE) u59Ts 0 ds d) : Holds EE 59 ds d :=
  holds_of he (envFunc (c := bodyOf Tryz.f59) Tryz.func59 rfl ((Prod.mk.inj (nx1 (nx1 (nx1 (nx4 (nx4 (nx4 (nx16 (nx16 (nx16 (nx16 (nx16 all7)))))))))))).1)) (c := bodyOf Tryz.f59) rfl hn ((Prod.mk.inj (nx1 (nx4 (nx4 (nx4 (nx16 (nx16 (nx16 (nx16 (nx16 all7)))))))))).1) (by rw [(Prod.mk.inj (nx1 (nx1 (nx4 (nx4 (nx4 (nx16 (nx16 (nx16 (nx16 (nx16 all7))))))))))).1]; exact tabC rfl <| tabN) h
theorem u60 {ds : List D} {d : D} (hn : ds.length = 2) (h : Goes EE (Holds EE) u60Ts 0 ds d) : Holds EE 60 ds d :=
  holds_of he (envFunc (c := bodyOf Tryz.f60) Tryz.func60 rfl ((Prod.mk.inj (nx1 (nx1 (nx16 (nx16 (nx16 (nx16 (nx16 (nx16 all7))))))))).1)) (c := bodyOf Tryz.f60) rfl hn ((Prod.mk.inj (nx16 (nx16 (nx16 (nx16 (nx16 (nx16 all7))))))).1) (by rw [(Prod.mk.inj (nx1 (nx16 (nx16 (nx16 (nx16 (nx16 (nx16 all7)))))))).1]; exact tabC rfl <| tabN) h
theorem u61 {ds : List D} {d : D} (hn : ds.length = 2) (h : Goes EE (Holds EE) u61Ts 0 ds d) : Holds EE 61 ds d :=
  holds_of he (envFunc (c := bodyOf Tryz.f61) Tryz.func61 rfl ((Prod.mk.inj (nx1 (nx4 (nx16 (nx16 (nx16 (nx16 (nx16 (nx16 all7))))))))).1)) (c := bodyOf Tryz.f61) rfl hn ((Prod.mk.inj (nx1 (nx1 (nx1 (nx16 (nx16 (nx16 (nx16 (nx16 (nx16 all7)))))))))).1) (by rw [(Prod.mk.inj (nx4 (nx16 (nx16 (nx16 (nx16 (nx16 (nx16 all7)))))))).1]; exact tabN) h
theorem u62 {ds : List D} {d : D} (hn : ds.length = 2) (h : Goes EE (Holds EE) u62Ts 0 ds d) : Holds EE 62 ds d :=
  holds_of he (envFunc (c := bodyOf Tryz.f62) Tryz.func62 rfl ((Prod.mk.inj (nx4 (nx4 (nx16 (nx16 (nx16 (nx16 (nx16 (nx16 all7))))))))).1)) (c := bodyOf Tryz.f62) rfl hn ((Prod.mk.inj (nx1 (nx1 (nx4 (nx16 (nx16 (nx16 (nx16 (nx16 (nx16 all7)))))))))).1) (by rw [(Prod.mk.inj (nx1 (nx1 (nx1 (nx4 (nx16 (nx16 (nx16 (nx16 (nx16 (nx16 all7))))))))))).1]; exact tabN) h
theorem u63 {ds : List D} {d : D} (hn : ds.length = 2) (h : Goes EE (Holds EE) u63Ts 0 ds d) : Holds EE 63 ds d :=
  holds_of he (envFunc (c := bodyOf Tryz.f63) Tryz.func63 rfl ((Prod.mk.inj (nx1 (nx1 (nx1 (nx4 (nx4 (nx16 (nx16 (nx16 (nx16 (nx16 (nx16 all7)))))))))))).1)) (c := bodyOf Tryz.f63) rfl hn ((Prod.mk.inj (nx1 (nx4 (nx4 (nx16 (nx16 (nx16 (nx16 (nx16 (nx16 all7)))))))))).1) (by rw [(Prod.mk.inj (nx1 (nx1 (nx4 (nx4 (nx16 (nx16 (nx16 (nx16 (nx16 (nx16 all7))))))))))).1]; exact tabC rfl <| tabN) h
theorem u64 {ds : List D} {d : D} (hn : ds.length = 3) (h : Goes EE (Holds EE) u64Ts 0 ds d) : Holds EE 64 ds d :=
  holds_of he (envFunc (c := bodyOf Tryz.f64) Tryz.func64 rfl ((Prod.mk.inj (nx1 (nx1 (nx4 (nx4 (nx4 (nx16 (nx16 (nx16 (nx16 (nx16 (nx16 all7)))))))))))).1)) (c := bodyOf Tryz.f64) rfl hn ((Prod.mk.inj (nx4 (nx4 (nx4 (nx16 (nx16 (nx16 (nx16 (nx16 (nx16 all7)))))))))).1) (by rw [(Prod.mk.inj (nx1 (nx4 (nx4 (nx4 (nx16 (nx16 (nx16 (nx16 (nx16 (nx16 all7))))))))))).1]; exact tabC rfl <| tabN) h
theorem u65 {ds : List D} {d : D} (hn : ds.length = 2) (h : Goes EE (Holds EE) u65Ts 0 ds d) : Holds EE 65 ds d :=
  holds_of he (envFunc (c := bodyOf Tryz.f65) Tryz.func65 rfl ((Prod.mk.inj (nx1 (nx16 (nx16 (nx16 (nx16 (nx16 (nx16 (nx16 all7))))))))).1)) (c := bodyOf Tryz.f65) rfl hn ((Prod.mk.inj (nx1 (nx1 (nx1 (nx4 (nx4 (nx4 (nx16 (nx16 (nx16 (nx16 (nx16 (nx16 all7))))))))))))).1) (by rw [(Prod.mk.inj (nx16 (nx16 (nx16 (nx16 (nx16 (nx16 (nx16 all7)))))))).1]; exact tabC rfl <| tabN) h
theorem u66 {ds : List D} {d : D} (hn : ds.length = 3) (h : Goes EE (Holds EE) u66Ts 0 ds d) : Holds EE 66 ds d :=
  holds_of he (envFunc (c := bodyOf Tryz.f66) Tryz.func66 rfl ((Prod.mk.inj (nx4 (nx16 (nx16 (nx16 (nx16 (nx16 (nx16 (nx16 all7))))))))).1)) (c := bodyOf Tryz.f66) rfl hn ((Prod.mk.inj (nx1 (nx1 (nx16 (nx16 (nx16 (nx16 (nx16 (nx16 (nx16 all7)))))))))).1) (by rw [(Prod.mk.inj (nx1 (nx1 (nx1 (nx16 (nx16 (nx16 (nx16 (nx16 (nx16 (nx16 all7))))))))))).1]; exact tabC rfl <| tabN) h
theorem u67 {ds : List D} {d : D} (hn : ds.length = 2) (h : Goes EE (Holds EE) u67Ts 0 ds d) : Holds EE 67 ds d :=
  holds_of he (envFunc (c := bodyOf Tryz.f67) Tryz.func67 rfl ((Prod.mk.inj (nx1 (nx1 (nx1 (nx4 (nx16 (nx16 (nx16 (nx16 (nx16 (nx16 (nx16 all7)))))))))))).1)) (c := bodyOf Tryz.f67) rfl hn ((Prod.mk.inj (nx1 (nx4 (nx16 (nx16 (nx16 (nx16 (nx16 (nx16 (nx16 all7)))))))))).1) (by rw [(Prod.mk.inj (nx1 (nx1 (nx4 (nx16 (nx16 (nx16 (nx16 (nx16 (nx16 (nx16 all7))))))))))).1]; exact tabC rfl <| tabC rfl <| tabC rfl <| tabC rfl <| tabN) h
theorem u71 {ds : List D} {d : D} (hn : ds.length = 2) (h : Goes EE (Holds EE) u71Ts 0 ds d) : Holds EE 71 ds d :=
  holds_of he (envFunc (c := bodyOf Tryz.f71) Tryz.func71 rfl ((Prod.mk.inj (nx1 (nx1 (nx4 (nx4 (nx16 (nx16 (nx16 (nx16 (nx16 (nx16 (nx16 all7)))))))))))).1)) (c := bodyOf Tryz.f71) rfl hn ((Prod.mk.inj (nx4 (nx4 (nx16 (nx16 (nx16 (nx16 (nx16 (nx16 (nx16 all7)))))))))).1) (by rw [(Prod.mk.inj (nx1 (nx4 (nx4 (nx16 (nx16 (nx16 (nx16 (nx16 (nx16 (nx16 all7))))))))))).1]; exact tabC rfl <| tabC rfl <| tabN) h
theorem u72 {ds : List D} {d : D} (hn : ds.length = 2) (h : Goes EE (Holds EE) u72Ts 0 ds d) : Holds EE 72 ds d :=
  holds_of he (envFunc (c := bodyOf Tryz.f72) Tryz.func72 rfl ((Prod.mk.inj (nx1 (nx4 (nx4 (nx4 (nx16 (nx16 (nx16 (nx16 (nx16 (nx16 (nx16 all7)))))))))))).1)) (c := bodyOf Tryz.f72) rfl hn ((Prod.mk.inj (nx1 (nx1 (nx1 (nx4 (nx4 (nx16 (nx16 (nx16 (nx16 (nx16 (nx16 (nx16 all7))))))))))))).1) (by rw [(Prod.mk.inj (nx4 (nx4 (nx4 (nx16 (nx16 (nx16 (nx16 (nx16 (nx16 (nx16 all7))))))))))).1]; exact tabN) h
theorem u73 {ds : List D} {d : D} (hn : ds.length = 2) (h : Goes EE (Holds EE) u73Ts 0 ds d) : Holds EE 73 ds d :=
  holds_of he (envFunc (c := bodyOf Tryz.f73) Tryz.func73 rfl ((Prod.mk.inj (nx16 (nx16 (nx16 (nx16 (nx16 (nx16 (nx16 (nx16 all7))))))))).1)) (c := bodyOf Tryz.f73) rfl hn ((Prod.mk.inj (nx1 (nx1 (nx4 (nx4 (nx4 (nx16 (nx16 (nx16 (nx16 (nx16 (nx16 (nx16 all7))))))))))))).1) (by rw [(Prod.mk.inj (nx1 (nx1 (nx1 (nx4 (nx4 (nx4 (nx16 (nx16 (nx16 (nx16 (nx16 (nx16 (nx16 all7)))))))))))))).1]; exact tabC rfl <| tabN) h
theorem u74 {ds : List D} {d : D} (hn : ds.length = 2) (h : Goes EE (Holds EE) u74Ts 0 ds d) : Holds EE 74 ds d :=
  holds_of he (envFunc (c := bodyOf Tryz.f74) Tryz.func74 rfl ((Prod.mk.inj (nx1 (nx1 (nx1 (nx16 (nx16 (nx16 (nx16 (nx16 (nx16 (nx16 (nx16 all7)))))))))))).1)) (c := bodyOf Tryz.f74) rfl hn ((Prod.mk.inj (nx1 (nx16 (nx16 (nx16 (nx16 (nx16 (nx16 (nx16 (nx16 all7)))))))))).1) (by rw [(Prod.mk.inj (nx1 (nx1 (nx16 (nx16 (nx16 (nx16 (nx16 (nx16 (nx16 (nx16 all7))))))))))).1]; exact tabC rfl <| tabN) h
theorem u75 {ds : List D} {d : D} (hn : ds.length = 2) (h : Goes EE (Holds EE) u75Ts 0 ds d) : Holds EE 75 ds d :=
  holds_of he (envFunc (c := bodyOf Tryz.f75) Tryz.func75 rfl ((Prod.mk.inj (nx1 (nx1 (nx4 (nx16 (nx16 (nx16 (nx16 (nx16 (nx16 (nx16 (nx16 all7)))))))))))).1)) (c := bodyOf Tryz.f75) rfl hn ((Prod.mk.inj (nx4 (nx16 (nx16 (nx16 (nx16 (nx16 (nx16 (nx16 (nx16 all7)))))))))).1) (by rw [(Prod.mk.inj (nx1 (nx4 (nx16 (nx16 (nx16 (nx16 (nx16 (nx16 (nx16 (nx16 all7))))))))))).1]; exact tabC rfl <| tabN) h
theorem u76 {ds : List D} {d : D} (hn : ds.length = 2) (h : Goes EE (Holds EE) u76Ts 0 ds d) : Holds EE 76 ds d :=
  holds_of he (envFunc (c := bodyOf Tryz.f76) Tryz.func76 rfl ((Prod.mk.inj (nx1 (nx4 (nx4 (nx16 (nx16 (nx16 (nx16 (nx16 (nx16 (nx16 (nx16 all7)))))))))))).1)) (c := bodyOf Tryz.f76) rfl hn ((Prod.mk.inj (nx1 (nx1 (nx1 (nx4 (nx16 (nx16 (nx16 (nx16 (nx16 (nx16 (nx16 (nx16 all7))))))))))))).1) (by rw [(Prod.mk.inj (nx4 (nx4 (nx16 (nx16 (nx16 (nx16 (nx16 (nx16 (nx16 (nx16 all7))))))))))).1]; exact tabC rfl <| tabN) h
theorem u108 {ds : List D} {d : D} (hn : ds.length = 3) (h : Goes EE (Holds EE) u108Ts 0 ds d) : Holds EE 108 ds d :=
  holds_of he (envFunc (c := bodyOf Tryz.f108) Tryz.func108 rfl ((Prod.mk.inj (nx4 (nx4 (nx4 (nx16 (nx16 (nx16 (nx16 (nx16 (nx16 (nx16 (nx16 all7)))))))))))).1)) (c := bodyOf Tryz.f108) rfl hn ((Prod.mk.inj (nx1 (nx1 (nx4 (nx4 (nx16 (nx16 (nx16 (nx16 (nx16 (nx16 (nx16 (nx16 all7))))))))))))).1) (by rw [(Prod.mk.inj (nx1 (nx1 (nx1 (nx4 (nx4 (nx16 (nx16 (nx16 (nx16 (nx16 (nx16 (nx16 (nx16 all7)))))))))))))).1]; exact tabC rfl <| tabN) h
theorem u109 {ds : List D} {d : D} (hn : ds.length = 2) (h : Goes EE (Holds EE) u109Ts 0 ds d) : Holds EE 109 ds d :=
  holds_of he (envFunc (c := bodyOf Tryz.f109) Tryz.func109 rfl ((Prod.mk.inj (nx1 (nx1 (nx1 (nx4 (nx4 (nx4 (nx16 (nx16 (nx16 (nx16 (nx16 (nx16 (nx16 (nx16 all7))))))))))))))).1)) (c := bodyOf Tryz.f109) rfl hn ((Prod.mk.inj (nx1 (nx4 (nx4 (nx4 (nx16 (nx16 (nx16 (nx16 (nx16 (nx16 (nx16 (nx16 all7))))))))))))).1) (by rw [(Prod.mk.inj (nx1 (nx1 (nx4 (nx4 (nx4 (nx16 (nx16 (nx16 (nx16 (nx16 (nx16 (nx16 (nx16 all7)))))))))))))).1]; exact tabN) h
theorem u110 {ds : List D} {d : D} (hn : ds.length = 2) (h : Goes EE (Holds EE) u110Ts 0 ds d) : Holds EE 110 ds d :=
  holds_of he (envFunc (c := bodyOf Tryz.f110) Tryz.func110 rfl ((Prod.mk.inj (nx1 (nx1 (nx16 (nx16 (nx16 (nx16 (nx16 (nx16 (nx16 (nx16 (nx16 all7)))))))))))).1)) (c := bodyOf Tryz.f110) rfl hn ((Prod.mk.inj (nx16 (nx16 (nx16 (nx16 (nx16 (nx16 (nx16 (nx16 (nx16 all7)))))))))).1) (by rw [(Prod.mk.inj (nx1 (nx16 (nx16 (nx16 (nx16 (nx16 (nx16 (nx16 (nx16 (nx16 all7))))))))))).1]; exact tabC rfl <| tabN) h
theorem u113 {ds : List D} {d : D} (hn : ds.length = 2) (h : Goes EE (Holds EE) u113Ts 0 ds d) : Holds EE 113 ds d :=
  holds_of he (envFunc (c := bodyOf Tryz.f113) Tryz.func113 rfl ((Prod.mk.inj (nx1 (nx4 (nx16 (nx16 (nx16 (nx16 (nx16 (nx16 (nx16 (nx16 (nx16 all7)))))))))))).1)) (c := bodyOf Tryz.f113) rfl hn ((Prod.mk.inj (nx1 (nx1 (nx1 (nx16 (nx16 (nx16 (nx16 (nx16 (nx16 (nx16 (nx16 (nx16 all7))))))))))))).1) (by rw [(Prod.mk.inj (nx4 (nx16 (nx16 (nx16 (nx16 (nx16 (nx16 (nx16 (nx16 (nx16 all7))))))))))).1]; exact tabC rfl <| tabN) h
theorem u153 {ds : List D} {d : D} (hn : ds.length = 3) (h : Goes EE (Holds EE) u153Ts 0 ds d) : Holds EE 153 ds d :=
  holds_of he (envFunc (c := bodyOf Tryz.f153) Tryz.func153 rfl ((Prod.mk.inj (nx4 (nx4 (nx16 (nx16 (nx16 (nx16 (nx16 (nx16 (nx16 (nx16 (nx16 all7)))))))))))).1)) (c := bodyOf Tryz.f153) rfl hn ((Prod.mk.inj (nx1 (nx1 (nx4 (nx16 (nx16 (nx16 (nx16 (nx16 (nx16 (nx16 (nx16 (nx16 all7))))))))))))).1) (by rw [(Prod.mk.inj (nx1 (nx1 (nx1 (nx4 (nx16 (nx16 (nx16 (nx16 (nx16 (nx16 (nx16 (nx16 (nx16 all7)))))))))))))).1]; exact tabC rfl <| tabN) h
theorem u154 {ds : List D} {d : D} (hn : ds.length = 2) (h : Goes EE (Holds EE) u154Ts 0 ds d) : Holds EE 154 ds d :=
  holds_of he (envFunc (c := bodyOf Tryz.f154) Tryz.func154 rfl ((Prod.mk.inj (nx1 (nx1 (nx1 (nx4 (nx4 (nx16 (nx16 (nx16 (nx16 (nx16 (nx16 (nx16 (nx16 (nx16 all7))))))))))))))).1)) (c := bodyOf Tryz.f154) rfl hn ((Prod.mk.inj (nx1 (nx4 (nx4 (nx16 (nx16 (nx16 (nx16 (nx16 (nx16 (nx16 (nx16 (nx16 all7))))))))))))).1) (by rw [(Prod.mk.inj (nx1 (nx1 (nx4 (nx4 (nx16 (nx16 (nx16 (nx16 (nx16 (nx16 (nx16 (nx16 (nx16 all7)))))))))))))).1]; exact tabC rfl <| tabN) h
theorem u155 {ds : List D} {d : D} (hn : ds.length = 2) (h : Goes EE (Holds EE) u155Ts 0 ds d) : Holds EE 155 ds d :=
  holds_of he (envFunc (c := bodyOf Tryz.f155) Tryz.func155 rfl ((nx1 (nx1 (nx4 (nx4 (nx4 (nx16 (nx16 (nx16 (nx16 (nx16 (nx16 (nx16 (nx16 (nx16 all7)))))))))))))))) (c := bodyOf Tryz.f155) rfl hn ((Prod.mk.inj (nx4 (nx4 (nx4 (nx16 (nx16 (nx16 (nx16 (nx16 (nx16 (nx16 (nx16 (nx16 all7))))))))))))).1) (by rw [(Prod.mk.inj (nx1 (nx4 (nx4 (nx4 (nx16 (nx16 (nx16 (nx16 (nx16 (nx16 (nx16 (nx16 (nx16 all7)))))))))))))).1]; exact tabC rfl <| tabN) h
end Go.Proofs.YtindbmgnapmdmaaGreatDoor
