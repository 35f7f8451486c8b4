/- Trees of functions. Conditions: none. -/
import Derived.Test.YtgkfhfcieamncaaGreatDoorSa
set_option linter.unusedVariables false
set_option linter.unusedSimpArgs false
namespace Go.Proofs.YtgkfhfcieamncaaGreatDoor
open Go Go.Am Go.Proofs



def m24_0 : Go.Am.Mode := ⟨⟨[⟨.pure, false⟩, ⟨.pure, false⟩], [(0, .v 0), (1, .v 1)], []⟩, 2, ⟨[⟨.fresh, true⟩], [(0, .v 0)], []⟩⟩
def u3P : Nat → Pat
  | _ => ⟨[], [], []⟩
def u3T0 : Tree :=
  .bind (.chk true 9) [.v 0] <|
  .bind (.chk true 7) [.v 1] <|
  .bind (.chk true 5) [.v 2] <|
  .bind (.fld false 1 8) [.v 3] <|
  .bind (.len false) [.v 6] <|
  .bind (.bin .gtr 3 (.tmp 9) (.const (.int .i64 100))) [.v 7, .c (.int .i64 100)] <|
  .ite (.v 8) (
    .call (.fn 4) [] 1 <|
    .ret [.v 9]) (
    .bind (.fld false 1 4) [.v 3] <|
    .bind (.len false) [.v 9] <|
    .bind (.bin .gtr 3 (.tmp 14) (.const (.int .i64 20))) [.v 10, .c (.int .i64 20)] <|
    .ite (.v 11) (
      .call (.fn 4) [] 1 <|
      .ret [.v 12]) (
      .bind (.fld false 1 6) [.v 3] <|
      .bind (.len false) [.v 12] <|
      .bind (.bin .gtr 3 (.tmp 21) (.const (.int .i64 200))) [.v 13, .c (.int .i64 200)] <|
      .ite (.v 14) (
        .call (.fn 4) [] 1 <|
        .ret [.v 15]) (
        .bind (.fld false 1 6) [.v 4] <|
        .bind (.len false) [.v 15] <|
        .bind (.bin .gtr 3 (.tmp 27) (.const (.int .i64 300))) [.v 16, .c (.int .i64 300)] <|
        .ite (.v 17) (
          .call (.fn 4) [] 1 <|
          .ret [.v 18]) (
          .bind (.fld false 1 4) [.v 5] <|
          .bind (.len false) [.v 18] <|
          .bind (.bin .gtr 3 (.tmp 33) (.const (.int .i64 100))) [.v 19, .c (.int .i64 100)] <|
          .ite (.v 20) (
            .call (.fn 4) [] 1 <|
            .ret [.v 21]) (
            .call (.fn 5) [.v 3] 1 <|
            .call (.fn 6) [.v 3] 1 <|
            .bind (.bin .eql 3 (.tmp 38) (.tmp 40)) [.v 21, .v 22] <|
            .ite (.v 23) (
              .call (.fn 7) [.v 4] 1 <|
              .call (.fn 8) [.v 4] 1 <|
              .bind (.bin .eql 3 (.tmp 44) (.tmp 46)) [.v 24, .v 25] <|
              .ite (.v 26) (
                .call (.fn 9) [.v 5] 1 <|
                .call (.fn 10) [.v 5] 1 <|
                .bind (.bin .eql 3 (.tmp 51) (.tmp 53)) [.v 27, .v 28] <|
                .ite (.v 29) (
                  .call (.fn 4) [] 1 <|
                  .ret [.v 30]) (
                  .ret [.c (.bool false)])) (
                .ret [.c (.bool false)])) (
              .ret [.c (.bool false)]))))))
def u3Ts : Nat → Tree
  | 0 => u3T0
  | _ => .fail

def u6P : Nat → Pat
  | 1 => ⟨[⟨.pure, false⟩, ⟨.pure, true⟩, ⟨.pure, false⟩], [(1, .loc 0 0), (3, .v 0), (4, .v 1)], [some (.whole (.v 2) 9)]⟩
  | 2 => ⟨[⟨.pure, false⟩, ⟨.pure, true⟩, ⟨.pure, false⟩], [(1, .loc 0 0), (3, .v 0), (5, .v 1)], [some (.whole (.v 2) 9)]⟩
  | 3 => ⟨[⟨.pure, false⟩, ⟨.pure, true⟩, ⟨.pure, false⟩], [(1, .loc 0 0), (3, .v 0), (6, .v 1)], [some (.whole (.v 2) 9)]⟩
  | _ => ⟨[], [], []⟩
def u6T0 : Tree :=
  .bind (.chk true 9) [.v 0] <|
  .bind (.fld false 1 0) [.v 1] <|
  .bind (.len false) [.v 2] <|
  .call (.fn 24) [.c (.slice none 0 0), .v 3] 0 <|
  .jump 1 [.v 4, .c (.int .i64 0), .v 1]
def u6T1 : Tree :=
  .bind (.fld false 1 0) [.v 2] <|
  .bind (.len false) [.v 3] <|
  .bind (.bin .lss 3 (.tmp 12) (.tmp 16)) [.v 1, .v 4] <|
  .ite (.v 5) (
    .bind (.fld false 1 0) [.v 2] <|
    .bind .inr [.v 6, .v 1] <|
    .bind (.elem 2 false 1 0) [.v 6, .v 1] <|
    .call (.fn 25) [.v 0, .v 8] 0 <|
    .bind (.fld false 1 0) [.v 2] <|
    .bind .inr [.v 10, .v 1] <|
    .bind (.elem 2 false 1 1) [.v 10, .v 1] <|
    .call (.fn 24) [.v 9, .v 12] 0 <|
    .bind (.bin .add 3 (.tmp 18) (.const (.int .i64 1))) [.v 1, .c (.int .i64 1)] <|
    .jump 1 [.v 13, .v 14, .v 2]) (
    .bind (.fld true 3 1) [.v 2] <|
    .call (.fn 26) [.v 0, .v 6] 0 <|
    .bind (.fld false 1 4) [.v 2] <|
    .bind (.len false) [.v 8] <|
    .call (.fn 24) [.v 7, .v 9] 0 <|
    .jump 2 [.v 10, .c (.int .i64 0), .v 2])
def u6T2 : Tree :=
  .bind (.fld false 1 4) [.v 2] <|
  .bind (.len false) [.v 3] <|
  .bind (.bin .lss 3 (.tmp 45) (.tmp 48)) [.v 1, .v 4] <|
  .ite (.v 5) (
    .bind (.fld false 1 4) [.v 2] <|
    .bind .inr [.v 6, .v 1] <|
    .bind (.elem 6 true 6 0) [.v 6, .v 1] <|
    .call (.fn 27) [.v 0, .v 8] 0 <|
    .bind (.bin .add 3 (.tmp 50) (.const (.int .i64 1))) [.v 1, .c (.int .i64 1)] <|
    .jump 2 [.v 9, .v 10, .v 2]) (
    .bind (.fld true 3 5) [.v 2] <|
    .call (.fn 28) [.v 0, .v 6] 0 <|
    .bind (.fld false 1 8) [.v 2] <|
    .bind (.len false) [.v 8] <|
    .call (.fn 24) [.v 7, .v 9] 0 <|
    .jump 3 [.v 10, .c (.int .i64 0), .v 2])
def u6T3 : Tree :=
  .bind (.fld false 1 8) [.v 2] <|
  .bind (.len false) [.v 3] <|
  .bind (.bin .lss 3 (.tmp 67) (.tmp 70)) [.v 1, .v 4] <|
  .ite (.v 5) (
    .bind (.fld false 1 8) [.v 2] <|
    .bind .inr [.v 6, .v 1] <|
    .bind (.elem 8 true 8 0) [.v 6, .v 1] <|
    .call (.fn 29) [.v 0, .v 8] 0 <|
    .bind (.bin .add 3 (.tmp 72) (.const (.int .i64 1))) [.v 1, .c (.int .i64 1)] <|
    .jump 3 [.v 9, .v 10, .v 2]) (
    .call (.fn 30) [.v 0] 1 <|
    .ret [.v 6])
def u6Ts : Nat → Tree
  | 0 => u6T0
  | 1 => u6T1
  | 2 => u6T2
  | 3 => u6T3
  | _ => .fail

def u8P : Nat → Pat
  | 1 => ⟨[⟨.pure, false⟩, ⟨.pure, true⟩, ⟨.pure, false⟩], [(1, .loc 0 0), (3, .v 0), (4, .v 1)], [some (.whole (.v 2) 7)]⟩
  | 2 => ⟨[⟨.pure, false⟩, ⟨.pure, true⟩, ⟨.pure, false⟩], [(1, .loc 0 0), (3, .v 0), (6, .v 1)], [some (.whole (.v 2) 7)]⟩
  | _ => ⟨[], [], []⟩
def u8T0 : Tree :=
  .bind (.chk true 7) [.v 0] <|
  .bind (.fld false 1 0) [.v 1] <|
  .call (.fn 24) [.c (.slice none 0 0), .v 2] 0 <|
  .bind (.fld false 1 1) [.v 1] <|
  .call (.fn 25) [.v 3, .v 4] 0 <|
  .bind (.fld false 1 2) [.v 1] <|
  .call (.fn 24) [.v 5, .v 6] 0 <|
  .bind (.fld false 1 3) [.v 1] <|
  .call (.fn 24) [.v 7, .v 8] 0 <|
  .bind (.fld false 1 4) [.v 1] <|
  .call (.fn 33) [.v 9, .v 10] 0 <|
  .bind (.fld false 1 5) [.v 1] <|
  .bind (.len false) [.v 12] <|
  .call (.fn 24) [.v 11, .v 13] 0 <|
  .jump 1 [.v 14, .c (.int .i64 0), .v 1]
def u8T1 : Tree :=
  .bind (.fld false 1 5) [.v 2] <|
  .bind (.len false) [.v 3] <|
  .bind (.bin .lss 3 (.tmp 34) (.tmp 37)) [.v 1, .v 4] <|
  .ite (.v 5) (
    .bind (.fld false 1 5) [.v 2] <|
    .bind .inr [.v 6, .v 1] <|
    .bind (.elem 4 true 4 0) [.v 6, .v 1] <|
    .bind (.chk true 4) [.v 8] <|
    .bind (.fld false 1 0) [.v 9] <|
    .call (.fn 25) [.v 0, .v 10] 0 <|
    .bind (.fld false 1 1) [.v 9] <|
    .call (.fn 24) [.v 11, .v 12] 0 <|
    .bind (.fld false 1 2) [.v 9] <|
    .call (.fn 24) [.v 13, .v 14] 0 <|
    .bind (.fld false 1 3) [.v 9] <|
    .call (.fn 24) [.v 15, .v 16] 0 <|
    .bind (.bin .add 3 (.tmp 39) (.const (.int .i64 1))) [.v 1, .c (.int .i64 1)] <|
    .jump 1 [.v 17, .v 18, .v 2]) (
    .bind (.fld false 1 6) [.v 2] <|
    .bind (.len false) [.v 6] <|
    .call (.fn 24) [.v 0, .v 7] 0 <|
    .jump 2 [.v 8, .c (.int .i64 0), .v 2])
def u8T2 : Tree :=
  .bind (.fld false 1 6) [.v 2] <|
  .bind (.len false) [.v 3] <|
  .bind (.bin .lss 3 (.tmp 64) (.tmp 67)) [.v 1, .v 4] <|
  .ite (.v 5) (
    .bind (.fld false 1 6) [.v 2] <|
    .bind .inr [.v 6, .v 1] <|
    .bind (.elem 7 true 7 0) [.v 6, .v 1] <|
    .bind (.chk true 7) [.v 8] <|
    .bind (.fld false 1 0) [.v 9] <|
    .call (.fn 24) [.v 0, .v 10] 0 <|
    .bind (.fld false 1 1) [.v 9] <|
    .call (.fn 24) [.v 11, .v 12] 0 <|
    .bind (.fld false 1 2) [.v 9] <|
    .call (.fn 24) [.v 13, .v 14] 0 <|
    .bind (.fld true 2 3) [.v 9] <|
    .call (.fn 34) [.v 15, .v 16] 0 <|
    .bind (.fld false 1 5) [.v 9] <|
    .call (.fn 24) [.v 17, .v 18] 0 <|
    .bind (.fld false 1 6) [.v 9] <|
    .call (.fn 25) [.v 19, .v 20] 0 <|
    .bind (.bin .add 3 (.tmp 69) (.const (.int .i64 1))) [.v 1, .c (.int .i64 1)] <|
    .jump 2 [.v 21, .v 22, .v 2]) (
    .call (.fn 30) [.v 0] 1 <|
    .ret [.v 6])
def u8Ts : Nat → Tree
  | 0 => u8T0
  | 1 => u8T1
  | 2 => u8T2
  | _ => .fail

def u10P : Nat → Pat
  | _ => ⟨[], [], []⟩
def u10T0 : Tree :=
  .bind (.chk true 5) [.v 0] <|
  .bind (.fld false 1 0) [.v 1] <|
  .call (.fn 24) [.c (.slice none 0 0), .v 2] 0 <|
  .bind (.fld false 1 1) [.v 1] <|
  .call (.fn 25) [.v 3, .v 4] 0 <|
  .bind (.fld false 1 2) [.v 1] <|
  .call (.fn 25) [.v 5, .v 6] 0 <|
  .bind (.fld false 1 3) [.v 1] <|
  .call (.fn 33) [.v 7, .v 8] 0 <|
  .bind (.fld false 1 4) [.v 1] <|
  .call (.fn 36) [.v 9, .v 10] 0 <|
  .call (.fn 30) [.v 11] 1 <|
  .ret [.v 12]
def u10Ts : Nat → Tree
  | 0 => u10T0
  | _ => .fail

def u24P : Nat → Pat
  | 1 => ⟨[⟨.pure, true⟩, ⟨.fresh, true⟩], [(5, .v 0), (6, .v 1)], []⟩
  | _ => ⟨[], [], []⟩
def u24T0 : Tree :=
  .bind (.conv 3 149) [.v 1] <|
  .bind (.bin .mul 149 (.tmp 8) (.const (.int .u64 2))) [.v 2, .c (.int .u64 2)] <|
  .bind (.bin .lss 3 (.tmp 10) (.const (.int .i64 0))) [.v 1, .c (.int .i64 0)] <|
  .ite (.v 4) (
    .bind (.bin .add 3 (.tmp 12) (.const (.int .i64 1))) [.v 1, .c (.int .i64 1)] <|
    .bind (.un .neg 3) [.v 5] <|
    .bind (.conv 3 149) [.v 6] <|
    .bind (.bin .mul 149 (.tmp 15) (.const (.int .u64 2))) [.v 7, .c (.int .u64 2)] <|
    .bind (.bin .add 149 (.tmp 16) (.const (.int .u64 1))) [.v 8, .c (.int .u64 1)] <|
    .bind (.lit 5 1) [] <|
    .bind (.app 5 1 1) [.v 10, .v 0] <|
    .jump 1 [.v 9, .v 11]) (
    .bind (.lit 5 1) [] <|
    .bind (.app 5 1 1) [.v 5, .v 0] <|
    .jump 1 [.v 3, .v 6])
def u24T1 : Tree :=
  .bind (.bin .geq 149 (.tmp 21) (.const (.int .u64 128))) [.v 0, .c (.int .u64 128)] <|
  .ite (.v 2) (
    .bind (.bin .rem 149 (.tmp 24) (.const (.int .u64 128))) [.v 0, .c (.int .u64 128)] <|
    .bind (.bin .add 149 (.tmp 25) (.const (.int .u64 128))) [.v 3, .c (.int .u64 128)] <|
    .bind (.conv 149 5) [.v 4] <|
    .bind (.chk false 1) [.v 5] <|
    .bind (.lit 5 1) [.v 5] <|
    .bind (.app 5 1 1) [.v 1, .v 7] <|
    .bind (.bin .quo 149 (.tmp 30) (.const (.int .u64 128))) [.v 0, .c (.int .u64 128)] <|
    .jump 1 [.v 9, .v 8]) (
    .bind (.conv 149 5) [.v 0] <|
    .bind (.chk false 1) [.v 3] <|
    .bind (.lit 5 1) [.v 3] <|
    .bind (.app 5 1 1) [.v 1, .v 5] <|
    .ret [.v 6])
def u24Ts : Nat → Tree
  | 0 => u24T0
  | 1 => u24T1
  | _ => .fail

def u25P : Nat → Pat
  | _ => ⟨[], [], []⟩
def u25T0 : Tree :=
  .bind (.len true) [.v 1] <|
  .callM 24 m24_0 [.v 0, .v 2] <|
  .bind (.byt 5) [.v 1] <|
  .bind (.app 5 1 1) [.v 3, .v 4] <|
  .ret [.v 5]
def u25Ts : Nat → Tree
  | 0 => u25T0
  | _ => .fail

def u26P : Nat → Pat
  | 1 => ⟨[⟨.pure, false⟩, ⟨.pure, true⟩, ⟨.pure, false⟩], [(0, .v 0), (3, .loc 0 0), (5, .v 1)], [some (.whole (.v 2) 3)]⟩
  | 2 => ⟨[⟨.pure, false⟩, ⟨.pure, true⟩, ⟨.pure, false⟩], [(0, .v 0), (3, .loc 0 0), (6, .v 1)], [some (.whole (.v 2) 3)]⟩
  | _ => ⟨[], [], []⟩
def u26T0 : Tree :=
  .bind (.chk true 3) [.v 1] <|
  .bind (.fld false 1 0) [.v 2] <|
  .call (.fn 25) [.v 0, .v 3] 0 <|
  .bind (.fld false 1 1) [.v 2] <|
  .bind (.len false) [.v 5] <|
  .call (.fn 24) [.v 4, .v 6] 0 <|
  .jump 1 [.v 7, .c (.int .i64 0), .v 2]
def u26T1 : Tree :=
  .bind (.fld false 1 1) [.v 2] <|
  .bind (.len false) [.v 3] <|
  .bind (.bin .lss 3 (.tmp 16) (.tmp 19)) [.v 1, .v 4] <|
  .ite (.v 5) (
    .bind (.fld false 1 1) [.v 2] <|
    .bind .inr [.v 6, .v 1] <|
    .bind (.elem 2 false 1 0) [.v 6, .v 1] <|
    .call (.fn 25) [.v 0, .v 8] 0 <|
    .bind (.fld false 1 1) [.v 2] <|
    .bind .inr [.v 10, .v 1] <|
    .bind (.elem 2 false 1 1) [.v 10, .v 1] <|
    .call (.fn 33) [.v 9, .v 12] 0 <|
    .bind (.bin .add 3 (.tmp 21) (.const (.int .i64 1))) [.v 1, .c (.int .i64 1)] <|
    .jump 1 [.v 13, .v 14, .v 2]) (
    .bind (.fld false 1 2) [.v 2] <|
    .bind (.len false) [.v 6] <|
    .call (.fn 24) [.v 0, .v 7] 0 <|
    .jump 2 [.v 8, .c (.int .i64 0), .v 2])
def u26T2 : Tree :=
  .bind (.fld false 1 2) [.v 2] <|
  .bind (.len false) [.v 3] <|
  .bind (.bin .lss 3 (.tmp 43) (.tmp 46)) [.v 1, .v 4] <|
  .ite (.v 5) (
    .bind (.fld false 1 2) [.v 2] <|
    .bind .inr [.v 6, .v 1] <|
    .bind (.elem 1 false 1 0) [.v 6, .v 1] <|
    .call (.fn 52) [.v 0, .v 8] 0 <|
    .bind (.bin .add 3 (.tmp 48) (.const (.int .i64 1))) [.v 1, .c (.int .i64 1)] <|
    .jump 2 [.v 9, .v 10, .v 2]) (
    .ret [.v 0])
def u26Ts : Nat → Tree
  | 0 => u26T0
  | 1 => u26T1
  | 2 => u26T2
  | _ => .fail

def u27P : Nat → Pat
  | _ => ⟨[], [], []⟩
def u27T0 : Tree :=
  .bind (.chk true 6) [.v 1] <|
  .bind (.fld false 1 0) [.v 2] <|
  .call (.fn 33) [.v 0, .v 3] 0 <|
  .bind (.fld false 1 1) [.v 2] <|
  .call (.fn 33) [.v 4, .v 5] 0 <|
  .bind (.fld false 1 2) [.v 2] <|
  .call (.fn 53) [.v 6, .v 7] 0 <|
  .bind (.fld false 1 3) [.v 2] <|
  .call (.fn 53) [.v 8, .v 9] 0 <|
  .bind (.fld false 1 4) [.v 2] <|
  .call (.fn 54) [.v 10, .v 11] 0 <|
  .bind (.fld false 1 5) [.v 2] <|
  .call (.fn 54) [.v 12, .v 13] 0 <|
  .ret [.v 14]
def u27Ts : Nat → Tree
  | 0 => u27T0
  | _ => .fail

def u28P : Nat → Pat
  | 1 => ⟨[⟨.pure, false⟩, ⟨.pure, true⟩, ⟨.pure, false⟩], [(0, .v 0), (3, .loc 0 0), (5, .v 1)], [some (.whole (.v 2) 3)]⟩
  | _ => ⟨[], [], []⟩
def u28T0 : Tree :=
  .bind (.chk true 3) [.v 1] <|
  .bind (.fld false 1 0) [.v 2] <|
  .call (.fn 24) [.v 0, .v 3] 0 <|
  .bind (.fld false 1 1) [.v 2] <|
  .bind (.len false) [.v 5] <|
  .call (.fn 24) [.v 4, .v 6] 0 <|
  .jump 1 [.v 7, .c (.int .i64 0), .v 2]
def u28T1 : Tree :=
  .bind (.fld false 1 1) [.v 2] <|
  .bind (.len false) [.v 3] <|
  .bind (.bin .lss 3 (.tmp 14) (.tmp 17)) [.v 1, .v 4] <|
  .ite (.v 5) (
    .bind (.fld false 1 1) [.v 2] <|
    .bind .inr [.v 6, .v 1] <|
    .bind (.elem 3 false 1 0) [.v 6, .v 1] <|
    .call (.fn 24) [.v 0, .v 8] 0 <|
    .bind (.fld false 1 1) [.v 2] <|
    .bind .inr [.v 10, .v 1] <|
    .bind (.elem 3 false 1 1) [.v 10, .v 1] <|
    .call (.fn 24) [.v 9, .v 12] 0 <|
    .bind (.fld false 1 1) [.v 2] <|
    .bind .inr [.v 14, .v 1] <|
    .bind (.elem 3 false 1 2) [.v 14, .v 1] <|
    .call (.fn 24) [.v 13, .v 16] 0 <|
    .bind (.bin .add 3 (.tmp 19) (.const (.int .i64 1))) [.v 1, .c (.int .i64 1)] <|
    .jump 1 [.v 17, .v 18, .v 2]) (
    .bind (.fld false 1 2) [.v 2] <|
    .call (.fn 33) [.v 0, .v 6] 0 <|
    .ret [.v 7])
def u28Ts : Nat → Tree
  | 0 => u28T0
  | 1 => u28T1
  | _ => .fail

def u29P : Nat → Pat
  | 1 => ⟨[⟨.pure, false⟩, ⟨.pure, true⟩, ⟨.pure, false⟩], [(0, .v 0), (3, .loc 0 0), (5, .v 1)], [some (.whole (.v 2) 8)]⟩
  | 2 => ⟨[⟨.pure, false⟩, ⟨.pure, true⟩, ⟨.pure, false⟩], [(0, .v 0), (3, .loc 0 0), (6, .v 1)], [some (.whole (.v 2) 8)]⟩
  | _ => ⟨[], [], []⟩
def u29T0 : Tree :=
  .bind (.chk true 8) [.v 1] <|
  .bind (.fld false 1 0) [.v 2] <|
  .call (.fn 24) [.v 0, .v 3] 0 <|
  .bind (.fld false 1 1) [.v 2] <|
  .call (.fn 33) [.v 4, .v 5] 0 <|
  .bind (.fld false 1 2) [.v 2] <|
  .call (.fn 24) [.v 6, .v 7] 0 <|
  .bind (.fld false 1 3) [.v 2] <|
  .call (.fn 55) [.v 8, .v 9] 0 <|
  .bind (.fld false 1 4) [.v 2] <|
  .call (.fn 24) [.v 10, .v 11] 0 <|
  .bind (.fld false 1 5) [.v 2] <|
  .bind (.len false) [.v 13] <|
  .call (.fn 24) [.v 12, .v 14] 0 <|
  .jump 1 [.v 15, .c (.int .i64 0), .v 2]
def u29T1 : Tree :=
  .bind (.fld false 1 5) [.v 2] <|
  .bind (.len false) [.v 3] <|
  .bind (.bin .lss 3 (.tmp 29) (.tmp 32)) [.v 1, .v 4] <|
  .ite (.v 5) (
    .bind (.fld false 1 5) [.v 2] <|
    .bind .inr [.v 6, .v 1] <|
    .bind (.elem 2 false 1 0) [.v 6, .v 1] <|
    .call (.fn 25) [.v 0, .v 8] 0 <|
    .bind (.fld false 1 5) [.v 2] <|
    .bind .inr [.v 10, .v 1] <|
    .bind (.elem 2 false 1 1) [.v 10, .v 1] <|
    .call (.fn 25) [.v 9, .v 12] 0 <|
    .bind (.bin .add 3 (.tmp 34) (.const (.int .i64 1))) [.v 1, .c (.int .i64 1)] <|
    .jump 1 [.v 13, .v 14, .v 2]) (
    .bind (.fld false 1 6) [.v 2] <|
    .bind (.len false) [.v 6] <|
    .call (.fn 24) [.v 0, .v 7] 0 <|
    .jump 2 [.v 8, .c (.int .i64 0), .v 2])
def u29T2 : Tree :=
  .bind (.fld false 1 6) [.v 2] <|
  .bind (.len false) [.v 3] <|
  .bind (.bin .lss 3 (.tmp 56) (.tmp 59)) [.v 1, .v 4] <|
  .ite (.v 5) (
    .bind (.fld false 1 6) [.v 2] <|
    .bind .inr [.v 6, .v 1] <|
    .bind (.elem 2 false 1 0) [.v 6, .v 1] <|
    .call (.fn 24) [.v 0, .v 8] 0 <|
    .bind (.fld false 1 6) [.v 2] <|
    .bind .inr [.v 10, .v 1] <|
    .bind (.elem 2 false 1 1) [.v 10, .v 1] <|
    .call (.fn 24) [.v 9, .v 12] 0 <|
    .bind (.bin .add 3 (.tmp 61) (.const (.int .i64 1))) [.v 1, .c (.int .i64 1)] <|
    .jump 2 [.v 13, .v 14, .v 2]) (
    .bind (.fld false 1 7) [.v 2] <|
    .call (.fn 36) [.v 0, .v 6] 0 <|
    .ret [.v 7])
def u29Ts : Nat → Tree
  | 0 => u29T0
  | 1 => u29T1
  | 2 => u29T2
  | _ => .fail

def u30P : Nat → Pat
  | _ => ⟨[], [], []⟩
def u30T0 : Tree :=
  .call (.fn 56) [.c (.int .i64 860922984064492325), .v 0] 1 <|
  .ret [.v 1]
def u30Ts : Nat → Tree
  | 0 => u30T0
  | _ => .fail

def u33P : Nat → Pat
  | 1 => ⟨[⟨.pure, false⟩, ⟨.pure, false⟩, ⟨.pure, true⟩, ⟨.pure, true⟩], [(1, .v 0), (5, .v 1), (12, .v 2), (13, .v 3)], []⟩
  | _ => ⟨[], [], []⟩
def u33T0 : Tree :=
  .bind (.len false) [.v 1] <|
  .call (.fn 24) [.v 0, .v 2] 0 <|
  .bind (.len false) [.v 1] <|
  .jump 1 [.v 1, .v 3, .v 4, .c (.int .i64 0)]
def u33T1 : Tree :=
  .bind (.bin .lss 3 (.tmp 13) (.tmp 12)) [.v 3, .v 2] <|
  .ite (.v 4) (
    .bind .inr [.v 0, .v 3] <|
    .bind (.elem 1 false 1 0) [.v 0, .v 3] <|
    .call (.fn 24) [.v 1, .v 6] 0 <|
    .bind (.bin .add 3 (.tmp 13) (.const (.int .i64 1))) [.v 3, .c (.int .i64 1)] <|
    .jump 1 [.v 0, .v 7, .v 2, .v 8]) (
    .ret [.v 1])
def u33Ts : Nat → Tree
  | 0 => u33T0
  | 1 => u33T1
  | _ => .fail

def u34P : Nat → Pat
  | _ => ⟨[], [], []⟩
def u34T0 : Tree :=
  .bind (.chk true 2) [.v 1] <|
  .bind (.fld false 1 0) [.v 2] <|
  .call (.fn 24) [.v 0, .v 3] 0 <|
  .bind (.fld false 1 1) [.v 2] <|
  .call (.fn 24) [.v 4, .v 5] 0 <|
  .ret [.v 6]
def u34Ts : Nat → Tree
  | 0 => u34T0
  | _ => .fail

def u36P : Nat → Pat
  | 1 => ⟨[⟨.pure, false⟩, ⟨.pure, false⟩, ⟨.pure, true⟩], [(0, .v 0), (1, .v 1), (5, .v 2)], []⟩
  | _ => ⟨[], [], []⟩
def u36T0 : Tree :=
  .bind (.len false) [.v 1] <|
  .call (.fn 24) [.v 0, .v 2] 0 <|
  .jump 1 [.v 3, .v 1, .c (.int .i64 0)]
def u36T1 : Tree :=
  .bind (.len false) [.v 1] <|
  .bind (.bin .lss 3 (.tmp 10) (.tmp 12)) [.v 2, .v 3] <|
  .ite (.v 4) (
    .bind .inr [.v 1, .v 2] <|
    .bind (.elem 2 false 1 0) [.v 1, .v 2] <|
    .call (.fn 24) [.v 0, .v 6] 0 <|
    .bind .inr [.v 1, .v 2] <|
    .bind (.elem 2 false 1 1) [.v 1, .v 2] <|
    .call (.fn 24) [.v 7, .v 9] 0 <|
    .bind (.bin .add 3 (.tmp 14) (.const (.int .i64 1))) [.v 2, .c (.int .i64 1)] <|
    .jump 1 [.v 10, .v 1, .v 11]) (
    .ret [.v 0])
def u36Ts : Nat → Tree
  | 0 => u36T0
  | 1 => u36T1
  | _ => .fail

def u52P : Nat → Pat
  | 1 => ⟨[⟨.pure, false⟩, ⟨.pure, false⟩, ⟨.pure, true⟩], [(0, .v 0), (1, .v 1), (5, .v 2)], []⟩
  | _ => ⟨[], [], []⟩
def u52T0 : Tree :=
  .bind (.len false) [.v 1] <|
  .call (.fn 24) [.v 0, .v 2] 0 <|
  .jump 1 [.v 3, .v 1, .c (.int .i64 0)]
def u52T1 : Tree :=
  .bind (.len false) [.v 1] <|
  .bind (.bin .lss 3 (.tmp 10) (.tmp 12)) [.v 2, .v 3] <|
  .ite (.v 4) (
    .bind .inr [.v 1, .v 2] <|
    .bind (.elem 1 false 1 0) [.v 1, .v 2] <|
    .call (.fn 25) [.v 0, .v 6] 0 <|
    .bind (.bin .add 3 (.tmp 14) (.const (.int .i64 1))) [.v 2, .c (.int .i64 1)] <|
    .jump 1 [.v 7, .v 1, .v 8]) (
    .ret [.v 0])
def u52Ts : Nat → Tree
  | 0 => u52T0
  | 1 => u52T1
  | _ => .fail

def u53P : Nat → Pat
  | 1 => ⟨[⟨.pure, false⟩, ⟨.pure, false⟩, ⟨.pure, true⟩], [(0, .v 0), (1, .v 1), (5, .v 2)], []⟩
  | _ => ⟨[], [], []⟩
def u53T0 : Tree :=
  .bind (.len false) [.v 1] <|
  .call (.fn 24) [.v 0, .v 2] 0 <|
  .jump 1 [.v 3, .v 1, .c (.int .i64 0)]
def u53T1 : Tree :=
  .bind (.len false) [.v 1] <|
  .bind (.bin .lss 3 (.tmp 10) (.tmp 12)) [.v 2, .v 3] <|
  .ite (.v 4) (
    .bind .inr [.v 1, .v 2] <|
    .bind (.elem 2 false 1 0) [.v 1, .v 2] <|
    .call (.fn 24) [.v 0, .v 6] 0 <|
    .bind .inr [.v 1, .v 2] <|
    .bind (.elem 2 false 1 1) [.v 1, .v 2] <|
    .call (.fn 24) [.v 7, .v 9] 0 <|
    .bind (.bin .add 3 (.tmp 14) (.const (.int .i64 1))) [.v 2, .c (.int .i64 1)] <|
    .jump 1 [.v 10, .v 1, .v 11]) (
    .ret [.v 0])
def u53Ts : Nat → Tree
  | 0 => u53T0
  | 1 => u53T1
  | _ => .fail

def u54P : Nat → Pat
  | _ => ⟨[], [], []⟩
def u54T0 : Tree :=
  .ite (.v 1) (
    .call (.fn 24) [.v 0, .c (.int .i64 1)] 0 <|
    .ret [.v 2]) (
    .call (.fn 24) [.v 0, .c (.int .i64 0)] 0 <|
    .ret [.v 2])
def u54Ts : Nat → Tree
  | 0 => u54T0
  | _ => .fail

def u55P : Nat → Pat
  | 1 => ⟨[⟨.pure, false⟩, ⟨.pure, false⟩, ⟨.pure, true⟩], [(0, .v 0), (1, .v 1), (5, .v 2)], []⟩
  | _ => ⟨[], [], []⟩
def u55T0 : Tree :=
  .bind (.len false) [.v 1] <|
  .call (.fn 24) [.v 0, .v 2] 0 <|
  .jump 1 [.v 3, .v 1, .c (.int .i64 0)]
def u55T1 : Tree :=
  .bind (.len false) [.v 1] <|
  .bind (.bin .lss 3 (.tmp 10) (.tmp 12)) [.v 2, .v 3] <|
  .ite (.v 4) (
    .bind .inr [.v 1, .v 2] <|
    .bind (.elem 1 false 1 0) [.v 1, .v 2] <|
    .call (.fn 33) [.v 0, .v 6] 0 <|
    .bind (.bin .add 3 (.tmp 14) (.const (.int .i64 1))) [.v 2, .c (.int .i64 1)] <|
    .jump 1 [.v 7, .v 1, .v 8]) (
    .ret [.v 0])
def u55Ts : Nat → Tree
  | 0 => u55T0
  | 1 => u55T1
  | _ => .fail

def u56P : Nat → Pat
  | 1 => ⟨[⟨.pure, false⟩, ⟨.pure, true⟩, ⟨.pure, true⟩], [(1, .v 0), (5, .v 1), (6, .v 2)], []⟩
  | _ => ⟨[], [], []⟩
def u56T0 : Tree :=
  .bind (.conv 3 149) [.v 0] <|
  .bind (.bin .and 149 (.tmp 8) (.const (.int .u64 4611686018427387903))) [.v 2, .c (.int .u64 4611686018427387903)] <|
  .jump 1 [.v 1, .v 3, .c (.int .i64 0)]
def u56T1 : Tree :=
  .bind (.len false) [.v 0] <|
  .bind (.bin .lss 3 (.tmp 10) (.tmp 12)) [.v 2, .v 3] <|
  .ite (.v 4) (
    .bind .inr [.v 0, .v 2] <|
    .bind (.elem 1 false 1 0) [.v 0, .v 2] <|
    .bind (.conv 5 149) [.v 6] <|
    .bind (.bin .xor 149 (.tmp 16) (.tmp 21)) [.v 1, .v 7] <|
    .bind (.bin .mul 149 (.tmp 22) (.const (.int .u64 1099511628211))) [.v 8, .c (.int .u64 1099511628211)] <|
    .bind (.bin .and 149 (.tmp 23) (.const (.int .u64 4611686018427387903))) [.v 9, .c (.int .u64 4611686018427387903)] <|
    .bind (.bin .add 3 (.tmp 14) (.const (.int .i64 1))) [.v 2, .c (.int .i64 1)] <|
    .jump 1 [.v 0, .v 10, .v 11]) (
    .bind (.conv 149 3) [.v 1] <|
    .ret [.v 5])
def u56Ts : Nat → Tree
  | 0 => u56T0
  | 1 => u56T1
  | _ => .fail

def w24_0P : Nat → Pat
  | 1 => ⟨[⟨.pure, true⟩, ⟨.fresh, true⟩], [(5, .v 0), (6, .v 1)], []⟩
  | _ => ⟨[⟨.pure, false⟩, ⟨.pure, false⟩], [(0, .v 0), (1, .v 1)], []⟩
def w24_0T0 : Tree :=
  .bind (.conv 3 149) [.v 1] <|
  .bind (.bin .mul 149 (.tmp 8) (.const (.int .u64 2))) [.v 2, .c (.int .u64 2)] <|
  .bind (.bin .lss 3 (.tmp 10) (.const (.int .i64 0))) [.v 1, .c (.int .i64 0)] <|
  .ite (.v 4) (
    .bind (.bin .add 3 (.tmp 12) (.const (.int .i64 1))) [.v 1, .c (.int .i64 1)] <|
    .bind (.un .neg 3) [.v 5] <|
    .bind (.conv 3 149) [.v 6] <|
    .bind (.bin .mul 149 (.tmp 15) (.const (.int .u64 2))) [.v 7, .c (.int .u64 2)] <|
    .bind (.bin .add 149 (.tmp 16) (.const (.int .u64 1))) [.v 8, .c (.int .u64 1)] <|
    .bind (.lit 5 1) [] <|
    .bind (.app 5 1 1) [.v 10, .v 0] <|
    .jump 1 [.v 9, .v 11]) (
    .bind (.lit 5 1) [] <|
    .bind (.app 5 1 1) [.v 5, .v 0] <|
    .jump 1 [.v 3, .v 6])
def w24_0T1 : Tree :=
  .bind (.bin .geq 149 (.tmp 21) (.const (.int .u64 128))) [.v 0, .c (.int .u64 128)] <|
  .ite (.v 2) (
    .bind (.bin .rem 149 (.tmp 24) (.const (.int .u64 128))) [.v 0, .c (.int .u64 128)] <|
    .bind (.bin .add 149 (.tmp 25) (.const (.int .u64 128))) [.v 3, .c (.int .u64 128)] <|
    .bind (.conv 149 5) [.v 4] <|
    .bind (.chk false 1) [.v 5] <|
    .bind (.lit 5 1) [.v 5] <|
    .bind (.app 5 1 1) [.v 1, .v 7] <|
    .bind (.bin .quo 149 (.tmp 30) (.const (.int .u64 128))) [.v 0, .c (.int .u64 128)] <|
    .jump 1 [.v 9, .v 8]) (
    .bind (.conv 149 5) [.v 0] <|
    .bind (.chk false 1) [.v 3] <|
    .bind (.lit 5 1) [.v 3] <|
    .bind (.app 5 1 1) [.v 1, .v 5] <|
    .ret [.v 6])
def w24_0Ts : Nat → Tree
  | 0 => w24_0T0
  | 1 => w24_0T1
  | _ => .fail

theorem allR : (rootT EE (fun k S => jumpS (Nat.max Tryz.f3.ntmps 3) (u3P k) k S) Tryz.f3 3,
  headsT EE (fun k => (u3P k).st (Nat.max Tryz.f3.ntmps 3)) (fun k S => jumpS (Nat.max Tryz.f3.ntmps 3) (u3P k) k S) 1 (bodyOf Tryz.f3) (endK EE Tryz.f3.results.toList),
  (Tryz.f3.name == "runtime.NumGoroutine" || !regsOk (bodyOf Tryz.f3)),
  rootT EE (fun k S => jumpS (Nat.max Tryz.f6.ntmps 1) (u6P k) k S) Tryz.f6 1,
  headsT EE (fun k => (u6P k).st (Nat.max Tryz.f6.ntmps 1)) (fun k S => jumpS (Nat.max Tryz.f6.ntmps 1) (u6P k) k S) 1 (bodyOf Tryz.f6) (endK EE Tryz.f6.results.toList),
  (Tryz.f6.name == "runtime.NumGoroutine" || !regsOk (bodyOf Tryz.f6)),
  rootT EE (fun k S => jumpS (Nat.max Tryz.f8.ntmps 1) (u8P k) k S) Tryz.f8 1,
  headsT EE (fun k => (u8P k).st (Nat.max Tryz.f8.ntmps 1)) (fun k S => jumpS (Nat.max Tryz.f8.ntmps 1) (u8P k) k S) 1 (bodyOf Tryz.f8) (endK EE Tryz.f8.results.toList),
  (Tryz.f8.name == "runtime.NumGoroutine" || !regsOk (bodyOf Tryz.f8)),
  rootT EE (fun k S => jumpS (Nat.max Tryz.f10.ntmps 1) (u10P k) k S) Tryz.f10 1,
  headsT EE (fun k => (u10P k).st (Nat.max Tryz.f10.ntmps 1)) (fun k S => jumpS (Nat.max Tryz.f10.ntmps 1) (u10P k) k S) 1 (bodyOf Tryz.f10) (endK EE Tryz.f10.results.toList),
  (Tryz.f10.name == "runtime.NumGoroutine" || !regsOk (bodyOf Tryz.f10)),
  rootT EE (fun k S => jumpS (Nat.max Tryz.f24.ntmps 2) (u24P k) k S) Tryz.f24 2,
  headsT EE (fun k => (u24P k).st (Nat.max Tryz.f24.ntmps 2)) (fun k S => jumpS (Nat.max Tryz.f24.ntmps 2) (u24P k) k S) 1 (bodyOf Tryz.f24) (endK EE Tryz.f24.results.toList),
  (Tryz.f24.name == "runtime.NumGoroutine" || !regsOk (bodyOf Tryz.f24)),
  rootT EE (fun k S => jumpS (Nat.max Tryz.f25.ntmps 2) (u25P k) k S) Tryz.f25 2,
  headsT EE (fun k => (u25P k).st (Nat.max Tryz.f25.ntmps 2)) (fun k S => jumpS (Nat.max Tryz.f25.ntmps 2) (u25P k) k S) 1 (bodyOf Tryz.f25) (endK EE Tryz.f25.results.toList),
  (Tryz.f25.name == "runtime.NumGoroutine" || !regsOk (bodyOf Tryz.f25)),
  rootT EE (fun k S => jumpS (Nat.max Tryz.f26.ntmps 2) (u26P k) k S) Tryz.f26 2,
  headsT EE (fun k => (u26P k).st (Nat.max Tryz.f26.ntmps 2)) (fun k S => jumpS (Nat.max Tryz.f26.ntmps 2) (u26P k) k S) 1 (bodyOf Tryz.f26) (endK EE Tryz.f26.results.toList),
  (Tryz.f26.name == "runtime.NumGoroutine" || !regsOk (bodyOf Tryz.f26)),
  rootT EE (fun k S => jumpS (Nat.max Tryz.f27.ntmps 2) (u27P k) k S) Tryz.f27 2,
  headsT EE (fun k => (u27P k).st (Nat.max Tryz.f27.ntmps 2)) (fun k S => jumpS (Nat.max Tryz.f27.ntmps 2) (u27P k) k S) 1 (bodyOf Tryz.f27) (endK EE Tryz.f27.results.toList),
  (Tryz.f27.name == "runtime.NumGoroutine" || !regsOk (bodyOf Tryz.f27)),
  rootT EE (fun k S => jumpS (Nat.max Tryz.f28.ntmps 2) (u28P k) k S) Tryz.f28 2,
  headsT EE (fun k => (u28P k).st (Nat.max Tryz.f28.ntmps 2)) (fun k S => jumpS (Nat.max Tryz.f28.ntmps 2) (u28P k) k S) 1 (bodyOf Tryz.f28) (endK EE Tryz.f28.results.toList),
  (Tryz.f28.name == "runtime.NumGoroutine" || !regsOk (bodyOf Tryz.f28)),
  rootT EE (fun k S => jumpS (Nat.max Tryz.f29.ntmps 2) (u29P k) k S) Tryz.f29 2,
  headsT EE (fun k => (u29P k).st (Nat.max Tryz.f29.ntmps 2)) (fun k S => jumpS (Nat.max Tryz.f29.ntmps 2) (u29P k) k S) 1 (bodyOf Tryz.f29) (endK EE Tryz.f29.results.toList),
  (Tryz.f29.name == "runtime.NumGoroutine" || !regsOk (bodyOf Tryz.f29)),
  rootT EE (fun k S => jumpS (Nat.max Tryz.f30.ntmps 1) (u30P k) k S) Tryz.f30 1,
  headsT EE (fun k => (u30P k).st (Nat.max Tryz.f30.ntmps 1)) (fun k S => jumpS (Nat.max Tryz.f30.ntmps 1) (u30P k) k S) 1 (bodyOf Tryz.f30) (endK EE Tryz.f30.results.toList),
  (Tryz.f30.name == "runtime.NumGoroutine" || !regsOk (bodyOf Tryz.f30)),
  rootT EE (fun k S => jumpS (Nat.max Tryz.f33.ntmps 2) (u33P k) k S) Tryz.f33 2,
  headsT EE (fun k => (u33P k).st (Nat.max Tryz.f33.ntmps 2)) (fun k S => jumpS (Nat.max Tryz.f33.ntmps 2) (u33P k) k S) 1 (bodyOf Tryz.f33) (endK EE Tryz.f33.results.toList),
  (Tryz.f33.name == "runtime.NumGoroutine" || !regsOk (bodyOf Tryz.f33)),
  rootT EE (fun k S => jumpS (Nat.max Tryz.f34.ntmps 2) (u34P k) k S) Tryz.f34 2,
  headsT EE (fun k => (u34P k).st (Nat.max Tryz.f34.ntmps 2)) (fun k S => jumpS (Nat.max Tryz.f34.ntmps 2) (u34P k) k S) 1 (bodyOf Tryz.f34) (endK EE Tryz.f34.results.toList),
  (Tryz.f34.name == "runtime.NumGoroutine" || !regsOk (bodyOf Tryz.f34)),
  rootT EE (fun k S => jumpS (Nat.max Tryz.f36.ntmps 2) (u36P k) k S) Tryz.f36 2,
  headsT EE (fun k => (u36P k).st (Nat.max Tryz.f36.ntmps 2)) (fun k S => jumpS (Nat.max Tryz.f36.ntmps 2) (u36P k) k S) 1 (bodyOf Tryz.f36) (endK EE Tryz.f36.results.toList),
  (Tryz.f36.name == "runtime.NumGoroutine" || !regsOk (bodyOf Tryz.f36)),
  rootT EE (fun k S => jumpS (Nat.max Tryz.f52.ntmps 2) (u52P k) k S) Tryz.f52 2,
  headsT EE (fun k => (u52P k).st (Nat.max Tryz.f52.ntmps 2)) (fun k S => jumpS (Nat.max Tryz.f52.ntmps 2) (u52P k) k S) 1 (bodyOf Tryz.f52) (endK EE Tryz.f52.results.toList),
  (Tryz.f52.name == "runtime.NumGoroutine" || !regsOk (bodyOf Tryz.f52)),
  rootT EE (fun k S => jumpS (Nat.max Tryz.f53.ntmps 2) (u53P k) k S) Tryz.f53 2,
  headsT EE (fun k => (u53P k).st (Nat.max Tryz.f53.ntmps 2)) (fun k S => jumpS (Nat.max Tryz.f53.ntmps 2) (u53P k) k S) 1 (bodyOf Tryz.f53) (endK EE Tryz.f53.results.toList),
  (Tryz.f53.name == "runtime.NumGoroutine" || !regsOk (bodyOf Tryz.f53)),
  rootT EE (fun k S => jumpS (Nat.max Tryz.f54.ntmps 2) (u54P k) k S) Tryz.f54 2,
  headsT EE (fun k => (u54P k).st (Nat.max Tryz.f54.ntmps 2)) (fun k S => jumpS (Nat.max Tryz.f54.ntmps 2) (u54P k) k S) 1 (bodyOf Tryz.f54) (endK EE Tryz.f54.results.toList),
  (Tryz.f54.name == "runtime.NumGoroutine" || !regsOk (bodyOf Tryz.f54)),
  rootT EE (fun k S => jumpS (Nat.max Tryz.f55.ntmps 2) (u55P k) k S) Tryz.f55 2,
  headsT EE (fun k => (u55P k).st (Nat.max Tryz.f55.ntmps 2)) (fun k S => jumpS (Nat.max Tryz.f55.ntmps 2) (u55P k) k S) 1 (bodyOf Tryz.f55) (endK EE Tryz.f55.results.toList),
  (Tryz.f55.name == "runtime.NumGoroutine" || !regsOk (bodyOf Tryz.f55)),
  rootT EE (fun k S => jumpS (Nat.max Tryz.f56.ntmps 2) (u56P k) k S) Tryz.f56 2,
  headsT EE (fun k => (u56P k).st (Nat.max Tryz.f56.ntmps 2)) (fun k S => jumpS (Nat.max Tryz.f56.ntmps 2) (u56P k) k S) 1 (bodyOf Tryz.f56) (endK EE Tryz.f56.results.toList),
  (Tryz.f56.name == "runtime.NumGoroutine" || !regsOk (bodyOf Tryz.f56)),
  rootM EE (fun k S => jumpS (Nat.max Tryz.f24.ntmps m24_0.n) (w24_0P k) k S) Tryz.f24 m24_0,
  headsT EE (fun k => (w24_0P k).st (Nat.max Tryz.f24.ntmps m24_0.n)) (fun k S => jumpS (Nat.max Tryz.f24.ntmps m24_0.n) (w24_0P k) k S) 1 (bodyOf Tryz.f24) (endM EE m24_0 Tryz.f24.results.toList),
  (Tryz.f24.name == "runtime.NumGoroutine" || !regsOk (bodyOf Tryz.f24))) =
  (u3T0, [], false, u6T0, [(1, u6T1), (2, u6T2), (3, u6T3)], false, u8T0, [(1, u8T1), (2, u8T2)], false, u10T0, [], false, u24T0, [(1, u24T1)], false, u25T0, [], false, u26T0, [(1, u26T1), (2, u26T2)], false, u27T0, [], false, u28T0, [(1, u28T1)], false, u29T0, [(1, u29T1), (2, u29T2)], false, u30T0, [], false, u33T0, [(1, u33T1)], false, u34T0, [], false, u36T0, [(1, u36T1)], false, u52T0, [(1, u52T1)], false, u53T0, [(1, u53T1)], false, u54T0, [], false, u55T0, [(1, u55T1)], false, u56T0, [(1, u56T1)], false, w24_0T0, [(1, w24_0T1)], false) := by kernel_rfl

theorem u3 {ds : List D} {d : D} (hn : ds.length = 3) (h : Goes EE (Holds EE) u3Ts 0 ds d) : Holds EE 3 ds d :=
  holds_of he (envFunc (c := bodyOf Tryz.f3) Tryz.func3 rfl ((Prod.mk.inj (Prod.mk.inj (Prod.mk.inj allR).2).2).1)) (c := bodyOf Tryz.f3) rfl hn ((Prod.mk.inj allR).1) (by rw [(Prod.mk.inj (Prod.mk.inj allR).2).1]; exact tabN) h

theorem u6 {ds : List D} {d : D} (hn : ds.length = 1) (h : Goes EE (Holds EE) u6Ts 0 ds d) : Holds EE 6 ds d :=
  holds_of he (envFunc (c := bodyOf Tryz.f6) Tryz.func6 rfl ((Prod.mk.inj (Prod.mk.inj (Prod.mk.inj (Prod.mk.inj (Prod.mk.inj (Prod.mk.inj allR).2).2).2).2).2).1)) (c := bodyOf Tryz.f6) rfl hn ((Prod.mk.inj (Prod.mk.inj (Prod.mk.inj (Prod.mk.inj allR).2).2).2).1) (by rw [(Prod.mk.inj (Prod.mk.inj (Prod.mk.inj (Prod.mk.inj (Prod.mk.inj allR).2).2).2).2).1]; exact tabC rfl <| tabC rfl <| tabC rfl <| tabN) h

theorem u8 {ds : List D} {d : D} (hn : ds.length = 1) (h : Goes EE (Holds EE) u8Ts 0 ds d) : Holds EE 8 ds d :=
  holds_of he (envFunc (c := bodyOf Tryz.f8) Tryz.func8 rfl ((Prod.mk.inj (Prod.mk.inj (Prod.mk.inj (Prod.mk.inj (Prod.mk.inj (Prod.mk.inj (Prod.mk.inj (Prod.mk.inj (Prod.mk.inj allR).2).2).2).2).2).2).2).2).1)) (c := bodyOf Tryz.f8) rfl hn ((Prod.mk.inj (Prod.mk.inj (Prod.mk.inj (Prod.mk.inj (Prod.mk.inj (Prod.mk.inj (Prod.mk.inj allR).2).2).2).2).2).2).1) (by rw [(Prod.mk.inj (Prod.mk.inj (Prod.mk.inj (Prod.mk.inj (Prod.mk.inj (Prod.mk.inj (Prod.mk.inj (Prod.mk.inj allR).2).2).2).2).2).2).2).1]; exact tabC rfl <| tabC rfl <| tabN) h

theorem u10 {ds : List D} {d : D} (hn : ds.length = 1) (h : Goes EE (Holds EE) u10Ts 0 ds d) : Holds EE 10 ds d :=
  holds_of he (envFunc (c := bodyOf Tryz.f10) Tryz.func10 rfl ((Prod.mk.inj (Prod.mk.inj (Prod.mk.inj (Prod.mk.inj (Prod.mk.inj (Prod.mk.inj (Prod.mk.inj (Prod.mk.inj (Prod.mk.inj (Prod.mk.inj (Prod.mk.inj (Prod.mk.inj allR).2).2).2).2).2).2).2).2).2).2).2).1)) (c := bodyOf Tryz.f10) rfl hn ((Prod.mk.inj (Prod.mk.inj (Prod.mk.inj (Prod.mk.inj (Prod.mk.inj (Prod.mk.inj (Prod.mk.inj (Prod.mk.inj (Prod.mk.inj (Prod.mk.inj allR).2).2).2).2).2).2).2).2).2).1) (by rw [(Prod.mk.inj (Prod.mk.inj (Prod.mk.inj (Prod.mk.inj (Prod.mk.inj (Prod.mk.inj (Prod.mk.inj (Prod.mk.inj (Prod.mk.inj (Prod.mk.inj (Prod.mk.inj allR).2).2).2).2).2).2).2).2).2).2).1]; exact tabN) h

theorem u24 {ds : List D} {d : D} (hn : ds.length = 2) (h : Goes EE (Holds EE) u24Ts 0 ds d) : Holds EE 24 ds d :=
  holds_of he (envFunc (c := bodyOf Tryz.f24) Tryz.func24 rfl ((Prod.mk.inj (Prod.mk.inj (Prod.mk.inj (Prod.mk.inj (Prod.mk.inj (Prod.mk.inj (Prod.mk.inj (Prod.mk.inj (Prod.mk.inj (Prod.mk.inj (Prod.mk.inj (Prod.mk.inj (Prod.mk.inj (Prod.mk.inj (Prod.mk.inj allR).2).2).2).2).2).2).2).2).2).2).2).2).2).2).1)) (c := bodyOf Tryz.f24) rfl hn ((Prod.mk.inj (Prod.mk.inj (Prod.mk.inj (Prod.mk.inj (Prod.mk.inj (Prod.mk.inj (Prod.mk.inj (Prod.mk.inj (Prod.mk.inj (Prod.mk.inj (Prod.mk.inj (Prod.mk.inj (Prod.mk.inj allR).2).2).2).2).2).2).2).2).2).2).2).2).1) (by rw [(Prod.mk.inj (Prod.mk.inj (Prod.mk.inj (Prod.mk.inj (Prod.mk.inj (Prod.mk.inj (Prod.mk.inj (Prod.mk.inj (Prod.mk.inj (Prod.mk.inj (Prod.mk.inj (Prod.mk.inj (Prod.mk.inj (Prod.mk.inj allR).2).2).2).2).2).2).2).2).2).2).2).2).2).1]; exact tabC rfl <| tabN) h

theorem u25 {ds : List D} {d : D} (hn : ds.length = 2) (h : Goes EE (Holds EE) u25Ts 0 ds d) : Holds EE 25 ds d :=
  holds_of he (envFunc (c := bodyOf Tryz.f25) Tryz.func25 rfl ((Prod.mk.inj (Prod.mk.inj (Prod.mk.inj (Prod.mk.inj (Prod.mk.inj (Prod.mk.inj (Prod.mk.inj (Prod.mk.inj (Prod.mk.inj (Prod.mk.inj (Prod.mk.inj (Prod.mk.inj (Prod.mk.inj (Prod.mk.inj (Prod.mk.inj (Prod.mk.inj (Prod.mk.inj (Prod.mk.inj allR).2).2).2).2).2).2).2).2).2).2).2).2).2).2).2).2).2).1)) (c := bodyOf Tryz.f25) rfl hn ((Prod.mk.inj (Prod.mk.inj (Prod.mk.inj (Prod.mk.inj (Prod.mk.inj (Prod.mk.inj (Prod.mk.inj (Prod.mk.inj (Prod.mk.inj (Prod.mk.inj (Prod.mk.inj (Prod.mk.inj (Prod.mk.inj (Prod.mk.inj (Prod.mk.inj (Prod.mk.inj allR).2).2).2).2).2).2).2).2).2).2).2).2).2).2).2).1) (by rw [(Prod.mk.inj (Prod.mk.inj (Prod.mk.inj (Prod.mk.inj (Prod.mk.inj (Prod.mk.inj (Prod.mk.inj (Prod.mk.inj (Prod.mk.inj (Prod.mk.inj (Prod.mk.inj (Prod.mk.inj (Prod.mk.inj (Prod.mk.inj (Prod.mk.inj (Prod.mk.inj (Prod.mk.inj allR).2).2).2).2).2).2).2).2).2).2).2).2).2).2).2).2).1]; exact tabN) h

theorem u26 {ds : List D} {d : D} (hn : ds.length = 2) (h : Goes EE (Holds EE) u26Ts 0 ds d) : Holds EE 26 ds d :=
  holds_of he (envFunc (c := bodyOf Tryz.f26) Tryz.func26 rfl ((Prod.mk.inj (Prod.mk.inj (Prod.mk.inj (Prod.mk.inj (Prod.mk.inj (Prod.mk.inj (Prod.mk.inj (Prod.mk.inj (Prod.mk.inj (Prod.mk.inj (Prod.mk.inj (Prod.mk.inj (Prod.mk.inj (Prod.mk.inj (Prod.mk.inj (Prod.mk.inj (Prod.mk.inj (Prod.mk.inj (Prod.mk.inj (Prod.mk.inj (Prod.mk.inj allR).2).2).2).2).2).2).2).2).2).2).2).2).2).2).2).2).2).2).2).2).1)) (c := bodyOf Tryz.f26) rfl hn ((Prod.mk.inj (Prod.mk.inj (Prod.mk.inj (Prod.mk.inj (Prod.mk.inj (Prod.mk.inj (Prod.mk.inj (Prod.mk.inj (Prod.mk.inj (Prod.mk.inj (Prod.mk.inj (Prod.mk.inj (Prod.mk.inj (Prod.mk.inj (Prod.mk.inj (Prod.mk.inj (Prod.mk.inj (Prod.mk.inj (Prod.mk.inj allR).2).2).2).2).2).2).2).2).2).2).2).2).2).2).2).2).2).2).1) (by rw [(Prod.mk.inj (Prod.mk.inj (Prod.mk.inj (Prod.mk.inj (Prod.mk.inj (Prod.mk.inj (Prod.mk.inj (Prod.mk.inj (Prod.mk.inj (Prod.mk.inj (Prod.mk.inj (Prod.mk.inj (Prod.mk.inj (Prod.mk.inj (Prod.mk.inj (Prod.mk.inj (Prod.mk.inj (Prod.mk.inj (Prod.mk.inj (Prod.mk.inj allR).2).2).2).2).2).2).2).2).2).2).2).2).2).2).2).2).2).2).2).1]; exact tabC rfl <| tabC rfl <| tabN) h

theorem u27 {ds : List D} {d : D} (hn : ds.length = 2) (h : Goes EE (Holds EE) u27Ts 0 ds d) : Holds EE 27 ds d :=
  holds_of he (envFunc (c := bodyOf Tryz.f27) Tryz.func27 rfl ((Prod.mk.inj (Prod.mk.inj (Prod.mk.inj (Prod.mk.inj (Prod.mk.inj (Prod.mk.inj (Prod.mk.inj (Prod.mk.inj (Prod.mk.inj (Prod.mk.inj (Prod.mk.inj (Prod.mk.inj (Prod.mk.inj (Prod.mk.inj (Prod.mk.inj (Prod.mk.inj (Prod.mk.inj (Prod.mk.inj (Prod.mk.inj (Prod.mk.inj (Prod.mk.inj (Prod.mk.inj (Prod.mk.inj (Prod.mk.inj allR).2).2).2).2).2).2).2).2).2).2).2).2).2).2).2).2).2).2).2).2).2).2).2).1)) (c := bodyOf Tryz.f27) rfl hn ((Prod.mk.inj (Prod.mk.inj (Prod.mk.inj (Prod.mk.inj (Prod.mk.inj (Prod.mk.inj (Prod.mk.inj (Prod.mk.inj (Prod.mk.inj (Prod.mk.inj (Prod.mk.inj (Prod.mk.inj (Prod.mk.inj (Prod.mk.inj (Prod.mk.inj (Prod.mk.inj (Prod.mk.inj (Prod.mk.inj (Prod.mk.inj (Prod.mk.inj (Prod.mk.inj (Prod.mk.inj allR).2).2).2).2).2).2).2).2).2).2).2).2).2).2).2).2).2).2).2).2).2).1) (by rw [(Prod.mk.inj (Prod.mk.inj (Prod.mk.inj (Prod.mk.inj (Prod.mk.inj (Prod.mk.inj (Prod.mk.inj (Prod.mk.inj (Prod.mk.inj (Prod.mk.inj (Prod.mk.inj (Prod.mk.inj (Prod.mk.inj (Prod.mk.inj (Prod.mk.inj (Prod.mk.inj (Prod.mk.inj (Prod.mk.inj (Prod.mk.inj (Prod.mk.inj (Prod.mk.inj (Prod.mk.inj (Prod.mk.inj allR).2).2).2).2).2).2).2).2).2).2).2).2).2).2).2).2).2).2).2).2).2).2).1]; exact tabN) h

theorem u28 {ds : List D} {d : D} (hn : ds.length = 2) (h : Goes EE (Holds EE) u28Ts 0 ds d) : Holds EE 28 ds d :=
  holds_of he (envFunc (c := bodyOf Tryz.f28) Tryz.func28 rfl ((Prod.mk.inj (Prod.mk.inj (Prod.mk.inj (Prod.mk.inj (Prod.mk.inj (Prod.mk.inj (Prod.mk.inj (Prod.mk.inj (Prod.mk.inj (Prod.mk.inj (Prod.mk.inj (Prod.mk.inj (Prod.mk.inj (Prod.mk.inj (Prod.mk.inj (Prod.mk.inj (Prod.mk.inj (Prod.mk.inj (Prod.mk.inj (Prod.mk.inj (Prod.mk.inj (Prod.mk.inj (Prod.mk.inj (Prod.mk.inj (Prod.mk.inj (Prod.mk.inj (Prod.mk.inj allR).2).2).2).2).2).2).2).2).2).2).2).2).2).2).2).2).2).2).2).2).2).2).2).2).2).2).1)) (c := bodyOf Tryz.f28) rfl hn ((Prod.mk.inj (Prod.mk.inj (Prod.mk.inj (Prod.mk.inj (Prod.mk.inj (Prod.mk.inj (Prod.mk.inj (Prod.mk.inj (Prod.mk.inj (Prod.mk.inj (Prod.mk.inj (Prod.mk.inj (Prod.mk.inj (Prod.mk.inj (Prod.mk.inj (Prod.mk.inj (Prod.mk.inj (Prod.mk.inj (Prod.mk.inj (Prod.mk.inj (Prod.mk.inj (Prod.mk.inj (Prod.mk.inj (Prod.mk.inj (Prod.mk.inj allR).2).2).2).2).2).2).2).2).2).2).2).2).2).2).2).2).2).2).2).2).2).2).2).2).1) (by rw [(Prod.mk.inj (Prod.mk.inj (Prod.mk.inj (Prod.mk.inj (Prod.mk.inj (Prod.mk.inj (Prod.mk.inj (Prod.mk.inj (Prod.mk.inj (Prod.mk.inj (Prod.mk.inj (Prod.mk.inj (Prod.mk.inj (Prod.mk.inj (Prod.mk.inj (Prod.mk.inj (Prod.mk.inj (Prod.mk.inj (Prod.mk.inj (Prod.mk.inj (Prod.mk.inj (Prod.mk.inj (Prod.mk.inj (Prod.mk.inj (Prod.mk.inj (Prod.mk.inj allR).2).2).2).2).2).2).2).2).2).2).2).2).2).2).2).2).2).2).2).2).2).2).2).2).2).1]; exact tabC rfl <| tabN) h

theorem u29 {ds : List D} {d : D} (hn : ds.length = 2) (h : Goes EE (Holds EE) u29Ts 0 ds d) : Holds EE 29 ds d :=
  holds_of he (envFunc (c := bodyOf Tryz.f29) Tryz.func29 rfl ((Prod.mk.inj (Prod.mk.inj (Prod.mk.inj (Prod.mk.inj (Prod.mk.inj (Prod.mk.inj (Prod.mk.inj (Prod.mk.inj (Prod.mk.inj (Prod.mk.inj (Prod.mk.inj (Prod.mk.inj (Prod.mk.inj (Prod.mk.inj (Prod.mk.inj (Prod.mk.inj (Prod.mk.inj (Prod.mk.inj (Prod.mk.inj (Prod.mk.inj (Prod.mk.inj (Prod.mk.inj (Prod.mk.inj (Prod.mk.inj (Prod.mk.inj (Prod.mk.inj (Prod.mk.inj (Prod.mk.inj (Prod.mk.inj (Prod.mk.inj allR).2).2).2).2).2).2).2).2).2).2).2).2).2).2).2).2).2).2).2).2).2).2).2).2).2).2).2).2).2).1)) (c := bodyOf Tryz.f29) rfl hn ((Prod.mk.inj (Prod.mk.inj (Prod.mk.inj (Prod.mk.inj (Prod.mk.inj (Prod.mk.inj (Prod.mk.inj (Prod.mk.inj (Prod.mk.inj (Prod.mk.inj (Prod.mk.inj (Prod.mk.inj (Prod.mk.inj (Prod.mk.inj (Prod.mk.inj (Prod.mk.inj (Prod.mk.inj (Prod.mk.inj (Prod.mk.inj (Prod.mk.inj (Prod.mk.inj (Prod.mk.inj (Prod.mk.inj (Prod.mk.inj (Prod.mk.inj (Prod.mk.inj (Prod.mk.inj (Prod.mk.inj allR).2).2).2).2).2).2).2).2).2).2).2).2).2).2).2).2).2).2).2).2).2).2).2).2).2).2).2).1) (by rw [(Prod.mk.inj (Prod.mk.inj (Prod.mk.inj (Prod.mk.inj (Prod.mk.inj (Prod.mk.inj (Prod.mk.inj (Prod.mk.inj (Prod.mk.inj (Prod.mk.inj (Prod.mk.inj (Prod.mk.inj (Prod.mk.inj (Prod.mk.inj (Prod.mk.inj (Prod.mk.inj (Prod.mk.inj (Prod.mk.inj (Prod.mk.inj (Prod.mk.inj (Prod.mk.inj (Prod.mk.inj (Prod.mk.inj (Prod.mk.inj (Prod.mk.inj (Prod.mk.inj (Prod.mk.inj (Prod.mk.inj (Prod.mk.inj allR).2).2).2).2).2).2).2).2).2).2).2).2).2).2).2).2).2).2).2).2).2).2).2).2).2).2).2).2).1]; exact tabC rfl <| tabC rfl <| tabN) h

theorem u30 {ds : List D} {d : D} (hn : ds.length = 1) (h : Goes EE (Holds EE) u30Ts 0 ds d) : Holds EE 30 ds d :=
  holds_of he (envFunc (c := bodyOf Tryz.f30) Tryz.func30 rfl ((Prod.mk.inj (Prod.mk.inj (Prod.mk.inj (Prod.mk.inj (Prod.mk.inj (Prod.mk.inj (Prod.mk.inj (Prod.mk.inj (Prod.mk.inj (Prod.mk.inj (Prod.mk.inj (Prod.mk.inj (Prod.mk.inj (Prod.mk.inj (Prod.mk.inj (Prod.mk.inj (Prod.mk.inj (Prod.mk.inj (Prod.mk.inj (Prod.mk.inj (Prod.mk.inj (Prod.mk.inj (Prod.mk.inj (Prod.mk.inj (Prod.mk.inj (Prod.mk.inj (Prod.mk.inj (Prod.mk.inj (Prod.mk.inj (Prod.mk.inj (Prod.mk.inj (Prod.mk.inj (Prod.mk.inj allR).2).2).2).2).2).2).2).2).2).2).2).2).2).2).2).2).2).2).2).2).2).2).2).2).2).2).2).2).2).2).2).2).1)) (c := bodyOf Tryz.f30) rfl hn ((Prod.mk.inj (Prod.mk.inj (Prod.mk.inj (Prod.mk.inj (Prod.mk.inj (Prod.mk.inj (Prod.mk.inj (Prod.mk.inj (Prod.mk.inj (Prod.mk.inj (Prod.mk.inj (Prod.mk.inj (Prod.mk.inj (Prod.mk.inj (Prod.mk.inj (Prod.mk.inj (Prod.mk.inj (Prod.mk.inj (Prod.mk.inj (Prod.mk.inj (Prod.mk.inj (Prod.mk.inj (Prod.mk.inj (Prod.mk.inj (Prod.mk.inj (Prod.mk.inj (Prod.mk.inj (Prod.mk.inj (Prod.mk.inj (Prod.mk.inj (Prod.mk.inj allR).2).2).2).2).2).2).2).2).2).2).2).2).2).2).2).2).2).2).2).2).2).2).2).2).2).2).2).2).2).2).1) (by rw [(Prod.mk.inj (Prod.mk.inj (Prod.mk.inj (Prod.mk.inj (Prod.mk.inj (Prod.mk.inj (Prod.mk.inj (Prod.mk.inj (Prod.mk.inj (Prod.mk.inj (Prod.mk.inj (Prod.mk.inj (Prod.mk.inj (Prod.mk.inj (Prod.mk.inj (Prod.mk.inj (Prod.mk.inj (Prod.mk.inj (Prod.mk.inj (Prod.mk.inj (Prod.mk.inj (Prod.mk.inj (Prod.mk.inj (Prod.mk.inj (Prod.mk.inj (Prod.mk.inj (Prod.mk.inj (Prod.mk.inj (Prod.mk.inj (Prod.mk.inj (Prod.mk.inj (Prod.mk.inj allR).2).2).2).2).2).2).2).2).2).2).2).2).2).2).2).2).2).2).2).2).2).2).2).2).2).2).2).2).2).2).2).1]; exact tabN) h

theorem u33 {ds : List D} {d : D} (hn : ds.length = 2) (h : Goes EE (Holds EE) u33Ts 0 ds d) : Holds EE 33 ds d :=
  holds_of he (envFunc (c := bodyOf Tryz.f33) Tryz.func33 rfl ((Prod.mk.inj (Prod.mk.inj (Prod.mk.inj (Prod.mk.inj (Prod.mk.inj (Prod.mk.inj (Prod.mk.inj (Prod.mk.inj (Prod.mk.inj (Prod.mk.inj (Prod.mk.inj (Prod.mk.inj (Prod.mk.inj (Prod.mk.inj (Prod.mk.inj (Prod.mk.inj (Prod.mk.inj (Prod.mk.inj (Prod.mk.inj (Prod.mk.inj (Prod.mk.inj (Prod.mk.inj (Prod.mk.inj (Prod.mk.inj (Prod.mk.inj (Prod.mk.inj (Prod.mk.inj (Prod.mk.inj (Prod.mk.inj (Prod.mk.inj (Prod.mk.inj (Prod.mk.inj (Prod.mk.inj (Prod.mk.inj (Prod.mk.inj (Prod.mk.inj allR).2).2).2).2).2).2).2).2).2).2).2).2).2).2).2).2).2).2).2).2).2).2).2).2).2).2).2).2).2).2).2).2).2).2).2).1)) (c := bodyOf Tryz.f33) rfl hn ((Prod.mk.inj (Prod.mk.inj (Prod.mk.inj (Prod.mk.inj (Prod.mk.inj (Prod.mk.inj (Prod.mk.inj (Prod.mk.inj (Prod.mk.inj (Prod.mk.inj (Prod.mk.inj (Prod.mk.inj (Prod.mk.inj (Prod.mk.inj (Prod.mk.inj (Prod.mk.inj (Prod.mk.inj (Prod.mk.inj (Prod.mk.inj (Prod.mk.inj (Prod.mk.inj (Prod.mk.inj (Prod.mk.inj (Prod.mk.inj (Prod.mk.inj (Prod.mk.inj (Prod.mk.inj (Prod.mk.inj (Prod.mk.inj (Prod.mk.inj (Prod.mk.inj (Prod.mk.inj (Prod.mk.inj (Prod.mk.inj allR).2).2).2).2).2).2).2).2).2).2).2).2).2).2).2).2).2).2).2).2).2).2).2).2).2).2).2).2).2).2).2).2).2).1) (by rw [(Prod.mk.inj (Prod.mk.inj (Prod.mk.inj (Prod.mk.inj (Prod.mk.inj (Prod.mk.inj (Prod.mk.inj (Prod.mk.inj (Prod.mk.inj (Prod.mk.inj (Prod.mk.inj (Prod.mk.inj (Prod.mk.inj (Prod.mk.inj (Prod.mk.inj (Prod.mk.inj (Prod.mk.inj (Prod.mk.inj (Prod.mk.inj (Prod.mk.inj (Prod.mk.inj (Prod.mk.inj (Prod.mk.inj (Prod.mk.inj (Prod.mk.inj (Prod.mk.inj (Prod.mk.inj (Prod.mk.inj (Prod.mk.inj (Prod.mk.inj (Prod.mk.inj (Prod.mk.inj (Prod.mk.inj (Prod.mk.inj (Prod.mk.inj allR).2).2).2).2).2).2).2).2).2).2).2).2).2).2).2).2).2).2).2).2).2).2).2).2).2).2).2).2).2).2).2).2).2).2).1]; exact tabC rfl <| tabN) h

theorem u34 {ds : List D} {d : D} (hn : ds.length = 2) (h : Goes EE (Holds EE) u34Ts 0 ds d) : Holds EE 34 ds d :=
  holds_of he (envFunc (c := bodyOf Tryz.f34) Tryz.func34 rfl ((Prod.mk.inj (Prod.mk.inj (Prod.mk.inj (Prod.mk.inj (Prod.mk.inj (Prod.mk.inj (Prod.mk.inj (Prod.mk.inj (Prod.mk.inj (Prod.mk.inj (Prod.mk.inj (Prod.mk.inj (Prod.mk.inj (Prod.mk.inj (Prod.mk.inj (Prod.mk.inj (Prod.mk.inj (Prod.mk.inj (Prod.mk.inj (Prod.mk.inj (Prod.mk.inj (Prod.mk.inj (Prod.mk.inj (Prod.mk.inj (Prod.mk.inj (Prod.mk.inj (Prod.mk.inj (Prod.mk.inj (Prod.mk.inj (Prod.mk.inj (Prod.mk.inj (Prod.mk.inj (Prod.mk.inj (Prod.mk.inj (Prod.mk.inj (Prod.mk.inj (Prod.mk.inj (Prod.mk.inj (Prod.mk.inj allR).2).2).2).2).2).2).2).2).2).2).2).2).2).2).2).2).2).2).2).2).2).2).2).2).2).2).2).2).2).2).2).2).2).2).2).2).2).2).1)) (c := bodyOf Tryz.f34) rfl hn ((Prod.mk.inj (Prod.mk.inj (Prod.mk.inj (Prod.mk.inj (Prod.mk.inj (Prod.mk.inj (Prod.mk.inj (Prod.mk.inj (Prod.mk.inj (Prod.mk.inj (Prod.mk.inj (Prod.mk.inj (Prod.mk.inj (Prod.mk.inj (Prod.mk.inj (Prod.mk.inj (Prod.mk.inj (Prod.mk.inj (Prod.mk.inj (Prod.mk.inj (Prod.mk.inj (Prod.mk.inj (Prod.mk.inj (Prod.mk.inj (Prod.mk.inj (Prod.mk.inj (Prod.mk.inj (Prod.mk.inj (Prod.mk.inj (Prod.mk.inj (Prod.mk.inj (Prod.mk.inj (Prod.mk.inj (Prod.mk.inj (Prod.mk.inj (Prod.mk.inj (Prod.mk.inj allR).2).2).2).2).2).2).2).2).2).2).2).2).2).2).2).2).2).2).2).2).2).2).2).2).2).2).2).2).2).2).2).2).2).2).2).2).1) (by rw [(Prod.mk.inj (Prod.mk.inj (Prod.mk.inj (Prod.mk.inj (Prod.mk.inj (Prod.mk.inj (Prod.mk.inj (Prod.mk.inj (Prod.mk.inj (Prod.mk.inj (Prod.mk.inj (Prod.mk.inj (Prod.mk.inj (Prod.mk.inj (Prod.mk.inj (Prod.mk.inj (Prod.mk.inj (Prod.mk.inj (Prod.mk.inj (Prod.mk.inj (Prod.mk.inj (Prod.mk.inj (Prod.mk.inj (Prod.mk.inj (Prod.mk.inj (Prod.mk.inj (Prod.mk.inj (Prod.mk.inj (Prod.mk.inj (Prod.mk.inj (Prod.mk.inj (Prod.mk.inj (Prod.mk.inj (Prod.mk.inj (Prod.mk.inj (Prod.mk.inj (Prod.mk.inj (Prod.mk.inj allR).2).2).2).2).2).2).2).2).2).2).2).2).2).2).2).2).2).2).2).2).2).2).2).2).2).2).2).2).2).2).2).2).2).2).2).2).2).1]; exact tabN) h

theorem u36 {ds : List D} {d : D} (hn : ds.length = 2) (h : Goes EE (Holds EE) u36Ts 0 ds d) : Holds EE 36 ds d :=
  holds_of he (envFunc (c := bodyOf Tryz.f36) Tryz.func36 rfl ((Prod.mk.inj (Prod.mk.inj (Prod.mk.inj (Prod.mk.inj (Prod.mk.inj (Prod.mk.inj (Prod.mk.inj (Prod.mk.inj (Prod.mk.inj (Prod.mk.inj (Prod.mk.inj (Prod.mk.inj (Prod.mk.inj (Prod.mk.inj (Prod.mk.inj (Prod.mk.inj (Prod.mk.inj (Prod.mk.inj (Prod.mk.inj (Prod.mk.inj (Prod.mk.inj (Prod.mk.inj (Prod.mk.inj (Prod.mk.inj (Prod.mk.inj (Prod.mk.inj (Prod.mk.inj (Prod.mk.inj (Prod.mk.inj (Prod.mk.inj (Prod.mk.inj (Prod.mk.inj (Prod.mk.inj (Prod.mk.inj (Prod.mk.inj (Prod.mk.inj (Prod.mk.inj (Prod.mk.inj (Prod.mk.inj (Prod.mk.inj (Prod.mk.inj (Prod.mk.inj allR).2).2).2).2).2).2).2).2).2).2).2).2).2).2).2).2).2).2).2).2).2).2).2).2).2).2).2).2).2).2).2).2).2).2).2).2).2).2).2).2).2).1)) (c := bodyOf Tryz.f36) rfl hn ((Prod.mk.inj (Prod.mk.inj (Prod.mk.inj (Prod.mk.inj (Prod.mk.inj (Prod.mk.inj (Prod.mk.inj (Prod.mk.inj (Prod.mk.inj (Prod.mk.inj (Prod.mk.inj (Prod.mk.inj (Prod.mk.inj (Prod.mk.inj (Prod.mk.inj (Prod.mk.inj (Prod.mk.inj (Prod.mk.inj (Prod.mk.inj (Prod.mk.inj (Prod.mk.inj (Prod.mk.inj (Prod.mk.inj (Prod.mk.inj (Prod.mk.inj (Prod.mk.inj (Prod.mk.inj (Prod.mk.inj (Prod.mk.inj (Prod.mk.inj (Prod.mk.inj (Prod.mk.inj (Prod.mk.inj (Prod.mk.inj (Prod.mk.inj (Prod.mk.inj (Prod.mk.inj (Prod.mk.inj (Prod.mk.inj (Prod.mk.inj allR).2).2).2).2).2).2).2).2).2).2).2).2).2).2).2).2).2).2).2).2).2).2).2).2).2).2).2).2).2).2).2).2).2).2).2).2).2).2).2).1) (by rw [(Prod.mk.inj (Prod.mk.inj (Prod.mk.inj (Prod.mk.inj (Prod.mk.inj (Prod.mk.inj (Prod.mk.inj (Prod.mk.inj (Prod.mk.inj (Prod.mk.inj (Prod.mk.inj (Prod.mk.inj (Prod.mk.inj (Prod.mk.inj (Prod.mk.inj (Prod.mk.inj (Prod.mk.inj (Prod.mk.inj (Prod.mk.inj (Prod.mk.inj (Prod.mk.inj (Prod.mk.inj (Prod.mk.inj (Prod.mk.inj (Prod.mk.inj (Prod.mk.inj (Prod.mk.inj (Prod.mk.inj (Prod.mk.inj (Prod.mk.inj (Prod.mk.inj (Prod.mk.inj (Prod.mk.inj (Prod.mk.inj (Prod.mk.inj (Prod.mk.inj (Prod.mk.inj (Prod.mk.inj (Prod.mk.inj (Prod.mk.inj (Prod.mk.inj allR).2).2).2).2).2).2).2).2).2).2).2).2).2).2).2).2).2).2).2).2).2).2).2).2).2).2).2).2).2).2).2).2).2).2).2).2).2).2).2).2).1]; exact tabC rfl <| tabN) h

theorem u52 {ds : List D} {d : D} (hn : ds.length = 2) (h : Goes EE (Holds EE) u52Ts 0 ds d) : Holds EE 52 ds d :=
  holds_of he (envFunc (c := bodyOf Tryz.f52) Tryz.func52 rfl ((Prod.mk.inj (Prod.mk.inj (Prod.mk.inj (Prod.mk.inj (Prod.mk.inj (Prod.mk.inj (Prod.mk.inj (Prod.mk.inj (Prod.mk.inj (Prod.mk.inj (Prod.mk.inj (Prod.mk.inj (Prod.mk.inj (Prod.mk.inj (Prod.mk.inj (Prod.mk.inj (Prod.mk.inj (Prod.mk.inj (Prod.mk.inj (Prod.mk.inj (Prod.mk.inj (Prod.mk.inj (Prod.mk.inj (Prod.mk.inj (Prod.mk.inj (Prod.mk.inj (Prod.mk.inj (Prod.mk.inj (Prod.mk.inj (Prod.mk.inj (Prod.mk.inj (Prod.mk.inj (Prod.mk.inj (Prod.mk.inj (Prod.mk.inj (Prod.mk.inj (Prod.mk.inj (Prod.mk.inj (Prod.mk.inj (Prod.mk.inj (Prod.mk.inj (Prod.mk.inj (Prod.mk.inj (Prod.mk.inj (Prod.mk.inj allR).2).2).2).2).2).2).2).2).2).2).2).2).2).2).2).2).2).2).2).2).2).2).2).2).2).2).2).2).2).2).2).2).2).2).2).2).2).2).2).2).2).2).2).2).1)) (c := bodyOf Tryz.f52) rfl hn ((Prod.mk.inj (Prod.mk.inj (Prod.mk.inj (Prod.mk.inj (Prod.mk.inj (Prod.mk.inj (Prod.mk.inj (Prod.mk.inj (Prod.mk.inj (Prod.mk.inj (Prod.mk.inj (Prod.mk.inj (Prod.mk.inj (Prod.mk.inj (Prod.mk.inj (Prod.mk.inj (Prod.mk.inj (Prod.mk.inj (Prod.mk.inj (Prod.mk.inj (Prod.mk.inj (Prod.mk.inj (Prod.mk.inj (Prod.mk.inj (Prod.mk.inj (Prod.mk.inj (Prod.mk.inj (Prod.mk.inj (Prod.mk.inj (Prod.mk.inj (Prod.mk.inj (Prod.mk.inj (Prod.mk.inj (Prod.mk.inj (Prod.mk.inj (Prod.mk.inj (Prod.mk.inj (Prod.mk.inj (Prod.mk.inj (Prod.mk.inj (Prod.mk.inj (Prod.mk.inj (Prod.mk.inj allR).2).2).2).2).2).2).2).2).2).2).2).2).2).2).2).2).2).2).2).2).2).2).2).2).2).2).2).2).2).2).2).2).2).2).2).2).2).2).2).2).2).2).1) (by rw [(Prod.mk.inj (Prod.mk.inj (Prod.mk.inj (Prod.mk.inj (Prod.mk.inj (Prod.mk.inj (Prod.mk.inj (Prod.mk.inj (Prod.mk.inj (Prod.mk.inj (Prod.mk.inj (Prod.mk.inj (Prod.mk.inj (Prod.mk.inj (Prod.mk.inj (Prod.mk.inj (Prod.mk.inj (Prod.mk.inj (Prod.mk.inj (Prod.mk.inj (Prod.mk.inj (Prod.mk.inj (Prod.mk.inj (Prod.mk.inj (Prod.mk.inj (Prod.mk.inj (Prod.mk.inj (Prod.mk.inj (Prod.mk.inj (Prod.mk.inj (Prod.mk.inj (Prod.mk.inj (Prod.mk.inj (Prod.mk.inj (Prod.mk.inj (Prod.mk.inj (Prod.mk.inj (Prod.mk.inj (Prod.mk.inj (Prod.mk.inj (Prod.mk.inj (Prod.mk.inj (Prod.mk.inj (Prod.mk.inj allR).2).2).2).2).2).2).2).2).2).2).2).2).2).2).2).2).2).2).2).2).2).2).2).2).2).2).2).2).2).2).2).2).2).2).2).2).2).2).2).2).2).2).2).1]; exact tabC rfl <| tabN) h

theorem u53 {ds : List D} {d : D} (hn : ds.length = 2) (h : Goes EE (Holds EE) u53Ts 0 ds d) : Holds EE 53 ds d :=
  holds_of he (envFunc (c := bodyOf Tryz.f53) Tryz.func53 rfl ((Prod.mk.inj (Prod.mk.inj (Prod.mk.inj (Prod.mk.inj (Prod.mk.inj (Prod.mk.inj (Prod.mk.inj (Prod.mk.inj (Prod.mk.inj (Prod.mk.inj (Prod.mk.inj (Prod.mk.inj (Prod.mk.inj (Prod.mk.inj (Prod.mk.inj (Prod.mk.inj (Prod.mk.inj (Prod.mk.inj (Prod.mk.inj (Prod.mk.inj (Prod.mk.inj (Prod.mk.inj (Prod.mk.inj (Prod.mk.inj (Prod.mk.inj (Prod.mk.inj (Prod.mk.inj (Prod.mk.inj (Prod.mk.inj (Prod.mk.inj (Prod.mk.inj (Prod.mk.inj (Prod.mk.inj (Prod.mk.inj (Prod.mk.inj (Prod.mk.inj (Prod.mk.inj (Prod.mk.inj (Prod.mk.inj (Prod.mk.inj (Prod.mk.inj (Prod.mk.inj (Prod.mk.inj (Prod.mk.inj (Prod.mk.inj (Prod.mk.inj (Prod.mk.inj (Prod.mk.inj allR).2).2).2).2).2).2).2).2).2).2).2).2).2).2).2).2).2).2).2).2).2).2).2).2).2).2).2).2).2).2).2).2).2).2).2).2).2).2).2).2).2).2).2).2).2).2).2).1)) (c := bodyOf Tryz.f53) rfl hn ((Prod.mk.inj (Prod.mk.inj (Prod.mk.inj (Prod.mk.inj (Prod.mk.inj (Prod.mk.inj (Prod.mk.inj (Prod.mk.inj (Prod.mk.inj (Prod.mk.inj (Prod.mk.inj (Prod.mk.inj (Prod.mk.inj (Prod.mk.inj (Prod.mk.inj (Prod.mk.inj (Prod.mk.inj (Prod.mk.inj (Prod.mk.inj (Prod.mk.inj (Prod.mk.inj (Prod.mk.inj (Prod.mk.inj (Prod.mk.inj (Prod.mk.inj (Prod.mk.inj (Prod.mk.inj (Prod.mk.inj (Prod.mk.inj (Prod.mk.inj (Prod.mk.inj (Prod.mk.inj (Prod.mk.inj (Prod.mk.inj (Prod.mk.inj (Prod.mk.inj (Prod.mk.inj (Prod.mk.inj (Prod.mk.inj (Prod.mk.inj (Prod.mk.inj (Prod.mk.inj (Prod.mk.inj (Prod.mk.inj (Prod.mk.inj (Prod.mk.inj allR).2).2).2).2).2).2).2).2).2).2).2).2).2).2).2).2).2).2).2).2).2).2).2).2).2).2).2).2).2).2).2).2).2).2).2).2).2).2).2).2).2).2).2).2).2).1) (by rw [(Prod.mk.inj (Prod.mk.inj (Prod.mk.inj (Prod.mk.inj (Prod.mk.inj (Prod.mk.inj (Prod.mk.inj (Prod.mk.inj (Prod.mk.inj (Prod.mk.inj (Prod.mk.inj (Prod.mk.inj (Prod.mk.inj (Prod.mk.inj (Prod.mk.inj (Prod.mk.inj (Prod.mk.inj (Prod.mk.inj (Prod.mk.inj (Prod.mk.inj (Prod.mk.inj (Prod.mk.inj (Prod.mk.inj (Prod.mk.inj (Prod.mk.inj (Prod.mk.inj (Prod.mk.inj (Prod.mk.inj (Prod.mk.inj (Prod.mk.inj (Prod.mk.inj (Prod.mk.inj (Prod.mk.inj (Prod.mk.inj (Prod.mk.inj (Prod.mk.inj (Prod.mk.inj (Prod.mk.inj (Prod.mk.inj (Prod.mk.inj (Prod.mk.inj (Prod.mk.inj (Prod.mk.inj (Prod.mk.inj (Prod.mk.inj (Prod.mk.inj (Prod.mk.inj allR).2).2).2).2).2).2).2).2).2).2).2).2).2).2).2).2).2).2).2).2).2).2).2).2).2).2).2).2).2).2).2).2).2).2).2).2).2).2).2).2).2).2).2).2).2).2).1]; exact tabC rfl <| tabN) h

theorem u54 {ds : List D} {d : D} (hn : ds.length = 2) (h : Goes EE (Holds EE) u54Ts 0 ds d) : Holds EE 54 ds d :=
  holds_of he (envFunc (c := bodyOf Tryz.f54) Tryz.func54 rfl ((Prod.mk.inj (Prod.mk.inj (Prod.mk.inj (Prod.mk.inj (Prod.mk.inj (Prod.mk.inj (Prod.mk.inj (Prod.mk.inj (Prod.mk.inj (Prod.mk.inj (Prod.mk.inj (Prod.mk.inj (Prod.mk.inj (Prod.mk.inj (Prod.mk.inj (Prod.mk.inj (Prod.mk.inj (Prod.mk.inj (Prod.mk.inj (Prod.mk.inj (Prod.mk.inj (Prod.mk.inj (Prod.mk.inj (Prod.mk.inj (Prod.mk.inj (Prod.mk.inj (Prod.mk.inj (Prod.mk.inj (Prod.mk.inj (Prod.mk.inj (Prod.mk.inj (Prod.mk.inj (Prod.mk.inj (Prod.mk.inj (Prod.mk.inj (Prod.mk.inj (Prod.mk.inj (Prod.mk.inj (Prod.mk.inj (Prod.mk.inj (Prod.mk.inj (Prod.mk.inj (Prod.mk.inj (Prod.mk.inj (Prod.mk.inj (Prod.mk.inj (Prod.mk.inj (Prod.mk.inj (Prod.mk.inj (Prod.mk.inj (Prod.mk.inj allR).2).2).2).2).2).2).2).2).2).2).2).2).2).2).2).2).2).2).2).2).2).2).2).2).2).2).2).2).2).2).2).2).2).2).2).2).2).2).2).2).2).2).2).2).2).2).2).2).2).2).1)) (c := bodyOf Tryz.f54) rfl hn ((Prod.mk.inj (Prod.mk.inj (Prod.mk.inj (Prod.mk.inj (Prod.mk.inj (Prod.mk.inj (Prod.mk.inj (Prod.mk.inj (Prod.mk.inj (Prod.mk.inj (Prod.mk.inj (Prod.mk.inj (Prod.mk.inj (Prod.mk.inj (Prod.mk.inj (Prod.mk.inj (Prod.mk.inj (Prod.mk.inj (Prod.mk.inj (Prod.mk.inj (Prod.mk.inj (Prod.mk.inj (Prod.mk.inj (Prod.mk.inj (Prod.mk.inj (Prod.mk.inj (Prod.mk.inj (Prod.mk.inj (Prod.mk.inj (Prod.mk.inj (Prod.mk.inj (Prod.mk.inj (Prod.mk.inj (Prod.mk.inj (Prod.mk.inj (Prod.mk.inj (Prod.mk.inj (Prod.mk.inj (Prod.mk.inj (Prod.mk.inj (Prod.mk.inj (Prod.mk.inj (Prod.mk.inj (Prod.mk.inj (Prod.mk.inj (Prod.mk.inj (Prod.mk.inj (Prod.mk.inj (Prod.mk.inj allR).2).2).2).2).2).2).2).2).2).2).2).2).2).2).2).2).2).2).2).2).2).2).2).2).2).2).2).2).2).2).2).2).2).2).2).2).2).2).2).2).2).2).2).2).2).2).2).2).1) (by rw [(Prod.mk.inj (Prod.mk.inj (Prod.mk.inj (Prod.mk.inj (Prod.mk.inj (Prod.mk.inj (Prod.mk.inj (Prod.mk.inj (Prod.mk.inj (Prod.mk.inj (Prod.mk.inj (Prod.mk.inj (Prod.mk.inj (Prod.mk.inj (Prod.mk.inj (Prod.mk.inj (Prod.mk.inj (Prod.mk.inj (Prod.mk.inj (Prod.mk.inj (Prod.mk.inj (Prod.mk.inj (Prod.mk.inj (Prod.mk.inj (Prod.mk.inj (Prod.mk.inj (Prod.mk.inj (Prod.mk.inj (Prod.mk.inj (Prod.mk.inj (Prod.mk.inj (Prod.mk.inj (Prod.mk.inj (Prod.mk.inj (Prod.mk.inj (Prod.mk.inj (Prod.mk.inj (Prod.mk.inj (Prod.mk.inj (Prod.mk.inj (Prod.mk.inj (Prod.mk.inj (Prod.mk.inj (Prod.mk.inj (Prod.mk.inj (Prod.mk.inj (Prod.mk.inj (Prod.mk.inj (Prod.mk.inj (Prod.mk.inj allR).2).2).2).2).2).2).2).2).2).2).2).2).2).2).2).2).2).2).2).2).2).2).2).2).2).2).2).2).2).2).2).2).2).2).2).2).2).2).2).2).2).2).2).2).2).2).2).2).2).1]; exact tabN) h

theorem u55 {ds : List D} {d : D} (hn : ds.length = 2) (h : Goes EE (Holds EE) u55Ts 0 ds d) : Holds EE 55 ds d :=
  holds_of he (envFunc (c := bodyOf Tryz.f55) Tryz.func55 rfl ((Prod.mk.inj (Prod.mk.inj (Prod.mk.inj (Prod.mk.inj (Prod.mk.inj (Prod.mk.inj (Prod.mk.inj (Prod.mk.inj (Prod.mk.inj (Prod.mk.inj (Prod.mk.inj (Prod.mk.inj (Prod.mk.inj (Prod.mk.inj (Prod.mk.inj (Prod.mk.inj (Prod.mk.inj (Prod.mk.inj (Prod.mk.inj (Prod.mk.inj (Prod.mk.inj (Prod.mk.inj (Prod.mk.inj (Prod.mk.inj (Prod.mk.inj (Prod.mk.inj (Prod.mk.inj (Prod.mk.inj (Prod.mk.inj (Prod.mk.inj (Prod.mk.inj (Prod.mk.inj (Prod.mk.inj (Prod.mk.inj (Prod.mk.inj (Prod.mk.inj (Prod.mk.inj (Prod.mk.inj (Prod.mk.inj (Prod.mk.inj (Prod.mk.inj (Prod.mk.inj (Prod.mk.inj (Prod.mk.inj (Prod.mk.inj (Prod.mk.inj (Prod.mk.inj (Prod.mk.inj (Prod.mk.inj (Prod.mk.inj (Prod.mk.inj (Prod.mk.inj (Prod.mk.inj (Prod.mk.inj allR).2).2).2).2).2).2).2).2).2).2).2).2).2).2).2).2).2).2).2).2).2).2).2).2).2).2).2).2).2).2).2).2).2).2).2).2).2).2).2).2).2).2).2).2).2).2).2).2).2).2).2).2).2).1)) (c := bodyOf Tryz.f55) rfl hn ((Prod.mk.inj (Prod.mk.inj (Prod.mk.inj (Prod.mk.inj (Prod.mk.inj (Prod.mk.inj (Prod.mk.inj (Prod.mk.inj (Prod.mk.inj (Prod.mk.inj (Prod.mk.inj (Prod.mk.inj (Prod.mk.inj (Prod.mk.inj (Prod.mk.inj (Prod.mk.inj (Prod.mk.inj (Prod.mk.inj (Prod.mk.inj (Prod.mk.inj (Prod.mk.inj (Prod.mk.inj (Prod.mk.inj (Prod.mk.inj (Prod.mk.inj (Prod.mk.inj (Prod.mk.inj (Prod.mk.inj (Prod.mk.inj (Prod.mk.inj (Prod.mk.inj (Prod.mk.inj (Prod.mk.inj (Prod.mk.inj (Prod.mk.inj (Prod.mk.inj (Prod.mk.inj (Prod.mk.inj (Prod.mk.inj (Prod.mk.inj (Prod.mk.inj (Prod.mk.inj (Prod.mk.inj (Prod.mk.inj (Prod.mk.inj (Prod.mk.inj (Prod.mk.inj (Prod.mk.inj (Prod.mk.inj (Prod.mk.inj (Prod.mk.inj (Prod.mk.inj allR).2).2).2).2).2).2).2).2).2).2).2).2).2).2).2).2).2).2).2).2).2).2).2).2).2).2).2).2).2).2).2).2).2).2).2).2).2).2).2).2).2).2).2).2).2).2).2).2).2).2).2).1) (by rw [(Prod.mk.inj (Prod.mk.inj (Prod.mk.inj (Prod.mk.inj (Prod.mk.inj (Prod.mk.inj (Prod.mk.inj (Prod.mk.inj (Prod.mk.inj (Prod.mk.inj (Prod.mk.inj (Prod.mk.inj (Prod.mk.inj (Prod.mk.inj (Prod.mk.inj (Prod.mk.inj (Prod.mk.inj (Prod.mk.inj (Prod.mk.inj (Prod.mk.inj (Prod.mk.inj (Prod.mk.inj (Prod.mk.inj (Prod.mk.inj (Prod.mk.inj (Prod.mk.inj (Prod.mk.inj (Prod.mk.inj (Prod.mk.inj (Prod.mk.inj (Prod.mk.inj (Prod.mk.inj (Prod.mk.inj (Prod.mk.inj (Prod.mk.inj (Prod.mk.inj (Prod.mk.inj (Prod.mk.inj (Prod.mk.inj (Prod.mk.inj (Prod.mk.inj (Prod.mk.inj (Prod.mk.inj (Prod.mk.inj (Prod.mk.inj (Prod.mk.inj (Prod.mk.inj (Prod.mk.inj (Prod.mk.inj (Prod.mk.inj (Prod.mk.inj (Prod.mk.inj (Prod.mk.inj allR).2).2).2).2).2).2).2).2).2).2).2).2).2).2).2).2).2).2).2).2).2).2).2).2).2).2).2).2).2).2).2).2).2).2).2).2).2).2).2).2).2).2).2).2).2).2).2).2).2).2).2).2).1]; exact tabC rfl <| tabN) h

theorem u56 {ds : List D} {d : D} (hn : ds.length = 2) (h : Goes EE (Holds EE) u56Ts 0 ds d) : Holds EE 56 ds d :=
  holds_of he (envFunc (c := bodyOf Tryz.f56) Tryz.func56 rfl ((Prod.mk.inj (Prod.mk.inj (Prod.mk.inj (Prod.mk.inj (Prod.mk.inj (Prod.mk.inj (Prod.mk.inj (Prod.mk.inj (Prod.mk.inj (Prod.mk.inj (Prod.mk.inj (Prod.mk.inj (Prod.mk.inj (Prod.mk.inj (Prod.mk.inj (Prod.mk.inj (Prod.mk.inj (Prod.mk.inj (Prod.mk.inj (Prod.mk.inj (Prod.mk.inj (Prod.mk.inj (Prod.mk.inj (Prod.mk.inj (Prod.mk.inj (Prod.mk.inj (Prod.mk.inj (Prod.mk.inj (Prod.mk.inj (Prod.mk.inj (Prod.mk.inj (Prod.mk.inj (Prod.mk.inj (Prod.mk.inj (Prod.mk.inj (Prod.mk.inj (Prod.mk.inj (Prod.mk.inj (Prod.mk.inj (Prod.mk.inj (Prod.mk.inj (Prod.mk.inj (Prod.mk.inj (Prod.mk.inj (Prod.mk.inj (Prod.mk.inj (Prod.mk.inj (Prod.mk.inj (Prod.mk.inj (Prod.mk.inj (Prod.mk.inj (Prod.mk.inj (Prod.mk.inj (Prod.mk.inj (Prod.mk.inj (Prod.mk.inj (Prod.mk.inj allR).2).2).2).2).2).2).2).2).2).2).2).2).2).2).2).2).2).2).2).2).2).2).2).2).2).2).2).2).2).2).2).2).2).2).2).2).2).2).2).2).2).2).2).2).2).2).2).2).2).2).2).2).2).2).2).2).1)) (c := bodyOf Tryz.f56) rfl hn ((Prod.mk.inj (Prod.mk.inj (Prod.mk.inj (Prod.mk.inj (Prod.mk.inj (Prod.mk.inj (Prod.mk.inj (Prod.mk.inj (Prod.mk.inj (Prod.mk.inj (Prod.mk.inj (Prod.mk.inj (Prod.mk.inj (Prod.mk.inj (Prod.mk.inj (Prod.mk.inj (Prod.mk.inj (Prod.mk.inj (Prod.mk.inj (Prod.mk.inj (Prod.mk.inj (Prod.mk.inj (Prod.mk.inj (Prod.mk.inj (Prod.mk.inj (Prod.mk.inj (Prod.mk.inj (Prod.mk.inj (Prod.mk.inj (Prod.mk.inj (Prod.mk.inj (Prod.mk.inj (Prod.mk.inj (Prod.mk.inj (Prod.mk.inj (Prod.mk.inj (Prod.mk.inj (Prod.mk.inj (Prod.mk.inj (Prod.mk.inj (Prod.mk.inj (Prod.mk.inj (Prod.mk.inj (Prod.mk.inj (Prod.mk.inj (Prod.mk.inj (Prod.mk.inj (Prod.mk.inj (Prod.mk.inj (Prod.mk.inj (Prod.mk.inj (Prod.mk.inj (Prod.mk.inj (Prod.mk.inj (Prod.mk.inj allR).2).2).2).2).2).2).2).2).2).2).2).2).2).2).2).2).2).2).2).2).2).2).2).2).2).2).2).2).2).2).2).2).2).2).2).2).2).2).2).2).2).2).2).2).2).2).2).2).2).2).2).2).2).2).1) (by rw [(Prod.mk.inj (Prod.mk.inj (Prod.mk.inj (Prod.mk.inj (Prod.mk.inj (Prod.mk.inj (Prod.mk.inj (Prod.mk.inj (Prod.mk.inj (Prod.mk.inj (Prod.mk.inj (Prod.mk.inj (Prod.mk.inj (Prod.mk.inj (Prod.mk.inj (Prod.mk.inj (Prod.mk.inj (Prod.mk.inj (Prod.mk.inj (Prod.mk.inj (Prod.mk.inj (Prod.mk.inj (Prod.mk.inj (Prod.mk.inj (Prod.mk.inj (Prod.mk.inj (Prod.mk.inj (Prod.mk.inj (Prod.mk.inj (Prod.mk.inj (Prod.mk.inj (Prod.mk.inj (Prod.mk.inj (Prod.mk.inj (Prod.mk.inj (Prod.mk.inj (Prod.mk.inj (Prod.mk.inj (Prod.mk.inj (Prod.mk.inj (Prod.mk.inj (Prod.mk.inj (Prod.mk.inj (Prod.mk.inj (Prod.mk.inj (Prod.mk.inj (Prod.mk.inj (Prod.mk.inj (Prod.mk.inj (Prod.mk.inj (Prod.mk.inj (Prod.mk.inj (Prod.mk.inj (Prod.mk.inj (Prod.mk.inj (Prod.mk.inj allR).2).2).2).2).2).2).2).2).2).2).2).2).2).2).2).2).2).2).2).2).2).2).2).2).2).2).2).2).2).2).2).2).2).2).2).2).2).2).2).2).2).2).2).2).2).2).2).2).2).2).2).2).2).2).2).1]; exact tabC rfl <| tabN) h

theorem w24_0 {ds : List D} {d : D} (h : Goes EE (Holds EE) w24_0Ts 0 ds d) (hd : ∃ ds', d = retD ds' ∧ ds'.length = 1) : Holds EE (Nat.add bigN 24) (.mode m24_0 :: ds) d :=
  holdsM_of he (envFunc (c := bodyOf Tryz.f24) Tryz.func24 rfl ((Prod.mk.inj (Prod.mk.inj (Prod.mk.inj (Prod.mk.inj (Prod.mk.inj (Prod.mk.inj (Prod.mk.inj (Prod.mk.inj (Prod.mk.inj (Prod.mk.inj (Prod.mk.inj (Prod.mk.inj (Prod.mk.inj (Prod.mk.inj (Prod.mk.inj (Prod.mk.inj (Prod.mk.inj (Prod.mk.inj (Prod.mk.inj (Prod.mk.inj (Prod.mk.inj (Prod.mk.inj (Prod.mk.inj (Prod.mk.inj (Prod.mk.inj (Prod.mk.inj (Prod.mk.inj (Prod.mk.inj (Prod.mk.inj (Prod.mk.inj (Prod.mk.inj (Prod.mk.inj (Prod.mk.inj (Prod.mk.inj (Prod.mk.inj (Prod.mk.inj (Prod.mk.inj (Prod.mk.inj (Prod.mk.inj (Prod.mk.inj (Prod.mk.inj (Prod.mk.inj (Prod.mk.inj (Prod.mk.inj (Prod.mk.inj (Prod.mk.inj (Prod.mk.inj (Prod.mk.inj (Prod.mk.inj (Prod.mk.inj (Prod.mk.inj (Prod.mk.inj (Prod.mk.inj (Prod.mk.inj (Prod.mk.inj (Prod.mk.inj (Prod.mk.inj (Prod.mk.inj (Prod.mk.inj allR).2).2).2).2).2).2).2).2).2).2).2).2).2).2).2).2).2).2).2).2).2).2).2).2).2).2).2).2).2).2).2).2).2).2).2).2).2).2).2).2).2).2).2).2).2).2).2).2).2).2).2).2).2).2).2).2).2).2).2)) (c := bodyOf Tryz.f24) rfl (m := m24_0) (by decide +kernel) (fun k => by unfold w24_0P; split <;> decide) ((Prod.mk.inj (Prod.mk.inj (Prod.mk.inj (Prod.mk.inj (Prod.mk.inj (Prod.mk.inj (Prod.mk.inj (Prod.mk.inj (Prod.mk.inj (Prod.mk.inj (Prod.mk.inj (Prod.mk.inj (Prod.mk.inj (Prod.mk.inj (Prod.mk.inj (Prod.mk.inj (Prod.mk.inj (Prod.mk.inj (Prod.mk.inj (Prod.mk.inj (Prod.mk.inj (Prod.mk.inj (Prod.mk.inj (Prod.mk.inj (Prod.mk.inj (Prod.mk.inj (Prod.mk.inj (Prod.mk.inj (Prod.mk.inj (Prod.mk.inj (Prod.mk.inj (Prod.mk.inj (Prod.mk.inj (Prod.mk.inj (Prod.mk.inj (Prod.mk.inj (Prod.mk.inj (Prod.mk.inj (Prod.mk.inj (Prod.mk.inj (Prod.mk.inj (Prod.mk.inj (Prod.mk.inj (Prod.mk.inj (Prod.mk.inj (Prod.mk.inj (Prod.mk.inj (Prod.mk.inj (Prod.mk.inj (Prod.mk.inj (Prod.mk.inj (Prod.mk.inj (Prod.mk.inj (Prod.mk.inj (Prod.mk.inj (Prod.mk.inj (Prod.mk.inj (Prod.mk.inj allR).2).2).2).2).2).2).2).2).2).2).2).2).2).2).2).2).2).2).2).2).2).2).2).2).2).2).2).2).2).2).2).2).2).2).2).2).2).2).2).2).2).2).2).2).2).2).2).2).2).2).2).2).2).2).2).2).2).1) (by rw [(Prod.mk.inj (Prod.mk.inj (Prod.mk.inj (Prod.mk.inj (Prod.mk.inj (Prod.mk.inj (Prod.mk.inj (Prod.mk.inj (Prod.mk.inj (Prod.mk.inj (Prod.mk.inj (Prod.mk.inj (Prod.mk.inj (Prod.mk.inj (Prod.mk.inj (Prod.mk.inj (Prod.mk.inj (Prod.mk.inj (Prod.mk.inj (Prod.mk.inj (Prod.mk.inj (Prod.mk.inj (Prod.mk.inj (Prod.mk.inj (Prod.mk.inj (Prod.mk.inj (Prod.mk.inj (Prod.mk.inj (Prod.mk.inj (Prod.mk.inj (Prod.mk.inj (Prod.mk.inj (Prod.mk.inj (Prod.mk.inj (Prod.mk.inj (Prod.mk.inj (Prod.mk.inj (Prod.mk.inj (Prod.mk.inj (Prod.mk.inj (Prod.mk.inj (Prod.mk.inj (Prod.mk.inj (Prod.mk.inj (Prod.mk.inj (Prod.mk.inj (Prod.mk.inj (Prod.mk.inj (Prod.mk.inj (Prod.mk.inj (Prod.mk.inj (Prod.mk.inj (Prod.mk.inj (Prod.mk.inj (Prod.mk.inj (Prod.mk.inj (Prod.mk.inj (Prod.mk.inj (Prod.mk.inj allR).2).2).2).2).2).2).2).2).2).2).2).2).2).2).2).2).2).2).2).2).2).2).2).2).2).2).2).2).2).2).2).2).2).2).2).2).2).2).2).2).2).2).2).2).2).2).2).2).2).2).2).2).2).2).2).2).2).2).1]; exact tabC rfl <| tabN) h hd


end Go.Proofs.YtgkfhfcieamncaaGreatDoor
