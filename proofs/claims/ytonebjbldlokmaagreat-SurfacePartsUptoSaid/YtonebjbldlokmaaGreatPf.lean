/- Trees of functions. Conditions: none. -/
import Derived.Test.YtonebjbldlokmaaGreatPa
namespace Go.Proofs.YtonebjbldlokmaaGreat
open Go Go.Am Go.Proofs
/-! 3 langdoc/langdoclaw29.SurfaceParts params #[36, 39] -/
def u3P : Nat → Pat
  | _ => ⟨[], [], []⟩
def u3T0 : Tree :=
  .bind (.chk true 9) [.v 0] <|
  .bind (.chk true 1) [.v 1] <|
  .call (.fn 4) [.v 2] 1 <|
  .bind (.un .not 4) [.v 4] <|
  .ite (.v 5) (
    .call (.fn 6) [] 1 <|
    .ret [.v 6]) (
    .call (.fn 5) [.v 3] 1 <|
    .bind (.un .not 4) [.v 6] <|
    .ite (.v 7) (
      .call (.fn 6) [] 1 <|
      .ret [.v 8]) (
      .call (.fn 8) [.v 2, .v 3] 0 <|
      .call (.fn 9) [.v 2, .v 3] 0 <|
      .call (.fn 7) [.v 8, .v 9] 1 <|
      .ite (.v 10) (
        .call (.fn 10) [.v 2, .v 3] 0 <|
        .call (.fn 11) [.v 2, .v 3] 0 <|
        .call (.fn 7) [.v 11, .v 12] 1 <|
        .ite (.v 13) (
          .call (.fn 6) [] 1 <|
          .ret [.v 14]) (
          .ret [.c (.bool false)])) (
        .ret [.c (.bool false)])))
def u3Ts : Nat → Tree
  | 0 => u3T0
  | _ => .fail
/-! 5 langdoc/langdoclaw29.few params #[39] -/
def u5P : Nat → Pat
  | _ => ⟨[], [], []⟩
def u5T0 : Tree :=
  .bind (.chk true 1) [.v 0] <|
  fl' 0 1 <|
  ln' 2 <|
  .bind (.bin .leq 3 (.tmp 5) (K' 20)) [.v 3, k' 20] <|
  .ret [.v 4]
def u5Ts : Nat → Tree
  | 0 => u5T0
  | _ => .fail
/-! 8 langdoc/surface.Classes params #[36, 39] -/
def u8P : Nat → Pat
  | 1 => ⟨[⟨.fresh, true⟩, ⟨.pure, true⟩, ⟨.pure, true⟩, ⟨.pure, true⟩, ⟨.pure, false⟩], [(2, .loc 0 0), (5, .v 0), (12, .v 1), (13, .v 2), (14, .v 3)], [some (.whole (.v 4) 9)]⟩
  | _ => ⟨[], [], []⟩
def u8T0 : Tree :=
  .bind (.chk true 9) [.v 0] <|
  .bind (.chk true 1) [.v 1] <|
  fl' 0 3 <|
  ln' 4 <|
  .jump 1 [.c (.slice none 0 0), .v 4, .v 5, k' 0, .v 2]
def u8T1 : Tree :=
  .bind (.bin .lss 3 (.tmp 14) (.tmp 13)) [.v 3, .v 2] <|
  .ite (.v 5) (
    ir' 1 3 <|
    .bind (.elem 3 true 3 0) [.v 1, .v 3] <|
    .bind (.chk true 3) [.v 7] <|
    .call (.fn 21) [.v 4, .v 8] 0 <|
    .bind (.ext 0) [.v 9] <|
    .bind (.ext 1) [.v 9] <|
    .bind (.ext 2) [.v 9] <|
    .bind (.chk true 8) [.v 10] <|
    .ite (.v 12) (
      fl' 2 13 <|
      .bind (.chk false 1) [.v 14] <|
      .bind (.lit 3 1) [.v 14] <|
      .bind (.app 3 1 8) [.v 0, .v 16] <|
      .bind (.bin .add 3 (.tmp 14) (K' 1)) [.v 3, k' 1] <|
      .jump 1 [.v 17, .v 1, .v 2, .v 18, .v 4]) (
      .bind (.bin .add 3 (.tmp 14) (K' 1)) [.v 3, k' 1] <|
      .jump 1 [.v 0, .v 1, .v 2, .v 14, .v 4])) (
    .ret [.v 0])
def u8Ts : Nat → Tree
  | 0 => u8T0
  | 1 => u8T1
  | _ => .fail
/-! 9 langdoc/langdocref29.Classes params #[36, 39] -/
def u9P : Nat → Pat
  | 1 => ⟨[⟨.fresh, true⟩, ⟨.pure, true⟩, ⟨.pure, false⟩, ⟨.pure, false⟩], [(2, .loc 0 0), (3, .loc 1 0), (5, .v 0), (6, .v 1)], [some (.whole (.v 2) 9), some (.whole (.v 3) 1)]⟩
  | _ => ⟨[], [], []⟩
def u9T0 : Tree :=
  .bind (.chk true 9) [.v 0] <|
  .bind (.chk true 1) [.v 1] <|
  .jump 1 [.c (.slice none 0 0), k' 0, .v 2, .v 3]
def u9T1 : Tree :=
  fl' 0 3 <|
  ln' 4 <|
  .bind (.bin .lss 3 (.tmp 9) (.tmp 12)) [.v 1, .v 5] <|
  .ite (.v 6) (
    fl' 8 2 <|
    fl' 0 3 <|
    ir' 8 1 <|
    .bind (.elem 3 false 1 0) [.v 8, .v 1] <|
    .call (.fn 22) [.v 7, .v 10] 0 <|
    .bind (.ext 0) [.v 11] <|
    .bind (.ext 1) [.v 11] <|
    .bind (.chk true 8) [.v 12] <|
    .ite (.v 13) (
      fl' 0 3 <|
      ir' 15 1 <|
      .bind (.elem 3 false 1 1) [.v 15, .v 1] <|
      .call (.fn 23) [.v 14, .v 17] 1 <|
      .ite (.v 18) (
        fl' 2 14 <|
        .bind (.chk false 1) [.v 19] <|
        .bind (.lit 3 1) [.v 19] <|
        .bind (.app 3 1 8) [.v 0, .v 21] <|
        .bind (.bin .add 3 (.tmp 14) (K' 1)) [.v 1, k' 1] <|
        .jump 1 [.v 22, .v 23, .v 2, .v 3]) (
        .bind (.bin .add 3 (.tmp 14) (K' 1)) [.v 1, k' 1] <|
        .jump 1 [.v 0, .v 19, .v 2, .v 3])) (
      .bind (.bin .add 3 (.tmp 14) (K' 1)) [.v 1, k' 1] <|
      .jump 1 [.v 0, .v 15, .v 2, .v 3])) (
    .ret [.v 0])
def u9Ts : Nat → Tree
  | 0 => u9T0
  | 1 => u9T1
  | _ => .fail
/-! 10 langdoc/surface.Base params #[36, 39] -/
def u10P : Nat → Pat
  | 1 => ⟨[⟨.fresh, true⟩, ⟨.pure, true⟩, ⟨.pure, true⟩, ⟨.pure, true⟩, ⟨.pure, false⟩], [(2, .loc 0 0), (5, .v 0), (12, .v 1), (13, .v 2), (14, .v 3)], [some (.whole (.v 4) 9)]⟩
  | _ => ⟨[], [], []⟩
def u10T0 : Tree :=
  .bind (.chk true 9) [.v 0] <|
  .bind (.chk true 1) [.v 1] <|
  fl' 0 3 <|
  ln' 4 <|
  .jump 1 [.c (.slice none 0 0), .v 4, .v 5, k' 0, .v 2]
def u10T1 : Tree :=
  .bind (.bin .lss 3 (.tmp 14) (.tmp 13)) [.v 3, .v 2] <|
  .ite (.v 5) (
    ir' 1 3 <|
    .bind (.elem 3 true 3 0) [.v 1, .v 3] <|
    .bind (.chk true 3) [.v 7] <|
    .call (.fn 21) [.v 4, .v 8] 0 <|
    .bind (.ext 0) [.v 9] <|
    .bind (.ext 1) [.v 9] <|
    .bind (.ext 2) [.v 9] <|
    .bind (.chk true 8) [.v 10] <|
    .ite (.v 12) (
      .bind (.app 3 1 8) [.v 0, .v 11] <|
      .bind (.bin .add 3 (.tmp 14) (K' 1)) [.v 3, k' 1] <|
      .jump 1 [.v 14, .v 1, .v 2, .v 15, .v 4]) (
      .bind (.bin .add 3 (.tmp 14) (K' 1)) [.v 3, k' 1] <|
      .jump 1 [.v 0, .v 1, .v 2, .v 14, .v 4])) (
    .ret [.v 0])
def u10Ts : Nat → Tree
  | 0 => u10T0
  | 1 => u10T1
  | _ => .fail
/-! 11 langdoc/langdocref29.Base params #[36, 39] -/
def u11P : Nat → Pat
  | 1 => ⟨[⟨.fresh, true⟩, ⟨.pure, true⟩, ⟨.pure, false⟩, ⟨.pure, false⟩], [(2, .loc 0 0), (3, .loc 1 0), (5, .v 0), (6, .v 1)], [some (.whole (.v 2) 9), some (.whole (.v 3) 1)]⟩
  | _ => ⟨[], [], []⟩
def u11T0 : Tree :=
  .bind (.chk true 9) [.v 0] <|
  .bind (.chk true 1) [.v 1] <|
  .jump 1 [.c (.slice none 0 0), k' 0, .v 2, .v 3]
def u11T1 : Tree :=
  fl' 0 3 <|
  ln' 4 <|
  .bind (.bin .lss 3 (.tmp 9) (.tmp 12)) [.v 1, .v 5] <|
  .ite (.v 6) (
    fl' 8 2 <|
    fl' 0 3 <|
    ir' 8 1 <|
    .bind (.elem 3 false 1 0) [.v 8, .v 1] <|
    .call (.fn 22) [.v 7, .v 10] 0 <|
    .bind (.ext 0) [.v 11] <|
    .bind (.ext 1) [.v 11] <|
    .bind (.chk true 8) [.v 12] <|
    .ite (.v 13) (
      fl' 0 3 <|
      ir' 15 1 <|
      .bind (.elem 3 false 1 1) [.v 15, .v 1] <|
      .call (.fn 23) [.v 14, .v 17] 1 <|
      .ite (.v 18) (
        .call (.fn 24) [.v 14] 0 <|
        fl' 0 3 <|
        ir' 20 1 <|
        .bind (.elem 3 false 1 1) [.v 20, .v 1] <|
        ir' 19 22 <|
        .bind (.elem 1 false 1 0) [.v 19, .v 22] <|
        .bind (.app 3 1 8) [.v 0, .v 24] <|
        .bind (.bin .add 3 (.tmp 14) (K' 1)) [.v 1, k' 1] <|
        .jump 1 [.v 25, .v 26, .v 2, .v 3]) (
        .bind (.bin .add 3 (.tmp 14) (K' 1)) [.v 1, k' 1] <|
        .jump 1 [.v 0, .v 19, .v 2, .v 3])) (
      .bind (.bin .add 3 (.tmp 14) (K' 1)) [.v 1, k' 1] <|
      .jump 1 [.v 0, .v 15, .v 2, .v 3])) (
    .ret [.v 0])
def u11Ts : Nat → Tree
  | 0 => u11T0
  | 1 => u11T1
  | _ => .fail
/-! 21 langdoc/surface.form params #[36, 54] -/
def u21P : Nat → Pat
  | _ => ⟨[], [], []⟩
def u21T0 : Tree :=
  .bind (.chk true 9) [.v 0] <|
  .bind (.chk true 3) [.v 1] <|
  fl' 8 2 <|
  fl' 0 3 <|
  .call (.fn 34) [.v 4, .v 5] 0 <|
  .bind (.ext 0) [.v 6] <|
  .bind (.ext 1) [.v 6] <|
  .bind (.chk true 8) [.v 7] <|
  .call (.fn 40) [.v 9] 0 <|
  .bind (.un .not 4) [.v 8] <|
  .ite (.v 11) (
    .bind (.chk true 8) [.v 9] <|
    .ret [.v 12, .c (.slice none 0 0), .c (.bool false)]) (
    fl' 1 3 <|
    .bind (.bin .lss 3 (.tmp 24) (K' 0)) [.v 12, k' 0] <|
    .ite (.v 13) (
      .bind (.chk true 8) [.v 9] <|
      .ret [.v 14, .c (.slice none 0 0), .c (.bool false)]) (
      fl' 1 3 <|
      ln' 10 <|
      .bind (.bin .geq 3 (.tmp 29) (.tmp 31)) [.v 14, .v 15] <|
      .ite (.v 16) (
        .bind (.chk true 8) [.v 9] <|
        .ret [.v 17, .c (.slice none 0 0), .c (.bool false)]) (
        fl' 1 3 <|
        ir' 10 17 <|
        .bind (.elem 1 false 1 0) [.v 10, .v 17] <|
        .bind (.chk true 8) [.v 9] <|
        ir' 10 17 <|
        .ret [.v 20, .v 19, .c (.bool true)])))
def u21Ts : Nat → Tree
  | 0 => u21T0
  | _ => .fail
/-! 23 langdoc/langdocref29.form params #[66, 3] -/
def u23P : Nat → Pat
  | _ => ⟨[], [], []⟩
def u23T0 : Tree :=
  .bind (.chk true 8) [.v 0] <|
  .bind (.bin .geq 3 (.tmp 5) (K' 0)) [.v 1, k' 0] <|
  .ite (.v 3) (
    .call (.fn 24) [.v 2] 0 <|
    ln' 4 <|
    .bind (.bin .lss 3 (.tmp 8) (.tmp 11)) [.v 1, .v 5] <|
    .ret [.v 6]) (
    .ret [.c (.bool false)])
def u23Ts : Nat → Tree
  | 0 => u23T0
  | _ => .fail
/-! 24 langdoc/langdocref24.Forms params #[66] -/
def u24P : Nat → Pat
  | _ => ⟨[], [], []⟩
def u24T0 : Tree :=
  .bind (.chk true 8) [.v 0] <|
  fl' 1 1 <|
  .bind (.chk false 1) [.v 2] <|
  .bind (.lit 31 1) [.v 2] <|
  fl' 3 1 <|
  .bind (.app 31 1 24) [.v 4, .v 5] <|
  .ret [.v 6]
def u24Ts : Nat → Tree
  | 0 => u24T0
  | _ => .fail
/-! 34 langdoc/lexicon.Get params #[34, 3] -/
def u34P : Nat → Pat
  | _ => ⟨[], [], []⟩
def u34T0 : Tree :=
  .bind (.chk false 1) [.v 1] <|
  .bind .box [.v 2] <|
  .call (.fn 61) [.v 0, .fn (.func 62) [] [.pp 3 0]] 1 <|
  .bind (.bin .lss 3 (.tmp 10) (K' 0)) [.v 4, k' 0] <|
  .ite (.v 5) (
    .ret [.agg [k' 0, .c (.slice none 0 0), k' 0, .c (.slice none 0 0), k' 0, .c (.slice none 0 0), .c (.slice none 0 0), .c (.slice none 0 0)], .c (.bool false)]) (
    ir' 0 4 <|
    .bind (.elem 8 true 8 0) [.v 0, .v 4] <|
    .bind (.chk true 8) [.v 7] <|
    .ret [.v 8, .c (.bool true)])
def u34Ts : Nat → Tree
  | 0 => u34T0
  | _ => .fail
/-! 40 langdoc/entry.Forms params #[66] -/
def u40P : Nat → Pat
  | _ => ⟨[], [], []⟩
def u40T0 : Tree :=
  .bind (.chk true 8) [.v 0] <|
  fl' 1 1 <|
  .bind (.chk false 1) [.v 2] <|
  .bind (.lit 31 1) [.v 2] <|
  fl' 3 1 <|
  .bind (.app 31 1 24) [.v 4, .v 5] <|
  .ret [.v 6]
def u40Ts : Nat → Tree
  | 0 => u40T0
  | _ => .fail
/-! 61 slices.IndexFunc[[]langdoc/api.Entry,langdoc/api.Entry] params #[34, 135] -/
def u61P : Nat → Pat
  | 1 => ⟨[⟨.pure, false⟩, ⟨.pure, false⟩, ⟨.pure, true⟩, ⟨.pure, true⟩], [(0, .v 0), (1, .v 1), (7, .v 2), (8, .v 3)], []⟩
  | _ => ⟨[], [], []⟩
def u61T0 : Tree :=
  ln' 0 <|
  .jump 1 [.v 0, .v 1, .v 2, k' 0]
def u61T1 : Tree :=
  .bind (.bin .lss 3 (.tmp 8) (.tmp 7)) [.v 3, .v 2] <|
  .ite (.v 4) (
    ir' 0 3 <|
    .bind (.elem 8 true 8 0) [.v 0, .v 3] <|
    .call (.val (.v 1)) [.v 1, .v 6] 1 <|
    .ite (.v 7) (
      .ret [.v 3]) (
      .bind (.bin .add 3 (.tmp 8) (K' 1)) [.v 3, k' 1] <|
      .jump 1 [.v 0, .v 1, .v 2, .v 8])) (
    .ret [.c (.int .i64 (-1))])
def u61Ts : Nat → Tree
  | 0 => u61T0
  | 1 => u61T1
  | _ => .fail
/-! 62 langdoc/lexicon.Get$1 params #[66] -/
def u62P : Nat → Pat
  | _ => ⟨[], [], []⟩
def u62T0 : Tree :=
  .bind (.chk true 8) [.v 0] <|
  fl' 0 2 <|
  .bind .pchk [.v 1] <|
  .bind (.loadp false 1) [.pp 4 0] <|
  .bind (.bin .eql 3 (.tmp 5) (.tmp 6)) [.v 3, .v 5] <|
  .ret [.v 6]
def u62Ts : Nat → Tree
  | 0 => u62T0
  | _ => .fail
theorem allM : (rootT EE (fun k S => jumpS (Nat.max Tryz.f3.ntmps 2) (u3P k) k S) Tryz.f3 2,
  headsT EE (fun k => (u3P k).st (Nat.max Tryz.f3.ntmps 2)) (fun k S => jumpS (Nat.max Tryz.f3.ntmps 2) (u3P k) k S) 1 (bodyOf Tryz.f3) (endK EE Tryz.f3.results.toList),
  (Tryz.f3.name == "runtime.NumGoroutine" || !regsOk (bodyOf Tryz.f3)),
  rootT EE (fun k S => jumpS (Nat.max Tryz.f5.ntmps 1) (u5P k) k S) Tryz.f5 1,
  headsT EE (fun k => (u5P k).st (Nat.max Tryz.f5.ntmps 1)) (fun k S => jumpS (Nat.max Tryz.f5.ntmps 1) (u5P k) k S) 1 (bodyOf Tryz.f5) (endK EE Tryz.f5.results.toList),
  (Tryz.f5.name == "runtime.NumGoroutine" || !regsOk (bodyOf Tryz.f5)),
  rootT EE (fun k S => jumpS (Nat.max Tryz.f8.ntmps 2) (u8P k) k S) Tryz.f8 2,
  headsT EE (fun k => (u8P k).st (Nat.max Tryz.f8.ntmps 2)) (fun k S => jumpS (Nat.max Tryz.f8.ntmps 2) (u8P k) k S) 1 (bodyOf Tryz.f8) (endK EE Tryz.f8.results.toList),
  (Tryz.f8.name == "runtime.NumGoroutine" || !regsOk (bodyOf Tryz.f8)),
  rootT EE (fun k S => jumpS (Nat.max Tryz.f9.ntmps 2) (u9P k) k S) Tryz.f9 2,
  headsT EE (fun k => (u9P k).st (Nat.max Tryz.f9.ntmps 2)) (fun k S => jumpS (Nat.max Tryz.f9.ntmps 2) (u9P k) k S) 1 (bodyOf Tryz.f9) (endK EE Tryz.f9.results.toList),
  (Tryz.f9.name == "runtime.NumGoroutine" || !regsOk (bodyOf Tryz.f9)),
  rootT EE (fun k S => jumpS (Nat.max Tryz.f10.ntmps 2) (u10P k) k S) Tryz.f10 2,
  headsT EE (fun k => (u10P k).st (Nat.max Tryz.f10.ntmps 2)) (fun k S => jumpS (Nat.max Tryz.f10.ntmps 2) (u10P k) k S) 1 (bodyOf Tryz.f10) (endK EE Tryz.f10.results.toList),
  (Tryz.f10.name == "runtime.NumGoroutine" || !regsOk (bodyOf Tryz.f10)),
  rootT EE (fun k S => jumpS (Nat.max Tryz.f11.ntmps 2) (u11P k) k S) Tryz.f11 2,
  headsT EE (fun k => (u11P k).st (Nat.max Tryz.f11.ntmps 2)) (fun k S => jumpS (Nat.max Tryz.f11.ntmps 2) (u11P k) k S) 1 (bodyOf Tryz.f11) (endK EE Tryz.f11.results.toList),
  (Tryz.f11.name == "runtime.NumGoroutine" || !regsOk (bodyOf Tryz.f11)),
  rootT EE (fun k S => jumpS (Nat.max Tryz.f21.ntmps 2) (u21P k) k S) Tryz.f21 2,
  headsT EE (fun k => (u21P k).st (Nat.max Tryz.f21.ntmps 2)) (fun k S => jumpS (Nat.max Tryz.f21.ntmps 2) (u21P k) k S) 1 (bodyOf Tryz.f21) (endK EE Tryz.f21.results.toList),
  (Tryz.f21.name == "runtime.NumGoroutine" || !regsOk (bodyOf Tryz.f21)),
  rootT EE (fun k S => jumpS (Nat.max Tryz.f23.ntmps 2) (u23P k) k S) Tryz.f23 2,
  headsT EE (fun k => (u23P k).st (Nat.max Tryz.f23.ntmps 2)) (fun k S => jumpS (Nat.max Tryz.f23.ntmps 2) (u23P k) k S) 1 (bodyOf Tryz.f23) (endK EE Tryz.f23.results.toList),
  (Tryz.f23.name == "runtime.NumGoroutine" || !regsOk (bodyOf Tryz.f23)),
  rootT EE (fun k S => jumpS (Nat.max Tryz.f24.ntmps 1) (u24P k) k S) Tryz.f24 1,
  headsT EE (fun k => (u24P k).st (Nat.max Tryz.f24.ntmps 1)) (fun k S => jumpS (Nat.max Tryz.f24.ntmps 1) (u24P k) k S) 1 (bodyOf Tryz.f24) (endK EE Tryz.f24.results.toList),
  (Tryz.f24.name == "runtime.NumGoroutine" || !regsOk (bodyOf Tryz.f24)),
  rootT EE (fun k S => jumpS (Nat.max Tryz.f34.ntmps 2) (u34P k) k S) Tryz.f34 2,
  headsT EE (fun k => (u34P k).st (Nat.max Tryz.f34.ntmps 2)) (fun k S => jumpS (Nat.max Tryz.f34.ntmps 2) (u34P k) k S) 1 (bodyOf Tryz.f34) (endK EE Tryz.f34.results.toList),
  (Tryz.f34.name == "runtime.NumGoroutine" || !regsOk (bodyOf Tryz.f34)),
  rootT EE (fun k S => jumpS (Nat.max Tryz.f40.ntmps 1) (u40P k) k S) Tryz.f40 1,
  headsT EE (fun k => (u40P k).st (Nat.max Tryz.f40.ntmps 1)) (fun k S => jumpS (Nat.max Tryz.f40.ntmps 1) (u40P k) k S) 1 (bodyOf Tryz.f40) (endK EE Tryz.f40.results.toList),
  (Tryz.f40.name == "runtime.NumGoroutine" || !regsOk (bodyOf Tryz.f40)),
  rootT EE (fun k S => jumpS (Nat.max Tryz.f61.ntmps 2) (u61P k) k S) Tryz.f61 2,
  headsT EE (fun k => (u61P k).st (Nat.max Tryz.f61.ntmps 2)) (fun k S => jumpS (Nat.max Tryz.f61.ntmps 2) (u61P k) k S) 1 (bodyOf Tryz.f61) (endK EE Tryz.f61.results.toList),
  (Tryz.f61.name == "runtime.NumGoroutine" || !regsOk (bodyOf Tryz.f61)),
  rootT EE (fun k S => jumpS (Nat.max Tryz.f62.ntmps 2) (u62P k) k S) Tryz.f62 2,
  headsT EE (fun k => (u62P k).st (Nat.max Tryz.f62.ntmps 2)) (fun k S => jumpS (Nat.max Tryz.f62.ntmps 2) (u62P k) k S) 1 (bodyOf Tryz.f62) (endK EE Tryz.f62.results.toList),
  (Tryz.f62.name == "runtime.NumGoroutine" || !regsOk (bodyOf Tryz.f62))) =
  (u3T0, [], false, u5T0, [], false, u8T0, [(1, u8T1)], false, u9T0, [(1, u9T1)], false, u10T0, [(1, u10T1)], false, u11T0, [(1, u11T1)], false, u21T0, [], false, u23T0, [], false, u24T0, [], false, u34T0, [], false, u40T0, [], false, u61T0, [(1, u61T1)], false, u62T0, [], false) := by kernel_rfl
theorem u3 {ds : List D} {d : D} (hn : ds.length = 2) (h : Goes EE (Holds EE) u3Ts 0 ds d) : Holds EE 3 ds d :=
  holds_of he (envFunc (c := bodyOf Tryz.f3) Tryz.func3 rfl ((Prod.mk.inj (nx1 (nx1 allM))).1)) (c := bodyOf Tryz.f3) rfl hn ((Prod.mk.inj allM).1) (by rw [(Prod.mk.inj (nx1 allM)).1]; exact tabN) h
theorem u5 {ds : List D} {d : D} (hn : ds.length = 1) (h : Goes EE (Holds EE) u5Ts 0 ds d) : Holds EE 5 ds d :=
  holds_of he (envFunc (c := bodyOf Tryz.f5) Tryz.func5 rfl ((Prod.mk.inj (nx1 (nx4 allM))).1)) (c := bodyOf Tryz.f5) rfl hn ((Prod.mk.inj (nx1 (nx1 (nx1 allM)))).1) (by rw [(Prod.mk.inj (nx4 allM)).1]; exact tabN) h
theorem u8 {ds : List D} {d : D} (hn : ds.length = 2) (h : Goes EE (Holds EE) u8Ts 0 ds d) : Holds EE 8 ds d :=
  holds_of he (envFunc (c := bodyOf Tryz.f8) Tryz.func8 rfl ((Prod.mk.inj (nx4 (nx4 allM))).1)) (c := bodyOf Tryz.f8) rfl hn ((Prod.mk.inj (nx1 (nx1 (nx4 allM)))).1) (by rw [(Prod.mk.inj (nx1 (nx1 (nx1 (nx4 allM))))).1]; exact tabC rfl <| tabN) h
theorem u9 {ds : List D} {d : D} (hn : ds.length = 2) (h : Goes EE (Holds EE) u9Ts 0 ds d) : Holds EE 9 ds d :=
  holds_of he (envFunc (c := bodyOf Tryz.f9) Tryz.func9 rfl ((Prod.mk.inj (nx1 (nx1 (nx1 (nx4 (nx4 allM)))))).1)) (c := bodyOf Tryz.f9) rfl hn ((Prod.mk.inj (nx1 (nx4 (nx4 allM)))).1) (by rw [(Prod.mk.inj (nx1 (nx1 (nx4 (nx4 allM))))).1]; exact tabC rfl <| tabN) h
theorem u10 {ds : List D} {d : D} (hn : ds.length = 2) (h : Goes EE (Holds EE) u10Ts 0 ds d) : Holds EE 10 ds d :=
  holds_of he (envFunc (c := bodyOf Tryz.f10) Tryz.func10 rfl ((Prod.mk.inj (nx1 (nx1 (nx4 (nx4 (nx4 allM)))))).1)) (c := bodyOf Tryz.f10) rfl hn ((Prod.mk.inj (nx4 (nx4 (nx4 allM)))).1) (by rw [(Prod.mk.inj (nx1 (nx4 (nx4 (nx4 allM))))).1]; exact tabC rfl <| tabN) h
theorem u11 {ds : List D} {d : D} (hn : ds.length = 2) (h : Goes EE (Holds EE) u11Ts 0 ds d) : Holds EE 11 ds d :=
  holds_of he (envFunc (c := bodyOf Tryz.f11) Tryz.func11 rfl ((Prod.mk.inj (nx1 (nx16 allM))).1)) (c := bodyOf Tryz.f11) rfl hn ((Prod.mk.inj (nx1 (nx1 (nx1 (nx4 (nx4 (nx4 allM))))))).1) (by rw [(Prod.mk.inj (nx16 allM)).1]; exact tabC rfl <| tabN) h
theorem u21 {ds : List D} {d : D} (hn : ds.length = 2) (h : Goes EE (Holds EE) u21Ts 0 ds d) : Holds EE 21 ds d :=
  holds_of he (envFunc (c := bodyOf Tryz.f21) Tryz.func21 rfl ((Prod.mk.inj (nx4 (nx16 allM))).1)) (c := bodyOf Tryz.f21) rfl hn ((Prod.mk.inj (nx1 (nx1 (nx16 allM)))).1) (by rw [(Prod.mk.inj (nx1 (nx1 (nx1 (nx16 allM))))).1]; exact tabN) h
theorem u23 {ds : List D} {d : D} (hn : ds.length = 2) (h : Goes EE (Holds EE) u23Ts 0 ds d) : Holds EE 23 ds d :=
  holds_of he (envFunc (c := bodyOf Tryz.f23) Tryz.func23 rfl ((Prod.mk.inj (nx1 (nx1 (nx1 (nx4 (nx16 allM)))))).1)) (c := bodyOf Tryz.f23) rfl hn ((Prod.mk.inj (nx1 (nx4 (nx16 allM)))).1) (by rw [(Prod.mk.inj (nx1 (nx1 (nx4 (nx16 allM))))).1]; exact tabN) h
theorem u24 {ds : List D} {d : D} (hn : ds.length = 1) (h : Goes EE (Holds EE) u24Ts 0 ds d) : Holds EE 24 ds d :=
  holds_of he (envFunc (c := bodyOf Tryz.f24) Tryz.func24 rfl ((Prod.mk.inj (nx1 (nx1 (nx4 (nx4 (nx16 allM)))))).1)) (c := bodyOf Tryz.f24) rfl hn ((Prod.mk.inj (nx4 (nx4 (nx16 allM)))).1) (by rw [(Prod.mk.inj (nx1 (nx4 (nx4 (nx16 allM))))).1]; exact tabN) h
theorem u34 {ds : List D} {d : D} (hn : ds.length = 2) (h : Goes EE (Holds EE) u34Ts 0 ds d) : Holds EE 34 ds d :=
  holds_of he (envFunc (c := bodyOf Tryz.f34) Tryz.func34 rfl ((Prod.mk.inj (nx1 (nx4 (nx4 (nx4 (nx16 allM)))))).1)) (c := bodyOf Tryz.f34) rfl hn ((Prod.mk.inj (nx1 (nx1 (nx1 (nx4 (nx4 (nx16 allM))))))).1) (by rw [(Prod.mk.inj (nx4 (nx4 (nx4 (nx16 allM))))).1]; exact tabN) h
theorem u40 {ds : List D} {d : D} (hn : ds.length = 1) (h : Goes EE (Holds EE) u40Ts 0 ds d) : Holds EE 40 ds d :=
  holds_of he (envFunc (c := bodyOf Tryz.f40) Tryz.func40 rfl ((Prod.mk.inj (nx16 (nx16 allM))).1)) (c := bodyOf Tryz.f40) rfl hn ((Prod.mk.inj (nx1 (nx1 (nx4 (nx4 (nx4 (nx16 allM))))))).1) (by rw [(Prod.mk.inj (nx1 (nx1 (nx1 (nx4 (nx4 (nx4 (nx16 allM)))))))).1]; exact tabN) h
theorem u61 {ds : List D} {d : D} (hn : ds.length = 2) (h : Goes EE (Holds EE) u61Ts 0 ds d) : Holds EE 61 ds d :=
  holds_of he (envFunc (c := bodyOf Tryz.f61) Tryz.func61 rfl ((Prod.mk.inj (nx1 (nx1 (nx1 (nx16 (nx16 allM)))))).1)) (c := bodyOf Tryz.f61) rfl hn ((Prod.mk.inj (nx1 (nx16 (nx16 allM)))).1) (by rw [(Prod.mk.inj (nx1 (nx1 (nx16 (nx16 allM))))).1]; exact tabC rfl <| tabN) h
theorem u62 {ds : List D} {d : D} (hn : ds.length = 2) (h : Goes EE (Holds EE) u62Ts 0 ds d) : Holds EE 62 ds d :=
  holds_of he (envFunc (c := bodyOf Tryz.f62) Tryz.func62 rfl ((nx1 (nx1 (nx4 (nx16 (nx16 allM))))))) (c := bodyOf Tryz.f62) rfl hn ((Prod.mk.inj (nx4 (nx16 (nx16 allM)))).1) (by rw [(Prod.mk.inj (nx1 (nx4 (nx16 (nx16 allM))))).1]; exact tabN) h
end Go.Proofs.YtonebjbldlokmaaGreat
