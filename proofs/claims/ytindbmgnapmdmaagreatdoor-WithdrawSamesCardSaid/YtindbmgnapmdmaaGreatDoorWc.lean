/- Trees of functions. Conditions: none. -/
import Derived.Test.YtindbmgnapmdmaaGreatDoorWa
namespace Go.Proofs.YtindbmgnapmdmaaGreatDoor
open Go Go.Am Go.Proofs
/-! 68 langdoc/langdocref40.units params #[28, 28] -/
def u68P : Nat → Pat
  | 1 => ⟨[⟨.pure, true⟩, ⟨.pure, false⟩, ⟨.pure, false⟩], [(2, .loc 0 0), (3, .loc 1 0), (5, .v 0)], [some (.whole (.v 1) 3), some (.whole (.v 2) 3)]⟩
  | 2 => ⟨[⟨.pure, true⟩, ⟨.pure, false⟩, ⟨.pure, false⟩], [(2, .loc 0 0), (3, .loc 1 0), (6, .v 0)], [some (.whole (.v 1) 3), some (.whole (.v 2) 3)]⟩
  | 3 => ⟨[⟨.pure, true⟩, ⟨.pure, true⟩, ⟨.pure, false⟩, ⟨.pure, false⟩], [(2, .loc 0 0), (3, .loc 1 0), (6, .v 0), (7, .v 1)], [some (.whole (.v 2) 3), some (.whole (.v 3) 3)]⟩
  | _ => ⟨[], [], []⟩
def u68T0 : Tree :=
  .bind (.chk true 3) [.v 0] <|
  .bind (.chk true 3) [.v 1] <|
  fl' 0 2 <|
  fl' 0 3 <|
  .bind (.bin .neq 9 (.tmp 9) (.tmp 11)) [.v 4, .v 5] <|
  .ite (.v 6) (
    .ret [.c (.bool false)]) (
    fl' 1 2 <|
    ln' 7 <|
    fl' 1 3 <|
    ln' 9 <|
    .bind (.bin .neq 3 (.tmp 16) (.tmp 19)) [.v 8, .v 10] <|
    .ite (.v 11) (
      .ret [.c (.bool false)]) (
      fl' 2 2 <|
      ln' 12 <|
      fl' 2 3 <|
      ln' 14 <|
      .bind (.bin .neq 3 (.tmp 25) (.tmp 28)) [.v 13, .v 15] <|
      .ite (.v 16) (
        .ret [.c (.bool false)]) (
        .jump 1 [k' 0, .v 2, .v 3])))
def u68T1 : Tree :=
  fl' 1 1 <|
  ln' 3 <|
  .bind (.bin .lss 3 (.tmp 31) (.tmp 34)) [.v 0, .v 4] <|
  .ite (.v 5) (
    fl' 1 1 <|
    ir' 6 0 <|
    .bind (.elem 2 false 1 0) [.v 6, .v 0] <|
    fl' 1 2 <|
    ir' 9 0 <|
    .bind (.elem 2 false 1 0) [.v 9, .v 0] <|
    .bind (.bin .neq 9 (.tmp 43) (.tmp 49)) [.v 8, .v 11] <|
    .ite (.v 12) (
      .ret [.c (.bool false)]) (
      fl' 1 1 <|
      ir' 13 0 <|
      .bind (.elem 2 false 1 1) [.v 13, .v 0] <|
      fl' 1 2 <|
      ir' 16 0 <|
      .bind (.elem 2 false 1 1) [.v 16, .v 0] <|
      .call (.fn 110) [.v 15, .v 18] 1 <|
      .bind (.un .not 4) [.v 19] <|
      .ite (.v 20) (
        .ret [.c (.bool false)]) (
        .bind (.bin .add 3 (.tmp 36) (K' 1)) [.v 0, k' 1] <|
        .jump 1 [.v 21, .v 1, .v 2]))) (
    .jump 2 [k' 0, .v 1, .v 2])
def u68T2 : Tree :=
  fl' 2 1 <|
  ln' 3 <|
  .bind (.bin .lss 3 (.tmp 67) (.tmp 70)) [.v 0, .v 4] <|
  .ite (.v 5) (
    fl' 2 1 <|
    ir' 6 0 <|
    .bind (.elem 1 false 1 0) [.v 6, .v 0] <|
    ln' 8 <|
    fl' 2 2 <|
    ir' 10 0 <|
    .bind (.elem 1 false 1 0) [.v 10, .v 0] <|
    ln' 12 <|
    .bind (.bin .neq 3 (.tmp 79) (.tmp 85)) [.v 9, .v 13] <|
    .ite (.v 14) (
      .ret [.c (.bool false)]) (
      .jump 3 [.v 0, k' 0, .v 1, .v 2])) (
    .ret [.c (.bool true)])
def u68T3 : Tree :=
  fl' 2 2 <|
  ir' 4 0 <|
  .bind (.elem 1 false 1 0) [.v 4, .v 0] <|
  ln' 6 <|
  .bind (.bin .lss 3 (.tmp 87) (.tmp 93)) [.v 1, .v 7] <|
  .ite (.v 8) (
    fl' 2 2 <|
    ir' 9 0 <|
    .bind (.elem 1 false 1 0) [.v 9, .v 0] <|
    ir' 11 1 <|
    .bind (.elem 1 false 1 0) [.v 11, .v 1] <|
    fl' 2 3 <|
    ir' 14 0 <|
    .bind (.elem 1 false 1 0) [.v 14, .v 0] <|
    ir' 16 1 <|
    .bind (.elem 1 false 1 0) [.v 16, .v 1] <|
    .bind (.bin .neq 9 (.tmp 104) (.tmp 112)) [.v 13, .v 18] <|
    .ite (.v 19) (
      .ret [.c (.bool false)]) (
      .bind (.bin .add 3 (.tmp 95) (K' 1)) [.v 1, k' 1] <|
      .jump 3 [.v 0, .v 20, .v 2, .v 3])) (
    .bind (.bin .add 3 (.tmp 72) (K' 1)) [.v 0, k' 1] <|
    .jump 2 [.v 9, .v 2, .v 3])
def u68Ts : Nat → Tree
  | 0 => u68T0
  | 1 => u68T1
  | 2 => u68T2
  | 3 => u68T3
  | _ => .fail
/-! 69 langdoc/langdocref40.rules params #[29, 29] -/
def u69P : Nat → Pat
  | 1 => ⟨[⟨.pure, false⟩, ⟨.pure, false⟩, ⟨.pure, true⟩], [(0, .v 0), (1, .v 1), (5, .v 2)], []⟩
  | _ => ⟨[], [], []⟩
def u69T0 : Tree :=
  ln' 0 <|
  ln' 1 <|
  .bind (.bin .neq 3 (.tmp 9) (.tmp 11)) [.v 2, .v 3] <|
  .ite (.v 4) (
    .ret [.c (.bool false)]) (
    .jump 1 [.v 0, .v 1, k' 0])
def u69T1 : Tree :=
  ln' 0 <|
  .bind (.bin .lss 3 (.tmp 13) (.tmp 15)) [.v 2, .v 3] <|
  .ite (.v 4) (
    ir' 0 2 <|
    .bind (.elem 6 true 6 0) [.v 0, .v 2] <|
    ir' 1 2 <|
    .bind (.elem 6 true 6 0) [.v 1, .v 2] <|
    .bind (.chk true 6) [.v 6] <|
    .bind (.chk true 6) [.v 8] <|
    ir' 0 2 <|
    ir' 1 2 <|
    fl' 4 9 <|
    fl' 4 10 <|
    .bind (.bin .neq 4 (.tmp 28) (.tmp 30)) [.v 13, .v 14] <|
    .ite (.v 15) (
      .ret [.c (.bool false)]) (
      fl' 5 9 <|
      fl' 5 10 <|
      .bind (.bin .neq 4 (.tmp 34) (.tmp 36)) [.v 16, .v 17] <|
      .ite (.v 18) (
        .ret [.c (.bool false)]) (
        fl' 0 9 <|
        fl' 0 10 <|
        .call (.fn 110) [.v 19, .v 20] 1 <|
        .bind (.un .not 4) [.v 21] <|
        .ite (.v 22) (
          .ret [.c (.bool false)]) (
          fl' 1 9 <|
          fl' 1 10 <|
          .call (.fn 110) [.v 23, .v 24] 1 <|
          .bind (.un .not 4) [.v 25] <|
          .ite (.v 26) (
            .ret [.c (.bool false)]) (
            fl' 2 9 <|
            fl' 2 10 <|
            .call (.fn 111) [.v 27, .v 28] 1 <|
            .bind (.un .not 4) [.v 29] <|
            .ite (.v 30) (
              .ret [.c (.bool false)]) (
              fl' 3 9 <|
              fl' 3 10 <|
              .call (.fn 111) [.v 31, .v 32] 1 <|
              .bind (.un .not 4) [.v 33] <|
              .ite (.v 34) (
                .ret [.c (.bool false)]) (
                .bind (.bin .add 3 (.tmp 17) (K' 1)) [.v 2, k' 1] <|
                .jump 1 [.v 0, .v 1, .v 35]))))))) (
    .ret [.c (.bool true)])
def u69Ts : Nat → Tree
  | 0 => u69T0
  | 1 => u69T1
  | _ => .fail
/-! 70 langdoc/langdocref40.nets params #[33, 33] -/
def u70P : Nat → Pat
  | 1 => ⟨[⟨.pure, true⟩, ⟨.pure, false⟩, ⟨.pure, false⟩], [(2, .loc 0 0), (3, .loc 1 0), (5, .v 0)], [some (.whole (.v 1) 3), some (.whole (.v 2) 3)]⟩
  | _ => ⟨[], [], []⟩
def u70T0 : Tree :=
  .bind (.chk true 3) [.v 0] <|
  .bind (.chk true 3) [.v 1] <|
  fl' 0 2 <|
  fl' 0 3 <|
  .bind (.bin .neq 3 (.tmp 7) (.tmp 9)) [.v 4, .v 5] <|
  .ite (.v 6) (
    .ret [.c (.bool false)]) (
    fl' 1 2 <|
    ln' 7 <|
    fl' 1 3 <|
    ln' 9 <|
    .bind (.bin .neq 3 (.tmp 14) (.tmp 17)) [.v 8, .v 10] <|
    .ite (.v 11) (
      .ret [.c (.bool false)]) (
      fl' 2 2 <|
      fl' 2 3 <|
      .call (.fn 110) [.v 12, .v 13] 1 <|
      .bind (.un .not 4) [.v 14] <|
      .ite (.v 15) (
        .ret [.c (.bool false)]) (
        .jump 1 [k' 0, .v 2, .v 3])))
def u70T1 : Tree :=
  fl' 1 1 <|
  ln' 3 <|
  .bind (.bin .lss 3 (.tmp 28) (.tmp 31)) [.v 0, .v 4] <|
  .ite (.v 5) (
    fl' 1 1 <|
    ir' 6 0 <|
    .bind (.elem 3 true 3 0) [.v 6, .v 0] <|
    fl' 1 2 <|
    ir' 9 0 <|
    .bind (.elem 3 true 3 0) [.v 9, .v 0] <|
    .bind (.bin .neq 90 (.tmp 39) (.tmp 44)) [.v 8, .v 11] <|
    .ite (.v 12) (
      .ret [.c (.bool false)]) (
      .bind (.bin .add 3 (.tmp 33) (K' 1)) [.v 0, k' 1] <|
      .jump 1 [.v 13, .v 1, .v 2])) (
    .ret [.c (.bool true)])
def u70Ts : Nat → Tree
  | 0 => u70T0
  | 1 => u70T1
  | _ => .fail
/-! 111 langdoc/langdocref40.classes params #[134, 134] -/
def u111P : Nat → Pat
  | 1 => ⟨[⟨.pure, false⟩, ⟨.pure, false⟩, ⟨.pure, true⟩], [(0, .v 0), (1, .v 1), (5, .v 2)], []⟩
  | _ => ⟨[], [], []⟩
def u111T0 : Tree :=
  ln' 0 <|
  ln' 1 <|
  .bind (.bin .neq 3 (.tmp 7) (.tmp 9)) [.v 2, .v 3] <|
  .ite (.v 4) (
    .ret [.c (.bool false)]) (
    .jump 1 [.v 0, .v 1, k' 0])
def u111T1 : Tree :=
  ln' 0 <|
  .bind (.bin .lss 3 (.tmp 11) (.tmp 13)) [.v 2, .v 3] <|
  .ite (.v 4) (
    ir' 0 2 <|
    .bind (.elem 2 true 2 0) [.v 0, .v 2] <|
    ir' 1 2 <|
    .bind (.elem 2 true 2 0) [.v 1, .v 2] <|
    .bind (.bin .neq 139 (.tmp 20) (.tmp 24)) [.v 6, .v 8] <|
    .ite (.v 9) (
      .ret [.c (.bool false)]) (
      .bind (.bin .add 3 (.tmp 15) (K' 1)) [.v 2, k' 1] <|
      .jump 1 [.v 0, .v 1, .v 10])) (
    .ret [.c (.bool true)])
def u111Ts : Nat → Tree
  | 0 => u111T0
  | 1 => u111T1
  | _ => .fail
/-! 112 langdoc/langdocref12.Ints params #[31, 31] -/
def u112P : Nat → Pat
  | 1 => ⟨[⟨.pure, false⟩, ⟨.pure, false⟩, ⟨.pure, true⟩], [(0, .v 0), (1, .v 1), (5, .v 2)], []⟩
  | _ => ⟨[], [], []⟩
def u112T0 : Tree :=
  ln' 0 <|
  ln' 1 <|
  .bind (.bin .neq 3 (.tmp 7) (.tmp 9)) [.v 2, .v 3] <|
  .ite (.v 4) (
    .ret [.c (.bool false)]) (
    .jump 1 [.v 0, .v 1, k' 0])
def u112T1 : Tree :=
  ln' 0 <|
  .bind (.bin .lss 3 (.tmp 11) (.tmp 13)) [.v 2, .v 3] <|
  .ite (.v 4) (
    ir' 0 2 <|
    .bind (.elem 1 false 1 0) [.v 0, .v 2] <|
    ir' 1 2 <|
    .bind (.elem 1 false 1 0) [.v 1, .v 2] <|
    .bind (.bin .neq 3 (.tmp 20) (.tmp 24)) [.v 6, .v 8] <|
    .ite (.v 9) (
      .ret [.c (.bool false)]) (
      .bind (.bin .add 3 (.tmp 15) (K' 1)) [.v 2, k' 1] <|
      .jump 1 [.v 0, .v 1, .v 10])) (
    .ret [.c (.bool true)])
def u112Ts : Nat → Tree
  | 0 => u112T0
  | 1 => u112T1
  | _ => .fail
/-! 156 langdoc/langdocref29.before params #[154, 154] -/
def u156P : Nat → Pat
  | _ => ⟨[], [], []⟩
def u156T0 : Tree :=
  .bind (.chk true 3) [.v 0] <|
  .bind (.chk true 3) [.v 1] <|
  fl' 0 2 <|
  fl' 0 3 <|
  .bind (.bin .neq 3 (.tmp 6) (.tmp 8)) [.v 4, .v 5] <|
  .ite (.v 6) (
    fl' 0 2 <|
    fl' 0 3 <|
    .bind (.bin .lss 3 (.tmp 11) (.tmp 13)) [.v 7, .v 8] <|
    .ret [.v 9]) (
    fl' 1 2 <|
    fl' 1 3 <|
    .bind (.bin .neq 3 (.tmp 16) (.tmp 18)) [.v 7, .v 8] <|
    .ite (.v 9) (
      fl' 1 2 <|
      fl' 1 3 <|
      .bind (.bin .lss 3 (.tmp 21) (.tmp 23)) [.v 10, .v 11] <|
      .ret [.v 12]) (
      fl' 2 2 <|
      fl' 2 3 <|
      .bind (.bin .lss 3 (.tmp 26) (.tmp 28)) [.v 10, .v 11] <|
      .ret [.v 12]))
def u156Ts : Nat → Tree
  | 0 => u156T0
  | _ => .fail
theorem all7b : (rootT EE (fun k S => jumpS (Nat.max Tryz.f68.ntmps 2) (u68P k) k S) Tryz.f68 2,
  headsT EE (fun k => (u68P k).st (Nat.max Tryz.f68.ntmps 2)) (fun k S => jumpS (Nat.max Tryz.f68.ntmps 2) (u68P k) k S) 1 (bodyOf Tryz.f68) (endK EE Tryz.f68.results.toList),
  (Tryz.f68.name == "runtime.NumGoroutine" || !regsOk (bodyOf Tryz.f68)),
  rootT EE (fun k S => jumpS (Nat.max Tryz.f69.ntmps 2) (u69P k) k S) Tryz.f69 2,
  headsT EE (fun k => (u69P k).st (Nat.max Tryz.f69.ntmps 2)) (fun k S => jumpS (Nat.max Tryz.f69.ntmps 2) (u69P k) k S) 1 (bodyOf Tryz.f69) (endK EE Tryz.f69.results.toList),
  (Tryz.f69.name == "runtime.NumGoroutine" || !regsOk (bodyOf Tryz.f69)),
  rootT EE (fun k S => jumpS (Nat.max Tryz.f70.ntmps 2) (u70P k) k S) Tryz.f70 2,
  headsT EE (fun k => (u70P k).st (Nat.max Tryz.f70.ntmps 2)) (fun k S => jumpS (Nat.max Tryz.f70.ntmps 2) (u70P k) k S) 1 (bodyOf Tryz.f70) (endK EE Tryz.f70.results.toList),
  (Tryz.f70.name == "runtime.NumGoroutine" || !regsOk (bodyOf Tryz.f70)),
  rootT EE (fun k S => jumpS (Nat.max Tryz.f111.ntmps 2) (u111P k) k S) Tryz.f111 2,
  headsT EE (fun k => (u111P k).st (Nat.max Tryz.f111.ntmps 2)) (fun k S => jumpS (Nat.max Tryz.f111.ntmps 2) (u111P k) k S) 1 (bodyOf Tryz.f111) (endK EE Tryz.f111.results.toList),
  (Tryz.f111.name == "runtime.NumGoroutine" || !regsOk (bodyOf Tryz.f111)),
  rootT EE (fun k S => jumpS (Nat.max Tryz.f112.ntmps 2) (u112P k) k S) Tryz.f112 2,
  headsT EE (fun k => (u112P k).st (Nat.max Tryz.f112.ntmps 2)) (fun k S => jumpS (Nat.max Tryz.f112.ntmps 2) (u112P k) k S) 1 (bodyOf Tryz.f112) (endK EE Tryz.f112.results.toList),
  (Tryz.f112.name == "runtime.NumGoroutine" || !regsOk (bodyOf Tryz.f112)),
  rootT EE (fun k S => jumpS (Nat.max Tryz.f156.ntmps 2) (u156P k) k S) Tryz.f156 2,
  headsT EE (fun k => (u156P k).st (Nat.max Tryz.f156.ntmps 2)) (fun k S => jumpS (Nat.max Tryz.f156.ntmps 2) (u156P k) k S) 1 (bodyOf Tryz.f156) (endK EE Tryz.f156.results.toList),
  (Tryz.f156.name == "runtime.NumGoroutine" || !regsOk (bodyOf Tryz.f156))) =
  (u68T0, [(1, u68T1), (2, u68T2), (3, u68T3)], false, u69T0, [(1, u69T1)], false, u70T0, [(1, u70T1)], false, u111T0, [(1, u111T1)], false, u112T0, [(1, u112T1)], false, u156T0, [], false) := by kernel_rfl
theorem u68 {ds : List D} {d : D} (hn : ds.length = 2) (h : Goes EE (Holds EE) u68Ts 0 ds d) : Holds EE 68 ds d :=
  holds_of he (envFunc (c := bodyOf Tryz.f68) Tryz.func68 rfl ((Prod.mk.inj (nx1 (nx1 all7b))).1)) (c := bodyOf Tryz.f68) rfl hn ((Prod.mk.inj all7b).1) (by rw [(Prod.mk.inj (nx1 all7b)).1]; exact tabC rfl <| tabC rfl <| tabC rfl <| tabN) h
theorem u69 {ds : List D} {d : D} (hn : ds.length = 2) (h : Goes EE (Holds EE) u69Ts 0 ds d) : Holds EE 69 ds d :=
  holds_of he (envFunc (c := bodyOf Tryz.f69) Tryz.func69 rfl ((Prod.mk.inj (nx1 (nx4 all7b))).1)) (c := bodyOf Tryz.f69) rfl hn ((Prod.mk.inj (nx1 (nx1 (nx1 all7b)))).1) (by rw [(Prod.mk.inj (nx4 all7b)).1]; exact tabC rfl <| tabN) h
theorem u70 {ds : List D} {d : D} (hn : ds.length = 2) (h : Goes EE (Holds EE) u70Ts 0 ds d) : Holds EE 70 ds d :=
  holds_of he (envFunc (c := bodyOf Tryz.f70) Tryz.func70 rfl ((Prod.mk.inj (nx4 (nx4 all7b))).1)) (c := bodyOf Tryz.f70) rfl hn ((Prod.mk.inj (nx1 (nx1 (nx4 all7b)))).1) (by rw [(Prod.mk.inj (nx1 (nx1 (nx1 (nx4 all7b))))).1]; exact tabC rfl <| tabN) h
theorem u111 {ds : List D} {d : D} (hn : ds.length = 2) (h : Goes EE (Holds EE) u111Ts 0 ds d) : Holds EE 111 ds d :=
  holds_of he (envFunc (c := bodyOf Tryz.f111) Tryz.func111 rfl ((Prod.mk.inj (nx1 (nx1 (nx1 (nx4 (nx4 all7b)))))).1)) (c := bodyOf Tryz.f111) rfl hn ((Prod.mk.inj (nx1 (nx4 (nx4 all7b)))).1) (by rw [(Prod.mk.inj (nx1 (nx1 (nx4 (nx4 all7b))))).1]; exact tabC rfl <| tabN) h
theorem u112 {ds : List D} {d : D} (hn : ds.length = 2) (h : Goes EE (Holds EE) u112Ts 0 ds d) : Holds EE 112 ds d :=
  holds_of he (envFunc (c := bodyOf Tryz.f112) Tryz.func112 rfl ((Prod.mk.inj (nx1 (nx1 (nx4 (nx4 (nx4 all7b)))))).1)) (c := bodyOf Tryz.f112) rfl hn ((Prod.mk.inj (nx4 (nx4 (nx4 all7b)))).1) (by rw [(Prod.mk.inj (nx1 (nx4 (nx4 (nx4 all7b))))).1]; exact tabC rfl <| tabN) h
theorem u156 {ds : List D} {d : D} (hn : ds.length = 2) (h : Goes EE (Holds EE) u156Ts 0 ds d) : Holds EE 156 ds d :=
  holds_of he (envFunc (c := bodyOf Tryz.f156) Tryz.func156 rfl ((nx1 (nx16 all7b)))) (c := bodyOf Tryz.f156) rfl hn ((Prod.mk.inj (nx1 (nx1 (nx1 (nx4 (nx4 (nx4 all7b))))))).1) (by rw [(Prod.mk.inj (nx16 all7b)).1]; exact tabN) h
end Go.Proofs.YtindbmgnapmdmaaGreatDoor
