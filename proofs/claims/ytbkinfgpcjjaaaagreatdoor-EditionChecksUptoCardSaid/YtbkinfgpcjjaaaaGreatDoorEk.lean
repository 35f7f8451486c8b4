/- Trees of functions. Conditions: none. -/
import Derived.Test.YtbkinfgpcjjaaaaGreatDoorEc
set_option linter.all false
namespace Go.Proofs.YtbkinfgpcjjaaaaGreatDoor
open Go Go.Am Go.Proofs
def u3P : Nat → Pat
  | _ => ⟨[], [], []⟩
def u3T0 : Tree :=
  .bind (.chk true 16) [.v 0] <|
  .bind (.chk true 5) [.v 1] <|
  fl' 3 3 <|
  ln' 4 <|
  .bind (.bin .gtr 3 (.tmp 7) (K' 20)) [.v 5, k' 20] <|
  .ite (.v 6) (
    .call (.fn 5) [] 1 <|
    .ret [.v 7]) (
    .call (.fn 4) [.v 2] 1 <|
    .bind (.un .not 4) [.v 7] <|
    .ite (.v 8) (
      .call (.fn 5) [] 1 <|
      .ret [.v 9]) (
      .call (.fn 6) [.v 2, .v 3] 1 <|
      .call (.fn 7) [.v 2, .v 3] 1 <|
      .bind (.bin .eql 54 (.tmp 17) (.tmp 20)) [.v 9, .v 10] <|
      .ite (.v 11) (
        .call (.fn 5) [] 1 <|
        .ret [.v 12]) (
        .ret [.c (.bool false)])))
def u3Ts : Nat → Tree
  | 0 => u3T0
  | _ => .fail
def u6P : Nat → Pat
  | 1 => ⟨[⟨.pure, true⟩, ⟨.pure, true⟩, ⟨.pure, true⟩, ⟨.pure, false⟩, ⟨.pure, false⟩], [(2, .loc 0 0), (3, .loc 1 0), (36, .v 0), (37, .v 1), (38, .v 2)], [some (.whole (.v 3) 16), some (.whole (.v 4) 5)]⟩
  | _ => ⟨[], [], []⟩
def u6T0 : Tree :=
  .bind (.chk true 16) [.v 0] <|
  .bind (.chk true 5) [.v 1] <|
  fl' 0 3 <|
  .bind (.bin .lss 3 (.tmp 8) (K' 0)) [.v 4, k' 0] <|
  .ite (.v 5) (
    .ret [k' 14]) (
    fl' 0 3 <|
    .bind (.bin .gtr 3 (.tmp 12) (K' 3)) [.v 6, k' 3] <|
    .ite (.v 7) (
      .ret [k' 14]) (
      fl' 1 3 <|
      .bind (.bin .lss 3 (.tmp 17) (K' 0)) [.v 8, k' 0] <|
      .ite (.v 9) (
        .ret [k' 2]) (
        fl' 1 3 <|
        .bind (.bin .gtr 3 (.tmp 22) (K' 1099511627776)) [.v 10, k' 1099511627776] <|
        .ite (.v 11) (
          .ret [k' 2]) (
          fl' 2 3 <|
          .bind (.bin .lss 3 (.tmp 27) (K' 1)) [.v 12, k' 1] <|
          .ite (.v 13) (
            .ret [k' 12]) (
            fl' 2 3 <|
            .bind (.bin .gtr 3 (.tmp 32) (K' 109573)) [.v 14, k' 109573] <|
            .ite (.v 15) (
              .ret [k' 12]) (
              fl' 3 3 <|
              ln' 16 <|
              .jump 1 [.v 16, .v 17, k' 0, .v 2, .v 3]))))))
def u6T1 : Tree :=
  .bind (.bin .lss 3 (.tmp 38) (.tmp 37)) [.v 2, .v 1] <|
  .ite (.v 5) (
    ir' 0 2 <|
    .bind (.elem 1 false 1 0) [.v 0, .v 2] <|
    .bind (.bin .gtr 3 (.tmp 43) (K' 0)) [.v 2, k' 0] <|
    .ite (.v 8) (
      fl' 3 4 <|
      .bind (.bin .sub 3 (.tmp 49) (K' 1)) [.v 2, k' 1] <|
      ir' 9 10 <|
      .bind (.elem 1 false 1 0) [.v 9, .v 10] <|
      .bind (.bin .leq 3 (.tmp 46) (.tmp 52)) [.v 7, .v 12] <|
      .ite (.v 13) (
        .ret [k' 10]) (
        fl' 9 3 <|
        .bind .box [.v 7] <|
        .call (.fn 18) [.v 14, .fn (.func 19) [] [.pp 15 0]] 1 <|
        .bind (.un .not 4) [.v 16] <|
        .ite (.v 17) (
          .ret [k' 9]) (
          .bind (.bin .add 3 (.tmp 38) (K' 1)) [.v 2, k' 1] <|
          .jump 1 [.v 0, .v 1, .v 18, .v 3, .v 4]))) (
      fl' 9 3 <|
      .bind .box [.v 7] <|
      .call (.fn 18) [.v 9, .fn (.func 19) [] [.pp 10 0]] 1 <|
      .bind (.un .not 4) [.v 11] <|
      .ite (.v 12) (
        .ret [k' 9]) (
        .bind (.bin .add 3 (.tmp 38) (K' 1)) [.v 2, k' 1] <|
        .jump 1 [.v 0, .v 1, .v 13, .v 3, .v 4]))) (
    fl' 4 4 <|
    .bind (.bin .lss 3 (.tmp 62) (K' 20)) [.v 6, k' 20] <|
    .ite (.v 7) (
      .ret [k' 2]) (
      fl' 4 4 <|
      .bind (.bin .gtr 3 (.tmp 66) (K' 200)) [.v 8, k' 200] <|
      .ite (.v 9) (
        .ret [k' 2]) (
        .ret [k' 0])))
def u6Ts : Nat → Tree
  | 0 => u6T0
  | 1 => u6T1
  | _ => .fail
def u7P : Nat → Pat
  | 1 => ⟨[⟨.pure, true⟩, ⟨.pure, false⟩, ⟨.pure, false⟩], [(2, .loc 0 0), (3, .loc 1 0), (5, .v 0)], [some (.whole (.v 1) 16), some (.whole (.v 2) 5)]⟩
  | _ => ⟨[], [], []⟩
def u7T0 : Tree :=
  .bind (.chk true 16) [.v 0] <|
  .bind (.chk true 5) [.v 1] <|
  fl' 0 3 <|
  .bind (.bin .lss 3 (.tmp 7) (K' 0)) [.v 4, k' 0] <|
  .ite (.v 5) (
    .ret [k' 14]) (
    fl' 0 3 <|
    .bind (.bin .gtr 3 (.tmp 11) (K' 3)) [.v 6, k' 3] <|
    .ite (.v 7) (
      .ret [k' 14]) (
      fl' 1 3 <|
      .bind (.bin .lss 3 (.tmp 16) (K' 0)) [.v 8, k' 0] <|
      .ite (.v 9) (
        .ret [k' 2]) (
        fl' 1 3 <|
        .bind (.bin .gtr 3 (.tmp 21) (K' 1099511627776)) [.v 10, k' 1099511627776] <|
        .ite (.v 11) (
          .ret [k' 2]) (
          fl' 2 3 <|
          .bind (.bin .lss 3 (.tmp 26) (K' 1)) [.v 12, k' 1] <|
          .ite (.v 13) (
            .ret [k' 12]) (
            fl' 2 3 <|
            .bind (.bin .gtr 3 (.tmp 31) (K' 109573)) [.v 14, k' 109573] <|
            .ite (.v 15) (
              .ret [k' 12]) (
              .jump 1 [k' 0, .v 2, .v 3]))))))
def u7T1 : Tree :=
  fl' 3 2 <|
  ln' 3 <|
  .bind (.bin .lss 3 (.tmp 34) (.tmp 37)) [.v 0, .v 4] <|
  .ite (.v 5) (
    .bind (.bin .gtr 3 (.tmp 41) (K' 0)) [.v 0, k' 0] <|
    .ite (.v 6) (
      fl' 3 2 <|
      ir' 7 0 <|
      .bind (.elem 1 false 1 0) [.v 7, .v 0] <|
      fl' 3 2 <|
      .bind (.bin .sub 3 (.tmp 51) (K' 1)) [.v 0, k' 1] <|
      ir' 10 11 <|
      .bind (.elem 1 false 1 0) [.v 10, .v 11] <|
      .bind (.bin .leq 3 (.tmp 48) (.tmp 54)) [.v 9, .v 13] <|
      .ite (.v 14) (
        .ret [k' 10]) (
        fl' 3 2 <|
        ir' 15 0 <|
        .bind (.elem 1 false 1 0) [.v 15, .v 0] <|
        .call (.fn 20) [.v 1, .v 17] 1 <|
        .bind (.un .not 4) [.v 18] <|
        .ite (.v 19) (
          .ret [k' 9]) (
          .bind (.bin .add 3 (.tmp 39) (K' 1)) [.v 0, k' 1] <|
          .jump 1 [.v 20, .v 1, .v 2]))) (
      fl' 3 2 <|
      ir' 7 0 <|
      .bind (.elem 1 false 1 0) [.v 7, .v 0] <|
      .call (.fn 20) [.v 1, .v 9] 1 <|
      .bind (.un .not 4) [.v 10] <|
      .ite (.v 11) (
        .ret [k' 9]) (
        .bind (.bin .add 3 (.tmp 39) (K' 1)) [.v 0, k' 1] <|
        .jump 1 [.v 12, .v 1, .v 2]))) (
    fl' 4 2 <|
    .bind (.bin .lss 3 (.tmp 66) (K' 20)) [.v 6, k' 20] <|
    .ite (.v 7) (
      .ret [k' 2]) (
      fl' 4 2 <|
      .bind (.bin .gtr 3 (.tmp 70) (K' 200)) [.v 8, k' 200] <|
      .ite (.v 9) (
        .ret [k' 2]) (
        .ret [k' 0])))
def u7Ts : Nat → Tree
  | 0 => u7T0
  | 1 => u7T1
  | _ => .fail
def u18P : Nat → Pat
  | _ => ⟨[], [], []⟩
def u18T0 : Tree :=
  .call (.fn 37) [.v 0, .v 1] 1 <|
  .bind (.bin .geq 3 (.tmp 7) (K' 0)) [.v 2, k' 0] <|
  .ret [.v 3]
def u18Ts : Nat → Tree
  | 0 => u18T0
  | _ => .fail
def u19P : Nat → Pat
  | _ => ⟨[], [], []⟩
def u19T0 : Tree :=
  .bind (.chk true 7) [.v 0] <|
  fl' 0 2 <|
  .bind .pchk [.v 1] <|
  .bind (.loadp false 1) [.pp 4 0] <|
  .bind (.bin .eql 3 (.tmp 6) (.tmp 7)) [.v 3, .v 5] <|
  .ret [.v 6]
def u19Ts : Nat → Tree
  | 0 => u19T0
  | _ => .fail
def u20P : Nat → Pat
  | 1 => ⟨[⟨.pure, false⟩, ⟨.pure, true⟩, ⟨.pure, false⟩], [(1, .v 0), (2, .loc 0 0), (5, .v 1)], [some (.whole (.v 2) 16)]⟩
  | _ => ⟨[], [], []⟩
def u20T0 : Tree :=
  .bind (.chk true 16) [.v 0] <|
  .jump 1 [.v 1, k' 0, .v 2]
def u20T1 : Tree :=
  fl' 9 2 <|
  ln' 3 <|
  .bind (.bin .lss 3 (.tmp 6) (.tmp 9)) [.v 1, .v 4] <|
  .ite (.v 5) (
    fl' 9 2 <|
    ir' 6 1 <|
    .bind (.elem 7 false 1 0) [.v 6, .v 1] <|
    .bind (.bin .eql 3 (.tmp 19) (.tmp 20)) [.v 8, .v 0] <|
    .ite (.v 9) (
      .ret [.c (.bool true)]) (
      .bind (.bin .add 3 (.tmp 11) (K' 1)) [.v 1, k' 1] <|
      .jump 1 [.v 0, .v 10, .v 2])) (
    .ret [.c (.bool false)])
def u20Ts : Nat → Tree
  | 0 => u20T0
  | 1 => u20T1
  | _ => .fail
def u37P : Nat → Pat
  | 1 => ⟨[⟨.pure, false⟩, ⟨.pure, false⟩, ⟨.pure, true⟩, ⟨.pure, true⟩], [(0, .v 0), (1, .v 1), (7, .v 2), (8, .v 3)], []⟩
  | _ => ⟨[], [], []⟩
def u37T0 : Tree :=
  ln' 0 <|
  .jump 1 [.v 0, .v 1, .v 2, k' 0]
def u37T1 : Tree :=
  .bind (.bin .lss 3 (.tmp 8) (.tmp 7)) [.v 3, .v 2] <|
  .ite (.v 4) (
    ir' 0 3 <|
    .bind (.elem 7 true 7 0) [.v 0, .v 3] <|
    .call (.val (.v 1)) [.v 1, .v 6] 1 <|
    .ite (.v 7) (
      .ret [.v 3]) (
      .bind (.bin .add 3 (.tmp 8) (K' 1)) [.v 3, k' 1] <|
      .jump 1 [.v 0, .v 1, .v 2, .v 8])) (
    .ret [.c (.int .i64 (-1))])
def u37Ts : Nat → Tree
  | 0 => u37T0
  | 1 => u37T1
  | _ => .fail
theorem allE2b : (rootT EE (fun k S => jumpS (Nat.max Tryz.f3.ntmps 2) (u3P k) k S) Tryz.f3 2,
  headsT EE (fun k => (u3P k).st (Nat.max Tryz.f3.ntmps 2)) (fun k S => jumpS (Nat.max Tryz.f3.ntmps 2) (u3P k) k S) 1 (bodyOf Tryz.f3) (endK EE Tryz.f3.results.toList),
  (Tryz.f3.name == "runtime.NumGoroutine" || !regsOk (bodyOf Tryz.f3)),
  rootT EE (fun k S => jumpS (Nat.max Tryz.f6.ntmps 2) (u6P k) k S) Tryz.f6 2,
  headsT EE (fun k => (u6P k).st (Nat.max Tryz.f6.ntmps 2)) (fun k S => jumpS (Nat.max Tryz.f6.ntmps 2) (u6P k) k S) 1 (bodyOf Tryz.f6) (endK EE Tryz.f6.results.toList),
  (Tryz.f6.name == "runtime.NumGoroutine" || !regsOk (bodyOf Tryz.f6)),
  rootT EE (fun k S => jumpS (Nat.max Tryz.f7.ntmps 2) (u7P k) k S) Tryz.f7 2,
  headsT EE (fun k => (u7P k).st (Nat.max Tryz.f7.ntmps 2)) (fun k S => jumpS (Nat.max Tryz.f7.ntmps 2) (u7P k) k S) 1 (bodyOf Tryz.f7) (endK EE Tryz.f7.results.toList),
  (Tryz.f7.name == "runtime.NumGoroutine" || !regsOk (bodyOf Tryz.f7)),
  rootT EE (fun k S => jumpS (Nat.max Tryz.f18.ntmps 2) (u18P k) k S) Tryz.f18 2,
  headsT EE (fun k => (u18P k).st (Nat.max Tryz.f18.ntmps 2)) (fun k S => jumpS (Nat.max Tryz.f18.ntmps 2) (u18P k) k S) 1 (bodyOf Tryz.f18) (endK EE Tryz.f18.results.toList),
  (Tryz.f18.name == "runtime.NumGoroutine" || !regsOk (bodyOf Tryz.f18)),
  rootT EE (fun k S => jumpS (Nat.max Tryz.f19.ntmps 2) (u19P k) k S) Tryz.f19 2,
  headsT EE (fun k => (u19P k).st (Nat.max Tryz.f19.ntmps 2)) (fun k S => jumpS (Nat.max Tryz.f19.ntmps 2) (u19P k) k S) 1 (bodyOf Tryz.f19) (endK EE Tryz.f19.results.toList),
  (Tryz.f19.name == "runtime.NumGoroutine" || !regsOk (bodyOf Tryz.f19)),
  rootT EE (fun k S => jumpS (Nat.max Tryz.f20.ntmps 2) (u20P k) k S) Tryz.f20 2,
  headsT EE (fun k => (u20P k).st (Nat.max Tryz.f20.ntmps 2)) (fun k S => jumpS (Nat.max Tryz.f20.ntmps 2) (u20P k) k S) 1 (bodyOf Tryz.f20) (endK EE Tryz.f20.results.toList),
  (Tryz.f20.name == "runtime.NumGoroutine" || !regsOk (bodyOf Tryz.f20)),
  rootT EE (fun k S => jumpS (Nat.max Tryz.f37.ntmps 2) (u37P k) k S) Tryz.f37 2,
  headsT EE (fun k => (u37P k).st (Nat.max Tryz.f37.ntmps 2)) (fun k S => jumpS (Nat.max Tryz.f37.ntmps 2) (u37P k) k S) 1 (bodyOf Tryz.f37) (endK EE Tryz.f37.results.toList),
  (Tryz.f37.name == "runtime.NumGoroutine" || !regsOk (bodyOf Tryz.f37))) =
  (u3T0, [], false, u6T0, [(1, u6T1)], false, u7T0, [(1, u7T1)], false, u18T0, [], false, u19T0, [], false, u20T0, [(1, u20T1)], false, u37T0, [(1, u37T1)], false) := by kernel_rfl
theorem u3 {ds : List D} {d : D} (hn : ds.length = 2) (h : Goes EE (Holds EE) u3Ts 0 ds d) : Holds EE 3 ds d :=
  holds_of he (envFunc (c := bodyOf Tryz.f3) Tryz.func3 rfl ((Prod.mk.inj (nx1 (nx1 allE2b))).1)) (c := bodyOf Tryz.f3) rfl hn ((Prod.mk.inj allE2b).1) (by rw [(Prod.mk.inj (nx1 allE2b)).1]; exact tabN) h
theorem u6 {ds : List D} {d : D} (hn : ds.length = 2) (h : Goes EE (Holds EE) u6Ts 0 ds d) : Holds EE 6 ds d :=
  holds_of he (envFunc (c := bodyOf Tryz.f6) Tryz.func6 rfl ((Prod.mk.inj (nx1 (nx4 allE2b))).1)) (c := bodyOf Tryz.f6) rfl hn ((Prod.mk.inj (nx1 (nx1 (nx1 allE2b)))).1) (by rw [(Prod.mk.inj (nx4 allE2b)).1]; exact tabC rfl <| tabN) h
theorem u7 {ds : List D} {d : D} (hn : ds.length = 2) (h : Goes EE (Holds EE) u7Ts 0 ds d) : Holds EE 7 ds d :=
  holds_of he (envFunc (c := bodyOf Tryz.f7) Tryz.func7 rfl ((Prod.mk.inj (nx4 (nx4 allE2b))).1)) (c := bodyOf Tryz.f7) rfl hn ((Prod.mk.inj (nx1 (nx1 (nx4 allE2b)))).1) (by rw [(Prod.mk.inj (nx1 (nx1 (nx1 (nx4 allE2b))))).1]; exact tabC rfl <| tabN) h
theorem u18 {ds : List D} {d : D} (hn : ds.length = 2) (h : Goes EE (Holds EE) u18Ts 0 ds d) : Holds EE 18 ds d :=
  holds_of he (envFunc (c := bodyOf Tryz.f18) Tryz.func18 rfl ((Prod.mk.inj (nx1 (nx1 (nx1 (nx4 (nx4 allE2b)))))).1)) (c := bodyOf Tryz.f18) rfl hn ((Prod.mk.inj (nx1 (nx4 (nx4 allE2b)))).1) (by rw [(Prod.mk.inj (nx1 (nx1 (nx4 (nx4 allE2b))))).1]; exact tabN) h
theorem u19 {ds : List D} {d : D} (hn : ds.length = 2) (h : Goes EE (Holds EE) u19Ts 0 ds d) : Holds EE 19 ds d :=
  holds_of he (envFunc (c := bodyOf Tryz.f19) Tryz.func19 rfl ((Prod.mk.inj (nx1 (nx1 (nx4 (nx4 (nx4 allE2b)))))).1)) (c := bodyOf Tryz.f19) rfl hn ((Prod.mk.inj (nx4 (nx4 (nx4 allE2b)))).1) (by rw [(Prod.mk.inj (nx1 (nx4 (nx4 (nx4 allE2b))))).1]; exact tabN) h
theorem u20 {ds : List D} {d : D} (hn : ds.length = 2) (h : Goes EE (Holds EE) u20Ts 0 ds d) : Holds EE 20 ds d :=
  holds_of he (envFunc (c := bodyOf Tryz.f20) Tryz.func20 rfl ((Prod.mk.inj (nx1 (nx16 allE2b))).1)) (c := bodyOf Tryz.f20) rfl hn ((Prod.mk.inj (nx1 (nx1 (nx1 (nx4 (nx4 (nx4 allE2b))))))).1) (by rw [(Prod.mk.inj (nx16 allE2b)).1]; exact tabC rfl <| tabN) h
theorem u37 {ds : List D} {d : D} (hn : ds.length = 2) (h : Goes EE (Holds EE) u37Ts 0 ds d) : Holds EE 37 ds d :=
  holds_of he (envFunc (c := bodyOf Tryz.f37) Tryz.func37 rfl ((nx4 (nx16 allE2b)))) (c := bodyOf Tryz.f37) rfl hn ((Prod.mk.inj (nx1 (nx1 (nx16 allE2b)))).1) (by rw [(Prod.mk.inj (nx1 (nx1 (nx1 (nx16 allE2b))))).1]; exact tabC rfl <| tabN) h
end Go.Proofs.YtbkinfgpcjjaaaaGreatDoor
