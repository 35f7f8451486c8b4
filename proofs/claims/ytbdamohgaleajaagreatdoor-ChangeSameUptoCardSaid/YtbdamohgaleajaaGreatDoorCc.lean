/- Trees of functions. Conditions: none. -/
import Derived.Test.YtbdamohgaleajaaGreatDoorCa
namespace Go.Proofs.YtbdamohgaleajaaGreatDoor
open Go Go.Am Go.Proofs
def u3P : Nat → Pat
 | _ => ⟨[], [], []⟩
def u3T0 : Tree :=
 .bind (.chk true 9) [.v 0] <|
 .bind (.chk true 9) [.v 1] <|
 .call (.fn 4) [.v 2] 1 <|
 .bind (.un .not 4) [.v 4] <|
 it' 5 (
  .call (.fn 5) [] 1 <|
  .ret [.v 6]) (
  .call (.fn 4) [.v 3] 1 <|
  .bind (.un .not 4) [.v 6] <|
  it' 7 (
   .call (.fn 5) [] 1 <|
   .ret [.v 8]) (
   .call (.fn 7) [.v 2] 0 <|
   .call (.fn 7) [.v 3] 0 <|
   .call (.fn 6) [.v 8, .v 9] 1 <|
   .call (.fn 8) [.v 2, .v 3] 1 <|
   .bind (.bin .eql 4 (.tmp 18) (.tmp 21)) [.v 10, .v 11] <|
   it' 12 (
    .call (.fn 7) [.v 2] 0 <|
    .call (.fn 6) [.v 2, .v 13] 1 <|
    it' 14 (
     .call (.fn 5) [] 1 <|
     .ret [.v 15]) (
     rb' false)) (
    rb' false)))
def u3Ts : Nat → Tree
 | 0 => u3T0
 | _ => .fail
def u6P : Nat → Pat
 | _ => ⟨[], [], []⟩
def u6T0 : Tree :=
 .bind (.chk true 9) [.v 0] <|
 .bind (.chk true 9) [.v 1] <|
 fl' 0 2 <|
 fl' 0 3 <|
 .call (.fn 18) [.v 4, .v 5] 1 <|
 it' 6 (
  .bind (.fld true 3 1) [.v 2] <|
  .bind (.fld true 3 1) [.v 3] <|
  .call (.fn 19) [.v 7, .v 8] 1 <|
  it' 9 (
   fl' 4 2 <|
   fl' 4 3 <|
   .call (.fn 20) [.v 10, .v 11, .fn (.func 21) [] []] 1 <|
   it' 12 (
    .bind (.fld true 3 5) [.v 2] <|
    .bind (.fld true 3 5) [.v 3] <|
    .call (.fn 22) [.v 13, .v 14] 1 <|
    it' 15 (
     fl' 8 2 <|
     fl' 8 3 <|
     .call (.fn 23) [.v 16, .v 17] 1 <|
     .ret [.v 18]) (
     rb' false)) (
    rb' false)) (
   rb' false)) (
  rb' false)
def u6Ts : Nat → Tree
 | 0 => u6T0
 | _ => .fail
def u7P : Nat → Pat
 | 1 => ⟨[⟨.fresh, true⟩, ⟨.pure, true⟩, ⟨.fresh, true⟩, ⟨.pure, true⟩, ⟨.pure, true⟩, ⟨.pure, true⟩, ⟨.pure, true⟩, ⟨.pure, true⟩, ⟨.pure, true⟩, ⟨.pure, true⟩, ⟨.pure, true⟩], [(1, .loc 0 0), (2, .loc 1 0), (3, .v 0), (4, .v 1)], [some (.cells [.v 2, .v 3, .v 4, .v 5, .v 6, .v 7, .v 8, .v 9, .v 10]), some (.cells [.c (.slice none 0 0), .c (.string ⟨#[]⟩), .c (.slice none 0 0), .c (.slice none 0 0), .c (.slice none 0 0), k' 0, .c (.slice none 0 0), .c (.slice none 0 0), .c (.slice none 0 0)])]⟩
 | 2 => ⟨[⟨.fresh, true⟩, ⟨.fresh, true⟩, ⟨.pure, true⟩, ⟨.fresh, true⟩, ⟨.pure, true⟩, ⟨.pure, true⟩, ⟨.pure, true⟩, ⟨.pure, true⟩, ⟨.pure, true⟩, ⟨.pure, true⟩, ⟨.pure, true⟩, ⟨.pure, true⟩], [(1, .loc 0 0), (2, .loc 1 0), (3, .v 0), (5, .v 1), (6, .v 2)], [some (.cells [.v 3, .v 4, .v 5, .v 6, .v 7, .v 8, .v 9, .v 10, .v 11]), some (.cells [.c (.slice none 0 0), .c (.string ⟨#[]⟩), .c (.slice none 0 0), .c (.slice none 0 0), .c (.slice none 0 0), k' 0, .c (.slice none 0 0), .c (.slice none 0 0), .c (.slice none 0 0)])]⟩
 | 3 => ⟨[⟨.fresh, true⟩, ⟨.pure, true⟩, ⟨.fresh, true⟩, ⟨.pure, true⟩, ⟨.fresh, true⟩, ⟨.fresh, true⟩, ⟨.pure, true⟩, ⟨.pure, true⟩, ⟨.pure, true⟩, ⟨.pure, true⟩, ⟨.pure, true⟩], [(1, .loc 0 0), (2, .loc 1 0), (7, .v 0), (8, .v 1)], [some (.cells [.v 2, .v 3, .v 4, .v 5, .v 6, .v 7, .v 8, .v 9, .v 10]), some (.cells [.c (.slice none 0 0), .c (.string ⟨#[]⟩), .c (.slice none 0 0), .c (.slice none 0 0), .c (.slice none 0 0), k' 0, .c (.slice none 0 0), .c (.slice none 0 0), .c (.slice none 0 0)])]⟩
 | 4 => ⟨[⟨.fresh, true⟩, ⟨.pure, true⟩, ⟨.fresh, true⟩, ⟨.pure, true⟩, ⟨.fresh, true⟩, ⟨.fresh, true⟩, ⟨.fresh, true⟩, ⟨.pure, true⟩, ⟨.fresh, true⟩, ⟨.fresh, true⟩, ⟨.pure, true⟩], [(1, .loc 0 0), (2, .loc 1 0), (10, .v 0), (11, .v 1)], [some (.cells [.v 2, .v 3, .v 4, .v 5, .v 6, .v 7, .v 8, .v 9, .v 10]), some (.cells [.c (.slice none 0 0), .c (.string ⟨#[]⟩), .c (.slice none 0 0), .c (.slice none 0 0), .c (.slice none 0 0), k' 0, .c (.slice none 0 0), .c (.slice none 0 0), .c (.slice none 0 0)])]⟩
 | _ => ⟨[], [], []⟩
def u7T0 : Tree :=
 .bind (.chk true 9) [.v 0] <|
 .bind (.lit 67 2) [] <|
 fl' 0 1 <|
 .bind (.app 67 2 24) [.v 2, .v 3] <|
 .bind (.chk true 9) [.v 1] <|
 fl' 0 5 <|
 fl' 1 5 <|
 fl' 2 5 <|
 fl' 3 5 <|
 fl' 4 5 <|
 fl' 5 5 <|
 fl' 6 5 <|
 fl' 7 5 <|
 fl' 8 5 <|
 .bind (.lit 74 2) [] <|
 .jump 1 [.v 15, k' 0, .v 4, .v 7, .v 8, .v 9, .v 10, .v 11, .v 12, .v 13, .v 14]
def u7T1 : Tree :=
 ln' 4 <|
 bt' .lss 20 24 1 11 <|
 it' 12 (
  ir' 4 1 <|
  el' 2 0 4 1 <|
  .bind (.lit 3 1) [] <|
  ir' 4 1 <|
  el' 2 1 4 1 <|
  .bind (.app 3 1 8) [.v 15, .v 17] <|
  .bind (.chk true 2) [.agg [.v 14, .v 18]] <|
  .bind (.lit 74 2) [.agg [.v 14, .v 18]] <|
  .bind (.app 74 2 40) [.v 0, .v 20] <|
  bk' .add 26 1 1 <|
  .jump 1 [.v 21, .v 22, .v 2, .v 3, .v 4, .v 5, .v 6, .v 7, .v 8, .v 9, .v 10]) (
  .bind (.lit 63 1) [] <|
  .jump 2 [.v 0, .v 13, k' 0, .v 2, .v 3, .v 4, .v 5, .v 6, .v 7, .v 8, .v 9, .v 10])
def u7T2 : Tree :=
 ln' 6 <|
 bt' .lss 49 53 2 12 <|
 it' 13 (
  .bind (.lit 9 1) [] <|
  ir' 6 2 <|
  el' 1 0 6 2 <|
  .bind (.app 9 1 16) [.v 14, .v 16] <|
  .bind (.chk false 1) [.v 17] <|
  .bind (.lit 63 1) [.v 17] <|
  .bind (.app 63 1 24) [.v 1, .v 19] <|
  bk' .add 55 1 2 <|
  .jump 2 [.v 0, .v 20, .v 21, .v 3, .v 4, .v 5, .v 6, .v 7, .v 8, .v 9, .v 10, .v 11]) (
  .bind (.lit 44 6) [] <|
  .jump 3 [.v 14, k' 0, .v 3, .v 4, .v 0, .v 1, .v 7, .v 8, .v 9, .v 10, .v 11])
def u7T3 : Tree :=
 ln' 6 <|
 bt' .lss 76 79 1 11 <|
 it' 12 (
  ir' 6 1 <|
  .bind (.elem 6 true 6 0) [.v 6, .v 1] <|
  .bind (.chk true 6) [.v 14] <|
  .bind (.lit 3 1) [] <|
  fl' 0 15 <|
  .bind (.app 3 1 8) [.v 16, .v 17] <|
  .bind (.lit 3 1) [] <|
  fl' 1 15 <|
  .bind (.app 3 1 8) [.v 19, .v 20] <|
  .bind (.lit 51 2) [] <|
  fl' 2 15 <|
  .bind (.app 51 2 16) [.v 22, .v 23] <|
  .bind (.lit 51 2) [] <|
  fl' 3 15 <|
  .bind (.app 51 2 16) [.v 25, .v 26] <|
  fl' 4 15 <|
  fl' 5 15 <|
  .bind (.chk true 6) [.agg [.v 18, .v 21, .v 24, .v 27, .v 28, .v 29]] <|
  .bind (.lit 44 6) [.agg [.v 18, .v 21, .v 24, .v 27, .v 28, .v 29]] <|
  .bind (.app 44 6 104) [.v 0, .v 31] <|
  bk' .add 81 1 1 <|
  .jump 3 [.v 32, .v 33, .v 2, .v 3, .v 4, .v 5, .v 6, .v 7, .v 8, .v 9, .v 10]) (
  .bind (.lit 84 3) [] <|
  .bind (.app 84 3 24) [.v 13, .v 8] <|
  .bind (.lit 3 1) [] <|
  .bind (.app 3 1 8) [.v 15, .v 9] <|
  .bind (.lit 57 8) [] <|
  .jump 4 [.v 17, k' 0, .v 2, .v 3, .v 4, .v 5, .v 0, .v 7, .v 14, .v 16, .v 10])
def u7T4 : Tree :=
 ln' 10 <|
 bt' .lss 130 133 1 11 <|
 it' 12 (
  ir' 10 1 <|
  .bind (.elem 8 true 8 0) [.v 10, .v 1] <|
  .call (.fn 24) [.v 14] 0 <|
  .bind (.chk true 8) [.v 15] <|
  .bind (.lit 57 8) [.v 15] <|
  .bind (.app 57 8 144) [.v 0, .v 17] <|
  bk' .add 135 1 1 <|
  .jump 4 [.v 18, .v 19, .v 2, .v 3, .v 4, .v 5, .v 6, .v 7, .v 8, .v 9, .v 10]) (
  .ret [.agg [.v 2, .v 3, .v 4, .v 5, .v 6, .v 7, .v 8, .v 9, .v 0]])
def u7Ts : Nat → Tree
 | 0 => u7T0
 | 1 => u7T1
 | 2 => u7T2
 | 3 => u7T3
 | 4 => u7T4
 | _ => .fail
def u8P : Nat → Pat
 | 1 => ⟨[⟨.pure, true⟩, ⟨.pure, false⟩, ⟨.pure, false⟩], [(2, .loc 0 0), (3, .loc 1 0), (5, .v 0)], [some (.whole (.v 1) 9), some (.whole (.v 2) 9)]⟩
 | 2 => ⟨[⟨.pure, true⟩, ⟨.pure, false⟩, ⟨.pure, false⟩], [(2, .loc 0 0), (3, .loc 1 0), (6, .v 0)], [some (.whole (.v 1) 9), some (.whole (.v 2) 9)]⟩
 | _ => ⟨[], [], []⟩
def u8T0 : Tree :=
 .bind (.chk true 9) [.v 0] <|
 .bind (.chk true 9) [.v 1] <|
 fl' 0 2 <|
 ln' 4 <|
 fl' 0 3 <|
 ln' 6 <|
 bt' .neq 10 14 5 7 <|
 it' 8 (
  rb' false) (
  fl' 8 2 <|
  ln' 9 <|
  fl' 8 3 <|
  ln' 11 <|
  bt' .neq 19 22 10 12 <|
  it' 13 (
   rb' false) (
   .jump 1 [k' 0, .v 2, .v 3]))
def u8T1 : Tree :=
 fl' 0 1 <|
 ln' 3 <|
 bt' .lss 25 29 0 4 <|
 it' 5 (
  fl' 0 1 <|
  ir' 6 0 <|
  .bind (.elem 2 true 2 0) [.v 6, .v 0] <|
  fl' 0 2 <|
  ir' 9 0 <|
  .bind (.elem 2 true 2 0) [.v 9, .v 0] <|
  .bind (.bin .neq 67 (.tmp 38) (.tmp 44)) [.v 8, .v 11] <|
  it' 12 (
   rb' false) (
   bk' .add 31 1 0 <|
   .jump 1 [.v 13, .v 1, .v 2])) (
  .jump 2 [k' 0, .v 1, .v 2])
def u8T2 : Tree :=
 fl' 8 1 <|
 ln' 3 <|
 bt' .lss 46 49 0 4 <|
 it' 5 (
  fl' 8 1 <|
  ir' 6 0 <|
  .bind (.elem 8 true 8 0) [.v 6, .v 0] <|
  fl' 8 2 <|
  ir' 9 0 <|
  .bind (.elem 8 true 8 0) [.v 9, .v 0] <|
  .call (.fn 25) [.v 8, .v 11] 1 <|
  .bind (.un .not 4) [.v 12] <|
  it' 13 (
   rb' false) (
   bk' .add 51 1 0 <|
   .jump 2 [.v 14, .v 1, .v 2])) (
  .bind (.fld true 3 1) [.v 1] <|
  .bind (.fld true 3 1) [.v 2] <|
  .call (.fn 26) [.v 6, .v 7] 1 <|
  it' 8 (
   fl' 4 1 <|
   fl' 4 2 <|
   .call (.fn 27) [.v 9, .v 10] 1 <|
   it' 11 (
    .bind (.fld true 3 5) [.v 1] <|
    .bind (.fld true 3 5) [.v 2] <|
    .call (.fn 28) [.v 12, .v 13] 1 <|
    .ret [.v 14]) (
    rb' false)) (
   rb' false))
def u8Ts : Nat → Tree
 | 0 => u8T0
 | 1 => u8T1
 | 2 => u8T2
 | _ => .fail
def u18P : Nat → Pat
 | 1 => ⟨[⟨.pure, false⟩, ⟨.pure, false⟩, ⟨.pure, true⟩, ⟨.pure, true⟩], [(0, .v 0), (1, .v 1), (12, .v 2), (13, .v 3)], []⟩
 | _ => ⟨[], [], []⟩
def u18T0 : Tree :=
 ln' 0 <|
 ln' 1 <|
 bt' .neq 7 9 2 3 <|
 it' 4 (
  rb' false) (
  ln' 0 <|
  .jump 1 [.v 0, .v 1, .v 5, k' 0])
def u18T1 : Tree :=
 bt' .lss 13 12 3 2 <|
 it' 4 (
  ir' 0 3 <|
  .bind (.elem 2 true 2 0) [.v 0, .v 3] <|
  ir' 1 3 <|
  .bind (.elem 2 true 2 0) [.v 1, .v 3] <|
  .bind (.bin .neq 67 (.tmp 19) (.tmp 23)) [.v 6, .v 8] <|
  it' 9 (
   rb' false) (
   bk' .add 13 1 3 <|
   .jump 1 [.v 0, .v 1, .v 2, .v 10])) (
  rb' true)
def u18Ts : Nat → Tree
 | 0 => u18T0
 | 1 => u18T1
 | _ => .fail
def u19P : Nat → Pat
 | _ => ⟨[], [], []⟩
def u19T0 : Tree :=
 .bind (.chk true 3) [.v 0] <|
 .bind (.chk true 3) [.v 1] <|
 fl' 0 2 <|
 fl' 0 3 <|
 .bind (.bin .eql 9 (.tmp 8) (.tmp 10)) [.v 4, .v 5] <|
 it' 6 (
  fl' 1 2 <|
  fl' 1 3 <|
  .call (.fn 56) [.v 7, .v 8, .fn (.func 52) [] []] 1 <|
  it' 9 (
   fl' 2 2 <|
   fl' 2 3 <|
   .call (.fn 57) [.v 10, .v 11, .fn (.func 54) [] []] 1 <|
   .ret [.v 12]) (
   rb' false)) (
  rb' false)
def u19Ts : Nat → Tree
 | 0 => u19T0
 | _ => .fail
def u20P : Nat → Pat
 | 1 => ⟨[⟨.pure, false⟩, ⟨.pure, false⟩, ⟨.pure, false⟩, ⟨.pure, true⟩, ⟨.pure, true⟩], [(1, .v 0), (2, .v 1), (15, .v 2), (16, .v 3), (17, .v 4)], []⟩
 | _ => ⟨[], [], []⟩
def u20T0 : Tree :=
 ln' 0 <|
 ln' 1 <|
 bt' .neq 11 13 3 4 <|
 it' 5 (
  rb' false) (
  ln' 0 <|
  .jump 1 [.v 1, .v 2, .v 0, .v 6, k' 0])
def u20T1 : Tree :=
 bt' .lss 17 16 4 3 <|
 it' 5 (
  ir' 2 4 <|
  .bind (.elem 6 true 6 0) [.v 2, .v 4] <|
  .bind (.chk true 6) [.v 7] <|
  ir' 0 4 <|
  .bind (.elem 6 true 6 0) [.v 0, .v 4] <|
  .bind (.chk true 6) [.v 10] <|
  .call (.val (.v 1)) [.v 1, .v 8, .v 11] 1 <|
  .bind (.un .not 4) [.v 12] <|
  it' 13 (
   rb' false) (
   bk' .add 17 1 4 <|
   .jump 1 [.v 0, .v 1, .v 2, .v 3, .v 14])) (
  rb' true)
def u20Ts : Nat → Tree
 | 0 => u20T0
 | 1 => u20T1
 | _ => .fail
def u21P : Nat → Pat
 | _ => ⟨[], [], []⟩
def u21T0 : Tree :=
 .bind (.chk true 6) [.v 0] <|
 .bind (.chk true 6) [.v 1] <|
 fl' 0 2 <|
 fl' 0 3 <|
 .call (.fn 53) [.v 4, .v 5] 1 <|
 it' 6 (
  fl' 1 2 <|
  fl' 1 3 <|
  .call (.fn 53) [.v 7, .v 8] 1 <|
  it' 9 (
   fl' 2 2 <|
   fl' 2 3 <|
   .call (.fn 58) [.v 10, .v 11] 1 <|
   it' 12 (
    fl' 3 2 <|
    fl' 3 3 <|
    .call (.fn 58) [.v 13, .v 14] 1 <|
    it' 15 (
     fl' 4 2 <|
     fl' 4 3 <|
     .bind (.bin .eql 4 (.tmp 33) (.tmp 35)) [.v 16, .v 17] <|
     it' 18 (
      fl' 5 2 <|
      fl' 5 3 <|
      .bind (.bin .eql 4 (.tmp 40) (.tmp 42)) [.v 19, .v 20] <|
      .ret [.v 21]) (
      rb' false)) (
     rb' false)) (
    rb' false)) (
   rb' false)) (
  rb' false)
def u21Ts : Nat → Tree
 | 0 => u21T0
 | _ => .fail
def u22P : Nat → Pat
 | _ => ⟨[], [], []⟩
def u22T0 : Tree :=
 .bind (.chk true 3) [.v 0] <|
 .bind (.chk true 3) [.v 1] <|
 fl' 0 2 <|
 fl' 0 3 <|
 bt' .eql 6 8 4 5 <|
 it' 6 (
  fl' 1 2 <|
  fl' 1 3 <|
  .call (.fn 59) [.v 7, .v 8] 1 <|
  it' 9 (
   fl' 2 2 <|
   fl' 2 3 <|
   .call (.fn 53) [.v 10, .v 11] 1 <|
   .ret [.v 12]) (
   rb' false)) (
  rb' false)
def u22Ts : Nat → Tree
 | 0 => u22T0
 | _ => .fail
def u23P : Nat → Pat
 | _ => ⟨[], [], []⟩
def u23T0 : Tree :=
 .call (.fn 60) [.v 0, .v 1, .fn (.func 61) [] []] 1 <|
 .ret [.v 2]
def u23Ts : Nat → Tree
 | 0 => u23T0
 | _ => .fail
def u24P : Nat → Pat
 | 1 => ⟨[⟨.fresh, true⟩, ⟨.pure, true⟩, ⟨.pure, true⟩, ⟨.fresh, true⟩, ⟨.pure, true⟩, ⟨.pure, true⟩, ⟨.pure, true⟩, ⟨.pure, true⟩, ⟨.pure, true⟩, ⟨.pure, true⟩], [(1, .loc 0 0), (2, .loc 1 0), (3, .v 0), (4, .v 1)], [some (.cells [.v 2, .v 3, .v 4, .v 5, .v 6, .v 7, .v 8, .v 9]), some (.cells [k' 0, .c (.slice none 0 0), k' 0, .c (.slice none 0 0), k' 0, .c (.slice none 0 0), .c (.slice none 0 0), .c (.slice none 0 0)])]⟩
 | _ => ⟨[], [], []⟩
def u24T0 : Tree :=
 .bind (.chk true 8) [.v 0] <|
 .bind (.lit 3 1) [] <|
 fl' 1 1 <|
 .bind (.app 3 1 8) [.v 2, .v 3] <|
 .bind (.chk true 8) [.v 1] <|
 fl' 0 5 <|
 fl' 1 5 <|
 fl' 2 5 <|
 fl' 3 5 <|
 fl' 4 5 <|
 fl' 5 5 <|
 fl' 6 5 <|
 fl' 7 5 <|
 .bind (.lit 31 1) [] <|
 .jump 1 [.v 14, k' 0, .v 6, .v 4, .v 8, .v 9, .v 10, .v 11, .v 12, .v 13]
def u24T1 : Tree :=
 ln' 5 <|
 bt' .lss 11 14 1 10 <|
 it' 11 (
  .bind (.lit 3 1) [] <|
  ir' 5 1 <|
  el' 1 0 5 1 <|
  .bind (.app 3 1 8) [.v 12, .v 14] <|
  .bind (.chk false 1) [.v 15] <|
  .bind (.lit 31 1) [.v 15] <|
  .bind (.app 31 1 24) [.v 0, .v 17] <|
  bk' .add 16 1 1 <|
  .jump 1 [.v 18, .v 19, .v 2, .v 3, .v 4, .v 5, .v 6, .v 7, .v 8, .v 9]) (
  .bind (.lit 86 2) [] <|
  .bind (.app 86 2 32) [.v 12, .v 7] <|
  .bind (.lit 59 2) [] <|
  .bind (.app 59 2 16) [.v 14, .v 8] <|
  .bind (.lit 116 2) [] <|
  .bind (.app 116 2 16) [.v 16, .v 9] <|
  .ret [.agg [.v 2, .v 3, .v 4, .v 0, .v 6, .v 13, .v 15, .v 17]])
def u24Ts : Nat → Tree
 | 0 => u24T0
 | 1 => u24T1
 | _ => .fail
def u25P : Nat → Pat
 | 1 => ⟨[⟨.pure, true⟩, ⟨.pure, false⟩, ⟨.pure, false⟩], [(2, .loc 0 0), (3, .loc 1 0), (5, .v 0)], [some (.whole (.v 1) 8), some (.whole (.v 2) 8)]⟩
 | 2 => ⟨[⟨.pure, true⟩, ⟨.pure, false⟩, ⟨.pure, false⟩], [(2, .loc 0 0), (3, .loc 1 0), (6, .v 0)], [some (.whole (.v 1) 8), some (.whole (.v 2) 8)]⟩
 | 3 => ⟨[⟨.pure, true⟩, ⟨.pure, false⟩, ⟨.pure, false⟩], [(2, .loc 0 0), (3, .loc 1 0), (7, .v 0)], [some (.whole (.v 1) 8), some (.whole (.v 2) 8)]⟩
 | 4 => ⟨[⟨.pure, true⟩, ⟨.pure, false⟩, ⟨.pure, false⟩], [(2, .loc 0 0), (3, .loc 1 0), (8, .v 0)], [some (.whole (.v 1) 8), some (.whole (.v 2) 8)]⟩
 | _ => ⟨[], [], []⟩
def u25T0 : Tree :=
 .bind (.chk true 8) [.v 0] <|
 .bind (.chk true 8) [.v 1] <|
 fl' 0 2 <|
 fl' 0 3 <|
 bt' .neq 10 12 4 5 <|
 it' 6 (
  rb' false) (
  fl' 2 2 <|
  fl' 2 3 <|
  bt' .neq 16 18 7 8 <|
  it' 9 (
   rb' false) (
   fl' 4 2 <|
   fl' 4 3 <|
   bt' .neq 23 25 10 11 <|
   it' 12 (
    rb' false) (
    fl' 1 2 <|
    fl' 1 3 <|
    .call (.fn 62) [.v 13, .v 14] 1 <|
    .bind (.un .not 4) [.v 15] <|
    it' 16 (
     rb' false) (
     fl' 3 2 <|
     ln' 17 <|
     fl' 3 3 <|
     ln' 19 <|
     bt' .neq 39 42 18 20 <|
     it' 21 (
      rb' false) (
      fl' 5 2 <|
      ln' 22 <|
      fl' 5 3 <|
      ln' 24 <|
      bt' .neq 48 51 23 25 <|
      it' 26 (
       rb' false) (
       fl' 6 2 <|
       ln' 27 <|
       fl' 6 3 <|
       ln' 29 <|
       bt' .neq 57 60 28 30 <|
       it' 31 (
        rb' false) (
        fl' 7 2 <|
        ln' 32 <|
        fl' 7 3 <|
        ln' 34 <|
        bt' .neq 66 69 33 35 <|
        it' 36 (
         rb' false) (
         .jump 1 [k' 0, .v 2, .v 3]))))))))
def u25T1 : Tree :=
 fl' 3 1 <|
 ln' 3 <|
 bt' .lss 72 75 0 4 <|
 it' 5 (
  fl' 3 1 <|
  ir' 6 0 <|
  el' 1 0 6 0 <|
  fl' 3 2 <|
  ir' 9 0 <|
  el' 1 0 9 0 <|
  .call (.fn 62) [.v 8, .v 11] 1 <|
  .bind (.un .not 4) [.v 12] <|
  it' 13 (
   rb' false) (
   bk' .add 77 1 0 <|
   .jump 1 [.v 14, .v 1, .v 2])) (
  .jump 2 [k' 0, .v 1, .v 2])
def u25T2 : Tree :=
 fl' 5 1 <|
 ln' 3 <|
 bt' .lss 91 94 0 4 <|
 it' 5 (
  fl' 5 1 <|
  ir' 6 0 <|
  .bind (.elem 2 true 2 0) [.v 6, .v 0] <|
  fl' 5 2 <|
  ir' 9 0 <|
  .bind (.elem 2 true 2 0) [.v 9, .v 0] <|
  .bind (.bin .neq 86 (.tmp 102) (.tmp 107)) [.v 8, .v 11] <|
  it' 12 (
   rb' false) (
   bk' .add 96 1 0 <|
   .jump 2 [.v 13, .v 1, .v 2])) (
  .jump 3 [k' 0, .v 1, .v 2])
def u25T3 : Tree :=
 fl' 6 1 <|
 ln' 3 <|
 bt' .lss 109 112 0 4 <|
 it' 5 (
  fl' 6 1 <|
  ir' 6 0 <|
  .bind (.elem 2 true 2 0) [.v 6, .v 0] <|
  fl' 6 2 <|
  ir' 9 0 <|
  .bind (.elem 2 true 2 0) [.v 9, .v 0] <|
  .bind (.bin .neq 59 (.tmp 120) (.tmp 125)) [.v 8, .v 11] <|
  it' 12 (
   rb' false) (
   bk' .add 114 1 0 <|
   .jump 3 [.v 13, .v 1, .v 2])) (
  .jump 4 [k' 0, .v 1, .v 2])
def u25T4 : Tree :=
 fl' 7 1 <|
 ln' 3 <|
 bt' .lss 127 130 0 4 <|
 it' 5 (
  fl' 7 1 <|
  ir' 6 0 <|
  .bind (.elem 2 true 2 0) [.v 6, .v 0] <|
  fl' 7 2 <|
  ir' 9 0 <|
  .bind (.elem 2 true 2 0) [.v 9, .v 0] <|
  .bind (.bin .neq 116 (.tmp 138) (.tmp 143)) [.v 8, .v 11] <|
  it' 12 (
   rb' false) (
   bk' .add 132 1 0 <|
   .jump 4 [.v 13, .v 1, .v 2])) (
  rb' true)
def u25Ts : Nat → Tree
 | 0 => u25T0
 | 1 => u25T1
 | 2 => u25T2
 | 3 => u25T3
 | 4 => u25T4
 | _ => .fail
def u26P : Nat → Pat
 | 1 => ⟨[⟨.pure, true⟩, ⟨.pure, false⟩, ⟨.pure, false⟩], [(2, .loc 0 0), (3, .loc 1 0), (5, .v 0)], [some (.whole (.v 1) 3), some (.whole (.v 2) 3)]⟩
 | 2 => ⟨[⟨.pure, true⟩, ⟨.pure, false⟩, ⟨.pure, false⟩], [(2, .loc 0 0), (3, .loc 1 0), (6, .v 0)], [some (.whole (.v 1) 3), some (.whole (.v 2) 3)]⟩
 | 3 => ⟨[⟨.pure, true⟩, ⟨.pure, true⟩, ⟨.pure, false⟩, ⟨.pure, false⟩], [(2, .loc 0 0), (3, .loc 1 0), (6, .v 0), (7, .v 1)], [some (.whole (.v 2) 3), some (.whole (.v 3) 3)]⟩
 | _ => ⟨[], [], []⟩
def u26T0 : Tree :=
 .bind (.chk true 3) [.v 0] <|
 .bind (.chk true 3) [.v 1] <|
 fl' 0 2 <|
 fl' 0 3 <|
 .bind (.bin .neq 9 (.tmp 9) (.tmp 11)) [.v 4, .v 5] <|
 it' 6 (
  rb' false) (
  fl' 1 2 <|
  ln' 7 <|
  fl' 1 3 <|
  ln' 9 <|
  bt' .neq 16 19 8 10 <|
  it' 11 (
   rb' false) (
   fl' 2 2 <|
   ln' 12 <|
   fl' 2 3 <|
   ln' 14 <|
   bt' .neq 25 28 13 15 <|
   it' 16 (
    rb' false) (
    .jump 1 [k' 0, .v 2, .v 3])))
def u26T1 : Tree :=
 fl' 1 1 <|
 ln' 3 <|
 bt' .lss 31 34 0 4 <|
 it' 5 (
  fl' 1 1 <|
  ir' 6 0 <|
  el' 2 0 6 0 <|
  fl' 1 2 <|
  ir' 9 0 <|
  el' 2 0 9 0 <|
  .bind (.bin .neq 9 (.tmp 43) (.tmp 49)) [.v 8, .v 11] <|
  it' 12 (
   rb' false) (
   fl' 1 1 <|
   ir' 13 0 <|
   el' 2 1 13 0 <|
   fl' 1 2 <|
   ir' 16 0 <|
   el' 2 1 16 0 <|
   .call (.fn 62) [.v 15, .v 18] 1 <|
   .bind (.un .not 4) [.v 19] <|
   it' 20 (
    rb' false) (
    bk' .add 36 1 0 <|
    .jump 1 [.v 21, .v 1, .v 2]))) (
  .jump 2 [k' 0, .v 1, .v 2])
def u26T2 : Tree :=
 fl' 2 1 <|
 ln' 3 <|
 bt' .lss 67 70 0 4 <|
 it' 5 (
  fl' 2 1 <|
  ir' 6 0 <|
  el' 1 0 6 0 <|
  ln' 8 <|
  fl' 2 2 <|
  ir' 10 0 <|
  el' 1 0 10 0 <|
  ln' 12 <|
  bt' .neq 79 85 9 13 <|
  it' 14 (
   rb' false) (
   .jump 3 [.v 0, k' 0, .v 1, .v 2])) (
  rb' true)
def u26T3 : Tree :=
 fl' 2 2 <|
 ir' 4 0 <|
 el' 1 0 4 0 <|
 ln' 6 <|
 bt' .lss 87 93 1 7 <|
 it' 8 (
  fl' 2 2 <|
  ir' 9 0 <|
  el' 1 0 9 0 <|
  ir' 11 1 <|
  el' 1 0 11 1 <|
  fl' 2 3 <|
  ir' 14 0 <|
  el' 1 0 14 0 <|
  ir' 16 1 <|
  el' 1 0 16 1 <|
  .bind (.bin .neq 9 (.tmp 104) (.tmp 112)) [.v 13, .v 18] <|
  it' 19 (
   rb' false) (
   bk' .add 95 1 1 <|
   .jump 3 [.v 0, .v 20, .v 2, .v 3])) (
  bk' .add 72 1 0 <|
  .jump 2 [.v 9, .v 2, .v 3])
def u26Ts : Nat → Tree
 | 0 => u26T0
 | 1 => u26T1
 | 2 => u26T2
 | 3 => u26T3
 | _ => .fail
def u27P : Nat → Pat
 | 1 => ⟨[⟨.pure, false⟩, ⟨.pure, false⟩, ⟨.pure, true⟩], [(0, .v 0), (1, .v 1), (5, .v 2)], []⟩
 | _ => ⟨[], [], []⟩
def u27T0 : Tree :=
 ln' 0 <|
 ln' 1 <|
 bt' .neq 9 11 2 3 <|
 it' 4 (
  rb' false) (
  .jump 1 [.v 0, .v 1, k' 0])
def u27T1 : Tree :=
 ln' 0 <|
 bt' .lss 13 15 2 3 <|
 it' 4 (
  ir' 0 2 <|
  .bind (.elem 6 true 6 0) [.v 0, .v 2] <|
  ir' 1 2 <|
  .bind (.elem 6 true 6 0) [.v 1, .v 2] <|
  .bind (.chk true 6) [.v 6] <|
  .bind (.chk true 6) [.v 8] <|
  ir' 0 2 <|
  ir' 1 2 <|
  fl' 4 9 <|
  fl' 4 10 <|
  .bind (.bin .neq 4 (.tmp 28) (.tmp 30)) [.v 13, .v 14] <|
  it' 15 (
   rb' false) (
   fl' 5 9 <|
   fl' 5 10 <|
   .bind (.bin .neq 4 (.tmp 34) (.tmp 36)) [.v 16, .v 17] <|
   it' 18 (
    rb' false) (
    fl' 0 9 <|
    fl' 0 10 <|
    .call (.fn 62) [.v 19, .v 20] 1 <|
    .bind (.un .not 4) [.v 21] <|
    it' 22 (
     rb' false) (
     fl' 1 9 <|
     fl' 1 10 <|
     .call (.fn 62) [.v 23, .v 24] 1 <|
     .bind (.un .not 4) [.v 25] <|
     it' 26 (
      rb' false) (
      fl' 2 9 <|
      fl' 2 10 <|
      .call (.fn 63) [.v 27, .v 28] 1 <|
      .bind (.un .not 4) [.v 29] <|
      it' 30 (
       rb' false) (
       fl' 3 9 <|
       fl' 3 10 <|
       .call (.fn 63) [.v 31, .v 32] 1 <|
       .bind (.un .not 4) [.v 33] <|
       it' 34 (
        rb' false) (
        bk' .add 17 1 2 <|
        .jump 1 [.v 0, .v 1, .v 35]))))))) (
  rb' true)
def u27Ts : Nat → Tree
 | 0 => u27T0
 | 1 => u27T1
 | _ => .fail
def u28P : Nat → Pat
 | 1 => ⟨[⟨.pure, true⟩, ⟨.pure, false⟩, ⟨.pure, false⟩], [(2, .loc 0 0), (3, .loc 1 0), (5, .v 0)], [some (.whole (.v 1) 3), some (.whole (.v 2) 3)]⟩
 | _ => ⟨[], [], []⟩
def u28T0 : Tree :=
 .bind (.chk true 3) [.v 0] <|
 .bind (.chk true 3) [.v 1] <|
 fl' 0 2 <|
 fl' 0 3 <|
 bt' .neq 7 9 4 5 <|
 it' 6 (
  rb' false) (
  fl' 1 2 <|
  ln' 7 <|
  fl' 1 3 <|
  ln' 9 <|
  bt' .neq 14 17 8 10 <|
  it' 11 (
   rb' false) (
   fl' 2 2 <|
   fl' 2 3 <|
   .call (.fn 62) [.v 12, .v 13] 1 <|
   .bind (.un .not 4) [.v 14] <|
   it' 15 (
    rb' false) (
    .jump 1 [k' 0, .v 2, .v 3])))
def u28T1 : Tree :=
 fl' 1 1 <|
 ln' 3 <|
 bt' .lss 28 31 0 4 <|
 it' 5 (
  fl' 1 1 <|
  ir' 6 0 <|
  .bind (.elem 3 true 3 0) [.v 6, .v 0] <|
  fl' 1 2 <|
  ir' 9 0 <|
  .bind (.elem 3 true 3 0) [.v 9, .v 0] <|
  .bind (.bin .neq 84 (.tmp 39) (.tmp 44)) [.v 8, .v 11] <|
  it' 12 (
   rb' false) (
   bk' .add 33 1 0 <|
   .jump 1 [.v 13, .v 1, .v 2])) (
  rb' true)
def u28Ts : Nat → Tree
 | 0 => u28T0
 | 1 => u28T1
 | _ => .fail
def u52P : Nat → Pat
 | _ => ⟨[], [], []⟩
def u52T0 : Tree :=
 .bind (.chk true 2) [.v 0] <|
 .bind (.chk true 2) [.v 1] <|
 fl' 0 2 <|
 fl' 0 3 <|
 .bind (.bin .eql 9 (.tmp 6) (.tmp 8)) [.v 4, .v 5] <|
 it' 6 (
  fl' 1 2 <|
  fl' 1 3 <|
  .call (.fn 53) [.v 7, .v 8] 1 <|
  .ret [.v 9]) (
  rb' false)
def u52Ts : Nat → Tree
 | 0 => u52T0
 | _ => .fail
def u53P : Nat → Pat
 | 1 => ⟨[⟨.pure, false⟩, ⟨.pure, false⟩, ⟨.pure, true⟩, ⟨.pure, true⟩], [(0, .v 0), (1, .v 1), (12, .v 2), (13, .v 3)], []⟩
 | _ => ⟨[], [], []⟩
def u53T0 : Tree :=
 ln' 0 <|
 ln' 1 <|
 bt' .neq 7 9 2 3 <|
 it' 4 (
  rb' false) (
  ln' 0 <|
  .jump 1 [.v 0, .v 1, .v 5, k' 0])
def u53T1 : Tree :=
 bt' .lss 13 12 3 2 <|
 it' 4 (
  ir' 0 3 <|
  el' 1 0 0 3 <|
  ir' 1 3 <|
  el' 1 0 1 3 <|
  bt' .neq 19 23 6 8 <|
  it' 9 (
   rb' false) (
   bk' .add 13 1 3 <|
   .jump 1 [.v 0, .v 1, .v 2, .v 10])) (
  rb' true)
def u53Ts : Nat → Tree
 | 0 => u53T0
 | 1 => u53T1
 | _ => .fail
def u54P : Nat → Pat
 | _ => ⟨[], [], []⟩
def u54T0 : Tree :=
 .call (.fn 55) [.v 0, .v 1] 1 <|
 .ret [.v 2]
def u54Ts : Nat → Tree
 | 0 => u54T0
 | _ => .fail
def u55P : Nat → Pat
 | 1 => ⟨[⟨.pure, false⟩, ⟨.pure, false⟩, ⟨.pure, true⟩, ⟨.pure, true⟩], [(0, .v 0), (1, .v 1), (12, .v 2), (13, .v 3)], []⟩
 | _ => ⟨[], [], []⟩
def u55T0 : Tree :=
 ln' 0 <|
 ln' 1 <|
 bt' .neq 7 9 2 3 <|
 it' 4 (
  rb' false) (
  ln' 0 <|
  .jump 1 [.v 0, .v 1, .v 5, k' 0])
def u55T1 : Tree :=
 bt' .lss 13 12 3 2 <|
 it' 4 (
  ir' 0 3 <|
  el' 1 0 0 3 <|
  ir' 1 3 <|
  el' 1 0 1 3 <|
  .bind (.bin .neq 9 (.tmp 19) (.tmp 23)) [.v 6, .v 8] <|
  it' 9 (
   rb' false) (
   bk' .add 13 1 3 <|
   .jump 1 [.v 0, .v 1, .v 2, .v 10])) (
  rb' true)
def u55Ts : Nat → Tree
 | 0 => u55T0
 | 1 => u55T1
 | _ => .fail
def u56P : Nat → Pat
 | 1 => ⟨[⟨.pure, false⟩, ⟨.pure, false⟩, ⟨.pure, false⟩, ⟨.pure, true⟩, ⟨.pure, true⟩], [(1, .v 0), (2, .v 1), (15, .v 2), (16, .v 3), (17, .v 4)], []⟩
 | _ => ⟨[], [], []⟩
def u56T0 : Tree :=
 ln' 0 <|
 ln' 1 <|
 bt' .neq 11 13 3 4 <|
 it' 5 (
  rb' false) (
  ln' 0 <|
  .jump 1 [.v 1, .v 2, .v 0, .v 6, k' 0])
def u56T1 : Tree :=
 bt' .lss 17 16 4 3 <|
 it' 5 (
  ir' 2 4 <|
  .bind (.elem 2 true 2 0) [.v 2, .v 4] <|
  .bind (.chk true 2) [.v 7] <|
  ir' 0 4 <|
  .bind (.elem 2 true 2 0) [.v 0, .v 4] <|
  .bind (.chk true 2) [.v 10] <|
  .call (.val (.v 1)) [.v 1, .v 8, .v 11] 1 <|
  .bind (.un .not 4) [.v 12] <|
  it' 13 (
   rb' false) (
   bk' .add 17 1 4 <|
   .jump 1 [.v 0, .v 1, .v 2, .v 3, .v 14])) (
  rb' true)
def u56Ts : Nat → Tree
 | 0 => u56T0
 | 1 => u56T1
 | _ => .fail
def u57P : Nat → Pat
 | 1 => ⟨[⟨.pure, false⟩, ⟨.pure, false⟩, ⟨.pure, false⟩, ⟨.pure, true⟩, ⟨.pure, true⟩], [(1, .v 0), (2, .v 1), (15, .v 2), (16, .v 3), (17, .v 4)], []⟩
 | _ => ⟨[], [], []⟩
def u57T0 : Tree :=
 ln' 0 <|
 ln' 1 <|
 bt' .neq 11 13 3 4 <|
 it' 5 (
  rb' false) (
  ln' 0 <|
  .jump 1 [.v 1, .v 2, .v 0, .v 6, k' 0])
def u57T1 : Tree :=
 bt' .lss 17 16 4 3 <|
 it' 5 (
  ir' 2 4 <|
  el' 1 0 2 4 <|
  ir' 0 4 <|
  el' 1 0 0 4 <|
  .call (.val (.v 1)) [.v 1, .v 7, .v 9] 1 <|
  .bind (.un .not 4) [.v 10] <|
  it' 11 (
   rb' false) (
   bk' .add 17 1 4 <|
   .jump 1 [.v 0, .v 1, .v 2, .v 3, .v 12])) (
  rb' true)
def u57Ts : Nat → Tree
 | 0 => u57T0
 | 1 => u57T1
 | _ => .fail
def u58P : Nat → Pat
 | 1 => ⟨[⟨.pure, false⟩, ⟨.pure, false⟩, ⟨.pure, true⟩, ⟨.pure, true⟩], [(0, .v 0), (1, .v 1), (12, .v 2), (13, .v 3)], []⟩
 | _ => ⟨[], [], []⟩
def u58T0 : Tree :=
 ln' 0 <|
 ln' 1 <|
 bt' .neq 7 9 2 3 <|
 it' 4 (
  rb' false) (
  ln' 0 <|
  .jump 1 [.v 0, .v 1, .v 5, k' 0])
def u58T1 : Tree :=
 bt' .lss 13 12 3 2 <|
 it' 4 (
  ir' 0 3 <|
  .bind (.elem 2 true 2 0) [.v 0, .v 3] <|
  ir' 1 3 <|
  .bind (.elem 2 true 2 0) [.v 1, .v 3] <|
  .bind (.bin .neq 51 (.tmp 19) (.tmp 23)) [.v 6, .v 8] <|
  it' 9 (
   rb' false) (
   bk' .add 13 1 3 <|
   .jump 1 [.v 0, .v 1, .v 2, .v 10])) (
  rb' true)
def u58Ts : Nat → Tree
 | 0 => u58T0
 | 1 => u58T1
 | _ => .fail
def u59P : Nat → Pat
 | 1 => ⟨[⟨.pure, false⟩, ⟨.pure, false⟩, ⟨.pure, true⟩, ⟨.pure, true⟩], [(0, .v 0), (1, .v 1), (12, .v 2), (13, .v 3)], []⟩
 | _ => ⟨[], [], []⟩
def u59T0 : Tree :=
 ln' 0 <|
 ln' 1 <|
 bt' .neq 7 9 2 3 <|
 it' 4 (
  rb' false) (
  ln' 0 <|
  .jump 1 [.v 0, .v 1, .v 5, k' 0])
def u59T1 : Tree :=
 bt' .lss 13 12 3 2 <|
 it' 4 (
  ir' 0 3 <|
  .bind (.elem 3 true 3 0) [.v 0, .v 3] <|
  ir' 1 3 <|
  .bind (.elem 3 true 3 0) [.v 1, .v 3] <|
  .bind (.bin .neq 84 (.tmp 19) (.tmp 23)) [.v 6, .v 8] <|
  it' 9 (
   rb' false) (
   bk' .add 13 1 3 <|
   .jump 1 [.v 0, .v 1, .v 2, .v 10])) (
  rb' true)
def u59Ts : Nat → Tree
 | 0 => u59T0
 | 1 => u59T1
 | _ => .fail
def u60P : Nat → Pat
 | 1 => ⟨[⟨.pure, false⟩, ⟨.pure, false⟩, ⟨.pure, false⟩, ⟨.pure, true⟩, ⟨.pure, true⟩], [(1, .v 0), (2, .v 1), (15, .v 2), (16, .v 3), (17, .v 4)], []⟩
 | _ => ⟨[], [], []⟩
def u60T0 : Tree :=
 ln' 0 <|
 ln' 1 <|
 bt' .neq 11 13 3 4 <|
 it' 5 (
  rb' false) (
  ln' 0 <|
  .jump 1 [.v 1, .v 2, .v 0, .v 6, k' 0])
def u60T1 : Tree :=
 bt' .lss 17 16 4 3 <|
 it' 5 (
  ir' 2 4 <|
  .bind (.elem 8 true 8 0) [.v 2, .v 4] <|
  .bind (.chk true 8) [.v 7] <|
  ir' 0 4 <|
  .bind (.elem 8 true 8 0) [.v 0, .v 4] <|
  .bind (.chk true 8) [.v 10] <|
  .call (.val (.v 1)) [.v 1, .v 8, .v 11] 1 <|
  .bind (.un .not 4) [.v 12] <|
  it' 13 (
   rb' false) (
   bk' .add 17 1 4 <|
   .jump 1 [.v 0, .v 1, .v 2, .v 3, .v 14])) (
  rb' true)
def u60Ts : Nat → Tree
 | 0 => u60T0
 | 1 => u60T1
 | _ => .fail
def u61P : Nat → Pat
 | _ => ⟨[], [], []⟩
def u61T0 : Tree :=
 .bind (.chk true 8) [.v 0] <|
 .bind (.chk true 8) [.v 1] <|
 fl' 0 2 <|
 fl' 0 3 <|
 bt' .neq 6 8 4 5 <|
 it' 6 (
  rb' false) (
  fl' 2 2 <|
  fl' 2 3 <|
  bt' .neq 12 14 7 8 <|
  it' 9 (
   rb' false) (
   fl' 4 2 <|
   fl' 4 3 <|
   bt' .neq 19 21 10 11 <|
   it' 12 (
    rb' false) (
    fl' 1 2 <|
    fl' 1 3 <|
    .call (.fn 53) [.v 13, .v 14] 1 <|
    .bind (.un .not 4) [.v 15] <|
    it' 16 (
     rb' false) (
     fl' 3 2 <|
     fl' 3 3 <|
     .call (.fn 100) [.v 17, .v 18, .fn (.func 53) [] []] 1 <|
     it' 19 (
      fl' 5 2 <|
      fl' 5 3 <|
      .call (.fn 101) [.v 20, .v 21] 1 <|
      it' 22 (
       fl' 6 2 <|
       fl' 6 3 <|
       .call (.fn 102) [.v 23, .v 24] 1 <|
       it' 25 (
        fl' 7 2 <|
        fl' 7 3 <|
        .call (.fn 103) [.v 26, .v 27] 1 <|
        .ret [.v 28]) (
        rb' false)) (
       rb' false)) (
      rb' false)))))
def u61Ts : Nat → Tree
 | 0 => u61T0
 | _ => .fail
def u63P : Nat → Pat
 | 1 => ⟨[⟨.pure, false⟩, ⟨.pure, false⟩, ⟨.pure, true⟩], [(0, .v 0), (1, .v 1), (5, .v 2)], []⟩
 | _ => ⟨[], [], []⟩
def u63T0 : Tree :=
 ln' 0 <|
 ln' 1 <|
 bt' .neq 7 9 2 3 <|
 it' 4 (
  rb' false) (
  .jump 1 [.v 0, .v 1, k' 0])
def u63T1 : Tree :=
 ln' 0 <|
 bt' .lss 11 13 2 3 <|
 it' 4 (
  ir' 0 2 <|
  .bind (.elem 2 true 2 0) [.v 0, .v 2] <|
  ir' 1 2 <|
  .bind (.elem 2 true 2 0) [.v 1, .v 2] <|
  .bind (.bin .neq 51 (.tmp 20) (.tmp 24)) [.v 6, .v 8] <|
  it' 9 (
   rb' false) (
   bk' .add 15 1 2 <|
   .jump 1 [.v 0, .v 1, .v 10])) (
  rb' true)
def u63Ts : Nat → Tree
 | 0 => u63T0
 | 1 => u63T1
 | _ => .fail
def u100P : Nat → Pat
 | 1 => ⟨[⟨.pure, false⟩, ⟨.pure, false⟩, ⟨.pure, false⟩, ⟨.pure, true⟩, ⟨.pure, true⟩], [(1, .v 0), (2, .v 1), (15, .v 2), (16, .v 3), (17, .v 4)], []⟩
 | _ => ⟨[], [], []⟩
def u100T0 : Tree :=
 ln' 0 <|
 ln' 1 <|
 bt' .neq 11 13 3 4 <|
 it' 5 (
  rb' false) (
  ln' 0 <|
  .jump 1 [.v 1, .v 2, .v 0, .v 6, k' 0])
def u100T1 : Tree :=
 bt' .lss 17 16 4 3 <|
 it' 5 (
  ir' 2 4 <|
  el' 1 0 2 4 <|
  ir' 0 4 <|
  el' 1 0 0 4 <|
  .call (.val (.v 1)) [.v 1, .v 7, .v 9] 1 <|
  .bind (.un .not 4) [.v 10] <|
  it' 11 (
   rb' false) (
   bk' .add 17 1 4 <|
   .jump 1 [.v 0, .v 1, .v 2, .v 3, .v 12])) (
  rb' true)
def u100Ts : Nat → Tree
 | 0 => u100T0
 | 1 => u100T1
 | _ => .fail
def u101P : Nat → Pat
 | 1 => ⟨[⟨.pure, false⟩, ⟨.pure, false⟩, ⟨.pure, true⟩, ⟨.pure, true⟩], [(0, .v 0), (1, .v 1), (12, .v 2), (13, .v 3)], []⟩
 | _ => ⟨[], [], []⟩
def u101T0 : Tree :=
 ln' 0 <|
 ln' 1 <|
 bt' .neq 7 9 2 3 <|
 it' 4 (
  rb' false) (
  ln' 0 <|
  .jump 1 [.v 0, .v 1, .v 5, k' 0])
def u101T1 : Tree :=
 bt' .lss 13 12 3 2 <|
 it' 4 (
  ir' 0 3 <|
  .bind (.elem 2 true 2 0) [.v 0, .v 3] <|
  ir' 1 3 <|
  .bind (.elem 2 true 2 0) [.v 1, .v 3] <|
  .bind (.bin .neq 86 (.tmp 19) (.tmp 23)) [.v 6, .v 8] <|
  it' 9 (
   rb' false) (
   bk' .add 13 1 3 <|
   .jump 1 [.v 0, .v 1, .v 2, .v 10])) (
  rb' true)
def u101Ts : Nat → Tree
 | 0 => u101T0
 | 1 => u101T1
 | _ => .fail
def u102P : Nat → Pat
 | 1 => ⟨[⟨.pure, false⟩, ⟨.pure, false⟩, ⟨.pure, true⟩, ⟨.pure, true⟩], [(0, .v 0), (1, .v 1), (12, .v 2), (13, .v 3)], []⟩
 | _ => ⟨[], [], []⟩
def u102T0 : Tree :=
 ln' 0 <|
 ln' 1 <|
 bt' .neq 7 9 2 3 <|
 it' 4 (
  rb' false) (
  ln' 0 <|
  .jump 1 [.v 0, .v 1, .v 5, k' 0])
def u102T1 : Tree :=
 bt' .lss 13 12 3 2 <|
 it' 4 (
  ir' 0 3 <|
  .bind (.elem 2 true 2 0) [.v 0, .v 3] <|
  ir' 1 3 <|
  .bind (.elem 2 true 2 0) [.v 1, .v 3] <|
  .bind (.bin .neq 59 (.tmp 19) (.tmp 23)) [.v 6, .v 8] <|
  it' 9 (
   rb' false) (
   bk' .add 13 1 3 <|
   .jump 1 [.v 0, .v 1, .v 2, .v 10])) (
  rb' true)
def u102Ts : Nat → Tree
 | 0 => u102T0
 | 1 => u102T1
 | _ => .fail
def u103P : Nat → Pat
 | 1 => ⟨[⟨.pure, false⟩, ⟨.pure, false⟩, ⟨.pure, true⟩, ⟨.pure, true⟩], [(0, .v 0), (1, .v 1), (12, .v 2), (13, .v 3)], []⟩
 | _ => ⟨[], [], []⟩
def u103T0 : Tree :=
 ln' 0 <|
 ln' 1 <|
 bt' .neq 7 9 2 3 <|
 it' 4 (
  rb' false) (
  ln' 0 <|
  .jump 1 [.v 0, .v 1, .v 5, k' 0])
def u103T1 : Tree :=
 bt' .lss 13 12 3 2 <|
 it' 4 (
  ir' 0 3 <|
  .bind (.elem 2 true 2 0) [.v 0, .v 3] <|
  ir' 1 3 <|
  .bind (.elem 2 true 2 0) [.v 1, .v 3] <|
  .bind (.bin .neq 116 (.tmp 19) (.tmp 23)) [.v 6, .v 8] <|
  it' 9 (
   rb' false) (
   bk' .add 13 1 3 <|
   .jump 1 [.v 0, .v 1, .v 2, .v 10])) (
  rb' true)
def u103Ts : Nat → Tree
 | 0 => u103T0
 | 1 => u103T1
 | _ => .fail
theorem all2 : (rt Tryz.f3 2 u3P,
 hd Tryz.f3 2 u3P,
 nr Tryz.f3,
 rt Tryz.f6 2 u6P,
 hd Tryz.f6 2 u6P,
 nr Tryz.f6,
 rt Tryz.f7 1 u7P,
 hd Tryz.f7 1 u7P,
 nr Tryz.f7,
 rt Tryz.f8 2 u8P,
 hd Tryz.f8 2 u8P,
 nr Tryz.f8,
 rt Tryz.f18 2 u18P,
 hd Tryz.f18 2 u18P,
 nr Tryz.f18,
 rt Tryz.f19 2 u19P,
 hd Tryz.f19 2 u19P,
 nr Tryz.f19,
 rt Tryz.f20 3 u20P,
 hd Tryz.f20 3 u20P,
 nr Tryz.f20,
 rt Tryz.f21 2 u21P,
 hd Tryz.f21 2 u21P,
 nr Tryz.f21,
 rt Tryz.f22 2 u22P,
 hd Tryz.f22 2 u22P,
 nr Tryz.f22,
 rt Tryz.f23 2 u23P,
 hd Tryz.f23 2 u23P,
 nr Tryz.f23,
 rt Tryz.f24 1 u24P,
 hd Tryz.f24 1 u24P,
 nr Tryz.f24,
 rt Tryz.f25 2 u25P,
 hd Tryz.f25 2 u25P,
 nr Tryz.f25,
 rt Tryz.f26 2 u26P,
 hd Tryz.f26 2 u26P,
 nr Tryz.f26,
 rt Tryz.f27 2 u27P,
 hd Tryz.f27 2 u27P,
 nr Tryz.f27,
 rt Tryz.f28 2 u28P,
 hd Tryz.f28 2 u28P,
 nr Tryz.f28,
 rt Tryz.f52 2 u52P,
 hd Tryz.f52 2 u52P,
 nr Tryz.f52,
 rt Tryz.f53 2 u53P,
 hd Tryz.f53 2 u53P,
 nr Tryz.f53,
 rt Tryz.f54 2 u54P,
 hd Tryz.f54 2 u54P,
 nr Tryz.f54,
 rt Tryz.f55 2 u55P,
 hd Tryz.f55 2 u55P,
 nr Tryz.f55,
 rt Tryz.f56 3 u56P,
 hd Tryz.f56 3 u56P,
 nr Tryz.f56,
 rt Tryz.f57 3 u57P,
 hd Tryz.f57 3 u57P,
 nr Tryz.f57,
 rt Tryz.f58 2 u58P,
 hd Tryz.f58 2 u58P,
 nr Tryz.f58,
 rt Tryz.f59 2 u59P,
 hd Tryz.f59 2 u59P,
 nr Tryz.f59,
 rt Tryz.f60 3 u60P,
 hd Tryz.f60 3 u60P,
 nr Tryz.f60,
 rt Tryz.f61 2 u61P,
 hd Tryz.f61 2 u61P,
 nr Tryz.f61,
 rt Tryz.f63 2 u63P,
 hd Tryz.f63 2 u63P,
 nr Tryz.f63,
 rt Tryz.f100 3 u100P,
 hd Tryz.f100 3 u100P,
 nr Tryz.f100,
 rt Tryz.f101 2 u101P,
 hd Tryz.f101 2 u101P,
 nr Tryz.f101,
 rt Tryz.f102 2 u102P,
 hd Tryz.f102 2 u102P,
 nr Tryz.f102,
 rt Tryz.f103 2 u103P,
 hd Tryz.f103 2 u103P,
 nr Tryz.f103) =
 (u3T0, [], false, u6T0, [], false, u7T0, [(1, u7T1), (2, u7T2), (3, u7T3), (4, u7T4)], false, u8T0, [(1, u8T1), (2, u8T2)], false, u18T0, [(1, u18T1)], false, u19T0, [], false, u20T0, [(1, u20T1)], false, u21T0, [], false, u22T0, [], false, u23T0, [], false, u24T0, [(1, u24T1)], false, u25T0, [(1, u25T1), (2, u25T2), (3, u25T3), (4, u25T4)], false, u26T0, [(1, u26T1), (2, u26T2), (3, u26T3)], false, u27T0, [(1, u27T1)], false, u28T0, [(1, u28T1)], false, u52T0, [], false, u53T0, [(1, u53T1)], false, u54T0, [], false, u55T0, [(1, u55T1)], false, u56T0, [(1, u56T1)], false, u57T0, [(1, u57T1)], false, u58T0, [(1, u58T1)], false, u59T0, [(1, u59T1)], false, u60T0, [(1, u60T1)], false, u61T0, [], false, u63T0, [(1, u63T1)], false, u100T0, [(1, u100T1)], false, u101T0, [(1, u101T1)], false, u102T0, [(1, u102T1)], false, u103T0, [(1, u103T1)], false) := by kernel_rfl
theorem u3 {ds : List D} {d : D} (hn : ds.length = 2) (h : Goes EE (Holds EE) u3Ts 0 ds d) : Holds EE 3 ds d :=
 hu Tryz.func3 rfl ((Prod.mk.inj all2).1) ((Prod.mk.inj (nx1 all2)).1) ((Prod.mk.inj (nx1 (nx1 all2))).1) (tabN) hn h
theorem u6 {ds : List D} {d : D} (hn : ds.length = 2) (h : Goes EE (Holds EE) u6Ts 0 ds d) : Holds EE 6 ds d :=
 hu Tryz.func6 rfl ((Prod.mk.inj (nx1 (nx1 (nx1 all2)))).1) ((Prod.mk.inj (nx4 all2)).1) ((Prod.mk.inj (nx1 (nx4 all2))).1) (tabN) hn h
theorem u7 {ds : List D} {d : D} (hn : ds.length = 1) (h : Goes EE (Holds EE) u7Ts 0 ds d) : Holds EE 7 ds d :=
 hu Tryz.func7 rfl ((Prod.mk.inj (nx1 (nx1 (nx4 all2)))).1) ((Prod.mk.inj (nx1 (nx1 (nx1 (nx4 all2))))).1) ((Prod.mk.inj (nx4 (nx4 all2))).1) (tabC rfl <| tabC rfl <| tabC rfl <| tabC rfl <| tabN) hn h
theorem u8 {ds : List D} {d : D} (hn : ds.length = 2) (h : Goes EE (Holds EE) u8Ts 0 ds d) : Holds EE 8 ds d :=
 hu Tryz.func8 rfl ((Prod.mk.inj (nx1 (nx4 (nx4 all2)))).1) ((Prod.mk.inj (nx1 (nx1 (nx4 (nx4 all2))))).1) ((Prod.mk.inj (nx1 (nx1 (nx1 (nx4 (nx4 all2)))))).1) (tabC rfl <| tabC rfl <| tabN) hn h
theorem u18 {ds : List D} {d : D} (hn : ds.length = 2) (h : Goes EE (Holds EE) u18Ts 0 ds d) : Holds EE 18 ds d :=
 hu Tryz.func18 rfl ((Prod.mk.inj (nx4 (nx4 (nx4 all2)))).1) ((Prod.mk.inj (nx1 (nx4 (nx4 (nx4 all2))))).1) ((Prod.mk.inj (nx1 (nx1 (nx4 (nx4 (nx4 all2)))))).1) (tabC rfl <| tabN) hn h
theorem u19 {ds : List D} {d : D} (hn : ds.length = 2) (h : Goes EE (Holds EE) u19Ts 0 ds d) : Holds EE 19 ds d :=
 hu Tryz.func19 rfl ((Prod.mk.inj (nx1 (nx1 (nx1 (nx4 (nx4 (nx4 all2))))))).1) ((Prod.mk.inj (nx16 all2)).1) ((Prod.mk.inj (nx1 (nx16 all2))).1) (tabN) hn h
theorem u20 {ds : List D} {d : D} (hn : ds.length = 3) (h : Goes EE (Holds EE) u20Ts 0 ds d) : Holds EE 20 ds d :=
 hu Tryz.func20 rfl ((Prod.mk.inj (nx1 (nx1 (nx16 all2)))).1) ((Prod.mk.inj (nx1 (nx1 (nx1 (nx16 all2))))).1) ((Prod.mk.inj (nx4 (nx16 all2))).1) (tabC rfl <| tabN) hn h
theorem u21 {ds : List D} {d : D} (hn : ds.length = 2) (h : Goes EE (Holds EE) u21Ts 0 ds d) : Holds EE 21 ds d :=
 hu Tryz.func21 rfl ((Prod.mk.inj (nx1 (nx4 (nx16 all2)))).1) ((Prod.mk.inj (nx1 (nx1 (nx4 (nx16 all2))))).1) ((Prod.mk.inj (nx1 (nx1 (nx1 (nx4 (nx16 all2)))))).1) (tabN) hn h
theorem u22 {ds : List D} {d : D} (hn : ds.length = 2) (h : Goes EE (Holds EE) u22Ts 0 ds d) : Holds EE 22 ds d :=
 hu Tryz.func22 rfl ((Prod.mk.inj (nx4 (nx4 (nx16 all2)))).1) ((Prod.mk.inj (nx1 (nx4 (nx4 (nx16 all2))))).1) ((Prod.mk.inj (nx1 (nx1 (nx4 (nx4 (nx16 all2)))))).1) (tabN) hn h
theorem u23 {ds : List D} {d : D} (hn : ds.length = 2) (h : Goes EE (Holds EE) u23Ts 0 ds d) : Holds EE 23 ds d :=
 hu Tryz.func23 rfl ((Prod.mk.inj (nx1 (nx1 (nx1 (nx4 (nx4 (nx16 all2))))))).1) ((Prod.mk.inj (nx4 (nx4 (nx4 (nx16 all2))))).1) ((Prod.mk.inj (nx1 (nx4 (nx4 (nx4 (nx16 all2)))))).1) (tabN) hn h
theorem u24 {ds : List D} {d : D} (hn : ds.length = 1) (h : Goes EE (Holds EE) u24Ts 0 ds d) : Holds EE 24 ds d :=
 hu Tryz.func24 rfl ((Prod.mk.inj (nx1 (nx1 (nx4 (nx4 (nx4 (nx16 all2))))))).1) ((Prod.mk.inj (nx1 (nx1 (nx1 (nx4 (nx4 (nx4 (nx16 all2)))))))).1) ((Prod.mk.inj (nx16 (nx16 all2))).1) (tabC rfl <| tabN) hn h
theorem u25 {ds : List D} {d : D} (hn : ds.length = 2) (h : Goes EE (Holds EE) u25Ts 0 ds d) : Holds EE 25 ds d :=
 hu Tryz.func25 rfl ((Prod.mk.inj (nx1 (nx16 (nx16 all2)))).1) ((Prod.mk.inj (nx1 (nx1 (nx16 (nx16 all2))))).1) ((Prod.mk.inj (nx1 (nx1 (nx1 (nx16 (nx16 all2)))))).1) (tabC rfl <| tabC rfl <| tabC rfl <| tabC rfl <| tabN) hn h
theorem u26 {ds : List D} {d : D} (hn : ds.length = 2) (h : Goes EE (Holds EE) u26Ts 0 ds d) : Holds EE 26 ds d :=
 hu Tryz.func26 rfl ((Prod.mk.inj (nx4 (nx16 (nx16 all2)))).1) ((Prod.mk.inj (nx1 (nx4 (nx16 (nx16 all2))))).1) ((Prod.mk.inj (nx1 (nx1 (nx4 (nx16 (nx16 all2)))))).1) (tabC rfl <| tabC rfl <| tabC rfl <| tabN) hn h
theorem u27 {ds : List D} {d : D} (hn : ds.length = 2) (h : Goes EE (Holds EE) u27Ts 0 ds d) : Holds EE 27 ds d :=
 hu Tryz.func27 rfl ((Prod.mk.inj (nx1 (nx1 (nx1 (nx4 (nx16 (nx16 all2))))))).1) ((Prod.mk.inj (nx4 (nx4 (nx16 (nx16 all2))))).1) ((Prod.mk.inj (nx1 (nx4 (nx4 (nx16 (nx16 all2)))))).1) (tabC rfl <| tabN) hn h
theorem u28 {ds : List D} {d : D} (hn : ds.length = 2) (h : Goes EE (Holds EE) u28Ts 0 ds d) : Holds EE 28 ds d :=
 hu Tryz.func28 rfl ((Prod.mk.inj (nx1 (nx1 (nx4 (nx4 (nx16 (nx16 all2))))))).1) ((Prod.mk.inj (nx1 (nx1 (nx1 (nx4 (nx4 (nx16 (nx16 all2)))))))).1) ((Prod.mk.inj (nx4 (nx4 (nx4 (nx16 (nx16 all2)))))).1) (tabC rfl <| tabN) hn h
theorem u52 {ds : List D} {d : D} (hn : ds.length = 2) (h : Goes EE (Holds EE) u52Ts 0 ds d) : Holds EE 52 ds d :=
 hu Tryz.func52 rfl ((Prod.mk.inj (nx1 (nx4 (nx4 (nx4 (nx16 (nx16 all2))))))).1) ((Prod.mk.inj (nx1 (nx1 (nx4 (nx4 (nx4 (nx16 (nx16 all2)))))))).1) ((Prod.mk.inj (nx1 (nx1 (nx1 (nx4 (nx4 (nx4 (nx16 (nx16 all2))))))))).1) (tabN) hn h
theorem u53 {ds : List D} {d : D} (hn : ds.length = 2) (h : Goes EE (Holds EE) u53Ts 0 ds d) : Holds EE 53 ds d :=
 hu Tryz.func53 rfl ((Prod.mk.inj (nx16 (nx16 (nx16 all2)))).1) ((Prod.mk.inj (nx1 (nx16 (nx16 (nx16 all2))))).1) ((Prod.mk.inj (nx1 (nx1 (nx16 (nx16 (nx16 all2)))))).1) (tabC rfl <| tabN) hn h
theorem u54 {ds : List D} {d : D} (hn : ds.length = 2) (h : Goes EE (Holds EE) u54Ts 0 ds d) : Holds EE 54 ds d :=
 hu Tryz.func54 rfl ((Prod.mk.inj (nx1 (nx1 (nx1 (nx16 (nx16 (nx16 all2))))))).1) ((Prod.mk.inj (nx4 (nx16 (nx16 (nx16 all2))))).1) ((Prod.mk.inj (nx1 (nx4 (nx16 (nx16 (nx16 all2)))))).1) (tabN) hn h
theorem u55 {ds : List D} {d : D} (hn : ds.length = 2) (h : Goes EE (Holds EE) u55Ts 0 ds d) : Holds EE 55 ds d :=
 hu Tryz.func55 rfl ((Prod.mk.inj (nx1 (nx1 (nx4 (nx16 (nx16 (nx16 all2))))))).1) ((Prod.mk.inj (nx1 (nx1 (nx1 (nx4 (nx16 (nx16 (nx16 all2)))))))).1) ((Prod.mk.inj (nx4 (nx4 (nx16 (nx16 (nx16 all2)))))).1) (tabC rfl <| tabN) hn h
theorem u56 {ds : List D} {d : D} (hn : ds.length = 3) (h : Goes EE (Holds EE) u56Ts 0 ds d) : Holds EE 56 ds d :=
 hu Tryz.func56 rfl ((Prod.mk.inj (nx1 (nx4 (nx4 (nx16 (nx16 (nx16 all2))))))).1) ((Prod.mk.inj (nx1 (nx1 (nx4 (nx4 (nx16 (nx16 (nx16 all2)))))))).1) ((Prod.mk.inj (nx1 (nx1 (nx1 (nx4 (nx4 (nx16 (nx16 (nx16 all2))))))))).1) (tabC rfl <| tabN) hn h
theorem u57 {ds : List D} {d : D} (hn : ds.length = 3) (h : Goes EE (Holds EE) u57Ts 0 ds d) : Holds EE 57 ds d :=
 hu Tryz.func57 rfl ((Prod.mk.inj (nx4 (nx4 (nx4 (nx16 (nx16 (nx16 all2))))))).1) ((Prod.mk.inj (nx1 (nx4 (nx4 (nx4 (nx16 (nx16 (nx16 all2)))))))).1) ((Prod.mk.inj (nx1 (nx1 (nx4 (nx4 (nx4 (nx16 (nx16 (nx16 all2))))))))).1) (tabC rfl <| tabN) hn h
theorem u58 {ds : List D} {d : D} (hn : ds.length = 2) (h : Goes EE (Holds EE) u58Ts 0 ds d) : Holds EE 58 ds d :=
 hu Tryz.func58 rfl ((Prod.mk.inj (nx1 (nx1 (nx1 (nx4 (nx4 (nx4 (nx16 (nx16 (nx16 all2)))))))))).1) ((Prod.mk.inj (nx64 all2)).1) ((Prod.mk.inj (nx1 (nx64 all2))).1) (tabC rfl <| tabN) hn h
theorem u59 {ds : List D} {d : D} (hn : ds.length = 2) (h : Goes EE (Holds EE) u59Ts 0 ds d) : Holds EE 59 ds d :=
 hu Tryz.func59 rfl ((Prod.mk.inj (nx1 (nx1 (nx64 all2)))).1) ((Prod.mk.inj (nx1 (nx1 (nx1 (nx64 all2))))).1) ((Prod.mk.inj (nx4 (nx64 all2))).1) (tabC rfl <| tabN) hn h
theorem u60 {ds : List D} {d : D} (hn : ds.length = 3) (h : Goes EE (Holds EE) u60Ts 0 ds d) : Holds EE 60 ds d :=
 hu Tryz.func60 rfl ((Prod.mk.inj (nx1 (nx4 (nx64 all2)))).1) ((Prod.mk.inj (nx1 (nx1 (nx4 (nx64 all2))))).1) ((Prod.mk.inj (nx1 (nx1 (nx1 (nx4 (nx64 all2)))))).1) (tabC rfl <| tabN) hn h
theorem u61 {ds : List D} {d : D} (hn : ds.length = 2) (h : Goes EE (Holds EE) u61Ts 0 ds d) : Holds EE 61 ds d :=
 hu Tryz.func61 rfl ((Prod.mk.inj (nx4 (nx4 (nx64 all2)))).1) ((Prod.mk.inj (nx1 (nx4 (nx4 (nx64 all2))))).1) ((Prod.mk.inj (nx1 (nx1 (nx4 (nx4 (nx64 all2)))))).1) (tabN) hn h
theorem u63 {ds : List D} {d : D} (hn : ds.length = 2) (h : Goes EE (Holds EE) u63Ts 0 ds d) : Holds EE 63 ds d :=
 hu Tryz.func63 rfl ((Prod.mk.inj (nx1 (nx1 (nx1 (nx4 (nx4 (nx64 all2))))))).1) ((Prod.mk.inj (nx4 (nx4 (nx4 (nx64 all2))))).1) ((Prod.mk.inj (nx1 (nx4 (nx4 (nx4 (nx64 all2)))))).1) (tabC rfl <| tabN) hn h
theorem u100 {ds : List D} {d : D} (hn : ds.length = 3) (h : Goes EE (Holds EE) u100Ts 0 ds d) : Holds EE 100 ds d :=
 hu Tryz.func100 rfl ((Prod.mk.inj (nx1 (nx1 (nx4 (nx4 (nx4 (nx64 all2))))))).1) ((Prod.mk.inj (nx1 (nx1 (nx1 (nx4 (nx4 (nx4 (nx64 all2)))))))).1) ((Prod.mk.inj (nx16 (nx64 all2))).1) (tabC rfl <| tabN) hn h
theorem u101 {ds : List D} {d : D} (hn : ds.length = 2) (h : Goes EE (Holds EE) u101Ts 0 ds d) : Holds EE 101 ds d :=
 hu Tryz.func101 rfl ((Prod.mk.inj (nx1 (nx16 (nx64 all2)))).1) ((Prod.mk.inj (nx1 (nx1 (nx16 (nx64 all2))))).1) ((Prod.mk.inj (nx1 (nx1 (nx1 (nx16 (nx64 all2)))))).1) (tabC rfl <| tabN) hn h
theorem u102 {ds : List D} {d : D} (hn : ds.length = 2) (h : Goes EE (Holds EE) u102Ts 0 ds d) : Holds EE 102 ds d :=
 hu Tryz.func102 rfl ((Prod.mk.inj (nx4 (nx16 (nx64 all2)))).1) ((Prod.mk.inj (nx1 (nx4 (nx16 (nx64 all2))))).1) ((Prod.mk.inj (nx1 (nx1 (nx4 (nx16 (nx64 all2)))))).1) (tabC rfl <| tabN) hn h
theorem u103 {ds : List D} {d : D} (hn : ds.length = 2) (h : Goes EE (Holds EE) u103Ts 0 ds d) : Holds EE 103 ds d :=
 hu Tryz.func103 rfl ((Prod.mk.inj (nx1 (nx1 (nx1 (nx4 (nx16 (nx64 all2))))))).1) ((Prod.mk.inj (nx4 (nx4 (nx16 (nx64 all2))))).1) ((nx1 (nx4 (nx4 (nx16 (nx64 all2)))))) (tabC rfl <| tabN) hn h
end Go.Proofs.YtbdamohgaleajaaGreatDoor
