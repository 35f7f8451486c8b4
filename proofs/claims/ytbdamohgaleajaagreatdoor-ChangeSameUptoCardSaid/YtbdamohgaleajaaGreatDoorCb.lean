/- Trees of functions. Conditions: none. -/
import Derived.Test.YtbdamohgaleajaaGreatDoorCa
namespace Go.Proofs.YtbdamohgaleajaaGreatDoor
open Go Go.Am Go.Proofs
def u4P : Nat → Pat
 | 1 => ⟨[⟨.pure, true⟩, ⟨.pure, false⟩], [(1, .loc 0 0), (3, .v 0)], [some (.whole (.v 1) 9)]⟩
 | _ => ⟨[], [], []⟩
def u4T0 : Tree :=
 .bind (.chk true 9) [.v 0] <|
 fl' 0 1 <|
 ln' 2 <|
 bk' .gtr 7 8 3 <|
 it' 4 (
  rb' false) (
  fl' 2 1 <|
  ln' 5 <|
  bk' .gtr 13 10 6 <|
  it' 7 (
   rb' false) (
   fl' 4 1 <|
   ln' 8 <|
   bk' .gtr 19 2 9 <|
   it' 10 (
    rb' false) (
    fl' 5 1 <|
    bk' .gtr 25 3 11 <|
    it' 12 (
     rb' false) (
     fl' 6 1 <|
     ln' 13 <|
     bk' .gtr 32 6 14 <|
     it' 15 (
      rb' false) (
      fl' 7 1 <|
      ln' 16 <|
      bk' .gtr 39 3 17 <|
      it' 18 (
       rb' false) (
       fl' 8 1 <|
       .call (.fn 9) [.v 19] 1 <|
       .bind (.un .not 4) [.v 20] <|
       it' 21 (
        rb' false) (
        .jump 1 [k' 0, .v 1])))))))
def u4T1 : Tree :=
 fl' 4 1 <|
 ln' 2 <|
 bt' .lss 48 51 0 3 <|
 it' 4 (
  fl' 4 1 <|
  ir' 5 0 <|
  el' 6 0 5 0 <|
  ln' 7 <|
  bk' .gtr 61 8 8 <|
  it' 9 (
   rb' false) (
   bk' .add 53 1 0 <|
   .jump 1 [.v 10, .v 1])) (
  .call (.fn 10) [.v 1] 1 <|
  .bind (.bin .eql 45 (.tmp 64) (K' 0)) [.v 5, k' 0] <|
  .ret [.v 6])
def u4Ts : Nat → Tree
 | 0 => u4T0
 | 1 => u4T1
 | _ => .fail
def u9P : Nat → Pat
 | 1 => ⟨[⟨.pure, false⟩, ⟨.pure, true⟩], [(0, .v 0), (3, .v 1)], []⟩
 | 2 => ⟨[⟨.pure, false⟩, ⟨.pure, true⟩, ⟨.pure, true⟩, ⟨.pure, true⟩, ⟨.pure, true⟩], [(0, .v 0), (3, .v 1), (4, .v 2), (22, .v 0), (23, .v 1), (26, .v 3), (27, .v 4), (28, .c (.bool false))], []⟩
 | _ => ⟨[], [], []⟩
def u9T0 : Tree :=
 ln' 0 <|
 bk' .gtr 6 5 1 <|
 it' 2 (
  rb' false) (
  .jump 1 [.v 0, k' 0])
def u9T1 : Tree :=
 ln' 0 <|
 bt' .lss 8 10 1 2 <|
 it' 3 (
  ir' 0 1 <|
  el' 8 1 0 1 <|
  ln' 5 <|
  bk' .gtr 19 3 6 <|
  it' 7 (
   rb' false) (
   ir' 0 1 <|
   el' 8 3 0 1 <|
   ln' 9 <|
   bk' .gtr 27 1 10 <|
   it' 11 (
    rb' false) (
    .jump 2 [.v 0, .v 1, k' 0, .v 9, .v 10]))) (
  rb' true)
def u9T2 : Tree :=
 ir' 0 1 <|
 el' 8 3 0 1 <|
 ln' 6 <|
 bt' .lss 30 36 2 7 <|
 it' 8 (
  ir' 0 1 <|
  el' 8 3 0 1 <|
  ir' 10 2 <|
  el' 1 0 10 2 <|
  ln' 12 <|
  bk' .gtr 48 3 13 <|
  it' 14 (
   rb' false) (
   bk' .add 38 1 2 <|
   .jump 2 [.v 0, .v 1, .v 15, .v 3, .v 4])) (
  bk' .add 12 1 1 <|
  .jump 1 [.v 0, .v 9])
def u9Ts : Nat → Tree
 | 0 => u9T0
 | 1 => u9T1
 | 2 => u9T2
 | _ => .fail
def u10P : Nat → Pat
 | _ => ⟨[], [], []⟩
def u10T0 : Tree :=
 .bind (.chk true 9) [.v 0] <|
 .bind (.fld true 1 0) [.v 1] <|
 .call (.fn 29) [.v 2] 1 <|
 .bind (.bin .neq 45 (.tmp 7) (K' 0)) [.v 3, k' 0] <|
 it' 4 (
  .ret [.v 3]) (
  .bind (.fld true 1 0) [.v 1] <|
  .bind (.fld true 3 1) [.v 1] <|
  .call (.fn 30) [.v 5, .v 6] 1 <|
  .bind (.bin .neq 45 (.tmp 15) (K' 0)) [.v 7, k' 0] <|
  it' 8 (
   .ret [.v 7]) (
   .call (.fn 31) [.v 1] 1 <|
   .bind (.bin .neq 45 (.tmp 20) (K' 0)) [.v 9, k' 0] <|
   it' 10 (
    .ret [.v 9]) (
    .bind (.fld true 3 5) [.v 1] <|
    .call (.fn 32) [.v 11] 1 <|
    .bind (.bin .neq 45 (.tmp 26) (K' 0)) [.v 12, k' 0] <|
    it' 13 (
     .ret [.v 12]) (
     .bind (.fld true 1 0) [.v 1] <|
     fl' 8 1 <|
     .call (.fn 33) [.v 14, .v 15] 1 <|
     .bind (.bin .neq 45 (.tmp 34) (K' 0)) [.v 16, k' 0] <|
     it' 17 (
      .ret [.v 16]) (
      fl' 8 1 <|
      .call (.fn 34) [.v 18] 1 <|
      .bind (.bin .neq 45 (.tmp 40) (K' 0)) [.v 19, k' 0] <|
      it' 20 (
       .ret [.v 19]) (
       fl' 8 1 <|
       .call (.fn 35) [.v 21] 1 <|
       .ret [.v 22]))))))
def u10Ts : Nat → Tree
 | 0 => u10T0
 | _ => .fail
def u29P : Nat → Pat
 | 1 => ⟨[⟨.pure, true⟩, ⟨.pure, true⟩, ⟨.pure, false⟩], [(1, .loc 0 0), (11, .v 0), (12, .v 1)], [some (.whole (.v 2) 1)]⟩
 | 2 => ⟨[⟨.pure, true⟩, ⟨.pure, true⟩, ⟨.pure, true⟩, ⟨.pure, false⟩], [(1, .loc 0 0), (3, .v 0), (4, .v 1), (11, .v 2), (12, .v 0)], [some (.whole (.v 3) 1)]⟩
 | _ => ⟨[], [], []⟩
def u29T0 : Tree :=
 .bind (.chk true 1) [.v 0] <|
 fl' 0 1 <|
 ln' 2 <|
 bk' .gtr 7 60 3 <|
 it' 4 (
  rk' 11) (
  fl' 0 1 <|
  ln' 5 <|
  .jump 1 [.v 6, k' 0, .v 1])
def u29T1 : Tree :=
 bt' .lss 12 11 1 0 <|
 it' 3 (
  fl' 0 2 <|
  ir' 4 1 <|
  el' 2 0 4 1 <|
  .call (.fn 64) [.v 6] 1 <|
  .bind (.un .not 4) [.v 7] <|
  it' 8 (
   rk' 7) (
   .jump 2 [.v 1, k' 0, .v 0, .v 2])) (
  rk' 0)
def u29T2 : Tree :=
 bt' .lss 23 24 1 0 <|
 it' 4 (
  fl' 0 3 <|
  ir' 5 1 <|
  el' 2 0 5 1 <|
  fl' 0 3 <|
  ir' 8 0 <|
  el' 2 0 8 0 <|
  .bind (.bin .eql 9 (.tmp 33) (.tmp 39)) [.v 7, .v 10] <|
  it' 11 (
   rk' 8) (
   bk' .add 26 1 1 <|
   .jump 2 [.v 0, .v 12, .v 2, .v 3])) (
  fl' 0 3 <|
  ir' 5 0 <|
  el' 2 1 5 0 <|
  bk' .lss 46 0 7 <|
  it' 8 (
   rk' 2) (
   fl' 0 3 <|
   ir' 9 0 <|
   el' 2 1 9 0 <|
   bk' .geq 54 65536 11 <|
   it' 12 (
    rk' 2) (
    bk' .add 12 1 0 <|
    .jump 1 [.v 2, .v 13, .v 3])))
def u29Ts : Nat → Tree
 | 0 => u29T0
 | 1 => u29T1
 | 2 => u29T2
 | _ => .fail
def u30P : Nat → Pat
 | 1 => ⟨[⟨.pure, true⟩, ⟨.pure, false⟩, ⟨.pure, false⟩], [(2, .loc 0 0), (3, .loc 1 0), (5, .v 0)], [some (.whole (.v 1) 1), some (.whole (.v 2) 3)]⟩
 | 2 => ⟨[⟨.fresh, true⟩, ⟨.pure, true⟩, ⟨.pure, false⟩], [(3, .loc 1 0), (7, .v 0), (8, .v 1)], [none, some (.whole (.v 2) 3)]⟩
 | 3 => ⟨[⟨.fresh, true⟩, ⟨.pure, true⟩, ⟨.pure, true⟩, ⟨.pure, false⟩], [(3, .loc 1 0), (7, .v 0), (8, .v 1), (9, .v 2)], [none, some (.whole (.v 3) 3)]⟩
 | _ => ⟨[], [], []⟩
def u30T0 : Tree :=
 .bind (.chk true 1) [.v 0] <|
 .bind (.chk true 3) [.v 1] <|
 fl' 0 3 <|
 .call (.fn 65) [.v 4] 1 <|
 .bind (.un .not 4) [.v 5] <|
 it' 6 (
  rk' 7) (
  fl' 1 3 <|
  ln' 7 <|
  bk' .gtr 17 100 8 <|
  it' 9 (
   rk' 11) (
   .jump 1 [k' 0, .v 2, .v 3]))
def u30T1 : Tree :=
 fl' 1 2 <|
 ln' 3 <|
 bt' .lss 19 22 0 4 <|
 it' 5 (
  .call (.fn 66) [.v 1, .v 2, .v 0] 1 <|
  .bind (.bin .neq 45 (.tmp 30) (K' 0)) [.v 6, k' 0] <|
  it' 7 (
   .ret [.v 6]) (
   bk' .add 24 1 0 <|
   .jump 1 [.v 8, .v 1, .v 2])) (
  fl' 2 2 <|
  ln' 6 <|
  bk' .gtr 35 100 7 <|
  it' 8 (
   rk' 11) (
   .jump 2 [.c (.slice none 0 0), k' 0, .v 2]))
def u30T2 : Tree :=
 fl' 2 2 <|
 ln' 3 <|
 bt' .lss 37 40 1 4 <|
 it' 5 (
  fl' 2 2 <|
  ir' 6 1 <|
  el' 1 0 6 1 <|
  ln' 8 <|
  bk' .eql 49 0 9 <|
  it' 10 (
   rk' 4) (
   .jump 3 [.v 0, .v 1, k' 0, .v 2])) (
  rk' 0)
def u30T3 : Tree :=
 fl' 2 3 <|
 ir' 4 1 <|
 el' 1 0 4 1 <|
 ln' 6 <|
 bt' .lss 51 57 2 7 <|
 it' 8 (
  fl' 2 3 <|
  ir' 9 1 <|
  el' 1 0 9 1 <|
  ir' 11 2 <|
  el' 1 0 11 2 <|
  .call (.fn 67) [.v 13] 1 <|
  .bind (.un .not 4) [.v 14] <|
  it' 15 (
   rk' 3) (
   .call (.fn 68) [.v 0, .v 13] 1 <|
   it' 16 (
    rk' 8) (
    .bind (.chk false 1) [.v 13] <|
    .bind (.lit 9 1) [.v 13] <|
    .bind (.app 9 1 16) [.v 0, .v 18] <|
    bk' .add 59 1 2 <|
    .jump 3 [.v 19, .v 1, .v 20, .v 3]))) (
  bk' .add 42 1 1 <|
  .jump 2 [.v 0, .v 9, .v 3])
def u30Ts : Nat → Tree
 | 0 => u30T0
 | 1 => u30T1
 | 2 => u30T2
 | 3 => u30T3
 | _ => .fail
def u31P : Nat → Pat
 | 1 => ⟨[⟨.pure, true⟩, ⟨.pure, false⟩], [(1, .loc 0 0), (3, .v 0)], [some (.whole (.v 1) 9)]⟩
 | _ => ⟨[], [], []⟩
def u31T0 : Tree :=
 .bind (.chk true 9) [.v 0] <|
 fl' 4 1 <|
 ln' 2 <|
 bk' .gtr 7 12 3 <|
 it' 4 (
  rk' 11) (
  .jump 1 [k' 0, .v 1])
def u31T1 : Tree :=
 fl' 4 1 <|
 ln' 2 <|
 bt' .lss 9 12 0 3 <|
 it' 4 (
  .bind (.fld true 1 0) [.v 1] <|
  fl' 4 1 <|
  ir' 6 0 <|
  .bind (.elem 6 true 6 0) [.v 6, .v 0] <|
  .call (.fn 69) [.v 5, .v 8] 1 <|
  .bind (.bin .neq 45 (.tmp 24) (K' 0)) [.v 9, k' 0] <|
  it' 10 (
   .ret [.v 9]) (
   bk' .add 14 1 0 <|
   .jump 1 [.v 11, .v 1])) (
  rk' 0)
def u31Ts : Nat → Tree
 | 0 => u31T0
 | 1 => u31T1
 | _ => .fail
def u32P : Nat → Pat
 | 1 => ⟨[⟨.pure, true⟩, ⟨.pure, false⟩], [(1, .loc 0 0), (3, .v 0)], [some (.whole (.v 1) 3)]⟩
 | 2 => ⟨[⟨.pure, true⟩, ⟨.pure, true⟩, ⟨.pure, false⟩, ⟨.pure, true⟩, ⟨.pure, true⟩, ⟨.pure, true⟩, ⟨.pure, false⟩], [(1, .loc 0 0), (3, .v 0), (4, .loc 1 0), (5, .v 1), (38, .v 2), (39, .loc 1 2), (40, .v 3), (41, .v 4), (42, .c (.bool false)), (48, .loc 1 1), (49, .v 5), (50, .c (.bool false))], [some (.whole (.v 2) 3), some (.whole (.v 6) 3)]⟩
 | 3 => ⟨[⟨.pure, true⟩, ⟨.pure, false⟩], [(1, .loc 0 0), (6, .v 0)], [some (.whole (.v 1) 3)]⟩
 | 4 => ⟨[⟨.pure, true⟩, ⟨.pure, false⟩], [(1, .loc 0 0), (7, .v 0)], [some (.whole (.v 1) 3)]⟩
 | _ => ⟨[], [], []⟩
def u32T0 : Tree :=
 .bind (.chk true 3) [.v 0] <|
 fl' 0 1 <|
 bk' .lss 9 1 2 <|
 it' 3 (
  rk' 2) (
  fl' 0 1 <|
  bk' .gtr 13 24 4 <|
  it' 5 (
   rk' 2) (
   fl' 1 1 <|
   ln' 6 <|
   bk' .gtr 18 200 7 <|
   it' 8 (
    rk' 11) (
    .jump 1 [k' 0, .v 1])))
def u32T1 : Tree :=
 fl' 1 1 <|
 ln' 2 <|
 bt' .lss 20 23 0 3 <|
 it' 4 (
  fl' 1 1 <|
  ir' 5 0 <|
  .bind (.elem 3 true 3 0) [.v 5, .v 0] <|
  .bind (.chk true 3) [.v 7] <|
  fl' 0 8 <|
  .call (.fn 70) [.v 1, .v 9] 1 <|
  .bind (.un .not 4) [.v 10] <|
  it' 11 (
   rk' 2) (
   fl' 2 8 <|
   .call (.fn 70) [.v 1, .v 12] 1 <|
   .bind (.un .not 4) [.v 13] <|
   it' 14 (
    rk' 2) (
    fl' 1 8 <|
    bk' .lss 45 1 15 <|
    it' 16 (
     rk' 21) (
     fl' 1 8 <|
     bk' .gtr 49 20 17 <|
     it' 18 (
      rk' 21) (
      .jump 2 [.v 0, k' 0, .v 1, .v 12, .v 13, .v 17, .v 8]))))) (
  .jump 3 [k' 1, .v 1])
def u32T2 : Tree :=
 bt' .lss 52 53 1 0 <|
 it' 7 (
  fl' 1 2 <|
  ir' 8 1 <|
  .bind (.elem 3 true 3 0) [.v 8, .v 1] <|
  .bind (.bin .eql 84 (.tmp 61) (.tmp 62)) [.v 10, .v 6] <|
  it' 11 (
   rk' 8) (
   bk' .add 55 1 1 <|
   .jump 2 [.v 0, .v 12, .v 2, .v 3, .v 4, .v 5, .v 6])) (
  bk' .add 25 1 0 <|
  .jump 1 [.v 8, .v 2])
def u32T3 : Tree :=
 fl' 2 1 <|
 ln' 2 <|
 bt' .lss 64 67 0 3 <|
 it' 4 (
  fl' 2 1 <|
  ir' 5 0 <|
  el' 1 0 5 0 <|
  fl' 2 1 <|
  bk' .sub 78 1 0 <|
  ir' 8 9 <|
  el' 1 0 8 9 <|
  bt' .leq 75 81 7 11 <|
  it' 12 (
   rk' 10) (
   bk' .add 69 1 0 <|
   .jump 3 [.v 13, .v 1])) (
  .jump 4 [k' 0, .v 1])
def u32T4 : Tree :=
 fl' 2 1 <|
 ln' 2 <|
 bt' .lss 83 86 0 3 <|
 it' 4 (
  fl' 2 1 <|
  ir' 5 0 <|
  el' 1 0 5 0 <|
  .call (.fn 70) [.v 1, .v 7] 1 <|
  .bind (.un .not 4) [.v 8] <|
  it' 9 (
   rk' 2) (
   bk' .add 88 1 0 <|
   .jump 4 [.v 10, .v 1])) (
  rk' 0)
def u32Ts : Nat → Tree
 | 0 => u32T0
 | 1 => u32T1
 | 2 => u32T2
 | 3 => u32T3
 | 4 => u32T4
 | _ => .fail
def u33P : Nat → Pat
 | 1 => ⟨[⟨.pure, false⟩, ⟨.pure, true⟩, ⟨.pure, true⟩, ⟨.pure, false⟩], [(1, .v 0), (2, .loc 0 0), (13, .v 1), (14, .v 2)], [some (.whole (.v 3) 1)]⟩
 | 2 => ⟨[⟨.pure, false⟩, ⟨.pure, true⟩, ⟨.pure, true⟩], [(1, .v 0), (44, .v 1), (45, .v 2)], []⟩
 | 3 => ⟨[⟨.pure, false⟩, ⟨.pure, true⟩, ⟨.pure, true⟩, ⟨.pure, false⟩, ⟨.pure, false⟩, ⟨.pure, false⟩, ⟨.pure, false⟩, ⟨.pure, false⟩, ⟨.pure, true⟩, ⟨.pure, true⟩], [(1, .v 0), (7, .v 1), (44, .v 2), (45, .v 1), (55, .v 3), (56, .v 3), (57, .v 4), (60, .v 5), (61, .v 6), (62, .v 7), (69, .v 8), (70, .v 9)], []⟩
 | _ => ⟨[], [], []⟩
def u33T0 : Tree :=
 .bind (.chk true 1) [.v 0] <|
 ln' 1 <|
 bk' .gtr 10 100 3 <|
 it' 4 (
  rk' 11) (
  ln' 1 <|
  .jump 1 [.v 1, .v 5, k' 0, .v 2])
def u33T1 : Tree :=
 bt' .lss 14 13 2 1 <|
 it' 4 (
  ir' 0 2 <|
  .bind (.elem 8 true 8 0) [.v 0, .v 2] <|
  .call (.fn 71) [.v 3, .v 6] 1 <|
  .bind (.bin .neq 45 (.tmp 23) (K' 0)) [.v 7, k' 0] <|
  it' 8 (
   .ret [.v 7]) (
   bk' .gtr 26 0 2 <|
   it' 9 (
    ir' 0 2 <|
    el' 8 0 0 2 <|
    bk' .sub 35 1 2 <|
    ir' 0 12 <|
    el' 8 0 0 12 <|
    bt' .leq 33 39 11 14 <|
    it' 15 (
     rk' 10) (
     bk' .add 14 1 2 <|
     .jump 1 [.v 0, .v 1, .v 16, .v 3])) (
    bk' .add 14 1 2 <|
    .jump 1 [.v 0, .v 1, .v 10, .v 3]))) (
  ln' 0 <|
  .jump 2 [.v 0, .v 5, k' 0])
def u33T2 : Tree :=
 bt' .lss 45 44 2 1 <|
 it' 3 (
  ir' 0 2 <|
  el' 8 4 0 2 <|
  bk' .neq 52 0 5 <|
  it' 6 (
   ir' 0 2 <|
   el' 8 4 0 2 <|
   .call (.fn 72) [.v 0, .v 8] 1 <|
   .bind (.un .not 4) [.v 9] <|
   it' 10 (
    rk' 9) (
    ir' 0 2 <|
    el' 8 6 0 2 <|
    ln' 12 <|
    .jump 3 [.v 0, .v 2, .v 1, .v 0, .v 2, .v 8, .v 9, .c (.bool false), .v 13, k' 0])) (
   ir' 0 2 <|
   el' 8 6 0 2 <|
   ln' 8 <|
   .jump 3 [.v 0, .v 2, .v 1, .tup [], .tup [], .tup [], .tup [], .tup [], .v 9, k' 0])) (
  rk' 0)
def u33T3 : Tree :=
 bt' .lss 70 69 9 8 <|
 it' 10 (
  ir' 0 1 <|
  el' 8 6 0 1 <|
  ir' 12 9 <|
  el' 2 1 12 9 <|
  .call (.fn 72) [.v 0, .v 14] 1 <|
  .bind (.un .not 4) [.v 15] <|
  it' 16 (
   rk' 9) (
   bk' .add 70 1 9 <|
   .jump 3 [.v 0, .v 1, .v 2, .v 3, .v 4, .v 5, .v 6, .v 7, .v 8, .v 17])) (
  bk' .add 45 1 1 <|
  .jump 2 [.v 0, .v 2, .v 11])
def u33Ts : Nat → Tree
 | 0 => u33T0
 | 1 => u33T1
 | 2 => u33T2
 | 3 => u33T3
 | _ => .fail
def u34P : Nat → Pat
 | 1 => ⟨[⟨.pure, false⟩, ⟨.pure, true⟩], [(0, .v 0), (3, .v 1)], []⟩
 | 2 => ⟨[⟨.pure, false⟩, ⟨.pure, true⟩, ⟨.pure, true⟩], [(0, .v 0), (3, .v 1), (4, .v 2)], []⟩
 | 3 => ⟨[⟨.pure, false⟩, ⟨.pure, true⟩], [(0, .v 0), (7, .v 1)], []⟩
 | _ => ⟨[], [], []⟩
def u34T0 : Tree :=
 .jump 1 [.v 0, k' 0]
def u34T1 : Tree :=
 ln' 0 <|
 bt' .lss 8 10 1 2 <|
 it' 3 (
  .jump 2 [.v 0, .v 1, k' 0]) (
  .jump 3 [.v 0, k' 0])
def u34T2 : Tree :=
 ir' 0 1 <|
 el' 8 6 0 1 <|
 ln' 4 <|
 bt' .lss 14 20 2 5 <|
 it' 6 (
  ir' 0 1 <|
  el' 8 6 0 1 <|
  ir' 8 2 <|
  .bind (.elem 2 true 2 0) [.v 8, .v 2] <|
  .bind (.chk true 2) [.v 10] <|
  fl' 0 11 <|
  .call (.fn 73) [.v 12] 1 <|
  bk' .lss 34 0 13 <|
  it' 14 (
   rk' 14) (
   fl' 1 11 <|
   .call (.fn 74) [.v 0, .v 15] 1 <|
   bk' .lss 40 0 16 <|
   it' 17 (
    rk' 9) (
    ir' 0 16 <|
    .bind (.elem 8 true 8 0) [.v 0, .v 16] <|
    fl' 0 11 <|
    .call (.fn 73) [.v 20] 1 <|
    ir' 0 1 <|
    el' 8 0 0 1 <|
    .call (.fn 75) [.v 19, .agg [.v 21, .v 23]] 1 <|
    .bind (.un .not 4) [.v 24] <|
    it' 25 (
     rk' 1) (
     bk' .add 22 1 2 <|
     .jump 2 [.v 0, .v 1, .v 26])))) (
  bk' .add 12 1 1 <|
  .jump 1 [.v 0, .v 7])
def u34T3 : Tree :=
 ln' 0 <|
 bt' .lss 57 59 1 2 <|
 it' 3 (
  ir' 0 1 <|
  el' 8 0 0 1 <|
  .call (.fn 77) [.v 0, .v 5, k' 2] 0 <|
  ir' 0 1 <|
  el' 8 0 0 1 <|
  .call (.fn 76) [.v 6, .v 8] 1 <|
  it' 9 (
   rk' 17) (
   ir' 0 1 <|
   el' 8 0 0 1 <|
   .call (.fn 77) [.v 0, .v 11, k' 4] 0 <|
   ir' 0 1 <|
   el' 8 0 0 1 <|
   .call (.fn 76) [.v 12, .v 14] 1 <|
   it' 15 (
    rk' 17) (
    bk' .add 61 1 1 <|
    .jump 3 [.v 0, .v 16]))) (
  rk' 0)
def u34Ts : Nat → Tree
 | 0 => u34T0
 | 1 => u34T1
 | 2 => u34T2
 | 3 => u34T3
 | _ => .fail
def u35P : Nat → Pat
 | 1 => ⟨[⟨.pure, false⟩, ⟨.pure, true⟩], [(0, .v 0), (3, .v 1)], []⟩
 | 2 => ⟨[⟨.pure, false⟩, ⟨.pure, true⟩], [(0, .v 0), (4, .v 1)], []⟩
 | _ => ⟨[], [], []⟩
def u35T0 : Tree :=
 .jump 1 [.v 0, k' 0]
def u35T1 : Tree :=
 ln' 0 <|
 bt' .lss 5 7 1 2 <|
 it' 3 (
  ir' 0 1 <|
  el' 8 4 0 1 <|
  bk' .neq 15 0 5 <|
  it' 6 (
   ir' 0 1 <|
   el' 8 4 0 1 <|
   .call (.fn 78) [.v 0, .v 8] 1 <|
   bk' .lss 24 0 9 <|
   it' 10 (
    rk' 9) (
    bk' .add 9 1 1 <|
    .jump 1 [.v 0, .v 11])) (
   bk' .add 9 1 1 <|
   .jump 1 [.v 0, .v 7])) (
  .jump 2 [.v 0, k' 0])
def u35T2 : Tree :=
 ln' 0 <|
 bt' .lss 27 29 1 2 <|
 it' 3 (
  ir' 0 1 <|
  el' 8 0 0 1 <|
  .call (.fn 79) [.v 0, .v 5] 0 <|
  ln' 6 <|
  ln' 0 <|
  bt' .gtr 40 42 7 8 <|
  it' 9 (
   rk' 17) (
   bk' .add 31 1 1 <|
   .jump 2 [.v 0, .v 10])) (
  rk' 0)
def u35Ts : Nat → Tree
 | 0 => u35T0
 | 1 => u35T1
 | 2 => u35T2
 | _ => .fail
def u62P : Nat → Pat
 | 1 => ⟨[⟨.pure, false⟩, ⟨.pure, false⟩, ⟨.pure, true⟩, ⟨.pure, true⟩], [(0, .v 0), (1, .v 1), (12, .v 2), (13, .v 3)], []⟩
 | _ => ⟨[], [], []⟩
def u62T0 : Tree :=
 ln' 0 <|
 ln' 1 <|
 bt' .neq 7 9 2 3 <|
 it' 4 (
  rb' false) (
  ln' 0 <|
  .jump 1 [.v 0, .v 1, .v 5, k' 0])
def u62T1 : Tree :=
 bt' .lss 13 12 3 2 <|
 it' 4 (
  ir' 0 3 <|
  el' 1 0 0 3 <|
  ir' 1 3 <|
  el' 1 0 1 3 <|
  bt' .neq 19 23 6 8 <|
  it' 9 (
   rb' false) (
   bk' .add 13 1 3 <|
   .jump 1 [.v 0, .v 1, .v 2, .v 10])) (
  rb' true)
def u62Ts : Nat → Tree
 | 0 => u62T0
 | 1 => u62T1
 | _ => .fail
def u64P : Nat → Pat
 | 1 => ⟨[⟨.pure, false⟩, ⟨.pure, true⟩], [(0, .v 0), (3, .v 1)], []⟩
 | _ => ⟨[], [], []⟩
def u64T0 : Tree :=
 .jump 1 [.v 0, k' 0]
def u64T1 : Tree :=
 .bind (.len true) [.v 0] <|
 bt' .lss 6 8 1 2 <|
 it' 3 (
  .bind .chr [.v 0, .v 1] <|
  .bind (.bin .lss 5 (.tmp 14) (.const (.int .u8 32))) [.v 4, .c (.int .u8 32)] <|
  it' 5 (
   rb' false) (
   .bind .chr [.v 0, .v 1] <|
   .bind (.bin .eql 5 (.tmp 19) (.const (.int .u8 127))) [.v 6, .c (.int .u8 127)] <|
   it' 7 (
    rb' false) (
    bk' .add 10 1 1 <|
    .jump 1 [.v 0, .v 8]))) (
  .call (.fn 104) [.v 0] 0 <|
  .bind (.ext 0) [.v 4] <|
  .bind (.ext 1) [.v 4] <|
  it' 6 (
   .bind (.len true) [.v 0] <|
   bk' .geq 30 1 7 <|
   it' 8 (
    .bind (.len true) [.v 0] <|
    bk' .leq 35 32 9 <|
    .ret [.v 10]) (
    rb' false)) (
   rb' false))
def u64Ts : Nat → Tree
 | 0 => u64T0
 | 1 => u64T1
 | _ => .fail
def u65P : Nat → Pat
 | 1 => ⟨[⟨.pure, false⟩, ⟨.pure, true⟩], [(0, .v 0), (3, .v 1)], []⟩
 | _ => ⟨[], [], []⟩
def u65T0 : Tree :=
 .jump 1 [.v 0, k' 0]
def u65T1 : Tree :=
 .bind (.len true) [.v 0] <|
 bt' .lss 5 7 1 2 <|
 it' 3 (
  .bind .chr [.v 0, .v 1] <|
  .bind (.bin .geq 5 (.tmp 13) (.const (.int .u8 97))) [.v 4, .c (.int .u8 97)] <|
  it' 5 (
   .bind .chr [.v 0, .v 1] <|
   .bind (.bin .leq 5 (.tmp 18) (.const (.int .u8 122))) [.v 6, .c (.int .u8 122)] <|
   .bind (.un .not 4) [.v 7] <|
   it' 8 (
    bk' .eql 24 0 1 <|
    it' 9 (
     rb' false) (
     .bind .chr [.v 0, .v 1] <|
     .bind (.bin .neq 5 (.tmp 29) (.const (.int .u8 45))) [.v 10, .c (.int .u8 45)] <|
     it' 11 (
      .bind .chr [.v 0, .v 1] <|
      .bind (.bin .neq 5 (.tmp 34) (.const (.int .u8 95))) [.v 12, .c (.int .u8 95)] <|
      it' 13 (
       .bind .chr [.v 0, .v 1] <|
       .bind (.bin .lss 5 (.tmp 40) (.const (.int .u8 48))) [.v 14, .c (.int .u8 48)] <|
       it' 15 (
        rb' false) (
        .bind .chr [.v 0, .v 1] <|
        .bind (.bin .gtr 5 (.tmp 45) (.const (.int .u8 57))) [.v 16, .c (.int .u8 57)] <|
        it' 17 (
         rb' false) (
         bk' .add 9 1 1 <|
         .jump 1 [.v 0, .v 18]))) (
       bk' .add 9 1 1 <|
       .jump 1 [.v 0, .v 14])) (
      bk' .add 9 1 1 <|
      .jump 1 [.v 0, .v 12]))) (
    bk' .add 9 1 1 <|
    .jump 1 [.v 0, .v 9])) (
   bk' .eql 24 0 1 <|
   it' 6 (
    rb' false) (
    .bind .chr [.v 0, .v 1] <|
    .bind (.bin .neq 5 (.tmp 29) (.const (.int .u8 45))) [.v 7, .c (.int .u8 45)] <|
    it' 8 (
     .bind .chr [.v 0, .v 1] <|
     .bind (.bin .neq 5 (.tmp 34) (.const (.int .u8 95))) [.v 9, .c (.int .u8 95)] <|
     it' 10 (
      .bind .chr [.v 0, .v 1] <|
      .bind (.bin .lss 5 (.tmp 40) (.const (.int .u8 48))) [.v 11, .c (.int .u8 48)] <|
      it' 12 (
       rb' false) (
       .bind .chr [.v 0, .v 1] <|
       .bind (.bin .gtr 5 (.tmp 45) (.const (.int .u8 57))) [.v 13, .c (.int .u8 57)] <|
       it' 14 (
        rb' false) (
        bk' .add 9 1 1 <|
        .jump 1 [.v 0, .v 15]))) (
      bk' .add 9 1 1 <|
      .jump 1 [.v 0, .v 11])) (
     bk' .add 9 1 1 <|
     .jump 1 [.v 0, .v 9])))) (
  .bind (.len true) [.v 0] <|
  bk' .geq 52 1 4 <|
  it' 5 (
   .bind (.len true) [.v 0] <|
   bk' .leq 56 32 6 <|
   .ret [.v 7]) (
   rb' false))
def u65Ts : Nat → Tree
 | 0 => u65T0
 | 1 => u65T1
 | _ => .fail
def u66P : Nat → Pat
 | 1 => ⟨[⟨.pure, false⟩, ⟨.pure, true⟩, ⟨.pure, false⟩, ⟨.pure, false⟩, ⟨.pure, false⟩], [(2, .v 0), (3, .loc 0 0), (4, .loc 1 0), (7, .loc 2 0), (8, .v 1)], [some (.whole (.v 2) 1), some (.whole (.v 3) 3), some (.whole (.v 4) 2)]⟩
 | 2 => ⟨[⟨.pure, true⟩, ⟨.pure, false⟩, ⟨.pure, false⟩], [(3, .loc 0 0), (7, .loc 2 0), (9, .v 0)], [some (.whole (.v 1) 1), none, some (.whole (.v 2) 2)]⟩
 | _ => ⟨[], [], []⟩
def u66T0 : Tree :=
 .bind (.chk true 1) [.v 0] <|
 .bind (.chk true 3) [.v 1] <|
 fl' 1 4 <|
 ir' 5 2 <|
 .bind (.elem 2 true 2 0) [.v 5, .v 2] <|
 .bind (.chk true 2) [.v 7] <|
 fl' 0 8 <|
 .call (.fn 67) [.v 9] 1 <|
 .bind (.un .not 4) [.v 10] <|
 it' 11 (
  rk' 3) (
  .jump 1 [.v 2, k' 0, .v 3, .v 4, .v 8])
def u66T1 : Tree :=
 bt' .lss 19 20 1 0 <|
 it' 5 (
  fl' 1 3 <|
  ir' 6 1 <|
  el' 2 0 6 1 <|
  fl' 0 4 <|
  .bind (.bin .eql 9 (.tmp 29) (.tmp 31)) [.v 8, .v 9] <|
  it' 10 (
   rk' 8) (
   bk' .add 22 1 1 <|
   .jump 1 [.v 0, .v 11, .v 2, .v 3, .v 4])) (
  fl' 1 4 <|
  ln' 6 <|
  bk' .lss 35 1 7 <|
  it' 8 (
   rk' 19) (
   fl' 1 4 <|
   ln' 9 <|
   bk' .gtr 40 3 10 <|
   it' 11 (
    rk' 19) (
    .jump 2 [k' 0, .v 2, .v 4])))
def u66T2 : Tree :=
 fl' 1 2 <|
 ln' 3 <|
 bt' .lss 43 46 0 4 <|
 it' 5 (
  fl' 1 2 <|
  ir' 6 0 <|
  el' 1 0 6 0 <|
  bk' .lss 54 1 8 <|
  it' 9 (
   rk' 19) (
   fl' 1 2 <|
   ir' 10 0 <|
   el' 1 0 10 0 <|
   fl' 0 1 <|
   ln' 13 <|
   bt' .gtr 61 64 12 14 <|
   it' 15 (
    rk' 19) (
    bk' .add 48 1 0 <|
    .jump 2 [.v 16, .v 1, .v 2]))) (
  rk' 0)
def u66Ts : Nat → Tree
 | 0 => u66T0
 | 1 => u66T1
 | 2 => u66T2
 | _ => .fail
def u67P : Nat → Pat
 | 1 => ⟨[⟨.pure, false⟩, ⟨.pure, true⟩], [(0, .v 0), (3, .v 1)], []⟩
 | _ => ⟨[], [], []⟩
def u67T0 : Tree :=
 .jump 1 [.v 0, k' 0]
def u67T1 : Tree :=
 .bind (.len true) [.v 0] <|
 bt' .lss 4 6 1 2 <|
 it' 3 (
  .bind .chr [.v 0, .v 1] <|
  .bind (.bin .eql 5 (.tmp 12) (.const (.int .u8 32))) [.v 4, .c (.int .u8 32)] <|
  it' 5 (
   rb' false) (
   bk' .add 8 1 1 <|
   .jump 1 [.v 0, .v 6])) (
  .call (.fn 64) [.v 0] 1 <|
  .ret [.v 4])
def u67Ts : Nat → Tree
 | 0 => u67T0
 | 1 => u67T1
 | _ => .fail
def u68P : Nat → Pat
 | 1 => ⟨[⟨.pure, false⟩, ⟨.pure, false⟩, ⟨.pure, true⟩], [(0, .v 0), (1, .v 1), (5, .v 2)], []⟩
 | _ => ⟨[], [], []⟩
def u68T0 : Tree :=
 .jump 1 [.v 0, .v 1, k' 0]
def u68T1 : Tree :=
 ln' 0 <|
 bt' .lss 6 8 2 3 <|
 it' 4 (
  ir' 0 2 <|
  el' 1 0 0 2 <|
  .bind (.bin .eql 9 (.tmp 15) (.tmp 16)) [.v 6, .v 1] <|
  it' 7 (
   rb' true) (
   bk' .add 10 1 2 <|
   .jump 1 [.v 0, .v 1, .v 8])) (
  rb' false)
def u68Ts : Nat → Tree
 | 0 => u68T0
 | 1 => u68T1
 | _ => .fail
def u69P : Nat → Pat
 | 1 => ⟨[⟨.pure, true⟩, ⟨.pure, true⟩, ⟨.pure, false⟩, ⟨.pure, false⟩], [(2, .loc 0 0), (3, .loc 1 0), (21, .v 0), (22, .v 1)], [some (.whole (.v 2) 1), some (.whole (.v 3) 6)]⟩
 | _ => ⟨[], [], []⟩
def u69T0 : Tree :=
 .bind (.chk true 1) [.v 0] <|
 .bind (.chk true 6) [.v 1] <|
 fl' 0 3 <|
 ln' 4 <|
 bk' .eql 8 0 5 <|
 it' 6 (
  rk' 1) (
  fl' 1 3 <|
  ln' 7 <|
  fl' 0 3 <|
  ln' 9 <|
  bt' .neq 13 16 8 10 <|
  it' 11 (
   rk' 1) (
   fl' 0 3 <|
   ln' 12 <|
   .jump 1 [.v 13, k' 0, .v 2, .v 3]))
def u69T1 : Tree :=
 bt' .lss 22 21 1 0 <|
 it' 4 (
  fl' 0 3 <|
  ir' 5 1 <|
  el' 1 0 5 1 <|
  .call (.fn 105) [.v 2, .v 7] 1 <|
  .bind (.un .not 4) [.v 8] <|
  it' 9 (
   rk' 19) (
   fl' 1 3 <|
   ir' 10 1 <|
   el' 1 0 10 1 <|
   bk' .neq 38 0 12 <|
   it' 13 (
    fl' 1 3 <|
    ir' 14 1 <|
    el' 1 0 14 1 <|
    .call (.fn 105) [.v 2, .v 16] 1 <|
    .bind (.un .not 4) [.v 17] <|
    it' 18 (
     rk' 19) (
     bk' .add 22 1 1 <|
     .jump 1 [.v 0, .v 19, .v 2, .v 3])) (
    bk' .add 22 1 1 <|
    .jump 1 [.v 0, .v 14, .v 2, .v 3]))) (
  fl' 0 3 <|
  .call (.fn 106) [.v 5] 0 <|
  ln' 6 <|
  fl' 0 3 <|
  ln' 8 <|
  bt' .neq 55 58 7 9 <|
  it' 10 (
   rk' 8) (
   fl' 2 3 <|
   ln' 11 <|
   bk' .gtr 62 2 12 <|
   it' 13 (
    rk' 5) (
    fl' 3 3 <|
    ln' 14 <|
    bk' .gtr 67 2 15 <|
    it' 16 (
     rk' 5) (
     rk' 0))))
def u69Ts : Nat → Tree
 | 0 => u69T0
 | 1 => u69T1
 | _ => .fail
def u70P : Nat → Pat
 | _ => ⟨[], [], []⟩
def u70T0 : Tree :=
 .bind (.chk true 3) [.v 0] <|
 bk' .geq 5 0 1 <|
 it' 3 (
  fl' 0 2 <|
  bt' .lss 8 10 1 4 <|
  .ret [.v 5]) (
  rb' false)
def u70Ts : Nat → Tree
 | 0 => u70T0
 | _ => .fail
def u71P : Nat → Pat
 | _ => ⟨[], [], []⟩
def u71T0 : Tree :=
 .bind (.chk true 1) [.v 0] <|
 .bind (.chk true 8) [.v 1] <|
 .call (.fn 107) [.v 2, .v 3] 1 <|
 .bind (.bin .neq 45 (.tmp 11) (K' 0)) [.v 4, k' 0] <|
 it' 5 (
  .ret [.v 4]) (
  .call (.fn 108) [.v 3] 1 <|
  .bind (.bin .neq 45 (.tmp 16) (K' 0)) [.v 6, k' 0] <|
  it' 7 (
   .ret [.v 6]) (
   .call (.fn 109) [.v 3] 1 <|
   .bind (.bin .neq 45 (.tmp 21) (K' 0)) [.v 8, k' 0] <|
   it' 9 (
    .ret [.v 8]) (
    fl' 7 3 <|
    .call (.fn 110) [.v 10, k' 12] 1 <|
    .ret [.v 11])))
def u71Ts : Nat → Tree
 | 0 => u71T0
 | _ => .fail
def u72P : Nat → Pat
 | _ => ⟨[], [], []⟩
def u72T0 : Tree :=
 .call (.fn 111) [.v 0, .v 1] 0 <|
 .bind (.ext 0) [.v 2] <|
 .bind (.ext 1) [.v 2] <|
 .bind (.chk true 8) [.v 3] <|
 .ret [.v 4]
def u72Ts : Nat → Tree
 | 0 => u72T0
 | _ => .fail
def u73P : Nat → Pat
 | _ => ⟨[], [], []⟩
def u73T0 : Tree :=
 bk' .eql 3 0 0 <|
 it' 1 (
  .ret [.v 0]) (
  bk' .eql 3 1 0 <|
  it' 2 (
   .ret [.v 0]) (
   bk' .eql 3 2 0 <|
   it' 3 (
    rk' 3) (
    bk' .eql 3 3 0 <|
    it' 4 (
     rk' 2) (
     bk' .eql 3 4 0 <|
     it' 5 (
      rk' 5) (
      bk' .eql 3 5 0 <|
      it' 6 (
       rk' 4) (
       .ret [.c (.int .i64 (-1))]))))))
def u73Ts : Nat → Tree
 | 0 => u73T0
 | _ => .fail
def u74P : Nat → Pat
 | 1 => ⟨[⟨.pure, false⟩, ⟨.pure, false⟩, ⟨.pure, true⟩], [(0, .v 0), (1, .v 1), (5, .v 2)], []⟩
 | _ => ⟨[], [], []⟩
def u74T0 : Tree :=
 .jump 1 [.v 0, .v 1, k' 0]
def u74T1 : Tree :=
 ln' 0 <|
 bt' .lss 6 8 2 3 <|
 it' 4 (
  ir' 0 2 <|
  el' 8 0 0 2 <|
  bt' .eql 16 17 6 1 <|
  it' 7 (
   .ret [.v 2]) (
   bk' .add 10 1 2 <|
   .jump 1 [.v 0, .v 1, .v 8])) (
  .ret [.c (.int .i64 (-1))])
def u74Ts : Nat → Tree
 | 0 => u74T0
 | 1 => u74T1
 | _ => .fail
def u75P : Nat → Pat
 | 1 => ⟨[⟨.pure, true⟩, ⟨.pure, false⟩, ⟨.pure, false⟩], [(2, .loc 0 0), (3, .loc 1 0), (5, .v 0)], [some (.whole (.v 1) 8), some (.whole (.v 2) 2)]⟩
 | _ => ⟨[], [], []⟩
def u75T0 : Tree :=
 .bind (.chk true 8) [.v 0] <|
 .bind (.chk true 2) [.v 1] <|
 .jump 1 [k' 0, .v 2, .v 3]
def u75T1 : Tree :=
 fl' 6 1 <|
 ln' 3 <|
 bt' .lss 6 9 0 4 <|
 it' 5 (
  fl' 6 1 <|
  ir' 6 0 <|
  .bind (.elem 2 true 2 0) [.v 6, .v 0] <|
  .bind (.bin .eql 59 (.tmp 17) (.tmp 18)) [.v 8, .v 2] <|
  it' 9 (
   rb' true) (
   bk' .add 11 1 0 <|
   .jump 1 [.v 10, .v 1, .v 2])) (
  rb' false)
def u75Ts : Nat → Tree
 | 0 => u75T0
 | 1 => u75T1
 | _ => .fail
def u76P : Nat → Pat
 | 1 => ⟨[⟨.pure, false⟩, ⟨.pure, false⟩, ⟨.pure, true⟩], [(0, .v 0), (1, .v 1), (5, .v 2)], []⟩
 | _ => ⟨[], [], []⟩
def u76T0 : Tree :=
 .jump 1 [.v 0, .v 1, k' 0]
def u76T1 : Tree :=
 ln' 0 <|
 bt' .lss 6 8 2 3 <|
 it' 4 (
  ir' 0 2 <|
  el' 1 0 0 2 <|
  bt' .eql 15 16 6 1 <|
  it' 7 (
   rb' true) (
   bk' .add 10 1 2 <|
   .jump 1 [.v 0, .v 1, .v 8])) (
  rb' false)
def u76Ts : Nat → Tree
 | 0 => u76T0
 | 1 => u76T1
 | _ => .fail
def u77P : Nat → Pat
 | 1 => ⟨[⟨.pure, false⟩, ⟨.pure, false⟩, ⟨.fresh, true⟩, ⟨.fresh, true⟩, ⟨.pure, true⟩], [(0, .v 0), (2, .v 1), (7, .v 2), (8, .v 3), (9, .v 4)], []⟩
 | 2 => ⟨[⟨.pure, false⟩, ⟨.pure, false⟩, ⟨.fresh, true⟩, ⟨.fresh, true⟩, ⟨.pure, true⟩, ⟨.fresh, true⟩, ⟨.pure, true⟩], [(0, .v 0), (2, .v 1), (7, .v 2), (8, .v 3), (9, .v 4), (10, .v 5), (11, .v 6)], []⟩
 | 3 => ⟨[⟨.pure, false⟩, ⟨.pure, false⟩, ⟨.fresh, true⟩, ⟨.fresh, true⟩, ⟨.pure, true⟩, ⟨.fresh, true⟩, ⟨.pure, true⟩, ⟨.pure, true⟩, ⟨.pure, true⟩], [(0, .v 0), (2, .v 1), (7, .v 2), (8, .v 3), (9, .v 4), (10, .v 5), (11, .v 6), (12, .v 7), (13, .v 8)], []⟩
 | 4 => ⟨[⟨.pure, false⟩, ⟨.fresh, true⟩, ⟨.fresh, true⟩, ⟨.pure, true⟩], [(0, .v 0), (7, .v 1), (16, .v 2), (17, .v 3)], []⟩
 | _ => ⟨[], [], []⟩
def u77T0 : Tree :=
 ln' 0 <|
 .bind (.mk 4 1 1 false [(.bool false)]) [.v 3] <|
 .bind (.chk false 1) [.v 1] <|
 .bind (.lit 3 1) [.v 1] <|
 .jump 1 [.v 0, .v 2, .v 4, .v 6, k' 0]
def u77T1 : Tree :=
 ln' 0 <|
 bt' .leq 23 25 4 5 <|
 it' 6 (
  .jump 2 [.v 0, .v 1, .v 2, .v 3, .v 4, .c (.slice none 0 0), k' 0]) (
  .jump 4 [.v 0, .v 2, .c (.slice none 0 0), k' 0])
def u77T2 : Tree :=
 ln' 3 <|
 bt' .lss 29 31 6 7 <|
 it' 8 (
  ir' 3 6 <|
  el' 1 0 3 6 <|
  .call (.fn 74) [.v 0, .v 10] 1 <|
  .jump 3 [.v 0, .v 1, .v 2, .v 3, .v 4, .v 5, .v 6, .v 11, k' 0]) (
  bk' .add 27 1 4 <|
  .jump 1 [.v 0, .v 1, .v 2, .v 5, .v 9])
def u77T3 : Tree :=
 bk' .geq 41 0 7 <|
 it' 9 (
  ir' 0 7 <|
  el' 8 6 0 7 <|
  ln' 11 <|
  bt' .lss 44 50 8 12 <|
  it' 13 (
   ir' 0 7 <|
   el' 8 6 0 7 <|
   ir' 15 8 <|
   .bind (.elem 2 true 2 0) [.v 15, .v 8] <|
   .bind (.chk true 2) [.v 17] <|
   fl' 1 18 <|
   .call (.fn 74) [.v 0, .v 19] 1 <|
   fl' 0 18 <|
   bt' .eql 68 69 21 1 <|
   it' 22 (
    bk' .geq 72 0 20 <|
    it' 23 (
     ir' 2 20 <|
     el' 1 0 2 20 <|
     .bind (.un .not 4) [.v 25] <|
     it' 26 (
      ir' 2 20 <|
      .bind (.set 1 false 1 0) [.v 2, .v 20, .c (.bool true)] <|
      fl' 1 18 <|
      .bind (.chk false 1) [.v 29] <|
      .bind (.lit 3 1) [.v 29] <|
      .bind (.app 3 1 8) [.v 5, .v 31] <|
      bk' .add 53 1 8 <|
      .jump 3 [.v 0, .v 1, .v 28, .v 3, .v 4, .v 32, .v 6, .v 7, .v 33]) (
      bk' .add 53 1 8 <|
      .jump 3 [.v 0, .v 1, .v 2, .v 3, .v 4, .v 5, .v 6, .v 7, .v 27])) (
     bk' .add 53 1 8 <|
     .jump 3 [.v 0, .v 1, .v 2, .v 3, .v 4, .v 5, .v 6, .v 7, .v 24])) (
    bk' .add 53 1 8 <|
    .jump 3 [.v 0, .v 1, .v 2, .v 3, .v 4, .v 5, .v 6, .v 7, .v 23])) (
   bk' .add 33 1 6 <|
   .jump 2 [.v 0, .v 1, .v 2, .v 3, .v 4, .v 5, .v 14])) (
  bk' .add 33 1 6 <|
  .jump 2 [.v 0, .v 1, .v 2, .v 3, .v 4, .v 5, .v 10])
def u77T4 : Tree :=
 ln' 0 <|
 bt' .lss 91 93 3 4 <|
 it' 5 (
  ir' 1 3 <|
  el' 1 0 1 3 <|
  it' 7 (
   ir' 0 3 <|
   el' 8 0 0 3 <|
   .bind (.chk false 1) [.v 9] <|
   .bind (.lit 3 1) [.v 9] <|
   .bind (.app 3 1 8) [.v 2, .v 11] <|
   bk' .add 95 1 3 <|
   .jump 4 [.v 0, .v 1, .v 12, .v 13]) (
   bk' .add 95 1 3 <|
   .jump 4 [.v 0, .v 1, .v 2, .v 8])) (
  .ret [.v 2])
def u77Ts : Nat → Tree
 | 0 => u77T0
 | 1 => u77T1
 | 2 => u77T2
 | 3 => u77T3
 | 4 => u77T4
 | _ => .fail
def u78P : Nat → Pat
 | 1 => ⟨[⟨.pure, false⟩, ⟨.pure, false⟩, ⟨.pure, true⟩], [(0, .v 0), (1, .v 1), (5, .v 2)], []⟩
 | _ => ⟨[], [], []⟩
def u78T0 : Tree :=
 .jump 1 [.v 0, .v 1, k' 0]
def u78T1 : Tree :=
 ln' 0 <|
 bt' .lss 6 8 2 3 <|
 it' 4 (
  ir' 0 2 <|
  el' 8 0 0 2 <|
  bt' .eql 16 17 6 1 <|
  it' 7 (
   .ret [.v 2]) (
   bk' .add 10 1 2 <|
   .jump 1 [.v 0, .v 1, .v 8])) (
  .ret [.c (.int .i64 (-1))])
def u78Ts : Nat → Tree
 | 0 => u78T0
 | 1 => u78T1
 | _ => .fail
def u79P : Nat → Pat
 | 1 => ⟨[⟨.pure, false⟩, ⟨.fresh, true⟩, ⟨.pure, true⟩], [(0, .v 0), (5, .v 1), (6, .v 2)], []⟩
 | _ => ⟨[], [], []⟩
def u79T0 : Tree :=
 .bind (.lit 3 1) [] <|
 .call (.fn 78) [.v 0, .v 1] 1 <|
 .jump 1 [.v 0, .v 2, .v 3]
def u79T1 : Tree :=
 bk' .geq 11 0 2 <|
 it' 3 (
  ln' 1 <|
  ln' 0 <|
  bt' .leq 15 17 4 5 <|
  it' 6 (
   ir' 0 2 <|
   el' 8 0 0 2 <|
   .bind (.chk false 1) [.v 8] <|
   .bind (.lit 3 1) [.v 8] <|
   .bind (.app 3 1 8) [.v 1, .v 10] <|
   ir' 0 2 <|
   el' 8 4 0 2 <|
   bk' .eql 39 0 13 <|
   it' 14 (
    .ret [.v 11]) (
    ir' 0 2 <|
    el' 8 4 0 2 <|
    .call (.fn 78) [.v 0, .v 16] 1 <|
    .jump 1 [.v 0, .v 11, .v 17])) (
   .ret [.v 1])) (
  .ret [.v 1])
def u79Ts : Nat → Tree
 | 0 => u79T0
 | 1 => u79T1
 | _ => .fail
def u104P : Nat → Pat
 | 1 => ⟨[⟨.pure, false⟩, ⟨.fresh, true⟩, ⟨.pure, true⟩], [(0, .v 0), (4, .v 1), (5, .v 2)], []⟩
 | _ => ⟨[], [], []⟩
def u104T0 : Tree :=
 .jump 1 [.v 0, .c (.slice none 0 0), k' 0]
def u104T1 : Tree :=
 .bind (.len true) [.v 0] <|
 bt' .lss 8 10 2 3 <|
 it' 4 (
  .call (.fn 130) [.v 0, .v 2] 2 <|
  .bind (.ext 0) [.v 5] <|
  .bind (.ext 1) [.v 5] <|
  bk' .eql 18 0 7 <|
  it' 8 (
   .ret [.c (.slice none 0 0), .c (.bool false)]) (
   .bind (.chk false 1) [.v 6] <|
   .bind (.lit 3 1) [.v 6] <|
   .bind (.app 3 1 8) [.v 1, .v 10] <|
   bt' .add 24 25 2 7 <|
   .jump 1 [.v 0, .v 11, .v 12])) (
  .ret [.v 1, .c (.bool true)])
def u104Ts : Nat → Tree
 | 0 => u104T0
 | 1 => u104T1
 | _ => .fail
def u105P : Nat → Pat
 | _ => ⟨[], [], []⟩
def u105T0 : Tree :=
 .bind (.chk true 1) [.v 0] <|
 bk' .geq 5 1 1 <|
 it' 3 (
  fl' 0 2 <|
  ln' 4 <|
  bt' .leq 8 11 1 5 <|
  .ret [.v 6]) (
  rb' false)
def u105Ts : Nat → Tree
 | 0 => u105T0
 | _ => .fail
def u106P : Nat → Pat
 | 1 => ⟨[⟨.pure, false⟩, ⟨.pure, false⟩, ⟨.pure, true⟩, ⟨.pure, true⟩], [(0, .v 0), (3, .v 1), (6, .v 2), (7, .v 3)], []⟩
 | _ => ⟨[], [], []⟩
def u106T0 : Tree :=
 ln' 0 <|
 .jump 1 [.v 0, .c (.slice none 0 0), .v 1, k' 0]
def u106T1 : Tree :=
 bt' .lss 7 6 3 2 <|
 it' 4 (
  ir' 0 3 <|
  el' 1 0 0 3 <|
  .call (.fn 131) [.v 1, .v 6] 0 <|
  bk' .add 7 1 3 <|
  .jump 1 [.v 0, .v 7, .v 2, .v 8]) (
  .ret [.v 1])
def u106Ts : Nat → Tree
 | 0 => u106T0
 | 1 => u106T1
 | _ => .fail
def u107P : Nat → Pat
 | 1 => ⟨[⟨.pure, true⟩, ⟨.pure, false⟩, ⟨.pure, false⟩], [(2, .loc 0 0), (3, .loc 1 0), (6, .v 0)], [some (.whole (.v 1) 1), some (.whole (.v 2) 8)]⟩
 | 2 => ⟨[⟨.pure, true⟩, ⟨.pure, true⟩, ⟨.pure, false⟩, ⟨.pure, false⟩], [(2, .loc 0 0), (3, .loc 1 0), (6, .v 0), (8, .v 1)], [some (.whole (.v 2) 1), some (.whole (.v 3) 8)]⟩
 | _ => ⟨[], [], []⟩
def u107T0 : Tree :=
 .bind (.chk true 1) [.v 0] <|
 .bind (.chk true 8) [.v 1] <|
 fl' 0 3 <|
 .call (.fn 132) [.v 4] 1 <|
 .bind (.un .not 4) [.v 5] <|
 it' 6 (
  rk' 2) (
  fl' 1 3 <|
  .call (.fn 133) [.v 2, .v 7] 1 <|
  .bind (.bin .neq 45 (.tmp 17) (K' 0)) [.v 8, k' 0] <|
  it' 9 (
   .ret [.v 8]) (
   fl' 2 3 <|
   bk' .lss 21 1 10 <|
   it' 11 (
    rk' 21) (
    fl' 2 3 <|
    bk' .gtr 25 20 12 <|
    it' 13 (
     rk' 21) (
     fl' 3 3 <|
     ln' 14 <|
     bk' .gtr 30 3 15 <|
     it' 16 (
      rk' 11) (
      .jump 1 [k' 0, .v 2, .v 3])))))
def u107T1 : Tree :=
 fl' 3 2 <|
 ln' 3 <|
 bt' .lss 32 35 0 4 <|
 it' 5 (
  fl' 3 2 <|
  ir' 6 0 <|
  el' 1 0 6 0 <|
  .call (.fn 133) [.v 1, .v 8] 1 <|
  .bind (.bin .neq 45 (.tmp 46) (K' 0)) [.v 9, k' 0] <|
  it' 10 (
   .ret [.v 9]) (
   fl' 3 2 <|
   ir' 11 0 <|
   el' 1 0 11 0 <|
   fl' 1 2 <|
   .call (.fn 62) [.v 13, .v 14] 1 <|
   it' 15 (
    rk' 8) (
    .jump 2 [.v 0, k' 0, .v 1, .v 2]))) (
  rk' 0)
def u107T2 : Tree :=
 bt' .lss 57 58 1 0 <|
 it' 4 (
  fl' 3 3 <|
  ir' 5 0 <|
  el' 1 0 5 0 <|
  fl' 3 3 <|
  ir' 8 1 <|
  el' 1 0 8 1 <|
  .call (.fn 62) [.v 7, .v 10] 1 <|
  it' 11 (
   rk' 8) (
   bk' .add 60 1 1 <|
   .jump 2 [.v 0, .v 12, .v 2, .v 3])) (
  bk' .add 37 1 0 <|
  .jump 1 [.v 5, .v 2, .v 3])
def u107Ts : Nat → Tree
 | 0 => u107T0
 | 1 => u107T1
 | 2 => u107T2
 | _ => .fail
def u108P : Nat → Pat
 | 1 => ⟨[⟨.pure, true⟩, ⟨.pure, false⟩], [(1, .loc 0 0), (3, .v 0)], [some (.whole (.v 1) 8)]⟩
 | _ => ⟨[], [], []⟩
def u108T0 : Tree :=
 .bind (.chk true 8) [.v 0] <|
 fl' 4 1 <|
 bk' .neq 6 0 2 <|
 it' 3 (
  fl' 4 1 <|
  .call (.fn 132) [.v 4] 1 <|
  .bind (.un .not 4) [.v 5] <|
  it' 6 (
   rk' 2) (
   fl' 4 1 <|
   fl' 0 1 <|
   bt' .eql 15 17 7 8 <|
   it' 9 (
    rk' 17) (
    fl' 5 1 <|
    ln' 10 <|
    bk' .gtr 21 5 11 <|
    it' 12 (
     rk' 11) (
     fl' 5 1 <|
     ln' 13 <|
     bk' .eql 25 0 14 <|
     it' 15 (
      fl' 4 1 <|
      bk' .eql 29 0 16 <|
      it' 17 (
       rk' 4) (
       .jump 1 [k' 0, .v 1])) (
      .jump 1 [k' 0, .v 1]))))) (
  fl' 4 1 <|
  fl' 0 1 <|
  bt' .eql 15 17 4 5 <|
  it' 6 (
   rk' 17) (
   fl' 5 1 <|
   ln' 7 <|
   bk' .gtr 21 5 8 <|
   it' 9 (
    rk' 11) (
    fl' 5 1 <|
    ln' 10 <|
    bk' .eql 25 0 11 <|
    it' 12 (
     fl' 4 1 <|
     bk' .eql 29 0 13 <|
     it' 14 (
      rk' 4) (
      .jump 1 [k' 0, .v 1])) (
     .jump 1 [k' 0, .v 1]))))
def u108T1 : Tree :=
 fl' 5 1 <|
 ln' 2 <|
 bt' .lss 32 35 0 3 <|
 it' 4 (
  fl' 5 1 <|
  .bind (.slc 86 2 false true) [.v 5, .v 0] <|
  fl' 5 1 <|
  ir' 7 0 <|
  .bind (.elem 2 true 2 0) [.v 7, .v 0] <|
  .call (.fn 134) [.v 6, .v 9] 1 <|
  .bind (.bin .neq 45 (.tmp 49) (K' 0)) [.v 10, k' 0] <|
  it' 11 (
   .ret [.v 10]) (
   bk' .add 37 1 0 <|
   .jump 1 [.v 12, .v 1])) (
  rk' 0)
def u108Ts : Nat → Tree
 | 0 => u108T0
 | 1 => u108T1
 | _ => .fail
def u109P : Nat → Pat
 | 1 => ⟨[⟨.pure, true⟩, ⟨.pure, false⟩], [(1, .loc 0 0), (3, .v 0)], [some (.whole (.v 1) 8)]⟩
 | _ => ⟨[], [], []⟩
def u109T0 : Tree :=
 .bind (.chk true 8) [.v 0] <|
 fl' 6 1 <|
 ln' 2 <|
 bk' .gtr 7 12 3 <|
 it' 4 (
  rk' 11) (
  .jump 1 [k' 0, .v 1])
def u109T1 : Tree :=
 fl' 6 1 <|
 ln' 2 <|
 bt' .lss 9 12 0 3 <|
 it' 4 (
  fl' 6 1 <|
  ir' 5 0 <|
  .bind (.elem 2 true 2 0) [.v 5, .v 0] <|
  .bind (.chk true 2) [.v 7] <|
  fl' 0 8 <|
  bk' .lss 22 0 9 <|
  it' 10 (
   rk' 14) (
   fl' 0 8 <|
   bk' .gtr 26 5 11 <|
   it' 12 (
    rk' 14) (
    fl' 1 8 <|
    .call (.fn 132) [.v 13] 1 <|
    .bind (.un .not 4) [.v 14] <|
    it' 15 (
     rk' 2) (
     fl' 1 8 <|
     fl' 0 1 <|
     bt' .eql 34 36 16 17 <|
     it' 18 (
      rk' 17) (
      bk' .gtr 38 0 0 <|
      it' 19 (
       fl' 0 8 <|
       fl' 6 1 <|
       bk' .sub 45 1 0 <|
       ir' 21 22 <|
       el' 2 0 21 22 <|
       bt' .lss 42 49 20 24 <|
       it' 25 (
        rk' 10) (
        fl' 0 8 <|
        fl' 6 1 <|
        bk' .sub 56 1 0 <|
        ir' 27 28 <|
        el' 2 0 27 28 <|
        bt' .eql 53 60 26 30 <|
        it' 31 (
         fl' 1 8 <|
         fl' 6 1 <|
         bk' .sub 67 1 0 <|
         ir' 33 34 <|
         el' 2 1 33 34 <|
         bt' .leq 64 71 32 36 <|
         it' 37 (
          rk' 10) (
          bk' .add 14 1 0 <|
          .jump 1 [.v 38, .v 1])) (
         bk' .add 14 1 0 <|
         .jump 1 [.v 32, .v 1]))) (
       bk' .add 14 1 0 <|
       .jump 1 [.v 20, .v 1])))))) (
  rk' 0)
def u109Ts : Nat → Tree
 | 0 => u109T0
 | 1 => u109T1
 | _ => .fail
def u110P : Nat → Pat
 | 1 => ⟨[⟨.pure, false⟩, ⟨.pure, true⟩], [(0, .v 0), (5, .v 1)], []⟩
 | _ => ⟨[], [], []⟩
def u110T0 : Tree :=
 ln' 0 <|
 bt' .gtr 7 8 2 1 <|
 it' 3 (
  rk' 11) (
  .jump 1 [.v 0, k' 0])
def u110T1 : Tree :=
 ln' 0 <|
 bt' .lss 10 12 1 2 <|
 it' 3 (
  ir' 0 1 <|
  .bind (.elem 2 true 2 0) [.v 0, .v 1] <|
  .call (.fn 135) [.v 5] 1 <|
  .bind (.un .not 4) [.v 6] <|
  it' 7 (
   rk' 2) (
   bk' .gtr 22 0 1 <|
   it' 8 (
    bk' .sub 26 1 1 <|
    ir' 0 9 <|
    .bind (.elem 2 true 2 0) [.v 0, .v 9] <|
    ir' 0 1 <|
    .bind (.elem 2 true 2 0) [.v 0, .v 1] <|
    .call (.fn 136) [.v 11, .v 13] 1 <|
    .bind (.un .not 4) [.v 14] <|
    it' 15 (
     rk' 10) (
     bk' .add 14 1 1 <|
     .jump 1 [.v 0, .v 16])) (
    bk' .add 14 1 1 <|
    .jump 1 [.v 0, .v 9]))) (
  rk' 0)
def u110Ts : Nat → Tree
 | 0 => u110T0
 | 1 => u110T1
 | _ => .fail
def u111P : Nat → Pat
 | 1 => ⟨[⟨.pure, false⟩, ⟨.pure, false⟩, ⟨.pure, true⟩, ⟨.pure, true⟩], [(0, .v 0), (1, .v 1), (4, .loc 0 0), (8, .v 2), (9, .v 3)], [some (.cells [k' 0, .c (.slice none 0 0), k' 0, .c (.slice none 0 0), k' 0, .c (.slice none 0 0), .c (.slice none 0 0), .c (.slice none 0 0)])]⟩
 | _ => ⟨[], [], []⟩
def u111T0 : Tree :=
 ln' 0 <|
 .jump 1 [.v 0, .v 1, .v 2, k' 0]
def u111T1 : Tree :=
 bt' .lss 9 8 3 2 <|
 it' 4 (
  ir' 0 3 <|
  el' 8 0 0 3 <|
  bt' .eql 16 17 6 1 <|
  it' 7 (
   ir' 0 3 <|
   .bind (.elem 8 true 8 0) [.v 0, .v 3] <|
   .bind (.chk true 8) [.v 9] <|
   .ret [.v 10, .c (.bool true)]) (
   bk' .add 9 1 3 <|
   .jump 1 [.v 0, .v 1, .v 2, .v 8])) (
  .ret [.agg [k' 0, .c (.slice none 0 0), k' 0, .c (.slice none 0 0), k' 0, .c (.slice none 0 0), .c (.slice none 0 0), .c (.slice none 0 0)], .c (.bool false)])
def u111Ts : Nat → Tree
 | 0 => u111T0
 | 1 => u111T1
 | _ => .fail
def u130P : Nat → Pat
 | 1 => ⟨[⟨.pure, false⟩, ⟨.pure, false⟩, ⟨.pure, true⟩, ⟨.pure, true⟩, ⟨.pure, true⟩], [(0, .v 0), (1, .v 1), (6, .v 2), (7, .v 3), (8, .v 4)], []⟩
 | _ => ⟨[], [], []⟩
def u130T0 : Tree :=
 .bind .chr [.v 0, .v 1] <|
 .bind (.conv 5 3) [.v 2] <|
 bk' .geq 14 240 3 <|
 it' 4 (
  bk' .sub 16 240 3 <|
  .bind (.bin .add 3 (.tmp 28) (.tmp 29)) [.v 1, k' 4] <|
  .bind (.len true) [.v 0] <|
  bt' .gtr 30 32 6 7 <|
  it' 8 (
   .ret [.c (.int .i64 (-1)), k' 0]) (
   .jump 1 [.v 0, .v 1, .v 5, k' 4, k' 1])) (
  bk' .geq 19 224 3 <|
  it' 5 (
   bk' .sub 21 224 3 <|
   .bind (.bin .add 3 (.tmp 28) (.tmp 29)) [.v 1, k' 3] <|
   .bind (.len true) [.v 0] <|
   bt' .gtr 30 32 7 8 <|
   it' 9 (
    .ret [.c (.int .i64 (-1)), k' 0]) (
    .jump 1 [.v 0, .v 1, .v 6, k' 3, k' 1])) (
   bk' .geq 24 192 3 <|
   it' 6 (
    bk' .sub 26 192 3 <|
    .bind (.bin .add 3 (.tmp 28) (.tmp 29)) [.v 1, k' 2] <|
    .bind (.len true) [.v 0] <|
    bt' .gtr 30 32 8 9 <|
    it' 10 (
     .ret [.c (.int .i64 (-1)), k' 0]) (
     .jump 1 [.v 0, .v 1, .v 7, k' 2, k' 1])) (
    .bind (.bin .add 3 (.tmp 28) (.tmp 29)) [.v 1, k' 1] <|
    .bind (.len true) [.v 0] <|
    bt' .gtr 30 32 7 8 <|
    it' 9 (
     .ret [.c (.int .i64 (-1)), k' 0]) (
     .jump 1 [.v 0, .v 1, .v 3, k' 1, k' 1]))))
def u130T1 : Tree :=
 bt' .lss 34 35 4 3 <|
 it' 5 (
  bk' .mul 39 64 2 <|
  bt' .add 42 43 1 4 <|
  .bind .chr [.v 0, .v 7] <|
  .bind (.conv 5 3) [.v 8] <|
  bk' .rem 46 64 9 <|
  bt' .add 40 47 6 10 <|
  bk' .add 37 1 4 <|
  .jump 1 [.v 0, .v 1, .v 11, .v 3, .v 12]) (
  .call (.fn 154) [.v 2] 1 <|
  .bind (.un .not 4) [.v 6] <|
  it' 7 (
   .ret [.c (.int .i64 (-1)), k' 0]) (
   .call (.fn 155) [.v 2] 1 <|
   bt' .add 57 58 1 3 <|
   .bind (.sub true true) [.v 0, .v 1, .v 9] <|
   .bind (.bin .neq 9 (.tmp 54) (.tmp 60)) [.v 8, .v 10] <|
   it' 11 (
    .ret [.c (.int .i64 (-1)), k' 0]) (
    .ret [.v 2, .v 3])))
def u130Ts : Nat → Tree
 | 0 => u130T0
 | 1 => u130T1
 | _ => .fail
def u131P : Nat → Pat
 | 1 => ⟨[⟨.pure, false⟩, ⟨.pure, false⟩, ⟨.fresh, true⟩, ⟨.pure, true⟩], [(0, .v 0), (1, .v 1), (5, .v 2), (6, .v 3)], []⟩
 | _ => ⟨[], [], []⟩
def u131T0 : Tree :=
 .jump 1 [.v 0, .v 1, .c (.slice none 0 0), k' 0]
def u131T1 : Tree :=
 ln' 0 <|
 bt' .lss 7 9 3 4 <|
 it' 5 (
  ir' 0 3 <|
  el' 1 0 0 3 <|
  bt' .lss 15 16 7 1 <|
  it' 8 (
   ir' 0 3 <|
   el' 1 0 0 3 <|
   .bind (.chk false 1) [.v 10] <|
   .bind (.lit 3 1) [.v 10] <|
   .bind (.app 3 1 8) [.v 2, .v 12] <|
   bk' .add 26 1 3 <|
   .jump 1 [.v 0, .v 1, .v 13, .v 14]) (
   .bind (.chk false 1) [.v 1] <|
   .bind (.lit 3 1) [.v 1] <|
   .bind (.app 3 1 8) [.v 2, .v 10] <|
   ln' 0 <|
   bt' .lss 32 34 3 12 <|
   it' 13 (
    ir' 0 3 <|
    el' 1 0 0 3 <|
    bt' .eql 40 41 15 1 <|
    it' 16 (
     bk' .add 44 1 3 <|
     .bind (.slc 3 1 true false) [.v 0, .v 17] <|
     .bind (.app 3 1 8) [.v 11, .v 18] <|
     .ret [.v 19]) (
     .bind (.slc 3 1 true false) [.v 0, .v 3] <|
     .bind (.app 3 1 8) [.v 11, .v 17] <|
     .ret [.v 18])) (
    .bind (.slc 3 1 true false) [.v 0, .v 3] <|
    .bind (.app 3 1 8) [.v 11, .v 14] <|
    .ret [.v 15]))) (
  .bind (.chk false 1) [.v 1] <|
  .bind (.lit 3 1) [.v 1] <|
  .bind (.app 3 1 8) [.v 2, .v 7] <|
  ln' 0 <|
  bt' .lss 32 34 3 9 <|
  it' 10 (
   ir' 0 3 <|
   el' 1 0 0 3 <|
   bt' .eql 40 41 12 1 <|
   it' 13 (
    bk' .add 44 1 3 <|
    .bind (.slc 3 1 true false) [.v 0, .v 14] <|
    .bind (.app 3 1 8) [.v 8, .v 15] <|
    .ret [.v 16]) (
    .bind (.slc 3 1 true false) [.v 0, .v 3] <|
    .bind (.app 3 1 8) [.v 8, .v 14] <|
    .ret [.v 15])) (
   .bind (.slc 3 1 true false) [.v 0, .v 3] <|
   .bind (.app 3 1 8) [.v 8, .v 11] <|
   .ret [.v 12]))
def u131Ts : Nat → Tree
 | 0 => u131T0
 | 1 => u131T1
 | _ => .fail
def u132P : Nat → Pat
 | _ => ⟨[], [], []⟩
def u132T0 : Tree :=
 bk' .geq 3 1 0 <|
 it' 1 (
  bk' .leq 6 1099511627776 0 <|
  .ret [.v 2]) (
  rb' false)
def u132Ts : Nat → Tree
 | 0 => u132T0
 | _ => .fail
def u133P : Nat → Pat
 | 1 => ⟨[⟨.pure, false⟩, ⟨.pure, true⟩, ⟨.pure, true⟩, ⟨.pure, false⟩], [(1, .v 0), (2, .loc 0 0), (13, .v 1), (14, .v 2)], [some (.whole (.v 3) 1)]⟩
 | _ => ⟨[], [], []⟩
def u133T0 : Tree :=
 .bind (.chk true 1) [.v 0] <|
 ln' 1 <|
 bk' .eql 7 0 3 <|
 it' 4 (
  rk' 4) (
  ln' 1 <|
  bk' .gtr 10 24 5 <|
  it' 6 (
   rk' 5) (
   ln' 1 <|
   .jump 1 [.v 1, .v 7, k' 0, .v 2]))
def u133T1 : Tree :=
 bt' .lss 14 13 2 1 <|
 it' 4 (
  ir' 0 2 <|
  el' 1 0 0 2 <|
  .call (.fn 105) [.v 3, .v 6] 1 <|
  .bind (.un .not 4) [.v 7] <|
  it' 8 (
   rk' 19) (
   bk' .add 14 1 2 <|
   .jump 1 [.v 0, .v 1, .v 9, .v 3])) (
  rk' 0)
def u133Ts : Nat → Tree
 | 0 => u133T0
 | 1 => u133T1
 | _ => .fail
def u134P : Nat → Pat
 | _ => ⟨[], [], []⟩
def u134T0 : Tree :=
 .bind (.chk true 2) [.v 1] <|
 fl' 0 2 <|
 .call (.fn 156) [.v 3] 1 <|
 .bind (.un .not 4) [.v 4] <|
 it' 5 (
  rk' 7) (
  fl' 1 2 <|
  .call (.fn 157) [.v 6] 1 <|
  .bind (.bin .neq 45 (.tmp 13) (K' 0)) [.v 7, k' 0] <|
  it' 8 (
   .ret [.v 7]) (
   fl' 0 2 <|
   .call (.fn 158) [.v 0, .v 9] 1 <|
   it' 10 (
    rk' 8) (
    rk' 0)))
def u134Ts : Nat → Tree
 | 0 => u134T0
 | _ => .fail
def u135P : Nat → Pat
 | _ => ⟨[], [], []⟩
def u135T0 : Tree :=
 .bind (.chk true 2) [.v 0] <|
 fl' 0 1 <|
 .call (.fn 132) [.v 2] 1 <|
 it' 3 (
  fl' 1 1 <|
  .call (.fn 132) [.v 4] 1 <|
  .ret [.v 5]) (
  rb' false)
def u135Ts : Nat → Tree
 | 0 => u135T0
 | _ => .fail
def u136P : Nat → Pat
 | _ => ⟨[], [], []⟩
def u136T0 : Tree :=
 .bind (.chk true 2) [.v 0] <|
 .bind (.chk true 2) [.v 1] <|
 fl' 0 2 <|
 fl' 0 3 <|
 bt' .lss 6 8 4 5 <|
 it' 6 (
  rb' true) (
  fl' 0 2 <|
  fl' 0 3 <|
  bt' .eql 12 14 7 8 <|
  it' 9 (
   fl' 1 2 <|
   fl' 1 3 <|
   bt' .lss 18 20 10 11 <|
   .ret [.v 12]) (
   rb' false))
def u136Ts : Nat → Tree
 | 0 => u136T0
 | _ => .fail
def u154P : Nat → Pat
 | _ => ⟨[], [], []⟩
def u154T0 : Tree :=
 bk' .geq 3 0 0 <|
 it' 1 (
  bk' .leq 6 1114111 0 <|
  it' 2 (
   bk' .lss 10 55296 0 <|
   it' 3 (
    rb' true) (
    bk' .gtr 13 57343 0 <|
    .ret [.v 4])) (
   rb' false)) (
  rb' false)
def u154Ts : Nat → Tree
 | 0 => u154T0
 | _ => .fail
def u155P : Nat → Pat
 | _ => ⟨[], [], []⟩
def u155T0 : Tree :=
 bk' .lss 4 128 0 <|
 it' 1 (
  .bind (.conv 3 5) [.v 0] <|
  .bind (.chk false 1) [.v 2] <|
  .bind (.lit 5 1) [.v 2] <|
  .bind .bstr [.v 4] <|
  .ret [.v 5]) (
  bk' .lss 11 2048 0 <|
  it' 2 (
   bk' .quo 13 64 0 <|
   .bind (.bin .add 3 (K' 192) (.tmp 14)) [k' 192, .v 3] <|
   .bind (.conv 3 5) [.v 4] <|
   bk' .rem 17 64 0 <|
   .bind (.bin .add 3 (K' 128) (.tmp 18)) [k' 128, .v 6] <|
   .bind (.conv 3 5) [.v 7] <|
   .bind (.chk false 1) [.v 5] <|
   .bind (.chk false 1) [.v 8] <|
   .bind (.lit 5 1) [.v 5, .v 8] <|
   .bind .bstr [.v 11] <|
   .ret [.v 12]) (
   bk' .lss 24 65536 0 <|
   it' 3 (
    bk' .quo 26 4096 0 <|
    .bind (.bin .add 3 (K' 224) (.tmp 27)) [k' 224, .v 4] <|
    .bind (.conv 3 5) [.v 5] <|
    bk' .quo 30 64 0 <|
    bk' .rem 31 64 7 <|
    .bind (.bin .add 3 (K' 128) (.tmp 32)) [k' 128, .v 8] <|
    .bind (.conv 3 5) [.v 9] <|
    bk' .rem 35 64 0 <|
    .bind (.bin .add 3 (K' 128) (.tmp 36)) [k' 128, .v 11] <|
    .bind (.conv 3 5) [.v 12] <|
    .bind (.chk false 1) [.v 6] <|
    .bind (.chk false 1) [.v 10] <|
    .bind (.chk false 1) [.v 13] <|
    .bind (.lit 5 1) [.v 6, .v 10, .v 13] <|
    .bind .bstr [.v 17] <|
    .ret [.v 18]) (
    bk' .quo 41 262144 0 <|
    .bind (.bin .add 3 (K' 240) (.tmp 42)) [k' 240, .v 4] <|
    .bind (.conv 3 5) [.v 5] <|
    bk' .quo 45 4096 0 <|
    bk' .rem 46 64 7 <|
    .bind (.bin .add 3 (K' 128) (.tmp 47)) [k' 128, .v 8] <|
    .bind (.conv 3 5) [.v 9] <|
    bk' .quo 50 64 0 <|
    bk' .rem 51 64 11 <|
    .bind (.bin .add 3 (K' 128) (.tmp 52)) [k' 128, .v 12] <|
    .bind (.conv 3 5) [.v 13] <|
    bk' .rem 55 64 0 <|
    .bind (.bin .add 3 (K' 128) (.tmp 56)) [k' 128, .v 15] <|
    .bind (.conv 3 5) [.v 16] <|
    .bind (.chk false 1) [.v 6] <|
    .bind (.chk false 1) [.v 10] <|
    .bind (.chk false 1) [.v 14] <|
    .bind (.chk false 1) [.v 17] <|
    .bind (.lit 5 1) [.v 6, .v 10, .v 14, .v 17] <|
    .bind .bstr [.v 22] <|
    .ret [.v 23])))
def u155Ts : Nat → Tree
 | 0 => u155T0
 | _ => .fail
def u156P : Nat → Pat
 | 1 => ⟨[⟨.pure, false⟩, ⟨.pure, true⟩], [(0, .v 0), (3, .v 1)], []⟩
 | _ => ⟨[], [], []⟩
def u156T0 : Tree :=
 .jump 1 [.v 0, k' 0]
def u156T1 : Tree :=
 .bind (.len true) [.v 0] <|
 bt' .lss 4 6 1 2 <|
 it' 3 (
  .bind .chr [.v 0, .v 1] <|
  .bind (.bin .eql 5 (.tmp 12) (.const (.int .u8 32))) [.v 4, .c (.int .u8 32)] <|
  it' 5 (
   rb' false) (
   .bind .chr [.v 0, .v 1] <|
   .bind (.bin .eql 5 (.tmp 17) (.const (.int .u8 45))) [.v 6, .c (.int .u8 45)] <|
   it' 7 (
    rb' false) (
    bk' .add 8 1 1 <|
    .jump 1 [.v 0, .v 8]))) (
  .call (.fn 64) [.v 0] 1 <|
  .ret [.v 4])
def u156Ts : Nat → Tree
 | 0 => u156T0
 | 1 => u156T1
 | _ => .fail
def u157P : Nat → Pat
 | 1 => ⟨[⟨.pure, false⟩, ⟨.pure, true⟩], [(3, .v 0), (5, .v 1)], []⟩
 | _ => ⟨[], [], []⟩
def u157T0 : Tree :=
 .bind (.len true) [.v 0] <|
 bk' .gtr 7 200 1 <|
 it' 2 (
  rk' 5) (
  .call (.fn 104) [.v 0] 0 <|
  .bind (.ext 0) [.v 3] <|
  .bind (.ext 1) [.v 3] <|
  .bind (.un .not 4) [.v 5] <|
  it' 6 (
   rk' 3) (
   .jump 1 [.v 4, k' 0]))
def u157T1 : Tree :=
 ln' 0 <|
 bt' .lss 16 18 1 2 <|
 it' 3 (
  ir' 0 1 <|
  el' 1 0 0 1 <|
  bk' .lss 25 32 5 <|
  it' 6 (
   rk' 3) (
   ir' 0 1 <|
   el' 1 0 0 1 <|
   bk' .eql 31 127 8 <|
   it' 9 (
    rk' 3) (
    bk' .add 20 1 1 <|
    .jump 1 [.v 0, .v 10]))) (
  rk' 0)
def u157Ts : Nat → Tree
 | 0 => u157T0
 | 1 => u157T1
 | _ => .fail
def u158P : Nat → Pat
 | 1 => ⟨[⟨.pure, false⟩, ⟨.pure, false⟩, ⟨.pure, true⟩], [(0, .v 0), (1, .v 1), (5, .v 2)], []⟩
 | _ => ⟨[], [], []⟩
def u158T0 : Tree :=
 .jump 1 [.v 0, .v 1, k' 0]
def u158T1 : Tree :=
 ln' 0 <|
 bt' .lss 6 8 2 3 <|
 it' 4 (
  ir' 0 2 <|
  el' 2 0 0 2 <|
  .bind (.bin .eql 9 (.tmp 16) (.tmp 17)) [.v 6, .v 1] <|
  it' 7 (
   rb' true) (
   bk' .add 10 1 2 <|
   .jump 1 [.v 0, .v 1, .v 8])) (
  rb' false)
def u158Ts : Nat → Tree
 | 0 => u158T0
 | 1 => u158T1
 | _ => .fail
theorem all1 : (rt Tryz.f4 1 u4P,
 hd Tryz.f4 1 u4P,
 nr Tryz.f4,
 rt Tryz.f9 1 u9P,
 hd Tryz.f9 1 u9P,
 nr Tryz.f9,
 rt Tryz.f10 1 u10P,
 hd Tryz.f10 1 u10P,
 nr Tryz.f10,
 rt Tryz.f29 1 u29P,
 hd Tryz.f29 1 u29P,
 nr Tryz.f29,
 rt Tryz.f30 2 u30P,
 hd Tryz.f30 2 u30P,
 nr Tryz.f30,
 rt Tryz.f31 1 u31P,
 hd Tryz.f31 1 u31P,
 nr Tryz.f31,
 rt Tryz.f32 1 u32P,
 hd Tryz.f32 1 u32P,
 nr Tryz.f32,
 rt Tryz.f33 2 u33P,
 hd Tryz.f33 2 u33P,
 nr Tryz.f33,
 rt Tryz.f34 1 u34P,
 hd Tryz.f34 1 u34P,
 nr Tryz.f34,
 rt Tryz.f35 1 u35P,
 hd Tryz.f35 1 u35P,
 nr Tryz.f35,
 rt Tryz.f62 2 u62P,
 hd Tryz.f62 2 u62P,
 nr Tryz.f62,
 rt Tryz.f64 1 u64P,
 hd Tryz.f64 1 u64P,
 nr Tryz.f64,
 rt Tryz.f65 1 u65P,
 hd Tryz.f65 1 u65P,
 nr Tryz.f65,
 rt Tryz.f66 3 u66P,
 hd Tryz.f66 3 u66P,
 nr Tryz.f66,
 rt Tryz.f67 1 u67P,
 hd Tryz.f67 1 u67P,
 nr Tryz.f67,
 rt Tryz.f68 2 u68P,
 hd Tryz.f68 2 u68P,
 nr Tryz.f68,
 rt Tryz.f69 2 u69P,
 hd Tryz.f69 2 u69P,
 nr Tryz.f69,
 rt Tryz.f70 2 u70P,
 hd Tryz.f70 2 u70P,
 nr Tryz.f70,
 rt Tryz.f71 2 u71P,
 hd Tryz.f71 2 u71P,
 nr Tryz.f71,
 rt Tryz.f72 2 u72P,
 hd Tryz.f72 2 u72P,
 nr Tryz.f72,
 rt Tryz.f73 1 u73P,
 hd Tryz.f73 1 u73P,
 nr Tryz.f73,
 rt Tryz.f74 2 u74P,
 hd Tryz.f74 2 u74P,
 nr Tryz.f74,
 rt Tryz.f75 2 u75P,
 hd Tryz.f75 2 u75P,
 nr Tryz.f75,
 rt Tryz.f76 2 u76P,
 hd Tryz.f76 2 u76P,
 nr Tryz.f76,
 rt Tryz.f77 3 u77P,
 hd Tryz.f77 3 u77P,
 nr Tryz.f77,
 rt Tryz.f78 2 u78P,
 hd Tryz.f78 2 u78P,
 nr Tryz.f78,
 rt Tryz.f79 2 u79P,
 hd Tryz.f79 2 u79P,
 nr Tryz.f79,
 rt Tryz.f104 1 u104P,
 hd Tryz.f104 1 u104P,
 nr Tryz.f104,
 rt Tryz.f105 2 u105P,
 hd Tryz.f105 2 u105P,
 nr Tryz.f105,
 rt Tryz.f106 1 u106P,
 hd Tryz.f106 1 u106P,
 nr Tryz.f106,
 rt Tryz.f107 2 u107P,
 hd Tryz.f107 2 u107P,
 nr Tryz.f107,
 rt Tryz.f108 1 u108P,
 hd Tryz.f108 1 u108P,
 nr Tryz.f108,
 rt Tryz.f109 1 u109P,
 hd Tryz.f109 1 u109P,
 nr Tryz.f109,
 rt Tryz.f110 2 u110P,
 hd Tryz.f110 2 u110P,
 nr Tryz.f110,
 rt Tryz.f111 2 u111P,
 hd Tryz.f111 2 u111P,
 nr Tryz.f111,
 rt Tryz.f130 2 u130P,
 hd Tryz.f130 2 u130P,
 nr Tryz.f130,
 rt Tryz.f131 2 u131P,
 hd Tryz.f131 2 u131P,
 nr Tryz.f131,
 rt Tryz.f132 1 u132P,
 hd Tryz.f132 1 u132P,
 nr Tryz.f132,
 rt Tryz.f133 2 u133P,
 hd Tryz.f133 2 u133P,
 nr Tryz.f133,
 rt Tryz.f134 2 u134P,
 hd Tryz.f134 2 u134P,
 nr Tryz.f134,
 rt Tryz.f135 1 u135P,
 hd Tryz.f135 1 u135P,
 nr Tryz.f135,
 rt Tryz.f136 2 u136P,
 hd Tryz.f136 2 u136P,
 nr Tryz.f136,
 rt Tryz.f154 1 u154P,
 hd Tryz.f154 1 u154P,
 nr Tryz.f154,
 rt Tryz.f155 1 u155P,
 hd Tryz.f155 1 u155P,
 nr Tryz.f155,
 rt Tryz.f156 1 u156P,
 hd Tryz.f156 1 u156P,
 nr Tryz.f156,
 rt Tryz.f157 1 u157P,
 hd Tryz.f157 1 u157P,
 nr Tryz.f157,
 rt Tryz.f158 2 u158P,
 hd Tryz.f158 2 u158P,
 nr Tryz.f158) =
 (u4T0, [(1, u4T1)], false, u9T0, [(1, u9T1), (2, u9T2)], false, u10T0, [], false, u29T0, [(1, u29T1), (2, u29T2)], false, u30T0, [(1, u30T1), (2, u30T2), (3, u30T3)], false, u31T0, [(1, u31T1)], false, u32T0, [(1, u32T1), (2, u32T2), (3, u32T3), (4, u32T4)], false, u33T0, [(1, u33T1), (2, u33T2), (3, u33T3)], false, u34T0, [(1, u34T1), (2, u34T2), (3, u34T3)], false, u35T0, [(1, u35T1), (2, u35T2)], false, u62T0, [(1, u62T1)], false, u64T0, [(1, u64T1)], false, u65T0, [(1, u65T1)], false, u66T0, [(1, u66T1), (2, u66T2)], false, u67T0, [(1, u67T1)], false, u68T0, [(1, u68T1)], false, u69T0, [(1, u69T1)], false, u70T0, [], false, u71T0, [], false, u72T0, [], false, u73T0, [], false, u74T0, [(1, u74T1)], false, u75T0, [(1, u75T1)], false, u76T0, [(1, u76T1)], false, u77T0, [(1, u77T1), (2, u77T2), (3, u77T3), (4, u77T4)], false, u78T0, [(1, u78T1)], false, u79T0, [(1, u79T1)], false, u104T0, [(1, u104T1)], false, u105T0, [], false, u106T0, [(1, u106T1)], false, u107T0, [(1, u107T1), (2, u107T2)], false, u108T0, [(1, u108T1)], false, u109T0, [(1, u109T1)], false, u110T0, [(1, u110T1)], false, u111T0, [(1, u111T1)], false, u130T0, [(1, u130T1)], false, u131T0, [(1, u131T1)], false, u132T0, [], false, u133T0, [(1, u133T1)], false, u134T0, [], false, u135T0, [], false, u136T0, [], false, u154T0, [], false, u155T0, [], false, u156T0, [(1, u156T1)], false, u157T0, [(1, u157T1)], false, u158T0, [(1, u158T1)], false) := by kernel_rfl
theorem u4 {ds : List D} {d : D} (hn : ds.length = 1) (h : Goes EE (Holds EE) u4Ts 0 ds d) : Holds EE 4 ds d :=
 hu Tryz.func4 rfl ((Prod.mk.inj all1).1) ((Prod.mk.inj (nx1 all1)).1) ((Prod.mk.inj (nx1 (nx1 all1))).1) (tabC rfl <| tabN) hn h
theorem u9 {ds : List D} {d : D} (hn : ds.length = 1) (h : Goes EE (Holds EE) u9Ts 0 ds d) : Holds EE 9 ds d :=
 hu Tryz.func9 rfl ((Prod.mk.inj (nx1 (nx1 (nx1 all1)))).1) ((Prod.mk.inj (nx4 all1)).1) ((Prod.mk.inj (nx1 (nx4 all1))).1) (tabC rfl <| tabC rfl <| tabN) hn h
theorem u10 {ds : List D} {d : D} (hn : ds.length = 1) (h : Goes EE (Holds EE) u10Ts 0 ds d) : Holds EE 10 ds d :=
 hu Tryz.func10 rfl ((Prod.mk.inj (nx1 (nx1 (nx4 all1)))).1) ((Prod.mk.inj (nx1 (nx1 (nx1 (nx4 all1))))).1) ((Prod.mk.inj (nx4 (nx4 all1))).1) (tabN) hn h
theorem u29 {ds : List D} {d : D} (hn : ds.length = 1) (h : Goes EE (Holds EE) u29Ts 0 ds d) : Holds EE 29 ds d :=
 hu Tryz.func29 rfl ((Prod.mk.inj (nx1 (nx4 (nx4 all1)))).1) ((Prod.mk.inj (nx1 (nx1 (nx4 (nx4 all1))))).1) ((Prod.mk.inj (nx1 (nx1 (nx1 (nx4 (nx4 all1)))))).1) (tabC rfl <| tabC rfl <| tabN) hn h
theorem u30 {ds : List D} {d : D} (hn : ds.length = 2) (h : Goes EE (Holds EE) u30Ts 0 ds d) : Holds EE 30 ds d :=
 hu Tryz.func30 rfl ((Prod.mk.inj (nx4 (nx4 (nx4 all1)))).1) ((Prod.mk.inj (nx1 (nx4 (nx4 (nx4 all1))))).1) ((Prod.mk.inj (nx1 (nx1 (nx4 (nx4 (nx4 all1)))))).1) (tabC rfl <| tabC rfl <| tabC rfl <| tabN) hn h
theorem u31 {ds : List D} {d : D} (hn : ds.length = 1) (h : Goes EE (Holds EE) u31Ts 0 ds d) : Holds EE 31 ds d :=
 hu Tryz.func31 rfl ((Prod.mk.inj (nx1 (nx1 (nx1 (nx4 (nx4 (nx4 all1))))))).1) ((Prod.mk.inj (nx16 all1)).1) ((Prod.mk.inj (nx1 (nx16 all1))).1) (tabC rfl <| tabN) hn h
theorem u32 {ds : List D} {d : D} (hn : ds.length = 1) (h : Goes EE (Holds EE) u32Ts 0 ds d) : Holds EE 32 ds d :=
 hu Tryz.func32 rfl ((Prod.mk.inj (nx1 (nx1 (nx16 all1)))).1) ((Prod.mk.inj (nx1 (nx1 (nx1 (nx16 all1))))).1) ((Prod.mk.inj (nx4 (nx16 all1))).1) (tabC rfl <| tabC rfl <| tabC rfl <| tabC rfl <| tabN) hn h
theorem u33 {ds : List D} {d : D} (hn : ds.length = 2) (h : Goes EE (Holds EE) u33Ts 0 ds d) : Holds EE 33 ds d :=
 hu Tryz.func33 rfl ((Prod.mk.inj (nx1 (nx4 (nx16 all1)))).1) ((Prod.mk.inj (nx1 (nx1 (nx4 (nx16 all1))))).1) ((Prod.mk.inj (nx1 (nx1 (nx1 (nx4 (nx16 all1)))))).1) (tabC rfl <| tabC rfl <| tabC rfl <| tabN) hn h
theorem u34 {ds : List D} {d : D} (hn : ds.length = 1) (h : Goes EE (Holds EE) u34Ts 0 ds d) : Holds EE 34 ds d :=
 hu Tryz.func34 rfl ((Prod.mk.inj (nx4 (nx4 (nx16 all1)))).1) ((Prod.mk.inj (nx1 (nx4 (nx4 (nx16 all1))))).1) ((Prod.mk.inj (nx1 (nx1 (nx4 (nx4 (nx16 all1)))))).1) (tabC rfl <| tabC rfl <| tabC rfl <| tabN) hn h
theorem u35 {ds : List D} {d : D} (hn : ds.length = 1) (h : Goes EE (Holds EE) u35Ts 0 ds d) : Holds EE 35 ds d :=
 hu Tryz.func35 rfl ((Prod.mk.inj (nx1 (nx1 (nx1 (nx4 (nx4 (nx16 all1))))))).1) ((Prod.mk.inj (nx4 (nx4 (nx4 (nx16 all1))))).1) ((Prod.mk.inj (nx1 (nx4 (nx4 (nx4 (nx16 all1)))))).1) (tabC rfl <| tabC rfl <| tabN) hn h
theorem u62 {ds : List D} {d : D} (hn : ds.length = 2) (h : Goes EE (Holds EE) u62Ts 0 ds d) : Holds EE 62 ds d :=
 hu Tryz.func62 rfl ((Prod.mk.inj (nx1 (nx1 (nx4 (nx4 (nx4 (nx16 all1))))))).1) ((Prod.mk.inj (nx1 (nx1 (nx1 (nx4 (nx4 (nx4 (nx16 all1)))))))).1) ((Prod.mk.inj (nx16 (nx16 all1))).1) (tabC rfl <| tabN) hn h
theorem u64 {ds : List D} {d : D} (hn : ds.length = 1) (h : Goes EE (Holds EE) u64Ts 0 ds d) : Holds EE 64 ds d :=
 hu Tryz.func64 rfl ((Prod.mk.inj (nx1 (nx16 (nx16 all1)))).1) ((Prod.mk.inj (nx1 (nx1 (nx16 (nx16 all1))))).1) ((Prod.mk.inj (nx1 (nx1 (nx1 (nx16 (nx16 all1)))))).1) (tabC rfl <| tabN) hn h
theorem u65 {ds : List D} {d : D} (hn : ds.length = 1) (h : Goes EE (Holds EE) u65Ts 0 ds d) : Holds EE 65 ds d :=
 hu Tryz.func65 rfl ((Prod.mk.inj (nx4 (nx16 (nx16 all1)))).1) ((Prod.mk.inj (nx1 (nx4 (nx16 (nx16 all1))))).1) ((Prod.mk.inj (nx1 (nx1 (nx4 (nx16 (nx16 all1)))))).1) (tabC rfl <| tabN) hn h
theorem u66 {ds : List D} {d : D} (hn : ds.length = 3) (h : Goes EE (Holds EE) u66Ts 0 ds d) : Holds EE 66 ds d :=
 hu Tryz.func66 rfl ((Prod.mk.inj (nx1 (nx1 (nx1 (nx4 (nx16 (nx16 all1))))))).1) ((Prod.mk.inj (nx4 (nx4 (nx16 (nx16 all1))))).1) ((Prod.mk.inj (nx1 (nx4 (nx4 (nx16 (nx16 all1)))))).1) (tabC rfl <| tabC rfl <| tabN) hn h
theorem u67 {ds : List D} {d : D} (hn : ds.length = 1) (h : Goes EE (Holds EE) u67Ts 0 ds d) : Holds EE 67 ds d :=
 hu Tryz.func67 rfl ((Prod.mk.inj (nx1 (nx1 (nx4 (nx4 (nx16 (nx16 all1))))))).1) ((Prod.mk.inj (nx1 (nx1 (nx1 (nx4 (nx4 (nx16 (nx16 all1)))))))).1) ((Prod.mk.inj (nx4 (nx4 (nx4 (nx16 (nx16 all1)))))).1) (tabC rfl <| tabN) hn h
theorem u68 {ds : List D} {d : D} (hn : ds.length = 2) (h : Goes EE (Holds EE) u68Ts 0 ds d) : Holds EE 68 ds d :=
 hu Tryz.func68 rfl ((Prod.mk.inj (nx1 (nx4 (nx4 (nx4 (nx16 (nx16 all1))))))).1) ((Prod.mk.inj (nx1 (nx1 (nx4 (nx4 (nx4 (nx16 (nx16 all1)))))))).1) ((Prod.mk.inj (nx1 (nx1 (nx1 (nx4 (nx4 (nx4 (nx16 (nx16 all1))))))))).1) (tabC rfl <| tabN) hn h
theorem u69 {ds : List D} {d : D} (hn : ds.length = 2) (h : Goes EE (Holds EE) u69Ts 0 ds d) : Holds EE 69 ds d :=
 hu Tryz.func69 rfl ((Prod.mk.inj (nx16 (nx16 (nx16 all1)))).1) ((Prod.mk.inj (nx1 (nx16 (nx16 (nx16 all1))))).1) ((Prod.mk.inj (nx1 (nx1 (nx16 (nx16 (nx16 all1)))))).1) (tabC rfl <| tabN) hn h
theorem u70 {ds : List D} {d : D} (hn : ds.length = 2) (h : Goes EE (Holds EE) u70Ts 0 ds d) : Holds EE 70 ds d :=
 hu Tryz.func70 rfl ((Prod.mk.inj (nx1 (nx1 (nx1 (nx16 (nx16 (nx16 all1))))))).1) ((Prod.mk.inj (nx4 (nx16 (nx16 (nx16 all1))))).1) ((Prod.mk.inj (nx1 (nx4 (nx16 (nx16 (nx16 all1)))))).1) (tabN) hn h
theorem u71 {ds : List D} {d : D} (hn : ds.length = 2) (h : Goes EE (Holds EE) u71Ts 0 ds d) : Holds EE 71 ds d :=
 hu Tryz.func71 rfl ((Prod.mk.inj (nx1 (nx1 (nx4 (nx16 (nx16 (nx16 all1))))))).1) ((Prod.mk.inj (nx1 (nx1 (nx1 (nx4 (nx16 (nx16 (nx16 all1)))))))).1) ((Prod.mk.inj (nx4 (nx4 (nx16 (nx16 (nx16 all1)))))).1) (tabN) hn h
theorem u72 {ds : List D} {d : D} (hn : ds.length = 2) (h : Goes EE (Holds EE) u72Ts 0 ds d) : Holds EE 72 ds d :=
 hu Tryz.func72 rfl ((Prod.mk.inj (nx1 (nx4 (nx4 (nx16 (nx16 (nx16 all1))))))).1) ((Prod.mk.inj (nx1 (nx1 (nx4 (nx4 (nx16 (nx16 (nx16 all1)))))))).1) ((Prod.mk.inj (nx1 (nx1 (nx1 (nx4 (nx4 (nx16 (nx16 (nx16 all1))))))))).1) (tabN) hn h
theorem u73 {ds : List D} {d : D} (hn : ds.length = 1) (h : Goes EE (Holds EE) u73Ts 0 ds d) : Holds EE 73 ds d :=
 hu Tryz.func73 rfl ((Prod.mk.inj (nx4 (nx4 (nx4 (nx16 (nx16 (nx16 all1))))))).1) ((Prod.mk.inj (nx1 (nx4 (nx4 (nx4 (nx16 (nx16 (nx16 all1)))))))).1) ((Prod.mk.inj (nx1 (nx1 (nx4 (nx4 (nx4 (nx16 (nx16 (nx16 all1))))))))).1) (tabN) hn h
theorem u74 {ds : List D} {d : D} (hn : ds.length = 2) (h : Goes EE (Holds EE) u74Ts 0 ds d) : Holds EE 74 ds d :=
 hu Tryz.func74 rfl ((Prod.mk.inj (nx1 (nx1 (nx1 (nx4 (nx4 (nx4 (nx16 (nx16 (nx16 all1)))))))))).1) ((Prod.mk.inj (nx64 all1)).1) ((Prod.mk.inj (nx1 (nx64 all1))).1) (tabC rfl <| tabN) hn h
theorem u75 {ds : List D} {d : D} (hn : ds.length = 2) (h : Goes EE (Holds EE) u75Ts 0 ds d) : Holds EE 75 ds d :=
 hu Tryz.func75 rfl ((Prod.mk.inj (nx1 (nx1 (nx64 all1)))).1) ((Prod.mk.inj (nx1 (nx1 (nx1 (nx64 all1))))).1) ((Prod.mk.inj (nx4 (nx64 all1))).1) (tabC rfl <| tabN) hn h
theorem u76 {ds : List D} {d : D} (hn : ds.length = 2) (h : Goes EE (Holds EE) u76Ts 0 ds d) : Holds EE 76 ds d :=
 hu Tryz.func76 rfl ((Prod.mk.inj (nx1 (nx4 (nx64 all1)))).1) ((Prod.mk.inj (nx1 (nx1 (nx4 (nx64 all1))))).1) ((Prod.mk.inj (nx1 (nx1 (nx1 (nx4 (nx64 all1)))))).1) (tabC rfl <| tabN) hn h
theorem u77 {ds : List D} {d : D} (hn : ds.length = 3) (h : Goes EE (Holds EE) u77Ts 0 ds d) : Holds EE 77 ds d :=
 hu Tryz.func77 rfl ((Prod.mk.inj (nx4 (nx4 (nx64 all1)))).1) ((Prod.mk.inj (nx1 (nx4 (nx4 (nx64 all1))))).1) ((Prod.mk.inj (nx1 (nx1 (nx4 (nx4 (nx64 all1)))))).1) (tabC rfl <| tabC rfl <| tabC rfl <| tabC rfl <| tabN) hn h
theorem u78 {ds : List D} {d : D} (hn : ds.length = 2) (h : Goes EE (Holds EE) u78Ts 0 ds d) : Holds EE 78 ds d :=
 hu Tryz.func78 rfl ((Prod.mk.inj (nx1 (nx1 (nx1 (nx4 (nx4 (nx64 all1))))))).1) ((Prod.mk.inj (nx4 (nx4 (nx4 (nx64 all1))))).1) ((Prod.mk.inj (nx1 (nx4 (nx4 (nx4 (nx64 all1)))))).1) (tabC rfl <| tabN) hn h
theorem u79 {ds : List D} {d : D} (hn : ds.length = 2) (h : Goes EE (Holds EE) u79Ts 0 ds d) : Holds EE 79 ds d :=
 hu Tryz.func79 rfl ((Prod.mk.inj (nx1 (nx1 (nx4 (nx4 (nx4 (nx64 all1))))))).1) ((Prod.mk.inj (nx1 (nx1 (nx1 (nx4 (nx4 (nx4 (nx64 all1)))))))).1) ((Prod.mk.inj (nx16 (nx64 all1))).1) (tabC rfl <| tabN) hn h
theorem u104 {ds : List D} {d : D} (hn : ds.length = 1) (h : Goes EE (Holds EE) u104Ts 0 ds d) : Holds EE 104 ds d :=
 hu Tryz.func104 rfl ((Prod.mk.inj (nx1 (nx16 (nx64 all1)))).1) ((Prod.mk.inj (nx1 (nx1 (nx16 (nx64 all1))))).1) ((Prod.mk.inj (nx1 (nx1 (nx1 (nx16 (nx64 all1)))))).1) (tabC rfl <| tabN) hn h
theorem u105 {ds : List D} {d : D} (hn : ds.length = 2) (h : Goes EE (Holds EE) u105Ts 0 ds d) : Holds EE 105 ds d :=
 hu Tryz.func105 rfl ((Prod.mk.inj (nx4 (nx16 (nx64 all1)))).1) ((Prod.mk.inj (nx1 (nx4 (nx16 (nx64 all1))))).1) ((Prod.mk.inj (nx1 (nx1 (nx4 (nx16 (nx64 all1)))))).1) (tabN) hn h
theorem u106 {ds : List D} {d : D} (hn : ds.length = 1) (h : Goes EE (Holds EE) u106Ts 0 ds d) : Holds EE 106 ds d :=
 hu Tryz.func106 rfl ((Prod.mk.inj (nx1 (nx1 (nx1 (nx4 (nx16 (nx64 all1))))))).1) ((Prod.mk.inj (nx4 (nx4 (nx16 (nx64 all1))))).1) ((Prod.mk.inj (nx1 (nx4 (nx4 (nx16 (nx64 all1)))))).1) (tabC rfl <| tabN) hn h
theorem u107 {ds : List D} {d : D} (hn : ds.length = 2) (h : Goes EE (Holds EE) u107Ts 0 ds d) : Holds EE 107 ds d :=
 hu Tryz.func107 rfl ((Prod.mk.inj (nx1 (nx1 (nx4 (nx4 (nx16 (nx64 all1))))))).1) ((Prod.mk.inj (nx1 (nx1 (nx1 (nx4 (nx4 (nx16 (nx64 all1)))))))).1) ((Prod.mk.inj (nx4 (nx4 (nx4 (nx16 (nx64 all1)))))).1) (tabC rfl <| tabC rfl <| tabN) hn h
theorem u108 {ds : List D} {d : D} (hn : ds.length = 1) (h : Goes EE (Holds EE) u108Ts 0 ds d) : Holds EE 108 ds d :=
 hu Tryz.func108 rfl ((Prod.mk.inj (nx1 (nx4 (nx4 (nx4 (nx16 (nx64 all1))))))).1) ((Prod.mk.inj (nx1 (nx1 (nx4 (nx4 (nx4 (nx16 (nx64 all1)))))))).1) ((Prod.mk.inj (nx1 (nx1 (nx1 (nx4 (nx4 (nx4 (nx16 (nx64 all1))))))))).1) (tabC rfl <| tabN) hn h
theorem u109 {ds : List D} {d : D} (hn : ds.length = 1) (h : Goes EE (Holds EE) u109Ts 0 ds d) : Holds EE 109 ds d :=
 hu Tryz.func109 rfl ((Prod.mk.inj (nx16 (nx16 (nx64 all1)))).1) ((Prod.mk.inj (nx1 (nx16 (nx16 (nx64 all1))))).1) ((Prod.mk.inj (nx1 (nx1 (nx16 (nx16 (nx64 all1)))))).1) (tabC rfl <| tabN) hn h
theorem u110 {ds : List D} {d : D} (hn : ds.length = 2) (h : Goes EE (Holds EE) u110Ts 0 ds d) : Holds EE 110 ds d :=
 hu Tryz.func110 rfl ((Prod.mk.inj (nx1 (nx1 (nx1 (nx16 (nx16 (nx64 all1))))))).1) ((Prod.mk.inj (nx4 (nx16 (nx16 (nx64 all1))))).1) ((Prod.mk.inj (nx1 (nx4 (nx16 (nx16 (nx64 all1)))))).1) (tabC rfl <| tabN) hn h
theorem u111 {ds : List D} {d : D} (hn : ds.length = 2) (h : Goes EE (Holds EE) u111Ts 0 ds d) : Holds EE 111 ds d :=
 hu Tryz.func111 rfl ((Prod.mk.inj (nx1 (nx1 (nx4 (nx16 (nx16 (nx64 all1))))))).1) ((Prod.mk.inj (nx1 (nx1 (nx1 (nx4 (nx16 (nx16 (nx64 all1)))))))).1) ((Prod.mk.inj (nx4 (nx4 (nx16 (nx16 (nx64 all1)))))).1) (tabC rfl <| tabN) hn h
theorem u130 {ds : List D} {d : D} (hn : ds.length = 2) (h : Goes EE (Holds EE) u130Ts 0 ds d) : Holds EE 130 ds d :=
 hu Tryz.func130 rfl ((Prod.mk.inj (nx1 (nx4 (nx4 (nx16 (nx16 (nx64 all1))))))).1) ((Prod.mk.inj (nx1 (nx1 (nx4 (nx4 (nx16 (nx16 (nx64 all1)))))))).1) ((Prod.mk.inj (nx1 (nx1 (nx1 (nx4 (nx4 (nx16 (nx16 (nx64 all1))))))))).1) (tabC rfl <| tabN) hn h
theorem u131 {ds : List D} {d : D} (hn : ds.length = 2) (h : Goes EE (Holds EE) u131Ts 0 ds d) : Holds EE 131 ds d :=
 hu Tryz.func131 rfl ((Prod.mk.inj (nx4 (nx4 (nx4 (nx16 (nx16 (nx64 all1))))))).1) ((Prod.mk.inj (nx1 (nx4 (nx4 (nx4 (nx16 (nx16 (nx64 all1)))))))).1) ((Prod.mk.inj (nx1 (nx1 (nx4 (nx4 (nx4 (nx16 (nx16 (nx64 all1))))))))).1) (tabC rfl <| tabN) hn h
theorem u132 {ds : List D} {d : D} (hn : ds.length = 1) (h : Goes EE (Holds EE) u132Ts 0 ds d) : Holds EE 132 ds d :=
 hu Tryz.func132 rfl ((Prod.mk.inj (nx1 (nx1 (nx1 (nx4 (nx4 (nx4 (nx16 (nx16 (nx64 all1)))))))))).1) ((Prod.mk.inj (nx16 (nx16 (nx16 (nx64 all1))))).1) ((Prod.mk.inj (nx1 (nx16 (nx16 (nx16 (nx64 all1)))))).1) (tabN) hn h
theorem u133 {ds : List D} {d : D} (hn : ds.length = 2) (h : Goes EE (Holds EE) u133Ts 0 ds d) : Holds EE 133 ds d :=
 hu Tryz.func133 rfl ((Prod.mk.inj (nx1 (nx1 (nx16 (nx16 (nx16 (nx64 all1))))))).1) ((Prod.mk.inj (nx1 (nx1 (nx1 (nx16 (nx16 (nx16 (nx64 all1)))))))).1) ((Prod.mk.inj (nx4 (nx16 (nx16 (nx16 (nx64 all1)))))).1) (tabC rfl <| tabN) hn h
theorem u134 {ds : List D} {d : D} (hn : ds.length = 2) (h : Goes EE (Holds EE) u134Ts 0 ds d) : Holds EE 134 ds d :=
 hu Tryz.func134 rfl ((Prod.mk.inj (nx1 (nx4 (nx16 (nx16 (nx16 (nx64 all1))))))).1) ((Prod.mk.inj (nx1 (nx1 (nx4 (nx16 (nx16 (nx16 (nx64 all1)))))))).1) ((Prod.mk.inj (nx1 (nx1 (nx1 (nx4 (nx16 (nx16 (nx16 (nx64 all1))))))))).1) (tabN) hn h
theorem u135 {ds : List D} {d : D} (hn : ds.length = 1) (h : Goes EE (Holds EE) u135Ts 0 ds d) : Holds EE 135 ds d :=
 hu Tryz.func135 rfl ((Prod.mk.inj (nx4 (nx4 (nx16 (nx16 (nx16 (nx64 all1))))))).1) ((Prod.mk.inj (nx1 (nx4 (nx4 (nx16 (nx16 (nx16 (nx64 all1)))))))).1) ((Prod.mk.inj (nx1 (nx1 (nx4 (nx4 (nx16 (nx16 (nx16 (nx64 all1))))))))).1) (tabN) hn h
theorem u136 {ds : List D} {d : D} (hn : ds.length = 2) (h : Goes EE (Holds EE) u136Ts 0 ds d) : Holds EE 136 ds d :=
 hu Tryz.func136 rfl ((Prod.mk.inj (nx1 (nx1 (nx1 (nx4 (nx4 (nx16 (nx16 (nx16 (nx64 all1)))))))))).1) ((Prod.mk.inj (nx4 (nx4 (nx4 (nx16 (nx16 (nx16 (nx64 all1)))))))).1) ((Prod.mk.inj (nx1 (nx4 (nx4 (nx4 (nx16 (nx16 (nx16 (nx64 all1))))))))).1) (tabN) hn h
theorem u154 {ds : List D} {d : D} (hn : ds.length = 1) (h : Goes EE (Holds EE) u154Ts 0 ds d) : Holds EE 154 ds d :=
 hu Tryz.func154 rfl ((Prod.mk.inj (nx1 (nx1 (nx4 (nx4 (nx4 (nx16 (nx16 (nx16 (nx64 all1)))))))))).1) ((Prod.mk.inj (nx1 (nx1 (nx1 (nx4 (nx4 (nx4 (nx16 (nx16 (nx16 (nx64 all1))))))))))).1) ((Prod.mk.inj (nx16 (nx16 (nx16 (nx16 (nx64 all1)))))).1) (tabN) hn h
theorem u155 {ds : List D} {d : D} (hn : ds.length = 1) (h : Goes EE (Holds EE) u155Ts 0 ds d) : Holds EE 155 ds d :=
 hu Tryz.func155 rfl ((Prod.mk.inj (nx1 (nx16 (nx16 (nx16 (nx16 (nx64 all1))))))).1) ((Prod.mk.inj (nx1 (nx1 (nx16 (nx16 (nx16 (nx16 (nx64 all1)))))))).1) ((Prod.mk.inj (nx1 (nx1 (nx1 (nx16 (nx16 (nx16 (nx16 (nx64 all1))))))))).1) (tabN) hn h
theorem u156 {ds : List D} {d : D} (hn : ds.length = 1) (h : Goes EE (Holds EE) u156Ts 0 ds d) : Holds EE 156 ds d :=
 hu Tryz.func156 rfl ((Prod.mk.inj (nx4 (nx16 (nx16 (nx16 (nx16 (nx64 all1))))))).1) ((Prod.mk.inj (nx1 (nx4 (nx16 (nx16 (nx16 (nx16 (nx64 all1)))))))).1) ((Prod.mk.inj (nx1 (nx1 (nx4 (nx16 (nx16 (nx16 (nx16 (nx64 all1))))))))).1) (tabC rfl <| tabN) hn h
theorem u157 {ds : List D} {d : D} (hn : ds.length = 1) (h : Goes EE (Holds EE) u157Ts 0 ds d) : Holds EE 157 ds d :=
 hu Tryz.func157 rfl ((Prod.mk.inj (nx1 (nx1 (nx1 (nx4 (nx16 (nx16 (nx16 (nx16 (nx64 all1)))))))))).1) ((Prod.mk.inj (nx4 (nx4 (nx16 (nx16 (nx16 (nx16 (nx64 all1)))))))).1) ((Prod.mk.inj (nx1 (nx4 (nx4 (nx16 (nx16 (nx16 (nx16 (nx64 all1))))))))).1) (tabC rfl <| tabN) hn h
theorem u158 {ds : List D} {d : D} (hn : ds.length = 2) (h : Goes EE (Holds EE) u158Ts 0 ds d) : Holds EE 158 ds d :=
 hu Tryz.func158 rfl ((Prod.mk.inj (nx1 (nx1 (nx4 (nx4 (nx16 (nx16 (nx16 (nx16 (nx64 all1)))))))))).1) ((Prod.mk.inj (nx1 (nx1 (nx1 (nx4 (nx4 (nx16 (nx16 (nx16 (nx16 (nx64 all1))))))))))).1) ((nx4 (nx4 (nx4 (nx16 (nx16 (nx16 (nx16 (nx64 all1))))))))) (tabC rfl <| tabN) hn h
end Go.Proofs.YtbdamohgaleajaaGreatDoor
