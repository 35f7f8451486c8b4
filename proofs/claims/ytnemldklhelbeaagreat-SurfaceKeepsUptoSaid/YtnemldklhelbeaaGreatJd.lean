/- Trees of functions. Conditions: none. -/
import Derived.Test.YtnemldklhelbeaaGreatJa
set_option linter.unusedVariables false
set_option linter.unusedSimpArgs false
namespace Go.Proofs.YtnemldklhelbeaaGreat
open Go Go.Am Go.Proofs
def u5P:Nat→Pat
 | _=>⟨[],[],[],[]⟩
def u5T0:Tree :=
 .bind (.chk true 9) [.v 0] <|
 .bind (.chk true 1) [.v 1] <|
 .call (.fn 12) [.v 2] 1 <|
 .bind (.un .not 4) [.v 4] <|
 it' 5 (
  .call (.fn 9) [] 1 <|
  .ret [.v 6]) (
  .call (.fn 13) [.v 3] 1 <|
  .bind (.un .not 4) [.v 6] <|
  it' 7 (
   .call (.fn 9) [] 1 <|
   .ret [.v 8]) (
   .call (.fn 14) [.v 2,.v 3] 0 <|
   .bind (.ext 0) [.v 8] <|
   .bind (.ext 1) [.v 8] <|
   .call (.fn 18) [.v 2,.v 3] 1 <|
   .bind (.bin .neq 39 (.tmp 26) (K' 0)) [.v 11,k' 0] <|
   it' 12 (
    .bind (.bin .eql 39 (.tmp 28) (.tmp 29)) [.v 10,.v 11] <|
    it' 13 (
     ln' 9 <|
     bk' .eql 33 0 14 <|
     it' 15 (
      .call (.fn 9) [] 1 <|
      .ret [.v 16]) (
      rb' false)) (
     rb' false)) (
    .bind (.bin .neq 39 (.tmp 39) (K' 0)) [.v 10,k' 0] <|
    it' 13 (
     .bind (.bin .eql 39 (.tmp 41) (K' 23)) [.v 10,k' 23] <|
     it' 14 (
      ln' 9 <|
      bk' .eql 45 0 15 <|
      it' 16 (
       .call (.fn 9) [] 1 <|
       .ret [.v 17]) (
       rb' false)) (
      rb' false)) (
     .call (.fn 21) [.v 2,.v 3] 0 <|
     ln' 14 <|
     fl' 0 3 <|
     ln' 16 <|
     bt' .eql 54 57 15 17 <|
     it' 18 (
      fl' 0 3 <|
      ln' 19 <|
      bk' .geq 62 1 20 <|
      it' 21 (
       fl' 0 3 <|
       ln' 22 <|
       bk' .leq 68 4 23 <|
       it' 24 (
        ln' 9 <|
        bk' .geq 73 1 25 <|
        it' 26 (
         ln' 9 <|
         .call (.fn 22) [.v 2,.v 3] 0 <|
         ln' 28 <|
         bt' .leq 78 82 27 29 <|
         it' 30 (
          .call (.fn 9) [] 1 <|
          .ret [.v 31]) (
          rb' false)) (
         rb' false)) (
        rb' false)) (
       rb' false)) (
      rb' false)))))
def u5Ts:Nat→Tree
 | 0=>u5T0
 | _=>.fail
def u13P:Nat→Pat
 | _=>⟨[],[],[],[]⟩
def u13T0:Tree :=
 .bind (.chk true 1) [.v 0] <|
 fl' 0 1 <|
 ln' 2 <|
 bk' .leq 5 20 3 <|
 .ret [.v 4]
def u13Ts:Nat→Tree
 | 0=>u13T0
 | _=>.fail
def u14P:Nat→Pat
 | _=>⟨[],[],[],[]⟩
def u14T0:Tree :=
 .bind (.chk true 9) [.v 0] <|
 .bind (.chk true 1) [.v 1] <|
 .call (.fn 18) [.v 2,.v 3] 1 <|
 .bind (.bin .neq 39 (.tmp 11) (K' 0)) [.v 4,k' 0] <|
 it' 5 (
  .ret [.c (.slice none 0 0),.v 4]) (
  .bind (.fld true 1 0) [.v 2] <|
  fl' 4 2 <|
  .call (.fn 22) [.v 2,.v 3] 0 <|
  .call (.fn 39) [.v 6,.v 7,.v 8] 0 <|
  ln' 9 <|
  bk' .eql 23 0 10 <|
  it' 11 (
   .ret [.c (.slice none 0 0),k' 23]) (
   .ret [.v 9,k' 0]))
def u14Ts:Nat→Tree
 | 0=>u14T0
 | _=>.fail
def u18P:Nat→Pat
 | 1=>⟨[⟨.pure,true⟩,⟨.pure,true⟩,⟨.pure,true⟩,⟨.pure,false⟩,⟨.pure,false⟩],[(2,.loc 0 0),(3,.loc 1 0),(21,.v 0),(22,.v 1),(23,.v 2)],[some (.whole (.v 3) 9),some (.whole (.v 4) 1)],[]⟩
 | _=>⟨[],[],[],[]⟩
def u18T0:Tree :=
 .bind (.chk true 9) [.v 0] <|
 .bind (.chk true 1) [.v 1] <|
 fl' 0 3 <|
 ln' 4 <|
 bk' .eql 14 0 5 <|
 it' 6 (
  rk' 4) (
  fl' 0 3 <|
  ln' 7 <|
  bk' .gtr 18 4 8 <|
  it' 9 (
   rk' 11) (
   fl' 0 3 <|
   ln' 10 <|
   .jump 1 [.v 10,.v 11,k' 0,.v 2,.v 3]))
def u18T1:Tree :=
 bt' .lss 23 22 2 1 <|
 it' 5 (
  ir' 0 2 <|
  .bind (.elem 3 true 3 0) [.v 0,.v 2] <|
  .bind (.chk true 3) [.v 7] <|
  fl' 8 3 <|
  fl' 0 8 <|
  .call (.fn 43) [.v 9,.v 10] 0 <|
  .bind (.ext 0) [.v 11] <|
  .bind (.ext 1) [.v 11] <|
  .bind (.chk true 8) [.v 12] <|
  .bind (.un .not 4) [.v 13] <|
  it' 15 (
   rk' 9) (
   .call (.fn 44) [.v 3,.v 8] 0 <|
   .bind (.ext 0) [.v 16] <|
   .bind (.ext 1) [.v 16] <|
   .bind (.ext 2) [.v 16] <|
   .bind (.chk true 8) [.v 17] <|
   .bind (.un .not 4) [.v 19] <|
   it' 21 (
    rk' 2) (
    fl' 2 8 <|
    bk' .lss 47 0 22 <|
    it' 23 (
     rk' 22) (
     fl' 2 8 <|
     fl' 8 3 <|
     fl' 0 8 <|
     .call (.fn 45) [.v 25,.v 26] 0 <|
     ln' 27 <|
     bt' .geq 51 57 24 28 <|
     it' 29 (
      rk' 22) (
      bk' .add 23 1 2 <|
      .jump 1 [.v 0,.v 1,.v 30,.v 3,.v 4]))))) (
  .bind (.fld true 3 5) [.v 3] <|
  .call (.fn 21) [.v 3,.v 4] 0 <|
  .call (.fn 46) [.v 6,.v 7] 1 <|
  .bind (.un .not 4) [.v 8] <|
  it' 9 (
   rk' 21) (
   .call (.fn 22) [.v 3,.v 4] 0 <|
   ln' 10 <|
   bk' .gtr 71 24 11 <|
   it' 12 (
    rk' 5) (
    rk' 0)))
def u18Ts:Nat→Tree
 | 0=>u18T0
 | 1=>u18T1
 | _=>.fail
def u21P:Nat→Pat
 | 1=>⟨[⟨.fresh,true⟩,⟨.pure,true⟩,⟨.pure,true⟩,⟨.pure,true⟩,⟨.pure,false⟩],[(2,.loc 0 0),(5,.v 0),(12,.v 1),(13,.v 2),(14,.v 3)],[some (.whole (.v 4) 9)],[]⟩
 | _=>⟨[],[],[],[]⟩
def u21T0:Tree :=
 .bind (.chk true 9) [.v 0] <|
 .bind (.chk true 1) [.v 1] <|
 fl' 0 3 <|
 ln' 4 <|
 .jump 1 [.c (.slice none 0 0),.v 4,.v 5,k' 0,.v 2]
def u21T1:Tree :=
 bt' .lss 14 13 3 2 <|
 it' 5 (
  ir' 1 3 <|
  .bind (.elem 3 true 3 0) [.v 1,.v 3] <|
  .bind (.chk true 3) [.v 7] <|
  .call (.fn 44) [.v 4,.v 8] 0 <|
  .bind (.ext 0) [.v 9] <|
  .bind (.ext 1) [.v 9] <|
  .bind (.ext 2) [.v 9] <|
  .bind (.chk true 8) [.v 10] <|
  it' 12 (
   fl' 2 13 <|
   .bind (.chk false 1) [.v 14] <|
   .bind (.lit 3 1) [.v 14] <|
   .bind (.app 3 1 8) [.v 0,.v 16] <|
   bk' .add 14 1 3 <|
   .jump 1 [.v 17,.v 1,.v 2,.v 18,.v 4]) (
   bk' .add 14 1 3 <|
   .jump 1 [.v 0,.v 1,.v 2,.v 14,.v 4])) (
  .ret [.v 0])
def u21Ts:Nat→Tree
 | 0=>u21T0
 | 1=>u21T1
 | _=>.fail
def u22P:Nat→Pat
 | 1=>⟨[⟨.fresh,true⟩,⟨.pure,true⟩,⟨.pure,true⟩,⟨.pure,true⟩,⟨.pure,false⟩],[(2,.loc 0 0),(5,.v 0),(12,.v 1),(13,.v 2),(14,.v 3)],[some (.whole (.v 4) 9)],[]⟩
 | _=>⟨[],[],[],[]⟩
def u22T0:Tree :=
 .bind (.chk true 9) [.v 0] <|
 .bind (.chk true 1) [.v 1] <|
 fl' 0 3 <|
 ln' 4 <|
 .jump 1 [.c (.slice none 0 0),.v 4,.v 5,k' 0,.v 2]
def u22T1:Tree :=
 bt' .lss 14 13 3 2 <|
 it' 5 (
  ir' 1 3 <|
  .bind (.elem 3 true 3 0) [.v 1,.v 3] <|
  .bind (.chk true 3) [.v 7] <|
  .call (.fn 44) [.v 4,.v 8] 0 <|
  .bind (.ext 0) [.v 9] <|
  .bind (.ext 1) [.v 9] <|
  .bind (.ext 2) [.v 9] <|
  .bind (.chk true 8) [.v 10] <|
  it' 12 (
   .bind (.app 3 1 8) [.v 0,.v 11] <|
   bk' .add 14 1 3 <|
   .jump 1 [.v 14,.v 1,.v 2,.v 15,.v 4]) (
   bk' .add 14 1 3 <|
   .jump 1 [.v 0,.v 1,.v 2,.v 14,.v 4])) (
  .ret [.v 0])
def u22Ts:Nat→Tree
 | 0=>u22T0
 | 1=>u22T1
 | _=>.fail
def u39P:Nat→Pat
 | 1=>⟨[⟨.pure,false⟩,⟨.pure,false⟩,⟨.pure,true⟩,⟨.pure,true⟩,⟨.pure,false⟩],[(2,.v 0),(3,.loc 0 0),(9,.v 1),(10,.v 2),(11,.v 3)],[some (.whole (.v 4) 1)],[]⟩
 | _=>⟨[],[],[],[]⟩
def u39T0:Tree :=
 .bind (.chk true 1) [.v 0] <|
 ln' 1 <|
 .jump 1 [.v 2,.v 1,.v 4,k' 0,.v 3]
def u39T1:Tree :=
 bt' .lss 11 10 3 2 <|
 it' 5 (
  ir' 1 3 <|
  .bind (.elem 6 true 6 0) [.v 1,.v 3] <|
  .bind (.chk true 6) [.v 7] <|
  .call (.fn 74) [.v 4,.v 8,.v 0] 0 <|
  bk' .add 11 1 3 <|
  .jump 1 [.v 9,.v 1,.v 2,.v 10,.v 4]) (
  .ret [.v 0])
def u39Ts:Nat→Tree
 | 0=>u39T0
 | 1=>u39T1
 | _=>.fail
def u43P:Nat→Pat
 | _=>⟨[],[],[],[]⟩
def u43T0:Tree :=
 .bind (.chk false 1) [.v 1] <|
 .bind .box [.v 2] <|
 .call (.fn 79) [.v 0,.fn (.func 80) [] [.pp 3 0]] 1 <|
 bk' .lss 10 0 4 <|
 it' 5 (
  .ret [.agg [k' 0,.c (.slice none 0 0),k' 0,.c (.slice none 0 0),k' 0,.c (.slice none 0 0),.c (.slice none 0 0),.c (.slice none 0 0)],.c (.bool false)]) (
  ir' 0 4 <|
  .bind (.elem 8 true 8 0) [.v 0,.v 4] <|
  .bind (.chk true 8) [.v 7] <|
  .ret [.v 8,.c (.bool true)])
def u43Ts:Nat→Tree
 | 0=>u43T0
 | _=>.fail
def u44P:Nat→Pat
 | _=>⟨[],[],[],[]⟩
def u44T0:Tree :=
 .bind (.chk true 9) [.v 0] <|
 .bind (.chk true 3) [.v 1] <|
 fl' 8 2 <|
 fl' 0 3 <|
 .call (.fn 43) [.v 4,.v 5] 0 <|
 .bind (.ext 0) [.v 6] <|
 .bind (.ext 1) [.v 6] <|
 .bind (.chk true 8) [.v 7] <|
 .call (.fn 81) [.v 9] 0 <|
 .bind (.un .not 4) [.v 8] <|
 it' 11 (
  .bind (.chk true 8) [.v 9] <|
  .ret [.v 12,.c (.slice none 0 0),.c (.bool false)]) (
  fl' 1 3 <|
  bk' .lss 24 0 12 <|
  it' 13 (
   .bind (.chk true 8) [.v 9] <|
   .ret [.v 14,.c (.slice none 0 0),.c (.bool false)]) (
   fl' 1 3 <|
   ln' 10 <|
   bt' .geq 29 31 14 15 <|
   it' 16 (
    .bind (.chk true 8) [.v 9] <|
    .ret [.v 17,.c (.slice none 0 0),.c (.bool false)]) (
    fl' 1 3 <|
    ir' 10 17 <|
    el' 1 0 10 17 <|
    .bind (.chk true 8) [.v 9] <|
    ir' 10 17 <|
    .ret [.v 20,.v 19,.c (.bool true)])))
def u44Ts:Nat→Tree
 | 0=>u44T0
 | _=>.fail
def u45P:Nat→Pat
 | 1000=>⟨[⟨.pure,true⟩,⟨.pure,true⟩,⟨.pure,true⟩,⟨.pure,true⟩],[(0,.yld 3),(1,.loc 1 0),(2,.loc 2 0),(8,.v 0),(9,.v 1)],[some (.cells [.c (.slice none 0 0)]),some (.cells [.v 2]),some (.cells [.v 3]),some (.loop 0 0)],[[(4,.loc 0 0)]]⟩
 | _=>⟨[],[],[none,none,none,none],[]⟩
def u45T0:Tree :=
 .bind (.chk false 1) [.v 0] <|
 .bind (.chk false 1) [.v 1] <|
 ln' 2 <|
 bk' .add 7 1 4 <|
 .jump 1000 [.v 5,k' 0,.v 2,.v 3]
def u45T1000:Tree :=
 bt' .lss 9 8 1 0 <|
 it' 4 (
  .call (.fn 43) [.v 2,.v 3] 0 <|
  .bind (.ext 0) [.v 5] <|
  .bind (.ext 1) [.v 5] <|
  .bind (.chk true 8) [.v 6] <|
  .bind (.un .not 4) [.v 7] <|
  it' 9 (
   .ret [.c (.slice none 0 0)]) (
   .bind (.chk true 8) [.v 8] <|
   fl' 5 10 <|
   ln' 11 <|
   bk' .gtr 12 0 12 <|
   it' 13 (
    fl' 5 10 <|
    .call (.fn 83) [.v 14] 0 <|
    .bind (.chk false 1) [.v 15] <|
    .ret [.v 16]) (
    fl' 4 8 <|
    bk' .eql 27 0 14 <|
    it' 15 (
     .ret [.c (.slice none 0 0)]) (
     fl' 4 8 <|
     bk' .add 9 1 1 <|
     .jump 1000 [.v 0,.v 17,.v 2,.v 16])))) (
  .ret [.c (.slice none 0 0)])
def u45Ts:Nat→Tree
 | 0=>u45T0
 | 1000=>u45T1000
 | _=>.fail
noncomputable def u45I:Inl:=[(103,Tryz.f103,bodyOf Tryz.f103),(82,Tryz.f82,bodyOf Tryz.f82)]
noncomputable def u45Z:Nat→Nat:=fun k=>bif Nat.ble 1000 k then Nat.max Tryz.f103.ntmps 3 else Nat.max Tryz.f45.ntmps 2
def u46P:Nat→Pat
 | _=>⟨[],[],[],[]⟩
def u46T0:Tree :=
 .bind (.chk true 3) [.v 0] <|
 .call (.fn 84) [.v 2,.v 1] 1 <|
 .call (.fn 85) [.v 2] 1 <|
 .bind (.bin .and 152 (.tmp 7) (.tmp 9)) [.v 3,.v 4] <|
 .bind (.bin .neq 152 (.tmp 10) (.const (.int .u32 0))) [.v 5,.c (.int .u32 0)] <|
 .ret [.v 6]
def u46Ts:Nat→Tree
 | 0=>u46T0
 | _=>.fail
def u74P:Nat→Pat
 | 1=>⟨[⟨.pure,false⟩,⟨.fresh,true⟩,⟨.pure,true⟩,⟨.pure,true⟩,⟨.pure,false⟩,⟨.pure,false⟩],[(2,.v 0),(3,.loc 0 0),(4,.loc 1 0),(7,.v 1),(10,.v 0),(11,.v 2),(12,.v 3)],[some (.whole (.v 4) 1),some (.whole (.v 5) 6)],[]⟩
 | _=>⟨[],[],[],[]⟩
def u74T0:Tree :=
 .bind (.chk true 1) [.v 0] <|
 .bind (.chk true 6) [.v 1] <|
 ln' 2 <|
 .jump 1 [.v 2,.c (.slice none 0 0),.v 5,k' 0,.v 3,.v 4]
def u74T1:Tree :=
 bt' .lss 12 11 3 2 <|
 it' 6 (
  ir' 0 3 <|
  el' 1 0 0 3 <|
  .call (.fn 100) [.v 4,.v 5,.v 0,.v 3] 1 <|
  it' 9 (
   fl' 1 5 <|
   fl' 0 5 <|
   .call (.fn 101) [.v 11,.v 8] 1 <|
   ir' 10 12 <|
   el' 1 0 10 12 <|
   bk' .eql 30 0 14 <|
   it' 15 (
    bk' .add 12 1 3 <|
    .jump 1 [.v 0,.v 1,.v 2,.v 16,.v 4,.v 5]) (
    .bind (.chk false 1) [.v 14] <|
    .bind (.lit 3 1) [.v 14] <|
    .bind (.app 3 1 8) [.v 1,.v 17] <|
    bk' .add 12 1 3 <|
    .jump 1 [.v 0,.v 18,.v 2,.v 19,.v 4,.v 5])) (
   .bind (.chk false 1) [.v 8] <|
   .bind (.lit 3 1) [.v 8] <|
   .bind (.app 3 1 8) [.v 1,.v 11] <|
   bk' .add 12 1 3 <|
   .jump 1 [.v 0,.v 12,.v 2,.v 13,.v 4,.v 5])) (
  .ret [.v 1])
def u74Ts:Nat→Tree
 | 0=>u74T0
 | 1=>u74T1
 | _=>.fail
def u79P:Nat→Pat
 | 1=>⟨[⟨.pure,false⟩,⟨.pure,false⟩,⟨.pure,true⟩,⟨.pure,true⟩],[(0,.v 0),(1,.v 1),(7,.v 2),(8,.v 3)],[],[]⟩
 | _=>⟨[],[],[],[]⟩
def u79T0:Tree :=
 ln' 0 <|
 .jump 1 [.v 0,.v 1,.v 2,k' 0]
def u79T1:Tree :=
 bt' .lss 8 7 3 2 <|
 it' 4 (
  ir' 0 3 <|
  .bind (.elem 8 true 8 0) [.v 0,.v 3] <|
  .call (.val (.v 1)) [.v 1,.v 6] 1 <|
  it' 7 (
   .ret [.v 3]) (
   bk' .add 8 1 3 <|
   .jump 1 [.v 0,.v 1,.v 2,.v 8])) (
  .ret [.c (.int .i64 (-1))])
def u79Ts:Nat→Tree
 | 0=>u79T0
 | 1=>u79T1
 | _=>.fail
def u80P:Nat→Pat
 | _=>⟨[],[],[],[]⟩
def u80T0:Tree :=
 .bind (.chk true 8) [.v 0] <|
 fl' 0 2 <|
 .bind .pchk [.v 1] <|
 .bind (.loadp false 1) [.pp 4 0] <|
 bt' .eql 5 6 3 5 <|
 .ret [.v 6]
def u80Ts:Nat→Tree
 | 0=>u80T0
 | _=>.fail
def u81P:Nat→Pat
 | _=>⟨[],[],[],[]⟩
def u81T0:Tree :=
 .bind (.chk true 8) [.v 0] <|
 fl' 1 1 <|
 .bind (.chk false 1) [.v 2] <|
 .bind (.lit 31 1) [.v 2] <|
 fl' 3 1 <|
 .bind (.app 31 1 24) [.v 4,.v 5] <|
 .ret [.v 6]
def u81Ts:Nat→Tree
 | 0=>u81T0
 | _=>.fail
def u83P:Nat→Pat
 | _=>⟨[],[],[],[]⟩
def u83T0:Tree :=
 .bind (.isNil false) [.v 0] <|
 it' 1 (
  .ret [.c (.slice none 0 0)]) (
  .bind (.lit 79 2) [] <|
  .bind (.app 79 2 32) [.v 2,.v 0] <|
  .ret [.v 3])
def u83Ts:Nat→Tree
 | 0=>u83T0
 | _=>.fail
def u84P:Nat→Pat
 | 1=>⟨[⟨.pure,true⟩,⟨.pure,false⟩,⟨.pure,true⟩,⟨.pure,true⟩,⟨.pure,false⟩],[(2,.loc 0 0),(5,.v 0),(8,.v 1),(9,.v 2),(10,.v 3)],[some (.whole (.v 4) 3)],[]⟩
 | _=>⟨[],[],[],[]⟩
def u84T0:Tree :=
 .bind (.chk true 3) [.v 0] <|
 ln' 1 <|
 .jump 1 [.c (.int .u32 1),.v 1,.v 3,k' 0,.v 2]
def u84T1:Tree :=
 bt' .lss 10 9 3 2 <|
 it' 5 (
  ir' 1 3 <|
  el' 1 0 1 3 <|
  .call (.fn 104) [.v 4,.v 0,.v 7] 1 <|
  bk' .add 10 1 3 <|
  .jump 1 [.v 8,.v 1,.v 2,.v 9,.v 4]) (
  .ret [.v 0])
def u84Ts:Nat→Tree
 | 0=>u84T0
 | 1=>u84T1
 | _=>.fail
def u85P:Nat→Pat
 | 1=>⟨[⟨.pure,true⟩,⟨.pure,true⟩,⟨.pure,true⟩,⟨.pure,true⟩],[(3,.v 0),(7,.v 1),(8,.v 2),(9,.v 3)],[],[]⟩
 | _=>⟨[],[],[],[]⟩
def u85T0:Tree :=
 .bind (.chk true 3) [.v 0] <|
 fl' 2 1 <|
 ln' 2 <|
 .jump 1 [.c (.int .u32 0),.v 2,.v 3,k' 0]
def u85T1:Tree :=
 bt' .lss 9 8 3 2 <|
 it' 4 (
  ir' 1 3 <|
  el' 1 0 1 3 <|
  .call (.fn 105) [.v 0,.v 6] 1 <|
  bk' .add 9 1 3 <|
  .jump 1 [.v 7,.v 1,.v 2,.v 8]) (
  .ret [.v 0])
def u85Ts:Nat→Tree
 | 0=>u85T0
 | 1=>u85T1
 | _=>.fail
def u100P:Nat→Pat
 | _=>⟨[],[],[],[]⟩
def u100T0:Tree :=
 .bind (.chk true 1) [.v 0] <|
 .bind (.chk true 6) [.v 1] <|
 fl' 2 5 <|
 ln' 6 <|
 bt' .sub 11 14 3 7 <|
 bk' .add 16 1 3 <|
 fl' 3 5 <|
 ln' 10 <|
 bt' .add 17 20 9 11 <|
 fl' 0 5 <|
 ir' 2 3 <|
 el' 1 0 2 3 <|
 .call (.fn 116) [.v 13,.v 15] 1 <|
 .bind (.un .not 4) [.v 16] <|
 it' 17 (
  rb' false) (
  bk' .lss 31 0 8 <|
  it' 18 (
   rb' false) (
   ln' 2 <|
   bt' .gtr 35 37 12 19 <|
   it' 20 (
    rb' false) (
    fl' 4 5 <|
    it' 21 (
     bk' .gtr 44 0 8 <|
     it' 22 (
      rb' false) (
      fl' 5 5 <|
      it' 23 (
       ln' 2 <|
       bt' .lss 52 54 12 24 <|
       it' 25 (
        rb' false) (
        fl' 2 5 <|
        .bind (.chk true 1) [.v 4] <|
        fl' 0 27 <|
        .bind (.slc 3 1 true true) [.v 2,.v 8,.v 3] <|
        .call (.fn 117) [.fn (.func 118) [] [],.agg [.v 28,.v 26],.v 29] 1 <|
        it' 30 (
         fl' 3 5 <|
         .bind (.chk true 1) [.v 4] <|
         fl' 0 32 <|
         bk' .add 73 1 3 <|
         .bind (.slc 3 1 true true) [.v 2,.v 34,.v 12] <|
         .call (.fn 117) [.fn (.func 118) [] [],.agg [.v 33,.v 31],.v 35] 1 <|
         .ret [.v 36]) (
         rb' false))) (
       fl' 2 5 <|
       .bind (.chk true 1) [.v 4] <|
       fl' 0 25 <|
       .bind (.slc 3 1 true true) [.v 2,.v 8,.v 3] <|
       .call (.fn 117) [.fn (.func 118) [] [],.agg [.v 26,.v 24],.v 27] 1 <|
       it' 28 (
        fl' 3 5 <|
        .bind (.chk true 1) [.v 4] <|
        fl' 0 30 <|
        bk' .add 73 1 3 <|
        .bind (.slc 3 1 true true) [.v 2,.v 32,.v 12] <|
        .call (.fn 117) [.fn (.func 118) [] [],.agg [.v 31,.v 29],.v 33] 1 <|
        .ret [.v 34]) (
        rb' false)))) (
     fl' 5 5 <|
     it' 22 (
      ln' 2 <|
      bt' .lss 52 54 12 23 <|
      it' 24 (
       rb' false) (
       fl' 2 5 <|
       .bind (.chk true 1) [.v 4] <|
       fl' 0 26 <|
       .bind (.slc 3 1 true true) [.v 2,.v 8,.v 3] <|
       .call (.fn 117) [.fn (.func 118) [] [],.agg [.v 27,.v 25],.v 28] 1 <|
       it' 29 (
        fl' 3 5 <|
        .bind (.chk true 1) [.v 4] <|
        fl' 0 31 <|
        bk' .add 73 1 3 <|
        .bind (.slc 3 1 true true) [.v 2,.v 33,.v 12] <|
        .call (.fn 117) [.fn (.func 118) [] [],.agg [.v 32,.v 30],.v 34] 1 <|
        .ret [.v 35]) (
        rb' false))) (
      fl' 2 5 <|
      .bind (.chk true 1) [.v 4] <|
      fl' 0 24 <|
      .bind (.slc 3 1 true true) [.v 2,.v 8,.v 3] <|
      .call (.fn 117) [.fn (.func 118) [] [],.agg [.v 25,.v 23],.v 26] 1 <|
      it' 27 (
       fl' 3 5 <|
       .bind (.chk true 1) [.v 4] <|
       fl' 0 29 <|
       bk' .add 73 1 3 <|
       .bind (.slc 3 1 true true) [.v 2,.v 31,.v 12] <|
       .call (.fn 117) [.fn (.func 118) [] [],.agg [.v 30,.v 28],.v 32] 1 <|
       .ret [.v 33]) (
       rb' false))))))
def u100Ts:Nat→Tree
 | 0=>u100T0
 | _=>.fail
def u101P:Nat→Pat
 | 1=>⟨[⟨.pure,false⟩,⟨.pure,false⟩,⟨.pure,true⟩,⟨.pure,true⟩],[(0,.v 0),(1,.v 1),(7,.v 2),(8,.v 3)],[],[]⟩
 | _=>⟨[],[],[],[]⟩
def u101T0:Tree :=
 ln' 0 <|
 .jump 1 [.v 0,.v 1,.v 2,k' 0]
def u101T1:Tree :=
 bt' .lss 8 7 3 2 <|
 it' 4 (
  ir' 0 3 <|
  el' 1 0 0 3 <|
  bt' .eql 11 15 1 6 <|
  it' 7 (
   .ret [.v 3]) (
   bk' .add 8 1 3 <|
   .jump 1 [.v 0,.v 1,.v 2,.v 8])) (
  .ret [.c (.int .i64 (-1))])
def u101Ts:Nat→Tree
 | 0=>u101T0
 | 1=>u101T1
 | _=>.fail
def u104P:Nat→Pat
 | 1000=>⟨[⟨.pure,true⟩,⟨.pure,true⟩,⟨.pure,true⟩,⟨.pure,false⟩,⟨.pure,true⟩,⟨.pure,true⟩,⟨.pure,false⟩,⟨.pure,true⟩],[(0,.yld 5),(2,.loc 4 0),(7,.v 0),(8,.v 1),(9,.v 2)],[some (.whole (.v 3) 3),some (.cells [.v 4]),some (.cells [.v 5]),some (.whole (.v 6) 3),some (.cells [.v 7]),some (.loop 0 0)],[[(5,.loc 1 0),(7,.loc 2 0)]]⟩
 | _=>⟨[],[],[none,none,none,none,none,none],[]⟩
def u104T0:Tree :=
 .bind (.chk true 3) [.v 0] <|
 .bind (.chk false 1) [.v 2] <|
 .bind (.chk true 3) [.v 3] <|
 .bind (.chk false 1) [.v 1] <|
 fl' 1 5 <|
 ln' 7 <|
 .jump 1000 [.v 7,.v 8,k' 0,.v 3,.v 4,.c (.int .u32 0),.v 5,.v 6]
def u104T1000:Tree :=
 bt' .lss 9 8 2 1 <|
 it' 8 (
  ir' 0 2 <|
  .bind (.elem 3 true 3 0) [.v 0,.v 2] <|
  .bind (.chk true 3) [.v 10] <|
  fl' 0 11 <|
  .call (.fn 130) [.v 7,.v 12] 1 <|
  it' 13 (
   .bind (.chk true 3) [.v 11] <|
   fl' 1 14 <|
   bt' .eql 14 15 15 4 <|
   it' 16 (
    fl' 2 14 <|
    .call (.fn 105) [.v 5,.v 17] 1 <|
    bk' .add 9 1 2 <|
    .jump 1000 [.v 0,.v 1,.v 19,.v 3,.v 4,.v 18,.v 6,.v 7]) (
    bk' .add 9 1 2 <|
    .jump 1000 [.v 0,.v 1,.v 17,.v 3,.v 4,.v 5,.v 6,.v 7])) (
   bk' .add 9 1 2 <|
   .jump 1000 [.v 0,.v 1,.v 14,.v 3,.v 4,.v 5,.v 6,.v 7])) (
  .ret [.v 5])
def u104Ts:Nat→Tree
 | 0=>u104T0
 | 1000=>u104T1000
 | _=>.fail
noncomputable def u104I:Inl:=[(129,Tryz.f129,bodyOf Tryz.f129),(121,Tryz.f121,bodyOf Tryz.f121)]
noncomputable def u104Z:Nat→Nat:=fun k=>bif Nat.ble 1000 k then Nat.max Tryz.f129.ntmps 3 else Nat.max Tryz.f104.ntmps 3
def u105P:Nat→Pat
 | _=>⟨[],[],[],[]⟩
def u105T0:Tree :=
 .bind (.conv 3 193) [.v 1] <|
 .bind (.bin .shl 152 (.const (.int .u32 1)) (.tmp 7)) [.c (.int .u32 1),.v 2] <|
 .bind (.bin .or 152 (.tmp 5) (.tmp 8)) [.v 0,.v 3] <|
 .ret [.v 4]
def u105Ts:Nat→Tree
 | 0=>u105T0
 | _=>.fail
def u116P:Nat→Pat
 | _=>⟨[],[],[],[]⟩
def u116T0:Tree :=
 .call (.fn 127) [.v 0,.v 1] 1 <|
 .ret [.v 2]
def u116Ts:Nat→Tree
 | 0=>u116T0
 | _=>.fail
def u117P:Nat→Pat
 | 1=>⟨[⟨.pure,false⟩,⟨.pure,false⟩,⟨.pure,true⟩,⟨.pure,true⟩,⟨.pure,false⟩],[(0,.v 0),(4,.loc 0 0),(9,.v 1),(10,.v 2),(11,.v 3)],[some (.whole (.v 4) 2)],[]⟩
 | _=>⟨[],[],[],[]⟩
def u117T0:Tree :=
 .bind (.chk true 2) [.v 1] <|
 ln' 2 <|
 .jump 1 [.v 0,.v 2,.v 4,k' 0,.v 3]
def u117T1:Tree :=
 bt' .lss 11 10 3 2 <|
 it' 5 (
  ir' 1 3 <|
  el' 1 0 1 3 <|
  .call (.val (.v 0)) [.v 0,.v 4,.v 3,.v 7] 1 <|
  .bind (.un .not 4) [.v 8] <|
  it' 9 (
   rb' false) (
   bk' .add 11 1 3 <|
   .jump 1 [.v 0,.v 1,.v 2,.v 10,.v 4])) (
  rb' true)
def u117Ts:Nat→Tree
 | 0=>u117T0
 | 1=>u117T1
 | _=>.fail
def u118P:Nat→Pat
 | _=>⟨[],[],[],[]⟩
def u118T0:Tree :=
 .bind (.chk true 2) [.v 0] <|
 .bind (.fld true 1 0) [.v 3] <|
 fl' 1 3 <|
 ir' 5 1 <|
 .bind (.elem 2 true 2 0) [.v 5,.v 1] <|
 .call (.fn 128) [.v 4,.v 2,.v 7] 1 <|
 .ret [.v 8]
def u118Ts:Nat→Tree
 | 0=>u118T0
 | _=>.fail
def u127P:Nat→Pat
 | _=>⟨[],[],[],[]⟩
def u127T0:Tree :=
 .call (.fn 101) [.v 0,.v 1] 1 <|
 bk' .geq 7 0 2 <|
 .ret [.v 3]
def u127Ts:Nat→Tree
 | 0=>u127T0
 | _=>.fail
def u128P:Nat→Pat
 | _=>⟨[],[],[],[]⟩
def u128T0:Tree :=
 .bind (.chk true 1) [.v 0] <|
 .bind (.chk true 2) [.v 2] <|
 .call (.fn 131) [.v 3,.v 1] 1 <|
 it' 5 (
  fl' 0 4 <|
  fl' 0 3 <|
  bk' .sub 16 1 1 <|
  ir' 7 8 <|
  el' 2 1 7 8 <|
  fl' 0 4 <|
  bt' .and 20 22 10 11 <|
  .bind (.bin .eql 120 (.tmp 11) (.tmp 24)) [.v 4,.agg [.v 6,.v 12]] <|
  .ret [.v 13]) (
  rb' false)
def u128Ts:Nat→Tree
 | 0=>u128T0
 | _=>.fail
def u130P:Nat→Pat
 | _=>⟨[],[],[],[]⟩
def u130T0:Tree :=
 .bind (.conv 3 193) [.v 1] <|
 .bind (.bin .shr 152 (.tmp 5) (.tmp 7)) [.v 0,.v 2] <|
 .bind (.bin .and 152 (.tmp 8) (.const (.int .u32 1))) [.v 3,.c (.int .u32 1)] <|
 .bind (.bin .eql 152 (.tmp 9) (.const (.int .u32 1))) [.v 4,.c (.int .u32 1)] <|
 .ret [.v 5]
def u130Ts:Nat→Tree
 | 0=>u130T0
 | _=>.fail
def u131P:Nat→Pat
 | _=>⟨[],[],[],[]⟩
def u131T0:Tree :=
 .bind (.chk true 1) [.v 0] <|
 bk' .geq 5 1 1 <|
 it' 3 (
  fl' 0 2 <|
  ln' 4 <|
  bt' .leq 8 11 1 5 <|
  .ret [.v 6]) (
  rb' false)
def u131Ts:Nat→Tree
 | 0=>u131T0
 | _=>.fail
theorem allP:(rt Tryz.f5 2 u5P,
 hd Tryz.f5 2 u5P,
 nr Tryz.f5,
 rt Tryz.f13 1 u13P,
 hd Tryz.f13 1 u13P,
 nr Tryz.f13,
 rt Tryz.f14 2 u14P,
 hd Tryz.f14 2 u14P,
 nr Tryz.f14,
 rt Tryz.f18 2 u18P,
 hd Tryz.f18 2 u18P,
 nr Tryz.f18,
 rt Tryz.f21 2 u21P,
 hd Tryz.f21 2 u21P,
 nr Tryz.f21,
 rt Tryz.f22 2 u22P,
 hd Tryz.f22 2 u22P,
 nr Tryz.f22,
 rt Tryz.f39 3 u39P,
 hd Tryz.f39 3 u39P,
 nr Tryz.f39,
 rt Tryz.f43 2 u43P,
 hd Tryz.f43 2 u43P,
 nr Tryz.f43,
 rt Tryz.f44 2 u44P,
 hd Tryz.f44 2 u44P,
 nr Tryz.f44,
 sxH EE (fun k S=>jumpS (u45Z k) (u45P k) k S) (opR EE u45I none) (rangeS EE (fun k S=>jumpS (u45Z k) (u45P k) k S) u45I 103 (Nat.max Tryz.f45.ntmps 2) 3 1000) 1 (bodyOf Tryz.f45) (startS 2 (Nat.max Tryz.f45.ntmps 2)) (endK EE Tryz.f45.results.toList),
 headsH EE (fun k=>(u45P k).st (u45Z k)) (fun k S=>jumpS (u45Z k) (u45P k) k S) (opR EE u45I none) (rangeS EE (fun k S=>jumpS (u45Z k) (u45P k) k S) u45I 103 (Nat.max Tryz.f45.ntmps 2) 3 1000) (rangeH EE (fun k=>(u45P k).st (u45Z k)) (fun k S=>jumpS (u45Z k) (u45P k) k S) u45I (bodyOf Tryz.f103) (Nat.max Tryz.f45.ntmps 2) 3 1000) 1 (bodyOf Tryz.f45) (endK EE Tryz.f45.results.toList),
 nr Tryz.f45,
 rt Tryz.f46 2 u46P,
 hd Tryz.f46 2 u46P,
 nr Tryz.f46,
 rt Tryz.f74 3 u74P,
 hd Tryz.f74 3 u74P,
 nr Tryz.f74,
 rt Tryz.f79 2 u79P,
 hd Tryz.f79 2 u79P,
 nr Tryz.f79,
 rt Tryz.f80 2 u80P,
 hd Tryz.f80 2 u80P,
 nr Tryz.f80,
 rt Tryz.f81 1 u81P,
 hd Tryz.f81 1 u81P,
 nr Tryz.f81,
 rt Tryz.f83 1 u83P,
 hd Tryz.f83 1 u83P,
 nr Tryz.f83,
 rt Tryz.f84 2 u84P,
 hd Tryz.f84 2 u84P,
 nr Tryz.f84,
 rt Tryz.f85 1 u85P,
 hd Tryz.f85 1 u85P,
 nr Tryz.f85,
 rt Tryz.f100 4 u100P,
 hd Tryz.f100 4 u100P,
 nr Tryz.f100,
 rt Tryz.f101 2 u101P,
 hd Tryz.f101 2 u101P,
 nr Tryz.f101,
 sxH EE (fun k S=>jumpS (u104Z k) (u104P k) k S) (opR EE u104I none) (rangeS EE (fun k S=>jumpS (u104Z k) (u104P k) k S) u104I 129 (Nat.max Tryz.f104.ntmps 3) 5 1000) 1 (bodyOf Tryz.f104) (startS 3 (Nat.max Tryz.f104.ntmps 3)) (endK EE Tryz.f104.results.toList),
 headsH EE (fun k=>(u104P k).st (u104Z k)) (fun k S=>jumpS (u104Z k) (u104P k) k S) (opR EE u104I none) (rangeS EE (fun k S=>jumpS (u104Z k) (u104P k) k S) u104I 129 (Nat.max Tryz.f104.ntmps 3) 5 1000) (rangeH EE (fun k=>(u104P k).st (u104Z k)) (fun k S=>jumpS (u104Z k) (u104P k) k S) u104I (bodyOf Tryz.f129) (Nat.max Tryz.f104.ntmps 3) 5 1000) 1 (bodyOf Tryz.f104) (endK EE Tryz.f104.results.toList),
 nr Tryz.f104,
 rt Tryz.f105 2 u105P,
 hd Tryz.f105 2 u105P,
 nr Tryz.f105,
 rt Tryz.f116 2 u116P,
 hd Tryz.f116 2 u116P,
 nr Tryz.f116,
 rt Tryz.f117 3 u117P,
 hd Tryz.f117 3 u117P,
 nr Tryz.f117,
 rt Tryz.f118 3 u118P,
 hd Tryz.f118 3 u118P,
 nr Tryz.f118,
 rt Tryz.f127 2 u127P,
 hd Tryz.f127 2 u127P,
 nr Tryz.f127,
 rt Tryz.f128 3 u128P,
 hd Tryz.f128 3 u128P,
 nr Tryz.f128,
 rt Tryz.f130 2 u130P,
 hd Tryz.f130 2 u130P,
 nr Tryz.f130,
 rt Tryz.f131 2 u131P,
 hd Tryz.f131 2 u131P,
 nr Tryz.f131,
 nr Tryz.f103,
 nr Tryz.f82,
 nr Tryz.f129,
 nr Tryz.f121) =
 (u5T0,[],false,u13T0,[],false,u14T0,[],false,u18T0,[(1,u18T1)],false,u21T0,[(1,u21T1)],false,u22T0,[(1,u22T1)],false,u39T0,[(1,u39T1)],false,u43T0,[],false,u44T0,[],false,u45T0,[(1000,u45T1000)],false,u46T0,[],false,u74T0,[(1,u74T1)],false,u79T0,[(1,u79T1)],false,u80T0,[],false,u81T0,[],false,u83T0,[],false,u84T0,[(1,u84T1)],false,u85T0,[(1,u85T1)],false,u100T0,[],false,u101T0,[(1,u101T1)],false,u104T0,[(1000,u104T1000)],false,u105T0,[],false,u116T0,[],false,u117T0,[(1,u117T1)],false,u118T0,[],false,u127T0,[],false,u128T0,[],false,u130T0,[],false,u131T0,[],false,false,false,false,false):=by kernel_rfl
theorem u5 {ds:List D} {d:D} (hn:ds.length=2) (h:Goes EE (Holds EE) u5Ts 0 ds d):Holds EE 5 ds d :=
 hu Tryz.func5 rfl ((Prod.mk.inj allP).1) ((Prod.mk.inj (nx1 allP)).1) ((Prod.mk.inj (nx1 (nx1 allP))).1) (tabN) hn h
theorem u13 {ds:List D} {d:D} (hn:ds.length=1) (h:Goes EE (Holds EE) u13Ts 0 ds d):Holds EE 13 ds d :=
 hu Tryz.func13 rfl ((Prod.mk.inj (nx1 (nx1 (nx1 allP)))).1) ((Prod.mk.inj (nx4 allP)).1) ((Prod.mk.inj (nx1 (nx4 allP))).1) (tabN) hn h
theorem u14 {ds:List D} {d:D} (hn:ds.length=2) (h:Goes EE (Holds EE) u14Ts 0 ds d):Holds EE 14 ds d :=
 hu Tryz.func14 rfl ((Prod.mk.inj (nx1 (nx1 (nx4 allP)))).1) ((Prod.mk.inj (nx1 (nx1 (nx1 (nx4 allP))))).1) ((Prod.mk.inj (nx4 (nx4 allP))).1) (tabN) hn h
theorem u18 {ds:List D} {d:D} (hn:ds.length=2) (h:Goes EE (Holds EE) u18Ts 0 ds d):Holds EE 18 ds d :=
 hu Tryz.func18 rfl ((Prod.mk.inj (nx1 (nx4 (nx4 allP)))).1) ((Prod.mk.inj (nx1 (nx1 (nx4 (nx4 allP))))).1) ((Prod.mk.inj (nx1 (nx1 (nx1 (nx4 (nx4 allP)))))).1) (tabC rfl <| tabN) hn h
theorem u21 {ds:List D} {d:D} (hn:ds.length=2) (h:Goes EE (Holds EE) u21Ts 0 ds d):Holds EE 21 ds d :=
 hu Tryz.func21 rfl ((Prod.mk.inj (nx4 (nx4 (nx4 allP)))).1) ((Prod.mk.inj (nx1 (nx4 (nx4 (nx4 allP))))).1) ((Prod.mk.inj (nx1 (nx1 (nx4 (nx4 (nx4 allP)))))).1) (tabC rfl <| tabN) hn h
theorem u22 {ds:List D} {d:D} (hn:ds.length=2) (h:Goes EE (Holds EE) u22Ts 0 ds d):Holds EE 22 ds d :=
 hu Tryz.func22 rfl ((Prod.mk.inj (nx1 (nx1 (nx1 (nx4 (nx4 (nx4 allP))))))).1) ((Prod.mk.inj (nx16 allP)).1) ((Prod.mk.inj (nx1 (nx16 allP))).1) (tabC rfl <| tabN) hn h
theorem u39 {ds:List D} {d:D} (hn:ds.length=3) (h:Goes EE (Holds EE) u39Ts 0 ds d):Holds EE 39 ds d :=
 hu Tryz.func39 rfl ((Prod.mk.inj (nx1 (nx1 (nx16 allP)))).1) ((Prod.mk.inj (nx1 (nx1 (nx1 (nx16 allP))))).1) ((Prod.mk.inj (nx4 (nx16 allP))).1) (tabC rfl <| tabN) hn h
theorem u43 {ds:List D} {d:D} (hn:ds.length=2) (h:Goes EE (Holds EE) u43Ts 0 ds d):Holds EE 43 ds d :=
 hu Tryz.func43 rfl ((Prod.mk.inj (nx1 (nx4 (nx16 allP)))).1) ((Prod.mk.inj (nx1 (nx1 (nx4 (nx16 allP))))).1) ((Prod.mk.inj (nx1 (nx1 (nx1 (nx4 (nx16 allP)))))).1) (tabN) hn h
theorem u44 {ds:List D} {d:D} (hn:ds.length=2) (h:Goes EE (Holds EE) u44Ts 0 ds d):Holds EE 44 ds d :=
 hu Tryz.func44 rfl ((Prod.mk.inj (nx4 (nx4 (nx16 allP)))).1) ((Prod.mk.inj (nx1 (nx4 (nx4 (nx16 allP))))).1) ((Prod.mk.inj (nx1 (nx1 (nx4 (nx4 (nx16 allP)))))).1) (tabN) hn h
theorem u45 {ds:List D} {d:D} (hn:ds.length=2) (h:Goes EE (Holds EE) u45Ts 0 ds d):Holds EE 45 ds d :=
 holdsR_of (I:=u45I) (pats:=u45P) (szs:=u45Z) (L:=3) (G:=103) (fnG:=Tryz.f103) (cdG:=bodyOf Tryz.f103) he (.cons (envFunc (c:=bodyOf Tryz.f103) Tryz.func103 rfl ((Prod.mk.inj (nx1 (nx1 (nx1 (nx4 (nx16 (nx16 (nx16 (nx16 (nx16 allP)))))))))).1)) rfl <| .cons (envFunc (c:=bodyOf Tryz.f82) Tryz.func82 rfl ((Prod.mk.inj (nx4 (nx4 (nx16 (nx16 (nx16 (nx16 (nx16 allP)))))))).1)) rfl <| .nil) (envFunc (c:=bodyOf Tryz.f45) Tryz.func45 rfl ((Prod.mk.inj (nx1 (nx4 (nx4 (nx4 (nx16 allP)))))).1)) (c:=bodyOf Tryz.f45) rfl hn rfl ((Prod.mk.inj (nx1 (nx1 (nx1 (nx4 (nx4 (nx16 allP))))))).1) (by rw [(Prod.mk.inj (nx4 (nx4 (nx4 (nx16 allP))))).1]; exact tabC rfl <| tabN) (fun k hk=>by unfold u45P; split <;> first | decide | omega) h
theorem u46 {ds:List D} {d:D} (hn:ds.length=2) (h:Goes EE (Holds EE) u46Ts 0 ds d):Holds EE 46 ds d :=
 hu Tryz.func46 rfl ((Prod.mk.inj (nx1 (nx1 (nx4 (nx4 (nx4 (nx16 allP))))))).1) ((Prod.mk.inj (nx1 (nx1 (nx1 (nx4 (nx4 (nx4 (nx16 allP)))))))).1) ((Prod.mk.inj (nx16 (nx16 allP))).1) (tabN) hn h
theorem u74 {ds:List D} {d:D} (hn:ds.length=3) (h:Goes EE (Holds EE) u74Ts 0 ds d):Holds EE 74 ds d :=
 hu Tryz.func74 rfl ((Prod.mk.inj (nx1 (nx16 (nx16 allP)))).1) ((Prod.mk.inj (nx1 (nx1 (nx16 (nx16 allP))))).1) ((Prod.mk.inj (nx1 (nx1 (nx1 (nx16 (nx16 allP)))))).1) (tabC rfl <| tabN) hn h
theorem u79 {ds:List D} {d:D} (hn:ds.length=2) (h:Goes EE (Holds EE) u79Ts 0 ds d):Holds EE 79 ds d :=
 hu Tryz.func79 rfl ((Prod.mk.inj (nx4 (nx16 (nx16 allP)))).1) ((Prod.mk.inj (nx1 (nx4 (nx16 (nx16 allP))))).1) ((Prod.mk.inj (nx1 (nx1 (nx4 (nx16 (nx16 allP)))))).1) (tabC rfl <| tabN) hn h
theorem u80 {ds:List D} {d:D} (hn:ds.length=2) (h:Goes EE (Holds EE) u80Ts 0 ds d):Holds EE 80 ds d :=
 hu Tryz.func80 rfl ((Prod.mk.inj (nx1 (nx1 (nx1 (nx4 (nx16 (nx16 allP))))))).1) ((Prod.mk.inj (nx4 (nx4 (nx16 (nx16 allP))))).1) ((Prod.mk.inj (nx1 (nx4 (nx4 (nx16 (nx16 allP)))))).1) (tabN) hn h
theorem u81 {ds:List D} {d:D} (hn:ds.length=1) (h:Goes EE (Holds EE) u81Ts 0 ds d):Holds EE 81 ds d :=
 hu Tryz.func81 rfl ((Prod.mk.inj (nx1 (nx1 (nx4 (nx4 (nx16 (nx16 allP))))))).1) ((Prod.mk.inj (nx1 (nx1 (nx1 (nx4 (nx4 (nx16 (nx16 allP)))))))).1) ((Prod.mk.inj (nx4 (nx4 (nx4 (nx16 (nx16 allP)))))).1) (tabN) hn h
theorem u83 {ds:List D} {d:D} (hn:ds.length=1) (h:Goes EE (Holds EE) u83Ts 0 ds d):Holds EE 83 ds d :=
 hu Tryz.func83 rfl ((Prod.mk.inj (nx1 (nx4 (nx4 (nx4 (nx16 (nx16 allP))))))).1) ((Prod.mk.inj (nx1 (nx1 (nx4 (nx4 (nx4 (nx16 (nx16 allP)))))))).1) ((Prod.mk.inj (nx1 (nx1 (nx1 (nx4 (nx4 (nx4 (nx16 (nx16 allP))))))))).1) (tabN) hn h
theorem u84 {ds:List D} {d:D} (hn:ds.length=2) (h:Goes EE (Holds EE) u84Ts 0 ds d):Holds EE 84 ds d :=
 hu Tryz.func84 rfl ((Prod.mk.inj (nx16 (nx16 (nx16 allP)))).1) ((Prod.mk.inj (nx1 (nx16 (nx16 (nx16 allP))))).1) ((Prod.mk.inj (nx1 (nx1 (nx16 (nx16 (nx16 allP)))))).1) (tabC rfl <| tabN) hn h
theorem u85 {ds:List D} {d:D} (hn:ds.length=1) (h:Goes EE (Holds EE) u85Ts 0 ds d):Holds EE 85 ds d :=
 hu Tryz.func85 rfl ((Prod.mk.inj (nx1 (nx1 (nx1 (nx16 (nx16 (nx16 allP))))))).1) ((Prod.mk.inj (nx4 (nx16 (nx16 (nx16 allP))))).1) ((Prod.mk.inj (nx1 (nx4 (nx16 (nx16 (nx16 allP)))))).1) (tabC rfl <| tabN) hn h
theorem u100 {ds:List D} {d:D} (hn:ds.length=4) (h:Goes EE (Holds EE) u100Ts 0 ds d):Holds EE 100 ds d :=
 hu Tryz.func100 rfl ((Prod.mk.inj (nx1 (nx1 (nx4 (nx16 (nx16 (nx16 allP))))))).1) ((Prod.mk.inj (nx1 (nx1 (nx1 (nx4 (nx16 (nx16 (nx16 allP)))))))).1) ((Prod.mk.inj (nx4 (nx4 (nx16 (nx16 (nx16 allP)))))).1) (tabN) hn h
theorem u101 {ds:List D} {d:D} (hn:ds.length=2) (h:Goes EE (Holds EE) u101Ts 0 ds d):Holds EE 101 ds d :=
 hu Tryz.func101 rfl ((Prod.mk.inj (nx1 (nx4 (nx4 (nx16 (nx16 (nx16 allP))))))).1) ((Prod.mk.inj (nx1 (nx1 (nx4 (nx4 (nx16 (nx16 (nx16 allP)))))))).1) ((Prod.mk.inj (nx1 (nx1 (nx1 (nx4 (nx4 (nx16 (nx16 (nx16 allP))))))))).1) (tabC rfl <| tabN) hn h
theorem u104 {ds:List D} {d:D} (hn:ds.length=3) (h:Goes EE (Holds EE) u104Ts 0 ds d):Holds EE 104 ds d :=
 holdsR_of (I:=u104I) (pats:=u104P) (szs:=u104Z) (L:=5) (G:=129) (fnG:=Tryz.f129) (cdG:=bodyOf Tryz.f129) he (.cons (envFunc (c:=bodyOf Tryz.f129) Tryz.func129 rfl ((Prod.mk.inj (nx1 (nx4 (nx4 (nx16 (nx16 (nx16 (nx16 (nx16 allP))))))))).1)) rfl <| .cons (envFunc (c:=bodyOf Tryz.f121) Tryz.func121 rfl ((nx1 (nx1 (nx4 (nx4 (nx16 (nx16 (nx16 (nx16 (nx16 allP))))))))))) rfl <| .nil) (envFunc (c:=bodyOf Tryz.f104) Tryz.func104 rfl ((Prod.mk.inj (nx1 (nx1 (nx4 (nx4 (nx4 (nx16 (nx16 (nx16 allP))))))))).1)) (c:=bodyOf Tryz.f104) rfl hn rfl ((Prod.mk.inj (nx4 (nx4 (nx4 (nx16 (nx16 (nx16 allP))))))).1) (by rw [(Prod.mk.inj (nx1 (nx4 (nx4 (nx4 (nx16 (nx16 (nx16 allP)))))))).1]; exact tabC rfl <| tabN) (fun k hk=>by unfold u104P; split <;> first | decide | omega) h
theorem u105 {ds:List D} {d:D} (hn:ds.length=2) (h:Goes EE (Holds EE) u105Ts 0 ds d):Holds EE 105 ds d :=
 hu Tryz.func105 rfl ((Prod.mk.inj (nx1 (nx1 (nx1 (nx4 (nx4 (nx4 (nx16 (nx16 (nx16 allP)))))))))).1) ((Prod.mk.inj (nx16 (nx16 (nx16 (nx16 allP))))).1) ((Prod.mk.inj (nx1 (nx16 (nx16 (nx16 (nx16 allP)))))).1) (tabN) hn h
theorem u116 {ds:List D} {d:D} (hn:ds.length=2) (h:Goes EE (Holds EE) u116Ts 0 ds d):Holds EE 116 ds d :=
 hu Tryz.func116 rfl ((Prod.mk.inj (nx1 (nx1 (nx16 (nx16 (nx16 (nx16 allP))))))).1) ((Prod.mk.inj (nx1 (nx1 (nx1 (nx16 (nx16 (nx16 (nx16 allP)))))))).1) ((Prod.mk.inj (nx4 (nx16 (nx16 (nx16 (nx16 allP)))))).1) (tabN) hn h
theorem u117 {ds:List D} {d:D} (hn:ds.length=3) (h:Goes EE (Holds EE) u117Ts 0 ds d):Holds EE 117 ds d :=
 hu Tryz.func117 rfl ((Prod.mk.inj (nx1 (nx4 (nx16 (nx16 (nx16 (nx16 allP))))))).1) ((Prod.mk.inj (nx1 (nx1 (nx4 (nx16 (nx16 (nx16 (nx16 allP)))))))).1) ((Prod.mk.inj (nx1 (nx1 (nx1 (nx4 (nx16 (nx16 (nx16 (nx16 allP))))))))).1) (tabC rfl <| tabN) hn h
theorem u118 {ds:List D} {d:D} (hn:ds.length=3) (h:Goes EE (Holds EE) u118Ts 0 ds d):Holds EE 118 ds d :=
 hu Tryz.func118 rfl ((Prod.mk.inj (nx4 (nx4 (nx16 (nx16 (nx16 (nx16 allP))))))).1) ((Prod.mk.inj (nx1 (nx4 (nx4 (nx16 (nx16 (nx16 (nx16 allP)))))))).1) ((Prod.mk.inj (nx1 (nx1 (nx4 (nx4 (nx16 (nx16 (nx16 (nx16 allP))))))))).1) (tabN) hn h
theorem u127 {ds:List D} {d:D} (hn:ds.length=2) (h:Goes EE (Holds EE) u127Ts 0 ds d):Holds EE 127 ds d :=
 hu Tryz.func127 rfl ((Prod.mk.inj (nx1 (nx1 (nx1 (nx4 (nx4 (nx16 (nx16 (nx16 (nx16 allP)))))))))).1) ((Prod.mk.inj (nx4 (nx4 (nx4 (nx16 (nx16 (nx16 (nx16 allP)))))))).1) ((Prod.mk.inj (nx1 (nx4 (nx4 (nx4 (nx16 (nx16 (nx16 (nx16 allP))))))))).1) (tabN) hn h
theorem u128 {ds:List D} {d:D} (hn:ds.length=3) (h:Goes EE (Holds EE) u128Ts 0 ds d):Holds EE 128 ds d :=
 hu Tryz.func128 rfl ((Prod.mk.inj (nx1 (nx1 (nx4 (nx4 (nx4 (nx16 (nx16 (nx16 (nx16 allP)))))))))).1) ((Prod.mk.inj (nx1 (nx1 (nx1 (nx4 (nx4 (nx4 (nx16 (nx16 (nx16 (nx16 allP))))))))))).1) ((Prod.mk.inj (nx16 (nx16 (nx16 (nx16 (nx16 allP)))))).1) (tabN) hn h
theorem u130 {ds:List D} {d:D} (hn:ds.length=2) (h:Goes EE (Holds EE) u130Ts 0 ds d):Holds EE 130 ds d :=
 hu Tryz.func130 rfl ((Prod.mk.inj (nx1 (nx16 (nx16 (nx16 (nx16 (nx16 allP))))))).1) ((Prod.mk.inj (nx1 (nx1 (nx16 (nx16 (nx16 (nx16 (nx16 allP)))))))).1) ((Prod.mk.inj (nx1 (nx1 (nx1 (nx16 (nx16 (nx16 (nx16 (nx16 allP))))))))).1) (tabN) hn h
theorem u131 {ds:List D} {d:D} (hn:ds.length=2) (h:Goes EE (Holds EE) u131Ts 0 ds d):Holds EE 131 ds d :=
 hu Tryz.func131 rfl ((Prod.mk.inj (nx4 (nx16 (nx16 (nx16 (nx16 (nx16 allP))))))).1) ((Prod.mk.inj (nx1 (nx4 (nx16 (nx16 (nx16 (nx16 (nx16 allP)))))))).1) ((Prod.mk.inj (nx1 (nx1 (nx4 (nx16 (nx16 (nx16 (nx16 (nx16 allP))))))))).1) (tabN) hn h
end Go.Proofs.YtnemldklhelbeaaGreat
