/- Trees of functions. Conditions: none. -/
import Derived.Test.YtnemldklhelbeaaGreatJa
set_option linter.unusedVariables false
set_option linter.unusedSimpArgs false
namespace Go.Proofs.YtnemldklhelbeaaGreat
open Go Go.Am Go.Proofs
def z6P:Nat→Pat
 | _=>⟨[],[],[],[]⟩
def z6T0:Tree :=
 .bind (.chk true 9) [.v 0] <|
 .bind (.chk true 1) [.v 1] <|
 .bind (.chk true 8) [.v 2] <|
 .bind (.chk true 9) [.v 3] <|
 fl' 8 3 <|
 fl' 0 5 <|
 .call (.fn 23) [.v 7,.v 8] 0 <|
 .bind (.ext 0) [.v 9] <|
 .bind (.ext 1) [.v 9] <|
 .bind (.chk true 8) [.v 10] <|
 .call (.fn 12) [.v 3] 1 <|
 .bind (.un .not 4) [.v 13] <|
 it' 14 (
  .call (.fn 9) [] 1 <|
  .ret [.v 15]) (
  .call (.fn 13) [.v 4] 1 <|
  .bind (.un .not 4) [.v 15] <|
  it' 16 (
   .call (.fn 9) [] 1 <|
   .ret [.v 17]) (
   it' 11 (
    .call (.fn 9) [] 1 <|
    .ret [.v 17]) (
    fl' 1 5 <|
    ln' 17 <|
    bk' .gtr 39 30 18 <|
    it' 19 (
     .call (.fn 9) [] 1 <|
     .ret [.v 20]) (
     fl' 3 5 <|
     ln' 20 <|
     bk' .gtr 45 10 21 <|
     it' 22 (
      .call (.fn 9) [] 1 <|
      .ret [.v 23]) (
      fl' 5 5 <|
      ln' 23 <|
      bk' .gtr 51 10 24 <|
      it' 25 (
       .call (.fn 9) [] 1 <|
       .ret [.v 26]) (
       fl' 6 5 <|
       ln' 26 <|
       bk' .gtr 57 20 27 <|
       it' 28 (
        .call (.fn 9) [] 1 <|
        .ret [.v 29]) (
        fl' 7 5 <|
        ln' 29 <|
        bk' .gtr 63 20 30 <|
        it' 31 (
         .call (.fn 9) [] 1 <|
         .ret [.v 32]) (
         .bind (.fld true 1 0) [.v 3] <|
         fl' 8 3 <|
         .call (.fn 24) [.v 32,.v 33,.v 5] 0 <|
         .bind (.ext 0) [.v 34] <|
         .bind (.ext 1) [.v 34] <|
         .bind (.chk true 9) [.v 6] <|
         fl' 0 37 <|
         fl' 1 37 <|
         fl' 2 37 <|
         fl' 3 37 <|
         fl' 4 37 <|
         fl' 5 37 <|
         fl' 6 37 <|
         fl' 7 37 <|
         fl' 8 37 <|
         .bind (.chk false 1) [.v 35] <|
         .bind (.bin .neq 39 (.tmp 78) (K' 0)) [.v 36,k' 0] <|
         it' 48 (
          .call (.fn 9) [] 1 <|
          .ret [.v 49]) (
          .call (.fn 11) [.agg [.v 38,.v 39,.v 40,.v 41,.v 42,.v 43,.v 44,.v 45,.v 47]] 1 <|
          .bind (.bin .neq 39 (.tmp 82) (K' 0)) [.v 49,k' 0] <|
          it' 50 (
           .call (.fn 9) [] 1 <|
           .ret [.v 51]) (
           .call (.fn 18) [.v 3,.v 4] 1 <|
           .bind (.bin .neq 39 (.tmp 88) (K' 0)) [.v 51,k' 0] <|
           it' 52 (
            .call (.fn 9) [] 1 <|
            .ret [.v 53]) (
            .call (.fn 14) [.v 3,.v 4] 0 <|
            .bind (.ext 0) [.v 53] <|
            .bind (.ext 1) [.v 53] <|
            .call (.fn 14) [.agg [.v 38,.v 39,.v 40,.v 41,.v 42,.v 43,.v 44,.v 45,.v 47],.v 4] 0 <|
            .bind (.ext 0) [.v 56] <|
            .bind (.ext 1) [.v 56] <|
            .call (.fn 18) [.agg [.v 38,.v 39,.v 40,.v 41,.v 42,.v 43,.v 44,.v 45,.v 47],.v 4] 1 <|
            .bind (.bin .eql 39 (.tmp 106) (K' 0)) [.v 59,k' 0] <|
            it' 60 (
             .bind (.bin .eql 39 (.tmp 109) (.tmp 110)) [.v 55,.v 58] <|
             it' 61 (
              .call (.fn 20) [.v 54,.v 57] 1 <|
              it' 62 (
               .call (.fn 9) [] 1 <|
               .ret [.v 63]) (
               rb' false)) (
              rb' false)) (
             rb' false))))))))))))
def z6Ts:Nat→Tree
 | 0=>z6T0
 | _=>.fail
def z20P:Nat→Pat
 | 1=>⟨[⟨.pure,false⟩,⟨.pure,false⟩,⟨.pure,true⟩,⟨.pure,true⟩],[(0,.v 0),(1,.v 1),(12,.v 2),(13,.v 3)],[],[]⟩
 | _=>⟨[],[],[],[]⟩
def z20T0:Tree :=
 ln' 0 <|
 ln' 1 <|
 bt' .neq 7 9 2 3 <|
 it' 4 (
  rb' false) (
  ln' 0 <|
  .jump 1 [.v 0,.v 1,.v 5,k' 0])
def z20T1:Tree :=
 bt' .lss 13 12 3 2 <|
 it' 4 (
  ir' 0 3 <|
  el' 1 0 0 3 <|
  ir' 1 3 <|
  el' 1 0 1 3 <|
  bt' .neq 19 23 6 8 <|
  it' 9 (
   rb' false) (
   bk' .add 13 1 3 <|
   .jump 1 [.v 0,.v 1,.v 2,.v 10])) (
  rb' true)
def z20Ts:Nat→Tree
 | 0=>z20T0
 | 1=>z20T1
 | _=>.fail
def z23P:Nat→Pat
 | 1=>⟨[⟨.pure,false⟩,⟨.pure,false⟩,⟨.pure,true⟩,⟨.pure,true⟩],[(0,.v 0),(1,.v 1),(4,.loc 0 0),(8,.v 2),(9,.v 3)],[some (.cells [k' 0,.c (.slice none 0 0),k' 0,.c (.slice none 0 0),k' 0,.c (.slice none 0 0),.c (.slice none 0 0),.c (.slice none 0 0)])],[]⟩
 | _=>⟨[],[],[],[]⟩
def z23T0:Tree :=
 ln' 0 <|
 .jump 1 [.v 0,.v 1,.v 2,k' 0]
def z23T1:Tree :=
 bt' .lss 9 8 3 2 <|
 it' 4 (
  ir' 0 3 <|
  el' 8 0 0 3 <|
  bt' .eql 16 17 6 1 <|
  it' 7 (
   ir' 0 3 <|
   .bind (.elem 8 true 8 0) [.v 0,.v 3] <|
   .bind (.chk true 8) [.v 9] <|
   .ret [.v 10,.c (.bool true)]) (
   bk' .add 9 1 3 <|
   .jump 1 [.v 0,.v 1,.v 2,.v 8])) (
  .ret [.agg [k' 0,.c (.slice none 0 0),k' 0,.c (.slice none 0 0),k' 0,.c (.slice none 0 0),.c (.slice none 0 0),.c (.slice none 0 0)],.c (.bool false)])
def z23Ts:Nat→Tree
 | 0=>z23T0
 | 1=>z23T1
 | _=>.fail
def z24P:Nat→Pat
 | 1=>⟨[⟨.pure,false⟩,⟨.fresh,true⟩,⟨.pure,true⟩,⟨.pure,false⟩,⟨.pure,false⟩],[(1,.v 0),(3,.loc 0 0),(5,.loc 1 0),(8,.v 1),(9,.v 2)],[some (.whole (.v 3) 1),some (.whole (.v 4) 8)],[]⟩
 | _=>⟨[],[],[],[]⟩
def z24T0:Tree :=
 .bind (.chk true 1) [.v 0] <|
 .bind (.chk true 8) [.v 2] <|
 .jump 1 [.v 1,.c (.slice none 0 0),k' 0,.v 3,.v 4]
def z24T1:Tree :=
 ln' 0 <|
 bt' .lss 11 13 2 5 <|
 it' 6 (
  ir' 0 2 <|
  el' 8 0 0 2 <|
  fl' 0 4 <|
  bt' .lss 20 22 8 9 <|
  it' 10 (
   ir' 0 2 <|
   .bind (.elem 8 true 8 0) [.v 0,.v 2] <|
   .bind (.chk true 8) [.v 12] <|
   .bind (.lit 59 8) [.v 12] <|
   .bind (.app 59 8 144) [.v 1,.v 14] <|
   bk' .add 32 1 2 <|
   .jump 1 [.v 0,.v 15,.v 16,.v 3,.v 4]) (
   .bind (.chk true 8) [.v 4] <|
   .bind (.lit 59 8) [.v 4] <|
   .bind (.app 59 8 144) [.v 1,.v 12] <|
   ln' 0 <|
   bt' .lss 38 40 2 14 <|
   it' 15 (
    ir' 0 2 <|
    el' 8 0 0 2 <|
    fl' 0 4 <|
    bt' .eql 47 49 17 18 <|
    it' 19 (
     bk' .add 52 1 2 <|
     .bind (.slc 59 8 true false) [.v 0,.v 20] <|
     .bind (.app 59 8 144) [.v 13,.v 21] <|
     .call (.fn 35) [.v 3,.v 22] 1 <|
     .bind (.bin .neq 39 (.tmp 62) (K' 0)) [.v 23,k' 0] <|
     it' 24 (
      .ret [.c (.slice none 0 0),.v 23]) (
      .ret [.v 22,k' 0])) (
     .bind (.slc 59 8 true false) [.v 0,.v 2] <|
     .bind (.app 59 8 144) [.v 13,.v 20] <|
     .call (.fn 35) [.v 3,.v 21] 1 <|
     .bind (.bin .neq 39 (.tmp 62) (K' 0)) [.v 22,k' 0] <|
     it' 23 (
      .ret [.c (.slice none 0 0),.v 22]) (
      .ret [.v 21,k' 0]))) (
    .bind (.slc 59 8 true false) [.v 0,.v 2] <|
    .bind (.app 59 8 144) [.v 13,.v 16] <|
    .call (.fn 35) [.v 3,.v 17] 1 <|
    .bind (.bin .neq 39 (.tmp 62) (K' 0)) [.v 18,k' 0] <|
    it' 19 (
     .ret [.c (.slice none 0 0),.v 18]) (
     .ret [.v 17,k' 0])))) (
  .bind (.chk true 8) [.v 4] <|
  .bind (.lit 59 8) [.v 4] <|
  .bind (.app 59 8 144) [.v 1,.v 8] <|
  ln' 0 <|
  bt' .lss 38 40 2 10 <|
  it' 11 (
   ir' 0 2 <|
   el' 8 0 0 2 <|
   fl' 0 4 <|
   bt' .eql 47 49 13 14 <|
   it' 15 (
    bk' .add 52 1 2 <|
    .bind (.slc 59 8 true false) [.v 0,.v 16] <|
    .bind (.app 59 8 144) [.v 9,.v 17] <|
    .call (.fn 35) [.v 3,.v 18] 1 <|
    .bind (.bin .neq 39 (.tmp 62) (K' 0)) [.v 19,k' 0] <|
    it' 20 (
     .ret [.c (.slice none 0 0),.v 19]) (
     .ret [.v 18,k' 0])) (
    .bind (.slc 59 8 true false) [.v 0,.v 2] <|
    .bind (.app 59 8 144) [.v 9,.v 16] <|
    .call (.fn 35) [.v 3,.v 17] 1 <|
    .bind (.bin .neq 39 (.tmp 62) (K' 0)) [.v 18,k' 0] <|
    it' 19 (
     .ret [.c (.slice none 0 0),.v 18]) (
     .ret [.v 17,k' 0]))) (
   .bind (.slc 59 8 true false) [.v 0,.v 2] <|
   .bind (.app 59 8 144) [.v 9,.v 12] <|
   .call (.fn 35) [.v 3,.v 13] 1 <|
   .bind (.bin .neq 39 (.tmp 62) (K' 0)) [.v 14,k' 0] <|
   it' 15 (
    .ret [.c (.slice none 0 0),.v 14]) (
    .ret [.v 13,k' 0])))
def z24Ts:Nat→Tree
 | 0=>z24T0
 | 1=>z24T1
 | _=>.fail
def z35P:Nat→Pat
 | 1=>⟨[⟨.pure,false⟩,⟨.pure,true⟩,⟨.pure,true⟩,⟨.pure,false⟩],[(1,.v 0),(2,.loc 0 0),(13,.v 1),(14,.v 2)],[some (.whole (.v 3) 1)],[]⟩
 | 2=>⟨[⟨.pure,false⟩,⟨.pure,true⟩,⟨.pure,true⟩],[(1,.v 0),(44,.v 1),(45,.v 2)],[],[]⟩
 | 3=>⟨[⟨.pure,false⟩,⟨.pure,true⟩,⟨.pure,true⟩,⟨.pure,false⟩,⟨.pure,false⟩,⟨.pure,false⟩,⟨.pure,false⟩,⟨.pure,false⟩,⟨.pure,true⟩,⟨.pure,true⟩],[(1,.v 0),(7,.v 1),(44,.v 2),(45,.v 1),(55,.v 3),(56,.v 3),(57,.v 4),(60,.v 5),(61,.v 6),(62,.v 7),(69,.v 8),(70,.v 9)],[],[]⟩
 | _=>⟨[],[],[],[]⟩
def z35T0:Tree :=
 .bind (.chk true 1) [.v 0] <|
 ln' 1 <|
 bk' .gtr 10 100 3 <|
 it' 4 (
  rk' 11) (
  ln' 1 <|
  .jump 1 [.v 1,.v 5,k' 0,.v 2])
def z35T1:Tree :=
 bt' .lss 14 13 2 1 <|
 it' 4 (
  ir' 0 2 <|
  .bind (.elem 8 true 8 0) [.v 0,.v 2] <|
  .call (.fn 65) [.v 3,.v 6] 1 <|
  .bind (.bin .neq 39 (.tmp 23) (K' 0)) [.v 7,k' 0] <|
  it' 8 (
   .ret [.v 7]) (
   bk' .gtr 26 0 2 <|
   it' 9 (
    ir' 0 2 <|
    el' 8 0 0 2 <|
    bk' .sub 35 1 2 <|
    ir' 0 12 <|
    el' 8 0 0 12 <|
    bt' .leq 33 39 11 14 <|
    it' 15 (
     rk' 10) (
     bk' .add 14 1 2 <|
     .jump 1 [.v 0,.v 1,.v 16,.v 3])) (
    bk' .add 14 1 2 <|
    .jump 1 [.v 0,.v 1,.v 10,.v 3]))) (
  ln' 0 <|
  .jump 2 [.v 0,.v 5,k' 0])
def z35T2:Tree :=
 bt' .lss 45 44 2 1 <|
 it' 3 (
  ir' 0 2 <|
  el' 8 4 0 2 <|
  bk' .neq 52 0 5 <|
  it' 6 (
   ir' 0 2 <|
   el' 8 4 0 2 <|
   .call (.fn 66) [.v 0,.v 8] 1 <|
   .bind (.un .not 4) [.v 9] <|
   it' 10 (
    rk' 9) (
    ir' 0 2 <|
    el' 8 6 0 2 <|
    ln' 12 <|
    .jump 3 [.v 0,.v 2,.v 1,.v 0,.v 2,.v 8,.v 9,.c (.bool false),.v 13,k' 0])) (
   ir' 0 2 <|
   el' 8 6 0 2 <|
   ln' 8 <|
   .jump 3 [.v 0,.v 2,.v 1,.tup [],.tup [],.tup [],.tup [],.tup [],.v 9,k' 0])) (
  rk' 0)
def z35T3:Tree :=
 bt' .lss 70 69 9 8 <|
 it' 10 (
  ir' 0 1 <|
  el' 8 6 0 1 <|
  ir' 12 9 <|
  el' 2 1 12 9 <|
  .call (.fn 66) [.v 0,.v 14] 1 <|
  .bind (.un .not 4) [.v 15] <|
  it' 16 (
   rk' 9) (
   bk' .add 70 1 9 <|
   .jump 3 [.v 0,.v 1,.v 2,.v 3,.v 4,.v 5,.v 6,.v 7,.v 8,.v 17])) (
  bk' .add 45 1 1 <|
  .jump 2 [.v 0,.v 2,.v 11])
def z35Ts:Nat→Tree
 | 0=>z35T0
 | 1=>z35T1
 | 2=>z35T2
 | 3=>z35T3
 | _=>.fail
theorem allK:(rt Tryz.f6 3 z6P,
 hd Tryz.f6 3 z6P,
 nr Tryz.f6,
 rt Tryz.f20 2 z20P,
 hd Tryz.f20 2 z20P,
 nr Tryz.f20,
 rt Tryz.f23 2 z23P,
 hd Tryz.f23 2 z23P,
 nr Tryz.f23,
 rt Tryz.f24 3 z24P,
 hd Tryz.f24 3 z24P,
 nr Tryz.f24,
 rt Tryz.f35 2 z35P,
 hd Tryz.f35 2 z35P,
 nr Tryz.f35) =
 (z6T0,[],false,z20T0,[(1,z20T1)],false,z23T0,[(1,z23T1)],false,z24T0,[(1,z24T1)],false,z35T0,[(1,z35T1),(2,z35T2),(3,z35T3)],false):=by kernel_rfl
theorem z6 {ds:List D} {d:D} (hn:ds.length=3) (h:Goes EE (Holds EE) z6Ts 0 ds d):Holds EE 6 ds d :=
 hu Tryz.func6 rfl ((Prod.mk.inj allK).1) ((Prod.mk.inj (nx1 allK)).1) ((Prod.mk.inj (nx1 (nx1 allK))).1) (tabN) hn h
theorem z20 {ds:List D} {d:D} (hn:ds.length=2) (h:Goes EE (Holds EE) z20Ts 0 ds d):Holds EE 20 ds d :=
 hu Tryz.func20 rfl ((Prod.mk.inj (nx1 (nx1 (nx1 allK)))).1) ((Prod.mk.inj (nx4 allK)).1) ((Prod.mk.inj (nx1 (nx4 allK))).1) (tabC rfl <| tabN) hn h
theorem z23 {ds:List D} {d:D} (hn:ds.length=2) (h:Goes EE (Holds EE) z23Ts 0 ds d):Holds EE 23 ds d :=
 hu Tryz.func23 rfl ((Prod.mk.inj (nx1 (nx1 (nx4 allK)))).1) ((Prod.mk.inj (nx1 (nx1 (nx1 (nx4 allK))))).1) ((Prod.mk.inj (nx4 (nx4 allK))).1) (tabC rfl <| tabN) hn h
theorem z24 {ds:List D} {d:D} (hn:ds.length=3) (h:Goes EE (Holds EE) z24Ts 0 ds d):Holds EE 24 ds d :=
 hu Tryz.func24 rfl ((Prod.mk.inj (nx1 (nx4 (nx4 allK)))).1) ((Prod.mk.inj (nx1 (nx1 (nx4 (nx4 allK))))).1) ((Prod.mk.inj (nx1 (nx1 (nx1 (nx4 (nx4 allK)))))).1) (tabC rfl <| tabN) hn h
theorem z35 {ds:List D} {d:D} (hn:ds.length=2) (h:Goes EE (Holds EE) z35Ts 0 ds d):Holds EE 35 ds d :=
 hu Tryz.func35 rfl ((Prod.mk.inj (nx4 (nx4 (nx4 allK)))).1) ((Prod.mk.inj (nx1 (nx4 (nx4 (nx4 allK))))).1) ((nx1 (nx1 (nx4 (nx4 (nx4 allK)))))) (tabC rfl <| tabC rfl <| tabC rfl <| tabN) hn h
end Go.Proofs.YtnemldklhelbeaaGreat
