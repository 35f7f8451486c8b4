/- Trees of functions. Conditions: none. -/
import Derived.Test.YtnemldklhelbeaaGreatJa
set_option linter.unusedVariables false
set_option linter.unusedSimpArgs false
namespace Go.Proofs.YtnemldklhelbeaaGreat
open Go Go.Am Go.Proofs
def u63P:Nat→Pat
 | 1=>⟨[⟨.pure,true⟩,⟨.pure,true⟩,⟨.pure,false⟩,⟨.pure,false⟩],[(2,.loc 0 0),(3,.loc 1 0),(21,.v 0),(22,.v 1)],[some (.whole (.v 2) 1),some (.whole (.v 3) 6)],[]⟩
 | _=>⟨[],[],[],[]⟩
def u63T0:Tree :=
 .bind (.chk true 1) [.v 0] <|
 .bind (.chk true 6) [.v 1] <|
 fl' 0 3 <|
 ln' 4 <|
 bk' .eql 8 0 5 <|
 it' 6 (
  rk' 1) (
  fl' 1 3 <|
  ln' 7 <|
  fl' 0 3 <|
  ln' 9 <|
  bt' .neq 13 16 8 10 <|
  it' 11 (
   rk' 1) (
   fl' 0 3 <|
   ln' 12 <|
   .jump 1 [.v 13,k' 0,.v 2,.v 3]))
def u63T1:Tree :=
 bt' .lss 22 21 1 0 <|
 it' 4 (
  fl' 0 3 <|
  ir' 5 1 <|
  el' 1 0 5 1 <|
  .call (.fn 94) [.v 2,.v 7] 1 <|
  .bind (.un .not 4) [.v 8] <|
  it' 9 (
   rk' 19) (
   fl' 1 3 <|
   ir' 10 1 <|
   el' 1 0 10 1 <|
   bk' .neq 38 0 12 <|
   it' 13 (
    fl' 1 3 <|
    ir' 14 1 <|
    el' 1 0 14 1 <|
    .call (.fn 94) [.v 2,.v 16] 1 <|
    .bind (.un .not 4) [.v 17] <|
    it' 18 (
     rk' 19) (
     bk' .add 22 1 1 <|
     .jump 1 [.v 0,.v 19,.v 2,.v 3])) (
    bk' .add 22 1 1 <|
    .jump 1 [.v 0,.v 14,.v 2,.v 3]))) (
  fl' 0 3 <|
  .call (.fn 95) [.v 5] 0 <|
  ln' 6 <|
  fl' 0 3 <|
  ln' 8 <|
  bt' .neq 55 58 7 9 <|
  it' 10 (
   rk' 8) (
   fl' 2 3 <|
   ln' 11 <|
   bk' .gtr 62 2 12 <|
   it' 13 (
    rk' 5) (
    fl' 3 3 <|
    ln' 14 <|
    bk' .gtr 67 2 15 <|
    it' 16 (
     rk' 5) (
     rk' 0))))
def u63Ts:Nat→Tree
 | 0=>u63T0
 | 1=>u63T1
 | _=>.fail
def u33P:Nat→Pat
 | 1=>⟨[⟨.pure,true⟩,⟨.pure,false⟩],[(1,.loc 0 0),(3,.v 0)],[some (.whole (.v 1) 9)],[]⟩
 | _=>⟨[],[],[],[]⟩
def u33T0:Tree :=
 .bind (.chk true 9) [.v 0] <|
 fl' 4 1 <|
 ln' 2 <|
 bk' .gtr 7 12 3 <|
 it' 4 (
  rk' 11) (
  .jump 1 [k' 0,.v 1])
def u33T1:Tree :=
 fl' 4 1 <|
 ln' 2 <|
 bt' .lss 9 12 0 3 <|
 it' 4 (
  .bind (.fld true 1 0) [.v 1] <|
  fl' 4 1 <|
  ir' 6 0 <|
  .bind (.elem 6 true 6 0) [.v 6,.v 0] <|
  .call (.fn 63) [.v 5,.v 8] 1 <|
  .bind (.bin .neq 39 (.tmp 24) (K' 0)) [.v 9,k' 0] <|
  it' 10 (
   .ret [.v 9]) (
   bk' .add 14 1 0 <|
   .jump 1 [.v 11,.v 1])) (
  rk' 0)
def u33Ts:Nat→Tree
 | 0=>u33T0
 | 1=>u33T1
 | _=>.fail
theorem allR:(rt Tryz.f63 2 u63P,
 hd Tryz.f63 2 u63P,
 nr Tryz.f63,
 rt Tryz.f33 1 u33P,
 hd Tryz.f33 1 u33P,
 nr Tryz.f33) =
 (u63T0,[(1,u63T1)],false,u33T0,[(1,u33T1)],false):=by kernel_rfl
theorem u63 {ds:List D} {d:D} (hn:ds.length=2) (h:Goes EE (Holds EE) u63Ts 0 ds d):Holds EE 63 ds d :=
 hu Tryz.func63 rfl ((Prod.mk.inj allR).1) ((Prod.mk.inj (nx1 allR)).1) ((Prod.mk.inj (nx1 (nx1 allR))).1) (tabC rfl <| tabN) hn h
theorem u33 {ds:List D} {d:D} (hn:ds.length=1) (h:Goes EE (Holds EE) u33Ts 0 ds d):Holds EE 33 ds d :=
 hu Tryz.func33 rfl ((Prod.mk.inj (nx1 (nx1 (nx1 allR)))).1) ((Prod.mk.inj (nx4 allR)).1) ((nx1 (nx4 allR))) (tabC rfl <| tabN) hn h
end Go.Proofs.YtnemldklhelbeaaGreat
namespace Go.Proofs.YtnemldklhelbeaaGreat
open Go Go.Am Go.Proofs
def u11P:Nat→Pat
 | _=>⟨[],[],[],[]⟩
def u11T0:Tree :=
 .bind (.chk true 9) [.v 0] <|
 .bind (.fld true 1 0) [.v 1] <|
 .call (.fn 31) [.v 2] 1 <|
 .bind (.bin .neq 39 (.tmp 7) (K' 0)) [.v 3,k' 0] <|
 it' 4 (
  .ret [.v 3]) (
  .bind (.fld true 1 0) [.v 1] <|
  .bind (.fld true 3 1) [.v 1] <|
  .call (.fn 32) [.v 5,.v 6] 1 <|
  .bind (.bin .neq 39 (.tmp 15) (K' 0)) [.v 7,k' 0] <|
  it' 8 (
   .ret [.v 7]) (
   .call (.fn 33) [.v 1] 1 <|
   .bind (.bin .neq 39 (.tmp 20) (K' 0)) [.v 9,k' 0] <|
   it' 10 (
    .ret [.v 9]) (
    .bind (.fld true 3 5) [.v 1] <|
    .call (.fn 34) [.v 11] 1 <|
    .bind (.bin .neq 39 (.tmp 26) (K' 0)) [.v 12,k' 0] <|
    it' 13 (
     .ret [.v 12]) (
     .bind (.fld true 1 0) [.v 1] <|
     fl' 8 1 <|
     .call (.fn 35) [.v 14,.v 15] 1 <|
     .bind (.bin .neq 39 (.tmp 34) (K' 0)) [.v 16,k' 0] <|
     it' 17 (
      .ret [.v 16]) (
      fl' 8 1 <|
      .call (.fn 36) [.v 18] 1 <|
      .bind (.bin .neq 39 (.tmp 40) (K' 0)) [.v 19,k' 0] <|
      it' 20 (
       .ret [.v 19]) (
       fl' 8 1 <|
       .call (.fn 37) [.v 21] 1 <|
       .ret [.v 22]))))))
def u11Ts:Nat→Tree
 | 0=>u11T0
 | _=>.fail
def u12P:Nat→Pat
 | 1=>⟨[⟨.pure,true⟩,⟨.pure,false⟩],[(1,.loc 0 0),(3,.v 0)],[some (.whole (.v 1) 9)],[]⟩
 | _=>⟨[],[],[],[]⟩
def u12T0:Tree :=
 .bind (.chk true 9) [.v 0] <|
 fl' 0 1 <|
 ln' 2 <|
 bk' .gtr 7 8 3 <|
 it' 4 (
  rb' false) (
  fl' 2 1 <|
  ln' 5 <|
  bk' .gtr 13 10 6 <|
  it' 7 (
   rb' false) (
   fl' 4 1 <|
   ln' 8 <|
   bk' .gtr 19 2 9 <|
   it' 10 (
    rb' false) (
    fl' 5 1 <|
    bk' .gtr 25 3 11 <|
    it' 12 (
     rb' false) (
     fl' 6 1 <|
     ln' 13 <|
     bk' .gtr 32 6 14 <|
     it' 15 (
      rb' false) (
      fl' 7 1 <|
      ln' 16 <|
      bk' .gtr 39 3 17 <|
      it' 18 (
       rb' false) (
       fl' 8 1 <|
       .call (.fn 38) [.v 19] 1 <|
       .bind (.un .not 4) [.v 20] <|
       it' 21 (
        rb' false) (
        .jump 1 [k' 0,.v 1])))))))
def u12T1:Tree :=
 fl' 4 1 <|
 ln' 2 <|
 bt' .lss 48 51 0 3 <|
 it' 4 (
  fl' 4 1 <|
  ir' 5 0 <|
  el' 6 0 5 0 <|
  ln' 7 <|
  bk' .gtr 61 8 8 <|
  it' 9 (
   rb' false) (
   bk' .add 53 1 0 <|
   .jump 1 [.v 10,.v 1])) (
  .call (.fn 11) [.v 1] 1 <|
  .bind (.bin .eql 39 (.tmp 64) (K' 0)) [.v 5,k' 0] <|
  .ret [.v 6])
def u12Ts:Nat→Tree
 | 0=>u12T0
 | 1=>u12T1
 | _=>.fail
def u38P:Nat→Pat
 | 1=>⟨[⟨.pure,false⟩,⟨.pure,true⟩],[(0,.v 0),(3,.v 1)],[],[]⟩
 | 2=>⟨[⟨.pure,false⟩,⟨.pure,true⟩,⟨.pure,true⟩,⟨.pure,true⟩,⟨.pure,true⟩],[(0,.v 0),(3,.v 1),(4,.v 2),(22,.v 0),(23,.v 1),(26,.v 3),(27,.v 4),(28,.c (.bool false))],[],[]⟩
 | _=>⟨[],[],[],[]⟩
def u38T0:Tree :=
 ln' 0 <|
 bk' .gtr 6 5 1 <|
 it' 2 (
  rb' false) (
  .jump 1 [.v 0,k' 0])
def u38T1:Tree :=
 ln' 0 <|
 bt' .lss 8 10 1 2 <|
 it' 3 (
  ir' 0 1 <|
  el' 8 1 0 1 <|
  ln' 5 <|
  bk' .gtr 19 3 6 <|
  it' 7 (
   rb' false) (
   ir' 0 1 <|
   el' 8 3 0 1 <|
   ln' 9 <|
   bk' .gtr 27 1 10 <|
   it' 11 (
    rb' false) (
    .jump 2 [.v 0,.v 1,k' 0,.v 9,.v 10]))) (
  rb' true)
def u38T2:Tree :=
 ir' 0 1 <|
 el' 8 3 0 1 <|
 ln' 6 <|
 bt' .lss 30 36 2 7 <|
 it' 8 (
  ir' 0 1 <|
  el' 8 3 0 1 <|
  ir' 10 2 <|
  el' 1 0 10 2 <|
  ln' 12 <|
  bk' .gtr 48 3 13 <|
  it' 14 (
   rb' false) (
   bk' .add 38 1 2 <|
   .jump 2 [.v 0,.v 1,.v 15,.v 3,.v 4])) (
  bk' .add 12 1 1 <|
  .jump 1 [.v 0,.v 9])
theorem allS:(rt Tryz.f11 1 u11P,
 hd Tryz.f11 1 u11P,
 nr Tryz.f11,
 rt Tryz.f12 1 u12P,
 hd Tryz.f12 1 u12P,
 nr Tryz.f12,
 rt Tryz.f38 1 u38P,
 hd Tryz.f38 1 u38P,
 nr Tryz.f38) =
 (u11T0,[],false,u12T0,[(1,u12T1)],false,u38T0,[(1,u38T1),(2,u38T2)],false):=by kernel_rfl
theorem u11 {ds:List D} {d:D} (hn:ds.length=1) (h:Goes EE (Holds EE) u11Ts 0 ds d):Holds EE 11 ds d :=
 hu Tryz.func11 rfl ((Prod.mk.inj allS).1) ((Prod.mk.inj (nx1 allS)).1) ((Prod.mk.inj (nx1 (nx1 allS))).1) (tabN) hn h
theorem u12 {ds:List D} {d:D} (hn:ds.length=1) (h:Goes EE (Holds EE) u12Ts 0 ds d):Holds EE 12 ds d :=
 hu Tryz.func12 rfl ((Prod.mk.inj (nx1 (nx1 (nx1 allS)))).1) ((Prod.mk.inj (nx4 allS)).1) ((Prod.mk.inj (nx1 (nx4 allS))).1) (tabC rfl <| tabN) hn h
end Go.Proofs.YtnemldklhelbeaaGreat
