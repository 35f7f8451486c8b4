/- Trees of functions. Conditions: none. -/
import Derived.Test.YtnemldklhelbeaaGreatJa
set_option linter.unusedVariables false
set_option linter.unusedSimpArgs false
namespace Go.Proofs.YtnemldklhelbeaaGreat
open Go Go.Am Go.Proofs
def qUG:Nat->Pat
 | _=>⟨[],[],[],[]⟩
def qQE:Tree :=
 jN 1 0 <|
 zK 0 1 <|
 v4 2 <|
 vC .leq 5 20 3 <|
 .ret [.v 4]
def qUF:Nat->Tree
 | 0=>qQE
 | _=>.fail
def qUE:Nat->Pat
 | _=>⟨[],[],[],[]⟩
def qQD:Tree :=
 jN 9 0 <|
 jN 1 1 <|
 jM 18 [.v 2,.v 3] 1 <|
 .bind (.bin .neq 39 (.tmp 11) (K' 0)) [.v 4,k' 0] <|
 qZ 5 (
  .ret [.c (.slice none 0 0),.v 4]) (
  .bind (.fld true 1 0) [.v 2] <|
  zK 4 2 <|
  jM 22 [.v 2,.v 3] 0 <|
  jM 39 [.v 6,.v 7,.v 8] 0 <|
  v4 9 <|
  vC .eql 23 0 10 <|
  qZ 11 (
   .ret [.c (.slice none 0 0),k' 23]) (
   .ret [.v 9,k' 0]))
def qUD:Nat->Tree
 | 0=>qQD
 | _=>.fail
def qUw:Nat->Pat
 | 1=>⟨[⟨.pure,true⟩,⟨.pure,true⟩,⟨.pure,true⟩,⟨.pure,false⟩,⟨.pure,false⟩],[(2,.loc 0 0),(3,.loc 1 0),(21,.v 0),(22,.v 1),(23,.v 2)],[some (.whole (.v 3) 9),some (.whole (.v 4) 1)],[]⟩
 | _=>⟨[],[],[],[]⟩
def qQz:Tree :=
 jN 9 0 <|
 jN 1 1 <|
 zK 0 3 <|
 v4 4 <|
 vC .eql 14 0 5 <|
 qZ 6 (
  wP 4) (
  zK 0 3 <|
  v4 7 <|
  vC .gtr 18 4 8 <|
  qZ 9 (
   wP 11) (
   zK 0 3 <|
   v4 10 <|
   .jump 1 [.v 10,.v 11,k' 0,.v 2,.v 3]))
def qQy:Tree :=
 jF .lss 23 22 2 1 <|
 qZ 5 (
  jQ 0 2 <|
  .bind (.elem 3 true 3 0) [.v 0,.v 2] <|
  jN 3 7 <|
  zK 8 3 <|
  zK 0 8 <|
  jM 43 [.v 9,.v 10] 0 <|
  mR 0 11 <|
  mR 1 11 <|
  jN 8 12 <|
  .bind (.un .not 4) [.v 13] <|
  qZ 15 (
   wP 9) (
   jM 44 [.v 3,.v 8] 0 <|
   mR 0 16 <|
   mR 1 16 <|
   mR 2 16 <|
   jN 8 17 <|
   .bind (.un .not 4) [.v 19] <|
   qZ 21 (
    wP 2) (
    zK 2 8 <|
    vC .lss 47 0 22 <|
    qZ 23 (
     wP 22) (
     zK 2 8 <|
     zK 8 3 <|
     zK 0 8 <|
     jM 45 [.v 25,.v 26] 0 <|
     v4 27 <|
     jF .geq 51 57 24 28 <|
     qZ 29 (
      wP 22) (
      vC .add 23 1 2 <|
      .jump 1 [.v 0,.v 1,.v 30,.v 3,.v 4]))))) (
  .bind (.fld true 3 5) [.v 3] <|
  jM 21 [.v 3,.v 4] 0 <|
  jM 46 [.v 6,.v 7] 1 <|
  .bind (.un .not 4) [.v 8] <|
  qZ 9 (
   wP 21) (
   jM 22 [.v 3,.v 4] 0 <|
   v4 10 <|
   vC .gtr 71 24 11 <|
   qZ 12 (
    wP 5) (
    wP 0)))
def qQx:Nat->Tree
 | 0=>qQz
 | 1=>qQy
 | _=>.fail
def qUu:Nat->Pat
 | 1=>⟨[⟨.fresh,true⟩,⟨.pure,true⟩,⟨.pure,true⟩,⟨.pure,true⟩,⟨.pure,false⟩],[(2,.loc 0 0),(5,.v 0),(12,.v 1),(13,.v 2),(14,.v 3)],[some (.whole (.v 4) 9)],[]⟩
 | _=>⟨[],[],[],[]⟩
def qQt:Tree :=
 jN 9 0 <|
 jN 1 1 <|
 zK 0 3 <|
 v4 4 <|
 .jump 1 [.c (.slice none 0 0),.v 4,.v 5,k' 0,.v 2]
def qQs:Tree :=
 jF .lss 14 13 3 2 <|
 qZ 5 (
  jQ 1 3 <|
  .bind (.elem 3 true 3 0) [.v 1,.v 3] <|
  jN 3 7 <|
  jM 44 [.v 4,.v 8] 0 <|
  mR 0 9 <|
  mR 1 9 <|
  mR 2 9 <|
  jN 8 10 <|
  qZ 12 (
   zK 2 13 <|
   qBs 14 <|
   .bind (.lit 3 1) [.v 14] <|
   .bind (.app 3 1 8) [.v 0,.v 16] <|
   vC .add 14 1 3 <|
   .jump 1 [.v 17,.v 1,.v 2,.v 18,.v 4]) (
   vC .add 14 1 3 <|
   .jump 1 [.v 0,.v 1,.v 2,.v 14,.v 4])) (
  .ret [.v 0])
def qJL:Nat->Tree
 | 0=>qQt
 | 1=>qQs
 | _=>.fail
def qUt:Nat->Pat
 | 1=>⟨[⟨.fresh,true⟩,⟨.pure,true⟩,⟨.pure,true⟩,⟨.pure,true⟩,⟨.pure,false⟩],[(2,.loc 0 0),(5,.v 0),(12,.v 1),(13,.v 2),(14,.v 3)],[some (.whole (.v 4) 9)],[]⟩
 | _=>⟨[],[],[],[]⟩
def qQr:Tree :=
 jN 9 0 <|
 jN 1 1 <|
 zK 0 3 <|
 v4 4 <|
 .jump 1 [.c (.slice none 0 0),.v 4,.v 5,k' 0,.v 2]
def qQq:Tree :=
 jF .lss 14 13 3 2 <|
 qZ 5 (
  jQ 1 3 <|
  .bind (.elem 3 true 3 0) [.v 1,.v 3] <|
  jN 3 7 <|
  jM 44 [.v 4,.v 8] 0 <|
  mR 0 9 <|
  mR 1 9 <|
  mR 2 9 <|
  jN 8 10 <|
  qZ 12 (
   .bind (.app 3 1 8) [.v 0,.v 11] <|
   vC .add 14 1 3 <|
   .jump 1 [.v 14,.v 1,.v 2,.v 15,.v 4]) (
   vC .add 14 1 3 <|
   .jump 1 [.v 0,.v 1,.v 2,.v 14,.v 4])) (
  .ret [.v 0])
def qJK:Nat->Tree
 | 0=>qQr
 | 1=>qQq
 | _=>.fail
def qUn:Nat->Pat
 | 1=>⟨[⟨.pure,false⟩,⟨.pure,false⟩,⟨.pure,true⟩,⟨.pure,true⟩,⟨.pure,false⟩],[(2,.v 0),(3,.loc 0 0),(9,.v 1),(10,.v 2),(11,.v 3)],[some (.whole (.v 4) 1)],[]⟩
 | _=>⟨[],[],[],[]⟩
def qP6:Tree :=
 jN 1 0 <|
 v4 1 <|
 .jump 1 [.v 2,.v 1,.v 4,k' 0,.v 3]
def qP5:Tree :=
 jF .lss 11 10 3 2 <|
 qZ 5 (
  jQ 1 3 <|
  .bind (.elem 6 true 6 0) [.v 1,.v 3] <|
  jN 6 7 <|
  jM 74 [.v 4,.v 8,.v 0] 0 <|
  vC .add 11 1 3 <|
  .jump 1 [.v 9,.v 1,.v 2,.v 10,.v 4]) (
  .ret [.v 0])
def qP4:Nat->Tree
 | 0=>qP6
 | 1=>qP5
 | _=>.fail
def qUj:Nat->Pat
 | _=>⟨[],[],[],[]⟩
def qPV:Tree :=
 qBs 1 <|
 .bind .box [.v 2] <|
 .call (.fn 79) [.v 0,.fn (.func 80) [] [.pp 3 0]] 1 <|
 vC .lss 10 0 4 <|
 qZ 5 (
  .ret [.agg [k' 0,.c (.slice none 0 0),k' 0,.c (.slice none 0 0),k' 0,.c (.slice none 0 0),.c (.slice none 0 0),.c (.slice none 0 0)],.c (.bool false)]) (
  jQ 0 4 <|
  .bind (.elem 8 true 8 0) [.v 0,.v 4] <|
  jN 8 7 <|
  .ret [.v 8,.c (.bool true)])
def qUi:Nat->Tree
 | 0=>qPV
 | _=>.fail
def qUh:Nat->Pat
 | _=>⟨[],[],[],[]⟩
def qPU:Tree :=
 jN 9 0 <|
 jN 3 1 <|
 zK 8 2 <|
 zK 0 3 <|
 jM 43 [.v 4,.v 5] 0 <|
 mR 0 6 <|
 mR 1 6 <|
 jN 8 7 <|
 jM 81 [.v 9] 0 <|
 .bind (.un .not 4) [.v 8] <|
 qZ 11 (
  jN 8 9 <|
  .ret [.v 12,.c (.slice none 0 0),.c (.bool false)]) (
  zK 1 3 <|
  vC .lss 24 0 12 <|
  qZ 13 (
   jN 8 9 <|
   .ret [.v 14,.c (.slice none 0 0),.c (.bool false)]) (
   zK 1 3 <|
   v4 10 <|
   jF .geq 29 31 14 15 <|
   qZ 16 (
    jN 8 9 <|
    .ret [.v 17,.c (.slice none 0 0),.c (.bool false)]) (
    zK 1 3 <|
    jQ 10 17 <|
    vL 1 0 10 17 <|
    jN 8 9 <|
    jQ 10 17 <|
    .ret [.v 20,.v 19,.c (.bool true)])))
def qUg:Nat->Tree
 | 0=>qPU
 | _=>.fail
def qCB:Nat->Pat
 | 1000=>⟨[⟨.pure,true⟩,⟨.pure,true⟩,⟨.pure,true⟩,⟨.pure,true⟩],[(0,.yld 3),(1,.loc 1 0),(2,.loc 2 0),(8,.v 0),(9,.v 1)],[some (.cells [.c (.slice none 0 0)]),some (.cells [.v 2]),some (.cells [.v 3]),some (.loop 0 0)],[[(4,.loc 0 0)]]⟩
 | _=>⟨[],[],[none,none,none,none],[]⟩
def qPT:Tree :=
 qBs 0 <|
 qBs 1 <|
 v4 2 <|
 vC .add 7 1 4 <|
 .jump 1000 [.v 5,k' 0,.v 2,.v 3]
def qDw:Tree :=
 jF .lss 9 8 1 0 <|
 qZ 4 (
  jM 43 [.v 2,.v 3] 0 <|
  mR 0 5 <|
  mR 1 5 <|
  jN 8 6 <|
  .bind (.un .not 4) [.v 7] <|
  qZ 9 (
   .ret [.c (.slice none 0 0)]) (
   jN 8 8 <|
   zK 5 10 <|
   v4 11 <|
   vC .gtr 12 0 12 <|
   qZ 13 (
    zK 5 10 <|
    jM 83 [.v 14] 0 <|
    qBs 15 <|
    .ret [.v 16]) (
    zK 4 8 <|
    vC .eql 27 0 14 <|
    qZ 15 (
     .ret [.c (.slice none 0 0)]) (
     zK 4 8 <|
     vC .add 9 1 1 <|
     .jump 1000 [.v 0,.v 17,.v 2,.v 16])))) (
  .ret [.c (.slice none 0 0)])
def qPS:Nat->Tree
 | 0=>qPT
 | 1000=>qDw
 | _=>.fail
noncomputable def qH3:qFg:=[(103,Tryz.f103,vP Tryz.f103),(82,Tryz.f82,vP Tryz.f82)]
noncomputable def qDv:Nat->Nat:=fun k=>bif Nat.ble 1000 k then Nat.max Tryz.f103.ntmps 3 else Nat.max Tryz.f45.ntmps 2
def qUf:Nat->Pat
 | _=>⟨[],[],[],[]⟩
def qPR:Tree :=
 jN 3 0 <|
 jM 84 [.v 2,.v 1] 1 <|
 jM 85 [.v 2] 1 <|
 .bind (.bin .and 152 (.tmp 7) (.tmp 9)) [.v 3,.v 4] <|
 .bind (.bin .neq 152 (.tmp 10) (.const (.int .u32 0))) [.v 5,.c (.int .u32 0)] <|
 .ret [.v 6]
def qUe:Nat->Tree
 | 0=>qPR
 | _=>.fail
def qTW:Nat->Pat
 | 1=>⟨[⟨.pure,false⟩,⟨.fresh,true⟩,⟨.pure,true⟩,⟨.pure,true⟩,⟨.pure,false⟩,⟨.pure,false⟩],[(2,.v 0),(3,.loc 0 0),(4,.loc 1 0),(7,.v 1),(10,.v 0),(11,.v 2),(12,.v 3)],[some (.whole (.v 4) 1),some (.whole (.v 5) 6)],[]⟩
 | _=>⟨[],[],[],[]⟩
def qPp:Tree :=
 jN 1 0 <|
 jN 6 1 <|
 v4 2 <|
 .jump 1 [.v 2,.c (.slice none 0 0),.v 5,k' 0,.v 3,.v 4]
def qPo:Tree :=
 jF .lss 12 11 3 2 <|
 qZ 6 (
  jQ 0 3 <|
  vL 1 0 0 3 <|
  jM 100 [.v 4,.v 5,.v 0,.v 3] 1 <|
  qZ 9 (
   zK 1 5 <|
   zK 0 5 <|
   jM 101 [.v 11,.v 8] 1 <|
   jQ 10 12 <|
   vL 1 0 10 12 <|
   vC .eql 30 0 14 <|
   qZ 15 (
    vC .add 12 1 3 <|
    .jump 1 [.v 0,.v 1,.v 2,.v 16,.v 4,.v 5]) (
    qBs 14 <|
    .bind (.lit 3 1) [.v 14] <|
    .bind (.app 3 1 8) [.v 1,.v 17] <|
    vC .add 12 1 3 <|
    .jump 1 [.v 0,.v 18,.v 2,.v 19,.v 4,.v 5])) (
   qBs 8 <|
   .bind (.lit 3 1) [.v 8] <|
   .bind (.app 3 1 8) [.v 1,.v 11] <|
   vC .add 12 1 3 <|
   .jump 1 [.v 0,.v 12,.v 2,.v 13,.v 4,.v 5])) (
  .ret [.v 1])
def qPn:Nat->Tree
 | 0=>qPp
 | 1=>qPo
 | _=>.fail
def qTP:Nat->Pat
 | 1=>⟨[⟨.pure,false⟩,⟨.pure,false⟩,⟨.pure,true⟩,⟨.pure,true⟩],[(0,.v 0),(1,.v 1),(7,.v 2),(8,.v 3)],[],[]⟩
 | _=>⟨[],[],[],[]⟩
def qPe:Tree :=
 v4 0 <|
 .jump 1 [.v 0,.v 1,.v 2,k' 0]
def qPd:Tree :=
 jF .lss 8 7 3 2 <|
 qZ 4 (
  jQ 0 3 <|
  .bind (.elem 8 true 8 0) [.v 0,.v 3] <|
  .call (.val (.v 1)) [.v 1,.v 6] 1 <|
  qZ 7 (
   .ret [.v 3]) (
   vC .add 8 1 3 <|
   .jump 1 [.v 0,.v 1,.v 2,.v 8])) (
  .ret [.c (.int .i64 (-1))])
def qJz:Nat->Tree
 | 0=>qPe
 | 1=>qPd
 | _=>.fail
def qTO:Nat->Pat
 | _=>⟨[],[],[],[]⟩
def qPc:Tree :=
 jN 8 0 <|
 zK 0 2 <|
 .bind .pchk [.v 1] <|
 .bind (.loadp false 1) [.pp 4 0] <|
 jF .eql 5 6 3 5 <|
 .ret [.v 6]
def qTN:Nat->Tree
 | 0=>qPc
 | _=>.fail
def qTM:Nat->Pat
 | _=>⟨[],[],[],[]⟩
def qPb:Tree :=
 jN 8 0 <|
 zK 1 1 <|
 qBs 2 <|
 .bind (.lit 31 1) [.v 2] <|
 zK 3 1 <|
 .bind (.app 31 1 24) [.v 4,.v 5] <|
 .ret [.v 6]
def qTL:Nat->Tree
 | 0=>qPb
 | _=>.fail
def qTK:Nat->Pat
 | _=>⟨[],[],[],[]⟩
def qPa:Tree :=
 .bind (.isNil false) [.v 0] <|
 qZ 1 (
  .ret [.c (.slice none 0 0)]) (
  .bind (.lit 79 2) [] <|
  .bind (.app 79 2 32) [.v 2,.v 0] <|
  .ret [.v 3])
def qTJ:Nat->Tree
 | 0=>qPa
 | _=>.fail
def qTI:Nat->Pat
 | 1=>⟨[⟨.pure,true⟩,⟨.pure,false⟩,⟨.pure,true⟩,⟨.pure,true⟩,⟨.pure,false⟩],[(2,.loc 0 0),(5,.v 0),(8,.v 1),(9,.v 2),(10,.v 3)],[some (.whole (.v 4) 3)],[]⟩
 | _=>⟨[],[],[],[]⟩
def qO9:Tree :=
 jN 3 0 <|
 v4 1 <|
 .jump 1 [.c (.int .u32 1),.v 1,.v 3,k' 0,.v 2]
def qO8:Tree :=
 jF .lss 10 9 3 2 <|
 qZ 5 (
  jQ 1 3 <|
  vL 1 0 1 3 <|
  jM 104 [.v 4,.v 0,.v 7] 1 <|
  vC .add 10 1 3 <|
  .jump 1 [.v 8,.v 1,.v 2,.v 9,.v 4]) (
  .ret [.v 0])
def qO7:Nat->Tree
 | 0=>qO9
 | 1=>qO8
 | _=>.fail
def qTH:Nat->Pat
 | 1=>⟨[⟨.pure,true⟩,⟨.pure,true⟩,⟨.pure,true⟩,⟨.pure,true⟩],[(3,.v 0),(7,.v 1),(8,.v 2),(9,.v 3)],[],[]⟩
 | _=>⟨[],[],[],[]⟩
def qO6:Tree :=
 jN 3 0 <|
 zK 2 1 <|
 v4 2 <|
 .jump 1 [.c (.int .u32 0),.v 2,.v 3,k' 0]
def qO5:Tree :=
 jF .lss 9 8 3 2 <|
 qZ 4 (
  jQ 1 3 <|
  vL 1 0 1 3 <|
  jM 105 [.v 0,.v 6] 1 <|
  vC .add 9 1 3 <|
  .jump 1 [.v 7,.v 1,.v 2,.v 8]) (
  .ret [.v 0])
def qO4:Nat->Tree
 | 0=>qO6
 | 1=>qO5
 | _=>.fail
def qQY:Nat->Pat
 | _=>⟨[],[],[],[]⟩
def qKg:Tree :=
 jN 1 0 <|
 jN 6 1 <|
 zK 2 5 <|
 v4 6 <|
 jF .sub 11 14 3 7 <|
 vC .add 16 1 3 <|
 zK 3 5 <|
 v4 10 <|
 jF .add 17 20 9 11 <|
 zK 0 5 <|
 jQ 2 3 <|
 vL 1 0 2 3 <|
 jM 116 [.v 13,.v 15] 1 <|
 .bind (.un .not 4) [.v 16] <|
 qZ 17 (
  gM false) (
  vC .lss 31 0 8 <|
  qZ 18 (
   gM false) (
   v4 2 <|
   jF .gtr 35 37 12 19 <|
   qZ 20 (
    gM false) (
    zK 4 5 <|
    qZ 21 (
     vC .gtr 44 0 8 <|
     qZ 22 (
      gM false) (
      zK 5 5 <|
      qZ 23 (
       v4 2 <|
       jF .lss 52 54 12 24 <|
       qZ 25 (
        gM false) (
        zK 2 5 <|
        jN 1 4 <|
        zK 0 27 <|
        .bind (.slc 3 1 true true) [.v 2,.v 8,.v 3] <|
        .call (.fn 117) [.fn (.func 118) [] [],.agg [.v 28,.v 26],.v 29] 1 <|
        qZ 30 (
         zK 3 5 <|
         jN 1 4 <|
         zK 0 32 <|
         vC .add 73 1 3 <|
         .bind (.slc 3 1 true true) [.v 2,.v 34,.v 12] <|
         .call (.fn 117) [.fn (.func 118) [] [],.agg [.v 33,.v 31],.v 35] 1 <|
         .ret [.v 36]) (
         gM false))) (
       zK 2 5 <|
       jN 1 4 <|
       zK 0 25 <|
       .bind (.slc 3 1 true true) [.v 2,.v 8,.v 3] <|
       .call (.fn 117) [.fn (.func 118) [] [],.agg [.v 26,.v 24],.v 27] 1 <|
       qZ 28 (
        zK 3 5 <|
        jN 1 4 <|
        zK 0 30 <|
        vC .add 73 1 3 <|
        .bind (.slc 3 1 true true) [.v 2,.v 32,.v 12] <|
        .call (.fn 117) [.fn (.func 118) [] [],.agg [.v 31,.v 29],.v 33] 1 <|
        .ret [.v 34]) (
        gM false)))) (
     zK 5 5 <|
     qZ 22 (
      v4 2 <|
      jF .lss 52 54 12 23 <|
      qZ 24 (
       gM false) (
       zK 2 5 <|
       jN 1 4 <|
       zK 0 26 <|
       .bind (.slc 3 1 true true) [.v 2,.v 8,.v 3] <|
       .call (.fn 117) [.fn (.func 118) [] [],.agg [.v 27,.v 25],.v 28] 1 <|
       qZ 29 (
        zK 3 5 <|
        jN 1 4 <|
        zK 0 31 <|
        vC .add 73 1 3 <|
        .bind (.slc 3 1 true true) [.v 2,.v 33,.v 12] <|
        .call (.fn 117) [.fn (.func 118) [] [],.agg [.v 32,.v 30],.v 34] 1 <|
        .ret [.v 35]) (
        gM false))) (
      zK 2 5 <|
      jN 1 4 <|
      zK 0 24 <|
      .bind (.slc 3 1 true true) [.v 2,.v 8,.v 3] <|
      .call (.fn 117) [.fn (.func 118) [] [],.agg [.v 25,.v 23],.v 26] 1 <|
      qZ 27 (
       zK 3 5 <|
       jN 1 4 <|
       zK 0 29 <|
       vC .add 73 1 3 <|
       .bind (.slc 3 1 true true) [.v 2,.v 31,.v 12] <|
       .call (.fn 117) [.fn (.func 118) [] [],.agg [.v 30,.v 28],.v 32] 1 <|
       .ret [.v 33]) (
       gM false))))))
def qRx:Nat->Tree
 | 0=>qKg
 | _=>.fail
def qQX:Nat->Pat
 | 1=>⟨[⟨.pure,false⟩,⟨.pure,false⟩,⟨.pure,true⟩,⟨.pure,true⟩],[(0,.v 0),(1,.v 1),(7,.v 2),(8,.v 3)],[],[]⟩
 | _=>⟨[],[],[],[]⟩
def qKf:Tree :=
 v4 0 <|
 .jump 1 [.v 0,.v 1,.v 2,k' 0]
def qKe:Tree :=
 jF .lss 8 7 3 2 <|
 qZ 4 (
  jQ 0 3 <|
  vL 1 0 0 3 <|
  jF .eql 11 15 1 6 <|
  qZ 7 (
   .ret [.v 3]) (
   vC .add 8 1 3 <|
   .jump 1 [.v 0,.v 1,.v 2,.v 8])) (
  .ret [.c (.int .i64 (-1))])
def qKd:Nat->Tree
 | 0=>qKf
 | 1=>qKe
 | _=>.fail
def d6:Nat->Pat
 | 1000=>⟨[⟨.pure,true⟩,⟨.pure,true⟩,⟨.pure,true⟩,⟨.pure,false⟩,⟨.pure,true⟩,⟨.pure,true⟩,⟨.pure,false⟩,⟨.pure,true⟩],[(0,.yld 5),(2,.loc 4 0),(7,.v 0),(8,.v 1),(9,.v 2)],[some (.whole (.v 3) 3),some (.cells [.v 4]),some (.cells [.v 5]),some (.whole (.v 6) 3),some (.cells [.v 7]),some (.loop 0 0)],[[(5,.loc 1 0),(7,.loc 2 0)]]⟩
 | _=>⟨[],[],[none,none,none,none,none,none],[]⟩
def qJ9:Tree :=
 jN 3 0 <|
 qBs 2 <|
 jN 3 3 <|
 qBs 1 <|
 zK 1 5 <|
 v4 7 <|
 .jump 1000 [.v 7,.v 8,k' 0,.v 3,.v 4,.c (.int .u32 0),.v 5,.v 6]
def qBS:Tree :=
 jF .lss 9 8 2 1 <|
 qZ 8 (
  jQ 0 2 <|
  .bind (.elem 3 true 3 0) [.v 0,.v 2] <|
  jN 3 10 <|
  zK 0 11 <|
  jM 130 [.v 7,.v 12] 1 <|
  qZ 13 (
   jN 3 11 <|
   zK 1 14 <|
   jF .eql 14 15 15 4 <|
   qZ 16 (
    zK 2 14 <|
    jM 105 [.v 5,.v 17] 1 <|
    vC .add 9 1 2 <|
    .jump 1000 [.v 0,.v 1,.v 19,.v 3,.v 4,.v 18,.v 6,.v 7]) (
    vC .add 9 1 2 <|
    .jump 1000 [.v 0,.v 1,.v 17,.v 3,.v 4,.v 5,.v 6,.v 7])) (
   vC .add 9 1 2 <|
   .jump 1000 [.v 0,.v 1,.v 14,.v 3,.v 4,.v 5,.v 6,.v 7])) (
  .ret [.v 5])
def qJ8:Nat->Tree
 | 0=>qJ9
 | 1000=>qBS
 | _=>.fail
noncomputable def qBT:qFg:=[(129,Tryz.f129,vP Tryz.f129),(121,Tryz.f121,vP Tryz.f121)]
noncomputable def aP:Nat->Nat:=fun k=>bif Nat.ble 1000 k then Nat.max Tryz.f129.ntmps 3 else Nat.max Tryz.f104.ntmps 3
def qQV:Nat->Pat
 | _=>⟨[],[],[],[]⟩
def qJ7:Tree :=
 .bind (.conv 3 193) [.v 1] <|
 .bind (.bin .shl 152 (.const (.int .u32 1)) (.tmp 7)) [.c (.int .u32 1),.v 2] <|
 .bind (.bin .or 152 (.tmp 5) (.tmp 8)) [.v 0,.v 3] <|
 .ret [.v 4]
def qRw:Nat->Tree
 | 0=>qJ7
 | _=>.fail
def qQQ:Nat->Pat
 | _=>⟨[],[],[],[]⟩
def qJZ:Tree :=
 jM 127 [.v 0,.v 1] 1 <|
 .ret [.v 2]
def qRv:Nat->Tree
 | 0=>qJZ
 | _=>.fail
def qQP:Nat->Pat
 | 1=>⟨[⟨.pure,false⟩,⟨.pure,false⟩,⟨.pure,true⟩,⟨.pure,true⟩,⟨.pure,false⟩],[(0,.v 0),(4,.loc 0 0),(9,.v 1),(10,.v 2),(11,.v 3)],[some (.whole (.v 4) 2)],[]⟩
 | _=>⟨[],[],[],[]⟩
def qJY:Tree :=
 jN 2 1 <|
 v4 2 <|
 .jump 1 [.v 0,.v 2,.v 4,k' 0,.v 3]
def qJX:Tree :=
 jF .lss 11 10 3 2 <|
 qZ 5 (
  jQ 1 3 <|
  vL 1 0 1 3 <|
  .call (.val (.v 0)) [.v 0,.v 4,.v 3,.v 7] 1 <|
  .bind (.un .not 4) [.v 8] <|
  qZ 9 (
   gM false) (
   vC .add 11 1 3 <|
   .jump 1 [.v 0,.v 1,.v 2,.v 10,.v 4])) (
  gM true)
def qJW:Nat->Tree
 | 0=>qJY
 | 1=>qJX
 | _=>.fail
def qQO:Nat->Pat
 | _=>⟨[],[],[],[]⟩
def qJV:Tree :=
 jN 2 0 <|
 .bind (.fld true 1 0) [.v 3] <|
 zK 1 3 <|
 jQ 5 1 <|
 .bind (.elem 2 true 2 0) [.v 5,.v 1] <|
 jM 128 [.v 4,.v 2,.v 7] 1 <|
 .ret [.v 8]
def qRu:Nat->Tree
 | 0=>qJV
 | _=>.fail
def qQK:Nat->Pat
 | _=>⟨[],[],[],[]⟩
def qJQ:Tree :=
 jM 101 [.v 0,.v 1] 1 <|
 vC .geq 7 0 2 <|
 .ret [.v 3]
def qRs:Nat->Tree
 | 0=>qJQ
 | _=>.fail
def qQJ:Nat->Pat
 | _=>⟨[],[],[],[]⟩
def qJP:Tree :=
 jN 1 0 <|
 jN 2 2 <|
 jM 131 [.v 3,.v 1] 1 <|
 qZ 5 (
  zK 0 4 <|
  zK 0 3 <|
  vC .sub 16 1 1 <|
  jQ 7 8 <|
  vL 2 1 7 8 <|
  zK 0 4 <|
  jF .and 20 22 10 11 <|
  .bind (.bin .eql 120 (.tmp 11) (.tmp 24)) [.v 4,.agg [.v 6,.v 12]] <|
  .ret [.v 13]) (
  gM false)
def qRr:Nat->Tree
 | 0=>qJP
 | _=>.fail
def qQG:Nat->Pat
 | _=>⟨[],[],[],[]⟩
def qJN:Tree :=
 .bind (.conv 3 193) [.v 1] <|
 .bind (.bin .shr 152 (.tmp 5) (.tmp 7)) [.v 0,.v 2] <|
 .bind (.bin .and 152 (.tmp 8) (.const (.int .u32 1))) [.v 3,.c (.int .u32 1)] <|
 .bind (.bin .eql 152 (.tmp 9) (.const (.int .u32 1))) [.v 4,.c (.int .u32 1)] <|
 .ret [.v 5]
def qRq:Nat->Tree
 | 0=>qJN
 | _=>.fail
def qQF:Nat->Pat
 | _=>⟨[],[],[],[]⟩
def qJM:Tree :=
 jN 1 0 <|
 vC .geq 5 1 1 <|
 qZ 3 (
  zK 0 2 <|
  v4 4 <|
  jF .leq 8 11 1 5 <|
  .ret [.v 6]) (
  gM false)
def qRp:Nat->Tree
 | 0=>qJM
 | _=>.fail
theorem wC:(rt Tryz.f13 1 qUG,
 hd Tryz.f13 1 qUG,
 nr Tryz.f13,
 rt Tryz.f14 2 qUE,
 hd Tryz.f14 2 qUE,
 nr Tryz.f14,
 rt Tryz.f18 2 qUw,
 hd Tryz.f18 2 qUw,
 nr Tryz.f18,
 rt Tryz.f21 2 qUu,
 hd Tryz.f21 2 qUu,
 nr Tryz.f21,
 rt Tryz.f22 2 qUt,
 hd Tryz.f22 2 qUt,
 nr Tryz.f22,
 rt Tryz.f39 3 qUn,
 hd Tryz.f39 3 qUn,
 nr Tryz.f39,
 rt Tryz.f43 2 qUj,
 hd Tryz.f43 2 qUj,
 nr Tryz.f43,
 rt Tryz.f44 2 qUh,
 hd Tryz.f44 2 qUh,
 nr Tryz.f44,
 tA EE (fun k S=>j6 (qDv k) (qCB k) k S) (qFj EE qH3 none) (mH EE (fun k S=>j6 (qDv k) (qCB k) k S) qH3 103 (Nat.max Tryz.f45.ntmps 2) 3 1000) 1 (vP Tryz.f45) (wI 2 (Nat.max Tryz.f45.ntmps 2)) (nP EE Tryz.f45.results.toList),
 jW EE (fun k=>(qCB k).st (qDv k)) (fun k S=>j6 (qDv k) (qCB k) k S) (qFj EE qH3 none) (mH EE (fun k S=>j6 (qDv k) (qCB k) k S) qH3 103 (Nat.max Tryz.f45.ntmps 2) 3 1000) (qCK EE (fun k=>(qCB k).st (qDv k)) (fun k S=>j6 (qDv k) (qCB k) k S) qH3 (vP Tryz.f103) (Nat.max Tryz.f45.ntmps 2) 3 1000) 1 (vP Tryz.f45) (nP EE Tryz.f45.results.toList),
 nr Tryz.f45,
 rt Tryz.f46 2 qUf,
 hd Tryz.f46 2 qUf,
 nr Tryz.f46,
 rt Tryz.f74 3 qTW,
 hd Tryz.f74 3 qTW,
 nr Tryz.f74,
 rt Tryz.f79 2 qTP,
 hd Tryz.f79 2 qTP,
 nr Tryz.f79,
 rt Tryz.f80 2 qTO,
 hd Tryz.f80 2 qTO,
 nr Tryz.f80,
 rt Tryz.f81 1 qTM,
 hd Tryz.f81 1 qTM,
 nr Tryz.f81,
 rt Tryz.f83 1 qTK,
 hd Tryz.f83 1 qTK,
 nr Tryz.f83,
 rt Tryz.f84 2 qTI,
 hd Tryz.f84 2 qTI,
 nr Tryz.f84,
 rt Tryz.f85 1 qTH,
 hd Tryz.f85 1 qTH,
 nr Tryz.f85,
 rt Tryz.f100 4 qQY,
 hd Tryz.f100 4 qQY,
 nr Tryz.f100,
 rt Tryz.f101 2 qQX,
 hd Tryz.f101 2 qQX,
 nr Tryz.f101,
 tA EE (fun k S=>j6 (aP k) (d6 k) k S) (qFj EE qBT none) (mH EE (fun k S=>j6 (aP k) (d6 k) k S) qBT 129 (Nat.max Tryz.f104.ntmps 3) 5 1000) 1 (vP Tryz.f104) (wI 3 (Nat.max Tryz.f104.ntmps 3)) (nP EE Tryz.f104.results.toList),
 jW EE (fun k=>(d6 k).st (aP k)) (fun k S=>j6 (aP k) (d6 k) k S) (qFj EE qBT none) (mH EE (fun k S=>j6 (aP k) (d6 k) k S) qBT 129 (Nat.max Tryz.f104.ntmps 3) 5 1000) (qCK EE (fun k=>(d6 k).st (aP k)) (fun k S=>j6 (aP k) (d6 k) k S) qBT (vP Tryz.f129) (Nat.max Tryz.f104.ntmps 3) 5 1000) 1 (vP Tryz.f104) (nP EE Tryz.f104.results.toList),
 nr Tryz.f104,
 rt Tryz.f105 2 qQV,
 hd Tryz.f105 2 qQV,
 nr Tryz.f105,
 rt Tryz.f116 2 qQQ,
 hd Tryz.f116 2 qQQ,
 nr Tryz.f116,
 rt Tryz.f117 3 qQP,
 hd Tryz.f117 3 qQP,
 nr Tryz.f117,
 rt Tryz.f118 3 qQO,
 hd Tryz.f118 3 qQO,
 nr Tryz.f118,
 rt Tryz.f127 2 qQK,
 hd Tryz.f127 2 qQK,
 nr Tryz.f127,
 rt Tryz.f128 3 qQJ,
 hd Tryz.f128 3 qQJ,
 nr Tryz.f128,
 rt Tryz.f130 2 qQG,
 hd Tryz.f130 2 qQG,
 nr Tryz.f130,
 rt Tryz.f131 2 qQF,
 hd Tryz.f131 2 qQF,
 nr Tryz.f131,
 nr Tryz.f103,
 nr Tryz.f82,
 nr Tryz.f129,
 nr Tryz.f121) =
 (qQE,[],false,qQD,[],false,qQz,[(1,qQy)],false,qQt,[(1,qQs)],false,qQr,[(1,qQq)],false,qP6,[(1,qP5)],false,qPV,[],false,qPU,[],false,qPT,[(1000,qDw)],false,qPR,[],false,qPp,[(1,qPo)],false,qPe,[(1,qPd)],false,qPc,[],false,qPb,[],false,qPa,[],false,qO9,[(1,qO8)],false,qO6,[(1,qO5)],false,qKg,[],false,qKf,[(1,qKe)],false,qJ9,[(1000,qBS)],false,qJ7,[],false,qJZ,[],false,qJY,[(1,qJX)],false,qJV,[],false,qJQ,[],false,qJP,[],false,qJN,[],false,qJM,[],false,false,false,false,false):=by kernel_rfl
theorem qZg {ds:List D} {d:D} (hn:ds.length=1) (h:qG EE (qA EE) qUF 0 ds d):qA EE 13 ds d :=
 hv Tryz.func13 rfl wC (vO) hn h
theorem qZf {ds:List D} {d:D} (hn:ds.length=2) (h:qG EE (qA EE) qUD 0 ds d):qA EE 14 ds d :=
 hv Tryz.func14 rfl (vS (vS (vS wC))) (vO) hn h
theorem qZd {ds:List D} {d:D} (hn:ds.length=2) (h:qG EE (qA EE) qQx 0 ds d):qA EE 18 ds d :=
 hv Tryz.func18 rfl (vS (vS (jC wC))) (jG rfl <| vO) hn h
theorem qZb {ds:List D} {d:D} (hn:ds.length=2) (h:qG EE (qA EE) qJL 0 ds d):qA EE 21 ds d :=
 hv Tryz.func21 rfl (vS (jC (jC wC))) (jG rfl <| vO) hn h
theorem qZa {ds:List D} {d:D} (hn:ds.length=2) (h:qG EE (qA EE) qJK 0 ds d):qA EE 22 ds d :=
 hv Tryz.func22 rfl (jC (jC (jC wC))) (jG rfl <| vO) hn h
theorem qY7 {ds:List D} {d:D} (hn:ds.length=3) (h:qG EE (qA EE) qP4 0 ds d):qA EE 39 ds d :=
 hv Tryz.func39 rfl (vS (vS (vS (jC (jC (jC wC)))))) (jG rfl <| vO) hn h
theorem qY3 {ds:List D} {d:D} (hn:ds.length=2) (h:qG EE (qA EE) qUi 0 ds d):qA EE 43 ds d :=
 hv Tryz.func43 rfl (vS (vS (qX wC))) (vO) hn h
theorem qWf {ds:List D} {d:D} (hn:ds.length=2) (h:qG EE (qA EE) qUg 0 ds d):qA EE 44 ds d :=
 hv Tryz.func44 rfl (vS (jC (qX wC))) (vO) hn h
theorem qY2 {ds:List D} {d:D} (hn:ds.length=2) (h:qG EE (qA EE) qPS 0 ds d):qA EE 45 ds d :=
 qCa (I:=qH3) (pats:=qCB) (szs:=qDv) (L:=3) (G:=103) (fnG:=Tryz.f103) (cdG:=vP Tryz.f103) he (.cons (yI (c:=vP Tryz.f103) Tryz.func103 rfl ((pI (jC (qX (qX (qX (qX (qX wC))))))).1)) rfl <| .cons (yI (c:=vP Tryz.f82) Tryz.func82 rfl ((pI (vS (jC (qX (qX (qX (qX (qX wC)))))))).1)) rfl <| .nil) (yI (c:=vP Tryz.f45) Tryz.func45 rfl ((pI (vS (vS (jC (jC (qX wC)))))).1)) (c:=vP Tryz.f45) rfl hn rfl ((pI (jC (jC (qX wC)))).1) (by rw [(pI (vS (jC (jC (qX wC))))).1]; exact jG rfl <| vO) (fun k hk=>by unfold qCB; split <;> first | decide | omega) h
theorem qY1 {ds:List D} {d:D} (hn:ds.length=2) (h:qG EE (qA EE) qUe 0 ds d):qA EE 46 ds d :=
 hv Tryz.func46 rfl (vS (vS (vS (jC (jC (qX wC)))))) (vO) hn h
theorem qYQ {ds:List D} {d:D} (hn:ds.length=3) (h:qG EE (qA EE) qPn 0 ds d):qA EE 74 ds d :=
 hv Tryz.func74 rfl (vS (vS (jC (jC (jC (qX wC)))))) (jG rfl <| vO) hn h
theorem qYL {ds:List D} {d:D} (hn:ds.length=2) (h:qG EE (qA EE) qJz 0 ds d):qA EE 79 ds d :=
 hv Tryz.func79 rfl (vS (qX (qX wC))) (jG rfl <| vO) hn h
theorem qYK {ds:List D} {d:D} (hn:ds.length=2) (h:qG EE (qA EE) qTN 0 ds d):qA EE 80 ds d :=
 hv Tryz.func80 rfl (jC (qX (qX wC))) (vO) hn h
theorem qYJ {ds:List D} {d:D} (hn:ds.length=1) (h:qG EE (qA EE) qTL 0 ds d):qA EE 81 ds d :=
 hv Tryz.func81 rfl (vS (vS (vS (jC (qX (qX wC)))))) (vO) hn h
theorem qYI {ds:List D} {d:D} (hn:ds.length=1) (h:qG EE (qA EE) qTJ 0 ds d):qA EE 83 ds d :=
 hv Tryz.func83 rfl (vS (vS (jC (jC (qX (qX wC)))))) (vO) hn h
theorem qYH {ds:List D} {d:D} (hn:ds.length=2) (h:qG EE (qA EE) qO7 0 ds d):qA EE 84 ds d :=
 hv Tryz.func84 rfl (vS (jC (jC (jC (qX (qX wC)))))) (jG rfl <| vO) hn h
theorem qYG {ds:List D} {d:D} (hn:ds.length=1) (h:qG EE (qA EE) qO4 0 ds d):qA EE 85 ds d :=
 hv Tryz.func85 rfl (qX (qX (qX wC))) (jG rfl <| vO) hn h
theorem qWw {ds:List D} {d:D} (hn:ds.length=4) (h:qG EE (qA EE) qRx 0 ds d):qA EE 100 ds d :=
 hv Tryz.func100 rfl (vS (vS (vS (qX (qX (qX wC)))))) (vO) hn h
theorem qWv {ds:List D} {d:D} (hn:ds.length=2) (h:qG EE (qA EE) qKd 0 ds d):qA EE 101 ds d :=
 hv Tryz.func101 rfl (vS (vS (jC (qX (qX (qX wC)))))) (jG rfl <| vO) hn h
theorem qWt {ds:List D} {d:D} (hn:ds.length=3) (h:qG EE (qA EE) qJ8 0 ds d):qA EE 104 ds d :=
 qCa (I:=qBT) (pats:=d6) (szs:=aP) (L:=5) (G:=129) (fnG:=Tryz.f129) (cdG:=vP Tryz.f129) he (.cons (yI (c:=vP Tryz.f129) Tryz.func129 rfl ((pI (vS (vS (jC (qX (qX (qX (qX (qX wC))))))))).1)) rfl <| .cons (yI (c:=vP Tryz.f121) Tryz.func121 rfl ((vS (vS (vS (jC (qX (qX (qX (qX (qX wC))))))))))) rfl <| .nil) (yI (c:=vP Tryz.f104) Tryz.func104 rfl ((pI (vS (vS (vS (jC (jC (qX (qX (qX wC))))))))).1)) (c:=vP Tryz.f104) rfl hn rfl ((pI (vS (jC (jC (qX (qX (qX wC))))))).1) (by rw [(pI (vS (vS (jC (jC (qX (qX (qX wC)))))))).1]; exact jG rfl <| vO) (fun k hk=>by unfold d6; split <;> first | decide | omega) h
theorem qWs {ds:List D} {d:D} (hn:ds.length=2) (h:qG EE (qA EE) qRw 0 ds d):qA EE 105 ds d :=
 hv Tryz.func105 rfl (jC (jC (jC (qX (qX (qX wC)))))) (vO) hn h
theorem qWo {ds:List D} {d:D} (hn:ds.length=2) (h:qG EE (qA EE) qRv 0 ds d):qA EE 116 ds d :=
 hv Tryz.func116 rfl (vS (vS (vS (jC (jC (jC (qX (qX (qX wC))))))))) (vO) hn h
theorem qWn {ds:List D} {d:D} (hn:ds.length=3) (h:qG EE (qA EE) qJW 0 ds d):qA EE 117 ds d :=
 hv Tryz.func117 rfl (vS (vS (qX (qX (qX (qX wC)))))) (jG rfl <| vO) hn h
theorem qWm {ds:List D} {d:D} (hn:ds.length=3) (h:qG EE (qA EE) qRu 0 ds d):qA EE 118 ds d :=
 hv Tryz.func118 rfl (vS (jC (qX (qX (qX (qX wC)))))) (vO) hn h
theorem qWj {ds:List D} {d:D} (hn:ds.length=2) (h:qG EE (qA EE) qRs 0 ds d):qA EE 127 ds d :=
 hv Tryz.func127 rfl (jC (jC (qX (qX (qX (qX wC)))))) (vO) hn h
theorem qWi {ds:List D} {d:D} (hn:ds.length=3) (h:qG EE (qA EE) qRr 0 ds d):qA EE 128 ds d :=
 hv Tryz.func128 rfl (vS (vS (vS (jC (jC (qX (qX (qX (qX wC))))))))) (vO) hn h
theorem qWh {ds:List D} {d:D} (hn:ds.length=2) (h:qG EE (qA EE) qRq 0 ds d):qA EE 130 ds d :=
 hv Tryz.func130 rfl (vS (vS (jC (jC (jC (qX (qX (qX (qX wC))))))))) (vO) hn h
theorem qWg {ds:List D} {d:D} (hn:ds.length=2) (h:qG EE (qA EE) qRp 0 ds d):qA EE 131 ds d :=
 hv Tryz.func131 rfl (vS (qX (qX (qX (qX (qX wC)))))) (vO) hn h
end Go.Proofs.YtnemldklhelbeaaGreat
