/- Trees of functions. Conditions: none. -/
import Derived.Test.YtnemldklhelbeaaGreatJa
set_option linter.unusedVariables false
set_option linter.unusedSimpArgs false
namespace Go.Proofs.YtnemldklhelbeaaGreat
open Go Go.Am Go.Proofs
def qUF:Nat->Pat
 | _=>⟨[],[],[],[]⟩
def qQD:Tree :=
 jN 1 0 <|
 zK 0 1 <|
 v4 2 <|
 vC .leq 5 20 3 <|
 .ret [.v 4]
def qUE:Nat->Tree
 | 0=>qQD
 | _=>.fail
def qUD:Nat->Pat
 | _=>⟨[],[],[],[]⟩
def qQC:Tree :=
 jN 9 0 <|
 jN 1 1 <|
 jM 18 [.v 2,.v 3] 1 <|
 .bind (.bin .neq 39 (.tmp 11) (K' 0)) [.v 4,k' 0] <|
 qZ 5 (
  .ret [.c (.slice none 0 0),.v 4]) (
  .bind (.fld true 1 0) [.v 2] <|
  zK 4 2 <|
  jM 22 [.v 2,.v 3] 0 <|
  jM 39 [.v 6,.v 7,.v 8] 0 <|
  v4 9 <|
  vC .eql 23 0 10 <|
  qZ 11 (
   .ret [.c (.slice none 0 0),k' 23]) (
   .ret [.v 9,k' 0]))
def qUC:Nat->Tree
 | 0=>qQC
 | _=>.fail
def qUv:Nat->Pat
 | 1=>⟨[⟨.pure,true⟩,⟨.pure,true⟩,⟨.pure,true⟩,⟨.pure,false⟩,⟨.pure,false⟩],[(2,.loc 0 0),(3,.loc 1 0),(21,.v 0),(22,.v 1),(23,.v 2)],[some (.whole (.v 3) 9),some (.whole (.v 4) 1)],[]⟩
 | _=>⟨[],[],[],[]⟩
def qQy:Tree :=
 jN 9 0 <|
 jN 1 1 <|
 zK 0 3 <|
 v4 4 <|
 vC .eql 14 0 5 <|
 qZ 6 (
  wP 4) (
  zK 0 3 <|
  v4 7 <|
  vC .gtr 18 4 8 <|
  qZ 9 (
   wP 11) (
   zK 0 3 <|
   v4 10 <|
   .jump 1 [.v 10,.v 11,k' 0,.v 2,.v 3]))
def qQx:Tree :=
 jF .lss 23 22 2 1 <|
 qZ 5 (
  jQ 0 2 <|
  .bind (.elem 3 true 3 0) [.v 0,.v 2] <|
  jN 3 7 <|
  zK 8 3 <|
  zK 0 8 <|
  jM 43 [.v 9,.v 10] 0 <|
  mR 0 11 <|
  mR 1 11 <|
  jN 8 12 <|
  .bind (.un .not 4) [.v 13] <|
  qZ 15 (
   wP 9) (
   jM 44 [.v 3,.v 8] 0 <|
   mR 0 16 <|
   mR 1 16 <|
   mR 2 16 <|
   jN 8 17 <|
   .bind (.un .not 4) [.v 19] <|
   qZ 21 (
    wP 2) (
    zK 2 8 <|
    vC .lss 47 0 22 <|
    qZ 23 (
     wP 22) (
     zK 2 8 <|
     zK 8 3 <|
     zK 0 8 <|
     jM 45 [.v 25,.v 26] 0 <|
     v4 27 <|
     jF .geq 51 57 24 28 <|
     qZ 29 (
      wP 22) (
      vC .add 23 1 2 <|
      .jump 1 [.v 0,.v 1,.v 30,.v 3,.v 4]))))) (
  .bind (.fld true 3 5) [.v 3] <|
  jM 21 [.v 3,.v 4] 0 <|
  jM 46 [.v 6,.v 7] 1 <|
  .bind (.un .not 4) [.v 8] <|
  qZ 9 (
   wP 21) (
   jM 22 [.v 3,.v 4] 0 <|
   v4 10 <|
   vC .gtr 71 24 11 <|
   qZ 12 (
    wP 5) (
    wP 0)))
def qQw:Nat->Tree
 | 0=>qQy
 | 1=>qQx
 | _=>.fail
def qUt:Nat->Pat
 | 1=>⟨[⟨.fresh,true⟩,⟨.pure,true⟩,⟨.pure,true⟩,⟨.pure,true⟩,⟨.pure,false⟩],[(2,.loc 0 0),(5,.v 0),(12,.v 1),(13,.v 2),(14,.v 3)],[some (.whole (.v 4) 9)],[]⟩
 | _=>⟨[],[],[],[]⟩
def qQs:Tree :=
 jN 9 0 <|
 jN 1 1 <|
 zK 0 3 <|
 v4 4 <|
 .jump 1 [.c (.slice none 0 0),.v 4,.v 5,k' 0,.v 2]
def qQr:Tree :=
 jF .lss 14 13 3 2 <|
 qZ 5 (
  jQ 1 3 <|
  .bind (.elem 3 true 3 0) [.v 1,.v 3] <|
  jN 3 7 <|
  jM 44 [.v 4,.v 8] 0 <|
  mR 0 9 <|
  mR 1 9 <|
  mR 2 9 <|
  jN 8 10 <|
  qZ 12 (
   zK 2 13 <|
   qBr 14 <|
   .bind (.lit 3 1) [.v 14] <|
   .bind (.app 3 1 8) [.v 0,.v 16] <|
   vC .add 14 1 3 <|
   .jump 1 [.v 17,.v 1,.v 2,.v 18,.v 4]) (
   vC .add 14 1 3 <|
   .jump 1 [.v 0,.v 1,.v 2,.v 14,.v 4])) (
  .ret [.v 0])
def qJK:Nat->Tree
 | 0=>qQs
 | 1=>qQr
 | _=>.fail
def qUs:Nat->Pat
 | 1=>⟨[⟨.fresh,true⟩,⟨.pure,true⟩,⟨.pure,true⟩,⟨.pure,true⟩,⟨.pure,false⟩],[(2,.loc 0 0),(5,.v 0),(12,.v 1),(13,.v 2),(14,.v 3)],[some (.whole (.v 4) 9)],[]⟩
 | _=>⟨[],[],[],[]⟩
def qQq:Tree :=
 jN 9 0 <|
 jN 1 1 <|
 zK 0 3 <|
 v4 4 <|
 .jump 1 [.c (.slice none 0 0),.v 4,.v 5,k' 0,.v 2]
def qQp:Tree :=
 jF .lss 14 13 3 2 <|
 qZ 5 (
  jQ 1 3 <|
  .bind (.elem 3 true 3 0) [.v 1,.v 3] <|
  jN 3 7 <|
  jM 44 [.v 4,.v 8] 0 <|
  mR 0 9 <|
  mR 1 9 <|
  mR 2 9 <|
  jN 8 10 <|
  qZ 12 (
   .bind (.app 3 1 8) [.v 0,.v 11] <|
   vC .add 14 1 3 <|
   .jump 1 [.v 14,.v 1,.v 2,.v 15,.v 4]) (
   vC .add 14 1 3 <|
   .jump 1 [.v 0,.v 1,.v 2,.v 14,.v 4])) (
  .ret [.v 0])
def qJJ:Nat->Tree
 | 0=>qQq
 | 1=>qQp
 | _=>.fail
def qUm:Nat->Pat
 | 1=>⟨[⟨.pure,false⟩,⟨.pure,false⟩,⟨.pure,true⟩,⟨.pure,true⟩,⟨.pure,false⟩],[(2,.v 0),(3,.loc 0 0),(9,.v 1),(10,.v 2),(11,.v 3)],[some (.whole (.v 4) 1)],[]⟩
 | _=>⟨[],[],[],[]⟩
def qP5:Tree :=
 jN 1 0 <|
 v4 1 <|
 .jump 1 [.v 2,.v 1,.v 4,k' 0,.v 3]
def qP4:Tree :=
 jF .lss 11 10 3 2 <|
 qZ 5 (
  jQ 1 3 <|
  .bind (.elem 6 true 6 0) [.v 1,.v 3] <|
  jN 6 7 <|
  jM 74 [.v 4,.v 8,.v 0] 0 <|
  vC .add 11 1 3 <|
  .jump 1 [.v 9,.v 1,.v 2,.v 10,.v 4]) (
  .ret [.v 0])
def qP3:Nat->Tree
 | 0=>qP5
 | 1=>qP4
 | _=>.fail
def qUi:Nat->Pat
 | _=>⟨[],[],[],[]⟩
def qPU:Tree :=
 qBr 1 <|
 .bind .box [.v 2] <|
 .call (.fn 79) [.v 0,.fn (.func 80) [] [.pp 3 0]] 1 <|
 vC .lss 10 0 4 <|
 qZ 5 (
  .ret [.agg [k' 0,.c (.slice none 0 0),k' 0,.c (.slice none 0 0),k' 0,.c (.slice none 0 0),.c (.slice none 0 0),.c (.slice none 0 0)],.c (.bool false)]) (
  jQ 0 4 <|
  .bind (.elem 8 true 8 0) [.v 0,.v 4] <|
  jN 8 7 <|
  .ret [.v 8,.c (.bool true)])
def qUh:Nat->Tree
 | 0=>qPU
 | _=>.fail
def qUg:Nat->Pat
 | _=>⟨[],[],[],[]⟩
def qPT:Tree :=
 jN 9 0 <|
 jN 3 1 <|
 zK 8 2 <|
 zK 0 3 <|
 jM 43 [.v 4,.v 5] 0 <|
 mR 0 6 <|
 mR 1 6 <|
 jN 8 7 <|
 jM 81 [.v 9] 0 <|
 .bind (.un .not 4) [.v 8] <|
 qZ 11 (
  jN 8 9 <|
  .ret [.v 12,.c (.slice none 0 0),.c (.bool false)]) (
  zK 1 3 <|
  vC .lss 24 0 12 <|
  qZ 13 (
   jN 8 9 <|
   .ret [.v 14,.c (.slice none 0 0),.c (.bool false)]) (
   zK 1 3 <|
   v4 10 <|
   jF .geq 29 31 14 15 <|
   qZ 16 (
    jN 8 9 <|
    .ret [.v 17,.c (.slice none 0 0),.c (.bool false)]) (
    zK 1 3 <|
    jQ 10 17 <|
    vL 1 0 10 17 <|
    jN 8 9 <|
    jQ 10 17 <|
    .ret [.v 20,.v 19,.c (.bool true)])))
def qUf:Nat->Tree
 | 0=>qPT
 | _=>.fail
def qCA:Nat->Pat
 | 1000=>⟨[⟨.pure,true⟩,⟨.pure,true⟩,⟨.pure,true⟩,⟨.pure,true⟩],[(0,.yld 3),(1,.loc 1 0),(2,.loc 2 0),(8,.v 0),(9,.v 1)],[some (.cells [.c (.slice none 0 0)]),some (.cells [.v 2]),some (.cells [.v 3]),some (.loop 0 0)],[[(4,.loc 0 0)]]⟩
 | _=>⟨[],[],[none,none,none,none],[]⟩
def qPS:Tree :=
 qBr 0 <|
 qBr 1 <|
 v4 2 <|
 vC .add 7 1 4 <|
 .jump 1000 [.v 5,k' 0,.v 2,.v 3]
def qDv:Tree :=
 jF .lss 9 8 1 0 <|
 qZ 4 (
  jM 43 [.v 2,.v 3] 0 <|
  mR 0 5 <|
  mR 1 5 <|
  jN 8 6 <|
  .bind (.un .not 4) [.v 7] <|
  qZ 9 (
   .ret [.c (.slice none 0 0)]) (
   jN 8 8 <|
   zK 5 10 <|
   v4 11 <|
   vC .gtr 12 0 12 <|
   qZ 13 (
    zK 5 10 <|
    jM 83 [.v 14] 0 <|
    qBr 15 <|
    .ret [.v 16]) (
    zK 4 8 <|
    vC .eql 27 0 14 <|
    qZ 15 (
     .ret [.c (.slice none 0 0)]) (
     zK 4 8 <|
     vC .add 9 1 1 <|
     .jump 1000 [.v 0,.v 17,.v 2,.v 16])))) (
  .ret [.c (.slice none 0 0)])
def qPR:Nat->Tree
 | 0=>qPS
 | 1000=>qDv
 | _=>.fail
noncomputable def qH2:qFf:=[(103,Tryz.f103,vP Tryz.f103),(82,Tryz.f82,vP Tryz.f82)]
noncomputable def qDu:Nat->Nat:=fun k=>bif Nat.ble 1000 k then Nat.max Tryz.f103.ntmps 3 else Nat.max Tryz.f45.ntmps 2
def qUe:Nat->Pat
 | _=>⟨[],[],[],[]⟩
def qPQ:Tree :=
 jN 3 0 <|
 jM 84 [.v 2,.v 1] 1 <|
 jM 85 [.v 2] 1 <|
 .bind (.bin .and 152 (.tmp 7) (.tmp 9)) [.v 3,.v 4] <|
 .bind (.bin .neq 152 (.tmp 10) (.const (.int .u32 0))) [.v 5,.c (.int .u32 0)] <|
 .ret [.v 6]
def qUd:Nat->Tree
 | 0=>qPQ
 | _=>.fail
def qTV:Nat->Pat
 | 1=>⟨[⟨.pure,false⟩,⟨.fresh,true⟩,⟨.pure,true⟩,⟨.pure,true⟩,⟨.pure,false⟩,⟨.pure,false⟩],[(2,.v 0),(3,.loc 0 0),(4,.loc 1 0),(7,.v 1),(10,.v 0),(11,.v 2),(12,.v 3)],[some (.whole (.v 4) 1),some (.whole (.v 5) 6)],[]⟩
 | _=>⟨[],[],[],[]⟩
def qPo:Tree :=
 jN 1 0 <|
 jN 6 1 <|
 v4 2 <|
 .jump 1 [.v 2,.c (.slice none 0 0),.v 5,k' 0,.v 3,.v 4]
def qPn:Tree :=
 jF .lss 12 11 3 2 <|
 qZ 6 (
  jQ 0 3 <|
  vL 1 0 0 3 <|
  jM 100 [.v 4,.v 5,.v 0,.v 3] 1 <|
  qZ 9 (
   zK 1 5 <|
   zK 0 5 <|
   jM 101 [.v 11,.v 8] 1 <|
   jQ 10 12 <|
   vL 1 0 10 12 <|
   vC .eql 30 0 14 <|
   qZ 15 (
    vC .add 12 1 3 <|
    .jump 1 [.v 0,.v 1,.v 2,.v 16,.v 4,.v 5]) (
    qBr 14 <|
    .bind (.lit 3 1) [.v 14] <|
    .bind (.app 3 1 8) [.v 1,.v 17] <|
    vC .add 12 1 3 <|
    .jump 1 [.v 0,.v 18,.v 2,.v 19,.v 4,.v 5])) (
   qBr 8 <|
   .bind (.lit 3 1) [.v 8] <|
   .bind (.app 3 1 8) [.v 1,.v 11] <|
   vC .add 12 1 3 <|
   .jump 1 [.v 0,.v 12,.v 2,.v 13,.v 4,.v 5])) (
  .ret [.v 1])
def qPm:Nat->Tree
 | 0=>qPo
 | 1=>qPn
 | _=>.fail
def qTO:Nat->Pat
 | 1=>⟨[⟨.pure,false⟩,⟨.pure,false⟩,⟨.pure,true⟩,⟨.pure,true⟩],[(0,.v 0),(1,.v 1),(7,.v 2),(8,.v 3)],[],[]⟩
 | _=>⟨[],[],[],[]⟩
def qPd:Tree :=
 v4 0 <|
 .jump 1 [.v 0,.v 1,.v 2,k' 0]
def qPc:Tree :=
 jF .lss 8 7 3 2 <|
 qZ 4 (
  jQ 0 3 <|
  .bind (.elem 8 true 8 0) [.v 0,.v 3] <|
  .call (.val (.v 1)) [.v 1,.v 6] 1 <|
  qZ 7 (
   .ret [.v 3]) (
   vC .add 8 1 3 <|
   .jump 1 [.v 0,.v 1,.v 2,.v 8])) (
  .ret [.c (.int .i64 (-1))])
def qJy:Nat->Tree
 | 0=>qPd
 | 1=>qPc
 | _=>.fail
def qTN:Nat->Pat
 | _=>⟨[],[],[],[]⟩
def qPb:Tree :=
 jN 8 0 <|
 zK 0 2 <|
 .bind .pchk [.v 1] <|
 .bind (.loadp false 1) [.pp 4 0] <|
 jF .eql 5 6 3 5 <|
 .ret [.v 6]
def qTM:Nat->Tree
 | 0=>qPb
 | _=>.fail
def qTL:Nat->Pat
 | _=>⟨[],[],[],[]⟩
def qPa:Tree :=
 jN 8 0 <|
 zK 1 1 <|
 qBr 2 <|
 .bind (.lit 31 1) [.v 2] <|
 zK 3 1 <|
 .bind (.app 31 1 24) [.v 4,.v 5] <|
 .ret [.v 6]
def qTK:Nat->Tree
 | 0=>qPa
 | _=>.fail
def qTJ:Nat->Pat
 | _=>⟨[],[],[],[]⟩
def qO9:Tree :=
 .bind (.isNil false) [.v 0] <|
 qZ 1 (
  .ret [.c (.slice none 0 0)]) (
  .bind (.lit 79 2) [] <|
  .bind (.app 79 2 32) [.v 2,.v 0] <|
  .ret [.v 3])
def qTI:Nat->Tree
 | 0=>qO9
 | _=>.fail
def qTH:Nat->Pat
 | 1=>⟨[⟨.pure,true⟩,⟨.pure,false⟩,⟨.pure,true⟩,⟨.pure,true⟩,⟨.pure,false⟩],[(2,.loc 0 0),(5,.v 0),(8,.v 1),(9,.v 2),(10,.v 3)],[some (.whole (.v 4) 3)],[]⟩
 | _=>⟨[],[],[],[]⟩
def qO8:Tree :=
 jN 3 0 <|
 v4 1 <|
 .jump 1 [.c (.int .u32 1),.v 1,.v 3,k' 0,.v 2]
def qO7:Tree :=
 jF .lss 10 9 3 2 <|
 qZ 5 (
  jQ 1 3 <|
  vL 1 0 1 3 <|
  jM 104 [.v 4,.v 0,.v 7] 1 <|
  vC .add 10 1 3 <|
  .jump 1 [.v 8,.v 1,.v 2,.v 9,.v 4]) (
  .ret [.v 0])
def qO6:Nat->Tree
 | 0=>qO8
 | 1=>qO7
 | _=>.fail
def qTG:Nat->Pat
 | 1=>⟨[⟨.pure,true⟩,⟨.pure,true⟩,⟨.pure,true⟩,⟨.pure,true⟩],[(3,.v 0),(7,.v 1),(8,.v 2),(9,.v 3)],[],[]⟩
 | _=>⟨[],[],[],[]⟩
def qO5:Tree :=
 jN 3 0 <|
 zK 2 1 <|
 v4 2 <|
 .jump 1 [.c (.int .u32 0),.v 2,.v 3,k' 0]
def qO4:Tree :=
 jF .lss 9 8 3 2 <|
 qZ 4 (
  jQ 1 3 <|
  vL 1 0 1 3 <|
  jM 105 [.v 0,.v 6] 1 <|
  vC .add 9 1 3 <|
  .jump 1 [.v 7,.v 1,.v 2,.v 8]) (
  .ret [.v 0])
def qO3:Nat->Tree
 | 0=>qO5
 | 1=>qO4
 | _=>.fail
def qQX:Nat->Pat
 | _=>⟨[],[],[],[]⟩
def qKf:Tree :=
 jN 1 0 <|
 jN 6 1 <|
 zK 2 5 <|
 v4 6 <|
 jF .sub 11 14 3 7 <|
 vC .add 16 1 3 <|
 zK 3 5 <|
 v4 10 <|
 jF .add 17 20 9 11 <|
 zK 0 5 <|
 jQ 2 3 <|
 vL 1 0 2 3 <|
 jM 116 [.v 13,.v 15] 1 <|
 .bind (.un .not 4) [.v 16] <|
 qZ 17 (
  gM false) (
  vC .lss 31 0 8 <|
  qZ 18 (
   gM false) (
   v4 2 <|
   jF .gtr 35 37 12 19 <|
   qZ 20 (
    gM false) (
    zK 4 5 <|
    qZ 21 (
     vC .gtr 44 0 8 <|
     qZ 22 (
      gM false) (
      zK 5 5 <|
      qZ 23 (
       v4 2 <|
       jF .lss 52 54 12 24 <|
       qZ 25 (
        gM false) (
        zK 2 5 <|
        jN 1 4 <|
        zK 0 27 <|
        .bind (.slc 3 1 true true) [.v 2,.v 8,.v 3] <|
        .call (.fn 117) [.fn (.func 118) [] [],.agg [.v 28,.v 26],.v 29] 1 <|
        qZ 30 (
         zK 3 5 <|
         jN 1 4 <|
         zK 0 32 <|
         vC .add 73 1 3 <|
         .bind (.slc 3 1 true true) [.v 2,.v 34,.v 12] <|
         .call (.fn 117) [.fn (.func 118) [] [],.agg [.v 33,.v 31],.v 35] 1 <|
         .ret [.v 36]) (
         gM false))) (
       zK 2 5 <|
       jN 1 4 <|
       zK 0 25 <|
       .bind (.slc 3 1 true true) [.v 2,.v 8,.v 3] <|
       .call (.fn 117) [.fn (.func 118) [] [],.agg [.v 26,.v 24],.v 27] 1 <|
       qZ 28 (
        zK 3 5 <|
        jN 1 4 <|
        zK 0 30 <|
        vC .add 73 1 3 <|
        .bind (.slc 3 1 true true) [.v 2,.v 32,.v 12] <|
        .call (.fn 117) [.fn (.func 118) [] [],.agg [.v 31,.v 29],.v 33] 1 <|
        .ret [.v 34]) (
        gM false)))) (
     zK 5 5 <|
     qZ 22 (
      v4 2 <|
      jF .lss 52 54 12 23 <|
      qZ 24 (
       gM false) (
       zK 2 5 <|
       jN 1 4 <|
       zK 0 26 <|
       .bind (.slc 3 1 true true) [.v 2,.v 8,.v 3] <|
       .call (.fn 117) [.fn (.func 118) [] [],.agg [.v 27,.v 25],.v 28] 1 <|
       qZ 29 (
        zK 3 5 <|
        jN 1 4 <|
        zK 0 31 <|
        vC .add 73 1 3 <|
        .bind (.slc 3 1 true true) [.v 2,.v 33,.v 12] <|
        .call (.fn 117) [.fn (.func 118) [] [],.agg [.v 32,.v 30],.v 34] 1 <|
        .ret [.v 35]) (
        gM false))) (
      zK 2 5 <|
      jN 1 4 <|
      zK 0 24 <|
      .bind (.slc 3 1 true true) [.v 2,.v 8,.v 3] <|
      .call (.fn 117) [.fn (.func 118) [] [],.agg [.v 25,.v 23],.v 26] 1 <|
      qZ 27 (
       zK 3 5 <|
       jN 1 4 <|
       zK 0 29 <|
       vC .add 73 1 3 <|
       .bind (.slc 3 1 true true) [.v 2,.v 31,.v 12] <|
       .call (.fn 117) [.fn (.func 118) [] [],.agg [.v 30,.v 28],.v 32] 1 <|
       .ret [.v 33]) (
       gM false))))))
def qRw:Nat->Tree
 | 0=>qKf
 | _=>.fail
def qQW:Nat->Pat
 | 1=>⟨[⟨.pure,false⟩,⟨.pure,false⟩,⟨.pure,true⟩,⟨.pure,true⟩],[(0,.v 0),(1,.v 1),(7,.v 2),(8,.v 3)],[],[]⟩
 | _=>⟨[],[],[],[]⟩
def qKe:Tree :=
 v4 0 <|
 .jump 1 [.v 0,.v 1,.v 2,k' 0]
def qKd:Tree :=
 jF .lss 8 7 3 2 <|
 qZ 4 (
  jQ 0 3 <|
  vL 1 0 0 3 <|
  jF .eql 11 15 1 6 <|
  qZ 7 (
   .ret [.v 3]) (
   vC .add 8 1 3 <|
   .jump 1 [.v 0,.v 1,.v 2,.v 8])) (
  .ret [.c (.int .i64 (-1))])
def qKc:Nat->Tree
 | 0=>qKe
 | 1=>qKd
 | _=>.fail
def d5:Nat->Pat
 | 1000=>⟨[⟨.pure,true⟩,⟨.pure,true⟩,⟨.pure,true⟩,⟨.pure,false⟩,⟨.pure,true⟩,⟨.pure,true⟩,⟨.pure,false⟩,⟨.pure,true⟩],[(0,.yld 5),(2,.loc 4 0),(7,.v 0),(8,.v 1),(9,.v 2)],[some (.whole (.v 3) 3),some (.cells [.v 4]),some (.cells [.v 5]),some (.whole (.v 6) 3),some (.cells [.v 7]),some (.loop 0 0)],[[(5,.loc 1 0),(7,.loc 2 0)]]⟩
 | _=>⟨[],[],[none,none,none,none,none,none],[]⟩
def qJ8:Tree :=
 jN 3 0 <|
 qBr 2 <|
 jN 3 3 <|
 qBr 1 <|
 zK 1 5 <|
 v4 7 <|
 .jump 1000 [.v 7,.v 8,k' 0,.v 3,.v 4,.c (.int .u32 0),.v 5,.v 6]
def qBR:Tree :=
 jF .lss 9 8 2 1 <|
 qZ 8 (
  jQ 0 2 <|
  .bind (.elem 3 true 3 0) [.v 0,.v 2] <|
  jN 3 10 <|
  zK 0 11 <|
  jM 130 [.v 7,.v 12] 1 <|
  qZ 13 (
   jN 3 11 <|
   zK 1 14 <|
   jF .eql 14 15 15 4 <|
   qZ 16 (
    zK 2 14 <|
    jM 105 [.v 5,.v 17] 1 <|
    vC .add 9 1 2 <|
    .jump 1000 [.v 0,.v 1,.v 19,.v 3,.v 4,.v 18,.v 6,.v 7]) (
    vC .add 9 1 2 <|
    .jump 1000 [.v 0,.v 1,.v 17,.v 3,.v 4,.v 5,.v 6,.v 7])) (
   vC .add 9 1 2 <|
   .jump 1000 [.v 0,.v 1,.v 14,.v 3,.v 4,.v 5,.v 6,.v 7])) (
  .ret [.v 5])
def qJ7:Nat->Tree
 | 0=>qJ8
 | 1000=>qBR
 | _=>.fail
noncomputable def qBS:qFf:=[(129,Tryz.f129,vP Tryz.f129),(121,Tryz.f121,vP Tryz.f121)]
noncomputable def aO:Nat->Nat:=fun k=>bif Nat.ble 1000 k then Nat.max Tryz.f129.ntmps 3 else Nat.max Tryz.f104.ntmps 3
def qQU:Nat->Pat
 | _=>⟨[],[],[],[]⟩
def qJ6:Tree :=
 .bind (.conv 3 193) [.v 1] <|
 .bind (.bin .shl 152 (.const (.int .u32 1)) (.tmp 7)) [.c (.int .u32 1),.v 2] <|
 .bind (.bin .or 152 (.tmp 5) (.tmp 8)) [.v 0,.v 3] <|
 .ret [.v 4]
def qRv:Nat->Tree
 | 0=>qJ6
 | _=>.fail
def qQP:Nat->Pat
 | _=>⟨[],[],[],[]⟩
def qJY:Tree :=
 jM 127 [.v 0,.v 1] 1 <|
 .ret [.v 2]
def qRu:Nat->Tree
 | 0=>qJY
 | _=>.fail
def qQO:Nat->Pat
 | 1=>⟨[⟨.pure,false⟩,⟨.pure,false⟩,⟨.pure,true⟩,⟨.pure,true⟩,⟨.pure,false⟩],[(0,.v 0),(4,.loc 0 0),(9,.v 1),(10,.v 2),(11,.v 3)],[some (.whole (.v 4) 2)],[]⟩
 | _=>⟨[],[],[],[]⟩
def qJX:Tree :=
 jN 2 1 <|
 v4 2 <|
 .jump 1 [.v 0,.v 2,.v 4,k' 0,.v 3]
def qJW:Tree :=
 jF .lss 11 10 3 2 <|
 qZ 5 (
  jQ 1 3 <|
  vL 1 0 1 3 <|
  .call (.val (.v 0)) [.v 0,.v 4,.v 3,.v 7] 1 <|
  .bind (.un .not 4) [.v 8] <|
  qZ 9 (
   gM false) (
   vC .add 11 1 3 <|
   .jump 1 [.v 0,.v 1,.v 2,.v 10,.v 4])) (
  gM true)
def qJV:Nat->Tree
 | 0=>qJX
 | 1=>qJW
 | _=>.fail
def qQN:Nat->Pat
 | _=>⟨[],[],[],[]⟩
def qJU:Tree :=
 jN 2 0 <|
 .bind (.fld true 1 0) [.v 3] <|
 zK 1 3 <|
 jQ 5 1 <|
 .bind (.elem 2 true 2 0) [.v 5,.v 1] <|
 jM 128 [.v 4,.v 2,.v 7] 1 <|
 .ret [.v 8]
def qRt:Nat->Tree
 | 0=>qJU
 | _=>.fail
def qQJ:Nat->Pat
 | _=>⟨[],[],[],[]⟩
def qJP:Tree :=
 jM 101 [.v 0,.v 1] 1 <|
 vC .geq 7 0 2 <|
 .ret [.v 3]
def qRr:Nat->Tree
 | 0=>qJP
 | _=>.fail
def qQI:Nat->Pat
 | _=>⟨[],[],[],[]⟩
def qJO:Tree :=
 jN 1 0 <|
 jN 2 2 <|
 jM 131 [.v 3,.v 1] 1 <|
 qZ 5 (
  zK 0 4 <|
  zK 0 3 <|
  vC .sub 16 1 1 <|
  jQ 7 8 <|
  vL 2 1 7 8 <|
  zK 0 4 <|
  jF .and 20 22 10 11 <|
  .bind (.bin .eql 120 (.tmp 11) (.tmp 24)) [.v 4,.agg [.v 6,.v 12]] <|
  .ret [.v 13]) (
  gM false)
def qRq:Nat->Tree
 | 0=>qJO
 | _=>.fail
def qQF:Nat->Pat
 | _=>⟨[],[],[],[]⟩
def qJM:Tree :=
 .bind (.conv 3 193) [.v 1] <|
 .bind (.bin .shr 152 (.tmp 5) (.tmp 7)) [.v 0,.v 2] <|
 .bind (.bin .and 152 (.tmp 8) (.const (.int .u32 1))) [.v 3,.c (.int .u32 1)] <|
 .bind (.bin .eql 152 (.tmp 9) (.const (.int .u32 1))) [.v 4,.c (.int .u32 1)] <|
 .ret [.v 5]
def qRp:Nat->Tree
 | 0=>qJM
 | _=>.fail
def qQE:Nat->Pat
 | _=>⟨[],[],[],[]⟩
def qJL:Tree :=
 jN 1 0 <|
 vC .geq 5 1 1 <|
 qZ 3 (
  zK 0 2 <|
  v4 4 <|
  jF .leq 8 11 1 5 <|
  .ret [.v 6]) (
  gM false)
def qRo:Nat->Tree
 | 0=>qJL
 | _=>.fail
theorem wC:(rt Tryz.f13 1 qUF,
 hd Tryz.f13 1 qUF,
 nr Tryz.f13,
 rt Tryz.f14 2 qUD,
 hd Tryz.f14 2 qUD,
 nr Tryz.f14,
 rt Tryz.f18 2 qUv,
 hd Tryz.f18 2 qUv,
 nr Tryz.f18,
 rt Tryz.f21 2 qUt,
 hd Tryz.f21 2 qUt,
 nr Tryz.f21,
 rt Tryz.f22 2 qUs,
 hd Tryz.f22 2 qUs,
 nr Tryz.f22,
 rt Tryz.f39 3 qUm,
 hd Tryz.f39 3 qUm,
 nr Tryz.f39,
 rt Tryz.f43 2 qUi,
 hd Tryz.f43 2 qUi,
 nr Tryz.f43,
 rt Tryz.f44 2 qUg,
 hd Tryz.f44 2 qUg,
 nr Tryz.f44,
 s9 EE (fun k S=>j6 (qDu k) (qCA k) k S) (qFi EE qH2 none) (mH EE (fun k S=>j6 (qDu k) (qCA k) k S) qH2 103 (Nat.max Tryz.f45.ntmps 2) 3 1000) 1 (vP Tryz.f45) (wI 2 (Nat.max Tryz.f45.ntmps 2)) (nP EE Tryz.f45.results.toList),
 jW EE (fun k=>(qCA k).st (qDu k)) (fun k S=>j6 (qDu k) (qCA k) k S) (qFi EE qH2 none) (mH EE (fun k S=>j6 (qDu k) (qCA k) k S) qH2 103 (Nat.max Tryz.f45.ntmps 2) 3 1000) (qCJ EE (fun k=>(qCA k).st (qDu k)) (fun k S=>j6 (qDu k) (qCA k) k S) qH2 (vP Tryz.f103) (Nat.max Tryz.f45.ntmps 2) 3 1000) 1 (vP Tryz.f45) (nP EE Tryz.f45.results.toList),
 nr Tryz.f45,
 rt Tryz.f46 2 qUe,
 hd Tryz.f46 2 qUe,
 nr Tryz.f46,
 rt Tryz.f74 3 qTV,
 hd Tryz.f74 3 qTV,
 nr Tryz.f74,
 rt Tryz.f79 2 qTO,
 hd Tryz.f79 2 qTO,
 nr Tryz.f79,
 rt Tryz.f80 2 qTN,
 hd Tryz.f80 2 qTN,
 nr Tryz.f80,
 rt Tryz.f81 1 qTL,
 hd Tryz.f81 1 qTL,
 nr Tryz.f81,
 rt Tryz.f83 1 qTJ,
 hd Tryz.f83 1 qTJ,
 nr Tryz.f83,
 rt Tryz.f84 2 qTH,
 hd Tryz.f84 2 qTH,
 nr Tryz.f84,
 rt Tryz.f85 1 qTG,
 hd Tryz.f85 1 qTG,
 nr Tryz.f85,
 rt Tryz.f100 4 qQX,
 hd Tryz.f100 4 qQX,
 nr Tryz.f100,
 rt Tryz.f101 2 qQW,
 hd Tryz.f101 2 qQW,
 nr Tryz.f101,
 s9 EE (fun k S=>j6 (aO k) (d5 k) k S) (qFi EE qBS none) (mH EE (fun k S=>j6 (aO k) (d5 k) k S) qBS 129 (Nat.max Tryz.f104.ntmps 3) 5 1000) 1 (vP Tryz.f104) (wI 3 (Nat.max Tryz.f104.ntmps 3)) (nP EE Tryz.f104.results.toList),
 jW EE (fun k=>(d5 k).st (aO k)) (fun k S=>j6 (aO k) (d5 k) k S) (qFi EE qBS none) (mH EE (fun k S=>j6 (aO k) (d5 k) k S) qBS 129 (Nat.max Tryz.f104.ntmps 3) 5 1000) (qCJ EE (fun k=>(d5 k).st (aO k)) (fun k S=>j6 (aO k) (d5 k) k S) qBS (vP Tryz.f129) (Nat.max Tryz.f104.ntmps 3) 5 1000) 1 (vP Tryz.f104) (nP EE Tryz.f104.results.toList),
 nr Tryz.f104,
 rt Tryz.f105 2 qQU,
 hd Tryz.f105 2 qQU,
 nr Tryz.f105,
 rt Tryz.f116 2 qQP,
 hd Tryz.f116 2 qQP,
 nr Tryz.f116,
 rt Tryz.f117 3 qQO,
 hd Tryz.f117 3 qQO,
 nr Tryz.f117,
 rt Tryz.f118 3 qQN,
 hd Tryz.f118 3 qQN,
 nr Tryz.f118,
 rt Tryz.f127 2 qQJ,
 hd Tryz.f127 2 qQJ,
 nr Tryz.f127,
 rt Tryz.f128 3 qQI,
 hd Tryz.f128 3 qQI,
 nr Tryz.f128,
 rt Tryz.f130 2 qQF,
 hd Tryz.f130 2 qQF,
 nr Tryz.f130,
 rt Tryz.f131 2 qQE,
 hd Tryz.f131 2 qQE,
 nr Tryz.f131,
 nr Tryz.f103,
 nr Tryz.f82,
 nr Tryz.f129,
 nr Tryz.f121) =
 (qQD,[],false,qQC,[],false,qQy,[(1,qQx)],false,qQs,[(1,qQr)],false,qQq,[(1,qQp)],false,qP5,[(1,qP4)],false,qPU,[],false,qPT,[],false,qPS,[(1000,qDv)],false,qPQ,[],false,qPo,[(1,qPn)],false,qPd,[(1,qPc)],false,qPb,[],false,qPa,[],false,qO9,[],false,qO8,[(1,qO7)],false,qO5,[(1,qO4)],false,qKf,[],false,qKe,[(1,qKd)],false,qJ8,[(1000,qBR)],false,qJ6,[],false,qJY,[],false,qJX,[(1,qJW)],false,qJU,[],false,qJP,[],false,qJO,[],false,qJM,[],false,qJL,[],false,false,false,false,false):=by kernel_rfl
theorem qZf {ds:List D} {d:D} (hn:ds.length=1) (h:qG EE (qA EE) qUE 0 ds d):qA EE 13 ds d :=
 hv Tryz.func13 rfl wC (vO) hn h
theorem qZe {ds:List D} {d:D} (hn:ds.length=2) (h:qG EE (qA EE) qUC 0 ds d):qA EE 14 ds d :=
 hv Tryz.func14 rfl (vS (vS (vS wC))) (vO) hn h
theorem qZc {ds:List D} {d:D} (hn:ds.length=2) (h:qG EE (qA EE) qQw 0 ds d):qA EE 18 ds d :=
 hv Tryz.func18 rfl (vS (vS (jC wC))) (jG rfl <| vO) hn h
theorem qZa {ds:List D} {d:D} (hn:ds.length=2) (h:qG EE (qA EE) qJK 0 ds d):qA EE 21 ds d :=
 hv Tryz.func21 rfl (vS (jC (jC wC))) (jG rfl <| vO) hn h
theorem qY9 {ds:List D} {d:D} (hn:ds.length=2) (h:qG EE (qA EE) qJJ 0 ds d):qA EE 22 ds d :=
 hv Tryz.func22 rfl (jC (jC (jC wC))) (jG rfl <| vO) hn h
theorem qY6 {ds:List D} {d:D} (hn:ds.length=3) (h:qG EE (qA EE) qP3 0 ds d):qA EE 39 ds d :=
 hv Tryz.func39 rfl (vS (vS (vS (jC (jC (jC wC)))))) (jG rfl <| vO) hn h
theorem qY2 {ds:List D} {d:D} (hn:ds.length=2) (h:qG EE (qA EE) qUh 0 ds d):qA EE 43 ds d :=
 hv Tryz.func43 rfl (vS (vS (qX wC))) (vO) hn h
theorem qWe {ds:List D} {d:D} (hn:ds.length=2) (h:qG EE (qA EE) qUf 0 ds d):qA EE 44 ds d :=
 hv Tryz.func44 rfl (vS (jC (qX wC))) (vO) hn h
theorem qY1 {ds:List D} {d:D} (hn:ds.length=2) (h:qG EE (qA EE) qPR 0 ds d):qA EE 45 ds d :=
 qB9 (I:=qH2) (pats:=qCA) (szs:=qDu) (L:=3) (G:=103) (fnG:=Tryz.f103) (cdG:=vP Tryz.f103) he (.cons (yI (c:=vP Tryz.f103) Tryz.func103 rfl ((pI (jC (qX (qX (qX (qX (qX wC))))))).1)) rfl <| .cons (yI (c:=vP Tryz.f82) Tryz.func82 rfl ((pI (vS (jC (qX (qX (qX (qX (qX wC)))))))).1)) rfl <| .nil) (yI (c:=vP Tryz.f45) Tryz.func45 rfl ((pI (vS (vS (jC (jC (qX wC)))))).1)) (c:=vP Tryz.f45) rfl hn rfl ((pI (jC (jC (qX wC)))).1) (by rw [(pI (vS (jC (jC (qX wC))))).1]; exact jG rfl <| vO) (fun k hk=>by unfold qCA; split <;> first | decide | omega) h
theorem qY0 {ds:List D} {d:D} (hn:ds.length=2) (h:qG EE (qA EE) qUd 0 ds d):qA EE 46 ds d :=
 hv Tryz.func46 rfl (vS (vS (vS (jC (jC (qX wC)))))) (vO) hn h
theorem qYP {ds:List D} {d:D} (hn:ds.length=3) (h:qG EE (qA EE) qPm 0 ds d):qA EE 74 ds d :=
 hv Tryz.func74 rfl (vS (vS (jC (jC (jC (qX wC)))))) (jG rfl <| vO) hn h
theorem qYK {ds:List D} {d:D} (hn:ds.length=2) (h:qG EE (qA EE) qJy 0 ds d):qA EE 79 ds d :=
 hv Tryz.func79 rfl (vS (qX (qX wC))) (jG rfl <| vO) hn h
theorem qYJ {ds:List D} {d:D} (hn:ds.length=2) (h:qG EE (qA EE) qTM 0 ds d):qA EE 80 ds d :=
 hv Tryz.func80 rfl (jC (qX (qX wC))) (vO) hn h
theorem qYI {ds:List D} {d:D} (hn:ds.length=1) (h:qG EE (qA EE) qTK 0 ds d):qA EE 81 ds d :=
 hv Tryz.func81 rfl (vS (vS (vS (jC (qX (qX wC)))))) (vO) hn h
theorem qYH {ds:List D} {d:D} (hn:ds.length=1) (h:qG EE (qA EE) qTI 0 ds d):qA EE 83 ds d :=
 hv Tryz.func83 rfl (vS (vS (jC (jC (qX (qX wC)))))) (vO) hn h
theorem qYG {ds:List D} {d:D} (hn:ds.length=2) (h:qG EE (qA EE) qO6 0 ds d):qA EE 84 ds d :=
 hv Tryz.func84 rfl (vS (jC (jC (jC (qX (qX wC)))))) (jG rfl <| vO) hn h
theorem qYF {ds:List D} {d:D} (hn:ds.length=1) (h:qG EE (qA EE) qO3 0 ds d):qA EE 85 ds d :=
 hv Tryz.func85 rfl (qX (qX (qX wC))) (jG rfl <| vO) hn h
theorem qWv {ds:List D} {d:D} (hn:ds.length=4) (h:qG EE (qA EE) qRw 0 ds d):qA EE 100 ds d :=
 hv Tryz.func100 rfl (vS (vS (vS (qX (qX (qX wC)))))) (vO) hn h
theorem qWu {ds:List D} {d:D} (hn:ds.length=2) (h:qG EE (qA EE) qKc 0 ds d):qA EE 101 ds d :=
 hv Tryz.func101 rfl (vS (vS (jC (qX (qX (qX wC)))))) (jG rfl <| vO) hn h
theorem qWs {ds:List D} {d:D} (hn:ds.length=3) (h:qG EE (qA EE) qJ7 0 ds d):qA EE 104 ds d :=
 qB9 (I:=qBS) (pats:=d5) (szs:=aO) (L:=5) (G:=129) (fnG:=Tryz.f129) (cdG:=vP Tryz.f129) he (.cons (yI (c:=vP Tryz.f129) Tryz.func129 rfl ((pI (vS (vS (jC (qX (qX (qX (qX (qX wC))))))))).1)) rfl <| .cons (yI (c:=vP Tryz.f121) Tryz.func121 rfl ((vS (vS (vS (jC (qX (qX (qX (qX (qX wC))))))))))) rfl <| .nil) (yI (c:=vP Tryz.f104) Tryz.func104 rfl ((pI (vS (vS (vS (jC (jC (qX (qX (qX wC))))))))).1)) (c:=vP Tryz.f104) rfl hn rfl ((pI (vS (jC (jC (qX (qX (qX wC))))))).1) (by rw [(pI (vS (vS (jC (jC (qX (qX (qX wC)))))))).1]; exact jG rfl <| vO) (fun k hk=>by unfold d5; split <;> first | decide | omega) h
theorem qWr {ds:List D} {d:D} (hn:ds.length=2) (h:qG EE (qA EE) qRv 0 ds d):qA EE 105 ds d :=
 hv Tryz.func105 rfl (jC (jC (jC (qX (qX (qX wC)))))) (vO) hn h
theorem qWn {ds:List D} {d:D} (hn:ds.length=2) (h:qG EE (qA EE) qRu 0 ds d):qA EE 116 ds d :=
 hv Tryz.func116 rfl (vS (vS (vS (jC (jC (jC (qX (qX (qX wC))))))))) (vO) hn h
theorem qWm {ds:List D} {d:D} (hn:ds.length=3) (h:qG EE (qA EE) qJV 0 ds d):qA EE 117 ds d :=
 hv Tryz.func117 rfl (vS (vS (qX (qX (qX (qX wC)))))) (jG rfl <| vO) hn h
theorem qWl {ds:List D} {d:D} (hn:ds.length=3) (h:qG EE (qA EE) qRt 0 ds d):qA EE 118 ds d :=
 hv Tryz.func118 rfl (vS (jC (qX (qX (qX (qX wC)))))) (vO) hn h
theorem qWi {ds:List D} {d:D} (hn:ds.length=2) (h:qG EE (qA EE) qRr 0 ds d):qA EE 127 ds d :=
 hv Tryz.func127 rfl (jC (jC (qX (qX (qX (qX wC)))))) (vO) hn h
theorem qWh {ds:List D} {d:D} (hn:ds.length=3) (h:qG EE (qA EE) qRq 0 ds d):qA EE 128 ds d :=
 hv Tryz.func128 rfl (vS (vS (vS (jC (jC (qX (qX (qX (qX wC))))))))) (vO) hn h
theorem qWg {ds:List D} {d:D} (hn:ds.length=2) (h:qG EE (qA EE) qRp 0 ds d):qA EE 130 ds d :=
 hv Tryz.func130 rfl (vS (vS (jC (jC (jC (qX (qX (qX (qX wC))))))))) (vO) hn h
theorem qWf {ds:List D} {d:D} (hn:ds.length=2) (h:qG EE (qA EE) qRo 0 ds d):qA EE 131 ds d :=
 hv Tryz.func131 rfl (vS (qX (qX (qX (qX (qX wC)))))) (vO) hn h
end Go.Proofs.YtnemldklhelbeaaGreat
