/- Trees of functions. Conditions: none. -/
import Derived.Test.YtpbmnkajhedaiaaGreatDe
set_option linter.all false
namespace Go.Proofs.YtpbmnkajhedaiaaGreat
open Go Go.Am Go.Proofs
def qEO:Nat->Pat
 |1=>⟨[⟨.fresh,true⟩,⟨.pure,false⟩,⟨.pure,true⟩,⟨.pure,true⟩,⟨.pure,true⟩,⟨.pure,true⟩,⟨.pure,true⟩,⟨.pure,true⟩,⟨.pure,true⟩,⟨.pure,true⟩,⟨.pure,true⟩,⟨.pure,true⟩,⟨.pure,true⟩,⟨.pure,true⟩,⟨.fresh,true⟩],[(7,.loc 1 0),(8,.v 0),(16,.v 1),(17,.v 2),(18,.v 3)],[none,some (.cells [.v 4,.v 5,.v 6,.v 7,.v 8,.v 9,.v 10,.v 11,.v 12,.v 13,.v 14])],[]⟩
 |_=>⟨[],[],[none],[]⟩
def qUF:Tree:=
 jQ 9 0 <|
 .bind .mnew [] <|
 jQ 9 3 <|
 zM 0 5 <|
 zM 1 5 <|
 zM 2 5 <|
 zM 3 5 <|
 zM 4 5 <|
 zM 5 5 <|
 zM 6 5 <|
 zM 7 5 <|
 zM 8 5 <|
 qKN 2 <|
 xS 25 [.v 1] 0 <|
 xL 16 <|
 .jump 1 [.c (.slice none 0 0),.v 16,.v 17,k' 0,.v 6,.v 7,.v 8,.v 9,.v 10,.v 11,.v 12,.v 13,.v 14,.v 15,.v 4]
def qUE:Tree:=
 j8 .lss 18 17 3 2 <|
 zC 15 (
  wC 1 3 <|
  .bind (.elem 3 true 3 0) [.v 1,.v 3] <|
  jQ 3 17 <|
  jQ 3 18 <|
  .bind .boxw [.v 19] <|
  .call (.fn 50) [.v 13,.fn (.func 51) [] [.pp 20 0]] 1 <|
  zC 21 (
   .bind (.loadp true 2) [.pp 20 0] <|
   .bind (.loadp false 1) [.pp 20 2] <|
   .call (.fn 52) [.agg [.v 4,.v 5,.v 6,.v 7,.v 8,.v 9,.v 10,.v 11,.v 12],.v 22,.v 23,.v 13] 0 <|
   jQ 4 24 <|
   jQ 4 25 <|
   .bind (.lit 73 4) [.v 25] <|
   .bind (.app 73 4 48) [.v 0,.v 27] <|
   vM .add 18 1 3 <|
   .jump 1 [.v 28,.v 1,.v 2,.v 29,.v 4,.v 5,.v 6,.v 7,.v 8,.v 9,.v 10,.v 11,.v 12,.v 13,.v 14]) (
   .bind (.loadp false 1) [.pp 20 2] <|
   .bind (.mget 77 true) [.v 14,.v 22] <|
   qAi 0 23 <|
   qAi 1 23 <|
   jQ 4 24 <|
   .bind (.un .not 4) [.v 25] <|
   zC 27 (
    .bind (.loadp true 2) [.pp 20 0] <|
    .bind (.loadp false 1) [.pp 20 2] <|
    .call (.fn 52) [.agg [.v 4,.v 5,.v 6,.v 7,.v 8,.v 9,.v 10,.v 11,.v 12],.v 28,.v 29,.c (.slice none 0 0)] 0 <|
    jQ 4 30 <|
    .bind (.loadp false 1) [.pp 20 2] <|
    .bind (.mset 77) [.v 14,.v 32,.v 31] <|
    .bind (.loadp true 2) [.pp 20 0] <|
    jQ 4 31 <|
    zM 0 35 <|
    zM 1 35 <|
    zM 2 35 <|
    zM 3 35 <|
    jQ 2 34 <|
    zM 0 40 <|
    zM 1 40 <|
    .bind (.chk true 4) [.agg [.v 41,.v 42,.v 38,.v 39]] <|
    .bind (.lit 73 4) [.agg [.v 41,.v 42,.v 38,.v 39]] <|
    .bind (.app 73 4 48) [.v 0,.v 44] <|
    vM .add 18 1 3 <|
    .jump 1 [.v 45,.v 1,.v 2,.v 46,.v 4,.v 5,.v 6,.v 7,.v 8,.v 9,.v 10,.v 11,.v 12,.v 13,.v 33]) (
    .bind (.loadp true 2) [.pp 20 0] <|
    jQ 4 26 <|
    zM 0 29 <|
    zM 1 29 <|
    zM 2 29 <|
    zM 3 29 <|
    jQ 2 28 <|
    zM 0 34 <|
    zM 1 34 <|
    .bind (.chk true 4) [.agg [.v 35,.v 36,.v 32,.v 33]] <|
    .bind (.lit 73 4) [.agg [.v 35,.v 36,.v 32,.v 33]] <|
    .bind (.app 73 4 48) [.v 0,.v 38] <|
    vM .add 18 1 3 <|
    .jump 1 [.v 39,.v 1,.v 2,.v 40,.v 4,.v 5,.v 6,.v 7,.v 8,.v 9,.v 10,.v 11,.v 12,.v 13,.v 14]))) (
  .ret [.v 0])
def qJA:Nat->Tree
 |0=>qUF
 |1=>qUE
 |_=>.fail
noncomputable def qKZ:qFV:=[(26,Tryz.f26,vJ Tryz.f26),(26,Tryz.f26,vJ Tryz.f26)]
noncomputable def qF1:Nat->Nat:=λk=>bif Nat.ble 1000 k then Nat.max Tryz.f26.ntmps 2 else Nat.max Tryz.f10.ntmps 3
def qZc:Nat->Pat
 |1=>⟨[⟨.fresh,true⟩,⟨.pure,false⟩,⟨.pure,true⟩,⟨.pure,true⟩],[(3,.v 0),(10,.v 1),(11,.v 2),(12,.v 3)],[],[]⟩
 |2=>⟨[⟨.fresh,true⟩,⟨.pure,false⟩,⟨.pure,true⟩,⟨.pure,true⟩,⟨.pure,false⟩,⟨.pure,true⟩,⟨.pure,true⟩,⟨.pure,false⟩],[(3,.v 0),(5,.loc 0 0),(10,.v 1),(11,.v 2),(12,.v 3),(20,.v 4),(21,.v 5),(22,.v 6)],[some (.whole (.v 7) 7)],[]⟩
 |_=>⟨[],[],[],[]⟩
def qT6:Tree:=
 xL 0 <|
 .jump 1 [.c (.slice none 0 0),.v 0,.v 1,k' 0]
def qT5:Tree:=
 j8 .lss 12 11 3 2 <|
 zC 4 (
  wC 1 3 <|
  .bind (.elem 7 true 7 0) [.v 1,.v 3] <|
  jQ 7 6 <|
  zM 5 7 <|
  xS 48 [.v 8,k' 2] 1 <|
  xS 47 [.v 7,.v 9] 0 <|
  xL 10 <|
  .jump 2 [.v 0,.v 1,.v 2,.v 3,.v 10,.v 11,k' 0,.v 7]) (
  .ret [.v 0])
def qT4:Tree:=
 j8 .lss 22 21 6 5 <|
 zC 8 (
  wC 4 6 <|
  vK 1 0 4 6 <|
  xS 49 [.v 7,.v 10] 0 <|
  qAi 0 11 <|
  qAi 1 11 <|
  jQ 7 12 <|
  zM 0 7 <|
  zM 6 14 <|
  .bind (.chk true 3) [.agg [.v 15,.v 10,.v 16]] <|
  .bind (.lit 83 3) [.agg [.v 15,.v 10,.v 16]] <|
  .bind (.app 83 3 32) [.v 0,.v 18] <|
  vM .add 22 1 6 <|
  .jump 2 [.v 19,.v 1,.v 2,.v 3,.v 4,.v 5,.v 20,.v 7]) (
  vM .add 12 1 3 <|
  .jump 1 [.v 0,.v 1,.v 2,.v 9])
def qJz:Nat->Tree
 |0=>qT6
 |1=>qT5
 |2=>qT4
 |_=>.fail
def qYR:Nat->Pat
 |_=>⟨[],[],[],[]⟩
def qTL:Tree:=
 jQ 9 0 <|
 jQ 2 1 <|
 xS 81 [.v 3,.v 5] 0 <|
 qAi 0 6 <|
 qAi 1 6 <|
 jQ 1 7 <|
 zC 8 (
  .bind (.fld true 3 1) [.v 4] <|
  xS 82 [.v 10,.v 2] 0 <|
  qAi 0 11 <|
  qAi 1 11 <|
  qAi 2 11 <|
  .bind (.bin .eql 55 (.tmp 31) (K' 0)) [.v 14,k' 0] <|
  zC 15 (
   xS 83 [.v 4,.v 12,.v 9] 1 <|
   zC 16 (
    jQ 2 5 <|
    zM 0 17 <|
    zM 1 17 <|
    jQ 1 9 <|
    zM 0 20 <|
    .ret [.agg [.v 18,.v 19,k' 4,.v 21]]) (
    jQ 2 5 <|
    zM 0 17 <|
    zM 1 17 <|
    jQ 1 9 <|
    zM 0 20 <|
    .ret [.agg [.v 18,.v 19,k' 5,.v 21]])) (
   jQ 2 5 <|
   zM 0 16 <|
   zM 1 16 <|
   jQ 1 9 <|
   zM 0 19 <|
   .ret [.agg [.v 17,.v 18,k' 5,.v 20]])) (
  xS 84 [.v 4,.v 5,.v 2,.v 3] 0 <|
  qAi 0 10 <|
  qAi 1 10 <|
  .bind (.bin .eql 55 (.tmp 54) (K' 11)) [.v 12,k' 11] <|
  zC 13 (
   jQ 2 5 <|
   zM 0 14 <|
   zM 1 14 <|
   .ret [.agg [.v 15,.v 16,k' 3,.c (.slice none 0 0)]]) (
   xL 11 <|
   vM .gtr 58 1 14 <|
   zC 15 (
    jQ 2 5 <|
    zM 0 16 <|
    zM 1 16 <|
    .ret [.agg [.v 17,.v 18,k' 3,.c (.slice none 0 0)]]) (
    .bind (.bin .neq 55 (.tmp 64) (K' 0)) [.v 12,k' 0] <|
    zC 16 (
     jQ 2 5 <|
     zM 0 17 <|
     zM 1 17 <|
     .ret [.agg [.v 18,.v 19,k' 0,.c (.slice none 0 0)]]) (
     xL 11 <|
     vM .eql 70 1 17 <|
     zC 18 (
      .bind .inr [.v 11,k' 0] <|
      .bind (.elem 1 true 1 0) [.v 11,k' 0] <|
      jQ 2 5 <|
      zM 0 21 <|
      zM 1 21 <|
      jQ 1 20 <|
      zM 0 24 <|
      .ret [.agg [.v 22,.v 23,k' 2,.v 25]]) (
      jQ 2 5 <|
      zM 0 19 <|
      zM 1 19 <|
      .ret [.agg [.v 20,.v 21,k' 1,.c (.slice none 0 0)]])))))
def qYQ:Nat->Tree
 |0=>qTL
 |_=>.fail
def qYE:Nat->Pat
 |1=>⟨[⟨.pure,false⟩,⟨.pure,true⟩,⟨.pure,true⟩,⟨.pure,false⟩],[(3,.loc 0 0),(4,.loc 1 0),(8,.v 0),(9,.v 1),(10,.v 2)],[some (.whole (.v 3) 2),some (.cells [.c (.slice none 0 0)])],[]⟩
 |_=>⟨[],[],[],[]⟩
def qTr:Tree:=
 jQ 2 1 <|
 xL 0 <|
 .jump 1 [.v 0,.v 3,k' 0,.v 2]
def qTq:Tree:=
 j8 .lss 10 9 2 1 <|
 zC 4 (
  wC 0 2 <|
  .bind (.elem 4 true 4 0) [.v 0,.v 2] <|
  jQ 4 6 <|
  .bind (.fld true 2 0) [.v 7] <|
  .bind (.bin .eql 50 (.tmp 15) (.tmp 16)) [.v 8,.v 3] <|
  zC 9 (
   zM 2 7 <|
   zC 10 (
    .bind (.fld true 1 3) [.v 7] <|
    jQ 1 11 <|
    .ret [.v 12,.c (.bool true)]) (
    vM .add 10 1 2 <|
    .jump 1 [.v 0,.v 1,.v 11,.v 3])) (
   vM .add 10 1 2 <|
   .jump 1 [.v 0,.v 1,.v 10,.v 3])) (
  .ret [.agg [.c (.slice none 0 0)],.c (.bool false)])
def qYD:Nat->Tree
 |0=>qTr
 |1=>qTq
 |_=>.fail
def qYF:Nat->Pat
 |1=>⟨[⟨.pure,false⟩,⟨.pure,false⟩,⟨.pure,true⟩,⟨.pure,true⟩],[(0,.v 0),(1,.v 1),(7,.v 2),(8,.v 3)],[],[]⟩
 |_=>⟨[],[],[],[]⟩
def qTt:Tree:=
 xL 0 <|
 .jump 1 [.v 0,.v 1,.v 2,k' 0]
def qTs:Tree:=
 j8 .lss 8 7 3 2 <|
 zC 4 (
  wC 0 3 <|
  .bind (.elem 4 true 4 0) [.v 0,.v 3] <|
  .call (.val (.v 1)) [.v 1,.v 6] 1 <|
  zC 7 (
   .ret [.v 3]) (
   vM .add 8 1 3 <|
   .jump 1 [.v 0,.v 1,.v 2,.v 8])) (
  .ret [.c (.int .i64 (-1))])
def qMR:Nat->Tree
 |0=>qTt
 |1=>qTs
 |_=>.fail
def qYW:Nat->Pat
 |_=>⟨[],[],[],[]⟩
def qTN:Tree:=
 xS 80 [.v 0,.v 1] 1 <|
 vM .geq 7 0 2 <|
 .ret [.v 3]
def qYV:Nat->Tree
 |0=>qTN
 |_=>.fail
def qYU:Nat->Pat
 |_=>⟨[],[],[],[]⟩
def qTM:Tree:=
 jQ 4 0 <|
 .bind (.fld true 2 0) [.v 2] <|
 .bind .pchk [.v 1] <|
 .bind (.loadp true 2) [.pp 4 0] <|
 .bind (.bin .eql 50 (.tmp 5) (.tmp 7)) [.v 3,.v 5] <|
 .ret [.v 6]
def qYT:Nat->Tree
 |0=>qTM
 |_=>.fail
def qYB:Nat->Pat
 |_=>⟨[],[],[],[]⟩
def qYA:Tree:=
 jQ 9 0 <|
 jQ 1 2 <|
 xS 131 [.v 3,.v 4] 0 <|
 qAi 0 5 <|
 qAi 1 5 <|
 .bind (.bin .eql 55 (.tmp 15) (K' 0)) [.v 7,k' 0] <|
 zC 8 (
  xS 132 [.v 6,.v 1] 1 <|
  .ret [.v 9]) (
  rP false)
def qUx:Nat->Pat
 |_=>⟨[],[],[],[]⟩
def qVD:Tree:=
 .bind (.isNil false) [.v 0] <|
 zC 1 (
  .ret [.c (.slice none 0 0)]) (
  .bind (.lit 71 1) [] <|
  .bind (.app 71 1 24) [.v 2,.v 0] <|
  .ret [.v 3])
def qZh:Nat->Pat
 |_=>⟨[],[],[],[]⟩
def qUt:Tree:=
 .call (.fn 32) [.v 0,.v 1,.fn (.func 33) [] []] 1 <|
 .ret [.v 2]
def qZg:Nat->Tree
 |0=>qUt
 |_=>.fail
def qY9:Nat->Pat
 |1=>⟨[⟨.pure,false⟩,⟨.pure,false⟩,⟨.pure,false⟩,⟨.pure,true⟩,⟨.pure,true⟩],[(1,.v 0),(2,.v 1),(15,.v 2),(16,.v 3),(17,.v 4)],[],[]⟩
 |_=>⟨[],[],[],[]⟩
def qT2:Tree:=
 xL 0 <|
 xL 1 <|
 j8 .neq 11 13 3 4 <|
 zC 5 (
  rP false) (
  xL 0 <|
  .jump 1 [.v 1,.v 2,.v 0,.v 6,k' 0])
def qT1:Tree:=
 j8 .lss 17 16 4 3 <|
 zC 5 (
  wC 2 4 <|
  .bind (.elem 4 true 4 0) [.v 2,.v 4] <|
  jQ 4 7 <|
  wC 0 4 <|
  .bind (.elem 4 true 4 0) [.v 0,.v 4] <|
  jQ 4 10 <|
  .call (.val (.v 1)) [.v 1,.v 8,.v 11] 1 <|
  .bind (.un .not 4) [.v 12] <|
  zC 13 (
   rP false) (
   vM .add 17 1 4 <|
   .jump 1 [.v 0,.v 1,.v 2,.v 3,.v 14])) (
  rP true)
def qMU:Nat->Tree
 |0=>qT2
 |1=>qT1
 |_=>.fail
def qY8:Nat->Pat
 |_=>⟨[],[],[],[]⟩
def qT0:Tree:=
 jQ 4 0 <|
 jQ 4 1 <|
 .bind (.fld true 2 0) [.v 2] <|
 .bind (.fld true 2 0) [.v 3] <|
 .bind (.bin .eql 50 (.tmp 6) (.tmp 8)) [.v 4,.v 5] <|
 zC 6 (
  zM 2 2 <|
  zM 2 3 <|
  j8 .eql 12 14 7 8 <|
  zC 9 (
   .bind (.fld true 1 3) [.v 2] <|
   .bind (.fld true 1 3) [.v 3] <|
   xS 68 [.v 10,.v 11] 1 <|
   .ret [.v 12]) (
   rP false)) (
  rP false)
def qY7:Nat->Tree
 |0=>qT0
 |_=>.fail
def qYL:Nat->Pat
 |_=>⟨[],[],[],[]⟩
def qTz:Tree:=
 jQ 1 0 <|
 jQ 1 1 <|
 zM 0 2 <|
 zM 0 3 <|
 xS 107 [.v 4,.v 5] 1 <|
 .ret [.v 6]
def qYK:Nat->Tree
 |0=>qTz
 |_=>.fail
def qUH:Nat->Pat
 |1=>⟨[⟨.pure,false⟩,⟨.pure,false⟩,⟨.pure,true⟩,⟨.pure,true⟩],[(0,.v 0),(1,.v 1),(12,.v 2),(13,.v 3)],[],[]⟩
 |_=>⟨[],[],[],[]⟩
def qNO:Tree:=
 xL 0 <|
 xL 1 <|
 j8 .neq 7 9 2 3 <|
 zC 4 (
  rP false) (
  xL 0 <|
  .jump 1 [.v 0,.v 1,.v 5,k' 0])
def qNN:Tree:=
 j8 .lss 13 12 3 2 <|
 zC 4 (
  wC 0 3 <|
  .bind (.elem 3 true 3 0) [.v 0,.v 3] <|
  wC 1 3 <|
  .bind (.elem 3 true 3 0) [.v 1,.v 3] <|
  .bind (.bin .neq 121 (.tmp 19) (.tmp 23)) [.v 6,.v 8] <|
  zC 9 (
   rP false) (
   vM .add 13 1 3 <|
   .jump 1 [.v 0,.v 1,.v 2,.v 10])) (
  rP true)
def qH0:Nat->Tree
 |0=>qNO
 |1=>qNN
 |_=>.fail
theorem kY:(qAY EE (λk S=>jI (qF1 k) (qEO k) k S) (qFT EE qKZ none) (nL EE (λk S=>jI (qF1 k) (qEO k) k S) qKZ 26 (Nat.max Tryz.f10.ntmps 3) 0 1000) 1 (vJ Tryz.f10) (yL 3 (Nat.max Tryz.f10.ntmps 3)) (mK EE Tryz.f10.results.toList),
 j5 EE (λk=>(qEO k).st (qF1 k)) (λk S=>jI (qF1 k) (qEO k) k S) (qFT EE qKZ none) (nL EE (λk S=>jI (qF1 k) (qEO k) k S) qKZ 26 (Nat.max Tryz.f10.ntmps 3) 0 1000) (qBW EE (λk=>(qEO k).st (qF1 k)) (λk S=>jI (qF1 k) (qEO k) k S) qKZ (vJ Tryz.f26) (Nat.max Tryz.f10.ntmps 3) 0 1000) 1 (vJ Tryz.f10) (mK EE Tryz.f10.results.toList),
 nr Tryz.f10,
 kZ Tryz.f25 1 qZc,
 hd Tryz.f25 1 qZc,
 nr Tryz.f25,
 kZ Tryz.f52 4 qYR,
 hd Tryz.f52 4 qYR,
 nr Tryz.f52,
 kZ Tryz.f81 2 qYE,
 hd Tryz.f81 2 qYE,
 nr Tryz.f81,
 kZ Tryz.f80 2 qYF,
 hd Tryz.f80 2 qYF,
 nr Tryz.f80,
 kZ Tryz.f50 2 qYW,
 hd Tryz.f50 2 qYW,
 nr Tryz.f50,
 kZ Tryz.f51 2 qYU,
 hd Tryz.f51 2 qYU,
 nr Tryz.f51,
 kZ Tryz.f83 3 qYB,
 hd Tryz.f83 3 qYB,
 nr Tryz.f83,
 kZ Tryz.f135 1 qUx,
 hd Tryz.f135 1 qUx,
 nr Tryz.f135,
 kZ Tryz.f14 2 qZh,
 hd Tryz.f14 2 qZh,
 nr Tryz.f14,
 kZ Tryz.f32 3 qY9,
 hd Tryz.f32 3 qY9,
 nr Tryz.f32,
 kZ Tryz.f33 2 qY8,
 hd Tryz.f33 2 qY8,
 nr Tryz.f33,
 kZ Tryz.f68 2 qYL,
 hd Tryz.f68 2 qYL,
 nr Tryz.f68,
 kZ Tryz.f107 2 qUH,
 hd Tryz.f107 2 qUH,
 nr Tryz.f107,
 nr Tryz.f26) =
 (qUF,[(1,qUE)],false,qT6,[(1,qT5),(2,qT4)],false,qTL,[],false,qTr,[(1,qTq)],false,qTt,[(1,qTs)],false,qTN,[],false,qTM,[],false,qYA,[],false,qVD,[],false,qUt,[],false,qT2,[(1,qT1)],false,qT0,[],false,qTz,[],false,qNO,[(1,qNN)],false,false):=by kernel_rfl
theorem zEt{ds:List D}{d:D}(x:ds.length=3)(h:qE EE (Holds EE) qJA 0 ds d):Holds EE 10 ds d:=
 uX (I:=qKZ) (pats:=qEO) (szs:=qF1) (L:=0) (G:=26) (fnG:=Tryz.f26) (cdG:=vJ Tryz.f26) he (.cons (yE (c:=vJ Tryz.f26) Tryz.func26 rfl ((jN (jN (xG (xG (vX (vX kY)))))))) rfl <| .cons (yE (c:=vJ Tryz.f26) Tryz.func26 rfl ((jN (jN (xG (xG (vX (vX kY)))))))) rfl <| .nil) (yE (c:=vJ Tryz.f10) Tryz.func10 rfl ((pI (jN (jN kY))).1)) (c:=vJ Tryz.f10) rfl x rfl ((pI kY).1) (by rw[(pI (jN kY)).1];exact xE rfl<|jR) (λk y=>by unfold qEO;split<;>first|decide|omega) h
theorem zFH{ds:List D}{d:D}(x:ds.length=1)(h:qE EE (Holds EE) qJz 0 ds d):Holds EE 25 ds d:=
 hv Tryz.func25 rfl (jN (jN (jN kY))) (xE rfl<|xE rfl<|jR) x h
theorem qYS{ds:List D}{d:D}(x:ds.length=4)(h:qE EE (Holds EE) qYQ 0 ds d):Holds EE 52 ds d:=
 hv Tryz.func52 rfl (jN (jN (xG kY))) (jR) x h
theorem zFy{ds:List D}{d:D}(x:ds.length=2)(h:qE EE (Holds EE) qYD 0 ds d):Holds EE 81 ds d:=
 hv Tryz.func81 rfl (jN (xG (xG kY))) (xE rfl<|jR) x h
theorem zEl{ds:List D}{d:D}(x:ds.length=2)(h:qE EE (Holds EE) qMR 0 ds d):Holds EE 80 ds d:=
 hv Tryz.func80 rfl (xG (xG (xG kY))) (xE rfl<|jR) x h
theorem zEr{ds:List D}{d:D}(x:ds.length=2)(h:qE EE (Holds EE) qYV 0 ds d):Holds EE 50 ds d:=
 hv Tryz.func50 rfl (jN (jN (jN (xG (xG (xG kY)))))) (jR) x h
theorem zFB{ds:List D}{d:D}(x:ds.length=2)(h:qE EE (Holds EE) qYT 0 ds d):Holds EE 51 ds d:=
 hv Tryz.func51 rfl (jN (jN (vX kY))) (jR) x h
theorem zFI{ds:List D}{d:D}(x:ds.length=2)(h:qE EE (Holds EE) qZg 0 ds d):Holds EE 14 ds d:=
 hv Tryz.func14 rfl (jN (jN (jN (xG (xG (vX kY)))))) (jR) x h
theorem u32{ds:List D}{d:D}(x:ds.length=3)(h:qE EE (Holds EE) qMU 0 ds d):Holds EE 32 ds d:=
 hv Tryz.func32 rfl (jN (jN (xG (xG (xG (vX kY)))))) (xE rfl<|jR) x h
theorem zFF{ds:List D}{d:D}(x:ds.length=2)(h:qE EE (Holds EE) qY7 0 ds d):Holds EE 33 ds d:=
 hv Tryz.func33 rfl (jN (vX (vX kY))) (jR) x h
theorem zFA{ds:List D}{d:D}(x:ds.length=2)(h:qE EE (Holds EE) qYK 0 ds d):Holds EE 68 ds d:=
 hv Tryz.func68 rfl (xG (vX (vX kY))) (jR) x h
theorem zCc{ds:List D}{d:D}(x:ds.length=2)(h:qE EE (Holds EE) qH0 0 ds d):Holds EE 107 ds d:=
 hv Tryz.func107 rfl (jN (jN (jN (xG (vX (vX kY)))))) (xE rfl<|jR) x h
def nO:Go.Am.Mode:=⟨⟨[⟨.pure,false⟩],[(0,.v 0)],[],[]⟩,1,⟨[⟨.fresh,true⟩],[(0,.v 0)],[],[]⟩⟩
def nP:Go.Am.Mode:=⟨⟨[⟨.fresh,true⟩,⟨.pure,false⟩],[(0,.v 0),(1,.v 1)],[],[]⟩,2,⟨[⟨.pure,false⟩],[(0,.v 0)],[],[]⟩⟩
def qYZ:Nat->Pat
 |1=>⟨[⟨.pure,false⟩,⟨.fresh,true⟩,⟨.pure,false⟩,⟨.pure,true⟩,⟨.pure,true⟩,⟨.pure,false⟩],[(1,.v 0),(2,.loc 0 0),(5,.v 1),(34,.v 2),(35,.v 3),(36,.v 4)],[some (.whole (.v 5) 7)],[]⟩
 |_=>⟨[],[],[],[]⟩
def qTW:Tree:=
 jQ 7 0 <|
 vM .lss 8 0 1 <|
 zC 3 (
  .ret [.c (.slice none 0 0)]) (
  zM 5 2 <|
  xL 4 <|
  j8 .geq 11 14 1 5 <|
  zC 6 (
   .ret [.c (.slice none 0 0)]) (
   zM 5 2 <|
   wC 7 1 <|
   vK 4 1 7 1 <|
   vM .eql 22 0 9 <|
   zC 10 (
    xS 79 [.v 2,k' 0,.v 1] 0 <|
    .ret [.v 11]) (
    zM 5 2 <|
    wC 11 1 <|
    vK 4 3 11 1 <|
    xS 47 [.v 2,.v 13] 0 <|
    xL 14 <|
    .jump 1 [.v 1,.c (.slice none 0 0),.v 14,.v 15,k' 0,.v 2])))
def qTV:Tree:=
 j8 .lss 36 35 4 3 <|
 zC 6 (
  wC 2 4 <|
  vK 1 0 2 4 <|
  xS 79 [.v 5,.v 8,.v 0] 0 <|
  .bind (.app 3 1 8) [.v 1,.v 9] <|
  vM .add 36 1 4 <|
  .jump 1 [.v 0,.v 10,.v 2,.v 3,.v 11,.v 5]) (
  .ret [.v 1])
def qTU:Nat->Tree
 |0=>qTW
 |1=>qTV
 |_=>.fail
def qYY:Nat->Pat
 |1=>⟨[⟨.pure,false⟩,⟨.pure,false⟩,⟨.pure,true⟩,⟨.pure,true⟩],[(1,.v 0),(7,.v 1),(8,.v 2),(9,.v 3)],[],[]⟩
 |_=>⟨[],[],[],[]⟩
def qTT:Tree:=
 xL 0 <|
 .jump 1 [.v 1,.v 0,.v 2,k' 0]
def qTS:Tree:=
 j8 .lss 9 8 3 2 <|
 zC 4 (
  wC 1 3 <|
  .bind (.elem 4 true 4 0) [.v 1,.v 3] <|
  jQ 4 6 <|
  vM .neq 14 0 0 <|
  zC 8 (
   zM 2 7 <|
   j8 .eql 18 19 9 0 <|
   zC 10 (
    .ret [.v 3]) (
    vM .add 9 1 3 <|
    .jump 1 [.v 0,.v 1,.v 2,.v 11])) (
   vM .add 9 1 3 <|
   .jump 1 [.v 0,.v 1,.v 2,.v 9])) (
  .ret [.c (.int .i64 (-1))])
def qTR:Nat->Tree
 |0=>qTT
 |1=>qTS
 |_=>.fail
def qYX:Nat->Pat
 |1=>⟨[⟨.pure,false⟩,⟨.pure,true⟩,⟨.pure,true⟩,⟨.pure,true⟩],[(1,.v 0),(4,.loc 1 0),(9,.v 1),(10,.v 2),(11,.v 3)],[none,some (.cells [k' 0,k' 0,k' 0,k' 0,k' 0,k' 0,.c (.string ⟨#[]⟩)])],[]⟩
 |_=>⟨[],[],[],[]⟩
def qTQ:Tree:=
 jQ 7 0 <|
 zM 6 2 <|
 xL 3 <|
 .jump 1 [.v 1,.v 3,.v 4,k' 0]
def qTP:Tree:=
 j8 .lss 11 10 3 2 <|
 zC 4 (
  wC 1 3 <|
  .bind (.elem 7 true 7 0) [.v 1,.v 3] <|
  jQ 7 6 <|
  zM 0 7 <|
  j8 .eql 16 17 8 0 <|
  zC 9 (
   jQ 7 7 <|
   .ret [.v 10,.c (.bool true)]) (
   vM .add 11 1 3 <|
   .jump 1 [.v 0,.v 1,.v 2,.v 10])) (
  .ret [.agg [k' 0,k' 0,k' 0,k' 0,k' 0,k' 0,.c (.string ⟨#[]⟩)],.c (.bool false)])
def qTO:Nat->Tree
 |0=>qTQ
 |1=>qTP
 |_=>.fail
def qUC:Nat->Pat
 |_=>⟨[],[],[],[]⟩
def qVE:Tree:=
 jQ 7 0 <|
 jQ 7 1 <|
 zM 2 2 <|
 zM 2 3 <|
 xS 44 [.v 4,.v 5] 1 <|
 zM 3 2 <|
 zM 3 3 <|
 xS 44 [.v 7,.v 8] 1 <|
 zM 5 2 <|
 zM 5 3 <|
 xS 44 [.v 10,.v 11] 1 <|
 qKN 6 <|
 qKN 9 <|
 qKN 12 <|
 .bind (.lit 3 1) [.v 6,.v 9,.v 12] <|
 xS 43 [.v 16] 1 <|
 .ret [.v 17]
def qY1:Nat->Pat
 |_=>⟨[],[],[],[]⟩
def qY0:Tree:=
 xS 78 [.v 0] 1 <|
 xS 78 [.v 1] 1 <|
 zC 2 (
  zC 3 (
   wN 0) (
   .ret [.c (.int .i64 (-1))])) (
  zC 3 (
   wN 1) (
   j8 .lss 14 15 0 1 <|
   zC 4 (
    .ret [.c (.int .i64 (-1))]) (
    j8 .gtr 17 18 0 1 <|
    zC 5 (
     wN 1) (
     wN 0))))
def qY4:Nat->Pat
 |1=>⟨[⟨.pure,false⟩,⟨.pure,true⟩,⟨.pure,true⟩],[(3,k' 0),(6,.v 0),(7,.v 1),(8,.v 2)],[],[]⟩
 |_=>⟨[],[],[],[]⟩
def qY3:Tree:=
 xL 0 <|
 .jump 1 [.v 0,.v 1,k' 0]
def qY2:Tree:=
 j8 .lss 8 7 2 1 <|
 zC 3 (
  wC 0 2 <|
  vK 1 0 0 2 <|
  .bind (.bin .neq 3 (.tmp 12) (.tmp 13)) [.v 5,k' 0] <|
  zC 6 (
   .ret [.v 5]) (
   vM .add 8 1 2 <|
   .jump 1 [.v 0,.v 1,.v 7])) (
  wN 0)
def qYI:Nat->Pat
 |_=>⟨[],[],[],[]⟩
def qYH:Tree:=
 j8 .neq 3 4 0 0 <|
 .ret [.v 1]
def qUv:Nat->Pat
 |_=>⟨[],[],[],[]⟩
def qVB:Tree:=
 jQ 4 0 <|
 .bind (.fld true 2 0) [.v 3] <|
 .bind .pchk [.v 1] <|
 .bind (.loadp true 2) [.pp 5 0] <|
 .bind (.bin .eql 50 (.tmp 6) (.tmp 7)) [.v 4,.v 6] <|
 zC 7 (
  zM 2 3 <|
  .bind (.un .not 4) [.v 8] <|
  zC 9 (
   .bind (.fld true 1 3) [.v 3] <|
   .bind .pchk [.v 2] <|
   .bind (.loadp true 1) [.pp 11 0] <|
   xS 68 [.v 10,.v 12] 1 <|
   .ret [.v 13]) (
   rP false)) (
  rP false)
def qUw:Nat->Pat
 |_=>⟨[],[],[],[]⟩
def qNz:Tree:=
 jQ 1 0 <|
 .bind .pchk [.v 1] <|
 .bind (.loadp false 1) [.pp 4 0] <|
 .bind .boxw [.v 3] <|
 .call (.fn 50) [.v 5,.fn (.func 137) [] [.v 2,.pp 6 0]] 1 <|
 .ret [.v 7]
def qVC:Nat->Tree
 |0=>qNz
 |_=>.fail
def qUn:Nat->Pat
 |1=>⟨[⟨.pure,false⟩,⟨.pure,false⟩,⟨.pure,true⟩,⟨.pure,true⟩],[(0,.v 0),(1,.v 1),(7,.v 2),(8,.v 3)],[],[]⟩
 |_=>⟨[],[],[],[]⟩
def qNo:Tree:=
 xL 0 <|
 .jump 1 [.v 0,.v 1,.v 2,k' 0]
def qNn:Tree:=
 j8 .lss 8 7 3 2 <|
 zC 4 (
  wC 0 3 <|
  .bind (.elem 1 true 1 0) [.v 0,.v 3] <|
  .call (.val (.v 1)) [.v 1,.v 6] 1 <|
  zC 7 (
   .ret [.v 3]) (
   vM .add 8 1 3 <|
   .jump 1 [.v 0,.v 1,.v 2,.v 8])) (
  .ret [.c (.int .i64 (-1))])
def qNm:Nat->Tree
 |0=>qNo
 |1=>qNn
 |_=>.fail
def qYz:Nat->Pat
 |_=>⟨[],[],[],[]⟩
def qTn:Tree:=
 jQ 9 0 <|
 jQ 2 1 <|
 qKN 3 <|
 xS 133 [.v 4,.v 2] 0 <|
 qAi 0 7 <|
 qAi 1 7 <|
 .bind (.bin .neq 55 (.tmp 18) (K' 0)) [.v 9,k' 0] <|
 zC 10 (
  .ret [.c (.slice none 0 0),.v 9]) (
  .callM 135 nO [.v 8] <|
  .bind .box [.v 6] <|
  .bind .boxw [.v 5] <|
  .callM 134 nP [.v 11,.fn (.func 136) [] [.pp 12 0,.pp 13 0]] <|
  .ret [.v 14,k' 0])
def qYy:Nat->Tree
 |0=>qTn
 |_=>.fail
def zEq:Nat->Pat
 |_=>⟨[],[],[],[]⟩
def qYP:Tree:=
 jQ 9 0 <|
 xS 7 [.v 4,.v 1,.v 2] 1 <|
 .bind (.un .not 4) [.v 5] <|
 zC 6 (
  xS 8 [] 1 <|
  .ret [.v 7]) (
  .bind (.conv 5 3) [.v 3] <|
  xL 1 <|
  vM .add 20 1 8 <|
  j8 .rem 18 21 7 9 <|
  .bind (.lit 73 4) [] <|
  .bind (.slc 63 7 false true) [.v 1,.v 10] <|
  xS 10 [.v 4,.v 12,.v 2] 0 <|
  .bind (.app 73 4 48) [.v 11,.v 13] <|
  .bind (.slc 63 7 true false) [.v 1,.v 10] <|
  xS 10 [.v 4,.v 15,.v 2] 0 <|
  .bind (.app 73 4 48) [.v 14,.v 16] <|
  xS 10 [.v 4,.v 1,.v 2] 0 <|
  xS 14 [.v 18,.v 17] 1 <|
  zC 19 (
   xS 8 [] 1 <|
   .ret [.v 20]) (
   rP false))
def zBM:Nat->Tree
 |0=>qYP
 |_=>.fail
def zEm:Nat->Pat
 |1=>⟨[⟨.pure,false⟩,⟨.pure,true⟩],[(1,.v 0),(7,.v 1)],[],[]⟩
 |_=>⟨[],[],[],[]⟩
def qYG:Tree:=
 jQ 9 0 <|
 xL 1 <|
 vM .gtr 9 2 4 <|
 zC 5 (
  rP false) (
  xL 2 <|
  vM .gtr 13 8 6 <|
  zC 7 (
   rP false) (
   xS 12 [.v 3] 1 <|
   .bind (.un .not 4) [.v 8] <|
   zC 9 (
    rP false) (
    xS 17 [.v 2] 1 <|
    .bind (.bin .neq 55 (.tmp 23) (K' 0)) [.v 10,k' 0] <|
    zC 11 (
     rP false) (
     .jump 1 [.v 1,k' 0]))))
def qVq:Tree:=
 xL 0 <|
 j8 .lss 26 28 1 2 <|
 zC 3 (
  wC 0 1 <|
  .bind (.elem 7 true 7 0) [.v 0,.v 1] <|
  xS 18 [.v 5] 1 <|
  .bind (.un .not 4) [.v 6] <|
  zC 7 (
   rP false) (
   vM .gtr 39 0 1 <|
   zC 8 (
    wC 0 1 <|
    vK 7 0 0 1 <|
    vM .sub 49 1 1 <|
    wC 0 11 <|
    vK 7 0 0 11 <|
    j8 .leq 47 54 10 13 <|
    zC 14 (
     rP false) (
     vM .add 30 1 1 <|
     .jump 1 [.v 0,.v 15])) (
    vM .add 30 1 1 <|
    .jump 1 [.v 0,.v 9]))) (
  rP true)
def qVp:Nat->Tree
 |0=>qYG
 |1=>qVq
 |_=>.fail
def qY6:Nat->Pat
 |1=>⟨[⟨.pure,true⟩,⟨.pure,false⟩],[(1,.loc 0 0),(4,.v 0)],[some (.whole (.v 1) 7)],[]⟩
 |2=>⟨[⟨.pure,true⟩,⟨.pure,false⟩],[(1,.loc 0 0),(6,.v 0)],[some (.whole (.v 1) 7)],[]⟩
 |_=>⟨[],[],[],[]⟩
def qTZ:Tree:=
 jQ 7 0 <|
 zM 5 1 <|
 xS 70 [.v 2] 1 <|
 .bind (.bin .neq 55 (.tmp 11) (K' 0)) [.v 3,k' 0] <|
 zC 4 (
  .ret [.v 3]) (
  zM 2 1 <|
  vM .lss 16 0 5 <|
  zC 6 (
   wN 12) (
   zM 2 1 <|
   vM .gtr 21 86400000 7 <|
   zC 8 (
    wN 12) (
    zM 6 1 <|
    xL 9 <|
    vM .gtr 26 300 10 <|
    zC 11 (
     wN 11) (
     .jump 1 [k' 0,.v 1]))))
def qTY:Tree:=
 zM 6 1 <|
 xL 2 <|
 j8 .lss 28 31 0 3 <|
 zC 4 (
  xS 71 [.v 1,.v 0] 1 <|
  .bind (.bin .neq 55 (.tmp 38) (K' 0)) [.v 5,k' 0] <|
  zC 6 (
   .ret [.v 5]) (
   vM .add 33 1 0 <|
   .jump 1 [.v 7,.v 1])) (
  .jump 2 [k' 0,.v 1])
def qTX:Tree:=
 zM 5 1 <|
 xL 2 <|
 j8 .lss 41 44 0 3 <|
 zC 4 (
  xS 72 [.v 1,.v 0] 1 <|
  .bind (.bin .neq 55 (.tmp 51) (K' 0)) [.v 5,k' 0] <|
  zC 6 (
   .ret [.v 5]) (
   vM .add 46 1 0 <|
   .jump 2 [.v 7,.v 1])) (
  wN 0)
def qY5:Nat->Tree
 |0=>qTZ
 |1=>qTY
 |2=>qTX
 |_=>.fail
def qZf:Nat->Pat
 |_=>⟨[],[],[],[]⟩
def qUi:Tree:=
 jQ 7 0 <|
 zM 6 1 <|
 xL 2 <|
 vM .leq 5 14 3 <|
 zC 4 (
  zM 5 1 <|
  xL 5 <|
  vM .leq 10 6 6 <|
  zC 7 (
   zM 4 1 <|
   xL 8 <|
   vM .leq 17 6 9 <|
   zC 10 (
    xS 38 [.v 1] 1 <|
    .bind (.bin .eql 55 (.tmp 22) (K' 0)) [.v 11,k' 0] <|
    .ret [.v 12]) (
    rP false)) (
   rP false)) (
  rP false)
def qZe:Nat->Tree
 |0=>qUi
 |_=>.fail
def qYJ:Nat->Pat
 |1=>⟨[⟨.pure,false⟩,⟨.pure,true⟩],[(0,.v 0),(3,.v 1)],[],[]⟩
 |_=>⟨[],[],[],[]⟩
def qTy:Tree:=
 xL 0 <|
 vM .gtr 6 12 1 <|
 zC 2 (
  wN 11) (
  .jump 1 [.v 0,k' 0])
def qTx:Tree:=
 xL 0 <|
 j8 .lss 8 10 1 2 <|
 zC 3 (
  xS 109 [.v 0,.v 1] 1 <|
  .bind (.bin .neq 55 (.tmp 17) (K' 0)) [.v 4,k' 0] <|
  zC 5 (
   .ret [.v 4]) (
   vM .add 12 1 1 <|
   .jump 1 [.v 0,.v 6])) (
  wN 0)
def qMS:Nat->Tree
 |0=>qTy
 |1=>qTx
 |_=>.fail
def qUG:Nat->Pat
 |1=>⟨[⟨.pure,false⟩,⟨.pure,false⟩,⟨.pure,true⟩,⟨.pure,false⟩],[(0,.v 0),(1,.v 1),(5,.loc 0 0),(6,.v 2)],[some (.whole (.v 3) 4)],[]⟩
 |2=>⟨[⟨.pure,false⟩,⟨.pure,false⟩,⟨.pure,true⟩,⟨.pure,false⟩],[(0,.v 0),(1,.v 1),(5,.loc 0 0),(7,.v 2)],[some (.whole (.v 3) 4)],[]⟩
 |_=>⟨[],[],[],[]⟩
def qNM:Tree:=
 wC 0 1 <|
 .bind (.elem 4 true 4 0) [.v 0,.v 1] <|
 jQ 4 3 <|
 zM 0 4 <|
 xS 92 [.v 5] 1 <|
 .bind (.un .not 4) [.v 6] <|
 zC 7 (
  wN 7) (
  .jump 1 [.v 0,.v 1,k' 0,.v 4])
def qNL:Tree:=
 j8 .lss 17 18 2 1 <|
 zC 4 (
  wC 0 2 <|
  vK 4 0 0 2 <|
  zM 0 3 <|
  .bind (.bin .eql 9 (.tmp 26) (.tmp 28)) [.v 6,.v 7] <|
  zC 8 (
   wN 8) (
   vM .add 20 1 2 <|
   .jump 1 [.v 0,.v 1,.v 9,.v 3])) (
  zM 1 3 <|
  vM .lss 31 0 5 <|
  zC 6 (
   wN 14) (
   zM 1 3 <|
   vM .gtr 35 4 7 <|
   zC 8 (
    wN 14) (
    zM 2 3 <|
    vM .lss 39 0 9 <|
    zC 10 (
     wN 2) (
     zM 2 3 <|
     vM .gtr 43 5 11 <|
     zC 12 (
      wN 2) (
      .jump 2 [.v 0,.v 1,k' 0,.v 3])))))
def qNK:Tree:=
 j8 .lss 46 47 2 1 <|
 zC 4 (
  zM 2 3 <|
  vM .neq 52 0 5 <|
  zC 6 (
   wC 0 2 <|
   vK 4 2 0 2 <|
   zM 2 3 <|
   j8 .eql 59 61 8 9 <|
   zC 10 (
    wN 8) (
    vM .add 49 1 2 <|
    .jump 2 [.v 0,.v 1,.v 11,.v 3])) (
   vM .add 49 1 2 <|
   .jump 2 [.v 0,.v 1,.v 7,.v 3])) (
  zM 1 3 <|
  vM .eql 65 0 5 <|
  zC 6 (
   zM 3 3 <|
   .bind (.bin .neq 3 (.tmp 70) (.const (.int .i64 (-1)))) [.v 7,.c (.int .i64 (-1))] <|
   zC 8 (
    wN 13) (
    zM 2 3 <|
    xS 156 [.v 9] 1 <|
    vM .geq 107 0 10 <|
    zC 11 (
     zM 1 3 <|
     zM 2 3 <|
     xS 156 [.v 13] 1 <|
     j8 .neq 111 114 12 14 <|
     zC 15 (
      wN 14) (
      zM 2 3 <|
      xS 157 [.v 16] 1 <|
      vM .geq 119 0 17 <|
      zC 18 (
       wN 13) (
       wN 0))) (
     zM 2 3 <|
     xS 157 [.v 12] 1 <|
     vM .geq 119 0 13 <|
     zC 14 (
      wN 13) (
      wN 0)))) (
   zM 3 3 <|
   vM .lss 78 0 7 <|
   zC 8 (
    wN 13) (
    zM 3 3 <|
    j8 .geq 82 83 9 1 <|
    zC 10 (
     wN 13) (
     zM 1 3 <|
     xS 155 [.v 11] 1 <|
     zC 12 (
      zM 3 3 <|
      wC 0 13 <|
      vK 4 1 0 13 <|
      xS 155 [.v 15] 1 <|
      .bind (.un .not 4) [.v 16] <|
      zC 17 (
       wN 13) (
       zM 2 3 <|
       xS 156 [.v 18] 1 <|
       vM .geq 107 0 19 <|
       zC 20 (
        zM 1 3 <|
        zM 2 3 <|
        xS 156 [.v 22] 1 <|
        j8 .neq 111 114 21 23 <|
        zC 24 (
         wN 14) (
         zM 2 3 <|
         xS 157 [.v 25] 1 <|
         vM .geq 119 0 26 <|
         zC 27 (
          zM 3 3 <|
          wC 0 28 <|
          vK 4 2 0 28 <|
          zM 2 3 <|
          xS 157 [.v 31] 1 <|
          j8 .neq 129 132 30 32 <|
          zC 33 (
           wN 13) (
           wN 0)) (
          wN 0))) (
        zM 2 3 <|
        xS 157 [.v 21] 1 <|
        vM .geq 119 0 22 <|
        zC 23 (
         zM 3 3 <|
         wC 0 24 <|
         vK 4 2 0 24 <|
         zM 2 3 <|
         xS 157 [.v 27] 1 <|
         j8 .neq 129 132 26 28 <|
         zC 29 (
          wN 13) (
          wN 0)) (
         wN 0)))) (
      zM 2 3 <|
      xS 156 [.v 13] 1 <|
      vM .geq 107 0 14 <|
      zC 15 (
       zM 1 3 <|
       zM 2 3 <|
       xS 156 [.v 17] 1 <|
       j8 .neq 111 114 16 18 <|
       zC 19 (
        wN 14) (
        zM 2 3 <|
        xS 157 [.v 20] 1 <|
        vM .geq 119 0 21 <|
        zC 22 (
         zM 3 3 <|
         wC 0 23 <|
         vK 4 2 0 23 <|
         zM 2 3 <|
         xS 157 [.v 26] 1 <|
         j8 .neq 129 132 25 27 <|
         zC 28 (
          wN 13) (
          wN 0)) (
         wN 0))) (
       zM 2 3 <|
       xS 157 [.v 16] 1 <|
       vM .geq 119 0 17 <|
       zC 18 (
        zM 3 3 <|
        wC 0 19 <|
        vK 4 2 0 19 <|
        zM 2 3 <|
        xS 157 [.v 22] 1 <|
        j8 .neq 129 132 21 23 <|
        zC 24 (
         wN 13) (
         wN 0)) (
        wN 0)))))))
def qBy:Nat->Tree
 |0=>qNM
 |1=>qNL
 |2=>qNK
 |_=>.fail
def qYM:Nat->Pat
 |1=>⟨[⟨.pure,true⟩,⟨.pure,false⟩],[(1,.loc 0 0),(3,.v 0)],[some (.whole (.v 1) 3)],[]⟩
 |2=>⟨[⟨.pure,true⟩,⟨.pure,true⟩,⟨.pure,false⟩,⟨.pure,true⟩,⟨.pure,true⟩,⟨.pure,true⟩,⟨.pure,false⟩],[(1,.loc 0 0),(3,.v 0),(4,.loc 1 0),(5,.v 1),(38,.v 2),(39,.loc 1 2),(40,.v 3),(41,.v 4),(42,.c (.bool false)),(48,.loc 1 1),(49,.v 5),(50,.c (.bool false))],[some (.whole (.v 2) 3),some (.whole (.v 6) 3)],[]⟩
 |3=>⟨[⟨.pure,true⟩,⟨.pure,false⟩],[(1,.loc 0 0),(6,.v 0)],[some (.whole (.v 1) 3)],[]⟩
 |4=>⟨[⟨.pure,true⟩,⟨.pure,false⟩],[(1,.loc 0 0),(7,.v 0)],[some (.whole (.v 1) 3)],[]⟩
 |_=>⟨[],[],[],[]⟩
def qTE:Tree:=
 jQ 3 0 <|
 zM 0 1 <|
 vM .lss 9 1 2 <|
 zC 3 (
  wN 2) (
  zM 0 1 <|
  vM .gtr 13 24 4 <|
  zC 5 (
   wN 2) (
   zM 1 1 <|
   xL 6 <|
   vM .gtr 18 200 7 <|
   zC 8 (
    wN 11) (
    .jump 1 [k' 0,.v 1])))
def qTD:Tree:=
 zM 1 1 <|
 xL 2 <|
 j8 .lss 20 23 0 3 <|
 zC 4 (
  zM 1 1 <|
  wC 5 0 <|
  .bind (.elem 3 true 3 0) [.v 5,.v 0] <|
  jQ 3 7 <|
  zM 0 8 <|
  xS 97 [.v 1,.v 9] 1 <|
  .bind (.un .not 4) [.v 10] <|
  zC 11 (
   wN 2) (
   zM 2 8 <|
   xS 97 [.v 1,.v 12] 1 <|
   .bind (.un .not 4) [.v 13] <|
   zC 14 (
    wN 2) (
    zM 1 8 <|
    vM .lss 45 1 15 <|
    zC 16 (
     wN 21) (
     zM 1 8 <|
     vM .gtr 49 20 17 <|
     zC 18 (
      wN 21) (
      .jump 2 [.v 0,k' 0,.v 1,.v 12,.v 13,.v 17,.v 8]))))) (
  .jump 3 [k' 1,.v 1])
def qTC:Tree:=
 j8 .lss 52 53 1 0 <|
 zC 7 (
  zM 1 2 <|
  wC 8 1 <|
  .bind (.elem 3 true 3 0) [.v 8,.v 1] <|
  .bind (.bin .eql 112 (.tmp 61) (.tmp 62)) [.v 10,.v 6] <|
  zC 11 (
   wN 8) (
   vM .add 55 1 1 <|
   .jump 2 [.v 0,.v 12,.v 2,.v 3,.v 4,.v 5,.v 6])) (
  vM .add 25 1 0 <|
  .jump 1 [.v 8,.v 2])
def qTB:Tree:=
 zM 2 1 <|
 xL 2 <|
 j8 .lss 64 67 0 3 <|
 zC 4 (
  zM 2 1 <|
  wC 5 0 <|
  vK 1 0 5 0 <|
  zM 2 1 <|
  vM .sub 78 1 0 <|
  wC 8 9 <|
  vK 1 0 8 9 <|
  j8 .leq 75 81 7 11 <|
  zC 12 (
   wN 10) (
   vM .add 69 1 0 <|
   .jump 3 [.v 13,.v 1])) (
  .jump 4 [k' 0,.v 1])
def qTA:Tree:=
 zM 2 1 <|
 xL 2 <|
 j8 .lss 83 86 0 3 <|
 zC 4 (
  zM 2 1 <|
  wC 5 0 <|
  vK 1 0 5 0 <|
  xS 97 [.v 1,.v 7] 1 <|
  .bind (.un .not 4) [.v 8] <|
  zC 9 (
   wN 2) (
   vM .add 88 1 0 <|
   .jump 4 [.v 10,.v 1])) (
  wN 0)
def fY:Nat->Tree
 |0=>qTE
 |1=>qTD
 |2=>qTC
 |3=>qTB
 |4=>qTA
 |_=>.fail
def qA3:Nat->Pat
 |_=>⟨[⟨.pure,false⟩],[(0,.v 0)],[],[]⟩
def aO:Tree:=
 .bind (.isNil false) [.v 0] <|
 zC 1 (
  .ret [.c (.slice none 0 0)]) (
  .bind (.lit 71 1) [] <|
  .bind (.app 71 1 24) [.v 2,.v 0] <|
  .ret [.v 3])
def qMG:Nat->Tree
 |0=>aO
 |_=>.fail
def qA4:Nat->Pat
 |1=>⟨[⟨.fresh,true⟩,⟨.pure,false⟩,⟨.pure,true⟩,⟨.pure,true⟩],[(0,.v 0),(1,.v 1),(5,.v 2),(6,.v 3)],[],[]⟩
 |_=>⟨[⟨.fresh,true⟩,⟨.pure,false⟩],[(0,.v 0),(1,.v 1)],[],[]⟩
def qBu:Tree:=
 xS 170 [.v 0,.v 1] 1 <|
 .bind (.bin .eql 3 (.tmp 11) (.const (.int .i64 (-1)))) [.v 2,.c (.int .i64 (-1))] <|
 zC 3 (
  .ret [.v 0]) (
  vM .add 14 1 2 <|
  .jump 1 [.v 0,.v 1,.v 2,.v 4])
def qFX:Tree:=
 xL 0 <|
 j8 .lss 16 18 3 4 <|
 zC 5 (
  wC 0 3 <|
  .bind (.elem 1 true 1 0) [.v 0,.v 3] <|
  jQ 1 7 <|
  .call (.val (.v 1)) [.v 1,.v 8] 1 <|
  .bind (.un .not 4) [.v 9] <|
  zC 10 (
   wC 0 2 <|
   .bind (.set 1 true 1 0) [.v 0,.v 2,.v 8] <|
   vM .add 34 1 2 <|
   vM .add 20 1 3 <|
   .jump 1 [.v 12,.v 1,.v 13,.v 14]) (
   vM .add 20 1 3 <|
   .jump 1 [.v 0,.v 1,.v 2,.v 11])) (
  .bind (.clr 71 1 true [(.slice none 0 0)]) [.v 0,.v 2] <|
  .bind (.slc 71 1 false true) [.v 6,.v 2] <|
  .ret [.v 7])
def qMI:Nat->Tree
 |0=>qBu
 |1=>qFX
 |_=>.fail
theorem yF:(kZ Tryz.f47 2 qYZ,
 hd Tryz.f47 2 qYZ,
 nr Tryz.f47,
 kZ Tryz.f48 2 qYY,
 hd Tryz.f48 2 qYY,
 nr Tryz.f48,
 kZ Tryz.f49 2 qYX,
 hd Tryz.f49 2 qYX,
 nr Tryz.f49,
 kZ Tryz.f129 2 qUC,
 hd Tryz.f129 2 qUC,
 nr Tryz.f129,
 kZ Tryz.f44 2 qY1,
 hd Tryz.f44 2 qY1,
 nr Tryz.f44,
 kZ Tryz.f43 1 qY4,
 hd Tryz.f43 1 qY4,
 nr Tryz.f43,
 kZ Tryz.f78 1 qYI,
 hd Tryz.f78 1 qYI,
 nr Tryz.f78,
 kZ Tryz.f137 3 qUv,
 hd Tryz.f137 3 qUv,
 nr Tryz.f137,
 kZ Tryz.f136 3 qUw,
 hd Tryz.f136 3 qUw,
 nr Tryz.f136,
 kZ Tryz.f170 2 qUn,
 hd Tryz.f170 2 qUn,
 nr Tryz.f170,
 kZ Tryz.f84 4 qYz,
 hd Tryz.f84 4 qYz,
 nr Tryz.f84,
 kZ Tryz.f5 4 zEq,
 hd Tryz.f5 4 zEq,
 nr Tryz.f5,
 kZ Tryz.f7 3 zEm,
 hd Tryz.f7 3 zEm,
 nr Tryz.f7,
 kZ Tryz.f38 1 qY6,
 hd Tryz.f38 1 qY6,
 nr Tryz.f38,
 kZ Tryz.f18 1 qZf,
 hd Tryz.f18 1 qZf,
 nr Tryz.f18,
 kZ Tryz.f70 1 qYJ,
 hd Tryz.f70 1 qYJ,
 nr Tryz.f70,
 kZ Tryz.f109 2 qUG,
 hd Tryz.f109 2 qUG,
 nr Tryz.f109,
 kZ Tryz.f64 1 qYM,
 hd Tryz.f64 1 qYM,
 nr Tryz.f64,
 qGd EE (λk S=>jI (Nat.max Tryz.f135.ntmps nO.n) (qA3 k) k S) Tryz.f135 nO,
 xB EE (λk=>(qA3 k).st (Nat.max Tryz.f135.ntmps nO.n)) (λk S=>jI (Nat.max Tryz.f135.ntmps nO.n) (qA3 k) k S) 1 (vJ Tryz.f135) (qHc EE nO Tryz.f135.results.toList),
 nr Tryz.f135,
 qGd EE (λk S=>jI (Nat.max Tryz.f134.ntmps nP.n) (qA4 k) k S) Tryz.f134 nP,
 xB EE (λk=>(qA4 k).st (Nat.max Tryz.f134.ntmps nP.n)) (λk S=>jI (Nat.max Tryz.f134.ntmps nP.n) (qA4 k) k S) 1 (vJ Tryz.f134) (qHc EE nP Tryz.f134.results.toList),
 nr Tryz.f134) =
 (qTW,[(1,qTV)],false,qTT,[(1,qTS)],false,qTQ,[(1,qTP)],false,qVE,[],false,qY0,[],false,qY3,[(1,qY2)],false,qYH,[],false,qVB,[],false,qNz,[],false,qNo,[(1,qNn)],false,qTn,[],false,qYP,[],false,qYG,[(1,qVq)],false,qTZ,[(1,qTY),(2,qTX)],false,qUi,[],false,qTy,[(1,qTx)],false,qNM,[(1,qNL),(2,qNK)],false,qTE,[(1,qTD),(2,qTC),(3,qTB),(4,qTA)],false,aO,[],false,qBu,[(1,qFX)],false):=by kernel_rfl
theorem zEs{ds:List D}{d:D}(x:ds.length=2)(h:qE EE (Holds EE) qTU 0 ds d):Holds EE 47 ds d:=
 hv Tryz.func47 rfl yF (xE rfl<|jR) x h
theorem zFD{ds:List D}{d:D}(x:ds.length=2)(h:qE EE (Holds EE) qTR 0 ds d):Holds EE 48 ds d:=
 hv Tryz.func48 rfl (jN (jN (jN yF))) (xE rfl<|jR) x h
theorem zFC{ds:List D}{d:D}(x:ds.length=2)(h:qE EE (Holds EE) qTO 0 ds d):Holds EE 49 ds d:=
 hv Tryz.func49 rfl (jN (jN (xG yF))) (xE rfl<|jR) x h
theorem zB9{ds:List D}{d:D}(x:ds.length=3)(h:qE EE (Holds EE) qVC 0 ds d):Holds EE 136 ds d:=
 hv Tryz.func136 rfl (xG (xG (vX yF))) (jR) x h
theorem zB3{ds:List D}{d:D}(x:ds.length=2)(h:qE EE (Holds EE) qNm 0 ds d):Holds EE 170 ds d:=
 hv Tryz.func170 rfl (jN (jN (jN (xG (xG (vX yF)))))) (xE rfl<|jR) x h
theorem zEk{ds:List D}{d:D}(x:ds.length=4)(h:qE EE (Holds EE) qYy 0 ds d):Holds EE 84 ds d:=
 hv Tryz.func84 rfl (jN (jN (xG (xG (xG (vX yF)))))) (jR) x h
theorem u5{ds:List D}{d:D}(x:ds.length=4)(h:qE EE (Holds EE) zBM 0 ds d):Holds EE 5 ds d:=
 hv Tryz.func5 rfl (jN (vX (vX yF))) (jR) x h
theorem u7{ds:List D}{d:D}(x:ds.length=3)(h:qE EE (Holds EE) qVp 0 ds d):Holds EE 7 ds d:=
 hv Tryz.func7 rfl (xG (vX (vX yF))) (xE rfl<|jR) x h
theorem zFE{ds:List D}{d:D}(x:ds.length=1)(h:qE EE (Holds EE) qY5 0 ds d):Holds EE 38 ds d:=
 hv Tryz.func38 rfl (jN (jN (jN (xG (vX (vX yF)))))) (xE rfl<|xE rfl<|jR) x h
theorem zBj{ds:List D}{d:D}(x:ds.length=1)(h:qE EE (Holds EE) qZe 0 ds d):Holds EE 18 ds d:=
 hv Tryz.func18 rfl (jN (jN (xG (xG (vX (vX yF)))))) (jR) x h
theorem zEn{ds:List D}{d:D}(x:ds.length=1)(h:qE EE (Holds EE) qMS 0 ds d):Holds EE 70 ds d:=
 hv Tryz.func70 rfl (jN (xG (xG (xG (vX (vX yF)))))) (xE rfl<|jR) x h
theorem qZk{ds:List D}{d:D}(x:ds.length=2)(h:qE EE (Holds EE) qBy 0 ds d):Holds EE 109 ds d:=
 hv Tryz.func109 rfl (vX (vX (vX yF))) (xE rfl<|xE rfl<|jR) x h
theorem u64{ds:List D}{d:D}(x:ds.length=1)(h:qE EE (Holds EE) fY 0 ds d):Holds EE 64 ds d:=
 hv Tryz.func64 rfl (jN (jN (jN (vX (vX (vX yF)))))) (xE rfl<|xE rfl<|xE rfl<|xE rfl<|jR) x h
theorem qMH{ds:List D}{d:D}(h:qE EE (Holds EE) qMG 0 ds d)(hd:∃x,d=gZ x/\x.length=1):Holds EE (Nat.add cQ 135) (.mode nO::ds) d:=
 uY he (yE (c:=vJ Tryz.f135) Tryz.func135 rfl ((pI (xG (xG (vX (vX (vX yF)))))).1)) (c:=vJ Tryz.f135) rfl (m:=nO) (by decide +kernel) (λk=>by unfold qA3;split<;>decide) ((pI (jN (jN (xG (vX (vX (vX yF))))))).1) (by rw[(pI (jN (jN (jN (xG (vX (vX (vX yF)))))))).1];exact jR) h hd
theorem qVi{ds:List D}{d:D}(h:qE EE (Holds EE) qMI 0 ds d)(hd:∃x,d=gZ x/\x.length=1):Holds EE (Nat.add cQ 134) (.mode nP::ds) d:=
 uY he (yE (c:=vJ Tryz.f134) Tryz.func134 rfl ((jN (jN (jN (xG (xG (vX (vX (vX yF)))))))))) (c:=vJ Tryz.f134) rfl (m:=nP) (by decide +kernel) (λk=>by unfold qA4;split<;>decide) ((pI (jN (xG (xG (vX (vX (vX yF))))))).1) (by rw[(pI (jN (jN (xG (xG (vX (vX (vX yF)))))))).1];exact xE rfl<|jR) h hd
end Go.Proofs.YtpbmnkajhedaiaaGreat
