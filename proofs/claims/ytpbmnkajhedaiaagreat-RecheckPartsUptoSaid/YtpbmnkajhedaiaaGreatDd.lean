/- Trees of functions. Conditions: none. -/
import Derived.Test.YtpbmnkajhedaiaaGreatDa
import Derived.Test.YtpbmnkajhedaiaaGreatSx6
import Derived.Test.YtpbmnkajhedaiaaGreatUn
import Derived.Test.YtpbmnkajhedaiaaGreatUv
set_option linter.all false
namespace Go.Proofs.YtpbmnkajhedaiaaGreat
open Go Go.Am Go.Proofs
def qUd:Nat->Pat
 |_=>⟨[],[],[],[]⟩
def qM2:Tree:=
 .bind (.conv 3 158) [.v 1] <|
 .bind (.bin .shl 279 (.const (.int .u32 1)) (.tmp 7)) [.c (.int .u32 1),.v 2] <|
 .bind (.bin .or 279 (.tmp 5) (.tmp 8)) [.v 0,.v 3] <|
 .ret [.v 4]
def qVw:Nat->Tree
 |0=>qM2
 |_=>.fail
def qT7:Nat->Pat
 |_=>⟨[],[],[],[]⟩
def qMV:Tree:=
 .bind (.conv 3 158) [.v 1] <|
 .bind (.bin .shr 279 (.tmp 5) (.tmp 7)) [.v 0,.v 2] <|
 .bind (.bin .and 279 (.tmp 8) (.const (.int .u32 1))) [.v 3,.c (.int .u32 1)] <|
 .bind (.bin .eql 279 (.tmp 9) (.const (.int .u32 1))) [.v 4,.c (.int .u32 1)] <|
 .ret [.v 5]
def qVr:Nat->Tree
 |0=>qMV
 |_=>.fail
def qUq:Nat->Pat
 |1=>⟨[⟨.pure,true⟩,⟨.pure,true⟩,⟨.pure,true⟩,⟨.pure,false⟩,⟨.pure,false⟩],[(2,.loc 0 0),(3,.loc 1 0),(21,.v 0),(22,.v 1),(23,.v 2)],[some (.whole (.v 3) 9),some (.whole (.v 4) 1)],[]⟩
 |_=>⟨[],[],[],[]⟩
def qNu:Tree:=
 jQ 9 0 <|
 jQ 1 1 <|
 zM 0 3 <|
 xL 4 <|
 vM .eql 14 0 5 <|
 zC 6 (
  wN 4) (
  zM 0 3 <|
  xL 7 <|
  vM .gtr 18 4 8 <|
  zC 9 (
   wN 11) (
   zM 0 3 <|
   xL 10 <|
   .jump 1 [.v 10,.v 11,k' 0,.v 2,.v 3]))
def qNt:Tree:=
 j8 .lss 23 22 2 1 <|
 zC 5 (
  wC 0 2 <|
  .bind (.elem 3 true 3 0) [.v 0,.v 2] <|
  jQ 3 7 <|
  zM 8 3 <|
  zM 0 8 <|
  xS 191 [.v 9,.v 10] 0 <|
  qAi 0 11 <|
  qAi 1 11 <|
  jQ 8 12 <|
  .bind (.un .not 4) [.v 13] <|
  zC 15 (
   wN 9) (
   xS 192 [.v 3,.v 8] 0 <|
   qAi 0 16 <|
   qAi 1 16 <|
   qAi 2 16 <|
   jQ 8 17 <|
   .bind (.un .not 4) [.v 19] <|
   zC 21 (
    wN 2) (
    zM 2 8 <|
    vM .lss 47 0 22 <|
    zC 23 (
     wN 22) (
     zM 2 8 <|
     zM 8 3 <|
     zM 0 8 <|
     xS 193 [.v 25,.v 26] 0 <|
     xL 27 <|
     j8 .geq 51 57 24 28 <|
     zC 29 (
      wN 22) (
      vM .add 23 1 2 <|
      .jump 1 [.v 0,.v 1,.v 30,.v 3,.v 4]))))) (
  .bind (.fld true 3 5) [.v 3] <|
  xS 195 [.v 3,.v 4] 0 <|
  xS 194 [.v 6,.v 7] 1 <|
  .bind (.un .not 4) [.v 8] <|
  zC 9 (
   wN 21) (
   xS 168 [.v 3,.v 4] 0 <|
   xL 10 <|
   vM .gtr 71 24 11 <|
   zC 12 (
    wN 5) (
    wN 0)))
def qVy:Nat->Tree
 |0=>qNu
 |1=>qNt
 |_=>.fail
def qUo:Nat->Pat
 |1=>⟨[⟨.fresh,true⟩,⟨.pure,true⟩,⟨.pure,true⟩,⟨.pure,true⟩,⟨.pure,false⟩],[(2,.loc 0 0),(5,.v 0),(12,.v 1),(13,.v 2),(14,.v 3)],[some (.whole (.v 4) 9)],[]⟩
 |_=>⟨[],[],[],[]⟩
def qNq:Tree:=
 jQ 9 0 <|
 jQ 1 1 <|
 zM 0 3 <|
 xL 4 <|
 .jump 1 [.c (.slice none 0 0),.v 4,.v 5,k' 0,.v 2]
def qNp:Tree:=
 j8 .lss 14 13 3 2 <|
 zC 5 (
  wC 1 3 <|
  .bind (.elem 3 true 3 0) [.v 1,.v 3] <|
  jQ 3 7 <|
  xS 192 [.v 4,.v 8] 0 <|
  qAi 0 9 <|
  qAi 1 9 <|
  qAi 2 9 <|
  jQ 8 10 <|
  zC 12 (
   .bind (.app 3 1 8) [.v 0,.v 11] <|
   vM .add 14 1 3 <|
   .jump 1 [.v 14,.v 1,.v 2,.v 15,.v 4]) (
   vM .add 14 1 3 <|
   .jump 1 [.v 0,.v 1,.v 2,.v 14,.v 4])) (
  .ret [.v 0])
def qHX:Nat->Tree
 |0=>qNq
 |1=>qNp
 |_=>.fail
def qUf:Nat->Pat
 |_=>⟨[],[],[],[]⟩
def qM6:Tree:=
 jQ 1 0 <|
 jQ 6 1 <|
 zM 2 5 <|
 xL 6 <|
 j8 .sub 11 14 3 7 <|
 vM .add 16 1 3 <|
 zM 3 5 <|
 xL 10 <|
 j8 .add 17 20 9 11 <|
 zM 0 5 <|
 wC 2 3 <|
 vK 1 0 2 3 <|
 xS 239 [.v 13,.v 15] 1 <|
 .bind (.un .not 4) [.v 16] <|
 zC 17 (
  rP false) (
  vM .lss 31 0 8 <|
  zC 18 (
   rP false) (
   xL 2 <|
   j8 .gtr 35 37 12 19 <|
   zC 20 (
    rP false) (
    zM 4 5 <|
    zC 21 (
     vM .gtr 44 0 8 <|
     zC 22 (
      rP false) (
      zM 5 5 <|
      zC 23 (
       xL 2 <|
       j8 .lss 52 54 12 24 <|
       zC 25 (
        rP false) (
        zM 2 5 <|
        jQ 1 4 <|
        zM 0 27 <|
        .bind (.slc 3 1 true true) [.v 2,.v 8,.v 3] <|
        .call (.fn 240) [.fn (.func 241) [] [],.agg [.v 28,.v 26],.v 29] 1 <|
        zC 30 (
         zM 3 5 <|
         jQ 1 4 <|
         zM 0 32 <|
         vM .add 73 1 3 <|
         .bind (.slc 3 1 true true) [.v 2,.v 34,.v 12] <|
         .call (.fn 240) [.fn (.func 241) [] [],.agg [.v 33,.v 31],.v 35] 1 <|
         .ret [.v 36]) (
         rP false))) (
       zM 2 5 <|
       jQ 1 4 <|
       zM 0 25 <|
       .bind (.slc 3 1 true true) [.v 2,.v 8,.v 3] <|
       .call (.fn 240) [.fn (.func 241) [] [],.agg [.v 26,.v 24],.v 27] 1 <|
       zC 28 (
        zM 3 5 <|
        jQ 1 4 <|
        zM 0 30 <|
        vM .add 73 1 3 <|
        .bind (.slc 3 1 true true) [.v 2,.v 32,.v 12] <|
        .call (.fn 240) [.fn (.func 241) [] [],.agg [.v 31,.v 29],.v 33] 1 <|
        .ret [.v 34]) (
        rP false)))) (
     zM 5 5 <|
     zC 22 (
      xL 2 <|
      j8 .lss 52 54 12 23 <|
      zC 24 (
       rP false) (
       zM 2 5 <|
       jQ 1 4 <|
       zM 0 26 <|
       .bind (.slc 3 1 true true) [.v 2,.v 8,.v 3] <|
       .call (.fn 240) [.fn (.func 241) [] [],.agg [.v 27,.v 25],.v 28] 1 <|
       zC 29 (
        zM 3 5 <|
        jQ 1 4 <|
        zM 0 31 <|
        vM .add 73 1 3 <|
        .bind (.slc 3 1 true true) [.v 2,.v 33,.v 12] <|
        .call (.fn 240) [.fn (.func 241) [] [],.agg [.v 32,.v 30],.v 34] 1 <|
        .ret [.v 35]) (
        rP false))) (
      zM 2 5 <|
      jQ 1 4 <|
      zM 0 24 <|
      .bind (.slc 3 1 true true) [.v 2,.v 8,.v 3] <|
      .call (.fn 240) [.fn (.func 241) [] [],.agg [.v 25,.v 23],.v 26] 1 <|
      zC 27 (
       zM 3 5 <|
       jQ 1 4 <|
       zM 0 29 <|
       vM .add 73 1 3 <|
       .bind (.slc 3 1 true true) [.v 2,.v 31,.v 12] <|
       .call (.fn 240) [.fn (.func 241) [] [],.agg [.v 30,.v 28],.v 32] 1 <|
       .ret [.v 33]) (
       rP false))))))
def qM5:Nat->Tree
 |0=>qM6
 |_=>.fail
def qUc:Nat->Pat
 |_=>⟨[],[],[],[]⟩
def qM1:Tree:=
 xS 249 [.v 0,.v 1] 1 <|
 .ret [.v 2]
def qVv:Nat->Tree
 |0=>qM1
 |_=>.fail
def qUb:Nat->Pat
 |1=>⟨[⟨.pure,false⟩,⟨.pure,false⟩,⟨.pure,true⟩,⟨.pure,true⟩,⟨.pure,false⟩],[(0,.v 0),(4,.loc 0 0),(9,.v 1),(10,.v 2),(11,.v 3)],[some (.whole (.v 4) 2)],[]⟩
 |_=>⟨[],[],[],[]⟩
def qM0:Tree:=
 jQ 2 1 <|
 xL 2 <|
 .jump 1 [.v 0,.v 2,.v 4,k' 0,.v 3]
def qMZ:Tree:=
 j8 .lss 11 10 3 2 <|
 zC 5 (
  wC 1 3 <|
  vK 1 0 1 3 <|
  .call (.val (.v 0)) [.v 0,.v 4,.v 3,.v 7] 1 <|
  .bind (.un .not 4) [.v 8] <|
  zC 9 (
   rP false) (
   vM .add 11 1 3 <|
   .jump 1 [.v 0,.v 1,.v 2,.v 10,.v 4])) (
  rP true)
def qHS:Nat->Tree
 |0=>qM0
 |1=>qMZ
 |_=>.fail
def qUa:Nat->Pat
 |_=>⟨[],[],[],[]⟩
def qMY:Tree:=
 jQ 2 0 <|
 .bind (.fld true 1 0) [.v 3] <|
 zM 1 3 <|
 wC 5 1 <|
 .bind (.elem 2 true 2 0) [.v 5,.v 1] <|
 xS 250 [.v 4,.v 2,.v 7] 1 <|
 .ret [.v 8]
def qVu:Nat->Tree
 |0=>qMY
 |_=>.fail
def qT9:Nat->Pat
 |_=>⟨[],[],[],[]⟩
def qMX:Tree:=
 xS 224 [.v 0,.v 1] 1 <|
 vM .geq 7 0 2 <|
 .ret [.v 3]
def qVt:Nat->Tree
 |0=>qMX
 |_=>.fail
def qT8:Nat->Pat
 |_=>⟨[],[],[],[]⟩
def qMW:Tree:=
 jQ 1 0 <|
 jQ 2 2 <|
 xS 227 [.v 3,.v 1] 1 <|
 zC 5 (
  zM 0 4 <|
  zM 0 3 <|
  vM .sub 16 1 1 <|
  wC 7 8 <|
  vK 2 1 7 8 <|
  zM 0 4 <|
  j8 .and 20 22 10 11 <|
  .bind (.bin .eql 295 (.tmp 11) (.tmp 24)) [.v 4,.agg [.v 6,.v 12]] <|
  .ret [.v 13]) (
  rP false)
def qVs:Nat->Tree
 |0=>qMW
 |_=>.fail
def qUe:Nat->Pat
 |_=>⟨[],[],[],[]⟩
def qM4:Tree:=
 jQ 1 0 <|
 vM .geq 5 1 1 <|
 zC 3 (
  zM 0 2 <|
  xL 4 <|
  j8 .leq 8 11 1 5 <|
  .ret [.v 6]) (
  rP false)
def qVx:Nat->Tree
 |0=>qM4
 |_=>.fail
def qUy:Nat->Pat
 |_=>⟨[],[],[],[]⟩
def qNB:Tree:=
 jQ 9 0 <|
 jQ 1 1 <|
 xS 166 [.v 2,.v 3] 1 <|
 .bind (.bin .neq 55 (.tmp 11) (K' 0)) [.v 4,k' 0] <|
 zC 5 (
  .ret [.c (.slice none 0 0),.v 4]) (
  .bind (.fld true 1 0) [.v 2] <|
  zM 4 2 <|
  xS 168 [.v 2,.v 3] 0 <|
  xS 167 [.v 6,.v 7,.v 8] 0 <|
  xL 9 <|
  vM .eql 23 0 10 <|
  zC 11 (
   .ret [.c (.slice none 0 0),k' 23]) (
   .ret [.v 9,k' 0]))
def qNA:Nat->Tree
 |0=>qNB
 |_=>.fail
def qUp:Nat->Pat
 |1=>⟨[⟨.pure,false⟩,⟨.pure,false⟩,⟨.pure,true⟩,⟨.pure,true⟩,⟨.pure,false⟩],[(2,.v 0),(3,.loc 0 0),(9,.v 1),(10,.v 2),(11,.v 3)],[some (.whole (.v 4) 1)],[]⟩
 |_=>⟨[],[],[],[]⟩
def qNs:Tree:=
 jQ 1 0 <|
 xL 1 <|
 .jump 1 [.v 2,.v 1,.v 4,k' 0,.v 3]
def qNr:Tree:=
 j8 .lss 11 10 3 2 <|
 zC 5 (
  wC 1 3 <|
  .bind (.elem 6 true 6 0) [.v 1,.v 3] <|
  jQ 6 7 <|
  xS 196 [.v 4,.v 8,.v 0] 0 <|
  vM .add 11 1 3 <|
  .jump 1 [.v 9,.v 1,.v 2,.v 10,.v 4]) (
  .ret [.v 0])
def qHY:Nat->Tree
 |0=>qNs
 |1=>qNr
 |_=>.fail
def qUh:Nat->Pat
 |1=>⟨[⟨.pure,false⟩,⟨.fresh,true⟩,⟨.pure,true⟩,⟨.pure,true⟩,⟨.pure,false⟩,⟨.pure,false⟩],[(2,.v 0),(3,.loc 0 0),(4,.loc 1 0),(7,.v 1),(10,.v 0),(11,.v 2),(12,.v 3)],[some (.whole (.v 4) 1),some (.whole (.v 5) 6)],[]⟩
 |_=>⟨[],[],[],[]⟩
def qNb:Tree:=
 jQ 1 0 <|
 jQ 6 1 <|
 xL 2 <|
 .jump 1 [.v 2,.c (.slice none 0 0),.v 5,k' 0,.v 3,.v 4]
def qNa:Tree:=
 j8 .lss 12 11 3 2 <|
 zC 6 (
  wC 0 3 <|
  vK 1 0 0 3 <|
  xS 223 [.v 4,.v 5,.v 0,.v 3] 1 <|
  zC 9 (
   zM 1 5 <|
   zM 0 5 <|
   xS 224 [.v 11,.v 8] 1 <|
   wC 10 12 <|
   vK 1 0 10 12 <|
   vM .eql 30 0 14 <|
   zC 15 (
    vM .add 12 1 3 <|
    .jump 1 [.v 0,.v 1,.v 2,.v 16,.v 4,.v 5]) (
    qKN 14 <|
    .bind (.lit 3 1) [.v 14] <|
    .bind (.app 3 1 8) [.v 1,.v 17] <|
    vM .add 12 1 3 <|
    .jump 1 [.v 0,.v 18,.v 2,.v 19,.v 4,.v 5])) (
   qKN 8 <|
   .bind (.lit 3 1) [.v 8] <|
   .bind (.app 3 1 8) [.v 1,.v 11] <|
   vM .add 12 1 3 <|
   .jump 1 [.v 0,.v 12,.v 2,.v 13,.v 4,.v 5])) (
  .ret [.v 1])
def qEN:Nat->Tree
 |0=>qNb
 |1=>qNa
 |_=>.fail
def qYC:Nat->Pat
 |1=>⟨[⟨.fresh,true⟩,⟨.pure,false⟩,⟨.pure,true⟩,⟨.pure,true⟩,⟨.pure,false⟩],[(2,.loc 0 0),(9,.v 0),(25,.v 1),(26,.v 2),(27,.v 3)],[some (.whole (.v 4) 3)],[]⟩
 |_=>⟨[],[],[],[]⟩
def qTp:Tree:=
 jQ 3 0 <|
 .bind (.bin .eql 9 (.tmp 12) (.const (.string ⟨#[]⟩))) [.v 1,.c (.string ⟨#[]⟩)] <|
 zC 3 (
  .ret [.c (.slice none 0 0),k' 0,k' 4]) (
  xS 130 [.v 2,.v 1] 0 <|
  qAi 0 4 <|
  qAi 1 4 <|
  .bind (.len true) [.v 1] <|
  j8 .lss 20 22 6 7 <|
  zC 8 (
   .ret [.c (.slice none 0 0),.v 6,k' 20]) (
   xL 5 <|
   .jump 1 [.c (.slice none 0 0),.v 5,.v 9,k' 0,.v 2]))
def qTo:Tree:=
 j8 .lss 27 26 3 2 <|
 zC 5 (
  wC 1 3 <|
  vK 1 0 1 3 <|
  zM 1 4 <|
  wC 8 7 <|
  vK 2 1 8 7 <|
  .bind (.app 3 1 8) [.v 0,.v 10] <|
  vM .add 27 1 3 <|
  .jump 1 [.v 11,.v 1,.v 2,.v 12,.v 4]) (
  xL 0 <|
  vM .gtr 41 24 6 <|
  zC 7 (
   .ret [.c (.slice none 0 0),k' 0,k' 5]) (
   .ret [.v 0,k' 0,k' 0]))
def qMQ:Nat->Tree
 |0=>qTp
 |1=>qTo
 |_=>.fail
def qUz:Nat->Pat
 |1=>⟨[⟨.pure,false⟩,⟨.pure,true⟩,⟨.pure,true⟩,⟨.pure,true⟩,⟨.pure,true⟩,⟨.pure,false⟩],[(1,.v 0),(2,.loc 0 0),(6,.v 1),(15,.v 2),(16,.v 3),(17,.v 4)],[some (.whole (.v 5) 3)],[]⟩
 |2=>⟨[⟨.pure,false⟩,⟨.pure,true⟩,⟨.fresh,true⟩,⟨.pure,true⟩,⟨.pure,false⟩],[(1,.v 0),(2,.loc 0 0),(6,.v 1),(9,.v 2),(10,.v 3)],[some (.whole (.v 4) 3)],[]⟩
 |3=>⟨[⟨.pure,false⟩,⟨.pure,true⟩,⟨.fresh,true⟩,⟨.pure,true⟩,⟨.pure,true⟩,⟨.pure,false⟩],[(1,.v 0),(2,.loc 0 0),(6,.v 1),(9,.v 2),(10,.v 3),(11,.v 4)],[some (.whole (.v 5) 3)],[]⟩
 |4=>⟨[⟨.pure,false⟩,⟨.pure,true⟩,⟨.fresh,true⟩,⟨.pure,true⟩,⟨.pure,true⟩,⟨.pure,true⟩,⟨.pure,true⟩,⟨.pure,true⟩,⟨.pure,false⟩],[(1,.v 0),(2,.loc 0 0),(6,.v 1),(9,.v 2),(10,.v 3),(11,.v 4),(42,.v 5),(43,.v 6),(44,.v 7)],[some (.whole (.v 8) 3)],[]⟩
 |_=>⟨[],[],[],[]⟩
def qNG:Tree:=
 jQ 3 0 <|
 zM 1 2 <|
 xL 3 <|
 .jump 1 [.v 1,k' 0,.v 3,.v 4,k' 0,.v 2]
def qNF:Tree:=
 j8 .lss 17 16 4 3 <|
 zC 6 (
  wC 2 4 <|
  .bind (.elem 2 true 2 0) [.v 2,.v 4] <|
  jQ 2 8 <|
  zM 0 9 <|
  .bind (.len true) [.v 10] <|
  .bind (.mm true) [.v 1,.v 11] <|
  vM .add 17 1 4 <|
  .jump 1 [.v 0,.v 12,.v 2,.v 3,.v 13,.v 5]) (
  .jump 2 [.v 0,.v 1,.c (.slice none 0 0),k' 0,.v 5])
def qNE:Tree:=
 .bind (.len true) [.v 0] <|
 j8 .lss 27 29 3 5 <|
 zC 6 (
  .bind (.len true) [.v 0] <|
  j8 .sub 33 34 7 3 <|
  .bind (.mm false) [.v 1,.v 8] <|
  .jump 3 [.v 0,.v 1,.v 2,.v 3,.v 9,.v 4]) (
  .ret [.v 2,.v 3])
def qND:Tree:=
 vM .gtr 37 0 4 <|
 zC 6 (
  zM 1 5 <|
  xL 7 <|
  .jump 4 [.v 0,.v 1,.v 2,.v 3,.v 4,.v 7,.v 8,k' 0,.v 5]) (
  .ret [.v 2,.v 3])
def qNC:Tree:=
 j8 .lss 44 43 7 6 <|
 zC 9 (
  wC 5 7 <|
  .bind (.elem 2 true 2 0) [.v 5,.v 7] <|
  jQ 2 11 <|
  zM 0 12 <|
  j8 .add 53 54 3 4 <|
  .bind (.sub true true) [.v 0,.v 3,.v 14] <|
  .bind (.bin .eql 9 (.tmp 50) (.tmp 56)) [.v 13,.v 15] <|
  zC 16 (
   qKN 7 <|
   .bind (.lit 3 1) [.v 7] <|
   .bind (.app 3 1 8) [.v 2,.v 18] <|
   j8 .add 62 63 3 4 <|
   .jump 2 [.v 0,.v 1,.v 19,.v 20,.v 8]) (
   vM .add 44 1 7 <|
   .jump 4 [.v 0,.v 1,.v 2,.v 3,.v 4,.v 5,.v 6,.v 17,.v 8])) (
  vM .sub 39 1 4 <|
  .jump 3 [.v 0,.v 1,.v 2,.v 3,.v 10,.v 8])
def uE:Nat->Tree
 |0=>qNG
 |1=>qNF
 |2=>qNE
 |3=>qND
 |4=>qNC
 |_=>.fail
theorem yO:(kZ Tryz.f238 2 qUd,
 hd Tryz.f238 2 qUd,
 nr Tryz.f238,
 kZ Tryz.f253 2 qT7,
 hd Tryz.f253 2 qT7,
 nr Tryz.f253,
 kZ Tryz.f166 2 qUq,
 hd Tryz.f166 2 qUq,
 nr Tryz.f166,
 kZ Tryz.f168 2 qUo,
 hd Tryz.f168 2 qUo,
 nr Tryz.f168,
 kZ Tryz.f223 4 qUf,
 hd Tryz.f223 4 qUf,
 nr Tryz.f223,
 kZ Tryz.f239 2 qUc,
 hd Tryz.f239 2 qUc,
 nr Tryz.f239,
 kZ Tryz.f240 3 qUb,
 hd Tryz.f240 3 qUb,
 nr Tryz.f240,
 kZ Tryz.f241 3 qUa,
 hd Tryz.f241 3 qUa,
 nr Tryz.f241,
 kZ Tryz.f249 2 qT9,
 hd Tryz.f249 2 qT9,
 nr Tryz.f249,
 kZ Tryz.f250 3 qT8,
 hd Tryz.f250 3 qT8,
 nr Tryz.f250,
 kZ Tryz.f227 2 qUe,
 hd Tryz.f227 2 qUe,
 nr Tryz.f227,
 kZ Tryz.f131 2 qUy,
 hd Tryz.f131 2 qUy,
 nr Tryz.f131,
 kZ Tryz.f167 3 qUp,
 hd Tryz.f167 3 qUp,
 nr Tryz.f167,
 kZ Tryz.f196 3 qUh,
 hd Tryz.f196 3 qUh,
 nr Tryz.f196,
 kZ Tryz.f82 2 qYC,
 hd Tryz.f82 2 qYC,
 nr Tryz.f82,
 kZ Tryz.f130 2 qUz,
 hd Tryz.f130 2 qUz,
 nr Tryz.f130) =
 (qM2,[],false,qMV,[],false,qNu,[(1,qNt)],false,qNq,[(1,qNp)],false,qM6,[],false,qM1,[],false,qM0,[(1,qMZ)],false,qMY,[],false,qMX,[],false,qMW,[],false,qM4,[],false,qNB,[],false,qNs,[(1,qNr)],false,qNb,[(1,qNa)],false,qTp,[(1,qTo)],false,qNG,[(1,qNF),(2,qNE),(3,qND),(4,qNC)],false):=by kernel_rfl
theorem zBS{ds:List D}{d:D}(x:ds.length=2)(h:qE EE (Holds EE) qVw 0 ds d):Holds EE 238 ds d:=
 hv Tryz.func238 rfl yO (jR) x h
theorem zBN{ds:List D}{d:D}(x:ds.length=2)(h:qE EE (Holds EE) qVr 0 ds d):Holds EE 253 ds d:=
 hv Tryz.func253 rfl (jN (jN (jN yO))) (jR) x h
theorem zB6{ds:List D}{d:D}(x:ds.length=2)(h:qE EE (Holds EE) qVy 0 ds d):Holds EE 166 ds d:=
 hv Tryz.func166 rfl (jN (jN (xG yO))) (xE rfl<|jR) x h
theorem zB4{ds:List D}{d:D}(x:ds.length=2)(h:qE EE (Holds EE) qHX 0 ds d):Holds EE 168 ds d:=
 hv Tryz.func168 rfl (jN (xG (xG yO))) (xE rfl<|jR) x h
theorem zBV{ds:List D}{d:D}(x:ds.length=4)(h:qE EE (Holds EE) qM5 0 ds d):Holds EE 223 ds d:=
 hv Tryz.func223 rfl (xG (xG (xG yO))) (jR) x h
theorem zBR{ds:List D}{d:D}(x:ds.length=2)(h:qE EE (Holds EE) qVv 0 ds d):Holds EE 239 ds d:=
 hv Tryz.func239 rfl (jN (jN (jN (xG (xG (xG yO)))))) (jR) x h
theorem zBQ{ds:List D}{d:D}(x:ds.length=3)(h:qE EE (Holds EE) qHS 0 ds d):Holds EE 240 ds d:=
 hv Tryz.func240 rfl (jN (jN (vX yO))) (xE rfl<|jR) x h
theorem zBP{ds:List D}{d:D}(x:ds.length=3)(h:qE EE (Holds EE) qVu 0 ds d):Holds EE 241 ds d:=
 hv Tryz.func241 rfl (jN (xG (vX yO))) (jR) x h
theorem zBO{ds:List D}{d:D}(x:ds.length=2)(h:qE EE (Holds EE) qVt 0 ds d):Holds EE 249 ds d:=
 hv Tryz.func249 rfl (xG (xG (vX yO))) (jR) x h
theorem qZd{ds:List D}{d:D}(x:ds.length=3)(h:qE EE (Holds EE) qVs 0 ds d):Holds EE 250 ds d:=
 hv Tryz.func250 rfl (jN (jN (jN (xG (xG (vX yO)))))) (jR) x h
theorem zBU{ds:List D}{d:D}(x:ds.length=2)(h:qE EE (Holds EE) qVx 0 ds d):Holds EE 227 ds d:=
 hv Tryz.func227 rfl (jN (jN (xG (xG (xG (vX yO)))))) (jR) x h
theorem qZi{ds:List D}{d:D}(x:ds.length=2)(h:qE EE (Holds EE) qNA 0 ds d):Holds EE 131 ds d:=
 hv Tryz.func131 rfl (jN (vX (vX yO))) (jR) x h
theorem zB5{ds:List D}{d:D}(x:ds.length=3)(h:qE EE (Holds EE) qHY 0 ds d):Holds EE 167 ds d:=
 hv Tryz.func167 rfl (xG (vX (vX yO))) (xE rfl<|jR) x h
theorem zBX{ds:List D}{d:D}(x:ds.length=3)(h:qE EE (Holds EE) qEN 0 ds d):Holds EE 196 ds d:=
 hv Tryz.func196 rfl (jN (jN (jN (xG (vX (vX yO)))))) (xE rfl<|jR) x h
theorem zFx{ds:List D}{d:D}(x:ds.length=2)(h:qE EE (Holds EE) qMQ 0 ds d):Holds EE 82 ds d:=
 hv Tryz.func82 rfl (jN (jN (xG (xG (vX (vX yO)))))) (xE rfl<|jR) x h
theorem zCa{ds:List D}{d:D}(x:ds.length=2)(h:qE EE (Holds EE) uE 0 ds d):Holds EE 130 ds d:=
 hu Tryz.func130 rfl ((pI (jN (xG (xG (xG (vX (vX yO))))))).1) ((pI (jN (jN (xG (xG (xG (vX (vX yO)))))))).1) ((jN (jN (jN (xG (xG (xG (vX (vX yO))))))))) (xE rfl<|xE rfl<|xE rfl<|xE rfl<|jR) x h
def aS:Nat->Pat
 |1000=>⟨[⟨.pure,true⟩,⟨.pure,true⟩,⟨.pure,true⟩,⟨.pure,false⟩,⟨.pure,true⟩,⟨.pure,true⟩,⟨.pure,false⟩,⟨.pure,true⟩],[(0,.yld 5),(2,.loc 4 0),(7,.v 0),(8,.v 1),(9,.v 2)],[some (.whole (.v 3) 3),some (.cells [.v 4]),some (.cells [.v 5]),some (.whole (.v 6) 3),some (.cells [.v 7]),some (.loop 0 0)],[[(5,.loc 1 0),(7,.loc 2 0)]]⟩
 |_=>⟨[],[],[none,none,none,none,none,none],[]⟩
def qM3:Tree:=
 jQ 3 0 <|
 qKN 2 <|
 jQ 3 3 <|
 qKN 1 <|
 zM 1 5 <|
 xL 7 <|
 .jump 1000 [.v 7,.v 8,k' 0,.v 3,.v 4,.c (.int .u32 0),.v 5,.v 6]
def qDI:Tree:=
 j8 .lss 9 8 2 1 <|
 zC 8 (
  wC 0 2 <|
  .bind (.elem 3 true 3 0) [.v 0,.v 2] <|
  jQ 3 10 <|
  zM 0 11 <|
  xS 253 [.v 7,.v 12] 1 <|
  zC 13 (
   jQ 3 11 <|
   zM 1 14 <|
   j8 .eql 14 15 15 4 <|
   zC 16 (
    zM 2 14 <|
    xS 238 [.v 5,.v 17] 1 <|
    vM .add 9 1 2 <|
    .jump 1000 [.v 0,.v 1,.v 19,.v 3,.v 4,.v 18,.v 6,.v 7]) (
    vM .add 9 1 2 <|
    .jump 1000 [.v 0,.v 1,.v 17,.v 3,.v 4,.v 5,.v 6,.v 7])) (
   vM .add 9 1 2 <|
   .jump 1000 [.v 0,.v 1,.v 14,.v 3,.v 4,.v 5,.v 6,.v 7])) (
  .ret [.v 5])
def qHT:Nat->Tree
 |0=>qM3
 |1000=>qDI
 |_=>.fail
noncomputable def qDJ:qFV:=[(252,Tryz.f252,vJ Tryz.f252),(248,Tryz.f248,vJ Tryz.f248)]
noncomputable def qAw:Nat->Nat:=λk=>bif Nat.ble 1000 k then Nat.max Tryz.f252.ntmps 3 else Nat.max Tryz.f237.ntmps 3
def aT:Nat->Pat
 |1000=>⟨[⟨.pure,true⟩,⟨.pure,true⟩,⟨.pure,true⟩,⟨.pure,true⟩],[(0,.yld 3),(1,.loc 1 0),(2,.loc 2 0),(8,.v 0),(9,.v 1)],[some (.cells [.c (.slice none 0 0)]),some (.cells [.v 2]),some (.cells [.v 3]),some (.loop 0 0)],[[(4,.loc 0 0)]]⟩
 |_=>⟨[],[],[none,none,none,none],[]⟩
def qNd:Tree:=
 qKN 0 <|
 qKN 1 <|
 xL 2 <|
 vM .add 7 1 4 <|
 .jump 1000 [.v 5,k' 0,.v 2,.v 3]
def qDK:Tree:=
 j8 .lss 9 8 1 0 <|
 zC 4 (
  xS 191 [.v 2,.v 3] 0 <|
  qAi 0 5 <|
  qAi 1 5 <|
  jQ 8 6 <|
  .bind (.un .not 4) [.v 7] <|
  zC 9 (
   .ret [.c (.slice none 0 0)]) (
   jQ 8 8 <|
   zM 5 10 <|
   xL 11 <|
   vM .gtr 12 0 12 <|
   zC 13 (
    zM 5 10 <|
    xS 220 [.v 14] 0 <|
    qKN 15 <|
    .ret [.v 16]) (
    zM 4 8 <|
    vM .eql 27 0 14 <|
    zC 15 (
     .ret [.c (.slice none 0 0)]) (
     zM 4 8 <|
     vM .add 9 1 1 <|
     .jump 1000 [.v 0,.v 17,.v 2,.v 16])))) (
  .ret [.c (.slice none 0 0)])
def qNc:Nat->Tree
 |0=>qNd
 |1000=>qDK
 |_=>.fail
noncomputable def qDL:qFV:=[(236,Tryz.f236,vJ Tryz.f236),(219,Tryz.f219,vJ Tryz.f219)]
noncomputable def qAx:Nat->Nat:=λk=>bif Nat.ble 1000 k then Nat.max Tryz.f236.ntmps 3 else Nat.max Tryz.f193.ntmps 2
theorem lW:(qAY EE (λk S=>jI (qAw k) (aS k) k S) (qFT EE qDJ none) (nL EE (λk S=>jI (qAw k) (aS k) k S) qDJ 252 (Nat.max Tryz.f237.ntmps 3) 5 1000) 1 (vJ Tryz.f237) (yL 3 (Nat.max Tryz.f237.ntmps 3)) (mK EE Tryz.f237.results.toList),
 j5 EE (λk=>(aS k).st (qAw k)) (λk S=>jI (qAw k) (aS k) k S) (qFT EE qDJ none) (nL EE (λk S=>jI (qAw k) (aS k) k S) qDJ 252 (Nat.max Tryz.f237.ntmps 3) 5 1000) (qBW EE (λk=>(aS k).st (qAw k)) (λk S=>jI (qAw k) (aS k) k S) qDJ (vJ Tryz.f252) (Nat.max Tryz.f237.ntmps 3) 5 1000) 1 (vJ Tryz.f237) (mK EE Tryz.f237.results.toList),
 nr Tryz.f237,
 qAY EE (λk S=>jI (qAx k) (aT k) k S) (qFT EE qDL none) (nL EE (λk S=>jI (qAx k) (aT k) k S) qDL 236 (Nat.max Tryz.f193.ntmps 2) 3 1000) 1 (vJ Tryz.f193) (yL 2 (Nat.max Tryz.f193.ntmps 2)) (mK EE Tryz.f193.results.toList),
 j5 EE (λk=>(aT k).st (qAx k)) (λk S=>jI (qAx k) (aT k) k S) (qFT EE qDL none) (nL EE (λk S=>jI (qAx k) (aT k) k S) qDL 236 (Nat.max Tryz.f193.ntmps 2) 3 1000) (qBW EE (λk=>(aT k).st (qAx k)) (λk S=>jI (qAx k) (aT k) k S) qDL (vJ Tryz.f236) (Nat.max Tryz.f193.ntmps 2) 3 1000) 1 (vJ Tryz.f193) (mK EE Tryz.f193.results.toList),
 nr Tryz.f193,
 nr Tryz.f252,
 nr Tryz.f248,
 nr Tryz.f236,
 nr Tryz.f219) =
 (qM3,[(1000,qDI)],false,qNd,[(1000,qDK)],false,false,false,false,false):=by kernel_rfl
theorem zBT{ds:List D}{d:D}(x:ds.length=3)(h:qE EE (Holds EE) qHT 0 ds d):Holds EE 237 ds d:=
 uX (I:=qDJ) (pats:=aS) (szs:=qAw) (L:=5) (G:=252) (fnG:=Tryz.f252) (cdG:=vJ Tryz.f252) he (.cons (yE (c:=vJ Tryz.f252) Tryz.func252 rfl ((pI (jN (jN (xG lW)))).1)) rfl <| .cons (yE (c:=vJ Tryz.f248) Tryz.func248 rfl ((pI (jN (jN (jN (xG lW))))).1)) rfl <| .nil) (yE (c:=vJ Tryz.f237) Tryz.func237 rfl ((pI (jN (jN lW))).1)) (c:=vJ Tryz.f237) rfl x rfl ((pI lW).1) (by rw[(pI (jN lW)).1];exact xE rfl<|jR) (λk y=>by unfold aS;split<;>first|decide|omega) h
theorem zBY{ds:List D}{d:D}(x:ds.length=2)(h:qE EE (Holds EE) qNc 0 ds d):Holds EE 193 ds d:=
 uX (I:=qDL) (pats:=aT) (szs:=qAx) (L:=3) (G:=236) (fnG:=Tryz.f236) (cdG:=vJ Tryz.f236) he (.cons (yE (c:=vJ Tryz.f236) Tryz.func236 rfl ((pI (xG (xG lW))).1)) rfl <| .cons (yE (c:=vJ Tryz.f219) Tryz.func219 rfl ((jN (xG (xG lW))))) rfl <| .nil) (yE (c:=vJ Tryz.f193) Tryz.func193 rfl ((pI (jN (xG lW))).1)) (c:=vJ Tryz.f193) rfl x rfl ((pI (jN (jN (jN lW)))).1) (by rw[(pI (xG lW)).1];exact xE rfl<|jR) (λk y=>by unfold aT;split<;>first|decide|omega) h
attribute [local irreducible] Go.Am.wp
abbrev dU(n:Int):D:=.leaf (.int .u32 n)
def zEP(q:Int):Nat:=Nat.min (IntKind.u64.wrap q).toNat 32
def zA9(a b:Int):Int:=IntKind.u32.wrap ((BitVec.ofInt 32 a&&&BitVec.ofInt 32 b).toNat:Int)
def zET(a b:Int):Int:=IntKind.u32.wrap ((BitVec.ofInt 32 a|||BitVec.ofInt 32 b).toNat:Int)
def zC3(m q:Int):Bool:=decide (zA9 (m.fdiv (2^zEP q)) 1=1)
def qMF(m q:Int):Int:=zET m (IntKind.u32.wrap (1*2^zEP q))
theorem qJu(q:Int):¬(IntKind.u64.wrap q<0):=by
 have h:IntKind.u64.wrap q=q%18446744073709551616:=by simp[IntKind.wrap,IntKind.signed,IntKind.bits]
 rw[h];have:=Int.emod_nonneg q (b:=18446744073709551616) (by decide);omega
theorem qQi(q:Int):TOp.eval EE (.conv 3 158) [dI q]=some (.leaf (.int .u64 (IntKind.u64.wrap q))):=by kernel_rfl
theorem qXg(m s:Int)(h:¬s<0){x y:Operand}:TOp.eval EE (.bin .shr 279 x y) [dU m,.leaf (.int .u64 s)]=some (dU (m.fdiv (2^Nat.min s.toNat 32))):=by have e:oL EE .shr 279 x y (.int .u32 m) (.int .u64 s)=flat? (qT EE.prog (Op.shift .shr .u32 m .u64 s)):=rfl;rw[mA];show lE (oL EE .shr 279 x y (.int .u32 m) (.int .u64 s))=_;rw[e,Op.shift,if_neg h];rfl
theorem qXh(m s:Int)(h:¬s<0){x y:Operand}:TOp.eval EE (.bin .shl 279 x y) [dU m,.leaf (.int .u64 s)]=some (dU (IntKind.u32.wrap (m*2^Nat.min s.toNat 32))):=by have e:oL EE .shl 279 x y (.int .u32 m) (.int .u64 s)=flat? (qT EE.prog (Op.shift .shl .u32 m .u64 s)):=rfl;rw[mA];show lE (oL EE .shl 279 x y (.int .u32 m) (.int .u64 s))=_;rw[e,Op.shift,if_neg h];rfl
theorem qXn(a b:Int){x y:Operand}:TOp.eval EE (.bin .and 279 x y) [dU a,dU b]=some (dU (zA9 a b)):=by rw[mA];rfl
theorem zAr(a b:Int){x y:Operand}:TOp.eval EE (.bin .or 279 x y) [dU a,dU b]=some (dU (zET a b)):=by rw[mA];rfl
theorem zDb(m q:Int):Holds EE 253 [dU m,dI q] (dB (zC3 m q)):=by refine zBN rfl (qE.step' ?_);refine bS (qQi q) ?_;refine bS (qXg m _ (qJu q)) ?_;refine bS (qXn _ _) ?_;refine bS jO ?_;exact qF rfl rfl
theorem qW8(m q:Int):Holds EE 238 [dU m,dI q] (dU (qMF m q)):=by refine zBS rfl (qE.step' ?_);refine bS (qQi q) ?_;refine bS (qXh 1 _ (qJu q)) ?_;refine bS (zAr _ _) ?_;exact qF rfl rfl
end Go.Proofs.YtpbmnkajhedaiaaGreat
namespace Go.Proofs.YtpbmnkajhedaiaaGreat.Hs
open Go Go.Am Go.Proofs Go.Am.Tt
def n0:Sn:=(.st [(.int .i64),(.sl 3 1 1048576 (.int .i64)),(.int .i64),(.sl 31 1 1048576 (.sl 3 1 1048576 (.int .i64))),(.int .i64),(.sl 114 2 1048576 (.st [(.str 1048576),(.str 1048576)])),(.sl 179 2 1048576 (.st [(.int .i64),(.int .i64)])),(.sl 50 2 1048576 (.st [(.int .i64),(.int .i64)]))])
def n1:Sn:=(.ptr [(.int .i64)])
def n2:Sn:=(.sl 119 8 1048576 (.st [(.int .i64),(.sl 3 1 1048576 (.int .i64)),(.int .i64),(.sl 31 1 1048576 (.sl 3 1 1048576 (.int .i64))),(.int .i64),(.sl 114 2 1048576 (.st [(.str 1048576),(.str 1048576)])),(.sl 179 2 1048576 (.st [(.int .i64),(.int .i64)])),(.sl 50 2 1048576 (.st [(.int .i64),(.int .i64)]))]))
def n3:Sn:=(.clo 217 [] [(.ptr [(.int .i64)])])
def n4:Sn:=(.sl 31 1 BG (.sl 3 1 1048576 (.int .i64)))
def n5:Sn:=(.st [(.sl 108 2 1048576 (.st [(.str 1048576),(.int .i64)])),(.str 1048576),(.sl 110 2 1048576 (.st [(.str 1048576),(.sl 3 1 1048576 (.int .i64))])),(.sl 172 1 1048576 (.sl 9 1 1048576 (.str 1048576))),(.sl 89 6 1048576 (.st [(.sl 3 1 1048576 (.int .i64)),(.sl 3 1 1048576 (.int .i64)),(.sl 295 2 1048576 (.st [(.int .i64),(.int .i64)])),(.sl 295 2 1048576 (.st [(.int .i64),(.int .i64)])),.bool,.bool])),(.int .i64),(.sl 112 3 1048576 (.st [(.int .i64),(.int .i64),(.int .i64)])),(.sl 3 1 1048576 (.int .i64)),(.sl 119 8 1048576 (.st [(.int .i64),(.sl 3 1 1048576 (.int .i64)),(.int .i64),(.sl 31 1 1048576 (.sl 3 1 1048576 (.int .i64))),(.int .i64),(.sl 114 2 1048576 (.st [(.str 1048576),(.str 1048576)])),(.sl 179 2 1048576 (.st [(.int .i64),(.int .i64)])),(.sl 50 2 1048576 (.st [(.int .i64),(.int .i64)]))]))])
def n6:Sn:=(.st [(.int .i64),(.int .i64),(.int .i64)])
def n7:Sn:=(.sl 3 1 1048576 (.int .i64))
def n8:Sn:=(.sl 114 2 1048576 (.st [(.str 1048576),(.str 1048576)]))
def n9:Sn:=(.sl 3 1 BG (.int .i64))
def n10:Sn:=(.st [(.sl 108 2 1048576 (.st [(.str 1048576),(.int .i64)]))])
def qRg:List (Nat×Sn):=[(31,n7),(114,(.st [(.str 1048576),(.str 1048576)]))]
def qKE:List (TypeId×TypeId×IntKind×IntKind):=[]
def qJR:List (Bool×TypeId×Int):=[]
def qJD:List (Nat×(Nat×List Sn)):=[]
def qWC:List (Nat×(Option IntKind×Sn)):=[]
theorem cN:∀x∈qKE,qJs EE x:=eL
theorem b9:∀x∈qJR,qJo EE x:=eL
theorem bU:∀x∈qJD,qFP EE x:=eL
def TT:Tb:=qX7 qRg qKE qJR qJD qWC
theorem TT_ok:TbOk EE TT:=qBB cN b9 bU (by kernel_rfl)
def zDq:En:=⟨217,[],⟨[n0,n1],[.bool],[],[]⟩,[],[sC 1001]⟩
def p0:List (Nat×Pat):=[(1,⟨[⟨.pure,false⟩,⟨.pure,false⟩,⟨.pure,true⟩,⟨.pure,true⟩],[(0,.v 0),(1,.v 1),(7,.v 2),(8,.v 3)],[],[]⟩)]
def zDr:En:=⟨216,p0,⟨[n2,n3],[(.int .i64)],[],[(.z,aA 2,1),(aA 2,aA 0,-1)]⟩,[(1,⟨[n2,n3,(.int .i64),(.int .i64)],[(aA 2,aA 0,0),(aA 4,aA 2,0),(.z,aA 5,0)],[sC 999,cC 5,sC 1001]⟩)],[sC 1001,sC 0,sC 0]⟩
def e191:En:=⟨191,[],⟨[n2,(.int .i64)],[n0,.bool],[],[]⟩,[],[sC 1001]⟩
def qSE:En:=⟨218,[],⟨[n0],[n4],[],[(aA 1,.aT [0,3],1)]⟩,[],[sC 1001]⟩
def e192:En:=⟨192,[],⟨[n5,n6],[n0,n7,.bool],[],[]⟩,[],[sC 1001]⟩
def e220:En:=⟨220,[],⟨[n8],[n8],[],[(aA 1,aA 0,0)]⟩,[],[sC 1001]⟩
def e224:En:=⟨224,p0,⟨[n9,(.int .i64)],[(.int .i64)],[],[(.z,aA 2,1),(aA 2,aA 0,-1)]⟩,[(1,⟨[n9,(.int .i64),(.int .i64),(.int .i64)],[(aA 4,aA 2,0),(aA 4,aA 0,0),(.z,aA 5,0)],[sC 999,cC 5,sC 1001]⟩)],[sC 1001,sC 0,sC 0]⟩
def zDm:En:=⟨249,[],⟨[n9,(.int .i64)],[.bool],[],[]⟩,[],[sC 1001]⟩
def zDn:En:=⟨239,[],⟨[n9,(.int .i64)],[.bool],[],[]⟩,[],[sC 1001]⟩
def qSD:En:=⟨227,[],⟨[n10,(.int .i64)],[.bool],[],[]⟩,[],[sC 1001]⟩
def hand:aG:=[]
def items:List It:=[.fn zDq,.fn zDr,.fn e191,.fn qSE,.fn e192,.fn e220,.fn e224,.fn zDm,.fn zDn,.fn qSD]
theorem okI:oJ EE Tryz.prog TT hand [] items=true:=by kernel_rfl
theorem tab:∀p∈gO hand items,xZ (Holds EE) p.1 p.2:=(bP he (bK qIf) TT_ok (λ_ h=>by cases h) (λ_ h=>by cases h) okI).1
end Go.Proofs.YtpbmnkajhedaiaaGreat.Hs
namespace Go.Proofs.YtpbmnkajhedaiaaGreat
open Go Go.Am Go.Proofs Go.Am.Tt
mutual
def qGx(B:Nat):Sn->Bool
 |.int _=>true
 |.bool=>true
 |.str n=>Nat.ble n B
 |.st fs=>qFl B fs
 |.sl _ _ n e=>Nat.ble n B&&qGx B e
 |.wh s _=>qGx B s
 |_=>false
def qFl(B:Nat):List Sn->Bool
 | []=>true
 |s::r=>qGx B s&&qFl B r
end
mutual
theorem zA{B:Nat}:∀{s:Sn} {d:D},qGx B s=true->qM s d->qC B s.sh d
 |.int k,d,_,h=>by simp only[qM]at h;simp only[Sn.sh,qC];exact h
 |.bool,d,_,h=>by simp only[qM]at h;simp only[Sn.sh,qC];exact h
 |.str n,d,y,h=>by simp only[qM]at h;simp only[Sn.sh,qC];obtain⟨s,hs,hn⟩:=h;exact⟨s,hs,lT hn (oK y)⟩
 |.st fs,d,y,h=>by simp only[qM]at h;simp only[Sn.sh,qC];obtain⟨cs,hd,h⟩:=h;exact⟨cs,hd,qCt y h⟩
 |.sl el sz n e,d,y,h=>by
  simp only[qGx,zR]at y;simp only[qM]at h;simp only[Sn.sh,qC];rcases h with h|⟨es,hd,hn,c⟩
  ·exact .inl h
  exact .inr ⟨es,hd,lT hn (oK y.1),λx b=>zA y.2 (c x b)⟩
 |.wh s q,d,y,h=>by simp only[qM]at h;exact(show qC B s.sh d from zA (s:=s) y h.1)
 |.any,d,y,h=>by cases y
 |.ptr _,d,y,h=>by cases y
 |.clo _ _ _,d,y,h=>by cases y
 |.mp _ _,d,y,h=>by cases y
theorem qCt{B:Nat}:∀{ss:List Sn} {ds:List D},qFl B ss=true->qU ss ds->j4 B (Sn.shs ss) ds
 | [],ds,_,h=>by simp only[qU]at h;simp only[Sn.shs,j4];exact h
 |s::r,ds,x,h=>by simp only[qFl,zR]at x;simp only[qU]at h;simp only[Sn.shs,j4];obtain⟨d,y,hd,c,b⟩:=h;exact⟨d,y,hd,zA x.1 c,qCt x.2 b⟩
end
theorem qH8{B el sz:Nat}{e:Sh}{d:D}(h:qC B (.sl el sz e) d):kF d=(d.es.length:Int):=by simp only[qC]at h;rcases h with rfl|⟨es,rfl,_⟩<;>rfl
abbrev mL:Sh:=.sl 3 1 (.int .i64)
abbrev zEe:Sh:=.st [.int .i64,.sl 3 1 (.int .i64),.int .i64,.sl 31 1 (.sl 3 1 (.int .i64)),.int .i64,.sl 114 2 (.st [.str,.str]),.sl 179 2 (.st [.int .i64,.int .i64]),.sl 50 2 (.st [.int .i64,.int .i64])]
abbrev qBr:Sh:=.sl 121 3 (.st [.int .i64,.int .i64,.int .i64])
abbrev qS8:Sh:=.sl 112 3 (.st [.int .i64,.int .i64,.int .i64])
abbrev qYf:Sh:=.sl 114 2 (.st [.str,.str])
abbrev qDE:Sh:=.sl 108 2 (.st [.str,.int .i64])
abbrev qTa:Sh:=.sl 295 2 (.st [.int .i64,.int .i64])
abbrev zBf:Sh:=.st [mL,mL,qTa,qTa,.bool,.bool]
abbrev qAs:Sh:=.sl 119 8 zEe
abbrev qHG:Sh:=.sl 89 6 zBf
abbrev qQQ:Sh:=.sl 110 2 (.st [.str,mL])
abbrev qS9:Sh:=.sl 172 1 (.sl 9 1 .str)
abbrev lY:Sh:=.st [qDE,.str,qQQ,qS9,qHG,.int .i64,qS8,mL,qAs]
theorem mo{s:Sh}{d:D}(h:qC 1048576 s d):qC 300000000 s d:=rS (by decide) h
theorem xN{i n:Nat}(h:decide (((i:Nat):Int)<((n:Nat):Int))=true):i<n:=by have:=dT h;omega
theorem wJ{i n:Nat}(h:decide (((i:Nat):Int)<((n:Nat):Int))=false):¬i<n:=by have:=dF h;omega
attribute [local irreducible] Go.Am.wp Go.Am.TOp.eval
theorem qYj{n ws fs:D}{m k:Int}(u:n.one=true)(l:qC 300000000 qS8 ws)(w:fs.one=true):∃r:Int,Holds EE 237 [.agg [n,ws,fs],dU m,dI k] (dU r):=by
 have x:=qA l;have o:ws.es.length<=300000000:=qO l;have b:∀i:Nat,∀q:Int,∃d,(∃r:Int,d=dU r)/\qE EE (Holds EE) qHT 1000 [ws,dI ((ws.es.length:Nat):Int),dI ((i:Nat):Int),.agg [n,ws,fs],dI k,dU q,.agg [n,ws,fs],dU m] d:=by
  refine vD (P:=λi:Nat=>∀q:Int,∃d,(∃r:Int,d=dU r)/\qE EE (Holds EE) qHT 1000 [ws,dI ((ws.es.length:Nat):Int),dI ((i:Nat):Int),.agg [n,ws,fs],dI k,dU q,.agg [n,ws,fs],dU m] d) ws.es.length (λi j q=>zS (R:=λd=>∃r:Int,d=dU r) ?_);refine bS qP ?_;refine iC (λc=>?_) λc=>?_
  ·have g:=xN c;have y:=List.getElem?_eq_getElem g;obtain⟨_,p,_,_,rfl,⟨f,rfl⟩,_,_,rfl,⟨c0,rfl⟩,_,_,rfl,⟨t,rfl⟩,rfl⟩:=zO l y;rw[p]at y;refine bS (qV (s:=((i:Nat):Int)) (by omega) y) ?_;refine bS (zU (s:=((i:Nat):Int)) x (by omega) y rfl) ?_;refine bS (qD rfl) ?_;refine bS (qB (off:=0) rfl rfl) ?_;refine cS (zDb m f) ?_;refine iC (λd=>?_) λd=>?_
   ·skip;refine bS (qD rfl) ?_;refine bS (qB (off:=1) rfl rfl) ?_;refine bS jO ?_;refine iC (λe=>?_) λe=>?_
    ·skip;refine bS (qB (off:=2) rfl rfl) ?_;refine cS (qW8 _ t) ?_;refine bS (d:=dI ((i+1:Nat):Int)) (qY (qN (by omega))) ?_;exact qQ rfl (j g _)
    refine bS (d:=dI ((i+1:Nat):Int)) (qY (qN (by omega))) ?_;exact qQ rfl (j g _)
   refine bS (d:=dI ((i+1:Nat):Int)) (qY (qN (by omega))) ?_;exact qQ rfl (j g _)
  exact qR rfl ⟨_,rfl⟩
 obtain⟨_,⟨r,rfl⟩,h⟩:=b 0 0;refine⟨r,zBT rfl (qE.step' ?_)⟩;refine bS (qD rfl) ?_;refine bS (xI rfl) ?_;refine bS (qD rfl) ?_;refine bS (xI rfl) ?_;refine bS (qB (off:=1) rfl x.one) ?_;refine bS (qI x) ?_;exact qS rfl h
theorem mJ{f:FuncId}{S:Tt.Spec}(h:gB (gO Hs.hand Hs.items) f=some S):xZ (Holds EE) f S:=k9 Hs.tab h
theorem zAd:xZ (Holds EE) 191 Hs.e191.S:=mJ (by kernel_rfl)
theorem zAc:xZ (Holds EE) 192 Hs.e192.S:=mJ (by kernel_rfl)
theorem zAb:xZ (Holds EE) 220 Hs.e220.S:=mJ (by kernel_rfl)
theorem zAa:xZ (Holds EE) 224 Hs.e224.S:=mJ (by kernel_rfl)
theorem zCZ{l:D}{id:Int}(y:qC 1048576 qAs l):∃e,∃b:Bool,qC 1048576 zEe e/\Holds EE 191 [l,dI id] (.tup [e,dB b]):=by obtain⟨g,h,_,c⟩:=zAd [l,dI id] (by simp only[Hs.e191,qU];exact⟨_,_,rfl,vY (B:=1048576) rfl y,_,_,rfl,⟨_,rfl⟩,rfl⟩) (λq x=>by cases x);simp only[Hs.e191,qU]at h;obtain⟨e,_,rfl,he,_,_,rfl,⟨b,rfl⟩,rfl⟩:=h;exact⟨e,b,zA rfl he,c⟩
theorem zCX{x:D}(h:qC 1048576 qYf x):∃y,qC 1048576 qYf y/\Holds EE 220 [x] y:=by obtain⟨i,b,_,g⟩:=zAb [x] (by simp only[Hs.e220,qU];exact⟨_,_,rfl,vY (B:=1048576) rfl h,rfl⟩) (λq c=>by cases c);simp only[Hs.e220,qU]at b;obtain⟨e,_,rfl,he,rfl⟩:=b;exact⟨e,zA rfl he,g⟩
theorem zCY{g:List D}{a b c:Int}(i:qC 1048576 lY (.agg g)):∃e w,∃t:Bool,qC 1048576 zEe e/\qC 1048576 mL w/\Holds EE 192 [.agg g,.agg [dI a,dI b,dI c]] (.tup [e,w,dB t]):=by obtain⟨k,h,_,j⟩:=zAc [.agg g,.agg [dI a,dI b,dI c]] (by simp only[Hs.e192,qU];exact⟨_,_,rfl,vY (B:=1048576) rfl i,_,_,rfl,⟨_,rfl,_,_,rfl,⟨_,rfl⟩,_,_,rfl,⟨_,rfl⟩,_,_,rfl,⟨_,rfl⟩,rfl⟩,rfl⟩) (λq y=>by cases y);simp only[Hs.e192,qU]at h;obtain⟨e,_,rfl,he,w,_,rfl,x,_,_,rfl,⟨b,rfl⟩,rfl⟩:=h;exact⟨e,w,b,zA rfl he,zA rfl x,j⟩
theorem qN4{l:D}(j:qC 1048576 qAs l):∀(n i:Nat) (id:Int),i+n=l.es.length+1->∃d,qC 1048576 qYf d/\qE EE (Holds EE) qNc 1000 [dI ((l.es.length+1:Nat):Int),dI ((i:Nat):Int),l,dI id] d:=by
 have B:=qA j;have I:l.es.length<=1048576:=qO j;intro n;induction n with
 |zero=>
  intro i id C;refine zS (R:=qC 1048576 qYf) ?_;refine bS qP ?_;refine iC (λc=>?_) λc=>?_
  ·have:=xN c;omega
  exact qR rfl xR
 | succ n A=>
  intro i id C;refine zS (R:=qC 1048576 qYf) ?_;obtain⟨e,b,he,k⟩:=zCZ (id:=id) j;obtain⟨_,rfl,_,_,rfl,⟨P,rfl⟩,O,_,rfl,H,_,_,rfl,⟨N,rfl⟩,M,_,rfl,G,_,_,rfl,⟨w,rfl⟩,L,_,rfl,u,K,_,rfl,F,J,_,rfl,E,rfl⟩:=he;have r:=qA H;have q:=qA G;have h:=qA u;have p:=qA F;have o:=qA E;obtain⟨y,t,z⟩:=zCX u;have x:=qA t;refine bS qP ?_;refine iC (λc=>?_) λc=>?_
  ·skip;refine cS k ?_;refine bS (vV rfl) ?_;refine bS (vV rfl) ?_;refine bS (qD rfl) ?_;refine bS jU ?_;refine iC (λg=>?_) λg=>?_
   ·exact qR rfl xR
   refine bS (qD rfl) ?_;refine bS (qB (off:=5) rfl h.one) ?_;refine bS (qI h) ?_;refine bS zW ?_;refine iC (λd=>?_) λd=>?_
   ·skip;refine bS (qB (off:=5) rfl h.one) ?_;refine cS z ?_;refine bS (xI x.one) ?_;exact qR rfl t
   refine bS (qB (off:=4) rfl rfl) ?_;refine bS jO ?_;refine iC (λf=>?_) λf=>?_
   ·exact qR rfl xR
   refine bS (qB (off:=4) rfl rfl) ?_;refine bS (d:=dI ((i+1:Nat):Int)) (qY (qN (by omega))) ?_;exact qQ rfl (A (i+1) w (by omega))
  exact qR rfl xR
theorem qYl{l:D}{id:Int}(y:qC 1048576 qAs l):∃v,qC 1048576 qYf v/\Holds EE 193 [l,dI id] v:=by have x:=qA y;have b:l.es.length<=1048576:=qO y;obtain⟨v,hv,h⟩:=qN4 y (l.es.length+1) 0 id (by omega);refine⟨v,hv,zBY rfl (qE.step' ?_)⟩;refine bS (xI x.one) ?_;refine bS (xI rfl) ?_;refine bS (qI x) ?_;refine bS (d:=dI ((l.es.length+1:Nat):Int)) (qY (qN (by omega))) ?_;exact qS rfl h
theorem zEa{os:List D}{w:D}(x:qC 300000000 mL w)(h:os.length+w.es.length<=300000000):TOp.eval EE (.app 3 1 8) [zF 3 1 os,w]=some (zF 3 1 (os++w.es)):=eK x (by decide) h
theorem qVf{g:List D}{ps:D}(G:g.length=9)(I:qC 1048576 lY (.agg g))(B:qC 300000000 qBr ps)(X:ps.es.length<=4):∃v,qC 300000000 mL v/\Holds EE 168 [.agg g,.agg [ps]] v:=by
 have x:=qA B;have r:∀i:Nat,i<=ps.es.length->∀os:List D,os.length<=i*1048576->(∀y∈os,∃q:Int,y=dI q)->∃d,qC 300000000 mL d/\qE EE (Holds EE) qHX 1 [zF 3 1 os,ps,dI ((ps.es.length:Nat):Int),dI ((i:Nat):Int),.agg g] d:=by
  refine vD (P:=λi:Nat=>i<=ps.es.length->∀os:List D,os.length<=i*1048576->(∀y∈os,∃q:Int,y=dI q)->∃d,qC 300000000 mL d/\qE EE (Holds EE) qHX 1 [zF 3 1 os,ps,dI ((ps.es.length:Nat):Int),dI ((i:Nat):Int),.agg g] d) ps.es.length (λi A Z os F z=>zS (R:=qC 300000000 mL) ?_);refine bS qP ?_;refine iC (λc=>?_) λc=>?_
  ·have l:=xN c;have o:=List.getElem?_eq_getElem l;obtain⟨_,E,_,_,rfl,⟨a,rfl⟩,_,_,rfl,⟨b,rfl⟩,_,_,rfl,⟨c0,rfl⟩,rfl⟩:=zO B o;rw[E]at o;obtain⟨e,w,t,he,u,k⟩:=zCY (a:=a) (b:=b) (c:=c0) I;have C:=qA u;have J:w.es.length<=1048576:=qO u;obtain⟨_,rfl,_,_,rfl,⟨V,rfl⟩,U,_,rfl,h1,_,_,rfl,⟨S,rfl⟩,Q,_,rfl,h3,_,_,rfl,⟨O,rfl⟩,N,_,rfl,h5,M,_,rfl,h6,L,_,rfl,h7,rfl⟩:=he;have K:=zEa (os:=os) (w:=w) (mo u) (by omega);refine bS (qV (s:=((i:Nat):Int)) (by omega) o) ?_;refine bS (zU (s:=((i:Nat):Int)) x (by omega) o rfl) ?_;refine bS (qD rfl) ?_;refine cS k ?_;refine bS (vV rfl) ?_;refine bS (vV rfl) ?_;refine bS (vV rfl) ?_;refine bS (qD rfl) ?_;refine iC (λd=>?_) λd=>?_
   ·skip;refine bS K ?_;refine bS (d:=dI ((i+1:Nat):Int)) (qY (qN (by omega))) ?_;refine qQ rfl (A l l _ (by rw[List.length_append];omega) λy p=>?_);rcases List.mem_append.1 p with p|p
    ·exact z y p
    obtain⟨j,H⟩:=List.getElem?_of_mem p;exact zO u H
   refine bS (d:=dI ((i+1:Nat):Int)) (qY (qN (by omega))) ?_;exact qQ rfl (A l l os (lT F (Nat.mul_le_mul_right _ (Nat.le_succ i))) z)
  have W:i*1048576<=4*1048576:=Nat.mul_le_mul_right _ (by omega);exact qR rfl (nN (by omega) z)
 obtain⟨v,hv,h⟩:=r 0 (Nat.zero_le _) [] (Nat.zero_le _) (λy p=>by cases p);refine⟨v,hv,zB4 rfl (qE.step' ?_)⟩;refine bS (qD G) ?_;refine bS (qD rfl) ?_;refine bS (qB (off:=0) rfl x.one) ?_;refine bS (qI x) ?_;exact qS rfl h
end Go.Proofs.YtpbmnkajhedaiaaGreat
