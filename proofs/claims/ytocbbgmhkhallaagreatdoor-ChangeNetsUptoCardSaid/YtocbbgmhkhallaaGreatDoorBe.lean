/- Trees of functions. Conditions: none. -/
import Derived.Test.YtocbbgmhkhallaaGreatDoorBb
import Derived.Test.YtocbbgmhkhallaaGreatDoorSx6
set_option linter.unusedVariables false
set_option linter.unusedSimpArgs false
namespace Go.Proofs.YtocbbgmhkhallaaGreatDoor
open Go Go.Am Go.Proofs
def qUw:Nat->Pat
 |1=>⟨[⟨.pure,false⟩,⟨.pure,false⟩,⟨.pure,true⟩,⟨.pure,true⟩,⟨.pure,false⟩],[(2,.v 0),(3,.loc 0 0),(9,.v 1),(10,.v 2),(11,.v 3)],[some (.whole (.v 4) 1)],[]⟩
 |_=>⟨[],[],[],[]⟩
def qNw:Tree:=
 xV 1 0 <|
 jT 1 <|
 .jump 1 [.v 2,.v 1,.v 4,k' 0,.v 3]
def qNv:Tree:=
 j4 .lss 11 10 3 2 <|
 zO 5 (
  wG 1 3 <|
  .bind (.elem 6 true 6 0) [.v 1,.v 3] <|
  xV 6 7 <|
  wM 188 [.v 4,.v 8,.v 0] 0 <|
  jP .add 11 1 3 <|
  .jump 1 [.v 9,.v 1,.v 2,.v 10,.v 4]) (
  .ret [.v 0])
def qAb:LV
 |0=>qNw
 |1=>qNv
 |_=>.fail
def qUu:Nat->Pat
 |1=>⟨[⟨.pure,false⟩,⟨.fresh,true⟩,⟨.pure,true⟩,⟨.pure,true⟩,⟨.pure,false⟩,⟨.pure,false⟩],[(2,.v 0),(3,.loc 0 0),(4,.loc 1 0),(7,.v 1),(10,.v 0),(11,.v 2),(12,.v 3)],[some (.whole (.v 4) 1),some (.whole (.v 5) 6)],[]⟩
 |_=>⟨[],[],[],[]⟩
def qNu:Tree:=
 xV 1 0 <|
 xV 6 1 <|
 jT 2 <|
 .jump 1 [.v 2,.c (.slice none 0 0),.v 5,k' 0,.v 3,.v 4]
def qNt:Tree:=
 j4 .lss 12 11 3 2 <|
 zO 6 (
  wG 0 3 <|
  vC 1 0 0 3 <|
  wM 207 [.v 4,.v 5,.v 0,.v 3] 1 <|
  zO 9 (
   vA 1 5 <|
   vA 0 5 <|
   wM 208 [.v 11,.v 8] 1 <|
   wG 10 12 <|
   vC 1 0 10 12 <|
   jP .eql 30 0 14 <|
   zO 15 (
    jP .add 12 1 3 <|
    .jump 1 [.v 0,.v 1,.v 2,.v 16,.v 4,.v 5]) (
    qGE 14 <|
    .bind (.lit 3 1) [.v 14] <|
    .bind (.app 3 1 8) [.v 1,.v 17] <|
    jP .add 12 1 3 <|
    .jump 1 [.v 0,.v 18,.v 2,.v 19,.v 4,.v 5])) (
   qGE 8 <|
   .bind (.lit 3 1) [.v 8] <|
   .bind (.app 3 1 8) [.v 1,.v 11] <|
   jP .add 12 1 3 <|
   .jump 1 [.v 0,.v 12,.v 2,.v 13,.v 4,.v 5])) (
  .ret [.v 1])
def i9:LV
 |0=>qNu
 |1=>qNt
 |_=>.fail
def qUt:Nat->Pat
 |_=>⟨[],[],[],[]⟩
def qNs:Tree:=
 xV 1 0 <|
 xV 6 1 <|
 vA 2 5 <|
 jT 6 <|
 j4 .sub 11 14 3 7 <|
 jP .add 16 1 3 <|
 vA 3 5 <|
 jT 10 <|
 j4 .add 17 20 9 11 <|
 vA 0 5 <|
 wG 2 3 <|
 vC 1 0 2 3 <|
 wM 218 [.v 13,.v 15] 1 <|
 .bind (.un .not 4) [.v 16] <|
 zO 17 (
  xP false) (
  jP .lss 31 0 8 <|
  zO 18 (
   xP false) (
   jT 2 <|
   j4 .gtr 35 37 12 19 <|
   zO 20 (
    xP false) (
    vA 4 5 <|
    zO 21 (
     jP .gtr 44 0 8 <|
     zO 22 (
      xP false) (
      vA 5 5 <|
      zO 23 (
       jT 2 <|
       j4 .lss 52 54 12 24 <|
       zO 25 (
        xP false) (
        vA 2 5 <|
        xV 1 4 <|
        vA 0 27 <|
        .bind (.lu 3 1 true true) [.v 2,.v 8,.v 3] <|
        .call (.fn 219) [.fn (.func 220) [] [],.agg [.v 28,.v 26],.v 29] 1 <|
        zO 30 (
         vA 3 5 <|
         xV 1 4 <|
         vA 0 32 <|
         jP .add 73 1 3 <|
         .bind (.lu 3 1 true true) [.v 2,.v 34,.v 12] <|
         .call (.fn 219) [.fn (.func 220) [] [],.agg [.v 33,.v 31],.v 35] 1 <|
         .ret [.v 36]) (
         xP false))) (
       vA 2 5 <|
       xV 1 4 <|
       vA 0 25 <|
       .bind (.lu 3 1 true true) [.v 2,.v 8,.v 3] <|
       .call (.fn 219) [.fn (.func 220) [] [],.agg [.v 26,.v 24],.v 27] 1 <|
       zO 28 (
        vA 3 5 <|
        xV 1 4 <|
        vA 0 30 <|
        jP .add 73 1 3 <|
        .bind (.lu 3 1 true true) [.v 2,.v 32,.v 12] <|
        .call (.fn 219) [.fn (.func 220) [] [],.agg [.v 31,.v 29],.v 33] 1 <|
        .ret [.v 34]) (
        xP false)))) (
     vA 5 5 <|
     zO 22 (
      jT 2 <|
      j4 .lss 52 54 12 23 <|
      zO 24 (
       xP false) (
       vA 2 5 <|
       xV 1 4 <|
       vA 0 26 <|
       .bind (.lu 3 1 true true) [.v 2,.v 8,.v 3] <|
       .call (.fn 219) [.fn (.func 220) [] [],.agg [.v 27,.v 25],.v 28] 1 <|
       zO 29 (
        vA 3 5 <|
        xV 1 4 <|
        vA 0 31 <|
        jP .add 73 1 3 <|
        .bind (.lu 3 1 true true) [.v 2,.v 33,.v 12] <|
        .call (.fn 219) [.fn (.func 220) [] [],.agg [.v 32,.v 30],.v 34] 1 <|
        .ret [.v 35]) (
        xP false))) (
      vA 2 5 <|
      xV 1 4 <|
      vA 0 24 <|
      .bind (.lu 3 1 true true) [.v 2,.v 8,.v 3] <|
      .call (.fn 219) [.fn (.func 220) [] [],.agg [.v 25,.v 23],.v 26] 1 <|
      zO 27 (
       vA 3 5 <|
       xV 1 4 <|
       vA 0 29 <|
       jP .add 73 1 3 <|
       .bind (.lu 3 1 true true) [.v 2,.v 31,.v 12] <|
       .call (.fn 219) [.fn (.func 220) [] [],.agg [.v 30,.v 28],.v 32] 1 <|
       .ret [.v 33]) (
       xP false))))))
def qBV:LV
 |0=>qNs
 |_=>.fail
def qUr:Nat->Pat
 |_=>⟨[],[],[],[]⟩
def qNr:Tree:=
 wM 227 [.v 0,.v 1] 1 <|
 .ret [.v 2]
def qFk:LV
 |0=>qNr
 |_=>.fail
def qUo:Nat->Pat
 |_=>⟨[],[],[],[]⟩
def qNn:Tree:=
 wM 208 [.v 0,.v 1] 1 <|
 jP .geq 7 0 2 <|
 .ret [.v 3]
def qFi:LV
 |0=>qNn
 |_=>.fail
def qUs:Nat->Pat
 |1=>⟨[⟨.pure,false⟩,⟨.pure,false⟩,⟨.pure,true⟩,⟨.pure,true⟩],[(0,.v 0),(1,.v 1),(7,.v 2),(8,.v 3)],[],[]⟩
 |_=>⟨[],[],[],[]⟩
def qVD:Tree:=
 jT 0 <|
 .jump 1 [.v 0,.v 1,.v 2,k' 0]
def qVC:Tree:=
 j4 .lss 8 7 3 2 <|
 zO 4 (
  wG 0 3 <|
  vC 1 0 0 3 <|
  j4 .eql 11 15 1 6 <|
  zO 7 (
   .ret [.v 3]) (
   jP .add 8 1 3 <|
   .jump 1 [.v 0,.v 1,.v 2,.v 8])) (
  .ret [.c (.int .i64 (-1))])
def qUq:Nat->Pat
 |1=>⟨[⟨.pure,false⟩,⟨.pure,false⟩,⟨.pure,true⟩,⟨.pure,true⟩,⟨.pure,false⟩],[(0,.v 0),(4,.loc 0 0),(9,.v 1),(10,.v 2),(11,.v 3)],[some (.whole (.v 4) 2)],[]⟩
 |_=>⟨[],[],[],[]⟩
def qNq:Tree:=
 xV 2 1 <|
 jT 2 <|
 .jump 1 [.v 0,.v 2,.v 4,k' 0,.v 3]
def qNp:Tree:=
 j4 .lss 11 10 3 2 <|
 zO 5 (
  wG 1 3 <|
  vC 1 0 1 3 <|
  .call (.val (.v 0)) [.v 0,.v 4,.v 3,.v 7] 1 <|
  .bind (.un .not 4) [.v 8] <|
  zO 9 (
   xP false) (
   jP .add 11 1 3 <|
   .jump 1 [.v 0,.v 1,.v 2,.v 10,.v 4])) (
  xP true)
def qAa:LV
 |0=>qNq
 |1=>qNp
 |_=>.fail
def qUp:Nat->Pat
 |_=>⟨[],[],[],[]⟩
def qNo:Tree:=
 xV 2 0 <|
 .bind (.mq true 1 0) [.v 3] <|
 vA 1 3 <|
 wG 5 1 <|
 .bind (.elem 2 true 2 0) [.v 5,.v 1] <|
 wM 228 [.v 4,.v 2,.v 7] 1 <|
 .ret [.v 8]
def qFj:LV
 |0=>qNo
 |_=>.fail
def qUn:Nat->Pat
 |_=>⟨[],[],[],[]⟩
def qNm:Tree:=
 xV 1 0 <|
 xV 2 2 <|
 wM 116 [.v 3,.v 1] 1 <|
 zO 5 (
  vA 0 4 <|
  vA 0 3 <|
  jP .sub 16 1 1 <|
  wG 7 8 <|
  vC 2 1 7 8 <|
  vA 0 4 <|
  j4 .and 20 22 10 11 <|
  .bind (.bin .eql 65 (.tmp 11) (.tmp 24)) [.v 4,.agg [.v 6,.v 12]] <|
  .ret [.v 13]) (
  xP false)
def qFh:LV
 |0=>qNm
 |_=>.fail
def qUJ:Nat->Pat
 |_=>⟨[],[],[],[]⟩
def qNH:Tree:=
 xV 1 0 <|
 jP .geq 5 1 1 <|
 zO 3 (
  vA 0 2 <|
  jT 4 <|
  j4 .leq 8 11 1 5 <|
  .ret [.v 6]) (
  xP false)
def qFl:LV
 |0=>qNH
 |_=>.fail
def qY7:Nat->Pat
 |1=>⟨[⟨.pure,false⟩,⟨.pure,true⟩,⟨.pure,true⟩,⟨.pure,true⟩,⟨.pure,true⟩,⟨.pure,false⟩],[(1,.v 0),(2,.loc 0 0),(6,.v 1),(15,.v 2),(16,.v 3),(17,.v 4)],[some (.whole (.v 5) 3)],[]⟩
 |2=>⟨[⟨.pure,false⟩,⟨.pure,true⟩,⟨.fresh,true⟩,⟨.pure,true⟩,⟨.pure,false⟩],[(1,.v 0),(2,.loc 0 0),(6,.v 1),(9,.v 2),(10,.v 3)],[some (.whole (.v 4) 3)],[]⟩
 |3=>⟨[⟨.pure,false⟩,⟨.pure,true⟩,⟨.fresh,true⟩,⟨.pure,true⟩,⟨.pure,true⟩,⟨.pure,false⟩],[(1,.v 0),(2,.loc 0 0),(6,.v 1),(9,.v 2),(10,.v 3),(11,.v 4)],[some (.whole (.v 5) 3)],[]⟩
 |4=>⟨[⟨.pure,false⟩,⟨.pure,true⟩,⟨.fresh,true⟩,⟨.pure,true⟩,⟨.pure,true⟩,⟨.pure,true⟩,⟨.pure,true⟩,⟨.pure,true⟩,⟨.pure,false⟩],[(1,.v 0),(2,.loc 0 0),(6,.v 1),(9,.v 2),(10,.v 3),(11,.v 4),(42,.v 5),(43,.v 6),(44,.v 7)],[some (.whole (.v 8) 3)],[]⟩
 |_=>⟨[],[],[],[]⟩
def qTA:Tree:=
 xV 3 0 <|
 vA 1 2 <|
 jT 3 <|
 .jump 1 [.v 1,k' 0,.v 3,.v 4,k' 0,.v 2]
def qTz:Tree:=
 j4 .lss 17 16 4 3 <|
 zO 6 (
  wG 2 4 <|
  .bind (.elem 2 true 2 0) [.v 2,.v 4] <|
  xV 2 8 <|
  vA 0 9 <|
  .bind (.len true) [.v 10] <|
  .bind (.mm true) [.v 1,.v 11] <|
  jP .add 17 1 4 <|
  .jump 1 [.v 0,.v 12,.v 2,.v 3,.v 13,.v 5]) (
  .jump 2 [.v 0,.v 1,.c (.slice none 0 0),k' 0,.v 5])
def qTy:Tree:=
 .bind (.len true) [.v 0] <|
 j4 .lss 27 29 3 5 <|
 zO 6 (
  .bind (.len true) [.v 0] <|
  j4 .sub 33 34 7 3 <|
  .bind (.mm false) [.v 1,.v 8] <|
  .jump 3 [.v 0,.v 1,.v 2,.v 3,.v 9,.v 4]) (
  .ret [.v 2,.v 3])
def qTx:Tree:=
 jP .gtr 37 0 4 <|
 zO 6 (
  vA 1 5 <|
  jT 7 <|
  .jump 4 [.v 0,.v 1,.v 2,.v 3,.v 4,.v 7,.v 8,k' 0,.v 5]) (
  .ret [.v 2,.v 3])
def qTw:Tree:=
 j4 .lss 44 43 7 6 <|
 zO 9 (
  wG 5 7 <|
  .bind (.elem 2 true 2 0) [.v 5,.v 7] <|
  xV 2 11 <|
  vA 0 12 <|
  j4 .add 53 54 3 4 <|
  .bind (.sub true true) [.v 0,.v 3,.v 14] <|
  .bind (.bin .eql 9 (.tmp 50) (.tmp 56)) [.v 13,.v 15] <|
  zO 16 (
   qGE 7 <|
   .bind (.lit 3 1) [.v 7] <|
   .bind (.app 3 1 8) [.v 2,.v 18] <|
   j4 .add 62 63 3 4 <|
   .jump 2 [.v 0,.v 1,.v 19,.v 20,.v 8]) (
   jP .add 44 1 7 <|
   .jump 4 [.v 0,.v 1,.v 2,.v 3,.v 4,.v 5,.v 6,.v 17,.v 8])) (
  jP .sub 39 1 4 <|
  .jump 3 [.v 0,.v 1,.v 2,.v 3,.v 10,.v 8])
def sX:LV
 |0=>qTA
 |1=>qTz
 |2=>qTy
 |3=>qTx
 |4=>qTw
 |_=>.fail
def qZQ:Nat->Pat
 |1=>⟨[⟨.fresh,true⟩,⟨.pure,false⟩,⟨.pure,true⟩,⟨.pure,true⟩,⟨.pure,false⟩],[(2,.loc 0 0),(9,.v 0),(25,.v 1),(26,.v 2),(27,.v 3)],[some (.whole (.v 4) 3)],[]⟩
 |_=>⟨[],[],[],[]⟩
def qT4:Tree:=
 xV 3 0 <|
 .bind (.bin .eql 9 (.tmp 12) (.const (.string ⟨#[]⟩))) [.v 1,.c (.string ⟨#[]⟩)] <|
 zO 3 (
  .ret [.c (.slice none 0 0),k' 0,k' 4]) (
  wM 71 [.v 2,.v 1] 0 <|
  qDZ 0 4 <|
  qDZ 1 4 <|
  .bind (.len true) [.v 1] <|
  j4 .lss 20 22 6 7 <|
  zO 8 (
   .ret [.c (.slice none 0 0),.v 6,k' 20]) (
   jT 5 <|
   .jump 1 [.c (.slice none 0 0),.v 5,.v 9,k' 0,.v 2]))
def qT3:Tree:=
 j4 .lss 27 26 3 2 <|
 zO 5 (
  wG 1 3 <|
  vC 1 0 1 3 <|
  vA 1 4 <|
  wG 8 7 <|
  vC 2 1 8 7 <|
  .bind (.app 3 1 8) [.v 0,.v 10] <|
  jP .add 27 1 3 <|
  .jump 1 [.v 11,.v 1,.v 2,.v 12,.v 4]) (
  jT 0 <|
  jP .gtr 41 24 6 <|
  zO 7 (
   .ret [.c (.slice none 0 0),k' 0,k' 5]) (
   .ret [.v 0,k' 0,k' 0]))
def qEc:LV
 |0=>qT4
 |1=>qT3
 |_=>.fail
def qUx:Nat->Pat
 |1=>⟨[⟨.fresh,true⟩,⟨.pure,false⟩,⟨.pure,true⟩,⟨.pure,true⟩],[(3,.v 0),(9,.v 1),(10,.v 2),(11,.v 3)],[],[]⟩
 |_=>⟨[],[],[],[]⟩
def qNz:Tree:=
 jT 0 <|
 .bind (.mk 5 1 1 false [(.int .u8 0)]) [k' 0,.v 1] <|
 jT 0 <|
 .jump 1 [.v 2,.v 0,.v 3,k' 0]
def qNy:Tree:=
 j4 .lss 11 10 3 2 <|
 zO 4 (
  wG 1 3 <|
  vC 1 0 1 3 <|
  .bind (.conv 3 5) [.v 6] <|
  qGE 7 <|
  .bind (.lit 5 1) [.v 7] <|
  .bind (.app 5 1 1) [.v 0,.v 9] <|
  jP .add 11 1 3 <|
  .jump 1 [.v 10,.v 1,.v 2,.v 11]) (
  .bind .ns [.v 0] <|
  .ret [.v 5])
def qNx:LV
 |0=>qNz
 |1=>qNy
 |_=>.fail
def sY:Nat->Pat
 |1000=>⟨[⟨.pure,true⟩,⟨.pure,true⟩,⟨.pure,true⟩,⟨.pure,true⟩],[(0,.lk 3),(1,.loc 1 0),(2,.loc 2 0),(8,.v 0),(9,.v 1)],[some (.cells [.c (.slice none 0 0)]),some (.cells [.v 2]),some (.cells [.v 3]),some (.loop 0 0)],[[(4,.loc 0 0)]]⟩
 |_=>⟨[],[],[none,none,none,none],[]⟩
def qNG:Tree:=
 qGE 0 <|
 qGE 1 <|
 jT 2 <|
 jP .add 7 1 4 <|
 .jump 1000 [.v 5,k' 0,.v 2,.v 3]
def qEd:Tree:=
 j4 .lss 9 8 1 0 <|
 zO 4 (
  wM 173 [.v 2,.v 3] 0 <|
  qDZ 0 5 <|
  qDZ 1 5 <|
  xV 8 6 <|
  .bind (.un .not 4) [.v 7] <|
  zO 9 (
   .ret [.c (.slice none 0 0)]) (
   xV 8 8 <|
   vA 5 10 <|
   jT 11 <|
   jP .gtr 12 0 12 <|
   zO 13 (
    vA 5 10 <|
    wM 149 [.v 14] 0 <|
    qGE 15 <|
    .ret [.v 16]) (
    vA 4 8 <|
    jP .eql 27 0 14 <|
    zO 15 (
     .ret [.c (.slice none 0 0)]) (
     vA 4 8 <|
     jP .add 9 1 1 <|
     .jump 1000 [.v 0,.v 17,.v 2,.v 16])))) (
  .ret [.c (.slice none 0 0)])
def qBW:LV
 |0=>qNG
 |1000=>qEd
 |_=>.fail
noncomputable def qEe:qIv:=[(172,Tryz.f172,wK Tryz.f172),(148,Tryz.f148,wK Tryz.f148)]
noncomputable def qAS:LI:=λk=>bif Nat.ble 1000 k then Nat.max Tryz.f172.ntmps 3 else Nat.max Tryz.f121.ntmps 2
def qUD:Nat->Pat
 |_=>⟨[],[],[],[]⟩
def qNE:Tree:=
 .bind (.isNil false) [.v 0] <|
 zO 1 (
  .ret [.c (.slice none 0 0)]) (
  .bind (.lit 105 2) [] <|
  .bind (.app 105 2 32) [.v 2,.v 0] <|
  .ret [.v 3])
def qVE:LV
 |0=>qNE
 |_=>.fail
theorem dV:(kY Tryz.f169 3 qUw,
 hd Tryz.f169 3 qUw,
 nr Tryz.f169,
 kY Tryz.f188 3 qUu,
 hd Tryz.f188 3 qUu,
 nr Tryz.f188,
 kY Tryz.f207 4 qUt,
 hd Tryz.f207 4 qUt,
 nr Tryz.f207,
 kY Tryz.f218 2 qUr,
 hd Tryz.f218 2 qUr,
 nr Tryz.f218,
 kY Tryz.f227 2 qUo,
 hd Tryz.f227 2 qUo,
 nr Tryz.f227,
 kY Tryz.f208 2 qUs,
 hd Tryz.f208 2 qUs,
 nr Tryz.f208,
 kY Tryz.f219 3 qUq,
 hd Tryz.f219 3 qUq,
 nr Tryz.f219,
 kY Tryz.f220 3 qUp,
 hd Tryz.f220 3 qUp,
 nr Tryz.f220,
 kY Tryz.f228 3 qUn,
 hd Tryz.f228 3 qUn,
 nr Tryz.f228,
 kY Tryz.f116 2 qUJ,
 hd Tryz.f116 2 qUJ,
 nr Tryz.f116,
 kY Tryz.f71 2 qY7,
 hd Tryz.f71 2 qY7,
 nr Tryz.f71,
 kY Tryz.f37 2 qZQ,
 hd Tryz.f37 2 qZQ,
 nr Tryz.f37,
 kY Tryz.f168 1 qUx,
 hd Tryz.f168 1 qUx,
 nr Tryz.f168,
 qDQ EE (λk S=>wN (qAS k) (sY k) k S) (qKu EE qEe none) (aN EE (λk S=>wN (qAS k) (sY k) k S) qEe 172 (Nat.max Tryz.f121.ntmps 2) 3 1000) 1 (wK Tryz.f121) (oM 2 (Nat.max Tryz.f121.ntmps 2)) (qAF EE Tryz.f121.results.toList),
 wE EE (λk=>(sY k).st (qAS k)) (λk S=>wN (qAS k) (sY k) k S) (qKu EE qEe none) (aN EE (λk S=>wN (qAS k) (sY k) k S) qEe 172 (Nat.max Tryz.f121.ntmps 2) 3 1000) (qIR EE (λk=>(sY k).st (qAS k)) (λk S=>wN (qAS k) (sY k) k S) qEe (wK Tryz.f172) (Nat.max Tryz.f121.ntmps 2) 3 1000) 1 (wK Tryz.f121) (qAF EE Tryz.f121.results.toList),
 nr Tryz.f121,
 kY Tryz.f149 1 qUD,
 hd Tryz.f149 1 qUD,
 nr Tryz.f149,
 nr Tryz.f172,
 nr Tryz.f148) =
 (qNw,[(1,qNv)],false,qNu,[(1,qNt)],false,qNs,[],false,qNr,[],false,qNn,[],false,qVD,[(1,qVC)],false,qNq,[(1,qNp)],false,qNo,[],false,qNm,[],false,qNH,[],false,qTA,[(1,qTz),(2,qTy),(3,qTx),(4,qTw)],false,qT4,[(1,qT3)],false,qNz,[(1,qNy)],false,qNG,[(1000,qEd)],false,qNE,[],false,false,false):=by kernel_rfl
theorem zCA{ds:LR}{d:D}(x:ds.length=3)(h:qP EE (qA EE) qAb 0 ds d):qA EE 169 ds d:=
 hv Tryz.func169 rfl dV (j9 rfl<|jU) x h
theorem zCz{ds:LR}{d:D}(x:ds.length=3)(h:qP EE (qA EE) i9 0 ds d):qA EE 188 ds d:=
 hv Tryz.func188 rfl (xE (xE (xE dV))) (j9 rfl<|jU) x h
theorem zCy{ds:LR}{d:D}(x:ds.length=4)(h:qP EE (qA EE) qBV 0 ds d):qA EE 207 ds d:=
 hv Tryz.func207 rfl (xE (xE (xQ dV))) (jU) x h
theorem zCx{ds:LR}{d:D}(x:ds.length=2)(h:qP EE (qA EE) qFk 0 ds d):qA EE 218 ds d:=
 hv Tryz.func218 rfl (xE (xQ (xQ dV))) (jU) x h
theorem zCu{ds:LR}{d:D}(x:ds.length=2)(h:qP EE (qA EE) qFi 0 ds d):qA EE 227 ds d:=
 hv Tryz.func227 rfl (xQ (xQ (xQ dV))) (jU) x h
theorem zCw{ds:LR}{d:D}(x:ds.length=3)(h:qP EE (qA EE) qAa 0 ds d):qA EE 219 ds d:=
 hv Tryz.func219 rfl (xE (xE (zA dV))) (j9 rfl<|jU) x h
theorem zCv{ds:LR}{d:D}(x:ds.length=3)(h:qP EE (qA EE) qFj 0 ds d):qA EE 220 ds d:=
 hv Tryz.func220 rfl (xE (xQ (zA dV))) (jU) x h
theorem zCt{ds:LR}{d:D}(x:ds.length=3)(h:qP EE (qA EE) qFh 0 ds d):qA EE 228 ds d:=
 hv Tryz.func228 rfl (xQ (xQ (zA dV))) (jU) x h
theorem zCG{ds:LR}{d:D}(x:ds.length=2)(h:qP EE (qA EE) qFl 0 ds d):qA EE 116 ds d:=
 hv Tryz.func116 rfl (xE (xE (xE (xQ (xQ (zA dV)))))) (jU) x h
theorem zFX{ds:LR}{d:D}(x:ds.length=2)(h:qP EE (qA EE) sX 0 ds d):qA EE 71 ds d:=
 hv Tryz.func71 rfl (xE (xE (xQ (xQ (xQ (zA dV)))))) (j9 rfl<|j9 rfl<|j9 rfl<|j9 rfl<|jU) x h
theorem zGc{ds:LR}{d:D}(x:ds.length=2)(h:qP EE (qA EE) qEc 0 ds d):qA EE 37 ds d:=
 hv Tryz.func37 rfl (xE (zA (zA dV))) (j9 rfl<|jU) x h
theorem zCB{ds:LR}{d:D}(x:ds.length=1)(h:qP EE (qA EE) qNx 0 ds d):qA EE 168 ds d:=
 hv Tryz.func168 rfl (xQ (zA (zA dV))) (j9 rfl<|jU) x h
theorem zCF{ds:LR}{d:D}(x:ds.length=2)(h:qP EE (qA EE) qBW 0 ds d):qA EE 121 ds d:=
 qMj (I:=qEe) (hV:=sY) (szs:=qAS) (L:=3) (G:=172) (fnG:=Tryz.f172) (cdG:=wK Tryz.f172) he (.cons (dC (c:=wK Tryz.f172) Tryz.func172 rfl ((pI (xE (xQ (xQ (xQ (zA (zA dV))))))).1)) rfl <| .cons (dC (c:=wK Tryz.f148) Tryz.func148 rfl ((xE (xE (xQ (xQ (xQ (zA (zA dV))))))))) rfl <| .nil) (dC (c:=wK Tryz.f121) Tryz.func121 rfl ((pI (xE (xQ (xQ (zA (zA dV)))))).1)) (c:=wK Tryz.f121) rfl x rfl ((pI (xE (xE (xE (xQ (zA (zA dV))))))).1) (by rw[(pI (xQ (xQ (zA (zA dV))))).1];exact j9 rfl<|jU) (λk y=>by unfold sY;split<;>first|decide|omega) h
theorem zAh{ds:LR}{d:D}(x:ds.length=1)(h:qP EE (qA EE) qVE 0 ds d):qA EE 149 ds d:=
 hv Tryz.func149 rfl (xE (xE (xQ (xQ (zA (zA dV)))))) (jU) x h
end Go.Proofs.YtocbbgmhkhallaaGreatDoor
