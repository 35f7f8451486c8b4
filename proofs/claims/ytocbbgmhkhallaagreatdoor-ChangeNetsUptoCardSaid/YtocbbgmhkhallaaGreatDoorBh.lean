/- Trees of functions. Conditions: none. -/
import Derived.Test.YtocbbgmhkhallaaGreatDoorBg
set_option linter.unusedVariables false
set_option linter.unusedSimpArgs false
namespace Go.Proofs.YtocbbgmhkhallaaGreatDoor
open Go Go.Am Go.Proofs
def tT:Go.Am.Mode:=⟨⟨[⟨.pure,false⟩,⟨.pure,false⟩],[(0,.v 0),(1,.fn (.func 25) [] [.v 1])],[],[]⟩,2,⟨[⟨.pure,false⟩,⟨.pure,false⟩],[(0,.v 0),(1,.v 1)],[],[]⟩⟩
def tS:Go.Am.Mode:=⟨⟨[⟨.pure,false⟩,⟨.pure,false⟩],[(0,.loc 0 0),(1,.v 0)],[some (.whole (.v 1) 9)],[]⟩,2,⟨[⟨.pure,false⟩,⟨.pure,false⟩],[(0,.v 0)],[some (.whole (.v 1) 9)],[]⟩⟩
def zEY:Nat->Pat
 |1=>⟨[⟨.pure,false⟩,⟨.pure,true⟩,⟨.pure,false⟩,⟨.pure,false⟩],[(3,.loc 0 0),(7,.loc 2 0),(11,.v 0),(12,.v 1)],[some (.whole (.v 2) 9),none,some (.whole (.v 3) 9)],[]⟩
 |_=>⟨[],[],[],[]⟩
def qZN:Tree:=
 xV 9 0 <|
 xV 3 1 <|
 wM 4 [.v 2] 1 <|
 .bind (.un .not 4) [.v 5] <|
 zO 6 (
  wM 7 [] 1 <|
  .ret [.v 7]) (
  vA 0 4 <|
  jP .gtr 22 3 7 <|
  zO 8 (
   wM 7 [] 1 <|
   .ret [.v 9]) (
   vA 1 4 <|
   jT 9 <|
   jP .gtr 28 6 10 <|
   zO 11 (
    wM 7 [] 1 <|
    .ret [.v 12]) (
    wM 5 [.v 4] 1 <|
    .bind (.bin .neq 39 (.tmp 33) (K' 0)) [.v 12,k' 0] <|
    zO 13 (
     wM 7 [] 1 <|
     .ret [.v 14]) (
     wM 6 [.v 3] 1 <|
     .bind (.un .not 4) [.v 14] <|
     zO 15 (
      wM 7 [] 1 <|
      .ret [.v 16]) (
      wM 9 [.v 3] 0 <|
      wM 8 [.v 16,.v 4] 0 <|
      qDZ 0 17 <|
      qDZ 1 17 <|
      xV 9 18 <|
      .bind (.bin .neq 39 (.tmp 49) (K' 0)) [.v 19,k' 0] <|
      zO 21 (
       xP false) (
       vA 7 20 <|
       vA 2 4 <|
       wM 10 [.v 22,.v 23] 1 <|
       .bind (.un .not 4) [.v 24] <|
       zO 25 (
        xP false) (
        vA 8 20 <|
        jT 26 <|
        vA 8 3 <|
        jT 28 <|
        j4 .neq 63 66 27 29 <|
        zO 30 (
         xP false) (
         vA 4 20 <|
         jT 31 <|
         vA 4 3 <|
         jT 33 <|
         j4 .neq 72 75 32 34 <|
         zO 35 (
          xP false) (
          wM 9 [.v 20] 0 <|
          .bind (.mq true 3 5) [.v 3] <|
          wM 8 [.v 36,.v 37] 0 <|
          qDZ 0 38 <|
          qDZ 1 38 <|
          xV 9 39 <|
          .bind (.bin .neq 39 (.tmp 86) (K' 0)) [.v 40,k' 0] <|
          zO 42 (
           xP false) (
           wM 9 [.v 3] 0 <|
           wM 11 [.v 41,.v 43] 1 <|
           .bind (.un .not 4) [.v 44] <|
           zO 45 (
            xP false) (
            wM 9 [.v 3] 0 <|
            wM 9 [.v 20] 0 <|
            .bind (.lit 9 1) [] <|
            .bind (.app 9 1 16) [.v 48,.v 2] <|
            wM 12 [.v 46,.v 47,.v 49] 0 <|
            .jump 1 [.v 50,k' 0,.v 3,.v 20])))))))))))
def qZM:Tree:=
 jT 0 <|
 j4 .lss 103 105 1 4 <|
 zO 5 (
  wG 0 1 <|
  vC 1 0 0 1 <|
  wM 13 [.v 2,.v 7] 0 <|
  qDZ 0 8 <|
  qDZ 1 8 <|
  wG 0 1 <|
  vC 1 0 0 1 <|
  wM 13 [.v 3,.v 12] 0 <|
  qDZ 0 13 <|
  qDZ 1 13 <|
  .bind (.bin .eql 39 (.tmp 127) (.tmp 128)) [.v 10,.v 15] <|
  zO 16 (
   wM 14 [.v 9,.v 14] 1 <|
   zO 17 (
    xP false) (
    jP .add 107 1 1 <|
    .jump 1 [.v 0,.v 18,.v 2,.v 3])) (
   jP .add 107 1 1 <|
   .jump 1 [.v 0,.v 17,.v 2,.v 3])) (
  wM 7 [] 1 <|
  .ret [.v 6])
def qZL:LV
 |0=>qZN
 |1=>qZM
 |_=>.fail
def zEV:Nat->Pat
 |1=>⟨[⟨.pure,false⟩,⟨.pure,true⟩],[(0,.v 0),(3,.v 1)],[],[]⟩
 |_=>⟨[],[],[],[]⟩
def qZI:Tree:=
 jT 0 <|
 jP .gtr 5 8 1 <|
 zO 2 (
  xP false) (
  .jump 1 [.v 0,k' 0])
def qZH:Tree:=
 jT 0 <|
 j4 .lss 7 9 1 2 <|
 zO 3 (
  wG 0 1 <|
  vC 1 0 0 1 <|
  .bind (.len true) [.v 5] <|
  jP .gtr 17 100 6 <|
  zO 7 (
   xP false) (
   jP .add 11 1 1 <|
   .jump 1 [.v 0,.v 8])) (
  xP true)
def zCs:LV
 |0=>qZI
 |1=>qZH
 |_=>.fail
def zES:Nat->Pat
 |_=>⟨[],[],[],[]⟩
def qY2:Tree:=
 xV 9 0 <|
 xV 3 1 <|
 .bind .ny [.v 3] <|
 .l4 24 tT [.v 2,.pp 4 0] <|
 xV 9 5 <|
 .ret [.v 7,.v 6]
def zCr:LV
 |0=>qY2
 |_=>.fail
def zAa:Nat->Pat
 |1=>⟨[⟨.ptr,true⟩,⟨.pure,true⟩,⟨.pure,true⟩,⟨.pure,true⟩],[(1,.pp 0 0),(3,.fn (.func 57) [] [.pp 0 0]),(23,.v 1),(24,.v 2),(25,.v 3)],[],[]⟩
 |2=>⟨[⟨.ptr,true⟩,⟨.pure,true⟩],[(1,.pp 0 0),(3,.fn (.func 57) [] [.pp 0 0]),(6,.v 1)],[],[]⟩
 |3=>⟨[⟨.ptr,true⟩,⟨.pure,true⟩,⟨.pure,true⟩,⟨.pure,true⟩],[(3,.fn (.func 57) [] [.pp 0 0]),(77,.v 1),(78,.v 2),(79,.v 3)],[],[]⟩
 |_=>⟨[],[],[],[]⟩
def qUm:Tree:=
 xV 3 0 <|
 vA 0 1 <|
 jP .lss 10 1 2 <|
 zO 3 (
  lD 2) (
  vA 0 1 <|
  jP .gtr 14 24 4 <|
  zO 5 (
   lD 2) (
   vA 1 1 <|
   jT 6 <|
   jP .gtr 19 200 7 <|
   zO 8 (
    lD 11) (
    .bind .ny [.v 1] <|
    .bind (.k8 false 1) [.pp 9 1] <|
    jT 10 <|
    .jump 1 [.v 9,.v 10,.v 11,k' 0])))
def qUl:Tree:=
 j4 .lss 25 24 3 2 <|
 zO 4 (
  wG 1 3 <|
  .bind (.elem 3 true 3 0) [.v 1,.v 3] <|
  xV 3 6 <|
  vA 0 7 <|
  wM 57 [.v 8,.pp 0 0] 1 <|
  .bind (.un .not 4) [.v 9] <|
  zO 10 (
   lD 2) (
   vA 2 7 <|
   wM 57 [.v 11,.pp 0 0] 1 <|
   .bind (.un .not 4) [.v 12] <|
   zO 13 (
    lD 2) (
    vA 1 7 <|
    jP .lss 43 1 14 <|
    zO 15 (
     lD 21) (
     vA 1 7 <|
     jP .gtr 47 20 16 <|
     zO 17 (
      lD 21) (
      .bind (.k8 false 1) [.pp 0 1] <|
      .bind (.lu 55 3 false true) [.v 18,.v 3] <|
      wM 58 [.v 19,.v 7] 1 <|
      zO 20 (
       lD 8) (
       jP .add 25 1 3 <|
       .jump 1 [.v 0,.v 1,.v 2,.v 21])))))) (
  .jump 2 [.v 0,k' 1])
def qUk:Tree:=
 .bind (.k8 false 1) [.pp 0 2] <|
 jT 2 <|
 j4 .lss 57 60 1 3 <|
 zO 4 (
  .bind (.k8 false 1) [.pp 0 2] <|
  jP .sub 66 1 1 <|
  wG 5 6 <|
  vC 1 0 5 6 <|
  .bind (.k8 false 1) [.pp 0 2] <|
  wG 9 1 <|
  vC 1 0 9 1 <|
  j4 .geq 69 74 8 11 <|
  zO 12 (
   lD 10) (
   jP .add 62 1 1 <|
   .jump 2 [.v 0,.v 13])) (
  .bind (.k8 false 1) [.pp 0 2] <|
  jT 5 <|
  .jump 3 [.v 0,.v 5,.v 6,k' 0])
def qUj:Tree:=
 j4 .lss 79 78 3 2 <|
 zO 4 (
  wG 1 3 <|
  vC 1 0 1 3 <|
  wM 57 [.v 6,.pp 0 0] 1 <|
  .bind (.un .not 4) [.v 7] <|
  zO 8 (
   lD 2) (
   jP .add 79 1 3 <|
   .jump 3 [.v 0,.v 1,.v 2,.v 9])) (
  lD 0)
def qJ3:LV
 |0=>qUm
 |1=>qUl
 |2=>qUk
 |3=>qUj
 |_=>.fail
def qZG:Nat->Pat
 |_=>⟨[],[],[],[]⟩
def qTV:Tree:=
 jP .geq 4 0 0 <|
 zO 2 (
  .bind .nh [.v 1] <|
  .bind (.k8 false 1) [.pp 3 0] <|
  j4 .lss 7 9 0 4 <|
  .ret [.v 5]) (
  xP false)
def qZF:LV
 |0=>qTV
 |_=>.fail
def qZE:Nat->Pat
 |_=>⟨[],[],[],[]⟩
def qTU:Tree:=
 xV 3 1 <|
 wM 110 [.v 0,.v 2] 1 <|
 jP .geq 7 0 3 <|
 .ret [.v 4]
def qZD:LV
 |0=>qTU
 |_=>.fail
def qUO:Nat->Pat
 |1=>⟨[⟨.pure,false⟩,⟨.pure,true⟩,⟨.pure,true⟩,⟨.pure,false⟩],[(0,.v 0),(3,.loc 0 0),(7,.v 1),(8,.v 2)],[some (.whole (.v 3) 3)],[]⟩
 |_=>⟨[],[],[],[]⟩
def qNS:Tree:=
 xV 3 1 <|
 jT 0 <|
 .jump 1 [.v 0,.v 3,k' 0,.v 2]
def qNR:Tree:=
 j4 .lss 8 7 2 1 <|
 zO 4 (
  wG 0 2 <|
  .bind (.elem 3 true 3 0) [.v 0,.v 2] <|
  .bind (.bin .eql 55 (.tmp 11) (.tmp 15)) [.v 3,.v 6] <|
  zO 7 (
   .ret [.v 2]) (
   jP .add 8 1 2 <|
   .jump 1 [.v 0,.v 1,.v 8,.v 3])) (
  .ret [.c (.int .i64 (-1))])
def qNQ:LV
 |0=>qNS
 |1=>qNR
 |_=>.fail
def zER:Nat->Pat
 |1=>⟨[⟨.fresh,true⟩,⟨.pure,true⟩,⟨.fresh,true⟩,⟨.pure,true⟩,⟨.pure,true⟩,⟨.pure,true⟩,⟨.pure,true⟩,⟨.pure,true⟩,⟨.pure,true⟩,⟨.pure,true⟩,⟨.pure,true⟩],[(1,.loc 0 0),(2,.loc 1 0),(3,.v 0),(4,.v 1)],[some (.cells [.v 2,.v 3,.v 4,.v 5,.v 6,.v 7,.v 8,.v 9,.v 10]),some (.cells [.c (.slice none 0 0),.c (.string ⟨#[]⟩),.c (.slice none 0 0),.c (.slice none 0 0),.c (.slice none 0 0),k' 0,.c (.slice none 0 0),.c (.slice none 0 0),.c (.slice none 0 0)])],[]⟩
 |2=>⟨[⟨.fresh,true⟩,⟨.fresh,true⟩,⟨.pure,true⟩,⟨.fresh,true⟩,⟨.pure,true⟩,⟨.pure,true⟩,⟨.pure,true⟩,⟨.pure,true⟩,⟨.pure,true⟩,⟨.pure,true⟩,⟨.pure,true⟩,⟨.pure,true⟩],[(1,.loc 0 0),(2,.loc 1 0),(3,.v 0),(5,.v 1),(6,.v 2)],[some (.cells [.v 3,.v 4,.v 5,.v 6,.v 7,.v 8,.v 9,.v 10,.v 11]),some (.cells [.c (.slice none 0 0),.c (.string ⟨#[]⟩),.c (.slice none 0 0),.c (.slice none 0 0),.c (.slice none 0 0),k' 0,.c (.slice none 0 0),.c (.slice none 0 0),.c (.slice none 0 0)])],[]⟩
 |3=>⟨[⟨.fresh,true⟩,⟨.pure,true⟩,⟨.fresh,true⟩,⟨.pure,true⟩,⟨.fresh,true⟩,⟨.fresh,true⟩,⟨.pure,true⟩,⟨.pure,true⟩,⟨.pure,true⟩,⟨.pure,true⟩,⟨.pure,true⟩],[(1,.loc 0 0),(2,.loc 1 0),(7,.v 0),(8,.v 1)],[some (.cells [.v 2,.v 3,.v 4,.v 5,.v 6,.v 7,.v 8,.v 9,.v 10]),some (.cells [.c (.slice none 0 0),.c (.string ⟨#[]⟩),.c (.slice none 0 0),.c (.slice none 0 0),.c (.slice none 0 0),k' 0,.c (.slice none 0 0),.c (.slice none 0 0),.c (.slice none 0 0)])],[]⟩
 |4=>⟨[⟨.fresh,true⟩,⟨.pure,true⟩,⟨.fresh,true⟩,⟨.pure,true⟩,⟨.fresh,true⟩,⟨.fresh,true⟩,⟨.fresh,true⟩,⟨.pure,true⟩,⟨.fresh,true⟩,⟨.fresh,true⟩,⟨.pure,true⟩],[(1,.loc 0 0),(2,.loc 1 0),(10,.v 0),(11,.v 1)],[some (.cells [.v 2,.v 3,.v 4,.v 5,.v 6,.v 7,.v 8,.v 9,.v 10]),some (.cells [.c (.slice none 0 0),.c (.string ⟨#[]⟩),.c (.slice none 0 0),.c (.slice none 0 0),.c (.slice none 0 0),k' 0,.c (.slice none 0 0),.c (.slice none 0 0),.c (.slice none 0 0)])],[]⟩
 |_=>⟨[],[],[],[]⟩
def qY0:Tree:=
 xV 9 0 <|
 .bind (.lit 85 2) [] <|
 vA 0 1 <|
 .bind (.app 85 2 24) [.v 2,.v 3] <|
 xV 9 1 <|
 vA 0 5 <|
 vA 1 5 <|
 vA 2 5 <|
 vA 3 5 <|
 vA 4 5 <|
 vA 5 5 <|
 vA 6 5 <|
 vA 7 5 <|
 vA 8 5 <|
 .bind (.lit 81 2) [] <|
 .jump 1 [.v 15,k' 0,.v 4,.v 7,.v 8,.v 9,.v 10,.v 11,.v 12,.v 13,.v 14]
def qYZ:Tree:=
 jT 4 <|
 j4 .lss 20 24 1 11 <|
 zO 12 (
  wG 4 1 <|
  vC 2 0 4 1 <|
  .bind (.lit 3 1) [] <|
  wG 4 1 <|
  vC 2 1 4 1 <|
  .bind (.app 3 1 8) [.v 15,.v 17] <|
  .bind (.mz true 2) [.agg [.v 14,.v 18]] <|
  .bind (.lit 81 2) [.agg [.v 14,.v 18]] <|
  .bind (.app 81 2 40) [.v 0,.v 20] <|
  jP .add 26 1 1 <|
  .jump 1 [.v 21,.v 22,.v 2,.v 3,.v 4,.v 5,.v 6,.v 7,.v 8,.v 9,.v 10]) (
  .bind (.lit 37 1) [] <|
  .jump 2 [.v 0,.v 13,k' 0,.v 2,.v 3,.v 4,.v 5,.v 6,.v 7,.v 8,.v 9,.v 10])
def qYY:Tree:=
 jT 6 <|
 j4 .lss 49 53 2 12 <|
 zO 13 (
  .bind (.lit 9 1) [] <|
  wG 6 2 <|
  vC 1 0 6 2 <|
  .bind (.app 9 1 16) [.v 14,.v 16] <|
  qGE 17 <|
  .bind (.lit 37 1) [.v 17] <|
  .bind (.app 37 1 24) [.v 1,.v 19] <|
  jP .add 55 1 2 <|
  .jump 2 [.v 0,.v 20,.v 21,.v 3,.v 4,.v 5,.v 6,.v 7,.v 8,.v 9,.v 10,.v 11]) (
  .bind (.lit 60 6) [] <|
  .jump 3 [.v 14,k' 0,.v 3,.v 4,.v 0,.v 1,.v 7,.v 8,.v 9,.v 10,.v 11])
def qYX:Tree:=
 jT 6 <|
 j4 .lss 76 79 1 11 <|
 zO 12 (
  wG 6 1 <|
  .bind (.elem 6 true 6 0) [.v 6,.v 1] <|
  xV 6 14 <|
  .bind (.lit 3 1) [] <|
  vA 0 15 <|
  .bind (.app 3 1 8) [.v 16,.v 17] <|
  .bind (.lit 3 1) [] <|
  vA 1 15 <|
  .bind (.app 3 1 8) [.v 19,.v 20] <|
  .bind (.lit 65 2) [] <|
  vA 2 15 <|
  .bind (.app 65 2 16) [.v 22,.v 23] <|
  .bind (.lit 65 2) [] <|
  vA 3 15 <|
  .bind (.app 65 2 16) [.v 25,.v 26] <|
  vA 4 15 <|
  vA 5 15 <|
  .bind (.mz true 6) [.agg [.v 18,.v 21,.v 24,.v 27,.v 28,.v 29]] <|
  .bind (.lit 60 6) [.agg [.v 18,.v 21,.v 24,.v 27,.v 28,.v 29]] <|
  .bind (.app 60 6 104) [.v 0,.v 31] <|
  jP .add 81 1 1 <|
  .jump 3 [.v 32,.v 33,.v 2,.v 3,.v 4,.v 5,.v 6,.v 7,.v 8,.v 9,.v 10]) (
  .bind (.lit 55 3) [] <|
  .bind (.app 55 3 24) [.v 13,.v 8] <|
  .bind (.lit 3 1) [] <|
  .bind (.app 3 1 8) [.v 15,.v 9] <|
  .bind (.lit 71 8) [] <|
  .jump 4 [.v 17,k' 0,.v 2,.v 3,.v 4,.v 5,.v 0,.v 7,.v 14,.v 16,.v 10])
def qYW:Tree:=
 jT 10 <|
 j4 .lss 130 133 1 11 <|
 zO 12 (
  wG 10 1 <|
  .bind (.elem 8 true 8 0) [.v 10,.v 1] <|
  wM 27 [.v 14] 0 <|
  xV 8 15 <|
  .bind (.lit 71 8) [.v 15] <|
  .bind (.app 71 8 144) [.v 0,.v 17] <|
  jP .add 135 1 1 <|
  .jump 4 [.v 18,.v 19,.v 2,.v 3,.v 4,.v 5,.v 6,.v 7,.v 8,.v 9,.v 10]) (
  .ret [.agg [.v 2,.v 3,.v 4,.v 5,.v 6,.v 7,.v 8,.v 9,.v 0]])
def qGJ:LV
 |0=>qY0
 |1=>qYZ
 |2=>qYY
 |3=>qYX
 |4=>qYW
 |_=>.fail
def qZ9:Nat->Pat
 |1=>⟨[⟨.fresh,true⟩,⟨.pure,true⟩,⟨.pure,true⟩,⟨.fresh,true⟩,⟨.pure,true⟩,⟨.pure,true⟩,⟨.pure,true⟩,⟨.pure,true⟩,⟨.pure,true⟩,⟨.pure,true⟩],[(1,.loc 0 0),(2,.loc 1 0),(3,.v 0),(4,.v 1)],[some (.cells [.v 2,.v 3,.v 4,.v 5,.v 6,.v 7,.v 8,.v 9]),some (.cells [k' 0,.c (.slice none 0 0),k' 0,.c (.slice none 0 0),k' 0,.c (.slice none 0 0),.c (.slice none 0 0),.c (.slice none 0 0)])],[]⟩
 |_=>⟨[],[],[],[]⟩
def qUi:Tree:=
 xV 8 0 <|
 .bind (.lit 3 1) [] <|
 vA 1 1 <|
 .bind (.app 3 1 8) [.v 2,.v 3] <|
 xV 8 1 <|
 vA 0 5 <|
 vA 1 5 <|
 vA 2 5 <|
 vA 3 5 <|
 vA 4 5 <|
 vA 5 5 <|
 vA 6 5 <|
 vA 7 5 <|
 .bind (.lit 31 1) [] <|
 .jump 1 [.v 14,k' 0,.v 6,.v 4,.v 8,.v 9,.v 10,.v 11,.v 12,.v 13]
def qUh:Tree:=
 jT 5 <|
 j4 .lss 11 14 1 10 <|
 zO 11 (
  .bind (.lit 3 1) [] <|
  wG 5 1 <|
  vC 1 0 5 1 <|
  .bind (.app 3 1 8) [.v 12,.v 14] <|
  qGE 15 <|
  .bind (.lit 31 1) [.v 15] <|
  .bind (.app 31 1 24) [.v 0,.v 17] <|
  jP .add 16 1 1 <|
  .jump 1 [.v 18,.v 19,.v 2,.v 3,.v 4,.v 5,.v 6,.v 7,.v 8,.v 9]) (
  .bind (.lit 105 2) [] <|
  .bind (.app 105 2 32) [.v 12,.v 7] <|
  .bind (.lit 73 2) [] <|
  .bind (.app 73 2 16) [.v 14,.v 8] <|
  .bind (.lit 163 2) [] <|
  .bind (.app 163 2 16) [.v 16,.v 9] <|
  .ret [.agg [.v 2,.v 3,.v 4,.v 0,.v 6,.v 13,.v 15,.v 17]])
def qUg:LV
 |0=>qUi
 |1=>qUh
 |_=>.fail
def zAo:Nat->Pat
 |1=>⟨[⟨.pure,false⟩,⟨.pure,false⟩,⟨.pure,true⟩,⟨.pure,true⟩],[(0,.v 0),(1,.v 1),(12,.v 2),(13,.v 3)],[],[]⟩
 |_=>⟨[],[],[],[]⟩
def qUQ:Tree:=
 jT 0 <|
 jT 1 <|
 j4 .neq 7 9 2 3 <|
 zO 4 (
  xP false) (
  jT 0 <|
  .jump 1 [.v 0,.v 1,.v 5,k' 0])
def qUP:Tree:=
 j4 .lss 13 12 3 2 <|
 zO 4 (
  wG 0 3 <|
  vC 1 0 0 3 <|
  wG 1 3 <|
  vC 1 0 1 3 <|
  j4 .neq 19 23 6 8 <|
  zO 9 (
   xP false) (
   jP .add 13 1 3 <|
   .jump 1 [.v 0,.v 1,.v 2,.v 10])) (
  xP true)
def zAn:LV
 |0=>qUQ
 |1=>qUP
 |_=>.fail
def qZ8:Nat->Pat
 |1=>⟨[⟨.pure,false⟩,⟨.pure,false⟩,⟨.pure,true⟩,⟨.pure,true⟩],[(0,.v 0),(1,.v 1),(12,.v 2),(13,.v 3)],[],[]⟩
 |_=>⟨[],[],[],[]⟩
def qUf:Tree:=
 jT 0 <|
 jT 1 <|
 j4 .neq 7 9 2 3 <|
 zO 4 (
  xP false) (
  jT 0 <|
  .jump 1 [.v 0,.v 1,.v 5,k' 0])
def qUe:Tree:=
 j4 .lss 13 12 3 2 <|
 zO 4 (
  wG 0 3 <|
  .bind (.elem 2 true 2 0) [.v 0,.v 3] <|
  wG 1 3 <|
  .bind (.elem 2 true 2 0) [.v 1,.v 3] <|
  .bind (.bin .neq 85 (.tmp 19) (.tmp 23)) [.v 6,.v 8] <|
  zO 9 (
   xP false) (
   jP .add 13 1 3 <|
   .jump 1 [.v 0,.v 1,.v 2,.v 10])) (
  xP true)
def qZ7:LV
 |0=>qUf
 |1=>qUe
 |_=>.fail
def qZv:Nat->Pat
 |1=>⟨[⟨.pure,false⟩,⟨.pure,false⟩,⟨.pure,true⟩,⟨.pure,true⟩],[(0,.v 0),(1,.v 1),(12,.v 2),(13,.v 3)],[],[]⟩
 |_=>⟨[],[],[],[]⟩
def qTS:Tree:=
 jT 0 <|
 jT 1 <|
 j4 .neq 7 9 2 3 <|
 zO 4 (
  xP false) (
  jT 0 <|
  .jump 1 [.v 0,.v 1,.v 5,k' 0])
def qTR:Tree:=
 j4 .lss 13 12 3 2 <|
 zO 4 (
  wG 0 3 <|
  vC 1 0 0 3 <|
  wG 1 3 <|
  vC 1 0 1 3 <|
  j4 .neq 19 23 6 8 <|
  zO 9 (
   xP false) (
   jP .add 13 1 3 <|
   .jump 1 [.v 0,.v 1,.v 2,.v 10])) (
  xP true)
def qZu:LV
 |0=>qTS
 |1=>qTR
 |_=>.fail
def qZr:Nat->Pat
 |1=>⟨[⟨.pure,false⟩,⟨.pure,false⟩,⟨.pure,true⟩,⟨.pure,true⟩],[(0,.v 0),(1,.v 1),(12,.v 2),(13,.v 3)],[],[]⟩
 |_=>⟨[],[],[],[]⟩
def qTP:Tree:=
 jT 0 <|
 jT 1 <|
 j4 .neq 7 9 2 3 <|
 zO 4 (
  xP false) (
  jT 0 <|
  .jump 1 [.v 0,.v 1,.v 5,k' 0])
def qTO:Tree:=
 j4 .lss 13 12 3 2 <|
 zO 4 (
  wG 0 3 <|
  vC 1 0 0 3 <|
  wG 1 3 <|
  vC 1 0 1 3 <|
  .bind (.bin .neq 9 (.tmp 19) (.tmp 23)) [.v 6,.v 8] <|
  zO 9 (
   xP false) (
   jP .add 13 1 3 <|
   .jump 1 [.v 0,.v 1,.v 2,.v 10])) (
  xP true)
def qZq:LV
 |0=>qTP
 |1=>qTO
 |_=>.fail
def qZl:Nat->Pat
 |1=>⟨[⟨.pure,false⟩,⟨.pure,false⟩,⟨.pure,true⟩,⟨.pure,true⟩],[(0,.v 0),(1,.v 1),(12,.v 2),(13,.v 3)],[],[]⟩
 |_=>⟨[],[],[],[]⟩
def qTJ:Tree:=
 jT 0 <|
 jT 1 <|
 j4 .neq 7 9 2 3 <|
 zO 4 (
  xP false) (
  jT 0 <|
  .jump 1 [.v 0,.v 1,.v 5,k' 0])
def qTI:Tree:=
 j4 .lss 13 12 3 2 <|
 zO 4 (
  wG 0 3 <|
  .bind (.elem 2 true 2 0) [.v 0,.v 3] <|
  wG 1 3 <|
  .bind (.elem 2 true 2 0) [.v 1,.v 3] <|
  .bind (.bin .neq 65 (.tmp 19) (.tmp 23)) [.v 6,.v 8] <|
  zO 9 (
   xP false) (
   jP .add 13 1 3 <|
   .jump 1 [.v 0,.v 1,.v 2,.v 10])) (
  xP true)
def qZk:LV
 |0=>qTJ
 |1=>qTI
 |_=>.fail
def qZj:Nat->Pat
 |1=>⟨[⟨.pure,false⟩,⟨.pure,false⟩,⟨.pure,true⟩,⟨.pure,true⟩],[(0,.v 0),(1,.v 1),(12,.v 2),(13,.v 3)],[],[]⟩
 |_=>⟨[],[],[],[]⟩
def qTH:Tree:=
 jT 0 <|
 jT 1 <|
 j4 .neq 7 9 2 3 <|
 zO 4 (
  xP false) (
  jT 0 <|
  .jump 1 [.v 0,.v 1,.v 5,k' 0])
def qTG:Tree:=
 j4 .lss 13 12 3 2 <|
 zO 4 (
  wG 0 3 <|
  .bind (.elem 3 true 3 0) [.v 0,.v 3] <|
  wG 1 3 <|
  .bind (.elem 3 true 3 0) [.v 1,.v 3] <|
  .bind (.bin .neq 55 (.tmp 19) (.tmp 23)) [.v 6,.v 8] <|
  zO 9 (
   xP false) (
   jP .add 13 1 3 <|
   .jump 1 [.v 0,.v 1,.v 2,.v 10])) (
  xP true)
def qZi:LV
 |0=>qTH
 |1=>qTG
 |_=>.fail
def qUM:Nat->Pat
 |1=>⟨[⟨.pure,false⟩,⟨.pure,false⟩,⟨.pure,true⟩,⟨.pure,true⟩],[(0,.v 0),(1,.v 1),(12,.v 2),(13,.v 3)],[],[]⟩
 |_=>⟨[],[],[],[]⟩
def qNN:Tree:=
 jT 0 <|
 jT 1 <|
 j4 .neq 7 9 2 3 <|
 zO 4 (
  xP false) (
  jT 0 <|
  .jump 1 [.v 0,.v 1,.v 5,k' 0])
def qNM:Tree:=
 j4 .lss 13 12 3 2 <|
 zO 4 (
  wG 0 3 <|
  .bind (.elem 2 true 2 0) [.v 0,.v 3] <|
  wG 1 3 <|
  .bind (.elem 2 true 2 0) [.v 1,.v 3] <|
  .bind (.bin .neq 105 (.tmp 19) (.tmp 23)) [.v 6,.v 8] <|
  zO 9 (
   xP false) (
   jP .add 13 1 3 <|
   .jump 1 [.v 0,.v 1,.v 2,.v 10])) (
  xP true)
def qVK:LV
 |0=>qNN
 |1=>qNM
 |_=>.fail
def qUL:Nat->Pat
 |1=>⟨[⟨.pure,false⟩,⟨.pure,false⟩,⟨.pure,true⟩,⟨.pure,true⟩],[(0,.v 0),(1,.v 1),(12,.v 2),(13,.v 3)],[],[]⟩
 |_=>⟨[],[],[],[]⟩
def qNL:Tree:=
 jT 0 <|
 jT 1 <|
 j4 .neq 7 9 2 3 <|
 zO 4 (
  xP false) (
  jT 0 <|
  .jump 1 [.v 0,.v 1,.v 5,k' 0])
def qNK:Tree:=
 j4 .lss 13 12 3 2 <|
 zO 4 (
  wG 0 3 <|
  .bind (.elem 2 true 2 0) [.v 0,.v 3] <|
  wG 1 3 <|
  .bind (.elem 2 true 2 0) [.v 1,.v 3] <|
  .bind (.bin .neq 73 (.tmp 19) (.tmp 23)) [.v 6,.v 8] <|
  zO 9 (
   xP false) (
   jP .add 13 1 3 <|
   .jump 1 [.v 0,.v 1,.v 2,.v 10])) (
  xP true)
def qVJ:LV
 |0=>qNL
 |1=>qNK
 |_=>.fail
def qUK:Nat->Pat
 |1=>⟨[⟨.pure,false⟩,⟨.pure,false⟩,⟨.pure,true⟩,⟨.pure,true⟩],[(0,.v 0),(1,.v 1),(12,.v 2),(13,.v 3)],[],[]⟩
 |_=>⟨[],[],[],[]⟩
def qNJ:Tree:=
 jT 0 <|
 jT 1 <|
 j4 .neq 7 9 2 3 <|
 zO 4 (
  xP false) (
  jT 0 <|
  .jump 1 [.v 0,.v 1,.v 5,k' 0])
def qNI:Tree:=
 j4 .lss 13 12 3 2 <|
 zO 4 (
  wG 0 3 <|
  .bind (.elem 2 true 2 0) [.v 0,.v 3] <|
  wG 1 3 <|
  .bind (.elem 2 true 2 0) [.v 1,.v 3] <|
  .bind (.bin .neq 163 (.tmp 19) (.tmp 23)) [.v 6,.v 8] <|
  zO 9 (
   xP false) (
   jP .add 13 1 3 <|
   .jump 1 [.v 0,.v 1,.v 2,.v 10])) (
  xP true)
def qVI:LV
 |0=>qNJ
 |1=>qNI
 |_=>.fail
def qUN:Nat->Pat
 |1=>⟨[⟨.pure,false⟩,⟨.pure,false⟩,⟨.pure,false⟩,⟨.pure,true⟩,⟨.pure,true⟩],[(1,.v 0),(2,.v 1),(15,.v 2),(16,.v 3),(17,.v 4)],[],[]⟩
 |_=>⟨[],[],[],[]⟩
def qNP:Tree:=
 jT 0 <|
 jT 1 <|
 j4 .neq 11 13 3 4 <|
 zO 5 (
  xP false) (
  jT 0 <|
  .jump 1 [.v 1,.v 2,.v 0,.v 6,k' 0])
def qNO:Tree:=
 j4 .lss 17 16 4 3 <|
 zO 5 (
  wG 2 4 <|
  vC 1 0 2 4 <|
  wG 0 4 <|
  vC 1 0 0 4 <|
  .call (.val (.v 1)) [.v 1,.v 7,.v 9] 1 <|
  .bind (.un .not 4) [.v 10] <|
  zO 11 (
   xP false) (
   jP .add 17 1 4 <|
   .jump 1 [.v 0,.v 1,.v 2,.v 3,.v 12])) (
  xP true)
def qVL:LV
 |0=>qNP
 |1=>qNO
 |_=>.fail
def qZC:Nat->Pat
 |_=>⟨[],[],[],[]⟩
def qTT:Tree:=
 xV 2 0 <|
 xV 2 1 <|
 vA 0 2 <|
 vA 0 3 <|
 .bind (.bin .eql 9 (.tmp 6) (.tmp 8)) [.v 4,.v 5] <|
 zO 6 (
  vA 1 2 <|
  vA 1 3 <|
  wM 60 [.v 7,.v 8] 1 <|
  .ret [.v 9]) (
  xP false)
def qZB:LV
 |0=>qTT
 |_=>.fail
def qZt:Nat->Pat
 |_=>⟨[],[],[],[]⟩
def qTQ:Tree:=
 wM 62 [.v 0,.v 1] 1 <|
 .ret [.v 2]
def qZs:LV
 |0=>qTQ
 |_=>.fail
def qZp:Nat->Pat
 |1=>⟨[⟨.pure,false⟩,⟨.pure,false⟩,⟨.pure,false⟩,⟨.pure,true⟩,⟨.pure,true⟩],[(1,.v 0),(2,.v 1),(15,.v 2),(16,.v 3),(17,.v 4)],[],[]⟩
 |_=>⟨[],[],[],[]⟩
def qTN:Tree:=
 jT 0 <|
 jT 1 <|
 j4 .neq 11 13 3 4 <|
 zO 5 (
  xP false) (
  jT 0 <|
  .jump 1 [.v 1,.v 2,.v 0,.v 6,k' 0])
def qTM:Tree:=
 j4 .lss 17 16 4 3 <|
 zO 5 (
  wG 2 4 <|
  .bind (.elem 2 true 2 0) [.v 2,.v 4] <|
  xV 2 7 <|
  wG 0 4 <|
  .bind (.elem 2 true 2 0) [.v 0,.v 4] <|
  xV 2 10 <|
  .call (.val (.v 1)) [.v 1,.v 8,.v 11] 1 <|
  .bind (.un .not 4) [.v 12] <|
  zO 13 (
   xP false) (
   jP .add 17 1 4 <|
   .jump 1 [.v 0,.v 1,.v 2,.v 3,.v 14])) (
  xP true)
def qZo:LV
 |0=>qTN
 |1=>qTM
 |_=>.fail
def qZn:Nat->Pat
 |1=>⟨[⟨.pure,false⟩,⟨.pure,false⟩,⟨.pure,false⟩,⟨.pure,true⟩,⟨.pure,true⟩],[(1,.v 0),(2,.v 1),(15,.v 2),(16,.v 3),(17,.v 4)],[],[]⟩
 |_=>⟨[],[],[],[]⟩
def qTL:Tree:=
 jT 0 <|
 jT 1 <|
 j4 .neq 11 13 3 4 <|
 zO 5 (
  xP false) (
  jT 0 <|
  .jump 1 [.v 1,.v 2,.v 0,.v 6,k' 0])
def qTK:Tree:=
 j4 .lss 17 16 4 3 <|
 zO 5 (
  wG 2 4 <|
  vC 1 0 2 4 <|
  wG 0 4 <|
  vC 1 0 0 4 <|
  .call (.val (.v 1)) [.v 1,.v 7,.v 9] 1 <|
  .bind (.un .not 4) [.v 10] <|
  zO 11 (
   xP false) (
   jP .add 17 1 4 <|
   .jump 1 [.v 0,.v 1,.v 2,.v 3,.v 12])) (
  xP true)
def qZm:LV
 |0=>qTL
 |1=>qTK
 |_=>.fail
def qZ6:Nat->Pat
 |_=>⟨[],[],[],[]⟩
def qUd:Tree:=
 xV 3 0 <|
 xV 3 1 <|
 vA 0 2 <|
 vA 0 3 <|
 .bind (.bin .eql 9 (.tmp 8) (.tmp 10)) [.v 4,.v 5] <|
 zO 6 (
  vA 1 2 <|
  vA 1 3 <|
  .call (.fn 63) [.v 7,.v 8,.fn (.func 59) [] []] 1 <|
  zO 9 (
   vA 2 2 <|
   vA 2 3 <|
   .call (.fn 64) [.v 10,.v 11,.fn (.func 61) [] []] 1 <|
   .ret [.v 12]) (
   xP false)) (
  xP false)
def qZ5:LV
 |0=>qUd
 |_=>.fail
def qZ2:Nat->Pat
 |_=>⟨[],[],[],[]⟩
def qUa:Tree:=
 xV 6 0 <|
 xV 6 1 <|
 vA 0 2 <|
 vA 0 3 <|
 wM 60 [.v 4,.v 5] 1 <|
 zO 6 (
  vA 1 2 <|
  vA 1 3 <|
  wM 60 [.v 7,.v 8] 1 <|
  zO 9 (
   vA 2 2 <|
   vA 2 3 <|
   wM 65 [.v 10,.v 11] 1 <|
   zO 12 (
    vA 3 2 <|
    vA 3 3 <|
    wM 65 [.v 13,.v 14] 1 <|
    zO 15 (
     vA 4 2 <|
     vA 4 3 <|
     .bind (.bin .eql 4 (.tmp 33) (.tmp 35)) [.v 16,.v 17] <|
     zO 18 (
      vA 5 2 <|
      vA 5 3 <|
      .bind (.bin .eql 4 (.tmp 40) (.tmp 42)) [.v 19,.v 20] <|
      .ret [.v 21]) (
      xP false)) (
     xP false)) (
    xP false)) (
   xP false)) (
  xP false)
def qZ1:LV
 |0=>qUa
 |_=>.fail
def qZ4:Nat->Pat
 |1=>⟨[⟨.pure,false⟩,⟨.pure,false⟩,⟨.pure,false⟩,⟨.pure,true⟩,⟨.pure,true⟩],[(1,.v 0),(2,.v 1),(15,.v 2),(16,.v 3),(17,.v 4)],[],[]⟩
 |_=>⟨[],[],[],[]⟩
def qUc:Tree:=
 jT 0 <|
 jT 1 <|
 j4 .neq 11 13 3 4 <|
 zO 5 (
  xP false) (
  jT 0 <|
  .jump 1 [.v 1,.v 2,.v 0,.v 6,k' 0])
def qUb:Tree:=
 j4 .lss 17 16 4 3 <|
 zO 5 (
  wG 2 4 <|
  .bind (.elem 6 true 6 0) [.v 2,.v 4] <|
  xV 6 7 <|
  wG 0 4 <|
  .bind (.elem 6 true 6 0) [.v 0,.v 4] <|
  xV 6 10 <|
  .call (.val (.v 1)) [.v 1,.v 8,.v 11] 1 <|
  .bind (.un .not 4) [.v 12] <|
  zO 13 (
   xP false) (
   jP .add 17 1 4 <|
   .jump 1 [.v 0,.v 1,.v 2,.v 3,.v 14])) (
  xP true)
def qZ3:LV
 |0=>qUc
 |1=>qUb
 |_=>.fail
def qZ0:Nat->Pat
 |_=>⟨[],[],[],[]⟩
def qT9:Tree:=
 xV 3 0 <|
 xV 3 1 <|
 vA 0 2 <|
 vA 0 3 <|
 j4 .eql 6 8 4 5 <|
 zO 6 (
  vA 1 2 <|
  vA 1 3 <|
  wM 66 [.v 7,.v 8] 1 <|
  zO 9 (
   vA 2 2 <|
   vA 2 3 <|
   wM 60 [.v 10,.v 11] 1 <|
   .ret [.v 12]) (
   xP false)) (
  xP false)
def qZZ:LV
 |0=>qT9
 |_=>.fail
def qZf:Nat->Pat
 |_=>⟨[],[],[],[]⟩
def qTD:Tree:=
 xV 8 0 <|
 xV 8 1 <|
 vA 0 2 <|
 vA 0 3 <|
 j4 .neq 6 8 4 5 <|
 zO 6 (
  xP false) (
  vA 2 2 <|
  vA 2 3 <|
  j4 .neq 12 14 7 8 <|
  zO 9 (
   xP false) (
   vA 4 2 <|
   vA 4 3 <|
   j4 .neq 19 21 10 11 <|
   zO 12 (
    xP false) (
    vA 1 2 <|
    vA 1 3 <|
    wM 60 [.v 13,.v 14] 1 <|
    .bind (.un .not 4) [.v 15] <|
    zO 16 (
     xP false) (
     vA 3 2 <|
     vA 3 3 <|
     .call (.fn 111) [.v 17,.v 18,.fn (.func 60) [] []] 1 <|
     zO 19 (
      vA 5 2 <|
      vA 5 3 <|
      wM 112 [.v 20,.v 21] 1 <|
      zO 22 (
       vA 6 2 <|
       vA 6 3 <|
       wM 113 [.v 23,.v 24] 1 <|
       zO 25 (
        vA 7 2 <|
        vA 7 3 <|
        wM 114 [.v 26,.v 27] 1 <|
        .ret [.v 28]) (
        xP false)) (
       xP false)) (
      xP false)))))
def qZe:LV
 |0=>qTD
 |_=>.fail
def qZh:Nat->Pat
 |1=>⟨[⟨.pure,false⟩,⟨.pure,false⟩,⟨.pure,false⟩,⟨.pure,true⟩,⟨.pure,true⟩],[(1,.v 0),(2,.v 1),(15,.v 2),(16,.v 3),(17,.v 4)],[],[]⟩
 |_=>⟨[],[],[],[]⟩
def qTF:Tree:=
 jT 0 <|
 jT 1 <|
 j4 .neq 11 13 3 4 <|
 zO 5 (
  xP false) (
  jT 0 <|
  .jump 1 [.v 1,.v 2,.v 0,.v 6,k' 0])
def qTE:Tree:=
 j4 .lss 17 16 4 3 <|
 zO 5 (
  wG 2 4 <|
  .bind (.elem 8 true 8 0) [.v 2,.v 4] <|
  xV 8 7 <|
  wG 0 4 <|
  .bind (.elem 8 true 8 0) [.v 0,.v 4] <|
  xV 8 10 <|
  .call (.val (.v 1)) [.v 1,.v 8,.v 11] 1 <|
  .bind (.un .not 4) [.v 12] <|
  zO 13 (
   xP false) (
   jP .add 17 1 4 <|
   .jump 1 [.v 0,.v 1,.v 2,.v 3,.v 14])) (
  xP true)
def qZg:LV
 |0=>qTF
 |1=>qTE
 |_=>.fail
def qZY:Nat->Pat
 |_=>⟨[],[],[],[]⟩
def qT8:Tree:=
 .call (.fn 67) [.v 0,.v 1,.fn (.func 68) [] []] 1 <|
 .ret [.v 2]
def qZX:LV
 |0=>qT8
 |_=>.fail
def zAm:Nat->Pat
 |_=>⟨[],[],[],[]⟩
def qUI:Tree:=
 xV 9 0 <|
 xV 9 1 <|
 vA 0 2 <|
 vA 0 3 <|
 wM 28 [.v 4,.v 5] 1 <|
 zO 6 (
  .bind (.mq true 3 1) [.v 2] <|
  .bind (.mq true 3 1) [.v 3] <|
  wM 29 [.v 7,.v 8] 1 <|
  zO 9 (
   vA 4 2 <|
   vA 4 3 <|
   .call (.fn 30) [.v 10,.v 11,.fn (.func 31) [] []] 1 <|
   zO 12 (
    .bind (.mq true 3 5) [.v 2] <|
    .bind (.mq true 3 5) [.v 3] <|
    wM 32 [.v 13,.v 14] 1 <|
    zO 15 (
     vA 8 2 <|
     vA 8 3 <|
     wM 33 [.v 16,.v 17] 1 <|
     .ret [.v 18]) (
     xP false)) (
    xP false)) (
   xP false)) (
  xP false)
def zAl:LV
 |0=>qUI
 |_=>.fail
def zAk:Nat->Pat
 |1=>⟨[⟨.pure,false⟩,⟨.fresh,true⟩,⟨.pure,true⟩,⟨.pure,true⟩,⟨.pure,false⟩,⟨.pure,false⟩],[(2,.v 0),(3,.loc 0 0),(4,.loc 1 0),(7,.v 1),(14,.v 0),(15,.v 2),(16,.v 3)],[some (.whole (.v 4) 9),some (.whole (.v 5) 9)],[]⟩
 |_=>⟨[],[],[],[]⟩
def qUF:Tree:=
 xV 9 0 <|
 xV 9 1 <|
 jT 2 <|
 .jump 1 [.v 2,.c (.slice none 0 0),.v 5,k' 0,.v 3,.v 4]
def qUE:Tree:=
 j4 .lss 16 15 3 2 <|
 zO 6 (
  wG 0 3 <|
  vC 1 0 0 3 <|
  .bind (.lu 9 1 false true) [.v 0,.v 3] <|
  wM 34 [.v 9,.v 8] 1 <|
  zO 10 (
   jP .add 16 1 3 <|
   .jump 1 [.v 0,.v 1,.v 2,.v 11,.v 4,.v 5]) (
   wM 13 [.v 4,.v 8] 0 <|
   qDZ 0 11 <|
   qDZ 1 11 <|
   wM 13 [.v 5,.v 8] 0 <|
   qDZ 0 14 <|
   qDZ 1 14 <|
   .bind (.bin .neq 39 (.tmp 38) (.tmp 39)) [.v 13,.v 16] <|
   zO 17 (
    qGE 8 <|
    .bind (.lit 9 1) [.v 8] <|
    .bind (.app 9 1 16) [.v 1,.v 19] <|
    jP .add 16 1 3 <|
    .jump 1 [.v 0,.v 20,.v 2,.v 21,.v 4,.v 5]) (
    .call (.fn 35) [.v 12,.v 15,.fn (.func 36) [] []] 1 <|
    .bind (.un .not 4) [.v 18] <|
    zO 19 (
     qGE 8 <|
     .bind (.lit 9 1) [.v 8] <|
     .bind (.app 9 1 16) [.v 1,.v 21] <|
     jP .add 16 1 3 <|
     .jump 1 [.v 0,.v 22,.v 2,.v 23,.v 4,.v 5]) (
     jP .add 16 1 3 <|
     .jump 1 [.v 0,.v 1,.v 2,.v 20,.v 4,.v 5])))) (
  .ret [.v 1])
def qJ4:LV
 |0=>qUF
 |1=>qUE
 |_=>.fail
def qZW:Nat->Pat
 |_=>⟨[],[],[],[]⟩
def qZV:Tree:=
 wM 69 [.v 0,.v 1] 1 <|
 jP .geq 7 0 2 <|
 .ret [.v 3]
def qZd:Nat->Pat
 |1=>⟨[⟨.pure,false⟩,⟨.pure,false⟩,⟨.pure,true⟩,⟨.pure,true⟩],[(0,.v 0),(1,.v 1),(7,.v 2),(8,.v 3)],[],[]⟩
 |_=>⟨[],[],[],[]⟩
def qZc:Tree:=
 jT 0 <|
 .jump 1 [.v 0,.v 1,.v 2,k' 0]
def qZb:Tree:=
 j4 .lss 8 7 3 2 <|
 zO 4 (
  wG 0 3 <|
  vC 1 0 0 3 <|
  .bind (.bin .eql 9 (.tmp 11) (.tmp 15)) [.v 1,.v 6] <|
  zO 7 (
   .ret [.v 3]) (
   jP .add 8 1 3 <|
   .jump 1 [.v 0,.v 1,.v 2,.v 8])) (
  .ret [.c (.int .i64 (-1))])
def qY9:Nat->Pat
 |1=>⟨[⟨.pure,false⟩,⟨.pure,false⟩,⟨.pure,true⟩,⟨.pure,true⟩],[(0,.v 0),(1,.v 1),(12,.v 2),(13,.v 3)],[],[]⟩
 |_=>⟨[],[],[],[]⟩
def qTC:Tree:=
 jT 0 <|
 jT 1 <|
 j4 .neq 7 9 2 3 <|
 zO 4 (
  xP false) (
  jT 0 <|
  .jump 1 [.v 0,.v 1,.v 5,k' 0])
def qTB:Tree:=
 j4 .lss 13 12 3 2 <|
 zO 4 (
  wG 0 3 <|
  .bind (.elem 3 true 3 0) [.v 0,.v 3] <|
  wG 1 3 <|
  .bind (.elem 3 true 3 0) [.v 1,.v 3] <|
  .bind (.bin .neq 127 (.tmp 19) (.tmp 23)) [.v 6,.v 8] <|
  zO 9 (
   xP false) (
   jP .add 13 1 3 <|
   .jump 1 [.v 0,.v 1,.v 2,.v 10])) (
  xP true)
def qY8:LV
 |0=>qTC
 |1=>qTB
 |_=>.fail
def qZS:Nat->Pat
 |_=>⟨[],[],[],[]⟩
def qT5:Tree:=
 xV 1 0 <|
 xV 1 1 <|
 vA 0 2 <|
 vA 0 3 <|
 wM 70 [.v 4,.v 5] 1 <|
 .ret [.v 6]
def qZR:LV
 |0=>qT5
 |_=>.fail
def qZU:Nat->Pat
 |1=>⟨[⟨.pure,false⟩,⟨.pure,false⟩,⟨.pure,false⟩,⟨.pure,true⟩,⟨.pure,true⟩],[(1,.v 0),(2,.v 1),(15,.v 2),(16,.v 3),(17,.v 4)],[],[]⟩
 |_=>⟨[],[],[],[]⟩
def qT7:Tree:=
 jT 0 <|
 jT 1 <|
 j4 .neq 11 13 3 4 <|
 zO 5 (
  xP false) (
  jT 0 <|
  .jump 1 [.v 1,.v 2,.v 0,.v 6,k' 0])
def qT6:Tree:=
 j4 .lss 17 16 4 3 <|
 zO 5 (
  wG 2 4 <|
  .bind (.elem 1 true 1 0) [.v 2,.v 4] <|
  xV 1 7 <|
  wG 0 4 <|
  .bind (.elem 1 true 1 0) [.v 0,.v 4] <|
  xV 1 10 <|
  .call (.val (.v 1)) [.v 1,.v 8,.v 11] 1 <|
  .bind (.un .not 4) [.v 12] <|
  zO 13 (
   xP false) (
   jP .add 17 1 4 <|
   .jump 1 [.v 0,.v 1,.v 2,.v 3,.v 14])) (
  xP true)
def qZT:LV
 |0=>qT7
 |1=>qT6
 |_=>.fail
def qY6:Nat->Pat
 |1=>⟨[⟨.pure,true⟩,⟨.pure,false⟩,⟨.pure,false⟩],[(2,.loc 0 0),(3,.loc 1 0),(5,.v 0)],[some (.whole (.v 1) 1),some (.whole (.v 2) 1)],[]⟩
 |_=>⟨[],[],[],[]⟩
def qTv:Tree:=
 xV 1 0 <|
 xV 1 1 <|
 .jump 1 [k' 0,.v 2,.v 3]
def qTu:Tree:=
 vA 0 1 <|
 jT 3 <|
 j4 .lss 6 9 0 4 <|
 zO 5 (
  vA 0 2 <|
  jT 6 <|
  j4 .lss 12 15 0 7 <|
  zO 8 (
   vA 0 1 <|
   wG 9 0 <|
   .bind (.elem 3 true 3 0) [.v 9,.v 0] <|
   vA 0 2 <|
   wG 12 0 <|
   .bind (.elem 3 true 3 0) [.v 12,.v 0] <|
   .bind (.bin .neq 127 (.tmp 24) (.tmp 29)) [.v 11,.v 14] <|
   zO 15 (
    vA 0 1 <|
    wG 16 0 <|
    .bind (.elem 3 true 3 0) [.v 16,.v 0] <|
    vA 0 2 <|
    wG 19 0 <|
    .bind (.elem 3 true 3 0) [.v 19,.v 0] <|
    wM 122 [.v 18,.v 21] 1 <|
    .ret [.v 22]) (
    jP .add 18 1 0 <|
    .jump 1 [.v 16,.v 1,.v 2])) (
   vA 0 1 <|
   jT 9 <|
   vA 0 2 <|
   jT 11 <|
   j4 .lss 44 47 10 12 <|
   .ret [.v 13])) (
  vA 0 1 <|
  jT 6 <|
  vA 0 2 <|
  jT 8 <|
  j4 .lss 44 47 7 9 <|
  .ret [.v 10])
def qTt:LV
 |0=>qTv
 |1=>qTu
 |_=>.fail
def qZP:Nat->Pat
 |_=>⟨[],[],[],[]⟩
def qT2:Tree:=
 xV 1 0 <|
 xV 1 1 <|
 wM 78 [.v 2,.v 3] 1 <|
 .bind (.un .not 4) [.v 4] <|
 zO 5 (
  wM 78 [.v 3,.v 2] 1 <|
  .bind (.un .not 4) [.v 6] <|
  .ret [.v 7]) (
  xP false)
def qZO:LV
 |0=>qT2
 |_=>.fail
def zAg:Nat->Pat
 |1=>⟨[⟨.pure,false⟩,⟨.pure,false⟩,⟨.pure,true⟩],[(0,.v 0),(1,.v 1),(5,.v 2)],[],[]⟩
 |_=>⟨[],[],[],[]⟩
def qUC:Tree:=
 jT 0 <|
 jT 1 <|
 j4 .neq 7 9 2 3 <|
 zO 4 (
  xP false) (
  .jump 1 [.v 0,.v 1,k' 0])
def qUB:Tree:=
 jT 0 <|
 j4 .lss 11 13 2 3 <|
 zO 4 (
  wG 0 2 <|
  .bind (.elem 1 true 1 0) [.v 0,.v 2] <|
  wG 1 2 <|
  .bind (.elem 1 true 1 0) [.v 1,.v 2] <|
  wM 39 [.v 6,.v 8] 1 <|
  .bind (.un .not 4) [.v 9] <|
  zO 10 (
   xP false) (
   jP .add 15 1 2 <|
   .jump 1 [.v 0,.v 1,.v 11])) (
  xP true)
def zAf:LV
 |0=>qUC
 |1=>qUB
 |_=>.fail
def qUH:Nat->Pat
 |_=>⟨[],[],[],[]⟩
def qNF:Tree:=
 xV 3 0 <|
 xV 3 1 <|
 vA 0 2 <|
 vA 0 3 <|
 j4 .neq 6 8 4 5 <|
 zO 6 (
  vA 0 2 <|
  vA 0 3 <|
  j4 .lss 11 13 7 8 <|
  .ret [.v 9]) (
  vA 1 2 <|
  vA 1 3 <|
  j4 .neq 16 18 7 8 <|
  zO 9 (
   vA 1 2 <|
   vA 1 3 <|
   j4 .lss 21 23 10 11 <|
   .ret [.v 12]) (
   vA 2 2 <|
   vA 2 3 <|
   j4 .lss 26 28 10 11 <|
   .ret [.v 12]))
def qVH:LV
 |0=>qNF
 |_=>.fail
def zAj:Nat->Pat
 |_=>⟨[],[],[],[]⟩
def zAi:Tree:=
 xV 9 0 <|
 .bind (.mq true 3 1) [.v 2] <|
 wM 37 [.v 3,.v 1] 0 <|
 qDZ 0 4 <|
 qDZ 1 4 <|
 qDZ 2 4 <|
 .bind (.bin .neq 39 (.tmp 17) (K' 0)) [.v 7,k' 0] <|
 zO 8 (
  .ret [.c (.slice none 0 0),.v 7]) (
  wM 38 [.v 2,.v 5] 0 <|
  qDZ 0 9 <|
  qDZ 1 9 <|
  .ret [.v 10,.v 11])
def qFe:Nat->Pat
 |_=>⟨[⟨.pure,false⟩,⟨.pure,false⟩],[(0,.v 0),(1,.fn (.func 25) [] [.v 1])],[],[]⟩
def qFd:Tree:=
 xV 9 0 <|
 .l4 25 tS [.v 1,.v 2] <|
 .bind (.bin .neq 39 (.tmp 9) (K' 0)) [.v 3,k' 0] <|
 zO 5 (
  .ret [.agg [.c (.slice none 0 0),.c (.string ⟨#[]⟩),.c (.slice none 0 0),.c (.slice none 0 0),.c (.slice none 0 0),k' 0,.c (.slice none 0 0),.c (.slice none 0 0),.c (.slice none 0 0)],.v 3]) (
  xV 9 4 <|
  .ret [.v 6,k' 0])
def qQP:LV
 |0=>qFd
 |_=>.fail
def qFc:Nat->Pat
 |_=>⟨[⟨.pure,false⟩,⟨.pure,false⟩],[(0,.loc 0 0),(1,.v 0)],[some (.whole (.v 1) 9)],[]⟩
def qFb:Tree:=
 .bind .nh [.v 0] <|
 .bind (.k8 true 3) [.pp 2 0] <|
 xV 9 1 <|
 vA 0 4 <|
 vA 1 4 <|
 vA 2 4 <|
 vA 3 4 <|
 vA 4 4 <|
 vA 5 4 <|
 vA 6 4 <|
 vA 7 4 <|
 vA 8 4 <|
 xV 3 3 <|
 vA 0 14 <|
 vA 1 14 <|
 vA 2 14 <|
 .bind .nh [.v 0] <|
 .bind (.k8 true 3) [.pp 18 0] <|
 wM 26 [.v 19] 1 <|
 .ret [.v 20,.agg [.v 5,.v 6,.v 7,.v 8,.v 9,.v 15,.v 16,.v 17,.v 13]]
def qQO:LV
 |0=>qFb
 |_=>.fail
theorem wP:(kY Tryz.f3 3 zEY,
 hd Tryz.f3 3 zEY,
 nr Tryz.f3,
 kY Tryz.f4 1 zEV,
 hd Tryz.f4 1 zEV,
 nr Tryz.f4,
 kY Tryz.f8 2 zES,
 hd Tryz.f8 2 zES,
 nr Tryz.f8,
 kY Tryz.f26 1 zAa,
 hd Tryz.f26 1 zAa,
 nr Tryz.f26,
 kY Tryz.f57 2 qZG,
 hd Tryz.f57 2 qZG,
 nr Tryz.f57,
 kY Tryz.f58 2 qZE,
 hd Tryz.f58 2 qZE,
 nr Tryz.f58,
 kY Tryz.f110 2 qUO,
 hd Tryz.f110 2 qUO,
 nr Tryz.f110,
 kY Tryz.f9 1 zER,
 hd Tryz.f9 1 zER,
 nr Tryz.f9,
 kY Tryz.f27 1 qZ9,
 hd Tryz.f27 1 qZ9,
 nr Tryz.f27,
 kY Tryz.f10 2 zAo,
 hd Tryz.f10 2 zAo,
 nr Tryz.f10,
 kY Tryz.f28 2 qZ8,
 hd Tryz.f28 2 qZ8,
 nr Tryz.f28,
 kY Tryz.f60 2 qZv,
 hd Tryz.f60 2 qZv,
 nr Tryz.f60,
 kY Tryz.f62 2 qZr,
 hd Tryz.f62 2 qZr,
 nr Tryz.f62,
 kY Tryz.f65 2 qZl,
 hd Tryz.f65 2 qZl,
 nr Tryz.f65,
 kY Tryz.f66 2 qZj,
 hd Tryz.f66 2 qZj,
 nr Tryz.f66,
 kY Tryz.f112 2 qUM,
 hd Tryz.f112 2 qUM,
 nr Tryz.f112,
 kY Tryz.f113 2 qUL,
 hd Tryz.f113 2 qUL,
 nr Tryz.f113,
 kY Tryz.f114 2 qUK,
 hd Tryz.f114 2 qUK,
 nr Tryz.f114,
 kY Tryz.f111 3 qUN,
 hd Tryz.f111 3 qUN,
 nr Tryz.f111,
 kY Tryz.f59 2 qZC,
 hd Tryz.f59 2 qZC,
 nr Tryz.f59,
 kY Tryz.f61 2 qZt,
 hd Tryz.f61 2 qZt,
 nr Tryz.f61,
 kY Tryz.f63 3 qZp,
 hd Tryz.f63 3 qZp,
 nr Tryz.f63,
 kY Tryz.f64 3 qZn,
 hd Tryz.f64 3 qZn,
 nr Tryz.f64,
 kY Tryz.f29 2 qZ6,
 hd Tryz.f29 2 qZ6,
 nr Tryz.f29,
 kY Tryz.f31 2 qZ2,
 hd Tryz.f31 2 qZ2,
 nr Tryz.f31,
 kY Tryz.f30 3 qZ4,
 hd Tryz.f30 3 qZ4,
 nr Tryz.f30,
 kY Tryz.f32 2 qZ0,
 hd Tryz.f32 2 qZ0,
 nr Tryz.f32,
 kY Tryz.f68 2 qZf,
 hd Tryz.f68 2 qZf,
 nr Tryz.f68,
 kY Tryz.f67 3 qZh,
 hd Tryz.f67 3 qZh,
 nr Tryz.f67,
 kY Tryz.f33 2 qZY,
 hd Tryz.f33 2 qZY,
 nr Tryz.f33,
 kY Tryz.f11 2 zAm,
 hd Tryz.f11 2 zAm,
 nr Tryz.f11,
 kY Tryz.f12 3 zAk,
 hd Tryz.f12 3 zAk,
 nr Tryz.f12,
 kY Tryz.f34 2 qZW,
 hd Tryz.f34 2 qZW,
 nr Tryz.f34,
 kY Tryz.f69 2 qZd,
 hd Tryz.f69 2 qZd,
 nr Tryz.f69,
 kY Tryz.f70 2 qY9,
 hd Tryz.f70 2 qY9,
 nr Tryz.f70,
 kY Tryz.f36 2 qZS,
 hd Tryz.f36 2 qZS,
 nr Tryz.f36,
 kY Tryz.f35 3 qZU,
 hd Tryz.f35 3 qZU,
 nr Tryz.f35,
 kY Tryz.f78 2 qY6,
 hd Tryz.f78 2 qY6,
 nr Tryz.f78,
 kY Tryz.f39 2 qZP,
 hd Tryz.f39 2 qZP,
 nr Tryz.f39,
 kY Tryz.f14 2 zAg,
 hd Tryz.f14 2 zAg,
 nr Tryz.f14,
 kY Tryz.f122 2 qUH,
 hd Tryz.f122 2 qUH,
 nr Tryz.f122,
 kY Tryz.f13 2 zAj,
 hd Tryz.f13 2 zAj,
 nr Tryz.f13,
 qGV EE (λk S=>wN (Nat.max Tryz.f24.ntmps tT.n) (qFe k) k S) Tryz.f24 tT,
 xH EE (λk=>(qFe k).st (Nat.max Tryz.f24.ntmps tT.n)) (λk S=>wN (Nat.max Tryz.f24.ntmps tT.n) (qFe k) k S) 1 (wK Tryz.f24) (qHT EE tT Tryz.f24.results.toList),
 nr Tryz.f24,
 qGV EE (λk S=>wN (Nat.max Tryz.f25.ntmps tS.n) (qFc k) k S) Tryz.f25 tS,
 xH EE (λk=>(qFc k).st (Nat.max Tryz.f25.ntmps tS.n)) (λk S=>wN (Nat.max Tryz.f25.ntmps tS.n) (qFc k) k S) 1 (wK Tryz.f25) (qHT EE tS Tryz.f25.results.toList),
 nr Tryz.f25) =
 (qZN,[(1,qZM)],false,qZI,[(1,qZH)],false,qY2,[],false,qUm,[(1,qUl),(2,qUk),(3,qUj)],false,qTV,[],false,qTU,[],false,qNS,[(1,qNR)],false,qY0,[(1,qYZ),(2,qYY),(3,qYX),(4,qYW)],false,qUi,[(1,qUh)],false,qUQ,[(1,qUP)],false,qUf,[(1,qUe)],false,qTS,[(1,qTR)],false,qTP,[(1,qTO)],false,qTJ,[(1,qTI)],false,qTH,[(1,qTG)],false,qNN,[(1,qNM)],false,qNL,[(1,qNK)],false,qNJ,[(1,qNI)],false,qNP,[(1,qNO)],false,qTT,[],false,qTQ,[],false,qTN,[(1,qTM)],false,qTL,[(1,qTK)],false,qUd,[],false,qUa,[],false,qUc,[(1,qUb)],false,qT9,[],false,qTD,[],false,qTF,[(1,qTE)],false,qT8,[],false,qUI,[],false,qUF,[(1,qUE)],false,qZV,[],false,qZc,[(1,qZb)],false,qTC,[(1,qTB)],false,qT5,[],false,qT7,[(1,qT6)],false,qTv,[(1,qTu)],false,qT2,[],false,qUC,[(1,qUB)],false,qNF,[],false,zAi,[],false,qFd,[],false,qFb,[],false):=by kernel_rfl
theorem u3{ds:LR}{d:D}(x:ds.length=3)(h:qP EE (qA EE) qZL 0 ds d):qA EE 3 ds d:=
 hv Tryz.func3 rfl wP (j9 rfl<|jU) x h
theorem u4{ds:LR}{d:D}(x:ds.length=1)(h:qP EE (qA EE) zCs 0 ds d):qA EE 4 ds d:=
 hv Tryz.func4 rfl (xE (xE (xE wP))) (j9 rfl<|jU) x h
theorem u8{ds:LR}{d:D}(x:ds.length=2)(h:qP EE (qA EE) zCr 0 ds d):qA EE 8 ds d:=
 hv Tryz.func8 rfl (xE (xE (xQ wP))) (jU) x h
theorem zGl{ds:LR}{d:D}(x:ds.length=1)(h:qP EE (qA EE) qJ3 0 ds d):qA EE 26 ds d:=
 hv Tryz.func26 rfl (xE (xQ (xQ wP))) (j9 rfl<|j9 rfl<|j9 rfl<|jU) x h
theorem zGa{ds:LR}{d:D}(x:ds.length=2)(h:qP EE (qA EE) qZF 0 ds d):qA EE 57 ds d:=
 hv Tryz.func57 rfl (xQ (xQ (xQ wP))) (jU) x h
theorem zF9{ds:LR}{d:D}(x:ds.length=2)(h:qP EE (qA EE) qZD 0 ds d):qA EE 58 ds d:=
 hv Tryz.func58 rfl (xE (xE (xE (xQ (xQ (xQ wP)))))) (jU) x h
theorem zCL{ds:LR}{d:D}(x:ds.length=2)(h:qP EE (qA EE) qNQ 0 ds d):qA EE 110 ds d:=
 hv Tryz.func110 rfl (xE (xE (zA wP))) (j9 rfl<|jU) x h
theorem u9{ds:LR}{d:D}(x:ds.length=1)(h:qP EE (qA EE) qGJ 0 ds d):qA EE 9 ds d:=
 hv Tryz.func9 rfl (xE (xQ (zA wP))) (j9 rfl<|j9 rfl<|j9 rfl<|j9 rfl<|jU) x h
theorem zGk{ds:LR}{d:D}(x:ds.length=1)(h:qP EE (qA EE) qUg 0 ds d):qA EE 27 ds d:=
 hv Tryz.func27 rfl (xQ (xQ (zA wP))) (j9 rfl<|jU) x h
theorem zEZ{ds:LR}{d:D}(x:ds.length=2)(h:qP EE (qA EE) zAn 0 ds d):qA EE 10 ds d:=
 hv Tryz.func10 rfl (xE (xE (xE (xQ (xQ (zA wP)))))) (j9 rfl<|jU) x h
theorem zGj{ds:LR}{d:D}(x:ds.length=2)(h:qP EE (qA EE) qZ7 0 ds d):qA EE 28 ds d:=
 hv Tryz.func28 rfl (xE (xE (xQ (xQ (xQ (zA wP)))))) (j9 rfl<|jU) x h
theorem zF7{ds:LR}{d:D}(x:ds.length=2)(h:qP EE (qA EE) qZu 0 ds d):qA EE 60 ds d:=
 hv Tryz.func60 rfl (xE (zA (zA wP))) (j9 rfl<|jU) x h
theorem zF5{ds:LR}{d:D}(x:ds.length=2)(h:qP EE (qA EE) qZq 0 ds d):qA EE 62 ds d:=
 hv Tryz.func62 rfl (xQ (zA (zA wP))) (j9 rfl<|jU) x h
theorem zF2{ds:LR}{d:D}(x:ds.length=2)(h:qP EE (qA EE) qZk 0 ds d):qA EE 65 ds d:=
 hv Tryz.func65 rfl (xE (xE (xE (xQ (zA (zA wP)))))) (j9 rfl<|jU) x h
theorem zF1{ds:LR}{d:D}(x:ds.length=2)(h:qP EE (qA EE) qZi 0 ds d):qA EE 66 ds d:=
 hv Tryz.func66 rfl (xE (xE (xQ (xQ (zA (zA wP)))))) (j9 rfl<|jU) x h
theorem zCJ{ds:LR}{d:D}(x:ds.length=2)(h:qP EE (qA EE) qVK 0 ds d):qA EE 112 ds d:=
 hv Tryz.func112 rfl (xE (xQ (xQ (xQ (zA (zA wP)))))) (j9 rfl<|jU) x h
theorem zCI{ds:LR}{d:D}(x:ds.length=2)(h:qP EE (qA EE) qVJ 0 ds d):qA EE 113 ds d:=
 hv Tryz.func113 rfl (zA (zA (zA wP))) (j9 rfl<|jU) x h
theorem zCH{ds:LR}{d:D}(x:ds.length=2)(h:qP EE (qA EE) qVI 0 ds d):qA EE 114 ds d:=
 hv Tryz.func114 rfl (xE (xE (xE (zA (zA (zA wP)))))) (j9 rfl<|jU) x h
theorem zCK{ds:LR}{d:D}(x:ds.length=3)(h:qP EE (qA EE) qVL 0 ds d):qA EE 111 ds d:=
 hv Tryz.func111 rfl (xE (xE (xQ (zA (zA (zA wP)))))) (j9 rfl<|jU) x h
theorem zF8{ds:LR}{d:D}(x:ds.length=2)(h:qP EE (qA EE) qZB 0 ds d):qA EE 59 ds d:=
 hv Tryz.func59 rfl (xE (xQ (xQ (zA (zA (zA wP)))))) (jU) x h
theorem zF6{ds:LR}{d:D}(x:ds.length=2)(h:qP EE (qA EE) qZs 0 ds d):qA EE 61 ds d:=
 hv Tryz.func61 rfl (xQ (xQ (xQ (zA (zA (zA wP)))))) (jU) x h
theorem zF4{ds:LR}{d:D}(x:ds.length=3)(h:qP EE (qA EE) qZo 0 ds d):qA EE 63 ds d:=
 hv Tryz.func63 rfl (xE (xE (xE (xQ (xQ (xQ (zA (zA (zA wP))))))))) (j9 rfl<|jU) x h
theorem zF3{ds:LR}{d:D}(x:ds.length=3)(h:qP EE (qA EE) qZm 0 ds d):qA EE 64 ds d:=
 hv Tryz.func64 rfl (xE (xE (zA (zA (zA (zA wP)))))) (j9 rfl<|jU) x h
theorem zGi{ds:LR}{d:D}(x:ds.length=2)(h:qP EE (qA EE) qZ5 0 ds d):qA EE 29 ds d:=
 hv Tryz.func29 rfl (xE (xQ (zA (zA (zA (zA wP)))))) (jU) x h
theorem zGg{ds:LR}{d:D}(x:ds.length=2)(h:qP EE (qA EE) qZ1 0 ds d):qA EE 31 ds d:=
 hv Tryz.func31 rfl (xQ (xQ (zA (zA (zA (zA wP)))))) (jU) x h
theorem zGh{ds:LR}{d:D}(x:ds.length=3)(h:qP EE (qA EE) qZ3 0 ds d):qA EE 30 ds d:=
 hv Tryz.func30 rfl (xE (xE (xE (xQ (xQ (zA (zA (zA (zA wP))))))))) (j9 rfl<|jU) x h
theorem u32{ds:LR}{d:D}(x:ds.length=2)(h:qP EE (qA EE) qZZ 0 ds d):qA EE 32 ds d:=
 hv Tryz.func32 rfl (xE (xE (xQ (xQ (xQ (zA (zA (zA (zA wP))))))))) (jU) x h
theorem zFZ{ds:LR}{d:D}(x:ds.length=2)(h:qP EE (qA EE) qZe 0 ds d):qA EE 68 ds d:=
 hv Tryz.func68 rfl (xE (zA (zA (zA (zA (zA wP)))))) (jU) x h
theorem zF0{ds:LR}{d:D}(x:ds.length=3)(h:qP EE (qA EE) qZg 0 ds d):qA EE 67 ds d:=
 hv Tryz.func67 rfl (xQ (zA (zA (zA (zA (zA wP)))))) (j9 rfl<|jU) x h
theorem zGf{ds:LR}{d:D}(x:ds.length=2)(h:qP EE (qA EE) qZX 0 ds d):qA EE 33 ds d:=
 hv Tryz.func33 rfl (xE (xE (xE (xQ (zA (zA (zA (zA (zA wP))))))))) (jU) x h
theorem zGq{ds:LR}{d:D}(x:ds.length=2)(h:qP EE (qA EE) zAl 0 ds d):qA EE 11 ds d:=
 hv Tryz.func11 rfl (xE (xE (xQ (xQ (zA (zA (zA (zA (zA wP))))))))) (jU) x h
theorem zGp{ds:LR}{d:D}(x:ds.length=3)(h:qP EE (qA EE) qJ4 0 ds d):qA EE 12 ds d:=
 hv Tryz.func12 rfl (xE (xQ (xQ (xQ (zA (zA (zA (zA (zA wP))))))))) (j9 rfl<|jU) x h
theorem zFY{ds:LR}{d:D}(x:ds.length=2)(h:qP EE (qA EE) qY8 0 ds d):qA EE 70 ds d:=
 hv Tryz.func70 rfl (xE (xE (xQ (zA (zA (zA (zA (zA (zA wP))))))))) (j9 rfl<|jU) x h
theorem zGd{ds:LR}{d:D}(x:ds.length=2)(h:qP EE (qA EE) qZR 0 ds d):qA EE 36 ds d:=
 hv Tryz.func36 rfl (xE (xQ (xQ (zA (zA (zA (zA (zA (zA wP))))))))) (jU) x h
theorem zGe{ds:LR}{d:D}(x:ds.length=3)(h:qP EE (qA EE) qZT 0 ds d):qA EE 35 ds d:=
 hv Tryz.func35 rfl (xQ (xQ (xQ (zA (zA (zA (zA (zA (zA wP))))))))) (j9 rfl<|jU) x h
theorem zFW{ds:LR}{d:D}(x:ds.length=2)(h:qP EE (qA EE) qTt 0 ds d):qA EE 78 ds d:=
 hv Tryz.func78 rfl (xE (xE (xE (xQ (xQ (xQ (zA (zA (zA (zA (zA (zA wP)))))))))))) (j9 rfl<|jU) x h
theorem zGb{ds:LR}{d:D}(x:ds.length=2)(h:qP EE (qA EE) qZO 0 ds d):qA EE 39 ds d:=
 hv Tryz.func39 rfl (xE (xE (zA (zA (zA (zA (zA (zA (zA wP))))))))) (jU) x h
theorem zGo{ds:LR}{d:D}(x:ds.length=2)(h:qP EE (qA EE) zAf 0 ds d):qA EE 14 ds d:=
 hv Tryz.func14 rfl (xE (xQ (zA (zA (zA (zA (zA (zA (zA wP))))))))) (j9 rfl<|jU) x h
theorem zCE{ds:LR}{d:D}(x:ds.length=2)(h:qP EE (qA EE) qVH 0 ds d):qA EE 122 ds d:=
 hv Tryz.func122 rfl (xQ (xQ (zA (zA (zA (zA (zA (zA (zA wP))))))))) (jU) x h
theorem qYS{ds:LR}{d:D}(h:qP EE (qA EE) qQP 0 ds d)(hd:∃x,d=kC x/\x.length=2):qA EE (Nat.add dU 24) (.mode tT::ds) d:=
 fY he (dC (c:=wK Tryz.f24) Tryz.func24 rfl ((pI (zA (zA (zA (zA (zA (zA (zA (zA wP))))))))).1)) (c:=wK Tryz.f24) rfl (m:=tT) (by decide +kernel) (λk=>by unfold qFe;split<;>decide) ((pI (xE (xE (xQ (xQ (xQ (zA (zA (zA (zA (zA (zA (zA wP))))))))))))).1) (by rw[(pI (xE (xE (xE (xQ (xQ (xQ (zA (zA (zA (zA (zA (zA (zA wP)))))))))))))).1];exact jU) h hd
theorem qYR{ds:LR}{d:D}(h:qP EE (qA EE) qQO 0 ds d)(hd:∃x,d=kC x/\x.length=2):qA EE (Nat.add dU 25) (.mode tS::ds) d:=
 fY he (dC (c:=wK Tryz.f25) Tryz.func25 rfl ((xE (xE (xE (zA (zA (zA (zA (zA (zA (zA (zA wP))))))))))))) (c:=wK Tryz.f25) rfl (m:=tS) (by decide +kernel) (λk=>by unfold qFc;split<;>decide) ((pI (xE (zA (zA (zA (zA (zA (zA (zA (zA wP)))))))))).1) (by rw[(pI (xE (xE (zA (zA (zA (zA (zA (zA (zA (zA wP))))))))))).1];exact jU) h hd
end Go.Proofs.YtocbbgmhkhallaaGreatDoor
