/- Trees of functions. Conditions: none. -/
import Derived.Test.YtminhjecpnpaeaaGreatDoorYa
set_option linter.unusedVariables false
set_option linter.unusedSimpArgs false
namespace Go.Proofs.YtminhjecpnpaeaaGreatDoor.Ry
open Go Go.Am Go.Proofs
def rX:Go.Am.Mode:=⟨⟨[⟨.fresh,true⟩,⟨.pure,false⟩],[(0,.v 0),(1,.fn (.func 155) [] [.v 1])],[],[]⟩,2,⟨[⟨.fresh,true⟩],[(0,.v 0)],[],[]⟩⟩
def iE:Go.Am.Mode:=⟨⟨[⟨.pure,false⟩,⟨.pure,false⟩,⟨.pure,false⟩],[(0,.v 0),(1,.fn (.func 27) [] [.v 1,.v 2])],[],[]⟩,2,⟨[⟨.pure,false⟩,⟨.pure,false⟩],[(0,.v 0),(1,.v 1)],[],[]⟩⟩
def iD:Go.Am.Mode:=⟨⟨[⟨.pure,false⟩,⟨.pure,false⟩],[(0,.v 0),(1,.fn (.func 33) [] [.v 1])],[],[]⟩,2,⟨[⟨.pure,false⟩,⟨.pure,false⟩],[(0,.v 0),(1,.v 1)],[],[]⟩⟩
def tI:Go.Am.Mode:=⟨⟨[⟨.pure,false⟩,⟨.pure,false⟩,⟨.pure,false⟩],[(0,.loc 0 0),(1,.v 0),(2,.v 1)],[some (.whole (.v 2) 9)],[]⟩,3,⟨[⟨.pure,false⟩,⟨.pure,false⟩],[(0,.v 0)],[some (.whole (.v 1) 9)],[]⟩⟩
def tH:Go.Am.Mode:=⟨⟨[⟨.pure,false⟩,⟨.pure,false⟩],[(0,.loc 0 0),(1,.v 0)],[some (.whole (.v 1) 9)],[]⟩,2,⟨[⟨.pure,false⟩,⟨.pure,false⟩],[(0,.v 0)],[some (.whole (.v 1) 9)],[]⟩⟩
def iB:Go.Am.Mode:=⟨⟨[⟨.pure,false⟩],[(0,.v 0)],[],[]⟩,1,⟨[⟨.fresh,true⟩],[(0,.v 0)],[],[]⟩⟩
def qTr:Go.Am.Mode:=⟨⟨[⟨.fresh,true⟩,⟨.pure,false⟩,⟨.fresh,true⟩],[(0,.v 0),(1,.v 1),(2,.v 2)],[],[]⟩,3,⟨[⟨.fresh,true⟩],[(0,.v 0)],[],[]⟩⟩
def qTq:Go.Am.Mode:=⟨⟨[⟨.fresh,true⟩,⟨.pure,false⟩,⟨.pure,false⟩],[(0,.v 0),(1,.v 1),(2,.v 2)],[],[]⟩,3,⟨[⟨.fresh,true⟩],[(0,.v 0)],[],[]⟩⟩
def qXr:Nat->Pat
 |_=>⟨[],[],[],[]⟩
def qTe:Tree:=
 kX 9 0 <|
 kX 6 2 <|
 yF .lss 9 0 1 <|
 vW 5 (
  .ret [.agg [.c (.slice none 0 0),.c (.string ⟨#[]⟩),.c (.slice none 0 0),.c (.slice none 0 0),.c (.slice none 0 0),k' 0,.c (.slice none 0 0),.c (.slice none 0 0),.c (.slice none 0 0)],k' 2]) (
  vA 4 3 <|
  xV 6 <|
  yE .gtr 12 15 1 7 <|
  vW 8 (
   .ret [.agg [.c (.slice none 0 0),.c (.string ⟨#[]⟩),.c (.slice none 0 0),.c (.slice none 0 0),.c (.slice none 0 0),k' 0,.c (.slice none 0 0),.c (.slice none 0 0),.c (.slice none 0 0)],k' 2]) (
   vA 4 3 <|
   xV 9 <|
   yF .geq 21 12 10 <|
   vW 11 (
    .ret [.agg [.c (.slice none 0 0),.c (.string ⟨#[]⟩),.c (.slice none 0 0),.c (.slice none 0 0),.c (.slice none 0 0),k' 0,.c (.slice none 0 0),.c (.slice none 0 0),.c (.slice none 0 0)],k' 11]) (
    .bind (.fld true 1 0) [.v 3] <|
    lZ 32 [.v 12,.v 4] 1 <|
    .bind (.bin .neq 43 (.tmp 28) (K' 0)) [.v 13,k' 0] <|
    vW 14 (
     .ret [.agg [.c (.slice none 0 0),.c (.string ⟨#[]⟩),.c (.slice none 0 0),.c (.slice none 0 0),.c (.slice none 0 0),k' 0,.c (.slice none 0 0),.c (.slice none 0 0),.c (.slice none 0 0)],.v 13]) (
     .bind (.lit 39 6) [] <|
     vA 4 3 <|
     .bind (.slc 39 6 false true) [.v 16,.v 1] <|
     .bind (.app 39 6 104) [.v 15,.v 17] <|
     kX 6 4 <|
     .bind (.lit 39 6) [.v 4] <|
     .bind (.app 39 6 104) [.v 18,.v 20] <|
     vA 4 3 <|
     .bind (.slc 39 6 true false) [.v 22,.v 1] <|
     .bind (.app 39 6 104) [.v 21,.v 23] <|
     kX 9 3 <|
     vA 0 25 <|
     vA 1 25 <|
     vA 2 25 <|
     vA 3 25 <|
     vA 4 25 <|
     vA 5 25 <|
     vA 6 25 <|
     vA 7 25 <|
     vA 8 25 <|
     .ret [.agg [.v 26,.v 27,.v 28,.v 29,.v 24,.v 31,.v 32,.v 33,.v 34],k' 0]))))
def qXq:Nat->Tree
 |0=>qTe
 |_=>.fail
def qXn:Nat->Pat
 |_=>⟨[],[],[],[]⟩
def qTb:Tree:=
 kX 9 0 <|
 yF .lss 6 0 1 <|
 vW 3 (
  .ret [.agg [.c (.slice none 0 0),.c (.string ⟨#[]⟩),.c (.slice none 0 0),.c (.slice none 0 0),.c (.slice none 0 0),k' 0,.c (.slice none 0 0),.c (.slice none 0 0),.c (.slice none 0 0)],k' 2]) (
  vA 4 2 <|
  xV 4 <|
  yE .geq 9 12 1 5 <|
  vW 6 (
   .ret [.agg [.c (.slice none 0 0),.c (.string ⟨#[]⟩),.c (.slice none 0 0),.c (.slice none 0 0),.c (.slice none 0 0),k' 0,.c (.slice none 0 0),.c (.slice none 0 0),.c (.slice none 0 0)],k' 2]) (
   .bind (.lit 39 6) [] <|
   vA 4 2 <|
   .bind (.slc 39 6 false true) [.v 8,.v 1] <|
   .bind (.app 39 6 104) [.v 7,.v 9] <|
   vA 4 2 <|
   yF .add 24 1 1 <|
   .bind (.slc 39 6 true false) [.v 11,.v 12] <|
   .bind (.app 39 6 104) [.v 10,.v 13] <|
   kX 9 2 <|
   vA 0 15 <|
   vA 1 15 <|
   vA 2 15 <|
   vA 3 15 <|
   vA 4 15 <|
   vA 5 15 <|
   vA 6 15 <|
   vA 7 15 <|
   vA 8 15 <|
   .ret [.agg [.v 16,.v 17,.v 18,.v 19,.v 14,.v 21,.v 22,.v 23,.v 24],k' 0]))
def qXm:Nat->Tree
 |0=>qTb
 |_=>.fail
def qXj:Nat->Pat
 |_=>⟨[],[],[],[]⟩
def qS6:Tree:=
 kX 1 0 <|
 kX 6 1 <|
 vA 0 3 <|
 xV 4 <|
 yF .eql 8 0 5 <|
 vW 6 (
  qB3 1) (
  vA 1 3 <|
  xV 7 <|
  vA 0 3 <|
  xV 9 <|
  yE .neq 13 16 8 10 <|
  vW 11 (
   qB3 1) (
   .bind .boxw [.v 2] <|
   vA 0 3 <|
   .call (.fn 66) [.v 13,.fn (.func 65) [] [.pp 12 0]] 1 <|
   vW 14 (
    qB3 19) (
    vA 1 3 <|
    .bind .box [.fn (.func 65) [] [.pp 12 0]] <|
    .call (.fn 66) [.v 15,.fn (.func 67) [] [.pp 16 0]] 1 <|
    vW 17 (
     qB3 19) (
     vA 0 3 <|
     lZ 68 [.v 18] 0 <|
     xV 19 <|
     vA 0 3 <|
     xV 21 <|
     yE .lss 33 36 20 22 <|
     vW 23 (
      qB3 8) (
      vA 2 3 <|
      xV 24 <|
      yF .gtr 40 2 25 <|
      vW 26 (
       qB3 5) (
       vA 3 3 <|
       xV 27 <|
       yF .gtr 45 2 28 <|
       vW 29 (
        qB3 5) (
        qB3 0)))))))
def qXi:Nat->Tree
 |0=>qS6
 |_=>.fail
def qW3:Nat->Pat
 |_=>⟨[],[],[],[]⟩
def qSI:Tree:=
 yF .lss 4 1 0 <|
 vW 2 (
  pC true) (
  .bind .pchk [.v 1] <|
  .bind (.loadp false 1) [.pp 3 0] <|
  xV 4 <|
  yE .gtr 7 10 0 5 <|
  .ret [.v 6])
def qW2:Nat->Tree
 |0=>qSI
 |_=>.fail
def qWZ:Nat->Pat
 |_=>⟨[],[],[],[]⟩
def qSG:Tree:=
 yF .neq 4 0 0 <|
 vW 2 (
  .bind .pchk [.v 1] <|
  .bind (.loadp false 1) [.pp 3 0] <|
  .call (.val (.v 4)) [.v 4,.v 0] 1 <|
  .ret [.v 5]) (
  pC false)
def qWY:Nat->Tree
 |0=>qSG
 |_=>.fail
def qW1:Nat->Pat
 |_=>⟨[],[],[],[]⟩
def qSH:Tree:=
 lZ 120 [.v 0,.v 1] 1 <|
 yF .geq 7 0 2 <|
 .ret [.v 3]
def qW0:Nat->Tree
 |0=>qSH
 |_=>.fail
def qTc:Nat->Pat
 |1=>⟨[⟨.pure,false⟩,⟨.pure,false⟩,⟨.pure,true⟩,⟨.pure,true⟩],[(0,.v 0),(1,.v 1),(7,.v 2),(8,.v 3)],[],[]⟩
 |_=>⟨[],[],[],[]⟩
def qM2:Tree:=
 xV 0 <|
 .jump 1 [.v 0,.v 1,.v 2,k' 0]
def qM1:Tree:=
 yE .lss 8 7 3 2 <|
 vW 4 (
  gA 0 3 <|
  zS 1 0 0 3 <|
  .call (.val (.v 1)) [.v 1,.v 6] 1 <|
  vW 7 (
   .ret [.v 3]) (
   yF .add 8 1 3 <|
   .jump 1 [.v 0,.v 1,.v 2,.v 8])) (
  .ret [.c (.int .i64 (-1))])
def qM0:Nat->Tree
 |0=>qM2
 |1=>qM1
 |_=>.fail
def qXg:Nat->Pat
 |1=>⟨[⟨.pure,true⟩,⟨.pure,true⟩,⟨.pure,false⟩,⟨.pure,false⟩],[(2,.loc 0 0),(3,.loc 1 0),(21,.v 0),(22,.v 1)],[some (.whole (.v 2) 1),some (.whole (.v 3) 6)],[]⟩
 |_=>⟨[],[],[],[]⟩
def qS2:Tree:=
 kX 1 0 <|
 kX 6 1 <|
 vA 0 3 <|
 xV 4 <|
 yF .eql 8 0 5 <|
 vW 6 (
  qB3 1) (
  vA 1 3 <|
  xV 7 <|
  vA 0 3 <|
  xV 9 <|
  yE .neq 13 16 8 10 <|
  vW 11 (
   qB3 1) (
   vA 0 3 <|
   xV 12 <|
   .jump 1 [.v 13,k' 0,.v 2,.v 3]))
def qS1:Tree:=
 yE .lss 22 21 1 0 <|
 vW 4 (
  vA 0 3 <|
  gA 5 1 <|
  zS 1 0 5 1 <|
  lZ 71 [.v 2,.v 7] 1 <|
  .bind (.un .not 4) [.v 8] <|
  vW 9 (
   qB3 19) (
   vA 1 3 <|
   gA 10 1 <|
   zS 1 0 10 1 <|
   yF .neq 38 0 12 <|
   vW 13 (
    vA 1 3 <|
    gA 14 1 <|
    zS 1 0 14 1 <|
    lZ 71 [.v 2,.v 16] 1 <|
    .bind (.un .not 4) [.v 17] <|
    vW 18 (
     qB3 19) (
     yF .add 22 1 1 <|
     .jump 1 [.v 0,.v 19,.v 2,.v 3])) (
    yF .add 22 1 1 <|
    .jump 1 [.v 0,.v 14,.v 2,.v 3]))) (
  vA 0 3 <|
  lZ 72 [.v 5] 0 <|
  xV 6 <|
  vA 0 3 <|
  xV 8 <|
  yE .neq 55 58 7 9 <|
  vW 10 (
   qB3 8) (
   vA 2 3 <|
   xV 11 <|
   yF .gtr 62 2 12 <|
   vW 13 (
    qB3 5) (
    vA 3 3 <|
    xV 14 <|
    yF .gtr 67 2 15 <|
    vW 16 (
     qB3 5) (
     qB3 0))))
def qS0:Nat->Tree
 |0=>qS2
 |1=>qS1
 |_=>.fail
def qWW:Nat->Pat
 |_=>⟨[],[],[],[]⟩
def qSE:Tree:=
 kX 1 0 <|
 yF .geq 5 1 1 <|
 vW 3 (
  vA 0 2 <|
  xV 4 <|
  yE .leq 8 11 1 5 <|
  .ret [.v 6]) (
  pC false)
def qWV:Nat->Tree
 |0=>qSE
 |_=>.fail
def qWU:Nat->Pat
 |1=>⟨[⟨.pure,false⟩,⟨.pure,false⟩,⟨.pure,true⟩,⟨.pure,true⟩],[(0,.v 0),(3,.v 1),(6,.v 2),(7,.v 3)],[],[]⟩
 |_=>⟨[],[],[],[]⟩
def qSD:Tree:=
 xV 0 <|
 .jump 1 [.v 0,.c (.slice none 0 0),.v 1,k' 0]
def qSC:Tree:=
 yE .lss 7 6 3 2 <|
 vW 4 (
  gA 0 3 <|
  zS 1 0 0 3 <|
  lZ 125 [.v 1,.v 6] 0 <|
  yF .add 7 1 3 <|
  .jump 1 [.v 0,.v 7,.v 2,.v 8]) (
  .ret [.v 1])
def qMX:Nat->Tree
 |0=>qSD
 |1=>qSC
 |_=>.fail
def qGj:Nat->Pat
 |1=>⟨[⟨.pure,false⟩,⟨.pure,false⟩,⟨.fresh,true⟩,⟨.pure,true⟩],[(0,.v 0),(1,.v 1),(5,.v 2),(6,.v 3)],[],[]⟩
 |_=>⟨[],[],[],[]⟩
def qBL:Tree:=
 .jump 1 [.v 0,.v 1,.c (.slice none 0 0),k' 0]
def qBK:Tree:=
 xV 0 <|
 yE .lss 7 9 3 4 <|
 vW 5 (
  gA 0 3 <|
  zS 1 0 0 3 <|
  yE .lss 15 16 7 1 <|
  vW 8 (
   gA 0 3 <|
   zS 1 0 0 3 <|
   qId 10 <|
   .bind (.lit 3 1) [.v 10] <|
   .bind (.app 3 1 8) [.v 2,.v 12] <|
   yF .add 26 1 3 <|
   .jump 1 [.v 0,.v 1,.v 13,.v 14]) (
   qId 1 <|
   .bind (.lit 3 1) [.v 1] <|
   .bind (.app 3 1 8) [.v 2,.v 10] <|
   xV 0 <|
   yE .lss 32 34 3 12 <|
   vW 13 (
    gA 0 3 <|
    zS 1 0 0 3 <|
    yE .eql 40 41 15 1 <|
    vW 16 (
     yF .add 44 1 3 <|
     .bind (.slc 3 1 true false) [.v 0,.v 17] <|
     .bind (.app 3 1 8) [.v 11,.v 18] <|
     .ret [.v 19]) (
     .bind (.slc 3 1 true false) [.v 0,.v 3] <|
     .bind (.app 3 1 8) [.v 11,.v 17] <|
     .ret [.v 18])) (
    .bind (.slc 3 1 true false) [.v 0,.v 3] <|
    .bind (.app 3 1 8) [.v 11,.v 14] <|
    .ret [.v 15]))) (
  qId 1 <|
  .bind (.lit 3 1) [.v 1] <|
  .bind (.app 3 1 8) [.v 2,.v 7] <|
  xV 0 <|
  yE .lss 32 34 3 9 <|
  vW 10 (
   gA 0 3 <|
   zS 1 0 0 3 <|
   yE .eql 40 41 12 1 <|
   vW 13 (
    yF .add 44 1 3 <|
    .bind (.slc 3 1 true false) [.v 0,.v 14] <|
    .bind (.app 3 1 8) [.v 8,.v 15] <|
    .ret [.v 16]) (
    .bind (.slc 3 1 true false) [.v 0,.v 3] <|
    .bind (.app 3 1 8) [.v 8,.v 14] <|
    .ret [.v 15])) (
   .bind (.slc 3 1 true false) [.v 0,.v 3] <|
   .bind (.app 3 1 8) [.v 8,.v 11] <|
   .ret [.v 12]))
def iL:Nat->Tree
 |0=>qBL
 |1=>qBK
 |_=>.fail
def qP7:Nat->Pat
 |_=>⟨[],[],[],[]⟩
def qSF:Tree:=
 qId 0 <|
 .bind .box [.v 1] <|
 .callM 178 rX [.c (.slice none 0 0),.pp 2 0] <|
 .bind (.lib S3) [.v 3] <|
 .bind (.lib C3) [.v 4] <|
 .ret [.v 5]
def qWX:Nat->Tree
 |0=>qSF
 |_=>.fail
noncomputable def qP6:Nat->Nat:=λ_=>Nat.max Tryz.f68.ntmps 1
def zAy:Nat->Pat
 |_=>⟨[],[],[],[]⟩
def qWP:Tree:=
 kX 9 0 <|
 qId 1 <|
 kX 6 2 <|
 .bind .box [.v 4] <|
 .bind .boxw [.v 5] <|
 .callM 26 iE [.v 3,.pp 6 0,.pp 7 0] <|
 kX 9 8 <|
 .ret [.v 10,.v 9]
def qZr:Nat->Tree
 |0=>qWP
 |_=>.fail
def qXp:Nat->Pat
 |_=>⟨[],[],[],[]⟩
def qTd:Tree:=
 kX 9 0 <|
 qId 1 <|
 .bind .box [.v 3] <|
 .callM 26 iD [.v 2,.pp 4 0] <|
 kX 9 5 <|
 .ret [.v 7,.v 6]
def qXo:Nat->Tree
 |0=>qTd
 |_=>.fail
def zAz:Nat->Pat
 |_=>⟨[],[],[],[]⟩
def qW5:Tree:=
 kX 6 0 <|
 vA 0 1 <|
 xV 2 <|
 yF .leq 5 70 3 <|
 vW 4 (
  vA 1 1 <|
  xV 5 <|
  yF .leq 10 70 6 <|
  vW 7 (
   vA 2 1 <|
   xV 8 <|
   yF .leq 16 20 9 <|
   vW 10 (
    vA 3 1 <|
    xV 11 <|
    yF .leq 22 20 12 <|
    .ret [.v 13]) (
    pC false)) (
   pC false)) (
  pC false)
def qW4:Nat->Tree
 |0=>qW5
 |_=>.fail
def zAA:Nat->Pat
 |_=>⟨[],[],[],[]⟩
def qW7:Tree:=
 kX 9 0 <|
 kX 6 2 <|
 lZ 5 [.v 4] 1 <|
 .bind (.un .not 4) [.v 5] <|
 vW 6 (
  lZ 7 [] 1 <|
  .ret [.v 7]) (
  lZ 6 [.v 3] 1 <|
  .bind (.un .not 4) [.v 7] <|
  vW 8 (
   lZ 7 [] 1 <|
   .ret [.v 9]) (
   lZ 9 [.v 3] 0 <|
   lZ 8 [.v 9,.v 1,.v 4] 0 <|
   qTx 0 10 <|
   qTx 1 10 <|
   kX 9 11 <|
   lZ 10 [.v 3,.v 1,.v 4] 0 <|
   qTx 0 14 <|
   qTx 1 14 <|
   kX 9 15 <|
   lZ 9 [.v 3] 0 <|
   lZ 11 [.v 18,.v 1] 0 <|
   qTx 0 19 <|
   qTx 1 19 <|
   kX 9 20 <|
   lZ 12 [.v 3,.v 1] 0 <|
   qTx 0 23 <|
   qTx 1 23 <|
   kX 9 24 <|
   lZ 13 [.v 13,.v 17] 1 <|
   vW 27 (
    .bind (.bin .eql 43 (.tmp 56) (.tmp 57)) [.v 12,.v 16] <|
    vW 28 (
     lZ 13 [.v 22,.v 26] 1 <|
     vW 29 (
      .bind (.bin .eql 43 (.tmp 66) (.tmp 67)) [.v 21,.v 25] <|
      vW 30 (
       lZ 7 [] 1 <|
       .ret [.v 31]) (
       pC false)) (
      pC false)) (
     pC false)) (
    pC false)))
def qZs:Nat->Tree
 |0=>qW7
 |_=>.fail
def pV:Nat->Pat
 |1000=>⟨[⟨.pure,true⟩,⟨.pure,true⟩,⟨.pure,true⟩,⟨.fresh,true⟩],[(0,.yld 1),(5,.v 0),(6,.v 1),(7,.v 2)],[some (.cells [.v 3]),some (.loop 0 0)],[[(2,.loc 0 0)]]⟩
 |_=>⟨[],[],[none,none],[]⟩
def qBH:Tree:=
 .bind .pchk [.v 1] <|
 .bind (.loadp false 1) [.pp 2 0] <|
 xV 3 <|
 .jump 1000 [.v 3,.v 4,k' 0,.v 0]
def mV:Tree:=
 yE .lss 7 6 2 1 <|
 vW 4 (
  gA 0 2 <|
  zS 1 0 0 2 <|
  qId 6 <|
  .bind (.lit 3 1) [.v 6] <|
  .bind (.app 3 1 8) [.v 3,.v 8] <|
  yF .add 7 1 2 <|
  .jump 1000 [.v 0,.v 1,.v 10,.v 9]) (
  .ret [.v 3])
def qBG:Nat->Tree
 |0=>qBH
 |1000=>mV
 |_=>.fail
noncomputable def eP:qDL:=[(155,Tryz.f155,vB Tryz.f155)]
noncomputable def mU:Nat->Nat:=λk=>bif Nat.ble 1000 k then Nat.max Tryz.f155.ntmps 2 else Nat.max Tryz.f178.ntmps 2
def qBF:Nat->Pat
 |_=>⟨[⟨.pure,false⟩,⟨.pure,false⟩,⟨.pure,false⟩],[(0,.v 0),(1,.fn (.func 27) [] [.v 1,.v 2])],[],[]⟩
def sF:Tree:=
 kX 9 0 <|
 .callM 27 tI [.v 1,.v 2,.v 3] <|
 .bind (.bin .neq 43 (.tmp 9) (K' 0)) [.v 4,k' 0] <|
 vW 6 (
  .ret [.agg [.c (.slice none 0 0),.c (.string ⟨#[]⟩),.c (.slice none 0 0),.c (.slice none 0 0),.c (.slice none 0 0),k' 0,.c (.slice none 0 0),.c (.slice none 0 0),.c (.slice none 0 0)],.v 4]) (
  kX 9 5 <|
  .ret [.v 7,k' 0])
def qJN:Nat->Tree
 |0=>sF
 |_=>.fail
def qBE:Nat->Pat
 |_=>⟨[⟨.pure,false⟩,⟨.pure,false⟩],[(0,.v 0),(1,.fn (.func 33) [] [.v 1])],[],[]⟩
def sE:Tree:=
 kX 9 0 <|
 .callM 33 tH [.v 1,.v 2] <|
 .bind (.bin .neq 43 (.tmp 9) (K' 0)) [.v 3,k' 0] <|
 vW 5 (
  .ret [.agg [.c (.slice none 0 0),.c (.string ⟨#[]⟩),.c (.slice none 0 0),.c (.slice none 0 0),.c (.slice none 0 0),k' 0,.c (.slice none 0 0),.c (.slice none 0 0),.c (.slice none 0 0)],.v 3]) (
  kX 9 4 <|
  .ret [.v 6,k' 0])
def qJM:Nat->Tree
 |0=>sE
 |_=>.fail
def qEW:Nat->Pat
 |_=>⟨[⟨.pure,false⟩,⟨.pure,false⟩,⟨.pure,false⟩],[(0,.loc 0 0),(1,.v 0),(2,.v 1)],[some (.whole (.v 2) 9)],[]⟩
def qEV:Tree:=
 .bind .pchk [.v 0] <|
 .bind (.loadp false 1) [.pp 3 0] <|
 yF .lss 6 0 4 <|
 vW 5 (
  .ret [k' 2,.v 2]) (
  .bind .pchk [.v 0] <|
  .bind (.loadp false 1) [.pp 6 0] <|
  vA 4 2 <|
  xV 8 <|
  yE .gtr 9 14 7 9 <|
  vW 10 (
   .ret [k' 2,.v 2]) (
   vA 4 2 <|
   xV 11 <|
   yF .geq 21 12 12 <|
   vW 13 (
    .ret [k' 11,.v 2]) (
    .bind (.fld true 1 0) [.v 2] <|
    .bind .pchk [.v 1] <|
    .bind (.loadp true 6) [.pp 15 0] <|
    lZ 28 [.v 14,.v 16] 1 <|
    .bind (.bin .neq 43 (.tmp 29) (K' 0)) [.v 17,k' 0] <|
    vW 18 (
     .ret [.v 17,.v 2]) (
     vA 4 2 <|
     .callM 30 iB [.v 19] <|
     .bind .pchk [.v 0] <|
     .bind (.loadp false 1) [.pp 21 0] <|
     .bind .pchk [.v 1] <|
     .bind (.loadp true 6) [.pp 23 0] <|
     kX 6 24 <|
     .bind (.lit 39 6) [.v 24] <|
     .callM 29 qTr [.v 20,.v 22,.v 26] <|
     kX 9 2 <|
     vA 0 28 <|
     vA 1 28 <|
     vA 2 28 <|
     vA 3 28 <|
     vA 4 28 <|
     vA 5 28 <|
     vA 6 28 <|
     vA 7 28 <|
     vA 8 28 <|
     .ret [k' 0,.agg [.v 29,.v 30,.v 31,.v 32,.v 27,.v 34,.v 35,.v 36,.v 37]]))))
def qP3:Nat->Tree
 |0=>qEV
 |_=>.fail
def qES:Nat->Pat
 |_=>⟨[⟨.pure,false⟩,⟨.pure,false⟩],[(0,.loc 0 0),(1,.v 0)],[some (.whole (.v 1) 9)],[]⟩
def qER:Tree:=
 .bind .pchk [.v 0] <|
 .bind (.loadp false 1) [.pp 2 0] <|
 yF .lss 4 0 3 <|
 vW 4 (
  .ret [k' 2,.v 1]) (
  .bind .pchk [.v 0] <|
  .bind (.loadp false 1) [.pp 5 0] <|
  vA 4 1 <|
  xV 7 <|
  yE .geq 7 12 6 8 <|
  vW 9 (
   .ret [k' 2,.v 1]) (
   vA 4 1 <|
   .callM 30 iB [.v 10] <|
   .bind .pchk [.v 0] <|
   .bind (.loadp false 1) [.pp 12 0] <|
   .bind .pchk [.v 0] <|
   .bind (.loadp false 1) [.pp 14 0] <|
   yF .add 22 1 15 <|
   .callM 34 qTq [.v 11,.v 13,.v 16] <|
   kX 9 1 <|
   vA 0 18 <|
   vA 1 18 <|
   vA 2 18 <|
   vA 3 18 <|
   vA 4 18 <|
   vA 5 18 <|
   vA 6 18 <|
   vA 7 18 <|
   vA 8 18 <|
   .ret [k' 0,.agg [.v 19,.v 20,.v 21,.v 22,.v 17,.v 24,.v 25,.v 26,.v 27]]))
def qP1:Nat->Tree
 |0=>qER
 |_=>.fail
def qEU:Nat->Pat
 |_=>⟨[⟨.pure,false⟩],[(0,.v 0)],[],[]⟩
def qET:Tree:=
 .bind (.isNil false) [.v 0] <|
 vW 1 (
  .ret [.c (.slice none 0 0)]) (
  .bind (.lit 39 6) [] <|
  .bind (.app 39 6 104) [.v 2,.v 0] <|
  .ret [.v 3])
def qP2:Nat->Tree
 |0=>qET
 |_=>.fail
theorem jY:(aS Tryz.f10 3 qXr,
 hd Tryz.f10 3 qXr,
 nr Tryz.f10,
 aS Tryz.f12 2 qXn,
 hd Tryz.f12 2 qXn,
 nr Tryz.f12,
 aS Tryz.f28 2 qXj,
 hd Tryz.f28 2 qXj,
 nr Tryz.f28,
 aS Tryz.f65 2 qW3,
 hd Tryz.f65 2 qW3,
 nr Tryz.f65,
 aS Tryz.f67 2 qWZ,
 hd Tryz.f67 2 qWZ,
 nr Tryz.f67,
 aS Tryz.f66 2 qW1,
 hd Tryz.f66 2 qW1,
 nr Tryz.f66,
 aS Tryz.f120 2 qTc,
 hd Tryz.f120 2 qTc,
 nr Tryz.f120,
 aS Tryz.f32 2 qXg,
 hd Tryz.f32 2 qXg,
 nr Tryz.f32,
 aS Tryz.f71 2 qWW,
 hd Tryz.f71 2 qWW,
 nr Tryz.f71,
 aS Tryz.f72 1 qWU,
 hd Tryz.f72 1 qWU,
 nr Tryz.f72,
 aS Tryz.f125 2 qGj,
 hd Tryz.f125 2 qGj,
 nr Tryz.f125,
 qAK EE (λk S=>jN (qP6 k) (qP7 k) k S) zAv fV 1 (vB Tryz.f68) (oD 1 (Nat.max Tryz.f68.ntmps 1)) (uD EE Tryz.f68.results.toList),
 j6 EE (λk=>(qP7 k).st (qP6 k)) (λk S=>jN (qP6 k) (qP7 k) k S) zAv fV (λ_ _ _ _=>[]) 1 (vB Tryz.f68) (uD EE Tryz.f68.results.toList),
 nr Tryz.f68,
 aS Tryz.f8 3 zAy,
 hd Tryz.f8 3 zAy,
 nr Tryz.f8,
 aS Tryz.f11 2 qXp,
 hd Tryz.f11 2 qXp,
 nr Tryz.f11,
 aS Tryz.f5 1 zAz,
 hd Tryz.f5 1 zAz,
 nr Tryz.f5,
 aS Tryz.f3 3 zAA,
 hd Tryz.f3 3 zAA,
 nr Tryz.f3,
 qAK EE (λk S=>jN (mU k) (pV k) k S) (qLM EE eP none) (iV EE (λk S=>jN (mU k) (pV k) k S) eP 155 (Nat.max Tryz.f178.ntmps rX.n) 1 1000) 1 (vB Tryz.f178) (rX.inp.st (Nat.max Tryz.f178.ntmps rX.n)) (eH EE rX Tryz.f178.results.toList),
 j6 EE (λk=>(pV k).st (mU k)) (λk S=>jN (mU k) (pV k) k S) (qLM EE eP none) (iV EE (λk S=>jN (mU k) (pV k) k S) eP 155 (Nat.max Tryz.f178.ntmps rX.n) 1 1000) (qIx EE (λk=>(pV k).st (mU k)) (λk S=>jN (mU k) (pV k) k S) eP (vB Tryz.f155) (Nat.max Tryz.f178.ntmps rX.n) 1 1000) 1 (vB Tryz.f178) (eH EE rX Tryz.f178.results.toList),
 nr Tryz.f178,
 qB2 EE (λk S=>jN (Nat.max Tryz.f26.ntmps iE.n) (qBF k) k S) Tryz.f26 iE,
 jR EE (λk=>(qBF k).st (Nat.max Tryz.f26.ntmps iE.n)) (λk S=>jN (Nat.max Tryz.f26.ntmps iE.n) (qBF k) k S) 1 (vB Tryz.f26) (eH EE iE Tryz.f26.results.toList),
 nr Tryz.f26,
 qB2 EE (λk S=>jN (Nat.max Tryz.f26.ntmps iD.n) (qBE k) k S) Tryz.f26 iD,
 jR EE (λk=>(qBE k).st (Nat.max Tryz.f26.ntmps iD.n)) (λk S=>jN (Nat.max Tryz.f26.ntmps iD.n) (qBE k) k S) 1 (vB Tryz.f26) (eH EE iD Tryz.f26.results.toList),
 nr Tryz.f26,
 qB2 EE (λk S=>jN (Nat.max Tryz.f27.ntmps tI.n) (qEW k) k S) Tryz.f27 tI,
 jR EE (λk=>(qEW k).st (Nat.max Tryz.f27.ntmps tI.n)) (λk S=>jN (Nat.max Tryz.f27.ntmps tI.n) (qEW k) k S) 1 (vB Tryz.f27) (eH EE tI Tryz.f27.results.toList),
 nr Tryz.f27,
 qB2 EE (λk S=>jN (Nat.max Tryz.f33.ntmps tH.n) (qES k) k S) Tryz.f33 tH,
 jR EE (λk=>(qES k).st (Nat.max Tryz.f33.ntmps tH.n)) (λk S=>jN (Nat.max Tryz.f33.ntmps tH.n) (qES k) k S) 1 (vB Tryz.f33) (eH EE tH Tryz.f33.results.toList),
 nr Tryz.f33,
 qB2 EE (λk S=>jN (Nat.max Tryz.f30.ntmps iB.n) (qEU k) k S) Tryz.f30 iB,
 jR EE (λk=>(qEU k).st (Nat.max Tryz.f30.ntmps iB.n)) (λk S=>jN (Nat.max Tryz.f30.ntmps iB.n) (qEU k) k S) 1 (vB Tryz.f30) (eH EE iB Tryz.f30.results.toList),
 nr Tryz.f30,
 nr Tryz.f155) =
 (qTe,[],false,qTb,[],false,qS6,[],false,qSI,[],false,qSG,[],false,qSH,[],false,qM2,[(1,qM1)],false,qS2,[(1,qS1)],false,qSE,[],false,qSD,[(1,qSC)],false,qBL,[(1,qBK)],false,qSF,[],false,qWP,[],false,qTd,[],false,qW5,[],false,qW7,[],false,qBH,[(1000,mV)],false,sF,[],false,sE,[],false,qEV,[],false,qER,[],false,qET,[],false,false):=by kernel_rfl
theorem zAB{ds:List D}{d:D}(x:ds.length=3)(h:qX EE (Holds EE) qXq 0 ds d):Holds EE 10 ds d:=
 hv Tryz.func10 rfl jY (kC) x h
theorem zBt{ds:List D}{d:D}(x:ds.length=2)(h:qX EE (Holds EE) qXm 0 ds d):Holds EE 12 ds d:=
 hv Tryz.func12 rfl (wZ (wZ (wZ jY))) (kC) x h
theorem zBr{ds:List D}{d:D}(x:ds.length=2)(h:qX EE (Holds EE) qXi 0 ds d):Holds EE 28 ds d:=
 hv Tryz.func28 rfl (wZ (wZ (kU jY))) (kC) x h
theorem zBj{ds:List D}{d:D}(x:ds.length=2)(h:qX EE (Holds EE) qW2 0 ds d):Holds EE 65 ds d:=
 hv Tryz.func65 rfl (wZ (kU (kU jY))) (kC) x h
theorem zBh{ds:List D}{d:D}(x:ds.length=2)(h:qX EE (Holds EE) qWY 0 ds d):Holds EE 67 ds d:=
 hv Tryz.func67 rfl (kU (kU (kU jY))) (kC) x h
theorem zBi{ds:List D}{d:D}(x:ds.length=2)(h:qX EE (Holds EE) qW0 0 ds d):Holds EE 66 ds d:=
 hv Tryz.func66 rfl (wZ (wZ (wZ (kU (kU (kU jY)))))) (kC) x h
theorem qZu{ds:List D}{d:D}(x:ds.length=2)(h:qX EE (Holds EE) qM0 0 ds d):Holds EE 120 ds d:=
 hv Tryz.func120 rfl (wZ (wZ (vK jY))) (kY rfl<|kC) x h
theorem zBp{ds:List D}{d:D}(x:ds.length=2)(h:qX EE (Holds EE) qS0 0 ds d):Holds EE 32 ds d:=
 hv Tryz.func32 rfl (wZ (kU (vK jY))) (kY rfl<|kC) x h
theorem zBf{ds:List D}{d:D}(x:ds.length=2)(h:qX EE (Holds EE) qWV 0 ds d):Holds EE 71 ds d:=
 hv Tryz.func71 rfl (kU (kU (vK jY))) (kC) x h
theorem zBe{ds:List D}{d:D}(x:ds.length=1)(h:qX EE (Holds EE) qMX 0 ds d):Holds EE 72 ds d:=
 hv Tryz.func72 rfl (wZ (wZ (wZ (kU (kU (vK jY)))))) (kY rfl<|kC) x h
theorem qTR{ds:List D}{d:D}(x:ds.length=2)(h:qX EE (Holds EE) iL 0 ds d):Holds EE 125 ds d:=
 hv Tryz.func125 rfl (wZ (wZ (kU (kU (kU (vK jY)))))) (kY rfl<|kC) x h
theorem zBg{ds:List D}{d:D}(x:ds.length=1)(h:qX EE (Holds EE) qWX 0 ds d):Holds EE 68 ds d:=
 qL5 (pats:=qP7) (szs:=qP6) he zBH (xD (c:=vB Tryz.f68) Tryz.func68 rfl ((pI (wZ (wZ (wZ (vK (vK jY)))))).1)) (c:=vB Tryz.f68) rfl x ((pI (wZ (vK (vK jY)))).1) (by rw[(pI (wZ (wZ (vK (vK jY))))).1];exact kC) h
theorem u8{ds:List D}{d:D}(x:ds.length=3)(h:qX EE (Holds EE) qZr 0 ds d):Holds EE 8 ds d:=
 hv Tryz.func8 rfl (kU (vK (vK jY))) (kC) x h
theorem zBu{ds:List D}{d:D}(x:ds.length=2)(h:qX EE (Holds EE) qXo 0 ds d):Holds EE 11 ds d:=
 hv Tryz.func11 rfl (wZ (wZ (wZ (kU (vK (vK jY)))))) (kC) x h
theorem u5{ds:List D}{d:D}(x:ds.length=1)(h:qX EE (Holds EE) qW4 0 ds d):Holds EE 5 ds d:=
 hv Tryz.func5 rfl (wZ (wZ (kU (kU (vK (vK jY)))))) (kC) x h
theorem u3{ds:List D}{d:D}(x:ds.length=3)(h:qX EE (Holds EE) qZs 0 ds d):Holds EE 3 ds d:=
 hv Tryz.func3 rfl (wZ (kU (kU (kU (vK (vK jY)))))) (kC) x h
theorem qTK{ds:List D}{d:D}(h:qX EE (Holds EE) qBG 0 ds d)(hd:∃x,d=xN x/\x.length=rX.out.sts.length):Holds EE (Nat.add gM 178) (.mode rX::ds) d:=
 qI3 (I:=eP) (pats:=pV) (szs:=mU) (L:=1) (G:=155) (fnG:=Tryz.f155) (cdG:=vB Tryz.f155) (m:=rX) he (.cons (xD (c:=vB Tryz.f155) Tryz.func155 rfl ((wZ (wZ (vK (vK (vK (vK jY)))))))) rfl <| .nil) (xD (c:=vB Tryz.f178) Tryz.func178 rfl ((pI (wZ (wZ (vK (vK (vK jY)))))).1)) (c:=vB Tryz.f178) rfl rfl (by decide +kernel) (λk=>by unfold pV;split<;>decide) (λk y=>by unfold pV;split<;>first|decide|omega) ((pI (vK (vK (vK jY)))).1) (by rw[(pI (wZ (vK (vK (vK jY))))).1];exact kY rfl<|kC) h hd
theorem qWF{ds:List D}{d:D}(h:qX EE (Holds EE) qJN 0 ds d)(hd:∃x,d=xN x/\x.length=2):Holds EE (Nat.add gM 26) (.mode iE::ds) d:=
 bN he (xD (c:=vB Tryz.f26) Tryz.func26 rfl ((pI (wZ (kU (vK (vK (vK jY)))))).1)) (c:=vB Tryz.f26) rfl (m:=iE) (by decide +kernel) (λk=>by unfold qBF;split<;>decide) ((pI (wZ (wZ (wZ (vK (vK (vK jY))))))).1) (by rw[(pI (kU (vK (vK (vK jY))))).1];exact kC) h hd
theorem qWE{ds:List D}{d:D}(h:qX EE (Holds EE) qJM 0 ds d)(hd:∃x,d=xN x/\x.length=2):Holds EE (Nat.add gM 26) (.mode iD::ds) d:=
 bN he (xD (c:=vB Tryz.f26) Tryz.func26 rfl ((pI (kU (kU (vK (vK (vK jY)))))).1)) (c:=vB Tryz.f26) rfl (m:=iD) (by decide +kernel) (λk=>by unfold qBE;split<;>decide) ((pI (wZ (wZ (kU (vK (vK (vK jY))))))).1) (by rw[(pI (wZ (wZ (wZ (kU (vK (vK (vK jY)))))))).1];exact kC) h hd
theorem qWD{ds:List D}{d:D}(h:qX EE (Holds EE) qP3 0 ds d)(hd:∃x,d=xN x/\x.length=2):Holds EE (Nat.add gM 27) (.mode tI::ds) d:=
 bN he (xD (c:=vB Tryz.f27) Tryz.func27 rfl ((pI (wZ (wZ (wZ (kU (kU (vK (vK (vK jY))))))))).1)) (c:=vB Tryz.f27) rfl (m:=tI) (by decide +kernel) (λk=>by unfold qEW;split<;>decide) ((pI (wZ (kU (kU (vK (vK (vK jY))))))).1) (by rw[(pI (wZ (wZ (kU (kU (vK (vK (vK jY)))))))).1];exact kC) h hd
theorem qWB{ds:List D}{d:D}(h:qX EE (Holds EE) qP1 0 ds d)(hd:∃x,d=xN x/\x.length=2):Holds EE (Nat.add gM 33) (.mode tH::ds) d:=
 bN he (xD (c:=vB Tryz.f33) Tryz.func33 rfl ((pI (wZ (wZ (kU (kU (kU (vK (vK (vK jY))))))))).1)) (c:=vB Tryz.f33) rfl (m:=tH) (by decide +kernel) (λk=>by unfold qES;split<;>decide) ((pI (kU (kU (kU (vK (vK (vK jY))))))).1) (by rw[(pI (wZ (kU (kU (kU (vK (vK (vK jY)))))))).1];exact kC) h hd
theorem qWC{ds:List D}{d:D}(h:qX EE (Holds EE) qP2 0 ds d)(hd:∃x,d=xN x/\x.length=1):Holds EE (Nat.add gM 30) (.mode iB::ds) d:=
 bN he (xD (c:=vB Tryz.f30) Tryz.func30 rfl ((pI (wZ (vK (vK (vK (vK jY)))))).1)) (c:=vB Tryz.f30) rfl (m:=iB) (by decide +kernel) (λk=>by unfold qEU;split<;>decide) ((pI (wZ (wZ (wZ (kU (kU (kU (vK (vK (vK jY)))))))))).1) (by rw[(pI (vK (vK (vK (vK jY))))).1];exact kC) h hd
end Go.Proofs.YtminhjecpnpaeaaGreatDoor.Ry
