/- Trees of functions. Conditions: none. -/
import Derived.Test.YtminhjecpnpaeaaGreatDoorBa
set_option linter.unusedVariables false
set_option linter.unusedSimpArgs false
namespace Go.Proofs.YtminhjecpnpaeaaGreatDoor
open Go Go.Am Go.Proofs
def iE:Go.Am.Mode:=⟨⟨[⟨.pure,false⟩,⟨.pure,false⟩],[(0,.v 0),(1,.fn (.func 39) [] [.v 1])],[],[]⟩,2,⟨[⟨.pure,false⟩,⟨.pure,false⟩],[(0,.v 0),(1,.v 1)],[],[]⟩⟩
def iD:Go.Am.Mode:=⟨⟨[⟨.pure,false⟩,⟨.pure,false⟩],[(0,.v 0),(1,.fn (.func 42) [] [.v 1])],[],[]⟩,2,⟨[⟨.pure,false⟩,⟨.pure,false⟩],[(0,.v 0),(1,.v 1)],[],[]⟩⟩
def qX0:Go.Am.Mode:=⟨⟨[⟨.pure,false⟩,⟨.pure,false⟩],[(0,.loc 0 0),(1,.v 0)],[some (.whole (.v 1) 9)],[]⟩,2,⟨[⟨.pure,false⟩,⟨.pure,false⟩],[(0,.v 0)],[some (.whole (.v 1) 9)],[]⟩⟩
def qXZ:Go.Am.Mode:=⟨⟨[⟨.pure,false⟩,⟨.pure,false⟩],[(0,.loc 0 0),(1,.v 0)],[some (.whole (.v 1) 9)],[]⟩,2,⟨[⟨.pure,false⟩,⟨.pure,false⟩],[(0,.v 0)],[some (.whole (.v 1) 9)],[]⟩⟩
def zAx:Nat->Pat
 |1=>⟨[⟨.fresh,true⟩,⟨.pure,true⟩,⟨.fresh,true⟩,⟨.pure,true⟩,⟨.pure,true⟩,⟨.pure,true⟩,⟨.pure,true⟩,⟨.pure,true⟩,⟨.pure,true⟩,⟨.pure,true⟩,⟨.pure,true⟩],[(1,.loc 0 0),(2,.loc 1 0),(3,.v 0),(4,.v 1)],[some (.cells [.v 2,.v 3,.v 4,.v 5,.v 6,.v 7,.v 8,.v 9,.v 10]),some (.cells [.c (.slice none 0 0),.c (.string ⟨#[]⟩),.c (.slice none 0 0),.c (.slice none 0 0),.c (.slice none 0 0),k' 0,.c (.slice none 0 0),.c (.slice none 0 0),.c (.slice none 0 0)])],[]⟩
 |2=>⟨[⟨.fresh,true⟩,⟨.fresh,true⟩,⟨.pure,true⟩,⟨.fresh,true⟩,⟨.pure,true⟩,⟨.pure,true⟩,⟨.pure,true⟩,⟨.pure,true⟩,⟨.pure,true⟩,⟨.pure,true⟩,⟨.pure,true⟩,⟨.pure,true⟩],[(1,.loc 0 0),(2,.loc 1 0),(3,.v 0),(5,.v 1),(6,.v 2)],[some (.cells [.v 3,.v 4,.v 5,.v 6,.v 7,.v 8,.v 9,.v 10,.v 11]),some (.cells [.c (.slice none 0 0),.c (.string ⟨#[]⟩),.c (.slice none 0 0),.c (.slice none 0 0),.c (.slice none 0 0),k' 0,.c (.slice none 0 0),.c (.slice none 0 0),.c (.slice none 0 0)])],[]⟩
 |3=>⟨[⟨.fresh,true⟩,⟨.pure,true⟩,⟨.fresh,true⟩,⟨.pure,true⟩,⟨.fresh,true⟩,⟨.fresh,true⟩,⟨.pure,true⟩,⟨.pure,true⟩,⟨.pure,true⟩,⟨.pure,true⟩,⟨.pure,true⟩],[(1,.loc 0 0),(2,.loc 1 0),(7,.v 0),(8,.v 1)],[some (.cells [.v 2,.v 3,.v 4,.v 5,.v 6,.v 7,.v 8,.v 9,.v 10]),some (.cells [.c (.slice none 0 0),.c (.string ⟨#[]⟩),.c (.slice none 0 0),.c (.slice none 0 0),.c (.slice none 0 0),k' 0,.c (.slice none 0 0),.c (.slice none 0 0),.c (.slice none 0 0)])],[]⟩
 |4=>⟨[⟨.fresh,true⟩,⟨.pure,true⟩,⟨.fresh,true⟩,⟨.pure,true⟩,⟨.fresh,true⟩,⟨.fresh,true⟩,⟨.fresh,true⟩,⟨.pure,true⟩,⟨.fresh,true⟩,⟨.fresh,true⟩,⟨.pure,true⟩],[(1,.loc 0 0),(2,.loc 1 0),(10,.v 0),(11,.v 1)],[some (.cells [.v 2,.v 3,.v 4,.v 5,.v 6,.v 7,.v 8,.v 9,.v 10]),some (.cells [.c (.slice none 0 0),.c (.string ⟨#[]⟩),.c (.slice none 0 0),.c (.slice none 0 0),.c (.slice none 0 0),k' 0,.c (.slice none 0 0),.c (.slice none 0 0),.c (.slice none 0 0)])],[]⟩
 |_=>⟨[],[],[],[]⟩
def qWN:Tree:=
 kX 9 0 <|
 .bind (.lit 81 2) [] <|
 vA 0 1 <|
 .bind (.app 81 2 24) [.v 2,.v 3] <|
 kX 9 1 <|
 vA 0 5 <|
 vA 1 5 <|
 vA 2 5 <|
 vA 3 5 <|
 vA 4 5 <|
 vA 5 5 <|
 vA 6 5 <|
 vA 7 5 <|
 vA 8 5 <|
 .bind (.lit 77 2) [] <|
 .jump 1 [.v 15,k' 0,.v 4,.v 7,.v 8,.v 9,.v 10,.v 11,.v 12,.v 13,.v 14]
def qWM:Tree:=
 xV 4 <|
 yE .lss 20 24 1 11 <|
 vW 12 (
  gA 4 1 <|
  zS 2 0 4 1 <|
  .bind (.lit 3 1) [] <|
  gA 4 1 <|
  zS 2 1 4 1 <|
  .bind (.app 3 1 8) [.v 15,.v 17] <|
  .bind (.chk true 2) [.agg [.v 14,.v 18]] <|
  .bind (.lit 77 2) [.agg [.v 14,.v 18]] <|
  .bind (.app 77 2 40) [.v 0,.v 20] <|
  yF .add 26 1 1 <|
  .jump 1 [.v 21,.v 22,.v 2,.v 3,.v 4,.v 5,.v 6,.v 7,.v 8,.v 9,.v 10]) (
  .bind (.lit 50 1) [] <|
  .jump 2 [.v 0,.v 13,k' 0,.v 2,.v 3,.v 4,.v 5,.v 6,.v 7,.v 8,.v 9,.v 10])
def qWL:Tree:=
 xV 6 <|
 yE .lss 49 53 2 12 <|
 vW 13 (
  .bind (.lit 9 1) [] <|
  gA 6 2 <|
  zS 1 0 6 2 <|
  .bind (.app 9 1 16) [.v 14,.v 16] <|
  qId 17 <|
  .bind (.lit 50 1) [.v 17] <|
  .bind (.app 50 1 24) [.v 1,.v 19] <|
  yF .add 55 1 2 <|
  .jump 2 [.v 0,.v 20,.v 21,.v 3,.v 4,.v 5,.v 6,.v 7,.v 8,.v 9,.v 10,.v 11]) (
  .bind (.lit 39 6) [] <|
  .jump 3 [.v 14,k' 0,.v 3,.v 4,.v 0,.v 1,.v 7,.v 8,.v 9,.v 10,.v 11])
def qWK:Tree:=
 xV 6 <|
 yE .lss 76 79 1 11 <|
 vW 12 (
  gA 6 1 <|
  .bind (.elem 6 true 6 0) [.v 6,.v 1] <|
  kX 6 14 <|
  .bind (.lit 3 1) [] <|
  vA 0 15 <|
  .bind (.app 3 1 8) [.v 16,.v 17] <|
  .bind (.lit 3 1) [] <|
  vA 1 15 <|
  .bind (.app 3 1 8) [.v 19,.v 20] <|
  .bind (.lit 58 2) [] <|
  vA 2 15 <|
  .bind (.app 58 2 16) [.v 22,.v 23] <|
  .bind (.lit 58 2) [] <|
  vA 3 15 <|
  .bind (.app 58 2 16) [.v 25,.v 26] <|
  vA 4 15 <|
  vA 5 15 <|
  .bind (.chk true 6) [.agg [.v 18,.v 21,.v 24,.v 27,.v 28,.v 29]] <|
  .bind (.lit 39 6) [.agg [.v 18,.v 21,.v 24,.v 27,.v 28,.v 29]] <|
  .bind (.app 39 6 104) [.v 0,.v 31] <|
  yF .add 81 1 1 <|
  .jump 3 [.v 32,.v 33,.v 2,.v 3,.v 4,.v 5,.v 6,.v 7,.v 8,.v 9,.v 10]) (
  .bind (.lit 92 3) [] <|
  .bind (.app 92 3 24) [.v 13,.v 8] <|
  .bind (.lit 3 1) [] <|
  .bind (.app 3 1 8) [.v 15,.v 9] <|
  .bind (.lit 64 8) [] <|
  .jump 4 [.v 17,k' 0,.v 2,.v 3,.v 4,.v 5,.v 0,.v 7,.v 14,.v 16,.v 10])
def qWJ:Tree:=
 xV 10 <|
 yE .lss 130 133 1 11 <|
 vW 12 (
  gA 10 1 <|
  .bind (.elem 8 true 8 0) [.v 10,.v 1] <|
  lZ 31 [.v 14] 0 <|
  kX 8 15 <|
  .bind (.lit 64 8) [.v 15] <|
  .bind (.app 64 8 144) [.v 0,.v 17] <|
  yF .add 135 1 1 <|
  .jump 4 [.v 18,.v 19,.v 2,.v 3,.v 4,.v 5,.v 6,.v 7,.v 8,.v 9,.v 10]) (
  .ret [.agg [.v 2,.v 3,.v 4,.v 5,.v 6,.v 7,.v 8,.v 9,.v 0]])
def qGh:Nat->Tree
 |0=>qWN
 |1=>qWM
 |2=>qWL
 |3=>qWK
 |4=>qWJ
 |_=>.fail
def qXh:Nat->Pat
 |1=>⟨[⟨.fresh,true⟩,⟨.pure,true⟩,⟨.pure,true⟩,⟨.fresh,true⟩,⟨.pure,true⟩,⟨.pure,true⟩,⟨.pure,true⟩,⟨.pure,true⟩,⟨.pure,true⟩,⟨.pure,true⟩],[(1,.loc 0 0),(2,.loc 1 0),(3,.v 0),(4,.v 1)],[some (.cells [.v 2,.v 3,.v 4,.v 5,.v 6,.v 7,.v 8,.v 9]),some (.cells [k' 0,.c (.slice none 0 0),k' 0,.c (.slice none 0 0),k' 0,.c (.slice none 0 0),.c (.slice none 0 0),.c (.slice none 0 0)])],[]⟩
 |_=>⟨[],[],[],[]⟩
def qS5:Tree:=
 kX 8 0 <|
 .bind (.lit 3 1) [] <|
 vA 1 1 <|
 .bind (.app 3 1 8) [.v 2,.v 3] <|
 kX 8 1 <|
 vA 0 5 <|
 vA 1 5 <|
 vA 2 5 <|
 vA 3 5 <|
 vA 4 5 <|
 vA 5 5 <|
 vA 6 5 <|
 vA 7 5 <|
 .bind (.lit 31 1) [] <|
 .jump 1 [.v 14,k' 0,.v 6,.v 4,.v 8,.v 9,.v 10,.v 11,.v 12,.v 13]
def qS4:Tree:=
 xV 5 <|
 yE .lss 11 14 1 10 <|
 vW 11 (
  .bind (.lit 3 1) [] <|
  gA 5 1 <|
  zS 1 0 5 1 <|
  .bind (.app 3 1 8) [.v 12,.v 14] <|
  qId 15 <|
  .bind (.lit 31 1) [.v 15] <|
  .bind (.app 31 1 24) [.v 0,.v 17] <|
  yF .add 16 1 1 <|
  .jump 1 [.v 18,.v 19,.v 2,.v 3,.v 4,.v 5,.v 6,.v 7,.v 8,.v 9]) (
  .bind (.lit 94 2) [] <|
  .bind (.app 94 2 32) [.v 12,.v 7] <|
  .bind (.lit 66 2) [] <|
  .bind (.app 66 2 16) [.v 14,.v 8] <|
  .bind (.lit 120 2) [] <|
  .bind (.app 120 2 16) [.v 16,.v 9] <|
  .ret [.agg [.v 2,.v 3,.v 4,.v 0,.v 6,.v 13,.v 15,.v 17]])
def qS3:Nat->Tree
 |0=>qS5
 |1=>qS4
 |_=>.fail
def qXd:Nat->Pat
 |1=>⟨[⟨.pure,true⟩,⟨.pure,false⟩,⟨.pure,false⟩],[(2,.loc 0 0),(3,.loc 1 0),(5,.v 0)],[some (.whole (.v 1) 3),some (.whole (.v 2) 3)],[]⟩
 |2=>⟨[⟨.pure,true⟩,⟨.pure,false⟩,⟨.pure,false⟩],[(2,.loc 0 0),(3,.loc 1 0),(6,.v 0)],[some (.whole (.v 1) 3),some (.whole (.v 2) 3)],[]⟩
 |3=>⟨[⟨.pure,true⟩,⟨.pure,true⟩,⟨.pure,false⟩,⟨.pure,false⟩],[(2,.loc 0 0),(3,.loc 1 0),(6,.v 0),(7,.v 1)],[some (.whole (.v 2) 3),some (.whole (.v 3) 3)],[]⟩
 |_=>⟨[],[],[],[]⟩
def qSU:Tree:=
 kX 3 0 <|
 kX 3 1 <|
 vA 0 2 <|
 vA 0 3 <|
 .bind (.bin .neq 9 (.tmp 9) (.tmp 11)) [.v 4,.v 5] <|
 vW 6 (
  pC false) (
  vA 1 2 <|
  xV 7 <|
  vA 1 3 <|
  xV 9 <|
  yE .neq 16 19 8 10 <|
  vW 11 (
   pC false) (
   vA 2 2 <|
   xV 12 <|
   vA 2 3 <|
   xV 14 <|
   yE .neq 25 28 13 15 <|
   vW 16 (
    pC false) (
    .jump 1 [k' 0,.v 2,.v 3])))
def qST:Tree:=
 vA 1 1 <|
 xV 3 <|
 yE .lss 31 34 0 4 <|
 vW 5 (
  vA 1 1 <|
  gA 6 0 <|
  zS 2 0 6 0 <|
  vA 1 2 <|
  gA 9 0 <|
  zS 2 0 9 0 <|
  .bind (.bin .neq 9 (.tmp 43) (.tmp 49)) [.v 8,.v 11] <|
  vW 12 (
   pC false) (
   vA 1 1 <|
   gA 13 0 <|
   zS 2 1 13 0 <|
   vA 1 2 <|
   gA 16 0 <|
   zS 2 1 16 0 <|
   lZ 73 [.v 15,.v 18] 1 <|
   .bind (.un .not 4) [.v 19] <|
   vW 20 (
    pC false) (
    yF .add 36 1 0 <|
    .jump 1 [.v 21,.v 1,.v 2]))) (
  .jump 2 [k' 0,.v 1,.v 2])
def qSS:Tree:=
 vA 2 1 <|
 xV 3 <|
 yE .lss 67 70 0 4 <|
 vW 5 (
  vA 2 1 <|
  gA 6 0 <|
  zS 1 0 6 0 <|
  xV 8 <|
  vA 2 2 <|
  gA 10 0 <|
  zS 1 0 10 0 <|
  xV 12 <|
  yE .neq 79 85 9 13 <|
  vW 14 (
   pC false) (
   .jump 3 [.v 0,k' 0,.v 1,.v 2])) (
  pC true)
def qSR:Tree:=
 vA 2 2 <|
 gA 4 0 <|
 zS 1 0 4 0 <|
 xV 6 <|
 yE .lss 87 93 1 7 <|
 vW 8 (
  vA 2 2 <|
  gA 9 0 <|
  zS 1 0 9 0 <|
  gA 11 1 <|
  zS 1 0 11 1 <|
  vA 2 3 <|
  gA 14 0 <|
  zS 1 0 14 0 <|
  gA 16 1 <|
  zS 1 0 16 1 <|
  .bind (.bin .neq 9 (.tmp 104) (.tmp 112)) [.v 13,.v 18] <|
  vW 19 (
   pC false) (
   yF .add 95 1 1 <|
   .jump 3 [.v 0,.v 20,.v 2,.v 3])) (
  yF .add 72 1 0 <|
  .jump 2 [.v 9,.v 2,.v 3])
def qXc:Nat->Tree
 |0=>qSU
 |1=>qST
 |2=>qSS
 |3=>qSR
 |_=>.fail
def qXb:Nat->Pat
 |1=>⟨[⟨.pure,false⟩,⟨.pure,false⟩,⟨.pure,true⟩],[(0,.v 0),(1,.v 1),(5,.v 2)],[],[]⟩
 |_=>⟨[],[],[],[]⟩
def qSQ:Tree:=
 xV 0 <|
 xV 1 <|
 yE .neq 9 11 2 3 <|
 vW 4 (
  pC false) (
  .jump 1 [.v 0,.v 1,k' 0])
def qSP:Tree:=
 xV 0 <|
 yE .lss 13 15 2 3 <|
 vW 4 (
  gA 0 2 <|
  .bind (.elem 6 true 6 0) [.v 0,.v 2] <|
  gA 1 2 <|
  .bind (.elem 6 true 6 0) [.v 1,.v 2] <|
  kX 6 6 <|
  kX 6 8 <|
  gA 0 2 <|
  gA 1 2 <|
  vA 4 9 <|
  vA 4 10 <|
  .bind (.bin .neq 4 (.tmp 28) (.tmp 30)) [.v 13,.v 14] <|
  vW 15 (
   pC false) (
   vA 5 9 <|
   vA 5 10 <|
   .bind (.bin .neq 4 (.tmp 34) (.tmp 36)) [.v 16,.v 17] <|
   vW 18 (
    pC false) (
    vA 0 9 <|
    vA 0 10 <|
    lZ 73 [.v 19,.v 20] 1 <|
    .bind (.un .not 4) [.v 21] <|
    vW 22 (
     pC false) (
     vA 1 9 <|
     vA 1 10 <|
     lZ 73 [.v 23,.v 24] 1 <|
     .bind (.un .not 4) [.v 25] <|
     vW 26 (
      pC false) (
      vA 2 9 <|
      vA 2 10 <|
      lZ 74 [.v 27,.v 28] 1 <|
      .bind (.un .not 4) [.v 29] <|
      vW 30 (
       pC false) (
       vA 3 9 <|
       vA 3 10 <|
       lZ 74 [.v 31,.v 32] 1 <|
       .bind (.un .not 4) [.v 33] <|
       vW 34 (
        pC false) (
        yF .add 17 1 2 <|
        .jump 1 [.v 0,.v 1,.v 35]))))))) (
  pC true)
def qXa:Nat->Tree
 |0=>qSQ
 |1=>qSP
 |_=>.fail
def qW9:Nat->Pat
 |1=>⟨[⟨.pure,true⟩,⟨.pure,false⟩,⟨.pure,false⟩],[(2,.loc 0 0),(3,.loc 1 0),(5,.v 0)],[some (.whole (.v 1) 3),some (.whole (.v 2) 3)],[]⟩
 |_=>⟨[],[],[],[]⟩
def qSO:Tree:=
 kX 3 0 <|
 kX 3 1 <|
 vA 0 2 <|
 vA 0 3 <|
 yE .neq 7 9 4 5 <|
 vW 6 (
  pC false) (
  vA 1 2 <|
  xV 7 <|
  vA 1 3 <|
  xV 9 <|
  yE .neq 14 17 8 10 <|
  vW 11 (
   pC false) (
   vA 2 2 <|
   vA 2 3 <|
   lZ 73 [.v 12,.v 13] 1 <|
   .bind (.un .not 4) [.v 14] <|
   vW 15 (
    pC false) (
    .jump 1 [k' 0,.v 2,.v 3])))
def qSN:Tree:=
 vA 1 1 <|
 xV 3 <|
 yE .lss 28 31 0 4 <|
 vW 5 (
  vA 1 1 <|
  gA 6 0 <|
  .bind (.elem 3 true 3 0) [.v 6,.v 0] <|
  vA 1 2 <|
  gA 9 0 <|
  .bind (.elem 3 true 3 0) [.v 9,.v 0] <|
  .bind (.bin .neq 92 (.tmp 39) (.tmp 44)) [.v 8,.v 11] <|
  vW 12 (
   pC false) (
   yF .add 33 1 0 <|
   .jump 1 [.v 13,.v 1,.v 2])) (
  pC true)
def qW8:Nat->Tree
 |0=>qSO
 |1=>qSN
 |_=>.fail
def qXf:Nat->Pat
 |1=>⟨[⟨.pure,true⟩,⟨.pure,false⟩,⟨.pure,false⟩],[(2,.loc 0 0),(3,.loc 1 0),(5,.v 0)],[some (.whole (.v 1) 8),some (.whole (.v 2) 8)],[]⟩
 |2=>⟨[⟨.pure,true⟩,⟨.pure,false⟩,⟨.pure,false⟩],[(2,.loc 0 0),(3,.loc 1 0),(6,.v 0)],[some (.whole (.v 1) 8),some (.whole (.v 2) 8)],[]⟩
 |3=>⟨[⟨.pure,true⟩,⟨.pure,false⟩,⟨.pure,false⟩],[(2,.loc 0 0),(3,.loc 1 0),(7,.v 0)],[some (.whole (.v 1) 8),some (.whole (.v 2) 8)],[]⟩
 |4=>⟨[⟨.pure,true⟩,⟨.pure,false⟩,⟨.pure,false⟩],[(2,.loc 0 0),(3,.loc 1 0),(8,.v 0)],[some (.whole (.v 1) 8),some (.whole (.v 2) 8)],[]⟩
 |_=>⟨[],[],[],[]⟩
def qSZ:Tree:=
 kX 8 0 <|
 kX 8 1 <|
 vA 0 2 <|
 vA 0 3 <|
 yE .neq 10 12 4 5 <|
 vW 6 (
  pC false) (
  vA 2 2 <|
  vA 2 3 <|
  yE .neq 16 18 7 8 <|
  vW 9 (
   pC false) (
   vA 4 2 <|
   vA 4 3 <|
   yE .neq 23 25 10 11 <|
   vW 12 (
    pC false) (
    vA 1 2 <|
    vA 1 3 <|
    lZ 73 [.v 13,.v 14] 1 <|
    .bind (.un .not 4) [.v 15] <|
    vW 16 (
     pC false) (
     vA 3 2 <|
     xV 17 <|
     vA 3 3 <|
     xV 19 <|
     yE .neq 39 42 18 20 <|
     vW 21 (
      pC false) (
      vA 5 2 <|
      xV 22 <|
      vA 5 3 <|
      xV 24 <|
      yE .neq 48 51 23 25 <|
      vW 26 (
       pC false) (
       vA 6 2 <|
       xV 27 <|
       vA 6 3 <|
       xV 29 <|
       yE .neq 57 60 28 30 <|
       vW 31 (
        pC false) (
        vA 7 2 <|
        xV 32 <|
        vA 7 3 <|
        xV 34 <|
        yE .neq 66 69 33 35 <|
        vW 36 (
         pC false) (
         .jump 1 [k' 0,.v 2,.v 3]))))))))
def qSY:Tree:=
 vA 3 1 <|
 xV 3 <|
 yE .lss 72 75 0 4 <|
 vW 5 (
  vA 3 1 <|
  gA 6 0 <|
  zS 1 0 6 0 <|
  vA 3 2 <|
  gA 9 0 <|
  zS 1 0 9 0 <|
  lZ 73 [.v 8,.v 11] 1 <|
  .bind (.un .not 4) [.v 12] <|
  vW 13 (
   pC false) (
   yF .add 77 1 0 <|
   .jump 1 [.v 14,.v 1,.v 2])) (
  .jump 2 [k' 0,.v 1,.v 2])
def qSX:Tree:=
 vA 5 1 <|
 xV 3 <|
 yE .lss 91 94 0 4 <|
 vW 5 (
  vA 5 1 <|
  gA 6 0 <|
  .bind (.elem 2 true 2 0) [.v 6,.v 0] <|
  vA 5 2 <|
  gA 9 0 <|
  .bind (.elem 2 true 2 0) [.v 9,.v 0] <|
  .bind (.bin .neq 94 (.tmp 102) (.tmp 107)) [.v 8,.v 11] <|
  vW 12 (
   pC false) (
   yF .add 96 1 0 <|
   .jump 2 [.v 13,.v 1,.v 2])) (
  .jump 3 [k' 0,.v 1,.v 2])
def qSW:Tree:=
 vA 6 1 <|
 xV 3 <|
 yE .lss 109 112 0 4 <|
 vW 5 (
  vA 6 1 <|
  gA 6 0 <|
  .bind (.elem 2 true 2 0) [.v 6,.v 0] <|
  vA 6 2 <|
  gA 9 0 <|
  .bind (.elem 2 true 2 0) [.v 9,.v 0] <|
  .bind (.bin .neq 66 (.tmp 120) (.tmp 125)) [.v 8,.v 11] <|
  vW 12 (
   pC false) (
   yF .add 114 1 0 <|
   .jump 3 [.v 13,.v 1,.v 2])) (
  .jump 4 [k' 0,.v 1,.v 2])
def qSV:Tree:=
 vA 7 1 <|
 xV 3 <|
 yE .lss 127 130 0 4 <|
 vW 5 (
  vA 7 1 <|
  gA 6 0 <|
  .bind (.elem 2 true 2 0) [.v 6,.v 0] <|
  vA 7 2 <|
  gA 9 0 <|
  .bind (.elem 2 true 2 0) [.v 9,.v 0] <|
  .bind (.bin .neq 120 (.tmp 138) (.tmp 143)) [.v 8,.v 11] <|
  vW 12 (
   pC false) (
   yF .add 132 1 0 <|
   .jump 4 [.v 13,.v 1,.v 2])) (
  pC true)
def qXe:Nat->Tree
 |0=>qSZ
 |1=>qSY
 |2=>qSX
 |3=>qSW
 |4=>qSV
 |_=>.fail
def qXl:Nat->Pat
 |1=>⟨[⟨.pure,true⟩,⟨.pure,false⟩,⟨.pure,false⟩],[(2,.loc 0 0),(3,.loc 1 0),(5,.v 0)],[some (.whole (.v 1) 9),some (.whole (.v 2) 9)],[]⟩
 |2=>⟨[⟨.pure,true⟩,⟨.pure,false⟩,⟨.pure,false⟩],[(2,.loc 0 0),(3,.loc 1 0),(6,.v 0)],[some (.whole (.v 1) 9),some (.whole (.v 2) 9)],[]⟩
 |_=>⟨[],[],[],[]⟩
def qTa:Tree:=
 kX 9 0 <|
 kX 9 1 <|
 vA 0 2 <|
 xV 4 <|
 vA 0 3 <|
 xV 6 <|
 yE .neq 10 14 5 7 <|
 vW 8 (
  pC false) (
  vA 8 2 <|
  xV 9 <|
  vA 8 3 <|
  xV 11 <|
  yE .neq 19 22 10 12 <|
  vW 13 (
   pC false) (
   .jump 1 [k' 0,.v 2,.v 3]))
def qS9:Tree:=
 vA 0 1 <|
 xV 3 <|
 yE .lss 25 29 0 4 <|
 vW 5 (
  vA 0 1 <|
  gA 6 0 <|
  .bind (.elem 2 true 2 0) [.v 6,.v 0] <|
  vA 0 2 <|
  gA 9 0 <|
  .bind (.elem 2 true 2 0) [.v 9,.v 0] <|
  .bind (.bin .neq 81 (.tmp 38) (.tmp 44)) [.v 8,.v 11] <|
  vW 12 (
   pC false) (
   yF .add 31 1 0 <|
   .jump 1 [.v 13,.v 1,.v 2])) (
  .jump 2 [k' 0,.v 1,.v 2])
def qS8:Tree:=
 vA 8 1 <|
 xV 3 <|
 yE .lss 46 49 0 4 <|
 vW 5 (
  vA 8 1 <|
  gA 6 0 <|
  .bind (.elem 8 true 8 0) [.v 6,.v 0] <|
  vA 8 2 <|
  gA 9 0 <|
  .bind (.elem 8 true 8 0) [.v 9,.v 0] <|
  lZ 35 [.v 8,.v 11] 1 <|
  .bind (.un .not 4) [.v 12] <|
  vW 13 (
   pC false) (
   yF .add 51 1 0 <|
   .jump 2 [.v 14,.v 1,.v 2])) (
  .bind (.fld true 3 1) [.v 1] <|
  .bind (.fld true 3 1) [.v 2] <|
  lZ 36 [.v 6,.v 7] 1 <|
  vW 8 (
   vA 4 1 <|
   vA 4 2 <|
   lZ 37 [.v 9,.v 10] 1 <|
   vW 11 (
    .bind (.fld true 3 5) [.v 1] <|
    .bind (.fld true 3 5) [.v 2] <|
    lZ 38 [.v 12,.v 13] 1 <|
    .ret [.v 14]) (
    pC false)) (
   pC false))
def qXk:Nat->Tree
 |0=>qTa
 |1=>qS9
 |2=>qS8
 |_=>.fail
def qWT:Nat->Pat
 |1=>⟨[⟨.pure,false⟩,⟨.pure,false⟩,⟨.pure,true⟩,⟨.pure,true⟩],[(0,.v 0),(1,.v 1),(12,.v 2),(13,.v 3)],[],[]⟩
 |_=>⟨[],[],[],[]⟩
def qSB:Tree:=
 xV 0 <|
 xV 1 <|
 yE .neq 7 9 2 3 <|
 vW 4 (
  pC false) (
  xV 0 <|
  .jump 1 [.v 0,.v 1,.v 5,k' 0])
def qSA:Tree:=
 yE .lss 13 12 3 2 <|
 vW 4 (
  gA 0 3 <|
  zS 1 0 0 3 <|
  gA 1 3 <|
  zS 1 0 1 3 <|
  yE .neq 19 23 6 8 <|
  vW 9 (
   pC false) (
   yF .add 13 1 3 <|
   .jump 1 [.v 0,.v 1,.v 2,.v 10])) (
  pC true)
def qWS:Nat->Tree
 |0=>qSB
 |1=>qSA
 |_=>.fail
def qWR:Nat->Pat
 |1=>⟨[⟨.pure,false⟩,⟨.pure,false⟩,⟨.pure,true⟩],[(0,.v 0),(1,.v 1),(5,.v 2)],[],[]⟩
 |_=>⟨[],[],[],[]⟩
def qSz:Tree:=
 xV 0 <|
 xV 1 <|
 yE .neq 7 9 2 3 <|
 vW 4 (
  pC false) (
  .jump 1 [.v 0,.v 1,k' 0])
def qSy:Tree:=
 xV 0 <|
 yE .lss 11 13 2 3 <|
 vW 4 (
  gA 0 2 <|
  .bind (.elem 2 true 2 0) [.v 0,.v 2] <|
  gA 1 2 <|
  .bind (.elem 2 true 2 0) [.v 1,.v 2] <|
  .bind (.bin .neq 58 (.tmp 20) (.tmp 24)) [.v 6,.v 8] <|
  vW 9 (
   pC false) (
   yF .add 15 1 2 <|
   .jump 1 [.v 0,.v 1,.v 10])) (
  pC true)
def qWQ:Nat->Tree
 |0=>qSz
 |1=>qSy
 |_=>.fail
def qBF:Nat->Pat
 |_=>⟨[⟨.pure,false⟩,⟨.pure,false⟩],[(0,.v 0),(1,.fn (.func 39) [] [.v 1])],[],[]⟩
def sF:Tree:=
 kX 9 0 <|
 .callM 39 qX0 [.v 1,.v 2] <|
 .bind (.bin .neq 43 (.tmp 9) (K' 0)) [.v 3,k' 0] <|
 vW 5 (
  .ret [.agg [.c (.slice none 0 0),.c (.string ⟨#[]⟩),.c (.slice none 0 0),.c (.slice none 0 0),.c (.slice none 0 0),k' 0,.c (.slice none 0 0),.c (.slice none 0 0),.c (.slice none 0 0)],.v 3]) (
  kX 9 4 <|
  .ret [.v 6,k' 0])
def qJN:Nat->Tree
 |0=>sF
 |_=>.fail
def qBE:Nat->Pat
 |_=>⟨[⟨.pure,false⟩,⟨.pure,false⟩],[(0,.v 0),(1,.fn (.func 42) [] [.v 1])],[],[]⟩
def sE:Tree:=
 kX 9 0 <|
 .callM 42 qXZ [.v 1,.v 2] <|
 .bind (.bin .neq 43 (.tmp 9) (K' 0)) [.v 3,k' 0] <|
 vW 5 (
  .ret [.agg [.c (.slice none 0 0),.c (.string ⟨#[]⟩),.c (.slice none 0 0),.c (.slice none 0 0),.c (.slice none 0 0),k' 0,.c (.slice none 0 0),.c (.slice none 0 0),.c (.slice none 0 0)],.v 3]) (
  kX 9 4 <|
  .ret [.v 6,k' 0])
def qJM:Nat->Tree
 |0=>sE
 |_=>.fail
theorem uO:(aS Tryz.f9 1 zAx,
 hd Tryz.f9 1 zAx,
 nr Tryz.f9,
 aS Tryz.f31 1 qXh,
 hd Tryz.f31 1 qXh,
 nr Tryz.f31,
 aS Tryz.f36 2 qXd,
 hd Tryz.f36 2 qXd,
 nr Tryz.f36,
 aS Tryz.f37 2 qXb,
 hd Tryz.f37 2 qXb,
 nr Tryz.f37,
 aS Tryz.f38 2 qW9,
 hd Tryz.f38 2 qW9,
 nr Tryz.f38,
 aS Tryz.f35 2 qXf,
 hd Tryz.f35 2 qXf,
 nr Tryz.f35,
 aS Tryz.f13 2 qXl,
 hd Tryz.f13 2 qXl,
 nr Tryz.f13,
 aS Tryz.f73 2 qWT,
 hd Tryz.f73 2 qWT,
 nr Tryz.f73,
 aS Tryz.f74 2 qWR,
 hd Tryz.f74 2 qWR,
 nr Tryz.f74,
 nr Tryz.f216,
 nr Tryz.f183) =
 (qWN,[(1,qWM),(2,qWL),(3,qWK),(4,qWJ)],false,qS5,[(1,qS4)],false,qSU,[(1,qST),(2,qSS),(3,qSR)],false,qSQ,[(1,qSP)],false,qSO,[(1,qSN)],false,qSZ,[(1,qSY),(2,qSX),(3,qSW),(4,qSV)],false,qTa,[(1,qS9),(2,qS8)],false,qSB,[(1,qSA)],false,qSz,[(1,qSy)],false,false,false):=by kernel_rfl
theorem u9{ds:List D}{d:D}(x:ds.length=1)(h:qX EE (Holds EE) qGh 0 ds d):Holds EE 9 ds d:=
 hv Tryz.func9 rfl uO (kY rfl<|kY rfl<|kY rfl<|kY rfl<|kC) x h
theorem zBq{ds:List D}{d:D}(x:ds.length=1)(h:qX EE (Holds EE) qS3 0 ds d):Holds EE 31 ds d:=
 hv Tryz.func31 rfl (wZ (wZ (wZ uO))) (kY rfl<|kC) x h
theorem zBn{ds:List D}{d:D}(x:ds.length=2)(h:qX EE (Holds EE) qXc 0 ds d):Holds EE 36 ds d:=
 hv Tryz.func36 rfl (wZ (wZ (kU uO))) (kY rfl<|kY rfl<|kY rfl<|kC) x h
theorem zBm{ds:List D}{d:D}(x:ds.length=2)(h:qX EE (Holds EE) qXa 0 ds d):Holds EE 37 ds d:=
 hv Tryz.func37 rfl (wZ (kU (kU uO))) (kY rfl<|kC) x h
theorem zBl{ds:List D}{d:D}(x:ds.length=2)(h:qX EE (Holds EE) qW8 0 ds d):Holds EE 38 ds d:=
 hv Tryz.func38 rfl (kU (kU (kU uO))) (kY rfl<|kC) x h
theorem zBo{ds:List D}{d:D}(x:ds.length=2)(h:qX EE (Holds EE) qXe 0 ds d):Holds EE 35 ds d:=
 hv Tryz.func35 rfl (wZ (wZ (wZ (kU (kU (kU uO)))))) (kY rfl<|kY rfl<|kY rfl<|kY rfl<|kC) x h
theorem zBs{ds:List D}{d:D}(x:ds.length=2)(h:qX EE (Holds EE) qXk 0 ds d):Holds EE 13 ds d:=
 hv Tryz.func13 rfl (wZ (wZ (vK uO))) (kY rfl<|kY rfl<|kC) x h
theorem zBd{ds:List D}{d:D}(x:ds.length=2)(h:qX EE (Holds EE) qWS 0 ds d):Holds EE 73 ds d:=
 hv Tryz.func73 rfl (wZ (kU (vK uO))) (kY rfl<|kC) x h
theorem zBc{ds:List D}{d:D}(x:ds.length=2)(h:qX EE (Holds EE) qWQ 0 ds d):Holds EE 74 ds d:=
 hv Tryz.func74 rfl (kU (kU (vK uO))) (kY rfl<|kC) x h
end Go.Proofs.YtminhjecpnpaeaaGreatDoor
