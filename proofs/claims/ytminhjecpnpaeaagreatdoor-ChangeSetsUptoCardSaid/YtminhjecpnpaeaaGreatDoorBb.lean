/- Trees of functions. Conditions: none. -/
import Derived.Test.YtminhjecpnpaeaaGreatDoorBa
set_option linter.unusedVariables false
set_option linter.unusedSimpArgs false
namespace Go.Proofs.YtminhjecpnpaeaaGreatDoor
open Go Go.Am Go.Proofs
def aM:Go.Am.Mode:=⟨⟨[⟨.pure,false⟩,⟨.pure,false⟩],[(0,.v 0),(1,.fn (.func 39) [] [.v 1])],[],[]⟩,2,⟨[⟨.pure,false⟩,⟨.pure,false⟩],[(0,.v 0),(1,.v 1)],[],[]⟩⟩
def aL:Go.Am.Mode:=⟨⟨[⟨.pure,false⟩,⟨.pure,false⟩],[(0,.v 0),(1,.fn (.func 42) [] [.v 1])],[],[]⟩,2,⟨[⟨.pure,false⟩,⟨.pure,false⟩],[(0,.v 0),(1,.v 1)],[],[]⟩⟩
def aK:Go.Am.Mode:=⟨⟨[⟨.pure,false⟩,⟨.pure,false⟩],[(0,.loc 0 0),(1,.v 0)],[some (.whole (.v 1) 9)],[]⟩,2,⟨[⟨.pure,false⟩,⟨.pure,false⟩],[(0,.v 0)],[some (.whole (.v 1) 9)],[]⟩⟩
def aJ:Go.Am.Mode:=⟨⟨[⟨.pure,false⟩,⟨.pure,false⟩],[(0,.loc 0 0),(1,.v 0)],[some (.whole (.v 1) 9)],[]⟩,2,⟨[⟨.pure,false⟩,⟨.pure,false⟩],[(0,.v 0)],[some (.whole (.v 1) 9)],[]⟩⟩
def qVz:Nat->Pat
 | 1=>⟨[⟨.fresh,true⟩,⟨.pure,true⟩,⟨.pure,true⟩],[(23,.v 0),(24,.v 1),(25,.v 2)],[],[]⟩
 | _=>⟨[],[],[],[]⟩
def qRw:Tree :=
 .bind (.bin .eql 9 (.tmp 5) (.const (.string ⟨#[]⟩))) [.v 0,.c (.string ⟨#[]⟩)] <|
 zF 1 (
  wG false) (
  .bind (.len true) [.v 0] <|
  vQ .gtr 9 32 2 <|
  zF 3 (
   wG false) (
   .bind .chr [.v 0,k' 0] <|
   .bind (.bin .lss 5 (.tmp 14) (.const (.int .u8 97))) [.v 4,.c (.int .u8 97)] <|
   zF 5 (
    wG false) (
    .bind .chr [.v 0,k' 0] <|
    .bind (.bin .gtr 5 (.tmp 19) (.const (.int .u8 122))) [.v 6,.c (.int .u8 122)] <|
    zF 7 (
     wG false) (
     .bind (.byt 5) [.v 0] <|
     xE 8 <|
     .jump 1 [.v 8,.v 9,k' 0]))))
def qRv:Tree :=
 xF .lss 25 24 2 1 <|
 zF 3 (
  wP 0 2 <|
  jA 1 0 0 2 <|
  .bind (.bin .lss 5 (.tmp 29) (.const (.int .u8 97))) [.v 5,.c (.int .u8 97)] <|
  zF 6 (
   .bind (.bin .lss 5 (.tmp 36) (.const (.int .u8 48))) [.v 5,.c (.int .u8 48)] <|
   zF 7 (
    .bind (.bin .neq 5 (.tmp 44) (.const (.int .u8 45))) [.v 5,.c (.int .u8 45)] <|
    zF 8 (
     .bind (.bin .neq 5 (.tmp 48) (.const (.int .u8 95))) [.v 5,.c (.int .u8 95)] <|
     zF 9 (
      wG false) (
      vQ .add 25 1 2 <|
      .jump 1 [.v 0,.v 1,.v 10])) (
     vQ .add 25 1 2 <|
     .jump 1 [.v 0,.v 1,.v 9])) (
    .bind (.bin .gtr 5 (.tmp 39) (.const (.int .u8 57))) [.v 5,.c (.int .u8 57)] <|
    zF 8 (
     .bind (.bin .neq 5 (.tmp 44) (.const (.int .u8 45))) [.v 5,.c (.int .u8 45)] <|
     zF 9 (
      .bind (.bin .neq 5 (.tmp 48) (.const (.int .u8 95))) [.v 5,.c (.int .u8 95)] <|
      zF 10 (
       wG false) (
       vQ .add 25 1 2 <|
       .jump 1 [.v 0,.v 1,.v 11])) (
      vQ .add 25 1 2 <|
      .jump 1 [.v 0,.v 1,.v 10])) (
     vQ .add 25 1 2 <|
     .jump 1 [.v 0,.v 1,.v 9]))) (
   .bind (.bin .gtr 5 (.tmp 32) (.const (.int .u8 122))) [.v 5,.c (.int .u8 122)] <|
   zF 7 (
    .bind (.bin .lss 5 (.tmp 36) (.const (.int .u8 48))) [.v 5,.c (.int .u8 48)] <|
    zF 8 (
     .bind (.bin .neq 5 (.tmp 44) (.const (.int .u8 45))) [.v 5,.c (.int .u8 45)] <|
     zF 9 (
      .bind (.bin .neq 5 (.tmp 48) (.const (.int .u8 95))) [.v 5,.c (.int .u8 95)] <|
      zF 10 (
       wG false) (
       vQ .add 25 1 2 <|
       .jump 1 [.v 0,.v 1,.v 11])) (
      vQ .add 25 1 2 <|
      .jump 1 [.v 0,.v 1,.v 10])) (
     .bind (.bin .gtr 5 (.tmp 39) (.const (.int .u8 57))) [.v 5,.c (.int .u8 57)] <|
     zF 9 (
      .bind (.bin .neq 5 (.tmp 44) (.const (.int .u8 45))) [.v 5,.c (.int .u8 45)] <|
      zF 10 (
       .bind (.bin .neq 5 (.tmp 48) (.const (.int .u8 95))) [.v 5,.c (.int .u8 95)] <|
       zF 11 (
        wG false) (
        vQ .add 25 1 2 <|
        .jump 1 [.v 0,.v 1,.v 12])) (
       vQ .add 25 1 2 <|
       .jump 1 [.v 0,.v 1,.v 11])) (
      vQ .add 25 1 2 <|
      .jump 1 [.v 0,.v 1,.v 10]))) (
    vQ .add 25 1 2 <|
    .jump 1 [.v 0,.v 1,.v 8]))) (
  wG true)
def qRu:Nat->Tree
 | 0=>qRw
 | 1=>qRv
 | _=>.fail
def qVy:Nat->Pat
 | _=>⟨[],[],[],[]⟩
def qRt:Tree :=
 yZ 127 [.v 0] 1 <|
 zF 1 (
  .call (.fn 128) [.v 0,.c (.string ⟨#[32]⟩)] 1 <|
  .bind (.un .not 4) [.v 2] <|
  .ret [.v 3]) (
  wG false)
def qVx:Nat->Tree
 | 0=>qRt
 | _=>.fail
def qSm:Nat->Pat
 | _=>⟨[],[],[],[]⟩
def qLS:Tree :=
 .bind (.bin .eql 9 (.tmp 5) (.const (.string ⟨#[]⟩))) [.v 0,.c (.string ⟨#[]⟩)] <|
 zF 1 (
  wG false) (
  .bind (.len true) [.v 0] <|
  vQ .gtr 9 32 2 <|
  zF 3 (
   wG false) (
   .bind (.byt 5) [.v 0] <|
   .call (.fn 157) [.v 4,.fn (.func 158) [] []] 1 <|
   zF 5 (
    wG false) (
    yZ 159 [.v 0] 0 <|
    qJl 0 6 <|
    qJl 1 6 <|
    .ret [.v 8])))
def qTc:Nat->Tree
 | 0=>qLS
 | _=>.fail
def qSe:Nat->Pat
 | _=>⟨[],[],[],[]⟩
def qLM:Tree :=
 yZ 181 [.v 0,.v 1] 1 <|
 vQ .geq 7 0 2 <|
 .ret [.v 3]
def qS9:Nat->Tree
 | 0=>qLM
 | _=>.fail
def qR9:Nat->Pat
 | 1=>⟨[⟨.pure,false⟩,⟨.pure,false⟩,⟨.pure,true⟩,⟨.pure,true⟩],[(0,.v 0),(1,.v 1),(7,.v 2),(8,.v 3)],[],[]⟩
 | _=>⟨[],[],[],[]⟩
def qLI:Tree :=
 xE 0 <|
 .jump 1 [.v 0,.v 1,.v 2,k' 0]
def qLH:Tree :=
 xF .lss 8 7 3 2 <|
 zF 4 (
  wP 0 3 <|
  jA 1 0 0 3 <|
  .call (.val (.v 1)) [.v 1,.v 6] 1 <|
  zF 7 (
   .ret [.v 3]) (
   vQ .add 8 1 3 <|
   .jump 1 [.v 0,.v 1,.v 2,.v 8])) (
  .ret [.c (.int .i64 (-1))])
def qLG:Nat->Tree
 | 0=>qLI
 | 1=>qLH
 | _=>.fail
def qSd:Nat->Pat
 | _=>⟨[],[],[],[]⟩
def qLL:Tree :=
 .bind (.bin .lss 5 (.tmp 3) (.const (.int .u8 32))) [.v 0,.c (.int .u8 32)] <|
 zF 1 (
  wG true) (
  .bind (.bin .eql 5 (.tmp 6) (.const (.int .u8 127))) [.v 0,.c (.int .u8 127)] <|
  .ret [.v 2])
def qS8:Nat->Tree
 | 0=>qLL
 | _=>.fail
def qVw:Nat->Pat
 | _=>⟨[],[],[],[]⟩
def qRs:Tree :=
 wU 1 0 <|
 xE 1 <|
 vQ .eql 7 0 3 <|
 zF 4 (
  gN 4) (
  xE 1 <|
  vQ .gtr 11 24 5 <|
  zF 6 (
   gN 5) (
   .bind .boxw [.v 2] <|
   .call (.fn 66) [.v 1,.fn (.func 129) [] [.pp 7 0]] 1 <|
   zF 8 (
    gN 19) (
    gN 0)))
def qVv:Nat->Tree
 | 0=>qRs
 | _=>.fail
def qVO:Nat->Pat
 | _=>⟨[],[],[],[]⟩
def qRE:Tree :=
 yZ 120 [.v 0,.v 1] 1 <|
 vQ .geq 7 0 2 <|
 .ret [.v 3]
def qVN:Nat->Tree
 | 0=>qRE
 | _=>.fail
def qSp:Nat->Pat
 | 1=>⟨[⟨.pure,false⟩,⟨.pure,false⟩,⟨.pure,true⟩,⟨.pure,true⟩],[(0,.v 0),(1,.v 1),(7,.v 2),(8,.v 3)],[],[]⟩
 | _=>⟨[],[],[],[]⟩
def qL0:Tree :=
 xE 0 <|
 .jump 1 [.v 0,.v 1,.v 2,k' 0]
def qLZ:Tree :=
 xF .lss 8 7 3 2 <|
 zF 4 (
  wP 0 3 <|
  jA 1 0 0 3 <|
  .call (.val (.v 1)) [.v 1,.v 6] 1 <|
  zF 7 (
   .ret [.v 3]) (
   vQ .add 8 1 3 <|
   .jump 1 [.v 0,.v 1,.v 2,.v 8])) (
  .ret [.c (.int .i64 (-1))])
def qLY:Nat->Tree
 | 0=>qL0
 | 1=>qLZ
 | _=>.fail
def qSl:Nat->Pat
 | _=>⟨[],[],[],[]⟩
def qLR:Tree :=
 .bind .pchk [.v 1] <|
 .bind (.loadp true 1) [.pp 2 0] <|
 yZ 130 [.v 3,.v 0] 1 <|
 .bind (.un .not 4) [.v 4] <|
 .ret [.v 5]
def qTb:Nat->Tree
 | 0=>qLR
 | _=>.fail
def qSk:Nat->Pat
 | _=>⟨[],[],[],[]⟩
def qLQ:Tree :=
 wU 1 0 <|
 vQ .geq 5 1 1 <|
 zF 3 (
  zN 0 2 <|
  xE 4 <|
  xF .leq 8 11 1 5 <|
  .ret [.v 6]) (
  wG false)
def qTa:Nat->Tree
 | 0=>qLQ
 | _=>.fail
def qVu:Nat->Pat
 | 1=>⟨[⟨.fresh,true⟩,⟨.pure,true⟩,⟨.pure,true⟩,⟨.pure,true⟩],[(3,.v 0),(14,.v 1),(15,.v 2),(16,.v 3)],[],[]⟩
 | 2=>⟨[⟨.fresh,true⟩,⟨.pure,true⟩,⟨.pure,true⟩,⟨.pure,true⟩,⟨.pure,true⟩,⟨.pure,true⟩,⟨.pure,true⟩],[(3,.v 0),(14,.v 1),(15,.v 2),(16,.v 3),(23,.v 4),(24,.v 5),(25,.v 6)],[],[]⟩
 | _=>⟨[],[],[],[]⟩
def qRr:Tree :=
 wU 3 0 <|
 zN 2 1 <|
 xE 2 <|
 vQ .gtr 10 100 3 <|
 zF 4 (
  gN 11) (
  .bind .mnew [] <|
  zN 2 1 <|
  xE 6 <|
  .jump 1 [.v 5,.v 6,.v 7,k' 0])
def qRq:Tree :=
 xF .lss 16 15 3 2 <|
 zF 4 (
  wP 1 3 <|
  jA 1 0 1 3 <|
  xE 6 <|
  vQ .eql 21 0 7 <|
  zF 8 (
   gN 4) (
   xE 6 <|
   .jump 2 [.v 0,.v 1,.v 2,.v 3,.v 6,.v 9,k' 0])) (
  gN 0)
def qRp:Tree :=
 xF .lss 25 24 6 5 <|
 zF 7 (
  wP 4 6 <|
  jA 1 0 4 6 <|
  yZ 79 [.v 9] 1 <|
  .bind (.un .not 4) [.v 10] <|
  zF 11 (
   gN 3) (
   .bind (.mget 165 false) [.v 0,.v 9] <|
   zF 12 (
    gN 8) (
    .bind (.mset 165) [.v 0,.v 9,.c (.bool true)] <|
    vQ .add 25 1 6 <|
    .jump 2 [.v 13,.v 1,.v 2,.v 3,.v 4,.v 5,.v 14]))) (
  vQ .add 16 1 3 <|
  .jump 1 [.v 0,.v 1,.v 2,.v 8])
def qLB:Nat->Tree
 | 0=>qRr
 | 1=>qRq
 | 2=>qRp
 | _=>.fail
def qVR:Nat->Pat
 | 1=>⟨[⟨.pure,true⟩,⟨.pure,true⟩,⟨.pure,true⟩,⟨.pure,false⟩,⟨.pure,false⟩],[(2,.loc 0 0),(3,.loc 1 0),(18,.v 0),(19,.v 1),(20,.v 2)],[some (.whole (.v 3) 1),some (.whole (.v 4) 3)],[]⟩
 | 2=>⟨[⟨.pure,true⟩,⟨.pure,true⟩,⟨.pure,true⟩,⟨.pure,true⟩,⟨.pure,true⟩,⟨.pure,true⟩,⟨.pure,false⟩,⟨.pure,false⟩,⟨.pure,false⟩],[(2,.loc 0 0),(3,.loc 1 0),(6,.loc 2 0),(18,.v 0),(19,.v 1),(20,.v 2),(32,.v 3),(33,.v 4),(34,.v 5)],[some (.whole (.v 6) 1),some (.whole (.v 7) 3),some (.whole (.v 8) 2)],[]⟩
 | _=>⟨[],[],[],[]⟩
def qRH:Tree :=
 wU 1 0 <|
 wU 3 1 <|
 zN 0 3 <|
 yZ 78 [.v 4] 1 <|
 .bind (.un .not 4) [.v 5] <|
 zF 6 (
  gN 7) (
  zN 1 3 <|
  xE 7 <|
  vQ .gtr 15 100 8 <|
  zF 9 (
   gN 11) (
   zN 1 3 <|
   xE 10 <|
   .jump 1 [.v 10,.v 11,k' 0,.v 2,.v 3]))
def qRG:Tree :=
 xF .lss 20 19 2 1 <|
 zF 5 (
  wP 0 2 <|
  .bind (.elem 2 true 2 0) [.v 0,.v 2] <|
  wU 2 7 <|
  zN 0 8 <|
  yZ 79 [.v 9] 1 <|
  .bind (.un .not 4) [.v 10] <|
  zF 11 (
   gN 3) (
   zN 1 4 <|
   .bind (.slc 77 2 false true) [.v 12,.v 2] <|
   xE 13 <|
   .jump 2 [.v 0,.v 1,.v 2,.v 13,.v 14,k' 0,.v 3,.v 4,.v 8])) (
  yZ 81 [.v 4] 1 <|
  .ret [.v 6])
def qRF:Tree :=
 xF .lss 34 33 5 4 <|
 zF 9 (
  wP 3 5 <|
  .bind (.elem 2 true 2 0) [.v 3,.v 5] <|
  wU 2 11 <|
  zN 0 12 <|
  zN 0 8 <|
  .bind (.bin .eql 9 (.tmp 39) (.tmp 41)) [.v 13,.v 14] <|
  zF 15 (
   gN 8) (
   vQ .add 34 1 5 <|
   .jump 2 [.v 0,.v 1,.v 2,.v 3,.v 4,.v 16,.v 6,.v 7,.v 8])) (
  zN 1 8 <|
  xE 10 <|
  vQ .eql 46 0 11 <|
  zF 12 (
   gN 19) (
   zN 1 8 <|
   xE 13 <|
   vQ .gtr 51 3 14 <|
   zF 15 (
    gN 19) (
    zN 1 8 <|
    yZ 80 [.v 6,.v 16] 1 <|
    .bind (.bin .neq 43 (.tmp 58) (K' 0)) [.v 17,k' 0] <|
    zF 18 (
     gN 19) (
     vQ .add 20 1 2 <|
     .jump 1 [.v 0,.v 1,.v 19,.v 6,.v 7]))))
def qLD:Nat->Tree
 | 0=>qRH
 | 1=>qRG
 | 2=>qRF
 | _=>.fail
def qVT:Nat->Pat
 | 1=>⟨[⟨.ptr,true⟩,⟨.pure,true⟩,⟨.pure,true⟩,⟨.pure,true⟩],[(1,.pp 0 0),(3,.fn (.func 75) [] [.pp 0 0]),(23,.v 1),(24,.v 2),(25,.v 3)],[],[]⟩
 | 2=>⟨[⟨.ptr,true⟩,⟨.pure,true⟩],[(1,.pp 0 0),(3,.fn (.func 75) [] [.pp 0 0]),(6,.v 1)],[],[]⟩
 | 3=>⟨[⟨.ptr,true⟩,⟨.pure,true⟩,⟨.pure,true⟩,⟨.pure,true⟩],[(3,.fn (.func 75) [] [.pp 0 0]),(77,.v 1),(78,.v 2),(79,.v 3)],[],[]⟩
 | _=>⟨[],[],[],[]⟩
def qRQ:Tree :=
 wU 3 0 <|
 zN 0 1 <|
 vQ .lss 10 1 2 <|
 zF 3 (
  gN 2) (
  zN 0 1 <|
  vQ .gtr 14 24 4 <|
  zF 5 (
   gN 2) (
   zN 1 1 <|
   xE 6 <|
   vQ .gtr 19 200 7 <|
   zF 8 (
    gN 11) (
    .bind .boxw [.v 1] <|
    .bind (.loadp false 1) [.pp 9 1] <|
    xE 10 <|
    .jump 1 [.v 9,.v 10,.v 11,k' 0])))
def qRP:Tree :=
 xF .lss 25 24 3 2 <|
 zF 4 (
  wP 1 3 <|
  .bind (.elem 3 true 3 0) [.v 1,.v 3] <|
  wU 3 6 <|
  zN 0 7 <|
  yZ 75 [.v 8,.pp 0 0] 1 <|
  .bind (.un .not 4) [.v 9] <|
  zF 10 (
   gN 2) (
   zN 2 7 <|
   yZ 75 [.v 11,.pp 0 0] 1 <|
   .bind (.un .not 4) [.v 12] <|
   zF 13 (
    gN 2) (
    zN 1 7 <|
    vQ .lss 43 1 14 <|
    zF 15 (
     gN 21) (
     zN 1 7 <|
     vQ .gtr 47 20 16 <|
     zF 17 (
      gN 21) (
      .bind (.loadp false 1) [.pp 0 1] <|
      .bind (.slc 92 3 false true) [.v 18,.v 3] <|
      yZ 76 [.v 19,.v 7] 1 <|
      zF 20 (
       gN 8) (
       vQ .add 25 1 3 <|
       .jump 1 [.v 0,.v 1,.v 2,.v 21])))))) (
  .jump 2 [.v 0,k' 1])
def qRO:Tree :=
 .bind (.loadp false 1) [.pp 0 2] <|
 xE 2 <|
 xF .lss 57 60 1 3 <|
 zF 4 (
  .bind (.loadp false 1) [.pp 0 2] <|
  vQ .sub 66 1 1 <|
  wP 5 6 <|
  jA 1 0 5 6 <|
  .bind (.loadp false 1) [.pp 0 2] <|
  wP 9 1 <|
  jA 1 0 9 1 <|
  xF .geq 69 74 8 11 <|
  zF 12 (
   gN 10) (
   vQ .add 62 1 1 <|
   .jump 2 [.v 0,.v 13])) (
  .bind (.loadp false 1) [.pp 0 2] <|
  xE 5 <|
  .jump 3 [.v 0,.v 5,.v 6,k' 0])
def qRN:Tree :=
 xF .lss 79 78 3 2 <|
 zF 4 (
  wP 1 3 <|
  jA 1 0 1 3 <|
  yZ 75 [.v 6,.pp 0 0] 1 <|
  .bind (.un .not 4) [.v 7] <|
  zF 8 (
   gN 2) (
   vQ .add 79 1 3 <|
   .jump 3 [.v 0,.v 1,.v 2,.v 9])) (
  gN 0)
def qIv:Nat->Tree
 | 0=>qRQ
 | 1=>qRP
 | 2=>qRO
 | 3=>qRN
 | _=>.fail
def qVF:Nat->Pat
 | _=>⟨[],[],[],[]⟩
def qRz:Tree :=
 vQ .geq 4 0 0 <|
 zF 2 (
  .bind .pchk [.v 1] <|
  .bind (.loadp false 1) [.pp 3 0] <|
  xF .lss 7 9 0 4 <|
  .ret [.v 5]) (
  wG false)
def qVE:Nat->Tree
 | 0=>qRz
 | _=>.fail
def qVD:Nat->Pat
 | _=>⟨[],[],[],[]⟩
def qRy:Tree :=
 wU 3 1 <|
 yZ 126 [.v 0,.v 2] 1 <|
 vQ .geq 7 0 3 <|
 .ret [.v 4]
def qVC:Nat->Tree
 | 0=>qRy
 | _=>.fail
def qSn:Nat->Pat
 | 1=>⟨[⟨.pure,false⟩,⟨.pure,true⟩,⟨.pure,true⟩,⟨.pure,false⟩],[(0,.v 0),(3,.loc 0 0),(7,.v 1),(8,.v 2)],[some (.whole (.v 3) 3)],[]⟩
 | _=>⟨[],[],[],[]⟩
def qLV:Tree :=
 wU 3 1 <|
 xE 0 <|
 .jump 1 [.v 0,.v 3,k' 0,.v 2]
def qLU:Tree :=
 xF .lss 8 7 2 1 <|
 zF 4 (
  wP 0 2 <|
  .bind (.elem 3 true 3 0) [.v 0,.v 2] <|
  .bind (.bin .eql 92 (.tmp 11) (.tmp 15)) [.v 3,.v 6] <|
  zF 7 (
   .ret [.v 2]) (
   vQ .add 8 1 2 <|
   .jump 1 [.v 0,.v 1,.v 8,.v 3])) (
  .ret [.c (.int .i64 (-1))])
def qLT:Nat->Tree
 | 0=>qLV
 | 1=>qLU
 | _=>.fail
def qWc:Nat->Pat
 | _=>⟨[],[],[],[]⟩
def qSf:Tree :=
 wU 9 0 <|
 wU 3 1 <|
 .bind .boxw [.v 3] <|
 .callM 26 aM [.v 2,.pp 4 0] <|
 wU 9 5 <|
 .ret [.v 7,.v 6]
def qWb:Nat->Tree
 | 0=>qSf
 | _=>.fail
def qV7:Nat->Pat
 | _=>⟨[],[],[],[]⟩
def qSb:Tree :=
 wU 9 0 <|
 wU 3 1 <|
 .bind .boxw [.v 3] <|
 .callM 26 aL [.v 2,.pp 4 0] <|
 wU 9 5 <|
 .ret [.v 7,.v 6]
def qV6:Nat->Tree
 | 0=>qSb
 | _=>.fail
def iQ:Nat->Pat
 | 1000=>⟨[⟨.fresh,true⟩,⟨.pure,true⟩,⟨.pure,true⟩],[(0,.yld 2),(6,.loc 3 0)],[some (.cells [.v 0]),some (.cells [.v 1]),some (.loop 0 0),some (.tcells 0 [.v 1,.v 2])],[[(4,.loc 0 0)]]⟩
 | _=>⟨[],[],[none,none,none],[]⟩
def qLK:Tree :=
 yZ 182 [.v 0] 1 <|
 .bind (.un .not 4) [.v 1] <|
 zF 2 (
  .ret [.c (.slice none 0 0),.c (.bool false)]) (
  qCj 0 <|
  .bind (.len true) [.v 3] <|
  .jump 1000 [.c (.slice none 0 0),.v 3,k' 0])
def qC4:Tree :=
 .bind .nok [.v 1,.v 2] <|
 zF 3 (
  .bind .nch [.v 1,.v 2] <|
  .bind .nnx [.v 1,.v 2] <|
  .bind (.conv 21 3) [.v 4] <|
  qCj 6 <|
  .bind (.lit 3 1) [.v 6] <|
  .bind (.app 3 1 8) [.v 0,.v 8] <|
  .jump 1000 [.v 9,.v 1,.v 5]) (
  .ret [.v 0,.c (.bool true)])
def qLJ:Nat->Tree
 | 0=>qLK
 | 1000=>qC4
 | _=>.fail
noncomputable def qC5:qG0:=[(216,Tryz.f216,jG Tryz.f216),(183,Tryz.f183,jG Tryz.f183)]
noncomputable def uR:Nat->Nat:=fun k=>bif Nat.ble 1000 k then Nat.max Tryz.f216.ntmps 2 else Nat.max Tryz.f159.ntmps 1
def qV9:Nat->Pat
 | _=>⟨[],[],[],[]⟩
def qSc:Tree :=
 wU 9 0 <|
 wU 3 1 <|
 yZ 41 [.v 3] 1 <|
 .bind (.bin .neq 43 (.tmp 9) (K' 0)) [.v 4,k' 0] <|
 zF 5 (
  .ret [.agg [.c (.slice none 0 0),.c (.string ⟨#[]⟩),.c (.slice none 0 0),.c (.slice none 0 0),.c (.slice none 0 0),k' 0,.c (.slice none 0 0),.c (.slice none 0 0),.c (.slice none 0 0)],.v 4]) (
  wU 9 2 <|
  zN 0 6 <|
  zN 1 6 <|
  zN 2 6 <|
  zN 3 6 <|
  zN 4 6 <|
  zN 5 6 <|
  zN 6 6 <|
  zN 7 6 <|
  zN 8 6 <|
  wU 3 3 <|
  zN 0 16 <|
  zN 1 16 <|
  zN 2 16 <|
  .ret [.agg [.v 7,.v 8,.v 9,.v 10,.v 11,.v 17,.v 18,.v 19,.v 15],k' 0])
def qV8:Nat->Tree
 | 0=>qSc
 | _=>.fail
def qV5:Nat->Pat
 | _=>⟨[],[],[],[]⟩
def qSa:Tree :=
 wU 9 0 <|
 wU 3 1 <|
 .bind (.fld true 1 0) [.v 2] <|
 yZ 44 [.v 4,.v 3] 1 <|
 .bind (.bin .neq 43 (.tmp 11) (K' 0)) [.v 5,k' 0] <|
 zF 6 (
  .ret [.agg [.c (.slice none 0 0),.c (.string ⟨#[]⟩),.c (.slice none 0 0),.c (.slice none 0 0),.c (.slice none 0 0),k' 0,.c (.slice none 0 0),.c (.slice none 0 0),.c (.slice none 0 0)],.v 5]) (
  wU 9 2 <|
  zN 0 7 <|
  zN 1 7 <|
  zN 2 7 <|
  zN 3 7 <|
  zN 4 7 <|
  zN 5 7 <|
  zN 6 7 <|
  zN 7 7 <|
  zN 8 7 <|
  wU 3 3 <|
  zN 0 17 <|
  zN 1 17 <|
  zN 2 17 <|
  .ret [.agg [.v 8,.v 18,.v 19,.v 20,.v 12,.v 13,.v 14,.v 15,.v 16],k' 0])
def qV4:Nat->Tree
 | 0=>qSa
 | _=>.fail
def qVS:Nat->Pat
 | 1=>⟨[⟨.pure,true⟩,⟨.pure,false⟩],[(1,.loc 0 0),(3,.v 0)],[some (.whole (.v 1) 3)],[]⟩
 | 2=>⟨[⟨.pure,true⟩,⟨.pure,true⟩,⟨.pure,false⟩,⟨.pure,true⟩,⟨.pure,true⟩,⟨.pure,true⟩,⟨.pure,false⟩],[(1,.loc 0 0),(3,.v 0),(4,.loc 1 0),(5,.v 1),(38,.v 2),(39,.loc 1 2),(40,.v 3),(41,.v 4),(42,.c (.bool false)),(48,.loc 1 1),(49,.v 5),(50,.c (.bool false))],[some (.whole (.v 2) 3),some (.whole (.v 6) 3)],[]⟩
 | 3=>⟨[⟨.pure,true⟩,⟨.pure,false⟩],[(1,.loc 0 0),(6,.v 0)],[some (.whole (.v 1) 3)],[]⟩
 | 4=>⟨[⟨.pure,true⟩,⟨.pure,false⟩],[(1,.loc 0 0),(7,.v 0)],[some (.whole (.v 1) 3)],[]⟩
 | _=>⟨[],[],[],[]⟩
def qRM:Tree :=
 wU 3 0 <|
 zN 0 1 <|
 vQ .lss 9 1 2 <|
 zF 3 (
  gN 2) (
  zN 0 1 <|
  vQ .gtr 13 24 4 <|
  zF 5 (
   gN 2) (
   zN 1 1 <|
   xE 6 <|
   vQ .gtr 18 200 7 <|
   zF 8 (
    gN 11) (
    .jump 1 [k' 0,.v 1])))
def qRL:Tree :=
 zN 1 1 <|
 xE 2 <|
 xF .lss 20 23 0 3 <|
 zF 4 (
  zN 1 1 <|
  wP 5 0 <|
  .bind (.elem 3 true 3 0) [.v 5,.v 0] <|
  wU 3 7 <|
  zN 0 8 <|
  yZ 77 [.v 1,.v 9] 1 <|
  .bind (.un .not 4) [.v 10] <|
  zF 11 (
   gN 2) (
   zN 2 8 <|
   yZ 77 [.v 1,.v 12] 1 <|
   .bind (.un .not 4) [.v 13] <|
   zF 14 (
    gN 2) (
    zN 1 8 <|
    vQ .lss 45 1 15 <|
    zF 16 (
     gN 21) (
     zN 1 8 <|
     vQ .gtr 49 20 17 <|
     zF 18 (
      gN 21) (
      .jump 2 [.v 0,k' 0,.v 1,.v 12,.v 13,.v 17,.v 8]))))) (
  .jump 3 [k' 1,.v 1])
def qRK:Tree :=
 xF .lss 52 53 1 0 <|
 zF 7 (
  zN 1 2 <|
  wP 8 1 <|
  .bind (.elem 3 true 3 0) [.v 8,.v 1] <|
  .bind (.bin .eql 92 (.tmp 61) (.tmp 62)) [.v 10,.v 6] <|
  zF 11 (
   gN 8) (
   vQ .add 55 1 1 <|
   .jump 2 [.v 0,.v 12,.v 2,.v 3,.v 4,.v 5,.v 6])) (
  vQ .add 25 1 0 <|
  .jump 1 [.v 8,.v 2])
def qRJ:Tree :=
 zN 2 1 <|
 xE 2 <|
 xF .lss 64 67 0 3 <|
 zF 4 (
  zN 2 1 <|
  wP 5 0 <|
  jA 1 0 5 0 <|
  zN 2 1 <|
  vQ .sub 78 1 0 <|
  wP 8 9 <|
  jA 1 0 8 9 <|
  xF .leq 75 81 7 11 <|
  zF 12 (
   gN 10) (
   vQ .add 69 1 0 <|
   .jump 3 [.v 13,.v 1])) (
  .jump 4 [k' 0,.v 1])
def qRI:Tree :=
 zN 2 1 <|
 xE 2 <|
 xF .lss 83 86 0 3 <|
 zF 4 (
  zN 2 1 <|
  wP 5 0 <|
  jA 1 0 5 0 <|
  yZ 77 [.v 1,.v 7] 1 <|
  .bind (.un .not 4) [.v 8] <|
  zF 9 (
   gN 2) (
   vQ .add 88 1 0 <|
   .jump 4 [.v 10,.v 1])) (
  gN 0)
def qE5:Nat->Tree
 | 0=>qRM
 | 1=>qRL
 | 2=>qRK
 | 3=>qRJ
 | 4=>qRI
 | _=>.fail
def qVB:Nat->Pat
 | _=>⟨[],[],[],[]⟩
def qRx:Tree :=
 wU 3 0 <|
 vQ .geq 5 0 1 <|
 zF 3 (
  zN 0 2 <|
  xF .lss 8 10 1 4 <|
  .ret [.v 5]) (
  wG false)
def qVA:Nat->Tree
 | 0=>qRx
 | _=>.fail
def qLC:Nat->Pat
 | 1=>⟨[⟨.pure,true⟩,⟨.pure,false⟩,⟨.pure,false⟩],[(2,.loc 0 0),(3,.loc 1 0),(5,.v 0)],[some (.whole (.v 1) 1),some (.whole (.v 2) 3)],[]⟩
 | 2=>⟨[⟨.fresh,true⟩,⟨.pure,true⟩,⟨.pure,false⟩],[(3,.loc 1 0),(7,.v 0),(8,.v 1)],[none,some (.whole (.v 2) 3)],[]⟩
 | 3=>⟨[⟨.fresh,true⟩,⟨.pure,true⟩,⟨.pure,true⟩,⟨.pure,false⟩],[(3,.loc 1 0),(7,.v 0),(8,.v 1),(9,.v 2)],[none,some (.whole (.v 3) 3)],[]⟩
 | _=>⟨[],[],[],[]⟩
def qE4:Tree :=
 wU 1 0 <|
 wU 3 1 <|
 zN 0 3 <|
 yZ 82 [.v 4] 1 <|
 .bind (.un .not 4) [.v 5] <|
 zF 6 (
  gN 7) (
  zN 1 3 <|
  xE 7 <|
  vQ .gtr 17 100 8 <|
  zF 9 (
   gN 11) (
   .jump 1 [k' 0,.v 2,.v 3]))
def qE3:Tree :=
 zN 1 2 <|
 xE 3 <|
 xF .lss 19 22 0 4 <|
 zF 5 (
  yZ 83 [.v 1,.v 2,.v 0] 1 <|
  .bind (.bin .neq 43 (.tmp 30) (K' 0)) [.v 6,k' 0] <|
  zF 7 (
   .ret [.v 6]) (
   vQ .add 24 1 0 <|
   .jump 1 [.v 8,.v 1,.v 2])) (
  zN 2 2 <|
  xE 6 <|
  vQ .gtr 35 100 7 <|
  zF 8 (
   gN 11) (
   .jump 2 [.c (.slice none 0 0),k' 0,.v 2]))
def qE2:Tree :=
 zN 2 2 <|
 xE 3 <|
 xF .lss 37 40 1 4 <|
 zF 5 (
  zN 2 2 <|
  wP 6 1 <|
  jA 1 0 6 1 <|
  xE 8 <|
  vQ .eql 49 0 9 <|
  zF 10 (
   gN 4) (
   .jump 3 [.v 0,.v 1,k' 0,.v 2])) (
  gN 0)
def qE1:Tree :=
 zN 2 3 <|
 wP 4 1 <|
 jA 1 0 4 1 <|
 xE 6 <|
 xF .lss 51 57 2 7 <|
 zF 8 (
  zN 2 3 <|
  wP 9 1 <|
  jA 1 0 9 1 <|
  wP 11 2 <|
  jA 1 0 11 2 <|
  yZ 84 [.v 13] 1 <|
  .bind (.un .not 4) [.v 14] <|
  zF 15 (
   gN 3) (
   yZ 85 [.v 0,.v 13] 1 <|
   zF 16 (
    gN 8) (
    qCj 13 <|
    .bind (.lit 9 1) [.v 13] <|
    .bind (.app 9 1 16) [.v 0,.v 18] <|
    vQ .add 59 1 2 <|
    .jump 3 [.v 19,.v 1,.v 20,.v 3]))) (
  vQ .add 42 1 1 <|
  .jump 2 [.v 0,.v 9,.v 3])
def cN:Nat->Tree
 | 0=>qE4
 | 1=>qE3
 | 2=>qE2
 | 3=>qE1
 | _=>.fail
def qVt:Nat->Pat
 | 1=>⟨[⟨.pure,false⟩,⟨.pure,true⟩],[(0,.v 0),(3,.v 1)],[],[]⟩
 | _=>⟨[],[],[],[]⟩
def qRo:Tree :=
 .jump 1 [.v 0,k' 0]
def qRn:Tree :=
 .bind (.len true) [.v 0] <|
 xF .lss 5 7 1 2 <|
 zF 3 (
  .bind .chr [.v 0,.v 1] <|
  .bind (.bin .geq 5 (.tmp 13) (.const (.int .u8 97))) [.v 4,.c (.int .u8 97)] <|
  zF 5 (
   .bind .chr [.v 0,.v 1] <|
   .bind (.bin .leq 5 (.tmp 18) (.const (.int .u8 122))) [.v 6,.c (.int .u8 122)] <|
   .bind (.un .not 4) [.v 7] <|
   zF 8 (
    vQ .eql 24 0 1 <|
    zF 9 (
     wG false) (
     .bind .chr [.v 0,.v 1] <|
     .bind (.bin .neq 5 (.tmp 29) (.const (.int .u8 45))) [.v 10,.c (.int .u8 45)] <|
     zF 11 (
      .bind .chr [.v 0,.v 1] <|
      .bind (.bin .neq 5 (.tmp 34) (.const (.int .u8 95))) [.v 12,.c (.int .u8 95)] <|
      zF 13 (
       .bind .chr [.v 0,.v 1] <|
       .bind (.bin .lss 5 (.tmp 40) (.const (.int .u8 48))) [.v 14,.c (.int .u8 48)] <|
       zF 15 (
        wG false) (
        .bind .chr [.v 0,.v 1] <|
        .bind (.bin .gtr 5 (.tmp 45) (.const (.int .u8 57))) [.v 16,.c (.int .u8 57)] <|
        zF 17 (
         wG false) (
         vQ .add 9 1 1 <|
         .jump 1 [.v 0,.v 18]))) (
       vQ .add 9 1 1 <|
       .jump 1 [.v 0,.v 14])) (
      vQ .add 9 1 1 <|
      .jump 1 [.v 0,.v 12]))) (
    vQ .add 9 1 1 <|
    .jump 1 [.v 0,.v 9])) (
   vQ .eql 24 0 1 <|
   zF 6 (
    wG false) (
    .bind .chr [.v 0,.v 1] <|
    .bind (.bin .neq 5 (.tmp 29) (.const (.int .u8 45))) [.v 7,.c (.int .u8 45)] <|
    zF 8 (
     .bind .chr [.v 0,.v 1] <|
     .bind (.bin .neq 5 (.tmp 34) (.const (.int .u8 95))) [.v 9,.c (.int .u8 95)] <|
     zF 10 (
      .bind .chr [.v 0,.v 1] <|
      .bind (.bin .lss 5 (.tmp 40) (.const (.int .u8 48))) [.v 11,.c (.int .u8 48)] <|
      zF 12 (
       wG false) (
       .bind .chr [.v 0,.v 1] <|
       .bind (.bin .gtr 5 (.tmp 45) (.const (.int .u8 57))) [.v 13,.c (.int .u8 57)] <|
       zF 14 (
        wG false) (
        vQ .add 9 1 1 <|
        .jump 1 [.v 0,.v 15]))) (
      vQ .add 9 1 1 <|
      .jump 1 [.v 0,.v 11])) (
     vQ .add 9 1 1 <|
     .jump 1 [.v 0,.v 9])))) (
  .bind (.len true) [.v 0] <|
  vQ .geq 52 1 4 <|
  zF 5 (
   .bind (.len true) [.v 0] <|
   vQ .leq 56 32 6 <|
   .ret [.v 7]) (
   wG false))
def qRm:Nat->Tree
 | 0=>qRo
 | 1=>qRn
 | _=>.fail
def qVs:Nat->Pat
 | 1=>⟨[⟨.pure,false⟩,⟨.pure,true⟩,⟨.pure,false⟩,⟨.pure,false⟩,⟨.pure,false⟩],[(2,.v 0),(3,.loc 0 0),(4,.loc 1 0),(7,.loc 2 0),(8,.v 1)],[some (.whole (.v 2) 1),some (.whole (.v 3) 3),some (.whole (.v 4) 2)],[]⟩
 | 2=>⟨[⟨.pure,true⟩,⟨.pure,false⟩,⟨.pure,false⟩],[(3,.loc 0 0),(7,.loc 2 0),(9,.v 0)],[some (.whole (.v 1) 1),none,some (.whole (.v 2) 2)],[]⟩
 | _=>⟨[],[],[],[]⟩
def qRl:Tree :=
 wU 1 0 <|
 wU 3 1 <|
 zN 1 4 <|
 wP 5 2 <|
 .bind (.elem 2 true 2 0) [.v 5,.v 2] <|
 wU 2 7 <|
 zN 0 8 <|
 yZ 84 [.v 9] 1 <|
 .bind (.un .not 4) [.v 10] <|
 zF 11 (
  gN 3) (
  .jump 1 [.v 2,k' 0,.v 3,.v 4,.v 8])
def qRk:Tree :=
 xF .lss 19 20 1 0 <|
 zF 5 (
  zN 1 3 <|
  wP 6 1 <|
  jA 2 0 6 1 <|
  zN 0 4 <|
  .bind (.bin .eql 9 (.tmp 29) (.tmp 31)) [.v 8,.v 9] <|
  zF 10 (
   gN 8) (
   vQ .add 22 1 1 <|
   .jump 1 [.v 0,.v 11,.v 2,.v 3,.v 4])) (
  zN 1 4 <|
  xE 6 <|
  vQ .lss 35 1 7 <|
  zF 8 (
   gN 19) (
   zN 1 4 <|
   xE 9 <|
   vQ .gtr 40 3 10 <|
   zF 11 (
    gN 19) (
    .jump 2 [k' 0,.v 2,.v 4])))
def qRj:Tree :=
 zN 1 2 <|
 xE 3 <|
 xF .lss 43 46 0 4 <|
 zF 5 (
  zN 1 2 <|
  wP 6 0 <|
  jA 1 0 6 0 <|
  vQ .lss 54 1 8 <|
  zF 9 (
   gN 19) (
   zN 1 2 <|
   wP 10 0 <|
   jA 1 0 10 0 <|
   zN 0 1 <|
   xE 13 <|
   xF .gtr 61 64 12 14 <|
   zF 15 (
    gN 19) (
    vQ .add 48 1 0 <|
    .jump 2 [.v 16,.v 1,.v 2]))) (
  gN 0)
def qLA:Nat->Tree
 | 0=>qRl
 | 1=>qRk
 | 2=>qRj
 | _=>.fail
def qVr:Nat->Pat
 | 1=>⟨[⟨.pure,false⟩,⟨.pure,true⟩],[(0,.v 0),(3,.v 1)],[],[]⟩
 | _=>⟨[],[],[],[]⟩
def qRi:Tree :=
 .jump 1 [.v 0,k' 0]
def qRh:Tree :=
 .bind (.len true) [.v 0] <|
 xF .lss 4 6 1 2 <|
 zF 3 (
  .bind .chr [.v 0,.v 1] <|
  .bind (.bin .eql 5 (.tmp 12) (.const (.int .u8 32))) [.v 4,.c (.int .u8 32)] <|
  zF 5 (
   wG false) (
   vQ .add 8 1 1 <|
   .jump 1 [.v 0,.v 6])) (
  yZ 86 [.v 0] 1 <|
  .ret [.v 4])
def qRg:Nat->Tree
 | 0=>qRi
 | 1=>qRh
 | _=>.fail
def qVq:Nat->Pat
 | 1=>⟨[⟨.pure,false⟩,⟨.pure,false⟩,⟨.pure,true⟩],[(0,.v 0),(1,.v 1),(5,.v 2)],[],[]⟩
 | _=>⟨[],[],[],[]⟩
def qRf:Tree :=
 .jump 1 [.v 0,.v 1,k' 0]
def qRe:Tree :=
 xE 0 <|
 xF .lss 6 8 2 3 <|
 zF 4 (
  wP 0 2 <|
  jA 1 0 0 2 <|
  .bind (.bin .eql 9 (.tmp 15) (.tmp 16)) [.v 6,.v 1] <|
  zF 7 (
   wG true) (
   vQ .add 10 1 2 <|
   .jump 1 [.v 0,.v 1,.v 8])) (
  wG false)
def qRd:Nat->Tree
 | 0=>qRf
 | 1=>qRe
 | _=>.fail
def qVp:Nat->Pat
 | 1=>⟨[⟨.pure,false⟩,⟨.pure,true⟩],[(0,.v 0),(3,.v 1)],[],[]⟩
 | _=>⟨[],[],[],[]⟩
def qRc:Tree :=
 .jump 1 [.v 0,k' 0]
def qRb:Tree :=
 .bind (.len true) [.v 0] <|
 xF .lss 6 8 1 2 <|
 zF 3 (
  .bind .chr [.v 0,.v 1] <|
  .bind (.bin .lss 5 (.tmp 14) (.const (.int .u8 32))) [.v 4,.c (.int .u8 32)] <|
  zF 5 (
   wG false) (
   .bind .chr [.v 0,.v 1] <|
   .bind (.bin .eql 5 (.tmp 19) (.const (.int .u8 127))) [.v 6,.c (.int .u8 127)] <|
   zF 7 (
    wG false) (
    vQ .add 10 1 1 <|
    .jump 1 [.v 0,.v 8]))) (
  yZ 131 [.v 0] 0 <|
  qJl 0 4 <|
  qJl 1 4 <|
  zF 6 (
   .bind (.len true) [.v 0] <|
   vQ .geq 30 1 7 <|
   zF 8 (
    .bind (.len true) [.v 0] <|
    vQ .leq 35 32 9 <|
    .ret [.v 10]) (
    wG false)) (
   wG false))
def qRa:Nat->Tree
 | 0=>qRc
 | 1=>qRb
 | _=>.fail
def qSj:Nat->Pat
 | 1=>⟨[⟨.pure,false⟩,⟨.fresh,true⟩,⟨.pure,true⟩],[(0,.v 0),(4,.v 1),(5,.v 2)],[],[]⟩
 | _=>⟨[],[],[],[]⟩
def qLP:Tree :=
 .jump 1 [.v 0,.c (.slice none 0 0),k' 0]
def qLO:Tree :=
 .bind (.len true) [.v 0] <|
 xF .lss 8 10 2 3 <|
 zF 4 (
  yZ 161 [.v 0,.v 2] 2 <|
  qJl 0 5 <|
  qJl 1 5 <|
  vQ .eql 18 0 7 <|
  zF 8 (
   .ret [.c (.slice none 0 0),.c (.bool false)]) (
   qCj 6 <|
   .bind (.lit 3 1) [.v 6] <|
   .bind (.app 3 1 8) [.v 1,.v 10] <|
   xF .add 24 25 2 7 <|
   .jump 1 [.v 0,.v 11,.v 12])) (
  .ret [.v 1,.c (.bool true)])
def qLN:Nat->Tree
 | 0=>qLP
 | 1=>qLO
 | _=>.fail
def qE6:Nat->Pat
 | 1=>⟨[⟨.pure,false⟩,⟨.pure,false⟩,⟨.pure,true⟩,⟨.pure,true⟩,⟨.pure,true⟩],[(0,.v 0),(1,.v 1),(6,.v 2),(7,.v 3),(8,.v 4)],[],[]⟩
 | _=>⟨[],[],[],[]⟩
def qA3:Tree :=
 .bind .chr [.v 0,.v 1] <|
 .bind (.conv 5 3) [.v 2] <|
 vQ .geq 14 240 3 <|
 zF 4 (
  vQ .sub 16 240 3 <|
  .bind (.bin .add 3 (.tmp 28) (.tmp 29)) [.v 1,k' 4] <|
  .bind (.len true) [.v 0] <|
  xF .gtr 30 32 6 7 <|
  zF 8 (
   .ret [.c (.int .i64 (-1)),k' 0]) (
   .jump 1 [.v 0,.v 1,.v 5,k' 4,k' 1])) (
  vQ .geq 19 224 3 <|
  zF 5 (
   vQ .sub 21 224 3 <|
   .bind (.bin .add 3 (.tmp 28) (.tmp 29)) [.v 1,k' 3] <|
   .bind (.len true) [.v 0] <|
   xF .gtr 30 32 7 8 <|
   zF 9 (
    .ret [.c (.int .i64 (-1)),k' 0]) (
    .jump 1 [.v 0,.v 1,.v 6,k' 3,k' 1])) (
   vQ .geq 24 192 3 <|
   zF 6 (
    vQ .sub 26 192 3 <|
    .bind (.bin .add 3 (.tmp 28) (.tmp 29)) [.v 1,k' 2] <|
    .bind (.len true) [.v 0] <|
    xF .gtr 30 32 8 9 <|
    zF 10 (
     .ret [.c (.int .i64 (-1)),k' 0]) (
     .jump 1 [.v 0,.v 1,.v 7,k' 2,k' 1])) (
    .bind (.bin .add 3 (.tmp 28) (.tmp 29)) [.v 1,k' 1] <|
    .bind (.len true) [.v 0] <|
    xF .gtr 30 32 7 8 <|
    zF 9 (
     .ret [.c (.int .i64 (-1)),k' 0]) (
     .jump 1 [.v 0,.v 1,.v 3,k' 1,k' 1]))))
def qA2:Tree :=
 xF .lss 34 35 4 3 <|
 zF 5 (
  vQ .mul 39 64 2 <|
  xF .add 42 43 1 4 <|
  .bind .chr [.v 0,.v 7] <|
  .bind (.conv 5 3) [.v 8] <|
  vQ .rem 46 64 9 <|
  xF .add 40 47 6 10 <|
  vQ .add 37 1 4 <|
  .jump 1 [.v 0,.v 1,.v 11,.v 3,.v 12]) (
  yZ 185 [.v 2] 1 <|
  .bind (.un .not 4) [.v 6] <|
  zF 7 (
   .ret [.c (.int .i64 (-1)),k' 0]) (
   yZ 186 [.v 2] 1 <|
   xF .add 57 58 1 3 <|
   .bind (.sub true true) [.v 0,.v 1,.v 9] <|
   .bind (.bin .neq 9 (.tmp 54) (.tmp 60)) [.v 8,.v 10] <|
   zF 11 (
    .ret [.c (.int .i64 (-1)),k' 0]) (
    .ret [.v 2,.v 3])))
def rP:Nat->Tree
 | 0=>qA3
 | 1=>qA2
 | _=>.fail
def qR8:Nat->Pat
 | _=>⟨[],[],[],[]⟩
def qLF:Tree :=
 vQ .geq 3 0 0 <|
 zF 1 (
  vQ .leq 6 1114111 0 <|
  zF 2 (
   vQ .lss 10 55296 0 <|
   zF 3 (
    wG true) (
    vQ .gtr 13 57343 0 <|
    .ret [.v 4])) (
   wG false)) (
  wG false)
def qS6:Nat->Tree
 | 0=>qLF
 | _=>.fail
def qR7:Nat->Pat
 | _=>⟨[],[],[],[]⟩
def qLE:Tree :=
 vQ .lss 4 128 0 <|
 zF 1 (
  .bind (.conv 3 5) [.v 0] <|
  qCj 2 <|
  .bind (.lit 5 1) [.v 2] <|
  .bind .bstr [.v 4] <|
  .ret [.v 5]) (
  vQ .lss 11 2048 0 <|
  zF 2 (
   vQ .quo 13 64 0 <|
   .bind (.bin .add 3 (K' 192) (.tmp 14)) [k' 192,.v 3] <|
   .bind (.conv 3 5) [.v 4] <|
   vQ .rem 17 64 0 <|
   .bind (.bin .add 3 (K' 128) (.tmp 18)) [k' 128,.v 6] <|
   .bind (.conv 3 5) [.v 7] <|
   qCj 5 <|
   qCj 8 <|
   .bind (.lit 5 1) [.v 5,.v 8] <|
   .bind .bstr [.v 11] <|
   .ret [.v 12]) (
   vQ .lss 24 65536 0 <|
   zF 3 (
    vQ .quo 26 4096 0 <|
    .bind (.bin .add 3 (K' 224) (.tmp 27)) [k' 224,.v 4] <|
    .bind (.conv 3 5) [.v 5] <|
    vQ .quo 30 64 0 <|
    vQ .rem 31 64 7 <|
    .bind (.bin .add 3 (K' 128) (.tmp 32)) [k' 128,.v 8] <|
    .bind (.conv 3 5) [.v 9] <|
    vQ .rem 35 64 0 <|
    .bind (.bin .add 3 (K' 128) (.tmp 36)) [k' 128,.v 11] <|
    .bind (.conv 3 5) [.v 12] <|
    qCj 6 <|
    qCj 10 <|
    qCj 13 <|
    .bind (.lit 5 1) [.v 6,.v 10,.v 13] <|
    .bind .bstr [.v 17] <|
    .ret [.v 18]) (
    vQ .quo 41 262144 0 <|
    .bind (.bin .add 3 (K' 240) (.tmp 42)) [k' 240,.v 4] <|
    .bind (.conv 3 5) [.v 5] <|
    vQ .quo 45 4096 0 <|
    vQ .rem 46 64 7 <|
    .bind (.bin .add 3 (K' 128) (.tmp 47)) [k' 128,.v 8] <|
    .bind (.conv 3 5) [.v 9] <|
    vQ .quo 50 64 0 <|
    vQ .rem 51 64 11 <|
    .bind (.bin .add 3 (K' 128) (.tmp 52)) [k' 128,.v 12] <|
    .bind (.conv 3 5) [.v 13] <|
    vQ .rem 55 64 0 <|
    .bind (.bin .add 3 (K' 128) (.tmp 56)) [k' 128,.v 15] <|
    .bind (.conv 3 5) [.v 16] <|
    qCj 6 <|
    qCj 10 <|
    qCj 14 <|
    qCj 17 <|
    .bind (.lit 5 1) [.v 6,.v 10,.v 14,.v 17] <|
    .bind .bstr [.v 22] <|
    .ret [.v 23])))
def qS5:Nat->Tree
 | 0=>qLE
 | _=>.fail
def qZa:Nat->Pat
 | 1=>⟨[⟨.fresh,true⟩,⟨.pure,true⟩,⟨.fresh,true⟩,⟨.pure,true⟩,⟨.pure,true⟩,⟨.pure,true⟩,⟨.pure,true⟩,⟨.pure,true⟩,⟨.pure,true⟩,⟨.pure,true⟩,⟨.pure,true⟩],[(1,.loc 0 0),(2,.loc 1 0),(3,.v 0),(4,.v 1)],[some (.cells [.v 2,.v 3,.v 4,.v 5,.v 6,.v 7,.v 8,.v 9,.v 10]),some (.cells [.c (.slice none 0 0),.c (.string ⟨#[]⟩),.c (.slice none 0 0),.c (.slice none 0 0),.c (.slice none 0 0),k' 0,.c (.slice none 0 0),.c (.slice none 0 0),.c (.slice none 0 0)])],[]⟩
 | 2=>⟨[⟨.fresh,true⟩,⟨.fresh,true⟩,⟨.pure,true⟩,⟨.fresh,true⟩,⟨.pure,true⟩,⟨.pure,true⟩,⟨.pure,true⟩,⟨.pure,true⟩,⟨.pure,true⟩,⟨.pure,true⟩,⟨.pure,true⟩,⟨.pure,true⟩],[(1,.loc 0 0),(2,.loc 1 0),(3,.v 0),(5,.v 1),(6,.v 2)],[some (.cells [.v 3,.v 4,.v 5,.v 6,.v 7,.v 8,.v 9,.v 10,.v 11]),some (.cells [.c (.slice none 0 0),.c (.string ⟨#[]⟩),.c (.slice none 0 0),.c (.slice none 0 0),.c (.slice none 0 0),k' 0,.c (.slice none 0 0),.c (.slice none 0 0),.c (.slice none 0 0)])],[]⟩
 | 3=>⟨[⟨.fresh,true⟩,⟨.pure,true⟩,⟨.fresh,true⟩,⟨.pure,true⟩,⟨.fresh,true⟩,⟨.fresh,true⟩,⟨.pure,true⟩,⟨.pure,true⟩,⟨.pure,true⟩,⟨.pure,true⟩,⟨.pure,true⟩],[(1,.loc 0 0),(2,.loc 1 0),(7,.v 0),(8,.v 1)],[some (.cells [.v 2,.v 3,.v 4,.v 5,.v 6,.v 7,.v 8,.v 9,.v 10]),some (.cells [.c (.slice none 0 0),.c (.string ⟨#[]⟩),.c (.slice none 0 0),.c (.slice none 0 0),.c (.slice none 0 0),k' 0,.c (.slice none 0 0),.c (.slice none 0 0),.c (.slice none 0 0)])],[]⟩
 | 4=>⟨[⟨.fresh,true⟩,⟨.pure,true⟩,⟨.fresh,true⟩,⟨.pure,true⟩,⟨.fresh,true⟩,⟨.fresh,true⟩,⟨.fresh,true⟩,⟨.pure,true⟩,⟨.fresh,true⟩,⟨.fresh,true⟩,⟨.pure,true⟩],[(1,.loc 0 0),(2,.loc 1 0),(10,.v 0),(11,.v 1)],[some (.cells [.v 2,.v 3,.v 4,.v 5,.v 6,.v 7,.v 8,.v 9,.v 10]),some (.cells [.c (.slice none 0 0),.c (.string ⟨#[]⟩),.c (.slice none 0 0),.c (.slice none 0 0),.c (.slice none 0 0),k' 0,.c (.slice none 0 0),.c (.slice none 0 0),.c (.slice none 0 0)])],[]⟩
 | _=>⟨[],[],[],[]⟩
def qVn:Tree :=
 wU 9 0 <|
 .bind (.lit 81 2) [] <|
 zN 0 1 <|
 .bind (.app 81 2 24) [.v 2,.v 3] <|
 wU 9 1 <|
 zN 0 5 <|
 zN 1 5 <|
 zN 2 5 <|
 zN 3 5 <|
 zN 4 5 <|
 zN 5 5 <|
 zN 6 5 <|
 zN 7 5 <|
 zN 8 5 <|
 .bind (.lit 77 2) [] <|
 .jump 1 [.v 15,k' 0,.v 4,.v 7,.v 8,.v 9,.v 10,.v 11,.v 12,.v 13,.v 14]
def qVm:Tree :=
 xE 4 <|
 xF .lss 20 24 1 11 <|
 zF 12 (
  wP 4 1 <|
  jA 2 0 4 1 <|
  .bind (.lit 3 1) [] <|
  wP 4 1 <|
  jA 2 1 4 1 <|
  .bind (.app 3 1 8) [.v 15,.v 17] <|
  .bind (.chk true 2) [.agg [.v 14,.v 18]] <|
  .bind (.lit 77 2) [.agg [.v 14,.v 18]] <|
  .bind (.app 77 2 40) [.v 0,.v 20] <|
  vQ .add 26 1 1 <|
  .jump 1 [.v 21,.v 22,.v 2,.v 3,.v 4,.v 5,.v 6,.v 7,.v 8,.v 9,.v 10]) (
  .bind (.lit 50 1) [] <|
  .jump 2 [.v 0,.v 13,k' 0,.v 2,.v 3,.v 4,.v 5,.v 6,.v 7,.v 8,.v 9,.v 10])
def qVl:Tree :=
 xE 6 <|
 xF .lss 49 53 2 12 <|
 zF 13 (
  .bind (.lit 9 1) [] <|
  wP 6 2 <|
  jA 1 0 6 2 <|
  .bind (.app 9 1 16) [.v 14,.v 16] <|
  qCj 17 <|
  .bind (.lit 50 1) [.v 17] <|
  .bind (.app 50 1 24) [.v 1,.v 19] <|
  vQ .add 55 1 2 <|
  .jump 2 [.v 0,.v 20,.v 21,.v 3,.v 4,.v 5,.v 6,.v 7,.v 8,.v 9,.v 10,.v 11]) (
  .bind (.lit 39 6) [] <|
  .jump 3 [.v 14,k' 0,.v 3,.v 4,.v 0,.v 1,.v 7,.v 8,.v 9,.v 10,.v 11])
def qVk:Tree :=
 xE 6 <|
 xF .lss 76 79 1 11 <|
 zF 12 (
  wP 6 1 <|
  .bind (.elem 6 true 6 0) [.v 6,.v 1] <|
  wU 6 14 <|
  .bind (.lit 3 1) [] <|
  zN 0 15 <|
  .bind (.app 3 1 8) [.v 16,.v 17] <|
  .bind (.lit 3 1) [] <|
  zN 1 15 <|
  .bind (.app 3 1 8) [.v 19,.v 20] <|
  .bind (.lit 58 2) [] <|
  zN 2 15 <|
  .bind (.app 58 2 16) [.v 22,.v 23] <|
  .bind (.lit 58 2) [] <|
  zN 3 15 <|
  .bind (.app 58 2 16) [.v 25,.v 26] <|
  zN 4 15 <|
  zN 5 15 <|
  .bind (.chk true 6) [.agg [.v 18,.v 21,.v 24,.v 27,.v 28,.v 29]] <|
  .bind (.lit 39 6) [.agg [.v 18,.v 21,.v 24,.v 27,.v 28,.v 29]] <|
  .bind (.app 39 6 104) [.v 0,.v 31] <|
  vQ .add 81 1 1 <|
  .jump 3 [.v 32,.v 33,.v 2,.v 3,.v 4,.v 5,.v 6,.v 7,.v 8,.v 9,.v 10]) (
  .bind (.lit 92 3) [] <|
  .bind (.app 92 3 24) [.v 13,.v 8] <|
  .bind (.lit 3 1) [] <|
  .bind (.app 3 1 8) [.v 15,.v 9] <|
  .bind (.lit 64 8) [] <|
  .jump 4 [.v 17,k' 0,.v 2,.v 3,.v 4,.v 5,.v 0,.v 7,.v 14,.v 16,.v 10])
def qVj:Tree :=
 xE 10 <|
 xF .lss 130 133 1 11 <|
 zF 12 (
  wP 10 1 <|
  .bind (.elem 8 true 8 0) [.v 10,.v 1] <|
  yZ 31 [.v 14] 0 <|
  wU 8 15 <|
  .bind (.lit 64 8) [.v 15] <|
  .bind (.app 64 8 144) [.v 0,.v 17] <|
  vQ .add 135 1 1 <|
  .jump 4 [.v 18,.v 19,.v 2,.v 3,.v 4,.v 5,.v 6,.v 7,.v 8,.v 9,.v 10]) (
  .ret [.agg [.v 2,.v 3,.v 4,.v 5,.v 6,.v 7,.v 8,.v 9,.v 0]])
def qE0:Nat->Tree
 | 0=>qVn
 | 1=>qVm
 | 2=>qVl
 | 3=>qVk
 | 4=>qVj
 | _=>.fail
def qV2:Nat->Pat
 | 1=>⟨[⟨.fresh,true⟩,⟨.pure,true⟩,⟨.pure,true⟩,⟨.fresh,true⟩,⟨.pure,true⟩,⟨.pure,true⟩,⟨.pure,true⟩,⟨.pure,true⟩,⟨.pure,true⟩,⟨.pure,true⟩],[(1,.loc 0 0),(2,.loc 1 0),(3,.v 0),(4,.v 1)],[some (.cells [.v 2,.v 3,.v 4,.v 5,.v 6,.v 7,.v 8,.v 9]),some (.cells [k' 0,.c (.slice none 0 0),k' 0,.c (.slice none 0 0),k' 0,.c (.slice none 0 0),.c (.slice none 0 0),.c (.slice none 0 0)])],[]⟩
 | _=>⟨[],[],[],[]⟩
def qR6:Tree :=
 wU 8 0 <|
 .bind (.lit 3 1) [] <|
 zN 1 1 <|
 .bind (.app 3 1 8) [.v 2,.v 3] <|
 wU 8 1 <|
 zN 0 5 <|
 zN 1 5 <|
 zN 2 5 <|
 zN 3 5 <|
 zN 4 5 <|
 zN 5 5 <|
 zN 6 5 <|
 zN 7 5 <|
 .bind (.lit 31 1) [] <|
 .jump 1 [.v 14,k' 0,.v 6,.v 4,.v 8,.v 9,.v 10,.v 11,.v 12,.v 13]
def qR5:Tree :=
 xE 5 <|
 xF .lss 11 14 1 10 <|
 zF 11 (
  .bind (.lit 3 1) [] <|
  wP 5 1 <|
  jA 1 0 5 1 <|
  .bind (.app 3 1 8) [.v 12,.v 14] <|
  qCj 15 <|
  .bind (.lit 31 1) [.v 15] <|
  .bind (.app 31 1 24) [.v 0,.v 17] <|
  vQ .add 16 1 1 <|
  .jump 1 [.v 18,.v 19,.v 2,.v 3,.v 4,.v 5,.v 6,.v 7,.v 8,.v 9]) (
  .bind (.lit 94 2) [] <|
  .bind (.app 94 2 32) [.v 12,.v 7] <|
  .bind (.lit 66 2) [] <|
  .bind (.app 66 2 16) [.v 14,.v 8] <|
  .bind (.lit 120 2) [] <|
  .bind (.app 120 2 16) [.v 16,.v 9] <|
  .ret [.agg [.v 2,.v 3,.v 4,.v 0,.v 6,.v 13,.v 15,.v 17]])
def qR4:Nat->Tree
 | 0=>qR6
 | 1=>qR5
 | _=>.fail
def qVZ:Nat->Pat
 | 1=>⟨[⟨.pure,true⟩,⟨.pure,false⟩,⟨.pure,false⟩],[(2,.loc 0 0),(3,.loc 1 0),(5,.v 0)],[some (.whole (.v 1) 3),some (.whole (.v 2) 3)],[]⟩
 | 2=>⟨[⟨.pure,true⟩,⟨.pure,false⟩,⟨.pure,false⟩],[(2,.loc 0 0),(3,.loc 1 0),(6,.v 0)],[some (.whole (.v 1) 3),some (.whole (.v 2) 3)],[]⟩
 | 3=>⟨[⟨.pure,true⟩,⟨.pure,true⟩,⟨.pure,false⟩,⟨.pure,false⟩],[(2,.loc 0 0),(3,.loc 1 0),(6,.v 0),(7,.v 1)],[some (.whole (.v 2) 3),some (.whole (.v 3) 3)],[]⟩
 | _=>⟨[],[],[],[]⟩
def qRY:Tree :=
 wU 3 0 <|
 wU 3 1 <|
 zN 0 2 <|
 zN 0 3 <|
 .bind (.bin .neq 9 (.tmp 9) (.tmp 11)) [.v 4,.v 5] <|
 zF 6 (
  wG false) (
  zN 1 2 <|
  xE 7 <|
  zN 1 3 <|
  xE 9 <|
  xF .neq 16 19 8 10 <|
  zF 11 (
   wG false) (
   zN 2 2 <|
   xE 12 <|
   zN 2 3 <|
   xE 14 <|
   xF .neq 25 28 13 15 <|
   zF 16 (
    wG false) (
    .jump 1 [k' 0,.v 2,.v 3])))
def qRX:Tree :=
 zN 1 1 <|
 xE 3 <|
 xF .lss 31 34 0 4 <|
 zF 5 (
  zN 1 1 <|
  wP 6 0 <|
  jA 2 0 6 0 <|
  zN 1 2 <|
  wP 9 0 <|
  jA 2 0 9 0 <|
  .bind (.bin .neq 9 (.tmp 43) (.tmp 49)) [.v 8,.v 11] <|
  zF 12 (
   wG false) (
   zN 1 1 <|
   wP 13 0 <|
   jA 2 1 13 0 <|
   zN 1 2 <|
   wP 16 0 <|
   jA 2 1 16 0 <|
   yZ 73 [.v 15,.v 18] 1 <|
   .bind (.un .not 4) [.v 19] <|
   zF 20 (
    wG false) (
    vQ .add 36 1 0 <|
    .jump 1 [.v 21,.v 1,.v 2]))) (
  .jump 2 [k' 0,.v 1,.v 2])
def qRW:Tree :=
 zN 2 1 <|
 xE 3 <|
 xF .lss 67 70 0 4 <|
 zF 5 (
  zN 2 1 <|
  wP 6 0 <|
  jA 1 0 6 0 <|
  xE 8 <|
  zN 2 2 <|
  wP 10 0 <|
  jA 1 0 10 0 <|
  xE 12 <|
  xF .neq 79 85 9 13 <|
  zF 14 (
   wG false) (
   .jump 3 [.v 0,k' 0,.v 1,.v 2])) (
  wG true)
def qRV:Tree :=
 zN 2 2 <|
 wP 4 0 <|
 jA 1 0 4 0 <|
 xE 6 <|
 xF .lss 87 93 1 7 <|
 zF 8 (
  zN 2 2 <|
  wP 9 0 <|
  jA 1 0 9 0 <|
  wP 11 1 <|
  jA 1 0 11 1 <|
  zN 2 3 <|
  wP 14 0 <|
  jA 1 0 14 0 <|
  wP 16 1 <|
  jA 1 0 16 1 <|
  .bind (.bin .neq 9 (.tmp 104) (.tmp 112)) [.v 13,.v 18] <|
  zF 19 (
   wG false) (
   vQ .add 95 1 1 <|
   .jump 3 [.v 0,.v 20,.v 2,.v 3])) (
  vQ .add 72 1 0 <|
  .jump 2 [.v 9,.v 2,.v 3])
def qVY:Nat->Tree
 | 0=>qRY
 | 1=>qRX
 | 2=>qRW
 | 3=>qRV
 | _=>.fail
def qVX:Nat->Pat
 | 1=>⟨[⟨.pure,false⟩,⟨.pure,false⟩,⟨.pure,true⟩],[(0,.v 0),(1,.v 1),(5,.v 2)],[],[]⟩
 | _=>⟨[],[],[],[]⟩
def qRU:Tree :=
 xE 0 <|
 xE 1 <|
 xF .neq 9 11 2 3 <|
 zF 4 (
  wG false) (
  .jump 1 [.v 0,.v 1,k' 0])
def qRT:Tree :=
 xE 0 <|
 xF .lss 13 15 2 3 <|
 zF 4 (
  wP 0 2 <|
  .bind (.elem 6 true 6 0) [.v 0,.v 2] <|
  wP 1 2 <|
  .bind (.elem 6 true 6 0) [.v 1,.v 2] <|
  wU 6 6 <|
  wU 6 8 <|
  wP 0 2 <|
  wP 1 2 <|
  zN 4 9 <|
  zN 4 10 <|
  .bind (.bin .neq 4 (.tmp 28) (.tmp 30)) [.v 13,.v 14] <|
  zF 15 (
   wG false) (
   zN 5 9 <|
   zN 5 10 <|
   .bind (.bin .neq 4 (.tmp 34) (.tmp 36)) [.v 16,.v 17] <|
   zF 18 (
    wG false) (
    zN 0 9 <|
    zN 0 10 <|
    yZ 73 [.v 19,.v 20] 1 <|
    .bind (.un .not 4) [.v 21] <|
    zF 22 (
     wG false) (
     zN 1 9 <|
     zN 1 10 <|
     yZ 73 [.v 23,.v 24] 1 <|
     .bind (.un .not 4) [.v 25] <|
     zF 26 (
      wG false) (
      zN 2 9 <|
      zN 2 10 <|
      yZ 74 [.v 27,.v 28] 1 <|
      .bind (.un .not 4) [.v 29] <|
      zF 30 (
       wG false) (
       zN 3 9 <|
       zN 3 10 <|
       yZ 74 [.v 31,.v 32] 1 <|
       .bind (.un .not 4) [.v 33] <|
       zF 34 (
        wG false) (
        vQ .add 17 1 2 <|
        .jump 1 [.v 0,.v 1,.v 35]))))))) (
  wG true)
def qVW:Nat->Tree
 | 0=>qRU
 | 1=>qRT
 | _=>.fail
def qVV:Nat->Pat
 | 1=>⟨[⟨.pure,true⟩,⟨.pure,false⟩,⟨.pure,false⟩],[(2,.loc 0 0),(3,.loc 1 0),(5,.v 0)],[some (.whole (.v 1) 3),some (.whole (.v 2) 3)],[]⟩
 | _=>⟨[],[],[],[]⟩
def qRS:Tree :=
 wU 3 0 <|
 wU 3 1 <|
 zN 0 2 <|
 zN 0 3 <|
 xF .neq 7 9 4 5 <|
 zF 6 (
  wG false) (
  zN 1 2 <|
  xE 7 <|
  zN 1 3 <|
  xE 9 <|
  xF .neq 14 17 8 10 <|
  zF 11 (
   wG false) (
   zN 2 2 <|
   zN 2 3 <|
   yZ 73 [.v 12,.v 13] 1 <|
   .bind (.un .not 4) [.v 14] <|
   zF 15 (
    wG false) (
    .jump 1 [k' 0,.v 2,.v 3])))
def qRR:Tree :=
 zN 1 1 <|
 xE 3 <|
 xF .lss 28 31 0 4 <|
 zF 5 (
  zN 1 1 <|
  wP 6 0 <|
  .bind (.elem 3 true 3 0) [.v 6,.v 0] <|
  zN 1 2 <|
  wP 9 0 <|
  .bind (.elem 3 true 3 0) [.v 9,.v 0] <|
  .bind (.bin .neq 92 (.tmp 39) (.tmp 44)) [.v 8,.v 11] <|
  zF 12 (
   wG false) (
   vQ .add 33 1 0 <|
   .jump 1 [.v 13,.v 1,.v 2])) (
  wG true)
def qVU:Nat->Tree
 | 0=>qRS
 | 1=>qRR
 | _=>.fail
def qV1:Nat->Pat
 | 1=>⟨[⟨.pure,true⟩,⟨.pure,false⟩,⟨.pure,false⟩],[(2,.loc 0 0),(3,.loc 1 0),(5,.v 0)],[some (.whole (.v 1) 8),some (.whole (.v 2) 8)],[]⟩
 | 2=>⟨[⟨.pure,true⟩,⟨.pure,false⟩,⟨.pure,false⟩],[(2,.loc 0 0),(3,.loc 1 0),(6,.v 0)],[some (.whole (.v 1) 8),some (.whole (.v 2) 8)],[]⟩
 | 3=>⟨[⟨.pure,true⟩,⟨.pure,false⟩,⟨.pure,false⟩],[(2,.loc 0 0),(3,.loc 1 0),(7,.v 0)],[some (.whole (.v 1) 8),some (.whole (.v 2) 8)],[]⟩
 | 4=>⟨[⟨.pure,true⟩,⟨.pure,false⟩,⟨.pure,false⟩],[(2,.loc 0 0),(3,.loc 1 0),(8,.v 0)],[some (.whole (.v 1) 8),some (.whole (.v 2) 8)],[]⟩
 | _=>⟨[],[],[],[]⟩
def qR3:Tree :=
 wU 8 0 <|
 wU 8 1 <|
 zN 0 2 <|
 zN 0 3 <|
 xF .neq 10 12 4 5 <|
 zF 6 (
  wG false) (
  zN 2 2 <|
  zN 2 3 <|
  xF .neq 16 18 7 8 <|
  zF 9 (
   wG false) (
   zN 4 2 <|
   zN 4 3 <|
   xF .neq 23 25 10 11 <|
   zF 12 (
    wG false) (
    zN 1 2 <|
    zN 1 3 <|
    yZ 73 [.v 13,.v 14] 1 <|
    .bind (.un .not 4) [.v 15] <|
    zF 16 (
     wG false) (
     zN 3 2 <|
     xE 17 <|
     zN 3 3 <|
     xE 19 <|
     xF .neq 39 42 18 20 <|
     zF 21 (
      wG false) (
      zN 5 2 <|
      xE 22 <|
      zN 5 3 <|
      xE 24 <|
      xF .neq 48 51 23 25 <|
      zF 26 (
       wG false) (
       zN 6 2 <|
       xE 27 <|
       zN 6 3 <|
       xE 29 <|
       xF .neq 57 60 28 30 <|
       zF 31 (
        wG false) (
        zN 7 2 <|
        xE 32 <|
        zN 7 3 <|
        xE 34 <|
        xF .neq 66 69 33 35 <|
        zF 36 (
         wG false) (
         .jump 1 [k' 0,.v 2,.v 3]))))))))
def qR2:Tree :=
 zN 3 1 <|
 xE 3 <|
 xF .lss 72 75 0 4 <|
 zF 5 (
  zN 3 1 <|
  wP 6 0 <|
  jA 1 0 6 0 <|
  zN 3 2 <|
  wP 9 0 <|
  jA 1 0 9 0 <|
  yZ 73 [.v 8,.v 11] 1 <|
  .bind (.un .not 4) [.v 12] <|
  zF 13 (
   wG false) (
   vQ .add 77 1 0 <|
   .jump 1 [.v 14,.v 1,.v 2])) (
  .jump 2 [k' 0,.v 1,.v 2])
def qR1:Tree :=
 zN 5 1 <|
 xE 3 <|
 xF .lss 91 94 0 4 <|
 zF 5 (
  zN 5 1 <|
  wP 6 0 <|
  .bind (.elem 2 true 2 0) [.v 6,.v 0] <|
  zN 5 2 <|
  wP 9 0 <|
  .bind (.elem 2 true 2 0) [.v 9,.v 0] <|
  .bind (.bin .neq 94 (.tmp 102) (.tmp 107)) [.v 8,.v 11] <|
  zF 12 (
   wG false) (
   vQ .add 96 1 0 <|
   .jump 2 [.v 13,.v 1,.v 2])) (
  .jump 3 [k' 0,.v 1,.v 2])
def qR0:Tree :=
 zN 6 1 <|
 xE 3 <|
 xF .lss 109 112 0 4 <|
 zF 5 (
  zN 6 1 <|
  wP 6 0 <|
  .bind (.elem 2 true 2 0) [.v 6,.v 0] <|
  zN 6 2 <|
  wP 9 0 <|
  .bind (.elem 2 true 2 0) [.v 9,.v 0] <|
  .bind (.bin .neq 66 (.tmp 120) (.tmp 125)) [.v 8,.v 11] <|
  zF 12 (
   wG false) (
   vQ .add 114 1 0 <|
   .jump 3 [.v 13,.v 1,.v 2])) (
  .jump 4 [k' 0,.v 1,.v 2])
def qRZ:Tree :=
 zN 7 1 <|
 xE 3 <|
 xF .lss 127 130 0 4 <|
 zF 5 (
  zN 7 1 <|
  wP 6 0 <|
  .bind (.elem 2 true 2 0) [.v 6,.v 0] <|
  zN 7 2 <|
  wP 9 0 <|
  .bind (.elem 2 true 2 0) [.v 9,.v 0] <|
  .bind (.bin .neq 120 (.tmp 138) (.tmp 143)) [.v 8,.v 11] <|
  zF 12 (
   wG false) (
   vQ .add 132 1 0 <|
   .jump 4 [.v 13,.v 1,.v 2])) (
  wG true)
def qV0:Nat->Tree
 | 0=>qR3
 | 1=>qR2
 | 2=>qR1
 | 3=>qR0
 | 4=>qRZ
 | _=>.fail
def qWe:Nat->Pat
 | 1=>⟨[⟨.pure,true⟩,⟨.pure,false⟩,⟨.pure,false⟩],[(2,.loc 0 0),(3,.loc 1 0),(5,.v 0)],[some (.whole (.v 1) 9),some (.whole (.v 2) 9)],[]⟩
 | 2=>⟨[⟨.pure,true⟩,⟨.pure,false⟩,⟨.pure,false⟩],[(2,.loc 0 0),(3,.loc 1 0),(6,.v 0)],[some (.whole (.v 1) 9),some (.whole (.v 2) 9)],[]⟩
 | _=>⟨[],[],[],[]⟩
def qSi:Tree :=
 wU 9 0 <|
 wU 9 1 <|
 zN 0 2 <|
 xE 4 <|
 zN 0 3 <|
 xE 6 <|
 xF .neq 10 14 5 7 <|
 zF 8 (
  wG false) (
  zN 8 2 <|
  xE 9 <|
  zN 8 3 <|
  xE 11 <|
  xF .neq 19 22 10 12 <|
  zF 13 (
   wG false) (
   .jump 1 [k' 0,.v 2,.v 3]))
def qSh:Tree :=
 zN 0 1 <|
 xE 3 <|
 xF .lss 25 29 0 4 <|
 zF 5 (
  zN 0 1 <|
  wP 6 0 <|
  .bind (.elem 2 true 2 0) [.v 6,.v 0] <|
  zN 0 2 <|
  wP 9 0 <|
  .bind (.elem 2 true 2 0) [.v 9,.v 0] <|
  .bind (.bin .neq 81 (.tmp 38) (.tmp 44)) [.v 8,.v 11] <|
  zF 12 (
   wG false) (
   vQ .add 31 1 0 <|
   .jump 1 [.v 13,.v 1,.v 2])) (
  .jump 2 [k' 0,.v 1,.v 2])
def qSg:Tree :=
 zN 8 1 <|
 xE 3 <|
 xF .lss 46 49 0 4 <|
 zF 5 (
  zN 8 1 <|
  wP 6 0 <|
  .bind (.elem 8 true 8 0) [.v 6,.v 0] <|
  zN 8 2 <|
  wP 9 0 <|
  .bind (.elem 8 true 8 0) [.v 9,.v 0] <|
  yZ 35 [.v 8,.v 11] 1 <|
  .bind (.un .not 4) [.v 12] <|
  zF 13 (
   wG false) (
   vQ .add 51 1 0 <|
   .jump 2 [.v 14,.v 1,.v 2])) (
  .bind (.fld true 3 1) [.v 1] <|
  .bind (.fld true 3 1) [.v 2] <|
  yZ 36 [.v 6,.v 7] 1 <|
  zF 8 (
   zN 4 1 <|
   zN 4 2 <|
   yZ 37 [.v 9,.v 10] 1 <|
   zF 11 (
    .bind (.fld true 3 5) [.v 1] <|
    .bind (.fld true 3 5) [.v 2] <|
    yZ 38 [.v 12,.v 13] 1 <|
    .ret [.v 14]) (
    wG false)) (
   wG false))
def qWd:Nat->Tree
 | 0=>qSi
 | 1=>qSh
 | 2=>qSg
 | _=>.fail
def qVJ:Nat->Pat
 | 1=>⟨[⟨.pure,false⟩,⟨.pure,false⟩,⟨.pure,true⟩,⟨.pure,true⟩],[(0,.v 0),(1,.v 1),(12,.v 2),(13,.v 3)],[],[]⟩
 | _=>⟨[],[],[],[]⟩
def qRD:Tree :=
 xE 0 <|
 xE 1 <|
 xF .neq 7 9 2 3 <|
 zF 4 (
  wG false) (
  xE 0 <|
  .jump 1 [.v 0,.v 1,.v 5,k' 0])
def qRC:Tree :=
 xF .lss 13 12 3 2 <|
 zF 4 (
  wP 0 3 <|
  jA 1 0 0 3 <|
  wP 1 3 <|
  jA 1 0 1 3 <|
  xF .neq 19 23 6 8 <|
  zF 9 (
   wG false) (
   vQ .add 13 1 3 <|
   .jump 1 [.v 0,.v 1,.v 2,.v 10])) (
  wG true)
def qVI:Nat->Tree
 | 0=>qRD
 | 1=>qRC
 | _=>.fail
def qVH:Nat->Pat
 | 1=>⟨[⟨.pure,false⟩,⟨.pure,false⟩,⟨.pure,true⟩],[(0,.v 0),(1,.v 1),(5,.v 2)],[],[]⟩
 | _=>⟨[],[],[],[]⟩
def qRB:Tree :=
 xE 0 <|
 xE 1 <|
 xF .neq 7 9 2 3 <|
 zF 4 (
  wG false) (
  .jump 1 [.v 0,.v 1,k' 0])
def qRA:Tree :=
 xE 0 <|
 xF .lss 11 13 2 3 <|
 zF 4 (
  wP 0 2 <|
  .bind (.elem 2 true 2 0) [.v 0,.v 2] <|
  wP 1 2 <|
  .bind (.elem 2 true 2 0) [.v 1,.v 2] <|
  .bind (.bin .neq 58 (.tmp 20) (.tmp 24)) [.v 6,.v 8] <|
  zF 9 (
   wG false) (
   vQ .add 15 1 2 <|
   .jump 1 [.v 0,.v 1,.v 10])) (
  wG true)
def qVG:Nat->Tree
 | 0=>qRB
 | 1=>qRA
 | _=>.fail
def qZb:Nat->Pat
 | 1=>⟨[⟨.pure,true⟩,⟨.pure,false⟩,⟨.pure,false⟩,⟨.pure,false⟩],[(3,.loc 0 0),(4,.loc 1 0),(5,.loc 2 0),(7,.v 0)],[some (.whole (.v 1) 9),some (.whole (.v 2) 3),some (.whole (.v 3) 3)],[]⟩
 | _=>⟨[],[],[],[]⟩
def qVQ:Tree :=
 wU 9 0 <|
 wU 3 1 <|
 wU 3 2 <|
 zN 1 4 <|
 xE 6 <|
 vQ .gtr 18 40 7 <|
 zF 8 (
  yZ 7 [] 1 <|
  .ret [.v 9]) (
  zN 2 4 <|
  xE 9 <|
  vQ .gtr 23 40 10 <|
  zF 11 (
   yZ 7 [] 1 <|
   .ret [.v 12]) (
   zN 1 5 <|
   xE 12 <|
   vQ .gtr 29 20 13 <|
   zF 14 (
    yZ 7 [] 1 <|
    .ret [.v 15]) (
    zN 2 5 <|
    xE 15 <|
    vQ .gtr 35 20 16 <|
    zF 17 (
     yZ 7 [] 1 <|
     .ret [.v 18]) (
     yZ 6 [.v 3] 1 <|
     .bind (.un .not 4) [.v 18] <|
     zF 19 (
      yZ 7 [] 1 <|
      .ret [.v 20]) (
      .jump 1 [k' 0,.v 3,.v 4,.v 5])))))
def qVP:Tree :=
 zN 2 3 <|
 xE 4 <|
 xF .lss 44 47 0 5 <|
 zF 6 (
  zN 2 3 <|
  wP 7 0 <|
  jA 1 0 7 0 <|
  xE 9 <|
  vQ .gtr 56 20 10 <|
  zF 11 (
   yZ 7 [] 1 <|
   .ret [.v 12]) (
   vQ .add 49 1 0 <|
   .jump 1 [.v 12,.v 1,.v 2,.v 3])) (
  yZ 9 [.v 1] 0 <|
  yZ 14 [.v 7,.v 2] 0 <|
  qJl 0 8 <|
  qJl 1 8 <|
  wU 9 9 <|
  yZ 15 [.v 1,.v 2] 0 <|
  qJl 0 12 <|
  qJl 1 12 <|
  wU 9 13 <|
  yZ 9 [.v 1] 0 <|
  yZ 16 [.v 16,.v 3] 0 <|
  qJl 0 17 <|
  qJl 1 17 <|
  wU 9 18 <|
  yZ 17 [.v 1,.v 3] 0 <|
  qJl 0 21 <|
  qJl 1 21 <|
  wU 9 22 <|
  yZ 13 [.v 11,.v 15] 1 <|
  zF 25 (
   .bind (.bin .eql 43 (.tmp 89) (.tmp 90)) [.v 10,.v 14] <|
   zF 26 (
    yZ 13 [.v 20,.v 24] 1 <|
    zF 27 (
     .bind (.bin .eql 43 (.tmp 99) (.tmp 100)) [.v 19,.v 23] <|
     zF 28 (
      yZ 7 [] 1 <|
      .ret [.v 29]) (
      wG false)) (
     wG false)) (
    wG false)) (
   wG false))
def qS4:Nat->Tree
 | 0=>qVQ
 | 1=>qVP
 | _=>.fail
def qD3:Nat->Pat
 | _=>⟨[⟨.pure,false⟩,⟨.pure,false⟩],[(0,.v 0),(1,.fn (.func 39) [] [.v 1])],[],[]⟩
def qD2:Tree :=
 wU 9 0 <|
 .callM 39 aK [.v 1,.v 2] <|
 .bind (.bin .neq 43 (.tmp 9) (K' 0)) [.v 3,k' 0] <|
 zF 5 (
  .ret [.agg [.c (.slice none 0 0),.c (.string ⟨#[]⟩),.c (.slice none 0 0),.c (.slice none 0 0),.c (.slice none 0 0),k' 0,.c (.slice none 0 0),.c (.slice none 0 0),.c (.slice none 0 0)],.v 3]) (
  wU 9 4 <|
  .ret [.v 6,k' 0])
def qOC:Nat->Tree
 | 0=>qD2
 | _=>.fail
def qD1:Nat->Pat
 | _=>⟨[⟨.pure,false⟩,⟨.pure,false⟩],[(0,.v 0),(1,.fn (.func 42) [] [.v 1])],[],[]⟩
def qD0:Tree :=
 wU 9 0 <|
 .callM 42 aJ [.v 1,.v 2] <|
 .bind (.bin .neq 43 (.tmp 9) (K' 0)) [.v 3,k' 0] <|
 zF 5 (
  .ret [.agg [.c (.slice none 0 0),.c (.string ⟨#[]⟩),.c (.slice none 0 0),.c (.slice none 0 0),.c (.slice none 0 0),k' 0,.c (.slice none 0 0),.c (.slice none 0 0),.c (.slice none 0 0)],.v 3]) (
  wU 9 4 <|
  .ret [.v 6,k' 0])
def qOB:Nat->Tree
 | 0=>qD0
 | _=>.fail
def qDZ:Nat->Pat
 | _=>⟨[⟨.pure,false⟩,⟨.pure,false⟩],[(0,.loc 0 0),(1,.v 0)],[some (.whole (.v 1) 9)],[]⟩
def qDY:Tree :=
 .bind .pchk [.v 0] <|
 .bind (.loadp true 3) [.pp 2 0] <|
 wU 9 1 <|
 zN 0 4 <|
 zN 1 4 <|
 zN 2 4 <|
 zN 3 4 <|
 zN 4 4 <|
 zN 5 4 <|
 zN 6 4 <|
 zN 7 4 <|
 zN 8 4 <|
 wU 3 3 <|
 zN 0 14 <|
 zN 1 14 <|
 zN 2 14 <|
 .bind .pchk [.v 0] <|
 .bind (.loadp true 3) [.pp 18 0] <|
 yZ 40 [.v 19] 1 <|
 .ret [.v 20,.agg [.v 5,.v 6,.v 7,.v 8,.v 9,.v 15,.v 16,.v 17,.v 13]]
def qOA:Nat->Tree
 | 0=>qDY
 | _=>.fail
def qDX:Nat->Pat
 | _=>⟨[⟨.pure,false⟩,⟨.pure,false⟩],[(0,.loc 0 0),(1,.v 0)],[some (.whole (.v 1) 9)],[]⟩
def qDW:Tree :=
 .bind .pchk [.v 0] <|
 .bind (.loadp true 3) [.pp 2 0] <|
 wU 9 1 <|
 zN 0 4 <|
 zN 1 4 <|
 zN 2 4 <|
 zN 3 4 <|
 zN 4 4 <|
 zN 5 4 <|
 zN 6 4 <|
 zN 7 4 <|
 zN 8 4 <|
 wU 3 3 <|
 zN 0 14 <|
 zN 1 14 <|
 zN 2 14 <|
 .bind .pchk [.v 0] <|
 .bind (.loadp true 3) [.pp 18 0] <|
 .call (.fn 43) [.agg [.v 5],.v 19] 1 <|
 .ret [.v 20,.agg [.v 5,.v 15,.v 16,.v 17,.v 9,.v 10,.v 11,.v 12,.v 13]]
def qOz:Nat->Tree
 | 0=>qDW
 | _=>.fail
theorem vC:(rA Tryz.f78 1 qVz,
 hd Tryz.f78 1 qVz,
 nr Tryz.f78,
 rA Tryz.f79 1 qVy,
 hd Tryz.f79 1 qVy,
 nr Tryz.f79,
 rA Tryz.f127 1 qSm,
 hd Tryz.f127 1 qSm,
 nr Tryz.f127,
 rA Tryz.f157 2 qSe,
 hd Tryz.f157 2 qSe,
 nr Tryz.f157,
 rA Tryz.f181 2 qR9,
 hd Tryz.f181 2 qR9,
 nr Tryz.f181,
 rA Tryz.f158 1 qSd,
 hd Tryz.f158 1 qSd,
 nr Tryz.f158,
 rA Tryz.f80 2 qVw,
 hd Tryz.f80 2 qVw,
 nr Tryz.f80,
 rA Tryz.f66 2 qVO,
 hd Tryz.f66 2 qVO,
 nr Tryz.f66,
 rA Tryz.f120 2 qSp,
 hd Tryz.f120 2 qSp,
 nr Tryz.f120,
 rA Tryz.f129 2 qSl,
 hd Tryz.f129 2 qSl,
 nr Tryz.f129,
 rA Tryz.f130 2 qSk,
 hd Tryz.f130 2 qSk,
 nr Tryz.f130,
 rA Tryz.f81 1 qVu,
 hd Tryz.f81 1 qVu,
 nr Tryz.f81,
 rA Tryz.f43 2 qVR,
 hd Tryz.f43 2 qVR,
 nr Tryz.f43,
 rA Tryz.f40 1 qVT,
 hd Tryz.f40 1 qVT,
 nr Tryz.f40,
 rA Tryz.f75 2 qVF,
 hd Tryz.f75 2 qVF,
 nr Tryz.f75,
 rA Tryz.f76 2 qVD,
 hd Tryz.f76 2 qVD,
 nr Tryz.f76,
 rA Tryz.f126 2 qSn,
 hd Tryz.f126 2 qSn,
 nr Tryz.f126,
 rA Tryz.f14 2 qWc,
 hd Tryz.f14 2 qWc,
 nr Tryz.f14,
 rA Tryz.f16 2 qV7,
 hd Tryz.f16 2 qV7,
 nr Tryz.f16,
 qCK EE (fun k S=>xK (uR k) (iQ k) k S) (qIV EE qC5 none) (fT EE (fun k S=>xK (uR k) (iQ k) k S) qC5 216 (Nat.max Tryz.f159.ntmps 1) 2 1000) 1 (jG Tryz.f159) (gK 1 (Nat.max Tryz.f159.ntmps 1)) (uB EE Tryz.f159.results.toList),
 xI EE (fun k=>(iQ k).st (uR k)) (fun k S=>xK (uR k) (iQ k) k S) (qIV EE qC5 none) (fT EE (fun k S=>xK (uR k) (iQ k) k S) qC5 216 (Nat.max Tryz.f159.ntmps 1) 2 1000) (qHj EE (fun k=>(iQ k).st (uR k)) (fun k S=>xK (uR k) (iQ k) k S) qC5 (jG Tryz.f216) (Nat.max Tryz.f159.ntmps 1) 2 1000) 1 (jG Tryz.f159) (uB EE Tryz.f159.results.toList),
 nr Tryz.f159,
 rA Tryz.f15 2 qV9,
 hd Tryz.f15 2 qV9,
 nr Tryz.f15,
 rA Tryz.f17 2 qV5,
 hd Tryz.f17 2 qV5,
 nr Tryz.f17,
 rA Tryz.f41 1 qVS,
 hd Tryz.f41 1 qVS,
 nr Tryz.f41,
 rA Tryz.f77 2 qVB,
 hd Tryz.f77 2 qVB,
 nr Tryz.f77,
 rA Tryz.f44 2 qLC,
 hd Tryz.f44 2 qLC,
 nr Tryz.f44,
 rA Tryz.f82 1 qVt,
 hd Tryz.f82 1 qVt,
 nr Tryz.f82,
 rA Tryz.f83 3 qVs,
 hd Tryz.f83 3 qVs,
 nr Tryz.f83,
 rA Tryz.f84 1 qVr,
 hd Tryz.f84 1 qVr,
 nr Tryz.f84,
 rA Tryz.f85 2 qVq,
 hd Tryz.f85 2 qVq,
 nr Tryz.f85,
 rA Tryz.f86 1 qVp,
 hd Tryz.f86 1 qVp,
 nr Tryz.f86,
 rA Tryz.f131 1 qSj,
 hd Tryz.f131 1 qSj,
 nr Tryz.f131,
 rA Tryz.f161 2 qE6,
 hd Tryz.f161 2 qE6,
 nr Tryz.f161,
 rA Tryz.f185 1 qR8,
 hd Tryz.f185 1 qR8,
 nr Tryz.f185,
 rA Tryz.f186 1 qR7,
 hd Tryz.f186 1 qR7,
 nr Tryz.f186,
 rA Tryz.f9 1 qZa,
 hd Tryz.f9 1 qZa,
 nr Tryz.f9,
 rA Tryz.f31 1 qV2,
 hd Tryz.f31 1 qV2,
 nr Tryz.f31,
 rA Tryz.f36 2 qVZ,
 hd Tryz.f36 2 qVZ,
 nr Tryz.f36,
 rA Tryz.f37 2 qVX,
 hd Tryz.f37 2 qVX,
 nr Tryz.f37,
 rA Tryz.f38 2 qVV,
 hd Tryz.f38 2 qVV,
 nr Tryz.f38,
 rA Tryz.f35 2 qV1,
 hd Tryz.f35 2 qV1,
 nr Tryz.f35,
 rA Tryz.f13 2 qWe,
 hd Tryz.f13 2 qWe,
 nr Tryz.f13,
 rA Tryz.f73 2 qVJ,
 hd Tryz.f73 2 qVJ,
 nr Tryz.f73,
 rA Tryz.f74 2 qVH,
 hd Tryz.f74 2 qVH,
 nr Tryz.f74,
 rA Tryz.f4 3 qZb,
 hd Tryz.f4 3 qZb,
 nr Tryz.f4,
 qDd EE (fun k S=>xK (Nat.max Tryz.f26.ntmps aM.n) (qD3 k) k S) Tryz.f26 aM,
 jU EE (fun k=>(qD3 k).st (Nat.max Tryz.f26.ntmps aM.n)) (fun k S=>xK (Nat.max Tryz.f26.ntmps aM.n) (qD3 k) k S) 1 (jG Tryz.f26) (qEG EE aM Tryz.f26.results.toList),
 nr Tryz.f26,
 qDd EE (fun k S=>xK (Nat.max Tryz.f26.ntmps aL.n) (qD1 k) k S) Tryz.f26 aL,
 jU EE (fun k=>(qD1 k).st (Nat.max Tryz.f26.ntmps aL.n)) (fun k S=>xK (Nat.max Tryz.f26.ntmps aL.n) (qD1 k) k S) 1 (jG Tryz.f26) (qEG EE aL Tryz.f26.results.toList),
 nr Tryz.f26,
 qDd EE (fun k S=>xK (Nat.max Tryz.f39.ntmps aK.n) (qDZ k) k S) Tryz.f39 aK,
 jU EE (fun k=>(qDZ k).st (Nat.max Tryz.f39.ntmps aK.n)) (fun k S=>xK (Nat.max Tryz.f39.ntmps aK.n) (qDZ k) k S) 1 (jG Tryz.f39) (qEG EE aK Tryz.f39.results.toList),
 nr Tryz.f39,
 qDd EE (fun k S=>xK (Nat.max Tryz.f42.ntmps aJ.n) (qDX k) k S) Tryz.f42 aJ,
 jU EE (fun k=>(qDX k).st (Nat.max Tryz.f42.ntmps aJ.n)) (fun k S=>xK (Nat.max Tryz.f42.ntmps aJ.n) (qDX k) k S) 1 (jG Tryz.f42) (qEG EE aJ Tryz.f42.results.toList),
 nr Tryz.f42,
 nr Tryz.f216,
 nr Tryz.f183) =
 (qRw,[(1,qRv)],false,qRt,[],false,qLS,[],false,qLM,[],false,qLI,[(1,qLH)],false,qLL,[],false,qRs,[],false,qRE,[],false,qL0,[(1,qLZ)],false,qLR,[],false,qLQ,[],false,qRr,[(1,qRq),(2,qRp)],false,qRH,[(1,qRG),(2,qRF)],false,qRQ,[(1,qRP),(2,qRO),(3,qRN)],false,qRz,[],false,qRy,[],false,qLV,[(1,qLU)],false,qSf,[],false,qSb,[],false,qLK,[(1000,qC4)],false,qSc,[],false,qSa,[],false,qRM,[(1,qRL),(2,qRK),(3,qRJ),(4,qRI)],false,qRx,[],false,qE4,[(1,qE3),(2,qE2),(3,qE1)],false,qRo,[(1,qRn)],false,qRl,[(1,qRk),(2,qRj)],false,qRi,[(1,qRh)],false,qRf,[(1,qRe)],false,qRc,[(1,qRb)],false,qLP,[(1,qLO)],false,qA3,[(1,qA2)],false,qLF,[],false,qLE,[],false,qVn,[(1,qVm),(2,qVl),(3,qVk),(4,qVj)],false,qR6,[(1,qR5)],false,qRY,[(1,qRX),(2,qRW),(3,qRV)],false,qRU,[(1,qRT)],false,qRS,[(1,qRR)],false,qR3,[(1,qR2),(2,qR1),(3,qR0),(4,qRZ)],false,qSi,[(1,qSh),(2,qSg)],false,qRD,[(1,qRC)],false,qRB,[(1,qRA)],false,qVQ,[(1,qVP)],false,qD2,[],false,qD0,[],false,qDY,[],false,qDW,[],false,false,false):=by kernel_rfl
theorem qZF {ds:List D} {d:D} (hn:ds.length=1) (h:qK EE (qB EE) qRu 0 ds d):qB EE 78 ds d :=
 hv Tryz.func78 rfl vC (j4 rfl <| xC) hn h
theorem qZE {ds:List D} {d:D} (hn:ds.length=1) (h:qK EE (qB EE) qVx 0 ds d):qB EE 79 ds d :=
 hv Tryz.func79 rfl (xN (xN (xN vC))) (xC) hn h
theorem qX8 {ds:List D} {d:D} (hn:ds.length=1) (h:qK EE (qB EE) qTc 0 ds d):qB EE 127 ds d :=
 hv Tryz.func127 rfl (xN (xN (xM vC))) (xC) hn h
theorem qX3 {ds:List D} {d:D} (hn:ds.length=2) (h:qK EE (qB EE) qS9 0 ds d):qB EE 157 ds d :=
 hv Tryz.func157 rfl (xN (xM (xM vC))) (xC) hn h
theorem qX1 {ds:List D} {d:D} (hn:ds.length=2) (h:qK EE (qB EE) qLG 0 ds d):qB EE 181 ds d :=
 hv Tryz.func181 rfl (xM (xM (xM vC))) (j4 rfl <| xC) hn h
theorem qX2 {ds:List D} {d:D} (hn:ds.length=1) (h:qK EE (qB EE) qS8 0 ds d):qB EE 158 ds d :=
 hv Tryz.func158 rfl (xN (xN (xN (xM (xM (xM vC)))))) (xC) hn h
theorem qZD {ds:List D} {d:D} (hn:ds.length=2) (h:qK EE (qB EE) qVv 0 ds d):qB EE 80 ds d :=
 hv Tryz.func80 rfl (xN (xN (qG vC))) (xC) hn h
theorem qZL {ds:List D} {d:D} (hn:ds.length=2) (h:qK EE (qB EE) qVN 0 ds d):qB EE 66 ds d :=
 hv Tryz.func66 rfl (xN (xM (qG vC))) (xC) hn h
theorem qYb {ds:List D} {d:D} (hn:ds.length=2) (h:qK EE (qB EE) qLY 0 ds d):qB EE 120 ds d :=
 hv Tryz.func120 rfl (xM (xM (qG vC))) (j4 rfl <| xC) hn h
theorem qX6 {ds:List D} {d:D} (hn:ds.length=2) (h:qK EE (qB EE) qTb 0 ds d):qB EE 129 ds d :=
 hv Tryz.func129 rfl (xN (xN (xN (xM (xM (qG vC)))))) (xC) hn h
theorem qX5 {ds:List D} {d:D} (hn:ds.length=2) (h:qK EE (qB EE) qTa 0 ds d):qB EE 130 ds d :=
 hv Tryz.func130 rfl (xN (xN (xM (xM (xM (qG vC)))))) (xC) hn h
theorem qZC {ds:List D} {d:D} (hn:ds.length=1) (h:qK EE (qB EE) qLB 0 ds d):qB EE 81 ds d :=
 hv Tryz.func81 rfl (xN (qG (qG vC))) (j4 rfl <| j4 rfl <| xC) hn h
theorem qZM {ds:List D} {d:D} (hn:ds.length=2) (h:qK EE (qB EE) qLD 0 ds d):qB EE 43 ds d :=
 hv Tryz.func43 rfl (xM (qG (qG vC))) (j4 rfl <| j4 rfl <| xC) hn h
theorem qZO {ds:List D} {d:D} (hn:ds.length=1) (h:qK EE (qB EE) qIv 0 ds d):qB EE 40 ds d :=
 hv Tryz.func40 rfl (xN (xN (xN (xM (qG (qG vC)))))) (j4 rfl <| j4 rfl <| j4 rfl <| xC) hn h
theorem qZI {ds:List D} {d:D} (hn:ds.length=2) (h:qK EE (qB EE) qVE 0 ds d):qB EE 75 ds d :=
 hv Tryz.func75 rfl (xN (xN (xM (xM (qG (qG vC)))))) (xC) hn h
theorem qZH {ds:List D} {d:D} (hn:ds.length=2) (h:qK EE (qB EE) qVC 0 ds d):qB EE 76 ds d :=
 hv Tryz.func76 rfl (xN (xM (xM (xM (qG (qG vC)))))) (xC) hn h
theorem qX9 {ds:List D} {d:D} (hn:ds.length=2) (h:qK EE (qB EE) qLT 0 ds d):qB EE 126 ds d :=
 hv Tryz.func126 rfl (qG (qG (qG vC))) (j4 rfl <| xC) hn h
theorem qZX {ds:List D} {d:D} (hn:ds.length=2) (h:qK EE (qB EE) qWb 0 ds d):qB EE 14 ds d :=
 hv Tryz.func14 rfl (xN (xN (xN (qG (qG (qG vC)))))) (xC) hn h
theorem qZV {ds:List D} {d:D} (hn:ds.length=2) (h:qK EE (qB EE) qV6 0 ds d):qB EE 16 ds d :=
 hv Tryz.func16 rfl (xN (xN (xM (qG (qG (qG vC)))))) (xC) hn h
theorem qWa {ds:List D} {d:D} (hn:ds.length=1) (h:qK EE (qB EE) qLJ 0 ds d):qB EE 159 ds d :=
 qKG (I:=qC5) (pats:=iQ) (szs:=uR) (L:=2) (G:=216) (fnG:=Tryz.f216) (cdG:=jG Tryz.f216) he (.cons (yW (c:=jG Tryz.f216) Tryz.func216 rfl ((pI (qG (qG (qG (qG (qG (qG (qG (qG (qG vC)))))))))).1)) rfl <| .cons (yW (c:=jG Tryz.f183) Tryz.func183 rfl ((xN (qG (qG (qG (qG (qG (qG (qG (qG (qG vC)))))))))))) rfl <| .nil) (yW (c:=jG Tryz.f159) Tryz.func159 rfl ((pI (xN (xN (xN (xM (xM (qG (qG (qG vC))))))))).1)) (c:=jG Tryz.f159) rfl hn rfl ((pI (xN (xM (xM (qG (qG (qG vC))))))).1) (by rw [(pI (xN (xN (xM (xM (qG (qG (qG vC)))))))).1]; exact j4 rfl <| xC) (fun k hk=>by unfold iQ; split <;> first | decide | omega) h
theorem qZW {ds:List D} {d:D} (hn:ds.length=2) (h:qK EE (qB EE) qV8 0 ds d):qB EE 15 ds d :=
 hv Tryz.func15 rfl (xM (xM (xM (qG (qG (qG vC)))))) (xC) hn h
theorem qZU {ds:List D} {d:D} (hn:ds.length=2) (h:qK EE (qB EE) qV4 0 ds d):qB EE 17 ds d :=
 hv Tryz.func17 rfl (xN (xN (xN (xM (xM (xM (qG (qG (qG vC))))))))) (xC) hn h
theorem qZN {ds:List D} {d:D} (hn:ds.length=1) (h:qK EE (qB EE) qE5 0 ds d):qB EE 41 ds d :=
 hv Tryz.func41 rfl (xN (xN (qG (qG (qG (qG vC)))))) (j4 rfl <| j4 rfl <| j4 rfl <| j4 rfl <| xC) hn h
theorem qZG {ds:List D} {d:D} (hn:ds.length=2) (h:qK EE (qB EE) qVA 0 ds d):qB EE 77 ds d :=
 hv Tryz.func77 rfl (xN (xM (qG (qG (qG (qG vC)))))) (xC) hn h
theorem qXY {ds:List D} {d:D} (hn:ds.length=2) (h:qK EE (qB EE) cN 0 ds d):qB EE 44 ds d :=
 hv Tryz.func44 rfl (xM (xM (qG (qG (qG (qG vC)))))) (j4 rfl <| j4 rfl <| j4 rfl <| xC) hn h
theorem qZB {ds:List D} {d:D} (hn:ds.length=1) (h:qK EE (qB EE) qRm 0 ds d):qB EE 82 ds d :=
 hv Tryz.func82 rfl (xN (xN (xN (xM (xM (qG (qG (qG (qG vC))))))))) (j4 rfl <| xC) hn h
theorem qZA {ds:List D} {d:D} (hn:ds.length=3) (h:qK EE (qB EE) qLA 0 ds d):qB EE 83 ds d :=
 hv Tryz.func83 rfl (xN (xN (xM (xM (xM (qG (qG (qG (qG vC))))))))) (j4 rfl <| j4 rfl <| xC) hn h
theorem qZz {ds:List D} {d:D} (hn:ds.length=1) (h:qK EE (qB EE) qRg 0 ds d):qB EE 84 ds d :=
 hv Tryz.func84 rfl (xN (qG (qG (qG (qG (qG vC)))))) (j4 rfl <| xC) hn h
theorem qZy {ds:List D} {d:D} (hn:ds.length=2) (h:qK EE (qB EE) qRd 0 ds d):qB EE 85 ds d :=
 hv Tryz.func85 rfl (xM (qG (qG (qG (qG (qG vC)))))) (j4 rfl <| xC) hn h
theorem qZx {ds:List D} {d:D} (hn:ds.length=1) (h:qK EE (qB EE) qRa 0 ds d):qB EE 86 ds d :=
 hv Tryz.func86 rfl (xN (xN (xN (xM (qG (qG (qG (qG (qG vC))))))))) (j4 rfl <| xC) hn h
theorem qX4 {ds:List D} {d:D} (hn:ds.length=1) (h:qK EE (qB EE) qLN 0 ds d):qB EE 131 ds d :=
 hv Tryz.func131 rfl (xN (xN (xM (xM (qG (qG (qG (qG (qG vC))))))))) (j4 rfl <| xC) hn h
theorem qS7 {ds:List D} {d:D} (hn:ds.length=2) (h:qK EE (qB EE) rP 0 ds d):qB EE 161 ds d :=
 hv Tryz.func161 rfl (xN (xM (xM (xM (qG (qG (qG (qG (qG vC))))))))) (j4 rfl <| xC) hn h
theorem qX0 {ds:List D} {d:D} (hn:ds.length=1) (h:qK EE (qB EE) qS6 0 ds d):qB EE 185 ds d :=
 hv Tryz.func185 rfl (qG (qG (qG (qG (qG (qG vC)))))) (xC) hn h
theorem qXZ {ds:List D} {d:D} (hn:ds.length=1) (h:qK EE (qB EE) qS5 0 ds d):qB EE 186 ds d :=
 hv Tryz.func186 rfl (xN (xN (xN (qG (qG (qG (qG (qG (qG vC))))))))) (xC) hn h
theorem u9 {ds:List D} {d:D} (hn:ds.length=1) (h:qK EE (qB EE) qE0 0 ds d):qB EE 9 ds d :=
 hv Tryz.func9 rfl (xN (xN (xM (qG (qG (qG (qG (qG (qG vC))))))))) (j4 rfl <| j4 rfl <| j4 rfl <| j4 rfl <| xC) hn h
theorem qZT {ds:List D} {d:D} (hn:ds.length=1) (h:qK EE (qB EE) qR4 0 ds d):qB EE 31 ds d :=
 hv Tryz.func31 rfl (xN (xM (xM (qG (qG (qG (qG (qG (qG vC))))))))) (j4 rfl <| xC) hn h
theorem qZR {ds:List D} {d:D} (hn:ds.length=2) (h:qK EE (qB EE) qVY 0 ds d):qB EE 36 ds d :=
 hv Tryz.func36 rfl (xM (xM (xM (qG (qG (qG (qG (qG (qG vC))))))))) (j4 rfl <| j4 rfl <| j4 rfl <| xC) hn h
theorem qZQ {ds:List D} {d:D} (hn:ds.length=2) (h:qK EE (qB EE) qVW 0 ds d):qB EE 37 ds d :=
 hv Tryz.func37 rfl (xN (xN (xN (xM (xM (xM (qG (qG (qG (qG (qG (qG vC)))))))))))) (j4 rfl <| xC) hn h
theorem qZP {ds:List D} {d:D} (hn:ds.length=2) (h:qK EE (qB EE) qVU 0 ds d):qB EE 38 ds d :=
 hv Tryz.func38 rfl (xN (xN (qG (qG (qG (qG (qG (qG (qG vC))))))))) (j4 rfl <| xC) hn h
theorem qZS {ds:List D} {d:D} (hn:ds.length=2) (h:qK EE (qB EE) qV0 0 ds d):qB EE 35 ds d :=
 hv Tryz.func35 rfl (xN (xM (qG (qG (qG (qG (qG (qG (qG vC))))))))) (j4 rfl <| j4 rfl <| j4 rfl <| j4 rfl <| xC) hn h
theorem qZY {ds:List D} {d:D} (hn:ds.length=2) (h:qK EE (qB EE) qWd 0 ds d):qB EE 13 ds d :=
 hv Tryz.func13 rfl (xM (xM (qG (qG (qG (qG (qG (qG (qG vC))))))))) (j4 rfl <| j4 rfl <| xC) hn h
theorem qZK {ds:List D} {d:D} (hn:ds.length=2) (h:qK EE (qB EE) qVI 0 ds d):qB EE 73 ds d :=
 hv Tryz.func73 rfl (xN (xN (xN (xM (xM (qG (qG (qG (qG (qG (qG (qG vC)))))))))))) (j4 rfl <| xC) hn h
theorem qZJ {ds:List D} {d:D} (hn:ds.length=2) (h:qK EE (qB EE) qVG 0 ds d):qB EE 74 ds d :=
 hv Tryz.func74 rfl (xN (xN (xM (xM (xM (qG (qG (qG (qG (qG (qG (qG vC)))))))))))) (j4 rfl <| xC) hn h
theorem u4 {ds:List D} {d:D} (hn:ds.length=3) (h:qK EE (qB EE) qS4 0 ds d):qB EE 4 ds d :=
 hv Tryz.func4 rfl (xN (qG (qG (qG (qG (qG (qG (qG (qG vC))))))))) (j4 rfl <| xC) hn h
theorem qVf {ds:List D} {d:D} (h:qK EE (qB EE) qOC 0 ds d) (hd:∃ ds',d=kK ds'/\ds'.length=2):qB EE (Nat.add nK 26) (.mode aM::ds) d :=
 eG he (yW (c:=jG Tryz.f26) Tryz.func26 rfl ((pI (xN (xN (xM (qG (qG (qG (qG (qG (qG (qG (qG vC)))))))))))).1)) (c:=jG Tryz.f26) rfl (m:=aM) (by decide +kernel) (fun k=>by unfold qD3; split <;> decide) ((pI (xM (qG (qG (qG (qG (qG (qG (qG (qG vC)))))))))).1) (by rw [(pI (xN (xM (qG (qG (qG (qG (qG (qG (qG (qG vC))))))))))).1]; exact xC) h hd
theorem qVe {ds:List D} {d:D} (h:qK EE (qB EE) qOB 0 ds d) (hd:∃ ds',d=kK ds'/\ds'.length=2):qB EE (Nat.add nK 26) (.mode aL::ds) d :=
 eG he (yW (c:=jG Tryz.f26) Tryz.func26 rfl ((pI (xN (xM (xM (qG (qG (qG (qG (qG (qG (qG (qG vC)))))))))))).1)) (c:=jG Tryz.f26) rfl (m:=aL) (by decide +kernel) (fun k=>by unfold qD1; split <;> decide) ((pI (xN (xN (xN (xM (qG (qG (qG (qG (qG (qG (qG (qG vC))))))))))))).1) (by rw [(pI (xM (xM (qG (qG (qG (qG (qG (qG (qG (qG vC))))))))))).1]; exact xC) h hd
theorem qVd {ds:List D} {d:D} (h:qK EE (qB EE) qOA 0 ds d) (hd:∃ ds',d=kK ds'/\ds'.length=2):qB EE (Nat.add nK 39) (.mode aK::ds) d :=
 eG he (yW (c:=jG Tryz.f39) Tryz.func39 rfl ((pI (xM (xM (xM (qG (qG (qG (qG (qG (qG (qG (qG vC)))))))))))).1)) (c:=jG Tryz.f39) rfl (m:=aK) (by decide +kernel) (fun k=>by unfold qDZ; split <;> decide) ((pI (xN (xN (xM (xM (qG (qG (qG (qG (qG (qG (qG (qG vC))))))))))))).1) (by rw [(pI (xN (xN (xN (xM (xM (qG (qG (qG (qG (qG (qG (qG (qG vC)))))))))))))).1]; exact xC) h hd
theorem qVc {ds:List D} {d:D} (h:qK EE (qB EE) qOz 0 ds d) (hd:∃ ds',d=kK ds'/\ds'.length=2):qB EE (Nat.add nK 42) (.mode aJ::ds) d :=
 eG he (yW (c:=jG Tryz.f42) Tryz.func42 rfl ((pI (xN (xN (xN (xM (xM (xM (qG (qG (qG (qG (qG (qG (qG (qG vC))))))))))))))).1)) (c:=jG Tryz.f42) rfl (m:=aJ) (by decide +kernel) (fun k=>by unfold qDX; split <;> decide) ((pI (xN (xM (xM (xM (qG (qG (qG (qG (qG (qG (qG (qG vC))))))))))))).1) (by rw [(pI (xN (xN (xM (xM (xM (qG (qG (qG (qG (qG (qG (qG (qG vC)))))))))))))).1]; exact xC) h hd
end Go.Proofs.YtminhjecpnpaeaaGreatDoor
