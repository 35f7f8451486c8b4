/- Trees of functions. Conditions: none. -/
import Derived.Test.YthhlmoidofecpaaGreatZa
set_option linter.unusedVariables false
set_option linter.unusedSimpArgs false
namespace Go.Proofs.YthhlmoidofecpaaGreat
open Go Go.Am Go.Proofs
def qUi:Nat->Pat
 | _=>⟨[],[],[],[]⟩
def qRf:Tree :=
 gW 2 1 <|
 vT 4 [] 0 <|
 qAX 0 3 <|
 qAX 1 3 <|
 qAX 2 3 <|
 gW 9 5 <|
 vT 5 [.v 7,.v 0,.c (.slice none 0 0)] 1 <|
 .bind (.un .not 4) [.v 8] <|
 qB 9 (
  vT 6 [] 1 <|
  .ret [.v 10]) (
  vT 7 [.v 0,.v 2] 2 <|
  qAX 0 10 <|
  qAX 1 10 <|
  vT 8 [.v 0,.v 2] 2 <|
  qAX 0 13 <|
  qAX 1 13 <|
  vT 10 [.v 0] 0 <|
  vT 11 [.v 0] 0 <|
  vT 9 [.v 16,.v 17] 1 <|
  qB 18 (
   .bind (.bin .eql 9 (.tmp 40) (.tmp 41)) [.v 11,.v 14] <|
   qB 19 (
    .bind (.bin .eql 4 (.tmp 45) (.tmp 46)) [.v 12,.v 15] <|
    qB 20 (
     vT 6 [] 1 <|
     .ret [.v 21]) (
     aM false)) (
    aM false)) (
   aM false))
def qSV:Nat->Tree
 | 0=>qRf
 | _=>.fail
def qUg:Nat->Pat
 | _=>⟨[],[],[],[]⟩
def qRa:Tree :=
 .bind (.chk false 1) [k' 1] <|
 .bind (.lit 3 1) [k' 1] <|
 .bind (.chk true 4) [.agg [.c (.string ⟨#[116,101,120,116]⟩),k' 0,k' 1,.c (.int .i64 (-1))]] <|
 .bind (.chk true 4) [.agg [.c (.string ⟨#[119,111,114,100]⟩),k' 2,k' 2,k' 0]] <|
 .bind (.lit 58 4) [.agg [.c (.string ⟨#[116,101,120,116]⟩),k' 0,k' 1,.c (.int .i64 (-1))],.agg [.c (.string ⟨#[119,111,114,100]⟩),k' 2,k' 2,k' 0]] <|
 .bind (.chk true 7) [.agg [k' 1,k' 0,k' 0,k' 0,k' 900,k' 0,.c (.string ⟨#[]⟩)]] <|
 .bind (.chk true 7) [.agg [k' 2,k' 1,k' 1,k' 0,k' 400,k' 0,.c (.string ⟨#[98,97]⟩)]] <|
 .bind (.lit 62 7) [.agg [k' 1,k' 0,k' 0,k' 0,k' 900,k' 0,.c (.string ⟨#[]⟩)],.agg [k' 2,k' 1,k' 1,k' 0,k' 400,k' 0,.c (.string ⟨#[98,97]⟩)]] <|
 .bind (.chk true 2) [.agg [.c (.string ⟨#[98]⟩),k' 0]] <|
 .bind (.chk true 2) [.agg [.c (.string ⟨#[97]⟩),k' 1]] <|
 .bind (.lit 64 2) [.agg [.c (.string ⟨#[98]⟩),k' 0],.agg [.c (.string ⟨#[97]⟩),k' 1]] <|
 .bind (.chk false 1) [k' 1] <|
 .bind (.lit 3 1) [k' 1] <|
 .bind (.chk false 1) [k' 2] <|
 .bind (.lit 3 1) [k' 2] <|
 .bind (.chk true 2) [.agg [.c (.string ⟨#[98]⟩),.v 12]] <|
 .bind (.chk true 2) [.agg [.c (.string ⟨#[97]⟩),.v 14]] <|
 .bind (.lit 66 2) [.agg [.c (.string ⟨#[98]⟩),.v 12],.agg [.c (.string ⟨#[97]⟩),.v 14]] <|
 .bind (.chk true 3) [.agg [k' 0,k' 1,k' 1]] <|
 .bind (.lit 68 3) [.agg [k' 0,k' 1,k' 1]] <|
 .bind (.chk false 1) [k' 1] <|
 .bind (.lit 3 1) [k' 1] <|
 .bind (.chk false 1) [k' 1] <|
 .bind (.chk false 1) [k' 2] <|
 .bind (.lit 3 1) [k' 1,k' 2] <|
 .bind (.chk true 2) [.agg [.c (.string ⟨#[100,111,103]⟩),.c (.string ⟨#[]⟩)]] <|
 .bind (.lit 70 2) [.agg [.c (.string ⟨#[100,111,103]⟩),.c (.string ⟨#[]⟩)]] <|
 .bind (.chk true 8) [.agg [k' 7,.v 24,k' 1,.c (.slice none 0 0),k' 0,.v 26,.c (.slice none 0 0),.c (.slice none 0 0)]] <|
 .bind (.lit 75 8) [.agg [k' 7,.v 24,k' 1,.c (.slice none 0 0),k' 0,.v 26,.c (.slice none 0 0),.c (.slice none 0 0)]] <|
 .bind (.chk true 7) [.agg [k' 5,.c (.string ⟨#[116]⟩),k' 1000,k' 1,.v 1,.v 4,.v 7]] <|
 .bind (.lit 56 7) [.agg [k' 5,.c (.string ⟨#[116]⟩),k' 1000,k' 1,.v 1,.v 4,.v 7]] <|
 .bind (.chk true 3) [.agg [k' 7,k' 0,k' 0]] <|
 .bind (.lit 77 3) [.agg [k' 7,k' 0,k' 0]] <|
 .bind (.chk true 4) [.agg [k' 5,k' 2,.c (.bool true),.v 32]] <|
 .bind (.lit 82 4) [.agg [k' 5,k' 2,.c (.bool true),.v 32]] <|
 .bind .inr [.v 32,k' 0] <|
 .ret [.v 30,.agg [.v 10,.c (.string ⟨#[109,97,105,110]⟩),.v 17,.c (.slice none 0 0),.c (.slice none 0 0),k' 2,.v 19,.v 21,.v 28],.v 34]
def qSU:Nat->Tree
 | 0=>qRa
 | _=>.fail
def qUf:Nat->Pat
 | 1=>⟨[⟨.pure,false⟩,⟨.pure,true⟩],[(1,.v 0),(7,.v 1)],[],[]⟩
 | _=>⟨[],[],[],[]⟩
def qQ7:Tree :=
 gW 9 0 <|
 xL 1 <|
 qF .gtr 9 2 4 <|
 qB 5 (
  aM false) (
  xL 2 <|
  qF .gtr 13 8 6 <|
  qB 7 (
   aM false) (
   vT 12 [.v 3] 1 <|
   .bind (.un .not 4) [.v 8] <|
   qB 9 (
    aM false) (
    vT 13 [.v 2] 1 <|
    .bind (.bin .neq 84 (.tmp 23) (K' 0)) [.v 10,k' 0] <|
    qB 11 (
     aM false) (
     .jump 1 [.v 1,k' 0]))))
def qOQ:Tree :=
 xL 0 <|
 vB .lss 26 28 1 2 <|
 qB 3 (
  xC 0 1 <|
  .bind (.elem 7 true 7 0) [.v 0,.v 1] <|
  vT 14 [.v 5] 1 <|
  .bind (.un .not 4) [.v 6] <|
  qB 7 (
   aM false) (
   qF .gtr 39 0 1 <|
   qB 8 (
    xC 0 1 <|
    v7 7 0 0 1 <|
    qF .sub 49 1 1 <|
    xC 0 11 <|
    v7 7 0 0 11 <|
    vB .leq 47 54 10 13 <|
    qB 14 (
     aM false) (
     qF .add 30 1 1 <|
     .jump 1 [.v 0,.v 15])) (
    qF .add 30 1 1 <|
    .jump 1 [.v 0,.v 9]))) (
  aM true)
def qOP:Nat->Tree
 | 0=>qQ7
 | 1=>qOQ
 | _=>.fail
def qUe:Nat->Pat
 | 1=>⟨[⟨.pure,false⟩,⟨.pure,true⟩,⟨.pure,true⟩,⟨.pure,false⟩],[(3,.loc 0 0),(9,.v 0),(10,.v 1),(11,.v 2)],[some (.whole (.v 3) 2)],[]⟩
 | _=>⟨[],[],[],[]⟩
def qQ1:Tree :=
 gW 2 1 <|
 vT 19 [.v 0] 0 <|
 xL 3 <|
 .jump 1 [.v 3,.v 4,k' 0,.v 2]
def qQ0:Tree :=
 vB .lss 11 10 2 1 <|
 qB 4 (
  xC 0 2 <|
  .bind (.elem 3 true 3 0) [.v 0,.v 2] <|
  gW 3 6 <|
  .bind (.fld true 2 0) [.v 7] <|
  .bind (.bin .eql 24 (.tmp 16) (.tmp 17)) [.v 8,.v 3] <|
  qB 9 (
   qD 2 7 <|
   .ret [.v 10,.c (.bool true)]) (
   qF .add 11 1 2 <|
   .jump 1 [.v 0,.v 1,.v 10,.v 3])) (
  .ret [.c (.string ⟨#[]⟩),.c (.bool false)])
def qQZ:Nat->Tree
 | 0=>qQ1
 | 1=>qQ0
 | _=>.fail
def qUc:Nat->Pat
 | 1=>⟨[⟨.pure,false⟩,⟨.pure,true⟩,⟨.pure,false⟩],[(0,.v 0),(3,.loc 0 0),(6,.v 1)],[some (.whole (.v 2) 2)],[]⟩
 | _=>⟨[],[],[],[]⟩
def qQS:Tree :=
 gW 2 1 <|
 .jump 1 [.v 0,k' 0,.v 2]
def qQR:Tree :=
 xL 0 <|
 vB .lss 9 11 1 3 <|
 qB 4 (
  xC 0 1 <|
  v7 7 0 0 1 <|
  qD 0 2 <|
  vB .neq 20 22 6 7 <|
  qB 8 (
   qF .add 13 1 1 <|
   .jump 1 [.v 0,.v 9,.v 2]) (
   xC 0 1 <|
   .bind (.elem 7 true 7 0) [.v 0,.v 1] <|
   qD 1 2 <|
   vT 20 [.v 10,.v 11] 0 <|
   qAX 0 12 <|
   qAX 1 12 <|
   gW 7 13 <|
   qB 14 (
    qD 1 15 <|
    xC 0 1 <|
    v7 7 5 0 1 <|
    vT 21 [.v 18,k' 2] 1 <|
    vB .eql 37 43 16 19 <|
    qB 20 (
     qD 6 15 <|
     .ret [.v 21,.c (.bool true)]) (
     qF .add 13 1 1 <|
     .jump 1 [.v 0,.v 21,.v 2])) (
    qF .add 13 1 1 <|
    .jump 1 [.v 0,.v 16,.v 2]))) (
  .ret [.c (.string ⟨#[]⟩),.c (.bool false)])
def qQQ:Nat->Tree
 | 0=>qQS
 | 1=>qQR
 | _=>.fail
def qUb:Nat->Pat
 | 1=>⟨[⟨.pure,false⟩,⟨.pure,false⟩,⟨.pure,true⟩],[(0,.v 0),(1,.v 1),(5,.v 2)],[],[]⟩
 | _=>⟨[],[],[],[]⟩
def qQP:Tree :=
 xL 0 <|
 xL 1 <|
 vB .neq 7 9 2 3 <|
 qB 4 (
  aM false) (
  .jump 1 [.v 0,.v 1,k' 0])
def qQO:Tree :=
 xL 0 <|
 vB .lss 11 13 2 3 <|
 qB 4 (
  xC 0 2 <|
  .bind (.elem 2 true 2 0) [.v 0,.v 2] <|
  xC 1 2 <|
  .bind (.elem 2 true 2 0) [.v 1,.v 2] <|
  .bind (.bin .neq 24 (.tmp 20) (.tmp 24)) [.v 6,.v 8] <|
  qB 9 (
   aM false) (
   qF .add 15 1 2 <|
   .jump 1 [.v 0,.v 1,.v 10])) (
  aM true)
def qQN:Nat->Tree
 | 0=>qQP
 | 1=>qQO
 | _=>.fail
def qRw:Nat->Pat
 | 1=>⟨[⟨.fresh,true⟩,⟨.pure,false⟩,⟨.pure,true⟩,⟨.pure,true⟩],[(3,.v 0),(7,.v 1),(8,.v 2),(9,.v 3)],[],[]⟩
 | _=>⟨[],[],[],[]⟩
def qOm:Tree :=
 vT 19 [.v 0] 0 <|
 xL 1 <|
 .jump 1 [.c (.slice none 0 0),.v 1,.v 2,k' 0]
def qOl:Tree :=
 vB .lss 9 8 3 2 <|
 qB 4 (
  xC 1 3 <|
  .bind (.elem 3 true 3 0) [.v 1,.v 3] <|
  gW 3 6 <|
  .bind (.fld true 2 0) [.v 7] <|
  gW 2 8 <|
  .bind (.lit 24 2) [.v 8] <|
  .bind (.app 24 2 16) [.v 0,.v 10] <|
  qF .add 9 1 3 <|
  .jump 1 [.v 11,.v 1,.v 2,.v 12]) (
  .ret [.v 0])
def qOk:Nat->Tree
 | 0=>qOm
 | 1=>qOl
 | _=>.fail
def qRv:Nat->Pat
 | 1=>⟨[⟨.pure,false⟩,⟨.fresh,true⟩,⟨.pure,true⟩],[(0,.v 0),(3,.v 1),(4,.v 2)],[],[]⟩
 | 2=>⟨[⟨.pure,false⟩,⟨.fresh,true⟩,⟨.pure,true⟩,⟨.pure,false⟩,⟨.pure,true⟩],[(0,.v 0),(3,.v 1),(4,.v 2),(6,.v 3),(7,.v 4)],[],[]⟩
 | _=>⟨[],[],[],[]⟩
def qOh:Tree :=
 .jump 1 [.v 0,.c (.slice none 0 0),k' 0]
def qOg:Tree :=
 xL 0 <|
 vB .lss 8 10 2 3 <|
 qB 4 (
  xC 0 2 <|
  v7 7 5 0 2 <|
  vT 21 [.v 6,k' 2] 1 <|
  qF .lss 20 0 7 <|
  qB 8 (
   qF .add 12 1 2 <|
   .jump 1 [.v 0,.v 1,.v 9]) (
   xC 0 2 <|
   .bind (.elem 7 true 7 0) [.v 0,.v 2] <|
   vT 22 [.v 10,.v 7] 0 <|
   .jump 2 [.v 0,.v 1,.v 2,.v 11,k' 0])) (
  .ret [.v 1])
def qOf:Tree :=
 xL 3 <|
 vB .lss 28 30 4 5 <|
 qB 6 (
  xC 0 2 <|
  v7 7 0 0 2 <|
  xC 3 4 <|
  v7 1 0 3 4 <|
  .bind (.chk true 2) [.agg [.v 8,.v 10]] <|
  .bind (.lit 24 2) [.agg [.v 8,.v 10]] <|
  .bind (.app 24 2 16) [.v 1,.v 12] <|
  qF .add 32 1 4 <|
  .jump 2 [.v 0,.v 13,.v 2,.v 3,.v 14]) (
  qF .add 12 1 2 <|
  .jump 1 [.v 0,.v 1,.v 7])
def qF4:Nat->Tree
 | 0=>qOh
 | 1=>qOg
 | 2=>qOf
 | _=>.fail
def qRu:Nat->Pat
 | 1=>⟨[⟨.pure,false⟩,⟨.pure,true⟩,⟨.pure,true⟩],[(0,.v 0),(7,.v 1),(8,.v 2)],[],[]⟩
 | 2=>⟨[⟨.pure,false⟩,⟨.pure,true⟩,⟨.pure,true⟩,⟨.pure,true⟩,⟨.pure,true⟩,⟨.pure,true⟩,⟨.pure,false⟩,⟨.pure,false⟩,⟨.pure,false⟩,⟨.pure,false⟩,⟨.pure,false⟩,⟨.pure,false⟩,⟨.pure,false⟩,⟨.pure,false⟩],[(0,.v 0),(3,.v 1),(4,.loc 0 0),(5,.v 2),(7,.v 3),(8,.v 1),(21,.loc 0 0),(22,.loc 0 1),(23,.v 4),(24,.v 5),(25,.c (.bool false)),(40,.v 6),(41,.v 7),(42,.v 8),(44,.v 9),(45,.v 10),(46,.v 11),(47,.v 12)],[some (.whole (.v 13) 4)],[]⟩
 | _=>⟨[],[],[],[]⟩
def qOc:Tree :=
 xL 0 <|
 .jump 1 [.v 0,.v 1,k' 0]
def qIL:Tree :=
 vB .lss 8 7 2 1 <|
 qB 3 (
  xC 0 2 <|
  .bind (.elem 4 true 4 0) [.v 0,.v 2] <|
  gW 4 5 <|
  qD 0 6 <|
  vT 25 [.v 7] 1 <|
  .bind (.un .not 4) [.v 8] <|
  qB 9 (
   qG 2) (
   qD 1 6 <|
   vT 25 [.v 10] 1 <|
   .bind (.un .not 4) [.v 11] <|
   qB 12 (
    qG 2) (
    qD 3 6 <|
    xL 13 <|
    qF .eql 30 0 14 <|
    qB 15 (
     qG 4) (
     qD 3 6 <|
     xL 16 <|
     qF .gtr 35 4 17 <|
     qB 18 (
      qG 11) (
      qF .gtr 37 0 2 <|
      qB 19 (
       qF .sub 41 1 2 <|
       xC 0 20 <|
       .bind (.elem 4 true 4 0) [.v 0,.v 20] <|
       vT 26 [.v 22,.v 6] 1 <|
       .bind (.un .not 4) [.v 23] <|
       qB 24 (
        qG 10) (
        .jump 2 [.v 0,.v 2,k' 0,.v 1,.v 10,.v 11,.v 0,.v 2,.v 20,.v 22,.v 6,.v 23,.c (.bool false),.v 6])) (
       .jump 2 [.v 0,.v 2,k' 0,.v 1,.v 10,.v 11,.tup [],.tup [],.tup [],.tup [],.tup [],.tup [],.tup [],.v 6])))))) (
  qG 0)
def qOb:Tree :=
 vB .lss 49 50 2 1 <|
 qB 14 (
  qD 2 13 <|
  qB 15 (
   xC 0 2 <|
   v7 4 2 0 2 <|
   qB 17 (
    xC 0 2 <|
    .bind (.elem 4 true 2 0) [.v 0,.v 2] <|
    .bind (.fld true 2 0) [.v 13] <|
    .bind (.bin .eql 24 (.tmp 68) (.tmp 70)) [.v 19,.v 20] <|
    qB 21 (
     qG 8) (
     qF .add 52 1 2 <|
     .jump 2 [.v 0,.v 1,.v 22,.v 3,.v 4,.v 5,.v 6,.v 7,.v 8,.v 9,.v 10,.v 11,.v 12,.v 13])) (
    qF .add 52 1 2 <|
    .jump 2 [.v 0,.v 1,.v 18,.v 3,.v 4,.v 5,.v 6,.v 7,.v 8,.v 9,.v 10,.v 11,.v 12,.v 13])) (
   qF .add 52 1 2 <|
   .jump 2 [.v 0,.v 1,.v 16,.v 3,.v 4,.v 5,.v 6,.v 7,.v 8,.v 9,.v 10,.v 11,.v 12,.v 13])) (
  qF .add 8 1 1 <|
  .jump 1 [.v 0,.v 3,.v 15])
def qRt:Nat->Tree
 | 0=>qOc
 | 1=>qIL
 | 2=>qOb
 | _=>.fail
def qRs:Nat->Pat
 | _=>⟨[],[],[],[]⟩
def qN8:Tree :=
 gW 7 0 <|
 qD 6 1 <|
 xL 2 <|
 qF .leq 5 14 3 <|
 qB 4 (
  qD 5 1 <|
  xL 5 <|
  qF .leq 10 6 6 <|
  qB 7 (
   qD 4 1 <|
   xL 8 <|
   qF .leq 17 6 9 <|
   qB 10 (
    vT 27 [.v 1] 1 <|
    .bind (.bin .eql 84 (.tmp 22) (K' 0)) [.v 11,k' 0] <|
    .ret [.v 12]) (
    aM false)) (
   aM false)) (
  aM false)
def qRr:Nat->Tree
 | 0=>qN8
 | _=>.fail
def qRq:Nat->Pat
 | 1=>⟨[⟨.fresh,true⟩,⟨.pure,false⟩,⟨.pure,true⟩,⟨.pure,true⟩],[(3,.v 0),(10,.v 1),(11,.v 2),(12,.v 3)],[],[]⟩
 | 2=>⟨[⟨.fresh,true⟩,⟨.pure,false⟩,⟨.pure,true⟩,⟨.pure,true⟩,⟨.pure,false⟩,⟨.pure,true⟩,⟨.pure,true⟩,⟨.pure,false⟩],[(3,.v 0),(5,.loc 0 0),(10,.v 1),(11,.v 2),(12,.v 3),(20,.v 4),(21,.v 5),(22,.v 6)],[some (.whole (.v 7) 7)],[]⟩
 | _=>⟨[],[],[],[]⟩
def qN6:Tree :=
 xL 0 <|
 .jump 1 [.c (.slice none 0 0),.v 0,.v 1,k' 0]
def qN5:Tree :=
 vB .lss 12 11 3 2 <|
 qB 4 (
  xC 1 3 <|
  .bind (.elem 7 true 7 0) [.v 1,.v 3] <|
  gW 7 6 <|
  qD 5 7 <|
  vT 38 [.v 8,k' 2] 1 <|
  vT 37 [.v 7,.v 9] 0 <|
  xL 10 <|
  .jump 2 [.v 0,.v 1,.v 2,.v 3,.v 10,.v 11,k' 0,.v 7]) (
  .ret [.v 0])
def qN4:Tree :=
 vB .lss 22 21 6 5 <|
 qB 8 (
  xC 4 6 <|
  v7 1 0 4 6 <|
  vT 39 [.v 7,.v 10] 0 <|
  qAX 0 11 <|
  qAX 1 11 <|
  gW 7 12 <|
  qD 0 7 <|
  qD 6 14 <|
  .bind (.chk true 3) [.agg [.v 15,.v 10,.v 16]] <|
  .bind (.lit 97 3) [.agg [.v 15,.v 10,.v 16]] <|
  .bind (.app 97 3 32) [.v 0,.v 18] <|
  qF .add 22 1 6 <|
  .jump 2 [.v 19,.v 1,.v 2,.v 3,.v 4,.v 5,.v 20,.v 7]) (
  qF .add 12 1 3 <|
  .jump 1 [.v 0,.v 1,.v 2,.v 9])
def qF3:Nat->Tree
 | 0=>qN6
 | 1=>qN5
 | 2=>qN4
 | _=>.fail
def qRp:Nat->Pat
 | 1=>⟨[⟨.pure,false⟩,⟨.pure,true⟩,⟨.pure,false⟩],[(1,.v 0),(2,.loc 0 0),(4,.loc 1 0),(6,.v 1)],[some (.whole (.v 2) 7),some (.cells [k' 0,k' 0,k' 0,k' 0,k' 0,k' 0,.c (.string ⟨#[]⟩)])],[]⟩
 | _=>⟨[],[],[],[]⟩
def qN3:Tree :=
 gW 7 0 <|
 .jump 1 [.v 1,k' 0,.v 2]
def qN2:Tree :=
 qD 6 2 <|
 xL 3 <|
 vB .lss 7 10 1 4 <|
 qB 5 (
  qD 6 2 <|
  xC 6 1 <|
  v7 7 0 6 1 <|
  vB .eql 19 20 8 0 <|
  qB 9 (
   qD 6 2 <|
   xC 10 1 <|
   .bind (.elem 7 true 7 0) [.v 10,.v 1] <|
   gW 7 12 <|
   .ret [.v 13,.c (.bool true)]) (
   qF .add 12 1 1 <|
   .jump 1 [.v 0,.v 10,.v 2])) (
  .ret [.agg [k' 0,k' 0,k' 0,k' 0,k' 0,k' 0,.c (.string ⟨#[]⟩)],.c (.bool false)])
def qN1:Nat->Tree
 | 0=>qN3
 | 1=>qN2
 | _=>.fail
def qRo:Nat->Pat
 | 1=>⟨[⟨.pure,false⟩,⟨.pure,false⟩,⟨.pure,true⟩],[(0,.v 0),(1,.v 1),(5,.v 2)],[],[]⟩
 | _=>⟨[],[],[],[]⟩
def qN0:Tree :=
 .jump 1 [.v 0,.v 1,k' 0]
def qNZ:Tree :=
 xL 0 <|
 vB .lss 6 8 2 3 <|
 qB 4 (
  qF .neq 12 0 1 <|
  qB 5 (
   xC 0 2 <|
   v7 4 2 0 2 <|
   vB .eql 19 20 7 1 <|
   qB 8 (
    .ret [.v 2]) (
    qF .add 10 1 2 <|
    .jump 1 [.v 0,.v 1,.v 9])) (
   qF .add 10 1 2 <|
   .jump 1 [.v 0,.v 1,.v 6])) (
  .ret [.c (.int .i64 (-1))])
def qNY:Nat->Tree
 | 0=>qN0
 | 1=>qNZ
 | _=>.fail
def qRn:Nat->Pat
 | 1=>⟨[⟨.pure,false⟩,⟨.fresh,true⟩,⟨.pure,true⟩,⟨.pure,false⟩],[(1,.v 0),(2,.loc 0 0),(5,.v 1),(6,.v 2)],[some (.whole (.v 3) 7)],[]⟩
 | 2=>⟨[⟨.pure,false⟩,⟨.fresh,true⟩,⟨.pure,true⟩,⟨.pure,true⟩,⟨.pure,false⟩,⟨.pure,false⟩],[(1,.v 0),(2,.loc 0 0),(5,.v 1),(6,.v 2),(7,.loc 1 0),(8,.v 3)],[some (.whole (.v 4) 7),some (.whole (.v 5) 7)],[]⟩
 | 3=>⟨[⟨.fresh,true⟩,⟨.fresh,true⟩,⟨.pure,true⟩],[(5,.v 0),(9,.v 1),(10,.v 2)],[],[]⟩
 | _=>⟨[],[],[],[]⟩
def qNX:Tree :=
 gW 7 0 <|
 .bind (.lit 62 7) [] <|
 .jump 1 [.v 1,.v 3,k' 0,.v 2]
def qNW:Tree :=
 qD 6 3 <|
 xL 4 <|
 vB .lss 12 15 2 5 <|
 qB 6 (
  qD 6 3 <|
  xC 7 2 <|
  .bind (.elem 7 true 7 0) [.v 7,.v 2] <|
  gW 7 9 <|
  qD 1 10 <|
  vB .neq 25 26 11 0 <|
  qB 12 (
   qF .add 17 1 2 <|
   .jump 1 [.v 0,.v 1,.v 13,.v 3]) (
   xL 1 <|
   .jump 2 [.v 0,.v 1,.v 2,.v 13,.v 3,.v 10])) (
  .bind (.lit 3 1) [] <|
  .jump 3 [.v 1,.v 7,k' 0])
def qNV:Tree :=
 qF .gtr 30 0 3 <|
 qB 6 (
  qF .sub 36 1 3 <|
  xC 1 7 <|
  .bind (.elem 7 true 7 0) [.v 1,.v 7] <|
  vT 40 [.v 4,.v 5,.v 9] 1 <|
  qB 10 (
   qF .sub 42 1 3 <|
   .jump 2 [.v 0,.v 1,.v 2,.v 11,.v 4,.v 5]) (
   .bind (.lit 62 7) [] <|
   .bind (.slc 62 7 false true) [.v 1,.v 3] <|
   .bind (.app 62 7 64) [.v 11,.v 12] <|
   gW 7 5 <|
   .bind (.lit 62 7) [.v 5] <|
   .bind (.app 62 7 64) [.v 13,.v 15] <|
   .bind (.slc 62 7 true false) [.v 1,.v 3] <|
   .bind (.app 62 7 64) [.v 16,.v 17] <|
   qF .add 17 1 2 <|
   .jump 1 [.v 0,.v 18,.v 19,.v 4])) (
  .bind (.lit 62 7) [] <|
  .bind (.slc 62 7 false true) [.v 1,.v 3] <|
  .bind (.app 62 7 64) [.v 7,.v 8] <|
  gW 7 5 <|
  .bind (.lit 62 7) [.v 5] <|
  .bind (.app 62 7 64) [.v 9,.v 11] <|
  .bind (.slc 62 7 true false) [.v 1,.v 3] <|
  .bind (.app 62 7 64) [.v 12,.v 13] <|
  qF .add 17 1 2 <|
  .jump 1 [.v 0,.v 14,.v 15,.v 4])
def qNU:Tree :=
 xL 0 <|
 vB .lss 57 59 2 3 <|
 qB 4 (
  xC 0 2 <|
  v7 7 0 0 2 <|
  qSr 6 <|
  .bind (.lit 3 1) [.v 6] <|
  .bind (.app 3 1 8) [.v 1,.v 8] <|
  qF .add 61 1 2 <|
  .jump 3 [.v 0,.v 9,.v 10]) (
  .ret [.v 1])
def qA7:Nat->Tree
 | 0=>qNX
 | 1=>qNW
 | 2=>qNV
 | 3=>qNU
 | _=>.fail
def qRm:Nat->Pat
 | 1=>⟨[⟨.pure,true⟩,⟨.pure,false⟩],[(1,.loc 0 0),(4,.v 0)],[some (.whole (.v 1) 7)],[]⟩
 | 2=>⟨[⟨.pure,true⟩,⟨.pure,false⟩],[(1,.loc 0 0),(6,.v 0)],[some (.whole (.v 1) 7)],[]⟩
 | _=>⟨[],[],[],[]⟩
def qNT:Tree :=
 gW 7 0 <|
 qD 5 1 <|
 vT 49 [.v 2] 1 <|
 .bind (.bin .neq 84 (.tmp 11) (K' 0)) [.v 3,k' 0] <|
 qB 4 (
  .ret [.v 3]) (
  qD 2 1 <|
  qF .lss 16 0 5 <|
  qB 6 (
   qG 12) (
   qD 2 1 <|
   qF .gtr 21 86400000 7 <|
   qB 8 (
    qG 12) (
    qD 6 1 <|
    xL 9 <|
    qF .gtr 26 300 10 <|
    qB 11 (
     qG 11) (
     .jump 1 [k' 0,.v 1]))))
def qF2:Tree :=
 qD 6 1 <|
 xL 2 <|
 vB .lss 28 31 0 3 <|
 qB 4 (
  vT 50 [.v 1,.v 0] 1 <|
  .bind (.bin .neq 84 (.tmp 38) (K' 0)) [.v 5,k' 0] <|
  qB 6 (
   .ret [.v 5]) (
   qF .add 33 1 0 <|
   .jump 1 [.v 7,.v 1])) (
  .jump 2 [k' 0,.v 1])
def qID:Tree :=
 qD 5 1 <|
 xL 2 <|
 vB .lss 41 44 0 3 <|
 qB 4 (
  vT 51 [.v 1,.v 0] 1 <|
  .bind (.bin .neq 84 (.tmp 51) (K' 0)) [.v 5,k' 0] <|
  qB 6 (
   .ret [.v 5]) (
   qF .add 46 1 0 <|
   .jump 2 [.v 7,.v 1])) (
  qG 0)
def qCY:Nat->Tree
 | 0=>qNT
 | 1=>qF2
 | 2=>qID
 | _=>.fail
def qRl:Nat->Pat
 | 1=>⟨[⟨.pure,false⟩,⟨.pure,true⟩,⟨.pure,true⟩],[(3,k' 0),(6,.v 0),(7,.v 1),(8,.v 2)],[],[]⟩
 | _=>⟨[],[],[],[]⟩
def qNS:Tree :=
 xL 0 <|
 .jump 1 [.v 0,.v 1,k' 0]
def qF1:Tree :=
 vB .lss 8 7 2 1 <|
 qB 3 (
  xC 0 2 <|
  v7 1 0 0 2 <|
  .bind (.bin .neq 3 (.tmp 12) (.tmp 13)) [.v 5,k' 0] <|
  qB 6 (
   .ret [.v 5]) (
   qF .add 8 1 2 <|
   .jump 1 [.v 0,.v 1,.v 7])) (
  qG 0)
def qIC:Nat->Tree
 | 0=>qNS
 | 1=>qF1
 | _=>.fail
def qRk:Nat->Pat
 | _=>⟨[],[],[],[]⟩
def qNR:Tree :=
 vT 61 [.v 0] 1 <|
 vT 61 [.v 1] 1 <|
 qB 2 (
  qB 3 (
   qG 0) (
   .ret [.c (.int .i64 (-1))])) (
  qB 3 (
   qG 1) (
   vB .lss 14 15 0 1 <|
   qB 4 (
    .ret [.c (.int .i64 (-1))]) (
    vB .gtr 17 18 0 1 <|
    qB 5 (
     qG 1) (
     qG 0))))
def qRj:Nat->Tree
 | 0=>qNR
 | _=>.fail
def qRi:Nat->Pat
 | 1=>⟨[⟨.pure,false⟩,⟨.fresh,true⟩,⟨.pure,false⟩,⟨.pure,true⟩,⟨.pure,true⟩,⟨.pure,false⟩],[(1,.v 0),(2,.loc 0 0),(5,.v 1),(34,.v 2),(35,.v 3),(36,.v 4)],[some (.whole (.v 5) 7)],[]⟩
 | _=>⟨[],[],[],[]⟩
def qNQ:Tree :=
 gW 7 0 <|
 qF .lss 8 0 1 <|
 qB 3 (
  .ret [.c (.slice none 0 0)]) (
  qD 5 2 <|
  xL 4 <|
  vB .geq 11 14 1 5 <|
  qB 6 (
   .ret [.c (.slice none 0 0)]) (
   qD 5 2 <|
   xC 7 1 <|
   v7 4 1 7 1 <|
   qF .eql 22 0 9 <|
   qB 10 (
    vT 62 [.v 2,k' 0,.v 1] 0 <|
    .ret [.v 11]) (
    qD 5 2 <|
    xC 11 1 <|
    v7 4 3 11 1 <|
    vT 37 [.v 2,.v 13] 0 <|
    xL 14 <|
    .jump 1 [.v 1,.c (.slice none 0 0),.v 14,.v 15,k' 0,.v 2])))
def qNP:Tree :=
 vB .lss 36 35 4 3 <|
 qB 6 (
  xC 2 4 <|
  v7 1 0 2 4 <|
  vT 62 [.v 5,.v 8,.v 0] 0 <|
  .bind (.app 3 1 8) [.v 1,.v 9] <|
  qF .add 36 1 4 <|
  .jump 1 [.v 0,.v 10,.v 2,.v 3,.v 11,.v 5]) (
  .ret [.v 1])
def qNO:Nat->Tree
 | 0=>qNQ
 | 1=>qNP
 | _=>.fail
def qRh:Nat->Pat
 | 1=>⟨[⟨.pure,false⟩,⟨.pure,false⟩,⟨.pure,true⟩,⟨.pure,true⟩],[(1,.v 0),(7,.v 1),(8,.v 2),(9,.v 3)],[],[]⟩
 | _=>⟨[],[],[],[]⟩
def qNN:Tree :=
 xL 0 <|
 .jump 1 [.v 1,.v 0,.v 2,k' 0]
def qNM:Tree :=
 vB .lss 9 8 3 2 <|
 qB 4 (
  xC 1 3 <|
  .bind (.elem 4 true 4 0) [.v 1,.v 3] <|
  gW 4 6 <|
  qF .neq 14 0 0 <|
  qB 8 (
   qD 2 7 <|
   vB .eql 18 19 9 0 <|
   qB 10 (
    .ret [.v 3]) (
    qF .add 9 1 3 <|
    .jump 1 [.v 0,.v 1,.v 2,.v 11])) (
   qF .add 9 1 3 <|
   .jump 1 [.v 0,.v 1,.v 2,.v 9])) (
  .ret [.c (.int .i64 (-1))])
def qNL:Nat->Tree
 | 0=>qNN
 | 1=>qNM
 | _=>.fail
def qRg:Nat->Pat
 | 1=>⟨[⟨.pure,false⟩,⟨.pure,true⟩,⟨.pure,true⟩,⟨.pure,true⟩],[(1,.v 0),(4,.loc 1 0),(9,.v 1),(10,.v 2),(11,.v 3)],[none,some (.cells [k' 0,k' 0,k' 0,k' 0,k' 0,k' 0,.c (.string ⟨#[]⟩)])],[]⟩
 | _=>⟨[],[],[],[]⟩
def qNK:Tree :=
 gW 7 0 <|
 qD 6 2 <|
 xL 3 <|
 .jump 1 [.v 1,.v 3,.v 4,k' 0]
def qNJ:Tree :=
 vB .lss 11 10 3 2 <|
 qB 4 (
  xC 1 3 <|
  .bind (.elem 7 true 7 0) [.v 1,.v 3] <|
  gW 7 6 <|
  qD 0 7 <|
  vB .eql 16 17 8 0 <|
  qB 9 (
   gW 7 7 <|
   .ret [.v 10,.c (.bool true)]) (
   qF .add 11 1 3 <|
   .jump 1 [.v 0,.v 1,.v 2,.v 10])) (
  .ret [.agg [k' 0,k' 0,k' 0,k' 0,k' 0,k' 0,.c (.string ⟨#[]⟩)],.c (.bool false)])
def qNI:Nat->Tree
 | 0=>qNK
 | 1=>qNJ
 | _=>.fail
def qRe:Nat->Pat
 | _=>⟨[],[],[],[]⟩
def qNH:Tree :=
 gW 7 0 <|
 gW 7 1 <|
 gW 7 2 <|
 qD 2 4 <|
 qD 2 5 <|
 vB .neq 12 14 6 7 <|
 qB 8 (
  qD 2 4 <|
  vT 20 [.v 3,.v 9] 0 <|
  qAX 0 10 <|
  qAX 1 10 <|
  gW 7 11 <|
  qD 2 5 <|
  vT 20 [.v 3,.v 14] 0 <|
  qAX 0 15 <|
  qAX 1 15 <|
  gW 7 16 <|
  vT 40 [.v 3,.v 13,.v 18] 1 <|
  .ret [.v 19]) (
  qD 5 3 <|
  qD 1 4 <|
  xC 9 10 <|
  v7 4 1 9 10 <|
  vT 63 [.v 12] 1 <|
  qB 13 (
   qD 3 4 <|
   qD 3 5 <|
   vB .lss 44 47 14 15 <|
   .ret [.v 16]) (
   qD 5 4 <|
   qD 5 5 <|
   vB .lss 50 52 14 15 <|
   .ret [.v 16]))
def qRd:Nat->Tree
 | 0=>qNH
 | _=>.fail
def qRb:Nat->Pat
 | 1=>⟨[⟨.pure,false⟩,⟨.pure,true⟩],[(0,.v 0),(3,.v 1)],[],[]⟩
 | _=>⟨[],[],[],[]⟩
def qNC:Tree :=
 xL 0 <|
 qF .gtr 6 12 1 <|
 qB 2 (
  qG 11) (
  .jump 1 [.v 0,k' 0])
def qNB:Tree :=
 xL 0 <|
 vB .lss 8 10 1 2 <|
 qB 3 (
  vT 81 [.v 0,.v 1] 1 <|
  .bind (.bin .neq 84 (.tmp 17) (K' 0)) [.v 4,k' 0] <|
  qB 5 (
   .ret [.v 4]) (
   qF .add 12 1 1 <|
   .jump 1 [.v 0,.v 6])) (
  qG 0)
def qIB:Nat->Tree
 | 0=>qNC
 | 1=>qNB
 | _=>.fail
def qQ9:Nat->Pat
 | _=>⟨[],[],[],[]⟩
def qIA:Tree :=
 gW 7 0 <|
 qD 6 2 <|
 xC 3 1 <|
 .bind (.elem 7 true 7 0) [.v 3,.v 1] <|
 gW 7 5 <|
 qD 0 6 <|
 qF .lss 13 1 7 <|
 qB 8 (
  qG 2) (
  qD 0 6 <|
  qF .gtr 17 1099511627776 9 <|
  qB 10 (
   qG 2) (
   qF .gtr 20 0 1 <|
   qB 11 (
    qD 0 6 <|
    qD 6 2 <|
    qF .sub 27 1 1 <|
    xC 13 14 <|
    v7 7 0 13 14 <|
    vB .leq 24 31 12 16 <|
    qB 17 (
     qG 10) (
     qD 1 6 <|
     qF .lss 35 0 18 <|
     qB 19 (
      qG 2) (
      qD 1 6 <|
      qD 5 2 <|
      xL 21 <|
      vB .geq 39 42 20 22 <|
      qB 23 (
       qG 2) (
       qD 6 6 <|
       vT 82 [.v 24] 1 <|
       .bind (.bin .neq 84 (.tmp 48) (K' 0)) [.v 25,k' 0] <|
       qB 26 (
        .ret [.v 25]) (
        vT 83 [.v 2,.v 6] 1 <|
        .ret [.v 27]))))) (
    qD 1 6 <|
    qF .lss 35 0 12 <|
    qB 13 (
     qG 2) (
     qD 1 6 <|
     qD 5 2 <|
     xL 15 <|
     vB .geq 39 42 14 16 <|
     qB 17 (
      qG 2) (
      qD 6 6 <|
      vT 82 [.v 18] 1 <|
      .bind (.bin .neq 84 (.tmp 48) (K' 0)) [.v 19,k' 0] <|
      qB 20 (
       .ret [.v 19]) (
       vT 83 [.v 2,.v 6] 1 <|
       .ret [.v 21]))))))
def qNA:Nat->Tree
 | 0=>qIA
 | _=>.fail
def qQ8:Nat->Pat
 | 1=>⟨[⟨.pure,false⟩,⟨.pure,true⟩,⟨.pure,true⟩,⟨.pure,true⟩,⟨.pure,false⟩],[(1,.v 0),(2,.loc 0 0),(5,.v 1),(6,.v 2),(7,.v 3)],[some (.whole (.v 4) 7)],[]⟩
 | _=>⟨[],[],[],[]⟩
def qNz:Tree :=
 gW 7 0 <|
 qD 5 2 <|
 xC 3 1 <|
 v7 4 1 3 1 <|
 .jump 1 [.v 1,.v 5,k' 0,k' 0,.v 2]
def qNy:Tree :=
 qD 6 4 <|
 xL 5 <|
 vB .lss 18 21 3 6 <|
 qB 7 (
  qD 6 4 <|
  xC 8 3 <|
  .bind (.elem 7 true 7 0) [.v 8,.v 3] <|
  gW 7 10 <|
  qD 1 11 <|
  vB .neq 31 32 12 0 <|
  qB 13 (
   qF .add 23 1 3 <|
   .jump 1 [.v 0,.v 1,.v 2,.v 14,.v 4]) (
   qD 2 11 <|
   vT 84 [.v 4,.v 0,.v 14] 0 <|
   vT 63 [.v 1] 1 <|
   qB 16 (
    vT 85 [.v 15] 1 <|
    qB 17 (
     qG 15) (
     qD 2 11 <|
     vT 20 [.v 4,.v 18] 0 <|
     qAX 0 19 <|
     qAX 1 19 <|
     gW 7 20 <|
     qF .eql 52 1 1 <|
     qB 23 (
      vT 87 [.v 15] 0 <|
      .bind (.fld true 2 3) [.v 22] <|
      vT 86 [.v 24,.v 25] 1 <|
      .bind (.un .not 4) [.v 26] <|
      qB 27 (
       qF .eql 62 3 1 <|
       qB 28 (
        vT 88 [.v 15] 1 <|
        .bind (.un .not 4) [.v 29] <|
        qB 30 (
         qF .eql 69 4 1 <|
         qB 31 (
          xL 15 <|
          qF .gtr 73 1 32 <|
          qB 33 (
           qF .add 23 1 3 <|
           .jump 1 [.v 0,.v 1,k' 8,.v 34,.v 4]) (
           qF .add 23 1 3 <|
           .jump 1 [.v 0,.v 1,k' 10,.v 34,.v 4])) (
          qF .add 23 1 3 <|
          .jump 1 [.v 0,.v 1,k' 10,.v 32,.v 4])) (
         qF .eql 69 4 1 <|
         qB 31 (
          xL 15 <|
          qF .gtr 73 1 32 <|
          qB 33 (
           qF .add 23 1 3 <|
           .jump 1 [.v 0,.v 1,k' 8,.v 34,.v 4]) (
           qF .add 23 1 3 <|
           .jump 1 [.v 0,.v 1,k' 16,.v 34,.v 4])) (
          qF .add 23 1 3 <|
          .jump 1 [.v 0,.v 1,k' 16,.v 32,.v 4]))) (
        qF .eql 69 4 1 <|
        qB 29 (
         xL 15 <|
         qF .gtr 73 1 30 <|
         qB 31 (
          qF .add 23 1 3 <|
          .jump 1 [.v 0,.v 1,k' 8,.v 32,.v 4]) (
          qF .add 23 1 3 <|
          .jump 1 [.v 0,.v 1,k' 16,.v 32,.v 4])) (
         qF .add 23 1 3 <|
         .jump 1 [.v 0,.v 1,k' 16,.v 30,.v 4]))) (
       qF .eql 62 3 1 <|
       qB 28 (
        vT 88 [.v 15] 1 <|
        .bind (.un .not 4) [.v 29] <|
        qB 30 (
         qF .eql 69 4 1 <|
         qB 31 (
          xL 15 <|
          qF .gtr 73 1 32 <|
          qB 33 (
           qF .add 23 1 3 <|
           .jump 1 [.v 0,.v 1,k' 8,.v 34,.v 4]) (
           qF .add 23 1 3 <|
           .jump 1 [.v 0,.v 1,k' 10,.v 34,.v 4])) (
          qF .add 23 1 3 <|
          .jump 1 [.v 0,.v 1,k' 10,.v 32,.v 4])) (
         qF .eql 69 4 1 <|
         qB 31 (
          xL 15 <|
          qF .gtr 73 1 32 <|
          qB 33 (
           qF .add 23 1 3 <|
           .jump 1 [.v 0,.v 1,k' 8,.v 34,.v 4]) (
           qF .add 23 1 3 <|
           .jump 1 [.v 0,.v 1,.v 2,.v 34,.v 4])) (
          qF .add 23 1 3 <|
          .jump 1 [.v 0,.v 1,.v 2,.v 32,.v 4]))) (
        qF .eql 69 4 1 <|
        qB 29 (
         xL 15 <|
         qF .gtr 73 1 30 <|
         qB 31 (
          qF .add 23 1 3 <|
          .jump 1 [.v 0,.v 1,k' 8,.v 32,.v 4]) (
          qF .add 23 1 3 <|
          .jump 1 [.v 0,.v 1,.v 2,.v 32,.v 4])) (
         qF .add 23 1 3 <|
         .jump 1 [.v 0,.v 1,.v 2,.v 30,.v 4])))) (
      qF .eql 62 3 1 <|
      qB 24 (
       vT 88 [.v 15] 1 <|
       .bind (.un .not 4) [.v 25] <|
       qB 26 (
        qF .eql 69 4 1 <|
        qB 27 (
         xL 15 <|
         qF .gtr 73 1 28 <|
         qB 29 (
          qF .add 23 1 3 <|
          .jump 1 [.v 0,.v 1,k' 8,.v 30,.v 4]) (
          qF .add 23 1 3 <|
          .jump 1 [.v 0,.v 1,k' 10,.v 30,.v 4])) (
         qF .add 23 1 3 <|
         .jump 1 [.v 0,.v 1,k' 10,.v 28,.v 4])) (
        qF .eql 69 4 1 <|
        qB 27 (
         xL 15 <|
         qF .gtr 73 1 28 <|
         qB 29 (
          qF .add 23 1 3 <|
          .jump 1 [.v 0,.v 1,k' 8,.v 30,.v 4]) (
          qF .add 23 1 3 <|
          .jump 1 [.v 0,.v 1,.v 2,.v 30,.v 4])) (
         qF .add 23 1 3 <|
         .jump 1 [.v 0,.v 1,.v 2,.v 28,.v 4]))) (
       qF .eql 69 4 1 <|
       qB 25 (
        xL 15 <|
        qF .gtr 73 1 26 <|
        qB 27 (
         qF .add 23 1 3 <|
         .jump 1 [.v 0,.v 1,k' 8,.v 28,.v 4]) (
         qF .add 23 1 3 <|
         .jump 1 [.v 0,.v 1,.v 2,.v 28,.v 4])) (
        qF .add 23 1 3 <|
        .jump 1 [.v 0,.v 1,.v 2,.v 26,.v 4]))))) (
    qD 2 11 <|
    vT 20 [.v 4,.v 17] 0 <|
    qAX 0 18 <|
    qAX 1 18 <|
    gW 7 19 <|
    qF .eql 52 1 1 <|
    qB 22 (
     vT 87 [.v 15] 0 <|
     .bind (.fld true 2 3) [.v 21] <|
     vT 86 [.v 23,.v 24] 1 <|
     .bind (.un .not 4) [.v 25] <|
     qB 26 (
      qF .eql 62 3 1 <|
      qB 27 (
       vT 88 [.v 15] 1 <|
       .bind (.un .not 4) [.v 28] <|
       qB 29 (
        qF .eql 69 4 1 <|
        qB 30 (
         xL 15 <|
         qF .gtr 73 1 31 <|
         qB 32 (
          qF .add 23 1 3 <|
          .jump 1 [.v 0,.v 1,k' 8,.v 33,.v 4]) (
          qF .add 23 1 3 <|
          .jump 1 [.v 0,.v 1,k' 10,.v 33,.v 4])) (
         qF .add 23 1 3 <|
         .jump 1 [.v 0,.v 1,k' 10,.v 31,.v 4])) (
        qF .eql 69 4 1 <|
        qB 30 (
         xL 15 <|
         qF .gtr 73 1 31 <|
         qB 32 (
          qF .add 23 1 3 <|
          .jump 1 [.v 0,.v 1,k' 8,.v 33,.v 4]) (
          qF .add 23 1 3 <|
          .jump 1 [.v 0,.v 1,k' 16,.v 33,.v 4])) (
         qF .add 23 1 3 <|
         .jump 1 [.v 0,.v 1,k' 16,.v 31,.v 4]))) (
       qF .eql 69 4 1 <|
       qB 28 (
        xL 15 <|
        qF .gtr 73 1 29 <|
        qB 30 (
         qF .add 23 1 3 <|
         .jump 1 [.v 0,.v 1,k' 8,.v 31,.v 4]) (
         qF .add 23 1 3 <|
         .jump 1 [.v 0,.v 1,k' 16,.v 31,.v 4])) (
        qF .add 23 1 3 <|
        .jump 1 [.v 0,.v 1,k' 16,.v 29,.v 4]))) (
      qF .eql 62 3 1 <|
      qB 27 (
       vT 88 [.v 15] 1 <|
       .bind (.un .not 4) [.v 28] <|
       qB 29 (
        qF .eql 69 4 1 <|
        qB 30 (
         xL 15 <|
         qF .gtr 73 1 31 <|
         qB 32 (
          qF .add 23 1 3 <|
          .jump 1 [.v 0,.v 1,k' 8,.v 33,.v 4]) (
          qF .add 23 1 3 <|
          .jump 1 [.v 0,.v 1,k' 10,.v 33,.v 4])) (
         qF .add 23 1 3 <|
         .jump 1 [.v 0,.v 1,k' 10,.v 31,.v 4])) (
        qF .eql 69 4 1 <|
        qB 30 (
         xL 15 <|
         qF .gtr 73 1 31 <|
         qB 32 (
          qF .add 23 1 3 <|
          .jump 1 [.v 0,.v 1,k' 8,.v 33,.v 4]) (
          qF .add 23 1 3 <|
          .jump 1 [.v 0,.v 1,.v 2,.v 33,.v 4])) (
         qF .add 23 1 3 <|
         .jump 1 [.v 0,.v 1,.v 2,.v 31,.v 4]))) (
       qF .eql 69 4 1 <|
       qB 28 (
        xL 15 <|
        qF .gtr 73 1 29 <|
        qB 30 (
         qF .add 23 1 3 <|
         .jump 1 [.v 0,.v 1,k' 8,.v 31,.v 4]) (
         qF .add 23 1 3 <|
         .jump 1 [.v 0,.v 1,.v 2,.v 31,.v 4])) (
        qF .add 23 1 3 <|
        .jump 1 [.v 0,.v 1,.v 2,.v 29,.v 4])))) (
     qF .eql 62 3 1 <|
     qB 23 (
      vT 88 [.v 15] 1 <|
      .bind (.un .not 4) [.v 24] <|
      qB 25 (
       qF .eql 69 4 1 <|
       qB 26 (
        xL 15 <|
        qF .gtr 73 1 27 <|
        qB 28 (
         qF .add 23 1 3 <|
         .jump 1 [.v 0,.v 1,k' 8,.v 29,.v 4]) (
         qF .add 23 1 3 <|
         .jump 1 [.v 0,.v 1,k' 10,.v 29,.v 4])) (
        qF .add 23 1 3 <|
        .jump 1 [.v 0,.v 1,k' 10,.v 27,.v 4])) (
       qF .eql 69 4 1 <|
       qB 26 (
        xL 15 <|
        qF .gtr 73 1 27 <|
        qB 28 (
         qF .add 23 1 3 <|
         .jump 1 [.v 0,.v 1,k' 8,.v 29,.v 4]) (
         qF .add 23 1 3 <|
         .jump 1 [.v 0,.v 1,.v 2,.v 29,.v 4])) (
        qF .add 23 1 3 <|
        .jump 1 [.v 0,.v 1,.v 2,.v 27,.v 4]))) (
      qF .eql 69 4 1 <|
      qB 24 (
       xL 15 <|
       qF .gtr 73 1 25 <|
       qB 26 (
        qF .add 23 1 3 <|
        .jump 1 [.v 0,.v 1,k' 8,.v 27,.v 4]) (
        qF .add 23 1 3 <|
        .jump 1 [.v 0,.v 1,.v 2,.v 27,.v 4])) (
       qF .add 23 1 3 <|
       .jump 1 [.v 0,.v 1,.v 2,.v 25,.v 4])))))) (
  .ret [.v 2])
def qF0:Nat->Tree
 | 0=>qNz
 | 1=>qNy
 | _=>.fail
def qQ6:Nat->Pat
 | _=>⟨[],[],[],[]⟩
def qNx:Tree :=
 vB .neq 3 4 0 0 <|
 .ret [.v 1]
def qQ5:Nat->Tree
 | 0=>qNx
 | _=>.fail
def qQ4:Nat->Pat
 | _=>⟨[],[],[],[]⟩
def qNt:Tree :=
 qF .eql 3 0 0 <|
 qB 1 (
  aM true) (
  qF .eql 6 1 0 <|
  qB 2 (
   aM true) (
   qF .eql 10 2 0 <|
   .ret [.v 3]))
def qQ3:Nat->Tree
 | 0=>qNt
 | _=>.fail
def qQY:Nat->Pat
 | 1=>⟨[⟨.pure,false⟩,⟨.pure,false⟩,⟨.pure,true⟩,⟨.pure,false⟩],[(0,.v 0),(1,.v 1),(5,.loc 0 0),(6,.v 2)],[some (.whole (.v 3) 4)],[]⟩
 | 2=>⟨[⟨.pure,false⟩,⟨.pure,false⟩,⟨.pure,true⟩,⟨.pure,false⟩],[(0,.v 0),(1,.v 1),(5,.loc 0 0),(7,.v 2)],[some (.whole (.v 3) 4)],[]⟩
 | _=>⟨[],[],[],[]⟩
def qNn:Tree :=
 xC 0 1 <|
 .bind (.elem 4 true 4 0) [.v 0,.v 1] <|
 gW 4 3 <|
 qD 0 4 <|
 vT 65 [.v 5] 1 <|
 .bind (.un .not 4) [.v 6] <|
 qB 7 (
  qG 7) (
  .jump 1 [.v 0,.v 1,k' 0,.v 4])
def qNm:Tree :=
 vB .lss 17 18 2 1 <|
 qB 4 (
  xC 0 2 <|
  v7 4 0 0 2 <|
  qD 0 3 <|
  .bind (.bin .eql 9 (.tmp 26) (.tmp 28)) [.v 6,.v 7] <|
  qB 8 (
   qG 8) (
   qF .add 20 1 2 <|
   .jump 1 [.v 0,.v 1,.v 9,.v 3])) (
  qD 1 3 <|
  qF .lss 31 0 5 <|
  qB 6 (
   qG 14) (
   qD 1 3 <|
   qF .gtr 35 4 7 <|
   qB 8 (
    qG 14) (
    qD 2 3 <|
    qF .lss 39 0 9 <|
    qB 10 (
     qG 2) (
     qD 2 3 <|
     qF .gtr 43 5 11 <|
     qB 12 (
      qG 2) (
      .jump 2 [.v 0,.v 1,k' 0,.v 3])))))
def qNl:Tree :=
 vB .lss 46 47 2 1 <|
 qB 4 (
  qD 2 3 <|
  qF .neq 52 0 5 <|
  qB 6 (
   xC 0 2 <|
   v7 4 2 0 2 <|
   qD 2 3 <|
   vB .eql 59 61 8 9 <|
   qB 10 (
    qG 8) (
    qF .add 49 1 2 <|
    .jump 2 [.v 0,.v 1,.v 11,.v 3])) (
   qF .add 49 1 2 <|
   .jump 2 [.v 0,.v 1,.v 7,.v 3])) (
  qD 1 3 <|
  qF .eql 65 0 5 <|
  qB 6 (
   qD 3 3 <|
   .bind (.bin .neq 3 (.tmp 70) (.const (.int .i64 (-1)))) [.v 7,.c (.int .i64 (-1))] <|
   qB 8 (
    qG 13) (
    qD 2 3 <|
    vT 116 [.v 9] 1 <|
    qF .geq 107 0 10 <|
    qB 11 (
     qD 1 3 <|
     qD 2 3 <|
     vT 116 [.v 13] 1 <|
     vB .neq 111 114 12 14 <|
     qB 15 (
      qG 14) (
      qD 2 3 <|
      vT 117 [.v 16] 1 <|
      qF .geq 119 0 17 <|
      qB 18 (
       qG 13) (
       qG 0))) (
     qD 2 3 <|
     vT 117 [.v 12] 1 <|
     qF .geq 119 0 13 <|
     qB 14 (
      qG 13) (
      qG 0)))) (
   qD 3 3 <|
   qF .lss 78 0 7 <|
   qB 8 (
    qG 13) (
    qD 3 3 <|
    vB .geq 82 83 9 1 <|
    qB 10 (
     qG 13) (
     qD 1 3 <|
     vT 115 [.v 11] 1 <|
     qB 12 (
      qD 3 3 <|
      xC 0 13 <|
      v7 4 1 0 13 <|
      vT 115 [.v 15] 1 <|
      .bind (.un .not 4) [.v 16] <|
      qB 17 (
       qG 13) (
       qD 2 3 <|
       vT 116 [.v 18] 1 <|
       qF .geq 107 0 19 <|
       qB 20 (
        qD 1 3 <|
        qD 2 3 <|
        vT 116 [.v 22] 1 <|
        vB .neq 111 114 21 23 <|
        qB 24 (
         qG 14) (
         qD 2 3 <|
         vT 117 [.v 25] 1 <|
         qF .geq 119 0 26 <|
         qB 27 (
          qD 3 3 <|
          xC 0 28 <|
          v7 4 2 0 28 <|
          qD 2 3 <|
          vT 117 [.v 31] 1 <|
          vB .neq 129 132 30 32 <|
          qB 33 (
           qG 13) (
           qG 0)) (
          qG 0))) (
        qD 2 3 <|
        vT 117 [.v 21] 1 <|
        qF .geq 119 0 22 <|
        qB 23 (
         qD 3 3 <|
         xC 0 24 <|
         v7 4 2 0 24 <|
         qD 2 3 <|
         vT 117 [.v 27] 1 <|
         vB .neq 129 132 26 28 <|
         qB 29 (
          qG 13) (
          qG 0)) (
         qG 0)))) (
      qD 2 3 <|
      vT 116 [.v 13] 1 <|
      qF .geq 107 0 14 <|
      qB 15 (
       qD 1 3 <|
       qD 2 3 <|
       vT 116 [.v 17] 1 <|
       vB .neq 111 114 16 18 <|
       qB 19 (
        qG 14) (
        qD 2 3 <|
        vT 117 [.v 20] 1 <|
        qF .geq 119 0 21 <|
        qB 22 (
         qD 3 3 <|
         xC 0 23 <|
         v7 4 2 0 23 <|
         qD 2 3 <|
         vT 117 [.v 26] 1 <|
         vB .neq 129 132 25 27 <|
         qB 28 (
          qG 13) (
          qG 0)) (
         qG 0))) (
       qD 2 3 <|
       vT 117 [.v 16] 1 <|
       qF .geq 119 0 17 <|
       qB 18 (
        qD 3 3 <|
        xC 0 19 <|
        v7 4 2 0 19 <|
        qD 2 3 <|
        vT 117 [.v 22] 1 <|
        vB .neq 129 132 21 23 <|
        qB 24 (
         qG 13) (
         qG 0)) (
        qG 0)))))))
def qCW:Nat->Tree
 | 0=>qNn
 | 1=>qNm
 | 2=>qNl
 | _=>.fail
def qQW:Nat->Pat
 | 1=>⟨[⟨.pure,false⟩,⟨.pure,false⟩,⟨.fresh,true⟩,⟨.pure,true⟩,⟨.pure,false⟩],[(1,.v 0),(2,.v 1),(3,.loc 0 0),(7,.v 2),(8,.v 3)],[some (.whole (.v 4) 7)],[]⟩
 | _=>⟨[],[],[],[]⟩
def qNj:Tree :=
 gW 7 0 <|
 .bind (.lit 62 7) [] <|
 .jump 1 [.v 1,.v 2,.v 4,k' 0,.v 3]
def qNi:Tree :=
 qD 6 4 <|
 xL 5 <|
 vB .lss 10 13 3 6 <|
 qB 7 (
  qD 6 4 <|
  xC 8 3 <|
  v7 7 1 8 3 <|
  vB .eql 22 23 10 0 <|
  qB 11 (
   qD 6 4 <|
   xC 12 3 <|
   v7 7 2 12 3 <|
   vB .eql 31 32 14 1 <|
   qB 15 (
    qD 6 4 <|
    xC 16 3 <|
    .bind (.elem 7 true 7 0) [.v 16,.v 3] <|
    gW 7 18 <|
    .bind (.lit 62 7) [.v 18] <|
    .bind (.app 62 7 64) [.v 2,.v 20] <|
    qF .add 15 1 3 <|
    .jump 1 [.v 0,.v 1,.v 21,.v 22,.v 4]) (
    qF .add 15 1 3 <|
    .jump 1 [.v 0,.v 1,.v 2,.v 16,.v 4])) (
   qF .add 15 1 3 <|
   .jump 1 [.v 0,.v 1,.v 2,.v 12,.v 4])) (
  .ret [.v 2])
def qNh:Nat->Tree
 | 0=>qNj
 | 1=>qNi
 | _=>.fail
def qQV:Nat->Pat
 | 1=>⟨[⟨.pure,false⟩,⟨.pure,true⟩],[(0,.v 0),(3,.v 1)],[],[]⟩
 | 2=>⟨[⟨.pure,false⟩,⟨.pure,true⟩,⟨.pure,true⟩],[(0,.v 0),(3,.v 1),(4,.v 2)],[],[]⟩
 | _=>⟨[],[],[],[]⟩
def qNg:Tree :=
 .jump 1 [.v 0,k' 0]
def qNf:Tree :=
 xL 0 <|
 vB .lss 5 7 1 2 <|
 qB 3 (
  .jump 2 [.v 0,.v 1,k' 0]) (
  aM false)
def qNe:Tree :=
 vB .lss 11 12 2 1 <|
 qB 3 (
  xC 0 1 <|
  v7 7 3 0 1 <|
  xC 0 2 <|
  v7 7 4 0 2 <|
  vB .lss 21 27 5 7 <|
  qB 8 (
   xC 0 2 <|
   v7 7 3 0 2 <|
   xC 0 1 <|
   v7 7 4 0 1 <|
   vB .lss 35 41 10 12 <|
   qB 13 (
    aM true) (
    qF .add 14 1 2 <|
    .jump 2 [.v 0,.v 1,.v 14])) (
   qF .add 14 1 2 <|
   .jump 2 [.v 0,.v 1,.v 9])) (
  qF .add 9 1 1 <|
  .jump 1 [.v 0,.v 4])
def cZ:Nat->Tree
 | 0=>qNg
 | 1=>qNf
 | 2=>qNe
 | _=>.fail
def qQT:Nat->Pat
 | 1=>⟨[⟨.pure,false⟩,⟨.pure,true⟩],[(0,.v 0),(3,.v 1)],[],[]⟩
 | 2=>⟨[⟨.pure,false⟩,⟨.pure,true⟩,⟨.pure,true⟩,⟨.pure,true⟩],[(0,.v 0),(3,.v 1),(4,.v 2),(5,.v 3)],[],[]⟩
 | _=>⟨[],[],[],[]⟩
def qNb:Tree :=
 .jump 1 [.v 0,k' 0]
def qNa:Tree :=
 xL 0 <|
 vB .lss 6 8 1 2 <|
 qB 3 (
  .jump 2 [.v 0,.v 1,.c (.bool false),k' 0]) (
  aM true)
def qM9:Tree :=
 xL 0 <|
 vB .lss 12 14 3 4 <|
 qB 5 (
  qB 2 (
   qF .add 16 1 3 <|
   .jump 2 [.v 0,.v 1,.c (.bool true),.v 6]) (
   xC 0 3 <|
   v7 7 5 0 3 <|
   vB .eql 24 25 7 1 <|
   qF .add 16 1 3 <|
   .jump 2 [.v 0,.v 1,.v 8,.v 9])) (
  .bind (.un .not 4) [.v 2] <|
  qB 6 (
   aM false) (
   qF .add 10 1 1 <|
   .jump 1 [.v 0,.v 7]))
def cY:Nat->Tree
 | 0=>qNb
 | 1=>qNa
 | 2=>qM9
 | _=>.fail
def qOo:Nat->Pat
 | _=>⟨[],[],[],[]⟩
def qIU:Tree :=
 gW 7 0 <|
 gW 7 1 <|
 qD 2 2 <|
 qD 2 3 <|
 vT 35 [.v 4,.v 5] 1 <|
 qD 3 2 <|
 qD 3 3 <|
 vT 35 [.v 7,.v 8] 1 <|
 qD 5 2 <|
 qD 5 3 <|
 vT 35 [.v 10,.v 11] 1 <|
 qSr 6 <|
 qSr 9 <|
 qSr 12 <|
 .bind (.lit 3 1) [.v 6,.v 9,.v 12] <|
 vT 34 [.v 16] 1 <|
 .ret [.v 17]
def qOU:Nat->Tree
 | 0=>qIU
 | _=>.fail
theorem yB:(rtQ Tryz.f3 2 qUi,
 hd Tryz.f3 2 qUi,
 nr Tryz.f3,
 rtQ Tryz.f4 0 qUg,
 hd Tryz.f4 0 qUg,
 nr Tryz.f4,
 rtQ Tryz.f5 3 qUf,
 hd Tryz.f5 3 qUf,
 nr Tryz.f5,
 rtQ Tryz.f7 2 qUe,
 hd Tryz.f7 2 qUe,
 nr Tryz.f7,
 rtQ Tryz.f8 2 qUc,
 hd Tryz.f8 2 qUc,
 nr Tryz.f8,
 rtQ Tryz.f9 2 qUb,
 hd Tryz.f9 2 qUb,
 nr Tryz.f9,
 rtQ Tryz.f10 1 qRw,
 hd Tryz.f10 1 qRw,
 nr Tryz.f10,
 rtQ Tryz.f11 1 qRv,
 hd Tryz.f11 1 qRv,
 nr Tryz.f11,
 rtQ Tryz.f13 1 qRu,
 hd Tryz.f13 1 qRu,
 nr Tryz.f13,
 rtQ Tryz.f14 1 qRs,
 hd Tryz.f14 1 qRs,
 nr Tryz.f14,
 rtQ Tryz.f19 1 qRq,
 hd Tryz.f19 1 qRq,
 nr Tryz.f19,
 rtQ Tryz.f20 2 qRp,
 hd Tryz.f20 2 qRp,
 nr Tryz.f20,
 rtQ Tryz.f21 2 qRo,
 hd Tryz.f21 2 qRo,
 nr Tryz.f21,
 rtQ Tryz.f22 2 qRn,
 hd Tryz.f22 2 qRn,
 nr Tryz.f22,
 rtQ Tryz.f27 1 qRm,
 hd Tryz.f27 1 qRm,
 nr Tryz.f27,
 rtQ Tryz.f34 1 qRl,
 hd Tryz.f34 1 qRl,
 nr Tryz.f34,
 rtQ Tryz.f35 2 qRk,
 hd Tryz.f35 2 qRk,
 nr Tryz.f35,
 rtQ Tryz.f37 2 qRi,
 hd Tryz.f37 2 qRi,
 nr Tryz.f37,
 rtQ Tryz.f38 2 qRh,
 hd Tryz.f38 2 qRh,
 nr Tryz.f38,
 rtQ Tryz.f39 2 qRg,
 hd Tryz.f39 2 qRg,
 nr Tryz.f39,
 rtQ Tryz.f40 3 qRe,
 hd Tryz.f40 3 qRe,
 nr Tryz.f40,
 rtQ Tryz.f49 1 qRb,
 hd Tryz.f49 1 qRb,
 nr Tryz.f49,
 rtQ Tryz.f50 2 qQ9,
 hd Tryz.f50 2 qQ9,
 nr Tryz.f50,
 rtQ Tryz.f51 2 qQ8,
 hd Tryz.f51 2 qQ8,
 nr Tryz.f51,
 rtQ Tryz.f61 1 qQ6,
 hd Tryz.f61 1 qQ6,
 nr Tryz.f61,
 rtQ Tryz.f63 1 qQ4,
 hd Tryz.f63 1 qQ4,
 nr Tryz.f63,
 rtQ Tryz.f81 2 qQY,
 hd Tryz.f81 2 qQY,
 nr Tryz.f81,
 rtQ Tryz.f84 3 qQW,
 hd Tryz.f84 3 qQW,
 nr Tryz.f84,
 rtQ Tryz.f85 1 qQV,
 hd Tryz.f85 1 qQV,
 nr Tryz.f85,
 rtQ Tryz.f88 1 qQT,
 hd Tryz.f88 1 qQT,
 nr Tryz.f88,
 rtQ Tryz.f106 2 qOo,
 hd Tryz.f106 2 qOo,
 nr Tryz.f106) =
 (qRf,[],false,qRa,[],false,qQ7,[(1,qOQ)],false,qQ1,[(1,qQ0)],false,qQS,[(1,qQR)],false,qQP,[(1,qQO)],false,qOm,[(1,qOl)],false,qOh,[(1,qOg),(2,qOf)],false,qOc,[(1,qIL),(2,qOb)],false,qN8,[],false,qN6,[(1,qN5),(2,qN4)],false,qN3,[(1,qN2)],false,qN0,[(1,qNZ)],false,qNX,[(1,qNW),(2,qNV),(3,qNU)],false,qNT,[(1,qF2),(2,qID)],false,qNS,[(1,qF1)],false,qNR,[],false,qNQ,[(1,qNP)],false,qNN,[(1,qNM)],false,qNK,[(1,qNJ)],false,qNH,[],false,qNC,[(1,qNB)],false,qIA,[],false,qNz,[(1,qNy)],false,qNx,[],false,qNt,[],false,qNn,[(1,qNm),(2,qNl)],false,qNj,[(1,qNi)],false,qNg,[(1,qNf),(2,qNe)],false,qNb,[(1,qNa),(2,qM9)],false,qIU,[],false):=by kernel_rfl
theorem u3 {ds:List D} {d:D} (hn:ds.length=2) (h:qH EE (Holds EE) qSV 0 ds d):Holds EE 3 ds d :=
 hv Tryz.func3 rfl yB (xB) hn h
theorem u4 {ds:List D} {d:D} (hn:ds.length=0) (h:qH EE (Holds EE) qSU 0 ds d):Holds EE 4 ds d :=
 hv Tryz.func4 rfl (wG (wG (wG yB))) (xB) hn h
theorem u5 {ds:List D} {d:D} (hn:ds.length=3) (h:qH EE (Holds EE) qOP 0 ds d):Holds EE 5 ds d :=
 hv Tryz.func5 rfl (wG (wG (yI yB))) (jY rfl <| xB) hn h
theorem u7 {ds:List D} {d:D} (hn:ds.length=2) (h:qH EE (Holds EE) qQZ 0 ds d):Holds EE 7 ds d :=
 hv Tryz.func7 rfl (wG (yI (yI yB))) (jY rfl <| xB) hn h
theorem u8 {ds:List D} {d:D} (hn:ds.length=2) (h:qH EE (Holds EE) qQQ 0 ds d):Holds EE 8 ds d :=
 hv Tryz.func8 rfl (yI (yI (yI yB))) (jY rfl <| xB) hn h
theorem u9 {ds:List D} {d:D} (hn:ds.length=2) (h:qH EE (Holds EE) qQN 0 ds d):Holds EE 9 ds d :=
 hv Tryz.func9 rfl (wG (wG (wG (yI (yI (yI yB)))))) (jY rfl <| xB) hn h
theorem qUk {ds:List D} {d:D} (hn:ds.length=1) (h:qH EE (Holds EE) qOk 0 ds d):Holds EE 10 ds d :=
 hv Tryz.func10 rfl (wG (wG (vE yB))) (jY rfl <| xB) hn h
theorem qU9 {ds:List D} {d:D} (hn:ds.length=1) (h:qH EE (Holds EE) qF4 0 ds d):Holds EE 11 ds d :=
 hv Tryz.func11 rfl (wG (yI (vE yB))) (jY rfl <| jY rfl <| xB) hn h
theorem qU8 {ds:List D} {d:D} (hn:ds.length=1) (h:qH EE (Holds EE) qRt 0 ds d):Holds EE 13 ds d :=
 hv Tryz.func13 rfl (yI (yI (vE yB))) (jY rfl <| jY rfl <| xB) hn h
theorem qSE {ds:List D} {d:D} (hn:ds.length=1) (h:qH EE (Holds EE) qRr 0 ds d):Holds EE 14 ds d :=
 hv Tryz.func14 rfl (wG (wG (wG (yI (yI (vE yB)))))) (xB) hn h
theorem qU7 {ds:List D} {d:D} (hn:ds.length=1) (h:qH EE (Holds EE) qF3 0 ds d):Holds EE 19 ds d :=
 hv Tryz.func19 rfl (wG (wG (yI (yI (yI (vE yB)))))) (jY rfl <| jY rfl <| xB) hn h
theorem qU6 {ds:List D} {d:D} (hn:ds.length=2) (h:qH EE (Holds EE) qN1 0 ds d):Holds EE 20 ds d :=
 hv Tryz.func20 rfl (wG (vE (vE yB))) (jY rfl <| xB) hn h
theorem qU5 {ds:List D} {d:D} (hn:ds.length=2) (h:qH EE (Holds EE) qNY 0 ds d):Holds EE 21 ds d :=
 hv Tryz.func21 rfl (yI (vE (vE yB))) (jY rfl <| xB) hn h
theorem qU4 {ds:List D} {d:D} (hn:ds.length=2) (h:qH EE (Holds EE) qA7 0 ds d):Holds EE 22 ds d :=
 hv Tryz.func22 rfl (wG (wG (wG (yI (vE (vE yB)))))) (jY rfl <| jY rfl <| jY rfl <| xB) hn h
theorem qSD {ds:List D} {d:D} (hn:ds.length=1) (h:qH EE (Holds EE) qCY 0 ds d):Holds EE 27 ds d :=
 hv Tryz.func27 rfl (wG (wG (yI (yI (vE (vE yB)))))) (jY rfl <| jY rfl <| xB) hn h
theorem qU3 {ds:List D} {d:D} (hn:ds.length=1) (h:qH EE (Holds EE) qIC 0 ds d):Holds EE 34 ds d :=
 hv Tryz.func34 rfl (wG (yI (yI (yI (vE (vE yB)))))) (jY rfl <| xB) hn h
theorem qU2 {ds:List D} {d:D} (hn:ds.length=2) (h:qH EE (Holds EE) qRj 0 ds d):Holds EE 35 ds d :=
 hv Tryz.func35 rfl (vE (vE (vE yB))) (xB) hn h
theorem qUj {ds:List D} {d:D} (hn:ds.length=2) (h:qH EE (Holds EE) qNO 0 ds d):Holds EE 37 ds d :=
 hv Tryz.func37 rfl (wG (wG (wG (vE (vE (vE yB)))))) (jY rfl <| xB) hn h
theorem qU1 {ds:List D} {d:D} (hn:ds.length=2) (h:qH EE (Holds EE) qNL 0 ds d):Holds EE 38 ds d :=
 hv Tryz.func38 rfl (wG (wG (yI (vE (vE (vE yB)))))) (jY rfl <| xB) hn h
theorem qU0 {ds:List D} {d:D} (hn:ds.length=2) (h:qH EE (Holds EE) qNI 0 ds d):Holds EE 39 ds d :=
 hv Tryz.func39 rfl (wG (yI (yI (vE (vE (vE yB)))))) (jY rfl <| xB) hn h
theorem qUZ {ds:List D} {d:D} (hn:ds.length=3) (h:qH EE (Holds EE) qRd 0 ds d):Holds EE 40 ds d :=
 hv Tryz.func40 rfl (yI (yI (yI (vE (vE (vE yB)))))) (xB) hn h
theorem qUh {ds:List D} {d:D} (hn:ds.length=1) (h:qH EE (Holds EE) qIB 0 ds d):Holds EE 49 ds d :=
 hv Tryz.func49 rfl (wG (wG (wG (yI (yI (yI (vE (vE (vE yB))))))))) (jY rfl <| xB) hn h
theorem qUX {ds:List D} {d:D} (hn:ds.length=2) (h:qH EE (Holds EE) qNA 0 ds d):Holds EE 50 ds d :=
 hv Tryz.func50 rfl (wG (wG (vE (vE (vE (vE yB)))))) (xB) hn h
theorem qUW {ds:List D} {d:D} (hn:ds.length=2) (h:qH EE (Holds EE) qF0 0 ds d):Holds EE 51 ds d :=
 hv Tryz.func51 rfl (wG (yI (vE (vE (vE (vE yB)))))) (jY rfl <| xB) hn h
theorem qUV {ds:List D} {d:D} (hn:ds.length=1) (h:qH EE (Holds EE) qQ5 0 ds d):Holds EE 61 ds d :=
 hv Tryz.func61 rfl (yI (yI (vE (vE (vE (vE yB)))))) (xB) hn h
theorem qUT {ds:List D} {d:D} (hn:ds.length=1) (h:qH EE (Holds EE) qQ3 0 ds d):Holds EE 63 ds d :=
 hv Tryz.func63 rfl (wG (wG (wG (yI (yI (vE (vE (vE (vE yB))))))))) (xB) hn h
theorem qUd {ds:List D} {d:D} (hn:ds.length=2) (h:qH EE (Holds EE) qCW 0 ds d):Holds EE 81 ds d :=
 hv Tryz.func81 rfl (wG (wG (yI (yI (yI (vE (vE (vE (vE yB))))))))) (jY rfl <| jY rfl <| xB) hn h
theorem qUQ {ds:List D} {d:D} (hn:ds.length=3) (h:qH EE (Holds EE) qNh 0 ds d):Holds EE 84 ds d :=
 hv Tryz.func84 rfl (wG (vE (vE (vE (vE (vE yB)))))) (jY rfl <| xB) hn h
theorem qUP {ds:List D} {d:D} (hn:ds.length=1) (h:qH EE (Holds EE) cZ 0 ds d):Holds EE 85 ds d :=
 hv Tryz.func85 rfl (yI (vE (vE (vE (vE (vE yB)))))) (jY rfl <| jY rfl <| xB) hn h
theorem qUN {ds:List D} {d:D} (hn:ds.length=1) (h:qH EE (Holds EE) cY 0 ds d):Holds EE 88 ds d :=
 hv Tryz.func88 rfl (wG (wG (wG (yI (vE (vE (vE (vE (vE yB))))))))) (jY rfl <| jY rfl <| xB) hn h
theorem qS2 {ds:List D} {d:D} (hn:ds.length=2) (h:qH EE (Holds EE) qOU 0 ds d):Holds EE 106 ds d :=
 hu Tryz.func106 rfl ((pI (wG (wG (yI (yI (vE (vE (vE (vE (vE yB)))))))))).1) ((pI (wG (wG (wG (yI (yI (vE (vE (vE (vE (vE yB))))))))))).1) ((yI (yI (yI (vE (vE (vE (vE (vE yB))))))))) (xB) hn h
end Go.Proofs.YthhlmoidofecpaaGreat
