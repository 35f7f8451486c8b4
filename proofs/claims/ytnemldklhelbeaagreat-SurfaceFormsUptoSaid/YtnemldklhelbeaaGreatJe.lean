/- Trees of functions. Conditions: none. -/
import Derived.Test.YtnemldklhelbeaaGreatJa
set_option linter.unusedVariables false
set_option linter.unusedSimpArgs false
namespace Go.Proofs.YtnemldklhelbeaaGreat
open Go Go.Am Go.Proofs
def qT3:Nat->Pat
 | 1=>⟨[⟨.pure,true⟩,⟨.pure,true⟩,⟨.pure,false⟩,⟨.pure,false⟩],[(2,.loc 0 0),(3,.loc 1 0),(21,.v 0),(22,.v 1)],[some (.whole (.v 2) 1),some (.whole (.v 3) 6)],[]⟩
 | _=>⟨[],[],[],[]⟩
def qPC:Tree :=
 jN 1 0 <|
 jN 6 1 <|
 zK 0 3 <|
 v4 4 <|
 vC .eql 8 0 5 <|
 qZ 6 (
  wP 1) (
  zK 1 3 <|
  v4 7 <|
  zK 0 3 <|
  v4 9 <|
  jF .neq 13 16 8 10 <|
  qZ 11 (
   wP 1) (
   zK 0 3 <|
   v4 12 <|
   .jump 1 [.v 13,k' 0,.v 2,.v 3]))
def qPB:Tree :=
 jF .lss 22 21 1 0 <|
 qZ 4 (
  zK 0 3 <|
  jQ 5 1 <|
  vL 1 0 5 1 <|
  jM 94 [.v 2,.v 7] 1 <|
  .bind (.un .not 4) [.v 8] <|
  qZ 9 (
   wP 19) (
   zK 1 3 <|
   jQ 10 1 <|
   vL 1 0 10 1 <|
   vC .neq 38 0 12 <|
   qZ 13 (
    zK 1 3 <|
    jQ 14 1 <|
    vL 1 0 14 1 <|
    jM 94 [.v 2,.v 16] 1 <|
    .bind (.un .not 4) [.v 17] <|
    qZ 18 (
     wP 19) (
     vC .add 22 1 1 <|
     .jump 1 [.v 0,.v 19,.v 2,.v 3])) (
    vC .add 22 1 1 <|
    .jump 1 [.v 0,.v 14,.v 2,.v 3]))) (
  zK 0 3 <|
  jM 95 [.v 5] 0 <|
  v4 6 <|
  zK 0 3 <|
  v4 8 <|
  jF .neq 55 58 7 9 <|
  qZ 10 (
   wP 8) (
   zK 2 3 <|
   v4 11 <|
   vC .gtr 62 2 12 <|
   qZ 13 (
    wP 5) (
    zK 3 3 <|
    v4 14 <|
    vC .gtr 67 2 15 <|
    qZ 16 (
     wP 5) (
     wP 0))))
def qJB:Nat->Tree
 | 0=>qPC
 | 1=>qPB
 | _=>.fail
def qUp:Nat->Pat
 | 1=>⟨[⟨.pure,true⟩,⟨.pure,false⟩],[(1,.loc 0 0),(3,.v 0)],[some (.whole (.v 1) 9)],[]⟩
 | _=>⟨[],[],[],[]⟩
def qQf:Tree :=
 jN 9 0 <|
 zK 4 1 <|
 v4 2 <|
 vC .gtr 7 12 3 <|
 qZ 4 (
  wP 11) (
  .jump 1 [k' 0,.v 1])
def qJH:Tree :=
 zK 4 1 <|
 v4 2 <|
 jF .lss 9 12 0 3 <|
 qZ 4 (
  .bind (.fld true 1 0) [.v 1] <|
  zK 4 1 <|
  jQ 6 0 <|
  .bind (.elem 6 true 6 0) [.v 6,.v 0] <|
  jM 63 [.v 5,.v 8] 1 <|
  .bind (.bin .neq 39 (.tmp 24) (K' 0)) [.v 9,k' 0] <|
  qZ 10 (
   .ret [.v 9]) (
   vC .add 14 1 0 <|
   .jump 1 [.v 11,.v 1])) (
  wP 0)
def qJG:Nat->Tree
 | 0=>qQf
 | 1=>qJH
 | _=>.fail
theorem qOF:(rt Tryz.f63 2 qT3,
 hd Tryz.f63 2 qT3,
 nr Tryz.f63,
 rt Tryz.f33 1 qUp,
 hd Tryz.f33 1 qUp,
 nr Tryz.f33) =
 (qPC,[(1,qPB)],false,qQf,[(1,qJH)],false):=by kernel_rfl
theorem qWc {ds:List D} {d:D} (hn:ds.length=2) (h:qG EE (qA EE) qJB 0 ds d):qA EE 63 ds d :=
 hv Tryz.func63 rfl qOF (jG rfl <| vO) hn h
theorem qXS {ds:List D} {d:D} (hn:ds.length=1) (h:qG EE (qA EE) qJG 0 ds d):qA EE 33 ds d :=
 hu Tryz.func33 rfl ((pI (vS (vS (vS qOF)))).1) ((pI (jC qOF)).1) ((vS (jC qOF))) (jG rfl <| vO) hn h
end Go.Proofs.YtnemldklhelbeaaGreat
namespace Go.Proofs.YtnemldklhelbeaaGreat
open Go Go.Am Go.Proofs
def qUI:Nat->Pat
 | _=>⟨[],[],[],[]⟩
def qQL:Tree :=
 jN 9 0 <|
 .bind (.fld true 1 0) [.v 1] <|
 jM 31 [.v 2] 1 <|
 .bind (.bin .neq 39 (.tmp 7) (K' 0)) [.v 3,k' 0] <|
 qZ 4 (
  .ret [.v 3]) (
  .bind (.fld true 1 0) [.v 1] <|
  .bind (.fld true 3 1) [.v 1] <|
  jM 32 [.v 5,.v 6] 1 <|
  .bind (.bin .neq 39 (.tmp 15) (K' 0)) [.v 7,k' 0] <|
  qZ 8 (
   .ret [.v 7]) (
   jM 33 [.v 1] 1 <|
   .bind (.bin .neq 39 (.tmp 20) (K' 0)) [.v 9,k' 0] <|
   qZ 10 (
    .ret [.v 9]) (
    .bind (.fld true 3 5) [.v 1] <|
    jM 34 [.v 11] 1 <|
    .bind (.bin .neq 39 (.tmp 26) (K' 0)) [.v 12,k' 0] <|
    qZ 13 (
     .ret [.v 12]) (
     .bind (.fld true 1 0) [.v 1] <|
     zK 8 1 <|
     jM 35 [.v 14,.v 15] 1 <|
     .bind (.bin .neq 39 (.tmp 34) (K' 0)) [.v 16,k' 0] <|
     qZ 17 (
      .ret [.v 16]) (
      zK 8 1 <|
      jM 36 [.v 18] 1 <|
      .bind (.bin .neq 39 (.tmp 40) (K' 0)) [.v 19,k' 0] <|
      qZ 20 (
       .ret [.v 19]) (
       zK 8 1 <|
       jM 37 [.v 21] 1 <|
       .ret [.v 22]))))))
def qUH:Nat->Tree
 | 0=>qQL
 | _=>.fail
def qUG:Nat->Pat
 | 1=>⟨[⟨.pure,true⟩,⟨.pure,false⟩],[(1,.loc 0 0),(3,.v 0)],[some (.whole (.v 1) 9)],[]⟩
 | _=>⟨[],[],[],[]⟩
def qQH:Tree :=
 jN 9 0 <|
 zK 0 1 <|
 v4 2 <|
 vC .gtr 7 8 3 <|
 qZ 4 (
  gM false) (
  zK 2 1 <|
  v4 5 <|
  vC .gtr 13 10 6 <|
  qZ 7 (
   gM false) (
   zK 4 1 <|
   v4 8 <|
   vC .gtr 19 2 9 <|
   qZ 10 (
    gM false) (
    zK 5 1 <|
    vC .gtr 25 3 11 <|
    qZ 12 (
     gM false) (
     zK 6 1 <|
     v4 13 <|
     vC .gtr 32 6 14 <|
     qZ 15 (
      gM false) (
      zK 7 1 <|
      v4 16 <|
      vC .gtr 39 3 17 <|
      qZ 18 (
       gM false) (
       zK 8 1 <|
       jM 38 [.v 19] 1 <|
       .bind (.un .not 4) [.v 20] <|
       qZ 21 (
        gM false) (
        .jump 1 [k' 0,.v 1])))))))
def qQG:Tree :=
 zK 4 1 <|
 v4 2 <|
 jF .lss 48 51 0 3 <|
 qZ 4 (
  zK 4 1 <|
  jQ 5 0 <|
  vL 6 0 5 0 <|
  v4 7 <|
  vC .gtr 61 8 8 <|
  qZ 9 (
   gM false) (
   vC .add 53 1 0 <|
   .jump 1 [.v 10,.v 1])) (
  jM 11 [.v 1] 1 <|
  .bind (.bin .eql 39 (.tmp 64) (K' 0)) [.v 5,k' 0] <|
  .ret [.v 6])
def qJN:Nat->Tree
 | 0=>qQH
 | 1=>qQG
 | _=>.fail
theorem qOE:(rt Tryz.f11 1 qUI,
 hd Tryz.f11 1 qUI,
 nr Tryz.f11,
 rt Tryz.f12 1 qUG,
 hd Tryz.f12 1 qUG,
 nr Tryz.f12) =
 (qQL,[],false,qQH,[(1,qQG)],false):=by kernel_rfl
theorem qZh {ds:List D} {d:D} (hn:ds.length=1) (h:qG EE (qA EE) qUH 0 ds d):qA EE 11 ds d :=
 hv Tryz.func11 rfl qOE (vO) hn h
theorem qZg {ds:List D} {d:D} (hn:ds.length=1) (h:qG EE (qA EE) qJN 0 ds d):qA EE 12 ds d :=
 hu Tryz.func12 rfl ((pI (vS (vS (vS qOE)))).1) ((pI (jC qOE)).1) ((vS (jC qOE))) (jG rfl <| vO) hn h
end Go.Proofs.YtnemldklhelbeaaGreat
namespace Go.Proofs.YtnemldklhelbeaaGreat
open Go Go.Am Go.Proofs
def qXP:Nat->Pat
 | _=>⟨[],[],[],[]⟩
def qT7:Tree :=
 jN 9 0 <|
 jN 1 1 <|
 jM 12 [.v 2] 1 <|
 .bind (.un .not 4) [.v 4] <|
 qZ 5 (
  jM 9 [] 1 <|
  .ret [.v 6]) (
  jM 13 [.v 3] 1 <|
  .bind (.un .not 4) [.v 6] <|
  qZ 7 (
   jM 9 [] 1 <|
   .ret [.v 8]) (
   jM 14 [.v 2,.v 3] 0 <|
   mR 0 8 <|
   mR 1 8 <|
   jM 15 [.v 2,.v 3] 0 <|
   mR 0 11 <|
   mR 1 11 <|
   jM 16 [.v 2,.v 3] 2 <|
   mR 0 14 <|
   mR 1 14 <|
   jM 17 [.v 2,.v 3] 2 <|
   mR 0 17 <|
   mR 1 17 <|
   jM 18 [.v 2,.v 3] 1 <|
   jM 19 [.v 2,.v 3] 1 <|
   .bind (.bin .eql 39 (.tmp 48) (.tmp 51)) [.v 20,.v 21] <|
   qZ 22 (
    jM 20 [.v 9,.v 12] 1 <|
    qZ 23 (
     .bind (.bin .eql 39 (.tmp 59) (.tmp 60)) [.v 10,.v 13] <|
     qZ 24 (
      .bind (.bin .eql 9 (.tmp 64) (.tmp 65)) [.v 15,.v 18] <|
      qZ 25 (
       .bind (.bin .eql 39 (.tmp 69) (.tmp 70)) [.v 16,.v 19] <|
       qZ 26 (
        jM 9 [] 1 <|
        .ret [.v 27]) (
        gM false)) (
       gM false)) (
      gM false)) (
     gM false)) (
    gM false)))
def qWd:Nat->Tree
 | 0=>qT7
 | _=>.fail
theorem qTd:(rt Tryz.f4 2 qXP,
 hd Tryz.f4 2 qXP,
 nr Tryz.f4) =
 (qT7,[],false):=by kernel_rfl
theorem u4 {ds:List D} {d:D} (hn:ds.length=2) (h:qG EE (qA EE) qWd 0 ds d):qA EE 4 ds d :=
 hu Tryz.func4 rfl ((pI qTd).1) ((pI (vS qTd)).1) ((vS (vS qTd))) (vO) hn h
end Go.Proofs.YtnemldklhelbeaaGreat
namespace Go.Proofs.YtnemldklhelbeaaGreat
open Go Go.Am Go.Proofs
def qQQ:Nat->Pat
 | 1=>⟨[⟨.pure,false⟩,⟨.pure,true⟩,⟨.pure,true⟩,⟨.pure,false⟩],[(1,.v 0),(2,.loc 0 0),(13,.v 1),(14,.v 2)],[some (.whole (.v 3) 1)],[]⟩
 | _=>⟨[],[],[],[]⟩
def qFm:Tree :=
 jN 1 0 <|
 v4 1 <|
 vC .eql 7 0 3 <|
 qZ 4 (
  wP 4) (
  v4 1 <|
  vC .gtr 10 24 5 <|
  qZ 6 (
   wP 5) (
   v4 1 <|
   .jump 1 [.v 1,.v 7,k' 0,.v 2]))
def qFl:Tree :=
 jF .lss 14 13 2 1 <|
 qZ 4 (
  jQ 0 2 <|
  vL 1 0 0 2 <|
  jM 94 [.v 3,.v 6] 1 <|
  .bind (.un .not 4) [.v 7] <|
  qZ 8 (
   wP 19) (
   vC .add 14 1 2 <|
   .jump 1 [.v 0,.v 1,.v 9,.v 3])) (
  wP 0)
def qFk:Nat->Tree
 | 0=>qFm
 | 1=>qFl
 | _=>.fail
theorem qTe:(rt Tryz.f112 2 qQQ,
 hd Tryz.f112 2 qQQ,
 nr Tryz.f112) =
 (qFm,[(1,qFl)],false):=by kernel_rfl
theorem qWo {ds:List D} {d:D} (hn:ds.length=2) (h:qG EE (qA EE) qFk 0 ds d):qA EE 112 ds d :=
 hu Tryz.func112 rfl ((pI qTe).1) ((pI (vS qTe)).1) ((vS (vS qTe))) (jG rfl <| vO) hn h
end Go.Proofs.YtnemldklhelbeaaGreat
namespace Go.Proofs.YtnemldklhelbeaaGreat
open Go Go.Am Go.Proofs
def qUB:Nat->Pat
 | _=>⟨[],[],[],[]⟩
def qQB:Tree :=
 jN 9 0 <|
 jN 1 1 <|
 jM 19 [.v 2,.v 3] 1 <|
 .bind (.bin .neq 39 (.tmp 11) (K' 0)) [.v 4,k' 0] <|
 qZ 5 (
  .ret [.c (.slice none 0 0),.v 4]) (
  .bind (.fld true 1 0) [.v 2] <|
  zK 4 2 <|
  jM 41 [.v 2,.v 3] 0 <|
  jM 40 [.v 6,.v 7,.v 8] 0 <|
  v4 9 <|
  vC .eql 23 0 10 <|
  qZ 11 (
   .ret [.c (.slice none 0 0),k' 23]) (
   .ret [.v 9,k' 0]))
def qUA:Nat->Tree
 | 0=>qQB
 | _=>.fail
def qUx:Nat->Pat
 | _=>⟨[],[],[],[]⟩
def qQz:Tree :=
 jN 9 0 <|
 jN 1 1 <|
 jM 15 [.v 2,.v 3] 0 <|
 mR 0 4 <|
 mR 1 4 <|
 .bind (.bin .neq 39 (.tmp 17) (K' 0)) [.v 6,k' 0] <|
 qZ 7 (
  .ret [.c (.string ⟨#[]⟩),.v 6]) (
  .bind (.fld true 3 1) [.v 2] <|
  jM 42 [.v 8,.v 5] 2 <|
  mR 0 9 <|
  mR 1 9 <|
  mR 2 9 <|
  .ret [.v 10,.v 12])
def qUw:Nat->Tree
 | 0=>qQz
 | _=>.fail
def qUu:Nat->Pat
 | 1=>⟨[⟨.pure,true⟩,⟨.pure,false⟩,⟨.pure,false⟩],[(2,.loc 0 0),(3,.loc 1 0),(5,.v 0)],[some (.whole (.v 1) 9),some (.whole (.v 2) 1)],[]⟩
 | _=>⟨[],[],[],[]⟩
def qQv:Tree :=
 jN 9 0 <|
 jN 1 1 <|
 zK 0 3 <|
 v4 4 <|
 vC .eql 9 0 5 <|
 qZ 6 (
  wP 4) (
  zK 0 3 <|
  v4 7 <|
  vC .gtr 13 4 8 <|
  qZ 9 (
   wP 11) (
   .jump 1 [k' 0,.v 2,.v 3]))
def qQu:Tree :=
 zK 0 2 <|
 v4 3 <|
 jF .lss 15 18 0 4 <|
 qZ 5 (
  zK 0 2 <|
  jQ 6 0 <|
  .bind (.elem 3 true 3 0) [.v 6,.v 0] <|
  jM 47 [.v 1,.v 8] 1 <|
  .bind (.bin .neq 39 (.tmp 29) (K' 0)) [.v 9,k' 0] <|
  qZ 10 (
   .ret [.v 9]) (
   vC .add 20 1 0 <|
   .jump 1 [.v 11,.v 1,.v 2])) (
  .bind (.fld true 3 5) [.v 1] <|
  jM 49 [.v 1,.v 2] 0 <|
  jM 48 [.v 6,.v 7] 1 <|
  .bind (.un .not 4) [.v 8] <|
  qZ 9 (
   wP 21) (
   jM 41 [.v 1,.v 2] 0 <|
   v4 10 <|
   vC .gtr 42 24 11 <|
   qZ 12 (
    wP 5) (
    wP 0)))
def qQt:Nat->Tree
 | 0=>qQv
 | 1=>qQu
 | _=>.fail
def qUr:Nat->Pat
 | 1=>⟨[⟨.pure,false⟩,⟨.pure,false⟩,⟨.pure,true⟩,⟨.pure,true⟩],[(0,.v 0),(1,.v 1),(4,.loc 0 0),(8,.v 2),(9,.v 3)],[some (.cells [k' 0,.c (.slice none 0 0),k' 0,.c (.slice none 0 0),k' 0,.c (.slice none 0 0),.c (.slice none 0 0),.c (.slice none 0 0)])],[]⟩
 | _=>⟨[],[],[],[]⟩
def qQo:Tree :=
 v4 0 <|
 .jump 1 [.v 0,.v 1,.v 2,k' 0]
def qQn:Tree :=
 jF .lss 9 8 3 2 <|
 qZ 4 (
  jQ 0 3 <|
  vL 8 0 0 3 <|
  jF .eql 16 17 6 1 <|
  qZ 7 (
   jQ 0 3 <|
   .bind (.elem 8 true 8 0) [.v 0,.v 3] <|
   jN 8 9 <|
   .ret [.v 10,.c (.bool true)]) (
   vC .add 9 1 3 <|
   .jump 1 [.v 0,.v 1,.v 2,.v 8])) (
  .ret [.agg [k' 0,.c (.slice none 0 0),k' 0,.c (.slice none 0 0),k' 0,.c (.slice none 0 0),.c (.slice none 0 0),.c (.slice none 0 0)],.c (.bool false)])
def qJI:Nat->Tree
 | 0=>qQo
 | 1=>qQn
 | _=>.fail
def qUl:Nat->Pat
 | 1=>⟨[⟨.pure,false⟩,⟨.pure,false⟩,⟨.pure,true⟩,⟨.pure,true⟩,⟨.pure,false⟩],[(1,.v 0),(2,.v 1),(3,.loc 0 0),(9,.v 2),(10,.v 3)],[some (.whole (.v 4) 1)],[]⟩
 | _=>⟨[],[],[],[]⟩
def qP2:Tree :=
 jN 1 0 <|
 v4 1 <|
 .jump 1 [.v 1,.v 2,.v 4,k' 0,.v 3]
def qP1:Tree :=
 jF .lss 10 9 3 2 <|
 qZ 5 (
  jQ 0 3 <|
  .bind (.elem 6 true 6 0) [.v 0,.v 3] <|
  jM 75 [.v 4,.v 7,.v 1] 0 <|
  vC .add 10 1 3 <|
  .jump 1 [.v 0,.v 8,.v 2,.v 9,.v 4]) (
  .ret [.v 1])
def qP0:Nat->Tree
 | 0=>qP2
 | 1=>qP1
 | _=>.fail
def qUk:Nat->Pat
 | 1=>⟨[⟨.fresh,true⟩,⟨.pure,true⟩,⟨.pure,false⟩,⟨.pure,false⟩],[(2,.loc 0 0),(3,.loc 1 0),(5,.v 0),(6,.v 1)],[some (.whole (.v 2) 9),some (.whole (.v 3) 1)],[]⟩
 | _=>⟨[],[],[],[]⟩
def qPZ:Tree :=
 jN 9 0 <|
 jN 1 1 <|
 .jump 1 [.c (.slice none 0 0),k' 0,.v 2,.v 3]
def qPY:Tree :=
 zK 0 3 <|
 v4 4 <|
 jF .lss 9 12 1 5 <|
 qZ 6 (
  zK 8 2 <|
  zK 0 3 <|
  jQ 8 1 <|
  vL 3 0 8 1 <|
  jM 23 [.v 7,.v 10] 0 <|
  mR 0 11 <|
  mR 1 11 <|
  jN 8 12 <|
  qZ 13 (
   zK 0 3 <|
   jQ 15 1 <|
   vL 3 1 15 1 <|
   jM 76 [.v 14,.v 17] 1 <|
   qZ 18 (
    jM 77 [.v 14] 0 <|
    zK 0 3 <|
    jQ 20 1 <|
    vL 3 1 20 1 <|
    jQ 19 22 <|
    vL 1 0 19 22 <|
    .bind (.app 3 1 8) [.v 0,.v 24] <|
    vC .add 14 1 1 <|
    .jump 1 [.v 25,.v 26,.v 2,.v 3]) (
    vC .add 14 1 1 <|
    .jump 1 [.v 0,.v 19,.v 2,.v 3])) (
   vC .add 14 1 1 <|
   .jump 1 [.v 0,.v 15,.v 2,.v 3])) (
  .ret [.v 0])
def qJE:Nat->Tree
 | 0=>qPZ
 | 1=>qPY
 | _=>.fail
def qUj:Nat->Pat
 | 1=>⟨[⟨.pure,false⟩,⟨.pure,true⟩,⟨.pure,true⟩,⟨.pure,false⟩],[(1,.v 0),(2,.loc 0 0),(7,.v 1),(8,.v 2)],[some (.whole (.v 3) 3)],[]⟩
 | 2=>⟨[⟨.pure,false⟩,⟨.pure,true⟩,⟨.pure,true⟩,⟨.pure,true⟩,⟨.pure,true⟩,⟨.pure,false⟩],[(1,.v 0),(2,.loc 0 0),(7,.v 1),(8,.v 2),(9,.v 3),(10,.v 4)],[some (.whole (.v 5) 3)],[]⟩
 | _=>⟨[],[],[],[]⟩
def qPX:Tree :=
 jN 3 0 <|
 v4 1 <|
 vC .eql 12 0 3 <|
 qZ 4 (
  .ret [.c (.string ⟨#[]⟩),k' 0,k' 4]) (
  v4 1 <|
  vC .gtr 15 24 5 <|
  qZ 6 (
   .ret [.c (.string ⟨#[]⟩),k' 0,k' 5]) (
   .jump 1 [.v 1,.c (.string ⟨#[]⟩),k' 0,.v 2]))
def qPW:Tree :=
 v4 0 <|
 jF .lss 17 19 2 4 <|
 qZ 5 (
  .jump 2 [.v 0,.v 1,.v 2,.c (.int .i64 (-1)),k' 0,.v 3]) (
  .ret [.v 1,k' 0,k' 0])
def qPV:Tree :=
 zK 1 5 <|
 v4 6 <|
 jF .lss 21 24 4 7 <|
 qZ 8 (
  zK 1 5 <|
  jQ 9 4 <|
  .bind (.elem 2 true 2 0) [.v 9,.v 4] <|
  jM 78 [.v 0,.v 2,.v 11] 1 <|
  qZ 12 (
   vC .lss 37 0 3 <|
   qZ 13 (
    vC .add 26 1 4 <|
    .jump 2 [.v 0,.v 1,.v 2,.v 4,.v 14,.v 5]) (
    zK 1 5 <|
    jQ 14 4 <|
    vL 2 1 14 4 <|
    v4 16 <|
    zK 1 5 <|
    jQ 18 3 <|
    vL 2 1 18 3 <|
    v4 20 <|
    jF .gtr 46 53 17 21 <|
    qZ 22 (
     vC .add 26 1 4 <|
     .jump 2 [.v 0,.v 1,.v 2,.v 4,.v 23,.v 5]) (
     vC .add 26 1 4 <|
     .jump 2 [.v 0,.v 1,.v 2,.v 3,.v 23,.v 5]))) (
   vC .add 26 1 4 <|
   .jump 2 [.v 0,.v 1,.v 2,.v 3,.v 13,.v 5])) (
  vC .lss 58 0 3 <|
  qZ 9 (
   .ret [.c (.string ⟨#[]⟩),.v 2,k' 20]) (
   zK 1 5 <|
   jQ 10 3 <|
   vL 2 0 10 3 <|
   .bind (.bin .add 9 (.tmp 61) (.tmp 67)) [.v 1,.v 12] <|
   zK 1 5 <|
   jQ 14 3 <|
   vL 2 1 14 3 <|
   v4 16 <|
   jF .add 69 76 2 17 <|
   .jump 1 [.v 0,.v 13,.v 18,.v 5]))
def qBQ:Nat->Tree
 | 0=>qPX
 | 1=>qPW
 | 2=>qPV
 | _=>.fail
def qUc:Nat->Pat
 | _=>⟨[],[],[],[]⟩
def qPP:Tree :=
 jN 9 0 <|
 jN 3 1 <|
 zK 8 2 <|
 zK 0 3 <|
 jM 23 [.v 4,.v 5] 0 <|
 mR 0 6 <|
 mR 1 6 <|
 jN 8 7 <|
 .bind (.un .not 4) [.v 8] <|
 qZ 10 (
  wP 9) (
  zK 1 3 <|
  jM 76 [.v 9,.v 11] 1 <|
  .bind (.un .not 4) [.v 12] <|
  qZ 13 (
   wP 2) (
   zK 2 3 <|
   vC .lss 23 0 14 <|
   qZ 15 (
    wP 22) (
    zK 2 3 <|
    zK 8 2 <|
    zK 0 3 <|
    jM 86 [.v 17,.v 18] 0 <|
    v4 19 <|
    jF .geq 27 33 16 20 <|
    qZ 21 (
     wP 22) (
     wP 0))))
def qUb:Nat->Tree
 | 0=>qPP
 | _=>.fail
def qUa:Nat->Pat
 | _=>⟨[],[],[],[]⟩
def qPO:Tree :=
 jN 3 0 <|
 jM 88 [.v 2,.v 1] 0 <|
 zK 2 2 <|
 jM 89 [.v 2,.v 4] 0 <|
 jM 87 [.v 3,.v 5] 1 <|
 .ret [.v 6]
def qT9:Nat->Tree
 | 0=>qPO
 | _=>.fail
def qT8:Nat->Pat
 | 1=>⟨[⟨.fresh,true⟩,⟨.pure,true⟩,⟨.pure,false⟩,⟨.pure,false⟩],[(2,.loc 0 0),(3,.loc 1 0),(5,.v 0),(6,.v 1)],[some (.whole (.v 2) 9),some (.whole (.v 3) 1)],[]⟩
 | _=>⟨[],[],[],[]⟩
def qPN:Tree :=
 jN 9 0 <|
 jN 1 1 <|
 .jump 1 [.c (.slice none 0 0),k' 0,.v 2,.v 3]
def qPM:Tree :=
 zK 0 3 <|
 v4 4 <|
 jF .lss 9 12 1 5 <|
 qZ 6 (
  zK 8 2 <|
  zK 0 3 <|
  jQ 8 1 <|
  vL 3 0 8 1 <|
  jM 23 [.v 7,.v 10] 0 <|
  mR 0 11 <|
  mR 1 11 <|
  jN 8 12 <|
  qZ 13 (
   zK 0 3 <|
   jQ 15 1 <|
   vL 3 1 15 1 <|
   jM 76 [.v 14,.v 17] 1 <|
   qZ 18 (
    zK 2 14 <|
    qBr 19 <|
    .bind (.lit 3 1) [.v 19] <|
    .bind (.app 3 1 8) [.v 0,.v 21] <|
    vC .add 14 1 1 <|
    .jump 1 [.v 22,.v 23,.v 2,.v 3]) (
    vC .add 14 1 1 <|
    .jump 1 [.v 0,.v 19,.v 2,.v 3])) (
   vC .add 14 1 1 <|
   .jump 1 [.v 0,.v 15,.v 2,.v 3])) (
  .ret [.v 0])
def qJD:Nat->Tree
 | 0=>qPN
 | 1=>qPM
 | _=>.fail
def qTX:Nat->Pat
 | 1=>⟨[⟨.pure,false⟩,⟨.pure,false⟩,⟨.pure,true⟩],[(0,.v 0),(1,.v 1),(5,.v 2)],[],[]⟩
 | _=>⟨[],[],[],[]⟩
def qPt:Tree :=
 .jump 1 [.v 0,.v 1,k' 0]
def qPs:Tree :=
 v4 0 <|
 jF .lss 6 8 2 3 <|
 qZ 4 (
  jQ 0 2 <|
  vL 8 0 0 2 <|
  jF .eql 16 17 6 1 <|
  qZ 7 (
   .ret [.v 2]) (
   vC .add 10 1 2 <|
   .jump 1 [.v 0,.v 1,.v 8])) (
  .ret [.c (.int .i64 (-1))])
def qPr:Nat->Tree
 | 0=>qPt
 | 1=>qPs
 | _=>.fail
def qTW:Nat->Pat
 | 1=>⟨[⟨.pure,false⟩,⟨.fresh,true⟩,⟨.pure,true⟩],[(0,.v 0),(5,.v 1),(6,.v 2)],[],[]⟩
 | _=>⟨[],[],[],[]⟩
def qPq:Tree :=
 .bind (.lit 3 1) [] <|
 jM 72 [.v 0,.v 1] 1 <|
 .jump 1 [.v 0,.v 2,.v 3]
def qPp:Tree :=
 vC .geq 11 0 2 <|
 qZ 3 (
  v4 1 <|
  v4 0 <|
  jF .leq 15 17 4 5 <|
  qZ 6 (
   jQ 0 2 <|
   vL 8 0 0 2 <|
   qBr 8 <|
   .bind (.lit 3 1) [.v 8] <|
   .bind (.app 3 1 8) [.v 1,.v 10] <|
   jQ 0 2 <|
   vL 8 4 0 2 <|
   vC .eql 39 0 13 <|
   qZ 14 (
    .ret [.v 11]) (
    jQ 0 2 <|
    vL 8 4 0 2 <|
    jM 72 [.v 0,.v 16] 1 <|
    .jump 1 [.v 0,.v 11,.v 17])) (
   .ret [.v 1])) (
  .ret [.v 1])
def qJA:Nat->Tree
 | 0=>qPq
 | 1=>qPp
 | _=>.fail
def qTU:Nat->Pat
 | 1=>⟨[⟨.pure,false⟩,⟨.fresh,true⟩,⟨.pure,true⟩,⟨.pure,true⟩,⟨.pure,false⟩,⟨.pure,false⟩],[(2,.v 0),(3,.loc 0 0),(4,.loc 1 0),(7,.v 1),(12,.v 2),(13,.v 3)],[some (.whole (.v 4) 1),some (.whole (.v 5) 6)],[]⟩
 | 2=>⟨[⟨.pure,false⟩,⟨.fresh,true⟩,⟨.pure,true⟩,⟨.pure,true⟩,⟨.pure,true⟩,⟨.pure,true⟩,⟨.pure,true⟩,⟨.pure,false⟩,⟨.pure,false⟩],[(2,.v 0),(3,.loc 0 0),(4,.loc 1 0),(7,.v 1),(8,.v 2),(9,.v 3),(12,.v 4),(13,.v 2),(27,.v 5),(28,.v 6)],[some (.whole (.v 7) 1),some (.whole (.v 8) 6)],[]⟩
 | _=>⟨[],[],[],[]⟩
def qPl:Tree :=
 jN 1 0 <|
 jN 6 1 <|
 v4 2 <|
 .jump 1 [.v 2,.c (.slice none 0 0),.v 5,k' 0,.v 3,.v 4]
def qPk:Tree :=
 jF .lss 13 12 3 2 <|
 qZ 6 (
  jQ 0 3 <|
  vL 1 0 0 3 <|
  jM 102 [.v 4,.v 5,.v 0,.v 3] 1 <|
  qZ 9 (
   zK 0 5 <|
   v4 10 <|
   .jump 2 [.v 0,.v 1,.v 3,.v 8,.v 2,.v 11,k' 0,.v 4,.v 5]) (
   vC .neq 47 0 8 <|
   qZ 10 (
    qBr 8 <|
    .bind (.lit 3 1) [.v 8] <|
    .bind (.app 3 1 8) [.v 1,.v 12] <|
    vC .add 13 1 3 <|
    .jump 1 [.v 0,.v 13,.v 2,.v 14,.v 4,.v 5]) (
    vC .add 13 1 3 <|
    .jump 1 [.v 0,.v 1,.v 2,.v 11,.v 4,.v 5]))) (
  .ret [.v 1])
def qPj:Tree :=
 jF .lss 28 27 6 5 <|
 qZ 9 (
  zK 0 8 <|
  jQ 10 6 <|
  vL 1 0 10 6 <|
  jQ 0 2 <|
  vL 1 0 0 2 <|
  jF .eql 35 39 12 14 <|
  qZ 15 (
   zK 1 8 <|
   jQ 16 6 <|
   vL 1 0 16 6 <|
   vC .add 28 1 6 <|
   .jump 2 [.v 0,.v 1,.v 2,.v 18,.v 4,.v 5,.v 19,.v 7,.v 8]) (
   vC .add 28 1 6 <|
   .jump 2 [.v 0,.v 1,.v 2,.v 3,.v 4,.v 5,.v 16,.v 7,.v 8])) (
  vC .neq 47 0 3 <|
  qZ 10 (
   qBr 3 <|
   .bind (.lit 3 1) [.v 3] <|
   .bind (.app 3 1 8) [.v 1,.v 12] <|
   vC .add 13 1 2 <|
   .jump 1 [.v 0,.v 13,.v 4,.v 14,.v 7,.v 8]) (
   vC .add 13 1 2 <|
   .jump 1 [.v 0,.v 1,.v 4,.v 11,.v 7,.v 8]))
def qJz:Nat->Tree
 | 0=>qPl
 | 1=>qPk
 | 2=>qPj
 | _=>.fail
def qTT:Nat->Pat
 | _=>⟨[],[],[],[]⟩
def qPi:Tree :=
 jN 8 0 <|
 vC .geq 5 0 1 <|
 qZ 3 (
  jM 77 [.v 2] 0 <|
  v4 4 <|
  jF .lss 8 11 1 5 <|
  .ret [.v 6]) (
  gM false)
def qTS:Nat->Tree
 | 0=>qPi
 | _=>.fail
def qTR:Nat->Pat
 | _=>⟨[],[],[],[]⟩
def qPh:Tree :=
 jN 8 0 <|
 zK 1 1 <|
 qBr 2 <|
 .bind (.lit 31 1) [.v 2] <|
 zK 3 1 <|
 .bind (.app 31 1 24) [.v 4,.v 5] <|
 .ret [.v 6]
def qTQ:Nat->Tree
 | 0=>qPh
 | _=>.fail
def qTP:Nat->Pat
 | 1=>⟨[⟨.pure,false⟩,⟨.pure,false⟩,⟨.pure,true⟩,⟨.pure,false⟩],[(0,.v 0),(1,.v 1),(5,.loc 0 0),(7,.v 2)],[some (.whole (.v 3) 2)],[]⟩
 | _=>⟨[],[],[],[]⟩
def qPg:Tree :=
 jN 2 2 <|
 v4 0 <|
 jF .sub 9 10 4 1 <|
 zK 1 3 <|
 v4 6 <|
 jF .lss 11 14 5 7 <|
 qZ 8 (
  gM false) (
  .jump 1 [.v 0,.v 1,k' 0,.v 3])
def qPf:Tree :=
 zK 1 3 <|
 v4 4 <|
 jF .lss 16 19 2 5 <|
 qZ 6 (
  jF .add 24 25 1 2 <|
  jQ 0 7 <|
  vL 1 0 0 7 <|
  zK 1 3 <|
  jQ 10 2 <|
  vL 1 0 10 2 <|
  jF .neq 28 33 9 12 <|
  qZ 13 (
   gM false) (
   vC .add 21 1 2 <|
   .jump 1 [.v 0,.v 1,.v 14,.v 3])) (
  gM true)
def qPe:Nat->Tree
 | 0=>qPg
 | 1=>qPf
 | _=>.fail
def qTF:Nat->Pat
 | 1=>⟨[⟨.pure,false⟩,⟨.pure,false⟩,⟨.pure,true⟩],[(0,.v 0),(5,.v 1),(6,.v 2)],[],[]⟩
 | _=>⟨[],[],[],[]⟩
def qO2:Tree :=
 jM 73 [.v 0,.v 1] 0 <|
 .jump 1 [.v 0,.v 2,k' 0]
def qO1:Tree :=
 v4 1 <|
 jF .lss 11 13 2 3 <|
 qZ 4 (
  jQ 1 2 <|
  vL 1 0 1 2 <|
  jM 72 [.v 0,.v 6] 1 <|
  jQ 0 7 <|
  .bind (.elem 8 true 8 0) [.v 0,.v 7] <|
  jN 8 9 <|
  zK 5 10 <|
  v4 11 <|
  vC .gtr 28 0 12 <|
  qZ 13 (
   zK 5 10 <|
   .ret [.v 14]) (
   vC .add 15 1 2 <|
   .jump 1 [.v 0,.v 1,.v 14])) (
  .ret [.c (.slice none 0 0)])
def qJx:Nat->Tree
 | 0=>qO2
 | 1=>qO1
 | _=>.fail
def qTE:Nat->Pat
 | 1=>⟨[⟨.pure,false⟩,⟨.pure,false⟩,⟨.pure,true⟩],[(0,.v 0),(1,.v 1),(5,.v 2)],[],[]⟩
 | _=>⟨[],[],[],[]⟩
def qO0:Tree :=
 .jump 1 [.v 0,.v 1,k' 0]
def qOZ:Tree :=
 v4 0 <|
 jF .lss 6 8 2 3 <|
 qZ 4 (
  jQ 0 2 <|
  vL 1 0 0 2 <|
  qZ 6 (
   jQ 1 2 <|
   vL 1 0 1 2 <|
   qZ 8 (
    gM true) (
    vC .add 10 1 2 <|
    .jump 1 [.v 0,.v 1,.v 9])) (
   vC .add 10 1 2 <|
   .jump 1 [.v 0,.v 1,.v 7])) (
  gM false)
def qOY:Nat->Tree
 | 0=>qO0
 | 1=>qOZ
 | _=>.fail
def qTD:Nat->Pat
 | 1=>⟨[⟨.pure,false⟩,⟨.pure,false⟩,⟨.pure,true⟩,⟨.pure,false⟩],[(1,.v 0),(2,.loc 0 0),(5,.v 1),(6,.v 2)],[some (.whole (.v 3) 3)],[]⟩
 | _=>⟨[],[],[],[]⟩
def qOX:Tree :=
 jN 3 0 <|
 .bind (.chk false 1) [k' 0] <|
 .bind (.lit 3 1) [k' 0] <|
 jM 89 [.v 2,.v 4] 0 <|
 .jump 1 [.v 1,.v 5,k' 0,.v 2]
def qOW:Tree :=
 v4 0 <|
 jF .lss 10 12 2 4 <|
 qZ 5 (
  jQ 0 2 <|
  vL 1 0 0 2 <|
  vC .lss 19 1 7 <|
  qZ 8 (
   zK 0 3 <|
   .bind (.mk 4 1 1 false [(.bool false)]) [.v 9] <|
   .ret [.v 10]) (
   jQ 0 2 <|
   vL 1 0 0 2 <|
   jM 106 [.v 3,.v 1,.v 10] 0 <|
   vC .add 14 1 2 <|
   .jump 1 [.v 0,.v 11,.v 12,.v 3])) (
  .ret [.v 1])
def qOV:Nat->Tree
 | 0=>qOX
 | 1=>qOW
 | _=>.fail
def qTC:Nat->Pat
 | 1=>⟨[⟨.pure,false⟩,⟨.fresh,true⟩,⟨.pure,true⟩],[(1,.v 0),(5,.v 1),(6,.v 2)],[],[]⟩
 | _=>⟨[],[],[],[]⟩
def qOU:Tree :=
 jN 3 0 <|
 zK 0 2 <|
 .bind (.mk 4 1 1 false [(.bool false)]) [.v 3] <|
 .jump 1 [.v 1,.v 4,k' 0]
def qOT:Tree :=
 v4 0 <|
 jF .lss 10 12 2 3 <|
 qZ 4 (
  jQ 0 2 <|
  vL 1 0 0 2 <|
  jQ 1 6 <|
  .bind (.set 1 false 1 0) [.v 1,.v 6,.c (.bool true)] <|
  vC .add 14 1 2 <|
  .jump 1 [.v 0,.v 8,.v 9]) (
  .ret [.v 1])
def qOS:Nat->Tree
 | 0=>qOU
 | 1=>qOT
 | _=>.fail
def qTB:Nat->Pat
 | _=>⟨[],[],[],[]⟩
def qOR:Tree :=
 jN 1 0 <|
 vC .geq 5 1 1 <|
 qZ 3 (
  zK 0 2 <|
  v4 4 <|
  jF .leq 8 11 1 5 <|
  .ret [.v 6]) (
  gM false)
def qTA:Nat->Tree
 | 0=>qOR
 | _=>.fail
def qQV:Nat->Pat
 | 1=>⟨[⟨.pure,false⟩,⟨.pure,false⟩,⟨.pure,true⟩,⟨.pure,true⟩,⟨.pure,true⟩,⟨.pure,false⟩,⟨.pure,false⟩],[(2,.v 0),(3,.v 1),(4,.loc 0 0),(5,.loc 1 0),(9,.v 2),(62,.v 3),(63,.v 4)],[some (.whole (.v 5) 1),some (.whole (.v 6) 6)],[]⟩
 | 2=>⟨[⟨.pure,false⟩,⟨.pure,false⟩,⟨.pure,true⟩,⟨.pure,true⟩,⟨.pure,false⟩,⟨.pure,false⟩],[(2,.v 0),(3,.v 1),(4,.loc 0 0),(5,.loc 1 0),(83,.v 2),(84,.v 3)],[some (.whole (.v 4) 1),some (.whole (.v 5) 6)],[]⟩
 | _=>⟨[],[],[],[]⟩
def qKb:Tree :=
 jN 1 0 <|
 jN 6 1 <|
 zK 2 5 <|
 v4 6 <|
 jF .sub 13 16 3 7 <|
 vC .add 18 1 3 <|
 zK 3 5 <|
 v4 10 <|
 jF .add 19 22 9 11 <|
 zK 0 5 <|
 jQ 2 3 <|
 vL 1 0 2 3 <|
 jM 119 [.v 13,.v 15] 1 <|
 .bind (.un .not 4) [.v 16] <|
 qZ 17 (
  gM false) (
  vC .lss 33 0 8 <|
  qZ 18 (
   gM false) (
   v4 2 <|
   jF .gtr 37 39 12 19 <|
   qZ 20 (
    gM false) (
    zK 4 5 <|
    qZ 21 (
     vC .neq 46 0 8 <|
     qZ 22 (
      gM false) (
      zK 5 5 <|
      qZ 23 (
       v4 2 <|
       jF .neq 54 56 12 24 <|
       qZ 25 (
        gM false) (
        zK 2 5 <|
        v4 26 <|
        .jump 1 [.v 2,.v 3,.v 8,.v 27,k' 0,.v 4,.v 5])) (
       zK 2 5 <|
       v4 24 <|
       .jump 1 [.v 2,.v 3,.v 8,.v 25,k' 0,.v 4,.v 5]))) (
     zK 5 5 <|
     qZ 22 (
      v4 2 <|
      jF .neq 54 56 12 23 <|
      qZ 24 (
       gM false) (
       zK 2 5 <|
       v4 25 <|
       .jump 1 [.v 2,.v 3,.v 8,.v 26,k' 0,.v 4,.v 5])) (
      zK 2 5 <|
      v4 23 <|
      .jump 1 [.v 2,.v 3,.v 8,.v 24,k' 0,.v 4,.v 5])))))
def qKa:Tree :=
 jF .lss 63 62 4 3 <|
 qZ 7 (
  jF .add 68 69 2 4 <|
  jQ 0 8 <|
  vL 1 0 0 8 <|
  zK 2 6 <|
  jQ 11 4 <|
  .bind (.elem 2 true 2 0) [.v 11,.v 4] <|
  jM 120 [.v 5,.v 10,.v 13] 1 <|
  .bind (.un .not 4) [.v 14] <|
  qZ 15 (
   gM false) (
   vC .add 63 1 4 <|
   .jump 1 [.v 0,.v 1,.v 2,.v 3,.v 16,.v 5,.v 6])) (
  zK 3 6 <|
  v4 8 <|
  .jump 2 [.v 0,.v 1,.v 9,k' 0,.v 5,.v 6])
def qJ9:Tree :=
 jF .lss 84 83 3 2 <|
 qZ 6 (
  vC .add 89 1 1 <|
  jF .add 90 91 7 3 <|
  jQ 0 8 <|
  vL 1 0 0 8 <|
  zK 3 5 <|
  jQ 11 3 <|
  .bind (.elem 2 true 2 0) [.v 11,.v 3] <|
  jM 120 [.v 4,.v 10,.v 13] 1 <|
  .bind (.un .not 4) [.v 14] <|
  qZ 15 (
   gM false) (
   vC .add 84 1 3 <|
   .jump 2 [.v 0,.v 1,.v 2,.v 16,.v 4,.v 5])) (
  gM true)
def tY:Nat->Tree
 | 0=>qKb
 | 1=>qKa
 | 2=>qJ9
 | _=>.fail
def qQT:Nat->Pat
 | 1=>⟨[⟨.pure,false⟩,⟨.pure,false⟩,⟨.fresh,true⟩,⟨.pure,true⟩,⟨.pure,false⟩],[(1,.v 0),(2,.v 1),(3,.loc 0 0),(7,.v 2),(8,.v 3)],[some (.whole (.v 4) 3)],[]⟩
 | _=>⟨[],[],[],[]⟩
def qJ5:Tree :=
 jN 3 0 <|
 zK 0 3 <|
 .bind (.mk 4 1 1 false [(.bool false)]) [.v 4] <|
 .jump 1 [.v 1,.v 2,.v 5,k' 0,.v 3]
def qJ4:Tree :=
 zK 1 4 <|
 v4 5 <|
 jF .lss 13 16 3 6 <|
 qZ 7 (
  zK 1 4 <|
  jQ 8 3 <|
  .bind (.elem 3 true 3 0) [.v 8,.v 3] <|
  jN 3 10 <|
  zK 0 11 <|
  jQ 0 12 <|
  vL 1 0 0 12 <|
  qZ 14 (
   vC .eql 31 0 1 <|
   qZ 15 (
    zK 2 11 <|
    jQ 2 16 <|
    .bind (.set 1 false 1 0) [.v 2,.v 16,.c (.bool true)] <|
    vC .add 18 1 3 <|
    .jump 1 [.v 0,.v 1,.v 18,.v 19,.v 4]) (
    zK 1 11 <|
    jF .eql 35 36 16 1 <|
    qZ 17 (
     zK 2 11 <|
     jQ 2 18 <|
     .bind (.set 1 false 1 0) [.v 2,.v 18,.c (.bool true)] <|
     vC .add 18 1 3 <|
     .jump 1 [.v 0,.v 1,.v 20,.v 21,.v 4]) (
     vC .add 18 1 3 <|
     .jump 1 [.v 0,.v 1,.v 2,.v 18,.v 4]))) (
   vC .add 18 1 3 <|
   .jump 1 [.v 0,.v 1,.v 2,.v 15,.v 4])) (
  .ret [.v 2])
def qJ3:Nat->Tree
 | 0=>qJ5
 | 1=>qJ4
 | _=>.fail
def qQM:Nat->Pat
 | 1=>⟨[⟨.pure,false⟩,⟨.pure,false⟩,⟨.pure,true⟩,⟨.pure,true⟩],[(0,.v 0),(1,.v 1),(7,.v 2),(8,.v 3)],[],[]⟩
 | _=>⟨[],[],[],[]⟩
def qJT:Tree :=
 v4 0 <|
 .jump 1 [.v 0,.v 1,.v 2,k' 0]
def qJS:Tree :=
 jF .lss 8 7 3 2 <|
 qZ 4 (
  jQ 0 3 <|
  vL 1 0 0 3 <|
  jF .eql 14 15 6 1 <|
  qZ 7 (
   gM true) (
   vC .add 8 1 3 <|
   .jump 1 [.v 0,.v 1,.v 2,.v 8])) (
  gM false)
def qJR:Nat->Tree
 | 0=>qJT
 | 1=>qJS
 | _=>.fail
def qQK:Nat->Pat
 | _=>⟨[],[],[],[]⟩
def qJQ:Tree :=
 jN 1 0 <|
 jN 2 2 <|
 jM 94 [.v 3,.v 1] 1 <|
 qZ 5 (
  zK 0 3 <|
  vC .sub 13 1 1 <|
  jQ 6 7 <|
  vL 2 1 6 7 <|
  zK 0 4 <|
  jF .and 17 19 9 10 <|
  zK 1 4 <|
  jF .eql 20 22 11 12 <|
  .ret [.v 13]) (
  gM false)
def qRs:Nat->Tree
 | 0=>qJQ
 | _=>.fail
theorem gE:(rt Tryz.f15 2 qUB,
 hd Tryz.f15 2 qUB,
 nr Tryz.f15,
 rt Tryz.f17 2 qUx,
 hd Tryz.f17 2 qUx,
 nr Tryz.f17,
 rt Tryz.f19 2 qUu,
 hd Tryz.f19 2 qUu,
 nr Tryz.f19,
 rt Tryz.f23 2 qUr,
 hd Tryz.f23 2 qUr,
 nr Tryz.f23,
 rt Tryz.f40 3 qUl,
 hd Tryz.f40 3 qUl,
 nr Tryz.f40,
 rt Tryz.f41 2 qUk,
 hd Tryz.f41 2 qUk,
 nr Tryz.f41,
 rt Tryz.f42 2 qUj,
 hd Tryz.f42 2 qUj,
 nr Tryz.f42,
 rt Tryz.f47 2 qUc,
 hd Tryz.f47 2 qUc,
 nr Tryz.f47,
 rt Tryz.f48 2 qUa,
 hd Tryz.f48 2 qUa,
 nr Tryz.f48,
 rt Tryz.f49 2 qT8,
 hd Tryz.f49 2 qT8,
 nr Tryz.f49,
 rt Tryz.f72 2 qTX,
 hd Tryz.f72 2 qTX,
 nr Tryz.f72,
 rt Tryz.f73 2 qTW,
 hd Tryz.f73 2 qTW,
 nr Tryz.f73,
 rt Tryz.f75 3 qTU,
 hd Tryz.f75 3 qTU,
 nr Tryz.f75,
 rt Tryz.f76 2 qTT,
 hd Tryz.f76 2 qTT,
 nr Tryz.f76,
 rt Tryz.f77 1 qTR,
 hd Tryz.f77 1 qTR,
 nr Tryz.f77,
 rt Tryz.f78 3 qTP,
 hd Tryz.f78 3 qTP,
 nr Tryz.f78,
 rt Tryz.f86 2 qTF,
 hd Tryz.f86 2 qTF,
 nr Tryz.f86,
 rt Tryz.f87 2 qTE,
 hd Tryz.f87 2 qTE,
 nr Tryz.f87,
 rt Tryz.f88 2 qTD,
 hd Tryz.f88 2 qTD,
 nr Tryz.f88,
 rt Tryz.f89 2 qTC,
 hd Tryz.f89 2 qTC,
 nr Tryz.f89,
 rt Tryz.f94 2 qTB,
 hd Tryz.f94 2 qTB,
 nr Tryz.f94,
 rt Tryz.f102 4 qQV,
 hd Tryz.f102 4 qQV,
 nr Tryz.f102,
 rt Tryz.f106 3 qQT,
 hd Tryz.f106 3 qQT,
 nr Tryz.f106,
 rt Tryz.f119 2 qQM,
 hd Tryz.f119 2 qQM,
 nr Tryz.f119,
 rt Tryz.f120 3 qQK,
 hd Tryz.f120 3 qQK,
 nr Tryz.f120) =
 (qQB,[],false,qQz,[],false,qQv,[(1,qQu)],false,qQo,[(1,qQn)],false,qP2,[(1,qP1)],false,qPZ,[(1,qPY)],false,qPX,[(1,qPW),(2,qPV)],false,qPP,[],false,qPO,[],false,qPN,[(1,qPM)],false,qPt,[(1,qPs)],false,qPq,[(1,qPp)],false,qPl,[(1,qPk),(2,qPj)],false,qPi,[],false,qPh,[],false,qPg,[(1,qPf)],false,qO2,[(1,qO1)],false,qO0,[(1,qOZ)],false,qOX,[(1,qOW)],false,qOU,[(1,qOT)],false,qOR,[],false,qKb,[(1,qKa),(2,qJ9)],false,qJ5,[(1,qJ4)],false,qJT,[(1,qJS)],false,qJQ,[],false):=by kernel_rfl
theorem qZd {ds:List D} {d:D} (hn:ds.length=2) (h:qG EE (qA EE) qUA 0 ds d):qA EE 15 ds d :=
 hv Tryz.func15 rfl gE (vO) hn h
theorem qXT {ds:List D} {d:D} (hn:ds.length=2) (h:qG EE (qA EE) qUw 0 ds d):qA EE 17 ds d :=
 hv Tryz.func17 rfl (vS (vS (vS gE))) (vO) hn h
theorem qZb {ds:List D} {d:D} (hn:ds.length=2) (h:qG EE (qA EE) qQt 0 ds d):qA EE 19 ds d :=
 hv Tryz.func19 rfl (vS (vS (jC gE))) (jG rfl <| vO) hn h
theorem qY8 {ds:List D} {d:D} (hn:ds.length=2) (h:qG EE (qA EE) qJI 0 ds d):qA EE 23 ds d :=
 hv Tryz.func23 rfl (vS (jC (jC gE))) (jG rfl <| vO) hn h
theorem qY5 {ds:List D} {d:D} (hn:ds.length=3) (h:qG EE (qA EE) qP0 0 ds d):qA EE 40 ds d :=
 hv Tryz.func40 rfl (jC (jC (jC gE))) (jG rfl <| vO) hn h
theorem qY4 {ds:List D} {d:D} (hn:ds.length=2) (h:qG EE (qA EE) qJE 0 ds d):qA EE 41 ds d :=
 hv Tryz.func41 rfl (vS (vS (vS (jC (jC (jC gE)))))) (jG rfl <| vO) hn h
theorem qY3 {ds:List D} {d:D} (hn:ds.length=2) (h:qG EE (qA EE) qBQ 0 ds d):qA EE 42 ds d :=
 hv Tryz.func42 rfl (vS (vS (qX gE))) (jG rfl <| jG rfl <| vO) hn h
theorem qYZ {ds:List D} {d:D} (hn:ds.length=2) (h:qG EE (qA EE) qUb 0 ds d):qA EE 47 ds d :=
 hv Tryz.func47 rfl (vS (jC (qX gE))) (vO) hn h
theorem qYY {ds:List D} {d:D} (hn:ds.length=2) (h:qG EE (qA EE) qT9 0 ds d):qA EE 48 ds d :=
 hv Tryz.func48 rfl (jC (jC (qX gE))) (vO) hn h
theorem qYX {ds:List D} {d:D} (hn:ds.length=2) (h:qG EE (qA EE) qJD 0 ds d):qA EE 49 ds d :=
 hv Tryz.func49 rfl (vS (vS (vS (jC (jC (qX gE)))))) (jG rfl <| vO) hn h
theorem qYR {ds:List D} {d:D} (hn:ds.length=2) (h:qG EE (qA EE) qPr 0 ds d):qA EE 72 ds d :=
 hv Tryz.func72 rfl (vS (vS (jC (jC (jC (qX gE)))))) (jG rfl <| vO) hn h
theorem qYQ {ds:List D} {d:D} (hn:ds.length=2) (h:qG EE (qA EE) qJA 0 ds d):qA EE 73 ds d :=
 hv Tryz.func73 rfl (vS (qX (qX gE))) (jG rfl <| vO) hn h
theorem qYO {ds:List D} {d:D} (hn:ds.length=3) (h:qG EE (qA EE) qJz 0 ds d):qA EE 75 ds d :=
 hv Tryz.func75 rfl (jC (qX (qX gE))) (jG rfl <| jG rfl <| vO) hn h
theorem qYN {ds:List D} {d:D} (hn:ds.length=2) (h:qG EE (qA EE) qTS 0 ds d):qA EE 76 ds d :=
 hv Tryz.func76 rfl (vS (vS (vS (jC (qX (qX gE)))))) (vO) hn h
theorem qYM {ds:List D} {d:D} (hn:ds.length=1) (h:qG EE (qA EE) qTQ 0 ds d):qA EE 77 ds d :=
 hv Tryz.func77 rfl (vS (vS (jC (jC (qX (qX gE)))))) (vO) hn h
theorem qYL {ds:List D} {d:D} (hn:ds.length=3) (h:qG EE (qA EE) qPe 0 ds d):qA EE 78 ds d :=
 hv Tryz.func78 rfl (vS (jC (jC (jC (qX (qX gE)))))) (jG rfl <| vO) hn h
theorem qYE {ds:List D} {d:D} (hn:ds.length=2) (h:qG EE (qA EE) qJx 0 ds d):qA EE 86 ds d :=
 hv Tryz.func86 rfl (qX (qX (qX gE))) (jG rfl <| vO) hn h
theorem qYD {ds:List D} {d:D} (hn:ds.length=2) (h:qG EE (qA EE) qOY 0 ds d):qA EE 87 ds d :=
 hv Tryz.func87 rfl (vS (vS (vS (qX (qX (qX gE)))))) (jG rfl <| vO) hn h
theorem qYC {ds:List D} {d:D} (hn:ds.length=2) (h:qG EE (qA EE) qOV 0 ds d):qA EE 88 ds d :=
 hv Tryz.func88 rfl (vS (vS (jC (qX (qX (qX gE)))))) (jG rfl <| vO) hn h
theorem qYB {ds:List D} {d:D} (hn:ds.length=2) (h:qG EE (qA EE) qOS 0 ds d):qA EE 89 ds d :=
 hv Tryz.func89 rfl (vS (jC (jC (qX (qX (qX gE)))))) (jG rfl <| vO) hn h
theorem qYA {ds:List D} {d:D} (hn:ds.length=2) (h:qG EE (qA EE) qTA 0 ds d):qA EE 94 ds d :=
 hv Tryz.func94 rfl (jC (jC (jC (qX (qX (qX gE)))))) (vO) hn h
theorem qWt {ds:List D} {d:D} (hn:ds.length=4) (h:qG EE (qA EE) tY 0 ds d):qA EE 102 ds d :=
 hv Tryz.func102 rfl (vS (vS (vS (jC (jC (jC (qX (qX (qX gE))))))))) (jG rfl <| jG rfl <| vO) hn h
theorem qWq {ds:List D} {d:D} (hn:ds.length=3) (h:qG EE (qA EE) qJ3 0 ds d):qA EE 106 ds d :=
 hv Tryz.func106 rfl (vS (vS (qX (qX (qX (qX gE)))))) (jG rfl <| vO) hn h
theorem qWk {ds:List D} {d:D} (hn:ds.length=2) (h:qG EE (qA EE) qJR 0 ds d):qA EE 119 ds d :=
 hv Tryz.func119 rfl (vS (jC (qX (qX (qX (qX gE)))))) (jG rfl <| vO) hn h
theorem qWj {ds:List D} {d:D} (hn:ds.length=3) (h:qG EE (qA EE) qRs 0 ds d):qA EE 120 ds d :=
 hu Tryz.func120 rfl ((pI (jC (jC (qX (qX (qX (qX gE))))))).1) ((pI (vS (jC (jC (qX (qX (qX (qX gE)))))))).1) ((vS (vS (jC (jC (qX (qX (qX (qX gE))))))))) (vO) hn h
end Go.Proofs.YtnemldklhelbeaaGreat
namespace Go.Proofs.YtnemldklhelbeaaGreat
open Go Go.Am Go.Proofs
def qUo:Nat->Pat
 | 1=>⟨[⟨.pure,true⟩,⟨.pure,false⟩],[(1,.loc 0 0),(3,.v 0)],[some (.whole (.v 1) 3)],[]⟩
 | 2=>⟨[⟨.pure,true⟩,⟨.pure,true⟩,⟨.pure,false⟩,⟨.pure,true⟩,⟨.pure,true⟩,⟨.pure,true⟩,⟨.pure,false⟩],[(1,.loc 0 0),(3,.v 0),(4,.loc 1 0),(5,.v 1),(38,.v 2),(39,.loc 1 2),(40,.v 3),(41,.v 4),(42,.c (.bool false)),(48,.loc 1 1),(49,.v 5),(50,.c (.bool false))],[some (.whole (.v 2) 3),some (.whole (.v 6) 3)],[]⟩
 | 3=>⟨[⟨.pure,true⟩,⟨.pure,false⟩],[(1,.loc 0 0),(6,.v 0)],[some (.whole (.v 1) 3)],[]⟩
 | 4=>⟨[⟨.pure,true⟩,⟨.pure,false⟩],[(1,.loc 0 0),(7,.v 0)],[some (.whole (.v 1) 3)],[]⟩
 | _=>⟨[],[],[],[]⟩
def qQe:Tree :=
 jN 3 0 <|
 zK 0 1 <|
 vC .lss 9 1 2 <|
 qZ 3 (
  wP 2) (
  zK 0 1 <|
  vC .gtr 13 24 4 <|
  qZ 5 (
   wP 2) (
   zK 1 1 <|
   v4 6 <|
   vC .gtr 18 200 7 <|
   qZ 8 (
    wP 11) (
    .jump 1 [k' 0,.v 1])))
def qQd:Tree :=
 zK 1 1 <|
 v4 2 <|
 jF .lss 20 23 0 3 <|
 qZ 4 (
  zK 1 1 <|
  jQ 5 0 <|
  .bind (.elem 3 true 3 0) [.v 5,.v 0] <|
  jN 3 7 <|
  zK 0 8 <|
  jM 64 [.v 1,.v 9] 1 <|
  .bind (.un .not 4) [.v 10] <|
  qZ 11 (
   wP 2) (
   zK 2 8 <|
   jM 64 [.v 1,.v 12] 1 <|
   .bind (.un .not 4) [.v 13] <|
   qZ 14 (
    wP 2) (
    zK 1 8 <|
    vC .lss 45 1 15 <|
    qZ 16 (
     wP 21) (
     zK 1 8 <|
     vC .gtr 49 20 17 <|
     qZ 18 (
      wP 21) (
      .jump 2 [.v 0,k' 0,.v 1,.v 12,.v 13,.v 17,.v 8]))))) (
  .jump 3 [k' 1,.v 1])
def qQc:Tree :=
 jF .lss 52 53 1 0 <|
 qZ 7 (
  zK 1 2 <|
  jQ 8 1 <|
  .bind (.elem 3 true 3 0) [.v 8,.v 1] <|
  .bind (.bin .eql 122 (.tmp 61) (.tmp 62)) [.v 10,.v 6] <|
  qZ 11 (
   wP 8) (
   vC .add 55 1 1 <|
   .jump 2 [.v 0,.v 12,.v 2,.v 3,.v 4,.v 5,.v 6])) (
  vC .add 25 1 0 <|
  .jump 1 [.v 8,.v 2])
def qQb:Tree :=
 zK 2 1 <|
 v4 2 <|
 jF .lss 64 67 0 3 <|
 qZ 4 (
  zK 2 1 <|
  jQ 5 0 <|
  vL 1 0 5 0 <|
  zK 2 1 <|
  vC .sub 78 1 0 <|
  jQ 8 9 <|
  vL 1 0 8 9 <|
  jF .leq 75 81 7 11 <|
  qZ 12 (
   wP 10) (
   vC .add 69 1 0 <|
   .jump 3 [.v 13,.v 1])) (
  .jump 4 [k' 0,.v 1])
def qQa:Tree :=
 zK 2 1 <|
 v4 2 <|
 jF .lss 83 86 0 3 <|
 qZ 4 (
  zK 2 1 <|
  jQ 5 0 <|
  vL 1 0 5 0 <|
  jM 64 [.v 1,.v 7] 1 <|
  .bind (.un .not 4) [.v 8] <|
  qZ 9 (
   wP 2) (
   vC .add 88 1 0 <|
   .jump 4 [.v 10,.v 1])) (
  wP 0)
def b8:Nat->Tree
 | 0=>qQe
 | 1=>qQd
 | 2=>qQc
 | 3=>qQb
 | 4=>qQa
 | _=>.fail
def qT2:Nat->Pat
 | _=>⟨[],[],[],[]⟩
def qPA:Tree :=
 jN 3 0 <|
 vC .geq 5 0 1 <|
 qZ 3 (
  zK 0 2 <|
  jF .lss 8 10 1 4 <|
  .ret [.v 5]) (
  gM false)
def qT1:Nat->Tree
 | 0=>qPA
 | _=>.fail
def qUn:Nat->Pat
 | 1=>⟨[⟨.pure,false⟩,⟨.pure,true⟩,⟨.pure,true⟩,⟨.pure,false⟩],[(1,.v 0),(2,.loc 0 0),(13,.v 1),(14,.v 2)],[some (.whole (.v 3) 1)],[]⟩
 | 2=>⟨[⟨.pure,false⟩,⟨.pure,true⟩,⟨.pure,true⟩],[(1,.v 0),(44,.v 1),(45,.v 2)],[],[]⟩
 | 3=>⟨[⟨.pure,false⟩,⟨.pure,true⟩,⟨.pure,true⟩,⟨.pure,false⟩,⟨.pure,false⟩,⟨.pure,false⟩,⟨.pure,false⟩,⟨.pure,false⟩,⟨.pure,true⟩,⟨.pure,true⟩],[(1,.v 0),(7,.v 1),(44,.v 2),(45,.v 1),(55,.v 3),(56,.v 3),(57,.v 4),(60,.v 5),(61,.v 6),(62,.v 7),(69,.v 8),(70,.v 9)],[],[]⟩
 | _=>⟨[],[],[],[]⟩
def qP9:Tree :=
 jN 1 0 <|
 v4 1 <|
 vC .gtr 10 100 3 <|
 qZ 4 (
  wP 11) (
  v4 1 <|
  .jump 1 [.v 1,.v 5,k' 0,.v 2])
def qP8:Tree :=
 jF .lss 14 13 2 1 <|
 qZ 4 (
  jQ 0 2 <|
  .bind (.elem 8 true 8 0) [.v 0,.v 2] <|
  jM 65 [.v 3,.v 6] 1 <|
  .bind (.bin .neq 39 (.tmp 23) (K' 0)) [.v 7,k' 0] <|
  qZ 8 (
   .ret [.v 7]) (
   vC .gtr 26 0 2 <|
   qZ 9 (
    jQ 0 2 <|
    vL 8 0 0 2 <|
    vC .sub 35 1 2 <|
    jQ 0 12 <|
    vL 8 0 0 12 <|
    jF .leq 33 39 11 14 <|
    qZ 15 (
     wP 10) (
     vC .add 14 1 2 <|
     .jump 1 [.v 0,.v 1,.v 16,.v 3])) (
    vC .add 14 1 2 <|
    .jump 1 [.v 0,.v 1,.v 10,.v 3]))) (
  v4 0 <|
  .jump 2 [.v 0,.v 5,k' 0])
def qP7:Tree :=
 jF .lss 45 44 2 1 <|
 qZ 3 (
  jQ 0 2 <|
  vL 8 4 0 2 <|
  vC .neq 52 0 5 <|
  qZ 6 (
   jQ 0 2 <|
   vL 8 4 0 2 <|
   jM 66 [.v 0,.v 8] 1 <|
   .bind (.un .not 4) [.v 9] <|
   qZ 10 (
    wP 9) (
    jQ 0 2 <|
    vL 8 6 0 2 <|
    v4 12 <|
    .jump 3 [.v 0,.v 2,.v 1,.v 0,.v 2,.v 8,.v 9,.c (.bool false),.v 13,k' 0])) (
   jQ 0 2 <|
   vL 8 6 0 2 <|
   v4 8 <|
   .jump 3 [.v 0,.v 2,.v 1,.tup [],.tup [],.tup [],.tup [],.tup [],.v 9,k' 0])) (
  wP 0)
def qP6:Tree :=
 jF .lss 70 69 9 8 <|
 qZ 10 (
  jQ 0 1 <|
  vL 8 6 0 1 <|
  jQ 12 9 <|
  vL 2 1 12 9 <|
  jM 66 [.v 0,.v 14] 1 <|
  .bind (.un .not 4) [.v 15] <|
  qZ 16 (
   wP 9) (
   vC .add 70 1 9 <|
   .jump 3 [.v 0,.v 1,.v 2,.v 3,.v 4,.v 5,.v 6,.v 7,.v 8,.v 17])) (
  vC .add 45 1 1 <|
  .jump 2 [.v 0,.v 2,.v 11])
def qJF:Nat->Tree
 | 0=>qP9
 | 1=>qP8
 | 2=>qP7
 | 3=>qP6
 | _=>.fail
def qT0:Nat->Pat
 | _=>⟨[],[],[],[]⟩
def qPz:Tree :=
 jN 1 0 <|
 jN 8 1 <|
 jM 96 [.v 2,.v 3] 1 <|
 .bind (.bin .neq 39 (.tmp 11) (K' 0)) [.v 4,k' 0] <|
 qZ 5 (
  .ret [.v 4]) (
  jM 97 [.v 3] 1 <|
  .bind (.bin .neq 39 (.tmp 16) (K' 0)) [.v 6,k' 0] <|
  qZ 7 (
   .ret [.v 6]) (
   jM 98 [.v 3] 1 <|
   .bind (.bin .neq 39 (.tmp 21) (K' 0)) [.v 8,k' 0] <|
   qZ 9 (
    .ret [.v 8]) (
    zK 7 3 <|
    jM 99 [.v 10,k' 12] 1 <|
    .ret [.v 11])))
def qTZ:Nat->Tree
 | 0=>qPz
 | _=>.fail
def qTy:Nat->Pat
 | 1=>⟨[⟨.pure,true⟩,⟨.pure,false⟩,⟨.pure,false⟩],[(2,.loc 0 0),(3,.loc 1 0),(6,.v 0)],[some (.whole (.v 1) 1),some (.whole (.v 2) 8)],[]⟩
 | 2=>⟨[⟨.pure,true⟩,⟨.pure,true⟩,⟨.pure,false⟩,⟨.pure,false⟩],[(2,.loc 0 0),(3,.loc 1 0),(6,.v 0),(8,.v 1)],[some (.whole (.v 2) 1),some (.whole (.v 3) 8)],[]⟩
 | _=>⟨[],[],[],[]⟩
def qOO:Tree :=
 jN 1 0 <|
 jN 8 1 <|
 zK 0 3 <|
 jM 111 [.v 4] 1 <|
 .bind (.un .not 4) [.v 5] <|
 qZ 6 (
  wP 2) (
  zK 1 3 <|
  jM 112 [.v 2,.v 7] 1 <|
  .bind (.bin .neq 39 (.tmp 17) (K' 0)) [.v 8,k' 0] <|
  qZ 9 (
   .ret [.v 8]) (
   zK 2 3 <|
   vC .lss 21 1 10 <|
   qZ 11 (
    wP 21) (
    zK 2 3 <|
    vC .gtr 25 20 12 <|
    qZ 13 (
     wP 21) (
     zK 3 3 <|
     v4 14 <|
     vC .gtr 30 3 15 <|
     qZ 16 (
      wP 11) (
      .jump 1 [k' 0,.v 2,.v 3])))))
def qON:Tree :=
 zK 3 2 <|
 v4 3 <|
 jF .lss 32 35 0 4 <|
 qZ 5 (
  zK 3 2 <|
  jQ 6 0 <|
  vL 1 0 6 0 <|
  jM 112 [.v 1,.v 8] 1 <|
  .bind (.bin .neq 39 (.tmp 46) (K' 0)) [.v 9,k' 0] <|
  qZ 10 (
   .ret [.v 9]) (
   zK 3 2 <|
   jQ 11 0 <|
   vL 1 0 11 0 <|
   zK 1 2 <|
   jM 20 [.v 13,.v 14] 1 <|
   qZ 15 (
    wP 8) (
    .jump 2 [.v 0,k' 0,.v 1,.v 2]))) (
  wP 0)
def qOM:Tree :=
 jF .lss 57 58 1 0 <|
 qZ 4 (
  zK 3 3 <|
  jQ 5 0 <|
  vL 1 0 5 0 <|
  zK 3 3 <|
  jQ 8 1 <|
  vL 1 0 8 1 <|
  jM 20 [.v 7,.v 10] 1 <|
  qZ 11 (
   wP 8) (
   vC .add 60 1 1 <|
   .jump 2 [.v 0,.v 12,.v 2,.v 3])) (
  vC .add 37 1 0 <|
  .jump 1 [.v 5,.v 2,.v 3])
def qBO:Nat->Tree
 | 0=>qOO
 | 1=>qON
 | 2=>qOM
 | _=>.fail
theorem qGC:(rt Tryz.f34 1 qUo,
 hd Tryz.f34 1 qUo,
 nr Tryz.f34,
 rt Tryz.f64 2 qT2,
 hd Tryz.f64 2 qT2,
 nr Tryz.f64,
 rt Tryz.f35 2 qUn,
 hd Tryz.f35 2 qUn,
 nr Tryz.f35,
 rt Tryz.f65 2 qT0,
 hd Tryz.f65 2 qT0,
 nr Tryz.f65,
 rt Tryz.f96 2 qTy,
 hd Tryz.f96 2 qTy,
 nr Tryz.f96) =
 (qQe,[(1,qQd),(2,qQc),(3,qQb),(4,qQa)],false,qPA,[],false,qP9,[(1,qP8),(2,qP7),(3,qP6)],false,qPz,[],false,qOO,[(1,qON),(2,qOM)],false):=by kernel_rfl
theorem qXR {ds:List D} {d:D} (hn:ds.length=1) (h:qG EE (qA EE) b8 0 ds d):qA EE 34 ds d :=
 hv Tryz.func34 rfl qGC (jG rfl <| jG rfl <| jG rfl <| jG rfl <| vO) hn h
theorem u64 {ds:List D} {d:D} (hn:ds.length=2) (h:qG EE (qA EE) qT1 0 ds d):qA EE 64 ds d :=
 hv Tryz.func64 rfl (vS (vS (vS qGC))) (vO) hn h
theorem qXQ {ds:List D} {d:D} (hn:ds.length=2) (h:qG EE (qA EE) qJF 0 ds d):qA EE 35 ds d :=
 hv Tryz.func35 rfl (vS (vS (jC qGC))) (jG rfl <| jG rfl <| jG rfl <| vO) hn h
theorem qYT {ds:List D} {d:D} (hn:ds.length=2) (h:qG EE (qA EE) qTZ 0 ds d):qA EE 65 ds d :=
 hv Tryz.func65 rfl (vS (jC (jC qGC))) (vO) hn h
theorem qYy {ds:List D} {d:D} (hn:ds.length=2) (h:qG EE (qA EE) qBO 0 ds d):qA EE 96 ds d :=
 hu Tryz.func96 rfl ((pI (jC (jC (jC qGC)))).1) ((pI (vS (jC (jC (jC qGC))))).1) ((vS (vS (jC (jC (jC qGC)))))) (jG rfl <| jG rfl <| vO) hn h
end Go.Proofs.YtnemldklhelbeaaGreat
