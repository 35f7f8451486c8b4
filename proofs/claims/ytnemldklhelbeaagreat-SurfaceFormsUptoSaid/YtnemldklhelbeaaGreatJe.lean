/- Trees of functions. Conditions: none. -/
import Derived.Test.YtnemldklhelbeaaGreatJa
set_option linter.unusedVariables false
set_option linter.unusedSimpArgs false
namespace Go.Proofs.YtnemldklhelbeaaGreat
open Go Go.Am Go.Proofs
def qT4:Nat->Pat
 | 1=>⟨[⟨.pure,true⟩,⟨.pure,true⟩,⟨.pure,false⟩,⟨.pure,false⟩],[(2,.loc 0 0),(3,.loc 1 0),(21,.v 0),(22,.v 1)],[some (.whole (.v 2) 1),some (.whole (.v 3) 6)],[]⟩
 | _=>⟨[],[],[],[]⟩
def qPD:Tree :=
 jN 1 0 <|
 jN 6 1 <|
 zK 0 3 <|
 v4 4 <|
 vC .eql 8 0 5 <|
 qZ 6 (
  wP 1) (
  zK 1 3 <|
  v4 7 <|
  zK 0 3 <|
  v4 9 <|
  jF .neq 13 16 8 10 <|
  qZ 11 (
   wP 1) (
   zK 0 3 <|
   v4 12 <|
   .jump 1 [.v 13,k' 0,.v 2,.v 3]))
def qPC:Tree :=
 jF .lss 22 21 1 0 <|
 qZ 4 (
  zK 0 3 <|
  jQ 5 1 <|
  vL 1 0 5 1 <|
  jM 94 [.v 2,.v 7] 1 <|
  .bind (.un .not 4) [.v 8] <|
  qZ 9 (
   wP 19) (
   zK 1 3 <|
   jQ 10 1 <|
   vL 1 0 10 1 <|
   vC .neq 38 0 12 <|
   qZ 13 (
    zK 1 3 <|
    jQ 14 1 <|
    vL 1 0 14 1 <|
    jM 94 [.v 2,.v 16] 1 <|
    .bind (.un .not 4) [.v 17] <|
    qZ 18 (
     wP 19) (
     vC .add 22 1 1 <|
     .jump 1 [.v 0,.v 19,.v 2,.v 3])) (
    vC .add 22 1 1 <|
    .jump 1 [.v 0,.v 14,.v 2,.v 3]))) (
  zK 0 3 <|
  jM 95 [.v 5] 0 <|
  v4 6 <|
  zK 0 3 <|
  v4 8 <|
  jF .neq 55 58 7 9 <|
  qZ 10 (
   wP 8) (
   zK 2 3 <|
   v4 11 <|
   vC .gtr 62 2 12 <|
   qZ 13 (
    wP 5) (
    zK 3 3 <|
    v4 14 <|
    vC .gtr 67 2 15 <|
    qZ 16 (
     wP 5) (
     wP 0))))
def qJC:Nat->Tree
 | 0=>qPD
 | 1=>qPC
 | _=>.fail
def qUq:Nat->Pat
 | 1=>⟨[⟨.pure,true⟩,⟨.pure,false⟩],[(1,.loc 0 0),(3,.v 0)],[some (.whole (.v 1) 9)],[]⟩
 | _=>⟨[],[],[],[]⟩
def qQg:Tree :=
 jN 9 0 <|
 zK 4 1 <|
 v4 2 <|
 vC .gtr 7 12 3 <|
 qZ 4 (
  wP 11) (
  .jump 1 [k' 0,.v 1])
def qJI:Tree :=
 zK 4 1 <|
 v4 2 <|
 jF .lss 9 12 0 3 <|
 qZ 4 (
  .bind (.fld true 1 0) [.v 1] <|
  zK 4 1 <|
  jQ 6 0 <|
  .bind (.elem 6 true 6 0) [.v 6,.v 0] <|
  jM 63 [.v 5,.v 8] 1 <|
  .bind (.bin .neq 39 (.tmp 24) (K' 0)) [.v 9,k' 0] <|
  qZ 10 (
   .ret [.v 9]) (
   vC .add 14 1 0 <|
   .jump 1 [.v 11,.v 1])) (
  wP 0)
def qJH:Nat->Tree
 | 0=>qQg
 | 1=>qJI
 | _=>.fail
theorem qOG:(rt Tryz.f63 2 qT4,
 hd Tryz.f63 2 qT4,
 nr Tryz.f63,
 rt Tryz.f33 1 qUq,
 hd Tryz.f33 1 qUq,
 nr Tryz.f33) =
 (qPD,[(1,qPC)],false,qQg,[(1,qJI)],false):=by kernel_rfl
theorem qWd {ds:List D} {d:D} (hn:ds.length=2) (h:qG EE (qA EE) qJC 0 ds d):qA EE 63 ds d :=
 hv Tryz.func63 rfl qOG (jG rfl <| vO) hn h
theorem qXT {ds:List D} {d:D} (hn:ds.length=1) (h:qG EE (qA EE) qJH 0 ds d):qA EE 33 ds d :=
 hu Tryz.func33 rfl ((pI (vS (vS (vS qOG)))).1) ((pI (jC qOG)).1) ((vS (jC qOG))) (jG rfl <| vO) hn h
end Go.Proofs.YtnemldklhelbeaaGreat
namespace Go.Proofs.YtnemldklhelbeaaGreat
open Go Go.Am Go.Proofs
def qUJ:Nat->Pat
 | _=>⟨[],[],[],[]⟩
def qQM:Tree :=
 jN 9 0 <|
 .bind (.fld true 1 0) [.v 1] <|
 jM 31 [.v 2] 1 <|
 .bind (.bin .neq 39 (.tmp 7) (K' 0)) [.v 3,k' 0] <|
 qZ 4 (
  .ret [.v 3]) (
  .bind (.fld true 1 0) [.v 1] <|
  .bind (.fld true 3 1) [.v 1] <|
  jM 32 [.v 5,.v 6] 1 <|
  .bind (.bin .neq 39 (.tmp 15) (K' 0)) [.v 7,k' 0] <|
  qZ 8 (
   .ret [.v 7]) (
   jM 33 [.v 1] 1 <|
   .bind (.bin .neq 39 (.tmp 20) (K' 0)) [.v 9,k' 0] <|
   qZ 10 (
    .ret [.v 9]) (
    .bind (.fld true 3 5) [.v 1] <|
    jM 34 [.v 11] 1 <|
    .bind (.bin .neq 39 (.tmp 26) (K' 0)) [.v 12,k' 0] <|
    qZ 13 (
     .ret [.v 12]) (
     .bind (.fld true 1 0) [.v 1] <|
     zK 8 1 <|
     jM 35 [.v 14,.v 15] 1 <|
     .bind (.bin .neq 39 (.tmp 34) (K' 0)) [.v 16,k' 0] <|
     qZ 17 (
      .ret [.v 16]) (
      zK 8 1 <|
      jM 36 [.v 18] 1 <|
      .bind (.bin .neq 39 (.tmp 40) (K' 0)) [.v 19,k' 0] <|
      qZ 20 (
       .ret [.v 19]) (
       zK 8 1 <|
       jM 37 [.v 21] 1 <|
       .ret [.v 22]))))))
def qUI:Nat->Tree
 | 0=>qQM
 | _=>.fail
def qUH:Nat->Pat
 | 1=>⟨[⟨.pure,true⟩,⟨.pure,false⟩],[(1,.loc 0 0),(3,.v 0)],[some (.whole (.v 1) 9)],[]⟩
 | _=>⟨[],[],[],[]⟩
def qQI:Tree :=
 jN 9 0 <|
 zK 0 1 <|
 v4 2 <|
 vC .gtr 7 8 3 <|
 qZ 4 (
  gM false) (
  zK 2 1 <|
  v4 5 <|
  vC .gtr 13 10 6 <|
  qZ 7 (
   gM false) (
   zK 4 1 <|
   v4 8 <|
   vC .gtr 19 2 9 <|
   qZ 10 (
    gM false) (
    zK 5 1 <|
    vC .gtr 25 3 11 <|
    qZ 12 (
     gM false) (
     zK 6 1 <|
     v4 13 <|
     vC .gtr 32 6 14 <|
     qZ 15 (
      gM false) (
      zK 7 1 <|
      v4 16 <|
      vC .gtr 39 3 17 <|
      qZ 18 (
       gM false) (
       zK 8 1 <|
       jM 38 [.v 19] 1 <|
       .bind (.un .not 4) [.v 20] <|
       qZ 21 (
        gM false) (
        .jump 1 [k' 0,.v 1])))))))
def qQH:Tree :=
 zK 4 1 <|
 v4 2 <|
 jF .lss 48 51 0 3 <|
 qZ 4 (
  zK 4 1 <|
  jQ 5 0 <|
  vL 6 0 5 0 <|
  v4 7 <|
  vC .gtr 61 8 8 <|
  qZ 9 (
   gM false) (
   vC .add 53 1 0 <|
   .jump 1 [.v 10,.v 1])) (
  jM 11 [.v 1] 1 <|
  .bind (.bin .eql 39 (.tmp 64) (K' 0)) [.v 5,k' 0] <|
  .ret [.v 6])
def qJO:Nat->Tree
 | 0=>qQI
 | 1=>qQH
 | _=>.fail
theorem qOF:(rt Tryz.f11 1 qUJ,
 hd Tryz.f11 1 qUJ,
 nr Tryz.f11,
 rt Tryz.f12 1 qUH,
 hd Tryz.f12 1 qUH,
 nr Tryz.f12) =
 (qQM,[],false,qQI,[(1,qQH)],false):=by kernel_rfl
theorem qZi {ds:List D} {d:D} (hn:ds.length=1) (h:qG EE (qA EE) qUI 0 ds d):qA EE 11 ds d :=
 hv Tryz.func11 rfl qOF (vO) hn h
theorem qZh {ds:List D} {d:D} (hn:ds.length=1) (h:qG EE (qA EE) qJO 0 ds d):qA EE 12 ds d :=
 hu Tryz.func12 rfl ((pI (vS (vS (vS qOF)))).1) ((pI (jC qOF)).1) ((vS (jC qOF))) (jG rfl <| vO) hn h
end Go.Proofs.YtnemldklhelbeaaGreat
namespace Go.Proofs.YtnemldklhelbeaaGreat
open Go Go.Am Go.Proofs
def qXQ:Nat->Pat
 | _=>⟨[],[],[],[]⟩
def qT8:Tree :=
 jN 9 0 <|
 jN 1 1 <|
 jM 12 [.v 2] 1 <|
 .bind (.un .not 4) [.v 4] <|
 qZ 5 (
  jM 9 [] 1 <|
  .ret [.v 6]) (
  jM 13 [.v 3] 1 <|
  .bind (.un .not 4) [.v 6] <|
  qZ 7 (
   jM 9 [] 1 <|
   .ret [.v 8]) (
   jM 14 [.v 2,.v 3] 0 <|
   mR 0 8 <|
   mR 1 8 <|
   jM 15 [.v 2,.v 3] 0 <|
   mR 0 11 <|
   mR 1 11 <|
   jM 16 [.v 2,.v 3] 2 <|
   mR 0 14 <|
   mR 1 14 <|
   jM 17 [.v 2,.v 3] 2 <|
   mR 0 17 <|
   mR 1 17 <|
   jM 18 [.v 2,.v 3] 1 <|
   jM 19 [.v 2,.v 3] 1 <|
   .bind (.bin .eql 39 (.tmp 48) (.tmp 51)) [.v 20,.v 21] <|
   qZ 22 (
    jM 20 [.v 9,.v 12] 1 <|
    qZ 23 (
     .bind (.bin .eql 39 (.tmp 59) (.tmp 60)) [.v 10,.v 13] <|
     qZ 24 (
      .bind (.bin .eql 9 (.tmp 64) (.tmp 65)) [.v 15,.v 18] <|
      qZ 25 (
       .bind (.bin .eql 39 (.tmp 69) (.tmp 70)) [.v 16,.v 19] <|
       qZ 26 (
        jM 9 [] 1 <|
        .ret [.v 27]) (
        gM false)) (
       gM false)) (
      gM false)) (
     gM false)) (
    gM false)))
def qWe:Nat->Tree
 | 0=>qT8
 | _=>.fail
theorem qTe:(rt Tryz.f4 2 qXQ,
 hd Tryz.f4 2 qXQ,
 nr Tryz.f4) =
 (qT8,[],false):=by kernel_rfl
theorem u4 {ds:List D} {d:D} (hn:ds.length=2) (h:qG EE (qA EE) qWe 0 ds d):qA EE 4 ds d :=
 hu Tryz.func4 rfl ((pI qTe).1) ((pI (vS qTe)).1) ((vS (vS qTe))) (vO) hn h
end Go.Proofs.YtnemldklhelbeaaGreat
namespace Go.Proofs.YtnemldklhelbeaaGreat
open Go Go.Am Go.Proofs
def qQR:Nat->Pat
 | 1=>⟨[⟨.pure,false⟩,⟨.pure,true⟩,⟨.pure,true⟩,⟨.pure,false⟩],[(1,.v 0),(2,.loc 0 0),(13,.v 1),(14,.v 2)],[some (.whole (.v 3) 1)],[]⟩
 | _=>⟨[],[],[],[]⟩
def qFn:Tree :=
 jN 1 0 <|
 v4 1 <|
 vC .eql 7 0 3 <|
 qZ 4 (
  wP 4) (
  v4 1 <|
  vC .gtr 10 24 5 <|
  qZ 6 (
   wP 5) (
   v4 1 <|
   .jump 1 [.v 1,.v 7,k' 0,.v 2]))
def qFm:Tree :=
 jF .lss 14 13 2 1 <|
 qZ 4 (
  jQ 0 2 <|
  vL 1 0 0 2 <|
  jM 94 [.v 3,.v 6] 1 <|
  .bind (.un .not 4) [.v 7] <|
  qZ 8 (
   wP 19) (
   vC .add 14 1 2 <|
   .jump 1 [.v 0,.v 1,.v 9,.v 3])) (
  wP 0)
def qFl:Nat->Tree
 | 0=>qFn
 | 1=>qFm
 | _=>.fail
theorem qTf:(rt Tryz.f112 2 qQR,
 hd Tryz.f112 2 qQR,
 nr Tryz.f112) =
 (qFn,[(1,qFm)],false):=by kernel_rfl
theorem qWp {ds:List D} {d:D} (hn:ds.length=2) (h:qG EE (qA EE) qFl 0 ds d):qA EE 112 ds d :=
 hu Tryz.func112 rfl ((pI qTf).1) ((pI (vS qTf)).1) ((vS (vS qTf))) (jG rfl <| vO) hn h
end Go.Proofs.YtnemldklhelbeaaGreat
namespace Go.Proofs.YtnemldklhelbeaaGreat
open Go Go.Am Go.Proofs
def qUC:Nat->Pat
 | _=>⟨[],[],[],[]⟩
def qQC:Tree :=
 jN 9 0 <|
 jN 1 1 <|
 jM 19 [.v 2,.v 3] 1 <|
 .bind (.bin .neq 39 (.tmp 11) (K' 0)) [.v 4,k' 0] <|
 qZ 5 (
  .ret [.c (.slice none 0 0),.v 4]) (
  .bind (.fld true 1 0) [.v 2] <|
  zK 4 2 <|
  jM 41 [.v 2,.v 3] 0 <|
  jM 40 [.v 6,.v 7,.v 8] 0 <|
  v4 9 <|
  vC .eql 23 0 10 <|
  qZ 11 (
   .ret [.c (.slice none 0 0),k' 23]) (
   .ret [.v 9,k' 0]))
def qUB:Nat->Tree
 | 0=>qQC
 | _=>.fail
def qUy:Nat->Pat
 | _=>⟨[],[],[],[]⟩
def qQA:Tree :=
 jN 9 0 <|
 jN 1 1 <|
 jM 15 [.v 2,.v 3] 0 <|
 mR 0 4 <|
 mR 1 4 <|
 .bind (.bin .neq 39 (.tmp 17) (K' 0)) [.v 6,k' 0] <|
 qZ 7 (
  .ret [.c (.string ⟨#[]⟩),.v 6]) (
  .bind (.fld true 3 1) [.v 2] <|
  jM 42 [.v 8,.v 5] 2 <|
  mR 0 9 <|
  mR 1 9 <|
  mR 2 9 <|
  .ret [.v 10,.v 12])
def qUx:Nat->Tree
 | 0=>qQA
 | _=>.fail
def qUv:Nat->Pat
 | 1=>⟨[⟨.pure,true⟩,⟨.pure,false⟩,⟨.pure,false⟩],[(2,.loc 0 0),(3,.loc 1 0),(5,.v 0)],[some (.whole (.v 1) 9),some (.whole (.v 2) 1)],[]⟩
 | _=>⟨[],[],[],[]⟩
def qQw:Tree :=
 jN 9 0 <|
 jN 1 1 <|
 zK 0 3 <|
 v4 4 <|
 vC .eql 9 0 5 <|
 qZ 6 (
  wP 4) (
  zK 0 3 <|
  v4 7 <|
  vC .gtr 13 4 8 <|
  qZ 9 (
   wP 11) (
   .jump 1 [k' 0,.v 2,.v 3]))
def qQv:Tree :=
 zK 0 2 <|
 v4 3 <|
 jF .lss 15 18 0 4 <|
 qZ 5 (
  zK 0 2 <|
  jQ 6 0 <|
  .bind (.elem 3 true 3 0) [.v 6,.v 0] <|
  jM 47 [.v 1,.v 8] 1 <|
  .bind (.bin .neq 39 (.tmp 29) (K' 0)) [.v 9,k' 0] <|
  qZ 10 (
   .ret [.v 9]) (
   vC .add 20 1 0 <|
   .jump 1 [.v 11,.v 1,.v 2])) (
  .bind (.fld true 3 5) [.v 1] <|
  jM 49 [.v 1,.v 2] 0 <|
  jM 48 [.v 6,.v 7] 1 <|
  .bind (.un .not 4) [.v 8] <|
  qZ 9 (
   wP 21) (
   jM 41 [.v 1,.v 2] 0 <|
   v4 10 <|
   vC .gtr 42 24 11 <|
   qZ 12 (
    wP 5) (
    wP 0)))
def qQu:Nat->Tree
 | 0=>qQw
 | 1=>qQv
 | _=>.fail
def qUs:Nat->Pat
 | 1=>⟨[⟨.pure,false⟩,⟨.pure,false⟩,⟨.pure,true⟩,⟨.pure,true⟩],[(0,.v 0),(1,.v 1),(4,.loc 0 0),(8,.v 2),(9,.v 3)],[some (.cells [k' 0,.c (.slice none 0 0),k' 0,.c (.slice none 0 0),k' 0,.c (.slice none 0 0),.c (.slice none 0 0),.c (.slice none 0 0)])],[]⟩
 | _=>⟨[],[],[],[]⟩
def qQp:Tree :=
 v4 0 <|
 .jump 1 [.v 0,.v 1,.v 2,k' 0]
def qQo:Tree :=
 jF .lss 9 8 3 2 <|
 qZ 4 (
  jQ 0 3 <|
  vL 8 0 0 3 <|
  jF .eql 16 17 6 1 <|
  qZ 7 (
   jQ 0 3 <|
   .bind (.elem 8 true 8 0) [.v 0,.v 3] <|
   jN 8 9 <|
   .ret [.v 10,.c (.bool true)]) (
   vC .add 9 1 3 <|
   .jump 1 [.v 0,.v 1,.v 2,.v 8])) (
  .ret [.agg [k' 0,.c (.slice none 0 0),k' 0,.c (.slice none 0 0),k' 0,.c (.slice none 0 0),.c (.slice none 0 0),.c (.slice none 0 0)],.c (.bool false)])
def qJJ:Nat->Tree
 | 0=>qQp
 | 1=>qQo
 | _=>.fail
def qUm:Nat->Pat
 | 1=>⟨[⟨.pure,false⟩,⟨.pure,false⟩,⟨.pure,true⟩,⟨.pure,true⟩,⟨.pure,false⟩],[(1,.v 0),(2,.v 1),(3,.loc 0 0),(9,.v 2),(10,.v 3)],[some (.whole (.v 4) 1)],[]⟩
 | _=>⟨[],[],[],[]⟩
def qP3:Tree :=
 jN 1 0 <|
 v4 1 <|
 .jump 1 [.v 1,.v 2,.v 4,k' 0,.v 3]
def qP2:Tree :=
 jF .lss 10 9 3 2 <|
 qZ 5 (
  jQ 0 3 <|
  .bind (.elem 6 true 6 0) [.v 0,.v 3] <|
  jM 75 [.v 4,.v 7,.v 1] 0 <|
  vC .add 10 1 3 <|
  .jump 1 [.v 0,.v 8,.v 2,.v 9,.v 4]) (
  .ret [.v 1])
def qP1:Nat->Tree
 | 0=>qP3
 | 1=>qP2
 | _=>.fail
def qUl:Nat->Pat
 | 1=>⟨[⟨.fresh,true⟩,⟨.pure,true⟩,⟨.pure,false⟩,⟨.pure,false⟩],[(2,.loc 0 0),(3,.loc 1 0),(5,.v 0),(6,.v 1)],[some (.whole (.v 2) 9),some (.whole (.v 3) 1)],[]⟩
 | _=>⟨[],[],[],[]⟩
def qP0:Tree :=
 jN 9 0 <|
 jN 1 1 <|
 .jump 1 [.c (.slice none 0 0),k' 0,.v 2,.v 3]
def qPZ:Tree :=
 zK 0 3 <|
 v4 4 <|
 jF .lss 9 12 1 5 <|
 qZ 6 (
  zK 8 2 <|
  zK 0 3 <|
  jQ 8 1 <|
  vL 3 0 8 1 <|
  jM 23 [.v 7,.v 10] 0 <|
  mR 0 11 <|
  mR 1 11 <|
  jN 8 12 <|
  qZ 13 (
   zK 0 3 <|
   jQ 15 1 <|
   vL 3 1 15 1 <|
   jM 76 [.v 14,.v 17] 1 <|
   qZ 18 (
    jM 77 [.v 14] 0 <|
    zK 0 3 <|
    jQ 20 1 <|
    vL 3 1 20 1 <|
    jQ 19 22 <|
    vL 1 0 19 22 <|
    .bind (.app 3 1 8) [.v 0,.v 24] <|
    vC .add 14 1 1 <|
    .jump 1 [.v 25,.v 26,.v 2,.v 3]) (
    vC .add 14 1 1 <|
    .jump 1 [.v 0,.v 19,.v 2,.v 3])) (
   vC .add 14 1 1 <|
   .jump 1 [.v 0,.v 15,.v 2,.v 3])) (
  .ret [.v 0])
def qJF:Nat->Tree
 | 0=>qP0
 | 1=>qPZ
 | _=>.fail
def qUk:Nat->Pat
 | 1=>⟨[⟨.pure,false⟩,⟨.pure,true⟩,⟨.pure,true⟩,⟨.pure,false⟩],[(1,.v 0),(2,.loc 0 0),(7,.v 1),(8,.v 2)],[some (.whole (.v 3) 3)],[]⟩
 | 2=>⟨[⟨.pure,false⟩,⟨.pure,true⟩,⟨.pure,true⟩,⟨.pure,true⟩,⟨.pure,true⟩,⟨.pure,false⟩],[(1,.v 0),(2,.loc 0 0),(7,.v 1),(8,.v 2),(9,.v 3),(10,.v 4)],[some (.whole (.v 5) 3)],[]⟩
 | _=>⟨[],[],[],[]⟩
def qPY:Tree :=
 jN 3 0 <|
 v4 1 <|
 vC .eql 12 0 3 <|
 qZ 4 (
  .ret [.c (.string ⟨#[]⟩),k' 0,k' 4]) (
  v4 1 <|
  vC .gtr 15 24 5 <|
  qZ 6 (
   .ret [.c (.string ⟨#[]⟩),k' 0,k' 5]) (
   .jump 1 [.v 1,.c (.string ⟨#[]⟩),k' 0,.v 2]))
def qPX:Tree :=
 v4 0 <|
 jF .lss 17 19 2 4 <|
 qZ 5 (
  .jump 2 [.v 0,.v 1,.v 2,.c (.int .i64 (-1)),k' 0,.v 3]) (
  .ret [.v 1,k' 0,k' 0])
def qPW:Tree :=
 zK 1 5 <|
 v4 6 <|
 jF .lss 21 24 4 7 <|
 qZ 8 (
  zK 1 5 <|
  jQ 9 4 <|
  .bind (.elem 2 true 2 0) [.v 9,.v 4] <|
  jM 78 [.v 0,.v 2,.v 11] 1 <|
  qZ 12 (
   vC .lss 37 0 3 <|
   qZ 13 (
    vC .add 26 1 4 <|
    .jump 2 [.v 0,.v 1,.v 2,.v 4,.v 14,.v 5]) (
    zK 1 5 <|
    jQ 14 4 <|
    vL 2 1 14 4 <|
    v4 16 <|
    zK 1 5 <|
    jQ 18 3 <|
    vL 2 1 18 3 <|
    v4 20 <|
    jF .gtr 46 53 17 21 <|
    qZ 22 (
     vC .add 26 1 4 <|
     .jump 2 [.v 0,.v 1,.v 2,.v 4,.v 23,.v 5]) (
     vC .add 26 1 4 <|
     .jump 2 [.v 0,.v 1,.v 2,.v 3,.v 23,.v 5]))) (
   vC .add 26 1 4 <|
   .jump 2 [.v 0,.v 1,.v 2,.v 3,.v 13,.v 5])) (
  vC .lss 58 0 3 <|
  qZ 9 (
   .ret [.c (.string ⟨#[]⟩),.v 2,k' 20]) (
   zK 1 5 <|
   jQ 10 3 <|
   vL 2 0 10 3 <|
   .bind (.bin .add 9 (.tmp 61) (.tmp 67)) [.v 1,.v 12] <|
   zK 1 5 <|
   jQ 14 3 <|
   vL 2 1 14 3 <|
   v4 16 <|
   jF .add 69 76 2 17 <|
   .jump 1 [.v 0,.v 13,.v 18,.v 5]))
def qBR:Nat->Tree
 | 0=>qPY
 | 1=>qPX
 | 2=>qPW
 | _=>.fail
def qUd:Nat->Pat
 | _=>⟨[],[],[],[]⟩
def qPQ:Tree :=
 jN 9 0 <|
 jN 3 1 <|
 zK 8 2 <|
 zK 0 3 <|
 jM 23 [.v 4,.v 5] 0 <|
 mR 0 6 <|
 mR 1 6 <|
 jN 8 7 <|
 .bind (.un .not 4) [.v 8] <|
 qZ 10 (
  wP 9) (
  zK 1 3 <|
  jM 76 [.v 9,.v 11] 1 <|
  .bind (.un .not 4) [.v 12] <|
  qZ 13 (
   wP 2) (
   zK 2 3 <|
   vC .lss 23 0 14 <|
   qZ 15 (
    wP 22) (
    zK 2 3 <|
    zK 8 2 <|
    zK 0 3 <|
    jM 86 [.v 17,.v 18] 0 <|
    v4 19 <|
    jF .geq 27 33 16 20 <|
    qZ 21 (
     wP 22) (
     wP 0))))
def qUc:Nat->Tree
 | 0=>qPQ
 | _=>.fail
def qUb:Nat->Pat
 | _=>⟨[],[],[],[]⟩
def qPP:Tree :=
 jN 3 0 <|
 jM 88 [.v 2,.v 1] 0 <|
 zK 2 2 <|
 jM 89 [.v 2,.v 4] 0 <|
 jM 87 [.v 3,.v 5] 1 <|
 .ret [.v 6]
def qUa:Nat->Tree
 | 0=>qPP
 | _=>.fail
def qT9:Nat->Pat
 | 1=>⟨[⟨.fresh,true⟩,⟨.pure,true⟩,⟨.pure,false⟩,⟨.pure,false⟩],[(2,.loc 0 0),(3,.loc 1 0),(5,.v 0),(6,.v 1)],[some (.whole (.v 2) 9),some (.whole (.v 3) 1)],[]⟩
 | _=>⟨[],[],[],[]⟩
def qPO:Tree :=
 jN 9 0 <|
 jN 1 1 <|
 .jump 1 [.c (.slice none 0 0),k' 0,.v 2,.v 3]
def qPN:Tree :=
 zK 0 3 <|
 v4 4 <|
 jF .lss 9 12 1 5 <|
 qZ 6 (
  zK 8 2 <|
  zK 0 3 <|
  jQ 8 1 <|
  vL 3 0 8 1 <|
  jM 23 [.v 7,.v 10] 0 <|
  mR 0 11 <|
  mR 1 11 <|
  jN 8 12 <|
  qZ 13 (
   zK 0 3 <|
   jQ 15 1 <|
   vL 3 1 15 1 <|
   jM 76 [.v 14,.v 17] 1 <|
   qZ 18 (
    zK 2 14 <|
    qBs 19 <|
    .bind (.lit 3 1) [.v 19] <|
    .bind (.app 3 1 8) [.v 0,.v 21] <|
    vC .add 14 1 1 <|
    .jump 1 [.v 22,.v 23,.v 2,.v 3]) (
    vC .add 14 1 1 <|
    .jump 1 [.v 0,.v 19,.v 2,.v 3])) (
   vC .add 14 1 1 <|
   .jump 1 [.v 0,.v 15,.v 2,.v 3])) (
  .ret [.v 0])
def qJE:Nat->Tree
 | 0=>qPO
 | 1=>qPN
 | _=>.fail
def qTY:Nat->Pat
 | 1=>⟨[⟨.pure,false⟩,⟨.pure,false⟩,⟨.pure,true⟩],[(0,.v 0),(1,.v 1),(5,.v 2)],[],[]⟩
 | _=>⟨[],[],[],[]⟩
def qPu:Tree :=
 .jump 1 [.v 0,.v 1,k' 0]
def qPt:Tree :=
 v4 0 <|
 jF .lss 6 8 2 3 <|
 qZ 4 (
  jQ 0 2 <|
  vL 8 0 0 2 <|
  jF .eql 16 17 6 1 <|
  qZ 7 (
   .ret [.v 2]) (
   vC .add 10 1 2 <|
   .jump 1 [.v 0,.v 1,.v 8])) (
  .ret [.c (.int .i64 (-1))])
def qPs:Nat->Tree
 | 0=>qPu
 | 1=>qPt
 | _=>.fail
def qTX:Nat->Pat
 | 1=>⟨[⟨.pure,false⟩,⟨.fresh,true⟩,⟨.pure,true⟩],[(0,.v 0),(5,.v 1),(6,.v 2)],[],[]⟩
 | _=>⟨[],[],[],[]⟩
def qPr:Tree :=
 .bind (.lit 3 1) [] <|
 jM 72 [.v 0,.v 1] 1 <|
 .jump 1 [.v 0,.v 2,.v 3]
def qPq:Tree :=
 vC .geq 11 0 2 <|
 qZ 3 (
  v4 1 <|
  v4 0 <|
  jF .leq 15 17 4 5 <|
  qZ 6 (
   jQ 0 2 <|
   vL 8 0 0 2 <|
   qBs 8 <|
   .bind (.lit 3 1) [.v 8] <|
   .bind (.app 3 1 8) [.v 1,.v 10] <|
   jQ 0 2 <|
   vL 8 4 0 2 <|
   vC .eql 39 0 13 <|
   qZ 14 (
    .ret [.v 11]) (
    jQ 0 2 <|
    vL 8 4 0 2 <|
    jM 72 [.v 0,.v 16] 1 <|
    .jump 1 [.v 0,.v 11,.v 17])) (
   .ret [.v 1])) (
  .ret [.v 1])
def qJB:Nat->Tree
 | 0=>qPr
 | 1=>qPq
 | _=>.fail
def qTV:Nat->Pat
 | 1=>⟨[⟨.pure,false⟩,⟨.fresh,true⟩,⟨.pure,true⟩,⟨.pure,true⟩,⟨.pure,false⟩,⟨.pure,false⟩],[(2,.v 0),(3,.loc 0 0),(4,.loc 1 0),(7,.v 1),(12,.v 2),(13,.v 3)],[some (.whole (.v 4) 1),some (.whole (.v 5) 6)],[]⟩
 | 2=>⟨[⟨.pure,false⟩,⟨.fresh,true⟩,⟨.pure,true⟩,⟨.pure,true⟩,⟨.pure,true⟩,⟨.pure,true⟩,⟨.pure,true⟩,⟨.pure,false⟩,⟨.pure,false⟩],[(2,.v 0),(3,.loc 0 0),(4,.loc 1 0),(7,.v 1),(8,.v 2),(9,.v 3),(12,.v 4),(13,.v 2),(27,.v 5),(28,.v 6)],[some (.whole (.v 7) 1),some (.whole (.v 8) 6)],[]⟩
 | _=>⟨[],[],[],[]⟩
def qPm:Tree :=
 jN 1 0 <|
 jN 6 1 <|
 v4 2 <|
 .jump 1 [.v 2,.c (.slice none 0 0),.v 5,k' 0,.v 3,.v 4]
def qPl:Tree :=
 jF .lss 13 12 3 2 <|
 qZ 6 (
  jQ 0 3 <|
  vL 1 0 0 3 <|
  jM 102 [.v 4,.v 5,.v 0,.v 3] 1 <|
  qZ 9 (
   zK 0 5 <|
   v4 10 <|
   .jump 2 [.v 0,.v 1,.v 3,.v 8,.v 2,.v 11,k' 0,.v 4,.v 5]) (
   vC .neq 47 0 8 <|
   qZ 10 (
    qBs 8 <|
    .bind (.lit 3 1) [.v 8] <|
    .bind (.app 3 1 8) [.v 1,.v 12] <|
    vC .add 13 1 3 <|
    .jump 1 [.v 0,.v 13,.v 2,.v 14,.v 4,.v 5]) (
    vC .add 13 1 3 <|
    .jump 1 [.v 0,.v 1,.v 2,.v 11,.v 4,.v 5]))) (
  .ret [.v 1])
def qPk:Tree :=
 jF .lss 28 27 6 5 <|
 qZ 9 (
  zK 0 8 <|
  jQ 10 6 <|
  vL 1 0 10 6 <|
  jQ 0 2 <|
  vL 1 0 0 2 <|
  jF .eql 35 39 12 14 <|
  qZ 15 (
   zK 1 8 <|
   jQ 16 6 <|
   vL 1 0 16 6 <|
   vC .add 28 1 6 <|
   .jump 2 [.v 0,.v 1,.v 2,.v 18,.v 4,.v 5,.v 19,.v 7,.v 8]) (
   vC .add 28 1 6 <|
   .jump 2 [.v 0,.v 1,.v 2,.v 3,.v 4,.v 5,.v 16,.v 7,.v 8])) (
  vC .neq 47 0 3 <|
  qZ 10 (
   qBs 3 <|
   .bind (.lit 3 1) [.v 3] <|
   .bind (.app 3 1 8) [.v 1,.v 12] <|
   vC .add 13 1 2 <|
   .jump 1 [.v 0,.v 13,.v 4,.v 14,.v 7,.v 8]) (
   vC .add 13 1 2 <|
   .jump 1 [.v 0,.v 1,.v 4,.v 11,.v 7,.v 8]))
def qJA:Nat->Tree
 | 0=>qPm
 | 1=>qPl
 | 2=>qPk
 | _=>.fail
def qTU:Nat->Pat
 | _=>⟨[],[],[],[]⟩
def qPj:Tree :=
 jN 8 0 <|
 vC .geq 5 0 1 <|
 qZ 3 (
  jM 77 [.v 2] 0 <|
  v4 4 <|
  jF .lss 8 11 1 5 <|
  .ret [.v 6]) (
  gM false)
def qTT:Nat->Tree
 | 0=>qPj
 | _=>.fail
def qTS:Nat->Pat
 | _=>⟨[],[],[],[]⟩
def qPi:Tree :=
 jN 8 0 <|
 zK 1 1 <|
 qBs 2 <|
 .bind (.lit 31 1) [.v 2] <|
 zK 3 1 <|
 .bind (.app 31 1 24) [.v 4,.v 5] <|
 .ret [.v 6]
def qTR:Nat->Tree
 | 0=>qPi
 | _=>.fail
def qTQ:Nat->Pat
 | 1=>⟨[⟨.pure,false⟩,⟨.pure,false⟩,⟨.pure,true⟩,⟨.pure,false⟩],[(0,.v 0),(1,.v 1),(5,.loc 0 0),(7,.v 2)],[some (.whole (.v 3) 2)],[]⟩
 | _=>⟨[],[],[],[]⟩
def qPh:Tree :=
 jN 2 2 <|
 v4 0 <|
 jF .sub 9 10 4 1 <|
 zK 1 3 <|
 v4 6 <|
 jF .lss 11 14 5 7 <|
 qZ 8 (
  gM false) (
  .jump 1 [.v 0,.v 1,k' 0,.v 3])
def qPg:Tree :=
 zK 1 3 <|
 v4 4 <|
 jF .lss 16 19 2 5 <|
 qZ 6 (
  jF .add 24 25 1 2 <|
  jQ 0 7 <|
  vL 1 0 0 7 <|
  zK 1 3 <|
  jQ 10 2 <|
  vL 1 0 10 2 <|
  jF .neq 28 33 9 12 <|
  qZ 13 (
   gM false) (
   vC .add 21 1 2 <|
   .jump 1 [.v 0,.v 1,.v 14,.v 3])) (
  gM true)
def qPf:Nat->Tree
 | 0=>qPh
 | 1=>qPg
 | _=>.fail
def qTG:Nat->Pat
 | 1=>⟨[⟨.pure,false⟩,⟨.pure,false⟩,⟨.pure,true⟩],[(0,.v 0),(5,.v 1),(6,.v 2)],[],[]⟩
 | _=>⟨[],[],[],[]⟩
def qO3:Tree :=
 jM 73 [.v 0,.v 1] 0 <|
 .jump 1 [.v 0,.v 2,k' 0]
def qO2:Tree :=
 v4 1 <|
 jF .lss 11 13 2 3 <|
 qZ 4 (
  jQ 1 2 <|
  vL 1 0 1 2 <|
  jM 72 [.v 0,.v 6] 1 <|
  jQ 0 7 <|
  .bind (.elem 8 true 8 0) [.v 0,.v 7] <|
  jN 8 9 <|
  zK 5 10 <|
  v4 11 <|
  vC .gtr 28 0 12 <|
  qZ 13 (
   zK 5 10 <|
   .ret [.v 14]) (
   vC .add 15 1 2 <|
   .jump 1 [.v 0,.v 1,.v 14])) (
  .ret [.c (.slice none 0 0)])
def qJy:Nat->Tree
 | 0=>qO3
 | 1=>qO2
 | _=>.fail
def qTF:Nat->Pat
 | 1=>⟨[⟨.pure,false⟩,⟨.pure,false⟩,⟨.pure,true⟩],[(0,.v 0),(1,.v 1),(5,.v 2)],[],[]⟩
 | _=>⟨[],[],[],[]⟩
def qO1:Tree :=
 .jump 1 [.v 0,.v 1,k' 0]
def qO0:Tree :=
 v4 0 <|
 jF .lss 6 8 2 3 <|
 qZ 4 (
  jQ 0 2 <|
  vL 1 0 0 2 <|
  qZ 6 (
   jQ 1 2 <|
   vL 1 0 1 2 <|
   qZ 8 (
    gM true) (
    vC .add 10 1 2 <|
    .jump 1 [.v 0,.v 1,.v 9])) (
   vC .add 10 1 2 <|
   .jump 1 [.v 0,.v 1,.v 7])) (
  gM false)
def qOZ:Nat->Tree
 | 0=>qO1
 | 1=>qO0
 | _=>.fail
def qTE:Nat->Pat
 | 1=>⟨[⟨.pure,false⟩,⟨.pure,false⟩,⟨.pure,true⟩,⟨.pure,false⟩],[(1,.v 0),(2,.loc 0 0),(5,.v 1),(6,.v 2)],[some (.whole (.v 3) 3)],[]⟩
 | _=>⟨[],[],[],[]⟩
def qOY:Tree :=
 jN 3 0 <|
 .bind (.chk false 1) [k' 0] <|
 .bind (.lit 3 1) [k' 0] <|
 jM 89 [.v 2,.v 4] 0 <|
 .jump 1 [.v 1,.v 5,k' 0,.v 2]
def qOX:Tree :=
 v4 0 <|
 jF .lss 10 12 2 4 <|
 qZ 5 (
  jQ 0 2 <|
  vL 1 0 0 2 <|
  vC .lss 19 1 7 <|
  qZ 8 (
   zK 0 3 <|
   .bind (.mk 4 1 1 false [(.bool false)]) [.v 9] <|
   .ret [.v 10]) (
   jQ 0 2 <|
   vL 1 0 0 2 <|
   jM 106 [.v 3,.v 1,.v 10] 0 <|
   vC .add 14 1 2 <|
   .jump 1 [.v 0,.v 11,.v 12,.v 3])) (
  .ret [.v 1])
def qOW:Nat->Tree
 | 0=>qOY
 | 1=>qOX
 | _=>.fail
def qTD:Nat->Pat
 | 1=>⟨[⟨.pure,false⟩,⟨.fresh,true⟩,⟨.pure,true⟩],[(1,.v 0),(5,.v 1),(6,.v 2)],[],[]⟩
 | _=>⟨[],[],[],[]⟩
def qOV:Tree :=
 jN 3 0 <|
 zK 0 2 <|
 .bind (.mk 4 1 1 false [(.bool false)]) [.v 3] <|
 .jump 1 [.v 1,.v 4,k' 0]
def qOU:Tree :=
 v4 0 <|
 jF .lss 10 12 2 3 <|
 qZ 4 (
  jQ 0 2 <|
  vL 1 0 0 2 <|
  jQ 1 6 <|
  .bind (.set 1 false 1 0) [.v 1,.v 6,.c (.bool true)] <|
  vC .add 14 1 2 <|
  .jump 1 [.v 0,.v 8,.v 9]) (
  .ret [.v 1])
def qOT:Nat->Tree
 | 0=>qOV
 | 1=>qOU
 | _=>.fail
def qTC:Nat->Pat
 | _=>⟨[],[],[],[]⟩
def qOS:Tree :=
 jN 1 0 <|
 vC .geq 5 1 1 <|
 qZ 3 (
  zK 0 2 <|
  v4 4 <|
  jF .leq 8 11 1 5 <|
  .ret [.v 6]) (
  gM false)
def qTB:Nat->Tree
 | 0=>qOS
 | _=>.fail
def qQW:Nat->Pat
 | 1=>⟨[⟨.pure,false⟩,⟨.pure,false⟩,⟨.pure,true⟩,⟨.pure,true⟩,⟨.pure,true⟩,⟨.pure,false⟩,⟨.pure,false⟩],[(2,.v 0),(3,.v 1),(4,.loc 0 0),(5,.loc 1 0),(9,.v 2),(62,.v 3),(63,.v 4)],[some (.whole (.v 5) 1),some (.whole (.v 6) 6)],[]⟩
 | 2=>⟨[⟨.pure,false⟩,⟨.pure,false⟩,⟨.pure,true⟩,⟨.pure,true⟩,⟨.pure,false⟩,⟨.pure,false⟩],[(2,.v 0),(3,.v 1),(4,.loc 0 0),(5,.loc 1 0),(83,.v 2),(84,.v 3)],[some (.whole (.v 4) 1),some (.whole (.v 5) 6)],[]⟩
 | _=>⟨[],[],[],[]⟩
def qKc:Tree :=
 jN 1 0 <|
 jN 6 1 <|
 zK 2 5 <|
 v4 6 <|
 jF .sub 13 16 3 7 <|
 vC .add 18 1 3 <|
 zK 3 5 <|
 v4 10 <|
 jF .add 19 22 9 11 <|
 zK 0 5 <|
 jQ 2 3 <|
 vL 1 0 2 3 <|
 jM 119 [.v 13,.v 15] 1 <|
 .bind (.un .not 4) [.v 16] <|
 qZ 17 (
  gM false) (
  vC .lss 33 0 8 <|
  qZ 18 (
   gM false) (
   v4 2 <|
   jF .gtr 37 39 12 19 <|
   qZ 20 (
    gM false) (
    zK 4 5 <|
    qZ 21 (
     vC .neq 46 0 8 <|
     qZ 22 (
      gM false) (
      zK 5 5 <|
      qZ 23 (
       v4 2 <|
       jF .neq 54 56 12 24 <|
       qZ 25 (
        gM false) (
        zK 2 5 <|
        v4 26 <|
        .jump 1 [.v 2,.v 3,.v 8,.v 27,k' 0,.v 4,.v 5])) (
       zK 2 5 <|
       v4 24 <|
       .jump 1 [.v 2,.v 3,.v 8,.v 25,k' 0,.v 4,.v 5]))) (
     zK 5 5 <|
     qZ 22 (
      v4 2 <|
      jF .neq 54 56 12 23 <|
      qZ 24 (
       gM false) (
       zK 2 5 <|
       v4 25 <|
       .jump 1 [.v 2,.v 3,.v 8,.v 26,k' 0,.v 4,.v 5])) (
      zK 2 5 <|
      v4 23 <|
      .jump 1 [.v 2,.v 3,.v 8,.v 24,k' 0,.v 4,.v 5])))))
def qKb:Tree :=
 jF .lss 63 62 4 3 <|
 qZ 7 (
  jF .add 68 69 2 4 <|
  jQ 0 8 <|
  vL 1 0 0 8 <|
  zK 2 6 <|
  jQ 11 4 <|
  .bind (.elem 2 true 2 0) [.v 11,.v 4] <|
  jM 120 [.v 5,.v 10,.v 13] 1 <|
  .bind (.un .not 4) [.v 14] <|
  qZ 15 (
   gM false) (
   vC .add 63 1 4 <|
   .jump 1 [.v 0,.v 1,.v 2,.v 3,.v 16,.v 5,.v 6])) (
  zK 3 6 <|
  v4 8 <|
  .jump 2 [.v 0,.v 1,.v 9,k' 0,.v 5,.v 6])
def qKa:Tree :=
 jF .lss 84 83 3 2 <|
 qZ 6 (
  vC .add 89 1 1 <|
  jF .add 90 91 7 3 <|
  jQ 0 8 <|
  vL 1 0 0 8 <|
  zK 3 5 <|
  jQ 11 3 <|
  .bind (.elem 2 true 2 0) [.v 11,.v 3] <|
  jM 120 [.v 4,.v 10,.v 13] 1 <|
  .bind (.un .not 4) [.v 14] <|
  qZ 15 (
   gM false) (
   vC .add 84 1 3 <|
   .jump 2 [.v 0,.v 1,.v 2,.v 16,.v 4,.v 5])) (
  gM true)
def tZ:Nat->Tree
 | 0=>qKc
 | 1=>qKb
 | 2=>qKa
 | _=>.fail
def qQU:Nat->Pat
 | 1=>⟨[⟨.pure,false⟩,⟨.pure,false⟩,⟨.fresh,true⟩,⟨.pure,true⟩,⟨.pure,false⟩],[(1,.v 0),(2,.v 1),(3,.loc 0 0),(7,.v 2),(8,.v 3)],[some (.whole (.v 4) 3)],[]⟩
 | _=>⟨[],[],[],[]⟩
def qJ6:Tree :=
 jN 3 0 <|
 zK 0 3 <|
 .bind (.mk 4 1 1 false [(.bool false)]) [.v 4] <|
 .jump 1 [.v 1,.v 2,.v 5,k' 0,.v 3]
def qJ5:Tree :=
 zK 1 4 <|
 v4 5 <|
 jF .lss 13 16 3 6 <|
 qZ 7 (
  zK 1 4 <|
  jQ 8 3 <|
  .bind (.elem 3 true 3 0) [.v 8,.v 3] <|
  jN 3 10 <|
  zK 0 11 <|
  jQ 0 12 <|
  vL 1 0 0 12 <|
  qZ 14 (
   vC .eql 31 0 1 <|
   qZ 15 (
    zK 2 11 <|
    jQ 2 16 <|
    .bind (.set 1 false 1 0) [.v 2,.v 16,.c (.bool true)] <|
    vC .add 18 1 3 <|
    .jump 1 [.v 0,.v 1,.v 18,.v 19,.v 4]) (
    zK 1 11 <|
    jF .eql 35 36 16 1 <|
    qZ 17 (
     zK 2 11 <|
     jQ 2 18 <|
     .bind (.set 1 false 1 0) [.v 2,.v 18,.c (.bool true)] <|
     vC .add 18 1 3 <|
     .jump 1 [.v 0,.v 1,.v 20,.v 21,.v 4]) (
     vC .add 18 1 3 <|
     .jump 1 [.v 0,.v 1,.v 2,.v 18,.v 4]))) (
   vC .add 18 1 3 <|
   .jump 1 [.v 0,.v 1,.v 2,.v 15,.v 4])) (
  .ret [.v 2])
def qJ4:Nat->Tree
 | 0=>qJ6
 | 1=>qJ5
 | _=>.fail
def qQN:Nat->Pat
 | 1=>⟨[⟨.pure,false⟩,⟨.pure,false⟩,⟨.pure,true⟩,⟨.pure,true⟩],[(0,.v 0),(1,.v 1),(7,.v 2),(8,.v 3)],[],[]⟩
 | _=>⟨[],[],[],[]⟩
def qJU:Tree :=
 v4 0 <|
 .jump 1 [.v 0,.v 1,.v 2,k' 0]
def qJT:Tree :=
 jF .lss 8 7 3 2 <|
 qZ 4 (
  jQ 0 3 <|
  vL 1 0 0 3 <|
  jF .eql 14 15 6 1 <|
  qZ 7 (
   gM true) (
   vC .add 8 1 3 <|
   .jump 1 [.v 0,.v 1,.v 2,.v 8])) (
  gM false)
def qJS:Nat->Tree
 | 0=>qJU
 | 1=>qJT
 | _=>.fail
def qQL:Nat->Pat
 | _=>⟨[],[],[],[]⟩
def qJR:Tree :=
 jN 1 0 <|
 jN 2 2 <|
 jM 94 [.v 3,.v 1] 1 <|
 qZ 5 (
  zK 0 3 <|
  vC .sub 13 1 1 <|
  jQ 6 7 <|
  vL 2 1 6 7 <|
  zK 0 4 <|
  jF .and 17 19 9 10 <|
  zK 1 4 <|
  jF .eql 20 22 11 12 <|
  .ret [.v 13]) (
  gM false)
def qRt:Nat->Tree
 | 0=>qJR
 | _=>.fail
theorem gE:(rt Tryz.f15 2 qUC,
 hd Tryz.f15 2 qUC,
 nr Tryz.f15,
 rt Tryz.f17 2 qUy,
 hd Tryz.f17 2 qUy,
 nr Tryz.f17,
 rt Tryz.f19 2 qUv,
 hd Tryz.f19 2 qUv,
 nr Tryz.f19,
 rt Tryz.f23 2 qUs,
 hd Tryz.f23 2 qUs,
 nr Tryz.f23,
 rt Tryz.f40 3 qUm,
 hd Tryz.f40 3 qUm,
 nr Tryz.f40,
 rt Tryz.f41 2 qUl,
 hd Tryz.f41 2 qUl,
 nr Tryz.f41,
 rt Tryz.f42 2 qUk,
 hd Tryz.f42 2 qUk,
 nr Tryz.f42,
 rt Tryz.f47 2 qUd,
 hd Tryz.f47 2 qUd,
 nr Tryz.f47,
 rt Tryz.f48 2 qUb,
 hd Tryz.f48 2 qUb,
 nr Tryz.f48,
 rt Tryz.f49 2 qT9,
 hd Tryz.f49 2 qT9,
 nr Tryz.f49,
 rt Tryz.f72 2 qTY,
 hd Tryz.f72 2 qTY,
 nr Tryz.f72,
 rt Tryz.f73 2 qTX,
 hd Tryz.f73 2 qTX,
 nr Tryz.f73,
 rt Tryz.f75 3 qTV,
 hd Tryz.f75 3 qTV,
 nr Tryz.f75,
 rt Tryz.f76 2 qTU,
 hd Tryz.f76 2 qTU,
 nr Tryz.f76,
 rt Tryz.f77 1 qTS,
 hd Tryz.f77 1 qTS,
 nr Tryz.f77,
 rt Tryz.f78 3 qTQ,
 hd Tryz.f78 3 qTQ,
 nr Tryz.f78,
 rt Tryz.f86 2 qTG,
 hd Tryz.f86 2 qTG,
 nr Tryz.f86,
 rt Tryz.f87 2 qTF,
 hd Tryz.f87 2 qTF,
 nr Tryz.f87,
 rt Tryz.f88 2 qTE,
 hd Tryz.f88 2 qTE,
 nr Tryz.f88,
 rt Tryz.f89 2 qTD,
 hd Tryz.f89 2 qTD,
 nr Tryz.f89,
 rt Tryz.f94 2 qTC,
 hd Tryz.f94 2 qTC,
 nr Tryz.f94,
 rt Tryz.f102 4 qQW,
 hd Tryz.f102 4 qQW,
 nr Tryz.f102,
 rt Tryz.f106 3 qQU,
 hd Tryz.f106 3 qQU,
 nr Tryz.f106,
 rt Tryz.f119 2 qQN,
 hd Tryz.f119 2 qQN,
 nr Tryz.f119,
 rt Tryz.f120 3 qQL,
 hd Tryz.f120 3 qQL,
 nr Tryz.f120) =
 (qQC,[],false,qQA,[],false,qQw,[(1,qQv)],false,qQp,[(1,qQo)],false,qP3,[(1,qP2)],false,qP0,[(1,qPZ)],false,qPY,[(1,qPX),(2,qPW)],false,qPQ,[],false,qPP,[],false,qPO,[(1,qPN)],false,qPu,[(1,qPt)],false,qPr,[(1,qPq)],false,qPm,[(1,qPl),(2,qPk)],false,qPj,[],false,qPi,[],false,qPh,[(1,qPg)],false,qO3,[(1,qO2)],false,qO1,[(1,qO0)],false,qOY,[(1,qOX)],false,qOV,[(1,qOU)],false,qOS,[],false,qKc,[(1,qKb),(2,qKa)],false,qJ6,[(1,qJ5)],false,qJU,[(1,qJT)],false,qJR,[],false):=by kernel_rfl
theorem qZe {ds:List D} {d:D} (hn:ds.length=2) (h:qG EE (qA EE) qUB 0 ds d):qA EE 15 ds d :=
 hv Tryz.func15 rfl gE (vO) hn h
theorem qXU {ds:List D} {d:D} (hn:ds.length=2) (h:qG EE (qA EE) qUx 0 ds d):qA EE 17 ds d :=
 hv Tryz.func17 rfl (vS (vS (vS gE))) (vO) hn h
theorem qZc {ds:List D} {d:D} (hn:ds.length=2) (h:qG EE (qA EE) qQu 0 ds d):qA EE 19 ds d :=
 hv Tryz.func19 rfl (vS (vS (jC gE))) (jG rfl <| vO) hn h
theorem qY9 {ds:List D} {d:D} (hn:ds.length=2) (h:qG EE (qA EE) qJJ 0 ds d):qA EE 23 ds d :=
 hv Tryz.func23 rfl (vS (jC (jC gE))) (jG rfl <| vO) hn h
theorem qY6 {ds:List D} {d:D} (hn:ds.length=3) (h:qG EE (qA EE) qP1 0 ds d):qA EE 40 ds d :=
 hv Tryz.func40 rfl (jC (jC (jC gE))) (jG rfl <| vO) hn h
theorem qY5 {ds:List D} {d:D} (hn:ds.length=2) (h:qG EE (qA EE) qJF 0 ds d):qA EE 41 ds d :=
 hv Tryz.func41 rfl (vS (vS (vS (jC (jC (jC gE)))))) (jG rfl <| vO) hn h
theorem qY4 {ds:List D} {d:D} (hn:ds.length=2) (h:qG EE (qA EE) qBR 0 ds d):qA EE 42 ds d :=
 hv Tryz.func42 rfl (vS (vS (qX gE))) (jG rfl <| jG rfl <| vO) hn h
theorem qY0 {ds:List D} {d:D} (hn:ds.length=2) (h:qG EE (qA EE) qUc 0 ds d):qA EE 47 ds d :=
 hv Tryz.func47 rfl (vS (jC (qX gE))) (vO) hn h
theorem qYZ {ds:List D} {d:D} (hn:ds.length=2) (h:qG EE (qA EE) qUa 0 ds d):qA EE 48 ds d :=
 hv Tryz.func48 rfl (jC (jC (qX gE))) (vO) hn h
theorem qYY {ds:List D} {d:D} (hn:ds.length=2) (h:qG EE (qA EE) qJE 0 ds d):qA EE 49 ds d :=
 hv Tryz.func49 rfl (vS (vS (vS (jC (jC (qX gE)))))) (jG rfl <| vO) hn h
theorem qYS {ds:List D} {d:D} (hn:ds.length=2) (h:qG EE (qA EE) qPs 0 ds d):qA EE 72 ds d :=
 hv Tryz.func72 rfl (vS (vS (jC (jC (jC (qX gE)))))) (jG rfl <| vO) hn h
theorem qYR {ds:List D} {d:D} (hn:ds.length=2) (h:qG EE (qA EE) qJB 0 ds d):qA EE 73 ds d :=
 hv Tryz.func73 rfl (vS (qX (qX gE))) (jG rfl <| vO) hn h
theorem qYP {ds:List D} {d:D} (hn:ds.length=3) (h:qG EE (qA EE) qJA 0 ds d):qA EE 75 ds d :=
 hv Tryz.func75 rfl (jC (qX (qX gE))) (jG rfl <| jG rfl <| vO) hn h
theorem qYO {ds:List D} {d:D} (hn:ds.length=2) (h:qG EE (qA EE) qTT 0 ds d):qA EE 76 ds d :=
 hv Tryz.func76 rfl (vS (vS (vS (jC (qX (qX gE)))))) (vO) hn h
theorem qYN {ds:List D} {d:D} (hn:ds.length=1) (h:qG EE (qA EE) qTR 0 ds d):qA EE 77 ds d :=
 hv Tryz.func77 rfl (vS (vS (jC (jC (qX (qX gE)))))) (vO) hn h
theorem qYM {ds:List D} {d:D} (hn:ds.length=3) (h:qG EE (qA EE) qPf 0 ds d):qA EE 78 ds d :=
 hv Tryz.func78 rfl (vS (jC (jC (jC (qX (qX gE)))))) (jG rfl <| vO) hn h
theorem qYF {ds:List D} {d:D} (hn:ds.length=2) (h:qG EE (qA EE) qJy 0 ds d):qA EE 86 ds d :=
 hv Tryz.func86 rfl (qX (qX (qX gE))) (jG rfl <| vO) hn h
theorem qYE {ds:List D} {d:D} (hn:ds.length=2) (h:qG EE (qA EE) qOZ 0 ds d):qA EE 87 ds d :=
 hv Tryz.func87 rfl (vS (vS (vS (qX (qX (qX gE)))))) (jG rfl <| vO) hn h
theorem qYD {ds:List D} {d:D} (hn:ds.length=2) (h:qG EE (qA EE) qOW 0 ds d):qA EE 88 ds d :=
 hv Tryz.func88 rfl (vS (vS (jC (qX (qX (qX gE)))))) (jG rfl <| vO) hn h
theorem qYC {ds:List D} {d:D} (hn:ds.length=2) (h:qG EE (qA EE) qOT 0 ds d):qA EE 89 ds d :=
 hv Tryz.func89 rfl (vS (jC (jC (qX (qX (qX gE)))))) (jG rfl <| vO) hn h
theorem qYB {ds:List D} {d:D} (hn:ds.length=2) (h:qG EE (qA EE) qTB 0 ds d):qA EE 94 ds d :=
 hv Tryz.func94 rfl (jC (jC (jC (qX (qX (qX gE)))))) (vO) hn h
theorem qWu {ds:List D} {d:D} (hn:ds.length=4) (h:qG EE (qA EE) tZ 0 ds d):qA EE 102 ds d :=
 hv Tryz.func102 rfl (vS (vS (vS (jC (jC (jC (qX (qX (qX gE))))))))) (jG rfl <| jG rfl <| vO) hn h
theorem qWr {ds:List D} {d:D} (hn:ds.length=3) (h:qG EE (qA EE) qJ4 0 ds d):qA EE 106 ds d :=
 hv Tryz.func106 rfl (vS (vS (qX (qX (qX (qX gE)))))) (jG rfl <| vO) hn h
theorem qWl {ds:List D} {d:D} (hn:ds.length=2) (h:qG EE (qA EE) qJS 0 ds d):qA EE 119 ds d :=
 hv Tryz.func119 rfl (vS (jC (qX (qX (qX (qX gE)))))) (jG rfl <| vO) hn h
theorem qWk {ds:List D} {d:D} (hn:ds.length=3) (h:qG EE (qA EE) qRt 0 ds d):qA EE 120 ds d :=
 hu Tryz.func120 rfl ((pI (jC (jC (qX (qX (qX (qX gE))))))).1) ((pI (vS (jC (jC (qX (qX (qX (qX gE)))))))).1) ((vS (vS (jC (jC (qX (qX (qX (qX gE))))))))) (vO) hn h
end Go.Proofs.YtnemldklhelbeaaGreat
namespace Go.Proofs.YtnemldklhelbeaaGreat
open Go Go.Am Go.Proofs
def qUp:Nat->Pat
 | 1=>⟨[⟨.pure,true⟩,⟨.pure,false⟩],[(1,.loc 0 0),(3,.v 0)],[some (.whole (.v 1) 3)],[]⟩
 | 2=>⟨[⟨.pure,true⟩,⟨.pure,true⟩,⟨.pure,false⟩,⟨.pure,true⟩,⟨.pure,true⟩,⟨.pure,true⟩,⟨.pure,false⟩],[(1,.loc 0 0),(3,.v 0),(4,.loc 1 0),(5,.v 1),(38,.v 2),(39,.loc 1 2),(40,.v 3),(41,.v 4),(42,.c (.bool false)),(48,.loc 1 1),(49,.v 5),(50,.c (.bool false))],[some (.whole (.v 2) 3),some (.whole (.v 6) 3)],[]⟩
 | 3=>⟨[⟨.pure,true⟩,⟨.pure,false⟩],[(1,.loc 0 0),(6,.v 0)],[some (.whole (.v 1) 3)],[]⟩
 | 4=>⟨[⟨.pure,true⟩,⟨.pure,false⟩],[(1,.loc 0 0),(7,.v 0)],[some (.whole (.v 1) 3)],[]⟩
 | _=>⟨[],[],[],[]⟩
def qQf:Tree :=
 jN 3 0 <|
 zK 0 1 <|
 vC .lss 9 1 2 <|
 qZ 3 (
  wP 2) (
  zK 0 1 <|
  vC .gtr 13 24 4 <|
  qZ 5 (
   wP 2) (
   zK 1 1 <|
   v4 6 <|
   vC .gtr 18 200 7 <|
   qZ 8 (
    wP 11) (
    .jump 1 [k' 0,.v 1])))
def qQe:Tree :=
 zK 1 1 <|
 v4 2 <|
 jF .lss 20 23 0 3 <|
 qZ 4 (
  zK 1 1 <|
  jQ 5 0 <|
  .bind (.elem 3 true 3 0) [.v 5,.v 0] <|
  jN 3 7 <|
  zK 0 8 <|
  jM 64 [.v 1,.v 9] 1 <|
  .bind (.un .not 4) [.v 10] <|
  qZ 11 (
   wP 2) (
   zK 2 8 <|
   jM 64 [.v 1,.v 12] 1 <|
   .bind (.un .not 4) [.v 13] <|
   qZ 14 (
    wP 2) (
    zK 1 8 <|
    vC .lss 45 1 15 <|
    qZ 16 (
     wP 21) (
     zK 1 8 <|
     vC .gtr 49 20 17 <|
     qZ 18 (
      wP 21) (
      .jump 2 [.v 0,k' 0,.v 1,.v 12,.v 13,.v 17,.v 8]))))) (
  .jump 3 [k' 1,.v 1])
def qQd:Tree :=
 jF .lss 52 53 1 0 <|
 qZ 7 (
  zK 1 2 <|
  jQ 8 1 <|
  .bind (.elem 3 true 3 0) [.v 8,.v 1] <|
  .bind (.bin .eql 122 (.tmp 61) (.tmp 62)) [.v 10,.v 6] <|
  qZ 11 (
   wP 8) (
   vC .add 55 1 1 <|
   .jump 2 [.v 0,.v 12,.v 2,.v 3,.v 4,.v 5,.v 6])) (
  vC .add 25 1 0 <|
  .jump 1 [.v 8,.v 2])
def qQc:Tree :=
 zK 2 1 <|
 v4 2 <|
 jF .lss 64 67 0 3 <|
 qZ 4 (
  zK 2 1 <|
  jQ 5 0 <|
  vL 1 0 5 0 <|
  zK 2 1 <|
  vC .sub 78 1 0 <|
  jQ 8 9 <|
  vL 1 0 8 9 <|
  jF .leq 75 81 7 11 <|
  qZ 12 (
   wP 10) (
   vC .add 69 1 0 <|
   .jump 3 [.v 13,.v 1])) (
  .jump 4 [k' 0,.v 1])
def qQb:Tree :=
 zK 2 1 <|
 v4 2 <|
 jF .lss 83 86 0 3 <|
 qZ 4 (
  zK 2 1 <|
  jQ 5 0 <|
  vL 1 0 5 0 <|
  jM 64 [.v 1,.v 7] 1 <|
  .bind (.un .not 4) [.v 8] <|
  qZ 9 (
   wP 2) (
   vC .add 88 1 0 <|
   .jump 4 [.v 10,.v 1])) (
  wP 0)
def b9:Nat->Tree
 | 0=>qQf
 | 1=>qQe
 | 2=>qQd
 | 3=>qQc
 | 4=>qQb
 | _=>.fail
def qT3:Nat->Pat
 | _=>⟨[],[],[],[]⟩
def qPB:Tree :=
 jN 3 0 <|
 vC .geq 5 0 1 <|
 qZ 3 (
  zK 0 2 <|
  jF .lss 8 10 1 4 <|
  .ret [.v 5]) (
  gM false)
def qT2:Nat->Tree
 | 0=>qPB
 | _=>.fail
def qUo:Nat->Pat
 | 1=>⟨[⟨.pure,false⟩,⟨.pure,true⟩,⟨.pure,true⟩,⟨.pure,false⟩],[(1,.v 0),(2,.loc 0 0),(13,.v 1),(14,.v 2)],[some (.whole (.v 3) 1)],[]⟩
 | 2=>⟨[⟨.pure,false⟩,⟨.pure,true⟩,⟨.pure,true⟩],[(1,.v 0),(44,.v 1),(45,.v 2)],[],[]⟩
 | 3=>⟨[⟨.pure,false⟩,⟨.pure,true⟩,⟨.pure,true⟩,⟨.pure,false⟩,⟨.pure,false⟩,⟨.pure,false⟩,⟨.pure,false⟩,⟨.pure,false⟩,⟨.pure,true⟩,⟨.pure,true⟩],[(1,.v 0),(7,.v 1),(44,.v 2),(45,.v 1),(55,.v 3),(56,.v 3),(57,.v 4),(60,.v 5),(61,.v 6),(62,.v 7),(69,.v 8),(70,.v 9)],[],[]⟩
 | _=>⟨[],[],[],[]⟩
def qQa:Tree :=
 jN 1 0 <|
 v4 1 <|
 vC .gtr 10 100 3 <|
 qZ 4 (
  wP 11) (
  v4 1 <|
  .jump 1 [.v 1,.v 5,k' 0,.v 2])
def qP9:Tree :=
 jF .lss 14 13 2 1 <|
 qZ 4 (
  jQ 0 2 <|
  .bind (.elem 8 true 8 0) [.v 0,.v 2] <|
  jM 65 [.v 3,.v 6] 1 <|
  .bind (.bin .neq 39 (.tmp 23) (K' 0)) [.v 7,k' 0] <|
  qZ 8 (
   .ret [.v 7]) (
   vC .gtr 26 0 2 <|
   qZ 9 (
    jQ 0 2 <|
    vL 8 0 0 2 <|
    vC .sub 35 1 2 <|
    jQ 0 12 <|
    vL 8 0 0 12 <|
    jF .leq 33 39 11 14 <|
    qZ 15 (
     wP 10) (
     vC .add 14 1 2 <|
     .jump 1 [.v 0,.v 1,.v 16,.v 3])) (
    vC .add 14 1 2 <|
    .jump 1 [.v 0,.v 1,.v 10,.v 3]))) (
  v4 0 <|
  .jump 2 [.v 0,.v 5,k' 0])
def qP8:Tree :=
 jF .lss 45 44 2 1 <|
 qZ 3 (
  jQ 0 2 <|
  vL 8 4 0 2 <|
  vC .neq 52 0 5 <|
  qZ 6 (
   jQ 0 2 <|
   vL 8 4 0 2 <|
   jM 66 [.v 0,.v 8] 1 <|
   .bind (.un .not 4) [.v 9] <|
   qZ 10 (
    wP 9) (
    jQ 0 2 <|
    vL 8 6 0 2 <|
    v4 12 <|
    .jump 3 [.v 0,.v 2,.v 1,.v 0,.v 2,.v 8,.v 9,.c (.bool false),.v 13,k' 0])) (
   jQ 0 2 <|
   vL 8 6 0 2 <|
   v4 8 <|
   .jump 3 [.v 0,.v 2,.v 1,.tup [],.tup [],.tup [],.tup [],.tup [],.v 9,k' 0])) (
  wP 0)
def qP7:Tree :=
 jF .lss 70 69 9 8 <|
 qZ 10 (
  jQ 0 1 <|
  vL 8 6 0 1 <|
  jQ 12 9 <|
  vL 2 1 12 9 <|
  jM 66 [.v 0,.v 14] 1 <|
  .bind (.un .not 4) [.v 15] <|
  qZ 16 (
   wP 9) (
   vC .add 70 1 9 <|
   .jump 3 [.v 0,.v 1,.v 2,.v 3,.v 4,.v 5,.v 6,.v 7,.v 8,.v 17])) (
  vC .add 45 1 1 <|
  .jump 2 [.v 0,.v 2,.v 11])
def qJG:Nat->Tree
 | 0=>qQa
 | 1=>qP9
 | 2=>qP8
 | 3=>qP7
 | _=>.fail
def qT1:Nat->Pat
 | _=>⟨[],[],[],[]⟩
def qPA:Tree :=
 jN 1 0 <|
 jN 8 1 <|
 jM 96 [.v 2,.v 3] 1 <|
 .bind (.bin .neq 39 (.tmp 11) (K' 0)) [.v 4,k' 0] <|
 qZ 5 (
  .ret [.v 4]) (
  jM 97 [.v 3] 1 <|
  .bind (.bin .neq 39 (.tmp 16) (K' 0)) [.v 6,k' 0] <|
  qZ 7 (
   .ret [.v 6]) (
   jM 98 [.v 3] 1 <|
   .bind (.bin .neq 39 (.tmp 21) (K' 0)) [.v 8,k' 0] <|
   qZ 9 (
    .ret [.v 8]) (
    zK 7 3 <|
    jM 99 [.v 10,k' 12] 1 <|
    .ret [.v 11])))
def qT0:Nat->Tree
 | 0=>qPA
 | _=>.fail
def qTz:Nat->Pat
 | 1=>⟨[⟨.pure,true⟩,⟨.pure,false⟩,⟨.pure,false⟩],[(2,.loc 0 0),(3,.loc 1 0),(6,.v 0)],[some (.whole (.v 1) 1),some (.whole (.v 2) 8)],[]⟩
 | 2=>⟨[⟨.pure,true⟩,⟨.pure,true⟩,⟨.pure,false⟩,⟨.pure,false⟩],[(2,.loc 0 0),(3,.loc 1 0),(6,.v 0),(8,.v 1)],[some (.whole (.v 2) 1),some (.whole (.v 3) 8)],[]⟩
 | _=>⟨[],[],[],[]⟩
def qOP:Tree :=
 jN 1 0 <|
 jN 8 1 <|
 zK 0 3 <|
 jM 111 [.v 4] 1 <|
 .bind (.un .not 4) [.v 5] <|
 qZ 6 (
  wP 2) (
  zK 1 3 <|
  jM 112 [.v 2,.v 7] 1 <|
  .bind (.bin .neq 39 (.tmp 17) (K' 0)) [.v 8,k' 0] <|
  qZ 9 (
   .ret [.v 8]) (
   zK 2 3 <|
   vC .lss 21 1 10 <|
   qZ 11 (
    wP 21) (
    zK 2 3 <|
    vC .gtr 25 20 12 <|
    qZ 13 (
     wP 21) (
     zK 3 3 <|
     v4 14 <|
     vC .gtr 30 3 15 <|
     qZ 16 (
      wP 11) (
      .jump 1 [k' 0,.v 2,.v 3])))))
def qOO:Tree :=
 zK 3 2 <|
 v4 3 <|
 jF .lss 32 35 0 4 <|
 qZ 5 (
  zK 3 2 <|
  jQ 6 0 <|
  vL 1 0 6 0 <|
  jM 112 [.v 1,.v 8] 1 <|
  .bind (.bin .neq 39 (.tmp 46) (K' 0)) [.v 9,k' 0] <|
  qZ 10 (
   .ret [.v 9]) (
   zK 3 2 <|
   jQ 11 0 <|
   vL 1 0 11 0 <|
   zK 1 2 <|
   jM 20 [.v 13,.v 14] 1 <|
   qZ 15 (
    wP 8) (
    .jump 2 [.v 0,k' 0,.v 1,.v 2]))) (
  wP 0)
def qON:Tree :=
 jF .lss 57 58 1 0 <|
 qZ 4 (
  zK 3 3 <|
  jQ 5 0 <|
  vL 1 0 5 0 <|
  zK 3 3 <|
  jQ 8 1 <|
  vL 1 0 8 1 <|
  jM 20 [.v 7,.v 10] 1 <|
  qZ 11 (
   wP 8) (
   vC .add 60 1 1 <|
   .jump 2 [.v 0,.v 12,.v 2,.v 3])) (
  vC .add 37 1 0 <|
  .jump 1 [.v 5,.v 2,.v 3])
def qBP:Nat->Tree
 | 0=>qOP
 | 1=>qOO
 | 2=>qON
 | _=>.fail
theorem qGD:(rt Tryz.f34 1 qUp,
 hd Tryz.f34 1 qUp,
 nr Tryz.f34,
 rt Tryz.f64 2 qT3,
 hd Tryz.f64 2 qT3,
 nr Tryz.f64,
 rt Tryz.f35 2 qUo,
 hd Tryz.f35 2 qUo,
 nr Tryz.f35,
 rt Tryz.f65 2 qT1,
 hd Tryz.f65 2 qT1,
 nr Tryz.f65,
 rt Tryz.f96 2 qTz,
 hd Tryz.f96 2 qTz,
 nr Tryz.f96) =
 (qQf,[(1,qQe),(2,qQd),(3,qQc),(4,qQb)],false,qPB,[],false,qQa,[(1,qP9),(2,qP8),(3,qP7)],false,qPA,[],false,qOP,[(1,qOO),(2,qON)],false):=by kernel_rfl
theorem qXS {ds:List D} {d:D} (hn:ds.length=1) (h:qG EE (qA EE) b9 0 ds d):qA EE 34 ds d :=
 hv Tryz.func34 rfl qGD (jG rfl <| jG rfl <| jG rfl <| jG rfl <| vO) hn h
theorem u64 {ds:List D} {d:D} (hn:ds.length=2) (h:qG EE (qA EE) qT2 0 ds d):qA EE 64 ds d :=
 hv Tryz.func64 rfl (vS (vS (vS qGD))) (vO) hn h
theorem qXR {ds:List D} {d:D} (hn:ds.length=2) (h:qG EE (qA EE) qJG 0 ds d):qA EE 35 ds d :=
 hv Tryz.func35 rfl (vS (vS (jC qGD))) (jG rfl <| jG rfl <| jG rfl <| vO) hn h
theorem qYU {ds:List D} {d:D} (hn:ds.length=2) (h:qG EE (qA EE) qT0 0 ds d):qA EE 65 ds d :=
 hv Tryz.func65 rfl (vS (jC (jC qGD))) (vO) hn h
theorem qYz {ds:List D} {d:D} (hn:ds.length=2) (h:qG EE (qA EE) qBP 0 ds d):qA EE 96 ds d :=
 hu Tryz.func96 rfl ((pI (jC (jC (jC qGD)))).1) ((pI (vS (jC (jC (jC qGD))))).1) ((vS (vS (jC (jC (jC qGD)))))) (jG rfl <| jG rfl <| vO) hn h
end Go.Proofs.YtnemldklhelbeaaGreat
