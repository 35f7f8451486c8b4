/- Trees of functions. Conditions: none. -/
import Derived.Test.YtpbmnkajhedaiaaGreatDd
set_option linter.all false
namespace Go.Proofs.YtpbmnkajhedaiaaGreat
open Go Go.Am Go.Proofs
def qYu:Nat->Pat
 |_=>⟨[],[],[],[]⟩
def qTh:Tree:=
 jQ 3 0 <|
 vM .geq 5 0 1 <|
 zC 3 (
  zM 0 2 <|
  j8 .lss 8 10 1 4 <|
  .ret [.v 5]) (
  rP false)
def qYt:Nat->Tree
 |0=>qTh
 |_=>.fail
def qZb:Nat->Pat
 |_=>⟨[],[],[],[]⟩
def qT3:Tree:=
 jQ 9 0 <|
 .bind (.fld true 1 0) [.v 1] <|
 xS 61 [.v 2] 1 <|
 .bind (.bin .neq 55 (.tmp 7) (K' 0)) [.v 3,k' 0] <|
 zC 4 (
  .ret [.v 3]) (
  .bind (.fld true 1 0) [.v 1] <|
  .bind (.fld true 3 1) [.v 1] <|
  xS 62 [.v 5,.v 6] 1 <|
  .bind (.bin .neq 55 (.tmp 15) (K' 0)) [.v 7,k' 0] <|
  zC 8 (
   .ret [.v 7]) (
   xS 63 [.v 1] 1 <|
   .bind (.bin .neq 55 (.tmp 20) (K' 0)) [.v 9,k' 0] <|
   zC 10 (
    .ret [.v 9]) (
    .bind (.fld true 3 5) [.v 1] <|
    xS 64 [.v 11] 1 <|
    .bind (.bin .neq 55 (.tmp 26) (K' 0)) [.v 12,k' 0] <|
    zC 13 (
     .ret [.v 12]) (
     .bind (.fld true 1 0) [.v 1] <|
     zM 8 1 <|
     xS 65 [.v 14,.v 15] 1 <|
     .bind (.bin .neq 55 (.tmp 34) (K' 0)) [.v 16,k' 0] <|
     zC 17 (
      .ret [.v 16]) (
      zM 8 1 <|
      xS 66 [.v 18] 1 <|
      .bind (.bin .neq 55 (.tmp 40) (K' 0)) [.v 19,k' 0] <|
      zC 20 (
       .ret [.v 19]) (
       zM 8 1 <|
       xS 67 [.v 21] 1 <|
       .ret [.v 22]))))))
def qZa:Nat->Tree
 |0=>qT3
 |_=>.fail
def qZj:Nat->Pat
 |1=>⟨[⟨.pure,true⟩,⟨.pure,false⟩],[(1,.loc 0 0),(3,.v 0)],[some (.whole (.v 1) 9)],[]⟩
 |_=>⟨[],[],[],[]⟩
def qUB:Tree:=
 jQ 9 0 <|
 zM 0 1 <|
 xL 2 <|
 vM .gtr 7 8 3 <|
 zC 4 (
  rP false) (
  zM 2 1 <|
  xL 5 <|
  vM .gtr 13 10 6 <|
  zC 7 (
   rP false) (
   zM 4 1 <|
   xL 8 <|
   vM .gtr 19 2 9 <|
   zC 10 (
    rP false) (
    zM 5 1 <|
    vM .gtr 25 3 11 <|
    zC 12 (
     rP false) (
     zM 6 1 <|
     xL 13 <|
     vM .gtr 32 6 14 <|
     zC 15 (
      rP false) (
      zM 7 1 <|
      xL 16 <|
      vM .gtr 39 3 17 <|
      zC 18 (
       rP false) (
       zM 8 1 <|
       xS 30 [.v 19] 1 <|
       .bind (.un .not 4) [.v 20] <|
       zC 21 (
        rP false) (
        .jump 1 [k' 0,.v 1])))))))
def qUA:Tree:=
 zM 4 1 <|
 xL 2 <|
 j8 .lss 48 51 0 3 <|
 zC 4 (
  zM 4 1 <|
  wC 5 0 <|
  vK 6 0 5 0 <|
  xL 7 <|
  vM .gtr 61 8 8 <|
  zC 9 (
   rP false) (
   vM .add 53 1 0 <|
   .jump 1 [.v 10,.v 1])) (
  xS 31 [.v 1] 1 <|
  .bind (.bin .eql 55 (.tmp 64) (K' 0)) [.v 5,k' 0] <|
  .ret [.v 6])
def qNH:Nat->Tree
 |0=>qUB
 |1=>qUA
 |_=>.fail
def qYN:Nat->Pat
 |1=>⟨[⟨.pure,true⟩,⟨.pure,false⟩],[(1,.loc 0 0),(3,.v 0)],[some (.whole (.v 1) 9)],[]⟩
 |_=>⟨[],[],[],[]⟩
def qTG:Tree:=
 jQ 9 0 <|
 zM 4 1 <|
 xL 2 <|
 vM .gtr 7 12 3 <|
 zC 4 (
  wN 11) (
  .jump 1 [k' 0,.v 1])
def qTF:Tree:=
 zM 4 1 <|
 xL 2 <|
 j8 .lss 9 12 0 3 <|
 zC 4 (
  .bind (.fld true 1 0) [.v 1] <|
  zM 4 1 <|
  wC 6 0 <|
  .bind (.elem 6 true 6 0) [.v 6,.v 0] <|
  xS 96 [.v 5,.v 8] 1 <|
  .bind (.bin .neq 55 (.tmp 24) (K' 0)) [.v 9,k' 0] <|
  zC 10 (
   .ret [.v 9]) (
   vM .add 14 1 0 <|
   .jump 1 [.v 11,.v 1])) (
  wN 0)
def qMT:Nat->Tree
 |0=>qTG
 |1=>qTF
 |_=>.fail
def qYw:Nat->Pat
 |1=>⟨[⟨.pure,true⟩,⟨.pure,true⟩,⟨.pure,false⟩,⟨.pure,false⟩],[(2,.loc 0 0),(3,.loc 1 0),(21,.v 0),(22,.v 1)],[some (.whole (.v 2) 1),some (.whole (.v 3) 6)],[]⟩
 |_=>⟨[],[],[],[]⟩
def qTj:Tree:=
 jQ 1 0 <|
 jQ 6 1 <|
 zM 0 3 <|
 xL 4 <|
 vM .eql 8 0 5 <|
 zC 6 (
  wN 1) (
  zM 1 3 <|
  xL 7 <|
  zM 0 3 <|
  xL 9 <|
  j8 .neq 13 16 8 10 <|
  zC 11 (
   wN 1) (
   zM 0 3 <|
   xL 12 <|
   .jump 1 [.v 13,k' 0,.v 2,.v 3]))
def qTi:Tree:=
 j8 .lss 22 21 1 0 <|
 zC 4 (
  zM 0 3 <|
  wC 5 1 <|
  vK 1 0 5 1 <|
  xS 148 [.v 2,.v 7] 1 <|
  .bind (.un .not 4) [.v 8] <|
  zC 9 (
   wN 19) (
   zM 1 3 <|
   wC 10 1 <|
   vK 1 0 10 1 <|
   vM .neq 38 0 12 <|
   zC 13 (
    zM 1 3 <|
    wC 14 1 <|
    vK 1 0 14 1 <|
    xS 148 [.v 2,.v 16] 1 <|
    .bind (.un .not 4) [.v 17] <|
    zC 18 (
     wN 19) (
     vM .add 22 1 1 <|
     .jump 1 [.v 0,.v 19,.v 2,.v 3])) (
    vM .add 22 1 1 <|
    .jump 1 [.v 0,.v 14,.v 2,.v 3]))) (
  zM 0 3 <|
  xS 149 [.v 5] 0 <|
  xL 6 <|
  zM 0 3 <|
  xL 8 <|
  j8 .neq 55 58 7 9 <|
  zC 10 (
   wN 8) (
   zM 2 3 <|
   xL 11 <|
   vM .gtr 62 2 12 <|
   zC 13 (
    wN 5) (
    zM 3 3 <|
    xL 14 <|
    vM .gtr 67 2 15 <|
    zC 16 (
     wN 5) (
     wN 0))))
def qYv:Nat->Tree
 |0=>qTj
 |1=>qTi
 |_=>.fail
def qYx:Nat->Pat
 |1=>⟨[⟨.pure,false⟩,⟨.pure,true⟩,⟨.pure,false⟩,⟨.pure,false⟩,⟨.pure,false⟩],[(2,.v 0),(3,.loc 0 0),(4,.loc 1 0),(7,.loc 2 0),(8,.v 1)],[some (.whole (.v 2) 1),some (.whole (.v 3) 3),some (.whole (.v 4) 2)],[]⟩
 |2=>⟨[⟨.pure,true⟩,⟨.pure,false⟩,⟨.pure,false⟩],[(3,.loc 0 0),(7,.loc 2 0),(9,.v 0)],[some (.whole (.v 1) 1),none,some (.whole (.v 2) 2)],[]⟩
 |_=>⟨[],[],[],[]⟩
def qTm:Tree:=
 jQ 1 0 <|
 jQ 3 1 <|
 zM 1 4 <|
 wC 5 2 <|
 .bind (.elem 2 true 2 0) [.v 5,.v 2] <|
 jQ 2 7 <|
 zM 0 8 <|
 xS 94 [.v 9] 1 <|
 .bind (.un .not 4) [.v 10] <|
 zC 11 (
  wN 3) (
  .jump 1 [.v 2,k' 0,.v 3,.v 4,.v 8])
def qTl:Tree:=
 j8 .lss 19 20 1 0 <|
 zC 5 (
  zM 1 3 <|
  wC 6 1 <|
  vK 2 0 6 1 <|
  zM 0 4 <|
  .bind (.bin .eql 9 (.tmp 29) (.tmp 31)) [.v 8,.v 9] <|
  zC 10 (
   wN 8) (
   vM .add 22 1 1 <|
   .jump 1 [.v 0,.v 11,.v 2,.v 3,.v 4])) (
  zM 1 4 <|
  xL 6 <|
  vM .lss 35 1 7 <|
  zC 8 (
   wN 19) (
   zM 1 4 <|
   xL 9 <|
   vM .gtr 40 3 10 <|
   zC 11 (
    wN 19) (
    .jump 2 [k' 0,.v 2,.v 4])))
def qTk:Tree:=
 zM 1 2 <|
 xL 3 <|
 j8 .lss 43 46 0 4 <|
 zC 5 (
  zM 1 2 <|
  wC 6 0 <|
  vK 1 0 6 0 <|
  vM .lss 54 1 8 <|
  zC 9 (
   wN 19) (
   zM 1 2 <|
   wC 10 0 <|
   vK 1 0 10 0 <|
   zM 0 1 <|
   xL 13 <|
   j8 .gtr 61 64 12 14 <|
   zC 15 (
    wN 19) (
    vM .add 48 1 0 <|
    .jump 2 [.v 16,.v 1,.v 2]))) (
  wN 0)
def qMO:Nat->Tree
 |0=>qTm
 |1=>qTl
 |2=>qTk
 |_=>.fail
theorem eN:(kZ Tryz.f97 2 qYu,
 hd Tryz.f97 2 qYu,
 nr Tryz.f97,
 kZ Tryz.f31 1 qZb,
 hd Tryz.f31 1 qZb,
 nr Tryz.f31,
 kZ Tryz.f12 1 qZj,
 hd Tryz.f12 1 qZj,
 nr Tryz.f12,
 kZ Tryz.f63 1 qYN,
 hd Tryz.f63 1 qYN,
 nr Tryz.f63,
 kZ Tryz.f96 2 qYw,
 hd Tryz.f96 2 qYw,
 nr Tryz.f96,
 kZ Tryz.f93 3 qYx,
 hd Tryz.f93 3 qYx,
 nr Tryz.f93) =
 (qTh,[],false,qT3,[],false,qUB,[(1,qUA)],false,qTG,[(1,qTF)],false,qTj,[(1,qTi)],false,qTm,[(1,qTl),(2,qTk)],false):=by kernel_rfl
theorem zEj{ds:List D}{d:D}(x:ds.length=2)(h:qE EE (Holds EE) qYt 0 ds d):Holds EE 97 ds d:=
 hv Tryz.func97 rfl eN (jR) x h
theorem zFG{ds:List D}{d:D}(x:ds.length=1)(h:qE EE (Holds EE) qZa 0 ds d):Holds EE 31 ds d:=
 hv Tryz.func31 rfl (jN (jN (jN eN))) (jR) x h
theorem zFJ{ds:List D}{d:D}(x:ds.length=1)(h:qE EE (Holds EE) qNH 0 ds d):Holds EE 12 ds d:=
 hv Tryz.func12 rfl (jN (jN (xG eN))) (xE rfl<|jR) x h
theorem zEo{ds:List D}{d:D}(x:ds.length=1)(h:qE EE (Holds EE) qMT 0 ds d):Holds EE 63 ds d:=
 hv Tryz.func63 rfl (jN (xG (xG eN))) (xE rfl<|jR) x h
theorem zFv{ds:List D}{d:D}(x:ds.length=2)(h:qE EE (Holds EE) qYv 0 ds d):Holds EE 96 ds d:=
 hv Tryz.func96 rfl (xG (xG (xG eN))) (xE rfl<|jR) x h
theorem zFw{ds:List D}{d:D}(x:ds.length=3)(h:qE EE (Holds EE) qMO 0 ds d):Holds EE 93 ds d:=
 hu Tryz.func93 rfl ((pI (jN (jN (jN (xG (xG (xG eN))))))).1) ((pI (vX eN)).1) ((jN (vX eN))) (xE rfl<|xE rfl<|jR) x h
end Go.Proofs.YtpbmnkajhedaiaaGreat
