/- Trees of functions. Conditions: none. -/
import Derived.Test.YtocbbgmhkhallaaGreatDoorBe
import Derived.Test.YtocbbgmhkhallaaGreatDoorBf
import Derived.Test.YtocbbgmhkhallaaGreatDoorBd
set_option linter.unusedVariables false
set_option linter.unusedSimpArgs false
namespace Go.Proofs.YtocbbgmhkhallaaGreatDoor
open Go Go.Am Go.Proofs
abbrev jv:=@Decidable.not_not
def qY4:Nat->Pat
 |1=>⟨[⟨.pure,true⟩,⟨.pure,true⟩,⟨.pure,false⟩,⟨.pure,false⟩],[(2,.loc 0 0),(3,.loc 1 0),(21,.v 0),(22,.v 1)],[some (.whole (.v 2) 1),some (.whole (.v 3) 6)],[]⟩
 |_=>⟨[],[],[],[]⟩
def qTp:Tree:=
 xV 1 0 <|
 xV 6 1 <|
 vA 0 3 <|
 jT 4 <|
 jP .eql 8 0 5 <|
 zO 6 (
  lD 1) (
  vA 1 3 <|
  jT 7 <|
  vA 0 3 <|
  jT 9 <|
  j4 .neq 13 16 8 10 <|
  zO 11 (
   lD 1) (
   vA 0 3 <|
   jT 12 <|
   .jump 1 [.v 13,k' 0,.v 2,.v 3]))
def qTo:Tree:=
 j4 .lss 22 21 1 0 <|
 zO 4 (
  vA 0 3 <|
  wG 5 1 <|
  vC 1 0 5 1 <|
  wM 124 [.v 2,.v 7] 1 <|
  .bind (.un .not 4) [.v 8] <|
  zO 9 (
   lD 19) (
   vA 1 3 <|
   wG 10 1 <|
   vC 1 0 10 1 <|
   jP .neq 38 0 12 <|
   zO 13 (
    vA 1 3 <|
    wG 14 1 <|
    vC 1 0 14 1 <|
    wM 124 [.v 2,.v 16] 1 <|
    .bind (.un .not 4) [.v 17] <|
    zO 18 (
     lD 19) (
     jP .add 22 1 1 <|
     .jump 1 [.v 0,.v 19,.v 2,.v 3])) (
    jP .add 22 1 1 <|
    .jump 1 [.v 0,.v 14,.v 2,.v 3]))) (
  vA 0 3 <|
  wM 125 [.v 5] 0 <|
  jT 6 <|
  vA 0 3 <|
  jT 8 <|
  j4 .neq 55 58 7 9 <|
  zO 10 (
   lD 8) (
   vA 2 3 <|
   jT 11 <|
   jP .gtr 62 2 12 <|
   zO 13 (
    lD 5) (
    vA 3 3 <|
    jT 14 <|
    jP .gtr 67 2 15 <|
    zO 16 (
     lD 5) (
     lD 0))))
def qY3:LV
 |0=>qTp
 |1=>qTo
 |_=>.fail
def qZJ:Nat->Pat
 |1=>⟨[⟨.pure,true⟩,⟨.pure,false⟩],[(1,.loc 0 0),(3,.v 0)],[some (.whole (.v 1) 9)],[]⟩
 |_=>⟨[],[],[],[]⟩
def qTX:Tree:=
 xV 9 0 <|
 vA 4 1 <|
 jT 2 <|
 jP .gtr 7 12 3 <|
 zO 4 (
  lD 11) (
  .jump 1 [k' 0,.v 1])
def qTW:Tree:=
 vA 4 1 <|
 jT 2 <|
 j4 .lss 9 12 0 3 <|
 zO 4 (
  .bind (.mq true 1 0) [.v 1] <|
  vA 4 1 <|
  wG 6 0 <|
  .bind (.elem 6 true 6 0) [.v 6,.v 0] <|
  wM 84 [.v 5,.v 8] 1 <|
  .bind (.bin .neq 39 (.tmp 24) (K' 0)) [.v 9,k' 0] <|
  zO 10 (
   .ret [.v 9]) (
   jP .add 14 1 0 <|
   .jump 1 [.v 11,.v 1])) (
  lD 0)
def qNl:LV
 |0=>qTX
 |1=>qTW
 |_=>.fail
def zAc:Nat->Pat
 |_=>⟨[],[],[],[]⟩
def qUv:Tree:=
 xV 9 0 <|
 .bind (.mq true 1 0) [.v 1] <|
 wM 40 [.v 2] 1 <|
 .bind (.bin .neq 39 (.tmp 7) (K' 0)) [.v 3,k' 0] <|
 zO 4 (
  .ret [.v 3]) (
  .bind (.mq true 1 0) [.v 1] <|
  .bind (.mq true 3 1) [.v 1] <|
  wM 41 [.v 5,.v 6] 1 <|
  .bind (.bin .neq 39 (.tmp 15) (K' 0)) [.v 7,k' 0] <|
  zO 8 (
   .ret [.v 7]) (
   wM 42 [.v 1] 1 <|
   .bind (.bin .neq 39 (.tmp 20) (K' 0)) [.v 9,k' 0] <|
   zO 10 (
    .ret [.v 9]) (
    .bind (.mq true 3 5) [.v 1] <|
    wM 5 [.v 11] 1 <|
    .bind (.bin .neq 39 (.tmp 26) (K' 0)) [.v 12,k' 0] <|
    zO 13 (
     .ret [.v 12]) (
     .bind (.mq true 1 0) [.v 1] <|
     vA 8 1 <|
     wM 43 [.v 14,.v 15] 1 <|
     .bind (.bin .neq 39 (.tmp 34) (K' 0)) [.v 16,k' 0] <|
     zO 17 (
      .ret [.v 16]) (
      vA 8 1 <|
      wM 44 [.v 18] 1 <|
      .bind (.bin .neq 39 (.tmp 40) (K' 0)) [.v 19,k' 0] <|
      zO 20 (
       .ret [.v 19]) (
       vA 8 1 <|
       wM 45 [.v 21] 1 <|
       .ret [.v 22]))))))
def zAb:LV
 |0=>qUv
 |_=>.fail
def zET:Nat->Pat
 |1=>⟨[⟨.pure,true⟩,⟨.pure,false⟩],[(1,.loc 0 0),(3,.v 0)],[some (.whole (.v 1) 9)],[]⟩
 |_=>⟨[],[],[],[]⟩
def qVB:Tree:=
 xV 9 0 <|
 vA 0 1 <|
 jT 2 <|
 jP .gtr 7 8 3 <|
 zO 4 (
  xP false) (
  vA 2 1 <|
  jT 5 <|
  jP .gtr 13 10 6 <|
  zO 7 (
   xP false) (
   vA 4 1 <|
   jT 8 <|
   jP .gtr 19 2 9 <|
   zO 10 (
    xP false) (
    vA 5 1 <|
    jP .gtr 25 3 11 <|
    zO 12 (
     xP false) (
     vA 6 1 <|
     jT 13 <|
     jP .gtr 32 6 14 <|
     zO 15 (
      xP false) (
      vA 7 1 <|
      jT 16 <|
      jP .gtr 39 3 17 <|
      zO 18 (
       xP false) (
       vA 8 1 <|
       wM 16 [.v 19] 1 <|
       .bind (.un .not 4) [.v 20] <|
       zO 21 (
        xP false) (
        .jump 1 [k' 0,.v 1])))))))
def qZa:Tree:=
 vA 4 1 <|
 jT 2 <|
 j4 .lss 48 51 0 3 <|
 zO 4 (
  vA 4 1 <|
  wG 5 0 <|
  vC 6 0 5 0 <|
  jT 7 <|
  jP .gtr 61 8 8 <|
  zO 9 (
   xP false) (
   jP .add 53 1 0 <|
   .jump 1 [.v 10,.v 1])) (
  wM 17 [.v 1] 1 <|
  .bind (.bin .eql 39 (.tmp 64) (K' 0)) [.v 5,k' 0] <|
  .ret [.v 6])
def qVA:LV
 |0=>qVB
 |1=>qZa
 |_=>.fail
def qY5:Nat->Pat
 |1=>⟨[⟨.pure,false⟩,⟨.pure,true⟩,⟨.pure,false⟩,⟨.pure,false⟩,⟨.pure,false⟩],[(2,.v 0),(3,.loc 0 0),(4,.loc 1 0),(7,.loc 2 0),(8,.v 1)],[some (.whole (.v 2) 1),some (.whole (.v 3) 3),some (.whole (.v 4) 2)],[]⟩
 |2=>⟨[⟨.pure,true⟩,⟨.pure,false⟩,⟨.pure,false⟩],[(3,.loc 0 0),(7,.loc 2 0),(9,.v 0)],[some (.whole (.v 1) 1),none,some (.whole (.v 2) 2)],[]⟩
 |_=>⟨[],[],[],[]⟩
def qTs:Tree:=
 xV 1 0 <|
 xV 3 1 <|
 vA 1 4 <|
 wG 5 2 <|
 .bind (.elem 2 true 2 0) [.v 5,.v 2] <|
 xV 2 7 <|
 vA 0 8 <|
 wM 82 [.v 9] 1 <|
 .bind (.un .not 4) [.v 10] <|
 zO 11 (
  lD 3) (
  .jump 1 [.v 2,k' 0,.v 3,.v 4,.v 8])
def qTr:Tree:=
 j4 .lss 19 20 1 0 <|
 zO 5 (
  vA 1 3 <|
  wG 6 1 <|
  vC 2 0 6 1 <|
  vA 0 4 <|
  .bind (.bin .eql 9 (.tmp 29) (.tmp 31)) [.v 8,.v 9] <|
  zO 10 (
   lD 8) (
   jP .add 22 1 1 <|
   .jump 1 [.v 0,.v 11,.v 2,.v 3,.v 4])) (
  vA 1 4 <|
  jT 6 <|
  jP .lss 35 1 7 <|
  zO 8 (
   lD 19) (
   vA 1 4 <|
   jT 9 <|
   jP .gtr 40 3 10 <|
   zO 11 (
    lD 19) (
    .jump 2 [k' 0,.v 2,.v 4])))
def qTq:Tree:=
 vA 1 2 <|
 jT 3 <|
 j4 .lss 43 46 0 4 <|
 zO 5 (
  vA 1 2 <|
  wG 6 0 <|
  vC 1 0 6 0 <|
  jP .lss 54 1 8 <|
  zO 9 (
   lD 19) (
   vA 1 2 <|
   wG 10 0 <|
   vC 1 0 10 0 <|
   vA 0 1 <|
   jT 13 <|
   j4 .gtr 61 64 12 14 <|
   zO 15 (
    lD 19) (
    jP .add 48 1 0 <|
    .jump 2 [.v 16,.v 1,.v 2]))) (
  lD 0)
def qNj:LV
 |0=>qTs
 |1=>qTr
 |2=>qTq
 |_=>.fail
def zEU:Nat->Pat
 |1=>⟨[⟨.pure,true⟩,⟨.pure,false⟩],[(1,.loc 0 0),(3,.v 0)],[some (.whole (.v 1) 3)],[]⟩
 |2=>⟨[⟨.pure,true⟩,⟨.pure,true⟩,⟨.pure,false⟩,⟨.pure,true⟩,⟨.pure,true⟩,⟨.pure,true⟩,⟨.pure,false⟩],[(1,.loc 0 0),(3,.v 0),(4,.loc 1 0),(5,.v 1),(38,.v 2),(39,.loc 1 2),(40,.v 3),(41,.v 4),(42,.c (.bool false)),(48,.loc 1 1),(49,.v 5),(50,.c (.bool false))],[some (.whole (.v 2) 3),some (.whole (.v 6) 3)],[]⟩
 |3=>⟨[⟨.pure,true⟩,⟨.pure,false⟩],[(1,.loc 0 0),(6,.v 0)],[some (.whole (.v 1) 3)],[]⟩
 |4=>⟨[⟨.pure,true⟩,⟨.pure,false⟩],[(1,.loc 0 0),(7,.v 0)],[some (.whole (.v 1) 3)],[]⟩
 |_=>⟨[],[],[],[]⟩
def qZA:Tree:=
 xV 3 0 <|
 vA 0 1 <|
 jP .lss 9 1 2 <|
 zO 3 (
  lD 2) (
  vA 0 1 <|
  jP .gtr 13 24 4 <|
  zO 5 (
   lD 2) (
   vA 1 1 <|
   jT 6 <|
   jP .gtr 18 200 7 <|
   zO 8 (
    lD 11) (
    .jump 1 [k' 0,.v 1])))
def qZz:Tree:=
 vA 1 1 <|
 jT 2 <|
 j4 .lss 20 23 0 3 <|
 zO 4 (
  vA 1 1 <|
  wG 5 0 <|
  .bind (.elem 3 true 3 0) [.v 5,.v 0] <|
  xV 3 7 <|
  vA 0 8 <|
  wM 15 [.v 1,.v 9] 1 <|
  .bind (.un .not 4) [.v 10] <|
  zO 11 (
   lD 2) (
   vA 2 8 <|
   wM 15 [.v 1,.v 12] 1 <|
   .bind (.un .not 4) [.v 13] <|
   zO 14 (
    lD 2) (
    vA 1 8 <|
    jP .lss 45 1 15 <|
    zO 16 (
     lD 21) (
     vA 1 8 <|
     jP .gtr 49 20 17 <|
     zO 18 (
      lD 21) (
      .jump 2 [.v 0,k' 0,.v 1,.v 12,.v 13,.v 17,.v 8]))))) (
  .jump 3 [k' 1,.v 1])
def qZy:Tree:=
 j4 .lss 52 53 1 0 <|
 zO 7 (
  vA 1 2 <|
  wG 8 1 <|
  .bind (.elem 3 true 3 0) [.v 8,.v 1] <|
  .bind (.bin .eql 55 (.tmp 61) (.tmp 62)) [.v 10,.v 6] <|
  zO 11 (
   lD 8) (
   jP .add 55 1 1 <|
   .jump 2 [.v 0,.v 12,.v 2,.v 3,.v 4,.v 5,.v 6])) (
  jP .add 25 1 0 <|
  .jump 1 [.v 8,.v 2])
def qZx:Tree:=
 vA 2 1 <|
 jT 2 <|
 j4 .lss 64 67 0 3 <|
 zO 4 (
  vA 2 1 <|
  wG 5 0 <|
  vC 1 0 5 0 <|
  vA 2 1 <|
  jP .sub 78 1 0 <|
  wG 8 9 <|
  vC 1 0 8 9 <|
  j4 .leq 75 81 7 11 <|
  zO 12 (
   lD 10) (
   jP .add 69 1 0 <|
   .jump 3 [.v 13,.v 1])) (
  .jump 4 [k' 0,.v 1])
def qZw:Tree:=
 vA 2 1 <|
 jT 2 <|
 j4 .lss 83 86 0 3 <|
 zO 4 (
  vA 2 1 <|
  wG 5 0 <|
  vC 1 0 5 0 <|
  wM 15 [.v 1,.v 7] 1 <|
  .bind (.un .not 4) [.v 8] <|
  zO 9 (
   lD 2) (
   jP .add 88 1 0 <|
   .jump 4 [.v 10,.v 1])) (
  lD 0)
def qNk:LV
 |0=>qZA
 |1=>qZz
 |2=>qZy
 |3=>qZx
 |4=>qZw
 |_=>.fail
def zAe:Nat->Pat
 |_=>⟨[],[],[],[]⟩
def qUy:Tree:=
 xV 3 0 <|
 jP .geq 5 0 1 <|
 zO 3 (
  vA 0 2 <|
  j4 .lss 8 10 1 4 <|
  .ret [.v 5]) (
  xP false)
def zAd:LV
 |0=>qUy
 |_=>.fail
theorem uS:(kY Tryz.f84 2 qY4,
 hd Tryz.f84 2 qY4,
 nr Tryz.f84,
 kY Tryz.f42 1 qZJ,
 hd Tryz.f42 1 qZJ,
 nr Tryz.f42,
 kY Tryz.f17 1 zAc,
 hd Tryz.f17 1 zAc,
 nr Tryz.f17,
 kY Tryz.f6 1 zET,
 hd Tryz.f6 1 zET,
 nr Tryz.f6,
 kY Tryz.f81 3 qY5,
 hd Tryz.f81 3 qY5,
 nr Tryz.f81,
 kY Tryz.f5 1 zEU,
 hd Tryz.f5 1 zEU,
 nr Tryz.f5,
 kY Tryz.f15 2 zAe,
 hd Tryz.f15 2 zAe,
 nr Tryz.f15) =
 (qTp,[(1,qTo)],false,qTX,[(1,qTW)],false,qUv,[],false,qVB,[(1,qZa)],false,qTs,[(1,qTr),(2,qTq)],false,qZA,[(1,qZz),(2,qZy),(3,qZx),(4,qZw)],false,qUy,[],false):=by kernel_rfl
theorem zFU{ds:LR}{d:D}(x:ds.length=2)(h:qP EE (qA EE) qY3 0 ds d):qA EE 84 ds d:=
 hv Tryz.func84 rfl uS (j9 rfl<|jU) x h
theorem zEW{ds:LR}{d:D}(x:ds.length=1)(h:qP EE (qA EE) qNl 0 ds d):qA EE 42 ds d:=
 hv Tryz.func42 rfl (xE (xE (xE uS))) (j9 rfl<|jU) x h
theorem zGm{ds:LR}{d:D}(x:ds.length=1)(h:qP EE (qA EE) zAb 0 ds d):qA EE 17 ds d:=
 hv Tryz.func17 rfl (xE (xE (xQ uS))) (jU) x h
theorem u6{ds:LR}{d:D}(x:ds.length=1)(h:qP EE (qA EE) qVA 0 ds d):qA EE 6 ds d:=
 hv Tryz.func6 rfl (xE (xQ (xQ uS))) (j9 rfl<|jU) x h
theorem zFV{ds:LR}{d:D}(x:ds.length=3)(h:qP EE (qA EE) qNj 0 ds d):qA EE 81 ds d:=
 hv Tryz.func81 rfl (xQ (xQ (xQ uS))) (j9 rfl<|j9 rfl<|jU) x h
theorem u5{ds:LR}{d:D}(x:ds.length=1)(h:qP EE (qA EE) qNk 0 ds d):qA EE 5 ds d:=
 hv Tryz.func5 rfl (xE (xE (xE (xQ (xQ (xQ uS)))))) (j9 rfl<|j9 rfl<|j9 rfl<|j9 rfl<|jU) x h
theorem zGn{ds:LR}{d:D}(x:ds.length=2)(h:qP EE (qA EE) zAd 0 ds d):qA EE 15 ds d:=
 hu Tryz.func15 rfl ((pI (xE (xE (zA uS)))).1) ((pI (xE (xE (xE (zA uS))))).1) ((xQ (zA uS))) (jU) x h
open Go.Am.Tt
variable{i:Nat}{l:D}
theorem qA4(h:i<l.es.length):∃x,l.es[i]? = some x:=⟨_,ak h⟩
theorem qKB{P:Nat->Prop}(N:Nat)(x:P N)(step:∀i,i<N->P (i+1)->P i):P 0:=by
 have y:∀m i,i+m=N->P i:=by
  intro m;induction m with
  |zero=>
   intro i h;have:i=N:=by omega
   subst this;exact x
  |succ m ih=>intro i h;exact step i (by omega) (ih (i+1) (by omega))
 exact y N 0 (by omega)
theorem qSF{l:LR}{x:D}(h:l[i]? = some x):l.drop i=x::l.drop (i+1):=by obtain⟨y,rfl⟩:=gI h;exact ew y
attribute [local irreducible] Go.Am.wp Go.Am.TOp.eval
variable{S:Tt.Spec}{f:LO}
theorem qNT(h:yA (qA EE) f S)(y:S.rs=[.int .i64])(c:S.pre=[])(e:Sn.mu 1048576 S.ss=true){ds:LR}(hd:jL 1048576 (Sn.nd S.ss) ds):∃n:Int,qA EE f ds (dI n):=by obtain⟨j,x,_,g⟩:=h ds (rQ e hd) (by rw[c];intro q b;cases b);rw[y]at x;simp only[zS,zC]at x;obtain⟨d,_,rfl,⟨n,rfl⟩,rfl⟩:=x;exact⟨n,g⟩
theorem qVM(h:yA (qA EE) f S)(y:S.rs=[.bool])(e:S.pre=[])(g:Sn.mu 1048576 S.ss=true){ds:LR}(hd:jL 1048576 (Sn.nd S.ss) ds):∃b:Bool,qA EE f ds (dB b):=by obtain⟨k,x,_,j⟩:=h ds (rQ g hd) (by rw[e];intro q c;cases c);rw[y]at x;simp only[zS,zC]at x;obtain⟨d,_,rfl,⟨n,rfl⟩,rfl⟩:=x;exact⟨n,j⟩
abbrev qPp{s:Sh}{d:D}(h:qF 1048576 s d):jL 1048576 [s] [d]:=qQ h jN
abbrev qJk{s t:Sh}{d e:D}(h:qF 1048576 s d)(k:qF 1048576 t e):jL 1048576 [s,t] [d,e]:=qQ h (qQ k jN)
variable{gs:D}
theorem zHk{fr to j g:D}{bg en:Bool}(q:qF 1048576 qD2 gs)(e:qF 1048576 nS fr)(b:qF 1048576 nS to)(o:qF 1048576 qS9 j)(k:qF 1048576 qS9 g):∃n:Int,qA EE 84 [.agg [gs],.agg [fr,to,j,g,dB bg,dB en]] (dI n)/\(n=0->to.es.length=fr.es.length):=by
 by_cases p:to.es.length=fr.es.length
 ·obtain⟨n,h⟩:=qNT (pF qB0 (f:=84) (S:=zFC.S) (by kernel_rfl)) rfl rfl (by decide) (ds:=[.agg [gs],.agg [fr,to,j,g,dB bg,dB en]]) (qJk (nK (qQ q jN)) (nK (qQ e (qQ b (qQ o (qQ k (qQ fZ (qQ fZ jN))))))));exact⟨n,h,λ_=>p⟩
 refine⟨1,?_,λh=>by cases h⟩;have x:=qC e;have y:=qC b;refine zFU rfl (qP.a9 ?_);refine bS (qS rfl) ?_;refine bS (qS rfl) ?_;refine bS (qB (off:=0) rfl x.one) ?_;refine bS (qO x) ?_;refine bS bC ?_;refine iC (λc=>?_) λc=>?_
 ·exact qE rfl rfl
 refine bS (qB (off:=1) rfl y.one) ?_;refine bS (qO y) ?_;refine bS (qB (off:=0) rfl x.one) ?_;refine bS (qO x) ?_;refine bS yQ ?_;refine iC (λd=>?_) λd=>?_
 ·exact qE rfl rfl
 have:=dF d;omega
variable{nm us:D}
theorem zHn{lt rs n ws fs:D}(F:qF 1048576 qD2 gs)(g:qF 1048576 qGA rs):∃e:Int,qA EE 42 [.agg [gs,nm,us,lt,rs,n,ws,fs,l]] (dI e)/\(e=0->∀r∈rs.es,qOR r):=by
 have y:=qC g;have C:=qR g;have j:∃e:Int,qP EE (qA EE) qNl 1 [dI ((0:Nat):Int),.agg [gs,nm,us,lt,rs,n,ws,fs,l]] (dI e)/\(e=0->∀r∈rs.es.drop 0,qOR r):=by
  refine qKB (P:=λi=>∃e:Int,qP EE (qA EE) qNl 1 [dI ((i:Nat):Int),.agg [gs,nm,us,lt,rs,n,ws,fs,l]] (dI e)/\(e=0->∀r∈rs.es.drop i,qOR r)) rs.es.length ?_ ?_
  ·refine⟨0,qP.a9 ?_,λ_ r g=>by rw[List.drop_length]at g;cases g⟩;refine bS (qB (off:=4) rfl y.one) ?_;refine bS (qO y) ?_;refine bS zN ?_;refine iC (λc=>?_) λc=>?_
   ·have:=cB c;omega
   exact qE rfl rfl
  intro i E ⟨e,ih,w⟩;obtain⟨x,b⟩:=qA4 E;obtain⟨_,rfl,fr,_,rfl,A,to,_,rfl,o,I,_,rfl,u,H,_,rfl,p,_,_,rfl,⟨bg,rfl⟩,_,_,rfl,⟨en,rfl⟩,rfl⟩:=zG g b;obtain⟨q,B,t⟩:=zHk (bg:=bg) (en:=en) F A o u p;by_cases k:q=0
  ·refine⟨e,qP.a9 ?_,λhe r g=>?_⟩
   ·refine bS (qB (off:=4) rfl y.one) ?_;refine bS (qO y) ?_;refine bS zN ?_;refine iC (λc=>?_) λc=>?_
    ·skip;refine bS (kI (off:=0) (size:=1) rfl) ?_;refine bS (qB (off:=4) rfl y.one) ?_;refine bS (vD (s:=((i:Nat):Int)) (by omega) b) ?_;refine bS (xO (s:=((i:Nat):Int)) y (by omega) b rfl) ?_;refine cS B ?_;refine bS yQ ?_;refine iC (λd=>?_) λd=>?_
     ·exact absurd k (dT d)
     refine bS (d:=dI ((i+1:Nat):Int)) (zF (zH (by omega))) ?_;exact qY rfl ih
    have:=qAh c;omega
   rw[qSF b]at g;rcases bl.1 g with rfl|g
   ·exact t k
   exact w he r g
  refine⟨q,qP.a9 ?_,λhe=>absurd he k⟩;refine bS (qB (off:=4) rfl y.one) ?_;refine bS (qO y) ?_;refine bS zN ?_;refine iC (λc=>?_) λc=>?_
  ·skip;refine bS (kI (off:=0) (size:=1) rfl) ?_;refine bS (qB (off:=4) rfl y.one) ?_;refine bS (vD (s:=((i:Nat):Int)) (by omega) b) ?_;refine bS (xO (s:=((i:Nat):Int)) y (by omega) b rfl) ?_;refine cS B ?_;refine bS yQ ?_;refine iC (λd=>?_) λd=>?_
   ·exact qE rfl rfl
   exact absurd (jv.1 (dF d)) k
  have:=qAh c;omega
 obtain⟨e,z,he⟩:=j;by_cases G:rs.es.length>12
 ·refine⟨11,zEW rfl (qP.a9 ?_),λh=>by cases h⟩;refine bS (qS rfl) ?_;refine bS (qB (off:=4) rfl y.one) ?_;refine bS (qO y) ?_;refine bS jS ?_;refine iC (λc=>?_) λc=>?_
  ·exact qE rfl rfl
  have:=dF c;omega
 refine⟨e,zEW rfl (qP.a9 ?_),λh=>by simpa using he h⟩;refine bS (qS rfl) ?_;refine bS (qB (off:=4) rfl y.one) ?_;refine bS (qO y) ?_;refine bS jS ?_;refine iC (λc=>?_) λc=>?_
 ·have:=dT c;omega
 exact qY rfl z
theorem nz{q:Int}(d:decide (¬q=0)=true):q≠0:=dT d
theorem zz{q:Int}(d:decide (¬q=0)=false):q=0:=jv.1 (dF d)
def qSO(e c b y x h g:Int):Int:=if e≠0 then e else if c≠0 then c else if b≠0 then b else if y≠0 then y else if x≠0 then x else if h≠0 then h else g
theorem qQd{j g e c b y x:Int}(h:qSO j g e c b y x=0):j=0/\g=0/\e=0/\c=0/\b=0/\y=0/\x=0:=by
 unfold qSO at h
 repeat' split at h
 all_goals omega
theorem zHr{lt rs n ws fs:D}{t r q p o k j:Int}(x:l.one=true)(E:qA EE 40 [.agg [gs]] (dI t))(C:qA EE 41 [.agg [gs],.agg [nm,us,lt]] (dI r))(B:qA EE 42 [.agg [gs,nm,us,lt,rs,n,ws,fs,l]] (dI q))(A:qA EE 5 [.agg [n,ws,fs]] (dI p))(z:qA EE 43 [.agg [gs],l] (dI o))(w:qA EE 44 [l] (dI k))(u:qA EE 45 [l] (dI j)):qA EE 17 [.agg [gs,nm,us,lt,rs,n,ws,fs,l]] (dI (qSO t r q p o k j)):=by
 unfold qSO;refine zGm rfl (qP.a9 ?_);refine bS (qS rfl) ?_;refine bS (kI (off:=0) (size:=1) rfl) ?_;refine cS E ?_;refine bS yQ ?_;refine iC (λc1=>?_) λc1=>?_
 ·rw[bo (nz c1)];exact qE rfl rfl
 rw[bf (λh=>h (zz c1))];refine bS (kI (off:=0) (size:=1) rfl) ?_;refine bS (kI (off:=1) (size:=3) rfl) ?_;refine cS C ?_;refine bS yQ ?_;refine iC (λg=>?_) λg=>?_
 ·rw[bo (nz g)];exact qE rfl rfl
 rw[bf (λh=>h (zz g))];refine cS B ?_;refine bS yQ ?_;refine iC (λe=>?_) λe=>?_
 ·rw[bo (nz e)];exact qE rfl rfl
 rw[bf (λh=>h (zz e))];refine bS (kI (off:=5) (size:=3) rfl) ?_;refine cS A ?_;refine bS yQ ?_;refine iC (λc=>?_) λc=>?_
 ·rw[bo (nz c)];exact qE rfl rfl
 rw[bf (λh=>h (zz c))];refine bS (kI (off:=0) (size:=1) rfl) ?_;refine bS (qB (off:=8) rfl x) ?_;refine cS z ?_;refine bS yQ ?_;refine iC (λb=>?_) λb=>?_
 ·rw[bo (nz b)];exact qE rfl rfl
 rw[bf (λh=>h (zz b))];refine bS (qB (off:=8) rfl x) ?_;refine cS w ?_;refine bS yQ ?_;refine iC (λy=>?_) λy=>?_
 ·rw[bo (nz y)];exact qE rfl rfl
 rw[bf (λh=>h (zz y))];refine bS (qB (off:=8) rfl x) ?_;refine cS u ?_;exact qE rfl rfl
theorem zGT(h:qF 1048576 qD2 gs):∃q:Int,qA EE 40 [.agg [gs]] (dI q):=qNT (pF qB0 (f:=40) (S:=zFK.S) (by kernel_rfl)) rfl rfl (by decide) (qPp (nK (qQ h jN)))
theorem zGS{lt:D}(b:qF 1048576 qD2 gs)(x:qF 1048576 .str nm)(h:qF 1048576 qM6 us)(y:qF 1048576 qQv lt):∃q:Int,qA EE 41 [.agg [gs],.agg [nm,us,lt]] (dI q):=
 qNT (pF qB0 (f:=41) (S:=zAE) (by kernel_rfl)) rfl rfl (by decide) (qJk (nK (qQ b jN)) (nK (qQ x (qQ h (qQ y jN)))))
theorem zGR(x:qF 1048576 qD2 gs)(h:qF 1048576 sM l):∃q:Int,qA EE 43 [.agg [gs],l] (dI q):=
 qNT (pF qB0 (f:=43) (S:=zFJ.S) (by kernel_rfl)) rfl rfl (by decide) (qJk (nK (qQ x jN)) h)
theorem zDC(h:qF 1048576 sM l):∃q:Int,qA EE 44 [l] (dI q):=qNT (pF qB0 (f:=44) (S:=zFI.S) (by kernel_rfl)) rfl rfl (by decide) (qPp h)
theorem zGQ(y:qF 1048576 sM l):∃q:Int,qA EE 45 [l] (dI q):=by
 obtain⟨b,h,_,c⟩:=(pF qB0 (f:=45) (S:=zFH.S) (by kernel_rfl)) [l] (rQ (B:=1048576) (by decide) (qPp y)) (by
  intro q x;rcases bl.1 x with rfl|x
  ·have g:=qIL (nV (B':=300000000) (by decide) y);have e:=qR y;show oK l<=(0:Int)+299999999;omega
  cases x)
 have h:zS [.int .i64] b:=h;simp only[zS,zC]at h;obtain⟨d,_,rfl,⟨n,rfl⟩,rfl⟩:=h;exact⟨n,c⟩
theorem zGP(h:qF 1048576 sM l):∃b:Bool,qA EE 16 [l] (dB b):=qVM (pF qB0 (f:=16) (S:=zFM.S) (by kernel_rfl)) rfl rfl (by decide) (qPp h)
theorem g6{lt rs ws fs:D}{n e:Int}(Z:qF 1048576 qD2 gs)(V:nm.one=true)(A:qF 1048576 qM6 us)(B:qF 1048576 qGA rs)(Q:qF 1048576 qQt ws)(hf:qF 1048576 nS fs)(N:qF 1048576 sM l)(k:qA EE 17 [.agg [gs,nm,us,lt,rs,dI n,ws,fs,l]] (dI e)):∃b:Bool,qA EE 6 [.agg [gs,nm,us,lt,rs,dI n,ws,fs,l]] (dB b)/\(b=true->e=0/\n<=3/\us.es.length<=10):=by
 have q:=qC Z;have p:=qC A;have y:=qC B;have o:=qC Q;have r:=qC hf;have z:=qC N;have O:=qR B;obtain⟨u,w⟩:=zGP N;have t:∃b:Bool,qP EE (qA EE) qVA 1 [dI ((0:Nat):Int),.agg [gs,nm,us,lt,rs,dI n,ws,fs,l]] (dB b)/\(b=true->e=0):=by
  refine qKB (P:=λi=>∃b:Bool,qP EE (qA EE) qVA 1 [dI ((i:Nat):Int),.agg [gs,nm,us,lt,rs,dI n,ws,fs,l]] (dB b)/\(b=true->e=0)) rs.es.length ?_ ?_
  ·refine⟨decide (e=0),qP.a9 ?_,λh=>dT h⟩;refine bS (qB (off:=4) rfl y.one) ?_;refine bS (qO y) ?_;refine bS zN ?_;refine iC (λc=>?_) λc=>?_
   ·have:=cB c;omega
   ·skip;refine cS k ?_;refine bS bC ?_;exact qE rfl rfl
  ·intro i X ⟨b,ih,F⟩;obtain⟨x,j⟩:=qA4 X;obtain⟨_,rfl,fr,_,rfl,E,to,_,rfl,R,lf,_,rfl,W,rg,_,rfl,U,_,_,rfl,⟨bg,rfl⟩,_,_,rfl,⟨en,rfl⟩,rfl⟩:=zG B j;have g:=qC E;by_cases h8:fr.es.length>8
   ·refine⟨false,qP.a9 ?_,λh=>by cases h⟩;refine bS (qB (off:=4) rfl y.one) ?_;refine bS (qO y) ?_;refine bS zN ?_;refine iC (λc=>?_) λc=>?_
    ·skip;refine bS (qB (off:=4) rfl y.one) ?_;refine bS (vD (s:=((i:Nat):Int)) (by omega) j) ?_;refine bS (oO (s:=((i:Nat):Int)) (off:=0) y (by omega) j rfl g.one (by decide)) ?_;refine bS (qO g) ?_;refine bS jS ?_;refine iC (λd=>?_) λd=>?_
     ·exact qE rfl rfl
     ·have:=dF d;omega
    ·have:=qAh c;omega
   ·refine⟨b,qP.a9 ?_,F⟩;refine bS (qB (off:=4) rfl y.one) ?_;refine bS (qO y) ?_;refine bS zN ?_;refine iC (λc=>?_) λc=>?_
    ·skip;refine bS (qB (off:=4) rfl y.one) ?_;refine bS (vD (s:=((i:Nat):Int)) (by omega) j) ?_;refine bS (oO (s:=((i:Nat):Int)) (off:=0) y (by omega) j rfl g.one (by decide)) ?_;refine bS (qO g) ?_;refine bS jS ?_;refine iC (λd=>?_) λd=>?_
     ·have:=dT d;omega
     ·skip;refine bS (d:=dI ((i+1:Nat):Int)) (zF (zH (by omega))) ?_;exact qY rfl ih
    ·have:=qAh c;omega
 obtain⟨b,C,F⟩:=t;refine⟨if gs.es.length>8∨us.es.length>10∨rs.es.length>2∨n>3∨ws.es.length>6∨fs.es.length>3∨u=false then false else b,u6 rfl (qP.a9 ?_),λh=>?_⟩
 ·show wp _ _ _ qVB _;refine bS (qS rfl) ?_;refine bS (qB (off:=0) rfl q.one) ?_;refine bS (qO q) ?_;refine bS jS ?_;refine iC (λc1=>?_) λc1=>?_
  ·have:=dT c1;rw[bo (by omega)];exact qE rfl rfl
  have h1:=dF c1;refine bS (qB (off:=2) rfl p.one) ?_;refine bS (qO p) ?_;refine bS jS ?_;refine iC (λM=>?_) λM=>?_
  ·have:=dT M;rw[bo (by omega)];exact qE rfl rfl
  have h2:=dF M;refine bS (qB (off:=4) rfl y.one) ?_;refine bS (qO y) ?_;refine bS jS ?_;refine iC (λL=>?_) λL=>?_
  ·have:=dT L;rw[bo (by omega)];exact qE rfl rfl
  have h3:=dF L;refine bS (qB (off:=5) rfl rfl) ?_;refine bS jS ?_;refine iC (λK=>?_) λK=>?_
  ·have:=dT K;rw[bo (by omega)];exact qE rfl rfl
  have h4:=dF K;refine bS (qB (off:=6) rfl o.one) ?_;refine bS (qO o) ?_;refine bS jS ?_;refine iC (λJ=>?_) λJ=>?_
  ·have:=dT J;rw[bo (by omega)];exact qE rfl rfl
  have h5:=dF J;refine bS (qB (off:=7) rfl r.one) ?_;refine bS (qO r) ?_;refine bS jS ?_;refine iC (λI=>?_) λI=>?_
  ·have:=dT I;rw[bo (by omega)];exact qE rfl rfl
  have h6:=dF I;refine bS (qB (off:=8) rfl z.one) ?_;refine cS w ?_;refine bS jJ ?_;refine iC (λH=>?_) λH=>?_
  ·have G:u=false:=by simpa using H
   rw[bo (by simp[G])];exact qE rfl rfl
  have G:u=true:=by simpa using H
  subst G;rw[bf (by simp;omega)];exact qY rfl C
 ·split at h
  ·cases h
  ·rename_i hc;exact⟨F h,by omega,by omega⟩
def qLZ:La
 |.agg [_,s]=>1<=s.es.length/\s.es.length<=3
 |_=>False
abbrev qVr(d:D):Prop:=∃n:Int,d=dI n/\n≠0
theorem zHl{lt x:D}(H:qF 300000000 qD2 gs)(p:qF 300000000 .str nm)(hu:qF 300000000 qM6 us)(G:qF 300000000 qQv lt)(he:us.es[i]? = some x):∃n:Int,qA EE 81 [.agg [gs],.agg [nm,us,lt],dI ((i:Nat):Int)] (dI n)/\(n=0->qLZ x):=by
 have V:=(gI he).1;have F:=qC H;have e:=qC hu;have I:=qR hu;have E:=qC G;obtain⟨_,rfl,_,_,rfl,⟨s0,rfl,w⟩,r,_,rfl,u,rfl⟩:=zG hu he;have k:=qC u;by_cases M:1<=r.es.length/\r.es.length<=3
 ·obtain⟨_,⟨n,rfl⟩,h⟩:=zFl (a:=.agg [gs]) (b:=.agg [nm,us,lt]) (c:=dI ((i:Nat):Int)) (nK (qQ H jN)) (nK (qQ p (qQ hu (qQ G jN)))) jB (by intro n p;cases p;omega) (by intro cs x n C J p;cases C;cases J;cases p;omega);exact⟨n,h,λ_=>M⟩
 obtain⟨q,rfl,N⟩:=p;suffices h:∃d,qVr d/\qP EE (qA EE) qNj 0 [.agg [gs],.agg [.leaf (.string q),us,lt],dI ((i:Nat):Int)] d by obtain⟨_,⟨n,rfl,z⟩,B⟩:=h;exact⟨n,zFV rfl B,λO=>absurd O z⟩
 obtain⟨_,⟨Q,rfl⟩,t⟩:=zFk (a:=.leaf (.string s0)) (rZ w);refine jF (R:=qVr) ?_;refine bS (qS rfl) ?_;refine bS (qS rfl) ?_;refine bS (qB (off:=1) rfl e.one) ?_;refine bS (vD (s:=((i:Nat):Int)) (by omega) he) ?_;refine bS (xO (s:=((i:Nat):Int)) e (by omega) he rfl) ?_;refine bS (qS rfl) ?_;refine bS (qB (off:=0) rfl rfl) ?_;refine cS t ?_;refine bS jJ ?_;refine iC (λc=>?_) λc=>?_
 ·exact zJ rfl ⟨3,rfl,by decide⟩
 refine zK rfl (vQ (P:=λj=>j<=i->∃d,qVr d/\qP EE (qA EE) qNj 1 [dI ((i:Nat):Int),dI ((j:Nat):Int),.agg [gs],.agg [.leaf (.string q),us,lt],.agg [.leaf (.string s0),r]] d) i (λj ih=>?_) 0 (by omega));intro U;refine jF (R:=qVr) ?_;refine bS zN ?_;refine iC (λd=>?_) λd=>?_
 ·have A:=cB d;obtain⟨y,o⟩:=qA4 (l:=us) (i:=j) (by omega);obtain⟨_,rfl,_,_,rfl,⟨s1,rfl,L⟩,sh,_,rfl,K,rfl⟩:=zG hu o;refine bS (qB (off:=1) rfl e.one) ?_;refine bS (vD (s:=((j:Nat):Int)) (by omega) o) ?_;refine bS (oO (s:=((j:Nat):Int)) (off:=0) e (by omega) o rfl rfl (by decide)) ?_;refine bS (qB (off:=0) rfl rfl) ?_;refine bS fL ?_;refine iC (λf=>?_) λf=>?_
  ·exact zJ rfl ⟨8,rfl,by decide⟩
  refine bS (d:=dI ((j+1:Nat):Int)) (zF (zH (by omega))) ?_;exact zK rfl (ih A (by omega))
 refine bS (qB (off:=1) rfl k.one) ?_;refine bS (qO k) ?_;refine bS zN ?_;refine iC (λf=>?_) λf=>?_
 ·exact zJ rfl ⟨19,rfl,by decide⟩
 have X:=dF f;refine bS (qB (off:=1) rfl k.one) ?_;refine bS (qO k) ?_;refine bS jS ?_;refine iC (λg=>?_) λg=>?_
 ·exact zJ rfl ⟨19,rfl,by decide⟩
 have W:=dF g;omega
theorem zHo{lt:D}(K:qF 1048576 qD2 gs)(p:qF 1048576 .str nm)(o:qF 1048576 qM6 us)(t:qF 1048576 qQv lt):∃q:Int,qA EE 41 [.agg [gs],.agg [nm,us,lt]] (dI q)/\(q=0->∀x∈us.es,qLZ x):=by
 by_cases r:∀x∈us.es,qLZ x
 ·obtain⟨q,h⟩:=zGS K p o t;exact⟨q,h,λ_=>r⟩
 have b:=qC o;have O:=qR o;have M:=qC K;have L:=qC t;have z:∃(k:Nat) (x:D),us.es[k]? = some x/\¬qLZ x:=by
  false_or_by_contra
  rename_i G
  refine r λx U=>?_
  obtain⟨k,N⟩:=List.getElem?_of_mem U
  false_or_by_contra
  rename_i E
  exact G ⟨k,x,N,E⟩
 obtain⟨k,xk,A,I⟩:=z;have N:=(gI A).1;have mo:∀{s:Sh} {d:D},qF 1048576 s d->qF 300000000 s d:=λh=>nV (by decide) h;obtain⟨_,⟨b59,rfl⟩,C⟩:=zFm (mo p);have B:∀{j:Nat} {x:D},us.es[j]? = some x->∃n:Int,qA EE 81 [.agg [gs],.agg [nm,us,lt],dI ((j:Nat):Int)] (dI n)/\(n=0->qLZ x):=λe=>zHl (mo K) (mo p) (mo o) (mo t) e;obtain⟨w,rfl,W⟩:=p;suffices h:∃d,qVr d/\qP EE (qA EE) qBU 0 [.agg [gs],.agg [.leaf (.string w),us,lt]] d by obtain⟨_,⟨n,rfl,H⟩,J⟩:=h;exact⟨n,zEX rfl J,λZ=>absurd Z H⟩
 refine jF (R:=qVr) ?_;refine bS (qS rfl) ?_;refine bS (qS rfl) ?_;refine bS (qB (off:=0) rfl rfl) ?_;refine cS C ?_;refine bS jJ ?_;refine iC (λc=>?_) λc=>?_
 ·exact zJ rfl ⟨7,rfl,by decide⟩
 refine bS (qB (off:=1) rfl b.one) ?_;refine bS (qO b) ?_;refine bS jS ?_;refine iC (λd=>?_) λd=>?_
 ·exact zJ rfl ⟨11,rfl,by decide⟩
 refine zK rfl (vQ (P:=λj=>j<=k->∃d,qVr d/\qP EE (qA EE) qBU 1 [dI ((j:Nat):Int),.agg [gs],.agg [.leaf (.string w),us,lt]] d) k (λj ih=>?_) 0 (by omega));intro hj;obtain⟨y,u⟩:=qA4 (l:=us) (i:=j) (by omega);obtain⟨q,V,F⟩:=B u;refine jF (R:=qVr) ?_;refine bS (qB (off:=1) rfl b.one) ?_;refine bS (qO b) ?_;refine bS zN ?_;refine iC (λf=>?_) λf=>?_
 ·skip;refine cS V ?_;refine bS yQ ?_;refine iC (λg=>?_) λg=>?_
  ·exact zJ rfl ⟨q,rfl,dT g⟩
  have Q:q=0:=jv.1 (dF g);have X:j≠k:=by rintro rfl;rw[A]at u;cases u;exact I (F Q)
  refine bS (d:=dI ((j+1:Nat):Int)) (zF (zH (by omega))) ?_;exact zK rfl (ih (by omega) (by omega))
 have:=qAh f;omega
end Go.Proofs.YtocbbgmhkhallaaGreatDoor
