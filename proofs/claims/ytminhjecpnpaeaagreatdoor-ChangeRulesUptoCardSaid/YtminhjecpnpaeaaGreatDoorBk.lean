/- Copies of languages are the languages; whether one is light. Conditions: none. -/
import Derived.Test.YtminhjecpnpaeaaGreatDoorBf
import Derived.Test.YtminhjecpnpaeaaGreatDoorBi
import Derived.Test.YtminhjecpnpaeaaGreatDoorBj
import Derived.Test.YtminhjecpnpaeaaGreatDoorBa
import Derived.Test.YtminhjecpnpaeaaGreatDoorOp
import Derived.Test.YtminhjecpnpaeaaGreatDoorAm7
set_option linter.unusedVariables false
set_option linter.unusedSimpArgs false
namespace Go.Proofs.YtminhjecpnpaeaaGreatDoor
open Go Go.Am Go.Proofs Go.Am.Tt Lt
attribute [local irreducible] Go.Am.wp Go.Am.TOp.eval
variable{B:Nat}
theorem yR{el sz zS y:Nat}{e:Sh}{d:D}(h:qC B (.sl el sz e) d):qC B (.sl zS y e) (wU zS y d):=
 lL (qK h) λx b=>by obtain⟨i,c⟩:=List.mem_iff_getElem?.1 b;exact jG h c
theorem cM{el sz zS b:Nat}{e e':Sh}{d:D}{f:D->D}(h:qC B (.sl el sz e) d)(k:∀x,qC B e x->qC B e' (f x)):qC B (.sl zS b e') (.sl zS b (d.es.map f)):=
 lL (by rw[List.length_map];exact qK h) λx g=>by obtain⟨y,c,rfl⟩:=List.mem_map.1 g;obtain⟨i,j⟩:=List.mem_iff_getElem?.1 c;exact k y (jG h j)
theorem eF{el sz zS y:Nat}{e:Sh}{d:D}{f:D->D}(h:qC 1048576 (.sl el sz e) d)(g:∀x,qC 1048576 e x->aR x (f x)):aR d (.sl zS y (d.es.map f)):=
 qRJ (qB h) λx b=>by obtain⟨i,c⟩:=List.mem_iff_getElem?.1 b;exact g x (jG h c)
theorem yU{el sz zS x:Nat}{e:Sh}{d:D}(h:qC 1048576 (.sl el sz e) d):aR d (wU zS x d):=qRK (qB h)
theorem qF0{x:D}(h:qC 1048576 qWv x):qC 1048576 qWv (qMq x)/\aR x (qMq x):=by obtain⟨_,rfl,_,_,rfl,⟨q,rfl⟩,p,_,rfl,i,_,_,rfl,⟨o,rfl⟩,y3,_,rfl,g,_,_,rfl,⟨l,rfl⟩,k,_,rfl,e,y6,_,rfl,c,j,_,rfl,b,rfl⟩:=h;exact⟨tQ (qN jH (qN (yR i) (qN jH (qN (cM g λx y=>yR y) (qN jH (qN (yR e) (qN (yR c) (qN (yR b) wE)))))))),.agg ⟨.refl _,yU i,.refl _,eF g λx y=>yU y,.refl _,yU e,yU c,yU b,trivial⟩⟩
theorem qFY{x:D}(h:qC 1048576 qMH x):qC 1048576 qMH (qJp x)/\aR x (qJp x):=by obtain⟨_,rfl,_,_,rfl,⟨e,rfl,b⟩,c,_,rfl,y,rfl⟩:=h;exact⟨tQ (qN (cL b) (qN (yR y) wE)),.agg ⟨.refl _,yU y,trivial⟩⟩
theorem qFZ{x:D}(h:qC 1048576 qEM x):qC 1048576 qEM (qKX x)/\aR x (qKX x):=by obtain⟨_,rfl,l,_,rfl,e,k,_,rfl,c,j,_,rfl,b,y3,_,rfl,y,_,_,rfl,⟨i,rfl⟩,_,_,rfl,⟨g,rfl⟩,rfl⟩:=h;exact⟨tQ (qN (yR e) (qN (yR c) (qN (yR b) (qN (yR y) (qN fK (qN fK wE)))))),.agg ⟨yU e,yU c,yU b,yU y,.refl _,.refl _,trivial⟩⟩
theorem qRU{g:D}(h:qC 1048576 qMI g):Holds EE 9 [g] (qYS g)/\vF qMI (qYS g)/\aR g (qYS g):=by
 obtain⟨_,rfl,z,_,rfl,l,_,_,rfl,⟨A,rfl,o⟩,w,_,rfl,k,u,_,rfl,j,t,_,rfl,i,_,_,rfl,⟨x5,rfl⟩,r,_,rfl,e,q,_,rfl,c,p,_,rfl,b,rfl⟩:=h;refine⟨g9 l k j i e c b,qFI (B:=1048576) ?_,?_⟩
 ·exact tQ (qN (yR l) (qN (cL o) (qN (cM k λx y=>(qFY y).1) (qN (cM j λx y=>yR y) (qN (cM i λx y=>(qFZ y).1) (qN jH (qN (yR e) (qN (yR c) (qN (cM b λx y=>(qF0 y).1) wE)))))))))
 exact .agg ⟨yU l,.refl _,eF k λx y=>(qFY y).2,eF j λx y=>yU y,eF i λx y=>(qFZ y).2,.refl _,yU e,yU c,eF b λx y=>(qF0 y).2,trivial⟩
theorem qWb{g:D}(h:qC 1048576 qMI g):∃cs,g=.agg cs/\cs.length=9:=by obtain⟨_,rfl,j,_,rfl,h_0,x1,_,rfl,h_1,i,_,rfl,h_2,e,_,rfl,h_3,c,_,rfl,h_4,x5,_,rfl,h_5,b,_,rfl,h_6,y,_,rfl,h_7,x,_,rfl,h_8,rfl⟩:=h;exact⟨_,rfl,rfl⟩
theorem qQj{B el sz:Nat}{e:Sh}{d:D}(h:qC B (.sl el sz e) d):iJ d=(d.es.length:Int):=by simp only[qC]at h;rcases h with rfl|⟨es,rfl,_⟩<;>rfl
theorem qOb{g:D}(h:qC 1048576 qMI g):∃t,Holds EE 6 [g] (dB t):=by
 have e:=h;obtain⟨_,rfl,p,_,rfl,h_0,x1,_,rfl,h_1,o,_,rfl,h_2,l,_,rfl,h_3,k,_,rfl,h_4,x5,_,rfl,h_5,j,_,rfl,h_6,i,_,rfl,h_7,y,_,rfl,h_8,rfl⟩:=h;have hv:iJ y=(y.es.length:Int):=qQj h_8;have r:=qK h_8;obtain⟨rs,x,_,c⟩:=qX3 [_] (d8 (B:=1048576) (ss:=e6.S.ss) rfl (qN e wE)) (by
  intro q b;rcases List.mem_cons.1 b with rfl|b
  ·show iJ y<=(0:Int)+299999999;omega
  cases b)
 have x:zZ [.bool] rs:=x;simp only[zZ,qZ]at x;obtain⟨d,_,rfl,⟨t,rfl⟩,rfl⟩:=x;exact⟨t,c⟩
theorem qJY{a b:D}(x:vF qMI a)(h:vF qMI b)(e:aR b a):Holds EE 13 [a,b] (dB true):=by have k:=zBP x h;rw[(e b).1,qC3 h]at k;exact k
end Go.Proofs.YtminhjecpnpaeaaGreatDoor
namespace Go.Proofs.YtminhjecpnpaeaaGreatDoor
open Go Go.Am Go.Proofs
theorem zBC:qOg (qMj Tryz.prog) Tryz.f7.results.toList (qNq (qMj Tryz.prog) 100000 (.code (vB Tryz.f7) ⟨Nat.max Tryz.f7.ntmps 0,false,.leaf⟩) (qAZ 1000))=true:=by kernel_rfl
theorem qYk:Nat.ble Tryz.prog.globals.size 1000=true:=by kernel_rfl
theorem zAP:EOk (qMj Tryz.prog):=qRL qYh qXH
theorem qTS:(qMj Tryz.prog).funcs.get 7=some Tryz.f7:=by kernel_rfl
theorem qYV:Tryz.f7.body=some (vB Tryz.f7):=by kernel_rfl
theorem qYW:Holds EE 7 [] (dB true):=by refine qFG ⟨_,xD (c:=vB Tryz.f7) Tryz.func7 rfl (by kernel_rfl)⟩ λw=>?_;obtain⟨y,H2,h,n3,x⟩:=qQ6 zAP zBC;exact qHO (E:=qMj Tryz.prog) rfl rfl qYk (qIC zAP qTS qYV h n3 x) w
end Go.Proofs.YtminhjecpnpaeaaGreatDoor
