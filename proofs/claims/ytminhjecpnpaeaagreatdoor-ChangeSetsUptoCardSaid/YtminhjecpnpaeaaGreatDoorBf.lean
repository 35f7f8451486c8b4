/- Copies: data that equality does not tell apart. Conditions: none. -/
import Derived.Test.YtminhjecpnpaeaaGreatDoorUv
import Derived.Test.YtminhjecpnpaeaaGreatDoorBd
set_option linter.unusedVariables false
set_option linter.unusedSimpArgs false
namespace Go.Am
open Go
def wB (el sz:Nat) (d:D):D:=.sl el sz d.es
def fG (a a':D):Prop:=∀ b,kD a' b=kD a b/\kD b a'=kD b a
theorem fG.refl (a:D):fG a a:=fun _=>⟨rfl,rfl⟩
def qAB:List D->List D->Prop
 | [],[]=>True
 | a::us,b::bs=>fG a b/\qAB us bs
 | _,_=>False
theorem qAB.deqs:∀ {us us':List D},qAB us us'->∀ bs,deqs us' bs=deqs us bs/\deqs bs us'=deqs bs us
 | [],[],_,_=>⟨rfl,rfl⟩
 | [],_::_,h,_=>by cases h
 | _::_,[],h,_=>by cases h
 | a::us,a'::us',h,[]=>⟨rfl,rfl⟩
 | a::us,a'::us',h,b::bs=>by
  obtain ⟨h1,h2⟩:=h.1 b
  obtain ⟨h3,h4⟩:=qAB.deqs h.2 bs
  simp only [qH,h1,h2,h3,h4,and_self]
theorem fG.agg {us us':List D} (h:qAB us us'):fG (.agg us) (.agg us'):=by
 intro b
 cases b with
 | agg bs =>
  obtain ⟨h1,h2⟩:=h.deqs bs
  simp only [qR,h1,h2,and_self]
 | _=>exact ⟨by simp only [kD],by simp only [kD]⟩
theorem qAB.empty:∀ {us us':List D},qAB us us'->us'.isEmpty=us.isEmpty
 | [],[],_=>rfl
 | [],_::_,h=>by cases h
 | _::_,[],h=>by cases h
 | _::_,_::_,_=>rfl
theorem fG.sl {el sz jA sz':Nat} {a:D} {es:List D} (ha:xL jA sz' a) (h:qAB a.es es):fG a (.sl el sz es):=by
 intro b
 rcases ha with rfl | ⟨us,rfl,_⟩
 ·have h:qAB [] es:=h
  cases es with
  | cons _ _=>cases h
  | nil =>
   cases b with
   | nil=>exact ⟨by simp only [kD,List.isEmpty_nil],by simp only [kD,List.isEmpty_nil]⟩
   | sl _ _ bs=>cases bs <;> exact ⟨by simp [kD,Go.Am.deqs],by simp [kD,Go.Am.deqs]⟩
   | _=>exact ⟨by simp only [kD],by simp only [kD]⟩
 have h:qAB us es:=h
 cases b with
 | nil=>exact ⟨by simp only [kD]; exact h.empty,by simp only [kD]; exact h.empty⟩
 | sl _ _ bs =>
  obtain ⟨h1,h2⟩:=h.deqs bs
  exact ⟨by simp only [kD,h1],by simp only [kD,h2]⟩
 | _=>exact ⟨by simp only [kD],by simp only [kD]⟩
theorem qDH:∀ us:List D,qAB us us
 | []=>trivial
 | a::us=>⟨.refl a,qDH us⟩
theorem qGq {f:D->D}:∀ {us:List D},(∀ x∈us,fG x (f x))->qAB us (us.map f)
 | [],_=>trivial
 | a::us,h=>⟨h a List.mem_cons_self,qGq fun x hx=>h x (mC _ hx)⟩
theorem qQo {el sz jA sz':Nat} {a:D} (ha:xL jA sz' a):fG a (wB el sz a):=.sl ha (qDH _)
theorem qQn {el sz jA sz':Nat} {a:D} {f:D->D} (ha:xL jA sz' a) (h:∀ x∈a.es,fG x (f x)):fG a (.sl el sz (a.es.map f)):=.sl ha (qGq h)
theorem fG.both {a a' b b':D} (ha:fG a a') (hb:fG b b'):kD a' b'=kD a b:=(ha b').1.trans (hb a).2
theorem qCW (es:List D) (k:∀ x∈es,kD x x=true):deqs es es=true:=by
 induction es with
 | nil=>rfl
 | cons a us ih=>simp only [qH,k a List.mem_cons_self,ih fun x hx=>k x (mC _ hx),Bool.and_self]
mutual
theorem qCa:∀ {s:Sh} {d:D},vA s d->kD d d=true
 | .int k,d,h=>by obtain ⟨n,rfl⟩:=h; simp [kD,qJT]
 | .bool,d,h=>by obtain ⟨n,rfl⟩:=h; simp [kD,qJT]
 | .str,d,h=>by obtain ⟨n,rfl⟩:=h; simp only [kD,qJT]; exact bP n
 | .st fs,d,h=>by
  simp only [vA] at h
  obtain ⟨cs,rfl,h⟩:=h
  simp only [kD]; exact qDK h
 | .sl el sz e,d,h=>by
  simp only [vA] at h
  rcases h with rfl | ⟨es,rfl,_,h⟩
  ·rfl
  simp only [kD]
  exact qCW es fun x hx=>qCa (s:=e) (h x hx)
theorem qDK:∀ {ss:List Sh} {ds:List D},vU ss ds->deqs ds ds=true
 | [],ds,h=>by simp only [vU] at h; subst h; rfl
 | s::ss,ds,h=>by
  simp only [vU] at h
  obtain ⟨d,r,rfl,h1,h2⟩:=h
  simp only [qH,qCa h1,qDK h2,Bool.and_self]
end
section
variable {E:Env} {B:Nat}
theorem bG {el sz:Nat}:TOp.eval E (.lit el sz) []=some (.sl el sz []):=by
 rw [tY]
 show (bif true && Nat.ble (0 * (sz+1)) 1000000 then _ else _)=_
 rw [Nat.zero_mul]; rfl
theorem qM4 {el sz:Nat} {x:D} (h:x.cells.length=sz) (hs:Nat.ble sz 1000=true):TOp.eval E (.lit el sz) [x]=some (.sl el sz [x]):=by
 rw [tY]
 have h1:Nat.beq x.cells.length sz=true:=by rw [h]; exact Nat.beq_refl _
 have h2:Nat.ble (Nat.mul [x].length (Nat.succ sz)) 1000000=true:=by
  have:=lB hs
  refine bL ?_
  show 1 * (sz+1)<=1000000
  omega
 simp only [List.all_cons,List.all_nil,h1,h2,Bool.and_self,cond_true]
theorem qCy {n bytes:Nat} (h:n<=4000000) (hb:bytes<=1000):Nat.ble (Nat.mul (Nat.add (Nat.mul 4 n) 4000) (Nat.succ bytes)) 100000000000=true:=by
 rw [Nat.ble_eq]
 have h1:4 * n+4000<=16004000:=by omega
 have h2:bytes+1<=1001:=by omega
 exact lT (Nat.mul_le_mul h1 h2) (lB rfl)
theorem yN {el sz bytes:Nat} {d:D} {e:Sh} (hd:qI B (.sl el sz e) d) (hb:bytes<=1000) (hl:d.es.length<=2000000):TOp.eval E (.app el sz bytes) [.sl el sz [],d]=some (wB el sz d):=by
 rw [tZ]
 have tt:∀ (b:Bool) (x y:Option D),b=true->(bif b then x else y)=x:=fun b x y hb=>by rw [hb]; rfl
 simp only [qI] at hd
 have hss:pY (.sl el sz [])=some 0:=rfl
 rw [hss]
 rcases hd with rfl | ⟨es,rfl,_,_⟩
 ·exact tt _ _ _ (qCy (by omega) hb)
 have h2:Nat.beq sz sz=true:=Nat.beq_refl _
 have h1:Nat.ble (Nat.mul (Nat.add (Nat.mul 4 (Nat.add 0 es.length)) 4000) (Nat.succ bytes)) 100000000000=true:=qCy (by have:(D.sl el sz es).es.length=es.length:=rfl; show 0+es.length<=_; omega) hb
 refine (tt _ _ _ (by rw [h1,h2]; show (true && true && (Nat.beq el el && Nat.beq sz sz))=true; rw [Nat.beq_refl,Nat.beq_refl]; rfl)).trans ?_
 rw [zC]
 split
 ·rename_i h0
  have:es=[]:=List.length_eq_zero_iff.1 h0
  subst this; rfl
 rfl
theorem dQ {el sz bytes:Nat} {l:List D} {y:D} (hb:bytes<=1000) (hl:l.length<=2000000):TOp.eval E (.app el sz bytes) [.sl el sz l,.sl el sz [y]]=some (.sl el sz (l++[y])):=by
 rw [tZ]
 have tt:∀ (b:Bool) (x y:Option D),b=true->(bif b then x else y)=x:=fun b x y hb=>by rw [hb]; rfl
 have h2:Nat.beq sz sz=true:=Nat.beq_refl _
 have hss:pY (.sl el sz l)=some l.length:=rfl
 rw [hss]
 have h1:Nat.ble (Nat.mul (Nat.add (Nat.mul 4 (Nat.add l.length [y].length)) 4000) (Nat.succ bytes)) 100000000000=true:=qCy (by show l.length+1<=_; omega) hb
 exact (tt _ _ _ (by rw [h1,h2]; show (true && true && (Nat.beq el el && Nat.beq sz sz))=true; rw [Nat.beq_refl,Nat.beq_refl]; rfl)).trans rfl
theorem cO {f:D->D} {l:List D} {i:Nat} {x:D} (h:l[i]? = some x):(l.take (i+1)).map f=(l.take i).map f++[f x]:=by
 rw [List.take_add_one,h,List.map_append]; rfl
theorem gJ {f:D->D} {l:List D} {i:Nat} (h:¬ i < l.length):(l.take i).map f=l.map f:=by
 rw [List.take_of_length_le (by omega)]
theorem cP {f:D->D} {l:List D} {i:Nat}:((l.take i).map f).length<=l.length:=by
 rw [List.length_map,List.length_take]; exact Nat.min_le_right _ _
end
end Go.Am
namespace Go.Proofs.YtminhjecpnpaeaaGreatDoor
open Go Go.Am Go.Proofs
attribute [local irreducible] Go.Am.wp Go.Am.TOp.eval
abbrev qLi:Sh:=.st [.int .i64,.int .i64]
abbrev qXF:Sh:=.st [.int .i64,uL,.int .i64,.sl 31 1 uL,.int .i64,.sl 94 2 (.st [.str,.str]),.sl 66 2 qLi,.sl 120 2 qLi]
abbrev qOh:Sh:=.st [.str,uL]
abbrev qXE:Sh:=.st [uL,uL,.sl 58 2 qLi,.sl 58 2 qLi,.bool,.bool]
abbrev qGZ:Sh:=.st [.sl 81 2 (.st [.str,.int .i64]),.str,.sl 77 2 qOh,.sl 50 1 (.sl 9 1 .str),.sl 39 6 qXE,.int .i64,.sl 92 3 (.st [.int .i64,.int .i64,.int .i64]),uL,.sl 64 8 qXF]
def qGY:D->D
 | .agg [x0,x1,x2,x3,x4,x5,x6,x7]=>.agg [x0,wB 3 1 x1,x2,.sl 31 1 (x3.es.map (wB 3 1)),x4,wB 94 2 x5,wB 66 2 x6,wB 120 2 x7]
 | d=>d
def qGX:D->D
 | .agg [x0,x1]=>.agg [x0,wB 3 1 x1]
 | d=>d
def qJy:D->D
 | .agg [x0,x1,x2,x3,x4,x5]=>.agg [wB 3 1 x0,wB 3 1 x1,wB 58 2 x2,wB 58 2 x3,x4,x5]
 | d=>d
def qXt:D->D
 | .agg [x0,x1,x2,x3,x4,x5,x6,x7,x8]=>.agg [wB 81 2 x0,x1,.sl 77 2 (x2.es.map qGX),.sl 50 1 (x3.es.map (wB 9 1)),.sl 39 6 (x4.es.map qJy),x5,wB 92 3 x6,wB 3 1 x7,.sl 64 8 (x8.es.map qGY)]
 | d=>d
variable {B:Nat}
theorem zAy {x0 x2 x4:Int} {x1 x3 x5 x6 x7:D} (h1:qI 1048576 uL x1) (h3:qI 1048576 (.sl 31 1 uL) x3) (h5:qI 1048576 (.sl 94 2 (.st [.str,.str])) x5) (h6:qI 1048576 (.sl 66 2 qLi) x6) (h7:qI 1048576 (.sl 120 2 qLi) x7) :
  qB EE 31 [.agg [dI x0,x1,dI x2,x3,dI x4,x5,x6,x7]] (qGY (.agg [dI x0,x1,dI x2,x3,dI x4,x5,x6,x7])):=by
 refine qZT rfl (qK.step' ?_)
 have i1:=qD h1
 have i3:=qD h3
 have i5:=qD h5
 have i6:=qD h6
 have i7:=qD h7
 have b1:=qJ h1
 have b3:=qJ h3
 have b5:=qJ h5
 have b6:=qJ h6
 have b7:=qJ h7
 refine bS (qU rfl) ?_
 refine bS bG ?_
 refine bS (qA (off:=1) rfl i1.one) ?_
 refine bS (d:=wB 3 1 x1) (yN h1 (by decide) (by omega)) ?_
 refine bS (qU rfl) ?_
 refine bS (qA (off:=0) rfl rfl) ?_
 refine bS (qA (off:=1) rfl i1.one) ?_
 refine bS (qA (off:=2) rfl rfl) ?_
 refine bS (qA (off:=3) rfl i3.one) ?_
 refine bS (qA (off:=4) rfl rfl) ?_
 refine bS (qA (off:=5) rfl i5.one) ?_
 refine bS (qA (off:=6) rfl i6.one) ?_
 refine bS (qA (off:=7) rfl i7.one) ?_
 refine bS bG ?_
 refine qE rfl (zR (P:=fun (i:Nat)=>∀ out:List D,out=(x3.es.take i).map (wB 3 1)->i<=x3.es.length->qK EE (qB EE) qR4 1 [.sl 31 1 out,dI ((i:Nat):Int),dI x0,wB 3 1 x1,dI x2,x3,dI x4,x5,x6,x7] (qGY (.agg [dI x0,x1,dI x2,x3,dI x4,x5,x6,x7]))) x3.es.length (fun i ih=>?_) 0 [] (by simp) (Nat.zero_le _))
 intro out ho hi
 refine qK.step' ?_
 have hol:out.length<=x3.es.length:=by rw [ho]; exact cP
 refine bS (qL i3) ?_
 refine bS zE ?_
 refine iC (fun c0=>?_) fun c0=>?_
 ·replace c0:=dT c0
  have hlt:i < x3.es.length:=by omega
  have he:x3.es[i]? = some x3.es[i]:=List.getElem?_eq_getElem hlt
  generalize x3.es[i]=y at he
  have hy:=zH h3 he
  have iy:=qD hy
  have bY:=qJ hy
  refine bS bG ?_
  refine bS (vM he) ?_
  refine bS (xP i3 he iy.one) ?_
  refine bS (d:=wB 3 1 y) (yN hy (by decide) (by omega)) ?_
  refine bS (jM rfl) ?_
  refine bS (d:=.sl 31 1 [wB 3 1 y]) (qM4 rfl (by decide)) ?_
  refine bS (d:=.sl 31 1 (out++[wB 3 1 y])) (dQ (by decide) (by omega)) ?_
  refine bS (d:=dI ((i+1:Nat):Int)) (zA (qX (by omega))) ?_
  exact qE rfl (ih hlt _ (by rw [ho,cO he]) hlt)
 replace c0:=dF c0
 refine bS bG ?_
 refine bS (d:=wB 94 2 x5) (yN h5 (by decide) (by omega)) ?_
 refine bS bG ?_
 refine bS (d:=wB 66 2 x6) (yN h6 (by decide) (by omega)) ?_
 refine bS bG ?_
 refine bS (d:=wB 120 2 x7) (yN h7 (by decide) (by omega)) ?_
 have hout:out=x3.es.map (wB 3 1):=by rw [ho,gJ (by omega)]
 subst hout
 exact qC rfl rfl
end Go.Proofs.YtminhjecpnpaeaaGreatDoor
namespace Go.Proofs.YtminhjecpnpaeaaGreatDoor
open Go Go.Am Go.Proofs
attribute [local irreducible] Go.Am.wp Go.Am.TOp.eval
theorem g9 {x5:Int} {s1:ByteArray} {x0 x2 x3 x4 x6 x7 x8:D} (h0:qI 1048576 (.sl 81 2 (.st [.str,.int .i64])) x0) (h2:qI 1048576 (.sl 77 2 qOh) x2) (h3:qI 1048576 (.sl 50 1 (.sl 9 1 .str)) x3) (h4:qI 1048576 (.sl 39 6 qXE) x4)
  (h6:qI 1048576 (.sl 92 3 (.st [.int .i64,.int .i64,.int .i64])) x6) (h7:qI 1048576 uL x7) (h8:qI 1048576 (.sl 64 8 qXF) x8) :
  qB EE 9 [.agg [x0,.leaf (.string s1),x2,x3,x4,dI x5,x6,x7,x8]] (qXt (.agg [x0,.leaf (.string s1),x2,x3,x4,dI x5,x6,x7,x8])):=by
 refine u9 rfl (qK.step' ?_)
 have i0:=qD h0
 have i2:=qD h2
 have i3:=qD h3
 have i4:=qD h4
 have i6:=qD h6
 have i7:=qD h7
 have i8:=qD h8
 have b0:=qJ h0
 have b2:=qJ h2
 have b3:=qJ h3
 have b4:=qJ h4
 have b6:=qJ h6
 have b7:=qJ h7
 have b8:=qJ h8
 generalize hcp:qXt (.agg [x0,.leaf (.string s1),x2,x3,x4,dI x5,x6,x7,x8])=fin
 have hcp:fin=.agg [wB 81 2 x0,.leaf (.string s1),.sl 77 2 (x2.es.map qGX),.sl 50 1 (x3.es.map (wB 9 1)),.sl 39 6 (x4.es.map qJy),dI x5,wB 92 3 x6,wB 3 1 x7,.sl 64 8 (x8.es.map qGY)]:=hcp.symm
 have r4:qK EE (qB EE) qE0 4 [.sl 64 8 [],dI ((0:Nat):Int),wB 81 2 x0,.leaf (.string s1),.sl 77 2 (x2.es.map qGX),.sl 50 1 (x3.es.map (wB 9 1)),.sl 39 6 (x4.es.map qJy),dI x5,wB 92 3 x6,wB 3 1 x7,x8] fin:=by
  refine zR (P:=fun (i:Nat)=>∀ out:List D,out=(x8.es.take i).map qGY->i<=x8.es.length->qK EE (qB EE) qE0 4 [.sl 64 8 out,dI ((i:Nat):Int),wB 81 2 x0,.leaf (.string s1),.sl 77 2 (x2.es.map qGX),.sl 50 1 (x3.es.map (wB 9 1)),.sl 39 6 (x4.es.map qJy),dI x5,wB 92 3 x6,wB 3 1 x7,x8] fin) x8.es.length (fun i ih=>?_) 0 [] (by simp) (Nat.zero_le _)
  intro out ho hi
  refine qK.step' ?_
  have hol:out.length<=x8.es.length:=by rw [ho]; exact cP
  refine bS (qL i8) ?_
  refine bS zE ?_
  refine iC (fun c0=>?_) fun c0=>?_
  ·replace c0:=dT c0
   have hlt:i < x8.es.length:=by omega
   have he:x8.es[i]? = some x8.es[i]:=List.getElem?_eq_getElem hlt
   generalize x8.es[i]=y at he
   obtain ⟨_,rfl,_,_,rfl,⟨y0,rfl⟩,y1,_,rfl,k1,_,_,rfl,⟨y2,rfl⟩,y3,_,rfl,k3,_,_,rfl,⟨y4,rfl⟩,y5,_,rfl,k5,y6,_,rfl,k6,y7,_,rfl,k7,rfl⟩:=zH h8 he
   refine bS (vM he) ?_
   refine bS (jO i8 he rfl) ?_
   refine cS (zAy k1 k3 k5 k6 k7) ?_
   refine bS (qU rfl) ?_
   refine bS (d:=.sl 64 8 [qGY (.agg [dI y0,y1,dI y2,y3,dI y4,y5,y6,y7])]) (qM4 rfl (by decide)) ?_
   refine bS (d:=.sl 64 8 (out++[qGY (.agg [dI y0,y1,dI y2,y3,dI y4,y5,y6,y7])])) (dQ (by decide) (by omega)) ?_
   refine bS (d:=dI ((i+1:Nat):Int)) (zA (qX (by omega))) ?_
   exact qE rfl (ih hlt _ (by rw [ho,cO he]) hlt)
  replace c0:=dF c0
  have hout:out=x8.es.map qGY:=by rw [ho,gJ (by omega)]
  subst hout
  exact qC rfl hcp.symm
 have r3:qK EE (qB EE) qE0 3 [.sl 39 6 [],dI ((0:Nat):Int),wB 81 2 x0,.leaf (.string s1),.sl 77 2 (x2.es.map qGX),.sl 50 1 (x3.es.map (wB 9 1)),x4,dI x5,x6,x7,x8] fin:=by
  refine zR (P:=fun (i:Nat)=>∀ out:List D,out=(x4.es.take i).map qJy->i<=x4.es.length->qK EE (qB EE) qE0 3 [.sl 39 6 out,dI ((i:Nat):Int),wB 81 2 x0,.leaf (.string s1),.sl 77 2 (x2.es.map qGX),.sl 50 1 (x3.es.map (wB 9 1)),x4,dI x5,x6,x7,x8] fin) x4.es.length (fun i ih=>?_) 0 [] (by simp) (Nat.zero_le _)
  intro out ho hi
  refine qK.step' ?_
  have hol:out.length<=x4.es.length:=by rw [ho]; exact cP
  refine bS (qL i4) ?_
  refine bS zE ?_
  refine iC (fun c0=>?_) fun c0=>?_
  ·replace c0:=dT c0
   have hlt:i < x4.es.length:=by omega
   have he:x4.es[i]? = some x4.es[i]:=List.getElem?_eq_getElem hlt
   generalize x4.es[i]=y at he
   obtain ⟨_,rfl,y0,_,rfl,k0,y1,_,rfl,k1,y2,_,rfl,k2,y3,_,rfl,k3,_,_,rfl,⟨y4,rfl⟩,_,_,rfl,⟨y5,rfl⟩,rfl⟩:=zH h4 he
   have j0:=qD k0
   have j1:=qD k1
   have j2:=qD k2
   have j3:=qD k3
   have c_0:=qJ k0
   have c_1:=qJ k1
   have c_2:=qJ k2
   have c_3:=qJ k3
   refine bS (vM he) ?_
   refine bS (jO i4 he rfl) ?_
   refine bS (qU rfl) ?_
   refine bS bG ?_
   refine bS (qA (off:=0) rfl j0.one) ?_
   refine bS (d:=wB 3 1 y0) (yN k0 (by decide) (by omega)) ?_
   refine bS bG ?_
   refine bS (qA (off:=1) rfl j1.one) ?_
   refine bS (d:=wB 3 1 y1) (yN k1 (by decide) (by omega)) ?_
   refine bS bG ?_
   refine bS (qA (off:=2) rfl j2.one) ?_
   refine bS (d:=wB 58 2 y2) (yN k2 (by decide) (by omega)) ?_
   refine bS bG ?_
   refine bS (qA (off:=3) rfl j3.one) ?_
   refine bS (d:=wB 58 2 y3) (yN k3 (by decide) (by omega)) ?_
   refine bS (qA (off:=4) rfl rfl) ?_
   refine bS (qA (off:=5) rfl rfl) ?_
   refine bS (qU rfl) ?_
   refine bS (d:=.sl 39 6 [.agg [wB 3 1 y0,wB 3 1 y1,wB 58 2 y2,wB 58 2 y3,dB y4,dB y5]]) (qM4 rfl (by decide)) ?_
   refine bS (d:=.sl 39 6 (out++[.agg [wB 3 1 y0,wB 3 1 y1,wB 58 2 y2,wB 58 2 y3,dB y4,dB y5]])) (dQ (by decide) (by omega)) ?_
   refine bS (d:=dI ((i+1:Nat):Int)) (zA (qX (by omega))) ?_
   exact qE rfl (ih hlt _ (by rw [ho,cO he]; rfl) hlt)
  replace c0:=dF c0
  have hout:out=x4.es.map qJy:=by rw [ho,gJ (by omega)]
  subst hout
  refine bS bG ?_
  refine bS (d:=wB 92 3 x6) (yN h6 (by decide) (by omega)) ?_
  refine bS bG ?_
  refine bS (d:=wB 3 1 x7) (yN h7 (by decide) (by omega)) ?_
  refine bS bG ?_
  exact qE rfl r4
 have r2:qK EE (qB EE) qE0 2 [.sl 77 2 (x2.es.map qGX),.sl 50 1 [],dI ((0:Nat):Int),wB 81 2 x0,.leaf (.string s1),x2,x3,x4,dI x5,x6,x7,x8] fin:=by
  refine zR (P:=fun (i:Nat)=>∀ out:List D,out=(x3.es.take i).map (wB 9 1)->i<=x3.es.length->qK EE (qB EE) qE0 2 [.sl 77 2 (x2.es.map qGX),.sl 50 1 out,dI ((i:Nat):Int),wB 81 2 x0,.leaf (.string s1),x2,x3,x4,dI x5,x6,x7,x8] fin) x3.es.length (fun i ih=>?_) 0 [] (by simp) (Nat.zero_le _)
  intro out ho hi
  refine qK.step' ?_
  have hol:out.length<=x3.es.length:=by rw [ho]; exact cP
  refine bS (qL i3) ?_
  refine bS zE ?_
  refine iC (fun c0=>?_) fun c0=>?_
  ·replace c0:=dT c0
   have hlt:i < x3.es.length:=by omega
   have he:x3.es[i]? = some x3.es[i]:=List.getElem?_eq_getElem hlt
   generalize x3.es[i]=y at he
   have hy:=zH h3 he
   have iy:=qD hy
   have bY:=qJ hy
   refine bS bG ?_
   refine bS (vM he) ?_
   refine bS (xP i3 he iy.one) ?_
   refine bS (d:=wB 9 1 y) (yN hy (by decide) (by omega)) ?_
   refine bS (jM rfl) ?_
   refine bS (d:=.sl 50 1 [wB 9 1 y]) (qM4 rfl (by decide)) ?_
   refine bS (d:=.sl 50 1 (out++[wB 9 1 y])) (dQ (by decide) (by omega)) ?_
   refine bS (d:=dI ((i+1:Nat):Int)) (zA (qX (by omega))) ?_
   exact qE rfl (ih hlt _ (by rw [ho,cO he]) hlt)
  replace c0:=dF c0
  have hout:out=x3.es.map (wB 9 1):=by rw [ho,gJ (by omega)]
  subst hout
  refine bS bG ?_
  exact qE rfl r3
 refine bS (qU rfl) ?_
 refine bS bG ?_
 refine bS (qA (off:=0) rfl i0.one) ?_
 refine bS (d:=wB 81 2 x0) (yN h0 (by decide) (by omega)) ?_
 refine bS (qU rfl) ?_
 refine bS (qA (off:=0) rfl i0.one) ?_
 refine bS (qA (off:=1) rfl rfl) ?_
 refine bS (qA (off:=2) rfl i2.one) ?_
 refine bS (qA (off:=3) rfl i3.one) ?_
 refine bS (qA (off:=4) rfl i4.one) ?_
 refine bS (qA (off:=5) rfl rfl) ?_
 refine bS (qA (off:=6) rfl i6.one) ?_
 refine bS (qA (off:=7) rfl i7.one) ?_
 refine bS (qA (off:=8) rfl i8.one) ?_
 refine bS bG ?_
 refine qE rfl (zR (P:=fun (i:Nat)=>∀ out:List D,out=(x2.es.take i).map qGX->i<=x2.es.length->qK EE (qB EE) qE0 1 [.sl 77 2 out,dI ((i:Nat):Int),wB 81 2 x0,.leaf (.string s1),x2,x3,x4,dI x5,x6,x7,x8] fin) x2.es.length (fun i ih=>?_) 0 [] (by simp) (Nat.zero_le _))
 intro out ho hi
 refine qK.step' ?_
 have hol:out.length<=x2.es.length:=by rw [ho]; exact cP
 refine bS (qL i2) ?_
 refine bS zE ?_
 refine iC (fun c0=>?_) fun c0=>?_
 ·replace c0:=dT c0
  have hlt:i < x2.es.length:=by omega
  have he:x2.es[i]? = some x2.es[i]:=List.getElem?_eq_getElem hlt
  generalize x2.es[i]=y at he
  obtain ⟨_,rfl,_,_,rfl,⟨y0,rfl,_⟩,y1,_,rfl,k1,rfl⟩:=zH h2 he
  have j1:=qD k1
  have c_1:=qJ k1
  refine bS (vM he) ?_
  refine bS (d:=.leaf (.string y0)) (rU (off:=0) i2 he rfl rfl (by decide)) ?_
  refine bS bG ?_
  refine bS (vM he) ?_
  refine bS (d:=y1) (rU (off:=1) i2 he rfl j1.one (by decide)) ?_
  refine bS (d:=wB 3 1 y1) (yN k1 (by decide) (by omega)) ?_
  refine bS (qU rfl) ?_
  refine bS (d:=.sl 77 2 [.agg [.leaf (.string y0),wB 3 1 y1]]) (qM4 rfl (by decide)) ?_
  refine bS (d:=.sl 77 2 (out++[.agg [.leaf (.string y0),wB 3 1 y1]])) (dQ (by decide) (by omega)) ?_
  refine bS (d:=dI ((i+1:Nat):Int)) (zA (qX (by omega))) ?_
  exact qE rfl (ih hlt _ (by rw [ho,cO he]; rfl) hlt)
 replace c0:=dF c0
 have hout:out=x2.es.map qGX:=by rw [ho,gJ (by omega)]
 subst hout
 refine bS bG ?_
 exact qE rfl r2
end Go.Proofs.YtminhjecpnpaeaaGreatDoor
