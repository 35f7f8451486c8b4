/- What the reference's check of one note's place says. Conditions: none. -/
import Derived.Test.YthhlmoidofecpaaGreatZi
import Derived.Test.YthhlmoidofecpaaGreatZe
set_option linter.unusedVariables false
set_option linter.unusedSimpArgs false
namespace Go.Proofs.YthhlmoidofecpaaGreat
open Go Go.Am Go.Proofs Go.Am.Tr
theorem qS3:cH EE.prog 4 60=some [.int .i64,.int .i64]:=by kernel_rfl
theorem qTd:rV EE.prog 60=true:=by kernel_rfl
theorem qTD:EE.prog.eqGuardType EE.prog.depth 60=false:=by kernel_rfl
theorem qTl {x y:Operand} {a b c d:Int}:TOp.eval EE (.bin .neq 60 x y) [.agg [dI a,dI b],.agg [dI c,dI d]]=some (dB (!(decide (((a,b):Pr)=(c,d))))):=by
 rw [aX .neq (.inl rfl) qS3 qTd (by decide:4<=10000) qTD rfl (x:=x) (y:=y) (xU gP (xU gP lJ)) (xU gP (xU gP lJ))]
 exact congrArg (fun t=>some (dB (!t))) (dq (p:=(a,b)) (q:=(c,d)))
def qSz (F:Prop) (r:Res1):Prop:=match r with
 | .ret d'=>∃ e:Int,d'=dI e/\(e=0->F)
 | .jump _ _=>False
theorem qDO {Ts:Nat->Tree} {k:Nat} {ρ:List D} {F:Prop} (h:wp EE (Holds EE) (qSz F) (Ts k) ρ):∃ e:Int,qH EE (Holds EE) Ts k ρ (dI e)/\(e=0->F):=by
 obtain ⟨r,h1,h2⟩:=oK _ _ h
 cases r with
 | ret d'=>obtain ⟨e,rfl,he⟩:=h1; exact ⟨e,qH.step (h2 _ rfl),he⟩
 | jump k' ds=>exact h1.elim
theorem vH {xs:List SV} {ρ:List D} {e:Int} {F:Prop} (hx:SV.ds (getD ρ) xs=[dI e]) (he:e=0->F):wp EE (Holds EE) (qSz F) (.ret xs) ρ:=by
 simp only [wp,hx,qSz,mQ]; exact ⟨e,rfl,he⟩
attribute [local irreducible] Go.Am.wp Go.Am.TOp.eval
theorem qTB {f o:Int}:∃ b:Bool,Holds EE 118 [.agg [dI f,dI o]] (dB b)/\(b=true->f < o):=by
 by_cases h:0<=f/\f < o
 ·refine ⟨decide (o<=86400000),qOR rfl (qH.step' ?_),fun _=>h.2⟩
  refine bS (qI rfl) ?_
  refine bS (qA (off:=0) rfl rfl) ?_
  refine bS kC ?_
  refine qC (t:=true) (congrArg (fun q=>dB q) (tD h.1)) ?_
  refine zQ ?_
  refine bS (qA (off:=0) rfl rfl) ?_
  refine bS (qA (off:=1) rfl rfl) ?_
  refine bS qJ ?_
  refine qC (t:=true) (congrArg (fun q=>dB q) (tD h.2)) ?_
  refine zQ ?_
  refine bS (qA (off:=1) rfl rfl) ?_
  refine bS wY ?_
  exact qM rfl rfl
 refine ⟨false,qOR rfl (qH.step' ?_),fun h=>by cases h⟩
 refine bS (qI rfl) ?_
 refine bS (qA (off:=0) rfl rfl) ?_
 refine bS kC ?_
 refine iC (fun c=>?_) fun c=>?_
 ·have c1:=dT c
  refine bS (qA (off:=0) rfl rfl) ?_
  refine bS (qA (off:=1) rfl rfl) ?_
  refine bS qJ ?_
  refine qC (t:=false) (congrArg (fun q=>dB q) (fD (fun h'=>h ⟨c1,h'⟩))) ?_
  refine zB ?_
  exact qM rfl rfl
 exact qM rfl rfl
section
variable {di ln dy:Int} {nm sp T M:D} {ts:List Tr} {ns:List Nt}
theorem qVB {n:Nt} (h_nm:nm.one=true) (h_sp:sp.one=true) (i_T:jA 58 4 T) (hT:T.es=ts.map qCS) (i_M:jA 62 7 M) (hM:M.es=ns.map kY) (hn:ns.length<=1000) (h0:0<=n.ti) (hlt:n.ti < (ts.length:Int)) :
  ∃ e:Int,Holds EE 83 [.agg [dI di,nm,dI ln,dI dy,sp,T,M],kY n] (dI e)/\(e=0->qK1 ts ns n):=by
 have tf:=aS hT h0 hlt
 have k20:=qOD (di:=di) (ln:=ln) (dy:=dy) (r:=n.pa) h_nm h_sp i_T.one i_M hM hn
 obtain ⟨rt,k118,f118⟩:=qTB (f:=n.fr) (o:=n.to)
 have hfin:∀ (_:(xE ts n.ti).kd=0->n.pa=0) (_:(xE ts n.ti).kd≠0->(yL ns n.pa).isSome=true/\((yL ns n.pa).getD zN).ti=(xE ts n.ti).pa) (_:l9 (xE ts n.ti).kd=true->rt=true) (_:l9 (xE ts n.ti).kd=false->n.fr=0) (_:n.rk≠0->(xE ts n.ti).kd=3),qK1 ts ns n:=fun a b c d e =>
  ⟨⟨h0,hlt⟩,a,fun h=>by
   obtain ⟨b1,b2⟩:=b h
   cases hg:yL ns n.pa with
   | none=>rw [hg] at b1; cases b1
   | some p=>rw [hg] at b2; exact ⟨p,rfl,b2⟩,fun h=>f118 (c h),d,e⟩
 generalize qK1 ts ns n=F at *
 unfold mV at k20
 generalize (yL ns n.pa).isSome=sa at *
 generalize (yL ns n.pa).getD zN=pn at *
 obtain ⟨pi,pt,pp,pf,po,pr,px⟩:=pn
 obtain ⟨xi,xt,xp,xf,xo,xr,xx⟩:=n
 have tf:T.es[xt.toNat]? = some (.agg [.leaf (.string (xE ts xt).nm),dI (xE ts xt).kd,dI (xE ts xt).rl,dI (xE ts xt).pa]):=tf
 have h0:0<=xt:=h0
 have hfin:∀ (_:(xE ts xt).kd=0->xp=0) (_:(xE ts xt).kd≠0->sa=true/\pt=(xE ts xt).pa) (_:l9 (xE ts xt).kd=true->rt=true) (_:l9 (xE ts xt).kd=false->xf=0) (_:xr≠0->(xE ts xt).kd=3),F:=hfin
 generalize (xE ts xt).nm=tn at *
 generalize (xE ts xt).kd=kd at *
 generalize (xE ts xt).rl=tl at *
 generalize (xE ts xt).pa=tp at *
 have k63:=qJ9 (k:=kd)
 suffices h:wp EE (Holds EE) (qSz F) qIz [.agg [dI di,nm,dI ln,dI dy,sp,T,M],.agg [dI xi,dI xt,dI xp,dI xf,dI xo,dI xr,.leaf (.string xx)]] by
  obtain ⟨e,g1,g2⟩:=qDO (Ts:=qNk) (k:=0) h
  exact ⟨e,qUR rfl g1,g2⟩
 refine bS (qI rfl) ?_
 refine bS (qI rfl) ?_
 refine bS (qA (off:=5) rfl i_T.one) ?_
 refine bS (qA (off:=1) rfl rfl) ?_
 refine bS (qP (s:=xt) (by omega) tf) ?_
 refine bS (qZ (s:=xt) i_T (by omega) tf rfl) ?_
 refine bS (qI rfl) ?_
 refine bS (qA (off:=2) rfl rfl) ?_
 refine cS k20 ?_
 refine bS (vP rfl) ?_
 refine bS (vP rfl) ?_
 refine bS (qI rfl) ?_
 refine bS (qA (off:=1) rfl rfl) ?_
 refine bS zJ ?_
 refine iC (fun c1=>?_) fun c1=>?_
 ·have a1:=dT c1
  have al:l9 kd=true:=by unfold l9; rw [tD a1]; rfl
  have k3:¬ kd=3:=by omega
  refine bS (qA (off:=2) rfl rfl) ?_
  refine bS zR ?_
  refine iC (fun c2=>?_) fun c2=>?_
  ·have a2:=dT c2
   exact vH rfl (fun h=>by cases h)
  have a2:=Decidable.of_not_not (dF c2)
  refine bS (qA (off:=1) rfl rfl) ?_
  refine bS zR ?_
  refine qC (t:=false) (congrArg (fun q=>dB q) (fD (fun h=>h a1))) ?_
  refine zB ?_
  refine bS (qA (off:=1) rfl rfl) ?_
  refine cS k63 ?_
  refine bS v6 ?_
  refine qC (t:=false) (congrArg (fun q=>dB q) (by rw [al]; rfl)) ?_
  refine zB ?_
  refine bS (qA (off:=1) rfl rfl) ?_
  refine cS k63 ?_
  refine qC (t:=true) (congrArg (fun q=>dB q) al) ?_
  refine zQ ?_
  refine bS (pF (off:=3) (size:=2) rfl) ?_
  refine cS k118 ?_
  refine bS v6 ?_
  refine iC (fun c3=>?_) fun c3=>?_
  ·have a3:rt=false:=by simpa using c3
   exact vH rfl (fun h=>by cases h)
  have a3:rt=true:=by simpa using c3
  refine bS (qA (off:=1) rfl rfl) ?_
  refine bS zJ ?_
  refine qC (t:=true) (congrArg (fun q=>dB q) (tD a1)) ?_
  refine zQ ?_
  refine bS (qA (off:=4) rfl rfl) ?_
  refine bS (qA (off:=2) rfl rfl) ?_
  refine bS vQ ?_
  refine iC (fun c4=>?_) fun c4=>?_
  ·have a4:=dT c4
   exact vH rfl (fun h=>by cases h)
  have a4:=dF c4
  refine bS (qA (off:=1) rfl rfl) ?_
  refine cS k63 ?_
  refine qC (t:=true) (congrArg (fun q=>dB q) al) ?_
  refine zQ ?_
  refine bS (qA (off:=1) rfl rfl) ?_
  refine bS zR ?_
  refine qC (t:=false) (congrArg (fun q=>dB q) (fD (fun h=>h a1))) ?_
  refine zB ?_
  refine bS (qA (off:=5) rfl rfl) ?_
  refine bS qJ ?_
  refine iC (fun c5=>?_) fun c5=>?_
  ·have a5:=dT c5
   exact vH rfl (fun h=>by cases h)
  have a5:=dF c5
  refine bS (qA (off:=5) rfl rfl) ?_
  refine bS zR ?_
  refine iC (fun c6=>?_) fun c6=>?_
  ·have a6:=dT c6
   refine bS (qA (off:=1) rfl rfl) ?_
   refine bS zR ?_
   refine qC (t:=true) (congrArg (fun q=>dB q) (tD k3)) ?_
   refine zQ ?_
   exact vH rfl (fun h=>by cases h)
  have a6:=Decidable.of_not_not (dF c6)
  exact vH rfl (fun _=>hfin (fun _=>a2) (fun h=>absurd a1 h) (fun _=>a3) (fun h=>by rw [al] at h; cases h) (fun h=>absurd a6 h))
 have a1:=dF c1
 refine bS (qA (off:=1) rfl rfl) ?_
 refine bS zR ?_
 refine qC (t:=true) (congrArg (fun q=>dB q) (tD a1)) ?_
 refine zQ ?_
 refine bS v6 ?_
 refine iC (fun c7=>?_) fun c7=>?_
 ·have a7:sa=false:=by simpa using c7
  exact vH rfl (fun h=>by cases h)
 have a7:sa=true:=by simpa using c7
 refine bS (qA (off:=1) rfl rfl) ?_
 refine bS (qA (off:=3) rfl rfl) ?_
 refine bS zR ?_
 refine iC (fun c8=>?_) fun c8=>?_
 ·have a8:=dT c8
  exact vH rfl (fun h=>by cases h)
 have a8:=Decidable.of_not_not (dF c8)
 refine bS (qA (off:=1) rfl rfl) ?_
 refine cS k63 ?_
 refine bS v6 ?_
 refine iC (fun c9=>?_) fun c9=>?_
 ·have a9:l9 kd=false:=by simpa using c9
  refine bS (pF (off:=3) (size:=2) rfl) ?_
  refine bS qTl ?_
  refine iC (fun c10=>?_) fun c10=>?_
  ·have a10:=qTm c10
   exact vH rfl (fun h=>by cases h)
  have a10:=qTn c10
  refine bS (qA (off:=1) rfl rfl) ?_
  refine cS k63 ?_
  refine qC (t:=false) (congrArg (fun q=>dB q) a9) ?_
  refine zB ?_
  refine bS (qA (off:=1) rfl rfl) ?_
  refine bS zJ ?_
  refine qC (t:=false) (congrArg (fun q=>dB q) (fD a1)) ?_
  refine zB ?_
  refine bS (qA (off:=1) rfl rfl) ?_
  refine cS k63 ?_
  refine qC (t:=false) (congrArg (fun q=>dB q) a9) ?_
  refine zB ?_
  refine bS (qA (off:=5) rfl rfl) ?_
  refine bS qJ ?_
  refine iC (fun c11=>?_) fun c11=>?_
  ·have a11:=dT c11
   exact vH rfl (fun h=>by cases h)
  have a11:=dF c11
  refine bS (qA (off:=5) rfl rfl) ?_
  refine bS zR ?_
  refine iC (fun c12=>?_) fun c12=>?_
  ·have a12:=dT c12
   refine bS (qA (off:=1) rfl rfl) ?_
   refine bS zR ?_
   refine iC (fun c13=>?_) fun c13=>?_
   ·have a13:=dT c13
    exact vH rfl (fun h=>by cases h)
   have a13:=Decidable.of_not_not (dF c13)
   exact vH rfl (fun _=>hfin (fun h=>absurd h a1) (fun _=>⟨a7,a8⟩) (fun h=>by rw [a9] at h; cases h) (fun _=>congrArg Prod.fst a10) (fun _=>a13))
  have a12:=Decidable.of_not_not (dF c12)
  exact vH rfl (fun _=>hfin (fun h=>absurd h a1) (fun _=>⟨a7,a8⟩) (fun h=>by rw [a9] at h; cases h) (fun _=>congrArg Prod.fst a10) (fun h=>absurd a12 h))
 have a9:l9 kd=true:=by simpa using c9
 have k3:¬ kd=3:=fun h=>by rw [h] at a9; cases a9
 refine bS (qA (off:=1) rfl rfl) ?_
 refine cS k63 ?_
 refine qC (t:=true) (congrArg (fun q=>dB q) a9) ?_
 refine zQ ?_
 refine bS (pF (off:=3) (size:=2) rfl) ?_
 refine cS k118 ?_
 refine bS v6 ?_
 refine iC (fun c14=>?_) fun c14=>?_
 ·have a14:rt=false:=by simpa using c14
  exact vH rfl (fun h=>by cases h)
 have a14:rt=true:=by simpa using c14
 refine bS (qA (off:=1) rfl rfl) ?_
 refine bS zJ ?_
 refine qC (t:=false) (congrArg (fun q=>dB q) (fD a1)) ?_
 refine zB ?_
 refine bS (qA (off:=1) rfl rfl) ?_
 refine cS k63 ?_
 refine qC (t:=true) (congrArg (fun q=>dB q) a9) ?_
 refine zQ ?_
 refine bS (qA (off:=1) rfl rfl) ?_
 refine bS zR ?_
 refine qC (t:=true) (congrArg (fun q=>dB q) (tD a1)) ?_
 refine zQ ?_
 refine bS (qA (off:=3) rfl rfl) ?_
 refine bS (qA (off:=3) rfl rfl) ?_
 refine bS qJ ?_
 refine iC (fun c15=>?_) fun c15=>?_
 ·have a15:=dT c15
  exact vH rfl (fun h=>by cases h)
 have a15:=dF c15
 refine bS (qA (off:=4) rfl rfl) ?_
 refine bS (qA (off:=4) rfl rfl) ?_
 refine bS vQ ?_
 refine iC (fun c16=>?_) fun c16=>?_
 ·have a16:=dT c16
  exact vH rfl (fun h=>by cases h)
 have a16:=dF c16
 refine bS (qA (off:=5) rfl rfl) ?_
 refine bS qJ ?_
 refine iC (fun c17=>?_) fun c17=>?_
 ·have a17:=dT c17
  exact vH rfl (fun h=>by cases h)
 have a17:=dF c17
 refine bS (qA (off:=5) rfl rfl) ?_
 refine bS zR ?_
 refine iC (fun c18=>?_) fun c18=>?_
 ·have a18:=dT c18
  refine bS (qA (off:=1) rfl rfl) ?_
  refine bS zR ?_
  refine qC (t:=true) (congrArg (fun q=>dB q) (tD k3)) ?_
  refine zQ ?_
  exact vH rfl (fun h=>by cases h)
 have a18:=Decidable.of_not_not (dF c18)
 exact vH rfl (fun _=>hfin (fun h=>absurd h a1) (fun _=>⟨a7,a8⟩) (fun _=>a14) (fun h=>by rw [a9] at h; cases h) (fun h=>absurd a18 h))
end
end Go.Proofs.YthhlmoidofecpaaGreat
namespace Go.Proofs.YthhlmoidofecpaaGreat
open Go Go.Am Go.Proofs Go.Am.Tr Go.Am.Tt
attribute [local irreducible] Go.Am.wp Go.Am.TOp.eval
section
variable {di ln dy:Int} {nm sp T M:D} {ts:List Tr} {ns:List Nt}
theorem qVE {i:Nat} {n:Nt} (h_nm:nm.one=true) (h_sp:sp.one=true) (i_T:jA 58 4 T) (hT:T.es=ts.map qCS) (i_M:jA 62 7 M) (hM:M.es=ns.map kY) (hn:ns.length<=1000) (h_n:ns[i]? = some n) (hs:n.tx.size<=1048576) :
  ∃ e:Int,Holds EE 50 [.agg [dI di,nm,dI ln,dI dy,sp,T,M],dI ((i:Nat):Int)] (dI e)/\(e=0->1<=n.id/\(∀ m:Nt,0 < i->ns[i - 1]? = some m->m.id < n.id)/\qK1 ts ns n):=by
 have hl:M.es.length=ns.length:=by rw [hM,List.length_map]
 have hTl:T.es.length=ts.length:=by rw [hT,List.length_map]
 have hil:i < ns.length:=(gI h_n).1
 have e_x:M.es[i]? = some (kY n):=by rw [hM,List.getElem?_map,h_n]; rfl
 obtain ⟨x82,k82⟩:=qRz (gZ iM (f:=82) (S:=qUC.S) (by kernel_rfl)) rfl (by decide) (ds:=[.leaf (.string n.tx)]) (qJ7 (nS hs)) (fun q hq=>by cases hq)
 have k83:=fun (a:0<=n.ti) (b:n.ti < (ts.length:Int))=>qVB (di:=di) (ln:=ln) (dy:=dy) h_nm h_sp i_T hT i_M hM hn a b
 have hfin:1<=n.id->(∀ m:Nt,0 < i->ns[i - 1]? = some m->m.id < n.id)->qK1 ts ns n->(1<=n.id/\(∀ m:Nt,0 < i->ns[i - 1]? = some m->m.id < n.id)/\qK1 ts ns n):=fun a b c=>⟨a,b,c⟩
 generalize (1<=n.id/\(∀ m:Nt,0 < i->ns[i - 1]? = some m->m.id < n.id)/\qK1 ts ns n)=F at *
 generalize qK1 ts ns n=G at *
 clear h_n hs
 obtain ⟨xi,xt,xp,xf,xo,xr,xx⟩:=n
 have e_x:M.es[i]? = some (.agg [dI xi,dI xt,dI xp,dI xf,dI xo,dI xr,.leaf (.string xx)]):=e_x
 have k83:∀ (_:0<=xt) (_:xt < (ts.length:Int)),∃ e:Int,Holds EE 83 [.agg [dI di,nm,dI ln,dI dy,sp,T,M],.agg [dI xi,dI xt,dI xp,dI xf,dI xo,dI xr,.leaf (.string xx)]] (dI e)/\(e=0->G):=k83
 have hfin:1<=xi->(∀ m:Nt,0 < i->ns[i - 1]? = some m->m.id < xi)->G->F:=hfin
 suffices h:wp EE (Holds EE) (qSz F) qIA [.agg [dI di,nm,dI ln,dI dy,sp,T,M],dI ((i:Nat):Int)] by
  obtain ⟨e,g1,g2⟩:=qDO (Ts:=qNA) (k:=0) h
  exact ⟨e,qUX rfl g1,g2⟩
 cases i with
 | zero =>
  refine bS (qI rfl) ?_
  refine bS (qA (off:=6) rfl i_M.one) ?_
  refine bS (qP (s:=((0:Nat):Int)) (by omega) e_x) ?_
  refine bS (qZ (s:=((0:Nat):Int)) i_M (by omega) e_x rfl) ?_
  refine bS (qI rfl) ?_
  refine bS (qA (off:=0) rfl rfl) ?_
  refine bS qJ ?_
  refine iC (fun c1=>?_) fun c1=>?_
  ·exact vH rfl (fun h=>by cases h)
  have a1:=dF c1
  refine bS (qA (off:=0) rfl rfl) ?_
  refine bS vQ ?_
  refine iC (fun c2=>?_) fun c2=>?_
  ·exact vH rfl (fun h=>by cases h)
  refine bS vQ ?_
  refine qC (t:=false) (congrArg (fun q=>dB q) (fD (by omega))) ?_
  refine zB ?_
  refine bS (qA (off:=1) rfl rfl) ?_
  refine bS qJ ?_
  refine iC (fun c3=>?_) fun c3=>?_
  ·exact vH rfl (fun h=>by cases h)
  have a3:=dF c3
  refine bS (qA (off:=1) rfl rfl) ?_
  refine bS (qA (off:=5) rfl i_T.one) ?_
  refine bS (qQ i_T) ?_
  refine bS kC ?_
  refine iC (fun c4=>?_) fun c4=>?_
  ·exact vH rfl (fun h=>by cases h)
  have a4:=dF c4
  obtain ⟨e,k83,f83⟩:=k83 (by omega) (by omega)
  refine bS (qA (off:=6) rfl rfl) ?_
  refine cS k82 ?_
  refine bS zR ?_
  refine iC (fun c5=>?_) fun c5=>?_
  ·have a5:=dT c5
   exact vH rfl (fun h=>absurd h a5)
  refine cS k83 ?_
  exact vH rfl (fun h=>hfin (by omega) (fun m hm=>absurd hm (Nat.lt_irrefl 0)) (f83 h))
 | succ p =>
  obtain ⟨q,h_q,e_p⟩:=jX hM (show p < ns.length by omega)
  have hfin:1<=xi->q.id < xi->G->F:=fun a b c=>hfin a (fun m _ hm=>by
   have hm:ns[p]? = some m:=hm
   rw [h_q] at hm; cases hm; exact b) c
  clear h_q
  obtain ⟨yi,yt,yp,yf,yo,yr,yx⟩:=q
  have hfin:1<=xi->yi < xi->G->F:=hfin
  have e_p:M.es[p]? = some (.agg [dI yi,dI yt,dI yp,dI yf,dI yo,dI yr,.leaf (.string yx)]):=e_p
  refine bS (qI rfl) ?_
  refine bS (qA (off:=6) rfl i_M.one) ?_
  refine bS (qP (s:=((p+1:Nat):Int)) (by omega) e_x) ?_
  refine bS (qZ (s:=((p+1:Nat):Int)) i_M (by omega) e_x rfl) ?_
  refine bS (qI rfl) ?_
  refine bS (qA (off:=0) rfl rfl) ?_
  refine bS qJ ?_
  refine iC (fun c1=>?_) fun c1=>?_
  ·exact vH rfl (fun h=>by cases h)
  have a1:=dF c1
  refine bS (qA (off:=0) rfl rfl) ?_
  refine bS vQ ?_
  refine iC (fun c2=>?_) fun c2=>?_
  ·exact vH rfl (fun h=>by cases h)
  refine bS vQ ?_
  refine qC (t:=true) (congrArg (fun q=>dB q) (tD (by omega))) ?_
  refine zQ ?_
  refine bS (qA (off:=0) rfl rfl) ?_
  refine bS (qA (off:=6) rfl i_M.one) ?_
  refine bS (d:=dI ((p:Nat):Int)) (qIX (by unfold zG; omega)) ?_
  refine bS (qP (s:=((p:Nat):Int)) (by omega) e_p) ?_
  refine bS (zI (s:=((p:Nat):Int)) (off:=0) i_M (by omega) e_p rfl rfl (by decide)) ?_
  refine bS wY ?_
  refine iC (fun c6=>?_) fun c6=>?_
  ·exact vH rfl (fun h=>by cases h)
  have a6:=dF c6
  refine bS (qA (off:=1) rfl rfl) ?_
  refine bS qJ ?_
  refine iC (fun c3=>?_) fun c3=>?_
  ·exact vH rfl (fun h=>by cases h)
  have a3:=dF c3
  refine bS (qA (off:=1) rfl rfl) ?_
  refine bS (qA (off:=5) rfl i_T.one) ?_
  refine bS (qQ i_T) ?_
  refine bS kC ?_
  refine iC (fun c4=>?_) fun c4=>?_
  ·exact vH rfl (fun h=>by cases h)
  have a4:=dF c4
  obtain ⟨e,k83,f83⟩:=k83 (by omega) (by omega)
  refine bS (qA (off:=6) rfl rfl) ?_
  refine cS k82 ?_
  refine bS zR ?_
  refine iC (fun c5=>?_) fun c5=>?_
  ·have a5:=dT c5
   exact vH rfl (fun h=>absurd h a5)
  refine cS k83 ?_
  exact vH rfl (fun h=>hfin (by omega) (by omega) (f83 h))
theorem qVG (h_nm : nm.one = true) (h_sp : sp.one = true) (hBT : qS 1048576 qQH T) (hT : T.es = ts.map qCS) (hBM : qS 1048576 qSB M) (hM : M.es = ns.map kY) (hn : ns.length <= 14) (hnt : ts.length <= 6) :
    ∃ e : Int, Holds EE 27 [.agg [dI di, nm, dI ln, dI dy, sp, T, M]] (dI e) /\ (e = 0 -> Raw ts ns) := by
  have i_T := qL hBT
  have i_M := qL hBM
  have hl : M.es.length = ns.length := by rw [hM, List.length_map]
  have hTl : T.es.length = ts.length := by rw [hT, List.length_map]
  have hs : ∀ n ∈ ns, n.tx.size <= 1048576 := fun n hnm => by
    obtain ⟨i, hi⟩ := List.getElem?_of_mem hnm
    have hx := jQ hBM (i := i) (x := kY n) (by rw [hM, List.getElem?_map, hi]; rfl)
    obtain ⟨_, he, _, _, rfl, _, _, _, rfl, _, _, _, rfl, _, _, _, rfl, _, _, _, rfl, _, _, _, rfl, _, _, _, rfl, ⟨s, rfl, hsz⟩, _⟩ := hx
    cases he
    exact hsz
  obtain ⟨qSi, k49, f49⟩ := qVF hBT hT
  have k50 := fun (i : Nat) (n : Nt) (h : ns[i]? = some n) => qVE (di := di) (ln := ln) (dy := dy) h_nm h_sp i_T hT i_M hM (by omega) h (hs n (List.mem_of_getElem? h))
  have k51 := fun (t : Int) (a : 0 <= t) (b : t < (ts.length : Int)) => qVD (di := di) (ln := ln) (dy := dy) h_nm h_sp i_T hT i_M hM (by omega) hs a b
  have tiers : ∃ e : Int, qH EE (Holds EE) qCY 2 [dI ((0 : Nat) : Int), .agg [dI di, nm, dI ln, dI dy, sp, T, M]] (dI e) /\ (e = 0 -> ∀ (i : Nat), 0 <= i -> i < ts.length -> ∀ n ∈ ns, n.ti = (i : Int) -> Tr.SOk ts ns n) := by
    refine wS (P := fun j => ∃ e : Int, qH EE (Holds EE) qCY 2 [dI ((j : Nat) : Int), .agg [dI di, nm, dI ln, dI dy, sp, T, M]] (dI e) /\ (e = 0 -> ∀ (i : Nat), j <= i -> i < ts.length -> ∀ n ∈ ns, n.ti = (i : Int) -> Tr.SOk ts ns n)) ts.length ?_ ?_
    · refine ⟨0, qH.step' ?_, fun _ i h1 h2 => by omega⟩
      refine bS (qA (off := 5) rfl i_T.one) ?_
      refine bS (qQ i_T) ?_
      refine bS qJ ?_
      refine iC (fun c=>?_) fun c=>?_
      · have := j0 c; omega
      · exact qM rfl rfl
    · intro j hj ⟨e, ih, hih⟩
      obtain ⟨q, hq, hq0⟩ := k51 ((j : Nat) : Int) (by omega) (by omega)
      have hjT : ((j : Nat) : Int) < ((T.es.length : Nat) : Int) := by omega
      by_cases hz : q = 0
      · refine ⟨e, qH.step' ?_, fun he i h1 h2 n hnm hti => ?_⟩
        · show wp _ _ _ qID _
          refine bS (qA (off := 5) rfl i_T.one) ?_
          refine bS (qQ i_T) ?_
          refine bS qJ ?_
          refine qC (t := true) (congrArg (fun q => dB q) (tD hjT)) ?_
          refine zQ ?_
          refine cS hq ?_
          refine bS zR ?_
          refine qC (t := false) (congrArg (fun q => dB q) (fD (fun h => h hz))) ?_
          refine zB ?_
          refine bS (d := dI ((j + 1 : Nat) : Int)) (qT (qO (by omega))) ?_
          exact qE rfl ih
        · by_cases hij : i = j
          · subst hij; exact hq0 hz n hnm hti
          · exact hih he i (by omega) h2 n hnm hti
      · refine ⟨q, qH.step' ?_, fun he => absurd he hz⟩
        refine bS (qA (off := 5) rfl i_T.one) ?_
        refine bS (qQ i_T) ?_
        refine bS qJ ?_
        refine qC (t := true) (congrArg (fun q => dB q) (tD hjT)) ?_
        refine zQ ?_
        refine cS hq ?_
        refine bS zR ?_
        refine qC (t := true) (congrArg (fun q => dB q) (tD hz)) ?_
        refine zQ ?_
        exact qM rfl rfl
  obtain ⟨e2, h2, f2⟩ := tiers
  have notes : ∃ e : Int, qH EE (Holds EE) qCY 1 [dI ((0 : Nat) : Int), .agg [dI di, nm, dI ln, dI dy, sp, T, M]] (dI e) /\ (e = 0 -> e2 = 0 /\ ∀ (i : Nat) (n : Nt), 0 <= i -> ns[i]? = some n -> 1 <= n.id /\ (∀ m : Nt, 0 < i -> ns[i - 1]? = some m -> m.id < n.id) /\ qK1 ts ns n) := by
    refine wS (P := fun j => ∃ e : Int, qH EE (Holds EE) qCY 1 [dI ((j : Nat) : Int), .agg [dI di, nm, dI ln, dI dy, sp, T, M]] (dI e) /\ (e = 0 -> e2 = 0 /\ ∀ (i : Nat) (n : Nt), j <= i -> ns[i]? = some n -> 1 <= n.id /\ (∀ m : Nt, 0 < i -> ns[i - 1]? = some m -> m.id < n.id) /\ qK1 ts ns n)) ns.length ?_ ?_
    · refine ⟨e2, qH.step' ?_, fun h => ⟨h, fun i n hi hin => ?_⟩⟩
      · show wp _ _ _ qF2 _
        refine bS (qA (off := 6) rfl i_M.one) ?_
        refine bS (qQ i_M) ?_
        refine bS qJ ?_
        refine iC (fun c=>?_) fun c=>?_
        · have := j0 c; omega
        · exact qE rfl h2
      · have := (gI hin).1
        omega
    · intro j hj ⟨e, ih, hih⟩
      obtain ⟨n, h_n⟩ : ∃ n, ns[j]? = some n := ⟨_, List.getElem?_eq_getElem hj⟩
      obtain ⟨q, hq, hq0⟩ := k50 j n h_n
      have hjM : ((j : Nat) : Int) < ((M.es.length : Nat) : Int) := by omega
      by_cases hz : q = 0
      · refine ⟨e, qH.step' ?_, fun he => ⟨(hih he).1, fun i m hi hm => ?_⟩⟩
        · show wp _ _ _ qF2 _
          refine bS (qA (off := 6) rfl i_M.one) ?_
          refine bS (qQ i_M) ?_
          refine bS qJ ?_
          refine qC (t := true) (congrArg (fun q => dB q) (tD hjM)) ?_
          refine zQ ?_
          refine cS hq ?_
          refine bS zR ?_
          refine qC (t := false) (congrArg (fun q => dB q) (fD (fun h => h hz))) ?_
          refine zB ?_
          refine bS (d := dI ((j + 1 : Nat) : Int)) (qT (qO (by omega))) ?_
          exact qE rfl ih
        · by_cases hij : i = j
          · subst hij; rw [h_n] at hm; cases hm; exact hq0 hz
          · exact (hih he).2 i m (by omega) hm
      · refine ⟨q, qH.step' ?_, fun he => absurd he hz⟩
        refine bS (qA (off := 6) rfl i_M.one) ?_
        refine bS (qQ i_M) ?_
        refine bS qJ ?_
        refine qC (t := true) (congrArg (fun q => dB q) (tD hjM)) ?_
        refine zQ ?_
        refine cS hq ?_
        refine bS zR ?_
        refine qC (t := true) (congrArg (fun q => dB q) (tD hz)) ?_
        refine zQ ?_
        exact qM rfl rfl
  obtain ⟨e1, h1, f1⟩ := notes
  have raw : qSi = 0 -> e1 = 0 -> Raw ts ns := fun a b =>
    have F := f1 b
    { ht := f49 a
      hi := fun i n h => ⟨(F.2 i n (Nat.zero_le _) h).1, (F.2 i n (Nat.zero_le _) h).2.1⟩
      hn := fun n h => by obtain ⟨i, hi⟩ := List.getElem?_of_mem h; exact (F.2 i n (Nat.zero_le _) hi).2.2
      hs := fun n h => by
        obtain ⟨i, hi⟩ := List.getElem?_of_mem h
        have ht := (F.2 i n (Nat.zero_le _) hi).2.2.1
        exact f2 F.1 n.ti.toNat (Nat.zero_le _) (by omega) n h (by omega) }
  by_cases hz : qSi = 0
  · by_cases hln : 0 <= ln
    · by_cases hlm : ln <= 86400000
      · refine ⟨e1, qSD rfl (qH.step' ?_), raw hz⟩
        refine bS (qI rfl) ?_
        refine bS (qA (off := 5) rfl i_T.one) ?_
        refine cS k49 ?_
        refine bS zR ?_
        refine qC (t := false) (congrArg (fun q => dB q) (fD (fun h => h hz))) ?_
        refine zB ?_
        refine bS (qA (off := 2) rfl rfl) ?_
        refine bS qJ ?_
        refine qC (t := false) (congrArg (fun q => dB q) (fD (by omega))) ?_
        refine zB ?_
        refine bS (qA (off := 2) rfl rfl) ?_
        refine bS vQ ?_
        refine qC (t := false) (congrArg (fun q => dB q) (fD (by omega))) ?_
        refine zB ?_
        refine bS (qA (off := 6) rfl i_M.one) ?_
        refine bS (qQ i_M) ?_
        refine bS vQ ?_
        refine qC (t := false) (congrArg (fun q => dB q) (fD (by omega))) ?_
        refine zB ?_
        exact qE rfl h1
      · refine ⟨12, qSD rfl (qH.step' ?_), fun h => by cases h⟩
        refine bS (qI rfl) ?_
        refine bS (qA (off := 5) rfl i_T.one) ?_
        refine cS k49 ?_
        refine bS zR ?_
        refine qC (t := false) (congrArg (fun q => dB q) (fD (fun h => h hz))) ?_
        refine zB ?_
        refine bS (qA (off := 2) rfl rfl) ?_
        refine bS qJ ?_
        refine qC (t := false) (congrArg (fun q => dB q) (fD (by omega))) ?_
        refine zB ?_
        refine bS (qA (off := 2) rfl rfl) ?_
        refine bS vQ ?_
        refine qC (t := true) (congrArg (fun q => dB q) (tD (by omega))) ?_
        refine zQ ?_
        exact qM rfl rfl
    · refine ⟨12, qSD rfl (qH.step' ?_), fun h => by cases h⟩
      refine bS (qI rfl) ?_
      refine bS (qA (off := 5) rfl i_T.one) ?_
      refine cS k49 ?_
      refine bS zR ?_
      refine qC (t := false) (congrArg (fun q => dB q) (fD (fun h => h hz))) ?_
      refine zB ?_
      refine bS (qA (off := 2) rfl rfl) ?_
      refine bS qJ ?_
      refine qC (t := true) (congrArg (fun q => dB q) (tD (by omega))) ?_
      refine zQ ?_
      exact qM rfl rfl
  · refine ⟨qSi, qSD rfl (qH.step' ?_), fun h => absurd h hz⟩
    refine bS (qI rfl) ?_
    refine bS (qA (off := 5) rfl i_T.one) ?_
    refine cS k49 ?_
    refine bS zR ?_
    refine qC (t := true) (congrArg (fun q => dB q) (tD hz)) ?_
    refine zQ ?_
    exact qM rfl rfl
theorem qVH (h_nm:nm.one=true) (i_sp:jA 3 1 sp) (hBT:qS 1048576 qQH T) (hT:T.es=ts.map qCS) (hBM:qS 1048576 qSB M) (hM:M.es=ns.map kY) :
  ∃ b:Bool,Holds EE 14 [.agg [dI di,nm,dI ln,dI dy,sp,T,M]] (dB b)/\(b=true->vV ts ns/\ts.length<=6/\ns.length<=14):=by
 have i_T:=qL hBT
 have i_M:=qL hBM
 have hl:M.es.length=ns.length:=by rw [hM,List.length_map]
 have hTl:T.es.length=ts.length:=by rw [hT,List.length_map]
 by_cases h1:ns.length<=14
 ·by_cases h2:ts.length<=6
  ·obtain ⟨e,k27,f27⟩:=qVG (di:=di) (ln:=ln) (dy:=dy) h_nm i_sp.one hBT hT hBM hM h1 h2
   by_cases h3:((sp.es.length:Nat):Int)<=6
   ·refine ⟨decide (e=0),qSE rfl (qH.step' ?_),fun h=>⟨(f27 (dT h)).facts,h2,h1⟩⟩
    refine bS (qI rfl) ?_
    refine bS (qA (off:=6) rfl i_M.one) ?_
    refine bS (qQ i_M) ?_
    refine bS wY ?_
    refine qC (t:=true) (congrArg (fun q=>dB q) (tD (by omega))) ?_
    refine zQ ?_
    refine bS (qA (off:=5) rfl i_T.one) ?_
    refine bS (qQ i_T) ?_
    refine bS wY ?_
    refine qC (t:=true) (congrArg (fun q=>dB q) (tD (by omega))) ?_
    refine zQ ?_
    refine bS (qA (off:=4) rfl i_sp.one) ?_
    refine bS (qQ i_sp) ?_
    refine bS wY ?_
    refine qC (t:=true) (congrArg (fun q=>dB q) (tD h3)) ?_
    refine zQ ?_
    refine cS k27 ?_
    refine bS zJ ?_
    exact qM rfl rfl
   refine ⟨false,qSE rfl (qH.step' ?_),fun h=>by cases h⟩
   refine bS (qI rfl) ?_
   refine bS (qA (off:=6) rfl i_M.one) ?_
   refine bS (qQ i_M) ?_
   refine bS wY ?_
   refine qC (t:=true) (congrArg (fun q=>dB q) (tD (by omega))) ?_
   refine zQ ?_
   refine bS (qA (off:=5) rfl i_T.one) ?_
   refine bS (qQ i_T) ?_
   refine bS wY ?_
   refine qC (t:=true) (congrArg (fun q=>dB q) (tD (by omega))) ?_
   refine zQ ?_
   refine bS (qA (off:=4) rfl i_sp.one) ?_
   refine bS (qQ i_sp) ?_
   refine bS wY ?_
   refine qC (t:=false) (congrArg (fun q=>dB q) (fD h3)) ?_
   refine zB ?_
   exact qM rfl rfl
  refine ⟨false,qSE rfl (qH.step' ?_),fun h=>by cases h⟩
  refine bS (qI rfl) ?_
  refine bS (qA (off:=6) rfl i_M.one) ?_
  refine bS (qQ i_M) ?_
  refine bS wY ?_
  refine qC (t:=true) (congrArg (fun q=>dB q) (tD (by omega))) ?_
  refine zQ ?_
  refine bS (qA (off:=5) rfl i_T.one) ?_
  refine bS (qQ i_T) ?_
  refine bS wY ?_
  refine qC (t:=false) (congrArg (fun q=>dB q) (fD (by omega))) ?_
  refine zB ?_
  exact qM rfl rfl
 refine ⟨false,qSE rfl (qH.step' ?_),fun h=>by cases h⟩
 refine bS (qI rfl) ?_
 refine bS (qA (off:=6) rfl i_M.one) ?_
 refine bS (qQ i_M) ?_
 refine bS wY ?_
 refine qC (t:=false) (congrArg (fun q=>dB q) (fD (by omega))) ?_
 refine zB ?_
 exact qM rfl rfl
end
end Go.Proofs.YthhlmoidofecpaaGreat
namespace Go.Proofs.YthhlmoidofecpaaGreat
open Go Go.Am Go.Proofs Go.Am.Tt
namespace S4
def n0:Sn:=(.sl 56 7 BG (.st [(.int .i64),(.str BG),(.int .i64),(.int .i64),(.sl 3 1 1048576 (.int .i64)),(.sl 58 4 1048576 (.st [(.str BG),(.int .i64),(.int .i64),(.int .i64)])),(.sl 62 7 1048576 (.st [(.int .i64),(.int .i64),(.int .i64),(.int .i64),(.int .i64),(.int .i64),(.str BG)]))]))
def n1:Sn:=(.st [(.sl 64 2 BG (.st [(.str BG),(.int .i64)])),(.str BG),(.sl 66 2 BG (.st [(.str BG),(.sl 3 1 1048576 (.int .i64))])),(.sl 145 1 BG (.sl 9 1 1048576 (.str BG))),(.sl 105 6 BG (.st [(.sl 3 1 1048576 (.int .i64)),(.sl 3 1 1048576 (.int .i64)),(.sl 285 2 1048576 (.st [(.int .i64),(.int .i64)])),(.sl 285 2 1048576 (.st [(.int .i64),(.int .i64)])),.bool,.bool])),(.int .i64),(.sl 68 3 BG (.st [(.int .i64),(.int .i64),(.int .i64)])),(.sl 3 1 BG (.int .i64)),(.sl 75 8 BG (.st [(.int .i64),(.sl 3 1 1048576 (.int .i64)),(.int .i64),(.sl 34 1 1048576 (.sl 3 1 1048576 (.int .i64))),(.int .i64),(.sl 70 2 1048576 (.st [(.str BG),(.str BG)])),(.sl 152 2 1048576 (.st [(.int .i64),(.int .i64)])),(.sl 24 2 1048576 (.st [(.int .i64),(.int .i64)]))]))])
def n2:Sn:=(.sl 82 4 BG (.st [(.int .i64),(.int .i64),.bool,(.sl 77 3 1048576 (.st [(.int .i64),(.int .i64),(.int .i64)]))]))
def qTf:List (Nat × Sn):=[(3,(.int .i64)),(58,(.st [(.str BG),(.int .i64),(.int .i64),(.int .i64)])),(62,(.st [(.int .i64),(.int .i64),(.int .i64),(.int .i64),(.int .i64),(.int .i64),(.str BG)])),(64,(.st [(.str BG),(.int .i64)])),(66,(.st [(.str BG),(.sl 3 1 1048576 (.int .i64))])),(68,(.st [(.int .i64),(.int .i64),(.int .i64)])),(70,(.st [(.str BG),(.str BG)])),(75,(.st [(.int .i64),(.sl 3 1 1048576 (.int .i64)),(.int .i64),(.sl 34 1 1048576 (.sl 3 1 1048576 (.int .i64))),(.int .i64),(.sl 70 2 1048576 (.st [(.str BG),(.str BG)])),(.sl 152 2 1048576 (.st [(.int .i64),(.int .i64)])),(.sl 24 2 1048576 (.st [(.int .i64),(.int .i64)]))])),(56,(.st [(.int .i64),(.str BG),(.int .i64),(.int .i64),(.sl 3 1 1048576 (.int .i64)),(.sl 58 4 1048576 (.st [(.str BG),(.int .i64),(.int .i64),(.int .i64)])),(.sl 62 7 1048576 (.st [(.int .i64),(.int .i64),(.int .i64),(.int .i64),(.int .i64),(.int .i64),(.str BG)]))])),(77,(.st [(.int .i64),(.int .i64),(.int .i64)])),(82,(.st [(.int .i64),(.int .i64),.bool,(.sl 77 3 1048576 (.st [(.int .i64),(.int .i64),(.int .i64)]))]))]
def qSm:List (TypeId × TypeId × IntKind × IntKind):=[]
def qRK:List (Bool × TypeId × Int):=[]
def qRB:List (Nat × (Nat × List Sn)):=[]
theorem qFF:∀ x∈qSm,qQx EE x:=qIk
theorem qE3:∀ x∈qRK,qQs EE x:=qIk
theorem qEW:∀ x∈qRB,qKX EE x:=qIk
def TT:Tb:=qOZ qTf qSm qRK qRB
theorem qED:TbOk EE TT:=qOq qFF qE3 qEW
def e4:En:=⟨4,[],⟨[],[n0,n1,n2],[],[(.aT [1,8],.z,299999999)]⟩,[],[sC 1001]⟩
theorem qVj:qAH EE Tryz.prog TT [] [e4]=true:=by kernel_rfl
theorem h4s:gX (Holds EE) 4 e4.S:=gZ (lC qHP qLL qED (fun _ h=>by cases h) qVj) (by kernel_rfl)
end S4
theorem h4:∃ (X Z:D) (gs:List D) (b:Bool),gs.length=9/\Holds EE 4 [] (.tup [X,.agg gs,Z])/\Holds EE 12 [.agg gs] (dB b):=by
 obtain ⟨rs,h1,hp,h2⟩:=S4.h4s [] rfl (fun q hq=>by cases hq)
 have h1:zZ [S4.n0,S4.n1,S4.n2] rs:=h1
 simp only [zZ] at h1
 obtain ⟨X,_,rfl,hX,G,_,rfl,hG,Z,_,rfl,hZ,rfl⟩:=h1
 have hq:=hp _ List.mem_cons_self
 have hG8:vA n8 G:=hG
 obtain ⟨rs,g1,_,g2⟩:=qR0 [G] (by show zZ [n8] [G]; simp only [zZ]; exact ⟨_,_,rfl,hG8,rfl⟩) (fun q hq'=>by
  rcases List.mem_cons.1 hq' with rfl | hq'
  ·exact hq
  cases hq')
 have g1:zZ [.bool] rs:=g1
 simp only [zZ,vA] at g1
 obtain ⟨_,_,rfl,⟨b,rfl⟩,rfl⟩:=g1
 have hlen:∃ gs:List D,G=.agg gs/\gs.length=9:=by
  have hG9:=hG
  simp only [S4.n1,vA,zZ] at hG9
  obtain ⟨_,rfl,x1,_,rfl,_,x2,_,rfl,_,x3,_,rfl,_,x4,_,rfl,_,x5,_,rfl,_,x6,_,rfl,_,x7,_,rfl,_,x8,_,rfl,_,x9,_,rfl,_,rfl⟩:=hG9
  exact ⟨_,rfl,rfl⟩
 obtain ⟨gs,rfl,hl⟩:=hlen
 exact ⟨X,Z,gs,b,hl,h2,g2⟩
end Go.Proofs.YthhlmoidofecpaaGreat
