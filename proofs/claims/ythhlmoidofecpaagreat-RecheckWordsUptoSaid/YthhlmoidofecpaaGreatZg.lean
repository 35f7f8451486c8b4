/- The order of notes, and those of a tier, by the program and by the reference. Conditions: none. -/
import Derived.Test.YthhlmoidofecpaaGreatZf
set_option linter.unusedVariables false
set_option linter.unusedSimpArgs false
namespace Go.Proofs.YthhlmoidofecpaaGreat
open Go Go.Am Go.Proofs Go.Am.Tr
theorem aS {T:D} {ts:List Tr} {t:Int} (hT:T.es=ts.map qCS) (h0:0<=t) (h1:t < (ts.length:Int)):T.es[t.toNat]? = some (.agg [.leaf (.string (xE ts t).nm),dI (xE ts t).kd,dI (xE ts t).rl,dI (xE ts t).pa]):=by
 rw [hT,List.getElem?_map,qEU h0 h1]; rfl
attribute [local irreducible] Go.Am.wp Go.Am.TOp.eval
theorem qJ9 {k:Int}:Holds EE 63 [dI k] (dB (l9 k)):=by
 refine qUT rfl (qH.step' ?_)
 refine bS zJ ?_
 refine iC (fun c=>?_) fun c=>?_
 ·have e:l9 k=true:=by unfold l9; rw [c]; rfl
  rw [e]
  exact qM rfl rfl
 refine bS zJ ?_
 refine iC (fun d=>?_) fun d=>?_
 ·have e:l9 k=true:=by unfold l9; rw [d]; simp
  rw [e]
  exact qM rfl rfl
 refine bS zJ ?_
 have e:l9 k=decide (k=2):=by unfold l9; rw [c,d]; simp
 rw [e]
 exact qM rfl rfl
section
variable {di ln dy:Int} {nm sp T M:D} {ts:List Tr} {ns:List Nt}
theorem qUu (h_nm:nm.one=true) (h_sp:sp.one=true) (i_T:jA 58 4 T) (hT:T.es=ts.map qCS) (i_M:jA 62 7 M) (hM:M.es=ns.map kY) (hn:ns.length<=1000) (F:vV ts ns) :
  ∀ (k:Nat) (t:Int) (a b:Nt),0<=t->t < (k:Int)->t < (ts.length:Int)->In ns t a->In ns t b->Holds EE 40 [.agg [dI di,nm,dI ln,dI dy,sp,T,M],kY a,kY b] (dB (lY ts ns k a b))
 | 0,t,a,b,h0,h1,_,_,_=>by omega
 | k+1,t,a,b,h0,h1,hl,ha,hb=>by
  have key_e:a.pa=b.pa->lY ts ns (k+1) a b=key ts a b:=fun e=>lA e
  have key_n:a.pa≠b.pa->lY ts ns (k+1) a b=lY ts ns k (gd ns a.pa) (gd ns b.pa):=fun e=>o8 e
  have hroot:a.pa≠b.pa->(xE ts t).kd≠0:=fun hne hk=>hne (qGe F ha hb hk)
  have gpa:(xE ts t).kd≠0->In ns (xE ts t).pa (gd ns a.pa):=fun hk=>(mW F ha hk).1
  have gpb:(xE ts t).kd≠0->In ns (xE ts t).pa (gd ns b.pa):=fun hk=>(mW F hb hk).1
  have k20a:=qOD (di:=di) (ln:=ln) (dy:=dy) (r:=a.pa) h_nm h_sp i_T.one i_M hM hn
  have k20b:=qOD (di:=di) (ln:=ln) (dy:=dy) (r:=b.pa) h_nm h_sp i_T.one i_M hM hn
  have hkey:key ts a b=bif l9 (xE ts t).kd then decide (a.fr < b.fr) else decide (a.rk < b.rk):=by unfold key; rw [ha.2]
  have hti:a.ti=t:=ha.2
  have IH:=qUu h_nm h_sp i_T hT i_M hM hn F k
  unfold mV at k20a k20b
  generalize (yL ns a.pa).isSome=sa at k20a
  generalize (yL ns b.pa).isSome=sb at k20b
  have e1:(yL ns a.pa).getD zN=gd ns a.pa:=rfl
  have e2:(yL ns b.pa).getD zN=gd ns b.pa:=rfl
  rw [e1] at k20a
  rw [e2] at k20b
  have tf:=aS hT h0 hl
  generalize hbef:lY ts ns (k+1) a b=r at *
  generalize hga:gd ns a.pa=pa at *
  generalize hgb:gd ns b.pa=pb at *
  obtain ⟨ai,at',ap,af,ao,ar,ax⟩:=a
  obtain ⟨bi,bt,bp,bf,bo,br,bx⟩:=b
  have hti:at'=t:=hti
  subst hti
  show Holds EE 40 [_,.agg [dI ai,dI at',dI ap,dI af,dI ao,dI ar,.leaf (.string ax)],.agg [dI bi,dI bt,dI bp,dI bf,dI bo,dI br,.leaf (.string bx)]] _
  refine qUZ rfl (qH.step' ?_)
  refine bS (qI rfl) ?_
  refine bS (qI rfl) ?_
  refine bS (qI rfl) ?_
  refine bS (qA (off:=2) rfl rfl) ?_
  refine bS (qA (off:=2) rfl rfl) ?_
  refine bS zR ?_
  refine iC (fun c=>?_) fun c=>?_
  ·have hne:¬ ap=bp:=dT c
   have hk:=hroot hne
   have hu:=F.up _ h0 hl hk
   have k40:=IH (xE ts at').pa pa pb hu.1 (by omega) (by omega) (gpa hk) (gpb hk)
   have hr:r=lY ts ns k pa pb:=key_n hne
   rw [hr]
   obtain ⟨ci,ct,cp,cf,co,cr,cx⟩:=pa
   obtain ⟨ei,et,ep,ef,eo,er,ex⟩:=pb
   refine bS (qA (off:=2) rfl rfl) ?_
   refine cS k20a ?_
   refine bS (vP rfl) ?_
   refine bS (vP rfl) ?_
   refine bS (qI rfl) ?_
   refine bS (qA (off:=2) rfl rfl) ?_
   refine cS k20b ?_
   refine bS (vP rfl) ?_
   refine bS (vP rfl) ?_
   refine bS (qI rfl) ?_
   refine cS k40 ?_
   exact qM rfl rfl
  have heq:ap=bp:=Decidable.byContradiction fun h=>by rw [tD h] at c; cases c
  have hr:r=bif l9 (xE ts at').kd then decide (af < bf) else decide (ar < br):=(key_e heq).trans hkey
  rw [hr]
  refine bS (qA (off:=5) rfl i_T.one) ?_
  refine bS (qA (off:=1) rfl rfl) ?_
  refine bS (qP (s:=at') (by omega) tf) ?_
  refine bS (zI (s:=at') (off:=1) i_T (by omega) tf rfl rfl (by decide)) ?_
  refine cS qJ9 ?_
  refine iC (fun d=>?_) fun d=>?_
  ·rw [d]
   refine bS (qA (off:=3) rfl rfl) ?_
   refine bS (qA (off:=3) rfl rfl) ?_
   refine bS qJ ?_
   exact qM rfl rfl
  rw [d]
  refine bS (qA (off:=5) rfl rfl) ?_
  refine bS (qA (off:=5) rfl rfl) ?_
  refine bS qJ ?_
  exact qM rfl rfl
end
end Go.Proofs.YthhlmoidofecpaaGreat
namespace Go.Proofs.YthhlmoidofecpaaGreat
open Go Go.Am Go.Proofs Go.Am.Tr
abbrev qT8:Sh:=.st [.int .i64,.int .i64,.int .i64,.int .i64,.int .i64,.int .i64,.str]
theorem qUs {n:Nt} {B:Nat} (h:n.tx.size<=B):qS B qT8 (kY n):=qBv (zU vK (zU vK (zU vK (zU vK (zU vK (zU vK (zU (nS h) xS)))))))
theorem qPK {n:Nt}:TOp.eval EE (.lit 62 7) [kY n]=some (.sl 62 7 [kY n]):=rfl
theorem qT4 {l:List Nt} {n:Nt} (h:l.length+1<=1000000):TOp.eval EE (.app 62 7 64) [zC 62 7 (l.map kY),.sl 62 7 [kY n]]=some (zC 62 7 ((l++[n]).map kY)):=by
 rw [List.map_append]
 exact qAD (B:=n.tx.size+1) (e:=qT8) (rX (show 1<=_ by omega) fun x hx=>by rw [List.mem_singleton.1 hx]; exact qUs (by omega)) (by decide) (by rw [List.length_map]; show _+1<=_; omega)
def l5 (n:Nt):D:=dI n.id
theorem qT6 {l:List D} {x:Int} (h:l.length+1<=1000000):TOp.eval EE (.app 3 1 8) [zC 3 1 l,.sl 3 1 [dI x]]=some (zC 3 1 (l++[dI x])) :=
 qAD (B:=1) (e:=.int .i64) (rX (lR 1) fun y hy=>by rw [List.mem_singleton.1 hy]; exact vK) (by decide) (by show _+1<=_; omega)
theorem qT5 {l:List D} {m:List Nt} (h:l.length+m.length<=100000000):TOp.eval EE (.app 3 1 8) [zC 3 1 l,zC 3 1 (m.map l5)]=some (zC 3 1 (l++m.map l5)):=by
 have:=qAD (E:=EE) (B:=m.length) (el:=3) (sz:=1) (bytes:=8) (l:=l) (b:=zC 3 1 (m.map l5)) (e:=.int .i64) (qJM (by rw [List.length_map]; exact lR _) fun y hy=>by
  obtain ⟨n,_,rfl⟩:=List.mem_map.1 hy; exact vK) (by decide) (by rw [gF,List.length_map]; omega)
 rw [gF] at this
 exact this
theorem qPE {el sz:Nat} {l:List D}:(zC el sz l).one=true:=by unfold zC; split <;> rfl
theorem qBq {el sz:Nat} {l:List D} (h:l.length<=100000000):jA el sz (zC el sz l):=by
 unfold zC; split
 ·exact .inl rfl
 exact .inr ⟨_,rfl,by unfold zG; omega⟩
theorem qSx (l:List Nt):(l.map kY).all PN=true:=by
 rw [List.all_eq_true]
 intro x hx
 obtain ⟨p,_,rfl⟩:=List.mem_map.1 hx
 rfl
theorem qRH {l:List Nt} (hl:l.length<=19):TOp.eval EE (.lib SN) [zC 62 7 (l.map kY)]=some (zC 62 7 ((jI l).map kY)):=by
 rw [qFy]
 have hlen:=mM l
 by_cases h0:l=[]
 ·have e:jI l=[]:=List.length_eq_zero_iff.1 (by rw [hlen,h0]; rfl)
  rw [e,h0]; rfl
 have e:jI l≠[]:=fun e=>h0 (List.length_eq_zero_iff.1 (by rw [← hlen,e]; rfl))
 have hm:l.map kY≠[]:=fun e=>h0 (List.map_eq_nil_iff.1 e)
 have hm2:(jI l).map kY≠[]:=fun e'=>e (List.map_eq_nil_iff.1 e')
 have hb:Nat.ble (l.map kY).length 19=true:=bL (by rw [List.length_map]; exact hl)
 have hF:qK9 kY qQF d5 (l.map kY)=(jI l).map kY:=by unfold qK9 jI; rw [qPk.back]
 unfold SN zC
 rw [if_neg hm,if_neg hm2]
 simp only [iV,Nat.beq_refl,qSx,hb,Bool.and_self,cond_true,hF]
attribute [local irreducible] Go.Am.wp Go.Am.TOp.eval
section
variable {di ln dy:Int} {nm sp T M:D} {ts:List Tr} {ns:List Nt}
theorem qVp {i t:Int} (h_nm:nm.one=true) (h_sp:sp.one=true) (i_T:jA 58 4 T) (hT:T.es=ts.map qCS) (i_M:jA 62 7 M) (hM:M.es=ns.map kY) (hn:ns.length<=19) :
  Holds EE 62 [.agg [dI di,nm,dI ln,dI dy,sp,T,M],dI i,dI t] (zC 3 1 ((yE jI ts ns i t).map l5)):=by
 have hl:M.es.length=ns.length:=by rw [hM,List.length_map]
 have hTl:T.es.length=ts.length:=by rw [hT,List.length_map]
 have second:∀ (K:D) (l:List Nt),jA 62 7 K->K.es=l.map kY->l.length<=19->qH EE (Holds EE) qFZ 2 [.nil,K,dI ((K.es.length:Nat):Int),dI ((0:Nat):Int)] (zC 3 1 (l.map l5)):=by
  intro K l i_K hK hkl
  have hKl:K.es.length=l.length:=by rw [hK,List.length_map]
  refine vI (P:=fun j:Nat=>j<=l.length->∀ os:List D,os.length<=j->qH EE (Holds EE) qFZ 2 [zC 3 1 os,K,dI ((K.es.length:Nat):Int),dI ((j:Nat):Int)] (zC 3 1 (os++(l.drop j).map l5))) l.length (fun j ih=>?_) 0 (Nat.zero_le _) [] (Nat.zero_le _)
  intro hj os hos
  refine qH.step' ?_
  refine bS qJ ?_
  refine iC (fun c=>?_) fun c=>?_
  ·have hjl:j < l.length:=by have:=j0 c; omega
   obtain ⟨n,h_n,e_x⟩:=jX hK hjl
   have hdr:os++(l.drop j).map l5=(os++[l5 n])++(l.drop (j+1)).map l5:=by rw [vZ h_n,List.append_assoc]; rfl
   rw [hdr]
   have ihp:=ih hjl hjl (os++[l5 n]) (by rw [List.length_append]; show _+1<=_; omega)
   obtain ⟨xi,xt,xp,xf,xo,xr,xx⟩:=n
   have e_x:K.es[j]? = some (.agg [dI xi,dI xt,dI xp,dI xf,dI xo,dI xr,.leaf (.string xx)]):=e_x
   refine bS (qP (s:=((j:Nat):Int)) (by omega) e_x) ?_
   refine bS (qZ (s:=((j:Nat):Int)) i_K (by omega) e_x rfl) ?_
   refine bS (qI rfl) ?_
   refine bS (qA (off:=0) rfl rfl) ?_
   refine bS (wN rfl) ?_
   refine bS (qGz rfl) ?_
   refine bS (d:=zC 3 1 (os++[dI xi])) (qT6 (by omega)) ?_
   refine bS (d:=dI ((j+1:Nat):Int)) (qT (qO (by omega))) ?_
   exact qE rfl ihp
  have:=vX c
  have hd:l.drop j=[]:=List.drop_of_length_le (by omega)
  rw [hd]
  exact qM rfl (congrArg (zC 3 1) (List.append_nil os).symm)
 refine qUU rfl (qH.step' ?_)
 refine bS (qI rfl) ?_
 refine bS (qA (off:=6) rfl i_M.one) ?_
 refine bS (qQ i_M) ?_
 refine qE rfl (vI (P:=fun j:Nat=>j<=ns.length->∀ os:List Nt,os.length<=j->qH EE (Holds EE) qFZ 1 [dI i,dI t,zC 62 7 (os.map kY),M,dI ((M.es.length:Nat):Int),dI ((j:Nat):Int),.agg [dI di,nm,dI ln,dI dy,sp,T,M]] (zC 3 1 ((jI (os++(ns.drop j).filter (fN ts i t))).map l5))) ns.length (fun j ih=>?_) 0 (Nat.zero_le _) [] (Nat.zero_le _))
 intro hj os hos
 refine qH.step' ?_
 refine bS qJ ?_
 refine iC (fun c=>?_) fun c=>?_
 ·have hjl:j < ns.length:=by have:=j0 c; omega
  obtain ⟨n,h_n,e_x⟩:=jX hM hjl
  have hyes:fN ts i t n=true->os++(ns.drop j).filter (fN ts i t)=(os++[n])++(ns.drop (j+1)).filter (fN ts i t):=fun h=>by rw [vZ h_n,List.filter_cons,if_pos h,List.append_assoc]; rfl
  have hno:fN ts i t n=false->os++(ns.drop j).filter (fN ts i t)=os++(ns.drop (j+1)).filter (fN ts i t):=fun h=>by rw [vZ h_n,List.filter_cons,if_neg (by rw [h]; simp)]
  have ihp:=ih hjl hjl (os++[n]) (by rw [List.length_append]; show _+1<=_; omega)
  have ihn:=ih hjl hjl os (by omega)
  have apn:=qT4 (l:=os) (n:=n) (by omega)
  have ltn:=qPK (n:=n)
  have kid:fN ts i t n=(decide (n.ti=t) && (decide (n.pa=i) && (decide (0<=t) && decide (t < (ts.length:Int))))):=rfl
  generalize fN ts i t n=b at *
  generalize (os++[n]).map kY=lp at *
  obtain ⟨xi,xt,xp,xf,xo,xr,xx⟩:=n
  have e_x:M.es[j]? = some (.agg [dI xi,dI xt,dI xp,dI xf,dI xo,dI xr,.leaf (.string xx)]):=e_x
  have kid:b=(decide (xt=t) && (decide (xp=i) && (decide (0<=t) && decide (t < (ts.length:Int))))):=kid
  refine bS (qP (s:=((j:Nat):Int)) (by omega) e_x) ?_
  refine bS (qZ (s:=((j:Nat):Int)) i_M (by omega) e_x rfl) ?_
  refine bS (qI rfl) ?_
  refine bS (qA (off:=1) rfl rfl) ?_
  refine bS zJ ?_
  refine iC (fun d1=>?_) fun d1=>?_
  ·skip
   refine bS (qA (off:=2) rfl rfl) ?_
   refine bS zJ ?_
   refine iC (fun d2=>?_) fun d2=>?_
   ·skip
    refine bS kC ?_
    refine iC (fun d3=>?_) fun d3=>?_
    ·skip
     refine bS (qA (off:=5) rfl i_T.one) ?_
     refine bS (qQ i_T) ?_
     refine bS qJ ?_
     refine iC (fun d4=>?_) fun d4=>?_
     ·have d4':decide (t < (ts.length:Int))=true:=by rw [← hTl]; exact d4
      have d3':decide (0<=t)=true:=d3
      rw [hyes (by rw [kid,d1,d2,d3',d4']; rfl)]
      refine bS (qI rfl) ?_
      refine bS ltn ?_
      refine bS apn ?_
      refine bS (d:=dI ((j+1:Nat):Int)) (qT (qO (by omega))) ?_
      exact qE rfl ihp
     have d4':decide (t < (ts.length:Int))=false:=by rw [← hTl]; exact d4
     rw [hno (by rw [kid,d4']; simp)]
     refine bS (d:=dI ((j+1:Nat):Int)) (qT (qO (by omega))) ?_
     exact qE rfl ihn
    have d3':decide (0<=t)=false:=d3
    rw [hno (by rw [kid,d3']; simp)]
    refine bS (d:=dI ((j+1:Nat):Int)) (qT (qO (by omega))) ?_
    exact qE rfl ihn
   rw [hno (by rw [kid,d2]; simp)]
   refine bS (d:=dI ((j+1:Nat):Int)) (qT (qO (by omega))) ?_
   exact qE rfl ihn
  rw [hno (by rw [kid,d1]; simp)]
  refine bS (d:=dI ((j+1:Nat):Int)) (qT (qO (by omega))) ?_
  exact qE rfl ihn
 have:=vX c
 have hd:ns.drop j=[]:=List.drop_of_length_le (by omega)
 have he:os++([]:List Nt).filter (fN ts i t)=os:=List.append_nil os
 rw [hd,he]
 have hsn:=qRH (l:=os) (by omega)
 obtain ⟨K,hK⟩:∃ K,K=zC 62 7 ((jI os).map kY):=⟨_,rfl⟩
 have i_K:jA 62 7 K:=by rw [hK]; exact qBq (by rw [List.length_map,mM]; omega)
 have hKe:K.es=(jI os).map kY:=by rw [hK,gF]
 have k2:=second K (jI os) i_K hKe (by rw [mM]; omega)
 rw [← hK] at hsn
 refine bS hsn ?_
 refine bS (qQ i_K) ?_
 exact qE rfl k2
end
end Go.Proofs.YthhlmoidofecpaaGreat
namespace Go.Proofs.YthhlmoidofecpaaGreat
open Go Go.Am Go.Proofs Go.Am.Tr
theorem qGs {ts:List Tr} {ns:List Nt} (F:vV ts ns) {k:Nat} {t:Int} (h0:0<=t) (hk:t < (k:Int)) (hl:t < (ts.length:Int)):(qAL jI ts ns k t).length<=ns.length:=by
 obtain ⟨p1,p2⟩:=qCh F aU k t h0 hk hl
 have O:=sP F k t h0 hk hl
 have hnd:((qAL jI ts ns k t).map Nt.id).Nodup:=by
  refine List.pairwise_map.2 (List.Pairwise.imp_of_mem (fun {x y} hx hy h e=>?_) p1)
  have hx':=(p2 x).1 hx
  have hy':=(p2 y).1 hy
  have:=bY F hx'.1 hy'.1 e
  subst this
  rw [O.irr _ hx'] at h; cases h
 have:=qFk (l:=ns.map Nt.id) hnd fun x hx=>by
  obtain ⟨n,hn,rfl⟩:=List.mem_map.1 hx
  exact List.mem_map_of_mem ((p2 n).1 hn).1
 rw [List.length_map,List.length_map] at this
 exact this
theorem qJX {ts:List Tr} {ns:List Nt} {i t:Int}:(yE jI ts ns i t).length<=ns.length:=by
 unfold yE; rw [mM]; exact List.length_filter_le _ _
attribute [local irreducible] Go.Am.wp Go.Am.TOp.eval
section
variable {di ln dy:Int} {nm sp T M:D} {ts:List Tr} {ns:List Nt}
theorem qVt (h_nm:nm.one=true) (h_sp:sp.one=true) (i_T:jA 58 4 T) (hT:T.es=ts.map qCS) (i_M:jA 62 7 M) (hM:M.es=ns.map kY) (hn:ns.length<=19) (F:vV ts ns) :
  ∀ (k:Nat) (t:Int),t < (k:Int)->Holds EE 37 [.agg [dI di,nm,dI ln,dI dy,sp,T,M],dI t] (zC 3 1 ((qAL jI ts ns k t).map l5)):=by
 have hTl:T.es.length=ts.length:=by rw [hT,List.length_map]
 intro k
 induction k with
 | zero =>
  intro t ht
  refine qUj rfl (qH.step' ?_)
  refine bS (qI rfl) ?_
  refine bS qJ ?_
  refine iC (fun c=>?_) fun c=>?_
  ·exact qM rfl rfl
  have:=dF c; omega
 | succ k IH =>
  intro t ht
  refine qUj rfl (qH.step' ?_)
  refine bS (qI rfl) ?_
  refine bS qJ ?_
  refine iC (fun c=>?_) fun c=>?_
  ·have he:qAL jI ts ns (k+1) t=[]:=by rw [qAL,show decide (t < 0)=true from c]; rfl
   rw [he]
   exact qM rfl rfl
  have c':decide (t < 0)=false:=c
  have c1:=dF c'
  have h0:0<=t:=by omega
  refine bS (qA (off:=5) rfl i_T.one) ?_
  refine bS (qQ i_T) ?_
  refine bS kC ?_
  refine iC (fun d=>?_) fun d=>?_
  ·have d1:=dT d
   have he:qAL jI ts ns (k+1) t=[]:=by rw [qAL,c',show decide ((ts.length:Int)<=t)=true from tD (by rw [← hTl]; omega)]; rfl
   rw [he]
   exact qM rfl rfl
  have d1:=dF d
  have hlt:t < (ts.length:Int):=by rw [← hTl]; omega
  have d':decide ((ts.length:Int)<=t)=false:=fD (by omega)
  have tf:=aS hT h0 hlt
  have he:qAL jI ts ns (k+1) t=bif decide ((xE ts t).kd=0) then yE jI ts ns 0 t else (qAL jI ts ns k (xE ts t).pa).flatMap fun n=>yE jI ts ns n.id t:=by rw [qAL,c',d']; rfl
  rw [he]
  have k62:∀ i:Int,Holds EE 62 [.agg [dI di,nm,dI ln,dI dy,sp,T,M],dI i,dI t] (zC 3 1 ((yE jI ts ns i t).map l5)):=fun i=>qVp h_nm h_sp i_T hT i_M hM hn
  refine bS (qA (off:=5) rfl i_T.one) ?_
  refine bS (qP (s:=t) (by omega) tf) ?_
  refine bS (zI (s:=t) (off:=1) i_T (by omega) tf rfl rfl (by decide)) ?_
  refine bS zJ ?_
  refine iC (fun f=>?_) fun f=>?_
  ·rw [show decide ((xE ts t).kd=0)=true from f]
   refine cS (k62 0) ?_
   exact qM rfl rfl
  have f1:=dF f
  have hu:=F.up t h0 hlt f1
  rw [show decide ((xE ts t).kd=0)=false from f]
  have ih:=IH (xE ts t).pa (by omega)
  have hpl:=qGs F (k:=k) hu.1 (by omega) (by omega)
  generalize qAL jI ts ns k (xE ts t).pa=l at *
  obtain ⟨K,hK⟩:∃ K,K=zC 3 1 (l.map l5):=⟨_,rfl⟩
  have i_K:jA 3 1 K:=by rw [hK]; exact qBq (by rw [List.length_map]; omega)
  have hKe:K.es=l.map l5:=by rw [hK,gF]
  have hKl:K.es.length=l.length:=by rw [hKe,List.length_map]
  rw [← hK] at ih
  refine bS (qA (off:=5) rfl i_T.one) ?_
  refine bS (qP (s:=t) (by omega) tf) ?_
  refine bS (zI (s:=t) (off:=3) i_T (by omega) tf rfl rfl (by decide)) ?_
  refine cS ih ?_
  refine bS (qQ i_K) ?_
  refine qE rfl (vI (P:=fun j:Nat=>j<=l.length->∀ os:List D,os.length<=j * 19->qH EE (Holds EE) qNO 1 [dI t,zC 3 1 os,K,dI ((K.es.length:Nat):Int),dI ((j:Nat):Int),.agg [dI di,nm,dI ln,dI dy,sp,T,M]] (zC 3 1 (os++((l.drop j).flatMap fun n=>yE jI ts ns n.id t).map l5))) l.length (fun j ih=>?_) 0 (Nat.zero_le _) [] (Nat.zero_le _))
  intro hj os hos
  refine qH.step' ?_
  refine bS qJ ?_
  refine iC (fun g=>?_) fun g=>?_
  ·have hjl:j < l.length:=by have:=j0 g; omega
   obtain ⟨n,h_n,e_x⟩:=jX hKe hjl
   have e_x:K.es[j]? = some (dI n.id):=e_x
   have hdr:os++((l.drop j).flatMap fun n=>yE jI ts ns n.id t).map l5=(os++(yE jI ts ns n.id t).map l5)++((l.drop (j+1)).flatMap fun n=>yE jI ts ns n.id t).map l5:=by
    rw [vZ h_n,List.flatMap_cons,List.map_append,List.append_assoc]
   rw [hdr]
   have hkl:=qJX (ts:=ts) (ns:=ns) (i:=n.id) (t:=t)
   have ihp:=ih hjl hjl (os++(yE jI ts ns n.id t).map l5) (by rw [List.length_append,List.length_map]; omega)
   have apm:=qT5 (l:=os) (m:=yE jI ts ns n.id t) (by omega)
   refine bS (qP (s:=((j:Nat):Int)) (by omega) e_x) ?_
   refine bS (jE (s:=((j:Nat):Int)) i_K (by omega) e_x rfl) ?_
   refine cS (k62 n.id) ?_
   refine bS apm ?_
   refine bS (d:=dI ((j+1:Nat):Int)) (qT (qO (by omega))) ?_
   exact qE rfl ihp
  have:=vX g
  have hd:l.drop j=[]:=List.drop_of_length_le (by omega)
  rw [hd]
  exact qM rfl (congrArg (zC 3 1) (List.append_nil os).symm)
end
end Go.Proofs.YthhlmoidofecpaaGreat
namespace Go.Proofs.YthhlmoidofecpaaGreat
open Go Go.Am Go.Proofs Go.Am.Tr
theorem qPa {el sz a:Nat} {es:List D} (h:a<=es.length):TOp.eval EE (.slc el sz false true) [.sl el sz es,dI ((a:Nat):Int)]=some (.sl el sz (es.take a)):=by
 have e:TOp.eval EE (.slc el sz false true) [.sl el sz es,dI ((a:Nat):Int)]=bif Nat.beq el el && Nat.beq sz sz && Nat.ble 0 a && Nat.ble a es.length then some (.sl el sz ((es.drop 0).take (a - 0))) else none:=rfl
 have h1:Nat.ble 0 a=true:=bL (Nat.zero_le _)
 rw [e,Nat.beq_refl,Nat.beq_refl,h1,bL h]
 rfl
theorem qPb {el sz a:Nat} {es:List D} (h:a<=es.length):TOp.eval EE (.slc el sz true false) [.sl el sz es,dI ((a:Nat):Int)]=some (.sl el sz (es.drop a)):=by
 have e:TOp.eval EE (.slc el sz true false) [.sl el sz es,dI ((a:Nat):Int)]=bif Nat.beq el el && Nat.beq sz sz && Nat.ble a es.length && Nat.ble es.length es.length then some (.sl el sz ((es.drop a).take (es.length - a))) else none:=rfl
 rw [e,Nat.beq_refl,Nat.beq_refl,bL h,bL (lR _)]
 have:(es.drop a).take (es.length - a)=es.drop a:=List.take_of_length_le (by rw [List.length_drop]; exact lR _)
 rw [this]
 rfl
theorem qUK {el sz bytes:Nat} {l es:List D} (h:l.length+es.length<=1000) (hb:bytes<=80):TOp.eval EE (.app el sz bytes) [.sl el sz l,.sl el sz es]=some (.sl el sz (l++es)):=by
 have hk:Nat.ble (Nat.mul (Nat.add (Nat.mul 4 (Nat.add l.length es.length)) 4000) (Nat.succ bytes)) 100000000000=true:=mB (by show l.length+es.length<=_; omega) hb
 have e:TOp.eval EE (.app el sz bytes) [.sl el sz l,.sl el sz es]=bif Nat.ble (Nat.mul (Nat.add (Nat.mul 4 (Nat.add l.length es.length)) 4000) (Nat.succ bytes)) 100000000000 && Nat.beq sz sz && (Nat.beq el el && Nat.beq sz sz) then (bif Nat.beq es.length 0 then some (.sl el sz l) else some (.sl el sz (l++es))) else none:=rfl
 rw [e,hk,Nat.beq_refl,Nat.beq_refl]
 simp only [Bool.and_self,cond_true,qV]
 split
 ·rename_i h0
  rw [List.length_eq_zero_iff.1 h0,List.append_nil]
 rfl
theorem qJU {el sz:Nat}:TOp.eval EE (.lit el sz) []=some (.sl el sz []):=by
 have e:TOp.eval EE (.lit el sz) []=bif true && Nat.ble (Nat.mul 0 (Nat.succ sz)) 1000000 then some (.sl el sz []) else none:=rfl
 rw [e,show Nat.mul 0 (Nat.succ sz)=0 from Nat.zero_mul _]
 rfl
theorem qIX {t:TypeId} {x y:Operand} {p:Nat} (h:p+1 < zG):TOp.eval EE (.bin .sub t x y) [dI ((p+1:Nat):Int),dI 1]=some (dI ((p:Nat):Int)):=by
 have e:TOp.eval EE (.bin .sub t x y) [dI ((p+1:Nat):Int),dI 1]=some (dI (IntKind.i64.wrap (((p+1:Nat):Int) - 1))):=rfl
 rw [e,show (((p+1:Nat):Int) - 1)=((p:Nat):Int) by omega,qIt (by omega)]
def gD (os:List Nt):D:=.sl 62 7 (os.map kY)
theorem bO {os:List Nt} (h:os.length<=1000):jA 62 7 (gD os):=.inr ⟨_,rfl,by rw [List.length_map]; unfold zG; omega⟩
theorem qI6 {os:List Nt} {a:Nat} (h:a<=os.length):TOp.eval EE (.slc 62 7 false true) [gD os,dI ((a:Nat):Int)]=some (gD (os.take a)):=by
 unfold gD; rw [List.map_take]; exact qPa (by rw [List.length_map]; exact h)
theorem qI7 {os:List Nt} {a:Nat} (h:a<=os.length):TOp.eval EE (.slc 62 7 true false) [gD os,dI ((a:Nat):Int)]=some (gD (os.drop a)):=by
 unfold gD; rw [List.map_drop]; exact qPb (by rw [List.length_map]; exact h)
theorem qB1 {a b:List Nt} (h:a.length+b.length<=1000):TOp.eval EE (.app 62 7 64) [gD a,gD b]=some (gD (a++b)):=by
 unfold gD; rw [List.map_append]; exact qUK (by rw [List.length_map,List.length_map]; exact h) (by decide)
theorem qPd {l:List D} {x:Int} (h:l.length+1<=1000):TOp.eval EE (.app 3 1 8) [.sl 3 1 l,.sl 3 1 [dI x]]=some (.sl 3 1 (l++[dI x])):=qUK h (by decide)
theorem qJ0 {r:Nt->Nt->Bool} {n:Nt} {l:List Nt}:(fO r n l).length=l.length+1:=by
 unfold fO
 rw [List.length_append,List.length_cons,List.length_take,List.length_drop]
 have:=aZ (r:=r) n l l.length
 omega
attribute [local irreducible] Go.Am.wp Go.Am.TOp.eval
section
variable {di ln dy:Int} {nm sp T M:D} {ts:List Tr} {ns:List Nt}
theorem qVv (h_nm:nm.one=true) (h_sp:sp.one=true) (i_T:jA 58 4 T) (hT:T.es=ts.map qCS) (i_M:jA 62 7 M) (hM:M.es=ns.map kY) (hn:ns.length<=19) (F:vV ts ns) {k:Nat} {t:Int} (h0:0<=t) (hk:t < (k:Int)) (hlt:t < (ts.length:Int)) :
  Holds EE 22 [.agg [dI di,nm,dI ln,dI dy,sp,T,M],dI t] (.sl 3 1 ((qPx ts ns k t).map l5)):=by
 have hl:M.es.length=ns.length:=by rw [hM,List.length_map]
 have k40:=fun a b=>qUu (di:=di) (ln:=ln) (dy:=dy) h_nm h_sp i_T hT i_M hM (by omega) F k t a b h0 hk hlt
 have third:∀ (l:List Nt),l.length<=19->qH EE (Holds EE) qA7 3 [gD l,.sl 3 1 [],dI ((0:Nat):Int)] (.sl 3 1 (l.map l5)):=by
  intro l hkl
  obtain ⟨K,hK⟩:∃ K,K=gD l:=⟨_,rfl⟩
  have i_K:jA 62 7 K:=by rw [hK]; exact bO (by omega)
  have hKe:K.es=l.map kY:=by rw [hK]; rfl
  have hKl:K.es.length=l.length:=by rw [hKe,List.length_map]
  rw [← hK]
  refine vI (P:=fun j:Nat=>j<=l.length->∀ os:List D,os.length<=j->qH EE (Holds EE) qA7 3 [K,.sl 3 1 os,dI ((j:Nat):Int)] (.sl 3 1 (os++(l.drop j).map l5))) l.length (fun j ih=>?_) 0 (Nat.zero_le _) [] (Nat.zero_le _)
  intro hj os hos
  refine qH.step' ?_
  refine bS (qQ i_K) ?_
  refine bS qJ ?_
  refine iC (fun c=>?_) fun c=>?_
  ·have hjl:j < l.length:=by have:=j0 c; omega
   obtain ⟨n,h_n,e_x⟩:=jX hKe hjl
   have hdr:os++(l.drop j).map l5=(os++[l5 n])++(l.drop (j+1)).map l5:=by rw [vZ h_n,List.append_assoc]; rfl
   rw [hdr]
   have ihp:=ih hjl hjl (os++[l5 n]) (by rw [List.length_append]; show _+1<=_; omega)
   obtain ⟨xi,xt,xp,xf,xo,xr,xx⟩:=n
   have e_x:K.es[j]? = some (.agg [dI xi,dI xt,dI xp,dI xf,dI xo,dI xr,.leaf (.string xx)]):=e_x
   refine bS (qP (s:=((j:Nat):Int)) (by omega) e_x) ?_
   refine bS (zI (s:=((j:Nat):Int)) (off:=0) i_K (by omega) e_x rfl rfl (by decide)) ?_
   refine bS (wN rfl) ?_
   refine bS (qGz rfl) ?_
   refine bS (d:=.sl 3 1 (os++[dI xi])) (qPd (by omega)) ?_
   refine bS (d:=dI ((j+1:Nat):Int)) (qT (qO (by omega))) ?_
   exact qE rfl ihp
  have:=vX c
  have hd:l.drop j=[]:=List.drop_of_length_le (by omega)
  rw [hd]
  exact qM rfl (congrArg (D.sl 3 1) (List.append_nil os).symm)
 refine qU4 rfl (qH.step' ?_)
 refine bS (qI rfl) ?_
 refine bS qJU ?_
 refine qE rfl (vI (P:=fun j:Nat=>j<=ns.length->∀ os:List Nt,os.length<=j->(∀ x∈os,In ns t x)->qH EE (Holds EE) qA7 1 [dI t,gD os,dI ((j:Nat):Int),.agg [dI di,nm,dI ln,dI dy,sp,T,M]] (.sl 3 1 ((pY (lY ts ns k) (fun n=>decide (n.ti=t)) os (ns.drop j)).map l5))) ns.length (fun j ih=>?_) 0 (Nat.zero_le _) [] (Nat.zero_le _) (fun x hx=>by cases hx))
 intro hj os hos hin
 refine qH.step' ?_
 refine bS (qA (off:=6) rfl i_M.one) ?_
 refine bS (qQ i_M) ?_
 refine bS qJ ?_
 refine iC (fun c=>?_) fun c=>?_
 ·have hjl:j < ns.length:=by have:=j0 c; omega
  obtain ⟨n,h_n,e_x⟩:=jX hM hjl
  have hnm:n∈ns:=List.mem_of_getElem? h_n
  have hdr:pY (lY ts ns k) (fun n=>decide (n.ti=t)) os (ns.drop j)=pY (lY ts ns k) (fun n=>decide (n.ti=t)) (bif decide (n.ti=t) then fO (lY ts ns k) n os else os) (ns.drop (j+1)):=by rw [vZ h_n]; rfl
  rw [hdr]
  have ihn:=ih hjl hjl os (by omega) hin
  have ihp:=fun ht:n.ti=t=>ih hjl hjl (fO (lY ts ns k) n os) (by rw [qJ0]; omega) (fun x hx=>(sG.1 hx).elim (fun e=>e ▸ ⟨hnm,ht⟩) (hin x))
  have kn:=fun (ht:n.ti=t) (p:Nt) (hp:p∈os)=>k40 n p ⟨hnm,ht⟩ (hin p hp)
  have ltn:=qPK (n:=n)
  have hins:fO (lY ts ns k) n os=os.take (oB (lY ts ns k) n os os.length)++n::os.drop (oB (lY ts ns k) n os os.length):=rfl
  have hple:=aZ (r:=lY ts ns k) n os os.length
  have hstep:∀ (p:Nat) (x:Nt),os[p]? = some x->oB (lY ts ns k) n os (p+1)=bif lY ts ns k n x then oB (lY ts ns k) n os p else p+1:=fun p x hx=>by rw [oB,hx]
  have hzero:oB (lY ts ns k) n os 0=0:=rfl
  have hap1:∀ a:Nat,a<=os.length->TOp.eval EE (.app 62 7 64) [gD [],gD (os.take a)]=some (gD (os.take a)):=fun a ha=>qB1 (a:=[]) (by rw [List.length_take]; show 0+_<=_; omega)
  have hap2:∀ a:Nat,a<=os.length->TOp.eval EE (.app 62 7 64) [gD (os.take a),gD [n]]=some (gD (os.take a++[n])):=fun a ha=>qB1 (by rw [List.length_take]; show _+1<=_; omega)
  have hap3:∀ a:Nat,a<=os.length->TOp.eval EE (.app 62 7 64) [gD (os.take a++[n]),gD (os.drop a)]=some (gD (os.take a++n::os.drop a)):=fun a ha=>by
   rw [qB1 (by rw [List.length_append,List.length_take,List.length_drop]; show _+1+_<=_; omega),List.append_assoc]; rfl
  have ltn:TOp.eval EE (.lit 62 7) [kY n]=some (gD [n]):=ltn
  generalize oB (lY ts ns k) n os=pos at *
  generalize fO (lY ts ns k) n os=rs at *
  generalize hsn:gD [n]=s1 at *
  have os1:s1.one=true:=by rw [← hsn]; rfl
  obtain ⟨xi,xt,xp,xf,xo,xr,xx⟩:=n
  have e_x:M.es[j]? = some (.agg [dI xi,dI xt,dI xp,dI xf,dI xo,dI xr,.leaf (.string xx)]):=e_x
  refine bS (qA (off:=6) rfl i_M.one) ?_
  refine bS (qP (s:=((j:Nat):Int)) (by omega) e_x) ?_
  refine bS (qZ (s:=((j:Nat):Int)) i_M (by omega) e_x rfl) ?_
  refine bS (qI rfl) ?_
  refine bS (qA (off:=1) rfl rfl) ?_
  refine bS zR ?_
  refine iC (fun d=>?_) fun d=>?_
  ·have hd:decide (xt=t)=false:=fD (dT d)
   have hb:(bif decide ((⟨xi,xt,xp,xf,xo,xr,xx⟩:Nt).ti=t) then rs else os)=os:=by
    show (bif decide (xt=t) then rs else os)=os
    rw [hd]; rfl
   rw [hb]
   refine bS (d:=dI ((j+1:Nat):Int)) (qT (qO (by omega))) ?_
   exact qE rfl ihn
  have hd0:xt=t:=Decidable.byContradiction fun h=>by rw [tD h] at d; cases d
  have hd:decide (xt=t)=true:=tD hd0
  have hb:(bif decide ((⟨xi,xt,xp,xf,xo,xr,xx⟩:Nt).ti=t) then rs else os)=rs:=by
   show (bif decide (xt=t) then rs else os)=rs
   rw [hd]; rfl
  rw [hb]
  have ihp:=ihp hd0
  have kn:=kn hd0
  have slen:(gD os).es.length=os.length:=List.length_map _
  refine bS (d:=dI (((gD os).es.length:Nat):Int)) (qQ (bO (by omega))) ?_
  rw [hins] at ihp
  refine qE rfl (?_:qH EE (Holds EE) qA7 2 [dI t,gD os,dI ((j:Nat):Int),dI (((gD os).es.length:Nat):Int),.agg [dI di,nm,dI ln,dI dy,sp,T,M],.agg [dI xi,dI xt,dI xp,dI xf,dI xo,dI xr,.leaf (.string xx)]] _)
  rw [slen]
  have main:∀ a:Nat,a<=os.length->pos a=pos os.length->qH EE (Holds EE) qA7 2 [dI t,gD os,dI ((j:Nat):Int),dI ((a:Nat):Int),.agg [dI di,nm,dI ln,dI dy,sp,T,M],.agg [dI xi,dI xt,dI xp,dI xf,dI xo,dI xr,.leaf (.string xx)]] (.sl 3 1 ((pY (lY ts ns k) (fun n=>decide (n.ti=t)) rs (ns.drop (j+1))).map l5)):=by
   intro a
   induction a with
   | zero =>
    intro ha hp
    rw [hzero] at hp
    rw [← hp] at ihp hins
    refine qH.step' ?_
    refine bS vQ ?_
    refine iC (fun g=>?_) fun g=>?_
    ·have g:decide ((0:Int) < ((0:Nat):Int))=true:=g
     have:=dT g; omega
    refine bS qJU ?_
    refine bS (qI6 (Nat.zero_le _)) ?_
    refine bS (hap1 0 (Nat.zero_le _)) ?_
    refine bS (qI rfl) ?_
    refine bS ltn ?_
    refine bS (hap2 0 (Nat.zero_le _)) ?_
    refine bS (qI7 (Nat.zero_le _)) ?_
    refine bS (hap3 0 (Nat.zero_le _)) ?_
    refine bS (d:=dI ((j+1:Nat):Int)) (qT (qO (by omega))) ?_
    rw [hins]
    exact qE rfl ihp
   | succ a IHa =>
    intro ha hp
    obtain ⟨p,h_p,e_p⟩:=jX (f:=kY) (d:=gD os) rfl (show a < os.length by omega)
    have kp:=kn p (List.mem_of_getElem? h_p)
    have hst:=hstep a p h_p
    have hsa:=bO (os:=os) (by omega)
    generalize lY ts ns k ⟨xi,xt,xp,xf,xo,xr,xx⟩ p=bb at *
    obtain ⟨yi,yt,yp,yf,yo,yr,yx⟩:=p
    have e_p:(gD os).es[a]? = some (.agg [dI yi,dI yt,dI yp,dI yf,dI yo,dI yr,.leaf (.string yx)]):=e_p
    refine qH.step' ?_
    refine bS vQ ?_
    refine iC (fun g=>?_) fun g=>?_
    ·skip
     refine bS (d:=dI ((a:Nat):Int)) (qIX (by unfold zG; omega)) ?_
     refine bS (qP (s:=((a:Nat):Int)) (by omega) e_p) ?_
     refine bS (qZ (s:=((a:Nat):Int)) (bO (by omega)) (by omega) e_p rfl) ?_
     refine cS kp ?_
     refine iC (fun m=>?_) fun m=>?_
     ·rw [m] at hst
      refine bS (d:=dI ((a:Nat):Int)) (qIX (by unfold zG; omega)) ?_
      exact qE rfl (IHa (by omega) (hst.symm.trans hp))
     rw [m] at hst
     have hq:a+1=pos os.length:=hst.symm.trans hp
     rw [← hq] at ihp hins
     refine bS qJU ?_
     refine bS (qI6 ha) ?_
     refine bS (hap1 (a+1) ha) ?_
     refine bS (qI rfl) ?_
     refine bS ltn ?_
     refine bS (hap2 (a+1) ha) ?_
     refine bS (qI7 ha) ?_
     refine bS (hap3 (a+1) ha) ?_
     refine bS (d:=dI ((j+1:Nat):Int)) (qT (qO (by omega))) ?_
     rw [hins]
     exact qE rfl ihp
    have g:decide ((0:Int) < ((a+1:Nat):Int))=false:=g
    have:=dF g; omega
  exact main os.length (lR _) rfl
 have:=vX c
 have hd:ns.drop j=[]:=List.drop_of_length_le (by omega)
 rw [hd]
 refine bS qJU ?_
 exact qE rfl (third os (by omega))
end
end Go.Proofs.YthhlmoidofecpaaGreat
