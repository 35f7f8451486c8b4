/- Symbolic runs: fields, arithmetic, conversions. Conditions: none. -/
import Derived.Test.YtminhjecpnpaeaaGreatDoorSx2
set_option linter.unusedVariables false
set_option linter.unusedSimpArgs false
namespace Go.Am
open Go
mutual
theorem qG6 {g:zG}:∀ {d:D} {v u:Value},DR g d v->d.toV=some u->v=u
 | .leaf x,v,u,h,hu=>by
  simp only [D.toV,oI] at hu
  rw [h.leaf_inv.1,hu]
 | .agg cs,v,u,h,hu=>by
  simp only [D.toV,Option.map_eq_some_iff] at hu
  obtain ⟨l,h1,rfl⟩:=hu
  cases h with
  | agg h o=>rw [qIw h h1]
 | .nil,v,u,h,hu=>by
  simp only [D.toV,oI] at hu
  cases h; exact hu
 | .sl _ _ _,_,_,_,hu=>by cases hu
 | .tup _,_,_,_,hu=>by cases hu
 | .ptr _ _,_,_,_,hu=>by cases hu
 | .clo _ _ _,_,_,_,hu=>by cases hu
 | .iface _ _,_,_,_,hu=>by cases hu
theorem qIw {g:zG}:∀ {ds:List D} {vs us:List Value},DRs g ds vs->D.toVs ds=some us->vs=us
 | [],_,_,.nil,hu=>by simpa [D.toVs] using hu
 | d::ds,_,us,.cons h hs,hu=>by
  simp only [D.toVs] at hu
  split at hu
  ·rename_i a b h1 h2
   cases hu
   rw [qG6 h h1,qIw hs h2]
  cases hu
end
theorem aN {v:Option Value} {d:D} (h:fC v=some d):∃ u,v=some u/\d=.leaf u/\gC u=true:=by
 unfold fC at h
 split at h
 ·rename_i u
  cases hl:gC u with
  | false=>rw [hl] at h; cases h
  | true=>rw [hl] at h; cases h; exact ⟨u,rfl,rfl,hl⟩
 cases h
section
variable {E:Env} {n0:Lim} {H0:AH} {g0:zG} {S:St} {ρ:List D} {ve:Nat->Value} {lb:Nat->Nat} {g:zG} {fr:Fr} {H:AH} {HS:FuncId->List D->D->Prop} {Q:Res1->Prop} {o:Oper} {κ:K1} {wm:Bool}
theorem jS.new (h:SR E n0 H0 g0 S ρ ve lb g fr H) {k:VK} {one:Bool} {d:D} {v:Value} (hk:k≠.fresh) (hv:qAr g H.blocks.get n0 ⟨k,one⟩ d v) (hw:wp E HS Q (κ (.v S.n) (S.new k one)) (ρ++[d]))
  (ha:jH E fr o H=some (.val v,H)):jS wm E HS Q n0 H0 g0 fr H o κ :=
 .same (h.new hk hv) pO hw (by simp only [SV.val,jC]; exact ha)
theorem qAp {t:TypeId} {f off:Nat} {ti:TI} (h:eJ E t f=some (off,ti)) :
  ∃ fs bt sz z ag fd,E.types.get t=some ⟨.struct fs,sz,bt,z,ag⟩/\fs[f]? = some fd/\E.types.get fd.type=some ti/\fd.offset=off:=by
 unfold eJ at h
 split at h
 ·rename_i fs sz bt z ag ht
  split at h
  ·rename_i fd hf
   split at h
   ·rename_i ti' hti
    cases h
    exact ⟨fs,bt,sz,z,ag,fd,ht,hf,hti,rfl⟩
   cases h
  cases h
 cases h
theorem qHR {t:TypeId} {f off:Nat} {ti:TI} (h:eJ E t f=some (off,ti)) (hz:Nat.beq ti.size 0=false) (b i:Nat):iA E t (.pointer (some ⟨b,i,none⟩)) f=some (.pointer (some ⟨b,i+off,none⟩)):=by
 obtain ⟨fs,bt,sz,z,ag,fd,h1,h2,h3,h4⟩:=qAp h
 simp only [iA,h1,h2,h3,Option.bind_some,hz,cond_false,qAU,h4]
 rfl
theorem qMo (s i:Value) (sz a b:Nat):∃ bb oo,qBq s i sz a=.pointer (some ⟨bb,oo,none⟩)/\qBq s i sz (a+b)=.pointer (some ⟨bb,oo+b,none⟩):=by
 unfold qBq
 split
 ·exact ⟨_,_,rfl,by simp only [Nat.add_assoc]⟩
 exact ⟨_,_,rfl,rfl⟩
theorem qPa (p:Value) (a b:Nat):∃ bb oo,qPb p a=.pointer (some ⟨bb,oo,none⟩)/\qPb p (a+b)=.pointer (some ⟨bb,oo+b,none⟩):=by
 unfold qPb
 split
 ·exact ⟨_,_,rfl,by simp only [Nat.add_assoc]⟩
 exact ⟨_,_,rfl,rfl⟩
theorem qEo (h:SR E n0 H0 g0 S ρ ve lb g fr H) {t:TypeId} {x:Operand} {f:Nat} (ho:o.op=.fieldAddr t x f) (hw:wp E HS Q (vZ E o S κ) ρ):jS wm E HS Q n0 H0 g0 fr H o κ:=by
 unfold vZ at hw
 rw [ho] at hw
 simp only at hw
 split at hw
 case h_2=>cases hw
 rename_i y off ti hy hf
 obtain ⟨hb,he⟩:=zM (E:=E) h hy
 cases hz:Nat.beq ti.size 0 with
 | true=>rw [hz] at hw; cases hw
 | false =>
  rw [hz] at hw
  simp only [cond_false] at hw
  obtain ⟨y',S',ρ',ve',g',e,h',hw',r1,r2⟩:=qGu h hb hw
  rw [← r2] at he
  have fin:∀ (z:SV) (b i:Nat),z.bd S'.n S'.blks.length->y'.val ve' lb=.pointer (some ⟨b,i,none⟩)->z.val ve' lb=.pointer (some ⟨b,i+off,none⟩)->wp E HS Q (κ z S') ρ'->jS wm E HS Q n0 H0 g0 fr H o κ:=by
   intro z b i hzb hv hzv hw
   refine .same h' hzb hw ?_
   unfold jH
   rw [ho]
   simp only [he,hv,qHR hf hz,one,Option.map_some,hzv]
  simp only at hw'
  split at hw'
  ·rename_i b o'
   exact fin (.loc b (Nat.add o' off)) (lb b) o' r1 rfl rfl hw'
  ·rename_i s i sz o'
   obtain ⟨bb,oo,q1,q2⟩:=qMo (s.val ve' lb) (i.val ve' lb) sz o' off
   exact fin (.ptr s i sz (Nat.add o' off)) bb oo r1 q1 q2 hw'
  ·rename_i i o'
   obtain ⟨bb,oo,q1,q2⟩:=qPa (ve' i) o' off
   exact fin (.pp i (Nat.add o' off)) bb oo r1 q1 q2 hw'
  cases hw'
theorem qME (h:SR E n0 H0 g0 S ρ ve lb g fr H) {t:TypeId} {x:Operand} {f:Nat} (ho:o.op=.field t x f) (hw:wp E HS Q (vZ E o S κ) ρ):jS wm E HS Q n0 H0 g0 fr H o κ:=by
 unfold vZ at hw
 rw [ho] at hw
 simp only at hw
 have run:∀ {vs:List Value} {off:Nat} {ti:TI} {v:Value},ev E fr x=some (.agg ⟨vs⟩)->eJ E t f=some (off,ti)->pV ti.agg ti.size off vs=some v->jH E fr o H=some (.val v,H):=by
  intro vs off ti v he hf hp
  obtain ⟨fs,bt,sz,z,ag,fd,h1,h2,h3,h4⟩:=qAp hf
  subst h4
  unfold jH
  rw [ho]
  simp only [he,h1,h2]
  have:eZ E fd.type vs fd.offset=some v:=by
   simp only [eZ,h3,Option.bind_some]
   exact hp
  simp only [this,one,Option.map_some]
 split at hw
 ·rename_i cs off ti hy hf
  obtain ⟨hb,he⟩:=zM (E:=E) h hy
  split at hw
  ·rename_i y hp
   exact .same h (qFy hp hb) hw (run he hf (qFx hp))
  cases hw
 ·rename_i i off ti hy hf
  obtain ⟨hb,he⟩:=zM (E:=E) h hy
  obtain ⟨cs,hd,hl,hdr,h',hw⟩:=qJF h hw
  obtain ⟨vs,hv,hvs,ho'⟩:=wQ hdr hd
  obtain ⟨d,h1,h2,h3⟩:=zX hw
  have hgd:getD (ρ++[getD ρ i]) S.n=.agg cs:=by rw [qEx h.toSM,hd]
  simp only [SV.ds,SV.d,qB6,hgd,D.cells] at h2
  obtain ⟨v,r1,r2,r3,_⟩:=aD hvs ho' h2
  simp only [SV.val,hv] at he
  exact .new h' (k:=.pure) (one:=!ti.agg) (by simp) ⟨fun e=>r3 (by simpa using e),r2⟩ h3 (run he hf r1)
 cases hw
theorem qFD (h:SR E n0 H0 g0 S ρ ve lb g fr H) {x:Operand} (ho:o.op=.nilCheck x) (hw:wp E HS Q (vZ E o S κ) ρ):jS wm E HS Q n0 H0 g0 fr H o κ:=by
 unfold vZ at hw
 rw [ho] at hw
 simp only at hw
 split at hw
 ·rename_i b o' hy
  obtain ⟨hb,he⟩:=zM (E:=E) h hy
  refine .same h hb hw ?_
  unfold jH; rw [ho]
  simp only [SV.val] at he
  simp only [he,SV.val]
 ·rename_i f a b hy
  obtain ⟨hb,he⟩:=zM (E:=E) h hy
  refine .same h hb hw ?_
  unfold jH; rw [ho]
  simp only [SV.val] at he
  simp only [he,SV.val]
 ·rename_i t y hy
  obtain ⟨hb,he⟩:=zM (E:=E) h hy
  refine .same h hb hw ?_
  unfold jH; rw [ho]
  simp only [SV.val] at he
  simp only [he,SV.val]
 ·rename_i i hy
  obtain ⟨hb,he⟩:=zM (E:=E) h hy
  obtain ⟨d,h1,h2,h3⟩:=zX hw
  have hr:=zJ h.toSM (h1 _ (List.mem_singleton.2 rfl))
  simp only [SV.ds,SV.d,qW3] at h2
  simp only [SV.val] at he
  have fin:DR g (getD ρ i) (ve i)->d=getD ρ i->d.one=true->jH E fr o H=some (.val (ve i),H)->jS wm E HS Q n0 H0 g0 fr H o κ:=by
   intro hdr hd hone ha
   exact .new h (k:=.pure) (one:=true) (by simp) ⟨fun _=>hone,by rw [hd]; exact hdr⟩ h3 ha
  have hdr:DR g (getD ρ i) (ve i):=hr.dr (by cases hq:getD ρ i <;> simp only [SV.d,hq] at h2 ⊢ <;> first | rfl | (cases h2))
  split at h2
  ·rename_i f a b hd
   cases h2
   refine fin hdr rfl (by rw [hd]; rfl) ?_
   rw [hd] at hdr
   unfold jH; rw [ho]
   simp only [he]
   generalize ve i=vi at hdr
   cases hdr with
   | clo _ _ _=>rfl
  ·rename_i cs off hd
   cases h2
   refine fin hdr rfl (by rw [hd]; rfl) ?_
   rw [hd] at hdr
   unfold jH; rw [ho]
   simp only [he]
   generalize ve i=vi at hdr
   cases hdr with
   | ptr _ _ _=>rfl
  ·rename_i t d' hd
   cases h2
   refine fin hdr rfl (by rw [hd]; rfl) ?_
   rw [hd] at hdr
   unfold jH; rw [ho]
   simp only [he]
   generalize ve i=vi at hdr
   cases hdr with
   | iface _=>rfl
  cases h2
 cases hw
theorem qKu {op:BinOp} {t:TypeId} {x y:Operand} {neg:Bool} (h:qBx E op t x y neg=true) :
  (∃ e bt sz z ag,E.types.get t=some ⟨.slice e,sz,bt,z,ag⟩)/\rG E op t x y (.slice none 0 0) (.slice none 0 0)=some (.bool !neg)/\(op=.eql/\neg=false∨op=.neq/\neg=true):=by
 unfold qBx oZ at h
 simp only [aE] at h
 obtain ⟨⟨h1,h2⟩,h3⟩:=h
 refine ⟨?_,?_,?_⟩
 ·split at h1
  ·exact ⟨_,_,_,_,_,by assumption⟩
  cases h1
 ·split at h2
  ·rename_i b hb
   rw [hb]
   simp only [beq_iff_eq] at h2
   rw [h2]
  cases h2
 split at h3
 ·left; exact ⟨rfl,by simpa using h3⟩
 ·right; exact ⟨rfl,h3⟩
 cases h3
theorem qMQ {x:SV} (h:qEs x=true):x=.c (.slice none 0 0):=by
 unfold qEs at h
 split at h
 ·rfl
 cases h
theorem qTG (h:SR E n0 H0 g0 S ρ ve lb g fr H) {op:BinOp} {t:TypeId} {x y:Operand} {b:Option BinOp->Bool} {bb:_} (ho:o.op=.binOp op t x y bb) (hw:wp E HS Q (vZ E o S κ) ρ):jS wm E HS Q n0 H0 g0 fr H o κ:=by
 unfold vZ at hw
 rw [ho] at hw
 simp only at hw
 split at hw
 case h_2=>cases hw
 rename_i a c ha hc
 obtain ⟨hb1,he1⟩:=zM (E:=E) h ha
 obtain ⟨hb2,he2⟩:=zM (E:=E) h hc
 have run:∀ {v:Value},rG E op t x y (a.val ve lb) (c.val ve lb)=some v->jH E fr o H=some (.val v,H):=by
  intro v hv
  unfold jH; rw [ho]
  simp only [he1,he2,hv,one,Option.map_some]
 cases hn:(qEs c && (qBx E op t x y true || qBx E op t x y false)) with
 | true =>
  rw [hn] at hw
  simp only [aE,cond_true] at hn hw
  have hcc:=qMQ hn.1
  subst hcc
  obtain ⟨d,h1,h2,h3⟩:=zX hw
  have hr:=zJ h.toSM (h1 _ (List.mem_singleton.2 rfl))
  have hneg:∃ neg,qBx E op t x y neg=true:=by
   have:=hn.2
   simp only [Bool.or_eq_true] at this
   rcases this with h | h
   ·exact ⟨_,h⟩
   exact ⟨_,h⟩
  obtain ⟨neg,hneg⟩:=hneg
  obtain ⟨⟨e,bt,sz,z,ag,ht⟩,hbin,hop⟩:=qKu hneg
  have hng:qSL op=neg:=by
   rcases hop with ⟨rfl,rfl⟩ | ⟨rfl,rfl⟩ <;> rfl
  rw [hng] at h2
  simp only [SV.ds,qNK] at h2
  generalize hdd:a.d (getD ρ)=dd at h2 hr
  cases dd with
  | nil =>
   simp only [oI] at h2
   subst h2
   have hv:=hr.dr rfl
   generalize hvv:a.val ve lb=vv at hv
   cases hv with
   | nil =>
    refine .new h (k:=.pure) (one:=true) (by simp) (v:=.bool !neg) ⟨fun _=>rfl,.leaf rfl⟩ h3 (run ?_)
    rw [hvv]; exact hbin
  | sl el sz es =>
   simp only [oI] at h2
   subst h2
   obtain ⟨b',o',l,c',_,_,_,_,q⟩:=hr.sl h.mem
   refine .new h (k:=.pure) (one:=true) (by simp) (v:=.bool neg) ⟨fun _=>rfl,.leaf rfl⟩ h3 (run ?_)
   rw [q.v]
   rcases hop with ⟨rfl,rfl⟩ | ⟨rfl,rfl⟩
   ·simp [rG,zP,zI,qDi,ht,qAb,SV.val]
   simp [rG,zP,zI,qDi,ht,qAb,SV.val]
  | _=>cases h2
 | false =>
  rw [hn] at hw
  simp only [cond_false] at hw
  obtain ⟨hp,hw⟩:=jB hw
  simp only [aE] at hp
  simp only [wp] at hw
  split at hw
  case h_2=>cases hw
  rename_i d hd
  simp only [SV.ds,bN] at hd
  split at hd
  case h_2=>cases hd
  rename_i u v hu hv
  obtain ⟨r,hr,rfl,hrl⟩:=aN hd
  have e1:=qG6 (jP h.toSM hp.1) hu
  have e2:=qG6 (jP h.toSM hp.2) hv
  exact .new h (k:=.pure) (one:=true) (by simp) (v:=r) ⟨fun _=>rfl,.leaf hrl⟩ hw (run (by rw [e1,e2]; exact hr))
theorem qWu (h:SR E n0 H0 g0 S ρ ve lb g fr H) {op:UnOp} {t:TypeId} {x:Operand} (ho:o.op=.unOp op t x) (hw:wp E HS Q (vZ E o S κ) ρ):jS wm E HS Q n0 H0 g0 fr H o κ:=by
 unfold vZ at hw
 rw [ho] at hw
 simp only at hw
 split at hw
 case h_2=>cases hw
 rename_i y hy
 obtain ⟨hb,he⟩:=zM (E:=E) h hy
 split at hw
 ·rename_i b hc
  have:y=.c (.bool b):=by
   unfold qNY at hc
   split at hc
   ·cases hc; rfl
   cases hc
  subst this
  simp only [SV.val] at he
  refine .same h (y:=.c (.bool !b)) trivial hw ?_
  unfold jH; rw [ho]
  simp only [he,SV.val]
  rfl
 obtain ⟨d,h1,h2,h3⟩:=zX hw
 have hr:=zJ h.toSM (h1 _ (List.mem_singleton.2 rfl))
 simp only [SV.ds] at h2
 generalize hdd:y.d (getD ρ)=dd at h2 hr
 cases dd with
 | leaf u =>
  rw [qW2] at h2
  have hv:=(hr.dr rfl).leaf_inv.1
  cases hf:zP u with
  | false=>rw [hf] at h2; cases h2
  | true =>
   rw [hf] at h2
   simp only [cond_true] at h2
   obtain ⟨r,hr',rfl,hrl⟩:=aN h2
   refine .new h (k:=.pure) (one:=true) (by simp) (v:=r) ⟨fun _=>rfl,.leaf hrl⟩ h3 ?_
   unfold jH; rw [ho]
   rw [hv] at he
   simp only [he,hf,cond_true,hr',one,Option.map_some]
 | _=>cases h2
theorem qPo (h:SR E n0 H0 g0 S ρ ve lb g fr H) {s d:TypeId} {x:Operand} (ho:o.op=.convert s d x) (hbi:eM E s d=none) (hbo:sQ E s d=false) (hw:wp E HS Q (vZ E o S κ) ρ):jS wm E HS Q n0 H0 g0 fr H o κ:=by
 unfold vZ at hw
 rw [ho] at hw
 simp only [hbi,hbo,cond_false] at hw
 split at hw
 case h_2=>cases hw
 rename_i y hy
 obtain ⟨hb,he⟩:=zM (E:=E) h hy
 obtain ⟨dd,h1,h2,h3⟩:=zX hw
 have hr:=zJ h.toSM (h1 _ (List.mem_singleton.2 rfl))
 simp only [SV.ds] at h2
 generalize hdd:y.d (getD ρ)=de at h2 hr
 cases de with
 | leaf u =>
  rw [qQm] at h2
  obtain ⟨hv,hul⟩:=(hr.dr rfl).leaf_inv
  obtain ⟨r,hr',rfl,hrl⟩:=aN h2
  refine .new h (k:=.pure) (one:=true) (by simp) (v:=r) ⟨fun _=>rfl,.leaf hrl⟩ h3 ?_
  unfold jH; rw [ho]
  rw [hv] at he
  simp only [he]
  cases u with
  | string b =>
   simp only [qJB] at hr'
   simp only
   split at hr'
   ·cases hr'
   rename_i hn
   split
   ·rename_i e1 e2
    exact absurd e2 (hn _ _ _ _ _ _ _ _ _ e1)
   rw [hr']; rfl
  | slice a l c=>simp [gC] at hul
  | pointer a=>cases hr'
  | _ =>
   simp only [qJB] at hr'
   rw [cond_eq_ite] at hr'
   simp only
   rw [cond_eq_ite]
   split at hr'
   ·rename_i hfl
    rw [if_pos hfl,hr']
    rfl
   cases hr'
 | _=>cases h2
theorem qTD (h:SR E n0 H0 g0 S ρ ve lb g fr H) {t:TypeId} {x:Operand} (ho:o.op=.makeInterface t x) (hw:wp E HS Q (vZ E o S κ) ρ):jS wm E HS Q n0 H0 g0 fr H o κ:=by
 unfold vZ at hw
 rw [ho] at hw
 simp only at hw
 cases ht:E.types.get t with
 | none=>rw [ht] at hw; cases hw
 | some ti =>
  cases hy:rK S x with
  | none =>
   rw [ht,hy] at hw
   obtain ⟨d,_,_,_,_⟩:=ti
   cases d <;> cases hw
  | some y =>
   rw [ht,hy] at hw
   obtain ⟨hb,he⟩:=zM (E:=E) h hy
   have fin:wp E HS Q (κ (.ifc t y) S) ρ->jH E fr o H=some (.val (.iface t (y.val ve lb)),H)->jS wm E HS Q n0 H0 g0 fr H o κ:=fun hw ha =>
    .same h (y:=.ifc t y) hb hw ha
   obtain ⟨d,_,_,_,_⟩:=ti
   cases d <;> first | (cases hw; done) | skip
   all_goals
    refine fin hw ?_
    unfold jH; rw [ho]
    simp only [he,ht,one,Option.map_some]
theorem qHq (h:SR E n0 H0 g0 S ρ ve lb g fr H) {x:Operand} {i:Nat} (ho:o.op=.extract x i) (hw:wp E HS Q (vZ E o S κ) ρ):jS wm E HS Q n0 H0 g0 fr H o κ:=by
 unfold vZ at hw
 rw [ho] at hw
 simp only at hw
 split at hw
 ·rename_i cs hy
  obtain ⟨hb,he⟩:=zM (E:=E) h hy
  split at hw
  ·rename_i y hc
   refine .same h ((SV.bds_iff.1 hb) y (List.mem_of_getElem? hc)) hw ?_
   unfold jH; rw [ho]
   simp only [SV.val,SV.vals_map] at he
   simp only [he,List.getElem?_map,hc,Option.map_some,one]
  cases hw
 ·rename_i j hy
  obtain ⟨hb,he⟩:=zM (E:=E) h hy
  obtain ⟨d,h1,h2,h3⟩:=zX hw
  have hr:=zJ h.toSM (h1 _ (List.mem_singleton.2 rfl))
  simp only [SV.ds,SV.d] at h2 hr
  generalize hdd:getD ρ j=dd at h2 hr
  cases dd with
  | tup ds =>
   rw [qNL] at h2
   have hv:=hr.dr rfl
   simp only [SV.val] at hv he
   generalize hvv:ve j=vv at hv he
   cases hv with
   | tup hv =>
    obtain ⟨v,q1,q2⟩:=hv.get _ _ h2
    refine .new h (k:=.pure) (one:=false) (by simp) (v:=v) ⟨(fun e=>by cases e),q2⟩ h3 ?_
    unfold jH; rw [ho]
    simp only [he,q1,one,Option.map_some]
  | _=>cases h2
 cases hw
end
end Go.Am
namespace Go.Am
open Go
section
variable {E:Env} {n0:Lim} {H0:AH} {g0:zG} {S:St} {ρ:List D} {ve:Nat->Value} {lb:Nat->Nat} {g:zG} {fr:Fr} {H:AH} {HS:FuncId->List D->D->Prop} {Q:Res1->Prop} {o:Oper} {κ:K1} {wm:Bool}
theorem k9 {t e:TypeId} (h:oZ E t=some e):∃ sz bt z ag,E.types.get t=some ⟨.slice e,sz,bt,z,ag⟩:=by
 unfold oZ at h
 split at h
 ·cases h; exact ⟨_,_,_,_,by assumption⟩
 cases h
theorem qEn (h:SR E n0 H0 g0 S ρ ve lb g fr H) {t:TypeId} {x i:Operand} (ho:o.op=.indexAddr t x i) (hw:wp E HS Q (vZ E o S κ) ρ):jS wm E HS Q n0 H0 g0 fr H o κ:=by
 unfold vZ at hw
 rw [ho] at hw
 simp only at hw
 split at hw
 case h_2=>cases hw
 rename_i y j el hy hj hel
 obtain ⟨hb1,he1⟩:=zM (E:=E) h hy
 obtain ⟨hb2,he2⟩:=zM (E:=E) h hj
 obtain ⟨sz,bt,z,ag,ht⟩:=k9 hel
 split at hw
 case h_2=>cases hw
 rename_i e hte
 obtain ⟨hr,hw⟩:=jB hw
 simp only [aE] at hr
 obtain ⟨d,h1,h2,h3⟩:=zX hw
 have r1:=zJ h.toSM hr.1
 have r2:=zJ h.toSM hr.2
 simp only [SV.ds,qHZ,Option.map_eq_some_iff] at h2
 obtain ⟨ed,hed,rfl⟩:=h2
 obtain ⟨b,o',l,c,k,n,cs,rJ,jA,rt,own,w1,w2,w3,w4,_,w5,w6,w7⟩:=qAS h.mem r1 r2 hed
 have hle:Nat.ble (n+1) l=true:=bL w3
 have hs:=h.new (k:=.pure) (o:=true) (by simp) (d:=.leaf (.bool true)) (v:=.bool true) ⟨fun _=>rfl,.leaf rfl⟩
 have ex:ExtS S ρ ve g (S.new .pure true) (ρ++[.leaf (.bool true)]) (bX ve S.n (.bool true)) g:=wH h.len
 refine .same hs (y:=.ptr y j e.size 0) ⟨ex.bd hb1,ex.bd hb2⟩ h3 ?_
 simp only [SV.val,ex.val (lb:=lb) hb1,ex.val (lb:=lb) hb2]
 unfold jH; rw [ho]
 rw [w1] at he1
 rw [w2] at he2
 simp only [he1,he2,Option.bind_some,nat?,tM,ht,hte,hle,cond_true,one,Option.map_some,w1,w2,qBq]
 rfl
theorem qMD (h:SR E n0 H0 g0 S ρ ve lb g fr H) {t:TypeId} {x i:Operand} (ho:o.op=.index t x i) (hw:wp E HS Q (vZ E o S κ) ρ):jS wm E HS Q n0 H0 g0 fr H o κ:=by
 unfold vZ at hw
 rw [ho] at hw
 simp only at hw
 split at hw
 case h_2=>cases hw
 rename_i y j sz bt z ag hy hj ht
 obtain ⟨hb1,he1⟩:=zM (E:=E) h hy
 obtain ⟨hb2,he2⟩:=zM (E:=E) h hj
 obtain ⟨d,h1,h2,h3⟩:=zX hw
 have r1:=zJ h.toSM (h1 y (by simp))
 have r2:=zJ h.toSM (h1 j (by simp))
 simp only [SV.ds] at h2
 generalize hyd:y.d (getD ρ)=yd at h2 r1
 generalize hjd:j.d (getD ρ)=jd at h2 r2
 match yd,h2,r1 with
 | .leaf (.string s),h2,r1 =>
  rw [qH0] at h2
  split at h2
  ·rename_i n hn
   obtain ⟨k,hk⟩:=aI r2 hn
   simp only [Option.map_eq_some_iff] at h2
   obtain ⟨bb,hbb,rfl⟩:=h2
   have hv:=(r1.dr rfl).leaf_inv.1
   refine .new h (k:=.pure) (one:=true) (by simp) (v:=.int .u8 bb.toNat) ⟨fun _=>rfl,.leaf rfl⟩ h3 ?_
   unfold jH; rw [ho]
   rw [hv] at he1
   rw [hk] at he2
   simp only [he1,he2,Option.bind_some,nat?,ht,hbb,one,Option.map_some]
  cases h2
theorem qBs {i:Nat} {x:Operand} {r:List (Nat × Operand)} {v:Value} {ps:List (Nat × Value)} (hv:ev E fr x=some v) (hn:cG v) (hr:parts? E fr r=some ps):parts? E fr ((i,x)::r)=some ((i,v)::ps):=by
 simp only [parts?,hv]
 split
 ·rename_i h; cases h
 ·rename_i c h
  simp only [oI] at h
  exact absurd h (hn _)
 rename_i v' hn' h
 simp only [oI] at h
 subst h
 rw [hr]; rfl
theorem qCo {place:Nat->Option (Nat × Nat × Bool)} {place':Nat->Option (Nat × Nat)} (hpl:∀ i off size ag,place i=some (off,size,ag)->place' i=some (off,size)):∀ (ps:List (Nat × Operand)) {S:St} {ρ:List D} {ve:Nat->Value} {g:zG} {cs:List SV} {κ:List SV->St->Tree},
  SR E n0 H0 g0 S ρ ve lb g fr H->SV.bds S.n S.blks.length cs->wp E HS Q (qCq E S place cs ps κ) ρ ->
  mY E HS Q n0 H0 g0 S ρ ve lb g fr H κ fun l S' _ ve' _=>SV.bds S'.n S'.blks.length l/\∃ vs,parts? E fr ps=some vs/\dA (SV.vals ve lb cs) vs place'=some (SV.vals ve' lb l)
 | [],S,ρ,ve,g,cs,κ,h,hb,hw=>⟨cs,S,ρ,ve,g,.refl,h,hw,hb,[],rfl,rfl⟩
 | (i,x)::r,S,ρ,ve,g,cs,κ,h,hb,hw=>by
  simp only [qCq] at hw
  split at hw
  case h_2=>cases hw
  rename_i off size ag y hp hy
  obtain ⟨hyb,he⟩:=zM (E:=E) h hy
  obtain ⟨l,S1,ρ1,ve1,g1,e1,h1,hw1,s1,s2,s3,s4⟩:=rL h hyb hw
  simp only at hw1
  split at hw1
  case h_2=>cases hw1
  rename_i cs' hsp
  have hsp':=rS (ve:=ve1) (lb:=lb) hsp
  have hcs:SV.vals ve1 lb cs=SV.vals ve lb cs:=SV.vals_congr e1.ve (fun _ _=>rfl) hb
  rw [hcs,s2] at hsp'
  obtain ⟨l',S2,ρ2,ve2,g2,e2,h2,hw2,t1,vs,t2,t3⟩:=qCo hpl r h1 (rT hsp (e1.bds hb) s1) hw1
  refine ⟨l',S2,ρ2,ve2,g2,e1.trans e2,h2,hw2,t1,_,qBs he s4 t2,?_⟩
  have hl:(y.val ve lb).cells.toList.length=size:=by rw [← s2,SV.vals_map,List.length_map,s3]
  simp only [dA,hpl _ _ _ _ hp,hl,hsp',zC,if_true]
  exact t3
theorem qMH (h:SR E n0 H0 g0 S ρ ve lb g fr H) {t:TypeId} {ps:Array (Nat × Operand)} (ho:o.op=.build t ps) (hw:wp E HS Q (vZ E o S κ) ρ):jS wm E HS Q n0 H0 g0 fr H o κ:=by
 unfold vZ at hw
 rw [ho] at hw
 simp only at hw
 split at hw
 ·rename_i fs sz bt z ht
  obtain ⟨_,hw⟩:=jB hw
  obtain ⟨l,S',ρ',ve',g',e,h',hw',r1,vs,r2,r3⟩:=qCo (place':=fieldPlace? E fs.toList) (fun i off size ag hp=>by
   simp only [fieldPlace?]
   split at hp
   ·rename_i f hf
    simp only [Option.map_eq_some_iff,Prod.mk.injEq] at hp
    obtain ⟨ti,h1,h2,h3,h4⟩:=hp
    have hf':fs.toList[i]? = some f:=by simpa using hf
    simp only [hf',h1,Option.map_some,h2,h3]
   cases hp) ps.toList h (qJM _) hw
  rw [qD4] at r3
  refine .same h' (y:=.agg l) r1 hw' ?_
  unfold jH; rw [ho]
  simp only [r2,iF,ht,r3,Option.map_some,one,SV.val]
 ·rename_i n elem sz bt z ht
  obtain ⟨hz,hw⟩:=jB hw
  cases hte:E.types.get elem with
  | none=>rw [hte] at hz; cases hz
  | some e =>
   obtain ⟨l,S',ρ',ve',g',ex,h',hw',r1,vs,r2,r3⟩:=qCo (place':=fun i=>some (Nat.mul i e.size,e.size)) (fun i off size ag hp=>by
    simp only [hte,Option.map_some,oI,Prod.mk.injEq] at hp
    rw [← hp.1,← hp.2.1]) ps.toList h (qJM _) hw
   rw [qD4] at r3
   refine .same h' (y:=.agg l) r1 hw' ?_
   unfold jH; rw [ho]
   simp only [r2,iF,ht,hte,Option.bind_some,r3,Option.map_some,one,SV.val]
 cases hw
theorem dX:∀ (a b c vs:List Value),b.length=vs.length->j5 (a++(b++c)) a.length vs=some (a++(vs++c))
 | [],b,c,vs,h=>by
  simp only [List.nil_append,List.length_nil]
  induction vs generalizing b with
  | nil=>cases b with
   | nil=>simp [j5]
   | cons _ _=>simp at h
  | cons v vs ih=>cases b with
   | nil=>simp at h
   | cons x b=>simp only [List.cons_append,j5]; rw [ih b (by simpa using h)]; rfl
 | x::a,b,c,vs,h=>by
  simp only [List.cons_append,List.length_cons]
  cases vs with
  | nil =>
   cases b with
   | nil=>simp only [j5,dX a [] c [] rfl,Option.map_some]
   | cons _ _=>simp at h
  | cons v vs=>simp only [j5,dX a b c (v::vs) h,Option.map_some]
theorem qGs {size:Nat} {ag:Bool} {z:List Value} (hz:z.length=size):∀ (ps:List (Nat × Operand)) {S:St} {ρ:List D} {ve:Nat->Value} {g:zG} {acc:List SV} {done:List Value} {κ:List SV->St->Tree},
  SR E n0 H0 g0 S ρ ve lb g fr H->SV.bds S.n S.blks.length acc->done.length=acc.length * size->done=(acc.map (SV.val ve lb)).flatMap (fun v=>v.cells.toList) ->
  (∀ x∈acc,(x.d (getD ρ)).cells.length=size/\((x.d (getD ρ)).one=true∨∃ cs,x.d (getD ρ)=.agg cs))->wp E HS Q (uC size ag acc S ps κ) ρ ->
  mY E HS Q n0 H0 g0 S ρ ve lb g fr H κ fun l S' ρ' ve' _=>SV.bds S'.n S'.blks.length l/\(∀ x∈l,(x.d (getD ρ')).cells.length=size/\((x.d (getD ρ')).one=true∨∃ cs,x.d (getD ρ')=.agg cs)) /\
   l.length=acc.length+ps.length/\∃ vs,parts? E fr ps=some vs/\dA (done++yC z ps.length) vs (fun i=>some (Nat.mul i size,size))=some ((l.map (SV.val ve' lb)).flatMap (fun v=>v.cells.toList))
 | [],S,ρ,ve,g,acc,done,κ,h,hb,hdl,hd,hc,hw=>⟨acc,S,ρ,ve,g,.refl,h,hw,hb,hc,rfl,[],rfl,by simp [dA,yC,hd]⟩
 | (i,x)::r,S,ρ,ve,g,acc,done,κ,h,hb,hdl,hd,hc,hw=>by
  simp only [uC] at hw
  split at hw
  case h_2=>cases hw
  rename_i y hy
  obtain ⟨hyb,he⟩:=zM (E:=E) h hy
  obtain ⟨hi,hw2⟩:=jB hw
  have hi:=jF hi
  subst hi
  have main:∀ {S1:St} {g1:zG},ExtS S ρ ve g S1 ρ ve g1->SR E n0 H0 g0 S1 ρ ve lb g1 fr H->kL S1 y=true->wp E HS Q (.bind (.chk ag size) [y] (uC size ag (acc++[y]) (S1.new .dead false) r κ)) ρ ->
    mY E HS Q n0 H0 g0 S ρ ve lb g fr H κ fun l S' ρ' ve' _=>SV.bds S'.n S'.blks.length l/\(∀ x∈l,(x.d (getD ρ')).cells.length=size/\((x.d (getD ρ')).one=true∨∃ cs,x.d (getD ρ')=.agg cs)) /\
     l.length=acc.length+((acc.length,x)::r).length/\∃ vs,parts? E fr ((acc.length,x)::r)=some vs/\dA (done++yC z ((acc.length,x)::r).length) vs (fun i=>some (Nat.mul i size,size))=some ((l.map (SV.val ve' lb)).flatMap (fun v=>v.cells.toList)):=by
   intro S1 g1 e0 h1 hry hw
   simp only [wp] at hw
   split at hw
   case h_2=>cases hw
   rename_i d hd'
   simp only [SV.ds,iB] at hd'
   obtain ⟨rfl,q1,q2⟩:=iE hd'
   have hrd:=zJ h1.toSM hry
   have hy3:(y.d (getD ρ)).cells.length=size/\((y.d (getD ρ)).one=true∨∃ cs,y.d (getD ρ)=.agg cs)/\(y.val ve lb).cells.toList.length=size/\cG (y.val ve lb):=by
    cases ag with
    | true =>
     obtain ⟨cs,hcs,hl⟩:=q1 rfl
     have hdr:DR g1 (y.d (getD ρ)) (y.val ve lb):=hrd.dr (by rw [hcs]; rfl)
     obtain ⟨vs,hv,hvs,_⟩:=wQ hdr hcs
     refine ⟨by rw [hcs]; exact hl,.inr ⟨cs,hcs⟩,?_,lM hdr hcs⟩
     rw [hv]
     show vs.length=size
     rw [hvs.length,hl]
    | false =>
     obtain ⟨h1,h2⟩:=q2 rfl
     obtain ⟨h3,h4⟩:=qBn hrd h1
     refine ⟨?_,.inl h1,by rw [h3]; exact h2.symm,h4⟩
     rw [h2]
     generalize y.d (getD ρ)=yd at h1
     cases yd <;> first | rfl | (cases h1; done)
   obtain ⟨y1,y2,y3,y4⟩:=hy3
   have h':=h1.new (k:=.dead) (o:=false) (by simp) (d:=y.d (getD ρ)) (v:=.bool true) ⟨(fun e=>by cases e),trivial⟩
   have e:ExtS S ρ ve g (S1.new .dead false) (ρ++[y.d (getD ρ)]) (bX ve S1.n (.bool true)) g1:=e0.trans (wH h1.len)
   have hb':SV.bds S.n S.blks.length (acc++[y]):=by
    rw [SV.bds_iff] at hb ⊢
    intro u hu
    rcases List.mem_append.1 hu with hu | hu
    ·exact hb u hu
    simp only [List.mem_singleton] at hu; subst hu; exact hyb
   have hvals:(acc++[y]).map (SV.val (bX ve S1.n (.bool true)) lb)=(acc++[y]).map (SV.val ve lb):=by
    rw [← SV.vals_map,← SV.vals_map]
    exact SV.vals_congr e.ve (fun _ _=>rfl) hb'
   obtain ⟨l,S',ρ',ve',g',e',r1,r2,r3,r4,r5,vs,r6,r7⟩:=qGs hz r (acc:=acc++[y]) (done:=done++(y.val ve lb).cells.toList) h' (e.bds hb') (by simp [hdl,y3,Nat.add_mul]) (by
     rw [hvals,List.map_append,List.flatMap_append,hd]; simp) (fun u hu=>by
     have hub:=(SV.bds_iff.1 hb') u hu
     rw [e.d hub]
     rcases List.mem_append.1 hu with hu | hu
     ·exact hc u hu
     simp only [List.mem_singleton] at hu; subst hu; exact ⟨y1,y2⟩) hw
   refine ⟨l,S',ρ',ve',g',e.trans e',r1,r2,r3,r4,by simp at r5 ⊢; omega,_,qBs he y4 r6,?_⟩
   have hsp:j5 (done++yC z (r.length+1)) (acc.length * size) (y.val ve lb).cells.toList=some (done++((y.val ve lb).cells.toList++yC z r.length)):=by
    have:=dX done z (yC z r.length) (y.val ve lb).cells.toList (by rw [hz,y3])
    rw [hdl] at this
    exact this
   simp only [List.length_cons,dA,y3,zC,if_true,Nat.mul_eq,hsp]
   rw [List.append_assoc] at r7
   exact r7
  rw [cond_eq_ite] at hw2
  split at hw2
  ·rename_i hry; exact main .refl h hry hw2
  obtain ⟨g1,e0,h1⟩:=nA y h
  obtain ⟨hry,hw2⟩:=jB hw2
  exact main e0 h1 hry hw2
end
end Go.Am
namespace Go.Am
open Go
def zG.add (g:zG) (b:Nat) (k:ABlk):zG:=fun c=>if c=b then some k else g c
theorem zG.le_add {g:zG} {b:Nat} {k:ABlk} (h:g b=none):zG.le g (g.add b k):=by
 intro c k' hc
 simp only [zG.add]
 split
 ·rename_i e; subst e; rw [h] at hc; cases hc
 exact hc
theorem zG.add_at {g:zG} {b:Nat} {k:ABlk}:g.add b k b=some k:=if_pos rfl
theorem zG.add_ne {g:zG} {b c:Nat} {k:ABlk} (h:c≠b):g.add b k c=g c:=if_neg h
section
variable {E:Env} {n0:Lim} {H0:AH} {g0:zG} {S:St} {ρ:List D} {ve:Nat->Value} {lb:Nat->Nat} {g:zG} {fr:Fr} {H:AH} {HS:FuncId->List D->D->Prop} {Q:Res1->Prop} {o:Oper} {κ:K1} {wm:Bool}
theorem qKv (h:WF H):H.blocks.get H.next=none:=by
 cases hc:H.blocks.get H.next with
 | none=>rfl
 | some k=>exact absurd (h _ _ hc).2 (Nat.lt_irrefl _)
theorem f8 (h:SM n0 S ρ ve lb g H):g H.next=none:=by
 cases hc:g H.next with
 | none=>rfl
 | some k=>have:=h.mem _ _ hc; rw [qKv h.wf] at this; cases this
theorem SR.allocPure (h:SR E n0 H0 g0 S ρ ve lb g fr H) (cs:List Value) (el:TypeId) :
  SR E n0 H0 g0 S ρ ve lb (g.add H.next ⟨.cells cs el,H.next,true⟩) fr (H.new (.cells cs el)):=by
 have h':=h.heap (H':=H.new (.cells cs el)) bC (h.wf.new _) (Nat.le_succ _) h.low
 have hle:zG.le g (g.add H.next ⟨.cells cs el,H.next,true⟩):=zG.le_add (f8 h.toSM)
 refine { h' with mem:=?_,vars:=?_,sepLG:=?_,sepFG:=?_,gk:=?_,tab:=h.tab.mono hle }
 ·intro b k hb
  by_cases e:b=H.next
  ·subst e
   rw [zG.add_at] at hb
   rw [AH.get_new,if_pos rfl]
   exact hb
  rw [zG.add_ne e] at hb
  exact h'.mem b k hb
 ·intro i s hs
  exact (h'.vars i s hs).mono hle (fun _ _ _=>rfl)
 ·intro b hb
  rw [zG.add_ne (by have:=(xZ h.toSM hb).1; omega)]
  exact h.sepLG b hb
 ·intro i B hi hB
  rw [zG.add_ne (by have:=(pM h.toSM hi hB).1; omega)]
  exact h.sepFG i B hi hB
 intro b hb
 rw [zG.add_ne (by have:=h.base.2 b hb; omega)]
 exact h.gk b hb
theorem nY (h:SM n0 S ρ ve lb g H) {xs:List SV} (hp:∀ x∈xs,xX S x=true):DRs g (SV.ds (getD ρ) xs) (SV.vals ve lb xs):=by
 induction xs with
 | nil=>exact .nil
 | cons x xs ih=>exact .cons (jP h (hp x List.mem_cons_self)) (ih fun y hy=>hp y (mC _ hy))
theorem qHL {ds:List D} {vs:List Value} (h:DRs g ds vs):DRs g (ds.flatMap D.cells) (vs.flatMap fun v=>v.cells.toList):=by
 induction ds generalizing vs with
 | nil=>cases h; exact .nil
 | cons d ds ih=>cases h with
  | cons h hs =>
   simp only [List.flatMap_cons]
   exact h.cells.append (ih hs)
theorem qNt {ds:List D} {vs:List Value} (h:DRs g ds vs) (hc:∀ d∈ds,d.one=true∨∃ cs,d=.agg cs):(vs.flatMap fun v=>v.cells.toList).all qQ=true:=by
 induction ds generalizing vs with
 | nil=>cases h; rfl
 | cons d ds ih=>cases h with
  | @cons _ v _ vs h hs =>
   simp only [List.flatMap_cons,List.all_append,aE]
   refine ⟨?_,ih hs fun x hx=>hc x (mC _ hx)⟩
   rcases hc d List.mem_cons_self with h1 | ⟨cs,h1⟩
   ·rw [cells_one h h1]
    have:=h.one
    rw [h1] at this
    simp [this]
   obtain ⟨vs',rfl,_,h3⟩:=wQ h h1
   exact h3
theorem rM (h:SR E n0 H0 g0 S ρ ve lb g fr H) {g2 bs:zG} {x:Option Operand} {l:List SV} (hl:cK S x.toList=some l) (hr:∀ y∈l,qDU g2 bs (y.d (getD ρ)) (y.val ve lb)) {dflt n:Nat} {r:List D} {r':List D}
  (hb:jN x.isSome dflt (SV.ds (getD ρ) l++r)=some (n,r')):r'=r/\∃ vs,rJ E fr x.toList=some vs/\kU vs.head? dflt=some n:=by
 obtain ⟨q1,q2⟩:=mK (E:=E) h hl
 cases x with
 | none =>
  simp only [Option.toList,cK,oI] at hl
  subst hl
  simp only [jN,Option.isSome_none,cond_false,SV.ds,List.nil_append,oI,Prod.mk.injEq] at hb
  exact ⟨hb.2.symm,[],rfl,by rw [← hb.1]; rfl⟩
 | some x =>
  simp only [Option.toList,cK] at hl
  split at hl
  ·rename_i a l' h1 h2
   simp only [oI] at h2
   subst h2
   simp only [oI] at hl
   subst hl
   simp only [jN,Option.isSome_some,cond_true,SV.ds,List.cons_append,List.nil_append,Option.map_eq_some_iff,Prod.mk.injEq] at hb
   obtain ⟨m,h3,h4,h5⟩:=hb
   obtain ⟨k,hk⟩:=aI (hr a List.mem_cons_self) h3
   refine ⟨h5.symm,_,q2,?_⟩
   simp only [SV.vals,List.head?_cons,hk,kU,nat?,h4]
  cases hl
theorem qNQ (ρ:Nat->D) (a b:List SV):SV.ds ρ (a++b)=SV.ds ρ a++SV.ds ρ b:=by
 rw [SV.ds_map,SV.ds_map,SV.ds_map,List.map_append]
theorem qNW {el:TypeId} {sz l h:Nat} {es:List D} {b o c:Nat} {len:Nat} (hd:DR g (.sl el sz es) (.slice (some ⟨b,o,none⟩) len c)) (h1:l<=h) (h2:h<=es.length) (o' c':Nat) (ho:o'=o+l * sz∨h=l) (hc:h - l<=c') :
  DR g (.sl el sz ((es.drop l).take (h - l))) (.slice (some ⟨b,o',none⟩) (h - l) c'):=by
 cases hd with
 | sl hb ht hv hl hs hc0 hx hone =>
  rename_i rt cs vs own
  have hlen:((es.drop l).take (h - l)).length=h - l:=by simp; omega
  have hs':∀ e∈(es.drop l).take (h - l),e.cells.length=sz:=fun e he=>hs e (List.mem_of_mem_drop (List.mem_of_mem_take he))
  rcases ho with ho | ho
  ·refine .sl (vs:=(vs.drop (l * sz)).take ((h - l) * sz)) hb ?_ ?_ hlen hs' hc (by omega) (mU hone _ _)
   ·rw [ho,← List.drop_drop]
    refine qC8 ht ?_
    rw [← Nat.add_mul,← hl]
    exact Nat.mul_le_mul_right sz (by omega)
   have:=(hv.drop (l * sz)).take ((h - l) * sz)
   rw [rH hs,tT (fun e he=>hs e (List.mem_of_mem_drop he))] at this
   exact this
  refine .sl (vs:=[]) hb ?_ ?_ hlen hs' hc (by omega) rfl
  ·rw [ho,Nat.sub_self,Nat.zero_mul]; simp [take?]
  rw [ho,Nat.sub_self]; simp only [List.take_zero,List.flatMap_nil]; exact .nil
theorem qMB (h:SR E n0 H0 g0 S ρ ve lb g fr H) {t:TypeId} {x:Operand} {lo hi mx:Option Operand} (ho:o.op=.slice t x lo hi mx) (hz:((lo.isNone || iJ lo) && iJ hi && iJ mx)=false) (hw:wp E HS Q (vZ E o S κ) ρ):jS wm E HS Q n0 H0 g0 fr H o κ:=by
 unfold vZ at hw
 rw [ho] at hw
 simp only [hz,cond_false] at hw
 split at hw
 case h_2=>cases hw
 rename_i y l hh hy hl hhh
 obtain ⟨hb,he⟩:=zM (E:=E) h hy
 split at hw
 ·
  -- a list
  rename_i el sz bt z ag ht
  split at hw
  case h_2=>cases hw
  rename_i e hte
  obtain ⟨g',d,e1,h',hp,hd,hw⟩:=uI h hw
  simp only [SV.ds,qNQ,tX] at hd
  have hyp:=jP h'.toSM (hp y List.mem_cons_self)
  have hrl:∀ u∈l,qDU g' H.blocks.get (u.d (getD ρ)) (u.val ve lb):=fun u hu=>.inl (jP h'.toSM (hp u (by simp [hu])))
  have hrh:∀ u∈hh,qDU g' H.blocks.get (u.d (getD ρ)) (u.val ve lb):=fun u hu=>.inl (jP h'.toSM (hp u (by simp [hu])))
  have fin:∀ {v:Value} {lv hv:List Value},rJ E fr lo.toList=some lv->rJ E fr hi.toList=some hv->oE E H t (y.val ve lb) lv.head? hv.head? none=some v->DR g' d v->d.one=true->jS wm E HS Q n0 H0 g0 fr H o κ:=by
   intro v lv hv q1 q2 q3 q4 q5
   refine .new h' (k:=.pure) (one:=true) (by simp) (v:=v) ⟨fun _=>q5,q4⟩ hw ?_
   unfold jH; rw [ho]
   simp only [he,q1,q2,Option.toList_none,rJ,List.head?_nil,q3,one,Option.map_some]
  generalize hyd:y.d (getD ρ)=yd at hd hyp
  generalize hyv:y.val ve lb=yv at hyp
  cases yd with
  | sl jA sz' es =>
   simp only at hd
   split at hd
   case h_2=>cases hd
   rename_i ln r hbl
   obtain ⟨rfl,lv,q1,q2⟩:=rM (E:=E) h hl hrl hbl
   split at hd
   case h_2=>cases hd
   rename_i hn hbh
   rw [← List.append_nil (SV.ds (getD ρ) hh)] at hbh
   obtain ⟨_,hv,q3,q4⟩:=rM (E:=E) h hhh hrh hbh
   cases hc:(Nat.beq jA el && Nat.beq sz' e.size && Nat.ble ln hn && Nat.ble hn es.length) with
   | false=>rw [hc] at hd; cases hd
   | true =>
    have hd2:=hd
    rw [hc] at hd2
    simp only [cond_true,oI] at hd2
    simp only [aE] at hc
    obtain ⟨⟨⟨c1,c2⟩,c3⟩,c4⟩:=hc
    have c1:=jF c1
    have c2:=jF c2
    have c3':=lB c3
    have c4':=lB c4
    subst c1 c2 hd2
    have hcase:=hyp
    cases hcase with
    | @sl _ _ b o' len c _ rt cs vs own hbk htk hvs hlen hss hc0 hx hone =>
     subst hlen
     have hm:=h'.mem _ _ hbk
     by_cases hcap:z8<=c
     ·refine fin q1 q3 (v:=.slice (some ⟨b,o'+ln * e.size,none⟩) (hn - ln) z8) ?_ (qNW hyp c3' c4' _ _ (.inl rfl) (by omega)) rfl
      have hcb:Nat.ble z8 c=true:=bL hcap
      have hbb:Nat.beq jA jA=true:=Nat.beq_refl _
      rw [hyv]
      simp only [oE,ht,q2,q4,hte,c3,cond_true,hcb,hm,hbb,c4,Bool.and_self]
      rfl
     have hcb:Nat.ble z8 c=false:=by
      cases hb:Nat.ble z8 c with
      | false=>rfl
      | true=>exact absurd (lB hb) hcap
     have hch:Nat.ble hn c=true:=bL (by omega)
     refine fin q1 q3 (v:=.slice (some ⟨b,bif Nat.beq c ln then o' else Nat.add o' (Nat.mul ln e.size),none⟩) (hn - ln) (c - ln)) ?_ (qNW hyp c3' c4' _ _ ?_ (by omega)) rfl
     ·rw [hyv]
      simp only [oE,ht,q2,q4,hte,c3,cond_true,hcb,cond_false,hch]
      rfl
     rw [zC]
     split
     ·right; omega
     left; rfl
  | nil =>
   simp only at hd
   split at hd
   case h_2=>cases hd
   rename_i r hbl
   obtain ⟨rfl,lv,q1,q2⟩:=rM (E:=E) h hl hrl hbl
   split at hd
   case h_2=>cases hd
   rename_i hbh
   rw [← List.append_nil (SV.ds (getD ρ) hh)] at hbh
   obtain ⟨_,hv,q3,q4⟩:=rM (E:=E) h hhh hrh hbh
   simp only [oI] at hd
   subst hd
   have hcase:=hyp
   cases hcase with
   | nil =>
    refine fin q1 q3 (v:=.slice none 0 0) ?_ .nil rfl
    rw [hyv]
    simp only [oE,ht,q2,q4,hte]
    rfl
  | _=>cases hd
 ·
  -- a string
  rename_i sz bt z ag ht
  obtain ⟨d,h1,hd,hw⟩:=zX hw
  simp only [SV.ds,qNQ] at hd
  have hyr:=zJ h.toSM (h1 y List.mem_cons_self)
  have hrl:∀ u∈l,qDU g H.blocks.get (u.d (getD ρ)) (u.val ve lb):=fun u hu=>zJ h.toSM (h1 u (by simp [hu]))
  have hrh:∀ u∈hh,qDU g H.blocks.get (u.d (getD ρ)) (u.val ve lb):=fun u hu=>zJ h.toSM (h1 u (by simp [hu]))
  generalize hyd:y.d (getD ρ)=yd at hd hyr
  match yd,hd,hyr with
  | .leaf (.string s),hd,hyr =>
   rw [qHW] at hd
   have hyv:=(hyr.dr rfl).leaf_inv.1
   split at hd
   case h_2=>cases hd
   rename_i ln r hbl
   obtain ⟨rfl,lv,q1,q2⟩:=rM (E:=E) h hl hrl hbl
   split at hd
   case h_2=>cases hd
   rename_i hn hbh
   rw [← List.append_nil (SV.ds (getD ρ) hh)] at hbh
   obtain ⟨_,hv,q3,q4⟩:=rM (E:=E) h hhh hrh hbh
   cases hc:(Nat.ble ln hn && Nat.ble hn s.size) with
   | false=>rw [hc] at hd; cases hd
   | true =>
    rw [hc] at hd
    simp only [cond_true,oI] at hd
    subst hd
    refine .new h (k:=.pure) (one:=true) (by simp) (v:=.string (s.extract ln hn)) ⟨fun _=>rfl,.leaf rfl⟩ hw ?_
    unfold jH; rw [ho]
    simp only [he,hyv,q1,q3,Option.toList_none,rJ,List.head?_nil,oE,ht,q2,q4,hc,Option.isNone_none,Bool.and_true,cond_true,one,Option.map_some]
 cases hw
theorem qPz {p:Program} {k k':IntKind} {x y:Int}:flat? (qW p (Builtin.min_ #[] 0 ⟨[.int k x,.int k' y]⟩))=qSH false (.int k x) (.int k' y):=by
 simp only [Builtin.min_,List.foldlM_cons,List.foldlM_nil,Builtin.min2,qSH,cond_false]
 rfl
theorem qPD {p:Program} {k k':IntKind} {x y:Int}:flat? (qW p (Builtin.max_ #[] 0 ⟨[.int k x,.int k' y]⟩))=qSH true (.int k x) (.int k' y):=by
 simp only [Builtin.max_,List.foldlM_cons,List.foldlM_nil,Builtin.max2,qSH,cond_true]
 rfl
theorem qPx {mx:Bool} {u v:Value} {r:Value} (h:qSH mx u v=some r):∃ k x k' y,u=.int k x/\v=.int k' y:=by
 unfold qSH at h
 split at h
 ·exact ⟨_,_,_,_,rfl,rfl⟩
 cases h
theorem qSE (h:SR E n0 H0 g0 S ρ ve lb g fr H) {c:Call} {mx:Bool} {x y:SV} (ho:o.op=.call c) (hcal:c.callee=.builtin (bif mx then .max else .min)) (hargs:rJ E fr c.args.toList=some [x.val ve lb,y.val ve lb])
  (hw:wp E HS Q (jY (.mm mx) [x,y] .pure true S κ) ρ):jS wm E HS Q n0 H0 g0 fr H o κ:=by
 obtain ⟨d,h1,hd,hw⟩:=zX hw
 have hr:=zJ h.toSM (h1 x List.mem_cons_self)
 have hs:=zJ h.toSM (h1 y (mC _ List.mem_cons_self))
 simp only [SV.ds] at hd
 generalize x.d (getD ρ)=xd at hd hr
 generalize y.d (getD ρ)=yd at hd hs
 match xd,yd,hd,hr,hs with
 | .leaf u,.leaf v,hd,hr,hs =>
  rw [qW4] at hd
  obtain ⟨r,hr',rfl,hrl⟩:=aN hd
  have hv:=(hr.dr rfl).leaf_inv.1
  have hu:=(hs.dr rfl).leaf_inv.1
  refine .new h (k:=.pure) (one:=true) (by simp) (v:=r) ⟨fun _=>rfl,.leaf hrl⟩ hw ?_
  obtain ⟨k,a,k',b,rfl,rfl⟩:=qPx hr'
  unfold jH; rw [ho]
  rw [hv,hu] at hargs
  cases mx with
  | false=>simp only [gW,hargs,hcal,cond_false,yY,List.all_cons,List.all_nil,zP,Bool.and_self,cond_true,qPz,hr',one,Option.map_some]; rfl
  | true=>simp only [gW,hargs,hcal,cond_true,yY,List.all_cons,List.all_nil,zP,Bool.and_self,qPD,hr',one,Option.map_some]; rfl
theorem qI6 (hm:zG.le g H.blocks.get) {d:D} {v:Value} {ks:List Value} {ds:List D} (h:qDU g H.blocks.get d v) (hk:qFT d=some (ks,ds)):∃ es,qDo H v=some es/\es.map (·.key)=ks/\DRs g ds (es.map (·.val)):=by
 unfold qFT at hk
 split at hk
 ·simp only [oI,Prod.mk.injEq] at hk
  obtain ⟨rfl,rfl⟩:=hk
  obtain ⟨r,es,ck,rt,own,rfl,q2,q3,q4⟩:=h.keys hm
  exact ⟨es,by simp only [qDo,q2],q3,q4⟩
 ·simp only [oI,Prod.mk.injEq] at hk
  obtain ⟨rfl,rfl⟩:=hk
  have hv:=(h.dr rfl).leaf_inv.1
  subst hv
  exact ⟨[],rfl,rfl,.nil⟩
 cases hk
theorem qTE (h:SR E n0 H0 g0 S ρ ve lb g fr H) {c:Call} {t:TypeId} {ts:List TypeId} {x:SV} (ho:o.op=.call c) (hcal:c.callee=.builtin .len) (hts:c.argTypes.toList=t::ts) (hargs:rJ E fr c.args.toList=some [x.val ve lb])
  (hw:wp E HS Q (match E.types.get t with
   | some { desc:=.string,.. }=>jY (.len true) [x] .pure true S κ
   | some { desc:=.slice _,.. }=>jY (.len false) [x] .pure true S κ
   | some { desc:=.map _ _,.. }=>jY .mlen [x] .pure true S κ
   | _=>.fail) ρ):jS wm E HS Q n0 H0 g0 fr H o κ:=by
 have run:∀ {n:Int},qFM E H (t::ts) (x.val ve lb)=some (goInt n)->jH E fr o H=some (.val (goInt n),H):=by
  intro n hn
  unfold jH; rw [ho]
  simp only [gW,hargs,hcal,hts,yY,hn,one,Option.map_some]
 split at hw
 ·rename_i sz bt z ag ht
  obtain ⟨d,h1,hd,hw⟩:=zX hw
  have hr:=zJ h.toSM (h1 x List.mem_cons_self)
  simp only [SV.ds,qHY] at hd
  generalize x.d (getD ρ)=xd at hd hr
  match xd,hd,hr with
  | .leaf (.string s),hd,hr =>
   simp only [oI] at hd
   subst hd
   have hv:=(hr.dr rfl).leaf_inv.1
   exact .new h (k:=.pure) (one:=true) (by simp) (v:=goInt s.size) ⟨fun _=>rfl,.leaf rfl⟩ hw (run (by rw [hv]; simp only [qFM,ht]))
 ·rename_i el sz bt z ag ht
  obtain ⟨d,h1,hd,hw⟩:=zX hw
  have hr:=zJ h.toSM (h1 x List.mem_cons_self)
  simp only [SV.ds,qHY] at hd
  generalize x.d (getD ρ)=xd at hd hr
  match xd,hd,hr with
  | .sl jA sz' es,hd,hr =>
   simp only [oI] at hd
   subst hd
   obtain ⟨b,o',l,c',rt,cs,vs,own,q⟩:=hr.sl h.mem
   refine .new h (k:=.pure) (one:=true) (by simp) (v:=goInt es.length) ⟨fun _=>rfl,.leaf rfl⟩ hw (run ?_)
   rw [q.v,q.n]; simp only [qFM,ht]
  | .nil,hd,hr =>
   simp only [oI] at hd
   subst hd
   have hv:=hr.dr rfl
   generalize x.val ve lb=xv at hv run
   cases hv with
   | nil=>exact .new h (k:=.pure) (one:=true) (by simp) (v:=goInt 0) ⟨fun _=>rfl,.leaf rfl⟩ hw (run (by simp only [qFM,ht]; rfl))
 ·rename_i kt et sz bt z ag ht
  obtain ⟨d,h1,hd,hw⟩:=zX hw
  have rx:=zJ h.toSM (h1 x List.mem_cons_self)
  simp only [SV.ds,qQl,Option.map_eq_some_iff] at hd
  obtain ⟨⟨ks,ds⟩,q1,rfl⟩:=hd
  obtain ⟨es,p1,p2,_⟩:=qI6 h.mem rx q1
  have hl:ks.length=es.length:=by rw [← p2,List.length_map]
  refine .new h (k:=.pure) (one:=true) (by simp) (v:=goInt es.length) ⟨fun _=>rfl,?_⟩ hw (run (by simp only [qFM,ht,p1,Option.map_some]))
  simp only [hl]
  exact .leaf rfl
 cases hw
end
end Go.Am
namespace Go.Am
open Go
section
variable {E:Env} {n0:Lim} {H0:AH} {g0:zG} {S:St} {ρ:List D} {ve:Nat->Value} {lb:Nat->Nat} {g:zG} {fr:Fr} {H:AH} {HS:FuncId->List D->D->Prop} {Q:Res1->Prop} {o:Oper} {κ:K1} {wm:Bool}
theorem qOe (h:SM n0 S ρ ve lb g H) {cs:List SV} (hp:∀ x∈cs,xX S x=true) (ho:∀ x∈cs,eR S x=true):(SV.vals ve lb cs).all qQ=true:=by
 rw [List.all_eq_true]
 intro v hv
 rw [SV.vals_map] at hv
 obtain ⟨x,hx,rfl⟩:=List.mem_map.1 hv
 exact qEp h (ho x hx) (jP h (hp x hx))
theorem SR.boxed (h:SR E n0 H0 g0 S ρ ve lb g fr H) {b:Nat} {blk:Blk} {ds:List D} {vs:List Value} (hb:S.blks[b]? = some (some blk)) (hnl:blk.isL=false) (hd:∀ cs,jK (getD ρ) ve lb cs blk->cs=vs) (hdr:DRs g ds vs) (hone:vs.all qQ=true) :
  ∃ el rt,SR E n0 H0 g0 (S.boxed b) (ρ++[.ptr ds 0]) (bX ve S.n (.pointer (some ⟨lb b,0,none⟩))) lb (g.add (lb b) ⟨.cells vs el,rt,true⟩) fr H:=by
 have hlive:S.live b:=⟨_,hb⟩
 obtain ⟨el,rt,cs',q2,q3,q4⟩:=(h.blks b _ hb).2.cells hnl
 have:=hd _ q4
 subst this
 refine ⟨el,rt,?_⟩
 have hle:zG.le g (g.add (lb b) ⟨.cells cs' el,rt,true⟩):=zG.le_add (h.sepLG b hlive)
 have hnew:qAr (g.add (lb b) ⟨.cells cs' el,rt,true⟩) H.blocks.get n0 ⟨.ptr,true⟩ (.ptr ds 0) (.pointer (some ⟨lb b,0,none⟩)) :=
  ⟨fun _=>rfl,.ptr zG.add_at (hdr.mono hle) hone,_,_,rfl⟩
 have e:ExtS S ρ ve g (S.new .ptr true) (ρ++[.ptr ds 0]) (bX ve S.n (.pointer (some ⟨lb b,0,none⟩))) g:=wH h.len
 have inv:∀ c x,(S.blks.set b none)[c]? = some (some x)->S.blks[c]? = some (some x)/\c≠b:=by
  intro c x hc
  rw [List.getElem?_set] at hc
  split at hc
  ·split at hc <;> cases hc
  rename_i hne; exact ⟨hc,fun e=>hne e.symm⟩
 refine { len:=by simp [St.boxed,St.new,h.len],wf:=h.wf,mem:=?_,base:=h.base,fix:=⟨by simp only [St.boxed,List.length_set]; exact h.fix.1,h.fix.2⟩,vars:=?_,blks:=?_,sepLG:=?_,sepFG:=?_,sepL:=?_,sepF:=?_,sepX:=?_,sz:=h.sz,rd:=h.rd,slots:=?_,sav:=h.sav.congr (by show S.n<=(S.new .ptr true).n; rw [xY]; omega) (by simp [St.boxed]) e.ve (fun _ _=>rfl),keep:=h.keep,low:=h.low,gk:=?_,tab:=h.tab.mono hle }
 ·intro c k hc
  by_cases ec:c=lb b
  ·subst ec; rw [zG.add_at] at hc; rw [q2]; exact hc
  rw [zG.add_ne ec] at hc; exact h.mem c k hc
 ·intro i s hs
  rcases qBy hs with ⟨h1,h2⟩ | ⟨h1,h2⟩
  ·rw [e.ve i h1,e.ρ i h1]; exact (h.vars i s h2).mono hle (fun _ _ _=>rfl)
  subst h1 h2
  rw [jC,qEx h.toSM]; exact hnew
 ·intro c x hc
  obtain ⟨h1,_⟩:=inv c x hc
  obtain ⟨r1,r2⟩:=h.blks c x h1
  refine ⟨Blk.bd_mono ?_ (by simp [St.boxed]) r1,r2.congr rfl rfl fun _ r4=>r4.congr e.ve (fun _ _=>rfl) e.ρ r1⟩
  show S.n<=(S.new .ptr true).n
  rw [xY]; omega
 ·intro c ⟨x,hc⟩
  obtain ⟨h1,h2⟩:=inv c x hc
  rw [zG.add_ne (fun ec=>h2 (h.sepL c b ⟨x,h1⟩ hlive ec))]
  exact h.sepLG c ⟨x,h1⟩
 ·intro i B hi hB
  obtain ⟨h1,h2⟩:=kY (S:=S) (k:=.ptr) (o:=true) (by simp) hi
  rw [e.ve i h2] at hB
  rw [zG.add_ne (fun ec=>h.sepX b i hlive h1 (by rw [hB,ec]))]
  exact h.sepFG i B h1 hB
 ·intro c d ⟨x,hc⟩ ⟨y,hd⟩ he
  exact h.sepL c d ⟨x,(inv c x hc).1⟩ ⟨y,(inv d y hd).1⟩ he
 ·intro i j B hi hj h1 h2
  obtain ⟨a1,a2⟩:=kY (S:=S) (k:=.ptr) (o:=true) (by simp) hi
  obtain ⟨b1,b2⟩:=kY (S:=S) (k:=.ptr) (o:=true) (by simp) hj
  rw [e.ve _ a2] at h1
  rw [e.ve _ b2] at h2
  exact h.sepF i j B a1 b1 h1 h2
 ·intro c i ⟨x,hc⟩ hi
  obtain ⟨a1,a2⟩:=kY (S:=S) (k:=.ptr) (o:=true) (by simp) hi
  rw [e.ve _ a2]
  exact h.sepX c i ⟨x,(inv c x hc).1⟩ a1
 ·intro t x hx
  simp only [St.boxed,T.get_map,Option.map_eq_some_iff] at hx
  obtain ⟨y,h1,rfl⟩:=hx
  obtain ⟨r1,r2⟩:=h.slots t y h1
  have hn:S.n<=(S.new .ptr true).n:=by rw [xY]; omega
  have keep:SV.bd (S.new .ptr true).n (S.blks.set b none).length y/\fr.t.get t=some (y.val (bX ve S.n (.pointer (some ⟨lb b,0,none⟩))) lb) :=
   ⟨SV.bd_mono hn (by simp) r1,by rw [e.val r1]; exact r2⟩
  cases y with
  | loc b' off =>
   simp only [zC]
   split
   ·rename_i eb
    subst eb
    refine ⟨?_,?_⟩
    ·show S.n < (S.new .ptr true).n
     rw [xY]; omega
    rw [r2]; simp only [SV.val,jC,qPb,Nat.zero_add]
   exact keep
  | _=>exact keep
 intro c hc
 rw [zG.add_ne (by intro e; subst e; exact (xZ h.toSM hlive).2 hc)]
 exact h.gk c hc
theorem qER:∀ (xs:List SV) {S:St} {ρ:List D} {ve:Nat->Value} {g:zG} {acc:List SV} {κ:List SV->St->Tree},SR E n0 H0 g0 S ρ ve lb g fr H->SV.bds S.n S.blks.length acc->SV.bds S.n S.blks.length xs->wp E HS Q (qGK xs acc S κ) ρ ->
  ∃ l S' ρ' ve' g',SR E n0 H0 g0 S' ρ' ve' lb g' fr H/\S.n<=S'.n/\S'.blks.length=S.blks.length/\(∀ i,i < S.n->ve' i=ve i)/\wp E HS Q (κ l S') ρ'/\SV.bds S'.n S'.blks.length l/\SV.vals ve' lb l=SV.vals ve lb (acc++xs)
 | [],S,ρ,ve,g,acc,κ,h,ha,hx,hw=>⟨acc,S,ρ,ve,g,h,lR _,rfl,fun _ _=>rfl,hw,ha,by rw [List.append_nil]⟩
 | x::r,S,ρ,ve,g,acc,κ,h,ha,hx,hw=>by
  have plain:wp E HS Q (qGK r (acc++[x]) S κ) ρ->∃ l S' ρ' ve' g',SR E n0 H0 g0 S' ρ' ve' lb g' fr H/\S.n<=S'.n/\S'.blks.length=S.blks.length/\(∀ i,i < S.n->ve' i=ve i)/\wp E HS Q (κ l S') ρ'/\SV.bds S'.n S'.blks.length l/\SV.vals ve' lb l=SV.vals ve lb (acc++x::r):=by
   intro hw
   obtain ⟨l,S',ρ',ve',g',r1,r2,r3,r4,r5,r6,r7⟩:=qER r h (acc:=acc++[x]) (by
    rw [SV.bds_iff] at ha ⊢
    intro u hu
    rcases List.mem_append.1 hu with hu | hu
    ·exact ha u hu
    simp only [List.mem_singleton] at hu; subst hu; exact hx.1) hx.2 hw
   exact ⟨l,S',ρ',ve',g',r1,r2,r3,r4,r5,r6,by rw [r7]; simp⟩
  cases x with
  | loc b off =>
   cases off with
   | succ n=>exact plain hw
   | zero =>
    simp only [qGK] at hw
    have go:∀ {S1:St} {g1:zG} {blk:Blk} {ds:List D} {vs:List Value},ExtS S ρ ve g S1 ρ ve g1->SR E n0 H0 g0 S1 ρ ve lb g1 fr H->S1.blks[b]? = some (some blk)->blk.isL=false->(∀ cs,jK (getD ρ) ve lb cs blk->cs=vs)->DRs g1 ds vs->vs.all qQ=true ->
      wp E HS Q (qGK r (acc++[.pp S1.n 0]) (S1.boxed b) κ) (ρ++[.ptr ds 0]) ->
      ∃ l S' ρ' ve' g',SR E n0 H0 g0 S' ρ' ve' lb g' fr H/\S.n<=S'.n/\S'.blks.length=S.blks.length/\(∀ i,i < S.n->ve' i=ve i)/\wp E HS Q (κ l S') ρ'/\SV.bds S'.n S'.blks.length l/\SV.vals ve' lb l=SV.vals ve lb (acc++.loc b 0::r):=by
     intro S1 g1 blk ds vs e1 h1 hb hnl hd hdr hone hw
     obtain ⟨el,rt,h2⟩:=h1.boxed hb hnl hd hdr hone
     have hnle:S.n<=S1.n:=e1.n
     have hnew:(S1.boxed b).n=S1.n+1:=by show (S1.new .ptr true).n=_; rw [xY]
     have hbl:(S1.boxed b).blks.length=S.blks.length:=by simp [St.boxed,e1.blks]
     have hve:∀ i,i < S.n->bX ve S1.n (.pointer (some ⟨lb b,0,none⟩)) i=ve i:=fun i hi=>fJ (by omega)
     obtain ⟨l,S',ρ',ve',g',r1,r2,r3,r4,r5,r6,r7⟩:=qER r h2 (acc:=acc++[.pp S1.n 0]) (by
      rw [SV.bds_iff] at ha ⊢
      intro u hu
      rw [hbl]
      rcases List.mem_append.1 hu with hu | hu
      ·exact SV.bd_mono (by omega) (lR _) (ha u hu)
      ·simp only [List.mem_singleton] at hu; subst hu; show S1.n < (S1.boxed b).n; omega) (by
      rw [hbl]
      exact SV.bds_mono (by omega) (lR _) hx.2) hw
     refine ⟨l,S',ρ',ve',g',r1,by omega,by rw [r3,hbl],?_,r5,r6,?_⟩
     ·intro i hi
      rw [r4 i (by omega),hve i hi]
     rw [r7]
     simp only [SV.vals_map,List.map_append,List.map_cons,List.map_nil,List.append_assoc,List.cons_append,List.nil_append]
     have a1:acc.map (SV.val (bX ve S1.n (.pointer (some ⟨lb b,0,none⟩))) lb)=acc.map (SV.val ve lb):=by
      rw [← SV.vals_map,← SV.vals_map]; exact SV.vals_congr hve (fun _ _=>rfl) ha
     have a2:r.map (SV.val (bX ve S1.n (.pointer (some ⟨lb b,0,none⟩))) lb)=r.map (SV.val ve lb):=by
      rw [← SV.vals_map,← SV.vals_map]; exact SV.vals_congr hve (fun _ _=>rfl) hx.2
     rw [a1,a2]
     simp only [SV.val,jC,qPb]
    split at hw
    ·rename_i cs hb
     obtain ⟨g1,e1,h1⟩:=xA cs h
     obtain ⟨hc,hw⟩:=jB hw
     simp only [aE,List.all_eq_true] at hc
     simp only [wp,qUm] at hw
     exact go e1 h1 (by rw [e1.blks]; exact hb) rfl (fun cs' hb'=>by simpa [jK] using hb') (nY h1.toSM hc.1) (qOe h1.toSM hc.1 hc.2) hw
    ·rename_i x n hb
     obtain ⟨hp,hw⟩:=jB hw
     simp only [wp] at hw
     obtain ⟨_,_,_,_,_,_,_,dsx,hdx,_⟩:=h.blks b _ hb
     simp only [SV.ds,hdx,sJ] at hw
     obtain ⟨vs,hv,hvs,ho⟩:=wQ (jP h.toSM hp) hdx
     exact go .refl h hb rfl (fun cs' hb'=>(by rw [hb'.1,hv]; rfl)) hvs ho hw
    cases hw
  | _=>exact plain hw
theorem qFE (h:SR E n0 H0 g0 S ρ ve lb g fr H) {f:Fn} {first cap:Array Operand} (ho:o.op=.makeFunc f first cap) (hw:wp E HS Q (vZ E o S κ) ρ):jS wm E HS Q n0 H0 g0 fr H o κ:=by
 unfold vZ at hw
 rw [ho] at hw
 simp only at hw
 split at hw
 case h_2=>cases hw
 rename_i a b ha hb
 obtain ⟨a1,a2⟩:=mK (E:=E) h ha
 obtain ⟨b1,b2⟩:=mK (E:=E) h hb
 obtain ⟨hp,hw⟩:=jB hw
 obtain ⟨l,S',ρ',ve',g',r1,r2,r3,r4,r5,r6,r7⟩:=qER b h (acc:=[]) trivial b1 hw
 refine .same r1 (y:=.fn f a l) ⟨by rw [r3]; exact SV.bds_mono r2 (lR _) a1,r6⟩ r5 ?_
 unfold jH; rw [ho]
 simp only [List.nil_append] at r7
 simp only [a2,b2,one,hp,if_true,Option.map_some,SV.val,SV.vals_congr r4 (fun _ _=>rfl) a1,r7]
end
end Go.Am
namespace Go.Am
open Go
theorem zW {α:Type} {b:Bool} {x:Option α} {d:α} (h:(bif b then x else none)=some d):b=true/\x=some d:=by
 cases b with
 | true=>exact ⟨rfl,h⟩
 | false=>cases h
section
variable {E:Env} {n0:Lim} {H0:AH} {g0:zG} {S:St} {ρ:List D} {ve:Nat->Value} {lb:Nat->Nat} {g:zG} {fr:Fr} {H:AH} {HS:FuncId->List D->D->Prop} {Q:Res1->Prop} {o:Oper} {κ:K1} {wm:Bool}
theorem qI5 {i j:Nat} {s:VSt} (h:(S.kill i).sts[j]? = some s):∃ s0,S.sts[j]? = some s0/\s=if i=j then ⟨.dead,s0.one⟩ else s0:=by
 simp only [St.kill,List.getElem?_modify] at h
 cases hs:S.sts[j]? with
 | none=>rw [hs] at h; simp at h
 | some s0 =>
  rw [hs] at h
  refine ⟨s0,rfl,?_⟩
  simp at h
  split at h <;> rename_i e
  ·rw [if_pos e]; exact h.symm
  rw [if_neg e]; exact h.symm
theorem dE {i:Nat}:(S.kill i).n=S.n:=by simp [St.kill,St.n]
theorem wY {i j:Nat} (h:(S.kill i).freshV j=true):S.freshV j=true/\j≠i:=by
 obtain ⟨o,h⟩:=zO.1 h
 obtain ⟨s0,h1,h2⟩:=qI5 h
 split at h2
 ·cases h2
 rename_i hne
 subst h2
 exact ⟨zO.2 ⟨_,h1⟩,fun e=>hne e.symm⟩
theorem SR.killed (h:SR E n0 H0 g0 S ρ ve lb g fr H) (i:Nat):SR E n0 H0 g0 (S.kill i) ρ ve lb g fr H:=by
 refine { h with len:=by simp [St.kill,h.len],vars:=?_,blks:=?_,sepFG:=?_,sepF:=?_,sepX:=?_,slots:=?_,sav:=by rw [dE]; exact h.sav }
 ·intro j s hs
  obtain ⟨s0,h1,h2⟩:=qI5 hs
  have hv:=h.vars j s0 h1
  split at h2
  ·subst h2; exact ⟨hv.1,trivial⟩
  subst h2; exact hv
 ·intro b x hb
  obtain ⟨q1,q⟩:=h.blks b x hb
  exact ⟨by rw [dE]; exact q1,q⟩
 ·intro j B hj ho
  exact h.sepFG j B (wY hj).1 ho
 ·intro a b B ha hb h1 h2
  exact h.sepF a b B (wY ha).1 (wY hb).1 h1 h2
 ·intro b j hb hj
  exact h.sepX b j hb (wY hj).1
 intro t x hx
 obtain ⟨q1,q2⟩:=h.slots t x hx
 exact ⟨by rw [dE]; exact q1,q2⟩
theorem SR.heap2 (h:SR E n0 H0 g0 S ρ ve lb g fr H) {H':AH} (X:Nat->Prop) (hold:∀ b,b < H.next->¬X b->H'.blocks.get b=H.blocks.get b) (xg:∀ b,X b->g b=none) (xl:∀ b c,X b->S.live c->lb c≠b)
  (xf:∀ b i,X b->S.freshV i=true->jQ (ve i)≠some b) (xn:∀ b,X b->¬ n0.K b) (hwf:WF H') (hn:H.next<=H'.next) (hl:Nat.min H0.low n0.n<=H'.low) :
  SR E n0 H0 g0 S ρ ve lb g fr H':=by
 refine { h with wf:=hwf,mem:=?_,base:=h.base.mono hn,vars:=?_,blks:=?_,keep:=?_,low:=hl }
 ·intro b k hb
  rw [hold b (qPY h.toSM hb) (fun hx=>by rw [xg b hx] at hb; cases hb)]
  exact h.mem b k hb
 ·intro i s hs
  refine (h.vars i s hs).mono (zG.le_refl _) fun hk B hB=>?_
  obtain ⟨k,o⟩:=s
  simp only at hk
  subst hk
  have hf:=zO.2 ⟨o,hs⟩
  exact hold B (pM h.toSM hf hB).1 (fun hx=>xf B i hx hf hB)
 ·intro b x hb
  obtain ⟨q1,q2⟩:=h.blks b x hb
  exact ⟨q1,q2.congr (hold _ (xZ h.toSM ⟨x,hb⟩).1 (fun hx=>xl _ b hx ⟨x,hb⟩ rfl)) rfl fun _ q4=>q4⟩
 intro b hb
 rw [hold b (h.base.2 b hb) (fun hx=>xn b hx hb)]
 exact h.keep b hb
theorem bD {o:Bool} {i:Nat} (h:(S.new .fresh o).freshV i=true):(S.freshV i=true/\i < S.n)∨i=S.n:=by
 obtain ⟨o',h'⟩:=zO.1 h
 rcases qBy h' with ⟨h1,h2⟩ | ⟨h1,h2⟩
 ·exact .inl ⟨zO.2 ⟨_,h2⟩,h1⟩
 exact .inr h1
theorem SR.newFresh (h:SR E n0 H0 g0 S ρ ve lb g fr H) {d:D} {v:Value} (hv:mZ g H.blocks.get n0 d v) (hd:d.one=true) (xg:∀ B,jQ v=some B->g B=none) (xl:∀ B c,jQ v=some B->S.live c->lb c≠B)
  (xf:∀ B i,jQ v=some B->S.freshV i=true->jQ (ve i)≠some B):SR E n0 H0 g0 (S.new .fresh true) (ρ++[d]) (bX ve S.n v) lb g fr H:=by
 have e:ExtS S ρ ve g (S.new .fresh true) (ρ++[d]) (bX ve S.n v) g:=wH h.len
 refine { len:=by simp [St.new,h.len],wf:=h.wf,mem:=h.mem,base:=h.base,fix:=h.fix,vars:=?_,blks:=?_,sepLG:=h.sepLG,sepFG:=?_,sepL:=h.sepL,sepF:=?_,sepX:=?_,sz:=h.sz,rd:=h.rd,slots:=?_,sav:=h.sav.congr e.n (lR _) e.ve (fun _ _=>rfl),keep:=h.keep,low:=h.low,gk:=h.gk,tab:=h.tab }
 ·intro i s hs
  rcases qBy hs with ⟨h1,h2⟩ | ⟨h1,h2⟩
  ·rw [e.ve i h1,e.ρ i h1]; exact h.vars i s h2
  subst h1 h2
  rw [jC,qEx h.toSM]; exact ⟨fun _=>hd,hv⟩
 ·intro b x hb
  obtain ⟨q1,q2⟩:=h.blks b x hb
  exact ⟨Blk.bd_mono (by rw [xY]; omega) (lR _) q1,q2.congr rfl rfl fun _ q4=>q4.congr e.ve (fun _ _=>rfl) e.ρ q1⟩
 ·intro i B hi hB
  rcases bD hi with ⟨h1,h2⟩ | rfl
  ·rw [e.ve i h2] at hB; exact h.sepFG i B h1 hB
  rw [jC] at hB; exact xg B hB
 ·intro i j B hi hj h1 h2
  rcases bD hi with ⟨a1,a2⟩ | rfl <;> rcases bD hj with ⟨b1,b2⟩ | rfl
  ·rw [e.ve _ a2] at h1; rw [e.ve _ b2] at h2
   exact h.sepF i j B a1 b1 h1 h2
  ·rw [e.ve _ a2] at h1; rw [jC] at h2
   exact absurd h1 (xf B i h2 a1)
  ·rw [jC] at h1; rw [e.ve _ b2] at h2
   exact absurd h2 (xf B j h1 b1)
  rfl
 ·intro b i hb hi
  rcases bD hi with ⟨a1,a2⟩ | rfl
  ·rw [e.ve _ a2]; exact h.sepX b i hb a1
  rw [jC]
  intro hB
  exact xl _ b hB hb rfl
 intro t x hx
 obtain ⟨q1,q2⟩:=h.slots t x hx
 exact ⟨e.bd q1,by rw [q2,e.val q1]⟩
theorem WF.move (h:WF H) {b:Nat} {k:ABlk} (hb:H.blocks.get b=some k) (x:AObj):WF (H.move b k x):=by
 intro c k' hc
 rw [AH.get_move] at hc
 split at hc
 ·rename_i e; cases hc; subst e
  have:=h b k hb
  exact ⟨by show k.root<=_; omega,Nat.lt_succ_self _⟩
 split at hc
 ·cases hc
 exact ⟨(h c k' hc).1,Nat.lt_succ_of_lt (h c k' hc).2⟩
theorem sE (hm:zG.le g H.blocks.get) {el sz:Nat} {es:List D} {v:Value} (h:qDU g H.blocks.get (.sl el sz es) v) :
  ∃ vs b o c,v=.slice (some ⟨b,o,none⟩) es.length c/\pQ H sz es.length v=some vs/\DRs g (es.flatMap D.cells) vs/\vs.all qQ=true/\(∀ e∈es,e.cells.length=sz)/\es.length < z8:=by
 obtain ⟨b,o,l,c,rt,cs,vs,own,q⟩:=h.sl hm
 have hl:=q.n
 subst hl
 refine ⟨vs,b,o,c,q.v,?_,q.r,q.o,q.s,q.x⟩
 rw [q.v]
 simp only [pQ,zC]
 split
 ·rename_i e0
  have:=q.t
  rw [e0,Nat.zero_mul] at this
  simp only [take?] at this
  exact this
 have hle:Nat.ble es.length es.length=true:=bL (lR _)
 simp only [hle,cond_true,AH.loads,q.b,Nat.mul_eq]
 exact q.t
theorem qJh {a b:List D} {x y:List Value} (h:DRs g (a.flatMap D.cells) x) (h':DRs g (b.flatMap D.cells) y):DRs g ((a++b).flatMap D.cells) (x++y):=by
 rw [List.flatMap_append]
 exact h.append h'
theorem qAG (h:SM n0 S ρ ve lb g H) {el sz:TypeId} {es:List D} {vs:List Value} (hv:DRs g (es.flatMap D.cells) vs) (ho:vs.all qQ=true) (hs:∀ e∈es,e.cells.length=sz) (hx:es.length < z8) :
  mZ g (H.new (.cells vs el)).blocks.get n0 (.sl el sz es) (.slice (some ⟨H.next,0,none⟩) es.length z8):=by
 refine .inr (.inl ⟨H.next,es.length,vs,vs,el,H.next,sz,es,rfl,rfl,?_,h.base.new,?_,hv,rfl,hs,hx,ho⟩)
 ·rw [AH.get_new,if_pos rfl]
 have hl:vs.length=es.length * sz:=by rw [hv.length,mJ hs]
 rw [gH (by omega),List.take_of_length_le (by omega)]
theorem qKm (h:SR E n0 H0 g0 S ρ ve lb g fr H) {c:Call} {s x:SV} (ho:o.op=.call c) (hcal:c.callee=.builtin .append) (hargs:rJ E fr c.args.toList=some [s.val ve lb,x.val ve lb])
  (hsb:s.bd S.n S.blks.length) (hxb:x.bd S.n S.blks.length) (hw:wp E HS Q (qUP E c.argTypes.toList s x S κ) ρ):jS (qOc S [s,x]) E HS Q n0 H0 g0 fr H o κ:=by
 unfold qUP at hw
 split at hw
 case h_2=>cases hw
 rename_i t xt tr hts
 split at hw
 case h_2=>cases hw
 rename_i el xi hel hxi
 obtain ⟨sz0,bt0,z0,ag0,ht⟩:=k9 hel
 split at hw
 case h_2=>cases hw
 rename_i e xel hte hxd
 split at hw
 case h_2=>cases hw
 rename_i z hz
 simp only at hw
 have run:∀ {v:Value} {H':AH},jW E H (t::xt::tr) (s.val ve lb) (x.val ve lb)=some (.val v,H')->jH E fr o H=some (.val v,H'):=by
  intro v H' ha
  unfold jH; rw [ho]
  simp only [gW,hargs,hcal,hts,yY,ha]
 have main:∀ {wA:Bool} {S':St},(wA=false->qEV g (s.d (getD ρ)) (s.val ve lb))->SR E n0 H0 g0 S' ρ ve lb g fr H->S'.n=S.n->S'.blks=S.blks->(mZ g H.blocks.get n0 (s.d (getD ρ)) (s.val ve lb)/\(s.d (getD ρ)).one=true) ->
   (∀ B,jQ (s.val ve lb)=some B->g B=none/\(∀ c,S'.live c->lb c≠B)/\(∀ i,S'.freshV i=true->jQ (ve i)≠some B)/\¬ n0.K B) ->
   wp E HS Q (bif kL S x && Nat.ble 1 e.size then Tree.bind (.app el e.size e.bytes) [s,x] (κ (.v S.n) (S'.new .fresh true)) else .fail) ρ->jS wA E HS Q n0 H0 g0 fr H o κ:=by
  intro wA S' hwA h' hn' hb' hs hex hw
  obtain ⟨hc,hw⟩:=jB hw
  simp only [aE] at hc
  have hrx:=zJ h.toSM hc.1
  simp only [wp] at hw
  split at hw
  case h_2=>cases hw
  rename_i d hd
  simp only [SV.ds,tZ] at hd
  obtain ⟨hfr,hone⟩:=hs
  have stay:∀ (hd':d=s.d (getD ρ)),jW E H (t::xt::tr) (s.val ve lb) (x.val ve lb)=some (.val (s.val ve lb),H)->jS wA E HS Q n0 H0 g0 fr H o κ:=by
   intro hd' ha
   subst hd'
   have h2:=h'.newFresh hfr hone (fun B hB=>(hex B hB).1) (fun B c hB hc=>(hex B hB).2.1 c hc) (fun B i hB hi=>(hex B hB).2.2.1 i hi)
   rw [← hn'] at hw
   refine ⟨.v S'.n,_,_,_,_,_,_,h2,pO,hw,.of_val (lR _) ?_,fun _=>Nat.min_le_left _ _⟩
   simp only [SV.val,jC]
   exact run ha
  have hsr:qDU g H.blocks.get (s.d (getD ρ)) (s.val ve lb):=by
   rcases hfr with q | ⟨B,l,cs,vs,jA,rt,sz,es,q⟩ | ⟨B,es,clock,rt,ks,ds,q⟩
   ·exact .inl q.dr
   ·exact .inr (.inl ⟨n0,B,l,cs,vs,jA,rt,sz,es,q⟩)
   exact .inr (.inr ⟨n0,B,es,clock,rt,ks,ds,q⟩)
  generalize hxdd:x.d (getD ρ)=xd at hd hrx
  generalize hsdd:s.d (getD ρ)=sd at hd hfr hone hsr stay
  have hsl:sd=.nil∨∃ jA sz' es',sd=.sl jA sz' es':=by
   rcases hfr with q | ⟨B,l,cs,vs,jA,rt,sz,es,q⟩ | ⟨B,es,clock,rt,ks,ds,q⟩
   ·rcases q.sl with q | ⟨_,_,q⟩
    ·exact .inl q
    exact .inr ⟨_,_,_,q⟩
   ·exact .inr ⟨_,_,_,q.d⟩
   rw [q.d] at hd; simp [pY] at hd
  have hlen:∃ l c base,s.val ve lb=.slice base l c/\pY sd=some l/\l=sd.es.length:=by
   rcases hsl with rfl | ⟨jA,sz',es',rfl⟩
   ·have:=hsr.dr rfl
    generalize s.val ve lb=sv at this
    cases this with
    | nil=>exact ⟨0,0,none,rfl,rfl,rfl⟩
   obtain ⟨vs,b,o',c',q1,_⟩:=sE h'.mem hsr
   exact ⟨_,_,_,q1,rfl,rfl⟩
  obtain ⟨l,cp,base,hsv,hss,hll⟩:=hlen
  rw [hss] at hd
  have hxs:xd=.nil∨∃ el2 sz2 es2,xd=.sl el2 sz2 es2:=by
   cases xd with
   | nil=>exact .inl rfl
   | sl a b c=>exact .inr ⟨a,b,c,rfl⟩
   | _=>simp only [reduceCtorEq] at hd
  rcases hxs with rfl | ⟨el2,sz2,es2,rfl⟩
  ·simp only at hd
   obtain ⟨hle,hd⟩:=zW hd
   simp only [oI] at hd
   have hxv:=hrx.dr rfl
   refine stay hd.symm ?_
   generalize x.val ve lb=xv at hxv
   cases hxv with
   | nil =>
    rw [hsv]
    have hnc:oH H xi e (.slice none 0 0)=some (0,[]):=by
     simp only [oH,hxd,qKC]
     rfl
    have hl0:Nat.add l 0=l:=rfl
    have hle':Nat.ble (Nat.mul (Nat.add (Nat.mul 4 (Nat.add l 0)) 4000) (Nat.succ e.bytes)) 100000000000=true:=by rw [hl0]; exact hle
    simp only [jW,ht,hxi,hte,hz,hnc,hle',cond_true]
    rfl
  simp only at hd
  obtain ⟨hcond,hd3⟩:=zW hd
  clear hd
  simp only [aE] at hcond
  obtain ⟨⟨hle,hsz2⟩,hmatch⟩:=hcond
  have hsz2:=jF hsz2
  subst hsz2
  obtain ⟨nvs,nb,no,nc,n1,n2,n3,n4,n5,n6⟩:=sE h'.mem hrx
  have hnc:oH H xi e (x.val ve lb)=some (es2.length,nvs):=by
   have hln:qKC (x.val ve lb)=some es2.length:=by rw [n1]; rfl
   simp only [oH,hxd,hln,n2,Option.map_some]
  simp only [zC] at hd3
  by_cases hn0:es2.length=0
  ·rw [if_pos hn0] at hd3
   have hd:sd=d:=Option.some.inj hd3
   refine stay hd.symm ?_
   rw [hsv]
   rw [hn0] at hle hnc
   simp only [jW,ht,hxi,hte,hz,hnc,hle,cond_true]
   rfl
  rw [if_neg hn0] at hd3
  have hd : .sl el e.size (sd.es++es2)=d:=Option.some.inj hd3
  subst hd
  have hnb:Nat.beq es2.length 0=false:=by
   cases hb:Nat.beq es2.length 0 with
   | false=>rfl
   | true=>exact absurd (jF hb) hn0
  have hbound:4 * (l+es2.length)<=100000000000:=by
   have:=lB hle
   simp only [Nat.mul_eq,Nat.add_eq,Nat.succ_eq_add_one] at this
   have h1:(4 * (l+es2.length)+4000) * 1<=(4 * (l+es2.length)+4000) * (e.bytes+1):=Nat.mul_le_mul_left _ (by omega)
   omega
  have hcap:(sd.es++es2).length < z8:=by
   rw [List.length_append,← hll]; unfold z8; omega
  have hlen2:(sd.es++es2).length=l+es2.length:=by rw [List.length_append,← hll]
  have fresh:∀ {old:List Value},DRs g (sd.es.flatMap D.cells) old->old.all qQ=true->(∀ e'∈sd.es,e'.cells.length=e.size) ->
    jW E H (t::xt::tr) (s.val ve lb) (x.val ve lb)=some (.val (.slice (some ⟨H.next,0,none⟩) (Nat.add l es2.length) z8),H.new (.cells (old++nvs) el))->jS wA E HS Q n0 H0 g0 fr H o κ:=by
   intro old o1 o2 o3 ha
   have h2:=h'.heap (H':=H.new (.cells (old++nvs) el)) bC (h'.wf.new _) (Nat.le_succ _) h'.low
   have hown:=qAG (el:=el) (sz:=e.size) h'.toSM (qJh o1 n3) (by rw [List.all_append,o2,n4]; rfl) (fun e' he=>by
    rcases List.mem_append.1 he with he | he
    ·exact o3 e' he
    exact n5 e' he) hcap
   rw [hlen2] at hown
   have hB:∀ B,jQ (.slice (some ⟨H.next,0,none⟩) (l+es2.length) z8)=some B->B=H.next:=fun B hB=>by
    simp only [jQ,lR,if_true,oI] at hB; exact hB.symm
   have h3:=h2.newFresh hown rfl (fun B q=>by rw [hB B q]; exact f8 h'.toSM) (fun B c q hc=>by have:=(xZ h'.toSM hc).1; rw [hB B q]; omega)
    (fun B i q hi hoi=>by have:=(pM h'.toSM hi hoi).1; rw [hB B q] at this; omega)
   rw [← hn'] at hw
   refine ⟨.v S'.n,_,_,_,_,_,_,h3,pO,hw,.of_val (Nat.le_succ _) ?_,fun _=>rB⟩
   simp only [SV.val,jC]
   exact run ha
  rcases hfr with (⟨h1,h2⟩ | ⟨h1,⟨ab,ao,ap⟩,h2⟩) | ⟨B,l',cs,vs,jA,rt,sz,es',q⟩ | ⟨B,es',clock,rt,ks,ds,q⟩
  rotate_left 3
  ·rw [q.v] at hsv; cases hsv
  ·
   -- there was none
   subst h2
   have hl0:l=0:=hll
   subst hl0
   refine fresh (old:=[]) .nil rfl (fun e' he=>by cases he) ?_
   rw [h1]
   simp only [jW,ht,hxi,hte,hz,hnc,hle,cond_true,hnb,cond_false]
   rfl
  ·
   -- a literal of none
   rw [h2] at hsv
   cases hsv
   have hsd:∃ jA sz',sd=.sl jA sz' []:=by
    rw [h2] at h1
    cases h1 with
    | leaf h0=>simp [gC] at h0
    | sl _ _ _ hl=>exact ⟨_,_,by rw [List.length_eq_zero_iff.1 hl]⟩
   obtain ⟨jA,sz',rfl⟩:=hsd
   have hp:ap=none:=by
    rw [h2] at h1
    cases h1 with
    | sl=>rfl
   subst hp
   simp only [aE] at hmatch
   have e1:=jF hmatch.1
   have e2:=jF hmatch.2
   subst e1 e2
   refine fresh (old:=[]) .nil rfl (fun e' he=>by cases he) ?_
   have c1:Nat.ble z8 0=false:=rfl
   have c2:Nat.ble (Nat.add 0 es2.length) 0=false:=by
    cases hb:Nat.ble (Nat.add 0 es2.length) 0 with
    | false=>rfl
    | true =>
     have:=lB hb
     simp only [Nat.add_eq] at this
     have h0:Nat.beq es2.length 0=true:=by rw [show es2.length=0 by omega]; rfl
     rw [h0] at hnb; cases hnb
   rw [h2]
   simp only [jW,ht,hxi,hte,hz,hnc,hle,cond_true,hnb,cond_false,c1,c2,pQ,Nat.beq_refl,List.nil_append]
  -- one of its own
  have hd0:=q.d
  subst hd0
  simp only [aE] at hmatch
  have e1:=jF hmatch.1
  have e2:=jF hmatch.2
  subst e1 e2
  obtain ⟨ovs,ob,oo,oc,p1,p2,p3,p4,p5,p6⟩:=sE h'.mem hsr
  simp only [D.es] at hll hcap hlen2 hw
  subst hll
  rw [q.v] at p1 hsv
  cases p1
  cases hsv
  obtain ⟨X,hX⟩:∃ X,X=ovs++nvs++List.drop (Nat.add 0 (Nat.mul (Nat.add es'.length es2.length) e.size)) cs:=⟨_,rfl⟩
  obtain ⟨x1,x2,x3,x4⟩:=hex B (by rw [q.v]; simp [jQ])
  have hmv:∀ b,b < H.next->¬ b=B->(H.move B ⟨.cells cs jA,rt,true⟩ (.cells X jA)).blocks.get b=H.blocks.get b:=fun b hb hne=>by
   rw [AH.get_move,if_neg (by omega),if_neg hne]
  have hlow:Nat.min H0.low n0.n<=(H.move B ⟨.cells cs jA,rt,true⟩ (.cells X jA)).low :=
   Nat.le_min.2 ⟨h'.low,lT (Nat.min_le_right _ _) q.rt.1⟩
  have h2:=h'.heap2 (H':=H.move B ⟨.cells cs jA,rt,true⟩ (.cells X jA)) (fun b=>b=B) hmv (fun b e=>by rw [e]; exact x1) (fun b c e hc=>by rw [e]; exact x2 c hc) (fun b i e hi=>by rw [e]; exact x3 i hi) (fun b e=>by rw [e]; exact x4)
   (h'.wf.move q.b _) (Nat.le_succ _) hlow
  have hfl:=qJh p3 n3
  have hal:∀ e'∈es'++es2,e'.cells.length=e.size:=fun e' he=>by
   rcases List.mem_append.1 he with he | he
   ·exact p5 e' he
   exact n5 e' he
  have hown:mZ g (H.move B ⟨.cells cs jA,rt,true⟩ (.cells X jA)).blocks.get n0 (.sl jA e.size (es'++es2)) (.slice (some ⟨H.next,0,none⟩) (es'.length+es2.length) z8):=by
   refine .inr (.inl ⟨H.next,_,X,ovs++nvs,jA,rt,e.size,es'++es2,rfl,rfl,?_,⟨q.rt.1,h'.base.new.2⟩,?_,hfl,hlen2,hal,by rw [← hlen2]; exact hcap,by rw [List.all_append,p4,n4]; rfl⟩)
   ·rw [AH.get_move,if_pos rfl]
   have hl:(ovs++nvs).length=(es'.length+es2.length) * e.size:=by rw [hfl.length,mJ hal,hlen2]
   rw [hX,gH (by rw [List.length_append]; omega),List.take_append_of_le_length (by omega),List.take_of_length_le (by omega)]
  have hB:∀ B',jQ (.slice (some ⟨H.next,0,none⟩) (es'.length+es2.length) z8)=some B'->B'=H.next:=fun B' hB=>by
   simp only [jQ,lR,if_true,oI] at hB; exact hB.symm
  have h3:=h2.newFresh hown rfl (fun B' r=>by rw [hB B' r]; exact f8 h'.toSM) (fun B' c r hc=>by have:=(xZ h'.toSM hc).1; rw [hB B' r]; omega)
   (fun B' i r hi hoi=>by have:=(pM h'.toSM hi hoi).1; rw [hB B' r] at this; omega)
  rw [← hn'] at hw
  refine ⟨.v S'.n,_,_,_,_,_,_,h3,pO,hw,.of_val (Nat.le_succ _) ?_,fun e=>by
   have:=(hwA e).own
   rw [q.v] at this
   simp [jQ] at this⟩
  simp only [SV.val,jC]
  refine run ?_
  have c1:Nat.ble z8 z8=true:=bL (lR _)
  have c2:Nat.beq (Nat.mod 0 e.size) 0=true:=by
   have:Nat.mod 0 e.size=0:=Nat.zero_mod _
   rw [this]; rfl
  have c3:Nat.beq jA jA=true:=Nat.beq_refl _
  rw [q.v] at p2 ⊢
  simp only [jW,ht,hxi,hte,hz,hnc,hle,cond_true,hnb,cond_false,c1,q.b,p2,c2,c3,Bool.and_self]
  rw [hX]
  rfl
 split at hw
 ·
  -- nil
  exact main (fun _=>.inl ⟨rfl,rfl⟩) h rfl rfl ⟨.inl (.inl ⟨rfl,rfl⟩),rfl⟩ (fun B hB=>by cases hB) hw
 ·rename_i i
  have hi:i < S.n:=hsb
  split at hw
  ·
   -- a literal of none
   rename_i o1 hst
   have hv:=(h.vars i _ hst).2
   exact main (fun _=>hv) h rfl rfl ⟨.inl hv,qEV.one hv⟩ (fun B hB=>by have hB:jQ (ve i)=some B:=hB; rw [qEV.own hv] at hB; cases hB) hw
  ·
   -- a list of the function's own
   rename_i o1 hst
   have hf:S.freshV i=true:=zO.2 ⟨_,hst⟩
   have hv:=h.vars i _ hst
   have go:wp E HS Q (bif kL S x && Nat.ble 1 e.size then Tree.bind (.app el e.size e.bytes) [.v i,x] (κ (.v S.n) ((S.kill i).new .fresh true)) else .fail) ρ->jS true E HS Q n0 H0 g0 fr H o κ:=by
    intro hw
    refine main (wA:=true) (fun e=>by cases e) (h.killed i) dE rfl ⟨hv.2,?_⟩ (fun B hB=>⟨h.sepFG i B hf hB,fun c hc e=>h.sepX c i hc hf (by rw [e]; exact hB),fun j hj hoj=>?_,?_⟩) hw
    ·rcases hv.2 with q | ⟨B,l,cs,vs,jA,rt,sz,es,q⟩ | ⟨B,es,clock,rt,ks,ds,q⟩
     ·exact q.one
     ·show (getD ρ i).one=true
      rw [q.d]; rfl
     show (getD ρ i).one=true
     rw [q.d]; rfl
    ·obtain ⟨k1,k2⟩:=wY hj
     exact k2 (h.sepF j i B k1 hf hoj hB)
    have hB':jQ (ve i)=some B:=hB
    rcases hv.2 with q | ⟨B',l,cs,vs,jA,rt,sz,es,q⟩ | ⟨B',es,clock,rt,ks,ds,q⟩
    ·rw [q.own] at hB'; cases hB'
    ·rw [q.v] at hB'
     simp only [jQ,lR,if_true,oI] at hB'
     subst hB'
     exact q.rt.2
    rw [q.own] at hB'; cases hB'
    exact q.rt.2
   have hap:qOc S [.v i,x]=true:=hf
   rw [hap]
   split at hw
   ·rename_i j
    rw [cond_eq_ite] at hw
    split at hw
    ·cases hw
    exact go hw
   exact go hw
  cases hw
 cases hw
end
end Go.Am
namespace Go.Am
open Go
section
variable {E:Env} {n0:Lim} {H0:AH} {g0:zG} {S:St} {ρ:List D} {ve:Nat->Value} {lb:Nat->Nat} {g:zG} {fr:Fr} {H:AH} {HS:FuncId->List D->D->Prop} {Q:Res1->Prop} {o:Oper} {κ:K1} {wm:Bool}
theorem qCR (h:SR E n0 H0 g0 S ρ ve lb g fr H) {t:TypeId} {n:Nat} {ps:Array (Nat × Operand)} (ho:o.op=.buildSlice t n ps) (hw:wp E HS Q (vZ E o S κ) ρ):jS wm E HS Q n0 H0 g0 fr H o κ:=by
 unfold vZ at hw
 rw [ho] at hw
 simp only at hw
 split at hw
 case h_2=>cases hw
 rename_i el hel
 obtain ⟨sz,bt,z0,ag,ht⟩:=k9 hel
 split at hw
 case h_2=>cases hw
 rename_i e hte
 split at hw
 case h_2=>cases hw
 rename_i z hz
 obtain ⟨hc,hw⟩:=jB hw
 simp only [aE] at hc
 have hzl:=jF hc.1
 have hn:=jF hc.2
 obtain ⟨l,S1,ρ1,ve1,g1,e1,h1,hw1,r1,r2,r3,vs,r4,r5⟩:=qGs (size:=e.size) hzl ps.toList (acc:=[]) (done:=[]) h trivial (by simp) rfl (fun x hx=>by cases hx) hw
 obtain ⟨g2,d,e2,h2,hp,hd,hw2⟩:=uI h1 hw1
 rw [tY] at hd
 cases hcond:((SV.ds (getD ρ1) l).all (fun e'=>Nat.beq e'.cells.length e.size) && Nat.ble (Nat.mul (SV.ds (getD ρ1) l).length (Nat.succ e.size)) 1000000) with
 | false=>rw [hcond] at hd; cases hd
 | true =>
  rw [hcond] at hd
  simp only [cond_true,oI] at hd
  subst hd
  simp only [aE] at hcond
  have hlen:(SV.ds (getD ρ1) l).length=n:=by rw [SV.ds_map,List.length_map,r3,hn]; simp
  have hdr:=nY h2.toSM hp
  have hfl:=qHL hdr
  have hone:=qNt hdr (fun d hd=>by
   rw [SV.ds_map] at hd
   obtain ⟨x,hx,rfl⟩:=List.mem_map.1 hd
   exact (r2 x hx).2)
  have hsz:∀ x∈SV.ds (getD ρ1) l,x.cells.length=e.size:=fun x hx=>by
   have:=hcond.1
   rw [List.all_eq_true] at this
   exact jF (this x hx)
  rw [SV.vals_map] at hfl hone
  generalize hcs:(l.map (SV.val ve1 lb)).flatMap (fun v=>v.cells.toList)=cs at r5 hfl hone
  have hcl:cs.length=n * e.size:=by rw [hfl.length,mJ hsz,hlen]
  have hsmall:n * (e.size+1)<=1000000:=by
   have:=lB hcond.2
   rw [hlen] at this
   exact this
  have hncap:n < z8:=by
   have:n * 1<=n * (e.size+1):=Nat.mul_le_mul_left n (by omega)
   unfold z8
   omega
  have h3:=h2.heap (H':=H.new (.cells cs el)) bC (h2.wf.new _) (Nat.le_succ _) h2.low
  have hexec:∀ {c:Nat},c=(bif Nat.beq n 0 then 0 else z8)->jH E fr o H=some (.val (.slice (some ⟨H.next,0,none⟩) n c),H.new (.cells cs el)):=by
   intro c hcc
   subst hcc
   unfold jH; rw [ho]
   simp only [List.nil_append] at r5
   rw [← hn] at r5
   have hble:Nat.ble (Nat.mul n (Nat.succ e.size)) 1000000=true:=bL hsmall
   obtain ⟨ed,es,eb,ez,ea⟩:=e
   simp only at hz hzl hble r5
   subst hz
   have hb2:Nat.beq z.length es=true:=by rw [hzl]; exact Nat.beq_refl _
   simp only [r4,wV,ht,hte,hb2,hble,Bool.and_self,cond_true,r5,Option.map_some]
  by_cases h0:n=0
  ·subst h0
   have hnil:SV.ds (getD ρ1) l=[]:=List.length_eq_zero_iff.1 hlen
   have hcs0:cs=[]:=List.length_eq_zero_iff.1 (by rw [hcl,Nat.zero_mul])
   subst hcs0
   have h4:=(h2.allocPure [] el).new (k:=.full) (o:=true) (d:=.sl el e.size []) (v:=.slice (some ⟨H.next,0,none⟩) 0 0) (by simp)
    ⟨fun _=>rfl,.inr ⟨.sl (cs:=[]) (vs:=[]) (sz:=e.size) zG.add_at (by rw [Nat.zero_mul]; rfl) .nil rfl (fun _ h=>by cases h) (lR _) (by unfold z8; omega) rfl,_,rfl⟩⟩
   rw [hnil] at hw2
   refine ⟨_,_,_,_,_,_,_,h4,pO,hw2,.of_val (Nat.le_succ _) ?_,fun _=>rB⟩
   simp only [SV.val,jC]
   exact hexec rfl
  have hb0:Nat.beq n 0=false:=by
   cases hc:Nat.beq n 0 with
   | false=>rfl
   | true=>exact absurd (jF hc) h0
  rw [hb0] at hw2
  have hown:=qAG (el:=el) (sz:=e.size) h2.toSM hfl hone hsz (by rw [hlen]; exact hncap)
  rw [hlen] at hown
  have hB:∀ B,jQ (.slice (some ⟨H.next,0,none⟩) n z8)=some B->B=H.next:=fun B hB=>by
   simp only [jQ,lR,if_true,oI] at hB; exact hB.symm
  have h4:=h3.newFresh hown rfl (fun B q=>by rw [hB B q]; exact f8 h2.toSM) (fun B c q hc=>by have:=(xZ h2.toSM hc).1; rw [hB B q]; omega)
   (fun B i q hi hoi=>by have:=(pM h2.toSM hi hoi).1; rw [hB B q] at this; omega)
  refine ⟨_,_,_,_,_,_,_,h4,pO,hw2,.of_val (Nat.le_succ _) ?_,fun _=>rB⟩
  simp only [SV.val,jC]
  exact hexec (by rw [hb0]; rfl)
theorem rF {d:D} (h:d.one=true):d.cells=[d]:=by cases d <;> first | rfl | (simp [D.one] at h)
theorem qJ5 {x y:Operand} (h:qHg x y=true):y=x:=by
 unfold qHg at h
 split at h
 ·rw [jF h]
 ·simp only [aE,decide_eq_true_eq] at h; rw [h.1,h.2]
 cases h
theorem qU8 {ag:Bool} {z:List Value} {sz:Nat} (hz:z.length=sz) (hall:z.all (fun v=>zP v && qQ v)=true) (hag:(ag || Nat.beq sz 1)=true):(zD ag z).cells=z.map qKo/\DRs g (z.map qKo) z:=by
 have hr:DRs g (z.map qKo) z:=by
  clear hz
  induction z with
  | nil=>exact .nil
  | cons v l ih =>
   simp only [List.all_cons,aE] at hall
   exact .cons (qEq 6 v hall.1.1) (ih (by simpa using hall.2))
 refine ⟨?_,hr⟩
 cases ag with
 | true=>rfl
 | false =>
  simp only [Bool.false_or] at hag
  have h1:=jF hag
  rw [h1] at hz
  match z,hz with
  | [v],_ =>
   simp only [List.all_cons,List.all_nil,Bool.and_true,aE] at hall
   have hd:DR g (qKo v) v:=qEq 6 v hall.1
   have ho:(qKo v).one=true:=by rw [← hd.one]; exact hall.2
   show (qKo v).cells=[qKo v]
   exact rF ho
theorem qIO {d:D} {z:List Value} (h:DRs g d.cells z):∀ n,DRs g ((List.replicate n d).flatMap D.cells) (yC z n)
 | 0=>.nil
 | n+1=>by
  rw [List.replicate_succ,List.flatMap_cons]
  exact h.append (qIO h n)
theorem qFr {z:List Value} (h:z.all qQ=true):∀ n,(yC z n).all qQ=true
 | 0=>rfl
 | n+1=>by rw [yC,List.all_append,h,qFr h n]; rfl
theorem qWv (h:SR E n0 H0 g0 S ρ ve lb g fr H) {t:TypeId} {l c:Operand} (ho:o.op=.makeSlice t l c) (hw:wp E HS Q (vZ E o S κ) ρ):jS wm E HS Q n0 H0 g0 fr H o κ:=by
 unfold vZ at hw
 rw [ho] at hw
 simp only at hw
 split at hw
 case h_2=>cases hw
 rename_i el x hel hx
 obtain ⟨sz0,bt0,z0,ag0,ht⟩:=k9 hel
 split at hw
 case h_2=>cases hw
 rename_i e hte
 split at hw
 case h_2=>cases hw
 rename_i z hz
 obtain ⟨hc,hw2⟩:=jB hw
 simp only [aE] at hc
 obtain ⟨xb,xe⟩:=zM (E:=E) h hx
 have hlc:=qJ5 hc.1
 subst hlc
 simp only [wp] at hw2
 split at hw2
 case h_2=>cases hw2
 rename_i d hd
 simp only [SV.ds,qNI] at hd
 split at hd
 case h_2=>cases hd
 rename_i n hn
 obtain ⟨hcond,hd⟩:=zW hd
 simp only [aE,Nat.mul_eq,Nat.add_eq,Nat.succ_eq_add_one] at hcond
 obtain ⟨⟨⟨c1,c2⟩,c3⟩,c4⟩:=hcond
 have hzl:=jF c1
 simp only [oI] at hd
 subst hd
 obtain ⟨k,hxv⟩:=aI (zJ h.toSM hc.2) hn
 obtain ⟨q1,q2⟩:=qU8 (g:=g) hzl c2 (by simpa using c3)
 have hone:z.all qQ=true:=by
  rw [List.all_eq_true] at c2 ⊢
  intro v hv
  have:=c2 v hv
  simp only [aE] at this
  exact this.2
 have hle:=lB c4
 have hncap:n < z8:=by
  have:n * 1<=n * (e.bytes+e.size+1):=Nat.mul_le_mul_left n (by omega)
  unfold z8
  omega
 have h3:=h.heap (H':=H.new (.cells (yC z n) el)) bC (h.wf.new _) (Nat.le_succ _) h.low
 have hown:=qAG (el:=el) (sz:=e.size) (es:=List.replicate n (zD e.agg z)) h.toSM (qIO (by rw [q1]; exact q2) n) (qFr hone n) (fun e' he'=>by
  rw [List.eq_of_mem_replicate he',q1,List.length_map,hzl]) (by rw [List.length_replicate]; exact hncap)
 rw [List.length_replicate] at hown
 have hB:∀ B,jQ (.slice (some ⟨H.next,0,none⟩) n z8)=some B->B=H.next:=fun B hB=>by
  simp only [jQ,lR,if_true,oI] at hB; exact hB.symm
 have h4:=h3.newFresh hown rfl (fun B q=>by rw [hB B q]; exact f8 h.toSM) (fun B c q hc=>by have:=(xZ h.toSM hc).1; rw [hB B q]; omega)
  (fun B i q hi hoi=>by have:=(pM h.toSM hi hoi).1; rw [hB B q] at this; omega)
 refine ⟨_,_,_,_,_,_,_,h4,pO,hw2,.of_val (Nat.le_succ _) ?_,fun _=>rB⟩
 unfold jH; rw [ho]
 rw [hxv] at xe
 obtain ⟨ed,es,eb,ez,ea⟩:=e
 simp only at hz hzl hle c1 c4
 subst hz
 have hbb:Nat.beq n n=true:=Nat.beq_refl n
 have hbl:Nat.ble n n=true:=bL (lR n)
 have hc4:Nat.ble (Nat.mul n (Nat.succ (Nat.add eb es))) 1000000000=true:=c4
 simp only [xe,oJ,ht,nat?,hte,c1,hbl,hc4,Bool.and_self,cond_true,hbb,SV.val,jC]
theorem qL8 {cs xs:List D} {off:Nat} (h:off+xs.length<=cs.length):(qCM cs off xs).length=cs.length:=by
 simp [qCM]; omega
theorem qBe {e:D} {off sz:Nat} {xs:List D} (hl:e.cells.length=sz) (hx:off+xs.length<=sz) (ho:xs.all D.one=true):(qCN e off xs).cells=qCM e.cells off xs:=by
 have other:e.cells=[e]->(∀ cs,e≠.agg cs)->(qCN e off xs).cells=qCM e.cells off xs:=by
  intro hc hne
  have h1:sz=1:=by rw [← hl,hc]; rfl
  have hp:qCN e off xs=(match (generalizing:=false) xs with
   | [x]=>x
   | _=>e):=by
   cases e with
   | agg cs=>exact absurd rfl (hne cs)
   | _=>rfl
  rw [hp,hc]
  match xs,hx,ho with
  | [],hx,_ =>
   simp only [hc,qCM,List.length_nil,Nat.add_zero,List.nil_append,List.take_append_drop]
  | [x],hx,ho =>
   have h0:off=0:=by simp at hx; omega
   subst h0
   simp only [List.all_cons,List.all_nil,Bool.and_true] at ho
   rw [rF ho]
   simp [qCM]
  | _::_::_,hx,_=>simp at hx; omega
 cases e with
 | agg cs=>rfl
 | _=>exact other rfl (fun _ h=>by cases h)
theorem qNs {es:List D} {sz n off:Nat} {e:D} {xs:List D} (hs:∀ e∈es,e.cells.length=sz) (he:es[n]? = some e) (hx:off+xs.length<=sz) (ho:xs.all D.one=true) :
  (es.set n (qCN e off xs)).flatMap D.cells=qCM (es.flatMap D.cells) (n * sz+off) xs:=by
 have hn:n < es.length:=(gI he).1
 have hel:=hs e (List.mem_of_getElem? he)
 rw [List.set_eq_take_append_cons_drop,if_pos hn,List.flatMap_append,List.flatMap_cons,qBe hel hx ho,← tT hs,← rH hs]
 have hmid:(es.flatMap D.cells).drop (n * sz)=e.cells++(es.flatMap D.cells).drop ((n+1) * sz):=by
  rw [rH hs,rH hs]
  have:es.drop n=e::es.drop (n+1):=by rw [List.drop_eq_getElem_cons hn]; congr 1; exact (gI he).2
  rw [this,List.flatMap_cons]
 unfold qCM
 have h1:(es.flatMap D.cells).take (n * sz+off)=(es.flatMap D.cells).take (n * sz)++e.cells.take off:=by
  rw [List.take_add,hmid,List.take_append_of_le_length (by omega)]
 have h2:(es.flatMap D.cells).drop (n * sz+off+xs.length)=e.cells.drop (off+xs.length)++(es.flatMap D.cells).drop ((n+1) * sz):=by
  rw [Nat.add_assoc,← List.drop_drop,hmid,List.drop_append_of_le_length (by omega)]
 rw [h1,h2]
 simp only [List.append_assoc]
def qLm {α:Type} (cs:List α) (off:Nat) (xs:List α):List α:=cs.take off++(xs++cs.drop (off+xs.length))
theorem qFf {cs xs:List Value} {i:Nat} (h:i+xs.length<=cs.length):j5 cs i xs=some (qLm cs i xs):=by
 have e:cs=cs.take i++((cs.drop i).take xs.length++cs.drop (i+xs.length)):=by
  rw [← List.drop_drop,List.take_append_drop,List.take_append_drop]
 have hi:(cs.take i).length=i:=by rw [List.length_take]; omega
 have:=dX (cs.take i) ((cs.drop i).take xs.length) (cs.drop (i+xs.length)) xs (by rw [List.length_take,List.length_drop]; omega)
 rw [← e,hi] at this
 exact this
theorem qL7 {α:Type} {cs xs:List α} {i N:Nat} (h:i+xs.length<=N) (hN:N<=cs.length):(qLm cs i xs).take N=qLm (cs.take N) i xs:=by
 have h1:(cs.take i).length=i:=by rw [List.length_take]; omega
 unfold qLm
 rw [List.take_append,h1,List.take_append,List.take_of_length_le (by omega:(cs.take i).length<=N),List.take_of_length_le (by omega:xs.length<=N - i),List.take_take,Nat.min_eq_left (by omega:i<=N),List.drop_take]
 congr 3
 omega
theorem qO3 {i n:Nat} {x:SV} {ve:Nat->Value} (h:ve n=ve i):(SV.ren i n x).val ve lb=x.val ve lb:=by
 unfold SV.ren
 split
 ·rename_i j
  cases hc:Nat.beq j i with
  | false=>rfl
  | true=>have:=jF hc; subst this; exact h
 ·rename_i j k sz off
  cases hc:Nat.beq j i with
  | false=>rfl
  | true=>have:=jF hc; subst this; simp only [cond_true,SV.val,h]
 rfl
theorem qTx {i n N m:Nat} {x:SV} (h:x.bd N m) (hn:n < N):(SV.ren i n x).bd N m:=by
 unfold SV.ren
 split
 ·rename_i j
  cases hc:Nat.beq j i with
  | false=>exact h
  | true=>exact hn
 ·rename_i j k sz off
  cases hc:Nat.beq j i with
  | false=>exact h
  | true=>exact ⟨hn,h.2⟩
 exact h
theorem qK5 {g:zG} {ag:Bool} {size:Nat} {d d':D} {v:Value} (h:eT ag size d=some d') (hr:DR g d v):d.cells.length=size/\d.cells.all D.one=true/\cG v:=by
 obtain ⟨_,h1,h2⟩:=iE h
 cases ag with
 | true =>
  obtain ⟨cs,rfl,hl⟩:=h1 rfl
  obtain ⟨vs,hv,hvs,ho⟩:=wQ hr rfl
  exact ⟨hl,by show cs.all D.one=true; rw [← hvs.all_one]; exact ho,lM hr rfl⟩
 | false =>
  obtain ⟨ho,hs⟩:=h2 rfl
  rw [rF ho]
  exact ⟨by rw [hs]; rfl,by simp [ho],tC hr ho⟩
theorem qTC (h:SR E n0 H0 g0 S ρ ve lb g fr H) {t:TypeId} {x1 x2:Operand} {i:Nat} {j x:SV} {sz off:Nat} (ho:o.op=.store t x1 x2) (h1:ev E fr x1=some ((SV.ptr (.v i) j sz off).val ve lb)) (h2:ev E fr x2=some (x.val ve lb))
  (hw:wp E HS Q (qTu E t i j sz off x S κ) ρ):jS true E HS Q n0 H0 g0 fr H o κ:=by
 unfold qTu at hw
 split at hw
 ·cases hw
 rename_i ti ht
 simp only at hw
 obtain ⟨g1,e1,q⟩:=nA x h
 generalize o9 S x=T at hw e1 q
 obtain ⟨hc,hw2⟩:=jB hw
 simp only [aE] at hc
 obtain ⟨⟨c1,c2⟩,c3⟩:=hc
 simp only [wp] at hw2
 split at hw2
 case h_2=>cases hw2
 rename_i d hd
 simp only [SV.ds,qED] at hd
 have hxr:=jP q.toSM c1
 have hjr:=zJ q.toSM c2
 obtain ⟨of,hst⟩:=zO.1 c3
 have hi:i < T.n:=qF6 c3
 have hv:=(q.vars i _ hst).2
 have hsepFG:=q.sepFG i
 split at hd
 case h_2=>cases hd
 rename_i el sz' es n ck hdi hn hck
 split at hd
 case h_2=>cases hd
 rename_i e he
 obtain ⟨hcond,hd⟩:=zW hd
 simp only [aE] at hcond
 have hsz:=jF hcond.1
 have hos:=lB hcond.2
 subst hsz
 simp only [oI] at hd
 obtain ⟨k,hjv⟩:=aI hjr hn
 obtain ⟨x3,x4,x5⟩:=qK5 hck hxr
 have hdi':getD ρ i=.sl el sz' es:=hdi
 rcases hv with qn | ⟨B,l,cs,vs,jA,rt,sz2,es2,qo⟩ | ⟨B,es2,clock,rt,ks,ds,qo⟩
 rotate_left 2
 ·have hqd:=qo.d
  rw [hdi'] at hqd
  cases hqd
 ·exfalso
  rcases qn.sl with hnil | ⟨_,_,hnil⟩
  ·rw [hdi'] at hnil; cases hnil
  rw [hdi'] at hnil
  cases hnil
  simp at he
 have hqd:=qo.d
 rw [hdi'] at hqd
 cases hqd
 have hown:jQ (ve i)=some B:=by rw [qo.v]; simp [jQ]
 have hnl:n < es.length:=(gI he).1
 have hxl:(x.val ve lb).cells.toList.length=ti.size:=by rw [hxr.cells.length,x3]
 obtain ⟨t1,t2⟩:=lC qo.t
 have hpos:n * sz'+off+ti.size<=l * sz':=by
  have:(n+1) * sz'<=l * sz':=Nat.mul_le_mul_right _ (by rw [← qo.n]; omega)
  rw [Nat.succ_mul] at this
  omega
 have hsp:=qFf (cs:=cs) (xs:=(x.val ve lb).cells.toList) (i:=n * sz'+off) (by rw [hxl]; omega)
 generalize hr:qLm cs (n * sz'+off) (x.val ve lb).cells.toList=r at hsp
 have hst2:=qA7 (t:=t) ht (H:=H) (v:=x.val ve lb) qo.b hxl hsp
 have hflat:=qNs qo.s he (off:=off) (xs:=(x.d (getD ρ)).cells) (by rw [x3]; exact hos) x4
 have hrl:take? r (l * sz')=some (qLm vs (n * sz'+off) (x.val ve lb).cells.toList):=by
  rw [← hr]
  have hlen:l * sz'<=(qLm cs (n * sz'+off) (x.val ve lb).cells.toList).length:=by simp [qLm,hxl]; omega
  rw [gH hlen,qL7 (by rw [hxl]; exact hpos) t2,← t1]
 have hdrs:DRs g1 ((es.set n (qCN e off (x.d (getD ρ)).cells)).flatMap D.cells) (qLm vs (n * sz'+off) (x.val ve lb).cells.toList):=by
  rw [hflat]
  have hl:(x.d (getD ρ)).cells.length=(x.val ve lb).cells.toList.length:=hxr.cells.length.symm
  unfold qCM qLm
  rw [hl]
  exact (qo.r.take _).append (hxr.cells.append (qo.r.drop _))
 have hone:(qLm vs (n * sz'+off) (x.val ve lb).cells.toList).all qQ=true:=by
  have h0:=qo.o
  have hx0:(x.val ve lb).cells.toList.all qQ=true:=by rw [hxr.cells.all_one]; exact x4
  rw [List.all_eq_true] at h0 hx0 ⊢
  intro v hv
  simp only [qLm,List.mem_append] at hv
  rcases hv with hv | hv | hv
  ·exact h0 v (List.mem_of_mem_take hv)
  ·exact hx0 v hv
  exact h0 v (List.mem_of_mem_drop hv)
 have hlens:∀ e'∈es.set n (qCN e off (x.d (getD ρ)).cells),e'.cells.length=sz':=by
  intro e' he'
  rcases List.mem_or_eq_of_mem_set he' with he' | rfl
  ·exact qo.s e' he'
  have hel:=qo.s e (List.mem_of_getElem? he)
  rw [qBe hel (by rw [x3]; exact hos) x4,qL8 (by rw [hel,x3]; exact hos),hel]
 have k1:=q.killed i
 have k2:=k1.heap2 (H':=H.write B ⟨.cells cs el,rt,true⟩ (.cells r el)) (fun b=>b=B) (fun b _ hb=>by rw [AH.get_write,if_neg hb]) (fun b hb=>by subst hb; exact hsepFG b c3 hown)
  (fun b c hb hl e=>by subst hb; exact q.sepX c i hl c3 (by rw [e]; exact hown))
  (fun b jj hb hf hoj=>by subst hb; obtain ⟨a1,a2⟩:=wY hf; exact a2 (q.sepF jj i b a1 c3 hoj hown))
  (fun b hb=>by subst hb; exact qo.rt.2) (q.wf.write qo.b _) (lR _) (by
   show _<=Nat.min H.low rt
   exact Nat.le_min.2 ⟨q.low,lT (Nat.min_le_right _ _) qo.rt.1⟩)
 have k3:=k2.newFresh (d:=d) (v:=ve i) (by
   rw [← hd]
   refine .inr (.inl ⟨B,l,r,_,el,rt,sz',_,qo.v,rfl,by rw [AH.get_write,if_pos rfl],qo.rt,hrl,hdrs,by rw [List.length_set]; exact qo.n,hlens,qo.x,hone⟩)) (by rw [← hd]; rfl)
  (fun B' hB'=>by rw [hown] at hB'; cases hB'; exact hsepFG B c3 hown) (fun B' c hB' hc e=>by rw [hown] at hB'; cases hB'; exact q.sepX c i hc c3 (by rw [e]; exact hown))
  (fun B' jj hB' hf hoj=>by rw [hown] at hB'; cases hB'; obtain ⟨a1,a2⟩:=wY hf; exact a2 (q.sepF jj i B a1 c3 hoj hown))
 rw [dE] at k3
 have k4:SR E n0 H0 g0 (T.setted i) (ρ++[d]) (bX ve T.n (ve i)) lb g1 fr (H.write B ⟨.cells cs el,rt,true⟩ (.cells r el)):=by
  refine { k3 with slots:=?_ }
  intro tt y hy
  have hy':(T.slots.map (SV.ren i T.n)).get tt=some y:=hy
  rw [Go.Am.T.get_map] at hy'
  simp only [Option.map_eq_some_iff] at hy'
  obtain ⟨y0,hy0,rfl⟩:=hy'
  obtain ⟨p1,p2⟩:=k3.slots tt y0 hy0
  refine ⟨qTx p1 (by show T.n < ((T.kill i).new .fresh true).n; rw [xY,dE]; omega),?_⟩
  rw [qO3 (by rw [jC,fJ hi])]
  exact p2
 refine ⟨.tup [],_,_,_,_,_,_,k4,trivial,hw2,.of_skip (lR _) ?_,fun e=>by cases e⟩
 unfold jH
 rw [ho]
 simp only [h1,h2]
 have hadr:(SV.ptr (.v i) j sz' off).val ve lb=.pointer (some ⟨B,n * sz'+off,none⟩):=by
  simp only [SV.val,hjv,qo.v,qBq,Nat.zero_add]
 rw [hadr]
 generalize x.val ve lb=xv at x5 hst2
 split
 ·rename_i c _ hc
  simp only [oI] at hc
  exact absurd hc (x5 _)
 ·rename_i a' v' hn' e1' e2'
  simp only [oI] at e1' e2'
  subst e1' e2'
  rw [hst2]
  rfl
 rename_i hn'
 exact absurd rfl (hn' _ _ rfl)
theorem qDP:∀ {es:List D} {l:List UInt8} {vs:List Value},pT es=some l->DRs g (es.flatMap D.cells) vs->pU vs=some l
 | [],l,vs,h,hr=>by
  simp only [pT,oI] at h; subst h
  cases hr; rfl
 | e::es,l,vs,h,hr=>by
  unfold pT at h
  split at h
  ·rename_i heq; cases heq
  ·rename_i b r heq
   cases heq
   simp only [Option.map_eq_some_iff] at h
   obtain ⟨l',h1,rfl⟩:=h
   have hr':DRs g (.leaf (.int .u8 b)::es.flatMap D.cells) vs:=hr
   cases hr' with
   | cons ha hs =>
    obtain ⟨rfl,_⟩:=ha.leaf_inv
    simp only [pU,qDP h1 hs,Option.map_some]
  cases h
theorem qTB (h:SR E n0 H0 g0 S ρ ve lb g fr H) {s d:TypeId} {x:Operand} (ho:o.op=.convert s d x) (hbi:eM E s d=none) (hbo:sQ E s d=true) (hw:wp E HS Q (vZ E o S κ) ρ):jS wm E HS Q n0 H0 g0 fr H o κ:=by
 unfold vZ at hw
 rw [ho] at hw
 simp only [hbi,hbo,cond_true] at hw
 split at hw
 case h_2=>cases hw
 rename_i y hy
 obtain ⟨hb,he⟩:=zM (E:=E) h hy
 obtain ⟨dd,h1,h2,h3⟩:=zX hw
 have hr:=zJ h.toSM (h1 _ (List.mem_singleton.2 rfl))
 simp only [SV.ds,qHX] at h2
 split at h2
 case h_2=>cases h2
 rename_i el sz es hdd
 rw [hdd] at hr
 cases hc:Nat.beq sz 1 with
 | false=>rw [hc] at h2; cases h2
 | true =>
  rw [hc] at h2
  have hsz:=jF hc
  subst hsz
  simp only [cond_true,Option.map_eq_some_iff] at h2
  obtain ⟨l,hl,rfl⟩:=h2
  obtain ⟨vs,b,o',c',q1,q2,q3,q4,q5,q6⟩:=sE h.mem hr
  refine .new h (k:=.pure) (one:=true) (by simp) (v:=.string ⟨⟨l⟩⟩) ⟨fun _=>rfl,.leaf rfl⟩ h3 ?_
  unfold jH; rw [ho]
  rw [q1] at he q2
  simp only [he]
  unfold sQ at hbo
  split at hbo
  case h_2=>cases hbo
  rename_i jA hel
  obtain ⟨sz0,bt0,z0,ag0,ht⟩:=k9 hel
  split at hbo
  case h_2=>cases hbo
  rename_i e1 e2
  simp only [m9,ht,e2,q2,e1,qDP hl q3,Option.map_some,one]
end
end Go.Am
namespace Go.Am
open Go
section
variable {E:Env}
theorem qFJ {t:TypeId} {kd:TypeDesc} {ag:Bool} {z:List Value} (h:qKx E t=some (kd,ag,z)):∃ kt et sz b z0 ag0 ti,E.types.get t=some ⟨.map kt et,sz,b,z0,ag0⟩/\qW E.prog (underlying kt)=some kd/\qCu kd=true/\E.types.get et=some ti/\ti.zero=some z/\ti.agg=ag:=by
 unfold qKx at h
 split at h
 case h_2=>cases h
 rename_i kt et sz b z0 ag0 ht
 split at h
 case h_2=>cases h
 rename_i kd' _ _ _ _ _ h1 h2
 cases hb:qCu kd' with
 | false=>rw [hb] at h; cases h
 | true =>
  rw [hb] at h
  cases h
  exact ⟨_,_,_,_,_,_,_,ht,h1,hb,h2,rfl,rfl⟩
theorem qFS {kd:TypeDesc} {k:Value}:∀ {es:List MapEntry} {i:Nat} {r:Option Nat},aR kd k (es.map (·.key)) i=some r->∃ r',Instr.findNow kd k es i=some r'/\r'.map Prod.fst=r/\∀ j v,r'=some (j,v)->i<=j/\∃ e,es[j - i]? = some e/\e.val=v/\Instr.sameNow kd k e.key=some true
 | [],i,r,h=>by
  simp only [List.map_nil,aR,oI] at h
  subst h
  exact ⟨none,rfl,rfl,fun j v e=>by cases e⟩
 | e::es,i,r,h=>by
  simp only [List.map_cons,aR] at h
  unfold Instr.findNow
  cases hs:Instr.sameNow kd k e.key with
  | none=>rw [hs] at h; cases h
  | some b=>cases b with
   | true =>
    rw [hs] at h
    simp only [oI] at h
    subst h
    refine ⟨_,rfl,rfl,fun j v q=>?_⟩
    cases q
    exact ⟨lR _,e,by simp,rfl,hs⟩
   | false =>
    rw [hs] at h
    obtain ⟨r',h1,h2,h3⟩:=qFS (es:=es) (i:=i+1) h
    refine ⟨r',h1,h2,fun j v q=>?_⟩
    obtain ⟨q1,e',q2,q3⟩:=h3 j v q
    refine ⟨by omega,e',?_,q3⟩
    rw [show j - i=(j - (i+1))+1 by omega]
    simpa using q2
theorem dP {a b:ByteArray}:(a == b)=true↔a=b:=by
 show (a.data == b.data)=true↔a=b
 rw [beq_iff_eq]
 constructor
 ·intro h; cases a; cases b; simp only at h; rw [h]
 rintro rfl; rfl
theorem qOX {kd:TypeDesc} {k k':Value} (h:Instr.sameNow kd k k'=some true):k'=k/\Instr.sameBits 10000 k' k=true:=by
 unfold Instr.sameNow at h
 split at h
 ·split at h
  ·rename_i hk
   simp only [oI,beq_iff_eq] at h
   subst hk h
   exact ⟨rfl,by simp [Instr.sameBits]⟩
  cases h
 ·simp only [oI,dP] at h
  subst h
  exact ⟨rfl,by show (_ == _)=true; rw [dP]⟩
 ·simp only [oI,beq_iff_eq] at h
  subst h
  exact ⟨rfl,by simp [Instr.sameBits]⟩
 cases h
theorem qGC {kt:TypeId} {kd:TypeDesc} {k:Value} {b:Bool} (h:qW E.prog (underlying kt)=some kd) (hb:qCu kd=true):qW E.prog (Instr.checkKey b 10000 kt k)=some ():=by
 show qW E.prog (Instr.checkKey b (9999+1) kt k)=some ()
 unfold Instr.checkKey
 rw [xH,h]
 simp only [Option.bind_some]
 cases kd <;> first | (cases hb; done) | (cases k <;> rfl)
theorem bI {kt:TypeId} {kd:TypeDesc} {k:Value} {es:List MapEntry} {r:Option Nat} (h:qW E.prog (underlying kt)=some kd) (hb:qCu kd=true) (hf:zP k=true) (hk:aR kd k (es.map (·.key)) 0=some r) (b:Bool) :
  ∃ r',qW E.prog (do Instr.checkKey b 10000 kt k; Instr.findKey kt k es)=some r'/\r'.map Prod.fst=r/\∀ j v,r'=some (j,v)->∃ e,es[j]? = some e/\e.val=v/\e.key=k/\Instr.sameBits 10000 e.key k=true:=by
 obtain ⟨r',h1,h2,h3⟩:=qFS hk
 refine ⟨r',?_,h2,fun j v q=>?_⟩
 ·rw [xH,qGC h hb]
  simp only [Option.bind_some,Instr.findKey,xH,h,h1]
  rfl
 obtain ⟨_,e,q1,q2,q3⟩:=h3 j v q
 obtain ⟨q4,q5⟩:=qOX q3
 exact ⟨e,by simpa using q1,q2,q4,q5⟩
theorem oM {v:Value} (h:gC v=true):zP v=true:=by
 cases v <;> first | rfl | (simp [gC] at h;done) | (simp [gC] at h;subst h;rfl)
variable {n0:Lim} {H0:AH} {g0:zG} {S:St} {ρ:List D} {ve:Nat->Value} {lb:Nat->Nat} {g:zG} {fr:Fr} {H:AH} {HS:FuncId->List D->D->Prop} {Q:Res1->Prop} {o:Oper} {κ:K1} {wm:Bool}
theorem qPl (h:SR E n0 H0 g0 S ρ ve lb g fr H) {t:TypeId} (ho:o.op=.makeMap t none) (hw:wp E HS Q (vZ E o S κ) ρ):jS wm E HS Q n0 H0 g0 fr H o κ:=by
 unfold vZ at hw
 rw [ho] at hw
 simp only [wp,SV.ds,qJn] at hw
 have h3:=h.heap (H':=H.new (.map [] 0)) bC (h.wf.new _) (Nat.le_succ _) h.low
 have hB:∀ B,jQ (.map (some H.next))=some B->B=H.next:=fun B hB=>by cases hB; rfl
 have h4:=h3.newFresh (d:=.mp [] []) (v:=.map (some H.next)) (.inr (.inr ⟨H.next,[],0,H.next,[],[],rfl,rfl,by rw [AH.get_new,if_pos rfl],h.base.new,rfl,.nil⟩)) rfl
  (fun B q=>by rw [hB B q]; exact f8 h.toSM) (fun B c q hc=>by have:=(xZ h.toSM hc).1; rw [hB B q]; omega)
  (fun B i q hi hoi=>by have:=(pM h.toSM hi hoi).1; rw [hB B q] at this; omega)
 refine ⟨_,_,_,_,_,_,_,h4,pO,hw,.of_val (Nat.le_succ _) ?_,fun _=>rB⟩
 simp only [SV.val,jC]
 unfold jH; rw [ho]
theorem qPm (h:SR E n0 H0 g0 S ρ ve lb g fr H) {t:TypeId} {x k:Operand} {ok:Bool} (ho:o.op=.lookup t x k ok) (hw:wp E HS Q (vZ E o S κ) ρ):jS wm E HS Q n0 H0 g0 fr H o κ:=by
 unfold vZ at hw
 rw [ho] at hw
 simp only at hw
 split at hw
 case h_2=>cases hw
 rename_i y z hy hz
 obtain ⟨yb,ye⟩:=zM (E:=E) h hy
 obtain ⟨zb,ze⟩:=zM (E:=E) h hz
 obtain ⟨d,h1,h2,h3⟩:=zX hw
 have ry:=zJ h.toSM (h1 y (by simp))
 have rz:=zJ h.toSM (h1 z (by simp))
 simp only [SV.ds,qJo] at h2
 unfold qIZ at h2
 split at h2
 case h_2=>cases h2
 rename_i kd ag zz ks ds kv hmt hks hkv
 obtain ⟨kt,et,sz,b,z0,ag0,ti,m1,m2,m3,m4,m5,m6⟩:=qFJ hmt
 obtain ⟨es,q1,q2,q3⟩:=qI6 h.mem ry hks
 rw [hkv] at rz
 obtain ⟨rzv,rzl⟩:=(rz.dr rfl).leaf_inv
 have run:∀ {v:Value},oY E H t (y.val ve lb) kv ok=some v->jH E fr o H=some (.val v,H):=by
  intro v hv
  unfold jH; rw [ho]
  rw [rzv] at ze
  simp only [ye,ze,hv,one,Option.map_some]
 have fin:∀ {v:Value},DR g d v->oY E H t (y.val ve lb) kv ok=some v->jS wm E HS Q n0 H0 g0 fr H o κ:=by
  intro v hd hv
  exact .new h (k:=.pure) (one:=false) (by simp) ⟨fun e=>(by cases e),hd⟩ h3 (run hv)
 split at h2
 ·rename_i i hi
  rw [← q2] at hi
  obtain ⟨r',f1,f2,f3⟩:=bI m2 m3 (oM rzl) hi es.isEmpty
  simp only [Option.map_eq_some_iff] at h2
  obtain ⟨d',hd',rfl⟩:=h2
  cases r' with
  | none=>cases f2
  | some p =>
   obtain ⟨j,v⟩:=p
   cases f2
   obtain ⟨e,e1,e2,_⟩:=f3 j v rfl
   obtain ⟨v',v1,v2⟩:=q3.get j d' hd'
   rw [List.getElem?_map,e1] at v1
   simp only [Option.map_some,oI] at v1
   rw [← v1,e2] at v2
   have hl:oY E H t (y.val ve lb) kv ok=some (bif ok then .tuple #[v,.bool true] else v):=by
    unfold oY
    simp only [m1,q1,qB3,oM rzl,cond_true,f1]
   refine fin ?_ hl
   cases ok with
   | true=>exact .tup (.cons v2 (.cons (.leaf rfl) .nil))
   | false=>exact v2
 ·rename_i hi
  rw [← q2] at hi
  obtain ⟨r',f1,f2,f3⟩:=bI m2 m3 (oM rzl) hi es.isEmpty
  split at h2
  case h_2=>cases h2
  rename_i v hv
  obtain ⟨hfv,h2⟩:=zW h2
  simp only [oI] at h2
  subst h2
  cases r' with
  | some p=>cases f2
  | none =>
   have hl:oY E H t (y.val ve lb) kv ok=some (bif ok then .tuple #[v,.bool false] else v):=by
    unfold oY
    obtain ⟨td,ts,tb,tz,ta⟩:=ti
    simp only at m5 m6
    subst m5 m6
    simp only [m1,q1,qB3,oM rzl,cond_true,f1,m4,hv]
   have hd:DR g (qKo v) v:=qEq 6 v hfv
   refine fin ?_ hl
   cases ok with
   | true=>exact .tup (.cons hd (.cons (.leaf rfl) .nil))
   | false=>exact hd
 cases h2
mutual
theorem lH {i n:Nat} {ve:Nat->Value} (h:ve n=ve i):∀ (x:SV),(SV.renD i n x).val ve lb=x.val ve lb
 | .v j=>by
  simp only [SV.renD]
  cases hc:Nat.beq j i with
  | false=>rfl
  | true=>have:=jF hc; subst this; exact h
 | .c _=>rfl
 | .loc _ _=>rfl
 | .ptr s k sz off=>by simp only [SV.renD,SV.val,lH h s,lH h k]
 | .pp _ _=>rfl
 | .agg cs=>by simp only [SV.renD,SV.val,kW h cs]
 | .tup cs=>by simp only [SV.renD,SV.val,kW h cs]
 | .fn f a b=>by simp only [SV.renD,SV.val,kW h a,kW h b]
 | .ifc t x=>by simp only [SV.renD,SV.val,lH h x]
 | .yld _=>rfl
theorem kW {i n:Nat} {ve:Nat->Value} (h:ve n=ve i):∀ (xs:List SV),SV.vals ve lb (SV.renDs i n xs)=SV.vals ve lb xs
 | []=>rfl
 | x::xs=>by simp only [SV.renDs,SV.vals,lH h x,kW h xs]
end
mutual
theorem d8 {i n N m:Nat} (hn:n < N):∀ {x:SV},x.bd N m->(SV.renD i n x).bd N m
 | .v j,h=>by
  simp only [SV.renD]
  cases hc:Nat.beq j i with
  | false=>exact h
  | true=>exact hn
 | .c _,h=>h
 | .loc _ _,h=>h
 | .ptr s k _ _,h=>⟨d8 hn (x:=s) h.1,d8 hn (x:=k) h.2⟩
 | .pp _ _,h=>h
 | .agg cs,h=>rW hn (xs:=cs) h
 | .tup cs,h=>rW hn (xs:=cs) h
 | .fn _ a b,h=>⟨rW hn (xs:=a) h.1,rW hn (xs:=b) h.2⟩
 | .ifc _ x,h=>d8 hn (x:=x) h
 | .yld _,h=>h
theorem rW {i n N m:Nat} (hn:n < N):∀ {xs:List SV},SV.bds N m xs->SV.bds N m (SV.renDs i n xs)
 | [],_=>trivial
 | _::_,h=>⟨d8 hn h.1,rW hn h.2⟩
end
theorem qO4 {i n N m:Nat} (hn:n < N) {b:Blk} (h:b.bd N m):(b.renD i n).bd N m:=by
 cases b with
 | cells cs=>exact rW hn (xs:=cs) h
 | whole x k=>exact h
 | loop a b=>trivial
 | tcells t cs=>exact rW hn (xs:=cs) h
theorem qO5 {i n l:Nat} {bs:zG} {r:Nat->D} {ve:Nat->Value} (e:ve n=ve i) {b:Blk} (h:pX n0 r ve lb bs l b):pX n0 r ve lb bs l (b.renD i n):=by
 cases b with
 | cells cs =>
  obtain ⟨el,rt,cs',q1,q2,q3⟩:=h
  refine ⟨el,rt,cs',q1,q2,?_⟩
  show cs'=SV.vals ve lb (SV.renDs i n cs)
  rw [kW e]; exact q3
 | whole x k=>exact h
 | loop a b=>exact h
 | tcells t cs=>cases t with
  | zero =>
   obtain ⟨rt,p,cs',q1,q2,q3⟩:=h
   refine ⟨rt,p,cs',q1,q2,?_⟩
   show _=SV.vals ve lb (SV.renDs i n cs)
   rw [kW e]; exact q3
  | succ t =>
   obtain ⟨rt,p,cs',q1,q2,q4,q3⟩:=h
   refine ⟨rt,p,cs',q1,q2,q4,?_⟩
   show cs'=SV.vals ve lb (SV.renDs i n cs)
   rw [kW e]; exact q3
theorem qKw (h:SR E n0 H0 g0 S ρ ve lb g fr H) {i:Nat} {of:Bool} (hst:S.sts[i]? = some ⟨.fresh,of⟩) {B:Nat} {es es':List MapEntry} {ck wU rt:Nat} {ks:List Value} {ds:List D} (q:OwnM g H.blocks.get n0 (getD ρ i) (ve i) B es ck rt ks ds)
  {ks':List Value} {ds':List D} (hk:es'.map (·.key)=ks') (hr:DRs g ds' (es'.map (·.val))) :
  SR E n0 H0 g0 (S.mapped i) (ρ++[.mp ks' ds']) (bX ve S.n (ve i)) lb g fr (H.write B ⟨.map es ck,rt,true⟩ (.map es' wU)):=by
 have c3:S.freshV i=true:=zO.2 ⟨_,hst⟩
 have hi:i < S.n:=qF6 c3
 have hown:=q.own
 have hsepFG:=h.sepFG i
 have k1:=h.killed i
 have k2:=k1.heap2 (H':=H.write B ⟨.map es ck,rt,true⟩ (.map es' wU)) (fun b=>b=B) (fun b _ hb=>by rw [AH.get_write,if_neg hb]) (fun b hb=>by subst hb; exact hsepFG b c3 hown)
  (fun b c hb hl e=>by subst hb; exact h.sepX c i hl c3 (by rw [e]; exact hown))
  (fun b jj hb hf hoj=>by subst hb; obtain ⟨a1,a2⟩:=wY hf; exact a2 (h.sepF jj i b a1 c3 hoj hown))
  (fun b hb=>by subst hb; exact q.rt.2) (h.wf.write q.b _) (lR _) (by
   show _<=Nat.min H.low rt
   exact Nat.le_min.2 ⟨h.low,lT (Nat.min_le_right _ _) q.rt.1⟩)
 have k3:=k2.newFresh (d:=.mp ks' ds') (v:=ve i) (.inr (.inr ⟨B,es',wU,rt,ks',ds',q.v,rfl,by rw [AH.get_write,if_pos rfl],q.rt,hk,hr⟩)) rfl
  (fun B' hB'=>by rw [hown] at hB'; cases hB'; exact hsepFG B c3 hown) (fun B' c hB' hc e=>by rw [hown] at hB'; cases hB'; exact h.sepX c i hc c3 (by rw [e]; exact hown))
  (fun B' jj hB' hf hoj=>by rw [hown] at hB'; cases hB'; obtain ⟨a1,a2⟩:=wY hf; exact a2 (h.sepF jj i B a1 c3 hoj hown))
 rw [dE] at k3
 have e:bX ve S.n (ve i) S.n=bX ve S.n (ve i) i:=by rw [jC,fJ hi]
 have hN:S.n < ((S.kill i).new .fresh true).n:=by rw [xY,dE]; omega
 have live:∀ b,(S.mapped i).live b->S.live b:=by
  rintro b ⟨x,hx⟩
  have hx':(S.blks.map (fun b=>b.map (Blk.renD i S.n)))[b]? = some (some x):=hx
  rw [List.getElem?_map] at hx'
  cases hb:S.blks[b]? with
  | none=>rw [hb] at hx'; cases hx'
  | some y=>cases y with
   | none=>rw [hb] at hx'; simp at hx'
   | some y=>exact ⟨y,hb⟩
 have hlen:(S.mapped i).blks.length=S.blks.length:=by show (S.blks.map _).length=_; rw [List.length_map]
 exact {
  len:=k3.len,wf:=k3.wf,mem:=k3.mem,base:=k3.base
  fix:=by rw [hlen]; exact k3.fix
  vars:=k3.vars
  blks:=by
   intro b x hx
   have hx':(S.blks.map (fun b=>b.map (Blk.renD i S.n)))[b]? = some (some x):=hx
   rw [List.getElem?_map] at hx'
   cases hb:S.blks[b]? with
   | none=>rw [hb] at hx'; cases hx'
   | some y=>cases y with
    | none=>rw [hb] at hx'; simp at hx'
    | some y =>
     rw [hb] at hx'
     simp only [Option.map_some,oI] at hx'
     subst hx'
     obtain ⟨p1,p2⟩:=k3.blks b y hb
     rw [hlen]
     exact ⟨qO4 hN p1,qO5 e p2⟩
  sepLG:=fun b hb=>k3.sepLG b (live b hb)
  sepFG:=k3.sepFG
  sepL:=fun a b ha hb=>k3.sepL a b (live a ha) (live b hb)
  sepF:=k3.sepF
  sepX:=fun b j hb=>k3.sepX b j (live b hb)
  sz:=k3.sz,rd:=k3.rd
  slots:=by
   intro tt y hy
   have hy':(S.slots.map (SV.renD i S.n)).get tt=some y:=hy
   rw [Go.Am.T.get_map] at hy'
   simp only [Option.map_eq_some_iff] at hy'
   obtain ⟨y0,hy0,rfl⟩:=hy'
   obtain ⟨p1,p2⟩:=k3.slots tt y0 hy0
   rw [hlen]
   exact ⟨d8 hN p1,by rw [lH e]; exact p2⟩
  sav:=by
   intro j l hl tt y hy
   have hl':(S.sav.map (fun l=>l.map (fun (t,x)=>(t,SV.renD i S.n x))))[j]? = some l:=hl
   rw [List.getElem?_map] at hl'
   cases hs:S.sav[j]? with
   | none=>rw [hs] at hl'; cases hl'
   | some l0 =>
    rw [hs] at hl'
    simp only [Option.map_some,oI] at hl'
    subst hl'
    obtain ⟨⟨t0,x0⟩,hm,he⟩:=List.mem_map.1 hy
    cases he
    obtain ⟨p1,f,p2,p3⟩:=k3.sav j l0 hs t0 x0 hm
    rw [hlen]
    exact ⟨d8 hN p1,f,p2,by rw [lH e]; exact p3⟩
  keep:=k3.keep,gk:=k3.gk,low:=k3.low,tab:=k3.tab }
theorem fW {α:Type} (f:MapEntry->α):∀ {es:List MapEntry} {i:Nat} {k v:Value} {e:MapEntry},es[i]? = some e->(modify es i k v).map f=(es.map f).set i (f { e with key:=k,val:=v })
 | [],i,k,v,e,h=>by simp at h
 | x::es,0,k,v,e,h=>by
  simp only [List.getElem?_cons_zero,oI] at h
  subst h; rfl
 | x::es,i+1,k,v,e,h=>by
  simp only [modify,List.map_cons,List.set_cons_succ]
  rw [fW f (by simpa using h)]
theorem DRs.set {g:zG}:∀ {ds:List D} {vs:List Value},DRs g ds vs->∀ (i:Nat) {d:D} {v:Value},DR g d v->DRs g (ds.set i d) (vs.set i v)
 | _,_,.nil,_,_,_,_=>.nil
 | _,_,.cons _ hs,0,_,_,h=>.cons h hs
 | _,_,.cons h hs,i+1,_,_,h'=>.cons h (DRs.set hs i h')
theorem DRs.erase {g:zG}:∀ {ds:List D} {vs:List Value},DRs g ds vs->∀ (i:Nat),DRs g (ds.eraseIdx i) (vs.eraseIdx i)
 | _,_,.nil,_=>.nil
 | _,_,.cons _ hs,0=>hs
 | _,_,.cons h hs,i+1=>.cons h (DRs.erase hs i)
theorem qPf (h:SR E n0 H0 g0 S ρ ve lb g fr H) {i:Nat} (hf:S.freshV i=true) {ks:List Value} {ds:List D} (hd:getD ρ i=.mp ks ds) :
  ∃ of B es ck rt,S.sts[i]? = some ⟨.fresh,of⟩/\OwnM g H.blocks.get n0 (getD ρ i) (ve i) B es ck rt ks ds:=by
 obtain ⟨of,hst⟩:=zO.1 hf
 rcases (h.vars i _ hst).2 with q | ⟨B,l,cs,vs,el,rt,sz,es,q⟩ | ⟨B,es,ck,rt,ks',ds',q⟩
 ·rcases q.sl with q | ⟨_,_,q⟩ <;> (rw [hd] at q; cases q)
 ·have:=q.d; rw [hd] at this; cases this
 have e:=q.d; rw [hd] at e; cases e
 exact ⟨of,B,es,ck,rt,hst,q⟩
theorem qPk (h:SR E n0 H0 g0 S ρ ve lb g fr H) {t:TypeId} {m k x:Operand} (ho:o.op=.mapUpdate t m k x) (hw:wp E HS Q (vZ E o S κ) ρ):jS true E HS Q n0 H0 g0 fr H o κ:=by
 unfold vZ at hw
 rw [ho] at hw
 simp only at hw
 split at hw
 case h_2=>cases hw
 rename_i i z y hm hz hy
 obtain ⟨mb,me⟩:=zM (E:=E) h hm
 obtain ⟨zb,ze⟩:=zM (E:=E) h hz
 obtain ⟨yb,ye⟩:=zM (E:=E) h hy
 unfold qWF at hw
 simp only at hw
 obtain ⟨g1,e1,q⟩:=nA y h
 generalize o9 S y=T at hw e1 q
 obtain ⟨hc,hw2⟩:=jB hw
 simp only [aE] at hc
 obtain ⟨⟨c1,c2⟩,c3⟩:=hc
 simp only [wp] at hw2
 split at hw2
 case h_2=>cases hw2
 rename_i d hd
 simp only [SV.ds,qJm] at hd
 have yr:=jP q.toSM c1
 have zr:=zJ q.toSM c2
 unfold qIY at hd
 split at hd
 case h_2=>cases hd
 rename_i kd ag zz ks ds kv hmt hks hkv
 obtain ⟨kt,et,sz,b,z0,ag0,ti,m1,m2,m3,m4,m5,m6⟩:=qFJ hmt
 rw [hkv] at zr
 obtain ⟨rzv,rzl⟩:=(zr.dr rfl).leaf_inv
 have hks':getD ρ i=.mp ks ds:=hks
 obtain ⟨of,B,es,ck,rt,hst,qo⟩:=qPf q c3 hks'
 have hbd:∀ {n m:Nat},(SV.tup []).bd n m:=trivial
 have fin:∀ {es':List MapEntry} {wU:Nat} {ks':List Value} {ds':List D},d=.mp ks' ds'->es'.map (·.key)=ks'->DRs g1 ds' (es'.map (·.val))->oU E H t (ve i) kv (y.val ve lb)=some (H.write B ⟨.map es ck,rt,true⟩ (.map es' wU))->jS true E HS Q n0 H0 g0 fr H o κ:=by
  intro es' wU ks' ds' hd' hk' hr' hu
  subst hd'
  refine ⟨.tup [],_,_,_,_,_,_,qKw q hst qo (wU:=wU) hk' hr',trivial,hw2,.of_skip (lR _) ?_,fun e=>by cases e⟩
  unfold jH; rw [ho]
  simp only [SV.val] at me
  rw [rzv] at ze
  simp only [me,ze,ye,hu,Option.map_some]
 have hu0:∀ {r:Option (Option (Nat × Value))},qW E.prog (do Instr.checkKey false 10000 kt kv; Instr.findKey kt kv es)=r->oU E H t (ve i) kv (y.val ve lb)=(match r with
   | some (some (i,_))=>match es[i]? with
    | some e=>bif Instr.sameBits 10000 e.key kv then some (H.write B ⟨.map es ck,rt,true⟩ (.map (modify es i kv (y.val ve lb)) ck)) else none
    | none=>none
   | some none=>some (H.write B ⟨.map es ck,rt,true⟩ (.map (es++[{ key:=kv,val:=y.val ve lb,born:=ck }]) (ck+1)))
   | none=>none):=by
  intro r hr
  subst hr
  unfold oU
  rw [m1,qo.v]
  simp only [qo.b,oM rzl,cond_true]
  rfl
 split at hd
 ·rename_i j hj
  rw [← qo.k] at hj
  obtain ⟨r',f1,f2,f3⟩:=bI m2 m3 (oM rzl) hj false
  simp only [oI] at hd
  cases r' with
  | none=>cases f2
  | some p =>
   obtain ⟨j',v⟩:=p
   cases f2
   obtain ⟨e,e1,e2,e3,e4⟩:=f3 j' v rfl
   refine fin (es':=modify es j' kv (y.val ve lb)) (wU:=ck) hd.symm ?_ ?_ ?_
   ·rw [fW (·.key) e1,qo.k]
   ·rw [fW (·.val) e1]
    exact qo.r.set j' yr
   rw [hu0 f1]
   simp only [e1,e4,cond_true]
 ·rename_i hj
  rw [← qo.k] at hj
  obtain ⟨r',f1,f2,f3⟩:=bI m2 m3 (oM rzl) hj false
  simp only [oI] at hd
  cases r' with
  | some p=>cases f2
  | none =>
   refine fin (es':=es++[{ key:=kv,val:=y.val ve lb,born:=ck }]) (wU:=ck+1) hd.symm ?_ ?_ ?_
   ·rw [List.map_append,qo.k]; rfl
   ·rw [List.map_append]
    exact qo.r.append (.cons yr .nil)
   rw [hu0 f1]
 cases hd
theorem qPn (h:SR E n0 H0 g0 S ρ ve lb g fr H) {t:TypeId} {ts:List TypeId} {i:Nat} {z:SV} {c:Call} (ho:o.op=.call c) (hcal:c.callee=.builtin .delete) (hargs:rJ E fr c.args.toList=some [(SV.v i).val ve lb,z.val ve lb]) (hts:c.argTypes.toList=t::ts)
  (hw:wp E HS Q (qUz t i z S κ) ρ):jS true E HS Q n0 H0 g0 fr H o κ:=by unfold qUz at hw; cases hw
theorem qPQ {F:ByteArray->Nat->Value} {a b d:D} (h:qOq F a b=some d):∃ s n,a=.leaf (.string s)/\b=.leaf (.int .i64 (.ofNat n))/\d=.leaf (F s n):=by
 unfold qOq at h
 split at h
 ·cases h; exact ⟨_,_,rfl,rfl,rfl⟩
 cases h
theorem qMC (h:SR E n0 H0 g0 S ρ ve lb g fr H) {t:TypeId} {x:Operand} (ho:o.op=.range t x) (hw:wp E HS Q (vZ E o S κ) ρ):jS wm E HS Q n0 H0 g0 fr H o κ:=by
 unfold vZ at hw
 rw [ho] at hw
 simp only at hw
 split at hw
 case h_2=>cases hw
 rename_i y sz bt z ag hy ht
 obtain ⟨yb,ye⟩:=zM (E:=E) h hy
 obtain ⟨d,h1,h2,h3⟩:=zX hw
 have ry:=zJ h.toSM (h1 y (by simp))
 simp only [SV.ds,qHY] at h2
 generalize hyd:y.d (getD ρ)=yd at h2 ry
 match yd,h2,ry with
 | .leaf (.string s),h2,ry =>
  simp only [oI] at h2
  subst h2
  have hyv:=(ry.dr rfl).leaf_inv.1
  have k1:=h.new (k:=.pure) (o:=true) (d:=.leaf (goInt s.size)) (v:=goInt s.size) (by simp) ⟨fun _=>rfl,.leaf rfl⟩
  have hyb:y.bd (S.new .pure true).n (S.new .pure true).blks.length:=SV.bd_mono (by rw [xY]; omega) (lR _) yb
  have hyv1:y.val (bX ve S.n (goInt s.size)) lb=.string s:=by rw [SV.val_congr (fun i hi=>fJ hi) (fun _ _=>rfl) yb]; exact hyv
  have k2:=k1.allocO (o:=.siter s 0) (x:=.tcells 0 [y,.c (.int .i64 0)]) ⟨hyb,trivial,trivial⟩ (fun bs q1 q2=>⟨_,s,0,q1,q2,by simp only [jK,SV.vals,hyv1]; rfl⟩)
  refine ⟨_,_,_,_,_,_,_,k2,qHy _,h3,.of_val (Nat.le_succ _) ?_,fun _=>rB⟩
  unfold jH; rw [ho]
  rw [hyv] at ye
  simp only [ye,ht,SV.val,qCH,if_true]
theorem qPj (h:SR E n0 H0 g0 S ρ ve lb g fr H) {it:Operand} (ho:o.op=.next it true) (hw:wp E HS Q (vZ E o S κ) ρ):jS true E HS Q n0 H0 g0 fr H o κ:=by
 unfold vZ at hw
 rw [ho] at hw
 simp only at hw
 split at hw
 case h_2=>cases hw
 rename_i b hit
 obtain ⟨ib,ie⟩:=zM (E:=E) h hit
 split at hw
 case h_2=>cases hw
 rename_i y p hbl
 obtain ⟨hbd,rt,st,n,q1,q2,q3⟩:=h.blks b _ hbl
 simp only [jK,SV.vals,List.cons.injEq,and_true] at q3
 obtain ⟨q3,q4⟩:=q3
 obtain ⟨yb,pb,_⟩:y.bd S.n S.blks.length/\p.bd S.n S.blks.length/\True:=hbd
 obtain ⟨d,h1,h2,h3⟩:=zX hw
 have ry:=zJ h.toSM (h1 y (by simp))
 have rp:=zJ h.toSM (h1 p (by simp))
 simp only [SV.ds,qNF] at h2
 obtain ⟨s,m,e1,e2,rfl⟩:=qPQ h2
 rw [e1] at ry; rw [e2] at rp
 have v1:=(ry.dr rfl).leaf_inv.1
 have v2:=(rp.dr rfl).leaf_inv.1
 rw [v1] at q3; rw [v2] at q4
 cases q3
 have hmn:n=m:=by
  have:(n:Int)=(m:Int):=by
   have:=q4
   simp only [goInt,Value.int.injEq,true_and] at this
   exact this
  omega
 subst hmn
 have k1:=h.new (k:=.pure) (o:=true) (d:=.leaf (.bool (Nat.ble (n+1) st.size))) (v:=.bool (Nat.ble (n+1) st.size)) (by simp) ⟨fun _=>rfl,.leaf rfl⟩
 have x1:ExtS S ρ ve g (S.new .pure true) (ρ++[.leaf (.bool (Nat.ble (n+1) st.size))]) (bX ve S.n (.bool (Nat.ble (n+1) st.size))) g:=wH h.len
 have g0':getD (ρ++[D.leaf (.bool (Nat.ble (n+1) st.size))]) S.n=.leaf (.bool (Nat.ble (n+1) st.size)):=by have:=@aV ρ (.leaf (.bool (Nat.ble (n+1) st.size))); rw [h.len] at this; exact this
 simp only [wp,SV.d,g0'] at h3
 have ha:jH E fr o H=qAc H (.pointer (some ⟨lb b,0,none⟩)) true:=by
  unfold jH; rw [ho]
  simp only [SV.val] at ie
  simp only [ie]
 cases hb:Nat.ble (n+1) st.size with
 | false =>
  rw [hb] at h3 k1
  simp only at h3
  refine ⟨.tup [.c (.bool false)],_,_,_,_,_,_,k1,(show True/\True from ⟨trivial,trivial⟩),h3,.of_val (lR _) ?_,fun e=>by cases e⟩
  rw [ha]
  simp only [qAc,q1,hb,cond_false,SV.val,SV.vals]
 | true =>
  rw [hb] at h3 k1 x1
  simp only at h3
  obtain ⟨d2,p1,p2,p3⟩:=zX h3
  simp only [SV.ds,qNH,x1.d yb,x1.d pb,e1,e2,qOq,oI] at p2
  subst p2
  have k2:=k1.new (k:=.pure) (o:=true) (d:=.leaf (.int .i32 (Utf8.decode st n).1)) (v:=.int .i32 (Utf8.decode st n).1) (by simp) ⟨fun _=>rfl,.leaf rfl⟩
  have x2:=x1.trans (wH (k:=.pure) (o:=true) (d:=.leaf (.int .i32 (Utf8.decode st n).1)) (v:=.int .i32 (Utf8.decode st n).1) (ve:=bX ve S.n (.bool true)) (g:=g) k1.len)
  obtain ⟨d3,p4,p5,p6⟩:=zX p3
  simp only [SV.ds,qNG,x2.d yb,x2.d pb,e1,e2,qOq,oI] at p5
  subst p5
  have k3:=k2.new (k:=.pure) (o:=true) (d:=.leaf (goInt ((n+(Utf8.decode st n).2:Nat):Int))) (v:=goInt ((n+(Utf8.decode st n).2:Nat):Int)) (by simp) ⟨fun _=>rfl,.leaf rfl⟩
  have x3:=x2.trans (wH (k:=.pure) (o:=true) (d:=.leaf (goInt ((n+(Utf8.decode st n).2:Nat):Int))) (v:=goInt ((n+(Utf8.decode st n).2:Nat):Int)) (ve:=bX (bX ve S.n (.bool true)) (S.new .pure true).n (.int .i32 (Utf8.decode st n).1)) (g:=g) k2.len)
  generalize hS3:((S.new .pure true).new .pure true).new .pure true=S3 at p6 k3 x3
  have hbl3:S3.blks[b]? = some (some (.tcells 0 [y,p])):=by rw [← hS3]; exact hbl
  have hn3:S3.n=S.n+3:=by rw [← hS3,xY,xY,xY]
  have k4:=k3.storeO (x:=.tcells 0 [y,.v ((S.new .pure true).new .pure true).n]) (o:=.siter st (n+(Utf8.decode st n).2)) hbl3 q1 ⟨x3.bd yb,by show _ < S3.n; rw [hn3,xY,xY]; omega,trivial⟩
   (fun bs r1 r2=>⟨rt,st,_,r1,r2,by simp only [jK,SV.vals,x3.val yb,v1,SV.val,jC]⟩)
  refine ⟨.tup [.c (.bool true),p,.v (S.new .pure true).n],_,_,_,_,_,_,k4,⟨trivial,?_,?_,trivial⟩,p6,.of_val (lR _) ?_,fun e=>by cases e⟩
  ·have:=x3.bd pb
   simpa [St.setBlk,St.n] using this
  ·show (S.new .pure true).n < S3.n
   rw [hn3,xY]; omega
  rw [ha]
  have hp3:=x3.val (lb:=lb) pb
  have hc3:(SV.v (S.new .pure true).n).val (bX (bX (bX ve S.n (.bool true)) (S.new .pure true).n (.int .i32 (Utf8.decode st n).1)) ((S.new .pure true).new .pure true).n (goInt ((n+(Utf8.decode st n).2:Nat):Int))) lb=.int .i32 (Utf8.decode st n).1:=by
   simp only [SV.val]
   rw [fJ (by simp only [xY]; omega),jC]
  simp only [qAc,q1,hb,cond_true]
  simp only [SV.val,SV.vals,hp3,v2] at hc3 ⊢
  rw [hc3]
  rfl
end
end Go.Am
namespace Go.Am
open Go
section
variable {E:Env} {n0:Lim} {H0:AH} {g0:zG} {S:St} {ρ:List D} {ve:Nat->Value} {lb:Nat->Nat} {g:zG} {fr:Fr} {H:AH} {HS:FuncId->List D->D->Prop} {Q:Res1->Prop} {o:Oper} {κ:K1} {wm:Bool}
theorem qLz {g:zG}:∀ l:List UInt8,DRs g ((l.map fun b=>D.leaf (.int .u8 b.toNat)).flatMap D.cells) (l.map fun x=>Value.int .u8 x.toNat)
 | []=>.nil
 | b::l=>.cons (.leaf rfl) (qLz l)
theorem qMG (h:SR E n0 H0 g0 S ρ ve lb g fr H) {s d:TypeId} {x:Operand} {el:TypeId} (ho:o.op=.convert s d x) (hbi:eM E s d=some el) (hw:wp E HS Q (vZ E o S κ) ρ):jS wm E HS Q n0 H0 g0 fr H o κ:=by
 unfold vZ at hw
 rw [ho] at hw
 simp only [hbi] at hw
 split at hw
 case h_2=>cases hw
 rename_i y hy
 obtain ⟨hb,he⟩:=zM (E:=E) h hy
 obtain ⟨hr,hw⟩:=jB hw
 have hr:=zJ h.toSM hr
 simp only [wp] at hw
 split at hw
 case h_2=>cases hw
 rename_i dd hd
 simp only [SV.ds,qGp] at hd
 split at hd
 case h_2=>cases hd
 rename_i str hdd
 rw [hdd] at hr
 have hyv:=(hr.dr rfl).leaf_inv.1
 cases hc:Nat.ble str.data.toList.length 1000000000 with
 | false=>rw [hc] at hd; cases hd
 | true =>
  rw [hc] at hd
  simp only [cond_true,oI] at hd
  subst hd
  have hlen:=lB hc
  unfold eM at hbi
  split at hbi
  case h_2=>cases hbi
  rename_i sz1 bt1 z1 ag1 jA hs hel
  obtain ⟨sz0,bt0,z0,ag0,ht⟩:=k9 hel
  split at hbi
  case h_2=>cases hbi
  rename_i b1 b2 b3 b4 hte
  cases hsz:Nat.beq b1 1 with
  | false=>rw [hsz] at hbi; cases hbi
  | true =>
   rw [hsz] at hbi
   simp only [cond_true,oI] at hbi
   subst hbi
   obtain ⟨l,hl0⟩:∃ l,str.data.toList=l:=⟨_,rfl⟩
   rw [hl0] at hc hlen hw
   have h3:=h.heap (H':=H.new (.cells (l.map fun x=>.int .u8 x.toNat) jA)) bC (h.wf.new _) (Nat.le_succ _) h.low
   have hl:(l.map fun b=>D.leaf (.int .u8 b.toNat)).length=l.length:=by simp
   have hown:=qAG (el:=jA) (sz:=1) h.toSM (qLz (g:=g) l) (by rw [List.all_eq_true]; intro v hv; obtain ⟨b,_,rfl⟩:=List.mem_map.1 hv; rfl) (fun e he=>by obtain ⟨b,_,rfl⟩:=List.mem_map.1 he; rfl) (by rw [hl]; unfold z8; omega)
   rw [hl] at hown
   have hB:∀ B,jQ (.slice (some ⟨H.next,0,none⟩) l.length z8)=some B->B=H.next:=fun B hB=>by
    simp only [jQ,lR,if_true,oI] at hB; exact hB.symm
   have h4:=h3.newFresh hown rfl (fun B q=>by rw [hB B q]; exact f8 h.toSM) (fun B c q hc=>by have:=(xZ h.toSM hc).1; rw [hB B q]; omega)
    (fun B i q hi hoi=>by have:=(pM h.toSM hi hoi).1; rw [hB B q] at this; omega)
   refine ⟨_,_,_,_,_,_,_,h4,pO,hw,.of_val (Nat.le_succ _) ?_,fun _=>rB⟩
   unfold jH; rw [ho]
   have hsz:=jF hsz
   subst hsz
   have hb1:Nat.beq 1 1=true:=rfl
   simp only [he,hyv,hs,ht,nI,hte,hl0,hc,hb1,Bool.and_self,cond_true,SV.val,jC]
end
end Go.Am
namespace Go.Am
open Go
theorem qFh {a b:Value} (h:qII a b=true):a=b:=by
 unfold qII at h
 split at h
 ·simp only [beq_iff_eq] at h; rw [h]
 ·simp only [aE,decide_eq_true_eq] at h; rw [h.1,h.2]
 ·simp only [decide_eq_true_eq] at h; rw [h]
 ·rfl
 ·rfl
 ·rfl
 ·rfl
 cases h
section
variable {ve:Nat->Value} {lb:Nat->Nat} {ρ:Nat->D}
mutual
theorem qBg:∀ {x y:SV},uV x y=true->x=y
 | .v i,.v j,h=>by rw [jF h]
 | .c x,.c y,h=>by rw [qFh h]
 | .loc b o,.loc b' o',h=>by
  simp only [uV,aE] at h
  rw [jF h.1,jF h.2]
 | .pp i o,.pp j o',h=>by
  simp only [uV,aE] at h
  rw [jF h.1,jF h.2]
 | .agg cs,.agg cs',h=>by rw [lG (xs:=cs) (ys:=cs') h]
 | .tup cs,.tup cs',h=>by rw [lG (xs:=cs) (ys:=cs') h]
 | .fn (.func f) a b,.fn (.func f') a' b',h=>by
  simp only [uV,aE] at h
  rw [jF h.1.1,lG h.1.2,lG h.2]
 | .ifc t x,.ifc t' y,h=>by
  simp only [uV,aE] at h
  rw [jF h.1,qBg h.2]
theorem lG:∀ {xs ys:List SV},fM xs ys=true->xs=ys
 | [],[],_=>rfl
 | x::xs,y::ys,h=>by
  simp only [fM,aE] at h
  rw [qBg h.1,lG h.2]
end
def pG (ve:Nat->Value) (lb:Nat->Nat) (as:List SV):Nat->Value:=fun i=>match as[i]? with
 | some x=>x.val ve lb
 | none=>.bool false
def uK (ρ:Nat->D) (as:List SV):Nat->D:=fun i=>match as[i]? with
 | some x=>x.d ρ
 | none=>.nil
theorem qLb (ρ:Nat->D) (as:List SV):getD (SV.ds ρ as)=uK ρ as:=by
 funext i
 simp only [getD,uK,SV.ds_map]
 cases h:as[i]? with
 | none=>simp [h]
 | some x=>simp [h]
mutual
theorem gT {as:List SV}:∀ {x y:SV},fits as x y=true->x.val (pG ve lb as) lb=y.val ve lb/\x.d (uK ρ as)=y.d ρ
 | .v i,y,h=>by
  simp only [fits] at h
  split at h
  ·rename_i x hx
   have:=qBg h
   subst this
   simp only [SV.val,SV.d,pG,uK,hx,and_self]
  cases h
 | .c x,.c y,h=>by
  have:=qFh h
  subst this
  exact ⟨rfl,rfl⟩
 | .loc b o,.loc b' o',h=>by
  simp only [fits,aE] at h
  rw [jF h.1,jF h.2]
  exact ⟨rfl,rfl⟩
 | .pp i o,.pp j o',h=>by
  simp only [fits,aE] at h
  have h1:=jF h.1
  have h2:=h.2
  split at h2
  ·rename_i k hk
   have:=jF h2
   subst this h1
   simp only [SV.val,SV.d,pG,uK,hk,and_self]
  cases h2
 | .agg cs,.agg cs',h=>by
  obtain ⟨h1,h2⟩:=pE (xs:=cs) (ys:=cs') h
  simp only [SV.val,SV.d,h1,h2,and_self]
 | .tup cs,.tup cs',h=>by
  obtain ⟨h1,h2⟩:=pE (xs:=cs) (ys:=cs') h
  simp only [SV.val,SV.d,h1,h2,and_self]
 | .fn (.func f) a b,.fn (.func f') a' b',h=>by
  simp only [fits,aE] at h
  obtain ⟨h1,h2⟩:=pE h.1.2
  obtain ⟨h3,h4⟩:=pE h.2
  have:=jF h.1.1
  subst this
  simp only [SV.val,SV.d,h1,h2,h3,h4,and_self]
 | .yld b,.yld b',h=>by
  have:=jF h
  subst this
  exact ⟨rfl,rfl⟩
 | .ifc t x,.ifc t' y,h=>by
  simp only [fits,aE] at h
  obtain ⟨h1,h2⟩:=gT h.2
  have:=jF h.1
  subst this
  simp only [SV.val,SV.d,h1,h2,and_self]
theorem pE {as:List SV}:∀ {xs ys:List SV},aY as xs ys=true->SV.vals (pG ve lb as) lb xs=SV.vals ve lb ys/\SV.ds (uK ρ as) xs=SV.ds ρ ys
 | [],[],_=>⟨rfl,rfl⟩
 | x::xs,y::ys,h=>by
  simp only [aY,aE] at h
  obtain ⟨h1,h2⟩:=gT (x:=x) (y:=y) h.1
  obtain ⟨h3,h4⟩:=pE h.2
  simp only [SV.vals,SV.ds,h1,h2,h3,h4,and_self]
end
mutual
theorem bT {n m:Nat}:∀ {x:SV},qLo n m x=true->x.bd n m
 | .v i,h=>lB h
 | .c _,_=>trivial
 | .loc b _,h=>lB h
 | .ptr s i _ _,h=>by
  simp only [qLo,aE] at h
  exact ⟨bT h.1,bT h.2⟩
 | .pp i _,h=>lB h
 | .agg cs,h=>bR (xs:=cs) h
 | .tup cs,h=>bR (xs:=cs) h
 | .fn _ a b,h=>by
  simp only [qLo,aE] at h
  exact ⟨bR h.1,bR h.2⟩
 | .ifc _ x,h=>bT (x:=x) h
 | .yld b,h=>lB h
theorem bR {n m:Nat}:∀ {xs:List SV},qES n m xs=true->SV.bds n m xs
 | [],_=>trivial
 | x::xs,h=>by
  simp only [qES,aE] at h
  exact ⟨bT h.1,bR h.2⟩
end
theorem qBV:∀ (l:List (Nat × SV)) (t0:T SV) {t:Nat} {x:SV},(l.foldl (fun t (p:Nat × SV)=>t.put p.1 (some p.2)) t0).get t=some x->(t,x)∈l∨t0.get t=some x
 | [],_,_,_,h=>.inr h
 | (k,y)::l,t0,t,x,h=>by
  rcases qBV l (t0.put k (some y)) h with h1 | h1
  ·exact .inl (mC _ h1)
  rw [T.get_put] at h1
  split at h1
  ·rename_i e; cases h1; subst e; exact .inl List.mem_cons_self
  exact .inr h1
theorem qF1:∀ {l:List (Nat × SV)} {t:Nat} {x:SV},qNm t l=some x->(t,x)∈l
 | [],_,_,h=>by cases h
 | (u,y)::l,t,x,h=>by
  simp only [qNm,zC] at h
  split at h
  ·rename_i e; cases h; subst e; exact List.mem_cons_self
  exact mC _ (qF1 h)
theorem qDD {n m:Nat} {as:List SV}:∀ {ps ss:List (List (Nat × SV))} {j:Nat} {l:List (Nat × SV)} {t:Nat} {x:SV},qB2 n m as ps ss=true->ps[j]? = some l->(t,x)∈l ->
  x.bd n m/\∃ l' y,ss[j]? = some l'/\(t,y)∈l'/\fits as x y=true
 | [],_,_,_,_,_,_,h,_=>by simp at h
 | l0::ps,[],_,_,_,_,h,_,_=>by cases h
 | l0::ps,s0::ss,0,l,t,x,h,hl,hx=>by
  simp only [qB2,aE,List.all_eq_true] at h
  simp at hl
  subst hl
  have h1:=h.1 _ hx
  obtain ⟨h2,h3⟩:=h1
  split at h3
  ·rename_i y hy
   exact ⟨bT h2,s0,y,rfl,qF1 hy,h3⟩
  cases h3
 | l0::ps,s0::ss,j+1,l,t,x,h,hl,hx=>by
  simp only [qB2,aE] at h
  simpa using qDD (j:=j) h.2 (by simpa using hl) hx
theorem nD {as:List SV}:∀ {bs cs:List (Option Blk)} {b:Nat} {x:Blk},aZ as bs cs=true->bs[b]? = some (some x)->∃ y,cs[b]? = some y/\tU as (some x) y=true
 | [],_,_,_,_,h=>by simp at h
 | x0::bs,[],_,_,h,_=>by cases h
 | x0::bs,y0::cs,0,x,h,hb=>by
  simp only [aZ,aE] at h
  simp at hb
  subst hb
  exact ⟨y0,rfl,h.1⟩
 | x0::bs,y0::cs,b+1,x,h,hb=>by
  simp only [aZ,aE] at h
  simpa using nD h.2 (by simpa using hb)
theorem lD {S:St}:∀ {sts:List VSt} {as:List SV} {i:Nat} {s:VSt},fL S sts as=true->sts[i]? = some s->∃ x,as[i]? = some x/\(s.one=true->eR S x=true)/\(match s.k with
   | .pure=>xX S x=true
   | .full=>∃ j o,x=.v j/\S.sts[j]? = some ⟨.full,o⟩
   | .ptr=>∃ j,x=.v j/\S.isPtr j=true
   | .fresh=>tQ S x=true
   | .dead=>s.one=false)
 | [],_,_,_,_,h=>by simp at h
 | ⟨k,o⟩::sts,[],_,_,h,_=>by cases h
 | ⟨k,o⟩::sts,a::as,0,s,h,hs=>by
  simp only [fL,aE] at h
  simp at hs
  subst hs
  refine ⟨a,rfl,fun e=>?_,?_⟩
  ·have:=h.1.2
   simp only at e
   rw [e] at this
   simpa using this
  have h1:=h.1.1
  cases k <;> simp only at h1 ⊢
  ·exact h1
  ·split at h1
   ·split at h1
    ·rename_i o' hh; exact ⟨_,o',rfl,hh⟩
    cases h1
   cases h1
  ·exact h1
  ·simpa using h1
  split at h1
  ·exact ⟨_,rfl,h1⟩
  cases h1
 | ⟨k,o⟩::sts,a::as,i+1,s,h,hs=>by
  simp only [fL,aE] at h
  simpa using lD h.2 (by simpa using hs)
theorem hD {S:St} {x:SV} (h:tQ S x=true):(x=.c (.slice none 0 0)∨∃ j o,x=.v j/\S.sts[j]? = some ⟨.full,o⟩)∨∃ j,x=.v j/\S.freshV j=true:=by
 unfold tQ at h
 split at h
 ·exact .inl (.inl rfl)
 ·rename_i j
  simp only [Bool.or_eq_true] at h
  rcases h with h | h
  ·exact .inr ⟨_,rfl,h⟩
  unfold St.fullV at h
  split at h
  ·rename_i o hh; exact .inl (.inr ⟨j,o,rfl,hh⟩)
  cases h
 cases h
theorem qBa {S:St}:∀ {sts:List VSt} {as:List SV},fL S sts as=true->as.length=sts.length
 | [],[],_=>rfl
 | [],_::_,h=>by cases h
 | ⟨k,o⟩::sts,[],h=>by cases h
 | ⟨k,o⟩::sts,a::as,h=>by
  simp only [fL,aE] at h
  simp [qBa h.2]
end
section
variable {E:Env} {n0:Lim} {H0:AH} {g0:zG} {S:St} {ρ:List D} {ve:Nat->Value} {lb:Nat->Nat} {g:zG} {fr:Fr} {H:AH} {Q:Res1->Prop} {HS:FuncId->List D->D->Prop}
theorem qJz {S1 : St} {g1 : zG} (h1 : SR E n0 H0 g0 S1 ρ ve lb g1 fr H) {p : Pat} {sz : Nat} {as : List SV} (hc : cE sz p as S1 = true) (hF : n0.F.length <= p.blks.length) :
    SR E n0 H0 g0 (p.st sz) (SV.ds (getD ρ) as) (pG ve lb as) lb g1 fr H := by
  unfold cE at hc
  simp only [aE] at hc
  obtain ⟨⟨⟨⟨⟨⟨c1, c2⟩, c3⟩, c4⟩, c5⟩, c6⟩, c7⟩ := hc
  have c1 := jF c1
  rw [List.all_eq_true] at c2 c3
  have hlen := qBa c5
  have hρ : getD (SV.ds (getD ρ) as) = uK (getD ρ) as := qLb _ _
  have var : ∀ i s, p.sts[i]? = some s -> ∃ x, as[i]? = some x /\ pG ve lb as i = x.val ve lb /\ uK (getD ρ) as i = x.d (getD ρ) := by
    intro i s hs
    obtain ⟨x, hx, _⟩ := lD c5 hs
    exact ⟨x, hx, by simp only [pG, hx], by simp only [uK, hx]⟩
  have fresh : ∀ i B, (p.st sz).freshV i = true -> jQ (pG ve lb as i) = some B -> ∃ j, as[i]? = some (.v j) /\ S1.freshV j = true /\ jQ (ve j) = some B := by
    intro i B hi hB
    obtain ⟨o, hs⟩ := zO.1 hi
    obtain ⟨x, hx, _, hk⟩ := lD c5 hs
    simp only at hk
    simp only [pG, hx] at hB
    rcases hD hk with (rfl | ⟨j, o', rfl, hj⟩) | ⟨j, rfl, hj⟩
    · simp [SV.val, jQ] at hB
    · have hB : jQ (ve j) = some B := hB
      rw [qEV.own (h1.vars j _ hj).2] at hB; cases hB
    · exact ⟨j, hx, hj, hB⟩
  have live : ∀ b, (p.st sz).live b -> S1.live b := by
    intro b ⟨x, hx⟩
    obtain ⟨y, hy, hf⟩ := nD c4 hx
    cases y with
    | none => cases x <;> cases hf
    | some y => exact ⟨y, hy⟩
  refine { len := ?_, wf := h1.wf, mem := h1.mem, base := h1.base, fix := ⟨hF, h1.fix.2⟩, vars := ?_, blks := ?_, sepLG := fun b hb => h1.sepLG b (live b hb), sepFG := ?_, sepL := fun a b ha hb => h1.sepL a b (live a ha) (live b hb), sepF := ?_, sepX := ?_,
           sz := ?_, rd := h1.rd, slots := ?_, sav := ?_, keep := h1.keep, low := h1.low, gk := h1.gk, tab := h1.tab }
  · rw [SV.ds_map, List.length_map, hlen]; rfl
  · intro i s hs
    obtain ⟨x, hx, ho, hk⟩ := lD c5 hs
    rw [hρ]
    have hval : pG ve lb as i = x.val ve lb := by simp only [pG, hx]
    have hdd : uK (getD ρ) as i = x.d (getD ρ) := by simp only [uK, hx]
    rw [hval, hdd]
    obtain ⟨k, o⟩ := s
    have one : DR g1 (x.d (getD ρ)) (x.val ve lb) -> o = true -> (x.d (getD ρ)).one = true := fun hd e => by
      rw [← hd.one]; exact qEp h1.toSM (ho e) hd
    cases k <;> simp only at hk
    · have := jP h1.toSM hk
      exact ⟨one this, this⟩
    · obtain ⟨j, o', rfl, hj⟩ := hk
      have := (h1.vars j _ hj).2
      exact ⟨one this.dr, this⟩
    · rcases hD hk with (rfl | ⟨j, o', rfl, hj⟩) | ⟨j, rfl, hj⟩
      · exact ⟨fun _ => rfl, .inl (.inl ⟨rfl, rfl⟩)⟩
      · exact ⟨fun _ => qEV.one (h1.vars j _ hj).2, .inl (h1.vars j _ hj).2⟩
      · obtain ⟨o', hj'⟩ := zO.1 hj
        exact ⟨fun e => qHr h1.toSM (ho e), (h1.vars j _ hj').2⟩
    · exact ⟨fun e => (by simp only at e hk; rw [hk] at e; cases e), trivial⟩
    · obtain ⟨j, rfl, hj⟩ := hk
      have := qHn h1.toSM hj
      exact ⟨one this.1, this⟩
  · intro b x hx
    obtain ⟨y, hy, hf⟩ := nD c4 hx
    have hbd := c3 _ (List.mem_of_getElem? hx)
    cases y with
    | none => cases x <;> cases hf
    | some y =>
      obtain ⟨q1, q⟩ := h1.blks b y hy
      rw [hρ]
      refine ⟨?_, ?_⟩
      · cases x with
        | cells xs => exact bR hbd
        | whole x n => exact bT hbd
        | loop _ _ => trivial
        | tcells _ xs => exact bR hbd
      · have hfrom : ∀ {z : Blk}, z.isL = false -> y.isL = false -> (∀ cs, jK (getD ρ) ve lb cs y -> jK (uK (getD ρ) as) (pG ve lb as) lb cs z) -> pX n0 (uK (getD ρ) as) (pG ve lb as) lb H.blocks.get (lb b) z := by
          intro z hz hyl ho
          obtain ⟨el, rt, cs, q2, q3, q4⟩ := q.cells hyl
          cases z with
          | loop _ _ => cases hz
          | tcells _ _ => cases hz
          | cells _ => exact ⟨el, rt, cs, q2, q3, ho _ q4⟩
          | whole _ _ => exact ⟨el, rt, cs, q2, q3, ho _ q4⟩
        cases x with
        | loop st pd =>
          cases y with
          | loop st' pd' =>
            simp only [tU, aE] at hf
            rw [jF hf.1, jF hf.2]
            exact q
          | cells _ => cases hf
          | whole _ _ => cases hf
          | tcells _ _ => cases hf
        | cells xs =>
          cases y with
          | cells ys =>
            refine hfrom rfl rfl fun cs q4 => ?_
            simp only [jK] at q4 ⊢
            rw [q4]
            exact (pE (ρ := getD ρ) hf).1.symm
          | whole y m => cases hf
          | loop _ _ => cases hf
          | tcells _ _ => cases hf
        | tcells t xs =>
          cases y with
          | tcells t' ys =>
            simp only [tU, aE] at hf
            have ht := jF hf.1
            subst ht
            cases t with
            | zero =>
              obtain ⟨rt, p0, cs, b1, b2, b3⟩ := q
              refine ⟨rt, p0, cs, b1, b2, ?_⟩
              simp only [jK] at b3 ⊢
              rw [b3]
              exact (pE (ρ := getD ρ) hf.2).1.symm
            | succ t =>
              obtain ⟨rt, p0, cs, b1, b2, b4, b3⟩ := q
              refine ⟨rt, p0, cs, b1, b2, b4, ?_⟩
              simp only [jK] at b3 ⊢
              rw [b3]
              exact (pE (ρ := getD ρ) hf.2).1.symm
          | cells _ => cases hf
          | whole _ _ => cases hf
          | loop _ _ => cases hf
        | whole x n =>
          cases y with
          | loop _ _ => cases hf
          | tcells _ _ => cases hf
          | cells ys =>
            refine hfrom rfl rfl fun cs q4 => ?_
            simp only [tU, aE] at hf
            obtain ⟨f1, f2⟩ := gT (ve := ve) (lb := lb) (ρ := getD ρ) hf.2
            simp only [jK] at q4 ⊢
            rw [f1, f2, q4]
            refine ⟨rfl, SV.ds (getD ρ) ys, rfl, ?_⟩
            rw [SV.ds_map, List.length_map]; exact (jF hf.1).symm
          | whole y m =>
            refine hfrom rfl rfl fun cs q4 => ?_
            simp only [tU, aE] at hf
            obtain ⟨f1, f2⟩ := gT (ve := ve) (lb := lb) (ρ := getD ρ) hf.2
            simp only [jK] at q4 ⊢
            rw [f1, f2, jF hf.1]
            exact q4
  · intro i B hi hB
    obtain ⟨j, _, j2, j3⟩ := fresh i B hi hB
    exact h1.sepFG j B j2 j3
  · intro i i' B hi hi' hB hB'
    obtain ⟨j, j1, j2, j3⟩ := fresh i B hi hB
    obtain ⟨j', k1, k2, k3⟩ := fresh i' B hi' hB'
    have hjj := h1.sepF j j' B j2 k2 j3 k3
    subst hjj
    obtain ⟨o, hs⟩ := zO.1 hi
    obtain ⟨o', hs'⟩ := zO.1 hi'
    have l1 : i < p.sts.length := (gI hs).1
    have l2 : i' < p.sts.length := (gI hs').1
    have hd := c6
    unfold qDJ at hd
    rw [List.all_eq_true] at hd
    have hd1 := hd i (List.mem_range.2 l1)
    rw [List.all_eq_true] at hd1
    have hd2 := hd1 i' (List.mem_range.2 l2)
    have hs2 : p.sts[i]? = some ⟨.fresh, o⟩ := hs
    have hs2' : p.sts[i']? = some ⟨.fresh, o'⟩ := hs'
    simp only [qSR, hs2, hs2', j1, k1, Nat.beq_refl, Bool.not_true, Bool.or_false] at hd2
    exact jF hd2
  · intro b i hb hi hB
    obtain ⟨j, _, j2, j3⟩ := fresh i _ hi hB
    exact h1.sepX b j (live b hb) j2 j3
  · rw [h1.sz]; exact c1
  · intro t x hx
    have hm : (t, x) ∈ p.slots := by
      rcases qBV p.slots .leaf hx with h | h
      · exact h
      · cases h
    have := c2 _ hm
    simp only [aE] at this
    obtain ⟨b1, b2⟩ := this
    split at b2
    · rename_i y hy
      obtain ⟨f1, _⟩ := gT (ve := ve) (lb := lb) (ρ := getD ρ) b2
      refine ⟨bT b1, ?_⟩
      rw [f1]
      exact (h1.slots t y hy).2
    · cases b2
  · intro j l hl t x hx
    obtain ⟨q1, l', y, q2, q3, q4⟩ := qDD c7 hl hx
    obtain ⟨_, f, q5, q6⟩ := h1.sav j l' q2 t y q3
    exact ⟨q1, f, q5, by rw [(gT (ve := ve) (lb := lb) (ρ := getD ρ) q4).1]; exact q6⟩
theorem qFU (h:SR E n0 H0 g0 S ρ ve lb g fr H) {p:Pat} {sz:Nat} {fin:List SV->Tree} (hw:wp E HS Q (qI7 fin sz p S) ρ) (hF:n0.F.length<=p.blks.length) :
  ∃ as ve' g',SR E n0 H0 g0 (p.st sz) (SV.ds (getD ρ) as) ve' lb g' fr H/\wp E HS Q (fin as) ρ:=by
 unfold qI7 at hw
 split at hw
 ·cases hw
 rename_i as has
 simp only at hw
 obtain ⟨g1,e1,h1⟩:=xA (gP p.sts as) h
 obtain ⟨hc,hw⟩:=jB hw
 exact ⟨as,_,g1,qJz h1 hc hF,hw⟩
theorem qAM (h:SR E n0 H0 g0 S ρ ve lb g fr H) {p:Pat} {sz k:Nat} (hw:wp E HS Q (xK sz p k S) ρ) (hF:n0.F.length<=p.blks.length) :
  ∃ ds ve' g',SR E n0 H0 g0 (p.st sz) ds ve' lb g' fr H/\Q (.jump k ds):=by
 obtain ⟨as,ve',g',h1,h2⟩:=qFU h hw hF
 exact ⟨_,ve',g',h1,h2⟩
end
end Go.Am
