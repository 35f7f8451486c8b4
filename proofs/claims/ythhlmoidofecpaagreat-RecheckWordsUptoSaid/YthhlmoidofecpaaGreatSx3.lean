/- Symbolic runs: fields, arithmetic, conversions. Conditions: none. -/
import Derived.Test.YthhlmoidofecpaaGreatSx2
set_option linter.unusedVariables false
set_option linter.unusedSimpArgs false
namespace Go.Am
open Go
mutual
theorem qER {g:zF}:∀ {d:D} {v u:Value},DR g d v->d.toV=some u->v=u
 | .leaf x,v,u,h,hu=>by
  simp only [D.toV,oI] at hu
  rw [h.leaf_inv.1,hu]
 | .agg cs,v,u,h,hu=>by
  simp only [D.toV,Option.map_eq_some_iff] at hu
  obtain ⟨l,h1,rfl⟩:=hu
  cases h with
  | agg h o=>rw [qF5 h h1]
 | .nil,v,u,h,hu=>by
  simp only [D.toV,oI] at hu
  cases h; exact hu
 | .sl _ _ _,_,_,_,hu=>by cases hu
 | .tup _,_,_,_,hu=>by cases hu
 | .ptr _ _,_,_,_,hu=>by cases hu
 | .clo _ _ _,_,_,_,hu=>by cases hu
 | .iface _ _,_,_,_,hu=>by cases hu
theorem qF5 {g:zF}:∀ {ds:List D} {vs us:List Value},DRs g ds vs->D.toVs ds=some us->vs=us
 | [],_,_,.nil,hu=>by simpa [D.toVs] using hu
 | d::ds,_,us,.cons h hs,hu=>by
  simp only [D.toVs] at hu
  split at hu
  ·rename_i a b h1 h2
   cases hu
   rw [qER h h1,qF5 hs h2]
  cases hu
end
theorem dY {v:Option Value} {d:D} (h:bI v=some d):∃ u,v=some u/\d=.leaf u/\xN u=true:=by
 unfold bI at h
 split at h
 ·rename_i u
  cases hl:xN u with
  | false=>rw [hl] at h; cases h
  | true=>rw [hl] at h; cases h; exact ⟨u,rfl,rfl,hl⟩
 cases h
section
variable {E:Env} {n0:Lim} {H0:AH} {g0:zF} {S:St} {ρ:List D} {ve:Nat->Value} {lb:Nat->Nat} {g:zF} {fr:Fr} {H:AH} {HS:FuncId->List D->D->Prop} {Q:Res1->Prop} {o:Oper} {κ:K1} {wm:Bool}
theorem jU.new (h:SR n0 H0 g0 S ρ ve lb g fr H) {k:VK} {one:Bool} {d:D} {v:Value} (hk:k≠.fresh) (hv:aG g H.blocks.get n0 ⟨k,one⟩ d v) (hw:wp E HS Q (κ (.v S.n) (S.new k one)) (ρ++[d]))
  (ha:jD E fr o H=some (.val v,H)):jU wm E HS Q n0 H0 g0 fr H o κ :=
 .same (h.new hk hv) pW hw (by simp only [SV.val,vW]; exact ha)
theorem aC {t:TypeId} {f off:Nat} {ti:TI} (h:lS E t f=some (off,ti)) :
  ∃ fs bt sz z ag fd,E.types.get t=some ⟨.struct fs,sz,bt,z,ag⟩/\fs[f]? = some fd/\E.types.get fd.type=some ti/\fd.offset=off:=by
 unfold lS at h
 split at h
 ·rename_i fs sz bt z ag ht
  split at h
  ·rename_i fd hf
   split at h
   ·rename_i ti' hti
    cases h
    exact ⟨fs,bt,sz,z,ag,fd,ht,hf,hti,rfl⟩
   cases h
  cases h
 cases h
theorem qFx {t:TypeId} {f off:Nat} {ti:TI} (h:lS E t f=some (off,ti)) (hz:Nat.beq ti.size 0=false) (b i:Nat):fX E t (.pointer (some ⟨b,i,none⟩)) f=some (.pointer (some ⟨b,i+off,none⟩)):=by
 obtain ⟨fs,bt,sz,z,ag,fd,h1,h2,h3,h4⟩:=aC h
 simp only [fX,h1,h2,h3,Option.bind_some,hz,cond_false,sQ,h4]
 rfl
theorem qJm (s i:Value) (sz a b:Nat):∃ bb oo,tP s i sz a=.pointer (some ⟨bb,oo,none⟩)/\tP s i sz (a+b)=.pointer (some ⟨bb,oo+b,none⟩):=by
 unfold tP
 split
 ·exact ⟨_,_,rfl,by simp only [Nat.add_assoc]⟩
 exact ⟨_,_,rfl,rfl⟩
theorem qLP (p:Value) (a b:Nat):∃ bb oo,qLQ p a=.pointer (some ⟨bb,oo,none⟩)/\qLQ p (a+b)=.pointer (some ⟨bb,oo+b,none⟩):=by
 unfold qLQ
 split
 ·exact ⟨_,_,rfl,by simp only [Nat.add_assoc]⟩
 exact ⟨_,_,rfl,rfl⟩
theorem qCf (h:SR n0 H0 g0 S ρ ve lb g fr H) {t:TypeId} {x:Operand} {f:Nat} (ho:o.op=.fieldAddr t x f) (hw:wp E HS Q (jN E o S κ) ρ):jU wm E HS Q n0 H0 g0 fr H o κ:=by
 unfold jN at hw
 rw [ho] at hw
 simp only at hw
 split at hw
 case h_2=>cases hw
 rename_i y off ti hy hf
 obtain ⟨hb,he⟩:=z9 (E:=E) h hy
 cases hz:Nat.beq ti.size 0 with
 | true=>rw [hz] at hw; cases hw
 | false =>
  rw [hz] at hw
  simp only [cond_false] at hw
  obtain ⟨y',S',ρ',ve',g',e,h',hw',r1,r2⟩:=qEf h hb hw
  rw [← r2] at he
  have fin:∀ (z:SV) (b i:Nat),z.bd S'.n S'.blks.length->y'.val ve' lb=.pointer (some ⟨b,i,none⟩)->z.val ve' lb=.pointer (some ⟨b,i+off,none⟩)->wp E HS Q (κ z S') ρ'->jU wm E HS Q n0 H0 g0 fr H o κ:=by
   intro z b i hzb hv hzv hw
   refine .same h' hzb hw ?_
   unfold jD
   rw [ho]
   simp only [he,hv,qFx hf hz,one,Option.map_some,hzv]
  simp only at hw'
  split at hw'
  ·rename_i b o'
   exact fin (.loc b (Nat.add o' off)) (lb b) o' r1 rfl rfl hw'
  ·rename_i s i sz o'
   obtain ⟨bb,oo,q1,q2⟩:=qJm (s.val ve' lb) (i.val ve' lb) sz o' off
   exact fin (.ptr s i sz (Nat.add o' off)) bb oo r1 q1 q2 hw'
  ·rename_i i o'
   obtain ⟨bb,oo,q1,q2⟩:=qLP (ve' i) o' off
   exact fin (.pp i (Nat.add o' off)) bb oo r1 q1 q2 hw'
  cases hw'
theorem qJy (h:SR n0 H0 g0 S ρ ve lb g fr H) {t:TypeId} {x:Operand} {f:Nat} (ho:o.op=.field t x f) (hw:wp E HS Q (jN E o S κ) ρ):jU wm E HS Q n0 H0 g0 fr H o κ:=by
 unfold jN at hw
 rw [ho] at hw
 simp only at hw
 have run:∀ {vs:List Value} {off:Nat} {ti:TI} {v:Value},ev E fr x=some (.agg ⟨vs⟩)->lS E t f=some (off,ti)->g8 ti.agg ti.size off vs=some v->jD E fr o H=some (.val v,H):=by
  intro vs off ti v he hf hp
  obtain ⟨fs,bt,sz,z,ag,fd,h1,h2,h3,h4⟩:=aC hf
  subst h4
  unfold jD
  rw [ho]
  simp only [he,h1,h2]
  have:iS E fd.type vs fd.offset=some v:=by
   simp only [iS,h3,Option.bind_some]
   exact hp
  simp only [this,one,Option.map_some]
 split at hw
 ·rename_i cs off ti hy hf
  obtain ⟨hb,he⟩:=z9 (E:=E) h hy
  split at hw
  ·rename_i y hp
   exact .same h (qDj hp hb) hw (run he hf (qDi hp))
  cases hw
 ·rename_i i off ti hy hf
  obtain ⟨hb,he⟩:=z9 (E:=E) h hy
  obtain ⟨cs,hd,hl,hdr,h',hw⟩:=qG1 h hw
  obtain ⟨vs,hv,hvs,ho'⟩:=xK hdr hd
  obtain ⟨d,h1,h2,h3⟩:=vN hw
  have hgd:getD (ρ++[getD ρ i]) S.n=.agg cs:=by rw [qCt h.toSM,hd]
  simp only [SV.ds,SV.d,qAe,hgd,D.cells] at h2
  obtain ⟨v,r1,r2,r3,_⟩:=dQ hvs ho' h2
  simp only [SV.val,hv] at he
  exact .new h' (k:=.pure) (one:=!ti.agg) (by simp) ⟨fun e=>r3 (by simpa using e),r2⟩ h3 (run he hf r1)
 cases hw
theorem qDn (h:SR n0 H0 g0 S ρ ve lb g fr H) {x:Operand} (ho:o.op=.nilCheck x) (hw:wp E HS Q (jN E o S κ) ρ):jU wm E HS Q n0 H0 g0 fr H o κ:=by
 unfold jN at hw
 rw [ho] at hw
 simp only at hw
 split at hw
 ·rename_i b o' hy
  obtain ⟨hb,he⟩:=z9 (E:=E) h hy
  refine .same h hb hw ?_
  unfold jD; rw [ho]
  simp only [SV.val] at he
  simp only [he,SV.val]
 ·rename_i f a b hy
  obtain ⟨hb,he⟩:=z9 (E:=E) h hy
  refine .same h hb hw ?_
  unfold jD; rw [ho]
  simp only [SV.val] at he
  simp only [he,SV.val]
 ·rename_i t y hy
  obtain ⟨hb,he⟩:=z9 (E:=E) h hy
  refine .same h hb hw ?_
  unfold jD; rw [ho]
  simp only [SV.val] at he
  simp only [he,SV.val]
 ·rename_i i hy
  obtain ⟨hb,he⟩:=z9 (E:=E) h hy
  obtain ⟨d,h1,h2,h3⟩:=vN hw
  have hr:=z7 h.toSM (h1 _ (List.mem_singleton.2 rfl))
  simp only [SV.ds,SV.d,qSa] at h2
  simp only [SV.val] at he
  have fin:DR g (getD ρ i) (ve i)->d=getD ρ i->d.one=true->jD E fr o H=some (.val (ve i),H)->jU wm E HS Q n0 H0 g0 fr H o κ:=by
   intro hdr hd hone ha
   exact .new h (k:=.pure) (one:=true) (by simp) ⟨fun _=>hone,by rw [hd]; exact hdr⟩ h3 ha
  have hdr:DR g (getD ρ i) (ve i):=hr.dr (by intro _ _ _ e; simp only [SV.d] at e; rw [e] at h2; cases h2)
  split at h2
  ·rename_i f a b hd
   cases h2
   refine fin hdr rfl (by rw [hd]; rfl) ?_
   rw [hd] at hdr
   unfold jD; rw [ho]
   simp only [he]
   generalize ve i=vi at hdr
   cases hdr with
   | clo _ _ _=>rfl
  ·rename_i cs off hd
   cases h2
   refine fin hdr rfl (by rw [hd]; rfl) ?_
   rw [hd] at hdr
   unfold jD; rw [ho]
   simp only [he]
   generalize ve i=vi at hdr
   cases hdr with
   | ptr _ _ _=>rfl
  ·rename_i t d' hd
   cases h2
   refine fin hdr rfl (by rw [hd]; rfl) ?_
   rw [hd] at hdr
   unfold jD; rw [ho]
   simp only [he]
   generalize ve i=vi at hdr
   cases hdr with
   | iface _=>rfl
  cases h2
 cases hw
theorem qHB {op:BinOp} {t:TypeId} {x y:Operand} {neg:Bool} (h:tX E op t x y neg=true) :
  (∃ e bt sz z ag,E.types.get t=some ⟨.slice e,sz,bt,z,ag⟩)/\nZ E op t x y (.slice none 0 0) (.slice none 0 0)=some (.bool !neg)/\(op=.eql/\neg=false∨op=.neq/\neg=true):=by
 unfold tX gC at h
 simp only [vF] at h
 obtain ⟨⟨h1,h2⟩,h3⟩:=h
 refine ⟨?_,?_,?_⟩
 ·split at h1
  ·exact ⟨_,_,_,_,_,by assumption⟩
  cases h1
 ·split at h2
  ·rename_i b hb
   rw [hb]
   simp only [beq_iff_eq] at h2
   rw [h2]
  cases h2
 split at h3
 ·left; exact ⟨rfl,by simpa using h3⟩
 ·right; exact ⟨rfl,h3⟩
 cases h3
theorem qJG {x:SV} (h:qCn x=true):x=.c (.slice none 0 0):=by
 unfold qCn at h
 split at h
 ·rfl
 cases h
theorem qPu (h:SR n0 H0 g0 S ρ ve lb g fr H) {op:BinOp} {t:TypeId} {x y:Operand} {b:Option BinOp->Bool} {bb:_} (ho:o.op=.binOp op t x y bb) (hw:wp E HS Q (jN E o S κ) ρ):jU wm E HS Q n0 H0 g0 fr H o κ:=by
 unfold jN at hw
 rw [ho] at hw
 simp only at hw
 split at hw
 case h_2=>cases hw
 rename_i a c ha hc
 obtain ⟨hb1,he1⟩:=z9 (E:=E) h ha
 obtain ⟨hb2,he2⟩:=z9 (E:=E) h hc
 have run:∀ {v:Value},nZ E op t x y (a.val ve lb) (c.val ve lb)=some v->jD E fr o H=some (.val v,H):=by
  intro v hv
  unfold jD; rw [ho]
  simp only [he1,he2,hv,one,Option.map_some]
 cases hn:(qCn c && (tX E op t x y true || tX E op t x y false)) with
 | true =>
  rw [hn] at hw
  simp only [vF,cond_true] at hn hw
  have hcc:=qJG hn.1
  subst hcc
  obtain ⟨d,h1,h2,h3⟩:=vN hw
  have hr:=z7 h.toSM (h1 _ (List.mem_singleton.2 rfl))
  have hneg:∃ neg,tX E op t x y neg=true:=by
   have:=hn.2
   simp only [Bool.or_eq_true] at this
   rcases this with h | h
   ·exact ⟨_,h⟩
   exact ⟨_,h⟩
  obtain ⟨neg,hneg⟩:=hneg
  obtain ⟨⟨e,bt,sz,z,ag,ht⟩,hbin,hop⟩:=qHB hneg
  have hng:qOC op=neg:=by
   rcases hop with ⟨rfl,rfl⟩ | ⟨rfl,rfl⟩ <;> rfl
  rw [hng] at h2
  simp only [SV.ds,qKs] at h2
  generalize hdd:a.d (getD ρ)=dd at h2 hr
  cases dd with
  | nil =>
   simp only [oI] at h2
   subst h2
   have hv:=hr.dr (by intro _ _ _ e; cases e)
   generalize hvv:a.val ve lb=vv at hv
   cases hv with
   | nil =>
    refine .new h (k:=.pure) (one:=true) (by simp) (v:=.bool !neg) ⟨fun _=>rfl,.leaf rfl⟩ h3 (run ?_)
    rw [hvv]; exact hbin
  | sl el sz es =>
   simp only [oI] at h2
   subst h2
   obtain ⟨b',o',l,c',_,_,_,_,q⟩:=hr.sl h.mem
   refine .new h (k:=.pure) (one:=true) (by simp) (v:=.bool neg) ⟨fun _=>rfl,.leaf rfl⟩ h3 (run ?_)
   rw [q.v]
   rcases hop with ⟨rfl,rfl⟩ | ⟨rfl,rfl⟩
   ·simp [nZ,zL,zA,qBk,ht,iU,SV.val]
   simp [nZ,zL,zA,qBk,ht,iU,SV.val]
  | _=>cases h2
 | false =>
  rw [hn] at hw
  simp only [cond_false] at hw
  obtain ⟨hp,hw⟩:=jP hw
  simp only [vF] at hp
  simp only [wp] at hw
  split at hw
  case h_2=>cases hw
  rename_i d hd
  simp only [SV.ds,qCB] at hd
  split at hd
  case h_2=>cases hd
  rename_i u v hu hv
  obtain ⟨r,hr,rfl,hrl⟩:=dY hd
  have e1:=qER (jG h.toSM hp.1) hu
  have e2:=qER (jG h.toSM hp.2) hv
  exact .new h (k:=.pure) (one:=true) (by simp) (v:=r) ⟨fun _=>rfl,.leaf hrl⟩ hw (run (by rw [e1,e2]; exact hr))
theorem qRN (h:SR n0 H0 g0 S ρ ve lb g fr H) {op:UnOp} {t:TypeId} {x:Operand} (ho:o.op=.unOp op t x) (hw:wp E HS Q (jN E o S κ) ρ):jU wm E HS Q n0 H0 g0 fr H o κ:=by
 unfold jN at hw
 rw [ho] at hw
 simp only at hw
 split at hw
 case h_2=>cases hw
 rename_i y hy
 obtain ⟨hb,he⟩:=z9 (E:=E) h hy
 split at hw
 ·rename_i b hc
  have:y=.c (.bool b):=by
   unfold qKI at hc
   split at hc
   ·cases hc; rfl
   cases hc
  subst this
  simp only [SV.val] at he
  refine .same h (y:=.c (.bool !b)) trivial hw ?_
  unfold jD; rw [ho]
  simp only [he,SV.val]
  rfl
 obtain ⟨d,h1,h2,h3⟩:=vN hw
 have hr:=z7 h.toSM (h1 _ (List.mem_singleton.2 rfl))
 simp only [SV.ds] at h2
 generalize hdd:y.d (getD ρ)=dd at h2 hr
 cases dd with
 | leaf u =>
  rw [qR9] at h2
  have hv:=(hr.dr (by intro _ _ _ e; cases e)).leaf_inv.1
  cases hf:zL u with
  | false=>rw [hf] at h2; cases h2
  | true =>
   rw [hf] at h2
   simp only [cond_true] at h2
   obtain ⟨r,hr',rfl,hrl⟩:=dY h2
   refine .new h (k:=.pure) (one:=true) (by simp) (v:=r) ⟨fun _=>rfl,.leaf hrl⟩ h3 ?_
   unfold jD; rw [ho]
   rw [hv] at he
   simp only [he,hf,cond_true,hr',one,Option.map_some]
 | _=>cases h2
theorem qLV (h:SR n0 H0 g0 S ρ ve lb g fr H) {s d:TypeId} {x:Operand} (ho:o.op=.convert s d x) (hbi:sO E s d=none) (hbo:eU E s d=false) (hw:wp E HS Q (jN E o S κ) ρ):jU wm E HS Q n0 H0 g0 fr H o κ:=by
 unfold jN at hw
 rw [ho] at hw
 simp only [hbi,hbo,cond_false] at hw
 split at hw
 case h_2=>cases hw
 rename_i y hy
 obtain ⟨hb,he⟩:=z9 (E:=E) h hy
 obtain ⟨dd,h1,h2,h3⟩:=vN hw
 have hr:=z7 h.toSM (h1 _ (List.mem_singleton.2 rfl))
 simp only [SV.ds] at h2
 generalize hdd:y.d (getD ρ)=de at h2 hr
 cases de with
 | leaf u =>
  rw [qMA] at h2
  obtain ⟨hv,hul⟩:=(hr.dr (by intro _ _ _ e; cases e)).leaf_inv
  obtain ⟨r,hr',rfl,hrl⟩:=dY h2
  refine .new h (k:=.pure) (one:=true) (by simp) (v:=r) ⟨fun _=>rfl,.leaf hrl⟩ h3 ?_
  unfold jD; rw [ho]
  rw [hv] at he
  simp only [he]
  cases u with
  | string b =>
   simp only [qGX] at hr'
   simp only
   split at hr'
   ·cases hr'
   rename_i hn
   split
   ·rename_i e1 e2
    exact absurd e2 (hn _ _ _ _ _ _ _ _ _ e1)
   rw [hr']; rfl
  | slice a l c=>simp [xN] at hul
  | pointer a=>cases hr'
  | _ =>
   simp only [qGX] at hr'
   rw [cond_eq_ite] at hr'
   simp only
   rw [cond_eq_ite]
   split at hr'
   ·rename_i hfl
    rw [if_pos hfl,hr']
    rfl
   cases hr'
 | _=>cases h2
theorem qPr (h:SR n0 H0 g0 S ρ ve lb g fr H) {t:TypeId} {x:Operand} (ho:o.op=.makeInterface t x) (hw:wp E HS Q (jN E o S κ) ρ):jU wm E HS Q n0 H0 g0 fr H o κ:=by
 unfold jN at hw
 rw [ho] at hw
 simp only at hw
 cases ht:E.types.get t with
 | none=>rw [ht] at hw; cases hw
 | some ti =>
  cases hy:nW S x with
  | none =>
   rw [ht,hy] at hw
   obtain ⟨d,_,_,_,_⟩:=ti
   cases d <;> cases hw
  | some y =>
   rw [ht,hy] at hw
   obtain ⟨hb,he⟩:=z9 (E:=E) h hy
   have fin:wp E HS Q (κ (.ifc t y) S) ρ->jD E fr o H=some (.val (.iface t (y.val ve lb)),H)->jU wm E HS Q n0 H0 g0 fr H o κ:=fun hw ha =>
    .same h (y:=.ifc t y) hb hw ha
   obtain ⟨d,_,_,_,_⟩:=ti
   cases d <;> first | (cases hw; done) | skip
   all_goals
    refine fin hw ?_
    unfold jD; rw [ho]
    simp only [he,ht,one,Option.map_some]
theorem qE7 (h:SR n0 H0 g0 S ρ ve lb g fr H) {x:Operand} {i:Nat} (ho:o.op=.extract x i) (hw:wp E HS Q (jN E o S κ) ρ):jU wm E HS Q n0 H0 g0 fr H o κ:=by
 unfold jN at hw
 rw [ho] at hw
 simp only at hw
 split at hw
 ·rename_i cs hy
  obtain ⟨hb,he⟩:=z9 (E:=E) h hy
  split at hw
  ·rename_i y hc
   refine .same h ((SV.bds_iff.1 hb) y (List.mem_of_getElem? hc)) hw ?_
   unfold jD; rw [ho]
   simp only [SV.val,SV.vals_map] at he
   simp only [he,List.getElem?_map,hc,Option.map_some,one]
  cases hw
 ·rename_i j hy
  obtain ⟨hb,he⟩:=z9 (E:=E) h hy
  obtain ⟨d,h1,h2,h3⟩:=vN hw
  have hr:=z7 h.toSM (h1 _ (List.mem_singleton.2 rfl))
  simp only [SV.ds,SV.d] at h2 hr
  generalize hdd:getD ρ j=dd at h2 hr
  cases dd with
  | tup ds =>
   rw [qKt] at h2
   have hv:=hr.dr (by intro _ _ _ e; cases e)
   simp only [SV.val] at hv he
   generalize hvv:ve j=vv at hv he
   cases hv with
   | tup hv =>
    obtain ⟨v,q1,q2⟩:=hv.get _ _ h2
    refine .new h (k:=.pure) (one:=false) (by simp) (v:=v) ⟨(fun e=>by cases e),q2⟩ h3 ?_
    unfold jD; rw [ho]
    simp only [he,q1,one,Option.map_some]
  | _=>cases h2
 cases hw
end
end Go.Am
namespace Go.Am
open Go
section
variable {E:Env} {n0:Lim} {H0:AH} {g0:zF} {S:St} {ρ:List D} {ve:Nat->Value} {lb:Nat->Nat} {g:zF} {fr:Fr} {H:AH} {HS:FuncId->List D->D->Prop} {Q:Res1->Prop} {o:Oper} {κ:K1} {wm:Bool}
theorem gH {t e:TypeId} (h:gC E t=some e):∃ sz bt z ag,E.types.get t=some ⟨.slice e,sz,bt,z,ag⟩:=by
 unfold gC at h
 split at h
 ·cases h; exact ⟨_,_,_,_,by assumption⟩
 cases h
theorem qCe (h:SR n0 H0 g0 S ρ ve lb g fr H) {t:TypeId} {x i:Operand} (ho:o.op=.indexAddr t x i) (hw:wp E HS Q (jN E o S κ) ρ):jU wm E HS Q n0 H0 g0 fr H o κ:=by
 unfold jN at hw
 rw [ho] at hw
 simp only at hw
 split at hw
 case h_2=>cases hw
 rename_i y j el hy hj hel
 obtain ⟨hb1,he1⟩:=z9 (E:=E) h hy
 obtain ⟨hb2,he2⟩:=z9 (E:=E) h hj
 obtain ⟨sz,bt,z,ag,ht⟩:=gH hel
 split at hw
 case h_2=>cases hw
 rename_i e hte
 obtain ⟨hr,hw⟩:=jP hw
 simp only [vF] at hr
 obtain ⟨d,h1,h2,h3⟩:=vN hw
 have r1:=z7 h.toSM hr.1
 have r2:=z7 h.toSM hr.2
 simp only [SV.ds,qFz,Option.map_eq_some_iff] at h2
 obtain ⟨ed,hed,rfl⟩:=h2
 obtain ⟨b,o',l,c,k,n,cs,rE,v7,rt,own,w1,w2,w3,w4,_,w5,w6,w7⟩:=sN h.mem r1 r2 hed
 have hle:Nat.ble (n+1) l=true:=bL w3
 have hs:=h.new (k:=.pure) (o:=true) (by simp) (d:=.leaf (.bool true)) (v:=.bool true) ⟨fun _=>rfl,.leaf rfl⟩
 have ex:ExtS S ρ ve g (S.new .pure true) (ρ++[.leaf (.bool true)]) (bK ve S.n (.bool true)) g:=wU h.len
 refine .same hs (y:=.ptr y j e.size 0) ⟨ex.bd hb1,ex.bd hb2⟩ h3 ?_
 simp only [SV.val,ex.val (lb:=lb) hb1,ex.val (lb:=lb) hb2]
 unfold jD; rw [ho]
 rw [w1] at he1
 rw [w2] at he2
 simp only [he1,he2,Option.bind_some,nat?,uH,ht,hte,hle,cond_true,one,Option.map_some,w1,w2,tP]
 rfl
theorem qJx (h:SR n0 H0 g0 S ρ ve lb g fr H) {t:TypeId} {x i:Operand} (ho:o.op=.index t x i) (hw:wp E HS Q (jN E o S κ) ρ):jU wm E HS Q n0 H0 g0 fr H o κ:=by
 unfold jN at hw
 rw [ho] at hw
 simp only at hw
 split at hw
 case h_2=>cases hw
 rename_i y j sz bt z ag hy hj ht
 obtain ⟨hb1,he1⟩:=z9 (E:=E) h hy
 obtain ⟨hb2,he2⟩:=z9 (E:=E) h hj
 obtain ⟨d,h1,h2,h3⟩:=vN hw
 have r1:=z7 h.toSM (h1 y (by simp))
 have r2:=z7 h.toSM (h1 j (by simp))
 simp only [SV.ds] at h2
 generalize hyd:y.d (getD ρ)=yd at h2 r1
 generalize hjd:j.d (getD ρ)=jd at h2 r2
 match yd,h2,r1 with
 | .leaf (.string s),h2,r1 =>
  rw [qKu] at h2
  split at h2
  ·rename_i n hn
   obtain ⟨k,hk⟩:=dW r2 hn
   simp only [Option.map_eq_some_iff] at h2
   obtain ⟨bb,hbb,rfl⟩:=h2
   have hv:=(r1.dr (by intro _ _ _ e; cases e)).leaf_inv.1
   refine .new h (k:=.pure) (one:=true) (by simp) (v:=.int .u8 bb.toNat) ⟨fun _=>rfl,.leaf rfl⟩ h3 ?_
   unfold jD; rw [ho]
   rw [hv] at he1
   rw [hk] at he2
   simp only [he1,he2,Option.bind_some,nat?,ht,hbb,one,Option.map_some]
  cases h2
theorem tR {i:Nat} {x:Operand} {r:List (Nat × Operand)} {v:Value} {ps:List (Nat × Value)} (hv:ev E fr x=some v) (hn:mH v) (hr:parts? E fr r=some ps):parts? E fr ((i,x)::r)=some ((i,v)::ps):=by
 simp only [parts?,hv]
 split
 ·rename_i h; cases h
 ·rename_i c h
  simp only [oI] at h
  exact absurd h (hn _)
 rename_i v' hn' h
 simp only [oI] at h
 subst h
 rw [hr]; rfl
theorem qAy {place:Nat->Option (Nat × Nat × Bool)} {place':Nat->Option (Nat × Nat)} (hpl:∀ i off size ag,place i=some (off,size,ag)->place' i=some (off,size)):∀ (ps:List (Nat × Operand)) {S:St} {ρ:List D} {ve:Nat->Value} {g:zF} {cs:List SV} {κ:List SV->St->Tree},
  SR n0 H0 g0 S ρ ve lb g fr H->SV.bds S.n S.blks.length cs->wp E HS Q (qAA E S place cs ps κ) ρ ->
  rD E HS Q n0 H0 g0 S ρ ve lb g fr H κ fun l S' _ ve' _=>SV.bds S'.n S'.blks.length l/\∃ vs,parts? E fr ps=some vs/\mS (SV.vals ve lb cs) vs place'=some (SV.vals ve' lb l)
 | [],S,ρ,ve,g,cs,κ,h,hb,hw=>⟨cs,S,ρ,ve,g,.refl,h,hw,hb,[],rfl,rfl⟩
 | (i,x)::r,S,ρ,ve,g,cs,κ,h,hb,hw=>by
  simp only [qAA] at hw
  split at hw
  case h_2=>cases hw
  rename_i off size ag y hp hy
  obtain ⟨hyb,he⟩:=z9 (E:=E) h hy
  obtain ⟨l,S1,ρ1,ve1,g1,e1,h1,hw1,s1,s2,s3,s4⟩:=oH h hyb hw
  simp only at hw1
  split at hw1
  case h_2=>cases hw1
  rename_i cs' hsp
  have hsp':=oO (ve:=ve1) (lb:=lb) hsp
  have hcs:SV.vals ve1 lb cs=SV.vals ve lb cs:=SV.vals_congr e1.ve (fun _ _=>rfl) hb
  rw [hcs,s2] at hsp'
  obtain ⟨l',S2,ρ2,ve2,g2,e2,h2,hw2,t1,vs,t2,t3⟩:=qAy hpl r h1 (oP hsp (e1.bds hb) s1) hw1
  refine ⟨l',S2,ρ2,ve2,g2,e1.trans e2,h2,hw2,t1,_,tR he s4 t2,?_⟩
  have hl:(y.val ve lb).cells.toList.length=size:=by rw [← s2,SV.vals_map,List.length_map,s3]
  simp only [mS,hpl _ _ _ _ hp,hl,hsp',qV,if_true]
  exact t3
theorem qJz (h:SR n0 H0 g0 S ρ ve lb g fr H) {t:TypeId} {ps:Array (Nat × Operand)} (ho:o.op=.build t ps) (hw:wp E HS Q (jN E o S κ) ρ):jU wm E HS Q n0 H0 g0 fr H o κ:=by
 unfold jN at hw
 rw [ho] at hw
 simp only at hw
 split at hw
 ·rename_i fs sz bt z ht
  obtain ⟨_,hw⟩:=jP hw
  obtain ⟨l,S',ρ',ve',g',e,h',hw',r1,vs,r2,r3⟩:=qAy (place':=fieldPlace? E fs.toList) (fun i off size ag hp=>by
   simp only [fieldPlace?]
   split at hp
   ·rename_i f hf
    simp only [Option.map_eq_some_iff,Prod.mk.injEq] at hp
    obtain ⟨ti,h1,h2,h3,h4⟩:=hp
    have hf':fs.toList[i]? = some f:=by simpa using hf
    simp only [hf',h1,Option.map_some,h2,h3]
   cases hp) ps.toList h (qG4 _) hw
  rw [qBU] at r3
  refine .same h' (y:=.agg l) r1 hw' ?_
  unfold jD; rw [ho]
  simp only [r2,iA,ht,r3,Option.map_some,one,SV.val]
 ·rename_i n elem sz bt z ht
  obtain ⟨hz,hw⟩:=jP hw
  cases hte:E.types.get elem with
  | none=>rw [hte] at hz; cases hz
  | some e =>
   obtain ⟨l,S',ρ',ve',g',ex,h',hw',r1,vs,r2,r3⟩:=qAy (place':=fun i=>some (Nat.mul i e.size,e.size)) (fun i off size ag hp=>by
    simp only [hte,Option.map_some,oI,Prod.mk.injEq] at hp
    rw [← hp.1,← hp.2.1]) ps.toList h (qG4 _) hw
   rw [qBU] at r3
   refine .same h' (y:=.agg l) r1 hw' ?_
   unfold jD; rw [ho]
   simp only [r2,iA,ht,hte,Option.bind_some,r3,Option.map_some,one,SV.val]
 cases hw
theorem lI:∀ (a b c vs:List Value),b.length=vs.length->jJ (a++(b++c)) a.length vs=some (a++(vs++c))
 | [],b,c,vs,h=>by
  simp only [List.nil_append,List.length_nil]
  induction vs generalizing b with
  | nil=>cases b with
   | nil=>simp [jJ]
   | cons _ _=>simp at h
  | cons v vs ih=>cases b with
   | nil=>simp at h
   | cons x b=>simp only [List.cons_append,jJ]; rw [ih b (by simpa using h)]; rfl
 | x::a,b,c,vs,h=>by
  simp only [List.cons_append,List.length_cons]
  cases vs with
  | nil =>
   cases b with
   | nil=>simp only [jJ,lI a [] c [] rfl,Option.map_some]
   | cons _ _=>simp at h
  | cons v vs=>simp only [jJ,lI a b c (v::vs) h,Option.map_some]
theorem qEd {size:Nat} {ag:Bool} {z:List Value} (hz:z.length=size):∀ (ps:List (Nat × Operand)) {S:St} {ρ:List D} {ve:Nat->Value} {g:zF} {acc:List SV} {done:List Value} {κ:List SV->St->Tree},
  SR n0 H0 g0 S ρ ve lb g fr H->SV.bds S.n S.blks.length acc->done.length=acc.length * size->done=(acc.map (SV.val ve lb)).flatMap (fun v=>v.cells.toList) ->
  (∀ x∈acc,(x.d (getD ρ)).cells.length=size/\((x.d (getD ρ)).one=true∨∃ cs,x.d (getD ρ)=.agg cs))->wp E HS Q (f6 size ag acc S ps κ) ρ ->
  rD E HS Q n0 H0 g0 S ρ ve lb g fr H κ fun l S' ρ' ve' _=>SV.bds S'.n S'.blks.length l/\(∀ x∈l,(x.d (getD ρ')).cells.length=size/\((x.d (getD ρ')).one=true∨∃ cs,x.d (getD ρ')=.agg cs)) /\
   l.length=acc.length+ps.length/\∃ vs,parts? E fr ps=some vs/\mS (done++xW z ps.length) vs (fun i=>some (Nat.mul i size,size))=some ((l.map (SV.val ve' lb)).flatMap (fun v=>v.cells.toList))
 | [],S,ρ,ve,g,acc,done,κ,h,hb,hdl,hd,hc,hw=>⟨acc,S,ρ,ve,g,.refl,h,hw,hb,hc,rfl,[],rfl,by simp [mS,xW,hd]⟩
 | (i,x)::r,S,ρ,ve,g,acc,done,κ,h,hb,hdl,hd,hc,hw=>by
  simp only [f6] at hw
  split at hw
  case h_2=>cases hw
  rename_i y hy
  obtain ⟨hyb,he⟩:=z9 (E:=E) h hy
  obtain ⟨hi,hw2⟩:=jP hw
  have hi:=vU hi
  subst hi
  have main:∀ {S1:St} {g1:zF},ExtS S ρ ve g S1 ρ ve g1->SR n0 H0 g0 S1 ρ ve lb g1 fr H->yQ S1 y=true->wp E HS Q (.bind (.chk ag size) [y] (f6 size ag (acc++[y]) (S1.new .dead false) r κ)) ρ ->
    rD E HS Q n0 H0 g0 S ρ ve lb g fr H κ fun l S' ρ' ve' _=>SV.bds S'.n S'.blks.length l/\(∀ x∈l,(x.d (getD ρ')).cells.length=size/\((x.d (getD ρ')).one=true∨∃ cs,x.d (getD ρ')=.agg cs)) /\
     l.length=acc.length+((acc.length,x)::r).length/\∃ vs,parts? E fr ((acc.length,x)::r)=some vs/\mS (done++xW z ((acc.length,x)::r).length) vs (fun i=>some (Nat.mul i size,size))=some ((l.map (SV.val ve' lb)).flatMap (fun v=>v.cells.toList)):=by
   intro S1 g1 e0 h1 hry hw
   simp only [wp] at hw
   split at hw
   case h_2=>cases hw
   rename_i d hd'
   simp only [SV.ds,cG] at hd'
   obtain ⟨rfl,q1,q2⟩:=cJ hd'
   have hrd:=z7 h1.toSM hry
   have hy3:(y.d (getD ρ)).cells.length=size/\((y.d (getD ρ)).one=true∨∃ cs,y.d (getD ρ)=.agg cs)/\(y.val ve lb).cells.toList.length=size/\mH (y.val ve lb):=by
    cases ag with
    | true =>
     obtain ⟨cs,hcs,hl⟩:=q1 rfl
     have hdr:DR g1 (y.d (getD ρ)) (y.val ve lb):=hrd.dr (by intro _ _ _ e; rw [hcs] at e; cases e)
     obtain ⟨vs,hv,hvs,_⟩:=xK hdr hcs
     refine ⟨by rw [hcs]; exact hl,.inr ⟨cs,hcs⟩,?_,rP hdr hcs⟩
     rw [hv]
     show vs.length=size
     rw [hvs.length,hl]
    | false =>
     obtain ⟨h1,h2⟩:=q2 rfl
     obtain ⟨h3,h4⟩:=tM hrd h1
     refine ⟨?_,.inl h1,by rw [h3]; exact h2.symm,h4⟩
     rw [h2]
     generalize y.d (getD ρ)=yd at h1
     cases yd <;> first | rfl | (cases h1; done)
   obtain ⟨y1,y2,y3,y4⟩:=hy3
   have h':=h1.new (k:=.dead) (o:=false) (by simp) (d:=y.d (getD ρ)) (v:=.bool true) ⟨(fun e=>by cases e),trivial⟩
   have e:ExtS S ρ ve g (S1.new .dead false) (ρ++[y.d (getD ρ)]) (bK ve S1.n (.bool true)) g1:=e0.trans (wU h1.len)
   have hb':SV.bds S.n S.blks.length (acc++[y]):=by
    rw [SV.bds_iff] at hb ⊢
    intro u hu
    rcases List.mem_append.1 hu with hu | hu
    ·exact hb u hu
    simp only [List.mem_singleton] at hu; subst hu; exact hyb
   have hvals:(acc++[y]).map (SV.val (bK ve S1.n (.bool true)) lb)=(acc++[y]).map (SV.val ve lb):=by
    rw [← SV.vals_map,← SV.vals_map]
    exact SV.vals_congr e.ve (fun _ _=>rfl) hb'
   obtain ⟨l,S',ρ',ve',g',e',r1,r2,r3,r4,r5,vs,r6,r7⟩:=qEd hz r (acc:=acc++[y]) (done:=done++(y.val ve lb).cells.toList) h' (e.bds hb') (by simp [hdl,y3,Nat.add_mul]) (by
     rw [hvals,List.map_append,List.flatMap_append,hd]; simp) (fun u hu=>by
     have hub:=(SV.bds_iff.1 hb') u hu
     rw [e.d hub]
     rcases List.mem_append.1 hu with hu | hu
     ·exact hc u hu
     simp only [List.mem_singleton] at hu; subst hu; exact ⟨y1,y2⟩) hw
   refine ⟨l,S',ρ',ve',g',e.trans e',r1,r2,r3,r4,by simp at r5 ⊢; omega,_,tR he y4 r6,?_⟩
   have hsp:jJ (done++xW z (r.length+1)) (acc.length * size) (y.val ve lb).cells.toList=some (done++((y.val ve lb).cells.toList++xW z r.length)):=by
    have:=lI done z (xW z r.length) (y.val ve lb).cells.toList (by rw [hz,y3])
    rw [hdl] at this
    exact this
   simp only [List.length_cons,mS,y3,qV,if_true,Nat.mul_eq,hsp]
   rw [List.append_assoc] at r7
   exact r7
  rw [cond_eq_ite] at hw2
  split at hw2
  ·rename_i hry; exact main .refl h hry hw2
  obtain ⟨g1,e0,h1⟩:=nU y h
  obtain ⟨hry,hw2⟩:=jP hw2
  exact main e0 h1 hry hw2
end
end Go.Am
namespace Go.Am
open Go
def zF.add (g:zF) (b:Nat) (k:ABlk):zF:=fun c=>if c=b then some k else g c
theorem zF.le_add {g:zF} {b:Nat} {k:ABlk} (h:g b=none):zF.le g (g.add b k):=by
 intro c k' hc
 simp only [zF.add]
 split
 ·rename_i e; subst e; rw [h] at hc; cases hc
 exact hc
theorem zF.add_at {g:zF} {b:Nat} {k:ABlk}:g.add b k b=some k:=if_pos rfl
theorem zF.add_ne {g:zF} {b c:Nat} {k:ABlk} (h:c≠b):g.add b k c=g c:=if_neg h
section
variable {E:Env} {n0:Lim} {H0:AH} {g0:zF} {S:St} {ρ:List D} {ve:Nat->Value} {lb:Nat->Nat} {g:zF} {fr:Fr} {H:AH} {HS:FuncId->List D->D->Prop} {Q:Res1->Prop} {o:Oper} {κ:K1} {wm:Bool}
theorem qHC (h:WF H):H.blocks.get H.next=none:=by
 cases hc:H.blocks.get H.next with
 | none=>rfl
 | some k=>exact absurd (h _ _ hc).2 (Nat.lt_irrefl _)
theorem uP (h:SM n0 S ρ ve lb g H):g H.next=none:=by
 cases hc:g H.next with
 | none=>rfl
 | some k=>have:=h.mem _ _ hc; rw [qHC h.wf] at this; cases this
theorem SR.allocPure (h:SR n0 H0 g0 S ρ ve lb g fr H) (cs:List Value) (el:TypeId) :
  SR n0 H0 g0 S ρ ve lb (g.add H.next ⟨.cells cs el,H.next,true⟩) fr (H.new (.cells cs el)):=by
 have h':=h.heap (H':=H.new (.cells cs el)) dU (h.wf.new _) (Nat.le_succ _) h.low
 have hle:zF.le g (g.add H.next ⟨.cells cs el,H.next,true⟩):=zF.le_add (uP h.toSM)
 refine { h' with mem:=?_,vars:=?_,sepLG:=?_,sepFG:=?_,gk:=?_ }
 ·intro b k hb
  by_cases e:b=H.next
  ·subst e
   rw [zF.add_at] at hb
   rw [AH.get_new,if_pos rfl]
   exact hb
  rw [zF.add_ne e] at hb
  exact h'.mem b k hb
 ·intro i s hs
  exact (h'.vars i s hs).mono hle (fun _ _ _=>rfl)
 ·intro b hb
  rw [zF.add_ne (by have:=(xQ h.toSM hb).1; omega)]
  exact h.sepLG b hb
 ·intro i B hi hB
  rw [zF.add_ne (by have:=(oR h.toSM hi hB).1; omega)]
  exact h.sepFG i B hi hB
 intro b hb
 rw [zF.add_ne (by have:=h.base.2 b hb; omega)]
 exact h.gk b hb
theorem pG (h:SM n0 S ρ ve lb g H) {xs:List SV} (hp:∀ x∈xs,xD S x=true):DRs g (SV.ds (getD ρ) xs) (SV.vals ve lb xs):=by
 induction xs with
 | nil=>exact .nil
 | cons x xs ih=>exact .cons (jG h (hp x List.mem_cons_self)) (ih fun y hy=>hp y (mC _ hy))
theorem qFs {ds:List D} {vs:List Value} (h:DRs g ds vs):DRs g (ds.flatMap D.cells) (vs.flatMap fun v=>v.cells.toList):=by
 induction ds generalizing vs with
 | nil=>cases h; exact .nil
 | cons d ds ih=>cases h with
  | cons h hs =>
   simp only [List.flatMap_cons]
   exact h.cells.append (ih hs)
theorem qKh {ds:List D} {vs:List Value} (h:DRs g ds vs) (hc:∀ d∈ds,d.one=true∨∃ cs,d=.agg cs):(vs.flatMap fun v=>v.cells.toList).all qN=true:=by
 induction ds generalizing vs with
 | nil=>cases h; rfl
 | cons d ds ih=>cases h with
  | @cons _ v _ vs h hs =>
   simp only [List.flatMap_cons,List.all_append,vF]
   refine ⟨?_,ih hs fun x hx=>hc x (mC _ hx)⟩
   rcases hc d List.mem_cons_self with h1 | ⟨cs,h1⟩
   ·rw [cells_one h h1]
    have:=h.one
    rw [h1] at this
    simp [this]
   obtain ⟨vs',rfl,_,h3⟩:=xK h h1
   exact h3
theorem oJ (h:SR n0 H0 g0 S ρ ve lb g fr H) {g2 bs:zF} {x:Option Operand} {l:List SV} (hl:l7 S x.toList=some l) (hr:∀ y∈l,qEF g2 bs (y.d (getD ρ)) (y.val ve lb)) {dflt n:Nat} {r:List D} {r':List D}
  (hb:v9 x.isSome dflt (SV.ds (getD ρ) l++r)=some (n,r')):r'=r/\∃ vs,rE E fr x.toList=some vs/\yM vs.head? dflt=some n:=by
 obtain ⟨q1,q2⟩:=lU (E:=E) h hl
 cases x with
 | none =>
  simp only [Option.toList,l7,oI] at hl
  subst hl
  simp only [v9,Option.isSome_none,cond_false,SV.ds,List.nil_append,oI,Prod.mk.injEq] at hb
  exact ⟨hb.2.symm,[],rfl,by rw [← hb.1]; rfl⟩
 | some x =>
  simp only [Option.toList,l7] at hl
  split at hl
  ·rename_i a l' h1 h2
   simp only [oI] at h2
   subst h2
   simp only [oI] at hl
   subst hl
   simp only [v9,Option.isSome_some,cond_true,SV.ds,List.cons_append,List.nil_append,Option.map_eq_some_iff,Prod.mk.injEq] at hb
   obtain ⟨m,h3,h4,h5⟩:=hb
   obtain ⟨k,hk⟩:=dW (hr a List.mem_cons_self) h3
   refine ⟨h5.symm,_,q2,?_⟩
   simp only [SV.vals,List.head?_cons,hk,yM,nat?,h4]
  cases hl
theorem qKy (ρ:Nat->D) (a b:List SV):SV.ds ρ (a++b)=SV.ds ρ a++SV.ds ρ b:=by
 rw [SV.ds_map,SV.ds_map,SV.ds_map,List.map_append]
theorem qKG {el:TypeId} {sz l h:Nat} {es:List D} {b o c:Nat} {len:Nat} (hd:DR g (.sl el sz es) (.slice (some ⟨b,o,none⟩) len c)) (h1:l<=h) (h2:h<=es.length) (o' c':Nat) (ho:o'=o+l * sz∨h=l) (hc:h - l<=c') :
  DR g (.sl el sz ((es.drop l).take (h - l))) (.slice (some ⟨b,o',none⟩) (h - l) c'):=by
 cases hd with
 | sl hb ht hv hl hs hc0 hx hone =>
  rename_i rt cs vs own
  have hlen:((es.drop l).take (h - l)).length=h - l:=by simp; omega
  have hs':∀ e∈(es.drop l).take (h - l),e.cells.length=sz:=fun e he=>hs e (List.mem_of_mem_drop (List.mem_of_mem_take he))
  rcases ho with ho | ho
  ·refine .sl (vs:=(vs.drop (l * sz)).take ((h - l) * sz)) hb ?_ ?_ hlen hs' hc (by omega) (rB hone _ _)
   ·rw [ho,← List.drop_drop]
    refine qA9 ht ?_
    rw [← Nat.add_mul,← hl]
    exact Nat.mul_le_mul_right sz (by omega)
   have:=(hv.drop (l * sz)).take ((h - l) * sz)
   rw [oE hs,fV (fun e he=>hs e (List.mem_of_mem_drop he))] at this
   exact this
  refine .sl (vs:=[]) hb ?_ ?_ hlen hs' hc (by omega) rfl
  ·rw [ho,Nat.sub_self,Nat.zero_mul]; simp [take?]
  rw [ho,Nat.sub_self]; simp only [List.take_zero,List.flatMap_nil]; exact .nil
theorem qJw (h:SR n0 H0 g0 S ρ ve lb g fr H) {t:TypeId} {x:Operand} {lo hi mx:Option Operand} (ho:o.op=.slice t x lo hi mx) (hz:((lo.isNone || cN lo) && cN hi && cN mx)=false) (hw:wp E HS Q (jN E o S κ) ρ):jU wm E HS Q n0 H0 g0 fr H o κ:=by
 unfold jN at hw
 rw [ho] at hw
 simp only [hz,cond_false] at hw
 split at hw
 case h_2=>cases hw
 rename_i y l hh hy hl hhh
 obtain ⟨hb,he⟩:=z9 (E:=E) h hy
 split at hw
 ·
  -- a list
  rename_i el sz bt z ag ht
  split at hw
  case h_2=>cases hw
  rename_i e hte
  obtain ⟨g',d,e1,h',hp,hd,hw⟩:=iD h hw
  simp only [SV.ds,qKy,qCy] at hd
  have hyp:=jG h'.toSM (hp y List.mem_cons_self)
  have hrl:∀ u∈l,qEF g' H.blocks.get (u.d (getD ρ)) (u.val ve lb):=fun u hu=>.inl (jG h'.toSM (hp u (by simp [hu])))
  have hrh:∀ u∈hh,qEF g' H.blocks.get (u.d (getD ρ)) (u.val ve lb):=fun u hu=>.inl (jG h'.toSM (hp u (by simp [hu])))
  have fin:∀ {v:Value} {lv hv:List Value},rE E fr lo.toList=some lv->rE E fr hi.toList=some hv->gO E H t (y.val ve lb) lv.head? hv.head? none=some v->DR g' d v->d.one=true->jU wm E HS Q n0 H0 g0 fr H o κ:=by
   intro v lv hv q1 q2 q3 q4 q5
   refine .new h' (k:=.pure) (one:=true) (by simp) (v:=v) ⟨fun _=>q5,q4⟩ hw ?_
   unfold jD; rw [ho]
   simp only [he,q1,q2,Option.toList_none,rE,List.head?_nil,q3,one,Option.map_some]
  generalize hyd:y.d (getD ρ)=yd at hd hyp
  generalize hyv:y.val ve lb=yv at hyp
  cases yd with
  | sl v7 sz' es =>
   simp only at hd
   split at hd
   case h_2=>cases hd
   rename_i ln r hbl
   obtain ⟨rfl,lv,q1,q2⟩:=oJ (E:=E) h hl hrl hbl
   split at hd
   case h_2=>cases hd
   rename_i hn hbh
   rw [← List.append_nil (SV.ds (getD ρ) hh)] at hbh
   obtain ⟨_,hv,q3,q4⟩:=oJ (E:=E) h hhh hrh hbh
   cases hc:(Nat.beq v7 el && Nat.beq sz' e.size && Nat.ble ln hn && Nat.ble hn es.length) with
   | false=>rw [hc] at hd; cases hd
   | true =>
    have hd2:=hd
    rw [hc] at hd2
    simp only [cond_true,oI] at hd2
    simp only [vF] at hc
    obtain ⟨⟨⟨c1,c2⟩,c3⟩,c4⟩:=hc
    have c1:=vU c1
    have c2:=vU c2
    have c3':=lB c3
    have c4':=lB c4
    subst c1 c2 hd2
    have hcase:=hyp
    cases hcase with
    | @sl _ _ b o' len c _ rt cs vs own hbk htk hvs hlen hss hc0 hx hone =>
     subst hlen
     have hm:=h'.mem _ _ hbk
     by_cases hcap:zG<=c
     ·refine fin q1 q3 (v:=.slice (some ⟨b,o'+ln * e.size,none⟩) (hn - ln) zG) ?_ (qKG hyp c3' c4' _ _ (.inl rfl) (by omega)) rfl
      have hcb:Nat.ble zG c=true:=bL hcap
      have hbb:Nat.beq v7 v7=true:=Nat.beq_refl _
      rw [hyv]
      simp only [gO,ht,q2,q4,hte,c3,cond_true,hcb,hm,hbb,c4,Bool.and_self]
      rfl
     have hcb:Nat.ble zG c=false:=by
      cases hb:Nat.ble zG c with
      | false=>rfl
      | true=>exact absurd (lB hb) hcap
     have hch:Nat.ble hn c=true:=bL (by omega)
     refine fin q1 q3 (v:=.slice (some ⟨b,bif Nat.beq c ln then o' else Nat.add o' (Nat.mul ln e.size),none⟩) (hn - ln) (c - ln)) ?_ (qKG hyp c3' c4' _ _ ?_ (by omega)) rfl
     ·rw [hyv]
      simp only [gO,ht,q2,q4,hte,c3,cond_true,hcb,cond_false,hch]
      rfl
     rw [qV]
     split
     ·right; omega
     left; rfl
  | nil =>
   simp only at hd
   split at hd
   case h_2=>cases hd
   rename_i r hbl
   obtain ⟨rfl,lv,q1,q2⟩:=oJ (E:=E) h hl hrl hbl
   split at hd
   case h_2=>cases hd
   rename_i hbh
   rw [← List.append_nil (SV.ds (getD ρ) hh)] at hbh
   obtain ⟨_,hv,q3,q4⟩:=oJ (E:=E) h hhh hrh hbh
   simp only [oI] at hd
   subst hd
   have hcase:=hyp
   cases hcase with
   | nil =>
    refine fin q1 q3 (v:=.slice none 0 0) ?_ .nil rfl
    rw [hyv]
    simp only [gO,ht,q2,q4,hte]
    rfl
  | _=>cases hd
 ·
  -- a string
  rename_i sz bt z ag ht
  obtain ⟨d,h1,hd,hw⟩:=vN hw
  simp only [SV.ds,qKy] at hd
  have hyr:=z7 h.toSM (h1 y List.mem_cons_self)
  have hrl:∀ u∈l,qEF g H.blocks.get (u.d (getD ρ)) (u.val ve lb):=fun u hu=>z7 h.toSM (h1 u (by simp [hu]))
  have hrh:∀ u∈hh,qEF g H.blocks.get (u.d (getD ρ)) (u.val ve lb):=fun u hu=>z7 h.toSM (h1 u (by simp [hu]))
  generalize hyd:y.d (getD ρ)=yd at hd hyr
  match yd,hd,hyr with
  | .leaf (.string s),hd,hyr =>
   rw [qKn] at hd
   have hyv:=(hyr.dr (by intro _ _ _ e; cases e)).leaf_inv.1
   split at hd
   case h_2=>cases hd
   rename_i ln r hbl
   obtain ⟨rfl,lv,q1,q2⟩:=oJ (E:=E) h hl hrl hbl
   split at hd
   case h_2=>cases hd
   rename_i hn hbh
   rw [← List.append_nil (SV.ds (getD ρ) hh)] at hbh
   obtain ⟨_,hv,q3,q4⟩:=oJ (E:=E) h hhh hrh hbh
   cases hc:(Nat.ble ln hn && Nat.ble hn s.size) with
   | false=>rw [hc] at hd; cases hd
   | true =>
    rw [hc] at hd
    simp only [cond_true,oI] at hd
    subst hd
    refine .new h (k:=.pure) (one:=true) (by simp) (v:=.string (s.extract ln hn)) ⟨fun _=>rfl,.leaf rfl⟩ hw ?_
    unfold jD; rw [ho]
    simp only [he,hyv,q1,q3,Option.toList_none,rE,List.head?_nil,gO,ht,q2,q4,hc,Option.isNone_none,Bool.and_true,cond_true,one,Option.map_some]
 cases hw
theorem qL3 {p:Program} {k k':IntKind} {x y:Int}:flat? (qW p (Builtin.min_ #[] 0 ⟨[.int k x,.int k' y]⟩))=qOA false (.int k x) (.int k' y):=by
 simp only [Builtin.min_,List.foldlM_cons,List.foldlM_nil,Builtin.min2,qOA,cond_false]
 rfl
theorem qL6 {p:Program} {k k':IntKind} {x y:Int}:flat? (qW p (Builtin.max_ #[] 0 ⟨[.int k x,.int k' y]⟩))=qOA true (.int k x) (.int k' y):=by
 simp only [Builtin.max_,List.foldlM_cons,List.foldlM_nil,Builtin.max2,qOA,cond_true]
 rfl
theorem qL1 {mx:Bool} {u v:Value} {r:Value} (h:qOA mx u v=some r):∃ k x k' y,u=.int k x/\v=.int k' y:=by
 unfold qOA at h
 split at h
 ·exact ⟨_,_,_,_,rfl,rfl⟩
 cases h
theorem qOu (h:SR n0 H0 g0 S ρ ve lb g fr H) {c:Call} {mx:Bool} {x y:SV} (ho:o.op=.call c) (hcal:c.callee=.builtin (bif mx then .max else .min)) (hargs:rE E fr c.args.toList=some [x.val ve lb,y.val ve lb])
  (hw:wp E HS Q (j4 (.mm mx) [x,y] .pure true S κ) ρ):jU wm E HS Q n0 H0 g0 fr H o κ:=by
 obtain ⟨d,h1,hd,hw⟩:=vN hw
 have hr:=z7 h.toSM (h1 x List.mem_cons_self)
 have hs:=z7 h.toSM (h1 y (mC _ List.mem_cons_self))
 simp only [SV.ds] at hd
 generalize x.d (getD ρ)=xd at hd hr
 generalize y.d (getD ρ)=yd at hd hs
 match xd,yd,hd,hr,hs with
 | .leaf u,.leaf v,hd,hr,hs =>
  rw [qSb] at hd
  obtain ⟨r,hr',rfl,hrl⟩:=dY hd
  have hv:=(hr.dr (by intro _ _ _ e; cases e)).leaf_inv.1
  have hu:=(hs.dr (by intro _ _ _ e; cases e)).leaf_inv.1
  refine .new h (k:=.pure) (one:=true) (by simp) (v:=r) ⟨fun _=>rfl,.leaf hrl⟩ hw ?_
  obtain ⟨k,a,k',b,rfl,rfl⟩:=qL1 hr'
  unfold jD; rw [ho]
  rw [hv,hu] at hargs
  cases mx with
  | false=>simp only [oA,hargs,hcal,cond_false,wK,List.all_cons,List.all_nil,zL,Bool.and_self,cond_true,qL3,hr',one,Option.map_some]; rfl
  | true=>simp only [oA,hargs,hcal,cond_true,wK,List.all_cons,List.all_nil,zL,Bool.and_self,qL6,hr',one,Option.map_some]; rfl
theorem qPs (h:SR n0 H0 g0 S ρ ve lb g fr H) {c:Call} {t:TypeId} {ts:List TypeId} {x:SV} (ho:o.op=.call c) (hcal:c.callee=.builtin .len) (hts:c.argTypes.toList=t::ts) (hargs:rE E fr c.args.toList=some [x.val ve lb])
  (hw:wp E HS Q (match E.types.get t with
   | some { desc:=.string,.. }=>j4 (.len true) [x] .pure true S κ
   | some { desc:=.slice _,.. }=>j4 (.len false) [x] .pure true S κ
   | _=>.fail) ρ):jU wm E HS Q n0 H0 g0 fr H o κ:=by
 have run:∀ {n:Int},qFl E H (t::ts) (x.val ve lb)=some (goInt n)->jD E fr o H=some (.val (goInt n),H):=by
  intro n hn
  unfold jD; rw [ho]
  simp only [oA,hargs,hcal,hts,wK,hn,one,Option.map_some]
 split at hw
 ·rename_i sz bt z ag ht
  obtain ⟨d,h1,hd,hw⟩:=vN hw
  have hr:=z7 h.toSM (h1 x List.mem_cons_self)
  simp only [SV.ds,qKr] at hd
  generalize x.d (getD ρ)=xd at hd hr
  match xd,hd,hr with
  | .leaf (.string s),hd,hr =>
   simp only [oI] at hd
   subst hd
   have hv:=(hr.dr (by intro _ _ _ e; cases e)).leaf_inv.1
   exact .new h (k:=.pure) (one:=true) (by simp) (v:=goInt s.size) ⟨fun _=>rfl,.leaf rfl⟩ hw (run (by rw [hv]; simp only [qFl,ht]))
 ·rename_i el sz bt z ag ht
  obtain ⟨d,h1,hd,hw⟩:=vN hw
  have hr:=z7 h.toSM (h1 x List.mem_cons_self)
  simp only [SV.ds,qKr] at hd
  generalize x.d (getD ρ)=xd at hd hr
  match xd,hd,hr with
  | .sl v7 sz' es,hd,hr =>
   simp only [oI] at hd
   subst hd
   obtain ⟨b,o',l,c',rt,cs,vs,own,q⟩:=hr.sl h.mem
   refine .new h (k:=.pure) (one:=true) (by simp) (v:=goInt es.length) ⟨fun _=>rfl,.leaf rfl⟩ hw (run ?_)
   rw [q.v,q.n]; simp only [qFl,ht]
  | .nil,hd,hr =>
   simp only [oI] at hd
   subst hd
   have hv:=hr.dr (by intro _ _ _ e; cases e)
   generalize x.val ve lb=xv at hv run
   cases hv with
   | nil=>exact .new h (k:=.pure) (one:=true) (by simp) (v:=goInt 0) ⟨fun _=>rfl,.leaf rfl⟩ hw (run (by simp only [qFl,ht]; rfl))
 cases hw
end
end Go.Am
namespace Go.Am
open Go
section
variable {E:Env} {n0:Lim} {H0:AH} {g0:zF} {S:St} {ρ:List D} {ve:Nat->Value} {lb:Nat->Nat} {g:zF} {fr:Fr} {H:AH} {HS:FuncId->List D->D->Prop} {Q:Res1->Prop} {o:Oper} {κ:K1} {wm:Bool}
theorem qKV (h:SM n0 S ρ ve lb g H) {cs:List SV} (hp:∀ x∈cs,xD S x=true) (ho:∀ x∈cs,lZ S x=true):(SV.vals ve lb cs).all qN=true:=by
 rw [List.all_eq_true]
 intro v hv
 rw [SV.vals_map] at hv
 obtain ⟨x,hx,rfl⟩:=List.mem_map.1 hv
 exact qCg h (ho x hx) (jG h (hp x hx))
theorem SR.boxed (h:SR n0 H0 g0 S ρ ve lb g fr H) {b:Nat} {blk:Blk} {ds:List D} {vs:List Value} (hb:S.blks[b]? = some (some blk)) (hnl:blk.isL=false) (hd:∀ cs,jM (getD ρ) ve lb cs blk->cs=vs) (hdr:DRs g ds vs) (hone:vs.all qN=true) :
  ∃ el rt,SR n0 H0 g0 (S.boxed b) (ρ++[.ptr ds 0]) (bK ve S.n (.pointer (some ⟨lb b,0,none⟩))) lb (g.add (lb b) ⟨.cells vs el,rt,true⟩) fr H:=by
 have hlive:S.live b:=⟨_,hb⟩
 obtain ⟨el,rt,cs',q2,q3,q4⟩:=(h.blks b _ hb).2.cells hnl
 have:=hd _ q4
 subst this
 refine ⟨el,rt,?_⟩
 have hle:zF.le g (g.add (lb b) ⟨.cells cs' el,rt,true⟩):=zF.le_add (h.sepLG b hlive)
 have hnew:aG (g.add (lb b) ⟨.cells cs' el,rt,true⟩) H.blocks.get n0 ⟨.ptr,true⟩ (.ptr ds 0) (.pointer (some ⟨lb b,0,none⟩)) :=
  ⟨fun _=>rfl,.ptr zF.add_at (hdr.mono hle) hone,_,_,rfl⟩
 have e:ExtS S ρ ve g (S.new .ptr true) (ρ++[.ptr ds 0]) (bK ve S.n (.pointer (some ⟨lb b,0,none⟩))) g:=wU h.len
 have inv:∀ c x,(S.blks.set b none)[c]? = some (some x)->S.blks[c]? = some (some x)/\c≠b:=by
  intro c x hc
  rw [List.getElem?_set] at hc
  split at hc
  ·split at hc <;> cases hc
  rename_i hne; exact ⟨hc,fun e=>hne e.symm⟩
 refine { len:=by simp [St.boxed,St.new,h.len],wf:=h.wf,mem:=?_,base:=h.base,fix:=⟨by simp only [St.boxed,List.length_set]; exact h.fix.1,h.fix.2⟩,vars:=?_,blks:=?_,sepLG:=?_,sepFG:=?_,sepL:=?_,sepF:=?_,sepX:=?_,sz:=h.sz,rd:=h.rd,slots:=?_,sav:=h.sav.congr (by show S.n<=(S.new .ptr true).n; rw [wH]; omega) (by simp [St.boxed]) e.ve (fun _ _=>rfl),keep:=h.keep,low:=h.low,gk:=?_ }
 ·intro c k hc
  by_cases ec:c=lb b
  ·subst ec; rw [zF.add_at] at hc; rw [q2]; exact hc
  rw [zF.add_ne ec] at hc; exact h.mem c k hc
 ·intro i s hs
  rcases tY hs with ⟨h1,h2⟩ | ⟨h1,h2⟩
  ·rw [e.ve i h1,e.ρ i h1]; exact (h.vars i s h2).mono hle (fun _ _ _=>rfl)
  subst h1 h2
  rw [vW,qCt h.toSM]; exact hnew
 ·intro c x hc
  obtain ⟨h1,_⟩:=inv c x hc
  obtain ⟨r1,r2⟩:=h.blks c x h1
  refine ⟨Blk.bd_mono ?_ (by simp [St.boxed]) r1,r2.congr rfl rfl fun _ r4=>r4.congr e.ve (fun _ _=>rfl) e.ρ r1⟩
  show S.n<=(S.new .ptr true).n
  rw [wH]; omega
 ·intro c ⟨x,hc⟩
  obtain ⟨h1,h2⟩:=inv c x hc
  rw [zF.add_ne (fun ec=>h2 (h.sepL c b ⟨x,h1⟩ hlive ec))]
  exact h.sepLG c ⟨x,h1⟩
 ·intro i B hi hB
  obtain ⟨h1,h2⟩:=yS (S:=S) (k:=.ptr) (o:=true) (by simp) hi
  rw [e.ve i h2] at hB
  rw [zF.add_ne (fun ec=>h.sepX b i hlive h1 (by rw [hB,ec]))]
  exact h.sepFG i B h1 hB
 ·intro c d ⟨x,hc⟩ ⟨y,hd⟩ he
  exact h.sepL c d ⟨x,(inv c x hc).1⟩ ⟨y,(inv d y hd).1⟩ he
 ·intro i j B hi hj h1 h2
  obtain ⟨a1,a2⟩:=yS (S:=S) (k:=.ptr) (o:=true) (by simp) hi
  obtain ⟨b1,b2⟩:=yS (S:=S) (k:=.ptr) (o:=true) (by simp) hj
  rw [e.ve _ a2] at h1
  rw [e.ve _ b2] at h2
  exact h.sepF i j B a1 b1 h1 h2
 ·intro c i ⟨x,hc⟩ hi
  obtain ⟨a1,a2⟩:=yS (S:=S) (k:=.ptr) (o:=true) (by simp) hi
  rw [e.ve _ a2]
  exact h.sepX c i ⟨x,(inv c x hc).1⟩ a1
 ·intro t x hx
  simp only [St.boxed,T.get_map,Option.map_eq_some_iff] at hx
  obtain ⟨y,h1,rfl⟩:=hx
  obtain ⟨r1,r2⟩:=h.slots t y h1
  have hn:S.n<=(S.new .ptr true).n:=by rw [wH]; omega
  have keep:SV.bd (S.new .ptr true).n (S.blks.set b none).length y/\fr.t.get t=some (y.val (bK ve S.n (.pointer (some ⟨lb b,0,none⟩))) lb) :=
   ⟨SV.bd_mono hn (by simp) r1,by rw [e.val r1]; exact r2⟩
  cases y with
  | loc b' off =>
   simp only [qV]
   split
   ·rename_i eb
    subst eb
    refine ⟨?_,?_⟩
    ·show S.n < (S.new .ptr true).n
     rw [wH]; omega
    rw [r2]; simp only [SV.val,vW,qLQ,Nat.zero_add]
   exact keep
  | _=>exact keep
 intro c hc
 rw [zF.add_ne (by intro e; subst e; exact (xQ h.toSM hlive).2 hc)]
 exact h.gk c hc
theorem qCM:∀ (xs:List SV) {S:St} {ρ:List D} {ve:Nat->Value} {g:zF} {acc:List SV} {κ:List SV->St->Tree},SR n0 H0 g0 S ρ ve lb g fr H->SV.bds S.n S.blks.length acc->SV.bds S.n S.blks.length xs->wp E HS Q (qEt xs acc S κ) ρ ->
  ∃ l S' ρ' ve' g',SR n0 H0 g0 S' ρ' ve' lb g' fr H/\S.n<=S'.n/\S'.blks.length=S.blks.length/\(∀ i,i < S.n->ve' i=ve i)/\wp E HS Q (κ l S') ρ'/\SV.bds S'.n S'.blks.length l/\SV.vals ve' lb l=SV.vals ve lb (acc++xs)
 | [],S,ρ,ve,g,acc,κ,h,ha,hx,hw=>⟨acc,S,ρ,ve,g,h,lR _,rfl,fun _ _=>rfl,hw,ha,by rw [List.append_nil]⟩
 | x::r,S,ρ,ve,g,acc,κ,h,ha,hx,hw=>by
  have plain:wp E HS Q (qEt r (acc++[x]) S κ) ρ->∃ l S' ρ' ve' g',SR n0 H0 g0 S' ρ' ve' lb g' fr H/\S.n<=S'.n/\S'.blks.length=S.blks.length/\(∀ i,i < S.n->ve' i=ve i)/\wp E HS Q (κ l S') ρ'/\SV.bds S'.n S'.blks.length l/\SV.vals ve' lb l=SV.vals ve lb (acc++x::r):=by
   intro hw
   obtain ⟨l,S',ρ',ve',g',r1,r2,r3,r4,r5,r6,r7⟩:=qCM r h (acc:=acc++[x]) (by
    rw [SV.bds_iff] at ha ⊢
    intro u hu
    rcases List.mem_append.1 hu with hu | hu
    ·exact ha u hu
    simp only [List.mem_singleton] at hu; subst hu; exact hx.1) hx.2 hw
   exact ⟨l,S',ρ',ve',g',r1,r2,r3,r4,r5,r6,by rw [r7]; simp⟩
  cases x with
  | loc b off =>
   cases off with
   | succ n=>exact plain hw
   | zero =>
    simp only [qEt] at hw
    have go:∀ {S1:St} {g1:zF} {blk:Blk} {ds:List D} {vs:List Value},ExtS S ρ ve g S1 ρ ve g1->SR n0 H0 g0 S1 ρ ve lb g1 fr H->S1.blks[b]? = some (some blk)->blk.isL=false->(∀ cs,jM (getD ρ) ve lb cs blk->cs=vs)->DRs g1 ds vs->vs.all qN=true ->
      wp E HS Q (qEt r (acc++[.pp S1.n 0]) (S1.boxed b) κ) (ρ++[.ptr ds 0]) ->
      ∃ l S' ρ' ve' g',SR n0 H0 g0 S' ρ' ve' lb g' fr H/\S.n<=S'.n/\S'.blks.length=S.blks.length/\(∀ i,i < S.n->ve' i=ve i)/\wp E HS Q (κ l S') ρ'/\SV.bds S'.n S'.blks.length l/\SV.vals ve' lb l=SV.vals ve lb (acc++.loc b 0::r):=by
     intro S1 g1 blk ds vs e1 h1 hb hnl hd hdr hone hw
     obtain ⟨el,rt,h2⟩:=h1.boxed hb hnl hd hdr hone
     have hnle:S.n<=S1.n:=e1.n
     have hnew:(S1.boxed b).n=S1.n+1:=by show (S1.new .ptr true).n=_; rw [wH]
     have hbl:(S1.boxed b).blks.length=S.blks.length:=by simp [St.boxed,e1.blks]
     have hve:∀ i,i < S.n->bK ve S1.n (.pointer (some ⟨lb b,0,none⟩)) i=ve i:=fun i hi=>sX (by omega)
     obtain ⟨l,S',ρ',ve',g',r1,r2,r3,r4,r5,r6,r7⟩:=qCM r h2 (acc:=acc++[.pp S1.n 0]) (by
      rw [SV.bds_iff] at ha ⊢
      intro u hu
      rw [hbl]
      rcases List.mem_append.1 hu with hu | hu
      ·exact SV.bd_mono (by omega) (lR _) (ha u hu)
      ·simp only [List.mem_singleton] at hu; subst hu; show S1.n < (S1.boxed b).n; omega) (by
      rw [hbl]
      exact SV.bds_mono (by omega) (lR _) hx.2) hw
     refine ⟨l,S',ρ',ve',g',r1,by omega,by rw [r3,hbl],?_,r5,r6,?_⟩
     ·intro i hi
      rw [r4 i (by omega),hve i hi]
     rw [r7]
     simp only [SV.vals_map,List.map_append,List.map_cons,List.map_nil,List.append_assoc,List.cons_append,List.nil_append]
     have a1:acc.map (SV.val (bK ve S1.n (.pointer (some ⟨lb b,0,none⟩))) lb)=acc.map (SV.val ve lb):=by
      rw [← SV.vals_map,← SV.vals_map]; exact SV.vals_congr hve (fun _ _=>rfl) ha
     have a2:r.map (SV.val (bK ve S1.n (.pointer (some ⟨lb b,0,none⟩))) lb)=r.map (SV.val ve lb):=by
      rw [← SV.vals_map,← SV.vals_map]; exact SV.vals_congr hve (fun _ _=>rfl) hx.2
     rw [a1,a2]
     simp only [SV.val,vW,qLQ]
    split at hw
    ·rename_i cs hb
     obtain ⟨g1,e1,h1⟩:=jT cs h
     obtain ⟨hc,hw⟩:=jP hw
     simp only [vF,List.all_eq_true] at hc
     simp only [wp,qP3] at hw
     exact go e1 h1 (by rw [e1.blks]; exact hb) rfl (fun cs' hb'=>by simpa [jM] using hb') (pG h1.toSM hc.1) (qKV h1.toSM hc.1 hc.2) hw
    ·rename_i x n hb
     obtain ⟨hp,hw⟩:=jP hw
     simp only [wp] at hw
     obtain ⟨_,_,_,_,_,_,_,dsx,hdx,_⟩:=h.blks b _ hb
     simp only [SV.ds,hdx,qMB] at hw
     obtain ⟨vs,hv,hvs,ho⟩:=xK (jG h.toSM hp) hdx
     exact go .refl h hb rfl (fun cs' hb'=>(by rw [hb'.1,hv]; rfl)) hvs ho hw
    cases hw
  | _=>exact plain hw
theorem qDo (h:SR n0 H0 g0 S ρ ve lb g fr H) {f:Fn} {first cap:Array Operand} (ho:o.op=.makeFunc f first cap) (hw:wp E HS Q (jN E o S κ) ρ):jU wm E HS Q n0 H0 g0 fr H o κ:=by
 unfold jN at hw
 rw [ho] at hw
 simp only at hw
 split at hw
 case h_2=>cases hw
 rename_i a b ha hb
 obtain ⟨a1,a2⟩:=lU (E:=E) h ha
 obtain ⟨b1,b2⟩:=lU (E:=E) h hb
 obtain ⟨hp,hw⟩:=jP hw
 obtain ⟨l,S',ρ',ve',g',r1,r2,r3,r4,r5,r6,r7⟩:=qCM b h (acc:=[]) trivial b1 hw
 refine .same r1 (y:=.fn f a l) ⟨by rw [r3]; exact SV.bds_mono r2 (lR _) a1,r6⟩ r5 ?_
 unfold jD; rw [ho]
 simp only [List.nil_append] at r7
 simp only [a2,b2,one,hp,if_true,Option.map_some,SV.val,SV.vals_congr r4 (fun _ _=>rfl) a1,r7]
end
end Go.Am
namespace Go.Am
open Go
theorem zM {α:Type} {b:Bool} {x:Option α} {d:α} (h:(bif b then x else none)=some d):b=true/\x=some d:=by
 cases b with
 | true=>exact ⟨rfl,h⟩
 | false=>cases h
section
variable {E:Env} {n0:Lim} {H0:AH} {g0:zF} {S:St} {ρ:List D} {ve:Nat->Value} {lb:Nat->Nat} {g:zF} {fr:Fr} {H:AH} {HS:FuncId->List D->D->Prop} {Q:Res1->Prop} {o:Oper} {κ:K1} {wm:Bool}
theorem qGC {i j:Nat} {s:VSt} (h:(S.kill i).sts[j]? = some s):∃ s0,S.sts[j]? = some s0/\s=if i=j then ⟨.dead,s0.one⟩ else s0:=by
 simp only [St.kill,List.getElem?_modify] at h
 cases hs:S.sts[j]? with
 | none=>rw [hs] at h; simp at h
 | some s0 =>
  rw [hs] at h
  refine ⟨s0,rfl,?_⟩
  simp at h
  split at h <;> rename_i e
  ·rw [if_pos e]; exact h.symm
  rw [if_neg e]; exact h.symm
theorem nR {i:Nat}:(S.kill i).n=S.n:=by simp [St.kill,St.n]
theorem xR {i j:Nat} (h:(S.kill i).freshV j=true):S.freshV j=true/\j≠i:=by
 obtain ⟨o,h⟩:=zV.1 h
 obtain ⟨s0,h1,h2⟩:=qGC h
 split at h2
 ·cases h2
 rename_i hne
 subst h2
 exact ⟨zV.2 ⟨_,h1⟩,fun e=>hne e.symm⟩
theorem SR.killed (h:SR n0 H0 g0 S ρ ve lb g fr H) (i:Nat):SR n0 H0 g0 (S.kill i) ρ ve lb g fr H:=by
 refine { h with len:=by simp [St.kill,h.len],vars:=?_,blks:=?_,sepFG:=?_,sepF:=?_,sepX:=?_,slots:=?_,sav:=by rw [nR]; exact h.sav }
 ·intro j s hs
  obtain ⟨s0,h1,h2⟩:=qGC hs
  have hv:=h.vars j s0 h1
  split at h2
  ·subst h2; exact ⟨hv.1,trivial⟩
  subst h2; exact hv
 ·intro b x hb
  obtain ⟨q1,q⟩:=h.blks b x hb
  exact ⟨by rw [nR]; exact q1,q⟩
 ·intro j B hj ho
  exact h.sepFG j B (xR hj).1 ho
 ·intro a b B ha hb h1 h2
  exact h.sepF a b B (xR ha).1 (xR hb).1 h1 h2
 ·intro b j hb hj
  exact h.sepX b j hb (xR hj).1
 intro t x hx
 obtain ⟨q1,q2⟩:=h.slots t x hx
 exact ⟨by rw [nR]; exact q1,q2⟩
theorem SR.heap2 (h:SR n0 H0 g0 S ρ ve lb g fr H) {H':AH} (X:Nat->Prop) (hold:∀ b,b < H.next->¬X b->H'.blocks.get b=H.blocks.get b) (xg:∀ b,X b->g b=none) (xl:∀ b c,X b->S.live c->lb c≠b)
  (xf:∀ b i,X b->S.freshV i=true->jO (ve i)≠some b) (xn:∀ b,X b->¬ n0.K b) (hwf:WF H') (hn:H.next<=H'.next) (hl:Nat.min H0.low n0.n<=H'.low) :
  SR n0 H0 g0 S ρ ve lb g fr H':=by
 refine { h with wf:=hwf,mem:=?_,base:=h.base.mono hn,vars:=?_,blks:=?_,keep:=?_,low:=hl }
 ·intro b k hb
  rw [hold b (qMo h.toSM hb) (fun hx=>by rw [xg b hx] at hb; cases hb)]
  exact h.mem b k hb
 ·intro i s hs
  refine (h.vars i s hs).mono (zF.le_refl _) fun hk B hB=>?_
  obtain ⟨k,o⟩:=s
  simp only at hk
  subst hk
  have hf:=zV.2 ⟨o,hs⟩
  exact hold B (oR h.toSM hf hB).1 (fun hx=>xf B i hx hf hB)
 ·intro b x hb
  obtain ⟨q1,q2⟩:=h.blks b x hb
  exact ⟨q1,q2.congr (hold _ (xQ h.toSM ⟨x,hb⟩).1 (fun hx=>xl _ b hx ⟨x,hb⟩ rfl)) rfl fun _ q4=>q4⟩
 intro b hb
 rw [hold b (h.base.2 b hb) (fun hx=>xn b hx hb)]
 exact h.keep b hb
theorem nP {o:Bool} {i:Nat} (h:(S.new .fresh o).freshV i=true):(S.freshV i=true/\i < S.n)∨i=S.n:=by
 obtain ⟨o',h'⟩:=zV.1 h
 rcases tY h' with ⟨h1,h2⟩ | ⟨h1,h2⟩
 ·exact .inl ⟨zV.2 ⟨_,h2⟩,h1⟩
 exact .inr h1
theorem SR.newFresh (h:SR n0 H0 g0 S ρ ve lb g fr H) {d:D} {v:Value} (hv:gY g H.blocks.get n0 d v) (hd:d.one=true) (xg:∀ B,jO v=some B->g B=none) (xl:∀ B c,jO v=some B->S.live c->lb c≠B)
  (xf:∀ B i,jO v=some B->S.freshV i=true->jO (ve i)≠some B):SR n0 H0 g0 (S.new .fresh true) (ρ++[d]) (bK ve S.n v) lb g fr H:=by
 have e:ExtS S ρ ve g (S.new .fresh true) (ρ++[d]) (bK ve S.n v) g:=wU h.len
 refine { len:=by simp [St.new,h.len],wf:=h.wf,mem:=h.mem,base:=h.base,fix:=h.fix,vars:=?_,blks:=?_,sepLG:=h.sepLG,sepFG:=?_,sepL:=h.sepL,sepF:=?_,sepX:=?_,sz:=h.sz,rd:=h.rd,slots:=?_,sav:=h.sav.congr e.n (lR _) e.ve (fun _ _=>rfl),keep:=h.keep,low:=h.low,gk:=h.gk }
 ·intro i s hs
  rcases tY hs with ⟨h1,h2⟩ | ⟨h1,h2⟩
  ·rw [e.ve i h1,e.ρ i h1]; exact h.vars i s h2
  subst h1 h2
  rw [vW,qCt h.toSM]; exact ⟨fun _=>hd,hv⟩
 ·intro b x hb
  obtain ⟨q1,q2⟩:=h.blks b x hb
  exact ⟨Blk.bd_mono (by rw [wH]; omega) (lR _) q1,q2.congr rfl rfl fun _ q4=>q4.congr e.ve (fun _ _=>rfl) e.ρ q1⟩
 ·intro i B hi hB
  rcases nP hi with ⟨h1,h2⟩ | rfl
  ·rw [e.ve i h2] at hB; exact h.sepFG i B h1 hB
  rw [vW] at hB; exact xg B hB
 ·intro i j B hi hj h1 h2
  rcases nP hi with ⟨a1,a2⟩ | rfl <;> rcases nP hj with ⟨b1,b2⟩ | rfl
  ·rw [e.ve _ a2] at h1; rw [e.ve _ b2] at h2
   exact h.sepF i j B a1 b1 h1 h2
  ·rw [e.ve _ a2] at h1; rw [vW] at h2
   exact absurd h1 (xf B i h2 a1)
  ·rw [vW] at h1; rw [e.ve _ b2] at h2
   exact absurd h2 (xf B j h1 b1)
  rfl
 ·intro b i hb hi
  rcases nP hi with ⟨a1,a2⟩ | rfl
  ·rw [e.ve _ a2]; exact h.sepX b i hb a1
  rw [vW]
  intro hB
  exact xl _ b hB hb rfl
 intro t x hx
 obtain ⟨q1,q2⟩:=h.slots t x hx
 exact ⟨e.bd q1,by rw [q2,e.val q1]⟩
theorem WF.move (h:WF H) {b:Nat} {k:ABlk} (hb:H.blocks.get b=some k) (x:AObj):WF (H.move b k x):=by
 intro c k' hc
 rw [AH.get_move] at hc
 split at hc
 ·rename_i e; cases hc; subst e
  have:=h b k hb
  exact ⟨by show k.root<=_; omega,Nat.lt_succ_self _⟩
 split at hc
 ·cases hc
 exact ⟨(h c k' hc).1,Nat.lt_succ_of_lt (h c k' hc).2⟩
theorem eD (hm:zF.le g H.blocks.get) {el sz:Nat} {es:List D} {v:Value} (h:qEF g H.blocks.get (.sl el sz es) v) :
  ∃ vs b o c,v=.slice (some ⟨b,o,none⟩) es.length c/\gT H sz es.length v=some vs/\DRs g (es.flatMap D.cells) vs/\vs.all qN=true/\(∀ e∈es,e.cells.length=sz)/\es.length < zG:=by
 obtain ⟨b,o,l,c,rt,cs,vs,own,q⟩:=h.sl hm
 have hl:=q.n
 subst hl
 refine ⟨vs,b,o,c,q.v,?_,q.r,q.o,q.s,q.x⟩
 rw [q.v]
 simp only [gT,qV]
 split
 ·rename_i e0
  have:=q.t
  rw [e0,Nat.zero_mul] at this
  simp only [take?] at this
  exact this
 have hle:Nat.ble es.length es.length=true:=bL (lR _)
 simp only [hle,cond_true,AH.loads,q.b,Nat.mul_eq]
 exact q.t
theorem qGL {a b:List D} {x y:List Value} (h:DRs g (a.flatMap D.cells) x) (h':DRs g (b.flatMap D.cells) y):DRs g ((a++b).flatMap D.cells) (x++y):=by
 rw [List.flatMap_append]
 exact h.append h'
theorem qCa (h:SM n0 S ρ ve lb g H) {el sz:TypeId} {es:List D} {vs:List Value} (hv:DRs g (es.flatMap D.cells) vs) (ho:vs.all qN=true) (hs:∀ e∈es,e.cells.length=sz) (hx:es.length < zG) :
  gY g (H.new (.cells vs el)).blocks.get n0 (.sl el sz es) (.slice (some ⟨H.next,0,none⟩) es.length zG):=by
 refine .inr ⟨H.next,es.length,vs,vs,el,H.next,sz,es,rfl,rfl,?_,h.base.new,?_,hv,rfl,hs,hx,ho⟩
 ·rw [AH.get_new,if_pos rfl]
 have hl:vs.length=es.length * sz:=by rw [hv.length,pO hs]
 rw [yG (by omega),List.take_of_length_le (by omega)]
theorem qHv (h:SR n0 H0 g0 S ρ ve lb g fr H) {c:Call} {s x:SV} (ho:o.op=.call c) (hcal:c.callee=.builtin .append) (hargs:rE E fr c.args.toList=some [s.val ve lb,x.val ve lb])
  (hsb:s.bd S.n S.blks.length) (hxb:x.bd S.n S.blks.length) (hw:wp E HS Q (qQn E c.argTypes.toList s x S κ) ρ):jU (qFQ S [s,x]) E HS Q n0 H0 g0 fr H o κ:=by
 unfold qQn at hw
 split at hw
 case h_2=>cases hw
 rename_i t xt tr hts
 split at hw
 case h_2=>cases hw
 rename_i el xi hel hxi
 obtain ⟨sz0,bt0,z0,ag0,ht⟩:=gH hel
 split at hw
 case h_2=>cases hw
 rename_i e xel hte hxd
 split at hw
 case h_2=>cases hw
 rename_i z hz
 simp only at hw
 have run:∀ {v:Value} {H':AH},jC E H (t::xt::tr) (s.val ve lb) (x.val ve lb)=some (.val v,H')->jD E fr o H=some (.val v,H'):=by
  intro v H' ha
  unfold jD; rw [ho]
  simp only [oA,hargs,hcal,hts,wK,ha]
 have main:∀ {wA:Bool} {S':St},(wA=false->qCT g (s.d (getD ρ)) (s.val ve lb))->SR n0 H0 g0 S' ρ ve lb g fr H->S'.n=S.n->S'.blks=S.blks->(gY g H.blocks.get n0 (s.d (getD ρ)) (s.val ve lb)/\(s.d (getD ρ)).one=true) ->
   (∀ B,jO (s.val ve lb)=some B->g B=none/\(∀ c,S'.live c->lb c≠B)/\(∀ i,S'.freshV i=true->jO (ve i)≠some B)/\¬ n0.K B) ->
   wp E HS Q (bif yQ S x && Nat.ble 1 e.size then Tree.bind (.app el e.size e.bytes) [s,x] (κ (.v S.n) (S'.new .fresh true)) else .fail) ρ->jU wA E HS Q n0 H0 g0 fr H o κ:=by
  intro wA S' hwA h' hn' hb' hs hex hw
  obtain ⟨hc,hw⟩:=jP hw
  simp only [vF] at hc
  have hrx:=z7 h.toSM hc.1
  simp only [wp] at hw
  split at hw
  case h_2=>cases hw
  rename_i d hd
  simp only [SV.ds,fY] at hd
  obtain ⟨hfr,hone⟩:=hs
  have stay:∀ (hd':d=s.d (getD ρ)),jC E H (t::xt::tr) (s.val ve lb) (x.val ve lb)=some (.val (s.val ve lb),H)->jU wA E HS Q n0 H0 g0 fr H o κ:=by
   intro hd' ha
   subst hd'
   have h2:=h'.newFresh hfr hone (fun B hB=>(hex B hB).1) (fun B c hB hc=>(hex B hB).2.1 c hc) (fun B i hB hi=>(hex B hB).2.2.1 i hi)
   rw [← hn'] at hw
   refine ⟨.v S'.n,_,_,_,_,_,_,h2,pW,hw,.of_val (lR _) ?_,fun _=>Nat.min_le_left _ _⟩
   simp only [SV.val,vW]
   exact run ha
  have hsr:qEF g H.blocks.get (s.d (getD ρ)) (s.val ve lb):=by
   rcases hfr with q | ⟨B,l,cs,vs,v7,rt,sz,es,q⟩
   ·exact .inl q.dr
   exact .inr ⟨n0,B,l,cs,vs,v7,rt,sz,es,q⟩
  generalize hxdd:x.d (getD ρ)=xd at hd hrx
  generalize hsdd:s.d (getD ρ)=sd at hd hfr hone hsr stay
  have hsl:sd=.nil∨∃ v7 sz' es',sd=.sl v7 sz' es':=by
   rcases hfr with q | ⟨B,l,cs,vs,v7,rt,sz,es,q⟩
   ·rcases q.sl with q | ⟨_,_,q⟩
    ·exact .inl q
    exact .inr ⟨_,_,_,q⟩
   exact .inr ⟨_,_,_,q.d⟩
  have hlen:∃ l c base,s.val ve lb=.slice base l c/\pC sd=some l/\l=sd.es.length:=by
   rcases hsl with rfl | ⟨v7,sz',es',rfl⟩
   ·have:=hsr.dr (by intro _ _ _ e; cases e)
    generalize s.val ve lb=sv at this
    cases this with
    | nil=>exact ⟨0,0,none,rfl,rfl,rfl⟩
   obtain ⟨vs,b,o',c',q1,_⟩:=eD h'.mem hsr
   exact ⟨_,_,_,q1,rfl,rfl⟩
  obtain ⟨l,cp,base,hsv,hss,hll⟩:=hlen
  rw [hss] at hd
  have hxs:xd=.nil∨∃ el2 sz2 es2,xd=.sl el2 sz2 es2:=by
   cases xd with
   | nil=>exact .inl rfl
   | sl a b c=>exact .inr ⟨a,b,c,rfl⟩
   | _=>simp only [reduceCtorEq] at hd
  rcases hxs with rfl | ⟨el2,sz2,es2,rfl⟩
  ·simp only at hd
   obtain ⟨hle,hd⟩:=zM hd
   simp only [oI] at hd
   have hxv:=hrx.dr (by intro _ _ _ e; cases e)
   refine stay hd.symm ?_
   generalize x.val ve lb=xv at hxv
   cases hxv with
   | nil =>
    rw [hsv]
    have hnc:kS H xi e (.slice none 0 0)=some (0,[]):=by
     simp only [kS,hxd,qHH]
     rfl
    have hl0:Nat.add l 0=l:=rfl
    have hle':Nat.ble (Nat.mul (Nat.add (Nat.mul 4 (Nat.add l 0)) 4000) (Nat.succ e.bytes)) 100000000000=true:=by rw [hl0]; exact hle
    simp only [jC,ht,hxi,hte,hz,hnc,hle',cond_true]
    rfl
  simp only at hd
  obtain ⟨hcond,hd3⟩:=zM hd
  clear hd
  simp only [vF] at hcond
  obtain ⟨⟨hle,hsz2⟩,hmatch⟩:=hcond
  have hsz2:=vU hsz2
  subst hsz2
  obtain ⟨nvs,nb,no,nc,n1,n2,n3,n4,n5,n6⟩:=eD h'.mem hrx
  have hnc:kS H xi e (x.val ve lb)=some (es2.length,nvs):=by
   have hln:qHH (x.val ve lb)=some es2.length:=by rw [n1]; rfl
   simp only [kS,hxd,hln,n2,Option.map_some]
  simp only [qV] at hd3
  by_cases hn0:es2.length=0
  ·rw [if_pos hn0] at hd3
   have hd:sd=d:=Option.some.inj hd3
   refine stay hd.symm ?_
   rw [hsv]
   rw [hn0] at hle hnc
   simp only [jC,ht,hxi,hte,hz,hnc,hle,cond_true]
   rfl
  rw [if_neg hn0] at hd3
  have hd : .sl el e.size (sd.es++es2)=d:=Option.some.inj hd3
  subst hd
  have hnb:Nat.beq es2.length 0=false:=by
   cases hb:Nat.beq es2.length 0 with
   | false=>rfl
   | true=>exact absurd (vU hb) hn0
  have hbound:4 * (l+es2.length)<=100000000000:=by
   have:=lB hle
   simp only [Nat.mul_eq,Nat.add_eq,Nat.succ_eq_add_one] at this
   have h1:(4 * (l+es2.length)+4000) * 1<=(4 * (l+es2.length)+4000) * (e.bytes+1):=Nat.mul_le_mul_left _ (by omega)
   omega
  have hcap:(sd.es++es2).length < zG:=by
   rw [List.length_append,← hll]; unfold zG; omega
  have hlen2:(sd.es++es2).length=l+es2.length:=by rw [List.length_append,← hll]
  have fresh:∀ {old:List Value},DRs g (sd.es.flatMap D.cells) old->old.all qN=true->(∀ e'∈sd.es,e'.cells.length=e.size) ->
    jC E H (t::xt::tr) (s.val ve lb) (x.val ve lb)=some (.val (.slice (some ⟨H.next,0,none⟩) (Nat.add l es2.length) zG),H.new (.cells (old++nvs) el))->jU wA E HS Q n0 H0 g0 fr H o κ:=by
   intro old o1 o2 o3 ha
   have h2:=h'.heap (H':=H.new (.cells (old++nvs) el)) dU (h'.wf.new _) (Nat.le_succ _) h'.low
   have hown:=qCa (el:=el) (sz:=e.size) h'.toSM (qGL o1 n3) (by rw [List.all_append,o2,n4]; rfl) (fun e' he=>by
    rcases List.mem_append.1 he with he | he
    ·exact o3 e' he
    exact n5 e' he) hcap
   rw [hlen2] at hown
   have hB:∀ B,jO (.slice (some ⟨H.next,0,none⟩) (l+es2.length) zG)=some B->B=H.next:=fun B hB=>by
    simp only [jO,lR,if_true,oI] at hB; exact hB.symm
   have h3:=h2.newFresh hown rfl (fun B q=>by rw [hB B q]; exact uP h'.toSM) (fun B c q hc=>by have:=(xQ h'.toSM hc).1; rw [hB B q]; omega)
    (fun B i q hi hoi=>by have:=(oR h'.toSM hi hoi).1; rw [hB B q] at this; omega)
   rw [← hn'] at hw
   refine ⟨.v S'.n,_,_,_,_,_,_,h3,pW,hw,.of_val (Nat.le_succ _) ?_,fun _=>lM⟩
   simp only [SV.val,vW]
   exact run ha
  rcases hfr with (⟨h1,h2⟩ | ⟨h1,⟨ab,ao,ap⟩,h2⟩) | ⟨B,l',cs,vs,v7,rt,sz,es',q⟩
  ·
   -- there was none
   subst h2
   have hl0:l=0:=hll
   subst hl0
   refine fresh (old:=[]) .nil rfl (fun e' he=>by cases he) ?_
   rw [h1]
   simp only [jC,ht,hxi,hte,hz,hnc,hle,cond_true,hnb,cond_false]
   rfl
  ·
   -- a literal of none
   rw [h2] at hsv
   cases hsv
   have hsd:∃ v7 sz',sd=.sl v7 sz' []:=by
    rw [h2] at h1
    cases h1 with
    | leaf h0=>simp [xN] at h0
    | sl _ _ _ hl=>exact ⟨_,_,by rw [List.length_eq_zero_iff.1 hl]⟩
   obtain ⟨v7,sz',rfl⟩:=hsd
   have hp:ap=none:=by
    rw [h2] at h1
    cases h1 with
    | sl=>rfl
   subst hp
   simp only [vF] at hmatch
   have e1:=vU hmatch.1
   have e2:=vU hmatch.2
   subst e1 e2
   refine fresh (old:=[]) .nil rfl (fun e' he=>by cases he) ?_
   have c1:Nat.ble zG 0=false:=rfl
   have c2:Nat.ble (Nat.add 0 es2.length) 0=false:=by
    cases hb:Nat.ble (Nat.add 0 es2.length) 0 with
    | false=>rfl
    | true =>
     have:=lB hb
     simp only [Nat.add_eq] at this
     have h0:Nat.beq es2.length 0=true:=by rw [show es2.length=0 by omega]; rfl
     rw [h0] at hnb; cases hnb
   rw [h2]
   simp only [jC,ht,hxi,hte,hz,hnc,hle,cond_true,hnb,cond_false,c1,c2,gT,Nat.beq_refl,List.nil_append]
  -- one of its own
  have hd0:=q.d
  subst hd0
  simp only [vF] at hmatch
  have e1:=vU hmatch.1
  have e2:=vU hmatch.2
  subst e1 e2
  obtain ⟨ovs,ob,oo,oc,p1,p2,p3,p4,p5,p6⟩:=eD h'.mem hsr
  simp only [D.es] at hll hcap hlen2 hw
  subst hll
  rw [q.v] at p1 hsv
  cases p1
  cases hsv
  obtain ⟨X,hX⟩:∃ X,X=ovs++nvs++List.drop (Nat.add 0 (Nat.mul (Nat.add es'.length es2.length) e.size)) cs:=⟨_,rfl⟩
  obtain ⟨x1,x2,x3,x4⟩:=hex B (by rw [q.v]; simp [jO])
  have hmv:∀ b,b < H.next->¬ b=B->(H.move B ⟨.cells cs v7,rt,true⟩ (.cells X v7)).blocks.get b=H.blocks.get b:=fun b hb hne=>by
   rw [AH.get_move,if_neg (by omega),if_neg hne]
  have hlow:Nat.min H0.low n0.n<=(H.move B ⟨.cells cs v7,rt,true⟩ (.cells X v7)).low :=
   Nat.le_min.2 ⟨h'.low,lT (Nat.min_le_right _ _) q.rt.1⟩
  have h2:=h'.heap2 (H':=H.move B ⟨.cells cs v7,rt,true⟩ (.cells X v7)) (fun b=>b=B) hmv (fun b e=>by rw [e]; exact x1) (fun b c e hc=>by rw [e]; exact x2 c hc) (fun b i e hi=>by rw [e]; exact x3 i hi) (fun b e=>by rw [e]; exact x4)
   (h'.wf.move q.b _) (Nat.le_succ _) hlow
  have hfl:=qGL p3 n3
  have hal:∀ e'∈es'++es2,e'.cells.length=e.size:=fun e' he=>by
   rcases List.mem_append.1 he with he | he
   ·exact p5 e' he
   exact n5 e' he
  have hown:gY g (H.move B ⟨.cells cs v7,rt,true⟩ (.cells X v7)).blocks.get n0 (.sl v7 e.size (es'++es2)) (.slice (some ⟨H.next,0,none⟩) (es'.length+es2.length) zG):=by
   refine .inr ⟨H.next,_,X,ovs++nvs,v7,rt,e.size,es'++es2,rfl,rfl,?_,⟨q.rt.1,h'.base.new.2⟩,?_,hfl,hlen2,hal,by rw [← hlen2]; exact hcap,by rw [List.all_append,p4,n4]; rfl⟩
   ·rw [AH.get_move,if_pos rfl]
   have hl:(ovs++nvs).length=(es'.length+es2.length) * e.size:=by rw [hfl.length,pO hal,hlen2]
   rw [hX,yG (by rw [List.length_append]; omega),List.take_append_of_le_length (by omega),List.take_of_length_le (by omega)]
  have hB:∀ B',jO (.slice (some ⟨H.next,0,none⟩) (es'.length+es2.length) zG)=some B'->B'=H.next:=fun B' hB=>by
   simp only [jO,lR,if_true,oI] at hB; exact hB.symm
  have h3:=h2.newFresh hown rfl (fun B' r=>by rw [hB B' r]; exact uP h'.toSM) (fun B' c r hc=>by have:=(xQ h'.toSM hc).1; rw [hB B' r]; omega)
   (fun B' i r hi hoi=>by have:=(oR h'.toSM hi hoi).1; rw [hB B' r] at this; omega)
  rw [← hn'] at hw
  refine ⟨.v S'.n,_,_,_,_,_,_,h3,pW,hw,.of_val (Nat.le_succ _) ?_,fun e=>by
   have:=(hwA e).own
   rw [q.v] at this
   simp [jO] at this⟩
  simp only [SV.val,vW]
  refine run ?_
  have c1:Nat.ble zG zG=true:=bL (lR _)
  have c2:Nat.beq (Nat.mod 0 e.size) 0=true:=by
   have:Nat.mod 0 e.size=0:=Nat.zero_mod _
   rw [this]; rfl
  have c3:Nat.beq v7 v7=true:=Nat.beq_refl _
  rw [q.v] at p2 ⊢
  simp only [jC,ht,hxi,hte,hz,hnc,hle,cond_true,hnb,cond_false,c1,q.b,p2,c2,c3,Bool.and_self]
  rw [hX]
  rfl
 split at hw
 ·
  -- nil
  exact main (fun _=>.inl ⟨rfl,rfl⟩) h rfl rfl ⟨.inl (.inl ⟨rfl,rfl⟩),rfl⟩ (fun B hB=>by cases hB) hw
 ·rename_i i
  have hi:i < S.n:=hsb
  split at hw
  ·
   -- a literal of none
   rename_i o1 hst
   have hv:=(h.vars i _ hst).2
   exact main (fun _=>hv) h rfl rfl ⟨.inl hv,qCT.one hv⟩ (fun B hB=>by have hB:jO (ve i)=some B:=hB; rw [qCT.own hv] at hB; cases hB) hw
  ·
   -- a list of the function's own
   rename_i o1 hst
   have hf:S.freshV i=true:=zV.2 ⟨_,hst⟩
   have hv:=h.vars i _ hst
   have go:wp E HS Q (bif yQ S x && Nat.ble 1 e.size then Tree.bind (.app el e.size e.bytes) [.v i,x] (κ (.v S.n) ((S.kill i).new .fresh true)) else .fail) ρ->jU true E HS Q n0 H0 g0 fr H o κ:=by
    intro hw
    refine main (wA:=true) (fun e=>by cases e) (h.killed i) nR rfl ⟨hv.2,?_⟩ (fun B hB=>⟨h.sepFG i B hf hB,fun c hc e=>h.sepX c i hc hf (by rw [e]; exact hB),fun j hj hoj=>?_,?_⟩) hw
    ·rcases hv.2 with q | ⟨B,l,cs,vs,v7,rt,sz,es,q⟩
     ·exact q.one
     show (getD ρ i).one=true
     rw [q.d]; rfl
    ·obtain ⟨k1,k2⟩:=xR hj
     exact k2 (h.sepF j i B k1 hf hoj hB)
    have hB':jO (ve i)=some B:=hB
    rcases hv.2 with q | ⟨B',l,cs,vs,v7,rt,sz,es,q⟩
    ·rw [q.own] at hB'; cases hB'
    rw [q.v] at hB'
    simp only [jO,lR,if_true,oI] at hB'
    subst hB'
    exact q.rt.2
   have hap:qFQ S [.v i,x]=true:=hf
   rw [hap]
   split at hw
   ·rename_i j
    rw [cond_eq_ite] at hw
    split at hw
    ·cases hw
    exact go hw
   exact go hw
  cases hw
 cases hw
end
end Go.Am
namespace Go.Am
open Go
section
variable {E:Env} {n0:Lim} {H0:AH} {g0:zF} {S:St} {ρ:List D} {ve:Nat->Value} {lb:Nat->Nat} {g:zF} {fr:Fr} {H:AH} {HS:FuncId->List D->D->Prop} {Q:Res1->Prop} {o:Oper} {κ:K1} {wm:Bool}
theorem qAT (h:SR n0 H0 g0 S ρ ve lb g fr H) {t:TypeId} {n:Nat} {ps:Array (Nat × Operand)} (ho:o.op=.buildSlice t n ps) (hw:wp E HS Q (jN E o S κ) ρ):jU wm E HS Q n0 H0 g0 fr H o κ:=by
 unfold jN at hw
 rw [ho] at hw
 simp only at hw
 split at hw
 case h_2=>cases hw
 rename_i el hel
 obtain ⟨sz,bt,z0,ag,ht⟩:=gH hel
 split at hw
 case h_2=>cases hw
 rename_i e hte
 split at hw
 case h_2=>cases hw
 rename_i z hz
 obtain ⟨hc,hw⟩:=jP hw
 simp only [vF] at hc
 have hzl:=vU hc.1
 have hn:=vU hc.2
 obtain ⟨l,S1,ρ1,ve1,g1,e1,h1,hw1,r1,r2,r3,vs,r4,r5⟩:=qEd (size:=e.size) hzl ps.toList (acc:=[]) (done:=[]) h trivial (by simp) rfl (fun x hx=>by cases hx) hw
 obtain ⟨g2,d,e2,h2,hp,hd,hw2⟩:=iD h1 hw1
 rw [qCA] at hd
 cases hcond:((SV.ds (getD ρ1) l).all (fun e'=>Nat.beq e'.cells.length e.size) && Nat.ble (Nat.mul (SV.ds (getD ρ1) l).length (Nat.succ e.size)) 1000000) with
 | false=>rw [hcond] at hd; cases hd
 | true =>
  rw [hcond] at hd
  simp only [cond_true,oI] at hd
  subst hd
  simp only [vF] at hcond
  have hlen:(SV.ds (getD ρ1) l).length=n:=by rw [SV.ds_map,List.length_map,r3,hn]; simp
  have hdr:=pG h2.toSM hp
  have hfl:=qFs hdr
  have hone:=qKh hdr (fun d hd=>by
   rw [SV.ds_map] at hd
   obtain ⟨x,hx,rfl⟩:=List.mem_map.1 hd
   exact (r2 x hx).2)
  have hsz:∀ x∈SV.ds (getD ρ1) l,x.cells.length=e.size:=fun x hx=>by
   have:=hcond.1
   rw [List.all_eq_true] at this
   exact vU (this x hx)
  rw [SV.vals_map] at hfl hone
  generalize hcs:(l.map (SV.val ve1 lb)).flatMap (fun v=>v.cells.toList)=cs at r5 hfl hone
  have hcl:cs.length=n * e.size:=by rw [hfl.length,pO hsz,hlen]
  have hsmall:n * (e.size+1)<=1000000:=by
   have:=lB hcond.2
   rw [hlen] at this
   exact this
  have hncap:n < zG:=by
   have:n * 1<=n * (e.size+1):=Nat.mul_le_mul_left n (by omega)
   unfold zG
   omega
  have h3:=h2.heap (H':=H.new (.cells cs el)) dU (h2.wf.new _) (Nat.le_succ _) h2.low
  have hexec:∀ {c:Nat},c=(bif Nat.beq n 0 then 0 else zG)->jD E fr o H=some (.val (.slice (some ⟨H.next,0,none⟩) n c),H.new (.cells cs el)):=by
   intro c hcc
   subst hcc
   unfold jD; rw [ho]
   simp only [List.nil_append] at r5
   rw [← hn] at r5
   have hble:Nat.ble (Nat.mul n (Nat.succ e.size)) 1000000=true:=bL hsmall
   obtain ⟨ed,es,eb,ez,ea⟩:=e
   simp only at hz hzl hble r5
   subst hz
   have hb2:Nat.beq z.length es=true:=by rw [hzl]; exact Nat.beq_refl _
   simp only [r4,wL,ht,hte,hb2,hble,Bool.and_self,cond_true,r5,Option.map_some]
  by_cases h0:n=0
  ·subst h0
   have hnil:SV.ds (getD ρ1) l=[]:=List.length_eq_zero_iff.1 hlen
   have hcs0:cs=[]:=List.length_eq_zero_iff.1 (by rw [hcl,Nat.zero_mul])
   subst hcs0
   have h4:=(h2.allocPure [] el).new (k:=.full) (o:=true) (d:=.sl el e.size []) (v:=.slice (some ⟨H.next,0,none⟩) 0 0) (by simp)
    ⟨fun _=>rfl,.inr ⟨.sl (cs:=[]) (vs:=[]) (sz:=e.size) zF.add_at (by rw [Nat.zero_mul]; rfl) .nil rfl (fun _ h=>by cases h) (lR _) (by unfold zG; omega) rfl,_,rfl⟩⟩
   rw [hnil] at hw2
   refine ⟨_,_,_,_,_,_,_,h4,pW,hw2,.of_val (Nat.le_succ _) ?_,fun _=>lM⟩
   simp only [SV.val,vW]
   exact hexec rfl
  have hb0:Nat.beq n 0=false:=by
   cases hc:Nat.beq n 0 with
   | false=>rfl
   | true=>exact absurd (vU hc) h0
  rw [hb0] at hw2
  have hown:=qCa (el:=el) (sz:=e.size) h2.toSM hfl hone hsz (by rw [hlen]; exact hncap)
  rw [hlen] at hown
  have hB:∀ B,jO (.slice (some ⟨H.next,0,none⟩) n zG)=some B->B=H.next:=fun B hB=>by
   simp only [jO,lR,if_true,oI] at hB; exact hB.symm
  have h4:=h3.newFresh hown rfl (fun B q=>by rw [hB B q]; exact uP h2.toSM) (fun B c q hc=>by have:=(xQ h2.toSM hc).1; rw [hB B q]; omega)
   (fun B i q hi hoi=>by have:=(oR h2.toSM hi hoi).1; rw [hB B q] at this; omega)
  refine ⟨_,_,_,_,_,_,_,h4,pW,hw2,.of_val (Nat.le_succ _) ?_,fun _=>lM⟩
  simp only [SV.val,vW]
  exact hexec (by rw [hb0]; rfl)
theorem oD {d:D} (h:d.one=true):d.cells=[d]:=by cases d <;> first | rfl | (simp [D.one] at h)
theorem qHj {x y:Operand} (h:qE1 x y=true):y=x:=by
 unfold qE1 at h
 split at h
 ·rw [vU h]
 ·simp only [vF,decide_eq_true_eq] at h; rw [h.1,h.2]
 cases h
theorem qQJ {ag:Bool} {z:List Value} {sz:Nat} (hz:z.length=sz) (hall:z.all (fun v=>zL v && qN v)=true) (hag:(ag || Nat.beq sz 1)=true):(zD ag z).cells=z.map qLa/\DRs g (z.map qLa) z:=by
 have hr:DRs g (z.map qLa) z:=by
  clear hz
  induction z with
  | nil=>exact .nil
  | cons v l ih =>
   simp only [List.all_cons,vF] at hall
   exact .cons (qE9 6 v hall.1.1) (ih (by simpa using hall.2))
 refine ⟨?_,hr⟩
 cases ag with
 | true=>rfl
 | false =>
  simp only [Bool.false_or] at hag
  have h1:=vU hag
  rw [h1] at hz
  match z,hz with
  | [v],_ =>
   simp only [List.all_cons,List.all_nil,Bool.and_true,vF] at hall
   have hd:DR g (qLa v) v:=qE9 6 v hall.1
   have ho:(qLa v).one=true:=by rw [← hd.one]; exact hall.2
   show (qLa v).cells=[qLa v]
   exact oD ho
theorem qGh {d:D} {z:List Value} (h:DRs g d.cells z):∀ n,DRs g ((List.replicate n d).flatMap D.cells) (xW z n)
 | 0=>.nil
 | n+1=>by
  rw [List.replicate_succ,List.flatMap_cons]
  exact h.append (qGh h n)
theorem qDd {z:List Value} (h:z.all qN=true):∀ n,(xW z n).all qN=true
 | 0=>rfl
 | n+1=>by rw [xW,List.all_append,h,qDd h n]; rfl
theorem qRO (h:SR n0 H0 g0 S ρ ve lb g fr H) {t:TypeId} {l c:Operand} (ho:o.op=.makeSlice t l c) (hw:wp E HS Q (jN E o S κ) ρ):jU wm E HS Q n0 H0 g0 fr H o κ:=by
 unfold jN at hw
 rw [ho] at hw
 simp only at hw
 split at hw
 case h_2=>cases hw
 rename_i el x hel hx
 obtain ⟨sz0,bt0,z0,ag0,ht⟩:=gH hel
 split at hw
 case h_2=>cases hw
 rename_i e hte
 split at hw
 case h_2=>cases hw
 rename_i z hz
 obtain ⟨hc,hw2⟩:=jP hw
 simp only [vF] at hc
 obtain ⟨xb,xe⟩:=z9 (E:=E) h hx
 have hlc:=qHj hc.1
 subst hlc
 simp only [wp] at hw2
 split at hw2
 case h_2=>cases hw2
 rename_i d hd
 simp only [SV.ds,qKp] at hd
 split at hd
 case h_2=>cases hd
 rename_i n hn
 obtain ⟨hcond,hd⟩:=zM hd
 simp only [vF,Nat.mul_eq,Nat.add_eq,Nat.succ_eq_add_one] at hcond
 obtain ⟨⟨⟨c1,c2⟩,c3⟩,c4⟩:=hcond
 have hzl:=vU c1
 simp only [oI] at hd
 subst hd
 obtain ⟨k,hxv⟩:=dW (z7 h.toSM hc.2) hn
 obtain ⟨q1,q2⟩:=qQJ (g:=g) hzl c2 (by simpa using c3)
 have hone:z.all qN=true:=by
  rw [List.all_eq_true] at c2 ⊢
  intro v hv
  have:=c2 v hv
  simp only [vF] at this
  exact this.2
 have hle:=lB c4
 have hncap:n < zG:=by
  have:n * 1<=n * (e.bytes+e.size+1):=Nat.mul_le_mul_left n (by omega)
  unfold zG
  omega
 have h3:=h.heap (H':=H.new (.cells (xW z n) el)) dU (h.wf.new _) (Nat.le_succ _) h.low
 have hown:=qCa (el:=el) (sz:=e.size) (es:=List.replicate n (zD e.agg z)) h.toSM (qGh (by rw [q1]; exact q2) n) (qDd hone n) (fun e' he'=>by
  rw [List.eq_of_mem_replicate he',q1,List.length_map,hzl]) (by rw [List.length_replicate]; exact hncap)
 rw [List.length_replicate] at hown
 have hB:∀ B,jO (.slice (some ⟨H.next,0,none⟩) n zG)=some B->B=H.next:=fun B hB=>by
  simp only [jO,lR,if_true,oI] at hB; exact hB.symm
 have h4:=h3.newFresh hown rfl (fun B q=>by rw [hB B q]; exact uP h.toSM) (fun B c q hc=>by have:=(xQ h.toSM hc).1; rw [hB B q]; omega)
  (fun B i q hi hoi=>by have:=(oR h.toSM hi hoi).1; rw [hB B q] at this; omega)
 refine ⟨_,_,_,_,_,_,_,h4,pW,hw2,.of_val (Nat.le_succ _) ?_,fun _=>lM⟩
 unfold jD; rw [ho]
 rw [hxv] at xe
 obtain ⟨ed,es,eb,ez,ea⟩:=e
 simp only at hz hzl hle c1 c4
 subst hz
 have hbb:Nat.beq n n=true:=Nat.beq_refl n
 have hbl:Nat.ble n n=true:=bL (lR n)
 have hc4:Nat.ble (Nat.mul n (Nat.succ (Nat.add eb es))) 1000000000=true:=c4
 simp only [xe,oS,ht,nat?,hte,c1,hbl,hc4,Bool.and_self,cond_true,hbb,SV.val,vW]
theorem qI4 {cs xs:List D} {off:Nat} (h:off+xs.length<=cs.length):(qAP cs off xs).length=cs.length:=by
 simp [qAP]; omega
theorem tF {e:D} {off sz:Nat} {xs:List D} (hl:e.cells.length=sz) (hx:off+xs.length<=sz) (ho:xs.all D.one=true):(qAQ e off xs).cells=qAP e.cells off xs:=by
 have other:e.cells=[e]->(∀ cs,e≠.agg cs)->(qAQ e off xs).cells=qAP e.cells off xs:=by
  intro hc hne
  have h1:sz=1:=by rw [← hl,hc]; rfl
  have hp:qAQ e off xs=(match (generalizing:=false) xs with
   | [x]=>x
   | _=>e):=by
   cases e with
   | agg cs=>exact absurd rfl (hne cs)
   | _=>rfl
  rw [hp,hc]
  match xs,hx,ho with
  | [],hx,_ =>
   simp only [hc,qAP,List.length_nil,Nat.add_zero,List.nil_append,List.take_append_drop]
  | [x],hx,ho =>
   have h0:off=0:=by simp at hx; omega
   subst h0
   simp only [List.all_cons,List.all_nil,Bool.and_true] at ho
   rw [oD ho]
   simp [qAP]
  | _::_::_,hx,_=>simp at hx; omega
 cases e with
 | agg cs=>rfl
 | _=>exact other rfl (fun _ h=>by cases h)
theorem qKg {es:List D} {sz n off:Nat} {e:D} {xs:List D} (hs:∀ e∈es,e.cells.length=sz) (he:es[n]? = some e) (hx:off+xs.length<=sz) (ho:xs.all D.one=true) :
  (es.set n (qAQ e off xs)).flatMap D.cells=qAP (es.flatMap D.cells) (n * sz+off) xs:=by
 have hn:n < es.length:=(gI he).1
 have hel:=hs e (List.mem_of_getElem? he)
 rw [List.set_eq_take_append_cons_drop,if_pos hn,List.flatMap_append,List.flatMap_cons,tF hel hx ho,← fV hs,← oE hs]
 have hmid:(es.flatMap D.cells).drop (n * sz)=e.cells++(es.flatMap D.cells).drop ((n+1) * sz):=by
  rw [oE hs,oE hs]
  have:es.drop n=e::es.drop (n+1):=by rw [List.drop_eq_getElem_cons hn]; congr 1; exact (gI he).2
  rw [this,List.flatMap_cons]
 unfold qAP
 have h1:(es.flatMap D.cells).take (n * sz+off)=(es.flatMap D.cells).take (n * sz)++e.cells.take off:=by
  rw [List.take_add,hmid,List.take_append_of_le_length (by omega)]
 have h2:(es.flatMap D.cells).drop (n * sz+off+xs.length)=e.cells.drop (off+xs.length)++(es.flatMap D.cells).drop ((n+1) * sz):=by
  rw [Nat.add_assoc,← List.drop_drop,hmid,List.drop_append_of_le_length (by omega)]
 rw [h1,h2]
 simp only [List.append_assoc]
def qIp {α:Type} (cs:List α) (off:Nat) (xs:List α):List α:=cs.take off++(xs++cs.drop (off+xs.length))
theorem qC6 {cs xs:List Value} {i:Nat} (h:i+xs.length<=cs.length):jJ cs i xs=some (qIp cs i xs):=by
 have e:cs=cs.take i++((cs.drop i).take xs.length++cs.drop (i+xs.length)):=by
  rw [← List.drop_drop,List.take_append_drop,List.take_append_drop]
 have hi:(cs.take i).length=i:=by rw [List.length_take]; omega
 have:=lI (cs.take i) ((cs.drop i).take xs.length) (cs.drop (i+xs.length)) xs (by rw [List.length_take,List.length_drop]; omega)
 rw [← e,hi] at this
 exact this
theorem qI3 {α:Type} {cs xs:List α} {i N:Nat} (h:i+xs.length<=N) (hN:N<=cs.length):(qIp cs i xs).take N=qIp (cs.take N) i xs:=by
 have h1:(cs.take i).length=i:=by rw [List.length_take]; omega
 unfold qIp
 rw [List.take_append,h1,List.take_append,List.take_of_length_le (by omega:(cs.take i).length<=N),List.take_of_length_le (by omega:xs.length<=N - i),List.take_take,Nat.min_eq_left (by omega:i<=N),List.drop_take]
 congr 3
 omega
theorem qGi {i n:Nat} {x:SV} {ve:Nat->Value} (h:ve n=ve i):(SV.ren i n x).val ve lb=x.val ve lb:=by
 unfold SV.ren
 split
 ·rename_i j
  cases hc:Nat.beq j i with
  | false=>rfl
  | true=>have:=vU hc; subst this; exact h
 ·rename_i j k sz off
  cases hc:Nat.beq j i with
  | false=>rfl
  | true=>have:=vU hc; subst this; simp only [cond_true,SV.val,h]
 rfl
theorem qJj {i n N m:Nat} {x:SV} (h:x.bd N m) (hn:n < N):(SV.ren i n x).bd N m:=by
 unfold SV.ren
 split
 ·rename_i j
  cases hc:Nat.beq j i with
  | false=>exact h
  | true=>exact hn
 ·rename_i j k sz off
  cases hc:Nat.beq j i with
  | false=>exact h
  | true=>exact ⟨hn,h.2⟩
 exact h
theorem qH5 {g:zF} {ag:Bool} {size:Nat} {d d':D} {v:Value} (h:l8 ag size d=some d') (hr:DR g d v):d.cells.length=size/\d.cells.all D.one=true/\mH v:=by
 obtain ⟨_,h1,h2⟩:=cJ h
 cases ag with
 | true =>
  obtain ⟨cs,rfl,hl⟩:=h1 rfl
  obtain ⟨vs,hv,hvs,ho⟩:=xK hr rfl
  exact ⟨hl,by show cs.all D.one=true; rw [← hvs.all_one]; exact ho,rP hr rfl⟩
 | false =>
  obtain ⟨ho,hs⟩:=h2 rfl
  rw [oD ho]
  exact ⟨by rw [hs]; rfl,by simp [ho],fG hr ho⟩
theorem qPq (h:SR n0 H0 g0 S ρ ve lb g fr H) {t:TypeId} {x1 x2:Operand} {i:Nat} {j x:SV} {sz off:Nat} (ho:o.op=.store t x1 x2) (h1:ev E fr x1=some ((SV.ptr (.v i) j sz off).val ve lb)) (h2:ev E fr x2=some (x.val ve lb))
  (hw:wp E HS Q (qPh E t i j sz off x S κ) ρ):jU true E HS Q n0 H0 g0 fr H o κ:=by
 unfold qPh at hw
 split at hw
 ·cases hw
 rename_i ti ht
 simp only at hw
 obtain ⟨g1,e1,q⟩:=nU x h
 generalize pM S x=T at hw e1 q
 obtain ⟨hc,hw2⟩:=jP hw
 simp only [vF] at hc
 obtain ⟨⟨c1,c2⟩,c3⟩:=hc
 simp only [wp] at hw2
 split at hw2
 case h_2=>cases hw2
 rename_i d hd
 simp only [SV.ds,qCz] at hd
 have hxr:=jG q.toSM c1
 have hjr:=z7 q.toSM c2
 obtain ⟨of,hst⟩:=zV.1 c3
 have hi:i < T.n:=qDU c3
 have hv:=(q.vars i _ hst).2
 have hsepFG:=q.sepFG i
 split at hd
 case h_2=>cases hd
 rename_i el sz' es n ck hdi hn hck
 split at hd
 case h_2=>cases hd
 rename_i e he
 obtain ⟨hcond,hd⟩:=zM hd
 simp only [vF] at hcond
 have hsz:=vU hcond.1
 have hos:=lB hcond.2
 subst hsz
 simp only [oI] at hd
 obtain ⟨k,hjv⟩:=dW hjr hn
 obtain ⟨x3,x4,x5⟩:=qH5 hck hxr
 have hdi':getD ρ i=.sl el sz' es:=hdi
 rcases hv with qn | ⟨B,l,cs,vs,v7,rt,sz2,es2,qo⟩
 ·exfalso
  rcases qn.sl with hnil | ⟨_,_,hnil⟩
  ·rw [hdi'] at hnil; cases hnil
  rw [hdi'] at hnil
  cases hnil
  simp at he
 have hqd:=qo.d
 rw [hdi'] at hqd
 cases hqd
 have hown:jO (ve i)=some B:=by rw [qo.v]; simp [jO]
 have hnl:n < es.length:=(gI he).1
 have hxl:(x.val ve lb).cells.toList.length=ti.size:=by rw [hxr.cells.length,x3]
 obtain ⟨t1,t2⟩:=kP qo.t
 have hpos:n * sz'+off+ti.size<=l * sz':=by
  have:(n+1) * sz'<=l * sz':=Nat.mul_le_mul_right _ (by rw [← qo.n]; omega)
  rw [Nat.succ_mul] at this
  omega
 have hsp:=qC6 (cs:=cs) (xs:=(x.val ve lb).cells.toList) (i:=n * sz'+off) (by rw [hxl]; omega)
 generalize hr:qIp cs (n * sz'+off) (x.val ve lb).cells.toList=r at hsp
 have hst2:=s8 (t:=t) ht (H:=H) (v:=x.val ve lb) qo.b hxl hsp
 have hflat:=qKg qo.s he (off:=off) (xs:=(x.d (getD ρ)).cells) (by rw [x3]; exact hos) x4
 have hrl:take? r (l * sz')=some (qIp vs (n * sz'+off) (x.val ve lb).cells.toList):=by
  rw [← hr]
  have hlen:l * sz'<=(qIp cs (n * sz'+off) (x.val ve lb).cells.toList).length:=by simp [qIp,hxl]; omega
  rw [yG hlen,qI3 (by rw [hxl]; exact hpos) t2,← t1]
 have hdrs:DRs g1 ((es.set n (qAQ e off (x.d (getD ρ)).cells)).flatMap D.cells) (qIp vs (n * sz'+off) (x.val ve lb).cells.toList):=by
  rw [hflat]
  have hl:(x.d (getD ρ)).cells.length=(x.val ve lb).cells.toList.length:=hxr.cells.length.symm
  unfold qAP qIp
  rw [hl]
  exact (qo.r.take _).append (hxr.cells.append (qo.r.drop _))
 have hone:(qIp vs (n * sz'+off) (x.val ve lb).cells.toList).all qN=true:=by
  have h0:=qo.o
  have hx0:(x.val ve lb).cells.toList.all qN=true:=by rw [hxr.cells.all_one]; exact x4
  rw [List.all_eq_true] at h0 hx0 ⊢
  intro v hv
  simp only [qIp,List.mem_append] at hv
  rcases hv with hv | hv | hv
  ·exact h0 v (List.mem_of_mem_take hv)
  ·exact hx0 v hv
  exact h0 v (List.mem_of_mem_drop hv)
 have hlens:∀ e'∈es.set n (qAQ e off (x.d (getD ρ)).cells),e'.cells.length=sz':=by
  intro e' he'
  rcases List.mem_or_eq_of_mem_set he' with he' | rfl
  ·exact qo.s e' he'
  have hel:=qo.s e (List.mem_of_getElem? he)
  rw [tF hel (by rw [x3]; exact hos) x4,qI4 (by rw [hel,x3]; exact hos),hel]
 have k1:=q.killed i
 have k2:=k1.heap2 (H':=H.write B ⟨.cells cs el,rt,true⟩ (.cells r el)) (fun b=>b=B) (fun b _ hb=>by rw [AH.get_write,if_neg hb]) (fun b hb=>by subst hb; exact hsepFG b c3 hown)
  (fun b c hb hl e=>by subst hb; exact q.sepX c i hl c3 (by rw [e]; exact hown))
  (fun b jj hb hf hoj=>by subst hb; obtain ⟨a1,a2⟩:=xR hf; exact a2 (q.sepF jj i b a1 c3 hoj hown))
  (fun b hb=>by subst hb; exact qo.rt.2) (q.wf.write qo.b _) (lR _) (by
   show _<=Nat.min H.low rt
   exact Nat.le_min.2 ⟨q.low,lT (Nat.min_le_right _ _) qo.rt.1⟩)
 have k3:=k2.newFresh (d:=d) (v:=ve i) (by
   rw [← hd]
   refine .inr ⟨B,l,r,_,el,rt,sz',_,qo.v,rfl,by rw [AH.get_write,if_pos rfl],qo.rt,hrl,hdrs,by rw [List.length_set]; exact qo.n,hlens,qo.x,hone⟩) (by rw [← hd]; rfl)
  (fun B' hB'=>by rw [hown] at hB'; cases hB'; exact hsepFG B c3 hown) (fun B' c hB' hc e=>by rw [hown] at hB'; cases hB'; exact q.sepX c i hc c3 (by rw [e]; exact hown))
  (fun B' jj hB' hf hoj=>by rw [hown] at hB'; cases hB'; obtain ⟨a1,a2⟩:=xR hf; exact a2 (q.sepF jj i B a1 c3 hoj hown))
 rw [nR] at k3
 have k4:SR n0 H0 g0 (T.setted i) (ρ++[d]) (bK ve T.n (ve i)) lb g1 fr (H.write B ⟨.cells cs el,rt,true⟩ (.cells r el)):=by
  refine { k3 with slots:=?_ }
  intro tt y hy
  have hy':(T.slots.map (SV.ren i T.n)).get tt=some y:=hy
  rw [Go.Am.T.get_map] at hy'
  simp only [Option.map_eq_some_iff] at hy'
  obtain ⟨y0,hy0,rfl⟩:=hy'
  obtain ⟨p1,p2⟩:=k3.slots tt y0 hy0
  refine ⟨qJj p1 (by show T.n < ((T.kill i).new .fresh true).n; rw [wH,nR]; omega),?_⟩
  rw [qGi (by rw [vW,sX hi])]
  exact p2
 refine ⟨.tup [],_,_,_,_,_,_,k4,trivial,hw2,.of_skip (lR _) ?_,fun e=>by cases e⟩
 unfold jD
 rw [ho]
 simp only [h1,h2]
 have hadr:(SV.ptr (.v i) j sz' off).val ve lb=.pointer (some ⟨B,n * sz'+off,none⟩):=by
  simp only [SV.val,hjv,qo.v,tP,Nat.zero_add]
 rw [hadr]
 generalize x.val ve lb=xv at x5 hst2
 split
 ·rename_i c _ hc
  simp only [oI] at hc
  exact absurd hc (x5 _)
 ·rename_i a' v' hn' e1' e2'
  simp only [oI] at e1' e2'
  subst e1' e2'
  rw [hst2]
  rfl
 rename_i hn'
 exact absurd rfl (hn' _ _ rfl)
theorem qBP:∀ {es:List D} {l:List UInt8} {vs:List Value},nX es=some l->DRs g (es.flatMap D.cells) vs->xT vs=some l
 | [],l,vs,h,hr=>by
  simp only [nX,oI] at h; subst h
  cases hr; rfl
 | e::es,l,vs,h,hr=>by
  unfold nX at h
  split at h
  ·rename_i heq; cases heq
  ·rename_i b r heq
   cases heq
   simp only [Option.map_eq_some_iff] at h
   obtain ⟨l',h1,rfl⟩:=h
   have hr':DRs g (.leaf (.int .u8 b)::es.flatMap D.cells) vs:=hr
   cases hr' with
   | cons ha hs =>
    obtain ⟨rfl,_⟩:=ha.leaf_inv
    simp only [xT,qBP h1 hs,Option.map_some]
  cases h
theorem qPp (h:SR n0 H0 g0 S ρ ve lb g fr H) {s d:TypeId} {x:Operand} (ho:o.op=.convert s d x) (hbi:sO E s d=none) (hbo:eU E s d=true) (hw:wp E HS Q (jN E o S κ) ρ):jU wm E HS Q n0 H0 g0 fr H o κ:=by
 unfold jN at hw
 rw [ho] at hw
 simp only [hbi,hbo,cond_true] at hw
 split at hw
 case h_2=>cases hw
 rename_i y hy
 obtain ⟨hb,he⟩:=z9 (E:=E) h hy
 obtain ⟨dd,h1,h2,h3⟩:=vN hw
 have hr:=z7 h.toSM (h1 _ (List.mem_singleton.2 rfl))
 simp only [SV.ds,qKo] at h2
 split at h2
 case h_2=>cases h2
 rename_i el sz es hdd
 rw [hdd] at hr
 cases hc:Nat.beq sz 1 with
 | false=>rw [hc] at h2; cases h2
 | true =>
  rw [hc] at h2
  have hsz:=vU hc
  subst hsz
  simp only [cond_true,Option.map_eq_some_iff] at h2
  obtain ⟨l,hl,rfl⟩:=h2
  obtain ⟨vs,b,o',c',q1,q2,q3,q4,q5,q6⟩:=eD h.mem hr
  refine .new h (k:=.pure) (one:=true) (by simp) (v:=.string ⟨⟨l⟩⟩) ⟨fun _=>rfl,.leaf rfl⟩ h3 ?_
  unfold jD; rw [ho]
  rw [q1] at he q2
  simp only [he]
  unfold eU at hbo
  split at hbo
  case h_2=>cases hbo
  rename_i v7 hel
  obtain ⟨sz0,bt0,z0,ag0,ht⟩:=gH hel
  split at hbo
  case h_2=>cases hbo
  rename_i e1 e2
  simp only [lF,ht,e2,q2,e1,qBP hl q3,Option.map_some,one]
end
end Go.Am
namespace Go.Am
open Go
section
variable {E:Env} {n0:Lim} {H0:AH} {g0:zF} {S:St} {ρ:List D} {ve:Nat->Value} {lb:Nat->Nat} {g:zF} {fr:Fr} {H:AH} {HS:FuncId->List D->D->Prop} {Q:Res1->Prop} {o:Oper} {κ:K1} {wm:Bool}
end
end Go.Am
namespace Go.Am
open Go
theorem qC7 {a b:Value} (h:qGb a b=true):a=b:=by
 unfold qGb at h
 split at h
 ·simp only [beq_iff_eq] at h; rw [h]
 ·simp only [vF,decide_eq_true_eq] at h; rw [h.1,h.2]
 ·simp only [decide_eq_true_eq] at h; rw [h]
 ·rfl
 ·rfl
 ·rfl
 ·rfl
 cases h
section
variable {ve:Nat->Value} {lb:Nat->Nat} {ρ:Nat->D}
mutual
theorem tH:∀ {x y:SV},iN x y=true->x=y
 | .v i,.v j,h=>by rw [vU h]
 | .c x,.c y,h=>by rw [qC7 h]
 | .loc b o,.loc b' o',h=>by
  simp only [iN,vF] at h
  rw [vU h.1,vU h.2]
 | .pp i o,.pp j o',h=>by
  simp only [iN,vF] at h
  rw [vU h.1,vU h.2]
 | .agg cs,.agg cs',h=>by rw [rJ (xs:=cs) (ys:=cs') h]
 | .tup cs,.tup cs',h=>by rw [rJ (xs:=cs) (ys:=cs') h]
 | .fn (.func f) a b,.fn (.func f') a' b',h=>by
  simp only [iN,vF] at h
  rw [vU h.1.1,rJ h.1.2,rJ h.2]
 | .ifc t x,.ifc t' y,h=>by
  simp only [iN,vF] at h
  rw [vU h.1,tH h.2]
theorem rJ:∀ {xs ys:List SV},bP xs ys=true->xs=ys
 | [],[],_=>rfl
 | x::xs,y::ys,h=>by
  simp only [bP,vF] at h
  rw [tH h.1,rJ h.2]
end
def nD (ve:Nat->Value) (lb:Nat->Nat) (azq:List SV):Nat->Value:=fun i=>match azq[i]? with
 | some x=>x.val ve lb
 | none=>.bool false
def iF (ρ:Nat->D) (azq:List SV):Nat->D:=fun i=>match azq[i]? with
 | some x=>x.d ρ
 | none=>.nil
theorem qId (ρ:Nat->D) (azq:List SV):getD (SV.ds ρ azq)=iF ρ azq:=by
 funext i
 simp only [getD,iF,SV.ds_map]
 cases h:azq[i]? with
 | none=>simp [h]
 | some x=>simp [h]
mutual
theorem kH {azq:List SV}:∀ {x y:SV},fits azq x y=true->x.val (nD ve lb azq) lb=y.val ve lb/\x.d (iF ρ azq)=y.d ρ
 | .v i,y,h=>by
  simp only [fits] at h
  split at h
  ·rename_i x hx
   have:=tH h
   subst this
   simp only [SV.val,SV.d,nD,iF,hx,and_self]
  cases h
 | .c x,.c y,h=>by
  have:=qC7 h
  subst this
  exact ⟨rfl,rfl⟩
 | .loc b o,.loc b' o',h=>by
  simp only [fits,vF] at h
  rw [vU h.1,vU h.2]
  exact ⟨rfl,rfl⟩
 | .pp i o,.pp j o',h=>by
  simp only [fits,vF] at h
  have h1:=vU h.1
  have h2:=h.2
  split at h2
  ·rename_i k hk
   have:=vU h2
   subst this h1
   simp only [SV.val,SV.d,nD,iF,hk,and_self]
  cases h2
 | .agg cs,.agg cs',h=>by
  obtain ⟨h1,h2⟩:=oX (xs:=cs) (ys:=cs') h
  simp only [SV.val,SV.d,h1,h2,and_self]
 | .tup cs,.tup cs',h=>by
  obtain ⟨h1,h2⟩:=oX (xs:=cs) (ys:=cs') h
  simp only [SV.val,SV.d,h1,h2,and_self]
 | .fn (.func f) a b,.fn (.func f') a' b',h=>by
  simp only [fits,vF] at h
  obtain ⟨h1,h2⟩:=oX h.1.2
  obtain ⟨h3,h4⟩:=oX h.2
  have:=vU h.1.1
  subst this
  simp only [SV.val,SV.d,h1,h2,h3,h4,and_self]
 | .yld b,.yld b',h=>by
  have:=vU h
  subst this
  exact ⟨rfl,rfl⟩
 | .ifc t x,.ifc t' y,h=>by
  simp only [fits,vF] at h
  obtain ⟨h1,h2⟩:=kH h.2
  have:=vU h.1
  subst this
  simp only [SV.val,SV.d,h1,h2,and_self]
theorem oX {azq:List SV}:∀ {xs ys:List SV},eA azq xs ys=true->SV.vals (nD ve lb azq) lb xs=SV.vals ve lb ys/\SV.ds (iF ρ azq) xs=SV.ds ρ ys
 | [],[],_=>⟨rfl,rfl⟩
 | x::xs,y::ys,h=>by
  simp only [eA,vF] at h
  obtain ⟨h1,h2⟩:=kH (x:=x) (y:=y) h.1
  obtain ⟨h3,h4⟩:=oX h.2
  simp only [SV.vals,SV.ds,h1,h2,h3,h4,and_self]
end
mutual
theorem cK {n m:Nat}:∀ {x:SV},qLf n m x=true->x.bd n m
 | .v i,h=>lB h
 | .c _,_=>trivial
 | .loc b _,h=>lB h
 | .ptr s i _ _,h=>by
  simp only [qLf,vF] at h
  exact ⟨cK h.1,cK h.2⟩
 | .pp i _,h=>lB h
 | .agg cs,h=>mA (xs:=cs) h
 | .tup cs,h=>mA (xs:=cs) h
 | .fn _ a b,h=>by
  simp only [qLf,vF] at h
  exact ⟨mA h.1,mA h.2⟩
 | .ifc _ x,h=>cK (x:=x) h
 | .yld b,h=>lB h
theorem mA {n m:Nat}:∀ {xs:List SV},qCN n m xs=true->SV.bds n m xs
 | [],_=>trivial
 | x::xs,h=>by
  simp only [qCN,vF] at h
  exact ⟨cK h.1,mA h.2⟩
end
theorem qDX:∀ (l:List (Nat × SV)) (t0:T SV) {t:Nat} {x:SV},(l.foldl (fun t (p:Nat × SV)=>t.put p.1 (some p.2)) t0).get t=some x->(t,x)∈l∨t0.get t=some x
 | [],_,_,_,h=>.inr h
 | (k,y)::l,t0,t,x,h=>by
  rcases qDX l (t0.put k (some y)) h with h1 | h1
  ·exact .inl (mC _ h1)
  rw [T.get_put] at h1
  split at h1
  ·rename_i e; cases h1; subst e; exact .inl List.mem_cons_self
  exact .inr h1
theorem qDP:∀ {l:List (Nat × SV)} {t:Nat} {x:SV},qKa t l=some x->(t,x)∈l
 | [],_,_,h=>by cases h
 | (u,y)::l,t,x,h=>by
  simp only [qKa,qV] at h
  split at h
  ·rename_i e; cases h; subst e; exact List.mem_cons_self
  exact mC _ (qDP h)
theorem qBE {n m:Nat} {azq:List SV}:∀ {ps ss:List (List (Nat × SV))} {j:Nat} {l:List (Nat × SV)} {t:Nat} {x:SV},uZ n m azq ps ss=true->ps[j]? = some l->(t,x)∈l ->
  x.bd n m/\∃ l' y,ss[j]? = some l'/\(t,y)∈l'/\fits azq x y=true
 | [],_,_,_,_,_,_,h,_=>by simp at h
 | l0::ps,[],_,_,_,_,h,_,_=>by cases h
 | l0::ps,s0::ss,0,l,t,x,h,hl,hx=>by
  simp only [uZ,vF,List.all_eq_true] at h
  simp at hl
  subst hl
  have h1:=h.1 _ hx
  obtain ⟨h2,h3⟩:=h1
  split at h3
  ·rename_i y hy
   exact ⟨cK h2,s0,y,rfl,qDP hy,h3⟩
  cases h3
 | l0::ps,s0::ss,j+1,l,t,x,h,hl,hx=>by
  simp only [uZ,vF] at h
  simpa using qBE (j:=j) h.2 (by simpa using hl) hx
theorem cF {azq:List SV}:∀ {bs cs:List (Option Blk)} {b:Nat} {x:Blk},eC azq bs cs=true->bs[b]? = some (some x)->∃ y,cs[b]? = some y/\fW azq (some x) y=true
 | [],_,_,_,_,h=>by simp at h
 | x0::bs,[],_,_,h,_=>by cases h
 | x0::bs,y0::cs,0,x,h,hb=>by
  simp only [eC,vF] at h
  simp at hb
  subst hb
  exact ⟨y0,rfl,h.1⟩
 | x0::bs,y0::cs,b+1,x,h,hb=>by
  simp only [eC,vF] at h
  simpa using cF h.2 (by simpa using hb)
theorem lH {S:St}:∀ {sts:List VSt} {azq:List SV} {i:Nat} {s:VSt},bN S sts azq=true->sts[i]? = some s->∃ x,azq[i]? = some x/\(s.one=true->lZ S x=true)/\(match s.k with
   | .pure=>xD S x=true
   | .full=>∃ j o,x=.v j/\S.sts[j]? = some ⟨.full,o⟩
   | .ptr=>∃ j,x=.v j/\S.isPtr j=true
   | .fresh=>qCu S x=true
   | .dead=>s.one=false)
 | [],_,_,_,_,h=>by simp at h
 | ⟨k,o⟩::sts,[],_,_,h,_=>by cases h
 | ⟨k,o⟩::sts,a::azq,0,s,h,hs=>by
  simp only [bN,vF] at h
  simp at hs
  subst hs
  refine ⟨a,rfl,fun e=>?_,?_⟩
  ·have:=h.1.2
   simp only at e
   rw [e] at this
   simpa using this
  have h1:=h.1.1
  cases k <;> simp only at h1 ⊢
  ·exact h1
  ·split at h1
   ·split at h1
    ·rename_i o' hh; exact ⟨_,o',rfl,hh⟩
    cases h1
   cases h1
  ·exact h1
  ·simpa using h1
  split at h1
  ·exact ⟨_,rfl,h1⟩
  cases h1
 | ⟨k,o⟩::sts,a::azq,i+1,s,h,hs=>by
  simp only [bN,vF] at h
  simpa using lH h.2 (by simpa using hs)
theorem uR {S:St} {x:SV} (h:qCu S x=true):(x=.c (.slice none 0 0)∨∃ j o,x=.v j/\S.sts[j]? = some ⟨.full,o⟩)∨∃ j,x=.v j/\S.freshV j=true:=by
 unfold qCu at h
 split at h
 ·exact .inl (.inl rfl)
 ·rename_i j
  simp only [Bool.or_eq_true] at h
  rcases h with h | h
  ·exact .inr ⟨_,rfl,h⟩
  unfold St.fullV at h
  split at h
  ·rename_i o hh; exact .inl (.inr ⟨j,o,rfl,hh⟩)
  cases h
 cases h
theorem tA {S:St}:∀ {sts:List VSt} {azq:List SV},bN S sts azq=true->azq.length=sts.length
 | [],[],_=>rfl
 | [],_::_,h=>by cases h
 | ⟨k,o⟩::sts,[],h=>by cases h
 | ⟨k,o⟩::sts,a::azq,h=>by
  simp only [bN,vF] at h
  simp [tA h.2]
end
section
variable {E:Env} {n0:Lim} {H0:AH} {g0:zF} {S:St} {ρ:List D} {ve:Nat->Value} {lb:Nat->Nat} {g:zF} {fr:Fr} {H:AH} {Q:Res1->Prop} {HS:FuncId->List D->D->Prop}
theorem qMF {S1 : St} {g1 : zF} (h1 : SR n0 H0 g0 S1 ρ ve lb g1 fr H) {p : Pat} {sz : Nat} {azq : List SV} (hc : qKH sz p azq S1 = true) (hF : n0.F.length <= p.blks.length) :
    SR n0 H0 g0 (p.st sz) (SV.ds (getD ρ) azq) (nD ve lb azq) lb g1 fr H := by
  unfold qKH at hc
  simp only [vF] at hc
  obtain ⟨⟨⟨⟨⟨⟨c1, c2⟩, c3⟩, c4⟩, c5⟩, c6⟩, c7⟩ := hc
  have c1 := vU c1
  rw [List.all_eq_true] at c2 c3
  have hlen := tA c5
  have hρ : getD (SV.ds (getD ρ) azq) = iF (getD ρ) azq := qId _ _
  have var : ∀ i s, p.sts[i]? = some s -> ∃ x, azq[i]? = some x /\ nD ve lb azq i = x.val ve lb /\ iF (getD ρ) azq i = x.d (getD ρ) := by
    intro i s hs
    obtain ⟨x, hx, _⟩ := lH c5 hs
    exact ⟨x, hx, by simp only [nD, hx], by simp only [iF, hx]⟩
  have fresh : ∀ i B, (p.st sz).freshV i = true -> jO (nD ve lb azq i) = some B -> ∃ j, azq[i]? = some (.v j) /\ S1.freshV j = true /\ jO (ve j) = some B := by
    intro i B hi hB
    obtain ⟨o, hs⟩ := zV.1 hi
    obtain ⟨x, hx, _, hk⟩ := lH c5 hs
    simp only at hk
    simp only [nD, hx] at hB
    rcases uR hk with (rfl | ⟨j, o', rfl, hj⟩) | ⟨j, rfl, hj⟩
    · simp [SV.val, jO] at hB
    · have hB : jO (ve j) = some B := hB
      rw [qCT.own (h1.vars j _ hj).2] at hB; cases hB
    · exact ⟨j, hx, hj, hB⟩
  have live : ∀ b, (p.st sz).live b -> S1.live b := by
    intro b ⟨x, hx⟩
    obtain ⟨y, hy, hf⟩ := cF c4 hx
    cases y with
    | none => cases x <;> cases hf
    | some y => exact ⟨y, hy⟩
  refine { len := ?_, wf := h1.wf, mem := h1.mem, base := h1.base, fix := ⟨hF, h1.fix.2⟩, vars := ?_, blks := ?_, sepLG := fun b hb => h1.sepLG b (live b hb), sepFG := ?_, sepL := fun a b ha hb => h1.sepL a b (live a ha) (live b hb), sepF := ?_, sepX := ?_,
           sz := ?_, rd := h1.rd, slots := ?_, sav := ?_, keep := h1.keep, low := h1.low, gk := h1.gk }
  · rw [SV.ds_map, List.length_map, hlen]; rfl
  · intro i s hs
    obtain ⟨x, hx, ho, hk⟩ := lH c5 hs
    rw [hρ]
    have hval : nD ve lb azq i = x.val ve lb := by simp only [nD, hx]
    have hdd : iF (getD ρ) azq i = x.d (getD ρ) := by simp only [iF, hx]
    rw [hval, hdd]
    obtain ⟨k, o⟩ := s
    have one : DR g1 (x.d (getD ρ)) (x.val ve lb) -> o = true -> (x.d (getD ρ)).one = true := fun hd e => by
      rw [← hd.one]; exact qCg h1.toSM (ho e) hd
    cases k <;> simp only at hk
    · have := jG h1.toSM hk
      exact ⟨one this, this⟩
    · obtain ⟨j, o', rfl, hj⟩ := hk
      have := (h1.vars j _ hj).2
      exact ⟨one this.dr, this⟩
    · rcases uR hk with (rfl | ⟨j, o', rfl, hj⟩) | ⟨j, rfl, hj⟩
      · exact ⟨fun _ => rfl, .inl (.inl ⟨rfl, rfl⟩)⟩
      · exact ⟨fun _ => qCT.one (h1.vars j _ hj).2, .inl (h1.vars j _ hj).2⟩
      · obtain ⟨o', hj'⟩ := zV.1 hj
        exact ⟨fun e => qE8 h1.toSM (ho e), (h1.vars j _ hj').2⟩
    · exact ⟨fun e => (by simp only at e hk; rw [hk] at e; cases e), trivial⟩
    · obtain ⟨j, rfl, hj⟩ := hk
      have := qE5 h1.toSM hj
      exact ⟨one this.1, this⟩
  · intro b x hx
    obtain ⟨y, hy, hf⟩ := cF c4 hx
    have hbd := c3 _ (List.mem_of_getElem? hx)
    cases y with
    | none => cases x <;> cases hf
    | some y =>
      obtain ⟨q1, q⟩ := h1.blks b y hy
      rw [hρ]
      refine ⟨?_, ?_⟩
      · cases x with
        | cells xs => exact mA hbd
        | whole x n => exact cK hbd
        | loop _ _ => trivial
        | tcells _ xs => exact mA hbd
      · have hfrom : ∀ {z : Blk}, z.isL = false -> y.isL = false -> (∀ cs, jM (getD ρ) ve lb cs y -> jM (iF (getD ρ) azq) (nD ve lb azq) lb cs z) -> nE n0 (iF (getD ρ) azq) (nD ve lb azq) lb H.blocks.get (lb b) z := by
          intro z hz hyl ho
          obtain ⟨el, rt, cs, q2, q3, q4⟩ := q.cells hyl
          cases z with
          | loop _ _ => cases hz
          | tcells _ _ => cases hz
          | cells _ => exact ⟨el, rt, cs, q2, q3, ho _ q4⟩
          | whole _ _ => exact ⟨el, rt, cs, q2, q3, ho _ q4⟩
        cases x with
        | loop st pd =>
          cases y with
          | loop st' pd' =>
            simp only [fW, vF] at hf
            rw [vU hf.1, vU hf.2]
            exact q
          | cells _ => cases hf
          | whole _ _ => cases hf
          | tcells _ _ => cases hf
        | cells xs =>
          cases y with
          | cells ys =>
            refine hfrom rfl rfl fun cs q4 => ?_
            simp only [jM] at q4 ⊢
            rw [q4]
            exact (oX (ρ := getD ρ) hf).1.symm
          | whole y m => cases hf
          | loop _ _ => cases hf
          | tcells _ _ => cases hf
        | tcells t xs =>
          cases y with
          | tcells t' ys =>
            simp only [fW, vF] at hf
            have ht := vU hf.1
            subst ht
            obtain ⟨rt, p0, cs, b1, b2, b4, b3⟩ := q
            refine ⟨rt, p0, cs, b1, b2, b4, ?_⟩
            simp only [jM] at b3 ⊢
            rw [b3]
            exact (oX (ρ := getD ρ) hf.2).1.symm
          | cells _ => cases hf
          | whole _ _ => cases hf
          | loop _ _ => cases hf
        | whole x n =>
          cases y with
          | loop _ _ => cases hf
          | tcells _ _ => cases hf
          | cells ys =>
            refine hfrom rfl rfl fun cs q4 => ?_
            simp only [fW, vF] at hf
            obtain ⟨f1, f2⟩ := kH (ve := ve) (lb := lb) (ρ := getD ρ) hf.2
            simp only [jM] at q4 ⊢
            rw [f1, f2, q4]
            refine ⟨rfl, SV.ds (getD ρ) ys, rfl, ?_⟩
            rw [SV.ds_map, List.length_map]; exact (vU hf.1).symm
          | whole y m =>
            refine hfrom rfl rfl fun cs q4 => ?_
            simp only [fW, vF] at hf
            obtain ⟨f1, f2⟩ := kH (ve := ve) (lb := lb) (ρ := getD ρ) hf.2
            simp only [jM] at q4 ⊢
            rw [f1, f2, vU hf.1]
            exact q4
  · intro i B hi hB
    obtain ⟨j, _, j2, j3⟩ := fresh i B hi hB
    exact h1.sepFG j B j2 j3
  · intro i i' B hi hi' hB hB'
    obtain ⟨j, j1, j2, j3⟩ := fresh i B hi hB
    obtain ⟨j', k1, k2, k3⟩ := fresh i' B hi' hB'
    have hjj := h1.sepF j j' B j2 k2 j3 k3
    subst hjj
    obtain ⟨o, hs⟩ := zV.1 hi
    obtain ⟨o', hs'⟩ := zV.1 hi'
    have l1 : i < p.sts.length := (gI hs).1
    have l2 : i' < p.sts.length := (gI hs').1
    have hd := c6
    unfold qBJ at hd
    rw [List.all_eq_true] at hd
    have hd1 := hd i (List.mem_range.2 l1)
    rw [List.all_eq_true] at hd1
    have hd2 := hd1 i' (List.mem_range.2 l2)
    have hs2 : p.sts[i]? = some ⟨.fresh, o⟩ := hs
    have hs2' : p.sts[i']? = some ⟨.fresh, o'⟩ := hs'
    simp only [qOF, hs2, hs2', j1, k1, Nat.beq_refl, Bool.not_true, Bool.or_false] at hd2
    exact vU hd2
  · intro b i hb hi hB
    obtain ⟨j, _, j2, j3⟩ := fresh i _ hi hB
    exact h1.sepX b j (live b hb) j2 j3
  · rw [h1.sz]; exact c1
  · intro t x hx
    have hm : (t, x) ∈ p.slots := by
      rcases qDX p.slots .leaf hx with h | h
      · exact h
      · cases h
    have := c2 _ hm
    simp only [vF] at this
    obtain ⟨b1, b2⟩ := this
    split at b2
    · rename_i y hy
      obtain ⟨f1, _⟩ := kH (ve := ve) (lb := lb) (ρ := getD ρ) b2
      refine ⟨cK b1, ?_⟩
      rw [f1]
      exact (h1.slots t y hy).2
    · cases b2
  · intro j l hl t x hx
    obtain ⟨q1, l', y, q2, q3, q4⟩ := qBE c7 hl hx
    obtain ⟨_, f, q5, q6⟩ := h1.sav j l' q2 t y q3
    exact ⟨q1, f, q5, by rw [(kH (ve := ve) (lb := lb) (ρ := getD ρ) q4).1]; exact q6⟩
theorem qJY (h:SR n0 H0 g0 S ρ ve lb g fr H) {p:Pat} {sz:Nat} {fin:List SV->Tree} (hw:wp E HS Q (qJZ fin sz p S) ρ) (hF:n0.F.length<=p.blks.length) :
  ∃ azq ve' g',SR n0 H0 g0 (p.st sz) (SV.ds (getD ρ) azq) ve' lb g' fr H/\wp E HS Q (fin azq) ρ:=by
 unfold qJZ at hw
 split at hw
 ·cases hw
 rename_i azq has
 simp only at hw
 obtain ⟨g1,e1,h1⟩:=jT (rN p.sts azq) h
 obtain ⟨hc,hw⟩:=jP hw
 exact ⟨azq,_,g1,qMF h1 hc hF,hw⟩
theorem sE (h:SR n0 H0 g0 S ρ ve lb g fr H) {p:Pat} {sz k:Nat} (hw:wp E HS Q (g9 sz p k S) ρ) (hF:n0.F.length<=p.blks.length) :
  ∃ ds ve' g',SR n0 H0 g0 (p.st sz) ds ve' lb g' fr H/\Q (.jump k ds):=by
 obtain ⟨azq,ve',g',h1,h2⟩:=qJY h hw hF
 exact ⟨_,ve',g',h1,h2⟩
end
end Go.Am
