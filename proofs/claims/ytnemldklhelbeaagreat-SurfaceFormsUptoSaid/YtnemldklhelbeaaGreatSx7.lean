/- Texts that are built up in a builder: writing and reading it, in symbolic runs. Conditions: none. -/
import Derived.Test.YtnemldklhelbeaaGreatSx6
set_option linter.unusedVariables false
set_option linter.unusedSimpArgs false
namespace Go.Am
open Go
structure Bld where
 w:FuncId
 s:FuncId
 t:TypeId
 bt:TypeId
 el:TypeId
 st:TypeId
 by_:Nat
def qMc (S:St):SV->Option St
 | .c (.slice none 0 0)=>some S
 | .v i=>bif S.freshV i then some (S.kill i) else none
 | _=>none
def qXF (B:Bld) (b:Nat) (x:SV) (S:St) (κ:K1):Tree :=
 xE (.len true) [x] .pure true S fun n S=>match S.blks[b]? with
  | some (some (.tcells t [s]))=>match qMc S s with
   | some S'=>bif Nat.beq t B.t && yP S x then .bind (.apps B.el B.by_) [s,x] (κ (.tup [n,.c .nilIface]) ((S'.new .fresh true).setBlk b (.tcells t [.v S.n]))) else .fail
   | none=>.fail
  | _=>.fail
def qXH (B:Bld) (b:Nat) (S:St) (κ:K1):Tree:=match S.blks[b]? with
 | some (some (.tcells t [s]))=>match qMc S s with
  | some S'=>bif Nat.beq t B.t then .bind (.bld B.el) [s] (κ (.v S.n) (S'.new .pure true)) else .fail
  | none=>.fail
 | _=>.fail
def qQ3 (E:Env) (B:Bld):qHY:=fun o S κ=>match o.op with
 | .alloc t=>bif Nat.beq t B.t then (match E.types.get t with
   | some { zero:=some [.pointer none,.slice none 0 0],.. }=>κ (.loc S.blks.length 0) { S with blks:=S.blks++[some (.tcells t [.c (.slice none 0 0)])] }
   | _=>.fail) else jE E o S κ
 | .call c=>match c.callee,lU S c.args.toList with
  | .value f,some args=>match rU S f,args with
   | some (.fn (.func g) [] []),[.loc b 0,x]=>bif Nat.beq g B.w then qXF B b x S κ else jE E o S κ
   | some (.fn (.func g) [] []),[.loc b 0]=>bif Nat.beq g B.s then qXH B b S κ else jE E o S κ
   | _,_=>jE E o S κ
  | _,_=>jE E o S κ
 | _=>jE E o S κ
def jY (b:Nat):Value:=.pointer (some ⟨b,0,none⟩)
def AH.up (H:AH):AH:={ H with next:=H.next+1 }
structure BldOK (E:Env) (B:Bld):Prop where
 wf:∃ fn,E.funcs.get B.w=some fn
 sf:∃ fn,E.funcs.get B.s=some fn
 tb:yH E B.bt=some B.el
 te:∃ e z,E.types.get B.el=some e/\e.size=1/\e.bytes=B.by_/\e.zero=some z
 ts:∃ xi,E.types.get B.st=some xi/\xi.desc=.string
 wr:∀ {H:AH} {b rt:Nat} {p s:Value} {x:ByteArray} {H1:AH} {v:Value} {H2:AH},H.blocks.get b=some ⟨.cells [p,s] B.t,rt,true⟩ ->
  ((p=.pointer none/\H1=(H.write b ⟨.cells [p,s] B.t,rt,true⟩ (.cells [jY b,s] B.t)).up)∨(p=jY b/\H1=H.up))->v8 E H1 [B.bt,B.st] s (.string x)=some (.val v,H2) ->
  H2.blocks.get b=some ⟨.cells [jY b,s] B.t,rt,true⟩->H1.next<=H2.next->(∃ a l c,v=.slice a l c) ->
  v7 E B.w [jY b,.string x] H (.tuple ⟨[goInt x.size,.nilIface]⟩) (H2.write b ⟨.cells [jY b,s] B.t,rt,true⟩ (.cells [jY b,v] B.t))
 s0:∀ {H:AH} {b rt:Nat} {p:Value},H.blocks.get b=some ⟨.cells [p,.slice none 0 0] B.t,rt,true⟩->∃ Hx:AH,v7 E B.s [jY b] H (.string .empty) Hx/\Hx.blocks=H.blocks/\Hx.next=H.next/\Nat.min H.low H.next<=Hx.low
 s1:∀ {H:AH} {b rt:Nat} {p:Value} {B1 n cap r:Nat} {cs vs:List Value} {l:List UInt8},H.blocks.get b=some ⟨.cells [p,.slice (some ⟨B1,0,none⟩) n cap] B.t,rt,true⟩ ->
  1<=n->n<=1000000000->H.blocks.get B1=some ⟨.cells cs B.el,r,true⟩->take? cs n=some vs->xH vs=some l ->
  ∃ Hx:AH,v7 E B.s [jY b] H (.string ⟨⟨l⟩⟩) Hx/\Hx.blocks=H.blocks.put B1 none/\Hx.next=H.next/\Nat.min (Nat.min H.low H.next) r<=Hx.low
section
variable {E:Env} {n0:Lim} {H0:AH} {g0:zG} {S:St} {ρ:List D} {ve:Nat->Value} {lb:Nat->Nat} {g:zG} {fr:Fr} {H:AH} {Q:Res1->Prop} {HS:FuncId->List D->D->Prop} {B:Bld}
structure BufOK (n0:Lim) (S S':St) (ρ:List D) (ve:Nat->Value) (lb:Nat->Nat) (g:zG) (H:AH) (s:SV):Prop where
 n:S'.n=S.n
 blks:S'.blks=S.blks
 fr:rT g H.blocks.get n0 (s.d (getD ρ)) (s.val ve lb)
 one:(s.d (getD ρ)).one=true
 own:∀ B,jU (s.val ve lb)=some B->g B=none/\(∀ c,S.live c->lb c≠B)/\(∀ i,S'.freshV i=true->jU (ve i)≠some B)/\¬ n0.K B
theorem qGv (h:SR n0 H0 g0 S ρ ve lb g fr H) {s:SV} {S':St} (hs:qMc S s=some S'):SR n0 H0 g0 S' ρ ve lb g fr H/\BufOK n0 S S' ρ ve lb g H s:=by
 unfold qMc at hs
 split at hs
 ·cases hs
  exact ⟨h,rfl,rfl,.inl (.inl ⟨rfl,rfl⟩),rfl,fun B hB=>by cases hB⟩
 ·rename_i i
  cases hf:S.freshV i with
  | false=>rw [hf] at hs; cases hs
  | true =>
   rw [hf] at hs
   cases hs
   obtain ⟨o1,hst⟩:=vB.1 hf
   have hv:=h.vars i _ hst
   refine ⟨h.killed i,cU,rfl,hv.2,?_,fun B hB=>⟨h.sepFG i B hf hB,fun c hc e=>h.sepX c i hc hf (by rw [e]; exact hB),fun j hj hoj=>?_,?_⟩⟩
   ·rcases hv.2 with q | ⟨B,l,cs,vs,vL,rt,sz,es,q⟩
    ·exact q.one
    show (getD ρ i).one=true
    rw [q.d]; rfl
   ·obtain ⟨k1,k2⟩:=wM hj
    exact k2 (h.sepF j i B k1 hf hoj hB)
   have hB':jU (ve i)=some B:=hB
   rcases hv.2 with q | ⟨B',l,cs,vs,vL,rt,sz,es,q⟩
   ·rw [q.own] at hB'; cases hB'
   rw [q.v] at hB'
   simp only [jU,zT,if_true,oI] at hB'
   subst hB'
   exact q.rt.2
 cases hs
theorem qOu (hB:BldOK E B) (h:SR n0 H0 g0 S ρ ve lb g fr H) {s:SV} {x:ByteArray} {S':St} {d:D} (hs:qMc S s=some S') (hd:TOp.eval E (.apps B.el B.by_) [s.d (getD ρ),.leaf (.string x)]=some d) :
  ∃ v H2,v8 E H [B.bt,B.st] (s.val ve lb) (.string x)=some (.val v,H2)/\SR n0 H0 g0 (S'.new .fresh true) (ρ++[d]) (l7 ve S.n v) lb g fr H2/\(∀ c,S.live c->H2.blocks.get (lb c)=H.blocks.get (lb c))/\H.next<=H2.next/\∃ a l c,v=.slice a l c:=by
 obtain ⟨h',hb⟩:=qGv h hs
 have hn':=hb.n
 have hfr:=hb.fr
 have hone:=hb.one
 have hex:=hb.own
 obtain ⟨e,z,hte,hsz,hby,hz⟩:=hB.te
 obtain ⟨xi,hxi,hxd⟩:=hB.ts
 obtain ⟨sz0,bt0,z0,ag0,ht⟩:=yS hB.tb
 rw [← hby] at hd
 simp only [qHz] at hd
 obtain ⟨hcond,hd3⟩:=zP hd
 clear hd
 simp only [aE] at hcond
 obtain ⟨hle,hbuf⟩:=hcond
 obtain ⟨l,hl⟩:∃ l,x.data.toList=l:=⟨_,rfl⟩
 have hsize:x.size=l.length:=by rw [← hl,Array.length_toList]; rfl
 rw [hl] at hle hd3
 have hnc:wT H xi e (.string x)=some (l.length,l.map fun b=>.int .u8 b.toNat):=by
  have hle2:Nat.ble l.length l.length=true:=bL (zT _)
  have hb1:Nat.beq 1 1=true:=rfl
  simp only [wT,hxd,qFW,oA,hsz,hl,hsize,hle2,hb1,Bool.and_self,cond_true,List.take_length,Option.map_some]
 generalize hsdd:s.d (getD ρ)=sd at hd3 hle hbuf hfr hone
 have stay:(∃ a l c,s.val ve lb=.slice a l c)->∀ (hd':d=sd),v8 E H [B.bt,B.st] (s.val ve lb) (.string x)=some (.val (s.val ve lb),H)->∃ v H2,v8 E H [B.bt,B.st] (s.val ve lb) (.string x)=some (.val v,H2)/\SR n0 H0 g0 (S'.new .fresh true) (ρ++[d]) (l7 ve S.n v) lb g fr H2/\(∀ c,S.live c->H2.blocks.get (lb c)=H.blocks.get (lb c))/\H.next<=H2.next/\∃ a l c,v=.slice a l c:=by
  intro hsl hd' ha
  subst hd'
  have h2:=h'.newFresh hfr hone (fun B hB=>(hex B hB).1) (fun B c hB hc=>(hex B hB).2.1 c (by obtain ⟨y,hy⟩:=hc; rw [hb.blks] at hy; exact ⟨y,hy⟩)) (fun B i hB hi=>(hex B hB).2.2.1 i hi)
  rw [hn'] at h2
  exact ⟨_,_,ha,h2,fun _ _=>rfl,zT _,hsl⟩
 have hlv:∀ {c},S'.live c->S.live c:=fun {c} ⟨y,hy⟩=>⟨y,by rw [hb.blks] at hy; exact hy⟩
 have hsr:qDo g H.blocks.get sd (s.val ve lb):=by
  rcases hfr with q | ⟨B,l,cs,vs,vL,rt,sz,es,q⟩
  ·exact .inl q.dr
  exact .inr ⟨n0,B,l,cs,vs,vL,rt,sz,es,q⟩
 have hlen:∃ n c base,s.val ve lb=.slice base n c/\n=sd.es.length:=by
  cases sd with
  | nil =>
   have:=hsr.dr (by intro _ _ _ e; cases e)
   generalize s.val ve lb=sv at this
   cases this with
   | nil=>exact ⟨0,0,none,rfl,rfl⟩
  | sl vL sz' es' =>
   obtain ⟨vs,b,o',c',q1,_⟩:=nO h'.mem hsr
   exact ⟨_,_,_,q1,rfl⟩
  | _=>cases hbuf
 obtain ⟨n,cp,base,hsv,hll⟩:=hlen
 rw [← hll] at hle
 simp only [qU] at hd3
 by_cases hn0:l.length=0
 ·rw [if_pos hn0] at hd3
  refine stay ⟨_,_,_,hsv⟩ (Option.some.inj hd3).symm ?_
  rw [hsv]
  rw [hn0] at hle hnc
  simp only [v8,ht,hxi,hte,hz,hnc,hle,cond_true]
  rfl
 rw [if_neg hn0] at hd3
 have hd : .sl B.el 1 (sd.es++l.map fun b=>.leaf (.int .u8 b.toNat))=d:=Option.some.inj hd3
 subst hd
 have hnb:Nat.beq l.length 0=false:=by
  cases hb:Nat.beq l.length 0 with
  | false=>rfl
  | true=>exact absurd (vU hb) hn0
 have hbound:4 * (n+l.length)<=100000000000:=by
  have:=lB hle
  simp only [Nat.mul_eq,Nat.add_eq,Nat.succ_eq_add_one] at this
  have h1:(4 * (n+l.length)+4000) * 1<=(4 * (n+l.length)+4000) * (e.bytes+1):=Nat.mul_le_mul_left _ (by omega)
  omega
 have hnew:DRs g ((l.map fun b=>D.leaf (.int .u8 b.toNat)).flatMap D.cells) (l.map fun b=>Value.int .u8 b.toNat):=qJw l
 have hnone:(l.map fun b=>Value.int .u8 b.toNat).all qQ=true:=by rw [List.all_eq_true]; intro v hv; obtain ⟨b,_,rfl⟩:=List.mem_map.1 hv; rfl
 have hnlen:∀ e∈l.map (fun b=>D.leaf (.int .u8 b.toNat)),e.cells.length=1:=fun e he=>by obtain ⟨b,_,rfl⟩:=List.mem_map.1 he; rfl
 have hlen2:(sd.es++l.map fun b=>D.leaf (.int .u8 b.toNat)).length=n+l.length:=by rw [List.length_append,← hll,List.length_map]
 have hcap:(sd.es++l.map fun b=>D.leaf (.int .u8 b.toNat)).length < zV:=by rw [hlen2]; unfold zV; omega
 cases sd with
 | nil =>
  have hv:=hsr.dr (by intro _ _ _ e; cases e)
  have hsv0:s.val ve lb=.slice none 0 0:=by
   generalize s.val ve lb=sv at hv
   cases hv with
   | nil=>rfl
  rw [hsv0] at hsv
  cases hsv
  have h2:=h'.heap (H':=H.new (.cells (l.map fun b=>.int .u8 b.toNat) B.el)) mL (h'.wf.new _) (Nat.le_succ _) h'.low
  have hown:=tF (el:=B.el) (sz:=1) h'.toSM hnew hnone hnlen (by rw [List.length_map]; unfold zV; omega)
  rw [List.length_map] at hown
  have hOB:∀ B,jU (.slice (some ⟨H.next,0,none⟩) l.length zV)=some B->B=H.next:=fun B hB=>by
   simp only [jU,zT,if_true,oI] at hB; exact hB.symm
  have h3:=h2.newFresh hown rfl (fun B q=>by rw [hOB B q]; exact cY h'.toSM) (fun B c q hc=>by have:=(j4 h'.toSM hc).1; rw [hOB B q]; omega)
   (fun B i q hi hoi=>by have:=(gZ h'.toSM hi hoi).1; rw [hOB B q] at this; omega)
  rw [hn'] at h3
  refine ⟨_,_,?_,h3,fun c hc=>?_,Nat.le_succ _,_,_,_,rfl⟩
  ·rw [hsv0]
   simp only [v8,ht,hxi,hte,hz,hnc,hle,cond_true,hnb,cond_false]
   simp
  exact mL _ (j4 h.toSM hc).1
 | sl vL sz' es' =>
  simp only [qHM,aE] at hbuf
  have e1:=vU hbuf.1.1
  have e2:=vU hbuf.1.2
  have e3:=lB hbuf.2
  subst e1 e2
  rcases hfr with (⟨h1,h2⟩ | ⟨h1,⟨ab,ao,ap⟩,h2⟩) | ⟨B',l',cs,vs,vL,rt,sz,es2,q⟩
  ·cases h2
  ·rw [h2] at hsv
   cases hsv
   simp only [D.es] at hll
   omega
  have hd0:=q.d
  cases hd0
  obtain ⟨ovs,ob,oo,oc,p1,p2,p3,p4,p5,p6⟩:=nO h'.mem hsr
  simp only [D.es] at hll hcap hlen2
  subst hll
  rw [q.v] at p1 hsv
  cases p1
  cases hsv
  have hc0:∀ k,Nat.beq (Nat.mod 0 k) 0=true:=fun k=>by rw [show Nat.mod 0 k=0 from Nat.zero_mod _]; rfl
  obtain ⟨X,hX⟩:∃ X,X=ovs++(l.map fun b=>Value.int .u8 b.toNat)++List.drop (Nat.add 0 (Nat.mul (Nat.add es'.length l.length) e.size)) cs:=⟨_,rfl⟩
  obtain ⟨x1,x2,x3,x4⟩:=hex B' (by rw [q.v]; simp [jU])
  have hmv:∀ b,b < H.next->¬ b=B'->(H.move B' ⟨.cells cs B.el,rt,true⟩ (.cells X B.el)).blocks.get b=H.blocks.get b:=fun b hb hne=>by
   rw [AH.get_move,if_neg (by omega),if_neg hne]
  have hlow:Nat.min H0.low n0.n<=(H.move B' ⟨.cells cs B.el,rt,true⟩ (.cells X B.el)).low :=
   Nat.le_min.2 ⟨h'.low,lT (Nat.min_le_right _ _) q.rt.1⟩
  have h2:=h'.heap2 (H':=H.move B' ⟨.cells cs B.el,rt,true⟩ (.cells X B.el)) (fun b=>b=B') hmv (fun b e=>by rw [e]; exact x1) (fun b c e hc=>by rw [e]; exact x2 c (hlv hc)) (fun b i e hi=>by rw [e]; exact x3 i hi) (fun b e=>by rw [e]; exact x4)
   (h'.wf.move q.b _) (Nat.le_succ _) hlow
  have hfl:=qC7 p3 hnew
  have hal:∀ e'∈es'++l.map (fun b=>D.leaf (.int .u8 b.toNat)),e'.cells.length=1:=fun e' he=>by
   rcases List.mem_append.1 he with he | he
   ·exact p5 e' he
   exact hnlen e' he
  have hown:rT g (H.move B' ⟨.cells cs B.el,rt,true⟩ (.cells X B.el)).blocks.get n0 (.sl B.el 1 (es'++l.map fun b=>D.leaf (.int .u8 b.toNat))) (.slice (some ⟨H.next,0,none⟩) (es'.length+l.length) zV):=by
   refine .inr ⟨H.next,_,X,ovs++(l.map fun b=>Value.int .u8 b.toNat),B.el,rt,1,es'++l.map (fun b=>D.leaf (.int .u8 b.toNat)),rfl,rfl,?_,⟨q.rt.1,h'.base.new.2⟩,?_,hfl,hlen2,hal,by rw [← hlen2]; exact hcap,by rw [List.all_append,p4,hnone]; rfl⟩
   ·rw [AH.get_move,if_pos rfl]
   have hl:(ovs++(l.map fun b=>Value.int .u8 b.toNat)).length=(es'.length+l.length) * 1:=by rw [hfl.length,gQ hal,hlen2]
   rw [hX,yF (by rw [List.length_append]; omega),List.take_append_of_le_length (by omega),List.take_of_length_le (by omega)]
  have hOB:∀ B',jU (.slice (some ⟨H.next,0,none⟩) (es'.length+l.length) zV)=some B'->B'=H.next:=fun B' hB=>by
   simp only [jU,zT,if_true,oI] at hB; exact hB.symm
  have h3:=h2.newFresh hown rfl (fun B' r=>by rw [hOB B' r]; exact cY h'.toSM) (fun B' c r hc=>by have:=(j4 h'.toSM hc).1; rw [hOB B' r]; omega)
   (fun B' i r hi hoi=>by have:=(gZ h'.toSM hi hoi).1; rw [hOB B' r] at this; omega)
  rw [hn'] at h3
  refine ⟨_,_,?_,h3,fun c hc=>hmv _ (j4 h.toSM hc).1 (x2 c hc),Nat.le_succ _,_,_,_,rfl⟩
  have c1:Nat.ble zV zV=true:=bL (zT _)
  have c3:Nat.beq B.el B.el=true:=Nat.beq_refl _
  rw [q.v] at p2 ⊢
  rw [← hsz] at p2
  simp only [v8,ht,hxi,hte,hz,hnc,hle,cond_true,hnb,cond_false,c1,q.b,p2,hc0,c3,Bool.and_self]
  rw [hX]
  rfl
 | _=>cases hbuf
theorem qKz {b:Nat} {x:Blk} (h:S.blks[b]? = some (some x)):S.setBlk b x=S:=by
 have:S.blks.set b (some x)=S.blks:=by
  apply List.ext_getElem?
  intro i
  rw [List.getElem?_set]
  split
  ·rename_i e
   subst e
   split
   ·exact h.symm
   rename_i hn
   rw [List.getElem?_eq_none (Nat.le_of_not_lt hn)]
  rfl
 simp only [St.setBlk,this]
theorem qVF (hB:BldOK E B) (h:SR n0 H0 g0 S ρ ve lb g fr H) {o:Oper} {κ:K1} {b:Nat} {x:SV} (ha:vZ E fr o H=some (.enter B.w [jY (lb b),x.val ve lb],H)) (hxb:x.bd S.n S.blks.length)
  (hw:wp E HS Q (qXF B b x S κ) ρ):rH E HS Q n0 H0 g0 fr H o κ:=by
 unfold qXF at hw
 obtain ⟨d,h1,hd,hw⟩:=vI hw
 have hr:=vA h.toSM (h1 x List.mem_cons_self)
 simp only [SV.ds,qGf] at hd
 generalize hxd:x.d (getD ρ)=xd at hd hr
 match xd,hd,hr,hxd with
 | .leaf (.string str),hd,hr,hxd =>
  simp only [oI] at hd
  subst hd
  have hv:=(hr.dr (by intro _ _ _ e; cases e)).leaf_inv.1
  have e1:ExtS S ρ ve g (S.new .pure true) (ρ++[.leaf (goInt str.size)]) (l7 ve S.n (goInt str.size)) g:=wG h.len
  have hs1:=h.new (k:=.pure) (o:=true) (by simp) (d:=.leaf (goInt str.size)) (v:=goInt str.size) ⟨fun _=>rfl,.leaf rfl⟩
  have hxd1:x.d (getD (ρ++[.leaf (goInt str.size)]))=.leaf (.string str):=by rw [← hxd]; exact e1.d hxb
  generalize hS1:S.new .pure true=S1 at hw hs1 e1
  have hn1:S1.n=S.n+1:=by rw [← hS1,wL]
  have hsz:(l7 ve S.n (goInt str.size)) S.n=goInt str.size:=jD
  generalize l7 ve S.n (goInt str.size)=ve1 at hs1 e1 hsz
  generalize ρ++[D.leaf (goInt str.size)]=ρ1 at hw hs1 e1 hxd1
  split at hw
  case h_2=>cases hw
  rename_i t s hbl
  split at hw
  case h_2=>cases hw
  rename_i S' hbuf
  obtain ⟨hc,hw⟩:=v9 hw
  simp only [aE] at hc
  have ht:=vU hc.1
  subst ht
  simp only [wp] at hw
  split at hw
  case h_2=>cases hw
  rename_i d2 hd2
  simp only [SV.ds,hxd1] at hd2
  obtain ⟨qb,rt,p,cs,q2,q3,q4,q5⟩:=hs1.blks b _ hbl
  simp only [jK,SV.vals] at q5
  subst q5
  have hst:∀ (bs:zG),bs (lb b)=some ⟨.cells [jY (lb b),s.val ve1 lb] B.t,rt,true⟩->n0.own (lb b) rt->rI n0 (getD ρ1) ve1 lb bs (lb b) (.tcells B.t [s]):=fun bs k1 k2=>⟨rt,_,_,k1,k2,.inr rfl,rfl⟩
  have key:∃ H1,((p=.pointer none/\H1=(H.write (lb b) ⟨.cells [p,s.val ve1 lb] B.t,rt,true⟩ (.cells [jY (lb b),s.val ve1 lb] B.t)).up)∨(p=jY (lb b)/\H1=H.up))/\SR n0 H0 g0 S1 ρ1 ve1 lb g fr H1/\H1.blocks.get (lb b)=some ⟨.cells [jY (lb b),s.val ve1 lb] B.t,rt,true⟩/\H1.next=H.next+1:=by
   rcases q4 with rfl | rfl
   ·have:=hs1.storeO hbl q2 (x:=.tcells B.t [s]) qb hst
    rw [qKz hbl] at this
    exact ⟨_,.inl ⟨rfl,rfl⟩,this.raise,by show (AH.write _ _ _ _).blocks.get _=_; rw [AH.get_write,if_pos rfl],rfl⟩
   exact ⟨_,.inr ⟨rfl,rfl⟩,hs1.raise,q2,rfl⟩
  obtain ⟨H1,k1,h2,k2,k3⟩:=key
  obtain ⟨v,H2,a1,a2,a3,a4,a5⟩:=qOu hB h2 hbuf hd2
  have hl1:S1.live b:=⟨_,hbl⟩
  have hk2:=(a3 b hl1).trans k2
  obtain ⟨_,bok⟩:=qGv h2 hbuf
  have hbl2:(S'.new .fresh true).blks[b]? = some (some (.tcells B.t [s])):=by show S'.blks[b]? = _; rw [bok.blks]; exact hbl
  have h3:=a2.storeO hbl2 hk2 (x:=.tcells B.t [.v S1.n]) (o:=.cells [jY (lb b),v] B.t) (by rw [wL,bok.n]; exact ⟨Nat.lt_succ_self _,trivial⟩) fun bs r1 r2=>⟨rt,_,_,r1,r2,.inr rfl,by simp only [jK,SV.vals,SV.val,jD]⟩
  have hcall:=hB.wr q2 k1 a1 hk2 a4 a5
  refine ⟨_,_,_,_,_,_,_,h3.raise,?_,hw,?_⟩
  ·show S.n < _/\True/\True
   refine ⟨?_,trivial,trivial⟩
   show S.n < (S'.new .fresh true).n
   rw [wL,bok.n,hn1]; omega
  have hy:(SV.tup [.v S.n,.c .nilIface]).val (l7 ve1 S1.n v) lb=.tuple ⟨[goInt str.size,.nilIface]⟩:=by
   have:(l7 ve1 S1.n v) S.n=goInt str.size:=by rw [tV (by omega),hsz]
   simp only [SV.val,SV.vals,this]
  rw [hy]
  rw [hv] at ha
  exact .of_call ha hcall.raise (by show _ < _+1; have:=a4; show H.next < H2.next+1; omega)
theorem qMM (h:WF H) {b r:Nat}:WF { blocks:=H.blocks.put b none,next:=H.next,low:=r }:=by
 intro c k hc
 have hc:(H.blocks.put b none).get c=some k:=hc
 rw [T.get_put] at hc
 split at hc
 ·cases hc
 exact h c k hc
theorem qVH (hB:BldOK E B) (h:SR n0 H0 g0 S ρ ve lb g fr H) {o:Oper} {κ:K1} {b:Nat} (ha:vZ E fr o H=some (.enter B.s [jY (lb b)],H)) (hw:wp E HS Q (qXH B b S κ) ρ):rH E HS Q n0 H0 g0 fr H o κ:=by
 unfold qXH at hw
 split at hw
 case h_2=>cases hw
 rename_i t s hbl
 split at hw
 case h_2=>cases hw
 rename_i S' hbuf
 obtain ⟨hc,hw2⟩:=v9 hw
 clear hw
 have ht:=vU hc
 subst ht
 have hw:=hw2
 simp only [wp] at hw
 split at hw
 case h_2=>cases hw
 rename_i d hd
 simp only [SV.ds,qLK] at hd
 obtain ⟨h',bok⟩:=qGv h hbuf
 obtain ⟨qb,rt,p,cs,q2,q3,q4,q5⟩:=h.blks b _ hbl
 simp only [jK,SV.vals] at q5
 subst q5
 have hfr:=bok.fr
 have fin:∀ {H2:AH} {str:ByteArray},d=.leaf (.string str)->SR n0 H0 g0 S' ρ ve lb g fr H2->H.next<=H2.next->v7 E B.s [jY (lb b)] H (.string str) H2->rH E HS Q n0 H0 g0 fr H o κ:=by
  intro H2 str hds h2 hn hcall
  subst hds
  have h3:=h2.new (k:=.pure) (o:=true) (by simp) (d:=.leaf (.string str)) (v:=.string str) ⟨fun _=>rfl,.leaf rfl⟩
  rw [← bok.n] at hw
  refine ⟨.v S'.n,_,_,_,_,_,_,h3.raise,o9,hw,?_⟩
  simp only [SV.val,jD]
  exact .of_call ha hcall.raise (Nat.lt_succ_of_le hn)
 generalize s.d (getD ρ)=sd at hd hfr
 match sd,hd,hfr with
 | .nil,hd,hfr =>
  simp only [oI] at hd
  have hsv:s.val ve lb=.slice none 0 0:=by
   rcases hfr with (⟨h1,h2⟩ | ⟨h1,⟨a,h2⟩⟩) | ⟨B',l',cs,vs,vL,rt,sz,es2,q⟩
   ·exact h1
   ·rw [h2] at h1; cases h1
   have:=q.d; cases this
  rw [hsv] at q2
  obtain ⟨Hx,x1,x2,x3,x4⟩:=hB.s0 q2
  have h2:=h'.heap2 (H':=Hx) (fun _=>False) (fun b _ _=>by rw [x2]) (fun b e=>e.elim) (fun b c e=>e.elim) (fun b i e=>e.elim) (fun b e=>e.elim) (fun c k hc=>by rw [x2] at hc; rw [x3]; exact h.wf c k hc) (Nat.le_of_eq x3.symm)
   (lT (Nat.le_min.2 ⟨h'.low,lT (Nat.min_le_right _ _) h'.base.1⟩) x4)
  exact fin hd.symm h2 (Nat.le_of_eq x3.symm) x1
 | .sl vL sz es,hd,hfr =>
  simp only at hd
  obtain ⟨hc,hd3⟩:=zP hd
  clear hd
  simp only [aE] at hc
  obtain ⟨⟨⟨c1,c2⟩,c3⟩,c4⟩:=hc
  have c1:=vU c1
  have c2:=vU c2
  have c3:=lB c3
  have c4:=lB c4
  subst c1 c2
  rw [Option.map_eq_some_iff] at hd3
  obtain ⟨l,hl,rfl⟩:=hd3
  rcases hfr with (⟨h1,h2⟩ | ⟨h1,⟨a,h2⟩⟩) | ⟨B',l',cs,vs,vL,rt',sz,es2,q⟩
  ·cases h2
  ·rw [h2] at h1
   cases h1 with
   | sl _ _ _ hl'=>omega
  have hd0:=q.d
  cases hd0
  have hn:=q.n
  rw [q.v] at q2
  obtain ⟨x1,x2,x3,x4⟩:=bok.own B' (by rw [q.v]; simp [jU])
  have hlv:∀ {c},S'.live c->S.live c:=fun {c} ⟨y,hy⟩=>⟨y,by rw [bok.blks] at hy; exact hy⟩
  have ht:=q.t
  rw [Nat.mul_one] at ht
  obtain ⟨Hx,y1,y2,y3,y4⟩:=hB.s1 q2 (by omega) (by omega) q.b ht (aC hl q.r)
  have hmv:∀ c,c < H.next->¬ c=B'->Hx.blocks.get c=H.blocks.get c:=fun c _ hne=>by
   rw [y2,T.get_put,if_neg hne]
  have h2:=h'.heap2 (H':=Hx) (fun b=>b=B') hmv (fun b e=>by rw [e]; exact x1) (fun b c e hc=>by rw [e]; exact x2 c (hlv hc)) (fun b i e hi=>by rw [e]; exact x3 i hi) (fun b e=>by rw [e]; exact x4)
   (fun c k hc=>by rw [y2] at hc; rw [y3]; exact qMM (r:=0) h.wf c k hc) (Nat.le_of_eq y3.symm)
   (lT (Nat.le_min.2 ⟨Nat.le_min.2 ⟨h'.low,lT (Nat.min_le_right _ _) h'.base.1⟩,lT (Nat.min_le_right _ _) q.rt.1⟩) y4)
  exact fin rfl h2 (Nat.le_of_eq y3.symm) y1
theorem qR4 (hB:BldOK E B) {o:Oper} {κ:K1} (h:SR n0 H0 g0 S ρ ve lb g fr H) (hw:wp E (qA E) Q (qQ3 E B o S κ) ρ):rH E (qA E) Q n0 H0 g0 fr H o κ:=by
 have plain:wp E (qA E) Q (jE E o S κ) ρ->rH E (qA E) Q n0 H0 g0 fr H o κ:=fun hw=>(d6 h hw).toR
 unfold qQ3 at hw
 split at hw
 ·rename_i t ho
  rw [cond_eq_ite] at hw
  split at hw
  ·rename_i htt
   have htt:=vU htt
   split at hw
   case h_2=>cases hw
   rename_i ds sz bt ag ht
   have h2:=h.allocO (o:=.cells [.pointer none,.slice none 0 0] t) (x:=.tcells t [.c (.slice none 0 0)]) ⟨trivial,trivial⟩ (fun bs h1 h2=>⟨_,_,_,h1,h2,.inl rfl,rfl⟩)
   refine ⟨_,_,_,_,_,_,_,h2,qFU _,hw,.of_val (Nat.le_succ _) ?_⟩
   unfold vZ
   rw [ho]
   simp only [ht,SV.val,qBt,if_true]
  exact plain hw
 ·rename_i c ho
  split at hw
  case h_2=>exact plain hw
  rename_i f args hcal hargs
  obtain ⟨ab,ae⟩:=oO (E:=E) h hargs
  have enter:∀ {g:FuncId},rU S f=some (.fn (.func g) [] [])->(∃ fn,E.funcs.get g=some fn)->vZ E fr o H=some (.enter g (SV.vals ve lb args),H):=by
   intro g hfv ⟨fn,hfn⟩
   obtain ⟨fb,fe⟩:=zR (E:=E) h hfv
   simp only [SV.val] at fe
   unfold vZ; rw [ho]
   simp only [wO,ae,hcal,fe,kQ,hfn,SV.vals,List.append_nil,List.nil_append]
  split at hw
  ·rename_i g b x hfv
   rw [cond_eq_ite] at hw
   split at hw
   ·rename_i e
    have e:=vU e
    subst e
    have:=enter hfv hB.wf
    exact qVF hB h this ab.2.1 hw
   exact plain hw
  ·rename_i g b hfv
   rw [cond_eq_ite] at hw
   split at hw
   ·rename_i e
    have e:=vU e
    subst e
    have:=enter hfv hB.sf
    exact qVH hB h this hw
   exact plain hw
  exact plain hw
 exact plain hw
theorem qIJ (he:EOk E) (hB:BldOK E B) {f:FuncId} {fn:Func} {c:Code} (hf:E.funcs.get f=some fn) (hb:fn.body=some c) {pats:Nat->Pat} {szs:Nat->Nat} {Ts:Nat->Tree} {ds:List D} {d:D} {n:Nat} (hn:ds.length=n)
  (h0:s9 E (fun k S=>j6 (szs k) (pats k) k S) (qQ3 E B) sV 1 c (wI n (Nat.max fn.ntmps n)) (nP E fn.results.toList)=Ts 0)
  (hT:∀ x∈jW E (fun k=>(pats k).st (szs k)) (fun k S=>j6 (szs k) (pats k) k S) (qQ3 E B) sV (fun _ _ _ _=>[]) 1 c (nP E fn.results.toList),Ts x.1=x.2)
  (hgo:qG E (qA E) Ts 0 ds d) (hlt:f < qBf:=by decide):qA E f ds d:=by
 refine .inl ⟨hlt,⟨fn,hf⟩,fun H g args hwf hm hd=>?_⟩
 have hlen:args.length=n:=by rw [hd.length,hn]
 have hs:=uD (sz:=Nat.max fn.ntmps n) hwf hm hd hlen
 obtain ⟨m,hgo⟩:=hgo
 cases m with
 | zero=>cases hgo
 | succ m =>
  have hgo':wp E (qA E) (Qf E Ts d m) (Ts 0) ds:=hgo
  rw [← h0] at hgo'
  have hO:qJh E (Lim.of H.next) H g (Qf E Ts d) (qQ3 E B):=fun m o S ρ ve lb g fr H κ h hw=>qR4 hB h hw
  have hR:bR E (Lim.of H.next) H g (Qf E Ts d) (fun k S=>j6 (szs k) (pats k) k S) (qQ3 E B) sV 1 c (nP E fn.results.toList):=fun _ _ _ _ _ _ _ _ _ _ _ _ _ _ _ _ hw=>by cases hw
  have hj:=bG (n0:=Lim.of H.next) (H0:=H) (g0:=g) (d:=d) he hO hR rfl hT (fun k κ b hp=>Nat.zero_le _) m
  obtain ⟨e,fr1,H1,hx,m1,_,S1,ρ1,ve1,lb1,g1,h1,hw⟩:=oY he hO hR hj c 1 _ .root m (zT _) _ _ _ _ _ _ _ hs hgo'
  obtain ⟨he',v,g',hv,hdr,hm',hwf',hnx,hk,hlow,hgk⟩:=qDb (d:=d) (fun d' hd'=>hd') e S1 ρ1 ve1 lb1 g1 fr1 H1 h1 hw
  rw [← hlen] at hx
  have hcall:=qW.call he hf hb hx he' hv
  let g2:zG:=fun b=>if b < H.next then g b else g' b
  have hg2:zG.le g' g2:=by
   intro b k hb
   simp only [g2]
   split
   ·rename_i hlt; rw [← hgk b hlt]; exact hb
   exact hb
  refine ⟨v,{ H1 with next:=H1.next+1 },g2,hcall.raise,Nat.lt_succ_of_le hnx,fun b k hb=>⟨(hwf' b k hb).1,Nat.lt_succ_of_lt (hwf' b k hb).2⟩,hk,hlow,?_,?_,?_,hdr.mono hg2⟩
  ·intro b k hb
   simp only [g2]
   rw [if_pos (hwf b k (hm b k hb)).2]
   exact hb
  ·intro b k hb
   simp only [g2] at hb
   split at hb
   ·rename_i hlt
    rw [← hgk b hlt] at hb
    exact hm' b k hb
   exact hm' b k hb
  intro b hb
  simp only [g2]
  rw [if_pos hb]
end
end Go.Am
namespace Go.Am
open Go
def qAn (E:Env) (s:TypeId) (f t off:Nat):Bool:=match E.types.get s with
 | some { desc:=.struct fs,.. }=>match fs[f]? with
  | some fd=>Nat.beq fd.type t && Nat.beq fd.offset off && (match E.types.get t with | some ti=>Nat.beq ti.size 1 && !ti.agg | none=>false)
  | none=>false
 | _=>false
def isPtr (E:Env) (t u:TypeId):Bool:=match E.types.get t,E.types.get u with
 | some { desc:=.pointer u',.. },some ti=>Nat.beq u' u && Nat.ble 1 ti.size
 | _,_=>false
def qB8 (E:Env) (t:TypeId):Bool:=match E.types.get t with
 | some { desc:=.unsafePointer,.. }=>true
 | _=>false
def tL (E:Env) (t:TypeId) (n:Nat):Bool:=match E.types.get t with
 | some ti=>Nat.beq ti.size n
 | none=>false
def lN (E:Env) (t:TypeId):Bool:=match E.types.get t with
 | some ti=>Nat.beq ti.size 1 && !ti.agg
 | none=>false
theorem qIF {E:Env} {s:TypeId} {f t off:Nat} (h:qAn E s f t off=true):∃ fs sz bt z ag fd ti,E.types.get s=some ⟨.struct fs,sz,bt,z,ag⟩/\fs[f]? = some fd/\fd.type=t/\fd.offset=off/\E.types.get t=some ti/\ti.size=1/\ti.agg=false:=by
 unfold qAn at h
 split at h
 case h_2=>cases h
 rename_i fs sz bt z ag hs
 split at h
 case h_2=>cases h
 rename_i fd hf
 split at h
 ·rename_i ti ht
  simp only [aE,Bool.not_eq_true'] at h
  exact ⟨fs,sz,bt,z,ag,fd,ti,hs,hf,vU h.1.1,vU h.1.2,ht,vU h.2.1,h.2.2⟩
 simp at h
theorem qAo {E:Env} {t:TypeId} (h:lN E t=true):∃ ti,E.types.get t=some ti/\ti.size=1/\ti.agg=false:=by
 unfold lN at h
 split at h
 ·rename_i ti ht
  simp only [aE,Bool.not_eq_true'] at h
  exact ⟨ti,ht,vU h.1,h.2⟩
 cases h
theorem bH {E:Env} {t u:TypeId} (h:isPtr E t u=true):∃ sz bt z ag ti,E.types.get t=some ⟨.pointer u,sz,bt,z,ag⟩/\E.types.get u=some ti/\Nat.ble 1 ti.size=true:=by
 unfold isPtr at h
 split at h
 ·rename_i u' sz bt z ag ti h1 h2
  simp only [aE] at h
  have:=vU h.1
  subst this
  exact ⟨sz,bt,z,ag,ti,h1,h2,h.2⟩
 cases h
theorem qB7 {E:Env} {t:TypeId} (h:qB8 E t=true):∃ sz bt z ag,E.types.get t=some ⟨.unsafePointer,sz,bt,z,ag⟩:=by
 unfold qB8 at h
 split at h
 ·rename_i sz bt z ag h1
  exact ⟨sz,bt,z,ag,h1⟩
 cases h
section
variable {E:Env} {fr:Fr} {o:Oper} {H:AH}
theorem yJ {x:Operand} {v:Value} (ho:o.op=.move x) (hv:ev E fr x=some v):vZ E fr o H=some (.val v,H):=by
 unfold vZ; rw [ho]; simp only [hv,one,Option.map_some]
theorem yZ {x:Operand} {v:Value} (ho:o.op=.assign x) (hv:ev E fr x=some v):vZ E fr o H=some (.val v,H):=by
 unfold vZ; rw [ho]; simp only [hv,one,Option.map_some]
theorem dK {x:Operand} {b:Nat} (ho:o.op=.nilCheck x) (hv:ev E fr x=some (jY b)):vZ E fr o H=some (.val (jY b),H):=by
 unfold vZ; rw [ho]; simp only [hv,jY]
theorem dL {s:TypeId} {x:Operand} {f t off b:Nat} (hf:qAn E s f t off=true) (ho:o.op=.fieldAddr s x f) (hv:ev E fr x=some (jY b)):vZ E fr o H=some (.val (.pointer (some ⟨b,off,none⟩)),H):=by
 obtain ⟨fs,sz,bt,z,ag,fd,ti,h1,h2,rfl,rfl,h5,h6,h7⟩:=qIF hf
 unfold vZ; rw [ho]
 have hb:Nat.beq 1 0=false:=rfl
 have h0:Nat.add 0 fd.offset=fd.offset:=Nat.zero_add _
 simp only [hv,jY,dC,h1,h2,h5,h6,Option.bind_some,hb,cond_false,fX,h0,one,Option.map_some]
theorem fP {t:TypeId} {x:Operand} {b off:Nat} {v:Value} {cs:List Value} {el rt:Nat} {own:Bool} (ht:lN E t=true) (ho:o.op=.load t x) (hv:ev E fr x=some (.pointer (some ⟨b,off,none⟩)))
  (hb:H.blocks.get b=some ⟨.cells cs el,rt,own⟩) (hc:take? (cs.drop off) 1=some [v]):vZ E fr o H=some (.val v,H):=by
 obtain ⟨ti,h1,h2,h3⟩:=qAo ht
 unfold vZ; rw [ho]
 simp only [hv,oG,h1,h3,cond_false,AH.loads,hb,hc,one,Option.map_some]
theorem qE9 {t:TypeId} {a x:Operand} {b off:Nat} {v:Value} {cs cs':List Value} {el rt:Nat} (ht:lN E t=true) (ho:o.op=.store t a x) (ha:ev E fr a=some (.pointer (some ⟨b,off,none⟩))) (hv:ev E fr x=some v)
  (hnt:oH v) (hn:v.cells.toList=[v]) (hb:H.blocks.get b=some ⟨.cells cs el,rt,true⟩) (hs:jP cs off [v]=some cs'):vZ E fr o H=some (.skip,H.write b ⟨.cells cs el,rt,true⟩ (.cells cs' el)):=by
 obtain ⟨ti,h1,h2,h3⟩:=qAo ht
 unfold vZ; rw [ho]
 have hb1:Nat.beq [v].length 1=true:=rfl
 simp only [ha,hv]
 split
 ·rename_i c _ hc
  simp only [oI] at hc
  exact absurd hc (hnt _)
 ·rename_i a' v' hn' e1 e2
  simp only [oI] at e1 e2
  subst e1 e2
  simp only [wH,h1,hn,h2,hb1,cond_true,AH.stores,hb,hs,Option.map_some]
 rename_i hn'
 exact absurd rfl (hn' _ _ rfl)
theorem qOt {c:Call} {f:Operand} {g:FuncId} {args:List Value} {fn:Func} (hg:E.funcs.get g=some fn) (ho:o.op=.call c) (hf:c.callee=.value f) (hfv:ev E fr f=some (.func (.func g) #[] #[])) (ha:nW E fr c.args.toList=some args):vZ E fr o H=some (.enter g args,H):=by
 unfold vZ; rw [ho]
 simp only [wO,ha,hf,hfv,kQ]
 simp [hg]
theorem qS4 {c:Call} {f:Operand} {g:FuncId} {fn:Func} {b:Nat} (hg:E.funcs.get g=none) (hp:E.prog.funcs[g]? = some fn) (hn:(fn.name == xK && fn.body.isNone && (Extern.findNext fn).isNone)=true) (ho:o.op=.call c) (hf:c.callee=.value f) (hfv:ev E fr f=some (.func (.func g) #[] #[])) (ha:nW E fr c.args.toList=some [jY b]):vZ E fr o H=some (.val (jY b),H):=by
 unfold vZ; rw [ho]
 simp only [wO,ha,hf,hfv,kQ]
 simp [hg,qNb,hp,hn,jY]
theorem qMn {s d u:TypeId} {x:Operand} {b:Nat} {p q:Value} {el rt:Nat} {own:Bool} (hs:isPtr E s u=true) (hd:qB8 E d=true) (ho:o.op=.convert s d x) (hv:ev E fr x=some (jY b)) (hb:H.blocks.get b=some ⟨.cells [p,q] el,rt,own⟩):vZ E fr o H=some (.val (jY b),H):=by
 obtain ⟨sz,bt,z,ag,ti,h1,h2,h3⟩:=bH hs
 obtain ⟨sz',jF,z',ag',h4⟩:=qB7 hd
 unfold vZ; rw [ho]
 have h5:Nat.blt 0 [p,q].length=true:=rfl
 simp only [hv,jY,dW,h1,h4,hb,h2,h3,h5,Bool.and_self,cond_true]
theorem qMm {s d u:TypeId} {x:Operand} {b:Nat} {p q:Value} {rt:Nat} (hs:qB8 E s=true) (hd:isPtr E d u=true) (hz:tL E u 2=true) (ho:o.op=.convert s d x) (hv:ev E fr x=some (jY b)) (hb:H.blocks.get b=some ⟨.cells [p,q] u,rt,true⟩):vZ E fr o H=some (.val (jY b),H):=by
 obtain ⟨sz,bt,z,ag,ti,h1,h2,h3⟩:=bH hd
 obtain ⟨sz',jF,z',ag',h4⟩:=qB7 hs
 unfold vZ; rw [ho]
 have h5:ti.size=2:=by
  unfold tL at hz
  rw [h2] at hz
  exact vU hz
 have h6:Nat.beq u u=true:=Nat.beq_refl _
 have h7:Nat.beq 0 0=true:=rfl
 have h8:Nat.beq [p,q].length 2=true:=rfl
 have h9:Nat.ble 1 2=true:=rfl
 simp only [hv,jY,dW,h1,h4,hb,h2,h5,h6,h7,h8,h9,Bool.and_self,cond_true]
theorem qGx {op:BinOp} {t u:TypeId} {x y:Operand} {a b v:Value} (ho:o.op=.binOp op t x y u) (h1:ev E fr x=some a) (h2:ev E fr y=some b) (hv:yE E op t x y a b=some v):vZ E fr o H=some (.val v,H):=by
 unfold vZ; rw [ho]
 simp only [h1,h2,hv,one,Option.map_some]
theorem qOq {t u:TypeId} {x y:Operand} {b:Nat} (ht:isPtr E t u=true):yE E .eql t x y (jY b) (.pointer none)=some (.bool false):=by
 obtain ⟨sz,bt,z,ag,ti,h1,h2,h3⟩:=bH ht
 have hf:zI (.pointer (some ⟨b,0,none⟩))=false:=rfl
 simp only [yE,jY,hf,Bool.false_and,cond_false,aU,cE,h1,cond_true]
theorem qMj {t u:TypeId} {x y:Operand} {b:Nat} (ht:isPtr E t u=true):yE E .neq t x y (jY b) (jY b)=some (.bool false):=by
 obtain ⟨sz,bt,z,ag,ti,h1,h2,h3⟩:=bH ht
 have hf:zI (.pointer (some ⟨b,0,none⟩))=false:=rfl
 simp only [yE,jY,hf,Bool.false_and,cond_false,aU,cE,h1,h2,Option.isSome_some,Nat.beq_refl,Bool.and_self,cond_true]
theorem qGw {c:Call} {t:TypeId} {ts:List TypeId} {v w:Value} (ho:o.op=.call c) (hc:c.callee=.builtin .len) (hts:c.argTypes.toList=t::ts) (ha:nW E fr c.args.toList=some [v]) (hl:eZ E H (t::ts) v=some w):vZ E fr o H=some (.val w,H):=by
 unfold vZ; rw [ho]
 simp only [wO,ha,hc,hts,xD,hl,one,Option.map_some]
theorem qS5 {c:Call} {ts:List TypeId} {s x v:Value} {H':AH} (ho:o.op=.call c) (hc:c.callee=.builtin .append) (hts:c.argTypes.toList=ts) (ha:nW E fr c.args.toList=some [s,x]) (hl:v8 E H ts s x=some (.val v,H')):vZ E fr o H=some (.val v,H'):=by
 unfold vZ; rw [ho]
 simp only [wO,ha,hc,hts,xD,hl]
theorem qHR {c:Call} {a v:Value} (ho:o.op=.call c) (hc:c.callee=.builtin .unsafeSliceData) (ha:nW E fr c.args.toList=some [a])
  (hv:(∃ n m,a=.slice none n m/\v=.pointer none)∨∃ p n m,a=.slice (some p) n m/\1<=n/\v=.pointer (some p)):vZ E fr o H=some (.val v,H):=by
 unfold vZ; rw [ho]
 rcases hv with ⟨n,m,rfl,rfl⟩ | ⟨p,n,m,rfl,hn,rfl⟩
 ·simp only [wO,ha,hc,xD]
 have:Nat.ble 1 n=true:=bL hn
 simp only [wO,ha,hc,xD,this,cond_true]
theorem qMo {c:Call} {t:TypeId} {ts:List TypeId} {p l v:Value} {H':AH} (ho:o.op=.call c) (hc:c.callee=.builtin .unsafeString) (hts:c.argTypes.toList=t::ts) (ha:nW E fr c.args.toList=some [p,l]) (hl:jI E H (t::ts) p l=some (.val v,H')):vZ E fr o H=some (.val v,H'):=by
 unfold vZ; rw [ho]
 simp only [wO,ha,hc,hts,xD,hl]
end
end Go.Am
