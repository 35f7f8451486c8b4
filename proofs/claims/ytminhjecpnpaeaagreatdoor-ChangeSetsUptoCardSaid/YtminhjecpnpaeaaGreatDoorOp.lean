/- What came in, opened: an abstract heap with a block for every list. Conditions: none. -/
import Derived.Test.YtminhjecpnpaeaaGreatDoorUn
import Derived.Test.YtminhjecpnpaeaaGreatDoorAm7
import Derived.WalkKit
import Derived.OpenShut
import Derived.Deep.Slices
import Derived.Deep.Strs
set_option linter.unusedVariables false
set_option linter.unusedSimpArgs false
namespace Go.Am
open Go
def qMe (P:Program) (rec:TypeId->Option (List Sh)):List Field->List Sh->Option (List Sh)
 | [],acc=>some acc
 | f::r,acc=>bif Nat.beq f.offset acc.length then match rec f.type with
  | some s=>bif Nat.beq (P.cellsOf f.type) s.length then qMe P rec r (acc++s) else none
  | none=>none
  else none
def qGt (P:Program) (e:TypeId) (ss:List Sh):Option Sh:=match P.underlying e with
 | some (.struct _)=>some (.st ss)
 | some (.array _ _)=>none
 | _=>match ss with
  | [s]=>some s
  | _=>none
def gM (P:Program):Nat->TypeId->Option (List Sh)
 | 0,_=>none
 | n+1,t=>match P.underlying t with
  | some .bool=>some [.bool]
  | some (.int k)=>some [.int k]
  | some .string=>some [.str]
  | some (.slice e)=>match gM P n e with
   | some ss=>match qGt P e ss with
    | some s=>bif Nat.beq (P.cellsOf e) ss.length && Nat.blt 0 ss.length then some [.sl e ss.length s] else none
    | none=>none
   | none=>none
  | some (.struct fs)=>match qMe P (gM P n) fs.toList [] with
   | some ss=>bif Nat.beq (P.cellsOf t) ss.length then some ss else none
   | none=>none
  | _=>none
structure Bk where
 loc:Option Loc
 cs:List Value
 el:TypeId
def Bk.a (k:Bk):ABlk:=⟨.cells k.cs k.el,0,false⟩
def d9 (m:Nat):List (Nat × ABlk)->T ABlk->T ABlk
 | [],t=>t
 | p::r,t=>if p.1 < m then (d9 m r t).put p.1 (some p.2) else d9 m r t
def jR (b:Nat):List (Nat × ABlk)->Option ABlk
 | []=>none
 | p::r=>if b=p.1 then some p.2 else jR b r
theorem cY {m b:Nat} {t:T ABlk}:∀ l:List (Nat × ABlk),(d9 m l t).get b=if b < m then (match jR b l with | some k=>some k | none=>t.get b) else t.get b
 | []=>by simp [d9,jR]
 | p::r=>by
  unfold d9 jR
  by_cases hp:p.1 < m
  ·rw [if_pos hp,T.get_put,cY r]
   by_cases e:b=p.1
   ·rw [if_pos e,if_pos e,if_pos (by omega)]
   rw [if_neg e,if_neg e]
  rw [if_neg hp,cY r]
  by_cases hb:b < m
  ·rw [if_pos hb,if_pos hb,if_neg (by omega)]
  rw [if_neg hb,if_neg hb]
def qBS (E:Env) (b:Nat):Loc:=match jR b E.laid with
 | some ⟨.cells cs el,_,_⟩=>⟨b,0,cs.length,match E.types.get el with | some ti=>ti.size | none=>0⟩
 | _=>⟨b,0,0,0⟩
theorem qBR (E:Env) (b:Nat):(qBS E b).blk=b/\(qBS E b).off=0:=by
 unfold qBS; split <;> exact ⟨rfl,rfl⟩
def dH (E:Env) (m:Nat) (L:List Bk):AH:={ blocks:=d9 m E.laid (T.ofList .leaf m (L.map Bk.a)),next:=Nat.add m L.length,low:=z8 }
def rV (E:Env) (m:Nat) (L:List Bk):zZ:=fun b=>if b < m then some (qBS E b) else L[b - m]?.bind Bk.loc
theorem aS (E:Env) (m:Nat) (L:List Bk) (b:Nat):(dH E m L).blocks.get b=if m<=b then L[b - m]?.map Bk.a else jR b E.laid:=by
 have h0:(T.ofList .leaf m (L.map Bk.a)).get b=if m<=b then L[b - m]?.map Bk.a else none:=by
  rw [kX]
  by_cases h:m<=b/\b < m+(L.map Bk.a).length
  ·rw [if_pos h,if_pos h.1,List.getElem?_map]
  rw [if_neg h]
  by_cases h1:m<=b
  ·rw [if_pos h1,List.getElem?_eq_none (by simp at h; omega)]
   rfl
  rw [if_neg h1]; rfl
 simp only [dH]
 rw [cY,h0]
 by_cases hb:m<=b
 ·rw [if_pos hb,if_pos hb,if_neg (by omega)]
 rw [if_neg hb,if_neg hb,if_pos (by omega)]
 cases jR b E.laid <;> rfl
theorem dG {E:Env} {m:Nat} {L L1:List Bk}:zG.le (dH E m L).blocks.get (dH E m (L++L1)).blocks.get:=by
 intro b k h
 rw [aS] at h ⊢
 split at h
 ·rename_i hb
  rw [if_pos hb]
  cases hl:L[b - m]? with
  | none=>rw [hl] at h; cases h
  | some x =>
   rw [hl] at h
   have:b - m < L.length:=(gI hl).1
   rw [List.getElem?_append_left this,hl]; exact h
 rename_i hb; rw [if_neg hb]; exact h
theorem lE {E:Env} {m:Nat} {L L1:List Bk}:zZ.le (rV E m L) (rV E m (L++L1)):=by
 intro b l h
 unfold rV at h ⊢
 split at h
 ·rename_i hb; rw [if_pos hb]; exact h
 rename_i hb
 rw [if_neg hb]
 cases hl:L[b - m]? with
 | none=>rw [hl] at h; cases h
 | some x =>
  rw [hl] at h
  have:b - m < L.length:=(gI hl).1
  rw [List.getElem?_append_left this,hl]; exact h
def qCG (E:Env) (m:Nat) (W:World) (L:List Bk):Prop:=∀ (i:Nat) (k:Bk) (l:Loc),L[i]? = some k->k.loc=some l->∃ o,W.heap[l.blk]? = some o/\oT E (rV E m L) l false (.cells k.cs k.el) o
theorem qCG.snoc {E:Env} {m:Nat} {W:World} {L:List Bk} {k:Bk} (h:qCG E m W L) (hk:∀ l,k.loc=some l->∃ o,W.heap[l.blk]? = some o/\oT E (rV E m L) l false (.cells k.cs k.el) o):qCG E m W (L++[k]):=by
 intro i k' l hi hl
 rcases Nat.lt_or_ge i L.length with hlt | hge
 ·rw [List.getElem?_append_left hlt] at hi
  obtain ⟨o,h1,h2⟩:=h i k' l hi hl
  exact ⟨o,h1,h2.mono lE⟩
 rw [List.getElem?_append_right hge] at hi
 have:i - L.length=0:=by
  rcases Nat.eq_zero_or_pos (i - L.length) with h | h
  ·exact h
  rw [List.getElem?_eq_none (by simp; omega)] at hi; cases hi
 rw [this] at hi
 simp only [List.getElem?_cons_zero,oI] at hi
 subst hi
 obtain ⟨o,h1,h2⟩:=hk l hl
 exact ⟨o,h1,h2.mono lE⟩
theorem qBM:∀ {fs:List Sh} {cs:List D},vU fs cs->cs.length=fs.length
 | [],cs,h=>by simp only [vU] at h; rw [h]; rfl
 | s::ss,cs,h=>by
  simp only [vU] at h
  obtain ⟨d,ds,rfl,_,h2⟩:=h
  simp [qBM h2]
theorem fZ:∀ {ss ts:List Sh} {ds es:List D},vU ss ds->vU ts es->vU (ss++ts) (ds++es)
 | [],_,ds,es,h,h'=>by simp only [vU] at h; subst h; exact h'
 | s::ss,_,ds,es,h,h'=>by
  simp only [vU] at h
  obtain ⟨d,ds,rfl,h1,h2⟩:=h
  simp only [List.cons_append,vU]
  exact ⟨d,ds++es,rfl,h1,fZ h2 h'⟩
theorem qAC {σ:zZ}:∀ {l l' k k':List Value},VRs σ l l'->VRs σ k k'->VRs σ (l++k) (l'++k')
 | _,_,_,_,.nil,h=>h
 | _,_,_,_,.cons h hs,h'=>.cons h (qAC hs h')
section
variable {E:Env} {H:Type} {enc:TypeId × Value->H} {P:Program} {W:World} {m:Nat}
def qEU (E:Env) (m:Nat) (W:World) (L0:List Bk) (ss:List Sh) (cs:List Value):Prop :=
 ∃ (L1:List Bk) (vs:List Value) (ds:List D),qCG E m W (L0++L1)/\VRs (rV E m (L0++L1)) vs cs/\DRs (dH E m (L0++L1)).blocks.get ds vs/\vU ss ds/\vs.all qQ=true
theorem qEU.app {L0:List Bk} {ss ts:List Sh} {cs es:List Value} (h1:qEU E m W L0 ss cs) (h2:∀ L,qCG E m W L->qEU E m W L ts es):qEU E m W L0 (ss++ts) (cs++es):=by
 obtain ⟨L1,vs,ds,a1,a2,a3,a4,a5⟩:=h1
 obtain ⟨L2,us,xs,b1,b2,b3,b4,b5⟩:=h2 _ a1
 refine ⟨L1++L2,vs++us,ds++xs,?_,?_,?_,fZ a4 b4,?_⟩
 ·rw [← List.append_assoc]; exact b1
 ·rw [← List.append_assoc]; exact qAC (a2.mono lE) b2
 ·rw [← List.append_assoc]; exact (a3.mono dG).append b3
 rw [List.all_append,a5,b5]; rfl
def qPy (st:Bool) (ds:List D):D:=bif st then .agg ds else ds.headD .nil
theorem qQu {e:TypeId} {ss:List Sh} {s:Sh} {n:Nat} (hn:gM P n e=some ss) (h:qGt P e ss=some s):∃ st,∀ ds,vU ss ds->vA s (qPy st ds)/\(qPy st ds).cells=ds:=by
 unfold qGt at h
 split at h
 ·rename_i fs hu
  simp only [oI] at h
  subst h
  exact ⟨true,fun ds hd=>⟨⟨ds,rfl,hd⟩,rfl⟩⟩
 ·cases h
 rename_i h1 h2
 split at h
 case h_2=>cases h
 rename_i s'
 simp only [oI] at h
 subst h
 refine ⟨false,fun ds hd=>?_⟩
 simp only [vU] at hd
 obtain ⟨d,l,rfl,hd,rfl⟩:=hd
 refine ⟨hd,?_⟩
 show D.cells d=[d]
 have hone:∀ fs,s'≠.st fs:=by
  intro fs e0
  cases n with
  | zero=>cases hn
  | succ n =>
   simp only [gM] at hn
   split at hn
   ·cases hn; cases e0
   ·cases hn; cases e0
   ·cases hn; cases e0
   ·split at hn
    ·split at hn
     ·rename_i s1 _
      cases hc:(Nat.beq (P.cellsOf _) (List.length _) && Nat.blt 0 (List.length _)) with
      | _ =>
       rw [hc] at hn
       first
        | (simp only [cond_true,oI,List.cons.injEq] at hn; rw [← hn.1] at e0; cases e0)
        | (cases hn)
     cases hn
    cases hn
   ·rename_i fs' hu
    exact absurd hu (h1 fs')
   cases hn
 cases s' with
 | int k=>simp only [vA] at hd; obtain ⟨n,rfl⟩:=hd; rfl
 | bool=>simp only [vA] at hd; obtain ⟨n,rfl⟩:=hd; rfl
 | str=>simp only [vA] at hd; obtain ⟨n,rfl⟩:=hd; rfl
 | st fs=>exact absurd rfl (hone fs)
 | sl el sz e=>simp only [vA] at hd; rcases hd with rfl | ⟨es,rfl,_⟩ <;> rfl
end
end Go.Am
namespace Go.Am
open Go
section
variable {E:Env} {H:Type} {enc:TypeId × Value->H} {P:Program} {W:World} {m:Nat}
theorem qGb {n sz:Nat} (f:Nat->List Value) (hf:∀ i,i < n->(f i).length=sz) (hz:0 < sz):∀ (i:Nat),i < n * sz->(((List.range n).map f).flatten)[i]? = (f (i / sz))[i % sz]? := by
 have key:∀ (l:List (List Value)),(∀ c∈l,c.length=sz)->∀ i,l.flatten[i]? = (l[i / sz]?.getD [])[i % sz]? := by
  intro l
  induction l with
  | nil=>intro _ i; simp
  | cons c l ih =>
   intro h i
   have hc:=h c List.mem_cons_self
   rw [List.flatten_cons]
   rcases Nat.lt_or_ge i sz with hi | hi
   ·rw [List.getElem?_append_left (by omega),Nat.div_eq_of_lt hi,Nat.mod_eq_of_lt hi]
    rfl
   rw [List.getElem?_append_right (by omega),ih (fun d hd=>h d (mC _ hd)),hc]
   have e1:i / sz=(i - sz) / sz+1:=by
    rw [Nat.div_eq_sub_div hz hi]
   have e2:i % sz=(i - sz) % sz:=Nat.mod_eq_sub_mod hi
   rw [e1,e2]; rfl
 intro i hi
 rw [key _ (fun c hc=>by
  obtain ⟨j,hj,rfl⟩:=List.mem_map.1 hc
  exact hf j (List.mem_range.1 hj))]
 have hd:i / sz < n:=Nat.div_lt_of_lt_mul (by rw [Nat.mul_comm]; exact hi)
 rw [List.getElem?_map,List.getElem?_range hd]
 rfl
theorem qS1 {σ:zZ} {vs cs:List Value} (h:VRs σ vs cs) {i:Nat} {v:Value} (hv:vs[i]? = some v):∃ v',cs[i]? = some v'/\VR σ v v':=h.get i v hv
theorem take?_all:∀ (l:List Value) (n:Nat),n=l.length->take? l n=some l
 | [],0,_=>rfl
 | [],_+1,h=>by simp at h
 | _::_,0,h=>by simp at h
 | x::l,n+1,h=>by
  simp only [take?,take?_all l n (by simpa using h),Option.map_some]
theorem qAk {sz:Nat}:∀ l:List (List Value),(∀ c∈l,c.length=sz)->l.flatten.length=l.length * sz
 | [],_=>by simp
 | c::l,h=>by
  rw [List.flatten_cons,List.length_append,h c List.mem_cons_self,qAk l (fun d hd=>h d (mC _ hd)),List.length_cons,Nat.succ_mul,Nat.add_comm]
theorem qGD {st:Bool}:∀ dss:List (List D),(∀ d∈dss,(qPy st d).cells=d)->(dss.map (qPy st)).flatMap D.cells=dss.flatten
 | [],_=>rfl
 | d::dss,h=>by
  rw [List.map_cons,List.flatMap_cons,List.flatten_cons,h d List.mem_cons_self,qGD dss (fun c hc=>h c (mC _ hc))]
end
end Go.Am
namespace Go.Am
open Go
section
variable {E:Env} {H:Type} {enc:TypeId × Value->H} {P:Program} {W:World} {m:Nat}
def uJ (P:Program) (n:Nat):List TypeId->Option (List Sh)
 | []=>some []
 | t::ts=>match gM P n t with
  | some ss=>match qGt P t ss,uJ P n ts with
   | some s,some r=>some (s::r)
   | _,_=>none
  | none=>none
theorem eF {L:List Bk} {b:Nat} {k:ABlk} (h:(dH E m L).blocks.get b=some k):(m<=b/\b < m+L.length/\∃ x,L[b - m]? = some x/\k=x.a)∨(b < m/\jR b E.laid=some k):=by
 rw [aS] at h
 split at h
 ·rename_i hb
  cases hl:L[b - m]? with
  | none=>rw [hl] at h; cases h
  | some x =>
   rw [hl] at h
   simp only [Option.map_some,oI] at h
   have:=(gI hl).1
   exact .inl ⟨hb,by omega,x,rfl,h.symm⟩
 exact .inr ⟨by omega,h⟩
structure TabOK (E:Env) (m:Nat) (W:World):Prop where
 nodup:(E.laid.map Prod.fst).Nodup
 lt:∀ p∈E.laid,p.1 < m/\p.2.root<=p.1/\p.2.own=false
 at_:∀ p∈E.laid,∀ σ:zZ,∃ o,W.heap[p.1]? = some o/\oT E σ (qBS E p.1) false p.2.obj o
theorem qJX {W:World} (h:E.laid=[]):TabOK E m W:=by
 refine ⟨by rw [h]; exact List.nodup_nil,?_,?_⟩
 ·rw [h]; intro p hp; cases hp
 rw [h]; intro p hp; cases hp
theorem gU {b:Nat} {k:ABlk}:∀ {l:List (Nat × ABlk)},jR b l=some k->(b,k)∈l
 | [],h=>by cases h
 | p::r,h=>by
  unfold jR at h
  split at h
  ·rename_i e
   cases h; subst e; exact List.mem_cons_self
  exact mC _ (gU h)
theorem qAn {p:Nat × ABlk}:∀ {l:List (Nat × ABlk)},(l.map Prod.fst).Nodup->p∈l->jR p.1 l=some p.2
 | [],_,h=>by cases h
 | q::r,hn,h=>by
  rw [List.map_cons,List.nodup_cons] at hn
  unfold jR
  rcases List.mem_cons.1 h with rfl | h
  ·rw [if_pos rfl]
  rw [if_neg (fun e=>hn.1 (by rw [← e]; exact List.mem_map.2 ⟨p,h,rfl⟩))]
  exact qAn hn.2 h
theorem qPN {W:World} (hT:TabOK E m W) {L:List Bk}:qGV E (dH E m L).blocks.get:=by
 intro p hp
 rw [aS,if_neg (by have:=(hT.lt p hp).1; omega)]
 exact qAn hT.nodup hp
theorem qPV (hm:m=E.prog.globals.size) (hT:TabOK E m W) {L:List Bk} (hL:qCG E m W L):HR E (rV E m L) (dH E m L) W:=by
 refine ⟨?_,?_,?_,?_⟩
 ·intro b k l hb hs
  rcases eF hb with ⟨h1,h2,x,h3,rfl⟩ | ⟨h1,h2⟩
  ·unfold rV at hs
   rw [if_neg (by omega),h3] at hs
   exact hL _ x l h3 hs
  unfold rV at hs
  rw [if_pos h1] at hs
  cases hs
  have hm:=gU h2
  obtain ⟨o,q1,q2⟩:=hT.at_ _ hm (rV E m L)
  rw [(qBR E b).1]
  have hown:=(hT.lt _ hm).2.2
  obtain ⟨ob,rt,ow⟩:=k
  simp only at hown
  subst hown
  exact ⟨o,q1,q2⟩
 ·intro b₁ b₂ k₁ k₂ L₁ L₂ h1 _ ho
  rcases eF h1 with ⟨_,_,x,_,rfl⟩ | ⟨_,h2⟩
  ·cases ho
  have:=(hT.lt _ (gU h2)).2.2
  simp only at this
  rw [this] at ho; cases ho
 ·intro g hg
  exact ⟨qBS E g,by unfold rV; rw [if_pos (by omega)],(qBR E g).1,(qBR E g).2⟩
 intro b k hb
 rcases eF hb with ⟨h1,h2,x,h3,rfl⟩ | ⟨h1,h2⟩
 ·exact ⟨Nat.zero_le _,h2⟩
 exact ⟨(hT.lt _ (gU h2)).2.1,by show b < m+L.length; omega⟩
theorem qFX (hm:m=E.prog.globals.size) (hT:TabOK E m W) {f:FuncId} {ds:List D} {b:Bool} (h:qB E f ds (.leaf (.bool b))) {L:List Bk} (hL:qCG E m W L) {as args':List Value} (hd:DRs (dH E m L).blocks.get ds as) (hv:VRs (rV E m L) as args') :
  Calls E.prog f ⟨args'⟩ W fun e w'=>e=.returned (.bool b)/\Kept W w':=by
 have hr:=qPV hm hT hL
 have h:qIo E f ds (.leaf (.bool b)):=by
  rcases h with ⟨_,h⟩ | ⟨_,_,_,_,rfl,_⟩
  ·exact h
  cases hd with
  | cons h1 _=>cases h1
 obtain ⟨v,H',g',h1,h2,h3,h4,h5,h6,h7,h8,h9⟩:=h.2 (dH E m L) (dH E m L).blocks.get as (fun b k hb=>hr.wf b k hb) (zG.le_refl _) (qPN hT) hd
 have hfree:wZ (rV E m L) (dH E m L).next H'.next:=by
  intro b hb _
  have hb':m+L.length<=b:=hb
  unfold rV
  rw [if_neg (by omega),List.getElem?_eq_none (by omega)]
  rfl
 refine (h1 (rV E m L) W args' hr hv hfree).mono fun e w' ⟨σ',v',e1,e2,st⟩=>?_
 have hvv:v=.bool b:=h9.leaf_inv.1
 subst hvv
 cases e2
 refine ⟨e1,st.size,fun B hB=>st.frame B hB (fun b k l hb ho=>?_),st.tape,st.os,st.output.1⟩
 rcases eF hb with ⟨_,_,x,_,rfl⟩ | ⟨_,h2⟩
 ·cases ho
 have:=(hT.lt _ (gU h2)).2.2
 simp only at this
 rw [this] at ho; cases ho
end
end Go.Am
namespace Go.Am
open Go
section
variable {E:Env}
theorem qJ0 {σ : zZ} {H : AH} {w w' : World} (hr : HR E σ H w) (k : KeptD w w') : Step E σ H w σ { H with next := H.next + 1 } w' := by
  have s := Step.kept hr k
  exact
  { hr := ⟨s.hr.objs, s.hr.sep, s.hr.glob, fun b kk hb => ⟨(hr.wf b kk hb).1, Nat.lt_succ_of_lt (hr.wf b kk hb).2⟩⟩
    next := Nat.le_succ _, ext := fun _ _ => rfl, size := s.size, low := lR _, tape := s.tape, os := s.os, output := s.output, frame := s.frame,
    origin := s.origin, old := fun b kk hb _ => ⟨kk, hb, rfl, rfl⟩, keep := s.keep, born := fun b kk hb hn => absurd (hr.wf b kk hb).2 (Nat.not_lt.2 hn) }
theorem qA8 {σ : zZ} {H : AH} {w w' : World} (hr : HR E σ H w) (k : Kept w w') (hE : E.laid ≠ []) : Step E σ H w σ { H with next := H.next + 1 } w' := by
  have s := Step.kept0 hr k (fun e => absurd e hE)
  exact
  { hr := ⟨s.hr.objs, s.hr.sep, s.hr.glob, fun b kk hb => ⟨(hr.wf b kk hb).1, Nat.lt_succ_of_lt (hr.wf b kk hb).2⟩⟩
    next := Nat.le_succ _, ext := fun _ _ => rfl, size := s.size, low := lR _, tape := s.tape, os := s.os, output := s.output, frame := s.frame,
    origin := s.origin, old := fun b kk hb _ => ⟨kk, hb, rfl, rfl⟩, keep := s.keep, born := fun b kk hb hn => absurd (hr.wf b kk hb).2 (Nat.not_lt.2 hn) }
theorem qEv {f:FuncId} (hf:∃ fn,E.funcs.get f=some fn) (h:∀ w,Calls E.prog f #[] w fun e w'=>e=.returned (.bool true)/\KeptD w w') (hlt:f < nK:=by decide):qB E f [] (dB true):=by
 refine .inl ⟨hlt,hf,fun H g args hwf hg _ hd=>?_⟩
 cases hd
 refine ⟨.bool true,{ H with next:=H.next+1 },g,?_,Nat.lt_succ_self _,fun b k hb=>⟨(hwf b k hb).1,Nat.lt_succ_of_lt (hwf b k hb).2⟩,fun _ _=>rfl,Nat.min_le_left _ _,zG.le_refl _,hg,fun _ _=>rfl,.leaf rfl⟩
 intro σ w args' hr hv _
 cases hv
 exact (h w).mono fun e w' ⟨h1,h2⟩=>⟨σ,.bool true,h1,.leaf rfl,qJ0 hr h2⟩
theorem qHd (he:EOk E) {t:TypeId} {ti:TI} (h:E.types.get t=some ti):ti.size=E.prog.cellsOf t:=by
 obtain ⟨i,h1,_,h2,_⟩:=he.types t ti h
 rw [h2]
 simp only [Program.cellsOf,h1,Option.map_some,Option.getD_some]
end
end Go.Am
