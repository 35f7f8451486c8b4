/- Regions whose order is drawn: runs in the text's order, carried over. Conditions: none. -/
import Derived.Test.YtminhjecpnpaeaaGreatDoorSx5
set_option linter.unusedVariables false
set_option linter.unusedSimpArgs false
namespace Go.Am
open Go
structure Heq (N:Nat) (H H2:AH):Prop where
 get:∀ b,H2.blocks.get b=H.blocks.get b
 next:H2.next=H.next
 low:∀ L,L<=N->L<=H.low->L<=H2.low
 le:N<=H.next
section
variable {E:Env} {ih:Cmd->AH->j8} {fr:Fr} {o:Oper} {N:Nat}
theorem qGm {x:Option Value} {H H1:AH} {v:Value} (h:jH E fr o H=one H x) (he:wT E ih fr o H=some (v,H1)):x=some v/\H1=H:=by
 cases x with
 | none=>simp only [wT,vS,h,one,Option.map_none] at he; cases he
 | some u=>simp only [wT,vS,h,one,Option.map_some,oI,Prod.mk.injEq] at he; exact ⟨by rw [he.1],he.2.symm⟩
theorem qDI {ts:List (Nat × Nat)} {all:List Oper} {i:Nat} {H H2:AH} {v:Value} (h:vS E ih fr o (vD H2 (qP all i ts))=some (v,vD H2 (qP all i ts))) (hq:Heq N H H2) :
  ∃ H2',oB E ih ts all i fr o H2=some (v,H2')/\Heq N H H2':=by
 refine ⟨jX H2 (vD H2 (qP all i ts)) (qP all i ts),?_,?_,hq.next,?_,hq.le⟩
 ·have h1:Nat.ble H2.next (vD H2 (qP all i ts)).low=true:=bL (lR _)
  have h2:(qP all i ts).all (fun b=>Nat.blt b H2.next || Nat.ble (vD H2 (qP all i ts)).next b)=true:=by
   rw [List.all_eq_true]
   intro b _
   show (Nat.blt b H2.next || Nat.ble H2.next b)=true
   by_cases hb:b < H2.next
   ·have:Nat.blt b H2.next=true:=bL hb
    rw [this,Bool.true_or]
   have:Nat.ble H2.next b=true:=bL (by omega)
   rw [this,Bool.or_true]
  simp only [oB,h,h1,h2,Bool.true_or,Bool.and_self,cond_true]
 ·intro b
  show (yB _ _ _).get b=_
  rw [xV]
  show (if _ then H2.blocks.get b else (mH H2.blocks _).get b)=_
  rw [yH]
  split <;> exact hq.get b
 intro L h1 h2
 refine Nat.le_min.2 ⟨hq.low L h1 h2,?_⟩
 show L<=H2.next
 rw [hq.next]
 exact lT h1 hq.le
theorem qKA {H H2:AH} {t:TypeId} {b i:Nat} {p:Option Nat} (h:H2.blocks.get b=H.blocks.get b):pW E H2 t (.pointer (some ⟨b,i,p⟩))=pW E H t (.pointer (some ⟨b,i,p⟩)):=by
 unfold pW
 cases E.types.get t with
 | none=>rfl
 | some ti=>cases p with
  | none=>simp only [AH.loads,h]
  | some _=>rfl
theorem pB {all:Array Oper} {draw:Bool} {ts:List (Nat × Nat)} {a:Tmp}:∀ (os:List Oper) (i:Nat) {fr fr':Fr} {H H':AH},zK E ih all draw ts os i fr H=some (fr',H')->os.all (mD a)=true->fr'.t.get a=fr.t.get a
 | [],i,fr,fr',H,H',h,_=>by simp only [zK,oI,Prod.mk.injEq] at h; rw [h.1]
 | o::os,i,fr,fr',H,H',h,hn=>by
  simp only [List.all_cons,aE] at hn
  have hp:∀ {fr1:Fr} {v:Value},yJ fr o.dst v=some fr1->fr1.t.get a=fr.t.get a:=by
   intro fr1 v hp
   have hd:=hn.1
   unfold yJ at hp
   unfold mD at hd
   split at hp
   ·rename_i d hd'
    rw [hd'] at hd
    simp only [Bool.not_eq_true'] at hd
    cases hb:Nat.ble (d+1) fr.sz with
    | false=>rw [hb] at hp; cases hp
    | true =>
     rw [hb] at hp
     simp only [cond_true,oI] at hp
     subst hp
     show (fr.t.put d (some v)).get a=_
     rw [T.get_put,if_neg]
     intro e; subst e; rw [Nat.beq_refl] at hd; cases hd
   simp only [oI] at hp; rw [hp]
  simp only [zK] at h
  split at h
  ·cases h
  ·split at h
   ·rename_i fr1 hf
    rw [pB os (i+1) h hn.2,hp hf]
   cases h
  split at h
  ·cases h
  split at h
  ·cases h
  rename_i fr1 hf
  rw [pB os (i+1) h hn.2,hp hf]
def qEj (v:Option Value):Option Nat:=match v with
 | some (.pointer (some ⟨b,_,_⟩))=>some b
 | _=>none
def qOU (v:Option Value):Option Nat:=match v with
 | some (.slice (some ⟨b,_,none⟩) (_+1) _)=>some b
 | _=>none
def mN (fr':Fr) (ts:List (Nat × Nat)) (all:List Oper) (i:Nat) (o:Oper) (os:List Oper):Prop:=match o.op with
 | .load _ (.tmp a)=>(o::os).all (mD a)=true/\∀ B,qEj (fr'.t.get a)=some B->B ∉ qP all i ts
 | .alloc _=>∃ d,o.dst=some d/\os.all (mD d)=true/\∀ B,qEj (fr'.t.get d)=some B->B ∉ qP all i ts
 | .store _ (.tmp a) _=>qP all i ts=[]/\(o::os).all (mD a)=true/\∀ B,qEj (fr'.t.get a)=some B->(i,B)∈ts
 | .buildSlice _ n _=>1<=n/\∃ d,o.dst=some d/\os.all (mD d)=true/\∀ B,qOU (fr'.t.get d)=some B->B ∉ qP all i ts
 | op=>qFu op=true
def qIk (fr':Fr) (ts:List (Nat × Nat)) (all:List Oper):Nat->List Oper->Prop
 | _,[]=>True
 | i,o::os=>mN fr' ts all i o os/\qIk fr' ts all (i+1) os
theorem qNR {ts:List (Nat × Nat)} {all:List Oper} {i:Nat} {H H2:AH} {f:Nat->Value} {ob:AObj} (ha:∀ H,jH E fr o H=some (.val (f H.next),H.new ob)) (hn:H.next ∉ qP all i ts) (hq:Heq N H H2) :
  ∃ H2',oB E ih ts all i fr o H2=some (f H.next,H2')/\Heq N (H.new ob) H2':=by
 have hex:vS E ih fr o (vD H2 (qP all i ts))=some (f H.next,(vD H2 (qP all i ts)).new ob):=by
  simp only [vS,ha]
  show some (f H2.next,_)=_
  rw [hq.next]
 refine ⟨jX H2 ((vD H2 (qP all i ts)).new ob) (qP all i ts),?_,?_,?_,?_,Nat.le_succ_of_le hq.le⟩
 ·have h1:Nat.ble H2.next ((vD H2 (qP all i ts)).new ob).low=true:=bL (lR _)
  have h2:(qP all i ts).all (fun b=>Nat.blt b H2.next || Nat.ble ((vD H2 (qP all i ts)).new ob).next b)=true:=by
   rw [List.all_eq_true]
   intro b hb
   show (Nat.blt b H2.next || Nat.ble (Nat.succ H2.next) b)=true
   have hne:b≠H2.next:=by rw [hq.next]; intro e; subst e; exact hn hb
   by_cases hb:b < H2.next
   ·have:Nat.blt b H2.next=true:=bL hb
    rw [this,Bool.true_or]
   have:Nat.ble (Nat.succ H2.next) b=true:=bL (by omega)
   rw [this,Bool.or_true]
  simp only [oB,hex,h1,h2,Bool.true_or,Bool.and_self,cond_true]
 ·intro b
  show (yB _ _ _).get b=(H.blocks.put H.next _).get b
  rw [xV,T.get_put]
  show (if _ then H2.blocks.get b else ((mH H2.blocks _).put H2.next _).get b)=_
  rw [T.get_put,yH,hq.next]
  by_cases hb:b∈qP all i ts
  ·rw [if_pos hb,if_neg (fun e:b=H.next=>hn (by rw [← e]; exact hb)),hq.get]
  rw [if_neg hb]
  by_cases e:b=H.next
  ·rw [if_pos e,if_pos e]
   show some (⟨ob,H2.next,true⟩:ABlk)=some ⟨ob,H.next,true⟩
   rw [hq.next]
  rw [if_neg e,if_neg e,if_neg hb,hq.get]
 ·show Nat.succ H2.next=Nat.succ H.next
  rw [hq.next]
 intro L h1 h2
 refine Nat.le_min.2 ⟨hq.low L h1 h2,?_⟩
 show L<=H2.next
 rw [hq.next]
 exact lT h1 hq.le
theorem qQJ {t:TypeId} {n:Nat} {ps:Array (Nat × Operand)} {v:Value} {H H1:AH} (ho:o.op=.buildSlice t n ps) (he:wT E ih fr o H=some (v,H1)) :
  ∃ (c:Nat) (ob:AObj),(∀ H,jH E fr o H=some (.val (.slice (some ⟨H.next,0,none⟩) n c),H.new ob))/\v=.slice (some ⟨H.next,0,none⟩) n c/\H1=H.new ob:=by
 have key:∃ (c:Nat) (ob:AObj),∀ H,jH E fr o H=some (.val (.slice (some ⟨H.next,0,none⟩) n c),H.new ob):=by
  have bad:(∀ H,jH E fr o H=none)->False:=fun ha=>by simp only [wT,vS,ha] at he; cases he
  cases hp:parts? E fr ps.toList with
  | none=>exact (bad fun H=>by simp only [jH,ho,hp]).elim
  | some l =>
   have ha:∀ H,jH E fr o H=wV E H t n l:=fun H=>by simp only [jH,ho,hp]
   unfold wV at ha
   split at ha
   case h_2=>exact (bad ha).elim
   split at ha
   case h_2=>exact (bad ha).elim
   rename_i sz _ z _ _
   cases hc:(Nat.beq z.length sz && Nat.ble (Nat.mul n (Nat.succ sz)) 1000000) with
   | false=>exact (bad fun H=>by rw [ha,hc]; rfl).elim
   | true =>
    cases hov:dA (yC z n) l (fun i=>some (Nat.mul i sz,sz)) with
    | none=>exact (bad fun H=>by rw [ha,hc,hov]; rfl).elim
    | some q=>exact ⟨_,_,fun H=>by rw [ha,hc,hov]; rfl⟩
 obtain ⟨c,ob,ha⟩:=key
 simp only [wT,vS,ha,oI,Prod.mk.injEq] at he
 exact ⟨c,ob,ha,he.1.symm,he.2.symm⟩
theorem qQv {ts:List (Nat × Nat)} {all:Array Oper} {i:Nat} {os:List Oper} {fr1 fr':Fr} {H H1 H' H2:AH} {v:Value} (he:wT E ih fr o H=some (v,H1)) (hp:yJ fr o.dst v=some fr1)
  (hr:zK E ih all false [] os (i+1) fr1 H1=some (fr',H')) (ht:mN fr' ts all.toList i o os) (hq:Heq N H H2) :
  ∃ H2',oB E ih ts all.toList i fr o H2=some (v,H2')/\Heq N H1 H2':=by
 have pure:qFu o.op=true->∃ H2',oB E ih ts all.toList i fr o H2=some (v,H2')/\Heq N H1 H2':=by
  intro hk
  obtain ⟨x,hx⟩:=qDf (E:=E) (fr:=fr) hk
  obtain ⟨rfl,rfl⟩:=qGm (hx H) he
  exact qDI (by simp only [vS,hx,one,Option.map_some]) hq
 have keep:∀ a,(o::os).all (mD a)=true->fr'.t.get a=fr.t.get a:=by
  intro a ha
  have h0:zK E ih all false [] (o::os) i fr H=some (fr',H')∨True:=.inr trivial
  have ha':=ha
  simp only [List.all_cons,aE] at ha'
  have k1:=pB os (i+1) hr ha'.2
  rw [k1]
  have hd:=ha'.1
  unfold yJ at hp
  unfold mD at hd
  split at hp
  ·rename_i d hd'
   rw [hd'] at hd
   simp only [Bool.not_eq_true'] at hd
   cases hb:Nat.ble (d+1) fr.sz with
   | false=>rw [hb] at hp; cases hp
   | true =>
    rw [hb] at hp
    simp only [cond_true,oI] at hp
    subst hp
    show (fr.t.put d (some v)).get a=_
    rw [T.get_put,if_neg]
    intro e; subst e; rw [Nat.beq_refl] at hd; cases hd
  simp only [oI] at hp; rw [hp]
 cases ho:o.op with
 | load t a =>
  cases a with
  | tmp a =>
   unfold mN at ht
   rw [ho] at ht
   simp only at ht
   obtain ⟨h1,h2⟩:=ht
   have hk:=keep a h1
   rw [hk] at h2
   cases hv:fr.t.get a with
   | none =>
    have ha:jH E fr o H=none:=by simp only [jH,ho,ev,hv]
    simp only [wT,vS,ha] at he; cases he
   | some u =>
    have ha':∀ H,jH E fr o H=one H (pW E H t u):=fun H=>by simp only [jH,ho,ev,hv]
    obtain ⟨hx,hH⟩:=qGm (ha' H) he
    subst hH
    rw [hv] at h2
    have hu:∃ b j p,u=.pointer (some ⟨b,j,p⟩):=by
     unfold pW at hx
     split at hx
     ·rename_i b j _; exact ⟨b,j,none,rfl⟩
     cases hx
    obtain ⟨b,j,p,rfl⟩:=hu
    refine qDI ?_ hq
    have hg:(vD H2 (qP all.toList i ts)).blocks.get b=H1.blocks.get b:=by
     show (mH H2.blocks _).get b=_
     rw [yH,if_neg (h2 b rfl)]
     exact hq.get b
    simp only [vS,ha',qKA (E:=E) (t:=t) (i:=j) (p:=p) hg,hx,one,Option.map_some]
  | const _=>exfalso; unfold mN at ht; rw [ho] at ht; cases ht
  | global _=>exfalso; unfold mN at ht; rw [ho] at ht; cases ht
  | func _=>exfalso; unfold mN at ht; rw [ho] at ht; cases ht
 | alloc t =>
  unfold mN at ht
  rw [ho] at ht
  simp only at ht
  obtain ⟨d,hd,h1,h2⟩:=ht
  have hz:∃ z,∀ H,jH E fr o H=some (.val (.pointer (some ⟨H.next,0,none⟩)),H.new (.cells z t)):=by
   cases hz:E.types.get t with
   | none =>
    have ha:jH E fr o H=none:=by simp only [jH,ho,hz]
    simp only [wT,vS,ha] at he; cases he
   | some ti =>
    obtain ⟨a1,a2,a3,z,a5⟩:=ti
    cases z with
    | none =>
     have ha:jH E fr o H=none:=by simp only [jH,ho,hz]
     simp only [wT,vS,ha] at he; cases he
    | some z=>exact ⟨z,fun H=>by simp only [jH,ho,hz]⟩
  obtain ⟨z,ha⟩:=hz
  ·skip
   have e1:v=.pointer (some ⟨H.next,0,none⟩)/\H1=H.new (.cells z t):=by
    simp only [wT,vS,ha,oI,Prod.mk.injEq] at he
    exact ⟨he.1.symm,he.2.symm⟩
   obtain ⟨rfl,rfl⟩:=e1
   have hn:H.next ∉ qP all.toList i ts:=by
    have k1:=pB os (i+1) hr h1
    refine h2 _ ?_
    rw [k1]
    rw [hd] at hp
    simp only [yJ] at hp
    cases hb:Nat.ble (d+1) fr.sz with
    | false=>rw [hb] at hp; cases hp
    | true =>
     rw [hb] at hp
     simp only [cond_true,oI] at hp
     subst hp
     show qEj ((fr.t.put d _).get d)=_
     rw [T.get_put,if_pos rfl]
     rfl
   have hex:vS E ih fr o (vD H2 (qP all.toList i ts))=some (.pointer (some ⟨H.next,0,none⟩),(vD H2 (qP all.toList i ts)).new (.cells z t)):=by
    simp only [vS,ha]
    show some (Value.pointer (some ⟨H2.next,0,none⟩),_)=_
    rw [hq.next]
   refine ⟨jX H2 ((vD H2 (qP all.toList i ts)).new (.cells z t)) (qP all.toList i ts),?_,?_,?_,?_,Nat.le_succ_of_le hq.le⟩
   ·have h1:Nat.ble H2.next ((vD H2 (qP all.toList i ts)).new (.cells z t)).low=true:=bL (lR _)
    have h2:(qP all.toList i ts).all (fun b=>Nat.blt b H2.next || Nat.ble ((vD H2 (qP all.toList i ts)).new (.cells z t)).next b)=true:=by
     rw [List.all_eq_true]
     intro b hb
     show (Nat.blt b H2.next || Nat.ble (Nat.succ H2.next) b)=true
     have hne:b≠H2.next:=by rw [hq.next]; intro e; subst e; exact hn hb
     by_cases hb:b < H2.next
     ·have:Nat.blt b H2.next=true:=bL hb
      rw [this,Bool.true_or]
     have:Nat.ble (Nat.succ H2.next) b=true:=bL (by omega)
     rw [this,Bool.or_true]
    simp only [oB,hex,h1,h2,Bool.true_or,Bool.and_self,cond_true]
   ·intro b
    show (yB _ _ _).get b=(H.blocks.put H.next _).get b
    rw [xV,T.get_put]
    show (if _ then H2.blocks.get b else ((mH H2.blocks _).put H2.next _).get b)=_
    rw [T.get_put,yH,hq.next]
    by_cases hb:b∈qP all.toList i ts
    ·rw [if_pos hb,if_neg (fun e:b=H.next=>hn (by rw [← e]; exact hb)),hq.get]
    rw [if_neg hb]
    by_cases e:b=H.next
    ·rw [if_pos e,if_pos e]
     show some (⟨AObj.cells z t,H2.next,true⟩:ABlk)=some ⟨.cells z t,H.next,true⟩
     rw [hq.next]
    rw [if_neg e,if_neg e,if_neg hb,hq.get]
   ·show Nat.succ H2.next=Nat.succ H.next
    rw [hq.next]
   intro L h1 h2
   refine Nat.le_min.2 ⟨hq.low L h1 h2,?_⟩
   show L<=H2.next
   rw [hq.next]
   exact lT h1 hq.le
 | store t a x =>
  cases a with
  | tmp a =>
   unfold mN at ht
   rw [ho] at ht
   simp only at ht
   obtain ⟨hW,h1,h2⟩:=ht
   have hk:=keep a h1
   rw [hk] at h2
   cases hv:fr.t.get a with
   | none =>
    have ha:jH E fr o H=none:=by simp only [jH,ho,ev,hv]
    simp only [wT,vS,ha] at he; cases he
   | some u =>
    cases hy:ev E fr x with
    | none =>
     have ha:jH E fr o H=none:=by simp only [jH,ho,hv,hy,show ev E fr (.tmp a)=fr.t.get a from rfl]
     simp only [wT,vS,ha] at he; cases he
    | some y =>
     have hty:∀ cs,y≠.tuple cs:=by
      intro cs e; subst e
      have ha:jH E fr o H=none:=by simp only [jH,ho,hv,hy,show ev E fr (.tmp a)=fr.t.get a from rfl]
      simp only [wT,vS,ha] at he
      cases he
     have ha':∀ H,jH E fr o H=(yQ E H t u y).map fun H'=>(.skip,H'):=fun H=>by
      simp only [jH,ho,hv,hy,show ev E fr (.tmp a)=fr.t.get a from rfl]
     cases hs:yQ E H t u y with
     | none=>simp only [wT,vS,ha',hs,Option.map_none] at he; cases he
     | some Hs =>
      simp only [wT,vS,ha',hs,Option.map_some,oI,Prod.mk.injEq] at he
      obtain ⟨rfl,rfl⟩:=he
      rw [hv] at h2
      unfold yQ at hs
      split at hs
      case h_2=>cases hs
      rename_i ti b j hti
      simp only at hs
      cases hl:Nat.beq y.cells.toList.length ti.size with
      | false=>rw [hl] at hs; cases hs
      | true =>
       rw [hl] at hs
       simp only [cond_true,AH.stores] at hs
       split at hs
       case h_2=>cases hs
       rename_i cs el r hb
       cases hsp:j5 cs j y.cells.toList with
       | none=>rw [hsp] at hs; cases hs
       | some cs' =>
        rw [hsp] at hs
        simp only [Option.map_some,oI] at hs
        subst hs
        have hb2:(vD H2 []).blocks.get b=some ⟨.cells cs el,r,true⟩:=by
         show H2.blocks.get b=_
         rw [hq.get,hb]
        have hex:vS E ih fr o (vD H2 (qP all.toList i ts))=some (.tuple #[],(vD H2 []).write b ⟨.cells cs el,r,true⟩ (.cells cs' el)):=by
         rw [hW]
         have hsa:yQ E (vD H2 []) t (.pointer (some ⟨b,j,none⟩)) y=some ((vD H2 []).write b ⟨.cells cs el,r,true⟩ (.cells cs' el)):=by
          simp only [yQ,hti,hl,cond_true,AH.stores,hb2,hsp,Option.map_some]
         simp only [vS,ha',hsa,Option.map_some]
        have hmem:=h2 b rfl
        have hst:ts.any (fun t=>Nat.beq t.1 i && xO fr o t.2)=true:=by
         rw [List.any_eq_true]
         refine ⟨_,hmem,?_⟩
         simp only [Nat.beq_refl,Bool.true_and,xO,ho,hv]
        refine ⟨jX H2 ((vD H2 []).write b ⟨.cells cs el,r,true⟩ (.cells cs' el)) [],?_,?_,hq.next,?_,hq.le⟩
        ·rw [hW] at hex
         simp only [oB,hW,hex,hst,List.isEmpty_nil,Bool.true_or,Bool.true_and,Bool.or_true,List.all_nil,Bool.and_self,cond_true]
        ·intro c
         show ((H2.blocks).put b _).get c=(H.blocks.put b _).get c
         rw [T.get_put,T.get_put,hq.get]
        intro L h1 h2
        have h3:L<=Nat.min H.low r:=h2
        have h4:=Nat.le_min.1 h3
        refine Nat.le_min.2 ⟨hq.low L h1 h4.1,?_⟩
        show L<=Nat.min H2.next r
        refine Nat.le_min.2 ⟨?_,h4.2⟩
        rw [hq.next]
        exact lT h1 hq.le
  | const _=>exfalso; unfold mN at ht; rw [ho] at ht; cases ht
  | global _=>exfalso; unfold mN at ht; rw [ho] at ht; cases ht
  | func _=>exfalso; unfold mN at ht; rw [ho] at ht; cases ht
 | buildSlice t n ps =>
  unfold mN at ht
  rw [ho] at ht
  simp only at ht
  obtain ⟨hn1,d,hd,h1,h2⟩:=ht
  obtain ⟨c,ob,ha,rfl,rfl⟩:=qQJ ho he
  have hn:H.next ∉ qP all.toList i ts:=by
   have k1:=pB os (i+1) hr h1
   refine h2 _ ?_
   rw [k1]
   rw [hd] at hp
   simp only [yJ] at hp
   cases hb:Nat.ble (d+1) fr.sz with
   | false=>rw [hb] at hp; cases hp
   | true =>
    rw [hb] at hp
    simp only [cond_true,oI] at hp
    subst hp
    show qOU ((fr.t.put d _).get d)=_
    rw [T.get_put,if_pos rfl]
    obtain ⟨m,rfl⟩:∃ m,n=m+1:=⟨n - 1,by omega⟩
    rfl
  exact qNR (f:=fun b=>.slice (some ⟨b,0,none⟩) n c) ha hn hq
 | move _=>exact pure (by rw [ho]; rfl)
 | assign _=>exact pure (by rw [ho]; rfl)
 | pick _ _ _=>exact pure (by rw [ho]; rfl)
 | nilCheck _=>exact pure (by rw [ho]; rfl)
 | binOp _ _ _ _ _=>exact pure (by rw [ho]; rfl)
 | unOp _ _ _=>exact pure (by rw [ho]; rfl)
 | fieldAddr _ _ _=>exact pure (by rw [ho]; rfl)
 | indexAddr _ _ _=>exact pure (by rw [ho]; rfl)
 | extract _ _=>exact pure (by rw [ho]; rfl)
 | build _ _=>exact pure (by rw [ho]; rfl)
 | _=>exfalso; unfold mN at ht; rw [ho] at ht; cases ht
theorem qB9 {ts:List (Nat × Nat)} {all:Array Oper} {fr':Fr} {H':AH}:∀ (os:List Oper) (i:Nat) {fr:Fr} {H H2:AH},zK E ih all false [] os i fr H=some (fr',H')->qIk fr' ts all.toList i os->Heq N H H2 ->
  ∃ H2',zK E ih all true ts os i fr H2=some (fr',H2')/\Heq N H' H2'
 | [],i,fr,H,H2,h,_,hq=>by
  simp only [zK,oI,Prod.mk.injEq] at h
  obtain ⟨rfl,rfl⟩:=h
  exact ⟨H2,rfl,hq⟩
 | o::os,i,fr,H,H2,h,ht,hq=>by
  simp only [zK] at h
  split at h
  ·cases h
  ·rename_i hw
   split at h
   ·rename_i fr1 hf
    obtain ⟨H2',q1,q2⟩:=qB9 os (i+1) h ht.2 hq
    exact ⟨H2',by simp only [zK,hw,hf,q1],q2⟩
   cases h
  rename_i hw
  simp only [cond_false] at h
  split at h
  ·cases h
  rename_i v H1 hx
  split at h
  ·cases h
  rename_i fr1 hf
  obtain ⟨H2a,q1,q2⟩:=qQv hx hf h ht.1 hq
  obtain ⟨H2',q3,q4⟩:=qB9 os (i+1) h ht.2 q2
  exact ⟨H2',by simp only [zK,hw,cond_true,q1,hf,q3],q4⟩
end
section
variable {E:Env} {n0:Lim} {H0:AH} {g0:zG} {S:St} {ρ:List D} {ve:Nat->Value} {lb:Nat->Nat} {g:zG} {fr:Fr} {H H2:AH} {Q:Res1->Prop} {o:Oper}
theorem qBL (all:List Oper) (i:Nat) (f:Nat->Nat):∀ ts:List (Nat × Nat),qP all i (ts.map fun q=>(q.1,f q.2))=(qP all i ts).map f
 | []=>rfl
 | (j,b)::ts=>by
  simp only [List.map_cons,qP,qBL all i f ts]
  cases (Nat.beq j i || gY (yE all) j i) <;> rfl
theorem qIx {a:Tmp} {b off:Nat} {t:TypeId} {x:Operand} (hs:S.slots.get a=some (.loc b off)):∀ (os:List Oper) (i k:Nat) (o:Oper),os[k]? = some o->o.op=.store t (.tmp a) x->(i+k,b)∈qAv S os i
 | [],_,_,_,h,_=>by simp at h
 | p::os,i,0,o,h,ho=>by
  simp only [List.getElem?_cons_zero,oI] at h
  subst h
  simp only [qAv,ho,hs,Nat.add_zero]
  exact List.mem_cons_self
 | p::os,i,k+1,o,h,ho=>by
  have:=qIx hs os (i+1) k o (by simpa using h) ho
  rw [show i+1+k=i+(k+1) by omega] at this
  unfold qAv
  split
  ·split
   ·exact mC _ this
   exact this
  exact this
theorem qFa {all:List Oper} {b i:Nat}:∀ (os:List Oper) (k:Nat),(∀ o∈os,∀ t a x,o.op=.store t a x->∃ d b off y,a=.tmp d/\S.slots.get d=some (.loc b off)/\S.blks[b]? = some (some y))->(i,b)∈qAv S os k->S.live b
 | [],_,_,h=>by cases h
 | o::os,k,hst,h=>by
  have ih:=qFa (all:=all) (b:=b) (i:=i) os (k+1) (fun o ho=>hst o (mC _ ho))
  cases ho:o.op with
  | store t a x =>
   obtain ⟨d,b',off,y,rfl,hd,hy⟩:=hst o List.mem_cons_self t a x ho
   simp only [qAv,ho,hd] at h
   rcases List.mem_cons.1 h with h | h
   ·cases h; exact ⟨y,hy⟩
   exact ih h
  | _=>simp only [qAv,ho] at h; exact ih h
theorem fY {all:List Oper} {i b:Nat}:∀ ts:List (Nat × Nat),b∈qP all i ts->∃ j,(j,b)∈ts
 | [],h=>by cases h
 | (j,c)::ts,h=>by
  simp only [qP] at h
  cases hc:(Nat.beq j i || gY (yE all) j i) with
  | true =>
   rw [hc] at h
   obtain ⟨j',hj⟩:=fY ts h
   exact ⟨j',mC _ hj⟩
  | false =>
   rw [hc] at h
   rcases List.mem_cons.1 h with rfl | h
   ·exact ⟨j,List.mem_cons_self⟩
   obtain ⟨j',hj⟩:=fY ts h
   exact ⟨j',mC _ hj⟩
theorem l6 {α:Type} {x:Option (Option α)} (h:(x.getD none).isSome=true):∃ y,x=some (some y):=by
 rcases x with _ | _ | y
 ·cases h
 ·cases h
 exact ⟨y,rfl⟩
theorem qA6 {os:List Oper} {bs:List Nat} {t:TypeId} {a x:Operand} (h:fK S o os bs=true) (ho:o.op=.store t a x):∃ d b off y,a=.tmp d/\S.slots.get d=some (.loc b off)/\S.blks[b]? = some (some y)/\bs=[]/\(o::os).all (mD d)=true:=by
 unfold fK at h
 rw [ho] at h
 cases a with
 | tmp a =>
  simp only [aE] at h
  obtain ⟨⟨h1,h2⟩,h3⟩:=h
  split at h3
  ·rename_i b off hs
   obtain ⟨y,hy⟩:=l6 h3
   exact ⟨a,b,off,y,rfl,hs,hy,List.isEmpty_iff.1 h1,h2⟩
  cases h3
 | _=>cases h
theorem uS {all:List Oper}:∀ (os:List Oper) (i:Nat),nR S all os i=true->∀ o∈os,∀ t a x,o.op=.store t a x->∃ d b off y,a=.tmp d/\S.slots.get d=some (.loc b off)/\S.blks[b]? = some (some y)
 | [],_,_,_,h=>by cases h
 | p::os,i,h,o,ho=>by
  simp only [nR,aE] at h
  intro t a x hop
  rcases List.mem_cons.1 ho with rfl | ho
  ·obtain ⟨d,b,off,y,q1,q2,q3,_⟩:=qA6 h.1 hop
   exact ⟨d,b,off,y,q1,q2,q3⟩
  exact uS os (i+1) h.2 o ho t a x hop
def qQZ (ve:Nat->Value) (lb:Nat->Nat) (g:zG) (s i:SV):Prop:=∀ sz off B,qEj (some (qBq (s.val ve lb) (i.val ve lb) sz off))=some B->∃ k,g B=some k
theorem qWt {s i:SV} {e:D} (h:SM n0 S ρ ve lb g H) (hs:xX S s=true) (hi:xX S i=true) (he:lX (s.d (getD ρ)) (i.d (getD ρ))=some e):qQZ ve lb g s i:=by
 intro sz off B hB
 have d1:=jP h hs
 have d2:=jP h hi
 unfold lX at he
 split at he
 case h_2=>cases he
 rename_i n hn
 have hiv:∃ k,i.val ve lb=.int k (.ofNat n):=by
  unfold qAx at hn
  split at hn
  ·rename_i k m hm
   cases hn
   rw [hm] at d2
   exact ⟨k,d2.leaf_inv.1⟩
  cases hn
 obtain ⟨k,hk⟩:=hiv
 rw [hk] at hB
 generalize s.d (getD ρ)=sd at d1 he
 generalize s.val ve lb=sv at d1 hB
 cases d1 <;> first | (simp [D.es] at he; done) | skip
 rename_i el es b o l c sz' rt cs vs own hb ht hv hl hss hc hx ho
 simp only [qBq,qEj,oI] at hB
 subst hB
 exact ⟨_,hb⟩
theorem qGA:∀ (l:List (SV × SV)) {S:St} {ρ:List D} {ve:Nat->Value} {κ:St->Tree},SR E n0 H0 g0 S ρ ve lb g fr H->(∀ q∈l,q.1.bd S.n S.blks.length/\q.2.bd S.n S.blks.length)->wp E (qB E) Q (qGB l S κ) ρ ->
  ∃ S' ρ' ve',SR E n0 H0 g0 S' ρ' ve' lb g fr H/\wp E (qB E) Q (κ S') ρ'/\∀ q∈l,qQZ ve lb g q.1 q.2
 | [],S,ρ,ve,κ,h,_,hw=>⟨S,ρ,ve,h,hw,fun _ h=>(by cases h)⟩
 | (s,i)::r,S,ρ,ve,κ,h,hb,hw=>by
  simp only [qGB] at hw
  obtain ⟨hp,hw⟩:=jB hw
  simp only [aE] at hp
  simp only [wp] at hw
  split at hw
  case h_2=>cases hw
  rename_i d hd
  simp only [SV.ds,qHZ,Option.map_eq_some_iff] at hd
  obtain ⟨e,he,rfl⟩:=hd
  have h1:=h.new (k:=.pure) (o:=true) (by simp) (d:=.leaf (.bool true)) (v:=.bool true) ⟨fun _=>rfl,.leaf rfl⟩
  have ex:ExtS S ρ ve g (S.new .pure true) (ρ++[.leaf (.bool true)]) (bX ve S.n (.bool true)) g:=wH h.len
  obtain ⟨S',ρ',ve',q1,q2,q3⟩:=qGA r h1 (fun q hq=>⟨ex.bd (hb q (mC _ hq)).1,ex.bd (hb q (mC _ hq)).2⟩) hw
  refine ⟨S',ρ',ve',q1,q2,fun q hq=>?_⟩
  rcases List.mem_cons.1 hq with rfl | hq
  ·exact qWt h.toSM hp.1 hp.2 he
  have:=q3 q hq
  have b:=hb q (mC _ hq)
  unfold qQZ at this ⊢
  rw [ex.val b.1,ex.val b.2] at this
  exact this
theorem iZ (h:SR E n0 H0 g0 S ρ ve lb g fr H):∀ (os:List Oper),∀ q∈aB S os,q.1.bd S.n S.blks.length/\q.2.bd S.n S.blks.length
 | [],_,hq=>by cases hq
 | o::os,q,hq=>by
  unfold aB at hq
  split at hq
  ·split at hq
   ·rename_i k i _ _ hs
    rcases List.mem_cons.1 hq with rfl | hq
    ·exact (h.slots _ _ hs).1
    exact iZ h os q hq
   exact iZ h os q hq
  exact iZ h os q hq
theorem qDg {t:TypeId} {a:Tmp} {k sz off:Nat} {i:SV} (hs:S.slots.get a=some (.ptr (.v k) i sz off)):∀ (os:List Oper) {o:Oper},o∈os->o.op=.load t (.tmp a)->(.v k,i)∈aB S os
 | [],_,h,_=>by cases h
 | p::os,o,h,ho=>by
  rcases List.mem_cons.1 h with rfl | h
  ·simp only [aB,ho,hs]
   exact List.mem_cons_self
  have:=qDg hs os h ho
  unfold aB
  split
  ·split
   ·exact mC _ this
   exact this
  exact this
theorem lS (h:SR E n0 H0 g0 S ρ ve lb g fr H):∀ (os:List Oper),∀ q∈dD S os,q.1.bd S.n S.blks.length/\q.2.bd S.n S.blks.length
 | [],_,hq=>by cases hq
 | o::os,q,hq=>by
  unfold dD at hq
  split at hq
  ·split at hq
   ·split at hq
    ·rename_i k hs
     rw [cond_eq_ite] at hq
     split at hq
     ·rcases List.mem_cons.1 hq with rfl | hq
      ·exact ⟨(h.slots _ _ hs).1,trivial⟩
      exact lS h os q hq
     exact lS h os q hq
    exact lS h os q hq
   exact lS h os q hq
  exact lS h os q hq
theorem qMn (h:SR E n0 H0 g0 S ρ ve lb g fr H) (os:List Oper):∀ q∈qFv S os,q.1.bd S.n S.blks.length/\q.2.bd S.n S.blks.length:=fun q hq =>
 (List.mem_append.1 hq).elim (iZ h os q) (lS h os q)
theorem qKg {t:TypeId} {a:Tmp} {k sz off:Nat} {i:SV} (hs:S.slots.get a=some (.ptr (.v k) i sz off)) (os:List Oper) {o:Oper} (h:o∈os) (ho:o.op=.load t (.tmp a)):(.v k,i)∈qFv S os:=List.mem_append_left _ (qDg hs os h ho)
theorem qDq {t:TypeId} {n k:Nat} {ps:Array (Nat × Operand)} {d:Tmp} (hs:S.slots.get d=some (.v k)) (hk:S.pureV k=true):∀ (os:List Oper) {o:Oper},o∈os->o.op=.buildSlice t n ps->o.dst=some d->(.v k,.c (.int .i64 0))∈dD S os
 | [],_,h,_,_=>by cases h
 | p::os,o,h,ho,hd=>by
  rcases List.mem_cons.1 h with rfl | h
  ·simp only [dD,ho,hd,hs,hk,cond_true]
   exact List.mem_cons_self
  have:=qDq hs hk os h ho hd
  unfold dD
  split
  ·split
   ·split
    ·rw [cond_eq_ite]
     split
     ·exact mC _ this
     exact this
    exact this
   exact this
  exact this
theorem qFb {all:List Oper} (hpg:∀ q∈qFv S all,qQZ ve lb g q.1 q.2) (h:SR E n0 H0 g0 S ρ ve lb g fr H) (hall:nR S all all 0=true):∀ (os:List Oper) (i:Nat),(∀ k o,os[k]? = some o->all[i+k]? = some o)->nR S all os i=true->qIk fr ((qAv S all 0).map fun q=>(q.1,lb q.2)) all i os
 | [],_,_,_=>trivial
 | o::os,i,hi,ht=>by
  simp only [nR,aE] at ht
  refine ⟨?_,qFb hpg h hall os (i+1) (fun k p hk=>by have:=hi (k+1) p (by simpa using hk); rw [show i+1+k=i+(k+1) by omega]; exact this) ht.2⟩
  have hst:=uS all 0 hall
  have hlive:∀ {b},b∈qP all i (qAv S all 0)->S.live b:=fun {b} hb=>by
   obtain ⟨j,hj⟩:=fY _ hb
   exact qFa (all:=all) all 0 hst hj
  have hfar:∀ {bs:List Nat} {b c:Nat},bs.all (fun c=>!(Nat.beq c b))=true->c∈bs->c≠b:=by
   intro bs b c h hc e
   have:=List.all_eq_true.1 h c hc
   subst e
   simp at this
  have h1:=ht.1
  unfold mN
  rw [qBL]
  cases ho:o.op with
  | store t a x =>
   obtain ⟨d,b,off,y,rfl,hs,hy,hb,hd⟩:=qA6 h1 ho
   refine ⟨by rw [hb]; rfl,hd,fun B hB=>?_⟩
   have hv:=(h.slots d _ hs).2
   simp only [SV.val] at hv
   rw [hv] at hB
   simp only [qEj,oI] at hB
   subst hB
   have hm:=qIx hs all 0 i o (by have:=hi 0 o rfl; simpa using this) ho
   rw [Nat.zero_add] at hm
   exact List.mem_map.2 ⟨_,hm,rfl⟩
  | load t a =>
   unfold fK at h1
   rw [ho] at h1
   cases a with
   | tmp a =>
    simp only [aE] at h1
    refine ⟨h1.1,fun B hB hm=>?_⟩
    obtain ⟨c,hc,rfl⟩:=List.mem_map.1 hm
    have h2:=h1.2
    split at h2
    ·rename_i b off hs
     have hv:=(h.slots a _ hs).2
     simp only [SV.val] at hv
     rw [hv] at hB
     simp only [qEj,oI] at hB
     simp only [aE] at h2
     obtain ⟨y,hy⟩:=l6 h2.2
     exact hfar h2.1 hc (h.sepL c b (hlive hc) ⟨y,hy⟩ hB.symm)
    ·rename_i k x1 x2 x3 hs
     have hv:=(h.slots a _ hs).2
     simp only [SV.val] at hv
     rw [hv] at hB
     have hmem:o∈all:=by have:=hi 0 o rfl; exact List.mem_of_getElem? this
     obtain ⟨kk,hkk⟩:=hpg _ (qKg hs all hmem ho) _ _ _ hB
     have hfree:=h.sepLG c (hlive hc)
     rw [hkk] at hfree
     cases hfree
    cases h2
   | const _=>cases h1
   | global _=>cases h1
   | func _=>cases h1
  | alloc t =>
   unfold fK at h1
   rw [ho] at h1
   simp only at h1 ⊢
   split at h1
   case h_2=>cases h1
   rename_i d hd
   simp only [aE] at h1
   refine ⟨d,hd,h1.1,fun B hB hm=>?_⟩
   obtain ⟨c,hc,rfl⟩:=List.mem_map.1 hm
   have h2:=h1.2
   split at h2
   ·rename_i b off hs
    have hv:=(h.slots d _ hs).2
    simp only [SV.val] at hv
    rw [hv] at hB
    simp only [qEj,oI] at hB
    simp only [aE] at h2
    obtain ⟨y,hy⟩:=l6 h2.2
    exact hfar h2.1 hc (h.sepL c b (hlive hc) ⟨y,hy⟩ hB.symm)
   cases h2
  | buildSlice t n ps =>
   unfold fK at h1
   rw [ho] at h1
   simp only [aE] at h1 ⊢
   obtain ⟨hn,h1⟩:=h1
   split at h1
   case h_2=>cases h1
   rename_i d hd
   simp only [aE] at h1
   refine ⟨lB hn,d,hd,h1.1,fun B hB hm=>?_⟩
   obtain ⟨c,hc,rfl⟩:=List.mem_map.1 hm
   have h2:=h1.2
   split at h2
   case h_2=>cases h2
   rename_i k hs
   have hv:=(h.slots d _ hs).2
   simp only [SV.val] at hv
   rw [hv] at hB
   rcases Bool.or_eq_true _ _ ▸ h2 with hf | hp
   ·obtain ⟨of,hst⟩:=zO.1 hf
    have hq:mZ g H.blocks.get n0 (getD ρ k) (ve k):=(h.vars k _ hst).2
    rcases hq with (⟨hq,_⟩ | ⟨_,ad,hq⟩) | ⟨B2,l,cs,vs,el,rt,sz,es,qo⟩ | ⟨B2,es,ck,rt,ks,dd,qo⟩
    rotate_left 3
    ·rw [qo.v] at hB; cases hB
    ·rw [hq] at hB; cases hB
    ·rw [hq] at hB
     obtain ⟨b1,b2,b3⟩:=ad
     cases b3 <;> cases hB
    have hsx:=h.sepX c k (hlive hc) hf
    rw [qo.v] at hB hsx
    cases l with
    | zero=>cases hB
    | succ l =>
     simp only [qOU,oI] at hB
     exact hsx (by simp [jQ,hB])
   have hmem:o∈all:=by have:=hi 0 o rfl; exact List.mem_of_getElem? this
   have hPG:=hpg _ (List.mem_append_right _ (qDq hs hp all hmem ho hd)) 0 0
   have hpv:∃ kk,g (lb c)=some kk:=by
    refine hPG (lb c) ?_
    simp only [SV.val]
    unfold qOU at hB
    split at hB
    ·rename_i b x2 l2 c2 heq
     cases hB
     have heq:=Option.some.inj heq
     rw [heq]; rfl
    cases hB
   obtain ⟨kk,hkk⟩:=hpv
   have hfree:=h.sepLG c (hlive hc)
   rw [hkk] at hfree
   cases hfree
  | _=>unfold fK at h1; rw [ho] at h1; exact h1
theorem qM0 (he:EOk E) {id:Nat} {ops:Array Oper} {κ:St->Tree} (h:SR E n0 H0 g0 S ρ ve lb g fr H)
  (hw:wp E (qB E) Q (qCQ E ops false ops.toList 0 S (fun S=>bif nR S ops.toList ops.toList 0 then qGB (qFv S ops.toList) S κ else .fail)) ρ) :
  ∃ S' ρ' ve' lb' g' fr' H',SR E n0 H0 g0 S' ρ' ve' lb' g' fr' H'/\wp E (qB E) Q (κ S') ρ'/\vF E (.region id ops true) fr H .normal fr' H':=by
 obtain ⟨S1,ρ1,ve1,lb1,g1,fr1,H1,h1,hw,hx⟩:=qMy ops.toList 0 h hw
 obtain ⟨ht,hw⟩:=jB hw
 obtain ⟨S2,ρ2,ve2,h2,hw,hpg⟩:=qGA _ h1 (qMn h1 _) hw
 have hT:=qFb hpg h1 ht ops.toList 0 (fun k o hk=>by rw [Nat.zero_add]; exact hk) ht
 obtain ⟨hn,l,f1,f2,ts0,_,f3⟩:=hx
 have hrun0:=f3 (qNf l) (fun a ha=>qBJ f1 a ha)
 rw [qDa] at hrun0
 obtain ⟨H2,hrun,hq⟩:=qB9 (N:=n0.n) ops.toList 0 hrun0 hT ⟨fun _=>rfl,rfl,fun _ _ h=>h,h.base.1⟩
 refine ⟨S2,ρ2,ve2,lb1,g1,fr1,H2,h2.congr hq.get hq.next (hq.low _ (Nat.min_le_right _ _) h2.low),hw,?_⟩
 have io:=qNe f1
 refine ⟨by rw [hq.next]; exact hn,?_⟩
 intro hr0 σ w tmps n0 B0 hr hf hfree hn0 b ds k cs hk hro hds
 have hfree':wZ σ H.next H2.next:=hfree
 obtain ⟨σ',w',tmps',g1,g2,g3⟩:=l9 he io.call io.round io.up (id:=id) (fun hd=>by simpa [zT,hd] using hr0) b ds k cs hk hro hrun hr hf hfree'
 exact ⟨σ',w',tmps',ds,g1,g2,oF hrun,hds.step hr g1,g3⟩
end
end Go.Am
namespace Go.Am
open Go
theorem xB.raise {E:Env} {f:FuncId} {args:List Value} {H H':AH} {v:Value} (h:xB E f args H v H'):xB E f args H v { H' with next:=H'.next+1 }:=by
 intro σ w args' hr hv hf cs
 obtain ⟨e,w',fr,⟨σ',v',g1,g2,s⟩,g4⟩:=h σ w args' hr hv (fun b h1 h2=>hf b h1 (Nat.lt_succ_of_lt h2)) cs
 have st:Step E σ H w σ' { H' with next:=H'.next+1 } w':=by
  refine ⟨⟨s.hr.objs,s.hr.sep,s.hr.glob,fun b k hb=>?_⟩,Nat.le_succ_of_le s.next,fun b hb=>?_,s.size,s.low,s.tape,s.os,s.output,s.frame,s.origin,s.old,s.keep,s.born⟩
  ·exact ⟨(s.hr.wf b k hb).1,Nat.lt_succ_of_lt (s.hr.wf b k hb).2⟩
  refine s.ext b ?_
  rcases hb with hb | hb
  ·exact .inl hb
  exact .inr (Nat.le_of_succ_le hb)
 exact ⟨e,w',fr,⟨σ',v',g1,g2,st⟩,g4⟩
abbrev g8:=AExit->Fr->AH->Prop
def Fin (E:Env) (c:Code) (K:g8) (fr:Fr) (H:AH):Prop:=∃ e fr1 H1,vF E c fr H e fr1 H1/\K e fr1 H1
def qMg (E:Env) (b:Code) (K:g8):g8:=fun e fr H=>match e with
 | .normal=>Fin E b K fr H
 | e=>K e fr H
def lF (id:Nat) (K:g8):g8:=fun e fr H=>match e with
 | .exit id'=>if id'=id then K .normal fr H else K (.exit id') fr H
 | e=>K e fr H
def qID (E:Env) (b:Code) (K:g8):g8:=fun e fr H=>match e with
 | .normal=>Fin E (.loop b) K fr H
 | e=>K e fr H
section
variable {E:Env} {fr:Fr} {H:AH} {K:g8}
theorem qJk {a b:Code} (h:Fin E a (qMg E b K) fr H):Fin E (.seq a b) K fr H:=by
 obtain ⟨e,fr1,H1,h1,h2⟩:=h
 cases e with
 | normal =>
  obtain ⟨e2,fr2,H2,h3,h4⟩:=h2
  exact ⟨e2,fr2,H2,h1.seq h3,h4⟩
 | exit id=>exact ⟨_,fr1,H1,h1.seqOut (by simp),h2⟩
 | ret=>exact ⟨_,fr1,H1,h1.seqOut (by simp),h2⟩
theorem qDG {id:Nat} {b:Code} (h:Fin E b (lF id K) fr H):Fin E (.block id b) K fr H:=by
 obtain ⟨e,fr1,H1,h1,h2⟩:=h
 cases e with
 | normal=>exact ⟨_,fr1,H1,h1.block (by simp),h2⟩
 | exit id' =>
  simp only [lF] at h2
  split at h2
  ·rename_i e; subst e
   exact ⟨_,fr1,H1,h1.blockExit,h2⟩
  rename_i e
  exact ⟨_,fr1,H1,h1.block (by simpa using e),h2⟩
 | ret=>exact ⟨_,fr1,H1,h1.block (by simp),h2⟩
theorem qGf {b:Code} (h:Fin E b (qID E b K) fr H):Fin E (.loop b) K fr H:=by
 obtain ⟨e,fr1,H1,h1,h2⟩:=h
 cases e with
 | normal =>
  obtain ⟨e2,fr2,H2,h3,h4⟩:=h2
  exact ⟨e2,fr2,H2,h1.loop h3,h4⟩
 | exit id=>exact ⟨_,fr1,H1,h1.loopOut (by simp),h2⟩
 | ret=>exact ⟨_,fr1,H1,h1.loopOut (by simp),h2⟩
theorem qDF {b:Code} (h:Fin E b K fr H):Fin E (.scope b) K fr H:=by
 obtain ⟨e,fr1,H1,h1,h2⟩:=h
 exact ⟨e,fr1,H1,h1.scope,h2⟩
end
inductive Ctx (E:Env) (J:Nat->St->Tree) (c0:Code) (κ0:KC) (K0:g8):Nat->Code->KC->g8->Prop
 | root:Ctx E J c0 κ0 K0 1 c0 κ0 K0
 | seqL {n:Nat} {a b:Code} {κ:KC} {K:g8} (h:Ctx E J c0 κ0 K0 n (.seq a b) κ K):Ctx E J c0 κ0 K0 n a (qJ4 (fun S=>sx E J (n+nl a) b S κ) κ) (qMg E b K)
 | seqR {n:Nat} {a b:Code} {κ:KC} {K:g8} (h:Ctx E J c0 κ0 K0 n (.seq a b) κ K):Ctx E J c0 κ0 K0 (n+nl a) b κ K
 | condL {n:Nat} {c:Operand} {a b:Code} {κ:KC} {K:g8} (h:Ctx E J c0 κ0 K0 n (.cond c a b) κ K):Ctx E J c0 κ0 K0 n a κ K
 | condR {n:Nat} {c:Operand} {a b:Code} {κ:KC} {K:g8} (h:Ctx E J c0 κ0 K0 n (.cond c a b) κ K):Ctx E J c0 κ0 K0 (n+nl a) b κ K
 | block {n id:Nat} {b:Code} {κ:KC} {K:g8} (h:Ctx E J c0 κ0 K0 n (.block id b) κ K):Ctx E J c0 κ0 K0 n b (bQ id κ) (lF id K)
 | loop {n:Nat} {b:Code} {κ:KC} {K:g8} (h:Ctx E J c0 κ0 K0 n (.loop b) κ K):Ctx E J c0 κ0 K0 (n+1) b (fB J n κ) (qID E b K)
 | scope {n:Nat} {b:Code} {κ:KC} {K:g8} (h:Ctx E J c0 κ0 K0 n (.scope b) κ K):Ctx E J c0 κ0 K0 n b κ K
section
variable {E:Env} {n0:Lim} {H0:AH} {g0:zG} {Q:Res1->Prop} {J:Nat->St->Tree} {c0:Code} {κ0:KC} {K0:g8}
def qGU (E:Env) (n0:Lim) (H0:AH) (g0:zG) (Q:Res1->Prop) (κ:KC) (K:g8):Prop :=
 ∀ e S ρ ve lb g fr H,SR E n0 H0 g0 S ρ ve lb g fr H->wp E (qB E) Q (κ e S) ρ->K e fr H
def qOm (E:Env) (n0:Lim) (H0:AH) (g0:zG) (Q:Res1->Prop) (J:Nat->St->Tree) (c0:Code) (κ0:KC) (K0:g8):Prop :=
 ∀ k b κ K,Ctx E J c0 κ0 K0 k (.loop b) κ K->∀ S ρ ve lb g fr H,SR E n0 H0 g0 S ρ ve lb g fr H->wp E (qB E) Q (J k S) ρ->Fin E (.loop b) K fr H
theorem cQ (he:EOk E) (hj:qOm E n0 H0 g0 Q J c0 κ0 K0):∀ (c:Code) (n:Nat) (κ:KC) (K:g8),Ctx E J c0 κ0 K0 n c κ K->qGU E n0 H0 g0 Q κ K ->
  ∀ S ρ ve lb g fr H,SR E n0 H0 g0 S ρ ve lb g fr H->wp E (qB E) Q (sx E J n c S κ) ρ->Fin E c K fr H
 | .seq a b,n,κ,K,hc,hl,S,ρ,ve,lb,g,fr,H,h,hw=>by
  refine qJk (cQ he hj a n _ _ hc.seqL ?_ S ρ ve lb g fr H h hw)
  intro e S1 ρ1 ve1 lb1 g1 fr1 H1 h1 hw1
  cases e with
  | normal=>exact cQ he hj b _ κ K hc.seqR hl S1 ρ1 ve1 lb1 g1 fr1 H1 h1 hw1
  | exit id=>exact hl _ S1 ρ1 ve1 lb1 g1 fr1 H1 h1 hw1
  | ret=>exact hl _ S1 ρ1 ve1 lb1 g1 fr1 H1 h1 hw1
 | .cond c a b,n,κ,K,hc,hl,S,ρ,ve,lb,g,fr,H,h,hw=>by
  simp only [sx] at hw
  have T:∀ S',SR E n0 H0 g0 S' ρ ve lb g fr H->ev E fr c=some (.bool true)->wp E (qB E) Q (sx E J n a S' κ) ρ->Fin E (.cond c a b) K fr H:=by
   intro S' h' hv hw
   obtain ⟨e,fr1,H1,r1,r2⟩:=cQ he hj a n κ K hc.condL hl S' ρ ve lb g fr H h' hw
   exact ⟨e,fr1,H1,r1.condT he hv,r2⟩
  have F:∀ S',SR E n0 H0 g0 S' ρ ve lb g fr H->ev E fr c=some (.bool false)->wp E (qB E) Q (sx E J (n+nl a) b S' κ) ρ->Fin E (.cond c a b) K fr H:=by
   intro S' h' hv hw
   obtain ⟨e,fr1,H1,r1,r2⟩:=cQ he hj b (n+nl a) κ K hc.condR hl S' ρ ve lb g fr H h' hw
   exact ⟨e,fr1,H1,r1.condF he hv,r2⟩
  split at hw
  ·rename_i hv; exact T S h (zM (E:=E) h hv).2 hw
  ·rename_i hv; exact F S h (zM (E:=E) h hv).2 hw
  ·rename_i i hv
   obtain ⟨hp,hw⟩:=jB hw
   obtain ⟨t,hd,hw⟩:=qAN hw
   have hv':=(zM (E:=E) h hv).2
   simp only [SV.val,sS h.toSM hp hd] at hv'
   cases t with
   | true=>exact T _ (rZ h hp hd) hv' hw
   | false=>exact F _ (rZ h hp hd) hv' hw
  cases hw
 | .block id b,n,κ,K,hc,hl,S,ρ,ve,lb,g,fr,H,h,hw=>by
  refine qDG (cQ he hj b n _ _ hc.block ?_ S ρ ve lb g fr H h hw)
  intro e S1 ρ1 ve1 lb1 g1 fr1 H1 h1 hw1
  cases e with
  | normal=>exact hl _ S1 ρ1 ve1 lb1 g1 fr1 H1 h1 hw1
  | ret=>exact hl _ S1 ρ1 ve1 lb1 g1 fr1 H1 h1 hw1
  | exit id' =>
   simp only [bQ,zC] at hw1
   simp only [lF]
   split
   ·rename_i e; rw [if_pos e] at hw1
    exact hl _ S1 ρ1 ve1 lb1 g1 fr1 H1 h1 hw1
   rename_i e; rw [if_neg e] at hw1
   exact hl _ S1 ρ1 ve1 lb1 g1 fr1 H1 h1 hw1
 | .loop b,n,κ,K,hc,hl,S,ρ,ve,lb,g,fr,H,h,hw=>hj n b κ K hc S ρ ve lb g fr H h hw
 | .scope b,n,κ,K,hc,hl,S,ρ,ve,lb,g,fr,H,h,hw=>qDF (cQ he hj b n κ K hc.scope hl S ρ ve lb g fr H h hw)
 | .region id ops draw,n,κ,K,hc,hl,S,ρ,ve,lb,g,fr,H,h,hw=>by
  simp only [sx] at hw
  rw [cond_eq_ite] at hw
  split at hw
  ·rename_i hc
   simp only [aE] at hc
   obtain ⟨S',ρ',ve',lb',g',fr',H',r1,r2,r3⟩:=qM0 he (id:=id) h hw
   rw [hc.1]
   exact ⟨_,fr',H',r3,hl _ S' ρ' ve' lb' g' fr' H' r1 r2⟩
  obtain ⟨S',ρ',ve',lb',g',fr',H',r1,r2,r3⟩:=qMy ops.toList 0 h hw
  exact ⟨_,fr',H',.region he r3,hl _ S' ρ' ve' lb' g' fr' H' r1 r2⟩
 | .skip,n,κ,K,hc,hl,S,ρ,ve,lb,g,fr,H,h,hw=>⟨_,fr,H,.skip,hl _ S ρ ve lb g fr H h hw⟩
 | .label l,n,κ,K,hc,hl,S,ρ,ve,lb,g,fr,H,h,hw=>⟨_,fr,H,.label,hl _ S ρ ve lb g fr H h hw⟩
 | .ret,n,κ,K,hc,hl,S,ρ,ve,lb,g,fr,H,h,hw=>⟨_,fr,H,.ret,hl _ S ρ ve lb g fr H h hw⟩
 | .exit id,n,κ,K,hc,hl,S,ρ,ve,lb,g,fr,H,h,hw=>⟨_,fr,H,.exit,hl _ S ρ ve lb g fr H h hw⟩
 | .rangeFunc _ _ _ _,n,κ,K,hc,hl,S,ρ,ve,lb,g,fr,H,h,hw=>by cases hw
 | .goto _,n,κ,K,hc,hl,S,ρ,ve,lb,g,fr,H,h,hw=>by cases hw
 | .refuse _,n,κ,K,hc,hl,S,ρ,ve,lb,g,fr,H,h,hw=>by cases hw
theorem qPF (he:EOk E) (hj:qOm E n0 H0 g0 Q J c0 κ0 K0) (h0:qGU E n0 H0 g0 Q κ0 K0) {n:Nat} {c:Code} {κ:KC} {K:g8} (hc:Ctx E J c0 κ0 K0 n c κ K):qGU E n0 H0 g0 Q κ K:=by
 induction hc with
 | root=>exact h0
 | @seqL n a b κ K hc ih =>
  intro e S1 ρ1 ve1 lb1 g1 fr1 H1 h1 hw1
  cases e with
  | normal=>exact cQ he hj b _ κ K hc.seqR ih S1 ρ1 ve1 lb1 g1 fr1 H1 h1 hw1
  | exit id=>exact ih _ S1 ρ1 ve1 lb1 g1 fr1 H1 h1 hw1
  | ret=>exact ih _ S1 ρ1 ve1 lb1 g1 fr1 H1 h1 hw1
 | seqR hc ih=>exact ih
 | condL hc ih=>exact ih
 | condR hc ih=>exact ih
 | @block n id b κ K hc ih =>
  intro e S1 ρ1 ve1 lb1 g1 fr1 H1 h1 hw1
  cases e with
  | normal=>exact ih _ S1 ρ1 ve1 lb1 g1 fr1 H1 h1 hw1
  | ret=>exact ih _ S1 ρ1 ve1 lb1 g1 fr1 H1 h1 hw1
  | exit id' =>
   simp only [bQ,zC] at hw1
   simp only [lF]
   split
   ·rename_i e; rw [if_pos e] at hw1
    exact ih _ S1 ρ1 ve1 lb1 g1 fr1 H1 h1 hw1
   rename_i e; rw [if_neg e] at hw1
   exact ih _ S1 ρ1 ve1 lb1 g1 fr1 H1 h1 hw1
 | @loop n b κ K hc ih =>
  intro e S1 ρ1 ve1 lb1 g1 fr1 H1 h1 hw1
  cases e with
  | normal=>exact hj n b κ K hc S1 ρ1 ve1 lb1 g1 fr1 H1 h1 hw1
  | exit id=>exact ih _ S1 ρ1 ve1 lb1 g1 fr1 H1 h1 hw1
  | ret=>exact ih _ S1 ρ1 ve1 lb1 g1 fr1 H1 h1 hw1
 | scope hc ih=>exact ih
theorem qNi {P:Nat->St} {n:Nat} {c:Code} {κ:KC} {K:g8} (hc:Ctx E J c0 κ0 K0 n c κ K):∀ x∈jU E P J n c κ,x∈jU E P J 1 c0 κ0:=by
 induction hc with
 | root=>exact fun x hx=>hx
 | seqL hc ih=>exact fun x hx=>ih x (by simp only [jU]; exact List.mem_append_left _ hx)
 | seqR hc ih=>exact fun x hx=>ih x (by simp only [jU]; exact List.mem_append_right _ hx)
 | condL hc ih=>exact fun x hx=>ih x (by simp only [jU]; exact List.mem_append_left _ hx)
 | condR hc ih=>exact fun x hx=>ih x (by simp only [jU]; exact List.mem_append_right _ hx)
 | block hc ih=>exact fun x hx=>ih x (by simp only [jU]; exact hx)
 | loop hc ih=>exact fun x hx=>ih x (by simp only [jU]; exact mC _ hx)
 | scope hc ih=>exact fun x hx=>ih x (by simp only [jU]; exact hx)
theorem qBH (he:EOk E) {pats:Nat->Pat} {sz:Nat} {Ts:Nat->Tree} {d:D} (hJ:J=fun k S=>xK sz (pats k) k S)
  (hT:∀ x∈jU E (fun k=>(pats k).st sz) J 1 c0 κ0,Ts x.1=x.2) (h0:∀ Q:Res1->Prop,(∀ d',Q (.ret d')->d'=d)->qGU E n0 H0 g0 Q κ0 K0) (hP:∀ k,n0.F.length<=(pats k).blks.length) :
  ∀ n,qOm E n0 H0 g0 (fun r=>match r with | .ret d'=>d'=d | .jump k' ds=>qT4 E (qB E) Ts n k' ds d) J c0 κ0 K0
 | 0=>by
  intro k b κ K hc S ρ ve lb g fr H h hw
  rw [hJ] at hw
  obtain ⟨ds,ve',g',_,hq⟩:=qAM h hw (hP _)
  cases hq
 | n+1=>by
  have ih:=qBH he hJ hT h0 hP n
  intro k b κ K hc S ρ ve lb g fr H h hw
  have hw2:=hw
  rw [hJ] at hw2
  obtain ⟨ds,ve',g',h',hq⟩:=qAM h hw2 (hP _)
  have hTk:Ts k=sx E J (k+1) b ((pats k).st sz) (fB J k κ):=by
   have:=qNi (P:=fun k=>(pats k).st sz) hc (k,sx E J (k+1) b ((pats k).st sz) (fB J k κ)) (by simp only [jU]; exact List.mem_cons_self)
   exact hT _ this
  have hq':wp E (qB E) (fun r=>match r with | .ret d'=>d'=d | .jump k' ds=>qT4 E (qB E) Ts n k' ds d) (Ts k) ds:=hq
  rw [hTk] at hq'
  refine qGf (cQ he ih b (k+1) _ _ hc.loop (qPF he ih (h0 _ fun d' hd=>hd) hc.loop) _ ds ve' lb g' fr H h' hq')
end
end Go.Am
namespace Go.Am
open Go
section
variable {E:Env} {n0:Lim} {H0:AH} {g0:zG} {Q:Res1->Prop} {HS:FuncId->List D->D->Prop}
theorem qEd:∀ (rs:List ResultVar) (acc:List SV) {S:St} {ρ:List D} {ve:Nat->Value} {lb:Nat->Nat} {g:zG} {fr:Fr} {H:AH},SR E n0 H0 g0 S ρ ve lb g fr H->SV.bds S.n S.blks.length acc->wp E HS Q (qEe E S acc rs) ρ ->
  ∃ S' ρ' ve' g' vs ds,SR E n0 H0 g0 S' ρ' ve' lb g' fr H/\vL E fr H rs=some vs/\DRs g' ds (SV.vals ve lb acc++vs)/\Q (.ret (kK ds))
 | [],acc,S,ρ,ve,lb,g,fr,H,h,hb,hw=>by
  simp only [qEe] at hw
  obtain ⟨g1,e1,h1⟩:=xA acc h
  obtain ⟨hp,hw⟩:=jB hw
  rw [List.all_eq_true] at hp
  exact ⟨_,ρ,ve,g1,[],_,h1,rfl,by rw [List.append_nil]; exact nY h1.toSM hp,hw⟩
 | .tmp t::rs,acc,S,ρ,ve,lb,g,fr,H,h,hb,hw=>by
  simp only [qEe] at hw
  split at hw
  ·rename_i x hx
   obtain ⟨q1,q2⟩:=h.slots t x hx
   obtain ⟨S',ρ',ve',g',vs,ds,r1,r2,r3,r4⟩:=qEd rs (acc++[x]) h (by
    rw [SV.bds_iff] at hb ⊢
    intro u hu
    rcases List.mem_append.1 hu with hu | hu
    ·exact hb u hu
    simp only [List.mem_singleton] at hu; subst hu; exact q1) hw
   refine ⟨S',ρ',ve',g',x.val ve lb::vs,ds,r1,by simp only [vL,q2,r2,Option.map_some],?_,r4⟩
   rw [yO] at r3
   simpa [SV.vals] using r3
  cases hw
 | .cell a t::rs,acc,S,ρ,ve,lb,g,fr,H,h,hb,hw=>by
  simp only [qEe] at hw
  split at hw
  ·rename_i p hp
   obtain ⟨q1,q2⟩:=h.slots a p hp
   obtain ⟨y,S1,ρ1,ve1,g1,e1,h1,hw1,s1,s2⟩:=qAH h q1 hw
   obtain ⟨S',ρ',ve',g',vs,ds,r1,r2,r3,r4⟩:=qEd rs (acc++[y]) h1 (by
    have hb':=e1.bds hb
    rw [SV.bds_iff] at hb' ⊢
    intro u hu
    rcases List.mem_append.1 hu with hu | hu
    ·exact hb' u hu
    simp only [List.mem_singleton] at hu; subst hu; exact s1) hw1
   refine ⟨S',ρ',ve',g',y.val ve1 lb::vs,ds,r1,by simp only [vL,q2,Option.bind_some,s2,r2,Option.map_some],?_,r4⟩
   rw [yO] at r3
   have:SV.vals ve1 lb acc=SV.vals ve lb acc:=SV.vals_congr e1.ve (fun _ _=>rfl) hb
   rw [this] at r3
   simpa [SV.vals] using r3
  cases hw
def qOp (E:Env) (H0:AH) (g0:zG) (rs:List ResultVar) (d:D):g8:=fun e fr H=>(e=.normal∨e=.ret) /\
 ∃ v g',(match vL E fr H rs with | some [v]=>some v | some vs=>some (.tuple ⟨vs⟩) | none=>none)=some v/\DR g' d v/\zG.le g' H.blocks.get/\WF H/\H0.next<=H.next/\(∀ b,b < H0.next->H.blocks.get b=H0.blocks.get b) /\
  Nat.min H0.low H0.next<=H.low/\(∀ b,b < H0.next->g' b=g0 b)
theorem qJs {rs:List ResultVar} {d:D} (hQ:∀ d',Q (.ret d')->d'=d):qGU E (Lim.of H0.next) H0 g0 Q (uB E rs) (qOp E H0 g0 rs d):=by
 intro e S ρ ve lb g fr H h hw
 have main:wp E (qB E) Q (qEe E S [] rs) ρ->∃ v g',(match vL E fr H rs with | some [v]=>some v | some vs=>some (.tuple ⟨vs⟩) | none=>none)=some v/\DR g' d v/\zG.le g' H.blocks.get/\WF H/\H0.next<=H.next/\(∀ b,b < H0.next->H.blocks.get b=H0.blocks.get b) /\
  Nat.min H0.low H0.next<=H.low/\(∀ b,b < H0.next->g' b=g0 b):=by
  intro hw
  obtain ⟨S',ρ',ve',g',vs,ds,r1,r2,r3,r4⟩:=qEd rs [] h trivial hw
  have:=hQ _ r4
  subst this
  simp only [SV.vals,List.nil_append] at r3
  have fin:∀ v,(match some vs with | some [v]=>some v | some vs=>some (Value.tuple ⟨vs⟩) | none=>none)=some v->DR g' (kK ds) v->∃ v g',(match vL E fr H rs with | some [v]=>some v | some vs=>some (Value.tuple ⟨vs⟩) | none=>none)=some v/\DR g' (kK ds) v/\zG.le g' H.blocks.get/\WF H/\H0.next<=H.next/\(∀ b,b < H0.next->H.blocks.get b=H0.blocks.get b) /\
    Nat.min H0.low H0.next<=H.low/\(∀ b,b < H0.next->g' b=g0 b) :=
   fun v e hd=>⟨v,g',by rw [r2]; exact e,hd,r1.mem,r1.wf,r1.base.1,r1.keep,r1.low,r1.gk⟩
  match ds,vs,r3 with
  | [],_,.nil=>exact fin _ rfl (.tup .nil)
  | [x],_,.cons hx .nil=>exact fin _ rfl hx
  | x::y::r,_,.cons hx (.cons hy hr)=>exact fin _ rfl (.tup (.cons hx (.cons hy hr)))
 cases e with
 | normal=>exact ⟨.inl rfl,main hw⟩
 | ret=>exact ⟨.inr rfl,main hw⟩
 | exit id=>cases hw
theorem qFd {H : AH} {g : zG} {args : List Value} {ds : List D} (hwf : WF H) (hm : zG.le g H.blocks.get) (htab : qGV E g) (hd : DRs g ds args) {n sz : Nat} (hn : args.length = n) :
    SR E (Lim.of H.next) H g (gK n sz) ds (fun i => args.getD i (.bool false)) (fun _ => 0) g ⟨sz, false, T.ofList .leaf 0 args⟩ H := by
  have hl : ds.length = n := by rw [← hd.length, hn]
  have nofresh : ∀ i, (gK n sz).freshV i = false := by
    intro i
    cases hf : (gK n sz).freshV i with
    | false => rfl
    | true =>
      obtain ⟨o, h⟩ := zO.1 hf
      simp only [gK, List.getElem?_replicate] at h
      split at h <;> cases h
  have nolive : ∀ b, ¬ (gK n sz).live b := by
    rintro b ⟨x, h⟩
    simp [gK] at h
  refine { len := by simp [gK, hl], wf := hwf, mem := hm, base := Lim.of_base _, fix := ⟨Nat.zero_le _, fun k a hk => by simp [Lim.of] at hk⟩, vars := ?_, blks := ?_, sepLG := fun b hb => absurd hb (nolive b), sepFG := ?_, sepL := fun a b ha => absurd ha (nolive a), sepF := ?_, sepX := fun b i hb => absurd hb (nolive b),
           sz := rfl, rd := rfl, slots := ?_, sav := .nil, keep := fun _ _ => rfl, low := Nat.min_le_left _ _, gk := fun _ _ => rfl, tab := htab }
  · intro i s hs
    simp only [gK, List.getElem?_replicate] at hs
    split at hs
    · rename_i hi
      cases hs
      refine ⟨fun e => (by cases e), ?_⟩
      have hi' : i < ds.length := by omega
      obtain ⟨v, h1, h2⟩ := hd.get i ds[i] (List.getElem?_eq_getElem hi')
      simp only [getD, List.getD_eq_getElem?_getD, List.getElem?_eq_getElem hi', Option.getD_some, h1]
      exact h2
    · cases hs
  · intro b x hb
    exact absurd ⟨x, hb⟩ (nolive b)
  · intro i B hi; rw [nofresh i] at hi; cases hi
  · intro i j B hi; rw [nofresh i] at hi; cases hi
  · intro t x hx
    simp only [gK, kX, List.length_map, List.length_range] at hx
    rw [kX]
    split at hx
    · rename_i ht
      simp only [List.getElem?_map, Option.map_eq_some_iff] at hx
      obtain ⟨j, hj, rfl⟩ := hx
      obtain ⟨h1, h2⟩ := gI hj
      simp at h1 h2
      subst h2
      refine ⟨?_, ?_⟩
      · show t < (gK n sz).n
        simp [gK, St.n]; omega
      · rw [if_pos (by omega)]
        simp only [Nat.sub_zero, SV.val, List.getD_eq_getElem?_getD]
        rw [List.getElem?_eq_getElem (by omega)]
        rfl
    · simp [T.get] at hx
theorem pK:∀ (T:Tree) (ρ:List D),wp E HS Q T ρ->∃ r,Q r/\∀ Q':Res1->Prop,Q' r->wp E HS Q' T ρ
 | .fail,_,h=>by cases h
 | .stop _ _,_,h=>by cases h
 | .ret xs,ρ,h=>⟨_,h,fun _ h'=>h'⟩
 | .jump k xs,ρ,h=>⟨_,h,fun _ h'=>h'⟩
 | .bind o xs r,ρ,h=>by
  simp only [wp] at h
  split at h
  ·rename_i d hd
   obtain ⟨r',h1,h2⟩:=pK r _ h
   exact ⟨r',h1,fun Q' h'=>by simp only [wp,hd]; exact h2 Q' h'⟩
  cases h
 | .call tg xs fl r,ρ,h=>by
  simp only [wp] at h
  split at h
  ·rename_i f ds hd
   obtain ⟨d,h1,h2,h3⟩:=h
   obtain ⟨r',h4,h5⟩:=pK r _ h3
   exact ⟨r',h4,fun Q' h'=>by simp only [wp,hd]; exact ⟨d,h1,h2,h5 Q' h'⟩⟩
  cases h
 | .callM f m xs r,ρ,h=>by
  simp only [wp] at h
  obtain ⟨ds,h1,h2,h3⟩:=h
  obtain ⟨r',h4,h5⟩:=pK r _ h3
  exact ⟨r',h4,fun Q' h'=>by simp only [wp]; exact ⟨ds,h1,h2,h5 Q' h'⟩⟩
 | .ite c a b,ρ,h=>by
  simp only [wp] at h
  split at h
  ·rename_i hd
   obtain ⟨r',h1,h2⟩:=pK a _ h
   exact ⟨r',h1,fun Q' h'=>by simp only [wp,hd]; exact h2 Q' h'⟩
  ·rename_i hd
   obtain ⟨r',h1,h2⟩:=pK b _ h
   exact ⟨r',h1,fun Q' h'=>by simp only [wp,hd]; exact h2 Q' h'⟩
  cases h
theorem qK.step {Ts:Nat->Tree} {k:Nat} {ρ:List D} {d:D} (h:wp E HS (fun r=>match r with | .ret d'=>d'=d | .jump k' ds=>qK E HS Ts k' ds d) (Ts k) ρ):qK E HS Ts k ρ d:=by
 obtain ⟨r,h1,h2⟩:=pK _ _ h
 cases r with
 | ret d'=>exact ⟨1,h2 _ h1⟩
 | jump k' ds =>
  obtain ⟨n,hn⟩:=h1
  exact ⟨n+1,h2 _ hn⟩
theorem qKF (he:EOk E) {f:FuncId} {fn:Func} {c:Code} (hf:E.funcs.get f=some fn) (hb:fn.body=some c) {pats:Nat->Pat} {Ts:Nat->Tree} {ds:List D} {d:D} {n:Nat} (hn:ds.length=n)
  (h0:qFl E (fun k S=>xK (Nat.max fn.ntmps n) (pats k) k S) fn n=Ts 0)
  (hT:∀ x∈jU E (fun k=>(pats k).st (Nat.max fn.ntmps n)) (fun k S=>xK (Nat.max fn.ntmps n) (pats k) k S) 1 c (uB E fn.results.toList),Ts x.1=x.2)
  (hgo:qK E (qB E) Ts 0 ds d):qIo E f ds d:=by
 refine ⟨⟨fn,hf⟩,fun H g args hwf hm htab hd=>?_⟩
 have hlen:args.length=n:=by rw [hd.length,hn]
 have hs:=qFd (sz:=Nat.max fn.ntmps n) hwf hm htab hd hlen
 obtain ⟨m,hgo⟩:=hgo
 cases m with
 | zero=>cases hgo
 | succ m =>
  have hgo':wp E (qB E) (fun r=>match r with | .ret d'=>d'=d | .jump k' ds=>qT4 E (qB E) Ts m k' ds d) (Ts 0) ds:=hgo
  rw [← h0] at hgo'
  simp only [qFl,hb] at hgo'
  have hlk:∀ Q:Res1->Prop,(∀ d',Q (.ret d')->d'=d)->qGU E (Lim.of H.next) H g Q (uB E fn.results.toList) (qOp E H g fn.results.toList d):=fun Q hQ=>qJs hQ
  have hj:=qBH (n0:=Lim.of H.next) (H0:=H) (g0:=g) (c0:=c) (κ0:=uB E fn.results.toList) (K0:=qOp E H g fn.results.toList d) he rfl hT hlk (fun _=>Nat.zero_le _) m
  obtain ⟨e,fr1,H1,hx,he',v,g',hv,hdr,hm',hwf',hnx,hk,hlow,hgk⟩:=cQ he hj c 1 _ _ .root (hlk _ fun d' hd'=>hd') _ _ _ _ _ _ _ hs hgo'
  rw [← hlen] at hx
  have hcall:=vF.call he hf hb hx he' hv
  let g2:zG:=fun b=>if b < H.next then g b else g' b
  have hg2:zG.le g' g2:=by
   intro b k hb
   simp only [g2]
   split
   ·rename_i hlt; rw [← hgk b hlt]; exact hb
   exact hb
  refine ⟨v,{ H1 with next:=H1.next+1 },g2,hcall.raise,Nat.lt_succ_of_le hnx,fun b k hb=>⟨(hwf' b k hb).1,Nat.lt_succ_of_lt (hwf' b k hb).2⟩,hk,hlow,?_,?_,?_,hdr.mono hg2⟩
  ·intro b k hb
   simp only [g2]
   rw [if_pos (hwf b k (hm b k hb)).2]
   exact hb
  ·intro b k hb
   simp only [g2] at hb
   split at hb
   ·rename_i hlt
    rw [← hgk b hlt] at hb
    exact hm' b k hb
   exact hm' b k hb
  intro b hb
  simp only [g2]
  rw [if_pos hb]
theorem qFW (he:EOk E) {f:FuncId} {fn:Func} {c:Code} (hf:E.funcs.get f=some fn) (hb:fn.body=some c) {pats:Nat->Pat} {Ts:Nat->Tree} {ds:List D} {d:D} {n:Nat} (hn:ds.length=n)
  (h0:qFl E (fun k S=>xK (Nat.max fn.ntmps n) (pats k) k S) fn n=Ts 0)
  (hT:∀ x∈jU E (fun k=>(pats k).st (Nat.max fn.ntmps n)) (fun k S=>xK (Nat.max fn.ntmps n) (pats k) k S) 1 c (uB E fn.results.toList),Ts x.1=x.2)
  (hgo:qK E (qB E) Ts 0 ds d) (hlt:f < nK:=by decide):qB E f ds d:=.inl ⟨hlt,qKF he hf hb hn h0 hT hgo⟩
def qUZ (E:Env) (L:Lim) (H0:AH) (g0:zG) (m:Mode) (rs:List ResultVar) (d:D):g8:=fun e fr H=>(e=.normal∨e=.ret) /\
 ∃ vs ve lb g' ds,vL E fr H rs=some vs/\d=kK ds/\ds.length=m.out.sts.length/\SM L (m.out.st 0) ds ve lb g' H/\(∀ t x,(m.out.st 0).slots.get t=some x->x.bd (m.out.st 0).n (m.out.st 0).blks.length/\vs[t]? = some (x.val ve lb)) /\
  (∀ b,L.K b->H.blocks.get b=H0.blocks.get b)/\(∀ b,L.K b->g' b=g0 b)/\Nat.min H0.low L.n<=H.low
theorem qEf {m:Mode}:∀ (rs:List ResultVar) (acc:List SV) {S:St} {ρ:List D} {ve:Nat->Value} {lb:Nat->Nat} {g:zG} {fr:Fr} {H:AH},SR E n0 H0 g0 S ρ ve lb g fr H->SV.bds S.n S.blks.length acc->n0.F.length<=m.out.blks.length->wp E HS Q (qEg E m S acc rs) ρ ->
  ∃ ve' lb' g' vs ds,vL E fr H rs=some vs/\SR E n0 H0 g0 (m.out.st (SV.vals ve lb acc++vs).length) ds ve' lb' g' ⟨(SV.vals ve lb acc++vs).length,n0.rd,T.ofList .leaf 0 (SV.vals ve lb acc++vs)⟩ H/\Q (.ret (kK ds))/\ds.length=m.out.sts.length
 | [],acc,S,ρ,ve,lb,g,fr,H,h,hb,hF,hw=>by
  simp only [qEg] at hw
  have hl:(SV.vals ve lb acc).length=acc.length:=by rw [SV.vals_map,List.length_map]
  have h1:SR E n0 H0 g0 { S with slots:=T.ofList .leaf 0 acc,sz:=acc.length } ρ ve lb g ⟨acc.length,n0.rd,T.ofList .leaf 0 (SV.vals ve lb acc)⟩ H:=by
   refine { h with sz:=rfl,rd:=rfl,slots:=?_ }
   intro t x hx
   have hx:(T.ofList .leaf 0 acc).get t=some x:=hx
   rw [dC] at hx
   rw [SV.bds_iff] at hb
   refine ⟨hb x (List.mem_of_getElem? hx),?_⟩
   show (T.ofList .leaf 0 (SV.vals ve lb acc)).get t=_
   rw [mA,SV.vals_map,List.getElem?_map,hx]; rfl
  obtain ⟨as,ve',g',h2,hw⟩:=qFU h1 hw hF
  refine ⟨ve',lb,g',[],_,rfl,?_,hw,h2.len⟩
  rw [List.append_nil,hl]
  exact h2
 | .tmp t::rs,acc,S,ρ,ve,lb,g,fr,H,h,hb,hF,hw=>by
  simp only [qEg] at hw
  split at hw
  ·rename_i x hx
   obtain ⟨q1,q2⟩:=h.slots t x hx
   obtain ⟨ve',lb',g',vs,ds,r2,r3,r4,r5⟩:=qEf rs (acc++[x]) h (by
    rw [SV.bds_iff] at hb ⊢
    intro u hu
    rcases List.mem_append.1 hu with hu | hu
    ·exact hb u hu
    simp only [List.mem_singleton] at hu; subst hu; exact q1) hF hw
   refine ⟨ve',lb',g',x.val ve lb::vs,ds,by simp only [vL,q2,r2,Option.map_some],?_,r4,r5⟩
   rw [yO] at r3
   simpa [SV.vals] using r3
  cases hw
 | .cell a t::rs,acc,S,ρ,ve,lb,g,fr,H,h,hb,hF,hw=>by
  simp only [qEg] at hw
  split at hw
  ·rename_i p hp
   obtain ⟨q1,q2⟩:=h.slots a p hp
   obtain ⟨y,S1,ρ1,ve1,g1,e1,h1,hw1,s1,s2⟩:=qAH h q1 hw
   obtain ⟨ve',lb',g',vs,ds,r2,r3,r4,r5⟩:=qEf rs (acc++[y]) h1 (by
    have hb':=e1.bds hb
    rw [SV.bds_iff] at hb' ⊢
    intro u hu
    rcases List.mem_append.1 hu with hu | hu
    ·exact hb' u hu
    simp only [List.mem_singleton] at hu; subst hu; exact s1) hF hw1
   refine ⟨ve',lb',g',y.val ve1 lb::vs,ds,by simp only [vL,q2,Option.bind_some,s2,r2,Option.map_some],?_,r4,r5⟩
   rw [yO] at r3
   have:SV.vals ve1 lb acc=SV.vals ve lb acc:=SV.vals_congr e1.ve (fun _ _=>rfl) hb
   rw [this] at r3
   simpa [SV.vals] using r3
  cases hw
theorem qQq {m:Mode} {rs:List ResultVar} {d:D} (hQ:∀ d',Q (.ret d')->d'=d) (hF:n0.F.length<=m.out.blks.length):qGU E n0 H0 g0 Q (qEG E m rs) (qUZ E n0 H0 g0 m rs d):=by
 intro e S ρ ve lb g fr H h hw
 have main:wp E (qB E) Q (qEg E m S [] rs) ρ->∃ vs ve lb g' ds,vL E fr H rs=some vs/\d=kK ds/\ds.length=m.out.sts.length/\SM n0 (m.out.st 0) ds ve lb g' H/\(∀ t x,(m.out.st 0).slots.get t=some x->x.bd (m.out.st 0).n (m.out.st 0).blks.length/\vs[t]? = some (x.val ve lb)) /\
  (∀ b,n0.K b->H.blocks.get b=H0.blocks.get b)/\(∀ b,n0.K b->g' b=g0 b)/\Nat.min H0.low n0.n<=H.low:=by
  intro hw
  obtain ⟨ve',lb',g',vs,ds,r1,r2,r3,r4⟩:=qEf rs [] h trivial hF hw
  refine ⟨vs,ve',lb',g',ds,r1,(hQ _ r3).symm,r4,{ r2.toSM with },?_,r2.keep,r2.gk,r2.low⟩
  intro t x hx
  obtain ⟨q0,q⟩:=r2.slots t x hx
  refine ⟨q0,?_⟩
  simp only [SV.vals,List.nil_append] at q
  rw [mA] at q
  exact q
 cases e with
 | normal=>exact ⟨.inl rfl,main hw⟩
 | ret=>exact ⟨.inr rfl,main hw⟩
 | exit id=>cases hw
def eD:Nat->List (Nat × SV)->Bool
 | _,[]=>true
 | n,(t,_)::r=>Nat.beq t n && eD (n+1) r
theorem qKJ:∀ (l:List (Nat × SV)) (n:Nat) (t0:T SV),eD n l=true->∀ (i:Nat) (x:SV),(l.map Prod.snd)[i]? = some x->(l.foldl (fun t (p:Nat × SV)=>t.put p.1 (some p.2)) t0).get (n+i)=some x:=by
 have keep:∀ (l:List (Nat × SV)) (n:Nat) (t0:T SV),eD n l=true->∀ j,j < n->(l.foldl (fun t (p:Nat × SV)=>t.put p.1 (some p.2)) t0).get j=t0.get j:=by
  intro l
  induction l with
  | nil=>intro n t0 _ j _; rfl
  | cons p l ih =>
   intro n t0 h j hj
   simp only [eD,aE] at h
   have e:=jF h.1
   rw [List.foldl_cons,ih (n+1) _ h.2 j (by omega),T.get_put,if_neg (by omega)]
 intro l
 induction l with
 | nil=>intro n t0 _ i x hx; simp at hx
 | cons p l ih =>
  intro n t0 h i x hx
  simp only [eD,aE] at h
  have e:=jF h.1
  cases i with
  | zero =>
   simp at hx
   rw [List.foldl_cons,keep l (n+1) _ h.2 (n+0) (by omega),T.get_put,if_pos (by omega),hx]
  | succ i =>
   have:=ih (n+1) (t0.put p.1 (some p.2)) h.2 i x (by simpa using hx)
   rw [List.foldl_cons,show n+(i+1)=n+1+i by omega]
   exact this
theorem qIt {ve:Nat->Value} {lb:Nat->Nat}:∀ (xs:List SV) (vs:List Value),vs.length=xs.length->(∀ (i:Nat) (x:SV),xs[i]? = some x->vs[i]? = some (x.val ve lb))->vs=SV.vals ve lb xs
 | [],[],_,_=>rfl
 | [],_::_,h,_=>by simp at h
 | _::_,[],h,_=>by simp at h
 | x::xs,v::vs,h,ha=>by
  have h0:=ha 0 x rfl
  simp at h0
  simp only [SV.vals,h0]
  congr 1
  exact qIt xs vs (by simpa using h) fun i y hy=>by simpa using ha (i+1) y (by simpa using hy)
theorem cW:∀ {rs:List ResultVar} {fr:Fr} {H:AH} {vs:List Value},vL E fr H rs=some vs->vs.length=rs.length
 | [],_,_,_,h=>by simp only [vL,oI] at h; subst h; rfl
 | .tmp t::rs,fr,H,vs,h=>by
  simp only [vL] at h
  split at h
  ·simp only [Option.map_eq_some_iff] at h
   obtain ⟨l,hl,rfl⟩:=h
   simp [cW hl]
  cases h
 | .cell a t::rs,fr,H,vs,h=>by
  simp only [vL] at h
  split at h
  ·simp only [Option.map_eq_some_iff] at h
   obtain ⟨l,hl,rfl⟩:=h
   simp [cW hl]
  cases h
theorem SM.raise {L:Lim} {S:St} {ρ:List D} {ve:Nat->Value} {lb:Nat->Nat} {g:zG} {H:AH} (h:SM L S ρ ve lb g H):SM L S ρ ve lb g { H with next:=H.next+1 } :=
 { h with wf:=fun b k hb=>⟨(h.wf b k hb).1,Nat.lt_succ_of_lt (h.wf b k hb).2⟩,base:=h.base.mono (Nat.le_succ _) }
theorem SM.relb {L:Lim} {S:St} {ρ:List D} {ve:Nat->Value} {lb lb2:Nat->Nat} {g:zG} {H:AH} (h:SM L S ρ ve lb g H) (e:∀ b,b < S.blks.length->lb2 b=lb b):SM { L with F:=[] } S ρ ve lb2 g H:=by
 have el:∀ {b},S.live b->lb2 b=lb b:=fun hb=>e _ (qAK hb)
 refine { len:=h.len,wf:=h.wf,mem:=h.mem,base:=h.base,fix:=⟨Nat.zero_le _,fun k a hk=>by simp at hk⟩,vars:=?_,blks:=?_,sepLG:=fun b hb=>by rw [el hb]; exact h.sepLG b hb,sepFG:=h.sepFG,sepL:=fun a b ha hb=>by rw [el ha,el hb]; exact h.sepL a b ha hb,sepF:=h.sepF,sepX:=fun b i hb=>by rw [el hb]; exact h.sepX b i hb }
 ·intro i s hs
  have:=h.vars i s hs
  obtain ⟨k,oo⟩:=s
  refine ⟨this.1,?_⟩
  have h2:=this.2
  cases k <;> try exact h2
  rcases h2 with q | ⟨B,l,cs,vs,el,rt,sz,es,q⟩ | ⟨B,es,ck,rt,ks,dd,q⟩
  ·exact .inl q
  ·exact .inr (.inl ⟨B,l,cs,vs,el,rt,sz,es,{ q with rt:=q.rt }⟩)
  exact .inr (.inr ⟨B,es,ck,rt,ks,dd,{ q with rt:=q.rt }⟩)
 intro b x hx
 obtain ⟨q1,q2⟩:=h.blks b x hx
 have hb:lb2 b=lb b:=el ⟨x,hx⟩
 refine ⟨q1,?_⟩
 have:pX L (getD ρ) ve lb2 H.blocks.get (lb2 b) x:=q2.congr (by rw [hb]) hb fun _ q4=>q4.congr (fun _ _=>rfl) e (fun _ _=>rfl) q1
 cases x <;> exact this
def qMV (m:Mode) (nres:Nat):Bool:=Nat.beq m.out.blks.length m.inp.blks.length && eD 0 m.out.slots && Nat.beq m.out.slots.length nres
theorem eG (he:EOk E) {f:FuncId} {fn:Func} {c:Code} (hf:E.funcs.get f=some fn) (hb:fn.body=some c) {pats:Nat->Pat} {Ts:Nat->Tree} {m:Mode} {ds:List D} {d:D}
  (hm:qMV m fn.results.toList.length=true) (hP:∀ k,m.inp.blks.length<=(pats k).blks.length)
  (h0:qDd E (fun k S=>xK (Nat.max fn.ntmps m.n) (pats k) k S) fn m=Ts 0)
  (hT:∀ x∈jU E (fun k=>(pats k).st (Nat.max fn.ntmps m.n)) (fun k S=>xK (Nat.max fn.ntmps m.n) (pats k) k S) 1 c (qEG E m fn.results.toList),Ts x.1=x.2)
  (hgo:qK E (qB E) Ts 0 ds d) (hd:∃ ds',d=kK ds'/\ds'.length=m.out.sts.length):qB E (Nat.add nK f) (.mode m::ds) d:=by
 refine .inr ⟨f,m,ds,rfl,rfl,⟨fn,hf⟩,?_⟩
 obtain ⟨dsf,hdf,hdl⟩:=hd
 refine ⟨dsf,hdf,hdl,fun L H g ve lb args hsr hlen hLF=>?_⟩
 simp only [qMV,aE] at hm
 obtain ⟨⟨m1,m2⟩,m3⟩:=hm
 have m1:=jF m1
 have m3:=jF m3
 have hFl:L.F.length=m.inp.blks.length:=by rw [hLF]; simp
 obtain ⟨n,hgo⟩:=hgo
 cases n with
 | zero=>cases hgo
 | succ n =>
  have hgo':wp E (qB E) (fun r=>match r with | .ret d'=>d'=d | .jump k' ds=>qT4 E (qB E) Ts n k' ds d) (Ts 0) ds:=hgo
  rw [← h0] at hgo'
  simp only [qDd,hb] at hgo'
  have hs:SR E L H g (m.inp.st (Nat.max fn.ntmps m.n)) ds ve lb g ⟨Nat.max fn.ntmps m.n,false,T.ofList .leaf 0 args⟩ H:={ hsr with sz:=rfl,rd:=hsr.rd,slots:=hsr.slots }
  have hlk:∀ Q:Res1->Prop,(∀ d',Q (.ret d')->d'=d)->qGU E L H g Q (qEG E m fn.results.toList) (qUZ E L H g m fn.results.toList d):=fun Q hQ=>qQq hQ (by rw [hFl,m1]; exact lR _)
  have hj:=qBH (n0:=L) (H0:=H) (g0:=g) (c0:=c) (κ0:=qEG E m fn.results.toList) (K0:=qUZ E L H g m fn.results.toList d) he rfl hT hlk (fun k=>by rw [hFl]; exact hP k) n
  obtain ⟨e,fr1,H1,hx,he',vs,ve',lb',g',ds',hv,hdd,hdl',hsm,hsl,hk,hgk,hlow⟩:=cQ he hj c 1 _ _ .root (hlk _ fun d' hd'=>hd') _ _ _ _ _ _ _ hs hgo'
  have hdd2:dsf=ds':=qFn (hdf.symm.trans hdd) (by rw [hdl,hdl'])
  subst hdd2
  have hlb:∀ b,b < (m.out.st 0).blks.length->lb b=lb' b:=by
   intro b hb
   have hb:b < m.inp.blks.length:=by rw [← m1]; exact hb
   refine (hsm.fix.2 b (lb b) ?_).symm
   rw [hLF,List.getElem?_map,List.getElem?_range hb]; rfl
  have hvals:vs=SV.vals ve' lb (m.out.slots.map Prod.snd):=by
   refine qIt _ _ (by rw [cW hv,List.length_map,m3]) fun i x hx=>?_
   have hg:=qKJ m.out.slots 0 .leaf m2 i x hx
   rw [Nat.zero_add] at hg
   obtain ⟨q1,q2⟩:=hsl i x hg
   rw [q2,SV.val_congr (fun _ _=>rfl) hlb q1]
  rw [← hlen] at hx
  have hcall:xB E f args H (qO2 m ve' lb) H1:=by
   refine vF.call he hf hb hx he' ?_
   rw [hv,hvals]
   unfold qO2
   generalize m.out.slots=sl
   match sl with
   | []=>rfl
   | [(_,_)]=>rfl
   | _::_::_=>rfl
  refine ⟨_,{ H1 with next:=H1.next+1 },g',ve',hcall.raise,Nat.lt_succ_of_le hx.1,(hsm.relb hlb).raise,hk,hgk,hlow,rfl⟩
end
end Go.Am
