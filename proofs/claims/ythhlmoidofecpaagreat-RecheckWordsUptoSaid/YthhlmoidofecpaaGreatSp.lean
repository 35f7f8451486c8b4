/- The library's words on rows of cells, in the abstract heap's words. Conditions: none. -/
import Derived.Test.YthhlmoidofecpaaGreatUn
import Derived.Test.YthhlmoidofecpaaGreatAm6
import Derived.Sort.Row
import Derived.Sort.Grow
import Derived.Deep.Draws
import Derived.Shelf.SlSortCmp.InsertionK
set_option linter.unusedVariables false
set_option linter.unusedSimpArgs false
set_option linter.unusedSectionVars false
namespace Go.Am
open Go
section
variable {E:Env} {σ:zY} {H:AH} {w:World} {b rt el:Nat} {cs:List Value} {L:Loc} {F:Array Value}
theorem qMc {v v':Value} (h:VR σ v v') (hl:xN v=true):v'=v:=by
 cases h <;> first | rfl | simp [xN] at hl
theorem qB4 (hr:HR E σ H w) (hb:H.blocks.get b=some ⟨.cells cs el,rt,true⟩) (hs:σ b=some L):∃ ccs cel fz,w.heap[L.blk]? = some (.cells ccs cel fz)/\qQt L el cel ccs.size fz/\L.off+L.ext<=ccs.size/\cs.length<=L.ext /\
  (∀ ti,E.types.get el=some ti->L.sz=ti.size)/\∀ i v,cs[i]? = some v->qN v=true/\∃ v',ccs[L.off+i]? = some v'/\VR σ v v':=by
 obtain ⟨o,h1,h2⟩:=hr.objs b _ L hb hs
 cases o with
 | cells ccs cel fz =>
  simp only [kV] at h2
  exact ⟨ccs,cel,fz,h1,h2.1 trivial,h2.2.1,h2.2.2.1,h2.2.2.2.1,h2.2.2.2.2⟩
 | _=>simp only [kV] at h2
theorem qPj (ht:take? cs F.size=some F.toList) {j:Nat} (hj:j < F.size):cs[j]? = some F[j]! := by
 obtain ⟨t1,t2⟩:=kP ht
 have h1:F.toList[j]? = some F[j]! := by rw [Array.getElem?_toList,getElem!_pos F j hj,Array.getElem?_eq_getElem hj]
 rw [t1,List.getElem?_take,if_pos hj] at h1
 exact h1
theorem qCr (hr:HR E σ H w) (hb:H.blocks.get b=some ⟨.cells cs el,rt,true⟩) (hs:σ b=some L) (ht:take? cs F.size=some F.toList) (hf:∀ v∈F.toList,xN v=true):Sort.Holds id w L.blk L.off F:=by
 obtain ⟨ccs,cel,fz,h1,h2,h3,h4,h5,h6⟩:=qB4 hr hb hs
 intro j hj
 obtain ⟨_,v',e1,e2⟩:=h6 j _ (qPj ht hj)
 have hv:=qMc e2 (hf _ (by rw [getElem!_pos F j hj]; exact Array.getElem_mem_toList hj))
 subst hv
 refine ⟨by simp only [World.cell?,h1]; exact e1,?_⟩
 have hlt:L.off+j < ccs.size:=(Array.getElem?_eq_some_iff.1 e1).1
 simp only [World.frozen?,h1]
 rcases h2.1 with hz | hz
 ·rw [hz]; simp
 have:¬ fz.1<=L.off+j:=by omega
 simp [this]
theorem qIY (hr:HR E σ H w) (hb:H.blocks.get b=some ⟨.cells cs el,rt,true⟩) (hs:σ b=some L) {F':Array Value} (ht:F'.size<=cs.length) (hf:∀ v∈F'.toList,xN v=true/\qN v=true) (m:Nat) (os:Array Obj) :
  Step E σ H w σ (H.write b ⟨.cells cs el,rt,true⟩ (.cells (F'.toList++cs.drop F'.size) el)) (Sort.grow (Sort.putRow id (Sort.ahead w m) L.blk L.off F') os):=by
 obtain ⟨ccs,cel,fz,h1,h2,h3,h4,h5,h6⟩:=qB4 hr hb hs
 have hps:(Sort.putCells id L.off F' ccs).size=ccs.size:=by simp [Sort.putCells]
 have hset:WSet w (Sort.putRow id (Sort.ahead w m) L.blk L.off F') L.blk (.cells (Sort.putCells id L.off F' ccs) cel fz):=by
  refine ⟨by rw [Sort.size_putRow]; rfl,?_,?_,rfl,rfl,rfl,Nat.le_add_right _ _⟩
  ·show ((Sort.ahead w m).heap.modify L.blk (Sort.onCells _))[L.blk]? = _
   have h1':(Sort.ahead w m).heap[L.blk]? = some (.cells ccs cel fz):=h1
   rw [Array.getElem?_modify,if_pos rfl,h1']
   rfl
  intro B hB
  show ((Sort.ahead w m).heap.modify L.blk (Sort.onCells _))[B]? = _
  rw [Array.getElem?_modify,if_neg (fun e=>hB e.symm)]
  rfl
 have hobj:kV E σ L true (.cells (F'.toList++cs.drop F'.size) el) (.cells (Sort.putCells id L.off F' ccs) cel fz):=by
  simp only [kV]
  refine ⟨fun _=>by rw [hps]; exact h2,by rw [hps]; exact h3,?_,h5,?_⟩
  ·rw [List.length_append,List.length_drop,Array.length_toList]; omega
  intro i v hi
  by_cases hlt:i < F'.size
  ·rw [List.getElem?_append_left (by rw [Array.length_toList]; exact hlt)] at hi
   have hm:=List.mem_of_getElem? hi
   refine ⟨(hf v hm).2,v,?_,.leaf (by have:=(hf v hm).1; cases v <;> simp_all [xN,zW])⟩
   have hb':L.off+i < ccs.size:=by omega
   rw [Array.getElem?_toList] at hi
   simp only [Sort.putCells,Array.getElem?_mapIdx,Array.getElem?_eq_getElem hb',Option.map_some]
   rw [if_pos ⟨Nat.le_add_right _ _,by omega⟩,Nat.add_sub_cancel_left,getElem!_pos F' i hlt]
   rw [Array.getElem?_eq_getElem hlt] at hi
   exact hi
  rw [List.getElem?_append_right (by rw [Array.length_toList]; omega),Array.length_toList,List.getElem?_drop,show F'.size+(i - F'.size)=i by omega] at hi
  obtain ⟨q1,v',q2,q3⟩:=h6 i v hi
  refine ⟨q1,v',?_,q3⟩
  simp only [Sort.putCells,Array.getElem?_mapIdx,q2,Option.map_some]
  rw [if_neg (by omega)]
 have s1:=Step.write hr hb rfl hs hset hobj
 refine s1.trans (Step.kept s1.hr ⟨?_,?_,rfl,rfl,rfl,lR _⟩)
 ·simp [Sort.grow]
 intro B hB
 show ((Sort.putRow id (Sort.ahead w m) L.blk L.off F').heap++os)[B]? = _
 rw [Array.getElem?_append_left hB]
theorem qFq {f:FuncId} {ds:List D} {v:Value} (h:Holds E f ds (.leaf v)) {azq:List Value} (hd:∀ g,DRs g ds azq) (hv:∀ σ,VRs σ azq azq) (hl:zW v=true) (W:World) :
  Calls E.prog f ⟨azq⟩ W fun e w'=>e=.returned v/\Kept W w':=by
 have h:qCR E f ds (.leaf v):=by
  rcases h with ⟨_,h⟩ | ⟨_,_,_,_,rfl,_⟩
  ·exact h
  cases hd (fun _=>none) with
  | cons h1 _=>cases h1
 let m:=E.prog.globals.size
 let σ:zY:=fun b=>if b < m then some ⟨b,0,0,0⟩ else none
 have h0:HR E σ (kL m) W:=⟨fun b k L hb=>by simp [kL,T.get] at hb,fun b₁ b₂ k₁ k₂ L₁ L₂ hb=>by simp [kL,T.get] at hb,
  fun g hg=>⟨⟨g,0,0,0⟩,if_pos hg,rfl,rfl⟩,fun b k hb=>by simp [kL,T.get] at hb⟩
 obtain ⟨v',H',g',h1,h2,h3,h4,h5,h6,h7,h8,h9⟩:=h.2 (kL m) (kL m).blocks.get azq (fun b k hb=>h0.wf b k hb) (zF.le_refl _) (hd _)
 have hfree:xM σ (kL m).next H'.next:=fun b hb _=>by
  have:m<=b:=hb
  simp only [σ]; rw [if_neg (by omega)]
 refine (h1 σ W azq h0 (hv σ) hfree).mono fun e w' ⟨σ',u,e1,e2,st⟩=>?_
 have hvv:v'=v:=h9.leaf_inv.1
 subst hvv
 have hu:u=v':=by cases e2 <;> first | rfl | simp [zW] at hl
 subst hu
 exact ⟨e1,st.size,fun B hB=>st.frame B hB (fun b k l hb ho=>by simp [kL,T.get] at hb),st.tape,st.os,st.output⟩
theorem qHJ {W w':World} (k:Kept W w'):∃ q os,w'=Sort.grow (W.drewN q) os:=by
 refine ⟨w'.drawn - W.drawn,w'.heap.extract W.heap.size w'.heap.size,?_⟩
 obtain ⟨h1,h2,h3,h4,h5,h6⟩:=k
 cases w' with
 | mk heap tape drawn os output =>
  simp only [Sort.grow,World.drewN] at *
  subst h3 h4 h5
  congr 1
  ·apply Array.ext_getElem?
   intro i
   by_cases hi:i < W.heap.size
   ·rw [Array.getElem?_append_left hi]; exact h2 i hi
   rw [Array.getElem?_append_right (by omega),Array.getElem?_extract]
   by_cases hj:i < heap.size
   ·rw [if_pos (by omega),show W.heap.size+(i - W.heap.size)=i by omega]
   rw [if_neg (by omega),Array.getElem?_eq_none (by omega)]
  omega
end
end Go.Am
namespace Go.Am
open Go Go.Proofs
structure RowOK {α:Type} (k:Nat) (enc:α->List Value) (toD:α->D) (frD:D->α) (P:D->Bool):Prop where
 to:∀ e,P e=true->e=toD (frD e)
 ok:∀ a,P (toD a)=true
 fr:∀ a,frD (toD a)=a
 cells:∀ a,(toD a).cells=(enc a).map D.leaf
 len:∀ a,(enc a).length=k
 leaf:∀ a,∀ v∈enc a,xN v=true/\qN v=true
section
variable {α:Type} [Inhabited α] {k:Nat} {enc:α->List Value} {toD:α->D} {frD:D->α} {P:D->Bool}
def eS (enc:α->List Value) (l:List α):List Value:=l.flatMap enc
theorem m7 (h:∀ a,(enc a).length=k):∀ l:List α,(eS enc l).length=l.length * k
 | []=>by simp [eS]
 | p::r=>by
  have:=m7 h r
  show (enc p++eS enc r).length=_
  rw [List.length_append,this,h,List.length_cons,Nat.succ_mul,Nat.add_comm]
theorem qEo (h:∀ a,(enc a).length=k):∀ (l:List α) (t:Nat),t < l.length * k->(eS enc l)[t]? = some ((enc (l[t / k]!))[t % k]!)
 | [],t,ht=>by simp at ht
 | p::r,t,ht=>by
  show (enc p++eS enc r)[t]? = _
  by_cases hk:t < k
  ·rw [List.getElem?_append_left (by rw [h]; exact hk),Nat.div_eq_of_lt hk,Nat.mod_eq_of_lt hk]
   show (enc p)[t]? = some ((enc p)[t]!)
   have hl:t < (enc p).length:=by rw [h]; exact hk
   rw [getElem!_pos (enc p) t hl,List.getElem?_eq_getElem hl]
  have hk0:0 < k:=by
   rcases Nat.eq_zero_or_pos k with e | e
   ·rw [e,Nat.mul_zero] at ht; omega
   exact e
  obtain ⟨s,rfl⟩:∃ s,t=s+k:=⟨t - k,by omega⟩
  rw [List.length_cons,Nat.succ_mul] at ht
  rw [List.getElem?_append_right (by rw [h]; omega),h,Nat.add_sub_cancel,qEo h r s (by omega),Nat.add_div_right s hk0,Nat.add_mod_right]
  rfl
theorem lQ (h:∀ a,(enc a).length=k) (l:List α):(Go.Sort.flatK enc k l.toArray).toList=eS enc l:=by
 apply List.ext_getElem?
 intro t
 rw [Array.getElem?_toList]
 by_cases ht:t < l.length * k
 ·rw [qEo h l t ht]
  have h':t < (Go.Sort.flatK enc k l.toArray).size:=by rw [Go.Sort.size_flatK]; simpa using ht
  rw [Array.getElem?_eq_getElem h',← getElem!_pos _ t h',Go.Sort.get_flatK _ _ _ _ (by simpa using ht)]
  simp
 rw [Array.getElem?_eq_none (by rw [Go.Sort.size_flatK]; simpa using ht),List.getElem?_eq_none (by rw [m7 h]; omega)]
theorem cD (l:List α):(Go.Sort.flatK enc k l.toArray).size=l.length * k:=by rw [Go.Sort.size_flatK]; simp
variable (R:RowOK k enc toD frD P)
include R
theorem qBO {l:List α}:∀ v∈eS enc l,xN v=true/\qN v=true:=by
 intro v hv
 obtain ⟨p,_,hp⟩:=List.mem_flatMap.1 hv
 exact R.leaf p v hp
theorem RowOK.flat {e:D} (h:P e=true):qBR k e:=⟨enc (frD e),by rw [← R.cells,← R.to e h],R.len _,R.leaf _⟩
theorem RowOK.lv1 (a:α):qLe (toD a)=enc a:=by unfold qLe; rw [R.cells,qFg]
theorem RowOK.lvs_p:∀ l:List α,qHD (l.map toD)=eS enc l
 | []=>rfl
 | p::r=>by
  show qLe (toD p)++qHD (r.map toD)=enc p++eS enc r
  rw [RowOK.lvs_p r,R.lv1]
theorem RowOK.map_p:∀ {es:List D},(∀ e∈es,P e=true)->es=(es.map frD).map toD
 | [],_=>rfl
 | e::r,h=>by
  rw [List.map_cons,List.map_cons,← RowOK.map_p fun x hx=>h x (mC _ hx),← R.to e (h e List.mem_cons_self)]
theorem RowOK.lvs_es {es:List D} (h:∀ e∈es,P e=true):qHD es=eS enc (es.map frD):=by
 have:=R.map_p h
 conv=>lhs; rw [this]
 exact R.lvs_p _
theorem RowOK.back (l:List α):(l.map toD).map frD=l:=by
 induction l with
 | nil=>rfl
 | cons a l ih=>rw [List.map_cons,List.map_cons,ih,R.fr]
omit R
def qK9 (toD:α->D) (frD:D->α) (G:Array α->Array α) (es:List D):List D:=((G (es.map frD).toArray).toList).map toD
section
variable {E:Env} {σ:zY}
def qMy:Option FuncId->List Value
 | none=>[]
 | some g=>[.func (.func g) #[] #[]]
theorem qM8 {ex:Option FuncId} {r:List Value} (h:VRs σ (qMy ex) r):r=qMy ex:=by
 cases ex with
 | none=>cases h; rfl
 | some g =>
  cases h with
  | cons h hs =>
   cases hs
   cases h with
   | leaf h=>simp [zW] at h
   | func h hf hc=>cases hf; cases hc; rfl
theorem qON {B n:Nat} {v:Value} (h:VR σ (.slice (some ⟨B,0,none⟩) n zG) v) (hn:0 < n):∃ (L:Go.Am.Loc) (c:Nat),σ B=some L/\v=.slice (some ⟨L.blk,L.off+0,none⟩) n c:=by
 cases h with
 | leaf h=>simp [zW] at h
 | sliceE h1 _ h3=>exact (Nat.lt_irrefl zG h3).elim
 | sliceX h1 _ _ _=>exact ⟨_,_,h1,rfl⟩
 | sliceZ h1=>exact (Nat.lt_irrefl 0 hn).elim
theorem qFh (R : RowOK k enc toD frD P) {f : FuncId} {ex : Option FuncId} {el mx : Nat} {G : Array α -> Array α} (hf : ∃ fn, E.funcs.get f = some fn) (hG : ∀ d, (G d).size = d.size) (hmx : mx < 4611686018427387904) (hk : 0 < k)
    (hz : ∀ (p : Option Addr) (cap : Nat) (w : World), Calls E.prog f ⟨.slice p 0 cap :: qMy ex⟩ w fun e w' => e = .returned (.tuple #[]) /\ w' = w)
    (hrow : ∀ (blk off cap : Nat) (d : Array α) (w : World), Go.Sort.Holds id w blk off (Go.Sort.flatK enc k d) -> blk < w.heap.size -> d.size <= mx ->
      Calls E.prog f ⟨.slice (some ⟨blk, off, none⟩) d.size cap :: qMy ex⟩ w fun e w' => e = .returned (.tuple #[]) /\ ∃ n os, w' = Go.Proofs.sortWorldK enc k w blk off n (G d) os) :
    LstOK E ⟨f, ex, false, iV mx el k P (qK9 toD frD G)⟩ el k P (qK9 toD frD G) mx := by
  have hxv : (⟨f, ex, false, iV mx el k P (qK9 toD frD G)⟩ : Lst).xv = qMy ex := by cases ex <;> rfl
  have z : ∀ {H : AH} {a : Option Addr} {c : Nat}, jL E f (.slice a 0 c :: qMy ex) H (.tuple #[]) H := by
    intro H a c σ w args' hr hv _
    cases hv with
    | cons h hs =>
      obtain rfl := qM8 hs
      have key : ∀ p cap, Calls E.prog f ⟨.slice p 0 cap :: qMy ex⟩ w fun e w' => ∃ σ' v', e = .returned v' /\ VR σ' (.tuple #[]) v' /\ Step E σ H w σ' H w' := fun p cap =>
        (hz p cap w).mono fun e w' ⟨h1, h2⟩ => ⟨σ, _, h1, .tuple .nil, by rw [h2]; exact Step.refl hr⟩
      cases h <;> exact key _ _
  have s : ∀ {H : AH} {B rt : Nat} {cs : List Value} {l : List α}, H.blocks.get B = some ⟨.cells cs el, rt, true⟩ -> take? cs (l.length * k) = some (eS enc l) -> l ≠ [] -> l.length <= mx ->
      jL E f (.slice (some ⟨B, 0, none⟩) l.length zG :: qMy ex) H (.tuple #[]) (H.write B ⟨.cells cs el, rt, true⟩ (.cells (eS enc (G l.toArray).toList ++ cs.drop (l.length * k)) el)) := by
    intro H B rt cs l hb ht h0 hc σ w args' hr hv _
    have hpos : 0 < l.length := List.length_pos_iff.2 h0
    cases hv with
    | cons h hs =>
      obtain rfl := qM8 hs
      have main : ∀ (L : Go.Am.Loc) (c : Nat), σ B = some L -> Calls E.prog f ⟨.slice (some ⟨L.blk, L.off + 0, none⟩) l.length c :: qMy ex⟩ w fun e w' => ∃ σ' v', e = .returned v' /\ VR σ' (.tuple #[]) v' /\ Step E σ H w σ' (H.write B ⟨.cells cs el, rt, true⟩ (.cells (eS enc (G l.toArray).toList ++ cs.drop (l.length * k)) el)) w' := by
        intro L c hL
        have hrow' : Go.Sort.Holds id w L.blk L.off (Go.Sort.flatK enc k l.toArray) := qCr hr hb hL (by rw [cD, lQ R.len]; exact ht) (by rw [lQ R.len]; exact fun v hv => (qBO R v hv).1)
        obtain ⟨_, _, _, hw, _⟩ := qB4 hr hb hL
        have hblk : L.blk < w.heap.size := (Array.getElem?_eq_some_iff.1 hw).1
        have hcon := hrow L.blk L.off c l.toArray w hrow' hblk (by simpa using hc)
        refine Go.Calls.mono (P := E.prog) (f := f) hcon fun e w' ⟨h1, n, os, h2⟩ => ⟨σ, _, h1, .tuple .nil, ?_⟩
        have hsz : (G l.toArray).toList.length = l.length := by rw [Array.length_toList, hG]; simp
        have hst := qIY hr hb hL (F' := Go.Sort.flatK enc k (G l.toArray).toList.toArray) (by rw [cD, hsz]; exact (kP ht).2) (by rw [lQ R.len]; exact qBO R) n os
        rw [lQ R.len, cD, hsz] at hst
        rw [h2]
        exact hst
      obtain ⟨L, c, h1, rfl⟩ := qON h hpos
      exact main L c h1
  have hFl : ∀ es : List D, (qK9 toD frD G es).length = es.length := fun es => by unfold qK9; rw [List.length_map, Array.length_toList, hG]; simp
  exact
  { ff := hf
    G := rfl
    flat := fun e h => R.flat h
    mem := fun es _ e he => by obtain ⟨p, _, rfl⟩ := List.mem_map.1 he; exact R.ok p
    len := fun es _ => ⟨Nat.le_of_eq (hFl es), fun _ => hFl es⟩
    no := by
      rw [hxv]
      rintro H v (rfl | ⟨a, rfl⟩)
      · exact z
      · exact z
    ok := by
      rw [hxv]
      intro H B rt cs es hb ht hP hx
      have hl := R.lvs_es hP
      have hlen : es.length = (es.map frD).length := by rw [List.length_map]
      have hF : qHD (qK9 toD frD G es) = eS enc (G (es.map frD).toArray).toList := R.lvs_p _
      have hgl : (G (es.map frD).toArray).toList.length = (es.map frD).length := by rw [Array.length_toList, hG]; simp
      rw [hl, hlen] at ht
      rw [hF, hFl, hlen]
      rw [hlen] at hx
      generalize es.map frD = l at ht hx hgl
      by_cases h0 : l = []
      · subst h0
        refine ⟨cs, H, z, ?_, hb, fun _ _ => rfl, rfl, lT (Nat.min_le_left _ _) (Nat.min_le_left _ _)⟩
        have e : (G ([] : List α).toArray).toList = [] := List.length_eq_zero_iff.1 hgl
        rw [e]; exact ht
      · refine ⟨_, _, s hb ht h0 hx, ?_, by rw [AH.get_write, if_pos rfl], fun b hb' => by rw [AH.get_write, if_neg hb'], rfl, ?_⟩
        · rw [yG (by rw [List.length_append, m7 R.len, hgl]; omega), List.take_append_of_le_length (by rw [m7 R.len, hgl]; omega), ← hgl, ← m7 R.len, List.take_length]
        · exact Nat.le_min.2 ⟨lT (Nat.min_le_left _ _) (Nat.min_le_left _ _), Nat.min_le_right _ _⟩ }
end
end
end Go.Am
