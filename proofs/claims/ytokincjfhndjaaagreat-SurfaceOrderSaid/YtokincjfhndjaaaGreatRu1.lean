/- Runs of small functions of the program, as contracts. Conditions: none. -/
import Derived.Test.YtokincjfhndjaaaGreatChecked
import Derived.Test.YtokincjfhndjaaaGreatAm7
import Derived.KernelRfl
namespace Go.Proofs.YtokincjfhndjaaaGreat
open Go Go.Am Go.Proofs

noncomputable def EE : Env := envOf Tryz.prog
theorem gs : Nat.ble Tryz.prog.globals.size 1000 = true := by kernel_rfl
theorem hm : EE.prog.globals.size ≤ 1000 := Nat.le_of_ble_eq_true gs

def outV (E : Env) (rs : List ResultVar) (r : Fol (Out × AH)) : Option (Value × List Prop) := match r with
  | some ((.ex .normal fr', H'), _, P) => (match resultA E fr' H' rs with
    | some [v] => some (v, P)
    | _ => none)
  | some ((.ex .ret fr', H'), _, P) => (match resultA E fr' H' rs with
    | some [v] => some (v, P)
    | _ => none)
  | _ => none

theorem follow_call {E : Env} {con : Con} {n : Nat} {f : FuncId} {args : List Value} {H : AH} {fn : Func} {c : Code} {tp : TapeA} {v : Value} {P : List Prop} (hcon : con f args H = none) (hf : E.funcs.get f = some fn) (hb : fn.body = some c)
    (h : outV E fn.results.toList (followA E con n c ⟨Nat.max fn.ntmps args.length, false, T.ofList .leaf 0 args⟩ H tp) = some (v, P)) (hP : allP P) :
    ∃ H', runC E con (n + 1) (.call f args) H = some (.val v, H') := by
  unfold outV at h
  split at h
  · rename_i fr' H' tp' P' hr
    split at h
    · rename_i v' hv
      cases h
      exact ⟨H', runC_call hcon hf hb (followA_ok hr hP) (.inl rfl) hv⟩
    · cases h
  · rename_i fr' H' tp' P' hr
    split at h
    · rename_i v' hv
      cases h
      exact ⟨H', runC_call hcon hf hb (followA_ok hr hP) (.inr rfl) hv⟩
    · cases h
  · cases h

theorem flat_calls {E : Env} (he : EOk E) {con : Con} (hc : ConOK E con) {m : Nat} (hm : E.prog.globals.size ≤ m) {n : Nat} {f : FuncId} {args : List Value} {v : Value}
    (hrun : ∃ H', runC E con n (.call f args) (inH m []) = some (.val v, H')) (hl : leafV v = true) (hfl : args.all flatV = true) (σ : Sig) (w : World) (args' : List Value) (hv : VRs σ args args') :
    Calls E.prog f ⟨args'⟩ w fun e w' => e = .returned v ∧ Kept w w' := by
  obtain ⟨H', hrun⟩ := hrun
  rw [flats_run hfl hv]
  refine in_calls he hc hm (bl := []) (ls := []) (Nat.le_refl _) (fun i p L h => by simp at h) hrun hl ?_
  have : ∀ l : List Value, l.all flatV = true → VRs (inS E.prog m []) l l := by
    intro l
    induction l with
    | nil => intro _; exact .nil
    | cons x l ih =>
      intro h
      simp only [List.all_cons, Bool.and_eq_true] at h
      exact .cons (flat_refl _ _ h.1) (ih h.2)
  exact this _ hfl

def bodyOf (fn : Func) : Code := fn.body.getD .skip

abbrev i64 (a : Int) : Value := .int .i64 a

theorem lss_ok (x y : Operand) (a b : Int) : binA EE .lss 3 x y (i64 a) (i64 b) = some (.bool (decide (a < b))) := by kernel_rfl
theorem gtr_ok (x y : Operand) (a b : Int) : binA EE .gtr 3 x y (i64 a) (i64 b) = some (.bool (decide (a > b))) := by kernel_rfl
theorem geq_ok (x y : Operand) (a b : Int) : binA EE .geq 3 x y (i64 a) (i64 b) = some (.bool (decide (a ≥ b))) := by kernel_rfl
theorem leq_ok (x y : Operand) (a b : Int) : binA EE .leq 3 x y (i64 a) (i64 b) = some (.bool (decide (a ≤ b))) := by kernel_rfl
end Go.Proofs.YtokincjfhndjaaaGreat
/- Runs of cmp.isNaN and cmp.Compare, as contracts. Conditions: none. -/
namespace Go.Proofs.YtokincjfhndjaaaGreat
open Go Go.Am Go.Proofs

theorem good : envGood Tryz.prog = true := by kernel_rfl
theorem he : EOk EE := env_ok good

theorem neq_const (x y : Operand) (a b : Int) : binA EE .neq 3 (.tmp 3) (.tmp 4) (i64 a) (i64 b) = some (.bool (!decide (a = b))) := by kernel_rfl

def g42 (args : List Value) (_ : AH) : Option Value := match args with
  | [.int .i64 _] => some (.bool false)
  | _ => none

theorem fn42 : EE.funcs.get 42 = some Tryz.f42 := envFunc (c := bodyOf Tryz.f42) Tryz.func42 rfl (by kernel_rfl)
theorem run42 (a : Int) : ∃ H', runC EE con0 30 (.call 42 [i64 a]) (inH 1000 []) = some (.val (.bool false), H') :=
  follow_call (n := 29) (tp := [.val 5 (.bool false)]) (P := [binA EE .neq 3 (.tmp 3) (.tmp 4) (i64 a) (i64 a) = some (.bool false)]) rfl fn42 (c := bodyOf Tryz.f42) rfl (by kernel_rfl)
    ⟨by rw [neq_const (.tmp 3) (.tmp 4)]; simp, trivial⟩

noncomputable def c42 : Con := conF 42 g42 con0
theorem c42_ok : ConOK EE c42 := conF_ok con0_ok fun args H v h => by
  unfold g42 at h
  split at h
  · cases h
    exact ⟨rfl, fun σ w args' _ hv => flat_calls he con0_ok hm (run42 _) rfl rfl σ w args' hv⟩
  · cases h

def cmpI (a b : Int) : Int := if a < b then -1 else if a > b then 1 else 0

def g30 (args : List Value) (_ : AH) : Option Value := match args with
  | [.int .i64 a, .int .i64 b] => some (i64 (cmpI a b))
  | _ => none

theorem fn30 : EE.funcs.get 30 = some Tryz.f30 := envFunc (c := bodyOf Tryz.f30) Tryz.func30 rfl (by kernel_rfl)
theorem run30 (a b : Int) : ∃ H', runC EE c42 40 (.call 30 [i64 a, i64 b]) (inH 1000 []) = some (.val (i64 (cmpI a b)), H') := by
  unfold cmpI
  by_cases h1 : a < b
  · rw [if_pos h1]
    exact follow_call (n := 39) (tp := [.val 16 (.bool true)]) (P := [binA EE .lss 3 (.tmp 14) (.tmp 15) (i64 a) (i64 b) = some (.bool true)]) rfl fn30 (c := bodyOf Tryz.f30) rfl (by kernel_rfl)
      ⟨by rw [lss_ok]; simp [h1], trivial⟩
  · rw [if_neg h1]
    by_cases h2 : a > b
    · rw [if_pos h2]
      exact follow_call (n := 39) (tp := [.val 16 (.bool false), .val 19 (.bool true)]) (P := [binA EE .lss 3 (.tmp 14) (.tmp 15) (i64 a) (i64 b) = some (.bool false), binA EE .gtr 3 (.tmp 17) (.tmp 18) (i64 a) (i64 b) = some (.bool true)]) rfl fn30 (c := bodyOf Tryz.f30) rfl (by kernel_rfl)
        ⟨by rw [lss_ok]; simp [h1], by rw [gtr_ok]; simp [h2], trivial⟩
    · rw [if_neg h2]
      exact follow_call (n := 39) (tp := [.val 16 (.bool false), .val 19 (.bool false)]) (P := [binA EE .lss 3 (.tmp 14) (.tmp 15) (i64 a) (i64 b) = some (.bool false), binA EE .gtr 3 (.tmp 17) (.tmp 18) (i64 a) (i64 b) = some (.bool false)]) rfl fn30 (c := bodyOf Tryz.f30) rfl (by kernel_rfl)
        ⟨by rw [lss_ok]; simp [h1], by rw [gtr_ok]; simp [h2], trivial⟩

noncomputable def c30 : Con := conF 30 g30 c42
theorem c30_ok : ConOK EE c30 := conF_ok c42_ok fun args H v h => by
  unfold g30 at h
  split at h
  · cases h
    exact ⟨rfl, fun σ w args' _ hv => flat_calls he c42_ok hm (run30 _ _) rfl rfl σ w args' hv⟩
  · cases h
end Go.Proofs.YtokincjfhndjaaaGreat
/- Runs of cmp.Or, compare and before, as contracts. Conditions: none. -/
namespace Go.Proofs.YtokincjfhndjaaaGreat
open Go Go.Am Go.Proofs

theorem leaf_run {σ : Sig} {v v' : Value} (h : leafV v = true) (hv : VR σ v v') : v' = v := by
  cases hv with
  | leaf _ => rfl
  | sliceZ hc => simp [leafV] at h
  | _ => simp [leafV] at h

theorem locOK {E : Env} {σ : Sig} {H : AH} {w : World} (hr : HR E σ H w) {b : Nat} {cs : List Value} {el : TypeId} {rt : Nat} {own : Bool} {L : Am.Loc}
    (hb : H.blocks.get b = some ⟨.cells cs el, rt, own⟩) (hs : σ b = some L) (hall : cs.all (fun v => leafV v && oneCell v) = true) : LocOK E w cs el L := by
  obtain ⟨ccs, cel, fz, g1, g2, g3, g4, g5, g6⟩ := hr.cellsAt hb hs
  refine ⟨hall, ⟨ccs, cel, fz, g1, g3, fun i v hi => ?_⟩, g4, g5⟩
  obtain ⟨_, v', h1, h2⟩ := g6 i v hi
  rw [List.all_eq_true] at hall
  have := hall v (List.mem_of_getElem? hi)
  simp only [Bool.and_eq_true] at this
  rw [leaf_run this.1 h2] at h1
  exact h1

theorem inS_at {P : Program} {m : Nat} {ls : List (Option Am.Loc)} {i : Nat} {L : Am.Loc} (hm : P.globals.size ≤ m) (h : ls[i]? = some (some L)) : inS P m ls (m + i) = some L := by
  simp only [inS]
  rw [if_neg (by omega), if_pos (by omega), Nat.add_sub_cancel_left, h]
  rfl

/-- a slice with a place -/
theorem slice_at {σ : Sig} {b i l c : Nat} {v' : Value} (hl : l ≠ 0) (h : VR σ (.slice (some ⟨b, i, none⟩) l c) v') :
    ∃ L c', σ b = some L ∧ v' = .slice (some ⟨L.blk, L.off + i, none⟩) l c' ∧ l ≤ c' ∧ c' < capX := by
  cases h with
  | leaf h0 => simp [leafV] at h0
  | sliceE hs h1 h2 => exact ⟨_, _, hs, rfl, h1, h2⟩
  | sliceX hs h1 h2 _ => exact ⟨_, _, hs, rfl, h1, h2⟩
  | sliceZ hc => exact absurd rfl hl

def or3 (x y z : Int) : Int := if x = 0 then (if y = 0 then z else y) else x

def g29 (args : List Value) (H : AH) : Option Value := match args with
  | [.slice (some ⟨b, 0, none⟩) 3 _] => match H.blocks.get b with
    | some ⟨.cells [.int .i64 x, .int .i64 y, .int .i64 z] 3, _, _⟩ => some (i64 (or3 x y z))
    | _ => none
  | _ => none

theorem neq29 (a b : Int) : binA EE .neq 3 (.tmp 12) (.tmp 13) (i64 a) (i64 b) = some (.bool (!decide (a = b))) := by kernel_rfl

theorem fn29 : EE.funcs.get 29 = some Tryz.f29 := envFunc (c := bodyOf Tryz.f29) Tryz.func29 rfl (by kernel_rfl)
theorem run29 (x y z : Int) (c : Nat) : ∃ H', runC EE c30 60 (.call 29 [.slice (some ⟨1000, 0, none⟩) 3 c]) (inH 1000 [([i64 x, i64 y, i64 z], 3)]) = some (.val (i64 (or3 x y z)), H') := by
  unfold or3
  by_cases h1 : x = 0
  · rw [if_pos h1]
    by_cases h2 : y = 0
    · rw [if_pos h2]
      by_cases h3 : z = 0
      · subst h3
        exact follow_call (n := 59) (tp := [.val 14 (.bool false), .val 14 (.bool false), .val 14 (.bool false)])
          (P := [binA EE .neq 3 (.tmp 12) (.tmp 13) (i64 x) (i64 0) = some (.bool false), binA EE .neq 3 (.tmp 12) (.tmp 13) (i64 y) (i64 0) = some (.bool false), binA EE .neq 3 (.tmp 12) (.tmp 13) (i64 0) (i64 0) = some (.bool false)]) rfl fn29 (c := bodyOf Tryz.f29) rfl (by kernel_rfl)
          ⟨by rw [neq29]; simp [h1], by rw [neq29]; simp [h2], by rw [neq29]; simp, trivial⟩
      · exact follow_call (n := 59) (tp := [.val 14 (.bool false), .val 14 (.bool false), .val 14 (.bool true)])
          (P := [binA EE .neq 3 (.tmp 12) (.tmp 13) (i64 x) (i64 0) = some (.bool false), binA EE .neq 3 (.tmp 12) (.tmp 13) (i64 y) (i64 0) = some (.bool false), binA EE .neq 3 (.tmp 12) (.tmp 13) (i64 z) (i64 0) = some (.bool true)]) rfl fn29 (c := bodyOf Tryz.f29) rfl (by kernel_rfl)
          ⟨by rw [neq29]; simp [h1], by rw [neq29]; simp [h2], by rw [neq29]; simp [h3], trivial⟩
    · rw [if_neg h2]
      exact follow_call (n := 59) (tp := [.val 14 (.bool false), .val 14 (.bool true)])
          (P := [binA EE .neq 3 (.tmp 12) (.tmp 13) (i64 x) (i64 0) = some (.bool false), binA EE .neq 3 (.tmp 12) (.tmp 13) (i64 y) (i64 0) = some (.bool true)]) rfl fn29 (c := bodyOf Tryz.f29) rfl (by kernel_rfl)
          ⟨by rw [neq29]; simp [h1], by rw [neq29]; simp [h2], trivial⟩
  · rw [if_neg h1]
    exact follow_call (n := 59) (tp := [.val 14 (.bool true)])
          (P := [binA EE .neq 3 (.tmp 12) (.tmp 13) (i64 x) (i64 0) = some (.bool true)]) rfl fn29 (c := bodyOf Tryz.f29) rfl (by kernel_rfl)
          ⟨by rw [neq29]; simp [h1], trivial⟩

noncomputable def c29 : Con := conF 29 g29 c30
theorem c29_ok : ConOK EE c29 := conF_ok c30_ok fun args H v h => by
  unfold g29 at h
  split at h
  · rename_i b c
    split at h
    · rename_i x y z rt own hb
      cases h
      refine ⟨rfl, fun σ w args' hr hv => ?_⟩
      obtain ⟨v', r, rfl, h1, h2⟩ := hv.cons_inv
      rw [h2.nil_inv]
      obtain ⟨L, c', hs, rfl, h3, h4⟩ := slice_at (by decide) h1
      obtain ⟨H', hrun⟩ := run29 x y z c'
      refine in_calls he c30_ok hm (bl := [([i64 x, i64 y, i64 z], 3)]) (ls := [some L]) (Nat.le_refl _) ?_ hrun rfl (.cons ?_ .nil)
      · intro i p M hp hM
        cases i with
        | zero =>
          simp at hp hM
          subst hp hM
          exact locOK hr hb hs rfl
        | succ i => simp at hp
      · exact VR.sliceE (L := L) (inS_at (i := 0) hm rfl) h3 h4
    · cases h
  · cases h

abbrev Tri := Int × Int × Int
def triL (p : Tri) : List Value := [i64 p.1, i64 p.2.1, i64 p.2.2]
def triV (p : Tri) : Value := .agg ⟨triL p⟩

def cmp3 (p q : Tri) : Int := or3 (cmpI p.1 q.1) (cmpI p.2.1 q.2.1) (cmpI p.2.2 q.2.2)
def lt3 (p q : Tri) : Bool := if p.1 = q.1 then (if p.2.1 = q.2.1 then decide (p.2.2 < q.2.2) else decide (p.2.1 < q.2.1)) else decide (p.1 < q.1)

def g20 (args : List Value) (_ : AH) : Option Value := match args with
  | [.agg ⟨[.int .i64 a, .int .i64 b, .int .i64 c]⟩, .agg ⟨[.int .i64 x, .int .i64 y, .int .i64 z]⟩] => some (i64 (cmp3 (a, b, c) (x, y, z)))
  | _ => none

theorem fn20 : EE.funcs.get 20 = some Tryz.f20 := envFunc (c := bodyOf Tryz.f20) Tryz.func20 rfl (by kernel_rfl)
theorem run20 (a b c x y z : Int) : ∃ H', runC EE c29 40 (.call 20 [.agg ⟨[i64 a, i64 b, i64 c]⟩, .agg ⟨[i64 x, i64 y, i64 z]⟩]) (inH 1000 []) = some (.val (i64 (cmp3 (a, b, c) (x, y, z))), H') :=
  follow_call (n := 39) (tp := []) (P := []) rfl fn20 (c := bodyOf Tryz.f20) rfl (by kernel_rfl) trivial

noncomputable def c20 : Con := conF 20 g20 c29
theorem c20_ok : ConOK EE c20 := conF_ok c29_ok fun args H v h => by
  unfold g20 at h
  split at h
  · cases h
    exact ⟨rfl, fun σ w args' _ hv => flat_calls he c29_ok hm (run20 _ _ _ _ _ _) rfl rfl σ w args' hv⟩
  · cases h

def g21 (args : List Value) (_ : AH) : Option Value := match args with
  | [.agg ⟨[.int .i64 a, .int .i64 b, .int .i64 c]⟩, .agg ⟨[.int .i64 x, .int .i64 y, .int .i64 z]⟩] => some (.bool (lt3 (a, b, c) (x, y, z)))
  | _ => none

theorem neq21 (a b : Int) : binA EE .neq 3 (.tmp 6) (.tmp 8) (i64 a) (i64 b) = some (.bool (!decide (a = b))) := by kernel_rfl
theorem neq21b (a b : Int) : binA EE .neq 3 (.tmp 16) (.tmp 18) (i64 a) (i64 b) = some (.bool (!decide (a = b))) := by kernel_rfl
theorem fn21 : EE.funcs.get 21 = some Tryz.f21 := envFunc (c := bodyOf Tryz.f21) Tryz.func21 rfl (by kernel_rfl)
theorem run21 (a b c x y z : Int) : ∃ H', runC EE c20 40 (.call 21 [.agg ⟨[i64 a, i64 b, i64 c]⟩, .agg ⟨[i64 x, i64 y, i64 z]⟩]) (inH 1000 []) = some (.val (.bool (lt3 (a, b, c) (x, y, z))), H') := by
  unfold lt3
  simp only
  by_cases h1 : a = x
  · rw [if_pos h1]
    by_cases h2 : b = y
    · rw [if_pos h2]
      exact follow_call (n := 39) (tp := [.val 9 (.bool false), .val 19 (.bool false)])
        (P := [binA EE .neq 3 (.tmp 6) (.tmp 8) (i64 a) (i64 x) = some (.bool false), binA EE .neq 3 (.tmp 16) (.tmp 18) (i64 b) (i64 y) = some (.bool false)]) rfl fn21 (c := bodyOf Tryz.f21) rfl (by kernel_rfl)
        ⟨by rw [neq21]; simp [h1], by rw [neq21b]; simp [h2], trivial⟩
    · rw [if_neg h2]
      exact follow_call (n := 39) (tp := [.val 9 (.bool false), .val 19 (.bool true)])
        (P := [binA EE .neq 3 (.tmp 6) (.tmp 8) (i64 a) (i64 x) = some (.bool false), binA EE .neq 3 (.tmp 16) (.tmp 18) (i64 b) (i64 y) = some (.bool true)]) rfl fn21 (c := bodyOf Tryz.f21) rfl (by kernel_rfl)
        ⟨by rw [neq21]; simp [h1], by rw [neq21b]; simp [h2], trivial⟩
  · rw [if_neg h1]
    exact follow_call (n := 39) (tp := [.val 9 (.bool true)])
        (P := [binA EE .neq 3 (.tmp 6) (.tmp 8) (i64 a) (i64 x) = some (.bool true)]) rfl fn21 (c := bodyOf Tryz.f21) rfl (by kernel_rfl)
        ⟨by rw [neq21]; simp [h1], trivial⟩

noncomputable def c21 : Con := conF 21 g21 c20
theorem c21_ok : ConOK EE c21 := conF_ok c20_ok fun args H v h => by
  unfold g21 at h
  split at h
  · cases h
    exact ⟨rfl, fun σ w args' _ hv => flat_calls he c20_ok hm (run21 _ _ _ _ _ _) rfl rfl σ w args' hv⟩
  · cases h

end Go.Proofs.YtokincjfhndjaaaGreat
/- Parts held against each other. Conditions: none. -/
namespace Go.Proofs.YtokincjfhndjaaaGreat
open Go Go.Am Go.Proofs

theorem pureRun_bind {α β : Type} (P : Program) (x : Sem α) (f : α → Sem β) : pureRun P (x >>= f) = (pureRun P x).bind fun a => pureRun P (f a) := by
  show pureRun P (x.bind f) = _
  induction x with
  | pure a => rfl
  | program k ih => exact ih P
  | mark m k ih => exact ih
  | _ => rfl

theorem eq3 (d : Nat) (a x : Int) : pureRun EE.prog (Op.equalIn (d + 1) 3 (i64 a) (i64 x)) = some (a == x) := by
  rw [Op.equalIn]
  simp only [pureRun_bind]
  have : pureRun EE.prog (underlying 3) = some (.int .i64) := by kernel_rfl
  rw [this]
  rfl

noncomputable def fs46 : Array Field := match EE.prog.underlying 46 with | some (.struct fs) => fs | _ => #[]
noncomputable def fd46 (i : Nat) : Field := fs46.toList.getD i default
theorem und46 : pureRun EE.prog (underlying 46) = some (.struct fs46) := by kernel_rfl
theorem fs46_eq : fs46 = #[fd46 0, fd46 1, fd46 2] := by kernel_rfl
theorem nm0 : ((fd46 0).name == "_") = false := by kernel_rfl
theorem nm1 : ((fd46 1).name == "_") = false := by kernel_rfl
theorem nm2 : ((fd46 2).name == "_") = false := by kernel_rfl
theorem ty0 : (fd46 0).type = 3 := by kernel_rfl
theorem ty1 : (fd46 1).type = 3 := by kernel_rfl
theorem ty2 : (fd46 2).type = 3 := by kernel_rfl
theorem pt0 (a b c : Int) : pureRun EE.prog (part 3 ⟨[i64 a, i64 b, i64 c]⟩ (fd46 0).offset) = some (i64 a) := by kernel_rfl
theorem pt1 (a b c : Int) : pureRun EE.prog (part 3 ⟨[i64 a, i64 b, i64 c]⟩ (fd46 1).offset) = some (i64 b) := by kernel_rfl
theorem pt2 (a b c : Int) : pureRun EE.prog (part 3 ⟨[i64 a, i64 b, i64 c]⟩ (fd46 2).offset) = some (i64 c) := by kernel_rfl
theorem held : EE.prog.stoodInHeld 46 = false := by kernel_rfl

theorem pureRun_program (P : Program) : pureRun P program = some P := rfl
theorem pureRun_pure {α : Type} (P : Program) (a : α) : pureRun P (pure a) = some a := rfl

theorem eq46 (a b c x y z : Int) : pureRun EE.prog (Op.equalIn 10000 46 (.agg ⟨[i64 a, i64 b, i64 c]⟩) (.agg ⟨[i64 x, i64 y, i64 z]⟩)) = some (a == x && (b == y && c == z)) := by
  rw [Op.equalIn]
  simp only [pureRun_bind, und46, Option.bind_some]
  rw [fs46_eq]
  have n0 : (fd46 0).name ≠ "_" := by simpa using nm0
  have n1 : (fd46 1).name ≠ "_" := by simpa using nm1
  have n2 : (fd46 2).name ≠ "_" := by simpa using nm2
  simp only [pureRun_bind, pureRun_program, Option.bind_some, held, Bool.false_eq_true, if_false, pureRun_pure, ← Array.forIn_toList, List.forIn_cons, List.forIn_nil, ne_eq, n0, n1, n2, not_false_eq_true, if_true, ty0, ty1, ty2, pt0, pt1, pt2, eq3]
  cases h0 : (a == x) <;> cases h1 : (b == y) <;> cases h2 : (c == z) <;> simp [pureRun_bind, pureRun_pure, pt0, pt1, pt2, eq3, h0, h1, h2, n1, n2, ty1, ty2]

theorem guard46 (x y : Operand) (a b c a' b' c' : Int) : pureRun EE.prog (eqGuard .neq 46 x y (.agg ⟨[i64 a, i64 b, i64 c]⟩) (.agg ⟨[i64 a', i64 b', i64 c']⟩)) = some () := by kernel_rfl

theorem binNeq (t : TypeId) (xs ys : Array Value) : binOp .neq t (.agg xs) (.agg ys) = (Op.equal t (.agg xs) (.agg ys) >>= fun r => pure (.bool (!r))) := by
  unfold binOp
  rfl

theorem binA_agg (t : TypeId) (x y : Operand) (xs ys : Array Value) (hf : (flatV (.agg xs) && flatV (.agg ys)) = true) (v : Value) (hv : flatV v = true)
    (h : pureRun EE.prog (do eqGuard .neq t x y (.agg xs) (.agg ys); binOp .neq t (.agg xs) (.agg ys)) = some v) : binA EE .neq t x y (.agg xs) (.agg ys) = some v := by
  unfold binA
  simp only [hf, cond_true, h, flat?, hv]

theorem neq46 (x y : Operand) (p q : Tri) : binA EE .neq 46 x y (triV p) (triV q) = some (.bool (!decide (p = q))) := by
  obtain ⟨a, b, c⟩ := p
  obtain ⟨a', b', c'⟩ := q
  refine binA_agg 46 x y _ _ rfl _ rfl ?_
  simp only [triL]
  rw [pureRun_bind, guard46, Option.bind_some, binNeq, pureRun_bind, Op.equal, Op.maxDepth, eq46, Option.bind_some, pureRun_pure]
  congr 3
  by_cases h1 : a = a' <;> by_cases h2 : b = b' <;> by_cases h3 : c = c' <;> simp [h1, h2, h3]
end Go.Proofs.YtokincjfhndjaaaGreat
