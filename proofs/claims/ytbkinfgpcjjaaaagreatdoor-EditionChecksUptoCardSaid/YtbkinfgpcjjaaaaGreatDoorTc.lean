/- Data checked symbolically: the arguments of a step. Conditions: none. -/
import Derived.Test.YtbkinfgpcjjaaaaGreatDoorTb
import Derived.Test.YtbkinfgpcjjaaaaGreatDoorAm9
set_option linter.all false
namespace Go.Am.Tt
open Go Go.Am
def falsum : Fact := (0, 0, -1)
def Grow (σ : Wd) (r : Cx × Y) (d : D) : Prop := ∃ τ, COk (σ ++ τ) r.1 ∧ relY (σ ++ τ) r.2 d
def Grows (σ : Wd) (r : Cx × List Y) (ds : List D) : Prop := ∃ τ, COk (σ ++ τ) r.1 ∧ relYs (σ ++ τ) r.2 ds
theorem Grow.here {σ : Wd} {C : Cx} {y : Y} {d : D} (hC : COk σ C) (h : relY σ y d) : Grow σ (C, y) d := ⟨[], app_nil hC, by rw [List.append_nil]; exact h⟩
theorem Grow.st {σ : Wd} {r : Cx × List Y} {ds : List D} (h : Grows σ r ds) : Grow σ (r.1, .st r.2) (.agg ds) := by
  obtain ⟨τ, h1, h2⟩ := h
  exact ⟨τ, h1, by simp only [relY]; exact ⟨ds, rfl, h2⟩⟩
def seqY {α : Type} (f : Cx → α → Option (Cx × Y)) : Cx → List α → Option (Cx × List Y)
  | C, [] => some (C, [])
  | C, x :: r => match f C x with
    | some (C1, y) => (match seqY f C1 r with
      | some (C2, ys) => some (C2, y :: ys)
      | none => none)
    | none => none
theorem seqY_ok {α : Type} {f : Cx → α → Option (Cx × Y)} {g : α → D} {P : Wd → Prop} (hP : ∀ {σ τ}, P σ → P (σ ++ τ)) :
    ∀ (l : List α), (∀ x ∈ l, ∀ {σ C r}, P σ → COk σ C → f C x = some r → Grow σ r (g x)) → ∀ {σ C r}, P σ → COk σ C → seqY f C l = some r → Grows σ r (l.map g)
  | [], _, σ, C, r, _, hC, h => by
    simp only [seqY] at h; cases h
    exact ⟨[], app_nil hC, by simp only [List.map_nil, relYs]⟩
  | x :: l, hf, σ, C, r, hp, hC, h => by
    simp only [seqY] at h
    split at h
    · rename_i C1 y hy
      split at h
      · rename_i C2 ys hys
        cases h
        obtain ⟨τ, h1, h2⟩ := hf x List.mem_cons_self hp hC hy
        obtain ⟨τ', h3, h4⟩ := seqY_ok hP l (fun z hz => hf z (List.mem_cons_of_mem _ hz)) (hP hp) h1 hys
        refine ⟨τ ++ τ', by rw [← List.append_assoc]; exact h3, ?_⟩
        simp only [List.map_cons, relYs]
        refine ⟨_, _, rfl, ?_, ?_⟩
        · rw [← List.append_assoc]; exact relY_app h2
        · rw [← List.append_assoc]; exact h4
      · cases h
    · cases h
def con1 (C : Cx) : Value → Option (Cx × Y)
  | .int k n => some (C, .int k 0 n)
  | .bool b => some (C, .bool (bif b then [] else [falsum]) (bif b then [falsum] else []))
  | .slice none _ _ => some (C, .nil)
  | .string s => some (C.add [(C.nx, 0, (s.size : Int)), (0, C.nx, -(s.size : Int))] [(C.nx, s.size)] [] 1, .str C.nx s.size)
  | _ => none
def conV : Nat → Cx → Value → Option (Cx × Y)
  | 0, C, v => con1 C v
  | n + 1, C, v => match v with
    | .agg cs => (match seqY (conV n) C cs.toList with
      | some (C', ys) => some (C', .st ys)
      | none => none)
    | v => con1 C v
theorem con1_ok {σ : Wd} {C : Cx} (hC : COk σ C) {v : Value} {r : Cx × Y} (h : con1 C v = some r) (n : Nat) : Grow σ r (ofVn n v) := by
  obtain ⟨z, hz⟩ := hC.s.z
  unfold con1 at h
  split at h
  · cases h
    have : ∀ n (k : IntKind) (x : Int), ofVn n (.int k x) = .leaf (.int k x) := fun n k x => by cases n <;> rfl
    rw [this]
    refine .here hC ?_
    simp only [relY]
    exact ⟨_, hz, by simp⟩
  · rename_i b
    cases h
    have : ∀ n (b : Bool), ofVn n (.bool b) = .leaf (.bool b) := fun n b => by cases n <;> rfl
    rw [this]
    refine .here hC ?_
    simp only [relY]
    refine ⟨b, rfl, fun hb q hq => ?_, fun hb q hq => ?_⟩ <;> subst hb <;> cases hq
  · cases h
    have : ∀ n (a b : Nat), ofVn n (.slice none a b) = .nil := fun n a b => by cases n <;> rfl
    rw [this]
    refine .here hC ?_
    simp only [relY]
  · rename_i s
    cases h
    have : ∀ n (s : ByteArray), ofVn n (.string s) = .leaf (.string s) := fun n s => by cases n <;> rfl
    rw [this]
    refine ⟨[((s.size : Int), .nil)], hC.ext (f2 ⟨_, _, get_new hC _, get_app hz, by simp only; omega⟩ ⟨_, _, get_app hz, get_new hC _, by simp only; omega⟩) (fun q hq => ?_) (by simp) rfl, ?_⟩
    · rw [List.mem_singleton] at hq; subst hq
      exact ⟨_, get_new hC _, by simp, by simp⟩
    · simp only [relY]
      exact ⟨s, _, rfl, get_new hC _, rfl, Nat.le_refl _⟩
  · cases h
theorem conV_ok : ∀ (n : Nat) {σ : Wd} {C : Cx} {v : Value} {r : Cx × Y}, COk σ C → conV n C v = some r → Grow σ r (ofVn n v)
  | 0, σ, C, v, r, hC, h => con1_ok hC h 0
  | n + 1, σ, C, v, r, hC, h => by
    simp only [conV] at h
    split at h
    · rename_i cs
      split at h
      · rename_i C' ys hs
        cases h
        have := seqY_ok (g := ofVn n) (P := fun _ => True) (fun h => h) cs.toList (fun x _ {σ C r} _ hC hx => conV_ok n hC hx) trivial hC hs
        exact Grow.st this
      · cases h
    · exact con1_ok hC h _
theorem getD_some {ρ : List D} {i : Nat} {d : D} (h : ρ[i]? = some d) : getD ρ i = d := by
  unfold getD
  rw [List.getD_eq_getElem?_getD, h]; rfl
mutual
def argY (env : List Y) : Cx → SV → Option (Cx × Y)
  | C, .v i => match env[i]? with
    | some y => some (C, y)
    | none => none
  | C, .c v => conV 6 C v
  | C, .agg cs => match argYs env C cs with
    | some (C', ys) => some (C', .st ys)
    | none => none
  | C, .fn f a b => match f, a, b with
    | .func f, [], [] => some (C, .clo f)
    | _, _, _ => none
  | C, .tup _ => some (C, .any)
  | _, _ => none
def argYs (env : List Y) : Cx → List SV → Option (Cx × List Y)
  | C, [] => some (C, [])
  | C, x :: r => match argY env C x with
    | some (C1, y) => (match argYs env C1 r with
      | some (C2, ys) => some (C2, y :: ys)
      | none => none)
    | none => none
end
mutual
theorem argY_ok {env : List Y} {ρ : List D} : ∀ {x : SV} {σ : Wd} {C : Cx} {r : Cx × Y}, COk σ C → relYs σ env ρ → argY env C x = some r → Grow σ r (x.d (getD ρ))
  | .v i, σ, C, r, hC, he, h => by
    simp only [argY] at h
    split at h
    · rename_i y hy
      cases h
      obtain ⟨d, h1, h2⟩ := relYs_get he hy
      simp only [SV.d, getD_some h1]; exact .here hC h2
    · cases h
  | .c v, σ, C, r, hC, he, h => by
    simp only [argY] at h
    simp only [SV.d]
    exact conV_ok 6 hC h
  | .agg cs, σ, C, r, hC, he, h => by
    simp only [argY] at h
    split at h
    · rename_i C' ys hs
      cases h
      simp only [SV.d]
      exact Grow.st (argYs_ok hC he hs)
    · cases h
  | .fn f a b, σ, C, r, hC, he, h => by
    simp only [argY] at h
    split at h
    · cases h
      refine .here hC ?_
      simp only [SV.d, SV.ds, relY]
    · cases h
  | .loc _ _, _, _, _, _, _, h => by simp only [argY] at h; cases h
  | .ptr _ _ _ _, _, _, _, _, _, h => by simp only [argY] at h; cases h
  | .pp _ _, _, _, _, _, _, h => by simp only [argY] at h; cases h
  | .tup _, σ, C, r, hC, he, h => by
    simp only [argY] at h; cases h
    exact .here hC (by simp only [relY])
  | .ifc _ _, _, _, _, _, _, h => by simp only [argY] at h; cases h
theorem argYs_ok {env : List Y} {ρ : List D} : ∀ {xs : List SV} {σ : Wd} {C : Cx} {r : Cx × List Y}, COk σ C → relYs σ env ρ → argYs env C xs = some r → Grows σ r (SV.ds (getD ρ) xs)
  | [], σ, C, r, hC, he, h => by
    simp only [argYs] at h; cases h
    exact ⟨[], app_nil hC, by simp only [SV.ds, relYs]⟩
  | x :: l, σ, C, r, hC, he, h => by
    simp only [argYs] at h
    split at h
    · rename_i C1 y hy
      split at h
      · rename_i C2 ys hys
        cases h
        obtain ⟨τ, h1, h2⟩ := argY_ok hC he hy
        obtain ⟨τ', h3, h4⟩ := argYs_ok h1 (relYs_app he) hys
        refine ⟨τ ++ τ', by rw [← List.append_assoc]; exact h3, ?_⟩
        simp only [SV.ds, relYs]
        refine ⟨_, _, rfl, ?_, ?_⟩
        · rw [← List.append_assoc]; exact relY_app h2
        · rw [← List.append_assoc]; exact h4
      · cases h
    · cases h
end
end Go.Am.Tt
namespace Go.Am.Tt
open Go Go.Am
def valD : D → Int
  | .leaf (.int _ n) => n
  | .leaf (.string s) => (s.size : Int)
  | d => (d.es.length : Int)
def valY : Y → Option (Nat × Int)
  | .int _ v c => some (v, c)
  | .sl n _ _ _ _ => some (n, 0)
  | .str n _ => some (n, 0)
  | .nil => some (0, 0)
  | _ => none
theorem valY_ok {σ : Wd} {C : Cx} (hC : COk σ C) {y : Y} {d : D} {v : Nat} {c : Int} (hd : relY σ y d) (h : valY y = some (v, c)) : ∃ x, σ[v]? = some x ∧ valD d = x.1 + c := by
  obtain ⟨z, hz⟩ := hC.s.z
  cases y <;> simp only [valY] at h <;> first | (cases h; done) | cases h
  · simp only [relY] at hd
    obtain ⟨x, hx, rfl⟩ := hd
    exact ⟨x, hx, rfl⟩
  · simp only [relY] at hd
    obtain ⟨s, x, rfl, hx, hs, _⟩ := hd
    exact ⟨x, hx, by show (s.size : Int) = _; omega⟩
  · simp only [relY] at hd
    refine ⟨_, hd.1, ?_⟩
    have h2 := hd.2
    simp only [HasN] at h2
    rcases h2 with rfl | ⟨es, rfl, _⟩
    · show (0 : Int) = _; simp [D.es]
    · show ((es.length : Nat) : Int) = _; simp [D.es]
  · simp only [relY] at hd
    subst hd
    exact ⟨_, hz, by show ((D.nil.es.length : Nat) : Int) = _; simp [D.es]⟩
def walkD : List Nat → D → D
  | [], d => d
  | i :: r, d => walkD r (match d with | .agg cs => getD cs i | _ => .nil)
def walkY : List Nat → Y → Option Y
  | [], y => some y
  | i :: r, .st cs => match cs[i]? with
    | some y => walkY r y
    | none => none
  | _ :: _, _ => none
theorem walkY_ok {σ : Wd} : ∀ {p : List Nat} {y y' : Y} {d : D}, relY σ y d → walkY p y = some y' → relY σ y' (walkD p d)
  | [], y, y', d, hd, h => by simp only [walkY] at h; cases h; exact hd
  | i :: r, y, y', d, hd, h => by
    cases y <;> simp only [walkY] at h <;> first | (cases h; done) | skip
    simp only [relY] at hd
    obtain ⟨ds, rfl, hs⟩ := hd
    split at h
    · rename_i q hq
      obtain ⟨e, he, hr⟩ := relYs_get hs hq
      simp only [walkD, getD_some he]
      exact walkY_ok hr h
    · cases h
inductive Pt where
  | z
  | aT (p : List Nat)
  | el (p q : List Nat) (f : Nat)
def fieldD (f : Nat) : D → D
  | .agg cs => getD cs f
  | d => d
def fieldY (f : Nat) : Y → Option Y
  | .st cs => cs[f]?
  | .sl n el sz b e => some (.sl n el sz b e)
  | .str n b => some (.str n b)
  | .int k v c => some (.int k v c)
  | _ => none
theorem fieldY_ok {σ : Wd} {f : Nat} {y y' : Y} {d : D} (hd : relY σ y d) (h : fieldY f y = some y') : relY σ y' (fieldD f d) := by
  cases y <;> simp only [fieldY] at h <;> first | (cases h; done) | skip
  · cases h
    have h0 := hd
    simp only [relY] at hd
    obtain ⟨x, _, rfl⟩ := hd
    exact h0
  · cases h
    have h0 := hd
    simp only [relY] at hd
    obtain ⟨s, x, rfl, _⟩ := hd
    exact h0
  · cases h
    have h0 := hd
    simp only [relY, HasN] at hd
    rcases hd.2 with rfl | ⟨es, rfl, _⟩ <;> exact h0
  · simp only [relY] at hd
    obtain ⟨ds, rfl, hs⟩ := hd
    obtain ⟨e, he, hr⟩ := relYs_get hs h
    simp only [fieldD, getD_some he]; exact hr
def elemDD (d i : D) : D := d.es.getD (valD i).toNat .nil
def selD (ds : List D) : Pt → Int
  | .z => 0
  | .aT p => valD (walkD p (.agg ds))
  | .el p q f => valD (fieldD f (elemDD (walkD p (.agg ds)) (walkD q (.agg ds))))
def elY2 (C : Cx) (f : Nat) : Option Y → Option Y → Option (Nat × Int)
  | some (.sl n _ _ _ _), some (.int .i64 v c) => match findE C.els n v c with
    | some y => (match fieldY f y with
      | some z => valY z
      | none => none)
    | none => none
  | _, _ => none
def selY (C : Cx) (ys : List Y) : Pt → Option (Nat × Int)
  | .z => some (0, 0)
  | .aT p => match walkY p (.st ys) with
    | some y => valY y
    | none => none
  | .el p q f => elY2 C f (walkY p (.st ys)) (walkY q (.st ys))
theorem selY_ok {σ : Wd} {C : Cx} (hC : COk σ C) {ys : List Y} {ds : List D} {p : Pt} {v : Nat} {c : Int} (hd : relYs σ ys ds) (h : selY C ys p = some (v, c)) : ∃ x, σ[v]? = some x ∧ selD ds p = x.1 + c := by
  obtain ⟨z, hz⟩ := hC.s.z
  have hst : relY σ (.st ys) (.agg ds) := by simp only [relY]; exact ⟨ds, rfl, hd⟩
  cases p with
  | z => simp only [selY] at h; cases h; exact ⟨_, hz, by simp [selD]⟩
  | aT p =>
    simp only [selY] at h
    split at h
    · rename_i y hy
      exact valY_ok hC (walkY_ok hst hy) h
    · cases h
  | el p q f =>
    simp only [selY] at h
    unfold elY2 at h
    split at h
    · rename_i n _ _ _ _ i ci h1 h2
      split at h
      · rename_i y hy
        split at h
        · rename_i w hw
          have a1 := walkY_ok hst h1
          have a2 := walkY_ok hst h2
          simp only [relY] at a1 a2
          obtain ⟨k, hk, e2⟩ := a2
          obtain ⟨x, d, i', z', g1, g2, g3, g4, g5⟩ := findE_ok hC.e hy
          simp only at g1 g2 g3 g4 g5
          rw [a1.1] at g1; cases g1
          rw [hk] at g2; cases g2
          have ez : elemDD (walkD p (.agg ds)) (walkD q (.agg ds)) = z' := by
            unfold elemDD
            rw [e2]
            show (walkD p (.agg ds)).es.getD (k.1 + ci).toNat .nil = z'
            rw [List.getD_eq_getElem?_getD, g4]; rfl
          simp only [selD, ez]
          exact valY_ok hC (fieldY_ok g5 hw) h
        · cases h
      · cases h
    · cases h
abbrev Cn := Pt × Pt × Int
def cnD (ds : List D) (q : Cn) : Prop := selD ds q.1 ≤ selD ds q.2.1 + q.2.2
def cnY (C : Cx) (ys : List Y) (q : Cn) : Bool := match selY C ys q.1, selY C ys q.2.1 with
  | some (v, c), some (w, e) => ent C.F C.L v c w (e + q.2.2)
  | _, _ => false
theorem cnY_ok {σ : Wd} {C : Cx} (hC : COk σ C) {ys : List Y} {ds : List D} {q : Cn} (hd : relYs σ ys ds) (h : cnY C ys q = true) : cnD ds q := by
  unfold cnY at h
  split at h
  · rename_i v c w e h1 h2
    obtain ⟨x, hx, e1⟩ := selY_ok hC hd h1
    obtain ⟨y, hy, e2⟩ := selY_ok hC hd h2
    have := ent_ok hC.s h hx hy
    unfold cnD
    omega
  · cases h
def cnF (C : Cx) (ys : List Y) (q : Cn) : List Fact := match selY C ys q.1, selY C ys q.2.1 with
  | some (v, c), some (w, e) => [(v, w, e + q.2.2 - c)]
  | _, _ => []
theorem cnF_ok {σ : Wd} {C : Cx} (hC : COk σ C) {ys : List Y} {ds : List D} {q : Cn} (hd : relYs σ ys ds) (h : cnD ds q) : ∀ f ∈ cnF C ys q, fOk σ f := by
  unfold cnF
  split
  · rename_i v c w e h1 h2
    obtain ⟨x, hx, e1⟩ := selY_ok hC hd h1
    obtain ⟨y, hy, e2⟩ := selY_ok hC hd h2
    unfold cnD at h
    exact f1 hx hy (by omega)
  · intro f hf; cases hf
def open2 (C : Cx) : Option Y → Option Y → Cx
  | some (.sl n _ _ _ e), some (.int .i64 v c) => match inrY C n e v c with
    | some (C', _) => C'
    | none => C
  | _, _ => C
def openY (C : Cx) (ys : List Y) : Pt → Cx
  | .el p q _ => open2 C (walkY p (.st ys)) (walkY q (.st ys))
  | _ => C
theorem openY_ok (E : Env) {σ : Wd} {C : Cx} (hC : COk σ C) {ys : List Y} {ds : List D} (hd : relYs σ ys ds) (p : Pt) : ∃ τ, COk (σ ++ τ) (openY C ys p) := by
  have hst : relY σ (.st ys) (.agg ds) := by simp only [relY]; exact ⟨ds, rfl, hd⟩
  cases p with
  | z => exact ⟨[], app_nil hC⟩
  | aT p => exact ⟨[], app_nil hC⟩
  | el p q f =>
    simp only [openY]
    unfold open2
    split
    · rename_i h1 h2
      split
      · rename_i C' y hi
        obtain ⟨d, τ, _, h, _⟩ := inr_ok (E := E) hC (walkY_ok hst h1) (walkY_ok hst h2) hi
        exact ⟨τ, h⟩
      · exact ⟨[], app_nil hC⟩
    · exact ⟨[], app_nil hC⟩
def invC (ys : List Y) : List Cn → Cx → Cx
  | [], C => C
  | q :: r, C => let C1 := openY (openY C ys q.1) ys q.2.1; invC ys r (C1.add (cnF C1 ys q) [] [] 0)
theorem invC_ok (E : Env) {ys : List Y} {ds : List D} : ∀ {l : List Cn} {σ : Wd} {C : Cx}, COk σ C → relYs σ ys ds → (∀ q ∈ l, cnD ds q) → ∃ τ, COk (σ ++ τ) (invC ys l C)
  | [], σ, C, hC, _, _ => ⟨[], app_nil hC⟩
  | q :: r, σ, C, hC, hd, h => by
    obtain ⟨τ1, h1⟩ := openY_ok E hC hd q.1
    obtain ⟨τ2, h2⟩ := openY_ok E h1 (relYs_app hd) q.2.1
    rw [List.append_assoc] at h2
    have hd2 := relYs_app (τ := τ1 ++ τ2) hd
    have h3 := h2.facts (cnF_ok h2 hd2 (h q List.mem_cons_self))
    obtain ⟨τ3, h4⟩ := invC_ok E h3 hd2 fun x hx => h x (List.mem_cons_of_mem _ hx)
    rw [List.append_assoc] at h4
    exact ⟨_, h4⟩
structure Spec where
  ss : List Sn
  rs : List Sn
  pre : List Cn
  post : List Cn
def SpOk (HS : FuncId → List D → D → Prop) (f : FuncId) (S : Spec) : Prop :=
  ∀ ds, HasNs S.ss ds → (∀ q ∈ S.pre, cnD ds q) → ∃ rs, HasNs S.rs rs ∧ (∀ q ∈ S.post, cnD (ds ++ rs) q) ∧ HS f ds (retD rs)
end Go.Am.Tt
namespace Go.Am.Tt
open Go Go.Am
abbrev Ms := Pt × Pt × Int
def msD (ds : List D) (m : Ms) : Int := selD ds m.1 - selD ds m.2.1 + m.2.2
def lexR : List Nat → List Nat → Prop
  | a :: as, b :: bs => a < b ∨ (a ≤ b ∧ lexR as bs)
  | _, _ => False
def lexOf (ds : List D) (ms : List Ms) : List Nat := ms.map fun m => (msD ds m).toNat
def leM (C : Cx) (ys' ys : List Y) (m' m : Ms) (k : Int) : Bool := match selY C ys' m'.1, selY C ys' m'.2.1, selY C ys m.1, selY C ys m.2.1 with
  | some (v', c'), some (w', e'), some (v, c), some (w, e) =>
    (ent C.F C.L v' c' v (c + (m.2.2 - m'.2.2 - k)) && ent C.F C.L w e w' e') || (ent C.F C.L v' c' v c && ent C.F C.L w e w' (e' + (m.2.2 - m'.2.2 - k)))
  | _, _, _, _ => false
def posM (C : Cx) (ys : List Y) (m : Ms) : Bool := match selY C ys m.1, selY C ys m.2.1 with
  | some (v, c), some (w, e) => ent C.F C.L w (e + 1) v (c + m.2.2)
  | _, _ => false
def lexY (C : Cx) (ys' ys : List Y) : List Ms → List Ms → Bool
  | m' :: r', m :: r => (leM C ys' ys m' m 1 && posM C ys m) || (leM C ys' ys m' m 0 && lexY C ys' ys r' r)
  | _, _ => false
section
variable {σ : Wd} {C : Cx}
theorem leM_ok (hC : COk σ C) {ys' ys : List Y} {ds' ds : List D} {m' m : Ms} {k : Int} (hd' : relYs σ ys' ds') (hd : relYs σ ys ds) (h : leM C ys' ys m' m k = true) : msD ds' m' + k ≤ msD ds m := by
  unfold leM at h
  split at h
  · rename_i v' c' w' e' v c w e h1 h2 h3 h4
    obtain ⟨x1, g1, q1⟩ := selY_ok hC hd' h1
    obtain ⟨x2, g2, q2⟩ := selY_ok hC hd' h2
    obtain ⟨x3, g3, q3⟩ := selY_ok hC hd h3
    obtain ⟨x4, g4, q4⟩ := selY_ok hC hd h4
    unfold msD
    rcases Bool.or_eq_true_iff.1 h with h | h <;> rw [Bool.and_eq_true] at h
    · have a := ent_ok hC.s h.1 g1 g3
      have b := ent_ok hC.s h.2 g4 g2
      omega
    · have a := ent_ok hC.s h.1 g1 g3
      have b := ent_ok hC.s h.2 g4 g2
      omega
  · cases h
theorem posM_ok (hC : COk σ C) {ys : List Y} {ds : List D} {m : Ms} (hd : relYs σ ys ds) (h : posM C ys m = true) : 1 ≤ msD ds m := by
  unfold posM at h
  split at h
  · rename_i v c w e h3 h4
    obtain ⟨x3, g3, q3⟩ := selY_ok hC hd h3
    obtain ⟨x4, g4, q4⟩ := selY_ok hC hd h4
    unfold msD
    have a := ent_ok hC.s h g4 g3
    omega
  · cases h
theorem lexY_ok (hC : COk σ C) {ys' ys : List Y} {ds' ds : List D} (hd' : relYs σ ys' ds') (hd : relYs σ ys ds) : ∀ {l' l : List Ms}, lexY C ys' ys l' l = true → lexR (lexOf ds' l') (lexOf ds l)
  | [], _, h => by simp only [lexY] at h; cases h
  | _ :: _, [], h => by simp only [lexY] at h; cases h
  | m' :: r', m :: r, h => by
    simp only [lexY] at h
    simp only [lexOf, List.map_cons, lexR]
    rcases Bool.or_eq_true_iff.1 h with h | h <;> rw [Bool.and_eq_true] at h
    · have a := leM_ok hC hd' hd h.1
      have b := posM_ok hC hd h.2
      left; omega
    · have a := leM_ok hC hd' hd h.1
      right
      exact ⟨by omega, lexY_ok hC hd' hd h.2⟩
end
theorem lexAcc : ∀ (n : Nat) (l : List Nat), l.length = n → Acc (fun a b : List Nat => a.length = b.length ∧ lexR a b) l
  | 0, l, h => by
    have : l = [] := List.length_eq_zero_iff.1 h
    subst this
    refine ⟨_, fun y hy => ?_⟩
    cases y with
    | nil => exact (hy.2 : False).elim
    | cons _ _ => cases hy.1
  | n + 1, l, h => by
    have key : ∀ (a : Nat), ∀ (r : List Nat), r.length = n → Acc (fun a b : List Nat => a.length = b.length ∧ lexR a b) (a :: r) := by
      intro a
      induction a using Nat.strongRecOn with
      | _ a iha =>
        intro r hr
        have hacc := lexAcc n r hr
        induction hacc with
        | intro r _ ihr =>
          refine ⟨_, fun y hy => ?_⟩
          cases y with
          | nil => cases hy.1
          | cons b s =>
            have hl : s.length = n := by have := hy.1; simp only [List.length_cons] at this; omega
            rcases hy.2 with hlt | ⟨hle, hs⟩
            · exact iha b hlt s hl
            · rcases Nat.lt_or_ge b a with h' | h'
              · exact iha b h' s hl
              · have : b = a := by omega
                subst this
                exact ihr s ⟨by omega, hs⟩ hl
    cases l with
    | nil => cases h
    | cons a r => exact key a r (by simpa using h)
structure Hd where
  ss : List Sn
  inv : List Cn
  ms : List Ms
structure Fx where
  T : Tb
  sp : FuncId → Option Spec
  S : Spec
  hd : Nat → Option Hd
def retY : List Y → Y
  | [y] => y
  | l => .tup l
def leafY : Y → Bool
  | .int _ _ _ => true
  | .bool _ _ => true
  | .str _ _ => true
  | _ => false
def flatY : Nat → Y → Bool
  | 0, _ => true
  | 1, y => leafY y
  | _, .tup l => l.all leafY
  | _, _ => false
def tgtY (tg : Tgt) (ys : List Y) : Option (FuncId × List Y) := match tg with
  | .fn f => some (f, ys)
  | .val _ => (match ys with
    | .clo g :: r => some (g, r)
    | _ => none)
  | .meth _ _ => none
def dead (C : Cx) (t : List Fact) : Bool := t.any fun q => ent C.F C.L q.2.1 0 q.1 (-q.2.2 - 1)
def ck (X : Fx) (y0 cur : List Y) (ms : List Ms) : Tree → List Y → Cx → Bool
  | .ret xs, env, C => match argYs env C xs with
    | some (C, ys) => fitYs C ys X.S.rs && X.S.post.all (cnY C (y0 ++ ys))
    | none => false
  | .jump k xs, env, C => match X.hd k with
    | some h => (match argYs env C xs with
      | some (C, ys) => fitYs C ys h.ss && h.inv.all (cnY C (y0 ++ ys)) && lexY C (y0 ++ ys) cur h.ms ms
      | none => false)
    | none => false
  | .bind o xs r, env, C => match argYs env C xs with
    | some (C, ys) => (match opY X.T C o ys with
      | some (C, y) => ck X y0 cur ms r (env ++ [y]) C
      | none => false)
    | none => false
  | .call tg xs fl r, env, C => match argYs env C xs with
    | some (C, ys) => (match tgtY tg ys with
      | some (f, ys) => (match X.sp f with
        | some S => fitYs C ys S.ss && S.pre.all (cnY C ys) && (match freshs S.rs C with
          | (C, rs) => flatY fl (retY rs) && ck X y0 cur ms r (env ++ [retY rs]) (C.add (S.post.flatMap (cnF C (ys ++ rs))) [] [] 0))
        | none => false)
      | none => false)
    | none => false
  | .ite c a b, env, C => match argY env C c with
    | some (C, .bool t f) => (ck X y0 cur ms a env (C.add t [] [] 0) || dead C t) && (ck X y0 cur ms b env (C.add f [] [] 0) || dead C f)
    | _ => false
  | _, _, _ => false
theorem relYs_append {σ : Wd} : ∀ {a b : List Y} {x y : List D}, relYs σ a x → relYs σ b y → relYs σ (a ++ b) (x ++ y)
  | [], b, x, y, h, h' => by simp only [relYs] at h; subst h; simpa using h'
  | u :: a, b, x, y, h, h' => by
    simp only [relYs] at h
    obtain ⟨d, ds, rfl, h1, h2⟩ := h
    simp only [List.cons_append, relYs]
    exact ⟨_, _, rfl, h1, relYs_append h2 h'⟩
theorem retY_ok {σ : Wd} {ys : List Y} {ds : List D} (h : relYs σ ys ds) : relY σ (retY ys) (retD ds) := by
  cases ys with
  | nil => simp only [relYs] at h; subst h; simp only [retY, retD, relY]; exact ⟨_, rfl, by simp only [relYs]⟩
  | cons y r =>
    have h0 := h
    simp only [relYs] at h
    obtain ⟨d, ds', rfl, h1, h2⟩ := h
    cases r with
    | nil => simp only [relYs] at h2; subst h2; exact h1
    | cons z r =>
      have h3 := h2
      simp only [relYs] at h2
      obtain ⟨d', ds'', rfl, _, _⟩ := h2
      simp only [retY, retD, relY]
      exact ⟨_, rfl, h0⟩
theorem leafY_ok {σ : Wd} {y : Y} {d : D} (hd : relY σ y d) (h : leafY y = true) : ∃ v, d = .leaf v := by
  cases y <;> simp only [leafY] at h <;> first | (cases h; done) | simp only [relY] at hd
  · obtain ⟨_, _, rfl⟩ := hd; exact ⟨_, rfl⟩
  · obtain ⟨_, rfl, _⟩ := hd; exact ⟨_, rfl⟩
  · obtain ⟨_, _, rfl, _⟩ := hd; exact ⟨_, rfl⟩
theorem leafYs_ok {σ : Wd} : ∀ {ys : List Y} {ds : List D}, relYs σ ys ds → ys.all leafY = true → allLeaf ds = true
  | [], ds, h, _ => by simp only [relYs] at h; subst h; rfl
  | y :: ys, ds, h, ha => by
    simp only [relYs] at h
    obtain ⟨d, r, rfl, h1, h2⟩ := h
    simp only [List.all_cons, Bool.and_eq_true] at ha
    obtain ⟨v, rfl⟩ := leafY_ok h1 ha.1
    have := leafYs_ok h2 ha.2
    simpa only [allLeaf] using this
theorem flatY_ok {σ : Wd} {n : Nat} {y : Y} {d : D} (hd : relY σ y d) (h : flatY n y = true) : flatD n d = true := by
  match n with
  | 0 => rfl
  | 1 =>
    simp only [flatY] at h
    obtain ⟨v, rfl⟩ := leafY_ok hd h
    rfl
  | n + 2 =>
    cases y <;> simp only [flatY] at h <;> first | (cases h; done) | skip
    simp only [relY] at hd
    obtain ⟨ds, rfl, hs⟩ := hd
    exact leafYs_ok hs h
def Post (X : Fx) (d0 : List D) (M : List Nat) : Res1 → Prop
  | .ret d => ∃ rs, d = retD rs ∧ HasNs X.S.rs rs ∧ ∀ q ∈ X.S.post, cnD (d0 ++ rs) q
  | .jump k ds => ∃ h, X.hd k = some h ∧ HasNs h.ss ds ∧ (∀ q ∈ h.inv, cnD (d0 ++ ds) q) ∧ lexR (lexOf (d0 ++ ds) h.ms) M
theorem tgtY_ok {E : Env} {σ : Wd} {tg : Tgt} {ys ys' : List Y} {ds : List D} {f : FuncId} (hd : relYs σ ys ds) (h : tgtY tg ys = some (f, ys')) : ∃ ds', tgtD E tg ds = some (f, ds') ∧ relYs σ ys' ds' := by
  unfold tgtY at h
  split at h
  · cases h; exact ⟨_, rfl, hd⟩
  · split at h
    · cases h
      simp only [relYs] at hd
      obtain ⟨d, r, rfl, h1, h2⟩ := hd
      simp only [relY] at h1
      subst h1
      exact ⟨r, by simp [tgtD], h2⟩
    · cases h
  · cases h
theorem cnF_all {σ : Wd} {C : Cx} (hC : COk σ C) {ys : List Y} {ds : List D} {l : List Cn} (hd : relYs σ ys ds) (h : ∀ q ∈ l, cnD ds q) : ∀ f ∈ l.flatMap (cnF C ys), fOk σ f := by
  intro f hf
  obtain ⟨q, hq, hf⟩ := List.mem_flatMap.1 hf
  exact cnF_ok hC hd (h q hq) f hf
theorem dead_ok {σ : Wd} {C : Cx} (hC : COk σ C) {t : List Fact} (h : dead C t = true) : ¬ ∀ q ∈ t, fOk σ q := by
  intro ha
  unfold dead at h
  obtain ⟨q, hq, h⟩ := List.any_eq_true.1 h
  obtain ⟨x, y, h1, h2, h3⟩ := ha q hq
  have := ent_ok hC.s h h2 h1
  omega
section
variable {E : Env} {HS : FuncId → List D → D → Prop} {X : Fx}
theorem ck_ok (hT : TbOk E X.T) (hsp : ∀ f S, X.sp f = some S → SpOk HS f S) {y0 cur : List Y} {ms : List Ms} {d0 dcur : List D} :
    ∀ (t : Tree) {env : List Y} {C : Cx} {ρ : List D} {σ : Wd}, COk σ C → relYs σ env ρ → relYs σ y0 d0 → relYs σ cur dcur → ck X y0 cur ms t env C = true → wp E HS (Post X d0 (lexOf dcur ms)) t ρ
  | .fail, _, _, _, _, _, _, _, _, h => by simp only [ck] at h; cases h
  | .stop _ _, _, _, _, _, _, _, _, _, h => by simp only [ck] at h; cases h
  | .callM _ _ _ _, _, _, _, _, _, _, _, _, h => by simp only [ck] at h; cases h
  | .ret xs, env, C, ρ, σ, hC, he, h0, hc, h => by
    simp only [ck] at h
    split at h
    · rename_i C' ys hy
      obtain ⟨τ, h1, h2⟩ := argYs_ok hC he hy
      rw [Bool.and_eq_true] at h
      simp only [wp]
      exact ⟨_, rfl, fitYs_ok h1 h.1 h2, fun q hq => cnY_ok h1 (relYs_append (relYs_app h0) h2) (List.all_eq_true.1 h.2 q hq)⟩
    · cases h
  | .jump k xs, env, C, ρ, σ, hC, he, h0, hc, h => by
    simp only [ck] at h
    split at h
    · rename_i hh hk
      split at h
      · rename_i C' ys hy
        obtain ⟨τ, h1, h2⟩ := argYs_ok hC he hy
        simp only [Bool.and_eq_true] at h
        simp only [wp]
        exact ⟨hh, hk, fitYs_ok h1 h.1.1 h2, fun q hq => cnY_ok h1 (relYs_append (relYs_app h0) h2) (List.all_eq_true.1 h.1.2 q hq), lexY_ok h1 (relYs_append (relYs_app h0) h2) (relYs_app hc) h.2⟩
      · cases h
    · cases h
  | .bind o xs r, env, C, ρ, σ, hC, he, h0, hc, h => by
    simp only [ck] at h
    split at h
    · rename_i C' ys hy
      split at h
      · rename_i C2 y ho
        obtain ⟨τ, h1, h2⟩ := argYs_ok hC he hy
        obtain ⟨d, τ', e1, e2, e3⟩ := opY_ok hT h1 h2 ho
        simp only [wp, e1]
        rw [List.append_assoc] at e2 e3
        exact ck_ok hT hsp r e2 (relYs_append (relYs_app he) (by simp only [relYs]; exact ⟨_, _, rfl, e3, rfl⟩)) (relYs_app h0) (relYs_app hc) h
      · cases h
    · cases h
  | .call tg xs fl r, env, C, ρ, σ, hC, he, h0, hc, h => by
    simp only [ck] at h
    split at h
    · rename_i C' ys hy
      split at h
      · rename_i f ys' ht
        split at h
        · rename_i S hS
          obtain ⟨τ, h1, h2⟩ := argYs_ok hC he hy
          obtain ⟨ds', t1, t2⟩ := tgtY_ok (E := E) h2 ht
          generalize hr : freshs S.rs C' = p at h
          obtain ⟨C2, rs⟩ := p
          simp only [Bool.and_eq_true] at h
          obtain ⟨⟨a1, a2⟩, a3, a4⟩ := h
          obtain ⟨rd, b1, b2, b3⟩ := hsp f S hS ds' (fitYs_ok h1 a1 t2) fun q hq => cnY_ok h1 t2 (List.all_eq_true.1 a2 q hq)
          obtain ⟨τ', c1, c2⟩ := freshs_ok b1 h1
          rw [hr] at c1 c2
          simp only [wp, t1]
          have hr := retY_ok c2
          refine ⟨_, b3, flatY_ok hr a3, ?_⟩
          have c3 := c1.facts (cnF_all c1 (relYs_append (relYs_app t2) c2) b2)
          have hr := hr
          rw [List.append_assoc] at c3 hr
          exact ck_ok hT hsp r c3 (relYs_append (relYs_app he) (by simp only [relYs]; exact ⟨_, _, rfl, hr, rfl⟩)) (relYs_app h0) (relYs_app hc) a4
        · cases h
      · cases h
    · cases h
  | .ite c a b, env, C, ρ, σ, hC, he, h0, hc, h => by
    simp only [ck] at h
    split at h
    · rename_i C' t f hy
      obtain ⟨τ, h1, h2⟩ := argY_ok hC he hy
      simp only [relY] at h2
      obtain ⟨v, hv, ht, hf⟩ := h2
      rw [Bool.and_eq_true] at h
      simp only [wp, hv]
      cases v with
      | true =>
        rcases Bool.or_eq_true_iff.1 h.1 with h | h
        · exact ck_ok hT hsp a (h1.facts (ht rfl)) (relYs_app he) (relYs_app h0) (relYs_app hc) h
        · exact absurd (ht rfl) (dead_ok h1 h)
      | false =>
        rcases Bool.or_eq_true_iff.1 h.2 with h | h
        · exact ck_ok hT hsp b (h1.facts (hf rfl)) (relYs_app he) (relYs_app h0) (relYs_app hc) h
        · exact absurd (hf rfl) (dead_ok h1 h)
    · cases h
end
end Go.Am.Tt
namespace Go.Am.Tt
open Go Go.Am
def lookN {α : Type} : List (Nat × α) → Nat → Option α
  | [], _ => none
  | (k, x) :: r, n => bif Nat.beq k n then some x else lookN r n
theorem lookN_mem {α : Type} {l : List (Nat × α)} {n : Nat} {x : α} (h : lookN l n = some x) : (n, x) ∈ l := by
  induction l with
  | nil => cases h
  | cons p r ih =>
    obtain ⟨k, y⟩ := p
    simp only [lookN] at h
    cases hk : Nat.beq k n with
    | true => rw [hk] at h; have := Nat.eq_of_beq_eq_true hk; subst this; cases h; exact List.mem_cons_self
    | false => rw [hk] at h; exact List.mem_cons_of_mem _ (ih h)
def diffN {α : Type} : List (Nat × α) → Bool
  | [] => true
  | (k, _) :: r => (match lookN r k with
    | some _ => false
    | none => true) && diffN r
theorem diffN_ok {α : Type} {l : List (Nat × α)} (h : diffN l = true) : ∀ x ∈ l, lookN l x.1 = some x.2 := by
  induction l with
  | nil => intro x hx; cases hx
  | cons p r ih =>
    obtain ⟨k, y⟩ := p
    simp only [diffN, Bool.and_eq_true] at h
    intro x hx
    rcases List.mem_cons.1 hx with rfl | hx'
    · simp only [lookN, Nat.beq_refl, cond_true]
    · have h3 := ih h.2 x hx'
      simp only [lookN]
      cases hk : Nat.beq k x.1 with
      | false => simpa using h3
      | true =>
        have e := Nat.eq_of_beq_eq_true hk
        rw [e, h3] at h
        cases h.1
def tsOf (l : List (Nat × Tree)) (k : Nat) : Tree := (lookN l k).getD .fail
def C0 : Cx := ⟨[], [], [], 1⟩
theorem C0_ok : COk [(0, .nil)] C0 := { s := { z := ⟨_, rfl⟩, f := fun q h => (by cases h), l := fun q h => (by cases h) }, e := fun e h => (by cases h), n := rfl }
def beg (S : Spec) : Cx × List Y := match freshs S.ss C0 with
  | (C, y0) => (invC y0 S.pre C, y0)
theorem beg_ok (E : Env) {S : Spec} {ds : List D} (h : HasNs S.ss ds) (hp : ∀ q ∈ S.pre, cnD ds q) : ∃ σ, COk σ (beg S).1 ∧ relYs σ (beg S).2 ds := by
  obtain ⟨τ, h1, h2⟩ := freshs_ok h C0_ok
  unfold beg
  split
  rename_i C y0 hr
  rw [hr] at h1 h2
  obtain ⟨τ', h3⟩ := invC_ok E h1 h2 hp
  exact ⟨_, h3, relYs_app h2⟩
def ckHead (X : Fx) (C : Cx) (y0 : List Y) (h : Hd) (t : Tree) : Bool := match freshs h.ss C with
  | (C, ys) => ck X y0 (y0 ++ ys) h.ms t ys (invC (y0 ++ ys) h.inv C)
def ckHeads (X : Fx) (C : Cx) (y0 : List Y) (ts : List (Nat × Tree)) (n : Nat) : List (Nat × Hd) → Bool
  | [] => true
  | (k, h) :: r => Nat.beq h.ms.length n && ckHead X C y0 h (tsOf ts k) && ckHeads X C y0 ts n r
theorem ckHeads_ok {X : Fx} {C : Cx} {y0 : List Y} {ts : List (Nat × Tree)} {n : Nat} : ∀ {l : List (Nat × Hd)}, ckHeads X C y0 ts n l = true → ∀ p ∈ l, p.2.ms.length = n ∧ ckHead X C y0 p.2 (tsOf ts p.1) = true
  | [], _, p, hp => by cases hp
  | (k, h) :: r, hc, p, hp => by
    simp only [ckHeads, Bool.and_eq_true] at hc
    rcases List.mem_cons.1 hp with rfl | hp
    · exact ⟨Nat.eq_of_beq_eq_true hc.1.1, hc.1.2⟩
    · exact ckHeads_ok hc.2 p hp
section
variable {E : Env} {HS : FuncId → List D → D → Prop}
theorem goes_fn {T : Tb} {sp : FuncId → Option Spec} {S : Spec} {hs : List (Nat × Hd)} {rm : List Ms} {ts : List (Nat × Tree)} (hT : TbOk E T) (hsp : ∀ f S, sp f = some S → SpOk HS f S)
    (hr : ck ⟨T, sp, S, lookN hs⟩ (beg S).2 (beg S).2 rm (tsOf ts 0) (beg S).2 (beg S).1 = true) (hh : ckHeads ⟨T, sp, S, lookN hs⟩ (beg S).1 (beg S).2 ts rm.length hs = true)
    {ds : List D} (hds : HasNs S.ss ds) (hp : ∀ q ∈ S.pre, cnD ds q) : ∃ rs, HasNs S.rs rs ∧ (∀ q ∈ S.post, cnD (ds ++ rs) q) ∧ Goes E HS (tsOf ts) 0 ds (retD rs) := by
  obtain ⟨σ, hC, hy⟩ := beg_ok E hds hp
  have hheads := ckHeads_ok hh
  have key : ∀ M : List Nat, Acc (fun a b : List Nat => a.length = b.length ∧ lexR a b) M → ∀ k h es, lookN hs k = some h → HasNs h.ss es → (∀ q ∈ h.inv, cnD (ds ++ es) q) → lexOf (ds ++ es) h.ms = M →
      ∃ rs, HasNs S.rs rs ∧ (∀ q ∈ S.post, cnD (ds ++ rs) q) ∧ Goes E HS (tsOf ts) k es (retD rs) := by
    intro M hM
    induction hM with
    | intro M _ ih =>
      intro k h es hk hes hinv hMe
      obtain ⟨hlen, hck⟩ := hheads _ (lookN_mem hk)
      unfold ckHead at hck
      split at hck
      rename_i C' ys hfr
      obtain ⟨τ, a1, a2⟩ := freshs_ok hes hC
      rw [hfr] at a1 a2
      have hd0 := relYs_app (τ := τ) hy
      have hcur := relYs_append hd0 a2
      obtain ⟨τ', a3⟩ := invC_ok E a1 hcur hinv
      have := ck_ok hT hsp _ a3 (relYs_app a2) (relYs_app hd0) (relYs_app hcur) hck
      obtain ⟨r, h1, h2⟩ := wp_one _ _ this
      cases r with
      | ret d =>
        obtain ⟨rs, rfl, b1, b2⟩ := h1
        exact ⟨rs, b1, b2, Goes.step (h2 _ rfl)⟩
      | jump k' es' =>
        obtain ⟨h', b1, b2, b3, b4⟩ := h1
        obtain ⟨hlen', _⟩ := hheads _ (lookN_mem b1)
        obtain ⟨rs, c1, c2, c3⟩ := ih _ ⟨by rw [← hMe]; simp only [lexOf, List.length_map]; rw [hlen', hlen], by rw [← hMe]; exact b4⟩ k' h' es' b1 b2 b3 rfl
        exact ⟨rs, c1, c2, Goes.step (h2 _ c3)⟩
  have := ck_ok hT hsp _ hC hy hy hy hr
  obtain ⟨r, h1, h2⟩ := wp_one _ _ this
  cases r with
  | ret d =>
    obtain ⟨rs, rfl, b1, b2⟩ := h1
    exact ⟨rs, b1, b2, Goes.step (h2 _ rfl)⟩
  | jump k' es' =>
    obtain ⟨h', b1, b2, b3, b4⟩ := h1
    obtain ⟨rs, c1, c2, c3⟩ := key _ (lexAcc _ _ rfl) k' h' es' b1 b2 b3 rfl
    exact ⟨rs, c1, c2, Goes.step (h2 _ c3)⟩
end
structure En where
  f : FuncId
  pats : List (Nat × Pat)
  S : Spec
  hs : List (Nat × Hd)
  rm : List Ms
def patN (l : List (Nat × Pat)) (k : Nat) : Pat := (lookN l k).getD ⟨[], [], []⟩
def treesOf (E : Env) (fn : Func) (c : Code) (l : List (Nat × Pat)) (n : Nat) : List (Nat × Tree) :=
  (0, rootT E (fun k S => jumpS (Nat.max fn.ntmps n) (patN l k) k S) fn n) :: headsT E (fun k => (patN l k).st (Nat.max fn.ntmps n)) (fun k S => jumpS (Nat.max fn.ntmps n) (patN l k) k S) 1 c (endK E fn.results.toList)
def enX (T : Tb) (tab : List (FuncId × Spec)) (e : En) : Fx := ⟨T, lookN tab, e.S, lookN e.hs⟩
def enTs (T : Tb) (tab : List (FuncId × Spec)) (e : En) (ts : List (Nat × Tree)) : Bool :=
  diffN ts && (match beg e.S with
    | (C, y0) => ck (enX T tab e) y0 y0 e.rm (tsOf ts 0) y0 C && ckHeads (enX T tab e) C y0 ts e.rm.length e.hs)
theorem regs_at {P : Program} (h : regsAll P = true) {fn : Func} {c : Code} (hm : fn ∈ P.funcs.toList) (hb : fn.body = some c) : (fn.name == "runtime.NumGoroutine" || !regsOk c) = false := by
  unfold regsAll at h
  rw [Bool.and_eq_true] at h
  have := List.all_eq_true.1 h.2 fn hm
  rw [hb] at this
  simp only [Bool.and_eq_true, Bool.not_eq_true'] at this
  rw [this.1, this.2]; rfl
def nthF : List Func → Nat → Option Func
  | [], _ => none
  | f :: _, 0 => some f
  | _ :: r, n + 1 => nthF r n
theorem nthF_ok : ∀ {l : List Func} {n : Nat}, nthF l n = l[n]?
  | [], n => by simp [nthF]
  | f :: _, 0 => by simp [nthF]
  | _ :: r, n + 1 => by simp [nthF, nthF_ok (l := r)]
def enOk (E : Env) (P : Program) (T : Tb) (tab : List (FuncId × Spec)) (e : En) : Bool := Nat.blt e.f bigN && (match nthF P.funcs.toList e.f with
  | some fn => (match fn.body with
    | some c => enTs T tab e (treesOf E fn c e.pats e.S.ss.length)
    | none => false)
  | none => false)
theorem enOk_ok {P : Program} (hg : envGood P = true) (hr : regsAll P = true) {T : Tb} (hT : TbOk (envOf P) T) {tab : List (FuncId × Spec)} (htab : ∀ p ∈ tab, SpOk (Holds (envOf P)) p.1 p.2) {e : En} (h : enOk (envOf P) P T tab e = true) : SpOk (Holds (envOf P)) e.f e.S := by
  have he := env_ok hg
  unfold enOk at h
  rw [Bool.and_eq_true] at h
  obtain ⟨h1, h2⟩ := h
  split at h2
  · rename_i fn hfn
    rw [nthF_ok] at hfn
    split at h2
    · rename_i c hc
      have hfn2 : (envOf P).funcs.get e.f = some fn := envFunc (by simpa using hfn) hc (regs_at hr (List.mem_of_getElem? hfn) hc)
      unfold enTs at h2
      rw [Bool.and_eq_true] at h2
      obtain ⟨h3, h4⟩ := h2
      have hd := diffN_ok h3
      split at h4
      rename_i C y0 hb
      rw [Bool.and_eq_true] at h4
      intro ds hds hp
      have hb1 : C = (beg e.S).1 := by rw [hb]
      have hb2 : y0 = (beg e.S).2 := by rw [hb]
      subst hb1 hb2
      obtain ⟨rs, r1, r2, r3⟩ := goes_fn hT (fun f S hf => htab (f, S) (lookN_mem hf)) h4.1 h4.2 hds hp
      refine ⟨rs, r1, r2, ?_⟩
      have hl : ds.length = e.S.ss.length := hasNs_len hds
      refine holds_of he hfn2 hc (pats := patN e.pats) hl ?_ ?_ r3 (Nat.le_of_ble_eq_true h1)
      · have := hd _ List.mem_cons_self
        unfold tsOf
        rw [this]; rfl
      · intro x hx
        have := hd x (List.mem_cons_of_mem _ hx)
        unfold tsOf
        rw [this]; rfl
    · cases h2
  · cases h2
def allOk (E : Env) (P : Program) (T : Tb) : List (FuncId × Spec) → List En → Bool
  | _, [] => true
  | tab, e :: r => enOk E P T tab e && allOk E P T ((e.f, e.S) :: tab) r
def tabOf : List (FuncId × Spec) → List En → List (FuncId × Spec)
  | tab, [] => tab
  | tab, e :: r => tabOf ((e.f, e.S) :: tab) r
theorem allOk_ok {P : Program} (hg : envGood P = true) (hr : regsAll P = true) {T : Tb} (hT : TbOk (envOf P) T) : ∀ {l : List En} {tab : List (FuncId × Spec)}, (∀ p ∈ tab, SpOk (Holds (envOf P)) p.1 p.2) → allOk (envOf P) P T tab l = true → ∀ p ∈ tabOf tab l, SpOk (Holds (envOf P)) p.1 p.2
  | [], tab, ht, _ => ht
  | e :: r, tab, ht, h => by
    rw [allOk, Bool.and_eq_true] at h
    have h2 : ∀ p ∈ (e.f, e.S) :: tab, SpOk (Holds (envOf P)) p.1 p.2 := by
      intro p hp
      rcases List.mem_cons.1 hp with rfl | hp
      · exact enOk_ok hg hr hT ht h.1
      · exact ht p hp
    show ∀ p ∈ tabOf ((e.f, e.S) :: tab) r, SpOk (Holds (envOf P)) p.1 p.2
    exact allOk_ok hg hr hT h2 h.2
def cvL : List (TypeId × TypeId × IntKind × IntKind) → TypeId → TypeId → IntKind → Option IntKind
  | [], _, _, _ => none
  | (a, b, k, k') :: r, s, d, q => bif Nat.beq a s && Nat.beq b d && decide (k = q) then some k' else cvL r s d q
def qrL : List (Bool × TypeId × Int) → Bool → TypeId → Int → Bool
  | [], _, _, _ => false
  | (m, t, c) :: r, m', t', c' => (bif (bif m then m' else !m') && Nat.beq t t' && decide (c = c') then true else qrL r m' t' c')
def othOf (cv : List (TypeId × TypeId × IntKind × IntKind)) (qr : List (Bool × TypeId × Int)) (o : TOp) (ys : List Y) : Option IntKind := match o, ys with
  | .conv s d, [.int k _ _] => cvL cv s d k
  | .bin .quo t _ _, [.int .i64 _ _, .int .i64 v c] => bif Nat.beq v 0 && qrL qr false t c then some .i64 else none
  | .bin .rem t _ _, [.int .i64 _ _, .int .i64 v c] => bif Nat.beq v 0 && qrL qr true t c then some .i64 else none
  | _, _ => none
def CvOk (E : Env) (x : TypeId × TypeId × IntKind × IntKind) : Prop := ∀ m : Int, ∃ n : Int, TOp.eval E (.conv x.1 x.2.1) [.leaf (.int x.2.2.1 m)] = some (.leaf (.int x.2.2.2 n))
def QrOk (E : Env) (x : Bool × TypeId × Int) : Prop := ∀ (m : Int) (o p : Operand), ∃ n : Int, TOp.eval E (.bin (bif x.1 then .rem else .quo) x.2.1 o p) [dI m, dI x.2.2] = some (dI n)
def StOk (E : Env) (x : Nat × (Nat × List Sn)) : Prop := (eqTy E.prog x.2.1 x.1, isSt E.prog x.1, Nat.ble x.2.1 10000, E.prog.eqGuardType E.prog.depth x.1, (Sn.shs x.2.2).all flatS, Sn.lows x.2.2) = (some (Sn.shs x.2.2), true, true, false, true, true)
theorem cvL_ok : ∀ {l : List (TypeId × TypeId × IntKind × IntKind)} {s d : TypeId} {q k : IntKind}, cvL l s d q = some k → (s, d, q, k) ∈ l
  | [], _, _, _, _, h => by cases h
  | (a, b, k, k') :: r, s, d, q, z, h => by
    simp only [cvL] at h
    cases hb : (Nat.beq a s && Nat.beq b d && decide (k = q)) with
    | true =>
      rw [hb] at h; cases h
      simp only [Bool.and_eq_true] at hb
      have h1 := Nat.eq_of_beq_eq_true hb.1.1
      have h2 := Nat.eq_of_beq_eq_true hb.1.2
      have h3 := of_decide_eq_true hb.2
      subst h1 h2 h3
      exact List.mem_cons_self
    | false => rw [hb] at h; exact List.mem_cons_of_mem _ (cvL_ok h)
theorem qrL_ok : ∀ {l : List (Bool × TypeId × Int)} {m : Bool} {t : TypeId} {c : Int}, qrL l m t c = true → (m, t, c) ∈ l
  | [], _, _, _, h => by cases h
  | (a, b, e) :: r, m, t, c, h => by
    simp only [qrL] at h
    cases hb : ((bif a then m else !m) && Nat.beq b t && decide (e = c)) with
    | true =>
      simp only [Bool.and_eq_true] at hb
      have h2 := Nat.eq_of_beq_eq_true hb.1.2
      have h3 := of_decide_eq_true hb.2
      subst h2 h3
      have h1 : a = m := by cases a <;> cases m <;> first | rfl | (cases hb.1.1)
      subst h1
      exact List.mem_cons_self
    | false => rw [hb] at h; exact List.mem_cons_of_mem _ (qrL_ok h)
def tbOf (sh : List (Nat × Sn)) (cv : List (TypeId × TypeId × IntKind × IntKind)) (qr : List (Bool × TypeId × Int)) (st : List (Nat × (Nat × List Sn))) : Tb := ⟨lookN sh, othOf cv qr, lookN st⟩
theorem int0 {σ : Wd} {C : Cx} (hC : COk σ C) {k : IntKind} {v : Nat} {c : Int} {d : D} (hv : Nat.beq v 0 = true) (h : relY σ (.int k v c) d) : d = .leaf (.int k c) := by
  have hv := Nat.eq_of_beq_eq_true hv
  subst hv
  obtain ⟨z, hz⟩ := hC.s.z
  simp only [relY] at h
  obtain ⟨x, hx, rfl⟩ := h
  rw [hz] at hx; cases hx
  simp
theorem tb_ok {E : Env} {sh : List (Nat × Sn)} {cv : List (TypeId × TypeId × IntKind × IntKind)} {qr : List (Bool × TypeId × Int)} {st : List (Nat × (Nat × List Sn))}
    (h1 : ∀ x ∈ cv, CvOk E x) (h2 : ∀ x ∈ qr, QrOk E x) (h3 : ∀ x ∈ st, StOk E x) : TbOk E (tbOf sh cv qr st) where
  o := by
    intro o ys k h σ C ds hC hd
    have h : othOf cv qr o ys = some k := h
    unfold othOf at h
    split at h
    · simp only [relYs] at hd
      obtain ⟨d, _, rfl, hd, rfl⟩ := hd
      simp only [relY] at hd
      obtain ⟨x, _, rfl⟩ := hd
      exact h1 _ (cvL_ok h) _
    · simp only [relYs] at hd
      obtain ⟨d, _, rfl, hd, e, _, rfl, he, rfl⟩ := hd
      obtain ⟨hb, h⟩ := bif_none h
      cases h
      rw [Bool.and_eq_true] at hb
      rw [int0 hC hb.1 he]
      simp only [relY] at hd
      obtain ⟨x, _, rfl⟩ := hd
      exact h2 _ (qrL_ok hb.2) _ _ _
    · simp only [relYs] at hd
      obtain ⟨d, _, rfl, hd, e, _, rfl, he, rfl⟩ := hd
      obtain ⟨hb, h⟩ := bif_none h
      cases h
      rw [Bool.and_eq_true] at hb
      rw [int0 hC hb.1 he]
      simp only [relY] at hd
      obtain ⟨x, _, rfl⟩ := hd
      exact h2 _ (qrL_ok hb.2) _ _ _
    · cases h
  s := by
    intro t k ss h
    have := h3 _ (lookN_mem h)
    unfold StOk at this
    simp only [Prod.mk.injEq] at this
    exact ⟨this.1, this.2.1, Nat.le_of_ble_eq_true this.2.2.1, this.2.2.2.1, this.2.2.2.2.1, this.2.2.2.2.2⟩
theorem allN {α : Type} {P : α → Prop} : ∀ x ∈ ([] : List α), P x := fun _ h => by cases h
theorem allC {α : Type} {P : α → Prop} {a : α} {r : List α} (h : P a) (hr : ∀ x ∈ r, P x) : ∀ x ∈ a :: r, P x := by
  intro x hx
  rcases List.mem_cons.1 hx with rfl | hx
  · exact h
  · exact hr x hx
end Go.Am.Tt
namespace Go.Am.Tt
open Go Go.Am
mutual
def Sn.big : Sn → Bool
  | .int _ => true
  | .bool => true
  | .str n => Nat.beq n 300000000
  | .st fs => Sn.bigs fs
  | .sl _ _ n e => Nat.beq n 300000000 && Sn.big e
  | .any => false
def Sn.bigs : List Sn → Bool
  | [] => true
  | s :: r => Sn.big s && Sn.bigs r
end
mutual
theorem hasB_N : ∀ {s : Sn} {d : D}, Sn.big s = true → HasB 300000000 s.sh d → HasN s d
  | .int k, d, _, h => by simp only [Sn.sh, HasB] at h; simp only [HasN]; exact h
  | .bool, d, _, h => by simp only [Sn.sh, HasB] at h; simp only [HasN]; exact h
  | .str n, d, hl, h => by
    have := Nat.eq_of_beq_eq_true hl
    subst this
    simp only [Sn.sh, HasB] at h; simp only [HasN]; exact h
  | .st fs, d, hl, h => by
    simp only [Sn.sh, HasB] at h; simp only [HasN]
    obtain ⟨cs, hd, h⟩ := h
    exact ⟨cs, hd, hasBs_N hl h⟩
  | .sl el sz n e, d, hl, h => by
    simp only [Sn.big, Bool.and_eq_true] at hl
    have := Nat.eq_of_beq_eq_true hl.1
    subst this
    simp only [Sn.sh, HasB] at h; simp only [HasN]
    rcases h with h | ⟨es, hd, hn, ha⟩
    · exact .inl h
    · exact .inr ⟨es, hd, hn, fun x hx => hasB_N hl.2 (ha x hx)⟩
  | .any, d, hl, h => by cases hl
theorem hasBs_N : ∀ {ss : List Sn} {ds : List D}, Sn.bigs ss = true → HasBs 300000000 (Sn.shs ss) ds → HasNs ss ds
  | [], ds, _, h => by simp only [Sn.shs, HasBs] at h; simp only [HasNs]; exact h
  | s :: r, ds, hl, h => by
    simp only [Sn.bigs, Bool.and_eq_true] at hl
    simp only [Sn.shs, HasBs] at h; simp only [HasNs]
    obtain ⟨d, r', hd, h1, h2⟩ := h
    exact ⟨d, r', hd, hasB_N hl.1 h1, hasBs_N hl.2 h2⟩
end
mutual
def Sn.least (B : Nat) : Sn → Bool
  | .int _ => true
  | .bool => true
  | .str n => Nat.ble B n
  | .st fs => Sn.leasts B fs
  | .sl _ _ n e => Nat.ble B n && Sn.least B e
  | .any => false
def Sn.leasts (B : Nat) : List Sn → Bool
  | [] => true
  | s :: r => Sn.least B s && Sn.leasts B r
end
mutual
theorem hasB_least {B : Nat} : ∀ {s : Sn} {d : D}, Sn.least B s = true → HasB B s.sh d → HasN s d
  | .int k, d, _, h => by simp only [Sn.sh, HasB] at h; simp only [HasN]; exact h
  | .bool, d, _, h => by simp only [Sn.sh, HasB] at h; simp only [HasN]; exact h
  | .str n, d, hl, h => by
    have := Nat.le_of_ble_eq_true hl
    simp only [Sn.sh, HasB] at h; simp only [HasN]
    obtain ⟨s, hs, hn⟩ := h
    exact ⟨s, hs, Nat.le_trans hn this⟩
  | .st fs, d, hl, h => by
    simp only [Sn.sh, HasB] at h; simp only [HasN]
    obtain ⟨cs, hd, h⟩ := h
    exact ⟨cs, hd, hasBs_least hl h⟩
  | .sl el sz n e, d, hl, h => by
    simp only [Sn.least, Bool.and_eq_true] at hl
    have := Nat.le_of_ble_eq_true hl.1
    simp only [Sn.sh, HasB] at h; simp only [HasN]
    rcases h with h | ⟨es, hd, hn, ha⟩
    · exact .inl h
    · exact .inr ⟨es, hd, Nat.le_trans hn this, fun x hx => hasB_least hl.2 (ha x hx)⟩
  | .any, d, hl, h => by cases hl
theorem hasBs_least {B : Nat} : ∀ {ss : List Sn} {ds : List D}, Sn.leasts B ss = true → HasBs B (Sn.shs ss) ds → HasNs ss ds
  | [], ds, _, h => by simp only [Sn.shs, HasBs] at h; simp only [HasNs]; exact h
  | s :: r, ds, hl, h => by
    simp only [Sn.leasts, Bool.and_eq_true] at hl
    simp only [Sn.shs, HasBs] at h; simp only [HasNs]
    obtain ⟨d, r', hd, h1, h2⟩ := h
    exact ⟨d, r', hd, hasB_least hl.1 h1, hasBs_least hl.2 h2⟩
end
theorem stOk_of {E : Env} {x : Nat × (Nat × List Sn)} (h : (eqTy E.prog x.2.1 x.1, isSt E.prog x.1, Nat.ble x.2.1 10000, E.prog.eqGuardType E.prog.depth x.1, (Sn.shs x.2.2).all flatS, Sn.lows x.2.2) = (some (Sn.shs x.2.2), true, true, false, true, true)) : StOk E x := h
section
variable {HS : FuncId → List D → D → Prop}
theorem sp_of {tab : List (FuncId × Spec)} (h : ∀ p ∈ tab, SpOk HS p.1 p.2) {f : FuncId} {S : Spec} (hl : lookN tab f = some S) : SpOk HS f S := h (f, S) (lookN_mem hl)
theorem sp1 {f : FuncId} {S : Spec} {r : Sn} (h : SpOk HS f S) (hr : S.rs = [r]) (hp : S.pre = []) (hb : Sn.bigs S.ss = true) (hl : Sn.low r = true) {ds : List D} (hd : HasBs 300000000 (Sn.shs S.ss) ds) : ∃ d, HasB 300000000 r.sh d ∧ HS f ds d := by
  obtain ⟨rs, h1, _, h2⟩ := h ds (hasBs_N hb hd) (by rw [hp]; intro q hq; cases hq)
  rw [hr] at h1
  simp only [HasNs] at h1
  obtain ⟨d, _, rfl, h3, rfl⟩ := h1
  exact ⟨d, hasN_B hl h3, h2⟩
end
end Go.Am.Tt
