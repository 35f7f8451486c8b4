/- Copies: data that equality does not tell apart. Conditions: none. -/
import Derived.Test.YtbdamohgaleajaaGreatDoorUv
import Derived.Test.YtbdamohgaleajaaGreatDoorCc
namespace Go.Am
open Go
def cpl (el sz : Nat) (d : D) : D := .sl el sz d.es
def Eqv (a a' : D) : Prop := ∀ b, deq a' b = deq a b ∧ deq b a' = deq b a
theorem Eqv.refl (a : D) : Eqv a a := fun _ => ⟨rfl, rfl⟩
def Eqvs : List D → List D → Prop
 | [], [] => True
 | a :: us, b :: bs => Eqv a b ∧ Eqvs us bs
 | _, _ => False
theorem Eqvs.deqs : ∀ {us us' : List D}, Eqvs us us' → ∀ bs, deqs us' bs = deqs us bs ∧ deqs bs us' = deqs bs us
 | [], [], _, _ => ⟨rfl, rfl⟩
 | [], _ :: _, h, _ => by cases h
 | _ :: _, [], h, _ => by cases h
 | a :: us, a' :: us', h, [] => ⟨rfl, rfl⟩
 | a :: us, a' :: us', h, b :: bs => by
  obtain ⟨h1, h2⟩ := h.1 b
  obtain ⟨h3, h4⟩ := Eqvs.deqs h.2 bs
  simp only [deqs_cons, h1, h2, h3, h4, and_self]
theorem Eqv.agg {us us' : List D} (h : Eqvs us us') : Eqv (.agg us) (.agg us') := by
 intro b
 cases b with
 | agg bs =>
  obtain ⟨h1, h2⟩ := h.deqs bs
  simp only [deq_agg, h1, h2, and_self]
 | _ => exact ⟨by simp only [deq], by simp only [deq]⟩
theorem Eqvs.empty : ∀ {us us' : List D}, Eqvs us us' → us'.isEmpty = us.isEmpty
 | [], [], _ => rfl
 | [], _ :: _, h => by cases h
 | _ :: _, [], h => by cases h
 | _ :: _, _ :: _, _ => rfl
theorem Eqv.sl {el sz el' sz' : Nat} {a : D} {es : List D} (ha : IsSl el' sz' a) (h : Eqvs a.es es) : Eqv a (.sl el sz es) := by
 intro b
 rcases ha with rfl | ⟨us, rfl, _⟩
 ·
  have h : Eqvs [] es := h
  cases es with
  | cons _ _ => cases h
  | nil =>
   cases b with
   | nil => exact ⟨by simp only [deq, List.isEmpty_nil], by simp only [deq, List.isEmpty_nil]⟩
   | sl _ _ bs => cases bs <;> exact ⟨by simp [deq, Go.Am.deqs], by simp [deq, Go.Am.deqs]⟩
   | _ => exact ⟨by simp only [deq], by simp only [deq]⟩
 ·
  have h : Eqvs us es := h
  cases b with
  | nil => exact ⟨by simp only [deq]; exact h.empty, by simp only [deq]; exact h.empty⟩
  | sl _ _ bs =>
   obtain ⟨h1, h2⟩ := h.deqs bs
   exact ⟨by simp only [deq, h1], by simp only [deq, h2]⟩
  | _ => exact ⟨by simp only [deq], by simp only [deq]⟩
theorem eqvs_refl : ∀ us : List D, Eqvs us us
 | [] => trivial
 | a :: us => ⟨.refl a, eqvs_refl us⟩
theorem eqvs_map {f : D → D} : ∀ {us : List D}, (∀ x ∈ us, Eqv x (f x)) → Eqvs us (us.map f)
 | [], _ => trivial
 | a :: us, h => ⟨h a List.mem_cons_self, eqvs_map fun x hx => h x (List.mem_cons_of_mem _ hx)⟩
theorem eqv_cpl {el sz el' sz' : Nat} {a : D} (ha : IsSl el' sz' a) : Eqv a (cpl el sz a) := .sl ha (eqvs_refl _)
theorem eqv_map {el sz el' sz' : Nat} {a : D} {f : D → D} (ha : IsSl el' sz' a) (h : ∀ x ∈ a.es, Eqv x (f x)) : Eqv a (.sl el sz (a.es.map f)) := .sl ha (eqvs_map h)
theorem Eqv.both {a a' b b' : D} (ha : Eqv a a') (hb : Eqv b b') : deq a' b' = deq a b := (ha b').1.trans (hb a).2
theorem deqs_all_self (es : List D) (k : ∀ x ∈ es, deq x x = true) : deqs es es = true := by
 induction es with
 | nil => rfl
 | cons a us ih => simp only [deqs_cons, k a List.mem_cons_self, ih fun x hx => k x (List.mem_cons_of_mem _ hx), Bool.and_self]
mutual
theorem deq_self : ∀ {s : Sh} {d : D}, HasSh s d → deq d d = true
 | .int k, d, h => by obtain ⟨n, rfl⟩ := h; simp [deq, veq]
 | .bool, d, h => by obtain ⟨n, rfl⟩ := h; simp [deq, veq]
 | .str, d, h => by obtain ⟨n, rfl⟩ := h; simp only [deq, veq]; exact bytes_self n
 | .st fs, d, h => by
  simp only [HasSh] at h
  obtain ⟨cs, rfl, h⟩ := h
  simp only [deq]; exact deqs_self h
 | .sl el sz e, d, h => by
  simp only [HasSh] at h
  rcases h with rfl | ⟨es, rfl, _, h⟩
  ·
   rfl
  ·
   simp only [deq]
   exact deqs_all_self es fun x hx => deq_self (s := e) (h x hx)
theorem deqs_self : ∀ {ss : List Sh} {ds : List D}, HasShs ss ds → deqs ds ds = true
 | [], ds, h => by simp only [HasShs] at h; subst h; rfl
 | s :: ss, ds, h => by
  simp only [HasShs] at h
  obtain ⟨d, r, rfl, h1, h2⟩ := h
  simp only [deqs_cons, deq_self h1, deqs_self h2, Bool.and_self]
end
section
variable {E : Env} {B : Nat}
theorem lit0 {el sz : Nat} : TOp.eval E (.lit el sz) [] = some (.sl el sz []) := by
 rw [ev_lit]
 show (bif true && Nat.ble (0 * (sz + 1)) 1000000 then _ else _) = _
 rw [Nat.zero_mul]; rfl
theorem lit1 {el sz : Nat} {x : D} (h : x.cells.length = sz) (hs : Nat.ble sz 1000 = true) : TOp.eval E (.lit el sz) [x] = some (.sl el sz [x]) := by
 rw [ev_lit]
 have h1 : Nat.beq x.cells.length sz = true := by rw [h]; exact Nat.beq_refl _
 have h2 : Nat.ble (Nat.mul [x].length (Nat.succ sz)) 1000000 = true := by
  have := Nat.le_of_ble_eq_true hs
  refine Nat.ble_eq_true_of_le ?_
  show 1 * (sz + 1) ≤ 1000000
  omega
 simp only [List.all_cons, List.all_nil, h1, h2, Bool.and_self, cond_true]
theorem app_ble2 {n bytes : Nat} (h : n ≤ 4000000) (hb : bytes ≤ 1000) : Nat.ble (Nat.mul (Nat.add (Nat.mul 4 n) 4000) (Nat.succ bytes)) 100000000000 = true := by
 rw [Nat.ble_eq]
 have h1 : 4 * n + 4000 ≤ 16004000 := by omega
 have h2 : bytes + 1 ≤ 1001 := by omega
 exact Nat.le_trans (Nat.mul_le_mul h1 h2) (Nat.le_of_ble_eq_true rfl)
theorem app_cpl {el sz bytes : Nat} {d : D} {e : Sh} (hd : HasB B (.sl el sz e) d) (hb : bytes ≤ 1000) (hl : d.es.length ≤ 2000000) : TOp.eval E (.app el sz bytes) [.sl el sz [], d] = some (cpl el sz d) := by
 rw [ev_app]
 have tt : ∀ (b : Bool) (x y : Option D), b = true → (bif b then x else y) = x := fun b x y hb => by rw [hb]; rfl
 simp only [HasB] at hd
 have hss : strSize (.sl el sz []) = some 0 := rfl
 rw [hss]
 rcases hd with rfl | ⟨es, rfl, _, _⟩
 ·
  exact tt _ _ _ (app_ble2 (by omega) hb)
 ·
  have h2 : Nat.beq sz sz = true := Nat.beq_refl _
  have h1 : Nat.ble (Nat.mul (Nat.add (Nat.mul 4 (Nat.add 0 es.length)) 4000) (Nat.succ bytes)) 100000000000 = true := app_ble2 (by have : (D.sl el sz es).es.length = es.length := rfl; show 0 + es.length ≤ _; omega) hb
  refine (tt _ _ _ (by rw [h1, h2]; show (true && true && (Nat.beq el el && Nat.beq sz sz)) = true; rw [Nat.beq_refl, Nat.beq_refl]; rfl)).trans ?_
  rw [bif_beq]
  split
  ·
   rename_i h0
   have : es = [] := List.length_eq_zero_iff.1 h0
   subst this; rfl
  ·
   rfl
theorem app_snoc {el sz bytes : Nat} {l : List D} {y : D} (hb : bytes ≤ 1000) (hl : l.length ≤ 2000000) : TOp.eval E (.app el sz bytes) [.sl el sz l, .sl el sz [y]] = some (.sl el sz (l ++ [y])) := by
 rw [ev_app]
 have tt : ∀ (b : Bool) (x y : Option D), b = true → (bif b then x else y) = x := fun b x y hb => by rw [hb]; rfl
 have h2 : Nat.beq sz sz = true := Nat.beq_refl _
 have hss : strSize (.sl el sz l) = some l.length := rfl
 rw [hss]
 have h1 : Nat.ble (Nat.mul (Nat.add (Nat.mul 4 (Nat.add l.length [y].length)) 4000) (Nat.succ bytes)) 100000000000 = true := app_ble2 (by show l.length + 1 ≤ _; omega) hb
 exact (tt _ _ _ (by rw [h1, h2]; show (true && true && (Nat.beq el el && Nat.beq sz sz)) = true; rw [Nat.beq_refl, Nat.beq_refl]; rfl)).trans rfl
theorem take_map {f : D → D} {l : List D} {i : Nat} {x : D} (h : l[i]? = some x) : (l.take (i + 1)).map f = (l.take i).map f ++ [f x] := by
 rw [List.take_add_one, h, List.map_append]; rfl
theorem take_map_all {f : D → D} {l : List D} {i : Nat} (h : ¬ i < l.length) : (l.take i).map f = l.map f := by
 rw [List.take_of_length_le (by omega)]
theorem take_len {f : D → D} {l : List D} {i : Nat} : ((l.take i).map f).length ≤ l.length := by
 rw [List.length_map, List.length_take]; exact Nat.min_le_right _ _
end
end Go.Am
namespace Go.Proofs.YtbdamohgaleajaaGreatDoor
open Go Go.Am Go.Proofs
attribute [local irreducible] Go.Am.wp Go.Am.TOp.eval
abbrev ShI : Sh := zL
abbrev ShII : Sh := .st [.int .i64, .int .i64]
abbrev ShE : Sh := .st [.int .i64, ShI, .int .i64, .sl 31 1 ShI, .int .i64, .sl 86 2 (.st [.str, .str]), .sl 59 2 ShII, .sl 116 2 ShII]
abbrev ShU : Sh := .st [.str, ShI]
abbrev ShR : Sh := .st [ShI, ShI, .sl 51 2 ShII, .sl 51 2 ShII, .bool, .bool]
abbrev ShL : Sh := .st [.sl 67 2 (.st [.str, .int .i64]), .str, .sl 74 2 ShU, .sl 63 1 (.sl 9 1 .str), .sl 44 6 ShR, .int .i64, .sl 84 3 (.st [.int .i64, .int .i64, .int .i64]), ShI, .sl 57 8 ShE]
def cpE : D → D
 | .agg [x0, x1, x2, x3, x4, x5, x6, x7] => .agg [x0, cpl 3 1 x1, x2, .sl 31 1 (x3.es.map (cpl 3 1)), x4, cpl 86 2 x5, cpl 59 2 x6, cpl 116 2 x7]
 | d => d
def cpU : D → D
 | .agg [x0, x1] => .agg [x0, cpl 3 1 x1]
 | d => d
def cpR : D → D
 | .agg [x0, x1, x2, x3, x4, x5] => .agg [cpl 3 1 x0, cpl 3 1 x1, cpl 51 2 x2, cpl 51 2 x3, x4, x5]
 | d => d
def cpL : D → D
 | .agg [x0, x1, x2, x3, x4, x5, x6, x7, x8] => .agg [cpl 67 2 x0, x1, .sl 74 2 (x2.es.map cpU), .sl 63 1 (x3.es.map (cpl 9 1)), .sl 44 6 (x4.es.map cpR), x5, cpl 84 3 x6, cpl 3 1 x7, .sl 57 8 (x8.es.map cpE)]
 | d => d
variable {B : Nat}
theorem g24 {x0 x2 x4 : Int} {x1 x3 x5 x6 x7 : D} (h1 : HasB 1048576 ShI x1) (h3 : HasB 1048576 (.sl 31 1 ShI) x3) (h5 : HasB 1048576 (.sl 86 2 (.st [.str, .str])) x5) (h6 : HasB 1048576 (.sl 59 2 ShII) x6) (h7 : HasB 1048576 (.sl 116 2 ShII) x7) :
  Holds EE 24 [.agg [dI x0, x1, dI x2, x3, dI x4, x5, x6, x7]] (cpE (.agg [dI x0, x1, dI x2, x3, dI x4, x5, x6, x7])) := by
 refine u24 rfl (Goes.step' ?_)
 have i1 := isSl_ofB h1
 have i3 := isSl_ofB h3
 have i5 := isSl_ofB h5
 have i6 := isSl_ofB h6
 have i7 := isSl_ofB h7
 have b1 := len_leB h1
 have b3 := len_leB h3
 have b5 := len_leB h5
 have b6 := len_leB h6
 have b7 := len_leB h7
 show wp _ _ _ u24T0 _
 refine bS (d := .agg [dI x0, x1, dI x2, x3, dI x4, x5, x6, x7]) (sh_chkW rfl) ?_
 refine bS (d := .sl 3 1 []) lit0 ?_
 refine bS (d := x1) (sh_fld1 rfl i1.one) ?_
 refine bS (d := cpl 3 1 x1) (app_cpl h1 (by decide) (by omega)) ?_
 refine bS (d := .agg [dI x0, x1, dI x2, x3, dI x4, x5, x6, x7]) (sh_chkW rfl) ?_
 refine bS (d := dI x0) (sh_fld1 rfl rfl) ?_
 refine bS (d := x1) (sh_fld1 rfl i1.one) ?_
 refine bS (d := dI x2) (sh_fld1 rfl rfl) ?_
 refine bS (d := x3) (sh_fld1 rfl i3.one) ?_
 refine bS (d := dI x4) (sh_fld1 rfl rfl) ?_
 refine bS (d := x5) (sh_fld1 rfl i5.one) ?_
 refine bS (d := x6) (sh_fld1 rfl i6.one) ?_
 refine bS (d := x7) (sh_fld1 rfl i7.one) ?_
 refine bS (d := .sl 31 1 []) lit0 ?_
 refine wp_jumpTo rfl (loop_up (P := fun (i : Nat) => ∀ out : List D, out = (x3.es.take i).map (cpl 3 1) → i ≤ x3.es.length → Goes EE (Holds EE) u24Ts 1 [.sl 31 1 out, dI ((i : Nat) : Int), dI x0, cpl 3 1 x1, dI x2, x3, dI x4, x5, x6, x7] (cpE (.agg [dI x0, x1, dI x2, x3, dI x4, x5, x6, x7]))) x3.es.length (fun i ih => ?_) 0 [] (by simp) (Nat.zero_le _))
 intro out ho hi
 refine Goes.step' ?_
 have hol : out.length ≤ x3.es.length := by rw [ho]; exact take_len
 show wp _ _ _ u24T1 _
 refine bS (d := dI ((x3.es.length : Nat) : Int)) (sh_len i3) ?_
 refine bS sk_lss ?_
 refine iD rfl (fun c0 => ?_) (fun c0 => ?_)
 ·
  have hlt : i < x3.es.length := by omega
  have he : x3.es[i]? = some x3.es[i] := List.getElem?_eq_getElem hlt
  generalize x3.es[i] = y at he
  have hy := elem_ofB h3 he
  have iy := isSl_ofB hy
  have bY := len_leB hy
  refine bS (d := .sl 3 1 []) lit0 ?_
  refine bS (d := dB true) (sh_inr he) ?_
  refine bS (d := y) (sh_elem1 i3 he iy.one) ?_
  refine bS (d := cpl 3 1 y) (app_cpl hy (by decide) (by omega)) ?_
  refine bS (d := cpl 3 1 y) (sh_chk1 rfl) ?_
  refine bS (d := .sl 31 1 [cpl 3 1 y]) (lit1 rfl (by decide)) ?_
  refine bS (d := .sl 31 1 (out ++ [cpl 3 1 y])) (app_snoc (by decide) (by omega)) ?_
  refine bS (d := dI ((i + 1 : Nat) : Int)) (sh_add (cap_bd' (by omega))) ?_
  exact wp_jumpTo rfl (ih hlt _ (by rw [ho, take_map he]) hlt)
 ·
  refine bS (d := .sl 86 2 []) lit0 ?_
  refine bS (d := cpl 86 2 x5) (app_cpl h5 (by decide) (by omega)) ?_
  refine bS (d := .sl 59 2 []) lit0 ?_
  refine bS (d := cpl 59 2 x6) (app_cpl h6 (by decide) (by omega)) ?_
  refine bS (d := .sl 116 2 []) lit0 ?_
  refine bS (d := cpl 116 2 x7) (app_cpl h7 (by decide) (by omega)) ?_
  have hout : out = x3.es.map (cpl 3 1) := by rw [ho, take_map_all (by omega)]
  subst hout
  exact wp_retTo rfl rfl
end Go.Proofs.YtbdamohgaleajaaGreatDoor
namespace Go.Proofs.YtbdamohgaleajaaGreatDoor
open Go Go.Am Go.Proofs
attribute [local irreducible] Go.Am.wp Go.Am.TOp.eval
theorem g7 {x5 : Int} {s1 : ByteArray} {x0 x2 x3 x4 x6 x7 x8 : D} (h0 : HasB 1048576 (.sl 67 2 (.st [.str, .int .i64])) x0) (h2 : HasB 1048576 (.sl 74 2 ShU) x2) (h3 : HasB 1048576 (.sl 63 1 (.sl 9 1 .str)) x3) (h4 : HasB 1048576 (.sl 44 6 ShR) x4)
  (h6 : HasB 1048576 (.sl 84 3 (.st [.int .i64, .int .i64, .int .i64])) x6) (h7 : HasB 1048576 ShI x7) (h8 : HasB 1048576 (.sl 57 8 ShE) x8) :
  Holds EE 7 [.agg [x0, .leaf (.string s1), x2, x3, x4, dI x5, x6, x7, x8]] (cpL (.agg [x0, .leaf (.string s1), x2, x3, x4, dI x5, x6, x7, x8])) := by
 refine u7 rfl (Goes.step' ?_)
 have i0 := isSl_ofB h0
 have i2 := isSl_ofB h2
 have i3 := isSl_ofB h3
 have i4 := isSl_ofB h4
 have i6 := isSl_ofB h6
 have i7 := isSl_ofB h7
 have i8 := isSl_ofB h8
 have b0 := len_leB h0
 have b2 := len_leB h2
 have b3 := len_leB h3
 have b4 := len_leB h4
 have b6 := len_leB h6
 have b7 := len_leB h7
 have b8 := len_leB h8
 generalize hcp : cpL (.agg [x0, .leaf (.string s1), x2, x3, x4, dI x5, x6, x7, x8]) = fin
 have hcp : fin = .agg [cpl 67 2 x0, .leaf (.string s1), .sl 74 2 (x2.es.map cpU), .sl 63 1 (x3.es.map (cpl 9 1)), .sl 44 6 (x4.es.map cpR), dI x5, cpl 84 3 x6, cpl 3 1 x7, .sl 57 8 (x8.es.map cpE)] := hcp.symm
 have r4 : Goes EE (Holds EE) u7Ts 4 [.sl 57 8 [], dI ((0 : Nat) : Int), cpl 67 2 x0, .leaf (.string s1), .sl 74 2 (x2.es.map cpU), .sl 63 1 (x3.es.map (cpl 9 1)), .sl 44 6 (x4.es.map cpR), dI x5, cpl 84 3 x6, cpl 3 1 x7, x8] fin := by
  refine loop_up (P := fun (i : Nat) => ∀ out : List D, out = (x8.es.take i).map cpE → i ≤ x8.es.length → Goes EE (Holds EE) u7Ts 4 [.sl 57 8 out, dI ((i : Nat) : Int), cpl 67 2 x0, .leaf (.string s1), .sl 74 2 (x2.es.map cpU), .sl 63 1 (x3.es.map (cpl 9 1)), .sl 44 6 (x4.es.map cpR), dI x5, cpl 84 3 x6, cpl 3 1 x7, x8] fin) x8.es.length (fun i ih => ?_) 0 [] (by simp) (Nat.zero_le _)
  intro out ho hi
  refine Goes.step' ?_
  have hol : out.length ≤ x8.es.length := by rw [ho]; exact take_len
  show wp _ _ _ u7T4 _
  refine bS (d := dI ((x8.es.length : Nat) : Int)) (sh_len i8) ?_
  refine bS sk_lss ?_
  refine iD rfl (fun c0 => ?_) (fun c0 => ?_)
  ·
   have hlt : i < x8.es.length := by omega
   have he : x8.es[i]? = some x8.es[i] := List.getElem?_eq_getElem hlt
   generalize x8.es[i] = y at he
   obtain ⟨_, rfl, _, _, rfl, ⟨y0, rfl⟩, y1, _, rfl, k1, _, _, rfl, ⟨y2, rfl⟩, y3, _, rfl, k3, _, _, rfl, ⟨y4, rfl⟩, y5, _, rfl, k5, y6, _, rfl, k6, y7, _, rfl, k7, rfl⟩ := elem_ofB h8 he
   refine bS (d := dB true) (sh_inr he) ?_
   refine bS (d := .agg [dI y0, y1, dI y2, y3, dI y4, y5, y6, y7]) (sh_elemW i8 he rfl) ?_
   refine cS (d := cpE (.agg [dI y0, y1, dI y2, y3, dI y4, y5, y6, y7])) (g24 k1 k3 k5 k6 k7) ?_
   refine bS (d := cpE (.agg [dI y0, y1, dI y2, y3, dI y4, y5, y6, y7])) (sh_chkW rfl) ?_
   refine bS (d := .sl 57 8 [cpE (.agg [dI y0, y1, dI y2, y3, dI y4, y5, y6, y7])]) (lit1 rfl (by decide)) ?_
   refine bS (d := .sl 57 8 (out ++ [cpE (.agg [dI y0, y1, dI y2, y3, dI y4, y5, y6, y7])])) (app_snoc (by decide) (by omega)) ?_
   refine bS (d := dI ((i + 1 : Nat) : Int)) (sh_add (cap_bd' (by omega))) ?_
   exact wp_jumpTo rfl (ih hlt _ (by rw [ho, take_map he]) hlt)
  ·
   have hout : out = x8.es.map cpE := by rw [ho, take_map_all (by omega)]
   subst hout
   exact wp_retTo rfl hcp.symm
 have r3 : Goes EE (Holds EE) u7Ts 3 [.sl 44 6 [], dI ((0 : Nat) : Int), cpl 67 2 x0, .leaf (.string s1), .sl 74 2 (x2.es.map cpU), .sl 63 1 (x3.es.map (cpl 9 1)), x4, dI x5, x6, x7, x8] fin := by
  refine loop_up (P := fun (i : Nat) => ∀ out : List D, out = (x4.es.take i).map cpR → i ≤ x4.es.length → Goes EE (Holds EE) u7Ts 3 [.sl 44 6 out, dI ((i : Nat) : Int), cpl 67 2 x0, .leaf (.string s1), .sl 74 2 (x2.es.map cpU), .sl 63 1 (x3.es.map (cpl 9 1)), x4, dI x5, x6, x7, x8] fin) x4.es.length (fun i ih => ?_) 0 [] (by simp) (Nat.zero_le _)
  intro out ho hi
  refine Goes.step' ?_
  have hol : out.length ≤ x4.es.length := by rw [ho]; exact take_len
  show wp _ _ _ u7T3 _
  refine bS (d := dI ((x4.es.length : Nat) : Int)) (sh_len i4) ?_
  refine bS sk_lss ?_
  refine iD rfl (fun c0 => ?_) (fun c0 => ?_)
  ·
   have hlt : i < x4.es.length := by omega
   have he : x4.es[i]? = some x4.es[i] := List.getElem?_eq_getElem hlt
   generalize x4.es[i] = y at he
   obtain ⟨_, rfl, y0, _, rfl, k0, y1, _, rfl, k1, y2, _, rfl, k2, y3, _, rfl, k3, _, _, rfl, ⟨y4, rfl⟩, _, _, rfl, ⟨y5, rfl⟩, rfl⟩ := elem_ofB h4 he
   have j0 := isSl_ofB k0
   have j1 := isSl_ofB k1
   have j2 := isSl_ofB k2
   have j3 := isSl_ofB k3
   have c_0 := len_leB k0
   have c_1 := len_leB k1
   have c_2 := len_leB k2
   have c_3 := len_leB k3
   refine bS (d := dB true) (sh_inr he) ?_
   refine bS (d := .agg [y0, y1, y2, y3, dB y4, dB y5]) (sh_elemW i4 he rfl) ?_
   refine bS (d := .agg [y0, y1, y2, y3, dB y4, dB y5]) (sh_chkW rfl) ?_
   refine bS (d := .sl 3 1 []) lit0 ?_
   refine bS (d := y0) (sh_fld1 rfl j0.one) ?_
   refine bS (d := cpl 3 1 y0) (app_cpl k0 (by decide) (by omega)) ?_
   refine bS (d := .sl 3 1 []) lit0 ?_
   refine bS (d := y1) (sh_fld1 rfl j1.one) ?_
   refine bS (d := cpl 3 1 y1) (app_cpl k1 (by decide) (by omega)) ?_
   refine bS (d := .sl 51 2 []) lit0 ?_
   refine bS (d := y2) (sh_fld1 rfl j2.one) ?_
   refine bS (d := cpl 51 2 y2) (app_cpl k2 (by decide) (by omega)) ?_
   refine bS (d := .sl 51 2 []) lit0 ?_
   refine bS (d := y3) (sh_fld1 rfl j3.one) ?_
   refine bS (d := cpl 51 2 y3) (app_cpl k3 (by decide) (by omega)) ?_
   refine bS (d := dB y4) (sh_fld1 rfl rfl) ?_
   refine bS (d := dB y5) (sh_fld1 rfl rfl) ?_
   refine bS (d := .agg [cpl 3 1 y0, cpl 3 1 y1, cpl 51 2 y2, cpl 51 2 y3, dB y4, dB y5]) (sh_chkW rfl) ?_
   refine bS (d := .sl 44 6 [.agg [cpl 3 1 y0, cpl 3 1 y1, cpl 51 2 y2, cpl 51 2 y3, dB y4, dB y5]]) (lit1 rfl (by decide)) ?_
   refine bS (d := .sl 44 6 (out ++ [.agg [cpl 3 1 y0, cpl 3 1 y1, cpl 51 2 y2, cpl 51 2 y3, dB y4, dB y5]])) (app_snoc (by decide) (by omega)) ?_
   refine bS (d := dI ((i + 1 : Nat) : Int)) (sh_add (cap_bd' (by omega))) ?_
   exact wp_jumpTo rfl (ih hlt _ (by rw [ho, take_map he]; rfl) hlt)
  ·
   have hout : out = x4.es.map cpR := by rw [ho, take_map_all (by omega)]
   subst hout
   refine bS (d := .sl 84 3 []) lit0 ?_
   refine bS (d := cpl 84 3 x6) (app_cpl h6 (by decide) (by omega)) ?_
   refine bS (d := .sl 3 1 []) lit0 ?_
   refine bS (d := cpl 3 1 x7) (app_cpl h7 (by decide) (by omega)) ?_
   refine bS (d := .sl 57 8 []) lit0 ?_
   exact wp_jumpTo rfl r4
 have r2 : Goes EE (Holds EE) u7Ts 2 [.sl 74 2 (x2.es.map cpU), .sl 63 1 [], dI ((0 : Nat) : Int), cpl 67 2 x0, .leaf (.string s1), x2, x3, x4, dI x5, x6, x7, x8] fin := by
  refine loop_up (P := fun (i : Nat) => ∀ out : List D, out = (x3.es.take i).map (cpl 9 1) → i ≤ x3.es.length → Goes EE (Holds EE) u7Ts 2 [.sl 74 2 (x2.es.map cpU), .sl 63 1 out, dI ((i : Nat) : Int), cpl 67 2 x0, .leaf (.string s1), x2, x3, x4, dI x5, x6, x7, x8] fin) x3.es.length (fun i ih => ?_) 0 [] (by simp) (Nat.zero_le _)
  intro out ho hi
  refine Goes.step' ?_
  have hol : out.length ≤ x3.es.length := by rw [ho]; exact take_len
  show wp _ _ _ u7T2 _
  refine bS (d := dI ((x3.es.length : Nat) : Int)) (sh_len i3) ?_
  refine bS sk_lss ?_
  refine iD rfl (fun c0 => ?_) (fun c0 => ?_)
  ·
   have hlt : i < x3.es.length := by omega
   have he : x3.es[i]? = some x3.es[i] := List.getElem?_eq_getElem hlt
   generalize x3.es[i] = y at he
   have hy := elem_ofB h3 he
   have iy := isSl_ofB hy
   have bY := len_leB hy
   refine bS (d := .sl 9 1 []) lit0 ?_
   refine bS (d := dB true) (sh_inr he) ?_
   refine bS (d := y) (sh_elem1 i3 he iy.one) ?_
   refine bS (d := cpl 9 1 y) (app_cpl hy (by decide) (by omega)) ?_
   refine bS (d := cpl 9 1 y) (sh_chk1 rfl) ?_
   refine bS (d := .sl 63 1 [cpl 9 1 y]) (lit1 rfl (by decide)) ?_
   refine bS (d := .sl 63 1 (out ++ [cpl 9 1 y])) (app_snoc (by decide) (by omega)) ?_
   refine bS (d := dI ((i + 1 : Nat) : Int)) (sh_add (cap_bd' (by omega))) ?_
   exact wp_jumpTo rfl (ih hlt _ (by rw [ho, take_map he]) hlt)
  ·
   have hout : out = x3.es.map (cpl 9 1) := by rw [ho, take_map_all (by omega)]
   subst hout
   refine bS (d := .sl 44 6 []) lit0 ?_
   exact wp_jumpTo rfl r3
 show wp _ _ _ u7T0 _
 refine bS (d := .agg [x0, .leaf (.string s1), x2, x3, x4, dI x5, x6, x7, x8]) (sh_chkW rfl) ?_
 refine bS (d := .sl 67 2 []) lit0 ?_
 refine bS (d := x0) (sh_fld1 rfl i0.one) ?_
 refine bS (d := cpl 67 2 x0) (app_cpl h0 (by decide) (by omega)) ?_
 refine bS (d := .agg [x0, .leaf (.string s1), x2, x3, x4, dI x5, x6, x7, x8]) (sh_chkW rfl) ?_
 refine bS (d := x0) (sh_fld1 rfl i0.one) ?_
 refine bS (d := .leaf (.string s1)) (sh_fld1 rfl rfl) ?_
 refine bS (d := x2) (sh_fld1 rfl i2.one) ?_
 refine bS (d := x3) (sh_fld1 rfl i3.one) ?_
 refine bS (d := x4) (sh_fld1 rfl i4.one) ?_
 refine bS (d := dI x5) (sh_fld1 rfl rfl) ?_
 refine bS (d := x6) (sh_fld1 rfl i6.one) ?_
 refine bS (d := x7) (sh_fld1 rfl i7.one) ?_
 refine bS (d := x8) (sh_fld1 rfl i8.one) ?_
 refine bS (d := .sl 74 2 []) lit0 ?_
 refine wp_jumpTo rfl (loop_up (P := fun (i : Nat) => ∀ out : List D, out = (x2.es.take i).map cpU → i ≤ x2.es.length → Goes EE (Holds EE) u7Ts 1 [.sl 74 2 out, dI ((i : Nat) : Int), cpl 67 2 x0, .leaf (.string s1), x2, x3, x4, dI x5, x6, x7, x8] fin) x2.es.length (fun i ih => ?_) 0 [] (by simp) (Nat.zero_le _))
 intro out ho hi
 refine Goes.step' ?_
 have hol : out.length ≤ x2.es.length := by rw [ho]; exact take_len
 show wp _ _ _ u7T1 _
 refine bS (d := dI ((x2.es.length : Nat) : Int)) (sh_len i2) ?_
 refine bS sk_lss ?_
 refine iD rfl (fun c0 => ?_) (fun c0 => ?_)
 ·
  have hlt : i < x2.es.length := by omega
  have he : x2.es[i]? = some x2.es[i] := List.getElem?_eq_getElem hlt
  generalize x2.es[i] = y at he
  obtain ⟨_, rfl, _, _, rfl, ⟨y0, rfl, _⟩, y1, _, rfl, k1, rfl⟩ := elem_ofB h2 he
  have j1 := isSl_ofB k1
  have c_1 := len_leB k1
  refine bS (d := dB true) (sh_inr he) ?_
  refine bS (d := .leaf (.string y0)) (sh_elemP (off := 0) i2 he rfl rfl (by decide)) ?_
  refine bS (d := .sl 3 1 []) lit0 ?_
  refine bS (d := dB true) (sh_inr he) ?_
  refine bS (d := y1) (sh_elemP (off := 1) i2 he rfl j1.one (by decide)) ?_
  refine bS (d := cpl 3 1 y1) (app_cpl k1 (by decide) (by omega)) ?_
  refine bS (d := .agg [.leaf (.string y0), cpl 3 1 y1]) (sh_chkW rfl) ?_
  refine bS (d := .sl 74 2 [.agg [.leaf (.string y0), cpl 3 1 y1]]) (lit1 rfl (by decide)) ?_
  refine bS (d := .sl 74 2 (out ++ [.agg [.leaf (.string y0), cpl 3 1 y1]])) (app_snoc (by decide) (by omega)) ?_
  refine bS (d := dI ((i + 1 : Nat) : Int)) (sh_add (cap_bd' (by omega))) ?_
  exact wp_jumpTo rfl (ih hlt _ (by rw [ho, take_map he]; rfl) hlt)
 ·
  have hout : out = x2.es.map cpU := by rw [ho, take_map_all (by omega)]
  subst hout
  refine bS (d := .sl 63 1 []) lit0 ?_
  exact wp_jumpTo rfl r2
end Go.Proofs.YtbdamohgaleajaaGreatDoor
